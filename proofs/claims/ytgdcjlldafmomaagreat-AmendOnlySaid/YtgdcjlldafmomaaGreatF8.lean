/- Made by program (dec6.py): walks -/
import Derived.Test.YtgdcjlldafmomaaGreatUL
noncomputable section
namespace Go.Proofs.YtgdcjlldafmomaaGreat
open Go.Ax
def f55(a0:bL)(a1:Int)(a2:Int)(a3:Int)(a4:Int):Option (Zh×uZ):=
 Option.bind (f18 a0.1) fun y1=>Option.bind (nG a0 a3 a4 (decide (y1=(0:Int)))) fun⟨a,b,c,d,e,f,g,h,i,j⟩=>Option.bind (ri a1 a2 a b c d e f g h i j) fun⟨k,l,m,n,o,p,q,r,s,t,u⟩=>if(!k)=true then(some (([]:Zh),(0,0,0,([]:Zf),()),0,([]:ZB),false,())) else(Option.bind (gZ (a1,a2,0,()) l m n o p q r s t u) fun⟨_,_,_,_,_,_,_,_,_,w,v⟩=>some (v,w))
def Vf:SS:=⟨37,77,[tP 10 26,(11,.val (.slice 40 aZ))],[(26,bV bU)],[]⟩
def Y5:aT:=aD G [.cell 10 135,.tmp 11] 55 [.val dF,vI,vI,vI,vI] [] 77 Vf [] (.bx (u5 f55))
theorem Y6:hS Y5:=
 cO (hR [hE 1 [cA 0,cB 1 [] [(75,36),(76,53),(77,54),(78,55)]],hE 2 [cB 2 [(0,36),(1,53),(2,54),(3,55)] []],hE 4 [cB 3 [(0,36),(1,53),(2,54),(3,55)] [(93,47)]]]) (hq TQ (hq D7 (hq D8 (hq xh hz)))) aF Tryz.call55 Tryz.func55
def f34(a0:bL)(a1:Int)(a2:Int)(a3:Int)(a4:Int):Option (Zh×Bool×nD):=
 Option.bind (f55 a0 a1 a2 a3 a4) fun⟨a,b⟩=>some (a,b.2.2.2.1,b.1)
def Vg:SS:=⟨28,68,[tP 10 26,(11,.val (.slice 40 aZ)),(12,vB)],[(26,bV eW)],[]⟩
def Y7:aT:=aD G [.cell 10 53,.tmp 11,.tmp 12] 34 [.val dF,vI,vI,vI,vI] [] 68 Vg [] (.bx (u5 f34))
theorem V9:hS Y7:=
 cO (hR [hA 1 0]) (hq Y6 hz) aF Tryz.call34 Tryz.func34
def f65(a0:bL)(a1:Int)(a2:Int)(a3:Int)(a4:Int)(a5:Int):Option (Zh×Bool×nD):=
 if(!decide (a3=(0:Int)))=true then(some (([]:Zh),false,0,0,0,([]:Zf),())) else(Option.bind (f34 a0 a1 a2 a4 a5) fun⟨a,b,c⟩=>some (a,b,c))
def Vh:SS:=⟨27,67,[tP 12 28,(13,.val (.slice 40 aZ)),(14,vB)],[(28,bV eW)],[]⟩
def Y8:aT:=aD G [.cell 12 53,.tmp 13,.tmp 14] 65 [.val dF,vI,vI,vI,vI,vI] [] 67 Vh [] (.bx (u6 f65))
theorem Y9:hS Y8:=
 cO (hR [hA 3 0]) (hq V9 hz) aF Tryz.call65 Tryz.func65
def f39(a0:bL)(a1:Int)(a2:Int)(a3:Int)(a4:Int)(a5:Int):Option (Zh×Bool×nD):=
 Option.bind (f66 a0.1.1 a1) fun y1=>if 0≤y1 then(if y1<(2:Int) then(if y1=(0:Int) then(Option.bind (f33 a0 a1 a2 a3 a4 a5) fun⟨b,c,a⟩=>some (a,b,c)) else(if y1=(1:Int) then(Option.bind (f65 a0 a1 a2 a3 a4 a5) fun⟨d,e,f⟩=>some (d,e,f)) else none)) else none) else none
def Vi:SS:=⟨34,74,[tP 12 28,(13,.val (.slice 40 aZ)),(14,vB)],[(28,bV eW)],[]⟩
def Z0:aT:=aD G [.cell 12 53,.tmp 13,.tmp 14] 39 [.val dF,vI,vI,vI,vI,vI] [] 74 Vi [] (.bx (u6 f39))
theorem Z1:hS Z0:=
 cO (hR [hE 2 [cA 0,⟨[1,2],[],[],[],[]⟩]]) (hq W5 (hq Y9 (hq NN hz))) aF Tryz.call39 Tryz.func39
def Ek:Nat→Zh×Bool×Zf×Int×Int×jJ×nD×Zf→Option (cz (Zh×Bool×Zf) (Zf×Zh×Bool)):=aH fun rec4 ⟨h,d,c,b,a,f,e,g⟩=>if(decide (a<b))=true then(if 0≤a then(if a<(List.length c:Int) then(Option.bind (α:=Bool) (if(!d)=true then(some true) else(if(decide ((List.length e.2.2.2.1:Int)≤(nth (.int .i64) c a)))=true then(some true) else(if 0≤(nth (.int .i64) c a) then(if(nth (.int .i64) c a)<(List.length e.2.2.2.1:Int) then(if 0≤a then(if a<(List.length f.2.2.2.2.2.2.2.2.1:Int) then(some (!decide ((nth (.int .i64) e.2.2.2.1 (nth (.int .i64) c a))=(nth (.int .i64) f.2.2.2.2.2.2.2.2.1 a)))) else none) else none) else none) else none))) fun v5=>if v5=true then(if(List.length g+List.length [nth (.int .i64) c a])*8≤aC then(rec4 (h,d,c,b,aV (a+1),f,e,g++[nth (.int .i64) c a])) else none) else(rec4 (h,d,c,b,aV (a+1),f,e,g))) else none) else none) else(some (.brk (h,d,g)))
def f21(a0:bL)(a1:jJ)(a2:Int):Option (Zf×Zh×Bool):=
 Option.bind (f39 a0 a1.2.2.1 a1.2.2.2.1 a1.2.2.2.2.1 a1.2.2.2.2.2.1 a2) fun⟨a,b,c⟩=>aE (U:=Zh×Bool×Zf) (Ek (Int.toNat (List.length a1.2.2.2.2.2.2.2.1:Int)+1) (a,b,a1.2.2.2.2.2.2.2.1,(List.length a1.2.2.2.2.2.2.2.1:Int),0,a1,c,([]:Zf))) fun⟨e,f,d⟩=>some (d,e,f)
def Vj:SS:=⟨65,105,[(6,.own 82),(7,.val (.slice 40 aZ)),(8,vB)],[(82,.row 3 8 (.int .i64))],[]⟩
def Vk:SS:=⟨65,105,[tP 4 20,(6,.own 81),(7,.val (.slice 40 aZ)),(8,vB),tP 9 25,(28,.val (.slice 8 (.int .i64))),tI 29,tI 30],[(20,bV fg),(25,bV eW),(81,.row 3 8 (.int .i64))],[]⟩
def Vl:SS:=⟨65,105,[(6,.val (.slice 8 (.int .i64))),(7,.val (.slice 40 aZ)),(8,vB)],[],[]⟩
def Wa:aT:=aD G [.tmp 6,.tmp 7,.tmp 8] 21 [.val dF,.val fg,vI] [] 105 Vl [] (.bx (u3 f21))
theorem Vm:hS Wa:=
 cO ⟨[hA 1 0,hD 5 56 []],[(8,Vj)],[],[(3,⟨Vk,fun u3=>Int.toNat u3.2.2.2.1+1⟩)],[],[]⟩ (hq Z1 hz) aF Tryz.call21 Tryz.func21
def f8(a0:bL)(a1:jJ)(a2:Int):Option (Bool×Zh):=
 Option.bind (f20 a1) fun y1=>if(!y1)=true then(some (false,([]:Zh))) else(Option.bind (f21 a0 a1 a2) fun⟨b,c,a⟩=>Option.bind (α:=Bool×Zh) (if a=true then(some (decide ((List.length b:Int)=(0:Int)),c)) else(some (false,c))) fun⟨d,e⟩=>some (d,e))
def Vn:SS:=⟨28,68,[(6,vB),(7,.val (.slice 40 aZ))],[],[]⟩
def c8:aT:=aD G [.tmp 6,.tmp 7] 8 [.val dF,.val fg,vI] [] 68 Vn [] (.bx (u3 f8))
theorem x8:hS c8:=
 cO (hR [hA 1 0,hA 3 1,(4,⟨[],[],[],some [(6,.bool),(7,.slice 40 aZ)],[],[],[]⟩)]) (hq VI (hq Vm hz)) aF Tryz.call8 Tryz.func8
def f25(a0:Zf):Option Zf:=
 if(List.length ([]:Zf)+List.length a0)*8≤aC then some a0 else none
def Vo:SS:=⟨8,48,[(2,.val (.slice 8 (.int .i64)))],[],[]⟩
def Z2:aT:=aD G [.tmp 2] 25 [.val (.slice 8 (.int .i64))] [] 48 Vo [] (.bx (u1 f25))
theorem Z3:hS Z2:=
 aT.gL tied (H:=⟨[],[],[],[],[],[]⟩) (hold (l:=[]) trivial) rfl (.tmp 0) 3 4 30 30 3 8 (.int .i64) (fun d=>d.1) (fun d=>⟨(.val (.slice 8 (.int .i64)) d.1)::.bot::.aX::List.replicate 5 .bot,List.replicate 48 none,[]⟩) Tryz.call25 Tryz.func25 rfl rfl rfl rfl rfl rfl rfl rfl rfl rfl (by kernel_rfl) (fun _=>by kernel_rfl) (fun _=>by kernel_rfl) (fun _=>rfl) (fun _=>by kernel_rfl) (fun _ _=>by kernel_rfl) (fun d h=>by obtain⟨x,y⟩:=d;cases(h:x= []);kernel_rfl) (fun _=>by kernel_rfl)
def f12(a0:bL)(a1:jJ)(a2:Int):Option Zf:=
 Option.bind (f20 a1) fun y1=>if(!y1)=true then(Option.bind (f25 a1.2.2.2.2.2.2.2.1) fun y2=>some y2) else(Option.bind (f21 a0 a1 a2) fun⟨a,_,_⟩=>some a)
def Vp:SS:=⟨22,62,[(6,.val (.slice 8 (.int .i64)))],[],[]⟩
def Z4:aT:=aD G [.tmp 6] 12 [.val dF,.val fg,vI] [] 62 Vp [] (.bx (u3 f12))
theorem Nz:hS Z4:=
 cO (hR [hA 1 0,hA 2 1,hA 3 2]) (hq VI (hq Z3 (hq Vm hz))) aF Tryz.call12 Tryz.func12
def zA(a0:bL)(a1:ZC)(a2:Int)(a3:Int):Option (bL×ZC×ZY):=
 some (a0,a1,a2,a3)
def Vq:SS:=⟨10,50,[(8,.func 43 .nil (.cons (pP 21) (.cons (pP 20) (.cons (pP 22) (.cons (pP 23) .nil)))))],[(20,bV dF),(21,.var (.slice 104 fg) (.val (.slice 104 fg))),(22,bI),(23,bI)],[]⟩
def KV:aT:=aD G [.tmp 8] 26 [.val dF,.val (.slice 104 fg),vI,vI] [] 50 Vq [20,21,22,23] (.bx (u4 zA))
theorem KW:hS KV:=
 cO (hR []) hz aF Tryz.call26 Tryz.func26
def nK(l_:Nat)(Y_:jJ×Zf×YC×Nat×Nat×ZD×Unit→Option (Bool×YC×Nat×Nat×ZD)):Nat→Nat×ZC×Int×Int×Mi→Option (cz Mi Mi):=aH fun Z9 ⟨s,p,o,n,t,u,v,q,w,r,x,y⟩=>if(decide (n<o))=true then(if 0≤n then(if n<(List.length p:Int) then(Option.bind (f8 q (nth fg p n) r) fun⟨a,_⟩=>if(!a)=true then(Z9 (s,p,o,aV (n+1),t,u,v,q,w,r,x,y)) else(Option.bind (f21 q (nth fg p n) x) fun⟨c,_,b⟩=>if(!b)=true then(if s=l_ then(Option.bind (Y_ (nth fg p n,c,t,u,v,y,())) fun⟨d,e,f,g,h⟩=>if(!d)=true then(bP (some (e,f,g,q,w,r,x,h))) else(Z9 (s,p,o,aV (n+1),e,f,g,q,w,r,x,h))) else none) else(if(decide ((0:Int)<(List.length c:Int)))=true then(if s=l_ then(Option.bind (Y_ (nth fg p n,c,t,u,v,y,())) fun⟨i,j,k,l,m⟩=>if(!i)=true then(bP (some (j,k,l,q,w,r,x,m))) else(Z9 (s,p,o,aV (n+1),j,k,l,q,w,r,x,m))) else none) else(Z9 (s,p,o,aV (n+1),t,u,v,q,w,r,x,y))))) else none) else none) else(some (.brk (t,u,v,q,w,r,x,y)))
def zB(l_:Nat)(Y_:jJ×Zf×YC×Nat×Nat×ZD×Unit→Option (Bool×YC×Nat×Nat×ZD))(a0:Nat)(a1:YC)(a2:Nat)(a3:Nat)(a4:ZD)(a5:bL)(a6:ZC)(a7:Int)(a8:Int):Option Mi:=
 aE (U:=Mi) (nK l_ Y_ (Int.toNat (List.length a6:Int)+1) (a0,a6,(List.length a6:Int),0,a1,a2,a3,a5,a6,a7,a8,a4)) fun⟨a,b,c,d,e,f,g,h⟩=>some (a,b,c,d,e,f,g,h)
def Vr:SS:=⟨51,91,[],[(0,.lp),(1,.tv (.slice 40 gH) (.own 69)),(3,bV dF),(4,.var (.slice 104 fg) (.val (.slice 104 fg))),(5,bI),(6,bI),(69,.row 59 40 gH)],[]⟩
def Vs:SS:=⟨51,91,[(0,.sH),tP 2 3,tP 3 5,tP 4 6,(13,.val (.slice 104 fg)),tI 14,tI 15],[(0,.lp),(1,.tv (.slice 40 gH) (.own 68)),(3,bV dF),(4,.var (.slice 104 fg) (.val (.slice 104 fg))),(5,bI),(6,bI),(68,.row 59 40 gH)],[]⟩
def Vt:SS:=⟨51,91,[],[(0,.lp),(1,.tv (.slice 40 gH) (.own 70)),(3,bV dF),(4,.var (.slice 104 fg) (.val (.slice 104 fg))),(5,bI),(6,bI),(70,.row 59 40 gH)],[]⟩
def zC:IC:=⟨[.val fg,.val (.slice 8 (.int .i64))],[(0,.lp),(1,.tv (.slice 40 gH) (.own 2)),(2,.row 59 40 gH)],68,0,[(1,.tv (.slice 40 gH) (.own 42)),(42,.row 59 40 gH)],fun l f=>aD G [] 43 [.sH,pP 4,pP 3,pP 5,pP 6] [(0,.lp),(1,.tv (.slice 40 gH) (.own 2)),(2,.row 59 40 gH),(3,bV dF),(4,.var (.slice 104 fg) (.val (.slice 104 fg))),(5,bI),(6,bI)] 91 Vt [0,1,3,4,5,6,70] (.bx (u9 (zB l f)))⟩
theorem KX:zC.holds Tryz.prog gl:=fun B hB l f hY=>
 aT.of tied (H:=⟨[hA 3 1,hA 5 2,hE 6 [cB 0 [(0,0),(1,1),(2,68)] [(42,67)]]],[],[(0,Vr)],[(1,⟨Vs,fun u2=>Int.toNat u2.2.2.1+1⟩)],[],[]⟩) (hold (l:=[IC.Y zC l f,c8,Wa]) ⟨hY,x8.up rfl (fun _ _=>trivial),Vm.up rfl (fun _ _=>trivial),trivial⟩) aF rfl Tryz.call43 Tryz.func43 rfl rfl rfl rfl (fun _=>by kernel_rfl) (fun _=>by kernel_rfl)
def vr(y_:YC)(b4_0:jJ)(b4_1:Zf)(yt:YC)(yj:Nat)(g1:Nat)(c4_0:ZD):Option (Bool×YC×Nat×Nat×ZD):=
 Ca yt y_ (if yj=0 then(if g1=y_.gs 1 then(Option.bind (α:=Nat×Nat×ZD) (if(List.length c4_0+List.length [(b4_0.1,b4_0.2.1,b4_1,())])*40≤aC then(some (0,y_.gs 1,c4_0++[(b4_0.1,b4_0.2.1,b4_1,())])) else none) fun r_=>if r_.2.1=y_.gs 1 then(some (Nat.beq r_.1 0,y_,r_.1,r_.2.1,r_.2.2)) else none) else none) else none)
def f13(a0:bL)(a1:ZC)(a2:Int)(a3:Int):Option ZD:=
 aE (U:=ZD) (Option.bind (zA a0 a1 a2 a3) fun⟨a,b,c,e⟩=>pX fun y3=>Option.bind (zB y3.l (fun d=>vr y3 d.1 d.2.1 d.2.2.1 d.2.2.2.1 d.2.2.2.2.1 d.2.2.2.2.2.1) y3.l y3 0 (y3.gs 1) ([]:ZD) a b c e) fun⟨f,g,_,_,_,_,_,h⟩=>Ca f y3 (if g=0 then(some (.brk h)) else none)) fun v1=>some v1
def Vu:SS:=⟨28,68,[tP 8 24],[(24,.var (.slice 40 gH) (.own 50)),(48,.qf),(50,.row 59 40 gH)],[.mp 48]⟩
def Vv:SS:=⟨28,68,[tP 8 24,(15,.func 43 .nil (.cons (pP 44) (.cons (pP 31) (.cons (pP 45) (.cons (pP 46) .nil)))))],[(24,.var (.slice 40 gH) (.own 47)),(31,bV dF),(44,.var (.slice 104 fg) (.val (.slice 104 fg))),(45,bI),(46,bI),(47,.row 59 40 gH)],[]⟩
def Vw:SS:=⟨28,68,[],[(1,.var (.slice 40 gH) (.own 42)),(42,.row 59 40 gH)],[]⟩
def Ng:SS:=⟨28,68,[tP 8 24],[(24,.var (.slice 40 gH) (.val (.slice 40 gH)))],[]⟩
def Z5:aT:=aD G [.cell 8 48] 13 [.val dF,.val (.slice 104 fg),vI,vI] [] 68 Ng [] (.bx (u4 f13))
theorem Z6:hS Z5:=
 cO ⟨[hE 1 [cB 0 [] [(20,31),(21,44),(22,45),(23,46)]]],[(5,Vu)],[],[],[],[(4,⟨0,48,49,[(1,.slice 40 gH)],[(24,1)],[],[(0,49),(1,24),(2,47),(3,31),(4,44),(5,45),(6,46)],[(70,50)],Vv,Vw⟩)]⟩ (hq KW hz) (sh (L:=[zC]) ⟨KX,trivial⟩) Tryz.call13 Tryz.func13
end Go.Proofs.YtgdcjlldafmomaaGreat
