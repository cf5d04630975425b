/- part -/
import Derived.Test.YtgdcjlldafmomaaGreatUL
noncomputable section
namespace Go.Proofs.YtgdcjlldafmomaaGreat
open Go.Ax
def f55(a0:bO)(a1:Int)(a2:Int)(a3:Int)(a4:Int):Option (Zh×qj):=
 Option.bind (f18 a0.1) fun y1=>Option.bind (oi a0 a3 a4 (decide (y1=(0:Int)))) fun⟨a,b,c,d,e,f,g,h,i,j⟩=>Option.bind (oj a1 a2 a b c d e f g h i j) fun⟨k,l,m,n,o,p,q,r,s,t,u⟩=>if(!k)=true then(some (([]:Zh),(0,0,0,([]:Ze),()),0,([]:Zx),false,())) else(Option.bind (jO (a1,a2,0,()) l m n o p q r s t u) fun⟨_,_,_,_,_,_,_,_,_,w,v⟩=>some (v,w))
def WU:SS:=⟨37,77,[tP 10 26,(11,.val (.slice 40 bx))],[(26,bV cp)],[]⟩
def c55:aW:=aF G [.cell 10 135,.tmp 11] 55 [.val fp,vI,vI,vI,vI] [] 77 WU [] (.bH (u5 f55))
theorem x55:hS c55:=
 cO (hR [hE 1 [cA 0,cB 1 [] [(75,36),(76,53),(77,54),(78,55)]],hE 2 [cB 2 [(0,36),(1,53),(2,54),(3,55)] []],hE 4 [cB 3 [(0,36),(1,53),(2,54),(3,55)] [(93,47)]]]) (hq Vq (hq F0 (hq F3 (hq zA hz)))) aJ Tryz.call55 Tryz.func55
def f34(a0:bO)(a1:Int)(a2:Int)(a3:Int)(a4:Int):Option (Zh×Bool×qi):=
 Option.bind (f55 a0 a1 a2 a3 a4) fun⟨a,b⟩=>some (a,b.2.2.2.1,b.1)
def WV:SS:=⟨28,68,[tP 10 26,(11,.val (.slice 40 bx)),(12,vB)],[(26,bV gz)],[]⟩
def c34:aW:=aF G [.cell 10 53,.tmp 11,.tmp 12] 34 [.val fp,vI,vI,vI,vI] [] 68 WV [] (.bH (u5 f34))
theorem x34:hS c34:=
 cO (hR [hA 1 0]) (hq x55 hz) aJ Tryz.call34 Tryz.func34
def f65(a0:bO)(a1:Int)(a2:Int)(a3:Int)(a4:Int)(a5:Int):Option (Zh×Bool×qi):=
 if(!decide (a3=(0:Int)))=true then(some (([]:Zh),false,0,0,0,([]:Ze),())) else(Option.bind (f34 a0 a1 a2 a4 a5) fun⟨a,b,c⟩=>some (a,b,c))
def WW:SS:=⟨27,67,[tP 12 28,(13,.val (.slice 40 bx)),(14,vB)],[(28,bV gz)],[]⟩
def c65:aW:=aF G [.cell 12 53,.tmp 13,.tmp 14] 65 [.val fp,vI,vI,vI,vI,vI] [] 67 WW [] (.bH (u6 f65))
theorem x65:hS c65:=
 cO (hR [hA 3 0]) (hq x34 hz) aJ Tryz.call65 Tryz.func65
def f39(a0:bO)(a1:Int)(a2:Int)(a3:Int)(a4:Int)(a5:Int):Option (Zh×Bool×qi):=
 Option.bind (f66 a0.1.1 a1) fun y1=>if 0≤y1 then(if y1<(2:Int) then(if y1=(0:Int) then(Option.bind (f33 a0 a1 a2 a3 a4 a5) fun⟨b,c,a⟩=>some (a,b,c)) else(if y1=(1:Int) then(Option.bind (f65 a0 a1 a2 a3 a4 a5) fun⟨d,e,f⟩=>some (d,e,f)) else none)) else none) else none
def WY:SS:=⟨34,74,[tP 12 28,(13,.val (.slice 40 bx)),(14,vB)],[(28,bV gz)],[]⟩
def c39:aW:=aF G [.cell 12 53,.tmp 13,.tmp 14] 39 [.val fp,vI,vI,vI,vI,vI] [] 74 WY [] (.bH (u6 f39))
theorem x39:hS c39:=
 cO (hR [hE 2 [cA 0,⟨[1,2],[],[],[],[]⟩]]) (hq YD (hq x65 (hq Xd hz))) aJ Tryz.call39 Tryz.func39
def Gj:Nat→Zh×Bool×Ze×Int×Int×mX×qi×Ze→Option (cW (Zh×Bool×Ze) (Ze×Zh×Bool)):=aK fun rec4 ⟨h,d,c,b,a,f,e,g⟩=>if(decide (a<b))=true then(if 0≤a then(if a<(List.length c:Int) then(Option.bind (α:=Bool) (if(!d)=true then(some true) else(if(decide ((List.length e.2.2.2.1:Int)≤(nth (.int .i64) c a)))=true then(some true) else(if 0≤(nth (.int .i64) c a) then(if(nth (.int .i64) c a)<(List.length e.2.2.2.1:Int) then(if 0≤a then(if a<(List.length f.2.2.2.2.2.2.2.2.1:Int) then(some (!decide ((nth (.int .i64) e.2.2.2.1 (nth (.int .i64) c a))=(nth (.int .i64) f.2.2.2.2.2.2.2.2.1 a)))) else none) else none) else none) else none))) fun v5=>if v5=true then(if(List.length g+List.length [nth (.int .i64) c a])*8≤aE then(rec4 (h,d,c,b,aZ (a+1),f,e,g++[nth (.int .i64) c a])) else none) else(rec4 (h,d,c,b,aZ (a+1),f,e,g))) else none) else none) else(some (.brk (h,d,g)))
def f21(a0:bO)(a1:mX)(a2:Int):Option (Ze×Zh×Bool):=
 Option.bind (f39 a0 a1.2.2.1 a1.2.2.2.1 a1.2.2.2.2.1 a1.2.2.2.2.2.1 a2) fun⟨a,b,c⟩=>aG (U:=Zh×Bool×Ze) (Gj (Int.toNat (List.length a1.2.2.2.2.2.2.2.1:Int)+1) (a,b,a1.2.2.2.2.2.2.2.1,(List.length a1.2.2.2.2.2.2.2.1:Int),0,a1,c,([]:Ze))) fun⟨e,f,d⟩=>some (d,e,f)
def WZ:SS:=⟨65,105,[(6,.own 82),(7,.val (.slice 40 bx)),(8,vB)],[(82,.row 3 8 (.int .i64))],[]⟩
def W0:SS:=⟨65,105,[tP 4 20,(6,.own 81),(7,.val (.slice 40 bx)),(8,vB),tP 9 25,(28,.val (.slice 8 (.int .i64))),tI 29,tI 30],[(20,bV ji),(25,bV gz),(81,.row 3 8 (.int .i64))],[]⟩
def W1:SS:=⟨65,105,[(6,.val (.slice 8 (.int .i64))),(7,.val (.slice 40 bx)),(8,vB)],[],[]⟩
def XN:aW:=aF G [.tmp 6,.tmp 7,.tmp 8] 21 [.val fp,.val ji,vI] [] 105 W1 [] (.bH (u3 f21))
theorem W2:hS XN:=
 cO ⟨[hA 1 0,hD 5 56 []],[(8,WZ)],[],[(3,⟨W0,fun u3=>Int.toNat u3.2.2.2.1+1⟩)],[],[]⟩ (hq x39 hz) aJ Tryz.call21 Tryz.func21
def f8(a0:bO)(a1:mX)(a2:Int):Option (Bool×Zh):=
 Option.bind (f20 a1) fun y1=>if(!y1)=true then(some (false,([]:Zh))) else(Option.bind (f21 a0 a1 a2) fun⟨b,c,a⟩=>Option.bind (α:=Bool×Zh) (if a=true then(some (decide ((List.length b:Int)=(0:Int)),c)) else(some (false,c))) fun⟨d,e⟩=>some (d,e))
def W3:SS:=⟨28,68,[(6,vB),(7,.val (.slice 40 bx))],[],[]⟩
def c8:aW:=aF G [.tmp 6,.tmp 7] 8 [.val fp,.val ji,vI] [] 68 W3 [] (.bH (u3 f8))
theorem x8:hS c8:=
 cO (hR [hA 1 0,hA 3 1,(4,⟨[],[],[],some [(6,.bool),(7,.slice 40 bx)],[],[],[]⟩)]) (hq Xo (hq W2 hz)) aJ Tryz.call8 Tryz.func8
def f25(a0:Ze):Option Ze:=
 if(List.length ([]:Ze)+List.length a0)*8≤aE then some a0 else none
def W4:SS:=⟨8,48,[(2,.val (.slice 8 (.int .i64)))],[],[]⟩
def c25:aW:=aF G [.tmp 2] 25 [.val (.slice 8 (.int .i64))] [] 48 W4 [] (.bH (u1 f25))
theorem x25:hS c25:=
 aW.jw tied (H:=⟨[],[],[],[],[],[]⟩) (hold (l:=[]) trivial) rfl (.tmp 0) 3 4 30 30 3 8 (.int .i64) (fun d=>d.1) (fun d=>⟨(.val (.slice 8 (.int .i64)) d.1)::.bot::.bA::List.replicate 5 .bot,List.replicate 48 none,[]⟩) Tryz.call25 Tryz.func25 rfl rfl rfl rfl rfl rfl rfl rfl rfl rfl (by kernel_rfl) (fun _=>by kernel_rfl) (fun _=>by kernel_rfl) (fun _=>rfl) (fun _=>by kernel_rfl) (fun _ _=>by kernel_rfl) (fun d h=>by obtain⟨x,y⟩:=d;cases(h:x= []);kernel_rfl) (fun _=>by kernel_rfl)
def f12(a0:bO)(a1:mX)(a2:Int):Option Ze:=
 Option.bind (f20 a1) fun y1=>if(!y1)=true then(Option.bind (f25 a1.2.2.2.2.2.2.2.1) fun y2=>some y2) else(Option.bind (f21 a0 a1 a2) fun⟨a,_,_⟩=>some a)
def W5:SS:=⟨22,62,[(6,.val (.slice 8 (.int .i64)))],[],[]⟩
def c12:aW:=aF G [.tmp 6] 12 [.val fp,.val ji,vI] [] 62 W5 [] (.bH (u3 f12))
theorem OU:hS c12:=
 cO (hR [hA 1 0,hA 2 1,hA 3 2]) (hq Xo (hq x25 (hq W2 hz))) aJ Tryz.call12 Tryz.func12
def BB(a0:bO)(a1:ZP)(a2:Int)(a3:Int):Option (bO×ZP×ZY):=
 some (a0,a1,a2,a3)
def W6:SS:=⟨10,50,[(8,.func 43 .nil (.cons (pP 21) (.cons (pP 20) (.cons (pP 22) (.cons (pP 23) .nil)))))],[(20,bV fp),(21,.var (.slice 104 ji) (.val (.slice 104 ji))),(22,bI),(23,bI)],[]⟩
def My:aW:=aF G [.tmp 8] 26 [.val fp,.val (.slice 104 ji),vI,vI] [] 50 W6 [20,21,22,23] (.bH (u4 BB))
theorem Mz:hS My:=
 cO (hR []) hz aJ Tryz.call26 Tryz.func26
def qp(l_:Nat)(Y_:mX×Ze×YC×Nat×Nat×ZQ×Unit→Option (Bool×YC×Nat×Nat×ZQ)):Nat→Nat×ZP×Int×Int×NX→Option (cW NX NX):=aK fun abG ⟨s,p,o,n,t,u,v,q,w,r,x,y⟩=>if(decide (n<o))=true then(if 0≤n then(if n<(List.length p:Int) then(Option.bind (f8 q (nth ji p n) r) fun⟨a,_⟩=>if(!a)=true then(abG (s,p,o,aZ (n+1),t,u,v,q,w,r,x,y)) else(Option.bind (f21 q (nth ji p n) x) fun⟨c,_,b⟩=>if(!b)=true then(if s=l_ then(Option.bind (Y_ (nth ji p n,c,t,u,v,y,())) fun⟨d,e,f,g,h⟩=>if(!d)=true then(cn (some (e,f,g,q,w,r,x,h))) else(abG (s,p,o,aZ (n+1),e,f,g,q,w,r,x,h))) else none) else(if(decide ((0:Int)<(List.length c:Int)))=true then(if s=l_ then(Option.bind (Y_ (nth ji p n,c,t,u,v,y,())) fun⟨i,j,k,l,m⟩=>if(!i)=true then(cn (some (j,k,l,q,w,r,x,m))) else(abG (s,p,o,aZ (n+1),j,k,l,q,w,r,x,m))) else none) else(abG (s,p,o,aZ (n+1),t,u,v,q,w,r,x,y))))) else none) else none) else(some (.brk (t,u,v,q,w,r,x,y)))
def BC(l_:Nat)(Y_:mX×Ze×YC×Nat×Nat×ZQ×Unit→Option (Bool×YC×Nat×Nat×ZQ))(a0:Nat)(a1:YC)(a2:Nat)(a3:Nat)(a4:ZQ)(a5:bO)(a6:ZP)(a7:Int)(a8:Int):Option NX:=
 aG (U:=NX) (qp l_ Y_ (Int.toNat (List.length a6:Int)+1) (a0,a6,(List.length a6:Int),0,a1,a2,a3,a5,a6,a7,a8,a4)) fun⟨a,b,c,d,e,f,g,h⟩=>some (a,b,c,d,e,f,g,h)
def W7:SS:=⟨51,91,[],[(0,.lp),(1,.tv (.slice 40 ov) (.own 69)),(3,bV fp),(4,.var (.slice 104 ji) (.val (.slice 104 ji))),(5,bI),(6,bI),(69,.row 59 40 ov)],[]⟩
def W8:SS:=⟨51,91,[(0,.vw),tP 2 3,tP 3 5,tP 4 6,(13,.val (.slice 104 ji)),tI 14,tI 15],[(0,.lp),(1,.tv (.slice 40 ov) (.own 68)),(3,bV fp),(4,.var (.slice 104 ji) (.val (.slice 104 ji))),(5,bI),(6,bI),(68,.row 59 40 ov)],[]⟩
def W9:SS:=⟨51,91,[],[(0,.lp),(1,.tv (.slice 40 ov) (.own 70)),(3,bV fp),(4,.var (.slice 104 ji) (.val (.slice 104 ji))),(5,bI),(6,bI),(70,.row 59 40 ov)],[]⟩
def BD:IC:=⟨[.val ji,.val (.slice 8 (.int .i64))],[(0,.lp),(1,.tv (.slice 40 ov) (.own 2)),(2,.row 59 40 ov)],68,0,[(1,.tv (.slice 40 ov) (.own 42)),(42,.row 59 40 ov)],fun l f=>aF G [] 43 [.vw,pP 4,pP 3,pP 5,pP 6] [(0,.lp),(1,.tv (.slice 40 ov) (.own 2)),(2,.row 59 40 ov),(3,bV fp),(4,.var (.slice 104 ji) (.val (.slice 104 ji))),(5,bI),(6,bI)] 91 W9 [0,1,3,4,5,6,70] (.bH (u9 (BC l f)))⟩
theorem MA:BD.holds Tryz.prog gl:=fun B hB l f hY=>
 aW.of tied (H:=⟨[hA 3 1,hA 5 2,hE 6 [cB 0 [(0,0),(1,1),(2,68)] [(42,67)]]],[],[(0,W7)],[(1,⟨W8,fun u2=>Int.toNat u2.2.2.1+1⟩)],[],[]⟩) (hold (l:=[IC.Y BD l f,c8,XN]) ⟨hY,x8.up rfl (fun _ _=>trivial),W2.up rfl (fun _ _=>trivial),trivial⟩) aJ rfl Tryz.call43 Tryz.func43 rfl rfl rfl rfl (fun _=>by kernel_rfl) (fun _=>by kernel_rfl)
def xU(y_:YC)(b4_0:mX)(b4_1:Ze)(yt:YC)(yj:Nat)(g1:Nat)(c4_0:ZQ):Option (Bool×YC×Nat×Nat×ZQ):=
 DZ yt y_ (if yj=0 then(if g1=y_.gs 1 then(Option.bind (α:=Nat×Nat×ZQ) (if(List.length c4_0+List.length [(b4_0.1,b4_0.2.1,b4_1,())])*40≤aE then(some (0,y_.gs 1,c4_0++[(b4_0.1,b4_0.2.1,b4_1,())])) else none) fun r_=>if r_.2.1=y_.gs 1 then(some (Nat.beq r_.1 0,y_,r_.1,r_.2.1,r_.2.2)) else none) else none) else none)
def f13(a0:bO)(a1:ZP)(a2:Int)(a3:Int):Option ZQ:=
 aG (U:=ZQ) (Option.bind (BB a0 a1 a2 a3) fun⟨a,b,c,e⟩=>sJ fun y3=>Option.bind (BC y3.l (fun d=>xU y3 d.1 d.2.1 d.2.2.1 d.2.2.2.1 d.2.2.2.2.1 d.2.2.2.2.2.1) y3.l y3 0 (y3.gs 1) ([]:ZQ) a b c e) fun⟨f,g,_,_,_,_,_,h⟩=>DZ f y3 (if g=0 then(some (.brk h)) else none)) fun v1=>some v1
def Xa:SS:=⟨28,68,[tP 8 24],[(24,.var (.slice 40 ov) (.own 50)),(48,.sS),(50,.row 59 40 ov)],[.mp 48]⟩
def Xb:SS:=⟨28,68,[tP 8 24,(15,.func 43 .nil (.cons (pP 44) (.cons (pP 31) (.cons (pP 45) (.cons (pP 46) .nil)))))],[(24,.var (.slice 40 ov) (.own 47)),(31,bV fp),(44,.var (.slice 104 ji) (.val (.slice 104 ji))),(45,bI),(46,bI),(47,.row 59 40 ov)],[]⟩
def Xc:SS:=⟨28,68,[],[(1,.var (.slice 40 ov) (.own 42)),(42,.row 59 40 ov)],[]⟩
def OV:SS:=⟨28,68,[tP 8 24],[(24,.var (.slice 40 ov) (.val (.slice 40 ov)))],[]⟩
def c13:aW:=aF G [.cell 8 48] 13 [.val fp,.val (.slice 104 ji),vI,vI] [] 68 OV [] (.bH (u4 f13))
theorem x13:hS c13:=
 cO ⟨[hE 1 [cB 0 [] [(20,31),(21,44),(22,45),(23,46)]]],[(5,Xa)],[],[],[],[(4,⟨0,48,49,[(1,.slice 40 ov)],[(24,1)],[],[(0,49),(1,24),(2,47),(3,31),(4,44),(5,45),(6,46)],[(70,50)],Xb,Xc⟩)]⟩ (hq Mz hz) (uQ (L:=[BD]) ⟨MA,trivial⟩) Tryz.call13 Tryz.func13
end Go.Proofs.YtgdcjlldafmomaaGreat
