/- part -/
import Derived.Test.YtgdcjlldafmomaaGreatUA
noncomputable section
namespace Go.Proofs.YtgdcjlldafmomaaGreat
open Go.Ax
def f78(a0:dt)(a1:Int)(a2:Int):Option (Bool×jg):=
 aG (U:=Int×Int×dt×Int×Int×Int×Zg×Int) (Option.bind (α:=Bool) (if(decide (a1<(0:Int)))=true then(some true) else(if(decide ((List.length a0.1.2.2.1:Int)≤a1))=true then(some true) else(if(decide (a2<(0:Int)))=true then(some true) else(if 0≤a1 then(if a1<(List.length a0.1.2.2.1:Int) then(some (decide ((List.length (nth bG a0.1.2.2.1 a1).2.2.2.2.1:Int)≤a2))) else none) else none)))) fun v2=>if v2=true then(bZ (some (false,0,0,0,[],0,([]:ZF),()))) else(some (.brk (a1,a2,a0,0,0,0,[],0)))) fun⟨a,c,b,_,_,_,_,_⟩=>if 0≤a then(if a<(List.length b.1.2.2.1:Int) then(if 0≤c then(if c<(List.length (nth bG b.1.2.2.1 a).2.2.2.2.1:Int) then(some (true,(nth dY (nth bG b.1.2.2.1 a).2.2.2.2.1 c).2.1)) else none) else none) else none) else none
def s32:SS:=⟨46,86,[tI 1,tI 2,tP 3 19,tP 6 22],[(19,bV de),(22,.var lE (.cons vI (.cons vI (.cons vI (.cons (.val .str) (.cons vI (.cons .bA .nil)))))))],[]⟩
def s33:SS:=⟨46,86,[tP 6 22,(7,vB)],[(22,bV lE)],[]⟩
def c78:aW:=aF G [.cell 6 96,.tmp 7] 78 [.val de,vI,vI] [] 86 s33 [] (.bE (u3 f78))
theorem Pq:hS c78:=
 cO ⟨[hD 1 33 []],[(3,s32)],[],[],[],[]⟩ hz aI Tryz.call78 Tryz.func78
def Ja:Option (List (Option Nat)):=
 some [none,some 176,some 177,some 178,some 179]
def s34:SS:=⟨2,42,[tP 0 16],[(16,.var (.fns 5) (.val (.fns 5)))],[]⟩
def Jb:aW:=aF G [.cell 0 223] 117 [] [] 42 s34 [] (.bE (fun _=>Ja))
theorem Jc:hS Jb:=
 cO (hR []) hz aI Tryz.call117 Tryz.func117
def xz:Nat→ZF×Int×Int×List (Zg×Bool)→Zt:=aK fun acK ⟨c,b,a,d⟩=>if(decide (a<b))=true then(if 0≤a then(if a<(List.length c:Int) then(if(bw .str .bool (nth .str c a) d)=true then(bZ (some false)) else(if List.length d+1≤aE then(acK (c,b,aZ (a+1),bB .str (nth .str c a) true d)) else none)) else none) else none) else(some (.brk ()))
def f180(a0:ZF):Zl:=
 aG (U:=Unit) (xz (Int.toNat (List.length a0:Int)+1) (a0,(List.length a0:Int),0,([]:List (Zg×Bool)))) fun _=>some true
def s35:SS:=⟨21,61,[],[],[]⟩
def s36:SS:=⟨21,61,[(3,.mp 24),(9,.val (.slice 16 .str)),tI 10,tI 11],[(24,.map .str .bool)],[]⟩
def s37:SS:=⟨21,61,[(2,vB)],[],[]⟩
def TE:aW:=aF G [.tmp 2] 180 [.val (.slice 16 .str)] [] 61 s37 [] (.bE (u1 f180))
theorem TF:hS TE:=
 cO ⟨[],[(9,s35)],[],[(3,⟨s36,fun u2=>Int.toNat u2.2.1+1⟩)],[],[]⟩ hz aI Tryz.call180 Tryz.func180
def f179(a0:jg)(_a1:Int):Zl:=
 Option.bind (α:=Bool) (if(decide (a0.2.1=(0:Int)))=true then(if(decide (a0.2.2.1=(aZ ((List.length a0.2.2.2.2.2.1:Int) -(1:Int)))))=true then(if(decide (a0.2.2.2.2.1=(-1:Int)))=true then(if(decide ((1:Int)≤(List.length a0.2.2.2.2.2.1:Int)))=true then(if(decide ((List.length a0.2.2.2.2.2.1:Int)≤(16:Int)))=true then(Option.bind (f180 a0.2.2.2.2.2.1) fun y1=>some y1) else(some false)) else(some false)) else(some false)) else(some false)) else(some false)) fun v2=>some v2
def s38:SS:=⟨39,79,[(4,vB)],[],[]⟩
def TH:aW:=aF G [.tmp 4] 179 [.val lE,vI] [] 79 s38 [] (.bE (u2 f179))
theorem TI:hS TH:=
 cO (hR [hD 1 4 [cA 0]]) (hq TF hz) aI Tryz.call179 Tryz.func179
def f178(a0:jg)(_a1:Int):Zl:=
 Option.bind (α:=Bool) (if(decide (a0.2.1=(0:Int)))=true then(if(decide (a0.2.2.1=(4095:Int)))=true then(if(decide (a0.2.2.2.2.1=(-1:Int)))=true then(some (decide ((List.length a0.2.2.2.2.2.1:Int)=(0:Int)))) else(some false)) else(some false)) else(some false)) fun v1=>some v1
def Ys:SS:=⟨24,64,[(4,vB)],[],[]⟩
def TJ:aW:=aF G [.tmp 4] 178 [.val lE,vI] [] 64 Ys [] (.bE (u2 f178))
theorem TK:hS TJ:=
 cO (hR [hD 1 4 []]) hz aI Tryz.call178 Tryz.func178
def f177(a0:jg)(_a1:Int):Zl:=
 Option.bind (α:=Bool) (if(decide (a0.2.1=(0:Int)))=true then(if(decide (a0.2.2.1=(1023:Int)))=true then(if(decide (a0.2.2.2.2.1=(-1:Int)))=true then(some (decide ((List.length a0.2.2.2.2.2.1:Int)=(0:Int)))) else(some false)) else(some false)) else(some false)) fun v1=>some v1
def TL:aW:=aF G [.tmp 4] 177 [.val lE,vI] [] 64 Ys [] (.bE (u2 f177))
theorem TM:hS TL:=
 cO (hR [hD 1 4 []]) hz aI Tryz.call177 Tryz.func177
def f176(a0:jg)(a1:Int):Zl:=
 Option.bind (α:=Bool) (if(decide ((0:Int)≤a0.2.1))=true then(if(decide (a0.2.1≤a0.2.2.1))=true then(if(decide (a0.2.2.1≤(1048576:Int)))=true then(if(decide ((-1:Int)≤a0.2.2.2.2.1))=true then(if(decide (a0.2.2.2.2.1<a1))=true then(some (decide ((List.length a0.2.2.2.2.2.1:Int)=(0:Int)))) else(some false)) else(some false)) else(some false)) else(some false)) else(some false)) fun v1=>some v1
def s40:SS:=⟨37,77,[(4,vB)],[],[]⟩
def TN:aW:=aF G [.tmp 4] 176 [.val lE,vI] [] 77 s40 [] (.bE (u2 f176))
theorem TO:hS TN:=
 cO (hR [hD 1 4 []]) hz aI Tryz.call176 Tryz.func176
def f79(a0:dt)(a1:jg):Zl:=
 aG (U:=dt×jg) (Option.bind (α:=Bool) (if(decide (a1.1<(1:Int)))=true then(some true) else(some (decide ((4:Int)<a1.1)))) fun v2=>if v2=true then(bZ (some false)) else(some (.brk (a0,a1)))) fun⟨b,a⟩=>if 0≤a.1 then(if a.1<(5:Int) then(if a.1=(0:Int) then none else(if a.1=(1:Int) then(Option.bind (f176 a (List.length b.1.2.1:Int)) fun y6=>some y6) else(if a.1=(2:Int) then(Option.bind (f177 a (List.length b.1.2.1:Int)) fun y5=>some y5) else(if a.1=(3:Int) then(Option.bind (f178 a (List.length b.1.2.1:Int)) fun y4=>some y4) else(if a.1=(4:Int) then(Option.bind (f179 a (List.length b.1.2.1:Int)) fun y3=>some y3) else none))))) else none) else none
def s41:SS:=⟨23,63,[tP 2 18,tP 3 19],[(18,bV de),(19,bV lE)],[]⟩
def s42:SS:=⟨23,63,[(4,vB)],[],[]⟩
def c79:aW:=aF G [.tmp 4] 79 [.val de,.val lE] [] 63 s42 [] (.bE (u2 f79))
theorem TP:hS c79:=
 cO ⟨[hD 1 12 [],hE 3 [cA 0,⟨[1,2,3,4],[],[],[],[]⟩]],[(3,s41)],[],[],[],[]⟩ (hq Jc (hq TI (hq TK (hq TM (hq TO hz))))) aI Tryz.call79 Tryz.func79
def f54(a0:cz)(a1:Int)(a2:Int)(a3:Int):Zl:=
 Option.bind (f78 (a0,()) a1 a2) fun⟨a,b⟩=>Option.bind (α:=Bool) (if a=true then(Option.bind (f79 (a0,()) b) fun y2=>if y2=true then(if(decide (b.2.1≤a3))=true then(some (decide (a3≤b.2.2.1))) else(some false)) else(some false)) else(some false)) fun v3=>some v3
def s43:SS:=⟨38,78,[(8,vB)],[],[]⟩
def c54:aW:=aF G [.tmp 8] 54 [.val gE,vI,vI,vI] [] 78 s43 [] (.bE (u4 f54))
theorem Yt:hS c54:=
 cO (hR [hA 2 0,hD 3 8 [cA 1]]) (hq Pq (hq TP hz)) aI Tryz.call54 Tryz.func54
def TQ(a0:Int)(a1:Int)(a2:Int)(a3:Int)(a4:Int)(a5:bT)(a6:Int)(a7:cz):Option (Int×Bool×Int×Int×Int×Int×bT×Int×cz×Zi):=
 Option.bind (f52 a1 a2 a3 a0) fun y1=>if List.length [(y1,a4,aZ (a4+1),())]*40≤aE then(Option.bind (Ab a5.2.1 y1 a4 a6) fun⟨b,a⟩=>Option.bind (α:=Int×Bool) (if a=true then(Option.bind (f54 a7 a1 a0 b) fun y3=>some (b,y3)) else(some (b,false))) fun⟨c,d⟩=>some (c,d,a1,a2,a3,a4,a5,a6,a7,[(y1,a4,aZ (a4+1),())])) else none
def qf(a0:Int)(a1:Int)(a2:Int)(a3:Int)(a4:Int)(a5:bT)(a6:Int)(a7:cz)(a8:Zi):Option (Int×Bool×Int×Int×Int×Int×bT×Int×cz×Zi):=
 Option.bind (f52 a1 a2 a3 a0) fun y1=>if(List.length a8+List.length [(y1,a4,aZ (a4+1),())])*40≤aE then(Option.bind (Ab a5.2.1 y1 a4 a6) fun⟨b,a⟩=>Option.bind (α:=Int×Bool) (if a=true then(Option.bind (f54 a7 a1 a0 b) fun y3=>some (b,y3)) else(some (b,false))) fun⟨c,d⟩=>some (c,d,a1,a2,a3,a4,a5,a6,a7,a8++[(y1,a4,aZ (a4+1),())])) else none
def s45:SS:=⟨44,84,[tI 10,(11,vB)],[(0,bI),(1,bI),(2,bI),(3,.var (.slice 40 bC) (.own 41)),(4,bI),(5,bV fb),(6,bI),(7,bV gE),(41,.row 74 40 bC)],[]⟩
def Mg:aW:=aF G [.tmp 10,.tmp 11] 51 [vI,pP 0,pP 1,pP 2,pP 3,pP 4,pP 5,pP 6,pP 7] [(0,bI),(1,bI),(2,bI),(3,.var (.slice 40 bC) (.own 8)),(4,bI),(5,bV fb),(6,bI),(7,bV gE),(8,.row 74 40 bC)] 84 s45 [0,1,2,3,4,5,6,7,41] (.bE (u9 qf))
theorem Mh:hS Mg:=
 cO (hR [hA 1 0,hA 3 1,(4,⟨[],[],[⟨[2],[],[],[],[]⟩],some [(10,.int .i64),(11,.bool)],[],[],[]⟩)]) (hq x52 (hq Wf (hq Yt hz))) aI Tryz.call51 Tryz.func51
def BC:Nat→Int×bT×Int×Int×Int×Int×Int×Int×Int×Int×cz×Ze×Zi→Option (cQ (Int×Int×Int×Int×Int×Int×Ze×Zi) (Bool×uC×Zi)):=aK fun rec7 ⟨m,q,k,n,o,p,r,u,v,w,l,t,s⟩=>if 0≤k then(if k<(List.length l.2.2.1:Int) then(if(decide (m<(List.length (nth bG l.2.2.1 k).2.2.2.2.1:Int)))=true then(Option.bind (qf m k n o p q r l s) fun⟨c,a,e,f,g,h,d,i,j,b⟩=>if(!a)=true then(bZ (some (false,(0,0,0,([]:Ze),()),b))) else(if(List.length t+List.length [c])*8≤aE then(rec7 (aZ (m+1),d,e,f,g,h,i,u,v,w,j,t++[c],b)) else none)) else(some (.brk (k,n,o,u,v,w,t,s)))) else none) else none
def f33(a0:bT)(a1:Int)(a2:Int)(a3:Int)(a4:Int)(a5:Int):Option (Bool×uC×Zi):=
 aG (U:=bT×Int×Int×Int×Int×Int×Int×Int×Int×cz) (Option.bind (α:=Bool) (Option.bind (f49 a0.1.1 a1) fun y2=>if(!y2)=true then(some true) else(Option.bind (f50 a2 a3) fun y3=>if(!y3)=true then(some true) else(if(decide (a4<(0:Int)))=true then(some true) else(some (decide ((1024:Int)≤a4)))))) fun v4=>if v4=true then(bZ (some (false,(0,0,0,([]:Ze),()),([]:Zi)))) else(some (.brk (a0,a1,a2,a3,a4,a5,0,0,0,a0.1.1)))) fun⟨a,b,c,d,e,f,g,h,i,j⟩=>aG (U:=Int×Int×Int×Int×Int×Int×Ze×Zi) (BC gD (1,a,b,c,d,e,f,g,h,i,j,[c],([]:Zi))) fun⟨k,l,m,_,_,_,n,o⟩=>some (true,(k,l,m,n,()),o)
def s46:SS:=⟨77,117,[tP 6 22,tP 7 23,tP 8 24,tP 9 25,tP 10 26,tP 11 27,tP 12 28,tP 13 29,tP 15 31],[(22,bV fb),(23,bI),(24,bI),(25,bI),(26,bI),(27,bI),(28,.var fL (.cons vI (.cons vI (.cons vI (.cons .bA .nil))))),(29,.var (.slice 40 bC) .bA),(31,bV gE)],[]⟩
def s47:SS:=⟨77,117,[tP 7 23,tP 8 24,tP 9 25,tP 12 28,tP 13 29,(17,.own 95)],[(23,bI),(24,bI),(25,bI),(28,.var fL (.cons vI (.cons vI (.cons vI (.cons .bA .nil))))),(29,.var (.slice 40 bC) (.own 96)),(95,.row 3 8 (.int .i64)),(96,.row 74 40 bC)],[]⟩
def s48:SS:=⟨77,117,[tP 7 23,tP 8 24,tP 9 25,tP 12 28,tP 13 29,tP 15 31,(16,.func 51 .nil (.cons (pP 23) (.cons (pP 24) (.cons (pP 25) (.cons (pP 29) (.cons (pP 26) (.cons (pP 22) (.cons (pP 27) (.cons (pP 31) .nil))))))))),(17,.own 93),tI 18],[(22,bV fb),(23,bI),(24,bI),(25,bI),(26,bI),(27,bI),(28,.var fL (.cons vI (.cons vI (.cons vI (.cons .bA .nil))))),(29,.var (.slice 40 bC) (.own 94)),(31,bV gE),(93,.row 3 8 (.int .i64)),(94,.row 74 40 bC)],[]⟩
def s49:SS:=⟨77,117,[tP 12 28,tP 13 29,(14,vB)],[(28,bV fL),(29,.var (.slice 40 bC) (.val (.slice 40 bC)))],[]⟩
def c33:aW:=aF G [.cell 12 53,.cell 13 41,.tmp 14] 33 [.val fb,vI,vI,vI,vI,vI] [] 117 s49 [] (.bE (u6 f33))
theorem TR:hS c33:=
 cO ⟨[hD 2 41 [cA 0,cA 1],hE 9 [cB 2 [(0,23),(1,24),(2,25),(3,29),(4,26),(5,22),(6,27),(7,31),(8,94)] [(41,76)]]],[(4,s46),(13,s47)],[],[(7,⟨s48,fun _=>gD⟩)],[],[]⟩ (hq x49 (hq x50 (hq Mh hz))) aI Tryz.call33 Tryz.func33
def f39(a0:bT)(a1:Int)(a2:Int)(a3:Int)(a4:Int)(a5:Int):Option (Zi×Bool×uC):=
 Option.bind (f66 a0.1.1 a1) fun y1=>if 0≤y1 then(if y1<(2:Int) then(if y1=(0:Int) then(Option.bind (f33 a0 a1 a2 a3 a4 a5) fun⟨b,c,a⟩=>some (a,b,c)) else(if y1=(1:Int) then(Option.bind (f65 a0 a1 a2 a3 a4 a5) fun⟨d,e,f⟩=>some (d,e,f)) else none)) else none) else none
def s50:SS:=⟨34,74,[tP 12 28,(13,.val (.slice 40 bC)),(14,vB)],[(28,bV fL)],[]⟩
def c39:aW:=aF G [.cell 12 53,.tmp 13,.tmp 14] 39 [.val fb,vI,vI,vI,vI,vI] [] 74 s50 [] (.bE (u6 f39))
theorem x39:hS c39:=
 cO (hR [hE 2 [cA 0,⟨[1,2],[],[],[],[]⟩]]) (hq x66 (hq x65 (hq TR hz))) aI Tryz.call39 Tryz.func39
def Mi:Nat→Zi×Bool×Ze×Int×Int×tS×uC×Ze→Option (cQ (Zi×Bool×Ze) (Ze×Zi×Bool)):=aK fun rec4 ⟨h,d,c,b,a,f,e,g⟩=>if(decide (a<b))=true then(if 0≤a then(if a<(List.length c:Int) then(Option.bind (α:=Bool) (if(!d)=true then(some true) else(if(decide ((List.length e.2.2.2.1:Int)≤(nth (.int .i64) c a)))=true then(some true) else(if 0≤(nth (.int .i64) c a) then(if(nth (.int .i64) c a)<(List.length e.2.2.2.1:Int) then(if 0≤a then(if a<(List.length f.2.2.2.2.2.2.2.2.1:Int) then(some (!decide ((nth (.int .i64) e.2.2.2.1 (nth (.int .i64) c a))=(nth (.int .i64) f.2.2.2.2.2.2.2.2.1 a)))) else none) else none) else none) else none))) fun v5=>if v5=true then(if(List.length g+List.length [nth (.int .i64) c a])*8≤aE then(rec4 (h,d,c,b,aZ (a+1),f,e,g++[nth (.int .i64) c a])) else none) else(rec4 (h,d,c,b,aZ (a+1),f,e,g))) else none) else none) else(some (.brk (h,d,g)))
def f21(a0:bT)(a1:tS)(a2:Int):Option (Ze×Zi×Bool):=
 Option.bind (f39 a0 a1.2.2.1 a1.2.2.2.1 a1.2.2.2.2.1 a1.2.2.2.2.2.1 a2) fun⟨a,b,c⟩=>aG (U:=Zi×Bool×Ze) (Mi (Int.toNat (List.length a1.2.2.2.2.2.2.2.1:Int)+1) (a,b,a1.2.2.2.2.2.2.2.1,(List.length a1.2.2.2.2.2.2.2.1:Int),0,a1,c,([]:Ze))) fun⟨e,f,d⟩=>some (d,e,f)
def s51:SS:=⟨65,105,[(6,.own 82),(7,.val (.slice 40 bC)),(8,vB)],[(82,.row 3 8 (.int .i64))],[]⟩
def s52:SS:=⟨65,105,[tP 4 20,(6,.own 81),(7,.val (.slice 40 bC)),(8,vB),tP 9 25,(28,.val (.slice 8 (.int .i64))),tI 29,tI 30],[(20,bV lF),(25,bV fL),(81,.row 3 8 (.int .i64))],[]⟩
def s53:SS:=⟨65,105,[(6,.val (.slice 8 (.int .i64))),(7,.val (.slice 40 bC)),(8,vB)],[],[]⟩
def Yu:aW:=aF G [.tmp 6,.tmp 7,.tmp 8] 21 [.val fb,.val lF,vI] [] 105 s53 [] (.bE (u3 f21))
theorem TS:hS Yu:=
 cO ⟨[hA 1 0,hD 5 56 []],[(8,s51)],[],[(3,⟨s52,fun u3=>Int.toNat u3.2.2.2.1+1⟩)],[],[]⟩ (hq x39 hz) aI Tryz.call21 Tryz.func21
def f8(a0:bT)(a1:tS)(a2:Int):Option (Bool×Zi):=
 Option.bind (f20 a1) fun y1=>if(!y1)=true then none else(Option.bind (f21 a0 a1 a2) fun⟨b,c,a⟩=>Option.bind (α:=Bool×Zi) (if a=true then(some (decide ((List.length b:Int)=(0:Int)),c)) else(some (false,c))) fun⟨d,e⟩=>some (d,e))
def s54:SS:=⟨28,68,[(6,vB),(7,.val (.slice 40 bC))],[],[]⟩
def c8:aW:=aF G [.tmp 6,.tmp 7] 8 [.val fb,.val lF,vI] [] 68 s54 [] (.bE (u3 f8))
theorem x8:hS c8:=
 cO (hR [hA 1 0,(2,⟨[],[],[],none,[(0,9999)],[],[]⟩),hA 3 1,(4,⟨[],[],[],some [(6,.bool),(7,.slice 40 bC)],[],[],[]⟩)]) (hq X4 (hq TS hz)) aI Tryz.call8 Tryz.func8
def f12(a0:bT)(a1:tS)(a2:Int):Option Ze:=
 Option.bind (f20 a1) fun y1=>if(!y1)=true then none else(Option.bind (f21 a0 a1 a2) fun⟨a,_,_⟩=>some a)
def s55:SS:=⟨22,62,[(6,.val (.slice 8 (.int .i64)))],[],[]⟩
def c12:aW:=aF G [.tmp 6] 12 [.val fb,.val lF,vI] [] 62 s55 [] (.bE (u3 f12))
theorem Qf:hS c12:=
 cO (hR [hA 1 0,(2,⟨[],[],[],none,[(0,9999)],[],[]⟩),hA 3 1]) (hq X4 (hq TS hz)) aI Tryz.call12 Tryz.func12
def BD(a0:bT)(a1:List tS)(a2:Int)(a3:Int):Option (bT×List tS×ZX):=
 some (a0,a1,a2,a3)
def s56:SS:=⟨10,50,[(8,.func 43 .nil (.cons (pP 21) (.cons (pP 20) (.cons (pP 22) (.cons (pP 23) .nil)))))],[(20,bV fb),(21,.var (.slice 104 lF) (.val (.slice 104 lF))),(22,bI),(23,bI)],[]⟩
def Mj:aW:=aF G [.tmp 8] 26 [.val fb,.val (.slice 104 lF),vI,vI] [] 50 s56 [20,21,22,23] (.bE (u4 BD))
theorem Mk:hS Mj:=
 cO (hR []) hz aI Tryz.call26 Tryz.func26
def qg(l_:Nat)(Y_:tS×Ze×YC×Nat×Nat×xx×Unit→Option (Bool×YC×Nat×Nat×xx)):Nat→Nat×List tS×Int×Int×ZS→Option (cQ ZS ZS):=aK fun acK ⟨s,p,o,n,t,u,v,q,w,r,x,y⟩=>if(decide (n<o))=true then(if 0≤n then(if n<(List.length p:Int) then(Option.bind (f8 q (nth lF p n) r) fun⟨a,_⟩=>if(!a)=true then(acK (s,p,o,aZ (n+1),t,u,v,q,w,r,x,y)) else(Option.bind (f21 q (nth lF p n) x) fun⟨c,_,b⟩=>if(!b)=true then(if s=l_ then(Option.bind (Y_ (nth lF p n,c,t,u,v,y,())) fun⟨d,e,f,g,h⟩=>if(!d)=true then(bZ (some (e,f,g,q,w,r,x,h))) else(acK (s,p,o,aZ (n+1),e,f,g,q,w,r,x,h))) else none) else(if(decide ((0:Int)<(List.length c:Int)))=true then(if s=l_ then(Option.bind (Y_ (nth lF p n,c,t,u,v,y,())) fun⟨i,j,k,l,m⟩=>if(!i)=true then(bZ (some (j,k,l,q,w,r,x,m))) else(acK (s,p,o,aZ (n+1),j,k,l,q,w,r,x,m))) else none) else(acK (s,p,o,aZ (n+1),t,u,v,q,w,r,x,y))))) else none) else none) else(some (.brk (t,u,v,q,w,r,x,y)))
def BE(l_:Nat)(Y_:tS×Ze×YC×Nat×Nat×xx×Unit→Option (Bool×YC×Nat×Nat×xx))(a0:Nat)(a1:YC)(a2:Nat)(a3:Nat)(a4:xx)(a5:bT)(a6:List tS)(a7:Int)(a8:Int):Option ZS:=
 aG (U:=ZS) (qg l_ Y_ (Int.toNat (List.length a6:Int)+1) (a0,a6,(List.length a6:Int),0,a1,a2,a3,a5,a6,a7,a8,a4)) fun⟨a,b,c,d,e,f,g,h⟩=>some (a,b,c,d,e,f,g,h)
def s57:SS:=⟨51,91,[],[(0,.lp),(1,.tv (.slice 40 nX) (.own 69)),(3,bV fb),(4,.var (.slice 104 lF) (.val (.slice 104 lF))),(5,bI),(6,bI),(69,.row 59 40 nX)],[]⟩
def s58:SS:=⟨51,91,[(0,.vw),tP 2 3,tP 3 5,tP 4 6,(13,.val (.slice 104 lF)),tI 14,tI 15],[(0,.lp),(1,.tv (.slice 40 nX) (.own 68)),(3,bV fb),(4,.var (.slice 104 lF) (.val (.slice 104 lF))),(5,bI),(6,bI),(68,.row 59 40 nX)],[]⟩
def s59:SS:=⟨51,91,[],[(0,.lp),(1,.tv (.slice 40 nX) (.own 70)),(3,bV fb),(4,.var (.slice 104 lF) (.val (.slice 104 lF))),(5,bI),(6,bI),(70,.row 59 40 nX)],[]⟩
def BF:IC:=⟨[.val lF,.val (.slice 8 (.int .i64))],[(0,.lp),(1,.tv (.slice 40 nX) (.own 2)),(2,.row 59 40 nX)],68,0,[(1,.tv (.slice 40 nX) (.own 42)),(42,.row 59 40 nX)],fun l f=>aF G [] 43 [.vw,pP 4,pP 3,pP 5,pP 6] [(0,.lp),(1,.tv (.slice 40 nX) (.own 2)),(2,.row 59 40 nX),(3,bV fb),(4,.var (.slice 104 lF) (.val (.slice 104 lF))),(5,bI),(6,bI)] 91 s59 [0,1,3,4,5,6,70] (.bE (u9 (BE l f)))⟩
theorem Ml:BF.holds Tryz.prog gl:=fun B hB l f hY=>
 aW.of tied (H:=⟨[hA 3 1,hA 5 2,hE 6 [cB 0 [(0,0),(1,1),(2,68)] [(42,67)]]],[],[(0,s57)],[(1,⟨s58,fun u2=>Int.toNat u2.2.2.1+1⟩)],[],[]⟩) (hold (l:=[IC.Y BF l f,c8,Yu]) ⟨hY,x8.up rfl (fun _ _=>trivial),TS.up rfl (fun _ _=>trivial),trivial⟩) aI rfl Tryz.call43 Tryz.func43 rfl rfl rfl rfl (fun _=>by kernel_rfl) (fun _=>by kernel_rfl)
def xA(y_:YC)(b4_0:tS)(b4_1:Ze)(yt:YC)(yj:Nat)(g1:Nat)(c4_0:xx):Option (Bool×YC×Nat×Nat×xx):=
 EC yt y_ (if yj=0 then(if g1=y_.gs 1 then(Option.bind (α:=Nat×Nat×xx) (if(List.length c4_0+List.length [(b4_0.1,b4_0.2.1,b4_1,())])*40≤aE then(some (0,y_.gs 1,c4_0++[(b4_0.1,b4_0.2.1,b4_1,())])) else none) fun r_=>if r_.2.1=y_.gs 1 then(some (Nat.beq r_.1 0,y_,r_.1,r_.2.1,r_.2.2)) else none) else none) else none)
def f13(a0:bT)(a1:List tS)(a2:Int)(a3:Int):Option xx:=
 aG (U:=xx) (Option.bind (BD a0 a1 a2 a3) fun⟨a,b,c,e⟩=>tL fun y3=>Option.bind (BE y3.l (fun d=>xA y3 d.1 d.2.1 d.2.2.1 d.2.2.2.1 d.2.2.2.2.1 d.2.2.2.2.2.1) y3.l y3 0 (y3.gs 1) ([]:xx) a b c e) fun⟨f,g,_,_,_,_,_,h⟩=>EC f y3 (if g=0 then(some (.brk h)) else none)) fun v1=>some v1
def s60:SS:=⟨28,68,[tP 8 24],[(24,.var (.slice 40 nX) (.own 50)),(48,.sI),(50,.row 59 40 nX)],[.mp 48]⟩
def s61:SS:=⟨28,68,[tP 8 24,(15,.func 43 .nil (.cons (pP 44) (.cons (pP 31) (.cons (pP 45) (.cons (pP 46) .nil)))))],[(24,.var (.slice 40 nX) (.own 47)),(31,bV fb),(44,.var (.slice 104 lF) (.val (.slice 104 lF))),(45,bI),(46,bI),(47,.row 59 40 nX)],[]⟩
def s62:SS:=⟨28,68,[],[(1,.var (.slice 40 nX) (.own 42)),(42,.row 59 40 nX)],[]⟩
def Yv:SS:=⟨28,68,[tP 8 24],[(24,.var (.slice 40 nX) (.val (.slice 40 nX)))],[]⟩
def c13:aW:=aF G [.cell 8 48] 13 [.val fb,.val (.slice 104 lF),vI,vI] [] 68 Yv [] (.bE (u4 f13))
theorem x13:hS c13:=
 cO ⟨[hE 1 [cB 0 [] [(20,31),(21,44),(22,45),(23,46)]]],[(5,s60)],[],[],[],[(4,⟨0,48,49,[(1,.slice 40 nX)],[(24,1)],[],[(0,49),(1,24),(2,47),(3,31),(4,44),(5,45),(6,46)],[(70,50)],s61,s62⟩)]⟩ (hq Mk hz) (vN (L:=[BF]) ⟨Ml,trivial⟩) Tryz.call13 Tryz.func13
end Go.Proofs.YtgdcjlldafmomaaGreat
