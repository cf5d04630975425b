/- part -/
import Derived.Test.YtaghhonjcdokjaaGreatDoorF5
noncomputable section
namespace Go.Proofs.YtaghhonjcdokjaaGreatDoor
open Go.Ax
def lN:Nat→Int×Int×Int×Zf→Option (cV (Int×Int×Zf) (Bool×Zf)):=aM fun ahA ⟨q,o,p,r⟩=>aI (U:=Int×Int×Int×Int×Zf) (Option.bind (α:=Bool) (if(decide (o≤(bB ((bB ((2:Int)*p))+(1:Int)))))=true then(some true) else(some (decide ((bB ((bB ((2:Int)*p))+(1:Int)))<(0:Int))))) fun v5=>if v5=true then(cw (some (.brk (q,p,r)))) else(some (.brk (q,o,p,bB ((bB ((2:Int)*p))+(1:Int)),r)))) fun⟨d,b,e,a,c⟩=>aI (U:=Int×Int×Int×Int×Zf) (if(decide ((bB (a+1))<b))=true then(Option.bind (lE (bB (a+1)) a c) fun⟨f,g⟩=>if f=true then(some (.brk (d,b,e,bB (a+1),g))) else(some (.brk (d,b,e,a,g)))) else(some (.brk (d,b,e,a,c)))) fun⟨k,l,i,h,j⟩=>Option.bind (lE h i j) fun⟨m,n⟩=>if(!m)=true then(some (.brk (k,i,n))) else(Option.bind (j8 i h n) fun y9=>ahA (k,l,h,y9))
def tL(a0:Int)(a1:Int)(a2:Zf):Option (Bool×Zf):=
 aI (U:=Int×Int×Zf) (lN gn (a0,a1,a0,a2)) fun⟨a,b,c⟩=>some (decide (a<b),c)
def adi:SS:=⟨48,88,[(0,.iface 242 (pP 0)),tI 1,tI 2,tI 7,tI 8],[(0,.var jj (.cons (.own 1) .nil)),(1,.row 3 8 (.int .i64))],[]⟩
def adj:SS:=⟨48,88,[(0,.iface 242 (pP 0)),tI 1,tI 2,tI 7,tI 9],[(0,.var jj (.cons (.own 1) .nil)),(1,.row 3 8 (.int .i64))],[]⟩
def adk:SS:=⟨48,88,[tI 1,tI 7],[(0,.var jj (.cons (.own 1) .nil)),(1,.row 3 8 (.int .i64))],[]⟩
def adl:SS:=⟨48,88,[(0,.iface 242 (pP 0)),tI 1,tI 2,tI 7],[(0,.var jj (.cons (.own 1) .nil)),(1,.row 3 8 (.int .i64))],[]⟩
def adm:SS:=⟨48,88,[(6,vB)],[(0,.var jj (.cons (.own 1) .nil)),(1,.row 3 8 (.int .i64))],[]⟩
def N7:aX:=aE G [.tmp 6] 213 [.iface 242 (pP 0),vI,vI] [(0,.var jj (.cons (.own 1) .nil)),(1,.row 3 8 (.int .i64))] 88 adm [0,1] (.bC (u3 tL))
theorem N8:hS N7:=
 cO ⟨[hD 3 21 [],hE 6 [cB 0 [(0,1)] []],hE 8 [cB 0 [(0,1)] []],hE 9 [cB 1 [(0,1)] []]],[(4,adi),(8,adj),(11,adk)],[],[(2,⟨adl,fun _=>gn⟩)],[],[]⟩ (hq Fp (hq zn hz)) aH Tryz.call213 Tryz.func213
def tM(a0:Zf):Option (Int×Zf):=
 if 0≤(bB ((List.length a0:Int) -(1:Int))) then(if(bB ((List.length a0:Int) -(1:Int)))<(List.length a0:Int) then(if 0≤(bB ((List.length a0:Int) -(1:Int))) then(if(bB ((List.length a0:Int) -(1:Int)))≤(List.length a0:Int) then(some (nth (.int .i64) a0 (bB ((List.length a0:Int) -(1:Int))),List.take ((Int.toNat (bB ((List.length a0:Int) -(1:Int)))) -0) a0)) else none) else none) else none) else none
def adn:SS:=⟨32,72,[(2,.iface 3 vI)],[(0,.var jj (.cons (.own 48) .nil)),(48,.row 3 8 (.int .i64))],[]⟩
def N9:aX:=aE G [.tmp 2] 276 [pP 0] [(0,.var jj (.cons (.own 1) .nil)),(1,.row 3 8 (.int .i64))] 72 adn [0,48] (.bC (u1 tM))
theorem Ob:hS N9:=
 cO (hR [(2,⟨[],[],[],none,[],[],[.oh 0 [.cF 0] 48]⟩)]) hz aH Tryz.call276 Tryz.func276
def lO(a0:Zf):Option (Int×Zf):=
 Option.bind (qb a0) fun⟨a,b⟩=>Option.bind (j8 (0:Int) (bB (a -(1:Int))) b) fun y2=>Option.bind (tL (0:Int) (bB (a -(1:Int))) y2) fun⟨_,c⟩=>Option.bind (tM c) fun⟨d,e⟩=>some (d,e)
def ado:SS:=⟨15,55,[(2,.iface 3 vI)],[(0,.var jj (.cons (.own 30) .nil)),(30,.row 3 8 (.int .i64))],[]⟩
def F4:aX:=aE G [.tmp 2] 124 [.iface 242 (pP 0)] [(0,.var jj (.cons (.own 1) .nil)),(1,.row 3 8 (.int .i64))] 55 ado [0,30] (.bC (u1 lO))
theorem Oc:hS F4:=
 cO (hR [hE 1 [cB 0 [(0,1)] []],hE 2 [cB 1 [(0,1)] []],hE 3 [cB 2 [(0,0),(1,1)] []],hE 4 [cB 3 [(0,0),(1,1)] [(48,30)]]]) (hq Fo (hq zn (hq N8 (hq Ob hz)))) aH Tryz.call124 Tryz.func124
def eG(_l_:Nat)(_Y_:ZL):Nat→Nat×jf×ZJ×Int×Int×Pv→Option (cV (Nat×ZJ×Pv) Lj):=aM fun ahZ ⟨f,d,g,b,a,h,i,j,k,c,e⟩=>if(decide (a<b))=true then(if 0≤a then(if a<(List.length c:Int) then(if 0≤a then(if a<(List.length (List.set c (Int.toNat a) (List.length (bK (bE (.int .i64) (.map (.int .i64) .bool) a (bK d.2.1))):Int)):Int) then(if(decide ((nth (.int .i64) (List.set c (Int.toNat a) (List.length (bK (bE (.int .i64) (.map (.int .i64) .bool) a (bK d.2.1))):Int)) a)=(0:Int)))=true then(Option.bind (qc a e) fun y5=>ahZ (f,d,g,b,bB (a+1),h,i,j,k,List.set c (Int.toNat a) (List.length (bK (bE (.int .i64) (.map (.int .i64) .bool) a (bK d.2.1))):Int),y5)) else(ahZ (f,d,g,b,bB (a+1),h,i,j,k,List.set c (Int.toNat a) (List.length (bK (bE (.int .i64) (.map (.int .i64) .bool) a (bK d.2.1))):Int),e))) else none) else none) else none) else none) else(some (.brk (f,g,h,i,j,k,c,e)))
def dN(_l_:Nat)(_Y_:ZL):Nat→Nat×ZJ×Zf×Int×Int×Pv→Option (cV (Nat×ZJ×Pv) (cV Lj Lj)):=aM fun rec15 ⟨f,g,c,b,a,h,i,j,d,k,e⟩=>if(decide (a<b))=true then(if 0≤a then(if a<(List.length c:Int) then(if 0≤(nth (.int .i64) c a) then(if(nth (.int .i64) c a)<(List.length d:Int) then(if 0≤(nth (.int .i64) c a) then(if(nth (.int .i64) c a)<(List.length d:Int) then(if 0≤(nth (.int .i64) c a) then(if(nth (.int .i64) c a)<(List.length (List.set d (Int.toNat (nth (.int .i64) c a)) (bB ((nth (.int .i64) d (nth (.int .i64) c a)) -(1:Int)))):Int) then(if(decide ((nth (.int .i64) (List.set d (Int.toNat (nth (.int .i64) c a)) (bB ((nth (.int .i64) d (nth (.int .i64) c a)) -(1:Int)))) (nth (.int .i64) c a))=(0:Int)))=true then(Option.bind (qc (nth (.int .i64) c a) e) fun y16=>rec15 (f,g,c,b,bB (a+1),h,i,j,List.set d (Int.toNat (nth (.int .i64) c a)) (bB ((nth (.int .i64) d (nth (.int .i64) c a)) -(1:Int))),k,y16)) else(rec15 (f,g,c,b,bB (a+1),h,i,j,List.set d (Int.toNat (nth (.int .i64) c a)) (bB ((nth (.int .i64) d (nth (.int .i64) c a)) -(1:Int))),k,e))) else none) else none) else none) else none) else none) else none) else none) else none) else(some (.brk (f,g,h,i,j,d,k,e)))
def dR(l_:Nat)(Y_:ZL):Nat→Nat×ZJ×Pv→Option (cV Lj Lj):=aM fun rec8 ⟨z,ae,aa,ab,ac,af,y,ad⟩=>Option.bind (f123 y) fun y9=>if(decide ((0:Int)<y9))=true then(aI (U:=Nat×ZJ×Pv) (Option.bind (lO y) fun⟨a,b⟩=>aI (U:=Nat×ZJ×Int×Pv) (if z=l_ then(Option.bind (Y_ (a,aa,ab,ac,ad,())) fun⟨c,d,e,f,g⟩=>if(!c)=true then(cw (cw (cw (some (d,e,f,g))))) else(some (.brk (z,ae,a,d,e,f,af,b,g)))) else none) fun⟨j,i,h,k,l,m,n,p,o⟩=>if 0≤h then(if h<(List.length i:Int) then(dN l_ Y_ (Int.toNat (List.length (nth (.slice 8 (.int .i64)) i h):Int)+1) (j,i,nth (.slice 8 (.int .i64)) i h,(List.length (nth (.slice 8 (.int .i64)) i h):Int),0,k,l,m,n,o,p)) else none) else none) fun⟨q,r,s,t,u,v,x,w⟩=>rec8 (q,r,s,t,u,v,w,x)) else(some (.brk (aa,ab,ac,ad)))
def iv(l_:Nat)(Y_:ZL)(a0:Nat)(a1:jf)(a2:YC)(a3:Nat)(a4:Nat)(a5:Zf):Option Lj:=
 Option.bind (f22 a1) fun y1=>if 0≤a1.1 then(if a1.1≤a1.1 then(if a1.1*(8:Int)≤(aG:Int) then(aI (U:=Nat×ZJ×Pv) (eG l_ Y_ (Int.toNat a1.1+1) (a0,a1,y1,a1.1,0,a2,a3,a4,a5,List.replicate (Int.toNat a1.1) (0:Int),([]:Zf))) fun⟨a,b,c,d,e,h,f,g⟩=>aI (U:=Lj) (dR l_ Y_ gn (a,b,c,d,e,f,g,h)) fun⟨i,j,k,l⟩=>some (i,j,k,l)) else none) else none) else none
def adp:SS:=⟨89,129,[(0,.B0),(3,.val (.slice 24 (.slice 8 (.int .i64)))),(4,.own 31),tP 5 33],[(0,.lp),(1,.tv (.slice 8 (.int .i64)) (.own 2)),(2,.row 3 8 (.int .i64)),(31,.row 3 8 (.int .i64)),(33,.var jj (.cons (.own 106) .nil)),(106,.row 3 8 (.int .i64))],[]⟩
def adq:SS:=⟨89,129,[(0,.B0),(3,.val (.slice 24 (.slice 8 (.int .i64)))),(4,.own 31),tP 5 33,tI 7],[(0,.lp),(1,.tv (.slice 8 (.int .i64)) (.own 107)),(31,.row 3 8 (.int .i64)),(33,.var jj (.cons (.own 67) .nil)),(67,.row 3 8 (.int .i64)),(107,.row 3 8 (.int .i64))],[]⟩
def adr:SS:=⟨89,129,[],[(0,.lp),(1,.tv (.slice 8 (.int .i64)) (.own 112)),(112,.row 3 8 (.int .i64))],[]⟩
def ads:SS:=⟨89,129,[(0,.B0),(3,.val (.slice 24 (.slice 8 (.int .i64)))),(4,.own 31),tP 5 33],[(0,.lp),(1,.tv (.slice 8 (.int .i64)) (.own 107)),(31,.row 3 8 (.int .i64)),(33,.var jj (.cons (.own 109) .nil)),(107,.row 3 8 (.int .i64)),(109,.row 3 8 (.int .i64))],[]⟩
def adt:SS:=⟨89,129,[(0,.B0),(1,.cI xe),(3,.val (.slice 24 (.slice 8 (.int .i64)))),(4,.own 31),tP 5 33,tI 19,tI 20],[(0,.lp),(1,.tv (.slice 8 (.int .i64)) (.own 2)),(2,.row 3 8 (.int .i64)),(31,.row 3 8 (.int .i64)),(33,.var jj (.cons (.own 105) .nil)),(105,.row 3 8 (.int .i64))],[]⟩
def adu:SS:=⟨89,129,[(0,.B0),(3,.val (.slice 24 (.slice 8 (.int .i64)))),(4,.own 31),tP 5 33],[(0,.lp),(1,.tv (.slice 8 (.int .i64)) (.own 111)),(31,.row 3 8 (.int .i64)),(33,.var jj (.cons (.own 110) .nil)),(110,.row 3 8 (.int .i64)),(111,.row 3 8 (.int .i64))],[]⟩
def adv:SS:=⟨89,129,[(0,.B0),(3,.val (.slice 24 (.slice 8 (.int .i64)))),(4,.own 31),tP 5 33,(66,.val (.slice 8 (.int .i64))),tI 67,tI 68],[(0,.lp),(1,.tv (.slice 8 (.int .i64)) (.own 107)),(31,.row 3 8 (.int .i64)),(33,.var jj (.cons (.own 108) .nil)),(107,.row 3 8 (.int .i64)),(108,.row 3 8 (.int .i64))],[]⟩
def adw:SS:=⟨89,129,[],[(0,.lp),(1,.tv (.slice 8 (.int .i64)) (.own 113)),(113,.row 3 8 (.int .i64))],[]⟩
def zN:IC:=⟨[vI],[(0,.lp),(1,.tv (.slice 8 (.int .i64)) (.own 2)),(2,.row 3 8 (.int .i64))],53,0,[(1,.tv (.slice 8 (.int .i64)) (.own 27)),(27,.row 3 8 (.int .i64))],fun l f=>aE G [] 121 [.B0,.cI xe] [(0,.lp),(1,.tv (.slice 8 (.int .i64)) (.own 2)),(2,.row 3 8 (.int .i64))] 129 adw [0,1,113] (.bC (u6 (iv l f)))⟩
theorem Od:zN.holds Tryz.prog gl:=fun B hB l f hY=>
 aX.of tied (H:=⟨[hA 0 1,hE 7 [cB 2 [(0,33),(1,105)] [(22,56)]],hA 9 3,hE 10 [cB 4 [(0,33),(1,110)] [(30,67)]],hE 11 [cB 0 [(0,0),(1,1),(2,111)] [(27,107)]],hE 17 [cB 2 [(0,33),(1,108)] [(22,103)]]],[(9,adp),(12,adq)],[(2,adr),(3,ads)],[(3,⟨adt,fun u3=>Int.toNat u3.2.2.2.1+1⟩),(9,⟨adu,fun _=>gn⟩),(13,⟨adv,fun Tu=>Int.toNat Tu.2.2.2.1+1⟩)],[],[]⟩) (hold (l:=[IC.Y zN l f,c22,Fq,TU,F4]) ⟨hY,x22.up rfl (fun _ _=>trivial),MT.up rfl (fun _ _=>trivial),abz.up rfl (fun _ _=>trivial),Oc.up rfl (fun _ _=>trivial),trivial⟩) aH rfl Tryz.call121 Tryz.func121 rfl rfl rfl rfl (fun _=>by kernel_rfl) (fun _=>by kernel_rfl)
def iR(y_:YC)(b3_0:Int)(yt:YC)(yj:Nat)(g1:Nat)(c3_0:Zf):Option (Bool×Lj):=
 Pn yt y_ (if yj=0 then(if g1=y_.gs 1 then(Option.bind (α:=Nat×Nat×Zf) (if(List.length c3_0+List.length [b3_0])*8≤aG then(some (0,y_.gs 1,c3_0++[b3_0])) else none) fun r_=>if r_.2.1=y_.gs 1 then(some (Nat.beq r_.1 0,y_,r_.1,r_.2.1,r_.2.2)) else none) else none) else none)
def zO(a0:jf):Option Zf:=
 aI (U:=Zf) (yq fun y2=>Option.bind (iv y2.l (fun d=>iR y2 d.1 d.2.1 d.2.2.1 d.2.2.2.1 d.2.2.2.2.1) y2.l a0 y2 0 (y2.gs 1) ([]:Zf)) fun⟨a,b,_,c⟩=>Pn a y2 (if b=0 then(some (.brk c)) else none)) fun v1=>some v1
def adx:SS:=⟨13,53,[tP 2 18],[(18,.var (.slice 8 (.int .i64)) (.own 32)),(30,.wu),(32,.row 3 8 (.int .i64))],[.mp 30]⟩
def ady:SS:=⟨13,53,[tP 2 18,(4,.aF),(6,.func 121 .nil (.cons (.cI xe) .nil))],[(18,.var (.slice 8 (.int .i64)) (.own 29)),(29,.row 3 8 (.int .i64))],[]⟩
def adz:SS:=⟨13,53,[],[(1,.var (.slice 8 (.int .i64)) (.own 27)),(27,.row 3 8 (.int .i64))],[]⟩
def adA:SS:=⟨13,53,[(4,.val (.slice 8 (.int .i64)))],[],[]⟩
def RU:aX:=aE G [.tmp 4] 73 [.aF,.func 121 .nil (.cons (.cI xe) .nil)] [] 53 adA [] (.bC (u1 zO))
theorem RW:hS RU:=
 cO ⟨[],[(4,adx)],[],[],[],[(3,⟨0,30,31,[(1,.slice 8 (.int .i64))],[(18,1)],[],[(0,31),(1,18),(2,29)],[(113,32)],ady,adz⟩)]⟩ hz (ES (L:=[zN]) ⟨Od,trivial⟩) Tryz.call73 Tryz.func73
def lP(a0:jf):Option Zf:=
 Option.bind (zO a0) fun y1=>some y1
def UD:SS:=⟨5,45,[(2,.val (.slice 8 (.int .i64)))],[],[]⟩
def RX:aX:=aE G [.tmp 2] 38 [.func 121 .nil (.cons (.cI xe) .nil)] [] 45 UD [] (.bC (u1 lP))
theorem RY:hS RX:=
 cO (hR [hA 1 0]) (hq RW hz) aH Tryz.call38 Tryz.func38
end Go.Proofs.YtaghhonjcdokjaaGreatDoor
