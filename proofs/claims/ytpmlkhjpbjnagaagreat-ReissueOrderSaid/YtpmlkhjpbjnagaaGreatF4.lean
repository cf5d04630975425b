/- part -/
import Derived.Test.YtpmlkhjpbjnagaaGreatF3
noncomputable section
namespace Go.Proofs.YtpmlkhjpbjnagaaGreat
open Go.Ax
def f204(a0:Ze):ZU:=
 some (a0.length:Int)
def acA:SS:=⟨5,45,[tI 2],[],[]⟩
def Xg:aZ:=aG G [.tmp 2] 204 [.val (.slice 8 (.int .i64))] [] 45 acA [] (.bq (u1 f204))
theorem acB:hS Xg:=
 cO (hR []) hz aK Tryz.call204 Tryz.func204
def pw:Nat→Int×Int×Int×Ze→Option (cJ (Int×Int×Ze) (Bool×Ze)):=aL fun al4 ⟨q,o,p,r⟩=>aI (U:=Int×Int×Int×Int×Ze) (Option.bind (α:=Bool) (if decide (o≤(bp ((bp ((2:Int)*p))+(1:Int)))) then(some true) else(some (decide ((bp ((bp ((2:Int)*p))+(1:Int)))<(0:Int))))) fun v5=>if v5=true then(bX (some (.brk (q,p,r)))) else(some (.brk (q,o,p,bp ((bp ((2:Int)*p))+(1:Int)),r)))) fun⟨d,b,e,a,c⟩=>aI (U:=Int×Int×Int×Int×Ze) (if decide ((bp (a+1))<b) then((lT (bp (a+1)) a c).bind fun⟨f,g⟩=>if f=true then(some (.brk (d,b,e,bp (a+1),g))) else(some (.brk (d,b,e,a,g)))) else(some (.brk (d,b,e,a,c)))) fun⟨k,l,i,h,j⟩=>(lT h i j).bind fun⟨m,n⟩=>if !m then(some (.brk (k,i,n))) else((lU i h n).bind fun y9=>al4 (k,l,h,y9))
def uO(a0:Int)(a1:Int)(a2:Ze):Option (Bool×Ze):=
 aI (U:=Int×Int×Ze) (pw iZ (a0,a1,a0,a2)) fun⟨a,b,c⟩=>some (decide (a<b),c)
def acC:SS:=⟨48,88,[(0,.iface 333 (pP 0)),tI 1,tI 2,tI 7,tI 8],JL,[]⟩
def acD:SS:=⟨48,88,[(0,.iface 333 (pP 0)),tI 1,tI 2,tI 7,tI 9],JL,[]⟩
def acE:SS:=⟨48,88,[tI 1,tI 7],JL,[]⟩
def acF:SS:=⟨48,88,[(0,.iface 333 (pP 0)),tI 1,tI 2,tI 7],JL,[]⟩
def acG:SS:=⟨48,88,[(6,vB)],JL,[]⟩
def OQ:aZ:=aG G [.tmp 6] 252 [.iface 333 (pP 0),vI,vI] JL 88 acG [0,1] (.bq (u3 uO))
theorem OR:hS OQ:=
 cO ⟨[hD 3 21 [],hE 6 [cB 0 [(0,1)] []],hE 8 [cB 0 [(0,1)] []],hE 9 [cB 1 [(0,1)] []]],[(4,acC),(8,acD),(11,acE)],[],[(2,⟨acF,fun _=>iZ⟩)],[],[]⟩ (hq Ip (hq BB hz)) aK Tryz.call252 Tryz.func252
def uP(a0:Ze):Option (Int×Ze):=
 if 0≤(bp ((a0.length:Int) -(1:Int))) then(if(bp ((a0.length:Int) -(1:Int)))<(a0.length:Int) then(if 0≤(bp ((a0.length:Int) -(1:Int))) then(if(bp ((a0.length:Int) -(1:Int)))≤(a0.length:Int) then(some (nth (.int .i64) a0 (bp ((a0.length:Int) -(1:Int))),List.take ((Int.toNat (bp ((a0.length:Int) -(1:Int)))) -0) a0)) else none) else none) else none) else none
def acH:SS:=⟨32,72,[(2,.iface 3 vI)],[(0,.var sV (.cons (.own 48) .nil)),(48,.row 3 8 (.int .i64))],[]⟩
def OS:aZ:=aG G [.tmp 2] 281 [pP 0] JL 72 acH [0,48] (.bq (u1 uP))
theorem OT:hS OS:=
 cO (hR [(2,⟨[],[],[],none,[],[],[.oW 0 [.cC 0] 48]⟩)]) hz aK Tryz.call281 Tryz.func281
def js(a0:Ze):Option (Int×Ze):=
 (rJ a0).bind fun⟨a,b⟩=>(lU (0:Int) (bp (a -(1:Int))) b).bind fun y2=>(uO (0:Int) (bp (a -(1:Int))) y2).bind fun⟨_,c⟩=>(uP c).bind fun⟨d,e⟩=>some (d,e)
def acI:SS:=⟨15,55,[(2,.iface 3 vI)],[(0,.var sV (.cons (.own 30) .nil)),(30,.row 3 8 (.int .i64))],[]⟩
def Hy:aZ:=aG G [.tmp 2] 205 [.iface 333 (pP 0)] JL 55 acI [0,30] (.bq (u1 js))
theorem OU:hS Hy:=
 cO (hR [hE 1 [cB 0 [(0,1)] []],hE 2 [cB 1 [(0,1)] []],hE 3 [cB 2 [(0,0),(1,1)] []],hE 4 [cB 3 [(0,0),(1,1)] [(48,30)]]]) (hq Io (hq BB (hq OR (hq OT hz)))) aK Tryz.call205 Tryz.func205
def ew(_l_:Nat)(_Y_:ZK):Nat→Nat×dN×ZX×Int×Int×S4→Option (cJ (Nat×ZX×S4) RL):=aL fun rec4 ⟨f,d,g,b,a,h,i,j,k,c,e⟩=>if decide (a<b) then(if 0≤a then(if a<(c.length:Int) then(if 0≤a then(if a<(List.length (List.set c (Int.toNat a) (List.length (aX (aP (.int .i64) (.map (.int .i64) .bool) a (aX d.2.1))):Int)):Int) then(if decide ((nth (.int .i64) (List.set c (Int.toNat a) (List.length (aX (aP (.int .i64) (.map (.int .i64) .bool) a (aX d.2.1))):Int)) a)=(0:Int)) then((rK a e).bind fun y5=>rec4 (f,d,g,b,bp (a+1),h,i,j,k,List.set c (Int.toNat a) (List.length (aX (aP (.int .i64) (.map (.int .i64) .bool) a (aX d.2.1))):Int),y5)) else(rec4 (f,d,g,b,bp (a+1),h,i,j,k,List.set c (Int.toNat a) (List.length (aX (aP (.int .i64) (.map (.int .i64) .bool) a (aX d.2.1))):Int),e))) else none) else none) else none) else none) else(some (.brk (f,g,h,i,j,k,c,e)))
def da(_l_:Nat)(_Y_:ZK):Nat→Nat×ZX×Ze×Int×Int×S4→Option (cJ (Nat×ZX×S4) (cJ RL RL)):=aL fun rec15 ⟨f,g,c,b,a,h,i,j,d,k,e⟩=>if decide (a<b) then(if 0≤a then(if a<(c.length:Int) then(if 0≤(nth (.int .i64) c a) then(if(nth (.int .i64) c a)<(d.length:Int) then(if 0≤(nth (.int .i64) c a) then(if(nth (.int .i64) c a)<(d.length:Int) then(if 0≤(nth (.int .i64) c a) then(if(nth (.int .i64) c a)<(List.length (List.set d (Int.toNat (nth (.int .i64) c a)) (bp ((nth (.int .i64) d (nth (.int .i64) c a)) -(1:Int)))):Int) then(if decide ((nth (.int .i64) (List.set d (Int.toNat (nth (.int .i64) c a)) (bp ((nth (.int .i64) d (nth (.int .i64) c a)) -(1:Int)))) (nth (.int .i64) c a))=(0:Int)) then((rK (nth (.int .i64) c a) e).bind fun y16=>rec15 (f,g,c,b,bp (a+1),h,i,j,List.set d (Int.toNat (nth (.int .i64) c a)) (bp ((nth (.int .i64) d (nth (.int .i64) c a)) -(1:Int))),k,y16)) else(rec15 (f,g,c,b,bp (a+1),h,i,j,List.set d (Int.toNat (nth (.int .i64) c a)) (bp ((nth (.int .i64) d (nth (.int .i64) c a)) -(1:Int))),k,e))) else none) else none) else none) else none) else none) else none) else none) else none) else(some (.brk (f,g,h,i,j,d,k,e)))
def dR(l_:Nat)(Y_:ZK):Nat→Nat×ZX×S4→Option (cJ RL RL):=aL fun rec8 ⟨z,ae,aa,ab,ac,af,y,ad⟩=>(f204 y).bind fun y9=>if decide ((0:Int)<y9) then(aI (U:=Nat×ZX×S4) ((js y).bind fun⟨a,b⟩=>aI (U:=Nat×ZX×Int×S4) (if z=l_ then((Y_ (a,aa,ab,ac,ad,())).bind fun⟨c,d,e,f,g⟩=>if !c then(bX (bX (bX (some (d,e,f,g))))) else(some (.brk (z,ae,a,d,e,f,af,b,g)))) else none) fun⟨j,i,h,k,l,m,n,p,o⟩=>if 0≤h then(if h<(i.length:Int) then(da l_ Y_ (Int.toNat (List.length (nth (.slice 8 (.int .i64)) i h):Int)+1) (j,i,nth (.slice 8 (.int .i64)) i h,(List.length (nth (.slice 8 (.int .i64)) i h):Int),0,k,l,m,n,o,p)) else none) else none) fun⟨q,r,s,t,u,v,x,w⟩=>rec8 (q,r,s,t,u,v,w,x)) else(some (.brk (aa,ab,ac,ad)))
def gz(l_:Nat)(Y_:ZK)(a0:Nat)(a1:dN)(a2:YC)(a3:Nat)(a4:Nat)(a5:Ze):Option RL:=
 (f202 a1).bind fun y1=>if 0≤a1.1 then(if a1.1≤a1.1 then(if a1.1*(8:Int)≤(aH:Int) then(aI (U:=Nat×ZX×S4) (ew l_ Y_ (Int.toNat a1.1+1) (a0,a1,y1,a1.1,0,a2,a3,a4,a5,List.replicate (Int.toNat a1.1) (0:Int),([]:Ze))) fun⟨a,b,c,d,e,h,f,g⟩=>aI (U:=RL) (dR l_ Y_ iZ (a,b,c,d,e,f,g,h)) fun⟨i,j,k,l⟩=>some (i,j,k,l)) else none) else none) else none
def TR:List (Nat×Sh):=[(0,.Dj),(3,.val (.slice 24 (.slice 8 (.int .i64)))),(4,.own 31),tP 5 33]
def acJ:SS:=⟨89,129,TR,[(0,.lp),(1,.tv (.slice 8 (.int .i64)) (.own 2)),(2,.row 3 8 (.int .i64)),(31,.row 3 8 (.int .i64)),(33,.var sV (.cons (.own 106) .nil)),(106,.row 3 8 (.int .i64))],[]⟩
def acK:SS:=⟨89,129,[(0,.Dj),(3,.val (.slice 24 (.slice 8 (.int .i64)))),(4,.own 31),tP 5 33,tI 7],[(0,.lp),(1,.tv (.slice 8 (.int .i64)) (.own 107)),(31,.row 3 8 (.int .i64)),(33,.var sV (.cons (.own 67) .nil)),(67,.row 3 8 (.int .i64)),(107,.row 3 8 (.int .i64))],[]⟩
def acL:SS:=⟨89,129,[],[(0,.lp),(1,.tv (.slice 8 (.int .i64)) (.own 112)),(112,.row 3 8 (.int .i64))],[]⟩
def acM:SS:=⟨89,129,TR,[(0,.lp),(1,.tv (.slice 8 (.int .i64)) (.own 107)),(31,.row 3 8 (.int .i64)),(33,.var sV (.cons (.own 109) .nil)),(107,.row 3 8 (.int .i64)),(109,.row 3 8 (.int .i64))],[]⟩
def acN:SS:=⟨89,129,[(0,.Dj),(1,.cd oK),(3,.val (.slice 24 (.slice 8 (.int .i64)))),(4,.own 31),tP 5 33,tI 19,tI 20],[(0,.lp),(1,.tv (.slice 8 (.int .i64)) (.own 2)),(2,.row 3 8 (.int .i64)),(31,.row 3 8 (.int .i64)),(33,.var sV (.cons (.own 105) .nil)),(105,.row 3 8 (.int .i64))],[]⟩
def acO:SS:=⟨89,129,TR,[(0,.lp),(1,.tv (.slice 8 (.int .i64)) (.own 111)),(31,.row 3 8 (.int .i64)),(33,.var sV (.cons (.own 110) .nil)),(110,.row 3 8 (.int .i64)),(111,.row 3 8 (.int .i64))],[]⟩
def acP:SS:=⟨89,129,[(0,.Dj),(3,.val (.slice 24 (.slice 8 (.int .i64)))),(4,.own 31),tP 5 33,(66,.val (.slice 8 (.int .i64))),tI 67,tI 68],[(0,.lp),(1,.tv (.slice 8 (.int .i64)) (.own 107)),(31,.row 3 8 (.int .i64)),(33,.var sV (.cons (.own 108) .nil)),(107,.row 3 8 (.int .i64)),(108,.row 3 8 (.int .i64))],[]⟩
def acQ:SS:=⟨89,129,[],[(0,.lp),(1,.tv (.slice 8 (.int .i64)) (.own 113)),(113,.row 3 8 (.int .i64))],[]⟩
def Xh:List (Nat×de):=[(0,.lp),(1,.tv (.slice 8 (.int .i64)) (.own 2)),(2,.row 3 8 (.int .i64))]
def AF:IC:=⟨[vI],Xh,53,0,[(1,.tv (.slice 8 (.int .i64)) (.own 27)),(27,.row 3 8 (.int .i64))],fun l f=>aG G [] 201 [.Dj,.cd oK] Xh 129 acQ [0,1,113] (.bq (u6 (gz l f)))⟩
theorem OW:AF.holds Tryz.prog gl:=fun B hB l f hY=>
 aZ.of tied (H:=⟨[hA 0 1,hE 7 [cB 2 [(0,33),(1,105)] [(22,56)]],hA 9 3,hE 10 [cB 4 [(0,33),(1,110)] [(30,67)]],hE 11 [cB 0 [(0,0),(1,1),(2,111)] [(27,107)]],hE 17 [cB 2 [(0,33),(1,108)] [(22,103)]]],[(9,acJ),(12,acK)],[(2,acL),(3,acM)],[(3,⟨acN,fun u3=>Int.toNat u3.2.2.2.1+1⟩),(9,⟨acO,fun _=>iZ⟩),(13,⟨acP,fun UR=>Int.toNat UR.2.2.2.1+1⟩)],[],[]⟩) (hold (l:=[IC.Y AF l f,YF,Iq,Xg,Hy]) ⟨hY,agA.up rfl (fun _ _=>trivial),QN.up rfl (fun _ _=>trivial),acB.up rfl (fun _ _=>trivial),OU.up rfl (fun _ _=>trivial),trivial⟩) aK rfl Tryz.call201 Tryz.func201 rfl rfl rfl rfl (fun _=>by kernel_rfl) (fun _=>by kernel_rfl)
def gH(y_:YC)(b3_0:Int)(yt:YC)(yj:Nat)(g1:Nat)(c3_0:Ze):Option (Bool×RL):=
 NH yt y_ (if yj=0 then(if g1=y_.gs 1 then(Option.bind (α:=Nat×Nat×Ze) (if(List.length c3_0+List.length [b3_0])*8≤aH then(some (0,y_.gs 1,c3_0++[b3_0])) else none) fun r_=>if r_.2.1=y_.gs 1 then(some (Nat.beq r_.1 0,y_,r_.1,r_.2.1,r_.2.2)) else none) else none) else none)
def uQ(a0:dN):Option Ze:=
 aI (U:=Ze) (yb fun y2=>(gz y2.l (fun d=>gH y2 d.1 d.2.1 d.2.2.1 d.2.2.2.1 d.2.2.2.2.1) y2.l a0 y2 0 (y2.gs 1) ([]:Ze)).bind fun⟨a,b,_,c⟩=>NH a y2 (if b=0 then(some (.brk c)) else none)) fun v1=>some v1
def acR:SS:=⟨13,53,[tP 2 18],[(18,.var (.slice 8 (.int .i64)) (.own 32)),(30,.uM),(32,.row 3 8 (.int .i64))],[.mp 30]⟩
def acS:SS:=⟨13,53,[tP 2 18,(4,.bn),(6,.func 201 .nil (.cons (.cd oK) .nil))],[(18,.var (.slice 8 (.int .i64)) (.own 29)),(29,.row 3 8 (.int .i64))],[]⟩
def acT:SS:=⟨13,53,[],[(1,.var (.slice 8 (.int .i64)) (.own 27)),(27,.row 3 8 (.int .i64))],[]⟩
def acU:SS:=⟨13,53,[(4,.val (.slice 8 (.int .i64)))],[],[]⟩
def OX:aZ:=aG G [.tmp 4] 200 [.bn,.func 201 .nil (.cons (.cd oK) .nil)] [] 53 acU [] (.bq (u1 uQ))
theorem OY:hS OX:=
 cO ⟨[],[(4,acR)],[],[],[],[(3,⟨0,30,31,[(1,.slice 8 (.int .i64))],[(18,1)],[],[(0,31),(1,18),(2,29)],[(113,32)],acS,acT⟩)]⟩ hz (DB (L:=[AF]) ⟨OW,trivial⟩) Tryz.call200 Tryz.func200
def jt(a0:dN):Option Ze:=
 (uQ a0).bind fun y1=>some y1
def Xi:SS:=⟨5,45,[(2,.val (.slice 8 (.int .i64)))],[],[]⟩
def OZ:aZ:=aG G [.tmp 2] 143 [.func 201 .nil (.cons (.cd oK) .nil)] [] 45 Xi [] (.bq (u1 jt))
theorem O0:hS OZ:=
 cO (hR [hA 1 0]) (hq OY hz) aK Tryz.call143 Tryz.func143
end Go.Proofs.YtpmlkhjpbjnagaaGreat
