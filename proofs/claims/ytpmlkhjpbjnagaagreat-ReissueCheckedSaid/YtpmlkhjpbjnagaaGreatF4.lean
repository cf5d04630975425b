/- part -/
import Derived.Test.YtpmlkhjpbjnagaaGreatF3
noncomputable section
namespace Go.Proofs.YtpmlkhjpbjnagaaGreat
open Go.Ax
def f204(a0:Zf):ZV:=
 some (a0.length:Int)
def acw:SS:=⟨5,45,[tI 2],[],[]⟩
def Xf:aZ:=aF G [.tmp 2] 204 [.val (.slice 8 (.int .i64))] [] 45 acw [] (.br (u1 f204))
theorem acx:hS Xf:=
 cO (hR []) hz aJ Tryz.call204 Tryz.func204
def oW:Nat→Int×Int×Int×Zf→Option (cK (Int×Int×Zf) (Bool×Zf)):=aL fun amb ⟨q,o,p,r⟩=>aI (U:=Int×Int×Int×Int×Zf) (Option.bind (α:=Bool) (if decide (o≤(bq ((bq ((2:Int)*p))+(1:Int)))) then(some true) else(some (decide ((bq ((bq ((2:Int)*p))+(1:Int)))<(0:Int))))) fun v5=>if v5=true then(bU (some (.brk (q,p,r)))) else(some (.brk (q,o,p,bq ((bq ((2:Int)*p))+(1:Int)),r)))) fun⟨d,b,e,a,c⟩=>aI (U:=Int×Int×Int×Int×Zf) (if decide ((bq (a+1))<b) then((lH (bq (a+1)) a c).bind fun⟨f,g⟩=>if f=true then(some (.brk (d,b,e,bq (a+1),g))) else(some (.brk (d,b,e,a,g)))) else(some (.brk (d,b,e,a,c)))) fun⟨k,l,i,h,j⟩=>(lH h i j).bind fun⟨m,n⟩=>if !m then(some (.brk (k,i,n))) else((lJ i h n).bind fun y9=>amb (k,l,h,y9))
def uA(a0:Int)(a1:Int)(a2:Zf):Option (Bool×Zf):=
 aI (U:=Int×Int×Zf) (oW iw (a0,a1,a0,a2)) fun⟨a,b,c⟩=>some (decide (a<b),c)
def acy:SS:=⟨48,88,[(0,.iface 333 (pP 0)),tI 1,tI 2,tI 7,tI 8],JB,[]⟩
def acz:SS:=⟨48,88,[(0,.iface 333 (pP 0)),tI 1,tI 2,tI 7,tI 9],JB,[]⟩
def acA:SS:=⟨48,88,[tI 1,tI 7],JB,[]⟩
def acB:SS:=⟨48,88,[(0,.iface 333 (pP 0)),tI 1,tI 2,tI 7],JB,[]⟩
def acC:SS:=⟨48,88,[(6,vB)],JB,[]⟩
def OI:aZ:=aF G [.tmp 6] 252 [.iface 333 (pP 0),vI,vI] JB 88 acC [0,1] (.br (u3 uA))
theorem OJ:hS OI:=
 cO ⟨[hD 3 21 [],hE 6 [cB 0 [(0,1)] []],hE 8 [cB 0 [(0,1)] []],hE 9 [cB 1 [(0,1)] []]],[(4,acy),(8,acz),(11,acA)],[],[(2,⟨acB,fun _=>iw⟩)],[],[]⟩ (hq Ib (hq Bp hz)) aJ Tryz.call252 Tryz.func252
def uB(a0:Zf):Option (Int×Zf):=
 if 0≤(bq ((a0.length:Int) -(1:Int))) then(if(bq ((a0.length:Int) -(1:Int)))<(a0.length:Int) then(if 0≤(bq ((a0.length:Int) -(1:Int))) then(if(bq ((a0.length:Int) -(1:Int)))≤(a0.length:Int) then(some (nth (.int .i64) a0 (bq ((a0.length:Int) -(1:Int))),List.take ((Int.toNat (bq ((a0.length:Int) -(1:Int)))) -0) a0)) else none) else none) else none) else none
def acD:SS:=⟨32,72,[(2,.iface 3 vI)],[(0,.var sH (.cons (.own 48) .nil)),(48,.row 3 8 (.int .i64))],[]⟩
def OL:aZ:=aF G [.tmp 2] 281 [pP 0] JB 72 acD [0,48] (.br (u1 uB))
theorem ON:hS OL:=
 cO (hR [(2,⟨[],[],[],none,[],[],[.oI 0 [.cw 0] 48]⟩)]) hz aJ Tryz.call281 Tryz.func281
def jj(a0:Zf):Option (Int×Zf):=
 (rm a0).bind fun⟨a,b⟩=>(lJ (0:Int) (bq (a -(1:Int))) b).bind fun y2=>(uA (0:Int) (bq (a -(1:Int))) y2).bind fun⟨_,c⟩=>(uB c).bind fun⟨d,e⟩=>some (d,e)
def acE:SS:=⟨15,55,[(2,.iface 3 vI)],[(0,.var sH (.cons (.own 30) .nil)),(30,.row 3 8 (.int .i64))],[]⟩
def Ho:aZ:=aF G [.tmp 2] 205 [.iface 333 (pP 0)] JB 55 acE [0,30] (.br (u1 jj))
theorem OO:hS Ho:=
 cO (hR [hE 1 [cB 0 [(0,1)] []],hE 2 [cB 1 [(0,1)] []],hE 3 [cB 2 [(0,0),(1,1)] []],hE 4 [cB 3 [(0,0),(1,1)] [(48,30)]]]) (hq Ia (hq Bp (hq OJ (hq ON hz)))) aJ Tryz.call205 Tryz.func205
def ew(_l_:Nat)(_Y_:ZK):Nat→Nat×dK×ZY×Int×Int×SX→Option (cK (Nat×ZY×SX) Rx):=aL fun rec4 ⟨f,d,g,b,a,h,i,j,k,c,e⟩=>if decide (a<b) then(if 0≤a then(if a<(c.length:Int) then(if 0≤a then(if a<(List.length (List.set c (Int.toNat a) (List.length (aY (aQ (.int .i64) (.map (.int .i64) .bool) a (aY d.2.1))):Int)):Int) then(if decide ((nth (.int .i64) (List.set c (Int.toNat a) (List.length (aY (aQ (.int .i64) (.map (.int .i64) .bool) a (aY d.2.1))):Int)) a)=(0:Int)) then((rp a e).bind fun y5=>rec4 (f,d,g,b,bq (a+1),h,i,j,k,List.set c (Int.toNat a) (List.length (aY (aQ (.int .i64) (.map (.int .i64) .bool) a (aY d.2.1))):Int),y5)) else(rec4 (f,d,g,b,bq (a+1),h,i,j,k,List.set c (Int.toNat a) (List.length (aY (aQ (.int .i64) (.map (.int .i64) .bool) a (aY d.2.1))):Int),e))) else none) else none) else none) else none) else(some (.brk (f,g,h,i,j,k,c,e)))
def cZ(_l_:Nat)(_Y_:ZK):Nat→Nat×ZY×Zf×Int×Int×SX→Option (cK (Nat×ZY×SX) (cK Rx Rx)):=aL fun rec15 ⟨f,g,c,b,a,h,i,j,d,k,e⟩=>if decide (a<b) then(if 0≤a then(if a<(c.length:Int) then(if 0≤(nth (.int .i64) c a) then(if(nth (.int .i64) c a)<(d.length:Int) then(if 0≤(nth (.int .i64) c a) then(if(nth (.int .i64) c a)<(d.length:Int) then(if 0≤(nth (.int .i64) c a) then(if(nth (.int .i64) c a)<(List.length (List.set d (Int.toNat (nth (.int .i64) c a)) (bq ((nth (.int .i64) d (nth (.int .i64) c a)) -(1:Int)))):Int) then(if decide ((nth (.int .i64) (List.set d (Int.toNat (nth (.int .i64) c a)) (bq ((nth (.int .i64) d (nth (.int .i64) c a)) -(1:Int)))) (nth (.int .i64) c a))=(0:Int)) then((rp (nth (.int .i64) c a) e).bind fun y16=>rec15 (f,g,c,b,bq (a+1),h,i,j,List.set d (Int.toNat (nth (.int .i64) c a)) (bq ((nth (.int .i64) d (nth (.int .i64) c a)) -(1:Int))),k,y16)) else(rec15 (f,g,c,b,bq (a+1),h,i,j,List.set d (Int.toNat (nth (.int .i64) c a)) (bq ((nth (.int .i64) d (nth (.int .i64) c a)) -(1:Int))),k,e))) else none) else none) else none) else none) else none) else none) else none) else none) else(some (.brk (f,g,h,i,j,d,k,e)))
def dQ(l_:Nat)(Y_:ZK):Nat→Nat×ZY×SX→Option (cK Rx Rx):=aL fun rec8 ⟨z,ae,aa,ab,ac,af,y,ad⟩=>(f204 y).bind fun y9=>if decide ((0:Int)<y9) then(aI (U:=Nat×ZY×SX) ((jj y).bind fun⟨a,b⟩=>aI (U:=Nat×ZY×Int×SX) (if z=l_ then((Y_ (a,aa,ab,ac,ad,())).bind fun⟨c,d,e,f,g⟩=>if !c then(bU (bU (bU (some (d,e,f,g))))) else(some (.brk (z,ae,a,d,e,f,af,b,g)))) else none) fun⟨j,i,h,k,l,m,n,p,o⟩=>if 0≤h then(if h<(i.length:Int) then(cZ l_ Y_ (Int.toNat (List.length (nth (.slice 8 (.int .i64)) i h):Int)+1) (j,i,nth (.slice 8 (.int .i64)) i h,(List.length (nth (.slice 8 (.int .i64)) i h):Int),0,k,l,m,n,o,p)) else none) else none) fun⟨q,r,s,t,u,v,x,w⟩=>rec8 (q,r,s,t,u,v,w,x)) else(some (.brk (aa,ab,ac,ad)))
def gw(l_:Nat)(Y_:ZK)(a0:Nat)(a1:dK)(a2:YC)(a3:Nat)(a4:Nat)(a5:Zf):Option Rx:=
 (f202 a1).bind fun y1=>if 0≤a1.1 then(if a1.1≤a1.1 then(if a1.1*(8:Int)≤(aH:Int) then(aI (U:=Nat×ZY×SX) (ew l_ Y_ (Int.toNat a1.1+1) (a0,a1,y1,a1.1,0,a2,a3,a4,a5,List.replicate (Int.toNat a1.1) (0:Int),([]:Zf))) fun⟨a,b,c,d,e,h,f,g⟩=>aI (U:=Rx) (dQ l_ Y_ iw (a,b,c,d,e,f,g,h)) fun⟨i,j,k,l⟩=>some (i,j,k,l)) else none) else none) else none
def TN:List (Nat×Sh):=[(0,.C9),(3,.val (.slice 24 (.slice 8 (.int .i64)))),(4,.own 31),tP 5 33]
def acF:SS:=⟨89,129,TN,[(0,.lp),(1,.tv (.slice 8 (.int .i64)) (.own 2)),(2,.row 3 8 (.int .i64)),(31,.row 3 8 (.int .i64)),(33,.var sH (.cons (.own 106) .nil)),(106,.row 3 8 (.int .i64))],[]⟩
def acG:SS:=⟨89,129,[(0,.C9),(3,.val (.slice 24 (.slice 8 (.int .i64)))),(4,.own 31),tP 5 33,tI 7],[(0,.lp),(1,.tv (.slice 8 (.int .i64)) (.own 107)),(31,.row 3 8 (.int .i64)),(33,.var sH (.cons (.own 67) .nil)),(67,.row 3 8 (.int .i64)),(107,.row 3 8 (.int .i64))],[]⟩
def acH:SS:=⟨89,129,[],[(0,.lp),(1,.tv (.slice 8 (.int .i64)) (.own 112)),(112,.row 3 8 (.int .i64))],[]⟩
def acI:SS:=⟨89,129,TN,[(0,.lp),(1,.tv (.slice 8 (.int .i64)) (.own 107)),(31,.row 3 8 (.int .i64)),(33,.var sH (.cons (.own 109) .nil)),(107,.row 3 8 (.int .i64)),(109,.row 3 8 (.int .i64))],[]⟩
def acJ:SS:=⟨89,129,[(0,.C9),(1,.cc ot),(3,.val (.slice 24 (.slice 8 (.int .i64)))),(4,.own 31),tP 5 33,tI 19,tI 20],[(0,.lp),(1,.tv (.slice 8 (.int .i64)) (.own 2)),(2,.row 3 8 (.int .i64)),(31,.row 3 8 (.int .i64)),(33,.var sH (.cons (.own 105) .nil)),(105,.row 3 8 (.int .i64))],[]⟩
def acK:SS:=⟨89,129,TN,[(0,.lp),(1,.tv (.slice 8 (.int .i64)) (.own 111)),(31,.row 3 8 (.int .i64)),(33,.var sH (.cons (.own 110) .nil)),(110,.row 3 8 (.int .i64)),(111,.row 3 8 (.int .i64))],[]⟩
def acL:SS:=⟨89,129,[(0,.C9),(3,.val (.slice 24 (.slice 8 (.int .i64)))),(4,.own 31),tP 5 33,(66,.val (.slice 8 (.int .i64))),tI 67,tI 68],[(0,.lp),(1,.tv (.slice 8 (.int .i64)) (.own 107)),(31,.row 3 8 (.int .i64)),(33,.var sH (.cons (.own 108) .nil)),(107,.row 3 8 (.int .i64)),(108,.row 3 8 (.int .i64))],[]⟩
def acM:SS:=⟨89,129,[],[(0,.lp),(1,.tv (.slice 8 (.int .i64)) (.own 113)),(113,.row 3 8 (.int .i64))],[]⟩
def Xg:List (Nat×db):=[(0,.lp),(1,.tv (.slice 8 (.int .i64)) (.own 2)),(2,.row 3 8 (.int .i64))]
def Aq:IC:=⟨[vI],Xg,53,0,[(1,.tv (.slice 8 (.int .i64)) (.own 27)),(27,.row 3 8 (.int .i64))],fun l f=>aF G [] 201 [.C9,.cc ot] Xg 129 acM [0,1,113] (.br (u6 (gw l f)))⟩
theorem OP:Aq.holds Tryz.prog gl:=fun B hB l f hY=>
 aZ.of tied (H:=⟨[hA 0 1,hE 7 [cB 2 [(0,33),(1,105)] [(22,56)]],hA 9 3,hE 10 [cB 4 [(0,33),(1,110)] [(30,67)]],hE 11 [cB 0 [(0,0),(1,1),(2,111)] [(27,107)]],hE 17 [cB 2 [(0,33),(1,108)] [(22,103)]]],[(9,acF),(12,acG)],[(2,acH),(3,acI)],[(3,⟨acJ,fun u3=>Int.toNat u3.2.2.2.1+1⟩),(9,⟨acK,fun _=>iw⟩),(13,⟨acL,fun UK=>Int.toNat UK.2.2.2.1+1⟩)],[],[]⟩) (hold (l:=[IC.Y Aq l f,Yf,Ic,Xf,Ho]) ⟨hY,agl.up rfl (fun _ _=>trivial),QH.up rfl (fun _ _=>trivial),acx.up rfl (fun _ _=>trivial),OO.up rfl (fun _ _=>trivial),trivial⟩) aJ rfl Tryz.call201 Tryz.func201 rfl rfl rfl rfl (fun _=>by kernel_rfl) (fun _=>by kernel_rfl)
def gD(y_:YC)(b3_0:Int)(yt:YC)(yj:Nat)(g1:Nat)(c3_0:Zf):Option (Bool×Rx):=
 NC yt y_ (if yj=0 then(if g1=y_.gs 1 then(Option.bind (α:=Nat×Nat×Zf) (if(List.length c3_0+List.length [b3_0])*8≤aH then(some (0,y_.gs 1,c3_0++[b3_0])) else none) fun r_=>if r_.2.1=y_.gs 1 then(some (Nat.beq r_.1 0,y_,r_.1,r_.2.1,r_.2.2)) else none) else none) else none)
def uC(a0:dK):Option Zf:=
 aI (U:=Zf) (xP fun y2=>(gw y2.l (fun d=>gD y2 d.1 d.2.1 d.2.2.1 d.2.2.2.1 d.2.2.2.2.1) y2.l a0 y2 0 (y2.gs 1) ([]:Zf)).bind fun⟨a,b,_,c⟩=>NC a y2 (if b=0 then(some (.brk c)) else none)) fun v1=>some v1
def acN:SS:=⟨13,53,[tP 2 18],[(18,.var (.slice 8 (.int .i64)) (.own 32)),(30,.uy),(32,.row 3 8 (.int .i64))],[.mp 30]⟩
def acO:SS:=⟨13,53,[tP 2 18,(4,.bn),(6,.func 201 .nil (.cons (.cc ot) .nil))],[(18,.var (.slice 8 (.int .i64)) (.own 29)),(29,.row 3 8 (.int .i64))],[]⟩
def acP:SS:=⟨13,53,[],[(1,.var (.slice 8 (.int .i64)) (.own 27)),(27,.row 3 8 (.int .i64))],[]⟩
def acQ:SS:=⟨13,53,[(4,.val (.slice 8 (.int .i64)))],[],[]⟩
def OQ:aZ:=aF G [.tmp 4] 200 [.bn,.func 201 .nil (.cons (.cc ot) .nil)] [] 53 acQ [] (.br (u1 uC))
theorem OR:hS OQ:=
 cO ⟨[],[(4,acN)],[],[],[],[(3,⟨0,30,31,[(1,.slice 8 (.int .i64))],[(18,1)],[],[(0,31),(1,18),(2,29)],[(113,32)],acO,acP⟩)]⟩ hz (Dr (L:=[Aq]) ⟨OP,trivial⟩) Tryz.call200 Tryz.func200
def jn(a0:dK):Option Zf:=
 (uC a0).bind fun y1=>some y1
def Xh:SS:=⟨5,45,[(2,.val (.slice 8 (.int .i64)))],[],[]⟩
def OS:aZ:=aF G [.tmp 2] 143 [.func 201 .nil (.cons (.cc ot) .nil)] [] 45 Xh [] (.br (u1 jn))
theorem OT:hS OS:=
 cO (hR [hA 1 0]) (hq OR hz) aJ Tryz.call143 Tryz.func143
end Go.Proofs.YtpmlkhjpbjnagaaGreat
