/- part -/
import Derived.Test.YtpmlkhjpbjnagaaGreatF3
noncomputable section
namespace Go.Proofs.YtpmlkhjpbjnagaaGreat
open Go.Ax
def f204(a0:Ze):ZV:=
 some (a0.length:Int)
def acY:SS:=⟨5,45,[tI 2],[],[]⟩
def XF:bh:=aF G [.tmp 2] 204 [.val (.slice 8 (.int .i64))] [] 45 acY [] (.br (u1 f204))
theorem acZ:hS XF:=
 cO (hR []) hz aJ Tryz.call204 Tryz.func204
def py:Nat→Int×Int×Int×Ze→Option (cL (Int×Int×Ze) (Bool×Ze)):=aL fun amC ⟨q,o,p,r⟩=>aI (U:=Int×Int×Int×Int×Ze) (Option.bind (α:=Bool) (if decide (o≤(bq ((bq ((2:Int)*p))+(1:Int)))) then(some true) else(some (decide ((bq ((bq ((2:Int)*p))+(1:Int)))<(0:Int))))) fun v5=>if v5=true then(bU (some (.brk (q,p,r)))) else(some (.brk (q,o,p,bq ((bq ((2:Int)*p))+(1:Int)),r)))) fun⟨d,b,e,a,c⟩=>aI (U:=Int×Int×Int×Int×Ze) (if decide ((bq (a+1))<b) then((lW (bq (a+1)) a c).bind fun⟨f,g⟩=>if f=true then(some (.brk (d,b,e,bq (a+1),g))) else(some (.brk (d,b,e,a,g)))) else(some (.brk (d,b,e,a,c)))) fun⟨k,l,i,h,j⟩=>(lW h i j).bind fun⟨m,n⟩=>if !m then(some (.brk (k,i,n))) else((lY i h n).bind fun y9=>amC (k,l,h,y9))
def uU(a0:Int)(a1:Int)(a2:Ze):Option (Bool×Ze):=
 aI (U:=Int×Int×Ze) (py iB (a0,a1,a0,a2)) fun⟨a,b,c⟩=>some (decide (a<b),c)
def ac0:SS:=⟨48,88,[(0,.iface 333 (pP 0)),tI 1,tI 2,tI 7,tI 8],J1,[]⟩
def ac1:SS:=⟨48,88,[(0,.iface 333 (pP 0)),tI 1,tI 2,tI 7,tI 9],J1,[]⟩
def ac2:SS:=⟨48,88,[tI 1,tI 7],J1,[]⟩
def ac3:SS:=⟨48,88,[(0,.iface 333 (pP 0)),tI 1,tI 2,tI 7],J1,[]⟩
def ac4:SS:=⟨48,88,[(6,vB)],J1,[]⟩
def Pj:bh:=aF G [.tmp 6] 252 [.iface 333 (pP 0),vI,vI] J1 88 ac4 [0,1] (.br (u3 uU))
theorem Pk:hS Pj:=
 cO ⟨[hD 3 21 [],hE 6 [cB 0 [(0,1)] []],hE 8 [cB 0 [(0,1)] []],hE 9 [cB 1 [(0,1)] []]],[(4,ac0),(8,ac1),(11,ac2)],[],[(2,⟨ac3,fun _=>iB⟩)],[],[]⟩ (hq IH (hq BG hz)) aJ Tryz.call252 Tryz.func252
def uV(a0:Ze):Option (Int×Ze):=
 if 0≤(bq ((a0.length:Int) -(1:Int))) then(if(bq ((a0.length:Int) -(1:Int)))<(a0.length:Int) then(if 0≤(bq ((a0.length:Int) -(1:Int))) then(if(bq ((a0.length:Int) -(1:Int)))≤(a0.length:Int) then(some (nth (.int .i64) a0 (bq ((a0.length:Int) -(1:Int))),List.take ((Int.toNat (bq ((a0.length:Int) -(1:Int)))) -0) a0)) else none) else none) else none) else none
def ac5:SS:=⟨32,72,[(2,.iface 3 vI)],[(0,.var tc (.cons (.own 48) .nil)),(48,.row 3 8 (.int .i64))],[]⟩
def Pm:bh:=aF G [.tmp 2] 281 [pP 0] J1 72 ac5 [0,48] (.br (u1 uV))
theorem Pn:hS Pm:=
 cO (hR [(2,⟨[],[],[],none,[],[],[.oY 0 [.cD 0] 48]⟩)]) hz aJ Tryz.call281 Tryz.func281
def jv(a0:Ze):Option (Int×Ze):=
 (rM a0).bind fun⟨a,b⟩=>(lY (0:Int) (bq (a -(1:Int))) b).bind fun y2=>(uU (0:Int) (bq (a -(1:Int))) y2).bind fun⟨_,c⟩=>(uV c).bind fun⟨d,e⟩=>some (d,e)
def ac6:SS:=⟨15,55,[(2,.iface 3 vI)],[(0,.var tc (.cons (.own 30) .nil)),(30,.row 3 8 (.int .i64))],[]⟩
def HP:bh:=aF G [.tmp 2] 205 [.iface 333 (pP 0)] J1 55 ac6 [0,30] (.br (u1 jv))
theorem Po:hS HP:=
 cO (hR [hE 1 [cB 0 [(0,1)] []],hE 2 [cB 1 [(0,1)] []],hE 3 [cB 2 [(0,0),(1,1)] []],hE 4 [cB 3 [(0,0),(1,1)] [(48,30)]]]) (hq IG (hq BG (hq Pk (hq Pn hz)))) aJ Tryz.call205 Tryz.func205
def eB(_l_:Nat)(_Y_:ZK):Nat→Nat×dN×ZY×Int×Int×Tv→Option (cL (Nat×ZY×Tv) Sj):=aL fun rec4 ⟨f,d,g,b,a,h,i,j,k,c,e⟩=>if decide (a<b) then(if 0≤a then(if a<(c.length:Int) then(if 0≤a then(if a<(List.length (List.set c (Int.toNat a) (List.length (aX (aP (.int .i64) (.map (.int .i64) .bool) a (aX d.2.1))):Int)):Int) then(if decide ((nth (.int .i64) (List.set c (Int.toNat a) (List.length (aX (aP (.int .i64) (.map (.int .i64) .bool) a (aX d.2.1))):Int)) a)=(0:Int)) then((rN a e).bind fun y5=>rec4 (f,d,g,b,bq (a+1),h,i,j,k,List.set c (Int.toNat a) (List.length (aX (aP (.int .i64) (.map (.int .i64) .bool) a (aX d.2.1))):Int),y5)) else(rec4 (f,d,g,b,bq (a+1),h,i,j,k,List.set c (Int.toNat a) (List.length (aX (aP (.int .i64) (.map (.int .i64) .bool) a (aX d.2.1))):Int),e))) else none) else none) else none) else none) else(some (.brk (f,g,h,i,j,k,c,e)))
def da(_l_:Nat)(_Y_:ZK):Nat→Nat×ZY×Ze×Int×Int×Tv→Option (cL (Nat×ZY×Tv) (cL Sj Sj)):=aL fun rec15 ⟨f,g,c,b,a,h,i,j,d,k,e⟩=>if decide (a<b) then(if 0≤a then(if a<(c.length:Int) then(if 0≤(nth (.int .i64) c a) then(if(nth (.int .i64) c a)<(d.length:Int) then(if 0≤(nth (.int .i64) c a) then(if(nth (.int .i64) c a)<(d.length:Int) then(if 0≤(nth (.int .i64) c a) then(if(nth (.int .i64) c a)<(List.length (List.set d (Int.toNat (nth (.int .i64) c a)) (bq ((nth (.int .i64) d (nth (.int .i64) c a)) -(1:Int)))):Int) then(if decide ((nth (.int .i64) (List.set d (Int.toNat (nth (.int .i64) c a)) (bq ((nth (.int .i64) d (nth (.int .i64) c a)) -(1:Int)))) (nth (.int .i64) c a))=(0:Int)) then((rN (nth (.int .i64) c a) e).bind fun y16=>rec15 (f,g,c,b,bq (a+1),h,i,j,List.set d (Int.toNat (nth (.int .i64) c a)) (bq ((nth (.int .i64) d (nth (.int .i64) c a)) -(1:Int))),k,y16)) else(rec15 (f,g,c,b,bq (a+1),h,i,j,List.set d (Int.toNat (nth (.int .i64) c a)) (bq ((nth (.int .i64) d (nth (.int .i64) c a)) -(1:Int))),k,e))) else none) else none) else none) else none) else none) else none) else none) else none) else(some (.brk (f,g,h,i,j,d,k,e)))
def dS(l_:Nat)(Y_:ZK):Nat→Nat×ZY×Tv→Option (cL Sj Sj):=aL fun rec8 ⟨z,ae,aa,ab,ac,af,y,ad⟩=>(f204 y).bind fun y9=>if decide ((0:Int)<y9) then(aI (U:=Nat×ZY×Tv) ((jv y).bind fun⟨a,b⟩=>aI (U:=Nat×ZY×Int×Tv) (if z=l_ then((Y_ (a,aa,ab,ac,ad,())).bind fun⟨c,d,e,f,g⟩=>if !c then(bU (bU (bU (some (d,e,f,g))))) else(some (.brk (z,ae,a,d,e,f,af,b,g)))) else none) fun⟨j,i,h,k,l,m,n,p,o⟩=>if 0≤h then(if h<(i.length:Int) then(da l_ Y_ (Int.toNat (List.length (nth (.slice 8 (.int .i64)) i h):Int)+1) (j,i,nth (.slice 8 (.int .i64)) i h,(List.length (nth (.slice 8 (.int .i64)) i h):Int),0,k,l,m,n,o,p)) else none) else none) fun⟨q,r,s,t,u,v,x,w⟩=>rec8 (q,r,s,t,u,v,w,x)) else(some (.brk (aa,ab,ac,ad)))
def gE(l_:Nat)(Y_:ZK)(a0:Nat)(a1:dN)(a2:YC)(a3:Nat)(a4:Nat)(a5:Ze):Option Sj:=
 (f202 a1).bind fun y1=>if 0≤a1.1 then(if a1.1≤a1.1 then(if a1.1*(8:Int)≤(aH:Int) then(aI (U:=Nat×ZY×Tv) (eB l_ Y_ (Int.toNat a1.1+1) (a0,a1,y1,a1.1,0,a2,a3,a4,a5,List.replicate (Int.toNat a1.1) (0:Int),([]:Ze))) fun⟨a,b,c,d,e,h,f,g⟩=>aI (U:=Sj) (dS l_ Y_ iB (a,b,c,d,e,f,g,h)) fun⟨i,j,k,l⟩=>some (i,j,k,l)) else none) else none) else none
def Uh:List (Nat×Sh):=[(0,.Du),(3,.val (.slice 24 (.slice 8 (.int .i64)))),(4,.own 31),tP 5 33]
def ac7:SS:=⟨89,129,Uh,[(0,.lp),(1,.tv (.slice 8 (.int .i64)) (.own 2)),(2,.row 3 8 (.int .i64)),(31,.row 3 8 (.int .i64)),(33,.var tc (.cons (.own 106) .nil)),(106,.row 3 8 (.int .i64))],[]⟩
def ac8:SS:=⟨89,129,[(0,.Du),(3,.val (.slice 24 (.slice 8 (.int .i64)))),(4,.own 31),tP 5 33,tI 7],[(0,.lp),(1,.tv (.slice 8 (.int .i64)) (.own 107)),(31,.row 3 8 (.int .i64)),(33,.var tc (.cons (.own 67) .nil)),(67,.row 3 8 (.int .i64)),(107,.row 3 8 (.int .i64))],[]⟩
def ac9:SS:=⟨89,129,[],[(0,.lp),(1,.tv (.slice 8 (.int .i64)) (.own 112)),(112,.row 3 8 (.int .i64))],[]⟩
def ada:SS:=⟨89,129,Uh,[(0,.lp),(1,.tv (.slice 8 (.int .i64)) (.own 107)),(31,.row 3 8 (.int .i64)),(33,.var tc (.cons (.own 109) .nil)),(107,.row 3 8 (.int .i64)),(109,.row 3 8 (.int .i64))],[]⟩
def adb:SS:=⟨89,129,[(0,.Du),(1,.cd oO),(3,.val (.slice 24 (.slice 8 (.int .i64)))),(4,.own 31),tP 5 33,tI 19,tI 20],[(0,.lp),(1,.tv (.slice 8 (.int .i64)) (.own 2)),(2,.row 3 8 (.int .i64)),(31,.row 3 8 (.int .i64)),(33,.var tc (.cons (.own 105) .nil)),(105,.row 3 8 (.int .i64))],[]⟩
def ade:SS:=⟨89,129,Uh,[(0,.lp),(1,.tv (.slice 8 (.int .i64)) (.own 111)),(31,.row 3 8 (.int .i64)),(33,.var tc (.cons (.own 110) .nil)),(110,.row 3 8 (.int .i64)),(111,.row 3 8 (.int .i64))],[]⟩
def adf:SS:=⟨89,129,[(0,.Du),(3,.val (.slice 24 (.slice 8 (.int .i64)))),(4,.own 31),tP 5 33,(66,.val (.slice 8 (.int .i64))),tI 67,tI 68],[(0,.lp),(1,.tv (.slice 8 (.int .i64)) (.own 107)),(31,.row 3 8 (.int .i64)),(33,.var tc (.cons (.own 108) .nil)),(107,.row 3 8 (.int .i64)),(108,.row 3 8 (.int .i64))],[]⟩
def adg:SS:=⟨89,129,[],[(0,.lp),(1,.tv (.slice 8 (.int .i64)) (.own 113)),(113,.row 3 8 (.int .i64))],[]⟩
def XG:List (Nat×de):=[(0,.lp),(1,.tv (.slice 8 (.int .i64)) (.own 2)),(2,.row 3 8 (.int .i64))]
def AK:IC:=⟨[vI],XG,53,0,[(1,.tv (.slice 8 (.int .i64)) (.own 27)),(27,.row 3 8 (.int .i64))],fun l f=>aF G [] 201 [.Du,.cd oO] XG 129 adg [0,1,113] (.br (u6 (gE l f)))⟩
theorem Pp:AK.holds Tryz.prog gl:=fun B hB l f hY=>
 bh.of tied (H:=⟨[hA 0 1,hE 7 [cB 2 [(0,33),(1,105)] [(22,56)]],hA 9 3,hE 10 [cB 4 [(0,33),(1,110)] [(30,67)]],hE 11 [cB 0 [(0,0),(1,1),(2,111)] [(27,107)]],hE 17 [cB 2 [(0,33),(1,108)] [(22,103)]]],[(9,ac7),(12,ac8)],[(2,ac9),(3,ada)],[(3,⟨adb,fun u3=>Int.toNat u3.2.2.2.1+1⟩),(9,⟨ade,fun _=>iB⟩),(13,⟨adf,fun Vf=>Int.toNat Vf.2.2.2.1+1⟩)],[],[]⟩) (hold (l:=[IC.Y AK l f,YI,II,XF,HP]) ⟨hY,agM.up rfl (fun _ _=>trivial),Rf.up rfl (fun _ _=>trivial),acZ.up rfl (fun _ _=>trivial),Po.up rfl (fun _ _=>trivial),trivial⟩) aJ rfl Tryz.call201 Tryz.func201 rfl rfl rfl rfl (fun _=>by kernel_rfl) (fun _=>by kernel_rfl)
def gK(y_:YC)(b3_0:Int)(yt:YC)(yj:Nat)(g1:Nat)(c3_0:Ze):Option (Bool×Sj):=
 N3 yt y_ (if yj=0 then(if g1=y_.gs 1 then(Option.bind (α:=Nat×Nat×Ze) (if(List.length c3_0+List.length [b3_0])*8≤aH then(some (0,y_.gs 1,c3_0++[b3_0])) else none) fun r_=>if r_.2.1=y_.gs 1 then(some (Nat.beq r_.1 0,y_,r_.1,r_.2.1,r_.2.2)) else none) else none) else none)
def uW(a0:dN):Option Ze:=
 aI (U:=Ze) (yh fun y2=>(gE y2.l (fun d=>gK y2 d.1 d.2.1 d.2.2.1 d.2.2.2.1 d.2.2.2.2.1) y2.l a0 y2 0 (y2.gs 1) ([]:Ze)).bind fun⟨a,b,_,c⟩=>N3 a y2 (if b=0 then(some (.brk c)) else none)) fun v1=>some v1
def adh:SS:=⟨13,53,[tP 2 18],[(18,.var (.slice 8 (.int .i64)) (.own 32)),(30,.uS),(32,.row 3 8 (.int .i64))],[.mp 30]⟩
def adi:SS:=⟨13,53,[tP 2 18,(4,.bn),(6,.func 201 .nil (.cons (.cd oO) .nil))],[(18,.var (.slice 8 (.int .i64)) (.own 29)),(29,.row 3 8 (.int .i64))],[]⟩
def adj:SS:=⟨13,53,[],[(1,.var (.slice 8 (.int .i64)) (.own 27)),(27,.row 3 8 (.int .i64))],[]⟩
def adk:SS:=⟨13,53,[(4,.val (.slice 8 (.int .i64)))],[],[]⟩
def Pq:bh:=aF G [.tmp 4] 200 [.bn,.func 201 .nil (.cons (.cd oO) .nil)] [] 53 adk [] (.br (u1 uW))
theorem Pr:hS Pq:=
 cO ⟨[],[(4,adh)],[],[],[],[(3,⟨0,30,31,[(1,.slice 8 (.int .i64))],[(18,1)],[],[(0,31),(1,18),(2,29)],[(113,32)],adi,adj⟩)]⟩ hz (DL (L:=[AK]) ⟨Pp,trivial⟩) Tryz.call200 Tryz.func200
def jw(a0:dN):Option Ze:=
 (uW a0).bind fun y1=>some y1
def XH:SS:=⟨5,45,[(2,.val (.slice 8 (.int .i64)))],[],[]⟩
def Ps:bh:=aF G [.tmp 2] 143 [.func 201 .nil (.cons (.cd oO) .nil)] [] 45 XH [] (.br (u1 jw))
theorem Pt:hS Ps:=
 cO (hR [hA 1 0]) (hq Pr hz) aJ Tryz.call143 Tryz.func143
end Go.Proofs.YtpmlkhjpbjnagaaGreat
