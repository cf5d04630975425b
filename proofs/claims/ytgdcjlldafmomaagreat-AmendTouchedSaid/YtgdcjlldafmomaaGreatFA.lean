/- part -/
import Derived.Test.YtgdcjlldafmomaaGreatUL
noncomputable section
namespace Go.Proofs.YtgdcjlldafmomaaGreat
open Go.Ax
def ya(a0:Int)(a1:Int)(a2:Int)(a3:bT)(a4:Zd)(a5:Int)(a6:Int)(a7:Bool)(a8:Zf)(a9:Unit)(a10:Zj)(a11:Zh)(a12:Zi):Option (Bool×bT×Zd×Int×Int×Bool×Zf×Unit×Zj×Zh×uC×Zi):=
 aG (U:=Int×Int×Int×bT×Zd×Int×Int×Bool×Zf×Unit×Zj×Zh×Zi×Int×ZX) (if(bw (.int .i64) .bool a0 (bM a8))=true then(if(!decide (a2=(0:Int)))=true then(bZ (some (false,a3,a4,a5,a6,a7,a8,a9,a10,a11,(0,0,0,([]:Ze),()),a12))) else(Option.bind (tY a0 a1 a3 a4 a5 a6 a7 a8 a9 a10 a11 a12) fun⟨a,b,c,d,e,f,g,h,i,j,k⟩=>if(!a)=true then(bZ (some (false,b,c,d,e,f,g,h,i,j,(0,0,0,([]:Ze),()),k))) else(some (.brk (a0,a1,a2,b,c,d,e,f,g,h,i,j,k,0,0,0))))) else(some (.brk (a0,a1,a2,a3,a4,a5,a6,a7,a8,a9,a10,a11,a12,0,0,0)))) fun⟨l,m,n,o,p,q,r,s,t,u,v,w,x,_,_,_⟩=>Option.bind (eB (l,m,n,()) o p q r s t u v w x) fun⟨z,aa,ab,ac,ad,ae,af,ag,ah,y,ai⟩=>some (y.2.2.2.1,z,aa,ab,ac,ad,ae,af,ag,ah,y.1,ai)
def Xo:SS:=⟨39,79,[tP 0 0,tI 1,tI 2,tI 3,tP 8 24],[(0,fB 1 2 3),(1,.map bx cj),(2,.map bC .bool),(3,.row 74 40 bC),(24,.var fL (.cons vI (.cons vI (.cons vI (.cons .bA .nil)))))],[]⟩
def Xp:SS:=⟨39,79,[tP 8 24,(9,vB)],[(0,fB 1 2 55),(1,.map bx cj),(2,.map bC .bool),(24,bV fL),(55,.row 74 40 bC)],[]⟩
def Nb:aW:=aF G [.cell 8 53,.tmp 9] 30 [pP 0,vI,vI,vI] [(0,fB 1 2 3),(1,.map bx cj),(2,.map bC .bool),(3,.row 74 40 bC)] 79 Xp [0,1,2,55] (.bE (Hf ya))
theorem Nc:hS Nb:=
 cO ⟨[hE 1 [cB 0 [(0,0),(1,1),(2,2),(3,3)] []],hE 3 [cB 1 [(0,0),(1,1),(2,2),(3,3)] [(93,50)]]],[(3,Xo)],[],[],[],[]⟩ (hq GP (hq zZ hz)) aI Tryz.call30 Tryz.func30
def f48(a0:Zi):Option Zi:=
 if(List.length ([]:Zi)+List.length a0)*40≤aE then some a0 else none
def Xq:SS:=⟨8,48,[(2,.val (.slice 40 bC))],[],[]⟩
def c48:aW:=aF G [.tmp 2] 48 [.val (.slice 40 bC)] [] 48 Xq [] (.bE (u1 f48))
theorem x48:hS c48:=
 aW.jT tied (H:=⟨[],[],[],[],[],[]⟩) (hold (l:=[]) trivial) rfl (.tmp 0) 3 4 41 41 74 40 bC (fun d=>d.1) (fun d=>⟨(.val (.slice 40 bC) d.1)::.bot::.bA::List.replicate 5 .bot,List.replicate 48 none,[]⟩) Tryz.call48 Tryz.func48 rfl rfl rfl rfl rfl rfl rfl rfl rfl rfl (by kernel_rfl) (fun _=>by kernel_rfl) (fun _=>by kernel_rfl) (fun _=>rfl) (fun _=>by kernel_rfl) (fun _ _=>by kernel_rfl) (fun d h=>by obtain⟨x,y⟩:=d;cases(h:x= []);kernel_rfl) (fun _=>by kernel_rfl)
def yb(a0:bT)(a1:Zd)(a2:Int)(a3:Int)(a4:Bool)(a5:Zf)(a6:Unit)(a7:Zj)(a8:Zh)(a9:Zi):Option (Zi×bT×Zd×Int×Int×Bool×Zf×Zi×Unit×Zj×Zh):=
 Option.bind (f48 a9) fun y1=>some (y1,a0,a1,a2,a3,a4,a5,a9,a6,a7,a8)
def Xr:SS:=⟨8,48,[(2,.val (.slice 40 bC))],[(0,.var jz (.cons (.val fb) (.cons (.val (.map bx (.slice 64 aO))) (.cons vI (.cons vI (.cons vB (.cons (.val (.map (.int .i64) .bool)) (.cons (.mp 1) (.cons (.mp 2) (.cons (.val (.slice 40 bC)) (.val .unit))))))))))),(1,.map bx cj),(2,.map bC .bool)],[]⟩
def Nf:aW:=aF G [.tmp 2] 31 [pP 0] [(0,fB 1 2 3),(1,.map bx cj),(2,.map bC .bool),(3,.row 74 40 bC)] 48 Xr [0,1,2] (.bE (Pj yb))
theorem Ng:hS Nf:=
 cO (hR [(1,⟨[.freeze 3 (.slice 40 bC)],[],[⟨[0],[],[],[],[]⟩],none,[],[],[]⟩)]) (hq x48 hz) aI Tryz.call31 Tryz.func31
def B0(a0:Int)(a1:Int)(a2:bT)(a3:Zd)(a4:Int)(a5:Int)(a6:Bool)(a7:Zf)(a8:Zi)(a9:Unit)(a10:Zj)(a11:Zh):Option (bT×Zd×Int×Int×Bool×Zf×Zi×Unit×Zj×Zh×Zs):=
 some (a2,a3,a4,a5,a6,a7,a8,a9,a10,a11,a2,a3,a0,a1,a6,a7,a9,([]:Zj),([]:Zh),([]:Zi))
def Xs:SS:=⟨20,60,[tP 6 23],[(0,.var jz (.cons (.val fb) (.cons (.val (.map bx (.slice 64 aO))) (.cons vI (.cons vI (.cons vB (.cons (.val (.map (.int .i64) .bool)) (.cons (.mp 1) (.cons (.mp 2) (.cons (.val (.slice 40 bC)) (.val .unit))))))))))),(1,.map bx cj),(2,.map bC .bool),(23,fB 32 33 36),(32,.map bx cj),(33,.map bC .bool),(36,.row 74 40 bC)],[]⟩
def Nh:aW:=aF G [.tmp 6] 29 [pP 0,vI,vI] [(0,.var jz (.cons (.val fb) (.cons (.val (.map bx (.slice 64 aO))) (.cons vI (.cons vI (.cons vB (.cons (.val (.map (.int .i64) .bool)) (.cons (.mp 1) (.cons (.mp 2) (.cons (.val (.slice 40 bC)) (.val .unit))))))))))),(1,.map bx cj),(2,.map bC .bool)] 60 Xs [0,1,2,23,32,33,36] (.bE (Lc B0))
theorem Ni:hS Nh:=
 cO (hR [(3,⟨[.rp 23 [.cw 8] 36 74 40 bC],[],[],none,[],[],[]⟩)]) hz aI Tryz.call29 Tryz.func29
def GN:Nat→Zk×Int×Int×ZJ→Option (cQ ZJ Zd):=aK fun acK ⟨c,b,a,d⟩=>if(decide (a<b))=true then(if 0≤a then(if a<(List.length c:Int) then(if aY bx (nth aO c a).1 (nth aO c a).1=true then(if List.length d+1≤aE then(if(List.length (bw bx (.slice 64 aO) (nth aO c a).1 d)+List.length [nth aO c a])*64≤aE then(acK (c,b,aZ (a+1),bB bx (nth aO c a).1 ((bw bx (.slice 64 aO) (nth aO c a).1 d)++[nth aO c a]) (bB bx (nth aO c a).1 (Ty.aD (.slice 64 aO)) d))) else none) else none) else none) else none) else none) else(some (.brk d))
def f22(a0:Zk):Option Zd:=
 aG (U:=ZJ) (GN (Int.toNat (List.length a0:Int)+1) (a0,(List.length a0:Int),0,([]:ZJ))) fun v1=>some (some v1)
def Xt:SS:=⟨24,64,[(3,.mp 22)],[(22,.pmap bx (.slice 64 aO) 106)],[]⟩
def Xu:SS:=⟨24,64,[(3,.mp 22),(7,.val (.slice 64 aO)),tI 8,tI 9],[(22,.pmap bx (.slice 64 aO) 106)],[]⟩
def Xv:SS:=⟨24,64,[(2,.val (.map bx (.slice 64 aO)))],[],[]⟩
def c22:aW:=aF G [.tmp 2] 22 [.val (.slice 64 aO)] [] 64 Xv [] (.bE (u1 f22))
theorem x22:hS c22:=
 cO ⟨[(2,⟨[.FF 22 106],[],[],none,[],[],[]⟩),(5,⟨[],[],[],none,[],[.map 2 22 40 (.c 5 [.cw 0]),.eJ 22],[.rY 22,.lv 22]⟩),(7,⟨[.EA 22],[],[],none,[],[],[]⟩)],[(7,Xt)],[],[(3,⟨Xu,fun u2=>Int.toNat u2.2.1+1⟩)],[],[]⟩ hz aI Tryz.call22 Tryz.func22
def qp(l_:Nat)(Y_:eQ×YC×Nat×Nat×Zk×Unit→Option (Bool×Le)):Nat→Nat×gX×Int×Zk×Int×Int×Le→Option (cQ Le Le):=aK fun acK ⟨k,i,j,h,g,f,l,m,n,o⟩=>if(decide (f<g))=true then(if 0≤f then(if f<(List.length h:Int) then(if(aY bx (nth aO h f).1 i)=true then(if(decide ((nth aO h f).2.2.2.1≤j))=true then(if k=l_ then(Option.bind (Y_ (nth aO h f,l,m,n,o,())) fun⟨a,b,c,d,e⟩=>if(!a)=true then(bZ (some (b,c,d,e))) else(acK (k,i,j,h,g,aZ (f+1),b,c,d,e))) else none) else(acK (k,i,j,h,g,aZ (f+1),l,m,n,o))) else(acK (k,i,j,h,g,aZ (f+1),l,m,n,o))) else none) else none) else(some (.brk (l,m,n,o)))
def B1(l_:Nat)(Y_:eQ×YC×Nat×Nat×Zk×Unit→Option (Bool×Le))(a0:Nat)(a1:Zk)(a2:gX)(a3:Int)(a4:YC)(a5:Nat)(a6:Nat)(a7:Zk):Option Le:=
 aG (U:=Le) (qp l_ Y_ (Int.toNat (List.length a1:Int)+1) (a0,a2,a3,a1,(List.length a1:Int),0,a4,a5,a6,a7)) fun⟨a,b,c,d⟩=>some (a,b,c,d)
def Xw:SS:=⟨30,70,[],[(0,.lp),(1,.tv (.slice 64 aO) (.own 48)),(48,.row 106 64 aO)],[]⟩
def Xx:SS:=⟨30,70,[(0,.vw),(2,.bL bx),(3,.bL (.int .i64)),(7,.val (.slice 64 aO)),tI 8,tI 9],[(0,.lp),(1,.tv (.slice 64 aO) (.own 47)),(47,.row 106 64 aO)],[]⟩
def Xy:SS:=⟨30,70,[],[(0,.lp),(1,.tv (.slice 64 aO) (.own 49)),(49,.row 106 64 aO)],[]⟩
def B2:IC:=⟨[.val aO],[(0,.lp),(1,.tv (.slice 64 aO) (.own 2)),(2,.row 106 64 aO)],53,0,[(1,.tv (.slice 64 aO) (.own 27)),(27,.row 106 64 aO)],fun l f=>aF G [] 68 [.vw,.bL (.slice 64 aO),.bL bx,.bL (.int .i64)] [(0,.lp),(1,.tv (.slice 64 aO) (.own 2)),(2,.row 106 64 aO)] 70 Xy [0,1,49] (.bE (u8 (B1 l f)))⟩
theorem Nj:B2.holds Tryz.prog gl:=fun B hB l f hY=>
 aW.of tied (H:=⟨[hE 3 [cB 0 [(0,0),(1,1),(2,47)] [(27,46)]]],[],[(0,Xw)],[(1,⟨Xx,fun u2=>Int.toNat u2.2.2.2.2.1+1⟩)],[],[]⟩) (hold (l:=[IC.Y B2 l f]) ⟨hY,trivial⟩) aI rfl Tryz.call68 Tryz.func68 rfl rfl rfl rfl (fun _=>by kernel_rfl) (fun _=>by kernel_rfl)
def mO(y_:YC)(b3_0:eQ)(yt:YC)(yj:Nat)(g1:Nat)(c3_0:Zk):Option (Bool×Le):=
 EC yt y_ (if yj=0 then(if g1=y_.gs 1 then(Option.bind (α:=Nat×Nat×Zk) (if(List.length c3_0+List.length [b3_0])*64≤aE then(some (0,y_.gs 1,c3_0++[b3_0])) else none) fun r_=>if r_.2.1=y_.gs 1 then(some (Nat.beq r_.1 0,y_,r_.1,r_.2.1,r_.2.2)) else none) else none) else none)
def B3(a0:Zk)(a1:gX)(a2:Int):Option Zk:=
 aG (U:=Zk) (tL fun y2=>Option.bind (B1 y2.l (fun d=>mO y2 d.1 d.2.1 d.2.2.1 d.2.2.2.1 d.2.2.2.2.1) y2.l a0 a1 a2 y2 0 (y2.gs 1) ([]:Zk)) fun⟨a,b,_,c⟩=>EC a y2 (if b=0 then(some (.brk c)) else none)) fun v1=>some v1
def Xz:SS:=⟨13,53,[tP 2 18],[(18,.var (.slice 64 aO) (.own 32)),(30,.sI),(32,.row 106 64 aO)],[.mp 30]⟩
def XA:SS:=⟨13,53,[tP 2 18,(4,.bA),(6,.func 68 .nil (.cons (.bL (.slice 64 aO)) (.cons (.bL bx) (.cons (.bL (.int .i64)) .nil))))],[(18,.var (.slice 64 aO) (.own 29)),(29,.row 106 64 aO)],[]⟩
def XB:SS:=⟨13,53,[],[(1,.var (.slice 64 aO) (.own 27)),(27,.row 106 64 aO)],[]⟩
def XC:SS:=⟨13,53,[(4,.val (.slice 64 aO))],[],[]⟩
def Nk:aW:=aF G [.tmp 4] 67 [.bA,.func 68 .nil (.cons (.bL (.slice 64 aO)) (.cons (.bL bx) (.cons (.bL (.int .i64)) .nil)))] [] 53 XC [] (.bE (u3 B3))
theorem Nl:hS Nk:=
 cO ⟨[],[(4,Xz)],[],[],[],[(3,⟨0,30,31,[(1,.slice 64 aO)],[(18,1)],[],[(0,31),(1,18),(2,29)],[(49,32)],XA,XB⟩)]⟩ hz (vN (L:=[B2]) ⟨Nj,trivial⟩) Tryz.call67 Tryz.func67
def B4(a0:Zk)(a1:gX)(a2:Int):Option Zk:=
 Option.bind (B3 a0 a1 a2) fun y1=>some y1
def PT:SS:=⟨5,45,[(2,.val (.slice 64 aO))],[],[]⟩
def Nn:aW:=aF G [.tmp 2] 40 [.func 68 .nil (.cons (.bL (.slice 64 aO)) (.cons (.bL bx) (.cons (.bL (.int .i64)) .nil)))] [] 45 PT [] (.bE (u3 B4))
theorem No:hS Nn:=
 cO (hR [hA 1 0]) (hq Nl hz) aI Tryz.call40 Tryz.func40
end Go.Proofs.YtgdcjlldafmomaaGreat
