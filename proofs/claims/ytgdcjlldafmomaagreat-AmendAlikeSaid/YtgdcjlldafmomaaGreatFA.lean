/- part -/
import Derived.Test.YtgdcjlldafmomaaGreatUK
noncomputable section
namespace Go.Proofs.YtgdcjlldafmomaaGreat
open Go.Ax
def Ml:Nat→Zk×Int×Int×Int×Int×Zn×Ze→Option (cW (Zk×Int×Int×Zn) (cW Zn Ze)):=aK fun rec6 ⟨e,f,g,b,a,d,c⟩=>if(decide (a<b))=true then(if 0≤a then(if a<(List.length c:Int) then(Option.bind (α:=Bool) (if(decide ((0:Int)≤(nth (.int .i64) c a)))=true then(some (decide ((nth (.int .i64) c a)<(1024:Int)))) else(some false)) fun v7=>if v7=true then(if List.length d+1≤aE then(rec6 (e,f,g,b,aZ (a+1),bE (.int .i64) (nth (.int .i64) c a) true d,c)) else none) else(rec6 (e,f,g,b,aZ (a+1),d,c))) else none) else none) else(some (.brk (e,f,g,d)))
def Mm:Nat→Zk×Int×Int×Zn→Option (cW Zn Ze):=aK fun abG ⟨g,f,e,h⟩=>if(decide (e<f))=true then(aG (U:=Zk×Int×Int×Zn) (if 0≤e then(if e<(List.length g:Int) then(Ml (Int.toNat (List.length [(nth aP g e).2.2.1.1,(nth aP g e).2.2.1.2.1]:Int)+1) (g,f,e,(List.length [(nth aP g e).2.2.1.1,(nth aP g e).2.2.1.2.1]:Int),0,h,[(nth aP g e).2.2.1.1,(nth aP g e).2.2.1.2.1])) else none) else none) fun⟨a,b,c,d⟩=>abG (a,b,aZ (c+1),d)) else(some (.brk h))
def f28(a0:bO):Option Ze:=
 if List.length ([]:Zn)+1≤aE then(aG (U:=Zn) (Mm (Int.toNat (List.length a0.2.1:Int)+1) (a0.2.1,(List.length a0.2.1:Int),0,bE (.int .i64) (0:Int) true ([]:Zn))) fun v1=>Option.bind (Gc v1) fun y8=>Option.bind (rF y8) fun⟨_,a⟩=>some a) else none
def OS:SS:=⟨42,82,[(3,.mp 24),(11,.val (.slice 64 aP)),tI 12,tI 13],[(24,.map (.int .i64) .bool)],[]⟩
def Wy:SS:=⟨42,82,[(3,.mp 24)],[(24,.map (.int .i64) .bool)],[]⟩
def Wz:SS:=⟨42,82,[(3,.mp 24),(11,.val (.slice 64 aP)),tI 12,tI 13,(23,.own 39),tI 24,tI 25],[(24,.map (.int .i64) .bool),(39,.row 3 8 (.int .i64))],[]⟩
def WA:SS:=⟨42,82,[(2,.val (.slice 8 (.int .i64)))],[],[]⟩
def c28:aW:=aF G [.tmp 2] 28 [.val fp] [] 82 WA [] (.bH (u1 f28))
theorem x28:hS c28:=
 cO ⟨[hD 8 34 [],hE 12 [cB 0 [(0,24)] [(17,56)],cB 1 [(0,56),(1,24)] [(23,57)]]],[(11,OS),(12,Wy)],[],[(3,⟨OS,fun u2=>Int.toNat u2.2.1+1⟩),(6,⟨Wz,fun u5=>Int.toNat u5.2.2.2.1+1⟩)],[],[]⟩ (hq Md (hq Gz hz)) aJ Tryz.call28 Tryz.func28
def Ge(a0:Int)(a1:Int)(a2:Int)(a3:bO)(a4:Zd)(a5:Int)(a6:Int)(a7:Bool)(a8:Zf)(a9:Unit)(a10:Zj)(a11:Zi)(a12:Zh):Option (Bool×bO×Zd×Int×Int×Bool×Zf×Unit×Zj×Zi×qi×Zh):=
 aG (U:=Int×Int×Int×bO×Zd×Int×Int×Bool×Zf×Unit×Zj×Zi×Zh×Int×ZY) (if(bz (.int .i64) .bool a0 (bU a8))=true then(if(!decide (a2=(0:Int)))=true then(cn (some (false,a3,a4,a5,a6,a7,a8,a9,a10,a11,(0,0,0,([]:Ze),()),a12))) else(Option.bind (oj a0 a1 a3 a4 a5 a6 a7 a8 a9 a10 a11 a12) fun⟨a,b,c,d,e,f,g,h,i,j,k⟩=>if(!a)=true then(cn (some (false,b,c,d,e,f,g,h,i,j,(0,0,0,([]:Ze),()),k))) else(some (.brk (a0,a1,a2,b,c,d,e,f,g,h,i,j,k,0,0,0))))) else(some (.brk (a0,a1,a2,a3,a4,a5,a6,a7,a8,a9,a10,a11,a12,0,0,0)))) fun⟨l,m,n,o,p,q,r,s,t,u,v,w,x,_,_,_⟩=>Option.bind (jO (l,m,n,()) o p q r s t u v w x) fun⟨z,aa,ab,ac,ad,ae,af,ag,ah,y,ai⟩=>some (y.2.2.2.1,z,aa,ab,ac,ad,ae,af,ag,ah,y.1,ai)
def WC:SS:=⟨39,79,[tP 0 0,tI 1,tI 2,tI 3,tP 8 24],[(0,fB 1 2 3),(1,.map bu cp),(2,.map bx .bool),(3,.row 74 40 bx),(24,.var gz (.cons vI (.cons vI (.cons vI (.cons .bA .nil)))))],[]⟩
def WD:SS:=⟨39,79,[tP 8 24,(9,vB)],[(0,fB 1 2 55),(1,.map bu cp),(2,.map bx .bool),(24,bV gz),(55,.row 74 40 bx)],[]⟩
def Mn:aW:=aF G [.cell 8 53,.tmp 9] 30 [pP 0,vI,vI,vI] [(0,fB 1 2 3),(1,.map bu cp),(2,.map bx .bool),(3,.row 74 40 bx)] 79 WD [0,1,2,55] (.bH (Gv Ge))
theorem Mo:hS Mn:=
 cO ⟨[hE 1 [cB 0 [(0,0),(1,1),(2,2),(3,3)] []],hE 3 [cB 1 [(0,0),(1,1),(2,2),(3,3)] [(93,50)]]],[(3,WC)],[],[],[],[]⟩ (hq F3 (hq zA hz)) aJ Tryz.call30 Tryz.func30
def f48(a0:Zh):Option Zh:=
 if(List.length ([]:Zh)+List.length a0)*40≤aE then some a0 else none
def WE:SS:=⟨8,48,[(2,.val (.slice 40 bx))],[],[]⟩
def c48:aW:=aF G [.tmp 2] 48 [.val (.slice 40 bx)] [] 48 WE [] (.bH (u1 f48))
theorem x48:hS c48:=
 aW.jw tied (H:=⟨[],[],[],[],[],[]⟩) (hold (l:=[]) trivial) rfl (.tmp 0) 3 4 41 41 74 40 bx (fun d=>d.1) (fun d=>⟨(.val (.slice 40 bx) d.1)::.bot::.bA::List.replicate 5 .bot,List.replicate 48 none,[]⟩) Tryz.call48 Tryz.func48 rfl rfl rfl rfl rfl rfl rfl rfl rfl rfl (by kernel_rfl) (fun _=>by kernel_rfl) (fun _=>by kernel_rfl) (fun _=>rfl) (fun _=>by kernel_rfl) (fun _ _=>by kernel_rfl) (fun d h=>by obtain⟨x,y⟩:=d;cases(h:x= []);kernel_rfl) (fun _=>by kernel_rfl)
def Gf(a0:bO)(a1:Zd)(a2:Int)(a3:Int)(a4:Bool)(a5:Zf)(a6:Unit)(a7:Zj)(a8:Zi)(a9:Zh):Option (Zh×bO×Zd×Int×Int×Bool×Zf×Zh×Unit×Zj×Zi):=
 Option.bind (f48 a9) fun y1=>some (y1,a0,a1,a2,a3,a4,a5,a9,a6,a7,a8)
def WG:SS:=⟨8,48,[(2,.val (.slice 40 bx))],[(0,.var jM (.cons (.val fp) (.cons (.val (.map bu (.slice 64 aP))) (.cons vI (.cons vI (.cons vB (.cons (.val (.map (.int .i64) .bool)) (.cons (.mp 1) (.cons (.mp 2) (.cons (.val (.slice 40 bx)) (.val .unit))))))))))),(1,.map bu cp),(2,.map bx .bool)],[]⟩
def Mp:aW:=aF G [.tmp 2] 31 [pP 0] [(0,fB 1 2 3),(1,.map bu cp),(2,.map bx .bool),(3,.row 74 40 bx)] 48 WG [0,1,2] (.bH (NV Gf))
theorem Mq:hS Mp:=
 cO (hR [(1,⟨[.freeze 3 (.slice 40 bx)],[],[⟨[0],[],[],[],[]⟩],none,[],[],[]⟩)]) (hq x48 hz) aJ Tryz.call31 Tryz.func31
def Gg(a0:Int)(a1:Int)(a2:bO)(a3:Zd)(a4:Int)(a5:Int)(a6:Bool)(a7:Zf)(a8:Zh)(a9:Unit)(a10:Zj)(a11:Zi):Option (bO×Zd×Int×Int×Bool×Zf×Zh×Unit×Zj×Zi×Zt):=
 some (a2,a3,a4,a5,a6,a7,a8,a9,a10,a11,a2,a3,a0,a1,a6,a7,a9,([]:Zj),([]:Zi),([]:Zh))
def WH:SS:=⟨20,60,[tP 6 23],[(0,.var jM (.cons (.val fp) (.cons (.val (.map bu (.slice 64 aP))) (.cons vI (.cons vI (.cons vB (.cons (.val (.map (.int .i64) .bool)) (.cons (.mp 1) (.cons (.mp 2) (.cons (.val (.slice 40 bx)) (.val .unit))))))))))),(1,.map bu cp),(2,.map bx .bool),(23,fB 32 33 36),(32,.map bu cp),(33,.map bx .bool),(36,.row 74 40 bx)],[]⟩
def Mr:aW:=aF G [.tmp 6] 29 [pP 0,vI,vI] [(0,.var jM (.cons (.val fp) (.cons (.val (.map bu (.slice 64 aP))) (.cons vI (.cons vI (.cons vB (.cons (.val (.map (.int .i64) .bool)) (.cons (.mp 1) (.cons (.mp 2) (.cons (.val (.slice 40 bx)) (.val .unit))))))))))),(1,.map bu cp),(2,.map bx .bool)] 60 WH [0,1,2,23,32,33,36] (.bH (Ko Gg))
theorem Ms:hS Mr:=
 cO (hR [(3,⟨[.rp 23 [.cD 8] 36 74 40 bx],[],[],none,[],[],[]⟩)]) hz aJ Tryz.call29 Tryz.func29
def Gi:Nat→Zk×Int×Int×ZF→Option (cW ZF Zd):=aK fun abG ⟨c,b,a,d⟩=>if(decide (a<b))=true then(if 0≤a then(if a<(List.length c:Int) then(if aX bu (nth aP c a).1 (nth aP c a).1=true then(if List.length d+1≤aE then(if(List.length (bz bu (.slice 64 aP) (nth aP c a).1 d)+List.length [nth aP c a])*64≤aE then(abG (c,b,aZ (a+1),bE bu (nth aP c a).1 ((bz bu (.slice 64 aP) (nth aP c a).1 d)++[nth aP c a]) (bE bu (nth aP c a).1 (Ty.aD (.slice 64 aP)) d))) else none) else none) else none) else none) else none) else(some (.brk d))
def f22(a0:Zk):Option Zd:=
 aG (U:=ZF) (Gi (Int.toNat (List.length a0:Int)+1) (a0,(List.length a0:Int),0,([]:ZF))) fun v1=>some (some v1)
def WI:SS:=⟨24,64,[(3,.mp 22)],[(22,.pmap bu (.slice 64 aP) 106)],[]⟩
def WJ:SS:=⟨24,64,[(3,.mp 22),(7,.val (.slice 64 aP)),tI 8,tI 9],[(22,.pmap bu (.slice 64 aP) 106)],[]⟩
def WK:SS:=⟨24,64,[(2,.val (.map bu (.slice 64 aP)))],[],[]⟩
def c22:aW:=aF G [.tmp 2] 22 [.val (.slice 64 aP)] [] 64 WK [] (.bH (u1 f22))
theorem x22:hS c22:=
 cO ⟨[(2,⟨[.Fz 22 106],[],[],none,[],[],[]⟩),(5,⟨[],[],[],none,[],[.map 2 22 40 (.c 5 [.cD 0]),.eP 22],[.sf 22,.lM 22]⟩),(7,⟨[.D1 22],[],[],none,[],[],[]⟩)],[(7,WI)],[],[(3,⟨WJ,fun u2=>Int.toNat u2.2.1+1⟩)],[],[]⟩ hz aJ Tryz.call22 Tryz.func22
def qo(l_:Nat)(Y_:fa×YC×Nat×Nat×Zk×Unit→Option (Bool×Kq)):Nat→Nat×ib×Int×Zk×Int×Int×Kq→Option (cW Kq Kq):=aK fun abG ⟨k,i,j,h,g,f,l,m,n,o⟩=>if(decide (f<g))=true then(if 0≤f then(if f<(List.length h:Int) then(if(aX bu (nth aP h f).1 i)=true then(if(decide ((nth aP h f).2.2.2.1≤j))=true then(if k=l_ then(Option.bind (Y_ (nth aP h f,l,m,n,o,())) fun⟨a,b,c,d,e⟩=>if(!a)=true then(cn (some (b,c,d,e))) else(abG (k,i,j,h,g,aZ (f+1),b,c,d,e))) else none) else(abG (k,i,j,h,g,aZ (f+1),l,m,n,o))) else(abG (k,i,j,h,g,aZ (f+1),l,m,n,o))) else none) else none) else(some (.brk (l,m,n,o)))
def Bx(l_:Nat)(Y_:fa×YC×Nat×Nat×Zk×Unit→Option (Bool×Kq))(a0:Nat)(a1:Zk)(a2:ib)(a3:Int)(a4:YC)(a5:Nat)(a6:Nat)(a7:Zk):Option Kq:=
 aG (U:=Kq) (qo l_ Y_ (Int.toNat (List.length a1:Int)+1) (a0,a2,a3,a1,(List.length a1:Int),0,a4,a5,a6,a7)) fun⟨a,b,c,d⟩=>some (a,b,c,d)
def WM:SS:=⟨30,70,[],[(0,.lp),(1,.tv (.slice 64 aP) (.own 48)),(48,.row 106 64 aP)],[]⟩
def WN:SS:=⟨30,70,[(0,.vw),(2,.bN bu),(3,.bN (.int .i64)),(7,.val (.slice 64 aP)),tI 8,tI 9],[(0,.lp),(1,.tv (.slice 64 aP) (.own 47)),(47,.row 106 64 aP)],[]⟩
def WO:SS:=⟨30,70,[],[(0,.lp),(1,.tv (.slice 64 aP) (.own 49)),(49,.row 106 64 aP)],[]⟩
def By:IC:=⟨[.val aP],[(0,.lp),(1,.tv (.slice 64 aP) (.own 2)),(2,.row 106 64 aP)],53,0,[(1,.tv (.slice 64 aP) (.own 27)),(27,.row 106 64 aP)],fun l f=>aF G [] 68 [.vw,.bN (.slice 64 aP),.bN bu,.bN (.int .i64)] [(0,.lp),(1,.tv (.slice 64 aP) (.own 2)),(2,.row 106 64 aP)] 70 WO [0,1,49] (.bH (u8 (Bx l f)))⟩
theorem Mt:By.holds Tryz.prog gl:=fun B hB l f hY=>
 aW.of tied (H:=⟨[hE 3 [cB 0 [(0,0),(1,1),(2,47)] [(27,46)]]],[],[(0,WM)],[(1,⟨WN,fun u2=>Int.toNat u2.2.2.2.2.1+1⟩)],[],[]⟩) (hold (l:=[IC.Y By l f]) ⟨hY,trivial⟩) aJ rfl Tryz.call68 Tryz.func68 rfl rfl rfl rfl (fun _=>by kernel_rfl) (fun _=>by kernel_rfl)
def nf(y_:YC)(b3_0:fa)(yt:YC)(yj:Nat)(g1:Nat)(c3_0:Zk):Option (Bool×Kq):=
 DZ yt y_ (if yj=0 then(if g1=y_.gs 1 then(Option.bind (α:=Nat×Nat×Zk) (if(List.length c3_0+List.length [b3_0])*64≤aE then(some (0,y_.gs 1,c3_0++[b3_0])) else none) fun r_=>if r_.2.1=y_.gs 1 then(some (Nat.beq r_.1 0,y_,r_.1,r_.2.1,r_.2.2)) else none) else none) else none)
def Bz(a0:Zk)(a1:ib)(a2:Int):Option Zk:=
 aG (U:=Zk) (sJ fun y2=>Option.bind (Bx y2.l (fun d=>nf y2 d.1 d.2.1 d.2.2.1 d.2.2.2.1 d.2.2.2.2.1) y2.l a0 a1 a2 y2 0 (y2.gs 1) ([]:Zk)) fun⟨a,b,_,c⟩=>DZ a y2 (if b=0 then(some (.brk c)) else none)) fun v1=>some v1
def WQ:SS:=⟨13,53,[tP 2 18],[(18,.var (.slice 64 aP) (.own 32)),(30,.sS),(32,.row 106 64 aP)],[.mp 30]⟩
def WR:SS:=⟨13,53,[tP 2 18,(4,.bA),(6,.func 68 .nil (.cons (.bN (.slice 64 aP)) (.cons (.bN bu) (.cons (.bN (.int .i64)) .nil))))],[(18,.var (.slice 64 aP) (.own 29)),(29,.row 106 64 aP)],[]⟩
def WS:SS:=⟨13,53,[],[(1,.var (.slice 64 aP) (.own 27)),(27,.row 106 64 aP)],[]⟩
def WT:SS:=⟨13,53,[(4,.val (.slice 64 aP))],[],[]⟩
def Mu:aW:=aF G [.tmp 4] 67 [.bA,.func 68 .nil (.cons (.bN (.slice 64 aP)) (.cons (.bN bu) (.cons (.bN (.int .i64)) .nil)))] [] 53 WT [] (.bH (u3 Bz))
theorem Mv:hS Mu:=
 cO ⟨[],[(4,WQ)],[],[],[],[(3,⟨0,30,31,[(1,.slice 64 aP)],[(18,1)],[],[(0,31),(1,18),(2,29)],[(49,32)],WR,WS⟩)]⟩ hz (uQ (L:=[By]) ⟨Mt,trivial⟩) Tryz.call67 Tryz.func67
def BA(a0:Zk)(a1:ib)(a2:Int):Option Zk:=
 Option.bind (Bz a0 a1 a2) fun y1=>some y1
def OT:SS:=⟨5,45,[(2,.val (.slice 64 aP))],[],[]⟩
def Mw:aW:=aF G [.tmp 2] 40 [.func 68 .nil (.cons (.bN (.slice 64 aP)) (.cons (.bN bu) (.cons (.bN (.int .i64)) .nil)))] [] 45 OT [] (.bH (u3 BA))
theorem Mx:hS Mw:=
 cO (hR [hA 1 0]) (hq Mv hz) aJ Tryz.call40 Tryz.func40
end Go.Proofs.YtgdcjlldafmomaaGreat
