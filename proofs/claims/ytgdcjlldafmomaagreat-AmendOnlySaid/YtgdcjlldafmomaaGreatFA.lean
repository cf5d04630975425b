/- Made by program (dec6.py): walks -/
import Derived.Test.YtgdcjlldafmomaaGreatUK
noncomputable section
namespace Go.Proofs.YtgdcjlldafmomaaGreat
open Go.Ax
def KD:Nat→Zl×Int×Int×Int×Int×Zn×Zf→Option (cz (Zl×Int×Int×Zn) (cz Zn Zf)):=aH fun rec6 ⟨e,f,g,b,a,d,c⟩=>if(decide (a<b))=true then(if 0≤a then(if a<(List.length c:Int) then(Option.bind (α:=Bool) (if(decide ((0:Int)≤(nth (.int .i64) c a)))=true then(some (decide ((nth (.int .i64) c a)<(1024:Int)))) else(some false)) fun v7=>if v7=true then(if List.length d+1≤aC then(rec6 (e,f,g,b,aV (a+1),bz (.int .i64) (nth (.int .i64) c a) true d,c)) else none) else(rec6 (e,f,g,b,aV (a+1),d,c))) else none) else none) else(some (.brk (e,f,g,d)))
def KE:Nat→Zl×Int×Int×Zn→Option (cz Zn Zf):=aH fun Z9 ⟨g,f,e,h⟩=>if(decide (e<f))=true then(aE (U:=Zl×Int×Int×Zn) (if 0≤e then(if e<(List.length g:Int) then(KD (Int.toNat (List.length [(nth aR g e).2.2.1.1,(nth aR g e).2.2.1.2.1]:Int)+1) (g,f,e,(List.length [(nth aR g e).2.2.1.1,(nth aR g e).2.2.1.2.1]:Int),0,h,[(nth aR g e).2.2.1.1,(nth aR g e).2.2.1.2.1])) else none) else none) fun⟨a,b,c,d⟩=>Z9 (a,b,aV (c+1),d)) else(some (.brk h))
def f28(a0:bL):Option Zf:=
 if List.length ([]:Zn)+1≤aC then(aE (U:=Zn) (KE (Int.toNat (List.length a0.2.1:Int)+1) (a0.2.1,(List.length a0.2.1:Int),0,bz (.int .i64) (0:Int) true ([]:Zn))) fun v1=>Option.bind (Eg v1) fun y8=>Option.bind (oL y8) fun⟨_,a⟩=>some a) else none
def Nc:SS:=⟨42,82,[(3,.mp 24),(11,.val (.slice 64 aR)),tI 12,tI 13],[(24,.map (.int .i64) .bool)],[]⟩
def UX:SS:=⟨42,82,[(3,.mp 24)],[(24,.map (.int .i64) .bool)],[]⟩
def UY:SS:=⟨42,82,[(3,.mp 24),(11,.val (.slice 64 aR)),tI 12,tI 13,(23,.own 39),tI 24,tI 25],[(24,.map (.int .i64) .bool),(39,.row 3 8 (.int .i64))],[]⟩
def UZ:SS:=⟨42,82,[(2,.val (.slice 8 (.int .i64)))],[],[]⟩
def YZ:aT:=aD G [.tmp 2] 28 [.val dF] [] 82 UZ [] (.bx (u1 f28))
theorem Y0:hS YZ:=
 cO ⟨[hD 8 34 [],hE 12 [cB 0 [(0,24)] [(17,56)],cB 1 [(0,56),(1,24)] [(23,57)]]],[(11,Nc),(12,UX)],[],[(3,⟨Nc,fun u2=>Int.toNat u2.2.1+1⟩),(6,⟨UY,fun u5=>Int.toNat u5.2.2.2.1+1⟩)],[],[]⟩ (hq Kv (hq ED hz)) aF Tryz.call28 Tryz.func28
def Eh(a0:Int)(a1:Int)(a2:Int)(a3:bL)(a4:Zd)(a5:Int)(a6:Int)(a7:Bool)(a8:Ze)(a9:Unit)(a10:Zj)(a11:Zi)(a12:Zh):Option (Bool×bL×Zd×Int×Int×Bool×Ze×Unit×Zj×Zi×nD×Zh):=
 aE (U:=Int×Int×Int×bL×Zd×Int×Int×Bool×Ze×Unit×Zj×Zi×Zh×Int×ZY) (if(bJ (.int .i64) .bool a0 (bT a8))=true then(if(!decide (a2=(0:Int)))=true then(bP (some (false,a3,a4,a5,a6,a7,a8,a9,a10,a11,(0,0,0,([]:Zf),()),a12))) else(Option.bind (ri a0 a1 a3 a4 a5 a6 a7 a8 a9 a10 a11 a12) fun⟨a,b,c,d,e,f,g,h,i,j,k⟩=>if(!a)=true then(bP (some (false,b,c,d,e,f,g,h,i,j,(0,0,0,([]:Zf),()),k))) else(some (.brk (a0,a1,a2,b,c,d,e,f,g,h,i,j,k,0,0,0))))) else(some (.brk (a0,a1,a2,a3,a4,a5,a6,a7,a8,a9,a10,a11,a12,0,0,0)))) fun⟨l,m,n,o,p,q,r,s,t,u,v,w,x,_,_,_⟩=>Option.bind (gZ (l,m,n,()) o p q r s t u v w x) fun⟨z,aa,ab,ac,ad,ae,af,ag,ah,y,ai⟩=>some (y.2.2.2.1,z,aa,ab,ac,ad,ae,af,ag,ah,y.1,ai)
def U0:SS:=⟨39,79,[tP 0 0,tI 1,tI 2,tI 3,tP 8 24],[(0,fB 1 2 3),(1,.map bE bU),(2,.map aZ .bool),(3,.row 74 40 aZ),(24,.var eW (.cons vI (.cons vI (.cons vI (.cons .aX .nil)))))],[]⟩
def U1:SS:=⟨39,79,[tP 8 24,(9,vB)],[(0,fB 1 2 55),(1,.map bE bU),(2,.map aZ .bool),(24,bV eW),(55,.row 74 40 aZ)],[]⟩
def KF:aT:=aD G [.cell 8 53,.tmp 9] 30 [pP 0,vI,vI,vI] [(0,fB 1 2 3),(1,.map bE bU),(2,.map aZ .bool),(3,.row 74 40 aZ)] 79 U1 [0,1,2,55] (.bx (Ew Eh))
theorem KG:hS KF:=
 cO ⟨[hE 1 [cB 0 [(0,0),(1,1),(2,2),(3,3)] []],hE 3 [cB 1 [(0,0),(1,1),(2,2),(3,3)] [(93,50)]]],[(3,U0)],[],[],[],[]⟩ (hq D8 (hq xh hz)) aF Tryz.call30 Tryz.func30
def f48(a0:Zh):Option Zh:=
 if(List.length ([]:Zh)+List.length a0)*40≤aC then some a0 else none
def U2:SS:=⟨8,48,[(2,.val (.slice 40 aZ))],[],[]⟩
def Y1:aT:=aD G [.tmp 2] 48 [.val (.slice 40 aZ)] [] 48 U2 [] (.bx (u1 f48))
theorem Y2:hS Y1:=
 aT.gL tied (H:=⟨[],[],[],[],[],[]⟩) (hold (l:=[]) trivial) rfl (.tmp 0) 3 4 41 41 74 40 aZ (fun d=>d.1) (fun d=>⟨(.val (.slice 40 aZ) d.1)::.bot::.aX::List.replicate 5 .bot,List.replicate 48 none,[]⟩) Tryz.call48 Tryz.func48 rfl rfl rfl rfl rfl rfl rfl rfl rfl rfl (by kernel_rfl) (fun _=>by kernel_rfl) (fun _=>by kernel_rfl) (fun _=>rfl) (fun _=>by kernel_rfl) (fun _ _=>by kernel_rfl) (fun d h=>by obtain⟨x,y⟩:=d;cases(h:x= []);kernel_rfl) (fun _=>by kernel_rfl)
def Ei(a0:bL)(a1:Zd)(a2:Int)(a3:Int)(a4:Bool)(a5:Ze)(a6:Unit)(a7:Zj)(a8:Zi)(a9:Zh):Option (Zh×bL×Zd×Int×Int×Bool×Ze×Zh×Unit×Zj×Zi):=
 Option.bind (f48 a9) fun y1=>some (y1,a0,a1,a2,a3,a4,a5,a9,a6,a7,a8)
def U3:SS:=⟨8,48,[(2,.val (.slice 40 aZ))],[(0,.var gY (.cons (.val dF) (.cons (.val (.map bE (.slice 64 aR))) (.cons vI (.cons vI (.cons vB (.cons (.val (.map (.int .i64) .bool)) (.cons (.mp 1) (.cons (.mp 2) (.cons (.val (.slice 40 aZ)) (.val .unit))))))))))),(1,.map bE bU),(2,.map aZ .bool)],[]⟩
def KH:aT:=aD G [.tmp 2] 31 [pP 0] [(0,fB 1 2 3),(1,.map bE bU),(2,.map aZ .bool),(3,.row 74 40 aZ)] 48 U3 [0,1,2] (.bx (Mg Ei))
theorem KJ:hS KH:=
 cO (hR [(1,⟨[.freeze 3 (.slice 40 aZ)],[],[⟨[0],[],[],[],[]⟩],none,[],[],[]⟩)]) (hq Y2 hz) aF Tryz.call31 Tryz.func31
def Ej(a0:Int)(a1:Int)(a2:bL)(a3:Zd)(a4:Int)(a5:Int)(a6:Bool)(a7:Ze)(a8:Zh)(a9:Unit)(a10:Zj)(a11:Zi):Option (bL×Zd×Int×Int×Bool×Ze×Zh×Unit×Zj×Zi×Zs):=
 some (a2,a3,a4,a5,a6,a7,a8,a9,a10,a11,a2,a3,a0,a1,a6,a7,a9,([]:Zj),([]:Zi),([]:Zh))
def U4:SS:=⟨20,60,[tP 6 23],[(0,.var gY (.cons (.val dF) (.cons (.val (.map bE (.slice 64 aR))) (.cons vI (.cons vI (.cons vB (.cons (.val (.map (.int .i64) .bool)) (.cons (.mp 1) (.cons (.mp 2) (.cons (.val (.slice 40 aZ)) (.val .unit))))))))))),(1,.map bE bU),(2,.map aZ .bool),(23,fB 32 33 36),(32,.map bE bU),(33,.map aZ .bool),(36,.row 74 40 aZ)],[]⟩
def KK:aT:=aD G [.tmp 6] 29 [pP 0,vI,vI] [(0,.var gY (.cons (.val dF) (.cons (.val (.map bE (.slice 64 aR))) (.cons vI (.cons vI (.cons vB (.cons (.val (.map (.int .i64) .bool)) (.cons (.mp 1) (.cons (.mp 2) (.cons (.val (.slice 40 aZ)) (.val .unit))))))))))),(1,.map bE bU),(2,.map aZ .bool)] 60 U4 [0,1,2,23,32,33,36] (.bx (IJ Ej))
theorem KL:hS KK:=
 cO (hR [(3,⟨[.oD 23 [.bZ 8] 36 74 40 aZ],[],[],none,[],[],[]⟩)]) hz aF Tryz.call29 Tryz.func29
def KM:Nat→Zl×Int×Int×Ex→Option (cz Ex Zd):=aH fun Z9 ⟨c,b,a,d⟩=>if(decide (a<b))=true then(if 0≤a then(if a<(List.length c:Int) then(if aU bE (nth aR c a).1 (nth aR c a).1=true then(if List.length d+1≤aC then(if(List.length (bJ bE (.slice 64 aR) (nth aR c a).1 d)+List.length [nth aR c a])*64≤aC then(Z9 (c,b,aV (a+1),bz bE (nth aR c a).1 ((bJ bE (.slice 64 aR) (nth aR c a).1 d)++[nth aR c a]) (bz bE (nth aR c a).1 (Ty.aB (.slice 64 aR)) d))) else none) else none) else none) else none) else none) else(some (.brk d))
def f22(a0:Zl):Option Zd:=
 aE (U:=Ex) (KM (Int.toNat (List.length a0:Int)+1) (a0,(List.length a0:Int),0,([]:Ex))) fun v1=>some (some v1)
def U5:SS:=⟨24,64,[(3,.mp 22)],[(22,.pmap bE (.slice 64 aR) 106)],[]⟩
def U6:SS:=⟨24,64,[(3,.mp 22),(7,.val (.slice 64 aR)),tI 8,tI 9],[(22,.pmap bE (.slice 64 aR) 106)],[]⟩
def U7:SS:=⟨24,64,[(2,.val (.map bE (.slice 64 aR)))],[],[]⟩
def Y3:aT:=aD G [.tmp 2] 22 [.val (.slice 64 aR)] [] 64 U7 [] (.bx (u1 f22))
theorem Y4:hS Y3:=
 cO ⟨[(2,⟨[.DJ 22 106],[],[],none,[],[],[]⟩),(5,⟨[],[],[],none,[],[.map 2 22 40 (.c 5 [.bZ 0]),.dH 22],[.pt 22,.jH 22]⟩),(7,⟨[.Cc 22],[],[],none,[],[],[]⟩)],[(7,U5)],[],[(3,⟨U6,fun u2=>Int.toNat u2.2.1+1⟩)],[],[]⟩ hz aF Tryz.call22 Tryz.func22
def nJ(l_:Nat)(Y_:ef×YC×Nat×Nat×Zl×Unit→Option (Bool×IL)):Nat→Nat×fQ×Int×Zl×Int×Int×IL→Option (cz IL IL):=aH fun Z9 ⟨k,i,j,h,g,f,l,m,n,o⟩=>if(decide (f<g))=true then(if 0≤f then(if f<(List.length h:Int) then(if(aU bE (nth aR h f).1 i)=true then(if(decide ((nth aR h f).2.2.2.1≤j))=true then(if k=l_ then(Option.bind (Y_ (nth aR h f,l,m,n,o,())) fun⟨a,b,c,d,e⟩=>if(!a)=true then(bP (some (b,c,d,e))) else(Z9 (k,i,j,h,g,aV (f+1),b,c,d,e))) else none) else(Z9 (k,i,j,h,g,aV (f+1),l,m,n,o))) else(Z9 (k,i,j,h,g,aV (f+1),l,m,n,o))) else none) else none) else(some (.brk (l,m,n,o)))
def zv(l_:Nat)(Y_:ef×YC×Nat×Nat×Zl×Unit→Option (Bool×IL))(a0:Nat)(a1:Zl)(a2:fQ)(a3:Int)(a4:YC)(a5:Nat)(a6:Nat)(a7:Zl):Option IL:=
 aE (U:=IL) (nJ l_ Y_ (Int.toNat (List.length a1:Int)+1) (a0,a2,a3,a1,(List.length a1:Int),0,a4,a5,a6,a7)) fun⟨a,b,c,d⟩=>some (a,b,c,d)
def U8:SS:=⟨30,70,[],[(0,.lp),(1,.tv (.slice 64 aR) (.own 48)),(48,.row 106 64 aR)],[]⟩
def U9:SS:=⟨30,70,[(0,.sH),(2,.bD bE),(3,.bD (.int .i64)),(7,.val (.slice 64 aR)),tI 8,tI 9],[(0,.lp),(1,.tv (.slice 64 aR) (.own 47)),(47,.row 106 64 aR)],[]⟩
def Va:SS:=⟨30,70,[],[(0,.lp),(1,.tv (.slice 64 aR) (.own 49)),(49,.row 106 64 aR)],[]⟩
def zw:IC:=⟨[.val aR],[(0,.lp),(1,.tv (.slice 64 aR) (.own 2)),(2,.row 106 64 aR)],53,0,[(1,.tv (.slice 64 aR) (.own 27)),(27,.row 106 64 aR)],fun l f=>aD G [] 68 [.sH,.bD (.slice 64 aR),.bD bE,.bD (.int .i64)] [(0,.lp),(1,.tv (.slice 64 aR) (.own 2)),(2,.row 106 64 aR)] 70 Va [0,1,49] (.bx (u8 (zv l f)))⟩
theorem KN:zw.holds Tryz.prog gl:=fun B hB l f hY=>
 aT.of tied (H:=⟨[hE 3 [cB 0 [(0,0),(1,1),(2,47)] [(27,46)]]],[],[(0,U8)],[(1,⟨U9,fun u2=>Int.toNat u2.2.2.2.2.1+1⟩)],[],[]⟩) (hold (l:=[IC.Y zw l f]) ⟨hY,trivial⟩) aF rfl Tryz.call68 Tryz.func68 rfl rfl rfl rfl (fun _=>by kernel_rfl) (fun _=>by kernel_rfl)
def kV(y_:YC)(b3_0:ef)(yt:YC)(yj:Nat)(g1:Nat)(c3_0:Zl):Option (Bool×IL):=
 Ca yt y_ (if yj=0 then(if g1=y_.gs 1 then(Option.bind (α:=Nat×Nat×Zl) (if(List.length c3_0+List.length [b3_0])*64≤aC then(some (0,y_.gs 1,c3_0++[b3_0])) else none) fun r_=>if r_.2.1=y_.gs 1 then(some (Nat.beq r_.1 0,y_,r_.1,r_.2.1,r_.2.2)) else none) else none) else none)
def zx(a0:Zl)(a1:fQ)(a2:Int):Option Zl:=
 aE (U:=Zl) (pX fun y2=>Option.bind (zv y2.l (fun d=>kV y2 d.1 d.2.1 d.2.2.1 d.2.2.2.1 d.2.2.2.2.1) y2.l a0 a1 a2 y2 0 (y2.gs 1) ([]:Zl)) fun⟨a,b,_,c⟩=>Ca a y2 (if b=0 then(some (.brk c)) else none)) fun v1=>some v1
def Vb:SS:=⟨13,53,[tP 2 18],[(18,.var (.slice 64 aR) (.own 32)),(30,.qf),(32,.row 106 64 aR)],[.mp 30]⟩
def Vc:SS:=⟨13,53,[tP 2 18,(4,.aX),(6,.func 68 .nil (.cons (.bD (.slice 64 aR)) (.cons (.bD bE) (.cons (.bD (.int .i64)) .nil))))],[(18,.var (.slice 64 aR) (.own 29)),(29,.row 106 64 aR)],[]⟩
def Vd:SS:=⟨13,53,[],[(1,.var (.slice 64 aR) (.own 27)),(27,.row 106 64 aR)],[]⟩
def Ve:SS:=⟨13,53,[(4,.val (.slice 64 aR))],[],[]⟩
def KQ:aT:=aD G [.tmp 4] 67 [.aX,.func 68 .nil (.cons (.bD (.slice 64 aR)) (.cons (.bD bE) (.cons (.bD (.int .i64)) .nil)))] [] 53 Ve [] (.bx (u3 zx))
theorem KR:hS KQ:=
 cO ⟨[],[(4,Vb)],[],[],[],[(3,⟨0,30,31,[(1,.slice 64 aR)],[(18,1)],[],[(0,31),(1,18),(2,29)],[(49,32)],Vc,Vd⟩)]⟩ hz (sh (L:=[zw]) ⟨KN,trivial⟩) Tryz.call67 Tryz.func67
def zz(a0:Zl)(a1:fQ)(a2:Int):Option Zl:=
 Option.bind (zx a0 a1 a2) fun y1=>some y1
def Nf:SS:=⟨5,45,[(2,.val (.slice 64 aR))],[],[]⟩
def KT:aT:=aD G [.tmp 2] 40 [.func 68 .nil (.cons (.bD (.slice 64 aR)) (.cons (.bD bE) (.cons (.bD (.int .i64)) .nil)))] [] 45 Nf [] (.bx (u3 zz))
theorem KU:hS KT:=
 cO (hR [hA 1 0]) (hq KR hz) aF Tryz.call40 Tryz.func40
end Go.Proofs.YtgdcjlldafmomaaGreat
