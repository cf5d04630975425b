/- part -/
import Derived.Test.YtgdcjlldafmomaaGreatUD
noncomputable section
namespace Go.Proofs.YtgdcjlldafmomaaGreat
open Go.Ax
def wi:Nat→Int×Int×Zd×Zi×Int×Int×ZG×Int×Int×vP×IW→Option (cQ (Int×Int×Zd×Zi×Int×Int×IW) (cQ Unit Bool)):=aK fun rec11 ⟨e,f,g,h,i,j,c,b,a,d,k⟩=>if(decide (a<b))=true then(if 0≤a then(if a<(List.length c:Int) then(if(decide ((imax (nth nW c a).1 d.2.1)<(px (nth nW c a).2.1 d.2.2.1)))=true then(bZ (bZ (some false))) else(rec11 (e,f,g,h,i,j,c,b,aZ (a+1),d,k))) else none) else none) else(some (.brk (e,f,g,h,i,j,k)))
def KT:Nat→Int×Int×Zd×Zi×Int×Int×IW→Zt:=aK fun rec4 ⟨v,w,u,s,r,q,t⟩=>if(decide (q<r))=true then(aG (U:=Int×Int×Zd×Zi×Int×Int×IW) (if 0≤q then(if q<(List.length s:Int) then(aG (U:=Int×Int×Zd×Zi×Int×Int×vP×gX×IW) (if(!(ck bx (nth bC s q).1 t))=true then(Option.bind (gQ (bw bx (.slice 64 aO) (nth bC s q).1 (bM u)) (nth bC s q).1 v) fun y7=>Option.bind (gQ (bw bx (.slice 64 aO) (nth bC s q).1 (bM u)) (nth bC s q).1 w) fun y8=>Option.bind (kP y7 y8) fun y9=>if List.length t+1≤aE then(some (.brk (v,w,u,s,r,q,nth bC s q,(nth bC s q).1,bB bx (nth bC s q).1 y9 t))) else none) else(some (.brk (v,w,u,s,r,q,nth bC s q,(nth bC s q).1,t)))) fun⟨c,d,e,f,g,h,i,a,b⟩=>wi (Int.toNat (List.length (bw bx (.slice 16 nW) a b):Int)+1) (c,d,e,f,g,h,bw bx (.slice 16 nW) a b,(List.length (bw bx (.slice 16 nW) a b):Int),0,i,b)) else none) else none) fun⟨j,k,l,m,n,o,p⟩=>rec4 (j,k,l,m,n,aZ (o+1),p)) else(some (.brk ()))
def f9(a0:Zk)(a1:Zi)(a2:Int)(a3:Int):Zl:=
 Option.bind (f22 a0) fun y1=>aG (U:=Unit) (KT (Int.toNat (List.length a1:Int)+1) (a2,a3,y1,a1,(List.length a1:Int),0,([]:IW))) fun _=>some true
def Qx:SS:=⟨73,113,[tI 2,tI 3,(9,.val (.map bx (.slice 64 aO))),(10,.mp 36),tP 12 28,tP 13 29,(21,.val (.slice 40 bC)),tI 22,tI 23],[(28,bV bC),(29,bV bx),(36,.map bx (.slice 16 nW))],[]⟩
def NX:SS:=⟨73,113,[tI 2,tI 3,(9,.val (.map bx (.slice 64 aO))),(10,.mp 36),(21,.val (.slice 40 bC)),tI 22,tI 23],[(36,.map bx (.slice 16 nW))],[]⟩
def Qz:SS:=⟨73,113,[],[],[]⟩
def QA:SS:=⟨73,113,[tI 2,tI 3,(9,.val (.map bx (.slice 64 aO))),(10,.mp 36),tP 12 28,(21,.val (.slice 40 bC)),tI 22,tI 23,(54,.val (.slice 16 nW)),tI 55,tI 56],[(28,bV bC),(36,.map bx (.slice 16 nW))],[]⟩
def QB:SS:=⟨73,113,[(8,vB)],[],[]⟩
def c9:aW:=aF G [.tmp 8] 9 [.val (.slice 64 aO),.val (.slice 40 bC),vI,vI] [] 113 QB [] (.bE (u4 f9))
theorem x9:hS c9:=
 cO ⟨[hA 1 0,(9,⟨[],[(14,44,.aR .ptr),(14,50,.aR .ptr)],[⟨[1],[],[(28,60)],[],[]⟩,⟨[1],[],[(28,66)],[],[]⟩,⟨[2],[],[],[],[]⟩],none,[],[],[]⟩)],[(10,Qx),(16,NX),(17,Qz)],[],[(4,⟨NX,fun u3=>Int.toNat u3.2.2.2.2.1+1⟩),(11,⟨QA,fun Pj=>Int.toNat Pj.2.2.2.2.2.2.2.1+1⟩)],[],[]⟩ (hq x22 (hq Jn (hq Ir hz))) aI Tryz.call9 Tryz.func9
def Aq:Nat→Int×Int×Int×Int×Ze×Int×Ts→Option (cQ (Int×Int×Int×Int×Ze×Ts) (cQ ZY (cQ (Int×Int×bT×Zi) Bool))):=aK fun rec11 ⟨l,m,x,y,z,aa,ab,k,ac,n,o,p,q,r,s,t,u,v,w,ad⟩=>if(decide (k<(4:Int)))=true then(Option.bind (ya l m k n o p q r s t u v w) fun⟨_,a,b,c,d,e,f,g,h,i,_,j⟩=>rec11 (l,m,x,y,z,aa,ab,aZ (k+1),ac,a,b,c,d,e,f,g,h,i,j,ad)) else(some (.brk (l,m,x,y,z,aa,ab,ac,n,o,p,q,r,s,t,u,v,w,ad)))
def Ar:Nat→ZY→Option (cQ (Int×Int×bT×Zi) Bool):=aK fun rec6 ⟨bn,bo,bc,bp,bb,ba,a9,bq,bd,be,bf,bg,bh,bi,bj,bk,br,bl,bm⟩=>if(decide (a9<ba))=true then(aG (U:=ZY) (if 0≤a9 then(if a9<(List.length bb:Int) then(Option.bind (B0 (nth (.int .i64) bb a9) bc bd be bf bg bh bi bj bk bl bm) fun⟨_,_,_,_,_,_,_,_,_,_,a,b,c,d,e,f,g,h,i,j⟩=>aG (U:=Int×Int×Int×Int×Ze×Ts) (Aq (Int.toNat (4:Int)+1) (bn,bo,bc,bp,bb,ba,a9,0,bq,a,b,c,d,e,f,g,h,i,j,br)) fun⟨v,w,x,y,z,aa,ab,ac,k,l,m,n,o,p,q,r,s,t,u⟩=>Option.bind (yb k l m n o p q r s t) fun⟨ad,ae,af,ag,ah,ai,aj,ak,al,am,an⟩=>if(List.length u+List.length ad)*40≤aE then(some (.brk (v,w,x,y,z,aa,ab,ac,ae,af,ag,ah,ai,aj,ak,al,u++ad,am,an))) else none) else none) else none) fun⟨ao,ap,aq,ar,au,av,aw,ax,ay,az,a0,a1,a2,a3,a4,a5,a6,a7,a8⟩=>rec6 (ao,ap,aq,ar,au,av,aZ (aw+1),ax,ay,az,a0,a1,a2,a3,a4,a5,a6,a7,a8)) else(some (.brk (bc,bp,bq,br)))
def f14(a0:bT)(a1:Int)(a2:Int)(a3:Int)(a4:Int):Zl:=
 Option.bind (f18 a0.1) fun y1=>Option.bind (qo a0 (0:Int) a3 (decide (y1=(0:Int)))) fun⟨a,b,c,d,e,f,h,i,j,g⟩=>aG (U:=Int×Int×bT×Zi) (Option.bind (f28 a0) fun y4=>Ar (Int.toNat (List.length y4:Int)+1) (a1,a2,a3,a4,y4,(List.length y4:Int),0,a0,a,b,c,d,e,f,g,h,([]:Zi),i,j)) fun⟨m,n,k,l⟩=>Option.bind (f9 k.2.1 l m n) fun y14=>some (!y14)
def QC:SS:=⟨55,95,[tI 1,tI 2,tI 3,tI 4,tP 5 21,tP 11 49,(12,.own 80),(24,.val (.slice 8 (.int .i64))),tI 25,tI 26],[(21,bV fb),(49,fB 74 75 78),(74,.map bx cj),(75,.map bC .bool),(78,.row 74 40 bC),(80,.row 74 40 bC)],[]⟩
def QD:SS:=⟨55,95,[tI 1,tI 2,tI 3,tI 4,tP 5 21,tP 11 49,(12,.own 62),(24,.val (.slice 8 (.int .i64))),tI 25,tI 26],[(21,bV fb),(49,.var jz (.cons (.val fb) (.cons (.val (.map bx (.slice 64 aO))) (.cons vI (.cons vI (.cons vB (.cons (.val (.map (.int .i64) .bool)) (.cons (.mp 74) (.cons (.mp 75) (.cons (.val (.slice 40 bC)) (.val .unit))))))))))),(62,.row 74 40 bC),(74,.map bx cj),(75,.map bC .bool)],[]⟩
def QE:SS:=⟨55,95,[tI 3,tI 4,tP 5 21,(12,.own 83)],[(21,bV fb),(83,.row 74 40 bC)],[]⟩
def QF:SS:=⟨55,95,[tI 1,tI 2,tI 3,tI 4,tP 5 21,tP 11 79,(12,.own 80),(24,.val (.slice 8 (.int .i64))),tI 25,tI 26],[(21,bV fb),(79,.var jz (.cons (.val fb) (.cons (.val (.map bx (.slice 64 aO))) (.cons vI (.cons vI (.cons vB (.cons (.val (.map (.int .i64) .bool)) (.cons (.mp 81) (.cons (.mp 82) (.cons (.val (.slice 40 bC)) (.val .unit))))))))))),(80,.row 74 40 bC),(81,.map bx cj),(82,.map bC .bool)],[]⟩
def QG:SS:=⟨55,95,[tI 1,tI 2,tI 3,tI 4,tP 5 21,tP 11 49,(12,.own 80),(24,.val (.slice 8 (.int .i64))),tI 25,tI 26,tI 34],[(21,bV fb),(49,fB 74 75 77),(74,.map bx cj),(75,.map bC .bool),(77,.row 74 40 bC),(80,.row 74 40 bC)],[]⟩
def QH:SS:=⟨55,95,[(10,vB)],[],[]⟩
def YB:aW:=aF G [.tmp 10] 14 [.val fb,vI,vI,vI,vI] [] 95 QH [] (.bE (u5 f14))
theorem X0:hS YB:=
 cO ⟨[hE 1 [cA 0,cB 1 [] [(75,38),(76,71),(77,72),(78,73)]],hA 3 2,hE 6 [cB 3 [(0,79),(1,81),(2,82)] [(23,49),(32,74),(33,75),(36,76)]],hE 10 [cB 4 [(0,49),(1,74),(2,75),(3,77)] [(55,57)]],hE 12 [cB 5 [(0,49),(1,74),(2,75),(3,78)] []],hA 14 6],[(12,QC),(13,QD),(14,QE)],[],[(4,⟨QF,fun u5=>Int.toNat u5.2.2.2.2.2.1+1⟩),(8,⟨QG,fun _=>Int.toNat (4:Int)+1⟩)],[],[]⟩ (hq Xe (hq GL (hq x28 (hq Ni (hq Nc (hq Ng (hq x9 hz))))))) aI Tryz.call14 Tryz.func14
def f6:Zl:=
 Option.bind (f17) fun y1=>Option.bind (f8 y1 (3,2,0,4,0,5,12,[(1:Int)],[(7:Int)],()) (15:Int)) fun⟨a,b⟩=>Option.bind (f8 y1 (3,2,0,4,0,5,12,[(1:Int)],[(7:Int)],()) (20:Int)) fun⟨c,_⟩=>Option.bind (f8 y1 (3,2,0,4,0,5,12,[(2:Int)],[(8:Int)],()) (20:Int)) fun⟨d,_⟩=>Option.bind (f8 (((([]:ZF),([]:Zq),([]:ZA),([]:Zn),([]:ZC),([]:Zz),()),([]:Ze),()),([]:Zk),()) (0,0,0,0,0,0,0,([]:Ze),([]:Ze),()) (0:Int)) fun⟨e,f⟩=>Option.bind (f12 (((([]:ZF),([]:Zq),([]:ZA),([]:Zn),([]:ZC),([]:Zz),()),([]:Ze),()),([]:Zk),()) (0,0,0,0,0,0,0,[(3:Int)],[(1:Int)],()) (0:Int)) fun y6=>Option.bind (GM y1 [(3,2,0,4,0,5,12,[(2:Int)],[(8:Int)],()),(3,2,0,4,0,5,12,[(1:Int)],[(7:Int)],())] (15:Int) (20:Int)) fun y7=>aG (U:=Bool×Zi×Bool×Bool×Bool×Zi×Ze×xx×bT×Int×Int×Int×Int×Int×Int×Int×Ze×Ze×Int×Int×Int×Int×Int×Int×Int×Ze×Ze) (Option.bind (α:=Bool) (Option.bind (f18 y1.1) fun y9=>if(!decide (y9=(0:Int)))=true then(some true) else(if(!decide ((List.length y7:Int)=(1:Int)))=true then(some true) else(if(0:Int)<(List.length y7:Int) then(if(!decide ((List.length (nth nX y7 (0:Int)).2.2.1:Int)=(1:Int)))=true then(some true) else(some (!decide ((List.length y6:Int)=(1:Int))))) else none))) fun v10=>if v10=true then none else(some (.brk (a,b,c,d,e,f,y6,y7,y1,3,2,0,4,0,5,12,[(1:Int)],[(7:Int)],3,2,0,4,0,5,12,[(2:Int)],[(8:Int)])))) fun⟨g,h,i,j,k,l,m,n,o,y,z,aa,ab,ac,ad,ae,af,ag,p,q,r,s,t,u,v,w,x⟩=>if g=true then(if(decide ((List.length h:Int)=(2:Int)))=true then(if(!i)=true then(if j=true then(if(!k)=true then(if(decide ((List.length l:Int)=(0:Int)))=true then(if(0:Int)<(List.length m:Int) then(if(decide ((nth (.int .i64) m (0:Int))=(3:Int)))=true then(if(0:Int)<(List.length n:Int) then(if(decide ((nth nX n (0:Int)).1=(3:Int)))=true then(if(0:Int)<(List.length n:Int) then(if(decide ((nth nX n (0:Int)).2.1=(2:Int)))=true then(if(0:Int)<(List.length n:Int) then(if(0:Int)<(List.length (nth nX n (0:Int)).2.2.1:Int) then(if(decide ((nth (.int .i64) (nth nX n (0:Int)).2.2.1 (0:Int))=(1:Int)))=true then(Option.bind (GM o [(p,q,r,s,t,u,v,w,x,()),(y,z,aa,ab,ac,ad,ae,af,ag,())] (20:Int) (20:Int)) fun y11=>if(decide ((List.length y11:Int)=(0:Int)))=true then(Option.bind (f14 o (0:Int) (4:Int) (15:Int) (20:Int)) fun y12=>if y12=true then(Option.bind (f14 o (0:Int) (4:Int) (15:Int) (19:Int)) fun y13=>if(!y13)=true then(Option.bind (f14 o (0:Int) (5:Int) (15:Int) (20:Int)) fun y14=>if(!y14)=true then(Option.bind (f14 (((([]:ZF),([]:Zq),([]:ZA),([]:Zn),([]:ZC),([]:Zz),()),([]:Ze),()),([]:Zk),()) (0:Int) (0:Int) (1:Int) (2:Int)) fun y15=>some (!y15)) else(some false)) else(some false)) else(some false)) else(some false)) else(some false)) else none) else none) else(some false)) else none) else(some false)) else none) else(some false)) else none) else(some false)) else(some false)) else(some false)) else(some false)) else(some false)) else(some false)
def QI:SS:=⟨158,198,[tP 1 17,tP 2 18,tP 3 19,(4,vB),(5,.val (.slice 40 bC)),(6,vB),(8,vB),(10,vB),(11,.val (.slice 40 bC)),(12,.val (.slice 8 (.int .i64))),(13,.val (.slice 40 nX))],[(17,bV fb),(18,.var lF (.cons vI (.cons vI (.cons vI (.cons vI (.cons vI (.cons vI (.cons vI (.cons (.val (.slice 8 (.int .i64))) (.cons (.val (.slice 8 (.int .i64))) .nil)))))))))),(19,.var lF (.cons vI (.cons vI (.cons vI (.cons vI (.cons vI (.cons vI (.cons vI (.cons (.val (.slice 8 (.int .i64))) (.cons (.val (.slice 8 (.int .i64))) .nil))))))))))],[]⟩
def QJ:SS:=⟨158,198,[(0,vB)],[],[]⟩
def c6:aW:=aF G [.tmp 0] 6 [] [] 198 QJ [] (.bE (fun _=>f6))
theorem x6:hS c6:=
 cO ⟨[hA 1 0,(5,⟨[.freeze 31 (.slice 8 (.int .i64)),.freeze 32 (.slice 8 (.int .i64))],[],[⟨[1],[],[],[],[]⟩],none,[],[],[]⟩),hA 6 1,(7,⟨[.freeze 35 (.slice 8 (.int .i64)),.freeze 36 (.slice 8 (.int .i64))],[],[⟨[1],[],[],[],[]⟩],none,[],[],[]⟩),hA 8 1,(9,⟨[],[(4,50,lF)],[⟨[2],[],[],[],[]⟩],none,[],[],[]⟩),(10,⟨[],[(4,55,.slice 104 lF)],[⟨[3],[],[],[],[]⟩],none,[],[],[]⟩),hD 11 78 [cA 4],(12,⟨[],[],[],none,[(0,9999)],[],[]⟩),(13,⟨[],[(56,134,.slice 104 lF)],[⟨[3],[],[],[],[]⟩,⟨[5],[],[],[],[]⟩,⟨[5],[],[],[],[]⟩,⟨[5],[],[],[],[]⟩,⟨[5],[],[],[],[]⟩],none,[],[],[]⟩)],[(13,QI)],[],[],[],[]⟩ (hq x17 (hq x8 (hq Qf (hq Xn (hq Xe (hq X0 hz)))))) aI Tryz.call6 Tryz.func6
def Ci:Qd:=aK fun acK ⟨a,b⟩=>if(decide (a<(List.length b.2.2.1:Int)))=true then(Option.bind (α:=Bool) (if 0≤a then(if a<(List.length b.2.2.1:Int) then(if(decide ((6:Int)<(List.length (nth bG b.2.2.1 a).2.2.2.2.1:Int)))=true then(some true) else(if 0≤a then(if a<(List.length b.2.2.1:Int) then(some (decide ((4:Int)<(List.length (nth bG b.2.2.1 a).2.2.2.2.2.1:Int)))) else none) else none)) else none) else none) fun v4=>if v4=true then(bZ (some false)) else(acK (aZ (a+1),b))) else(some (.brk b))
def Cj:Qd:=aK fun rec7 ⟨a,b⟩=>if(decide (a<(List.length b.2.2.2.1:Int)))=true then(Option.bind (α:=Bool) (if 0≤a then(if a<(List.length b.2.2.2.1:Int) then(if(decide ((4:Int)<(List.length (nth bz b.2.2.2.1 a).2.2.1:Int)))=true then(some true) else(if 0≤a then(if a<(List.length b.2.2.2.1:Int) then(if(decide ((5:Int)<(List.length (nth bz b.2.2.2.1 a).2.2.2.1:Int)))=true then(some true) else(if 0≤a then(if a<(List.length b.2.2.2.1:Int) then(some (decide ((6:Int)<(List.length (nth bz b.2.2.2.1 a).2.2.2.2.1:Int)))) else none) else none)) else none) else none)) else none) else none) fun v8=>if v8=true then(bZ (some false)) else(rec7 (aZ (a+1),b))) else(some (.brk b))
def yz:Qd:=aK fun rec11 ⟨a,b⟩=>if(decide (a<(List.length b.2.2.2.2.1:Int)))=true then(if 0≤a then(if a<(List.length b.2.2.2.2.1:Int) then(if(decide ((6:Int)<(List.length (nth fa b.2.2.2.2.1 a).2.2.2.2.1:Int)))=true then(bZ (some false)) else(rec11 (aZ (a+1),b))) else none) else none) else(some (.brk b))
def yA:Qd:=aK fun rec14 ⟨a,b⟩=>if(decide (a<(List.length b.2.2.2.2.2.1:Int)))=true then(if 0≤a then(if a<(List.length b.2.2.2.2.2.1:Int) then(if(decide ((10:Int)<(List.length (nth dk b.2.2.2.2.2.1 a).2.1:Int)))=true then(bZ (some false)) else(rec14 (aZ (a+1),b))) else none) else none) else(some (.brk b))
def f107(a0:cz):Zl:=
 aG (U:=cz) (Ci gD (0,a0)) fun v1=>aG (U:=cz) (Cj gD (0,v1)) fun v5=>aG (U:=cz) (yz gD (0,v5)) fun v9=>aG (U:=cz) (yA gD (0,v9)) fun v12=>Option.bind (α:=Bool) (if(decide ((List.length v12.1:Int)≤(4:Int)))=true then(if(decide ((List.length v12.2.1:Int)≤(5:Int)))=true then(if(decide ((List.length v12.2.2.1:Int)≤(6:Int)))=true then(if(decide ((List.length v12.2.2.2.1:Int)≤(4:Int)))=true then(if(decide ((List.length v12.2.2.2.2.1:Int)≤(4:Int)))=true then(some (decide ((List.length v12.2.2.2.2.2.1:Int)≤(4:Int)))) else(some false)) else(some false)) else(some false)) else(some false)) else(some false)) fun v15=>some v15
def Hm:SS:=⟨131,171,[tP 1 17],[(17,bV gE)],[]⟩
def QK:SS:=⟨131,171,[tP 1 17,tI 3],[(17,bV gE)],[]⟩
def QL:SS:=⟨131,171,[tP 1 17,tI 4],[(17,bV gE)],[]⟩
def QM:SS:=⟨131,171,[tP 1 17,tI 5],[(17,bV gE)],[]⟩
def QN:SS:=⟨131,171,[tP 1 17,tI 6],[(17,bV gE)],[]⟩
def QO:SS:=⟨131,171,[(2,vB)],[],[]⟩
def QP:aW:=aF G [.tmp 2] 107 [.val gE] [] 171 QO [] (.bE (u1 f107))
theorem QQ:hS QP:=
 cO ⟨[hD 4 31 [],hD 9 66 [],hD 21 2 []],[(6,Hm),(11,Hm),(16,Hm),(21,Hm)],[],[(2,⟨QK,fun _=>gD⟩),(7,⟨QL,fun _=>gD⟩),(12,⟨QM,fun _=>gD⟩),(17,⟨QN,fun _=>gD⟩)],[],[]⟩ hz aI Tryz.call107 Tryz.func107
def f64(a0:EE):Zl:=
 Option.bind (α:=Bool) (Option.bind (f107 a0.1) fun y1=>if y1=true then(some (decide ((List.length a0.2.1:Int)≤(20:Int)))) else(some false)) fun v2=>some v2
def QR:SS:=⟨12,52,[(2,vB)],[],[]⟩
def YD:aW:=aF G [.tmp 2] 64 [.val Gn] [] 52 QR [] (.bE (u1 f64))
theorem YE:hS YD:=
 cO (hR [hD 1 2 [cA 0]]) (hq QQ hz) aI Tryz.call64 Tryz.func64
def f38(a0:bT):Zl:=
 Option.bind (α:=Bool) (Option.bind (f64 a0.1) fun y1=>if y1=true then(some (decide ((List.length a0.2.1:Int)≤(60:Int)))) else(some false)) fun v2=>some v2
def QS:SS:=⟨12,52,[(2,vB)],[],[]⟩
def YF:aW:=aF G [.tmp 2] 38 [.val fb] [] 52 QS [] (.bE (u1 f38))
theorem YG:hS YF:=
 cO (hR [hD 1 2 [cA 0]]) (hq YE hz) aI Tryz.call38 Tryz.func38
def EH:Nat→Int×bT×cz→Option (cQ (bT×cz) Bool):=aK fun acK ⟨a,c,b⟩=>if(decide (a<(List.length b.2.2.2.1:Int)))=true then(if 0≤a then(if a<(List.length b.2.2.2.1:Int) then(if(decide ((3:Int)<(List.length (nth bz b.2.2.2.1 a).2.2.1:Int)))=true then(bZ (some false)) else(acK (aZ (a+1),c,b))) else none) else none) else(some (.brk (c,b)))
def f19(a0:bT):Zl:=
 aG (U:=bT×cz) (EH gD (0,a0,a0.1.1)) fun⟨a,b⟩=>Option.bind (α:=Bool) (Option.bind (f38 a) fun y4=>if y4=true then(if(decide ((List.length b.2.2.1:Int)≤(6:Int)))=true then(some (decide ((List.length b.2.2.2.1:Int)≤(5:Int)))) else(some false)) else(some false)) fun v5=>some v5
def QT:SS:=⟨37,77,[tP 1 17,tP 3 19],[(17,bV fb),(19,bV gE)],[]⟩
def QU:SS:=⟨37,77,[tP 1 17,tP 3 19,tI 4],[(17,bV fb),(19,bV gE)],[]⟩
def QV:SS:=⟨37,77,[(2,vB)],[],[]⟩
def YH:aW:=aF G [.tmp 2] 19 [.val fb] [] 77 QV [] (.bE (u1 f19))
theorem YI:hS YH:=
 cO ⟨[hD 7 2 [cA 0]],[(7,QT)],[],[(3,⟨QU,fun _=>gD⟩)],[],[]⟩ (hq YG hz) aI Tryz.call19 Tryz.func19
def oc:Nat→Int×bT→Option (cQ bT Bool):=aK fun _acK ⟨a,b⟩=>if(decide (a<((0:Nat):Int)))=true then none else(some (.brk b))
def Ck(a0:bT):Zl:=
 aG (U:=bT) (oc gD (0,a0)) fun v1=>Option.bind (α:=Bool) (Option.bind (f19 v1) fun y4=>if y4=true then(if(decide ((List.length v1.2.1:Int)≤(30:Int)))=true then(some (decide (((0:Nat):Int)≤(6:Int)))) else(some false)) else(some false)) fun v5=>some v5
def QW:SS:=⟨41,81,[(1,.bA),tP 2 18],[(18,bV fb)],[]⟩
def QX:SS:=⟨41,81,[(1,.bA),tP 2 18,tI 5],[(18,bV fb)],[]⟩
def QY:SS:=⟨41,81,[(4,vB)],[],[]⟩
def NY:aW:=aF G [.tmp 4] 7 [.val fb,.bA] [] 81 QY [] (.bE (u1 Ck))
theorem NZ:hS NY:=
 cO ⟨[hD 6 4 [cA 0]],[(6,QW)],[],[(2,⟨QX,fun _=>gD⟩)],[],[]⟩ (hq YI hz) aI Tryz.call7 Tryz.func7
def EI:Nat→Int×Int×cz→Zt:=aK fun acK ⟨c,a,b⟩=>if(decide (a<(List.length b.2.2.2.1:Int)))=true then(if 0≤a then(if a<(List.length b.2.2.2.1:Int) then(if(decide ((nth bz b.2.2.2.1 a).2.1=c))=true then(bZ (some true)) else(acK (c,aZ (a+1),b))) else none) else none) else(some (.brk ()))
def f32(a0:cz)(a1:Int):Zl:=
 aG (U:=Unit) (EI gD (a1,0,a0)) fun _=>some false
def QZ:SS:=⟨21,61,[],[],[]⟩
def Q2:SS:=⟨21,61,[tI 1,tP 2 18,tI 5],[(18,bV gE)],[]⟩
def Q3:SS:=⟨21,61,[(4,vB)],[],[]⟩
def YJ:aW:=aF G [.tmp 4] 32 [.val gE,vI] [] 61 Q3 [] (.bE (u2 f32))
theorem YK:hS YJ:=
 cO ⟨[],[(6,QZ)],[],[(2,⟨Q2,fun _=>gD⟩)],[],[]⟩ hz aI Tryz.call32 Tryz.func32
def f55(a0:bT)(a1:Int)(a2:Int)(a3:Int)(a4:Int):Option (Zi×uN):=
 Option.bind (f18 a0.1) fun y1=>Option.bind (qo a0 a3 a4 (decide (y1=(0:Int)))) fun⟨a,b,c,d,e,f,g,h,i,j⟩=>Option.bind (tY a1 a2 a b c d e f g h i j) fun⟨k,l,m,n,o,p,q,r,s,t,u⟩=>if(!k)=true then(some (([]:Zi),(0,0,0,([]:Ze),()),0,([]:ZB),false,())) else(Option.bind (eB (a1,a2,0,()) l m n o p q r s t u) fun⟨_,_,_,_,_,_,_,_,_,w,v⟩=>some (v,w))
def Q4:SS:=⟨37,77,[tP 10 26,(11,.val (.slice 40 bC))],[(26,bV cj)],[]⟩
def YL:aW:=aF G [.cell 10 135,.tmp 11] 55 [.val fb,vI,vI,vI,vI] [] 77 Q4 [] (.bE (u5 f55))
theorem YM:hS YL:=
 cO (hR [hE 1 [cA 0,cB 1 [] [(75,36),(76,53),(77,54),(78,55)]],hE 2 [cB 2 [(0,36),(1,53),(2,54),(3,55)] []],hE 4 [cB 3 [(0,36),(1,53),(2,54),(3,55)] [(93,47)]]]) (hq Xe (hq GL (hq GP (hq zZ hz)))) aI Tryz.call55 Tryz.func55
def f34(a0:bT)(a1:Int)(a2:Int)(a3:Int)(a4:Int):Option (Zi×Bool×uC):=
 Option.bind (f55 a0 a1 a2 a3 a4) fun⟨a,b⟩=>some (a,b.2.2.2.1,b.1)
def Q5:SS:=⟨28,68,[tP 10 26,(11,.val (.slice 40 bC)),(12,vB)],[(26,bV fL)],[]⟩
def YN:aW:=aF G [.cell 10 53,.tmp 11,.tmp 12] 34 [.val fb,vI,vI,vI,vI] [] 68 Q5 [] (.bE (u5 f34))
theorem YO:hS YN:=
 cO (hR [hA 1 0]) (hq YM hz) aI Tryz.call34 Tryz.func34
def f15(a0:bT)(a1:Int)(a2:Int)(a3:Int)(a4:Int)(a5:Int):Option (Zi×Bool×uC):=
 Option.bind (f32 a0.1.1 a1) fun y1=>if(!y1)=true then(Option.bind (f33 a0 a1 a2 a3 a4 a5) fun⟨b,c,a⟩=>some (a,b,c)) else(if(!decide (a3=(0:Int)))=true then(some (([]:Zi),false,0,0,0,([]:Ze),())) else(Option.bind (f34 a0 a1 a2 a4 a5) fun⟨d,e,f⟩=>some (d,e,f)))
def Q6:SS:=⟨43,83,[tP 12 28,(13,.val (.slice 40 bC)),(14,vB)],[(28,bV fL)],[]⟩
def YP:aW:=aF G [.cell 12 53,.tmp 13,.tmp 14] 15 [.val fb,vI,vI,vI,vI,vI] [] 83 Q6 [] (.bE (u6 f15))
theorem YQ:hS YP:=
 cO (hR [hA 1 0,hA 2 1,hA 5 2]) (hq YK (hq TR (hq YO hz))) aI Tryz.call15 Tryz.func15
def EJ:Nat→Ze×Ze×Int→Zt:=aK fun acK ⟨b,c,a⟩=>if(decide (a<(List.length b:Int)))=true then(if 0≤a then(if a<(List.length b:Int) then(if 0≤a then(if a<(List.length c:Int) then(if(!decide ((nth (.int .i64) b a)=(nth (.int .i64) c a)))=true then(bZ (some false)) else(acK (b,c,aZ (a+1)))) else none) else none) else none) else none) else(some (.brk ()))
def f11(a0:Ze)(a1:Ze):Zl:=
 if(!decide ((List.length a0:Int)=(List.length a1:Int)))=true then(some false) else(aG (U:=Unit) (EJ gD (a0,a1,0)) fun _=>some true)
def Q7:SS:=⟨26,66,[],[],[]⟩
def Q8:SS:=⟨26,66,[(0,.val (.slice 8 (.int .i64))),(1,.val (.slice 8 (.int .i64))),tI 5],[],[]⟩
def Q9:SS:=⟨26,66,[(4,vB)],[],[]⟩
def YR:aW:=aF G [.tmp 4] 11 [.val (.slice 8 (.int .i64)),.val (.slice 8 (.int .i64))] [] 66 Q9 [] (.bE (u2 f11))
theorem YS:hS YR:=
 cO ⟨[],[(8,Q7)],[],[(4,⟨Q8,fun _=>gD⟩)],[],[]⟩ hz aI Tryz.call11 Tryz.func11
def f16(a0:uC)(a1:uC):Zl:=
 Option.bind (α:=Bool) (if(decide (a0.1=a1.1))=true then(if(decide (a0.2.1=a1.2.1))=true then(if(decide (a0.2.2.1=a1.2.2.1))=true then(Option.bind (f11 a0.2.2.2.1 a1.2.2.2.1) fun y1=>some y1) else(some false)) else(some false)) else(some false)) fun v2=>some v2
def Ra:SS:=⟨31,71,[(4,vB)],[],[]⟩
def YT:aW:=aF G [.tmp 4] 16 [.val fL,.val fL] [] 71 Ra [] (.bE (u2 f16))
theorem YU:hS YT:=
 cO (hR [hD 1 4 [cA 0]]) (hq YS hz) aI Tryz.call16 Tryz.func16
def f4(a0:bT)(a1:Int)(a2:Int)(a3:Int)(a4:Int)(a5:Int)(a6:Int):Zl:=
 Option.bind (f6) fun y1=>if(!y1)=true then(some false) else(aG (U:=Int×Int×Int×Int×Int×Int×bT) (Option.bind (α:=Bool) (Option.bind (Ck a0) fun y3=>if(!y3)=true then(some true) else(Option.bind (f14 a0 a1 a2 a5 a6) fun y4=>some y4)) fun v5=>if v5=true then(bZ (some true)) else(some (.brk (a1,a2,a3,a4,a5,a6,a0)))) fun⟨b,c,d,e,f,g,a⟩=>Option.bind (f15 a b c d e f) fun⟨_,h,i⟩=>Option.bind (f15 a b c d e g) fun⟨_,j,k⟩=>Option.bind (α:=Bool) (if(h==j)=true then(Option.bind (f16 i k) fun y8=>some y8) else(some false)) fun v9=>some v9)
def Rb:SS:=⟨64,104,[tI 1,tI 2,tI 3,tI 4,tI 5,tI 6,tP 7 23],[(23,bV fb)],[]⟩
def Rc:SS:=⟨64,104,[(14,vB)],[],[]⟩
def c4:aW:=aF G [.tmp 14] 4 [.val fb,vI,vI,vI,vI,vI,vI] [] 104 Rc [] (.bE (fun d=>f4 d.1 d.2.1 d.2.2.1 d.2.2.2.1 d.2.2.2.2.1 d.2.2.2.2.2.1 d.2.2.2.2.2.2.1))
theorem x4:hS c4:=
 cO ⟨[hA 1 0,hD 3 33 [cA 1,cA 2],hA 5 3,hA 6 3,hD 7 14 [cA 4]],[(5,Rb)],[],[],[],[]⟩ (hq x6 (hq NZ (hq X0 (hq YQ (hq YU hz))))) aI Tryz.call4 Tryz.func4
end Go.Proofs.YtgdcjlldafmomaaGreat
