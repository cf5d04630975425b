/- part -/
import Derived.Test.YtgdcjlldafmomaaGreatUD
noncomputable section
namespace Go.Proofs.YtgdcjlldafmomaaGreat
open Go.Ax
def vR:Nat→Int×Int×Zd×Zh×Int×Int×ZH×Int×Int×ko×IY→Option (cW (Int×Int×Zd×Zh×Int×Int×IY) (cW Unit Bool)):=aK fun rec11 ⟨e,f,g,h,i,j,c,b,a,d,k⟩=>if(decide (a<b))=true then(if 0≤a then(if a<(List.length c:Int) then(if(decide ((imax (nth ou c a).1 d.2.1)<(nS (nth ou c a).2.1 d.2.2.1)))=true then(cn (cn (some false))) else(rec11 (e,f,g,h,i,j,c,b,aZ (a+1),d,k))) else none) else none) else(some (.brk (e,f,g,h,i,j,k)))
def J3:Nat→Int×Int×Zd×Zh×Int×Int×IY→Zq:=aK fun rec4 ⟨v,w,u,s,r,q,t⟩=>if(decide (q<r))=true then(aG (U:=Int×Int×Zd×Zh×Int×Int×IY) (if 0≤q then(if q<(List.length s:Int) then(aG (U:=Int×Int×Zd×Zh×Int×Int×ko×ib×IY) (if(!(cJ bu (nth bx s q).1 t))=true then(Option.bind (gX (bz bu (.slice 64 aP) (nth bx s q).1 (bU u)) (nth bx s q).1 v) fun y7=>Option.bind (gX (bz bu (.slice 64 aP) (nth bx s q).1 (bU u)) (nth bx s q).1 w) fun y8=>Option.bind (lb y7 y8) fun y9=>if List.length t+1≤aE then(some (.brk (v,w,u,s,r,q,nth bx s q,(nth bx s q).1,bE bu (nth bx s q).1 y9 t))) else none) else(some (.brk (v,w,u,s,r,q,nth bx s q,(nth bx s q).1,t)))) fun⟨c,d,e,f,g,h,i,a,b⟩=>vR (Int.toNat (List.length (bz bu (.slice 16 ou) a b):Int)+1) (c,d,e,f,g,h,bz bu (.slice 16 ou) a b,(List.length (bz bu (.slice 16 ou) a b):Int),0,i,b)) else none) else none) fun⟨j,k,l,m,n,o,p⟩=>rec4 (j,k,l,m,n,aZ (o+1),p)) else(some (.brk ()))
def f9(a0:Zk)(a1:Zh)(a2:Int)(a3:Int):Zl:=
 Option.bind (f22 a0) fun y1=>aG (U:=Unit) (J3 (Int.toNat (List.length a1:Int)+1) (a2,a3,y1,a1,(List.length a1:Int),0,([]:IY))) fun _=>some true
def PA:SS:=⟨73,113,[tI 2,tI 3,(9,.val (.map bu (.slice 64 aP))),(10,.mp 36),tP 12 28,tP 13 29,(21,.val (.slice 40 bx)),tI 22,tI 23],[(28,bV bx),(29,bV bu),(36,.map bu (.slice 16 ou))],[]⟩
def MV:SS:=⟨73,113,[tI 2,tI 3,(9,.val (.map bu (.slice 64 aP))),(10,.mp 36),(21,.val (.slice 40 bx)),tI 22,tI 23],[(36,.map bu (.slice 16 ou))],[]⟩
def PB:SS:=⟨73,113,[],[],[]⟩
def PC:SS:=⟨73,113,[tI 2,tI 3,(9,.val (.map bu (.slice 64 aP))),(10,.mp 36),tP 12 28,(21,.val (.slice 40 bx)),tI 22,tI 23,(54,.val (.slice 16 ou)),tI 55,tI 56],[(28,bV bx),(36,.map bu (.slice 16 ou))],[]⟩
def PD:SS:=⟨73,113,[(8,vB)],[],[]⟩
def c9:aW:=aF G [.tmp 8] 9 [.val (.slice 64 aP),.val (.slice 40 bx),vI,vI] [] 113 PD [] (.bH (u4 f9))
theorem x9:hS c9:=
 cO ⟨[hA 1 0,(9,⟨[],[(14,44,.aR .ptr),(14,50,.aR .ptr)],[⟨[1],[],[(28,60)],[],[]⟩,⟨[1],[],[(28,66)],[],[]⟩,⟨[2],[],[],[],[]⟩],none,[],[],[]⟩)],[(10,PA),(16,MV),(17,PB)],[],[(4,⟨MV,fun u3=>Int.toNat u3.2.2.2.2.1+1⟩),(11,⟨PC,fun NV=>Int.toNat NV.2.2.2.2.2.2.2.1+1⟩)],[],[]⟩ (hq x22 (hq Js (hq IF hz))) aJ Tryz.call9 Tryz.func9
def KE:Nat→Int×Int×Int×Int×Ze×Int×Ui→Option (cW (Int×Int×Int×Int×Ze×Ui) (cW ZZ (cW (Int×Int×bO×Zh) Bool))):=aK fun rec11 ⟨l,m,x,y,z,aa,ab,k,ac,n,o,p,q,r,s,t,u,v,w,ad⟩=>if(decide (k<(4:Int)))=true then(Option.bind (Ge l m k n o p q r s t u v w) fun⟨_,a,b,c,d,e,f,g,h,i,_,j⟩=>rec11 (l,m,x,y,z,aa,ab,aZ (k+1),ac,a,b,c,d,e,f,g,h,i,j,ad)) else(some (.brk (l,m,x,y,z,aa,ab,ac,n,o,p,q,r,s,t,u,v,w,ad)))
def KF:Nat→ZZ→Option (cW (Int×Int×bO×Zh) Bool):=aK fun rec6 ⟨bn,bo,bc,bp,bb,ba,a9,bq,bd,be,bf,bg,bh,bi,bj,bk,br,bl,bm⟩=>if(decide (a9<ba))=true then(aG (U:=ZZ) (if 0≤a9 then(if a9<(List.length bb:Int) then(Option.bind (Gg (nth (.int .i64) bb a9) bc bd be bf bg bh bi bj bk bl bm) fun⟨_,_,_,_,_,_,_,_,_,_,a,b,c,d,e,f,g,h,i,j⟩=>aG (U:=Int×Int×Int×Int×Ze×Ui) (KE (Int.toNat (4:Int)+1) (bn,bo,bc,bp,bb,ba,a9,0,bq,a,b,c,d,e,f,g,h,i,j,br)) fun⟨v,w,x,y,z,aa,ab,ac,k,l,m,n,o,p,q,r,s,t,u⟩=>Option.bind (Gf k l m n o p q r s t) fun⟨ad,ae,af,ag,ah,ai,aj,ak,al,am,an⟩=>if(List.length u+List.length ad)*40≤aE then(some (.brk (v,w,x,y,z,aa,ab,ac,ae,af,ag,ah,ai,aj,ak,al,u++ad,am,an))) else none) else none) else none) fun⟨ao,ap,aq,ar,au,av,aw,ax,ay,az,a0,a1,a2,a3,a4,a5,a6,a7,a8⟩=>rec6 (ao,ap,aq,ar,au,av,aZ (aw+1),ax,ay,az,a0,a1,a2,a3,a4,a5,a6,a7,a8)) else(some (.brk (bc,bp,bq,br)))
def f14(a0:bO)(a1:Int)(a2:Int)(a3:Int)(a4:Int):Zl:=
 Option.bind (f18 a0.1) fun y1=>Option.bind (oi a0 (0:Int) a3 (decide (y1=(0:Int)))) fun⟨a,b,c,d,e,f,h,i,j,g⟩=>aG (U:=Int×Int×bO×Zh) (Option.bind (f28 a0) fun y4=>KF (Int.toNat (List.length y4:Int)+1) (a1,a2,a3,a4,y4,(List.length y4:Int),0,a0,a,b,c,d,e,f,g,h,([]:Zh),i,j)) fun⟨m,n,k,l⟩=>Option.bind (f9 k.2.1 l m n) fun y14=>some (!y14)
def PE:SS:=⟨55,95,[tI 1,tI 2,tI 3,tI 4,tP 5 21,tP 11 49,(12,.own 80),(24,.val (.slice 8 (.int .i64))),tI 25,tI 26],[(21,bV fp),(49,fB 74 75 78),(74,.map bu cp),(75,.map bx .bool),(78,.row 74 40 bx),(80,.row 74 40 bx)],[]⟩
def PG:SS:=⟨55,95,[tI 1,tI 2,tI 3,tI 4,tP 5 21,tP 11 49,(12,.own 62),(24,.val (.slice 8 (.int .i64))),tI 25,tI 26],[(21,bV fp),(49,.var jM (.cons (.val fp) (.cons (.val (.map bu (.slice 64 aP))) (.cons vI (.cons vI (.cons vB (.cons (.val (.map (.int .i64) .bool)) (.cons (.mp 74) (.cons (.mp 75) (.cons (.val (.slice 40 bx)) (.val .unit))))))))))),(62,.row 74 40 bx),(74,.map bu cp),(75,.map bx .bool)],[]⟩
def PH:SS:=⟨55,95,[tI 3,tI 4,tP 5 21,(12,.own 83)],[(21,bV fp),(83,.row 74 40 bx)],[]⟩
def PI:SS:=⟨55,95,[tI 1,tI 2,tI 3,tI 4,tP 5 21,tP 11 79,(12,.own 80),(24,.val (.slice 8 (.int .i64))),tI 25,tI 26],[(21,bV fp),(79,.var jM (.cons (.val fp) (.cons (.val (.map bu (.slice 64 aP))) (.cons vI (.cons vI (.cons vB (.cons (.val (.map (.int .i64) .bool)) (.cons (.mp 81) (.cons (.mp 82) (.cons (.val (.slice 40 bx)) (.val .unit))))))))))),(80,.row 74 40 bx),(81,.map bu cp),(82,.map bx .bool)],[]⟩
def PJ:SS:=⟨55,95,[tI 1,tI 2,tI 3,tI 4,tP 5 21,tP 11 49,(12,.own 80),(24,.val (.slice 8 (.int .i64))),tI 25,tI 26,tI 34],[(21,bV fp),(49,fB 74 75 77),(74,.map bu cp),(75,.map bx .bool),(77,.row 74 40 bx),(80,.row 74 40 bx)],[]⟩
def PK:SS:=⟨55,95,[(10,vB)],[],[]⟩
def XP:aW:=aF G [.tmp 10] 14 [.val fp,vI,vI,vI,vI] [] 95 PK [] (.bH (u5 f14))
theorem XQ:hS XP:=
 cO ⟨[hE 1 [cA 0,cB 1 [] [(75,38),(76,71),(77,72),(78,73)]],hA 3 2,hE 6 [cB 3 [(0,79),(1,81),(2,82)] [(23,49),(32,74),(33,75),(36,76)]],hE 10 [cB 4 [(0,49),(1,74),(2,75),(3,77)] [(55,57)]],hE 12 [cB 5 [(0,49),(1,74),(2,75),(3,78)] []],hA 14 6],[(12,PE),(13,PG),(14,PH)],[],[(4,⟨PI,fun u5=>Int.toNat u5.2.2.2.2.2.1+1⟩),(8,⟨PJ,fun _=>Int.toNat (4:Int)+1⟩)],[],[]⟩ (hq Vq (hq F0 (hq x28 (hq Ms (hq Mo (hq Mq (hq x9 hz))))))) aJ Tryz.call14 Tryz.func14
def f6:Zl:=
 Option.bind (f17) fun y1=>Option.bind (f8 y1 (3,2,0,4,0,5,12,[(1:Int)],[(7:Int)],()) (15:Int)) fun⟨a,b⟩=>Option.bind (f8 y1 (3,2,0,4,0,5,12,[(1:Int)],[(7:Int)],()) (20:Int)) fun⟨c,_⟩=>Option.bind (f8 y1 (3,2,0,4,0,5,12,[(2:Int)],[(8:Int)],()) (20:Int)) fun⟨d,_⟩=>Option.bind (f8 (((([]:ZG),([]:Zr),([]:ZB),([]:Zm),([]:ZC),([]:ZA),()),([]:Ze),()),([]:Zk),()) (0,0,0,0,0,0,0,([]:Ze),([]:Ze),()) (0:Int)) fun⟨e,f⟩=>Option.bind (f12 (((([]:ZG),([]:Zr),([]:ZB),([]:Zm),([]:ZC),([]:ZA),()),([]:Ze),()),([]:Zk),()) (0,0,0,0,0,0,0,[(3:Int)],[(1:Int)],()) (0:Int)) fun y6=>Option.bind (zD y1 [(3,2,0,4,0,5,12,[(2:Int)],[(8:Int)],()),(3,2,0,4,0,5,12,[(1:Int)],[(7:Int)],())] (15:Int) (20:Int)) fun y7=>aG (U:=Bool×Zh×Bool×Bool×Bool×Zh×Ze×ZQ×bO×Int×Int×Int×Int×Int×Int×Int×Ze×Ze×Int×Int×Int×Int×Int×Int×Int×Ze×Ze) (Option.bind (α:=Bool) (Option.bind (f18 y1.1) fun y9=>if(!decide (y9=(0:Int)))=true then(some true) else(if(!decide ((List.length y7:Int)=(1:Int)))=true then(some true) else(if(0:Int)<(List.length y7:Int) then(if(!decide ((List.length (nth ov y7 (0:Int)).2.2.1:Int)=(1:Int)))=true then(some true) else(some (!decide ((List.length y6:Int)=(1:Int))))) else none))) fun v10=>if v10=true then(cn (some false)) else(some (.brk (a,b,c,d,e,f,y6,y7,y1,3,2,0,4,0,5,12,[(1:Int)],[(7:Int)],3,2,0,4,0,5,12,[(2:Int)],[(8:Int)])))) fun⟨g,h,i,j,k,l,m,n,o,y,z,aa,ab,ac,ad,ae,af,ag,p,q,r,s,t,u,v,w,x⟩=>if g=true then(if(decide ((List.length h:Int)=(2:Int)))=true then(if(!i)=true then(if j=true then(if(!k)=true then(if(decide ((List.length l:Int)=(0:Int)))=true then(if(0:Int)<(List.length m:Int) then(if(decide ((nth (.int .i64) m (0:Int))=(3:Int)))=true then(if(0:Int)<(List.length n:Int) then(if(decide ((nth ov n (0:Int)).1=(3:Int)))=true then(if(0:Int)<(List.length n:Int) then(if(decide ((nth ov n (0:Int)).2.1=(2:Int)))=true then(if(0:Int)<(List.length n:Int) then(if(0:Int)<(List.length (nth ov n (0:Int)).2.2.1:Int) then(if(decide ((nth (.int .i64) (nth ov n (0:Int)).2.2.1 (0:Int))=(1:Int)))=true then(Option.bind (zD o [(p,q,r,s,t,u,v,w,x,()),(y,z,aa,ab,ac,ad,ae,af,ag,())] (20:Int) (20:Int)) fun y11=>if(decide ((List.length y11:Int)=(0:Int)))=true then(Option.bind (f14 o (0:Int) (4:Int) (15:Int) (20:Int)) fun y12=>if y12=true then(Option.bind (f14 o (0:Int) (4:Int) (15:Int) (19:Int)) fun y13=>if(!y13)=true then(Option.bind (f14 o (0:Int) (5:Int) (15:Int) (20:Int)) fun y14=>if(!y14)=true then(Option.bind (f14 (((([]:ZG),([]:Zr),([]:ZB),([]:Zm),([]:ZC),([]:ZA),()),([]:Ze),()),([]:Zk),()) (0:Int) (0:Int) (1:Int) (2:Int)) fun y15=>some (!y15)) else(some false)) else(some false)) else(some false)) else(some false)) else(some false)) else none) else none) else(some false)) else none) else(some false)) else none) else(some false)) else none) else(some false)) else(some false)) else(some false)) else(some false)) else(some false)) else(some false)
def PN:SS:=⟨158,198,[tP 1 17,tP 2 18,tP 3 19,(4,vB),(5,.val (.slice 40 bx)),(6,vB),(8,vB),(10,vB),(11,.val (.slice 40 bx)),(12,.val (.slice 8 (.int .i64))),(13,.val (.slice 40 ov))],[(17,bV fp),(18,.var ji (.cons vI (.cons vI (.cons vI (.cons vI (.cons vI (.cons vI (.cons vI (.cons (.val (.slice 8 (.int .i64))) (.cons (.val (.slice 8 (.int .i64))) .nil)))))))))),(19,.var ji (.cons vI (.cons vI (.cons vI (.cons vI (.cons vI (.cons vI (.cons vI (.cons (.val (.slice 8 (.int .i64))) (.cons (.val (.slice 8 (.int .i64))) .nil))))))))))],[]⟩
def PO:SS:=⟨158,198,[(0,vB)],[],[]⟩
def c6:aW:=aF G [.tmp 0] 6 [] [] 198 PO [] (.bH (fun _=>f6))
theorem x6:hS c6:=
 cO ⟨[hA 1 0,(5,⟨[.freeze 31 (.slice 8 (.int .i64)),.freeze 32 (.slice 8 (.int .i64))],[],[⟨[1],[],[],[],[]⟩],none,[],[],[]⟩),hA 6 1,(7,⟨[.freeze 35 (.slice 8 (.int .i64)),.freeze 36 (.slice 8 (.int .i64))],[],[⟨[1],[],[],[],[]⟩],none,[],[],[]⟩),hA 8 1,(9,⟨[],[(4,50,ji)],[⟨[2],[],[],[],[]⟩],none,[],[],[]⟩),(10,⟨[],[(4,55,.slice 104 ji)],[⟨[3],[],[],[],[]⟩],none,[],[],[]⟩),hD 11 78 [cA 4],(13,⟨[],[(56,134,.slice 104 ji)],[⟨[3],[],[],[],[]⟩,⟨[5],[],[],[],[]⟩,⟨[5],[],[],[],[]⟩,⟨[5],[],[],[],[]⟩,⟨[5],[],[],[],[]⟩],none,[],[],[]⟩)],[(13,PN)],[],[],[],[]⟩ (hq Yx (hq x8 (hq OU (hq OP (hq Vq (hq XQ hz)))))) aJ Tryz.call6 Tryz.func6
def BL:Pd:=aK fun abG ⟨a,b⟩=>if(decide (a<(List.length b.2.2.1:Int)))=true then(Option.bind (α:=Bool) (if 0≤a then(if a<(List.length b.2.2.1:Int) then(if(decide ((6:Int)<(List.length (nth bJ b.2.2.1 a).2.2.2.2.1:Int)))=true then(some true) else(if 0≤a then(if a<(List.length b.2.2.1:Int) then(some (decide ((4:Int)<(List.length (nth bJ b.2.2.1 a).2.2.2.2.2.1:Int)))) else none) else none)) else none) else none) fun v4=>if v4=true then(cn (some false)) else(abG (aZ (a+1),b))) else(some (.brk b))
def BM:Pd:=aK fun rec7 ⟨a,b⟩=>if(decide (a<(List.length b.2.2.2.1:Int)))=true then(Option.bind (α:=Bool) (if 0≤a then(if a<(List.length b.2.2.2.1:Int) then(if(decide ((4:Int)<(List.length (nth bD b.2.2.2.1 a).2.2.1:Int)))=true then(some true) else(if 0≤a then(if a<(List.length b.2.2.2.1:Int) then(if(decide ((5:Int)<(List.length (nth bD b.2.2.2.1 a).2.2.2.1:Int)))=true then(some true) else(if 0≤a then(if a<(List.length b.2.2.2.1:Int) then(some (decide ((6:Int)<(List.length (nth bD b.2.2.2.1 a).2.2.2.2.1:Int)))) else none) else none)) else none) else none)) else none) else none) fun v8=>if v8=true then(cn (some false)) else(rec7 (aZ (a+1),b))) else(some (.brk b))
def yg:Pd:=aK fun rec11 ⟨a,b⟩=>if(decide (a<(List.length b.2.2.2.2.1:Int)))=true then(if 0≤a then(if a<(List.length b.2.2.2.2.1:Int) then(if(decide ((6:Int)<(List.length (nth eZ b.2.2.2.2.1 a).2.2.2.2.1:Int)))=true then(cn (some false)) else(rec11 (aZ (a+1),b))) else none) else none) else(some (.brk b))
def yh:Pd:=aK fun rec14 ⟨a,b⟩=>if(decide (a<(List.length b.2.2.2.2.2.1:Int)))=true then(if 0≤a then(if a<(List.length b.2.2.2.2.2.1:Int) then(if(decide ((10:Int)<(List.length (nth du b.2.2.2.2.2.1 a).2.1:Int)))=true then(cn (some false)) else(rec14 (aZ (a+1),b))) else none) else none) else(some (.brk b))
def f107(a0:cY):Zl:=
 aG (U:=cY) (BL fJ (0,a0)) fun v1=>aG (U:=cY) (BM fJ (0,v1)) fun v5=>aG (U:=cY) (yg fJ (0,v5)) fun v9=>aG (U:=cY) (yh fJ (0,v9)) fun v12=>Option.bind (α:=Bool) (if(decide ((List.length v12.1:Int)≤(4:Int)))=true then(if(decide ((List.length v12.2.1:Int)≤(5:Int)))=true then(if(decide ((List.length v12.2.2.1:Int)≤(6:Int)))=true then(if(decide ((List.length v12.2.2.2.1:Int)≤(4:Int)))=true then(if(decide ((List.length v12.2.2.2.2.1:Int)≤(4:Int)))=true then(some (decide ((List.length v12.2.2.2.2.2.1:Int)≤(4:Int)))) else(some false)) else(some false)) else(some false)) else(some false)) else(some false)) fun v15=>some v15
def GB:SS:=⟨131,171,[tP 1 17],[(17,bV gS)],[]⟩
def PQ:SS:=⟨131,171,[tP 1 17,tI 3],[(17,bV gS)],[]⟩
def PR:SS:=⟨131,171,[tP 1 17,tI 4],[(17,bV gS)],[]⟩
def PT:SS:=⟨131,171,[tP 1 17,tI 5],[(17,bV gS)],[]⟩
def PU:SS:=⟨131,171,[tP 1 17,tI 6],[(17,bV gS)],[]⟩
def PW:SS:=⟨131,171,[(2,vB)],[],[]⟩
def PX:aW:=aF G [.tmp 2] 107 [.val gS] [] 171 PW [] (.bH (u1 f107))
theorem PY:hS PX:=
 cO ⟨[hD 4 31 [],hD 9 66 [],hD 21 2 []],[(6,GB),(11,GB),(16,GB),(21,GB)],[],[(2,⟨PQ,fun _=>fJ⟩),(7,⟨PR,fun _=>fJ⟩),(12,⟨PT,fun _=>fJ⟩),(17,⟨PU,fun _=>fJ⟩)],[],[]⟩ hz aJ Tryz.call107 Tryz.func107
def f64(a0:CN):Zl:=
 Option.bind (α:=Bool) (Option.bind (f107 a0.1) fun y1=>if y1=true then(some (decide ((List.length a0.2.1:Int)≤(20:Int)))) else(some false)) fun v2=>some v2
def PZ:SS:=⟨12,52,[(2,vB)],[],[]⟩
def XR:aW:=aF G [.tmp 2] 64 [.val FQ] [] 52 PZ [] (.bH (u1 f64))
theorem XS:hS XR:=
 cO (hR [hD 1 2 [cA 0]]) (hq PY hz) aJ Tryz.call64 Tryz.func64
def f38(a0:bO):Zl:=
 Option.bind (α:=Bool) (Option.bind (f64 a0.1) fun y1=>if y1=true then(some (decide ((List.length a0.2.1:Int)≤(60:Int)))) else(some false)) fun v2=>some v2
def P0:SS:=⟨12,52,[(2,vB)],[],[]⟩
def XT:aW:=aF G [.tmp 2] 38 [.val fp] [] 52 P0 [] (.bH (u1 f38))
theorem XU:hS XT:=
 cO (hR [hD 1 2 [cA 0]]) (hq XS hz) aJ Tryz.call38 Tryz.func38
def D5:Nat→Int×bO×cY→Option (cW (bO×cY) Bool):=aK fun abG ⟨a,c,b⟩=>if(decide (a<(List.length b.2.2.2.1:Int)))=true then(if 0≤a then(if a<(List.length b.2.2.2.1:Int) then(if(decide ((3:Int)<(List.length (nth bD b.2.2.2.1 a).2.2.1:Int)))=true then(cn (some false)) else(abG (aZ (a+1),c,b))) else none) else none) else(some (.brk (c,b)))
def f19(a0:bO):Zl:=
 aG (U:=bO×cY) (D5 fJ (0,a0,a0.1.1)) fun⟨a,b⟩=>Option.bind (α:=Bool) (Option.bind (f38 a) fun y4=>if y4=true then(if(decide ((List.length b.2.2.1:Int)≤(6:Int)))=true then(some (decide ((List.length b.2.2.2.1:Int)≤(5:Int)))) else(some false)) else(some false)) fun v5=>some v5
def P1:SS:=⟨37,77,[tP 1 17,tP 3 19],[(17,bV fp),(19,bV gS)],[]⟩
def P2:SS:=⟨37,77,[tP 1 17,tP 3 19,tI 4],[(17,bV fp),(19,bV gS)],[]⟩
def P3:SS:=⟨37,77,[(2,vB)],[],[]⟩
def XV:aW:=aF G [.tmp 2] 19 [.val fp] [] 77 P3 [] (.bH (u1 f19))
theorem XW:hS XV:=
 cO ⟨[hD 7 2 [cA 0]],[(7,P1)],[],[(3,⟨P2,fun _=>fJ⟩)],[],[]⟩ (hq XU hz) aJ Tryz.call19 Tryz.func19
def J4:Nat→ZP×Int×bO→Option (cW (ZP×bO) Bool):=aK fun abG ⟨b,a,c⟩=>if(decide (a<(List.length b:Int)))=true then(Option.bind (α:=Bool) (if 0≤a then(if a<(List.length b:Int) then(if(decide ((16:Int)<(List.length (nth ji b a).2.2.2.2.2.2.2.1:Int)))=true then(some true) else(if 0≤a then(if a<(List.length b:Int) then(some (decide ((16:Int)<(List.length (nth ji b a).2.2.2.2.2.2.2.2.1:Int)))) else none) else none)) else none) else none) fun v4=>if v4=true then(cn (some false)) else(abG (b,aZ (a+1),c))) else(some (.brk (b,c)))
def f7(a0:bO)(a1:ZP):Zl:=
 aG (U:=ZP×bO) (J4 fJ (a1,0,a0)) fun⟨b,a⟩=>Option.bind (α:=Bool) (Option.bind (f19 a) fun y5=>if y5=true then(if(decide ((List.length a.2.1:Int)≤(30:Int)))=true then(some (decide ((List.length b:Int)≤(6:Int)))) else(some false)) else(some false)) fun v6=>some v6
def P4:SS:=⟨41,81,[(1,.val (.slice 104 ji)),tP 2 18],[(18,bV fp)],[]⟩
def P5:SS:=⟨41,81,[(1,.val (.slice 104 ji)),tP 2 18,tI 5],[(18,bV fp)],[]⟩
def P6:SS:=⟨41,81,[(4,vB)],[],[]⟩
def c7:aW:=aF G [.tmp 4] 7 [.val fp,.val (.slice 104 ji)] [] 81 P6 [] (.bH (u2 f7))
theorem x7:hS c7:=
 cO ⟨[hD 4 27 [],hD 6 4 [cA 0]],[(6,P4)],[],[(2,⟨P5,fun _=>fJ⟩)],[],[]⟩ (hq XW hz) aJ Tryz.call7 Tryz.func7
def D6:Nat→Zh×Zh×Int→Zq:=aK fun abG ⟨b,c,a⟩=>if(decide (a<(List.length b:Int)))=true then(if 0≤a then(if a<(List.length b:Int) then(if 0≤a then(if a<(List.length c:Int) then(if(!aX bx (nth bx b a) (nth bx c a))=true then(cn (some false)) else(abG (b,c,aZ (a+1)))) else none) else none) else none) else none) else(some (.brk ()))
def f10(a0:Zh)(a1:Zh):Zl:=
 if(!decide ((List.length a0:Int)=(List.length a1:Int)))=true then(some false) else(aG (U:=Unit) (D6 fJ (a0,a1,0)) fun _=>some true)
def MW:SS:=⟨26,66,[],[],[]⟩
def P7:SS:=⟨26,66,[(0,.val (.slice 40 bx)),(1,.val (.slice 40 bx)),tI 5],[],[]⟩
def MX:SS:=⟨26,66,[(4,vB)],[],[]⟩
def P8:aW:=aF G [.tmp 4] 10 [.val (.slice 40 bx),.val (.slice 40 bx)] [] 66 MX [] (.bH (u2 f10))
theorem XX:hS P8:=
 cO ⟨[],[(8,MW)],[],[(4,⟨P7,fun _=>fJ⟩)],[],[]⟩ hz aJ Tryz.call10 Tryz.func10
def D7:Nat→Ze×Ze×Int→Zq:=aK fun abG ⟨b,c,a⟩=>if(decide (a<(List.length b:Int)))=true then(if 0≤a then(if a<(List.length b:Int) then(if 0≤a then(if a<(List.length c:Int) then(if(!decide ((nth (.int .i64) b a)=(nth (.int .i64) c a)))=true then(cn (some false)) else(abG (b,c,aZ (a+1)))) else none) else none) else none) else none) else(some (.brk ()))
def f11(a0:Ze)(a1:Ze):Zl:=
 if(!decide ((List.length a0:Int)=(List.length a1:Int)))=true then(some false) else(aG (U:=Unit) (D7 fJ (a0,a1,0)) fun _=>some true)
def P9:SS:=⟨26,66,[(0,.val (.slice 8 (.int .i64))),(1,.val (.slice 8 (.int .i64))),tI 5],[],[]⟩
def XY:aW:=aF G [.tmp 4] 11 [.val (.slice 8 (.int .i64)),.val (.slice 8 (.int .i64))] [] 66 MX [] (.bH (u2 f11))
theorem XZ:hS XY:=
 cO ⟨[],[(8,MW)],[],[(4,⟨P9,fun _=>fJ⟩)],[],[]⟩ hz aJ Tryz.call11 Tryz.func11
def f3(a0:bO)(a1:mX)(a2:Int)(a3:Int):Zl:=
 Option.bind (f6) fun y1=>if(!y1)=true then(some false) else(Option.bind (f7 a0 [a1]) fun y2=>if(!y2)=true then(some true) else(Option.bind (f8 a0 a1 a2) fun⟨b,a⟩=>Option.bind (f8 a0 a1 a3) fun⟨c,d⟩=>Option.bind (f9 a0.2.1 a a2 a3) fun y5=>if(!y5)=true then(some true) else(if(b==c)=true then(Option.bind (f10 a d) fun y6=>if y6=true then(Option.bind (f12 a0 a1 a2) fun y7=>Option.bind (f12 a0 a1 a3) fun y8=>Option.bind (f11 y7 y8) fun y9=>if y9=true then(Option.bind (zD a0 [a1] a2 a3) fun y10=>some (decide ((List.length y10:Int)=(0:Int)))) else(some false)) else(some false)) else(some false))))
def Qa:SS:=⟨70,110,[(8,vB)],[],[]⟩
def c3:aW:=aF G [.tmp 8] 3 [.val fp,.val ji,vI,vI] [] 110 Qa [] (.bH (fun d=>f3 d.1 d.2.1 d.2.2.1 d.2.2.2.1))
theorem x3:hS c3:=
 cO (hR [hA 1 0,hA 3 1,hA 5 2,hA 6 2,hA 7 3,(9,⟨[],[(25,63,.slice 104 ji)],[⟨[4],[],[],[],[]⟩,⟨[5],[],[],[],[]⟩,⟨[5],[],[],[],[]⟩,⟨[6],[],[],[],[]⟩,⟨[7],[],[],[],[]⟩],none,[],[],[]⟩)]) (hq x6 (hq x7 (hq x8 (hq x9 (hq XX (hq OU (hq XZ (hq OP hz)))))))) aJ Tryz.call3 Tryz.func3
def D8:Nat→Int×Int×cY→Zq:=aK fun abG ⟨c,a,b⟩=>if(decide (a<(List.length b.2.2.2.1:Int)))=true then(if 0≤a then(if a<(List.length b.2.2.2.1:Int) then(if(decide ((nth bD b.2.2.2.1 a).2.1=c))=true then(cn (some true)) else(abG (c,aZ (a+1),b))) else none) else none) else(some (.brk ()))
def f32(a0:cY)(a1:Int):Zl:=
 aG (U:=Unit) (D8 fJ (a1,0,a0)) fun _=>some false
def f15(a0:bO)(a1:Int)(a2:Int)(a3:Int)(a4:Int)(a5:Int):Option (Zh×Bool×qi):=
 Option.bind (f32 a0.1.1 a1) fun y1=>if(!y1)=true then(Option.bind (f33 a0 a1 a2 a3 a4 a5) fun⟨b,c,a⟩=>some (a,b,c)) else(if(!decide (a3=(0:Int)))=true then(some (([]:Zh),false,0,0,0,([]:Ze),())) else(Option.bind (f34 a0 a1 a2 a4 a5) fun⟨d,e,f⟩=>some (d,e,f)))
end Go.Proofs.YtgdcjlldafmomaaGreat
