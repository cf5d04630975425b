/- part -/
import Derived.Test.YtgdcjlldafmomaaGreatF3
noncomputable section
namespace Go.Proofs.YtgdcjlldafmomaaGreat
open Go.Ax
def xd:Nat→Int×Int×Int×dW×ZT×Zn→Option (cW (Int×Int×dW×ZT) (cW ZT ZT)):=aK fun rec6 ⟨f,b,c,d,e,a⟩=>if List.isEmpty a=true then(some (.brk (b,c,d,e))) else DJ a fun x7 l8=>if 0≤x7.1 then(if x7.1<(List.length e:Int) then(if 0≤x7.1 then(if Int.toNat x7.1=(Int.toNat x7.1) then(if(List.length (List.getD e (Int.toNat x7.1) [])+List.length [f])*8≤aE then(if 0≤x7.1 then(if Int.toNat x7.1=(Int.toNat x7.1) then(rec6 (f,b,c,d,List.set e (Int.toNat x7.1) ((List.getD e (Int.toNat x7.1) [])++[f]),l8)) else none) else none) else none) else none) else none) else none) else none
def rW:Nat→Int×Int×dW×ZT→Option (cW ZT ZT):=aK fun abG ⟨f,e,g,h⟩=>if(decide (e<f))=true then(aG (U:=Int×Int×dW×ZT) (xd (List.length (bU (bz (.int .i64) (.map (.int .i64) .bool) e (bU g.2.1)))+1) (e,f,e,g,h,bU (bz (.int .i64) (.map (.int .i64) .bool) e (bU g.2.1)))) fun⟨a,b,c,d⟩=>abG (a,aZ (b+1),c,d)) else(some (.brk h))
def f148(a0:dW):Option ZT:=
 if 0≤a0.1 then(if a0.1≤a0.1 then(if a0.1*(24:Int)≤(aE:Int) then(aG (U:=ZT) (rW (Int.toNat a0.1+1) (a0.1,0,a0,List.replicate (Int.toNat a0.1) [])) fun v1=>some v1) else none) else none) else none
def No:SS:=⟨35,75,[tP 1 17,(3,.own 24),tI 10,tI 11],[(17,bV lV),(24,.cL 30 24 (.slice 8 (.int .i64)) 3)],[]⟩
def Tu:SS:=⟨35,75,[(3,.own 24)],[(24,.cL 30 24 (.slice 8 (.int .i64)) 3)],[]⟩
def Tv:SS:=⟨35,75,[tP 1 17,(3,.own 24),tI 4,tI 10,tI 11,tP 18 34],[(17,bV lV),(24,.cL 30 24 (.slice 8 (.int .i64)) 3),(34,.lP (.int .i64) .bool)],[]⟩
def Tw:SS:=⟨35,75,[(2,.val (.slice 24 (.slice 8 (.int .i64))))],[],[]⟩
def Np:aW:=aF G [.tmp 2] 148 [.val lV] [] 75 Tw [] (.bH (u1 f148))
theorem Tx:hS Np:=
 cO ⟨[(8,⟨[],[],[],none,[],[.row 24 51 (.t 5)],[.po 24]⟩),(10,⟨[.D1 24],[],[],none,[],[],[]⟩)],[(9,No),(10,Tu)],[],[(3,⟨No,fun u2=>Int.toNat u2.1+1⟩),(6,⟨Tv,fun u5=>List.length u5.2.2.2.2.2+1⟩)],[],[]⟩ hz aJ Tryz.call148 Tryz.func148
def oX(a0:Ze):Option (Int×Ze):=
 some ((List.length a0:Int),a0)
def Tz:SS:=⟨5,45,[tI 2],[(0,.row 3 8 (.int .i64))],[]⟩
def Ik:aW:=aF G [.tmp 2] 150 [.own 0] [(0,.row 3 8 (.int .i64))] 45 Tz [0] (.bH (u1 oX))
theorem Cd:hS Ik:=
 cO (hR []) hz aJ Tryz.call150 Tryz.func150
def k9(a0:Int)(a1:Int)(a2:Ze):Option (Bool×Ze):=
 if 0≤a0 then(if a0<(List.length a2:Int) then(if 0≤a1 then(if a1<(List.length a2:Int) then(some (decide ((nth (.int .i64) a2 a0)<(nth (.int .i64) a2 a1)),a2)) else none) else none) else none) else none
def TA:SS:=⟨16,56,[(6,vB)],[(0,.row 3 8 (.int .i64))],[]⟩
def Il:aW:=aF G [.tmp 6] 241 [.own 0,vI,vI] [(0,.row 3 8 (.int .i64))] 56 TA [0] (.bH (u3 k9))
theorem Ce:hS Il:=
 cO (hR []) hz aJ Tryz.call241 Tryz.func241
def j8(a0:Int)(a1:Int)(a2:Ze):Option Ze:=
 if 0≤a1 then(if a1<(List.length a2:Int) then(if 0≤a0 then(if a0<(List.length a2:Int) then(if 0≤a0 then(if a0<(List.length a2:Int) then(if 0≤a1 then(if a1<(List.length (List.set a2 (Int.toNat a0) (nth (.int .i64) a2 a1)):Int) then(some (List.set (List.set a2 (Int.toNat a0) (nth (.int .i64) a2 a1)) (Int.toNat a1) (nth (.int .i64) a2 a0))) else none) else none) else none) else none) else none) else none) else none) else none
def TB:SS:=⟨20,60,[],[(0,.row 3 8 (.int .i64))],[]⟩
def Im:aW:=aF G [] 245 [.own 0,vI,vI] [(0,.row 3 8 (.int .i64))] 60 TB [0] (.bH (u3 j8))
theorem xe:hS Im:=
 cO (hR []) hz aJ Tryz.call245 Tryz.func245
def nP:Nat→Int×Ze→Option (cW Ze Ze):=aK fun abG ⟨c,d⟩=>if(decide ((aZ (Int.tdiv (aZ (c -(1:Int))) (2:Int)))=c))=true then(some (.brk d)) else(Option.bind (k9 c (aZ (Int.tdiv (aZ (c -(1:Int))) (2:Int))) d) fun⟨a,b⟩=>if(!a)=true then(some (.brk b)) else(Option.bind (j8 (aZ (Int.tdiv (aZ (c -(1:Int))) (2:Int))) c b) fun y5=>abG (aZ (Int.tdiv (aZ (c -(1:Int))) (2:Int)),y5)))
def xf(a0:Int)(a1:Ze):Option Ze:=
 aG (U:=Ze) (nP fJ (a0,a1)) fun v1=>some v1
def Nq:SS:=⟨23,63,[],[(0,.var iX (.cons (.own 1) .nil)),(1,.row 3 8 (.int .i64))],[]⟩
def TC:SS:=⟨23,63,[(0,.iface 272 (pP 0)),tI 1],[(0,.var iX (.cons (.own 1) .nil)),(1,.row 3 8 (.int .i64))],[]⟩
def Io:aW:=aF G [] 209 [.iface 272 (pP 0),vI] [(0,.var iX (.cons (.own 1) .nil)),(1,.row 3 8 (.int .i64))] 63 Nq [0,1] (.bH (u2 xf))
theorem Ip:hS Io:=
 cO ⟨[hE 1 [cB 0 [(0,1)] []],hE 2 [cB 1 [(0,1)] []]],[],[(0,Nq)],[(0,⟨TC,fun _=>fJ⟩)],[],[]⟩ (hq Ce (hq xe hz)) aJ Tryz.call209 Tryz.func209
def xg(a0:Int)(a1:Ze):Option Ze:=
 if(List.length a1+List.length [a0])*8≤aE then(some (a1++[a0])) else none
def TE:SS:=⟨22,62,[],[(0,.var iX (.cons (.own 35) .nil)),(35,.row 3 8 (.int .i64))],[]⟩
def Iq:aW:=aF G [] 243 [pP 0,.iface 3 vI] [(0,.var iX (.cons (.own 1) .nil)),(1,.row 3 8 (.int .i64))] 62 TE [0,35] (.bH (u2 xg))
theorem Ir:hS Iq:=
 cO (hR []) hz aJ Tryz.call243 Tryz.func243
def oY(a0:Int)(a1:Ze):Option Ze:=
 Option.bind (xg a0 a1) fun y1=>Option.bind (oX y1) fun⟨a,b⟩=>Option.bind (xf (aZ (a -(1:Int))) b) fun y3=>some y3
def TF:SS:=⟨12,52,[],[(0,.var iX (.cons (.own 22) .nil)),(22,.row 3 8 (.int .i64))],[]⟩
def Cf:aW:=aF G [] 149 [.iface 272 (pP 0),.iface 3 vI] [(0,.var iX (.cons (.own 1) .nil)),(1,.row 3 8 (.int .i64))] 52 TF [0,22] (.bH (u2 oY))
theorem Is:hS Cf:=
 cO (hR [hE 0 [cB 0 [(0,0),(1,1)] [(35,22)]],hE 1 [cB 1 [(0,22)] [],cB 2 [(0,0),(1,22)] []]]) (hq Ir (hq Cd (hq Ip hz))) aJ Tryz.call149 Tryz.func149
def f150(a0:Ze):ZM:=
 some (List.length a0:Int)
def TH:SS:=⟨5,45,[tI 2],[],[]⟩
def Nr:aW:=aF G [.tmp 2] 150 [.val (.slice 8 (.int .i64))] [] 45 TH [] (.bH (u1 f150))
theorem TI:hS Nr:=
 cO (hR []) hz aJ Tryz.call150 Tryz.func150
def la:Nat→Int×Int×Int×Ze→Option (cW (Int×Int×Ze) (Bool×Ze)):=aK fun abG ⟨q,o,p,r⟩=>aG (U:=Int×Int×Int×Int×Ze) (Option.bind (α:=Bool) (if(decide (o≤(aZ ((aZ ((2:Int)*p))+(1:Int)))))=true then(some true) else(some (decide ((aZ ((aZ ((2:Int)*p))+(1:Int)))<(0:Int))))) fun v5=>if v5=true then(cn (some (.brk (q,p,r)))) else(some (.brk (q,o,p,aZ ((aZ ((2:Int)*p))+(1:Int)),r)))) fun⟨d,b,e,a,c⟩=>aG (U:=Int×Int×Int×Int×Ze) (if(decide ((aZ (a+1))<b))=true then(Option.bind (k9 (aZ (a+1)) a c) fun⟨f,g⟩=>if f=true then(some (.brk (d,b,e,aZ (a+1),g))) else(some (.brk (d,b,e,a,g)))) else(some (.brk (d,b,e,a,c)))) fun⟨k,l,i,h,j⟩=>Option.bind (k9 h i j) fun⟨m,n⟩=>if(!m)=true then(some (.brk (k,i,n))) else(Option.bind (j8 i h n) fun y9=>abG (k,l,h,y9))
def rX(a0:Int)(a1:Int)(a2:Ze):Option (Bool×Ze):=
 aG (U:=Int×Int×Ze) (la fJ (a0,a1,a0,a2)) fun⟨a,b,c⟩=>some (decide (a<b),c)
def TJ:SS:=⟨48,88,[(0,.iface 272 (pP 0)),tI 1,tI 2,tI 7,tI 8],[(0,.var iX (.cons (.own 1) .nil)),(1,.row 3 8 (.int .i64))],[]⟩
def TK:SS:=⟨48,88,[(0,.iface 272 (pP 0)),tI 1,tI 2,tI 7,tI 9],[(0,.var iX (.cons (.own 1) .nil)),(1,.row 3 8 (.int .i64))],[]⟩
def TL:SS:=⟨48,88,[tI 1,tI 7],[(0,.var iX (.cons (.own 1) .nil)),(1,.row 3 8 (.int .i64))],[]⟩
def TM:SS:=⟨48,88,[(0,.iface 272 (pP 0)),tI 1,tI 2,tI 7],[(0,.var iX (.cons (.own 1) .nil)),(1,.row 3 8 (.int .i64))],[]⟩
def TN:SS:=⟨48,88,[(6,vB)],[(0,.var iX (.cons (.own 1) .nil)),(1,.row 3 8 (.int .i64))],[]⟩
def It:aW:=aF G [.tmp 6] 210 [.iface 272 (pP 0),vI,vI] [(0,.var iX (.cons (.own 1) .nil)),(1,.row 3 8 (.int .i64))] 88 TN [0,1] (.bH (u3 rX))
theorem Iu:hS It:=
 cO ⟨[hD 3 21 [],hE 6 [cB 0 [(0,1)] []],hE 8 [cB 0 [(0,1)] []],hE 9 [cB 1 [(0,1)] []]],[(4,TJ),(8,TK),(11,TL)],[],[(2,⟨TM,fun _=>fJ⟩)],[],[]⟩ (hq Ce (hq xe hz)) aJ Tryz.call210 Tryz.func210
def rY(a0:Ze):Option (Int×Ze):=
 if 0≤(aZ ((List.length a0:Int) -(1:Int))) then(if(aZ ((List.length a0:Int) -(1:Int)))<(List.length a0:Int) then(if 0≤(aZ ((List.length a0:Int) -(1:Int))) then(if(aZ ((List.length a0:Int) -(1:Int)))≤(List.length a0:Int) then(some (nth (.int .i64) a0 (aZ ((List.length a0:Int) -(1:Int))),List.take ((Int.toNat (aZ ((List.length a0:Int) -(1:Int)))) -0) a0)) else none) else none) else none) else none
def TO:SS:=⟨32,72,[(2,.iface 3 vI)],[(0,.var iX (.cons (.own 48) .nil)),(48,.row 3 8 (.int .i64))],[]⟩
def Iv:aW:=aF G [.tmp 2] 242 [pP 0] [(0,.var iX (.cons (.own 1) .nil)),(1,.row 3 8 (.int .i64))] 72 TO [0,48] (.bH (u1 rY))
theorem Iw:hS Iv:=
 cO (hR [(2,⟨[],[],[],none,[],[],[.nB 0 [.cD 0] 48]⟩)]) hz aJ Tryz.call242 Tryz.func242
def oZ(a0:Ze):Option (Int×Ze):=
 Option.bind (oX a0) fun⟨a,b⟩=>Option.bind (j8 (0:Int) (aZ (a -(1:Int))) b) fun y2=>Option.bind (rX (0:Int) (aZ (a -(1:Int))) y2) fun⟨_,c⟩=>Option.bind (rY c) fun⟨d,e⟩=>some (d,e)
def TP:SS:=⟨15,55,[(2,.iface 3 vI)],[(0,.var iX (.cons (.own 30) .nil)),(30,.row 3 8 (.int .i64))],[]⟩
def Cg:aW:=aF G [.tmp 2] 151 [.iface 272 (pP 0)] [(0,.var iX (.cons (.own 1) .nil)),(1,.row 3 8 (.int .i64))] 55 TP [0,30] (.bH (u1 oZ))
theorem Iy:hS Cg:=
 cO (hR [hE 1 [cB 0 [(0,1)] []],hE 2 [cB 1 [(0,1)] []],hE 3 [cB 2 [(0,0),(1,1)] []],hE 4 [cB 3 [(0,0),(1,1)] [(48,30)]]]) (hq Cd (hq xe (hq Iu (hq Iw hz)))) aJ Tryz.call151 Tryz.func151
def eK(_l_:Nat)(_Y_:ZE):Nat→Nat×dW×ZT×Int×Int×Kr→Option (cW (Nat×ZT×Kr) IZ):=aK fun rec4 ⟨f,d,g,b,a,h,i,j,k,c,e⟩=>if(decide (a<b))=true then(if 0≤a then(if a<(List.length c:Int) then(if 0≤a then(if a<(List.length (List.set c (Int.toNat a) (List.length (bU (bz (.int .i64) (.map (.int .i64) .bool) a (bU d.2.1))):Int)):Int) then(if(decide ((nth (.int .i64) (List.set c (Int.toNat a) (List.length (bU (bz (.int .i64) (.map (.int .i64) .bool) a (bU d.2.1))):Int)) a)=(0:Int)))=true then(Option.bind (oY a e) fun y5=>rec4 (f,d,g,b,aZ (a+1),h,i,j,k,List.set c (Int.toNat a) (List.length (bU (bz (.int .i64) (.map (.int .i64) .bool) a (bU d.2.1))):Int),y5)) else(rec4 (f,d,g,b,aZ (a+1),h,i,j,k,List.set c (Int.toNat a) (List.length (bU (bz (.int .i64) (.map (.int .i64) .bool) a (bU d.2.1))):Int),e))) else none) else none) else none) else none) else(some (.brk (f,g,h,i,j,k,c,e)))
def eH(_l_:Nat)(_Y_:ZE):Nat→Nat×ZT×Ze×Int×Int×Kr→Option (cW (Nat×ZT×Kr) (cW IZ IZ)):=aK fun rec15 ⟨f,g,c,b,a,h,i,j,d,k,e⟩=>if(decide (a<b))=true then(if 0≤a then(if a<(List.length c:Int) then(if 0≤(nth (.int .i64) c a) then(if(nth (.int .i64) c a)<(List.length d:Int) then(if 0≤(nth (.int .i64) c a) then(if(nth (.int .i64) c a)<(List.length d:Int) then(if 0≤(nth (.int .i64) c a) then(if(nth (.int .i64) c a)<(List.length (List.set d (Int.toNat (nth (.int .i64) c a)) (aZ ((nth (.int .i64) d (nth (.int .i64) c a)) -(1:Int)))):Int) then(if(decide ((nth (.int .i64) (List.set d (Int.toNat (nth (.int .i64) c a)) (aZ ((nth (.int .i64) d (nth (.int .i64) c a)) -(1:Int)))) (nth (.int .i64) c a))=(0:Int)))=true then(Option.bind (oY (nth (.int .i64) c a) e) fun y16=>rec15 (f,g,c,b,aZ (a+1),h,i,j,List.set d (Int.toNat (nth (.int .i64) c a)) (aZ ((nth (.int .i64) d (nth (.int .i64) c a)) -(1:Int))),k,y16)) else(rec15 (f,g,c,b,aZ (a+1),h,i,j,List.set d (Int.toNat (nth (.int .i64) c a)) (aZ ((nth (.int .i64) d (nth (.int .i64) c a)) -(1:Int))),k,e))) else none) else none) else none) else none) else none) else none) else none) else none) else(some (.brk (f,g,h,i,j,d,k,e)))
def eM(l_:Nat)(Y_:ZE):Nat→Nat×ZT×Kr→Option (cW IZ IZ):=aK fun rec8 ⟨z,ae,aa,ab,ac,af,y,ad⟩=>Option.bind (f150 y) fun y9=>if(decide ((0:Int)<y9))=true then(aG (U:=Nat×ZT×Kr) (Option.bind (oZ y) fun⟨a,b⟩=>aG (U:=Nat×ZT×Int×Kr) (if z=l_ then(Option.bind (Y_ (a,aa,ab,ac,ad,())) fun⟨c,d,e,f,g⟩=>if(!c)=true then(cn (cn (cn (some (d,e,f,g))))) else(some (.brk (z,ae,a,d,e,f,af,b,g)))) else none) fun⟨j,i,h,k,l,m,n,p,o⟩=>if 0≤h then(if h<(List.length i:Int) then(eH l_ Y_ (Int.toNat (List.length (nth (.slice 8 (.int .i64)) i h):Int)+1) (j,i,nth (.slice 8 (.int .i64)) i h,(List.length (nth (.slice 8 (.int .i64)) i h):Int),0,k,l,m,n,o,p)) else none) else none) fun⟨q,r,s,t,u,v,x,w⟩=>rec8 (q,r,s,t,u,v,w,x)) else(some (.brk (aa,ab,ac,ad)))
def jf(l_:Nat)(Y_:ZE)(a0:Nat)(a1:dW)(a2:YC)(a3:Nat)(a4:Nat)(a5:Ze):Option IZ:=
 Option.bind (f148 a1) fun y1=>if 0≤a1.1 then(if a1.1≤a1.1 then(if a1.1*(8:Int)≤(aE:Int) then(aG (U:=Nat×ZT×Kr) (eK l_ Y_ (Int.toNat a1.1+1) (a0,a1,y1,a1.1,0,a2,a3,a4,a5,List.replicate (Int.toNat a1.1) (0:Int),([]:Ze))) fun⟨a,b,c,d,e,h,f,g⟩=>aG (U:=IZ) (eM l_ Y_ fJ (a,b,c,d,e,f,g,h)) fun⟨i,j,k,l⟩=>some (i,j,k,l)) else none) else none) else none
def TQ:SS:=⟨89,129,[(0,.vw),(3,.val (.slice 24 (.slice 8 (.int .i64)))),(4,.own 31),tP 5 33],[(0,.lp),(1,.tv (.slice 8 (.int .i64)) (.own 2)),(2,.row 3 8 (.int .i64)),(31,.row 3 8 (.int .i64)),(33,.var iX (.cons (.own 106) .nil)),(106,.row 3 8 (.int .i64))],[]⟩
def TR:SS:=⟨89,129,[(0,.vw),(3,.val (.slice 24 (.slice 8 (.int .i64)))),(4,.own 31),tP 5 33,tI 7],[(0,.lp),(1,.tv (.slice 8 (.int .i64)) (.own 107)),(31,.row 3 8 (.int .i64)),(33,.var iX (.cons (.own 67) .nil)),(67,.row 3 8 (.int .i64)),(107,.row 3 8 (.int .i64))],[]⟩
def TS:SS:=⟨89,129,[],[(0,.lp),(1,.tv (.slice 8 (.int .i64)) (.own 112)),(112,.row 3 8 (.int .i64))],[]⟩
def TT:SS:=⟨89,129,[(0,.vw),(3,.val (.slice 24 (.slice 8 (.int .i64)))),(4,.own 31),tP 5 33],[(0,.lp),(1,.tv (.slice 8 (.int .i64)) (.own 107)),(31,.row 3 8 (.int .i64)),(33,.var iX (.cons (.own 109) .nil)),(107,.row 3 8 (.int .i64)),(109,.row 3 8 (.int .i64))],[]⟩
def TU:SS:=⟨89,129,[(0,.vw),(1,.bN lV),(3,.val (.slice 24 (.slice 8 (.int .i64)))),(4,.own 31),tP 5 33,tI 19,tI 20],[(0,.lp),(1,.tv (.slice 8 (.int .i64)) (.own 2)),(2,.row 3 8 (.int .i64)),(31,.row 3 8 (.int .i64)),(33,.var iX (.cons (.own 105) .nil)),(105,.row 3 8 (.int .i64))],[]⟩
def TV:SS:=⟨89,129,[(0,.vw),(3,.val (.slice 24 (.slice 8 (.int .i64)))),(4,.own 31),tP 5 33],[(0,.lp),(1,.tv (.slice 8 (.int .i64)) (.own 111)),(31,.row 3 8 (.int .i64)),(33,.var iX (.cons (.own 110) .nil)),(110,.row 3 8 (.int .i64)),(111,.row 3 8 (.int .i64))],[]⟩
def TW:SS:=⟨89,129,[(0,.vw),(3,.val (.slice 24 (.slice 8 (.int .i64)))),(4,.own 31),tP 5 33,(66,.val (.slice 8 (.int .i64))),tI 67,tI 68],[(0,.lp),(1,.tv (.slice 8 (.int .i64)) (.own 107)),(31,.row 3 8 (.int .i64)),(33,.var iX (.cons (.own 108) .nil)),(107,.row 3 8 (.int .i64)),(108,.row 3 8 (.int .i64))],[]⟩
def TX:SS:=⟨89,129,[],[(0,.lp),(1,.tv (.slice 8 (.int .i64)) (.own 113)),(113,.row 3 8 (.int .i64))],[]⟩
def xh:IC:=⟨[vI],[(0,.lp),(1,.tv (.slice 8 (.int .i64)) (.own 2)),(2,.row 3 8 (.int .i64))],53,0,[(1,.tv (.slice 8 (.int .i64)) (.own 27)),(27,.row 3 8 (.int .i64))],fun l f=>aF G [] 147 [.vw,.bN lV] [(0,.lp),(1,.tv (.slice 8 (.int .i64)) (.own 2)),(2,.row 3 8 (.int .i64))] 129 TX [0,1,113] (.bH (u6 (jf l f)))⟩
theorem Iz:xh.holds Tryz.prog gl:=fun B hB l f hY=>
 aW.of tied (H:=⟨[hA 0 1,hE 7 [cB 2 [(0,33),(1,105)] [(22,56)]],hA 9 3,hE 10 [cB 4 [(0,33),(1,110)] [(30,67)]],hE 11 [cB 0 [(0,0),(1,1),(2,111)] [(27,107)]],hE 17 [cB 2 [(0,33),(1,108)] [(22,103)]]],[(9,TQ),(12,TR)],[(2,TS),(3,TT)],[(3,⟨TU,fun u3=>Int.toNat u3.2.2.2.1+1⟩),(9,⟨TV,fun _=>fJ⟩),(13,⟨TW,fun NW=>Int.toNat NW.2.2.2.1+1⟩)],[],[]⟩) (hold (l:=[IC.Y xh l f,Np,Cf,Nr,Cg]) ⟨hY,Tx.up rfl (fun _ _=>trivial),Is.up rfl (fun _ _=>trivial),TI.up rfl (fun _ _=>trivial),Iy.up rfl (fun _ _=>trivial),trivial⟩) aJ rfl Tryz.call147 Tryz.func147 rfl rfl rfl rfl (fun _=>by kernel_rfl) (fun _=>by kernel_rfl)
def gD(y_:YC)(b3_0:Int)(yt:YC)(yj:Nat)(g1:Nat)(c3_0:Ze):Option (Bool×IZ):=
 DZ yt y_ (if yj=0 then(if g1=y_.gs 1 then(Option.bind (α:=Nat×Nat×Ze) (if(List.length c3_0+List.length [b3_0])*8≤aE then(some (0,y_.gs 1,c3_0++[b3_0])) else none) fun r_=>if r_.2.1=y_.gs 1 then(some (Nat.beq r_.1 0,y_,r_.1,r_.2.1,r_.2.2)) else none) else none) else none)
def rZ(a0:dW):Option Ze:=
 aG (U:=Ze) (sJ fun y2=>Option.bind (jf y2.l (fun d=>gD y2 d.1 d.2.1 d.2.2.1 d.2.2.2.1 d.2.2.2.2.1) y2.l a0 y2 0 (y2.gs 1) ([]:Ze)) fun⟨a,b,_,c⟩=>DZ a y2 (if b=0 then(some (.brk c)) else none)) fun v1=>some v1
def TY:SS:=⟨13,53,[tP 2 18],[(18,.var (.slice 8 (.int .i64)) (.own 32)),(30,.sS),(32,.row 3 8 (.int .i64))],[.mp 30]⟩
def TZ:SS:=⟨13,53,[tP 2 18,(4,.bA),(6,.func 147 .nil (.cons (.bN lV) .nil))],[(18,.var (.slice 8 (.int .i64)) (.own 29)),(29,.row 3 8 (.int .i64))],[]⟩
def T0:SS:=⟨13,53,[],[(1,.var (.slice 8 (.int .i64)) (.own 27)),(27,.row 3 8 (.int .i64))],[]⟩
def T1:SS:=⟨13,53,[(4,.val (.slice 8 (.int .i64)))],[],[]⟩
def IA:aW:=aF G [.tmp 4] 111 [.bA,.func 147 .nil (.cons (.bN lV) .nil)] [] 53 T1 [] (.bH (u1 rZ))
theorem IB:hS IA:=
 cO ⟨[],[(4,TY)],[],[],[],[(3,⟨0,30,31,[(1,.slice 8 (.int .i64))],[(18,1)],[],[(0,31),(1,18),(2,29)],[(113,32)],TZ,T0⟩)]⟩ hz (uQ (L:=[xh]) ⟨Iz,trivial⟩) Tryz.call111 Tryz.func111
def mj(a0:dW):Option Ze:=
 Option.bind (rZ a0) fun y1=>some y1
def Ns:SS:=⟨5,45,[(2,.val (.slice 8 (.int .i64)))],[],[]⟩
def Lf:aW:=aF G [.tmp 2] 71 [.func 147 .nil (.cons (.bN lV) .nil)] [] 45 Ns [] (.bH (u1 mj))
theorem Lg:hS Lf:=
 cO (hR [hA 1 0]) (hq IB hz) aJ Tryz.call71 Tryz.func71
end Go.Proofs.YtgdcjlldafmomaaGreat
