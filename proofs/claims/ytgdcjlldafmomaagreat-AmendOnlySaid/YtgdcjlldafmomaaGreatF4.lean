/- Made by program (dec6.py): walks -/
import Derived.Test.YtgdcjlldafmomaaGreatF3
noncomputable section
namespace Go.Proofs.YtgdcjlldafmomaaGreat
open Go.Ax
def ux:Nat→Int×Int×Int×dm×ZT×Zn→Option (cz (Int×Int×dm×ZT) (cz ZT ZT)):=aH fun rec6 ⟨f,b,c,d,e,a⟩=>if List.isEmpty a=true then(some (.brk (b,c,d,e))) else BR a fun x7 l8=>if 0≤x7.1 then(if x7.1<(List.length e:Int) then(if 0≤x7.1 then(if Int.toNat x7.1=(Int.toNat x7.1) then(if(List.length (List.getD e (Int.toNat x7.1) [])+List.length [f])*8≤aC then(if 0≤x7.1 then(if Int.toNat x7.1=(Int.toNat x7.1) then(rec6 (f,b,c,d,List.set e (Int.toNat x7.1) ((List.getD e (Int.toNat x7.1) [])++[f]),l8)) else none) else none) else none) else none) else none) else none) else none
def pb:Nat→Int×Int×dm×ZT→Option (cz ZT ZT):=aH fun Z9 ⟨f,e,g,h⟩=>if(decide (e<f))=true then(aE (U:=Int×Int×dm×ZT) (ux (List.length (bT (bJ (.int .i64) (.map (.int .i64) .bool) e (bT g.2.1)))+1) (e,f,e,g,h,bT (bJ (.int .i64) (.map (.int .i64) .bool) e (bT g.2.1)))) fun⟨a,b,c,d⟩=>Z9 (a,aV (b+1),c,d)) else(some (.brk h))
def f148(a0:dm):Option ZT:=
 if 0≤a0.1 then(if a0.1≤a0.1 then(if a0.1*(24:Int)≤(aC:Int) then(aE (U:=ZT) (pb (Int.toNat a0.1+1) (a0.1,0,a0,List.replicate (Int.toNat a0.1) [])) fun v1=>some v1) else none) else none) else none
def LG:SS:=⟨35,75,[tP 1 17,(3,.own 24),tI 10,tI 11],[(17,bV jR),(24,.cm 30 24 (.slice 8 (.int .i64)) 3)],[]⟩
def RL:SS:=⟨35,75,[(3,.own 24)],[(24,.cm 30 24 (.slice 8 (.int .i64)) 3)],[]⟩
def RN:SS:=⟨35,75,[tP 1 17,(3,.own 24),tI 4,tI 10,tI 11,tP 18 34],[(17,bV jR),(24,.cm 30 24 (.slice 8 (.int .i64)) 3),(34,.jL (.int .i64) .bool)],[]⟩
def RQ:SS:=⟨35,75,[(2,.val (.slice 24 (.slice 8 (.int .i64))))],[],[]⟩
def LJ:aT:=aD G [.tmp 2] 148 [.val jR] [] 75 RQ [] (.bx (u1 f148))
theorem RR:hS LJ:=
 cO ⟨[(8,⟨[],[],[],none,[],[.row 24 51 (.t 5)],[.mE 24]⟩),(10,⟨[.Cc 24],[],[],none,[],[],[]⟩)],[(9,LG),(10,RL)],[],[(3,⟨LG,fun u2=>Int.toNat u2.1+1⟩),(6,⟨RN,fun u5=>List.length u5.2.2.2.2.2+1⟩)],[],[]⟩ hz aF Tryz.call148 Tryz.func148
def mn(a0:Zf):Option (Int×Zf):=
 some ((List.length a0:Int),a0)
def RS:SS:=⟨5,45,[tI 2],[(0,.row 3 8 (.int .i64))],[]⟩
def Gy:aT:=aD G [.tmp 2] 150 [.own 0] [(0,.row 3 8 (.int .i64))] 45 RS [0] (.bx (u1 mn))
theorem An:hS Gy:=
 cO (hR []) hz aF Tryz.call150 Tryz.func150
def jg(a0:Int)(a1:Int)(a2:Zf):Option (Bool×Zf):=
 if 0≤a0 then(if a0<(List.length a2:Int) then(if 0≤a1 then(if a1<(List.length a2:Int) then(some (decide ((nth (.int .i64) a2 a0)<(nth (.int .i64) a2 a1)),a2)) else none) else none) else none) else none
def RU:SS:=⟨16,56,[(6,vB)],[(0,.row 3 8 (.int .i64))],[]⟩
def Gz:aT:=aD G [.tmp 6] 241 [.own 0,vI,vI] [(0,.row 3 8 (.int .i64))] 56 RU [0] (.bx (u3 jg))
theorem Ao:hS Gz:=
 cO (hR []) hz aF Tryz.call241 Tryz.func241
def iy(a0:Int)(a1:Int)(a2:Zf):Option Zf:=
 if 0≤a1 then(if a1<(List.length a2:Int) then(if 0≤a0 then(if a0<(List.length a2:Int) then(if 0≤a0 then(if a0<(List.length a2:Int) then(if 0≤a1 then(if a1<(List.length (List.set a2 (Int.toNat a0) (nth (.int .i64) a2 a1)):Int) then(some (List.set (List.set a2 (Int.toNat a0) (nth (.int .i64) a2 a1)) (Int.toNat a1) (nth (.int .i64) a2 a0))) else none) else none) else none) else none) else none) else none) else none) else none
def RW:SS:=⟨20,60,[],[(0,.row 3 8 (.int .i64))],[]⟩
def GA:aT:=aD G [] 245 [.own 0,vI,vI] [(0,.row 3 8 (.int .i64))] 60 RW [0] (.bx (u3 iy))
theorem uy:hS GA:=
 cO (hR []) hz aF Tryz.call245 Tryz.func245
def lA:Nat→Int×Zf→Option (cz Zf Zf):=aH fun Z9 ⟨c,d⟩=>if(decide ((aV (Int.tdiv (aV (c -(1:Int))) (2:Int)))=c))=true then(some (.brk d)) else(Option.bind (jg c (aV (Int.tdiv (aV (c -(1:Int))) (2:Int))) d) fun⟨a,b⟩=>if(!a)=true then(some (.brk b)) else(Option.bind (iy (aV (Int.tdiv (aV (c -(1:Int))) (2:Int))) c b) fun y5=>Z9 (aV (Int.tdiv (aV (c -(1:Int))) (2:Int)),y5)))
def uz(a0:Int)(a1:Zf):Option Zf:=
 aE (U:=Zf) (lA ff (a0,a1)) fun v1=>some v1
def LK:SS:=⟨23,63,[],[(0,.var fX (.cons (.own 1) .nil)),(1,.row 3 8 (.int .i64))],[]⟩
def RX:SS:=⟨23,63,[(0,.iface 272 (pP 0)),tI 1],[(0,.var fX (.cons (.own 1) .nil)),(1,.row 3 8 (.int .i64))],[]⟩
def GB:aT:=aD G [] 209 [.iface 272 (pP 0),vI] [(0,.var fX (.cons (.own 1) .nil)),(1,.row 3 8 (.int .i64))] 63 LK [0,1] (.bx (u2 uz))
theorem GC:hS GB:=
 cO ⟨[hE 1 [cB 0 [(0,1)] []],hE 2 [cB 1 [(0,1)] []]],[],[(0,LK)],[(0,⟨RX,fun _=>ff⟩)],[],[]⟩ (hq Ao (hq uy hz)) aF Tryz.call209 Tryz.func209
def uA(a0:Int)(a1:Zf):Option Zf:=
 if(List.length a1+List.length [a0])*8≤aC then(some (a1++[a0])) else none
def RY:SS:=⟨22,62,[],[(0,.var fX (.cons (.own 35) .nil)),(35,.row 3 8 (.int .i64))],[]⟩
def GD:aT:=aD G [] 243 [pP 0,.iface 3 vI] [(0,.var fX (.cons (.own 1) .nil)),(1,.row 3 8 (.int .i64))] 62 RY [0,35] (.bx (u2 uA))
theorem GF:hS GD:=
 cO (hR []) hz aF Tryz.call243 Tryz.func243
def mo(a0:Int)(a1:Zf):Option Zf:=
 Option.bind (uA a0 a1) fun y1=>Option.bind (mn y1) fun⟨a,b⟩=>Option.bind (uz (aV (a -(1:Int))) b) fun y3=>some y3
def RZ:SS:=⟨12,52,[],[(0,.var fX (.cons (.own 22) .nil)),(22,.row 3 8 (.int .i64))],[]⟩
def Ap:aT:=aD G [] 149 [.iface 272 (pP 0),.iface 3 vI] [(0,.var fX (.cons (.own 1) .nil)),(1,.row 3 8 (.int .i64))] 52 RZ [0,22] (.bx (u2 mo))
theorem GH:hS Ap:=
 cO (hR [hE 0 [cB 0 [(0,0),(1,1)] [(35,22)]],hE 1 [cB 1 [(0,22)] [],cB 2 [(0,0),(1,22)] []]]) (hq GF (hq An (hq GC hz))) aF Tryz.call149 Tryz.func149
def f150(a0:Zf):ZM:=
 some (List.length a0:Int)
def R0:SS:=⟨5,45,[tI 2],[],[]⟩
def LL:aT:=aD G [.tmp 2] 150 [.val (.slice 8 (.int .i64))] [] 45 R0 [] (.bx (u1 f150))
theorem R3:hS LL:=
 cO (hR []) hz aF Tryz.call150 Tryz.func150
def ji:Nat→Int×Int×Int×Zf→Option (cz (Int×Int×Zf) (Bool×Zf)):=aH fun Z9 ⟨q,o,p,r⟩=>aE (U:=Int×Int×Int×Int×Zf) (Option.bind (α:=Bool) (if(decide (o≤(aV ((aV ((2:Int)*p))+(1:Int)))))=true then(some true) else(some (decide ((aV ((aV ((2:Int)*p))+(1:Int)))<(0:Int))))) fun v5=>if v5=true then(bP (some (.brk (q,p,r)))) else(some (.brk (q,o,p,aV ((aV ((2:Int)*p))+(1:Int)),r)))) fun⟨d,b,e,a,c⟩=>aE (U:=Int×Int×Int×Int×Zf) (if(decide ((aV (a+1))<b))=true then(Option.bind (jg (aV (a+1)) a c) fun⟨f,g⟩=>if f=true then(some (.brk (d,b,e,aV (a+1),g))) else(some (.brk (d,b,e,a,g)))) else(some (.brk (d,b,e,a,c)))) fun⟨k,l,i,h,j⟩=>Option.bind (jg h i j) fun⟨m,n⟩=>if(!m)=true then(some (.brk (k,i,n))) else(Option.bind (iy i h n) fun y9=>Z9 (k,l,h,y9))
def pd(a0:Int)(a1:Int)(a2:Zf):Option (Bool×Zf):=
 aE (U:=Int×Int×Zf) (ji ff (a0,a1,a0,a2)) fun⟨a,b,c⟩=>some (decide (a<b),c)
def R4:SS:=⟨48,88,[(0,.iface 272 (pP 0)),tI 1,tI 2,tI 7,tI 8],[(0,.var fX (.cons (.own 1) .nil)),(1,.row 3 8 (.int .i64))],[]⟩
def R5:SS:=⟨48,88,[(0,.iface 272 (pP 0)),tI 1,tI 2,tI 7,tI 9],[(0,.var fX (.cons (.own 1) .nil)),(1,.row 3 8 (.int .i64))],[]⟩
def R6:SS:=⟨48,88,[tI 1,tI 7],[(0,.var fX (.cons (.own 1) .nil)),(1,.row 3 8 (.int .i64))],[]⟩
def R7:SS:=⟨48,88,[(0,.iface 272 (pP 0)),tI 1,tI 2,tI 7],[(0,.var fX (.cons (.own 1) .nil)),(1,.row 3 8 (.int .i64))],[]⟩
def R8:SS:=⟨48,88,[(6,vB)],[(0,.var fX (.cons (.own 1) .nil)),(1,.row 3 8 (.int .i64))],[]⟩
def GI:aT:=aD G [.tmp 6] 210 [.iface 272 (pP 0),vI,vI] [(0,.var fX (.cons (.own 1) .nil)),(1,.row 3 8 (.int .i64))] 88 R8 [0,1] (.bx (u3 pd))
theorem GJ:hS GI:=
 cO ⟨[hD 3 21 [],hE 6 [cB 0 [(0,1)] []],hE 8 [cB 0 [(0,1)] []],hE 9 [cB 1 [(0,1)] []]],[(4,R4),(8,R5),(11,R6)],[],[(2,⟨R7,fun _=>ff⟩)],[],[]⟩ (hq Ao (hq uy hz)) aF Tryz.call210 Tryz.func210
def pg(a0:Zf):Option (Int×Zf):=
 if 0≤(aV ((List.length a0:Int) -(1:Int))) then(if(aV ((List.length a0:Int) -(1:Int)))<(List.length a0:Int) then(if 0≤(aV ((List.length a0:Int) -(1:Int))) then(if(aV ((List.length a0:Int) -(1:Int)))≤(List.length a0:Int) then(some (nth (.int .i64) a0 (aV ((List.length a0:Int) -(1:Int))),List.take ((Int.toNat (aV ((List.length a0:Int) -(1:Int)))) -0) a0)) else none) else none) else none) else none
def R9:SS:=⟨32,72,[(2,.iface 3 vI)],[(0,.var fX (.cons (.own 48) .nil)),(48,.row 3 8 (.int .i64))],[]⟩
def GK:aT:=aD G [.tmp 2] 242 [pP 0] [(0,.var fX (.cons (.own 1) .nil)),(1,.row 3 8 (.int .i64))] 72 R9 [0,48] (.bx (u1 pg))
theorem GL:hS GK:=
 cO (hR [(2,⟨[],[],[],none,[],[],[.lf 0 [.bZ 0] 48]⟩)]) hz aF Tryz.call242 Tryz.func242
def mq(a0:Zf):Option (Int×Zf):=
 Option.bind (mn a0) fun⟨a,b⟩=>Option.bind (iy (0:Int) (aV (a -(1:Int))) b) fun y2=>Option.bind (pd (0:Int) (aV (a -(1:Int))) y2) fun⟨_,c⟩=>Option.bind (pg c) fun⟨d,e⟩=>some (d,e)
def Sa:SS:=⟨15,55,[(2,.iface 3 vI)],[(0,.var fX (.cons (.own 30) .nil)),(30,.row 3 8 (.int .i64))],[]⟩
def Aq:aT:=aD G [.tmp 2] 151 [.iface 272 (pP 0)] [(0,.var fX (.cons (.own 1) .nil)),(1,.row 3 8 (.int .i64))] 55 Sa [0,30] (.bx (u1 mq))
theorem GM:hS Aq:=
 cO (hR [hE 1 [cB 0 [(0,1)] []],hE 2 [cB 1 [(0,1)] []],hE 3 [cB 2 [(0,0),(1,1)] []],hE 4 [cB 3 [(0,0),(1,1)] [(48,30)]]]) (hq An (hq uy (hq GJ (hq GL hz)))) aF Tryz.call151 Tryz.func151
def dD(_l_:Nat)(_Y_:ZG):Nat→Nat×dm×ZT×Int×Int×IM→Option (cz (Nat×ZT×IM) G9):=aH fun rec4 ⟨f,d,g,b,a,h,i,j,k,c,e⟩=>if(decide (a<b))=true then(if 0≤a then(if a<(List.length c:Int) then(if 0≤a then(if a<(List.length (List.set c (Int.toNat a) (List.length (bT (bJ (.int .i64) (.map (.int .i64) .bool) a (bT d.2.1))):Int)):Int) then(if(decide ((nth (.int .i64) (List.set c (Int.toNat a) (List.length (bT (bJ (.int .i64) (.map (.int .i64) .bool) a (bT d.2.1))):Int)) a)=(0:Int)))=true then(Option.bind (mo a e) fun y5=>rec4 (f,d,g,b,aV (a+1),h,i,j,k,List.set c (Int.toNat a) (List.length (bT (bJ (.int .i64) (.map (.int .i64) .bool) a (bT d.2.1))):Int),y5)) else(rec4 (f,d,g,b,aV (a+1),h,i,j,k,List.set c (Int.toNat a) (List.length (bT (bJ (.int .i64) (.map (.int .i64) .bool) a (bT d.2.1))):Int),e))) else none) else none) else none) else none) else(some (.brk (f,g,h,i,j,k,c,e)))
def dB(_l_:Nat)(_Y_:ZG):Nat→Nat×ZT×Zf×Int×Int×IM→Option (cz (Nat×ZT×IM) (cz G9 G9)):=aH fun rec15 ⟨f,g,c,b,a,h,i,j,d,k,e⟩=>if(decide (a<b))=true then(if 0≤a then(if a<(List.length c:Int) then(if 0≤(nth (.int .i64) c a) then(if(nth (.int .i64) c a)<(List.length d:Int) then(if 0≤(nth (.int .i64) c a) then(if(nth (.int .i64) c a)<(List.length d:Int) then(if 0≤(nth (.int .i64) c a) then(if(nth (.int .i64) c a)<(List.length (List.set d (Int.toNat (nth (.int .i64) c a)) (aV ((nth (.int .i64) d (nth (.int .i64) c a)) -(1:Int)))):Int) then(if(decide ((nth (.int .i64) (List.set d (Int.toNat (nth (.int .i64) c a)) (aV ((nth (.int .i64) d (nth (.int .i64) c a)) -(1:Int)))) (nth (.int .i64) c a))=(0:Int)))=true then(Option.bind (mo (nth (.int .i64) c a) e) fun y16=>rec15 (f,g,c,b,aV (a+1),h,i,j,List.set d (Int.toNat (nth (.int .i64) c a)) (aV ((nth (.int .i64) d (nth (.int .i64) c a)) -(1:Int))),k,y16)) else(rec15 (f,g,c,b,aV (a+1),h,i,j,List.set d (Int.toNat (nth (.int .i64) c a)) (aV ((nth (.int .i64) d (nth (.int .i64) c a)) -(1:Int))),k,e))) else none) else none) else none) else none) else none) else none) else none) else none) else(some (.brk (f,g,h,i,j,d,k,e)))
def dE(l_:Nat)(Y_:ZG):Nat→Nat×ZT×IM→Option (cz G9 G9):=aH fun rec8 ⟨z,ae,aa,ab,ac,af,y,ad⟩=>Option.bind (f150 y) fun y9=>if(decide ((0:Int)<y9))=true then(aE (U:=Nat×ZT×IM) (Option.bind (mq y) fun⟨a,b⟩=>aE (U:=Nat×ZT×Int×IM) (if z=l_ then(Option.bind (Y_ (a,aa,ab,ac,ad,())) fun⟨c,d,e,f,g⟩=>if(!c)=true then(bP (bP (bP (some (d,e,f,g))))) else(some (.brk (z,ae,a,d,e,f,af,b,g)))) else none) fun⟨j,i,h,k,l,m,n,p,o⟩=>if 0≤h then(if h<(List.length i:Int) then(dB l_ Y_ (Int.toNat (List.length (nth (.slice 8 (.int .i64)) i h):Int)+1) (j,i,nth (.slice 8 (.int .i64)) i h,(List.length (nth (.slice 8 (.int .i64)) i h):Int),0,k,l,m,n,o,p)) else none) else none) fun⟨q,r,s,t,u,v,x,w⟩=>rec8 (q,r,s,t,u,v,w,x)) else(some (.brk (aa,ab,ac,ad)))
def gw(l_:Nat)(Y_:ZG)(a0:Nat)(a1:dm)(a2:YC)(a3:Nat)(a4:Nat)(a5:Zf):Option G9:=
 Option.bind (f148 a1) fun y1=>if 0≤a1.1 then(if a1.1≤a1.1 then(if a1.1*(8:Int)≤(aC:Int) then(aE (U:=Nat×ZT×IM) (dD l_ Y_ (Int.toNat a1.1+1) (a0,a1,y1,a1.1,0,a2,a3,a4,a5,List.replicate (Int.toNat a1.1) (0:Int),([]:Zf))) fun⟨a,b,c,d,e,h,f,g⟩=>aE (U:=G9) (dE l_ Y_ ff (a,b,c,d,e,f,g,h)) fun⟨i,j,k,l⟩=>some (i,j,k,l)) else none) else none) else none
def Sb:SS:=⟨89,129,[(0,.sH),(3,.val (.slice 24 (.slice 8 (.int .i64)))),(4,.own 31),tP 5 33],[(0,.lp),(1,.tv (.slice 8 (.int .i64)) (.own 2)),(2,.row 3 8 (.int .i64)),(31,.row 3 8 (.int .i64)),(33,.var fX (.cons (.own 106) .nil)),(106,.row 3 8 (.int .i64))],[]⟩
def Sd:SS:=⟨89,129,[(0,.sH),(3,.val (.slice 24 (.slice 8 (.int .i64)))),(4,.own 31),tP 5 33,tI 7],[(0,.lp),(1,.tv (.slice 8 (.int .i64)) (.own 107)),(31,.row 3 8 (.int .i64)),(33,.var fX (.cons (.own 67) .nil)),(67,.row 3 8 (.int .i64)),(107,.row 3 8 (.int .i64))],[]⟩
def Se:SS:=⟨89,129,[],[(0,.lp),(1,.tv (.slice 8 (.int .i64)) (.own 112)),(112,.row 3 8 (.int .i64))],[]⟩
def Sf:SS:=⟨89,129,[(0,.sH),(3,.val (.slice 24 (.slice 8 (.int .i64)))),(4,.own 31),tP 5 33],[(0,.lp),(1,.tv (.slice 8 (.int .i64)) (.own 107)),(31,.row 3 8 (.int .i64)),(33,.var fX (.cons (.own 109) .nil)),(107,.row 3 8 (.int .i64)),(109,.row 3 8 (.int .i64))],[]⟩
def Sg:SS:=⟨89,129,[(0,.sH),(1,.bD jR),(3,.val (.slice 24 (.slice 8 (.int .i64)))),(4,.own 31),tP 5 33,tI 19,tI 20],[(0,.lp),(1,.tv (.slice 8 (.int .i64)) (.own 2)),(2,.row 3 8 (.int .i64)),(31,.row 3 8 (.int .i64)),(33,.var fX (.cons (.own 105) .nil)),(105,.row 3 8 (.int .i64))],[]⟩
def Si:SS:=⟨89,129,[(0,.sH),(3,.val (.slice 24 (.slice 8 (.int .i64)))),(4,.own 31),tP 5 33],[(0,.lp),(1,.tv (.slice 8 (.int .i64)) (.own 111)),(31,.row 3 8 (.int .i64)),(33,.var fX (.cons (.own 110) .nil)),(110,.row 3 8 (.int .i64)),(111,.row 3 8 (.int .i64))],[]⟩
def Sj:SS:=⟨89,129,[(0,.sH),(3,.val (.slice 24 (.slice 8 (.int .i64)))),(4,.own 31),tP 5 33,(66,.val (.slice 8 (.int .i64))),tI 67,tI 68],[(0,.lp),(1,.tv (.slice 8 (.int .i64)) (.own 107)),(31,.row 3 8 (.int .i64)),(33,.var fX (.cons (.own 108) .nil)),(107,.row 3 8 (.int .i64)),(108,.row 3 8 (.int .i64))],[]⟩
def Sk:SS:=⟨89,129,[],[(0,.lp),(1,.tv (.slice 8 (.int .i64)) (.own 113)),(113,.row 3 8 (.int .i64))],[]⟩
def uB:IC:=⟨[vI],[(0,.lp),(1,.tv (.slice 8 (.int .i64)) (.own 2)),(2,.row 3 8 (.int .i64))],53,0,[(1,.tv (.slice 8 (.int .i64)) (.own 27)),(27,.row 3 8 (.int .i64))],fun l f=>aD G [] 147 [.sH,.bD jR] [(0,.lp),(1,.tv (.slice 8 (.int .i64)) (.own 2)),(2,.row 3 8 (.int .i64))] 129 Sk [0,1,113] (.bx (u6 (gw l f)))⟩
theorem GN:uB.holds Tryz.prog gl:=fun B hB l f hY=>
 aT.of tied (H:=⟨[hA 0 1,hE 7 [cB 2 [(0,33),(1,105)] [(22,56)]],hA 9 3,hE 10 [cB 4 [(0,33),(1,110)] [(30,67)]],hE 11 [cB 0 [(0,0),(1,1),(2,111)] [(27,107)]],hE 17 [cB 2 [(0,33),(1,108)] [(22,103)]]],[(9,Sb),(12,Sd)],[(2,Se),(3,Sf)],[(3,⟨Sg,fun u3=>Int.toNat u3.2.2.2.1+1⟩),(9,⟨Si,fun _=>ff⟩),(13,⟨Sj,fun Mh=>Int.toNat Mh.2.2.2.1+1⟩)],[],[]⟩) (hold (l:=[IC.Y uB l f,LJ,Ap,LL,Aq]) ⟨hY,RR.up rfl (fun _ _=>trivial),GH.up rfl (fun _ _=>trivial),R3.up rfl (fun _ _=>trivial),GM.up rfl (fun _ _=>trivial),trivial⟩) aF rfl Tryz.call147 Tryz.func147 rfl rfl rfl rfl (fun _=>by kernel_rfl) (fun _=>by kernel_rfl)
def eV(y_:YC)(b3_0:Int)(yt:YC)(yj:Nat)(g1:Nat)(c3_0:Zf):Option (Bool×G9):=
 Ca yt y_ (if yj=0 then(if g1=y_.gs 1 then(Option.bind (α:=Nat×Nat×Zf) (if(List.length c3_0+List.length [b3_0])*8≤aC then(some (0,y_.gs 1,c3_0++[b3_0])) else none) fun r_=>if r_.2.1=y_.gs 1 then(some (Nat.beq r_.1 0,y_,r_.1,r_.2.1,r_.2.2)) else none) else none) else none)
def ph(a0:dm):Option Zf:=
 aE (U:=Zf) (pX fun y2=>Option.bind (gw y2.l (fun d=>eV y2 d.1 d.2.1 d.2.2.1 d.2.2.2.1 d.2.2.2.2.1) y2.l a0 y2 0 (y2.gs 1) ([]:Zf)) fun⟨a,b,_,c⟩=>Ca a y2 (if b=0 then(some (.brk c)) else none)) fun v1=>some v1
def Sl:SS:=⟨13,53,[tP 2 18],[(18,.var (.slice 8 (.int .i64)) (.own 32)),(30,.qf),(32,.row 3 8 (.int .i64))],[.mp 30]⟩
def Sm:SS:=⟨13,53,[tP 2 18,(4,.aX),(6,.func 147 .nil (.cons (.bD jR) .nil))],[(18,.var (.slice 8 (.int .i64)) (.own 29)),(29,.row 3 8 (.int .i64))],[]⟩
def Sn:SS:=⟨13,53,[],[(1,.var (.slice 8 (.int .i64)) (.own 27)),(27,.row 3 8 (.int .i64))],[]⟩
def Sp:SS:=⟨13,53,[(4,.val (.slice 8 (.int .i64)))],[],[]⟩
def GO:aT:=aD G [.tmp 4] 111 [.aX,.func 147 .nil (.cons (.bD jR) .nil)] [] 53 Sp [] (.bx (u1 ph))
theorem GP:hS GO:=
 cO ⟨[],[(4,Sl)],[],[],[],[(3,⟨0,30,31,[(1,.slice 8 (.int .i64))],[(18,1)],[],[(0,31),(1,18),(2,29)],[(113,32)],Sm,Sn⟩)]⟩ hz (sh (L:=[uB]) ⟨GN,trivial⟩) Tryz.call111 Tryz.func111
def j6(a0:dm):Option Zf:=
 Option.bind (ph a0) fun y1=>some y1
def LM:SS:=⟨5,45,[(2,.val (.slice 8 (.int .i64)))],[],[]⟩
def JC:aT:=aD G [.tmp 2] 71 [.func 147 .nil (.cons (.bD jR) .nil)] [] 45 LM [] (.bx (u1 j6))
theorem JD:hS JC:=
 cO (hR [hA 1 0]) (hq GP hz) aF Tryz.call71 Tryz.func71
end Go.Proofs.YtgdcjlldafmomaaGreat
