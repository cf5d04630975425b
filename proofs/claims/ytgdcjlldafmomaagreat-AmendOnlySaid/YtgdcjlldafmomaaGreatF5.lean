/- Made by program (dec6.py): walks -/
import Derived.Test.YtgdcjlldafmomaaGreatUO
noncomputable section
namespace Go.Proofs.YtgdcjlldafmomaaGreat
open Go.Ax
def f61(a0:cK):Option (Zf×Bool×Int):=
 Option.bind (f95 a0) fun⟨a,b⟩=>if(!decide (a=(0:Int)))=true then(some (([]:Zf),false,a)) else(Option.bind (xX b) fun y2=>Option.bind (pE y2) fun y3=>if(decide ((List.length y3:Int)<b.1))=true then(some (([]:Zf),false,0)) else(some (y3,true,0)))
def Th:SS:=⟨23,63,[(2,.val (.slice 8 (.int .i64))),(3,vB),tI 4],[],[]⟩
def Yv:aT:=aD G [.tmp 2,.tmp 3,.tmp 4] 61 [.val fe] [] 63 Th [] (.bx (u1 f61))
theorem Ti:hS Yv:=
 cO (hR [hA 1 0,(4,⟨[],[(2,15,.aN .func)],[⟨[1],[],[(17,31)],[],[]⟩,⟨[2],[],[],[],[]⟩],none,[],[],[]⟩)]) (hq WV (hq Jx (hq HJ hz))) aF Tryz.call61 Tryz.func61
def f92(a0:cK):ZM:=
 Option.bind (f57 a0) fun y1=>if(!decide (y1=(0:Int)))=true then(some y1) else(Option.bind (f61 a0) fun⟨_,b,a⟩=>if(!decide (a=(0:Int)))=true then(some a) else(if(!b)=true then(some (141:Int)) else(some (0:Int))))
def Tj:SS:=⟨22,62,[tI 2],[],[]⟩
def Yw:aT:=aD G [.tmp 2] 92 [.val fe] [] 62 Tj [] (.bx (u1 f92))
theorem Yx:hS Yw:=
 cO (hR [hA 1 0,hA 4 1]) (hq VH (hq Ti hz)) aF Tryz.call92 Tryz.func92
def nF:Nat→Zf×Int×Zf×Int×Int×Zn→Option (cz (Zf×Int×Zn) (Bool×Zn)):=aH fun Z9 ⟨e,f,c,b,a,d⟩=>if(decide (a<b))=true then(if 0≤a then(if a<(List.length c:Int) then(if(bJ (.int .i64) .bool (nth (.int .i64) c a) d)=true then(bP (some (false,d))) else(if List.length d+1≤aC then(Z9 (e,f,c,b,aV (a+1),bz (.int .i64) (nth (.int .i64) c a) true d)) else none)) else none) else none) else(some (.brk (e,f,d)))
def zh(a0:Zf)(a1:Int)(a2:Zn):Option (Bool×Zn):=
 aE (U:=Zf×Int×Zn) (nF (Int.toNat (List.length a0:Int)+1) (a0,a1,a0,(List.length a0:Int),0,a2)) fun⟨a,b,c⟩=>some (decide ((List.length a:Int)=b),c)
def Tk:SS:=⟨25,65,[(1,.val (.slice 8 (.int .i64))),tI 2],[(0,.map (.int .i64) .bool)],[]⟩
def Tl:SS:=⟨25,65,[(0,.mp 0),(1,.val (.slice 8 (.int .i64))),tI 2,(9,.val (.slice 8 (.int .i64))),tI 10,tI 11],[(0,.map (.int .i64) .bool)],[]⟩
def Tm:SS:=⟨25,65,[(6,vB)],[(0,.map (.int .i64) .bool)],[]⟩
def J5:aT:=aD G [.tmp 6] 93 [.mp 0,.val (.slice 8 (.int .i64)),vI] [(0,.map (.int .i64) .bool)] 65 Tm [0] (.bx (u3 zh))
theorem J6:hS J5:=
 cO ⟨[],[(8,Tk)],[],[(2,⟨Tl,fun u2=>Int.toNat u2.2.2.2.1+1⟩)],[],[]⟩ hz aF Tryz.call93 Tryz.func93
def f59(a0:cK):ZM:=
 Option.bind (f92 a0) fun y1=>if(!decide (y1=(0:Int)))=true then(some y1) else(Option.bind (f61 a0) fun⟨c,b,a⟩=>if(!decide (a=(0:Int)))=true then(some a) else(if(!b)=true then(some (141:Int)) else(Option.bind (zh c (List.length a0.2.2.1:Int) ([]:Zn)) fun⟨d,_⟩=>if(!d)=true then(some (141:Int)) else(some (0:Int)))))
def Tn:SS:=⟨31,71,[tI 2],[],[]⟩
def Yy:aT:=aD G [.tmp 2] 59 [.val fe] [] 71 Tn [] (.bx (u1 f59))
theorem Yz:hS Yy:=
 cO (hR [hA 1 0,hA 4 1,hE 7 [cB 2 [(0,39)] []]]) (hq Yx (hq Ti (hq J6 hz))) aF Tryz.call59 Tryz.func59
def f54(a0:cK)(a1:Int)(a2:Int)(a3:Int):Zk:=
 Option.bind (f78 (a0,()) a1 a2) fun⟨a,b⟩=>Option.bind (α:=Bool) (if a=true then(Option.bind (f79 (a0,()) b) fun y2=>if y2=true then(if(decide (b.2.1≤a3))=true then(some (decide (a3≤b.2.2.1))) else(some false)) else(some false)) else(some false)) fun v3=>some v3
def To:SS:=⟨38,78,[(8,vB)],[],[]⟩
def YA:aT:=aD G [.tmp 8] 54 [.val fe,vI,vI,vI] [] 78 To [] (.bx (u4 f54))
theorem V6:hS YA:=
 cO (hR [hA 2 0,hD 3 8 [cA 1]]) (hq Ly (hq PY hz)) aF Tryz.call54 Tryz.func54
def kS:Nat→Int×ZF×ZF×Int×Int×cK→Option (cz ZF Bool):=aH fun aaI ⟨e,f,c,b,a,d⟩=>if(decide (a<b))=true then(if 0≤a then(if a<(List.length c:Int) then(Option.bind (f54 d e a (nth du c a).2.1.2.1) fun y6=>if(!y6)=true then(bP (some false)) else(aaI (e,f,c,b,aV (a+1),d))) else none) else none) else(some (.brk f))
def f144(a0:cK)(a1:Int):Zk:=
 aE (U:=Int×cK) (Option.bind (α:=Bool) (if(decide (a1<(0:Int)))=true then(some true) else(some (decide ((List.length a0.2.2.1:Int)≤a1)))) fun v2=>if v2=true then(bP (some false)) else(some (.brk (a1,a0)))) fun⟨a,b⟩=>if 0≤a then(if a<(List.length b.2.2.1:Int) then(aE (U:=ZF) (kS (Int.toNat (List.length (nth bB b.2.2.1 a).2.2.2.2.1:Int)+1) (a,(nth bB b.2.2.1 a).2.2.2.2.1,(nth bB b.2.2.1 a).2.2.2.2.1,(List.length (nth bB b.2.2.1 a).2.2.2.2.1:Int),0,b)) fun v3=>Option.bind (α:=Bool) (if(decide ((0:Int)<(List.length v3:Int)))=true then(if(0:Int)<(List.length v3:Int) then(some (decide ((nth du v3 (0:Int)).2.1.1=(3:Int)))) else none) else(some false)) fun v7=>some v7) else none) else none
def Tq:SS:=⟨50,90,[tI 1,tP 2 18],[(18,bV fe)],[]⟩
def Tr:SS:=⟨50,90,[(5,.val (.slice 120 du))],[],[]⟩
def Ts:SS:=⟨50,90,[tI 1,tP 2 18,(5,.val (.slice 120 du)),(23,.val (.slice 120 du)),tI 24,tI 25],[(18,bV fe)],[]⟩
def Tt:SS:=⟨50,90,[(4,vB)],[],[]⟩
def Tu:aT:=aD G [.tmp 4] 144 [.val fe,vI] [] 90 Tt [] (.bx (u2 f144))
theorem Tv:hS Tu:=
 cO ⟨[hD 1 16 [],hA 7 0,hD 10 4 []],[(3,Tq),(10,Tr)],[],[(5,⟨Ts,fun u4=>Int.toNat u4.2.2.2.1+1⟩)],[],[]⟩ (hq V6 hz) aF Tryz.call144 Tryz.func144
def f145(a0:gI)(a1:gI)(a2:Int):Zk:=
 if(!decide (a0.1=a1.1))=true then(some false) else(aE (U:=Int×gI×gI) (Option.bind (α:=Bool) (if(decide (a0.1=(1:Int)))=true then(some true) else(some (decide (a0.1=(2:Int))))) fun v2=>if v2=true then(Option.bind (α:=Bool) (if(decide (a1.2.1=(aV (a0.2.1+a2))))=true then(if(decide (a1.2.2.1=(aV (a0.2.2.1+a2))))=true then(some (decide (a0.2.2.2.2.1=a1.2.2.2.2.1))) else(some false)) else(some false)) fun v3=>bP (some v3)) else(some (.brk (a2,a0,a1)))) fun⟨a,b,c⟩=>Option.bind (α:=Bool) (if(decide (a=(0:Int)))=true then(if(decide (b.2.1=c.2.1))=true then(if(decide (b.2.2.1=c.2.2.1))=true then(some (decide ((List.length b.2.2.2.2.2.1:Int)=(List.length c.2.2.2.2.2.1:Int)))) else(some false)) else(some false)) else(some false)) fun v4=>some v4)
def Tw:SS:=⟨68,108,[tI 2,tP 3 19,tP 4 20],[(19,bV jP),(20,bV jP)],[]⟩
def Tx:SS:=⟨68,108,[(6,vB)],[],[]⟩
def Tz:aT:=aD G [.tmp 6] 145 [.val jP,.val jP,vI] [] 108 Tx [] (.bx (u3 f145))
theorem TA:hS Tz:=
 cO ⟨[hD 3 19 [],hD 4 6 [],hD 5 6 []],[(5,Tw)],[],[],[],[]⟩ hz aF Tryz.call145 Tryz.func145
def rf:Nat→ZF×ZF×Zq×Int×Int×List Bool×List Bool→Zt:=aH fun rec9 ⟨l,m,k,j,i,n,o⟩=>if(decide (i<j))=true then(if 0≤i then(if i<(List.length k:Int) then(aE (U:=ZF×ZF×Zq×Int×Int×fm×List Bool×List Bool) (Option.bind (α:=Bool) (if(decide ((nth aO k i).2.2.2.1<(1:Int)))=true then(some true) else(if(decide ((List.length l:Int)≤(nth aO k i).2.2.2.1))=true then(some true) else(if(decide ((nth aO k i).2.2.1<(1:Int)))=true then(some true) else(if(decide ((List.length m:Int)≤(nth aO k i).2.2.1))=true then(some true) else(if 0≤(nth aO k i).2.2.2.1 then(if(nth aO k i).2.2.2.1<(List.length n:Int) then(if(nth .bool n (nth aO k i).2.2.2.1)=true then(some true) else(if 0≤(nth aO k i).2.2.1 then(if(nth aO k i).2.2.1<(List.length o:Int) then(some (nth .bool o (nth aO k i).2.2.1)) else none) else none)) else none) else none))))) fun v11=>if v11=true then(bP (bP (some false))) else(some (.brk (l,m,k,j,i,nth aO k i,n,o)))) fun⟨d,e,f,g,h,a,b,c⟩=>if 0≤a.2.2.2.1 then(if a.2.2.2.1<(List.length b:Int) then(if 0≤a.2.2.1 then(if a.2.2.1<(List.length c:Int) then(if 0≤a.2.2.2.1 then(if a.2.2.2.1<(List.length d:Int) then(if 0≤a.2.2.1 then(if a.2.2.1<(List.length e:Int) then(Option.bind (f145 (nth du d a.2.2.2.1).2.1 (nth du e a.2.2.1).2.1 a.2.2.2.2.1) fun y12=>if(!y12)=true then(bP (some false)) else(rec9 (d,e,f,g,aV (h+1),List.set b (Int.toNat a.2.2.2.1) true,List.set c (Int.toNat a.2.2.1) true))) else none) else none) else none) else none) else none) else none) else none) else none) else none) else none) else(some (.brk ()))
def f94(a0:cK)(a1:nC):Zk:=
 aE (U:=cK×nC) (Option.bind (α:=Bool) (if(decide (a1.2.2.1=a1.2.2.2.1))=true then(some true) else(Option.bind (f144 a0 a1.2.2.1) fun y2=>if(!y2)=true then(some true) else(Option.bind (f144 a0 a1.2.2.2.1) fun y3=>some (!y3)))) fun v4=>if v4=true then(bP (some false)) else(some (.brk (a0,a1)))) fun⟨b,a⟩=>if 0≤a.2.2.1 then(if a.2.2.1<(List.length b.2.2.1:Int) then(if 0≤a.2.2.2.1 then(if a.2.2.2.1<(List.length b.2.2.1:Int) then(aE (U:=ZF×ZF×nC) (Option.bind (α:=Bool) (if(!decide ((List.length a.2.2.2.2.1:Int)=(aV ((List.length (nth bB b.2.2.1 a.2.2.1).2.2.2.2.1:Int) -(1:Int)))))=true then(some true) else(some (!decide ((List.length a.2.2.2.2.1:Int)=(aV ((List.length (nth bB b.2.2.1 a.2.2.2.1).2.2.2.2.1:Int) -(1:Int))))))) fun v6=>if v6=true then(bP (some false)) else(some (.brk ((nth bB b.2.2.1 a.2.2.1).2.2.2.2.1,(nth bB b.2.2.1 a.2.2.2.1).2.2.2.2.1,a)))) fun⟨c,d,e⟩=>if 0≤(List.length c:Int) then(if(List.length c:Int)≤(List.length c:Int) then(if(List.length c:Int)*(1:Int)≤(aC:Int) then(if 0≤(List.length d:Int) then(if(List.length d:Int)≤(List.length d:Int) then(if(List.length d:Int)*(1:Int)≤(aC:Int) then(aE (U:=Unit) (rf (Int.toNat (List.length e.2.2.2.2.1:Int)+1) (c,d,e.2.2.2.2.1,(List.length e.2.2.2.2.1:Int),0,List.replicate (Int.toNat (List.length c:Int)) false,List.replicate (Int.toNat (List.length d:Int)) false)) fun _v7=>some true) else none) else none) else none) else none) else none) else none) else none) else none) else none) else none
def TB:SS:=⟨134,174,[tP 2 18,tP 3 19],[(18,bV fe),(19,bV dR)],[]⟩
def TC:SS:=⟨134,174,[tP 3 19,(5,.val (.slice 120 du)),(6,.val (.slice 120 du))],[(19,bV dR)],[]⟩
def TE:SS:=⟨134,174,[(5,.val (.slice 120 du)),(6,.val (.slice 120 du)),(7,.own 78),(8,.own 81),tP 10 26,(67,.val (.slice 56 aO)),tI 68,tI 69],[(26,bV aO),(78,.row 4 1 .bool),(81,.row 4 1 .bool)],[]⟩
def TF:SS:=⟨134,174,[],[],[]⟩
def TH:SS:=⟨134,174,[(5,.val (.slice 120 du)),(6,.val (.slice 120 du)),(7,.own 78),(8,.own 81),(67,.val (.slice 56 aO)),tI 68,tI 69],[(78,.row 4 1 .bool),(81,.row 4 1 .bool)],[]⟩
def TI:SS:=⟨134,174,[(4,vB)],[],[]⟩
def YB:aT:=aD G [.tmp 4] 94 [.val fe,.val dR] [] 174 TI [] (.bx (u2 f94))
theorem YD:hS YB:=
 cO ⟨[hD 1 29 [cA 0,cA 0],hD 4 59 [],hD 10 108 [],hA 13 1],[(3,TB),(6,TC),(12,TE),(16,TF)],[],[(8,⟨TH,fun u8=>Int.toNat u8.2.2.2.1+1⟩)],[],[]⟩ (hq Tv (hq TA hz)) aF Tryz.call94 Tryz.func94
def zi:Nat→ZE×Int×Int×cK→Option (cz Unit Int):=aH fun Z9 ⟨c,b,a,d⟩=>if(decide (a<b))=true then(if 0≤a then(if a<(List.length c:Int) then(Option.bind (f94 d (nth dR c a)) fun y4=>if(!y4)=true then(bP (some (150:Int))) else(Z9 (c,b,aV (a+1),d))) else none) else none) else(some (.brk ()))
def f60(a0:cK):ZM:=
 aE (U:=Unit) (zi (Int.toNat (List.length a0.2.2.2.2.1:Int)+1) (a0.2.2.2.2.1,(List.length a0.2.2.2.2.1:Int),0,a0)) fun _v1=>some (0:Int)
def TJ:SS:=⟨17,57,[],[],[]⟩
def TK:SS:=⟨17,57,[tP 1 17,(6,.val (.slice 72 dR)),tI 7,tI 8],[(17,bV fe)],[]⟩
def TL:SS:=⟨17,57,[tI 2],[],[]⟩
def YE:aT:=aD G [.tmp 2] 60 [.val fe] [] 57 TL [] (.bx (u1 f60))
theorem YF:hS YE:=
 cO ⟨[hA 4 0],[(7,TJ)],[],[(2,⟨TK,fun u2=>Int.toNat u2.2.1+1⟩)],[],[]⟩ (hq YD hz) aF Tryz.call60 Tryz.func60
def f36(a0:cK):Option (Int×Cf):=
 aE (U:=cK) (Option.bind (f56 a0) fun y2=>if(!decide (y2=(0:Int)))=true then(bP (some (y2,(([]:ZH),([]:Zq),([]:ZA),([]:Zm),([]:ZE),([]:Zz),()),([]:Zf),()))) else(Option.bind (f57 a0) fun y3=>if(!decide (y3=(0:Int)))=true then(bP (some (y3,(([]:ZH),([]:Zq),([]:ZA),([]:Zm),([]:ZE),([]:Zz),()),([]:Zf),()))) else(Option.bind (f58 a0) fun y4=>if(!decide (y4=(0:Int)))=true then(bP (some (y4,(([]:ZH),([]:Zq),([]:ZA),([]:Zm),([]:ZE),([]:Zz),()),([]:Zf),()))) else(Option.bind (f59 a0) fun y5=>if(!decide (y5=(0:Int)))=true then(bP (some (y5,(([]:ZH),([]:Zq),([]:ZA),([]:Zm),([]:ZE),([]:Zz),()),([]:Zf),()))) else(Option.bind (f60 a0) fun y6=>if(!decide (y6=(0:Int)))=true then(bP (some (y6,(([]:ZH),([]:Zq),([]:ZA),([]:Zm),([]:ZE),([]:Zz),()),([]:Zf),()))) else(some (.brk a0))))))) fun v1=>Option.bind (f61 v1) fun⟨b,_,a⟩=>if(!decide (a=(0:Int)))=true then(some (a,(([]:ZH),([]:Zq),([]:ZA),([]:Zm),([]:ZE),([]:Zz),()),([]:Zf),())) else(some (0,v1,b,()))
def TM:SS:=⟨36,76,[tP 1 17,tP 2 18],[(17,bV fe),(18,.var DZ (.cons (.cons .aX (.cons .aX (.cons .aX (.cons .aX (.cons .aX (.cons .aX .nil)))))) (.cons .aX .nil)))],[]⟩
def TN:SS:=⟨36,76,[tP 2 18,tI 3],[(18,bV DZ)],[]⟩
def YG:aT:=aD G [.cell 2 32,.tmp 3] 36 [.val fe] [] 76 TN [] (.bx (u1 f36))
theorem YH:hS YG:=
 cO ⟨[hE 5 [⟨[4,3,2,1,0],[],[],[],[]⟩],hA 9 5],[(9,TM)],[],[],[(3,12)],[]⟩ (hq Wz (hq VH (hq WT (hq Yz (hq YF (hq Ti hz)))))) aF Tryz.call36 Tryz.func36
def f37(a0:Cf)(a1:Cf):Zk:=
 Option.bind (α:=Bool) (Option.bind (f62 a0.1 a1.1) fun y1=>if y1=true then(Option.bind (f63 a0.2.1 a1.2.1) fun y2=>some y2) else(some false)) fun v3=>some v3
def TO:SS:=⟨17,57,[(4,vB)],[],[]⟩
def YI:aT:=aD G [.tmp 4] 37 [.val DZ,.val DZ] [] 57 TO [] (.bx (u2 f37))
theorem YJ:hS YI:=
 cO (hR [hD 1 4 [cA 0,cA 1]]) (hq VF (hq V4 hz)) aF Tryz.call37 Tryz.func37
def f18(a0:Cf):ZM:=
 Option.bind (f36 a0.1) fun⟨a,b⟩=>Option.bind (α:=Bool) (if(!decide (a=(0:Int)))=true then(some true) else(Option.bind (f37 b a0) fun y2=>some (!y2))) fun v3=>if v3=true then(some (160:Int)) else(some (0:Int))
def TP:SS:=⟨18,58,[tI 2],[],[]⟩
def YK:aT:=aD G [.tmp 2] 18 [.val DZ] [] 58 TP [] (.bx (u1 f18))
theorem TQ:hS YK:=
 cO (hR [hA 1 0,hD 2 17 [cA 1]]) (hq YH (hq YJ hz)) aF Tryz.call18 Tryz.func18
def D6(a0:Int)(a1:Int)(a2:Mf):Option (Mf×Zs):=
 some (a2,a2.1,a2.2.1,a0,a1,a2.2.2.2.2.1,a2.2.2.2.2.2.1,a2.2.2.2.2.2.2.2.2.2,([]:Zj),([]:Zi),([]:Zh))
def TR:SS:=⟨20,60,[tP 6 23],[(0,bV gY),(23,fB 32 33 36),(32,.map bE bU),(33,.map aZ .bool),(36,.row 74 40 aZ)],[]⟩
def J7:aT:=aD G [.tmp 6] 29 [pP 0,vI,vI] [(0,bV gY)] 60 TR [0,23,32,33,36] (.bx (u3 D6))
theorem J8:hS J7:=
 cO (hR [(3,⟨[.oD 23 [.bZ 8] 36 74 40 aZ],[],[],none,[],[],[]⟩)]) hz aF Tryz.call29 Tryz.func29
def sN:Nat→Int×Int×Zl×Int×Int×bL×ZQ→Option (cz (Int×Int×bL×ZQ) Zs):=aH fun Z9 ⟨e,f,c,b,a,g,d,h,i,j,k,l⟩=>if(decide (a<b))=true then(if 0≤a then(if a<(List.length c:Int) then(if aU bE (nth aR c a).1 (nth aR c a).1=true then(if List.length d+1≤aC then(if(List.length (bJ bE (.slice 64 aR) (nth aR c a).1 d)+List.length [nth aR c a])*64≤aC then(Z9 (e,f,c,b,aV (a+1),g,bz bE (nth aR c a).1 ((bJ bE (.slice 64 aR) (nth aR c a).1 d)++[nth aR c a]) (bz bE (nth aR c a).1 (Ty.aB (.slice 64 aR)) d),h,i,j,k,l)) else none) else none) else none) else none) else none) else(some (.brk (e,f,g,d,h,i,j,k,l)))
def sO:Nat→Int×Int×Zm×Int×Int×ZQ→Option (cz (Int×Int×ZQ) Zs):=aH fun rec6 ⟨e,f,c,b,a,g,d,h,i,j,k⟩=>if(decide (a<b))=true then(if 0≤a then(if a<(List.length c:Int) then(if List.length d+1≤aC then(rec6 (e,f,c,b,aV (a+1),g,bz (.int .i64) (nth bu c a).2.1 true d,h,i,j,k)) else none) else none) else none) else(some (.brk (e,f,g,d,h,i,j,k)))
def nG(a0:bL)(a1:Int)(a2:Int)(a3:Bool):Option Zs:=
 aE (U:=Int×Int×bL×ZQ) (sN (Int.toNat (List.length a0.2.1:Int)+1) (a1,a2,a0.2.1,(List.length a0.2.1:Int),0,a0,([]:Ex),([]:Zn),a0,0,0,a3)) fun⟨b,c,a,d,e,f,g,h,i⟩=>aE (U:=Int×Int×ZQ) (sO (Int.toNat (List.length a.1.1.2.2.2.1:Int)+1) (b,c,a.1.1.2.2.2.1,(List.length a.1.1.2.2.2.1:Int),0,d,e,f,g,h,i)) fun⟨j,k,m,q,l,n,o,p⟩=>Option.bind (D6 j k (l,some m,n,o,p,some q,(none:Option Zj),(none:Option Zi),([]:Zh),())) fun⟨_,r,s,t,u,v,w,x,y,z,aa⟩=>some (r,s,t,u,v,w,x,y,z,aa)
def TS:SS:=⟨60,100,[tI 1,tI 2,tP 4 20,tP 9 35],[(20,bV dF),(31,.pmap bE (.slice 64 aR) 106),(33,.map (.int .i64) .bool),(35,.var gY (.cons (.val dF) (.cons (.mp 31) (.cons vI (.cons vI (.cons vB (.cons (.mp 33) (.cons .di (.cons .di (.cons .aX .nil))))))))))],[]⟩
def TT:SS:=⟨60,100,[tI 1,tI 2,tP 9 35],[(31,.map bE (.slice 64 aR)),(33,.map (.int .i64) .bool),(35,.var gY (.cons (.val dF) (.cons (.mp 31) (.cons vI (.cons vI (.cons vB (.cons (.mp 33) (.cons .di (.cons .di (.cons .aX .nil))))))))))],[]⟩
def TU:SS:=⟨60,100,[tI 1,tI 2,tP 4 20,tP 9 35,(21,.val (.slice 64 aR)),tI 22,tI 23],[(20,bV dF),(31,.pmap bE (.slice 64 aR) 106),(33,.map (.int .i64) .bool),(35,.var gY (.cons (.val dF) (.cons (.mp 31) (.cons vI (.cons vI (.cons vB (.cons (.mp 33) (.cons .di (.cons .di (.cons .aX .nil))))))))))],[]⟩
def TV:SS:=⟨60,100,[tI 1,tI 2,tP 9 35,(43,.val (.slice 96 bu)),tI 44,tI 45],[(31,.map bE (.slice 64 aR)),(33,.map (.int .i64) .bool),(35,.var gY (.cons (.val dF) (.cons (.mp 31) (.cons vI (.cons vI (.cons vB (.cons (.mp 33) (.cons .di (.cons .di (.cons .aX .nil))))))))))],[]⟩
def TW:SS:=⟨60,100,[tP 8 75],[(75,fB 76 77 78),(76,.map bE bU),(77,.map aZ .bool),(78,.row 74 40 aZ)],[]⟩
def J9:aT:=aD G [.tmp 8] 27 [.val dF,vI,vI,vB] [] 100 TW [75,76,77,78] (.bx (u4 nG))
theorem D7:hS J9:=
 cO ⟨[(2,⟨[.DJ 31 106],[],[],none,[],[],[]⟩),(5,⟨[],[],[],none,[],[.map 2 31 76 (.c 11 [.bZ 0]),.dH 31],[.pt 31,.jH 31]⟩),(7,⟨[.Cc 31],[],[],none,[],[],[]⟩),(12,⟨[.freeze 31 (.map bE (.slice 64 aR)),.freeze 33 (.map (.int .i64) .bool),.yM 35],[],[⟨[0],[(0,35)],[(23,75),(32,76),(33,77),(36,78)],[],[]⟩],none,[],[],[]⟩)],[(7,TS),(12,TT)],[],[(3,⟨TU,fun u2=>Int.toNat u2.2.2.2.1+1⟩),(8,⟨TV,fun u5=>Int.toNat u5.2.2.2.1+1⟩)],[],[]⟩ (hq J8 hz) aF Tryz.call27 Tryz.func27
def ri(a0:Int)(a1:Int)(a2:bL)(a3:Zd)(a4:Int)(a5:Int)(a6:Bool)(a7:Ze)(a8:Unit)(a9:Zj)(a10:Zi)(a11:Zh):Option (Bool×Zs):=
 Option.bind (α:=Bool) (if a6=true then(if(bJ (.int .i64) .bool a0 (bT a7))=true then(if(decide ((0:Int)≤a1))=true then(if(decide (a1<(4096:Int)))=true then(if(decide ((0:Int)≤a4))=true then(some (decide (a4<(1024:Int)))) else(some false)) else(some false)) else(some false)) else(some false)) else(some false)) fun v1=>some (v1,a2,a3,a4,a5,a6,a7,a8,a9,a10,a11)
def TX:SS:=⟨41,81,[(6,vB)],[(0,fB 1 2 3),(1,.map bE bU),(2,.map aZ .bool),(3,.row 74 40 aZ)],[]⟩
def Ka:aT:=aD G [.tmp 6] 46 [pP 0,vI,vI] [(0,fB 1 2 3),(1,.map bE bU),(2,.map aZ .bool),(3,.row 74 40 aZ)] 81 TX [0,1,2,3] (.bx (IJ ri))
theorem D8:hS Ka:=
 cO (hR [hD 1 6 []]) hz aF Tryz.call46 Tryz.func46
def zj:SS:=⟨75,115,[tP 4 20],[(0,fB 1 2 93),(1,.map bE bU),(2,.map aZ .bool),(20,bV bU),(93,.row 74 40 aZ)],[]⟩
def rj(q:Zc):aT:=aD G [.cell 4 135] 47 [pP 0,.val bE] [(0,fB 1 2 3),(1,.map bE bU),(2,.map aZ .bool),(3,.row 74 40 aZ)] 115 zj [0,1,2,93] (.bx q)
def HK:SS:=⟨77,117,[(5,vB)],[(0,.var (.slice 48 eW) (.own 99)),(1,bV bu),(2,.var (.aN .ptr) (pP 6)),(3,bI),(4,.var (.aN .func) (.func 173 .nil (.cons (pP 0) (.cons (pP 1) (.cons (pP 2) (.cons (pP 3) (.cons (pP 4) .nil))))))),(6,fB 7 8 100),(7,.map bE bU),(8,.map aZ .bool),(99,.row 53 48 eW),(100,.row 74 40 aZ)],[]⟩
def mL(q:Zb):aT:=aD G [.tmp 5] 173 [pP 0,pP 1,pP 2,pP 3,pP 4] [(0,.var (.slice 48 eW) (.own 5)),(1,bV bu),(2,.var (.aN .ptr) (pP 6)),(3,bI),(4,.var (.aN .func) (.func 173 .nil (.cons (pP 0) (.cons (pP 1) (.cons (pP 2) (.cons (pP 3) (.cons (pP 4) .nil))))))),(5,.row 53 48 eW),(6,fB 7 8 9),(7,.map bE bU),(8,.map aZ .bool),(9,.row 74 40 aZ)] 117 HK [0,1,2,3,4,6,7,8,99,100] (.bx q)
def pF(_q0_:Zc)(q1_:Zb)(a0:cF)(a1:Int)(a2:bL)(a3:Zd)(a4:Int)(a5:Int)(a6:Bool)(a7:Ze)(a8:Unit)(a9:Zj)(a10:Zi)(a11:Zh):Option (Bool×ZL):=
 Option.bind (q1_ (a0,a1,([]:ZB),a2,a3,a4,a5,a6,a7,a8,a9,a10,a11,())) fun⟨a,_,_,b,c,d,e,f,g,h,i,j,l,k⟩=>if(!a)=true then(some (false,b,c,d,e,f,g,h,i,j,([]:ZB),k)) else(some (true,b,c,d,e,f,g,h,i,j,l,k))
def TY:SS:=⟨14,54,[tP 6 22,(7,vB)],[(0,fB 1 2 31),(1,.map bE bU),(2,.map aZ .bool),(22,.var (.slice 48 eW) (.val (.slice 48 eW))),(31,.row 74 40 aZ)],[]⟩
def HL(q0_:Zc)(q1_:Zb):aT:=aD G [.cell 6 133,.tmp 7] 114 [pP 0,.val bu,vI] [(0,fB 1 2 3),(1,.map bE bU),(2,.map aZ .bool),(3,.row 74 40 aZ)] 54 TY [0,1,2,31] (.bx (IJ (pF q0_ q1_)))
theorem HM(q0_:Zc)(q1_:Zb)(_h0_:hS (rj q0_))(h1_:hS (mL q1_)):hS (HL q0_ q1_):=
 cO (hR [(3,⟨[.oD 22 [] 30 53 48 eW],[],[⟨[0],[(0,22),(1,20),(2,19),(3,21),(4,24),(5,30),(6,0),(7,1),(8,2),(9,3)],[(99,27),(100,31)],[],[]⟩],none,[],[],[]⟩)]) (hq h1_ hz) aF Tryz.call114 Tryz.func114
def f175(a0:fm)(a1:ZB):ZM:=
 if(decide (a0.2.2.1=(-1:Int)))=true then(some a0.2.2.2.2.1) else(if 0≤a0.2.2.1 then(if a0.2.2.1<(List.length a1:Int) then(if 0≤a0.2.2.2.1 then(if a0.2.2.2.1<(List.length (nth eW a1 a0.2.2.1).2.2.2.1:Int) then(some (nth (.int .i64) (nth eW a1 a0.2.2.1).2.2.2.1 a0.2.2.2.1)) else none) else none) else none) else none)
def TZ:aT:=aD G [.tmp 4] 175 [.val aO,.val (.slice 48 eW)] [] 60 Rr [] (.bx (u2 f175))
theorem Kb:hS TZ:=
 cO (hR []) hz aF Tryz.call175 Tryz.func175
def rm:Nat→Int×ZB×Zy×Int×SH→Option (cz SH (bL×Zd×Int×Int×Bool×Ze×Unit×Zj×Zi×Zh×nD)):=aH fun Z9 ⟨f,d,c,b,a,g,h,i,j,k,l,m,n,o,p,q,r,s,t,e⟩=>if(decide (a<b))=true then(if 0≤a then(if a<(List.length c:Int) then(Option.bind (f175 (nth aW c a).2.2.1 d) fun y4=>if 0≤(nth aW c a).2.1 then(if(nth aW c a).2.1<(List.length e:Int) then(Z9 (f,d,c,b,aV (a+1),g,h,i,j,k,l,m,n,o,p,q,r,s,t,List.set e (Int.toNat (nth aW c a).2.1) y4)) else none) else none) else none) else none) else(some (.brk (f,g,h,i,j,k,l,m,n,o,p,q,r,s,t,e)))
def pI(a0:cF)(a1:Int)(a2:ZB)(a3:bL)(a4:Zd)(a5:Int)(a6:Int)(a7:Bool)(a8:Ze)(a9:Unit)(a10:Zj)(a11:Zi)(a12:Zh):Option (bL×Zd×Int×Int×Bool×Ze×Unit×Zj×Zi×Zh×nD):=
 if 0≤a0.2.1 then(if a0.2.1<(List.length a3.1.1.2.2.1:Int) then(if 0≤(List.length (nth bB a3.1.1.2.2.1 a0.2.1).2.2.2.2.1:Int) then(if(List.length (nth bB a3.1.1.2.2.1 a0.2.1).2.2.2.2.1:Int)≤(List.length (nth bB a3.1.1.2.2.1 a0.2.1).2.2.2.2.1:Int) then(if(List.length (nth bB a3.1.1.2.2.1 a0.2.1).2.2.2.2.1:Int)*(8:Int)≤(aC:Int) then(if(0:Int)<(List.length (List.replicate (Int.toNat (List.length (nth bB a3.1.1.2.2.1 a0.2.1).2.2.2.2.1:Int)) (0:Int)):Int) then(aE (U:=SH) (rm (Int.toNat (List.length a0.2.2.2.2.1:Int)+1) (a1,a2,a0.2.2.2.2.1,(List.length a0.2.2.2.2.1:Int),0,a3,a4,a5,a6,a7,a8,a9,a10,a11,a12,a0,0,0,0,List.set (List.replicate (Int.toNat (List.length (nth bB a3.1.1.2.2.1 a0.2.1).2.2.2.2.1:Int)) (0:Int)) (Int.toNat (0:Int)) a1)) fun⟨l,a,b,c,d,e,f,g,h,i,j,k,_,_,_,m⟩=>some (a,b,c,d,e,f,g,h,i,j,k.2.1,l,0,m,())) else none) else none) else none) else none) else none) else none
def T0:SS:=⟨50,90,[tI 2,tP 5 21,tP 8 24,(9,.own 41)],[(0,fB 1 2 3),(1,.map bE bU),(2,.map aZ .bool),(3,.row 74 40 aZ),(21,bV bu),(24,.var eW (.cons vI (.cons vI (.cons vI (.cons .aX .nil))))),(41,.row 3 8 (.int .i64))],[]⟩
def T1:SS:=⟨50,90,[tI 2,(3,.val (.slice 48 eW)),tP 5 21,tP 8 24,(9,.own 41),(30,.val (.slice 80 aW)),tI 31,tI 32],[(0,fB 1 2 3),(1,.map bE bU),(2,.map aZ .bool),(3,.row 74 40 aZ),(21,bV bu),(24,.var eW (.cons vI (.cons vI (.cons vI (.cons .aX .nil))))),(41,.row 3 8 (.int .i64))],[]⟩
def T2:SS:=⟨50,90,[tP 8 24],[(0,fB 1 2 3),(1,.map bE bU),(2,.map aZ .bool),(3,.row 74 40 aZ),(24,bV eW)],[]⟩
def HN:aT:=aD G [.cell 8 53] 115 [pP 0,.val bu,vI,.val (.slice 48 eW)] [(0,fB 1 2 3),(1,.map bE bU),(2,.map aZ .bool),(3,.row 74 40 aZ)] 90 T2 [0,1,2,3] (.bx (Ew pI))
theorem HO:hS HN:=
 cO ⟨[hA 6 0],[(8,T0)],[],[(4,⟨T1,fun u2=>Int.toNat u2.2.2.2.1+1⟩)],[],[]⟩ (hq Kb hz) aF Tryz.call115 Tryz.func115
def sP(q0_:Zc)(q1_:Zb):Nat→Zm×Int×Int×bL×Zd×Int×Int×Bool×Ze×Unit×Zj×Zi×fQ×Int×Int×Int×Int×Bool×Zh→Option (cz (bL×Zd×Int×Int×Bool×Ze×Unit×Zj×Zi×Int×Int×Int×Int×Bool×Zh) ZR):=aH fun Z9 ⟨z,y,x,ab,ac,ad,ae,af,ag,ah,ai,aj,aa,ak,al,am,an,ao,ap⟩=>if(decide (x<y))=true then(if 0≤x then(if x<(List.length z:Int) then(if(!decide ((nth bu z x).2.1=aa.1))=true then(Z9 (z,y,aV (x+1),ab,ac,ad,ae,af,ag,ah,ai,aj,aa,ak,al,am,an,ao,ap)) else(Option.bind (pF q0_ q1_ (nth bu z x) aa.2.1 ab ac ad ae af ag ah ai aj ap) fun⟨a,c,d,e,f,g,h,i,j,k,b,l⟩=>if a=true then(Option.bind (pI (nth bu z x) aa.2.1 b c d e f g h i j k l) fun⟨m,n,o,p,q,r,s,t,u,w,v⟩=>bP (some (m,n,o,p,q,r,s,t,u,(v,x,b,true,()),w))) else(Z9 (z,y,aV (x+1),c,d,e,f,g,h,i,j,k,aa,ak,al,am,an,ao,l)))) else none) else none) else(some (.brk (ab,ac,ad,ae,af,ag,ah,ai,aj,ak,al,am,an,ao,ap)))
def rp(q0_:Zc)(q1_:Zb)(a0:fQ)(a1:bL)(a2:Zd)(a3:Int)(a4:Int)(a5:Bool)(a6:Ze)(a7:Unit)(a8:Zj)(a9:Zi)(a10:Zh):Option ZR:=
 aE (U:=bL×Zd×Int×Int×Bool×Ze×Unit×Zj×Zi×Int×Int×Int×Int×Bool×Zh) (sP q0_ q1_ (Int.toNat (List.length a1.1.1.2.2.2.1:Int)+1) (a1.1.1.2.2.2.1,(List.length a1.1.1.2.2.2.1:Int),0,a1,a2,a3,a4,a5,a6,a7,a8,a9,a0,0,0,0,0,false,a10)) fun⟨a,b,c,d,e,f,g,h,i,j,k,l,m,n,o⟩=>some (a,b,c,d,e,f,g,h,i,((j,k,l,([]:Zf),()),m,([]:ZB),n,()),o)
def T3:SS:=⟨47,87,[tP 4 20],[(0,fB 1 2 64),(1,.map bE bU),(2,.map aZ .bool),(20,.var bU (.cons (.cons vI (.cons vI (.cons vI (.cons .aX .nil)))) (.cons vI (.cons .aX (.cons vB .nil))))),(64,.row 74 40 aZ)],[]⟩
def T4:SS:=⟨47,87,[tP 0 0,tP 3 19,tP 4 20,(15,.val (.slice 96 bu)),tI 16,tI 17],[(0,fB 1 2 63),(1,.map bE bU),(2,.map aZ .bool),(19,bV bE),(20,.var bU (.cons (.cons vI (.cons vI (.cons vI (.cons .aX .nil)))) (.cons vI (.cons .aX (.cons vB .nil))))),(63,.row 74 40 aZ)],[]⟩
def T5:SS:=⟨47,87,[tP 4 20],[(0,fB 1 2 65),(1,.map bE bU),(2,.map aZ .bool),(20,bV bU),(65,.row 74 40 aZ)],[]⟩
def Kc(q0_:Zc)(q1_:Zb):aT:=aD G [.cell 4 135] 74 [pP 0,.val bE] [(0,fB 1 2 3),(1,.map bE bU),(2,.map aZ .bool),(3,.row 74 40 aZ)] 87 T5 [0,1,2,65] (.bx (G8 (rp q0_ q1_)))
theorem Kd(q0_:Zc)(q1_:Zb)(h0_:hS (rj q0_))(h1_:hS (mL q1_)):hS (Kc q0_ q1_):=
 cO ⟨[hE 5 [cB 0 [(0,0),(1,1),(2,2),(3,63)] [(31,48)]],hE 7 [cB 1 [(0,0),(1,1),(2,2),(3,48)] []]],[(9,T3)],[],[(2,⟨T4,fun u2=>Int.toNat u2.2.1+1⟩)],[],[]⟩ (hq (HM q0_ q1_ h0_ h1_) (hq HO hz)) aF Tryz.call74 Tryz.func74
def kT:Nat→Int×Int×bL×Zd×Int×Int×Bool×Ze×Unit×Zj×Zi×Zh×fQ×Cf×Zl→Option (cz (bL×Zd×Int×Int×Bool×Ze×Unit×Zj×Zi×Zh×Cf×Zl) (bL×Zd×Int×Int×Bool×Ze×Unit×Zj×Zi×Zh×bL)):=aH fun rec4 ⟨b,a,f,e,g,h,i,j,k,l,m,n,d,o,c⟩=>if(decide (a<b))=true then(if(List.length c+List.length (bJ bE (.slice 64 aR) (d.1,d.2.1,aV ((aV ((16:Int)*d.2.2.1))+a),()) (bT e)))*64≤aC then(rec4 (b,aV (a+1),f,e,g,h,i,j,k,l,m,n,d,o,c++(bJ bE (.slice 64 aR) (d.1,d.2.1,aV ((aV ((16:Int)*d.2.2.1))+a),()) (bT e)))) else none) else(some (.brk (f,e,g,h,i,j,k,l,m,n,o,c)))
def iF(a0:fQ)(a1:bL)(a2:Zd)(a3:Int)(a4:Int)(a5:Bool)(a6:Ze)(a7:Unit)(a8:Zj)(a9:Zi)(a10:Zh):Option (bL×Zd×Int×Int×Bool×Ze×Unit×Zj×Zi×Zh×bL):=
 aE (U:=bL×Zd×Int×Int×Bool×Ze×Unit×Zj×Zi×Zh×Cf×Zl) (Option.bind (α:=Bool) (if(decide ((0:Int)≤a0.1))=true then(some (decide (a0.1<(List.length a1.1.1.2.2.1:Int)))) else(some false)) fun v2=>if v2=true then(if 0≤a0.1 then(if a0.1<(List.length a1.1.1.2.2.1:Int) then(kT (Int.toNat (List.length (nth bB a1.1.1.2.2.1 a0.1).2.2.2.2.1:Int)+1) ((List.length (nth bB a1.1.1.2.2.1 a0.1).2.2.2.2.1:Int),0,a1,a2,a3,a4,a5,a6,a7,a8,a9,a10,a0,a1.1,([]:Zl))) else none) else none) else(some (.brk (a1,a2,a3,a4,a5,a6,a7,a8,a9,a10,a1.1,([]:Zl))))) fun⟨a,b,c,d,e,f,g,h,i,j,k,l⟩=>some (a,b,c,d,e,f,g,h,i,j,k,l,())
def T6:SS:=⟨62,102,[tP 4 20,tP 5 21],[(0,fB 1 2 3),(1,.map bE bU),(2,.map aZ .bool),(3,.row 74 40 aZ),(20,.var dF (.cons (.cons (.cons .aX (.cons .aX (.cons .aX (.cons .aX (.cons .aX (.cons .aX .nil)))))) (.cons .aX .nil)) (.cons .aX .nil))),(21,.var dF (.cons (.val DZ) (.cons (.own 79) .nil))),(79,.row 106 64 aR)],[]⟩
def T8:SS:=⟨62,102,[tP 0 0,tP 3 19,tP 4 20,tP 5 21,tI 36,tI 37],[(0,fB 1 2 3),(1,.map bE bU),(2,.map aZ .bool),(3,.row 74 40 aZ),(19,bV bE),(20,.var dF (.cons (.cons (.cons .aX (.cons .aX (.cons .aX (.cons .aX (.cons .aX (.cons .aX .nil)))))) (.cons .aX .nil)) (.cons .aX .nil))),(21,.var dF (.cons (.val DZ) (.cons (.own 78) .nil))),(78,.row 106 64 aR)],[]⟩
def T9:SS:=⟨62,102,[tP 4 20],[(0,fB 1 2 3),(1,.map bE bU),(2,.map aZ .bool),(3,.row 74 40 aZ),(20,bV dF)],[]⟩
def Ke:aT:=aD G [.cell 4 35] 75 [pP 0,.val bE] [(0,fB 1 2 3),(1,.map bE bU),(2,.map aZ .bool),(3,.row 74 40 aZ)] 102 T9 [0,1,2,3] (.bx (G8 iF))
theorem Kf:hS Ke:=
 cO ⟨[hD 2 26 []],[(9,T6)],[],[(4,⟨T8,fun u3=>Int.toNat u3.1+1⟩)],[],[]⟩ hz aF Tryz.call75 Tryz.func75
def zl:Nat→Int×Zm×Int×Int×Zn→Option (cz (Int×Zn) Bool):=aH fun aaI ⟨e,c,b,a,d⟩=>if(decide (a<b))=true then(if 0≤a then(if a<(List.length c:Int) then(if List.length d+1≤aC then(aaI (e,c,b,aV (a+1),bz (.int .i64) (nth bu c a).2.1 true d)) else none) else none) else none) else(some (.brk (e,d)))
def f49(a0:cK)(a1:Int):Zk:=
 aE (U:=Int×cK) (Option.bind (α:=Bool) (if(decide (a1<(0:Int)))=true then(some true) else(if(decide ((List.length a0.2.2.1:Int)≤a1))=true then(some true) else(if 0≤a1 then(if a1<(List.length a0.2.2.1:Int) then(some (decide ((List.length (nth bB a0.2.2.1 a1).2.2.2.2.1:Int)<(2:Int)))) else none) else none))) fun v2=>if v2=true then(bP (some false)) else(some (.brk (a1,a0)))) fun⟨b,a⟩=>aE (U:=Int×Zn) (zl (Int.toNat (List.length a.2.2.2.1:Int)+1) (b,a.2.2.2.1,(List.length a.2.2.2.1:Int),0,([]:Zn))) fun⟨c,d⟩=>some (!(bJ (.int .i64) .bool c d))
def Ua:SS:=⟨43,83,[tI 1,tP 2 18],[(18,bV fe)],[]⟩
def Ub:SS:=⟨43,83,[tI 1,(5,.mp 43)],[(43,.map (.int .i64) .bool)],[]⟩
def Uc:SS:=⟨43,83,[tI 1,(5,.mp 43),(29,.val (.slice 96 bu)),tI 30,tI 31],[(43,.map (.int .i64) .bool)],[]⟩
def Ud:SS:=⟨43,83,[(4,vB)],[],[]⟩
def YL:aT:=aD G [.tmp 4] 49 [.val fe,vI] [] 83 Ud [] (.bx (u2 f49))
theorem YM:hS YL:=
 cO ⟨[hD 1 26 []],[(3,Ua),(9,Ub)],[],[(5,⟨Uc,fun u4=>Int.toNat u4.2.2.1+1⟩)],[],[]⟩ hz aF Tryz.call49 Tryz.func49
def f50(a0:Int)(a1:Int):Zk:=
 Option.bind (α:=Bool) (if(decide ((0:Int)≤a0))=true then(if(decide (a0<(4096:Int)))=true then(if(decide ((0:Int)≤a1))=true then(some (decide (a1<(4:Int)))) else(some false)) else(some false)) else(some false)) fun v1=>some v1
def Ue:SS:=⟨19,59,[(4,vB)],[],[]⟩
def YN:aT:=aD G [.tmp 4] 50 [vI,vI] [] 59 Ue [] (.bx (u2 f50))
theorem YO:hS YN:=
 cO (hR [hD 1 4 []]) hz aF Tryz.call50 Tryz.func50
def f52(a0:Int)(a1:Int)(a2:Int)(a3:Int):Option fQ:=
 some (a0,a1,aV ((aV ((16:Int)*a2))+a3),())
def Uf:SS:=⟨16,56,[tP 8 24],[(24,bV bE)],[]⟩
def YP:aT:=aD G [.cell 8 72] 52 [vI,vI,vI,vI] [] 56 Uf [] (.bx (u4 f52))
theorem YQ:hS YP:=
 cO (hR []) hz aF Tryz.call52 Tryz.func52
def rq(a0:Zl)(a1:fQ)(a2:Int):Option (Zl×fQ×Int):=
 some (a0,a1,a2)
def Ug:SS:=⟨8,48,[(6,.func 68 .nil (.cons (pP 19) (.cons (pP 20) (.cons (pP 21) .nil))))],[(19,.var (.slice 64 aR) (.val (.slice 64 aR))),(20,bV bE),(21,bI)],[]⟩
def Kg:aT:=aD G [.tmp 6] 41 [.val (.slice 64 aR),.val bE,vI] [] 48 Ug [19,20,21] (.bx (u3 rq))
theorem D9:hS Kg:=
 cO (hR []) hz aF Tryz.call41 Tryz.func41
def f110(a0:Int):Zk:=
 some (!decide (a0=a0))
def Uh:SS:=⟨6,46,[(2,vB)],[],[]⟩
def Ui:aT:=aD G [.tmp 2] 110 [vI] [] 46 Uh [] (.bx (u1 f110))
theorem Uj:hS Ui:=
 cO (hR []) hz aF Tryz.call110 Tryz.func110
def f70(a0:Int)(a1:Int):ZM:=
 Option.bind (f110 a0) fun y1=>Option.bind (f110 a1) fun y2=>if y1=true then(if y2=true then(some (0:Int)) else(some (-1:Int))) else(if y2=true then(some (1:Int)) else(if(decide (a0<a1))=true then(some (-1:Int)) else(if(decide (a1<a0))=true then(some (1:Int)) else(some (0:Int)))))
def YR:aT:=aD G [.tmp 4] 70 [vI,vI] [] 60 Rr [] (.bx (u2 f70))
theorem YS:hS YR:=
 cO (hR [hA 1 0,hA 2 0]) (hq Uj hz) aF Tryz.call70 Tryz.func70
def zm:Nat→Int×Zf×ZY→Option (cz Int Int):=aH fun Z9 ⟨d,c,b,a⟩=>if(decide (a<b))=true then(if 0≤a then(if a<(List.length c:Int) then(if(!decide ((nth (.int .i64) c a)=d))=true then(bP (some (nth (.int .i64) c a))) else(Z9 (d,c,b,aV (a+1)))) else none) else none) else(some (.brk d))
def f69(a0:Zf):ZM:=
 aE (U:=Int) (zm (Int.toNat (List.length a0:Int)+1) (0,a0,(List.length a0:Int),0)) fun v1=>some v1
def Uk:SS:=⟨18,58,[tI 3],[],[]⟩
def Ul:SS:=⟨18,58,[tI 3,(6,.val (.slice 8 (.int .i64))),tI 7,tI 8],[],[]⟩
def Um:SS:=⟨18,58,[tI 2],[],[]⟩
def YT:aT:=aD G [.tmp 2] 69 [.val (.slice 8 (.int .i64))] [] 58 Um [] (.bx (u1 f69))
theorem YU:hS YT:=
 cO ⟨[],[(8,Uk)],[],[(3,⟨Ul,fun u2=>Int.toNat u2.2.2.1+1⟩)],[],[]⟩ hz aF Tryz.call69 Tryz.func69
def f42(a0:ef)(a1:ef):ZM:=
 Option.bind (f70 a0.2.2.2.1 a1.2.2.2.1) fun y1=>Option.bind (f70 a0.2.2.2.2.1 a1.2.2.2.2.1) fun y2=>Option.bind (f69 [y1,y2]) fun y3=>some y3
def Un:SS:=⟨17,57,[tI 4],[],[]⟩
def YV:aT:=aD G [.tmp 4] 42 [.val aR,.val aR] [] 57 Un [] (.bx (u2 f42))
theorem V7:hS YV:=
 cO (hR [hE 1 [cA 0,cA 0,cA 1]]) (hq YS (hq YU hz)) aF Tryz.call42 Tryz.func42
def nH(l_:Nat)(Y_:ef×YC×Nat×Nat×Int×Nat×ef×Nat×Bool×Unit→SF):Nat→Nat×Zl×Int×Int×ZP→Option (cz ZP ZP):=aH fun Z9 ⟨o,l,k,j,p,q,r,s,t,u,v,w,x,m,n⟩=>if(decide (j<k))=true then(if 0≤j then(if j<(List.length l:Int) then(if(aU bE (nth aR l j).1 m)=true then(if(decide ((nth aR l j).2.2.2.1≤n))=true then(if o=l_ then(Option.bind (Y_ (nth aR l j,p,q,r,s,t,u,v,w,())) fun⟨a,b,c,d,e,f,g,h,i⟩=>if(!a)=true then(bP (some (b,c,d,e,f,g,h,i,x,m,n))) else(Z9 (o,l,k,aV (j+1),b,c,d,e,f,g,h,i,x,m,n))) else none) else(Z9 (o,l,k,aV (j+1),p,q,r,s,t,u,v,w,x,m,n))) else(Z9 (o,l,k,aV (j+1),p,q,r,s,t,u,v,w,x,m,n))) else none) else none) else(some (.brk (p,q,r,s,t,u,v,w,x,m,n)))
def zn(l_:Nat)(Y_:ef×YC×Nat×Nat×Int×Nat×ef×Nat×Bool×Unit→SF)(a0:Nat)(a1:YC)(a2:Nat)(a3:Nat)(a4:Int)(a5:Nat)(a6:ef)(a7:Nat)(a8:Bool)(a9:Zl)(a10:fQ)(a11:Int):Option ZP:=
 aE (U:=ZP) (nH l_ Y_ (Int.toNat (List.length a9:Int)+1) (a0,a9,(List.length a9:Int),0,a1,a2,a3,a4,a5,a6,a7,a8,a9,a10,a11)) fun⟨a,b,c,d,e,f,g,h,i,j,k⟩=>some (a,b,c,d,e,f,g,h,i,j,k)
def MP:SS:=⟨30,70,[],[(0,.lp),(1,.tv (.int .i64) vI),(2,.tv aR (.val aR)),(3,.tv .bool vB),(4,.var (.slice 64 aR) (.val (.slice 64 aR))),(5,bV bE),(6,bI)],[]⟩
def Up:SS:=⟨30,70,[(0,.sH),tP 2 5,tP 3 6,(7,.val (.slice 64 aR)),tI 8,tI 9],[(0,.lp),(1,.tv (.int .i64) vI),(2,.tv aR (.val aR)),(3,.tv .bool vB),(4,.var (.slice 64 aR) (.val (.slice 64 aR))),(5,bV bE),(6,bI)],[]⟩
def zo:IC:=⟨[.val aR],[(0,.lp),(1,.tv (.int .i64) vI),(2,.tv aR (.val aR)),(3,.tv .bool vB)],90,0,[(1,.tv (.int .i64) vI),(2,.tv aR (.val aR)),(3,.tv .bool vB)],fun l f=>aD G [] 68 [.sH,pP 4,pP 5,pP 6] [(0,.lp),(1,.tv (.int .i64) vI),(2,.tv aR (.val aR)),(3,.tv .bool vB),(4,.var (.slice 64 aR) (.val (.slice 64 aR))),(5,bV bE),(6,bI)] 70 MP [0,1,2,3,4,5,6] (.bx (IJ (zn l f)))⟩
theorem Kh:zo.holds Tryz.prog gl:=fun B hB l f hY=>
 aT.of tied (H:=⟨[hE 3 [cB 0 [(0,0),(1,1),(2,2),(3,3)] []]],[],[(0,MP)],[(1,⟨Up,fun u2=>Int.toNat u2.2.2.1+1⟩)],[],[]⟩) (hold (l:=[IC.Y zo l f]) ⟨hY,trivial⟩) aF rfl Tryz.call68 Tryz.func68 rfl rfl rfl rfl (fun _=>by kernel_rfl) (fun _=>by kernel_rfl)
def vo(y_:YC)(b5_0:ef)(yt:YC)(yj:Nat)(g1:Nat)(c5_0:Int)(g2:Nat)(c5_1:ef)(g3:Nat)(c5_2:Bool):SF:=
 Ca yt y_ (if yj=0 then(if g1=y_.gs 1 then(if g2=y_.gs 2 then(if g3=y_.gs 3 then(Option.bind (α:=Nat×Nat×Int×Nat×ef×Nat×Bool) (Option.bind (α:=Bool) (if(decide (b5_0.2.2.1.1≤c5_0))=true then(if(decide (c5_0<b5_0.2.2.1.2.1))=true then(if(!c5_2)=true then(some true) else(Option.bind (f42 c5_1 b5_0) fun y3=>some (decide (y3≤(0:Int))))) else(some false)) else(some false)) fun v4=>if v4=true then(some (0,y_.gs 1,c5_0,y_.gs 2,b5_0,y_.gs 3,true)) else(some (0,y_.gs 1,c5_0,y_.gs 2,c5_1,y_.gs 3,c5_2))) fun r_=>if r_.2.1=y_.gs 1 then(if r_.2.2.2.1=y_.gs 2 then(if r_.2.2.2.2.2.1=y_.gs 3 then(some (Nat.beq r_.1 0,y_,r_.1,r_.2.1,r_.2.2.1,r_.2.2.2.1,r_.2.2.2.2.1,r_.2.2.2.2.2.1,r_.2.2.2.2.2.2)) else none) else none) else none) else none) else none) else none) else none)
def f53(a0:Zl)(a1:fQ)(a2:Int)(a3:Int):Option (Int×Bool):=
 aE (U:=ef×Bool) (Option.bind (rq a0 a1 a3) fun⟨a,b,c⟩=>pX fun y5=>Option.bind (zn y5.l (fun d=>vo y5 d.1 d.2.1 d.2.2.1 d.2.2.2.1 d.2.2.2.2.1 d.2.2.2.2.2.1 d.2.2.2.2.2.2.1 d.2.2.2.2.2.2.2.1 d.2.2.2.2.2.2.2.2.1) y5.l y5 0 (y5.gs 1) a2 (y5.gs 2) ((0,0,0,()),0,(0,0,()),0,0,()) (y5.gs 3) false a b c) fun⟨e,f,_,_,_,g,_,h,_,_,_⟩=>Ca e y5 (if f=0 then(some (.brk (g,h))) else none)) fun⟨j,i⟩=>Option.bind (α:=Bool) (if(!i)=true then(some true) else(some (decide (j.2.1<(0:Int))))) fun v7=>if v7=true then(some (0,false)) else(some (j.2.1,true))
def Uq:SS:=⟨50,90,[tP 10 26,tP 11 27],[(26,bV aR),(27,.var .bool vB),(68,.qf)],[.mp 68]⟩
def Ur:SS:=⟨50,90,[tP 6 22,tI 8,(9,vB),tP 10 26,tP 11 27,(16,.func 68 .nil (.cons (pP 32) (.cons (pP 66) (.cons (pP 67) .nil))))],[(22,bI),(26,bV aR),(27,.var .bool vB),(32,.var (.slice 64 aR) (.val (.slice 64 aR))),(66,bV bE),(67,bI)],[]⟩
def Us:SS:=⟨50,90,[],[(1,bI),(2,bV aR),(3,.var .bool vB)],[]⟩
def MQ:SS:=⟨50,90,[tI 8,(9,vB)],[],[]⟩
def YW:aT:=aD G [.tmp 8,.tmp 9] 53 [.val (.slice 64 aR),.val bE,vI,vI] [] 90 MQ [] (.bx (u4 f53))
theorem YX:hS YW:=
 cO ⟨[hE 3 [cB 0 [] [(19,32),(20,66),(21,67)]],hD 5 39 [cA 1],hD 7 47 []],[(7,Uq)],[],[],[],[(5,⟨0,68,69,[(1,.int .i64),(2,aR),(3,.bool)],[(22,1),(26,2),(27,3)],[],[(0,69),(1,22),(2,26),(3,27),(4,32),(5,66),(6,67)],[],Ur,Us⟩)]⟩ (hq D9 (hq V7 hz)) (sh (L:=[zo]) ⟨Kh,trivial⟩) Tryz.call53 Tryz.func53
end Go.Proofs.YtgdcjlldafmomaaGreat
