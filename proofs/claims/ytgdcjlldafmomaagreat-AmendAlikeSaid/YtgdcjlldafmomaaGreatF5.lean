/- part -/
import Derived.Test.YtgdcjlldafmomaaGreatUO
noncomputable section
namespace Go.Proofs.YtgdcjlldafmomaaGreat
open Go.Ax
def f61(a0:cY):Option (Ze×Bool×Int):=
 Option.bind (f95 a0) fun⟨a,b⟩=>if(!decide (a=(0:Int)))=true then(some (([]:Ze),false,a)) else(Option.bind (Am b) fun y2=>Option.bind (sr y2) fun y3=>if(decide ((List.length y3:Int)<b.1))=true then(some (([]:Ze),false,0)) else(some (y3,true,0)))
def US:SS:=⟨23,63,[(2,.val (.slice 8 (.int .i64))),(3,vB),tI 4],[],[]⟩
def c61:aW:=aF G [.tmp 2,.tmp 3,.tmp 4] 61 [.val gS] [] 63 US [] (.bH (u1 f61))
theorem UT:hS c61:=
 cO (hR [hA 1 0,(4,⟨[],[(2,15,.aR .func)],[⟨[1],[],[(17,31)],[],[]⟩,⟨[2],[],[],[],[]⟩],none,[],[],[]⟩)]) (hq Yt (hq La (hq Jw hz))) aJ Tryz.call61 Tryz.func61
def f92(a0:cY):ZM:=
 Option.bind (f57 a0) fun y1=>if(!decide (y1=(0:Int)))=true then(some y1) else(Option.bind (f61 a0) fun⟨_,b,a⟩=>if(!decide (a=(0:Int)))=true then(some a) else(if(!b)=true then(some (141:Int)) else(some (0:Int))))
def UU:SS:=⟨22,62,[tI 2],[],[]⟩
def c92:aW:=aF G [.tmp 2] 92 [.val gS] [] 62 UU [] (.bH (u1 f92))
theorem x92:hS c92:=
 cO (hR [hA 1 0,hA 4 1]) (hq Xn (hq UT hz)) aJ Tryz.call92 Tryz.func92
def ql:Nat→Ze×Int×Ze×Int×Int×Zn→Option (cW (Ze×Int×Zn) (Bool×Zn)):=aK fun abG ⟨e,f,c,b,a,d⟩=>if(decide (a<b))=true then(if 0≤a then(if a<(List.length c:Int) then(if(bz (.int .i64) .bool (nth (.int .i64) c a) d)=true then(cn (some (false,d))) else(if List.length d+1≤aE then(abG (e,f,c,b,aZ (a+1),bE (.int .i64) (nth (.int .i64) c a) true d)) else none)) else none) else none) else(some (.brk (e,f,d)))
def Bl(a0:Ze)(a1:Int)(a2:Zn):Option (Bool×Zn):=
 aG (U:=Ze×Int×Zn) (ql (Int.toNat (List.length a0:Int)+1) (a0,a1,a0,(List.length a0:Int),0,a2)) fun⟨a,b,c⟩=>some (decide ((List.length a:Int)=b),c)
def UW:SS:=⟨25,65,[(1,.val (.slice 8 (.int .i64))),tI 2],[(0,.map (.int .i64) .bool)],[]⟩
def UX:SS:=⟨25,65,[(0,.mp 0),(1,.val (.slice 8 (.int .i64))),tI 2,(9,.val (.slice 8 (.int .i64))),tI 10,tI 11],[(0,.map (.int .i64) .bool)],[]⟩
def UY:SS:=⟨25,65,[(6,vB)],[(0,.map (.int .i64) .bool)],[]⟩
def LK:aW:=aF G [.tmp 6] 93 [.mp 0,.val (.slice 8 (.int .i64)),vI] [(0,.map (.int .i64) .bool)] 65 UY [0] (.bH (u3 Bl))
theorem LL:hS LK:=
 cO ⟨[],[(8,UW)],[],[(2,⟨UX,fun u2=>Int.toNat u2.2.2.2.1+1⟩)],[],[]⟩ hz aJ Tryz.call93 Tryz.func93
def f59(a0:cY):ZM:=
 Option.bind (f92 a0) fun y1=>if(!decide (y1=(0:Int)))=true then(some y1) else(Option.bind (f61 a0) fun⟨c,b,a⟩=>if(!decide (a=(0:Int)))=true then(some a) else(if(!b)=true then(some (141:Int)) else(Option.bind (Bl c (List.length a0.2.2.1:Int) ([]:Zn)) fun⟨d,_⟩=>if(!d)=true then(some (141:Int)) else(some (0:Int)))))
def UZ:SS:=⟨31,71,[tI 2],[],[]⟩
def c59:aW:=aF G [.tmp 2] 59 [.val gS] [] 71 UZ [] (.bH (u1 f59))
theorem x59:hS c59:=
 cO (hR [hA 1 0,hA 4 1,hE 7 [cB 2 [(0,39)] []]]) (hq x92 (hq UT (hq LL hz))) aJ Tryz.call59 Tryz.func59
def f54(a0:cY)(a1:Int)(a2:Int)(a3:Int):Zl:=
 Option.bind (f78 (a0,()) a1 a2) fun⟨a,b⟩=>Option.bind (α:=Bool) (if a=true then(Option.bind (f79 (a0,()) b) fun y2=>if y2=true then(if(decide (b.2.1≤a3))=true then(some (decide (a3≤b.2.2.1))) else(some false)) else(some false)) else(some false)) fun v3=>some v3
def U0:SS:=⟨38,78,[(8,vB)],[],[]⟩
def c54:aW:=aF G [.tmp 8] 54 [.val gS,vI,vI,vI] [] 78 U0 [] (.bH (u4 f54))
theorem XK:hS c54:=
 cO (hR [hA 2 0,hD 3 8 [cA 1]]) (hq Ng (hq Rs hz)) aJ Tryz.call54 Tryz.func54
def mZ:Nat→Int×ZD×ZD×Int×Int×cY→Option (cW ZD Bool):=aK fun acm ⟨e,f,c,b,a,d⟩=>if(decide (a<b))=true then(if 0≤a then(if a<(List.length c:Int) then(Option.bind (f54 d e a (nth eo c a).2.1.2.1) fun y6=>if(!y6)=true then(cn (some false)) else(acm (e,f,c,b,aZ (a+1),d))) else none) else none) else(some (.brk f))
def f144(a0:cY)(a1:Int):Zl:=
 aG (U:=Int×cY) (Option.bind (α:=Bool) (if(decide (a1<(0:Int)))=true then(some true) else(some (decide ((List.length a0.2.2.1:Int)≤a1)))) fun v2=>if v2=true then(cn (some false)) else(some (.brk (a1,a0)))) fun⟨a,b⟩=>if 0≤a then(if a<(List.length b.2.2.1:Int) then(aG (U:=ZD) (mZ (Int.toNat (List.length (nth bJ b.2.2.1 a).2.2.2.2.1:Int)+1) (a,(nth bJ b.2.2.1 a).2.2.2.2.1,(nth bJ b.2.2.1 a).2.2.2.2.1,(List.length (nth bJ b.2.2.1 a).2.2.2.2.1:Int),0,b)) fun v3=>Option.bind (α:=Bool) (if(decide ((0:Int)<(List.length v3:Int)))=true then(if(0:Int)<(List.length v3:Int) then(some (decide ((nth eo v3 (0:Int)).2.1.1=(3:Int)))) else none) else(some false)) fun v7=>some v7) else none) else none
def U3:SS:=⟨50,90,[tI 1,tP 2 18],[(18,bV gS)],[]⟩
def U4:SS:=⟨50,90,[(5,.val (.slice 120 eo))],[],[]⟩
def U5:SS:=⟨50,90,[tI 1,tP 2 18,(5,.val (.slice 120 eo)),(23,.val (.slice 120 eo)),tI 24,tI 25],[(18,bV gS)],[]⟩
def U6:SS:=⟨50,90,[(4,vB)],[],[]⟩
def U7:aW:=aF G [.tmp 4] 144 [.val gS,vI] [] 90 U6 [] (.bH (u2 f144))
theorem U8:hS U7:=
 cO ⟨[hD 1 16 [],hA 7 0,hD 10 4 []],[(3,U3),(10,U4)],[],[(5,⟨U5,fun u4=>Int.toNat u4.2.2.2.1+1⟩)],[],[]⟩ (hq XK hz) aJ Tryz.call144 Tryz.func144
def f145(a0:ju)(a1:ju)(a2:Int):Zl:=
 if(!decide (a0.1=a1.1))=true then(some false) else(aG (U:=Int×ju×ju) (Option.bind (α:=Bool) (if(decide (a0.1=(1:Int)))=true then(some true) else(some (decide (a0.1=(2:Int))))) fun v2=>if v2=true then(Option.bind (α:=Bool) (if(decide (a1.2.1=(aZ (a0.2.1+a2))))=true then(if(decide (a1.2.2.1=(aZ (a0.2.2.1+a2))))=true then(some (decide (a0.2.2.2.2.1=a1.2.2.2.2.1))) else(some false)) else(some false)) fun v3=>cn (some v3)) else(some (.brk (a2,a0,a1)))) fun⟨a,b,c⟩=>Option.bind (α:=Bool) (if(decide (a=(0:Int)))=true then(if(decide (b.2.1=c.2.1))=true then(if(decide (b.2.2.1=c.2.2.1))=true then(some (decide ((List.length b.2.2.2.2.2.1:Int)=(List.length c.2.2.2.2.2.1:Int)))) else(some false)) else(some false)) else(some false)) fun v4=>some v4)
def U9:SS:=⟨68,108,[tI 2,tP 3 19,tP 4 20],[(19,bV lT),(20,bV lT)],[]⟩
def Va:SS:=⟨68,108,[(6,vB)],[],[]⟩
def Vb:aW:=aF G [.tmp 6] 145 [.val lT,.val lT,vI] [] 108 Va [] (.bH (u3 f145))
theorem Vc:hS Vb:=
 cO ⟨[hD 3 19 [],hD 4 6 [],hD 5 6 []],[(5,U9)],[],[],[],[]⟩ hz aJ Tryz.call145 Tryz.func145
def uc:Nat→ZD×ZD×Zr×Int×Int×List Bool×List Bool→Zq:=aK fun rec9 ⟨l,m,k,j,i,n,o⟩=>if(decide (i<j))=true then(if 0≤i then(if i<(List.length k:Int) then(aG (U:=ZD×ZD×Zr×Int×Int×gU×List Bool×List Bool) (Option.bind (α:=Bool) (if(decide ((nth aS k i).2.2.2.1<(1:Int)))=true then(some true) else(if(decide ((List.length l:Int)≤(nth aS k i).2.2.2.1))=true then(some true) else(if(decide ((nth aS k i).2.2.1<(1:Int)))=true then(some true) else(if(decide ((List.length m:Int)≤(nth aS k i).2.2.1))=true then(some true) else(if 0≤(nth aS k i).2.2.2.1 then(if(nth aS k i).2.2.2.1<(List.length n:Int) then(if(nth .bool n (nth aS k i).2.2.2.1)=true then(some true) else(if 0≤(nth aS k i).2.2.1 then(if(nth aS k i).2.2.1<(List.length o:Int) then(some (nth .bool o (nth aS k i).2.2.1)) else none) else none)) else none) else none))))) fun v11=>if v11=true then(cn (cn (some false))) else(some (.brk (l,m,k,j,i,nth aS k i,n,o)))) fun⟨d,e,f,g,h,a,b,c⟩=>if 0≤a.2.2.2.1 then(if a.2.2.2.1<(List.length b:Int) then(if 0≤a.2.2.1 then(if a.2.2.1<(List.length c:Int) then(if 0≤a.2.2.2.1 then(if a.2.2.2.1<(List.length d:Int) then(if 0≤a.2.2.1 then(if a.2.2.1<(List.length e:Int) then(Option.bind (f145 (nth eo d a.2.2.2.1).2.1 (nth eo e a.2.2.1).2.1 a.2.2.2.2.1) fun y12=>if(!y12)=true then(cn (some false)) else(rec9 (d,e,f,g,aZ (h+1),List.set b (Int.toNat a.2.2.2.1) true,List.set c (Int.toNat a.2.2.1) true))) else none) else none) else none) else none) else none) else none) else none) else none) else none) else none) else(some (.brk ()))
def f94(a0:cY)(a1:qh):Zl:=
 aG (U:=cY×qh) (Option.bind (α:=Bool) (if(decide (a1.2.2.1=a1.2.2.2.1))=true then(some true) else(Option.bind (f144 a0 a1.2.2.1) fun y2=>if(!y2)=true then(some true) else(Option.bind (f144 a0 a1.2.2.2.1) fun y3=>some (!y3)))) fun v4=>if v4=true then(cn (some false)) else(some (.brk (a0,a1)))) fun⟨b,a⟩=>if 0≤a.2.2.1 then(if a.2.2.1<(List.length b.2.2.1:Int) then(if 0≤a.2.2.2.1 then(if a.2.2.2.1<(List.length b.2.2.1:Int) then(aG (U:=ZD×ZD×qh) (Option.bind (α:=Bool) (if(!decide ((List.length a.2.2.2.2.1:Int)=(aZ ((List.length (nth bJ b.2.2.1 a.2.2.1).2.2.2.2.1:Int) -(1:Int)))))=true then(some true) else(some (!decide ((List.length a.2.2.2.2.1:Int)=(aZ ((List.length (nth bJ b.2.2.1 a.2.2.2.1).2.2.2.2.1:Int) -(1:Int))))))) fun v6=>if v6=true then(cn (some false)) else(some (.brk ((nth bJ b.2.2.1 a.2.2.1).2.2.2.2.1,(nth bJ b.2.2.1 a.2.2.2.1).2.2.2.2.1,a)))) fun⟨c,d,e⟩=>if 0≤(List.length c:Int) then(if(List.length c:Int)≤(List.length c:Int) then(if(List.length c:Int)*(1:Int)≤(aE:Int) then(if 0≤(List.length d:Int) then(if(List.length d:Int)≤(List.length d:Int) then(if(List.length d:Int)*(1:Int)≤(aE:Int) then(aG (U:=Unit) (uc (Int.toNat (List.length e.2.2.2.2.1:Int)+1) (c,d,e.2.2.2.2.1,(List.length e.2.2.2.2.1:Int),0,List.replicate (Int.toNat (List.length c:Int)) false,List.replicate (Int.toNat (List.length d:Int)) false)) fun _=>some true) else none) else none) else none) else none) else none) else none) else none) else none) else none) else none
def Vd:SS:=⟨134,174,[tP 2 18,tP 3 19],[(18,bV gS),(19,bV eZ)],[]⟩
def Ve:SS:=⟨134,174,[tP 3 19,(5,.val (.slice 120 eo)),(6,.val (.slice 120 eo))],[(19,bV eZ)],[]⟩
def Vf:SS:=⟨134,174,[(5,.val (.slice 120 eo)),(6,.val (.slice 120 eo)),(7,.own 78),(8,.own 81),tP 10 26,(67,.val (.slice 56 aS)),tI 68,tI 69],[(26,bV aS),(78,.row 4 1 .bool),(81,.row 4 1 .bool)],[]⟩
def Vg:SS:=⟨134,174,[],[],[]⟩
def Vh:SS:=⟨134,174,[(5,.val (.slice 120 eo)),(6,.val (.slice 120 eo)),(7,.own 78),(8,.own 81),(67,.val (.slice 56 aS)),tI 68,tI 69],[(78,.row 4 1 .bool),(81,.row 4 1 .bool)],[]⟩
def Vi:SS:=⟨134,174,[(4,vB)],[],[]⟩
def c94:aW:=aF G [.tmp 4] 94 [.val gS,.val eZ] [] 174 Vi [] (.bH (u2 f94))
theorem x94:hS c94:=
 cO ⟨[hD 1 29 [cA 0,cA 0],hD 4 59 [],hD 10 108 [],hA 13 1],[(3,Vd),(6,Ve),(12,Vf),(16,Vg)],[],[(8,⟨Vh,fun u8=>Int.toNat u8.2.2.2.1+1⟩)],[],[]⟩ (hq U8 (hq Vc hz)) aJ Tryz.call94 Tryz.func94
def Bm:Nat→ZC×Int×Int×cY→Option (cW Unit Int):=aK fun abG ⟨c,b,a,d⟩=>if(decide (a<b))=true then(if 0≤a then(if a<(List.length c:Int) then(Option.bind (f94 d (nth eZ c a)) fun y4=>if(!y4)=true then(cn (some (150:Int))) else(abG (c,b,aZ (a+1),d))) else none) else none) else(some (.brk ()))
def f60(a0:cY):ZM:=
 aG (U:=Unit) (Bm (Int.toNat (List.length a0.2.2.2.2.1:Int)+1) (a0.2.2.2.2.1,(List.length a0.2.2.2.2.1:Int),0,a0)) fun _=>some (0:Int)
def Vj:SS:=⟨17,57,[],[],[]⟩
def Vk:SS:=⟨17,57,[tP 1 17,(6,.val (.slice 72 eZ)),tI 7,tI 8],[(17,bV gS)],[]⟩
def Vl:SS:=⟨17,57,[tI 2],[],[]⟩
def c60:aW:=aF G [.tmp 2] 60 [.val gS] [] 57 Vl [] (.bH (u1 f60))
theorem x60:hS c60:=
 cO ⟨[hA 4 0],[(7,Vj)],[],[(2,⟨Vk,fun u2=>Int.toNat u2.2.1+1⟩)],[],[]⟩ (hq x94 hz) aJ Tryz.call60 Tryz.func60
def f36(a0:cY):Option (Int×CN):=
 aG (U:=cY) (Option.bind (f56 a0) fun y2=>if(!decide (y2=(0:Int)))=true then(cn (some (y2,(([]:ZG),([]:Zr),([]:ZB),([]:Zm),([]:ZC),([]:ZA),()),([]:Ze),()))) else(Option.bind (f57 a0) fun y3=>if(!decide (y3=(0:Int)))=true then(cn (some (y3,(([]:ZG),([]:Zr),([]:ZB),([]:Zm),([]:ZC),([]:ZA),()),([]:Ze),()))) else(Option.bind (f58 a0) fun y4=>if(!decide (y4=(0:Int)))=true then(cn (some (y4,(([]:ZG),([]:Zr),([]:ZB),([]:Zm),([]:ZC),([]:ZA),()),([]:Ze),()))) else(Option.bind (f59 a0) fun y5=>if(!decide (y5=(0:Int)))=true then(cn (some (y5,(([]:ZG),([]:Zr),([]:ZB),([]:Zm),([]:ZC),([]:ZA),()),([]:Ze),()))) else(Option.bind (f60 a0) fun y6=>if(!decide (y6=(0:Int)))=true then(cn (some (y6,(([]:ZG),([]:Zr),([]:ZB),([]:Zm),([]:ZC),([]:ZA),()),([]:Ze),()))) else(some (.brk a0))))))) fun v1=>Option.bind (f61 v1) fun⟨b,_,a⟩=>if(!decide (a=(0:Int)))=true then(some (a,(([]:ZG),([]:Zr),([]:ZB),([]:Zm),([]:ZC),([]:ZA),()),([]:Ze),())) else(some (0,v1,b,()))
def Vm:SS:=⟨36,76,[tP 1 17,tP 2 18],[(17,bV gS),(18,.var FQ (.cons (.cons .bA (.cons .bA (.cons .bA (.cons .bA (.cons .bA (.cons .bA .nil)))))) (.cons .bA .nil)))],[]⟩
def Vn:SS:=⟨36,76,[tP 2 18,tI 3],[(18,bV FQ)],[]⟩
def c36:aW:=aF G [.cell 2 32,.tmp 3] 36 [.val gS] [] 76 Vn [] (.bH (u1 f36))
theorem x36:hS c36:=
 cO ⟨[hE 5 [⟨[4,3,2,1,0],[],[],[],[]⟩],hA 9 5],[(9,Vm)],[],[],[(3,12)],[]⟩ (hq Ya (hq Xn (hq Yr (hq x59 (hq x60 (hq UT hz)))))) aJ Tryz.call36 Tryz.func36
def f37(a0:CN)(a1:CN):Zl:=
 Option.bind (α:=Bool) (Option.bind (f62 a0.1 a1.1) fun y1=>if y1=true then(Option.bind (f63 a0.2.1 a1.2.1) fun y2=>some y2) else(some false)) fun v3=>some v3
def Vo:SS:=⟨17,57,[(4,vB)],[],[]⟩
def c37:aW:=aF G [.tmp 4] 37 [.val FQ,.val FQ] [] 57 Vo [] (.bH (u2 f37))
theorem x37:hS c37:=
 cO (hR [hD 1 4 [cA 0,cA 1]]) (hq Xl (hq XJ hz)) aJ Tryz.call37 Tryz.func37
def f18(a0:CN):ZM:=
 Option.bind (f36 a0.1) fun⟨a,b⟩=>Option.bind (α:=Bool) (if(!decide (a=(0:Int)))=true then(some true) else(Option.bind (f37 b a0) fun y2=>some (!y2))) fun v3=>if v3=true then(some (160:Int)) else(some (0:Int))
def Vp:SS:=⟨18,58,[tI 2],[],[]⟩
def c18:aW:=aF G [.tmp 2] 18 [.val FQ] [] 58 Vp [] (.bH (u1 f18))
theorem Vq:hS c18:=
 cO (hR [hA 1 0,hD 2 17 [cA 1]]) (hq x36 (hq x37 hz)) aJ Tryz.call18 Tryz.func18
def FZ(a0:Int)(a1:Int)(a2:NU):Option (NU×Zt):=
 some (a2,a2.1,a2.2.1,a0,a1,a2.2.2.2.2.1,a2.2.2.2.2.2.1,a2.2.2.2.2.2.2.2.2.2,([]:Zj),([]:Zi),([]:Zh))
def Vr:SS:=⟨20,60,[tP 6 23],[(0,bV jM),(23,fB 32 33 36),(32,.map bu cp),(33,.map bx .bool),(36,.row 74 40 bx)],[]⟩
def LM:aW:=aF G [.tmp 6] 29 [pP 0,vI,vI] [(0,bV jM)] 60 Vr [0,23,32,33,36] (.bH (u3 FZ))
theorem LN:hS LM:=
 cO (hR [(3,⟨[.rp 23 [.cD 8] 36 74 40 bx],[],[],none,[],[],[]⟩)]) hz aJ Tryz.call29 Tryz.func29
def vF:Nat→Int×Int×Zk×Int×Int×bO×MP→Option (cW (Int×Int×bO×MP) Zt):=aK fun abG ⟨e,f,c,b,a,g,d,h,i,j,k,l⟩=>if(decide (a<b))=true then(if 0≤a then(if a<(List.length c:Int) then(if aX bu (nth aP c a).1 (nth aP c a).1=true then(if List.length d+1≤aE then(if(List.length (bz bu (.slice 64 aP) (nth aP c a).1 d)+List.length [nth aP c a])*64≤aE then(abG (e,f,c,b,aZ (a+1),g,bE bu (nth aP c a).1 ((bz bu (.slice 64 aP) (nth aP c a).1 d)++[nth aP c a]) (bE bu (nth aP c a).1 (Ty.aD (.slice 64 aP)) d),h,i,j,k,l)) else none) else none) else none) else none) else none) else(some (.brk (e,f,g,d,h,i,j,k,l)))
def vG:Nat→Int×Int×Zm×Int×Int×MP→Option (cW (Int×Int×MP) Zt):=aK fun rec6 ⟨e,f,c,b,a,g,d,h,i,j,k⟩=>if(decide (a<b))=true then(if 0≤a then(if a<(List.length c:Int) then(if List.length d+1≤aE then(rec6 (e,f,c,b,aZ (a+1),g,bE (.int .i64) (nth bD c a).2.1 true d,h,i,j,k)) else none) else none) else none) else(some (.brk (e,f,g,d,h,i,j,k)))
def oi(a0:bO)(a1:Int)(a2:Int)(a3:Bool):Option Zt:=
 aG (U:=Int×Int×bO×MP) (vF (Int.toNat (List.length a0.2.1:Int)+1) (a1,a2,a0.2.1,(List.length a0.2.1:Int),0,a0,([]:ZF),([]:Zn),a0,0,0,a3)) fun⟨b,c,a,d,e,f,g,h,i⟩=>aG (U:=Int×Int×MP) (vG (Int.toNat (List.length a.1.1.2.2.2.1:Int)+1) (b,c,a.1.1.2.2.2.1,(List.length a.1.1.2.2.2.1:Int),0,d,e,f,g,h,i)) fun⟨j,k,m,q,l,n,o,p⟩=>Option.bind (FZ j k (l,some m,n,o,p,some q,(none:Option Zj),(none:Option Zi),([]:Zh),())) fun⟨_,r,s,t,u,v,w,x,y,z,aa⟩=>some (r,s,t,u,v,w,x,y,z,aa)
def Vs:SS:=⟨60,100,[tI 1,tI 2,tP 4 20,tP 9 35],[(20,bV fp),(31,.pmap bu (.slice 64 aP) 106),(33,.map (.int .i64) .bool),(35,.var jM (.cons (.val fp) (.cons (.mp 31) (.cons vI (.cons vI (.cons vB (.cons (.mp 33) (.cons .dT (.cons .dT (.cons .bA .nil))))))))))],[]⟩
def Vt:SS:=⟨60,100,[tI 1,tI 2,tP 9 35],[(31,.map bu (.slice 64 aP)),(33,.map (.int .i64) .bool),(35,.var jM (.cons (.val fp) (.cons (.mp 31) (.cons vI (.cons vI (.cons vB (.cons (.mp 33) (.cons .dT (.cons .dT (.cons .bA .nil))))))))))],[]⟩
def Vu:SS:=⟨60,100,[tI 1,tI 2,tP 4 20,tP 9 35,(21,.val (.slice 64 aP)),tI 22,tI 23],[(20,bV fp),(31,.pmap bu (.slice 64 aP) 106),(33,.map (.int .i64) .bool),(35,.var jM (.cons (.val fp) (.cons (.mp 31) (.cons vI (.cons vI (.cons vB (.cons (.mp 33) (.cons .dT (.cons .dT (.cons .bA .nil))))))))))],[]⟩
def Vv:SS:=⟨60,100,[tI 1,tI 2,tP 9 35,(43,.val (.slice 96 bD)),tI 44,tI 45],[(31,.map bu (.slice 64 aP)),(33,.map (.int .i64) .bool),(35,.var jM (.cons (.val fp) (.cons (.mp 31) (.cons vI (.cons vI (.cons vB (.cons (.mp 33) (.cons .dT (.cons .dT (.cons .bA .nil))))))))))],[]⟩
def Vw:SS:=⟨60,100,[tP 8 75],[(75,fB 76 77 78),(76,.map bu cp),(77,.map bx .bool),(78,.row 74 40 bx)],[]⟩
def LO:aW:=aF G [.tmp 8] 27 [.val fp,vI,vI,vB] [] 100 Vw [75,76,77,78] (.bH (u4 oi))
theorem F0:hS LO:=
 cO ⟨[(2,⟨[.Fz 31 106],[],[],none,[],[],[]⟩),(5,⟨[],[],[],none,[],[.map 2 31 76 (.c 11 [.cD 0]),.eP 31],[.sf 31,.lM 31]⟩),(7,⟨[.D1 31],[],[],none,[],[],[]⟩),(12,⟨[.freeze 31 (.map bu (.slice 64 aP)),.freeze 33 (.map (.int .i64) .bool),.A3 35],[],[⟨[0],[(0,35)],[(23,75),(32,76),(33,77),(36,78)],[],[]⟩],none,[],[],[]⟩)],[(7,Vs),(12,Vt)],[],[(3,⟨Vu,fun u2=>Int.toNat u2.2.2.2.1+1⟩),(8,⟨Vv,fun u5=>Int.toNat u5.2.2.2.1+1⟩)],[],[]⟩ (hq LN hz) aJ Tryz.call27 Tryz.func27
def oj(a0:Int)(a1:Int)(a2:bO)(a3:Zd)(a4:Int)(a5:Int)(a6:Bool)(a7:Zf)(a8:Unit)(a9:Zj)(a10:Zi)(a11:Zh):Option (Bool×Zt):=
 Option.bind (α:=Bool) (if a6=true then(if(bz (.int .i64) .bool a0 (bU a7))=true then(if(decide ((0:Int)≤a1))=true then(if(decide (a1<(4096:Int)))=true then(if(decide ((0:Int)≤a4))=true then(some (decide (a4<(1024:Int)))) else(some false)) else(some false)) else(some false)) else(some false)) else(some false)) fun v1=>some (v1,a2,a3,a4,a5,a6,a7,a8,a9,a10,a11)
def Vx:SS:=⟨41,81,[(6,vB)],[(0,fB 1 2 3),(1,.map bu cp),(2,.map bx .bool),(3,.row 74 40 bx)],[]⟩
def LP:aW:=aF G [.tmp 6] 46 [pP 0,vI,vI] [(0,fB 1 2 3),(1,.map bu cp),(2,.map bx .bool),(3,.row 74 40 bx)] 81 Vx [0,1,2,3] (.bH (Ko oj))
theorem F3:hS LP:=
 cO (hR [hD 1 6 []]) hz aJ Tryz.call46 Tryz.func46
def Bn:SS:=⟨75,115,[tP 4 20],[(0,fB 1 2 93),(1,.map bu cp),(2,.map bx .bool),(20,bV cp),(93,.row 74 40 bx)],[]⟩
def ud(q:Zc):aW:=aF G [.cell 4 135] 47 [pP 0,.val bu] [(0,fB 1 2 3),(1,.map bu cp),(2,.map bx .bool),(3,.row 74 40 bx)] 115 Bn [0,1,2,93] (.bH q)
def Jx:SS:=⟨77,117,[(5,vB)],[(0,.var (.slice 48 gz) (.own 99)),(1,bV bD),(2,.var (.aR .ptr) (pP 6)),(3,bI),(4,.var (.aR .func) (.func 173 .nil (.cons (pP 0) (.cons (pP 1) (.cons (pP 2) (.cons (pP 3) (.cons (pP 4) .nil))))))),(6,fB 7 8 100),(7,.map bu cp),(8,.map bx .bool),(99,.row 53 48 gz),(100,.row 74 40 bx)],[]⟩
def pz(q:Zb):aW:=aF G [.tmp 5] 173 [pP 0,pP 1,pP 2,pP 3,pP 4] [(0,.var (.slice 48 gz) (.own 5)),(1,bV bD),(2,.var (.aR .ptr) (pP 6)),(3,bI),(4,.var (.aR .func) (.func 173 .nil (.cons (pP 0) (.cons (pP 1) (.cons (pP 2) (.cons (pP 3) (.cons (pP 4) .nil))))))),(5,.row 53 48 gz),(6,fB 7 8 9),(7,.map bu cp),(8,.map bx .bool),(9,.row 74 40 bx)] 117 Jx [0,1,2,3,4,6,7,8,99,100] (.bH q)
def nc(_q0_:Zc)(q1_:Zb)(a0:cQ)(a1:Int)(a2:bO)(a3:Zd)(a4:Int)(a5:Int)(a6:Bool)(a7:Zf)(a8:Unit)(a9:Zj)(a10:Zi)(a11:Zh):Option (Bool×ZL):=
 Option.bind (q1_ (a0,a1,([]:Zx),a2,a3,a4,a5,a6,a7,a8,a9,a10,a11,())) fun⟨a,_,_,b,c,d,e,f,g,h,i,j,l,k⟩=>if(!a)=true then(some (false,b,c,d,e,f,g,h,i,j,([]:Zx),k)) else(some (true,b,c,d,e,f,g,h,i,j,l,k))
def Vy:SS:=⟨14,54,[tP 6 22,(7,vB)],[(0,fB 1 2 31),(1,.map bu cp),(2,.map bx .bool),(22,.var (.slice 48 gz) (.val (.slice 48 gz))),(31,.row 74 40 bx)],[]⟩
def Jy(q0_:Zc)(q1_:Zb):aW:=aF G [.cell 6 133,.tmp 7] 114 [pP 0,.val bD,vI] [(0,fB 1 2 3),(1,.map bu cp),(2,.map bx .bool),(3,.row 74 40 bx)] 54 Vy [0,1,2,31] (.bH (Ko (nc q0_ q1_)))
theorem Jz(q0_:Zc)(q1_:Zb)(_h0_:hS (ud q0_))(h1_:hS (pz q1_)):hS (Jy q0_ q1_):=
 cO (hR [(3,⟨[.rp 22 [] 30 53 48 gz],[],[⟨[0],[(0,22),(1,20),(2,19),(3,21),(4,24),(5,30),(6,0),(7,1),(8,2),(9,3)],[(99,27),(100,31)],[],[]⟩],none,[],[],[]⟩)]) (hq h1_ hz) aJ Tryz.call114 Tryz.func114
def f175(a0:gU)(a1:Zx):ZM:=
 if(decide (a0.2.2.1=(-1:Int)))=true then(some a0.2.2.2.2.1) else(if 0≤a0.2.2.1 then(if a0.2.2.1<(List.length a1:Int) then(if 0≤a0.2.2.2.1 then(if a0.2.2.2.1<(List.length (nth gz a1 a0.2.2.1).2.2.2.1:Int) then(some (nth (.int .i64) (nth gz a1 a0.2.2.1).2.2.2.1 a0.2.2.2.1)) else none) else none) else none) else none)
def Vz:aW:=aF G [.tmp 4] 175 [.val aS,.val (.slice 48 gz)] [] 60 Tg [] (.bH (u2 f175))
theorem LQ:hS Vz:=
 cO (hR []) hz aJ Tryz.call175 Tryz.func175
def jN:Nat→Int×Zx×Zz×Int×Uj→Option (cW Uj (bO×Zd×Int×Int×Bool×Zf×Unit×Zj×Zi×Zh×qi)):=aK fun abG ⟨f,d,c,b,a,g,h,i,j,k,l,m,n,o,p,q,r,s,t,e⟩=>if(decide (a<b))=true then(if 0≤a then(if a<(List.length c:Int) then(Option.bind (f175 (nth aY c a).2.2.1 d) fun y4=>if 0≤(nth aY c a).2.1 then(if(nth aY c a).2.1<(List.length e:Int) then(abG (f,d,c,b,aZ (a+1),g,h,i,j,k,l,m,n,o,p,q,r,s,t,List.set e (Int.toNat (nth aY c a).2.1) y4)) else none) else none) else none) else none) else(some (.brk (f,g,h,i,j,k,l,m,n,o,p,q,r,s,t,e)))
def su(a0:cQ)(a1:Int)(a2:Zx)(a3:bO)(a4:Zd)(a5:Int)(a6:Int)(a7:Bool)(a8:Zf)(a9:Unit)(a10:Zj)(a11:Zi)(a12:Zh):Option (bO×Zd×Int×Int×Bool×Zf×Unit×Zj×Zi×Zh×qi):=
 if 0≤a0.2.1 then(if a0.2.1<(List.length a3.1.1.2.2.1:Int) then(if 0≤(List.length (nth bJ a3.1.1.2.2.1 a0.2.1).2.2.2.2.1:Int) then(if(List.length (nth bJ a3.1.1.2.2.1 a0.2.1).2.2.2.2.1:Int)≤(List.length (nth bJ a3.1.1.2.2.1 a0.2.1).2.2.2.2.1:Int) then(if(List.length (nth bJ a3.1.1.2.2.1 a0.2.1).2.2.2.2.1:Int)*(8:Int)≤(aE:Int) then(if(0:Int)<(List.length (List.replicate (Int.toNat (List.length (nth bJ a3.1.1.2.2.1 a0.2.1).2.2.2.2.1:Int)) (0:Int)):Int) then(aG (U:=Uj) (jN (Int.toNat (List.length a0.2.2.2.2.1:Int)+1) (a1,a2,a0.2.2.2.2.1,(List.length a0.2.2.2.2.1:Int),0,a3,a4,a5,a6,a7,a8,a9,a10,a11,a12,a0,0,0,0,List.set (List.replicate (Int.toNat (List.length (nth bJ a3.1.1.2.2.1 a0.2.1).2.2.2.2.1:Int)) (0:Int)) (Int.toNat (0:Int)) a1)) fun⟨l,a,b,c,d,e,f,g,h,i,j,k,_,_,_,m⟩=>some (a,b,c,d,e,f,g,h,i,j,k.2.1,l,0,m,())) else none) else none) else none) else none) else none) else none
def VA:SS:=⟨50,90,[tI 2,tP 5 21,tP 8 24,(9,.own 41)],[(0,fB 1 2 3),(1,.map bu cp),(2,.map bx .bool),(3,.row 74 40 bx),(21,bV bD),(24,.var gz (.cons vI (.cons vI (.cons vI (.cons .bA .nil))))),(41,.row 3 8 (.int .i64))],[]⟩
def VB:SS:=⟨50,90,[tI 2,(3,.val (.slice 48 gz)),tP 5 21,tP 8 24,(9,.own 41),(30,.val (.slice 80 aY)),tI 31,tI 32],[(0,fB 1 2 3),(1,.map bu cp),(2,.map bx .bool),(3,.row 74 40 bx),(21,bV bD),(24,.var gz (.cons vI (.cons vI (.cons vI (.cons .bA .nil))))),(41,.row 3 8 (.int .i64))],[]⟩
def VD:SS:=⟨50,90,[tP 8 24],[(0,fB 1 2 3),(1,.map bu cp),(2,.map bx .bool),(3,.row 74 40 bx),(24,bV gz)],[]⟩
def JA:aW:=aF G [.cell 8 53] 115 [pP 0,.val bD,vI,.val (.slice 48 gz)] [(0,fB 1 2 3),(1,.map bu cp),(2,.map bx .bool),(3,.row 74 40 bx)] 90 VD [0,1,2,3] (.bH (Gv su))
theorem JB:hS JA:=
 cO ⟨[hA 6 0],[(8,VA)],[],[(4,⟨VB,fun u2=>Int.toNat u2.2.2.2.1+1⟩)],[],[]⟩ (hq LQ hz) aJ Tryz.call115 Tryz.func115
def fL(q0_:Zc)(q1_:Zb):Nat→Zm×Int×Int×bO×Zd×Int×Int×Bool×Zf×Unit×Zj×Zi×ib×Int×Int×Int×Int×Bool×Zh→Option (cW (bO×Zd×Int×Int×Bool×Zf×Unit×Zj×Zi×Int×Int×Int×Int×Bool×Zh) ZR):=aK fun abG ⟨z,y,x,ab,ac,ad,ae,af,ag,ah,ai,aj,aa,ak,al,am,an,ao,ap⟩=>if(decide (x<y))=true then(if 0≤x then(if x<(List.length z:Int) then(if(!decide ((nth bD z x).2.1=aa.1))=true then(abG (z,y,aZ (x+1),ab,ac,ad,ae,af,ag,ah,ai,aj,aa,ak,al,am,an,ao,ap)) else(Option.bind (nc q0_ q1_ (nth bD z x) aa.2.1 ab ac ad ae af ag ah ai aj ap) fun⟨a,c,d,e,f,g,h,i,j,k,b,l⟩=>if a=true then(Option.bind (su (nth bD z x) aa.2.1 b c d e f g h i j k l) fun⟨m,n,o,p,q,r,s,t,u,w,v⟩=>cn (some (m,n,o,p,q,r,s,t,u,(v,x,b,true,()),w))) else(abG (z,y,aZ (x+1),c,d,e,f,g,h,i,j,k,aa,ak,al,am,an,ao,l)))) else none) else none) else(some (.brk (ab,ac,ad,ae,af,ag,ah,ai,aj,ak,al,am,an,ao,ap)))
def lr(q0_:Zc)(q1_:Zb)(a0:ib)(a1:bO)(a2:Zd)(a3:Int)(a4:Int)(a5:Bool)(a6:Zf)(a7:Unit)(a8:Zj)(a9:Zi)(a10:Zh):Option ZR:=
 aG (U:=bO×Zd×Int×Int×Bool×Zf×Unit×Zj×Zi×Int×Int×Int×Int×Bool×Zh) (fL q0_ q1_ (Int.toNat (List.length a1.1.1.2.2.2.1:Int)+1) (a1.1.1.2.2.2.1,(List.length a1.1.1.2.2.2.1:Int),0,a1,a2,a3,a4,a5,a6,a7,a8,a9,a0,0,0,0,0,false,a10)) fun⟨a,b,c,d,e,f,g,h,i,j,k,l,m,n,o⟩=>some (a,b,c,d,e,f,g,h,i,((j,k,l,([]:Ze),()),m,([]:Zx),n,()),o)
def VE:SS:=⟨47,87,[tP 4 20],[(0,fB 1 2 64),(1,.map bu cp),(2,.map bx .bool),(20,.var cp (.cons (.cons vI (.cons vI (.cons vI (.cons .bA .nil)))) (.cons vI (.cons .bA (.cons vB .nil))))),(64,.row 74 40 bx)],[]⟩
def VF:SS:=⟨47,87,[tP 0 0,tP 3 19,tP 4 20,(15,.val (.slice 96 bD)),tI 16,tI 17],[(0,fB 1 2 63),(1,.map bu cp),(2,.map bx .bool),(19,bV bu),(20,.var cp (.cons (.cons vI (.cons vI (.cons vI (.cons .bA .nil)))) (.cons vI (.cons .bA (.cons vB .nil))))),(63,.row 74 40 bx)],[]⟩
def VG:SS:=⟨47,87,[tP 4 20],[(0,fB 1 2 65),(1,.map bu cp),(2,.map bx .bool),(20,bV cp),(65,.row 74 40 bx)],[]⟩
def LR(q0_:Zc)(q1_:Zb):aW:=aF G [.cell 4 135] 74 [pP 0,.val bu] [(0,fB 1 2 3),(1,.map bu cp),(2,.map bx .bool),(3,.row 74 40 bx)] 87 VG [0,1,2,65] (.bH (IW (lr q0_ q1_)))
theorem LS(q0_:Zc)(q1_:Zb)(h0_:hS (ud q0_))(h1_:hS (pz q1_)):hS (LR q0_ q1_):=
 cO ⟨[hE 5 [cB 0 [(0,0),(1,1),(2,2),(3,63)] [(31,48)]],hE 7 [cB 1 [(0,0),(1,1),(2,2),(3,48)] []]],[(9,VE)],[],[(2,⟨VF,fun u2=>Int.toNat u2.2.1+1⟩)],[],[]⟩ (hq (Jz q0_ q1_ h0_ h1_) (hq JB hz)) aJ Tryz.call74 Tryz.func74
def kP:Nat→Int×Int×bO×Zd×Int×Int×Bool×Zf×Unit×Zj×Zi×Zh×ib×CN×Zk→Option (cW (bO×Zd×Int×Int×Bool×Zf×Unit×Zj×Zi×Zh×CN×Zk) (bO×Zd×Int×Int×Bool×Zf×Unit×Zj×Zi×Zh×bO)):=aK fun rec4 ⟨b,a,f,e,g,h,i,j,k,l,m,n,d,o,c⟩=>if(decide (a<b))=true then(if(List.length c+List.length (bz bu (.slice 64 aP) (d.1,d.2.1,aZ ((aZ ((16:Int)*d.2.2.1))+a),()) (bU e)))*64≤aE then(rec4 (b,aZ (a+1),f,e,g,h,i,j,k,l,m,n,d,o,c++(bz bu (.slice 64 aP) (d.1,d.2.1,aZ ((aZ ((16:Int)*d.2.2.1))+a),()) (bU e)))) else none) else(some (.brk (f,e,g,h,i,j,k,l,m,n,o,c)))
def iA(a0:ib)(a1:bO)(a2:Zd)(a3:Int)(a4:Int)(a5:Bool)(a6:Zf)(a7:Unit)(a8:Zj)(a9:Zi)(a10:Zh):Option (bO×Zd×Int×Int×Bool×Zf×Unit×Zj×Zi×Zh×bO):=
 aG (U:=bO×Zd×Int×Int×Bool×Zf×Unit×Zj×Zi×Zh×CN×Zk) (Option.bind (α:=Bool) (if(decide ((0:Int)≤a0.1))=true then(some (decide (a0.1<(List.length a1.1.1.2.2.1:Int)))) else(some false)) fun v2=>if v2=true then(if 0≤a0.1 then(if a0.1<(List.length a1.1.1.2.2.1:Int) then(kP (Int.toNat (List.length (nth bJ a1.1.1.2.2.1 a0.1).2.2.2.2.1:Int)+1) ((List.length (nth bJ a1.1.1.2.2.1 a0.1).2.2.2.2.1:Int),0,a1,a2,a3,a4,a5,a6,a7,a8,a9,a10,a0,a1.1,([]:Zk))) else none) else none) else(some (.brk (a1,a2,a3,a4,a5,a6,a7,a8,a9,a10,a1.1,([]:Zk))))) fun⟨a,b,c,d,e,f,g,h,i,j,k,l⟩=>some (a,b,c,d,e,f,g,h,i,j,k,l,())
def VH:SS:=⟨62,102,[tP 4 20,tP 5 21],[(0,fB 1 2 3),(1,.map bu cp),(2,.map bx .bool),(3,.row 74 40 bx),(20,.var fp (.cons (.cons (.cons .bA (.cons .bA (.cons .bA (.cons .bA (.cons .bA (.cons .bA .nil)))))) (.cons .bA .nil)) (.cons .bA .nil))),(21,.var fp (.cons (.val FQ) (.cons (.own 79) .nil))),(79,.row 106 64 aP)],[]⟩
def VI:SS:=⟨62,102,[tP 0 0,tP 3 19,tP 4 20,tP 5 21,tI 36,tI 37],[(0,fB 1 2 3),(1,.map bu cp),(2,.map bx .bool),(3,.row 74 40 bx),(19,bV bu),(20,.var fp (.cons (.cons (.cons .bA (.cons .bA (.cons .bA (.cons .bA (.cons .bA (.cons .bA .nil)))))) (.cons .bA .nil)) (.cons .bA .nil))),(21,.var fp (.cons (.val FQ) (.cons (.own 78) .nil))),(78,.row 106 64 aP)],[]⟩
def VJ:SS:=⟨62,102,[tP 4 20],[(0,fB 1 2 3),(1,.map bu cp),(2,.map bx .bool),(3,.row 74 40 bx),(20,bV fp)],[]⟩
def LU:aW:=aF G [.cell 4 35] 75 [pP 0,.val bu] [(0,fB 1 2 3),(1,.map bu cp),(2,.map bx .bool),(3,.row 74 40 bx)] 102 VJ [0,1,2,3] (.bH (IW iA))
theorem LV:hS LU:=
 cO ⟨[hD 2 26 []],[(9,VH)],[],[(4,⟨VI,fun u3=>Int.toNat u3.1+1⟩)],[],[]⟩ hz aJ Tryz.call75 Tryz.func75
def Bo:Nat→Int×Zm×Int×Int×Zn→Option (cW (Int×Zn) Bool):=aK fun acm ⟨e,c,b,a,d⟩=>if(decide (a<b))=true then(if 0≤a then(if a<(List.length c:Int) then(if List.length d+1≤aE then(acm (e,c,b,aZ (a+1),bE (.int .i64) (nth bD c a).2.1 true d)) else none) else none) else none) else(some (.brk (e,d)))
def f49(a0:cY)(a1:Int):Zl:=
 aG (U:=Int×cY) (Option.bind (α:=Bool) (if(decide (a1<(0:Int)))=true then(some true) else(if(decide ((List.length a0.2.2.1:Int)≤a1))=true then(some true) else(if 0≤a1 then(if a1<(List.length a0.2.2.1:Int) then(some (decide ((List.length (nth bJ a0.2.2.1 a1).2.2.2.2.1:Int)<(2:Int)))) else none) else none))) fun v2=>if v2=true then(cn (some false)) else(some (.brk (a1,a0)))) fun⟨b,a⟩=>aG (U:=Int×Zn) (Bo (Int.toNat (List.length a.2.2.2.1:Int)+1) (b,a.2.2.2.1,(List.length a.2.2.2.1:Int),0,([]:Zn))) fun⟨c,d⟩=>some (!(bz (.int .i64) .bool c d))
def VK:SS:=⟨43,83,[tI 1,tP 2 18],[(18,bV gS)],[]⟩
def VL:SS:=⟨43,83,[tI 1,(5,.mp 43)],[(43,.map (.int .i64) .bool)],[]⟩
def VM:SS:=⟨43,83,[tI 1,(5,.mp 43),(29,.val (.slice 96 bD)),tI 30,tI 31],[(43,.map (.int .i64) .bool)],[]⟩
def VN:SS:=⟨43,83,[(4,vB)],[],[]⟩
def c49:aW:=aF G [.tmp 4] 49 [.val gS,vI] [] 83 VN [] (.bH (u2 f49))
theorem x49:hS c49:=
 cO ⟨[hD 1 26 []],[(3,VK),(9,VL)],[],[(5,⟨VM,fun u4=>Int.toNat u4.2.2.1+1⟩)],[],[]⟩ hz aJ Tryz.call49 Tryz.func49
def f50(a0:Int)(a1:Int):Zl:=
 Option.bind (α:=Bool) (if(decide ((0:Int)≤a0))=true then(if(decide (a0<(4096:Int)))=true then(if(decide ((0:Int)≤a1))=true then(some (decide (a1<(4:Int)))) else(some false)) else(some false)) else(some false)) fun v1=>some v1
def VO:SS:=⟨19,59,[(4,vB)],[],[]⟩
def c50:aW:=aF G [.tmp 4] 50 [vI,vI] [] 59 VO [] (.bH (u2 f50))
theorem x50:hS c50:=
 cO (hR [hD 1 4 []]) hz aJ Tryz.call50 Tryz.func50
def f52(a0:Int)(a1:Int)(a2:Int)(a3:Int):Option ib:=
 some (a0,a1,aZ ((aZ ((16:Int)*a2))+a3),())
def VP:SS:=⟨16,56,[tP 8 24],[(24,bV bu)],[]⟩
def c52:aW:=aF G [.cell 8 72] 52 [vI,vI,vI,vI] [] 56 VP [] (.bH (u4 f52))
theorem x52:hS c52:=
 cO (hR []) hz aJ Tryz.call52 Tryz.func52
def ue(a0:Zk)(a1:ib)(a2:Int):Option (Zk×ib×Int):=
 some (a0,a1,a2)
def VQ:SS:=⟨8,48,[(6,.func 68 .nil (.cons (pP 19) (.cons (pP 20) (.cons (pP 21) .nil))))],[(19,.var (.slice 64 aP) (.val (.slice 64 aP))),(20,bV bu),(21,bI)],[]⟩
def LW:aW:=aF G [.tmp 6] 41 [.val (.slice 64 aP),.val bu,vI] [] 48 VQ [19,20,21] (.bH (u3 ue))
theorem F4:hS LW:=
 cO (hR []) hz aJ Tryz.call41 Tryz.func41
def f110(a0:Int):Zl:=
 some (!decide (a0=a0))
def VT:SS:=⟨6,46,[(2,vB)],[],[]⟩
def VU:aW:=aF G [.tmp 2] 110 [vI] [] 46 VT [] (.bH (u1 f110))
theorem VV:hS VU:=
 cO (hR []) hz aJ Tryz.call110 Tryz.func110
def f70(a0:Int)(a1:Int):ZM:=
 Option.bind (f110 a0) fun y1=>Option.bind (f110 a1) fun y2=>if y1=true then(if y2=true then(some (0:Int)) else(some (-1:Int))) else(if y2=true then(some (1:Int)) else(if(decide (a0<a1))=true then(some (-1:Int)) else(if(decide (a1<a0))=true then(some (1:Int)) else(some (0:Int)))))
def c70:aW:=aF G [.tmp 4] 70 [vI,vI] [] 60 Tg [] (.bH (u2 f70))
theorem x70:hS c70:=
 cO (hR [hA 1 0,hA 2 0]) (hq VV hz) aJ Tryz.call70 Tryz.func70
def Bp:Nat→Int×Ze×ZY→Option (cW Int Int):=aK fun abG ⟨d,c,b,a⟩=>if(decide (a<b))=true then(if 0≤a then(if a<(List.length c:Int) then(if(!decide ((nth (.int .i64) c a)=d))=true then(cn (some (nth (.int .i64) c a))) else(abG (d,c,b,aZ (a+1)))) else none) else none) else(some (.brk d))
def f69(a0:Ze):ZM:=
 aG (U:=Int) (Bp (Int.toNat (List.length a0:Int)+1) (0,a0,(List.length a0:Int),0)) fun v1=>some v1
def VW:SS:=⟨18,58,[tI 3],[],[]⟩
def VX:SS:=⟨18,58,[tI 3,(6,.val (.slice 8 (.int .i64))),tI 7,tI 8],[],[]⟩
def VY:SS:=⟨18,58,[tI 2],[],[]⟩
def c69:aW:=aF G [.tmp 2] 69 [.val (.slice 8 (.int .i64))] [] 58 VY [] (.bH (u1 f69))
theorem x69:hS c69:=
 cO ⟨[],[(8,VW)],[],[(3,⟨VX,fun u2=>Int.toNat u2.2.2.1+1⟩)],[],[]⟩ hz aJ Tryz.call69 Tryz.func69
def f42(a0:fa)(a1:fa):ZM:=
 Option.bind (f70 a0.2.2.2.1 a1.2.2.2.1) fun y1=>Option.bind (f70 a0.2.2.2.2.1 a1.2.2.2.2.1) fun y2=>Option.bind (f69 [y1,y2]) fun y3=>some y3
def VZ:SS:=⟨17,57,[tI 4],[],[]⟩
def c42:aW:=aF G [.tmp 4] 42 [.val aP,.val aP] [] 57 VZ [] (.bH (u2 f42))
theorem XL:hS c42:=
 cO (hR [hE 1 [cA 0,cA 0,cA 1]]) (hq x70 (hq x69 hz)) aJ Tryz.call42 Tryz.func42
def qm(l_:Nat)(Y_:fa×YC×Nat×Nat×Int×Nat×fa×Nat×Bool×Unit→Ug):Nat→Nat×Zk×Int×Int×ZO→Option (cW ZO ZO):=aK fun abG ⟨o,l,k,j,p,q,r,s,t,u,v,w,x,m,n⟩=>if(decide (j<k))=true then(if 0≤j then(if j<(List.length l:Int) then(if(aX bu (nth aP l j).1 m)=true then(if(decide ((nth aP l j).2.2.2.1≤n))=true then(if o=l_ then(Option.bind (Y_ (nth aP l j,p,q,r,s,t,u,v,w,())) fun⟨a,b,c,d,e,f,g,h,i⟩=>if(!a)=true then(cn (some (b,c,d,e,f,g,h,i,x,m,n))) else(abG (o,l,k,aZ (j+1),b,c,d,e,f,g,h,i,x,m,n))) else none) else(abG (o,l,k,aZ (j+1),p,q,r,s,t,u,v,w,x,m,n))) else(abG (o,l,k,aZ (j+1),p,q,r,s,t,u,v,w,x,m,n))) else none) else none) else(some (.brk (p,q,r,s,t,u,v,w,x,m,n)))
def Bq(l_:Nat)(Y_:fa×YC×Nat×Nat×Int×Nat×fa×Nat×Bool×Unit→Ug)(a0:Nat)(a1:YC)(a2:Nat)(a3:Nat)(a4:Int)(a5:Nat)(a6:fa)(a7:Nat)(a8:Bool)(a9:Zk)(a10:ib)(a11:Int):Option ZO:=
 aG (U:=ZO) (qm l_ Y_ (Int.toNat (List.length a9:Int)+1) (a0,a9,(List.length a9:Int),0,a1,a2,a3,a4,a5,a6,a7,a8,a9,a10,a11)) fun⟨a,b,c,d,e,f,g,h,i,j,k⟩=>some (a,b,c,d,e,f,g,h,i,j,k)
def Oy:SS:=⟨30,70,[],[(0,.lp),(1,.tv (.int .i64) vI),(2,.tv aP (.val aP)),(3,.tv .bool vB),(4,.var (.slice 64 aP) (.val (.slice 64 aP))),(5,bV bu),(6,bI)],[]⟩
def V0:SS:=⟨30,70,[(0,.vw),tP 2 5,tP 3 6,(7,.val (.slice 64 aP)),tI 8,tI 9],[(0,.lp),(1,.tv (.int .i64) vI),(2,.tv aP (.val aP)),(3,.tv .bool vB),(4,.var (.slice 64 aP) (.val (.slice 64 aP))),(5,bV bu),(6,bI)],[]⟩
def Br:IC:=⟨[.val aP],[(0,.lp),(1,.tv (.int .i64) vI),(2,.tv aP (.val aP)),(3,.tv .bool vB)],90,0,[(1,.tv (.int .i64) vI),(2,.tv aP (.val aP)),(3,.tv .bool vB)],fun l f=>aF G [] 68 [.vw,pP 4,pP 5,pP 6] [(0,.lp),(1,.tv (.int .i64) vI),(2,.tv aP (.val aP)),(3,.tv .bool vB),(4,.var (.slice 64 aP) (.val (.slice 64 aP))),(5,bV bu),(6,bI)] 70 Oy [0,1,2,3,4,5,6] (.bH (Ko (Bq l f)))⟩
theorem LX:Br.holds Tryz.prog gl:=fun B hB l f hY=>
 aW.of tied (H:=⟨[hE 3 [cB 0 [(0,0),(1,1),(2,2),(3,3)] []]],[],[(0,Oy)],[(1,⟨V0,fun u2=>Int.toNat u2.2.2.1+1⟩)],[],[]⟩) (hold (l:=[IC.Y Br l f]) ⟨hY,trivial⟩) aJ rfl Tryz.call68 Tryz.func68 rfl rfl rfl rfl (fun _=>by kernel_rfl) (fun _=>by kernel_rfl)
def xP(y_:YC)(b5_0:fa)(yt:YC)(yj:Nat)(g1:Nat)(c5_0:Int)(g2:Nat)(c5_1:fa)(g3:Nat)(c5_2:Bool):Ug:=
 DZ yt y_ (if yj=0 then(if g1=y_.gs 1 then(if g2=y_.gs 2 then(if g3=y_.gs 3 then(Option.bind (α:=Nat×Nat×Int×Nat×fa×Nat×Bool) (Option.bind (α:=Bool) (if(decide (b5_0.2.2.1.1≤c5_0))=true then(if(decide (c5_0<b5_0.2.2.1.2.1))=true then(if(!c5_2)=true then(some true) else(Option.bind (f42 c5_1 b5_0) fun y3=>some (decide (y3≤(0:Int))))) else(some false)) else(some false)) fun v4=>if v4=true then(some (0,y_.gs 1,c5_0,y_.gs 2,b5_0,y_.gs 3,true)) else(some (0,y_.gs 1,c5_0,y_.gs 2,c5_1,y_.gs 3,c5_2))) fun r_=>if r_.2.1=y_.gs 1 then(if r_.2.2.2.1=y_.gs 2 then(if r_.2.2.2.2.2.1=y_.gs 3 then(some (Nat.beq r_.1 0,y_,r_.1,r_.2.1,r_.2.2.1,r_.2.2.2.1,r_.2.2.2.2.1,r_.2.2.2.2.2.1,r_.2.2.2.2.2.2)) else none) else none) else none) else none) else none) else none) else none)
def f53(a0:Zk)(a1:ib)(a2:Int)(a3:Int):Option (Int×Bool):=
 aG (U:=fa×Bool) (Option.bind (ue a0 a1 a3) fun⟨a,b,c⟩=>sJ fun y5=>Option.bind (Bq y5.l (fun d=>xP y5 d.1 d.2.1 d.2.2.1 d.2.2.2.1 d.2.2.2.2.1 d.2.2.2.2.2.1 d.2.2.2.2.2.2.1 d.2.2.2.2.2.2.2.1 d.2.2.2.2.2.2.2.2.1) y5.l y5 0 (y5.gs 1) a2 (y5.gs 2) ((0,0,0,()),0,(0,0,()),0,0,()) (y5.gs 3) false a b c) fun⟨e,f,_,_,_,g,_,h,_,_,_⟩=>DZ e y5 (if f=0 then(some (.brk (g,h))) else none)) fun⟨j,i⟩=>Option.bind (α:=Bool) (if(!i)=true then(some true) else(some (decide (j.2.1<(0:Int))))) fun v7=>if v7=true then(some (0,false)) else(some (j.2.1,true))
def V1:SS:=⟨50,90,[tP 10 26,tP 11 27],[(26,bV aP),(27,.var .bool vB),(68,.sS)],[.mp 68]⟩
def V2:SS:=⟨50,90,[tP 6 22,tI 8,(9,vB),tP 10 26,tP 11 27,(16,.func 68 .nil (.cons (pP 32) (.cons (pP 66) (.cons (pP 67) .nil))))],[(22,bI),(26,bV aP),(27,.var .bool vB),(32,.var (.slice 64 aP) (.val (.slice 64 aP))),(66,bV bu),(67,bI)],[]⟩
def V3:SS:=⟨50,90,[],[(1,bI),(2,bV aP),(3,.var .bool vB)],[]⟩
def Oz:SS:=⟨50,90,[tI 8,(9,vB)],[],[]⟩
def c53:aW:=aF G [.tmp 8,.tmp 9] 53 [.val (.slice 64 aP),.val bu,vI,vI] [] 90 Oz [] (.bH (u4 f53))
theorem x53:hS c53:=
 cO ⟨[hE 3 [cB 0 [] [(19,32),(20,66),(21,67)]],hD 5 39 [cA 1],hD 7 47 []],[(7,V1)],[],[],[],[(5,⟨0,68,69,[(1,.int .i64),(2,aP),(3,.bool)],[(22,1),(26,2),(27,3)],[],[(0,69),(1,22),(2,26),(3,27),(4,32),(5,66),(6,67)],[],V2,V3⟩)]⟩ (hq F4 (hq XL hz)) (uQ (L:=[Br]) ⟨LX,trivial⟩) Tryz.call53 Tryz.func53
end Go.Proofs.YtgdcjlldafmomaaGreat
