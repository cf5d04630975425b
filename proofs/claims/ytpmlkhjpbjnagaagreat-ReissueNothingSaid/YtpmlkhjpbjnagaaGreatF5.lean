/- part -/
import Derived.Test.YtpmlkhjpbjnagaaGreatUO
noncomputable section
namespace Go.Proofs.YtpmlkhjpbjnagaaGreat
open Go.Ax
def Be(a0:cM):Option (Zg×Bool×Int):=
 Option.bind (LK a0) fun⟨a,b⟩=>if(!decide (a=(0:Int)))=true then(some (([]:Zg),false,a)) else(Option.bind (Al b) fun y2=>Option.bind (qO y2) fun y3=>if(decide ((y3.length:Int)<b.1))=true then(some (([]:Zg),false,0)) else(some (y3,true,0)))
def aaV:SS:=⟨23,63,[(2,.val (.slice 8 qr)),(3,vB),tI 4],[],[]⟩
def aaW:aX:=aE G [.tmp 2,.tmp 3,.tmp 4] 104 [.val iI] [] 63 aaV [] (.bH (u1 Be))
theorem SE:hS aaW:=
 cO (hR [hA 1 0,(4,⟨[],[(2,15,.aS .func)],[⟨[1],[],[(17,31)],[],[]⟩,⟨[2],[],[],[],[]⟩],none,[],[],[]⟩)]) (hq agO (hq PY (hq LV hz))) aJ Tryz.call104 Tryz.func104
def MP(a0:cM):ZW:=
 Option.bind (LJ a0) fun y1=>if(!decide (y1=(0:Int)))=true then(some y1) else(Option.bind (Be a0) fun⟨_,b,a⟩=>if(!decide (a=(0:Int)))=true then(some a) else(if(!b)=true then(some (141:Int)) else(some (0:Int))))
def aaX:SS:=⟨22,62,[tI 2],[],[]⟩
def aaY:aX:=aE G [.tmp 2] 139 [.val iI] [] 62 aaX [] (.bH (u1 MP))
theorem aaZ:hS aaY:=
 cO (hR [hA 1 0,hA 4 1]) (hq X7 (hq SE hz)) aJ Tryz.call139 Tryz.func139
def oI:Nat→Zg×Int×Zg×Int×Int×Zu→Option (cH (Zg×Int×Zu) (Bool×Zu)):=aK fun am3 ⟨e,f,c,b,a,d⟩=>if(decide (a<b))=true then(if 0≤a then(if a<(c.length:Int) then(if(aQ qr .bool (nth qr c a) d)=true then(cw (some (false,d))) else(if d.length+1≤aG then(am3 (e,f,c,b,aZ (a+1),bC qr (nth qr c a) true d)) else none)) else none) else none) else(some (.bA (e,f,d)))
def yE(a0:Zg)(a1:Int)(a2:Zu):Option (Bool×Zu):=
 aH (U:=Zg×Int×Zu) (oI (Int.toNat (a0.length:Int)+1) (a0,a1,a0,(a0.length:Int),0,a2)) fun⟨a,b,c⟩=>some (decide ((a.length:Int)=b),c)
def aa0:SS:=⟨25,65,[(1,.val (.slice 8 qr)),tI 2],[(0,.map qr .bool)],[]⟩
def aa1:SS:=⟨25,65,[(0,.mp 0),(1,.val (.slice 8 qr)),tI 2,(9,.val (.slice 8 qr)),tI 10,tI 11],[(0,.map qr .bool)],[]⟩
def aa2:SS:=⟨25,65,[(6,vB)],[(0,.map qr .bool)],[]⟩
def MQ:aX:=aE G [.tmp 6] 140 [.mp 0,.val (.slice 8 qr),vI] [(0,.map qr .bool)] 65 aa2 [0] (.bH (u3 yE))
theorem MR:hS MQ:=
 cO ⟨[],[(8,aa0)],[],[(2,⟨aa1,fun u2=>Int.toNat u2.2.2.2.1+1⟩)],[],[]⟩ hz aJ Tryz.call140 Tryz.func140
def MT(a0:cM):ZW:=
 Option.bind (MP a0) fun y1=>if(!decide (y1=(0:Int)))=true then(some y1) else(Option.bind (Be a0) fun⟨c,b,a⟩=>if(!decide (a=(0:Int)))=true then(some a) else(if(!b)=true then(some (141:Int)) else(Option.bind (yE c (List.length a0.2.2.1:Int) ([]:Zu)) fun⟨d,_⟩=>if(!d)=true then(some (141:Int)) else(some (0:Int)))))
def aa3:SS:=⟨31,71,[tI 2],[],[]⟩
def aa4:aX:=aE G [.tmp 2] 102 [.val iI] [] 71 aa3 [] (.bH (u1 MT))
theorem aa5:hS aa4:=
 cO (hR [hA 1 0,hA 4 1,hE 7 [cB 2 [(0,39)] []]]) (hq aaZ (hq SE (hq MR hz))) aJ Tryz.call102 Tryz.func102
def Hc(a0:cM)(a1:Int)(a2:Int)(a3:Int):Zo:=
 Option.bind (Ad (a0,()) a1 a2) fun⟨a,b⟩=>Option.bind (α:=Bool) (if a=true then(Option.bind (ni (a0,()) b) fun y2=>if y2=true then(if(decide (b.2.1≤a3))=true then(some (decide (a3≤b.2.2.1))) else(some false)) else(some false)) else(some false)) fun v3=>some v3
def aa6:SS:=⟨38,78,[(8,vB)],[],[]⟩
def aa7:aX:=aE G [.tmp 8] 122 [.val iI,vI,vI,vI] [] 78 aa6 [] (.bH (u4 Hc))
theorem WA:hS aa7:=
 cO (hR [hA 2 0,hD 3 8 [cA 1]]) (hq LB (hq Uh hz)) aJ Tryz.call122 Tryz.func122
def nr:Nat→Int×ZL×ZL×Int×Int×cM→Option (cH ZL Bool):=aK fun anz ⟨e,f,c,b,a,d⟩=>if(decide (a<b))=true then(if 0≤a then(if a<(c.length:Int) then(Option.bind (Hc d e a (nth ck c a).2.1.2.1) fun y6=>if(!y6)=true then(cw (some false)) else(anz (e,f,c,b,aZ (a+1),d))) else none) else none) else(some (.bA f))
def I4(a0:cM)(a1:Int):Zo:=
 aH (U:=Int×cM) (Option.bind (α:=Bool) (if(decide (a1<(0:Int)))=true then(some true) else(some (decide ((List.length a0.2.2.1:Int)≤a1)))) fun v2=>if v2=true then(cw (some false)) else(some (.bA (a1,a0)))) fun⟨a,b⟩=>if 0≤a then(if a<(List.length b.2.2.1:Int) then(aH (U:=ZL) (nr (Int.toNat (List.length (nth bR b.2.2.1 a).2.2.2.2.1:Int)+1) (a,(nth bR b.2.2.1 a).2.2.2.2.1,(nth bR b.2.2.1 a).2.2.2.2.1,(List.length (nth bR b.2.2.1 a).2.2.2.2.1:Int),0,b)) fun v3=>Option.bind (α:=Bool) (if(decide ((0:Int)<(v3.length:Int)))=true then(if(0:Int)<(v3.length:Int) then(some (decide ((nth ck v3 (0:Int)).2.1.1=(3:Int)))) else none) else(some false)) fun v7=>some v7) else none) else none
def aa8:SS:=⟨50,90,[tI 1,tP 2 18],[(18,bV iI)],[]⟩
def aa9:SS:=⟨50,90,[(5,.val (.slice 120 ck))],[],[]⟩
def aba:SS:=⟨50,90,[tI 1,tP 2 18,(5,.val (.slice 120 ck)),(23,.val (.slice 120 ck)),tI 24,tI 25],[(18,bV iI)],[]⟩
def abb:SS:=⟨50,90,[(4,vB)],[],[]⟩
def abc:aX:=aE G [.tmp 4] 197 [.val iI,vI] [] 90 abb [] (.bH (u2 I4))
theorem abd:hS abc:=
 cO ⟨[hD 1 16 [],hA 7 0,hD 10 4 []],[(3,aa8),(10,aa9)],[],[(5,⟨aba,fun u4=>Int.toNat u4.2.2.2.1+1⟩)],[],[]⟩ (hq WA hz) aJ Tryz.call197 Tryz.func197
def I5(a0:dT)(a1:dT)(a2:Int):Zo:=
 if(!decide (a0.1=a1.1))=true then(some false) else(aH (U:=Int×dT×dT) (Option.bind (α:=Bool) (if(decide (a0.1=(1:Int)))=true then(some true) else(some (decide (a0.1=(2:Int))))) fun v2=>if v2=true then(Option.bind (α:=Bool) (if(decide (a1.2.1=(aZ (a0.2.1+a2))))=true then(if(decide (a1.2.2.1=(aZ (a0.2.2.1+a2))))=true then(some (decide (a0.2.2.2.2.1=a1.2.2.2.2.1))) else(some false)) else(some false)) fun v3=>cw (some v3)) else(some (.bA (a2,a0,a1)))) fun⟨a,b,c⟩=>Option.bind (α:=Bool) (if(decide (a=(0:Int)))=true then(if(decide (b.2.1=c.2.1))=true then(if(decide (b.2.2.1=c.2.2.1))=true then(some (decide ((List.length b.2.2.2.2.2.1:Int)=(List.length c.2.2.2.2.2.1:Int)))) else(some false)) else(some false)) else(some false)) fun v4=>some v4)
def abe:SS:=⟨68,108,[tI 2,tP 3 19,tP 4 20],[(19,bV fO),(20,bV fO)],[]⟩
def abf:SS:=⟨68,108,[(6,vB)],[],[]⟩
def abg:aX:=aE G [.tmp 6] 198 [.val fO,.val fO,vI] [] 108 abf [] (.bH (u3 I5))
theorem abh:hS abg:=
 cO ⟨[hD 3 19 [],hD 4 6 [],hD 5 6 []],[(5,abe)],[],[],[],[]⟩ hz aJ Tryz.call198 Tryz.func198
def py:Nat→ZL×ZL×Zz×Int×Int×List Bool×List Bool→Zy:=aK fun rec9 ⟨l,m,k,j,i,n,o⟩=>if(decide (i<j))=true then(if 0≤i then(if i<(k.length:Int) then(aH (U:=ZL×ZL×Zz×Int×Int×gQ×List Bool×List Bool) (Option.bind (α:=Bool) (if(decide ((nth aT k i).2.2.2.1<(1:Int)))=true then(some true) else(if(decide ((l.length:Int)≤(nth aT k i).2.2.2.1))=true then(some true) else(if(decide ((nth aT k i).2.2.1<(1:Int)))=true then(some true) else(if(decide ((m.length:Int)≤(nth aT k i).2.2.1))=true then(some true) else(if 0≤(nth aT k i).2.2.2.1 then(if(nth aT k i).2.2.2.1<(n.length:Int) then(if(nth .bool n (nth aT k i).2.2.2.1)=true then(some true) else(if 0≤(nth aT k i).2.2.1 then(if(nth aT k i).2.2.1<(o.length:Int) then(some (nth .bool o (nth aT k i).2.2.1)) else none) else none)) else none) else none))))) fun v11=>if v11=true then(cw (cw (some false))) else(some (.bA (l,m,k,j,i,nth aT k i,n,o)))) fun⟨d,e,f,g,h,a,b,c⟩=>if 0≤a.2.2.2.1 then(if a.2.2.2.1<(b.length:Int) then(if 0≤a.2.2.1 then(if a.2.2.1<(c.length:Int) then(if 0≤a.2.2.2.1 then(if a.2.2.2.1<(d.length:Int) then(if 0≤a.2.2.1 then(if a.2.2.1<(e.length:Int) then(Option.bind (I5 (nth ck d a.2.2.2.1).2.1 (nth ck e a.2.2.1).2.1 a.2.2.2.2.1) fun y12=>if(!y12)=true then(cw (some false)) else(rec9 (d,e,f,g,aZ (h+1),List.set b (Int.toNat a.2.2.2.1) true,List.set c (Int.toNat a.2.2.1) true))) else none) else none) else none) else none) else none) else none) else none) else none) else none) else none) else(some (.bA ()))
def MU(a0:cM)(a1:rW):Zo:=
 aH (U:=cM×rW) (Option.bind (α:=Bool) (if(decide (a1.2.2.1=a1.2.2.2.1))=true then(some true) else(Option.bind (I4 a0 a1.2.2.1) fun y2=>if(!y2)=true then(some true) else(Option.bind (I4 a0 a1.2.2.2.1) fun y3=>some (!y3)))) fun v4=>if v4=true then(cw (some false)) else(some (.bA (a0,a1)))) fun⟨b,a⟩=>if 0≤a.2.2.1 then(if a.2.2.1<(List.length b.2.2.1:Int) then(if 0≤a.2.2.2.1 then(if a.2.2.2.1<(List.length b.2.2.1:Int) then(aH (U:=ZL×ZL×rW) (Option.bind (α:=Bool) (if(!decide ((List.length a.2.2.2.2.1:Int)=(aZ ((List.length (nth bR b.2.2.1 a.2.2.1).2.2.2.2.1:Int) -(1:Int)))))=true then(some true) else(some (!decide ((List.length a.2.2.2.2.1:Int)=(aZ ((List.length (nth bR b.2.2.1 a.2.2.2.1).2.2.2.2.1:Int) -(1:Int))))))) fun v6=>if v6=true then(cw (some false)) else(some (.bA ((nth bR b.2.2.1 a.2.2.1).2.2.2.2.1,(nth bR b.2.2.1 a.2.2.2.1).2.2.2.2.1,a)))) fun⟨c,d,e⟩=>if 0≤(c.length:Int) then(if(c.length:Int)≤(c.length:Int) then(if(c.length:Int)*(1:Int)≤(aG:Int) then(if 0≤(d.length:Int) then(if(d.length:Int)≤(d.length:Int) then(if(d.length:Int)*(1:Int)≤(aG:Int) then(aH (U:=Unit) (py (Int.toNat (List.length e.2.2.2.2.1:Int)+1) (c,d,e.2.2.2.2.1,(List.length e.2.2.2.2.1:Int),0,List.replicate (Int.toNat (c.length:Int)) false,List.replicate (Int.toNat (d.length:Int)) false)) fun _=>some true) else none) else none) else none) else none) else none) else none) else none) else none) else none) else none
def abi:SS:=⟨134,174,[tP 2 18,tP 3 19],[(18,bV iI),(19,bV gA)],[]⟩
def abj:SS:=⟨134,174,[tP 3 19,(5,.val (.slice 120 ck)),(6,.val (.slice 120 ck))],[(19,bV gA)],[]⟩
def abk:SS:=⟨134,174,[(5,.val (.slice 120 ck)),(6,.val (.slice 120 ck)),(7,.own 78),(8,.own 81),tP 10 26,(67,.val (.slice 56 aT)),tI 68,tI 69],[(26,bV aT),(78,.row 4 1 .bool),(81,.row 4 1 .bool)],[]⟩
def abl:SS:=⟨134,174,[],[],[]⟩
def abm:SS:=⟨134,174,[(5,.val (.slice 120 ck)),(6,.val (.slice 120 ck)),(7,.own 78),(8,.own 81),(67,.val (.slice 56 aT)),tI 68,tI 69],[(78,.row 4 1 .bool),(81,.row 4 1 .bool)],[]⟩
def abn:SS:=⟨134,174,[(4,vB)],[],[]⟩
def abo:aX:=aE G [.tmp 4] 141 [.val iI,.val gA] [] 174 abn [] (.bH (u2 MU))
theorem abp:hS abo:=
 cO ⟨[hD 1 29 [cA 0,cA 0],hD 4 59 [],hD 10 108 [],hA 13 1],[(3,abi),(6,abj),(12,abk),(16,abl)],[],[(8,⟨abm,fun u8=>Int.toNat u8.2.2.2.1+1⟩)],[],[]⟩ (hq abd (hq abh hz)) aJ Tryz.call141 Tryz.func141
def yF:Nat→ZN×Int×Int×cM→Option (cH Unit Int):=aK fun am3 ⟨c,b,a,d⟩=>if(decide (a<b))=true then(if 0≤a then(if a<(c.length:Int) then(Option.bind (MU d (nth gA c a)) fun y4=>if(!y4)=true then(cw (some (150:Int))) else(am3 (c,b,aZ (a+1),d))) else none) else none) else(some (.bA ()))
def SF(a0:cM):ZW:=
 aH (U:=Unit) (yF (Int.toNat (List.length a0.2.2.2.2.1:Int)+1) (a0.2.2.2.2.1,(List.length a0.2.2.2.2.1:Int),0,a0)) fun _=>some (0:Int)
def abq:SS:=⟨17,57,[],[],[]⟩
def abr:SS:=⟨17,57,[tP 1 17,(6,.val (.slice 72 gA)),tI 7,tI 8],[(17,bV iI)],[]⟩
def abt:SS:=⟨17,57,[tI 2],[],[]⟩
def abu:aX:=aE G [.tmp 2] 103 [.val iI] [] 57 abt [] (.bH (u1 SF))
theorem abv:hS abu:=
 cO ⟨[hA 4 0],[(7,abq)],[],[(2,⟨abr,fun u2=>Int.toNat u2.2.1+1⟩)],[],[]⟩ (hq abp hz) aJ Tryz.call103 Tryz.func103
def f66(a0:cM):Option (Int×Ba):=
 aH (U:=cM) (Option.bind (f99 a0) fun y2=>if(!decide (y2=(0:Int)))=true then(cw (some (y2,(([]:ZQ),([]:Zz),([]:ZK),([]:Zq),([]:ZN),([]:ZI),()),([]:Zg),()))) else(Option.bind (LJ a0) fun y3=>if(!decide (y3=(0:Int)))=true then(cw (some (y3,(([]:ZQ),([]:Zz),([]:ZK),([]:Zq),([]:ZN),([]:ZI),()),([]:Zg),()))) else(Option.bind (Uk a0) fun y4=>if(!decide (y4=(0:Int)))=true then(cw (some (y4,(([]:ZQ),([]:Zz),([]:ZK),([]:Zq),([]:ZN),([]:ZI),()),([]:Zg),()))) else(Option.bind (MT a0) fun y5=>if(!decide (y5=(0:Int)))=true then(cw (some (y5,(([]:ZQ),([]:Zz),([]:ZK),([]:Zq),([]:ZN),([]:ZI),()),([]:Zg),()))) else(Option.bind (SF a0) fun y6=>if(!decide (y6=(0:Int)))=true then(cw (some (y6,(([]:ZQ),([]:Zz),([]:ZK),([]:Zq),([]:ZN),([]:ZI),()),([]:Zg),()))) else(some (.bA a0))))))) fun v1=>Option.bind (Be v1) fun⟨b,_,a⟩=>if(!decide (a=(0:Int)))=true then(some (a,(([]:ZQ),([]:Zz),([]:ZK),([]:Zq),([]:ZN),([]:ZI),()),([]:Zg),())) else(some (0,v1,b,()))
def abw:SS:=⟨36,76,[tP 1 17,tP 2 18],[(17,bV iI),(18,.var EF (.cons (.cons .bF (.cons .bF (.cons .bF (.cons .bF (.cons .bF (.cons .bF .nil)))))) (.cons .bF .nil)))],[]⟩
def abx:SS:=⟨36,76,[tP 2 18,tI 3],[(18,bV EF)],[]⟩
def c66:aX:=aE G [.cell 2 32,.tmp 3] 66 [.val iI] [] 76 abx [] (.bH (u1 f66))
theorem x66:hS c66:=
 cO ⟨[hE 5 [⟨[4,3,2,1,0],[],[],[],[]⟩],hA 9 5],[(9,abw)],[],[],[(3,12)],[]⟩ (hq x99 (hq X7 (hq agH (hq aa5 (hq abv (hq SE hz)))))) aJ Tryz.call66 Tryz.func66
def f67(a0:Ba)(a1:Ba):Zo:=
 Option.bind (α:=Bool) (Option.bind (Ly a0.1 a1.1) fun y1=>if y1=true then(Option.bind (MH a0.2.1 a1.2.1) fun y2=>some y2) else(some false)) fun v3=>some v3
def abz:SS:=⟨17,57,[(4,vB)],[],[]⟩
def c67:aX:=aE G [.tmp 4] 67 [.val EF,.val EF] [] 57 abz [] (.bH (u2 f67))
theorem x67:hS c67:=
 cO (hR [hD 1 4 [cA 0,cA 1]]) (hq XZ (hq x73 hz)) aJ Tryz.call67 Tryz.func67
def C3(a0:Ba):ZW:=
 Option.bind (f66 a0.1) fun⟨a,b⟩=>Option.bind (α:=Bool) (if(!decide (a=(0:Int)))=true then(some true) else(Option.bind (f67 b a0) fun y2=>some (!y2))) fun v3=>if v3=true then(some (160:Int)) else(some (0:Int))
def WC:SS:=⟨18,58,[tI 2],[],[]⟩
def c44:aX:=aE G [.tmp 2] 44 [.val EF] [] 58 WC [] (.bH (u1 C3))
theorem x44:hS c44:=
 cO (hR [hA 1 0,hD 2 17 [cA 1]]) (hq x66 (hq x67 hz)) aJ Tryz.call44 Tryz.func44
def I6:Nat→Int×Zg×Int×Int×Ba→Option (cH Ba Bool):=aK fun anz ⟨d,c,b,a,e⟩=>if(decide (a<b))=true then(if 0≤a then(if a<(c.length:Int) then(Option.bind (α:=Bool) (if(decide ((nth qr c a)≤d))=true then(some true) else(some (decide ((4096:Int)≤(nth qr c a))))) fun v6=>if v6=true then(cw (some false)) else(anz (nth qr c a,c,b,aZ (a+1),e))) else none) else none) else(some (.bA e))
def Wi(a0:Ba)(a1:Zg)(a2:Int):Zo:=
 aH (U:=Zg×Ba) (Option.bind (α:=Bool) (if(decide ((a1.length:Int)<(1:Int)))=true then(some true) else(if(decide ((64:Int)<(a1.length:Int)))=true then(some true) else(if(decide (a2<(0:Int)))=true then(some true) else(some (decide ((1024:Int)≤a2)))))) fun v2=>if v2=true then(cw (some false)) else(some (.bA (a1,a0)))) fun⟨a,b⟩=>aH (U:=Ba) (I6 (Int.toNat (a.length:Int)+1) ((-1:Int),a,(a.length:Int),0,b)) fun v3=>Option.bind (C3 v3) fun y7=>some (decide (y7=(0:Int)))
def abA:SS:=⟨44,84,[(1,.val (.slice 8 qr)),tP 3 19],[(19,bV EF)],[]⟩
def abB:SS:=⟨44,84,[tP 3 19],[(19,bV EF)],[]⟩
def abC:SS:=⟨44,84,[tP 3 19,tI 7,(26,.val (.slice 8 qr)),tI 27,tI 28],[(19,bV EF)],[]⟩
def abD:SS:=⟨44,84,[(6,vB)],[],[]⟩
def c50:aX:=aE G [.tmp 6] 50 [.val EF,.val (.slice 8 qr),vI] [] 84 abD [] (.bH (u3 Wi))
theorem x50:hS c50:=
 cO ⟨[hD 1 25 [],hD 7 38 [],hA 11 0],[(3,abA),(11,abB)],[],[(5,⟨abC,fun u4=>Int.toNat u4.2.2.1+1⟩)],[],[]⟩ (hq x44 hz) aJ Tryz.call50 Tryz.func50
def I7(a0:Int)(a1:Int)(a2:YQ):Option (YQ×Zr):=
 some (a2,a2.1,a2.2.1,a0,a1,a2.2.2.2.2.1,a2.2.2.2.2.2.1,a2.2.2.2.2.2.2.2.2.2,([]:Zf),([]:Ze),([]:Zi))
def abE:SS:=⟨20,60,[tP 6 23],[(0,bV oe),(23,fB 32 33 36),(32,.map aF dZ),(33,.map aM .bool),(36,.row 110 40 aM)],[]⟩
def SG:aX:=aE G [.tmp 6] 53 [pP 0,vI,vI] [(0,bV oe)] 60 abE [0,23,32,33,36] (.bH (u3 I7))
theorem SH:hS SG:=
 cO (hR [(3,⟨[.rA 23 [.cV 8] 36 110 40 aM],[],[],none,[],[],[]⟩)]) hz aJ Tryz.call53 Tryz.func53
def xq:Nat→Int×Int×Zn×Int×Int×bL×Ww→Option (cH (Int×Int×bL×Ww) Zr):=aK fun am3 ⟨e,f,c,b,a,g,d,h,i,j,k,l⟩=>if(decide (a<b))=true then(if 0≤a then(if a<(c.length:Int) then(if bD aF (nth aW c a).1 (nth aW c a).1=true then(if d.length+1≤aG then(if(List.length (aQ aF (.slice 64 aW) (nth aW c a).1 d)+List.length [nth aW c a])*64≤aG then(am3 (e,f,c,b,aZ (a+1),g,bC aF (nth aW c a).1 ((aQ aF (.slice 64 aW) (nth aW c a).1 d)++[nth aW c a]) (bC aF (nth aW c a).1 (Ty.aD (.slice 64 aW)) d),h,i,j,k,l)) else none) else none) else none) else none) else none) else(some (.bA (e,f,g,d,h,i,j,k,l)))
def xr:Nat→Int×Int×Zq×Int×Int×Ww→Option (cH (Int×Int×Ww) Zr):=aK fun anC ⟨e,f,c,b,a,g,d,h,i,j,k⟩=>if(decide (a<b))=true then(if 0≤a then(if a<(c.length:Int) then(if d.length+1≤aG then(anC (e,f,c,b,aZ (a+1),g,bC qr (nth bZ c a).2.1 true d,h,i,j,k)) else none) else none) else none) else(some (.bA (e,f,g,d,h,i,j,k)))
def qT(a0:bL)(a1:Int)(a2:Int)(a3:Bool):Option Zr:=
 aH (U:=Int×Int×bL×Ww) (xq (Int.toNat (List.length a0.2.1:Int)+1) (a1,a2,a0.2.1,(List.length a0.2.1:Int),0,a0,([]:ZS),([]:Zu),a0,0,0,a3)) fun⟨b,c,a,d,e,f,g,h,i⟩=>aH (U:=Int×Int×Ww) (xr (Int.toNat (List.length a.1.1.2.2.2.1:Int)+1) (b,c,a.1.1.2.2.2.1,(List.length a.1.1.2.2.2.1:Int),0,d,e,f,g,h,i)) fun⟨j,k,m,q,l,n,o,p⟩=>Option.bind (I7 j k (l,some m,n,o,p,some q,(none:Option Zf),(none:Option Ze),([]:Zi),())) fun⟨_,r,s,t,u,v,w,x,y,z,aa⟩=>some (r,s,t,u,v,w,x,y,z,aa)
def WD:List (Nat×dj):=[(20,bV fX),(31,.pmap aF (.slice 64 aW) 139),(33,.map qr .bool),(35,.var oe (.cons (.val fX) (.cons (.mp 31) (.cons vI (.cons vI (.cons vB (.cons (.mp 33) (.cons .eA (.cons .eA (.cons .bF .nil))))))))))]
def abF:SS:=⟨60,100,[tI 1,tI 2,tP 4 20,tP 9 35],WD,[]⟩
def WE:List (Nat×dj):=[(31,.map aF (.slice 64 aW)),(33,.map qr .bool),(35,.var oe (.cons (.val fX) (.cons (.mp 31) (.cons vI (.cons vI (.cons vB (.cons (.mp 33) (.cons .eA (.cons .eA (.cons .bF .nil))))))))))]
def abG:SS:=⟨60,100,[tI 1,tI 2,tP 9 35],WE,[]⟩
def abH:SS:=⟨60,100,[tI 1,tI 2,tP 4 20,tP 9 35,(21,.val (.slice 64 aW)),tI 22,tI 23],WD,[]⟩
def abI:SS:=⟨60,100,[tI 1,tI 2,tP 9 35,(43,.val (.slice 96 bZ)),tI 44,tI 45],WE,[]⟩
def abJ:SS:=⟨60,100,[tP 8 75],[(75,fB 76 77 78),(76,.map aF dZ),(77,.map aM .bool),(78,.row 110 40 aM)],[]⟩
def SI:aX:=aE G [.tmp 8] 43 [.val fX,vI,vI,vB] [] 100 abJ [75,76,77,78] (.bH (u4 qT))
theorem I8:hS SI:=
 cO ⟨[(2,⟨[.Kc 31 139],[],[],none,[],[],[]⟩),(5,⟨[],[],[],none,[],[.map 2 31 76 (.c 11 [.cV 0]),.eK 31],[.tQ 31,.lT 31]⟩),(7,⟨[.IV 31],[],[],none,[],[],[]⟩),(12,⟨[.freeze 31 (.map aF (.slice 64 aW)),.freeze 33 (.map qr .bool),.DC 35],[],[⟨[0],[(0,35)],[(23,75),(32,76),(33,77),(36,78)],[],[]⟩],none,[],[],[]⟩)],[(7,abF),(12,abG)],[],[(3,⟨abH,fun u2=>Int.toNat u2.2.2.2.1+1⟩),(8,⟨abI,fun u5=>Int.toNat u5.2.2.2.1+1⟩)],[],[]⟩ (hq SH hz) aJ Tryz.call43 Tryz.func43
def C4(a0:Int)(a1:Int)(a2:bL)(a3:Zc)(a4:Int)(a5:Int)(a6:Bool)(a7:Zd)(a8:Unit)(a9:Zf)(a10:Ze)(a11:Zi):Option (bL×Zc×Int×Int×Bool×Zd×Unit×Zf×Ze×Zi×Zr):=
 some (a2,a3,a4,a5,a6,a7,a8,a9,a10,a11,a2,a3,a0,a1,a6,a7,a8,([]:Zf),([]:Ze),([]:Zi))
def abK:SS:=⟨20,60,[tP 6 23],[(0,fB 1 2 3),(1,.map aF dZ),(2,.map aM .bool),(3,.row 110 40 aM),(23,fB 32 33 36),(32,.map aF dZ),(33,.map aM .bool),(36,.row 110 40 aM)],[]⟩
def Hd:List (Nat×dj):=[(0,fB 1 2 3),(1,.map aF dZ),(2,.map aM .bool),(3,.row 110 40 aM)]
def SK:aX:=aE G [.tmp 6] 53 [pP 0,vI,vI] Hd 60 abK [0,1,2,3,23,32,33,36] (.bH (LR C4))
theorem SL:hS SK:=
 cO (hR [(3,⟨[.rA 23 [.cV 8] 36 110 40 aM],[],[],none,[],[],[]⟩)]) hz aJ Tryz.call53 Tryz.func53
def um(a0:Int)(a1:Int)(a2:bL)(a3:Zc)(a4:Int)(a5:Int)(a6:Bool)(a7:Zd)(a8:Unit)(a9:Zf)(a10:Ze)(a11:Zi):Option (Bool×Zr):=
 Option.bind (α:=Bool) (if a6=true then(if(aQ qr .bool a0 (bE a7))=true then(if(decide ((0:Int)≤a1))=true then(if(decide (a1<(4096:Int)))=true then(if(decide ((0:Int)≤a4))=true then(some (decide (a4<(1024:Int)))) else(some false)) else(some false)) else(some false)) else(some false)) else(some false)) fun v1=>some (v1,a2,a3,a4,a5,a6,a7,a8,a9,a10,a11)
def abL:SS:=⟨41,81,[(6,vB)],Hd,[]⟩
def SN:aX:=aE G [.tmp 6] 61 [pP 0,vI,vI] Hd 81 abL [0,1,2,3] (.bH (LR um))
theorem I9:hS SN:=
 cO (hR [hD 1 6 []]) hz aJ Tryz.call61 Tryz.func61
def WG:List (Nat×dj):=[(0,fB 1 2 93),(1,.map aF dZ),(2,.map aM .bool),(20,bV dZ),(93,.row 110 40 aM)]
def C5:SS:=⟨75,115,[tP 4 20],WG,[]⟩
def uq(q:Zl):aX:=aE G [.cell 4 79] 62 [pP 0,.val aF] Hd 115 C5 [0,1,2,93] (.bH q)
def WH:List (Nat×dj):=[(0,.var (.slice 48 bN) (.own 99)),(1,bV bZ),(2,.var (.aS .ptr) (pP 6)),(3,bI),(4,.var (.aS .func) (.func 164 .nil (.cons (pP 0) (.cons (pP 1) (.cons (pP 2) (.cons (pP 3) (.cons (pP 4) .nil))))))),(6,fB 7 8 100),(7,.map aF dZ),(8,.map aM .bool),(99,.row 50 48 bN),(100,.row 110 40 aM)]
def MV:SS:=⟨77,117,[(5,vB)],WH,[]⟩
def WI:List (Nat×dj):=[(0,.var (.slice 48 bN) (.own 5)),(1,bV bZ),(2,.var (.aS .ptr) (pP 6)),(3,bI),(4,.var (.aS .func) (.func 164 .nil (.cons (pP 0) (.cons (pP 1) (.cons (pP 2) (.cons (pP 3) (.cons (pP 4) .nil))))))),(5,.row 50 48 bN),(6,fB 7 8 9),(7,.map aF dZ),(8,.map aM .bool),(9,.row 110 40 aM)]
def pz(q:Zk):aX:=aE G [.tmp 5] 164 [pP 0,pP 1,pP 2,pP 3,pP 4] WI 117 MV [0,1,2,3,4,6,7,8,99,100] (.bH q)
def tB(_q0_:Zl)(q1_:Zk)(a0:dD)(a1:Int)(a2:bL)(a3:Zc)(a4:Int)(a5:Int)(a6:Bool)(a7:Zd)(a8:Unit)(a9:Zf)(a10:Ze)(a11:Zi):Option (Bool×Zw):=
 Option.bind (q1_ (a0,a1,([]:Zm),a2,a3,a4,a5,a6,a7,a8,a9,a10,a11,())) fun⟨a,_,_,b,c,d,e,f,g,h,i,j,l,k⟩=>if(!a)=true then(some (false,b,c,d,e,f,g,h,i,j,([]:Zm),k)) else(some (true,b,c,d,e,f,g,h,i,j,l,k))
def abM:SS:=⟨14,54,[tP 6 22,(7,vB)],[(0,fB 1 2 31),(1,.map aF dZ),(2,.map aM .bool),(22,.var (.slice 48 bN) (.val (.slice 48 bN))),(31,.row 110 40 aM)],[]⟩
def MW(q0_:Zl)(q1_:Zk):aX:=aE G [.cell 6 45,.tmp 7] 115 [pP 0,.val bZ,vI] Hd 54 abM [0,1,2,31] (.bH (LR (tB q0_ q1_)))
theorem MZ(q0_:Zl)(q1_:Zk)(_h0_:hS (uq q0_))(h1_:hS (pz q1_)):hS (MW q0_ q1_):=
 cO (hR [(3,⟨[.rA 22 [] 30 50 48 bN],[],[⟨[0],[(0,22),(1,20),(2,19),(3,21),(4,24),(5,30),(6,0),(7,1),(8,2),(9,3)],[(99,27),(100,31)],[],[]⟩],none,[],[],[]⟩)]) (hq h1_ hz) aJ Tryz.call115 Tryz.func115
def C6(a0:gQ)(a1:Zm):ZW:=
 if(decide (a0.2.2.1=(-1:Int)))=true then(some a0.2.2.2.2.1) else(if 0≤a0.2.2.1 then(if a0.2.2.1<(a1.length:Int) then(if 0≤a0.2.2.2.1 then(if a0.2.2.2.1<(List.length (nth bN a1 a0.2.2.1).2.2.2.1:Int) then(some (nth qr (nth bN a1 a0.2.2.1).2.2.2.1 a0.2.2.2.1)) else none) else none) else none) else none)
def abN:SS:=⟨20,60,[tI 4],[],[]⟩
def abO:aX:=aE G [.tmp 4] 166 [.val aT,.val (.slice 48 bN)] [] 60 abN [] (.bH (u2 C6))
theorem SO:hS abO:=
 cO (hR []) hz aJ Tryz.call166 Tryz.func166
def jy:Nat→Int×Zm×ZG×Int×Zar→Option (cH Zar (bL×Zc×Int×Int×Bool×Zd×Unit×Zf×Ze×Zi×mi)):=aK fun am3 ⟨f,d,c,b,a,g,h,i,j,k,l,m,n,o,p,q,r,s,t,e⟩=>if(decide (a<b))=true then(if 0≤a then(if a<(c.length:Int) then(Option.bind (C6 (nth bJ c a).2.2.1 d) fun y4=>if 0≤(nth bJ c a).2.1 then(if(nth bJ c a).2.1<(e.length:Int) then(am3 (f,d,c,b,aZ (a+1),g,h,i,j,k,l,m,n,o,p,q,r,s,t,List.set e (Int.toNat (nth bJ c a).2.1) y4)) else none) else none) else none) else none) else(some (.bA (f,g,h,i,j,k,l,m,n,o,p,q,r,s,t,e)))
def nu(a0:dD)(a1:Int)(a2:Zm)(a3:bL)(a4:Zc)(a5:Int)(a6:Int)(a7:Bool)(a8:Zd)(a9:Unit)(a10:Zf)(a11:Ze)(a12:Zi):Option (bL×Zc×Int×Int×Bool×Zd×Unit×Zf×Ze×Zi×mi):=
 if 0≤a0.2.1 then(if a0.2.1<(List.length a3.1.1.2.2.1:Int) then(if 0≤(List.length (nth bR a3.1.1.2.2.1 a0.2.1).2.2.2.2.1:Int) then(if(List.length (nth bR a3.1.1.2.2.1 a0.2.1).2.2.2.2.1:Int)≤(List.length (nth bR a3.1.1.2.2.1 a0.2.1).2.2.2.2.1:Int) then(if(List.length (nth bR a3.1.1.2.2.1 a0.2.1).2.2.2.2.1:Int)*(8:Int)≤(aG:Int) then(if(0:Int)<(List.length (List.replicate (Int.toNat (List.length (nth bR a3.1.1.2.2.1 a0.2.1).2.2.2.2.1:Int)) (0:Int)):Int) then(aH (U:=Zar) (jy (Int.toNat (List.length a0.2.2.2.2.1:Int)+1) (a1,a2,a0.2.2.2.2.1,(List.length a0.2.2.2.2.1:Int),0,a3,a4,a5,a6,a7,a8,a9,a10,a11,a12,a0,0,0,0,List.set (List.replicate (Int.toNat (List.length (nth bR a3.1.1.2.2.1 a0.2.1).2.2.2.2.1:Int)) (0:Int)) (Int.toNat (0:Int)) a1)) fun⟨l,a,b,c,d,e,f,g,h,i,j,k,_,_,_,m⟩=>some (a,b,c,d,e,f,g,h,i,j,k.2.1,l,0,m,())) else none) else none) else none) else none) else none) else none
def WJ:List (Nat×dj):=[(0,fB 1 2 3),(1,.map aF dZ),(2,.map aM .bool),(3,.row 110 40 aM),(21,bV bZ),(24,.var bN (.cons vI (.cons vI (.cons vI (.cons .bF .nil))))),(41,.row 3 8 qr)]
def abP:SS:=⟨50,90,[tI 2,tP 5 21,tP 8 24,(9,.own 41)],WJ,[]⟩
def abQ:SS:=⟨50,90,[tI 2,(3,.val (.slice 48 bN)),tP 5 21,tP 8 24,(9,.own 41),(30,.val (.slice 80 bJ)),tI 31,tI 32],WJ,[]⟩
def abR:SS:=⟨50,90,[tP 8 24],[(0,fB 1 2 3),(1,.map aF dZ),(2,.map aM .bool),(3,.row 110 40 aM),(24,bV bN)],[]⟩
def M0:aX:=aE G [.cell 8 50] 116 [pP 0,.val bZ,vI,.val (.slice 48 bN)] Hd 90 abR [0,1,2,3] (.bH (IZ nu))
theorem M5:hS M0:=
 cO ⟨[hA 6 0],[(8,abP)],[],[(4,⟨abQ,fun u2=>Int.toNat u2.2.2.2.1+1⟩)],[],[]⟩ (hq SO hz) aJ Tryz.call116 Tryz.func116
def xu(q0_:Zl)(q1_:Zk):Nat→Zq×Int×Int×bL×Zc×Int×Int×Bool×Zd×Unit×Zf×Ze×cF×Int×Int×Int×Int×Bool×Zi→Option (cH (bL×Zc×Int×Int×Bool×Zd×Unit×Zf×Ze×Int×Int×Int×Int×Bool×Zi) Wy):=aK fun am3 ⟨z,y,x,ab,ac,ad,ae,af,ag,ah,ai,aj,aa,ak,al,am,an,ao,ap⟩=>if(decide (x<y))=true then(if 0≤x then(if x<(z.length:Int) then(if(!decide ((nth bZ z x).2.1=aa.1))=true then(am3 (z,y,aZ (x+1),ab,ac,ad,ae,af,ag,ah,ai,aj,aa,ak,al,am,an,ao,ap)) else(Option.bind (tB q0_ q1_ (nth bZ z x) aa.2.1 ab ac ad ae af ag ah ai aj ap) fun⟨a,c,d,e,f,g,h,i,j,k,b,l⟩=>if a=true then(Option.bind (nu (nth bZ z x) aa.2.1 b c d e f g h i j k l) fun⟨m,n,o,p,q,r,s,t,u,w,v⟩=>cw (some (m,n,o,p,q,r,s,t,u,(v,x,b,true,()),w))) else(am3 (z,y,aZ (x+1),c,d,e,f,g,h,i,j,k,aa,ak,al,am,an,ao,l)))) else none) else none) else(some (.bA (ab,ac,ad,ae,af,ag,ah,ai,aj,ak,al,am,an,ao,ap)))
def ur(q0_:Zl)(q1_:Zk)(a0:cF)(a1:bL)(a2:Zc)(a3:Int)(a4:Int)(a5:Bool)(a6:Zd)(a7:Unit)(a8:Zf)(a9:Ze)(a10:Zi):Option Wy:=
 aH (U:=bL×Zc×Int×Int×Bool×Zd×Unit×Zf×Ze×Int×Int×Int×Int×Bool×Zi) (xu q0_ q1_ (Int.toNat (List.length a1.1.1.2.2.2.1:Int)+1) (a1.1.1.2.2.2.1,(List.length a1.1.1.2.2.2.1:Int),0,a1,a2,a3,a4,a5,a6,a7,a8,a9,a0,0,0,0,0,false,a10)) fun⟨a,b,c,d,e,f,g,h,i,j,k,l,m,n,o⟩=>some (a,b,c,d,e,f,g,h,i,((j,k,l,([]:Zg),()),m,([]:Zm),n,()),o)
def abS:SS:=⟨47,87,[tP 4 20],[(0,fB 1 2 64),(1,.map aF dZ),(2,.map aM .bool),(20,.var dZ (.cons (.cons vI (.cons vI (.cons vI (.cons .bF .nil)))) (.cons vI (.cons .bF (.cons vB .nil))))),(64,.row 110 40 aM)],[]⟩
def abT:SS:=⟨47,87,[tP 0 0,tP 3 19,tP 4 20,(15,.val (.slice 96 bZ)),tI 16,tI 17],[(0,fB 1 2 63),(1,.map aF dZ),(2,.map aM .bool),(19,bV aF),(20,.var dZ (.cons (.cons vI (.cons vI (.cons vI (.cons .bF .nil)))) (.cons vI (.cons .bF (.cons vB .nil))))),(63,.row 110 40 aM)],[]⟩
def abU:SS:=⟨47,87,[tP 4 20],[(0,fB 1 2 65),(1,.map aF dZ),(2,.map aM .bool),(20,bV dZ),(65,.row 110 40 aM)],[]⟩
def SP(q0_:Zl)(q1_:Zk):aX:=aE G [.cell 4 79] 86 [pP 0,.val aF] Hd 87 abU [0,1,2,65] (.bH (LO (ur q0_ q1_)))
theorem SQ(q0_:Zl)(q1_:Zk)(h0_:hS (uq q0_))(h1_:hS (pz q1_)):hS (SP q0_ q1_):=
 cO ⟨[hE 5 [cB 0 [(0,0),(1,1),(2,2),(3,63)] [(31,48)]],hE 7 [cB 1 [(0,0),(1,1),(2,2),(3,48)] []]],[(9,abS)],[],[(2,⟨abT,fun u2=>Int.toNat u2.2.1+1⟩)],[],[]⟩ (hq (MZ q0_ q1_ h0_ h1_) (hq M5 hz)) aJ Tryz.call86 Tryz.func86
def kr:Nat→Int×Int×bL×Zc×Int×Int×Bool×Zd×Unit×Zf×Ze×Zi×cF×Ba×Zn→Option (cH (bL×Zc×Int×Int×Bool×Zd×Unit×Zf×Ze×Zi×Ba×Zn) (bL×Zc×Int×Int×Bool×Zd×Unit×Zf×Ze×Zi×bL)):=aK fun rec4 ⟨b,a,f,e,g,h,i,j,k,l,m,n,d,o,c⟩=>if(decide (a<b))=true then(if(c.length+List.length (aQ aF (.slice 64 aW) (d.1,d.2.1,aZ ((aZ ((16:Int)*d.2.2.1))+a),()) (bE e)))*64≤aG then(rec4 (b,aZ (a+1),f,e,g,h,i,j,k,l,m,n,d,o,c++(aQ aF (.slice 64 aW) (d.1,d.2.1,aZ ((aZ ((16:Int)*d.2.2.1))+a),()) (bE e)))) else none) else(some (.bA (f,e,g,h,i,j,k,l,m,n,o,c)))
def gF(a0:cF)(a1:bL)(a2:Zc)(a3:Int)(a4:Int)(a5:Bool)(a6:Zd)(a7:Unit)(a8:Zf)(a9:Ze)(a10:Zi):Option (bL×Zc×Int×Int×Bool×Zd×Unit×Zf×Ze×Zi×bL):=
 aH (U:=bL×Zc×Int×Int×Bool×Zd×Unit×Zf×Ze×Zi×Ba×Zn) (Option.bind (α:=Bool) (if(decide ((0:Int)≤a0.1))=true then(some (decide (a0.1<(List.length a1.1.1.2.2.1:Int)))) else(some false)) fun v2=>if v2=true then(if 0≤a0.1 then(if a0.1<(List.length a1.1.1.2.2.1:Int) then(kr (Int.toNat (List.length (nth bR a1.1.1.2.2.1 a0.1).2.2.2.2.1:Int)+1) ((List.length (nth bR a1.1.1.2.2.1 a0.1).2.2.2.2.1:Int),0,a1,a2,a3,a4,a5,a6,a7,a8,a9,a10,a0,a1.1,([]:Zn))) else none) else none) else(some (.bA (a1,a2,a3,a4,a5,a6,a7,a8,a9,a10,a1.1,([]:Zn))))) fun⟨a,b,c,d,e,f,g,h,i,j,k,l⟩=>some (a,b,c,d,e,f,g,h,i,j,k,l,())
def abV:SS:=⟨62,102,[tP 4 20,tP 5 21],[(0,fB 1 2 3),(1,.map aF dZ),(2,.map aM .bool),(3,.row 110 40 aM),(20,.var fX (.cons (.cons (.cons .bF (.cons .bF (.cons .bF (.cons .bF (.cons .bF (.cons .bF .nil)))))) (.cons .bF .nil)) (.cons .bF .nil))),(21,.var fX (.cons (.val EF) (.cons (.own 79) .nil))),(79,.row 139 64 aW)],[]⟩
def abW:SS:=⟨62,102,[tP 0 0,tP 3 19,tP 4 20,tP 5 21,tI 36,tI 37],[(0,fB 1 2 3),(1,.map aF dZ),(2,.map aM .bool),(3,.row 110 40 aM),(19,bV aF),(20,.var fX (.cons (.cons (.cons .bF (.cons .bF (.cons .bF (.cons .bF (.cons .bF (.cons .bF .nil)))))) (.cons .bF .nil)) (.cons .bF .nil))),(21,.var fX (.cons (.val EF) (.cons (.own 78) .nil))),(78,.row 139 64 aW)],[]⟩
def abX:SS:=⟨62,102,[tP 4 20],[(0,fB 1 2 3),(1,.map aF dZ),(2,.map aM .bool),(3,.row 110 40 aM),(20,bV fX)],[]⟩
def SR:aX:=aE G [.cell 4 35] 88 [pP 0,.val aF] Hd 102 abX [0,1,2,3] (.bH (LO gF))
theorem SU:hS SR:=
 cO ⟨[hD 2 26 []],[(9,abV)],[],[(4,⟨abW,fun u3=>Int.toNat u3.1+1⟩)],[],[]⟩ hz aJ Tryz.call88 Tryz.func88
def yG:Nat→Int×Zq×Int×Int×Zu→Option (cH (Int×Zu) Bool):=aK fun anz ⟨e,c,b,a,d⟩=>if(decide (a<b))=true then(if 0≤a then(if a<(c.length:Int) then(if d.length+1≤aG then(anz (e,c,b,aZ (a+1),bC qr (nth bZ c a).2.1 true d)) else none) else none) else none) else(some (.bA (e,d)))
def Ja(a0:cM)(a1:Int):Zo:=
 aH (U:=Int×cM) (Option.bind (α:=Bool) (if(decide (a1<(0:Int)))=true then(some true) else(if(decide ((List.length a0.2.2.1:Int)≤a1))=true then(some true) else(if 0≤a1 then(if a1<(List.length a0.2.2.1:Int) then(some (decide ((List.length (nth bR a0.2.2.1 a1).2.2.2.2.1:Int)<(2:Int)))) else none) else none))) fun v2=>if v2=true then(cw (some false)) else(some (.bA (a1,a0)))) fun⟨b,a⟩=>aH (U:=Int×Zu) (yG (Int.toNat (List.length a.2.2.2.1:Int)+1) (b,a.2.2.2.1,(List.length a.2.2.2.1:Int),0,([]:Zu))) fun⟨c,d⟩=>some (!(aQ qr .bool c d))
def abY:SS:=⟨43,83,[tI 1,tP 2 18],[(18,bV iI)],[]⟩
def abZ:SS:=⟨43,83,[tI 1,(5,.mp 43)],[(43,.map qr .bool)],[]⟩
def ab0:SS:=⟨43,83,[tI 1,(5,.mp 43),(29,.val (.slice 96 bZ)),tI 30,tI 31],[(43,.map qr .bool)],[]⟩
def ab1:SS:=⟨43,83,[(4,vB)],[],[]⟩
def ab2:aX:=aE G [.tmp 4] 117 [.val iI,vI] [] 83 ab1 [] (.bH (u2 Ja))
theorem ab3:hS ab2:=
 cO ⟨[hD 1 26 []],[(3,abY),(9,abZ)],[],[(5,⟨ab0,fun u4=>Int.toNat u4.2.2.1+1⟩)],[],[]⟩ hz aJ Tryz.call117 Tryz.func117
def Bf(a0:Int)(a1:Int):Zo:=
 Option.bind (α:=Bool) (if(decide ((0:Int)≤a0))=true then(if(decide (a0<(4096:Int)))=true then(if(decide ((0:Int)≤a1))=true then(some (decide (a1<(4:Int)))) else(some false)) else(some false)) else(some false)) fun v1=>some v1
def ab4:SS:=⟨19,59,[(4,vB)],[],[]⟩
def ab5:aX:=aE G [.tmp 4] 118 [vI,vI] [] 59 ab4 [] (.bH (u2 Bf))
theorem ab6:hS ab5:=
 cO (hR [hD 1 4 []]) hz aJ Tryz.call118 Tryz.func118
def M6(a0:Int)(a1:Int)(a2:Int)(a3:Int):Option cF:=
 some (a0,a1,aZ ((aZ ((16:Int)*a2))+a3),())
def ab7:SS:=⟨16,56,[tP 8 24],[(24,bV aF)],[]⟩
def ab8:aX:=aE G [.cell 8 108] 120 [vI,vI,vI,vI] [] 56 ab7 [] (.bH (u4 M6))
theorem ab9:hS ab8:=
 cO (hR []) hz aJ Tryz.call120 Tryz.func120
def uu(a0:Zn)(a1:cF)(a2:Int):Option (Zn×cF×Int):=
 some (a0,a1,a2)
def aca:SS:=⟨8,48,[(6,.func 107 .nil (.cons (pP 19) (.cons (pP 20) (.cons (pP 21) .nil))))],[(19,.var (.slice 64 aW) (.val (.slice 64 aW))),(20,bV aF),(21,bI)],[]⟩
def SX:aX:=aE G [.tmp 6] 70 [.val (.slice 64 aW),.val aF,vI] [] 48 aca [19,20,21] (.bH (u3 uu))
theorem Jb:hS SX:=
 cO (hR []) hz aJ Tryz.call70 Tryz.func70
def f57(a0:Int):Zo:=
 some (!decide (a0=a0))
def acb:SS:=⟨6,46,[(2,vB)],[],[]⟩
def c57:aX:=aE G [.tmp 2] 57 [vI] [] 46 acb [] (.bH (u1 f57))
theorem x57:hS c57:=
 cO (hR []) hz aJ Tryz.call57 Tryz.func57
def Jc(a0:Int)(a1:Int):ZW:=
 Option.bind (f57 a0) fun y1=>Option.bind (f57 a1) fun y2=>if y1=true then(if y2=true then(some (0:Int)) else(some (-1:Int))) else(if y2=true then(some (1:Int)) else(if(decide (a0<a1))=true then(some (-1:Int)) else(if(decide (a1<a0))=true then(some (1:Int)) else(some (0:Int)))))
def acd:SS:=⟨20,60,[tI 4],[],[]⟩
def c30:aX:=aE G [.tmp 4] 30 [vI,vI] [] 60 acd [] (.bH (u2 Jc))
theorem x30:hS c30:=
 cO (hR [hA 1 0,hA 2 0]) (hq x57 hz) aJ Tryz.call30 Tryz.func30
def C7:Nat→Int×Zg×wJ→Option (cH Int Int):=aK fun am3 ⟨d,c,b,a⟩=>if(decide (a<b))=true then(if 0≤a then(if a<(c.length:Int) then(if(!decide ((nth qr c a)=d))=true then(cw (some (nth qr c a))) else(am3 (d,c,b,aZ (a+1)))) else none) else none) else(some (.bA d))
def SY(a0:Zg):ZW:=
 aH (U:=Int) (C7 (Int.toNat (a0.length:Int)+1) (0,a0,(a0.length:Int),0)) fun v1=>some v1
def acf:SS:=⟨18,58,[tI 3],[],[]⟩
def acg:SS:=⟨18,58,[tI 3,(6,.val (.slice 8 qr)),tI 7,tI 8],[],[]⟩
def c29:aX:=aE G [.tmp 2] 29 [.val (.slice 8 qr)] [] 58 WC [] (.bH (u1 SY))
theorem x29:hS c29:=
 cO ⟨[],[(8,acf)],[],[(3,⟨acg,fun u2=>Int.toNat u2.2.2.1+1⟩)],[],[]⟩ hz aJ Tryz.call29 Tryz.func29
def WK(a0:fq)(a1:fq):ZW:=
 Option.bind (Jc a0.2.2.2.1 a1.2.2.2.1) fun y1=>Option.bind (Jc a0.2.2.2.2.1 a1.2.2.2.2.1) fun y2=>Option.bind (SY [y1,y2]) fun y3=>some y3
def aci:SS:=⟨17,57,[tI 4],[],[]⟩
def c71:aX:=aE G [.tmp 4] 71 [.val aW,.val aW] [] 57 aci [] (.bH (u2 WK))
theorem x71:hS c71:=
 cO (hR [hE 1 [cA 0,cA 0,cA 1]]) (hq x30 (hq x29 hz)) aJ Tryz.call71 Tryz.func71
def oJ(l_:Nat)(Y_:fq×YC×Nat×Nat×Int×Nat×fq×Nat×Bool×Unit→ZaB):Nat→Nat×Zn×Int×Int×YS→Option (cH YS YS):=aK fun am3 ⟨o,l,k,j,p,q,r,s,t,u,v,w,x,m,n⟩=>if(decide (j<k))=true then(if 0≤j then(if j<(l.length:Int) then(if(bD aF (nth aW l j).1 m)=true then(if(decide ((nth aW l j).2.2.2.1≤n))=true then(if o=l_ then(Option.bind (Y_ (nth aW l j,p,q,r,s,t,u,v,w,())) fun⟨a,b,c,d,e,f,g,h,i⟩=>if(!a)=true then(cw (some (b,c,d,e,f,g,h,i,x,m,n))) else(am3 (o,l,k,aZ (j+1),b,c,d,e,f,g,h,i,x,m,n))) else none) else(am3 (o,l,k,aZ (j+1),p,q,r,s,t,u,v,w,x,m,n))) else(am3 (o,l,k,aZ (j+1),p,q,r,s,t,u,v,w,x,m,n))) else none) else none) else(some (.bA (p,q,r,s,t,u,v,w,x,m,n)))
def yH(l_:Nat)(Y_:fq×YC×Nat×Nat×Int×Nat×fq×Nat×Bool×Unit→ZaB)(a0:Nat)(a1:YC)(a2:Nat)(a3:Nat)(a4:Int)(a5:Nat)(a6:fq)(a7:Nat)(a8:Bool)(a9:Zn)(a10:cF)(a11:Int):Option YS:=
 aH (U:=YS) (oJ l_ Y_ (Int.toNat (a9.length:Int)+1) (a0,a9,(a9.length:Int),0,a1,a2,a3,a4,a5,a6,a7,a8,a9,a10,a11)) fun⟨a,b,c,d,e,f,g,h,i,j,k⟩=>some (a,b,c,d,e,f,g,h,i,j,k)
def SZ:List (Nat×dj):=[(0,.lp),(1,.tv qr vI),(2,.tv aW (.val aW)),(3,.tv .bool vB),(4,.var (.slice 64 aW) (.val (.slice 64 aW))),(5,bV aF),(6,bI)]
def WL:SS:=⟨30,70,[],SZ,[]⟩
def acj:SS:=⟨30,70,[(0,.zg),tP 2 5,tP 3 6,(7,.val (.slice 64 aW)),tI 8,tI 9],SZ,[]⟩
def yI:IC:=⟨[.val aW],[(0,.lp),(1,.tv qr vI),(2,.tv aW (.val aW)),(3,.tv .bool vB)],90,0,[(1,.tv qr vI),(2,.tv aW (.val aW)),(3,.tv .bool vB)],fun l f=>aE G [] 107 [.zg,pP 4,pP 5,pP 6] SZ 70 WL [0,1,2,3,4,5,6] (.bH (LR (yH l f)))⟩
theorem M7:yI.holds Tryz.prog gl:=fun B hB l f hY=>
 aX.of tied (H:=⟨[hE 3 [cB 0 [(0,0),(1,1),(2,2),(3,3)] []]],[],[(0,WL)],[(1,⟨acj,fun u2=>Int.toNat u2.2.2.1+1⟩)],[],[]⟩) (hold (l:=[IC.Y yI l f]) ⟨hY,trivial⟩) aJ rfl Tryz.call107 Tryz.func107 rfl rfl rfl rfl (fun _=>by kernel_rfl) (fun _=>by kernel_rfl)
def tC(y_:YC)(b5_0:fq)(yt:YC)(yj:Nat)(g1:Nat)(c5_0:Int)(g2:Nat)(c5_1:fq)(g3:Nat)(c5_2:Bool):ZaB:=
 IW yt y_ (if yj=0 then(if g1=y_.gs 1 then(if g2=y_.gs 2 then(if g3=y_.gs 3 then(Option.bind (α:=Nat×Nat×Int×Nat×fq×Nat×Bool) (Option.bind (α:=Bool) (if(decide (b5_0.2.2.1.1≤c5_0))=true then(if(decide (c5_0<b5_0.2.2.1.2.1))=true then(if(!c5_2)=true then(some true) else(Option.bind (WK c5_1 b5_0) fun y3=>some (decide (y3≤(0:Int))))) else(some false)) else(some false)) fun v4=>if v4=true then(some (0,y_.gs 1,c5_0,y_.gs 2,b5_0,y_.gs 3,true)) else(some (0,y_.gs 1,c5_0,y_.gs 2,c5_1,y_.gs 3,c5_2))) fun r_=>if r_.2.1=y_.gs 1 then(if r_.2.2.2.1=y_.gs 2 then(if r_.2.2.2.2.2.1=y_.gs 3 then(some (Nat.beq r_.1 0,y_,r_.1,r_.2.1,r_.2.2.1,r_.2.2.2.1,r_.2.2.2.2.1,r_.2.2.2.2.2.1,r_.2.2.2.2.2.2)) else none) else none) else none) else none) else none) else none) else none)
def S0(a0:Zn)(a1:cF)(a2:Int)(a3:Int):Option (Int×Bool):=
 aH (U:=fq×Bool) (Option.bind (uu a0 a1 a3) fun⟨a,b,c⟩=>vr fun y5=>Option.bind (yH y5.l (fun d=>tC y5 d.1 d.2.1 d.2.2.1 d.2.2.2.1 d.2.2.2.2.1 d.2.2.2.2.2.1 d.2.2.2.2.2.2.1 d.2.2.2.2.2.2.2.1 d.2.2.2.2.2.2.2.2.1) y5.l y5 0 (y5.gs 1) a2 (y5.gs 2) ((0,0,0,()),0,(0,0,()),0,0,()) (y5.gs 3) false a b c) fun⟨e,f,_,_,_,g,_,h,_,_,_⟩=>IW e y5 (if f=0 then(some (.bA (g,h))) else none)) fun⟨j,i⟩=>Option.bind (α:=Bool) (if(!i)=true then(some true) else(some (decide (j.2.1<(0:Int))))) fun v7=>if v7=true then(some (0,false)) else(some (j.2.1,true))
def ack:SS:=⟨50,90,[tP 10 26,tP 11 27],[(26,bV aW),(27,.var .bool vB),(68,.sY)],[.mp 68]⟩
def acm:SS:=⟨50,90,[tP 6 22,tI 8,(9,vB),tP 10 26,tP 11 27,(16,.func 107 .nil (.cons (pP 32) (.cons (pP 66) (.cons (pP 67) .nil))))],[(22,bI),(26,bV aW),(27,.var .bool vB),(32,.var (.slice 64 aW) (.val (.slice 64 aW))),(66,bV aF),(67,bI)],[]⟩
def acn:SS:=⟨50,90,[],[(1,bI),(2,bV aW),(3,.var .bool vB)],[]⟩
def WM:SS:=⟨50,90,[tI 8,(9,vB)],[],[]⟩
def aco:aX:=aE G [.tmp 8,.tmp 9] 121 [.val (.slice 64 aW),.val aF,vI,vI] [] 90 WM [] (.bH (u4 S0))
theorem acp:hS aco:=
 cO ⟨[hE 3 [cB 0 [] [(19,32),(20,66),(21,67)]],hD 5 39 [cA 1],hD 7 47 []],[(7,ack)],[],[],[],[(5,⟨0,68,69,[(1,.int .i64),(2,aW),(3,.bool)],[(22,1),(26,2),(27,3)],[],[(0,69),(1,22),(2,26),(3,27),(4,32),(5,66),(6,67)],[],acm,acn⟩)]⟩ (hq Jb (hq x71 hz)) (xL (L:=[yI]) ⟨M7,trivial⟩) Tryz.call121 Tryz.func121
end Go.Proofs.YtpmlkhjpbjnagaaGreat
