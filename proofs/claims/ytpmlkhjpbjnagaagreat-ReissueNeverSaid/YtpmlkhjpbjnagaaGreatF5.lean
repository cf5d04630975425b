/- part -/
import Derived.Test.YtpmlkhjpbjnagaaGreatUO
noncomputable section
namespace Go.Proofs.YtpmlkhjpbjnagaaGreat
open Go.Ax
def f104(a0:cu):Option (Ze×Bool×Int):=
 (f142 a0).bind fun⟨a,b⟩=>if !decide (a=(0:Int)) then(some (([]:Ze),false,a)) else((BF b).bind fun y2=>(rR y2).bind fun y3=>if decide ((y3.length:Int)<b.1) then(some (([]:Ze),false,0)) else(some (y3,true,0)))
def aaY:SS:=⟨23,63,[(2,.val (.slice 8 (.int .i64))),(3,vB),tI 4],[],[]⟩
def aaZ:bh:=aF G [.tmp 2,.tmp 3,.tmp 4] 104 [.val iN] [] 63 aaY [] (.br (u1 f104))
theorem TB:hS aaZ:=
 cO (hR [hA 1 0,(4,⟨[],[(2,15,.aT .func)],[⟨[1],[],[(17,31)],[],[]⟩,⟨[2],[],[],[],[]⟩],none,[],[],[]⟩)]) (hq agH (hq Q6 (hq Nu hz))) aJ Tryz.call104 Tryz.func104
def f139(a0:cu):ZV:=
 (f100 a0).bind fun y1=>if !decide (y1=(0:Int)) then(some y1) else((f104 a0).bind fun⟨_,b,a⟩=>if !decide (a=(0:Int)) then(some a) else(if !b then(some (141:Int)) else(some (0:Int))))
def aa0:SS:=⟨22,62,[tI 2],[],[]⟩
def aa1:bh:=aF G [.tmp 2] 139 [.val iN] [] 62 aa0 [] (.br (u1 f139))
theorem aa2:hS aa1:=
 cO (hR [hA 1 0,hA 4 1]) (hq YB (hq TB hz)) aJ Tryz.call139 Tryz.func139
def pj:Nat→Ze×Int×Ze×Int×Int×Zu→Option (cL (Ze×Int×Zu) (Bool×Zu)):=aL fun amC ⟨e,f,c,b,a,d⟩=>if decide (a<b) then(if 0≤a then(if a<(c.length:Int) then(if(aP (.int .i64) .bool (nth (.int .i64) c a) d)=true then(bU (some (false,d))) else(if d.length+1≤aH then(amC (e,f,c,b,bq (a+1),aZ (.int .i64) (nth (.int .i64) c a) true d)) else none)) else none) else none) else(some (.brk (e,f,d)))
def Ah(a0:Ze)(a1:Int)(a2:Zu):Option (Bool×Zu):=
 aI (U:=Ze×Int×Zu) (pj (Int.toNat (a0.length:Int)+1) (a0,a1,a0,(a0.length:Int),0,a2)) fun⟨a,b,c⟩=>some (decide ((a.length:Int)=b),c)
def aa3:SS:=⟨25,65,[(1,.val (.slice 8 (.int .i64))),tI 2],[(0,.map (.int .i64) .bool)],[]⟩
def aa4:SS:=⟨25,65,[(0,.mp 0),(1,.val (.slice 8 (.int .i64))),tI 2,(9,.val (.slice 8 (.int .i64))),tI 10,tI 11],[(0,.map (.int .i64) .bool)],[]⟩
def aa5:SS:=⟨25,65,[(6,vB)],[(0,.map (.int .i64) .bool)],[]⟩
def N7:bh:=aF G [.tmp 6] 140 [.mp 0,.val (.slice 8 (.int .i64)),vI] [(0,.map (.int .i64) .bool)] 65 aa5 [0] (.br (u3 Ah))
theorem N8:hS N7:=
 cO ⟨[],[(8,aa3)],[],[(2,⟨aa4,fun u2=>Int.toNat u2.2.2.2.1+1⟩)],[],[]⟩ hz aJ Tryz.call140 Tryz.func140
def f102(a0:cu):ZV:=
 (f139 a0).bind fun y1=>if !decide (y1=(0:Int)) then(some y1) else((f104 a0).bind fun⟨c,b,a⟩=>if !decide (a=(0:Int)) then(some a) else(if !b then(some (141:Int)) else((Ah c (a0.2.2.1.length:Int) ([]:Zu)).bind fun⟨d,_⟩=>if !d then(some (141:Int)) else(some (0:Int)))))
def aa6:SS:=⟨31,71,[tI 2],[],[]⟩
def aa7:bh:=aF G [.tmp 2] 102 [.val iN] [] 71 aa6 [] (.br (u1 f102))
theorem aa8:hS aa7:=
 cO (hR [hA 1 0,hA 4 1,hE 7 [cB 2 [(0,39)] []]]) (hq aa2 (hq TB (hq N8 hz))) aJ Tryz.call102 Tryz.func102
def f122(a0:cu)(a1:Int)(a2:Int)(a3:Int):Zm:=
 (f167 (a0,()) a1 a2).bind fun⟨a,b⟩=>Option.bind (α:=Bool) (if a=true then((f168 (a0,()) b).bind fun y2=>if y2=true then(if decide (b.2.1≤a3) then(some (decide (a3≤b.2.2.1))) else(some false)) else(some false)) else(some false)) fun v3=>some v3
def aa9:SS:=⟨38,78,[(8,vB)],[],[]⟩
def aba:bh:=aF G [.tmp 8] 122 [.val iN,vI,vI,vI] [] 78 aa9 [] (.br (u4 f122))
theorem W9:hS aba:=
 cO (hR [hA 2 0,hD 3 8 [cA 1]]) (hq Np (hq U5 hz)) aJ Tryz.call122 Tryz.func122
def nN:Nat→Int×ZH×ZH×Int×Int×cu→Option (cL ZH Bool):=aL fun am5 ⟨e,f,c,b,a,d⟩=>if decide (a<b) then(if 0≤a then(if a<(c.length:Int) then((f122 d e a (nth bP c a).2.1.2.1).bind fun y6=>if !y6 then(bU (some false)) else(am5 (e,f,c,b,bq (a+1),d))) else none) else none) else(some (.brk f))
def f197(a0:cu)(a1:Int):Zm:=
 aI (U:=Int×cu) (Option.bind (α:=Bool) (if decide (a1<(0:Int)) then(some true) else(some (decide ((a0.2.2.1.length:Int)≤a1)))) fun v2=>if v2=true then(bU (some false)) else(some (.brk (a1,a0)))) fun⟨a,b⟩=>if 0≤a then(if a<(b.2.2.1.length:Int) then(aI (U:=ZH) (nN (Int.toNat (List.length (nth bF b.2.2.1 a).2.2.2.2.1:Int)+1) (a,(nth bF b.2.2.1 a).2.2.2.2.1,(nth bF b.2.2.1 a).2.2.2.2.1,(List.length (nth bF b.2.2.1 a).2.2.2.2.1:Int),0,b)) fun v3=>Option.bind (α:=Bool) (if decide ((0:Int)<(v3.length:Int)) then(if(0:Int)<(v3.length:Int) then(some (decide ((nth bP v3 (0:Int)).2.1.1=(3:Int)))) else none) else(some false)) fun v7=>some v7) else none) else none
def abb:SS:=⟨50,90,[tI 1,tP 2 18],[(18,bV iN)],[]⟩
def abc:SS:=⟨50,90,[(5,.val (.slice 120 bP))],[],[]⟩
def abd:SS:=⟨50,90,[tI 1,tP 2 18,(5,.val (.slice 120 bP)),(23,.val (.slice 120 bP)),tI 24,tI 25],[(18,bV iN)],[]⟩
def abe:SS:=⟨50,90,[(4,vB)],[],[]⟩
def abf:bh:=aF G [.tmp 4] 197 [.val iN,vI] [] 90 abe [] (.br (u2 f197))
theorem abg:hS abf:=
 cO ⟨[hD 1 16 [],hA 7 0,hD 10 4 []],[(3,abb),(10,abc)],[],[(5,⟨abd,fun u4=>Int.toNat u4.2.2.2.1+1⟩)],[],[]⟩ (hq W9 hz) aJ Tryz.call197 Tryz.func197
def f198(a0:dH)(a1:dH)(a2:Int):Zm:=
 if !decide (a0.1=a1.1) then(some false) else(aI (U:=Int×dH×dH) (Option.bind (α:=Bool) (if decide (a0.1=(1:Int)) then(some true) else(some (decide (a0.1=(2:Int))))) fun v2=>if v2=true then(Option.bind (α:=Bool) (if decide (a1.2.1=(bq (a0.2.1+a2))) then(if decide (a1.2.2.1=(bq (a0.2.2.1+a2))) then(some (decide (a0.2.2.2.2.1=a1.2.2.2.2.1))) else(some false)) else(some false)) fun v3=>bU (some v3)) else(some (.brk (a2,a0,a1)))) fun⟨a,b,c⟩=>Option.bind (α:=Bool) (if decide (a=(0:Int)) then(if decide (b.2.1=c.2.1) then(if decide (b.2.2.1=c.2.2.1) then(some (decide ((b.2.2.2.2.2.1.length:Int)=(c.2.2.2.2.2.1.length:Int)))) else(some false)) else(some false)) else(some false)) fun v4=>some v4)
def abh:SS:=⟨68,108,[tI 2,tP 3 19,tP 4 20],[(19,bV fH),(20,bV fH)],[]⟩
def abi:SS:=⟨68,108,[(6,vB)],[],[]⟩
def abj:bh:=aF G [.tmp 6] 198 [.val fH,.val fH,vI] [] 108 abi [] (.br (u3 f198))
theorem abk:hS abj:=
 cO ⟨[hD 3 19 [],hD 4 6 [],hD 5 6 []],[(5,abh)],[],[],[],[]⟩ hz aJ Tryz.call198 Tryz.func198
def qg:Nat→ZH×ZH×Zw×Int×Int×List Bool×List Bool→Zs:=aL fun rec9 ⟨l,m,k,j,i,n,o⟩=>if decide (i<j) then(if 0≤i then(if i<(k.length:Int) then(aI (U:=ZH×ZH×Zw×Int×Int×gU×List Bool×List Bool) (Option.bind (α:=Bool) (if decide ((nth aU k i).2.2.2.1<(1:Int)) then(some true) else(if decide ((l.length:Int)≤(nth aU k i).2.2.2.1) then(some true) else(if decide ((nth aU k i).2.2.1<(1:Int)) then(some true) else(if decide ((m.length:Int)≤(nth aU k i).2.2.1) then(some true) else(if 0≤(nth aU k i).2.2.2.1 then(if(nth aU k i).2.2.2.1<(n.length:Int) then(if(nth .bool n (nth aU k i).2.2.2.1)=true then(some true) else(if 0≤(nth aU k i).2.2.1 then(if(nth aU k i).2.2.1<(o.length:Int) then(some (nth .bool o (nth aU k i).2.2.1)) else none) else none)) else none) else none))))) fun v11=>if v11=true then(bU (bU (some false))) else(some (.brk (l,m,k,j,i,nth aU k i,n,o)))) fun⟨d,e,f,g,h,a,b,c⟩=>if 0≤a.2.2.2.1 then(if a.2.2.2.1<(b.length:Int) then(if 0≤a.2.2.1 then(if a.2.2.1<(c.length:Int) then(if 0≤a.2.2.2.1 then(if a.2.2.2.1<(d.length:Int) then(if 0≤a.2.2.1 then(if a.2.2.1<(e.length:Int) then((f198 (nth bP d a.2.2.2.1).2.1 (nth bP e a.2.2.1).2.1 a.2.2.2.2.1).bind fun y12=>if !y12 then(bU (some false)) else(rec9 (d,e,f,g,bq (h+1),List.set b (Int.toNat a.2.2.2.1) true,List.set c (Int.toNat a.2.2.1) true))) else none) else none) else none) else none) else none) else none) else none) else none) else none) else none) else(some (.brk ()))
def f141(a0:cu)(a1:th):Zm:=
 aI (U:=cu×th) (Option.bind (α:=Bool) (if decide (a1.2.2.1=a1.2.2.2.1) then(some true) else((f197 a0 a1.2.2.1).bind fun y2=>if !y2 then(some true) else((f197 a0 a1.2.2.2.1).bind fun y3=>some (!y3)))) fun v4=>if v4=true then(bU (some false)) else(some (.brk (a0,a1)))) fun⟨b,a⟩=>if 0≤a.2.2.1 then(if a.2.2.1<(b.2.2.1.length:Int) then(if 0≤a.2.2.2.1 then(if a.2.2.2.1<(b.2.2.1.length:Int) then(aI (U:=ZH×ZH×th) (Option.bind (α:=Bool) (if !decide ((a.2.2.2.2.1.length:Int)=(bq ((List.length (nth bF b.2.2.1 a.2.2.1).2.2.2.2.1:Int) -(1:Int)))) then(some true) else(some (!decide ((a.2.2.2.2.1.length:Int)=(bq ((List.length (nth bF b.2.2.1 a.2.2.2.1).2.2.2.2.1:Int) -(1:Int))))))) fun v6=>if v6=true then(bU (some false)) else(some (.brk ((nth bF b.2.2.1 a.2.2.1).2.2.2.2.1,(nth bF b.2.2.1 a.2.2.2.1).2.2.2.2.1,a)))) fun⟨c,d,e⟩=>if 0≤(c.length:Int) then(if(c.length:Int)≤(c.length:Int) then(if(c.length:Int)*(1:Int)≤(aH:Int) then(if 0≤(d.length:Int) then(if(d.length:Int)≤(d.length:Int) then(if(d.length:Int)*(1:Int)≤(aH:Int) then(aI (U:=Unit) (qg (Int.toNat (e.2.2.2.2.1.length:Int)+1) (c,d,e.2.2.2.2.1,(e.2.2.2.2.1.length:Int),0,List.replicate (Int.toNat (c.length:Int)) false,List.replicate (Int.toNat (d.length:Int)) false)) fun _v7=>some true) else none) else none) else none) else none) else none) else none) else none) else none) else none) else none
def abl:SS:=⟨134,174,[tP 2 18,tP 3 19],[(18,bV iN),(19,bV gA)],[]⟩
def abm:SS:=⟨134,174,[tP 3 19,(5,.val (.slice 120 bP)),(6,.val (.slice 120 bP))],[(19,bV gA)],[]⟩
def abn:SS:=⟨134,174,[(5,.val (.slice 120 bP)),(6,.val (.slice 120 bP)),(7,.own 78),(8,.own 81),tP 10 26,(67,.val (.slice 56 aU)),tI 68,tI 69],[(26,bV aU),(78,.row 4 1 .bool),(81,.row 4 1 .bool)],[]⟩
def abo:SS:=⟨134,174,[],[],[]⟩
def abp:SS:=⟨134,174,[(5,.val (.slice 120 bP)),(6,.val (.slice 120 bP)),(7,.own 78),(8,.own 81),(67,.val (.slice 56 aU)),tI 68,tI 69],[(78,.row 4 1 .bool),(81,.row 4 1 .bool)],[]⟩
def abq:SS:=⟨134,174,[(4,vB)],[],[]⟩
def abr:bh:=aF G [.tmp 4] 141 [.val iN,.val gA] [] 174 abq [] (.br (u2 f141))
theorem abt:hS abr:=
 cO ⟨[hD 1 29 [cA 0,cA 0],hD 4 59 [],hD 10 108 [],hA 13 1],[(3,abl),(6,abm),(12,abn),(16,abo)],[],[(8,⟨abp,fun u8=>Int.toNat u8.2.2.2.1+1⟩)],[],[]⟩ (hq abg (hq abk hz)) aJ Tryz.call141 Tryz.func141
def Ai:Nat→ZJ×Int×Int×cu→Option (cL Unit Int):=aL fun amC ⟨c,b,a,d⟩=>if decide (a<b) then(if 0≤a then(if a<(c.length:Int) then((f141 d (nth gA c a)).bind fun y4=>if !y4 then(bU (some (150:Int))) else(amC (c,b,bq (a+1),d))) else none) else none) else(some (.brk ()))
def f103(a0:cu):ZV:=
 aI (U:=Unit) (Ai (Int.toNat (a0.2.2.2.2.1.length:Int)+1) (a0.2.2.2.2.1,(a0.2.2.2.2.1.length:Int),0,a0)) fun _v1=>some (0:Int)
def abu:SS:=⟨17,57,[],[],[]⟩
def abv:SS:=⟨17,57,[tP 1 17,(6,.val (.slice 72 gA)),tI 7,tI 8],[(17,bV iN)],[]⟩
def abw:SS:=⟨17,57,[tI 2],[],[]⟩
def abx:bh:=aF G [.tmp 2] 103 [.val iN] [] 57 abw [] (.br (u1 f103))
theorem aby:hS abx:=
 cO ⟨[hA 4 0],[(7,abu)],[],[(2,⟨abv,fun u2=>Int.toNat u2.2.1+1⟩)],[],[]⟩ (hq abt hz) aJ Tryz.call103 Tryz.func103
def f66(a0:cu):Option (Int×Cs):=
 aI (U:=cu) ((f99 a0).bind fun y2=>if !decide (y2=(0:Int)) then(bU (some (y2,(([]:ZM),([]:Zw),([]:ZG),([]:Zo),([]:ZJ),([]:ZE),()),([]:Ze),()))) else((f100 a0).bind fun y3=>if !decide (y3=(0:Int)) then(bU (some (y3,(([]:ZM),([]:Zw),([]:ZG),([]:Zo),([]:ZJ),([]:ZE),()),([]:Ze),()))) else((f101 a0).bind fun y4=>if !decide (y4=(0:Int)) then(bU (some (y4,(([]:ZM),([]:Zw),([]:ZG),([]:Zo),([]:ZJ),([]:ZE),()),([]:Ze),()))) else((f102 a0).bind fun y5=>if !decide (y5=(0:Int)) then(bU (some (y5,(([]:ZM),([]:Zw),([]:ZG),([]:Zo),([]:ZJ),([]:ZE),()),([]:Ze),()))) else((f103 a0).bind fun y6=>if !decide (y6=(0:Int)) then(bU (some (y6,(([]:ZM),([]:Zw),([]:ZG),([]:Zo),([]:ZJ),([]:ZE),()),([]:Ze),()))) else(some (.brk a0))))))) fun v1=>(f104 v1).bind fun⟨b,_,a⟩=>if !decide (a=(0:Int)) then(some (a,(([]:ZM),([]:Zw),([]:ZG),([]:Zo),([]:ZJ),([]:ZE),()),([]:Ze),())) else(some (0,v1,b,()))
def abz:SS:=⟨36,76,[tP 1 17,tP 2 18],[(17,bV iN),(18,.var GF (.cons (.cons .bn (.cons .bn (.cons .bn (.cons .bn (.cons .bn (.cons .bn .nil)))))) (.cons .bn .nil)))],[]⟩
def abA:SS:=⟨36,76,[tP 2 18,tI 3],[(18,bV GF)],[]⟩
def c66:bh:=aF G [.cell 2 32,.tmp 3] 66 [.val iN] [] 76 abA [] (.br (u1 f66))
theorem x66:hS c66:=
 cO ⟨[hE 5 [⟨[4,3,2,1,0],[],[],[],[]⟩],hA 9 5],[(9,abz)],[],[],[(3,12)],[]⟩ (hq x99 (hq YB (hq agA (hq aa8 (hq aby (hq TB hz)))))) aJ Tryz.call66 Tryz.func66
def f67(a0:Cs)(a1:Cs):Zm:=
 Option.bind (α:=Bool) ((f105 a0.1 a1.1).bind fun y1=>if y1=true then((f73 a0.2.1 a1.2.1).bind fun y2=>some y2) else(some false)) fun v3=>some v3
def abB:SS:=⟨17,57,[(4,vB)],[],[]⟩
def c67:bh:=aF G [.tmp 4] 67 [.val GF,.val GF] [] 57 abB [] (.br (u2 f67))
theorem x67:hS c67:=
 cO (hR [hD 1 4 [cA 0,cA 1]]) (hq Yt (hq x73 hz)) aJ Tryz.call67 Tryz.func67
def f44(a0:Cs):ZV:=
 (f66 a0.1).bind fun⟨a,b⟩=>Option.bind (α:=Bool) (if !decide (a=(0:Int)) then(some true) else((f67 b a0).bind fun y2=>some (!y2))) fun v3=>if v3=true then(some (160:Int)) else(some (0:Int))
def Xa:SS:=⟨18,58,[tI 2],[],[]⟩
def c44:bh:=aF G [.tmp 2] 44 [.val GF] [] 58 Xa [] (.br (u1 f44))
theorem x44:hS c44:=
 cO (hR [hA 1 0,hD 2 17 [cA 1]]) (hq x66 (hq x67 hz)) aJ Tryz.call44 Tryz.func44
def Kt:Nat→Int×Ze×Int×Int×Cs→Option (cL Cs Bool):=aL fun am5 ⟨d,c,b,a,e⟩=>if decide (a<b) then(if 0≤a then(if a<(c.length:Int) then(Option.bind (α:=Bool) (if decide ((nth (.int .i64) c a)≤d) then(some true) else(some (decide ((4096:Int)≤(nth (.int .i64) c a))))) fun v6=>if v6=true then(bU (some false)) else(am5 (nth (.int .i64) c a,c,b,bq (a+1),e))) else none) else none) else(some (.brk e))
def f50(a0:Cs)(a1:Ze)(a2:Int):Zm:=
 aI (U:=Ze×Cs) (Option.bind (α:=Bool) (if decide ((a1.length:Int)<(1:Int)) then(some true) else(if decide ((64:Int)<(a1.length:Int)) then(some true) else(if decide (a2<(0:Int)) then(some true) else(some (decide ((1024:Int)≤a2)))))) fun v2=>if v2=true then(bU (some false)) else(some (.brk (a1,a0)))) fun⟨a,b⟩=>aI (U:=Cs) (Kt (Int.toNat (a.length:Int)+1) ((-1:Int),a,(a.length:Int),0,b)) fun v3=>(f44 v3).bind fun y7=>some (decide (y7=(0:Int)))
def abC:SS:=⟨44,84,[(1,.val (.slice 8 (.int .i64))),tP 3 19],[(19,bV GF)],[]⟩
def abD:SS:=⟨44,84,[tP 3 19],[(19,bV GF)],[]⟩
def abE:SS:=⟨44,84,[tP 3 19,tI 7,(26,.val (.slice 8 (.int .i64))),tI 27,tI 28],[(19,bV GF)],[]⟩
def abF:SS:=⟨44,84,[(6,vB)],[],[]⟩
def c50:bh:=aF G [.tmp 6] 50 [.val GF,.val (.slice 8 (.int .i64)),vI] [] 84 abF [] (.br (u3 f50))
theorem x50:hS c50:=
 cO ⟨[hD 1 25 [],hD 7 38 [],hA 11 0],[(3,abC),(11,abD)],[],[(5,⟨abE,fun u4=>Int.toNat u4.2.2.1+1⟩)],[],[]⟩ (hq x44 hz) aJ Tryz.call50 Tryz.func50
def Ku(a0:Int)(a1:Int)(a2:YU):Option (YU×Zn):=
 some (a2,a2.1,a2.2.1,a0,a1,a2.2.2.2.2.1,a2.2.2.2.2.2.1,a2.2.2.2.2.2.2.2.2.2,([]:Zf),([]:Zd),([]:Zh))
def abG:SS:=⟨20,60,[tP 6 23],[(0,bV oN),(23,fB 32 33 36),(32,.map aK eF),(33,.map aR .bool),(36,.row 110 40 aR)],[]⟩
def TC:bh:=aF G [.tmp 6] 53 [pP 0,vI,vI] [(0,bV oN)] 60 abG [0,23,32,33,36] (.br (u3 Ku))
theorem TE:hS TC:=
 cO (hR [(3,⟨[.sP 23 [.cD 8] 36 110 40 aR],[],[],none,[],[],[]⟩)]) hz aJ Tryz.call53 Tryz.func53
def yA:Nat→Int×Int×Zz×Int×Int×bz×ZW→Option (cL (Int×Int×bz×ZW) Zn):=aL fun amC ⟨e,f,c,b,a,g,d,h,i,j,k,l⟩=>if decide (a<b) then(if 0≤a then(if a<(c.length:Int) then(if bl aK (nth bJ c a).1 (nth bJ c a).1=true then(if d.length+1≤aH then(if(List.length (aP aK (.slice 64 bJ) (nth bJ c a).1 d)+List.length [nth bJ c a])*64≤aH then(amC (e,f,c,b,bq (a+1),g,aZ aK (nth bJ c a).1 ((aP aK (.slice 64 bJ) (nth bJ c a).1 d)++[nth bJ c a]) (aZ aK (nth bJ c a).1 (Ty.aD (.slice 64 bJ)) d),h,i,j,k,l)) else none) else none) else none) else none) else none) else(some (.brk (e,f,g,d,h,i,j,k,l)))
def yB:Nat→Int×Int×Zo×Int×Int×ZW→Option (cL (Int×Int×ZW) Zn):=aL fun rec6 ⟨e,f,c,b,a,g,d,h,i,j,k⟩=>if decide (a<b) then(if 0≤a then(if a<(c.length:Int) then(if d.length+1≤aH then(rec6 (e,f,c,b,bq (a+1),g,aZ (.int .i64) (nth bG c a).2.1 true d,h,i,j,k)) else none) else none) else none) else(some (.brk (e,f,g,d,h,i,j,k)))
def rU(a0:bz)(a1:Int)(a2:Int)(a3:Bool):Option Zn:=
 aI (U:=Int×Int×bz×ZW) (yA (Int.toNat (a0.2.1.length:Int)+1) (a1,a2,a0.2.1,(a0.2.1.length:Int),0,a0,([]:List (cN×Zz)),([]:Zu),a0,0,0,a3)) fun⟨b,c,a,d,e,f,g,h,i⟩=>aI (U:=Int×Int×ZW) (yB (Int.toNat (a.1.1.2.2.2.1.length:Int)+1) (b,c,a.1.1.2.2.2.1,(a.1.1.2.2.2.1.length:Int),0,d,e,f,g,h,i)) fun⟨j,k,m,q,l,n,o,p⟩=>(Ku j k (l,some m,n,o,p,some q,(none:Option Zf),(none:Option Zd),([]:Zh),())).bind fun⟨_,r,s,t,u,v,w,x,y,z,aa⟩=>some (r,s,t,u,v,w,x,y,z,aa)
def Xb:List (Nat×de):=[(20,bV fI),(31,.pmap aK (.slice 64 bJ) 139),(33,.map (.int .i64) .bool),(35,.var oN (.cons (.val fI) (.cons (.mp 31) (.cons vI (.cons vI (.cons vB (.cons (.mp 33) (.cons .dX (.cons .dX (.cons .bn .nil))))))))))]
def abH:SS:=⟨60,100,[tI 1,tI 2,tP 4 20,tP 9 35],Xb,[]⟩
def Xc:List (Nat×de):=[(31,.map aK (.slice 64 bJ)),(33,.map (.int .i64) .bool),(35,.var oN (.cons (.val fI) (.cons (.mp 31) (.cons vI (.cons vI (.cons vB (.cons (.mp 33) (.cons .dX (.cons .dX (.cons .bn .nil))))))))))]
def abI:SS:=⟨60,100,[tI 1,tI 2,tP 9 35],Xc,[]⟩
def abJ:SS:=⟨60,100,[tI 1,tI 2,tP 4 20,tP 9 35,(21,.val (.slice 64 bJ)),tI 22,tI 23],Xb,[]⟩
def abK:SS:=⟨60,100,[tI 1,tI 2,tP 9 35,(43,.val (.slice 96 bG)),tI 44,tI 45],Xc,[]⟩
def abL:SS:=⟨60,100,[tP 8 75],[(75,fB 76 77 78),(76,.map aK eF),(77,.map aR .bool),(78,.row 110 40 aR)],[]⟩
def TF:bh:=aF G [.tmp 8] 43 [.val fI,vI,vI,vB] [] 100 abL [75,76,77,78] (.br (u4 rU))
theorem Kv:hS TF:=
 cO ⟨[(2,⟨[.N4 31 139],[],[],none,[],[],[]⟩),(5,⟨[],[],[],none,[],[.map 2 31 76 (.c 11 [.cD 0]),.eQ 31],[.A5 31,.nr 31]⟩),(7,⟨[.MT 31],[],[],none,[],[],[]⟩),(12,⟨[.freeze 31 (.map aK (.slice 64 bJ)),.freeze 33 (.map (.int .i64) .bool),.F3 35],[],[⟨[0],[(0,35)],[(23,75),(32,76),(33,77),(36,78)],[],[]⟩],none,[],[],[]⟩)],[(7,abH),(12,abI)],[],[(3,⟨abJ,fun u2=>Int.toNat u2.2.2.2.1+1⟩),(8,⟨abK,fun u5=>Int.toNat u5.2.2.2.1+1⟩)],[],[]⟩ (hq TE hz) aJ Tryz.call43 Tryz.func43
def Ez(a0:Int)(a1:Int)(a2:bz)(a3:Zb)(a4:Int)(a5:Int)(a6:Bool)(a7:Zc)(a8:Unit)(a9:Zf)(a10:Zd)(a11:Zh):Option (bz×Zb×Int×Int×Bool×Zc×Unit×Zf×Zd×Zh×Zn):=
 some (a2,a3,a4,a5,a6,a7,a8,a9,a10,a11,a2,a3,a0,a1,a6,a7,a8,([]:Zf),([]:Zd),([]:Zh))
def abM:SS:=⟨20,60,[tP 6 23],[(0,fB 1 2 3),(1,.map aK eF),(2,.map aR .bool),(3,.row 110 40 aR),(23,fB 32 33 36),(32,.map aK eF),(33,.map aR .bool),(36,.row 110 40 aR)],[]⟩
def Jc:List (Nat×de):=[(0,fB 1 2 3),(1,.map aK eF),(2,.map aR .bool),(3,.row 110 40 aR)]
def TH:bh:=aF G [.tmp 6] 53 [pP 0,vI,vI] Jc 60 abM [0,1,2,3,23,32,33,36] (.br (Ns Ez))
theorem TI:hS TH:=
 cO (hR [(3,⟨[.sP 23 [.cD 8] 36 110 40 aR],[],[],none,[],[],[]⟩)]) hz aJ Tryz.call53 Tryz.func53
def vK(a0:Int)(a1:Int)(a2:bz)(a3:Zb)(a4:Int)(a5:Int)(a6:Bool)(a7:Zc)(a8:Unit)(a9:Zf)(a10:Zd)(a11:Zh):Option (Bool×Zn):=
 Option.bind (α:=Bool) (if a6=true then(if(aP (.int .i64) .bool a0 (aX a7))=true then(if decide ((0:Int)≤a1) then(if decide (a1<(4096:Int)) then(if decide ((0:Int)≤a4) then(some (decide (a4<(1024:Int)))) else(some false)) else(some false)) else(some false)) else(some false)) else(some false)) fun v1=>some (v1,a2,a3,a4,a5,a6,a7,a8,a9,a10,a11)
def abN:SS:=⟨41,81,[(6,vB)],Jc,[]⟩
def TJ:bh:=aF G [.tmp 6] 61 [pP 0,vI,vI] Jc 81 abN [0,1,2,3] (.br (Ns vK))
theorem Kw:hS TJ:=
 cO (hR [hD 1 6 []]) hz aJ Tryz.call61 Tryz.func61
def Xd:List (Nat×de):=[(0,fB 1 2 93),(1,.map aK eF),(2,.map aR .bool),(20,bV eF),(93,.row 110 40 aR)]
def EA:SS:=⟨75,115,[tP 4 20],Xd,[]⟩
def vL(q:Zk):bh:=aF G [.cell 4 79] 62 [pP 0,.val aK] Jc 115 EA [0,1,2,93] (.br q)
def Xe:List (Nat×de):=[(0,.var (.slice 48 bp) (.own 99)),(1,bV bG),(2,.var (.aT .ptr) (pP 6)),(3,bI),(4,.var (.aT .func) (.func 164 .nil (.cons (pP 0) (.cons (pP 1) (.cons (pP 2) (.cons (pP 3) (.cons (pP 4) .nil))))))),(6,fB 7 8 100),(7,.map aK eF),(8,.map aR .bool),(99,.row 50 48 bp),(100,.row 110 40 aR)]
def N9:SS:=⟨77,117,[(5,vB)],Xe,[]⟩
def Xf:List (Nat×de):=[(0,.var (.slice 48 bp) (.own 5)),(1,bV bG),(2,.var (.aT .ptr) (pP 6)),(3,bI),(4,.var (.aT .func) (.func 164 .nil (.cons (pP 0) (.cons (pP 1) (.cons (pP 2) (.cons (pP 3) (.cons (pP 4) .nil))))))),(5,.row 50 48 bp),(6,fB 7 8 9),(7,.map aK eF),(8,.map aR .bool),(9,.row 110 40 aR)]
def qh(q:Zj):bh:=aF G [.tmp 5] 164 [pP 0,pP 1,pP 2,pP 3,pP 4] Xf 117 N9 [0,1,2,3,4,6,7,8,99,100] (.br q)
def uH(_q0_:Zk)(q1_:Zj)(a0:dt)(a1:Int)(a2:bz)(a3:Zb)(a4:Int)(a5:Int)(a6:Bool)(a7:Zc)(a8:Unit)(a9:Zf)(a10:Zd)(a11:Zh):Option (Bool×Zt):=
 (q1_ (a0,a1,([]:Zl),a2,a3,a4,a5,a6,a7,a8,a9,a10,a11,())).bind fun⟨a,_,_,b,c,d,e,f,g,h,i,j,l,k⟩=>if !a then(some (false,b,c,d,e,f,g,h,i,j,([]:Zl),k)) else(some (true,b,c,d,e,f,g,h,i,j,l,k))
def abO:SS:=⟨14,54,[tP 6 22,(7,vB)],[(0,fB 1 2 31),(1,.map aK eF),(2,.map aR .bool),(22,.var (.slice 48 bp) (.val (.slice 48 bp))),(31,.row 110 40 aR)],[]⟩
def Ob(q0_:Zk)(q1_:Zj):bh:=aF G [.cell 6 45,.tmp 7] 115 [pP 0,.val bG,vI] Jc 54 abO [0,1,2,31] (.br (Ns (uH q0_ q1_)))
theorem Oc(q0_:Zk)(q1_:Zj)(_h0_:hS (vL q0_))(h1_:hS (qh q1_)):hS (Ob q0_ q1_):=
 cO (hR [(3,⟨[.sP 22 [] 30 50 48 bp],[],[⟨[0],[(0,22),(1,20),(2,19),(3,21),(4,24),(5,30),(6,0),(7,1),(8,2),(9,3)],[(99,27),(100,31)],[],[]⟩],none,[],[],[]⟩)]) (hq h1_ hz) aJ Tryz.call115 Tryz.func115
def f166(a0:gU)(a1:Zl):ZV:=
 if decide (a0.2.2.1=(-1:Int)) then(some a0.2.2.2.2.1) else(if 0≤a0.2.2.1 then(if a0.2.2.1<(a1.length:Int) then(if 0≤a0.2.2.2.1 then(if a0.2.2.2.1<(List.length (nth bp a1 a0.2.2.1).2.2.2.1:Int) then(some (nth (.int .i64) (nth bp a1 a0.2.2.1).2.2.2.1 a0.2.2.2.1)) else none) else none) else none) else none)
def abP:SS:=⟨20,60,[tI 4],[],[]⟩
def abQ:bh:=aF G [.tmp 4] 166 [.val aU,.val (.slice 48 bp)] [] 60 abP [] (.br (u2 f166))
theorem TK:hS abQ:=
 cO (hR []) hz aJ Tryz.call166 Tryz.func166
def jC:Nat→Int×Zl×ZC×Int×Zan→Option (cL Zan (bz×Zb×Int×Int×Bool×Zc×Unit×Zf×Zd×Zh×mq)):=aL fun amC ⟨f,d,c,b,a,g,h,i,j,k,l,m,n,o,p,q,r,s,t,e⟩=>if decide (a<b) then(if 0≤a then(if a<(c.length:Int) then((f166 (nth bu c a).2.2.1 d).bind fun y4=>if 0≤(nth bu c a).2.1 then(if(nth bu c a).2.1<(e.length:Int) then(amC (f,d,c,b,bq (a+1),g,h,i,j,k,l,m,n,o,p,q,r,s,t,List.set e (Int.toNat (nth bu c a).2.1) y4)) else none) else none) else none) else none) else(some (.brk (f,g,h,i,j,k,l,m,n,o,p,q,r,s,t,e)))
def nO(a0:dt)(a1:Int)(a2:Zl)(a3:bz)(a4:Zb)(a5:Int)(a6:Int)(a7:Bool)(a8:Zc)(a9:Unit)(a10:Zf)(a11:Zd)(a12:Zh):Option (bz×Zb×Int×Int×Bool×Zc×Unit×Zf×Zd×Zh×mq):=
 if 0≤a0.2.1 then(if a0.2.1<(a3.1.1.2.2.1.length:Int) then(if 0≤(List.length (nth bF a3.1.1.2.2.1 a0.2.1).2.2.2.2.1:Int) then(if(List.length (nth bF a3.1.1.2.2.1 a0.2.1).2.2.2.2.1:Int)≤(List.length (nth bF a3.1.1.2.2.1 a0.2.1).2.2.2.2.1:Int) then(if(List.length (nth bF a3.1.1.2.2.1 a0.2.1).2.2.2.2.1:Int)*(8:Int)≤(aH:Int) then(if(0:Int)<(List.length (List.replicate (Int.toNat (List.length (nth bF a3.1.1.2.2.1 a0.2.1).2.2.2.2.1:Int)) (0:Int)):Int) then(aI (U:=Zan) (jC (Int.toNat (a0.2.2.2.2.1.length:Int)+1) (a1,a2,a0.2.2.2.2.1,(a0.2.2.2.2.1.length:Int),0,a3,a4,a5,a6,a7,a8,a9,a10,a11,a12,a0,0,0,0,List.set (List.replicate (Int.toNat (List.length (nth bF a3.1.1.2.2.1 a0.2.1).2.2.2.2.1:Int)) (0:Int)) (Int.toNat (0:Int)) a1)) fun⟨l,a,b,c,d,e,f,g,h,i,j,k,_,_,_,m⟩=>some (a,b,c,d,e,f,g,h,i,j,k.2.1,l,0,m,())) else none) else none) else none) else none) else none) else none
def Xg:List (Nat×de):=[(0,fB 1 2 3),(1,.map aK eF),(2,.map aR .bool),(3,.row 110 40 aR),(21,bV bG),(24,.var bp (.cons vI (.cons vI (.cons vI (.cons .bn .nil))))),(41,.row 3 8 (.int .i64))]
def abR:SS:=⟨50,90,[tI 2,tP 5 21,tP 8 24,(9,.own 41)],Xg,[]⟩
def abS:SS:=⟨50,90,[tI 2,(3,.val (.slice 48 bp)),tP 5 21,tP 8 24,(9,.own 41),(30,.val (.slice 80 bu)),tI 31,tI 32],Xg,[]⟩
def abT:SS:=⟨50,90,[tP 8 24],[(0,fB 1 2 3),(1,.map aK eF),(2,.map aR .bool),(3,.row 110 40 aR),(24,bV bp)],[]⟩
def Od:bh:=aF G [.cell 8 50] 116 [pP 0,.val bG,vI,.val (.slice 48 bp)] Jc 90 abT [0,1,2,3] (.br (I5 nO))
theorem Oe:hS Od:=
 cO ⟨[hA 6 0],[(8,abR)],[],[(4,⟨abS,fun u2=>Int.toNat u2.2.2.2.1+1⟩)],[],[]⟩ (hq TK hz) aJ Tryz.call116 Tryz.func116
def yC(q0_:Zk)(q1_:Zj):Nat→Zo×Int×Int×bz×Zb×Int×Int×Bool×Zc×Unit×Zf×Zd×cN×Int×Int×Int×Int×Bool×Zh→Option (cL (bz×Zb×Int×Int×Bool×Zc×Unit×Zf×Zd×Int×Int×Int×Int×Bool×Zh) W7):=aL fun amC ⟨z,y,x,ab,ac,ad,ae,af,ag,ah,ai,aj,aa,ak,al,am,an,ao,ap⟩=>if decide (x<y) then(if 0≤x then(if x<(z.length:Int) then(if !decide ((nth bG z x).2.1=aa.1) then(amC (z,y,bq (x+1),ab,ac,ad,ae,af,ag,ah,ai,aj,aa,ak,al,am,an,ao,ap)) else((uH q0_ q1_ (nth bG z x) aa.2.1 ab ac ad ae af ag ah ai aj ap).bind fun⟨a,c,d,e,f,g,h,i,j,k,b,l⟩=>if a=true then((nO (nth bG z x) aa.2.1 b c d e f g h i j k l).bind fun⟨m,n,o,p,q,r,s,t,u,w,v⟩=>bU (some (m,n,o,p,q,r,s,t,u,(v,x,b,true,()),w))) else(amC (z,y,bq (x+1),c,d,e,f,g,h,i,j,k,aa,ak,al,am,an,ao,l)))) else none) else none) else(some (.brk (ab,ac,ad,ae,af,ag,ah,ai,aj,ak,al,am,an,ao,ap)))
def vN(q0_:Zk)(q1_:Zj)(a0:cN)(a1:bz)(a2:Zb)(a3:Int)(a4:Int)(a5:Bool)(a6:Zc)(a7:Unit)(a8:Zf)(a9:Zd)(a10:Zh):Option W7:=
 aI (U:=bz×Zb×Int×Int×Bool×Zc×Unit×Zf×Zd×Int×Int×Int×Int×Bool×Zh) (yC q0_ q1_ (Int.toNat (a1.1.1.2.2.2.1.length:Int)+1) (a1.1.1.2.2.2.1,(a1.1.1.2.2.2.1.length:Int),0,a1,a2,a3,a4,a5,a6,a7,a8,a9,a0,0,0,0,0,false,a10)) fun⟨a,b,c,d,e,f,g,h,i,j,k,l,m,n,o⟩=>some (a,b,c,d,e,f,g,h,i,((j,k,l,([]:Ze),()),m,([]:Zl),n,()),o)
def abU:SS:=⟨47,87,[tP 4 20],[(0,fB 1 2 64),(1,.map aK eF),(2,.map aR .bool),(20,.var eF (.cons (.cons vI (.cons vI (.cons vI (.cons .bn .nil)))) (.cons vI (.cons .bn (.cons vB .nil))))),(64,.row 110 40 aR)],[]⟩
def abV:SS:=⟨47,87,[tP 0 0,tP 3 19,tP 4 20,(15,.val (.slice 96 bG)),tI 16,tI 17],[(0,fB 1 2 63),(1,.map aK eF),(2,.map aR .bool),(19,bV aK),(20,.var eF (.cons (.cons vI (.cons vI (.cons vI (.cons .bn .nil)))) (.cons vI (.cons .bn (.cons vB .nil))))),(63,.row 110 40 aR)],[]⟩
def abW:SS:=⟨47,87,[tP 4 20],[(0,fB 1 2 65),(1,.map aK eF),(2,.map aR .bool),(20,bV eF),(65,.row 110 40 aR)],[]⟩
def TL(q0_:Zk)(q1_:Zj):bh:=aF G [.cell 4 79] 86 [pP 0,.val aK] Jc 87 abW [0,1,2,65] (.br (Nr (vN q0_ q1_)))
theorem TM(q0_:Zk)(q1_:Zj)(h0_:hS (vL q0_))(h1_:hS (qh q1_)):hS (TL q0_ q1_):=
 cO ⟨[hE 5 [cB 0 [(0,0),(1,1),(2,2),(3,63)] [(31,48)]],hE 7 [cB 1 [(0,0),(1,1),(2,2),(3,48)] []]],[(9,abU)],[],[(2,⟨abV,fun u2=>Int.toNat u2.2.1+1⟩)],[],[]⟩ (hq (Oc q0_ q1_ h0_ h1_) (hq Oe hz)) aJ Tryz.call86 Tryz.func86
def kE:Nat→Int×Int×bz×Zb×Int×Int×Bool×Zc×Unit×Zf×Zd×Zh×cN×Cs×Zz→Option (cL (bz×Zb×Int×Int×Bool×Zc×Unit×Zf×Zd×Zh×Cs×Zz) (bz×Zb×Int×Int×Bool×Zc×Unit×Zf×Zd×Zh×bz)):=aL fun rec4 ⟨b,a,f,e,g,h,i,j,k,l,m,n,d,o,c⟩=>if decide (a<b) then(if(List.length c+List.length (aP aK (.slice 64 bJ) (d.1,d.2.1,bq ((bq ((16:Int)*d.2.2.1))+a),()) (aX e)))*64≤aH then(rec4 (b,bq (a+1),f,e,g,h,i,j,k,l,m,n,d,o,c++(aP aK (.slice 64 bJ) (d.1,d.2.1,bq ((bq ((16:Int)*d.2.2.1))+a),()) (aX e)))) else none) else(some (.brk (f,e,g,h,i,j,k,l,m,n,o,c)))
def gG(a0:cN)(a1:bz)(a2:Zb)(a3:Int)(a4:Int)(a5:Bool)(a6:Zc)(a7:Unit)(a8:Zf)(a9:Zd)(a10:Zh):Option (bz×Zb×Int×Int×Bool×Zc×Unit×Zf×Zd×Zh×bz):=
 aI (U:=bz×Zb×Int×Int×Bool×Zc×Unit×Zf×Zd×Zh×Cs×Zz) (Option.bind (α:=Bool) (if decide ((0:Int)≤a0.1) then(some (decide (a0.1<(a1.1.1.2.2.1.length:Int)))) else(some false)) fun v2=>if v2=true then(if 0≤a0.1 then(if a0.1<(a1.1.1.2.2.1.length:Int) then(kE (Int.toNat (List.length (nth bF a1.1.1.2.2.1 a0.1).2.2.2.2.1:Int)+1) ((List.length (nth bF a1.1.1.2.2.1 a0.1).2.2.2.2.1:Int),0,a1,a2,a3,a4,a5,a6,a7,a8,a9,a10,a0,a1.1,([]:Zz))) else none) else none) else(some (.brk (a1,a2,a3,a4,a5,a6,a7,a8,a9,a10,a1.1,([]:Zz))))) fun⟨a,b,c,d,e,f,g,h,i,j,k,l⟩=>some (a,b,c,d,e,f,g,h,i,j,k,l,())
def abX:SS:=⟨62,102,[tP 4 20,tP 5 21],[(0,fB 1 2 3),(1,.map aK eF),(2,.map aR .bool),(3,.row 110 40 aR),(20,.var fI (.cons (.cons (.cons .bn (.cons .bn (.cons .bn (.cons .bn (.cons .bn (.cons .bn .nil)))))) (.cons .bn .nil)) (.cons .bn .nil))),(21,.var fI (.cons (.val GF) (.cons (.own 79) .nil))),(79,.row 139 64 bJ)],[]⟩
def abY:SS:=⟨62,102,[tP 0 0,tP 3 19,tP 4 20,tP 5 21,tI 36,tI 37],[(0,fB 1 2 3),(1,.map aK eF),(2,.map aR .bool),(3,.row 110 40 aR),(19,bV aK),(20,.var fI (.cons (.cons (.cons .bn (.cons .bn (.cons .bn (.cons .bn (.cons .bn (.cons .bn .nil)))))) (.cons .bn .nil)) (.cons .bn .nil))),(21,.var fI (.cons (.val GF) (.cons (.own 78) .nil))),(78,.row 139 64 bJ)],[]⟩
def abZ:SS:=⟨62,102,[tP 4 20],[(0,fB 1 2 3),(1,.map aK eF),(2,.map aR .bool),(3,.row 110 40 aR),(20,bV fI)],[]⟩
def TN:bh:=aF G [.cell 4 35] 88 [pP 0,.val aK] Jc 102 abZ [0,1,2,3] (.br (Nr gG))
theorem TO:hS TN:=
 cO ⟨[hD 2 26 []],[(9,abX)],[],[(4,⟨abY,fun u3=>Int.toNat u3.1+1⟩)],[],[]⟩ hz aJ Tryz.call88 Tryz.func88
def Aj:Nat→Int×Zo×Int×Int×Zu→Option (cL (Int×Zu) Bool):=aL fun am5 ⟨e,c,b,a,d⟩=>if decide (a<b) then(if 0≤a then(if a<(c.length:Int) then(if d.length+1≤aH then(am5 (e,c,b,bq (a+1),aZ (.int .i64) (nth bG c a).2.1 true d)) else none) else none) else none) else(some (.brk (e,d)))
def f117(a0:cu)(a1:Int):Zm:=
 aI (U:=Int×cu) (Option.bind (α:=Bool) (if decide (a1<(0:Int)) then(some true) else(if decide ((a0.2.2.1.length:Int)≤a1) then(some true) else(if 0≤a1 then(if a1<(a0.2.2.1.length:Int) then(some (decide ((List.length (nth bF a0.2.2.1 a1).2.2.2.2.1:Int)<(2:Int)))) else none) else none))) fun v2=>if v2=true then(bU (some false)) else(some (.brk (a1,a0)))) fun⟨b,a⟩=>aI (U:=Int×Zu) (Aj (Int.toNat (a.2.2.2.1.length:Int)+1) (b,a.2.2.2.1,(a.2.2.2.1.length:Int),0,([]:Zu))) fun⟨c,d⟩=>some (!(aP (.int .i64) .bool c d))
def ab0:SS:=⟨43,83,[tI 1,tP 2 18],[(18,bV iN)],[]⟩
def ab1:SS:=⟨43,83,[tI 1,(5,.mp 43)],[(43,.map (.int .i64) .bool)],[]⟩
def ab2:SS:=⟨43,83,[tI 1,(5,.mp 43),(29,.val (.slice 96 bG)),tI 30,tI 31],[(43,.map (.int .i64) .bool)],[]⟩
def ab3:SS:=⟨43,83,[(4,vB)],[],[]⟩
def ab4:bh:=aF G [.tmp 4] 117 [.val iN,vI] [] 83 ab3 [] (.br (u2 f117))
theorem ab5:hS ab4:=
 cO ⟨[hD 1 26 []],[(3,ab0),(9,ab1)],[],[(5,⟨ab2,fun u4=>Int.toNat u4.2.2.1+1⟩)],[],[]⟩ hz aJ Tryz.call117 Tryz.func117
def f118(a0:Int)(a1:Int):Zm:=
 Option.bind (α:=Bool) (if decide ((0:Int)≤a0) then(if decide (a0<(4096:Int)) then(if decide ((0:Int)≤a1) then(some (decide (a1<(4:Int)))) else(some false)) else(some false)) else(some false)) fun v1=>some v1
def ab6:SS:=⟨19,59,[(4,vB)],[],[]⟩
def ab7:bh:=aF G [.tmp 4] 118 [vI,vI] [] 59 ab6 [] (.br (u2 f118))
theorem ab8:hS ab7:=
 cO (hR [hD 1 4 []]) hz aJ Tryz.call118 Tryz.func118
def f120(a0:Int)(a1:Int)(a2:Int)(a3:Int):Option cN:=
 some (a0,a1,bq ((bq ((16:Int)*a2))+a3),())
def ab9:SS:=⟨16,56,[tP 8 24],[(24,bV aK)],[]⟩
def aca:bh:=aF G [.cell 8 108] 120 [vI,vI,vI,vI] [] 56 ab9 [] (.br (u4 f120))
theorem acb:hS aca:=
 cO (hR []) hz aJ Tryz.call120 Tryz.func120
def EB(a0:Zz)(a1:cN)(a2:Int):Option (Zz×cN×Int):=
 some (a0,a1,a2)
def acd:SS:=⟨8,48,[(6,.func 107 .nil (.cons (pP 19) (.cons (pP 20) (.cons (pP 21) .nil))))],[(19,.var (.slice 64 bJ) (.val (.slice 64 bJ))),(20,bV aK),(21,bI)],[]⟩
def TP:bh:=aF G [.tmp 6] 70 [.val (.slice 64 bJ),.val aK,vI] [] 48 acd [19,20,21] (.br (u3 EB))
theorem TQ:hS TP:=
 cO (hR []) hz aJ Tryz.call70 Tryz.func70
def f57(a0:Int):Zm:=
 some (!decide (a0=a0))
def ace:SS:=⟨6,46,[(2,vB)],[],[]⟩
def c57:bh:=aF G [.tmp 2] 57 [vI] [] 46 ace [] (.br (u1 f57))
theorem x57:hS c57:=
 cO (hR []) hz aJ Tryz.call57 Tryz.func57
def f30(a0:Int)(a1:Int):ZV:=
 (f57 a0).bind fun y1=>(f57 a1).bind fun y2=>if y1=true then(if y2=true then(some (0:Int)) else(some (-1:Int))) else(if y2=true then(some (1:Int)) else(if decide (a0<a1) then(some (-1:Int)) else(if decide (a1<a0) then(some (1:Int)) else(some (0:Int)))))
def acf:SS:=⟨20,60,[tI 4],[],[]⟩
def c30:bh:=aF G [.tmp 4] 30 [vI,vI] [] 60 acf [] (.br (u2 f30))
theorem x30:hS c30:=
 cO (hR [hA 1 0,hA 2 0]) (hq x57 hz) aJ Tryz.call30 Tryz.func30
def pn:Nat→Int×Ze×yq→Option (cL Int Int):=aL fun amC ⟨d,c,b,a⟩=>if decide (a<b) then(if 0≤a then(if a<(c.length:Int) then(if !decide ((nth (.int .i64) c a)=d) then(bU (some (nth (.int .i64) c a))) else(amC (d,c,b,bq (a+1)))) else none) else none) else(some (.brk d))
def f29(a0:Ze):ZV:=
 aI (U:=Int) (pn (Int.toNat (a0.length:Int)+1) (0,a0,(a0.length:Int),0)) fun v1=>some v1
def ach:SS:=⟨18,58,[tI 3],[],[]⟩
def aci:SS:=⟨18,58,[tI 3,(6,.val (.slice 8 (.int .i64))),tI 7,tI 8],[],[]⟩
def c29:bh:=aF G [.tmp 2] 29 [.val (.slice 8 (.int .i64))] [] 58 Xa [] (.br (u1 f29))
theorem x29:hS c29:=
 cO ⟨[],[(8,ach)],[],[(3,⟨aci,fun u2=>Int.toNat u2.2.2.1+1⟩)],[],[]⟩ hz aJ Tryz.call29 Tryz.func29
def f71(a0:gM)(a1:gM):ZV:=
 (f30 a0.2.2.2.1 a1.2.2.2.1).bind fun y1=>(f30 a0.2.2.2.2.1 a1.2.2.2.2.1).bind fun y2=>(f29 [y1,y2]).bind fun y3=>some y3
def ack:SS:=⟨17,57,[tI 4],[],[]⟩
def c71:bh:=aF G [.tmp 4] 71 [.val bJ,.val bJ] [] 57 ack [] (.br (u2 f71))
theorem x71:hS c71:=
 cO (hR [hE 1 [cA 0,cA 0,cA 1]]) (hq x30 (hq x29 hz)) aJ Tryz.call71 Tryz.func71
def po(l_:Nat)(Y_:gM×YC×Nat×Nat×Int×Nat×gM×Nat×Bool×Unit→Zat):Nat→Nat×Zz×Int×Int×ZT→Option (cL ZT ZT):=aL fun amC ⟨o,l,k,j,p,q,r,s,t,u,v,w,x,m,n⟩=>if decide (j<k) then(if 0≤j then(if j<(l.length:Int) then(if(bl aK (nth bJ l j).1 m)=true then(if decide ((nth bJ l j).2.2.2.1≤n) then(if o=l_ then((Y_ (nth bJ l j,p,q,r,s,t,u,v,w,())).bind fun⟨a,b,c,d,e,f,g,h,i⟩=>if !a then(bU (some (b,c,d,e,f,g,h,i,x,m,n))) else(amC (o,l,k,bq (j+1),b,c,d,e,f,g,h,i,x,m,n))) else none) else(amC (o,l,k,bq (j+1),p,q,r,s,t,u,v,w,x,m,n))) else(amC (o,l,k,bq (j+1),p,q,r,s,t,u,v,w,x,m,n))) else none) else none) else(some (.brk (p,q,r,s,t,u,v,w,x,m,n)))
def Ak(l_:Nat)(Y_:gM×YC×Nat×Nat×Int×Nat×gM×Nat×Bool×Unit→Zat)(a0:Nat)(a1:YC)(a2:Nat)(a3:Nat)(a4:Int)(a5:Nat)(a6:gM)(a7:Nat)(a8:Bool)(a9:Zz)(a10:cN)(a11:Int):Option ZT:=
 aI (U:=ZT) (po l_ Y_ (Int.toNat (a9.length:Int)+1) (a0,a9,(a9.length:Int),0,a1,a2,a3,a4,a5,a6,a7,a8,a9,a10,a11)) fun⟨a,b,c,d,e,f,g,h,i,j,k⟩=>some (a,b,c,d,e,f,g,h,i,j,k)
def TR:List (Nat×de):=[(0,.lp),(1,.tv (.int .i64) vI),(2,.tv bJ (.val bJ)),(3,.tv .bool vB),(4,.var (.slice 64 bJ) (.val (.slice 64 bJ))),(5,bV aK),(6,bI)]
def Xh:SS:=⟨30,70,[],TR,[]⟩
def acm:SS:=⟨30,70,[(0,.Du),tP 2 5,tP 3 6,(7,.val (.slice 64 bJ)),tI 8,tI 9],TR,[]⟩
def Al:IC:=⟨[.val bJ],[(0,.lp),(1,.tv (.int .i64) vI),(2,.tv bJ (.val bJ)),(3,.tv .bool vB)],90,0,[(1,.tv (.int .i64) vI),(2,.tv bJ (.val bJ)),(3,.tv .bool vB)],fun l f=>aF G [] 107 [.Du,pP 4,pP 5,pP 6] TR 70 Xh [0,1,2,3,4,5,6] (.br (Ns (Ak l f)))⟩
theorem Of:Al.holds Tryz.prog gl:=fun B hB l f hY=>
 bh.of tied (H:=⟨[hE 3 [cB 0 [(0,0),(1,1),(2,2),(3,3)] []]],[],[(0,Xh)],[(1,⟨acm,fun u2=>Int.toNat u2.2.2.1+1⟩)],[],[]⟩) (hold (l:=[IC.Y Al l f]) ⟨hY,trivial⟩) aJ rfl Tryz.call107 Tryz.func107 rfl rfl rfl rfl (fun _=>by kernel_rfl) (fun _=>by kernel_rfl)
def uI(y_:YC)(b5_0:gM)(yt:YC)(yj:Nat)(g1:Nat)(c5_0:Int)(g2:Nat)(c5_1:gM)(g3:Nat)(c5_2:Bool):Zat:=
 N3 yt y_ (if yj=0 then(if g1=y_.gs 1 then(if g2=y_.gs 2 then(if g3=y_.gs 3 then(Option.bind (α:=Nat×Nat×Int×Nat×gM×Nat×Bool) (Option.bind (α:=Bool) (if decide (b5_0.2.2.1.1≤c5_0) then(if decide (c5_0<b5_0.2.2.1.2.1) then(if !c5_2 then(some true) else((f71 c5_1 b5_0).bind fun y3=>some (decide (y3≤(0:Int))))) else(some false)) else(some false)) fun v4=>if v4=true then(some (0,y_.gs 1,c5_0,y_.gs 2,b5_0,y_.gs 3,true)) else(some (0,y_.gs 1,c5_0,y_.gs 2,c5_1,y_.gs 3,c5_2))) fun r_=>if r_.2.1=y_.gs 1 then(if r_.2.2.2.1=y_.gs 2 then(if r_.2.2.2.2.2.1=y_.gs 3 then(some (Nat.beq r_.1 0,y_,r_.1,r_.2.1,r_.2.2.1,r_.2.2.2.1,r_.2.2.2.2.1,r_.2.2.2.2.2.1,r_.2.2.2.2.2.2)) else none) else none) else none) else none) else none) else none) else none)
def f121(a0:Zz)(a1:cN)(a2:Int)(a3:Int):Option (Int×Bool):=
 aI (U:=gM×Bool) ((EB a0 a1 a3).bind fun⟨a,b,c⟩=>yh fun y5=>(Ak y5.l (fun d=>uI y5 d.1 d.2.1 d.2.2.1 d.2.2.2.1 d.2.2.2.2.1 d.2.2.2.2.2.1 d.2.2.2.2.2.2.1 d.2.2.2.2.2.2.2.1 d.2.2.2.2.2.2.2.2.1) y5.l y5 0 (y5.gs 1) a2 (y5.gs 2) ((0,0,0,()),0,(0,0,()),0,0,()) (y5.gs 3) false a b c).bind fun⟨e,f,_,_,_,g,_,h,_,_,_⟩=>N3 e y5 (if f=0 then(some (.brk (g,h))) else none)) fun⟨j,i⟩=>Option.bind (α:=Bool) (if !i then(some true) else(some (decide (j.2.1<(0:Int))))) fun v7=>if v7=true then(some (0,false)) else(some (j.2.1,true))
def acn:SS:=⟨50,90,[tP 10 26,tP 11 27],[(26,bV bJ),(27,.var .bool vB),(68,.uS)],[.mp 68]⟩
def aco:SS:=⟨50,90,[tP 6 22,tI 8,(9,vB),tP 10 26,tP 11 27,(16,.func 107 .nil (.cons (pP 32) (.cons (pP 66) (.cons (pP 67) .nil))))],[(22,bI),(26,bV bJ),(27,.var .bool vB),(32,.var (.slice 64 bJ) (.val (.slice 64 bJ))),(66,bV aK),(67,bI)],[]⟩
def acp:SS:=⟨50,90,[],[(1,bI),(2,bV bJ),(3,.var .bool vB)],[]⟩
def Xi:SS:=⟨50,90,[tI 8,(9,vB)],[],[]⟩
def acq:bh:=aF G [.tmp 8,.tmp 9] 121 [.val (.slice 64 bJ),.val aK,vI,vI] [] 90 Xi [] (.br (u4 f121))
theorem acr:hS acq:=
 cO ⟨[hE 3 [cB 0 [] [(19,32),(20,66),(21,67)]],hD 5 39 [cA 1],hD 7 47 []],[(7,acn)],[],[],[],[(5,⟨0,68,69,[(1,.int .i64),(2,bJ),(3,.bool)],[(22,1),(26,2),(27,3)],[],[(0,69),(1,22),(2,26),(3,27),(4,32),(5,66),(6,67)],[],aco,acp⟩)]⟩ (hq TQ (hq x71 hz)) (DL (L:=[Al]) ⟨Of,trivial⟩) Tryz.call121 Tryz.func121
end Go.Proofs.YtpmlkhjpbjnagaaGreat
