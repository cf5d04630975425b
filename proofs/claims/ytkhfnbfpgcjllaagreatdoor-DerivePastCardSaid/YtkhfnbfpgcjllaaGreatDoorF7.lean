/- part -/
import Derived.Test.YtkhfnbfpgcjllaaGreatDoorUO
noncomputable section
namespace Go.Proofs.YtkhfnbfpgcjllaaGreatDoor
open Go.Ax
def W6(a0:bD):Option (Zd×Bool×Int):=
 Option.bind (Yx a0) fun⟨a,b⟩=>if(!decide (a=(0:Int)))=true then(some (([]:Zd),false,a)) else(Option.bind (Hq b) fun y2=>Option.bind (yf y2) fun y3=>if(decide ((List.length y3:Int)<b.1))=true then(some (([]:Zd),false,0)) else(some (y3,true,0)))
def aiV:SS:=⟨23,63,[(2,.val (.slice 8 (.int .i64))),(3,vB),tI 4],[],[]⟩
def c59:bG:=aG G [.tmp 2,.tmp 3,.tmp 4] 59 [.val eN] [] 63 aiV [] (.bY (u1 W6))
theorem x59:hS c59:=
 cO (hR [hA 1 0,(4,⟨[],[(2,15,.aW .func)],[⟨[1],[],[(17,31)],[],[]⟩,⟨[2],[],[],[],[]⟩],none,[],[],[]⟩)]) (hq x94 (hq Vt (hq R8 hz))) aJ Tryz.call59 Tryz.func59
def f91(a0:bD):ZW:=
 Option.bind (Yw a0) fun y1=>if(!decide (y1=(0:Int)))=true then(some y1) else(Option.bind (W6 a0) fun⟨_,b,a⟩=>if(!decide (a=(0:Int)))=true then(some a) else(if(!b)=true then(some (141:Int)) else(some (0:Int))))
def aiX:SS:=⟨22,62,[tI 2],[],[]⟩
def c91:bG:=aG G [.tmp 2] 91 [.val eN] [] 62 aiX [] (.bY (u1 f91))
theorem x91:hS c91:=
 cO (hR [hA 1 0,hA 4 1]) (hq x55 (hq x59 hz)) aJ Tryz.call91 Tryz.func91
def wW:Nat→Zd×Int×Zd×Int×Int×Zr→Option (dR (Zd×Int×Zr) (Bool×Zr)):=aL fun aoK ⟨e,f,c,b,a,d⟩=>if(decide (a<b))=true then(if 0≤a then(if a<(List.length c:Int) then(if(aO (.int .i64) .bool (nth (.int .i64) c a) d)=true then(cU (some (false,d))) else(if List.length d+1≤aF then(aoK (e,f,c,b,aV (a+1),bJ (.int .i64) (nth (.int .i64) c a) true d)) else none)) else none) else none) else(some (.aX (e,f,d)))
def Jg(a0:Zd)(a1:Int)(a2:Zr):Option (Bool×Zr):=
 aI (U:=Zd×Int×Zr) (wW (Int.toNat (List.length a0:Int)+1) (a0,a1,a0,(List.length a0:Int),0,a2)) fun⟨a,b,c⟩=>some (decide ((List.length a:Int)=b),c)
def aiY:SS:=⟨25,65,[(1,.val (.slice 8 (.int .i64))),tI 2],[(0,.map (.int .i64) .bool)],[]⟩
def aiZ:SS:=⟨25,65,[(0,.mp 0),(1,.val (.slice 8 (.int .i64))),tI 2,(9,.val (.slice 8 (.int .i64))),tI 10,tI 11],[(0,.map (.int .i64) .bool)],[]⟩
def ai0:SS:=⟨25,65,[(6,vB)],[(0,.map (.int .i64) .bool)],[]⟩
def W7:bG:=aG G [.tmp 6] 92 [.mp 0,.val (.slice 8 (.int .i64)),vI] [(0,.map (.int .i64) .bool)] 65 ai0 [0] (.bY (u3 Jg))
theorem W8:hS W7:=
 cO ⟨[],[(8,aiY)],[],[(2,⟨aiZ,fun u2=>Int.toNat u2.2.2.2.1+1⟩)],[],[]⟩ hz aJ Tryz.call92 Tryz.func92
def f57(a0:bD):ZW:=
 Option.bind (f91 a0) fun y1=>if(!decide (y1=(0:Int)))=true then(some y1) else(Option.bind (W6 a0) fun⟨c,b,a⟩=>if(!decide (a=(0:Int)))=true then(some a) else(if(!b)=true then(some (141:Int)) else(Option.bind (Jg c (List.length a0.2.2.1:Int) ([]:Zr)) fun⟨d,_⟩=>if(!d)=true then(some (141:Int)) else(some (0:Int)))))
def ai1:SS:=⟨31,71,[tI 2],[],[]⟩
def c57:bG:=aG G [.tmp 2] 57 [.val eN] [] 71 ai1 [] (.bY (u1 f57))
theorem x57:hS c57:=
 cO (hR [hA 1 0,hA 4 1,hE 7 [cB 2 [(0,39)] []]]) (hq x91 (hq x59 (hq W8 hz))) aJ Tryz.call57 Tryz.func57
def Ed(a0:bD)(a1:Int)(a2:Int)(a3:Int):Zm:=
 Option.bind (P8 (a0,()) a1 a2) fun⟨a,b⟩=>Option.bind (α:=Bool) (if a=true then(Option.bind (uj (a0,()) b) fun y2=>if y2=true then(if(decide (b.2.1≤a3))=true then(some (decide (a3≤b.2.2.1))) else(some false)) else(some false)) else(some false)) fun v3=>some v3
def ai2:SS:=⟨38,78,[(8,vB)],[],[]⟩
def c13:bG:=aG G [.tmp 8] 13 [.val eN,vI,vI,vI] [] 78 ai2 [] (.bY (u4 Ed))
theorem x13:hS c13:=
 cO (hR [hA 2 0,hD 3 8 [cA 1]]) (hq Yr (hq x29 hz)) aJ Tryz.call13 Tryz.func13
def sU:Nat→Int×ZE×ZE×Int×Int×bD→Option (dR ZE Bool):=aL fun apm ⟨e,f,c,b,a,d⟩=>if(decide (a<b))=true then(if 0≤a then(if a<(List.length c:Int) then(Option.bind (Ed d e a (nth cM c a).2.1.2.1) fun y6=>if(!y6)=true then(cU (some false)) else(apm (e,f,c,b,aV (a+1),d))) else none) else none) else(some (.aX f))
def O4(a0:bD)(a1:Int):Zm:=
 aI (U:=Int×bD) (Option.bind (α:=Bool) (if(decide (a1<(0:Int)))=true then(some true) else(some (decide ((List.length a0.2.2.1:Int)≤a1)))) fun v2=>if v2=true then(cU (some false)) else(some (.aX (a1,a0)))) fun⟨a,b⟩=>if 0≤a then(if a<(List.length b.2.2.1:Int) then(aI (U:=ZE) (sU (Int.toNat (List.length (nth aR b.2.2.1 a).2.2.2.2.1:Int)+1) (a,(nth aR b.2.2.1 a).2.2.2.2.1,(nth aR b.2.2.1 a).2.2.2.2.1,(List.length (nth aR b.2.2.1 a).2.2.2.2.1:Int),0,b)) fun v3=>Option.bind (α:=Bool) (if(decide ((0:Int)<(List.length v3:Int)))=true then(if(0:Int)<(List.length v3:Int) then(some (decide ((nth cM v3 (0:Int)).2.1.1=(3:Int)))) else none) else(some false)) fun v7=>some v7) else none) else none
def ai4:SS:=⟨50,90,[tI 1,tP 2 18],[(18,bV eN)],[]⟩
def ai5:SS:=⟨50,90,[(5,.val (.slice 120 cM))],[],[]⟩
def ai6:SS:=⟨50,90,[tI 1,tP 2 18,(5,.val (.slice 120 cM)),(23,.val (.slice 120 cM)),tI 24,tI 25],[(18,bV eN)],[]⟩
def ai7:SS:=⟨50,90,[(4,vB)],[],[]⟩
def ai8:bG:=aG G [.tmp 4] 150 [.val eN,vI] [] 90 ai7 [] (.bY (u2 O4))
theorem ai9:hS ai8:=
 cO ⟨[hD 1 16 [],hA 7 0,hD 10 4 []],[(3,ai4),(10,ai5)],[],[(5,⟨ai6,fun u4=>Int.toNat u4.2.2.2.1+1⟩)],[],[]⟩ (hq x13 hz) aJ Tryz.call150 Tryz.func150
def O5(a0:ji)(a1:ji)(a2:Int):Zm:=
 if(!decide (a0.1=a1.1))=true then(some false) else(aI (U:=Int×ji×ji) (Option.bind (α:=Bool) (if(decide (a0.1=(1:Int)))=true then(some true) else(some (decide (a0.1=(2:Int))))) fun v2=>if v2=true then(Option.bind (α:=Bool) (if(decide (a1.2.1=(aV (a0.2.1+a2))))=true then(if(decide (a1.2.2.1=(aV (a0.2.2.1+a2))))=true then(some (decide (a0.2.2.2.2.1=a1.2.2.2.2.1))) else(some false)) else(some false)) fun v3=>cU (some v3)) else(some (.aX (a2,a0,a1)))) fun⟨a,b,c⟩=>Option.bind (α:=Bool) (if(decide (a=(0:Int)))=true then(if(decide (b.2.1=c.2.1))=true then(if(decide (b.2.2.1=c.2.2.1))=true then(some (decide ((List.length b.2.2.2.2.2.1:Int)=(List.length c.2.2.2.2.2.1:Int)))) else(some false)) else(some false)) else(some false)) fun v4=>some v4)
def aja:SS:=⟨68,108,[tI 2,tP 3 19,tP 4 20],[(19,bV qI),(20,bV qI)],[]⟩
def ajb:SS:=⟨68,108,[(6,vB)],[],[]⟩
def ajc:bG:=aG G [.tmp 6] 151 [.val qI,.val qI,vI] [] 108 ajb [] (.bY (u3 O5))
theorem ajd:hS ajc:=
 cO ⟨[hD 3 19 [],hD 4 6 [],hD 5 6 []],[(5,aja)],[],[],[],[]⟩ hz aJ Tryz.call151 Tryz.func151
def AL:Nat→ZE×ZE×Zv×Int×Int×List Bool×List Bool→Zu:=aL fun rec9 ⟨l,m,k,j,i,n,o⟩=>if(decide (i<j))=true then(if 0≤i then(if i<(List.length k:Int) then(aI (U:=ZE×ZE×Zv×Int×Int×gJ×List Bool×List Bool) (Option.bind (α:=Bool) (if(decide ((nth aZ k i).2.2.2.1<(1:Int)))=true then(some true) else(if(decide ((List.length l:Int)≤(nth aZ k i).2.2.2.1))=true then(some true) else(if(decide ((nth aZ k i).2.2.1<(1:Int)))=true then(some true) else(if(decide ((List.length m:Int)≤(nth aZ k i).2.2.1))=true then(some true) else(if 0≤(nth aZ k i).2.2.2.1 then(if(nth aZ k i).2.2.2.1<(List.length n:Int) then(if(nth .bool n (nth aZ k i).2.2.2.1)=true then(some true) else(if 0≤(nth aZ k i).2.2.1 then(if(nth aZ k i).2.2.1<(List.length o:Int) then(some (nth .bool o (nth aZ k i).2.2.1)) else none) else none)) else none) else none))))) fun v11=>if v11=true then(cU (cU (some false))) else(some (.aX (l,m,k,j,i,nth aZ k i,n,o)))) fun⟨d,e,f,g,h,a,b,c⟩=>if 0≤a.2.2.2.1 then(if a.2.2.2.1<(List.length b:Int) then(if 0≤a.2.2.1 then(if a.2.2.1<(List.length c:Int) then(if 0≤a.2.2.2.1 then(if a.2.2.2.1<(List.length d:Int) then(if 0≤a.2.2.1 then(if a.2.2.1<(List.length e:Int) then(Option.bind (O5 (nth cM d a.2.2.2.1).2.1 (nth cM e a.2.2.1).2.1 a.2.2.2.2.1) fun y12=>if(!y12)=true then(cU (some false)) else(rec9 (d,e,f,g,aV (h+1),List.set b (Int.toNat a.2.2.2.1) true,List.set c (Int.toNat a.2.2.1) true))) else none) else none) else none) else none) else none) else none) else none) else none) else none) else none) else(some (.aX ()))
def f93(a0:bD)(a1:wz):Zm:=
 aI (U:=bD×wz) (Option.bind (α:=Bool) (if(decide (a1.2.2.1=a1.2.2.2.1))=true then(some true) else(Option.bind (O4 a0 a1.2.2.1) fun y2=>if(!y2)=true then(some true) else(Option.bind (O4 a0 a1.2.2.2.1) fun y3=>some (!y3)))) fun v4=>if v4=true then(cU (some false)) else(some (.aX (a0,a1)))) fun⟨b,a⟩=>if 0≤a.2.2.1 then(if a.2.2.1<(List.length b.2.2.1:Int) then(if 0≤a.2.2.2.1 then(if a.2.2.2.1<(List.length b.2.2.1:Int) then(aI (U:=ZE×ZE×wz) (Option.bind (α:=Bool) (if(!decide ((List.length a.2.2.2.2.1:Int)=(aV ((List.length (nth aR b.2.2.1 a.2.2.1).2.2.2.2.1:Int) -(1:Int)))))=true then(some true) else(some (!decide ((List.length a.2.2.2.2.1:Int)=(aV ((List.length (nth aR b.2.2.1 a.2.2.2.1).2.2.2.2.1:Int) -(1:Int))))))) fun v6=>if v6=true then(cU (some false)) else(some (.aX ((nth aR b.2.2.1 a.2.2.1).2.2.2.2.1,(nth aR b.2.2.1 a.2.2.2.1).2.2.2.2.1,a)))) fun⟨c,d,e⟩=>if 0≤(List.length c:Int) then(if(List.length c:Int)≤(List.length c:Int) then(if(List.length c:Int)*(1:Int)≤(aF:Int) then(if 0≤(List.length d:Int) then(if(List.length d:Int)≤(List.length d:Int) then(if(List.length d:Int)*(1:Int)≤(aF:Int) then(aI (U:=Unit) (AL (Int.toNat (List.length e.2.2.2.2.1:Int)+1) (c,d,e.2.2.2.2.1,(List.length e.2.2.2.2.1:Int),0,List.replicate (Int.toNat (List.length c:Int)) false,List.replicate (Int.toNat (List.length d:Int)) false)) fun _=>some true) else none) else none) else none) else none) else none) else none) else none) else none) else none) else none
def aje:SS:=⟨134,174,[tP 2 18,tP 3 19],[(18,bV eN),(19,bV iN)],[]⟩
def ajf:SS:=⟨134,174,[tP 3 19,(5,.val (.slice 120 cM)),(6,.val (.slice 120 cM))],[(19,bV iN)],[]⟩
def ajg:SS:=⟨134,174,[(5,.val (.slice 120 cM)),(6,.val (.slice 120 cM)),(7,.own 78),(8,.own 81),tP 10 26,(67,.val (.slice 56 aZ)),tI 68,tI 69],[(26,bV aZ),(78,.row 4 1 .bool),(81,.row 4 1 .bool)],[]⟩
def ajh:SS:=⟨134,174,[],[],[]⟩
def aji:SS:=⟨134,174,[(5,.val (.slice 120 cM)),(6,.val (.slice 120 cM)),(7,.own 78),(8,.own 81),(67,.val (.slice 56 aZ)),tI 68,tI 69],[(78,.row 4 1 .bool),(81,.row 4 1 .bool)],[]⟩
def ajj:SS:=⟨134,174,[(4,vB)],[],[]⟩
def c93:bG:=aG G [.tmp 4] 93 [.val eN,.val iN] [] 174 ajj [] (.bY (u2 f93))
theorem x93:hS c93:=
 cO ⟨[hD 1 29 [cA 0,cA 0],hD 4 59 [],hD 10 108 [],hA 13 1],[(3,aje),(6,ajf),(12,ajg),(16,ajh)],[],[(8,⟨aji,fun u8=>Int.toNat u8.2.2.2.1+1⟩)],[],[]⟩ (hq ai9 (hq ajd hz)) aJ Tryz.call93 Tryz.func93
def Jh:Nat→ZB×Int×Int×bD→Option (dR Unit Int):=aL fun aoK ⟨c,b,a,d⟩=>if(decide (a<b))=true then(if 0≤a then(if a<(List.length c:Int) then(Option.bind (f93 d (nth iN c a)) fun y4=>if(!y4)=true then(cU (some (150:Int))) else(aoK (c,b,aV (a+1),d))) else none) else none) else(some (.aX ()))
def f58(a0:bD):ZW:=
 aI (U:=Unit) (Jh (Int.toNat (List.length a0.2.2.2.2.1:Int)+1) (a0.2.2.2.2.1,(List.length a0.2.2.2.2.1:Int),0,a0)) fun _=>some (0:Int)
def ajl:SS:=⟨17,57,[],[],[]⟩
def ajm:SS:=⟨17,57,[tP 1 17,(6,.val (.slice 72 iN)),tI 7,tI 8],[(17,bV eN)],[]⟩
def ajn:SS:=⟨17,57,[tI 2],[],[]⟩
def c58:bG:=aG G [.tmp 2] 58 [.val eN] [] 57 ajn [] (.bY (u1 f58))
theorem x58:hS c58:=
 cO ⟨[hA 4 0],[(7,ajl)],[],[(2,⟨ajm,fun u2=>Int.toNat u2.2.1+1⟩)],[],[]⟩ (hq x93 hz) aJ Tryz.call58 Tryz.func58
def f30(a0:bD):Option (Int×GA):=
 aI (U:=bD) (Option.bind (f54 a0) fun y2=>if(!decide (y2=(0:Int)))=true then(cU (some (y2,(([]:Zs),([]:Zv),([]:Zn),([]:Zl),([]:ZB),([]:Zy),()),([]:Zd),()))) else(Option.bind (Yw a0) fun y3=>if(!decide (y3=(0:Int)))=true then(cU (some (y3,(([]:Zs),([]:Zv),([]:Zn),([]:Zl),([]:ZB),([]:Zy),()),([]:Zd),()))) else(Option.bind (f56 a0) fun y4=>if(!decide (y4=(0:Int)))=true then(cU (some (y4,(([]:Zs),([]:Zv),([]:Zn),([]:Zl),([]:ZB),([]:Zy),()),([]:Zd),()))) else(Option.bind (f57 a0) fun y5=>if(!decide (y5=(0:Int)))=true then(cU (some (y5,(([]:Zs),([]:Zv),([]:Zn),([]:Zl),([]:ZB),([]:Zy),()),([]:Zd),()))) else(Option.bind (f58 a0) fun y6=>if(!decide (y6=(0:Int)))=true then(cU (some (y6,(([]:Zs),([]:Zv),([]:Zn),([]:Zl),([]:ZB),([]:Zy),()),([]:Zd),()))) else(some (.aX a0))))))) fun v1=>Option.bind (W6 v1) fun⟨b,_,a⟩=>if(!decide (a=(0:Int)))=true then(some (a,(([]:Zs),([]:Zv),([]:Zn),([]:Zl),([]:ZB),([]:Zy),()),([]:Zd),())) else(some (0,v1,b,()))
def ajo:SS:=⟨36,76,[tP 1 17,tP 2 18],[(17,bV eN),(18,.var H8 (.cons (.cons .aM (.cons .aM (.cons .aM (.cons .aM (.cons .aM (.cons .aM .nil)))))) (.cons .aM .nil)))],[]⟩
def ajp:SS:=⟨36,76,[tP 2 18,tI 3],[(18,bV H8)],[]⟩
def c30:bG:=aG G [.cell 2 32,.tmp 3] 30 [.val eN] [] 76 ajp [] (.bY (u1 f30))
theorem x30:hS c30:=
 cO ⟨[hE 5 [⟨[4,3,2,1,0],[],[],[],[]⟩],hA 9 5],[(9,ajo)],[],[],[(3,12)],[]⟩ (hq x54 (hq x55 (hq x56 (hq x57 (hq x58 (hq x59 hz)))))) aJ Tryz.call30 Tryz.func30
def f48(a0:Zf):Option (Int×Int×GA):=
 Option.bind (f68 a0) fun⟨b,_,a⟩=>if(!decide (a=(0:Int)))=true then none else(Option.bind (f69 b) fun⟨d,c⟩=>if(!decide (c=(0:Int)))=true then none else(Option.bind (f30 d) fun⟨e,f⟩=>some (0,e,f)))
def ajq:SS:=⟨33,73,[tP 2 18,tI 3,tI 4],[(18,bV H8)],[]⟩
def c48:bG:=aG G [.cell 2 32,.tmp 3,.tmp 4] 48 [.val .str] [] 73 ajq [] (.bY (u1 f48))
theorem x48:hS c48:=
 cO (hR [hA 1 0,(3,⟨[],[],[],none,[(0,9999)],[],[]⟩),hA 4 1,(6,⟨[],[],[],none,[(0,9999)],[],[]⟩),hA 7 2]) (hq x68 (hq x69 (hq x30 hz))) aJ Tryz.call48 Tryz.func48
def f49(a0:Int)(a1:Int)(a2:Int)(a3:Int)(a4:Int):Option iF:=
 some ((0,a0,aV ((aV ((16:Int)*a1))+a2),()),a3,(0,1024,()),5,a4,())
def ajr:SS:=⟨21,61,[tP 10 26],[(26,bV aN)],[]⟩
def c49:bG:=aG G [.cell 10 119] 49 [vI,vI,vI,vI,vI] [] 61 ajr [] (.bY (u5 f49))
theorem x49:hS c49:=
 cO (hR []) hz aJ Tryz.call49 Tryz.func49
def f25:Option (Bool×aU):=
 Option.bind (f48 [105,115,115,117,101,114,32,114,59,32,115,99,104,101,109,97,32,98,105,114,116,104,32,98,121,32,114,32,118,101,114,115,105,111,110,32,49,32,115,101,108,102,32,48,32,48,32,48,32,48,32,123,32,102,105,101,108,100,32,100,97,121,32,58,32,100,97,116,101,32,48,32,48,32,48,32,48,59,32,102,105,101,108,100,32,109,111,116,104,101,114,32,58,32,112,101,114,115,111,110,32,48,32,48,32,48,32,48,59,32,125,32,115,99,104,101,109,97,32,99,104,105,108,100,32,98,121,32,114,32,118,101,114,115,105,111,110,32,49,32,115,101,108,102,32,48,32,48,32,48,32,48,32,123,32,102,105,101,108,100,32,111,102,32,58,32,112,101,114,115,111,110,32,48,32,48,32,48,32,48,59,32,102,105,101,108,100,32,115,105,110,99,101,32,58,32,100,97,116,101,32,48,32,48,32,48,32,48,59,32,125,32,100,101,114,105,118,101,32,99,104,105,108,100,32,123,32,102,114,111,109,32,98,32,98,105,114,116,104,59,32,102,114,111,109,32,109,32,98,105,114,116,104,32,111,102,32,98,46,109,111,116,104,101,114,59,32,119,104,101,114,101,32,109,46,100,97,121,32,60,32,98,46,100,97,121,59,32,119,104,101,114,101,32,98,46,100,97,121,32,60,61,32,57,48,59,32,115,101,116,32,111,102,32,61,32,98,46,109,111,116,104,101,114,59,32,115,101,116,32,115,105,110,99,101,32,61,32,98,46,100,97,121,59,32,125]) fun⟨_,a,b⟩=>Option.bind (f49 (3:Int) (0:Int) (1:Int) (50:Int) (0:Int)) fun y2=>Option.bind (f49 (3:Int) (0:Int) (2:Int) (7:Int) (1:Int)) fun y3=>Option.bind (f49 (7:Int) (1:Int) (1:Int) (20:Int) (2:Int)) fun y4=>Option.bind (f49 (7:Int) (1:Int) (2:Int) (9:Int) (3:Int)) fun y5=>some (decide (a=(0:Int)),b,[y2,y3,y4,y5],())
def ajs:SS:=⟨19,59,[tP 0 16,(1,vB)],[(16,bV gA)],[]⟩
def c25:bG:=aG G [.cell 0 35,.tmp 1] 25 [] [] 59 ajs [] (.bY (fun _=>f25))
theorem x25:hS c25:=
 cO (hR [hA 1 0,hE 2 [cA 1,cA 1,cA 1,cA 1]]) (hq x48 (hq x49 hz)) aJ Tryz.call25 Tryz.func25
def f31(a0:GA)(a1:GA):Zm:=
 Option.bind (α:=Bool) (Option.bind (Yn a0.1 a1.1) fun y1=>if y1=true then(Option.bind (f61 a0.2.1 a1.2.1) fun y2=>some y2) else(some false)) fun v3=>some v3
def aju:SS:=⟨17,57,[(4,vB)],[],[]⟩
def c31:bG:=aG G [.tmp 4] 31 [.val H8,.val H8] [] 57 aju [] (.bY (u2 f31))
theorem x31:hS c31:=
 cO (hR [hD 1 4 [cA 0,cA 1]]) (hq x60 (hq x61 hz)) aJ Tryz.call31 Tryz.func31
def vG(a0:GA):ZW:=
 Option.bind (f30 a0.1) fun⟨a,b⟩=>Option.bind (α:=Bool) (if(!decide (a=(0:Int)))=true then(some true) else(Option.bind (f31 b a0) fun y2=>some (!y2))) fun v3=>if v3=true then(some (160:Int)) else(some (0:Int))
def ajv:SS:=⟨18,58,[tI 2],[],[]⟩
def c14:bG:=aG G [.tmp 2] 14 [.val H8] [] 58 ajv [] (.bY (u1 vG))
theorem Tq:hS c14:=
 cO (hR [hA 1 0,hD 2 17 [cA 1]]) (hq x30 (hq x31 hz)) aJ Tryz.call14 Tryz.func14
def O6(a0:Int)(a1:Int)(a2:aam):Option (aam×Zt):=
 some (a2,a2.1,a2.2.1,a0,a1,a2.2.2.2.2.1,a2.2.2.2.2.2.1,a2.2.2.2.2.2.2.2.2.2,([]:Zk),([]:Zi),([]:Zh))
def ajw:SS:=⟨20,60,[tP 6 23],[(0,bV qQ),(23,fB 32 33 36),(32,.map aQ fq),(33,.map bP .bool),(36,.row 84 40 bP)],[]⟩
def W9:bG:=aG G [.tmp 6] 65 [pP 0,vI,vI] [(0,bV qQ)] 60 ajw [0,23,32,33,36] (.bY (u3 O6))
theorem Xa:hS W9:=
 cO (hR [(3,⟨[.zU 23 [.dX 8] 36 84 40 bP],[],[],none,[],[],[]⟩)]) hz aJ Tryz.call65 Tryz.func65
def oR:Nat→Int×Int×Zj×Int×Int×aU×XN→Option (dR (Int×Int×aU×XN) Zt):=aL fun aoK ⟨e,f,c,b,a,g,d,h,i,j,k,l⟩=>if(decide (a<b))=true then(if 0≤a then(if a<(List.length c:Int) then(if bN aQ (nth aN c a).1 (nth aN c a).1=true then(if List.length d+1≤aF then(if(List.length (aO aQ (.slice 64 aN) (nth aN c a).1 d)+List.length [nth aN c a])*64≤aF then(aoK (e,f,c,b,aV (a+1),g,bJ aQ (nth aN c a).1 ((aO aQ (.slice 64 aN) (nth aN c a).1 d)++[nth aN c a]) (bJ aQ (nth aN c a).1 (Ty.aH (.slice 64 aN)) d),h,i,j,k,l)) else none) else none) else none) else none) else none) else(some (.aX (e,f,g,d,h,i,j,k,l)))
def oS:Nat→Int×Int×Zl×Int×Int×XN→Option (dR (Int×Int×XN) Zt):=aL fun rec6 ⟨e,f,c,b,a,g,d,h,i,j,k⟩=>if(decide (a<b))=true then(if 0≤a then(if a<(List.length c:Int) then(if List.length d+1≤aF then(rec6 (e,f,c,b,aV (a+1),g,bJ (.int .i64) (nth bW c a).2.1 true d,h,i,j,k)) else none) else none) else none) else(some (.aX (e,f,g,d,h,i,j,k)))
def iq(a0:aU)(a1:Int)(a2:Int)(a3:Bool):Option Zt:=
 aI (U:=Int×Int×aU×XN) (oR (Int.toNat (List.length a0.2.1:Int)+1) (a1,a2,a0.2.1,(List.length a0.2.1:Int),0,a0,([]:ZH),([]:Zr),a0,0,0,a3)) fun⟨b,c,a,d,e,f,g,h,i⟩=>aI (U:=Int×Int×XN) (oS (Int.toNat (List.length a.1.1.2.2.2.1:Int)+1) (b,c,a.1.1.2.2.2.1,(List.length a.1.1.2.2.2.1:Int),0,d,e,f,g,h,i)) fun⟨j,k,m,q,l,n,o,p⟩=>Option.bind (O6 j k (l,some m,n,o,p,some q,(none:Option Zk),(none:Option Zi),([]:Zh),())) fun⟨_,r,s,t,u,v,w,x,y,z,aa⟩=>some (r,s,t,u,v,w,x,y,z,aa)
def ajx:SS:=⟨60,100,[tI 1,tI 2,tP 4 20,tP 9 35],[(20,bV gA),(31,.pmap aQ (.slice 64 aN) 119),(33,.map (.int .i64) .bool),(35,.var qQ (.cons (.val gA) (.cons (.mp 31) (.cons vI (.cons vI (.cons vB (.cons (.mp 33) (.cons .gX (.cons .gX (.cons .aM .nil))))))))))],[]⟩
def ajy:SS:=⟨60,100,[tI 1,tI 2,tP 9 35],[(31,.map aQ (.slice 64 aN)),(33,.map (.int .i64) .bool),(35,.var qQ (.cons (.val gA) (.cons (.mp 31) (.cons vI (.cons vI (.cons vB (.cons (.mp 33) (.cons .gX (.cons .gX (.cons .aM .nil))))))))))],[]⟩
def ajz:SS:=⟨60,100,[tI 1,tI 2,tP 4 20,tP 9 35,(21,.val (.slice 64 aN)),tI 22,tI 23],[(20,bV gA),(31,.pmap aQ (.slice 64 aN) 119),(33,.map (.int .i64) .bool),(35,.var qQ (.cons (.val gA) (.cons (.mp 31) (.cons vI (.cons vI (.cons vB (.cons (.mp 33) (.cons .gX (.cons .gX (.cons .aM .nil))))))))))],[]⟩
def ajA:SS:=⟨60,100,[tI 1,tI 2,tP 9 35,(43,.val (.slice 96 bW)),tI 44,tI 45],[(31,.map aQ (.slice 64 aN)),(33,.map (.int .i64) .bool),(35,.var qQ (.cons (.val gA) (.cons (.mp 31) (.cons vI (.cons vI (.cons vB (.cons (.mp 33) (.cons .gX (.cons .gX (.cons .aM .nil))))))))))],[]⟩
def ajB:SS:=⟨60,100,[tP 8 75],[(75,fB 76 77 78),(76,.map aQ fq),(77,.map bP .bool),(78,.row 84 40 bP)],[]⟩
def Xb:bG:=aG G [.tmp 8] 42 [.val gA,vI,vI,vB] [] 100 ajB [75,76,77,78] (.bY (u4 iq))
theorem sf:hS Xb:=
 cO ⟨[(2,⟨[.NK 31 119],[],[],none,[],[],[]⟩),(5,⟨[],[],[],none,[],[.map 2 31 76 (.c 11 [.dX 0]),.iY 31],[.ym 31,.qJ 31]⟩),(7,⟨[.Mn 31],[],[],none,[],[],[]⟩),(12,⟨[.freeze 31 (.map aQ (.slice 64 aN)),.freeze 33 (.map (.int .i64) .bool),.Is 35],[],[⟨[0],[(0,35)],[(23,75),(32,76),(33,77),(36,78)],[],[]⟩],none,[],[],[]⟩)],[(7,ajx),(12,ajy)],[],[(3,⟨ajz,fun u2=>Int.toNat u2.2.2.2.1+1⟩),(8,⟨ajA,fun u5=>Int.toNat u5.2.2.2.1+1⟩)],[],[]⟩ (hq Xa hz) aJ Tryz.call42 Tryz.func42
def jF(a0:Int)(a1:Int)(a2:aU)(a3:Zc)(a4:Int)(a5:Int)(a6:Bool)(a7:Ze)(a8:Unit)(a9:Zk)(a10:Zi)(a11:Zh):Option (Bool×Zt):=
 Option.bind (α:=Bool) (if a6=true then(if(aO (.int .i64) .bool a0 (bC a7))=true then(if(decide ((0:Int)≤a1))=true then(if(decide (a1<(4096:Int)))=true then(if(decide ((0:Int)≤a4))=true then(some (decide (a4<(1024:Int)))) else(some false)) else(some false)) else(some false)) else(some false)) else(some false)) fun v1=>some (v1,a2,a3,a4,a5,a6,a7,a8,a9,a10,a11)
def ajC:SS:=⟨41,81,[(6,vB)],[(0,fB 1 2 3),(1,.map aQ fq),(2,.map bP .bool),(3,.row 84 40 bP)],[]⟩
def Xc:bG:=aG G [.tmp 6] 51 [pP 0,vI,vI] [(0,fB 1 2 3),(1,.map aQ fq),(2,.map bP .bool),(3,.row 84 40 bP)] 81 ajC [0,1,2,3] (.bY (Wr jF))
theorem sh:hS Xc:=
 cO (hR [hD 1 6 []]) hz aJ Tryz.call51 Tryz.func51
def Ji:SS:=⟨75,115,[tP 4 20],[(0,fB 1 2 93),(1,.map aQ fq),(2,.map bP .bool),(20,bV fq),(93,.row 84 40 bP)],[]⟩
def AM(q:Zg):bG:=aG G [.cell 4 86] 52 [pP 0,.val aQ] [(0,fB 1 2 3),(1,.map aQ fq),(2,.map bP .bool),(3,.row 84 40 bP)] 115 Ji [0,1,2,93] (.bY q)
def Tr:SS:=⟨77,117,[(5,vB)],[(0,.var (.slice 48 bR) (.own 99)),(1,bV bW),(2,.var (.aW .ptr) (pP 6)),(3,bI),(4,.var (.aW .func) (.func 218 .nil (.cons (pP 0) (.cons (pP 1) (.cons (pP 2) (.cons (pP 3) (.cons (pP 4) .nil))))))),(6,fB 7 8 100),(7,.map aQ fq),(8,.map bP .bool),(99,.row 39 48 bR),(100,.row 84 40 bP)],[]⟩
def vH(q:Zo):bG:=aG G [.tmp 5] 218 [pP 0,pP 1,pP 2,pP 3,pP 4] [(0,.var (.slice 48 bR) (.own 5)),(1,bV bW),(2,.var (.aW .ptr) (pP 6)),(3,bI),(4,.var (.aW .func) (.func 218 .nil (.cons (pP 0) (.cons (pP 1) (.cons (pP 2) (.cons (pP 3) (.cons (pP 4) .nil))))))),(5,.row 39 48 bR),(6,fB 7 8 9),(7,.map aQ fq),(8,.map bP .bool),(9,.row 84 40 bP)] 117 Tr [0,1,2,3,4,6,7,8,99,100] (.bY q)
def l0(_q0_:Zg)(q1_:Zo)(a0:eQ)(a1:Int)(a2:aU)(a3:Zc)(a4:Int)(a5:Int)(a6:Bool)(a7:Ze)(a8:Unit)(a9:Zk)(a10:Zi)(a11:Zh):Option (Bool×Zb):=
 Option.bind (q1_ (a0,a1,([]:Zp),a2,a3,a4,a5,a6,a7,a8,a9,a10,a11,())) fun⟨a,_,_,b,c,d,e,f,g,h,i,j,l,k⟩=>if(!a)=true then(some (false,b,c,d,e,f,g,h,i,j,([]:Zp),k)) else(some (true,b,c,d,e,f,g,h,i,j,l,k))
def ajD:SS:=⟨14,54,[tP 6 22,(7,vB)],[(0,fB 1 2 31),(1,.map aQ fq),(2,.map bP .bool),(22,.var (.slice 48 bR) (.val (.slice 48 bR))),(31,.row 84 40 bP)],[]⟩
def Ts(q0_:Zg)(q1_:Zo):bG:=aG G [.cell 6 43,.tmp 7] 133 [pP 0,.val bW,vI] [(0,fB 1 2 3),(1,.map aQ fq),(2,.map bP .bool),(3,.row 84 40 bP)] 54 ajD [0,1,2,31] (.bY (Wr (l0 q0_ q1_)))
theorem Tt(q0_:Zg)(q1_:Zo)(_h0_:hS (AM q0_))(h1_:hS (vH q1_)):hS (Ts q0_ q1_):=
 cO (hR [(3,⟨[.zU 22 [] 30 39 48 bR],[],[⟨[0],[(0,22),(1,20),(2,19),(3,21),(4,24),(5,30),(6,0),(7,1),(8,2),(9,3)],[(99,27),(100,31)],[],[]⟩],none,[],[],[]⟩)]) (hq h1_ hz) aJ Tryz.call133 Tryz.func133
def sj(a0:gJ)(a1:Zp):ZW:=
 if(decide (a0.2.2.1=(-1:Int)))=true then(some a0.2.2.2.2.1) else(if 0≤a0.2.2.1 then(if a0.2.2.1<(List.length a1:Int) then(if 0≤a0.2.2.2.1 then(if a0.2.2.2.1<(List.length (nth bR a1 a0.2.2.1).2.2.2.1:Int) then(some (nth (.int .i64) (nth bR a1 a0.2.2.1).2.2.2.1 a0.2.2.2.1)) else none) else none) else none) else none)
def ajE:SS:=⟨20,60,[tI 4],[],[]⟩
def ajF:bG:=aG G [.tmp 4] 220 [.val aZ,.val (.slice 48 bR)] [] 60 ajE [] (.bY (u2 sj))
theorem Xd:hS ajF:=
 cO (hR []) hz aJ Tryz.call220 Tryz.func220
def dN:Nat→Int×Zp×ZD×Int×Zai→Option (dR Zai (aU×Zc×Int×Int×Bool×Ze×Unit×Zk×Zi×Zh×jq)):=aL fun aoK ⟨f,d,c,b,a,g,h,i,j,k,l,m,n,o,p,q,r,s,t,e⟩=>if(decide (a<b))=true then(if 0≤a then(if a<(List.length c:Int) then(Option.bind (sj (nth dE c a).2.2.1 d) fun y4=>if 0≤(nth dE c a).2.1 then(if(nth dE c a).2.1<(List.length e:Int) then(aoK (f,d,c,b,aV (a+1),g,h,i,j,k,l,m,n,o,p,q,r,s,t,List.set e (Int.toNat (nth dE c a).2.1) y4)) else none) else none) else none) else none) else(some (.aX (f,g,h,i,j,k,l,m,n,o,p,q,r,s,t,e)))
def fv(a0:eQ)(a1:Int)(a2:Zp)(a3:aU)(a4:Zc)(a5:Int)(a6:Int)(a7:Bool)(a8:Ze)(a9:Unit)(a10:Zk)(a11:Zi)(a12:Zh):Option (aU×Zc×Int×Int×Bool×Ze×Unit×Zk×Zi×Zh×jq):=
 if 0≤a0.2.1 then(if a0.2.1<(List.length a3.1.1.2.2.1:Int) then(if 0≤(List.length (nth aR a3.1.1.2.2.1 a0.2.1).2.2.2.2.1:Int) then(if(List.length (nth aR a3.1.1.2.2.1 a0.2.1).2.2.2.2.1:Int)≤(List.length (nth aR a3.1.1.2.2.1 a0.2.1).2.2.2.2.1:Int) then(if(List.length (nth aR a3.1.1.2.2.1 a0.2.1).2.2.2.2.1:Int)*(8:Int)≤(aF:Int) then(if(0:Int)<(List.length (List.replicate (Int.toNat (List.length (nth aR a3.1.1.2.2.1 a0.2.1).2.2.2.2.1:Int)) (0:Int)):Int) then(aI (U:=Zai) (dN (Int.toNat (List.length a0.2.2.2.2.1:Int)+1) (a1,a2,a0.2.2.2.2.1,(List.length a0.2.2.2.2.1:Int),0,a3,a4,a5,a6,a7,a8,a9,a10,a11,a12,a0,0,0,0,List.set (List.replicate (Int.toNat (List.length (nth aR a3.1.1.2.2.1 a0.2.1).2.2.2.2.1:Int)) (0:Int)) (Int.toNat (0:Int)) a1)) fun⟨l,a,b,c,d,e,f,g,h,i,j,k,_,_,_,m⟩=>some (a,b,c,d,e,f,g,h,i,j,k.2.1,l,0,m,())) else none) else none) else none) else none) else none) else none
def ajG:SS:=⟨50,90,[tI 2,tP 5 21,tP 8 24,(9,.own 41)],[(0,fB 1 2 3),(1,.map aQ fq),(2,.map bP .bool),(3,.row 84 40 bP),(21,bV bW),(24,.var bR (.cons vI (.cons vI (.cons vI (.cons .aM .nil))))),(41,.row 3 8 (.int .i64))],[]⟩
def ajH:SS:=⟨50,90,[tI 2,(3,.val (.slice 48 bR)),tP 5 21,tP 8 24,(9,.own 41),(30,.val (.slice 80 dE)),tI 31,tI 32],[(0,fB 1 2 3),(1,.map aQ fq),(2,.map bP .bool),(3,.row 84 40 bP),(21,bV bW),(24,.var bR (.cons vI (.cons vI (.cons vI (.cons .aM .nil))))),(41,.row 3 8 (.int .i64))],[]⟩
def ajI:SS:=⟨50,90,[tP 8 24],[(0,fB 1 2 3),(1,.map aQ fq),(2,.map bP .bool),(3,.row 84 40 bP),(24,bV bR)],[]⟩
def Tu:bG:=aG G [.cell 8 39] 134 [pP 0,.val bW,vI,.val (.slice 48 bR)] [(0,fB 1 2 3),(1,.map aQ fq),(2,.map bP .bool),(3,.row 84 40 bP)] 90 ajI [0,1,2,3] (.bY (LU fv))
theorem Tv:hS Tu:=
 cO ⟨[hA 6 0],[(8,ajG)],[],[(4,⟨ajH,fun u2=>Int.toNat u2.2.2.2.1+1⟩)],[],[]⟩ (hq Xd hz) aJ Tryz.call134 Tryz.func134
def oT(q0_:Zg)(q1_:Zo):Nat→Zl×Int×Int×aU×Zc×Int×Int×Bool×Ze×Unit×Zk×Zi×iw×Int×Int×Int×Int×Bool×Zh→Option (dR (aU×Zc×Int×Int×Bool×Ze×Unit×Zk×Zi×Int×Int×Int×Int×Bool×Zh) ZZ):=aL fun aoK ⟨z,y,x,ab,ac,ad,ae,af,ag,ah,ai,aj,aa,ak,al,am,an,ao,ap⟩=>if(decide (x<y))=true then(if 0≤x then(if x<(List.length z:Int) then(if(!decide ((nth bW z x).2.1=aa.1))=true then(aoK (z,y,aV (x+1),ab,ac,ad,ae,af,ag,ah,ai,aj,aa,ak,al,am,an,ao,ap)) else(Option.bind (l0 q0_ q1_ (nth bW z x) aa.2.1 ab ac ad ae af ag ah ai aj ap) fun⟨a,c,d,e,f,g,h,i,j,k,b,l⟩=>if a=true then(Option.bind (fv (nth bW z x) aa.2.1 b c d e f g h i j k l) fun⟨m,n,o,p,q,r,s,t,u,w,v⟩=>cU (some (m,n,o,p,q,r,s,t,u,(v,x,b,true,()),w))) else(aoK (z,y,aV (x+1),c,d,e,f,g,h,i,j,k,aa,ak,al,am,an,ao,l)))) else none) else none) else(some (.aX (ab,ac,ad,ae,af,ag,ah,ai,aj,ak,al,am,an,ao,ap)))
def lk(q0_:Zg)(q1_:Zo)(a0:iw)(a1:aU)(a2:Zc)(a3:Int)(a4:Int)(a5:Bool)(a6:Ze)(a7:Unit)(a8:Zk)(a9:Zi)(a10:Zh):Option ZZ:=
 aI (U:=aU×Zc×Int×Int×Bool×Ze×Unit×Zk×Zi×Int×Int×Int×Int×Bool×Zh) (oT q0_ q1_ (Int.toNat (List.length a1.1.1.2.2.2.1:Int)+1) (a1.1.1.2.2.2.1,(List.length a1.1.1.2.2.2.1:Int),0,a1,a2,a3,a4,a5,a6,a7,a8,a9,a0,0,0,0,0,false,a10)) fun⟨a,b,c,d,e,f,g,h,i,j,k,l,m,n,o⟩=>some (a,b,c,d,e,f,g,h,i,((j,k,l,([]:Zd),()),m,([]:Zp),n,()),o)
def ajJ:SS:=⟨47,87,[tP 4 20],[(0,fB 1 2 64),(1,.map aQ fq),(2,.map bP .bool),(20,.var fq (.cons (.cons vI (.cons vI (.cons vI (.cons .aM .nil)))) (.cons vI (.cons .aM (.cons vB .nil))))),(64,.row 84 40 bP)],[]⟩
def ajK:SS:=⟨47,87,[tP 0 0,tP 3 19,tP 4 20,(15,.val (.slice 96 bW)),tI 16,tI 17],[(0,fB 1 2 63),(1,.map aQ fq),(2,.map bP .bool),(19,bV aQ),(20,.var fq (.cons (.cons vI (.cons vI (.cons vI (.cons .aM .nil)))) (.cons vI (.cons .aM (.cons vB .nil))))),(63,.row 84 40 bP)],[]⟩
def ajL:SS:=⟨47,87,[tP 4 20],[(0,fB 1 2 65),(1,.map aQ fq),(2,.map bP .bool),(20,bV fq),(65,.row 84 40 bP)],[]⟩
def Xe(q0_:Zg)(q1_:Zo):bG:=aG G [.cell 4 86] 71 [pP 0,.val aQ] [(0,fB 1 2 3),(1,.map aQ fq),(2,.map bP .bool),(3,.row 84 40 bP)] 87 ajL [0,1,2,65] (.bY (Ib (lk q0_ q1_)))
theorem Xf(q0_:Zg)(q1_:Zo)(h0_:hS (AM q0_))(h1_:hS (vH q1_)):hS (Xe q0_ q1_):=
 cO ⟨[hE 5 [cB 0 [(0,0),(1,1),(2,2),(3,63)] [(31,48)]],hE 7 [cB 1 [(0,0),(1,1),(2,2),(3,48)] []]],[(9,ajJ)],[],[(2,⟨ajK,fun u2=>Int.toNat u2.2.1+1⟩)],[],[]⟩ (hq (Tt q0_ q1_ h0_ h1_) (hq Tv hz)) aJ Tryz.call71 Tryz.func71
def iM:Nat→Int×Int×aU×Zc×Int×Int×Bool×Ze×Unit×Zk×Zi×Zh×iw×GA×Zj→Option (dR (aU×Zc×Int×Int×Bool×Ze×Unit×Zk×Zi×Zh×GA×Zj) (aU×Zc×Int×Int×Bool×Ze×Unit×Zk×Zi×Zh×aU)):=aL fun apg ⟨b,a,f,e,g,h,i,j,k,l,m,n,d,o,c⟩=>if(decide (a<b))=true then(if(List.length c+List.length (aO aQ (.slice 64 aN) (d.1,d.2.1,aV ((aV ((16:Int)*d.2.2.1))+a),()) (bC e)))*64≤aF then(apg (b,aV (a+1),f,e,g,h,i,j,k,l,m,n,d,o,c++(aO aQ (.slice 64 aN) (d.1,d.2.1,aV ((aV ((16:Int)*d.2.2.1))+a),()) (bC e)))) else none) else(some (.aX (f,e,g,h,i,j,k,l,m,n,o,c)))
def d6(a0:iw)(a1:aU)(a2:Zc)(a3:Int)(a4:Int)(a5:Bool)(a6:Ze)(a7:Unit)(a8:Zk)(a9:Zi)(a10:Zh):Option (aU×Zc×Int×Int×Bool×Ze×Unit×Zk×Zi×Zh×aU):=
 aI (U:=aU×Zc×Int×Int×Bool×Ze×Unit×Zk×Zi×Zh×GA×Zj) (Option.bind (α:=Bool) (if(decide ((0:Int)≤a0.1))=true then(some (decide (a0.1<(List.length a1.1.1.2.2.1:Int)))) else(some false)) fun v2=>if v2=true then(if 0≤a0.1 then(if a0.1<(List.length a1.1.1.2.2.1:Int) then(iM (Int.toNat (List.length (nth aR a1.1.1.2.2.1 a0.1).2.2.2.2.1:Int)+1) ((List.length (nth aR a1.1.1.2.2.1 a0.1).2.2.2.2.1:Int),0,a1,a2,a3,a4,a5,a6,a7,a8,a9,a10,a0,a1.1,([]:Zj))) else none) else none) else(some (.aX (a1,a2,a3,a4,a5,a6,a7,a8,a9,a10,a1.1,([]:Zj))))) fun⟨a,b,c,d,e,f,g,h,i,j,k,l⟩=>some (a,b,c,d,e,f,g,h,i,j,k,l,())
def ajM:SS:=⟨62,102,[tP 4 20,tP 5 21],[(0,fB 1 2 3),(1,.map aQ fq),(2,.map bP .bool),(3,.row 84 40 bP),(20,.var gA (.cons (.cons (.cons .aM (.cons .aM (.cons .aM (.cons .aM (.cons .aM (.cons .aM .nil)))))) (.cons .aM .nil)) (.cons .aM .nil))),(21,.var gA (.cons (.val H8) (.cons (.own 79) .nil))),(79,.row 119 64 aN)],[]⟩
def ajN:SS:=⟨62,102,[tP 0 0,tP 3 19,tP 4 20,tP 5 21,tI 36,tI 37],[(0,fB 1 2 3),(1,.map aQ fq),(2,.map bP .bool),(3,.row 84 40 bP),(19,bV aQ),(20,.var gA (.cons (.cons (.cons .aM (.cons .aM (.cons .aM (.cons .aM (.cons .aM (.cons .aM .nil)))))) (.cons .aM .nil)) (.cons .aM .nil))),(21,.var gA (.cons (.val H8) (.cons (.own 78) .nil))),(78,.row 119 64 aN)],[]⟩
def ajO:SS:=⟨62,102,[tP 4 20],[(0,fB 1 2 3),(1,.map aQ fq),(2,.map bP .bool),(3,.row 84 40 bP),(20,bV gA)],[]⟩
def Xg:bG:=aG G [.cell 4 35] 72 [pP 0,.val aQ] [(0,fB 1 2 3),(1,.map aQ fq),(2,.map bP .bool),(3,.row 84 40 bP)] 102 ajO [0,1,2,3] (.bY (Ib d6))
theorem Xh:hS Xg:=
 cO ⟨[hD 2 26 []],[(9,ajM)],[],[(4,⟨ajN,fun u3=>Int.toNat u3.1+1⟩)],[],[]⟩ hz aJ Tryz.call72 Tryz.func72
def qw:Nat→Int×Zl×Int×Int×Zr→Option (dR (Int×Zr) Bool):=aL fun apm ⟨e,c,b,a,d⟩=>if(decide (a<b))=true then(if 0≤a then(if a<(List.length c:Int) then(if List.length d+1≤aF then(apm (e,c,b,aV (a+1),bJ (.int .i64) (nth bW c a).2.1 true d)) else none) else none) else none) else(some (.aX (e,d)))
def KL(a0:bD)(a1:Int):Zm:=
 aI (U:=Int×bD) (Option.bind (α:=Bool) (if(decide (a1<(0:Int)))=true then(some true) else(if(decide ((List.length a0.2.2.1:Int)≤a1))=true then(some true) else(if 0≤a1 then(if a1<(List.length a0.2.2.1:Int) then(some (decide ((List.length (nth aR a0.2.2.1 a1).2.2.2.2.1:Int)<(2:Int)))) else none) else none))) fun v2=>if v2=true then(cU (some false)) else(some (.aX (a1,a0)))) fun⟨b,a⟩=>aI (U:=Int×Zr) (qw (Int.toNat (List.length a.2.2.2.1:Int)+1) (b,a.2.2.2.1,(List.length a.2.2.2.1:Int),0,([]:Zr))) fun⟨c,d⟩=>some (!(aO (.int .i64) .bool c d))
def ajP:SS:=⟨43,83,[tI 1,tP 2 18],[(18,bV eN)],[]⟩
def ajQ:SS:=⟨43,83,[tI 1,(5,.mp 43)],[(43,.map (.int .i64) .bool)],[]⟩
def ajR:SS:=⟨43,83,[tI 1,(5,.mp 43),(29,.val (.slice 96 bW)),tI 30,tI 31],[(43,.map (.int .i64) .bool)],[]⟩
def ajS:SS:=⟨43,83,[(4,vB)],[],[]⟩
def c33:bG:=aG G [.tmp 4] 33 [.val eN,vI] [] 83 ajS [] (.bY (u2 KL))
theorem x33:hS c33:=
 cO ⟨[hD 1 26 []],[(3,ajP),(9,ajQ)],[],[(5,⟨ajR,fun u4=>Int.toNat u4.2.2.1+1⟩)],[],[]⟩ hz aJ Tryz.call33 Tryz.func33
def vO(a0:Int)(a1:Int):Zm:=
 Option.bind (α:=Bool) (if(decide ((0:Int)≤a0))=true then(if(decide (a0<(4096:Int)))=true then(if(decide ((0:Int)≤a1))=true then(some (decide (a1<(4:Int)))) else(some false)) else(some false)) else(some false)) fun v1=>some v1
def ajT:SS:=⟨19,59,[(4,vB)],[],[]⟩
def c34:bG:=aG G [.tmp 4] 34 [vI,vI] [] 59 ajT [] (.bY (u2 vO))
theorem x34:hS c34:=
 cO (hR [hD 1 4 []]) hz aJ Tryz.call34 Tryz.func34
def O7(a0:Int)(a1:Int)(a2:Int)(a3:Int):Option iw:=
 some (a0,a1,aV ((aV ((16:Int)*a2))+a3),())
def ajU:SS:=⟨16,56,[tP 8 24],[(24,bV aQ)],[]⟩
def c36:bG:=aG G [.cell 8 82] 36 [vI,vI,vI,vI] [] 56 ajU [] (.bY (u4 O7))
theorem x36:hS c36:=
 cO (hR []) hz aJ Tryz.call36 Tryz.func36
def sk(a0:Zj)(a1:iw)(a2:Int):Option (Zj×iw×Int):=
 some (a0,a1,a2)
def ajV:SS:=⟨8,48,[(6,.func 107 .nil (.cons (pP 19) (.cons (pP 20) (.cons (pP 21) .nil))))],[(19,.var (.slice 64 aN) (.val (.slice 64 aN))),(20,bV aQ),(21,bI)],[]⟩
def Xi:bG:=aG G [.tmp 6] 63 [.val (.slice 64 aN),.val aQ,vI] [] 48 ajV [19,20,21] (.bY (u3 sk))
theorem O8:hS Xi:=
 cO (hR []) hz aJ Tryz.call63 Tryz.func63
def Tw(a0:Int):Zm:=
 some (!decide (a0=a0))
def ajW:SS:=⟨6,46,[(2,vB)],[],[]⟩
def ajX:bG:=aG G [.tmp 2] 168 [vI] [] 46 ajW [] (.bY (u1 Tw))
theorem ajY:hS ajX:=
 cO (hR []) hz aJ Tryz.call168 Tryz.func168
def O9(a0:Int)(a1:Int):ZW:=
 Option.bind (Tw a0) fun y1=>Option.bind (Tw a1) fun y2=>if y1=true then(if y2=true then(some (0:Int)) else(some (-1:Int))) else(if y2=true then(some (1:Int)) else(if(decide (a0<a1))=true then(some (-1:Int)) else(if(decide (a1<a0))=true then(some (1:Int)) else(some (0:Int)))))
def ajZ:SS:=⟨20,60,[tI 4],[],[]⟩
def aj0:bG:=aG G [.tmp 4] 109 [vI,vI] [] 60 ajZ [] (.bY (u2 O9))
theorem aj1:hS aj0:=
 cO (hR [hA 1 0,hA 2 0]) (hq ajY hz) aJ Tryz.call109 Tryz.func109
def Ee:Nat→Int×Zd×ZP→Option (dR Int Int):=aL fun aoK ⟨d,c,b,a⟩=>if(decide (a<b))=true then(if 0≤a then(if a<(List.length c:Int) then(if(!decide ((nth (.int .i64) c a)=d))=true then(cU (some (nth (.int .i64) c a))) else(aoK (d,c,b,aV (a+1)))) else none) else none) else(some (.aX d))
def Pa(a0:Zd):ZW:=
 aI (U:=Int) (Ee (Int.toNat (List.length a0:Int)+1) (0,a0,(List.length a0:Int),0)) fun v1=>some v1
def aj2:SS:=⟨18,58,[tI 3],[],[]⟩
def aj3:SS:=⟨18,58,[tI 3,(6,.val (.slice 8 (.int .i64))),tI 7,tI 8],[],[]⟩
def aj4:SS:=⟨18,58,[tI 2],[],[]⟩
def aj5:bG:=aG G [.tmp 2] 108 [.val (.slice 8 (.int .i64))] [] 58 aj4 [] (.bY (u1 Pa))
theorem aj6:hS aj5:=
 cO ⟨[],[(8,aj2)],[],[(3,⟨aj3,fun u2=>Int.toNat u2.2.2.1+1⟩)],[],[]⟩ hz aJ Tryz.call108 Tryz.func108
def f64(a0:iF)(a1:iF):ZW:=
 Option.bind (O9 a0.2.2.2.1 a1.2.2.2.1) fun y1=>Option.bind (O9 a0.2.2.2.2.1 a1.2.2.2.2.1) fun y2=>Option.bind (Pa [y1,y2]) fun y3=>some y3
def aj7:SS:=⟨17,57,[tI 4],[],[]⟩
def c64:bG:=aG G [.tmp 4] 64 [.val aN,.val aN] [] 57 aj7 [] (.bY (u2 f64))
theorem x64:hS c64:=
 cO (hR [hE 1 [cA 0,cA 0,cA 1]]) (hq aj1 (hq aj6 hz)) aJ Tryz.call64 Tryz.func64
def uh(l_:Nat)(Y_:iF×YC×Nat×Nat×Int×Nat×iF×Nat×Bool×Unit→Zar):Nat→Nat×Zj×Int×Int×ZT→Option (dR ZT ZT):=aL fun aoK ⟨o,l,k,j,p,q,r,s,t,u,v,w,x,m,n⟩=>if(decide (j<k))=true then(if 0≤j then(if j<(List.length l:Int) then(if(bN aQ (nth aN l j).1 m)=true then(if(decide ((nth aN l j).2.2.2.1≤n))=true then(if o=l_ then(Option.bind (Y_ (nth aN l j,p,q,r,s,t,u,v,w,())) fun⟨a,b,c,d,e,f,g,h,i⟩=>if(!a)=true then(cU (some (b,c,d,e,f,g,h,i,x,m,n))) else(aoK (o,l,k,aV (j+1),b,c,d,e,f,g,h,i,x,m,n))) else none) else(aoK (o,l,k,aV (j+1),p,q,r,s,t,u,v,w,x,m,n))) else(aoK (o,l,k,aV (j+1),p,q,r,s,t,u,v,w,x,m,n))) else none) else none) else(some (.aX (p,q,r,s,t,u,v,w,x,m,n)))
def Ef(l_:Nat)(Y_:iF×YC×Nat×Nat×Int×Nat×iF×Nat×Bool×Unit→Zar)(a0:Nat)(a1:YC)(a2:Nat)(a3:Nat)(a4:Int)(a5:Nat)(a6:iF)(a7:Nat)(a8:Bool)(a9:Zj)(a10:iw)(a11:Int):Option ZT:=
 aI (U:=ZT) (uh l_ Y_ (Int.toNat (List.length a9:Int)+1) (a0,a9,(List.length a9:Int),0,a1,a2,a3,a4,a5,a6,a7,a8,a9,a10,a11)) fun⟨a,b,c,d,e,f,g,h,i,j,k⟩=>some (a,b,c,d,e,f,g,h,i,j,k)
def aa7:SS:=⟨30,70,[],[(0,.lp),(1,.tv (.int .i64) vI),(2,.tv aN (.val aN)),(3,.tv .bool vB),(4,.var (.slice 64 aN) (.val (.slice 64 aN))),(5,bV aQ),(6,bI)],[]⟩
def aj8:SS:=⟨30,70,[(0,.Es),tP 2 5,tP 3 6,(7,.val (.slice 64 aN)),tI 8,tI 9],[(0,.lp),(1,.tv (.int .i64) vI),(2,.tv aN (.val aN)),(3,.tv .bool vB),(4,.var (.slice 64 aN) (.val (.slice 64 aN))),(5,bV aQ),(6,bI)],[]⟩
def Eg:IC:=⟨[.val aN],[(0,.lp),(1,.tv (.int .i64) vI),(2,.tv aN (.val aN)),(3,.tv .bool vB)],90,0,[(1,.tv (.int .i64) vI),(2,.tv aN (.val aN)),(3,.tv .bool vB)],fun l f=>aG G [] 107 [.Es,pP 4,pP 5,pP 6] [(0,.lp),(1,.tv (.int .i64) vI),(2,.tv aN (.val aN)),(3,.tv .bool vB),(4,.var (.slice 64 aN) (.val (.slice 64 aN))),(5,bV aQ),(6,bI)] 70 aa7 [0,1,2,3,4,5,6] (.bY (Wr (Ef l f)))⟩
theorem Tx:Eg.holds Tryz.prog gl:=fun B hB l f hY=>
 bG.of tied (H:=⟨[hE 3 [cB 0 [(0,0),(1,1),(2,2),(3,3)] []]],[],[(0,aa7)],[(1,⟨aj8,fun u2=>Int.toNat u2.2.2.1+1⟩)],[],[]⟩) (hold (l:=[IC.Y Eg l f]) ⟨hY,trivial⟩) aJ rfl Tryz.call107 Tryz.func107 rfl rfl rfl rfl (fun _=>by kernel_rfl) (fun _=>by kernel_rfl)
def Eh(y_:YC)(b5_0:iF)(yt:YC)(yj:Nat)(g1:Nat)(c5_0:Int)(g2:Nat)(c5_1:iF)(g3:Nat)(c5_2:Bool):Zar:=
 PA yt y_ (if yj=0 then(if g1=y_.gs 1 then(if g2=y_.gs 2 then(if g3=y_.gs 3 then(Option.bind (α:=Nat×Nat×Int×Nat×iF×Nat×Bool) (Option.bind (α:=Bool) (if(decide (b5_0.2.2.1.1≤c5_0))=true then(if(decide (c5_0<b5_0.2.2.1.2.1))=true then(if(!c5_2)=true then(some true) else(Option.bind (f64 c5_1 b5_0) fun y3=>some (decide (y3≤(0:Int))))) else(some false)) else(some false)) fun v4=>if v4=true then(some (0,y_.gs 1,c5_0,y_.gs 2,b5_0,y_.gs 3,true)) else(some (0,y_.gs 1,c5_0,y_.gs 2,c5_1,y_.gs 3,c5_2))) fun r_=>if r_.2.1=y_.gs 1 then(if r_.2.2.2.1=y_.gs 2 then(if r_.2.2.2.2.2.1=y_.gs 3 then(some (Nat.beq r_.1 0,y_,r_.1,r_.2.1,r_.2.2.1,r_.2.2.2.1,r_.2.2.2.2.1,r_.2.2.2.2.2.1,r_.2.2.2.2.2.2)) else none) else none) else none) else none) else none) else none) else none)
def f37(a0:Zj)(a1:iw)(a2:Int)(a3:Int):Option (Int×Bool):=
 aI (U:=Nu) (Option.bind (sk a0 a1 a3) fun⟨a,b,c⟩=>A8 fun y5=>Option.bind (Ef y5.l (fun d=>Eh y5 d.1 d.2.1 d.2.2.1 d.2.2.2.1 d.2.2.2.2.1 d.2.2.2.2.2.1 d.2.2.2.2.2.2.1 d.2.2.2.2.2.2.2.1 d.2.2.2.2.2.2.2.2.1) y5.l y5 0 (y5.gs 1) a2 (y5.gs 2) ((0,0,0,()),0,(0,0,()),0,0,()) (y5.gs 3) false a b c) fun⟨e,f,_,_,_,g,_,h,_,_,_⟩=>PA e y5 (if f=0 then(some (.aX (g,h))) else none)) fun⟨j,i⟩=>Option.bind (α:=Bool) (if(!i)=true then(some true) else(some (decide (j.2.1<(0:Int))))) fun v7=>if v7=true then(some (0,false)) else(some (j.2.1,true))
def aka:SS:=⟨50,90,[tP 10 26,tP 11 27],[(26,bV aN),(27,.var .bool vB),(68,.AR)],[.mp 68]⟩
def akb:SS:=⟨50,90,[tP 6 22,tI 8,(9,vB),tP 10 26,tP 11 27,(16,.func 107 .nil (.cons (pP 32) (.cons (pP 66) (.cons (pP 67) .nil))))],[(22,bI),(26,bV aN),(27,.var .bool vB),(32,.var (.slice 64 aN) (.val (.slice 64 aN))),(66,bV aQ),(67,bI)],[]⟩
def akc:SS:=⟨50,90,[],[(1,bI),(2,bV aN),(3,.var .bool vB)],[]⟩
def aa8:SS:=⟨50,90,[tI 8,(9,vB)],[],[]⟩
def c37:bG:=aG G [.tmp 8,.tmp 9] 37 [.val (.slice 64 aN),.val aQ,vI,vI] [] 90 aa8 [] (.bY (u4 f37))
theorem x37:hS c37:=
 cO ⟨[hE 3 [cB 0 [] [(19,32),(20,66),(21,67)]],hD 5 39 [cA 1],hD 7 47 []],[(7,aka)],[],[],[],[(5,⟨0,68,69,[(1,.int .i64),(2,aN),(3,.bool)],[(22,1),(26,2),(27,3)],[],[(0,69),(1,22),(2,26),(3,27),(4,32),(5,66),(6,67)],[],akb,akc⟩)]⟩ (hq O8 (hq x64 hz)) (FQ (L:=[Eg]) ⟨Tx,trivial⟩) Tryz.call37 Tryz.func37
end Go.Proofs.YtkhfnbfpgcjllaaGreatDoor
