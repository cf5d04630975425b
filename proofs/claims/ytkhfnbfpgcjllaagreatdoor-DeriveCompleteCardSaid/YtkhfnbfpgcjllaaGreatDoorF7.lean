/- part -/
import Derived.Test.YtkhfnbfpgcjllaaGreatDoorUO
noncomputable section
namespace Go.Proofs.YtkhfnbfpgcjllaaGreatDoor
open Go.Ax
def Xb(a0:bF):Option (Zd×Bool×Int):=
 Option.bind (YD a0) fun⟨a,b⟩=>if(!decide (a=(0:Int)))=true then(some (([]:Zd),false,a)) else(Option.bind (Hw b) fun y2=>Option.bind (yp y2) fun y3=>if(decide ((List.length y3:Int)<b.1))=true then(some (([]:Zd),false,0)) else(some (y3,true,0)))
def ai1:SS:=⟨23,63,[(2,.val (.slice 8 (.int .i64))),(3,vB),tI 4],[],[]⟩
def c59:bH:=aI G [.tmp 2,.tmp 3,.tmp 4] 59 [.val eR] [] 63 ai1 [] (.bZ (u1 Xb))
theorem x59:hS c59:=
 cO (hR [hA 1 0,(4,⟨[],[(2,15,.aY .func)],[⟨[1],[],[(17,31)],[],[]⟩,⟨[2],[],[],[],[]⟩],none,[],[],[]⟩)]) (hq x94 (hq Vz (hq Se hz))) aJ Tryz.call59 Tryz.func59
def f91(a0:bF):Dm:=
 Option.bind (YB a0) fun y1=>if(!decide (y1=(0:Int)))=true then(some y1) else(Option.bind (Xb a0) fun⟨_,b,a⟩=>if(!decide (a=(0:Int)))=true then(some a) else(if(!b)=true then(some (141:Int)) else(some (0:Int))))
def ai3:SS:=⟨22,62,[tI 2],[],[]⟩
def c91:bH:=aI G [.tmp 2] 91 [.val eR] [] 62 ai3 [] (.bZ (u1 f91))
theorem x91:hS c91:=
 cO (hR [hA 1 0,hA 4 1]) (hq x55 (hq x59 hz)) aJ Tryz.call91 Tryz.func91
def xc:Nat→Zd×Int×Zd×Int×Int×Zr→Option (dN (Zd×Int×Zr) (Bool×Zr)):=aL fun aoP ⟨e,f,c,b,a,d⟩=>if(decide (a<b))=true then(if 0≤a then(if a<(List.length c:Int) then(if(aO (.int .i64) .bool (nth (.int .i64) c a) d)=true then(cN (some (false,d))) else(if List.length d+1≤aF then(aoP (e,f,c,b,aQ (a+1),bK (.int .i64) (nth (.int .i64) c a) true d)) else none)) else none) else none) else(some (.aS (e,f,d)))
def Jk(a0:Zd)(a1:Int)(a2:Zr):Option (Bool×Zr):=
 aG (U:=Zd×Int×Zr) (xc (Int.toNat (List.length a0:Int)+1) (a0,a1,a0,(List.length a0:Int),0,a2)) fun⟨a,b,c⟩=>some (decide ((List.length a:Int)=b),c)
def ai4:SS:=⟨25,65,[(1,.val (.slice 8 (.int .i64))),tI 2],[(0,.map (.int .i64) .bool)],[]⟩
def ai5:SS:=⟨25,65,[(0,.mp 0),(1,.val (.slice 8 (.int .i64))),tI 2,(9,.val (.slice 8 (.int .i64))),tI 10,tI 11],[(0,.map (.int .i64) .bool)],[]⟩
def ai6:SS:=⟨25,65,[(6,vB)],[(0,.map (.int .i64) .bool)],[]⟩
def Xc:bH:=aI G [.tmp 6] 92 [.mp 0,.val (.slice 8 (.int .i64)),vI] [(0,.map (.int .i64) .bool)] 65 ai6 [0] (.bZ (u3 Jk))
theorem Xd:hS Xc:=
 cO ⟨[],[(8,ai4)],[],[(2,⟨ai5,fun u2=>Int.toNat u2.2.2.2.1+1⟩)],[],[]⟩ hz aJ Tryz.call92 Tryz.func92
def f57(a0:bF):Dm:=
 Option.bind (f91 a0) fun y1=>if(!decide (y1=(0:Int)))=true then(some y1) else(Option.bind (Xb a0) fun⟨c,b,a⟩=>if(!decide (a=(0:Int)))=true then(some a) else(if(!b)=true then(some (141:Int)) else(Option.bind (Jk c (List.length a0.2.2.1:Int) ([]:Zr)) fun⟨d,_⟩=>if(!d)=true then(some (141:Int)) else(some (0:Int)))))
def ai7:SS:=⟨31,71,[tI 2],[],[]⟩
def c57:bH:=aI G [.tmp 2] 57 [.val eR] [] 71 ai7 [] (.bZ (u1 f57))
theorem x57:hS c57:=
 cO (hR [hA 1 0,hA 4 1,hE 7 [cB 2 [(0,39)] []]]) (hq x91 (hq x59 (hq Xd hz))) aJ Tryz.call57 Tryz.func57
def Ej(a0:bF)(a1:Int)(a2:Int)(a3:Int):Zm:=
 Option.bind (Qd (a0,()) a1 a2) fun⟨a,b⟩=>Option.bind (α:=Bool) (if a=true then(Option.bind (uB (a0,()) b) fun y2=>if y2=true then(if(decide (b.2.1≤a3))=true then(some (decide (a3≤b.2.2.1))) else(some false)) else(some false)) else(some false)) fun v3=>some v3
def ai8:SS:=⟨38,78,[(8,vB)],[],[]⟩
def c13:bH:=aI G [.tmp 8] 13 [.val eR,vI,vI,vI] [] 78 ai8 [] (.bZ (u4 Ej))
theorem x13:hS c13:=
 cO (hR [hA 2 0,hD 3 8 [cA 1]]) (hq Yw (hq x29 hz)) aJ Tryz.call13 Tryz.func13
def tk:Nat→Int×ZG×ZG×Int×Int×bF→Option (dN ZG Bool):=aL fun apq ⟨e,f,c,b,a,d⟩=>if(decide (a<b))=true then(if 0≤a then(if a<(List.length c:Int) then(Option.bind (Ej d e a (nth cS c a).2.1.2.1) fun y6=>if(!y6)=true then(cN (some false)) else(apq (e,f,c,b,aQ (a+1),d))) else none) else none) else(some (.aS f))
def O8(a0:bF)(a1:Int):Zm:=
 aG (U:=Int×bF) (Option.bind (α:=Bool) (if(decide (a1<(0:Int)))=true then(some true) else(some (decide ((List.length a0.2.2.1:Int)≤a1)))) fun v2=>if v2=true then(cN (some false)) else(some (.aS (a1,a0)))) fun⟨a,b⟩=>if 0≤a then(if a<(List.length b.2.2.1:Int) then(aG (U:=ZG) (tk (Int.toNat (List.length (nth aU b.2.2.1 a).2.2.2.2.1:Int)+1) (a,(nth aU b.2.2.1 a).2.2.2.2.1,(nth aU b.2.2.1 a).2.2.2.2.1,(List.length (nth aU b.2.2.1 a).2.2.2.2.1:Int),0,b)) fun v3=>Option.bind (α:=Bool) (if(decide ((0:Int)<(List.length v3:Int)))=true then(if(0:Int)<(List.length v3:Int) then(some (decide ((nth cS v3 (0:Int)).2.1.1=(3:Int)))) else none) else(some false)) fun v7=>some v7) else none) else none
def aja:SS:=⟨50,90,[tI 1,tP 2 18],[(18,bV eR)],[]⟩
def ajb:SS:=⟨50,90,[(5,.val (.slice 120 cS))],[],[]⟩
def ajc:SS:=⟨50,90,[tI 1,tP 2 18,(5,.val (.slice 120 cS)),(23,.val (.slice 120 cS)),tI 24,tI 25],[(18,bV eR)],[]⟩
def ajd:SS:=⟨50,90,[(4,vB)],[],[]⟩
def aje:bH:=aI G [.tmp 4] 150 [.val eR,vI] [] 90 ajd [] (.bZ (u2 O8))
theorem ajf:hS aje:=
 cO ⟨[hD 1 16 [],hA 7 0,hD 10 4 []],[(3,aja),(10,ajb)],[],[(5,⟨ajc,fun u4=>Int.toNat u4.2.2.2.1+1⟩)],[],[]⟩ (hq x13 hz) aJ Tryz.call150 Tryz.func150
def O9(a0:jx)(a1:jx)(a2:Int):Zm:=
 if(!decide (a0.1=a1.1))=true then(some false) else(aG (U:=Int×jx×jx) (Option.bind (α:=Bool) (if(decide (a0.1=(1:Int)))=true then(some true) else(some (decide (a0.1=(2:Int))))) fun v2=>if v2=true then(Option.bind (α:=Bool) (if(decide (a1.2.1=(aQ (a0.2.1+a2))))=true then(if(decide (a1.2.2.1=(aQ (a0.2.2.1+a2))))=true then(some (decide (a0.2.2.2.2.1=a1.2.2.2.2.1))) else(some false)) else(some false)) fun v3=>cN (some v3)) else(some (.aS (a2,a0,a1)))) fun⟨a,b,c⟩=>Option.bind (α:=Bool) (if(decide (a=(0:Int)))=true then(if(decide (b.2.1=c.2.1))=true then(if(decide (b.2.2.1=c.2.2.1))=true then(some (decide ((List.length b.2.2.2.2.2.1:Int)=(List.length c.2.2.2.2.2.1:Int)))) else(some false)) else(some false)) else(some false)) fun v4=>some v4)
def ajg:SS:=⟨68,108,[tI 2,tP 3 19,tP 4 20],[(19,bV qS),(20,bV qS)],[]⟩
def ajh:SS:=⟨68,108,[(6,vB)],[],[]⟩
def aji:bH:=aI G [.tmp 6] 151 [.val qS,.val qS,vI] [] 108 ajh [] (.bZ (u3 O9))
theorem ajj:hS aji:=
 cO ⟨[hD 3 19 [],hD 4 6 [],hD 5 6 []],[(5,ajg)],[],[],[],[]⟩ hz aJ Tryz.call151 Tryz.func151
def AT:Nat→ZG×ZG×Zw×Int×Int×List Bool×List Bool→Zu:=aL fun rec9 ⟨l,m,k,j,i,n,o⟩=>if(decide (i<j))=true then(if 0≤i then(if i<(List.length k:Int) then(aG (U:=ZG×ZG×Zw×Int×Int×gQ×List Bool×List Bool) (Option.bind (α:=Bool) (if(decide ((nth bB k i).2.2.2.1<(1:Int)))=true then(some true) else(if(decide ((List.length l:Int)≤(nth bB k i).2.2.2.1))=true then(some true) else(if(decide ((nth bB k i).2.2.1<(1:Int)))=true then(some true) else(if(decide ((List.length m:Int)≤(nth bB k i).2.2.1))=true then(some true) else(if 0≤(nth bB k i).2.2.2.1 then(if(nth bB k i).2.2.2.1<(List.length n:Int) then(if(nth .bool n (nth bB k i).2.2.2.1)=true then(some true) else(if 0≤(nth bB k i).2.2.1 then(if(nth bB k i).2.2.1<(List.length o:Int) then(some (nth .bool o (nth bB k i).2.2.1)) else none) else none)) else none) else none))))) fun v11=>if v11=true then(cN (cN (some false))) else(some (.aS (l,m,k,j,i,nth bB k i,n,o)))) fun⟨d,e,f,g,h,a,b,c⟩=>if 0≤a.2.2.2.1 then(if a.2.2.2.1<(List.length b:Int) then(if 0≤a.2.2.1 then(if a.2.2.1<(List.length c:Int) then(if 0≤a.2.2.2.1 then(if a.2.2.2.1<(List.length d:Int) then(if 0≤a.2.2.1 then(if a.2.2.1<(List.length e:Int) then(Option.bind (O9 (nth cS d a.2.2.2.1).2.1 (nth cS e a.2.2.1).2.1 a.2.2.2.2.1) fun y12=>if(!y12)=true then(cN (some false)) else(rec9 (d,e,f,g,aQ (h+1),List.set b (Int.toNat a.2.2.2.1) true,List.set c (Int.toNat a.2.2.1) true))) else none) else none) else none) else none) else none) else none) else none) else none) else none) else none) else(some (.aS ()))
def f93(a0:bF)(a1:wP):Zm:=
 aG (U:=bF×wP) (Option.bind (α:=Bool) (if(decide (a1.2.2.1=a1.2.2.2.1))=true then(some true) else(Option.bind (O8 a0 a1.2.2.1) fun y2=>if(!y2)=true then(some true) else(Option.bind (O8 a0 a1.2.2.2.1) fun y3=>some (!y3)))) fun v4=>if v4=true then(cN (some false)) else(some (.aS (a0,a1)))) fun⟨b,a⟩=>if 0≤a.2.2.1 then(if a.2.2.1<(List.length b.2.2.1:Int) then(if 0≤a.2.2.2.1 then(if a.2.2.2.1<(List.length b.2.2.1:Int) then(aG (U:=ZG×ZG×wP) (Option.bind (α:=Bool) (if(!decide ((List.length a.2.2.2.2.1:Int)=(aQ ((List.length (nth aU b.2.2.1 a.2.2.1).2.2.2.2.1:Int) -(1:Int)))))=true then(some true) else(some (!decide ((List.length a.2.2.2.2.1:Int)=(aQ ((List.length (nth aU b.2.2.1 a.2.2.2.1).2.2.2.2.1:Int) -(1:Int))))))) fun v6=>if v6=true then(cN (some false)) else(some (.aS ((nth aU b.2.2.1 a.2.2.1).2.2.2.2.1,(nth aU b.2.2.1 a.2.2.2.1).2.2.2.2.1,a)))) fun⟨c,d,e⟩=>if 0≤(List.length c:Int) then(if(List.length c:Int)≤(List.length c:Int) then(if(List.length c:Int)*(1:Int)≤(aF:Int) then(if 0≤(List.length d:Int) then(if(List.length d:Int)≤(List.length d:Int) then(if(List.length d:Int)*(1:Int)≤(aF:Int) then(aG (U:=Unit) (AT (Int.toNat (List.length e.2.2.2.2.1:Int)+1) (c,d,e.2.2.2.2.1,(List.length e.2.2.2.2.1:Int),0,List.replicate (Int.toNat (List.length c:Int)) false,List.replicate (Int.toNat (List.length d:Int)) false)) fun _=>some true) else none) else none) else none) else none) else none) else none) else none) else none) else none) else none
def ajk:SS:=⟨134,174,[tP 2 18,tP 3 19],[(18,bV eR),(19,bV iU)],[]⟩
def ajl:SS:=⟨134,174,[tP 3 19,(5,.val (.slice 120 cS)),(6,.val (.slice 120 cS))],[(19,bV iU)],[]⟩
def ajm:SS:=⟨134,174,[(5,.val (.slice 120 cS)),(6,.val (.slice 120 cS)),(7,.own 78),(8,.own 81),tP 10 26,(67,.val (.slice 56 bB)),tI 68,tI 69],[(26,bV bB),(78,.row 4 1 .bool),(81,.row 4 1 .bool)],[]⟩
def ajn:SS:=⟨134,174,[],[],[]⟩
def ajo:SS:=⟨134,174,[(5,.val (.slice 120 cS)),(6,.val (.slice 120 cS)),(7,.own 78),(8,.own 81),(67,.val (.slice 56 bB)),tI 68,tI 69],[(78,.row 4 1 .bool),(81,.row 4 1 .bool)],[]⟩
def ajp:SS:=⟨134,174,[(4,vB)],[],[]⟩
def c93:bH:=aI G [.tmp 4] 93 [.val eR,.val iU] [] 174 ajp [] (.bZ (u2 f93))
theorem x93:hS c93:=
 cO ⟨[hD 1 29 [cA 0,cA 0],hD 4 59 [],hD 10 108 [],hA 13 1],[(3,ajk),(6,ajl),(12,ajm),(16,ajn)],[],[(8,⟨ajo,fun u8=>Int.toNat u8.2.2.2.1+1⟩)],[],[]⟩ (hq ajf (hq ajj hz)) aJ Tryz.call93 Tryz.func93
def Jl:Nat→ZC×Int×Int×bF→Option (dN Unit Int):=aL fun aoP ⟨c,b,a,d⟩=>if(decide (a<b))=true then(if 0≤a then(if a<(List.length c:Int) then(Option.bind (f93 d (nth iU c a)) fun y4=>if(!y4)=true then(cN (some (150:Int))) else(aoP (c,b,aQ (a+1),d))) else none) else none) else(some (.aS ()))
def f58(a0:bF):Dm:=
 aG (U:=Unit) (Jl (Int.toNat (List.length a0.2.2.2.2.1:Int)+1) (a0.2.2.2.2.1,(List.length a0.2.2.2.2.1:Int),0,a0)) fun _=>some (0:Int)
def ajr:SS:=⟨17,57,[],[],[]⟩
def ajs:SS:=⟨17,57,[tP 1 17,(6,.val (.slice 72 iU)),tI 7,tI 8],[(17,bV eR)],[]⟩
def ajt:SS:=⟨17,57,[tI 2],[],[]⟩
def c58:bH:=aI G [.tmp 2] 58 [.val eR] [] 57 ajt [] (.bZ (u1 f58))
theorem x58:hS c58:=
 cO ⟨[hA 4 0],[(7,ajr)],[],[(2,⟨ajs,fun u2=>Int.toNat u2.2.1+1⟩)],[],[]⟩ (hq x93 hz) aJ Tryz.call58 Tryz.func58
def f30(a0:bF):Option (Int×GH):=
 aG (U:=bF) (Option.bind (f54 a0) fun y2=>if(!decide (y2=(0:Int)))=true then(cN (some (y2,(([]:Zs),([]:Zw),([]:Zn),([]:Zl),([]:ZC),([]:Zz),()),([]:Zd),()))) else(Option.bind (YB a0) fun y3=>if(!decide (y3=(0:Int)))=true then(cN (some (y3,(([]:Zs),([]:Zw),([]:Zn),([]:Zl),([]:ZC),([]:Zz),()),([]:Zd),()))) else(Option.bind (f56 a0) fun y4=>if(!decide (y4=(0:Int)))=true then(cN (some (y4,(([]:Zs),([]:Zw),([]:Zn),([]:Zl),([]:ZC),([]:Zz),()),([]:Zd),()))) else(Option.bind (f57 a0) fun y5=>if(!decide (y5=(0:Int)))=true then(cN (some (y5,(([]:Zs),([]:Zw),([]:Zn),([]:Zl),([]:ZC),([]:Zz),()),([]:Zd),()))) else(Option.bind (f58 a0) fun y6=>if(!decide (y6=(0:Int)))=true then(cN (some (y6,(([]:Zs),([]:Zw),([]:Zn),([]:Zl),([]:ZC),([]:Zz),()),([]:Zd),()))) else(some (.aS a0))))))) fun v1=>Option.bind (Xb v1) fun⟨b,_,a⟩=>if(!decide (a=(0:Int)))=true then(some (a,(([]:Zs),([]:Zw),([]:Zn),([]:Zl),([]:ZC),([]:Zz),()),([]:Zd),())) else(some (0,v1,b,()))
def aju:SS:=⟨36,76,[tP 1 17,tP 2 18],[(17,bV eR),(18,.var Ie (.cons (.cons .aM (.cons .aM (.cons .aM (.cons .aM (.cons .aM (.cons .aM .nil)))))) (.cons .aM .nil)))],[]⟩
def ajv:SS:=⟨36,76,[tP 2 18,tI 3],[(18,bV Ie)],[]⟩
def c30:bH:=aI G [.cell 2 32,.tmp 3] 30 [.val eR] [] 76 ajv [] (.bZ (u1 f30))
theorem x30:hS c30:=
 cO ⟨[hE 5 [⟨[4,3,2,1,0],[],[],[],[]⟩],hA 9 5],[(9,aju)],[],[],[(3,12)],[]⟩ (hq x54 (hq x55 (hq x56 (hq x57 (hq x58 (hq x59 hz)))))) aJ Tryz.call30 Tryz.func30
def f48(a0:Zf):Option (Int×Int×GH):=
 Option.bind (f68 a0) fun⟨b,_,a⟩=>if(!decide (a=(0:Int)))=true then none else(Option.bind (f69 b) fun⟨d,c⟩=>if(!decide (c=(0:Int)))=true then none else(Option.bind (f30 d) fun⟨e,f⟩=>some (0,e,f)))
def ajw:SS:=⟨33,73,[tP 2 18,tI 3,tI 4],[(18,bV Ie)],[]⟩
def c48:bH:=aI G [.cell 2 32,.tmp 3,.tmp 4] 48 [.val .str] [] 73 ajw [] (.bZ (u1 f48))
theorem x48:hS c48:=
 cO (hR [hA 1 0,(3,⟨[],[],[],none,[(0,9999)],[],[]⟩),hA 4 1,(6,⟨[],[],[],none,[(0,9999)],[],[]⟩),hA 7 2]) (hq x68 (hq x69 (hq x30 hz))) aJ Tryz.call48 Tryz.func48
def f49(a0:Int)(a1:Int)(a2:Int)(a3:Int)(a4:Int):Option iL:=
 some ((0,a0,aQ ((aQ ((16:Int)*a1))+a2),()),a3,(0,1024,()),5,a4,())
def ajx:SS:=⟨21,61,[tP 10 26],[(26,bV aN)],[]⟩
def c49:bH:=aI G [.cell 10 119] 49 [vI,vI,vI,vI,vI] [] 61 ajx [] (.bZ (u5 f49))
theorem x49:hS c49:=
 cO (hR []) hz aJ Tryz.call49 Tryz.func49
def f25:Option (Bool×aV):=
 Option.bind (f48 [105,115,115,117,101,114,32,114,59,32,115,99,104,101,109,97,32,98,105,114,116,104,32,98,121,32,114,32,118,101,114,115,105,111,110,32,49,32,115,101,108,102,32,48,32,48,32,48,32,48,32,123,32,102,105,101,108,100,32,100,97,121,32,58,32,100,97,116,101,32,48,32,48,32,48,32,48,59,32,102,105,101,108,100,32,109,111,116,104,101,114,32,58,32,112,101,114,115,111,110,32,48,32,48,32,48,32,48,59,32,125,32,115,99,104,101,109,97,32,99,104,105,108,100,32,98,121,32,114,32,118,101,114,115,105,111,110,32,49,32,115,101,108,102,32,48,32,48,32,48,32,48,32,123,32,102,105,101,108,100,32,111,102,32,58,32,112,101,114,115,111,110,32,48,32,48,32,48,32,48,59,32,102,105,101,108,100,32,115,105,110,99,101,32,58,32,100,97,116,101,32,48,32,48,32,48,32,48,59,32,125,32,100,101,114,105,118,101,32,99,104,105,108,100,32,123,32,102,114,111,109,32,98,32,98,105,114,116,104,59,32,102,114,111,109,32,109,32,98,105,114,116,104,32,111,102,32,98,46,109,111,116,104,101,114,59,32,119,104,101,114,101,32,109,46,100,97,121,32,60,32,98,46,100,97,121,59,32,119,104,101,114,101,32,98,46,100,97,121,32,60,61,32,57,48,59,32,115,101,116,32,111,102,32,61,32,98,46,109,111,116,104,101,114,59,32,115,101,116,32,115,105,110,99,101,32,61,32,98,46,100,97,121,59,32,125]) fun⟨_,a,b⟩=>Option.bind (f49 (3:Int) (0:Int) (1:Int) (50:Int) (0:Int)) fun y2=>Option.bind (f49 (3:Int) (0:Int) (2:Int) (7:Int) (1:Int)) fun y3=>Option.bind (f49 (7:Int) (1:Int) (1:Int) (20:Int) (2:Int)) fun y4=>Option.bind (f49 (7:Int) (1:Int) (2:Int) (9:Int) (3:Int)) fun y5=>some (decide (a=(0:Int)),b,[y2,y3,y4,y5],())
def ajy:SS:=⟨19,59,[tP 0 16,(1,vB)],[(16,bV gH)],[]⟩
def c25:bH:=aI G [.cell 0 35,.tmp 1] 25 [] [] 59 ajy [] (.bZ (fun _=>f25))
theorem x25:hS c25:=
 cO (hR [hA 1 0,hE 2 [cA 1,cA 1,cA 1,cA 1]]) (hq x48 (hq x49 hz)) aJ Tryz.call25 Tryz.func25
def f31(a0:GH)(a1:GH):Zm:=
 Option.bind (α:=Bool) (Option.bind (Ys a0.1 a1.1) fun y1=>if y1=true then(Option.bind (f61 a0.2.1 a1.2.1) fun y2=>some y2) else(some false)) fun v3=>some v3
def ajA:SS:=⟨17,57,[(4,vB)],[],[]⟩
def c31:bH:=aI G [.tmp 4] 31 [.val Ie,.val Ie] [] 57 ajA [] (.bZ (u2 f31))
theorem x31:hS c31:=
 cO (hR [hD 1 4 [cA 0,cA 1]]) (hq x60 (hq x61 hz)) aJ Tryz.call31 Tryz.func31
def vT(a0:GH):Dm:=
 Option.bind (f30 a0.1) fun⟨a,b⟩=>Option.bind (α:=Bool) (if(!decide (a=(0:Int)))=true then(some true) else(Option.bind (f31 b a0) fun y2=>some (!y2))) fun v3=>if v3=true then(some (160:Int)) else(some (0:Int))
def ajB:SS:=⟨18,58,[tI 2],[],[]⟩
def c14:bH:=aI G [.tmp 2] 14 [.val Ie] [] 58 ajB [] (.bZ (u1 vT))
theorem Tv:hS c14:=
 cO (hR [hA 1 0,hD 2 17 [cA 1]]) (hq x30 (hq x31 hz)) aJ Tryz.call14 Tryz.func14
def Pa(a0:Int)(a1:Int)(a2:aaq):Option (aaq×Zt):=
 some (a2,a2.1,a2.2.1,a0,a1,a2.2.2.2.2.1,a2.2.2.2.2.2.1,a2.2.2.2.2.2.2.2.2.2,([]:Zk),([]:Zj),([]:Zi))
def ajC:SS:=⟨20,60,[tP 6 23],[(0,bV rf),(23,fB 32 33 36),(32,.map aR fA),(33,.map bN .bool),(36,.row 84 40 bN)],[]⟩
def Xe:bH:=aI G [.tmp 6] 65 [pP 0,vI,vI] [(0,bV rf)] 60 ajC [0,23,32,33,36] (.bZ (u3 Pa))
theorem Xf:hS Xe:=
 cO (hR [(3,⟨[.z8 23 [.d6 8] 36 84 40 bN],[],[],none,[],[],[]⟩)]) hz aJ Tryz.call65 Tryz.func65
def pa:Nat→Int×Int×Zh×Int×Int×aV×XR→Option (dN (Int×Int×aV×XR) Zt):=aL fun aoP ⟨e,f,c,b,a,g,d,h,i,j,k,l⟩=>if(decide (a<b))=true then(if 0≤a then(if a<(List.length c:Int) then(if bM aR (nth aN c a).1 (nth aN c a).1=true then(if List.length d+1≤aF then(if(List.length (aO aR (.slice 64 aN) (nth aN c a).1 d)+List.length [nth aN c a])*64≤aF then(aoP (e,f,c,b,aQ (a+1),g,bK aR (nth aN c a).1 ((aO aR (.slice 64 aN) (nth aN c a).1 d)++[nth aN c a]) (bK aR (nth aN c a).1 (Ty.aH (.slice 64 aN)) d),h,i,j,k,l)) else none) else none) else none) else none) else none) else(some (.aS (e,f,g,d,h,i,j,k,l)))
def pb:Nat→Int×Int×Zl×Int×Int×XR→Option (dN (Int×Int×XR) Zt):=aL fun rec6 ⟨e,f,c,b,a,g,d,h,i,j,k⟩=>if(decide (a<b))=true then(if 0≤a then(if a<(List.length c:Int) then(if List.length d+1≤aF then(rec6 (e,f,c,b,aQ (a+1),g,bK (.int .i64) (nth bX c a).2.1 true d,h,i,j,k)) else none) else none) else none) else(some (.aS (e,f,g,d,h,i,j,k)))
def iz(a0:aV)(a1:Int)(a2:Int)(a3:Bool):Option Zt:=
 aG (U:=Int×Int×aV×XR) (pa (Int.toNat (List.length a0.2.1:Int)+1) (a1,a2,a0.2.1,(List.length a0.2.1:Int),0,a0,([]:ZD),([]:Zr),a0,0,0,a3)) fun⟨b,c,a,d,e,f,g,h,i⟩=>aG (U:=Int×Int×XR) (pb (Int.toNat (List.length a.1.1.2.2.2.1:Int)+1) (b,c,a.1.1.2.2.2.1,(List.length a.1.1.2.2.2.1:Int),0,d,e,f,g,h,i)) fun⟨j,k,m,q,l,n,o,p⟩=>Option.bind (Pa j k (l,some m,n,o,p,some q,(none:Option Zk),(none:Option Zj),([]:Zi),())) fun⟨_,r,s,t,u,v,w,x,y,z,aa⟩=>some (r,s,t,u,v,w,x,y,z,aa)
def ajD:SS:=⟨60,100,[tI 1,tI 2,tP 4 20,tP 9 35],[(20,bV gH),(31,.pmap aR (.slice 64 aN) 119),(33,.map (.int .i64) .bool),(35,.var rf (.cons (.val gH) (.cons (.mp 31) (.cons vI (.cons vI (.cons vB (.cons (.mp 33) (.cons .ia (.cons .ia (.cons .aM .nil))))))))))],[]⟩
def ajE:SS:=⟨60,100,[tI 1,tI 2,tP 9 35],[(31,.map aR (.slice 64 aN)),(33,.map (.int .i64) .bool),(35,.var rf (.cons (.val gH) (.cons (.mp 31) (.cons vI (.cons vI (.cons vB (.cons (.mp 33) (.cons .ia (.cons .ia (.cons .aM .nil))))))))))],[]⟩
def ajF:SS:=⟨60,100,[tI 1,tI 2,tP 4 20,tP 9 35,(21,.val (.slice 64 aN)),tI 22,tI 23],[(20,bV gH),(31,.pmap aR (.slice 64 aN) 119),(33,.map (.int .i64) .bool),(35,.var rf (.cons (.val gH) (.cons (.mp 31) (.cons vI (.cons vI (.cons vB (.cons (.mp 33) (.cons .ia (.cons .ia (.cons .aM .nil))))))))))],[]⟩
def ajG:SS:=⟨60,100,[tI 1,tI 2,tP 9 35,(43,.val (.slice 96 bX)),tI 44,tI 45],[(31,.map aR (.slice 64 aN)),(33,.map (.int .i64) .bool),(35,.var rf (.cons (.val gH) (.cons (.mp 31) (.cons vI (.cons vI (.cons vB (.cons (.mp 33) (.cons .ia (.cons .ia (.cons .aM .nil))))))))))],[]⟩
def ajH:SS:=⟨60,100,[tP 8 75],[(75,fB 76 77 78),(76,.map aR fA),(77,.map bN .bool),(78,.row 84 40 bN)],[]⟩
def Xg:bH:=aI G [.tmp 8] 42 [.val gH,vI,vI,vB] [] 100 ajH [75,76,77,78] (.bZ (u4 iz))
theorem sA:hS Xg:=
 cO ⟨[(2,⟨[.NP 31 119],[],[],none,[],[],[]⟩),(5,⟨[],[],[],none,[],[.map 2 31 76 (.c 11 [.d6 0]),.jc 31],[.yx 31,.qT 31]⟩),(7,⟨[.Ms 31],[],[],none,[],[],[]⟩),(12,⟨[.freeze 31 (.map aR (.slice 64 aN)),.freeze 33 (.map (.int .i64) .bool),.Iw 35],[],[⟨[0],[(0,35)],[(23,75),(32,76),(33,77),(36,78)],[],[]⟩],none,[],[],[]⟩)],[(7,ajD),(12,ajE)],[],[(3,⟨ajF,fun u2=>Int.toNat u2.2.2.2.1+1⟩),(8,⟨ajG,fun u5=>Int.toNat u5.2.2.2.1+1⟩)],[],[]⟩ (hq Xf hz) aJ Tryz.call42 Tryz.func42
def jO(a0:Int)(a1:Int)(a2:aV)(a3:Zc)(a4:Int)(a5:Int)(a6:Bool)(a7:Ze)(a8:Unit)(a9:Zk)(a10:Zj)(a11:Zi):Option (Bool×Zt):=
 Option.bind (α:=Bool) (if a6=true then(if(aO (.int .i64) .bool a0 (bA a7))=true then(if(decide ((0:Int)≤a1))=true then(if(decide (a1<(4096:Int)))=true then(if(decide ((0:Int)≤a4))=true then(some (decide (a4<(1024:Int)))) else(some false)) else(some false)) else(some false)) else(some false)) else(some false)) fun v1=>some (v1,a2,a3,a4,a5,a6,a7,a8,a9,a10,a11)
def ajI:SS:=⟨41,81,[(6,vB)],[(0,fB 1 2 3),(1,.map aR fA),(2,.map bN .bool),(3,.row 84 40 bN)],[]⟩
def Xh:bH:=aI G [.tmp 6] 51 [pP 0,vI,vI] [(0,fB 1 2 3),(1,.map aR fA),(2,.map bN .bool),(3,.row 84 40 bN)] 81 ajI [0,1,2,3] (.bZ (Ww jO))
theorem sB:hS Xh:=
 cO (hR [hD 1 6 []]) hz aJ Tryz.call51 Tryz.func51
def Jm:SS:=⟨75,115,[tP 4 20],[(0,fB 1 2 93),(1,.map aR fA),(2,.map bN .bool),(20,bV fA),(93,.row 84 40 bN)],[]⟩
def AU(q:Zg):bH:=aI G [.cell 4 86] 52 [pP 0,.val aR] [(0,fB 1 2 3),(1,.map aR fA),(2,.map bN .bool),(3,.row 84 40 bN)] 115 Jm [0,1,2,93] (.bZ q)
def Tw:SS:=⟨77,117,[(5,vB)],[(0,.var (.slice 48 bS) (.own 99)),(1,bV bX),(2,.var (.aY .ptr) (pP 6)),(3,bI),(4,.var (.aY .func) (.func 218 .nil (.cons (pP 0) (.cons (pP 1) (.cons (pP 2) (.cons (pP 3) (.cons (pP 4) .nil))))))),(6,fB 7 8 100),(7,.map aR fA),(8,.map bN .bool),(99,.row 39 48 bS),(100,.row 84 40 bN)],[]⟩
def vU(q:Zp):bH:=aI G [.tmp 5] 218 [pP 0,pP 1,pP 2,pP 3,pP 4] [(0,.var (.slice 48 bS) (.own 5)),(1,bV bX),(2,.var (.aY .ptr) (pP 6)),(3,bI),(4,.var (.aY .func) (.func 218 .nil (.cons (pP 0) (.cons (pP 1) (.cons (pP 2) (.cons (pP 3) (.cons (pP 4) .nil))))))),(5,.row 39 48 bS),(6,fB 7 8 9),(7,.map aR fA),(8,.map bN .bool),(9,.row 84 40 bN)] 117 Tw [0,1,2,3,4,6,7,8,99,100] (.bZ q)
def mf(_q0_:Zg)(q1_:Zp)(a0:eU)(a1:Int)(a2:aV)(a3:Zc)(a4:Int)(a5:Int)(a6:Bool)(a7:Ze)(a8:Unit)(a9:Zk)(a10:Zj)(a11:Zi):Option (Bool×Zb):=
 Option.bind (q1_ (a0,a1,([]:Zo),a2,a3,a4,a5,a6,a7,a8,a9,a10,a11,())) fun⟨a,_,_,b,c,d,e,f,g,h,i,j,l,k⟩=>if(!a)=true then(some (false,b,c,d,e,f,g,h,i,j,([]:Zo),k)) else(some (true,b,c,d,e,f,g,h,i,j,l,k))
def ajJ:SS:=⟨14,54,[tP 6 22,(7,vB)],[(0,fB 1 2 31),(1,.map aR fA),(2,.map bN .bool),(22,.var (.slice 48 bS) (.val (.slice 48 bS))),(31,.row 84 40 bN)],[]⟩
def Tx(q0_:Zg)(q1_:Zp):bH:=aI G [.cell 6 43,.tmp 7] 133 [pP 0,.val bX,vI] [(0,fB 1 2 3),(1,.map aR fA),(2,.map bN .bool),(3,.row 84 40 bN)] 54 ajJ [0,1,2,31] (.bZ (Ww (mf q0_ q1_)))
theorem Tz(q0_:Zg)(q1_:Zp)(_h0_:hS (AU q0_))(h1_:hS (vU q1_)):hS (Tx q0_ q1_):=
 cO (hR [(3,⟨[.z8 22 [] 30 39 48 bS],[],[⟨[0],[(0,22),(1,20),(2,19),(3,21),(4,24),(5,30),(6,0),(7,1),(8,2),(9,3)],[(99,27),(100,31)],[],[]⟩],none,[],[],[]⟩)]) (hq h1_ hz) aJ Tryz.call133 Tryz.func133
def sC(a0:gQ)(a1:Zo):Dm:=
 if(decide (a0.2.2.1=(-1:Int)))=true then(some a0.2.2.2.2.1) else(if 0≤a0.2.2.1 then(if a0.2.2.1<(List.length a1:Int) then(if 0≤a0.2.2.2.1 then(if a0.2.2.2.1<(List.length (nth bS a1 a0.2.2.1).2.2.2.1:Int) then(some (nth (.int .i64) (nth bS a1 a0.2.2.1).2.2.2.1 a0.2.2.2.1)) else none) else none) else none) else none)
def ajK:SS:=⟨20,60,[tI 4],[],[]⟩
def ajL:bH:=aI G [.tmp 4] 220 [.val bB,.val (.slice 48 bS)] [] 60 ajK [] (.bZ (u2 sC))
theorem Xi:hS ajL:=
 cO (hR []) hz aJ Tryz.call220 Tryz.func220
def dQ:Nat→Int×Zo×ZF×Int×Zam→Option (dN Zam (aV×Zc×Int×Int×Bool×Ze×Unit×Zk×Zj×Zi×jB)):=aL fun aoP ⟨f,d,c,b,a,g,h,i,j,k,l,m,n,o,p,q,r,s,t,e⟩=>if(decide (a<b))=true then(if 0≤a then(if a<(List.length c:Int) then(Option.bind (sC (nth dF c a).2.2.1 d) fun y4=>if 0≤(nth dF c a).2.1 then(if(nth dF c a).2.1<(List.length e:Int) then(aoP (f,d,c,b,aQ (a+1),g,h,i,j,k,l,m,n,o,p,q,r,s,t,List.set e (Int.toNat (nth dF c a).2.1) y4)) else none) else none) else none) else none) else(some (.aS (f,g,h,i,j,k,l,m,n,o,p,q,r,s,t,e)))
def fD(a0:eU)(a1:Int)(a2:Zo)(a3:aV)(a4:Zc)(a5:Int)(a6:Int)(a7:Bool)(a8:Ze)(a9:Unit)(a10:Zk)(a11:Zj)(a12:Zi):Option (aV×Zc×Int×Int×Bool×Ze×Unit×Zk×Zj×Zi×jB):=
 if 0≤a0.2.1 then(if a0.2.1<(List.length a3.1.1.2.2.1:Int) then(if 0≤(List.length (nth aU a3.1.1.2.2.1 a0.2.1).2.2.2.2.1:Int) then(if(List.length (nth aU a3.1.1.2.2.1 a0.2.1).2.2.2.2.1:Int)≤(List.length (nth aU a3.1.1.2.2.1 a0.2.1).2.2.2.2.1:Int) then(if(List.length (nth aU a3.1.1.2.2.1 a0.2.1).2.2.2.2.1:Int)*(8:Int)≤(aF:Int) then(if(0:Int)<(List.length (List.replicate (Int.toNat (List.length (nth aU a3.1.1.2.2.1 a0.2.1).2.2.2.2.1:Int)) (0:Int)):Int) then(aG (U:=Zam) (dQ (Int.toNat (List.length a0.2.2.2.2.1:Int)+1) (a1,a2,a0.2.2.2.2.1,(List.length a0.2.2.2.2.1:Int),0,a3,a4,a5,a6,a7,a8,a9,a10,a11,a12,a0,0,0,0,List.set (List.replicate (Int.toNat (List.length (nth aU a3.1.1.2.2.1 a0.2.1).2.2.2.2.1:Int)) (0:Int)) (Int.toNat (0:Int)) a1)) fun⟨l,a,b,c,d,e,f,g,h,i,j,k,_,_,_,m⟩=>some (a,b,c,d,e,f,g,h,i,j,k.2.1,l,0,m,())) else none) else none) else none) else none) else none) else none
def ajM:SS:=⟨50,90,[tI 2,tP 5 21,tP 8 24,(9,.own 41)],[(0,fB 1 2 3),(1,.map aR fA),(2,.map bN .bool),(3,.row 84 40 bN),(21,bV bX),(24,.var bS (.cons vI (.cons vI (.cons vI (.cons .aM .nil))))),(41,.row 3 8 (.int .i64))],[]⟩
def ajN:SS:=⟨50,90,[tI 2,(3,.val (.slice 48 bS)),tP 5 21,tP 8 24,(9,.own 41),(30,.val (.slice 80 dF)),tI 31,tI 32],[(0,fB 1 2 3),(1,.map aR fA),(2,.map bN .bool),(3,.row 84 40 bN),(21,bV bX),(24,.var bS (.cons vI (.cons vI (.cons vI (.cons .aM .nil))))),(41,.row 3 8 (.int .i64))],[]⟩
def ajO:SS:=⟨50,90,[tP 8 24],[(0,fB 1 2 3),(1,.map aR fA),(2,.map bN .bool),(3,.row 84 40 bN),(24,bV bS)],[]⟩
def TA:bH:=aI G [.cell 8 39] 134 [pP 0,.val bX,vI,.val (.slice 48 bS)] [(0,fB 1 2 3),(1,.map aR fA),(2,.map bN .bool),(3,.row 84 40 bN)] 90 ajO [0,1,2,3] (.bZ (L0 fD))
theorem TB:hS TA:=
 cO ⟨[hA 6 0],[(8,ajM)],[],[(4,⟨ajN,fun u2=>Int.toNat u2.2.2.2.1+1⟩)],[],[]⟩ (hq Xi hz) aJ Tryz.call134 Tryz.func134
def pd(q0_:Zg)(q1_:Zp):Nat→Zl×Int×Int×aV×Zc×Int×Int×Bool×Ze×Unit×Zk×Zj×hJ×Int×Int×Int×Int×Bool×Zi→Option (dN (aV×Zc×Int×Int×Bool×Ze×Unit×Zk×Zj×Int×Int×Int×Int×Bool×Zi) XU):=aL fun aoP ⟨z,y,x,ab,ac,ad,ae,af,ag,ah,ai,aj,aa,ak,al,am,an,ao,ap⟩=>if(decide (x<y))=true then(if 0≤x then(if x<(List.length z:Int) then(if(!decide ((nth bX z x).2.1=aa.1))=true then(aoP (z,y,aQ (x+1),ab,ac,ad,ae,af,ag,ah,ai,aj,aa,ak,al,am,an,ao,ap)) else(Option.bind (mf q0_ q1_ (nth bX z x) aa.2.1 ab ac ad ae af ag ah ai aj ap) fun⟨a,c,d,e,f,g,h,i,j,k,b,l⟩=>if a=true then(Option.bind (fD (nth bX z x) aa.2.1 b c d e f g h i j k l) fun⟨m,n,o,p,q,r,s,t,u,w,v⟩=>cN (some (m,n,o,p,q,r,s,t,u,(v,x,b,true,()),w))) else(aoP (z,y,aQ (x+1),c,d,e,f,g,h,i,j,k,aa,ak,al,am,an,ao,l)))) else none) else none) else(some (.aS (ab,ac,ad,ae,af,ag,ah,ai,aj,ak,al,am,an,ao,ap)))
def lA(q0_:Zg)(q1_:Zp)(a0:hJ)(a1:aV)(a2:Zc)(a3:Int)(a4:Int)(a5:Bool)(a6:Ze)(a7:Unit)(a8:Zk)(a9:Zj)(a10:Zi):Option XU:=
 aG (U:=aV×Zc×Int×Int×Bool×Ze×Unit×Zk×Zj×Int×Int×Int×Int×Bool×Zi) (pd q0_ q1_ (Int.toNat (List.length a1.1.1.2.2.2.1:Int)+1) (a1.1.1.2.2.2.1,(List.length a1.1.1.2.2.2.1:Int),0,a1,a2,a3,a4,a5,a6,a7,a8,a9,a0,0,0,0,0,false,a10)) fun⟨a,b,c,d,e,f,g,h,i,j,k,l,m,n,o⟩=>some (a,b,c,d,e,f,g,h,i,((j,k,l,([]:Zd),()),m,([]:Zo),n,()),o)
def ajP:SS:=⟨47,87,[tP 4 20],[(0,fB 1 2 64),(1,.map aR fA),(2,.map bN .bool),(20,.var fA (.cons (.cons vI (.cons vI (.cons vI (.cons .aM .nil)))) (.cons vI (.cons .aM (.cons vB .nil))))),(64,.row 84 40 bN)],[]⟩
def ajQ:SS:=⟨47,87,[tP 0 0,tP 3 19,tP 4 20,(15,.val (.slice 96 bX)),tI 16,tI 17],[(0,fB 1 2 63),(1,.map aR fA),(2,.map bN .bool),(19,bV aR),(20,.var fA (.cons (.cons vI (.cons vI (.cons vI (.cons .aM .nil)))) (.cons vI (.cons .aM (.cons vB .nil))))),(63,.row 84 40 bN)],[]⟩
def ajR:SS:=⟨47,87,[tP 4 20],[(0,fB 1 2 65),(1,.map aR fA),(2,.map bN .bool),(20,bV fA),(65,.row 84 40 bN)],[]⟩
def Xj(q0_:Zg)(q1_:Zp):bH:=aI G [.cell 4 86] 71 [pP 0,.val aR] [(0,fB 1 2 3),(1,.map aR fA),(2,.map bN .bool),(3,.row 84 40 bN)] 87 ajR [0,1,2,65] (.bZ (Ii (lA q0_ q1_)))
theorem Xk(q0_:Zg)(q1_:Zp)(h0_:hS (AU q0_))(h1_:hS (vU q1_)):hS (Xj q0_ q1_):=
 cO ⟨[hE 5 [cB 0 [(0,0),(1,1),(2,2),(3,63)] [(31,48)]],hE 7 [cB 1 [(0,0),(1,1),(2,2),(3,48)] []]],[(9,ajP)],[],[(2,⟨ajQ,fun u2=>Int.toNat u2.2.1+1⟩)],[],[]⟩ (hq (Tz q0_ q1_ h0_ h1_) (hq TB hz)) aJ Tryz.call71 Tryz.func71
def iT:Nat→Int×Int×aV×Zc×Int×Int×Bool×Ze×Unit×Zk×Zj×Zi×hJ×GH×Zh→Option (dN (aV×Zc×Int×Int×Bool×Ze×Unit×Zk×Zj×Zi×GH×Zh) (aV×Zc×Int×Int×Bool×Ze×Unit×Zk×Zj×Zi×aV)):=aL fun api ⟨b,a,f,e,g,h,i,j,k,l,m,n,d,o,c⟩=>if(decide (a<b))=true then(if(List.length c+List.length (aO aR (.slice 64 aN) (d.1,d.2.1,aQ ((aQ ((16:Int)*d.2.2.1))+a),()) (bA e)))*64≤aF then(api (b,aQ (a+1),f,e,g,h,i,j,k,l,m,n,d,o,c++(aO aR (.slice 64 aN) (d.1,d.2.1,aQ ((aQ ((16:Int)*d.2.2.1))+a),()) (bA e)))) else none) else(some (.aS (f,e,g,h,i,j,k,l,m,n,o,c)))
def d9(a0:hJ)(a1:aV)(a2:Zc)(a3:Int)(a4:Int)(a5:Bool)(a6:Ze)(a7:Unit)(a8:Zk)(a9:Zj)(a10:Zi):Option (aV×Zc×Int×Int×Bool×Ze×Unit×Zk×Zj×Zi×aV):=
 aG (U:=aV×Zc×Int×Int×Bool×Ze×Unit×Zk×Zj×Zi×GH×Zh) (Option.bind (α:=Bool) (if(decide ((0:Int)≤a0.1))=true then(some (decide (a0.1<(List.length a1.1.1.2.2.1:Int)))) else(some false)) fun v2=>if v2=true then(if 0≤a0.1 then(if a0.1<(List.length a1.1.1.2.2.1:Int) then(iT (Int.toNat (List.length (nth aU a1.1.1.2.2.1 a0.1).2.2.2.2.1:Int)+1) ((List.length (nth aU a1.1.1.2.2.1 a0.1).2.2.2.2.1:Int),0,a1,a2,a3,a4,a5,a6,a7,a8,a9,a10,a0,a1.1,([]:Zh))) else none) else none) else(some (.aS (a1,a2,a3,a4,a5,a6,a7,a8,a9,a10,a1.1,([]:Zh))))) fun⟨a,b,c,d,e,f,g,h,i,j,k,l⟩=>some (a,b,c,d,e,f,g,h,i,j,k,l,())
def ajS:SS:=⟨62,102,[tP 4 20,tP 5 21],[(0,fB 1 2 3),(1,.map aR fA),(2,.map bN .bool),(3,.row 84 40 bN),(20,.var gH (.cons (.cons (.cons .aM (.cons .aM (.cons .aM (.cons .aM (.cons .aM (.cons .aM .nil)))))) (.cons .aM .nil)) (.cons .aM .nil))),(21,.var gH (.cons (.val Ie) (.cons (.own 79) .nil))),(79,.row 119 64 aN)],[]⟩
def ajT:SS:=⟨62,102,[tP 0 0,tP 3 19,tP 4 20,tP 5 21,tI 36,tI 37],[(0,fB 1 2 3),(1,.map aR fA),(2,.map bN .bool),(3,.row 84 40 bN),(19,bV aR),(20,.var gH (.cons (.cons (.cons .aM (.cons .aM (.cons .aM (.cons .aM (.cons .aM (.cons .aM .nil)))))) (.cons .aM .nil)) (.cons .aM .nil))),(21,.var gH (.cons (.val Ie) (.cons (.own 78) .nil))),(78,.row 119 64 aN)],[]⟩
def ajU:SS:=⟨62,102,[tP 4 20],[(0,fB 1 2 3),(1,.map aR fA),(2,.map bN .bool),(3,.row 84 40 bN),(20,bV gH)],[]⟩
def Xl:bH:=aI G [.cell 4 35] 72 [pP 0,.val aR] [(0,fB 1 2 3),(1,.map aR fA),(2,.map bN .bool),(3,.row 84 40 bN)] 102 ajU [0,1,2,3] (.bZ (Ii d9))
theorem Xm:hS Xl:=
 cO ⟨[hD 2 26 []],[(9,ajS)],[],[(4,⟨ajT,fun u3=>Int.toNat u3.1+1⟩)],[],[]⟩ hz aJ Tryz.call72 Tryz.func72
def qG:Nat→Int×Zl×Int×Int×Zr→Option (dN (Int×Zr) Bool):=aL fun apq ⟨e,c,b,a,d⟩=>if(decide (a<b))=true then(if 0≤a then(if a<(List.length c:Int) then(if List.length d+1≤aF then(apq (e,c,b,aQ (a+1),bK (.int .i64) (nth bX c a).2.1 true d)) else none) else none) else none) else(some (.aS (e,d)))
def KR(a0:bF)(a1:Int):Zm:=
 aG (U:=Int×bF) (Option.bind (α:=Bool) (if(decide (a1<(0:Int)))=true then(some true) else(if(decide ((List.length a0.2.2.1:Int)≤a1))=true then(some true) else(if 0≤a1 then(if a1<(List.length a0.2.2.1:Int) then(some (decide ((List.length (nth aU a0.2.2.1 a1).2.2.2.2.1:Int)<(2:Int)))) else none) else none))) fun v2=>if v2=true then(cN (some false)) else(some (.aS (a1,a0)))) fun⟨b,a⟩=>aG (U:=Int×Zr) (qG (Int.toNat (List.length a.2.2.2.1:Int)+1) (b,a.2.2.2.1,(List.length a.2.2.2.1:Int),0,([]:Zr))) fun⟨c,d⟩=>some (!(aO (.int .i64) .bool c d))
def ajV:SS:=⟨43,83,[tI 1,tP 2 18],[(18,bV eR)],[]⟩
def ajW:SS:=⟨43,83,[tI 1,(5,.mp 43)],[(43,.map (.int .i64) .bool)],[]⟩
def ajX:SS:=⟨43,83,[tI 1,(5,.mp 43),(29,.val (.slice 96 bX)),tI 30,tI 31],[(43,.map (.int .i64) .bool)],[]⟩
def ajY:SS:=⟨43,83,[(4,vB)],[],[]⟩
def c33:bH:=aI G [.tmp 4] 33 [.val eR,vI] [] 83 ajY [] (.bZ (u2 KR))
theorem x33:hS c33:=
 cO ⟨[hD 1 26 []],[(3,ajV),(9,ajW)],[],[(5,⟨ajX,fun u4=>Int.toNat u4.2.2.1+1⟩)],[],[]⟩ hz aJ Tryz.call33 Tryz.func33
def wa(a0:Int)(a1:Int):Zm:=
 Option.bind (α:=Bool) (if(decide ((0:Int)≤a0))=true then(if(decide (a0<(4096:Int)))=true then(if(decide ((0:Int)≤a1))=true then(some (decide (a1<(4:Int)))) else(some false)) else(some false)) else(some false)) fun v1=>some v1
def ajZ:SS:=⟨19,59,[(4,vB)],[],[]⟩
def c34:bH:=aI G [.tmp 4] 34 [vI,vI] [] 59 ajZ [] (.bZ (u2 wa))
theorem x34:hS c34:=
 cO (hR [hD 1 4 []]) hz aJ Tryz.call34 Tryz.func34
def Pb(a0:Int)(a1:Int)(a2:Int)(a3:Int):Option hJ:=
 some (a0,a1,aQ ((aQ ((16:Int)*a2))+a3),())
def aj0:SS:=⟨16,56,[tP 8 24],[(24,bV aR)],[]⟩
def c36:bH:=aI G [.cell 8 82] 36 [vI,vI,vI,vI] [] 56 aj0 [] (.bZ (u4 Pb))
theorem x36:hS c36:=
 cO (hR []) hz aJ Tryz.call36 Tryz.func36
def sD(a0:Zh)(a1:hJ)(a2:Int):Option (Zh×hJ×Int):=
 some (a0,a1,a2)
def aj1:SS:=⟨8,48,[(6,.func 107 .nil (.cons (pP 19) (.cons (pP 20) (.cons (pP 21) .nil))))],[(19,.var (.slice 64 aN) (.val (.slice 64 aN))),(20,bV aR),(21,bI)],[]⟩
def Xn:bH:=aI G [.tmp 6] 63 [.val (.slice 64 aN),.val aR,vI] [] 48 aj1 [19,20,21] (.bZ (u3 sD))
theorem Pc:hS Xn:=
 cO (hR []) hz aJ Tryz.call63 Tryz.func63
def TC(a0:Int):Zm:=
 some (!decide (a0=a0))
def aj2:SS:=⟨6,46,[(2,vB)],[],[]⟩
def aj3:bH:=aI G [.tmp 2] 168 [vI] [] 46 aj2 [] (.bZ (u1 TC))
theorem aj4:hS aj3:=
 cO (hR []) hz aJ Tryz.call168 Tryz.func168
def Pd(a0:Int)(a1:Int):Dm:=
 Option.bind (TC a0) fun y1=>Option.bind (TC a1) fun y2=>if y1=true then(if y2=true then(some (0:Int)) else(some (-1:Int))) else(if y2=true then(some (1:Int)) else(if(decide (a0<a1))=true then(some (-1:Int)) else(if(decide (a1<a0))=true then(some (1:Int)) else(some (0:Int)))))
def aj5:SS:=⟨20,60,[tI 4],[],[]⟩
def aj6:bH:=aI G [.tmp 4] 109 [vI,vI] [] 60 aj5 [] (.bZ (u2 Pd))
theorem aj7:hS aj6:=
 cO (hR [hA 1 0,hA 2 0]) (hq aj4 hz) aJ Tryz.call109 Tryz.func109
def Ek:Nat→Int×Zd×ZP→Option (dN Int Int):=aL fun aoP ⟨d,c,b,a⟩=>if(decide (a<b))=true then(if 0≤a then(if a<(List.length c:Int) then(if(!decide ((nth (.int .i64) c a)=d))=true then(cN (some (nth (.int .i64) c a))) else(aoP (d,c,b,aQ (a+1)))) else none) else none) else(some (.aS d))
def Pe(a0:Zd):Dm:=
 aG (U:=Int) (Ek (Int.toNat (List.length a0:Int)+1) (0,a0,(List.length a0:Int),0)) fun v1=>some v1
def aj8:SS:=⟨18,58,[tI 3],[],[]⟩
def aj9:SS:=⟨18,58,[tI 3,(6,.val (.slice 8 (.int .i64))),tI 7,tI 8],[],[]⟩
def aka:SS:=⟨18,58,[tI 2],[],[]⟩
def akb:bH:=aI G [.tmp 2] 108 [.val (.slice 8 (.int .i64))] [] 58 aka [] (.bZ (u1 Pe))
theorem akc:hS akb:=
 cO ⟨[],[(8,aj8)],[],[(3,⟨aj9,fun u2=>Int.toNat u2.2.2.1+1⟩)],[],[]⟩ hz aJ Tryz.call108 Tryz.func108
def f64(a0:iL)(a1:iL):Dm:=
 Option.bind (Pd a0.2.2.2.1 a1.2.2.2.1) fun y1=>Option.bind (Pd a0.2.2.2.2.1 a1.2.2.2.2.1) fun y2=>Option.bind (Pe [y1,y2]) fun y3=>some y3
def akd:SS:=⟨17,57,[tI 4],[],[]⟩
def c64:bH:=aI G [.tmp 4] 64 [.val aN,.val aN] [] 57 akd [] (.bZ (u2 f64))
theorem x64:hS c64:=
 cO (hR [hE 1 [cA 0,cA 0,cA 1]]) (hq aj7 (hq akc hz)) aJ Tryz.call64 Tryz.func64
def uz(l_:Nat)(Y_:iL×YC×Nat×Nat×Int×Nat×iL×Nat×Bool×Unit→Zaw):Nat→Nat×Zh×Int×Int×ZW→Option (dN ZW ZW):=aL fun aoP ⟨o,l,k,j,p,q,r,s,t,u,v,w,x,m,n⟩=>if(decide (j<k))=true then(if 0≤j then(if j<(List.length l:Int) then(if(bM aR (nth aN l j).1 m)=true then(if(decide ((nth aN l j).2.2.2.1≤n))=true then(if o=l_ then(Option.bind (Y_ (nth aN l j,p,q,r,s,t,u,v,w,())) fun⟨a,b,c,d,e,f,g,h,i⟩=>if(!a)=true then(cN (some (b,c,d,e,f,g,h,i,x,m,n))) else(aoP (o,l,k,aQ (j+1),b,c,d,e,f,g,h,i,x,m,n))) else none) else(aoP (o,l,k,aQ (j+1),p,q,r,s,t,u,v,w,x,m,n))) else(aoP (o,l,k,aQ (j+1),p,q,r,s,t,u,v,w,x,m,n))) else none) else none) else(some (.aS (p,q,r,s,t,u,v,w,x,m,n)))
def El(l_:Nat)(Y_:iL×YC×Nat×Nat×Int×Nat×iL×Nat×Bool×Unit→Zaw)(a0:Nat)(a1:YC)(a2:Nat)(a3:Nat)(a4:Int)(a5:Nat)(a6:iL)(a7:Nat)(a8:Bool)(a9:Zh)(a10:hJ)(a11:Int):Option ZW:=
 aG (U:=ZW) (uz l_ Y_ (Int.toNat (List.length a9:Int)+1) (a0,a9,(List.length a9:Int),0,a1,a2,a3,a4,a5,a6,a7,a8,a9,a10,a11)) fun⟨a,b,c,d,e,f,g,h,i,j,k⟩=>some (a,b,c,d,e,f,g,h,i,j,k)
def abc:SS:=⟨30,70,[],[(0,.lp),(1,.tv (.int .i64) vI),(2,.tv aN (.val aN)),(3,.tv .bool vB),(4,.var (.slice 64 aN) (.val (.slice 64 aN))),(5,bV aR),(6,bI)],[]⟩
def ake:SS:=⟨30,70,[(0,.Ey),tP 2 5,tP 3 6,(7,.val (.slice 64 aN)),tI 8,tI 9],[(0,.lp),(1,.tv (.int .i64) vI),(2,.tv aN (.val aN)),(3,.tv .bool vB),(4,.var (.slice 64 aN) (.val (.slice 64 aN))),(5,bV aR),(6,bI)],[]⟩
def Em:IC:=⟨[.val aN],[(0,.lp),(1,.tv (.int .i64) vI),(2,.tv aN (.val aN)),(3,.tv .bool vB)],90,0,[(1,.tv (.int .i64) vI),(2,.tv aN (.val aN)),(3,.tv .bool vB)],fun l f=>aI G [] 107 [.Ey,pP 4,pP 5,pP 6] [(0,.lp),(1,.tv (.int .i64) vI),(2,.tv aN (.val aN)),(3,.tv .bool vB),(4,.var (.slice 64 aN) (.val (.slice 64 aN))),(5,bV aR),(6,bI)] 70 abc [0,1,2,3,4,5,6] (.bZ (Ww (El l f)))⟩
theorem TE:Em.holds Tryz.prog gl:=fun B hB l f hY=>
 bH.of tied (H:=⟨[hE 3 [cB 0 [(0,0),(1,1),(2,2),(3,3)] []]],[],[(0,abc)],[(1,⟨ake,fun u2=>Int.toNat u2.2.2.1+1⟩)],[],[]⟩) (hold (l:=[IC.Y Em l f]) ⟨hY,trivial⟩) aJ rfl Tryz.call107 Tryz.func107 rfl rfl rfl rfl (fun _=>by kernel_rfl) (fun _=>by kernel_rfl)
def En(y_:YC)(b5_0:iL)(yt:YC)(yj:Nat)(g1:Nat)(c5_0:Int)(g2:Nat)(c5_1:iL)(g3:Nat)(c5_2:Bool):Zaw:=
 PE yt y_ (if yj=0 then(if g1=y_.gs 1 then(if g2=y_.gs 2 then(if g3=y_.gs 3 then(Option.bind (α:=Nat×Nat×Int×Nat×iL×Nat×Bool) (Option.bind (α:=Bool) (if(decide (b5_0.2.2.1.1≤c5_0))=true then(if(decide (c5_0<b5_0.2.2.1.2.1))=true then(if(!c5_2)=true then(some true) else(Option.bind (f64 c5_1 b5_0) fun y3=>some (decide (y3≤(0:Int))))) else(some false)) else(some false)) fun v4=>if v4=true then(some (0,y_.gs 1,c5_0,y_.gs 2,b5_0,y_.gs 3,true)) else(some (0,y_.gs 1,c5_0,y_.gs 2,c5_1,y_.gs 3,c5_2))) fun r_=>if r_.2.1=y_.gs 1 then(if r_.2.2.2.1=y_.gs 2 then(if r_.2.2.2.2.2.1=y_.gs 3 then(some (Nat.beq r_.1 0,y_,r_.1,r_.2.1,r_.2.2.1,r_.2.2.2.1,r_.2.2.2.2.1,r_.2.2.2.2.2.1,r_.2.2.2.2.2.2)) else none) else none) else none) else none) else none) else none) else none)
def f37(a0:Zh)(a1:hJ)(a2:Int)(a3:Int):Option (Int×Bool):=
 aG (U:=Nx) (Option.bind (sD a0 a1 a3) fun⟨a,b,c⟩=>Bg fun y5=>Option.bind (El y5.l (fun d=>En y5 d.1 d.2.1 d.2.2.1 d.2.2.2.1 d.2.2.2.2.1 d.2.2.2.2.2.1 d.2.2.2.2.2.2.1 d.2.2.2.2.2.2.2.1 d.2.2.2.2.2.2.2.2.1) y5.l y5 0 (y5.gs 1) a2 (y5.gs 2) ((0,0,0,()),0,(0,0,()),0,0,()) (y5.gs 3) false a b c) fun⟨e,f,_,_,_,g,_,h,_,_,_⟩=>PE e y5 (if f=0 then(some (.aS (g,h))) else none)) fun⟨j,i⟩=>Option.bind (α:=Bool) (if(!i)=true then(some true) else(some (decide (j.2.1<(0:Int))))) fun v7=>if v7=true then(some (0,false)) else(some (j.2.1,true))
def akg:SS:=⟨50,90,[tP 10 26,tP 11 27],[(26,bV aN),(27,.var .bool vB),(68,.AZ)],[.mp 68]⟩
def akh:SS:=⟨50,90,[tP 6 22,tI 8,(9,vB),tP 10 26,tP 11 27,(16,.func 107 .nil (.cons (pP 32) (.cons (pP 66) (.cons (pP 67) .nil))))],[(22,bI),(26,bV aN),(27,.var .bool vB),(32,.var (.slice 64 aN) (.val (.slice 64 aN))),(66,bV aR),(67,bI)],[]⟩
def aki:SS:=⟨50,90,[],[(1,bI),(2,bV aN),(3,.var .bool vB)],[]⟩
def abd:SS:=⟨50,90,[tI 8,(9,vB)],[],[]⟩
def c37:bH:=aI G [.tmp 8,.tmp 9] 37 [.val (.slice 64 aN),.val aR,vI,vI] [] 90 abd [] (.bZ (u4 f37))
theorem x37:hS c37:=
 cO ⟨[hE 3 [cB 0 [] [(19,32),(20,66),(21,67)]],hD 5 39 [cA 1],hD 7 47 []],[(7,akg)],[],[],[],[(5,⟨0,68,69,[(1,.int .i64),(2,aN),(3,.bool)],[(22,1),(26,2),(27,3)],[],[(0,69),(1,22),(2,26),(3,27),(4,32),(5,66),(6,67)],[],akh,aki⟩)]⟩ (hq Pc (hq x64 hz)) (FY (L:=[Em]) ⟨TE,trivial⟩) Tryz.call37 Tryz.func37
end Go.Proofs.YtkhfnbfpgcjllaaGreatDoor
