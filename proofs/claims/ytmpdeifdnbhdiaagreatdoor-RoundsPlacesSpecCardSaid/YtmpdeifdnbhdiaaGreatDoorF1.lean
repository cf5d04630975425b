/- Made by program (dec.py): walks -/
import Derived.Test.YtmpdeifdnbhdiaaGreatDoorH2
import Derived.Test.YtmpdeifdnbhdiaaGreatDoorS6
set_option maxRecDepth 100000
namespace Go.Proofs.YtmpdeifdnbhdiaaGreatDoor
open Go.Abs
def f5:Option Bool:=
 some true
theorem x5(r:Bool)(h:f5=some r):Fc Tryz.prog gl 5 [] (aA (List.replicate 229 none) []) (.ret (.val .bool r)) (bz 229 []):=by
 cases h
 exact Ei _
def f19(a0:List UInt8)(a1:List Int):Option aO:=
 Option.bind (f42 [bytesOf a0]) fun y1=>Option.bind (f42 [aS y1 0 32,a1]) fun y3=>some y3
abbrev N3(a0:List UInt8)(a1:List Int)(r:aO):Prop:=Fc Tryz.prog gl 19 [(.val .str a0),(.val (.slice 1 (.int .u8)) a1)] (aA (List.replicate 54 none) []) (.ret (.val aD r)) (bz 54 [])
theorem QG(a0:List UInt8)(a1:List Int)(r:aO)(h:f19 a0 a1=some r):N3 a0 a1 r:=by
 refine Fc.of Tryz.call19 (bW.aG tied Tryz.func19 rfl rfl (σ0:=ao 14 54 [(0,(.val .str a0)),(1,(.val (.slice 1 (.int .u8)) a1))] []) (by kernel_rfl) ?_)
 unfold f19 at h
 refine aF ?_
 obtain⟨y1,hy2,h⟩:=bind_some h
 refine cH [⟨(.val aD y1),[],[],[],66⟩] [] [] [Oy [bytesOf a0] y1] ⟨Oz _ _ hy2,trivial⟩ ?_
 refine ai.gh [.freeze 21 (.slice 1 (.int .u8))] (σ':=ao 14 54 [(0,(.val .str a0)),(1,(.val (.slice 1 (.int .u8)) a1)),(4,(.ptr 20 [])),(5,(.ec aD y1)),(6,(.val .str a0)),(7,(.val (.slice 1 (.int .u8)) (bytesOf a0))),(8,(.own 24)),(9,(.val aD y1))] [(20,some (.var aD (.val aD (Ty.aX aD)))),(24,some (.row 72 24 (.slice 1 (.int .u8)) [bytesOf a0]))]) (by kernel_rfl) ?_
 obtain⟨y3,hy4,h⟩:=bind_some h
 refine cH [⟨(.val aD y3),[],[],[],66⟩] [] [] [Oy [aS y1 0 32,a1] y3] ⟨Oz _ _ hy4,trivial⟩ ?_
 refine ai.ret ?_
 obtain rfl:=Option.some.inj h
 exact(av [] [some aD] (cL 54 []) (by kernel_rfl)).1
def Ou(a0:Int):Option Int:=
 Option.bind (if(decide ((4294967296:Int)≤a0))=true then(some (Int.fdiv a0 (2^(min (Int.toNat (32:Int)) 64)),(32:Int))) else(some (a0,(0:Int)))) fun(o1:Int×Int)=>Option.bind (if(decide ((65536:Int)≤o1.1))=true then(some (Int.fdiv o1.1 (2^(min (Int.toNat (16:Int)) 64)),al (o1.2+(16:Int)))) else(some (o1.1,o1.2))) fun(o3:Int×Int)=>Option.bind (if(decide ((256:Int)≤o3.1))=true then(some (Int.fdiv o3.1 (2^(min (Int.toNat (8:Int)) 64)),al (o3.2+(8:Int)))) else(some (o3.1,o3.2))) fun(o5:Int×Int)=>if 0≤(IntKind.u8.wrap (o5.1))∧(IntKind.u8.wrap (o5.1))<(List.length [0,1,2,2,3,3,3,3,4,4,4,4,4,4,4,4,5,5,5,5,5,5,5,5,5,5,5,5,5,5,5,5,6,6,6,6,6,6,6,6,6,6,6,6,6,6,6,6,6,6,6,6,6,6,6,6,6,6,6,6,6,6,6,6,7,7,7,7,7,7,7,7,7,7,7,7,7,7,7,7,7,7,7,7,7,7,7,7,7,7,7,7,7,7,7,7,7,7,7,7,7,7,7,7,7,7,7,7,7,7,7,7,7,7,7,7,7,7,7,7,7,7,7,7,7,7,7,7,8,8,8,8,8,8,8,8,8,8,8,8,8,8,8,8,8,8,8,8,8,8,8,8,8,8,8,8,8,8,8,8,8,8,8,8,8,8,8,8,8,8,8,8,8,8,8,8,8,8,8,8,8,8,8,8,8,8,8,8,8,8,8,8,8,8,8,8,8,8,8,8,8,8,8,8,8,8,8,8,8,8,8,8,8,8,8,8,8,8,8,8,8,8,8,8,8,8,8,8,8,8,8,8,8,8,8,8,8,8,8,8,8,8,8,8,8,8,8,8,8,8,8,8,8,8,8,8]:Int) then(some (al (o5.2+(al (Ew [0,1,2,2,3,3,3,3,4,4,4,4,4,4,4,4,5,5,5,5,5,5,5,5,5,5,5,5,5,5,5,5,6,6,6,6,6,6,6,6,6,6,6,6,6,6,6,6,6,6,6,6,6,6,6,6,6,6,6,6,6,6,6,6,7,7,7,7,7,7,7,7,7,7,7,7,7,7,7,7,7,7,7,7,7,7,7,7,7,7,7,7,7,7,7,7,7,7,7,7,7,7,7,7,7,7,7,7,7,7,7,7,7,7,7,7,7,7,7,7,7,7,7,7,7,7,7,7,8,8,8,8,8,8,8,8,8,8,8,8,8,8,8,8,8,8,8,8,8,8,8,8,8,8,8,8,8,8,8,8,8,8,8,8,8,8,8,8,8,8,8,8,8,8,8,8,8,8,8,8,8,8,8,8,8,8,8,8,8,8,8,8,8,8,8,8,8,8,8,8,8,8,8,8,8,8,8,8,8,8,8,8,8,8,8,8,8,8,8,8,8,8,8,8,8,8,8,8,8,8,8,8,8,8,8,8,8,8,8,8,8,8,8,8,8,8,8,8,8,8,8,8,8,8,8,8] (IntKind.u8.wrap (o5.1))))))) else none
abbrev PN(a0:Int)(r:Int):Prop:=Fc Tryz.prog gl 77 [(.val (.int .u64) a0)] (aA (List.replicate 65 none) []) (.ret (.val (.int .i64) r)) (bz 65 [])
theorem QH(a0:Int)(r:Int)(h:Ou a0=some r):PN a0 r:=by
 refine Fc.of Tryz.call77 (bW.aG tied Tryz.func77 rfl rfl (σ0:=ao 25 65 [(0,(.val (.int .u64) a0))] []) (by kernel_rfl) ?_)
 unfold Ou at h
 refine aF ?_
 obtain⟨o1,h1,h⟩:=bind_some h
 refine ai.aZ (fun σ'=>σ'=ao 25 65 [(0,(.val (.int .u64) o1.1)),(2,(.val (.int .i64) o1.2))] []) ?_ ?_
 ·refine aF ?_
  rcases ae h1 with⟨hc2,h1⟩|⟨hc2,h1⟩
  ·refine cg hc2 ?_
   refine cH [] [] [] [0≤(32:Int)] ⟨(by decide),trivial⟩ ?_
   refine fS ?_
   obtain rfl:=Option.some.inj h1
   exact bx [.ak [0,2] []] rfl
  ·refine cq hc2 ?_
   refine ai.skip ?_
   obtain rfl:=Option.some.inj h1
   exact bx [.ak [0,2] []] rfl
 ·rintro _ rfl
  obtain⟨o3,h2,h⟩:=bind_some h
  refine ai.aZ (fun σ'=>σ'=ao 25 65 [(0,(.val (.int .u64) o3.1)),(2,(.val (.int .i64) o3.2))] []) ?_ ?_
  ·refine aF ?_
   rcases ae h2 with⟨hc4,h2⟩|⟨hc4,h2⟩
   ·refine cg hc4 ?_
    refine cH [] [] [] [0≤(16:Int)] ⟨(by decide),trivial⟩ ?_
    refine fS ?_
    obtain rfl:=Option.some.inj h2
    exact bx [.ak [0,2] []] rfl
   ·refine cq hc4 ?_
    refine ai.skip ?_
    obtain rfl:=Option.some.inj h2
    exact bx [.ak [0,2] []] rfl
  ·rintro _ rfl
   obtain⟨o5,h3,h⟩:=bind_some h
   refine ai.aZ (fun σ'=>σ'=ao 25 65 [(0,(.val (.int .u64) o5.1)),(2,(.val (.int .i64) o5.2))] []) ?_ ?_
   ·refine aF ?_
    rcases ae h3 with⟨hc6,h3⟩|⟨hc6,h3⟩
    ·refine cg hc6 ?_
     refine cH [] [] [] [0≤(8:Int)] ⟨(by decide),trivial⟩ ?_
     refine fS ?_
     obtain rfl:=Option.some.inj h3
     exact bx [.ak [0,2] []] rfl
    ·refine cq hc6 ?_
     refine ai.skip ?_
     obtain rfl:=Option.some.inj h3
     exact bx [.ak [0,2] []] rfl
   ·rintro _ rfl
    obtain⟨hv7,h⟩:=ab h
    refine cH [] [] [] [0≤(IntKind.u8.wrap (o5.1)),(IntKind.u8.wrap (o5.1))<(List.length [0,1,2,2,3,3,3,3,4,4,4,4,4,4,4,4,5,5,5,5,5,5,5,5,5,5,5,5,5,5,5,5,6,6,6,6,6,6,6,6,6,6,6,6,6,6,6,6,6,6,6,6,6,6,6,6,6,6,6,6,6,6,6,6,7,7,7,7,7,7,7,7,7,7,7,7,7,7,7,7,7,7,7,7,7,7,7,7,7,7,7,7,7,7,7,7,7,7,7,7,7,7,7,7,7,7,7,7,7,7,7,7,7,7,7,7,7,7,7,7,7,7,7,7,7,7,7,7,8,8,8,8,8,8,8,8,8,8,8,8,8,8,8,8,8,8,8,8,8,8,8,8,8,8,8,8,8,8,8,8,8,8,8,8,8,8,8,8,8,8,8,8,8,8,8,8,8,8,8,8,8,8,8,8,8,8,8,8,8,8,8,8,8,8,8,8,8,8,8,8,8,8,8,8,8,8,8,8,8,8,8,8,8,8,8,8,8,8,8,8,8,8,8,8,8,8,8,8,8,8,8,8,8,8,8,8,8,8,8,8,8,8,8,8,8,8,8,8,8,8,8,8,8,8,8,8]:Int)] ⟨hv7.1,hv7.2,trivial⟩ ?_
    refine ai.ret ?_
    obtain rfl:=Option.some.inj h
    exact(av [] [some (.int .i64)] (cL 65 []) (by kernel_rfl)).1
def f44(a0:Int):Option Int:=
 Option.bind (Ou a0) fun y1=>some y1
abbrev Ov(a0:Int)(r:Int):Prop:=Fc Tryz.prog gl 44 [(.val (.int .u64) a0)] (aA (List.replicate 48 none) []) (.ret (.val (.int .i64) r)) (bz 48 [])
theorem PO(a0:Int)(r:Int)(h:f44 a0=some r):Ov a0 r:=by
 refine Fc.of Tryz.call44 (bW.aG tied Tryz.func44 rfl rfl (σ0:=ao 8 48 [(0,(.val (.int .u64) a0))] []) (by kernel_rfl) ?_)
 unfold f44 at h
 refine aF ?_
 refine ai.seq ?_
 refine ai.Db (b:=false) (by kernel_rfl) rfl ?_
 refine zk ?_
 obtain⟨y1,hy2,h⟩:=bind_some h
 refine cH [⟨(.val (.int .i64) y1),[],[],[],65⟩] [] [] [PN a0 y1] ⟨QH _ _ hy2,trivial⟩ ?_
 refine ai.ret ?_
 obtain rfl:=Option.some.inj h
 exact(av [] [some (.int .i64)] (cL 48 []) (by kernel_rfl)).1
def Kh(a0:Int):Option Bool:=
 some (!decide (a0=a0))
abbrev Ow(a0:Int)(r:Bool):Prop:=Fc Tryz.prog gl 78 [(.val (.int .i64) a0)] (aA (List.replicate 46 none) []) (.ret (.val .bool r)) (bz 46 [])
theorem PQ(a0:Int)(r:Bool)(h:Kh a0=some r):Ow a0 r:=by
 refine Fc.of Tryz.call78 (bW.aG tied Tryz.func78 rfl rfl (σ0:=ao 6 46 [(0,(.val (.int .i64) a0))] []) (by kernel_rfl) ?_)
 unfold Kh at h
 refine aF ?_
 refine aF ?_
 refine ai.ret ?_
 obtain rfl:=Option.some.inj h
 exact(av [] [some .bool] (cL 46 []) (by kernel_rfl)).1
def f45(a0:Int)(a1:Int):Option Int:=
 Option.bind (Kh a0) fun y1=>Option.bind (Kh a1) fun y3=>if y1=true then(if y3=true then(some (0:Int)) else(some (-1:Int))) else(if y3=true then(some (1:Int)) else(if(decide (a0<a1))=true then(some (-1:Int)) else(if(decide (a1<a0))=true then(some (1:Int)) else(some (0:Int)))))
abbrev PR(a0:Int)(a1:Int)(r:Int):Prop:=Fc Tryz.prog gl 45 [(.val (.int .i64) a0),(.val (.int .i64) a1)] (aA (List.replicate 60 none) []) (.ret (.val (.int .i64) r)) (bz 60 [])
theorem QI(a0:Int)(a1:Int)(r:Int)(h:f45 a0 a1=some r):PR a0 a1 r:=by
 refine Fc.of Tryz.call45 (bW.aG tied Tryz.func45 rfl rfl (σ0:=ao 20 60 [(0,(.val (.int .i64) a0)),(1,(.val (.int .i64) a1))] []) (by kernel_rfl) ?_)
 unfold f45 at h
 refine aF ?_
 obtain⟨y1,hy2,h⟩:=bind_some h
 refine cH [⟨(.val .bool y1),[],[],[],46⟩] [] [] [Ow a0 y1] ⟨PQ _ _ hy2,trivial⟩ ?_
 obtain⟨y3,hy4,h⟩:=bind_some h
 refine cH [⟨(.val .bool y3),[],[],[],46⟩] [] [] [Ow a1 y3] ⟨PQ _ _ hy4,trivial⟩ ?_
 refine ai.seq ?_
 refine aF ?_
 rcases ae h with⟨hc9,h⟩|⟨hc9,h⟩
 ·refine cg hc9 ?_
  refine ai.seq ?_
  refine aF ?_
  rcases ae h with⟨hc5,h⟩|⟨hc5,h⟩
  ·refine cg hc5 ?_
   refine aF ?_
   refine ai.ret ?_
   obtain rfl:=Option.some.inj h
   exact(av [] [some (.int .i64)] (cL 60 []) (by kernel_rfl)).1
  ·refine cq hc5 ?_
   refine zk ?_
   refine aF ?_
   refine ai.ret ?_
   obtain rfl:=Option.some.inj h
   exact(av [] [some (.int .i64)] (cL 60 []) (by kernel_rfl)).1
 ·refine cq hc9 ?_
  refine zk ?_
  refine ai.seq ?_
  refine aF ?_
  rcases ae h with⟨hc8,h⟩|⟨hc8,h⟩
  ·refine cg hc8 ?_
   refine aF ?_
   refine ai.ret ?_
   obtain rfl:=Option.some.inj h
   exact(av [] [some (.int .i64)] (cL 60 []) (by kernel_rfl)).1
  ·refine cq hc8 ?_
   refine zk ?_
   refine ai.seq ?_
   refine aF ?_
   rcases ae h with⟨hc7,h⟩|⟨hc7,h⟩
   ·refine cg hc7 ?_
    refine aF ?_
    refine ai.ret ?_
    obtain rfl:=Option.some.inj h
    exact(av [] [some (.int .i64)] (cL 60 []) (by kernel_rfl)).1
   ·refine cq hc7 ?_
    refine zk ?_
    refine ai.seq ?_
    refine aF ?_
    rcases ae h with⟨hc6,h⟩|⟨hc6,h⟩
    ·refine cg hc6 ?_
     refine aF ?_
     refine ai.ret ?_
     obtain rfl:=Option.some.inj h
     exact(av [] [some (.int .i64)] (cL 60 []) (by kernel_rfl)).1
    ·refine cq hc6 ?_
     refine zk ?_
     refine aF ?_
     refine ai.ret ?_
     obtain rfl:=Option.some.inj h
     exact(av [] [some (.int .i64)] (cL 60 []) (by kernel_rfl)).1
def BU(a0:Int):Option Bool:=
 some (!decide (a0=a0))
abbrev I5(a0:Int)(r:Bool):Prop:=Fc Tryz.prog gl 117 [(.val (.int .u8) a0)] (aA (List.replicate 46 none) []) (.ret (.val .bool r)) (bz 46 [])
theorem KG(a0:Int)(r:Bool)(h:BU a0=some r):I5 a0 r:=by
 refine Fc.of Tryz.call117 (bW.aG tied Tryz.func117 rfl rfl (σ0:=ao 6 46 [(0,(.val (.int .u8) a0))] []) (by kernel_rfl) ?_)
 unfold BU at h
 refine aF ?_
 refine aF ?_
 refine ai.ret ?_
 obtain rfl:=Option.some.inj h
 exact(av [] [some .bool] (cL 46 []) (by kernel_rfl)).1
def KH(a0:Int)(a1:Int):Option Int:=
 Option.bind (BU a0) fun y1=>Option.bind (BU a1) fun y3=>if y1=true then(if y3=true then(some (0:Int)) else(some (-1:Int))) else(if y3=true then(some (1:Int)) else(if(decide (a0<a1))=true then(some (-1:Int)) else(if(decide (a1<a0))=true then(some (1:Int)) else(some (0:Int)))))
abbrev PT(a0:Int)(a1:Int)(r:Int):Prop:=Fc Tryz.prog gl 79 [(.val (.int .u8) a0),(.val (.int .u8) a1)] (aA (List.replicate 60 none) []) (.ret (.val (.int .i64) r)) (bz 60 [])
theorem QJ(a0:Int)(a1:Int)(r:Int)(h:KH a0 a1=some r):PT a0 a1 r:=by
 refine Fc.of Tryz.call79 (bW.aG tied Tryz.func79 rfl rfl (σ0:=ao 20 60 [(0,(.val (.int .u8) a0)),(1,(.val (.int .u8) a1))] []) (by kernel_rfl) ?_)
 unfold KH at h
 refine aF ?_
 obtain⟨y1,hy2,h⟩:=bind_some h
 refine cH [⟨(.val .bool y1),[],[],[],46⟩] [] [] [I5 a0 y1] ⟨KG _ _ hy2,trivial⟩ ?_
 obtain⟨y3,hy4,h⟩:=bind_some h
 refine cH [⟨(.val .bool y3),[],[],[],46⟩] [] [] [I5 a1 y3] ⟨KG _ _ hy4,trivial⟩ ?_
 refine ai.seq ?_
 refine aF ?_
 rcases ae h with⟨hc9,h⟩|⟨hc9,h⟩
 ·refine cg hc9 ?_
  refine ai.seq ?_
  refine aF ?_
  rcases ae h with⟨hc5,h⟩|⟨hc5,h⟩
  ·refine cg hc5 ?_
   refine aF ?_
   refine ai.ret ?_
   obtain rfl:=Option.some.inj h
   exact(av [] [some (.int .i64)] (cL 60 []) (by kernel_rfl)).1
  ·refine cq hc5 ?_
   refine zk ?_
   refine aF ?_
   refine ai.ret ?_
   obtain rfl:=Option.some.inj h
   exact(av [] [some (.int .i64)] (cL 60 []) (by kernel_rfl)).1
 ·refine cq hc9 ?_
  refine zk ?_
  refine ai.seq ?_
  refine aF ?_
  rcases ae h with⟨hc8,h⟩|⟨hc8,h⟩
  ·refine cg hc8 ?_
   refine aF ?_
   refine ai.ret ?_
   obtain rfl:=Option.some.inj h
   exact(av [] [some (.int .i64)] (cL 60 []) (by kernel_rfl)).1
  ·refine cq hc8 ?_
   refine zk ?_
   refine ai.seq ?_
   refine aF ?_
   rcases ae h with⟨hc7,h⟩|⟨hc7,h⟩
   ·refine cg hc7 ?_
    refine aF ?_
    refine ai.ret ?_
    obtain rfl:=Option.some.inj h
    exact(av [] [some (.int .i64)] (cL 60 []) (by kernel_rfl)).1
   ·refine cq hc7 ?_
    refine zk ?_
    refine ai.seq ?_
    refine aF ?_
    rcases ae h with⟨hc6,h⟩|⟨hc6,h⟩
    ·refine cg hc6 ?_
     refine aF ?_
     refine ai.ret ?_
     obtain rfl:=Option.some.inj h
     exact(av [] [some (.int .i64)] (cL 60 []) (by kernel_rfl)).1
    ·refine cq hc6 ?_
     refine zk ?_
     refine aF ?_
     refine ai.ret ?_
     obtain rfl:=Option.some.inj h
     exact(av [] [some (.int .i64)] (cL 60 []) (by kernel_rfl)).1
def jy(a0:List Int)(a1:List Int):Nat→Int→Option (iQ Unit Int)
 |0,_=>none
 |n1+1,RS=>if(decide (RS<(List.length a0:Int)))=true then(if 0≤RS∧RS<(List.length a0:Int) then(if(decide ((List.length a1:Int)≤RS))=true then(some (.ret (1:Int))) else(if RS<(List.length a1:Int) then(Option.bind (KH (nth (.int .u8) a0 RS) (nth (.int .u8) a1 RS)) fun y4=>if(!decide (y4=(0:Int)))=true then(some (.ret y4)) else(jy a0 a1 n1 (al (RS+(1:Int))))) else none)) else none) else(some (.brk ()))
def f46(a0:List Int)(a1:List Int):Option Int:=
 Option.bind (jy a0 a1 (List.length a0+1) (0:Int)) fun(o1:iQ Unit Int)=>match o1 with| .brk _v9=>(if(decide ((List.length a0:Int)<(List.length a1:Int)))=true then(some (-1:Int)) else(some (0:Int)))| .ret r11=>(some r11)
abbrev PU(a0:List Int)(a1:List Int)(r:Int):Prop:=Fc Tryz.prog gl 46 [(.val (.slice 1 (.int .u8)) a0),(.val (.slice 1 (.int .u8)) a1)] (aA (List.replicate 76 none) []) (.ret (.val (.int .i64) r)) (bz 76 [])
theorem QK(a0:List Int)(a1:List Int)(r:Int)(h:f46 a0 a1=some r):PU a0 a1 r:=by
 refine Fc.of Tryz.call46 (bW.aG tied Tryz.func46 rfl rfl (σ0:=ao 36 76 [(0,(.val (.slice 1 (.int .u8)) a0)),(1,(.val (.slice 1 (.int .u8)) a1))] []) (by kernel_rfl) ?_)
 unfold f46 at h
 refine aF ?_
 obtain⟨o1,h1,h⟩:=bind_some h
 refine ai.aZ (fun σ'=>∃v9,o1= .brk v9∧σ'=ao 36 76 [(0,(.val (.slice 1 (.int .u8)) a0)),(1,(.val (.slice 1 (.int .u8)) a1))] []) ?_ ?_
 ·refine aF ?_
  refine ai.block ?_
  refine ai.aV (fun n σ=>∃(RS:Int),jy a0 a1 n RS=some o1∧σ=ao 36 76 [(0,(.val (.slice 1 (.int .u8)) a0)),(1,(.val (.slice 1 (.int .u8)) a1)),(9,(.val (.slice 1 (.int .u8)) a0)),(10,(.val (.int .i64) (List.length a0:Int))),(11,(.val (.int .i64) RS))] []) [.ak [0,1,9,10,11] []] (by kernel_rfl) ⟨_,h1,rfl⟩ ?_
  rintro n1 _ ⟨RS,h3,rfl⟩
  cases n1 with
  |zero=>exact absurd h3 (by simp[jy])
  |
   succ n1=>
   unfold jy at h3
   refine aF ?_
   refine ai.seq ?_
   rcases ae h3 with⟨hc8,h3⟩|⟨hc8,h3⟩
   ·refine cg hc8 ?_
    refine zk ?_
    refine ai.seq ?_
    refine ai.block ?_
    obtain⟨Sx,h3⟩:=ab h3
    refine cH [] [] [] [0≤RS,RS<(List.length a0:Int)] ⟨Sx.1,Sx.2,trivial⟩ ?_
    refine ai.seq ?_
    refine aF ?_
    rcases ae h3 with⟨hc7,h3⟩|⟨hc7,h3⟩
    ·refine cg hc7 ?_
     refine aF ?_
     refine ai.ret ?_
     obtain rfl:=Option.some.inj h3
     dsimp only at h
     obtain rfl:=Option.some.inj h
     exact(av [] [some (.int .i64)] (cL 76 []) (by kernel_rfl)).1
    ·refine cq hc7 ?_
     refine zk ?_
     obtain⟨hv3,h3⟩:=ab h3
     refine cH [] [] [] [0≤RS,RS<(List.length a1:Int)] ⟨Sx.1,hv3,trivial⟩ ?_
     obtain⟨y4,hy5,h3⟩:=bind_some h3
     refine cH [⟨(.val (.int .i64) y4),[],[],[],60⟩] [] [] [PT (nth (.int .u8) a0 RS) (nth (.int .u8) a1 RS) y4] ⟨QJ _ _ _ hy5,trivial⟩ ?_
     refine aF ?_
     rcases ae h3 with⟨hc6,h3⟩|⟨hc6,h3⟩
     ·refine cg hc6 ?_
      refine aF ?_
      refine ai.ret ?_
      obtain rfl:=Option.some.inj h3
      dsimp only at h
      obtain rfl:=Option.some.inj h
      exact(av [] [some (.int .i64)] (cL 76 []) (by kernel_rfl)).1
     ·refine cq hc6 ?_
      refine ai.skip ?_
      refine bN ?_
      change ai _ _ _ _ _
      refine fS ?_
      exact gI [.ak [0,1,9,10,11] []] ⟨_,h3,rfl⟩
   ·refine cq hc8 ?_
    refine ai.exit ?_
    refine ze ?_
    obtain rfl:=Option.some.inj h3
    exact bx [.ak [0,1] []] ⟨_,rfl,rfl⟩
 ·rintro _ ⟨v9,rfl,rfl⟩
  dsimp only at h
  refine ai.seq ?_
  refine aF ?_
  rcases ae h with⟨hc10,h⟩|⟨hc10,h⟩
  ·refine cg hc10 ?_
   refine aF ?_
   refine ai.ret ?_
   obtain rfl:=Option.some.inj h
   exact(av [] [some (.int .i64)] (cL 76 []) (by kernel_rfl)).1
  ·refine cq hc10 ?_
   refine zk ?_
   refine aF ?_
   refine ai.ret ?_
   obtain rfl:=Option.some.inj h
   exact(av [] [some (.int .i64)] (cL 76 []) (by kernel_rfl)).1
def f21(a0:List aO)(a1:Int)(a2:Int):Option Int:=
 if 0≤a1∧a1<(List.length a0:Int) then(if 0≤a2∧a2<(List.length a0:Int) then(if(aP aD (nth aD a0 a1) (nth aD a0 a2))=true then(Option.bind (f45 a1 a2) fun y3=>some y3) else(Option.bind (f46 (aS (nth aD a0 a1) 0 32) (aS (nth aD a0 a2) 0 32)) fun y5=>some y5)) else none) else none
abbrev AE(a0:List aO)(a1:Int)(a2:Int)(r:Int):Prop:=Fc Tryz.prog gl 21 [(.val (.slice 32 aD) a0),(.val (.int .i64) a1),(.val (.int .i64) a2)] (aA (List.replicate 68 none) []) (.ret (.val (.int .i64) r)) (bz 68 [])
theorem Bd(a0:List aO)(a1:Int)(a2:Int)(r:Int)(h:f21 a0 a1 a2=some r):AE a0 a1 a2 r:=by
 refine Fc.of Tryz.call21 (bW.aG tied Tryz.func21 rfl rfl (σ0:=ao 28 68 [(0,(.val (.slice 32 aD) a0)),(1,(.val (.int .i64) a1)),(2,(.val (.int .i64) a2))] []) (by kernel_rfl) ?_)
 unfold f21 at h
 refine aF ?_
 refine ai.seq ?_
 obtain⟨hv1,h⟩:=ab h
 obtain⟨Sx,h⟩:=ab h
 refine mf [] [] [] [0≤a1,a1<(List.length a0:Int),0≤a2,a2<(List.length a0:Int),fH Tryz.prog G 40 23 aD=true,Tryz.prog.eqGuardType Tryz.prog.depth 23=false] ⟨hv1.1,hv1.2,Sx.1,Sx.2,za,zb,trivial⟩ ?_
 rcases ae h with⟨hc7,h⟩|⟨hc7,h⟩
 ·refine cg hc7 ?_
  obtain⟨y3,hy4,h⟩:=bind_some h
  refine cH [⟨(.val (.int .i64) y3),[],[],[],60⟩] [] [] [PR a1 a2 y3] ⟨QI _ _ _ hy4,trivial⟩ ?_
  refine ai.ret ?_
  obtain rfl:=Option.some.inj h
  exact(av [] [some (.int .i64)] (cL 68 []) (by kernel_rfl)).1
 ·refine cq hc7 ?_
  refine zk ?_
  obtain⟨y5,hy6,h⟩:=bind_some h
  refine mf [⟨(.val (.int .i64) y5),[],[],[],76⟩] [] [] [0≤a1,a1<(List.length a0:Int),0≤a2,a2<(List.length a0:Int),PU (aS (nth aD a0 a1) 0 32) (aS (nth aD a0 a2) 0 32) y5] ⟨hv1.1,hv1.2,Sx.1,Sx.2,QK _ _ _ hy6,trivial⟩ ?_
  refine ai.ret ?_
  obtain rfl:=Option.some.inj h
  exact(av [] [some (.int .i64)] (cL 68 []) (by kernel_rfl)).1
def eP(a0:Int)(a1:Int)(a3:List aO)(RS:Int):Nat→Int→(List Int)→Option (List Int)
 |0,_,_=>none
 |n2+1,RW,R4=>Option.bind (Option.bind (if(decide (a0<RW))=true then(if 0≤RW∧RW<(List.length R4:Int) then(if 0≤(al (RW -(1:Int)))∧(al (RW -(1:Int)))<(List.length R4:Int) then(Option.bind (f21 a3 (nth (.int .i64) R4 RW) (nth (.int .i64) R4 (al (RW -(1:Int))))) fun y9=>some (decide (y9<(0:Int)))) else none) else none) else(some false)) fun(o5:Bool)=>if o5=true then(some (.brk ())) else(some (.ret ()))) fun(o4:iQ Unit Unit)=>match o4 with| .brk _v12=>(if 0≤(al (RW -(1:Int)))∧(al (RW -(1:Int)))<(List.length R4:Int) then(if 0≤RW∧RW<(List.length R4:Int) then(if(al (RW -(1:Int)))<(List.length (List.set R4 (Int.toNat RW) (nth (.int .i64) R4 (al (RW -(1:Int))))):Int) then(eP a0 a1 a3 RS n2 (al (RW -(1:Int))) (List.set (List.set R4 (Int.toNat RW) (nth (.int .i64) R4 (al (RW -(1:Int))))) (Int.toNat (al (RW -(1:Int)))) (nth (.int .i64) R4 RW))) else none) else none) else none)| .ret _v16=>(some R4)
def eQ(a0:Int)(a1:Int)(a3:List aO):Nat→Int→(List Int)→Option (List Int)
 |0,_,_=>none
 |n1+1,RS,RU=>if(decide (RS<a1))=true then(Option.bind (Option.bind (eP a0 a1 a3 RS (bC) RS RU) fun(o3:List Int)=>some o3) fun(o2:List Int)=>eQ a0 a1 a3 n1 (al (RS+(1:Int))) o2) else(some RU)
def nH(a0:Int)(a1:Int)(a2:List Int)(a3:List aO):Option ((List Int)×(List aO)):=
 Option.bind (eQ a0 a1 a3 (bC) (al (a0+(1:Int))) a2) fun(o1:List Int)=>some (o1,a3)
abbrev xV(a0:Int)(a1:Int)(a2:List Int)(a3:List aO)(r:(List Int)×(List aO)):Prop:=Fc Tryz.prog gl 68 [(.own 0),(.val (.int .i64) a0),(.val (.int .i64) a1),(.func (.func 21) (.cons (.own 1) .nil) .nil)] (aA (List.replicate 93 none) [(0,some (.row 3 8 (.int .i64) a2)),(1,some (.row 23 32 aD a3))]) (.ret (.bU .nil)) (bz 93 [(0,(.row 3 8 (.int .i64) r.1)),(1,(.row 23 32 aD r.2))])
theorem BV(
 a0:Int) (a1:Int) (a2:List Int) (a3:List aO) (r:(List Int)×(List aO)) (h:nH a0 a1 a2 a3=some r):xV a0 a1 a2 a3 r:=by
 refine Fc.of Tryz.call68 (bW.aG tied Tryz.func68 rfl rfl (σ0:=ao 53 93 [(0,(.own 0)),(1,(.val (.int .i64) a0)),(2,(.val (.int .i64) a1)),(3,(.func (.func 21) (.cons (.own 1) .nil) .nil))] [(0,some (.row 3 8 (.int .i64) a2)),(1,some (.row 23 32 aD a3))]) (by kernel_rfl) ?_)
 unfold nH at h
 refine aF ?_
 obtain⟨o1,h1,h⟩:=bind_some h
 refine ai.lA (fun σ'=>σ'=ao 53 93 [] [(0,some (.row 3 8 (.int .i64) o1)),(1,some (.row 23 32 aD a3))]) Cl.f ?_ ?_
 ·refine ai.block ?_
  refine ai.aV (fun n σ=>∃(RS:Int)(RU:List Int),eQ a0 a1 a3 n RS RU=some o1∧σ=ao 53 93 [(0,(.own 0)),(1,(.val (.int .i64) a0)),(2,(.val (.int .i64) a1)),(3,(.func (.func 21) (.cons (.own 1) .nil) .nil)),(8,(.val (.int .i64) RS))] [(0,some (.row 3 8 (.int .i64) RU)),(1,some (.row 23 32 aD a3))]) [.ak [0,1,2,3,8] [0,1]] (by kernel_rfl) ⟨_,_,h1,rfl⟩ ?_
  rintro n1 _ ⟨RS,RU,h22,rfl⟩
  cases n1 with
  |zero=>exact absurd h22 (by simp[eQ])
  |
   succ n1=>
   unfold eQ at h22
   refine ai.seq ?_
   refine aF ?_
   rcases ae h22 with⟨hc17,h22⟩|⟨hc17,h22⟩
   ·refine cg hc17 ?_
    refine zk ?_
    obtain⟨o2,h23,h22⟩:=bind_some h22
    refine ai.aZ (fun σ'=>σ'=ao 53 93 [(0,(.own 0)),(1,(.val (.int .i64) a0)),(2,(.val (.int .i64) a1)),(3,(.func (.func 21) (.cons (.own 1) .nil) .nil)),(8,(.val (.int .i64) RS))] [(0,some (.row 3 8 (.int .i64) o2)),(1,some (.row 23 32 aD a3))]) ?_ ?_
    ·refine ai.block ?_
     refine aF ?_
     obtain⟨o3,h33,h23⟩:=bind_some h23
     refine ai.lA (fun σ'=>σ'=ao 53 93 [(0,(.own 0)),(1,(.val (.int .i64) a0)),(2,(.val (.int .i64) a1)),(3,(.func (.func 21) (.cons (.own 1) .nil) .nil)),(8,(.val (.int .i64) RS))] [(0,some (.row 3 8 (.int .i64) o3)),(1,some (.row 23 32 aD a3))]) (Cl.bh (Cl.j (Cl.loop (Cl.bh (Cl.j Cl.f))))) ?_ ?_
     ·refine ai.block ?_
      refine ai.aV (fun n σ=>∃(RW:Int)(R4:List Int),eP a0 a1 a3 RS n RW R4=some o3∧σ=ao 53 93 [(0,(.own 0)),(1,(.val (.int .i64) a0)),(2,(.val (.int .i64) a1)),(3,(.func (.func 21) (.cons (.own 1) .nil) .nil)),(8,(.val (.int .i64) RS)),(9,(.val (.int .i64) RW))] [(0,some (.row 3 8 (.int .i64) R4)),(1,some (.row 23 32 aD a3))]) [.ak [0,1,2,3,8,9] [0,1]] (by kernel_rfl) ⟨_,_,h33,rfl⟩ ?_
      rintro n2 _ ⟨RW,R4,h38,rfl⟩
      cases n2 with
      |zero=>exact absurd h38 (by simp[eP])
      |
       succ n2=>
       unfold eP at h38
       obtain⟨o4,h39,h38⟩:=bind_some h38
       refine ai.pc (fun σ'=>∃Bi,o4= .brk Bi∧σ'=ao 53 93 [(0,(.own 0)),(1,(.val (.int .i64) a0)),(2,(.val (.int .i64) a1)),(3,(.func (.func 21) (.cons (.own 1) .nil) .nil)),(8,(.val (.int .i64) RS)),(9,(.val (.int .i64) RW))] [(0,some (.row 3 8 (.int .i64) R4)),(1,some (.row 23 32 aD a3))]) (fun i σ'=>(i=2∧∃v16,o4= .ret v16∧σ'=ao 53 93 [(0,(.own 0)),(1,(.val (.int .i64) a0)),(2,(.val (.int .i64) a1)),(3,(.func (.func 21) (.cons (.own 1) .nil) .nil)),(8,(.val (.int .i64) RS))] [(0,some (.row 3 8 (.int .i64) R4)),(1,some (.row 23 32 aD a3))])) (Cl.loop (Cl.bh (Cl.j (Cl.bh (Cl.j (Cl.loop (Cl.bh (Cl.j Cl.f)))))))) ?_ ?_ ?_
       ·obtain⟨o5,h41,h39⟩:=bind_some h39
        refine ai.aZ (fun σ'=>σ'=ao 53 93 [(0,(.own 0)),(1,(.val (.int .i64) a0)),(2,(.val (.int .i64) a1)),(3,(.func (.func 21) (.cons (.own 1) .nil) .nil)),(8,(.val (.int .i64) RS)),(9,(.val (.int .i64) RW)),(34,(.val .bool o5))] [(0,some (.row 3 8 (.int .i64) R4)),(1,some (.row 23 32 aD a3))]) ?_ ?_
        ·rcases ae h41 with⟨hg6,h41⟩|⟨hg6,h41⟩
         ·obtain⟨hv7,h41⟩:=ab h41
          obtain⟨hv8,h41⟩:=ab h41
          obtain⟨y9,hy10,h41⟩:=bind_some h41
          refine jM [⟨(.val (.int .i64) y9),[],[],[],68⟩] [true] [] [(decide (a0<RW))=true,0≤RW,RW<(List.length R4:Int),0≤(al (RW -(1:Int))),(al (RW -(1:Int)))<(List.length R4:Int),AE a3 (nth (.int .i64) R4 RW) (nth (.int .i64) R4 (al (RW -(1:Int)))) y9] ⟨hg6,hv7.1,hv7.2,hv8.1,hv8.2,Bd _ _ _ _ hy10,trivial⟩ ?_
          obtain rfl:=Option.some.inj h41
          exact bx [.ak [0,1,2,3,8,9,34] [0,1]] rfl
         ·refine jM [] [false] [] [(decide (a0<RW))=false] ⟨hg6,trivial⟩ ?_
          obtain rfl:=Option.some.inj h41
          exact bx [.ak [0,1,2,3,8,9,34] [0,1]] rfl
        ·rintro _ rfl
         rcases ae h39 with⟨hc11,h39⟩|⟨hc11,h39⟩
         ·refine cg hc11 ?_
          refine ai.skip ?_
          obtain rfl:=Option.some.inj h39
          exact kD.mk [.ak [0,1,2,3,8,9] [0,1]] (by kernel_rfl) ⟨_,rfl,rfl⟩
         ·refine cq hc11 ?_
          refine ai.exit ?_
          obtain rfl:=Option.some.inj h39
          exact kD.ex [.ak [0,1,2,3,8] [0,1]] (by kernel_rfl) ⟨rfl,_,rfl,rfl⟩
       ·rintro _ _ ⟨rfl,v16,rfl,rfl⟩
        ·dsimp only at h38
         refine lE ?_
         refine bE ?_
         obtain rfl:=Option.some.inj h38
         exact bx [.ak [0,1,2,3,8] [0,1]] rfl
       ·rintro _ ⟨Bi,rfl,rfl⟩
        dsimp only at h38
        refine ai.seq ?_
        refine ai.block ?_
        obtain⟨hv13,h38⟩:=ab h38
        obtain⟨hv14,h38⟩:=ab h38
        obtain⟨hv15,h38⟩:=ab h38
        refine jM [] [] [] [0≤(al (RW -(1:Int))),(al (RW -(1:Int)))<(List.length R4:Int),0≤RW,RW<(List.length R4:Int),0≤RW,RW<(List.length R4:Int),0≤(al (RW -(1:Int))),(al (RW -(1:Int)))<(List.length (List.set R4 (Int.toNat RW) (nth (.int .i64) R4 (al (RW -(1:Int))))):Int)] ⟨hv13.1,hv13.2,hv14.1,hv14.2,hv14.1,hv14.2,hv13.1,hv15,trivial⟩ ?_
        refine bN ?_
        change ai _ _ _ _ _
        refine fS ?_
        exact gI [.ak [0,1,2,3,8,9] [0,1]] ⟨_,_,h38,rfl⟩
     ·rintro _ rfl
      refine bN ?_
      obtain rfl:=Option.some.inj h23
      exact bx [.ak [0,1,2,3,8] [0,1]] rfl
    ·rintro _ rfl
     refine fS ?_
     exact gI [.ak [0,1,2,3,8] [0,1]] ⟨_,_,h22,rfl⟩
   ·refine cq hc17 ?_
    refine ai.exit ?_
    refine ze ?_
    obtain rfl:=Option.some.inj h22
    exact bx [.ak [] [0,1]] rfl
 ·rintro _ rfl
  obtain rfl:=Option.some.inj h
  exact(av [.ak [] [0,1]] [] (cL 93 [0,1]) (by kernel_rfl)).2
def xW(a0:Int):Option Int:=
 Option.bind (f44 (IntKind.u64.wrap (a0))) fun y1=>if 0≤y1 then(some (IntKind.u64.wrap ((1:Int)*2^(min (Int.toNat y1) 64)))) else none
abbrev KI(a0:Int)(r:Int):Prop:=Fc Tryz.prog gl 113 [(.val (.int .i64) a0)] (aA (List.replicate 47 none) []) (.ret (.val (.int .u64) r)) (bz 47 [])
theorem Ox(a0:Int)(r:Int)(h:xW a0=some r):KI a0 r:=by
 refine Fc.of Tryz.call113 (bW.aG tied Tryz.func113 rfl rfl (σ0:=ao 7 47 [(0,(.val (.int .i64) a0))] []) (by kernel_rfl) ?_)
 unfold xW at h
 refine aF ?_
 obtain⟨y1,hy2,h⟩:=bind_some h
 obtain⟨hv3,h⟩:=ab h
 refine cH [⟨(.val (.int .i64) y1),[],[],[],48⟩] [] [] [Ov (IntKind.u64.wrap (a0)) y1,0≤y1] ⟨PO _ _ hy2,hv3,trivial⟩ ?_
 refine ai.ret ?_
 obtain rfl:=Option.some.inj h
 exact(av [] [some (.int .u64)] (cL 47 []) (by kernel_rfl)).1
def pt(a0:Int):Option (Int×Int):=
 some (aq .xor .u64 (aq .xor .u64 (aq .xor .u64 a0 (IntKind.u64.wrap (a0*2^(min (Int.toNat (13:Int)) 64)))) (Int.fdiv (aq .xor .u64 a0 (IntKind.u64.wrap (a0*2^(min (Int.toNat (13:Int)) 64)))) (2^(min (Int.toNat (7:Int)) 64)))) (IntKind.u64.wrap ((aq .xor .u64 (aq .xor .u64 a0 (IntKind.u64.wrap (a0*2^(min (Int.toNat (13:Int)) 64)))) (Int.fdiv (aq .xor .u64 a0 (IntKind.u64.wrap (a0*2^(min (Int.toNat (13:Int)) 64)))) (2^(min (Int.toNat (7:Int)) 64))))*2^(min (Int.toNat (17:Int)) 64))),aq .xor .u64 (aq .xor .u64 (aq .xor .u64 a0 (IntKind.u64.wrap (a0*2^(min (Int.toNat (13:Int)) 64)))) (Int.fdiv (aq .xor .u64 a0 (IntKind.u64.wrap (a0*2^(min (Int.toNat (13:Int)) 64)))) (2^(min (Int.toNat (7:Int)) 64)))) (IntKind.u64.wrap ((aq .xor .u64 (aq .xor .u64 a0 (IntKind.u64.wrap (a0*2^(min (Int.toNat (13:Int)) 64)))) (Int.fdiv (aq .xor .u64 a0 (IntKind.u64.wrap (a0*2^(min (Int.toNat (13:Int)) 64)))) (2^(min (Int.toNat (7:Int)) 64))))*2^(min (Int.toNat (17:Int)) 64))))
abbrev yZ(a0:Int)(r:Int×Int):Prop:=Fc Tryz.prog gl 114 [(.ptr 0 [])] (aA (List.replicate 73 none) [(0,some (.var (.int .u64) (.val (.int .u64) a0)))]) (.ret (.val (.int .u64) r.1)) (bz 73 [(0,(.var (.int .u64) (.val (.int .u64) r.2)))])
theorem Ek(a0:Int)(r:Int×Int)(h:pt a0=some r):yZ a0 r:=by
 refine Fc.of Tryz.call114 (bW.aG tied Tryz.func114 rfl rfl (σ0:=ao 33 73 [(0,(.ptr 0 []))] [(0,some (.var (.int .u64) (.val (.int .u64) a0)))]) (by kernel_rfl) ?_)
 unfold pt at h
 refine aF ?_
 refine mf [] [] [] [0≤(13:Int)] ⟨(by decide),trivial⟩ ?_
 refine mf [] [] [] [0≤(7:Int)] ⟨(by decide),trivial⟩ ?_
 refine mf [] [] [] [0≤(17:Int)] ⟨(by decide),trivial⟩ ?_
 refine aF ?_
 refine ai.ret ?_
 obtain rfl:=Option.some.inj h
 exact(av [.ak [2] [0]] [some (.int .u64)] (cL 73 [0]) (by kernel_rfl)).1
def dj(a0:Int)(a1:Int)(a3:List aO)(y1:Int):Nat→Int→(List Int)→Int→Option (List Int)
 |0,_,_,_=>none
 |n1+1,RS,RU,RX=>if(decide (RS≤(al ((al (a0+(al ((al (Int.tdiv (al (a1 -a0)) (4:Int)))*(2:Int)))))+(1:Int)))))=true then(Option.bind (Option.bind (pt RX) fun y5=>Option.bind (if(decide ((al (a1 -a0))≤(al (aq .and .u64 y5.1 (IntKind.u64.wrap (y1 -(1:Int)))))))=true then(some (al ((al (aq .and .u64 y5.1 (IntKind.u64.wrap (y1 -(1:Int))))) -(al (a1 -a0))))) else(some (al (aq .and .u64 y5.1 (IntKind.u64.wrap (y1 -(1:Int))))))) fun(o7:Int)=>if 0≤(al (a0+o7))∧(al (a0+o7))<(List.length RU:Int) then(if 0≤RS∧RS<(List.length RU:Int) then(if(al (a0+o7))<(List.length (List.set RU (Int.toNat RS) (nth (.int .i64) RU (al (a0+o7)))):Int) then(some (List.set (List.set RU (Int.toNat RS) (nth (.int .i64) RU (al (a0+o7)))) (Int.toNat (al (a0+o7))) (nth (.int .i64) RU RS),y5.2)) else none) else none) else none) fun(o4:(List Int)×Int)=>dj a0 a1 a3 y1 n1 (al (RS+(1:Int))) o4.1 o4.2) else(some RU)
def fK(a0:Int)(a1:Int)(a2:List Int)(a3:List aO):Option ((List Int)×(List aO)):=
 if(decide ((8:Int)≤(al (a1 -a0))))=true then(Option.bind (xW (al (a1 -a0))) fun y1=>Option.bind (dj a0 a1 a3 y1 (bC) (al ((al (a0+(al ((al (Int.tdiv (al (a1 -a0)) (4:Int)))*(2:Int))))) -(1:Int))) a2 (IntKind.u64.wrap (al (a1 -a0)))) fun(o3:List Int)=>some (o3,a3)) else(some (a2,a3))
abbrev BW(a0:Int)(a1:Int)(a2:List Int)(a3:List aO)(r:(List Int)×(List aO)):Prop:=Fc Tryz.prog gl 70 [(.own 0),(.val (.int .i64) a0),(.val (.int .i64) a1),(.func (.func 21) (.cons (.own 1) .nil) .nil)] (aA (List.replicate 107 none) [(0,some (.row 3 8 (.int .i64) a2)),(1,some (.row 23 32 aD a3))]) (.ret (.bU .nil)) (bz 107 [(0,(.row 3 8 (.int .i64) r.1)),(1,(.row 23 32 aD r.2))])
theorem I6(
 a0:Int) (a1:Int) (a2:List Int) (a3:List aO) (r:(List Int)×(List aO)) (h:fK a0 a1 a2 a3=some r):BW a0 a1 a2 a3 r:=by
 refine Fc.of Tryz.call70 (bW.aG tied Tryz.func70 rfl rfl (σ0:=ao 67 107 [(0,(.own 0)),(1,(.val (.int .i64) a0)),(2,(.val (.int .i64) a1)),(3,(.func (.func 21) (.cons (.own 1) .nil) .nil))] [(0,some (.row 3 8 (.int .i64) a2)),(1,some (.row 23 32 aD a3))]) (by kernel_rfl) ?_)
 unfold fK at h
 refine aF ?_
 refine aF ?_
 rcases ae h with⟨hc13,h⟩|⟨hc13,h⟩
 ·refine cg hc13 ?_
  refine aF ?_
  obtain⟨y1,hy2,h⟩:=bind_some h
  refine cH [⟨(.val (.int .u64) y1),[],[],[],47⟩] [] [] [KI (al (a1 -a0)) y1] ⟨Ox _ _ hy2,trivial⟩ ?_
  refine cH [] [] [] [(4:Int)≠0] ⟨(by decide),trivial⟩ ?_
  obtain⟨o3,h1,h⟩:=bind_some h
  refine ai.lA (fun σ'=>σ'=ao 67 107 [] [(0,some (.row 3 8 (.int .i64) o3)),(1,some (.row 23 32 aD a3))]) Cl.f ?_ ?_
  ·refine ai.block ?_
   refine ai.aV (fun n σ=>∃(RS:Int)(RU:List Int)(RX:Int),dj a0 a1 a3 y1 n RS RU RX=some o3∧σ=ao 67 107 [(0,(.own 0)),(1,(.val (.int .i64) a0)),(8,(.val (.int .i64) (al (a1 -a0)))),(9,(.ptr 25 [])),(10,(.val (.int .u64) y1)),(11,(.val (.int .i64) RS))] [(0,some (.row 3 8 (.int .i64) RU)),(1,some (.row 23 32 aD a3)),(25,some (.var (.int .u64) (.val (.int .u64) RX)))]) [.ak [0,1,8,9,10,11] [0,1,25]] (by kernel_rfl) ⟨_,_,_,h1,rfl⟩ ?_
   rintro n1 _ ⟨RS,RU,RX,h6,rfl⟩
   cases n1 with
   |zero=>exact absurd h6 (by simp[dj])
   |
    succ n1=>
    unfold dj at h6
    refine ai.seq ?_
    refine cH [] [] [] [(4:Int)≠0] ⟨(by decide),trivial⟩ ?_
    rcases ae h6 with⟨SP,h6⟩|⟨SP,h6⟩
    ·refine cg SP ?_
     refine zk ?_
     obtain⟨o4,h7,h6⟩:=bind_some h6
     refine ai.aZ (fun σ'=>σ'=ao 67 107 [(0,(.own 0)),(1,(.val (.int .i64) a0)),(8,(.val (.int .i64) (al (a1 -a0)))),(9,(.ptr 25 [])),(10,(.val (.int .u64) y1)),(11,(.val (.int .i64) RS))] [(0,some (.row 3 8 (.int .i64) o4.1)),(1,some (.row 23 32 aD a3)),(25,some (.var (.int .u64) (.val (.int .u64) o4.2)))]) ?_ ?_
     ·refine ai.block ?_
      obtain⟨y5,hy6,h7⟩:=bind_some h7
      refine cH [⟨(.val (.int .u64) y5.1),[(0,25)],[],[(0,(.var (.int .u64) (.val (.int .u64) y5.2)))],73⟩] [] [] [yZ RX y5] ⟨Ek _ _ hy6,trivial⟩ ?_
      obtain⟨o7,h9,h7⟩:=bind_some h7
      refine ai.aZ (fun σ'=>σ'=ao 67 107 [(0,(.own 0)),(1,(.val (.int .i64) a0)),(8,(.val (.int .i64) (al (a1 -a0)))),(9,(.ptr 25 [])),(10,(.val (.int .u64) y1)),(11,(.val (.int .i64) RS)),(12,(.val (.int .i64) o7))] [(0,some (.row 3 8 (.int .i64) RU)),(1,some (.row 23 32 aD a3)),(25,some (.var (.int .u64) (.val (.int .u64) y5.2)))]) ?_ ?_
      ·refine aF ?_
       rcases ae h9 with⟨hc8,h9⟩|⟨hc8,h9⟩
       ·refine cg hc8 ?_
        refine fS ?_
        obtain rfl:=Option.some.inj h9
        exact bx [.ak [0,1,8,9,10,11,12] [0,1,25]] rfl
       ·refine cq hc8 ?_
        refine ai.skip ?_
        obtain rfl:=Option.some.inj h9
        exact bx [.ak [0,1,8,9,10,11,12] [0,1,25]] rfl
      ·rintro _ rfl
       obtain⟨hv9,h7⟩:=ab h7
       obtain⟨Sv,h7⟩:=ab h7
       obtain⟨SS,h7⟩:=ab h7
       refine jM [] [] [] [0≤(al (a0+o7)),(al (a0+o7))<(List.length RU:Int),0≤RS,RS<(List.length RU:Int),0≤RS,RS<(List.length RU:Int),0≤(al (a0+o7)),(al (a0+o7))<(List.length (List.set RU (Int.toNat RS) (nth (.int .i64) RU (al (a0+o7)))):Int)] ⟨hv9.1,hv9.2,Sv.1,Sv.2,Sv.1,Sv.2,hv9.1,SS,trivial⟩ ?_
       refine bN ?_
       obtain rfl:=Option.some.inj h7
       exact bx [.ak [0,1,8,9,10,11] [0,1,25]] rfl
     ·rintro _ rfl
      refine fS ?_
      exact gI [.ak [0,1,8,9,10,11] [0,1,25]] ⟨_,_,_,h6,rfl⟩
    ·refine cq SP ?_
     refine ai.exit ?_
     refine ze ?_
     obtain rfl:=Option.some.inj h6
     exact bx [.ak [] [0,1]] rfl
  ·rintro _ rfl
   obtain rfl:=Option.some.inj h
   exact(av [.ak [] [0,1]] [] (cL 107 [0,1]) (by kernel_rfl)).2
 ·refine cq hc13 ?_
  refine ai.skip ?_
  obtain rfl:=Option.some.inj h
  exact(av [.ak [] [0,1]] [] (cL 107 [0,1]) (by kernel_rfl)).2
def jz(a0:List Int)(a1:Int)(a2:Int)(a3:List aO)(a4:Int):Option (Int×Int×Int):=
 if 0≤a2∧a2<(List.length a0:Int) then(if 0≤a1∧a1<(List.length a0:Int) then(Option.bind (f21 a3 (nth (.int .i64) a0 a2) (nth (.int .i64) a0 a1)) fun y3=>if(decide (y3<(0:Int)))=true then(some (a2,a1,al (a4+(1:Int)))) else(some (a1,a2,a4))) else none) else none
abbrev pw(a0:List Int)(a1:Int)(a2:Int)(a3:List aO)(a4:Int)(r:Int×Int×Int):Prop:=Fc Tryz.prog gl 168 [(.val (.slice 8 (.int .i64)) a0),(.val (.int .i64) a1),(.val (.int .i64) a2),(.ptr 0 []),(.func (.func 21) (.cons (.val (.slice 32 aD) a3) .nil) .nil)] (aA (List.replicate 72 none) [(0,some (.var (.int .i64) (.val (.int .i64) a4)))]) (.ret (.bU (.cons (.val (.int .i64) r.1) (.cons (.val (.int .i64) r.2.1) .nil)))) (bz 72 [(0,(.var (.int .i64) (.val (.int .i64) r.2.2)))])
theorem tZ(a0:List Int)(a1:Int)(a2:Int)(a3:List aO)(a4:Int)(r:Int×Int×Int)(h:jz a0 a1 a2 a3 a4=some r):pw a0 a1 a2 a3 a4 r:=by
 refine Fc.of Tryz.call168 (bW.aG tied Tryz.func168 rfl rfl (σ0:=ao 32 72 [(0,(.val (.slice 8 (.int .i64)) a0)),(1,(.val (.int .i64) a1)),(2,(.val (.int .i64) a2)),(3,(.ptr 0 [])),(4,(.func (.func 21) (.cons (.val (.slice 32 aD) a3) .nil) .nil))] [(0,some (.var (.int .i64) (.val (.int .i64) a4)))]) (by kernel_rfl) ?_)
 unfold jz at h
 refine aF ?_
 refine ai.seq ?_
 obtain⟨hv1,h⟩:=ab h
 obtain⟨Sx,h⟩:=ab h
 obtain⟨y3,hy4,h⟩:=bind_some h
 refine mf [⟨(.val (.int .i64) y3),[],[],[],68⟩] [] [] [0≤a2,a2<(List.length a0:Int),0≤a1,a1<(List.length a0:Int),AE a3 (nth (.int .i64) a0 a2) (nth (.int .i64) a0 a1) y3] ⟨hv1.1,hv1.2,Sx.1,Sx.2,Bd _ _ _ _ hy4,trivial⟩ ?_
 rcases ae h with⟨hc5,h⟩|⟨hc5,h⟩
 ·refine cg hc5 ?_
  refine aF ?_
  refine aF ?_
  refine ai.ret ?_
  obtain rfl:=Option.some.inj h
  exact(av [.ak [10,11] [0]] [some (.int .i64),some (.int .i64)] (cL 72 [0]) (by kernel_rfl)).1
 ·refine cq hc5 ?_
  refine zk ?_
  refine aF ?_
  refine ai.ret ?_
  obtain rfl:=Option.some.inj h
  exact(av [.ak [10,11] [0]] [some (.int .i64),some (.int .i64)] (cL 72 [0]) (by kernel_rfl)).1
def jA(a0:List Int)(a1:Int)(a2:Int)(a3:Int)(a4:List aO)(a5:Int):Option (Int×Int):=
 Option.bind (jz a0 a1 a2 a4 a5) fun y1=>Option.bind (jz a0 y1.2.1 a3 a4 y1.2.2) fun y3=>Option.bind (jz a0 y1.1 y3.1 a4 y3.2.2) fun y5=>some (y5.2.1,y5.2.2)
abbrev ua(a0:List Int)(a1:Int)(a2:Int)(a3:Int)(a4:List aO)(a5:Int)(r:Int×Int):Prop:=Fc Tryz.prog gl 116 [(.val (.slice 8 (.int .i64)) a0),(.val (.int .i64) a1),(.val (.int .i64) a2),(.val (.int .i64) a3),(.ptr 0 []),(.func (.func 21) (.cons (.val (.slice 32 aD) a4) .nil) .nil)] (aA (List.replicate 81 none) [(0,some (.var (.int .i64) (.val (.int .i64) a5)))]) (.ret (.val (.int .i64) r.1)) (bz 81 [(0,(.var (.int .i64) (.val (.int .i64) r.2)))])
theorem y6(a0:List Int)(a1:Int)(a2:Int)(a3:Int)(a4:List aO)(a5:Int)(r:Int×Int)(h:jA a0 a1 a2 a3 a4 a5=some r):ua a0 a1 a2 a3 a4 a5 r:=by
 refine Fc.of Tryz.call116 (bW.aG tied Tryz.func116 rfl rfl (σ0:=ao 41 81 [(0,(.val (.slice 8 (.int .i64)) a0)),(1,(.val (.int .i64) a1)),(2,(.val (.int .i64) a2)),(3,(.val (.int .i64) a3)),(4,(.ptr 0 [])),(5,(.func (.func 21) (.cons (.val (.slice 32 aD) a4) .nil) .nil))] [(0,some (.var (.int .i64) (.val (.int .i64) a5)))]) (by kernel_rfl) ?_)
 unfold jA at h
 refine aF ?_
 obtain⟨y1,hy2,h⟩:=bind_some h
 refine cH [⟨(.bU (.cons (.val (.int .i64) y1.1) (.cons (.val (.int .i64) y1.2.1) .nil))),[(0,0)],[],[(0,(.var (.int .i64) (.val (.int .i64) y1.2.2)))],72⟩] [] [] [pw a0 a1 a2 a4 a5 y1] ⟨tZ _ _ _ _ _ _ hy2,trivial⟩ ?_
 obtain⟨y3,hy4,h⟩:=bind_some h
 refine cH [⟨(.bU (.cons (.val (.int .i64) y3.1) (.cons (.val (.int .i64) y3.2.1) .nil))),[(0,0)],[],[(0,(.var (.int .i64) (.val (.int .i64) y3.2.2)))],72⟩] [] [] [pw a0 y1.2.1 a3 a4 y1.2.2 y3] ⟨tZ _ _ _ _ _ _ hy4,trivial⟩ ?_
 obtain⟨y5,hy6,h⟩:=bind_some h
 refine cH [⟨(.bU (.cons (.val (.int .i64) y5.1) (.cons (.val (.int .i64) y5.2.1) .nil))),[(0,0)],[],[(0,(.var (.int .i64) (.val (.int .i64) y5.2.2)))],72⟩] [] [] [pw a0 y1.1 y3.1 a4 y3.2.2 y5] ⟨tZ _ _ _ _ _ _ hy6,trivial⟩ ?_
 refine aF ?_
 refine ai.ret ?_
 obtain rfl:=Option.some.inj h
 exact(av [.ak [12] [0]] [some (.int .i64)] (cL 81 [0]) (by kernel_rfl)).1
def mA(a0:List Int)(a1:Int)(a2:List aO)(a3:Int):Option (Int×Int):=
 Option.bind (jA a0 (al (a1 -(1:Int))) a1 (al (a1+(1:Int))) a2 a3) fun y1=>some (y1.1,y1.2)
abbrev px(a0:List Int)(a1:Int)(a2:List aO)(a3:Int)(r:Int×Int):Prop:=Fc Tryz.prog gl 115 [(.val (.slice 8 (.int .i64)) a0),(.val (.int .i64) a1),(.ptr 0 []),(.func (.func 21) (.cons (.val (.slice 32 aD) a2) .nil) .nil)] (aA (List.replicate 58 none) [(0,some (.var (.int .i64) (.val (.int .i64) a3)))]) (.ret (.val (.int .i64) r.1)) (bz 58 [(0,(.var (.int .i64) (.val (.int .i64) r.2)))])
theorem ub(a0:List Int)(a1:Int)(a2:List aO)(a3:Int)(r:Int×Int)(h:mA a0 a1 a2 a3=some r):px a0 a1 a2 a3 r:=by
 refine Fc.of Tryz.call115 (bW.aG tied Tryz.func115 rfl rfl (σ0:=ao 18 58 [(0,(.val (.slice 8 (.int .i64)) a0)),(1,(.val (.int .i64) a1)),(2,(.ptr 0 [])),(3,(.func (.func 21) (.cons (.val (.slice 32 aD) a2) .nil) .nil))] [(0,some (.var (.int .i64) (.val (.int .i64) a3)))]) (by kernel_rfl) ?_)
 unfold mA at h
 refine aF ?_
 obtain⟨y1,hy2,h⟩:=bind_some h
 refine cH [⟨(.val (.int .i64) y1.1),[(0,0)],[],[(0,(.var (.int .i64) (.val (.int .i64) y1.2)))],81⟩] [] [] [ua a0 (al (a1 -(1:Int))) a1 (al (a1+(1:Int))) a2 a3 y1] ⟨y6 _ _ _ _ _ _ _ hy2,trivial⟩ ?_
 refine ai.ret ?_
 obtain rfl:=Option.some.inj h
 exact(av [.ak [8] [0]] [some (.int .i64)] (cL 58 [0]) (by kernel_rfl)).1
def qb(a0:List Int)(a1:Int)(a2:Int)(a3:List aO):Option (Int×Int):=
 Option.bind (if(decide ((8:Int)≤(al (a2 -a1))))=true then(Option.bind (if(decide ((50:Int)≤(al (a2 -a1))))=true then(Option.bind (mA a0 (al (a1+(al ((al (Int.tdiv (al (a2 -a1)) (4:Int)))*(1:Int))))) a3 (0:Int)) fun y3=>Option.bind (mA a0 (al (a1+(al ((al (Int.tdiv (al (a2 -a1)) (4:Int)))*(2:Int))))) a3 y3.2) fun y5=>Option.bind (mA a0 (al (a1+(al ((al (Int.tdiv (al (a2 -a1)) (4:Int)))*(3:Int))))) a3 y5.2) fun y7=>some (y3.1,y5.1,y7.1,y7.2)) else(some (al (a1+(al ((al (Int.tdiv (al (a2 -a1)) (4:Int)))*(1:Int)))),al (a1+(al ((al (Int.tdiv (al (a2 -a1)) (4:Int)))*(2:Int)))),al (a1+(al ((al (Int.tdiv (al (a2 -a1)) (4:Int)))*(3:Int)))),(0:Int)))) fun(o2:Int×Int×Int×Int)=>Option.bind (jA a0 o2.1 o2.2.1 o2.2.2.1 a3 o2.2.2.2) fun y10=>some (y10.1,y10.2)) else(some (al (a1+(al ((al (Int.tdiv (al (a2 -a1)) (4:Int)))*(2:Int)))),(0:Int)))) fun(o1:Int×Int)=>if(decide (o1.2=(0:Int)))=true then(some (o1.1,(1:Int))) else(if(decide (o1.2=(12:Int)))=true then(some (o1.1,(2:Int))) else(some (o1.1,(0:Int))))
abbrev BX(a0:List Int)(a1:Int)(a2:Int)(a3:List aO)(r:Int×Int):Prop:=Fc Tryz.prog gl 71 [(.val (.slice 8 (.int .i64)) a0),(.val (.int .i64) a1),(.val (.int .i64) a2),(.func (.func 21) (.cons (.val (.slice 32 aD) a3) .nil) .nil)] (aA (List.replicate 103 none) []) (.ret (.bU (.cons (.val (.int .i64) r.1) (.cons (.val (.int .i64) r.2) .nil)))) (bz 103 [])
theorem I7(a0:List Int)(a1:Int)(a2:Int)(a3:List aO)(r:Int×Int)(h:qb a0 a1 a2 a3=some r):BX a0 a1 a2 a3 r:=by
 refine Fc.of Tryz.call71 (bW.aG tied Tryz.func71 rfl rfl (σ0:=ao 63 103 [(0,(.val (.slice 8 (.int .i64)) a0)),(1,(.val (.int .i64) a1)),(2,(.val (.int .i64) a2)),(3,(.func (.func 21) (.cons (.val (.slice 32 aD) a3) .nil) .nil))] []) (by kernel_rfl) ?_)
 unfold qb at h
 refine aF ?_
 refine aF ?_
 refine aF ?_
 refine cH [] [] [] [(4:Int)≠0] ⟨(by decide),trivial⟩ ?_
 refine cH [] [] [] [(4:Int)≠0] ⟨(by decide),trivial⟩ ?_
 refine cH [] [] [] [(4:Int)≠0] ⟨(by decide),trivial⟩ ?_
 obtain⟨o1,h1,h⟩:=bind_some h
 refine ai.aZ (fun σ'=>σ'=ao 63 103 [(11,(.ptr 27 [])),(13,(.val (.int .i64) o1.1))] [(27,some (.var (.int .i64) (.val (.int .i64) o1.2)))]) ?_ ?_
 ·refine aF ?_
  rcases ae h1 with⟨SP,h1⟩|⟨SP,h1⟩
  ·refine cg SP ?_
   obtain⟨o2,h3,h1⟩:=bind_some h1
   refine ai.aZ (fun σ'=>σ'=ao 63 103 [(0,(.val (.slice 8 (.int .i64)) a0)),(3,(.func (.func 21) (.cons (.val (.slice 32 aD) a3) .nil) .nil)),(11,(.ptr 27 [])),(12,(.val (.int .i64) o2.1)),(13,(.val (.int .i64) o2.2.1)),(14,(.val (.int .i64) o2.2.2.1))] [(27,some (.var (.int .i64) (.val (.int .i64) o2.2.2.2)))]) ?_ ?_
   ·refine aF ?_
    rcases ae h3 with⟨hc9,h3⟩|⟨hc9,h3⟩
    ·refine cg hc9 ?_
     obtain⟨y3,hy4,h3⟩:=bind_some h3
     refine cH [⟨(.val (.int .i64) y3.1),[(0,27)],[],[(0,(.var (.int .i64) (.val (.int .i64) y3.2)))],58⟩] [] [] [px a0 (al (a1+(al ((al (Int.tdiv (al (a2 -a1)) (4:Int)))*(1:Int))))) a3 (0:Int) y3] ⟨ub _ _ _ _ _ hy4,trivial⟩ ?_
     obtain⟨y5,hy6,h3⟩:=bind_some h3
     refine cH [⟨(.val (.int .i64) y5.1),[(0,27)],[],[(0,(.var (.int .i64) (.val (.int .i64) y5.2)))],58⟩] [] [] [px a0 (al (a1+(al ((al (Int.tdiv (al (a2 -a1)) (4:Int)))*(2:Int))))) a3 y3.2 y5] ⟨ub _ _ _ _ _ hy6,trivial⟩ ?_
     obtain⟨y7,hy8,h3⟩:=bind_some h3
     refine kc [⟨(.val (.int .i64) y7.1),[(0,27)],[],[(0,(.var (.int .i64) (.val (.int .i64) y7.2)))],58⟩] [] [] [px a0 (al (a1+(al ((al (Int.tdiv (al (a2 -a1)) (4:Int)))*(3:Int))))) a3 y5.2 y7] ⟨ub _ _ _ _ _ hy8,trivial⟩ ?_
     obtain rfl:=Option.some.inj h3
     exact bx [.ak [0,3,11,12,13,14] [27]] rfl
    ·refine cq hc9 ?_
     refine ai.skip ?_
     obtain rfl:=Option.some.inj h3
     exact bx [.ak [0,3,11,12,13,14] [27]] rfl
   ·rintro _ rfl
    obtain⟨y10,hy11,h1⟩:=bind_some h1
    refine kc [⟨(.val (.int .i64) y10.1),[(0,27)],[],[(0,(.var (.int .i64) (.val (.int .i64) y10.2)))],81⟩] [] [] [ua a0 o2.1 o2.2.1 o2.2.2.1 a3 o2.2.2.2 y10] ⟨y6 _ _ _ _ _ _ _ hy11,trivial⟩ ?_
    obtain rfl:=Option.some.inj h1
    exact bx [.ak [11,13] [27]] rfl
  ·refine cq SP ?_
   refine ai.skip ?_
   obtain rfl:=Option.some.inj h1
   exact bx [.ak [11,13] [27]] rfl
 ·rintro _ rfl
  refine aF ?_
  refine ai.block ?_
  refine aF ?_
  rcases ae h with⟨hc14,h⟩|⟨hc14,h⟩
  ·refine cg hc14 ?_
   refine aF ?_
   refine ai.ret ?_
   obtain rfl:=Option.some.inj h
   exact(av [] [some (.int .i64),some (.int .i64)] (cL 103 []) (by kernel_rfl)).1
  ·refine cq hc14 ?_
   refine aF ?_
   rcases ae h with⟨hc13,h⟩|⟨hc13,h⟩
   ·refine cg hc13 ?_
    refine aF ?_
    refine ai.ret ?_
    obtain rfl:=Option.some.inj h
    exact(av [] [some (.int .i64),some (.int .i64)] (cL 103 []) (by kernel_rfl)).1
   ·refine cq hc13 ?_
    refine aF ?_
    refine ai.ret ?_
    obtain rfl:=Option.some.inj h
    exact(av [] [some (.int .i64),some (.int .i64)] (cL 103 []) (by kernel_rfl)).1
def dM(a3:List aO):Nat→Int→Int→(List Int)→Option (List Int)
 |0,_,_,_=>none
 |n1+1,RS,RU,RX=>if(decide (RS<RU))=true then(if 0≤RU∧RU<(List.length RX:Int) then(if 0≤RS∧RS<(List.length RX:Int) then(if RU<(List.length (List.set RX (Int.toNat RS) (nth (.int .i64) RX RU)):Int) then(dM a3 n1 (al (RS+(1:Int))) (al (RU -(1:Int))) (List.set (List.set RX (Int.toNat RS) (nth (.int .i64) RX RU)) (Int.toNat RU) (nth (.int .i64) RX RS))) else none) else none) else none) else(some RX)
def nI(a0:Int)(a1:Int)(a2:List Int)(a3:List aO):Option ((List Int)×(List aO)):=
 Option.bind (dM a3 (bC) a0 (al (a1 -(1:Int))) a2) fun(o1:List Int)=>some (o1,a3)
abbrev BY(a0:Int)(a1:Int)(a2:List Int)(a3:List aO)(r:(List Int)×(List aO)):Prop:=Fc Tryz.prog gl 72 [(.own 0),(.val (.int .i64) a0),(.val (.int .i64) a1),(.func (.func 21) (.cons (.own 1) .nil) .nil)] (aA (List.replicate 74 none) [(0,some (.row 3 8 (.int .i64) a2)),(1,some (.row 23 32 aD a3))]) (.ret (.bU .nil)) (bz 74 [(0,(.row 3 8 (.int .i64) r.1)),(1,(.row 23 32 aD r.2))])
theorem I8(a0:Int)(a1:Int)(a2:List Int)(a3:List aO)(r:(List Int)×(List aO))(h:nI a0 a1 a2 a3=some r):BY a0 a1 a2 a3 r:=by
 refine Fc.of Tryz.call72 (bW.aG tied Tryz.func72 rfl rfl (σ0:=ao 34 74 [(0,(.own 0)),(1,(.val (.int .i64) a0)),(2,(.val (.int .i64) a1)),(3,(.func (.func 21) (.cons (.own 1) .nil) .nil))] [(0,some (.row 3 8 (.int .i64) a2)),(1,some (.row 23 32 aD a3))]) (by kernel_rfl) ?_)
 unfold nI at h
 refine aF ?_
 refine aF ?_
 obtain⟨o1,h1,h⟩:=bind_some h
 refine ai.lA (fun σ'=>σ'=ao 34 74 [] [(0,some (.row 3 8 (.int .i64) o1)),(1,some (.row 23 32 aD a3))]) Cl.f ?_ ?_
 ·refine ai.block ?_
  refine ai.aV (fun n σ=>∃(RS:Int)(RU:Int)(RX:List Int),dM a3 n RS RU RX=some o1∧σ=ao 34 74 [(0,(.own 0)),(8,(.val (.int .i64) RS)),(9,(.val (.int .i64) RU))] [(0,some (.row 3 8 (.int .i64) RX)),(1,some (.row 23 32 aD a3))]) [.ak [0,8,9] [0,1]] (by kernel_rfl) ⟨_,_,_,h1,rfl⟩ ?_
  rintro n1 _ ⟨RS,RU,RX,h3,rfl⟩
  cases n1 with
  |zero=>exact absurd h3 (by simp[dM])
  |
   succ n1=>
   unfold dM at h3
   refine ai.seq ?_
   refine aF ?_
   rcases ae h3 with⟨hc5,h3⟩|⟨hc5,h3⟩
   ·refine cg hc5 ?_
    refine zk ?_
    refine ai.block ?_
    obtain⟨Sx,h3⟩:=ab h3
    obtain⟨hv3,h3⟩:=ab h3
    obtain⟨SL,h3⟩:=ab h3
    refine mf [] [] [] [0≤RU,RU<(List.length RX:Int),0≤RS,RS<(List.length RX:Int),0≤RS,RS<(List.length RX:Int),0≤RU,RU<(List.length (List.set RX (Int.toNat RS) (nth (.int .i64) RX RU)):Int)] ⟨Sx.1,Sx.2,hv3.1,hv3.2,hv3.1,hv3.2,Sx.1,SL,trivial⟩ ?_
    refine aF ?_
    refine fS ?_
    refine bN ?_
    exact gI [.ak [0,8,9] [0,1]] ⟨_,_,_,h3,rfl⟩
   ·refine cq hc5 ?_
    refine ai.exit ?_
    refine ze ?_
    obtain rfl:=Option.some.inj h3
    exact bx [.ak [] [0,1]] rfl
 ·rintro _ rfl
  obtain rfl:=Option.some.inj h
  exact(av [.ak [] [0,1]] [] (cL 74 [0,1]) (by kernel_rfl)).2
end Go.Proofs.YtmpdeifdnbhdiaaGreatDoor
