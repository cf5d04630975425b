/- Made by program (dec.py): walks -/
import Derived.Test.YtmpdeifdnbhdiaaGreatDoorH2
import Derived.Test.YtmpdeifdnbhdiaaGreatDoorS6
namespace Go.Proofs.YtmpdeifdnbhdiaaGreatDoor
open Go.Abs
def f5:Option Bool:=
 some true
set_option maxRecDepth 100000 in
theorem x5(r:Bool)(h:f5=some r):Fc Tryz.prog gl 5 [] (aq (List.replicate 229 none) []) (.ret (.val .bool r)) (aN 229 []):=by
 cases h
 exact Cv _
def f19(a0:List UInt8)(a1:List Int):Option bz:=
 Option.bind (f42 [bytesOf a0]) fun y1=>Option.bind (f42 [ba y1 0 32,a1]) fun y3=>some y3
set_option maxRecDepth 100000 in
theorem Kk(a0:List UInt8)(a1:List Int)(r:bz)(h:f19 a0 a1=some r):Fc Tryz.prog gl 19 [(.val .str a0),(.val (.slice 1 (.int .u8)) a1)] (aq (List.replicate 54 none) []) (.ret (.val aC r)) (aN 54 []):=by
 refine Fc.of Tryz.call19 (dq.aU tied Tryz.func19 rfl rfl (σ0:=az 14 54 [(0,(.val .str a0)),(1,(.val (.slice 1 (.int .u8)) a1))] []) (by kernel_rfl) ?_)
 unfold f19 at h
 refine ab.ak tied [] [] [] [] (by kernel_rfl) trivial ?_
 obtain⟨y1,hy2,h⟩:=bind_some h
 refine ab.ak tied [⟨(.val aC y1),[],[],[],66⟩] [] [] [Fc Tryz.prog gl 42 [(.val (.slice 24 (.slice 1 (.int .u8))) [bytesOf a0])] (aq (List.replicate 66 none) []) (.ret (.val aC y1)) (aN 66 [])] (by kernel_rfl) ⟨IE _ _ hy2,trivial⟩ ?_
 refine ab.gh [.freeze 21 (.slice 1 (.int .u8))] (σ':=az 14 54 [(0,(.val .str a0)),(1,(.val (.slice 1 (.int .u8)) a1)),(4,(.ptr 20 [])),(5,(.dJ aC y1)),(6,(.val .str a0)),(7,(.val (.slice 1 (.int .u8)) (bytesOf a0))),(8,(.own 24)),(9,(.val aC y1))] [(20,some (.var aC (.val aC (Ty.bu aC)))),(24,some (.row 72 24 (.slice 1 (.int .u8)) [bytesOf a0]))]) (by kernel_rfl) ?_
 obtain⟨y3,hy4,h⟩:=bind_some h
 refine ab.ak tied [⟨(.val aC y3),[],[],[],66⟩] [] [] [Fc Tryz.prog gl 42 [(.val (.slice 24 (.slice 1 (.int .u8))) [ba y1 0 32,a1])] (aq (List.replicate 66 none) []) (.ret (.val aC y3)) (aN 66 [])] (by kernel_rfl) ⟨IE _ _ hy4,trivial⟩ ?_
 refine ab.ret ?_
 obtain rfl:=Option.some.inj h
 exact(aG [] [some aC] (fo 54 []) (by kernel_rfl)).1
def f77(a0:Int):Option Int:=
 Option.bind (if(decide ((4294967296:Int)≤a0))=true then(some (Int.fdiv a0 (2^(min (Int.toNat (32:Int)) 64)),(32:Int))) else(some (a0,(0:Int)))) fun(o1:Int×Int)=>Option.bind (if(decide ((65536:Int)≤o1.1))=true then(some (Int.fdiv o1.1 (2^(min (Int.toNat (16:Int)) 64)),ao (o1.2+(16:Int)))) else(some (o1.1,o1.2))) fun(o3:Int×Int)=>Option.bind (if(decide ((256:Int)≤o3.1))=true then(some (Int.fdiv o3.1 (2^(min (Int.toNat (8:Int)) 64)),ao (o3.2+(8:Int)))) else(some (o3.1,o3.2))) fun(o5:Int×Int)=>if 0≤(IntKind.u8.wrap (o5.1))∧(IntKind.u8.wrap (o5.1))<(List.length [0,1,2,2,3,3,3,3,4,4,4,4,4,4,4,4,5,5,5,5,5,5,5,5,5,5,5,5,5,5,5,5,6,6,6,6,6,6,6,6,6,6,6,6,6,6,6,6,6,6,6,6,6,6,6,6,6,6,6,6,6,6,6,6,7,7,7,7,7,7,7,7,7,7,7,7,7,7,7,7,7,7,7,7,7,7,7,7,7,7,7,7,7,7,7,7,7,7,7,7,7,7,7,7,7,7,7,7,7,7,7,7,7,7,7,7,7,7,7,7,7,7,7,7,7,7,7,7,8,8,8,8,8,8,8,8,8,8,8,8,8,8,8,8,8,8,8,8,8,8,8,8,8,8,8,8,8,8,8,8,8,8,8,8,8,8,8,8,8,8,8,8,8,8,8,8,8,8,8,8,8,8,8,8,8,8,8,8,8,8,8,8,8,8,8,8,8,8,8,8,8,8,8,8,8,8,8,8,8,8,8,8,8,8,8,8,8,8,8,8,8,8,8,8,8,8,8,8,8,8,8,8,8,8,8,8,8,8,8,8,8,8,8,8,8,8,8,8,8,8,8,8,8,8,8,8]:Int) then(some (ao (o5.2+(ao (CH [0,1,2,2,3,3,3,3,4,4,4,4,4,4,4,4,5,5,5,5,5,5,5,5,5,5,5,5,5,5,5,5,6,6,6,6,6,6,6,6,6,6,6,6,6,6,6,6,6,6,6,6,6,6,6,6,6,6,6,6,6,6,6,6,7,7,7,7,7,7,7,7,7,7,7,7,7,7,7,7,7,7,7,7,7,7,7,7,7,7,7,7,7,7,7,7,7,7,7,7,7,7,7,7,7,7,7,7,7,7,7,7,7,7,7,7,7,7,7,7,7,7,7,7,7,7,7,7,8,8,8,8,8,8,8,8,8,8,8,8,8,8,8,8,8,8,8,8,8,8,8,8,8,8,8,8,8,8,8,8,8,8,8,8,8,8,8,8,8,8,8,8,8,8,8,8,8,8,8,8,8,8,8,8,8,8,8,8,8,8,8,8,8,8,8,8,8,8,8,8,8,8,8,8,8,8,8,8,8,8,8,8,8,8,8,8,8,8,8,8,8,8,8,8,8,8,8,8,8,8,8,8,8,8,8,8,8,8,8,8,8,8,8,8,8,8,8,8,8,8,8,8,8,8,8,8] (IntKind.u8.wrap (o5.1))))))) else none
set_option maxRecDepth 100000 in
theorem Kl(a0:Int)(r:Int)(h:f77 a0=some r):Fc Tryz.prog gl 77 [(.val (.int .u64) a0)] (aq (List.replicate 65 none) []) (.ret (.val (.int .i64) r)) (aN 65 []):=by
 refine Fc.of Tryz.call77 (dq.aU tied Tryz.func77 rfl rfl (σ0:=az 25 65 [(0,(.val (.int .u64) a0))] []) (by kernel_rfl) ?_)
 unfold f77 at h
 refine ab.ak tied [] [] [] [] (by kernel_rfl) trivial ?_
 obtain⟨o1,h1,h⟩:=bind_some h
 refine ab.bV (fun σ'=>σ'=az 25 65 [(0,(.val (.int .u64) o1.1)),(2,(.val (.int .i64) o1.2))] []) ?_ ?_
 ·refine ab.ak tied [] [] [] [] (by kernel_rfl) trivial ?_
  rcases aj h1 with⟨hc2,h1⟩|⟨hc2,h1⟩
  ·refine ab.aI (b:=decide ((4294967296:Int)≤a0)) (by kernel_rfl) hc2 ?_
   refine ab.ak tied [] [] [] [0≤(32:Int)] (by kernel_rfl) ⟨(by decide),trivial⟩ ?_
   refine ab.eI tied [] [] [] [] (by kernel_rfl) trivial ?_
   obtain rfl:=Option.some.inj h1
   exact jQ.mk [.ar [0,2] []] (by kernel_rfl) rfl
  ·refine ab.aH (b:=decide ((4294967296:Int)≤a0)) (by kernel_rfl) hc2 ?_
   refine ab.skip ?_
   obtain rfl:=Option.some.inj h1
   exact jQ.mk [.ar [0,2] []] (by kernel_rfl) rfl
 ·rintro _ rfl
  obtain⟨o3,h2,h⟩:=bind_some h
  refine ab.bV (fun σ'=>σ'=az 25 65 [(0,(.val (.int .u64) o3.1)),(2,(.val (.int .i64) o3.2))] []) ?_ ?_
  ·refine ab.ak tied [] [] [] [] (by kernel_rfl) trivial ?_
   rcases aj h2 with⟨hc4,h2⟩|⟨hc4,h2⟩
   ·refine ab.aI (b:=decide ((65536:Int)≤o1.1)) (by kernel_rfl) hc4 ?_
    refine ab.ak tied [] [] [] [0≤(16:Int)] (by kernel_rfl) ⟨(by decide),trivial⟩ ?_
    refine ab.eI tied [] [] [] [] (by kernel_rfl) trivial ?_
    obtain rfl:=Option.some.inj h2
    exact jQ.mk [.ar [0,2] []] (by kernel_rfl) rfl
   ·refine ab.aH (b:=decide ((65536:Int)≤o1.1)) (by kernel_rfl) hc4 ?_
    refine ab.skip ?_
    obtain rfl:=Option.some.inj h2
    exact jQ.mk [.ar [0,2] []] (by kernel_rfl) rfl
  ·rintro _ rfl
   obtain⟨o5,h3,h⟩:=bind_some h
   refine ab.bV (fun σ'=>σ'=az 25 65 [(0,(.val (.int .u64) o5.1)),(2,(.val (.int .i64) o5.2))] []) ?_ ?_
   ·refine ab.ak tied [] [] [] [] (by kernel_rfl) trivial ?_
    rcases aj h3 with⟨hc6,h3⟩|⟨hc6,h3⟩
    ·refine ab.aI (b:=decide ((256:Int)≤o3.1)) (by kernel_rfl) hc6 ?_
     refine ab.ak tied [] [] [] [0≤(8:Int)] (by kernel_rfl) ⟨(by decide),trivial⟩ ?_
     refine ab.eI tied [] [] [] [] (by kernel_rfl) trivial ?_
     obtain rfl:=Option.some.inj h3
     exact jQ.mk [.ar [0,2] []] (by kernel_rfl) rfl
    ·refine ab.aH (b:=decide ((256:Int)≤o3.1)) (by kernel_rfl) hc6 ?_
     refine ab.skip ?_
     obtain rfl:=Option.some.inj h3
     exact jQ.mk [.ar [0,2] []] (by kernel_rfl) rfl
   ·rintro _ rfl
    obtain⟨hv7,h⟩:=ai h
    refine ab.ak tied [] [] [] [0≤(IntKind.u8.wrap (o5.1)),(IntKind.u8.wrap (o5.1))<(List.length [0,1,2,2,3,3,3,3,4,4,4,4,4,4,4,4,5,5,5,5,5,5,5,5,5,5,5,5,5,5,5,5,6,6,6,6,6,6,6,6,6,6,6,6,6,6,6,6,6,6,6,6,6,6,6,6,6,6,6,6,6,6,6,6,7,7,7,7,7,7,7,7,7,7,7,7,7,7,7,7,7,7,7,7,7,7,7,7,7,7,7,7,7,7,7,7,7,7,7,7,7,7,7,7,7,7,7,7,7,7,7,7,7,7,7,7,7,7,7,7,7,7,7,7,7,7,7,7,8,8,8,8,8,8,8,8,8,8,8,8,8,8,8,8,8,8,8,8,8,8,8,8,8,8,8,8,8,8,8,8,8,8,8,8,8,8,8,8,8,8,8,8,8,8,8,8,8,8,8,8,8,8,8,8,8,8,8,8,8,8,8,8,8,8,8,8,8,8,8,8,8,8,8,8,8,8,8,8,8,8,8,8,8,8,8,8,8,8,8,8,8,8,8,8,8,8,8,8,8,8,8,8,8,8,8,8,8,8,8,8,8,8,8,8,8,8,8,8,8,8,8,8,8,8,8,8]:Int)] (by kernel_rfl) ⟨hv7.1,hv7.2,trivial⟩ ?_
    refine ab.ret ?_
    obtain rfl:=Option.some.inj h
    exact(aG [] [some (.int .i64)] (fo 65 []) (by kernel_rfl)).1
def f44(a0:Int):Option Int:=
 Option.bind (f77 a0) fun y1=>some y1
set_option maxRecDepth 100000 in
theorem JF(a0:Int)(r:Int)(h:f44 a0=some r):Fc Tryz.prog gl 44 [(.val (.int .u64) a0)] (aq (List.replicate 48 none) []) (.ret (.val (.int .i64) r)) (aN 48 []):=by
 refine Fc.of Tryz.call44 (dq.aU tied Tryz.func44 rfl rfl (σ0:=az 8 48 [(0,(.val (.int .u64) a0))] []) (by kernel_rfl) ?_)
 unfold f44 at h
 refine ab.ak tied [] [] [] [] (by kernel_rfl) trivial ?_
 refine ab.seq ?_
 refine ab.aH (b:=false) (by kernel_rfl) rfl ?_
 refine ab.skip ?_
 change ab _ _ _ _ _
 obtain⟨y1,hy2,h⟩:=bind_some h
 refine ab.ak tied [⟨(.val (.int .i64) y1),[],[],[],65⟩] [] [] [Fc Tryz.prog gl 77 [(.val (.int .u64) a0)] (aq (List.replicate 65 none) []) (.ret (.val (.int .i64) y1)) (aN 65 [])] (by kernel_rfl) ⟨Kl _ _ hy2,trivial⟩ ?_
 refine ab.ret ?_
 obtain rfl:=Option.some.inj h
 exact(aG [] [some (.int .i64)] (fo 48 []) (by kernel_rfl)).1
def f78(a0:Int):Option Bool:=
 some (!decide (a0=a0))
set_option maxRecDepth 100000 in
theorem JG(a0:Int)(r:Bool)(h:f78 a0=some r):Fc Tryz.prog gl 78 [(.val (.int .i64) a0)] (aq (List.replicate 46 none) []) (.ret (.val .bool r)) (aN 46 []):=by
 refine Fc.of Tryz.call78 (dq.aU tied Tryz.func78 rfl rfl (σ0:=az 6 46 [(0,(.val (.int .i64) a0))] []) (by kernel_rfl) ?_)
 unfold f78 at h
 refine ab.ak tied [] [] [] [] (by kernel_rfl) trivial ?_
 refine ab.ak tied [] [] [] [] (by kernel_rfl) trivial ?_
 refine ab.ret ?_
 obtain rfl:=Option.some.inj h
 exact(aG [] [some .bool] (fo 46 []) (by kernel_rfl)).1
def f45(a0:Int)(a1:Int):Option Int:=
 Option.bind (f78 a0) fun y1=>Option.bind (f78 a1) fun y3=>if y1=true then(if y3=true then(some (0:Int)) else(some (-1:Int))) else(if y3=true then(some (1:Int)) else(if(decide (a0<a1))=true then(some (-1:Int)) else(if(decide (a1<a0))=true then(some (1:Int)) else(some (0:Int)))))
set_option maxRecDepth 100000 in
theorem Km(a0:Int)(a1:Int)(r:Int)(h:f45 a0 a1=some r):Fc Tryz.prog gl 45 [(.val (.int .i64) a0),(.val (.int .i64) a1)] (aq (List.replicate 60 none) []) (.ret (.val (.int .i64) r)) (aN 60 []):=by
 refine Fc.of Tryz.call45 (dq.aU tied Tryz.func45 rfl rfl (σ0:=az 20 60 [(0,(.val (.int .i64) a0)),(1,(.val (.int .i64) a1))] []) (by kernel_rfl) ?_)
 unfold f45 at h
 refine ab.ak tied [] [] [] [] (by kernel_rfl) trivial ?_
 obtain⟨y1,hy2,h⟩:=bind_some h
 refine ab.ak tied [⟨(.val .bool y1),[],[],[],46⟩] [] [] [Fc Tryz.prog gl 78 [(.val (.int .i64) a0)] (aq (List.replicate 46 none) []) (.ret (.val .bool y1)) (aN 46 [])] (by kernel_rfl) ⟨JG _ _ hy2,trivial⟩ ?_
 obtain⟨y3,hy4,h⟩:=bind_some h
 refine ab.ak tied [⟨(.val .bool y3),[],[],[],46⟩] [] [] [Fc Tryz.prog gl 78 [(.val (.int .i64) a1)] (aq (List.replicate 46 none) []) (.ret (.val .bool y3)) (aN 46 [])] (by kernel_rfl) ⟨JG _ _ hy4,trivial⟩ ?_
 refine ab.seq ?_
 refine ab.ak tied [] [] [] [] (by kernel_rfl) trivial ?_
 rcases aj h with⟨hc9,h⟩|⟨hc9,h⟩
 ·refine ab.aI (b:=y1) (by kernel_rfl) hc9 ?_
  refine ab.seq ?_
  refine ab.ak tied [] [] [] [] (by kernel_rfl) trivial ?_
  rcases aj h with⟨hc5,h⟩|⟨hc5,h⟩
  ·refine ab.aI (b:=y3) (by kernel_rfl) hc5 ?_
   refine ab.ak tied [] [] [] [] (by kernel_rfl) trivial ?_
   refine ab.ret ?_
   obtain rfl:=Option.some.inj h
   exact(aG [] [some (.int .i64)] (fo 60 []) (by kernel_rfl)).1
  ·refine ab.aH (b:=y3) (by kernel_rfl) hc5 ?_
   refine ab.skip ?_
   change ab _ _ _ _ _
   refine ab.ak tied [] [] [] [] (by kernel_rfl) trivial ?_
   refine ab.ret ?_
   obtain rfl:=Option.some.inj h
   exact(aG [] [some (.int .i64)] (fo 60 []) (by kernel_rfl)).1
 ·refine ab.aH (b:=y1) (by kernel_rfl) hc9 ?_
  refine ab.skip ?_
  change ab _ _ _ _ _
  refine ab.seq ?_
  refine ab.ak tied [] [] [] [] (by kernel_rfl) trivial ?_
  rcases aj h with⟨hc8,h⟩|⟨hc8,h⟩
  ·refine ab.aI (b:=y3) (by kernel_rfl) hc8 ?_
   refine ab.ak tied [] [] [] [] (by kernel_rfl) trivial ?_
   refine ab.ret ?_
   obtain rfl:=Option.some.inj h
   exact(aG [] [some (.int .i64)] (fo 60 []) (by kernel_rfl)).1
  ·refine ab.aH (b:=y3) (by kernel_rfl) hc8 ?_
   refine ab.skip ?_
   change ab _ _ _ _ _
   refine ab.seq ?_
   refine ab.ak tied [] [] [] [] (by kernel_rfl) trivial ?_
   rcases aj h with⟨hc7,h⟩|⟨hc7,h⟩
   ·refine ab.aI (b:=decide (a0<a1)) (by kernel_rfl) hc7 ?_
    refine ab.ak tied [] [] [] [] (by kernel_rfl) trivial ?_
    refine ab.ret ?_
    obtain rfl:=Option.some.inj h
    exact(aG [] [some (.int .i64)] (fo 60 []) (by kernel_rfl)).1
   ·refine ab.aH (b:=decide (a0<a1)) (by kernel_rfl) hc7 ?_
    refine ab.skip ?_
    change ab _ _ _ _ _
    refine ab.seq ?_
    refine ab.ak tied [] [] [] [] (by kernel_rfl) trivial ?_
    rcases aj h with⟨hc6,h⟩|⟨hc6,h⟩
    ·refine ab.aI (b:=decide (a1<a0)) (by kernel_rfl) hc6 ?_
     refine ab.ak tied [] [] [] [] (by kernel_rfl) trivial ?_
     refine ab.ret ?_
     obtain rfl:=Option.some.inj h
     exact(aG [] [some (.int .i64)] (fo 60 []) (by kernel_rfl)).1
    ·refine ab.aH (b:=decide (a1<a0)) (by kernel_rfl) hc6 ?_
     refine ab.skip ?_
     change ab _ _ _ _ _
     refine ab.ak tied [] [] [] [] (by kernel_rfl) trivial ?_
     refine ab.ret ?_
     obtain rfl:=Option.some.inj h
     exact(aG [] [some (.int .i64)] (fo 60 []) (by kernel_rfl)).1
def f117(a0:Int):Option Bool:=
 some (!decide (a0=a0))
set_option maxRecDepth 100000 in
theorem Gl(a0:Int)(r:Bool)(h:f117 a0=some r):Fc Tryz.prog gl 117 [(.val (.int .u8) a0)] (aq (List.replicate 46 none) []) (.ret (.val .bool r)) (aN 46 []):=by
 refine Fc.of Tryz.call117 (dq.aU tied Tryz.func117 rfl rfl (σ0:=az 6 46 [(0,(.val (.int .u8) a0))] []) (by kernel_rfl) ?_)
 unfold f117 at h
 refine ab.ak tied [] [] [] [] (by kernel_rfl) trivial ?_
 refine ab.ak tied [] [] [] [] (by kernel_rfl) trivial ?_
 refine ab.ret ?_
 obtain rfl:=Option.some.inj h
 exact(aG [] [some .bool] (fo 46 []) (by kernel_rfl)).1
def f79(a0:Int)(a1:Int):Option Int:=
 Option.bind (f117 a0) fun y1=>Option.bind (f117 a1) fun y3=>if y1=true then(if y3=true then(some (0:Int)) else(some (-1:Int))) else(if y3=true then(some (1:Int)) else(if(decide (a0<a1))=true then(some (-1:Int)) else(if(decide (a1<a0))=true then(some (1:Int)) else(some (0:Int)))))
set_option maxRecDepth 100000 in
theorem Kn(a0:Int)(a1:Int)(r:Int)(h:f79 a0 a1=some r):Fc Tryz.prog gl 79 [(.val (.int .u8) a0),(.val (.int .u8) a1)] (aq (List.replicate 60 none) []) (.ret (.val (.int .i64) r)) (aN 60 []):=by
 refine Fc.of Tryz.call79 (dq.aU tied Tryz.func79 rfl rfl (σ0:=az 20 60 [(0,(.val (.int .u8) a0)),(1,(.val (.int .u8) a1))] []) (by kernel_rfl) ?_)
 unfold f79 at h
 refine ab.ak tied [] [] [] [] (by kernel_rfl) trivial ?_
 obtain⟨y1,hy2,h⟩:=bind_some h
 refine ab.ak tied [⟨(.val .bool y1),[],[],[],46⟩] [] [] [Fc Tryz.prog gl 117 [(.val (.int .u8) a0)] (aq (List.replicate 46 none) []) (.ret (.val .bool y1)) (aN 46 [])] (by kernel_rfl) ⟨Gl _ _ hy2,trivial⟩ ?_
 obtain⟨y3,hy4,h⟩:=bind_some h
 refine ab.ak tied [⟨(.val .bool y3),[],[],[],46⟩] [] [] [Fc Tryz.prog gl 117 [(.val (.int .u8) a1)] (aq (List.replicate 46 none) []) (.ret (.val .bool y3)) (aN 46 [])] (by kernel_rfl) ⟨Gl _ _ hy4,trivial⟩ ?_
 refine ab.seq ?_
 refine ab.ak tied [] [] [] [] (by kernel_rfl) trivial ?_
 rcases aj h with⟨hc9,h⟩|⟨hc9,h⟩
 ·refine ab.aI (b:=y1) (by kernel_rfl) hc9 ?_
  refine ab.seq ?_
  refine ab.ak tied [] [] [] [] (by kernel_rfl) trivial ?_
  rcases aj h with⟨hc5,h⟩|⟨hc5,h⟩
  ·refine ab.aI (b:=y3) (by kernel_rfl) hc5 ?_
   refine ab.ak tied [] [] [] [] (by kernel_rfl) trivial ?_
   refine ab.ret ?_
   obtain rfl:=Option.some.inj h
   exact(aG [] [some (.int .i64)] (fo 60 []) (by kernel_rfl)).1
  ·refine ab.aH (b:=y3) (by kernel_rfl) hc5 ?_
   refine ab.skip ?_
   change ab _ _ _ _ _
   refine ab.ak tied [] [] [] [] (by kernel_rfl) trivial ?_
   refine ab.ret ?_
   obtain rfl:=Option.some.inj h
   exact(aG [] [some (.int .i64)] (fo 60 []) (by kernel_rfl)).1
 ·refine ab.aH (b:=y1) (by kernel_rfl) hc9 ?_
  refine ab.skip ?_
  change ab _ _ _ _ _
  refine ab.seq ?_
  refine ab.ak tied [] [] [] [] (by kernel_rfl) trivial ?_
  rcases aj h with⟨hc8,h⟩|⟨hc8,h⟩
  ·refine ab.aI (b:=y3) (by kernel_rfl) hc8 ?_
   refine ab.ak tied [] [] [] [] (by kernel_rfl) trivial ?_
   refine ab.ret ?_
   obtain rfl:=Option.some.inj h
   exact(aG [] [some (.int .i64)] (fo 60 []) (by kernel_rfl)).1
  ·refine ab.aH (b:=y3) (by kernel_rfl) hc8 ?_
   refine ab.skip ?_
   change ab _ _ _ _ _
   refine ab.seq ?_
   refine ab.ak tied [] [] [] [] (by kernel_rfl) trivial ?_
   rcases aj h with⟨hc7,h⟩|⟨hc7,h⟩
   ·refine ab.aI (b:=decide (a0<a1)) (by kernel_rfl) hc7 ?_
    refine ab.ak tied [] [] [] [] (by kernel_rfl) trivial ?_
    refine ab.ret ?_
    obtain rfl:=Option.some.inj h
    exact(aG [] [some (.int .i64)] (fo 60 []) (by kernel_rfl)).1
   ·refine ab.aH (b:=decide (a0<a1)) (by kernel_rfl) hc7 ?_
    refine ab.skip ?_
    change ab _ _ _ _ _
    refine ab.seq ?_
    refine ab.ak tied [] [] [] [] (by kernel_rfl) trivial ?_
    rcases aj h with⟨hc6,h⟩|⟨hc6,h⟩
    ·refine ab.aI (b:=decide (a1<a0)) (by kernel_rfl) hc6 ?_
     refine ab.ak tied [] [] [] [] (by kernel_rfl) trivial ?_
     refine ab.ret ?_
     obtain rfl:=Option.some.inj h
     exact(aG [] [some (.int .i64)] (fo 60 []) (by kernel_rfl)).1
    ·refine ab.aH (b:=decide (a1<a0)) (by kernel_rfl) hc6 ?_
     refine ab.skip ?_
     change ab _ _ _ _ _
     refine ab.ak tied [] [] [] [] (by kernel_rfl) trivial ?_
     refine ab.ret ?_
     obtain rfl:=Option.some.inj h
     exact(aG [] [some (.int .i64)] (fo 60 []) (by kernel_rfl)).1
def iZ(a0:List Int)(a1:List Int):Nat→Int→Option (lz Unit Int)
 |0,_=>none
 |n1+1,u1_0=>if(decide (u1_0<(List.length a0:Int)))=true then(if 0≤u1_0∧u1_0<(List.length a0:Int) then(if(decide ((List.length a1:Int)≤u1_0))=true then(some (.ret (1:Int))) else(if u1_0<(List.length a1:Int) then(Option.bind (f79 (nth (.int .u8) a0 u1_0) (nth (.int .u8) a1 u1_0)) fun y4=>if(!decide (y4=(0:Int)))=true then(some (.ret y4)) else(iZ a0 a1 n1 (ao (u1_0+(1:Int))))) else none)) else none) else(some (.brk ()))
def f46(a0:List Int)(a1:List Int):Option Int:=
 Option.bind (iZ a0 a1 (List.length a0+1) (0:Int)) fun(o1:lz Unit Int)=>match o1 with| .brk _v9=>(if(decide ((List.length a0:Int)<(List.length a1:Int)))=true then(some (-1:Int)) else(some (0:Int)))| .ret r11=>(some r11)
set_option maxRecDepth 100000 in
theorem Ko(a0:List Int)(a1:List Int)(r:Int)(h:f46 a0 a1=some r):Fc Tryz.prog gl 46 [(.val (.slice 1 (.int .u8)) a0),(.val (.slice 1 (.int .u8)) a1)] (aq (List.replicate 76 none) []) (.ret (.val (.int .i64) r)) (aN 76 []):=by
 refine Fc.of Tryz.call46 (dq.aU tied Tryz.func46 rfl rfl (σ0:=az 36 76 [(0,(.val (.slice 1 (.int .u8)) a0)),(1,(.val (.slice 1 (.int .u8)) a1))] []) (by kernel_rfl) ?_)
 unfold f46 at h
 refine ab.ak tied [] [] [] [] (by kernel_rfl) trivial ?_
 obtain⟨o1,h1,h⟩:=bind_some h
 refine ab.bV (fun σ'=>∃v9,o1= .brk v9∧σ'=az 36 76 [(0,(.val (.slice 1 (.int .u8)) a0)),(1,(.val (.slice 1 (.int .u8)) a1))] []) ?_ ?_
 ·refine ab.ak tied [] [] [] [] (by kernel_rfl) trivial ?_
  refine ab.block ?_
  refine ab.aM (fun n σ=>∃(u1_0:Int),iZ a0 a1 n u1_0=some o1∧σ=az 36 76 [(0,(.val (.slice 1 (.int .u8)) a0)),(1,(.val (.slice 1 (.int .u8)) a1)),(9,(.val (.slice 1 (.int .u8)) a0)),(10,(.val (.int .i64) (List.length a0:Int))),(11,(.val (.int .i64) u1_0))] []) [.ar [0,1,9,10,11] []] (by kernel_rfl) ⟨_,h1,rfl⟩ ?_
  rintro n1 _ ⟨u1_0,h3,rfl⟩
  cases n1 with
  |zero=>exact absurd h3 (by simp[iZ])
  |
   succ n1=>
   unfold iZ at h3
   refine ab.ak tied [] [] [] [] (by kernel_rfl) trivial ?_
   refine ab.seq ?_
   rcases aj h3 with⟨hc8,h3⟩|⟨hc8,h3⟩
   ·refine ab.aI (b:=decide (u1_0<(List.length a0:Int))) (by kernel_rfl) hc8 ?_
    refine ab.skip ?_
    change ab _ _ _ _ _
    refine ab.seq ?_
    refine ab.block ?_
    obtain⟨hv2,h3⟩:=ai h3
    refine ab.ak tied [] [] [] [0≤u1_0,u1_0<(List.length a0:Int)] (by kernel_rfl) ⟨hv2.1,hv2.2,trivial⟩ ?_
    refine ab.seq ?_
    refine ab.ak tied [] [] [] [] (by kernel_rfl) trivial ?_
    rcases aj h3 with⟨hc7,h3⟩|⟨hc7,h3⟩
    ·refine ab.aI (b:=decide ((List.length a1:Int)≤u1_0)) (by kernel_rfl) hc7 ?_
     refine ab.ak tied [] [] [] [] (by kernel_rfl) trivial ?_
     refine ab.ret ?_
     obtain rfl:=Option.some.inj h3
     dsimp only at h
     obtain rfl:=Option.some.inj h
     exact(aG [] [some (.int .i64)] (fo 76 []) (by kernel_rfl)).1
    ·refine ab.aH (b:=decide ((List.length a1:Int)≤u1_0)) (by kernel_rfl) hc7 ?_
     refine ab.skip ?_
     change ab _ _ _ _ _
     obtain⟨hv3,h3⟩:=ai h3
     refine ab.ak tied [] [] [] [0≤u1_0,u1_0<(List.length a1:Int)] (by kernel_rfl) ⟨hv2.1,hv3,trivial⟩ ?_
     obtain⟨y4,hy5,h3⟩:=bind_some h3
     refine ab.ak tied [⟨(.val (.int .i64) y4),[],[],[],60⟩] [] [] [Fc Tryz.prog gl 79 [(.val (.int .u8) (nth (.int .u8) a0 u1_0)),(.val (.int .u8) (nth (.int .u8) a1 u1_0))] (aq (List.replicate 60 none) []) (.ret (.val (.int .i64) y4)) (aN 60 [])] (by kernel_rfl) ⟨Kn _ _ _ hy5,trivial⟩ ?_
     refine ab.ak tied [] [] [] [] (by kernel_rfl) trivial ?_
     rcases aj h3 with⟨hc6,h3⟩|⟨hc6,h3⟩
     ·refine ab.aI (b:= !decide (y4=(0:Int))) (by kernel_rfl) hc6 ?_
      refine ab.ak tied [] [] [] [] (by kernel_rfl) trivial ?_
      refine ab.ret ?_
      obtain rfl:=Option.some.inj h3
      dsimp only at h
      obtain rfl:=Option.some.inj h
      exact(aG [] [some (.int .i64)] (fo 76 []) (by kernel_rfl)).1
     ·refine ab.aH (b:= !decide (y4=(0:Int))) (by kernel_rfl) hc6 ?_
      refine ab.skip ?_
      refine bN ?_
      change ab _ _ _ _ _
      refine ab.eI tied [] [] [] [] (by kernel_rfl) trivial ?_
      exact aM.mk [.ar [0,1,9,10,11] []] (by kernel_rfl) ⟨_,h3,rfl⟩
   ·refine ab.aH (b:=decide (u1_0<(List.length a0:Int))) (by kernel_rfl) hc8 ?_
    refine ab.exit ?_
    refine tE ?_
    refine lE ?_
    refine bE ?_
    obtain rfl:=Option.some.inj h3
    exact jQ.mk [.ar [0,1] []] (by kernel_rfl) ⟨_,rfl,rfl⟩
 ·rintro _ ⟨v9,rfl,rfl⟩
  dsimp only at h
  refine ab.seq ?_
  refine ab.ak tied [] [] [] [] (by kernel_rfl) trivial ?_
  rcases aj h with⟨hc10,h⟩|⟨hc10,h⟩
  ·refine ab.aI (b:=decide ((List.length a0:Int)<(List.length a1:Int))) (by kernel_rfl) hc10 ?_
   refine ab.ak tied [] [] [] [] (by kernel_rfl) trivial ?_
   refine ab.ret ?_
   obtain rfl:=Option.some.inj h
   exact(aG [] [some (.int .i64)] (fo 76 []) (by kernel_rfl)).1
  ·refine ab.aH (b:=decide ((List.length a0:Int)<(List.length a1:Int))) (by kernel_rfl) hc10 ?_
   refine ab.skip ?_
   change ab _ _ _ _ _
   refine ab.ak tied [] [] [] [] (by kernel_rfl) trivial ?_
   refine ab.ret ?_
   obtain rfl:=Option.some.inj h
   exact(aG [] [some (.int .i64)] (fo 76 []) (by kernel_rfl)).1
def f21(a0:List bz)(a1:Int)(a2:Int):Option Int:=
 if 0≤a1∧a1<(List.length a0:Int) then(if 0≤a2∧a2<(List.length a0:Int) then(if(aW aC (nth aC a0 a1) (nth aC a0 a2))=true then(Option.bind (f45 a1 a2) fun y3=>some y3) else(Option.bind (f46 (ba (nth aC a0 a1) 0 32) (ba (nth aC a0 a2) 0 32)) fun y5=>some y5)) else none) else none
set_option maxRecDepth 100000 in
theorem zC(a0:List bz)(a1:Int)(a2:Int)(r:Int)(h:f21 a0 a1 a2=some r):Fc Tryz.prog gl 21 [(.val (.slice 32 aC) a0),(.val (.int .i64) a1),(.val (.int .i64) a2)] (aq (List.replicate 68 none) []) (.ret (.val (.int .i64) r)) (aN 68 []):=by
 refine Fc.of Tryz.call21 (dq.aU tied Tryz.func21 rfl rfl (σ0:=az 28 68 [(0,(.val (.slice 32 aC) a0)),(1,(.val (.int .i64) a1)),(2,(.val (.int .i64) a2))] []) (by kernel_rfl) ?_)
 unfold f21 at h
 refine ab.ak tied [] [] [] [] (by kernel_rfl) trivial ?_
 refine ab.seq ?_
 obtain⟨hv1,h⟩:=ai h
 obtain⟨hv2,h⟩:=ai h
 refine ab.dL tied [] [] [] [0≤a1,a1<(List.length a0:Int),0≤a2,a2<(List.length a0:Int),gr Tryz.prog G 40 23 aC=true,Tryz.prog.eqGuardType Tryz.prog.depth 23=false] (by kernel_rfl) ⟨hv1.1,hv1.2,hv2.1,hv2.2,Gm,Gn,trivial⟩ ?_
 rcases aj h with⟨hc7,h⟩|⟨hc7,h⟩
 ·refine ab.aI (b:=aW aC (nth aC a0 a1) (nth aC a0 a2)) (by kernel_rfl) hc7 ?_
  obtain⟨y3,hy4,h⟩:=bind_some h
  refine ab.ak tied [⟨(.val (.int .i64) y3),[],[],[],60⟩] [] [] [Fc Tryz.prog gl 45 [(.val (.int .i64) a1),(.val (.int .i64) a2)] (aq (List.replicate 60 none) []) (.ret (.val (.int .i64) y3)) (aN 60 [])] (by kernel_rfl) ⟨Km _ _ _ hy4,trivial⟩ ?_
  refine ab.ret ?_
  obtain rfl:=Option.some.inj h
  exact(aG [] [some (.int .i64)] (fo 68 []) (by kernel_rfl)).1
 ·refine ab.aH (b:=aW aC (nth aC a0 a1) (nth aC a0 a2)) (by kernel_rfl) hc7 ?_
  refine ab.skip ?_
  change ab _ _ _ _ _
  obtain⟨y5,hy6,h⟩:=bind_some h
  refine ab.dL tied [⟨(.val (.int .i64) y5),[],[],[],76⟩] [] [] [0≤a1,a1<(List.length a0:Int),0≤a2,a2<(List.length a0:Int),Fc Tryz.prog gl 46 [(.val (.slice 1 (.int .u8)) (ba (nth aC a0 a1) 0 32)),(.val (.slice 1 (.int .u8)) (ba (nth aC a0 a2) 0 32))] (aq (List.replicate 76 none) []) (.ret (.val (.int .i64) y5)) (aN 76 [])] (by kernel_rfl) ⟨hv1.1,hv1.2,hv2.1,hv2.2,Ko _ _ _ hy6,trivial⟩ ?_
  refine ab.ret ?_
  obtain rfl:=Option.some.inj h
  exact(aG [] [some (.int .i64)] (fo 68 []) (by kernel_rfl)).1
def eu(a0:Int)(a1:Int)(a3:List bz)(u1_0:Int):Nat→Int→(List Int)→Option (List Int)
 |0,_,_=>none
 |n2+1,u2_0,u2_1=>Option.bind (Option.bind (if(decide (a0<u2_0))=true then(if 0≤u2_0∧u2_0<(List.length u2_1:Int) then(if 0≤(ao (u2_0 -(1:Int)))∧(ao (u2_0 -(1:Int)))<(List.length u2_1:Int) then(Option.bind (f21 a3 (nth (.int .i64) u2_1 u2_0) (nth (.int .i64) u2_1 (ao (u2_0 -(1:Int))))) fun y9=>some (decide (y9<(0:Int)))) else none) else none) else(some false)) fun(o5:Bool)=>if o5=true then(some (.brk ())) else(some (.ret ()))) fun(o4:lz Unit Unit)=>match o4 with| .brk _v12=>(if 0≤(ao (u2_0 -(1:Int)))∧(ao (u2_0 -(1:Int)))<(List.length u2_1:Int) then(if 0≤u2_0∧u2_0<(List.length u2_1:Int) then(if(ao (u2_0 -(1:Int)))<(List.length (List.set u2_1 (Int.toNat u2_0) (nth (.int .i64) u2_1 (ao (u2_0 -(1:Int))))):Int) then(eu a0 a1 a3 u1_0 n2 (ao (u2_0 -(1:Int))) (List.set (List.set u2_1 (Int.toNat u2_0) (nth (.int .i64) u2_1 (ao (u2_0 -(1:Int))))) (Int.toNat (ao (u2_0 -(1:Int)))) (nth (.int .i64) u2_1 u2_0))) else none) else none) else none)| .ret _v16=>(some u2_1)
def eA(a0:Int)(a1:Int)(a3:List bz):Nat→Int→(List Int)→Option (List Int)
 |0,_,_=>none
 |n1+1,u1_0,u1_1=>if(decide (u1_0<a1))=true then(Option.bind (Option.bind (eu a0 a1 a3 u1_0 (cS) u1_0 u1_1) fun(o3:List Int)=>some o3) fun(o2:List Int)=>eA a0 a1 a3 n1 (ao (u1_0+(1:Int))) o2) else(some u1_1)
def mL(a0:Int)(a1:Int)(a2:List Int)(a3:List bz):Option ((List Int)×(List bz)):=
 Option.bind (eA a0 a1 a3 (cS) (ao (a0+(1:Int))) a2) fun(o1:List Int)=>some (o1,a3)
set_option maxRecDepth 100000 in
theorem Am(
 a0:Int) (a1:Int) (a2:List Int) (a3:List bz) (r:(List Int)×(List bz)) (h:mL a0 a1 a2 a3=some r):Fc Tryz.prog gl 68 [(.own 0),(.val (.int .i64) a0),(.val (.int .i64) a1),(.func (.func 21) (.cons (.own 1) .nil) .nil)] (aq (List.replicate 93 none) [(0,some (.row 3 8 (.int .i64) a2)),(1,some (.row 23 32 aC a3))]) (.ret (.bJ .nil)) (aN 93 [(0,(.row 3 8 (.int .i64) r.1)),(1,(.row 23 32 aC r.2))]):=by
 refine Fc.of Tryz.call68 (dq.aU tied Tryz.func68 rfl rfl (σ0:=az 53 93 [(0,(.own 0)),(1,(.val (.int .i64) a0)),(2,(.val (.int .i64) a1)),(3,(.func (.func 21) (.cons (.own 1) .nil) .nil))] [(0,some (.row 3 8 (.int .i64) a2)),(1,some (.row 23 32 aC a3))]) (by kernel_rfl) ?_)
 unfold mL at h
 refine ab.ak tied [] [] [] [] (by kernel_rfl) trivial ?_
 obtain⟨o1,h1,h⟩:=bind_some h
 refine ab.kM (fun σ'=>σ'=az 53 93 [] [(0,some (.row 3 8 (.int .i64) o1)),(1,some (.row 23 32 aC a3))]) Cl.f ?_ ?_
 ·refine ab.block ?_
  refine ab.aM (fun n σ=>∃(u1_0:Int)(u1_1:List Int),eA a0 a1 a3 n u1_0 u1_1=some o1∧σ=az 53 93 [(0,(.own 0)),(1,(.val (.int .i64) a0)),(2,(.val (.int .i64) a1)),(3,(.func (.func 21) (.cons (.own 1) .nil) .nil)),(8,(.val (.int .i64) u1_0))] [(0,some (.row 3 8 (.int .i64) u1_1)),(1,some (.row 23 32 aC a3))]) [.ar [0,1,2,3,8] [0,1]] (by kernel_rfl) ⟨_,_,h1,rfl⟩ ?_
  rintro n1 _ ⟨u1_0,u1_1,h22,rfl⟩
  cases n1 with
  |zero=>exact absurd h22 (by simp[eA])
  |
   succ n1=>
   unfold eA at h22
   refine ab.seq ?_
   refine ab.ak tied [] [] [] [] (by kernel_rfl) trivial ?_
   rcases aj h22 with⟨hc17,h22⟩|⟨hc17,h22⟩
   ·refine ab.aI (b:=decide (u1_0<a1)) (by kernel_rfl) hc17 ?_
    refine ab.skip ?_
    change ab _ _ _ _ _
    obtain⟨o2,h23,h22⟩:=bind_some h22
    refine ab.bV (fun σ'=>σ'=az 53 93 [(0,(.own 0)),(1,(.val (.int .i64) a0)),(2,(.val (.int .i64) a1)),(3,(.func (.func 21) (.cons (.own 1) .nil) .nil)),(8,(.val (.int .i64) u1_0))] [(0,some (.row 3 8 (.int .i64) o2)),(1,some (.row 23 32 aC a3))]) ?_ ?_
    ·refine ab.block ?_
     refine ab.ak tied [] [] [] [] (by kernel_rfl) trivial ?_
     obtain⟨o3,h33,h23⟩:=bind_some h23
     refine ab.kM (fun σ'=>σ'=az 53 93 [(0,(.own 0)),(1,(.val (.int .i64) a0)),(2,(.val (.int .i64) a1)),(3,(.func (.func 21) (.cons (.own 1) .nil) .nil)),(8,(.val (.int .i64) u1_0))] [(0,some (.row 3 8 (.int .i64) o3)),(1,some (.row 23 32 aC a3))]) (Cl.bp (Cl.j (Cl.loop (Cl.bp (Cl.j Cl.f))))) ?_ ?_
     ·refine ab.block ?_
      refine ab.aM (fun n σ=>∃(u2_0:Int)(u2_1:List Int),eu a0 a1 a3 u1_0 n u2_0 u2_1=some o3∧σ=az 53 93 [(0,(.own 0)),(1,(.val (.int .i64) a0)),(2,(.val (.int .i64) a1)),(3,(.func (.func 21) (.cons (.own 1) .nil) .nil)),(8,(.val (.int .i64) u1_0)),(9,(.val (.int .i64) u2_0))] [(0,some (.row 3 8 (.int .i64) u2_1)),(1,some (.row 23 32 aC a3))]) [.ar [0,1,2,3,8,9] [0,1]] (by kernel_rfl) ⟨_,_,h33,rfl⟩ ?_
      rintro n2 _ ⟨u2_0,u2_1,h38,rfl⟩
      cases n2 with
      |zero=>exact absurd h38 (by simp[eu])
      |
       succ n2=>
       unfold eu at h38
       obtain⟨o4,h39,h38⟩:=bind_some h38
       refine ab.tj (fun σ'=>∃v12,o4= .brk v12∧σ'=az 53 93 [(0,(.own 0)),(1,(.val (.int .i64) a0)),(2,(.val (.int .i64) a1)),(3,(.func (.func 21) (.cons (.own 1) .nil) .nil)),(8,(.val (.int .i64) u1_0)),(9,(.val (.int .i64) u2_0))] [(0,some (.row 3 8 (.int .i64) u2_1)),(1,some (.row 23 32 aC a3))]) (fun i σ'=>(i=2∧∃v16,o4= .ret v16∧σ'=az 53 93 [(0,(.own 0)),(1,(.val (.int .i64) a0)),(2,(.val (.int .i64) a1)),(3,(.func (.func 21) (.cons (.own 1) .nil) .nil)),(8,(.val (.int .i64) u1_0))] [(0,some (.row 3 8 (.int .i64) u2_1)),(1,some (.row 23 32 aC a3))])) (Cl.loop (Cl.bp (Cl.j (Cl.bp (Cl.j (Cl.loop (Cl.bp (Cl.j Cl.f)))))))) ?_ ?_ ?_
       ·obtain⟨o5,h41,h39⟩:=bind_some h39
        refine ab.bV (fun σ'=>σ'=az 53 93 [(0,(.own 0)),(1,(.val (.int .i64) a0)),(2,(.val (.int .i64) a1)),(3,(.func (.func 21) (.cons (.own 1) .nil) .nil)),(8,(.val (.int .i64) u1_0)),(9,(.val (.int .i64) u2_0)),(34,(.val .bool o5))] [(0,some (.row 3 8 (.int .i64) u2_1)),(1,some (.row 23 32 aC a3))]) ?_ ?_
        ·rcases aj h41 with⟨hg6,h41⟩|⟨hg6,h41⟩
         ·obtain⟨hv7,h41⟩:=ai h41
          obtain⟨hv8,h41⟩:=ai h41
          obtain⟨y9,hy10,h41⟩:=bind_some h41
          refine ab.fT tied [⟨(.val (.int .i64) y9),[],[],[],68⟩] [true] [] [(decide (a0<u2_0))=true,0≤u2_0,u2_0<(List.length u2_1:Int),0≤(ao (u2_0 -(1:Int))),(ao (u2_0 -(1:Int)))<(List.length u2_1:Int),Fc Tryz.prog gl 21 [(.val (.slice 32 aC) a3),(.val (.int .i64) (nth (.int .i64) u2_1 u2_0)),(.val (.int .i64) (nth (.int .i64) u2_1 (ao (u2_0 -(1:Int)))))] (aq (List.replicate 68 none) []) (.ret (.val (.int .i64) y9)) (aN 68 [])] (by kernel_rfl) ⟨hg6,hv7.1,hv7.2,hv8.1,hv8.2,zC _ _ _ _ hy10,trivial⟩ ?_
          obtain rfl:=Option.some.inj h41
          exact jQ.mk [.ar [0,1,2,3,8,9,34] [0,1]] (by kernel_rfl) rfl
         ·refine ab.fT tied [] [false] [] [(decide (a0<u2_0))=false] (by kernel_rfl) ⟨hg6,trivial⟩ ?_
          obtain rfl:=Option.some.inj h41
          exact jQ.mk [.ar [0,1,2,3,8,9,34] [0,1]] (by kernel_rfl) rfl
        ·rintro _ rfl
         rcases aj h39 with⟨hc11,h39⟩|⟨hc11,h39⟩
         ·refine ab.aI (b:=o5) (by kernel_rfl) hc11 ?_
          refine ab.skip ?_
          obtain rfl:=Option.some.inj h39
          exact l4.mk [.ar [0,1,2,3,8,9] [0,1]] (by kernel_rfl) ⟨_,rfl,rfl⟩
         ·refine ab.aH (b:=o5) (by kernel_rfl) hc11 ?_
          refine ab.exit ?_
          obtain rfl:=Option.some.inj h39
          exact l4.ex [.ar [0,1,2,3,8] [0,1]] (by kernel_rfl) ⟨rfl,_,rfl,rfl⟩
       ·rintro _ _ ⟨rfl,v16,rfl,rfl⟩
        ·dsimp only at h38
         refine lE ?_
         refine bE ?_
         obtain rfl:=Option.some.inj h38
         exact jQ.mk [.ar [0,1,2,3,8] [0,1]] (by kernel_rfl) rfl
       ·rintro _ ⟨v12,rfl,rfl⟩
        dsimp only at h38
        refine ab.seq ?_
        refine ab.block ?_
        obtain⟨hv13,h38⟩:=ai h38
        obtain⟨hv14,h38⟩:=ai h38
        obtain⟨hv15,h38⟩:=ai h38
        refine ab.fT tied [] [] [] [0≤(ao (u2_0 -(1:Int))),(ao (u2_0 -(1:Int)))<(List.length u2_1:Int),0≤u2_0,u2_0<(List.length u2_1:Int),0≤u2_0,u2_0<(List.length u2_1:Int),0≤(ao (u2_0 -(1:Int))),(ao (u2_0 -(1:Int)))<(List.length (List.set u2_1 (Int.toNat u2_0) (nth (.int .i64) u2_1 (ao (u2_0 -(1:Int))))):Int)] (by kernel_rfl) ⟨hv13.1,hv13.2,hv14.1,hv14.2,hv14.1,hv14.2,hv13.1,hv15,trivial⟩ ?_
        refine bN ?_
        change ab _ _ _ _ _
        refine ab.eI tied [] [] [] [] (by kernel_rfl) trivial ?_
        exact aM.mk [.ar [0,1,2,3,8,9] [0,1]] (by kernel_rfl) ⟨_,_,h38,rfl⟩
     ·rintro _ rfl
      refine bN ?_
      obtain rfl:=Option.some.inj h23
      exact jQ.mk [.ar [0,1,2,3,8] [0,1]] (by kernel_rfl) rfl
    ·rintro _ rfl
     refine ab.eI tied [] [] [] [] (by kernel_rfl) trivial ?_
     exact aM.mk [.ar [0,1,2,3,8] [0,1]] (by kernel_rfl) ⟨_,_,h22,rfl⟩
   ·refine ab.aH (b:=decide (u1_0<a1)) (by kernel_rfl) hc17 ?_
    refine ab.exit ?_
    refine tE ?_
    refine lE ?_
    refine bE ?_
    obtain rfl:=Option.some.inj h22
    exact jQ.mk [.ar [] [0,1]] (by kernel_rfl) rfl
 ·rintro _ rfl
  obtain rfl:=Option.some.inj h
  exact(aG [.ar [] [0,1]] [] (fo 93 [0,1]) (by kernel_rfl)).2
def f113(a0:Int):Option Int:=
 Option.bind (f44 (IntKind.u64.wrap (a0))) fun y1=>if 0≤y1 then(some (IntKind.u64.wrap ((1:Int)*2^(min (Int.toNat y1) 64)))) else none
set_option maxRecDepth 100000 in
theorem ID(a0:Int)(r:Int)(h:f113 a0=some r):Fc Tryz.prog gl 113 [(.val (.int .i64) a0)] (aq (List.replicate 47 none) []) (.ret (.val (.int .u64) r)) (aN 47 []):=by
 refine Fc.of Tryz.call113 (dq.aU tied Tryz.func113 rfl rfl (σ0:=az 7 47 [(0,(.val (.int .i64) a0))] []) (by kernel_rfl) ?_)
 unfold f113 at h
 refine ab.ak tied [] [] [] [] (by kernel_rfl) trivial ?_
 obtain⟨y1,hy2,h⟩:=bind_some h
 obtain⟨hv3,h⟩:=ai h
 refine ab.ak tied [⟨(.val (.int .i64) y1),[],[],[],48⟩] [] [] [Fc Tryz.prog gl 44 [(.val (.int .u64) (IntKind.u64.wrap (a0)))] (aq (List.replicate 48 none) []) (.ret (.val (.int .i64) y1)) (aN 48 []),0≤y1] (by kernel_rfl) ⟨JF _ _ hy2,hv3,trivial⟩ ?_
 refine ab.ret ?_
 obtain rfl:=Option.some.inj h
 exact(aG [] [some (.int .u64)] (fo 47 []) (by kernel_rfl)).1
def om(a0:Int):Option (Int×Int):=
 some (an .xor .u64 (an .xor .u64 (an .xor .u64 a0 (IntKind.u64.wrap (a0*2^(min (Int.toNat (13:Int)) 64)))) (Int.fdiv (an .xor .u64 a0 (IntKind.u64.wrap (a0*2^(min (Int.toNat (13:Int)) 64)))) (2^(min (Int.toNat (7:Int)) 64)))) (IntKind.u64.wrap ((an .xor .u64 (an .xor .u64 a0 (IntKind.u64.wrap (a0*2^(min (Int.toNat (13:Int)) 64)))) (Int.fdiv (an .xor .u64 a0 (IntKind.u64.wrap (a0*2^(min (Int.toNat (13:Int)) 64)))) (2^(min (Int.toNat (7:Int)) 64))))*2^(min (Int.toNat (17:Int)) 64))),an .xor .u64 (an .xor .u64 (an .xor .u64 a0 (IntKind.u64.wrap (a0*2^(min (Int.toNat (13:Int)) 64)))) (Int.fdiv (an .xor .u64 a0 (IntKind.u64.wrap (a0*2^(min (Int.toNat (13:Int)) 64)))) (2^(min (Int.toNat (7:Int)) 64)))) (IntKind.u64.wrap ((an .xor .u64 (an .xor .u64 a0 (IntKind.u64.wrap (a0*2^(min (Int.toNat (13:Int)) 64)))) (Int.fdiv (an .xor .u64 a0 (IntKind.u64.wrap (a0*2^(min (Int.toNat (13:Int)) 64)))) (2^(min (Int.toNat (7:Int)) 64))))*2^(min (Int.toNat (17:Int)) 64))))
set_option maxRecDepth 100000 in
theorem Cy(a0:Int)(r:Int×Int)(h:om a0=some r):Fc Tryz.prog gl 114 [(.ptr 0 [])] (aq (List.replicate 73 none) [(0,some (.var (.int .u64) (.val (.int .u64) a0)))]) (.ret (.val (.int .u64) r.1)) (aN 73 [(0,(.var (.int .u64) (.val (.int .u64) r.2)))]):=by
 refine Fc.of Tryz.call114 (dq.aU tied Tryz.func114 rfl rfl (σ0:=az 33 73 [(0,(.ptr 0 []))] [(0,some (.var (.int .u64) (.val (.int .u64) a0)))]) (by kernel_rfl) ?_)
 unfold om at h
 refine ab.ak tied [] [] [] [] (by kernel_rfl) trivial ?_
 refine ab.dL tied [] [] [] [0≤(13:Int)] (by kernel_rfl) ⟨(by decide),trivial⟩ ?_
 refine ab.dL tied [] [] [] [0≤(7:Int)] (by kernel_rfl) ⟨(by decide),trivial⟩ ?_
 refine ab.dL tied [] [] [] [0≤(17:Int)] (by kernel_rfl) ⟨(by decide),trivial⟩ ?_
 refine ab.ak tied [] [] [] [] (by kernel_rfl) trivial ?_
 refine ab.ret ?_
 obtain rfl:=Option.some.inj h
 exact(aG [.ar [2] [0]] [some (.int .u64)] (fo 73 [0]) (by kernel_rfl)).1
def c6(a0:Int)(a1:Int)(a3:List bz)(y1:Int):Nat→Int→(List Int)→Int→Option (List Int)
 |0,_,_,_=>none
 |n1+1,u1_0,u1_1,u1_2=>if(decide (u1_0≤(ao ((ao (a0+(ao ((ao (Int.tdiv (ao (a1 -a0)) (4:Int)))*(2:Int)))))+(1:Int)))))=true then(Option.bind (Option.bind (om u1_2) fun y5=>Option.bind (if(decide ((ao (a1 -a0))≤(ao (an .and .u64 y5.1 (IntKind.u64.wrap (y1 -(1:Int)))))))=true then(some (ao ((ao (an .and .u64 y5.1 (IntKind.u64.wrap (y1 -(1:Int))))) -(ao (a1 -a0))))) else(some (ao (an .and .u64 y5.1 (IntKind.u64.wrap (y1 -(1:Int))))))) fun(o7:Int)=>if 0≤(ao (a0+o7))∧(ao (a0+o7))<(List.length u1_1:Int) then(if 0≤u1_0∧u1_0<(List.length u1_1:Int) then(if(ao (a0+o7))<(List.length (List.set u1_1 (Int.toNat u1_0) (nth (.int .i64) u1_1 (ao (a0+o7)))):Int) then(some (List.set (List.set u1_1 (Int.toNat u1_0) (nth (.int .i64) u1_1 (ao (a0+o7)))) (Int.toNat (ao (a0+o7))) (nth (.int .i64) u1_1 u1_0),y5.2)) else none) else none) else none) fun(o4:(List Int)×Int)=>c6 a0 a1 a3 y1 n1 (ao (u1_0+(1:Int))) o4.1 o4.2) else(some u1_1)
def fu(a0:Int)(a1:Int)(a2:List Int)(a3:List bz):Option ((List Int)×(List bz)):=
 if(decide ((8:Int)≤(ao (a1 -a0))))=true then(Option.bind (f113 (ao (a1 -a0))) fun y1=>Option.bind (c6 a0 a1 a3 y1 (cS) (ao ((ao (a0+(ao ((ao (Int.tdiv (ao (a1 -a0)) (4:Int)))*(2:Int))))) -(1:Int))) a2 (IntKind.u64.wrap (ao (a1 -a0)))) fun(o3:List Int)=>some (o3,a3)) else(some (a2,a3))
set_option maxRecDepth 100000 in
theorem ED(
 a0:Int) (a1:Int) (a2:List Int) (a3:List bz) (r:(List Int)×(List bz)) (h:fu a0 a1 a2 a3=some r):Fc Tryz.prog gl 70 [(.own 0),(.val (.int .i64) a0),(.val (.int .i64) a1),(.func (.func 21) (.cons (.own 1) .nil) .nil)] (aq (List.replicate 107 none) [(0,some (.row 3 8 (.int .i64) a2)),(1,some (.row 23 32 aC a3))]) (.ret (.bJ .nil)) (aN 107 [(0,(.row 3 8 (.int .i64) r.1)),(1,(.row 23 32 aC r.2))]):=by
 refine Fc.of Tryz.call70 (dq.aU tied Tryz.func70 rfl rfl (σ0:=az 67 107 [(0,(.own 0)),(1,(.val (.int .i64) a0)),(2,(.val (.int .i64) a1)),(3,(.func (.func 21) (.cons (.own 1) .nil) .nil))] [(0,some (.row 3 8 (.int .i64) a2)),(1,some (.row 23 32 aC a3))]) (by kernel_rfl) ?_)
 unfold fu at h
 refine ab.ak tied [] [] [] [] (by kernel_rfl) trivial ?_
 refine ab.ak tied [] [] [] [] (by kernel_rfl) trivial ?_
 rcases aj h with⟨hc13,h⟩|⟨hc13,h⟩
 ·refine ab.aI (b:=decide ((8:Int)≤(ao (a1 -a0)))) (by kernel_rfl) hc13 ?_
  refine ab.ak tied [] [] [] [] (by kernel_rfl) trivial ?_
  obtain⟨y1,hy2,h⟩:=bind_some h
  refine ab.ak tied [⟨(.val (.int .u64) y1),[],[],[],47⟩] [] [] [Fc Tryz.prog gl 113 [(.val (.int .i64) (ao (a1 -a0)))] (aq (List.replicate 47 none) []) (.ret (.val (.int .u64) y1)) (aN 47 [])] (by kernel_rfl) ⟨ID _ _ hy2,trivial⟩ ?_
  refine ab.ak tied [] [] [] [(4:Int)≠0] (by kernel_rfl) ⟨(by decide),trivial⟩ ?_
  obtain⟨o3,h1,h⟩:=bind_some h
  refine ab.kM (fun σ'=>σ'=az 67 107 [] [(0,some (.row 3 8 (.int .i64) o3)),(1,some (.row 23 32 aC a3))]) Cl.f ?_ ?_
  ·refine ab.block ?_
   refine ab.aM (fun n σ=>∃(u1_0:Int)(u1_1:List Int)(u1_2:Int),c6 a0 a1 a3 y1 n u1_0 u1_1 u1_2=some o3∧σ=az 67 107 [(0,(.own 0)),(1,(.val (.int .i64) a0)),(8,(.val (.int .i64) (ao (a1 -a0)))),(9,(.ptr 25 [])),(10,(.val (.int .u64) y1)),(11,(.val (.int .i64) u1_0))] [(0,some (.row 3 8 (.int .i64) u1_1)),(1,some (.row 23 32 aC a3)),(25,some (.var (.int .u64) (.val (.int .u64) u1_2)))]) [.ar [0,1,8,9,10,11] [0,1,25]] (by kernel_rfl) ⟨_,_,_,h1,rfl⟩ ?_
   rintro n1 _ ⟨u1_0,u1_1,u1_2,h6,rfl⟩
   cases n1 with
   |zero=>exact absurd h6 (by simp[c6])
   |
    succ n1=>
    unfold c6 at h6
    refine ab.seq ?_
    refine ab.ak tied [] [] [] [(4:Int)≠0] (by kernel_rfl) ⟨(by decide),trivial⟩ ?_
    rcases aj h6 with⟨hc12,h6⟩|⟨hc12,h6⟩
    ·refine ab.aI (b:=decide (u1_0≤(ao ((ao (a0+(ao ((ao (Int.tdiv (ao (a1 -a0)) (4:Int)))*(2:Int)))))+(1:Int))))) (by kernel_rfl) hc12 ?_
     refine ab.skip ?_
     change ab _ _ _ _ _
     obtain⟨o4,h7,h6⟩:=bind_some h6
     refine ab.bV (fun σ'=>σ'=az 67 107 [(0,(.own 0)),(1,(.val (.int .i64) a0)),(8,(.val (.int .i64) (ao (a1 -a0)))),(9,(.ptr 25 [])),(10,(.val (.int .u64) y1)),(11,(.val (.int .i64) u1_0))] [(0,some (.row 3 8 (.int .i64) o4.1)),(1,some (.row 23 32 aC a3)),(25,some (.var (.int .u64) (.val (.int .u64) o4.2)))]) ?_ ?_
     ·refine ab.block ?_
      obtain⟨y5,hy6,h7⟩:=bind_some h7
      refine ab.ak tied [⟨(.val (.int .u64) y5.1),[(0,25)],[],[(0,(.var (.int .u64) (.val (.int .u64) y5.2)))],73⟩] [] [] [Fc Tryz.prog gl 114 [(.ptr 0 [])] (aq (List.replicate 73 none) [(0,some (.var (.int .u64) (.val (.int .u64) u1_2)))]) (.ret (.val (.int .u64) y5.1)) (aN 73 [(0,(.var (.int .u64) (.val (.int .u64) y5.2)))])] (by kernel_rfl) ⟨Cy _ _ hy6,trivial⟩ ?_
      obtain⟨o7,h9,h7⟩:=bind_some h7
      refine ab.bV (fun σ'=>σ'=az 67 107 [(0,(.own 0)),(1,(.val (.int .i64) a0)),(8,(.val (.int .i64) (ao (a1 -a0)))),(9,(.ptr 25 [])),(10,(.val (.int .u64) y1)),(11,(.val (.int .i64) u1_0)),(12,(.val (.int .i64) o7))] [(0,some (.row 3 8 (.int .i64) u1_1)),(1,some (.row 23 32 aC a3)),(25,some (.var (.int .u64) (.val (.int .u64) y5.2)))]) ?_ ?_
      ·refine ab.ak tied [] [] [] [] (by kernel_rfl) trivial ?_
       rcases aj h9 with⟨hc8,h9⟩|⟨hc8,h9⟩
       ·refine ab.aI (b:=decide ((ao (a1 -a0))≤(ao (an .and .u64 y5.1 (IntKind.u64.wrap (y1 -(1:Int))))))) (by kernel_rfl) hc8 ?_
        refine ab.eI tied [] [] [] [] (by kernel_rfl) trivial ?_
        obtain rfl:=Option.some.inj h9
        exact jQ.mk [.ar [0,1,8,9,10,11,12] [0,1,25]] (by kernel_rfl) rfl
       ·refine ab.aH (b:=decide ((ao (a1 -a0))≤(ao (an .and .u64 y5.1 (IntKind.u64.wrap (y1 -(1:Int))))))) (by kernel_rfl) hc8 ?_
        refine ab.skip ?_
        obtain rfl:=Option.some.inj h9
        exact jQ.mk [.ar [0,1,8,9,10,11,12] [0,1,25]] (by kernel_rfl) rfl
      ·rintro _ rfl
       obtain⟨hv9,h7⟩:=ai h7
       obtain⟨hv10,h7⟩:=ai h7
       obtain⟨hv11,h7⟩:=ai h7
       refine ab.fT tied [] [] [] [0≤(ao (a0+o7)),(ao (a0+o7))<(List.length u1_1:Int),0≤u1_0,u1_0<(List.length u1_1:Int),0≤u1_0,u1_0<(List.length u1_1:Int),0≤(ao (a0+o7)),(ao (a0+o7))<(List.length (List.set u1_1 (Int.toNat u1_0) (nth (.int .i64) u1_1 (ao (a0+o7)))):Int)] (by kernel_rfl) ⟨hv9.1,hv9.2,hv10.1,hv10.2,hv10.1,hv10.2,hv9.1,hv11,trivial⟩ ?_
       refine bN ?_
       obtain rfl:=Option.some.inj h7
       exact jQ.mk [.ar [0,1,8,9,10,11] [0,1,25]] (by kernel_rfl) rfl
     ·rintro _ rfl
      refine ab.eI tied [] [] [] [] (by kernel_rfl) trivial ?_
      exact aM.mk [.ar [0,1,8,9,10,11] [0,1,25]] (by kernel_rfl) ⟨_,_,_,h6,rfl⟩
    ·refine ab.aH (b:=decide (u1_0≤(ao ((ao (a0+(ao ((ao (Int.tdiv (ao (a1 -a0)) (4:Int)))*(2:Int)))))+(1:Int))))) (by kernel_rfl) hc12 ?_
     refine ab.exit ?_
     refine tE ?_
     refine lE ?_
     refine bE ?_
     obtain rfl:=Option.some.inj h6
     exact jQ.mk [.ar [] [0,1]] (by kernel_rfl) rfl
  ·rintro _ rfl
   obtain rfl:=Option.some.inj h
   exact(aG [.ar [] [0,1]] [] (fo 107 [0,1]) (by kernel_rfl)).2
 ·refine ab.aH (b:=decide ((8:Int)≤(ao (a1 -a0)))) (by kernel_rfl) hc13 ?_
  refine ab.skip ?_
  obtain rfl:=Option.some.inj h
  exact(aG [.ar [] [0,1]] [] (fo 107 [0,1]) (by kernel_rfl)).2
def ja(a0:List Int)(a1:Int)(a2:Int)(a3:List bz)(a4:Int):Option (Int×Int×Int):=
 if 0≤a2∧a2<(List.length a0:Int) then(if 0≤a1∧a1<(List.length a0:Int) then(Option.bind (f21 a3 (nth (.int .i64) a0 a2) (nth (.int .i64) a0 a1)) fun y3=>if(decide (y3<(0:Int)))=true then(some (a2,a1,ao (a4+(1:Int)))) else(some (a1,a2,a4))) else none) else none
set_option maxRecDepth 100000 in
theorem sr(a0:List Int)(a1:Int)(a2:Int)(a3:List bz)(a4:Int)(r:Int×Int×Int)(h:ja a0 a1 a2 a3 a4=some r):Fc Tryz.prog gl 168 [(.val (.slice 8 (.int .i64)) a0),(.val (.int .i64) a1),(.val (.int .i64) a2),(.ptr 0 []),(.func (.func 21) (.cons (.val (.slice 32 aC) a3) .nil) .nil)] (aq (List.replicate 72 none) [(0,some (.var (.int .i64) (.val (.int .i64) a4)))]) (.ret (.bJ (.cons (.val (.int .i64) r.1) (.cons (.val (.int .i64) r.2.1) .nil)))) (aN 72 [(0,(.var (.int .i64) (.val (.int .i64) r.2.2)))]):=by
 refine Fc.of Tryz.call168 (dq.aU tied Tryz.func168 rfl rfl (σ0:=az 32 72 [(0,(.val (.slice 8 (.int .i64)) a0)),(1,(.val (.int .i64) a1)),(2,(.val (.int .i64) a2)),(3,(.ptr 0 [])),(4,(.func (.func 21) (.cons (.val (.slice 32 aC) a3) .nil) .nil))] [(0,some (.var (.int .i64) (.val (.int .i64) a4)))]) (by kernel_rfl) ?_)
 unfold ja at h
 refine ab.ak tied [] [] [] [] (by kernel_rfl) trivial ?_
 refine ab.seq ?_
 obtain⟨hv1,h⟩:=ai h
 obtain⟨hv2,h⟩:=ai h
 obtain⟨y3,hy4,h⟩:=bind_some h
 refine ab.dL tied [⟨(.val (.int .i64) y3),[],[],[],68⟩] [] [] [0≤a2,a2<(List.length a0:Int),0≤a1,a1<(List.length a0:Int),Fc Tryz.prog gl 21 [(.val (.slice 32 aC) a3),(.val (.int .i64) (nth (.int .i64) a0 a2)),(.val (.int .i64) (nth (.int .i64) a0 a1))] (aq (List.replicate 68 none) []) (.ret (.val (.int .i64) y3)) (aN 68 [])] (by kernel_rfl) ⟨hv1.1,hv1.2,hv2.1,hv2.2,zC _ _ _ _ hy4,trivial⟩ ?_
 rcases aj h with⟨hc5,h⟩|⟨hc5,h⟩
 ·refine ab.aI (b:=decide (y3<(0:Int))) (by kernel_rfl) hc5 ?_
  refine ab.ak tied [] [] [] [] (by kernel_rfl) trivial ?_
  refine ab.ak tied [] [] [] [] (by kernel_rfl) trivial ?_
  refine ab.ret ?_
  obtain rfl:=Option.some.inj h
  exact(aG [.ar [10,11] [0]] [some (.int .i64),some (.int .i64)] (fo 72 [0]) (by kernel_rfl)).1
 ·refine ab.aH (b:=decide (y3<(0:Int))) (by kernel_rfl) hc5 ?_
  refine ab.skip ?_
  change ab _ _ _ _ _
  refine ab.ak tied [] [] [] [] (by kernel_rfl) trivial ?_
  refine ab.ret ?_
  obtain rfl:=Option.some.inj h
  exact(aG [.ar [10,11] [0]] [some (.int .i64),some (.int .i64)] (fo 72 [0]) (by kernel_rfl)).1
def jb(a0:List Int)(a1:Int)(a2:Int)(a3:Int)(a4:List bz)(a5:Int):Option (Int×Int):=
 Option.bind (ja a0 a1 a2 a4 a5) fun y1=>Option.bind (ja a0 y1.2.1 a3 a4 y1.2.2) fun y3=>Option.bind (ja a0 y1.1 y3.1 a4 y3.2.2) fun y5=>some (y5.2.1,y5.2.2)
set_option maxRecDepth 100000 in
theorem xy(a0:List Int)(a1:Int)(a2:Int)(a3:Int)(a4:List bz)(a5:Int)(r:Int×Int)(h:jb a0 a1 a2 a3 a4 a5=some r):Fc Tryz.prog gl 116 [(.val (.slice 8 (.int .i64)) a0),(.val (.int .i64) a1),(.val (.int .i64) a2),(.val (.int .i64) a3),(.ptr 0 []),(.func (.func 21) (.cons (.val (.slice 32 aC) a4) .nil) .nil)] (aq (List.replicate 81 none) [(0,some (.var (.int .i64) (.val (.int .i64) a5)))]) (.ret (.val (.int .i64) r.1)) (aN 81 [(0,(.var (.int .i64) (.val (.int .i64) r.2)))]):=by
 refine Fc.of Tryz.call116 (dq.aU tied Tryz.func116 rfl rfl (σ0:=az 41 81 [(0,(.val (.slice 8 (.int .i64)) a0)),(1,(.val (.int .i64) a1)),(2,(.val (.int .i64) a2)),(3,(.val (.int .i64) a3)),(4,(.ptr 0 [])),(5,(.func (.func 21) (.cons (.val (.slice 32 aC) a4) .nil) .nil))] [(0,some (.var (.int .i64) (.val (.int .i64) a5)))]) (by kernel_rfl) ?_)
 unfold jb at h
 refine ab.ak tied [] [] [] [] (by kernel_rfl) trivial ?_
 obtain⟨y1,hy2,h⟩:=bind_some h
 refine ab.ak tied [⟨(.bJ (.cons (.val (.int .i64) y1.1) (.cons (.val (.int .i64) y1.2.1) .nil))),[(0,0)],[],[(0,(.var (.int .i64) (.val (.int .i64) y1.2.2)))],72⟩] [] [] [Fc Tryz.prog gl 168 [(.val (.slice 8 (.int .i64)) a0),(.val (.int .i64) a1),(.val (.int .i64) a2),(.ptr 0 []),(.func (.func 21) (.cons (.val (.slice 32 aC) a4) .nil) .nil)] (aq (List.replicate 72 none) [(0,some (.var (.int .i64) (.val (.int .i64) a5)))]) (.ret (.bJ (.cons (.val (.int .i64) y1.1) (.cons (.val (.int .i64) y1.2.1) .nil)))) (aN 72 [(0,(.var (.int .i64) (.val (.int .i64) y1.2.2)))])] (by kernel_rfl) ⟨sr _ _ _ _ _ _ hy2,trivial⟩ ?_
 obtain⟨y3,hy4,h⟩:=bind_some h
 refine ab.ak tied [⟨(.bJ (.cons (.val (.int .i64) y3.1) (.cons (.val (.int .i64) y3.2.1) .nil))),[(0,0)],[],[(0,(.var (.int .i64) (.val (.int .i64) y3.2.2)))],72⟩] [] [] [Fc Tryz.prog gl 168 [(.val (.slice 8 (.int .i64)) a0),(.val (.int .i64) y1.2.1),(.val (.int .i64) a3),(.ptr 0 []),(.func (.func 21) (.cons (.val (.slice 32 aC) a4) .nil) .nil)] (aq (List.replicate 72 none) [(0,some (.var (.int .i64) (.val (.int .i64) y1.2.2)))]) (.ret (.bJ (.cons (.val (.int .i64) y3.1) (.cons (.val (.int .i64) y3.2.1) .nil)))) (aN 72 [(0,(.var (.int .i64) (.val (.int .i64) y3.2.2)))])] (by kernel_rfl) ⟨sr _ _ _ _ _ _ hy4,trivial⟩ ?_
 obtain⟨y5,hy6,h⟩:=bind_some h
 refine ab.ak tied [⟨(.bJ (.cons (.val (.int .i64) y5.1) (.cons (.val (.int .i64) y5.2.1) .nil))),[(0,0)],[],[(0,(.var (.int .i64) (.val (.int .i64) y5.2.2)))],72⟩] [] [] [Fc Tryz.prog gl 168 [(.val (.slice 8 (.int .i64)) a0),(.val (.int .i64) y1.1),(.val (.int .i64) y3.1),(.ptr 0 []),(.func (.func 21) (.cons (.val (.slice 32 aC) a4) .nil) .nil)] (aq (List.replicate 72 none) [(0,some (.var (.int .i64) (.val (.int .i64) y3.2.2)))]) (.ret (.bJ (.cons (.val (.int .i64) y5.1) (.cons (.val (.int .i64) y5.2.1) .nil)))) (aN 72 [(0,(.var (.int .i64) (.val (.int .i64) y5.2.2)))])] (by kernel_rfl) ⟨sr _ _ _ _ _ _ hy6,trivial⟩ ?_
 refine ab.ak tied [] [] [] [] (by kernel_rfl) trivial ?_
 refine ab.ret ?_
 obtain rfl:=Option.some.inj h
 exact(aG [.ar [12] [0]] [some (.int .i64)] (fo 81 [0]) (by kernel_rfl)).1
def lP(a0:List Int)(a1:Int)(a2:List bz)(a3:Int):Option (Int×Int):=
 Option.bind (jb a0 (ao (a1 -(1:Int))) a1 (ao (a1+(1:Int))) a2 a3) fun y1=>some (y1.1,y1.2)
set_option maxRecDepth 100000 in
theorem sy(a0:List Int)(a1:Int)(a2:List bz)(a3:Int)(r:Int×Int)(h:lP a0 a1 a2 a3=some r):Fc Tryz.prog gl 115 [(.val (.slice 8 (.int .i64)) a0),(.val (.int .i64) a1),(.ptr 0 []),(.func (.func 21) (.cons (.val (.slice 32 aC) a2) .nil) .nil)] (aq (List.replicate 58 none) [(0,some (.var (.int .i64) (.val (.int .i64) a3)))]) (.ret (.val (.int .i64) r.1)) (aN 58 [(0,(.var (.int .i64) (.val (.int .i64) r.2)))]):=by
 refine Fc.of Tryz.call115 (dq.aU tied Tryz.func115 rfl rfl (σ0:=az 18 58 [(0,(.val (.slice 8 (.int .i64)) a0)),(1,(.val (.int .i64) a1)),(2,(.ptr 0 [])),(3,(.func (.func 21) (.cons (.val (.slice 32 aC) a2) .nil) .nil))] [(0,some (.var (.int .i64) (.val (.int .i64) a3)))]) (by kernel_rfl) ?_)
 unfold lP at h
 refine ab.ak tied [] [] [] [] (by kernel_rfl) trivial ?_
 obtain⟨y1,hy2,h⟩:=bind_some h
 refine ab.ak tied [⟨(.val (.int .i64) y1.1),[(0,0)],[],[(0,(.var (.int .i64) (.val (.int .i64) y1.2)))],81⟩] [] [] [Fc Tryz.prog gl 116 [(.val (.slice 8 (.int .i64)) a0),(.val (.int .i64) (ao (a1 -(1:Int)))),(.val (.int .i64) a1),(.val (.int .i64) (ao (a1+(1:Int)))),(.ptr 0 []),(.func (.func 21) (.cons (.val (.slice 32 aC) a2) .nil) .nil)] (aq (List.replicate 81 none) [(0,some (.var (.int .i64) (.val (.int .i64) a3)))]) (.ret (.val (.int .i64) y1.1)) (aN 81 [(0,(.var (.int .i64) (.val (.int .i64) y1.2)))])] (by kernel_rfl) ⟨xy _ _ _ _ _ _ _ hy2,trivial⟩ ?_
 refine ab.ret ?_
 obtain rfl:=Option.some.inj h
 exact(aG [.ar [8] [0]] [some (.int .i64)] (fo 58 [0]) (by kernel_rfl)).1
def pa(a0:List Int)(a1:Int)(a2:Int)(a3:List bz):Option (Int×Int):=
 Option.bind (if(decide ((8:Int)≤(ao (a2 -a1))))=true then(Option.bind (if(decide ((50:Int)≤(ao (a2 -a1))))=true then(Option.bind (lP a0 (ao (a1+(ao ((ao (Int.tdiv (ao (a2 -a1)) (4:Int)))*(1:Int))))) a3 (0:Int)) fun y3=>Option.bind (lP a0 (ao (a1+(ao ((ao (Int.tdiv (ao (a2 -a1)) (4:Int)))*(2:Int))))) a3 y3.2) fun y5=>Option.bind (lP a0 (ao (a1+(ao ((ao (Int.tdiv (ao (a2 -a1)) (4:Int)))*(3:Int))))) a3 y5.2) fun y7=>some (y3.1,y5.1,y7.1,y7.2)) else(some (ao (a1+(ao ((ao (Int.tdiv (ao (a2 -a1)) (4:Int)))*(1:Int)))),ao (a1+(ao ((ao (Int.tdiv (ao (a2 -a1)) (4:Int)))*(2:Int)))),ao (a1+(ao ((ao (Int.tdiv (ao (a2 -a1)) (4:Int)))*(3:Int)))),(0:Int)))) fun(o2:Int×Int×Int×Int)=>Option.bind (jb a0 o2.1 o2.2.1 o2.2.2.1 a3 o2.2.2.2) fun y10=>some (y10.1,y10.2)) else(some (ao (a1+(ao ((ao (Int.tdiv (ao (a2 -a1)) (4:Int)))*(2:Int)))),(0:Int)))) fun(o1:Int×Int)=>if(decide (o1.2=(0:Int)))=true then(some (o1.1,(1:Int))) else(if(decide (o1.2=(12:Int)))=true then(some (o1.1,(2:Int))) else(some (o1.1,(0:Int))))
set_option maxRecDepth 100000 in
theorem EE(a0:List Int)(a1:Int)(a2:Int)(a3:List bz)(r:Int×Int)(h:pa a0 a1 a2 a3=some r):Fc Tryz.prog gl 71 [(.val (.slice 8 (.int .i64)) a0),(.val (.int .i64) a1),(.val (.int .i64) a2),(.func (.func 21) (.cons (.val (.slice 32 aC) a3) .nil) .nil)] (aq (List.replicate 103 none) []) (.ret (.bJ (.cons (.val (.int .i64) r.1) (.cons (.val (.int .i64) r.2) .nil)))) (aN 103 []):=by
 refine Fc.of Tryz.call71 (dq.aU tied Tryz.func71 rfl rfl (σ0:=az 63 103 [(0,(.val (.slice 8 (.int .i64)) a0)),(1,(.val (.int .i64) a1)),(2,(.val (.int .i64) a2)),(3,(.func (.func 21) (.cons (.val (.slice 32 aC) a3) .nil) .nil))] []) (by kernel_rfl) ?_)
 unfold pa at h
 refine ab.ak tied [] [] [] [] (by kernel_rfl) trivial ?_
 refine ab.ak tied [] [] [] [] (by kernel_rfl) trivial ?_
 refine ab.ak tied [] [] [] [] (by kernel_rfl) trivial ?_
 refine ab.ak tied [] [] [] [(4:Int)≠0] (by kernel_rfl) ⟨(by decide),trivial⟩ ?_
 refine ab.ak tied [] [] [] [(4:Int)≠0] (by kernel_rfl) ⟨(by decide),trivial⟩ ?_
 refine ab.ak tied [] [] [] [(4:Int)≠0] (by kernel_rfl) ⟨(by decide),trivial⟩ ?_
 obtain⟨o1,h1,h⟩:=bind_some h
 refine ab.bV (fun σ'=>σ'=az 63 103 [(11,(.ptr 27 [])),(13,(.val (.int .i64) o1.1))] [(27,some (.var (.int .i64) (.val (.int .i64) o1.2)))]) ?_ ?_
 ·refine ab.ak tied [] [] [] [] (by kernel_rfl) trivial ?_
  rcases aj h1 with⟨hc12,h1⟩|⟨hc12,h1⟩
  ·refine ab.aI (b:=decide ((8:Int)≤(ao (a2 -a1)))) (by kernel_rfl) hc12 ?_
   obtain⟨o2,h3,h1⟩:=bind_some h1
   refine ab.bV (fun σ'=>σ'=az 63 103 [(0,(.val (.slice 8 (.int .i64)) a0)),(3,(.func (.func 21) (.cons (.val (.slice 32 aC) a3) .nil) .nil)),(11,(.ptr 27 [])),(12,(.val (.int .i64) o2.1)),(13,(.val (.int .i64) o2.2.1)),(14,(.val (.int .i64) o2.2.2.1))] [(27,some (.var (.int .i64) (.val (.int .i64) o2.2.2.2)))]) ?_ ?_
   ·refine ab.ak tied [] [] [] [] (by kernel_rfl) trivial ?_
    rcases aj h3 with⟨hc9,h3⟩|⟨hc9,h3⟩
    ·refine ab.aI (b:=decide ((50:Int)≤(ao (a2 -a1)))) (by kernel_rfl) hc9 ?_
     obtain⟨y3,hy4,h3⟩:=bind_some h3
     refine ab.ak tied [⟨(.val (.int .i64) y3.1),[(0,27)],[],[(0,(.var (.int .i64) (.val (.int .i64) y3.2)))],58⟩] [] [] [Fc Tryz.prog gl 115 [(.val (.slice 8 (.int .i64)) a0),(.val (.int .i64) (ao (a1+(ao ((ao (Int.tdiv (ao (a2 -a1)) (4:Int)))*(1:Int)))))),(.ptr 0 []),(.func (.func 21) (.cons (.val (.slice 32 aC) a3) .nil) .nil)] (aq (List.replicate 58 none) [(0,some (.var (.int .i64) (.val (.int .i64) (0:Int))))]) (.ret (.val (.int .i64) y3.1)) (aN 58 [(0,(.var (.int .i64) (.val (.int .i64) y3.2)))])] (by kernel_rfl) ⟨sy _ _ _ _ _ hy4,trivial⟩ ?_
     obtain⟨y5,hy6,h3⟩:=bind_some h3
     refine ab.ak tied [⟨(.val (.int .i64) y5.1),[(0,27)],[],[(0,(.var (.int .i64) (.val (.int .i64) y5.2)))],58⟩] [] [] [Fc Tryz.prog gl 115 [(.val (.slice 8 (.int .i64)) a0),(.val (.int .i64) (ao (a1+(ao ((ao (Int.tdiv (ao (a2 -a1)) (4:Int)))*(2:Int)))))),(.ptr 0 []),(.func (.func 21) (.cons (.val (.slice 32 aC) a3) .nil) .nil)] (aq (List.replicate 58 none) [(0,some (.var (.int .i64) (.val (.int .i64) y3.2)))]) (.ret (.val (.int .i64) y5.1)) (aN 58 [(0,(.var (.int .i64) (.val (.int .i64) y5.2)))])] (by kernel_rfl) ⟨sy _ _ _ _ _ hy6,trivial⟩ ?_
     obtain⟨y7,hy8,h3⟩:=bind_some h3
     refine ab.eI tied [⟨(.val (.int .i64) y7.1),[(0,27)],[],[(0,(.var (.int .i64) (.val (.int .i64) y7.2)))],58⟩] [] [] [Fc Tryz.prog gl 115 [(.val (.slice 8 (.int .i64)) a0),(.val (.int .i64) (ao (a1+(ao ((ao (Int.tdiv (ao (a2 -a1)) (4:Int)))*(3:Int)))))),(.ptr 0 []),(.func (.func 21) (.cons (.val (.slice 32 aC) a3) .nil) .nil)] (aq (List.replicate 58 none) [(0,some (.var (.int .i64) (.val (.int .i64) y5.2)))]) (.ret (.val (.int .i64) y7.1)) (aN 58 [(0,(.var (.int .i64) (.val (.int .i64) y7.2)))])] (by kernel_rfl) ⟨sy _ _ _ _ _ hy8,trivial⟩ ?_
     obtain rfl:=Option.some.inj h3
     exact jQ.mk [.ar [0,3,11,12,13,14] [27]] (by kernel_rfl) rfl
    ·refine ab.aH (b:=decide ((50:Int)≤(ao (a2 -a1)))) (by kernel_rfl) hc9 ?_
     refine ab.skip ?_
     obtain rfl:=Option.some.inj h3
     exact jQ.mk [.ar [0,3,11,12,13,14] [27]] (by kernel_rfl) rfl
   ·rintro _ rfl
    obtain⟨y10,hy11,h1⟩:=bind_some h1
    refine ab.eI tied [⟨(.val (.int .i64) y10.1),[(0,27)],[],[(0,(.var (.int .i64) (.val (.int .i64) y10.2)))],81⟩] [] [] [Fc Tryz.prog gl 116 [(.val (.slice 8 (.int .i64)) a0),(.val (.int .i64) o2.1),(.val (.int .i64) o2.2.1),(.val (.int .i64) o2.2.2.1),(.ptr 0 []),(.func (.func 21) (.cons (.val (.slice 32 aC) a3) .nil) .nil)] (aq (List.replicate 81 none) [(0,some (.var (.int .i64) (.val (.int .i64) o2.2.2.2)))]) (.ret (.val (.int .i64) y10.1)) (aN 81 [(0,(.var (.int .i64) (.val (.int .i64) y10.2)))])] (by kernel_rfl) ⟨xy _ _ _ _ _ _ _ hy11,trivial⟩ ?_
    obtain rfl:=Option.some.inj h1
    exact jQ.mk [.ar [11,13] [27]] (by kernel_rfl) rfl
  ·refine ab.aH (b:=decide ((8:Int)≤(ao (a2 -a1)))) (by kernel_rfl) hc12 ?_
   refine ab.skip ?_
   obtain rfl:=Option.some.inj h1
   exact jQ.mk [.ar [11,13] [27]] (by kernel_rfl) rfl
 ·rintro _ rfl
  refine ab.ak tied [] [] [] [] (by kernel_rfl) trivial ?_
  refine ab.block ?_
  refine ab.ak tied [] [] [] [] (by kernel_rfl) trivial ?_
  rcases aj h with⟨hc14,h⟩|⟨hc14,h⟩
  ·refine ab.aI (b:=decide (o1.2=(0:Int))) (by kernel_rfl) hc14 ?_
   refine ab.ak tied [] [] [] [] (by kernel_rfl) trivial ?_
   refine ab.ret ?_
   obtain rfl:=Option.some.inj h
   exact(aG [] [some (.int .i64),some (.int .i64)] (fo 103 []) (by kernel_rfl)).1
  ·refine ab.aH (b:=decide (o1.2=(0:Int))) (by kernel_rfl) hc14 ?_
   refine ab.ak tied [] [] [] [] (by kernel_rfl) trivial ?_
   rcases aj h with⟨hc13,h⟩|⟨hc13,h⟩
   ·refine ab.aI (b:=decide (o1.2=(12:Int))) (by kernel_rfl) hc13 ?_
    refine ab.ak tied [] [] [] [] (by kernel_rfl) trivial ?_
    refine ab.ret ?_
    obtain rfl:=Option.some.inj h
    exact(aG [] [some (.int .i64),some (.int .i64)] (fo 103 []) (by kernel_rfl)).1
   ·refine ab.aH (b:=decide (o1.2=(12:Int))) (by kernel_rfl) hc13 ?_
    refine ab.ak tied [] [] [] [] (by kernel_rfl) trivial ?_
    refine ab.ret ?_
    obtain rfl:=Option.some.inj h
    exact(aG [] [some (.int .i64),some (.int .i64)] (fo 103 []) (by kernel_rfl)).1
end Go.Proofs.YtmpdeifdnbhdiaaGreatDoor
