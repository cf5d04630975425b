/- Made by program (dec.py): walks -/
import Derived.Test.YtjabllhapfphoaaGreatDoorF1
import Derived.Test.YtjabllhapfphoaaGreatDoorH2
namespace Go.Proofs.YtjabllhapfphoaaGreatDoor
open Go.Abs
def gF(a0:List (List Int)):Nat→Int→(List Int)→Option (List Int)
 |0,_,_=>none
 |n1+1,u1_0,u1_1=>if(decide (u1_0<(List.length a0:Int)))=true then(if 0≤u1_0∧u1_0<(List.length a0:Int) then(if(List.length u1_1+List.length (nth (.slice 1 (.int .u8)) a0 u1_0))*1≤az then(gF a0 n1 (aP (u1_0+(1:Int))) (u1_1++(nth (.slice 1 (.int .u8)) a0 u1_0))) else none) else none) else(some u1_1)
def f127(a0:List (List Int)):Option (List Int):=
 Option.bind (gF a0 (List.length a0+1) (0:Int) ([]:List Int)) fun(o1:List Int)=>some o1
set_option maxRecDepth 100000 in
theorem H7(a0:List (List Int))(r:List Int)(h:f127 a0=some r):Fc Tryz.prog gl 127 [(.val (.slice 24 (.slice 1 (.int .u8))) a0)] (aj (List.replicate 56 none) []) (.ret (.val (.slice 1 (.int .u8)) r)) (aq 56 []):=by
 refine Fc.of Tryz.call127 (bz.aD tied Tryz.func127 rfl rfl (σ0:=ar 16 56 [(0,(.val (.slice 24 (.slice 1 (.int .u8))) a0))] []) (by kernel_rfl) ?_)
 unfold f127 at h
 refine aa.af tied [] [] [] [] (by kernel_rfl) trivial ?_
 obtain⟨o1,h1,h⟩:=bind_some h
 refine aa.ba (fun σ'=>σ'=ar 16 56 [(2,(.own 33))] [(33,some (.row 5 1 (.int .u8) o1))]) ?_ ?_
 ·refine aa.af tied [] [] [] [] (by kernel_rfl) trivial ?_
  refine aa.block ?_
  refine aa.aB (fun n σ=>∃(u1_0:Int)(u1_1:List Int),gF a0 n u1_0 u1_1=some o1∧σ=ar 16 56 [(2,(.own 32)),(5,(.val (.slice 24 (.slice 1 (.int .u8))) a0)),(6,(.val (.int .i64) (List.length a0:Int))),(7,(.val (.int .i64) u1_0))] [(32,some (.row 5 1 (.int .u8) u1_1))]) [.an [2,5,6,7] [],.rN 2 32 5 1 (.int .u8)] (by kernel_rfl) ⟨_,_,h1,rfl⟩ ?_
  rintro n1 _ ⟨u1_0,u1_1,h3,rfl⟩
  cases n1 with
  |zero=>exact absurd h3 (by simp[gF])
  |
   succ n1=>
   unfold gF at h3
   refine aa.af tied [] [] [] [] (by kernel_rfl) trivial ?_
   refine aa.seq ?_
   rcases ae h3 with⟨hc4,h3⟩|⟨hc4,h3⟩
   ·refine aa.aE (b:=decide (u1_0<(List.length a0:Int))) (by kernel_rfl) hc4 ?_
    refine aa.skip ?_
    change aa _ _ _ _ _
    refine aa.seq ?_
    refine aa.block ?_
    obtain⟨hv2,h3⟩:=ah h3
    refine aa.af tied [] [] [] [0≤u1_0,u1_0<(List.length a0:Int)] (by kernel_rfl) ⟨hv2.1,hv2.2,trivial⟩ ?_
    obtain⟨hv3,h3⟩:=ah h3
    refine aa.br tied [] [] [] [(List.length u1_1+List.length (nth (.slice 1 (.int .u8)) a0 u1_0))*1≤az] (by kernel_rfl) ⟨hv3,trivial⟩ ?_
    refine bN ?_
    change aa _ _ _ _ _
    refine aa.br tied [] [] [] [] (by kernel_rfl) trivial ?_
    exact aB.mk [.an [2,5,6,7] [29],.iN 29 32] (by kernel_rfl) ⟨_,_,h3,rfl⟩
   ·refine aa.aF (b:=decide (u1_0<(List.length a0:Int))) (by kernel_rfl) hc4 ?_
    refine aa.exit ?_
    refine tE ?_
    refine lE ?_
    refine bE ?_
    obtain rfl:=Option.some.inj h3
    exact jQ.mk [.an [2] [32],.iN 32 33] (by kernel_rfl) rfl
 ·rintro _ rfl
  refine aa.af tied [] [] [] [] (by kernel_rfl) trivial ?_
  refine aa.ret ?_
  obtain rfl:=Option.some.inj h
  exact(au [.freeze 33 (.slice 1 (.int .u8))] [some (.slice 1 (.int .u8))] (cq 56 []) (by kernel_rfl)).1
def f56(a0:List UInt8)(a1:List Int):Option aU:=
 Option.bind (f125 [bytesOf a0]) fun y1=>Option.bind (f125 [aW y1 0 32,a1]) fun y3=>some y3
set_option maxRecDepth 100000 in
theorem JF(a0:List UInt8)(a1:List Int)(r:aU)(h:f56 a0 a1=some r):Fc Tryz.prog gl 56 [(.val .str a0),(.val (.slice 1 (.int .u8)) a1)] (aj (List.replicate 54 none) []) (.ret (.val ao r)) (aq 54 []):=by
 refine Fc.of Tryz.call56 (bz.aD tied Tryz.func56 rfl rfl (σ0:=ar 14 54 [(0,(.val .str a0)),(1,(.val (.slice 1 (.int .u8)) a1))] []) (by kernel_rfl) ?_)
 unfold f56 at h
 refine aa.af tied [] [] [] [] (by kernel_rfl) trivial ?_
 obtain⟨y1,hy2,h⟩:=bind_some h
 refine aa.af tied [⟨(.val ao y1),[],[],[],66⟩] [] [] [Fc Tryz.prog gl 125 [(.val (.slice 24 (.slice 1 (.int .u8))) [bytesOf a0])] (aj (List.replicate 66 none) []) (.ret (.val ao y1)) (aq 66 [])] (by kernel_rfl) ⟨Fx _ _ hy2,trivial⟩ ?_
 refine aa.gh [.freeze 21 (.slice 1 (.int .u8))] (σ':=ar 14 54 [(0,(.val .str a0)),(1,(.val (.slice 1 (.int .u8)) a1)),(4,(.ptr 20 [])),(5,(.bw ao y1)),(6,(.val .str a0)),(7,(.val (.slice 1 (.int .u8)) (bytesOf a0))),(8,(.own 24)),(9,(.val ao y1))] [(20,some (.var ao (.val ao (Ty.aS ao)))),(24,some (.row 124 24 (.slice 1 (.int .u8)) [bytesOf a0]))]) (by kernel_rfl) ?_
 obtain⟨y3,hy4,h⟩:=bind_some h
 refine aa.af tied [⟨(.val ao y3),[],[],[],66⟩] [] [] [Fc Tryz.prog gl 125 [(.val (.slice 24 (.slice 1 (.int .u8))) [aW y1 0 32,a1])] (aj (List.replicate 66 none) []) (.ret (.val ao y3)) (aq 66 [])] (by kernel_rfl) ⟨Fx _ _ hy4,trivial⟩ ?_
 refine aa.ret ?_
 obtain rfl:=Option.some.inj h
 exact(au [] [some ao] (cq 54 []) (by kernel_rfl)).1
def f58(a0:aU)(a1:Int):Option aU:=
 Option.bind (f127 [aW a0 0 32,[IntKind.u8.wrap (a1)]]) fun y1=>Option.bind (f56 [99,104,97,105,110] y1) fun y3=>some y3
set_option maxRecDepth 100000 in
theorem Lk(a0:aU)(a1:Int)(r:aU)(h:f58 a0 a1=some r):Fc Tryz.prog gl 58 [(.val ao a0),(.val (.int .i64) a1)] (aj (List.replicate 52 none) []) (.ret (.val ao r)) (aq 52 []):=by
 refine Fc.of Tryz.call58 (bz.aD tied Tryz.func58 rfl rfl (σ0:=ar 12 52 [(0,(.val ao a0)),(1,(.val (.int .i64) a1))] []) (by kernel_rfl) ?_)
 unfold f58 at h
 refine aa.af tied [] [] [] [] (by kernel_rfl) trivial ?_
 refine aa.gh [.freeze 18 (.slice 1 (.int .u8))] (σ':=ar 12 52 [(0,(.val ao a0)),(1,(.val (.int .i64) a1)),(2,(.bw ao a0)),(4,(.ptr 20 []))] [(20,some (.var ao (.val ao (Ty.aS ao))))]) (by kernel_rfl) ?_
 obtain⟨y1,hy2,h⟩:=bind_some h
 obtain⟨y3,hy4,h⟩:=bind_some h
 refine aa.af tied [⟨(.val (.slice 1 (.int .u8)) y1),[],[],[],56⟩,⟨(.val ao y3),[],[],[],54⟩] [] [(4,8,(.slice 1 (.int .u8))),(5,9,(.slice 24 (.slice 1 (.int .u8))))] [Fc Tryz.prog gl 127 [(.val (.slice 24 (.slice 1 (.int .u8))) [aW a0 0 32,[IntKind.u8.wrap (a1)]])] (aj (List.replicate 56 none) []) (.ret (.val (.slice 1 (.int .u8)) y1)) (aq 56 []),Fc Tryz.prog gl 56 [(.val .str [99,104,97,105,110]),(.val (.slice 1 (.int .u8)) y1)] (aj (List.replicate 54 none) []) (.ret (.val ao y3)) (aq 54 [])] (by kernel_rfl) ⟨H7 _ _ hy2,JF _ _ _ hy4,trivial⟩ ?_
 refine aa.ret ?_
 obtain rfl:=Option.some.inj h
 exact(au [] [some ao] (cq 52 []) (by kernel_rfl)).1
def pq(a0:aU):Option aU:=
 some a0
set_option maxRecDepth 100000 in
theorem DO(a0:aU)(r:aU)(h:pq a0=some r):Fc Tryz.prog gl 126 [(.val ao a0)] (aj (List.replicate 44 none) []) (.ret (.func (.func 218) .nil (.cons (.ptr 17 []) .nil))) (aq 44 [(17,(.var ao (.val ao r)))]):=by
 refine Fc.of Tryz.call126 (bz.aD tied Tryz.func126 rfl rfl (σ0:=ar 4 44 [(0,(.val ao a0))] []) (by kernel_rfl) ?_)
 unfold pq at h
 refine aa.af tied [] [] [] [] (by kernel_rfl) trivial ?_
 refine aa.af tied [] [] [] [] (by kernel_rfl) trivial ?_
 refine aa.ret ?_
 obtain rfl:=Option.some.inj h
 exact(au [.an [2] [17]] [none] (cq 44 [17]) (by kernel_rfl)).1
def fH(yf:aU→Int→aU→Option (c6 (Int×aU) (Nat×(Int×aU)))):Nat→aU→Int→aU→Option (Nat×Int×aU×aU)
 |0,_,_,_=>none
 |n1+1,u1_0,u1_1,u1_2=>Option.bind (yf u1_0 u1_1 u1_2) fun y2=>match y2 with| .bh y4=>(Option.bind (f56 [115,116,101,112] (List.take (32 -0) (List.drop 0 u1_0))) fun y6=>fH yf n1 y6 y4.1 y4.2)| .ret y5=>(some (y5.1+1,y5.2.1,y5.2.2,u1_0))
def pt(yf:aU→Int→aU→Option (c6 (Int×aU) (Nat×(Int×aU))))(a0:Int)(a1:aU)(a2:aU):Option (Nat×Int×aU×aU):=
 Option.bind (fH yf (bX) a2 a0 a1) fun(o1:Nat×Int×aU×aU)=>some (o1.1,o1.2.1,o1.2.2.1,o1.2.2.2)
set_option maxRecDepth 100000 in
theorem DP(B:(Nat→Prop)→World→Prop)(hB:∀{S S':Nat→Prop}{w w':World},(∀b,S b→w'.heap[b]? =w.heap[b]?)→(∀b,S b→S' b)→B S w→B S' w')(l:Nat)(gs:Nat→Nat)(rec:Nat→Loop)(yf:aU→Int→aU→Option (c6 (Int×aU) (Nat×(Int×aU))))(hyf:∀(b1_0:aU)(d1_0:Int)(d1_1:aU)(y:c6 (Int×aU) (Nat×(Int×aU))),yf b1_0 d1_0 d1_1=some y→Fy Tryz.prog (gl.wB B hB) l [(.val ao b1_0)] (aj (List.replicate 55 none) [(0,some (.lp l (rec 0))),(1,some (.tv (gs 1) (.int .i64) (.val (.int .i64) d1_0))),(2,some (.tv (gs 2) ao (.val ao d1_1)))]) (.ret (.val .bool (Nat.beq (Fh y) 0))) (aq 55 [(0,(.lp l (rec (Fh y)))),(1,(.tv (gs 1) (.int .i64) (.val (.int .i64) ((GQ y).1)))),(2,(.tv (gs 2) ao (.val ao ((GQ y).2))))]))(a0:Int)(a1:aU)(a2:aU)(r:Nat×Int×aU×aU)(h:pt yf a0 a1 a2=some r):Fc Tryz.prog (gl.wB B hB) 218 [(.func (.yield l) .nil .nil),(.ptr 3 [])] (aj (List.replicate 48 none) [(0,some (.lp l (rec 0))),(1,some (.tv (gs 1) (.int .i64) (.val (.int .i64) a0))),(2,some (.tv (gs 2) ao (.val ao a1))),(3,some (.var ao (.val ao a2)))]) (.ret (.c8 .nil)) (aq 48 [(0,(.lp l (rec r.1))),(1,(.tv (gs 1) (.int .i64) (.val (.int .i64) r.2.1))),(2,(.tv (gs 2) ao (.val ao r.2.2.1))),(3,(.var ao (.val ao r.2.2.2)))]):=by
 refine Fc.of Tryz.call218 (bz.aD tied Tryz.func218 rfl rfl (σ0:=ar 8 48 [(0,(.func (.yield l) .nil .nil)),(1,(.ptr 3 []))] [(0,some (.lp l (rec 0))),(1,some (.tv (gs 1) (.int .i64) (.val (.int .i64) a0))),(2,some (.tv (gs 2) ao (.val ao a1))),(3,some (.var ao (.val ao a2)))]) (by kernel_rfl) ?_)
 unfold pt at h
 obtain⟨o1,h1,h⟩:=bind_some h
 refine aa.oP (fun σ'=>σ'=ar 8 48 [] [(0,some (.lp l (rec o1.1))),(1,some (.tv (gs 1) (.int .i64) (.val (.int .i64) o1.2.1))),(2,some (.tv (gs 2) ao (.val ao o1.2.2.1))),(3,some (.var ao (.val ao o1.2.2.2)))]) Cl.f ?_ ?_
 ·refine aa.block ?_
  refine aa.aB (fun n σ=>∃(u1_0:aU)(u1_1:Int)(u1_2:aU),fH yf n u1_0 u1_1 u1_2=some o1∧σ=ar 8 48 [(0,(.func (.yield l) .nil .nil)),(1,(.ptr 3 []))] [(0,some (.lp l (rec 0))),(1,some (.tv (gs 1) (.int .i64) (.val (.int .i64) u1_1))),(2,some (.tv (gs 2) ao (.val ao u1_2))),(3,some (.var ao (.val ao u1_0)))]) [.an [0,1] [0,1,2,3]] (by kernel_rfl) ⟨_,_,_,h1,rfl⟩ ?_
  rintro n1 _ ⟨u1_0,u1_1,u1_2,h3,rfl⟩
  cases n1 with
  |zero=>exact absurd h3 (by simp[fH])
  |
   succ n1=>
   unfold fH at h3
   refine aa.seq ?_
   obtain⟨y2,hy3,h3⟩:=bind_some h3
   cases y2 with
   |
    bh y4=>
    dsimp only at h3
    refine aa.af tied [⟨(.val .bool true),[(0,0),(1,1),(2,2)],[],[(0,(.lp l (rec 0))),(1,(.tv (gs 1) (.int .i64) (.val (.int .i64) y4.1))),(2,(.tv (gs 2) ao (.val ao y4.2)))],55⟩] [] [] [Fy Tryz.prog (gl.wB B hB) l [(.val ao u1_0)] (aj (List.replicate 55 none) [(0,some (.lp l (rec 0))),(1,some (.tv (gs 1) (.int .i64) (.val (.int .i64) u1_1))),(2,some (.tv (gs 2) ao (.val ao u1_2)))]) (.ret (.val .bool true)) (aq 55 [(0,(.lp l (rec 0))),(1,(.tv (gs 1) (.int .i64) (.val (.int .i64) y4.1))),(2,(.tv (gs 2) ao (.val ao y4.2)))])] (by kernel_rfl) ⟨hyf _ _ _ _ hy3,trivial⟩ ?_
    refine aa.aE (b:=true) (by kernel_rfl) rfl ?_
    refine aa.skip ?_
    change aa _ _ _ _ _
    refine aa.block ?_
    obtain⟨y6,hy7,h3⟩:=bind_some h3
    refine aa.br tied [⟨(.val ao y6),[],[],[],54⟩] [] [] [Fc Tryz.prog (gl.wB B hB) 56 [(.val .str [115,116,101,112]),(.val (.slice 1 (.int .u8)) (List.take (32 -0) (List.drop 0 u1_0)))] (aj (List.replicate 54 none) []) (.ret (.val ao y6)) (aq 54 [])] (by kernel_rfl) ⟨Fc.up (C:=gl) rfl (fun _ _=>trivial) (JF _ _ _ hy7),trivial⟩ ?_
    refine bN ?_
    exact aB.mk [.an [0,1] [0,1,2,3]] (by kernel_rfl) ⟨_,_,_,h3,rfl⟩
   |
    ret y5=>
    dsimp only at h3
    refine aa.af tied [⟨(.val .bool false),[(0,0),(1,1),(2,2)],[],[(0,(.lp l (rec (y5.1+1)))),(1,(.tv (gs 1) (.int .i64) (.val (.int .i64) y5.2.1))),(2,(.tv (gs 2) ao (.val ao y5.2.2)))],55⟩] [] [] [Fy Tryz.prog (gl.wB B hB) l [(.val ao u1_0)] (aj (List.replicate 55 none) [(0,some (.lp l (rec 0))),(1,some (.tv (gs 1) (.int .i64) (.val (.int .i64) u1_1))),(2,some (.tv (gs 2) ao (.val ao u1_2)))]) (.ret (.val .bool false)) (aq 55 [(0,(.lp l (rec (y5.1+1)))),(1,(.tv (gs 1) (.int .i64) (.val (.int .i64) y5.2.1))),(2,(.tv (gs 2) ao (.val ao y5.2.2)))])] (by kernel_rfl) ⟨hyf _ _ _ _ hy3,trivial⟩ ?_
    refine aa.aF (b:=false) (by kernel_rfl) rfl ?_
    refine aa.exit ?_
    refine tE ?_
    refine lE ?_
    refine bE ?_
    obtain rfl:=Option.some.inj h3
    exact jQ.mk [.an [] [0,1,2,3]] (by kernel_rfl) rfl
 ·rintro _ rfl
  obtain rfl:=Option.some.inj h
  exact(au [.an [] [0,1,2,3]] [] (cq 48 [0,1,2,3]) (by kernel_rfl)).2
def l4(b1_0:aU)(d1_0:Int)(d1_1:aU):Option (c6 (Int×aU) (Nat×(Int×aU))):=
 if(decide (d1_0≤(0:Int)))=true then(some (.ret (0,(d1_0,b1_0)))) else(some (.bh (aP (d1_0 -(1:Int)),d1_1)))
def f57(a0:aU)(a1:Int):Option aU:=
 Option.bind (pq a0) fun y1=>Option.bind (pt (l4) a1 (Ty.aS ao) y1) fun y4=>if Nat.beq y4.1 0=true then(some a0) else(if Nat.beq y4.1 1=true then(some y4.2.2.1) else none)
set_option maxRecDepth 100000 in
theorem Ll(a0:aU)(a1:Int)(r:aU)(h:f57 a0 a1=some r):Fc Tryz.prog gl 57 [(.val ao a0),(.val (.int .i64) a1)] (aj (List.replicate 55 none) []) (.ret (.val ao r)) (aq 55 []):=by
 refine Fc.of Tryz.call57 (bz.zm tied Tryz.func57 rfl rfl (σ0:=ar 15 55 [(0,(.val ao a0)),(1,(.val (.int .i64) a1))] []) (by kernel_rfl) ?_)
 unfold f57 at h
 refine aa.af tied [] [] [] [] (by kernel_rfl) trivial ?_
 refine aa.seq ?_
 obtain⟨y1,hy2,h⟩:=bind_some h
 refine aa.af tied [⟨(.func (.func 218) .nil (.cons (.ptr 17 []) .nil)),[],[(17,23)],[(17,(.var ao (.val ao y1)))],44⟩] [] [] [Fc Tryz.prog gl 126 [(.val ao a0)] (aj (List.replicate 44 none) []) (.ret (.func (.func 218) .nil (.cons (.ptr 17 []) .nil))) (aq 44 [(17,(.var ao (.val ao y1)))])] (by kernel_rfl) ⟨DO _ _ hy2,trivial⟩ ?_
 refine aa.block ?_
 refine aa.gh [.an [2,3,4,7] [18,19,20,23],.an [2,3,4,7] [18,19,20,23]] (σ':=ar 15 55 [(2,(.ptr 18 [])),(3,(.ptr 19 [])),(4,(.ptr 20 [])),(7,(.func (.func 218) .nil (.cons (.ptr 23 []) .nil)))] [(18,some (.var ao (.val ao a0))),(19,some (.var (.int .i64) (.val (.int .i64) a1))),(20,some (.var ao (.val ao (Ty.aS ao)))),(23,some (.var ao (.val ao y1)))]) (by kernel_rfl) ?_
 obtain⟨y4,hy5,h⟩:=bind_some h
 refine aa.rangeFunc (gf:=218) (cs:=(.cons (.ptr 23 []) .nil)) rfl (by kernel_rfl) 31 32 0 rfl rfl rfl rfl rfl [(1,(.int .i64)),(2,ao)] [(19,1),(20,2)] rfl (by kernel_rfl) rfl [.ret] y4.1 (fun gs l rec=>⟨(.c8 .nil),[(0,32),(1,19),(2,20),(3,23)],[],[(0,(.lp l (rec y4.1))),(1,(.tv (gs 1) (.int .i64) (.val (.int .i64) y4.2.1))),(2,(.tv (gs 2) ao (.val ao y4.2.2.1))),(3,(.var ao (.val ao y4.2.2.2)))],48⟩) (fun l=>[(.func (.yield l) .nil .nil),(.ptr 3 [])]) (fun gs l rec=>[(0,some (.lp l (rec 0))),(1,some (.tv (gs 1) (.int .i64) (.val (.int .i64) a1))),(2,some (.tv (gs 2) ao (.val ao (Ty.aS ao)))),(3,some (.var ao (.val ao y1)))]) (kH [(18,some (.var ao (.val ao a0))),(19,some (.var (.int .i64) (.val (.int .i64) y4.2.1))),(20,some (.var ao (.val ao y4.2.2.1))),(23,some (.var ao (.val ao y4.2.2.2))),(31,some .oR)] (List.replicate 55 none)) (fun _ _ _=>rfl) (fun _ _ _=>by kernel_rfl) (fun _ _ _=>by kernel_rfl) (fun _ _ _=>by kernel_rfl) (fun _ _ _=>by kernel_rfl) rfl (fun _ _ _=>⟨by kernel_rfl,by kernel_rfl⟩) ?_ ?_
 ·intro B hB l gs rec hof
  refine DP B hB l gs rec (l4) ?_ _ _ _ _ hy5
  intro b1_0 d1_0 d1_1 yy h1_
  unfold l4 at h1_
  refine hof.use yy [(.val ao b1_0)] (aj (List.replicate 55 none) [(1,some (.var (.int .i64) (.val (.int .i64) d1_0))),(2,some (.var ao (.val ao d1_1)))]) (fun d=>aj (List.replicate 55 none) [(1,some (.var (.int .i64) (.val (.int .i64) d.1))),(2,some (.var ao (.val ao d.2)))]) _ (fun j d=>aq 55 [(0,(.lp l (rec j))),(1,(.tv (gs 1) (.int .i64) (.val (.int .i64) d.1))),(2,(.tv (gs 2) ao (.val ao d.2)))]) rfl rfl (fun _=>rfl) rfl (fun _=>rfl) (by kernel_rfl) (fun _ _=>by kernel_rfl) (σ:=ar 15 55 [(3,(.ptr 1 [])),(4,(.ptr 2 [])),(8,(.val ao b1_0))] [(1,some (.var (.int .i64) (.val (.int .i64) d1_0))),(2,some (.var ao (.val ao d1_1)))]) (by kernel_rfl) ?_
  refine aa.br tied [] [] [] [] (by kernel_rfl) trivial ?_
  change aa _ _ _ _ _
  refine aa.block ?_
  refine aa.seq ?_
  refine aa.af tied [] [] [] [] (by kernel_rfl) trivial ?_
  rcases ae h1_ with⟨hc3,h1_⟩|⟨hc3,h1_⟩
  ·refine aa.aE (b:=decide (d1_0≤(0:Int))) (by kernel_rfl) hc3 ?_
   refine aa.af tied [] [] [] [] (by kernel_rfl) trivial ?_
   refine aa.ret ?_
   obtain rfl:=Option.some.inj h1_
   exact rP.r [.an [] [1,2]] (cq 55 [1,2]) ⟨Nat.succ_ne_zero _,rfl⟩ (by kernel_rfl)
  ·refine aa.aF (b:=decide (d1_0≤(0:Int))) (by kernel_rfl) hc3 ?_
   refine aa.skip ?_
   change aa _ _ _ _ _
   refine aa.br tied [] [] [] [] (by kernel_rfl) trivial ?_
   refine bN ?_
   obtain rfl:=Option.some.inj h1_
   exact rP.n [.an [] [1,2]] (cq 55 [1,2]) (by kernel_rfl)
 ·rcases ae h with⟨hc6,h⟩|⟨hc6,h⟩
  ·refine KS hc6 (σF:=Cr 15 55 [(2,(.ptr 18 [])),(3,(.ptr 19 [])),(4,(.ptr 20 [])),(7,(.func (.func 218) .nil (.cons (.ptr 23 []) .nil)))] [(18,some (.var ao (.val ao a0))),(19,some (.var (.int .i64) (.val (.int .i64) y4.2.1))),(20,some (.var ao (.val ao y4.2.2.1))),(23,some (.var ao (.val ao y4.2.2.2))),(31,some .oR)] [(.mp 31)]) (by kernel_rfl) ?_
   refine bN ?_
   change aa _ _ _ _ _
   refine aa.af tied [] [] [] [] (by kernel_rfl) trivial ?_
   refine aa.ret ?_
   obtain rfl:=Option.some.inj h
   exact(xV [] [some ao] (cq 55 []) (by kernel_rfl)).1
  ·rcases ae h with⟨hc6,h⟩|⟨hc6,h⟩
   ·refine LO 0 (.ret) hc6 rfl (σF:=Cr 15 55 [(2,(.ptr 18 [])),(3,(.ptr 19 [])),(4,(.ptr 20 [])),(7,(.func (.func 218) .nil (.cons (.ptr 23 []) .nil)))] [(18,some (.var ao (.val ao a0))),(19,some (.var (.int .i64) (.val (.int .i64) y4.2.1))),(20,some (.var ao (.val ao y4.2.2.1))),(23,some (.var ao (.val ao y4.2.2.2))),(31,some .oR)] [(.mp 31)]) (by kernel_rfl) ?_
    refine aa.ret ?_
    obtain rfl:=Option.some.inj h
    exact(xV [] [some ao] (cq 55 []) (by kernel_rfl)).1
   ·cases h
def jD:Nat→vK→Int→(List (List Int))→Option (List (List Int))
 |0,_,_,_=>none
 |n1+1,u1_0,u1_1,u1_2=>if(decide (u1_1<(19:Int)))=true then(if 0≤u1_1∧u1_1<(19:Int) then(if u1_1<(List.length u1_2:Int) then(jD n1 u1_0 (aP (u1_1+(1:Int))) (List.set u1_2 (Int.toNat u1_1) (aW (nth ao u1_0 u1_1) 0 32))) else none) else none) else(some u1_2)
def f59(a0:vK):Option aU:=
 if(19:Int)*(24:Int)≤(az:Int) then(Option.bind (jD (Int.toNat (19:Int)+1) a0 (0:Int) (List.replicate (Int.toNat (19:Int)) (Ty.aS (.slice 1 (.int .u8))))) fun(o2:List (List Int))=>Option.bind (f127 o2) fun y6=>Option.bind (f56 [112,117,98,108,105,99] y6) fun y8=>some y8) else none
set_option maxRecDepth 100000 in
theorem Lm(a0:vK)(r:aU)(h:f59 a0=some r):Fc Tryz.prog gl 59 [(.val oU a0)] (aj (List.replicate 59 none) []) (.ret (.val ao r)) (aq 59 []):=by
 refine Fc.of Tryz.call59 (bz.aD tied Tryz.func59 rfl rfl (σ0:=ar 19 59 [(0,(.val oU a0))] []) (by kernel_rfl) ?_)
 unfold f59 at h
 refine aa.af tied [] [] [] [] (by kernel_rfl) trivial ?_
 obtain⟨hv1,h⟩:=ah h
 refine aa.af tied [] [] [] [0≤(19:Int),(19:Int)≤(19:Int),(19:Int)*(24:Int)≤(az:Int)] (by kernel_rfl) ⟨(by decide),(by decide),hv1,trivial⟩ ?_
 obtain⟨o2,h1,h⟩:=bind_some h
 refine aa.ba (fun σ'=>σ'=ar 19 59 [(2,(.ptr 18 [])),(3,(.own 21))] [(18,some (.var ao (.val ao (Ty.aS ao)))),(21,some (.row 124 24 (.slice 1 (.int .u8)) o2))]) ?_ ?_
 ·refine aa.af tied [] [] [] [] (by kernel_rfl) trivial ?_
  refine aa.block ?_
  refine aa.aB (fun n σ=>∃(u1_0:vK)(u1_1:Int)(u1_2:List (List Int)),jD n u1_0 u1_1 u1_2=some o2∧σ=ar 19 59 [(1,(.bw oU u1_0)),(2,(.ptr 18 [])),(3,(.own 21)),(6,(.val (.int .i64) u1_1))] [(18,some (.var ao (.val ao (Ty.aS ao)))),(21,some (.row 124 24 (.slice 1 (.int .u8)) u1_2))]) [.freeze 17 (.slice 1 (.int .u8)),.an [1,2,3,6] [18,21]] (by kernel_rfl) ⟨_,_,_,h1,rfl⟩ ?_
  rintro n1 _ ⟨u1_0,u1_1,u1_2,h3,rfl⟩
  cases n1 with
  |zero=>exact absurd h3 (by simp[jD])
  |
   succ n1=>
   unfold jD at h3
   refine aa.af tied [] [] [] [] (by kernel_rfl) trivial ?_
   refine aa.seq ?_
   rcases ae h3 with⟨hc5,h3⟩|⟨hc5,h3⟩
   ·refine aa.aE (b:=decide (u1_1<(19:Int))) (by kernel_rfl) hc5 ?_
    refine aa.skip ?_
    change aa _ _ _ _ _
    refine aa.seq ?_
    refine aa.block ?_
    refine aa.af tied [] [] [] [] (by kernel_rfl) trivial ?_
    obtain⟨hv3,h3⟩:=ah h3
    obtain⟨hv4,h3⟩:=ah h3
    refine aa.br tied [] [] [] [0≤u1_1,u1_1<(19:Int),0≤u1_1,u1_1<(List.length u1_2:Int)] (by kernel_rfl) ⟨hv3.1,hv3.2,hv3.1,hv4,trivial⟩ ?_
    refine bN ?_
    change aa _ _ _ _ _
    refine aa.br tied [] [] [] [] (by kernel_rfl) trivial ?_
    exact aB.mk [.an [1,2,3,6] [18,21]] (by kernel_rfl) ⟨_,_,_,h3,rfl⟩
   ·refine aa.aF (b:=decide (u1_1<(19:Int))) (by kernel_rfl) hc5 ?_
    refine aa.exit ?_
    refine tE ?_
    refine lE ?_
    refine bE ?_
    obtain rfl:=Option.some.inj h3
    exact jQ.mk [.an [2,3] [18,21]] (by kernel_rfl) rfl
 ·rintro _ rfl
  refine aa.gh [.freeze 21 (.slice 24 (.slice 1 (.int .u8)))] (σ':=ar 19 59 [(2,(.ptr 18 [])),(3,(.val (.slice 24 (.slice 1 (.int .u8))) o2))] [(18,some (.var ao (.val ao (Ty.aS ao))))]) (by kernel_rfl) ?_
  obtain⟨y6,hy7,h⟩:=bind_some h
  obtain⟨y8,hy9,h⟩:=bind_some h
  refine aa.af tied [⟨(.val (.slice 1 (.int .u8)) y6),[],[],[],56⟩,⟨(.val ao y8),[],[],[],54⟩] [] [] [Fc Tryz.prog gl 127 [(.val (.slice 24 (.slice 1 (.int .u8))) o2)] (aj (List.replicate 56 none) []) (.ret (.val (.slice 1 (.int .u8)) y6)) (aq 56 []),Fc Tryz.prog gl 56 [(.val .str [112,117,98,108,105,99]),(.val (.slice 1 (.int .u8)) y6)] (aj (List.replicate 54 none) []) (.ret (.val ao y8)) (aq 54 [])] (by kernel_rfl) ⟨H7 _ _ hy7,JF _ _ _ hy9,trivial⟩ ?_
  refine aa.ret ?_
  obtain rfl:=Option.some.inj h
  exact(au [] [some ao] (cq 59 []) (by kernel_rfl)).1
def jE(a0:aU):Nat→Int→vK→Option vK
 |0,_,_=>none
 |n1+1,u1_0,u1_1=>if(decide (u1_0<(19:Int)))=true then(Option.bind (f58 a0 u1_0) fun y2=>Option.bind (f57 y2 (3:Int)) fun y4=>if 0≤u1_0∧u1_0<(19:Int) then(jE a0 n1 (aP (u1_0+(1:Int))) (List.set u1_1 (Int.toNat u1_0) y4)) else none) else(some u1_1)
def f24(a0:aU):Option aU:=
 Option.bind (jE a0 (Int.toNat (19:Int)+1) (0:Int) (Ty.aS oU)) fun(o1:vK)=>Option.bind (f59 o1) fun y8=>some y8
set_option maxRecDepth 100000 in
theorem Ln(a0:aU)(r:aU)(h:f24 a0=some r):Fc Tryz.prog gl 24 [(.val ao a0)] (aj (List.replicate 57 none) []) (.ret (.val ao r)) (aq 57 []):=by
 refine Fc.of Tryz.call24 (bz.aD tied Tryz.func24 rfl rfl (σ0:=ar 17 57 [(0,(.val ao a0))] []) (by kernel_rfl) ?_)
 unfold f24 at h
 refine aa.af tied [] [] [] [] (by kernel_rfl) trivial ?_
 refine aa.af tied [] [] [] [] (by kernel_rfl) trivial ?_
 obtain⟨o1,h1,h⟩:=bind_some h
 refine aa.ba (fun σ'=>σ'=ar 17 57 [(2,(.ptr 18 [])),(3,(.ptr 19 []))] [(18,some (.var ao (.val ao (Ty.aS ao)))),(19,some (.var oU (.val oU o1)))]) ?_ ?_
 ·refine aa.af tied [] [] [] [] (by kernel_rfl) trivial ?_
  refine aa.block ?_
  refine aa.aB (fun n σ=>∃(u1_0:Int)(u1_1:vK),jE a0 n u1_0 u1_1=some o1∧σ=ar 17 57 [(1,(.ptr 17 [])),(2,(.ptr 18 [])),(3,(.ptr 19 [])),(5,(.val (.int .i64) u1_0))] [(17,some (.var ao (.val ao a0))),(18,some (.var ao (.val ao (Ty.aS ao)))),(19,some (.var oU (.val oU u1_1)))]) [.an [1,2,3,5] [17,18,19]] (by kernel_rfl) ⟨_,_,h1,rfl⟩ ?_
  rintro n1 _ ⟨u1_0,u1_1,h3,rfl⟩
  cases n1 with
  |zero=>exact absurd h3 (by simp[jE])
  |
   succ n1=>
   unfold jE at h3
   refine aa.af tied [] [] [] [] (by kernel_rfl) trivial ?_
   refine aa.seq ?_
   rcases ae h3 with⟨hc7,h3⟩|⟨hc7,h3⟩
   ·refine aa.aE (b:=decide (u1_0<(19:Int))) (by kernel_rfl) hc7 ?_
    refine aa.skip ?_
    change aa _ _ _ _ _
    refine aa.seq ?_
    refine aa.block ?_
    refine aa.af tied [] [] [] [] (by kernel_rfl) trivial ?_
    obtain⟨y2,hy3,h3⟩:=bind_some h3
    obtain⟨y4,hy5,h3⟩:=bind_some h3
    obtain⟨hv6,h3⟩:=ah h3
    refine aa.br tied [⟨(.val ao y2),[],[],[],52⟩,⟨(.val ao y4),[],[],[],55⟩] [] [] [Fc Tryz.prog gl 58 [(.val ao a0),(.val (.int .i64) u1_0)] (aj (List.replicate 52 none) []) (.ret (.val ao y2)) (aq 52 []),Fc Tryz.prog gl 57 [(.val ao y2),(.val (.int .i64) (3:Int))] (aj (List.replicate 55 none) []) (.ret (.val ao y4)) (aq 55 []),0≤u1_0,u1_0<(19:Int)] (by kernel_rfl) ⟨Lk _ _ _ hy3,Ll _ _ _ hy5,hv6.1,hv6.2,trivial⟩ ?_
    refine bN ?_
    change aa _ _ _ _ _
    refine aa.br tied [] [] [] [] (by kernel_rfl) trivial ?_
    exact aB.mk [.an [1,2,3,5] [17,18,19]] (by kernel_rfl) ⟨_,_,h3,rfl⟩
   ·refine aa.aF (b:=decide (u1_0<(19:Int))) (by kernel_rfl) hc7 ?_
    refine aa.exit ?_
    refine tE ?_
    refine lE ?_
    refine bE ?_
    obtain rfl:=Option.some.inj h3
    exact jQ.mk [.an [2,3] [18,19]] (by kernel_rfl) rfl
 ·rintro _ rfl
  obtain⟨y8,hy9,h⟩:=bind_some h
  refine aa.af tied [⟨(.val ao y8),[],[],[],59⟩] [] [] [Fc Tryz.prog gl 59 [(.val oU o1)] (aj (List.replicate 59 none) []) (.ret (.val ao y8)) (aq 59 [])] (by kernel_rfl) ⟨Lm _ _ hy9,trivial⟩ ?_
  refine aa.ret ?_
  obtain rfl:=Option.some.inj h
  exact(au [] [some ao] (cq 57 []) (by kernel_rfl)).1
def f27(a0:List aU):Option (List aU):=if(List.length ([]:List aU)+List.length a0)*32≤az then some a0 else none
set_option maxRecDepth 100000 in
theorem Lo(a0:List aU)(r:List aU)(h:f27 a0=some r):Fc Tryz.prog gl 27 [(.val (.slice 32 ao) a0)] (aj (List.replicate 48 none) []) (.ret (.val (.slice 32 ao) r)) (aq 48 []):=by
 refine Fc.of Tryz.call27 (bz.aD tied Tryz.func27 rfl rfl (σ0:=ar 8 48 [(0,(.val (.slice 32 ao) a0))] []) (by kernel_rfl) ?_)
 unfold f27 at h
 obtain⟨hv,h⟩:=ah h
 obtain rfl:=Option.some.inj h
 refine aa.af tied [] [] [] [] (by kernel_rfl) trivial ?_
 refine aa.seq ?_
 refine aa.zk (.tmp 0) 3 4 74 74 28 32 ao a0 rfl rfl rfl rfl rfl rfl (by kernel_rfl) G0 rfl ?_
 intro b hb
 cases b with
 |
  true=>
  have hx:=hb rfl
  subst hx
  refine aa.aE (b:=true) (by kernel_rfl) rfl ?_
  refine aa.af tied [] [] [] [] (by kernel_rfl) trivial ?_
  refine aa.ret ?_
  exact(au [] [some (.slice 32 ao)] (cq 48 []) (by kernel_rfl)).1
 |
  false=>
  refine aa.aF (b:=false) (by kernel_rfl) rfl ?_
  refine aa.skip ?_
  change aa _ _ _ _ _
  refine aa.af tied [] [] [] [(List.length ([]:List aU)+List.length a0)*32≤az] (by kernel_rfl) ⟨hv,trivial⟩ ?_
  refine aa.ret ?_
  exact(au [.freeze 23 (.slice 32 ao)] [some (.slice 32 ao)] (cq 48 []) (by kernel_rfl)).1
def mT(a0:cI)(a1:List eu):Nat→Int→(List (aU×Int))→Option (List (aU×Int))
 |0,_,_=>none
 |n1+1,u1_0,u1_1=>if(decide (u1_0<(List.length a1:Int)))=true then(Option.bind (if 0≤u1_0∧u1_0<(List.length a1:Int) then(Option.bind (f24 ((nth cn a1 u1_0).1)) fun y4=>if(!(dW ao y4 u1_1))=true then(if List.length u1_1+1≤az then(some (dN ao y4 u1_0 u1_1)) else none) else(some u1_1)) else none) fun(o2:List (aU×Int))=>mT a0 a1 n1 (aP (u1_0+(1:Int))) o2) else(some u1_1)
def mU(a0:cI)(a1:List eu)(o1:List (aU×Int)):Nat→Int→(List eu)→Option (c6 (List eu) ((List eu)×Int))
 |0,_,_=>none
 |n2+1,u2_0,u2_1=>if(decide (u2_0<(List.length a0.2.2.2.2.1:Int)))=true then(if 0≤u2_0∧u2_0<(List.length a0.2.2.2.2.1:Int) then(if(!(dW ao ((((((nth a8 a0.2.2.2.2.1 u2_0).2).2).2).2).1) o1))=true then(some (.ret (([]:List eu),(290:Int)))) else(if 0≤(eN ao (.int .i64) ((((((nth a8 a0.2.2.2.2.1 u2_0).2).2).2).2).1) o1)∧(eN ao (.int .i64) ((((((nth a8 a0.2.2.2.2.1 u2_0).2).2).2).2).1) o1)<(List.length a1:Int) then(Option.bind (f27 (((nth cn a1 (eN ao (.int .i64) ((((((nth a8 a0.2.2.2.2.1 u2_0).2).2).2).2).1) o1)).2).1)) fun y12=>if(List.length u2_1+List.length [((nth cn a1 (eN ao (.int .i64) ((((((nth a8 a0.2.2.2.2.1 u2_0).2).2).2).2).1) o1)).1,(y12,()))])*56≤az then(mU a0 a1 o1 n2 (aP (u2_0+(1:Int))) (u2_1++[((nth cn a1 (eN ao (.int .i64) ((((((nth a8 a0.2.2.2.2.1 u2_0).2).2).2).2).1) o1)).1,(y12,()))])) else none) else none)) else none) else(some (.bh u2_1))
def f7(a0:cI)(a1:List eu):Option ((List eu)×Int):=
 if(decide ((List.length a0.2.2.2.2.1:Int)=(0:Int)))=true then(some (([]:List eu),(0:Int))) else(Option.bind (mT a0 a1 (List.length a1+1) (0:Int) ([]:List (aU×Int))) fun(o1:List (aU×Int))=>Option.bind (mU a0 a1 o1 (List.length a0.2.2.2.2.1+1) (0:Int) ([]:List eu)) fun(o9:c6 (List eu) ((List eu)×Int))=>match o9 with| .bh v17=>(some (v17,(0:Int)))| .ret r18=>(some r18))
set_option maxRecDepth 100000 in
theorem x7(
 a0:cI) (a1:List eu) (r:(List eu)×Int) (h:f7 a0 a1=some r):Fc Tryz.prog gl 7 [(.val aI a0),(.val (.slice 56 cn) a1)] (aj (List.replicate 116 none) []) (.ret (.c8 (.cons (.val (.slice 56 cn) r.1) (.cons (.val (.int .i64) r.2) .nil)))) (aq 116 []):=by
 refine Fc.of Tryz.call7 (bz.aD tied Tryz.func7 rfl rfl (σ0:=ar 76 116 [(0,(.val aI a0)),(1,(.val (.slice 56 cn) a1))] []) (by kernel_rfl) ?_)
 unfold f7 at h
 refine aa.af tied [] [] [] [] (by kernel_rfl) trivial ?_
 refine aa.seq ?_
 refine aa.af tied [] [] [] [] (by kernel_rfl) trivial ?_
 rcases ae h with⟨hc19,h⟩|⟨hc19,h⟩
 ·refine aa.aE (b:=decide ((List.length a0.2.2.2.2.1:Int)=(0:Int))) (by kernel_rfl) hc19 ?_
  refine aa.af tied [] [] [] [] (by kernel_rfl) trivial ?_
  refine aa.ret ?_
  obtain rfl:=Option.some.inj h
  exact(au [] [some (.slice 56 cn),some (.int .i64)] (cq 116 []) (by kernel_rfl)).1
 ·refine aa.aF (b:=decide ((List.length a0.2.2.2.2.1:Int)=(0:Int))) (by kernel_rfl) hc19 ?_
  refine aa.skip ?_
  change aa _ _ _ _ _
  refine aa.af tied [] [] [] [] (by kernel_rfl) trivial ?_
  obtain⟨o1,h1,h⟩:=bind_some h
  refine aa.ba (fun σ'=>σ'=ar 76 116 [(1,(.val (.slice 56 cn) a1)),(2,(.ptr 18 [])),(4,.cZ),(6,(.mp 36))] [(18,some (.var aI (.val aI a0))),(36,some (.map ao (.int .i64) o1))]) ?_ ?_
  ·refine aa.af tied [] [] [] [] (by kernel_rfl) trivial ?_
   refine aa.block ?_
   refine aa.aB (fun n σ=>∃(u1_0:Int)(u1_1:List (aU×Int)),mT a0 a1 n u1_0 u1_1=some o1∧σ=ar 76 116 [(1,(.val (.slice 56 cn) a1)),(2,(.ptr 18 [])),(4,.cZ),(6,(.mp 36)),(21,(.val (.slice 56 cn) a1)),(22,(.val (.int .i64) (List.length a1:Int))),(23,(.val (.int .i64) u1_0))] [(18,some (.var aI (.val aI a0))),(36,some (.map ao (.int .i64) u1_1))]) [.an [1,2,4,6,21,22,23] [18,36]] (by kernel_rfl) ⟨_,_,h1,rfl⟩ ?_
   rintro n1 _ ⟨u1_0,u1_1,h4,rfl⟩
   cases n1 with
   |zero=>exact absurd h4 (by simp[mT])
   |
    succ n1=>
    unfold mT at h4
    refine aa.af tied [] [] [] [] (by kernel_rfl) trivial ?_
    refine aa.seq ?_
    rcases ae h4 with⟨hc8,h4⟩|⟨hc8,h4⟩
    ·refine aa.aE (b:=decide (u1_0<(List.length a1:Int))) (by kernel_rfl) hc8 ?_
     refine aa.skip ?_
     change aa _ _ _ _ _
     obtain⟨o2,h5,h4⟩:=bind_some h4
     refine aa.ba (fun σ'=>σ'=ar 76 116 [(1,(.val (.slice 56 cn) a1)),(2,(.ptr 18 [])),(4,.cZ),(6,(.mp 36)),(21,(.val (.slice 56 cn) a1)),(22,(.val (.int .i64) (List.length a1:Int))),(23,(.val (.int .i64) u1_0))] [(18,some (.var aI (.val aI a0))),(36,some (.map ao (.int .i64) o2))]) ?_ ?_
     ·refine aa.block ?_
      obtain⟨hv3,h5⟩:=ah h5
      refine aa.af tied [] [] [] [0≤u1_0,u1_0<(List.length a1:Int)] (by kernel_rfl) ⟨hv3.1,hv3.2,trivial⟩ ?_
      obtain⟨y4,hy5,h5⟩:=bind_some h5
      refine aa.af tied [⟨(.val ao y4),[],[],[],57⟩] [] [] [Fc Tryz.prog gl 24 [(.val ao ((nth cn a1 u1_0).1))] (aj (List.replicate 57 none) []) (.ret (.val ao y4)) (aq 57 [])] (by kernel_rfl) ⟨Ln _ _ hy5,trivial⟩ ?_
      refine aa.af tied [] [] [] [bG Tryz.prog G 40 28 ao=true] (by kernel_rfl) ⟨bn,trivial⟩ ?_
      refine aa.af tied [] [] [] [] (by kernel_rfl) trivial ?_
      rcases ae h5 with⟨hc7,h5⟩|⟨hc7,h5⟩
      ·refine aa.aE (b:= !(dW ao y4 u1_1)) (by kernel_rfl) hc7 ?_
       obtain⟨hv6,h5⟩:=ah h5
       refine aa.br tied [] [] [] [bG Tryz.prog G 40 28 ao=true,List.length u1_1+1≤az] (by kernel_rfl) ⟨bn,hv6,trivial⟩ ?_
       refine bN ?_
       obtain rfl:=Option.some.inj h5
       exact jQ.mk [.an [1,2,4,6,21,22,23] [18,36]] (by kernel_rfl) rfl
      ·refine aa.aF (b:= !(dW ao y4 u1_1)) (by kernel_rfl) hc7 ?_
       refine aa.skip ?_
       refine bN ?_
       obtain rfl:=Option.some.inj h5
       exact jQ.mk [.an [1,2,4,6,21,22,23] [18,36]] (by kernel_rfl) rfl
     ·rintro _ rfl
      refine aa.br tied [] [] [] [] (by kernel_rfl) trivial ?_
      exact aB.mk [.an [1,2,4,6,21,22,23] [18,36]] (by kernel_rfl) ⟨_,_,h4,rfl⟩
    ·refine aa.aF (b:=decide (u1_0<(List.length a1:Int))) (by kernel_rfl) hc8 ?_
     refine aa.exit ?_
     refine tE ?_
     refine lE ?_
     refine bE ?_
     obtain rfl:=Option.some.inj h4
     exact jQ.mk [.an [1,2,4,6] [18,36]] (by kernel_rfl) rfl
  ·rintro _ rfl
   obtain⟨o9,h6,h⟩:=bind_some h
   refine aa.ba (fun σ'=>∃v17,o9= .bh v17∧σ'=ar 76 116 [(4,(.own 93))] [(93,some (.row 77 56 cn v17))]) ?_ ?_
   ·refine aa.af tied [] [] [] [] (by kernel_rfl) trivial ?_
    refine aa.block ?_
    refine aa.aB (fun n σ=>∃(u2_0:Int)(u2_1:List eu),mU a0 a1 o1 n u2_0 u2_1=some o9∧σ=ar 76 116 [(1,(.val (.slice 56 cn) a1)),(4,(.own 92)),(6,(.mp 36)),(44,(.val (.slice 176 a8) a0.2.2.2.2.1)),(45,(.val (.int .i64) (List.length a0.2.2.2.2.1:Int))),(46,(.val (.int .i64) u2_0))] [(36,some (.map ao (.int .i64) o1)),(92,some (.row 77 56 cn u2_1))]) [.an [1,4,6,44,45,46] [36],.rN 4 92 77 56 cn] (by kernel_rfl) ⟨_,_,h6,rfl⟩ ?_
    rintro n2 _ ⟨u2_0,u2_1,h8,rfl⟩
    cases n2 with
    |zero=>exact absurd h8 (by simp[mU])
    |
     succ n2=>
     unfold mU at h8
     refine aa.af tied [] [] [] [] (by kernel_rfl) trivial ?_
     refine aa.seq ?_
     rcases ae h8 with⟨hc16,h8⟩|⟨hc16,h8⟩
     ·refine aa.aE (b:=decide (u2_0<(List.length a0.2.2.2.2.1:Int))) (by kernel_rfl) hc16 ?_
      refine aa.skip ?_
      change aa _ _ _ _ _
      refine aa.seq ?_
      refine aa.block ?_
      obtain⟨hv10,h8⟩:=ah h8
      refine aa.af tied [] [] [] [0≤u2_0,u2_0<(List.length a0.2.2.2.2.1:Int)] (by kernel_rfl) ⟨hv10.1,hv10.2,trivial⟩ ?_
      refine aa.af tied [] [] [] [bG Tryz.prog G 40 28 ao=true] (by kernel_rfl) ⟨bn,trivial⟩ ?_
      refine aa.seq ?_
      refine aa.af tied [] [] [] [] (by kernel_rfl) trivial ?_
      rcases ae h8 with⟨hc15,h8⟩|⟨hc15,h8⟩
      ·refine aa.aE (b:= !(dW ao ((((((nth a8 a0.2.2.2.2.1 u2_0).2).2).2).2).1) o1)) (by kernel_rfl) hc15 ?_
       refine aa.af tied [] [] [] [] (by kernel_rfl) trivial ?_
       refine aa.ret ?_
       obtain rfl:=Option.some.inj h8
       dsimp only at h
       obtain rfl:=Option.some.inj h
       exact(au [] [some (.slice 56 cn),some (.int .i64)] (cq 116 []) (by kernel_rfl)).1
      ·refine aa.aF (b:= !(dW ao ((((((nth a8 a0.2.2.2.2.1 u2_0).2).2).2).2).1) o1)) (by kernel_rfl) hc15 ?_
       refine aa.skip ?_
       change aa _ _ _ _ _
       obtain⟨hv11,h8⟩:=ah h8
       obtain⟨y12,hy13,h8⟩:=bind_some h8
       obtain⟨hv14,h8⟩:=ah h8
       refine aa.gk tied [⟨(.val (.slice 32 ao) y12),[],[],[],48⟩] [] [] [0≤(eN ao (.int .i64) ((((((nth a8 a0.2.2.2.2.1 u2_0).2).2).2).2).1) o1),(eN ao (.int .i64) ((((((nth a8 a0.2.2.2.2.1 u2_0).2).2).2).2).1) o1)<(List.length a1:Int),0≤(eN ao (.int .i64) ((((((nth a8 a0.2.2.2.2.1 u2_0).2).2).2).2).1) o1),(eN ao (.int .i64) ((((((nth a8 a0.2.2.2.2.1 u2_0).2).2).2).2).1) o1)<(List.length a1:Int),Fc Tryz.prog gl 27 [(.val (.slice 32 ao) (((nth cn a1 (eN ao (.int .i64) ((((((nth a8 a0.2.2.2.2.1 u2_0).2).2).2).2).1) o1)).2).1))] (aj (List.replicate 48 none) []) (.ret (.val (.slice 32 ao) y12)) (aq 48 []),(List.length u2_1+List.length [((nth cn a1 (eN ao (.int .i64) ((((((nth a8 a0.2.2.2.2.1 u2_0).2).2).2).2).1) o1)).1,(y12,()))])*56≤az] (by kernel_rfl) ⟨hv11.1,hv11.2,hv11.1,hv11.2,Lo _ _ hy13,hv14,trivial⟩ ?_
       refine bN ?_
       change aa _ _ _ _ _
       refine aa.br tied [] [] [] [] (by kernel_rfl) trivial ?_
       exact aB.mk [.an [1,4,6,44,45,46] [36,89],.iN 89 92] (by kernel_rfl) ⟨_,_,h8,rfl⟩
     ·refine aa.aF (b:=decide (u2_0<(List.length a0.2.2.2.2.1:Int))) (by kernel_rfl) hc16 ?_
      refine aa.exit ?_
      refine tE ?_
      refine lE ?_
      refine bE ?_
      obtain rfl:=Option.some.inj h8
      exact jQ.mk [.an [4] [92],.iN 92 93] (by kernel_rfl) ⟨_,rfl,rfl⟩
   ·rintro _ ⟨v17,rfl,rfl⟩
    dsimp only at h
    refine aa.af tied [] [] [] [] (by kernel_rfl) trivial ?_
    refine aa.ret ?_
    obtain rfl:=Option.some.inj h
    exact(au [.freeze 93 (.slice 56 cn)] [some (.slice 56 cn),some (.int .i64)] (cq 116 []) (by kernel_rfl)).1
def f129(a0:List UInt8)(a1:List Int):Option aU:=
 Option.bind (f219 (bytesOf a0)) fun y1=>if(List.length ([]:List Int)+List.length (List.take (32 -0) (List.drop 0 y1)))*1≤az then(if(List.length (List.take (32 -0) (List.drop 0 y1))+List.length a1)*1≤az then(Option.bind (f219 ((List.take (32 -0) (List.drop 0 y1))++a1)) fun y5=>some y5) else none) else none
set_option maxRecDepth 100000 in
theorem Ga(a0:List UInt8)(a1:List Int)(r:aU)(h:f129 a0 a1=some r):Fc Tryz.prog gl 129 [(.val .str a0),(.val (.slice 1 (.int .u8)) a1)] (aj (List.replicate 55 none) []) (.ret (.val ao r)) (aq 55 []):=by
 refine Fc.of Tryz.call129 (bz.aD tied Tryz.func129 rfl rfl (σ0:=ar 15 55 [(0,(.val .str a0)),(1,(.val (.slice 1 (.int .u8)) a1))] []) (by kernel_rfl) ?_)
 unfold f129 at h
 refine aa.af tied [] [] [] [] (by kernel_rfl) trivial ?_
 obtain⟨y1,hy2,h⟩:=bind_some h
 refine aa.af tied [⟨(.val ao y1),[],[],[],82⟩] [] [] [Fc Tryz.prog gl 219 [(.val (.slice 1 (.int .u8)) (bytesOf a0))] (aj (List.replicate 82 none) []) (.ret (.val ao y1)) (aq 82 [])] (by kernel_rfl) ⟨Ia _ _ hy2,trivial⟩ ?_
 obtain⟨hv3,h⟩:=ah h
 obtain⟨hv4,h⟩:=ah h
 obtain⟨y5,hy6,h⟩:=bind_some h
 refine aa.af tied [⟨(.val ao y5),[],[],[],82⟩] [] [] [(List.length ([]:List Int)+List.length (List.take (32 -0) (List.drop 0 y1)))*1≤az,(List.length (List.take (32 -0) (List.drop 0 y1))+List.length a1)*1≤az,Fc Tryz.prog gl 219 [(.val (.slice 1 (.int .u8)) ((List.take (32 -0) (List.drop 0 y1))++a1))] (aj (List.replicate 82 none) []) (.ret (.val ao y5)) (aq 82 [])] (by kernel_rfl) ⟨hv3,hv4,Ia _ _ hy6,trivial⟩ ?_
 refine aa.ret ?_
 obtain rfl:=Option.some.inj h
 exact(au [] [some ao] (cq 55 []) (by kernel_rfl)).1
def f63(a0:aU)(a1:Int):Option aU:=
 if(List.length ([]:List Int)+List.length (List.take (32 -0) (List.drop 0 a0)))*1≤az then(if(List.length (List.take (32 -0) (List.drop 0 a0))+List.length [IntKind.u8.wrap (a1)])*1≤az then(Option.bind (f129 [99,104,97,105,110] ((List.take (32 -0) (List.drop 0 a0))++[IntKind.u8.wrap (a1)])) fun y3=>some y3) else none) else none
set_option maxRecDepth 100000 in
theorem Lp(a0:aU)(a1:Int)(r:aU)(h:f63 a0 a1=some r):Fc Tryz.prog gl 63 [(.val ao a0),(.val (.int .i64) a1)] (aj (List.replicate 55 none) []) (.ret (.val ao r)) (aq 55 []):=by
 refine Fc.of Tryz.call63 (bz.aD tied Tryz.func63 rfl rfl (σ0:=ar 15 55 [(0,(.val ao a0)),(1,(.val (.int .i64) a1))] []) (by kernel_rfl) ?_)
 unfold f63 at h
 refine aa.af tied [] [] [] [] (by kernel_rfl) trivial ?_
 obtain⟨hv1,h⟩:=ah h
 refine aa.af tied [] [] [] [(List.length ([]:List Int)+List.length (List.take (32 -0) (List.drop 0 a0)))*1≤az] (by kernel_rfl) ⟨hv1,trivial⟩ ?_
 obtain⟨hv2,h⟩:=ah h
 obtain⟨y3,hy4,h⟩:=bind_some h
 refine aa.af tied [⟨(.val ao y3),[],[],[],55⟩] [] [] [(List.length (List.take (32 -0) (List.drop 0 a0))+List.length [IntKind.u8.wrap (a1)])*1≤az,Fc Tryz.prog gl 129 [(.val .str [99,104,97,105,110]),(.val (.slice 1 (.int .u8)) ((List.take (32 -0) (List.drop 0 a0))++[IntKind.u8.wrap (a1)]))] (aj (List.replicate 55 none) []) (.ret (.val ao y3)) (aq 55 [])] (by kernel_rfl) ⟨hv2,Ga _ _ _ hy4,trivial⟩ ?_
 refine aa.ret ?_
 obtain rfl:=Option.some.inj h
 exact(au [] [some ao] (cq 55 []) (by kernel_rfl)).1
def f128(a0:aU):Option aU:=
 Option.bind (f129 [115,116,101,112] (List.take (32 -0) (List.drop 0 a0))) fun y1=>some y1
set_option maxRecDepth 100000 in
theorem JG(a0:aU)(r:aU)(h:f128 a0=some r):Fc Tryz.prog gl 128 [(.val ao a0)] (aj (List.replicate 45 none) []) (.ret (.val ao r)) (aq 45 []):=by
 refine Fc.of Tryz.call128 (bz.aD tied Tryz.func128 rfl rfl (σ0:=ar 5 45 [(0,(.val ao a0))] []) (by kernel_rfl) ?_)
 unfold f128 at h
 refine aa.af tied [] [] [] [] (by kernel_rfl) trivial ?_
 obtain⟨y1,hy2,h⟩:=bind_some h
 refine aa.af tied [⟨(.val ao y1),[],[],[],55⟩] [] [] [Fc Tryz.prog gl 129 [(.val .str [115,116,101,112]),(.val (.slice 1 (.int .u8)) (List.take (32 -0) (List.drop 0 a0)))] (aj (List.replicate 55 none) []) (.ret (.val ao y1)) (aq 55 [])] (by kernel_rfl) ⟨Ga _ _ _ hy2,trivial⟩ ?_
 refine aa.ret ?_
 obtain rfl:=Option.some.inj h
 exact(au [] [some ao] (cq 45 []) (by kernel_rfl)).1
def nZ(a1:Int):Nat→Int→aU→Option aU
 |0,_,_=>none
 |n1+1,u1_0,u1_1=>if(decide (u1_0<a1))=true then(Option.bind (f128 u1_1) fun y2=>nZ a1 n1 (aP (u1_0+(1:Int))) y2) else(some u1_1)
def f62(a0:aU)(a1:Int):Option aU:=
 Option.bind (nZ a1 (bX) (0:Int) a0) fun(o1:aU)=>some o1
set_option maxRecDepth 100000 in
theorem Lq(a0:aU)(a1:Int)(r:aU)(h:f62 a0 a1=some r):Fc Tryz.prog gl 62 [(.val ao a0),(.val (.int .i64) a1)] (aj (List.replicate 54 none) []) (.ret (.val ao r)) (aq 54 []):=by
 refine Fc.of Tryz.call62 (bz.aD tied Tryz.func62 rfl rfl (σ0:=ar 14 54 [(0,(.val ao a0)),(1,(.val (.int .i64) a1))] []) (by kernel_rfl) ?_)
 unfold f62 at h
 refine aa.af tied [] [] [] [] (by kernel_rfl) trivial ?_
 obtain⟨o1,h1,h⟩:=bind_some h
 refine aa.ba (fun σ'=>σ'=ar 14 54 [(2,(.ptr 18 [])),(4,(.ptr 20 []))] [(18,some (.var ao (.val ao o1))),(20,some (.var ao (.val ao (Ty.aS ao))))]) ?_ ?_
 ·refine aa.af tied [] [] [] [] (by kernel_rfl) trivial ?_
  refine aa.block ?_
  refine aa.aB (fun n σ=>∃(u1_0:Int)(u1_1:aU),nZ a1 n u1_0 u1_1=some o1∧σ=ar 14 54 [(1,(.val (.int .i64) a1)),(2,(.ptr 18 [])),(4,(.ptr 20 [])),(5,(.val (.int .i64) u1_0))] [(18,some (.var ao (.val ao u1_1))),(20,some (.var ao (.val ao (Ty.aS ao))))]) [.an [1,2,4,5] [18,20]] (by kernel_rfl) ⟨_,_,h1,rfl⟩ ?_
  rintro n1 _ ⟨u1_0,u1_1,h3,rfl⟩
  cases n1 with
  |zero=>exact absurd h3 (by simp[nZ])
  |
   succ n1=>
   unfold nZ at h3
   refine aa.seq ?_
   refine aa.af tied [] [] [] [] (by kernel_rfl) trivial ?_
   rcases ae h3 with⟨hc4,h3⟩|⟨hc4,h3⟩
   ·refine aa.aE (b:=decide (u1_0<a1)) (by kernel_rfl) hc4 ?_
    refine aa.skip ?_
    change aa _ _ _ _ _
    refine aa.seq ?_
    refine aa.block ?_
    obtain⟨y2,hy3,h3⟩:=bind_some h3
    refine aa.br tied [⟨(.val ao y2),[],[],[],45⟩] [] [] [Fc Tryz.prog gl 128 [(.val ao u1_1)] (aj (List.replicate 45 none) []) (.ret (.val ao y2)) (aq 45 [])] (by kernel_rfl) ⟨JG _ _ hy3,trivial⟩ ?_
    refine bN ?_
    change aa _ _ _ _ _
    refine aa.br tied [] [] [] [] (by kernel_rfl) trivial ?_
    exact aB.mk [.an [1,2,4,5] [18,20]] (by kernel_rfl) ⟨_,_,h3,rfl⟩
   ·refine aa.aF (b:=decide (u1_0<a1)) (by kernel_rfl) hc4 ?_
    refine aa.exit ?_
    refine tE ?_
    refine lE ?_
    refine bE ?_
    obtain rfl:=Option.some.inj h3
    exact jQ.mk [.an [2,4] [18,20]] (by kernel_rfl) rfl
 ·rintro _ rfl
  refine aa.af tied [] [] [] [] (by kernel_rfl) trivial ?_
  refine aa.ret ?_
  obtain rfl:=Option.some.inj h
  exact(au [] [some ao] (cq 54 []) (by kernel_rfl)).1
def jF(a0:List aU):Nat→Int→(List Int)→Option (List Int)
 |0,_,_=>none
 |n1+1,u1_0,u1_1=>if(decide (u1_0<(List.length a0:Int)))=true then(if 0≤u1_0∧u1_0<(List.length a0:Int) then(if(List.length u1_1+List.length (aW (nth ao a0 u1_0) 0 32))*1≤az then(jF a0 n1 (aP (u1_0+(1:Int))) (u1_1++(aW (nth ao a0 u1_0) 0 32))) else none) else none) else(some u1_1)
def f64(a0:List aU):Option aU:=
 Option.bind (jF a0 (bX) (0:Int) ([]:List Int)) fun(o1:List Int)=>Option.bind (f129 [112,117,98,108,105,99] o1) fun y5=>some y5
set_option maxRecDepth 100000 in
theorem Lr(a0:List aU)(r:aU)(h:f64 a0=some r):Fc Tryz.prog gl 64 [(.val (.slice 32 ao) a0)] (aj (List.replicate 60 none) []) (.ret (.val ao r)) (aq 60 []):=by
 refine Fc.of Tryz.call64 (bz.aD tied Tryz.func64 rfl rfl (σ0:=ar 20 60 [(0,(.val (.slice 32 ao) a0))] []) (by kernel_rfl) ?_)
 unfold f64 at h
 refine aa.af tied [] [] [] [] (by kernel_rfl) trivial ?_
 refine aa.af tied [] [] [] [] (by kernel_rfl) trivial ?_
 obtain⟨o1,h1,h⟩:=bind_some h
 refine aa.ba (fun σ'=>σ'=ar 20 60 [(2,(.ptr 18 [])),(3,(.own 37))] [(18,some (.var ao (.val ao (Ty.aS ao)))),(37,some (.row 5 1 (.int .u8) o1))]) ?_ ?_
 ·refine aa.af tied [] [] [] [] (by kernel_rfl) trivial ?_
  refine aa.block ?_
  refine aa.aB (fun n σ=>∃(u1_0:Int)(u1_1:List Int),jF a0 n u1_0 u1_1=some o1∧σ=ar 20 60 [(0,(.val (.slice 32 ao) a0)),(2,(.ptr 18 [])),(3,(.own 36)),(4,(.val (.int .i64) u1_0))] [(18,some (.var ao (.val ao (Ty.aS ao)))),(36,some (.row 5 1 (.int .u8) u1_1))]) [.an [0,2,3,4] [18,21],.iN 21 36] (by kernel_rfl) ⟨_,_,h1,rfl⟩ ?_
  rintro n1 _ ⟨u1_0,u1_1,h3,rfl⟩
  cases n1 with
  |zero=>exact absurd h3 (by simp[jF])
  |
   succ n1=>
   unfold jF at h3
   refine aa.seq ?_
   refine aa.af tied [] [] [] [] (by kernel_rfl) trivial ?_
   rcases ae h3 with⟨hc4,h3⟩|⟨hc4,h3⟩
   ·refine aa.aE (b:=decide (u1_0<(List.length a0:Int))) (by kernel_rfl) hc4 ?_
    refine aa.skip ?_
    change aa _ _ _ _ _
    refine aa.seq ?_
    refine aa.block ?_
    obtain⟨hv2,h3⟩:=ah h3
    obtain⟨hv3,h3⟩:=ah h3
    refine aa.br tied [] [] [] [0≤u1_0,u1_0<(List.length a0:Int),(List.length u1_1+List.length (aW (nth ao a0 u1_0) 0 32))*1≤az] (by kernel_rfl) ⟨hv2.1,hv2.2,hv3,trivial⟩ ?_
    refine bN ?_
    change aa _ _ _ _ _
    refine aa.br tied [] [] [] [] (by kernel_rfl) trivial ?_
    exact aB.mk [.an [0,2,3,4] [18,33],.iN 33 36] (by kernel_rfl) ⟨_,_,h3,rfl⟩
   ·refine aa.aF (b:=decide (u1_0<(List.length a0:Int))) (by kernel_rfl) hc4 ?_
    refine aa.exit ?_
    refine tE ?_
    refine lE ?_
    refine bE ?_
    obtain rfl:=Option.some.inj h3
    exact jQ.mk [.an [2,3] [18,36],.iN 36 37] (by kernel_rfl) rfl
 ·rintro _ rfl
  obtain⟨y5,hy6,h⟩:=bind_some h
  refine aa.af tied [⟨(.val ao y5),[],[],[],55⟩] [] [] [Fc Tryz.prog gl 129 [(.val .str [112,117,98,108,105,99]),(.val (.slice 1 (.int .u8)) o1)] (aj (List.replicate 55 none) []) (.ret (.val ao y5)) (aq 55 [])] (by kernel_rfl) ⟨Ga _ _ _ hy6,trivial⟩ ?_
  refine aa.ret ?_
  obtain rfl:=Option.some.inj h
  exact(au [] [some ao] (cq 60 []) (by kernel_rfl)).1
def jG(a0:aU):Nat→Int→(List aU)→Option (List aU)
 |0,_,_=>none
 |n1+1,u1_0,u1_1=>if(decide (u1_0<(19:Int)))=true then(Option.bind (f63 a0 u1_0) fun y2=>Option.bind (f62 y2 (3:Int)) fun y4=>if(List.length u1_1+List.length [y4])*32≤az then(jG a0 n1 (aP (u1_0+(1:Int))) (u1_1++[y4])) else none) else(some u1_1)
def f28(a0:aU):Option aU:=
 Option.bind (jG a0 (bX) (0:Int) ([]:List aU)) fun(o1:List aU)=>Option.bind (f64 o1) fun y8=>some y8
set_option maxRecDepth 100000 in
theorem Ls(a0:aU)(r:aU)(h:f28 a0=some r):Fc Tryz.prog gl 28 [(.val ao a0)] (aj (List.replicate 59 none) []) (.ret (.val ao r)) (aq 59 []):=by
 refine Fc.of Tryz.call28 (bz.aD tied Tryz.func28 rfl rfl (σ0:=ar 19 59 [(0,(.val ao a0))] []) (by kernel_rfl) ?_)
 unfold f28 at h
 refine aa.af tied [] [] [] [] (by kernel_rfl) trivial ?_
 refine aa.af tied [] [] [] [] (by kernel_rfl) trivial ?_
 obtain⟨o1,h1,h⟩:=bind_some h
 refine aa.ba (fun σ'=>σ'=ar 19 59 [(2,(.ptr 18 [])),(3,(.own 36))] [(18,some (.var ao (.val ao (Ty.aS ao)))),(36,some (.row 28 32 ao o1))]) ?_ ?_
 ·refine aa.af tied [] [] [] [] (by kernel_rfl) trivial ?_
  refine aa.block ?_
  refine aa.aB (fun n σ=>∃(u1_0:Int)(u1_1:List aU),jG a0 n u1_0 u1_1=some o1∧σ=ar 19 59 [(1,(.ptr 17 [])),(2,(.ptr 18 [])),(3,(.own 35)),(4,(.val (.int .i64) u1_0))] [(17,some (.var ao (.val ao a0))),(18,some (.var ao (.val ao (Ty.aS ao)))),(35,some (.row 28 32 ao u1_1))]) [.an [1,2,3,4] [17,18,21],.iN 21 35] (by kernel_rfl) ⟨_,_,h1,rfl⟩ ?_
  rintro n1 _ ⟨u1_0,u1_1,h3,rfl⟩
  cases n1 with
  |zero=>exact absurd h3 (by simp[jG])
  |
   succ n1=>
   unfold jG at h3
   refine aa.seq ?_
   refine aa.af tied [] [] [] [] (by kernel_rfl) trivial ?_
   rcases ae h3 with⟨hc7,h3⟩|⟨hc7,h3⟩
   ·refine aa.aE (b:=decide (u1_0<(19:Int))) (by kernel_rfl) hc7 ?_
    refine aa.skip ?_
    change aa _ _ _ _ _
    refine aa.seq ?_
    refine aa.block ?_
    obtain⟨y2,hy3,h3⟩:=bind_some h3
    obtain⟨y4,hy5,h3⟩:=bind_some h3
    obtain⟨hv6,h3⟩:=ah h3
    refine aa.br tied [⟨(.val ao y2),[],[],[],55⟩,⟨(.val ao y4),[],[],[],54⟩] [] [] [Fc Tryz.prog gl 63 [(.val ao a0),(.val (.int .i64) u1_0)] (aj (List.replicate 55 none) []) (.ret (.val ao y2)) (aq 55 []),Fc Tryz.prog gl 62 [(.val ao y2),(.val (.int .i64) (3:Int))] (aj (List.replicate 54 none) []) (.ret (.val ao y4)) (aq 54 []),(List.length u1_1+List.length [y4])*32≤az] (by kernel_rfl) ⟨Lp _ _ _ hy3,Lq _ _ _ hy5,hv6,trivial⟩ ?_
    refine bN ?_
    change aa _ _ _ _ _
    refine aa.br tied [] [] [] [] (by kernel_rfl) trivial ?_
    exact aB.mk [.an [1,2,3,4] [17,18,32],.iN 32 35] (by kernel_rfl) ⟨_,_,h3,rfl⟩
   ·refine aa.aF (b:=decide (u1_0<(19:Int))) (by kernel_rfl) hc7 ?_
    refine aa.exit ?_
    refine tE ?_
    refine lE ?_
    refine bE ?_
    obtain rfl:=Option.some.inj h3
    exact jQ.mk [.an [2,3] [18,35],.iN 35 36] (by kernel_rfl) rfl
 ·rintro _ rfl
  obtain⟨y8,hy9,h⟩:=bind_some h
  refine aa.af tied [⟨(.val ao y8),[],[],[],60⟩] [] [] [Fc Tryz.prog gl 64 [(.val (.slice 32 ao) o1)] (aj (List.replicate 60 none) []) (.ret (.val ao y8)) (aq 60 [])] (by kernel_rfl) ⟨Lr _ _ hy9,trivial⟩ ?_
  refine aa.ret ?_
  obtain rfl:=Option.some.inj h
  exact(au [] [some ao] (cq 59 []) (by kernel_rfl)).1
def mV(a0:cI)(a1:List eu)(u1_0:Int)(u1_1:List eu):Nat→Int→Option Int
 |0,_=>none
 |n2+1,u2_0=>Option.bind (Option.bind (if(decide (u2_0<(List.length a1:Int)))=true then(if 0≤u2_0∧u2_0<(List.length a1:Int) then(Option.bind (f28 ((nth cn a1 u2_0).1)) fun y8=>if 0≤u1_0∧u1_0<(List.length a0.2.2.2.2.1:Int) then(some (!av ao y8 ((((((nth a8 a0.2.2.2.2.1 u1_0).2).2).2).2).1))) else none) else none) else(some false)) fun(o5:Bool)=>if o5=true then(some (.bh ())) else(some (.ret ()))) fun(o4:c6 Unit Unit)=>match o4 with| .bh _v12=>(mV a0 a1 u1_0 u1_1 n2 (aP (u2_0+(1:Int))))| .ret _v13=>(some u2_0)
def mW(a0:cI)(a1:List eu):Nat→Int→(List eu)→Option (c6 (List eu) ((List eu)×Int))
 |0,_,_=>none
 |n1+1,u1_0,u1_1=>if(decide (u1_0<(List.length a0.2.2.2.2.1:Int)))=true then(Option.bind (Option.bind (mV a0 a1 u1_0 u1_1 (bX) (0:Int)) fun(o3:Int)=>if(decide (o3=(List.length a1:Int)))=true then(some (.ret (([]:List eu),(290:Int)))) else(if 0≤o3∧o3<(List.length a1:Int) then(if(List.length u1_1+List.length [nth cn a1 o3])*56≤az then(some (.bh (u1_1++[nth cn a1 o3]))) else none) else none)) fun(o2:c6 (List eu) ((List eu)×Int))=>match o2 with| .bh v17=>(mW a0 a1 n1 (aP (u1_0+(1:Int))) v17)| .ret r18=>(some (.ret r18))) else(some (.bh u1_1))
def f8(a0:cI)(a1:List eu):Option ((List eu)×Int):=
 Option.bind (mW a0 a1 (bX) (0:Int) ([]:List eu)) fun(o1:c6 (List eu) ((List eu)×Int))=>match o1 with| .bh v20=>(some (v20,(0:Int)))| .ret r21=>(some r21)
set_option maxRecDepth 100000 in
theorem x8(
 a0:cI) (a1:List eu) (r:(List eu)×Int) (h:f8 a0 a1=some r):Fc Tryz.prog gl 8 [(.val aI a0),(.val (.slice 56 cn) a1)] (aj (List.replicate 90 none) []) (.ret (.c8 (.cons (.val (.slice 56 cn) r.1) (.cons (.val (.int .i64) r.2) .nil)))) (aq 90 []):=by
 refine Fc.of Tryz.call8 (bz.aD tied Tryz.func8 rfl rfl (σ0:=ar 50 90 [(0,(.val aI a0)),(1,(.val (.slice 56 cn) a1))] []) (by kernel_rfl) ?_)
 unfold f8 at h
 refine aa.af tied [] [] [] [] (by kernel_rfl) trivial ?_
 refine aa.af tied [] [] [] [] (by kernel_rfl) trivial ?_
 obtain⟨o1,h1,h⟩:=bind_some h
 refine aa.ba (fun σ'=>∃v20,o1= .bh v20∧σ'=ar 50 90 [(6,(.own 67))] [(67,some (.row 77 56 cn v20))]) ?_ ?_
 ·refine aa.af tied [] [] [] [] (by kernel_rfl) trivial ?_
  refine aa.block ?_
  refine aa.aB (fun n σ=>∃(u1_0:Int)(u1_1:List eu),mW a0 a1 n u1_0 u1_1=some o1∧σ=ar 50 90 [(1,(.val (.slice 56 cn) a1)),(2,(.ptr 18 [])),(6,(.own 66)),(7,(.val (.int .i64) u1_0))] [(18,some (.var aI (.val aI a0))),(66,some (.row 77 56 cn u1_1))]) [.an [1,2,6,7] [18,25],.iN 25 66] (by kernel_rfl) ⟨_,_,h1,rfl⟩ ?_
  rintro n1 _ ⟨u1_0,u1_1,h22,rfl⟩
  cases n1 with
  |zero=>exact absurd h22 (by simp[mW])
  |
   succ n1=>
   unfold mW at h22
   refine aa.seq ?_
   refine aa.af tied [] [] [] [] (by kernel_rfl) trivial ?_
   rcases ae h22 with⟨hc19,h22⟩|⟨hc19,h22⟩
   ·refine aa.aE (b:=decide (u1_0<(List.length a0.2.2.2.2.1:Int))) (by kernel_rfl) hc19 ?_
    refine aa.skip ?_
    change aa _ _ _ _ _
    obtain⟨o2,h23,h22⟩:=bind_some h22
    refine aa.ba (fun σ'=>∃v17,o2= .bh v17∧σ'=ar 50 90 [(1,(.val (.slice 56 cn) a1)),(2,(.ptr 18 [])),(6,(.own 64)),(7,(.val (.int .i64) u1_0))] [(18,some (.var aI (.val aI a0))),(64,some (.row 77 56 cn v17))]) ?_ ?_
    ·refine aa.block ?_
     refine aa.af tied [] [] [] [] (by kernel_rfl) trivial ?_
     obtain⟨o3,h33,h23⟩:=bind_some h23
     refine aa.ba (fun σ'=>σ'=ar 50 90 [(1,(.val (.slice 56 cn) a1)),(2,(.ptr 18 [])),(6,(.own 66)),(7,(.val (.int .i64) u1_0)),(8,(.val (.int .i64) o3))] [(18,some (.var aI (.val aI a0))),(66,some (.row 77 56 cn u1_1))]) ?_ ?_
     ·refine aa.block ?_
      refine aa.aB (fun n σ=>∃(u2_0:Int),mV a0 a1 u1_0 u1_1 n u2_0=some o3∧σ=ar 50 90 [(1,(.val (.slice 56 cn) a1)),(2,(.ptr 18 [])),(6,(.own 66)),(7,(.val (.int .i64) u1_0)),(8,(.val (.int .i64) u2_0))] [(18,some (.var aI (.val aI a0))),(66,some (.row 77 56 cn u1_1))]) [.an [1,2,6,7,8] [18,66]] (by kernel_rfl) ⟨_,h33,rfl⟩ ?_
      rintro n2 _ ⟨u2_0,h38,rfl⟩
      cases n2 with
      |zero=>exact absurd h38 (by simp[mV])
      |
       succ n2=>
       unfold mV at h38
       obtain⟨o4,h39,h38⟩:=bind_some h38
       refine aa.Iw (fun σ'=>∃v12,o4= .bh v12∧σ'=ar 50 90 [(1,(.val (.slice 56 cn) a1)),(2,(.ptr 18 [])),(6,(.own 66)),(7,(.val (.int .i64) u1_0)),(8,(.val (.int .i64) u2_0))] [(18,some (.var aI (.val aI a0))),(66,some (.row 77 56 cn u1_1))]) (fun i σ'=>(i=2∧∃v13,o4= .ret v13∧σ'=ar 50 90 [(1,(.val (.slice 56 cn) a1)),(2,(.ptr 18 [])),(6,(.own 66)),(7,(.val (.int .i64) u1_0)),(8,(.val (.int .i64) u2_0))] [(18,some (.var aI (.val aI a0))),(66,some (.row 77 56 cn u1_1))])) (Cl.loop (Cl.bL (Cl.j (Cl.bL (Cl.j (Cl.loop (Cl.bL (Cl.j Cl.f)))))))) ?_ ?_ ?_
       ·obtain⟨o5,h41,h39⟩:=bind_some h39
        refine aa.ba (fun σ'=>σ'=ar 50 90 [(1,(.val (.slice 56 cn) a1)),(2,(.ptr 18 [])),(6,(.own 66)),(7,(.val (.int .i64) u1_0)),(8,(.val (.int .i64) u2_0)),(35,(.val .bool o5))] [(18,some (.var aI (.val aI a0))),(66,some (.row 77 56 cn u1_1))]) ?_ ?_
        ·rcases ae h41 with⟨hg6,h41⟩|⟨hg6,h41⟩
         ·obtain⟨hv7,h41⟩:=ah h41
          obtain⟨y8,hy9,h41⟩:=bind_some h41
          obtain⟨hv10,h41⟩:=ah h41
          refine aa.gk tied [⟨(.val ao y8),[],[],[],59⟩] [true] [] [(decide (u2_0<(List.length a1:Int)))=true,0≤u2_0,u2_0<(List.length a1:Int),Fc Tryz.prog gl 28 [(.val ao ((nth cn a1 u2_0).1))] (aj (List.replicate 59 none) []) (.ret (.val ao y8)) (aq 59 []),0≤u1_0,u1_0<(List.length a0.2.2.2.2.1:Int),bG Tryz.prog G 40 28 ao=true,Tryz.prog.eqGuardType Tryz.prog.depth 28=false] (by kernel_rfl) ⟨hg6,hv7.1,hv7.2,Ls _ _ hy9,hv10.1,hv10.2,bn,bx,trivial⟩ ?_
          obtain rfl:=Option.some.inj h41
          exact jQ.mk [.an [1,2,6,7,8,35] [18,66]] (by kernel_rfl) rfl
         ·refine aa.gk tied [] [false] [] [(decide (u2_0<(List.length a1:Int)))=false] (by kernel_rfl) ⟨hg6,trivial⟩ ?_
          obtain rfl:=Option.some.inj h41
          exact jQ.mk [.an [1,2,6,7,8,35] [18,66]] (by kernel_rfl) rfl
        ·rintro _ rfl
         rcases ae h39 with⟨hc11,h39⟩|⟨hc11,h39⟩
         ·refine aa.aE (b:=o5) (by kernel_rfl) hc11 ?_
          refine aa.skip ?_
          obtain rfl:=Option.some.inj h39
          exact EC.mk [.an [1,2,6,7,8] [18,66]] (by kernel_rfl) ⟨_,rfl,rfl⟩
         ·refine aa.aF (b:=o5) (by kernel_rfl) hc11 ?_
          refine aa.exit ?_
          obtain rfl:=Option.some.inj h39
          exact EC.ex [.an [1,2,6,7,8] [18,66]] (by kernel_rfl) ⟨rfl,_,rfl,rfl⟩
       ·rintro _ _ ⟨rfl,v13,rfl,rfl⟩
        ·dsimp only at h38
         refine lE ?_
         refine bE ?_
         obtain rfl:=Option.some.inj h38
         exact jQ.mk [.an [1,2,6,7,8] [18,66]] (by kernel_rfl) rfl
       ·rintro _ ⟨v12,rfl,rfl⟩
        dsimp only at h38
        refine aa.block ?_
        refine aa.br tied [] [] [] [] (by kernel_rfl) trivial ?_
        refine bN ?_
        exact aB.mk [.an [1,2,6,7,8] [18,66]] (by kernel_rfl) ⟨_,h38,rfl⟩
     ·rintro _ rfl
      refine aa.seq ?_
      refine aa.af tied [] [] [] [] (by kernel_rfl) trivial ?_
      rcases ae h23 with⟨hc16,h23⟩|⟨hc16,h23⟩
      ·refine aa.aE (b:=decide (o3=(List.length a1:Int))) (by kernel_rfl) hc16 ?_
       refine aa.af tied [] [] [] [] (by kernel_rfl) trivial ?_
       refine aa.ret ?_
       obtain rfl:=Option.some.inj h23
       dsimp only at h22
       obtain rfl:=Option.some.inj h22
       dsimp only at h
       obtain rfl:=Option.some.inj h
       exact(au [] [some (.slice 56 cn),some (.int .i64)] (cq 90 []) (by kernel_rfl)).1
      ·refine aa.aF (b:=decide (o3=(List.length a1:Int))) (by kernel_rfl) hc16 ?_
       refine aa.skip ?_
       change aa _ _ _ _ _
       obtain⟨hv14,h23⟩:=ah h23
       obtain⟨hv15,h23⟩:=ah h23
       refine aa.br tied [] [] [] [0≤o3,o3<(List.length a1:Int),(List.length u1_1+List.length [nth cn a1 o3])*56≤az] (by kernel_rfl) ⟨hv14.1,hv14.2,hv15,trivial⟩ ?_
       refine bN ?_
       obtain rfl:=Option.some.inj h23
       exact jQ.mk [.an [1,2,6,7] [18,64]] (by kernel_rfl) ⟨_,rfl,rfl⟩
    ·rintro _ ⟨v17,rfl,rfl⟩
     dsimp only at h22
     refine aa.br tied [] [] [] [] (by kernel_rfl) trivial ?_
     exact aB.mk [.an [1,2,6,7] [18,64],.iN 64 66] (by kernel_rfl) ⟨_,_,h22,rfl⟩
   ·refine aa.aF (b:=decide (u1_0<(List.length a0.2.2.2.2.1:Int))) (by kernel_rfl) hc19 ?_
    refine aa.exit ?_
    refine tE ?_
    refine lE ?_
    refine bE ?_
    obtain rfl:=Option.some.inj h22
    exact jQ.mk [.an [6] [66],.iN 66 67] (by kernel_rfl) ⟨_,rfl,rfl⟩
 ·rintro _ ⟨v20,rfl,rfl⟩
  dsimp only at h
  refine aa.af tied [] [] [] [] (by kernel_rfl) trivial ?_
  refine aa.ret ?_
  obtain rfl:=Option.some.inj h
  exact(au [.freeze 67 (.slice 56 cn)] [some (.slice 56 cn),some (.int .i64)] (cq 90 []) (by kernel_rfl)).1
end Go.Proofs.YtjabllhapfphoaaGreatDoor
