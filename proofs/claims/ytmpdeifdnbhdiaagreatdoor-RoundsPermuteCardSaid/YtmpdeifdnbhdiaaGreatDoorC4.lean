/- RoundsPermute: for every input the law returns true, and the input reads as it did. -/
import Derived.Test.YtmpdeifdnbhdiaaGreatDoorVB
import Derived.Test.YtmpdeifdnbhdiaaGreatDoorK4
import Derived.Test.YtmpdeifdnbhdiaaGreatDoorCards
import Derived.Test.YtmpdeifdnbhdiaaGreatDoorTie
import Derived.Test.YtmpdeifdnbhdiaaGreatDoorA5
import Derived.WalkKit
import Derived.ProofKit
import Derived.Deep.DeepHandedRow
import Derived.Lib.LaidTab
import Derived.SevenTiedAt
namespace Go.Proofs.YtmpdeifdnbhdiaaGreatDoor
open Go.Abs
open Go.ChangeShapes Go.WideShapes Go.ChangeAt Go.RowKit
theorem EJ:ownKnob Tryz.prog.godebug=none:=by kernel_rfl
theorem Gr{W:World}(h0:laidMetH Tryz.prog Rows.roundsPermuteRow.laid W):qK gl (dO W) W:=by
 have h:laidMet Tryz.prog Rows.roundsPermuteRow.laid W:=h0
 refine⟨?_,trivial⟩
 intro x hx
 simp only[gl,Ctx.of,List.mem_cons,List.not_mem_nil,or_false] at hx
 rcases hx with rfl
 ·exact BA h (i:=0) (name:= "testamur/digest.constants") (k:=.u32) (zs:=gF) (by kernel_rfl) (g:=0) (t:=222) (by kernel_rfl) (by kernel_rfl) Tryz.underlying222 Tryz.underlying160 (by kernel_rfl) (by kernel_rfl) (by decide) (by decide+kernel) (by decide+kernel)
set_option maxRecDepth 100000 in
theorem uj(H:Type)(enc:TypeId×Value→H)(W:World)(base:Nat)(args:Array Value)(ds gs:List (DataW H))(before:List MemPlace)
 (hval:∀(j:Nat) t v,Tryz.f4.params[j]? =some t→args[j]? =some v→Value.okWide Tryz.prog W .any base t v)
 (hW:DataW.Whole enc Tryz.prog Tryz.f4.params.toList Rows.roundsPermuteSpec.vars false W args.toList ds gs before) (hwt:(DataW.weightsEach Tryz.prog (Tryz.f4.params.toList++[]) (ds++gs)).all (·≤reachBytes)=true) (hL:laidMetH Tryz.prog Rows.roundsPermuteRow.laid W):
 Calls Tryz.prog 4 args W fun e W'=>∃v,e= .returned v∧Rows.roundsPermuteSpec.post enc Tryz.prog Tryz.f4 false true false false W args v W':=by
 have hW0:=hW
 obtain⟨p,q,hA,hV,_,_,_⟩:=hW
 have hgs:gs= []:=by
  cases gs with
  |nil=>rfl
  |cons _ _=>exact hV.elim
 subst hgs
 have hpar:Tryz.f4.params.toList= [23,3]:=by rw[Tryz.params4]
 have hwt':∀n∈DataW.weightsEach Tryz.prog [23,3] ds,n≤aO:=by
  rw[hpar,List.append_nil,List.append_nil,List.all_eq_true] at hwt
  intro n hn
  have:=of_decide_eq_true (hwt n hn)
  exact Nat.le_trans this (by decide)
 rw[hpar] at hA
 rw[Tryz.params4] at hval
 obtain⟨v0,vs0,d0,ds0,p0,q0,ha0,hd0,_,t0,r0⟩:=trodAll_cons hA
 obtain⟨v1,vs1,d1,ds1,p1,q1,ha1,hd1,_,t1,r1⟩:=trodAll_cons r0
 obtain⟨hz1,hz2,_⟩:=trodAll_nil r1
 have hds:ds= [d0,d1]:=by rw[hd0,hd1,hz2]
 have hargs:args.toList= [v0,v1]:=by rw[ha0,ha1,hz1]
 have hargs':args= #[v0,v1]:=by apply Array.ext';rw[hargs]
 subst hds
 simp only[DataW.weightsEach,List.mem_append,List.append_nil] at hwt'
 obtain⟨ax0,h0,af0⟩:=yh tied (td:=⟨aC,5,1⟩) (by kernel_rfl) (by kernel_rfl) (hval 0 23 v0 rfl (by rw[hargs'];rfl)) t0 (fun n hn=>hwt' n (Or.inl hn))
 obtain⟨ax1,h1,af1⟩:=yh tied (td:=⟨(.int .i64),0,0⟩) (by kernel_rfl) (by kernel_rfl) (hval 1 3 v1 rfl (by rw[hargs'];rfl)) t1 (fun n hn=>hwt' n (Or.inr (hn)))
 have hx:=x4 ax0 ax1 true (KH ax0 ax1 af0 af1)
 refine Bx tied (fn:=Tryz.f4) (bt:=4) hx (by rw[hargs];exact⟨h0,h1,trivial⟩) (Gr hL) hW0 rfl ?_ rfl Tryz.underlying4 ?_
 ·intro t ht
  rw[hpar] at ht
  simp only[List.mem_cons,List.not_mem_nil,or_false] at ht
  rcases ht with rfl|rfl
  ·exact⟨⟨aC,5,1⟩,by kernel_rfl,by kernel_rfl⟩
  ·exact⟨⟨(.int .i64),0,0⟩,by kernel_rfl,by kernel_rfl⟩
 ·intro gs hgs
  subst hgs
  exact⟨rfl,rfl,rfl⟩
noncomputable def jc(os:Os):World:=
 {World.holding Tryz.prog os ⟨#[], #[],[]⟩ with heap:=((World.holding Tryz.prog os ⟨#[], #[],[]⟩).heap.modify 0 fun| .cells _ t fz=>.cells (([1116352408,1899447441,3049323471,3921009573,961987163,1508970993,2453635748,2870763221,3624381080,310598401,607225278,1426881987,1925078388,2162078206,2614888103,3248222580,3835390401,4022224774,264347078,604807628,770255983,1249150122,1555081692,1996064986,2554220882,2821834349,2952996808,3210313671,3336571891,3584528711,113926993,338241895,666307205,773529912,1294757372,1396182291,1695183700,1986661051,2177026350,2456956037,2730485921,2820302411,3259730800,3345764771,3516065817,3600352804,4094571909,275423344,430227734,506948616,659060556,883997877,958139571,1322822218,1537002063,1747873779,1955562222,2024104815,2227730452,2361852424,2428436474,2756734187,3204031479,3329325298]:List Int).map (Value.int .u32)).toArray t fz|o=>o)}
theorem uk(os:Os):laidMet Tryz.prog Rows.roundsPermuteRow.laid ((jc os).forCall (fun _ _=>0) ⟨#[], #[.agg #[.int .u8 0,.int .u8 0,.int .u8 0,.int .u8 0,.int .u8 0,.int .u8 0,.int .u8 0,.int .u8 0,.int .u8 0,.int .u8 0,.int .u8 0,.int .u8 0,.int .u8 0,.int .u8 0,.int .u8 0,.int .u8 0,.int .u8 0,.int .u8 0,.int .u8 0,.int .u8 0,.int .u8 0,.int .u8 0,.int .u8 0,.int .u8 0,.int .u8 0,.int .u8 0,.int .u8 0,.int .u8 0,.int .u8 0,.int .u8 0,.int .u8 0,.int .u8 0],.int .i64 0],[]⟩).memory:=
 laidMet_of_run' 8 (by kernel_rfl) (by kernel_rfl)
theorem Ao(os:Os){H:Type}(enc:TypeId×Value→H):∃places,DataW.whole enc Tryz.prog ((jc os).forCall (fun _ _=>0) ⟨#[], #[.agg #[.int .u8 0,.int .u8 0,.int .u8 0,.int .u8 0,.int .u8 0,.int .u8 0,.int .u8 0,.int .u8 0,.int .u8 0,.int .u8 0,.int .u8 0,.int .u8 0,.int .u8 0,.int .u8 0,.int .u8 0,.int .u8 0,.int .u8 0,.int .u8 0,.int .u8 0,.int .u8 0,.int .u8 0,.int .u8 0,.int .u8 0,.int .u8 0,.int .u8 0,.int .u8 0,.int .u8 0,.int .u8 0,.int .u8 0,.int .u8 0,.int .u8 0,.int .u8 0],.int .i64 0],[]⟩).memory Tryz.f4.params.toList Rows.roundsPermuteSpec.vars false (#[.agg #[.int .u8 0,.int .u8 0,.int .u8 0,.int .u8 0,.int .u8 0,.int .u8 0,.int .u8 0,.int .u8 0,.int .u8 0,.int .u8 0,.int .u8 0,.int .u8 0,.int .u8 0,.int .u8 0,.int .u8 0,.int .u8 0,.int .u8 0,.int .u8 0,.int .u8 0,.int .u8 0,.int .u8 0,.int .u8 0,.int .u8 0,.int .u8 0,.int .u8 0,.int .u8 0,.int .u8 0,.int .u8 0,.int .u8 0,.int .u8 0,.int .u8 0,.int .u8 0],.int .i64 0]:Array Value).toList 8=some ([.agg [.lit (.int .u8 0),.lit (.int .u8 0),.lit (.int .u8 0),.lit (.int .u8 0),.lit (.int .u8 0),.lit (.int .u8 0),.lit (.int .u8 0),.lit (.int .u8 0),.lit (.int .u8 0),.lit (.int .u8 0),.lit (.int .u8 0),.lit (.int .u8 0),.lit (.int .u8 0),.lit (.int .u8 0),.lit (.int .u8 0),.lit (.int .u8 0),.lit (.int .u8 0),.lit (.int .u8 0),.lit (.int .u8 0),.lit (.int .u8 0),.lit (.int .u8 0),.lit (.int .u8 0),.lit (.int .u8 0),.lit (.int .u8 0),.lit (.int .u8 0),.lit (.int .u8 0),.lit (.int .u8 0),.lit (.int .u8 0),.lit (.int .u8 0),.lit (.int .u8 0),.lit (.int .u8 0),.lit (.int .u8 0)],.lit (.int .i64 0)],[],places):=
 ⟨[],by kernel_rfl⟩
set_option maxRecDepth 100000 in
theorem yT(os:Os)(started:os.Started)(H:Type)(enc:TypeId×Value→H)(F:Stop.Interp):
 ReturnsInHanded {} Tryz.checked os 4 .any ((OpenSpec.ofChange Rows.roundsPermuteSpec).preRow enc Tryz.prog Tryz.f4 Rows.roundsPermuteRow.domain false Rows.roundsPermuteRow.laid) (((OpenSpec.ofChange Rows.roundsPermuteSpec).at F).post enc Tryz.prog Tryz.f4 false true false false):=by
 obtain⟨places,hx⟩:=Ao os enc
 refine returnsInHanded_of_row (C:=Tryz.checked) (s:=OpenSpec.ofChange Rows.roundsPermuteSpec) EJ started (by kernel_rfl) Tryz.func4
  (witness_row_at (enc:=enc) (C:=Tryz.checked) false (jc os) #[.agg #[.int .u8 0,.int .u8 0,.int .u8 0,.int .u8 0,.int .u8 0,.int .u8 0,.int .u8 0,.int .u8 0,.int .u8 0,.int .u8 0,.int .u8 0,.int .u8 0,.int .u8 0,.int .u8 0,.int .u8 0,.int .u8 0,.int .u8 0,.int .u8 0,.int .u8 0,.int .u8 0,.int .u8 0,.int .u8 0,.int .u8 0,.int .u8 0,.int .u8 0,.int .u8 0,.int .u8 0,.int .u8 0,.int .u8 0,.int .u8 0,.int .u8 0,.int .u8 0],.int .i64 0] rfl (by kernel_rfl) (by kernel_rfl) (by kernel_rfl)
   (OpenSpec.preRow_of_cond 8 hx (by kernel_rfl) (fun k hk=>by cases hk) (by kernel_rfl) (uk os))) ?_
 intro W base args ds gs before hval hW _ _ hwt hL _ _
 exact uj H enc W base args ds gs before hval hW hwt hL
theorem Cz:Rows.RoundsPermuteSaid:=
 OpenClaim.holds_of_cond 4 Tryz.f4 rfl rfl rfl rfl rfl rfl rfl ⟨rfl,rfl,rfl,rfl,rfl⟩ rfl rfl rfl rfl rfl (by kernel_rfl) Tryz.func4 FG
  (of_decide_eq_true (by kernel_rfl)) (by unfold Func.isWrapper;first|(rw[if_pos (by decide+kernel)];kernel_rfl)|(rw[if_neg (by decide+kernel)];exact⟨rfl,rfl⟩))
  (fun os started H enc _ F=>by rw[OpenClaim.pre_eq_preRow];exact yT os started H enc F)
theorem Ap(f:FuncId)(fn:Func)(hf:Tryz.pinned.checked.prog.funcNamed "testamur/testamurlaw20.RoundsPermute" =some f)(hfn:Tryz.pinned.checked.prog.funcs[f]? =some fn):
 true=Tryz.pinned.checked.prog.looks []∧∀(j:Nat) t,fn.params[j]? =some t→Tryz.pinned.checked.prog.wantsStandIn t=false:=by
 obtain rfl:f=4:=Option.some.inj ((show Tryz.prog.funcNamed "testamur/testamurlaw20.RoundsPermute" =some 4 by kernel_rfl).symm.trans hf) |>.symm
 obtain rfl:fn=Tryz.f4:=(Option.some.inj (Tryz.func4.symm.trans hfn)).symm
 refine⟨by kernel_rfl,fun j t ht=>?_⟩
 rw[Tryz.params4] at ht
 have hm:=Array.mem_of_getElem? ht
 simp only[List.mem_toArray,List.mem_cons,List.not_mem_nil,or_false] at hm
 rcases hm with rfl|rfl
 ·exact(show Tryz.prog.wantsStandIn 23=false by kernel_rfl)
 ·exact(show Tryz.prog.wantsStandIn 3=false by kernel_rfl)
theorem c4_card:Rows.RoundsPermuteCardSaid:=
 Claim7.holds_tied_plain_at .later [] _ _ _ _ Cz (fun _ h=>by cases h) (by kernel_rfl) (fun _ h=>by cases h) roundsPermute_row_tie rfl ⟨rfl,rfl⟩ (by kernel_rfl) rfl Ap (by kernel_rfl)
end Go.Proofs.YtmpdeifdnbhdiaaGreatDoor
