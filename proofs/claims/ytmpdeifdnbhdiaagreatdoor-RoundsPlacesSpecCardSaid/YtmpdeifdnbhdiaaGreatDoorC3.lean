/- RoundsPlacesSpec: for every input the law returns true, and the input reads as it did. -/
import Derived.Test.YtmpdeifdnbhdiaaGreatDoorVF
import Derived.Test.YtmpdeifdnbhdiaaGreatDoorK3
import Derived.Test.YtmpdeifdnbhdiaaGreatDoorCards
import Derived.Test.YtmpdeifdnbhdiaaGreatDoorTie
import Derived.Test.YtmpdeifdnbhdiaaGreatDoorA5
import Derived.WalkKit
import Derived.ProofKit
import Derived.Deep.DeepHandedRow
import Derived.Lib.LaidTab
import Derived.SevenTiedAt
namespace Go.Proofs.YtmpdeifdnbhdiaaGreatDoor
open Go.Abs
open Go.ChangeShapes Go.WideShapes Go.ChangeAt Go.RowKit
theorem I3:ownKnob Tryz.prog.godebug=none:=by kernel_rfl
theorem KD{W:World}(h0:laidMetH Tryz.prog Rows.roundsPlacesSpecRow.laid W):rZ gl (er W) W:=by
 have h:laidMet Tryz.prog Rows.roundsPlacesSpecRow.laid W:=h0
 refine⟨?_,trivial⟩
 intro x hx
 simp only[gl,Ctx.of,List.mem_cons,List.not_mem_nil,or_false] at hx
 rcases hx with rfl
 ·exact Di h (i:=0) (name:= "testamur/digest.constants") (k:=.u32) (zs:=gV) (by kernel_rfl) (g:=0) (t:=222) (by kernel_rfl) (by kernel_rfl) Tryz.underlying222 Tryz.underlying160 (by kernel_rfl) (by kernel_rfl) (by decide) (by decide+kernel) (by decide+kernel)
set_option maxRecDepth 100000 in
theorem vW(H:Type)(enc:TypeId×Value→H)(W:World)(base:Nat)(args:Array Value)(ds gs:List (DataW H))(before:List MemPlace)
 (hval:∀(j:Nat) t v,Tryz.f3.params[j]? =some t→args[j]? =some v→Value.okWide Tryz.prog W .any base t v)
 (hW:DataW.Whole enc Tryz.prog Tryz.f3.params.toList Rows.roundsPlacesSpecSpec.vars false W args.toList ds gs before) (hwt:(DataW.weightsEach Tryz.prog (Tryz.f3.params.toList++[]) (ds++gs)).all (·≤reachBytes)=true) (hL:laidMetH Tryz.prog Rows.roundsPlacesSpecRow.laid W):
 Calls Tryz.prog 3 args W fun e W'=>∃v,e= .returned v∧Rows.roundsPlacesSpecSpec.post enc Tryz.prog Tryz.f3 false true false false W args v W':=by
 have hW0:=hW
 obtain⟨p,q,hA,hV,_,_,_⟩:=hW
 have hgs:gs= []:=by
  cases gs with
  |nil=>rfl
  |cons _ _=>exact hV.elim
 subst hgs
 have hpar:Tryz.f3.params.toList= [23,3,24,3,3]:=by rw[Tryz.params3]
 have hwt':∀n∈DataW.weightsEach Tryz.prog [23,3,24,3,3] ds,n≤az:=by
  rw[hpar,List.append_nil,List.append_nil,List.all_eq_true] at hwt
  intro n hn
  have:=of_decide_eq_true (hwt n hn)
  exact Nat.le_trans this (by decide)
 rw[hpar] at hA
 rw[Tryz.params3] at hval
 obtain⟨v0,vs0,d0,ds0,p0,q0,ha0,hd0,_,t0,r0⟩:=trodAll_cons hA
 obtain⟨v1,vs1,d1,ds1,p1,q1,ha1,hd1,_,t1,r1⟩:=trodAll_cons r0
 obtain⟨v2,vs2,d2,ds2,p2,q2,ha2,hd2,_,t2,r2⟩:=trodAll_cons r1
 obtain⟨v3,vs3,d3,ds3,p3,q3,ha3,hd3,_,t3,r3⟩:=trodAll_cons r2
 obtain⟨v4,vs4,d4,ds4,p4,q4,ha4,hd4,_,t4,r4⟩:=trodAll_cons r3
 obtain⟨hz1,hz2,_⟩:=trodAll_nil r4
 have hds:ds= [d0,d1,d2,d3,d4]:=by rw[hd0,hd1,hd2,hd3,hd4,hz2]
 have hargs:args.toList= [v0,v1,v2,v3,v4]:=by rw[ha0,ha1,ha2,ha3,ha4,hz1]
 have hargs':args= #[v0,v1,v2,v3,v4]:=by apply Array.ext';rw[hargs]
 subst hds
 simp only[DataW.weightsEach,List.mem_append,List.append_nil] at hwt'
 obtain⟨ax0,h0,af0⟩:=mM tied (td:=⟨aD,5,1⟩) (by kernel_rfl) (by kernel_rfl) (hval 0 23 v0 rfl (by rw[hargs'];rfl)) t0 (fun n hn=>hwt' n (Or.inl hn))
 obtain⟨ax1,h1,af1⟩:=mM tied (td:=⟨(.int .i64),0,0⟩) (by kernel_rfl) (by kernel_rfl) (hval 1 3 v1 rfl (by rw[hargs'];rfl)) t1 (fun n hn=>hwt' n (Or.inr (Or.inl hn)))
 obtain⟨ax2,h2,af2⟩:=mM tied (td:=⟨(.slice 72 aY),41,0⟩) (by kernel_rfl) (by kernel_rfl) (hval 2 24 v2 rfl (by rw[hargs'];rfl)) t2 (fun n hn=>hwt' n (Or.inr (Or.inr (Or.inl hn))))
 obtain⟨ax3,h3,af3⟩:=mM tied (td:=⟨(.int .i64),0,0⟩) (by kernel_rfl) (by kernel_rfl) (hval 3 3 v3 rfl (by rw[hargs'];rfl)) t3 (fun n hn=>hwt' n (Or.inr (Or.inr (Or.inr (Or.inl hn)))))
 obtain⟨ax4,h4,af4⟩:=mM tied (td:=⟨(.int .i64),0,0⟩) (by kernel_rfl) (by kernel_rfl) (hval 4 3 v4 rfl (by rw[hargs'];rfl)) t4 (fun n hn=>hwt' n (Or.inr (Or.inr (Or.inr (Or.inr (hn))))))
 have hx:=x3 ax0 ax1 ax2 ax3 ax4 true (Q5 ax0 ax1 ax2 ax3 ax4 af0 af1 af2 af3 af4)
 refine De tied (fn:=Tryz.f3) (bt:=4) hx (by rw[hargs];exact⟨h0,h1,h2,h3,h4,trivial⟩) (KD hL) hW0 rfl ?_ rfl Tryz.underlying4 ?_
 ·intro t ht
  rw[hpar] at ht
  simp only[List.mem_cons,List.not_mem_nil,or_false] at ht
  rcases ht with rfl|rfl|rfl|rfl|rfl
  ·exact⟨⟨aD,5,1⟩,by kernel_rfl,by kernel_rfl⟩
  ·exact⟨⟨(.int .i64),0,0⟩,by kernel_rfl,by kernel_rfl⟩
  ·exact⟨⟨(.slice 72 aY),41,0⟩,by kernel_rfl,by kernel_rfl⟩
  ·exact⟨⟨(.int .i64),0,0⟩,by kernel_rfl,by kernel_rfl⟩
  ·exact⟨⟨(.int .i64),0,0⟩,by kernel_rfl,by kernel_rfl⟩
 ·intro gs hgs
  subst hgs
  exact⟨rfl,rfl,rfl⟩
noncomputable def jw(os:Os):World:=
 {World.holding Tryz.prog os ⟨#[], #[],[]⟩ with heap:=((World.holding Tryz.prog os ⟨#[], #[],[]⟩).heap.modify 0 fun| .cells _ t fz=>.cells (([1116352408,1899447441,3049323471,3921009573,961987163,1508970993,2453635748,2870763221,3624381080,310598401,607225278,1426881987,1925078388,2162078206,2614888103,3248222580,3835390401,4022224774,264347078,604807628,770255983,1249150122,1555081692,1996064986,2554220882,2821834349,2952996808,3210313671,3336571891,3584528711,113926993,338241895,666307205,773529912,1294757372,1396182291,1695183700,1986661051,2177026350,2456956037,2730485921,2820302411,3259730800,3345764771,3516065817,3600352804,4094571909,275423344,430227734,506948616,659060556,883997877,958139571,1322822218,1537002063,1747873779,1955562222,2024104815,2227730452,2361852424,2428436474,2756734187,3204031479,3329325298]:List Int).map (Value.int .u32)).toArray t fz|o=>o)}
theorem vX(os:Os):laidMet Tryz.prog Rows.roundsPlacesSpecRow.laid ((jw os).forCall (fun _ _=>0) ⟨#[], #[.agg #[.int .u8 0,.int .u8 0,.int .u8 0,.int .u8 0,.int .u8 0,.int .u8 0,.int .u8 0,.int .u8 0,.int .u8 0,.int .u8 0,.int .u8 0,.int .u8 0,.int .u8 0,.int .u8 0,.int .u8 0,.int .u8 0,.int .u8 0,.int .u8 0,.int .u8 0,.int .u8 0,.int .u8 0,.int .u8 0,.int .u8 0,.int .u8 0,.int .u8 0,.int .u8 0,.int .u8 0,.int .u8 0,.int .u8 0,.int .u8 0,.int .u8 0,.int .u8 0],.int .i64 0,.slice none 0 0,.int .i64 0,.int .i64 0],[]⟩).memory:=
 laidMet_of_run' 8 (by kernel_rfl) (by kernel_rfl)
theorem BS(os:Os){H:Type}(enc:TypeId×Value→H):∃places,DataW.whole enc Tryz.prog ((jw os).forCall (fun _ _=>0) ⟨#[], #[.agg #[.int .u8 0,.int .u8 0,.int .u8 0,.int .u8 0,.int .u8 0,.int .u8 0,.int .u8 0,.int .u8 0,.int .u8 0,.int .u8 0,.int .u8 0,.int .u8 0,.int .u8 0,.int .u8 0,.int .u8 0,.int .u8 0,.int .u8 0,.int .u8 0,.int .u8 0,.int .u8 0,.int .u8 0,.int .u8 0,.int .u8 0,.int .u8 0,.int .u8 0,.int .u8 0,.int .u8 0,.int .u8 0,.int .u8 0,.int .u8 0,.int .u8 0,.int .u8 0],.int .i64 0,.slice none 0 0,.int .i64 0,.int .i64 0],[]⟩).memory Tryz.f3.params.toList Rows.roundsPlacesSpecSpec.vars false (#[.agg #[.int .u8 0,.int .u8 0,.int .u8 0,.int .u8 0,.int .u8 0,.int .u8 0,.int .u8 0,.int .u8 0,.int .u8 0,.int .u8 0,.int .u8 0,.int .u8 0,.int .u8 0,.int .u8 0,.int .u8 0,.int .u8 0,.int .u8 0,.int .u8 0,.int .u8 0,.int .u8 0,.int .u8 0,.int .u8 0,.int .u8 0,.int .u8 0,.int .u8 0,.int .u8 0,.int .u8 0,.int .u8 0,.int .u8 0,.int .u8 0,.int .u8 0,.int .u8 0],.int .i64 0,.slice none 0 0,.int .i64 0,.int .i64 0]:Array Value).toList 8=some ([.agg [.lit (.int .u8 0),.lit (.int .u8 0),.lit (.int .u8 0),.lit (.int .u8 0),.lit (.int .u8 0),.lit (.int .u8 0),.lit (.int .u8 0),.lit (.int .u8 0),.lit (.int .u8 0),.lit (.int .u8 0),.lit (.int .u8 0),.lit (.int .u8 0),.lit (.int .u8 0),.lit (.int .u8 0),.lit (.int .u8 0),.lit (.int .u8 0),.lit (.int .u8 0),.lit (.int .u8 0),.lit (.int .u8 0),.lit (.int .u8 0),.lit (.int .u8 0),.lit (.int .u8 0),.lit (.int .u8 0),.lit (.int .u8 0),.lit (.int .u8 0),.lit (.int .u8 0),.lit (.int .u8 0),.lit (.int .u8 0),.lit (.int .u8 0),.lit (.int .u8 0),.lit (.int .u8 0),.lit (.int .u8 0)],.lit (.int .i64 0),.nil,.lit (.int .i64 0),.lit (.int .i64 0)],[],places):=
 ⟨[],by kernel_rfl⟩
set_option maxRecDepth 100000 in
theorem AB(os:Os)(started:os.Started)(H:Type)(enc:TypeId×Value→H)(F:Stop.Interp):
 ReturnsInHanded {} Tryz.checked os 3 .any ((OpenSpec.ofChange Rows.roundsPlacesSpecSpec).preRow enc Tryz.prog Tryz.f3 Rows.roundsPlacesSpecRow.domain false Rows.roundsPlacesSpecRow.laid) (((OpenSpec.ofChange Rows.roundsPlacesSpecSpec).at F).post enc Tryz.prog Tryz.f3 false true false false):=by
 obtain⟨places,hx⟩:=BS os enc
 refine returnsInHanded_of_row (C:=Tryz.checked) (s:=OpenSpec.ofChange Rows.roundsPlacesSpecSpec) I3 started (by kernel_rfl) Tryz.func3
  (witness_row_at (enc:=enc) (C:=Tryz.checked) false (jw os) #[.agg #[.int .u8 0,.int .u8 0,.int .u8 0,.int .u8 0,.int .u8 0,.int .u8 0,.int .u8 0,.int .u8 0,.int .u8 0,.int .u8 0,.int .u8 0,.int .u8 0,.int .u8 0,.int .u8 0,.int .u8 0,.int .u8 0,.int .u8 0,.int .u8 0,.int .u8 0,.int .u8 0,.int .u8 0,.int .u8 0,.int .u8 0,.int .u8 0,.int .u8 0,.int .u8 0,.int .u8 0,.int .u8 0,.int .u8 0,.int .u8 0,.int .u8 0,.int .u8 0],.int .i64 0,.slice none 0 0,.int .i64 0,.int .i64 0] rfl (by kernel_rfl) (by kernel_rfl) (by kernel_rfl)
   (OpenSpec.preRow_of_cond 8 hx (by kernel_rfl) (fun k hk=>by cases hk) (by kernel_rfl) (vX os))) ?_
 intro W base args ds gs before hval hW _ _ hwt hL _ _
 exact vW H enc W base args ds gs before hval hW hwt hL
theorem Eh:Rows.RoundsPlacesSpecSaid:=
 OpenClaim.holds_of_cond 3 Tryz.f3 rfl rfl rfl rfl rfl rfl rfl ⟨rfl,rfl,rfl,rfl,rfl⟩ rfl rfl rfl rfl rfl (by kernel_rfl) Tryz.func3 JQ
  (of_decide_eq_true (by kernel_rfl)) (by unfold Func.isWrapper;first|(rw[if_pos (by decide+kernel)];kernel_rfl)|(rw[if_neg (by decide+kernel)];exact⟨rfl,rfl⟩))
  (fun os started H enc _ F=>by rw[OpenClaim.pre_eq_preRow];exact AB os started H enc F)
theorem BT(f:FuncId)(fn:Func)(hf:Tryz.pinned.checked.prog.funcNamed "testamur/testamurlaw20.RoundsPlacesSpec" =some f)(hfn:Tryz.pinned.checked.prog.funcs[f]? =some fn):
 true=Tryz.pinned.checked.prog.looks []∧∀(j:Nat) t,fn.params[j]? =some t→Tryz.pinned.checked.prog.wantsStandIn t=false:=by
 obtain rfl:f=3:=Option.some.inj ((show Tryz.prog.funcNamed "testamur/testamurlaw20.RoundsPlacesSpec" =some 3 by kernel_rfl).symm.trans hf) |>.symm
 obtain rfl:fn=Tryz.f3:=(Option.some.inj (Tryz.func3.symm.trans hfn)).symm
 refine⟨by kernel_rfl,fun j t ht=>?_⟩
 rw[Tryz.params3] at ht
 have hm:=Array.mem_of_getElem? ht
 simp only[List.mem_toArray,List.mem_cons,List.not_mem_nil,or_false] at hm
 rcases hm with rfl|rfl|rfl|rfl|rfl
 ·exact(show Tryz.prog.wantsStandIn 23=false by kernel_rfl)
 ·exact(show Tryz.prog.wantsStandIn 3=false by kernel_rfl)
 ·exact(show Tryz.prog.wantsStandIn 24=false by kernel_rfl)
 ·exact(show Tryz.prog.wantsStandIn 3=false by kernel_rfl)
 ·exact(show Tryz.prog.wantsStandIn 3=false by kernel_rfl)
theorem c3_card:Rows.RoundsPlacesSpecCardSaid:=
 Claim7.holds_tied_plain_at .later [] _ _ _ _ Eh (fun _ h=>by cases h) (by kernel_rfl) (fun _ h=>by cases h) roundsPlacesSpec_row_tie rfl ⟨rfl,rfl⟩ (by kernel_rfl) rfl BT (by kernel_rfl)
end Go.Proofs.YtmpdeifdnbhdiaaGreatDoor
