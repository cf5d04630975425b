/- DeriveComplete: for every input the law returns true, and the input reads as it did. -/
import Derived.Test.YtkhfnbfpgcjllaaGreatDoorP4
import Derived.Test.YtkhfnbfpgcjllaaGreatDoorK4
import Derived.Test.YtkhfnbfpgcjllaaGreatDoorCards
import Derived.Test.YtkhfnbfpgcjllaaGreatDoorTie
import Derived.Test.YtkhfnbfpgcjllaaGreatDoorA5
import Derived.WalkKit
import Derived.ProofKit
import Derived.Deep.DeepHandedRow
import Derived.Lib.LaidTab
import Derived.SevenTiedAt
namespace Go.Proofs.YtkhfnbfpgcjllaaGreatDoor
open Go.Ax
open Go.ChangeShapes Go.WideShapes Go.ChangeAt Go.RowKit
set_option maxRecDepth 100000 in
theorem x4f(a0:aV)(a1:Int)(a2:Int)(a3:Int)(a4:Int)(a5:Zd)(r:Bool)(h:f4 a0 a1 a2 a3 a4 a5=some r):Fc Tryz.prog gl 4 [.val gH a0,.val (.int .u8) a1,.val (.int .i64) a2,.val (.int .i64) a3,.val (.int .i64) a4,.val (.slice 1 (.int .u8)) a5] (bJ (List.replicate 324 none) []) (.ret (.val .bool r)) (fu 324 []):=
 cast (by kernel_rfl) (x4.ret (a0,a1,a2,a3,a4,a5,()) r h)
theorem Wu:ownKnob Tryz.prog.godebug=none:=by kernel_rfl
theorem aam{W:World}(h0:laidMetH Tryz.prog Rows.deriveCompleteRow.laid W):EU gl (pj W) W:=by
 have h:laidMet Tryz.prog Rows.deriveCompleteRow.laid W:=h0
 refine⟨?_,trivial⟩
 intro x hx
 simp only[gl,Ctx.of,eN,List.not_mem_nil,or_false] at hx
 rcases hx with rfl|rfl|rfl|rfl|rfl
 ·exact ef h (i:=1) (name:= "testamur/syntax.factors") (k:=.i64) (by kernel_rfl) (g:=0) (t:=311) (by kernel_rfl) (by kernel_rfl) Tryz.underlying311 Tryz.underlying3 Tryz.underlying3 (by kernel_rfl) (by kernel_rfl) rfl rfl (by kernel_rfl) (by decide) (by decide)
 ·exact ef h (i:=2) (name:= "testamur/syntax.editions") (k:=.i64) (by kernel_rfl) (g:=1) (t:=311) (by kernel_rfl) (by kernel_rfl) Tryz.underlying311 Tryz.underlying3 Tryz.underlying3 (by kernel_rfl) (by kernel_rfl) rfl rfl (by kernel_rfl) (by decide) (by decide)
 ·exact ef h (i:=4) (name:= "testamur/syntax.mosts") (k:=.i64) (by kernel_rfl) (g:=2) (t:=311) (by kernel_rfl) (by kernel_rfl) Tryz.underlying311 Tryz.underlying3 Tryz.underlying3 (by kernel_rfl) (by kernel_rfl) rfl rfl (by kernel_rfl) (by decide) (by decide)
 ·exact ef h (i:=3) (name:= "testamur/syntax.weights") (k:=.i64) (by kernel_rfl) (g:=3) (t:=311) (by kernel_rfl) (by kernel_rfl) Tryz.underlying311 Tryz.underlying3 Tryz.underlying3 (by kernel_rfl) (by kernel_rfl) rfl rfl (by kernel_rfl) (by decide) (by decide)
 ·exact ef h (i:=0) (name:= "testamur/syntax.anyNumber") (k:=.i64) (by kernel_rfl) (g:=4) (t:=311) (by kernel_rfl) (by kernel_rfl) Tryz.underlying311 Tryz.underlying3 Tryz.underlying3 (by kernel_rfl) (by kernel_rfl) rfl rfl (by kernel_rfl) (by decide) (by decide)
set_option maxRecDepth 100000 in
theorem Fq(H:Type)(enc:TypeId×Value→H)(W:World)(base:Nat)(args:Array Value)(ds gs:List (DataW H))(before:List MemPlace)
 (ape:∀(j:Nat) t v,Tryz.f4.params[j]? =some t→args[j]? =some v→Value.okWide Tryz.prog W .any base t v)
 (hW:DataW.Whole enc Tryz.prog Tryz.f4.params.toList Rows.deriveCompleteSpec.vars false W args.toList ds gs before) (hwt:(DataW.weightsEach Tryz.prog (Tryz.f4.params.toList++[]) (ds++gs)).all (·≤reachBytes)=true) (hL:laidMetH Tryz.prog Rows.deriveCompleteRow.laid W):
 Calls Tryz.prog 4 args W fun e W'=>∃v,e= .returned v∧Rows.deriveCompleteSpec.post enc Tryz.prog Tryz.f4 false true false false W args v W':=by
 have hW0:=hW
 obtain⟨p,q,hA,hV,_,_,_⟩:=hW
 have hgs:gs= []:=by
  cases gs with
  |nil=>rfl
  |cons _ _=>exact hV.elim
 subst hgs
 have hpar:Tryz.f4.params.toList= [35,5,3,3,3,55]:=by rw[Tryz.params4]
 have apr:∀n∈DataW.weightsEach Tryz.prog [35,5,3,3,3,55] ds,n≤aF:=by
  rw[hpar,cw,cw,ng] at hwt
  intro n hn
  have:=bY (hwt n hn)
  exact cW this (by decide)
 rw[hpar] at hA
 rw[Tryz.params4] at ape
 obtain⟨v0,vs0,d0,ds0,p0,q0,ha0,hd0,_,t0,r0⟩:=trodAll_cons hA
 obtain⟨v1,vs1,d1,ds1,p1,q1,ha1,hd1,_,t1,r1⟩:=trodAll_cons r0
 obtain⟨v2,vs2,d2,ds2,p2,q2,ha2,hd2,_,t2,r2⟩:=trodAll_cons r1
 obtain⟨v3,vs3,d3,ds3,p3,q3,ha3,hd3,_,t3,r3⟩:=trodAll_cons r2
 obtain⟨v4,vs4,d4,ds4,p4,q4,ha4,hd4,_,t4,r4⟩:=trodAll_cons r3
 obtain⟨v5,vs5,d5,ds5,p5,q5,ha5,hd5,_,t5,r5⟩:=trodAll_cons r4
 obtain⟨hz1,hz2,_⟩:=trodAll_nil r5
 have hds:ds= [d0,d1,d2,d3,d4,d5]:=by rw[hd0,hd1,hd2,hd3,hd4,hd5,hz2]
 have hargs:args.toList= [v0,v1,v2,v3,v4,v5]:=by rw[ha0,ha1,ha2,ha3,ha4,ha5,hz1]
 have ao6:args= #[v0,v1,v2,v3,v4,v5]:=by apply ni;rw[hargs]
 subst hds
 simp only[DataW.weightsEach,j5,cw] at apr
 obtain⟨ax0,h0,af0⟩:=fV tied (td:=⟨gH,0,0,[]⟩) (by kernel_rfl) (by kernel_rfl) (ape 0 35 v0 rfl (by rw[ao6];rfl)) t0 (fun n hn=>apr n (Or.inl hn))
 obtain⟨ax1,h1,af1⟩:=fV tied (td:=⟨(.int .u8),0,0,[]⟩) (by kernel_rfl) (by kernel_rfl) (ape 1 5 v1 rfl (by rw[ao6];rfl)) t1 (fun n hn=>apr n (Or.inr (Or.inl hn)))
 obtain⟨ax2,h2,af2⟩:=fV tied (td:=⟨(.int .i64),0,0,[]⟩) (by kernel_rfl) (by kernel_rfl) (ape 2 3 v2 rfl (by rw[ao6];rfl)) t2 (fun n hn=>apr n (Or.inr (Or.inr (Or.inl hn))))
 obtain⟨ax3,h3,af3⟩:=fV tied (td:=⟨(.int .i64),0,0,[]⟩) (by kernel_rfl) (by kernel_rfl) (ape 3 3 v3 rfl (by rw[ao6];rfl)) t3 (fun n hn=>apr n (Or.inr (Or.inr (Or.inr (Or.inl hn)))))
 obtain⟨ax4,h4,af4⟩:=fV tied (td:=⟨(.int .i64),0,0,[]⟩) (by kernel_rfl) (by kernel_rfl) (ape 4 3 v4 rfl (by rw[ao6];rfl)) t4 (fun n hn=>apr n (Or.inr (Or.inr (Or.inr (Or.inr (Or.inl hn))))))
 obtain⟨ax5,h5,af5⟩:=fV tied (td:=⟨(.slice 1 (.int .u8)),5,0,[]⟩) (by kernel_rfl) (by kernel_rfl) (ape 5 55 v5 rfl (by rw[ao6];rfl)) t5 (fun n hn=>apr n (Or.inr (Or.inr (Or.inr (Or.inr (Or.inr (hn)))))))
 have hx:=x4f ax0 ax1 ax2 ax3 ax4 ax5 true (pl4 ax0 ax1 ax2 ax3 ax4 ax5 af0 af1 af2 af3 af4 af5)
 refine vX tied (fn:=Tryz.f4) (bt:=4) hx (by rw[hargs];exact⟨h0,h1,h2,h3,h4,h5,trivial⟩) (aam hL) hW0 rfl ?_ rfl Tryz.underlying4 ?_
 ·intro t ht
  rw[hpar] at ht
  simp only[eN,List.not_mem_nil,or_false] at ht
  rcases ht with rfl|rfl|rfl|rfl|rfl|rfl
  ·exact⟨⟨gH,0,0,[]⟩,by kernel_rfl,by kernel_rfl⟩
  ·exact⟨⟨(.int .u8),0,0,[]⟩,by kernel_rfl,by kernel_rfl⟩
  ·exact⟨⟨(.int .i64),0,0,[]⟩,by kernel_rfl,by kernel_rfl⟩
  ·exact⟨⟨(.int .i64),0,0,[]⟩,by kernel_rfl,by kernel_rfl⟩
  ·exact⟨⟨(.int .i64),0,0,[]⟩,by kernel_rfl,by kernel_rfl⟩
  ·exact⟨⟨(.slice 1 (.int .u8)),5,0,[]⟩,by kernel_rfl,by kernel_rfl⟩
 ·intro gs hgs
  subst hgs
  exact⟨rfl,rfl,rfl⟩
noncomputable def qb(os:Os):World:=
 {World.holding Tryz.prog os ⟨#[], #[],[]⟩ with heap:=((((((World.holding Tryz.prog os ⟨#[], #[],[]⟩).heap.modify 4 fun| .cells _ t fz=>.cells (([0,1048576]:Zd).map (Value.int .i64)).toArray t fz|o=>o).modify 0 fun| .cells _ t fz=>.cells (([2,1000]:Zd).map (Value.int .i64)).toArray t fz|o=>o).modify 1 fun| .cells _ t fz=>.cells (([1,255]:Zd).map (Value.int .i64)).toArray t fz|o=>o).modify 3 fun| .cells _ t fz=>.cells (([0,9]:Zd).map (Value.int .i64)).toArray t fz|o=>o).modify 2 fun| .cells _ t fz=>.cells (([0,32]:Zd).map (Value.int .i64)).toArray t fz|o=>o)}
theorem Fs(os:Os):laidMet Tryz.prog Rows.deriveCompleteRow.laid ((qb os).forCall (fun _ _=>0) ⟨#[], #[.agg #[.slice none 0 0,.slice none 0 0,.slice none 0 0,.slice none 0 0,.slice none 0 0,.slice none 0 0,.slice none 0 0,.slice none 0 0],.int .u8 0,.int .i64 0,.int .i64 0,.int .i64 0,.slice none 0 0],[]⟩).memory:=
 laidMet_of_run' 8 (by kernel_rfl) (by kernel_rfl)
theorem Nv(os:Os){H:Type}(enc:TypeId×Value→H):∃places,DataW.whole enc Tryz.prog ((qb os).forCall (fun _ _=>0) ⟨#[], #[.agg #[.slice none 0 0,.slice none 0 0,.slice none 0 0,.slice none 0 0,.slice none 0 0,.slice none 0 0,.slice none 0 0,.slice none 0 0],.int .u8 0,.int .i64 0,.int .i64 0,.int .i64 0,.slice none 0 0],[]⟩).memory Tryz.f4.params.toList Rows.deriveCompleteSpec.vars false (#[.agg #[.slice none 0 0,.slice none 0 0,.slice none 0 0,.slice none 0 0,.slice none 0 0,.slice none 0 0,.slice none 0 0,.slice none 0 0],.int .u8 0,.int .i64 0,.int .i64 0,.int .i64 0,.slice none 0 0]:Array Value).toList 8=some ([.agg [.agg [.agg [.nil,.nil,.nil,.nil,.nil,.nil],.nil],.nil],.lit (.int .u8 0),.lit (.int .i64 0),.lit (.int .i64 0),.lit (.int .i64 0),.nil],[],places):=
 ⟨[],by kernel_rfl⟩
set_option maxRecDepth 100000 in
theorem LZ(os:Os)(started:os.Started)(H:Type)(enc:TypeId×Value→H)(F:Stop.Interp):
 ReturnsInHanded {} Tryz.checked os 4 .any ((OpenSpec.ofChange Rows.deriveCompleteSpec).preRow enc Tryz.prog Tryz.f4 Rows.deriveCompleteRow.domain false Rows.deriveCompleteRow.laid) (((OpenSpec.ofChange Rows.deriveCompleteSpec).at F).post enc Tryz.prog Tryz.f4 false true false false):=by
 obtain⟨places,hx⟩:=Nv os enc
 refine returnsInHanded_of_row (C:=Tryz.checked) (s:=OpenSpec.ofChange Rows.deriveCompleteSpec) Wu started (by kernel_rfl) Tryz.func4
  (witness_row_at (enc:=enc) (C:=Tryz.checked) false (qb os) #[.agg #[.slice none 0 0,.slice none 0 0,.slice none 0 0,.slice none 0 0,.slice none 0 0,.slice none 0 0,.slice none 0 0,.slice none 0 0],.int .u8 0,.int .i64 0,.int .i64 0,.int .i64 0,.slice none 0 0] rfl (by kernel_rfl) (by kernel_rfl) (by kernel_rfl)
   (OpenSpec.preRow_of_cond 8 hx (by kernel_rfl) (fun k hk=>by cases hk) (by kernel_rfl) (Fs os))) ?_
 intro W base args ds gs before ape hW _ _ hwt hL _ _
 exact Fq H enc W base args ds gs before ape hW hwt hL
theorem R5:Rows.DeriveCompleteSaid:=
 OpenClaim.holds_of_cond 4 Tryz.f4 rfl rfl rfl rfl rfl rfl rfl ⟨rfl,rfl,rfl,rfl,rfl⟩ rfl rfl rfl rfl rfl (by kernel_rfl) Tryz.func4 XO
  (bY (by kernel_rfl)) (by unfold Func.isWrapper;first|(rw[aA (by decide+kernel)];kernel_rfl)|(rw[aB (by decide+kernel)];exact⟨rfl,rfl⟩))
  (fun os started H enc _ F=>by rw[OpenClaim.pre_eq_preRow];exact LZ os started H enc F)
theorem Nw(f:FuncId)(fn:Func)(hf:Tryz.pinned.checked.prog.funcNamed "testamur/testamurlaw18.DeriveComplete" =some f)(hfn:Tryz.pinned.checked.prog.funcs[f]? =some fn):
 true=Tryz.pinned.checked.prog.looks []∧∀(j:Nat) t,fn.params[j]? =some t→Tryz.pinned.checked.prog.wantsStandIn t=false:=by
 obtain rfl:f=4:=fP ((show Tryz.prog.funcNamed "testamur/testamurlaw18.DeriveComplete" =some 4 by kernel_rfl).symm.trans hf) |>.symm
 obtain rfl:fn=Tryz.f4:=(fP (Tryz.func4.symm.trans hfn)).symm
 refine⟨by kernel_rfl,fun j t ht=>?_⟩
 rw[Tryz.params4] at ht
 have hm:=Array.mem_of_getElem? ht
 simp only[List.mem_toArray,eN,List.not_mem_nil,or_false] at hm
 rcases hm with rfl|rfl|rfl|rfl|rfl|rfl
 ·exact(show Tryz.prog.wantsStandIn 35=false by kernel_rfl)
 ·exact(show Tryz.prog.wantsStandIn 5=false by kernel_rfl)
 ·exact(show Tryz.prog.wantsStandIn 3=false by kernel_rfl)
 ·exact(show Tryz.prog.wantsStandIn 3=false by kernel_rfl)
 ·exact(show Tryz.prog.wantsStandIn 3=false by kernel_rfl)
 ·exact(show Tryz.prog.wantsStandIn 55=false by kernel_rfl)
theorem c4_card:Rows.DeriveCompleteCardSaid:=
 Claim7.holds_tied_plain_at .later [] _ _ _ _ R5 (fun _ h=>by cases h) (by kernel_rfl) (fun _ h=>by cases h) deriveComplete_row_tie rfl ⟨rfl,rfl⟩ (by kernel_rfl) rfl Nw (by kernel_rfl)
end Go.Proofs.YtkhfnbfpgcjllaaGreatDoor
