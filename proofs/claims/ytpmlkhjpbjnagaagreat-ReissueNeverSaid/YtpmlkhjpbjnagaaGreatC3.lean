/- ReissueNever: for every input the law returns true, and the input reads as it did. -/
import Derived.Test.YtpmlkhjpbjnagaaGreatP2
import Derived.Test.YtpmlkhjpbjnagaaGreatK3
import Derived.Test.YtpmlkhjpbjnagaaGreatA5
import Derived.WalkKit
import Derived.ProofKit
import Derived.Deep.DeepHandedRow
import Derived.Lib.LaidTab
import Derived.SevenTiedAt
namespace Go.Proofs.YtpmlkhjpbjnagaaGreat
open Go.Ax
open Go.ChangeShapes Go.WideShapes Go.ChangeAt Go.RowKit
theorem x3f(a0:bz)(a1:Ze)(a2:Int)(a3:Int)(a4:Int)(r:Bool)(h:f3 a0 a1 a2 a3 a4=some r):Fc Tryz.prog gl 3 [.val fI a0,.val (.slice 8 (.int .i64)) a1,.val (.int .i64) a2,.val (.int .i64) a3,.val (.int .i64) a4] (aS (List.replicate 71 none) []) (.ret (.val .bool r)) (cY 71 []):=
 cast (by kernel_rfl) (x3.ret (a0,a1,a2,a3,a4,()) r h)
theorem UE:ownKnob Tryz.prog.godebug=none:=by kernel_rfl
theorem Ye{W:World}(_h:laidMetH Tryz.prog Rows.reissueNeverRow.laid W):Lo gl (tT W) W:=⟨fun x hx=>by simp[gl,Ctx.of] at hx,trivial⟩
set_option maxRecDepth 100000 in
theorem DN(H:Type)(enc:TypeId×Value→H)(W:World)(base:Nat)(args:Array Value)(ds gs:List (DataW H))(before:List MemPlace)
 (hval:∀(j:Nat) t v,Tryz.f3.params[j]? =some t→args[j]? =some v→Value.okWide Tryz.prog W .any base t v)
 (hW:DataW.Whole enc Tryz.prog Tryz.f3.params.toList Rows.reissueNeverSpec.vars false W args.toList ds gs before) (hwt:(DataW.weightsEach Tryz.prog (Tryz.f3.params.toList++[]) (ds++gs)).all (·≤reachBytes)=true) (hL:laidMetH Tryz.prog Rows.reissueNeverRow.laid W):
 Calls Tryz.prog 3 args W fun e W'=>∃v,e= .returned v∧Rows.reissueNeverSpec.post enc Tryz.prog Tryz.f3 false true false false W args v W':=by
 have hW0:=hW
 obtain⟨p,q,hA,hV,_,_,_⟩:=hW
 have hgs:gs= []:=by
  cases gs with
  |nil=>rfl
  |cons _ _=>exact hV.elim
 subst hgs
 have hpar:Tryz.f3.params.toList= [35,30,3,3,3]:=by rw[Tryz.params3]
 have hwt':∀n∈DataW.weightsEach Tryz.prog [35,30,3,3,3] ds,n≤aH:=by
  rw[hpar,fL,fL,j6] at hwt
  intro n hn
  have:=tH (hwt n hn)
  exact dh this (by decide)
 rw[hpar] at hA
 rw[Tryz.params3] at hval
 obtain⟨v0,vs0,d0,ds0,p0,q0,ha0,hd0,_,t0,r0⟩:=trodAll_cons hA
 obtain⟨v1,vs1,d1,ds1,p1,q1,ha1,hd1,_,t1,r1⟩:=trodAll_cons r0
 obtain⟨v2,vs2,d2,ds2,p2,q2,ha2,hd2,_,t2,r2⟩:=trodAll_cons r1
 obtain⟨v3,vs3,d3,ds3,p3,q3,ha3,hd3,_,t3,r3⟩:=trodAll_cons r2
 obtain⟨v4,vs4,d4,ds4,p4,q4,ha4,hd4,_,t4,r4⟩:=trodAll_cons r3
 obtain⟨hz1,hz2,_⟩:=trodAll_nil r4
 have hds:ds= [d0,d1,d2,d3,d4]:=by rw[hd0,hd1,hd2,hd3,hd4,hz2]
 have hargs:args.toList= [v0,v1,v2,v3,v4]:=by rw[ha0,ha1,ha2,ha3,ha4,hz1]
 have hargs':args= #[v0,v1,v2,v3,v4]:=by apply mb;rw[hargs]
 subst hds
 simp only[DataW.weightsEach,jb,fL] at hwt'
 obtain⟨ax0,h0,af0⟩:=qL tied (td:=⟨fI,0,0,[]⟩) (by kernel_rfl) (by kernel_rfl) (hval 0 35 v0 rfl (by rw[hargs'];rfl)) t0 (fun n hn=>hwt' n (Or.inl hn))
 obtain⟨ax1,h1,af1⟩:=qL tied (td:=⟨(.slice 8 (.int .i64)),3,0,[]⟩) (by kernel_rfl) (by kernel_rfl) (hval 1 30 v1 rfl (by rw[hargs'];rfl)) t1 (fun n hn=>hwt' n (Or.inr (Or.inl hn)))
 obtain⟨ax2,h2,af2⟩:=qL tied (td:=⟨(.int .i64),0,0,[]⟩) (by kernel_rfl) (by kernel_rfl) (hval 2 3 v2 rfl (by rw[hargs'];rfl)) t2 (fun n hn=>hwt' n (Or.inr (Or.inr (Or.inl hn))))
 obtain⟨ax3,h3,af3⟩:=qL tied (td:=⟨(.int .i64),0,0,[]⟩) (by kernel_rfl) (by kernel_rfl) (hval 3 3 v3 rfl (by rw[hargs'];rfl)) t3 (fun n hn=>hwt' n (Or.inr (Or.inr (Or.inr (Or.inl hn)))))
 obtain⟨ax4,h4,af4⟩:=qL tied (td:=⟨(.int .i64),0,0,[]⟩) (by kernel_rfl) (by kernel_rfl) (hval 4 3 v4 rfl (by rw[hargs'];rfl)) t4 (fun n hn=>hwt' n (Or.inr (Or.inr (Or.inr (Or.inr (hn))))))
 have hx:=x3f ax0 ax1 ax2 ax3 ax4 true (pl3 ax0 ax1 ax2 ax3 ax4 af0 af1 af2 af3 af4)
 refine LK tied (fn:=Tryz.f3) (bt:=4) hx (by rw[hargs];exact⟨h0,h1,h2,h3,h4,trivial⟩) (Ye hL) hW0 rfl ?_ rfl Tryz.underlying4 ?_
 ·intro t ht
  rw[hpar] at ht
  simp only[fg,List.not_mem_nil,or_false] at ht
  rcases ht with rfl|rfl|rfl|rfl|rfl
  ·exact⟨⟨fI,0,0,[]⟩,by kernel_rfl,by kernel_rfl⟩
  ·exact⟨⟨(.slice 8 (.int .i64)),3,0,[]⟩,by kernel_rfl,by kernel_rfl⟩
  ·exact⟨⟨(.int .i64),0,0,[]⟩,by kernel_rfl,by kernel_rfl⟩
  ·exact⟨⟨(.int .i64),0,0,[]⟩,by kernel_rfl,by kernel_rfl⟩
  ·exact⟨⟨(.int .i64),0,0,[]⟩,by kernel_rfl,by kernel_rfl⟩
 ·intro gs hgs
  subst hgs
  exact⟨rfl,rfl,rfl⟩
noncomputable def lJ(os:Os):World:=
 {World.holding Tryz.prog os ⟨#[], #[],[]⟩ with heap:=(World.holding Tryz.prog os ⟨#[], #[],[]⟩).heap}
theorem DO(os:Os):laidMet Tryz.prog Rows.reissueNeverRow.laid ((lJ os).forCall (fun _ _=>0) ⟨#[], #[.agg #[.slice none 0 0,.slice none 0 0,.slice none 0 0,.slice none 0 0,.slice none 0 0,.slice none 0 0,.slice none 0 0,.slice none 0 0],.slice none 0 0,.int .i64 0,.int .i64 0,.int .i64 0],[]⟩).memory:=
 laidMet_of_run' 8 (by kernel_rfl) (by kernel_rfl)
theorem Mt(os:Os){H:Type}(enc:TypeId×Value→H):∃places,DataW.whole enc Tryz.prog ((lJ os).forCall (fun _ _=>0) ⟨#[], #[.agg #[.slice none 0 0,.slice none 0 0,.slice none 0 0,.slice none 0 0,.slice none 0 0,.slice none 0 0,.slice none 0 0,.slice none 0 0],.slice none 0 0,.int .i64 0,.int .i64 0,.int .i64 0],[]⟩).memory Tryz.f3.params.toList Rows.reissueNeverSpec.vars false (#[.agg #[.slice none 0 0,.slice none 0 0,.slice none 0 0,.slice none 0 0,.slice none 0 0,.slice none 0 0,.slice none 0 0,.slice none 0 0],.slice none 0 0,.int .i64 0,.int .i64 0,.int .i64 0]:Array Value).toList 8=some ([.agg [.agg [.agg [.nil,.nil,.nil,.nil,.nil,.nil],.nil],.nil],.nil,.lit (.int .i64 0),.lit (.int .i64 0),.lit (.int .i64 0)],[],places):=
 ⟨[],by kernel_rfl⟩
set_option maxRecDepth 100000 in
theorem JH(os:Os)(started:os.Started)(H:Type)(enc:TypeId×Value→H)(F:Stop.Interp):
 ReturnsInHanded {} Tryz.checked os 3 .any ((OpenSpec.ofChange Rows.reissueNeverSpec).preRow enc Tryz.prog Tryz.f3 Rows.reissueNeverRow.domain false Rows.reissueNeverRow.laid) (((OpenSpec.ofChange Rows.reissueNeverSpec).at F).post enc Tryz.prog Tryz.f3 false true false false):=by
 obtain⟨places,hx⟩:=Mt os enc
 refine returnsInHanded_of_row (C:=Tryz.checked) (s:=OpenSpec.ofChange Rows.reissueNeverSpec) UE started (by kernel_rfl) Tryz.func3
  (witness_row_at (enc:=enc) (C:=Tryz.checked) false (lJ os) #[.agg #[.slice none 0 0,.slice none 0 0,.slice none 0 0,.slice none 0 0,.slice none 0 0,.slice none 0 0,.slice none 0 0,.slice none 0 0],.slice none 0 0,.int .i64 0,.int .i64 0,.int .i64 0] rfl (by kernel_rfl) (by kernel_rfl) (by kernel_rfl)
   (OpenSpec.preRow_of_cond 8 hx (by kernel_rfl) (fun k hk=>by cases hk) (by kernel_rfl) (DO os))) ?_
 intro W base args ds gs before hval hW _ _ hwt hL _ _
 exact DN H enc W base args ds gs before hval hW hwt hL
theorem c3_said:Rows.ReissueNeverSaid:=
 OpenClaim.holds_of_cond 3 Tryz.f3 rfl rfl rfl rfl rfl rfl rfl ⟨rfl,rfl,rfl,rfl,rfl⟩ rfl rfl rfl rfl rfl (by kernel_rfl) Tryz.func3 VG
  (tH (by kernel_rfl)) (by unfold Func.isWrapper;first|(rw[aA (by decide+kernel)];kernel_rfl)|(rw[aC (by decide+kernel)];exact⟨rfl,rfl⟩))
  (fun os started H enc _ F=>by rw[OpenClaim.pre_eq_preRow];exact JH os started H enc F)
end Go.Proofs.YtpmlkhjpbjnagaaGreat
