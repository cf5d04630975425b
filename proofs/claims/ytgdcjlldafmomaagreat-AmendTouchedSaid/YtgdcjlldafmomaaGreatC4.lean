/- AmendTouched: for every input the law returns true, and the input reads as it did. -/
import Derived.Test.YtgdcjlldafmomaaGreatP2
import Derived.Test.YtgdcjlldafmomaaGreatK4
import Derived.Test.YtgdcjlldafmomaaGreatA5
import Derived.WalkKit
import Derived.ProofKit
import Derived.Deep.DeepHandedRow
import Derived.Lib.LaidTab
import Derived.SevenTiedAt
namespace Go.Proofs.YtgdcjlldafmomaaGreat
open Go.Ax
open Go.ChangeShapes Go.WideShapes Go.ChangeAt Go.RowKit
theorem YA(a0:bT)(a1:Int)(a2:Int)(a3:Int)(a4:Int)(a5:Int)(a6:Int)(r:Bool)(h:f4 a0 a1 a2 a3 a4 a5 a6=some r):Fc Tryz.prog gl 4 [.val fb a0,.val (.int .i64) a1,.val (.int .i64) a2,.val (.int .i64) a3,.val (.int .i64) a4,.val (.int .i64) a5,.val (.int .i64) a6] (aQ (List.replicate 104 none) []) (.ret (.val .bool r)) (db 104 []):=
 cast (by kernel_rfl) (x4.ret (a0,a1,a2,a3,a4,a5,a6,()) r h)
theorem Lo:ownKnob Tryz.prog.godebug=none:=by kernel_rfl
theorem NW{W:World}(_h:laidMetH Tryz.prog Rows.amendTouchedRow.laid W):ET gl (qy W) W:=⟨fun x hx=>by simp[gl,Ctx.of] at hx,trivial⟩
set_option maxRecDepth 100000 in
theorem yx(H:Type)(enc:TypeId×Value→H)(W:World)(base:Nat)(args:Array Value)(ds gs:List (DataW H))(before:List MemPlace)
 (hval:∀(j:Nat) t v,Tryz.f4.params[j]? =some t→args[j]? =some v→Value.okWide Tryz.prog W .any base t v)
 (hW:DataW.Whole enc Tryz.prog Tryz.f4.params.toList Rows.amendTouchedSpec.vars false W args.toList ds gs before) (hwt:(DataW.weightsEach Tryz.prog (Tryz.f4.params.toList++[]) (ds++gs)).all (·≤reachBytes)=true) (hL:laidMetH Tryz.prog Rows.amendTouchedRow.laid W):
 Calls Tryz.prog 4 args W fun e W'=>∃v,e= .returned v∧Rows.amendTouchedSpec.post enc Tryz.prog Tryz.f4 false true false false W args v W':=by
 have hW0:=hW
 obtain⟨p,q,hA,hV,_,_,_⟩:=hW
 have hgs:gs= []:=by
  cases gs with
  |nil=>rfl
  |cons _ _=>exact hV.elim
 subst hgs
 have hpar:Tryz.f4.params.toList= [35,3,3,3,3,3,3]:=by rw[Tryz.params4]
 have hwt':∀n∈DataW.weightsEach Tryz.prog [35,3,3,3,3,3,3] ds,n≤aE:=by
  rw[hpar,gI,gI,oj] at hwt
  intro n hn
  have:=jL (hwt n hn)
  exact cG this (by decide)
 rw[hpar] at hA
 rw[Tryz.params4] at hval
 obtain⟨v0,vs0,d0,ds0,p0,q0,ha0,hd0,_,t0,r0⟩:=trodAll_cons hA
 obtain⟨v1,vs1,d1,ds1,p1,q1,ha1,hd1,_,t1,r1⟩:=trodAll_cons r0
 obtain⟨v2,vs2,d2,ds2,p2,q2,ha2,hd2,_,t2,r2⟩:=trodAll_cons r1
 obtain⟨v3,vs3,d3,ds3,p3,q3,ha3,hd3,_,t3,r3⟩:=trodAll_cons r2
 obtain⟨v4,vs4,d4,ds4,p4,q4,ha4,hd4,_,t4,r4⟩:=trodAll_cons r3
 obtain⟨v5,vs5,d5,ds5,p5,q5,ha5,hd5,_,t5,r5⟩:=trodAll_cons r4
 obtain⟨v6,vs6,d6,ds6,p6,q6,ha6,hd6,_,t6,r6⟩:=trodAll_cons r5
 obtain⟨hz1,hz2,_⟩:=trodAll_nil r6
 have hds:ds= [d0,d1,d2,d3,d4,d5,d6]:=by rw[hd0,hd1,hd2,hd3,hd4,hd5,hd6,hz2]
 have hargs:args.toList= [v0,v1,v2,v3,v4,v5,v6]:=by rw[ha0,ha1,ha2,ha3,ha4,ha5,ha6,hz1]
 have hargs':args= #[v0,v1,v2,v3,v4,v5,v6]:=by apply lk;rw[hargs]
 subst hds
 simp only[DataW.weightsEach,j4,gI] at hwt'
 obtain⟨ax0,h0,af0⟩:=kI tied (td:=⟨fb,0,0,[]⟩) (by kernel_rfl) (by kernel_rfl) (hval 0 35 v0 rfl (by rw[hargs'];rfl)) t0 (fun n hn=>hwt' n (Or.inl hn))
 obtain⟨ax1,h1,af1⟩:=kI tied (td:=⟨(.int .i64),0,0,[]⟩) (by kernel_rfl) (by kernel_rfl) (hval 1 3 v1 rfl (by rw[hargs'];rfl)) t1 (fun n hn=>hwt' n (Or.inr (Or.inl hn)))
 obtain⟨ax2,h2,af2⟩:=kI tied (td:=⟨(.int .i64),0,0,[]⟩) (by kernel_rfl) (by kernel_rfl) (hval 2 3 v2 rfl (by rw[hargs'];rfl)) t2 (fun n hn=>hwt' n (Or.inr (Or.inr (Or.inl hn))))
 obtain⟨ax3,h3,af3⟩:=kI tied (td:=⟨(.int .i64),0,0,[]⟩) (by kernel_rfl) (by kernel_rfl) (hval 3 3 v3 rfl (by rw[hargs'];rfl)) t3 (fun n hn=>hwt' n (Or.inr (Or.inr (Or.inr (Or.inl hn)))))
 obtain⟨ax4,h4,af4⟩:=kI tied (td:=⟨(.int .i64),0,0,[]⟩) (by kernel_rfl) (by kernel_rfl) (hval 4 3 v4 rfl (by rw[hargs'];rfl)) t4 (fun n hn=>hwt' n (Or.inr (Or.inr (Or.inr (Or.inr (Or.inl hn))))))
 obtain⟨ax5,h5,af5⟩:=kI tied (td:=⟨(.int .i64),0,0,[]⟩) (by kernel_rfl) (by kernel_rfl) (hval 5 3 v5 rfl (by rw[hargs'];rfl)) t5 (fun n hn=>hwt' n (Or.inr (Or.inr (Or.inr (Or.inr (Or.inr (Or.inl hn)))))))
 obtain⟨ax6,h6,af6⟩:=kI tied (td:=⟨(.int .i64),0,0,[]⟩) (by kernel_rfl) (by kernel_rfl) (hval 6 3 v6 rfl (by rw[hargs'];rfl)) t6 (fun n hn=>hwt' n (Or.inr (Or.inr (Or.inr (Or.inr (Or.inr (Or.inr (hn))))))))
 have hx:=YA ax0 ax1 ax2 ax3 ax4 ax5 ax6 true (pl4 ax0 ax1 ax2 ax3 ax4 ax5 ax6 af0 af1 af2 af3 af4 af5 af6)
 refine EN tied (fn:=Tryz.f4) (bt:=4) hx (by rw[hargs];exact⟨h0,h1,h2,h3,h4,h5,h6,trivial⟩) (NW hL) hW0 rfl ?_ rfl Tryz.underlying4 ?_
 ·intro t ht
  rw[hpar] at ht
  simp only[fe,List.not_mem_nil,or_false] at ht
  rcases ht with rfl|rfl|rfl|rfl|rfl|rfl|rfl
  ·exact⟨⟨fb,0,0,[]⟩,by kernel_rfl,by kernel_rfl⟩
  ·exact⟨⟨(.int .i64),0,0,[]⟩,by kernel_rfl,by kernel_rfl⟩
  ·exact⟨⟨(.int .i64),0,0,[]⟩,by kernel_rfl,by kernel_rfl⟩
  ·exact⟨⟨(.int .i64),0,0,[]⟩,by kernel_rfl,by kernel_rfl⟩
  ·exact⟨⟨(.int .i64),0,0,[]⟩,by kernel_rfl,by kernel_rfl⟩
  ·exact⟨⟨(.int .i64),0,0,[]⟩,by kernel_rfl,by kernel_rfl⟩
  ·exact⟨⟨(.int .i64),0,0,[]⟩,by kernel_rfl,by kernel_rfl⟩
 ·intro gs hgs
  subst hgs
  exact⟨rfl,rfl,rfl⟩
noncomputable def kG(os:Os):World:=
 {World.holding Tryz.prog os ⟨#[], #[],[]⟩ with heap:=(World.holding Tryz.prog os ⟨#[], #[],[]⟩).heap}
theorem yy(os:Os):laidMet Tryz.prog Rows.amendTouchedRow.laid ((kG os).forCall (fun _ _=>0) ⟨#[], #[.agg #[.slice none 0 0,.slice none 0 0,.slice none 0 0,.slice none 0 0,.slice none 0 0,.slice none 0 0,.slice none 0 0,.slice none 0 0],.int .i64 0,.int .i64 0,.int .i64 0,.int .i64 0,.int .i64 0,.int .i64 0],[]⟩).memory:=
 laidMet_of_run' 8 (by kernel_rfl) (by kernel_rfl)
theorem EG(os:Os){H:Type}(enc:TypeId×Value→H):∃places,DataW.whole enc Tryz.prog ((kG os).forCall (fun _ _=>0) ⟨#[], #[.agg #[.slice none 0 0,.slice none 0 0,.slice none 0 0,.slice none 0 0,.slice none 0 0,.slice none 0 0,.slice none 0 0,.slice none 0 0],.int .i64 0,.int .i64 0,.int .i64 0,.int .i64 0,.int .i64 0,.int .i64 0],[]⟩).memory Tryz.f4.params.toList Rows.amendTouchedSpec.vars false (#[.agg #[.slice none 0 0,.slice none 0 0,.slice none 0 0,.slice none 0 0,.slice none 0 0,.slice none 0 0,.slice none 0 0,.slice none 0 0],.int .i64 0,.int .i64 0,.int .i64 0,.int .i64 0,.int .i64 0,.int .i64 0]:Array Value).toList 8=some ([.agg [.agg [.agg [.nil,.nil,.nil,.nil,.nil,.nil],.nil],.nil],.lit (.int .i64 0),.lit (.int .i64 0),.lit (.int .i64 0),.lit (.int .i64 0),.lit (.int .i64 0),.lit (.int .i64 0)],[],places):=
 ⟨[],by kernel_rfl⟩
set_option maxRecDepth 100000 in
theorem DU(os:Os)(started:os.Started)(H:Type)(enc:TypeId×Value→H)(F:Stop.Interp):
 ReturnsInHanded {} Tryz.checked os 4 .any ((OpenSpec.ofChange Rows.amendTouchedSpec).preRow enc Tryz.prog Tryz.f4 Rows.amendTouchedRow.domain false Rows.amendTouchedRow.laid) (((OpenSpec.ofChange Rows.amendTouchedSpec).at F).post enc Tryz.prog Tryz.f4 false true false false):=by
 obtain⟨places,hx⟩:=EG os enc
 refine returnsInHanded_of_row (C:=Tryz.checked) (s:=OpenSpec.ofChange Rows.amendTouchedSpec) Lo started (by kernel_rfl) Tryz.func4
  (witness_row_at (enc:=enc) (C:=Tryz.checked) false (kG os) #[.agg #[.slice none 0 0,.slice none 0 0,.slice none 0 0,.slice none 0 0,.slice none 0 0,.slice none 0 0,.slice none 0 0,.slice none 0 0],.int .i64 0,.int .i64 0,.int .i64 0,.int .i64 0,.int .i64 0,.int .i64 0] rfl (by kernel_rfl) (by kernel_rfl) (by kernel_rfl)
   (OpenSpec.preRow_of_cond 8 hx (by kernel_rfl) (fun k hk=>by cases hk) (by kernel_rfl) (yy os))) ?_
 intro W base args ds gs before hval hW _ _ hwt hL _ _
 exact yx H enc W base args ds gs before hval hW hwt hL
theorem c4_said:Rows.AmendTouchedSaid:=
 OpenClaim.holds_of_cond 4 Tryz.f4 rfl rfl rfl rfl rfl rfl rfl ⟨rfl,rfl,rfl,rfl,rfl⟩ rfl rfl rfl rfl rfl (by kernel_rfl) Tryz.func4 LM
  (jL (by kernel_rfl)) (by unfold Func.isWrapper;first|(rw[aA (by decide+kernel)];kernel_rfl)|(rw[aC (by decide+kernel)];exact⟨rfl,rfl⟩))
  (fun os started H enc _ F=>by rw[OpenClaim.pre_eq_preRow];exact DU os started H enc F)
end Go.Proofs.YtgdcjlldafmomaaGreat
