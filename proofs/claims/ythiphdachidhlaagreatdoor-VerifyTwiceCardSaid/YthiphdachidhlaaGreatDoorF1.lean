/- Made by program (dec.py): walks -/
import Derived.Test.YthiphdachidhlaaGreatDoorBase
namespace Go.Proofs.YthiphdachidhlaaGreatDoor
open Go.Abs

theorem fact0 : eqOK Tryz.prog G 40 35 T35 = true := by kernel_rfl

theorem fact1 : Tryz.prog.underlying 40 = some (.slice 9) := by kernel_rfl

theorem fact2 : Tryz.prog.underlying 41 = some (.slice 181) := by kernel_rfl

theorem fact3 : Tryz.prog.underlying 42 = some (.slice 144) := by kernel_rfl

theorem fact4 : Tryz.prog.underlying 43 = some (.slice 175) := by kernel_rfl

theorem fact5 : Tryz.prog.underlying 44 = some (.slice 193) := by kernel_rfl

theorem fact6 : Tryz.prog.underlying 45 = some (.slice 132) := by kernel_rfl

theorem fact7 : Tryz.prog.underlying 30 = some (.slice 3) := by kernel_rfl

/-- testamur.verify.Twice -/
def f6_l2 (a0 : List D33) (u1_0 : Int) : Nat → Int → Int → (List (D35 × Int)) → Option (Int × (List (D35 × Int)))
  | 0, _, _, _ => none
  | n2 + 1, u2_0, u2_1, u2_2 => if (decide (u2_1 < (List.length ((((((nth T33 a0 u1_0).2).2).2).2).1) : Int))) = true then (Option.bind (if 0 ≤ u2_1 ∧ u2_1 < (List.length ((((((nth T33 a0 u1_0).2).2).2).2).1) : Int) then (if (mhas T35 (nth T35 ((((((nth T33 a0 u1_0).2).2).2).2).1) u2_1) u2_2) = true then (some (imin u2_0 (mget T35 (.int .i64) (nth T35 ((((((nth T33 a0 u1_0).2).2).2).2).1) u2_1) u2_2), u2_2)) else (if List.length u2_2 + 1 ≤ maxB then (some (u2_0, mset T35 (nth T35 ((((((nth T33 a0 u1_0).2).2).2).2).1) u2_1) u1_0 u2_2)) else none)) else none) fun (o5 : Int × (List (D35 × Int))) => f6_l2 a0 u1_0 n2 o5.1 (w64 (u2_1 + (1 : Int))) o5.2) else (some (u2_0, u2_2))

def f6_l1 (a0 : List D33) : Nat → Int → (List (D35 × Int)) → Option (Ctl Unit (Int × Int × Bool))
  | 0, _, _ => none
  | n1 + 1, u1_0, u1_1 => if (decide (u1_0 < (List.length a0 : Int))) = true then (Option.bind (if 0 ≤ u1_0 ∧ u1_0 < (List.length a0 : Int) then (Option.bind (f6_l2 a0 u1_0 (List.length ((((((nth T33 a0 u1_0).2).2).2).2).1) + 1) u1_0 (0 : Int) u1_1) fun (o4 : Int × (List (D35 × Int))) => if (decide (o4.1 < u1_0)) = true then (some (.ret (o4.1, u1_0, true))) else (some (.brk o4.2))) else none) fun (o2 : Ctl (List (D35 × Int)) (Int × Int × Bool)) => match o2 with | .brk v11 => (f6_l1 a0 n1 (w64 (u1_0 + (1 : Int))) v11) | .ret r12 => (some (.ret r12))) else (some (.brk ()))

def f6 (a0 : List D33) : Option (Int × Int × Bool) :=
  Option.bind (f6_l1 a0 (List.length a0 + 1) (0 : Int) ([] : List (D35 × Int))) fun (o1 : Ctl Unit (Int × Int × Bool)) => match o1 with | .brk _v14 => (some ((0 : Int), (0 : Int), false)) | .ret r15 => (some r15)

set_option maxRecDepth 100000 in
theorem x6 (a0 : List D33) (r : Int × Int × Bool) (h : f6 a0 = some r) : Fc Tryz.prog gl 6 [(.val (.slice 96 T33) a0)] (hset (List.replicate 89 none) []) (.ret (.tup (.cons (.val (.int .i64) r.1) (.cons (.val (.int .i64) r.2.1) (.cons (.val .bool r.2.2) .nil))))) (outH 89 []) := by
  refine Fc.of Tryz.call6 (FnEx.of_runF tied Tryz.func6 rfl rfl (σ0 := mkSt 49 89 [(0, (.val (.slice 96 T33) a0))] []) (by kernel_rfl) ?_)
  unfold f6 at h
  refine Run.sreg tied [] [] [] [] (by kernel_rfl) trivial ?_
  refine Run.sreg tied [] [] [] [] (by kernel_rfl) trivial ?_
  obtain ⟨o1, h1, h⟩ := bind_some h
  refine Run.seqJ (fun σ' => ∃ v14, o1 = .brk v14 ∧ σ' = mkSt 49 89 [] []) ?_ ?_
  · refine Run.sreg tied [] [] [] [] (by kernel_rfl) trivial ?_
    refine Run.block ?_
    refine Run.loopJ (fun n σ => ∃ (u1_0 : Int) (u1_1 : List (D35 × Int)), f6_l1 a0 n u1_0 u1_1 = some o1 ∧ σ = mkSt 49 89 [(5, (.mp 29)), (14, (.val (.slice 96 T33) a0)), (15, (.val (.int .i64) (List.length a0 : Int))), (16, (.val (.int .i64) u1_0))] [(29, some (.map T35 (.int .i64) u1_1))]) [.keep [5, 14, 15, 16] [29]] (by kernel_rfl) ⟨_, _, h1, rfl⟩ ?_
    rintro n1 _ ⟨u1_0, u1_1, h14, rfl⟩
    cases n1 with
    | zero => exact absurd h14 (by simp [f6_l1])
    | succ n1 =>
      unfold f6_l1 at h14
      refine Run.sreg tied [] [] [] [] (by kernel_rfl) trivial ?_
      refine Run.seq ?_
      rcases ite_some h14 with ⟨hc13, h14⟩ | ⟨hc13, h14⟩
      · refine Run.condT (b := decide (u1_0 < (List.length a0 : Int))) (by kernel_rfl) hc13 ?_
        refine Run.skip ?_
        change Run _ _ _ _ _
        obtain ⟨o2, h15, h14⟩ := bind_some h14
        refine Run.seqJ (fun σ' => ∃ v11, o2 = .brk v11 ∧ σ' = mkSt 49 89 [(5, (.mp 29)), (14, (.val (.slice 96 T33) a0)), (15, (.val (.int .i64) (List.length a0 : Int))), (16, (.val (.int .i64) u1_0))] [(29, some (.map T35 (.int .i64) v11))]) ?_ ?_
        · refine Run.block ?_
          obtain ⟨hv3, h15⟩ := ite_none h15
          refine Run.sreg tied [] [] [] [0 ≤ u1_0, u1_0 < (List.length a0 : Int)] (by kernel_rfl) ⟨hv3.1, hv3.2, trivial⟩ ?_
          refine Run.sreg tied [] [] [] [] (by kernel_rfl) trivial ?_
          obtain ⟨o4, h21, h15⟩ := bind_some h15
          refine Run.seqJ (fun σ' => σ' = mkSt 49 89 [(5, (.mp 29)), (6, (.val (.int .i64) u1_0)), (8, (.val (.int .i64) o4.1)), (14, (.val (.slice 96 T33) a0)), (15, (.val (.int .i64) (List.length a0 : Int))), (16, (.val (.int .i64) u1_0))] [(29, some (.map T35 (.int .i64) o4.2))]) ?_ ?_
          · refine Run.sreg tied [] [] [] [] (by kernel_rfl) trivial ?_
            refine Run.block ?_
            refine Run.loopJ (fun n σ => ∃ (u2_0 : Int) (u2_1 : Int) (u2_2 : List (D35 × Int)), f6_l2 a0 u1_0 n u2_0 u2_1 u2_2 = some o4 ∧ σ = mkSt 49 89 [(5, (.mp 29)), (6, (.val (.int .i64) u1_0)), (8, (.val (.int .i64) u2_0)), (14, (.val (.slice 96 T33) a0)), (15, (.val (.int .i64) (List.length a0 : Int))), (16, (.val (.int .i64) u1_0)), (23, (.val (.slice 16 T35) ((((((nth T33 a0 u1_0).2).2).2).2).1))), (24, (.val (.int .i64) (List.length ((((((nth T33 a0 u1_0).2).2).2).2).1) : Int))), (25, (.val (.int .i64) u2_1))] [(29, some (.map T35 (.int .i64) u2_2))]) [.keep [5, 6, 8, 14, 15, 16, 23, 24, 25] [29]] (by kernel_rfl) ⟨_, _, _, h21, rfl⟩ ?_
            rintro n2 _ ⟨u2_0, u2_1, u2_2, h24, rfl⟩
            cases n2 with
            | zero => exact absurd h24 (by simp [f6_l2])
            | succ n2 =>
              unfold f6_l2 at h24
              refine Run.sreg tied [] [] [] [] (by kernel_rfl) trivial ?_
              refine Run.seq ?_
              rcases ite_some h24 with ⟨hc9, h24⟩ | ⟨hc9, h24⟩
              · refine Run.condT (b := decide (u2_1 < (List.length ((((((nth T33 a0 u1_0).2).2).2).2).1) : Int))) (by kernel_rfl) hc9 ?_
                refine Run.skip ?_
                change Run _ _ _ _ _
                obtain ⟨o5, h25, h24⟩ := bind_some h24
                refine Run.seqJ (fun σ' => σ' = mkSt 49 89 [(5, (.mp 29)), (6, (.val (.int .i64) u1_0)), (8, (.val (.int .i64) o5.1)), (14, (.val (.slice 96 T33) a0)), (15, (.val (.int .i64) (List.length a0 : Int))), (16, (.val (.int .i64) u1_0)), (23, (.val (.slice 16 T35) ((((((nth T33 a0 u1_0).2).2).2).2).1))), (24, (.val (.int .i64) (List.length ((((((nth T33 a0 u1_0).2).2).2).2).1) : Int))), (25, (.val (.int .i64) u2_1))] [(29, some (.map T35 (.int .i64) o5.2))]) ?_ ?_
                · refine Run.block ?_
                  obtain ⟨hv6, h25⟩ := ite_none h25
                  refine Run.sreg tied [] [] [] [0 ≤ u2_1, u2_1 < (List.length ((((((nth T33 a0 u1_0).2).2).2).2).1) : Int)] (by kernel_rfl) ⟨hv6.1, hv6.2, trivial⟩ ?_
                  refine Run.sreg tied [] [] [] [eqOK Tryz.prog G 40 35 T35 = true] (by kernel_rfl) ⟨fact0, trivial⟩ ?_
                  refine Run.sreg tied [] [] [] [] (by kernel_rfl) trivial ?_
                  rcases ite_some h25 with ⟨hc8, h25⟩ | ⟨hc8, h25⟩
                  · refine Run.condT (b := mhas T35 (nth T35 ((((((nth T33 a0 u1_0).2).2).2).2).1) u2_1) u2_2) (by kernel_rfl) hc8 ?_
                    refine Run.reg tied [] [] [] [] (by kernel_rfl) trivial ?_
                    refine bN ?_
                    obtain rfl := Option.some.inj h25
                    exact jQ.mk [.keep [5, 6, 8, 14, 15, 16, 23, 24, 25] [29]] (by kernel_rfl) rfl
                  · refine Run.condF (b := mhas T35 (nth T35 ((((((nth T33 a0 u1_0).2).2).2).2).1) u2_1) u2_2) (by kernel_rfl) hc8 ?_
                    obtain ⟨hv7, h25⟩ := ite_none h25
                    refine Run.reg tied [] [] [] [eqOK Tryz.prog G 40 35 T35 = true, List.length u2_2 + 1 ≤ maxB] (by kernel_rfl) ⟨fact0, hv7, trivial⟩ ?_
                    refine bN ?_
                    obtain rfl := Option.some.inj h25
                    exact jQ.mk [.keep [5, 6, 8, 14, 15, 16, 23, 24, 25] [29]] (by kernel_rfl) rfl
                · rintro _ rfl
                  refine Run.reg tied [] [] [] [] (by kernel_rfl) trivial ?_
                  exact loopJ.mk [.keep [5, 6, 8, 14, 15, 16, 23, 24, 25] [29]] (by kernel_rfl) ⟨_, _, _, h24, rfl⟩
              · refine Run.condF (b := decide (u2_1 < (List.length ((((((nth T33 a0 u1_0).2).2).2).2).1) : Int))) (by kernel_rfl) hc9 ?_
                refine Run.exit ?_
                refine tE ?_
                refine lE ?_
                refine bE ?_
                obtain rfl := Option.some.inj h24
                exact jQ.mk [.keep [5, 6, 8, 14, 15, 16] [29]] (by kernel_rfl) rfl
          · rintro _ rfl
            refine Run.sreg tied [] [] [] [] (by kernel_rfl) trivial ?_
            rcases ite_some h15 with ⟨hc10, h15⟩ | ⟨hc10, h15⟩
            · refine Run.condT (b := decide (o4.1 < u1_0)) (by kernel_rfl) hc10 ?_
              refine Run.sreg tied [] [] [] [] (by kernel_rfl) trivial ?_
              refine Run.ret ?_
              obtain rfl := Option.some.inj h15
              dsimp only at h14
              obtain rfl := Option.some.inj h14
              dsimp only at h
              obtain rfl := Option.some.inj h
              exact (fQ_fin [] [some (.int .i64), some (.int .i64), some .bool] (msk 89 []) (by kernel_rfl)).1
            · refine Run.condF (b := decide (o4.1 < u1_0)) (by kernel_rfl) hc10 ?_
              refine Run.skip ?_
              refine bN ?_
              obtain rfl := Option.some.inj h15
              exact jQ.mk [.keep [5, 14, 15, 16] [29]] (by kernel_rfl) ⟨_, rfl, rfl⟩
        · rintro _ ⟨v11, rfl, rfl⟩
          dsimp only at h14
          refine Run.reg tied [] [] [] [] (by kernel_rfl) trivial ?_
          exact loopJ.mk [.keep [5, 14, 15, 16] [29]] (by kernel_rfl) ⟨_, _, h14, rfl⟩
      · refine Run.condF (b := decide (u1_0 < (List.length a0 : Int))) (by kernel_rfl) hc13 ?_
        refine Run.exit ?_
        refine tE ?_
        refine lE ?_
        refine bE ?_
        obtain rfl := Option.some.inj h14
        exact jQ.mk [.keep [] []] (by kernel_rfl) ⟨_, rfl, rfl⟩
  · rintro _ ⟨v14, rfl, rfl⟩
    dsimp only at h
    refine Run.sreg tied [] [] [] [] (by kernel_rfl) trivial ?_
    refine Run.ret ?_
    obtain rfl := Option.some.inj h
    exact (fQ_fin [] [some (.int .i64), some (.int .i64), some .bool] (msk 89 []) (by kernel_rfl)).1

/-- testamur.verify.Twice -/
def f6_s1_l1  : Nat → Option Unit
  | 0 => none
  | _n1 + 1 => if (decide ((0 : Int) < ((0 : Nat) : Int))) = true then none else (some ())

def f6_s1  : Option (Int × Int × Bool) :=
  Option.bind (f6_s1_l1 (big)) fun (_o1 : Unit) => some ((0 : Int), (0 : Int), false)

set_option maxRecDepth 100000 in
theorem x6_s1  (r : Int × Int × Bool) (h : f6_s1 = some r) : Fc Tryz.prog gl 6 [.nils] (hset (List.replicate 89 none) []) (.ret (.tup (.cons (.val (.int .i64) r.1) (.cons (.val (.int .i64) r.2.1) (.cons (.val .bool r.2.2) .nil))))) (outH 89 []) := by
  refine Fc.of Tryz.call6 (FnEx.of_runF tied Tryz.func6 rfl rfl (σ0 := mkSt 49 89 [(0, .nils)] []) (by kernel_rfl) ?_)
  unfold f6_s1 at h
  refine Run.sreg tied [] [] [] [] (by kernel_rfl) trivial ?_
  refine Run.sreg tied [] [] [] [] (by kernel_rfl) trivial ?_
  obtain ⟨o1, h1, h⟩ := bind_some h
  refine Run.seqJ (fun σ' => σ' = mkSt 49 89 [] []) ?_ ?_
  · refine Run.sreg tied [] [] [] [] (by kernel_rfl) trivial ?_
    refine Run.block ?_
    refine Run.loopJ (fun n σ => f6_s1_l1 n = some o1 ∧ σ = mkSt 49 89 [(5, (.mp 29)), (14, .nils), (15, (.val (.int .i64) ((0 : Nat) : Int))), (16, (.val (.int .i64) (0 : Int)))] [(29, some (.map T35 (.int .i64) ([] : List (D35 × Int))))]) [.keep [5, 14, 15, 16] [29]] (by kernel_rfl) ⟨h1, rfl⟩ ?_
    rintro n1 _ ⟨h4, rfl⟩
    cases n1 with
    | zero => exact absurd h4 (by simp [f6_s1_l1])
    | succ n1 =>
      unfold f6_s1_l1 at h4
      refine Run.sreg tied [] [] [] [] (by kernel_rfl) trivial ?_
      refine Run.seq ?_
      rcases ite_some h4 with ⟨hc2, h4⟩ | ⟨hc2, h4⟩
      · refine Run.condT (b := decide ((0 : Int) < ((0 : Nat) : Int))) (by kernel_rfl) hc2 ?_
        refine Run.skip ?_
        change Run _ _ _ _ _
        cases h4
      · refine Run.condF (b := decide ((0 : Int) < ((0 : Nat) : Int))) (by kernel_rfl) hc2 ?_
        refine Run.exit ?_
        refine tE ?_
        refine lE ?_
        refine bE ?_
        obtain rfl := Option.some.inj h4
        exact jQ.mk [.keep [] []] (by kernel_rfl) rfl
  · rintro _ rfl
    refine Run.sreg tied [] [] [] [] (by kernel_rfl) trivial ?_
    refine Run.ret ?_
    obtain rfl := Option.some.inj h
    exact (fQ_fin [] [some (.int .i64), some (.int .i64), some .bool] (msk 89 []) (by kernel_rfl)).1

/-- testamur.names.collect[string] -/
def f211_s1_l1 (a0 : List (List UInt8)) : Nat → Option Unit
  | 0 => none
  | _n1 + 1 => if (decide ((0 : Int) < (List.length a0 : Int))) = true then none else (some ())

def f211_s1 (a0 : List (List UInt8)) : Option (Bool × (List ((List UInt8) × Int))) :=
  Option.bind (f211_s1_l1 a0 (big)) fun (_o1 : Unit) => some (false, ([] : List ((List UInt8) × Int)))

set_option maxRecDepth 100000 in
theorem x211_s1 (a0 : List (List UInt8)) (r : Bool × (List ((List UInt8) × Int))) (h : f211_s1 a0 = some r) : Fc Tryz.prog gl 211 [(.val (.slice 16 .str) a0), (.func (.func 212) .nil .nil)] (hset (List.replicate 77 none) []) (.ret (.tup (.cons (.mp 28) (.cons (.val .bool r.1) .nil)))) (outH 77 [(28, (.map .str (.int .i64) r.2))]) := by
  refine Fc.of Tryz.call211 (FnEx.of_runF tied Tryz.func211 rfl rfl (σ0 := mkSt 37 77 [(0, (.val (.slice 16 .str) a0)), (1, (.func (.func 212) .nil .nil))] []) (by kernel_rfl) ?_)
  unfold f211_s1 at h
  refine Run.sreg tied [] [] [] [] (by kernel_rfl) trivial ?_
  refine Run.sreg tied [] [] [] [] (by kernel_rfl) trivial ?_
  obtain ⟨o1, h1, h⟩ := bind_some h
  refine Run.seqJ (fun σ' => σ' = mkSt 37 77 [(4, (.mp 28)), (5, (.val .bool false))] [(28, some (.map .str (.int .i64) ([] : List ((List UInt8) × Int))))]) ?_ ?_
  · refine Run.sreg tied [] [] [] [] (by kernel_rfl) trivial ?_
    refine Run.block ?_
    refine Run.loopJ (fun n σ => f211_s1_l1 a0 n = some o1 ∧ σ = mkSt 37 77 [(1, (.func (.func 212) .nil .nil)), (4, (.mp 28)), (5, (.val .bool false)), (13, (.val (.slice 16 .str) a0)), (14, (.val (.int .i64) (List.length a0 : Int))), (15, (.val (.int .i64) (0 : Int)))] [(28, some (.map .str (.int .i64) ([] : List ((List UInt8) × Int))))]) [.keep [1, 4, 5, 13, 14, 15] [28]] (by kernel_rfl) ⟨h1, rfl⟩ ?_
    rintro n1 _ ⟨h4, rfl⟩
    cases n1 with
    | zero => exact absurd h4 (by simp [f211_s1_l1])
    | succ n1 =>
      unfold f211_s1_l1 at h4
      refine Run.sreg tied [] [] [] [] (by kernel_rfl) trivial ?_
      refine Run.seq ?_
      rcases ite_some h4 with ⟨hc2, h4⟩ | ⟨hc2, h4⟩
      · refine Run.condT (b := decide ((0 : Int) < (List.length a0 : Int))) (by kernel_rfl) hc2 ?_
        refine Run.skip ?_
        change Run _ _ _ _ _
        cases h4
      · refine Run.condF (b := decide ((0 : Int) < (List.length a0 : Int))) (by kernel_rfl) hc2 ?_
        refine Run.exit ?_
        refine tE ?_
        refine lE ?_
        refine bE ?_
        obtain rfl := Option.some.inj h4
        exact jQ.mk [.keep [4, 5] [28]] (by kernel_rfl) rfl
  · rintro _ rfl
    refine Run.sreg tied [] [] [] [] (by kernel_rfl) trivial ?_
    refine Run.ret ?_
    obtain rfl := Option.some.inj h
    exact (fQ_fin [.keep [4, 5] [28]] [none, some .bool] (msk 77 [28]) (by kernel_rfl)).1

/-- testamur.names.collect[testamur.api.Unit] -/
def f213_s1_l1 (a0 : List D181) : Nat → Option Unit
  | 0 => none
  | _n1 + 1 => if (decide ((0 : Int) < (List.length a0 : Int))) = true then none else (some ())

def f213_s1 (a0 : List D181) : Option (Bool × (List ((List UInt8) × Int))) :=
  Option.bind (f213_s1_l1 a0 (big)) fun (_o1 : Unit) => some (false, ([] : List ((List UInt8) × Int)))

set_option maxRecDepth 100000 in
theorem x213_s1 (a0 : List D181) (r : Bool × (List ((List UInt8) × Int))) (h : f213_s1 a0 = some r) : Fc Tryz.prog gl 213 [(.val (.slice 56 T181) a0), (.func (.func 214) .nil .nil)] (hset (List.replicate 77 none) []) (.ret (.tup (.cons (.mp 28) (.cons (.val .bool r.1) .nil)))) (outH 77 [(28, (.map .str (.int .i64) r.2))]) := by
  refine Fc.of Tryz.call213 (FnEx.of_runF tied Tryz.func213 rfl rfl (σ0 := mkSt 37 77 [(0, (.val (.slice 56 T181) a0)), (1, (.func (.func 214) .nil .nil))] []) (by kernel_rfl) ?_)
  unfold f213_s1 at h
  refine Run.sreg tied [] [] [] [] (by kernel_rfl) trivial ?_
  refine Run.sreg tied [] [] [] [] (by kernel_rfl) trivial ?_
  obtain ⟨o1, h1, h⟩ := bind_some h
  refine Run.seqJ (fun σ' => σ' = mkSt 37 77 [(4, (.mp 28)), (5, (.val .bool false))] [(28, some (.map .str (.int .i64) ([] : List ((List UInt8) × Int))))]) ?_ ?_
  · refine Run.sreg tied [] [] [] [] (by kernel_rfl) trivial ?_
    refine Run.block ?_
    refine Run.loopJ (fun n σ => f213_s1_l1 a0 n = some o1 ∧ σ = mkSt 37 77 [(1, (.func (.func 214) .nil .nil)), (4, (.mp 28)), (5, (.val .bool false)), (13, (.val (.slice 56 T181) a0)), (14, (.val (.int .i64) (List.length a0 : Int))), (15, (.val (.int .i64) (0 : Int)))] [(28, some (.map .str (.int .i64) ([] : List ((List UInt8) × Int))))]) [.keep [1, 4, 5, 13, 14, 15] [28]] (by kernel_rfl) ⟨h1, rfl⟩ ?_
    rintro n1 _ ⟨h4, rfl⟩
    cases n1 with
    | zero => exact absurd h4 (by simp [f213_s1_l1])
    | succ n1 =>
      unfold f213_s1_l1 at h4
      refine Run.sreg tied [] [] [] [] (by kernel_rfl) trivial ?_
      refine Run.seq ?_
      rcases ite_some h4 with ⟨hc2, h4⟩ | ⟨hc2, h4⟩
      · refine Run.condT (b := decide ((0 : Int) < (List.length a0 : Int))) (by kernel_rfl) hc2 ?_
        refine Run.skip ?_
        change Run _ _ _ _ _
        cases h4
      · refine Run.condF (b := decide ((0 : Int) < (List.length a0 : Int))) (by kernel_rfl) hc2 ?_
        refine Run.exit ?_
        refine tE ?_
        refine lE ?_
        refine bE ?_
        obtain rfl := Option.some.inj h4
        exact jQ.mk [.keep [4, 5] [28]] (by kernel_rfl) rfl
  · rintro _ rfl
    refine Run.sreg tied [] [] [] [] (by kernel_rfl) trivial ?_
    refine Run.ret ?_
    obtain rfl := Option.some.inj h
    exact (fQ_fin [.keep [4, 5] [28]] [none, some .bool] (msk 77 [28]) (by kernel_rfl)).1

/-- testamur.names.collect[testamur.api.Schema] -/
def f215_s1_l1 (a0 : List D144) : Nat → Option Unit
  | 0 => none
  | _n1 + 1 => if (decide ((0 : Int) < (List.length a0 : Int))) = true then none else (some ())

def f215_s1 (a0 : List D144) : Option (Bool × (List ((List UInt8) × Int))) :=
  Option.bind (f215_s1_l1 a0 (big)) fun (_o1 : Unit) => some (false, ([] : List ((List UInt8) × Int)))

set_option maxRecDepth 100000 in
theorem x215_s1 (a0 : List D144) (r : Bool × (List ((List UInt8) × Int))) (h : f215_s1 a0 = some r) : Fc Tryz.prog gl 215 [(.val (.slice 96 T144) a0), (.func (.func 201) .nil .nil)] (hset (List.replicate 77 none) []) (.ret (.tup (.cons (.mp 28) (.cons (.val .bool r.1) .nil)))) (outH 77 [(28, (.map .str (.int .i64) r.2))]) := by
  refine Fc.of Tryz.call215 (FnEx.of_runF tied Tryz.func215 rfl rfl (σ0 := mkSt 37 77 [(0, (.val (.slice 96 T144) a0)), (1, (.func (.func 201) .nil .nil))] []) (by kernel_rfl) ?_)
  unfold f215_s1 at h
  refine Run.sreg tied [] [] [] [] (by kernel_rfl) trivial ?_
  refine Run.sreg tied [] [] [] [] (by kernel_rfl) trivial ?_
  obtain ⟨o1, h1, h⟩ := bind_some h
  refine Run.seqJ (fun σ' => σ' = mkSt 37 77 [(4, (.mp 28)), (5, (.val .bool false))] [(28, some (.map .str (.int .i64) ([] : List ((List UInt8) × Int))))]) ?_ ?_
  · refine Run.sreg tied [] [] [] [] (by kernel_rfl) trivial ?_
    refine Run.block ?_
    refine Run.loopJ (fun n σ => f215_s1_l1 a0 n = some o1 ∧ σ = mkSt 37 77 [(1, (.func (.func 201) .nil .nil)), (4, (.mp 28)), (5, (.val .bool false)), (13, (.val (.slice 96 T144) a0)), (14, (.val (.int .i64) (List.length a0 : Int))), (15, (.val (.int .i64) (0 : Int)))] [(28, some (.map .str (.int .i64) ([] : List ((List UInt8) × Int))))]) [.keep [1, 4, 5, 13, 14, 15] [28]] (by kernel_rfl) ⟨h1, rfl⟩ ?_
    rintro n1 _ ⟨h4, rfl⟩
    cases n1 with
    | zero => exact absurd h4 (by simp [f215_s1_l1])
    | succ n1 =>
      unfold f215_s1_l1 at h4
      refine Run.sreg tied [] [] [] [] (by kernel_rfl) trivial ?_
      refine Run.seq ?_
      rcases ite_some h4 with ⟨hc2, h4⟩ | ⟨hc2, h4⟩
      · refine Run.condT (b := decide ((0 : Int) < (List.length a0 : Int))) (by kernel_rfl) hc2 ?_
        refine Run.skip ?_
        change Run _ _ _ _ _
        cases h4
      · refine Run.condF (b := decide ((0 : Int) < (List.length a0 : Int))) (by kernel_rfl) hc2 ?_
        refine Run.exit ?_
        refine tE ?_
        refine lE ?_
        refine bE ?_
        obtain rfl := Option.some.inj h4
        exact jQ.mk [.keep [4, 5] [28]] (by kernel_rfl) rfl
  · rintro _ rfl
    refine Run.sreg tied [] [] [] [] (by kernel_rfl) trivial ?_
    refine Run.ret ?_
    obtain rfl := Option.some.inj h
    exact (fQ_fin [.keep [4, 5] [28]] [none, some .bool] (msk 77 [28]) (by kernel_rfl)).1

/-- testamur.names.collect[testamur.api.Purpose] -/
def f216_s1_l1 (a0 : List D132) : Nat → Option Unit
  | 0 => none
  | _n1 + 1 => if (decide ((0 : Int) < (List.length a0 : Int))) = true then none else (some ())

def f216_s1 (a0 : List D132) : Option (Bool × (List ((List UInt8) × Int))) :=
  Option.bind (f216_s1_l1 a0 (big)) fun (_o1 : Unit) => some (false, ([] : List ((List UInt8) × Int)))

set_option maxRecDepth 100000 in
theorem x216_s1 (a0 : List D132) (r : Bool × (List ((List UInt8) × Int))) (h : f216_s1 a0 = some r) : Fc Tryz.prog gl 216 [(.val (.slice 48 T132) a0), (.func (.func 120) .nil .nil)] (hset (List.replicate 77 none) []) (.ret (.tup (.cons (.mp 28) (.cons (.val .bool r.1) .nil)))) (outH 77 [(28, (.map .str (.int .i64) r.2))]) := by
  refine Fc.of Tryz.call216 (FnEx.of_runF tied Tryz.func216 rfl rfl (σ0 := mkSt 37 77 [(0, (.val (.slice 48 T132) a0)), (1, (.func (.func 120) .nil .nil))] []) (by kernel_rfl) ?_)
  unfold f216_s1 at h
  refine Run.sreg tied [] [] [] [] (by kernel_rfl) trivial ?_
  refine Run.sreg tied [] [] [] [] (by kernel_rfl) trivial ?_
  obtain ⟨o1, h1, h⟩ := bind_some h
  refine Run.seqJ (fun σ' => σ' = mkSt 37 77 [(4, (.mp 28)), (5, (.val .bool false))] [(28, some (.map .str (.int .i64) ([] : List ((List UInt8) × Int))))]) ?_ ?_
  · refine Run.sreg tied [] [] [] [] (by kernel_rfl) trivial ?_
    refine Run.block ?_
    refine Run.loopJ (fun n σ => f216_s1_l1 a0 n = some o1 ∧ σ = mkSt 37 77 [(1, (.func (.func 120) .nil .nil)), (4, (.mp 28)), (5, (.val .bool false)), (13, (.val (.slice 48 T132) a0)), (14, (.val (.int .i64) (List.length a0 : Int))), (15, (.val (.int .i64) (0 : Int)))] [(28, some (.map .str (.int .i64) ([] : List ((List UInt8) × Int))))]) [.keep [1, 4, 5, 13, 14, 15] [28]] (by kernel_rfl) ⟨h1, rfl⟩ ?_
    rintro n1 _ ⟨h4, rfl⟩
    cases n1 with
    | zero => exact absurd h4 (by simp [f216_s1_l1])
    | succ n1 =>
      unfold f216_s1_l1 at h4
      refine Run.sreg tied [] [] [] [] (by kernel_rfl) trivial ?_
      refine Run.seq ?_
      rcases ite_some h4 with ⟨hc2, h4⟩ | ⟨hc2, h4⟩
      · refine Run.condT (b := decide ((0 : Int) < (List.length a0 : Int))) (by kernel_rfl) hc2 ?_
        refine Run.skip ?_
        change Run _ _ _ _ _
        cases h4
      · refine Run.condF (b := decide ((0 : Int) < (List.length a0 : Int))) (by kernel_rfl) hc2 ?_
        refine Run.exit ?_
        refine tE ?_
        refine lE ?_
        refine bE ?_
        obtain rfl := Option.some.inj h4
        exact jQ.mk [.keep [4, 5] [28]] (by kernel_rfl) rfl
  · rintro _ rfl
    refine Run.sreg tied [] [] [] [] (by kernel_rfl) trivial ?_
    refine Run.ret ?_
    obtain rfl := Option.some.inj h
    exact (fQ_fin [.keep [4, 5] [28]] [none, some .bool] (msk 77 [28]) (by kernel_rfl)).1

/-- testamur.names.gather -/
def f132_s1_l1 (a0 : D46) (_y1 : Bool × (List ((List UInt8) × Int))) (_y3 : Bool × (List ((List UInt8) × Int))) (_y7 : Bool × (List ((List UInt8) × Int))) (_o13 : Bool) : Nat → Option Unit
  | 0 => none
  | _n1 + 1 => if (decide ((0 : Int) < (List.length a0.2.2.1 : Int))) = true then none else (some ())

def f132_s1_l2 (a0 : D46) (_y1 : Bool × (List ((List UInt8) × Int))) (_y3 : Bool × (List ((List UInt8) × Int))) (_y7 : Bool × (List ((List UInt8) × Int))) (_o13 : Bool) : Nat → Option Unit
  | 0 => none
  | _n2 + 1 => if (decide ((0 : Int) < (List.length a0.2.2.2.1 : Int))) = true then none else (some ())

def f132_s1 (a0 : D46) : Option (Bool × (List ((List UInt8) × Int)) × (List ((List UInt8) × Int)) × (List ((List UInt8) × Int))) :=
  Option.bind (f211_s1 a0.1) fun y1 => Option.bind (f213_s1 a0.2.1) fun y3 => Option.bind (if y1.1 = true then (some true) else (some y3.1)) fun (o5 : Bool) => Option.bind (f215_s1 a0.2.2.1) fun y7 => Option.bind (if o5 = true then (some true) else (some y7.1)) fun (o9 : Bool) => Option.bind (f216_s1 a0.2.2.2.2.2.1) fun y11 => Option.bind (if o9 = true then (some true) else (some y11.1)) fun (o13 : Bool) => Option.bind (f132_s1_l1 a0 y1 y3 y7 o13 (big)) fun (_o15 : Unit) => Option.bind (f132_s1_l2 a0 y1 y3 y7 o13 (big)) fun (_o17 : Unit) => some (o13, y1.2, y3.2, y7.2)

set_option maxRecDepth 100000 in
theorem x132_s1 (a0 : D46) (r : Bool × (List ((List UInt8) × Int)) × (List ((List UInt8) × Int)) × (List ((List UInt8) × Int))) (h : f132_s1 a0 = some r) : Fc Tryz.prog gl 132 [(.val T46 a0)] (hset (List.replicate 148 none) []) (.ret (.tup (.cons (.ptr 30 []) (.cons (.val .bool r.1) .nil)))) (outH 148 [(30, (.var T298 (.cons (.mp 35) (.cons (.mp 44) (.cons (.mp 57) (.cons .nils .nil)))))), (35, (.map .str (.int .i64) r.2.1)), (44, (.map .str (.int .i64) r.2.2.1)), (57, (.map .str (.int .i64) r.2.2.2))]) := by
  refine Fc.of Tryz.call132 (FnEx.of_runF tied Tryz.func132 rfl rfl (σ0 := mkSt 108 148 [(0, (.val T46 a0))] []) (by kernel_rfl) ?_)
  unfold f132_s1 at h
  refine Run.sreg tied [] [] [] [] (by kernel_rfl) trivial ?_
  refine Run.sreg tied [] [] [] [] (by kernel_rfl) trivial ?_
  refine Run.sreg tied [] [] [] [] (by kernel_rfl) trivial ?_
  obtain ⟨y1, hy2, h⟩ := bind_some h
  refine Run.sreg tied [⟨(.tup (.cons (.mp 28) (.cons (.val .bool y1.1) .nil))), [], [(28, 35)], [(28, (.map .str (.int .i64) y1.2))], 77⟩] [] [] [Fc Tryz.prog gl 211 [(.val (.slice 16 .str) a0.1), (.func (.func 212) .nil .nil)] (hset (List.replicate 77 none) []) (.ret (.tup (.cons (.mp 28) (.cons (.val .bool y1.1) .nil)))) (outH 77 [(28, (.map .str (.int .i64) y1.2))])] (by kernel_rfl) ⟨x211_s1 _ _ hy2, trivial⟩ ?_
  obtain ⟨y3, hy4, h⟩ := bind_some h
  refine Run.sreg tied [⟨(.tup (.cons (.mp 28) (.cons (.val .bool y3.1) .nil))), [], [(28, 44)], [(28, (.map .str (.int .i64) y3.2))], 77⟩] [] [] [Fc Tryz.prog gl 213 [(.val (.slice 56 T181) a0.2.1), (.func (.func 214) .nil .nil)] (hset (List.replicate 77 none) []) (.ret (.tup (.cons (.mp 28) (.cons (.val .bool y3.1) .nil)))) (outH 77 [(28, (.map .str (.int .i64) y3.2))])] (by kernel_rfl) ⟨x213_s1 _ _ hy4, trivial⟩ ?_
  obtain ⟨o5, h1, h⟩ := bind_some h
  refine Run.seqJ (fun σ' => σ' = mkSt 108 148 [(1, (.ptr 17 [])), (2, (.ptr 30 [])), (3, (.val .bool o5))] [(17, some (.var T46 (.val T46 a0))), (30, some (.var T298 (.cons (.mp 35) (.cons (.mp 44) (.cons .nilm (.cons .nils .nil)))))), (35, some (.map .str (.int .i64) y1.2)), (44, some (.map .str (.int .i64) y3.2))]) ?_ ?_
  · rcases ite_some h1 with ⟨hg6, h1⟩ | ⟨hg6, h1⟩
    · refine Run.reg tied [] [true] [] [y1.1 = true] (by kernel_rfl) ⟨hg6, trivial⟩ ?_
      obtain rfl := Option.some.inj h1
      exact jQ.mk [.keep [1, 2, 3] [17, 30, 35, 44]] (by kernel_rfl) rfl
    · refine Run.reg tied [] [false] [] [y1.1 = false] (by kernel_rfl) ⟨hg6, trivial⟩ ?_
      obtain rfl := Option.some.inj h1
      exact jQ.mk [.keep [1, 2, 3] [17, 30, 35, 44]] (by kernel_rfl) rfl
  · rintro _ rfl
    obtain ⟨y7, hy8, h⟩ := bind_some h
    refine Run.sreg tied [⟨(.tup (.cons (.mp 28) (.cons (.val .bool y7.1) .nil))), [], [(28, 57)], [(28, (.map .str (.int .i64) y7.2))], 77⟩] [] [] [Fc Tryz.prog gl 215 [(.val (.slice 96 T144) a0.2.2.1), (.func (.func 201) .nil .nil)] (hset (List.replicate 77 none) []) (.ret (.tup (.cons (.mp 28) (.cons (.val .bool y7.1) .nil)))) (outH 77 [(28, (.map .str (.int .i64) y7.2))])] (by kernel_rfl) ⟨x215_s1 _ _ hy8, trivial⟩ ?_
    obtain ⟨o9, h2, h⟩ := bind_some h
    refine Run.seqJ (fun σ' => σ' = mkSt 108 148 [(1, (.ptr 17 [])), (2, (.ptr 30 [])), (3, (.val .bool o9))] [(17, some (.var T46 (.val T46 a0))), (30, some (.var T298 (.cons (.mp 35) (.cons (.mp 44) (.cons (.mp 57) (.cons .nils .nil)))))), (35, some (.map .str (.int .i64) y1.2)), (44, some (.map .str (.int .i64) y3.2)), (57, some (.map .str (.int .i64) y7.2))]) ?_ ?_
    · rcases ite_some h2 with ⟨hg10, h2⟩ | ⟨hg10, h2⟩
      · refine Run.reg tied [] [true] [] [o5 = true] (by kernel_rfl) ⟨hg10, trivial⟩ ?_
        obtain rfl := Option.some.inj h2
        exact jQ.mk [.keep [1, 2, 3] [17, 30, 35, 44, 57]] (by kernel_rfl) rfl
      · refine Run.reg tied [] [false] [] [o5 = false] (by kernel_rfl) ⟨hg10, trivial⟩ ?_
        obtain rfl := Option.some.inj h2
        exact jQ.mk [.keep [1, 2, 3] [17, 30, 35, 44, 57]] (by kernel_rfl) rfl
    · rintro _ rfl
      obtain ⟨y11, hy12, h⟩ := bind_some h
      refine Run.sreg tied [⟨(.tup (.cons (.mp 28) (.cons (.val .bool y11.1) .nil))), [], [(28, 69)], [(28, (.map .str (.int .i64) y11.2))], 77⟩] [] [] [Fc Tryz.prog gl 216 [(.val (.slice 48 T132) a0.2.2.2.2.2.1), (.func (.func 120) .nil .nil)] (hset (List.replicate 77 none) []) (.ret (.tup (.cons (.mp 28) (.cons (.val .bool y11.1) .nil)))) (outH 77 [(28, (.map .str (.int .i64) y11.2))])] (by kernel_rfl) ⟨x216_s1 _ _ hy12, trivial⟩ ?_
      obtain ⟨o13, h3, h⟩ := bind_some h
      refine Run.seqJ (fun σ' => σ' = mkSt 108 148 [(1, (.ptr 17 [])), (2, (.ptr 30 [])), (3, (.val .bool o13))] [(17, some (.var T46 (.val T46 a0))), (30, some (.var T298 (.cons (.mp 35) (.cons (.mp 44) (.cons (.mp 57) (.cons .nils .nil)))))), (35, some (.map .str (.int .i64) y1.2)), (44, some (.map .str (.int .i64) y3.2)), (57, some (.map .str (.int .i64) y7.2))]) ?_ ?_
      · rcases ite_some h3 with ⟨hg14, h3⟩ | ⟨hg14, h3⟩
        · refine Run.reg tied [] [true] [] [o9 = true] (by kernel_rfl) ⟨hg14, trivial⟩ ?_
          obtain rfl := Option.some.inj h3
          exact jQ.mk [.keep [1, 2, 3] [17, 30, 35, 44, 57]] (by kernel_rfl) rfl
        · refine Run.reg tied [] [false] [] [o9 = false] (by kernel_rfl) ⟨hg14, trivial⟩ ?_
          obtain rfl := Option.some.inj h3
          exact jQ.mk [.keep [1, 2, 3] [17, 30, 35, 44, 57]] (by kernel_rfl) rfl
      · rintro _ rfl
        obtain ⟨o15, h4, h⟩ := bind_some h
        refine Run.seqJ (fun σ' => σ' = mkSt 108 148 [(1, (.ptr 17 [])), (2, (.ptr 30 [])), (3, (.val .bool o13))] [(17, some (.var T46 (.val T46 a0))), (30, some (.var T298 (.cons (.mp 35) (.cons (.mp 44) (.cons (.mp 57) (.cons .nils .nil)))))), (35, some (.map .str (.int .i64) y1.2)), (44, some (.map .str (.int .i64) y3.2)), (57, some (.map .str (.int .i64) y7.2))]) ?_ ?_
        · refine Run.sreg tied [] [] [] [] (by kernel_rfl) trivial ?_
          refine Run.block ?_
          refine Run.loopJ (fun n σ => f132_s1_l1 a0 y1 y3 y7 o13 n = some o15 ∧ σ = mkSt 108 148 [(1, (.ptr 17 [])), (2, (.ptr 30 [])), (3, (.val .bool o13)), (61, (.val (.slice 96 T144) a0.2.2.1)), (62, (.val (.int .i64) (List.length a0.2.2.1 : Int))), (63, (.val (.int .i64) (0 : Int)))] [(17, some (.var T46 (.val T46 a0))), (30, some (.var T298 (.cons (.mp 35) (.cons (.mp 44) (.cons (.mp 57) (.cons .nils .nil)))))), (35, some (.map .str (.int .i64) y1.2)), (44, some (.map .str (.int .i64) y3.2)), (57, some (.map .str (.int .i64) y7.2))]) [.keep [1, 2, 3, 61, 62, 63] [17, 30, 35, 44, 57]] (by kernel_rfl) ⟨h4, rfl⟩ ?_
          rintro n1 _ ⟨h7, rfl⟩
          cases n1 with
          | zero => exact absurd h7 (by simp [f132_s1_l1])
          | succ n1 =>
            unfold f132_s1_l1 at h7
            refine Run.sreg tied [] [] [] [] (by kernel_rfl) trivial ?_
            refine Run.seq ?_
            rcases ite_some h7 with ⟨hc16, h7⟩ | ⟨hc16, h7⟩
            · refine Run.condT (b := decide ((0 : Int) < (List.length a0.2.2.1 : Int))) (by kernel_rfl) hc16 ?_
              refine Run.skip ?_
              change Run _ _ _ _ _
              cases h7
            · refine Run.condF (b := decide ((0 : Int) < (List.length a0.2.2.1 : Int))) (by kernel_rfl) hc16 ?_
              refine Run.exit ?_
              refine tE ?_
              refine lE ?_
              refine bE ?_
              obtain rfl := Option.some.inj h7
              exact jQ.mk [.keep [1, 2, 3] [17, 30, 35, 44, 57]] (by kernel_rfl) rfl
        · rintro _ rfl
          obtain ⟨o17, h9, h⟩ := bind_some h
          refine Run.seqJ (fun σ' => σ' = mkSt 108 148 [(2, (.ptr 30 [])), (3, (.val .bool o13))] [(30, some (.var T298 (.cons (.mp 35) (.cons (.mp 44) (.cons (.mp 57) (.cons .nils .nil)))))), (35, some (.map .str (.int .i64) y1.2)), (44, some (.map .str (.int .i64) y3.2)), (57, some (.map .str (.int .i64) y7.2))]) ?_ ?_
          · refine Run.sreg tied [] [] [] [] (by kernel_rfl) trivial ?_
            refine Run.block ?_
            refine Run.loopJ (fun n σ => f132_s1_l2 a0 y1 y3 y7 o13 n = some o17 ∧ σ = mkSt 108 148 [(2, (.ptr 30 [])), (3, (.val .bool o13)), (89, (.val (.slice 96 T175) a0.2.2.2.1)), (90, (.val (.int .i64) (List.length a0.2.2.2.1 : Int))), (91, (.val (.int .i64) (0 : Int)))] [(30, some (.var T298 (.cons (.mp 35) (.cons (.mp 44) (.cons (.mp 57) (.cons .nils .nil)))))), (35, some (.map .str (.int .i64) y1.2)), (44, some (.map .str (.int .i64) y3.2)), (57, some (.map .str (.int .i64) y7.2))]) [.keep [2, 3, 89, 90, 91] [30, 35, 44, 57]] (by kernel_rfl) ⟨h9, rfl⟩ ?_
            rintro n2 _ ⟨h12, rfl⟩
            cases n2 with
            | zero => exact absurd h12 (by simp [f132_s1_l2])
            | succ n2 =>
              unfold f132_s1_l2 at h12
              refine Run.sreg tied [] [] [] [] (by kernel_rfl) trivial ?_
              refine Run.seq ?_
              rcases ite_some h12 with ⟨hc18, h12⟩ | ⟨hc18, h12⟩
              · refine Run.condT (b := decide ((0 : Int) < (List.length a0.2.2.2.1 : Int))) (by kernel_rfl) hc18 ?_
                refine Run.skip ?_
                change Run _ _ _ _ _
                cases h12
              · refine Run.condF (b := decide ((0 : Int) < (List.length a0.2.2.2.1 : Int))) (by kernel_rfl) hc18 ?_
                refine Run.exit ?_
                refine tE ?_
                refine lE ?_
                refine bE ?_
                obtain rfl := Option.some.inj h12
                exact jQ.mk [.keep [2, 3] [30, 35, 44, 57]] (by kernel_rfl) rfl
          · rintro _ rfl
            refine Run.sreg tied [] [] [] [] (by kernel_rfl) trivial ?_
            refine Run.ret ?_
            obtain rfl := Option.some.inj h
            exact (fQ_fin [.keep [2, 3] [30, 35, 44, 57]] [none, some .bool] (msk 148 [30, 35, 44, 57]) (by kernel_rfl)).1

/-- slices.Clone[[]string,string] -/
def f134 (a0 : List (List UInt8)) : Option (List (List UInt8)) := if (List.length ([] : List (List UInt8)) + List.length a0) * 16 ≤ maxB then some a0 else none

set_option maxRecDepth 100000 in
theorem x134 (a0 : List (List UInt8)) (r : List (List UInt8)) (h : f134 a0 = some r) : Fc Tryz.prog gl 134 [(.val (.slice 16 .str) a0)] (hset (List.replicate 48 none) []) (.ret (.val (.slice 16 .str) r)) (outH 48 []) := by
  refine Fc.of Tryz.call134 (FnEx.of_runF tied Tryz.func134 rfl rfl (σ0 := mkSt 8 48 [(0, (.val (.slice 16 .str) a0))] []) (by kernel_rfl) ?_)
  unfold f134 at h
  obtain ⟨hv, h⟩ := ite_none h
  obtain rfl := Option.some.inj h
  refine Run.sreg tied [] [] [] [] (by kernel_rfl) trivial ?_
  refine Run.seq ?_
  refine Run.sregNil (.tmp 0) 3 4 40 40 9 16 .str a0 rfl rfl rfl rfl rfl rfl (by kernel_rfl) fact1 rfl ?_
  intro b hb
  cases b with
  | true =>
    have hx := hb rfl
    subst hx
    refine Run.condT (b := true) (by kernel_rfl) rfl ?_
    refine Run.sreg tied [] [] [] [] (by kernel_rfl) trivial ?_
    refine Run.ret ?_
    exact (fQ_fin [] [some (.slice 16 .str)] (msk 48 []) (by kernel_rfl)).1
  | false =>
    refine Run.condF (b := false) (by kernel_rfl) rfl ?_
    refine Run.skip ?_
    change Run _ _ _ _ _
    refine Run.sreg tied [] [] [] [(List.length ([] : List (List UInt8)) + List.length a0) * 16 ≤ maxB] (by kernel_rfl) ⟨hv, trivial⟩ ?_
    refine Run.ret ?_
    exact (fQ_fin [.freeze 23 (.slice 16 .str)] [some (.slice 16 .str)] (msk 48 []) (by kernel_rfl)).1

/-- slices.Clone[[]testamur.api.Unit,testamur.api.Unit] -/
def f135 (a0 : List D181) : Option (List D181) := if (List.length ([] : List D181) + List.length a0) * 56 ≤ maxB then some a0 else none

set_option maxRecDepth 100000 in
theorem x135 (a0 : List D181) (r : List D181) (h : f135 a0 = some r) : Fc Tryz.prog gl 135 [(.val (.slice 56 T181) a0)] (hset (List.replicate 48 none) []) (.ret (.val (.slice 56 T181) r)) (outH 48 []) := by
  refine Fc.of Tryz.call135 (FnEx.of_runF tied Tryz.func135 rfl rfl (σ0 := mkSt 8 48 [(0, (.val (.slice 56 T181) a0))] []) (by kernel_rfl) ?_)
  unfold f135 at h
  obtain ⟨hv, h⟩ := ite_none h
  obtain rfl := Option.some.inj h
  refine Run.sreg tied [] [] [] [] (by kernel_rfl) trivial ?_
  refine Run.seq ?_
  refine Run.sregNil (.tmp 0) 3 4 41 41 181 56 T181 a0 rfl rfl rfl rfl rfl rfl (by kernel_rfl) fact2 rfl ?_
  intro b hb
  cases b with
  | true =>
    have hx := hb rfl
    subst hx
    refine Run.condT (b := true) (by kernel_rfl) rfl ?_
    refine Run.sreg tied [] [] [] [] (by kernel_rfl) trivial ?_
    refine Run.ret ?_
    exact (fQ_fin [] [some (.slice 56 T181)] (msk 48 []) (by kernel_rfl)).1
  | false =>
    refine Run.condF (b := false) (by kernel_rfl) rfl ?_
    refine Run.skip ?_
    change Run _ _ _ _ _
    refine Run.sreg tied [] [] [] [(List.length ([] : List D181) + List.length a0) * 56 ≤ maxB] (by kernel_rfl) ⟨hv, trivial⟩ ?_
    refine Run.ret ?_
    exact (fQ_fin [.freeze 23 (.slice 56 T181)] [some (.slice 56 T181)] (msk 48 []) (by kernel_rfl)).1

/-- slices.Clone[[]testamur.api.Schema,testamur.api.Schema] -/
def f136 (a0 : List D144) : Option (List D144) := if (List.length ([] : List D144) + List.length a0) * 96 ≤ maxB then some a0 else none

set_option maxRecDepth 100000 in
theorem x136 (a0 : List D144) (r : List D144) (h : f136 a0 = some r) : Fc Tryz.prog gl 136 [(.val (.slice 96 T144) a0)] (hset (List.replicate 48 none) []) (.ret (.val (.slice 96 T144) r)) (outH 48 []) := by
  refine Fc.of Tryz.call136 (FnEx.of_runF tied Tryz.func136 rfl rfl (σ0 := mkSt 8 48 [(0, (.val (.slice 96 T144) a0))] []) (by kernel_rfl) ?_)
  unfold f136 at h
  obtain ⟨hv, h⟩ := ite_none h
  obtain rfl := Option.some.inj h
  refine Run.sreg tied [] [] [] [] (by kernel_rfl) trivial ?_
  refine Run.seq ?_
  refine Run.sregNil (.tmp 0) 3 4 42 42 144 96 T144 a0 rfl rfl rfl rfl rfl rfl (by kernel_rfl) fact3 rfl ?_
  intro b hb
  cases b with
  | true =>
    have hx := hb rfl
    subst hx
    refine Run.condT (b := true) (by kernel_rfl) rfl ?_
    refine Run.sreg tied [] [] [] [] (by kernel_rfl) trivial ?_
    refine Run.ret ?_
    exact (fQ_fin [] [some (.slice 96 T144)] (msk 48 []) (by kernel_rfl)).1
  | false =>
    refine Run.condF (b := false) (by kernel_rfl) rfl ?_
    refine Run.skip ?_
    change Run _ _ _ _ _
    refine Run.sreg tied [] [] [] [(List.length ([] : List D144) + List.length a0) * 96 ≤ maxB] (by kernel_rfl) ⟨hv, trivial⟩ ?_
    refine Run.ret ?_
    exact (fQ_fin [.freeze 23 (.slice 96 T144)] [some (.slice 96 T144)] (msk 48 []) (by kernel_rfl)).1

/-- slices.Clone[[]testamur.api.Rule,testamur.api.Rule] -/
def f137 (a0 : List D175) : Option (List D175) := if (List.length ([] : List D175) + List.length a0) * 96 ≤ maxB then some a0 else none

set_option maxRecDepth 100000 in
theorem x137 (a0 : List D175) (r : List D175) (h : f137 a0 = some r) : Fc Tryz.prog gl 137 [(.val (.slice 96 T175) a0)] (hset (List.replicate 48 none) []) (.ret (.val (.slice 96 T175) r)) (outH 48 []) := by
  refine Fc.of Tryz.call137 (FnEx.of_runF tied Tryz.func137 rfl rfl (σ0 := mkSt 8 48 [(0, (.val (.slice 96 T175) a0))] []) (by kernel_rfl) ?_)
  unfold f137 at h
  obtain ⟨hv, h⟩ := ite_none h
  obtain rfl := Option.some.inj h
  refine Run.sreg tied [] [] [] [] (by kernel_rfl) trivial ?_
  refine Run.seq ?_
  refine Run.sregNil (.tmp 0) 3 4 43 43 175 96 T175 a0 rfl rfl rfl rfl rfl rfl (by kernel_rfl) fact4 rfl ?_
  intro b hb
  cases b with
  | true =>
    have hx := hb rfl
    subst hx
    refine Run.condT (b := true) (by kernel_rfl) rfl ?_
    refine Run.sreg tied [] [] [] [] (by kernel_rfl) trivial ?_
    refine Run.ret ?_
    exact (fQ_fin [] [some (.slice 96 T175)] (msk 48 []) (by kernel_rfl)).1
  | false =>
    refine Run.condF (b := false) (by kernel_rfl) rfl ?_
    refine Run.skip ?_
    change Run _ _ _ _ _
    refine Run.sreg tied [] [] [] [(List.length ([] : List D175) + List.length a0) * 96 ≤ maxB] (by kernel_rfl) ⟨hv, trivial⟩ ?_
    refine Run.ret ?_
    exact (fQ_fin [.freeze 23 (.slice 96 T175)] [some (.slice 96 T175)] (msk 48 []) (by kernel_rfl)).1

/-- slices.Clone[[]testamur.api.Convert,testamur.api.Convert] -/
def f138 (a0 : List D193) : Option (List D193) := if (List.length ([] : List D193) + List.length a0) * 72 ≤ maxB then some a0 else none

set_option maxRecDepth 100000 in
theorem x138 (a0 : List D193) (r : List D193) (h : f138 a0 = some r) : Fc Tryz.prog gl 138 [(.val (.slice 72 T193) a0)] (hset (List.replicate 48 none) []) (.ret (.val (.slice 72 T193) r)) (outH 48 []) := by
  refine Fc.of Tryz.call138 (FnEx.of_runF tied Tryz.func138 rfl rfl (σ0 := mkSt 8 48 [(0, (.val (.slice 72 T193) a0))] []) (by kernel_rfl) ?_)
  unfold f138 at h
  obtain ⟨hv, h⟩ := ite_none h
  obtain rfl := Option.some.inj h
  refine Run.sreg tied [] [] [] [] (by kernel_rfl) trivial ?_
  refine Run.seq ?_
  refine Run.sregNil (.tmp 0) 3 4 44 44 193 72 T193 a0 rfl rfl rfl rfl rfl rfl (by kernel_rfl) fact5 rfl ?_
  intro b hb
  cases b with
  | true =>
    have hx := hb rfl
    subst hx
    refine Run.condT (b := true) (by kernel_rfl) rfl ?_
    refine Run.sreg tied [] [] [] [] (by kernel_rfl) trivial ?_
    refine Run.ret ?_
    exact (fQ_fin [] [some (.slice 72 T193)] (msk 48 []) (by kernel_rfl)).1
  | false =>
    refine Run.condF (b := false) (by kernel_rfl) rfl ?_
    refine Run.skip ?_
    change Run _ _ _ _ _
    refine Run.sreg tied [] [] [] [(List.length ([] : List D193) + List.length a0) * 72 ≤ maxB] (by kernel_rfl) ⟨hv, trivial⟩ ?_
    refine Run.ret ?_
    exact (fQ_fin [.freeze 23 (.slice 72 T193)] [some (.slice 72 T193)] (msk 48 []) (by kernel_rfl)).1

/-- slices.Clone[[]testamur.api.Purpose,testamur.api.Purpose] -/
def f139 (a0 : List D132) : Option (List D132) := if (List.length ([] : List D132) + List.length a0) * 48 ≤ maxB then some a0 else none

set_option maxRecDepth 100000 in
theorem x139 (a0 : List D132) (r : List D132) (h : f139 a0 = some r) : Fc Tryz.prog gl 139 [(.val (.slice 48 T132) a0)] (hset (List.replicate 48 none) []) (.ret (.val (.slice 48 T132) r)) (outH 48 []) := by
  refine Fc.of Tryz.call139 (FnEx.of_runF tied Tryz.func139 rfl rfl (σ0 := mkSt 8 48 [(0, (.val (.slice 48 T132) a0))] []) (by kernel_rfl) ?_)
  unfold f139 at h
  obtain ⟨hv, h⟩ := ite_none h
  obtain rfl := Option.some.inj h
  refine Run.sreg tied [] [] [] [] (by kernel_rfl) trivial ?_
  refine Run.seq ?_
  refine Run.sregNil (.tmp 0) 3 4 45 45 132 48 T132 a0 rfl rfl rfl rfl rfl rfl (by kernel_rfl) fact6 rfl ?_
  intro b hb
  cases b with
  | true =>
    have hx := hb rfl
    subst hx
    refine Run.condT (b := true) (by kernel_rfl) rfl ?_
    refine Run.sreg tied [] [] [] [] (by kernel_rfl) trivial ?_
    refine Run.ret ?_
    exact (fQ_fin [] [some (.slice 48 T132)] (msk 48 []) (by kernel_rfl)).1
  | false =>
    refine Run.condF (b := false) (by kernel_rfl) rfl ?_
    refine Run.skip ?_
    change Run _ _ _ _ _
    refine Run.sreg tied [] [] [] [(List.length ([] : List D132) + List.length a0) * 48 ≤ maxB] (by kernel_rfl) ⟨hv, trivial⟩ ?_
    refine Run.ret ?_
    exact (fQ_fin [.freeze 23 (.slice 48 T132)] [some (.slice 48 T132)] (msk 48 []) (by kernel_rfl)).1

/-- (*testamur.names.resolver).numberUnits -/
def f140_s1_l1 (a0 : List D181) (_a1 : List ((List UInt8) × Int)) (_a2 : List ((List UInt8) × Int)) (_a3 : List ((List UInt8) × Int)) : Nat → Option Unit
  | 0 => none
  | _n1 + 1 => if (decide ((0 : Int) < (List.length a0 : Int))) = true then none else (some ())

def f140_s1 (a0 : List D181) (a1 : List ((List UInt8) × Int)) (a2 : List ((List UInt8) × Int)) (a3 : List ((List UInt8) × Int)) : Option ((List ((List UInt8) × Int)) × (List ((List UInt8) × Int)) × (List ((List UInt8) × Int))) :=
  Option.bind (f140_s1_l1 a0 a1 a2 a3 (big)) fun (_o1 : Unit) => some (a1, a2, a3)

set_option maxRecDepth 100000 in
theorem x140_s1 (a0 : List D181) (a1 : List ((List UInt8) × Int)) (a2 : List ((List UInt8) × Int)) (a3 : List ((List UInt8) × Int)) (r : (List ((List UInt8) × Int)) × (List ((List UInt8) × Int)) × (List ((List UInt8) × Int))) (h : f140_s1 a0 a1 a2 a3 = some r) : Fc Tryz.prog gl 140 [(.ptr 0 []), (.val (.slice 56 T181) a0)] (hset (List.replicate 131 none) [(0, some (.var T298 (.cons (.mp 1) (.cons (.mp 2) (.cons (.mp 3) (.cons .nils .nil)))))), (1, some (.map .str (.int .i64) a1)), (2, some (.map .str (.int .i64) a2)), (3, some (.map .str (.int .i64) a3))]) (.ret (.tup .nil)) (outH 131 [(0, (.var T298 (.cons (.mp 1) (.cons (.mp 2) (.cons (.mp 3) (.cons .nils .nil)))))), (1, (.map .str (.int .i64) r.1)), (2, (.map .str (.int .i64) r.2.1)), (3, (.map .str (.int .i64) r.2.2))]) := by
  refine Fc.of Tryz.call140 (FnEx.of_runF tied Tryz.func140 rfl rfl (σ0 := mkSt 91 131 [(0, (.ptr 0 [])), (1, (.val (.slice 56 T181) a0))] [(0, some (.var T298 (.cons (.mp 1) (.cons (.mp 2) (.cons (.mp 3) (.cons .nils .nil)))))), (1, some (.map .str (.int .i64) a1)), (2, some (.map .str (.int .i64) a2)), (3, some (.map .str (.int .i64) a3))]) (by kernel_rfl) ?_)
  unfold f140_s1 at h
  refine Run.sreg tied [] [] [] [] (by kernel_rfl) trivial ?_
  obtain ⟨o1, h1, h⟩ := bind_some h
  refine Run.lastJ (fun σ' => σ' = mkSt 91 131 [] [(0, some (.var T298 (.cons (.mp 1) (.cons (.mp 2) (.cons (.mp 3) (.cons .nils .nil)))))), (1, some (.map .str (.int .i64) a1)), (2, some (.map .str (.int .i64) a2)), (3, some (.map .str (.int .i64) a3))]) Cl.f ?_ ?_
  · refine Run.block ?_
    refine Run.loopJ (fun n σ => f140_s1_l1 a0 a1 a2 a3 n = some o1 ∧ σ = mkSt 91 131 [(0, (.ptr 0 [])), (1, (.val (.slice 56 T181) a0)), (8, (.val (.int .i64) (List.length a0 : Int))), (9, (.val (.int .i64) (0 : Int)))] [(0, some (.var T298 (.cons (.mp 1) (.cons (.mp 2) (.cons (.mp 3) (.cons .nils .nil)))))), (1, some (.map .str (.int .i64) a1)), (2, some (.map .str (.int .i64) a2)), (3, some (.map .str (.int .i64) a3))]) [.keep [0, 1, 8, 9] [0, 1, 2, 3]] (by kernel_rfl) ⟨h1, rfl⟩ ?_
    rintro n1 _ ⟨h4, rfl⟩
    cases n1 with
    | zero => exact absurd h4 (by simp [f140_s1_l1])
    | succ n1 =>
      unfold f140_s1_l1 at h4
      refine Run.sreg tied [] [] [] [] (by kernel_rfl) trivial ?_
      refine Run.seq ?_
      rcases ite_some h4 with ⟨hc2, h4⟩ | ⟨hc2, h4⟩
      · refine Run.condT (b := decide ((0 : Int) < (List.length a0 : Int))) (by kernel_rfl) hc2 ?_
        refine Run.skip ?_
        change Run _ _ _ _ _
        cases h4
      · refine Run.condF (b := decide ((0 : Int) < (List.length a0 : Int))) (by kernel_rfl) hc2 ?_
        refine Run.exit ?_
        refine tE ?_
        refine lE ?_
        refine bE ?_
        obtain rfl := Option.some.inj h4
        exact jQ.mk [.keep [] [0, 1, 2, 3]] (by kernel_rfl) rfl
  · rintro _ rfl
    obtain rfl := Option.some.inj h
    exact (fQ_fin [.keep [] [0, 1, 2, 3]] [] (msk 131 [0, 1, 2, 3]) (by kernel_rfl)).2

/-- testamur.names.Resolve$1 -/
def f133_d1 (a0 : D46) (a1 : Int) : Option (D46 × Int) :=
  some (a0, a1)

set_option maxRecDepth 100000 in
theorem x133_d1 (a0 : D46) (a1 : Int) (r : D46 × Int) (h : f133_d1 a0 a1 = some r) : FdN Tryz.prog gl 133 [(.ptr 0 []), (.ptr 1 [])] (hset (List.replicate 57 none) [(0, some (.var T46 (.val T46 a0))), (1, some (.var (.int .i64) (.val (.int .i64) a1)))]) (outH 57 [(0, (.var T46 (.val T46 r.1))), (1, (.var (.int .i64) (.val (.int .i64) r.2)))]) := by
  refine FdN.of_run tied Tryz.call133 Tryz.func133 rfl rfl rfl rfl rfl rfl rfl rfl rfl (r := .tup .nil) (σ0 := mkSt 17 57 [(0, (.ptr 0 [])), (1, (.ptr 1 [])), (2, .nili), (5, .nili)] [(0, some (.var T46 (.val T46 a0))), (1, some (.var (.int .i64) (.val (.int .i64) a1)))]) (by kernel_rfl) (by kernel_rfl) ?_
  unfold f133_d1 at h
  refine Run.sreg tied [] [] [] [] (by kernel_rfl) trivial ?_
  refine Run.condF (b := false) (by kernel_rfl) rfl ?_
  refine Run.skip ?_
  obtain rfl := Option.some.inj h
  exact (fQ_fin [.keep [] [0, 1]] [] (msk 57 [0, 1]) (by kernel_rfl)).2

/-- testamur.names.Resolve -/
def f66_l1 (_y3 : List (List UInt8)) (_y5 : List D181) (y7 : List D144) (_y9 : List D175) (_y11 : List D193) (_y13 : List D132) (_y15 : (List ((List UInt8) × Int)) × (List ((List UInt8) × Int)) × (List ((List UInt8) × Int))) : Nat → Option Unit
  | 0 => none
  | _n1 + 1 => if (decide ((0 : Int) < (List.length y7 : Int))) = true then none else (some ())

def f66_l2 (_y3 : List (List UInt8)) (_y5 : List D181) (_y7 : List D144) (y9 : List D175) (_y11 : List D193) (_y13 : List D132) (_y15 : (List ((List UInt8) × Int)) × (List ((List UInt8) × Int)) × (List ((List UInt8) × Int))) : Nat → Option Unit
  | 0 => none
  | _n2 + 1 => if (decide ((0 : Int) < (List.length y9 : Int))) = true then none else (some ())

def f66_l3 (_y3 : List (List UInt8)) (_y5 : List D181) (_y7 : List D144) (_y9 : List D175) (y11 : List D193) (_y13 : List D132) (_y15 : (List ((List UInt8) × Int)) × (List ((List UInt8) × Int)) × (List ((List UInt8) × Int))) : Nat → Option Unit
  | 0 => none
  | _n3 + 1 => if (decide ((0 : Int) < (List.length y11 : Int))) = true then none else (some ())

def f66_l4 (_y3 : List (List UInt8)) (_y5 : List D181) (_y7 : List D144) (_y9 : List D175) (_y11 : List D193) (y13 : List D132) (_y15 : (List ((List UInt8) × Int)) × (List ((List UInt8) × Int)) × (List ((List UInt8) × Int))) : Nat → Option Unit
  | 0 => none
  | _n4 + 1 => if (decide ((0 : Int) < (List.length y13 : Int))) = true then none else (some ())

def f66 (a0 : D46) : Option (D46 × Int) :=
  Option.bind (f132_s1 a0) fun y1 => if y1.1 = true then none else (Option.bind (f134 a0.1) fun y3 => Option.bind (f135 a0.2.1) fun y5 => Option.bind (f136 a0.2.2.1) fun y7 => Option.bind (f137 a0.2.2.2.1) fun y9 => Option.bind (f138 a0.2.2.2.2.1) fun y11 => Option.bind (f139 a0.2.2.2.2.2.1) fun y13 => Option.bind (f140_s1 y5 y1.2.1 y1.2.2.1 y1.2.2.2) fun y15 => Option.bind (f66_l1 y3 y5 y7 y9 y11 y13 y15 (big)) fun (_o17 : Unit) => Option.bind (f66_l2 y3 y5 y7 y9 y11 y13 y15 (big)) fun (_o19 : Unit) => Option.bind (f66_l3 y3 y5 y7 y9 y11 y13 y15 (big)) fun (_o21 : Unit) => Option.bind (f66_l4 y3 y5 y7 y9 y11 y13 y15 (big)) fun (_o23 : Unit) => Option.bind (f133_d1 (y3, (y5, (y7, (y9, (y11, (y13, ())))))) (0 : Int)) fun y25 => some (y25.1, y25.2))

set_option maxRecDepth 100000 in
theorem x66 (a0 : D46) (r : D46 × Int) (h : f66 a0 = some r) : Fc Tryz.prog gl 66 [(.val T46 a0)] (hset (List.replicate 141 none) []) (.ret (.tup (.cons (.val T46 r.1) (.cons (.val (.int .i64) r.2) .nil)))) (outH 141 []) := by
  refine Fc.of Tryz.call66 (FnEx.of_runD tied Tryz.func66 rfl rfl (σ0 := mkSt 101 141 [(0, (.val T46 a0))] []) (by kernel_rfl) ?_)
  unfold f66 at h
  refine Run.sreg tied [] [] [] [] (by kernel_rfl) trivial ?_
  obtain ⟨y1, hy2, h⟩ := bind_some h
  refine Run.sreg tied [⟨(.tup (.cons (.ptr 30 []) (.cons (.val .bool y1.1) .nil))), [], [(30, 28), (35, 117), (44, 118), (57, 119)], [(30, (.var T298 (.cons (.mp 35) (.cons (.mp 44) (.cons (.mp 57) (.cons .nils .nil)))))), (35, (.map .str (.int .i64) y1.2.1)), (44, (.map .str (.int .i64) y1.2.2.1)), (57, (.map .str (.int .i64) y1.2.2.2))], 148⟩] [] [] [Fc Tryz.prog gl 132 [(.val T46 a0)] (hset (List.replicate 148 none) []) (.ret (.tup (.cons (.ptr 30 []) (.cons (.val .bool y1.1) .nil)))) (outH 148 [(30, (.var T298 (.cons (.mp 35) (.cons (.mp 44) (.cons (.mp 57) (.cons .nils .nil)))))), (35, (.map .str (.int .i64) y1.2.1)), (44, (.map .str (.int .i64) y1.2.2.1)), (57, (.map .str (.int .i64) y1.2.2.2))])] (by kernel_rfl) ⟨x132_s1 _ _ hy2, trivial⟩ ?_
  refine Run.seq ?_
  refine Run.sreg tied [] [] [] [] (by kernel_rfl) trivial ?_
  rcases ite_some h with ⟨hc27, h⟩ | ⟨hc27, h⟩
  · refine Run.condT (b := y1.1) (by kernel_rfl) hc27 ?_
    cases h
  · refine Run.condF (b := y1.1) (by kernel_rfl) hc27 ?_
    refine Run.skip ?_
    change Run _ _ _ _ _
    refine Run.dregC tied rfl (σ' := mkStD 101 141 [(0, (.val T46 a0)), (1, (.ptr 17 [])), (2, (.ptr 18 [])), (3, (.ptr 19 [])), (4, (.ptr 28 [])), (5, (.val .bool y1.1)), (10, (.tup (.cons (.ptr 28 []) (.cons (.val .bool y1.1) .nil)))), (11, (.val T46 a0)), (12, (.tup (.cons (.ptr 28 []) (.cons (.val .bool y1.1) .nil)))), (13, (.ptr 28 [])), (14, (.val .bool y1.1)), (15, (.val .bool y1.1)), (17, (.func (.func 133) .nil (.cons (.ptr 18 []) (.cons (.ptr 19 []) .nil))))] [(17, some (.var T46 (.val T46 a0))), (18, some (.var T46 (.cons .nils (.cons .nils (.cons .nils (.cons .nils (.cons .nils (.cons .nils .nil)))))))), (19, some (.var (.int .i64) (.val (.int .i64) (0 : Int)))), (28, some (.var T298 (.cons (.mp 117) (.cons (.mp 118) (.cons (.mp 119) (.cons .nils .nil)))))), (117, some (.map .str (.int .i64) y1.2.1)), (118, some (.map .str (.int .i64) y1.2.2.1)), (119, some (.map .str (.int .i64) y1.2.2.2))] [(.func (.func 133) .nil (.cons (.ptr 18 []) (.cons (.ptr 19 []) .nil)))]) (by kernel_rfl) ?_
    obtain ⟨y3, hy4, h⟩ := bind_some h
    obtain ⟨y5, hy6, h⟩ := bind_some h
    obtain ⟨y7, hy8, h⟩ := bind_some h
    obtain ⟨y9, hy10, h⟩ := bind_some h
    obtain ⟨y11, hy12, h⟩ := bind_some h
    obtain ⟨y13, hy14, h⟩ := bind_some h
    refine Run.sregA tied [⟨(.val (.slice 16 .str) y3), [], [], [], 48⟩, ⟨(.val (.slice 56 T181) y5), [], [], [], 48⟩, ⟨(.val (.slice 96 T144) y7), [], [], [], 48⟩, ⟨(.val (.slice 96 T175) y9), [], [], [], 48⟩, ⟨(.val (.slice 72 T193) y11), [], [], [], 48⟩, ⟨(.val (.slice 48 T132) y13), [], [], [], 48⟩] [] [] [Fc Tryz.prog gl 134 [(.val (.slice 16 .str) a0.1)] (hset (List.replicate 48 none) []) (.ret (.val (.slice 16 .str) y3)) (outH 48 []), Fc Tryz.prog gl 135 [(.val (.slice 56 T181) a0.2.1)] (hset (List.replicate 48 none) []) (.ret (.val (.slice 56 T181) y5)) (outH 48 []), Fc Tryz.prog gl 136 [(.val (.slice 96 T144) a0.2.2.1)] (hset (List.replicate 48 none) []) (.ret (.val (.slice 96 T144) y7)) (outH 48 []), Fc Tryz.prog gl 137 [(.val (.slice 96 T175) a0.2.2.2.1)] (hset (List.replicate 48 none) []) (.ret (.val (.slice 96 T175) y9)) (outH 48 []), Fc Tryz.prog gl 138 [(.val (.slice 72 T193) a0.2.2.2.2.1)] (hset (List.replicate 48 none) []) (.ret (.val (.slice 72 T193) y11)) (outH 48 []), Fc Tryz.prog gl 139 [(.val (.slice 48 T132) a0.2.2.2.2.2.1)] (hset (List.replicate 48 none) []) (.ret (.val (.slice 48 T132) y13)) (outH 48 [])] (by kernel_rfl) ⟨x134 _ _ hy4, x135 _ _ hy6, x136 _ _ hy8, x137 _ _ hy10, x138 _ _ hy12, x139 _ _ hy14, trivial⟩ ?_
    obtain ⟨y15, hy16, h⟩ := bind_some h
    refine Run.sreg tied [⟨(.tup .nil), [(0, 28), (1, 117), (2, 118), (3, 119)], [], [(0, (.var T298 (.cons (.mp 1) (.cons (.mp 2) (.cons (.mp 3) (.cons .nils .nil)))))), (1, (.map .str (.int .i64) y15.1)), (2, (.map .str (.int .i64) y15.2.1)), (3, (.map .str (.int .i64) y15.2.2))], 131⟩] [] [] [Fc Tryz.prog gl 140 [(.ptr 0 []), (.val (.slice 56 T181) y5)] (hset (List.replicate 131 none) [(0, some (.var T298 (.cons (.mp 1) (.cons (.mp 2) (.cons (.mp 3) (.cons .nils .nil)))))), (1, some (.map .str (.int .i64) y1.2.1)), (2, some (.map .str (.int .i64) y1.2.2.1)), (3, some (.map .str (.int .i64) y1.2.2.2))]) (.ret (.tup .nil)) (outH 131 [(0, (.var T298 (.cons (.mp 1) (.cons (.mp 2) (.cons (.mp 3) (.cons .nils .nil)))))), (1, (.map .str (.int .i64) y15.1)), (2, (.map .str (.int .i64) y15.2.1)), (3, (.map .str (.int .i64) y15.2.2))])] (by kernel_rfl) ⟨x140_s1 _ _ _ _ _ hy16, trivial⟩ ?_
    obtain ⟨o17, h1, h⟩ := bind_some h
    refine Run.seqJ (fun σ' => σ' = mkStD 101 141 [(2, (.ptr 18 [])), (3, (.ptr 19 [])), (4, (.ptr 28 []))] [(18, some (.var T46 (.val T46 (y3, (y5, (y7, (y9, (y11, (y13, ()))))))))), (19, some (.var (.int .i64) (.val (.int .i64) (0 : Int)))), (28, some (.var T298 (.cons (.mp 117) (.cons (.mp 118) (.cons (.mp 119) (.cons .nils .nil)))))), (117, some (.map .str (.int .i64) y15.1)), (118, some (.map .str (.int .i64) y15.2.1)), (119, some (.map .str (.int .i64) y15.2.2))] [(.func (.func 133) .nil (.cons (.ptr 18 []) (.cons (.ptr 19 []) .nil)))]) ?_ ?_
    · refine Run.sreg tied [] [] [] [] (by kernel_rfl) trivial ?_
      refine Run.block ?_
      refine Run.loopJ (fun n σ => f66_l1 y3 y5 y7 y9 y11 y13 y15 n = some o17 ∧ σ = mkStD 101 141 [(2, (.ptr 18 [])), (3, (.ptr 19 [])), (4, (.ptr 28 [])), (43, (.val (.int .i64) (List.length y7 : Int))), (44, (.val (.int .i64) (0 : Int)))] [(18, some (.var T46 (.val T46 (y3, (y5, (y7, (y9, (y11, (y13, ()))))))))), (19, some (.var (.int .i64) (.val (.int .i64) (0 : Int)))), (28, some (.var T298 (.cons (.mp 117) (.cons (.mp 118) (.cons (.mp 119) (.cons .nils .nil)))))), (117, some (.map .str (.int .i64) y15.1)), (118, some (.map .str (.int .i64) y15.2.1)), (119, some (.map .str (.int .i64) y15.2.2))] [(.func (.func 133) .nil (.cons (.ptr 18 []) (.cons (.ptr 19 []) .nil)))]) [.keep [2, 3, 4, 43, 44] [18, 19, 28, 117, 118, 119]] (by kernel_rfl) ⟨h1, rfl⟩ ?_
      rintro n1 _ ⟨h3, rfl⟩
      cases n1 with
      | zero => exact absurd h3 (by simp [f66_l1])
      | succ n1 =>
        unfold f66_l1 at h3
        refine Run.sreg tied [] [] [] [] (by kernel_rfl) trivial ?_
        refine Run.seq ?_
        rcases ite_some h3 with ⟨hc18, h3⟩ | ⟨hc18, h3⟩
        · refine Run.condT (b := decide ((0 : Int) < (List.length y7 : Int))) (by kernel_rfl) hc18 ?_
          refine Run.skip ?_
          change Run _ _ _ _ _
          refine Run.seq ?_
          refine Run.block ?_
          cases h3
        · refine Run.condF (b := decide ((0 : Int) < (List.length y7 : Int))) (by kernel_rfl) hc18 ?_
          refine Run.exit ?_
          refine tE ?_
          refine lE ?_
          refine bE ?_
          obtain rfl := Option.some.inj h3
          exact jQ.mk [.keep [2, 3, 4] [18, 19, 28, 117, 118, 119]] (by kernel_rfl) rfl
    · rintro _ rfl
      obtain ⟨o19, h4, h⟩ := bind_some h
      refine Run.seqJ (fun σ' => σ' = mkStD 101 141 [(2, (.ptr 18 [])), (3, (.ptr 19 [])), (4, (.ptr 28 []))] [(18, some (.var T46 (.val T46 (y3, (y5, (y7, (y9, (y11, (y13, ()))))))))), (19, some (.var (.int .i64) (.val (.int .i64) (0 : Int)))), (28, some (.var T298 (.cons (.mp 117) (.cons (.mp 118) (.cons (.mp 119) (.cons .nils .nil)))))), (117, some (.map .str (.int .i64) y15.1)), (118, some (.map .str (.int .i64) y15.2.1)), (119, some (.map .str (.int .i64) y15.2.2))] [(.func (.func 133) .nil (.cons (.ptr 18 []) (.cons (.ptr 19 []) .nil)))]) ?_ ?_
      · refine Run.sreg tied [] [] [] [] (by kernel_rfl) trivial ?_
        refine Run.block ?_
        refine Run.loopJ (fun n σ => f66_l2 y3 y5 y7 y9 y11 y13 y15 n = some o19 ∧ σ = mkStD 101 141 [(2, (.ptr 18 [])), (3, (.ptr 19 [])), (4, (.ptr 28 [])), (63, (.val (.int .i64) (List.length y9 : Int))), (64, (.val (.int .i64) (0 : Int)))] [(18, some (.var T46 (.val T46 (y3, (y5, (y7, (y9, (y11, (y13, ()))))))))), (19, some (.var (.int .i64) (.val (.int .i64) (0 : Int)))), (28, some (.var T298 (.cons (.mp 117) (.cons (.mp 118) (.cons (.mp 119) (.cons .nils .nil)))))), (117, some (.map .str (.int .i64) y15.1)), (118, some (.map .str (.int .i64) y15.2.1)), (119, some (.map .str (.int .i64) y15.2.2))] [(.func (.func 133) .nil (.cons (.ptr 18 []) (.cons (.ptr 19 []) .nil)))]) [.keep [2, 3, 4, 63, 64] [18, 19, 28, 117, 118, 119]] (by kernel_rfl) ⟨h4, rfl⟩ ?_
        rintro n2 _ ⟨h6, rfl⟩
        cases n2 with
        | zero => exact absurd h6 (by simp [f66_l2])
        | succ n2 =>
          unfold f66_l2 at h6
          refine Run.sreg tied [] [] [] [] (by kernel_rfl) trivial ?_
          refine Run.seq ?_
          rcases ite_some h6 with ⟨hc20, h6⟩ | ⟨hc20, h6⟩
          · refine Run.condT (b := decide ((0 : Int) < (List.length y9 : Int))) (by kernel_rfl) hc20 ?_
            refine Run.skip ?_
            change Run _ _ _ _ _
            refine Run.seq ?_
            refine Run.block ?_
            cases h6
          · refine Run.condF (b := decide ((0 : Int) < (List.length y9 : Int))) (by kernel_rfl) hc20 ?_
            refine Run.exit ?_
            refine tE ?_
            refine lE ?_
            refine bE ?_
            obtain rfl := Option.some.inj h6
            exact jQ.mk [.keep [2, 3, 4] [18, 19, 28, 117, 118, 119]] (by kernel_rfl) rfl
      · rintro _ rfl
        obtain ⟨o21, h7, h⟩ := bind_some h
        refine Run.seqJ (fun σ' => σ' = mkStD 101 141 [(2, (.ptr 18 [])), (3, (.ptr 19 [])), (4, (.ptr 28 []))] [(18, some (.var T46 (.val T46 (y3, (y5, (y7, (y9, (y11, (y13, ()))))))))), (19, some (.var (.int .i64) (.val (.int .i64) (0 : Int)))), (28, some (.var T298 (.cons (.mp 117) (.cons (.mp 118) (.cons (.mp 119) (.cons .nils .nil)))))), (117, some (.map .str (.int .i64) y15.1)), (118, some (.map .str (.int .i64) y15.2.1)), (119, some (.map .str (.int .i64) y15.2.2))] [(.func (.func 133) .nil (.cons (.ptr 18 []) (.cons (.ptr 19 []) .nil)))]) ?_ ?_
        · refine Run.sreg tied [] [] [] [] (by kernel_rfl) trivial ?_
          refine Run.block ?_
          refine Run.loopJ (fun n σ => f66_l3 y3 y5 y7 y9 y11 y13 y15 n = some o21 ∧ σ = mkStD 101 141 [(2, (.ptr 18 [])), (3, (.ptr 19 [])), (4, (.ptr 28 [])), (76, (.val (.int .i64) (List.length y11 : Int))), (77, (.val (.int .i64) (0 : Int)))] [(18, some (.var T46 (.val T46 (y3, (y5, (y7, (y9, (y11, (y13, ()))))))))), (19, some (.var (.int .i64) (.val (.int .i64) (0 : Int)))), (28, some (.var T298 (.cons (.mp 117) (.cons (.mp 118) (.cons (.mp 119) (.cons .nils .nil)))))), (117, some (.map .str (.int .i64) y15.1)), (118, some (.map .str (.int .i64) y15.2.1)), (119, some (.map .str (.int .i64) y15.2.2))] [(.func (.func 133) .nil (.cons (.ptr 18 []) (.cons (.ptr 19 []) .nil)))]) [.keep [2, 3, 4, 76, 77] [18, 19, 28, 117, 118, 119]] (by kernel_rfl) ⟨h7, rfl⟩ ?_
          rintro n3 _ ⟨h9, rfl⟩
          cases n3 with
          | zero => exact absurd h9 (by simp [f66_l3])
          | succ n3 =>
            unfold f66_l3 at h9
            refine Run.sreg tied [] [] [] [] (by kernel_rfl) trivial ?_
            refine Run.seq ?_
            rcases ite_some h9 with ⟨hc22, h9⟩ | ⟨hc22, h9⟩
            · refine Run.condT (b := decide ((0 : Int) < (List.length y11 : Int))) (by kernel_rfl) hc22 ?_
              refine Run.skip ?_
              change Run _ _ _ _ _
              refine Run.seq ?_
              refine Run.block ?_
              cases h9
            · refine Run.condF (b := decide ((0 : Int) < (List.length y11 : Int))) (by kernel_rfl) hc22 ?_
              refine Run.exit ?_
              refine tE ?_
              refine lE ?_
              refine bE ?_
              obtain rfl := Option.some.inj h9
              exact jQ.mk [.keep [2, 3, 4] [18, 19, 28, 117, 118, 119]] (by kernel_rfl) rfl
        · rintro _ rfl
          obtain ⟨o23, h10, h⟩ := bind_some h
          refine Run.seqJ (fun σ' => σ' = mkStD 101 141 [(2, (.ptr 18 [])), (3, (.ptr 19 []))] [(18, some (.var T46 (.val T46 (y3, (y5, (y7, (y9, (y11, (y13, ()))))))))), (19, some (.var (.int .i64) (.val (.int .i64) (0 : Int))))] [(.func (.func 133) .nil (.cons (.ptr 18 []) (.cons (.ptr 19 []) .nil)))]) ?_ ?_
          · refine Run.sreg tied [] [] [] [] (by kernel_rfl) trivial ?_
            refine Run.block ?_
            refine Run.loopJ (fun n σ => f66_l4 y3 y5 y7 y9 y11 y13 y15 n = some o23 ∧ σ = mkStD 101 141 [(2, (.ptr 18 [])), (3, (.ptr 19 [])), (4, (.ptr 28 [])), (89, (.val (.int .i64) (List.length y13 : Int))), (90, (.val (.int .i64) (0 : Int)))] [(18, some (.var T46 (.val T46 (y3, (y5, (y7, (y9, (y11, (y13, ()))))))))), (19, some (.var (.int .i64) (.val (.int .i64) (0 : Int)))), (28, some (.var T298 (.cons (.mp 117) (.cons (.mp 118) (.cons (.mp 119) (.cons .nils .nil)))))), (117, some (.map .str (.int .i64) y15.1)), (118, some (.map .str (.int .i64) y15.2.1)), (119, some (.map .str (.int .i64) y15.2.2))] [(.func (.func 133) .nil (.cons (.ptr 18 []) (.cons (.ptr 19 []) .nil)))]) [.keep [2, 3, 4, 89, 90] [18, 19, 28, 117, 118, 119]] (by kernel_rfl) ⟨h10, rfl⟩ ?_
            rintro n4 _ ⟨h12, rfl⟩
            cases n4 with
            | zero => exact absurd h12 (by simp [f66_l4])
            | succ n4 =>
              unfold f66_l4 at h12
              refine Run.sreg tied [] [] [] [] (by kernel_rfl) trivial ?_
              refine Run.seq ?_
              rcases ite_some h12 with ⟨hc24, h12⟩ | ⟨hc24, h12⟩
              · refine Run.condT (b := decide ((0 : Int) < (List.length y13 : Int))) (by kernel_rfl) hc24 ?_
                refine Run.skip ?_
                change Run _ _ _ _ _
                refine Run.seq ?_
                refine Run.block ?_
                cases h12
              · refine Run.condF (b := decide ((0 : Int) < (List.length y13 : Int))) (by kernel_rfl) hc24 ?_
                refine Run.exit ?_
                refine tE ?_
                refine lE ?_
                refine bE ?_
                obtain rfl := Option.some.inj h12
                exact jQ.mk [.keep [2, 3] [18, 19]] (by kernel_rfl) rfl
          · rintro _ rfl
            refine Run.sreg tied [] [] [] [] (by kernel_rfl) trivial ?_
            refine Run.ret ?_
            obtain ⟨y25, hy26, h⟩ := bind_some h
            obtain rfl := Option.some.inj h
            exact (dQ_fin [] [(0, 18), (1, 19)] [(0, (.var T46 (.val T46 y25.1))), (1, (.var (.int .i64) (.val (.int .i64) y25.2)))] 57 [some T46, some (.int .i64)] (msk 141 []) (σ2 := mkSt 101 141 [(2, (.ptr 18 [])), (3, (.ptr 19 [])), (100, (.val T46 (y3, (y5, (y7, (y9, (y11, (y13, ()))))))))] [(18, some (.var T46 (.val T46 y25.1))), (19, some (.var (.int .i64) (.val (.int .i64) y25.2)))]) (by kernel_rfl) (by kernel_rfl) (x133_d1 _ _ _ hy26)).1

/-- slices.Equal[[]string,string] -/
def f84_l1 (a0 : List (List UInt8)) (_a1 : List (List UInt8)) : Nat → Option Unit
  | 0 => none
  | _n1 + 1 => if (decide ((0 : Int) < (List.length a0 : Int))) = true then none else (some ())

def f84 (a0 : List (List UInt8)) (a1 : List (List UInt8)) : Option Bool :=
  if (!decide ((List.length a0 : Int) = (List.length a1 : Int))) = true then none else (Option.bind (f84_l1 a0 a1 (big)) fun (_o1 : Unit) => some true)

set_option maxRecDepth 100000 in
theorem x84 (a0 : List (List UInt8)) (a1 : List (List UInt8)) (r : Bool) (h : f84 a0 a1 = some r) : Fc Tryz.prog gl 84 [(.val (.slice 16 .str) a0), (.val (.slice 16 .str) a1)] (hset (List.replicate 66 none) []) (.ret (.val .bool r)) (outH 66 []) := by
  refine Fc.of Tryz.call84 (FnEx.of_runF tied Tryz.func84 rfl rfl (σ0 := mkSt 26 66 [(0, (.val (.slice 16 .str) a0)), (1, (.val (.slice 16 .str) a1))] []) (by kernel_rfl) ?_)
  unfold f84 at h
  refine Run.sreg tied [] [] [] [] (by kernel_rfl) trivial ?_
  refine Run.seq ?_
  refine Run.sreg tied [] [] [] [] (by kernel_rfl) trivial ?_
  rcases ite_some h with ⟨hc3, h⟩ | ⟨hc3, h⟩
  · refine Run.condT (b := !decide ((List.length a0 : Int) = (List.length a1 : Int))) (by kernel_rfl) hc3 ?_
    cases h
  · refine Run.condF (b := !decide ((List.length a0 : Int) = (List.length a1 : Int))) (by kernel_rfl) hc3 ?_
    refine Run.skip ?_
    change Run _ _ _ _ _
    obtain ⟨o1, h1, h⟩ := bind_some h
    refine Run.seqJ (fun σ' => σ' = mkSt 26 66 [] []) ?_ ?_
    · refine Run.sreg tied [] [] [] [] (by kernel_rfl) trivial ?_
      refine Run.block ?_
      refine Run.loopJ (fun n σ => f84_l1 a0 a1 n = some o1 ∧ σ = mkSt 26 66 [(0, (.val (.slice 16 .str) a0)), (1, (.val (.slice 16 .str) a1)), (12, (.val (.int .i64) (List.length a0 : Int))), (13, (.val (.int .i64) (0 : Int)))] []) [.keep [0, 1, 12, 13] []] (by kernel_rfl) ⟨h1, rfl⟩ ?_
      rintro n1 _ ⟨h3, rfl⟩
      cases n1 with
      | zero => exact absurd h3 (by simp [f84_l1])
      | succ n1 =>
        unfold f84_l1 at h3
        refine Run.sreg tied [] [] [] [] (by kernel_rfl) trivial ?_
        refine Run.seq ?_
        rcases ite_some h3 with ⟨hc2, h3⟩ | ⟨hc2, h3⟩
        · refine Run.condT (b := decide ((0 : Int) < (List.length a0 : Int))) (by kernel_rfl) hc2 ?_
          refine Run.skip ?_
          change Run _ _ _ _ _
          refine Run.seq ?_
          refine Run.block ?_
          cases h3
        · refine Run.condF (b := decide ((0 : Int) < (List.length a0 : Int))) (by kernel_rfl) hc2 ?_
          refine Run.exit ?_
          refine tE ?_
          refine lE ?_
          refine bE ?_
          obtain rfl := Option.some.inj h3
          exact jQ.mk [.keep [] []] (by kernel_rfl) rfl
    · rintro _ rfl
      refine Run.sreg tied [] [] [] [] (by kernel_rfl) trivial ?_
      refine Run.ret ?_
      obtain rfl := Option.some.inj h
      exact (fQ_fin [] [some .bool] (msk 66 []) (by kernel_rfl)).1

end Go.Proofs.YthiphdachidhlaaGreatDoor
