/-
  The law FnExactHandNear over numbers and lists: both tell whether some two boxes come too near.
-/
import Derived.Test.YtahfbpmaeijgaaaSayFnExactHandNear
import Derived.Test.YtahfbpmaeijgaaaStdFnExactHandNear
namespace Go.Proofs.Ytahfbpmaeijgaaa.Pure
open Go.RowKit Go.Proofs.Ytahfbpmaeijgaaa.PFnExactHandNear Go.Proofs.YtahfbpmaeijgaaaW.PrintWords Go.Proofs.Ytahfbpmaeijgaaa.Kit Go.Proofs.Ytahfbpmaeijgaaa.StdFnExactHandNear Go.Proofs.Ytahfbpmaeijgaaa.SayFnExactHandNear
set_option linter.unusedSimpArgs false
set_option linter.unusedVariables false
/-! #### boxes that are ok, boxes that come too near -/
def boxOk (b : S103) : Bool := decide ((0 ≤ b.f0 ∧ b.f0 ≤ 15) ∧ (0 ≤ b.f1 ∧ b.f1 ≤ 15) ∧ (0 ≤ b.f2 ∧ b.f2 ≤ b.f3 ∧ b.f3 ≤ 6) ∧ 0 ≤ b.f4 ∧ b.f4 ≤ b.f5 ∧ b.f5 ≤ 10000)
theorem boxOk_iff (b : S103) : boxOk b = true ↔ ((0 ≤ b.f0 ∧ b.f0 ≤ 15) ∧ (0 ≤ b.f1 ∧ b.f1 ≤ 15) ∧ (0 ≤ b.f2 ∧ b.f2 ≤ b.f3 ∧ b.f3 ≤ 6) ∧ 0 ≤ b.f4 ∧ b.f4 ≤ b.f5 ∧ b.f5 ≤ 10000) := decide_eq_true_iff
theorem spec_hin (a b c : Int) : spec_l31In.f a b c = some (decide (b ≤ a ∧ a ≤ c)) := by
  unfold spec_l31In.f
  by_cases h : a ≥ b <;> simp [h]
theorem impl_hin (a b c : Int) : impl_within.f a b c = some (decide (b ≤ a ∧ a ≤ c)) := by
  unfold impl_within.f
  by_cases h : a ≥ b <;> simp [h]
theorem spec_box (b : S103) : spec_l31BoxOk.f b.f0 b.f1 b.f2 b.f3 b.f4 b.f5 = some (boxOk b) := by
  unfold spec_l31BoxOk.f boxOk
  simp only [spec_hin, Option.bind_some, decide_eq_true_eq]
  repeat' split
  all_goals first | (congr 1; apply decide_eq_decide.2; omega) | (congr 1; symm; apply decide_eq_false; omega)
theorem impl_box (b : S103) : impl_handBox.f b.f0 b.f1 b.f2 b.f3 b.f4 b.f5 = some (boxOk b) := by
  unfold impl_handBox.f boxOk
  simp only [impl_hin, Option.bind_some, decide_eq_true_eq]
  repeat' split
  all_goals first | (congr 1; apply decide_eq_decide.2; omega) | (congr 1; symm; apply decide_eq_false; omega)
def tooNear (a b : S103) : Bool := decide ((-1 ≤ a.f0 - b.f0 ∧ a.f0 - b.f0 ≤ 1) ∧ (-1 ≤ a.f1 - b.f1 ∧ a.f1 - b.f1 ≤ 1) ∧ a.f2 ≤ b.f3 ∧ b.f2 ≤ a.f3 ∧ a.f4 ≤ b.f5 ∧ b.f4 ≤ a.f5)
theorem spec_close (a b : S103) : spec_l31Close.f a.f0 a.f1 a.f2 a.f3 a.f4 a.f5 b.f0 b.f1 b.f2 b.f3 b.f4 b.f5 = some (boxOk a && (boxOk b && tooNear a b)) := by
  unfold spec_l31Close.f
  simp only [spec_box, Option.bind_some]
  by_cases ha : boxOk a = true
  · rw [ha, if_pos rfl]
    by_cases hb : boxOk b = true
    · rw [hb, if_pos rfl]
      have ha := (boxOk_iff a).1 ha
      have hb := (boxOk_iff b).1 hb
      rw [w64 (show -9223372036854775808 ≤ a.f0 - b.f0 by omega) (by omega), w64 (show -9223372036854775808 ≤ a.f1 - b.f1 by omega) (by omega)]
      simp only [spec_hin, Option.bind_some, decide_eq_true_eq, Bool.true_and]
      unfold tooNear
      repeat' split
      all_goals first | (congr 1; apply decide_eq_decide.2; omega) | (congr 1; symm; apply decide_eq_false; omega)
    · rw [if_neg hb, Bool.eq_false_iff.2 hb]; rfl
  · rw [if_neg ha, Bool.eq_false_iff.2 ha]; rfl
def nearOne (a : S103) (ys : List S103) : Bool := boxOk a && anyN (fun j => boxOk (rd_T103 ys (j : Int)) && tooNear a (rd_T103 ys (j : Int))) ys.length 0
def near (xs ys : List S103) : Bool := anyN (fun i => nearOne (rd_T103 xs (i : Int)) ys) xs.length 0
theorem near_spec (xs ys : List S103) (hx : xs.length ≤ 1048576) (hy : ys.length ≤ 1048576) : Ev (fun k => spec_HandNear.f k xs ys) (near xs ys) := by
  have inner : ∀ (i : Nat), i < xs.length → ∀ r', ((∀ j, 0 ≤ j → j < ys.length → (boxOk (rd_T103 xs (i : Int)) && (boxOk (rd_T103 ys (j : Int)) && tooNear (rd_T103 xs (i : Int)) (rd_T103 ys (j : Int)))) = false) → Ev (fun k => spec_HandNear.l0 k xs ys ((i : Int) + 1)) r') →
      Ev (fun k => spec_HandNear.l0 k xs ys i) (findN (fun j => boxOk (rd_T103 xs (i : Int)) && (boxOk (rd_T103 ys (j : Int)) && tooNear (rd_T103 xs (i : Int)) (rd_T103 ys (j : Int)))) (fun _ => true) r' ys.length 0) := by
    intro i hi r' hr
    refine Ev.step (fun k => by simp only [spec_HandNear.l0]; exact if_pos (by omega)) ?_
    refine find_loop2 (F := fun k j => spec_HandNear.l1 k xs ys i j) ys.length _ _ r' ?_ ?_ ys.length 0 (by omega) (fun h => ?_)
    · intro j hj hp
      refine Ev.step (fun k => ?_) (Ev.val _)
      simp only [spec_HandNear.l1, if_pos (show (j : Int) < (ys.length : Int) by omega), if_pos (show (i : Int) < (xs.length : Int) by omega), if_pos (show (0 : Int) ≤ i by omega), if_pos (show (0 : Int) ≤ j by omega), spec_close, Option.bind_some]
      rw [if_pos hp]
    · intro j hj hp r'' hr'
      refine Ev.step (fun k => ?_) hr'
      simp only [spec_HandNear.l1, if_pos (show (j : Int) < (ys.length : Int) by omega), if_pos (show (i : Int) < (xs.length : Int) by omega), if_pos (show (0 : Int) ≤ i by omega), if_pos (show (0 : Int) ≤ j by omega), spec_close, Option.bind_some]
      rw [if_neg (by simp [hp]), w64 (by omega) (by omega)]
    · refine Ev.step (fun k => ?_) (hr h)
      simp only [spec_HandNear.l1]
      rw [if_neg (by omega), w64 (by omega) (by omega)]
  refine find_loop (F := fun k i => spec_HandNear.l0 k xs ys i) xs.length (fun i => nearOne (rd_T103 xs (i : Int)) ys) (fun _ => true) false ?_ ?_ ?_ xs.length 0 (by omega)
  · intro i hi hp
    unfold nearOne at hp
    rw [Bool.and_eq_true] at hp
    obtain ⟨j, h1, h2, h3⟩ := (anyN_iff _ _).1 hp.2
    have h4 : (boxOk (rd_T103 xs (i : Int)) && (boxOk (rd_T103 ys (j : Int)) && tooNear (rd_T103 xs (i : Int)) (rd_T103 ys (j : Int)))) = true := by rw [hp.1, h3]; rfl
    refine Ev.cast (inner i hi true (fun h => ?_)) (findN_found _ _ ⟨j, h1, h2, h4⟩)
    rw [h j (by omega) (by omega)] at h4
    cases h4
  · intro i hi hp r' hr
    have none : ∀ j, 0 ≤ j → j < 0 + ys.length → (boxOk (rd_T103 xs (i : Int)) && (boxOk (rd_T103 ys (j : Int)) && tooNear (rd_T103 xs (i : Int)) (rd_T103 ys (j : Int)))) = false := by
      intro j h1 h2
      unfold nearOne at hp
      cases hb : boxOk (rd_T103 xs (i : Int)) with
      | false => rfl
      | true =>
        rw [hb, Bool.true_and] at hp
        rw [Bool.true_and]
        exact anyN_false hp j h1 h2
    exact Ev.cast (inner i hi r' (fun _ => hr)) (findN_none _ _ none)
  · refine Ev.step (fun k => ?_) (Ev.val _)
    simp only [spec_HandNear.l0]
    rw [if_neg (by omega)]
def distW (a b : Int) : Int := if a > b then wrap64 (a - b) else wrap64 (b - a)
theorem impl_distW (a b : Int) : impl_dist.f a b = some (distW a b) := by
  unfold impl_dist.f distW
  split <;> rfl
theorem distW_two (p r : Int) (h1 : 0 ≤ p ∧ p ≤ 15) (h2 : 0 ≤ r ∧ r ≤ 15) : distW p r < 2 ↔ -1 ≤ p - r ∧ p - r ≤ 1 := by
  unfold distW
  by_cases h : p > r
  · rw [if_pos h, w64 (by omega) (by omega)]; omega
  · rw [if_neg h, w64 (by omega) (by omega)]; omega
theorem near_impl (xs ys : List S103) (hx : xs.length ≤ 1048576) (hy : ys.length ≤ 1048576) : Ev (fun k => impl_HandNear.f k xs ys) (near xs ys) := by
  have inner : ∀ (i : Nat), i < xs.length → boxOk (rd_T103 xs (i : Int)) = true → ∀ r', ((∀ j, 0 ≤ j → j < ys.length → (boxOk (rd_T103 ys (j : Int)) && tooNear (rd_T103 xs (i : Int)) (rd_T103 ys (j : Int))) = false) → Ev (fun k => impl_HandNear.l0 k ys xs (xs.length : Int) ((i : Int) + 1)) r') →
      Ev (fun k => impl_HandNear.l0 k ys xs (xs.length : Int) i) (findN (fun j => boxOk (rd_T103 ys (j : Int)) && tooNear (rd_T103 xs (i : Int)) (rd_T103 ys (j : Int))) (fun _ => true) r' ys.length 0) := by
    intro i hi hb r' hr
    refine Ev.step (f := fun k => impl_HandNear.l1 k ys xs (xs.length : Int) i ys (ys.length : Int) 0 (rd_T103 xs (i : Int)).f0 (rd_T103 xs (i : Int)).f1 (rd_T103 xs (i : Int)).f2 (rd_T103 xs (i : Int)).f3 (rd_T103 xs (i : Int)).f4 (rd_T103 xs (i : Int)).f5) (fun k => by
      simp only [impl_HandNear.l0, if_pos (show (i : Int) < (xs.length : Int) by omega), if_pos (show (0 : Int) ≤ i by omega), impl_box, Option.bind_some]
      exact if_pos hb) ?_
    have ha := (boxOk_iff _).1 hb
    generalize rd_T103 xs (i : Int) = a at hr ha ⊢
    have round : ∀ (j : Nat), j < ys.length → ∀ k, impl_HandNear.l1 (k + 1) ys xs (xs.length : Int) i ys (ys.length : Int) j a.f0 a.f1 a.f2 a.f3 a.f4 a.f5 =
        if (boxOk (rd_T103 ys (j : Int)) && tooNear a (rd_T103 ys (j : Int))) = true then some true else impl_HandNear.l1 k ys xs (xs.length : Int) i ys (ys.length : Int) ((j : Int) + 1) a.f0 a.f1 a.f2 a.f3 a.f4 a.f5 := by
      intro j hj k
      simp only [impl_HandNear.l1, if_pos (show (j : Int) < (ys.length : Int) by omega), if_pos (show (0 : Int) ≤ j by omega), impl_box, impl_distW, Option.bind_some]
      rw [w64 (show -9223372036854775808 ≤ (j : Int) + 1 by omega) (by omega)]
      generalize impl_HandNear.l1 k ys xs (xs.length : Int) i ys (ys.length : Int) ((j : Int) + 1) a.f0 a.f1 a.f2 a.f3 a.f4 a.f5 = q
      cases hbj : boxOk (rd_T103 ys (j : Int)) with
      | false => rfl
      | true =>
        have hy := (boxOk_iff _).1 hbj
        have d0 := distW_two a.f0 (rd_T103 ys (j : Int)).f0 ha.1 hy.1
        have d1 := distW_two a.f1 (rd_T103 ys (j : Int)).f1 ha.2.1 hy.2.1
        unfold tooNear
        simp only [Bool.true_and, decide_eq_true_eq, if_true]
        simp only [← d0, ← d1]
        repeat' split
        all_goals first | rfl | (exfalso; omega)
    refine find_loop2 (F := fun k j => impl_HandNear.l1 k ys xs (xs.length : Int) i ys (ys.length : Int) j a.f0 a.f1 a.f2 a.f3 a.f4 a.f5) ys.length _ _ r' ?_ ?_ ys.length 0 (by omega) (fun h => ?_)
    · intro j hj hp
      exact Ev.step (round j hj) (Ev.ite_pos hp (Ev.val _))
    · intro j hj hp r'' hr'
      exact Ev.step (round j hj) (Ev.ite_neg (by simp [hp]) hr')
    · refine Ev.step (fun k => ?_) (hr h)
      simp only [impl_HandNear.l1]
      rw [if_neg (by omega), w64 (by omega) (by omega)]
  refine find_loop (F := fun k i => impl_HandNear.l0 k ys xs (xs.length : Int) i) xs.length (fun i => nearOne (rd_T103 xs (i : Int)) ys) (fun _ => true) false ?_ ?_ ?_ xs.length 0 (by omega)
  · intro i hi hp
    unfold nearOne at hp
    rw [Bool.and_eq_true] at hp
    obtain ⟨j, h1, h2, h3⟩ := (anyN_iff _ _).1 hp.2
    refine Ev.cast (inner i hi hp.1 true (fun h => ?_)) (findN_found _ _ ⟨j, h1, h2, h3⟩)
    rw [h j (by omega) (by omega)] at h3
    cases h3
  · intro i hi hp r' hr
    unfold nearOne at hp
    cases hb : boxOk (rd_T103 xs (i : Int)) with
    | false =>
      refine Ev.step (fun k => ?_) hr
      simp only [impl_HandNear.l0, if_pos (show (i : Int) < (xs.length : Int) by omega), if_pos (show (0 : Int) ≤ i by omega), impl_box, Option.bind_some]
      rw [hb, if_neg (by decide), w64 (by omega) (by omega)]
    | true =>
      rw [hb, Bool.true_and] at hp
      exact Ev.cast (inner i hi hb r' (fun _ => hr)) (findN_none _ _ (fun j h1 h2 => anyN_false hp j h1 h2))
  · refine Ev.step (fun k => ?_) (Ev.val _)
    simp only [impl_HandNear.l0]
    rw [if_neg (by omega)]
theorem FnExactHandNear : Said := by
  intro xs ys ⟨hx, _⟩ ⟨hy, _⟩
  refine Ev.rounds (r := true) ?_
  unfold laws_FnExactHandNear.f
  rw [szHandBoxS_eq xs hx 1048576 (by omega) (by omega)]
  simp only [Option.bind_some]
  by_cases h : (xs.length : Int) ≤ 1048576
  · have hl : xs.length ≤ 1048576 := by omega
    rw [if_pos h]
    refine Ev.ite_neg (by omega) ?_
    rw [szHandBoxS_eq ys hy _ (by omega) (by omega)]
    simp only [Option.bind_some]
    by_cases h2 : (ys.length : Int) ≤ 1048576 - (xs.length : Int)
    · have hl2 : ys.length ≤ 1048576 := by omega
      have m1 : (xs.map conv_toHandBoxS).length ≤ 1048576 := by rw [List.length_map]; exact hl
      have m2 : (ys.map conv_toHandBoxS).length ≤ 1048576 := by rw [List.length_map]; exact hl2
      rw [if_pos h2]
      refine Ev.ite_neg (by omega) (Ev.bind (toHandBoxS_ev xs hl) (Ev.bind (toHandBoxS_ev ys hl2) (Ev.bind (near_spec _ _ m1 m2) (Ev.bind (toHandBoxS_ev xs hl) (Ev.bind (toHandBoxS_ev ys hl2) (Ev.bind (near_impl _ _ m1 m2) (Ev.ite_neg (by simp) ?_)))))))
      exact Ev.bind (toHandBoxS_ev xs hl) (Ev.bind (eqHandBoxS_ev _ m1) (Ev.ite_pos rfl (Ev.bind (toHandBoxS_ev ys hl2) (Ev.bind (eqHandBoxS_ev _ m2) (Ev.ite_pos rfl (Ev.val _))))))
    · rw [if_neg h2]
      exact Ev.ite_pos (by omega) (Ev.val _)
  · rw [if_neg h]
    exact Ev.ite_pos (by omega) (Ev.val _)
end Go.Proofs.Ytahfbpmaeijgaaa.Pure
