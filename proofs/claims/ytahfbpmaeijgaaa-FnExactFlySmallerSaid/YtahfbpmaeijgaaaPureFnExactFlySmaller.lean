/-
  The law FnExactFlySmaller over numbers and lists: both tell whether each box of the one tube lies in a box of the other.
-/
import Derived.Test.YtahfbpmaeijgaaaSayFnExactFlySmaller
import Derived.Test.YtahfbpmaeijgaaaStdFnExactFlySmaller
namespace Go.Proofs.Ytahfbpmaeijgaaa.Pure
open Go.RowKit Go.Proofs.Ytahfbpmaeijgaaa.QFnExactFlySmaller Go.Proofs.YtahfbpmaeijgaaaW.PrintWords Go.Proofs.Ytahfbpmaeijgaaa.Kit Go.Proofs.Ytahfbpmaeijgaaa.StdFnExactFlySmaller Go.Proofs.Ytahfbpmaeijgaaa.SayFnExactFlySmaller
set_option linter.unusedSimpArgs false
set_option linter.unusedVariables false
def cov (y x : S97) : Bool := decide (x.f0 = y.f0) && (decide (x.f1 = y.f1) && (decide (y.f2 ≤ x.f2) && (decide (x.f3 ≤ y.f3) && (decide (y.f4 ≤ x.f4) && decide (x.f5 ≤ y.f5)))))
def nob (x : S97) : Bool := decide (x.f2 > x.f3) || decide (x.f4 > x.f5)
/-- From box i on, d boxes: each is none, or within some box of the others. -/
def allS (a b : List S97) : Nat → Nat → Bool
  | 0, _ => true
  | d + 1, i => if (nob (rd_T97 a (i : Int)) || anyN (fun k => cov (rd_T97 b (k : Int)) (rd_T97 a (i : Int))) b.length 0) = true then allS a b d (i + 1) else false
theorem cover_eq (y x : S97) : spec_l25Cover.f y.f0 y.f1 y.f2 y.f3 y.f4 y.f5 x.f0 x.f1 x.f2 x.f3 x.f4 x.f5 = some (cov y x) := by
  unfold spec_l25Cover.f cov
  by_cases h0 : x.f0 = y.f0 <;> by_cases h1 : x.f1 = y.f1 <;> by_cases h2 : y.f2 ≤ x.f2 <;> by_cases h3 : x.f3 ≤ y.f3 <;> by_cases h4 : y.f4 ≤ x.f4 <;> simp [h0, h1, h2, h3, h4]
theorem none_eq (x : S97) : spec_l25None.f x.f0 x.f1 x.f2 x.f3 x.f4 x.f5 = some (nob x) := by
  unfold spec_l25None.f nob
  by_cases h : x.f2 > x.f3 <;> simp [h]
theorem smaller_spec (a b : List S97) (ha : a.length ≤ 1048576) (hb : b.length ≤ 1048576) : Ev (fun k => spec_FlySmaller.f k a b) (allS a b a.length 0) := by
  have go : ∀ (d i : Nat), i + d = a.length → Ev (fun k => spec_FlySmaller.l0 k a b (i : Int)) (allS a b d i) := by
    intro d
    induction d with
    | zero =>
      intro i hi
      refine Ev.step (fun k => ?_) (Ev.val _)
      simp only [spec_FlySmaller.l0]
      rw [if_neg (by omega)]
      rfl
    | succ d ih =>
      intro i hi
      have h := ih (i + 1) (by omega)
      rw [show (((i + 1 : Nat) : Int)) = (i : Int) + 1 by omega] at h
      have inner : ∀ (d2 k : Nat) (found : Bool), k + d2 = b.length → Ev (fun f => spec_FlySmaller.l1 f a b (i : Int) found (k : Int)) (if (found || anyN (fun k => cov (rd_T97 b (k : Int)) (rd_T97 a (i : Int))) d2 k) = true then allS a b d (i + 1) else false) := by
        intro d2
        induction d2 with
        | zero =>
          intro k found hk
          refine Ev.succ ?_
          simp only [spec_FlySmaller.l1]
          rw [w64 (show -9223372036854775808 ≤ (i : Int) + 1 by omega) (by omega)]
          refine Ev.ite_neg (by omega) ?_
          cases found with
          | true => exact Ev.ite_pos rfl (Ev.cast h (by simp))
          | false => exact Ev.ite_neg (by simp) (Ev.cast (Ev.val _) (by simp [anyN, findN]))
        | succ d2 ih2 =>
          intro k found hk
          refine Ev.succ ?_
          simp only [spec_FlySmaller.l1, cover_eq, Option.bind_some]
          rw [w64 (show -9223372036854775808 ≤ (k : Int) + 1 by omega) (by omega)]
          refine Ev.ite_pos (by omega) ?_
          cases found with
          | true =>
            have h2 := ih2 (k + 1) true (by omega)
            rw [show (((k + 1 : Nat) : Int)) = (k : Int) + 1 by omega] at h2
            exact Ev.ite_pos rfl (Ev.cast h2 (by simp))
          | false =>
            have h2 := ih2 (k + 1) (cov (rd_T97 b (k : Int)) (rd_T97 a (i : Int))) (by omega)
            rw [show (((k + 1 : Nat) : Int)) = (k : Int) + 1 by omega] at h2
            refine Ev.ite_neg (by simp) (Ev.ite_pos (by omega) (Ev.ite_pos (by omega) (Ev.ite_pos (by omega) (Ev.cast h2 ?_))))
            simp only [anyN, findN, Bool.false_or]
            cases cov (rd_T97 b (k : Int)) (rd_T97 a (i : Int)) <;> simp
      refine Ev.succ ?_
      simp only [spec_FlySmaller.l0, none_eq, Option.bind_some]
      refine Ev.ite_pos (by omega) (Ev.ite_pos (by omega) ?_)
      exact Ev.cast (inner b.length 0 (nob (rd_T97 a (i : Int))) (by omega)) rfl
  exact go a.length 0 (by omega)
theorem smaller_impl (a b : List S97) (ha : a.length ≤ 1048576) (hb : b.length ≤ 1048576) : Ev (fun k => impl_FlySmaller.f k a b) (allS a b a.length 0) := by
  have go : ∀ (d i : Nat), i + d = a.length → Ev (fun k => impl_FlySmaller.l0 k b a (a.length : Int) (i : Int)) (allS a b d i) := by
    intro d
    induction d with
    | zero =>
      intro i hi
      refine Ev.step (fun k => ?_) (Ev.val _)
      simp only [impl_FlySmaller.l0]
      rw [if_neg (by omega)]
      rfl
    | succ d ih =>
      intro i hi
      have h := ih (i + 1) (by omega)
      rw [show (((i + 1 : Nat) : Int)) = (i : Int) + 1 by omega] at h
      have round : ∀ k : Nat, k < b.length → ∀ f, impl_FlySmaller.l1 (f + 1) b a (a.length : Int) (i : Int) b (b.length : Int) (k : Int) (rd_T97 a (i : Int)).f0 (rd_T97 a (i : Int)).f1 (rd_T97 a (i : Int)).f2 (rd_T97 a (i : Int)).f3 (rd_T97 a (i : Int)).f4 (rd_T97 a (i : Int)).f5 = if cov (rd_T97 b (k : Int)) (rd_T97 a (i : Int)) = true then impl_FlySmaller.l0 f b a (a.length : Int) ((i : Int) + 1) else impl_FlySmaller.l1 f b a (a.length : Int) (i : Int) b (b.length : Int) ((k : Int) + 1) (rd_T97 a (i : Int)).f0 (rd_T97 a (i : Int)).f1 (rd_T97 a (i : Int)).f2 (rd_T97 a (i : Int)).f3 (rd_T97 a (i : Int)).f4 (rd_T97 a (i : Int)).f5 := by
        intro k hk f
        simp only [impl_FlySmaller.l1]
        rw [w64 (show -9223372036854775808 ≤ (i : Int) + 1 by omega) (by omega), w64 (show -9223372036854775808 ≤ (k : Int) + 1 by omega) (by omega), if_pos (show (k : Int) < (b.length : Int) by omega), if_pos (show (0 : Int) ≤ k by omega), if_pos (show (k : Int) < (b.length : Int) by omega)]
        unfold cov
        generalize rd_T97 a (i : Int) = x
        generalize rd_T97 b (k : Int) = y
        by_cases h0 : x.f0 = y.f0
        · by_cases h1 : x.f1 = y.f1
          · by_cases h2 : y.f2 ≤ x.f2
            · by_cases h3 : x.f3 ≤ y.f3
              · by_cases h4 : y.f4 ≤ x.f4
                · by_cases h5 : x.f5 ≤ y.f5 <;> simp [h0, h1, h2, h3, h4, h5]
                · simp [h0, h1, h2, h3, h4]
              · simp [h0, h1, h2, h3]
            · simp [h0, h1, h2]
          · simp [h0, h1]
        · simp [h0]
      have inner : ∀ (d2 k : Nat), k + d2 = b.length → Ev (fun f => impl_FlySmaller.l1 f b a (a.length : Int) (i : Int) b (b.length : Int) (k : Int) (rd_T97 a (i : Int)).f0 (rd_T97 a (i : Int)).f1 (rd_T97 a (i : Int)).f2 (rd_T97 a (i : Int)).f3 (rd_T97 a (i : Int)).f4 (rd_T97 a (i : Int)).f5) (if anyN (fun k => cov (rd_T97 b (k : Int)) (rd_T97 a (i : Int))) d2 k = true then allS a b d (i + 1) else false) := by
        intro d2
        induction d2 with
        | zero =>
          intro k hk
          refine Ev.step (fun f => ?_) (Ev.val _)
          simp only [impl_FlySmaller.l1]
          rw [if_neg (by omega)]
          rfl
        | succ d2 ih2 =>
          intro k hk
          have h2 := ih2 (k + 1) (by omega)
          rw [show (((k + 1 : Nat) : Int)) = (k : Int) + 1 by omega] at h2
          refine Ev.step (round k (by omega)) ?_
          simp only [anyN, findN]
          by_cases hc : cov (rd_T97 b (k : Int)) (rd_T97 a (i : Int)) = true
          · rw [if_pos hc]
            exact Ev.ite_pos hc (Ev.cast h (by simp))
          · rw [if_neg hc]
            exact Ev.ite_neg hc h2
      have tail : Ev (fun f => impl_FlySmaller.j1 f b a (a.length : Int) (i : Int) (nob (rd_T97 a (i : Int))) (rd_T97 a (i : Int)).f0 (rd_T97 a (i : Int)).f1 (rd_T97 a (i : Int)).f2 (rd_T97 a (i : Int)).f3 (rd_T97 a (i : Int)).f4 (rd_T97 a (i : Int)).f5) (allS a b (d + 1) i) := by
        refine Ev.succ ?_
        simp only [impl_FlySmaller.j1, allS]
        rw [w64 (show -9223372036854775808 ≤ (i : Int) + 1 by omega) (by omega)]
        by_cases hn : nob (rd_T97 a (i : Int)) = true
        · exact Ev.ite_pos hn (Ev.cast h (by simp [hn]))
        · refine Ev.ite_neg hn (Ev.cast (inner b.length 0 (by omega)) ?_)
          rw [Bool.eq_false_iff.2 hn, Bool.false_or]
      refine Ev.succ ?_
      simp only [impl_FlySmaller.l0]
      refine Ev.ite_pos (by omega) (Ev.ite_pos (by omega) (Ev.ite_pos (by omega) ?_))
      unfold nob at tail
      by_cases h1 : (rd_T97 a (i : Int)).f2 > (rd_T97 a (i : Int)).f3
      · refine Ev.ite_pos h1 ?_
        rw [decide_eq_true h1, Bool.true_or] at tail
        exact tail
      · refine Ev.ite_neg h1 ?_
        rw [decide_eq_false h1, Bool.false_or] at tail
        exact tail
  exact go a.length 0 (by omega)
theorem FnExactFlySmaller : Said := by
  intro xs ys ⟨hx, _⟩ ⟨hy, _⟩
  refine Ev.rounds (r := true) ?_
  unfold laws_FnExactFlySmaller.f
  rw [szFlyBoxS_eq xs hx 1048576 (by omega) (by omega)]
  simp only [Option.bind_some]
  by_cases h : (xs.length : Int) ≤ 1048576
  · have hl : xs.length ≤ 1048576 := by omega
    rw [if_pos h]
    refine Ev.ite_neg (by omega) ?_
    rw [szFlyBoxS_eq ys hy _ (by omega) (by omega)]
    simp only [Option.bind_some]
    by_cases h2 : (ys.length : Int) ≤ 1048576 - (xs.length : Int)
    · have hl2 : ys.length ≤ 1048576 := by omega
      have m1 : (xs.map conv_toFlyBoxS).length ≤ 1048576 := by rw [List.length_map]; exact hl
      have m2 : (ys.map conv_toFlyBoxS).length ≤ 1048576 := by rw [List.length_map]; exact hl2
      rw [if_pos h2]
      refine Ev.ite_neg (by omega) (Ev.bind (toFlyBoxS_ev xs hl) (Ev.bind (toFlyBoxS_ev ys hl2) (Ev.bind (smaller_spec _ _ m1 m2) (Ev.bind (toFlyBoxS_ev xs hl) (Ev.bind (toFlyBoxS_ev ys hl2) (Ev.bind (smaller_impl _ _ m1 m2) (Ev.ite_neg (by simp) ?_)))))))
      exact Ev.bind (toFlyBoxS_ev xs hl) (Ev.bind (eqFlyBoxS_ev _ m1) (Ev.ite_pos rfl (Ev.bind (toFlyBoxS_ev ys hl2) (Ev.bind (eqFlyBoxS_ev _ m2) (Ev.ite_pos rfl (Ev.val _))))))
    · rw [if_neg h2]
      exact Ev.ite_pos (by omega) (Ev.val _)
  · rw [if_neg h]
    exact Ev.ite_pos (by omega) (Ev.val _)
end Go.Proofs.Ytahfbpmaeijgaaa.Pure
