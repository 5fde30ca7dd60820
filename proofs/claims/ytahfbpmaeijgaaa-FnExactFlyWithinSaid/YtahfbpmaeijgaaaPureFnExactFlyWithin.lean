/-
  The law FnExactFlyWithin over numbers and lists: both go box by box and ask the same of each.
-/
import Derived.Test.YtahfbpmaeijgaaaSayFnExactFlyWithin
import Derived.Test.YtahfbpmaeijgaaaStdFnExactFlyWithin
namespace Go.Proofs.Ytahfbpmaeijgaaa.Pure
open Go.RowKit Go.Proofs.Ytahfbpmaeijgaaa.PFnExactFlyWithin Go.Proofs.YtahfbpmaeijgaaaW.PrintWords Go.Proofs.Ytahfbpmaeijgaaa.Kit Go.Proofs.Ytahfbpmaeijgaaa.StdFnExactFlyWithin Go.Proofs.Ytahfbpmaeijgaaa.SayFnExactFlyWithin
set_option linter.unusedSimpArgs false
set_option linter.unusedVariables false
def boxHas (b : S97) (x y l t : Int) : Bool := decide (b.f0 = x ∧ b.f1 = y ∧ b.f2 ≤ l ∧ l ≤ b.f3 ∧ b.f4 ≤ t ∧ t ≤ b.f5)
theorem has_spec (b : S97) (x y l t : Int) : spec_l25Has.f b.f0 b.f1 b.f2 b.f3 b.f4 b.f5 x y l t = some (boxHas b x y l t) := by
  unfold spec_l25Has.f spec_l21In.f boxHas
  by_cases h0 : b.f0 = x <;> by_cases h1 : b.f1 = y <;> by_cases h2 : b.f2 ≤ l <;> by_cases h3 : l ≤ b.f3 <;> by_cases h4 : b.f4 ≤ t <;> simp [h0, h1, h2, h3, h4]
def within (xs : List S97) (x y l t : Int) : Bool := anyN (fun j => boxHas (rd_T97 xs (j : Int)) x y l t) xs.length 0
theorem within_spec (xs : List S97) (x y l t : Int) (hl : xs.length ≤ 1048576) : Ev (fun k => spec_FlyWithin.f k xs x y l t) (within xs x y l t) := by
  have key := find_loop (F := fun k i => spec_FlyWithin.l0 k xs x y l t i) xs.length (fun j => boxHas (rd_T97 xs (j : Int)) x y l t) (fun _ => true) false ?_ ?_ ?_ xs.length 0 (by omega)
  · exact key
  · intro i hi hp
    refine Ev.step (fun k => ?_) (Ev.val _)
    simp only [spec_FlyWithin.l0, if_pos (show (i : Int) < (xs.length : Int) by omega), if_pos (show (0 : Int) ≤ i by omega), has_spec, Option.bind_some]
    rw [if_pos hp]
  · intro i hi hp r' hr
    refine Ev.step (fun k => ?_) hr
    simp only [spec_FlyWithin.l0, if_pos (show (i : Int) < (xs.length : Int) by omega), if_pos (show (0 : Int) ≤ i by omega), has_spec, Option.bind_some]
    rw [if_neg (by simp [hp]), w64 (by omega) (by omega)]
  · refine Ev.step (fun k => ?_) (Ev.val _)
    simp only [spec_FlyWithin.l0]
    rw [if_neg (by omega)]
theorem within_impl (xs : List S97) (x y l t : Int) (hl : xs.length ≤ 1048576) : Ev (fun k => impl_FlyWithin.f k xs x y l t) (within xs x y l t) := by
  have key := find_loop (F := fun k i => impl_FlyWithin.l0 k x y l t xs (xs.length : Int) i) xs.length (fun j => boxHas (rd_T97 xs (j : Int)) x y l t) (fun _ => true) false ?_ ?_ ?_ xs.length 0 (by omega)
  · exact key
  · intro i hi hp
    have hp := of_decide_eq_true hp
    refine Ev.step (fun k => ?_) (Ev.val _)
    simp only [impl_FlyWithin.l0, if_pos (show (i : Int) < (xs.length : Int) by omega), if_pos (show (0 : Int) ≤ i by omega), if_pos hp.1, if_pos hp.2.1, if_pos hp.2.2.1, if_pos hp.2.2.2.1, if_pos hp.2.2.2.2.1, if_pos hp.2.2.2.2.2]
  · intro i hi hp r' hr
    have hp := of_decide_eq_false hp
    have e : wrap64 ((i : Int) + 1) = (i : Int) + 1 := w64 (by omega) (by omega)
    refine Ev.step (fun k => ?_) hr
    simp only [impl_FlyWithin.l0, if_pos (show (i : Int) < (xs.length : Int) by omega), if_pos (show (0 : Int) ≤ i by omega), e]
    generalize impl_FlyWithin.l0 k x y l t xs (xs.length : Int) ((i : Int) + 1) = q
    repeat' split
    all_goals first | rfl | (exfalso; apply hp; refine ⟨?_, ?_, ?_, ?_, ?_, ?_⟩ <;> assumption)
  · refine Ev.step (fun k => ?_) (Ev.val _)
    simp only [impl_FlyWithin.l0]
    rw [if_neg (by omega)]
theorem FnExactFlyWithin : Said := by
  intro l0 x y l t ⟨hm, _⟩ _ _ _ _
  refine Ev.rounds (r := true) ?_
  unfold laws_FnExactFlyWithin.f
  rw [szFlyBoxS_eq l0 hm 1048576 (by omega) (by omega)]
  simp only [Option.bind_some]
  by_cases h : (l0.length : Int) ≤ 1048576
  · have hl : l0.length ≤ 1048576 := by omega
    have hl' : (l0.map conv_toFlyBoxS).length ≤ 1048576 := by rw [List.length_map]; exact hl
    rw [if_pos h]
    refine Ev.ite_neg (by omega) (Ev.bind (toFlyBoxS_ev l0 hl) (Ev.bind (within_spec _ x y l t hl') (Ev.bind (toFlyBoxS_ev l0 hl) (Ev.bind (within_impl _ x y l t hl') (Ev.ite_neg (by simp) (Ev.bind (toFlyBoxS_ev l0 hl) (Ev.bind (eqFlyBoxS_ev _ hl') (Ev.ite_pos rfl (Ev.val _)))))))))
  · rw [if_neg h]
    exact Ev.ite_pos (by omega) (Ev.val _)
end Go.Proofs.Ytahfbpmaeijgaaa.Pure
