/-
  The law FnExactHandWho over numbers and lists (under way).
-/
import Derived.Test.YtbmplfpnhjhoiaaSayFnExactHandWho
import Derived.Test.YtbmplfpnhjhoiaaStdFnExactHandWho
namespace Go.Proofs.Ytbmplfpnhjhoiaa.Pure
open Go.RowKit Go.Proofs.Ytbmplfpnhjhoiaa.QFnExactHandWho Go.Proofs.YtbmplfpnhjhoiaaW.PrintWords Go.Proofs.Ytbmplfpnhjhoiaa.Kit Go.Proofs.Ytbmplfpnhjhoiaa.StdFnExactHandWho Go.Proofs.Ytbmplfpnhjhoiaa.SayFnExactHandWho
set_option linter.unusedSimpArgs false
set_option linter.unusedVariables false
/-! #### boxes that are ok, boxes that come too near -/
def boxOk (b : S41) : Bool := decide ((0 ≤ b.f0 ∧ b.f0 ≤ 15) ∧ (0 ≤ b.f1 ∧ b.f1 ≤ 15) ∧ (0 ≤ b.f2 ∧ b.f2 ≤ b.f3 ∧ b.f3 ≤ 6) ∧ 0 ≤ b.f4 ∧ b.f4 ≤ b.f5 ∧ b.f5 ≤ 10000)
theorem boxOk_iff (b : S41) : boxOk b = true ↔ ((0 ≤ b.f0 ∧ b.f0 ≤ 15) ∧ (0 ≤ b.f1 ∧ b.f1 ≤ 15) ∧ (0 ≤ b.f2 ∧ b.f2 ≤ b.f3 ∧ b.f3 ≤ 6) ∧ 0 ≤ b.f4 ∧ b.f4 ≤ b.f5 ∧ b.f5 ≤ 10000) := decide_eq_true_iff
theorem spec_hin (a b c : Int) : spec_l31In.f a b c = some (decide (b ≤ a ∧ a ≤ c)) := by
  unfold spec_l31In.f
  by_cases h : a ≥ b <;> simp [h]
theorem impl_hin (a b c : Int) : impl_within.f a b c = some (decide (b ≤ a ∧ a ≤ c)) := by
  unfold impl_within.f
  by_cases h : a ≥ b <;> simp [h]
theorem spec_box (b : S41) : spec_l31BoxOk.f b.f0 b.f1 b.f2 b.f3 b.f4 b.f5 = some (boxOk b) := by
  unfold spec_l31BoxOk.f boxOk
  simp only [spec_hin, Option.bind_some, decide_eq_true_eq]
  repeat' split
  all_goals first | (congr 1; apply decide_eq_decide.2; omega) | (congr 1; symm; apply decide_eq_false; omega)
theorem impl_box (b : S41) : impl_handBox.f b.f0 b.f1 b.f2 b.f3 b.f4 b.f5 = some (boxOk b) := by
  unfold impl_handBox.f boxOk
  simp only [impl_hin, Option.bind_some, decide_eq_true_eq]
  repeat' split
  all_goals first | (congr 1; apply decide_eq_decide.2; omega) | (congr 1; symm; apply decide_eq_false; omega)
/-! #### zones that are ok -/
def chOk (c : Int) : Bool := decide ((97 ≤ c ∧ c ≤ 122) ∨ (48 ≤ c ∧ c ≤ 57) ∨ c = 45)
def nameOk (s : ByteArray) : Bool := decide (1 ≤ s.size ∧ s.size ≤ 8) && allN (fun i => chOk (bt s (i : Int))) s.size 0
theorem spec_zin (a b c : Int) : spec_l31In.f a b c = some (decide (b ≤ a ∧ a ≤ c)) := by
  unfold spec_l31In.f
  by_cases h : a ≥ b <;> simp [h]
theorem impl_zin (a b c : Int) : impl_within.f a b c = some (decide (b ≤ a ∧ a ≤ c)) := by
  unfold impl_within.f
  by_cases h : a ≥ b <;> simp [h]
theorem spec_name (s : ByteArray) (hs : s.size ≤ 9223372036854775807) : Ev (fun k => spec_l31NameOk.f k s) (nameOk s) := by
  unfold spec_l31NameOk.f nameOk
  rw [spec_zin]
  simp only [Option.bind_some]
  by_cases h : 1 ≤ s.size ∧ s.size ≤ 8
  · rw [decide_eq_true h, Bool.true_and]
    refine Ev.ite_pos (by simp; omega) ?_
    have round : ∀ i : Nat, i < s.size → ∀ k, spec_l31NameOk.l0 (k + 1) s (i : Int) = if chOk (bt s (i : Int)) = true then spec_l31NameOk.l0 k s ((i : Int) + 1) else some false := by
      intro i hi k
      simp only [spec_l31NameOk.l0]
      rw [if_pos (show (i : Int) < (s.size : Int) by omega), if_pos (show (0 : Int) ≤ i by omega), w64 (show -9223372036854775808 ≤ (i : Int) + 1 by omega) (by omega)]
      unfold chOk
      simp only [decide_eq_true_eq]
      repeat' split
      all_goals first | rfl | (exfalso; omega)
    refine find_loop (F := fun k i => spec_l31NameOk.l0 k s i) s.size (fun j => !chOk (bt s (j : Int))) (fun _ => false) true ?_ ?_ ?_ s.size 0 (by omega)
    · intro i hi hp
      exact Ev.step (round i hi) (Ev.ite_neg (by simpa using hp) (Ev.val _))
    · intro i hi hp r' hr
      exact Ev.step (round i hi) (Ev.ite_pos (by simpa using hp) hr)
    · refine Ev.step (fun k => ?_) (Ev.val _)
      simp only [spec_l31NameOk.l0]
      rw [if_neg (by omega)]
  · rw [decide_eq_false h, Bool.false_and]
    exact Ev.ite_neg (by simp; omega) (Ev.val _)
theorem impl_name (s : ByteArray) (hs : s.size ≤ 9223372036854775807) : Ev (fun k => impl_isName.f k s) (nameOk s) := by
  unfold impl_isName.f nameOk
  by_cases h : 1 ≤ s.size ∧ s.size ≤ 8
  · rw [decide_eq_true h, Bool.true_and]
    refine Ev.ite_neg (by omega) (Ev.succ ?_)
    simp only [impl_isName.j0]
    refine Ev.ite_neg (by simp; omega) ?_
    have round : ∀ i : Nat, i < s.size → ∀ k, impl_isName.l0 (k + 1) s (i : Int) = if chOk (bt s (i : Int)) = true then impl_isName.l0 k s ((i : Int) + 1) else some false := by
      intro i hi k
      simp only [impl_isName.l0]
      rw [if_pos (show (i : Int) < (s.size : Int) by omega), if_pos (show (0 : Int) ≤ i by omega), w64 (show -9223372036854775808 ≤ (i : Int) + 1 by omega) (by omega)]
      unfold chOk
      simp only [decide_eq_true_eq]
      repeat' split
      all_goals first | rfl | (exfalso; omega)
    refine find_loop (F := fun k i => impl_isName.l0 k s i) s.size (fun j => !chOk (bt s (j : Int))) (fun _ => false) true ?_ ?_ ?_ s.size 0 (by omega)
    · intro i hi hp
      exact Ev.step (round i hi) (Ev.ite_neg (by simpa using hp) (Ev.val _))
    · intro i hi hp r' hr
      exact Ev.step (round i hi) (Ev.ite_pos (by simpa using hp) hr)
    · refine Ev.step (fun k => ?_) (Ev.val _)
      simp only [impl_isName.l0]
      rw [if_neg (by omega)]
  · rw [decide_eq_false h, Bool.false_and]
    have bad : Ev (fun k => impl_isName.j0 k s true) false := Ev.step (fun k => (by simp only [impl_isName.j0]; exact if_pos trivial)) (Ev.val _)
    by_cases h1 : (s.size : Int) < 1
    · exact Ev.ite_pos h1 bad
    · refine Ev.ite_neg h1 ?_
      rw [decide_eq_true (show (s.size : Int) > 8 by omega)]
      exact bad
def less (a b : S55) : Bool := Op.bytesLess (a.f0).toList (b.f0).toList
def touch (z y : S55) : Bool := decide (y.f1 ≤ z.f3 ∧ z.f1 ≤ y.f3 ∧ y.f2 ≤ z.f4 ∧ z.f2 ≤ y.f4)
def rangeOk (z : S55) : Bool := decide ((0 ≤ z.f1 ∧ z.f1 ≤ z.f3 ∧ z.f3 < 16) ∧ (0 ≤ z.f2 ∧ z.f2 ≤ z.f4 ∧ z.f4 < 16))
def zoneOk (x : List S55) (i : Nat) : Bool := nameOk (rd_T55 x (i : Int)).f0 && ((decide (i = 0) || less (rd_T55 x ((i : Int) - 1)) (rd_T55 x (i : Int))) && rangeOk (rd_T55 x (i : Int)))
def zoneAt (x : List S55) (i : Nat) : Bool := zoneOk x i && !anyN (fun j => touch (rd_T55 x (i : Int)) (rd_T55 x (j : Int))) i 0
def zonesOk (x : List S55) : Bool := decide (1 ≤ x.length ∧ x.length ≤ 4) && allN (zoneAt x) x.length 0
theorem zone_bad {x : List S55} {i : Nat} (d : Nat) (h : zoneOk x i = false) : allN (zoneAt x) (d + 1) i = false := by
  simp only [allN, findN]
  rw [if_pos (by unfold zoneAt; rw [h]; rfl)]
theorem zone_good {x : List S55} {i : Nat} (d : Nat) (h : zoneOk x i = true) : allN (zoneAt x) (d + 1) i = findN (fun j => touch (rd_T55 x (i : Int)) (rd_T55 x (j : Int))) (fun _ => false) (allN (zoneAt x) d (i + 1)) i 0 := by
  have e : ∀ b : Bool, ∀ dd ii, findN (fun j => touch (rd_T55 x (i : Int)) (rd_T55 x (j : Int))) (fun _ => false) b dd ii = (!anyN (fun j => touch (rd_T55 x (i : Int)) (rd_T55 x (j : Int))) dd ii && b) := by
    intro b dd
    induction dd with
    | zero => intro ii; simp [findN]
    | succ dd ih =>
      intro ii
      simp only [findN, anyN]
      by_cases ht : touch (rd_T55 x (i : Int)) (rd_T55 x (ii : Int)) = true
      · rw [if_pos ht, if_pos ht]; rfl
      · rw [if_neg ht, if_neg ht]; exact ih (ii + 1)
  rw [e]
  simp only [allN, findN]
  unfold zoneAt
  rw [h, Bool.true_and]
  cases anyN (fun j => touch (rd_T55 x (i : Int)) (rd_T55 x (j : Int))) i 0
  · rfl
  · rfl
theorem spec_zones (x : List S55) (hx : ∀ i : Nat, i < x.length → (rd_T55 x (i : Int)).f0.size ≤ 9223372036854775807) : Ev (fun k => spec_HandZonesOk.f k x) (zonesOk x) := by
  unfold spec_HandZonesOk.f zonesOk
  rw [spec_zin]
  simp only [Option.bind_some]
  by_cases h : 1 ≤ x.length ∧ x.length ≤ 4
  · rw [decide_eq_true h, Bool.true_and]
    refine Ev.ite_pos (by simp; omega) ?_
    have loop : ∀ d i : Nat, i + d = x.length → Ev (fun k => spec_HandZonesOk.l0 k x (i : Int)) (allN (zoneAt x) d i) := by
      intro d
      induction d with
      | zero =>
        intro i hi
        refine Ev.succ ?_
        simp only [spec_HandZonesOk.l0]
        exact Ev.ite_neg (by omega) (Ev.val _)
      | succ d ih =>
        intro i hi
        have bad : zoneOk x i = false → Ev (fun k => spec_HandZonesOk.j1 k x (i : Int) true (rd_T55 x (i : Int)).f0 (rd_T55 x (i : Int)).f1 (rd_T55 x (i : Int)).f2 (rd_T55 x (i : Int)).f3 (rd_T55 x (i : Int)).f4) (allN (zoneAt x) (d + 1) i) := by
          intro hb
          rw [zone_bad d hb]
          exact Ev.step (fun k => (by simp only [spec_HandZonesOk.j1]; exact if_pos trivial)) (Ev.val _)
        have good : zoneOk x i = true → Ev (fun k => spec_HandZonesOk.l1 k x (i : Int) 0 (rd_T55 x (i : Int)).f0 (rd_T55 x (i : Int)).f1 (rd_T55 x (i : Int)).f2 (rd_T55 x (i : Int)).f3 (rd_T55 x (i : Int)).f4) (allN (zoneAt x) (d + 1) i) := by
          intro hg
          rw [zone_good d hg]
          have round : ∀ j : Nat, j < i → ∀ k, spec_HandZonesOk.l1 (k + 1) x (i : Int) (j : Int) (rd_T55 x (i : Int)).f0 (rd_T55 x (i : Int)).f1 (rd_T55 x (i : Int)).f2 (rd_T55 x (i : Int)).f3 (rd_T55 x (i : Int)).f4 = if touch (rd_T55 x (i : Int)) (rd_T55 x (j : Int)) = true then some false else spec_HandZonesOk.l1 k x (i : Int) ((j : Int) + 1) (rd_T55 x (i : Int)).f0 (rd_T55 x (i : Int)).f1 (rd_T55 x (i : Int)).f2 (rd_T55 x (i : Int)).f3 (rd_T55 x (i : Int)).f4 := by
            intro j hj k
            simp only [spec_HandZonesOk.l1]
            rw [if_pos (show (j : Int) < (i : Int) by omega), if_pos (show (0 : Int) ≤ j by omega), if_pos (show (j : Int) < (x.length : Int) by omega), w64 (show -9223372036854775808 ≤ (j : Int) + 1 by omega) (by omega)]
            unfold touch
            simp only [decide_eq_true_eq]
            repeat' split
            all_goals first | rfl | (exfalso; omega)
          refine find_loop (F := fun k j => spec_HandZonesOk.l1 k x (i : Int) j (rd_T55 x (i : Int)).f0 (rd_T55 x (i : Int)).f1 (rd_T55 x (i : Int)).f2 (rd_T55 x (i : Int)).f3 (rd_T55 x (i : Int)).f4) i (fun j => touch (rd_T55 x (i : Int)) (rd_T55 x (j : Int))) (fun _ => false) _ ?_ ?_ ?_ i 0 (by omega)
          · intro j hj hp
            exact Ev.step (round j hj) (Ev.ite_pos hp (Ev.val _))
          · intro j hj hp r' hr
            exact Ev.step (round j hj) (Ev.ite_neg (Bool.eq_false_iff.1 hp) hr)
          · have next := ih (i + 1) (by omega)
            refine Ev.succ ?_
            simp only [spec_HandZonesOk.l1]
            refine Ev.ite_neg (by omega) ?_
            rw [w64 (show -9223372036854775808 ≤ (i : Int) + 1 by omega) (by omega), show (i : Int) + 1 = (((i + 1 : Nat)) : Int) by omega]
            exact next
        refine Ev.succ ?_
        simp only [spec_HandZonesOk.l0, spec_zin, Option.bind_some]
        refine Ev.ite_pos (by omega) (Ev.ite_pos (by omega) (Ev.bind (spec_name _ (hx i (by omega))) ?_))
        by_cases hn : nameOk (rd_T55 x (i : Int)).f0 = true
        · refine Ev.ite_pos hn ?_
          have rest : (decide (i = 0) || less (rd_T55 x ((i : Int) - 1)) (rd_T55 x (i : Int))) = true → Ev (fun k => if (decide (0 ≤ (rd_T55 x (i : Int)).f1 ∧ (rd_T55 x (i : Int)).f1 ≤ (rd_T55 x (i : Int)).f3)) = true then (if (rd_T55 x (i : Int)).f3 ≥ 16 then (spec_HandZonesOk.j1 k x (i : Int) true (rd_T55 x (i : Int)).f0 (rd_T55 x (i : Int)).f1 (rd_T55 x (i : Int)).f2 (rd_T55 x (i : Int)).f3 (rd_T55 x (i : Int)).f4) else (if (decide (0 ≤ (rd_T55 x (i : Int)).f2 ∧ (rd_T55 x (i : Int)).f2 ≤ (rd_T55 x (i : Int)).f4)) = true then (spec_HandZonesOk.j1 k x (i : Int) (decide ((rd_T55 x (i : Int)).f4 ≥ 16)) (rd_T55 x (i : Int)).f0 (rd_T55 x (i : Int)).f1 (rd_T55 x (i : Int)).f2 (rd_T55 x (i : Int)).f3 (rd_T55 x (i : Int)).f4) else (spec_HandZonesOk.j1 k x (i : Int) true (rd_T55 x (i : Int)).f0 (rd_T55 x (i : Int)).f1 (rd_T55 x (i : Int)).f2 (rd_T55 x (i : Int)).f3 (rd_T55 x (i : Int)).f4))) else (spec_HandZonesOk.j1 k x (i : Int) true (rd_T55 x (i : Int)).f0 (rd_T55 x (i : Int)).f1 (rd_T55 x (i : Int)).f2 (rd_T55 x (i : Int)).f3 (rd_T55 x (i : Int)).f4)) (allN (zoneAt x) (d + 1) i) := by
            intro ho
            have zo : zoneOk x i = rangeOk (rd_T55 x (i : Int)) := by unfold zoneOk; rw [hn, ho]; rfl
            by_cases hr : rangeOk (rd_T55 x (i : Int)) = true
            · have hr' := of_decide_eq_true hr
              refine Ev.ite_pos (decide_eq_true (by omega)) (Ev.ite_neg (by omega) (Ev.ite_pos (decide_eq_true (by omega)) (Ev.succ ?_)))
              simp only [spec_HandZonesOk.j1]
              exact Ev.ite_neg (by simp; omega) (good (by rw [zo, hr]))
            · have hb : zoneOk x i = false := by rw [zo]; exact Bool.eq_false_iff.2 hr
              have hr' : ¬ ((0 ≤ (rd_T55 x (i : Int)).f1 ∧ (rd_T55 x (i : Int)).f1 ≤ (rd_T55 x (i : Int)).f3 ∧ (rd_T55 x (i : Int)).f3 < 16) ∧ (0 ≤ (rd_T55 x (i : Int)).f2 ∧ (rd_T55 x (i : Int)).f2 ≤ (rd_T55 x (i : Int)).f4 ∧ (rd_T55 x (i : Int)).f4 < 16)) := fun hh => hr (decide_eq_true hh)
              by_cases h1 : 0 ≤ (rd_T55 x (i : Int)).f1 ∧ (rd_T55 x (i : Int)).f1 ≤ (rd_T55 x (i : Int)).f3
              · refine Ev.ite_pos (decide_eq_true h1) ?_
                by_cases h2 : (rd_T55 x (i : Int)).f3 ≥ 16
                · exact Ev.ite_pos h2 (bad hb)
                · refine Ev.ite_neg h2 ?_
                  by_cases h3 : 0 ≤ (rd_T55 x (i : Int)).f2 ∧ (rd_T55 x (i : Int)).f2 ≤ (rd_T55 x (i : Int)).f4
                  · refine Ev.ite_pos (decide_eq_true h3) ?_
                    rw [decide_eq_true (show (rd_T55 x (i : Int)).f4 ≥ 16 by omega)]
                    exact bad hb
                  · exact Ev.ite_neg (by simpa using h3) (bad hb)
              · exact Ev.ite_neg (by simpa using h1) (bad hb)
          by_cases h0 : i = 0
          · exact Ev.ite_neg (by omega) (rest (by rw [decide_eq_true h0]; rfl))
          · refine Ev.ite_pos (by omega) ?_
            rw [w64 (show -9223372036854775808 ≤ (i : Int) - 1 by omega) (by omega)]
            refine Ev.ite_pos (by omega) (Ev.ite_pos (by omega) ?_)
            by_cases hl : less (rd_T55 x ((i : Int) - 1)) (rd_T55 x (i : Int)) = true
            · exact Ev.ite_pos hl (rest (by rw [hl, Bool.or_true]))
            · exact Ev.ite_neg hl (bad (by unfold zoneOk; rw [decide_eq_false h0, Bool.eq_false_iff.2 hl]; simp))
        · exact Ev.ite_neg hn (bad (by unfold zoneOk; rw [Bool.eq_false_iff.2 hn]; rfl))
    exact loop x.length 0 (by omega)
  · rw [decide_eq_false h, Bool.false_and]
    exact Ev.ite_neg (by simp; omega) (Ev.val _)
theorem rd_takeZ (x : List S55) (i j : Nat) (hj : j < i) : rd_T55 (x.take i) (j : Int) = rd_T55 x (j : Int) := by
  show (x.take i).getD ((j : Int)).toNat _ = x.getD ((j : Int)).toNat _
  rw [Int.toNat_natCast, List.getD_eq_getElem?_getD, List.getD_eq_getElem?_getD, List.getElem?_take_of_lt hj]
theorem impl_zones (x : List S55) (hx : ∀ i : Nat, i < x.length → (rd_T55 x (i : Int)).f0.size ≤ 9223372036854775807) : Ev (fun k => impl_HandZonesOk.f k x) (zonesOk x) := by
  unfold impl_HandZonesOk.f zonesOk
  rw [impl_zin]
  simp only [Option.bind_some]
  by_cases h : 1 ≤ x.length ∧ x.length ≤ 4
  · rw [decide_eq_true h, Bool.true_and]
    refine Ev.ite_pos (by simp; omega) ?_
    have loop : ∀ d i : Nat, i + d = x.length → Ev (fun k => impl_HandZonesOk.l0 k x x (x.length : Int) (i : Int)) (allN (zoneAt x) d i) := by
      intro d
      induction d with
      | zero =>
        intro i hi
        refine Ev.succ ?_
        simp only [impl_HandZonesOk.l0]
        exact Ev.ite_neg (by omega) (Ev.val _)
      | succ d ih =>
        intro i hi
        have bad : zoneOk x i = false → Ev (fun k => impl_HandZonesOk.j1 k x (i : Int) x (x.length : Int) (i : Int) true (rd_T55 x (i : Int)).f0 (rd_T55 x (i : Int)).f1 (rd_T55 x (i : Int)).f2 (rd_T55 x (i : Int)).f3 (rd_T55 x (i : Int)).f4) (allN (zoneAt x) (d + 1) i) := by
          intro hb
          rw [zone_bad d hb]
          exact Ev.step (fun k => (by simp only [impl_HandZonesOk.j1]; exact if_pos trivial)) (Ev.val _)
        have good : zoneOk x i = true → Ev (fun k => impl_HandZonesOk.l1 k x x (x.length : Int) (i : Int) (x.take i) ((x.take i).length : Int) 0 (rd_T55 x (i : Int)).f0 (rd_T55 x (i : Int)).f1 (rd_T55 x (i : Int)).f2 (rd_T55 x (i : Int)).f3 (rd_T55 x (i : Int)).f4) (allN (zoneAt x) (d + 1) i) := by
          intro hg
          rw [zone_good d hg]
          have hlen : (x.take i).length = i := by rw [List.length_take]; omega
          rw [hlen]
          have round : ∀ j : Nat, j < i → ∀ k, impl_HandZonesOk.l1 (k + 1) x x (x.length : Int) (i : Int) (x.take i) (i : Int) (j : Int) (rd_T55 x (i : Int)).f0 (rd_T55 x (i : Int)).f1 (rd_T55 x (i : Int)).f2 (rd_T55 x (i : Int)).f3 (rd_T55 x (i : Int)).f4 = if touch (rd_T55 x (i : Int)) (rd_T55 x (j : Int)) = true then some false else impl_HandZonesOk.l1 k x x (x.length : Int) (i : Int) (x.take i) (i : Int) ((j : Int) + 1) (rd_T55 x (i : Int)).f0 (rd_T55 x (i : Int)).f1 (rd_T55 x (i : Int)).f2 (rd_T55 x (i : Int)).f3 (rd_T55 x (i : Int)).f4 := by
            intro j hj k
            simp only [impl_HandZonesOk.l1, rd_takeZ x i j hj, hlen]
            rw [if_pos (show (j : Int) < (i : Int) by omega), if_pos (show (0 : Int) ≤ j by omega), if_pos (show (j : Int) < (i : Int) by omega), w64 (show -9223372036854775808 ≤ (j : Int) + 1 by omega) (by omega)]
            unfold touch
            simp only [decide_eq_true_eq]
            repeat' split
            all_goals first | rfl | (exfalso; omega)
          refine find_loop (F := fun k j => impl_HandZonesOk.l1 k x x (x.length : Int) (i : Int) (x.take i) (i : Int) j (rd_T55 x (i : Int)).f0 (rd_T55 x (i : Int)).f1 (rd_T55 x (i : Int)).f2 (rd_T55 x (i : Int)).f3 (rd_T55 x (i : Int)).f4) i (fun j => touch (rd_T55 x (i : Int)) (rd_T55 x (j : Int))) (fun _ => false) _ ?_ ?_ ?_ i 0 (by omega)
          · intro j hj hp
            exact Ev.step (round j hj) (Ev.ite_pos hp (Ev.val _))
          · intro j hj hp r' hr
            exact Ev.step (round j hj) (Ev.ite_neg (Bool.eq_false_iff.1 hp) hr)
          · have next := ih (i + 1) (by omega)
            refine Ev.succ ?_
            simp only [impl_HandZonesOk.l1]
            refine Ev.ite_neg (by omega) ?_
            rw [w64 (show -9223372036854775808 ≤ (i : Int) + 1 by omega) (by omega), show (i : Int) + 1 = (((i + 1 : Nat)) : Int) by omega]
            exact next
        refine Ev.succ ?_
        simp only [impl_HandZonesOk.l0]
        refine Ev.ite_pos (by omega) (Ev.ite_pos (by omega) (Ev.ite_pos (by omega) (Ev.bind (impl_name _ (hx i (by omega))) ?_)))
        by_cases hn : nameOk (rd_T55 x (i : Int)).f0 = true
        · refine Ev.ite_pos hn ?_
          by_cases hr : rangeOk (rd_T55 x (i : Int)) = true
          · have hr' := of_decide_eq_true hr
            refine Ev.ite_pos (by omega) (Ev.ite_pos (by omega) (Ev.ite_pos (by omega) (Ev.ite_pos (by omega) (Ev.ite_pos (by omega) (Ev.ite_pos (by omega) ?_)))))
            have go : zoneOk x i = true → Ev (fun k => impl_HandZonesOk.j1 k x (i : Int) x (x.length : Int) (i : Int) false (rd_T55 x (i : Int)).f0 (rd_T55 x (i : Int)).f1 (rd_T55 x (i : Int)).f2 (rd_T55 x (i : Int)).f3 (rd_T55 x (i : Int)).f4) (allN (zoneAt x) (d + 1) i) := by
              intro hg
              refine Ev.succ ?_
              simp only [impl_HandZonesOk.j1, Int.toNat_natCast, Option.bind_some]
              exact Ev.ite_neg (by decide) (Ev.ite_pos (by omega) (Ev.ite_pos (by omega) (good hg)))
            by_cases h0 : i = 0
            · exact Ev.ite_neg (by omega) (go (by unfold zoneOk; rw [hn, hr, decide_eq_true h0]; rfl))
            · refine Ev.ite_pos (by omega) ?_
              rw [w64 (show -9223372036854775808 ≤ (i : Int) - 1 by omega) (by omega)]
              refine Ev.ite_pos (by omega) (Ev.ite_pos (by omega) ?_)
              show Ev (fun k => impl_HandZonesOk.j1 k x (i : Int) x (x.length : Int) (i : Int) (!less (rd_T55 x ((i : Int) - 1)) (rd_T55 x (i : Int))) (rd_T55 x (i : Int)).f0 (rd_T55 x (i : Int)).f1 (rd_T55 x (i : Int)).f2 (rd_T55 x (i : Int)).f3 (rd_T55 x (i : Int)).f4) _
              by_cases hl : less (rd_T55 x ((i : Int) - 1)) (rd_T55 x (i : Int)) = true
              · rw [hl]
                exact go (by unfold zoneOk; rw [hn, hr, hl, Bool.or_true]; rfl)
              · rw [Bool.eq_false_iff.2 hl]
                exact bad (by unfold zoneOk; rw [decide_eq_false h0, Bool.eq_false_iff.2 hl]; simp)
          · have hb : zoneOk x i = false := by unfold zoneOk; rw [Bool.eq_false_iff.2 hr]; simp
            have hr' : ¬ ((0 ≤ (rd_T55 x (i : Int)).f1 ∧ (rd_T55 x (i : Int)).f1 ≤ (rd_T55 x (i : Int)).f3 ∧ (rd_T55 x (i : Int)).f3 < 16) ∧ (0 ≤ (rd_T55 x (i : Int)).f2 ∧ (rd_T55 x (i : Int)).f2 ≤ (rd_T55 x (i : Int)).f4 ∧ (rd_T55 x (i : Int)).f4 < 16)) := fun hh => hr (decide_eq_true hh)
            by_cases h1 : 0 ≤ (rd_T55 x (i : Int)).f1
            · refine Ev.ite_pos h1 ?_
              by_cases h2 : (rd_T55 x (i : Int)).f1 ≤ (rd_T55 x (i : Int)).f3
              · refine Ev.ite_pos h2 ?_
                by_cases h3 : (rd_T55 x (i : Int)).f3 < 16
                · refine Ev.ite_pos h3 ?_
                  by_cases h4 : 0 ≤ (rd_T55 x (i : Int)).f2
                  · refine Ev.ite_pos h4 ?_
                    by_cases h5 : (rd_T55 x (i : Int)).f2 ≤ (rd_T55 x (i : Int)).f4
                    · exact Ev.ite_pos h5 (Ev.ite_neg (by omega) (bad hb))
                    · exact Ev.ite_neg h5 (bad hb)
                  · exact Ev.ite_neg h4 (bad hb)
                · exact Ev.ite_neg h3 (bad hb)
              · exact Ev.ite_neg h2 (bad hb)
            · exact Ev.ite_neg h1 (bad hb)
        · refine Ev.ite_neg hn ?_
          exact bad (by unfold zoneOk; rw [Bool.eq_false_iff.2 hn]; rfl)
    exact loop x.length 0 (by omega)
  · rw [decide_eq_false h, Bool.false_and]
    exact Ev.ite_neg (by simp; omega) (Ev.val _)
/-! #### the part of a row that a zone sees -/
def sees (z : S55) (b : S41) : Bool := boxOk b && decide ((z.f1 - 1 ≤ b.f0 ∧ b.f0 ≤ z.f3 + 1) ∧ (z.f2 - 1 ≤ b.f1 ∧ b.f1 ≤ z.f4 + 1))
def partOf (z : S55) (x : List S41) : List S41 := if zonesOk [z] = true then x.filter (sees z) else []
theorem partOf_length (z : S55) (x : List S41) : (partOf z x).length ≤ x.length := by
  unfold partOf
  split
  · exact List.length_filter_le _ _
  · exact Nat.zero_le _
theorem one_size (z : S55) (hz : z.f0.size ≤ 9223372036854775807) : ∀ i : Nat, i < [z].length → (rd_T55 [z] (i : Int)).f0.size ≤ 9223372036854775807 := by
  intro i hi
  have e : i = 0 := by simp only [List.length_cons, List.length_nil] at hi; omega
  subst e
  exact hz
theorem one_range {z : S55} (h : zonesOk [z] = true) : (0 ≤ z.f1 ∧ z.f1 ≤ z.f3 ∧ z.f3 < 16) ∧ (0 ≤ z.f2 ∧ z.f2 ≤ z.f4 ∧ z.f4 < 16) := by
  unfold zonesOk at h
  rw [Bool.and_eq_true] at h
  have h2 := (allN_iff _ _).1 h.2 0 (Nat.le_refl _) (by simp)
  unfold zoneAt at h2
  rw [Bool.and_eq_true] at h2
  have h3 := h2.1
  unfold zoneOk at h3
  rw [Bool.and_eq_true, Bool.and_eq_true] at h3
  exact of_decide_eq_true h3.2.2
theorem spec_sees (z : S55) (b : S41) (h : zonesOk [z] = true) : spec_l31Sees.f z.f0 z.f1 z.f2 z.f3 z.f4 b.f0 b.f1 b.f2 b.f3 b.f4 b.f5 = some (sees z b) := by
  have r := one_range h
  unfold spec_l31Sees.f sees
  rw [spec_box]
  rw [w64 (show -9223372036854775808 ≤ z.f1 - 2 by omega) (by omega), w64 (show -9223372036854775808 ≤ z.f1 - 2 + 1 by omega) (by omega), w64 (show -9223372036854775808 ≤ z.f3 + 2 by omega) (by omega), w64 (show -9223372036854775808 ≤ z.f3 + 2 - 1 by omega) (by omega), w64 (show -9223372036854775808 ≤ z.f2 - 2 by omega) (by omega), w64 (show -9223372036854775808 ≤ z.f2 - 2 + 1 by omega) (by omega), w64 (show -9223372036854775808 ≤ z.f4 + 2 by omega) (by omega), w64 (show -9223372036854775808 ≤ z.f4 + 2 - 1 by omega) (by omega)]
  simp only [spec_zin, Option.bind_some]
  cases boxOk b
  · rfl
  · rw [if_pos rfl, Bool.true_and]
    by_cases h1 : z.f1 - 2 + 1 ≤ b.f0 ∧ b.f0 ≤ z.f3 + 2 - 1
    · rw [decide_eq_true h1, if_pos rfl]
      congr 1
      apply decide_eq_decide.2
      omega
    · rw [decide_eq_false h1, if_neg (by decide)]
      congr 1
      symm
      apply decide_eq_false
      omega
theorem filter_step (P : S41 → Bool) (x : List S41) (i : Nat) (hi : i < x.length) : (x.take (i + 1)).filter P = if P (rd_T41 x (i : Int)) = true then (x.take i).filter P ++ [rd_T41 x (i : Int)] else (x.take i).filter P := by
  have e : rd_T41 x (i : Int) = x[i] := by
    show x.getD ((i : Int)).toNat _ = x[i]
    rw [Int.toNat_natCast, List.getD_eq_getElem?_getD, List.getElem?_eq_getElem hi]; rfl
  rw [List.take_add_one, List.getElem?_eq_getElem hi, List.filter_append, e]
  by_cases hp : P x[i] = true
  · rw [if_pos hp]; simp [hp]
  · rw [if_neg hp]; simp [hp]
theorem filter_len (P : S41 → Bool) (x : List S41) (i : Nat) : ((x.take i).filter P).length ≤ x.length := by
  have := List.length_filter_le P (x.take i)
  rw [List.length_take] at this
  omega
theorem spec_part (z : S55) (x : List S41) (hz : z.f0.size ≤ 9223372036854775807) (hx : x.length ≤ 1048576) : Ev (fun k => spec_HandPartOf.f k z.f0 z.f1 z.f2 z.f3 z.f4 x) (partOf z x) := by
  unfold spec_HandPartOf.f partOf
  have zone : Ev (fun k => spec_l31ZoneOk.f k z.f0 z.f1 z.f2 z.f3 z.f4) (zonesOk [z]) := by
    unfold spec_l31ZoneOk.f
    exact Ev.bind (spec_zones [z] (one_size z hz)) (Ev.val _)
  by_cases h : zonesOk [z] = true
  · rw [if_pos h]
    rw [h] at zone
    have loop : ∀ d i : Nat, i + d = x.length → Ev (fun k => spec_HandPartOf.l0 k x ((x.take i).filter (sees z)) (i : Int) z.f0 z.f1 z.f2 z.f3 z.f4) (x.filter (sees z)) := by
      intro d
      induction d with
      | zero =>
        intro i hi
        refine Ev.succ ?_
        simp only [spec_HandPartOf.l0]
        refine Ev.ite_neg (by omega) (Ev.succ ?_)
        simp only [spec_HandPartOf.j1]
        refine Ev.ite_neg (by decide) (Ev.cast (Ev.val _) ?_)
        rw [List.take_of_length_le (by omega)]
      | succ d ih =>
        intro i hi
        refine Ev.succ ?_
        simp only [spec_HandPartOf.l0]
        refine Ev.ite_pos (by omega) (Ev.bind zone (Ev.succ ?_))
        simp only [spec_HandPartOf.j1]
        refine Ev.ite_pos trivial (Ev.ite_pos (by omega) (Ev.ite_pos (by omega) ?_))
        rw [spec_sees z _ h, w64 (show -9223372036854775808 ≤ (i : Int) + 1 by omega) (by omega)]
        simp only [Option.bind_some]
        have next := ih (i + 1) (by omega)
        rw [filter_step (sees z) x i (by omega), show (((i + 1 : Nat)) : Int) = (i : Int) + 1 by omega] at next
        by_cases hs : sees z (rd_T41 x (i : Int)) = true
        · rw [if_pos hs] at next
          have := filter_len (sees z) x i
          exact Ev.ite_pos hs (Ev.ite_pos (by omega) next)
        · rw [if_neg hs] at next
          exact Ev.ite_neg hs next
    exact loop x.length 0 (by omega)
  · rw [if_neg h]
    rw [Bool.eq_false_iff.2 h] at zone
    refine Ev.succ ?_
    simp only [spec_HandPartOf.l0]
    by_cases h0 : (0 : Int) < (x.length : Int)
    · refine Ev.ite_pos h0 (Ev.bind zone (Ev.succ ?_))
      simp only [spec_HandPartOf.j1]
      exact Ev.ite_neg (by decide) (Ev.val _)
    · refine Ev.ite_neg h0 (Ev.succ ?_)
      simp only [spec_HandPartOf.j1]
      exact Ev.ite_neg (by decide) (Ev.val _)
theorem impl_part (z : S55) (x : List S41) (hz : z.f0.size ≤ 9223372036854775807) (hx : x.length ≤ 1048576) : Ev (fun k => impl_HandPartOf.f k z.f0 z.f1 z.f2 z.f3 z.f4 x) (partOf z x) := by
  unfold impl_HandPartOf.f partOf
  refine Ev.bind (impl_zones [z] (one_size z hz)) ?_
  by_cases h : zonesOk [z] = true
  · rw [if_pos h]
    refine Ev.ite_pos h ?_
    have r := one_range h
    have loop : ∀ d i : Nat, i + d = x.length → Ev (fun k => impl_HandPartOf.l0 k ((x.take i).filter (sees z)) x (x.length : Int) (i : Int) z.f0 z.f1 z.f2 z.f3 z.f4) (x.filter (sees z)) := by
      intro d
      induction d with
      | zero =>
        intro i hi
        refine Ev.succ ?_
        simp only [impl_HandPartOf.l0]
        refine Ev.ite_neg (by omega) (Ev.cast (Ev.val _) ?_)
        rw [List.take_of_length_le (by omega)]
      | succ d ih =>
        intro i hi
        refine Ev.succ ?_
        simp only [impl_HandPartOf.l0, impl_box, impl_zin, Option.bind_some]
        refine Ev.ite_pos (by omega) (Ev.ite_pos (by omega) (Ev.ite_pos (by omega) ?_))
        rw [w64 (show -9223372036854775808 ≤ (i : Int) + 1 by omega) (by omega), w64 (show -9223372036854775808 ≤ z.f1 - 1 by omega) (by omega), w64 (show -9223372036854775808 ≤ z.f3 + 1 by omega) (by omega), w64 (show -9223372036854775808 ≤ z.f2 - 1 by omega) (by omega), w64 (show -9223372036854775808 ≤ z.f4 + 1 by omega) (by omega)]
        have next := ih (i + 1) (by omega)
        rw [filter_step (sees z) x i (by omega), show (((i + 1 : Nat)) : Int) = (i : Int) + 1 by omega] at next
        have hlen := filter_len (sees z) x i
        by_cases hb : boxOk (rd_T41 x (i : Int)) = true
        · refine Ev.ite_pos hb ?_
          by_cases h1 : z.f1 - 1 ≤ (rd_T41 x (i : Int)).f0 ∧ (rd_T41 x (i : Int)).f0 ≤ z.f3 + 1
          · refine Ev.ite_pos (decide_eq_true h1) ?_
            by_cases h2 : z.f2 - 1 ≤ (rd_T41 x (i : Int)).f1 ∧ (rd_T41 x (i : Int)).f1 ≤ z.f4 + 1
            · have hs : sees z (rd_T41 x (i : Int)) = true := by unfold sees; rw [hb, decide_eq_true ⟨h1, h2⟩]; rfl
              rw [if_pos hs] at next
              exact Ev.ite_pos (decide_eq_true h2) (Ev.ite_pos (by omega) next)
            · have hs : sees z (rd_T41 x (i : Int)) = false := by unfold sees; rw [decide_eq_false (fun hh => h2 hh.2), Bool.and_false]
              rw [if_neg (by rw [hs]; decide)] at next
              exact Ev.ite_neg (by simpa using h2) next
          · have hs : sees z (rd_T41 x (i : Int)) = false := by unfold sees; rw [decide_eq_false (fun hh => h1 hh.1), Bool.and_false]
            rw [if_neg (by rw [hs]; decide)] at next
            exact Ev.ite_neg (by simpa using h1) next
        · have hs : sees z (rd_T41 x (i : Int)) = false := by unfold sees; rw [Bool.eq_false_iff.2 hb, Bool.false_and]
          rw [if_neg (by rw [hs]; decide)] at next
          exact Ev.ite_neg hb next
    exact loop x.length 0 (by omega)
  · rw [if_neg h]
    exact Ev.ite_neg h (Ev.val _)
/-! #### marks of texts -/
theorem one_num (c : Int) : (strOfNums [c]).size = 1 := rfl
theorem markText_loop : ∀ (d : Nat) (m : Int) (x : ByteArray), 0 ≤ m → m < 10 ^ d → m ≤ 9223372036854775807 → x.size + d + 1 ≤ 9223372036854775807 → ∃ s, Ev (fun k => laws_markText.l0 k m x) s
  | 0, m, x, h0, hm, hb, hx => by
    have e : m = 0 := by simp at hm; omega
    subst e
    exact ⟨_, Ev.step (fun k => (by simp only [laws_markText.l0]; rw [if_neg (by decide), if_pos (by omega)])) (Ev.val _)⟩
  | d + 1, m, x, h0, hm, hb, hx => by
    by_cases hp : m > 0
    · have hd : Int.tdiv m 10 = m / 10 := Int.tdiv_eq_ediv_of_nonneg h0
      have hpow : (10 : Int) ^ (d + 1) = 10 ^ d * 10 := Int.pow_succ 10 d
      have e : wrap64 (Int.tdiv m 10) = m / 10 := by rw [hd]; exact w64 (by omega) (by omega)
      obtain ⟨s, hs⟩ := markText_loop d (m / 10) ((strOfNums [(wrap64 (48 + (Int.tmod m 10))) % 256]) ++ x) (by omega) (by rw [hpow] at hm; omega) (by omega) (by rw [ByteArray.size_append, one_num]; omega)
      refine ⟨s, Ev.succ ?_⟩
      simp only [laws_markText.l0, Option.bind_some, e]
      exact Ev.ite_pos hp (Ev.ite_pos (by rw [one_num]; omega) hs)
    · have e : m = 0 := by omega
      subst e
      exact ⟨_, Ev.step (fun k => (by simp only [laws_markText.l0]; rw [if_neg (by decide), if_pos (by omega)])) (Ev.val _)⟩
theorem markText_ev (m : Int) (hm : m ≤ 1000000000) : ∃ s, Ev (fun k => laws_markText.f k m) s := by
  unfold laws_markText.f
  by_cases h : m ≤ 0
  · exact ⟨_, Ev.ite_pos h (Ev.val _)⟩
  · obtain ⟨s, hs⟩ := markText_loop 10 m ⟨#[]⟩ (by omega) (by omega) (by omega) (by decide)
    exact ⟨s, Ev.ite_neg h hs⟩
/-! #### marking loops whose elements take rounds of their own -/
theorem mark_loopE {α : Type} {F : Nat → List α → Int → Int → Option (Int × List α)} {mk : Int → α} {m c : Int} (hc : 0 ≤ c) (hm0 : 0 ≤ m) (N : Nat) (hN : m + c * (N : Int) ≤ 1000000000)
    (hs : ∀ (x0 : List α) (q i : Int), 0 ≤ i → i < x0.length → x0.length = N → 0 ≤ q → q + c ≤ 1000000000 → ∀ r, Ev (fun k => F k (x0.set i.toNat (mk q)) (q + c) (i + 1)) r → Ev (fun k => F k x0 q i) r)
    (he : ∀ (x0 : List α) (q i : Int), ¬ i < x0.length → ∀ k, F (k + 1) x0 q i = some (q, x0)) :
    ∀ (d : Nat) (i : Nat) (x0 : List α), x0.length = N → N - i = d → i ≤ N → (∀ j : Nat, j < i → x0[j]? = some (mk (m + c * (j : Int)))) → Ev (fun k => F k x0 (m + c * (i : Int)) (i : Int)) (m + c * (N : Int), marks mk m c N)
  | 0, i, x0, hl, hd, hi, hj => Ev.step (he x0 _ _ (by omega)) (Ev.cast (Ev.val (m + c * (i : Int), x0)) (by
      have e : i = N := by omega
      subst e
      congr 1
      apply List.ext_getElem?
      intro j
      by_cases hjl : j < i
      · rw [hj j hjl, marks_get mk m c i j hjl]
      · rw [List.getElem?_eq_none (by omega), List.getElem?_eq_none (by rw [marks_length]; omega)]))
  | d + 1, i, x0, hl, hd, hi, hj => by
    have hle : c * ((i + 1 : Nat) : Int) ≤ c * (N : Int) := Int.mul_le_mul_of_nonneg_left (by omega) hc
    have h0 : 0 ≤ c * (i : Int) := Int.mul_nonneg hc (by omega)
    have hmul : c * ((i + 1 : Nat) : Int) = c * (i : Int) + c := by rw [Int.natCast_add, Int.mul_add]; simp
    refine hs x0 _ _ (by omega) (by omega) hl (by omega) (by omega) _ ?_
    have := mark_loopE hc hm0 N hN hs he d (i + 1) (x0.set i (mk (m + c * (i : Int)))) (by rw [List.length_set]; exact hl) (by omega) (by omega) (fun j hjl => by
      by_cases e : j = i
      · subst e
        rw [List.getElem?_set_self (by omega)]
      · rw [List.getElem?_set_ne (Ne.symm e)]
        exact hj j (by omega))
    rw [hmul] at this
    simpa [Int.add_assoc] using this
theorem held_loopE {α : Type} {F : Nat → List α → Int → Int → Option Int} {mk : Int → α} {m c : Int} (z : α) (hc : 0 ≤ c) (hm0 : 0 ≤ m) (N : Nat) (hN : m + c * (N : Int) ≤ 1000000000)
    (hs : ∀ (x0 : List α) (q i : Int), 0 ≤ i → i < x0.length → x0.length = N → 0 ≤ q → q + c ≤ 1000000000 → x0.getD i.toNat z = mk q → ∀ r, Ev (fun k => F k x0 (q + c) (i + 1)) r → Ev (fun k => F k x0 q i) r)
    (he : ∀ (x0 : List α) (q i : Int), ¬ i < x0.length → ∀ k, F (k + 1) x0 q i = some q) :
    ∀ (d : Nat) (i : Nat), N - i = d → i ≤ N → Ev (fun k => F k (marks mk m c N) (m + c * (i : Int)) (i : Int)) (m + c * (N : Int))
  | 0, i, hd, hi => Ev.step (he _ _ _ (by rw [marks_length]; omega)) (Ev.cast (Ev.val _) (by
      have e : i = N := by omega
      rw [e]))
  | d + 1, i, hd, hi => by
    have hle : c * ((i + 1 : Nat) : Int) ≤ c * (N : Int) := Int.mul_le_mul_of_nonneg_left (by omega) hc
    have h0 : 0 ≤ c * (i : Int) := Int.mul_nonneg hc (by omega)
    have hmul : c * ((i + 1 : Nat) : Int) = c * (i : Int) + c := by rw [Int.natCast_add, Int.mul_add]; simp
    refine hs _ _ _ (by omega) (by rw [marks_length]; omega) (marks_length _ _ _ _) (by omega) (by omega) (marks_getD mk m c N i z (by omega)) _ ?_
    have := held_loopE z hc hm0 N hN hs he d (i + 1) (by omega) (by omega)
    rw [hmul] at this
    simpa [Int.add_assoc] using this
noncomputable def txt (m : Int) : ByteArray := if h : m ≤ 1000000000 then Classical.choose (markText_ev m h) else ByteArray.empty
theorem txt_ev (m : Int) (h : m ≤ 1000000000) : Ev (fun k => laws_markText.f k m) (txt m) := by
  unfold txt
  rw [dif_pos h]
  exact Classical.choose_spec (markText_ev m h)
def heard (x : List S41) (z : S55) : Bool := decide (0 < (partOf z x).length)
def whoOf (zs : List S55) (x : List S41) : List ByteArray := (zs.filter (heard x)).map (·.f0)
theorem whoOf_length (zs : List S55) (x : List S41) : (whoOf zs x).length ≤ zs.length := by
  unfold whoOf
  rw [List.length_map]
  exact List.length_filter_le _ _
theorem filterZ_step (P : S55 → Bool) (x : List S55) (i : Nat) (hi : i < x.length) : ((x.take (i + 1)).filter P).map (·.f0) = if P (rd_T55 x (i : Int)) = true then ((x.take i).filter P).map (·.f0) ++ [(rd_T55 x (i : Int)).f0] else ((x.take i).filter P).map (·.f0) := by
  have e : rd_T55 x (i : Int) = x[i] := by
    show x.getD ((i : Int)).toNat _ = x[i]
    rw [Int.toNat_natCast, List.getD_eq_getElem?_getD, List.getElem?_eq_getElem hi]; rfl
  rw [List.take_add_one, List.getElem?_eq_getElem hi, List.filter_append, e]
  by_cases hp : P x[i] = true
  · rw [if_pos hp]; simp [hp]
  · rw [if_neg hp]; simp [hp]
theorem filterZ_len (P : S55 → Bool) (x : List S55) (i : Nat) : (((x.take i).filter P).map (·.f0)).length ≤ x.length := by
  have := List.length_filter_le P (x.take i)
  rw [List.length_take] at this
  rw [List.length_map]
  omega
theorem spec_who (zs : List S55) (x : List S41) (hz : ∀ i : Nat, i < zs.length → (rd_T55 zs (i : Int)).f0.size ≤ 9223372036854775807) (hl : zs.length ≤ 1048576) (hx : x.length ≤ 1048576) : Ev (fun k => spec_HandWho.f k zs x) (whoOf zs x) := by
  have loop : ∀ d i : Nat, i + d = zs.length → Ev (fun k => spec_HandWho.l0 k zs x (((zs.take i).filter (heard x)).map (·.f0)) (i : Int)) (whoOf zs x) := by
    intro d
    induction d with
    | zero =>
      intro i hi
      refine Ev.succ ?_
      simp only [spec_HandWho.l0]
      refine Ev.ite_neg (by omega) (Ev.cast (Ev.val _) ?_)
      rw [List.take_of_length_le (by omega)]; rfl
    | succ d ih =>
      intro i hi
      refine Ev.succ ?_
      simp only [spec_HandWho.l0]
      refine Ev.ite_pos (by omega) (Ev.ite_pos (by omega) (Ev.bind (spec_part (rd_T55 zs (i : Int)) x (hz i (by omega)) hx) ?_))
      rw [w64 (show -9223372036854775808 ≤ (i : Int) + 1 by omega) (by omega)]
      have next := ih (i + 1) (by omega)
      rw [filterZ_step (heard x) zs i (by omega), show (((i + 1 : Nat)) : Int) = (i : Int) + 1 by omega] at next
      have hlen := filterZ_len (heard x) zs i
      by_cases hp : 0 < (partOf (rd_T55 zs (i : Int)) x).length
      · rw [if_pos (show heard x (rd_T55 zs (i : Int)) = true from decide_eq_true hp)] at next
        exact Ev.ite_pos (by omega) (Ev.ite_pos (by omega) next)
      · rw [if_neg (show ¬ heard x (rd_T55 zs (i : Int)) = true from fun hh => hp (of_decide_eq_true hh))] at next
        exact Ev.ite_neg (by omega) next
  exact loop zs.length 0 (by omega)
theorem impl_who (zs : List S55) (x : List S41) (hz : ∀ i : Nat, i < zs.length → (rd_T55 zs (i : Int)).f0.size ≤ 9223372036854775807) (hl : zs.length ≤ 1048576) (hx : x.length ≤ 1048576) : Ev (fun k => impl_HandWho.f k zs x) (whoOf zs x) := by
  have loop : ∀ d i : Nat, i + d = zs.length → Ev (fun k => impl_HandWho.l0 k x (((zs.take i).filter (heard x)).map (·.f0)) zs (zs.length : Int) (i : Int)) (whoOf zs x) := by
    intro d
    induction d with
    | zero =>
      intro i hi
      refine Ev.succ ?_
      simp only [impl_HandWho.l0]
      refine Ev.ite_neg (by omega) (Ev.cast (Ev.val _) ?_)
      rw [List.take_of_length_le (by omega)]; rfl
    | succ d ih =>
      intro i hi
      refine Ev.succ ?_
      simp only [impl_HandWho.l0]
      refine Ev.ite_pos (by omega) (Ev.ite_pos (by omega) (Ev.ite_pos (by omega) (Ev.bind (impl_part (rd_T55 zs (i : Int)) x (hz i (by omega)) hx) ?_)))
      rw [w64 (show -9223372036854775808 ≤ (i : Int) + 1 by omega) (by omega)]
      have next := ih (i + 1) (by omega)
      rw [filterZ_step (heard x) zs i (by omega), show (((i + 1 : Nat)) : Int) = (i : Int) + 1 by omega] at next
      have hlen := filterZ_len (heard x) zs i
      by_cases hp : 0 < (partOf (rd_T55 zs (i : Int)) x).length
      · rw [if_pos (show heard x (rd_T55 zs (i : Int)) = true from decide_eq_true hp)] at next
        exact Ev.ite_pos (by omega) (Ev.ite_pos (by omega) next)
      · rw [if_neg (show ¬ heard x (rd_T55 zs (i : Int)) = true from fun hh => hp (of_decide_eq_true hh))] at next
        exact Ev.ite_neg (by omega) next
  exact loop zs.length 0 (by omega)
/-! #### the law's marks -/
theorem markStringS_ev (x0 : List ByteArray) (hm : x0.length ≤ 1048576) : Ev (fun k => laws_markStringS.f k x0 1) (1 + 1 * (x0.length : Int), marks txt 1 1 x0.length) := by
  unfold laws_markStringS.f
  refine Ev.cast (mark_loopE (F := laws_markStringS.l0) (mk := txt) (m := 1) (c := 1) (by omega) (by omega) x0.length (by omega) (fun x0 q i h0 h1 hl h2 h3 r hr => ?_) (fun x0 q i h k => ?_) x0.length 0 x0 rfl (by omega) (by omega) (by intro j hj; omega)) rfl
  · refine Ev.succ ?_
    simp only [laws_markStringS.l0]
    rw [w64 (show -9223372036854775808 ≤ q + 1 by omega) (by omega), w64 (show -9223372036854775808 ≤ i + 1 by omega) (by omega)]
    exact Ev.ite_pos h1 (Ev.bind (txt_ev q (by omega)) (Ev.ite_pos h0 hr))
  · simp only [laws_markStringS.l0]
    rw [if_neg h]
theorem heldStringS_ev (n : Nat) (hm : n ≤ 1048576) : Ev (fun k => laws_heldStringS.f k (marks txt 1 1 n) 1) (1 + 1 * (n : Int)) := by
  unfold laws_heldStringS.f
  refine held_loopE (F := laws_heldStringS.l0) (mk := txt) (m := 1) (c := 1) ByteArray.empty (by omega) (by omega) n (by omega) (fun x0 q i h0 h1 hl h2 h3 he r hr => ?_) (fun x0 q i h k => ?_) n 0 (by omega) (by omega)
  · refine Ev.succ ?_
    simp only [laws_heldStringS.l0]
    rw [w64 (show -9223372036854775808 ≤ q + 1 by omega) (by omega), w64 (show -9223372036854775808 ≤ i + 1 by omega) (by omega)]
    have he' : rdOf ByteArray.empty x0 i = txt q := he
    refine Ev.ite_pos h1 (Ev.ite_pos h0 (Ev.bind (txt_ev q (by omega)) ?_))
    rw [he']
    exact Ev.ite_pos rfl hr
  · simp only [laws_heldStringS.l0]
    rw [if_neg h]
theorem rd_setZ (x0 : List S55) (i : Int) (v : S55) (h0 : 0 ≤ i) (h : i < (x0.length : Int)) : rd_T55 (x0.set i.toNat v) i = v := by
  show (x0.set i.toNat v).getD i.toNat _ = v
  rw [List.getD_eq_getElem?_getD, List.getElem?_set_self (by omega)]; rfl
noncomputable def mk_zone (q : Int) : S55 := ⟨txt q, q + 1, q + 1 + 1, q + 1 + 1 + 1, q + 1 + 1 + 1 + 1⟩
theorem markHandZoneS_ev (x0 : List S55) (hm : x0.length ≤ 1048576) : Ev (fun k => laws_markHandZoneS.f k x0 1) (1 + 5 * (x0.length : Int), marks mk_zone 1 5 x0.length) := by
  unfold laws_markHandZoneS.f
  refine Ev.cast (mark_loopE (F := laws_markHandZoneS.l0) (mk := mk_zone) (m := 1) (c := 5) (by omega) (by omega) x0.length (by omega) (fun x0 q i h0 h1 hl h2 h3 r hr => ?_) (fun x0 q i h k => ?_) x0.length 0 x0 rfl (by omega) (by omega) (by intro j hj; omega)) rfl
  · refine Ev.succ ?_
    have e1 := w64 (n := q + 1) (by omega) (by omega)
    have e2 := w64 (n := q + 1 + 1) (by omega) (by omega)
    have e3 := w64 (n := q + 1 + 1 + 1) (by omega) (by omega)
    have e4 := w64 (n := q + 1 + 1 + 1 + 1) (by omega) (by omega)
    have e5 := w64 (n := q + 1 + 1 + 1 + 1 + 1) (by omega) (by omega)
    have e99 := w64 (n := i + 1) (by omega) (by omega)
    simp only [laws_markHandZoneS.l0, Option.bind_some, e1, e2, e3, e4, e5, e99]
    refine Ev.ite_pos h1 (Ev.bind (txt_ev q (by omega)) (Ev.ite_pos h0 ?_))
    simp only [rd_setZ, h0, h1, List.set_set, List.length_set]
    rw [show q + 5 = q + 1 + 1 + 1 + 1 + 1 by omega] at hr
    exact hr
  · simp only [laws_markHandZoneS.l0]
    rw [if_neg h]
theorem markHandBoxS_from (m : Int) (h0 : 0 ≤ m) (h1 : m ≤ 100000000) (x0 : List S41) (hm : x0.length ≤ 1048576) : Ev (fun k => laws_markHandBoxS.f k x0 m) (m + 6 * (x0.length : Int), marks mk_markHandBoxS m 6 x0.length) := by
  unfold laws_markHandBoxS.f
  refine Ev.cast (mark_loop (F := laws_markHandBoxS.l0) (mk := mk_markHandBoxS) (m := m) (c := 6) (by omega) (by omega) x0.length (by omega) (by omega) (fun x0 q i h0 h1 h2 h3 h4 k => ?_) (fun x0 q i h k => ?_) x0.length 0 x0 rfl (by omega) (by omega) (by intro j hj; omega)) rfl |> fun h => by simpa using h
  · have e1 := w64 (n := q + 1) (by omega) (by omega)
    have e2 := w64 (n := q + 1 + 1) (by omega) (by omega)
    have e3 := w64 (n := q + 1 + 1 + 1) (by omega) (by omega)
    have e4 := w64 (n := q + 1 + 1 + 1 + 1) (by omega) (by omega)
    have e5 := w64 (n := q + 1 + 1 + 1 + 1 + 1) (by omega) (by omega)
    have e6 := w64 (n := q + 1 + 1 + 1 + 1 + 1 + 1) (by omega) (by omega)
    have e99 := w64 (n := i + 1) (by omega) (by omega)
    simp only [laws_markHandBoxS.l0, if_pos h0, if_pos h1, Option.bind_some, e1, e2, e3, e4, e5, e6, e99, rd_set_markHandBoxS, h0, h1, List.set_set, List.length_set]
    rw [show q + 6 = q + 1 + 1 + 1 + 1 + 1 + 1 by omega]
    rfl
  · simp only [laws_markHandBoxS.l0]
    rw [if_neg h]
theorem FnExactHandWho : Said := by
  intro zs x ⟨hm, hz⟩ ⟨hmx, _⟩
  refine Ev.rounds (r := true) ?_
  unfold laws_FnExactHandWho.f
  obtain ⟨r, hr, hle, hge, hin⟩ := szHandZoneS_ev zs hm (fun y hy => (hz y hy).1) 1048576 (by omega) (by omega)
  refine Ev.bind hr ?_
  by_cases h : r < 0
  · exact Ev.ite_pos h (Ev.val _)
  · have hl : zs.length ≤ 1048576 := by have := hin (by omega); omega
    have hl' : (zs.map conv_toHandZoneS).length ≤ 1048576 := by rw [List.length_map]; exact hl
    have hs : ∀ i : Nat, i < (zs.map conv_toHandZoneS).length → (rd_T55 (zs.map conv_toHandZoneS) (i : Int)).f0.size ≤ 9223372036854775807 := by
      intro i hi
      rw [List.length_map] at hi
      have e : rd_T55 (zs.map conv_toHandZoneS) (i : Int) = conv_toHandZoneS zs[i] := by
        show (zs.map conv_toHandZoneS).getD ((i : Int)).toNat _ = _
        rw [Int.toNat_natCast, List.getD_eq_getElem?_getD, List.getElem?_map, List.getElem?_eq_getElem hi]; rfl
      rw [e]
      exact (hz _ (List.getElem_mem hi)).1
    refine Ev.ite_neg h ?_
    rw [szHandBoxS_eq x hmx r (by omega) (by omega)]
    simp only [Option.bind_some]
    by_cases hb : (x.length : Int) ≤ r
    · have hxl : x.length ≤ 1048576 := by omega
      have hxl' : (x.map conv_toHandBoxS).length ≤ 1048576 := by rw [List.length_map]; exact hxl
      have hn := whoOf_length (zs.map conv_toHandZoneS) (x.map conv_toHandBoxS)
      have hn' : (whoOf (zs.map conv_toHandZoneS) (x.map conv_toHandBoxS)).length ≤ 1048576 := by omega
      have sp := spec_who _ _ hs hl' hxl'
      have im := impl_who _ _ hs hl' hxl'
      rw [if_pos hb]
      refine Ev.ite_neg (by omega) (Ev.bind (toHandZoneS_ev zs hl) (Ev.bind (toHandBoxS_ev x hxl) (Ev.bind sp (Ev.bind (toHandZoneS_ev zs hl) (Ev.bind (toHandBoxS_ev x hxl) (Ev.bind im (Ev.bind (eqStringS_ev _ hn') (Ev.ite_pos rfl ?_))))))))
      refine Ev.bind (toHandZoneS_ev zs hl) (Ev.bind (eqHandZoneS_ev _ hl') (Ev.ite_pos rfl (Ev.bind (toHandBoxS_ev x hxl) (Ev.bind (eqHandBoxS_ev _ hxl') (Ev.ite_pos rfl ?_)))))
      refine Ev.bind (markHandZoneS_ev _ hl') (Ev.bind (markHandBoxS_from _ (by omega) (by omega) _ hxl') (Ev.ite_neg (by omega) (Ev.bind (eqStringS_ev _ hn') (Ev.succ ?_))))
      simp only [laws_FnExactHandWho.j0]
      refine Ev.ite_neg (by simp) (Ev.bind (markStringS_ev _ hn') (Ev.bind (heldStringS_ev _ hn') (Ev.ite_neg (by omega) (Ev.ite_pos rfl (Ev.bind (toHandZoneS_ev zs hl) (Ev.bind (toHandBoxS_ev x hxl) (Ev.bind im (Ev.bind (eqStringS_ev _ hn') (Ev.ite_pos rfl ?_)))))))))
      exact Ev.bind (heldStringS_ev _ hn') (Ev.ite_neg (by omega) (Ev.ite_pos rfl (Ev.val _)))
    · rw [if_neg hb]
      exact Ev.ite_pos (by omega) (Ev.val _)
end Go.Proofs.Ytbmplfpnhjhoiaa.Pure
