/-
  The law FnExactHandTubeOk over numbers and lists: both tell whether each box of a tube is ok and under some zone.
-/
import Derived.Test.YtbmplfpnhjhoiaaSayFnExactHandTubeOk
import Derived.Test.YtbmplfpnhjhoiaaStdFnExactHandTubeOk
namespace Go.Proofs.Ytbmplfpnhjhoiaa.Pure
open Go.RowKit Go.Proofs.Ytbmplfpnhjhoiaa.QFnExactHandTubeOk Go.Proofs.YtbmplfpnhjhoiaaW.PrintWords Go.Proofs.Ytbmplfpnhjhoiaa.Kit Go.Proofs.Ytbmplfpnhjhoiaa.StdFnExactHandTubeOk Go.Proofs.Ytbmplfpnhjhoiaa.SayFnExactHandTubeOk
set_option linter.unusedSimpArgs false
set_option linter.unusedVariables false
/-! #### boxes that are ok, boxes that come too near -/
def boxOk (b : S41) : Bool := decide ((0 ≤ b.f0 ∧ b.f0 ≤ 15) ∧ (0 ≤ b.f1 ∧ b.f1 ≤ 15) ∧ (0 ≤ b.f2 ∧ b.f2 ≤ b.f3 ∧ b.f3 ≤ 6) ∧ 0 ≤ b.f4 ∧ b.f4 ≤ b.f5 ∧ b.f5 ≤ 10000)
theorem boxOk_iff (b : S41) : boxOk b = true ↔ ((0 ≤ b.f0 ∧ b.f0 ≤ 15) ∧ (0 ≤ b.f1 ∧ b.f1 ≤ 15) ∧ (0 ≤ b.f2 ∧ b.f2 ≤ b.f3 ∧ b.f3 ≤ 6) ∧ 0 ≤ b.f4 ∧ b.f4 ≤ b.f5 ∧ b.f5 ≤ 10000) := decide_eq_true_iff
theorem spec_hin (a b c : Int) : spec_l31In.f a b c = some (decide (b ≤ a ∧ a ≤ c)) := by
  unfold spec_l31In.f
  by_cases h : a ≥ b <;> simp [h]
theorem impl_hin (a b c : Int) : impl_within.f a b c = some (decide (b ≤ a ∧ a ≤ c)) := by
  unfold impl_within.f
  by_cases h : a ≥ b <;> simp [h]
theorem spec_box (b : S41) : spec_l31BoxOk.f b.f0 b.f1 b.f2 b.f3 b.f4 b.f5 = some (boxOk b) := by
  unfold spec_l31BoxOk.f boxOk
  simp only [spec_hin, Option.bind_some, decide_eq_true_eq]
  repeat' split
  all_goals first | (congr 1; apply decide_eq_decide.2; omega) | (congr 1; symm; apply decide_eq_false; omega)
theorem impl_box (b : S41) : impl_handBox.f b.f0 b.f1 b.f2 b.f3 b.f4 b.f5 = some (boxOk b) := by
  unfold impl_handBox.f boxOk
  simp only [impl_hin, Option.bind_some, decide_eq_true_eq]
  repeat' split
  all_goals first | (congr 1; apply decide_eq_decide.2; omega) | (congr 1; symm; apply decide_eq_false; omega)
/-! #### zones that are ok -/
def chOk (c : Int) : Bool := decide ((97 ≤ c ∧ c ≤ 122) ∨ (48 ≤ c ∧ c ≤ 57) ∨ c = 45)
def nameOk (s : ByteArray) : Bool := decide (1 ≤ s.size ∧ s.size ≤ 8) && allN (fun i => chOk (bt s (i : Int))) s.size 0
theorem spec_zin (a b c : Int) : spec_l31In.f a b c = some (decide (b ≤ a ∧ a ≤ c)) := by
  unfold spec_l31In.f
  by_cases h : a ≥ b <;> simp [h]
theorem impl_zin (a b c : Int) : impl_within.f a b c = some (decide (b ≤ a ∧ a ≤ c)) := by
  unfold impl_within.f
  by_cases h : a ≥ b <;> simp [h]
theorem spec_name (s : ByteArray) (hs : s.size ≤ 9223372036854775807) : Ev (fun k => spec_l31NameOk.f k s) (nameOk s) := by
  unfold spec_l31NameOk.f nameOk
  rw [spec_zin]
  simp only [Option.bind_some]
  by_cases h : 1 ≤ s.size ∧ s.size ≤ 8
  · rw [decide_eq_true h, Bool.true_and]
    refine Ev.ite_pos (by simp; omega) ?_
    have round : ∀ i : Nat, i < s.size → ∀ k, spec_l31NameOk.l0 (k + 1) s (i : Int) = if chOk (bt s (i : Int)) = true then spec_l31NameOk.l0 k s ((i : Int) + 1) else some false := by
      intro i hi k
      simp only [spec_l31NameOk.l0]
      rw [if_pos (show (i : Int) < (s.size : Int) by omega), if_pos (show (0 : Int) ≤ i by omega), w64 (show -9223372036854775808 ≤ (i : Int) + 1 by omega) (by omega)]
      unfold chOk
      simp only [decide_eq_true_eq]
      repeat' split
      all_goals first | rfl | (exfalso; omega)
    refine find_loop (F := fun k i => spec_l31NameOk.l0 k s i) s.size (fun j => !chOk (bt s (j : Int))) (fun _ => false) true ?_ ?_ ?_ s.size 0 (by omega)
    · intro i hi hp
      exact Ev.step (round i hi) (Ev.ite_neg (by simpa using hp) (Ev.val _))
    · intro i hi hp r' hr
      exact Ev.step (round i hi) (Ev.ite_pos (by simpa using hp) hr)
    · refine Ev.step (fun k => ?_) (Ev.val _)
      simp only [spec_l31NameOk.l0]
      rw [if_neg (by omega)]
  · rw [decide_eq_false h, Bool.false_and]
    exact Ev.ite_neg (by simp; omega) (Ev.val _)
theorem impl_name (s : ByteArray) (hs : s.size ≤ 9223372036854775807) : Ev (fun k => impl_isName.f k s) (nameOk s) := by
  unfold impl_isName.f nameOk
  by_cases h : 1 ≤ s.size ∧ s.size ≤ 8
  · rw [decide_eq_true h, Bool.true_and]
    refine Ev.ite_neg (by omega) (Ev.succ ?_)
    simp only [impl_isName.j0]
    refine Ev.ite_neg (by simp; omega) ?_
    have round : ∀ i : Nat, i < s.size → ∀ k, impl_isName.l0 (k + 1) s (i : Int) = if chOk (bt s (i : Int)) = true then impl_isName.l0 k s ((i : Int) + 1) else some false := by
      intro i hi k
      simp only [impl_isName.l0]
      rw [if_pos (show (i : Int) < (s.size : Int) by omega), if_pos (show (0 : Int) ≤ i by omega), w64 (show -9223372036854775808 ≤ (i : Int) + 1 by omega) (by omega)]
      unfold chOk
      simp only [decide_eq_true_eq]
      repeat' split
      all_goals first | rfl | (exfalso; omega)
    refine find_loop (F := fun k i => impl_isName.l0 k s i) s.size (fun j => !chOk (bt s (j : Int))) (fun _ => false) true ?_ ?_ ?_ s.size 0 (by omega)
    · intro i hi hp
      exact Ev.step (round i hi) (Ev.ite_neg (by simpa using hp) (Ev.val _))
    · intro i hi hp r' hr
      exact Ev.step (round i hi) (Ev.ite_pos (by simpa using hp) hr)
    · refine Ev.step (fun k => ?_) (Ev.val _)
      simp only [impl_isName.l0]
      rw [if_neg (by omega)]
  · rw [decide_eq_false h, Bool.false_and]
    have bad : Ev (fun k => impl_isName.j0 k s true) false := Ev.step (fun k => (by simp only [impl_isName.j0]; exact if_pos trivial)) (Ev.val _)
    by_cases h1 : (s.size : Int) < 1
    · exact Ev.ite_pos h1 bad
    · refine Ev.ite_neg h1 ?_
      rw [decide_eq_true (show (s.size : Int) > 8 by omega)]
      exact bad
def less (a b : S55) : Bool := Op.bytesLess (a.f0).toList (b.f0).toList
def touch (z y : S55) : Bool := decide (y.f1 ≤ z.f3 ∧ z.f1 ≤ y.f3 ∧ y.f2 ≤ z.f4 ∧ z.f2 ≤ y.f4)
def rangeOk (z : S55) : Bool := decide ((0 ≤ z.f1 ∧ z.f1 ≤ z.f3 ∧ z.f3 < 16) ∧ (0 ≤ z.f2 ∧ z.f2 ≤ z.f4 ∧ z.f4 < 16))
def zoneOk (x : List S55) (i : Nat) : Bool := nameOk (rd_T55 x (i : Int)).f0 && ((decide (i = 0) || less (rd_T55 x ((i : Int) - 1)) (rd_T55 x (i : Int))) && rangeOk (rd_T55 x (i : Int)))
def zoneAt (x : List S55) (i : Nat) : Bool := zoneOk x i && !anyN (fun j => touch (rd_T55 x (i : Int)) (rd_T55 x (j : Int))) i 0
def zonesOk (x : List S55) : Bool := decide (1 ≤ x.length ∧ x.length ≤ 4) && allN (zoneAt x) x.length 0
theorem zone_bad {x : List S55} {i : Nat} (d : Nat) (h : zoneOk x i = false) : allN (zoneAt x) (d + 1) i = false := by
  simp only [allN, findN]
  rw [if_pos (by unfold zoneAt; rw [h]; rfl)]
theorem zone_good {x : List S55} {i : Nat} (d : Nat) (h : zoneOk x i = true) : allN (zoneAt x) (d + 1) i = findN (fun j => touch (rd_T55 x (i : Int)) (rd_T55 x (j : Int))) (fun _ => false) (allN (zoneAt x) d (i + 1)) i 0 := by
  have e : ∀ b : Bool, ∀ dd ii, findN (fun j => touch (rd_T55 x (i : Int)) (rd_T55 x (j : Int))) (fun _ => false) b dd ii = (!anyN (fun j => touch (rd_T55 x (i : Int)) (rd_T55 x (j : Int))) dd ii && b) := by
    intro b dd
    induction dd with
    | zero => intro ii; simp [findN]
    | succ dd ih =>
      intro ii
      simp only [findN, anyN]
      by_cases ht : touch (rd_T55 x (i : Int)) (rd_T55 x (ii : Int)) = true
      · rw [if_pos ht, if_pos ht]; rfl
      · rw [if_neg ht, if_neg ht]; exact ih (ii + 1)
  rw [e]
  simp only [allN, findN]
  unfold zoneAt
  rw [h, Bool.true_and]
  cases anyN (fun j => touch (rd_T55 x (i : Int)) (rd_T55 x (j : Int))) i 0
  · rfl
  · rfl
theorem spec_zones (x : List S55) (hx : ∀ i : Nat, i < x.length → (rd_T55 x (i : Int)).f0.size ≤ 9223372036854775807) : Ev (fun k => spec_HandZonesOk.f k x) (zonesOk x) := by
  unfold spec_HandZonesOk.f zonesOk
  rw [spec_zin]
  simp only [Option.bind_some]
  by_cases h : 1 ≤ x.length ∧ x.length ≤ 4
  · rw [decide_eq_true h, Bool.true_and]
    refine Ev.ite_pos (by simp; omega) ?_
    have loop : ∀ d i : Nat, i + d = x.length → Ev (fun k => spec_HandZonesOk.l0 k x (i : Int)) (allN (zoneAt x) d i) := by
      intro d
      induction d with
      | zero =>
        intro i hi
        refine Ev.succ ?_
        simp only [spec_HandZonesOk.l0]
        exact Ev.ite_neg (by omega) (Ev.val _)
      | succ d ih =>
        intro i hi
        have bad : zoneOk x i = false → Ev (fun k => spec_HandZonesOk.j1 k x (i : Int) true (rd_T55 x (i : Int)).f0 (rd_T55 x (i : Int)).f1 (rd_T55 x (i : Int)).f2 (rd_T55 x (i : Int)).f3 (rd_T55 x (i : Int)).f4) (allN (zoneAt x) (d + 1) i) := by
          intro hb
          rw [zone_bad d hb]
          exact Ev.step (fun k => (by simp only [spec_HandZonesOk.j1]; exact if_pos trivial)) (Ev.val _)
        have good : zoneOk x i = true → Ev (fun k => spec_HandZonesOk.l1 k x (i : Int) 0 (rd_T55 x (i : Int)).f0 (rd_T55 x (i : Int)).f1 (rd_T55 x (i : Int)).f2 (rd_T55 x (i : Int)).f3 (rd_T55 x (i : Int)).f4) (allN (zoneAt x) (d + 1) i) := by
          intro hg
          rw [zone_good d hg]
          have round : ∀ j : Nat, j < i → ∀ k, spec_HandZonesOk.l1 (k + 1) x (i : Int) (j : Int) (rd_T55 x (i : Int)).f0 (rd_T55 x (i : Int)).f1 (rd_T55 x (i : Int)).f2 (rd_T55 x (i : Int)).f3 (rd_T55 x (i : Int)).f4 = if touch (rd_T55 x (i : Int)) (rd_T55 x (j : Int)) = true then some false else spec_HandZonesOk.l1 k x (i : Int) ((j : Int) + 1) (rd_T55 x (i : Int)).f0 (rd_T55 x (i : Int)).f1 (rd_T55 x (i : Int)).f2 (rd_T55 x (i : Int)).f3 (rd_T55 x (i : Int)).f4 := by
            intro j hj k
            simp only [spec_HandZonesOk.l1]
            rw [if_pos (show (j : Int) < (i : Int) by omega), if_pos (show (0 : Int) ≤ j by omega), if_pos (show (j : Int) < (x.length : Int) by omega), w64 (show -9223372036854775808 ≤ (j : Int) + 1 by omega) (by omega)]
            unfold touch
            simp only [decide_eq_true_eq]
            repeat' split
            all_goals first | rfl | (exfalso; omega)
          refine find_loop (F := fun k j => spec_HandZonesOk.l1 k x (i : Int) j (rd_T55 x (i : Int)).f0 (rd_T55 x (i : Int)).f1 (rd_T55 x (i : Int)).f2 (rd_T55 x (i : Int)).f3 (rd_T55 x (i : Int)).f4) i (fun j => touch (rd_T55 x (i : Int)) (rd_T55 x (j : Int))) (fun _ => false) _ ?_ ?_ ?_ i 0 (by omega)
          · intro j hj hp
            exact Ev.step (round j hj) (Ev.ite_pos hp (Ev.val _))
          · intro j hj hp r' hr
            exact Ev.step (round j hj) (Ev.ite_neg (Bool.eq_false_iff.1 hp) hr)
          · have next := ih (i + 1) (by omega)
            refine Ev.succ ?_
            simp only [spec_HandZonesOk.l1]
            refine Ev.ite_neg (by omega) ?_
            rw [w64 (show -9223372036854775808 ≤ (i : Int) + 1 by omega) (by omega), show (i : Int) + 1 = (((i + 1 : Nat)) : Int) by omega]
            exact next
        refine Ev.succ ?_
        simp only [spec_HandZonesOk.l0, spec_zin, Option.bind_some]
        refine Ev.ite_pos (by omega) (Ev.ite_pos (by omega) (Ev.bind (spec_name _ (hx i (by omega))) ?_))
        by_cases hn : nameOk (rd_T55 x (i : Int)).f0 = true
        · refine Ev.ite_pos hn ?_
          have rest : (decide (i = 0) || less (rd_T55 x ((i : Int) - 1)) (rd_T55 x (i : Int))) = true → Ev (fun k => if (decide (0 ≤ (rd_T55 x (i : Int)).f1 ∧ (rd_T55 x (i : Int)).f1 ≤ (rd_T55 x (i : Int)).f3)) = true then (if (rd_T55 x (i : Int)).f3 ≥ 16 then (spec_HandZonesOk.j1 k x (i : Int) true (rd_T55 x (i : Int)).f0 (rd_T55 x (i : Int)).f1 (rd_T55 x (i : Int)).f2 (rd_T55 x (i : Int)).f3 (rd_T55 x (i : Int)).f4) else (if (decide (0 ≤ (rd_T55 x (i : Int)).f2 ∧ (rd_T55 x (i : Int)).f2 ≤ (rd_T55 x (i : Int)).f4)) = true then (spec_HandZonesOk.j1 k x (i : Int) (decide ((rd_T55 x (i : Int)).f4 ≥ 16)) (rd_T55 x (i : Int)).f0 (rd_T55 x (i : Int)).f1 (rd_T55 x (i : Int)).f2 (rd_T55 x (i : Int)).f3 (rd_T55 x (i : Int)).f4) else (spec_HandZonesOk.j1 k x (i : Int) true (rd_T55 x (i : Int)).f0 (rd_T55 x (i : Int)).f1 (rd_T55 x (i : Int)).f2 (rd_T55 x (i : Int)).f3 (rd_T55 x (i : Int)).f4))) else (spec_HandZonesOk.j1 k x (i : Int) true (rd_T55 x (i : Int)).f0 (rd_T55 x (i : Int)).f1 (rd_T55 x (i : Int)).f2 (rd_T55 x (i : Int)).f3 (rd_T55 x (i : Int)).f4)) (allN (zoneAt x) (d + 1) i) := by
            intro ho
            have zo : zoneOk x i = rangeOk (rd_T55 x (i : Int)) := by unfold zoneOk; rw [hn, ho]; rfl
            by_cases hr : rangeOk (rd_T55 x (i : Int)) = true
            · have hr' := of_decide_eq_true hr
              refine Ev.ite_pos (decide_eq_true (by omega)) (Ev.ite_neg (by omega) (Ev.ite_pos (decide_eq_true (by omega)) (Ev.succ ?_)))
              simp only [spec_HandZonesOk.j1]
              exact Ev.ite_neg (by simp; omega) (good (by rw [zo, hr]))
            · have hb : zoneOk x i = false := by rw [zo]; exact Bool.eq_false_iff.2 hr
              have hr' : ¬ ((0 ≤ (rd_T55 x (i : Int)).f1 ∧ (rd_T55 x (i : Int)).f1 ≤ (rd_T55 x (i : Int)).f3 ∧ (rd_T55 x (i : Int)).f3 < 16) ∧ (0 ≤ (rd_T55 x (i : Int)).f2 ∧ (rd_T55 x (i : Int)).f2 ≤ (rd_T55 x (i : Int)).f4 ∧ (rd_T55 x (i : Int)).f4 < 16)) := fun hh => hr (decide_eq_true hh)
              by_cases h1 : 0 ≤ (rd_T55 x (i : Int)).f1 ∧ (rd_T55 x (i : Int)).f1 ≤ (rd_T55 x (i : Int)).f3
              · refine Ev.ite_pos (decide_eq_true h1) ?_
                by_cases h2 : (rd_T55 x (i : Int)).f3 ≥ 16
                · exact Ev.ite_pos h2 (bad hb)
                · refine Ev.ite_neg h2 ?_
                  by_cases h3 : 0 ≤ (rd_T55 x (i : Int)).f2 ∧ (rd_T55 x (i : Int)).f2 ≤ (rd_T55 x (i : Int)).f4
                  · refine Ev.ite_pos (decide_eq_true h3) ?_
                    rw [decide_eq_true (show (rd_T55 x (i : Int)).f4 ≥ 16 by omega)]
                    exact bad hb
                  · exact Ev.ite_neg (by simpa using h3) (bad hb)
              · exact Ev.ite_neg (by simpa using h1) (bad hb)
          by_cases h0 : i = 0
          · exact Ev.ite_neg (by omega) (rest (by rw [decide_eq_true h0]; rfl))
          · refine Ev.ite_pos (by omega) ?_
            rw [w64 (show -9223372036854775808 ≤ (i : Int) - 1 by omega) (by omega)]
            refine Ev.ite_pos (by omega) (Ev.ite_pos (by omega) ?_)
            by_cases hl : less (rd_T55 x ((i : Int) - 1)) (rd_T55 x (i : Int)) = true
            · exact Ev.ite_pos hl (rest (by rw [hl, Bool.or_true]))
            · exact Ev.ite_neg hl (bad (by unfold zoneOk; rw [decide_eq_false h0, Bool.eq_false_iff.2 hl]; simp))
        · exact Ev.ite_neg hn (bad (by unfold zoneOk; rw [Bool.eq_false_iff.2 hn]; rfl))
    exact loop x.length 0 (by omega)
  · rw [decide_eq_false h, Bool.false_and]
    exact Ev.ite_neg (by simp; omega) (Ev.val _)
theorem rd_takeZ (x : List S55) (i j : Nat) (hj : j < i) : rd_T55 (x.take i) (j : Int) = rd_T55 x (j : Int) := by
  show (x.take i).getD ((j : Int)).toNat _ = x.getD ((j : Int)).toNat _
  rw [Int.toNat_natCast, List.getD_eq_getElem?_getD, List.getD_eq_getElem?_getD, List.getElem?_take_of_lt hj]
theorem impl_zones (x : List S55) (hx : ∀ i : Nat, i < x.length → (rd_T55 x (i : Int)).f0.size ≤ 9223372036854775807) : Ev (fun k => impl_HandZonesOk.f k x) (zonesOk x) := by
  unfold impl_HandZonesOk.f zonesOk
  rw [impl_zin]
  simp only [Option.bind_some]
  by_cases h : 1 ≤ x.length ∧ x.length ≤ 4
  · rw [decide_eq_true h, Bool.true_and]
    refine Ev.ite_pos (by simp; omega) ?_
    have loop : ∀ d i : Nat, i + d = x.length → Ev (fun k => impl_HandZonesOk.l0 k x x (x.length : Int) (i : Int)) (allN (zoneAt x) d i) := by
      intro d
      induction d with
      | zero =>
        intro i hi
        refine Ev.succ ?_
        simp only [impl_HandZonesOk.l0]
        exact Ev.ite_neg (by omega) (Ev.val _)
      | succ d ih =>
        intro i hi
        have bad : zoneOk x i = false → Ev (fun k => impl_HandZonesOk.j1 k x (i : Int) x (x.length : Int) (i : Int) true (rd_T55 x (i : Int)).f0 (rd_T55 x (i : Int)).f1 (rd_T55 x (i : Int)).f2 (rd_T55 x (i : Int)).f3 (rd_T55 x (i : Int)).f4) (allN (zoneAt x) (d + 1) i) := by
          intro hb
          rw [zone_bad d hb]
          exact Ev.step (fun k => (by simp only [impl_HandZonesOk.j1]; exact if_pos trivial)) (Ev.val _)
        have good : zoneOk x i = true → Ev (fun k => impl_HandZonesOk.l1 k x x (x.length : Int) (i : Int) (x.take i) ((x.take i).length : Int) 0 (rd_T55 x (i : Int)).f0 (rd_T55 x (i : Int)).f1 (rd_T55 x (i : Int)).f2 (rd_T55 x (i : Int)).f3 (rd_T55 x (i : Int)).f4) (allN (zoneAt x) (d + 1) i) := by
          intro hg
          rw [zone_good d hg]
          have hlen : (x.take i).length = i := by rw [List.length_take]; omega
          rw [hlen]
          have round : ∀ j : Nat, j < i → ∀ k, impl_HandZonesOk.l1 (k + 1) x x (x.length : Int) (i : Int) (x.take i) (i : Int) (j : Int) (rd_T55 x (i : Int)).f0 (rd_T55 x (i : Int)).f1 (rd_T55 x (i : Int)).f2 (rd_T55 x (i : Int)).f3 (rd_T55 x (i : Int)).f4 = if touch (rd_T55 x (i : Int)) (rd_T55 x (j : Int)) = true then some false else impl_HandZonesOk.l1 k x x (x.length : Int) (i : Int) (x.take i) (i : Int) ((j : Int) + 1) (rd_T55 x (i : Int)).f0 (rd_T55 x (i : Int)).f1 (rd_T55 x (i : Int)).f2 (rd_T55 x (i : Int)).f3 (rd_T55 x (i : Int)).f4 := by
            intro j hj k
            simp only [impl_HandZonesOk.l1, rd_takeZ x i j hj, hlen]
            rw [if_pos (show (j : Int) < (i : Int) by omega), if_pos (show (0 : Int) ≤ j by omega), if_pos (show (j : Int) < (i : Int) by omega), w64 (show -9223372036854775808 ≤ (j : Int) + 1 by omega) (by omega)]
            unfold touch
            simp only [decide_eq_true_eq]
            repeat' split
            all_goals first | rfl | (exfalso; omega)
          refine find_loop (F := fun k j => impl_HandZonesOk.l1 k x x (x.length : Int) (i : Int) (x.take i) (i : Int) j (rd_T55 x (i : Int)).f0 (rd_T55 x (i : Int)).f1 (rd_T55 x (i : Int)).f2 (rd_T55 x (i : Int)).f3 (rd_T55 x (i : Int)).f4) i (fun j => touch (rd_T55 x (i : Int)) (rd_T55 x (j : Int))) (fun _ => false) _ ?_ ?_ ?_ i 0 (by omega)
          · intro j hj hp
            exact Ev.step (round j hj) (Ev.ite_pos hp (Ev.val _))
          · intro j hj hp r' hr
            exact Ev.step (round j hj) (Ev.ite_neg (Bool.eq_false_iff.1 hp) hr)
          · have next := ih (i + 1) (by omega)
            refine Ev.succ ?_
            simp only [impl_HandZonesOk.l1]
            refine Ev.ite_neg (by omega) ?_
            rw [w64 (show -9223372036854775808 ≤ (i : Int) + 1 by omega) (by omega), show (i : Int) + 1 = (((i + 1 : Nat)) : Int) by omega]
            exact next
        refine Ev.succ ?_
        simp only [impl_HandZonesOk.l0]
        refine Ev.ite_pos (by omega) (Ev.ite_pos (by omega) (Ev.ite_pos (by omega) (Ev.bind (impl_name _ (hx i (by omega))) ?_)))
        by_cases hn : nameOk (rd_T55 x (i : Int)).f0 = true
        · refine Ev.ite_pos hn ?_
          by_cases hr : rangeOk (rd_T55 x (i : Int)) = true
          · have hr' := of_decide_eq_true hr
            refine Ev.ite_pos (by omega) (Ev.ite_pos (by omega) (Ev.ite_pos (by omega) (Ev.ite_pos (by omega) (Ev.ite_pos (by omega) (Ev.ite_pos (by omega) ?_)))))
            have go : zoneOk x i = true → Ev (fun k => impl_HandZonesOk.j1 k x (i : Int) x (x.length : Int) (i : Int) false (rd_T55 x (i : Int)).f0 (rd_T55 x (i : Int)).f1 (rd_T55 x (i : Int)).f2 (rd_T55 x (i : Int)).f3 (rd_T55 x (i : Int)).f4) (allN (zoneAt x) (d + 1) i) := by
              intro hg
              refine Ev.succ ?_
              simp only [impl_HandZonesOk.j1, Int.toNat_natCast, Option.bind_some]
              exact Ev.ite_neg (by decide) (Ev.ite_pos (by omega) (Ev.ite_pos (by omega) (good hg)))
            by_cases h0 : i = 0
            · exact Ev.ite_neg (by omega) (go (by unfold zoneOk; rw [hn, hr, decide_eq_true h0]; rfl))
            · refine Ev.ite_pos (by omega) ?_
              rw [w64 (show -9223372036854775808 ≤ (i : Int) - 1 by omega) (by omega)]
              refine Ev.ite_pos (by omega) (Ev.ite_pos (by omega) ?_)
              show Ev (fun k => impl_HandZonesOk.j1 k x (i : Int) x (x.length : Int) (i : Int) (!less (rd_T55 x ((i : Int) - 1)) (rd_T55 x (i : Int))) (rd_T55 x (i : Int)).f0 (rd_T55 x (i : Int)).f1 (rd_T55 x (i : Int)).f2 (rd_T55 x (i : Int)).f3 (rd_T55 x (i : Int)).f4) _
              by_cases hl : less (rd_T55 x ((i : Int) - 1)) (rd_T55 x (i : Int)) = true
              · rw [hl]
                exact go (by unfold zoneOk; rw [hn, hr, hl, Bool.or_true]; rfl)
              · rw [Bool.eq_false_iff.2 hl]
                exact bad (by unfold zoneOk; rw [decide_eq_false h0, Bool.eq_false_iff.2 hl]; simp)
          · have hb : zoneOk x i = false := by unfold zoneOk; rw [Bool.eq_false_iff.2 hr]; simp
            have hr' : ¬ ((0 ≤ (rd_T55 x (i : Int)).f1 ∧ (rd_T55 x (i : Int)).f1 ≤ (rd_T55 x (i : Int)).f3 ∧ (rd_T55 x (i : Int)).f3 < 16) ∧ (0 ≤ (rd_T55 x (i : Int)).f2 ∧ (rd_T55 x (i : Int)).f2 ≤ (rd_T55 x (i : Int)).f4 ∧ (rd_T55 x (i : Int)).f4 < 16)) := fun hh => hr (decide_eq_true hh)
            by_cases h1 : 0 ≤ (rd_T55 x (i : Int)).f1
            · refine Ev.ite_pos h1 ?_
              by_cases h2 : (rd_T55 x (i : Int)).f1 ≤ (rd_T55 x (i : Int)).f3
              · refine Ev.ite_pos h2 ?_
                by_cases h3 : (rd_T55 x (i : Int)).f3 < 16
                · refine Ev.ite_pos h3 ?_
                  by_cases h4 : 0 ≤ (rd_T55 x (i : Int)).f2
                  · refine Ev.ite_pos h4 ?_
                    by_cases h5 : (rd_T55 x (i : Int)).f2 ≤ (rd_T55 x (i : Int)).f4
                    · exact Ev.ite_pos h5 (Ev.ite_neg (by omega) (bad hb))
                    · exact Ev.ite_neg h5 (bad hb)
                  · exact Ev.ite_neg h4 (bad hb)
                · exact Ev.ite_neg h3 (bad hb)
              · exact Ev.ite_neg h2 (bad hb)
            · exact Ev.ite_neg h1 (bad hb)
        · refine Ev.ite_neg hn ?_
          exact bad (by unfold zoneOk; rw [Bool.eq_false_iff.2 hn]; rfl)
    exact loop x.length 0 (by omega)
  · rw [decide_eq_false h, Bool.false_and]
    exact Ev.ite_neg (by simp; omega) (Ev.val _)
/-! #### tubes under zones -/
def overB (z : S55) (b : S41) : Bool := decide ((z.f1 ≤ b.f0 ∧ b.f0 ≤ z.f3) ∧ z.f2 ≤ b.f1 ∧ b.f1 ≤ z.f4)
theorem over_spec (z : S55) (b : S41) : spec_l31Over.f z.f0 z.f1 z.f2 z.f3 z.f4 b.f0 b.f1 b.f2 b.f3 b.f4 b.f5 = some (overB z b) := by
  unfold spec_l31Over.f spec_l31In.f overB
  by_cases h0 : b.f0 ≥ z.f1 <;> by_cases h1 : b.f0 ≤ z.f3 <;> by_cases h2 : b.f1 ≥ z.f2 <;> simp [h0, h1, h2]
theorem over_impl (z : S55) (b : S41) : impl_HandZone_over.f z.f0 z.f1 z.f2 z.f3 z.f4 b.f0 b.f1 = some (overB z b) := by
  unfold impl_HandZone_over.f impl_within.f overB
  by_cases h0 : b.f0 ≥ z.f1 <;> by_cases h1 : b.f0 ≤ z.f3 <;> by_cases h2 : b.f1 ≥ z.f2 <;> simp [h0, h1, h2]
def coverB (zs : List S55) (b : S41) (d i : Nat) : Bool := anyN (fun j => overB (rd_T55 zs (j : Int)) b) d i
/-- From box i on, d boxes: each is ok, and under some zone. -/
def tubeAll (zs : List S55) (bs : List S41) : Nat → Nat → Bool
  | 0, _ => true
  | d + 1, i => if coverB zs (rd_T41 bs (i : Int)) zs.length 0 = true then (if boxOk (rd_T41 bs (i : Int)) = true then tubeAll zs bs d (i + 1) else false) else false
def tubeOf (zs : List S55) (bs : List S41) : Bool := if zonesOk zs = true ∧ 1 ≤ bs.length ∧ bs.length ≤ 20 then tubeAll zs bs bs.length 0 else false
theorem zones_len {zs : List S55} (h : zonesOk zs = true) : zs.length ≤ 4 := by
  unfold zonesOk at h
  rw [Bool.and_eq_true] at h
  exact (of_decide_eq_true h.1).2
theorem tube_spec (zs : List S55) (bs : List S41) (hx : ∀ i : Nat, i < zs.length → (rd_T55 zs (i : Int)).f0.size ≤ 9223372036854775807) : Ev (fun k => spec_HandTubeOk.f k zs bs) (tubeOf zs bs) := by
  have bad : Ev (fun k => spec_HandTubeOk.j0 k zs bs true) false := Ev.step (fun k => (by simp only [spec_HandTubeOk.j0]; exact if_pos trivial)) (Ev.val _)
  unfold spec_HandTubeOk.f tubeOf
  refine Ev.bind (spec_zones zs hx) ?_
  by_cases hz : zonesOk zs = true
  · refine Ev.ite_pos hz ?_
    have hzl := zones_len hz
    rw [spec_zin]
    simp only [Option.bind_some]
    by_cases hl : 1 ≤ bs.length ∧ bs.length ≤ 20
    · rw [if_pos ⟨hz, hl⟩, decide_eq_true (show (1 : Int) ≤ (bs.length : Int) ∧ (bs.length : Int) ≤ 20 by omega)]
      refine Ev.succ ?_
      simp only [spec_HandTubeOk.j0]
      refine Ev.ite_neg (by decide) ?_
      have go : ∀ (d i : Nat), i + d = bs.length → Ev (fun k => spec_HandTubeOk.l0 k zs bs (i : Int)) (tubeAll zs bs d i) := by
        intro d
        induction d with
        | zero =>
          intro i hi
          refine Ev.step (fun k => ?_) (Ev.val _)
          simp only [spec_HandTubeOk.l0]
          rw [if_neg (by omega)]
          rfl
        | succ d ih =>
          intro i hi
          have h := ih (i + 1) (by omega)
          rw [show (((i + 1 : Nat) : Int)) = (i : Int) + 1 by omega] at h
          have inner : ∀ (d2 j : Nat) (found : Bool), j + d2 = zs.length → Ev (fun f => spec_HandTubeOk.l1 f zs bs (i : Int) found (j : Int)) (if (found || coverB zs (rd_T41 bs (i : Int)) d2 j) = true then (if boxOk (rd_T41 bs (i : Int)) = true then tubeAll zs bs d (i + 1) else false) else false) := by
            intro d2
            induction d2 with
            | zero =>
              intro j found hj
              refine Ev.succ ?_
              simp only [spec_HandTubeOk.l1, spec_box, Option.bind_some]
              rw [w64 (show -9223372036854775808 ≤ (i : Int) + 1 by omega) (by omega)]
              refine Ev.ite_neg (by omega) ?_
              cases found with
              | true =>
                refine Ev.ite_pos rfl (Ev.ite_pos (by omega) (Ev.ite_pos (by omega) ?_))
                simp only [Bool.true_or, if_true]
                by_cases hb : boxOk (rd_T41 bs (i : Int)) = true
                · exact Ev.ite_pos hb (Ev.cast h (if_pos hb).symm)
                · exact Ev.ite_neg hb (Ev.cast (Ev.val _) (if_neg hb).symm)
              | false => exact Ev.ite_neg (by simp) (Ev.cast (Ev.val _) (by simp [coverB, anyN, findN]))
            | succ d2 ih2 =>
              intro j found hj
              refine Ev.succ ?_
              simp only [spec_HandTubeOk.l1, over_spec, Option.bind_some]
              rw [w64 (show -9223372036854775808 ≤ (j : Int) + 1 by omega) (by omega)]
              refine Ev.ite_pos (by omega) ?_
              cases found with
              | true =>
                have h2 := ih2 (j + 1) true (by omega)
                rw [show (((j + 1 : Nat) : Int)) = (j : Int) + 1 by omega] at h2
                exact Ev.ite_pos rfl (Ev.cast h2 (by simp))
              | false =>
                have h2 := ih2 (j + 1) (overB (rd_T55 zs (j : Int)) (rd_T41 bs (i : Int))) (by omega)
                rw [show (((j + 1 : Nat) : Int)) = (j : Int) + 1 by omega] at h2
                refine Ev.ite_neg (by simp) (Ev.ite_pos (by omega) (Ev.ite_pos (by omega) (Ev.ite_pos (by omega) (Ev.cast h2 ?_))))
                simp only [coverB, anyN, findN, Bool.false_or]
                cases overB (rd_T55 zs (j : Int)) (rd_T41 bs (i : Int)) <;> simp
          refine Ev.succ ?_
          simp only [spec_HandTubeOk.l0]
          refine Ev.ite_pos (by omega) ?_
          exact Ev.cast (inner zs.length 0 false (by omega)) rfl
      exact go bs.length 0 (by omega)
    · rw [if_neg (fun hh => hl hh.2), decide_eq_false (show ¬ ((1 : Int) ≤ (bs.length : Int) ∧ (bs.length : Int) ≤ 20) by omega)]
      exact bad
  · rw [if_neg (fun hh => hz hh.1)]
    exact Ev.ite_neg hz bad
theorem find_ge {P : Nat → Bool} : ∀ (d i : Nat), decide (findN P (fun j => (j : Int)) (-1) d i ≥ 0) = anyN P d i
  | 0, i => by simp [findN, anyN]
  | d + 1, i => by
    simp only [findN, anyN]
    by_cases h : P i = true
    · rw [if_pos h, if_pos h]
      exact decide_eq_true (by omega)
    · rw [if_neg h, if_neg h]
      exact find_ge d (i + 1)
theorem contains_impl (zs : List S55) (b : S41) (hz : zs.length ≤ 1048576) : Ev (fun k => impl_HandZone_140.f k zs b.f0 b.f1) (coverB zs b zs.length 0) := by
  unfold impl_HandZone_140.f
  have hf : Ev (fun k => impl_HandZone_162.f k zs b.f0 b.f1) (findN (fun j => overB (rd_T55 zs (j : Int)) b) (fun j => (j : Int)) (-1) zs.length 0) := by
    unfold impl_HandZone_162.f
    refine find_loop (F := fun k j => impl_HandZone_162.l0 k zs b.f0 b.f1 (zs.length : Int) j) zs.length (fun j => overB (rd_T55 zs (j : Int)) b) (fun j => (j : Int)) _ ?_ ?_ ?_ zs.length 0 (by omega)
    · intro j hj hp
      refine Ev.step (fun k => ?_) (Ev.val _)
      simp only [impl_HandZone_162.l0, over_impl, Option.bind_some]
      rw [if_pos (show (j : Int) < (zs.length : Int) by omega), if_pos (show (0 : Int) ≤ j by omega), if_pos (show (j : Int) < (zs.length : Int) by omega), if_pos hp]
    · intro j hj hp r' hr
      refine Ev.step (fun k => ?_) hr
      simp only [impl_HandZone_162.l0, over_impl, Option.bind_some]
      rw [if_pos (show (j : Int) < (zs.length : Int) by omega), if_pos (show (0 : Int) ≤ j by omega), if_pos (show (j : Int) < (zs.length : Int) by omega), if_neg (by rw [hp]; decide), w64 (show -9223372036854775808 ≤ (j : Int) + 1 by omega) (by omega)]
    · refine Ev.step (fun k => ?_) (Ev.val _)
      simp only [impl_HandZone_162.l0]
      rw [if_neg (by omega)]
  exact Ev.bind hf (Ev.cast (Ev.val _) (find_ge _ _))
theorem tube_impl (zs : List S55) (bs : List S41) (hx : ∀ i : Nat, i < zs.length → (rd_T55 zs (i : Int)).f0.size ≤ 9223372036854775807) : Ev (fun k => impl_HandTubeOk.f k zs bs) (tubeOf zs bs) := by
  unfold impl_HandTubeOk.f tubeOf
  refine Ev.bind (impl_zones zs hx) ?_
  by_cases hz : zonesOk zs = true
  · refine Ev.ite_pos hz ?_
    have hzl := zones_len hz
    have main : Ev (fun k => impl_tubeOk.f k zs bs) (if zonesOk zs = true ∧ 1 ≤ bs.length ∧ bs.length ≤ 20 then tubeAll zs bs bs.length 0 else false) := by
      unfold impl_tubeOk.f
      rw [impl_zin]
      simp only [Option.bind_some]
      by_cases hl : 1 ≤ bs.length ∧ bs.length ≤ 20
      · rw [if_pos ⟨hz, hl⟩]
        refine Ev.ite_pos (decide_eq_true (by omega)) ?_
        have go : ∀ (d i : Nat), i + d = bs.length → Ev (fun k => impl_tubeOk.l0 k zs bs (bs.length : Int) (i : Int)) (tubeAll zs bs d i) := by
          intro d
          induction d with
          | zero =>
            intro i hi
            refine Ev.step (fun k => ?_) (Ev.val _)
            simp only [impl_tubeOk.l0]
            rw [if_neg (by omega)]
            rfl
          | succ d ih =>
            intro i hi
            have h := ih (i + 1) (by omega)
            rw [show (((i + 1 : Nat) : Int)) = (i : Int) + 1 by omega] at h
            refine Ev.succ ?_
            simp only [impl_tubeOk.l0, impl_box, Option.bind_some, tubeAll]
            rw [w64 (show -9223372036854775808 ≤ (i : Int) + 1 by omega) (by omega)]
            refine Ev.ite_pos (by omega) (Ev.ite_pos (by omega) (Ev.ite_pos (by omega) ?_))
            by_cases hb : boxOk (rd_T41 bs (i : Int)) = true
            · refine Ev.ite_pos hb (Ev.bind (contains_impl zs (rd_T41 bs (i : Int)) (by omega)) ?_)
              by_cases hc : coverB zs (rd_T41 bs (i : Int)) zs.length 0 = true
              · exact Ev.ite_pos hc (Ev.cast h (by rw [if_pos hc, if_pos hb]))
              · exact Ev.ite_neg hc (Ev.cast (Ev.val _) (if_neg hc).symm)
            · refine Ev.ite_neg hb (Ev.cast (Ev.val _) ?_)
              rw [if_neg hb]
              split <;> rfl
        exact go bs.length 0 (by omega)
      · rw [if_neg (fun hh => hl hh.2)]
        exact Ev.ite_neg (by simp only [decide_eq_true_eq]; omega) (Ev.val _)
    exact Ev.bind main (Ev.val _)
  · rw [if_neg (fun hh => hz hh.1)]
    exact Ev.ite_neg hz (Ev.val _)
theorem FnExactHandTubeOk : Said := by
  intro x ys ⟨hm, hx⟩ ⟨hy, _⟩
  refine Ev.rounds (r := true) ?_
  unfold laws_FnExactHandTubeOk.f
  obtain ⟨r, hr, hle, hge, hin⟩ := szHandZoneS_ev x hm (fun y hy => (hx y hy).1) 1048576 (by omega) (by omega)
  refine Ev.bind hr ?_
  by_cases h : r < 0
  · exact Ev.ite_pos h (Ev.val _)
  · have hl : x.length ≤ 1048576 := by have := hin (by omega); omega
    have hl' : (x.map conv_toHandZoneS).length ≤ 1048576 := by rw [List.length_map]; exact hl
    have hs : ∀ i : Nat, i < (x.map conv_toHandZoneS).length → (rd_T55 (x.map conv_toHandZoneS) (i : Int)).f0.size ≤ 9223372036854775807 := by
      intro i hi
      rw [List.length_map] at hi
      have e : rd_T55 (x.map conv_toHandZoneS) (i : Int) = conv_toHandZoneS x[i] := by
        show (x.map conv_toHandZoneS).getD ((i : Int)).toNat _ = _
        rw [Int.toNat_natCast, List.getD_eq_getElem?_getD, List.getElem?_map, List.getElem?_eq_getElem hi]; rfl
      rw [e]
      exact (hx _ (List.getElem_mem hi)).1
    refine Ev.ite_neg h ?_
    rw [szHandBoxS_eq ys hy r (by omega) (by omega)]
    simp only [Option.bind_some]
    by_cases h2 : (ys.length : Int) ≤ r
    · have hl2 : ys.length ≤ 1048576 := by omega
      have m2 : (ys.map conv_toHandBoxS).length ≤ 1048576 := by rw [List.length_map]; exact hl2
      rw [if_pos h2]
      refine Ev.ite_neg (by omega) (Ev.bind (toHandZoneS_ev x hl) (Ev.bind (toHandBoxS_ev ys hl2) (Ev.bind (tube_spec _ _ hs) (Ev.bind (toHandZoneS_ev x hl) (Ev.bind (toHandBoxS_ev ys hl2) (Ev.bind (tube_impl _ _ hs) (Ev.ite_neg (by simp) ?_)))))))
      exact Ev.bind (toHandZoneS_ev x hl) (Ev.bind (eqHandZoneS_ev _ hl') (Ev.ite_pos rfl (Ev.bind (toHandBoxS_ev ys hl2) (Ev.bind (eqHandBoxS_ev _ m2) (Ev.ite_pos rfl (Ev.val _))))))
    · rw [if_neg h2]
      exact Ev.ite_pos (by omega) (Ev.val _)
end Go.Proofs.Ytbmplfpnhjhoiaa.Pure
