/-
  The law FnHandWho over numbers and lists: any two boxes that come too near are parts of one zone.
-/
import Derived.Test.YtmdmfldpohaegaaStdFnHandWho
namespace Go.Proofs.Ytmdmfldpohaegaa.Pure
open Go.RowKit Go.Proofs.Ytmdmfldpohaegaa.QFnHandWho Go.Proofs.YtmdmfldpohaegaaW.PrintWords Go.Proofs.Ytmdmfldpohaegaa.Kit Go.Proofs.Ytmdmfldpohaegaa.StdFnHandWho
set_option linter.unusedSimpArgs false
set_option linter.unusedVariables false
/-! #### boxes that are ok, boxes that come too near -/
def boxOk (b : S47) : Bool := decide ((0 ≤ b.f0 ∧ b.f0 ≤ 15) ∧ (0 ≤ b.f1 ∧ b.f1 ≤ 15) ∧ (0 ≤ b.f2 ∧ b.f2 ≤ b.f3 ∧ b.f3 ≤ 6) ∧ 0 ≤ b.f4 ∧ b.f4 ≤ b.f5 ∧ b.f5 ≤ 10000)
theorem boxOk_iff (b : S47) : boxOk b = true ↔ ((0 ≤ b.f0 ∧ b.f0 ≤ 15) ∧ (0 ≤ b.f1 ∧ b.f1 ≤ 15) ∧ (0 ≤ b.f2 ∧ b.f2 ≤ b.f3 ∧ b.f3 ≤ 6) ∧ 0 ≤ b.f4 ∧ b.f4 ≤ b.f5 ∧ b.f5 ≤ 10000) := decide_eq_true_iff
theorem spec_hin (a b c : Int) : spec_l31In.f a b c = some (decide (b ≤ a ∧ a ≤ c)) := by
  unfold spec_l31In.f
  by_cases h : a ≥ b <;> simp [h]
theorem impl_hin (a b c : Int) : impl_within.f a b c = some (decide (b ≤ a ∧ a ≤ c)) := by
  unfold impl_within.f
  by_cases h : a ≥ b <;> simp [h]
theorem spec_box (b : S47) : spec_l31BoxOk.f b.f0 b.f1 b.f2 b.f3 b.f4 b.f5 = some (boxOk b) := by
  unfold spec_l31BoxOk.f boxOk
  simp only [spec_hin, Option.bind_some, decide_eq_true_eq]
  repeat' split
  all_goals first | (congr 1; apply decide_eq_decide.2; omega) | (congr 1; symm; apply decide_eq_false; omega)
theorem impl_box (b : S47) : impl_handBox.f b.f0 b.f1 b.f2 b.f3 b.f4 b.f5 = some (boxOk b) := by
  unfold impl_handBox.f boxOk
  simp only [impl_hin, Option.bind_some, decide_eq_true_eq]
  repeat' split
  all_goals first | (congr 1; apply decide_eq_decide.2; omega) | (congr 1; symm; apply decide_eq_false; omega)
/-! #### zones that are ok -/
def chOk (c : Int) : Bool := decide ((97 ≤ c ∧ c ≤ 122) ∨ (48 ≤ c ∧ c ≤ 57) ∨ c = 45)
def nameOk (s : ByteArray) : Bool := decide (1 ≤ s.size ∧ s.size ≤ 8) && allN (fun i => chOk (bt s (i : Int))) s.size 0
theorem spec_zin (a b c : Int) : spec_l31In.f a b c = some (decide (b ≤ a ∧ a ≤ c)) := by
  unfold spec_l31In.f
  by_cases h : a ≥ b <;> simp [h]
theorem impl_zin (a b c : Int) : impl_within.f a b c = some (decide (b ≤ a ∧ a ≤ c)) := by
  unfold impl_within.f
  by_cases h : a ≥ b <;> simp [h]
theorem spec_name (s : ByteArray) (hs : s.size ≤ 9223372036854775807) : Ev (fun k => spec_l31NameOk.f k s) (nameOk s) := by
  unfold spec_l31NameOk.f nameOk
  rw [spec_zin]
  simp only [Option.bind_some]
  by_cases h : 1 ≤ s.size ∧ s.size ≤ 8
  · rw [decide_eq_true h, Bool.true_and]
    refine Ev.ite_pos (by simp; omega) ?_
    have round : ∀ i : Nat, i < s.size → ∀ k, spec_l31NameOk.l0 (k + 1) s (i : Int) = if chOk (bt s (i : Int)) = true then spec_l31NameOk.l0 k s ((i : Int) + 1) else some false := by
      intro i hi k
      simp only [spec_l31NameOk.l0]
      rw [if_pos (show (i : Int) < (s.size : Int) by omega), if_pos (show (0 : Int) ≤ i by omega), w64 (show -9223372036854775808 ≤ (i : Int) + 1 by omega) (by omega)]
      unfold chOk
      simp only [decide_eq_true_eq]
      repeat' split
      all_goals first | rfl | (exfalso; omega)
    refine find_loop (F := fun k i => spec_l31NameOk.l0 k s i) s.size (fun j => !chOk (bt s (j : Int))) (fun _ => false) true ?_ ?_ ?_ s.size 0 (by omega)
    · intro i hi hp
      exact Ev.step (round i hi) (Ev.ite_neg (by simpa using hp) (Ev.val _))
    · intro i hi hp r' hr
      exact Ev.step (round i hi) (Ev.ite_pos (by simpa using hp) hr)
    · refine Ev.step (fun k => ?_) (Ev.val _)
      simp only [spec_l31NameOk.l0]
      rw [if_neg (by omega)]
  · rw [decide_eq_false h, Bool.false_and]
    exact Ev.ite_neg (by simp; omega) (Ev.val _)
theorem impl_name (s : ByteArray) (hs : s.size ≤ 9223372036854775807) : Ev (fun k => impl_isName.f k s) (nameOk s) := by
  unfold impl_isName.f nameOk
  by_cases h : 1 ≤ s.size ∧ s.size ≤ 8
  · rw [decide_eq_true h, Bool.true_and]
    refine Ev.ite_neg (by omega) (Ev.succ ?_)
    simp only [impl_isName.j0]
    refine Ev.ite_neg (by simp; omega) ?_
    have round : ∀ i : Nat, i < s.size → ∀ k, impl_isName.l0 (k + 1) s (i : Int) = if chOk (bt s (i : Int)) = true then impl_isName.l0 k s ((i : Int) + 1) else some false := by
      intro i hi k
      simp only [impl_isName.l0]
      rw [if_pos (show (i : Int) < (s.size : Int) by omega), if_pos (show (0 : Int) ≤ i by omega), w64 (show -9223372036854775808 ≤ (i : Int) + 1 by omega) (by omega)]
      unfold chOk
      simp only [decide_eq_true_eq]
      repeat' split
      all_goals first | rfl | (exfalso; omega)
    refine find_loop (F := fun k i => impl_isName.l0 k s i) s.size (fun j => !chOk (bt s (j : Int))) (fun _ => false) true ?_ ?_ ?_ s.size 0 (by omega)
    · intro i hi hp
      exact Ev.step (round i hi) (Ev.ite_neg (by simpa using hp) (Ev.val _))
    · intro i hi hp r' hr
      exact Ev.step (round i hi) (Ev.ite_pos (by simpa using hp) hr)
    · refine Ev.step (fun k => ?_) (Ev.val _)
      simp only [impl_isName.l0]
      rw [if_neg (by omega)]
  · rw [decide_eq_false h, Bool.false_and]
    have bad : Ev (fun k => impl_isName.j0 k s true) false := Ev.step (fun k => (by simp only [impl_isName.j0]; exact if_pos trivial)) (Ev.val _)
    by_cases h1 : (s.size : Int) < 1
    · exact Ev.ite_pos h1 bad
    · refine Ev.ite_neg h1 ?_
      rw [decide_eq_true (show (s.size : Int) > 8 by omega)]
      exact bad
def less (a b : S34) : Bool := Op.bytesLess (a.f0).toList (b.f0).toList
def touch (z y : S34) : Bool := decide (y.f1 ≤ z.f3 ∧ z.f1 ≤ y.f3 ∧ y.f2 ≤ z.f4 ∧ z.f2 ≤ y.f4)
def rangeOk (z : S34) : Bool := decide ((0 ≤ z.f1 ∧ z.f1 ≤ z.f3 ∧ z.f3 < 16) ∧ (0 ≤ z.f2 ∧ z.f2 ≤ z.f4 ∧ z.f4 < 16))
def zoneOk (x : List S34) (i : Nat) : Bool := nameOk (rd_T34 x (i : Int)).f0 && ((decide (i = 0) || less (rd_T34 x ((i : Int) - 1)) (rd_T34 x (i : Int))) && rangeOk (rd_T34 x (i : Int)))
def zoneAt (x : List S34) (i : Nat) : Bool := zoneOk x i && !anyN (fun j => touch (rd_T34 x (i : Int)) (rd_T34 x (j : Int))) i 0
def zonesOk (x : List S34) : Bool := decide (1 ≤ x.length ∧ x.length ≤ 4) && allN (zoneAt x) x.length 0
theorem zone_bad {x : List S34} {i : Nat} (d : Nat) (h : zoneOk x i = false) : allN (zoneAt x) (d + 1) i = false := by
  simp only [allN, findN]
  rw [if_pos (by unfold zoneAt; rw [h]; rfl)]
theorem zone_good {x : List S34} {i : Nat} (d : Nat) (h : zoneOk x i = true) : allN (zoneAt x) (d + 1) i = findN (fun j => touch (rd_T34 x (i : Int)) (rd_T34 x (j : Int))) (fun _ => false) (allN (zoneAt x) d (i + 1)) i 0 := by
  have e : ∀ b : Bool, ∀ dd ii, findN (fun j => touch (rd_T34 x (i : Int)) (rd_T34 x (j : Int))) (fun _ => false) b dd ii = (!anyN (fun j => touch (rd_T34 x (i : Int)) (rd_T34 x (j : Int))) dd ii && b) := by
    intro b dd
    induction dd with
    | zero => intro ii; simp [findN]
    | succ dd ih =>
      intro ii
      simp only [findN, anyN]
      by_cases ht : touch (rd_T34 x (i : Int)) (rd_T34 x (ii : Int)) = true
      · rw [if_pos ht, if_pos ht]; rfl
      · rw [if_neg ht, if_neg ht]; exact ih (ii + 1)
  rw [e]
  simp only [allN, findN]
  unfold zoneAt
  rw [h, Bool.true_and]
  cases anyN (fun j => touch (rd_T34 x (i : Int)) (rd_T34 x (j : Int))) i 0
  · rfl
  · rfl
theorem spec_zones (x : List S34) (hx : ∀ i : Nat, i < x.length → (rd_T34 x (i : Int)).f0.size ≤ 9223372036854775807) : Ev (fun k => spec_HandZonesOk.f k x) (zonesOk x) := by
  unfold spec_HandZonesOk.f zonesOk
  rw [spec_zin]
  simp only [Option.bind_some]
  by_cases h : 1 ≤ x.length ∧ x.length ≤ 4
  · rw [decide_eq_true h, Bool.true_and]
    refine Ev.ite_pos (by simp; omega) ?_
    have loop : ∀ d i : Nat, i + d = x.length → Ev (fun k => spec_HandZonesOk.l0 k x (i : Int)) (allN (zoneAt x) d i) := by
      intro d
      induction d with
      | zero =>
        intro i hi
        refine Ev.succ ?_
        simp only [spec_HandZonesOk.l0]
        exact Ev.ite_neg (by omega) (Ev.val _)
      | succ d ih =>
        intro i hi
        have bad : zoneOk x i = false → Ev (fun k => spec_HandZonesOk.j1 k x (i : Int) true (rd_T34 x (i : Int)).f0 (rd_T34 x (i : Int)).f1 (rd_T34 x (i : Int)).f2 (rd_T34 x (i : Int)).f3 (rd_T34 x (i : Int)).f4) (allN (zoneAt x) (d + 1) i) := by
          intro hb
          rw [zone_bad d hb]
          exact Ev.step (fun k => (by simp only [spec_HandZonesOk.j1]; exact if_pos trivial)) (Ev.val _)
        have good : zoneOk x i = true → Ev (fun k => spec_HandZonesOk.l1 k x (i : Int) 0 (rd_T34 x (i : Int)).f0 (rd_T34 x (i : Int)).f1 (rd_T34 x (i : Int)).f2 (rd_T34 x (i : Int)).f3 (rd_T34 x (i : Int)).f4) (allN (zoneAt x) (d + 1) i) := by
          intro hg
          rw [zone_good d hg]
          have round : ∀ j : Nat, j < i → ∀ k, spec_HandZonesOk.l1 (k + 1) x (i : Int) (j : Int) (rd_T34 x (i : Int)).f0 (rd_T34 x (i : Int)).f1 (rd_T34 x (i : Int)).f2 (rd_T34 x (i : Int)).f3 (rd_T34 x (i : Int)).f4 = if touch (rd_T34 x (i : Int)) (rd_T34 x (j : Int)) = true then some false else spec_HandZonesOk.l1 k x (i : Int) ((j : Int) + 1) (rd_T34 x (i : Int)).f0 (rd_T34 x (i : Int)).f1 (rd_T34 x (i : Int)).f2 (rd_T34 x (i : Int)).f3 (rd_T34 x (i : Int)).f4 := by
            intro j hj k
            simp only [spec_HandZonesOk.l1]
            rw [if_pos (show (j : Int) < (i : Int) by omega), if_pos (show (0 : Int) ≤ j by omega), if_pos (show (j : Int) < (x.length : Int) by omega), w64 (show -9223372036854775808 ≤ (j : Int) + 1 by omega) (by omega)]
            unfold touch
            simp only [decide_eq_true_eq]
            repeat' split
            all_goals first | rfl | (exfalso; omega)
          refine find_loop (F := fun k j => spec_HandZonesOk.l1 k x (i : Int) j (rd_T34 x (i : Int)).f0 (rd_T34 x (i : Int)).f1 (rd_T34 x (i : Int)).f2 (rd_T34 x (i : Int)).f3 (rd_T34 x (i : Int)).f4) i (fun j => touch (rd_T34 x (i : Int)) (rd_T34 x (j : Int))) (fun _ => false) _ ?_ ?_ ?_ i 0 (by omega)
          · intro j hj hp
            exact Ev.step (round j hj) (Ev.ite_pos hp (Ev.val _))
          · intro j hj hp r' hr
            exact Ev.step (round j hj) (Ev.ite_neg (Bool.eq_false_iff.1 hp) hr)
          · have next := ih (i + 1) (by omega)
            refine Ev.succ ?_
            simp only [spec_HandZonesOk.l1]
            refine Ev.ite_neg (by omega) ?_
            rw [w64 (show -9223372036854775808 ≤ (i : Int) + 1 by omega) (by omega), show (i : Int) + 1 = (((i + 1 : Nat)) : Int) by omega]
            exact next
        refine Ev.succ ?_
        simp only [spec_HandZonesOk.l0, spec_zin, Option.bind_some]
        refine Ev.ite_pos (by omega) (Ev.ite_pos (by omega) (Ev.bind (spec_name _ (hx i (by omega))) ?_))
        by_cases hn : nameOk (rd_T34 x (i : Int)).f0 = true
        · refine Ev.ite_pos hn ?_
          have rest : (decide (i = 0) || less (rd_T34 x ((i : Int) - 1)) (rd_T34 x (i : Int))) = true → Ev (fun k => if (decide (0 ≤ (rd_T34 x (i : Int)).f1 ∧ (rd_T34 x (i : Int)).f1 ≤ (rd_T34 x (i : Int)).f3)) = true then (if (rd_T34 x (i : Int)).f3 ≥ 16 then (spec_HandZonesOk.j1 k x (i : Int) true (rd_T34 x (i : Int)).f0 (rd_T34 x (i : Int)).f1 (rd_T34 x (i : Int)).f2 (rd_T34 x (i : Int)).f3 (rd_T34 x (i : Int)).f4) else (if (decide (0 ≤ (rd_T34 x (i : Int)).f2 ∧ (rd_T34 x (i : Int)).f2 ≤ (rd_T34 x (i : Int)).f4)) = true then (spec_HandZonesOk.j1 k x (i : Int) (decide ((rd_T34 x (i : Int)).f4 ≥ 16)) (rd_T34 x (i : Int)).f0 (rd_T34 x (i : Int)).f1 (rd_T34 x (i : Int)).f2 (rd_T34 x (i : Int)).f3 (rd_T34 x (i : Int)).f4) else (spec_HandZonesOk.j1 k x (i : Int) true (rd_T34 x (i : Int)).f0 (rd_T34 x (i : Int)).f1 (rd_T34 x (i : Int)).f2 (rd_T34 x (i : Int)).f3 (rd_T34 x (i : Int)).f4))) else (spec_HandZonesOk.j1 k x (i : Int) true (rd_T34 x (i : Int)).f0 (rd_T34 x (i : Int)).f1 (rd_T34 x (i : Int)).f2 (rd_T34 x (i : Int)).f3 (rd_T34 x (i : Int)).f4)) (allN (zoneAt x) (d + 1) i) := by
            intro ho
            have zo : zoneOk x i = rangeOk (rd_T34 x (i : Int)) := by unfold zoneOk; rw [hn, ho]; rfl
            by_cases hr : rangeOk (rd_T34 x (i : Int)) = true
            · have hr' := of_decide_eq_true hr
              refine Ev.ite_pos (decide_eq_true (by omega)) (Ev.ite_neg (by omega) (Ev.ite_pos (decide_eq_true (by omega)) (Ev.succ ?_)))
              simp only [spec_HandZonesOk.j1]
              exact Ev.ite_neg (by simp; omega) (good (by rw [zo, hr]))
            · have hb : zoneOk x i = false := by rw [zo]; exact Bool.eq_false_iff.2 hr
              have hr' : ¬ ((0 ≤ (rd_T34 x (i : Int)).f1 ∧ (rd_T34 x (i : Int)).f1 ≤ (rd_T34 x (i : Int)).f3 ∧ (rd_T34 x (i : Int)).f3 < 16) ∧ (0 ≤ (rd_T34 x (i : Int)).f2 ∧ (rd_T34 x (i : Int)).f2 ≤ (rd_T34 x (i : Int)).f4 ∧ (rd_T34 x (i : Int)).f4 < 16)) := fun hh => hr (decide_eq_true hh)
              by_cases h1 : 0 ≤ (rd_T34 x (i : Int)).f1 ∧ (rd_T34 x (i : Int)).f1 ≤ (rd_T34 x (i : Int)).f3
              · refine Ev.ite_pos (decide_eq_true h1) ?_
                by_cases h2 : (rd_T34 x (i : Int)).f3 ≥ 16
                · exact Ev.ite_pos h2 (bad hb)
                · refine Ev.ite_neg h2 ?_
                  by_cases h3 : 0 ≤ (rd_T34 x (i : Int)).f2 ∧ (rd_T34 x (i : Int)).f2 ≤ (rd_T34 x (i : Int)).f4
                  · refine Ev.ite_pos (decide_eq_true h3) ?_
                    rw [decide_eq_true (show (rd_T34 x (i : Int)).f4 ≥ 16 by omega)]
                    exact bad hb
                  · exact Ev.ite_neg (by simpa using h3) (bad hb)
              · exact Ev.ite_neg (by simpa using h1) (bad hb)
          by_cases h0 : i = 0
          · exact Ev.ite_neg (by omega) (rest (by rw [decide_eq_true h0]; rfl))
          · refine Ev.ite_pos (by omega) ?_
            rw [w64 (show -9223372036854775808 ≤ (i : Int) - 1 by omega) (by omega)]
            refine Ev.ite_pos (by omega) (Ev.ite_pos (by omega) ?_)
            by_cases hl : less (rd_T34 x ((i : Int) - 1)) (rd_T34 x (i : Int)) = true
            · exact Ev.ite_pos hl (rest (by rw [hl, Bool.or_true]))
            · exact Ev.ite_neg hl (bad (by unfold zoneOk; rw [decide_eq_false h0, Bool.eq_false_iff.2 hl]; simp))
        · exact Ev.ite_neg hn (bad (by unfold zoneOk; rw [Bool.eq_false_iff.2 hn]; rfl))
    exact loop x.length 0 (by omega)
  · rw [decide_eq_false h, Bool.false_and]
    exact Ev.ite_neg (by simp; omega) (Ev.val _)
theorem rd_takeZ (x : List S34) (i j : Nat) (hj : j < i) : rd_T34 (x.take i) (j : Int) = rd_T34 x (j : Int) := by
  show (x.take i).getD ((j : Int)).toNat _ = x.getD ((j : Int)).toNat _
  rw [Int.toNat_natCast, List.getD_eq_getElem?_getD, List.getD_eq_getElem?_getD, List.getElem?_take_of_lt hj]
theorem impl_zones (x : List S34) (hx : ∀ i : Nat, i < x.length → (rd_T34 x (i : Int)).f0.size ≤ 9223372036854775807) : Ev (fun k => impl_HandZonesOk.f k x) (zonesOk x) := by
  unfold impl_HandZonesOk.f zonesOk
  rw [impl_zin]
  simp only [Option.bind_some]
  by_cases h : 1 ≤ x.length ∧ x.length ≤ 4
  · rw [decide_eq_true h, Bool.true_and]
    refine Ev.ite_pos (by simp; omega) ?_
    have loop : ∀ d i : Nat, i + d = x.length → Ev (fun k => impl_HandZonesOk.l0 k x x (x.length : Int) (i : Int)) (allN (zoneAt x) d i) := by
      intro d
      induction d with
      | zero =>
        intro i hi
        refine Ev.succ ?_
        simp only [impl_HandZonesOk.l0]
        exact Ev.ite_neg (by omega) (Ev.val _)
      | succ d ih =>
        intro i hi
        have bad : zoneOk x i = false → Ev (fun k => impl_HandZonesOk.j1 k x (i : Int) x (x.length : Int) (i : Int) true (rd_T34 x (i : Int)).f0 (rd_T34 x (i : Int)).f1 (rd_T34 x (i : Int)).f2 (rd_T34 x (i : Int)).f3 (rd_T34 x (i : Int)).f4) (allN (zoneAt x) (d + 1) i) := by
          intro hb
          rw [zone_bad d hb]
          exact Ev.step (fun k => (by simp only [impl_HandZonesOk.j1]; exact if_pos trivial)) (Ev.val _)
        have good : zoneOk x i = true → Ev (fun k => impl_HandZonesOk.l1 k x x (x.length : Int) (i : Int) (x.take i) ((x.take i).length : Int) 0 (rd_T34 x (i : Int)).f0 (rd_T34 x (i : Int)).f1 (rd_T34 x (i : Int)).f2 (rd_T34 x (i : Int)).f3 (rd_T34 x (i : Int)).f4) (allN (zoneAt x) (d + 1) i) := by
          intro hg
          rw [zone_good d hg]
          have hlen : (x.take i).length = i := by rw [List.length_take]; omega
          rw [hlen]
          have round : ∀ j : Nat, j < i → ∀ k, impl_HandZonesOk.l1 (k + 1) x x (x.length : Int) (i : Int) (x.take i) (i : Int) (j : Int) (rd_T34 x (i : Int)).f0 (rd_T34 x (i : Int)).f1 (rd_T34 x (i : Int)).f2 (rd_T34 x (i : Int)).f3 (rd_T34 x (i : Int)).f4 = if touch (rd_T34 x (i : Int)) (rd_T34 x (j : Int)) = true then some false else impl_HandZonesOk.l1 k x x (x.length : Int) (i : Int) (x.take i) (i : Int) ((j : Int) + 1) (rd_T34 x (i : Int)).f0 (rd_T34 x (i : Int)).f1 (rd_T34 x (i : Int)).f2 (rd_T34 x (i : Int)).f3 (rd_T34 x (i : Int)).f4 := by
            intro j hj k
            simp only [impl_HandZonesOk.l1, rd_takeZ x i j hj, hlen]
            rw [if_pos (show (j : Int) < (i : Int) by omega), if_pos (show (0 : Int) ≤ j by omega), if_pos (show (j : Int) < (i : Int) by omega), w64 (show -9223372036854775808 ≤ (j : Int) + 1 by omega) (by omega)]
            unfold touch
            simp only [decide_eq_true_eq]
            repeat' split
            all_goals first | rfl | (exfalso; omega)
          refine find_loop (F := fun k j => impl_HandZonesOk.l1 k x x (x.length : Int) (i : Int) (x.take i) (i : Int) j (rd_T34 x (i : Int)).f0 (rd_T34 x (i : Int)).f1 (rd_T34 x (i : Int)).f2 (rd_T34 x (i : Int)).f3 (rd_T34 x (i : Int)).f4) i (fun j => touch (rd_T34 x (i : Int)) (rd_T34 x (j : Int))) (fun _ => false) _ ?_ ?_ ?_ i 0 (by omega)
          · intro j hj hp
            exact Ev.step (round j hj) (Ev.ite_pos hp (Ev.val _))
          · intro j hj hp r' hr
            exact Ev.step (round j hj) (Ev.ite_neg (Bool.eq_false_iff.1 hp) hr)
          · have next := ih (i + 1) (by omega)
            refine Ev.succ ?_
            simp only [impl_HandZonesOk.l1]
            refine Ev.ite_neg (by omega) ?_
            rw [w64 (show -9223372036854775808 ≤ (i : Int) + 1 by omega) (by omega), show (i : Int) + 1 = (((i + 1 : Nat)) : Int) by omega]
            exact next
        refine Ev.succ ?_
        simp only [impl_HandZonesOk.l0]
        refine Ev.ite_pos (by omega) (Ev.ite_pos (by omega) (Ev.ite_pos (by omega) (Ev.bind (impl_name _ (hx i (by omega))) ?_)))
        by_cases hn : nameOk (rd_T34 x (i : Int)).f0 = true
        · refine Ev.ite_pos hn ?_
          by_cases hr : rangeOk (rd_T34 x (i : Int)) = true
          · have hr' := of_decide_eq_true hr
            refine Ev.ite_pos (by omega) (Ev.ite_pos (by omega) (Ev.ite_pos (by omega) (Ev.ite_pos (by omega) (Ev.ite_pos (by omega) (Ev.ite_pos (by omega) ?_)))))
            have go : zoneOk x i = true → Ev (fun k => impl_HandZonesOk.j1 k x (i : Int) x (x.length : Int) (i : Int) false (rd_T34 x (i : Int)).f0 (rd_T34 x (i : Int)).f1 (rd_T34 x (i : Int)).f2 (rd_T34 x (i : Int)).f3 (rd_T34 x (i : Int)).f4) (allN (zoneAt x) (d + 1) i) := by
              intro hg
              refine Ev.succ ?_
              simp only [impl_HandZonesOk.j1, Int.toNat_natCast, Option.bind_some]
              exact Ev.ite_neg (by decide) (Ev.ite_pos (by omega) (Ev.ite_pos (by omega) (good hg)))
            by_cases h0 : i = 0
            · exact Ev.ite_neg (by omega) (go (by unfold zoneOk; rw [hn, hr, decide_eq_true h0]; rfl))
            · refine Ev.ite_pos (by omega) ?_
              rw [w64 (show -9223372036854775808 ≤ (i : Int) - 1 by omega) (by omega)]
              refine Ev.ite_pos (by omega) (Ev.ite_pos (by omega) ?_)
              show Ev (fun k => impl_HandZonesOk.j1 k x (i : Int) x (x.length : Int) (i : Int) (!less (rd_T34 x ((i : Int) - 1)) (rd_T34 x (i : Int))) (rd_T34 x (i : Int)).f0 (rd_T34 x (i : Int)).f1 (rd_T34 x (i : Int)).f2 (rd_T34 x (i : Int)).f3 (rd_T34 x (i : Int)).f4) _
              by_cases hl : less (rd_T34 x ((i : Int) - 1)) (rd_T34 x (i : Int)) = true
              · rw [hl]
                exact go (by unfold zoneOk; rw [hn, hr, hl, Bool.or_true]; rfl)
              · rw [Bool.eq_false_iff.2 hl]
                exact bad (by unfold zoneOk; rw [decide_eq_false h0, Bool.eq_false_iff.2 hl]; simp)
          · have hb : zoneOk x i = false := by unfold zoneOk; rw [Bool.eq_false_iff.2 hr]; simp
            have hr' : ¬ ((0 ≤ (rd_T34 x (i : Int)).f1 ∧ (rd_T34 x (i : Int)).f1 ≤ (rd_T34 x (i : Int)).f3 ∧ (rd_T34 x (i : Int)).f3 < 16) ∧ (0 ≤ (rd_T34 x (i : Int)).f2 ∧ (rd_T34 x (i : Int)).f2 ≤ (rd_T34 x (i : Int)).f4 ∧ (rd_T34 x (i : Int)).f4 < 16)) := fun hh => hr (decide_eq_true hh)
            by_cases h1 : 0 ≤ (rd_T34 x (i : Int)).f1
            · refine Ev.ite_pos h1 ?_
              by_cases h2 : (rd_T34 x (i : Int)).f1 ≤ (rd_T34 x (i : Int)).f3
              · refine Ev.ite_pos h2 ?_
                by_cases h3 : (rd_T34 x (i : Int)).f3 < 16
                · refine Ev.ite_pos h3 ?_
                  by_cases h4 : 0 ≤ (rd_T34 x (i : Int)).f2
                  · refine Ev.ite_pos h4 ?_
                    by_cases h5 : (rd_T34 x (i : Int)).f2 ≤ (rd_T34 x (i : Int)).f4
                    · exact Ev.ite_pos h5 (Ev.ite_neg (by omega) (bad hb))
                    · exact Ev.ite_neg h5 (bad hb)
                  · exact Ev.ite_neg h4 (bad hb)
                · exact Ev.ite_neg h3 (bad hb)
              · exact Ev.ite_neg h2 (bad hb)
            · exact Ev.ite_neg h1 (bad hb)
        · refine Ev.ite_neg hn ?_
          exact bad (by unfold zoneOk; rw [Bool.eq_false_iff.2 hn]; rfl)
    exact loop x.length 0 (by omega)
  · rw [decide_eq_false h, Bool.false_and]
    exact Ev.ite_neg (by simp; omega) (Ev.val _)
/-! #### the part of a row that a zone sees -/
def sees (z : S34) (b : S47) : Bool := boxOk b && decide ((z.f1 - 1 ≤ b.f0 ∧ b.f0 ≤ z.f3 + 1) ∧ (z.f2 - 1 ≤ b.f1 ∧ b.f1 ≤ z.f4 + 1))
def partOf (z : S34) (x : List S47) : List S47 := if zonesOk [z] = true then x.filter (sees z) else []
theorem partOf_length (z : S34) (x : List S47) : (partOf z x).length ≤ x.length := by
  unfold partOf
  split
  · exact List.length_filter_le _ _
  · exact Nat.zero_le _
theorem one_size (z : S34) (hz : z.f0.size ≤ 9223372036854775807) : ∀ i : Nat, i < [z].length → (rd_T34 [z] (i : Int)).f0.size ≤ 9223372036854775807 := by
  intro i hi
  have e : i = 0 := by simp only [List.length_cons, List.length_nil] at hi; omega
  subst e
  exact hz
theorem one_range {z : S34} (h : zonesOk [z] = true) : (0 ≤ z.f1 ∧ z.f1 ≤ z.f3 ∧ z.f3 < 16) ∧ (0 ≤ z.f2 ∧ z.f2 ≤ z.f4 ∧ z.f4 < 16) := by
  unfold zonesOk at h
  rw [Bool.and_eq_true] at h
  have h2 := (allN_iff _ _).1 h.2 0 (Nat.le_refl _) (by simp)
  unfold zoneAt at h2
  rw [Bool.and_eq_true] at h2
  have h3 := h2.1
  unfold zoneOk at h3
  rw [Bool.and_eq_true, Bool.and_eq_true] at h3
  exact of_decide_eq_true h3.2.2
theorem spec_sees (z : S34) (b : S47) (h : zonesOk [z] = true) : spec_l31Sees.f z.f0 z.f1 z.f2 z.f3 z.f4 b.f0 b.f1 b.f2 b.f3 b.f4 b.f5 = some (sees z b) := by
  have r := one_range h
  unfold spec_l31Sees.f sees
  rw [spec_box]
  rw [w64 (show -9223372036854775808 ≤ z.f1 - 2 by omega) (by omega), w64 (show -9223372036854775808 ≤ z.f1 - 2 + 1 by omega) (by omega), w64 (show -9223372036854775808 ≤ z.f3 + 2 by omega) (by omega), w64 (show -9223372036854775808 ≤ z.f3 + 2 - 1 by omega) (by omega), w64 (show -9223372036854775808 ≤ z.f2 - 2 by omega) (by omega), w64 (show -9223372036854775808 ≤ z.f2 - 2 + 1 by omega) (by omega), w64 (show -9223372036854775808 ≤ z.f4 + 2 by omega) (by omega), w64 (show -9223372036854775808 ≤ z.f4 + 2 - 1 by omega) (by omega)]
  simp only [spec_zin, Option.bind_some]
  cases boxOk b
  · rfl
  · rw [if_pos rfl, Bool.true_and]
    by_cases h1 : z.f1 - 2 + 1 ≤ b.f0 ∧ b.f0 ≤ z.f3 + 2 - 1
    · rw [decide_eq_true h1, if_pos rfl]
      congr 1
      apply decide_eq_decide.2
      omega
    · rw [decide_eq_false h1, if_neg (by decide)]
      congr 1
      symm
      apply decide_eq_false
      omega
theorem filter_step (P : S47 → Bool) (x : List S47) (i : Nat) (hi : i < x.length) : (x.take (i + 1)).filter P = if P (rd_T47 x (i : Int)) = true then (x.take i).filter P ++ [rd_T47 x (i : Int)] else (x.take i).filter P := by
  have e : rd_T47 x (i : Int) = x[i] := by
    show x.getD ((i : Int)).toNat _ = x[i]
    rw [Int.toNat_natCast, List.getD_eq_getElem?_getD, List.getElem?_eq_getElem hi]; rfl
  rw [List.take_add_one, List.getElem?_eq_getElem hi, List.filter_append, e]
  by_cases hp : P x[i] = true
  · rw [if_pos hp]; simp [hp]
  · rw [if_neg hp]; simp [hp]
theorem filter_len (P : S47 → Bool) (x : List S47) (i : Nat) : ((x.take i).filter P).length ≤ x.length := by
  have := List.length_filter_le P (x.take i)
  rw [List.length_take] at this
  omega
theorem spec_part (z : S34) (x : List S47) (hz : z.f0.size ≤ 9223372036854775807) (hx : x.length ≤ 1048576) : Ev (fun k => spec_HandPartOf.f k z.f0 z.f1 z.f2 z.f3 z.f4 x) (partOf z x) := by
  unfold spec_HandPartOf.f partOf
  have zone : Ev (fun k => spec_l31ZoneOk.f k z.f0 z.f1 z.f2 z.f3 z.f4) (zonesOk [z]) := by
    unfold spec_l31ZoneOk.f
    exact Ev.bind (spec_zones [z] (one_size z hz)) (Ev.val _)
  by_cases h : zonesOk [z] = true
  · rw [if_pos h]
    rw [h] at zone
    have loop : ∀ d i : Nat, i + d = x.length → Ev (fun k => spec_HandPartOf.l0 k x ((x.take i).filter (sees z)) (i : Int) z.f0 z.f1 z.f2 z.f3 z.f4) (x.filter (sees z)) := by
      intro d
      induction d with
      | zero =>
        intro i hi
        refine Ev.succ ?_
        simp only [spec_HandPartOf.l0]
        refine Ev.ite_neg (by omega) (Ev.succ ?_)
        simp only [spec_HandPartOf.j1]
        refine Ev.ite_neg (by decide) (Ev.cast (Ev.val _) ?_)
        rw [List.take_of_length_le (by omega)]
      | succ d ih =>
        intro i hi
        refine Ev.succ ?_
        simp only [spec_HandPartOf.l0]
        refine Ev.ite_pos (by omega) (Ev.bind zone (Ev.succ ?_))
        simp only [spec_HandPartOf.j1]
        refine Ev.ite_pos trivial (Ev.ite_pos (by omega) (Ev.ite_pos (by omega) ?_))
        rw [spec_sees z _ h, w64 (show -9223372036854775808 ≤ (i : Int) + 1 by omega) (by omega)]
        simp only [Option.bind_some]
        have next := ih (i + 1) (by omega)
        rw [filter_step (sees z) x i (by omega), show (((i + 1 : Nat)) : Int) = (i : Int) + 1 by omega] at next
        by_cases hs : sees z (rd_T47 x (i : Int)) = true
        · rw [if_pos hs] at next
          have := filter_len (sees z) x i
          exact Ev.ite_pos hs (Ev.ite_pos (by omega) next)
        · rw [if_neg hs] at next
          exact Ev.ite_neg hs next
    exact loop x.length 0 (by omega)
  · rw [if_neg h]
    rw [Bool.eq_false_iff.2 h] at zone
    refine Ev.succ ?_
    simp only [spec_HandPartOf.l0]
    by_cases h0 : (0 : Int) < (x.length : Int)
    · refine Ev.ite_pos h0 (Ev.bind zone (Ev.succ ?_))
      simp only [spec_HandPartOf.j1]
      exact Ev.ite_neg (by decide) (Ev.val _)
    · refine Ev.ite_neg h0 (Ev.succ ?_)
      simp only [spec_HandPartOf.j1]
      exact Ev.ite_neg (by decide) (Ev.val _)
theorem impl_part (z : S34) (x : List S47) (hz : z.f0.size ≤ 9223372036854775807) (hx : x.length ≤ 1048576) : Ev (fun k => impl_HandPartOf.f k z.f0 z.f1 z.f2 z.f3 z.f4 x) (partOf z x) := by
  unfold impl_HandPartOf.f partOf
  refine Ev.bind (impl_zones [z] (one_size z hz)) ?_
  by_cases h : zonesOk [z] = true
  · rw [if_pos h]
    refine Ev.ite_pos h ?_
    have r := one_range h
    have loop : ∀ d i : Nat, i + d = x.length → Ev (fun k => impl_HandPartOf.l0 k ((x.take i).filter (sees z)) x (x.length : Int) (i : Int) z.f0 z.f1 z.f2 z.f3 z.f4) (x.filter (sees z)) := by
      intro d
      induction d with
      | zero =>
        intro i hi
        refine Ev.succ ?_
        simp only [impl_HandPartOf.l0]
        refine Ev.ite_neg (by omega) (Ev.cast (Ev.val _) ?_)
        rw [List.take_of_length_le (by omega)]
      | succ d ih =>
        intro i hi
        refine Ev.succ ?_
        simp only [impl_HandPartOf.l0, impl_box, impl_zin, Option.bind_some]
        refine Ev.ite_pos (by omega) (Ev.ite_pos (by omega) (Ev.ite_pos (by omega) ?_))
        rw [w64 (show -9223372036854775808 ≤ (i : Int) + 1 by omega) (by omega), w64 (show -9223372036854775808 ≤ z.f1 - 1 by omega) (by omega), w64 (show -9223372036854775808 ≤ z.f3 + 1 by omega) (by omega), w64 (show -9223372036854775808 ≤ z.f2 - 1 by omega) (by omega), w64 (show -9223372036854775808 ≤ z.f4 + 1 by omega) (by omega)]
        have next := ih (i + 1) (by omega)
        rw [filter_step (sees z) x i (by omega), show (((i + 1 : Nat)) : Int) = (i : Int) + 1 by omega] at next
        have hlen := filter_len (sees z) x i
        by_cases hb : boxOk (rd_T47 x (i : Int)) = true
        · refine Ev.ite_pos hb ?_
          by_cases h1 : z.f1 - 1 ≤ (rd_T47 x (i : Int)).f0 ∧ (rd_T47 x (i : Int)).f0 ≤ z.f3 + 1
          · refine Ev.ite_pos (decide_eq_true h1) ?_
            by_cases h2 : z.f2 - 1 ≤ (rd_T47 x (i : Int)).f1 ∧ (rd_T47 x (i : Int)).f1 ≤ z.f4 + 1
            · have hs : sees z (rd_T47 x (i : Int)) = true := by unfold sees; rw [hb, decide_eq_true ⟨h1, h2⟩]; rfl
              rw [if_pos hs] at next
              exact Ev.ite_pos (decide_eq_true h2) (Ev.ite_pos (by omega) next)
            · have hs : sees z (rd_T47 x (i : Int)) = false := by unfold sees; rw [decide_eq_false (fun hh => h2 hh.2), Bool.and_false]
              rw [if_neg (by rw [hs]; decide)] at next
              exact Ev.ite_neg (by simpa using h2) next
          · have hs : sees z (rd_T47 x (i : Int)) = false := by unfold sees; rw [decide_eq_false (fun hh => h1 hh.1), Bool.and_false]
            rw [if_neg (by rw [hs]; decide)] at next
            exact Ev.ite_neg (by simpa using h1) next
        · have hs : sees z (rd_T47 x (i : Int)) = false := by unfold sees; rw [Bool.eq_false_iff.2 hb, Bool.false_and]
          rw [if_neg (by rw [hs]; decide)] at next
          exact Ev.ite_neg hb next
    exact loop x.length 0 (by omega)
  · rw [if_neg h]
    exact Ev.ite_neg h (Ev.val _)
/-! #### tubes under zones -/
def overB (z : S34) (b : S47) : Bool := decide ((z.f1 ≤ b.f0 ∧ b.f0 ≤ z.f3) ∧ z.f2 ≤ b.f1 ∧ b.f1 ≤ z.f4)
theorem over_spec (z : S34) (b : S47) : spec_l31Over.f z.f0 z.f1 z.f2 z.f3 z.f4 b.f0 b.f1 b.f2 b.f3 b.f4 b.f5 = some (overB z b) := by
  unfold spec_l31Over.f spec_l31In.f overB
  by_cases h0 : b.f0 ≥ z.f1 <;> by_cases h1 : b.f0 ≤ z.f3 <;> by_cases h2 : b.f1 ≥ z.f2 <;> simp [h0, h1, h2]
theorem over_impl (z : S34) (b : S47) : impl_HandZone_over.f z.f0 z.f1 z.f2 z.f3 z.f4 b.f0 b.f1 = some (overB z b) := by
  unfold impl_HandZone_over.f impl_within.f overB
  by_cases h0 : b.f0 ≥ z.f1 <;> by_cases h1 : b.f0 ≤ z.f3 <;> by_cases h2 : b.f1 ≥ z.f2 <;> simp [h0, h1, h2]
def coverB (zs : List S34) (b : S47) (d i : Nat) : Bool := anyN (fun j => overB (rd_T34 zs (j : Int)) b) d i
/-- From box i on, d boxes: each is ok, and under some zone. -/
def tubeAll (zs : List S34) (bs : List S47) : Nat → Nat → Bool
  | 0, _ => true
  | d + 1, i => if coverB zs (rd_T47 bs (i : Int)) zs.length 0 = true then (if boxOk (rd_T47 bs (i : Int)) = true then tubeAll zs bs d (i + 1) else false) else false
def tubeOf (zs : List S34) (bs : List S47) : Bool := if zonesOk zs = true ∧ 1 ≤ bs.length ∧ bs.length ≤ 20 then tubeAll zs bs bs.length 0 else false
theorem zones_len {zs : List S34} (h : zonesOk zs = true) : zs.length ≤ 4 := by
  unfold zonesOk at h
  rw [Bool.and_eq_true] at h
  exact (of_decide_eq_true h.1).2
theorem tube_spec (zs : List S34) (bs : List S47) (hx : ∀ i : Nat, i < zs.length → (rd_T34 zs (i : Int)).f0.size ≤ 9223372036854775807) : Ev (fun k => spec_HandTubeOk.f k zs bs) (tubeOf zs bs) := by
  have bad : Ev (fun k => spec_HandTubeOk.j0 k zs bs true) false := Ev.step (fun k => (by simp only [spec_HandTubeOk.j0]; exact if_pos trivial)) (Ev.val _)
  unfold spec_HandTubeOk.f tubeOf
  refine Ev.bind (spec_zones zs hx) ?_
  by_cases hz : zonesOk zs = true
  · refine Ev.ite_pos hz ?_
    have hzl := zones_len hz
    rw [spec_zin]
    simp only [Option.bind_some]
    by_cases hl : 1 ≤ bs.length ∧ bs.length ≤ 20
    · rw [if_pos ⟨hz, hl⟩, decide_eq_true (show (1 : Int) ≤ (bs.length : Int) ∧ (bs.length : Int) ≤ 20 by omega)]
      refine Ev.succ ?_
      simp only [spec_HandTubeOk.j0]
      refine Ev.ite_neg (by decide) ?_
      have go : ∀ (d i : Nat), i + d = bs.length → Ev (fun k => spec_HandTubeOk.l0 k zs bs (i : Int)) (tubeAll zs bs d i) := by
        intro d
        induction d with
        | zero =>
          intro i hi
          refine Ev.step (fun k => ?_) (Ev.val _)
          simp only [spec_HandTubeOk.l0]
          rw [if_neg (by omega)]
          rfl
        | succ d ih =>
          intro i hi
          have h := ih (i + 1) (by omega)
          rw [show (((i + 1 : Nat) : Int)) = (i : Int) + 1 by omega] at h
          have inner : ∀ (d2 j : Nat) (found : Bool), j + d2 = zs.length → Ev (fun f => spec_HandTubeOk.l1 f zs bs (i : Int) found (j : Int)) (if (found || coverB zs (rd_T47 bs (i : Int)) d2 j) = true then (if boxOk (rd_T47 bs (i : Int)) = true then tubeAll zs bs d (i + 1) else false) else false) := by
            intro d2
            induction d2 with
            | zero =>
              intro j found hj
              refine Ev.succ ?_
              simp only [spec_HandTubeOk.l1, spec_box, Option.bind_some]
              rw [w64 (show -9223372036854775808 ≤ (i : Int) + 1 by omega) (by omega)]
              refine Ev.ite_neg (by omega) ?_
              cases found with
              | true =>
                refine Ev.ite_pos rfl (Ev.ite_pos (by omega) (Ev.ite_pos (by omega) ?_))
                simp only [Bool.true_or, if_true]
                by_cases hb : boxOk (rd_T47 bs (i : Int)) = true
                · exact Ev.ite_pos hb (Ev.cast h (if_pos hb).symm)
                · exact Ev.ite_neg hb (Ev.cast (Ev.val _) (if_neg hb).symm)
              | false => exact Ev.ite_neg (by simp) (Ev.cast (Ev.val _) (by simp [coverB, anyN, findN]))
            | succ d2 ih2 =>
              intro j found hj
              refine Ev.succ ?_
              simp only [spec_HandTubeOk.l1, over_spec, Option.bind_some]
              rw [w64 (show -9223372036854775808 ≤ (j : Int) + 1 by omega) (by omega)]
              refine Ev.ite_pos (by omega) ?_
              cases found with
              | true =>
                have h2 := ih2 (j + 1) true (by omega)
                rw [show (((j + 1 : Nat) : Int)) = (j : Int) + 1 by omega] at h2
                exact Ev.ite_pos rfl (Ev.cast h2 (by simp))
              | false =>
                have h2 := ih2 (j + 1) (overB (rd_T34 zs (j : Int)) (rd_T47 bs (i : Int))) (by omega)
                rw [show (((j + 1 : Nat) : Int)) = (j : Int) + 1 by omega] at h2
                refine Ev.ite_neg (by simp) (Ev.ite_pos (by omega) (Ev.ite_pos (by omega) (Ev.ite_pos (by omega) (Ev.cast h2 ?_))))
                simp only [coverB, anyN, findN, Bool.false_or]
                cases overB (rd_T34 zs (j : Int)) (rd_T47 bs (i : Int)) <;> simp
          refine Ev.succ ?_
          simp only [spec_HandTubeOk.l0]
          refine Ev.ite_pos (by omega) ?_
          exact Ev.cast (inner zs.length 0 false (by omega)) rfl
      exact go bs.length 0 (by omega)
    · rw [if_neg (fun hh => hl hh.2), decide_eq_false (show ¬ ((1 : Int) ≤ (bs.length : Int) ∧ (bs.length : Int) ≤ 20) by omega)]
      exact bad
  · rw [if_neg (fun hh => hz hh.1)]
    exact Ev.ite_neg hz bad
theorem find_ge {P : Nat → Bool} : ∀ (d i : Nat), decide (findN P (fun j => (j : Int)) (-1) d i ≥ 0) = anyN P d i
  | 0, i => by simp [findN, anyN]
  | d + 1, i => by
    simp only [findN, anyN]
    by_cases h : P i = true
    · rw [if_pos h, if_pos h]
      exact decide_eq_true (by omega)
    · rw [if_neg h, if_neg h]
      exact find_ge d (i + 1)
theorem contains_impl (zs : List S34) (b : S47) (hz : zs.length ≤ 1048576) : Ev (fun k => impl_HandZone_39.f k zs b.f0 b.f1) (coverB zs b zs.length 0) := by
  unfold impl_HandZone_39.f
  have hf : Ev (fun k => impl_HandZone_42.f k zs b.f0 b.f1) (findN (fun j => overB (rd_T34 zs (j : Int)) b) (fun j => (j : Int)) (-1) zs.length 0) := by
    unfold impl_HandZone_42.f
    refine find_loop (F := fun k j => impl_HandZone_42.l0 k zs b.f0 b.f1 (zs.length : Int) j) zs.length (fun j => overB (rd_T34 zs (j : Int)) b) (fun j => (j : Int)) _ ?_ ?_ ?_ zs.length 0 (by omega)
    · intro j hj hp
      refine Ev.step (fun k => ?_) (Ev.val _)
      simp only [impl_HandZone_42.l0, over_impl, Option.bind_some]
      rw [if_pos (show (j : Int) < (zs.length : Int) by omega), if_pos (show (0 : Int) ≤ j by omega), if_pos (show (j : Int) < (zs.length : Int) by omega), if_pos hp]
    · intro j hj hp r' hr
      refine Ev.step (fun k => ?_) hr
      simp only [impl_HandZone_42.l0, over_impl, Option.bind_some]
      rw [if_pos (show (j : Int) < (zs.length : Int) by omega), if_pos (show (0 : Int) ≤ j by omega), if_pos (show (j : Int) < (zs.length : Int) by omega), if_neg (by rw [hp]; decide), w64 (show -9223372036854775808 ≤ (j : Int) + 1 by omega) (by omega)]
    · refine Ev.step (fun k => ?_) (Ev.val _)
      simp only [impl_HandZone_42.l0]
      rw [if_neg (by omega)]
  exact Ev.bind hf (Ev.cast (Ev.val _) (find_ge _ _))
theorem tube_impl (zs : List S34) (bs : List S47) (hx : ∀ i : Nat, i < zs.length → (rd_T34 zs (i : Int)).f0.size ≤ 9223372036854775807) : Ev (fun k => impl_HandTubeOk.f k zs bs) (tubeOf zs bs) := by
  unfold impl_HandTubeOk.f tubeOf
  refine Ev.bind (impl_zones zs hx) ?_
  by_cases hz : zonesOk zs = true
  · refine Ev.ite_pos hz ?_
    have hzl := zones_len hz
    have main : Ev (fun k => impl_tubeOk.f k zs bs) (if zonesOk zs = true ∧ 1 ≤ bs.length ∧ bs.length ≤ 20 then tubeAll zs bs bs.length 0 else false) := by
      unfold impl_tubeOk.f
      rw [impl_zin]
      simp only [Option.bind_some]
      by_cases hl : 1 ≤ bs.length ∧ bs.length ≤ 20
      · rw [if_pos ⟨hz, hl⟩]
        refine Ev.ite_pos (decide_eq_true (by omega)) ?_
        have go : ∀ (d i : Nat), i + d = bs.length → Ev (fun k => impl_tubeOk.l0 k zs bs (bs.length : Int) (i : Int)) (tubeAll zs bs d i) := by
          intro d
          induction d with
          | zero =>
            intro i hi
            refine Ev.step (fun k => ?_) (Ev.val _)
            simp only [impl_tubeOk.l0]
            rw [if_neg (by omega)]
            rfl
          | succ d ih =>
            intro i hi
            have h := ih (i + 1) (by omega)
            rw [show (((i + 1 : Nat) : Int)) = (i : Int) + 1 by omega] at h
            refine Ev.succ ?_
            simp only [impl_tubeOk.l0, impl_box, Option.bind_some, tubeAll]
            rw [w64 (show -9223372036854775808 ≤ (i : Int) + 1 by omega) (by omega)]
            refine Ev.ite_pos (by omega) (Ev.ite_pos (by omega) (Ev.ite_pos (by omega) ?_))
            by_cases hb : boxOk (rd_T47 bs (i : Int)) = true
            · refine Ev.ite_pos hb (Ev.bind (contains_impl zs (rd_T47 bs (i : Int)) (by omega)) ?_)
              by_cases hc : coverB zs (rd_T47 bs (i : Int)) zs.length 0 = true
              · exact Ev.ite_pos hc (Ev.cast h (by rw [if_pos hc, if_pos hb]))
              · exact Ev.ite_neg hc (Ev.cast (Ev.val _) (if_neg hc).symm)
            · refine Ev.ite_neg hb (Ev.cast (Ev.val _) ?_)
              rw [if_neg hb]
              split <;> rfl
        exact go bs.length 0 (by omega)
      · rw [if_neg (fun hh => hl hh.2)]
        exact Ev.ite_neg (by simp only [decide_eq_true_eq]; omega) (Ev.val _)
    exact Ev.bind main (Ev.val _)
  · rw [if_neg (fun hh => hz hh.1)]
    exact Ev.ite_neg hz (Ev.val _)
def heard (x : List S47) (z : S34) : Bool := decide (0 < (partOf z x).length)
def whoOf (zs : List S34) (x : List S47) : List ByteArray := (zs.filter (heard x)).map (·.f0)
theorem whoOf_length (zs : List S34) (x : List S47) : (whoOf zs x).length ≤ zs.length := by
  unfold whoOf
  rw [List.length_map]
  exact List.length_filter_le _ _
theorem filterZ_step (P : S34 → Bool) (x : List S34) (i : Nat) (hi : i < x.length) : ((x.take (i + 1)).filter P).map (·.f0) = if P (rd_T34 x (i : Int)) = true then ((x.take i).filter P).map (·.f0) ++ [(rd_T34 x (i : Int)).f0] else ((x.take i).filter P).map (·.f0) := by
  have e : rd_T34 x (i : Int) = x[i] := by
    show x.getD ((i : Int)).toNat _ = x[i]
    rw [Int.toNat_natCast, List.getD_eq_getElem?_getD, List.getElem?_eq_getElem hi]; rfl
  rw [List.take_add_one, List.getElem?_eq_getElem hi, List.filter_append, e]
  by_cases hp : P x[i] = true
  · rw [if_pos hp]; simp [hp]
  · rw [if_neg hp]; simp [hp]
theorem filterZ_len (P : S34 → Bool) (x : List S34) (i : Nat) : (((x.take i).filter P).map (·.f0)).length ≤ x.length := by
  have := List.length_filter_le P (x.take i)
  rw [List.length_take] at this
  rw [List.length_map]
  omega
theorem impl_who (zs : List S34) (x : List S47) (hz : ∀ i : Nat, i < zs.length → (rd_T34 zs (i : Int)).f0.size ≤ 9223372036854775807) (hl : zs.length ≤ 1048576) (hx : x.length ≤ 1048576) : Ev (fun k => impl_HandWho.f k zs x) (whoOf zs x) := by
  have loop : ∀ d i : Nat, i + d = zs.length → Ev (fun k => impl_HandWho.l0 k x (((zs.take i).filter (heard x)).map (·.f0)) zs (zs.length : Int) (i : Int)) (whoOf zs x) := by
    intro d
    induction d with
    | zero =>
      intro i hi
      refine Ev.succ ?_
      simp only [impl_HandWho.l0]
      refine Ev.ite_neg (by omega) (Ev.cast (Ev.val _) ?_)
      rw [List.take_of_length_le (by omega)]; rfl
    | succ d ih =>
      intro i hi
      refine Ev.succ ?_
      simp only [impl_HandWho.l0]
      refine Ev.ite_pos (by omega) (Ev.ite_pos (by omega) (Ev.ite_pos (by omega) (Ev.bind (impl_part (rd_T34 zs (i : Int)) x (hz i (by omega)) hx) ?_)))
      rw [w64 (show -9223372036854775808 ≤ (i : Int) + 1 by omega) (by omega)]
      have next := ih (i + 1) (by omega)
      rw [filterZ_step (heard x) zs i (by omega), show (((i + 1 : Nat)) : Int) = (i : Int) + 1 by omega] at next
      have hlen := filterZ_len (heard x) zs i
      by_cases hp : 0 < (partOf (rd_T34 zs (i : Int)) x).length
      · rw [if_pos (show heard x (rd_T34 zs (i : Int)) = true from decide_eq_true hp)] at next
        exact Ev.ite_pos (by omega) (Ev.ite_pos (by omega) next)
      · rw [if_neg (show ¬ heard x (rd_T34 zs (i : Int)) = true from fun hh => hp (of_decide_eq_true hh))] at next
        exact Ev.ite_neg (by omega) next
  exact loop zs.length 0 (by omega)
def tooNear (a b : S47) : Bool := decide ((-1 ≤ a.f0 - b.f0 ∧ a.f0 - b.f0 ≤ 1) ∧ (-1 ≤ a.f1 - b.f1 ∧ a.f1 - b.f1 ≤ 1) ∧ a.f2 ≤ b.f3 ∧ b.f2 ≤ a.f3 ∧ a.f4 ≤ b.f5 ∧ b.f4 ≤ a.f5)
theorem spec_close (a b : S47) : spec_l31Close.f a.f0 a.f1 a.f2 a.f3 a.f4 a.f5 b.f0 b.f1 b.f2 b.f3 b.f4 b.f5 = some (boxOk a && (boxOk b && tooNear a b)) := by
  unfold spec_l31Close.f
  simp only [spec_box, Option.bind_some]
  by_cases ha : boxOk a = true
  · rw [ha, if_pos rfl]
    by_cases hb : boxOk b = true
    · rw [hb, if_pos rfl]
      have ha := (boxOk_iff a).1 ha
      have hb := (boxOk_iff b).1 hb
      rw [w64 (show -9223372036854775808 ≤ a.f0 - b.f0 by omega) (by omega), w64 (show -9223372036854775808 ≤ a.f1 - b.f1 by omega) (by omega)]
      simp only [spec_hin, Option.bind_some, decide_eq_true_eq, Bool.true_and]
      unfold tooNear
      repeat' split
      all_goals first | (congr 1; apply decide_eq_decide.2; omega) | (congr 1; symm; apply decide_eq_false; omega)
    · rw [if_neg hb, Bool.eq_false_iff.2 hb]; rfl
  · rw [if_neg ha, Bool.eq_false_iff.2 ha]; rfl
def nearOne (a : S47) (ys : List S47) : Bool := boxOk a && anyN (fun j => boxOk (rd_T47 ys (j : Int)) && tooNear a (rd_T47 ys (j : Int))) ys.length 0
def near (xs ys : List S47) : Bool := anyN (fun i => nearOne (rd_T47 xs (i : Int)) ys) xs.length 0
theorem near_spec (xs ys : List S47) (hx : xs.length ≤ 1048576) (hy : ys.length ≤ 1048576) : Ev (fun k => spec_HandNear.f k xs ys) (near xs ys) := by
  have inner : ∀ (i : Nat), i < xs.length → ∀ r', ((∀ j, 0 ≤ j → j < ys.length → (boxOk (rd_T47 xs (i : Int)) && (boxOk (rd_T47 ys (j : Int)) && tooNear (rd_T47 xs (i : Int)) (rd_T47 ys (j : Int)))) = false) → Ev (fun k => spec_HandNear.l0 k xs ys ((i : Int) + 1)) r') →
      Ev (fun k => spec_HandNear.l0 k xs ys i) (findN (fun j => boxOk (rd_T47 xs (i : Int)) && (boxOk (rd_T47 ys (j : Int)) && tooNear (rd_T47 xs (i : Int)) (rd_T47 ys (j : Int)))) (fun _ => true) r' ys.length 0) := by
    intro i hi r' hr
    refine Ev.step (fun k => by simp only [spec_HandNear.l0]; exact if_pos (by omega)) ?_
    refine find_loop2 (F := fun k j => spec_HandNear.l1 k xs ys i j) ys.length _ _ r' ?_ ?_ ys.length 0 (by omega) (fun h => ?_)
    · intro j hj hp
      refine Ev.step (fun k => ?_) (Ev.val _)
      simp only [spec_HandNear.l1, if_pos (show (j : Int) < (ys.length : Int) by omega), if_pos (show (i : Int) < (xs.length : Int) by omega), if_pos (show (0 : Int) ≤ i by omega), if_pos (show (0 : Int) ≤ j by omega), spec_close, Option.bind_some]
      rw [if_pos hp]
    · intro j hj hp r'' hr'
      refine Ev.step (fun k => ?_) hr'
      simp only [spec_HandNear.l1, if_pos (show (j : Int) < (ys.length : Int) by omega), if_pos (show (i : Int) < (xs.length : Int) by omega), if_pos (show (0 : Int) ≤ i by omega), if_pos (show (0 : Int) ≤ j by omega), spec_close, Option.bind_some]
      rw [if_neg (by simp [hp]), w64 (by omega) (by omega)]
    · refine Ev.step (fun k => ?_) (hr h)
      simp only [spec_HandNear.l1]
      rw [if_neg (by omega), w64 (by omega) (by omega)]
  refine find_loop (F := fun k i => spec_HandNear.l0 k xs ys i) xs.length (fun i => nearOne (rd_T47 xs (i : Int)) ys) (fun _ => true) false ?_ ?_ ?_ xs.length 0 (by omega)
  · intro i hi hp
    unfold nearOne at hp
    rw [Bool.and_eq_true] at hp
    obtain ⟨j, h1, h2, h3⟩ := (anyN_iff _ _).1 hp.2
    have h4 : (boxOk (rd_T47 xs (i : Int)) && (boxOk (rd_T47 ys (j : Int)) && tooNear (rd_T47 xs (i : Int)) (rd_T47 ys (j : Int)))) = true := by rw [hp.1, h3]; rfl
    refine Ev.cast (inner i hi true (fun h => ?_)) (findN_found _ _ ⟨j, h1, h2, h4⟩)
    rw [h j (by omega) (by omega)] at h4
    cases h4
  · intro i hi hp r' hr
    have none : ∀ j, 0 ≤ j → j < 0 + ys.length → (boxOk (rd_T47 xs (i : Int)) && (boxOk (rd_T47 ys (j : Int)) && tooNear (rd_T47 xs (i : Int)) (rd_T47 ys (j : Int)))) = false := by
      intro j h1 h2
      unfold nearOne at hp
      cases hb : boxOk (rd_T47 xs (i : Int)) with
      | false => rfl
      | true =>
        rw [hb, Bool.true_and] at hp
        rw [Bool.true_and]
        exact anyN_false hp j h1 h2
    exact Ev.cast (inner i hi r' (fun _ => hr)) (findN_none _ _ none)
  · refine Ev.step (fun k => ?_) (Ev.val _)
    simp only [spec_HandNear.l0]
    rw [if_neg (by omega)]
def distW (a b : Int) : Int := if a > b then wrap64 (a - b) else wrap64 (b - a)
theorem impl_distW (a b : Int) : impl_dist.f a b = some (distW a b) := by
  unfold impl_dist.f distW
  split <;> rfl
theorem distW_two (p r : Int) (h1 : 0 ≤ p ∧ p ≤ 15) (h2 : 0 ≤ r ∧ r ≤ 15) : distW p r < 2 ↔ -1 ≤ p - r ∧ p - r ≤ 1 := by
  unfold distW
  by_cases h : p > r
  · rw [if_pos h, w64 (by omega) (by omega)]; omega
  · rw [if_neg h, w64 (by omega) (by omega)]; omega
theorem near_impl (xs ys : List S47) (hx : xs.length ≤ 1048576) (hy : ys.length ≤ 1048576) : Ev (fun k => impl_HandNear.f k xs ys) (near xs ys) := by
  have inner : ∀ (i : Nat), i < xs.length → boxOk (rd_T47 xs (i : Int)) = true → ∀ r', ((∀ j, 0 ≤ j → j < ys.length → (boxOk (rd_T47 ys (j : Int)) && tooNear (rd_T47 xs (i : Int)) (rd_T47 ys (j : Int))) = false) → Ev (fun k => impl_HandNear.l0 k ys xs (xs.length : Int) ((i : Int) + 1)) r') →
      Ev (fun k => impl_HandNear.l0 k ys xs (xs.length : Int) i) (findN (fun j => boxOk (rd_T47 ys (j : Int)) && tooNear (rd_T47 xs (i : Int)) (rd_T47 ys (j : Int))) (fun _ => true) r' ys.length 0) := by
    intro i hi hb r' hr
    refine Ev.step (f := fun k => impl_HandNear.l1 k ys xs (xs.length : Int) i ys (ys.length : Int) 0 (rd_T47 xs (i : Int)).f0 (rd_T47 xs (i : Int)).f1 (rd_T47 xs (i : Int)).f2 (rd_T47 xs (i : Int)).f3 (rd_T47 xs (i : Int)).f4 (rd_T47 xs (i : Int)).f5) (fun k => by
      simp only [impl_HandNear.l0, if_pos (show (i : Int) < (xs.length : Int) by omega), if_pos (show (0 : Int) ≤ i by omega), impl_box, Option.bind_some]
      exact if_pos hb) ?_
    have ha := (boxOk_iff _).1 hb
    generalize rd_T47 xs (i : Int) = a at hr ha ⊢
    have round : ∀ (j : Nat), j < ys.length → ∀ k, impl_HandNear.l1 (k + 1) ys xs (xs.length : Int) i ys (ys.length : Int) j a.f0 a.f1 a.f2 a.f3 a.f4 a.f5 =
        if (boxOk (rd_T47 ys (j : Int)) && tooNear a (rd_T47 ys (j : Int))) = true then some true else impl_HandNear.l1 k ys xs (xs.length : Int) i ys (ys.length : Int) ((j : Int) + 1) a.f0 a.f1 a.f2 a.f3 a.f4 a.f5 := by
      intro j hj k
      simp only [impl_HandNear.l1, if_pos (show (j : Int) < (ys.length : Int) by omega), if_pos (show (0 : Int) ≤ j by omega), impl_box, impl_distW, Option.bind_some]
      rw [w64 (show -9223372036854775808 ≤ (j : Int) + 1 by omega) (by omega)]
      generalize impl_HandNear.l1 k ys xs (xs.length : Int) i ys (ys.length : Int) ((j : Int) + 1) a.f0 a.f1 a.f2 a.f3 a.f4 a.f5 = q
      cases hbj : boxOk (rd_T47 ys (j : Int)) with
      | false => rfl
      | true =>
        have hy := (boxOk_iff _).1 hbj
        have d0 := distW_two a.f0 (rd_T47 ys (j : Int)).f0 ha.1 hy.1
        have d1 := distW_two a.f1 (rd_T47 ys (j : Int)).f1 ha.2.1 hy.2.1
        unfold tooNear
        simp only [Bool.true_and, decide_eq_true_eq, if_true]
        simp only [← d0, ← d1]
        repeat' split
        all_goals first | rfl | (exfalso; omega)
    refine find_loop2 (F := fun k j => impl_HandNear.l1 k ys xs (xs.length : Int) i ys (ys.length : Int) j a.f0 a.f1 a.f2 a.f3 a.f4 a.f5) ys.length _ _ r' ?_ ?_ ys.length 0 (by omega) (fun h => ?_)
    · intro j hj hp
      exact Ev.step (round j hj) (Ev.ite_pos hp (Ev.val _))
    · intro j hj hp r'' hr'
      exact Ev.step (round j hj) (Ev.ite_neg (by simp [hp]) hr')
    · refine Ev.step (fun k => ?_) (hr h)
      simp only [impl_HandNear.l1]
      rw [if_neg (by omega), w64 (by omega) (by omega)]
  refine find_loop (F := fun k i => impl_HandNear.l0 k ys xs (xs.length : Int) i) xs.length (fun i => nearOne (rd_T47 xs (i : Int)) ys) (fun _ => true) false ?_ ?_ ?_ xs.length 0 (by omega)
  · intro i hi hp
    unfold nearOne at hp
    rw [Bool.and_eq_true] at hp
    obtain ⟨j, h1, h2, h3⟩ := (anyN_iff _ _).1 hp.2
    refine Ev.cast (inner i hi hp.1 true (fun h => ?_)) (findN_found _ _ ⟨j, h1, h2, h3⟩)
    rw [h j (by omega) (by omega)] at h3
    cases h3
  · intro i hi hp r' hr
    unfold nearOne at hp
    cases hb : boxOk (rd_T47 xs (i : Int)) with
    | false =>
      refine Ev.step (fun k => ?_) hr
      simp only [impl_HandNear.l0, if_pos (show (i : Int) < (xs.length : Int) by omega), if_pos (show (0 : Int) ≤ i by omega), impl_box, Option.bind_some]
      rw [hb, if_neg (by decide), w64 (by omega) (by omega)]
    | true =>
      rw [hb, Bool.true_and] at hp
      exact Ev.cast (inner i hi hb r' (fun _ => hr)) (findN_none _ _ (fun j h1 h2 => anyN_false hp j h1 h2))
  · refine Ev.step (fun k => ?_) (Ev.val _)
    simp only [impl_HandNear.l0]
    rw [if_neg (by omega)]
theorem xor_small (a b : Nat) (ha : a < 4611686018427387904) (hb : b < 4611686018427387904) : ∃ m : Nat, m < 4611686018427387904 ∧ Go.bits .xor .i64 (a : Int) (b : Int) = (m : Int) := by
  have hx : a ^^^ b < 2 ^ 62 := Nat.xor_lt_two_pow (by omega) (by omega)
  have h1 : (BitVec.ofInt 64 (a : Int)).toNat = a := by
    rw [BitVec.ofInt_natCast, BitVec.toNat_ofNat]; exact Nat.mod_eq_of_lt (by omega)
  have h2 : (BitVec.ofInt 64 (b : Int)).toNat = b := by
    rw [BitVec.ofInt_natCast, BitVec.toNat_ofNat]; exact Nat.mod_eq_of_lt (by omega)
  refine ⟨a ^^^ b, by omega, ?_⟩
  show IntKind.i64.wrap ((BitVec.ofInt 64 (a : Int) ^^^ BitVec.ofInt 64 (b : Int)).toNat : Int) = _
  rw [BitVec.toNat_xor, h1, h2]
  simp only [IntKind.wrap, IntKind.bits, IntKind.signed]
  simp
  omega
theorem byte_range {l : List Int} (hl : ∀ x ∈ l, (Lit.int .u8 x).wf = true) (i : Int) : 0 ≤ rd l i ∧ rd l i ≤ 255 := by
  by_cases h : i.toNat < l.length
  · have e : rd l i = l[i.toNat] := by
      show l.getD i.toNat 0 = _
      rw [List.getD_eq_getElem?_getD, List.getElem?_eq_getElem h]; rfl
    have := hl _ (List.getElem_mem h)
    rw [← e] at this
    simp only [Lit.wf, Bool.and_eq_true, decide_eq_true_eq] at this
    have h3 : IntKind.u8.min = 0 := rfl
    have h4 : IntKind.u8.max = 255 := rfl
    omega
  · have e : rd l i = 0 := by
      show l.getD i.toNat 0 = _
      rw [List.getD_eq_getElem?_getD, List.getElem?_eq_none (by omega)]; rfl
    omega
theorem tmod_range (x n : Int) (hx : 0 ≤ x) (hn : 0 < n) : 0 ≤ Int.tmod x n ∧ Int.tmod x n < n := ⟨Int.tmod_nonneg n hx, Int.tmod_lt_of_pos x hn⟩
theorem tdiv_range (x n : Int) (hx : 0 ≤ x) (hn : 0 < n) : 0 ≤ Int.tdiv x n ∧ Int.tdiv x n ≤ x := by
  rw [Int.tdiv_eq_ediv_of_nonneg hx]
  refine ⟨Int.ediv_nonneg hx (by omega), Int.ediv_le_self n hx⟩
/-- A number from 0 to n - 1, 0 if there is none; the place moves on by one. -/
theorem pick_ev (l : List Int) (hl : ∀ x ∈ l, (Lit.int .u8 x).wf = true) (hlen : l.length ≤ 2000) (p n : Int) (hp : 0 ≤ p) (hp2 : p ≤ 1000000) :
    ∃ v, 0 ≤ v ∧ (1 ≤ n → v < n) ∧ Ev (fun k => spec_l31Rd_pick.f k l p n) (v, p + 1) := by
  unfold spec_l31Rd_pick.f
  by_cases hn : n < 1
  · refine ⟨0, by omega, by omega, ?_⟩
    refine Ev.ite_pos hn (Ev.succ ?_)
    simp only [spec_l31Rd_pick.j0]
    rw [w64 (show -9223372036854775808 ≤ p + 1 by omega) (by omega)]
    exact Ev.ite_pos trivial (Ev.val _)
  simp only [w64 (show -9223372036854775808 ≤ p + 1 by omega) (show p + 1 ≤ 9223372036854775807 by omega), if_neg (show ¬ n < 1 by omega)]
  have hw : ∀ v : Int, -1000000000000 ≤ v → v ≤ 1000000000000 → wrap64 v = v := fun v h1 h2 => w64 (by omega) (by omega)
  by_cases h0 : l.length = 0
  · refine ⟨0, by omega, by omega, ?_⟩
    rw [show ((l.length : Int) == 0) = true from by rw [h0]; rfl]
    refine Ev.succ ?_
    simp only [spec_l31Rd_pick.j0]
    exact Ev.ite_pos trivial (Ev.val _)
  · rw [show ((l.length : Int) == 0) = false from by rw [beq_eq_false_iff_ne]; omega]
    by_cases h1 : p < (l.length : Int)
    · have hb := byte_range hl p
      have ht := tmod_range (rd l p) n hb.1 (by omega)
      refine ⟨Int.tmod (rd l p) n, ht.1, fun _ => ht.2, ?_⟩
      refine Ev.succ ?_
      simp only [spec_l31Rd_pick.j0]
      rw [hw (p + 1 - 1) (by omega) (by omega), show p + 1 - 1 = p by omega, hw (rd l p) (by omega) (by omega)]
      exact Ev.ite_neg (by decide) (Ev.ite_pos h1 (Ev.ite_pos hp (Ev.ite_neg (by omega) (Ev.val _))))
    · have t1 := tmod_range p (l.length : Int) hp (by omega)
      have t2 := tmod_range (p * 7 + 3) (l.length : Int) (by omega) (by omega)
      have t3 := tdiv_range p (l.length : Int) hp (by omega)
      have b1 := byte_range hl (Int.tmod p (l.length : Int))
      have b2 := byte_range hl (Int.tmod (p * 7 + 3) (l.length : Int))
      obtain ⟨X, hX⟩ : ∃ X : Int, X = rd l (Int.tmod p (l.length : Int)) * 131 + rd l (Int.tmod (p * 7 + 3) (l.length : Int)) * 1117 + p * 29 + Int.tdiv p (l.length : Int) * 53 := ⟨_, rfl⟩
      have hX0 : 0 ≤ X ∧ X ≤ 1000000000 := by omega
      have d1 := tdiv_range X 64 hX0.1 (by omega)
      obtain ⟨m, hm, hme⟩ := xor_small X.toNat (Int.tdiv X 64).toNat (by omega) (by omega)
      rw [show ((X.toNat : Nat) : Int) = X by omega, show (((Int.tdiv X 64).toNat : Nat) : Int) = Int.tdiv X 64 by omega] at hme
      have ht := tmod_range (m : Int) n (by omega) (by omega)
      refine ⟨Int.tmod (m : Int) n, ht.1, fun _ => ht.2, ?_⟩
      refine Ev.succ ?_
      simp only [spec_l31Rd_pick.j0]
      rw [hw (p + 1 - 1) (by omega) (by omega), show p + 1 - 1 = p by omega, hw (p * 7) (by omega) (by omega), hw (p * 7 + 3) (by omega) (by omega), hw (Int.tdiv p (l.length : Int)) (by omega) (by omega), hw (p * 29) (by omega) (by omega), hw (Int.tdiv p (l.length : Int) * 53) (by omega) (by omega), hw (rd l (Int.tmod p (l.length : Int))) (by omega) (by omega), hw (rd l (Int.tmod (p * 7 + 3) (l.length : Int))) (by omega) (by omega), hw (rd l (Int.tmod p (l.length : Int)) * 131) (by omega) (by omega), hw (rd l (Int.tmod (p * 7 + 3) (l.length : Int)) * 1117) (by omega) (by omega), hw (rd l (Int.tmod p (l.length : Int)) * 131 + rd l (Int.tmod (p * 7 + 3) (l.length : Int)) * 1117) (by omega) (by omega), hw (rd l (Int.tmod p (l.length : Int)) * 131 + rd l (Int.tmod (p * 7 + 3) (l.length : Int)) * 1117 + p * 29) (by omega) (by omega), ← hX, hw X (by omega) (by omega), hw (Int.tdiv X 64) (by omega) (by omega), hme]
      exact Ev.ite_neg (by decide) (Ev.ite_neg h1 (Ev.ite_neg (by omega) (Ev.ite_pos t1.1 (Ev.ite_pos t1.2 (Ev.ite_pos t2.1 (Ev.ite_pos t2.2 (Ev.ite_neg (by omega) (Ev.val _))))))))
theorem open_ev (l : List Int) (hl : ∀ x ∈ l, (Lit.int .u8 x).wf = true) : ∃ l', (∀ x ∈ l', (Lit.int .u8 x).wf = true) ∧ l'.length ≤ 2000 ∧ spec_l31Open.f l = some (l', 0) := by
  unfold spec_l31Open.f
  by_cases h : (l.length : Int) > 2000
  · exact ⟨l.take 2000, fun x hx => hl x (List.mem_of_mem_take hx), by rw [List.length_take]; omega, by rw [if_pos h, if_pos (by omega)]⟩
  · exact ⟨l, hl, by omega, by rw [if_neg h]⟩
/-! #### what is drawn is drawn -/
def smallNames (zs : List S34) : Prop := ∀ z ∈ zs, z.f0.size ≤ 100
theorem small_at {zs : List S34} (h : smallNames zs) (i : Nat) (hi : i < zs.length) : (rd_T34 zs (i : Int)).f0.size ≤ 9223372036854775807 := by
  have e : rd_T34 zs (i : Int) = zs[i] := by
    show zs.getD ((i : Int)).toNat _ = zs[i]
    rw [Int.toNat_natCast, List.getD_eq_getElem?_getD, List.getElem?_eq_getElem hi]; rfl
  rw [e]
  have := h _ (List.getElem_mem hi)
  omega
theorem small_rd {zs : List S34} (h : smallNames zs) (i : Int) (h0 : 0 ≤ i) (hi : i < (zs.length : Int)) : (rd_T34 zs i).f0.size ≤ 100 := by
  have hi' : i.toNat < zs.length := by omega
  have e : rd_T34 zs i = zs[i.toNat] := by
    show zs.getD i.toNat _ = _
    rw [List.getD_eq_getElem?_getD, List.getElem?_eq_getElem hi']; rfl
  rw [e]
  exact h _ (List.getElem_mem hi')
theorem small_set {zs : List S34} (h : smallNames zs) (i : Nat) (z : S34) (hz : z.f0.size ≤ 100) : smallNames (zs.set i z) := by
  intro y hy
  rcases List.mem_or_eq_of_mem_set hy with h1 | h1
  · exact h y h1
  · rw [h1]; exact hz
theorem small_snoc {zs : List S34} (h : smallNames zs) (z : S34) (hz : z.f0.size ≤ 100) : smallNames (zs ++ [z]) := by
  intro y hy
  rcases List.mem_append.1 hy with h1 | h1
  · exact h y h1
  · rw [List.mem_singleton.1 h1]; exact hz
section
variable (l : List Int) (hl : ∀ x ∈ l, (Lit.int .u8 x).wf = true) (hlen : l.length ≤ 2000)
include hl hlen
theorem zones_ev (p : Int) (hp : 0 ≤ p) (hp2 : p ≤ 900000) : ∃ zs p', p ≤ p' ∧ p' ≤ p + 2 ∧ smallNames zs ∧ 1 ≤ zs.length ∧ zs.length ≤ 4 ∧ Ev (fun k => spec_l37Zones.f k l p) (zs, p') := by
  unfold spec_l37Zones.f
  obtain ⟨v1, _, _, h1⟩ := pick_ev l hl hlen p 4 hp (by omega)
  obtain ⟨v2, _, _, h2⟩ := pick_ev l hl hlen (p + 1) 2 (by omega) (by omega)
  by_cases c0 : v1 = 0
  · exact ⟨_, _, by omega, by omega, by intro z hz; simp only [List.mem_cons, List.not_mem_nil, or_false] at hz; rcases hz with rfl | rfl <;> exact Nat.le_of_ble_eq_true rfl, by simp, by simp, Ev.bind h1 (Ev.ite_pos c0 (Ev.val _))⟩
  by_cases c1 : v1 = 1
  · exact ⟨_, _, by omega, by omega, by intro z hz; simp only [List.mem_cons, List.not_mem_nil, or_false] at hz; rcases hz with rfl | rfl | rfl | rfl <;> exact Nat.le_of_ble_eq_true rfl, by simp, by simp, Ev.bind h1 (Ev.ite_neg c0 (Ev.ite_pos c1 (Ev.val _)))⟩
  by_cases c2 : v1 = 2
  · exact ⟨_, _, by omega, by omega, by intro z hz; simp only [List.mem_cons, List.not_mem_nil, or_false] at hz; rcases hz with rfl | rfl | rfl <;> exact Nat.le_of_ble_eq_true rfl, by simp, by simp, Ev.bind h1 (Ev.ite_neg c0 (Ev.ite_neg c1 (Ev.ite_pos c2 (Ev.val _))))⟩
  · exact ⟨_, _, by omega, by omega, by intro z hz; simp only [List.mem_cons, List.not_mem_nil, or_false] at hz; rcases hz with rfl | rfl | rfl <;> exact Nat.le_of_ble_eq_true rfl, by simp, by simp, Ev.bind h1 (Ev.ite_neg c0 (Ev.ite_neg c1 (Ev.ite_neg c2 (Ev.bind h2 (Ev.val _)))))⟩
theorem box_ev (zs : List S34) (hz : 1 ≤ zs.length) (p : Int) (hp : 0 ≤ p) (hp2 : p ≤ 900000) : ∃ b0 b1 b2 b3 b4 b5 p', p ≤ p' ∧ p' ≤ p + 7 ∧ Ev (fun k => spec_l37Box.f k l p zs) (b0, b1, b2, b3, b4, b5, p') := by
  unfold spec_l37Box.f
  obtain ⟨v1, a1, c1, h1⟩ := pick_ev l hl hlen p (zs.length : Int) hp (by omega)
  obtain ⟨v2, _, _, h2⟩ := pick_ev l hl hlen (p + 1) (wrap64 ((wrap64 (((rd_T34 zs v1).f3) - ((rd_T34 zs v1).f1))) + 1)) (by omega) (by omega)
  obtain ⟨v3, _, _, h3⟩ := pick_ev l hl hlen (p + 1 + 1) (wrap64 ((wrap64 (((rd_T34 zs v1).f4) - ((rd_T34 zs v1).f2))) + 1)) (by omega) (by omega)
  obtain ⟨v4, _, _, h4⟩ := pick_ev l hl hlen (p + 1 + 1 + 1) 2 (by omega) (by omega)
  obtain ⟨v5, _, _, h5⟩ := pick_ev l hl hlen (p + 1 + 1 + 1 + 1) 20 (by omega) (by omega)
  obtain ⟨v6, _, _, h6⟩ := pick_ev l hl hlen (p + 1 + 1 + 1 + 1 + 1) 2 (by omega) (by omega)
  obtain ⟨v7, _, _, h7⟩ := pick_ev l hl hlen (p + 1 + 1 + 1 + 1 + 1 + 1) 8 (by omega) (by omega)
  exact ⟨_, _, _, _, _, _, p + 1 + 1 + 1 + 1 + 1 + 1 + 1, by omega, by omega, Ev.bind h1 (Ev.ite_pos a1 (Ev.ite_pos (c1 (by omega)) (Ev.bind h2 (Ev.bind h3 (Ev.bind h4 (Ev.bind h5 (Ev.bind h6 (Ev.bind h7 (Ev.val _)))))))))⟩
theorem tube_loop_ev (zs : List S34) (hz : 1 ≤ zs.length) (hs : smallNames zs) : ∀ (d : Nat) (bs : List S47) (p b0 b1 b2 b3 b4 b5 : Int), 0 ≤ p → p + 10 * (d : Int) ≤ 800000 → bs.length + d ≤ 1000 →
    ∃ r p', p ≤ p' ∧ p' ≤ p + 10 * (d : Int) ∧ r.length = bs.length + d ∧ Ev (fun k => spec_l37Tube.l0 k zs bs (d : Int) l p b0 b1 b2 b3 b4 b5) (r, p') := by
  intro d
  induction d with
  | zero =>
    intro bs p b0 b1 b2 b3 b4 b5 hp hp2 hb
    refine ⟨bs, p, by omega, by omega, by omega, Ev.succ ?_⟩
    simp only [spec_l37Tube.l0]
    exact Ev.ite_neg (by omega) (Ev.val _)
  | succ d ih =>
    intro bs p b0 b1 b2 b3 b4 b5 hp hp2 hb
    obtain ⟨v1, _, _, h1⟩ := pick_ev l hl hlen p 2 hp (by omega)
    obtain ⟨v2, _, _, h2⟩ := pick_ev l hl hlen (p + 1) 8 (by omega) (by omega)
    obtain ⟨x0, x1, x2, x3, x4, x5, p1, hp1, hp1', hx⟩ := box_ev l hl hlen zs hz (p + 1) (by omega) (by omega)
    obtain ⟨y0, y1, y2, y3, y4, y5, p2, hp2a, hp2b, hy⟩ := box_ev l hl hlen zs hz (p + 1 + 1) (by omega) (by omega)
    have ht := tube_spec zs [(⟨wrap64 (b0 + 1), b1, b2, b3, wrap64 ((wrap64 (b4 + 1)) + v1), wrap64 (b5 + 2)⟩ : S47)] (small_at hs)
    have en : (bs ++ [(⟨b0, b1, b2, b3, b4, b5⟩ : S47)]).length = bs.length + 1 := by simp
    have ew : wrap64 (((d + 1 : Nat) : Int) - 1) = (d : Int) := by rw [w64 (by omega) (by omega)]; omega
    by_cases hok : tubeOf zs [(⟨wrap64 (b0 + 1), b1, b2, b3, wrap64 ((wrap64 (b4 + 1)) + v1), wrap64 (b5 + 2)⟩ : S47)] = true
    · by_cases hv : v2 = 0
      · obtain ⟨r, p', q1, q2, q3, hr⟩ := ih (bs ++ [(⟨b0, b1, b2, b3, b4, b5⟩ : S47)]) p2 y0 y1 y2 y3 y4 y5 (by omega) (by omega) (by omega)
        refine ⟨r, p', by omega, by omega, by omega, Ev.succ ?_⟩
        simp only [spec_l37Tube.l0, Option.bind_some, ew]
        exact Ev.ite_pos (by omega) (Ev.ite_pos (by omega) (Ev.bind h1 (Ev.bind ht (Ev.ite_pos hok (Ev.bind h2 (Ev.ite_pos hv (Ev.bind hy hr)))))))
      · obtain ⟨r, p', q1, q2, q3, hr⟩ := ih (bs ++ [(⟨b0, b1, b2, b3, b4, b5⟩ : S47)]) (p + 1 + 1) (wrap64 (b0 + 1)) b1 b2 b3 (wrap64 ((wrap64 (b4 + 1)) + v1)) (wrap64 (b5 + 2)) (by omega) (by omega) (by omega)
        refine ⟨r, p', by omega, by omega, by omega, Ev.succ ?_⟩
        simp only [spec_l37Tube.l0, Option.bind_some, ew]
        exact Ev.ite_pos (by omega) (Ev.ite_pos (by omega) (Ev.bind h1 (Ev.bind ht (Ev.ite_pos hok (Ev.bind h2 (Ev.ite_neg hv hr))))))
    · obtain ⟨r, p', q1, q2, q3, hr⟩ := ih (bs ++ [(⟨b0, b1, b2, b3, b4, b5⟩ : S47)]) p1 x0 x1 x2 x3 x4 x5 (by omega) (by omega) (by omega)
      refine ⟨r, p', by omega, by omega, by omega, Ev.succ ?_⟩
      simp only [spec_l37Tube.l0, Option.bind_some, ew]
      exact Ev.ite_pos (by omega) (Ev.ite_pos (by omega) (Ev.bind h1 (Ev.bind ht (Ev.ite_neg hok (Ev.bind hx hr)))))
theorem draw_tube_ev (zs : List S34) (hz : 1 ≤ zs.length) (hs : smallNames zs) (p : Int) (hp : 0 ≤ p) (hp2 : p ≤ 100000) : ∃ r p', p ≤ p' ∧ p' ≤ p + 100 ∧ 1 ≤ r.length ∧ r.length ≤ 6 ∧ Ev (fun k => spec_l37Tube.f k l p zs) (r, p') := by
  unfold spec_l37Tube.f
  obtain ⟨x0, x1, x2, x3, x4, x5, p1, hp1, hp1', hx⟩ := box_ev l hl hlen zs hz p hp (by omega)
  obtain ⟨v, hv0, hv1, h1⟩ := pick_ev l hl hlen p1 6 (by omega) (by omega)
  have hv := hv1 (by omega)
  obtain ⟨d, hd⟩ : ∃ d : Nat, (d : Int) = 1 + v := ⟨(1 + v).toNat, by omega⟩
  obtain ⟨r, p', q1, q2, q3, hr⟩ := tube_loop_ev l hl hlen zs hz hs d [] (p1 + 1) x0 x1 x2 x3 x4 x5 (by omega) (by omega) (by simp only [List.length_nil]; omega)
  refine ⟨r, p', by omega, by omega, by simp only [List.length_nil] at q3; omega, by simp only [List.length_nil] at q3; omega, Ev.bind hx (Ev.bind h1 ?_)⟩
  show Ev (fun k => spec_l37Tube.l0 k zs [] (wrap64 (1 + v)) l (p1 + 1) x0 x1 x2 x3 x4 x5) (r, p')
  rw [w64 (show -9223372036854775808 ≤ 1 + v by omega) (by omega), ← hd]
  exact hr
theorem spoil_loop_ev (i : Int) (hi : 0 ≤ i) : ∀ (d : Nat) (bs : List S47) (p : Int), i < (bs.length : Int) → 0 ≤ p → p + (d : Int) ≤ 800000 → bs.length + d = 21 → ∃ r p', p ≤ p' ∧ p' ≤ p + (d : Int) + 1 ∧ r.length ≤ 21 ∧ Ev (fun k => spec_l37SpoilTube.l0 k bs i l p) (r, p') := by
  intro d
  induction d with
  | zero =>
    intro bs p hb hp hp2 hd
    obtain ⟨v, _, c1, h1⟩ := pick_ev l hl hlen p 2 hp (by omega)
    have := c1 (by omega)
    refine ⟨bs, p + 1, by omega, by omega, by omega, Ev.succ ?_⟩
    simp only [spec_l37SpoilTube.l0]
    refine Ev.bind h1 (Ev.ite_neg ?_ (Ev.val _))
    show ¬ (bs.length : Int) < wrap64 (20 + v)
    rw [w64 (by omega) (by omega)]; omega
  | succ d ih =>
    intro bs p hb hp hp2 hd
    obtain ⟨v, v0, c1, h1⟩ := pick_ev l hl hlen p 2 hp (by omega)
    have := c1 (by omega)
    by_cases hc : (bs.length : Int) < 20 + v
    · obtain ⟨r, p', q1, q2, q3, hr⟩ := ih (bs ++ [(⟨(rd_T47 bs i).f0, (rd_T47 bs i).f1, (rd_T47 bs i).f2, (rd_T47 bs i).f3, (rd_T47 bs i).f4, (rd_T47 bs i).f5⟩ : S47)]) (p + 1) (by simp only [List.length_append, List.length_cons, List.length_nil]; omega) (by omega) (by omega) (by simp only [List.length_append, List.length_cons, List.length_nil]; omega)
      refine ⟨r, p', by omega, by omega, q3, Ev.succ ?_⟩
      simp only [spec_l37SpoilTube.l0]
      refine Ev.bind h1 (Ev.ite_pos ?_ (Ev.ite_pos hi (Ev.ite_pos hb (Ev.ite_pos (by omega) hr))))
      show (bs.length : Int) < wrap64 (20 + v)
      rw [w64 (by omega) (by omega)]; exact hc
    · refine ⟨bs, p + 1, by omega, by omega, by omega, Ev.succ ?_⟩
      simp only [spec_l37SpoilTube.l0]
      refine Ev.bind h1 (Ev.ite_neg ?_ (Ev.val _))
      show ¬ (bs.length : Int) < wrap64 (20 + v)
      rw [w64 (by omega) (by omega)]; exact hc
theorem spoil_tube_ev (bs : List S47) (hb1 : 1 ≤ bs.length) (hb2 : bs.length ≤ 21) (p : Int) (hp : 0 ≤ p) (hp2 : p ≤ 100000) : ∃ r p', p ≤ p' ∧ p' ≤ p + 100 ∧ r.length ≤ 21 ∧ Ev (fun k => spec_l37SpoilTube.f k l p bs) (r, p') := by
  unfold spec_l37SpoilTube.f spec_l31Tube.f
  have e0 : ([] : List S47) ++ bs = bs := List.nil_append bs
  simp only [Option.bind_some, e0]
  rw [if_pos (show ([] : List S47).length + bs.length < 2932031007402 by simp only [List.length_nil]; omega)]
  simp only [Option.bind_some]
  simp only [if_neg (show ¬ (bs.length : Int) = 0 by omega)]
  obtain ⟨i, i0, i1, h1⟩ := pick_ev l hl hlen p (bs.length : Int) hp (by omega)
  have hi := i1 (by omega)
  obtain ⟨v, _, _, h2⟩ := pick_ev l hl hlen (p + 1) 6 (by omega) (by omega)
  obtain ⟨j3, j30, j31, h3⟩ := pick_ev l hl hlen (p + 1 + 1) 3 (by omega) (by omega)
  obtain ⟨j2, j20, j21, h4⟩ := pick_ev l hl hlen (p + 1 + 1) 2 (by omega) (by omega)
  have j31 := j31 (by omega)
  have j21 := j21 (by omega)
  have hset : ∀ (n : Nat) (b : S47), (bs.set n b).length ≤ 21 := fun n b => by rw [List.length_set]; exact hb2
  by_cases c0 : v = 0
  · exact ⟨_, p + 1 + 1 + 1, by omega, by omega, hset _ _, Ev.bind h1 (Ev.bind h2 (Ev.ite_pos c0 (Ev.bind h3 (Ev.ite_pos j30 (Ev.ite_pos (by simp only [List.length_cons, List.length_nil]; omega) (Ev.ite_pos i0 (Ev.ite_pos hi (Ev.val _))))))))⟩
  by_cases c1 : v = 1
  · exact ⟨_, p + 1 + 1 + 1, by omega, by omega, hset _ _, Ev.bind h1 (Ev.bind h2 (Ev.ite_neg c0 (Ev.ite_pos c1 (Ev.ite_pos i0 (Ev.ite_pos hi (Ev.bind h4 (Ev.ite_pos j20 (Ev.ite_pos (by simp only [List.length_cons, List.length_nil]; omega) (Ev.val _)))))))))⟩
  by_cases c2 : v = 2
  · exact ⟨_, p + 1 + 1 + 1, by omega, by omega, hset _ _, Ev.bind h1 (Ev.bind h2 (Ev.ite_neg c0 (Ev.ite_neg c1 (Ev.ite_pos c2 (Ev.bind h4 (Ev.ite_pos i0 (Ev.ite_pos hi (Ev.val _))))))))⟩
  by_cases c3 : v = 3
  · exact ⟨_, p + 1 + 1 + 1, by omega, by omega, hset _ _, Ev.bind h1 (Ev.bind h2 (Ev.ite_neg c0 (Ev.ite_neg c1 (Ev.ite_neg c2 (Ev.ite_pos c3 (Ev.ite_pos i0 (Ev.ite_pos hi (Ev.bind h3 (Ev.ite_pos j30 (Ev.ite_pos (by simp only [List.length_cons, List.length_nil]; omega) (Ev.val _)))))))))))⟩
  by_cases c4 : v = 4
  · obtain ⟨r, p', q1, q2, q3, hr⟩ := spoil_loop_ev l hl hlen i i0 (21 - bs.length) bs (p + 1 + 1) hi (by omega) (by omega) (by omega)
    exact ⟨r, p', by omega, by omega, q3, Ev.bind h1 (Ev.bind h2 (Ev.ite_neg c0 (Ev.ite_neg c1 (Ev.ite_neg c2 (Ev.ite_neg c3 (Ev.ite_pos c4 hr))))))⟩
  · exact ⟨[], p + 1 + 1, by omega, by omega, by simp, Ev.bind h1 (Ev.bind h2 (Ev.ite_neg c0 (Ev.ite_neg c1 (Ev.ite_neg c2 (Ev.ite_neg c3 (Ev.ite_neg c4 (Ev.val _)))))))⟩
theorem zspoil_loop_ev : ∀ (d : Nat) (zs : List S34) (p : Int), smallNames zs → 0 ≤ p → p + (d : Int) ≤ 800000 → zs.length + d = 5 → ∃ r p', p ≤ p' ∧ p' ≤ p + (d : Int) + 1 ∧ r.length ≤ 5 ∧ smallNames r ∧ Ev (fun k => spec_l37SpoilZones.l0 k zs l p) (r, p') := by
  intro d
  induction d with
  | zero =>
    intro zs p hs hp hp2 hd
    obtain ⟨v, _, c1, h1⟩ := pick_ev l hl hlen p 2 hp (by omega)
    have := c1 (by omega)
    refine ⟨zs, p + 1, by omega, by omega, by omega, hs, Ev.succ ?_⟩
    simp only [spec_l37SpoilZones.l0]
    refine Ev.bind h1 (Ev.ite_neg ?_ (Ev.val _))
    show ¬ (zs.length : Int) < wrap64 (4 + v)
    rw [w64 (by omega) (by omega)]; omega
  | succ d ih =>
    intro zs p hs hp hp2 hd
    obtain ⟨v, v0, c1, h1⟩ := pick_ev l hl hlen p 2 hp (by omega)
    have := c1 (by omega)
    by_cases hc : (zs.length : Int) < 4 + v
    · have hn : ((⟨#[122]⟩ : ByteArray) ++ (strOfNums [(wrap64 (97 + (zs.length : Int))) % 256])).size ≤ 100 := by
        rw [ByteArray.size_append, strOfNums_size]
        show 1 + 1 ≤ 100
        omega
      obtain ⟨r, p', q1, q2, q3, q4, hr⟩ := ih (zs ++ [(⟨(⟨#[122]⟩ : ByteArray) ++ (strOfNums [(wrap64 (97 + (zs.length : Int))) % 256]), wrap64 (10 + (zs.length : Int)), 12, wrap64 (10 + (zs.length : Int)), 12⟩ : S34)]) (p + 1) (small_snoc hs _ hn) (by omega) (by omega) (by simp only [List.length_append, List.length_cons, List.length_nil]; omega)
      refine ⟨r, p', by omega, by omega, q3, q4, Ev.succ ?_⟩
      simp only [spec_l37SpoilZones.l0, Option.bind_some]
      refine Ev.bind h1 (Ev.ite_pos ?_ (Ev.ite_pos ?_ (Ev.ite_pos (by omega) hr)))
      · show (zs.length : Int) < wrap64 (4 + v)
        rw [w64 (by omega) (by omega)]; exact hc
      · rw [strOfNums_size]
        simp only [List.length_cons, List.length_nil]
        omega
    · refine ⟨zs, p + 1, by omega, by omega, by omega, hs, Ev.succ ?_⟩
      simp only [spec_l37SpoilZones.l0]
      refine Ev.bind h1 (Ev.ite_neg ?_ (Ev.val _))
      show ¬ (zs.length : Int) < wrap64 (4 + v)
      rw [w64 (by omega) (by omega)]; exact hc
theorem of_ev (ss : List ByteArray) (h : 1 ≤ ss.length) (p : Int) (hp : 0 ≤ p) (hp2 : p ≤ 100000) : ∃ v : Nat, v < ss.length ∧ Ev (fun k => spec_l31Rd_of.f k l p ss) (rdOf ByteArray.empty ss (v : Int), p + 1) := by
  unfold spec_l31Rd_of.f
  obtain ⟨v, v0, v1, h1⟩ := pick_ev l hl hlen p (ss.length : Int) hp (by omega)
  have hv := v1 (by omega)
  obtain ⟨m, rfl⟩ : ∃ m : Nat, v = (m : Int) := ⟨v.toNat, by omega⟩
  exact ⟨m, by omega, Ev.bind h1 (Ev.ite_pos v0 (Ev.ite_pos hv (Ev.val _)))⟩
theorem spoil_zones_ev (zs : List S34) (hs : smallNames zs) (hz1 : 1 ≤ zs.length) (hz2 : zs.length ≤ 4) (p : Int) (hp : 0 ≤ p) (hp2 : p ≤ 10000) : ∃ r p', smallNames r ∧ r.length ≤ 5 ∧ Ev (fun k => spec_l37SpoilZones.f k l p zs) (r, p') := by
  unfold spec_l37SpoilZones.f
  have e0 : ([] : List S34) ++ zs = zs := List.nil_append zs
  simp only [Option.bind_some, e0]
  simp only [if_pos (show ([] : List S34).length + zs.length < 2932031007402 by simp only [List.length_nil]; omega)]
  obtain ⟨i, i0, i1, h1⟩ := pick_ev l hl hlen p (zs.length : Int) hp (by omega)
  have hi := i1 (by omega)
  obtain ⟨v, _, _, h2⟩ := pick_ev l hl hlen (p + 1) 6 (by omega) (by omega)
  obtain ⟨j3, j30, j31, h3⟩ := pick_ev l hl hlen (p + 1 + 1) 3 (by omega) (by omega)
  have j31 := j31 (by omega)
  have hn := small_rd hs i i0 hi
  have hlen5 : ∀ (n : Nat) (z : S34), (zs.set n z).length ≤ 5 := fun n z => by rw [List.length_set]; omega
  by_cases c0 : v = 0
  · obtain ⟨m, hm, h5⟩ := of_ev l hl hlen ([(⟨#[]⟩ : ByteArray), (⟨#[90]⟩ : ByteArray), (⟨#[97]⟩ : ByteArray), (⟨#[122, 122]⟩ : ByteArray)] : List ByteArray) (by simp) (p + 1 + 1) (by omega) (by omega)
    refine ⟨_, _, small_set hs i.toNat ⟨rdOf ByteArray.empty ([(⟨#[]⟩ : ByteArray), (⟨#[90]⟩ : ByteArray), (⟨#[97]⟩ : ByteArray), (⟨#[122, 122]⟩ : ByteArray)] : List ByteArray) (m : Int), (rd_T34 zs i).f1, (rd_T34 zs i).f2, (rd_T34 zs i).f3, (rd_T34 zs i).f4⟩ ?_, hlen5 _ _, Ev.bind h1 (Ev.bind h2 (Ev.ite_pos c0 (Ev.bind h5 (Ev.ite_pos i0 (Ev.ite_pos hi (Ev.val _))))))⟩
    have hm4 : m < 4 := hm
    have hc : m = 0 ∨ m = 1 ∨ m = 2 ∨ m = 3 := by omega
    rcases hc with rfl | rfl | rfl | rfl <;> exact Nat.le_of_ble_eq_true rfl
  by_cases c1 : v = 1
  · exact ⟨_, _, small_set hs i.toNat ⟨(rd_T34 zs i).f0, (rd_T34 zs i).f1, (rd_T34 zs i).f2, rd ([(-1), 16, wrap64 (((rd_T34 zs i).f3) + 1)] : List Int) j3, (rd_T34 zs i).f4⟩ hn, hlen5 _ _, Ev.bind h1 (Ev.bind h2 (Ev.ite_neg c0 (Ev.ite_pos c1 (Ev.ite_pos i0 (Ev.ite_pos hi (Ev.bind h3 (Ev.ite_pos j30 (Ev.ite_pos (by simp only [List.length_cons, List.length_nil]; omega) (Ev.val _)))))))))⟩
  by_cases c2 : v = 2
  · exact ⟨_, _, small_set hs i.toNat ⟨(rd_T34 zs i).f0, (rd_T34 zs i).f1, rd ([(-1), (rd_T34 zs i).f4, wrap64 (((rd_T34 zs i).f4) + 1)] : List Int) j3, (rd_T34 zs i).f3, (rd_T34 zs i).f4⟩ hn, hlen5 _ _, Ev.bind h1 (Ev.bind h2 (Ev.ite_neg c0 (Ev.ite_neg c1 (Ev.ite_pos c2 (Ev.ite_pos i0 (Ev.ite_pos hi (Ev.bind h3 (Ev.ite_pos j30 (Ev.ite_pos (by simp only [List.length_cons, List.length_nil]; omega) (Ev.val _))))))))))⟩
  by_cases c3 : v = 3
  · exact ⟨[], _, (fun z hz => by cases hz), by simp, Ev.bind h1 (Ev.bind h2 (Ev.ite_neg c0 (Ev.ite_neg c1 (Ev.ite_neg c2 (Ev.ite_pos c3 (Ev.val _))))))⟩
  by_cases c4 : v = 4
  · obtain ⟨r, p', q1, q2, q3, q4, hr⟩ := zspoil_loop_ev l hl hlen (5 - zs.length) zs (p + 1 + 1) hs (by omega) (by omega) (by omega)
    exact ⟨r, p', q4, q3, Ev.bind h1 (Ev.bind h2 (Ev.ite_neg c0 (Ev.ite_neg c1 (Ev.ite_neg c2 (Ev.ite_neg c3 (Ev.ite_pos c4 hr))))))⟩
  · exact ⟨_, _, small_snoc hs ⟨(rd_T34 zs i).f0, (rd_T34 zs i).f1, (rd_T34 zs i).f2, (rd_T34 zs i).f3, (rd_T34 zs i).f4⟩ hn, by simp only [List.length_append, List.length_cons, List.length_nil]; omega, Ev.bind h1 (Ev.bind h2 (Ev.ite_neg c0 (Ev.ite_neg c1 (Ev.ite_neg c2 (Ev.ite_neg c3 (Ev.ite_neg c4 (Ev.ite_pos i0 (Ev.ite_pos hi (Ev.ite_pos (by omega) (Ev.val _))))))))))⟩
end
theorem draw_ev (l0 : List Int) (hl0 : ∀ x ∈ l0, (Lit.int .u8 x).wf = true) : ∃ zs bs, smallNames zs ∧ zs.length ≤ 5 ∧ bs.length ≤ 21 ∧ Ev (fun k => spec_DrawHandTubeOk.f k l0) (zs, bs) := by
  unfold spec_DrawHandTubeOk.f
  obtain ⟨l, hl, hlen, ho⟩ := open_ev l0 hl0
  rw [ho]
  simp only [Option.bind_some]
  obtain ⟨zs, p1, a1, a2, hs, hz1, hz2, h1⟩ := zones_ev l hl hlen 0 (by omega) (by omega)
  obtain ⟨bs, p2, a3, a4, hb1, hb2, h2⟩ := draw_tube_ev l hl hlen zs hz1 hs p1 (by omega) (by omega)
  obtain ⟨v, _, _, h3⟩ := pick_ev l hl hlen p2 2 (by omega) (by omega)
  have last : ∀ (xs : List S47) (p : Int), xs.length ≤ 21 → 0 ≤ p → p ≤ 1000 → ∃ zs' bs', smallNames zs' ∧ zs'.length ≤ 5 ∧ bs'.length ≤ 21 ∧ Ev (fun k => spec_DrawHandTubeOk.j0 k zs xs l p) (zs', bs') := by
    intro xs p hx hp hp2
    obtain ⟨u, _, _, h5⟩ := pick_ev l hl hlen p 16 hp (by omega)
    obtain ⟨r, p', q1, q2, h6⟩ := spoil_zones_ev l hl hlen zs hs hz1 hz2 (p + 1) (by omega) (by omega)
    by_cases hu : u = 0
    · refine ⟨r, xs, q1, q2, hx, Ev.succ ?_⟩
      simp only [spec_DrawHandTubeOk.j0]
      exact Ev.bind h5 (Ev.ite_pos hu (Ev.bind h6 (Ev.val _)))
    · refine ⟨zs, xs, hs, by omega, hx, Ev.succ ?_⟩
      simp only [spec_DrawHandTubeOk.j0]
      exact Ev.bind h5 (Ev.ite_neg hu (Ev.val _))
  by_cases hv : v = 0
  · obtain ⟨r, p4, a5, a6, hr, h4⟩ := spoil_tube_ev l hl hlen bs hb1 (by omega) (p2 + 1) (by omega) (by omega)
    obtain ⟨zs', bs', q1, q2, q3, h5⟩ := last r p4 hr (by omega) (by omega)
    exact ⟨zs', bs', q1, q2, q3, Ev.bind h1 (Ev.bind h2 (Ev.bind h3 (Ev.ite_pos hv (Ev.bind h4 h5))))⟩
  · obtain ⟨zs', bs', q1, q2, q3, h5⟩ := last bs (p2 + 1) (by omega) (by omega) (by omega)
    exact ⟨zs', bs', q1, q2, q3, Ev.bind h1 (Ev.bind h2 (Ev.bind h3 (Ev.ite_neg hv h5)))⟩
/-! #### the law: near are they whose parts of one zone are near -/
theorem bless_irrefl : ∀ a : List UInt8, Op.bytesLess a a = false
  | [] => rfl
  | c :: a => by
    rw [Op.bytesLess, bless_irrefl a]
    simp
theorem bless_trans : ∀ a b c : List UInt8, Op.bytesLess a b = true → Op.bytesLess b c = true → Op.bytesLess a c = true
  | a, [], c, h, _ => by cases a <;> simp [Op.bytesLess] at h
  | a, b :: y, [], _, h => by simp [Op.bytesLess] at h
  | [], b :: y, c :: z, _, _ => rfl
  | a :: x, b :: y, c :: z, h1, h2 => by
    simp only [Op.bytesLess, Bool.or_eq_true, Bool.and_eq_true, decide_eq_true_eq, beq_iff_eq] at h1 h2 ⊢
    rcases h1 with h1 | ⟨rfl, h1⟩
    · rcases h2 with h2 | ⟨rfl, h2⟩
      · exact Or.inl (UInt8.lt_trans h1 h2)
      · exact Or.inl h1
    · rcases h2 with h2 | ⟨rfl, h2⟩
      · exact Or.inl h2
      · exact Or.inr ⟨rfl, bless_trans x y z h1 h2⟩
theorem rdB_at (xs : List S47) (i : Nat) (hi : i < xs.length) : rd_T47 xs (i : Int) = xs[i] := by
  show xs.getD ((i : Int)).toNat _ = xs[i]
  rw [Int.toNat_natCast, List.getD_eq_getElem?_getD, List.getElem?_eq_getElem hi]; rfl
theorem rdZ_at (xs : List S34) (i : Nat) (hi : i < xs.length) : rd_T34 xs (i : Int) = xs[i] := by
  show xs.getD ((i : Int)).toNat _ = xs[i]
  rw [Int.toNat_natCast, List.getD_eq_getElem?_getD, List.getElem?_eq_getElem hi]; rfl
theorem near_iff (xs ys : List S47) : near xs ys = true ↔ ∃ x, x ∈ xs ∧ ∃ y, y ∈ ys ∧ boxOk x = true ∧ boxOk y = true ∧ tooNear x y = true := by
  unfold near
  rw [anyN_iff]
  constructor
  · rintro ⟨i, _, h1, h2⟩
    unfold nearOne at h2
    rw [Bool.and_eq_true] at h2
    obtain ⟨j, _, h3, h4⟩ := (anyN_iff _ _).1 h2.2
    rw [Bool.and_eq_true] at h4
    have hi : i < xs.length := by omega
    have hj : j < ys.length := by omega
    rw [rdB_at xs i hi] at h2 h4
    rw [rdB_at ys j hj] at h4
    exact ⟨xs[i], List.getElem_mem hi, ys[j], List.getElem_mem hj, h2.1, h4.1, h4.2⟩
  · rintro ⟨x, hx, y, hy, h1, h2, h3⟩
    obtain ⟨i, hi, rfl⟩ := List.getElem_of_mem hx
    obtain ⟨j, hj, rfl⟩ := List.getElem_of_mem hy
    refine ⟨i, by omega, by omega, ?_⟩
    unfold nearOne
    rw [rdB_at xs i hi, Bool.and_eq_true]
    refine ⟨h1, (anyN_iff _ _).2 ⟨j, by omega, by omega, ?_⟩⟩
    rw [rdB_at ys j hj, h2, h3]
    rfl
theorem tooNear_comm (x y : S47) : tooNear x y = tooNear y x := by
  unfold tooNear
  apply decide_eq_decide.2
  omega
theorem near_comm (xs ys : List S47) : near xs ys = near ys xs := by
  rw [Bool.eq_iff_iff, near_iff, near_iff]
  constructor
  · rintro ⟨x, hx, y, hy, h1, h2, h3⟩
    exact ⟨y, hy, x, hx, h2, h1, by rw [tooNear_comm]; exact h3⟩
  · rintro ⟨x, hx, y, hy, h1, h2, h3⟩
    exact ⟨y, hy, x, hx, h2, h1, by rw [tooNear_comm]; exact h3⟩
def absW (x : Int) : Int := if x < 0 then wrap64 (-x) else x
theorem whAbs_eq (x : Int) : laws_whAbs.f x = some (absW x) := by
  unfold laws_whAbs.f absW
  split <;> rfl
theorem absW_two (p r : Int) (h1 : 0 ≤ p ∧ p ≤ 15) (h2 : 0 ≤ r ∧ r ≤ 15) : absW (wrap64 (p - r)) < 2 ↔ -1 ≤ p - r ∧ p - r ≤ 1 := by
  unfold absW
  rw [w64 (show -9223372036854775808 ≤ p - r by omega) (by omega)]
  split
  · rw [w64 (by omega) (by omega)]; omega
  · omega
theorem whNear_ev (xs ys : List S47) (hx : xs.length ≤ 1048576) (hy : ys.length ≤ 1048576) (ox : ∀ x ∈ xs, boxOk x = true) (oy : ∀ y ∈ ys, boxOk y = true) : Ev (fun k => laws_whNear.f k xs ys) (near xs ys) := by
  have okx : ∀ i : Nat, i < xs.length → boxOk (rd_T47 xs (i : Int)) = true := fun i hi => by rw [rdB_at xs i hi]; exact ox _ (List.getElem_mem hi)
  have oky : ∀ i : Nat, i < ys.length → boxOk (rd_T47 ys (i : Int)) = true := fun i hi => by rw [rdB_at ys i hi]; exact oy _ (List.getElem_mem hi)
  unfold laws_whNear.f
  have inner : ∀ (i : Nat), i < xs.length → ∀ r', ((∀ j, 0 ≤ j → j < ys.length → (boxOk (rd_T47 ys (j : Int)) && tooNear (rd_T47 xs (i : Int)) (rd_T47 ys (j : Int))) = false) → Ev (fun k => laws_whNear.l0 k xs ys ((i : Int) + 1)) r') →
      Ev (fun k => laws_whNear.l0 k xs ys i) (findN (fun j => boxOk (rd_T47 ys (j : Int)) && tooNear (rd_T47 xs (i : Int)) (rd_T47 ys (j : Int))) (fun _ => true) r' ys.length 0) := by
    intro i hi r' hr
    refine Ev.step (f := fun k => laws_whNear.l1 k xs ys i 0) (fun k => by
      simp only [laws_whNear.l0]
      exact if_pos (by omega)) ?_
    have ha := (boxOk_iff _).1 (okx i hi)
    have round : ∀ (j : Nat), j < ys.length → ∀ k, laws_whNear.l1 (k + 1) xs ys i j =
        if (boxOk (rd_T47 ys (j : Int)) && tooNear (rd_T47 xs (i : Int)) (rd_T47 ys (j : Int))) = true then some true else laws_whNear.l1 k xs ys i ((j : Int) + 1) := by
      intro j hj k
      simp only [laws_whNear.l1, if_pos (show (j : Int) < (ys.length : Int) by omega), if_pos (show (0 : Int) ≤ j by omega), if_pos (show (i : Int) < (xs.length : Int) by omega), if_pos (show (0 : Int) ≤ i by omega), whAbs_eq, Option.bind_some]
      rw [w64 (show -9223372036854775808 ≤ (j : Int) + 1 by omega) (by omega), oky j hj, Bool.true_and]
      generalize laws_whNear.l1 k xs ys i ((j : Int) + 1) = q
      have hy := (boxOk_iff _).1 (oky j hj)
      have d0 := absW_two (rd_T47 xs (i : Int)).f0 (rd_T47 ys (j : Int)).f0 ha.1 hy.1
      have d1 := absW_two (rd_T47 xs (i : Int)).f1 (rd_T47 ys (j : Int)).f1 ha.2.1 hy.2.1
      unfold tooNear
      simp only [decide_eq_true_eq]
      simp only [← d0, ← d1]
      repeat' split
      all_goals first | rfl | (exfalso; omega)
    refine find_loop2 (F := fun k j => laws_whNear.l1 k xs ys i j) ys.length _ _ r' ?_ ?_ ys.length 0 (by omega) (fun h => ?_)
    · intro j hj hp
      exact Ev.step (round j hj) (Ev.ite_pos hp (Ev.val _))
    · intro j hj hp r'' hr'
      exact Ev.step (round j hj) (Ev.ite_neg (by simp [hp]) hr')
    · refine Ev.step (fun k => ?_) (hr h)
      simp only [laws_whNear.l1]
      rw [if_neg (by omega), w64 (by omega) (by omega)]
  refine find_loop (F := fun k i => laws_whNear.l0 k xs ys i) xs.length (fun i => nearOne (rd_T47 xs (i : Int)) ys) (fun _ => true) false ?_ ?_ ?_ xs.length 0 (by omega)
  · intro i hi hp
    unfold nearOne at hp
    rw [Bool.and_eq_true] at hp
    obtain ⟨j, h1, h2, h3⟩ := (anyN_iff _ _).1 hp.2
    refine Ev.cast (inner i hi true (fun h => ?_)) (findN_found _ _ ⟨j, h1, h2, h3⟩)
    rw [h j (by omega) (by omega)] at h3
    cases h3
  · intro i hi hp r' hr
    unfold nearOne at hp
    rw [okx i hi, Bool.true_and] at hp
    exact Ev.cast (inner i hi r' (fun _ => hr)) (findN_none _ _ (fun j h1 h2 => anyN_false hp j h1 h2))
  · refine Ev.step (fun k => ?_) (Ev.val _)
    simp only [laws_whNear.l0]
    rw [if_neg (by omega)]
theorem whTube_ev (x : List S47) (hm : x.length ≤ 1048576) : Ev (fun k => laws_whTube.f k x x) true := by
  unfold laws_whTube.f
  refine Ev.ite_pos rfl ?_
  refine eq_loop (F := fun k a b i => laws_whTube.l0 k a b i) x (by omega) (fun i h0 h1 h2 k => ?_) (fun i h k => ?_) x.length 0 (by omega) (by omega)
  · simp only [laws_whTube.l0]
    rw [if_pos h1, if_pos h0, if_pos h1, w64 (show -9223372036854775808 ≤ i + 1 by omega) (by omega), if_neg (by simp)]
  · simp only [laws_whTube.l0]
    rw [if_neg h]
theorem whIn_ev (ss : List ByteArray) (s : ByteArray) (hm : ss.length ≤ 1048576) : Ev (fun k => laws_whIn.f k ss s) (anyN (fun i => decide ((rdOf ByteArray.empty ss (i : Int)).toList = s.toList)) ss.length 0) := by
  unfold laws_whIn.f
  refine find_loop (F := fun k i => laws_whIn.l0 k ss s i) ss.length (fun i => decide ((rdOf ByteArray.empty ss (i : Int)).toList = s.toList)) (fun _ => true) false ?_ ?_ ?_ ss.length 0 (by omega)
  · intro i hi hp
    refine Ev.step (fun k => ?_) (Ev.val _)
    simp only [laws_whIn.l0]
    rw [if_pos (by omega), if_pos (by omega), if_pos (of_decide_eq_true hp)]
  · intro i hi hp r' hr
    refine Ev.step (fun k => ?_) hr
    simp only [laws_whIn.l0]
    rw [if_pos (by omega), if_pos (by omega), if_neg (of_decide_eq_false hp), w64 (show -9223372036854775808 ≤ (i : Int) + 1 by omega) (by omega)]
  · refine Ev.step (fun k => ?_) (Ev.val _)
    simp only [laws_whIn.l0]
    rw [if_neg (by omega)]
theorem zones_at {zs : List S34} (h : zonesOk zs = true) (i : Nat) (hi : i < zs.length) : zoneOk zs i = true := by
  unfold zonesOk at h
  rw [Bool.and_eq_true] at h
  have h2 := (allN_iff _ _).1 h.2 i (by omega) (by omega)
  unfold zoneAt at h2
  rw [Bool.and_eq_true] at h2
  exact h2.1
theorem zones_one {zs : List S34} (h : zonesOk zs = true) (i : Nat) (hi : i < zs.length) : zonesOk [rd_T34 zs (i : Int)] = true := by
  have h1 := zones_at h i hi
  unfold zoneOk at h1
  rw [Bool.and_eq_true, Bool.and_eq_true] at h1
  unfold zonesOk
  rw [Bool.and_eq_true]
  refine ⟨by simp, (allN_iff _ _).2 (fun j _ hj => ?_)⟩
  have hj0 : j = 0 := by simp only [List.length_cons, List.length_nil] at hj; omega
  subst hj0
  unfold zoneAt zoneOk
  have e : rd_T34 [rd_T34 zs (i : Int)] ((0 : Nat) : Int) = rd_T34 zs (i : Int) := rfl
  rw [e, h1.1, h1.2.2]
  rfl
theorem zones_less {zs : List S34} (h : zonesOk zs = true) (i : Nat) : ∀ d : Nat, i + d + 1 < zs.length → less (rd_T34 zs (i : Int)) (rd_T34 zs ((i + d + 1 : Nat) : Int)) = true := by
  have step : ∀ j : Nat, j + 1 < zs.length → less (rd_T34 zs (j : Int)) (rd_T34 zs ((j + 1 : Nat) : Int)) = true := by
    intro j hj
    have h1 := zones_at h (j + 1) hj
    unfold zoneOk at h1
    rw [Bool.and_eq_true, Bool.and_eq_true, Bool.or_eq_true] at h1
    rcases h1.2.1 with h2 | h2
    · have := of_decide_eq_true h2; omega
    · rw [show (((j + 1 : Nat)) : Int) - 1 = (j : Int) by omega] at h2
      exact h2
  intro d
  induction d with
  | zero => intro hd; exact step i hd
  | succ d ih =>
    intro hd
    have h1 := ih (by omega)
    have h2 := step (i + d + 1) (by omega)
    unfold less at h1 h2 ⊢
    exact bless_trans _ _ _ h1 h2
theorem zones_names {zs : List S34} (h : zonesOk zs = true) (i j : Nat) (hi : i < zs.length) (hj : j < zs.length) (e : (rd_T34 zs (i : Int)).f0.toList = (rd_T34 zs (j : Int)).f0.toList) : i = j := by
  rcases Nat.lt_trichotomy i j with hlt | heq | hlt
  · have := zones_less h i (j - i - 1) (by omega)
    rw [show i + (j - i - 1) + 1 = j by omega] at this
    unfold less at this
    rw [e, bless_irrefl] at this
    cases this
  · exact heq
  · have := zones_less h j (i - j - 1) (by omega)
    rw [show j + (i - j - 1) + 1 = i by omega] at this
    unfold less at this
    rw [e, bless_irrefl] at this
    cases this
theorem who_in {zs : List S34} (h : zonesOk zs = true) (x : List S47) (i : Nat) (hi : i < zs.length) : anyN (fun m => decide ((rdOf ByteArray.empty (whoOf zs x) (m : Int)).toList = (rd_T34 zs (i : Int)).f0.toList)) (whoOf zs x).length 0 = decide (((partOf (rd_T34 zs (i : Int)) x).length : Int) > 0) := by
  rw [Bool.eq_iff_iff, anyN_iff, decide_eq_true_iff]
  constructor
  · rintro ⟨m, _, hm, he⟩
    have hm' : m < (whoOf zs x).length := by omega
    have e : rdOf ByteArray.empty (whoOf zs x) (m : Int) = (whoOf zs x)[m] := by
      show (whoOf zs x).getD ((m : Int)).toNat _ = _
      rw [Int.toNat_natCast, List.getD_eq_getElem?_getD, List.getElem?_eq_getElem hm']; rfl
    have hmem := List.getElem_mem hm'
    rw [← e] at hmem
    have he := of_decide_eq_true he
    unfold whoOf at hmem
    obtain ⟨z, hz, hze⟩ := List.mem_map.1 hmem
    obtain ⟨hz1, hz2⟩ := List.mem_filter.1 hz
    obtain ⟨j, hj, rfl⟩ := List.getElem_of_mem hz1
    rw [← rdZ_at zs j hj] at hze hz2
    have := zones_names h j i hj hi (by rw [hze]; exact he)
    subst this
    unfold heard at hz2
    have := of_decide_eq_true hz2
    omega
  · intro hp
    have hmem : (rd_T34 zs (i : Int)).f0 ∈ whoOf zs x := by
      unfold whoOf
      refine List.mem_map.2 ⟨rd_T34 zs (i : Int), List.mem_filter.2 ⟨by rw [rdZ_at zs i hi]; exact List.getElem_mem hi, ?_⟩, rfl⟩
      unfold heard
      exact decide_eq_true (by omega)
    obtain ⟨m, hm, he⟩ := List.getElem_of_mem hmem
    refine ⟨m, by omega, by omega, decide_eq_true ?_⟩
    have e : rdOf ByteArray.empty (whoOf zs x) (m : Int) = (whoOf zs x)[m] := by
      show (whoOf zs x).getD ((m : Int)).toNat _ = _
      rw [Int.toNat_natCast, List.getD_eq_getElem?_getD, List.getElem?_eq_getElem hm]; rfl
    rw [e, he]
theorem tubeAll_iff (zs : List S34) (bs : List S47) : ∀ d i : Nat, tubeAll zs bs d i = true → ∀ j, i ≤ j → j < i + d → boxOk (rd_T47 bs (j : Int)) = true ∧ ∃ m, m < zs.length ∧ overB (rd_T34 zs (m : Int)) (rd_T47 bs (j : Int)) = true := by
  intro d
  induction d with
  | zero => intro i _ j h1 h2; omega
  | succ d ih =>
    intro i h j h1 h2
    simp only [tubeAll] at h
    split at h
    · rename_i hc
      split at h
      · rename_i hb
        by_cases e : j = i
        · subst e
          unfold coverB at hc
          obtain ⟨m, _, hm, ho⟩ := (anyN_iff _ _).1 hc
          exact ⟨hb, m, by omega, ho⟩
        · exact ih (i + 1) h j (by omega) (by omega)
      · cases h
    · cases h
theorem tube_facts {zs : List S34} {bs : List S47} (h : tubeOf zs bs = true) : zonesOk zs = true ∧ (∀ x ∈ bs, boxOk x = true) ∧ ∀ x ∈ bs, ∃ m, m < zs.length ∧ overB (rd_T34 zs (m : Int)) x = true := by
  unfold tubeOf at h
  split at h
  · rename_i hc
    have hall := tubeAll_iff zs bs bs.length 0 h
    refine ⟨hc.1, fun x hx => ?_, fun x hx => ?_⟩
    · obtain ⟨j, hj, rfl⟩ := List.getElem_of_mem hx
      rw [← rdB_at bs j hj]
      exact (hall j (by omega) (by omega)).1
    · obtain ⟨j, hj, rfl⟩ := List.getElem_of_mem hx
      rw [← rdB_at bs j hj]
      exact (hall j (by omega) (by omega)).2
  · cases h
theorem part_mem {z : S34} {x : List S47} {b : S47} : b ∈ partOf z x ↔ zonesOk [z] = true ∧ b ∈ x ∧ sees z b = true := by
  unfold partOf
  by_cases h : zonesOk [z] = true
  · rw [if_pos h, List.mem_filter]
    exact ⟨fun q => ⟨h, q⟩, fun q => q.2⟩
  · rw [if_neg h]
    exact ⟨fun q => (by cases q), fun q => absurd q.1 h⟩
theorem parts_near {zs : List S34} {a b : List S47} (ta : tubeOf zs a = true) (tb : tubeOf zs b = true) : anyN (fun m => near (partOf (rd_T34 zs (m : Int)) a) (partOf (rd_T34 zs (m : Int)) b)) zs.length 0 = near a b := by
  obtain ⟨hz, oa, va⟩ := tube_facts ta
  obtain ⟨_, ob, vb⟩ := tube_facts tb
  rw [Bool.eq_iff_iff, anyN_iff]
  constructor
  · rintro ⟨m, _, hm, hn⟩
    obtain ⟨x, hx, y, hy, h1, h2, h3⟩ := (near_iff _ _).1 hn
    exact (near_iff _ _).2 ⟨x, (part_mem.1 hx).2.1, y, (part_mem.1 hy).2.1, h1, h2, h3⟩
  · intro hn
    obtain ⟨x, hx, y, hy, h1, h2, h3⟩ := (near_iff _ _).1 hn
    obtain ⟨m, hm, ho⟩ := va x hx
    refine ⟨m, by omega, by omega, (near_iff _ _).2 ⟨x, part_mem.2 ⟨zones_one hz m hm, hx, ?_⟩, y, part_mem.2 ⟨zones_one hz m hm, hy, ?_⟩, h1, h2, h3⟩⟩
    · unfold overB at ho
      have ho := of_decide_eq_true ho
      unfold sees
      rw [h1, Bool.true_and]
      exact decide_eq_true (by omega)
    · unfold overB at ho
      have ho := of_decide_eq_true ho
      unfold tooNear at h3
      have h3 := of_decide_eq_true h3
      unfold sees
      rw [h2, Bool.true_and]
      exact decide_eq_true (by omega)
theorem anyN_snoc (P : Nat → Bool) (n : Nat) : anyN P (n + 1) 0 = (anyN P n 0 || P n) := by
  rw [Bool.eq_iff_iff, Bool.or_eq_true, anyN_iff, anyN_iff]
  constructor
  · rintro ⟨j, h1, h2, h3⟩
    by_cases e : j = n
    · subst e; exact Or.inr h3
    · exact Or.inl ⟨j, h1, by omega, h3⟩
  · rintro (⟨j, h1, h2, h3⟩ | h)
    · exact ⟨j, h1, by omega, h3⟩
    · exact ⟨n, by omega, by omega, h⟩
theorem who_law {zs : List S34} {a b : List S47} (ta : tubeOf zs a = true) (tb : tubeOf zs b = true) (sz : ∀ i : Nat, i < zs.length → (rd_T34 zs (i : Int)).f0.size ≤ 9223372036854775807) (hz : zs.length ≤ 1048576) (ha : a.length ≤ 1048576) (hb : b.length ≤ 1048576) :
    Ev (fun k => laws_FnHandWho.l0 k zs a b false (whoOf zs a) 0) true := by
  obtain ⟨hok, oa, va⟩ := tube_facts ta
  obtain ⟨_, ob, vb⟩ := tube_facts tb
  have hw := whoOf_length zs a
  have go : ∀ d i : Nat, i + d = zs.length → Ev (fun k => laws_FnHandWho.l0 k zs a b (anyN (fun m => near (partOf (rd_T34 zs (m : Int)) a) (partOf (rd_T34 zs (m : Int)) b)) i 0) (whoOf zs a) (i : Int)) true := by
    intro d
    induction d with
    | zero =>
      intro i hi
      have e : i = zs.length := by omega
      subst e
      rw [parts_near ta tb]
      refine Ev.succ ?_
      simp only [laws_FnHandWho.l0]
      exact Ev.ite_neg (by omega) (Ev.bind (whNear_ev a b ha hb oa ob) (Ev.ite_pos (by simp) (Ev.bind (near_impl a b ha hb) (Ev.cast (Ev.val _) (by simp)))))
    | succ d ih =>
      intro i hi
      have next := ih (i + 1) (by omega)
      rw [anyN_snoc, show (((i + 1 : Nat)) : Int) = (i : Int) + 1 by omega] at next
      have hin : i < zs.length := by omega
      have pa := partOf_length (rd_T34 zs (i : Int)) a
      have pb := partOf_length (rd_T34 zs (i : Int)) b
      have j5 : ∀ x9, x9 = (anyN (fun m => near (partOf (rd_T34 zs (m : Int)) a) (partOf (rd_T34 zs (m : Int)) b)) i 0 || near (partOf (rd_T34 zs (i : Int)) a) (partOf (rd_T34 zs (i : Int)) b)) → Ev (fun k => laws_FnHandWho.j5 k zs a b x9 (whoOf zs a) (i : Int) (partOf (rd_T34 zs (i : Int)) a)) true := by
        intro x9 e9
        refine Ev.succ ?_
        simp only [laws_FnHandWho.j5]
        rw [w64 (show -9223372036854775808 ≤ (i : Int) + 1 by omega) (by omega), e9]
        have wi := whIn_ev (whoOf zs a) (rd_T34 zs (i : Int)).f0 (by omega)
        rw [who_in hok a i hin] at wi
        exact Ev.ite_pos (by omega) (Ev.ite_pos (by omega) (Ev.bind (spec_part _ a (sz i hin) ha) (Ev.bind (whTube_ev _ (by omega)) (Ev.ite_pos rfl (Ev.bind wi (Ev.ite_neg (by simp) next))))))
      refine Ev.succ ?_
      simp only [laws_FnHandWho.l0]
      refine Ev.ite_pos (by omega) (Ev.ite_pos (by omega) (Ev.bind (impl_part _ a (sz i hin) ha) (Ev.bind (impl_part _ b (sz i hin) hb) ?_)))
      by_cases h9 : anyN (fun m => near (partOf (rd_T34 zs (m : Int)) a) (partOf (rd_T34 zs (m : Int)) b)) i 0 = true
      · exact Ev.ite_pos h9 (j5 true (by rw [h9]; rfl))
      · refine Ev.ite_neg h9 (Ev.bind (whNear_ev _ _ (by omega) (by omega) (fun x hx => oa x (part_mem.1 hx).2.1) (fun x hx => ob x (part_mem.1 hx).2.1)) (j5 _ ?_))
        rw [Bool.eq_false_iff.2 h9, Bool.false_or]
  exact go zs.length 0 (by omega)
theorem FnHandWho : ∀ (l0 : List Int) (l1 : List Int), l0.length ≤ maxLen → l0.length * 1 ≤ 140737488351232 → (∀ x ∈ l0, (Lit.int .u8 x).wf = true) → l1.length ≤ maxLen → l1.length * 1 ≤ 140737488351232 → (∀ x ∈ l1, (Lit.int .u8 x).wf = true) → ∃ k, laws_FnHandWho.f k l0 l1 = some true := by
  intro l0 l1 _ _ hl0 _ _ hl1
  refine Ev.rounds (r := true) ?_
  unfold laws_FnHandWho.f
  have long : Ev (fun k => laws_FnHandWho.j0 k l0 l1 true) true := Ev.step (fun k => (by simp only [laws_FnHandWho.j0]; exact if_pos trivial)) (Ev.val _)
  by_cases c0 : (l0.length : Int) > 1048576
  · exact Ev.ite_pos c0 long
  refine Ev.ite_neg c0 ?_
  by_cases c1 : (l1.length : Int) > 1048576
  · rw [decide_eq_true c1]; exact long
  rw [decide_eq_false c1]
  obtain ⟨zs, a, hs, hz, ha, hd⟩ := draw_ev l0 hl0
  obtain ⟨zs2, b, _, _, hb, hd2⟩ := draw_ev l1 hl1
  have sz := small_at hs
  refine Ev.succ ?_
  simp only [laws_FnHandWho.j0]
  refine Ev.ite_neg (by decide) (Ev.bind hd (Ev.bind (tube_impl zs a sz) (Ev.bind (tube_spec zs a sz) (Ev.ite_neg (by simp) (Ev.bind (impl_zones zs sz) (Ev.bind (spec_zones zs sz) (Ev.succ ?_)))))))
  simp only [laws_FnHandWho.j1]
  refine Ev.ite_neg (by simp) (Ev.bind hd2 (Ev.bind (near_impl a b (by omega) (by omega)) (Ev.bind (near_spec a b (by omega) (by omega)) (Ev.ite_neg (by simp) (Ev.bind (near_impl a b (by omega) (by omega)) (Ev.bind (near_impl b a (by omega) (by omega)) (Ev.succ ?_)))))))
  simp only [laws_FnHandWho.j2, near_comm b a]
  refine Ev.ite_neg (by simp) (Ev.bind (tube_spec zs a sz) ?_)
  have stop : Ev (fun k => laws_FnHandWho.j3 k zs a b true) true := Ev.step (fun k => (by simp only [laws_FnHandWho.j3]; exact if_pos trivial)) (Ev.val _)
  by_cases ta : tubeOf zs a = true
  · refine Ev.ite_pos ta (Ev.bind (tube_spec zs b sz) ?_)
    by_cases tb : tubeOf zs b = true
    · rw [tb]
      refine Ev.succ ?_
      simp only [laws_FnHandWho.j3]
      exact Ev.ite_neg (by decide) (Ev.bind (impl_who zs a sz (by omega) (by omega)) (who_law ta tb sz (by omega) (by omega) (by omega)))
    · rw [Bool.eq_false_iff.2 tb]
      exact stop
  · exact Ev.ite_neg ta stop
end Go.Proofs.Ytmdmfldpohaegaa.Pure
