/-
  The law FnExactHandZonesOk over numbers and lists: both tell the same of every row of zones.
-/
import Derived.Test.YtahfbpmaeijgaaaSayFnExactHandZonesOk
import Derived.Test.YtahfbpmaeijgaaaStdFnExactHandZonesOk
namespace Go.Proofs.Ytahfbpmaeijgaaa.Pure
open Go.RowKit Go.Proofs.Ytahfbpmaeijgaaa.QFnExactHandZonesOk Go.Proofs.YtahfbpmaeijgaaaW.PrintWords Go.Proofs.Ytahfbpmaeijgaaa.Kit Go.Proofs.Ytahfbpmaeijgaaa.StdFnExactHandZonesOk Go.Proofs.Ytahfbpmaeijgaaa.SayFnExactHandZonesOk
set_option linter.unusedSimpArgs false
set_option linter.unusedVariables false
/-! #### zones that are ok -/
def chOk (c : Int) : Bool := decide ((97 ≤ c ∧ c ≤ 122) ∨ (48 ≤ c ∧ c ≤ 57) ∨ c = 45)
def nameOk (s : ByteArray) : Bool := decide (1 ≤ s.size ∧ s.size ≤ 8) && allN (fun i => chOk (bt s (i : Int))) s.size 0
theorem spec_zin (a b c : Int) : spec_l31In.f a b c = some (decide (b ≤ a ∧ a ≤ c)) := by
  unfold spec_l31In.f
  by_cases h : a ≥ b <;> simp [h]
theorem impl_zin (a b c : Int) : impl_within.f a b c = some (decide (b ≤ a ∧ a ≤ c)) := by
  unfold impl_within.f
  by_cases h : a ≥ b <;> simp [h]
theorem spec_name (s : ByteArray) (hs : s.size ≤ 9223372036854775807) : Ev (fun k => spec_l31NameOk.f k s) (nameOk s) := by
  unfold spec_l31NameOk.f nameOk
  rw [spec_zin]
  simp only [Option.bind_some]
  by_cases h : 1 ≤ s.size ∧ s.size ≤ 8
  · rw [decide_eq_true h, Bool.true_and]
    refine Ev.ite_pos (by simp; omega) ?_
    have round : ∀ i : Nat, i < s.size → ∀ k, spec_l31NameOk.l0 (k + 1) s (i : Int) = if chOk (bt s (i : Int)) = true then spec_l31NameOk.l0 k s ((i : Int) + 1) else some false := by
      intro i hi k
      simp only [spec_l31NameOk.l0]
      rw [if_pos (show (i : Int) < (s.size : Int) by omega), if_pos (show (0 : Int) ≤ i by omega), w64 (show -9223372036854775808 ≤ (i : Int) + 1 by omega) (by omega)]
      unfold chOk
      simp only [decide_eq_true_eq]
      repeat' split
      all_goals first | rfl | (exfalso; omega)
    refine find_loop (F := fun k i => spec_l31NameOk.l0 k s i) s.size (fun j => !chOk (bt s (j : Int))) (fun _ => false) true ?_ ?_ ?_ s.size 0 (by omega)
    · intro i hi hp
      exact Ev.step (round i hi) (Ev.ite_neg (by simpa using hp) (Ev.val _))
    · intro i hi hp r' hr
      exact Ev.step (round i hi) (Ev.ite_pos (by simpa using hp) hr)
    · refine Ev.step (fun k => ?_) (Ev.val _)
      simp only [spec_l31NameOk.l0]
      rw [if_neg (by omega)]
  · rw [decide_eq_false h, Bool.false_and]
    exact Ev.ite_neg (by simp; omega) (Ev.val _)
theorem impl_name (s : ByteArray) (hs : s.size ≤ 9223372036854775807) : Ev (fun k => impl_isName.f k s) (nameOk s) := by
  unfold impl_isName.f nameOk
  by_cases h : 1 ≤ s.size ∧ s.size ≤ 8
  · rw [decide_eq_true h, Bool.true_and]
    refine Ev.ite_neg (by omega) (Ev.succ ?_)
    simp only [impl_isName.j0]
    refine Ev.ite_neg (by simp; omega) ?_
    have round : ∀ i : Nat, i < s.size → ∀ k, impl_isName.l0 (k + 1) s (i : Int) = if chOk (bt s (i : Int)) = true then impl_isName.l0 k s ((i : Int) + 1) else some false := by
      intro i hi k
      simp only [impl_isName.l0]
      rw [if_pos (show (i : Int) < (s.size : Int) by omega), if_pos (show (0 : Int) ≤ i by omega), w64 (show -9223372036854775808 ≤ (i : Int) + 1 by omega) (by omega)]
      unfold chOk
      simp only [decide_eq_true_eq]
      repeat' split
      all_goals first | rfl | (exfalso; omega)
    refine find_loop (F := fun k i => impl_isName.l0 k s i) s.size (fun j => !chOk (bt s (j : Int))) (fun _ => false) true ?_ ?_ ?_ s.size 0 (by omega)
    · intro i hi hp
      exact Ev.step (round i hi) (Ev.ite_neg (by simpa using hp) (Ev.val _))
    · intro i hi hp r' hr
      exact Ev.step (round i hi) (Ev.ite_pos (by simpa using hp) hr)
    · refine Ev.step (fun k => ?_) (Ev.val _)
      simp only [impl_isName.l0]
      rw [if_neg (by omega)]
  · rw [decide_eq_false h, Bool.false_and]
    have bad : Ev (fun k => impl_isName.j0 k s true) false := Ev.step (fun k => (by simp only [impl_isName.j0]; exact if_pos trivial)) (Ev.val _)
    by_cases h1 : (s.size : Int) < 1
    · exact Ev.ite_pos h1 bad
    · refine Ev.ite_neg h1 ?_
      rw [decide_eq_true (show (s.size : Int) > 8 by omega)]
      exact bad
def less (a b : S116) : Bool := Op.bytesLess (a.f0).toList (b.f0).toList
def touch (z y : S116) : Bool := decide (y.f1 ≤ z.f3 ∧ z.f1 ≤ y.f3 ∧ y.f2 ≤ z.f4 ∧ z.f2 ≤ y.f4)
def rangeOk (z : S116) : Bool := decide ((0 ≤ z.f1 ∧ z.f1 ≤ z.f3 ∧ z.f3 < 16) ∧ (0 ≤ z.f2 ∧ z.f2 ≤ z.f4 ∧ z.f4 < 16))
def zoneOk (x : List S116) (i : Nat) : Bool := nameOk (rd_T116 x (i : Int)).f0 && ((decide (i = 0) || less (rd_T116 x ((i : Int) - 1)) (rd_T116 x (i : Int))) && rangeOk (rd_T116 x (i : Int)))
def zoneAt (x : List S116) (i : Nat) : Bool := zoneOk x i && !anyN (fun j => touch (rd_T116 x (i : Int)) (rd_T116 x (j : Int))) i 0
def zonesOk (x : List S116) : Bool := decide (1 ≤ x.length ∧ x.length ≤ 4) && allN (zoneAt x) x.length 0
theorem zone_bad {x : List S116} {i : Nat} (d : Nat) (h : zoneOk x i = false) : allN (zoneAt x) (d + 1) i = false := by
  simp only [allN, findN]
  rw [if_pos (by unfold zoneAt; rw [h]; rfl)]
theorem zone_good {x : List S116} {i : Nat} (d : Nat) (h : zoneOk x i = true) : allN (zoneAt x) (d + 1) i = findN (fun j => touch (rd_T116 x (i : Int)) (rd_T116 x (j : Int))) (fun _ => false) (allN (zoneAt x) d (i + 1)) i 0 := by
  have e : ∀ b : Bool, ∀ dd ii, findN (fun j => touch (rd_T116 x (i : Int)) (rd_T116 x (j : Int))) (fun _ => false) b dd ii = (!anyN (fun j => touch (rd_T116 x (i : Int)) (rd_T116 x (j : Int))) dd ii && b) := by
    intro b dd
    induction dd with
    | zero => intro ii; simp [findN]
    | succ dd ih =>
      intro ii
      simp only [findN, anyN]
      by_cases ht : touch (rd_T116 x (i : Int)) (rd_T116 x (ii : Int)) = true
      · rw [if_pos ht, if_pos ht]; rfl
      · rw [if_neg ht, if_neg ht]; exact ih (ii + 1)
  rw [e]
  simp only [allN, findN]
  unfold zoneAt
  rw [h, Bool.true_and]
  cases anyN (fun j => touch (rd_T116 x (i : Int)) (rd_T116 x (j : Int))) i 0
  · rfl
  · rfl
theorem spec_zones (x : List S116) (hx : ∀ i : Nat, i < x.length → (rd_T116 x (i : Int)).f0.size ≤ 9223372036854775807) : Ev (fun k => spec_HandZonesOk.f k x) (zonesOk x) := by
  unfold spec_HandZonesOk.f zonesOk
  rw [spec_zin]
  simp only [Option.bind_some]
  by_cases h : 1 ≤ x.length ∧ x.length ≤ 4
  · rw [decide_eq_true h, Bool.true_and]
    refine Ev.ite_pos (by simp; omega) ?_
    have loop : ∀ d i : Nat, i + d = x.length → Ev (fun k => spec_HandZonesOk.l0 k x (i : Int)) (allN (zoneAt x) d i) := by
      intro d
      induction d with
      | zero =>
        intro i hi
        refine Ev.succ ?_
        simp only [spec_HandZonesOk.l0]
        exact Ev.ite_neg (by omega) (Ev.val _)
      | succ d ih =>
        intro i hi
        have bad : zoneOk x i = false → Ev (fun k => spec_HandZonesOk.j1 k x (i : Int) true (rd_T116 x (i : Int)).f0 (rd_T116 x (i : Int)).f1 (rd_T116 x (i : Int)).f2 (rd_T116 x (i : Int)).f3 (rd_T116 x (i : Int)).f4) (allN (zoneAt x) (d + 1) i) := by
          intro hb
          rw [zone_bad d hb]
          exact Ev.step (fun k => (by simp only [spec_HandZonesOk.j1]; exact if_pos trivial)) (Ev.val _)
        have good : zoneOk x i = true → Ev (fun k => spec_HandZonesOk.l1 k x (i : Int) 0 (rd_T116 x (i : Int)).f0 (rd_T116 x (i : Int)).f1 (rd_T116 x (i : Int)).f2 (rd_T116 x (i : Int)).f3 (rd_T116 x (i : Int)).f4) (allN (zoneAt x) (d + 1) i) := by
          intro hg
          rw [zone_good d hg]
          have round : ∀ j : Nat, j < i → ∀ k, spec_HandZonesOk.l1 (k + 1) x (i : Int) (j : Int) (rd_T116 x (i : Int)).f0 (rd_T116 x (i : Int)).f1 (rd_T116 x (i : Int)).f2 (rd_T116 x (i : Int)).f3 (rd_T116 x (i : Int)).f4 = if touch (rd_T116 x (i : Int)) (rd_T116 x (j : Int)) = true then some false else spec_HandZonesOk.l1 k x (i : Int) ((j : Int) + 1) (rd_T116 x (i : Int)).f0 (rd_T116 x (i : Int)).f1 (rd_T116 x (i : Int)).f2 (rd_T116 x (i : Int)).f3 (rd_T116 x (i : Int)).f4 := by
            intro j hj k
            simp only [spec_HandZonesOk.l1]
            rw [if_pos (show (j : Int) < (i : Int) by omega), if_pos (show (0 : Int) ≤ j by omega), if_pos (show (j : Int) < (x.length : Int) by omega), w64 (show -9223372036854775808 ≤ (j : Int) + 1 by omega) (by omega)]
            unfold touch
            simp only [decide_eq_true_eq]
            repeat' split
            all_goals first | rfl | (exfalso; omega)
          refine find_loop (F := fun k j => spec_HandZonesOk.l1 k x (i : Int) j (rd_T116 x (i : Int)).f0 (rd_T116 x (i : Int)).f1 (rd_T116 x (i : Int)).f2 (rd_T116 x (i : Int)).f3 (rd_T116 x (i : Int)).f4) i (fun j => touch (rd_T116 x (i : Int)) (rd_T116 x (j : Int))) (fun _ => false) _ ?_ ?_ ?_ i 0 (by omega)
          · intro j hj hp
            exact Ev.step (round j hj) (Ev.ite_pos hp (Ev.val _))
          · intro j hj hp r' hr
            exact Ev.step (round j hj) (Ev.ite_neg (Bool.eq_false_iff.1 hp) hr)
          · have next := ih (i + 1) (by omega)
            refine Ev.succ ?_
            simp only [spec_HandZonesOk.l1]
            refine Ev.ite_neg (by omega) ?_
            rw [w64 (show -9223372036854775808 ≤ (i : Int) + 1 by omega) (by omega), show (i : Int) + 1 = (((i + 1 : Nat)) : Int) by omega]
            exact next
        refine Ev.succ ?_
        simp only [spec_HandZonesOk.l0, spec_zin, Option.bind_some]
        refine Ev.ite_pos (by omega) (Ev.ite_pos (by omega) (Ev.bind (spec_name _ (hx i (by omega))) ?_))
        by_cases hn : nameOk (rd_T116 x (i : Int)).f0 = true
        · refine Ev.ite_pos hn ?_
          have rest : (decide (i = 0) || less (rd_T116 x ((i : Int) - 1)) (rd_T116 x (i : Int))) = true → Ev (fun k => if (decide (0 ≤ (rd_T116 x (i : Int)).f1 ∧ (rd_T116 x (i : Int)).f1 ≤ (rd_T116 x (i : Int)).f3)) = true then (if (rd_T116 x (i : Int)).f3 ≥ 16 then (spec_HandZonesOk.j1 k x (i : Int) true (rd_T116 x (i : Int)).f0 (rd_T116 x (i : Int)).f1 (rd_T116 x (i : Int)).f2 (rd_T116 x (i : Int)).f3 (rd_T116 x (i : Int)).f4) else (if (decide (0 ≤ (rd_T116 x (i : Int)).f2 ∧ (rd_T116 x (i : Int)).f2 ≤ (rd_T116 x (i : Int)).f4)) = true then (spec_HandZonesOk.j1 k x (i : Int) (decide ((rd_T116 x (i : Int)).f4 ≥ 16)) (rd_T116 x (i : Int)).f0 (rd_T116 x (i : Int)).f1 (rd_T116 x (i : Int)).f2 (rd_T116 x (i : Int)).f3 (rd_T116 x (i : Int)).f4) else (spec_HandZonesOk.j1 k x (i : Int) true (rd_T116 x (i : Int)).f0 (rd_T116 x (i : Int)).f1 (rd_T116 x (i : Int)).f2 (rd_T116 x (i : Int)).f3 (rd_T116 x (i : Int)).f4))) else (spec_HandZonesOk.j1 k x (i : Int) true (rd_T116 x (i : Int)).f0 (rd_T116 x (i : Int)).f1 (rd_T116 x (i : Int)).f2 (rd_T116 x (i : Int)).f3 (rd_T116 x (i : Int)).f4)) (allN (zoneAt x) (d + 1) i) := by
            intro ho
            have zo : zoneOk x i = rangeOk (rd_T116 x (i : Int)) := by unfold zoneOk; rw [hn, ho]; rfl
            by_cases hr : rangeOk (rd_T116 x (i : Int)) = true
            · have hr' := of_decide_eq_true hr
              refine Ev.ite_pos (decide_eq_true (by omega)) (Ev.ite_neg (by omega) (Ev.ite_pos (decide_eq_true (by omega)) (Ev.succ ?_)))
              simp only [spec_HandZonesOk.j1]
              exact Ev.ite_neg (by simp; omega) (good (by rw [zo, hr]))
            · have hb : zoneOk x i = false := by rw [zo]; exact Bool.eq_false_iff.2 hr
              have hr' : ¬ ((0 ≤ (rd_T116 x (i : Int)).f1 ∧ (rd_T116 x (i : Int)).f1 ≤ (rd_T116 x (i : Int)).f3 ∧ (rd_T116 x (i : Int)).f3 < 16) ∧ (0 ≤ (rd_T116 x (i : Int)).f2 ∧ (rd_T116 x (i : Int)).f2 ≤ (rd_T116 x (i : Int)).f4 ∧ (rd_T116 x (i : Int)).f4 < 16)) := fun hh => hr (decide_eq_true hh)
              by_cases h1 : 0 ≤ (rd_T116 x (i : Int)).f1 ∧ (rd_T116 x (i : Int)).f1 ≤ (rd_T116 x (i : Int)).f3
              · refine Ev.ite_pos (decide_eq_true h1) ?_
                by_cases h2 : (rd_T116 x (i : Int)).f3 ≥ 16
                · exact Ev.ite_pos h2 (bad hb)
                · refine Ev.ite_neg h2 ?_
                  by_cases h3 : 0 ≤ (rd_T116 x (i : Int)).f2 ∧ (rd_T116 x (i : Int)).f2 ≤ (rd_T116 x (i : Int)).f4
                  · refine Ev.ite_pos (decide_eq_true h3) ?_
                    rw [decide_eq_true (show (rd_T116 x (i : Int)).f4 ≥ 16 by omega)]
                    exact bad hb
                  · exact Ev.ite_neg (by simpa using h3) (bad hb)
              · exact Ev.ite_neg (by simpa using h1) (bad hb)
          by_cases h0 : i = 0
          · exact Ev.ite_neg (by omega) (rest (by rw [decide_eq_true h0]; rfl))
          · refine Ev.ite_pos (by omega) ?_
            rw [w64 (show -9223372036854775808 ≤ (i : Int) - 1 by omega) (by omega)]
            refine Ev.ite_pos (by omega) (Ev.ite_pos (by omega) ?_)
            by_cases hl : less (rd_T116 x ((i : Int) - 1)) (rd_T116 x (i : Int)) = true
            · exact Ev.ite_pos hl (rest (by rw [hl, Bool.or_true]))
            · exact Ev.ite_neg hl (bad (by unfold zoneOk; rw [decide_eq_false h0, Bool.eq_false_iff.2 hl]; simp))
        · exact Ev.ite_neg hn (bad (by unfold zoneOk; rw [Bool.eq_false_iff.2 hn]; rfl))
    exact loop x.length 0 (by omega)
  · rw [decide_eq_false h, Bool.false_and]
    exact Ev.ite_neg (by simp; omega) (Ev.val _)
theorem rd_takeZ (x : List S116) (i j : Nat) (hj : j < i) : rd_T116 (x.take i) (j : Int) = rd_T116 x (j : Int) := by
  show (x.take i).getD ((j : Int)).toNat _ = x.getD ((j : Int)).toNat _
  rw [Int.toNat_natCast, List.getD_eq_getElem?_getD, List.getD_eq_getElem?_getD, List.getElem?_take_of_lt hj]
theorem impl_zones (x : List S116) (hx : ∀ i : Nat, i < x.length → (rd_T116 x (i : Int)).f0.size ≤ 9223372036854775807) : Ev (fun k => impl_HandZonesOk.f k x) (zonesOk x) := by
  unfold impl_HandZonesOk.f zonesOk
  rw [impl_zin]
  simp only [Option.bind_some]
  by_cases h : 1 ≤ x.length ∧ x.length ≤ 4
  · rw [decide_eq_true h, Bool.true_and]
    refine Ev.ite_pos (by simp; omega) ?_
    have loop : ∀ d i : Nat, i + d = x.length → Ev (fun k => impl_HandZonesOk.l0 k x x (x.length : Int) (i : Int)) (allN (zoneAt x) d i) := by
      intro d
      induction d with
      | zero =>
        intro i hi
        refine Ev.succ ?_
        simp only [impl_HandZonesOk.l0]
        exact Ev.ite_neg (by omega) (Ev.val _)
      | succ d ih =>
        intro i hi
        have bad : zoneOk x i = false → Ev (fun k => impl_HandZonesOk.j1 k x (i : Int) x (x.length : Int) (i : Int) true (rd_T116 x (i : Int)).f0 (rd_T116 x (i : Int)).f1 (rd_T116 x (i : Int)).f2 (rd_T116 x (i : Int)).f3 (rd_T116 x (i : Int)).f4) (allN (zoneAt x) (d + 1) i) := by
          intro hb
          rw [zone_bad d hb]
          exact Ev.step (fun k => (by simp only [impl_HandZonesOk.j1]; exact if_pos trivial)) (Ev.val _)
        have good : zoneOk x i = true → Ev (fun k => impl_HandZonesOk.l1 k x x (x.length : Int) (i : Int) (x.take i) ((x.take i).length : Int) 0 (rd_T116 x (i : Int)).f0 (rd_T116 x (i : Int)).f1 (rd_T116 x (i : Int)).f2 (rd_T116 x (i : Int)).f3 (rd_T116 x (i : Int)).f4) (allN (zoneAt x) (d + 1) i) := by
          intro hg
          rw [zone_good d hg]
          have hlen : (x.take i).length = i := by rw [List.length_take]; omega
          rw [hlen]
          have round : ∀ j : Nat, j < i → ∀ k, impl_HandZonesOk.l1 (k + 1) x x (x.length : Int) (i : Int) (x.take i) (i : Int) (j : Int) (rd_T116 x (i : Int)).f0 (rd_T116 x (i : Int)).f1 (rd_T116 x (i : Int)).f2 (rd_T116 x (i : Int)).f3 (rd_T116 x (i : Int)).f4 = if touch (rd_T116 x (i : Int)) (rd_T116 x (j : Int)) = true then some false else impl_HandZonesOk.l1 k x x (x.length : Int) (i : Int) (x.take i) (i : Int) ((j : Int) + 1) (rd_T116 x (i : Int)).f0 (rd_T116 x (i : Int)).f1 (rd_T116 x (i : Int)).f2 (rd_T116 x (i : Int)).f3 (rd_T116 x (i : Int)).f4 := by
            intro j hj k
            simp only [impl_HandZonesOk.l1, rd_takeZ x i j hj, hlen]
            rw [if_pos (show (j : Int) < (i : Int) by omega), if_pos (show (0 : Int) ≤ j by omega), if_pos (show (j : Int) < (i : Int) by omega), w64 (show -9223372036854775808 ≤ (j : Int) + 1 by omega) (by omega)]
            unfold touch
            simp only [decide_eq_true_eq]
            repeat' split
            all_goals first | rfl | (exfalso; omega)
          refine find_loop (F := fun k j => impl_HandZonesOk.l1 k x x (x.length : Int) (i : Int) (x.take i) (i : Int) j (rd_T116 x (i : Int)).f0 (rd_T116 x (i : Int)).f1 (rd_T116 x (i : Int)).f2 (rd_T116 x (i : Int)).f3 (rd_T116 x (i : Int)).f4) i (fun j => touch (rd_T116 x (i : Int)) (rd_T116 x (j : Int))) (fun _ => false) _ ?_ ?_ ?_ i 0 (by omega)
          · intro j hj hp
            exact Ev.step (round j hj) (Ev.ite_pos hp (Ev.val _))
          · intro j hj hp r' hr
            exact Ev.step (round j hj) (Ev.ite_neg (Bool.eq_false_iff.1 hp) hr)
          · have next := ih (i + 1) (by omega)
            refine Ev.succ ?_
            simp only [impl_HandZonesOk.l1]
            refine Ev.ite_neg (by omega) ?_
            rw [w64 (show -9223372036854775808 ≤ (i : Int) + 1 by omega) (by omega), show (i : Int) + 1 = (((i + 1 : Nat)) : Int) by omega]
            exact next
        refine Ev.succ ?_
        simp only [impl_HandZonesOk.l0]
        refine Ev.ite_pos (by omega) (Ev.ite_pos (by omega) (Ev.ite_pos (by omega) (Ev.bind (impl_name _ (hx i (by omega))) ?_)))
        by_cases hn : nameOk (rd_T116 x (i : Int)).f0 = true
        · refine Ev.ite_pos hn ?_
          by_cases hr : rangeOk (rd_T116 x (i : Int)) = true
          · have hr' := of_decide_eq_true hr
            refine Ev.ite_pos (by omega) (Ev.ite_pos (by omega) (Ev.ite_pos (by omega) (Ev.ite_pos (by omega) (Ev.ite_pos (by omega) (Ev.ite_pos (by omega) ?_)))))
            have go : zoneOk x i = true → Ev (fun k => impl_HandZonesOk.j1 k x (i : Int) x (x.length : Int) (i : Int) false (rd_T116 x (i : Int)).f0 (rd_T116 x (i : Int)).f1 (rd_T116 x (i : Int)).f2 (rd_T116 x (i : Int)).f3 (rd_T116 x (i : Int)).f4) (allN (zoneAt x) (d + 1) i) := by
              intro hg
              refine Ev.succ ?_
              simp only [impl_HandZonesOk.j1, Int.toNat_natCast, Option.bind_some]
              exact Ev.ite_neg (by decide) (Ev.ite_pos (by omega) (Ev.ite_pos (by omega) (good hg)))
            by_cases h0 : i = 0
            · exact Ev.ite_neg (by omega) (go (by unfold zoneOk; rw [hn, hr, decide_eq_true h0]; rfl))
            · refine Ev.ite_pos (by omega) ?_
              rw [w64 (show -9223372036854775808 ≤ (i : Int) - 1 by omega) (by omega)]
              refine Ev.ite_pos (by omega) (Ev.ite_pos (by omega) ?_)
              show Ev (fun k => impl_HandZonesOk.j1 k x (i : Int) x (x.length : Int) (i : Int) (!less (rd_T116 x ((i : Int) - 1)) (rd_T116 x (i : Int))) (rd_T116 x (i : Int)).f0 (rd_T116 x (i : Int)).f1 (rd_T116 x (i : Int)).f2 (rd_T116 x (i : Int)).f3 (rd_T116 x (i : Int)).f4) _
              by_cases hl : less (rd_T116 x ((i : Int) - 1)) (rd_T116 x (i : Int)) = true
              · rw [hl]
                exact go (by unfold zoneOk; rw [hn, hr, hl, Bool.or_true]; rfl)
              · rw [Bool.eq_false_iff.2 hl]
                exact bad (by unfold zoneOk; rw [decide_eq_false h0, Bool.eq_false_iff.2 hl]; simp)
          · have hb : zoneOk x i = false := by unfold zoneOk; rw [Bool.eq_false_iff.2 hr]; simp
            have hr' : ¬ ((0 ≤ (rd_T116 x (i : Int)).f1 ∧ (rd_T116 x (i : Int)).f1 ≤ (rd_T116 x (i : Int)).f3 ∧ (rd_T116 x (i : Int)).f3 < 16) ∧ (0 ≤ (rd_T116 x (i : Int)).f2 ∧ (rd_T116 x (i : Int)).f2 ≤ (rd_T116 x (i : Int)).f4 ∧ (rd_T116 x (i : Int)).f4 < 16)) := fun hh => hr (decide_eq_true hh)
            by_cases h1 : 0 ≤ (rd_T116 x (i : Int)).f1
            · refine Ev.ite_pos h1 ?_
              by_cases h2 : (rd_T116 x (i : Int)).f1 ≤ (rd_T116 x (i : Int)).f3
              · refine Ev.ite_pos h2 ?_
                by_cases h3 : (rd_T116 x (i : Int)).f3 < 16
                · refine Ev.ite_pos h3 ?_
                  by_cases h4 : 0 ≤ (rd_T116 x (i : Int)).f2
                  · refine Ev.ite_pos h4 ?_
                    by_cases h5 : (rd_T116 x (i : Int)).f2 ≤ (rd_T116 x (i : Int)).f4
                    · exact Ev.ite_pos h5 (Ev.ite_neg (by omega) (bad hb))
                    · exact Ev.ite_neg h5 (bad hb)
                  · exact Ev.ite_neg h4 (bad hb)
                · exact Ev.ite_neg h3 (bad hb)
              · exact Ev.ite_neg h2 (bad hb)
            · exact Ev.ite_neg h1 (bad hb)
        · refine Ev.ite_neg hn ?_
          exact bad (by unfold zoneOk; rw [Bool.eq_false_iff.2 hn]; rfl)
    exact loop x.length 0 (by omega)
  · rw [decide_eq_false h, Bool.false_and]
    exact Ev.ite_neg (by simp; omega) (Ev.val _)
theorem FnExactHandZonesOk : Said := by
  intro x ⟨hm, hx⟩
  refine Ev.rounds (r := true) ?_
  unfold laws_FnExactHandZonesOk.f
  obtain ⟨r, hr, hle, hge, hin⟩ := szHandZoneS_ev x hm (fun y hy => (hx y hy).1) 1048576 (by omega) (by omega)
  refine Ev.bind hr ?_
  by_cases h : r < 0
  · exact Ev.ite_pos h (Ev.val _)
  · have hl : x.length ≤ 1048576 := by have := hin (by omega); omega
    have hl' : (x.map conv_toHandZoneS).length ≤ 1048576 := by rw [List.length_map]; exact hl
    have hs : ∀ i : Nat, i < (x.map conv_toHandZoneS).length → (rd_T116 (x.map conv_toHandZoneS) (i : Int)).f0.size ≤ 9223372036854775807 := by
      intro i hi
      rw [List.length_map] at hi
      have e : rd_T116 (x.map conv_toHandZoneS) (i : Int) = conv_toHandZoneS x[i] := by
        show (x.map conv_toHandZoneS).getD ((i : Int)).toNat _ = _
        rw [Int.toNat_natCast, List.getD_eq_getElem?_getD, List.getElem?_map, List.getElem?_eq_getElem hi]; rfl
      rw [e]
      exact (hx _ (List.getElem_mem hi)).1
    refine Ev.ite_neg h (Ev.bind (toHandZoneS_ev x hl) (Ev.bind (spec_zones _ hs) (Ev.bind (toHandZoneS_ev x hl) (Ev.bind (impl_zones _ hs) (Ev.ite_neg (by simp) ?_)))))
    exact Ev.bind (toHandZoneS_ev x hl) (Ev.bind (eqHandZoneS_ev _ hl') (Ev.ite_pos rfl (Ev.val _)))
end Go.Proofs.Ytahfbpmaeijgaaa.Pure
