/-
  The law FnExactHandWordOk over numbers and lists: both tell whether a word has what its kind asks for.
-/
import Derived.Test.YtbgcpbdnmpnjhaaSayFnExactHandWordOk
import Derived.Test.YtbgcpbdnmpnjhaaStdFnExactHandWordOk
namespace Go.Proofs.Ytbgcpbdnmpnjhaa.Pure
open Go.RowKit Go.Proofs.Ytbgcpbdnmpnjhaa.QFnExactHandWordOk Go.Proofs.YtbgcpbdnmpnjhaaW.PrintWords Go.Proofs.Ytbgcpbdnmpnjhaa.Kit Go.Proofs.Ytbgcpbdnmpnjhaa.StdFnExactHandWordOk Go.Proofs.Ytbgcpbdnmpnjhaa.SayFnExactHandWordOk
set_option linter.unusedSimpArgs false
set_option linter.unusedVariables false
set_option linter.unusedSectionVars false
/-! #### boxes that are ok, boxes that come too near -/
def boxOk (b : S56) : Bool := decide ((0 ≤ b.f0 ∧ b.f0 ≤ 15) ∧ (0 ≤ b.f1 ∧ b.f1 ≤ 15) ∧ (0 ≤ b.f2 ∧ b.f2 ≤ b.f3 ∧ b.f3 ≤ 6) ∧ 0 ≤ b.f4 ∧ b.f4 ≤ b.f5 ∧ b.f5 ≤ 10000)
theorem boxOk_iff (b : S56) : boxOk b = true ↔ ((0 ≤ b.f0 ∧ b.f0 ≤ 15) ∧ (0 ≤ b.f1 ∧ b.f1 ≤ 15) ∧ (0 ≤ b.f2 ∧ b.f2 ≤ b.f3 ∧ b.f3 ≤ 6) ∧ 0 ≤ b.f4 ∧ b.f4 ≤ b.f5 ∧ b.f5 ≤ 10000) := decide_eq_true_iff
theorem spec_hin (a b c : Int) : spec_l31In.f a b c = some (decide (b ≤ a ∧ a ≤ c)) := by
  unfold spec_l31In.f
  by_cases h : a ≥ b <;> simp [h]
theorem impl_hin (a b c : Int) : impl_within.f a b c = some (decide (b ≤ a ∧ a ≤ c)) := by
  unfold impl_within.f
  by_cases h : a ≥ b <;> simp [h]
theorem spec_box (b : S56) : spec_l31BoxOk.f b.f0 b.f1 b.f2 b.f3 b.f4 b.f5 = some (boxOk b) := by
  unfold spec_l31BoxOk.f boxOk
  simp only [spec_hin, Option.bind_some, decide_eq_true_eq]
  repeat' split
  all_goals first | (congr 1; apply decide_eq_decide.2; omega) | (congr 1; symm; apply decide_eq_false; omega)
theorem impl_box (b : S56) : impl_handBox.f b.f0 b.f1 b.f2 b.f3 b.f4 b.f5 = some (boxOk b) := by
  unfold impl_handBox.f boxOk
  simp only [impl_hin, Option.bind_some, decide_eq_true_eq]
  repeat' split
  all_goals first | (congr 1; apply decide_eq_decide.2; omega) | (congr 1; symm; apply decide_eq_false; omega)
/-! #### zones that are ok -/
def chOk (c : Int) : Bool := decide ((97 ≤ c ∧ c ≤ 122) ∨ (48 ≤ c ∧ c ≤ 57) ∨ c = 45)
def nameOk (s : ByteArray) : Bool := decide (1 ≤ s.size ∧ s.size ≤ 8) && allN (fun i => chOk (bt s (i : Int))) s.size 0
theorem spec_zin (a b c : Int) : spec_l31In.f a b c = some (decide (b ≤ a ∧ a ≤ c)) := by
  unfold spec_l31In.f
  by_cases h : a ≥ b <;> simp [h]
theorem impl_zin (a b c : Int) : impl_within.f a b c = some (decide (b ≤ a ∧ a ≤ c)) := by
  unfold impl_within.f
  by_cases h : a ≥ b <;> simp [h]
theorem spec_name (s : ByteArray) (hs : s.size ≤ 9223372036854775807) : Ev (fun k => spec_l31NameOk.f k s) (nameOk s) := by
  unfold spec_l31NameOk.f nameOk
  rw [spec_zin]
  simp only [Option.bind_some]
  by_cases h : 1 ≤ s.size ∧ s.size ≤ 8
  · rw [decide_eq_true h, Bool.true_and]
    refine Ev.ite_pos (by simp; omega) ?_
    have round : ∀ i : Nat, i < s.size → ∀ k, spec_l31NameOk.l0 (k + 1) s (i : Int) = if chOk (bt s (i : Int)) = true then spec_l31NameOk.l0 k s ((i : Int) + 1) else some false := by
      intro i hi k
      simp only [spec_l31NameOk.l0]
      rw [if_pos (show (i : Int) < (s.size : Int) by omega), if_pos (show (0 : Int) ≤ i by omega), w64 (show -9223372036854775808 ≤ (i : Int) + 1 by omega) (by omega)]
      unfold chOk
      simp only [decide_eq_true_eq]
      repeat' split
      all_goals first | rfl | (exfalso; omega)
    refine find_loop (F := fun k i => spec_l31NameOk.l0 k s i) s.size (fun j => !chOk (bt s (j : Int))) (fun _ => false) true ?_ ?_ ?_ s.size 0 (by omega)
    · intro i hi hp
      exact Ev.step (round i hi) (Ev.ite_neg (by simpa using hp) (Ev.val _))
    · intro i hi hp r' hr
      exact Ev.step (round i hi) (Ev.ite_pos (by simpa using hp) hr)
    · refine Ev.step (fun k => ?_) (Ev.val _)
      simp only [spec_l31NameOk.l0]
      rw [if_neg (by omega)]
  · rw [decide_eq_false h, Bool.false_and]
    exact Ev.ite_neg (by simp; omega) (Ev.val _)
theorem impl_name (s : ByteArray) (hs : s.size ≤ 9223372036854775807) : Ev (fun k => impl_isName.f k s) (nameOk s) := by
  unfold impl_isName.f nameOk
  by_cases h : 1 ≤ s.size ∧ s.size ≤ 8
  · rw [decide_eq_true h, Bool.true_and]
    refine Ev.ite_neg (by omega) (Ev.succ ?_)
    simp only [impl_isName.j0]
    refine Ev.ite_neg (by simp; omega) ?_
    have round : ∀ i : Nat, i < s.size → ∀ k, impl_isName.l0 (k + 1) s (i : Int) = if chOk (bt s (i : Int)) = true then impl_isName.l0 k s ((i : Int) + 1) else some false := by
      intro i hi k
      simp only [impl_isName.l0]
      rw [if_pos (show (i : Int) < (s.size : Int) by omega), if_pos (show (0 : Int) ≤ i by omega), w64 (show -9223372036854775808 ≤ (i : Int) + 1 by omega) (by omega)]
      unfold chOk
      simp only [decide_eq_true_eq]
      repeat' split
      all_goals first | rfl | (exfalso; omega)
    refine find_loop (F := fun k i => impl_isName.l0 k s i) s.size (fun j => !chOk (bt s (j : Int))) (fun _ => false) true ?_ ?_ ?_ s.size 0 (by omega)
    · intro i hi hp
      exact Ev.step (round i hi) (Ev.ite_neg (by simpa using hp) (Ev.val _))
    · intro i hi hp r' hr
      exact Ev.step (round i hi) (Ev.ite_pos (by simpa using hp) hr)
    · refine Ev.step (fun k => ?_) (Ev.val _)
      simp only [impl_isName.l0]
      rw [if_neg (by omega)]
  · rw [decide_eq_false h, Bool.false_and]
    have bad : Ev (fun k => impl_isName.j0 k s true) false := Ev.step (fun k => (by simp only [impl_isName.j0]; exact if_pos trivial)) (Ev.val _)
    by_cases h1 : (s.size : Int) < 1
    · exact Ev.ite_pos h1 bad
    · refine Ev.ite_neg h1 ?_
      rw [decide_eq_true (show (s.size : Int) > 8 by omega)]
      exact bad
def less (a b : S48) : Bool := Op.bytesLess (a.f0).toList (b.f0).toList
def touch (z y : S48) : Bool := decide (y.f1 ≤ z.f3 ∧ z.f1 ≤ y.f3 ∧ y.f2 ≤ z.f4 ∧ z.f2 ≤ y.f4)
def rangeOk (z : S48) : Bool := decide ((0 ≤ z.f1 ∧ z.f1 ≤ z.f3 ∧ z.f3 < 16) ∧ (0 ≤ z.f2 ∧ z.f2 ≤ z.f4 ∧ z.f4 < 16))
def zoneOk (x : List S48) (i : Nat) : Bool := nameOk (rd_T48 x (i : Int)).f0 && ((decide (i = 0) || less (rd_T48 x ((i : Int) - 1)) (rd_T48 x (i : Int))) && rangeOk (rd_T48 x (i : Int)))
def zoneAt (x : List S48) (i : Nat) : Bool := zoneOk x i && !anyN (fun j => touch (rd_T48 x (i : Int)) (rd_T48 x (j : Int))) i 0
def zonesOk (x : List S48) : Bool := decide (1 ≤ x.length ∧ x.length ≤ 4) && allN (zoneAt x) x.length 0
theorem zone_bad {x : List S48} {i : Nat} (d : Nat) (h : zoneOk x i = false) : allN (zoneAt x) (d + 1) i = false := by
  simp only [allN, findN]
  rw [if_pos (by unfold zoneAt; rw [h]; rfl)]
theorem zone_good {x : List S48} {i : Nat} (d : Nat) (h : zoneOk x i = true) : allN (zoneAt x) (d + 1) i = findN (fun j => touch (rd_T48 x (i : Int)) (rd_T48 x (j : Int))) (fun _ => false) (allN (zoneAt x) d (i + 1)) i 0 := by
  have e : ∀ b : Bool, ∀ dd ii, findN (fun j => touch (rd_T48 x (i : Int)) (rd_T48 x (j : Int))) (fun _ => false) b dd ii = (!anyN (fun j => touch (rd_T48 x (i : Int)) (rd_T48 x (j : Int))) dd ii && b) := by
    intro b dd
    induction dd with
    | zero => intro ii; simp [findN]
    | succ dd ih =>
      intro ii
      simp only [findN, anyN]
      by_cases ht : touch (rd_T48 x (i : Int)) (rd_T48 x (ii : Int)) = true
      · rw [if_pos ht, if_pos ht]; rfl
      · rw [if_neg ht, if_neg ht]; exact ih (ii + 1)
  rw [e]
  simp only [allN, findN]
  unfold zoneAt
  rw [h, Bool.true_and]
  cases anyN (fun j => touch (rd_T48 x (i : Int)) (rd_T48 x (j : Int))) i 0
  · rfl
  · rfl
theorem spec_zones (x : List S48) (hx : ∀ i : Nat, i < x.length → (rd_T48 x (i : Int)).f0.size ≤ 9223372036854775807) : Ev (fun k => spec_HandZonesOk.f k x) (zonesOk x) := by
  unfold spec_HandZonesOk.f zonesOk
  rw [spec_zin]
  simp only [Option.bind_some]
  by_cases h : 1 ≤ x.length ∧ x.length ≤ 4
  · rw [decide_eq_true h, Bool.true_and]
    refine Ev.ite_pos (by simp; omega) ?_
    have loop : ∀ d i : Nat, i + d = x.length → Ev (fun k => spec_HandZonesOk.l0 k x (i : Int)) (allN (zoneAt x) d i) := by
      intro d
      induction d with
      | zero =>
        intro i hi
        refine Ev.succ ?_
        simp only [spec_HandZonesOk.l0]
        exact Ev.ite_neg (by omega) (Ev.val _)
      | succ d ih =>
        intro i hi
        have bad : zoneOk x i = false → Ev (fun k => spec_HandZonesOk.j1 k x (i : Int) true (rd_T48 x (i : Int)).f0 (rd_T48 x (i : Int)).f1 (rd_T48 x (i : Int)).f2 (rd_T48 x (i : Int)).f3 (rd_T48 x (i : Int)).f4) (allN (zoneAt x) (d + 1) i) := by
          intro hb
          rw [zone_bad d hb]
          exact Ev.step (fun k => (by simp only [spec_HandZonesOk.j1]; exact if_pos trivial)) (Ev.val _)
        have good : zoneOk x i = true → Ev (fun k => spec_HandZonesOk.l1 k x (i : Int) 0 (rd_T48 x (i : Int)).f0 (rd_T48 x (i : Int)).f1 (rd_T48 x (i : Int)).f2 (rd_T48 x (i : Int)).f3 (rd_T48 x (i : Int)).f4) (allN (zoneAt x) (d + 1) i) := by
          intro hg
          rw [zone_good d hg]
          have round : ∀ j : Nat, j < i → ∀ k, spec_HandZonesOk.l1 (k + 1) x (i : Int) (j : Int) (rd_T48 x (i : Int)).f0 (rd_T48 x (i : Int)).f1 (rd_T48 x (i : Int)).f2 (rd_T48 x (i : Int)).f3 (rd_T48 x (i : Int)).f4 = if touch (rd_T48 x (i : Int)) (rd_T48 x (j : Int)) = true then some false else spec_HandZonesOk.l1 k x (i : Int) ((j : Int) + 1) (rd_T48 x (i : Int)).f0 (rd_T48 x (i : Int)).f1 (rd_T48 x (i : Int)).f2 (rd_T48 x (i : Int)).f3 (rd_T48 x (i : Int)).f4 := by
            intro j hj k
            simp only [spec_HandZonesOk.l1]
            rw [if_pos (show (j : Int) < (i : Int) by omega), if_pos (show (0 : Int) ≤ j by omega), if_pos (show (j : Int) < (x.length : Int) by omega), w64 (show -9223372036854775808 ≤ (j : Int) + 1 by omega) (by omega)]
            unfold touch
            simp only [decide_eq_true_eq]
            repeat' split
            all_goals first | rfl | (exfalso; omega)
          refine find_loop (F := fun k j => spec_HandZonesOk.l1 k x (i : Int) j (rd_T48 x (i : Int)).f0 (rd_T48 x (i : Int)).f1 (rd_T48 x (i : Int)).f2 (rd_T48 x (i : Int)).f3 (rd_T48 x (i : Int)).f4) i (fun j => touch (rd_T48 x (i : Int)) (rd_T48 x (j : Int))) (fun _ => false) _ ?_ ?_ ?_ i 0 (by omega)
          · intro j hj hp
            exact Ev.step (round j hj) (Ev.ite_pos hp (Ev.val _))
          · intro j hj hp r' hr
            exact Ev.step (round j hj) (Ev.ite_neg (Bool.eq_false_iff.1 hp) hr)
          · have next := ih (i + 1) (by omega)
            refine Ev.succ ?_
            simp only [spec_HandZonesOk.l1]
            refine Ev.ite_neg (by omega) ?_
            rw [w64 (show -9223372036854775808 ≤ (i : Int) + 1 by omega) (by omega), show (i : Int) + 1 = (((i + 1 : Nat)) : Int) by omega]
            exact next
        refine Ev.succ ?_
        simp only [spec_HandZonesOk.l0, spec_zin, Option.bind_some]
        refine Ev.ite_pos (by omega) (Ev.ite_pos (by omega) (Ev.bind (spec_name _ (hx i (by omega))) ?_))
        by_cases hn : nameOk (rd_T48 x (i : Int)).f0 = true
        · refine Ev.ite_pos hn ?_
          have rest : (decide (i = 0) || less (rd_T48 x ((i : Int) - 1)) (rd_T48 x (i : Int))) = true → Ev (fun k => if (decide (0 ≤ (rd_T48 x (i : Int)).f1 ∧ (rd_T48 x (i : Int)).f1 ≤ (rd_T48 x (i : Int)).f3)) = true then (if (rd_T48 x (i : Int)).f3 ≥ 16 then (spec_HandZonesOk.j1 k x (i : Int) true (rd_T48 x (i : Int)).f0 (rd_T48 x (i : Int)).f1 (rd_T48 x (i : Int)).f2 (rd_T48 x (i : Int)).f3 (rd_T48 x (i : Int)).f4) else (if (decide (0 ≤ (rd_T48 x (i : Int)).f2 ∧ (rd_T48 x (i : Int)).f2 ≤ (rd_T48 x (i : Int)).f4)) = true then (spec_HandZonesOk.j1 k x (i : Int) (decide ((rd_T48 x (i : Int)).f4 ≥ 16)) (rd_T48 x (i : Int)).f0 (rd_T48 x (i : Int)).f1 (rd_T48 x (i : Int)).f2 (rd_T48 x (i : Int)).f3 (rd_T48 x (i : Int)).f4) else (spec_HandZonesOk.j1 k x (i : Int) true (rd_T48 x (i : Int)).f0 (rd_T48 x (i : Int)).f1 (rd_T48 x (i : Int)).f2 (rd_T48 x (i : Int)).f3 (rd_T48 x (i : Int)).f4))) else (spec_HandZonesOk.j1 k x (i : Int) true (rd_T48 x (i : Int)).f0 (rd_T48 x (i : Int)).f1 (rd_T48 x (i : Int)).f2 (rd_T48 x (i : Int)).f3 (rd_T48 x (i : Int)).f4)) (allN (zoneAt x) (d + 1) i) := by
            intro ho
            have zo : zoneOk x i = rangeOk (rd_T48 x (i : Int)) := by unfold zoneOk; rw [hn, ho]; rfl
            by_cases hr : rangeOk (rd_T48 x (i : Int)) = true
            · have hr' := of_decide_eq_true hr
              refine Ev.ite_pos (decide_eq_true (by omega)) (Ev.ite_neg (by omega) (Ev.ite_pos (decide_eq_true (by omega)) (Ev.succ ?_)))
              simp only [spec_HandZonesOk.j1]
              exact Ev.ite_neg (by simp; omega) (good (by rw [zo, hr]))
            · have hb : zoneOk x i = false := by rw [zo]; exact Bool.eq_false_iff.2 hr
              have hr' : ¬ ((0 ≤ (rd_T48 x (i : Int)).f1 ∧ (rd_T48 x (i : Int)).f1 ≤ (rd_T48 x (i : Int)).f3 ∧ (rd_T48 x (i : Int)).f3 < 16) ∧ (0 ≤ (rd_T48 x (i : Int)).f2 ∧ (rd_T48 x (i : Int)).f2 ≤ (rd_T48 x (i : Int)).f4 ∧ (rd_T48 x (i : Int)).f4 < 16)) := fun hh => hr (decide_eq_true hh)
              by_cases h1 : 0 ≤ (rd_T48 x (i : Int)).f1 ∧ (rd_T48 x (i : Int)).f1 ≤ (rd_T48 x (i : Int)).f3
              · refine Ev.ite_pos (decide_eq_true h1) ?_
                by_cases h2 : (rd_T48 x (i : Int)).f3 ≥ 16
                · exact Ev.ite_pos h2 (bad hb)
                · refine Ev.ite_neg h2 ?_
                  by_cases h3 : 0 ≤ (rd_T48 x (i : Int)).f2 ∧ (rd_T48 x (i : Int)).f2 ≤ (rd_T48 x (i : Int)).f4
                  · refine Ev.ite_pos (decide_eq_true h3) ?_
                    rw [decide_eq_true (show (rd_T48 x (i : Int)).f4 ≥ 16 by omega)]
                    exact bad hb
                  · exact Ev.ite_neg (by simpa using h3) (bad hb)
              · exact Ev.ite_neg (by simpa using h1) (bad hb)
          by_cases h0 : i = 0
          · exact Ev.ite_neg (by omega) (rest (by rw [decide_eq_true h0]; rfl))
          · refine Ev.ite_pos (by omega) ?_
            rw [w64 (show -9223372036854775808 ≤ (i : Int) - 1 by omega) (by omega)]
            refine Ev.ite_pos (by omega) (Ev.ite_pos (by omega) ?_)
            by_cases hl : less (rd_T48 x ((i : Int) - 1)) (rd_T48 x (i : Int)) = true
            · exact Ev.ite_pos hl (rest (by rw [hl, Bool.or_true]))
            · exact Ev.ite_neg hl (bad (by unfold zoneOk; rw [decide_eq_false h0, Bool.eq_false_iff.2 hl]; simp))
        · exact Ev.ite_neg hn (bad (by unfold zoneOk; rw [Bool.eq_false_iff.2 hn]; rfl))
    exact loop x.length 0 (by omega)
  · rw [decide_eq_false h, Bool.false_and]
    exact Ev.ite_neg (by simp; omega) (Ev.val _)
theorem rd_takeZ (x : List S48) (i j : Nat) (hj : j < i) : rd_T48 (x.take i) (j : Int) = rd_T48 x (j : Int) := by
  show (x.take i).getD ((j : Int)).toNat _ = x.getD ((j : Int)).toNat _
  rw [Int.toNat_natCast, List.getD_eq_getElem?_getD, List.getD_eq_getElem?_getD, List.getElem?_take_of_lt hj]
theorem impl_zones (x : List S48) (hx : ∀ i : Nat, i < x.length → (rd_T48 x (i : Int)).f0.size ≤ 9223372036854775807) : Ev (fun k => impl_HandZonesOk.f k x) (zonesOk x) := by
  unfold impl_HandZonesOk.f zonesOk
  rw [impl_zin]
  simp only [Option.bind_some]
  by_cases h : 1 ≤ x.length ∧ x.length ≤ 4
  · rw [decide_eq_true h, Bool.true_and]
    refine Ev.ite_pos (by simp; omega) ?_
    have loop : ∀ d i : Nat, i + d = x.length → Ev (fun k => impl_HandZonesOk.l0 k x x (x.length : Int) (i : Int)) (allN (zoneAt x) d i) := by
      intro d
      induction d with
      | zero =>
        intro i hi
        refine Ev.succ ?_
        simp only [impl_HandZonesOk.l0]
        exact Ev.ite_neg (by omega) (Ev.val _)
      | succ d ih =>
        intro i hi
        have bad : zoneOk x i = false → Ev (fun k => impl_HandZonesOk.j1 k x (i : Int) x (x.length : Int) (i : Int) true (rd_T48 x (i : Int)).f0 (rd_T48 x (i : Int)).f1 (rd_T48 x (i : Int)).f2 (rd_T48 x (i : Int)).f3 (rd_T48 x (i : Int)).f4) (allN (zoneAt x) (d + 1) i) := by
          intro hb
          rw [zone_bad d hb]
          exact Ev.step (fun k => (by simp only [impl_HandZonesOk.j1]; exact if_pos trivial)) (Ev.val _)
        have good : zoneOk x i = true → Ev (fun k => impl_HandZonesOk.l1 k x x (x.length : Int) (i : Int) (x.take i) ((x.take i).length : Int) 0 (rd_T48 x (i : Int)).f0 (rd_T48 x (i : Int)).f1 (rd_T48 x (i : Int)).f2 (rd_T48 x (i : Int)).f3 (rd_T48 x (i : Int)).f4) (allN (zoneAt x) (d + 1) i) := by
          intro hg
          rw [zone_good d hg]
          have hlen : (x.take i).length = i := by rw [List.length_take]; omega
          rw [hlen]
          have round : ∀ j : Nat, j < i → ∀ k, impl_HandZonesOk.l1 (k + 1) x x (x.length : Int) (i : Int) (x.take i) (i : Int) (j : Int) (rd_T48 x (i : Int)).f0 (rd_T48 x (i : Int)).f1 (rd_T48 x (i : Int)).f2 (rd_T48 x (i : Int)).f3 (rd_T48 x (i : Int)).f4 = if touch (rd_T48 x (i : Int)) (rd_T48 x (j : Int)) = true then some false else impl_HandZonesOk.l1 k x x (x.length : Int) (i : Int) (x.take i) (i : Int) ((j : Int) + 1) (rd_T48 x (i : Int)).f0 (rd_T48 x (i : Int)).f1 (rd_T48 x (i : Int)).f2 (rd_T48 x (i : Int)).f3 (rd_T48 x (i : Int)).f4 := by
            intro j hj k
            simp only [impl_HandZonesOk.l1, rd_takeZ x i j hj, hlen]
            rw [if_pos (show (j : Int) < (i : Int) by omega), if_pos (show (0 : Int) ≤ j by omega), if_pos (show (j : Int) < (i : Int) by omega), w64 (show -9223372036854775808 ≤ (j : Int) + 1 by omega) (by omega)]
            unfold touch
            simp only [decide_eq_true_eq]
            repeat' split
            all_goals first | rfl | (exfalso; omega)
          refine find_loop (F := fun k j => impl_HandZonesOk.l1 k x x (x.length : Int) (i : Int) (x.take i) (i : Int) j (rd_T48 x (i : Int)).f0 (rd_T48 x (i : Int)).f1 (rd_T48 x (i : Int)).f2 (rd_T48 x (i : Int)).f3 (rd_T48 x (i : Int)).f4) i (fun j => touch (rd_T48 x (i : Int)) (rd_T48 x (j : Int))) (fun _ => false) _ ?_ ?_ ?_ i 0 (by omega)
          · intro j hj hp
            exact Ev.step (round j hj) (Ev.ite_pos hp (Ev.val _))
          · intro j hj hp r' hr
            exact Ev.step (round j hj) (Ev.ite_neg (Bool.eq_false_iff.1 hp) hr)
          · have next := ih (i + 1) (by omega)
            refine Ev.succ ?_
            simp only [impl_HandZonesOk.l1]
            refine Ev.ite_neg (by omega) ?_
            rw [w64 (show -9223372036854775808 ≤ (i : Int) + 1 by omega) (by omega), show (i : Int) + 1 = (((i + 1 : Nat)) : Int) by omega]
            exact next
        refine Ev.succ ?_
        simp only [impl_HandZonesOk.l0]
        refine Ev.ite_pos (by omega) (Ev.ite_pos (by omega) (Ev.ite_pos (by omega) (Ev.bind (impl_name _ (hx i (by omega))) ?_)))
        by_cases hn : nameOk (rd_T48 x (i : Int)).f0 = true
        · refine Ev.ite_pos hn ?_
          by_cases hr : rangeOk (rd_T48 x (i : Int)) = true
          · have hr' := of_decide_eq_true hr
            refine Ev.ite_pos (by omega) (Ev.ite_pos (by omega) (Ev.ite_pos (by omega) (Ev.ite_pos (by omega) (Ev.ite_pos (by omega) (Ev.ite_pos (by omega) ?_)))))
            have go : zoneOk x i = true → Ev (fun k => impl_HandZonesOk.j1 k x (i : Int) x (x.length : Int) (i : Int) false (rd_T48 x (i : Int)).f0 (rd_T48 x (i : Int)).f1 (rd_T48 x (i : Int)).f2 (rd_T48 x (i : Int)).f3 (rd_T48 x (i : Int)).f4) (allN (zoneAt x) (d + 1) i) := by
              intro hg
              refine Ev.succ ?_
              simp only [impl_HandZonesOk.j1, Int.toNat_natCast, Option.bind_some]
              exact Ev.ite_neg (by decide) (Ev.ite_pos (by omega) (Ev.ite_pos (by omega) (good hg)))
            by_cases h0 : i = 0
            · exact Ev.ite_neg (by omega) (go (by unfold zoneOk; rw [hn, hr, decide_eq_true h0]; rfl))
            · refine Ev.ite_pos (by omega) ?_
              rw [w64 (show -9223372036854775808 ≤ (i : Int) - 1 by omega) (by omega)]
              refine Ev.ite_pos (by omega) (Ev.ite_pos (by omega) ?_)
              show Ev (fun k => impl_HandZonesOk.j1 k x (i : Int) x (x.length : Int) (i : Int) (!less (rd_T48 x ((i : Int) - 1)) (rd_T48 x (i : Int))) (rd_T48 x (i : Int)).f0 (rd_T48 x (i : Int)).f1 (rd_T48 x (i : Int)).f2 (rd_T48 x (i : Int)).f3 (rd_T48 x (i : Int)).f4) _
              by_cases hl : less (rd_T48 x ((i : Int) - 1)) (rd_T48 x (i : Int)) = true
              · rw [hl]
                exact go (by unfold zoneOk; rw [hn, hr, hl, Bool.or_true]; rfl)
              · rw [Bool.eq_false_iff.2 hl]
                exact bad (by unfold zoneOk; rw [decide_eq_false h0, Bool.eq_false_iff.2 hl]; simp)
          · have hb : zoneOk x i = false := by unfold zoneOk; rw [Bool.eq_false_iff.2 hr]; simp
            have hr' : ¬ ((0 ≤ (rd_T48 x (i : Int)).f1 ∧ (rd_T48 x (i : Int)).f1 ≤ (rd_T48 x (i : Int)).f3 ∧ (rd_T48 x (i : Int)).f3 < 16) ∧ (0 ≤ (rd_T48 x (i : Int)).f2 ∧ (rd_T48 x (i : Int)).f2 ≤ (rd_T48 x (i : Int)).f4 ∧ (rd_T48 x (i : Int)).f4 < 16)) := fun hh => hr (decide_eq_true hh)
            by_cases h1 : 0 ≤ (rd_T48 x (i : Int)).f1
            · refine Ev.ite_pos h1 ?_
              by_cases h2 : (rd_T48 x (i : Int)).f1 ≤ (rd_T48 x (i : Int)).f3
              · refine Ev.ite_pos h2 ?_
                by_cases h3 : (rd_T48 x (i : Int)).f3 < 16
                · refine Ev.ite_pos h3 ?_
                  by_cases h4 : 0 ≤ (rd_T48 x (i : Int)).f2
                  · refine Ev.ite_pos h4 ?_
                    by_cases h5 : (rd_T48 x (i : Int)).f2 ≤ (rd_T48 x (i : Int)).f4
                    · exact Ev.ite_pos h5 (Ev.ite_neg (by omega) (bad hb))
                    · exact Ev.ite_neg h5 (bad hb)
                  · exact Ev.ite_neg h4 (bad hb)
                · exact Ev.ite_neg h3 (bad hb)
              · exact Ev.ite_neg h2 (bad hb)
            · exact Ev.ite_neg h1 (bad hb)
        · refine Ev.ite_neg hn ?_
          exact bad (by unfold zoneOk; rw [Bool.eq_false_iff.2 hn]; rfl)
    exact loop x.length 0 (by omega)
  · rw [decide_eq_false h, Bool.false_and]
    exact Ev.ite_neg (by simp; omega) (Ev.val _)
/-! #### tubes under zones -/
def overB (z : S48) (b : S56) : Bool := decide ((z.f1 ≤ b.f0 ∧ b.f0 ≤ z.f3) ∧ z.f2 ≤ b.f1 ∧ b.f1 ≤ z.f4)
theorem over_spec (z : S48) (b : S56) : spec_l31Over.f z.f0 z.f1 z.f2 z.f3 z.f4 b.f0 b.f1 b.f2 b.f3 b.f4 b.f5 = some (overB z b) := by
  unfold spec_l31Over.f spec_l31In.f overB
  by_cases h0 : b.f0 ≥ z.f1 <;> by_cases h1 : b.f0 ≤ z.f3 <;> by_cases h2 : b.f1 ≥ z.f2 <;> simp [h0, h1, h2]
theorem over_impl (z : S48) (b : S56) : impl_HandZone_over.f z.f0 z.f1 z.f2 z.f3 z.f4 b.f0 b.f1 = some (overB z b) := by
  unfold impl_HandZone_over.f impl_within.f overB
  by_cases h0 : b.f0 ≥ z.f1 <;> by_cases h1 : b.f0 ≤ z.f3 <;> by_cases h2 : b.f1 ≥ z.f2 <;> simp [h0, h1, h2]
def coverB (zs : List S48) (b : S56) (d i : Nat) : Bool := anyN (fun j => overB (rd_T48 zs (j : Int)) b) d i
/-- From box i on, d boxes: each is ok, and under some zone. -/
def tubeAll (zs : List S48) (bs : List S56) : Nat → Nat → Bool
  | 0, _ => true
  | d + 1, i => if coverB zs (rd_T56 bs (i : Int)) zs.length 0 = true then (if boxOk (rd_T56 bs (i : Int)) = true then tubeAll zs bs d (i + 1) else false) else false
def tubeOf (zs : List S48) (bs : List S56) : Bool := if zonesOk zs = true ∧ 1 ≤ bs.length ∧ bs.length ≤ 20 then tubeAll zs bs bs.length 0 else false
theorem zones_len {zs : List S48} (h : zonesOk zs = true) : zs.length ≤ 4 := by
  unfold zonesOk at h
  rw [Bool.and_eq_true] at h
  exact (of_decide_eq_true h.1).2
theorem tube_spec (zs : List S48) (bs : List S56) (hx : ∀ i : Nat, i < zs.length → (rd_T48 zs (i : Int)).f0.size ≤ 9223372036854775807) : Ev (fun k => spec_HandTubeOk.f k zs bs) (tubeOf zs bs) := by
  have bad : Ev (fun k => spec_HandTubeOk.j0 k zs bs true) false := Ev.step (fun k => (by simp only [spec_HandTubeOk.j0]; exact if_pos trivial)) (Ev.val _)
  unfold spec_HandTubeOk.f tubeOf
  refine Ev.bind (spec_zones zs hx) ?_
  by_cases hz : zonesOk zs = true
  · refine Ev.ite_pos hz ?_
    have hzl := zones_len hz
    rw [spec_zin]
    simp only [Option.bind_some]
    by_cases hl : 1 ≤ bs.length ∧ bs.length ≤ 20
    · rw [if_pos ⟨hz, hl⟩, decide_eq_true (show (1 : Int) ≤ (bs.length : Int) ∧ (bs.length : Int) ≤ 20 by omega)]
      refine Ev.succ ?_
      simp only [spec_HandTubeOk.j0]
      refine Ev.ite_neg (by decide) ?_
      have go : ∀ (d i : Nat), i + d = bs.length → Ev (fun k => spec_HandTubeOk.l0 k zs bs (i : Int)) (tubeAll zs bs d i) := by
        intro d
        induction d with
        | zero =>
          intro i hi
          refine Ev.step (fun k => ?_) (Ev.val _)
          simp only [spec_HandTubeOk.l0]
          rw [if_neg (by omega)]
          rfl
        | succ d ih =>
          intro i hi
          have h := ih (i + 1) (by omega)
          rw [show (((i + 1 : Nat) : Int)) = (i : Int) + 1 by omega] at h
          have inner : ∀ (d2 j : Nat) (found : Bool), j + d2 = zs.length → Ev (fun f => spec_HandTubeOk.l1 f zs bs (i : Int) found (j : Int)) (if (found || coverB zs (rd_T56 bs (i : Int)) d2 j) = true then (if boxOk (rd_T56 bs (i : Int)) = true then tubeAll zs bs d (i + 1) else false) else false) := by
            intro d2
            induction d2 with
            | zero =>
              intro j found hj
              refine Ev.succ ?_
              simp only [spec_HandTubeOk.l1, spec_box, Option.bind_some]
              rw [w64 (show -9223372036854775808 ≤ (i : Int) + 1 by omega) (by omega)]
              refine Ev.ite_neg (by omega) ?_
              cases found with
              | true =>
                refine Ev.ite_pos rfl (Ev.ite_pos (by omega) (Ev.ite_pos (by omega) ?_))
                simp only [Bool.true_or, if_true]
                by_cases hb : boxOk (rd_T56 bs (i : Int)) = true
                · exact Ev.ite_pos hb (Ev.cast h (if_pos hb).symm)
                · exact Ev.ite_neg hb (Ev.cast (Ev.val _) (if_neg hb).symm)
              | false => exact Ev.ite_neg (by simp) (Ev.cast (Ev.val _) (by simp [coverB, anyN, findN]))
            | succ d2 ih2 =>
              intro j found hj
              refine Ev.succ ?_
              simp only [spec_HandTubeOk.l1, over_spec, Option.bind_some]
              rw [w64 (show -9223372036854775808 ≤ (j : Int) + 1 by omega) (by omega)]
              refine Ev.ite_pos (by omega) ?_
              cases found with
              | true =>
                have h2 := ih2 (j + 1) true (by omega)
                rw [show (((j + 1 : Nat) : Int)) = (j : Int) + 1 by omega] at h2
                exact Ev.ite_pos rfl (Ev.cast h2 (by simp))
              | false =>
                have h2 := ih2 (j + 1) (overB (rd_T48 zs (j : Int)) (rd_T56 bs (i : Int))) (by omega)
                rw [show (((j + 1 : Nat) : Int)) = (j : Int) + 1 by omega] at h2
                refine Ev.ite_neg (by simp) (Ev.ite_pos (by omega) (Ev.ite_pos (by omega) (Ev.ite_pos (by omega) (Ev.cast h2 ?_))))
                simp only [coverB, anyN, findN, Bool.false_or]
                cases overB (rd_T48 zs (j : Int)) (rd_T56 bs (i : Int)) <;> simp
          refine Ev.succ ?_
          simp only [spec_HandTubeOk.l0]
          refine Ev.ite_pos (by omega) ?_
          exact Ev.cast (inner zs.length 0 false (by omega)) rfl
      exact go bs.length 0 (by omega)
    · rw [if_neg (fun hh => hl hh.2), decide_eq_false (show ¬ ((1 : Int) ≤ (bs.length : Int) ∧ (bs.length : Int) ≤ 20) by omega)]
      exact bad
  · rw [if_neg (fun hh => hz hh.1)]
    exact Ev.ite_neg hz bad
theorem find_ge {P : Nat → Bool} : ∀ (d i : Nat), decide (findN P (fun j => (j : Int)) (-1) d i ≥ 0) = anyN P d i
  | 0, i => by simp [findN, anyN]
  | d + 1, i => by
    simp only [findN, anyN]
    by_cases h : P i = true
    · rw [if_pos h, if_pos h]
      exact decide_eq_true (by omega)
    · rw [if_neg h, if_neg h]
      exact find_ge d (i + 1)
theorem contains_impl (zs : List S48) (b : S56) (hz : zs.length ≤ 1048576) : Ev (fun k => impl_HandZone_41.f k zs b.f0 b.f1) (coverB zs b zs.length 0) := by
  unfold impl_HandZone_41.f
  have hf : Ev (fun k => impl_HandZone_38.f k zs b.f0 b.f1) (findN (fun j => overB (rd_T48 zs (j : Int)) b) (fun j => (j : Int)) (-1) zs.length 0) := by
    unfold impl_HandZone_38.f
    refine find_loop (F := fun k j => impl_HandZone_38.l0 k zs b.f0 b.f1 (zs.length : Int) j) zs.length (fun j => overB (rd_T48 zs (j : Int)) b) (fun j => (j : Int)) _ ?_ ?_ ?_ zs.length 0 (by omega)
    · intro j hj hp
      refine Ev.step (fun k => ?_) (Ev.val _)
      simp only [impl_HandZone_38.l0, over_impl, Option.bind_some]
      rw [if_pos (show (j : Int) < (zs.length : Int) by omega), if_pos (show (0 : Int) ≤ j by omega), if_pos (show (j : Int) < (zs.length : Int) by omega), if_pos hp]
    · intro j hj hp r' hr
      refine Ev.step (fun k => ?_) hr
      simp only [impl_HandZone_38.l0, over_impl, Option.bind_some]
      rw [if_pos (show (j : Int) < (zs.length : Int) by omega), if_pos (show (0 : Int) ≤ j by omega), if_pos (show (j : Int) < (zs.length : Int) by omega), if_neg (by rw [hp]; decide), w64 (show -9223372036854775808 ≤ (j : Int) + 1 by omega) (by omega)]
    · refine Ev.step (fun k => ?_) (Ev.val _)
      simp only [impl_HandZone_38.l0]
      rw [if_neg (by omega)]
  exact Ev.bind hf (Ev.cast (Ev.val _) (find_ge _ _))
theorem tube_part (zs : List S48) (bs : List S56) (hz : zonesOk zs = true) : Ev (fun k => impl_tubeOk.f k zs bs) (tubeOf zs bs) := by
  unfold tubeOf
  have hzl := zones_len hz
  unfold impl_tubeOk.f
  rw [impl_zin]
  simp only [Option.bind_some]
  by_cases hl : 1 ≤ bs.length ∧ bs.length ≤ 20
  · rw [if_pos ⟨hz, hl⟩]
    refine Ev.ite_pos (decide_eq_true (by omega)) ?_
    have go : ∀ (d i : Nat), i + d = bs.length → Ev (fun k => impl_tubeOk.l0 k zs bs (bs.length : Int) (i : Int)) (tubeAll zs bs d i) := by
      intro d
      induction d with
      | zero =>
        intro i hi
        refine Ev.step (fun k => ?_) (Ev.val _)
        simp only [impl_tubeOk.l0]
        rw [if_neg (by omega)]
        rfl
      | succ d ih =>
        intro i hi
        have h := ih (i + 1) (by omega)
        rw [show (((i + 1 : Nat) : Int)) = (i : Int) + 1 by omega] at h
        refine Ev.succ ?_
        simp only [impl_tubeOk.l0, impl_box, Option.bind_some, tubeAll]
        rw [w64 (show -9223372036854775808 ≤ (i : Int) + 1 by omega) (by omega)]
        refine Ev.ite_pos (by omega) (Ev.ite_pos (by omega) (Ev.ite_pos (by omega) ?_))
        by_cases hb : boxOk (rd_T56 bs (i : Int)) = true
        · refine Ev.ite_pos hb (Ev.bind (contains_impl zs (rd_T56 bs (i : Int)) (by omega)) ?_)
          by_cases hc : coverB zs (rd_T56 bs (i : Int)) zs.length 0 = true
          · exact Ev.ite_pos hc (Ev.cast h (by rw [if_pos hc, if_pos hb]))
          · exact Ev.ite_neg hc (Ev.cast (Ev.val _) (if_neg hc).symm)
        · refine Ev.ite_neg hb (Ev.cast (Ev.val _) ?_)
          rw [if_neg hb]
          split <;> rfl
    exact go bs.length 0 (by omega)
  · rw [if_neg (fun hh => hl hh.2)]
    exact Ev.ite_neg (by simp only [decide_eq_true_eq]; omega) (Ev.val _)
/-! #### words -/
def isAt (zs : List S48) (nm : ByteArray) (j : Nat) : Bool := ((rd_T48 zs (j : Int)).f0.toList == nm.toList)
def atZone (zs : List S48) (nm : ByteArray) : Bool := anyN (isAt zs nm) zs.length 0
def findZone (zs : List S48) (nm : ByteArray) : Int := findN (isAt zs nm) (fun j => (j : Int)) (-1) zs.length 0
theorem at_ge (zs : List S48) (nm : ByteArray) : decide (findZone zs nm ≥ 0) = atZone zs nm := find_ge _ _
theorem spec_find (zs : List S48) (nm : ByteArray) (hz : zs.length ≤ 1048576) : Ev (fun k => spec_l32Zone.f k zs nm) (findZone zs nm) := by
  unfold spec_l32Zone.f
  refine find_loop (F := fun k j => spec_l32Zone.l0 k zs nm j) zs.length (isAt zs nm) (fun j => (j : Int)) _ ?_ ?_ ?_ zs.length 0 (by omega)
  · intro j hj hp
    refine Ev.step (fun k => ?_) (Ev.val _)
    simp only [spec_l32Zone.l0]
    rw [if_pos (show (j : Int) < (zs.length : Int) by omega), if_pos (show (0 : Int) ≤ j by omega), if_pos (eq_of_beq hp)]
  · intro j hj hp r' hr
    refine Ev.step (fun k => ?_) hr
    simp only [spec_l32Zone.l0]
    rw [if_pos (show (j : Int) < (zs.length : Int) by omega), if_pos (show (0 : Int) ≤ j by omega), if_neg (beq_eq_false_iff_ne.1 hp), w64 (show -9223372036854775808 ≤ (j : Int) + 1 by omega) (by omega)]
  · refine Ev.step (fun k => ?_) (Ev.val _)
    simp only [spec_l32Zone.l0]
    rw [if_neg (by omega)]
theorem impl_find (zs : List S48) (nm : ByteArray) (hz : zs.length ≤ 1048576) : Ev (fun k => impl_zoneFind.f k zs nm) (findZone zs nm) := by
  unfold impl_zoneFind.f
  refine find_loop (F := fun k j => impl_zoneFind.l0 k zs nm (zs.length : Int) j) zs.length (isAt zs nm) (fun j => (j : Int)) _ ?_ ?_ ?_ zs.length 0 (by omega)
  · intro j hj hp
    refine Ev.step (fun k => ?_) (Ev.val _)
    simp only [impl_zoneFind.l0]
    rw [if_pos (show (j : Int) < (zs.length : Int) by omega), if_pos (show (0 : Int) ≤ j by omega), if_pos (show (j : Int) < (zs.length : Int) by omega), if_pos (show ((rd_T48 zs (j : Int)).f0.toList == nm.toList) = true from hp)]
  · intro j hj hp r' hr
    refine Ev.step (fun k => ?_) hr
    simp only [impl_zoneFind.l0]
    rw [if_pos (show (j : Int) < (zs.length : Int) by omega), if_pos (show (0 : Int) ≤ j by omega), if_pos (show (j : Int) < (zs.length : Int) by omega), if_neg (show ¬ ((rd_T48 zs (j : Int)).f0.toList == nm.toList) = true from by rw [show ((rd_T48 zs (j : Int)).f0.toList == nm.toList) = false from hp]; decide), w64 (show -9223372036854775808 ≤ (j : Int) + 1 by omega) (by omega)]
  · refine Ev.step (fun k => ?_) (Ev.val _)
    simp only [impl_zoneFind.l0]
    rw [if_neg (by omega)]
def noName (s : ByteArray) : Bool := (s.toList == ([] : List UInt8))
def endsB (zs : List S48) (kd : Int) (fr tz : ByteArray) : Bool :=
  if kd = 7 then atZone zs fr && noName tz else if kd = 8 then noName fr && atZone zs tz else if kd = 9 then noName fr && atZone zs tz else atZone zs fr && atZone zs tz
def numsB (kd nu la tu : Int) : Bool := decide ((kd = 6 ∧ nu = 0 ∧ la = 0 ∧ 1 ≤ tu ∧ tu ≤ 1000000) ∨ (kd = 4 ∧ 0 ≤ nu ∧ nu ≤ la ∧ 1 ≤ la ∧ la ≤ 1000000 ∧ tu = 0) ∨ (kd = 5 ∧ 1 ≤ nu ∧ nu ≤ la ∧ la ≤ 1000000 ∧ 1 ≤ tu ∧ tu ≤ 1000000) ∨ ((kd ≠ 4 ∧ kd ≠ 5 ∧ kd ≠ 6) ∧ 1 ≤ nu ∧ nu ≤ 1000000 ∧ la = 0 ∧ tu = 0))
def tubeB (zs : List S48) (kd : Int) (bs : List S56) : Bool := if kd = 1 ∨ kd = 5 ∨ kd = 7 then tubeOf zs bs else decide (bs.length = 0)
def wordB (zs : List S48) (kd : Int) (fr tz fl : ByteArray) (nu la tu : Int) (bs : List S56) : Bool :=
  decide (1 ≤ kd ∧ kd ≤ 9) && (endsB zs kd fr tz && (nameOk fl && (numsB kd nu la tu && tubeB zs kd bs)))
theorem spec_ends (zs : List S48) (kd : Int) (fr tz fl : ByteArray) (nu la tu : Int) (bs : List S56) (hz : zs.length ≤ 1048576) : Ev (fun k => spec_l32EndsOk.f k zs kd fr tz fl nu la tu bs) (endsB zs kd fr tz) := by
  unfold spec_l32EndsOk.f endsB
  refine Ev.bind (spec_find zs fr hz) (Ev.bind (spec_find zs tz hz) ?_)
  have e1 := at_ge zs fr
  have e2 := at_ge zs tz
  rw [← e1, ← e2]
  by_cases c7 : kd = 7
  · simp only [if_pos c7]
    by_cases c : findZone zs fr ≥ 0
    · exact Ev.ite_pos c (Ev.cast (Ev.val _) (by rw [decide_eq_true c]; rfl))
    · exact Ev.ite_neg c (Ev.cast (Ev.val _) (by rw [decide_eq_false c]; rfl))
  simp only [if_neg c7]
  have nn : ∀ (g h : Nat → Option Bool) (v : Bool), Ev g v → Ev h false → Ev (fun k => if fr.toList = ([] : List UInt8) then g k else h k) (noName fr && v) := by
    intro g h v hg hh
    unfold noName
    by_cases c : fr.toList = ([] : List UInt8)
    · exact Ev.ite_pos c (Ev.cast hg (by rw [c]; rfl))
    · exact Ev.ite_neg c (Ev.cast hh (by rw [beq_eq_false_iff_ne.2 c]; rfl))
  by_cases c8 : kd = 8
  · simp only [if_pos c8]
    exact nn _ _ _ (Ev.val _) (Ev.val _)
  simp only [if_neg c8]
  by_cases c9 : kd = 9
  · simp only [if_pos c9]
    exact nn _ _ _ (Ev.val _) (Ev.val _)
  simp only [if_neg c9]
  by_cases c : findZone zs fr ≥ 0
  · exact Ev.ite_pos c (Ev.cast (Ev.val _) (by rw [decide_eq_true c]; rfl))
  · exact Ev.ite_neg c (Ev.cast (Ev.val _) (by rw [decide_eq_false c]; rfl))
def lastB (kd nu la : Int) : Bool := decide ((kd = 6 ∧ nu = 0 ∧ la = 0) ∨ (kd = 4 ∧ 1 ≤ la ∧ la ≤ 1000000 ∧ nu ≤ la) ∨ (kd = 5 ∧ 1 ≤ la ∧ la ≤ 1000000 ∧ nu ≤ la ∧ 0 < nu) ∨ ((kd ≠ 4 ∧ kd ≠ 5 ∧ kd ≠ 6) ∧ 0 < nu ∧ la = 0))
theorem spec_last (kd : Int) (fr tz fl : ByteArray) (nu la tu : Int) (bs : List S56) : spec_l32LastOk.f kd fr tz fl nu la tu bs = some (lastB kd nu la) := by
  unfold spec_l32LastOk.f lastB
  simp only [spec_zin, Option.bind_some]
  by_cases c6 : kd = 6
  · rw [if_pos c6]
    by_cases c : nu = 0
    · rw [if_pos c]; congr 1; rw [Bool.eq_iff_iff]; simp only [beq_iff_eq, decide_eq_true_eq]; omega
    · rw [if_neg c]; congr 1; rw [Bool.eq_iff_iff]; simp only [decide_eq_true_eq, Bool.false_eq_true, false_iff]; omega
  rw [if_neg c6]
  by_cases c4 : kd = 4
  · rw [if_pos c4]
    by_cases h1 : 1 ≤ la ∧ la ≤ 1000000
    · rw [decide_eq_true h1, if_pos rfl]
      by_cases h2 : nu ≤ la
      · rw [if_pos h2]
        by_cases h3 : nu > 0
        · rw [if_pos h3]; congr 1; rw [Bool.eq_iff_iff]; simp only [decide_eq_true_eq, true_iff]; omega
        · rw [if_neg h3]; congr 1; rw [Bool.eq_iff_iff]; simp only [beq_iff_eq, decide_eq_true_eq]; omega
      · rw [if_neg h2]; congr 1; rw [Bool.eq_iff_iff]; simp only [decide_eq_true_eq, Bool.false_eq_true, false_iff]; omega
    · rw [decide_eq_false h1, if_neg (by decide)]; congr 1; rw [Bool.eq_iff_iff]; simp only [decide_eq_true_eq, Bool.false_eq_true, false_iff]; omega
  rw [if_neg c4]
  by_cases c5 : kd = 5
  · rw [if_pos c5]
    by_cases h1 : 1 ≤ la ∧ la ≤ 1000000
    · rw [decide_eq_true h1, if_pos rfl]
      by_cases h2 : nu ≤ la
      · rw [if_pos h2]
        by_cases h3 : nu > 0
        · rw [if_pos h3]; congr 1; rw [Bool.eq_iff_iff]; simp only [decide_eq_true_eq, true_iff]; omega
        · rw [if_neg h3]; congr 1; rw [Bool.eq_iff_iff]; simp only [beq_iff_eq, decide_eq_true_eq]; omega
      · rw [if_neg h2]; congr 1; rw [Bool.eq_iff_iff]; simp only [decide_eq_true_eq, Bool.false_eq_true, false_iff]; omega
    · rw [decide_eq_false h1, if_neg (by decide)]; congr 1; rw [Bool.eq_iff_iff]; simp only [decide_eq_true_eq, Bool.false_eq_true, false_iff]; omega
  rw [if_neg c5]
  by_cases h3 : nu > 0
  · rw [if_pos h3]; congr 1; rw [Bool.eq_iff_iff]; simp only [beq_iff_eq, decide_eq_true_eq]; omega
  · rw [if_neg h3]; congr 1; rw [Bool.eq_iff_iff]; simp only [decide_eq_true_eq, Bool.false_eq_true, false_iff]; omega
theorem spec_has (kd : Int) : spec_l32HasTube.f kd = some (decide (kd = 1 ∨ kd = 5 ∨ kd = 7)) := by
  unfold spec_l32HasTube.f
  by_cases c1 : kd = 1
  · rw [if_pos c1, decide_eq_true (Or.inl c1)]
  rw [if_neg c1]
  by_cases c5 : kd = 5
  · rw [if_pos c5, decide_eq_true (Or.inr (Or.inl c5))]
  rw [if_neg c5]
  congr 1; rw [Bool.eq_iff_iff]; simp only [beq_iff_eq, decide_eq_true_eq]; omega
section
variable (zs : List S48) (kd : Int) (fr tz fl : ByteArray) (nu la tu : Int) (bs : List S56) (hx : ∀ i : Nat, i < zs.length → (rd_T48 zs (i : Int)).f0.size ≤ 9223372036854775807) (hfl : fl.size ≤ 9223372036854775807)
theorem bad2 : Ev (fun k => spec_HandWordOk.j2 k zs true kd fr tz fl nu la tu bs) false := Ev.step (fun k => (by simp only [spec_HandWordOk.j2]; exact if_pos trivial)) (Ev.val _)
theorem bad0 : Ev (fun k => spec_HandWordOk.j0 k zs true kd fr tz fl nu la tu bs) false := Ev.step (fun k => (by simp only [spec_HandWordOk.j0]; exact if_pos trivial)) (Ev.val _)
include hx
theorem spec_j2 : Ev (fun k => spec_HandWordOk.j2 k zs false kd fr tz fl nu la tu bs) (tubeB zs kd bs) := by
  refine Ev.succ ?_
  simp only [spec_HandWordOk.j2, spec_has, Option.bind_some]
  refine Ev.ite_neg (by decide) ?_
  unfold tubeB
  by_cases c : kd = 1 ∨ kd = 5 ∨ kd = 7
  · rw [if_pos c]
    exact Ev.ite_pos (decide_eq_true c) (Ev.bind (tube_spec zs bs hx) (Ev.val _))
  · rw [if_neg c]
    refine Ev.ite_neg (by rw [decide_eq_false c]; decide) (Ev.cast (Ev.val _) ?_)
    rw [Bool.eq_iff_iff]; simp only [beq_iff_eq, decide_eq_true_eq]; omega
theorem spec_j1 : Ev (fun k => spec_HandWordOk.j1 k zs (decide (kd = 5 ∨ kd = 6)) kd fr tz fl nu la tu bs) (numsB kd nu la tu && tubeB zs kd bs) := by
  refine Ev.succ ?_
  simp only [spec_HandWordOk.j1, spec_zin, spec_last, Option.bind_some]
  by_cases c1 : decide (kd = 5 ∨ kd = 6) = decide (tu > 0)
  · refine Ev.ite_neg (by rw [c1]; simp) ?_
    have d1 : (kd = 5 ∨ kd = 6) ↔ tu > 0 := by
      have := Bool.eq_iff_iff.1 c1
      simpa only [decide_eq_true_eq] using this
    by_cases c2 : 0 ≤ tu ∧ tu ≤ 1000000
    · refine Ev.ite_pos (decide_eq_true c2) ?_
      by_cases c3 : 0 ≤ nu ∧ nu ≤ 1000000
      · refine Ev.ite_pos (decide_eq_true c3) ?_
        have e : lastB kd nu la = numsB kd nu la tu := by
          unfold lastB numsB
          rw [Bool.eq_iff_iff]; simp only [decide_eq_true_eq]; omega
        rw [e]
        cases numsB kd nu la tu with
        | false => exact bad2 zs kd fr tz fl nu la tu bs
        | true => exact spec_j2 zs kd fr tz fl nu la tu bs hx
      · refine Ev.ite_neg (by rw [decide_eq_false c3]; decide) (Ev.cast (bad2 zs kd fr tz fl nu la tu bs) ?_)
        rw [show numsB kd nu la tu = false from by unfold numsB; refine decide_eq_false ?_; omega]; rfl
    · refine Ev.ite_neg (by rw [decide_eq_false c2]; decide) (Ev.cast (bad2 zs kd fr tz fl nu la tu bs) ?_)
      rw [show numsB kd nu la tu = false from by unfold numsB; refine decide_eq_false ?_; omega]; rfl
  · refine Ev.ite_pos (by simpa using c1) (Ev.cast (bad2 zs kd fr tz fl nu la tu bs) ?_)
    have d1 : ¬ ((kd = 5 ∨ kd = 6) ↔ tu > 0) := fun h => c1 (by rw [Bool.eq_iff_iff]; simpa only [decide_eq_true_eq] using h)
    rw [show numsB kd nu la tu = false from by unfold numsB; refine decide_eq_false ?_; omega]; rfl
theorem spec_j0 : Ev (fun k => spec_HandWordOk.j0 k zs false kd fr tz fl nu la tu bs) (numsB kd nu la tu && tubeB zs kd bs) := by
  have h := spec_j1 zs kd fr tz fl nu la tu bs hx
  refine Ev.succ ?_
  simp only [spec_HandWordOk.j0]
  refine Ev.ite_neg (by decide) ?_
  by_cases c5 : kd = 5
  · rw [decide_eq_true (Or.inl c5)] at h
    exact Ev.ite_pos c5 h
  · refine Ev.ite_neg c5 ?_
    rw [show (kd == 6) = decide (kd = 5 ∨ kd = 6) from by rw [Bool.eq_iff_iff]; simp only [beq_iff_eq, decide_eq_true_eq]; omega]
    exact h
include hfl
theorem word_spec (hz : zs.length ≤ 1048576) : Ev (fun k => spec_HandWordOk.f k zs kd fr tz fl nu la tu bs) (zonesOk zs && wordB zs kd fr tz fl nu la tu bs) := by
  unfold spec_HandWordOk.f wordB
  refine Ev.bind (spec_zones zs hx) ?_
  have b0 := bad0 zs kd fr tz fl nu la tu bs
  cases hzo : zonesOk zs with
  | false => exact Ev.ite_neg (by decide) b0
  | true =>
    refine Ev.ite_pos rfl ?_
    rw [spec_zin]
    simp only [Option.bind_some]
    by_cases hk : 1 ≤ kd ∧ kd ≤ 9
    · rw [decide_eq_true hk]
      refine Ev.ite_pos rfl (Ev.bind (spec_ends zs kd fr tz fl nu la tu bs hz) ?_)
      cases endsB zs kd fr tz with
      | false => exact Ev.ite_neg (by decide) b0
      | true =>
        refine Ev.ite_pos rfl (Ev.bind (spec_name fl hfl) ?_)
        cases nameOk fl with
        | false => exact b0
        | true => exact spec_j0 zs kd fr tz fl nu la tu bs hx
    · rw [decide_eq_false hk]
      exact Ev.ite_neg (by decide) b0
omit hx hfl in
theorem num_ev (x : Int) : impl_number.f x = some (decide (1 ≤ x ∧ x ≤ 1000000)) := by
  unfold impl_number.f
  rw [impl_zin]; rfl
omit hx hfl in
theorem c1_ev (n : Bool) {g : Nat → Option Bool} {v : Bool} (hg : Ev g v) : Ev (fun k => impl_wordOk.c1 n kd nu (g k)) ((if n = true then decide ((1 ≤ nu ∧ nu ≤ 1000000) ∨ (kd = 4 ∧ nu = 0)) else decide (nu = 0)) && v) := by
  unfold impl_wordOk.c1
  simp only [num_ev, Option.bind_some]
  cases n with
  | true =>
    refine Ev.ite_pos rfl ?_
    simp only [if_true]
    by_cases c : 1 ≤ nu ∧ nu ≤ 1000000
    · exact Ev.ite_pos (decide_eq_true c) (Ev.cast hg (by rw [decide_eq_true (Or.inl c)]; rfl))
    · refine Ev.ite_neg (by rw [decide_eq_false c]; decide) ?_
      by_cases c4 : kd = 4
      · refine Ev.ite_pos c4 ?_
        by_cases c0 : nu = 0
        · exact Ev.ite_pos c0 (Ev.cast hg (by rw [decide_eq_true (Or.inr ⟨c4, c0⟩)]; rfl))
        · exact Ev.ite_neg c0 (Ev.cast (Ev.val _) (by rw [decide_eq_false (by omega)]; rfl))
      · exact Ev.ite_neg c4 (Ev.cast (Ev.val _) (by rw [decide_eq_false (by omega)]; rfl))
  | false =>
    refine Ev.ite_neg (by decide) ?_
    simp only [Bool.false_eq_true, if_false]
    by_cases c0 : nu = 0
    · exact Ev.ite_pos c0 (Ev.cast hg (by rw [decide_eq_true c0]; rfl))
    · exact Ev.ite_neg c0 (Ev.cast (Ev.val _) (by rw [decide_eq_false c0]; rfl))
omit hx hfl in
theorem c2_ev (n : Bool) {g : Nat → Option Bool} {v : Bool} (hg : Ev g v) : Ev (fun k => impl_wordOk.c2 n nu la (g k)) ((if n = true then decide ((1 ≤ la ∧ la ≤ 1000000) ∧ nu ≤ la) else decide (la = 0)) && v) := by
  unfold impl_wordOk.c2
  simp only [num_ev, Option.bind_some]
  cases n with
  | true =>
    refine Ev.ite_pos rfl ?_
    simp only [if_true]
    by_cases c : 1 ≤ la ∧ la ≤ 1000000
    · refine Ev.ite_pos (decide_eq_true c) ?_
      by_cases c0 : la < nu
      · exact Ev.ite_pos c0 (Ev.cast (Ev.val _) (by rw [decide_eq_false (by omega)]; rfl))
      · exact Ev.ite_neg c0 (Ev.cast hg (by rw [decide_eq_true ⟨c, by omega⟩]; rfl))
    · exact Ev.ite_neg (by rw [decide_eq_false c]; decide) (Ev.cast (Ev.val _) (by rw [decide_eq_false (fun h => c h.1)]; rfl))
  | false =>
    refine Ev.ite_neg (by decide) ?_
    simp only [Bool.false_eq_true, if_false]
    by_cases c0 : la = 0
    · exact Ev.ite_pos c0 (Ev.cast hg (by rw [decide_eq_true c0]; rfl))
    · exact Ev.ite_neg c0 (Ev.cast (Ev.val _) (by rw [decide_eq_false c0]; rfl))
omit hx hfl in
theorem c3_ev (n : Bool) {g : Nat → Option Bool} {v : Bool} (hg : Ev g v) : Ev (fun k => impl_wordOk.c3 n tu (g k)) ((if n = true then decide (1 ≤ tu ∧ tu ≤ 1000000) else decide (tu = 0)) && v) := by
  unfold impl_wordOk.c3
  simp only [num_ev, Option.bind_some]
  cases n with
  | true =>
    refine Ev.ite_pos rfl ?_
    simp only [if_true]
    by_cases c : 1 ≤ tu ∧ tu ≤ 1000000
    · exact Ev.ite_pos (decide_eq_true c) (Ev.cast hg (by rw [decide_eq_true c]; rfl))
    · exact Ev.ite_neg (by rw [decide_eq_false c]; decide) (Ev.cast (Ev.val _) (by rw [decide_eq_false c]; rfl))
  | false =>
    refine Ev.ite_neg (by decide) ?_
    simp only [Bool.false_eq_true, if_false]
    by_cases c0 : tu = 0
    · exact Ev.ite_pos c0 (Ev.cast hg (by rw [decide_eq_true c0]; rfl))
    · exact Ev.ite_neg c0 (Ev.cast (Ev.val _) (by rw [decide_eq_false c0]; rfl))
omit hx hfl in
theorem c4_ev (n : Bool) (ho : zonesOk zs = true) : Ev (fun k => impl_wordOk.c4 n k zs bs) (if n = true then tubeOf zs bs else decide (bs.length = 0)) := by
  unfold impl_wordOk.c4
  cases n with
  | true => exact Ev.ite_pos rfl (tube_part zs bs ho)
  | false =>
    refine Ev.ite_neg (by decide) ?_
    simp only [Bool.false_eq_true, if_false]
    by_cases c0 : bs.length = 0
    · exact Ev.ite_pos (by omega) (Ev.cast (Ev.val _) (decide_eq_true c0).symm)
    · exact Ev.ite_neg (by omega) (Ev.cast (Ev.val _) (decide_eq_false c0).symm)
omit hfl in
theorem g_ev (n lz tt tb : Bool) (ho : zonesOk zs = true) (h : numsB kd nu la tu = ((if n = true then decide ((1 ≤ nu ∧ nu ≤ 1000000) ∨ (kd = 4 ∧ nu = 0)) else decide (nu = 0)) && ((if lz = true then decide ((1 ≤ la ∧ la ≤ 1000000) ∧ nu ≤ la) else decide (la = 0)) && (if tt = true then decide (1 ≤ tu ∧ tu ≤ 1000000) else decide (tu = 0)))))
    (h2 : tubeB zs kd bs = (if tb = true then tubeOf zs bs else decide (bs.length = 0))) : Ev (fun k => impl_wordOk.g k n lz tt tb zs kd nu la tu bs) (numsB kd nu la tu && tubeB zs kd bs) := by
  unfold impl_wordOk.g
  rw [h, h2, Bool.and_assoc, Bool.and_assoc]
  exact c1_ev kd nu n (c2_ev nu la lz (c3_ev tu tt (c4_ev zs bs tb ho)))
omit hx in
theorem e_ev (f1 f2 : Bool) {g : Nat → Option Bool} {v : Bool} (hg : Ev g v) : Ev (fun k => impl_wordOk.e k f1 f2 fl (g k)) ((f1 && f2) && (nameOk fl && v)) := by
  unfold impl_wordOk.e
  cases f1 with
  | false => exact Ev.ite_neg (by decide) (Ev.val _)
  | true =>
    refine Ev.ite_pos rfl ?_
    cases f2 with
    | false => exact Ev.ite_neg (by decide) (Ev.val _)
    | true =>
      refine Ev.ite_pos rfl (Ev.bind (impl_name fl hfl) ?_)
      cases nameOk fl with
      | false => exact Ev.ite_neg (by decide) (Ev.val _)
      | true => exact Ev.ite_pos rfl hg
theorem word_part (ho : zonesOk zs = true) (hz : zs.length ≤ 1048576) : Ev (fun k => impl_wordOk.f k zs kd fr tz fl nu la tu bs) (wordB zs kd fr tz fl nu la tu bs) := by
  unfold impl_wordOk.f
  refine Ev.bind (impl_find zs fr hz) (Ev.bind (impl_find zs tz hz) ?_)
  unfold impl_wordOk.d
  rw [show decide (0 ≤ findZone zs fr) = atZone zs fr from at_ge zs fr, show decide (0 ≤ findZone zs tz) = atZone zs tz from at_ge zs tz]
  unfold wordB
  have nums : ∀ (n lz tt tb : Bool), (kd = 7 ∨ kd = 8 ∨ kd = 9 ∨ kd = 1 ∨ kd = 2 ∨ kd = 3 ∨ kd = 4 ∨ kd = 5 ∨ kd = 6) → (n = decide (kd ≠ 6)) → (lz = decide (kd = 4 ∨ kd = 5)) → (tt = decide (kd = 5 ∨ kd = 6)) → (tb = decide (kd = 1 ∨ kd = 5 ∨ kd = 7)) → Ev (fun k => impl_wordOk.g k n lz tt tb zs kd nu la tu bs) (numsB kd nu la tu && tubeB zs kd bs) := by
    intro n lz tt tb hk h1 h2 h3 h4
    refine g_ev zs kd nu la tu bs hx n lz tt tb ho ?_ ?_
    · rw [h1, h2, h3]
      unfold numsB
      by_cases k6 : kd = 6
      · rw [decide_eq_false (show ¬ kd ≠ 6 by omega), decide_eq_false (show ¬ (kd = 4 ∨ kd = 5) by omega), decide_eq_true (show kd = 5 ∨ kd = 6 by omega)]
        simp only [Bool.false_eq_true, if_false, if_true]
        rw [Bool.eq_iff_iff]; simp only [Bool.and_eq_true, decide_eq_true_eq]; omega
      · rw [decide_eq_true (show kd ≠ 6 by omega)]
        by_cases k5 : kd = 5
        · rw [decide_eq_true (show kd = 4 ∨ kd = 5 by omega), decide_eq_true (show kd = 5 ∨ kd = 6 by omega)]
          simp only [if_true]
          rw [Bool.eq_iff_iff]; simp only [Bool.and_eq_true, decide_eq_true_eq]; omega
        · rw [decide_eq_false (show ¬ (kd = 5 ∨ kd = 6) by omega)]
          by_cases k4 : kd = 4
          · rw [decide_eq_true (show kd = 4 ∨ kd = 5 by omega)]
            simp only [Bool.false_eq_true, if_false, if_true]
            rw [Bool.eq_iff_iff]; simp only [Bool.and_eq_true, decide_eq_true_eq]; omega
          · rw [decide_eq_false (show ¬ (kd = 4 ∨ kd = 5) by omega)]
            simp only [Bool.false_eq_true, if_false, if_true]
            rw [Bool.eq_iff_iff]; simp only [Bool.and_eq_true, decide_eq_true_eq]; omega
    · unfold tubeB
      rw [h4]
      by_cases c : kd = 1 ∨ kd = 5 ∨ kd = 7
      · rw [if_pos c, if_pos (decide_eq_true c)]
      · rw [if_neg c, if_neg (by rw [decide_eq_false c]; decide)]
  have ok : ∀ (b : Bool) (F : Nat → Option Bool), (1 ≤ kd ∧ kd ≤ 9) → endsB zs kd fr tz = b → Ev F (b && (nameOk fl && (numsB kd nu la tu && tubeB zs kd bs))) → Ev F (decide (1 ≤ kd ∧ kd ≤ 9) && (endsB zs kd fr tz && (nameOk fl && (numsB kd nu la tu && tubeB zs kd bs)))) := by
    intro b F h1 h2 h3
    rw [decide_eq_true h1, h2]; exact h3
  have sm : ∀ (m : Int) (p : Prop) [Decidable p], kd = m → p → decide p = true := fun _ p _ _ hp => decide_eq_true hp
  by_cases c7 : kd = 7
  · refine ok (atZone zs fr && noName tz) _ (by omega) (by unfold endsB; rw [if_pos c7]) (Ev.ite_pos c7 (e_ev fl hfl _ _ (nums _ _ _ _ (by omega) ?_ ?_ ?_ ?_)))
    all_goals (subst c7; rfl)
  by_cases c8 : kd = 8
  · refine ok (noName fr && atZone zs tz) _ (by omega) (by unfold endsB; rw [if_neg c7, if_pos c8]) (Ev.ite_neg c7 (Ev.ite_pos c8 (e_ev fl hfl _ _ (nums _ _ _ _ (by omega) ?_ ?_ ?_ ?_))))
    all_goals (subst c8; rfl)
  by_cases c9 : kd = 9
  · refine ok (noName fr && atZone zs tz) _ (by omega) (by unfold endsB; rw [if_neg c7, if_neg c8, if_pos c9]) (Ev.ite_neg c7 (Ev.ite_neg c8 (Ev.ite_pos c9 (e_ev fl hfl _ _ (nums _ _ _ _ (by omega) ?_ ?_ ?_ ?_)))))
    all_goals (subst c9; rfl)
  have he : endsB zs kd fr tz = (atZone zs fr && atZone zs tz) := by unfold endsB; rw [if_neg c7, if_neg c8, if_neg c9]
  refine Ev.ite_neg c7 (Ev.ite_neg c8 (Ev.ite_neg c9 ?_))
  by_cases c1 : kd = 1
  · refine ok _ _ (by omega) he (e_ev fl hfl _ _ (Ev.ite_pos c1 (nums _ _ _ _ (by omega) ?_ ?_ ?_ ?_)))
    all_goals (subst c1; rfl)
  by_cases c2 : kd = 2
  · refine ok _ _ (by omega) he (e_ev fl hfl _ _ (Ev.ite_neg c1 (Ev.ite_pos c2 (nums _ _ _ _ (by omega) ?_ ?_ ?_ ?_))))
    all_goals (subst c2; rfl)
  by_cases c3 : kd = 3
  · refine ok _ _ (by omega) he (e_ev fl hfl _ _ (Ev.ite_neg c1 (Ev.ite_neg c2 (Ev.ite_pos c3 (nums _ _ _ _ (by omega) ?_ ?_ ?_ ?_)))))
    all_goals (subst c3; rfl)
  by_cases c4 : kd = 4
  · refine ok _ _ (by omega) he (e_ev fl hfl _ _ (Ev.ite_neg c1 (Ev.ite_neg c2 (Ev.ite_neg c3 (Ev.ite_pos c4 (nums _ _ _ _ (by omega) ?_ ?_ ?_ ?_))))))
    all_goals (subst c4; rfl)
  by_cases c5 : kd = 5
  · refine ok _ _ (by omega) he (e_ev fl hfl _ _ (Ev.ite_neg c1 (Ev.ite_neg c2 (Ev.ite_neg c3 (Ev.ite_neg c4 (Ev.ite_pos c5 (nums _ _ _ _ (by omega) ?_ ?_ ?_ ?_)))))))
    all_goals (subst c5; rfl)
  by_cases c6 : kd = 6
  · refine ok _ _ (by omega) he (e_ev fl hfl _ _ (Ev.ite_neg c1 (Ev.ite_neg c2 (Ev.ite_neg c3 (Ev.ite_neg c4 (Ev.ite_neg c5 (Ev.ite_pos c6 (nums _ _ _ _ (by omega) ?_ ?_ ?_ ?_))))))))
    all_goals (subst c6; rfl)
  · refine Ev.cast (e_ev fl hfl (atZone zs fr) (atZone zs tz) (Ev.ite_neg c1 (Ev.ite_neg c2 (Ev.ite_neg c3 (Ev.ite_neg c4 (Ev.ite_neg c5 (Ev.ite_neg c6 (Ev.val false)))))))) ?_
    rw [decide_eq_false (show ¬ (1 ≤ kd ∧ kd ≤ 9) by omega), Bool.and_false, Bool.and_false]; rfl
theorem word_impl (hz : zs.length ≤ 1048576) : Ev (fun k => impl_HandWordOk.f k zs kd fr tz fl nu la tu bs) (zonesOk zs && wordB zs kd fr tz fl nu la tu bs) := by
  unfold impl_HandWordOk.f
  refine Ev.bind (impl_zones zs hx) ?_
  cases ho : zonesOk zs with
  | false => exact Ev.ite_neg (by decide) (Ev.val _)
  | true => exact Ev.ite_pos rfl (Ev.bind (word_part zs kd fr tz fl nu la tu bs hx hfl ho hz) (Ev.val _))
end
theorem FnExactHandWordOk : Said := by
  intro x kd fr tz fl nu la tu ys ⟨hm, hx⟩ ⟨_, hfr, htz, hfl, _, _, _, hy, _⟩
  refine Ev.rounds (r := true) ?_
  unfold laws_FnExactHandWordOk.f
  obtain ⟨r, hr, hle, hge, hin⟩ := szHandZoneS_ev x hm (fun y hy => (hx y hy).1) 1048576 (by omega) (by omega)
  refine Ev.bind hr ?_
  by_cases h : r < 0
  · exact Ev.ite_pos h (Ev.val _)
  · have hl : x.length ≤ 1048576 := by have := hin (by omega); omega
    have hl' : (x.map conv_toHandZoneS).length ≤ 1048576 := by rw [List.length_map]; exact hl
    have hs : ∀ i : Nat, i < (x.map conv_toHandZoneS).length → (rd_T48 (x.map conv_toHandZoneS) (i : Int)).f0.size ≤ 9223372036854775807 := by
      intro i hi
      rw [List.length_map] at hi
      have e : rd_T48 (x.map conv_toHandZoneS) (i : Int) = conv_toHandZoneS x[i] := by
        show (x.map conv_toHandZoneS).getD ((i : Int)).toNat _ = _
        rw [Int.toNat_natCast, List.getD_eq_getElem?_getD, List.getElem?_map, List.getElem?_eq_getElem hi]; rfl
      rw [e]
      exact (hx _ (List.getElem_mem hi)).1
    refine Ev.ite_neg h ?_
    unfold laws_szHandWord.f
    rw [w64 (n := r - (fr.size : Int)) (by omega) (by omega)]
    by_cases s1 : r - (fr.size : Int) < 0
    · rw [if_pos s1]; simp only [Option.bind_some]; exact Ev.ite_pos (by omega) (Ev.val _)
    rw [if_neg s1, w64 (n := r - (fr.size : Int) - (tz.size : Int)) (by omega) (by omega)]
    by_cases s2 : r - (fr.size : Int) - (tz.size : Int) < 0
    · rw [if_pos s2]; simp only [Option.bind_some]; exact Ev.ite_pos (by omega) (Ev.val _)
    rw [if_neg s2, w64 (n := r - (fr.size : Int) - (tz.size : Int) - (fl.size : Int)) (by omega) (by omega)]
    by_cases s3 : r - (fr.size : Int) - (tz.size : Int) - (fl.size : Int) < 0
    · rw [if_pos s3]; simp only [Option.bind_some]; exact Ev.ite_pos (by omega) (Ev.val _)
    rw [if_neg s3, szHandBoxS_eq ys hy _ (by omega) (by omega)]
    simp only [Option.bind_some]
    by_cases h2 : (ys.length : Int) ≤ r - (fr.size : Int) - (tz.size : Int) - (fl.size : Int)
    · have hl2 : ys.length ≤ 1048576 := by omega
      have m2 : (ys.map conv_toHandBoxS).length ≤ 1048576 := by rw [List.length_map]; exact hl2
      rw [if_pos h2, if_neg (show ¬ (r - (fr.size : Int) - (tz.size : Int) - (fl.size : Int) - (ys.length : Int)) < 0 by omega)]
      simp only [Option.bind_some]
      have tw : Ev (fun k => laws_toHandWord.f k kd fr tz fl nu la tu ys) (kd, fr, tz, fl, nu, la, tu, ys.map conv_toHandBoxS) := by
        unfold laws_toHandWord.f
        exact Ev.bind (toHandBoxS_ev ys hl2) (Ev.val _)
      have eqw : Ev (fun k => laws_eqHandWord.f k kd fr tz fl nu la tu (ys.map conv_toHandBoxS) kd fr tz fl nu la tu (ys.map conv_toHandBoxS)) true := by
        unfold laws_eqHandWord.f
        exact Ev.ite_pos rfl (Ev.ite_pos rfl (Ev.ite_pos rfl (Ev.ite_pos rfl (Ev.ite_pos rfl (Ev.ite_pos rfl (Ev.ite_pos rfl (Ev.bind (eqHandBoxS_ev _ m2) (Ev.ite_pos rfl (Ev.val _)))))))))
      refine Ev.ite_neg (by omega) (Ev.bind (toHandZoneS_ev x hl) (Ev.bind tw (Ev.bind (word_spec _ kd fr tz fl nu la tu _ hs hfl hl') (Ev.bind (toHandZoneS_ev x hl) (Ev.bind tw (Ev.bind (word_impl _ kd fr tz fl nu la tu _ hs hfl hl') (Ev.ite_neg (by simp) ?_)))))))
      exact Ev.bind (toHandZoneS_ev x hl) (Ev.bind (eqHandZoneS_ev _ hl') (Ev.ite_pos rfl (Ev.bind tw (Ev.bind eqw (Ev.ite_pos rfl (Ev.val _))))))
    · rw [if_neg h2]
      simp only [if_pos (show (-1 : Int) < 0 by decide), Option.bind_some]
      exact Ev.val _
end Go.Proofs.Ytbgcpbdnmpnjhaa.Pure
