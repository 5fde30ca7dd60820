/-
  The law FnExactPlanForm over texts and numbers: both write the same line of a change.
-/
import Derived.Lib.ItoaLen
import Derived.Lib.ItoaMem
import Derived.Lib.IndexAny
import Derived.Test.YtkphmngnanccbaaDoorSayFnExactPlanForm
import Derived.Test.YtkphmngnanccbaaDoorStdFnExactPlanForm
namespace Go.Proofs.YtkphmngnanccbaaDoor.Pure
open Go Go.RowKit Go.Proofs.YtkphmngnanccbaaDoor.QFnExactPlanForm Go.Proofs.YtkphmngnanccbaaDoorW.PrintWords Go.Proofs.YtkphmngnanccbaaDoor.Kit Go.Proofs.YtkphmngnanccbaaDoor.Opens Go.Proofs.YtkphmngnanccbaaDoor.StdFnExactPlanForm
set_option linter.unusedSimpArgs false
set_option linter.unusedVariables false
theorem size_toList (x : ByteArray) : x.data.toList.length = x.size := by rw [Array.length_toList]; rfl
theorem bt_data (x : ByteArray) (i : Nat) (h : i < x.data.toList.length) : bt x (i : Int) = ((x.data.toList[i]).toNat : Int) := by
  have hs : i < x.size := by rw [← size_toList]; exact h
  unfold bt
  rw [dif_pos (by simpa using hs)]
  rfl
/-! #### a name -/
def goodC (c : Int) : Prop := (97 ≤ c ∧ c ≤ 122) ∨ (48 ≤ c ∧ c ≤ 57) ∨ c = 45
instance (c : Int) : Decidable (goodC c) := by unfold goodC; infer_instance
theorem name_step (c : Int) {g : Nat → Option Bool} {r : Bool} (h1 : goodC c → Ev g r) (h2 : ¬ goodC c → r = false) : Ev (fun k => if c ≥ 97 then (if c ≤ 122 then g k else (if c ≥ 48 then (if c ≤ 57 then g k else (if c = 45 then g k else some false)) else (if c = 45 then g k else some false))) else (if c ≥ 48 then (if c ≤ 57 then g k else (if c = 45 then g k else some false)) else (if c = 45 then g k else some false))) r := by
  have bad : ¬ goodC c → Ev (fun _ => some false) r := fun h => Ev.cast (Ev.val _) (h2 h).symm
  have low : ¬ (97 ≤ c ∧ c ≤ 122) → Ev (fun k => if c ≥ 48 then (if c ≤ 57 then g k else (if c = 45 then g k else some false)) else (if c = 45 then g k else some false)) r := by
    intro hh
    have five : ¬ (48 ≤ c ∧ c ≤ 57) → Ev (fun k => if c = 45 then g k else some false) r := by
      intro h3
      by_cases h5 : c = 45
      · exact Ev.ite_pos h5 (h1 (Or.inr (Or.inr h5)))
      · exact Ev.ite_neg h5 (bad (by unfold goodC; omega))
    by_cases h3 : c ≥ 48
    · by_cases h4 : c ≤ 57
      · exact Ev.ite_pos h3 (Ev.ite_pos h4 (h1 (Or.inr (Or.inl ⟨h3, h4⟩))))
      · exact Ev.ite_pos h3 (Ev.ite_neg h4 (five (by omega)))
    · exact Ev.ite_neg h3 (five (by omega))
  by_cases h3 : c ≥ 97
  · by_cases h4 : c ≤ 122
    · exact Ev.ite_pos h3 (Ev.ite_pos h4 (h1 (Or.inl ⟨h3, h4⟩)))
    · exact Ev.ite_pos h3 (Ev.ite_neg h4 (low (by omega)))
  · exact Ev.ite_neg h3 (low (by omega))
def nameL (l : List UInt8) : Bool := l.all fun c => decide (goodC (c.toNat : Int))
theorem name_loop (x : ByteArray) (hx : x.size ≤ 2000000) (F : Nat → ByteArray → Int → Option Bool)
    (hs : ∀ k i, F (k + 1) x i = if i < (x.size : Int) then (if 0 ≤ i then (if (bt x i) ≥ 97 then (if (bt x i) ≤ 122 then (F k x (wrap64 (i + 1))) else (if (bt x i) ≥ 48 then (if (bt x i) ≤ 57 then (F k x (wrap64 (i + 1))) else (if ((bt x i) = 45) then (F k x (wrap64 (i + 1))) else (some false))) else (if ((bt x i) = 45) then (F k x (wrap64 (i + 1))) else (some false)))) else (if (bt x i) ≥ 48 then (if (bt x i) ≤ 57 then (F k x (wrap64 (i + 1))) else (if ((bt x i) = 45) then (F k x (wrap64 (i + 1))) else (some false))) else (if ((bt x i) = 45) then (F k x (wrap64 (i + 1))) else (some false)))) else (none)) else (some true)) :
    ∀ d i : Nat, i + d = x.size → Ev (fun k => F k x (i : Int)) (nameL (x.data.toList.drop i)) := by
  intro d
  induction d with
  | zero =>
    intro i hi
    rw [List.drop_of_length_le (by rw [size_toList]; omega)]
    refine Ev.succ ?_
    simp only [hs]
    exact Ev.ite_neg (by omega) (Ev.val _)
  | succ d ih =>
    intro i hi
    have hil : i < x.data.toList.length := by rw [size_toList]; omega
    have next := ih (i + 1) (by omega)
    rw [show (((i + 1 : Nat)) : Int) = (i : Int) + 1 by omega] at next
    rw [List.drop_eq_getElem_cons hil]
    refine Ev.succ ?_
    simp only [hs]
    rw [w64 (n := (i : Int) + 1) (by omega) (by omega), bt_data x i hil]
    refine Ev.ite_pos (by omega) (Ev.ite_pos (by omega) (name_step _ (fun h => ?_) (fun h => ?_)))
    · refine Ev.cast next ?_
      unfold nameL
      rw [List.all_cons, decide_eq_true h, Bool.true_and]
    · unfold nameL
      rw [List.all_cons, decide_eq_false h, Bool.false_and]
def nameB (x : ByteArray) : Bool := decide (1 ≤ x.size ∧ x.size ≤ 8) && nameL x.data.toList
theorem in_eq (a b c : Int) : spec_l11In.f a b c = some (decide (b ≤ a ∧ a ≤ c)) := by
  unfold spec_l11In.f
  by_cases h : a ≥ b
  · rw [if_pos h]
    by_cases h2 : a ≤ c
    · rw [decide_eq_true h2, decide_eq_true ⟨h, h2⟩]
    · rw [decide_eq_false h2, decide_eq_false (fun x => h2 x.2)]
  · rw [if_neg h, decide_eq_false (fun x => h x.1)]
theorem within_eq (a b c : Int) : impl_within.f a b c = some (decide (b ≤ a ∧ a ≤ c)) := in_eq a b c
theorem name_spec (x : ByteArray) (hx : x.size ≤ 2000000) : Ev (fun k => spec_l11NameOk.f k x) (nameB x) := by
  unfold spec_l11NameOk.f nameB
  rw [in_eq]
  simp only [Option.bind_some]
  have lp := name_loop x hx spec_l11NameOk.l0 (fun k i => by simp only [spec_l11NameOk.l0]) x.size 0 (Nat.zero_add _)
  rw [List.drop_zero] at lp
  by_cases h : 1 ≤ x.size ∧ x.size ≤ 8
  · rw [decide_eq_true h, Bool.true_and]
    exact Ev.ite_pos (decide_eq_true (by omega)) lp
  · rw [decide_eq_false h, Bool.false_and]
    exact Ev.ite_neg (by rw [decide_eq_true_eq]; omega) (Ev.val _)
theorem name_impl (x : ByteArray) (hx : x.size ≤ 2000000) : Ev (fun k => impl_isName.f k x) (nameB x) := by
  unfold impl_isName.f nameB
  have lp := name_loop x hx impl_isName.l0 (fun k i => by simp only [impl_isName.l0]) x.size 0 (Nat.zero_add _)
  rw [List.drop_zero] at lp
  by_cases h1 : (x.size : Int) < 1
  · rw [decide_eq_false (by omega : ¬ (1 ≤ x.size ∧ x.size ≤ 8)), Bool.false_and]
    refine Ev.ite_pos h1 (Ev.succ ?_)
    simp only [impl_isName.j0]
    exact Ev.ite_pos trivial (Ev.val _)
  · refine Ev.ite_neg h1 (Ev.succ ?_)
    simp only [impl_isName.j0]
    by_cases h2 : (x.size : Int) > 8
    · rw [decide_eq_false (by omega : ¬ (1 ≤ x.size ∧ x.size ≤ 8)), Bool.false_and]
      exact Ev.ite_pos (decide_eq_true h2) (Ev.val _)
    · rw [decide_eq_true (by omega : 1 ≤ x.size ∧ x.size ≤ 8), Bool.true_and]
      exact Ev.ite_neg (by rw [decide_eq_true_eq]; exact h2) lp
/-! #### a line's end in a text -/
theorem odd_ev (x : ByteArray) (hx : x.size ≤ 2000000) : Ev (fun k => spec_l12Odd.f k x) (x.data.toList.contains 10) := by
  unfold spec_l12Odd.f
  have loop : ∀ d i : Nat, i + d = x.size → Ev (fun k => spec_l12Odd.l0 k x (i : Int)) ((x.data.toList.drop i).contains 10) := by
    intro d
    induction d with
    | zero =>
      intro i hi
      rw [List.drop_of_length_le (by rw [size_toList]; omega)]
      refine Ev.succ ?_
      simp only [spec_l12Odd.l0]
      exact Ev.ite_neg (by omega) (Ev.val _)
    | succ d ih =>
      intro i hi
      have hil : i < x.data.toList.length := by rw [size_toList]; omega
      have next := ih (i + 1) (by omega)
      rw [show (((i + 1 : Nat)) : Int) = (i : Int) + 1 by omega] at next
      rw [List.drop_eq_getElem_cons hil, List.contains_cons]
      refine Ev.succ ?_
      simp only [spec_l12Odd.l0]
      rw [w64 (n := (i : Int) + 1) (by omega) (by omega), bt_data x i hil]
      by_cases hc : (10 : UInt8) = x.data.toList[i]
      · rw [beq_iff_eq.2 hc, Bool.true_or]
        exact Ev.ite_pos (by omega) (Ev.ite_pos (by omega) (Ev.ite_pos (by rw [← hc]; rfl) (Ev.val _)))
      · rw [beq_eq_false_iff_ne.2 hc, Bool.false_or]
        refine Ev.ite_pos (by omega) (Ev.ite_pos (by omega) (Ev.ite_neg (fun e => hc ?_) next))
        refine UInt8.toNat_inj.mp ?_
        show 10 = _
        omega
  have := loop x.size 0 (Nat.zero_add _)
  rw [List.drop_zero] at this
  exact this
/-! #### a number's digits -/
theorem dec_size (n : Nat) (h : n ≤ 2000000) : (⟨(Lib.decDigits n).toArray⟩ : ByteArray).size ≤ 21 := by
  have := Lib.itoa_length_le (n : Int) (by omega) (by omega)
  rw [Lib.itoa_nonneg] at this
  rw [← size_toList]
  exact this
theorem str_one (c : Nat) (h : c < 256) : strOfNums [((c : Nat) : Int)] = ⟨#[UInt8.ofNat c]⟩ := by
  simp [strOfNums]
theorem dec_ev : ∀ (m n : Nat), n ≤ m → n ≤ 2000000 → Ev (fun k => spec_l12Dec.f k (n : Int)) ⟨(Lib.decDigits n).toArray⟩ := by
  intro m
  induction m with
  | zero =>
    intro n hn hn2
    obtain rfl : n = 0 := by omega
    refine Ev.succ ?_
    simp only [spec_l12Dec.f]
    refine Ev.ite_pos (by omega) (Ev.cast (Ev.val _) ?_)
    rw [Lib.decDigits_one (by omega), w64 (n := 48 + ((0 : Nat) : Int)) (by omega) (by omega), show (48 + ((0 : Nat) : Int)) % 256 = ((48 + 0 : Nat) : Int) by omega, str_one _ (by omega)]
  | succ m ih =>
    intro n hn hn2
    refine Ev.succ ?_
    simp only [spec_l12Dec.f]
    by_cases h : n < 10
    · refine Ev.ite_pos (by omega) (Ev.cast (Ev.val _) ?_)
      rw [Lib.decDigits_one h, w64 (n := 48 + (n : Int)) (by omega) (by omega), show (48 + (n : Int)) % 256 = ((48 + n : Nat) : Int) by omega, str_one _ (by omega)]
    · have hd : Int.tdiv (n : Int) 10 = ((n / 10 : Nat) : Int) := by rw [Int.tdiv_eq_ediv_of_nonneg (by omega)]; omega
      have hm : Int.tmod (n : Int) 10 = ((n % 10 : Nat) : Int) := by rw [Int.tmod_eq_emod_of_nonneg (by omega)]; omega
      have hs := dec_size (n / 10) (by omega)
      rw [hd, hm, w64 (n := ((n / 10 : Nat) : Int)) (by omega) (by omega), w64 (n := 48 + ((n % 10 : Nat) : Int)) (by omega) (by omega), show (48 + ((n % 10 : Nat) : Int)) % 256 = ((48 + n % 10 : Nat) : Int) by omega]
      refine Ev.ite_neg (by omega) (Ev.bind (ih (n / 10) (by omega) (by omega)) ?_)
      simp only [Option.bind_some]
      rw [str_one _ (by omega)]
      refine Ev.ite_pos (by show _ + 1 ≤ _; omega) (Ev.cast (Ev.val _) ?_)
      rw [Lib.decDigits.eq_1 n, dif_neg h]
      apply ByteArray.ext
      simp [ByteArray.data_append]
/-! #### the line -/
def sp : ByteArray := ⟨#[32]⟩
def fullOf (nm vl : ByteArray) (wh no : Int) : ByteArray := ((((((((⟨#[115, 101, 116, 32]⟩ : ByteArray) ++ nm) ++ (⟨#[32]⟩ : ByteArray)) ++ (rdOf ByteArray.empty whatW wh)) ++ (⟨#[32]⟩ : ByteArray)) ++ (⟨(Lib.decDigits no.toNat).toArray⟩ : ByteArray)) ++ (⟨#[32]⟩ : ByteArray)) ++ vl)
def okB (nm vl : ByteArray) (wh no : Int) : Bool := nameB nm && decide (1 ≤ wh ∧ wh ≤ 5) && decide (1 ≤ no ∧ no ≤ 1000000) && !decide (vl.toList = []) && !vl.data.toList.contains 10
def lineOf (nm vl : ByteArray) (wh no : Int) : ByteArray := if okB nm vl wh no = true then fullOf nm vl wh no else ⟨#[]⟩
theorem what_size (wh : Int) (h1 : 1 ≤ wh) (h2 : wh ≤ 5) : (rdOf ByteArray.empty whatW wh).size ≤ 5 ∧ rdOf ByteArray.empty [(⟨#[107, 105, 110, 100]⟩ : ByteArray), (⟨#[116, 105, 109, 101]⟩ : ByteArray), (⟨#[108, 101, 118, 101, 108]⟩ : ByteArray), (⟨#[114, 111, 117, 116, 101]⟩ : ByteArray), (⟨#[115, 116, 97, 116, 101]⟩ : ByteArray)] (wh - 1) = rdOf ByteArray.empty whatW wh := by
  have : wh = 1 ∨ wh = 2 ∨ wh = 3 ∨ wh = 4 ∨ wh = 5 := by omega
  rcases this with rfl | rfl | rfl | rfl | rfl <;> exact ⟨by decide, rfl⟩
theorem sizes (nm vl a b : ByteArray) (hn : nm.size ≤ 1100000) (hv : vl.size ≤ 1100000) (ha : a.size ≤ 100) (hb : b.size ≤ 100) :
    ((⟨#[115, 101, 116, 32]⟩ : ByteArray) ++ nm).size ≤ 1200000 ∧ ((((⟨#[115, 101, 116, 32]⟩ : ByteArray) ++ nm) ++ (⟨#[32]⟩ : ByteArray))).size ≤ 1300000 ∧ ((((⟨#[115, 101, 116, 32]⟩ : ByteArray) ++ nm) ++ (⟨#[32]⟩ : ByteArray)) ++ a).size ≤ 1400000 ∧ (((((⟨#[115, 101, 116, 32]⟩ : ByteArray) ++ nm) ++ (⟨#[32]⟩ : ByteArray)) ++ a) ++ (⟨#[32]⟩ : ByteArray)).size ≤ 1500000 ∧ ((((((⟨#[115, 101, 116, 32]⟩ : ByteArray) ++ nm) ++ (⟨#[32]⟩ : ByteArray)) ++ a) ++ (⟨#[32]⟩ : ByteArray)) ++ b).size ≤ 1600000 ∧ (((((((⟨#[115, 101, 116, 32]⟩ : ByteArray) ++ nm) ++ (⟨#[32]⟩ : ByteArray)) ++ a) ++ (⟨#[32]⟩ : ByteArray)) ++ b) ++ (⟨#[32]⟩ : ByteArray)).size ≤ 1700000 := by
  have h4 : (⟨#[115, 101, 116, 32]⟩ : ByteArray).size = 4 := rfl
  have h1 : (⟨#[32]⟩ : ByteArray).size = 1 := rfl
  simp only [ByteArray.size_append, h4, h1]
  omega
theorem spec_line (nm vl : ByteArray) (wh no : Int) (hn : nm.size ≤ 1100000) (hv : vl.size ≤ 1100000) : Ev (fun k => spec_PlanForm.f k nm wh no vl) (lineOf nm vl wh no) := by
  have stop : okB nm vl wh no = false → Ev (fun k => spec_PlanForm.j0 k true nm wh no vl) (lineOf nm vl wh no) := by
    intro h
    unfold lineOf
    rw [h]
    refine Ev.succ ?_
    simp only [spec_PlanForm.j0]
    exact Ev.ite_pos trivial (Ev.val _)
  unfold spec_PlanForm.f
  refine Ev.bind (name_spec nm (by omega)) ?_
  by_cases h1 : nameB nm = true
  · refine Ev.ite_pos h1 (Ev.bind (Ev.const (in_eq no 1 1000000)) ?_)
    by_cases h2 : 1 ≤ no ∧ no ≤ 1000000
    · refine Ev.ite_pos (decide_eq_true h2) (Ev.bind (Ev.const (in_eq wh 1 5)) ?_)
      by_cases h3 : 1 ≤ wh ∧ wh ≤ 5
      · refine Ev.ite_pos (decide_eq_true h3) ?_
        by_cases h4 : vl.toList = []
        · exact Ev.ite_pos h4 (stop (by unfold okB; rw [decide_eq_true h4]; simp))
        · refine Ev.ite_neg h4 (Ev.bind (odd_ev vl (by omega)) ?_)
          by_cases h5 : vl.data.toList.contains 10 = true
          · rw [h5]
            exact stop (by unfold okB; rw [h5]; simp)
          · have h5' : vl.data.toList.contains 10 = false := Bool.eq_false_iff.2 h5
            rw [h5']
            have hok : okB nm vl wh no = true := by unfold okB; rw [h1, decide_eq_true h2, decide_eq_true h3, decide_eq_false h4, h5']; rfl
            unfold lineOf
            rw [if_pos hok]
            have hw := what_size wh h3.1 h3.2
            have hds := dec_size no.toNat (by omega)
            have hd := dec_ev no.toNat no.toNat (Nat.le_refl _) (by omega)
            rw [show ((no.toNat : Nat) : Int) = no by omega] at hd
            have hz := sizes nm vl _ _ hn hv (show (rdOf ByteArray.empty whatW wh).size ≤ 100 by omega) (show (⟨(Lib.decDigits no.toNat).toArray⟩ : ByteArray).size ≤ 100 by omega)
            refine Ev.succ ?_
            simp only [spec_PlanForm.j0]
            rw [w64 (n := wh - 1) (by omega) (by omega)]
            refine Ev.ite_neg (by decide) (Ev.ite_pos (by omega) (Ev.ite_pos (by omega) ?_))
            unfold spec_l12Words.f
            simp only [Option.bind_some, hw.2]
            exact Ev.ite_pos (by omega) (Ev.ite_pos (by show wh - 1 < 5; omega) (Ev.ite_pos (by omega) (Ev.ite_pos (by omega) (Ev.bind hd (Ev.ite_pos (by omega) (Ev.ite_pos (by omega) (Ev.ite_pos (by omega) (Ev.val _))))))))
      · exact Ev.ite_neg (by rw [decide_eq_true_eq]; exact h3) (stop (by unfold okB; rw [decide_eq_false h3]; simp))
    · exact Ev.ite_neg (by rw [decide_eq_true_eq]; exact h2) (stop (by unfold okB; rw [decide_eq_false h2]; simp))
  · exact Ev.ite_neg h1 (stop (by unfold okB; rw [Bool.eq_false_iff.2 h1]; simp))
theorem impl_line (nm vl : ByteArray) (wh no : Int) (hn : nm.size ≤ 1100000) (hv : vl.size ≤ 1100000) : Ev (fun k => impl_PlanForm.f k nm wh no vl) (lineOf nm vl wh no) := by
  have stop : okB nm vl wh no = false → Ev (fun _ => some (⟨#[]⟩ : ByteArray)) (lineOf nm vl wh no) := by
    intro h
    unfold lineOf
    rw [h]
    exact Ev.val _
  unfold impl_PlanForm.f
  refine Ev.bind (name_impl nm (by omega)) ?_
  by_cases h1 : nameB nm = true
  · refine Ev.ite_pos h1 (Ev.bind (Ev.const (within_eq wh 1 5)) ?_)
    by_cases h3 : 1 ≤ wh ∧ wh ≤ 5
    · refine Ev.ite_pos (decide_eq_true h3) (Ev.bind (Ev.const (within_eq no 1 1000000)) ?_)
      by_cases h2 : 1 ≤ no ∧ no ≤ 1000000
      · refine Ev.ite_pos (decide_eq_true h2) ?_
        by_cases h4 : vl.toList = []
        · exact Ev.ite_pos h4 (stop (by unfold okB; rw [decide_eq_true h4]; simp))
        · refine Ev.ite_neg h4 (Ev.bind (Ev.const (show strings_Contains.f vl (⟨#[10]⟩ : ByteArray) = some (vl.data.toList.contains 10) from ?_)) ?_)
          · unfold strings_Contains.f
            rw [if_pos rfl, Lib.contains_iff_indexByte]
          by_cases h5 : vl.data.toList.contains 10 = true
          · exact Ev.ite_pos h5 (stop (by unfold okB; rw [h5]; simp))
          · refine Ev.ite_neg h5 ?_
            have h5' : vl.data.toList.contains 10 = false := Bool.eq_false_iff.2 h5
            have hok : okB nm vl wh no = true := by unfold okB; rw [h1, decide_eq_true h2, decide_eq_true h3, decide_eq_false h4, h5']; rfl
            unfold lineOf
            rw [if_pos hok]
            have hw := what_size wh h3.1 h3.2
            have hds := dec_size no.toNat (by omega)
            have hz := sizes nm vl _ _ hn hv (show (rdOf ByteArray.empty whatW wh).size ≤ 100 by omega) (show (⟨(Lib.decDigits no.toNat).toArray⟩ : ByteArray).size ≤ 100 by omega)
            have hd : strconv_Itoa_16.f no = some ⟨(Lib.decDigits no.toNat).toArray⟩ := by
              unfold strconv_Itoa_16.f Lib.itoa
              rw [if_pos (by omega), if_pos (by omega), if_neg (by omega)]
            exact Ev.ite_pos (by omega) (Ev.ite_pos (by omega) (Ev.ite_pos (by omega) (Ev.ite_pos (by show wh < 6; omega) (Ev.ite_pos (by omega) (Ev.ite_pos (by omega) (Ev.bind (Ev.const hd) (Ev.ite_pos (by omega) (Ev.ite_pos (by omega) (Ev.ite_pos (by omega) (Ev.val _))))))))))
      · exact Ev.ite_neg (by rw [decide_eq_true_eq]; exact h2) (stop (by unfold okB; rw [decide_eq_false h2]; simp))
    · exact Ev.ite_neg (by rw [decide_eq_true_eq]; exact h3) (stop (by unfold okB; rw [decide_eq_false h3]; simp))
  · exact Ev.ite_neg h1 (stop (by unfold okB; rw [Bool.eq_false_iff.2 h1]; simp))
theorem FnExactPlanForm : SayFnExactPlanForm.Said := by
  intro nm wh no vl hk
  refine Ev.rounds (r := true) ?_
  unfold laws_FnExactPlanForm.f laws_szPlanChange.f laws_toPlanChange.f
  have hn := hk.1
  have hv := hk.2.2.2
  rw [w64 (n := 1048576 - (nm.size : Int)) (by omega) (by omega)]
  by_cases c0 : 1048576 - (nm.size : Int) < 0
  · simp only [if_pos c0, Option.bind_some]
    exact Ev.ite_pos (by omega) (Ev.val _)
  rw [w64 (n := 1048576 - (nm.size : Int) - (vl.size : Int)) (by omega) (by omega)]
  by_cases c1 : 1048576 - (nm.size : Int) - (vl.size : Int) < 0
  · simp only [if_neg c0, if_pos c1, Option.bind_some]
    exact Ev.ite_pos (by omega) (Ev.val _)
  simp only [if_neg c0, if_neg c1, Option.bind_some]
  refine Ev.bind (spec_line nm vl wh no (by omega) (by omega)) ?_
  refine Ev.bind (impl_line nm vl wh no (by omega) (by omega)) ?_
  exact Ev.ite_pos (by simp) (Ev.val _)
end Go.Proofs.YtkphmngnanccbaaDoor.Pure
