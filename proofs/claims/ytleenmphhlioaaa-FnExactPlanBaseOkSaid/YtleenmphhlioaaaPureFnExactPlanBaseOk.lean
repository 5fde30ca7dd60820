/-
  The law FnExactPlanBaseOk over texts, numbers and lists: both tell the same of every base.
-/
import Derived.Test.YtleenmphhlioaaaSayFnExactPlanBaseOk
import Derived.Test.YtleenmphhlioaaaStdFnExactPlanBaseOk
namespace Go.Proofs.Ytleenmphhlioaaa.Pure
open Go Go.RowKit Go.Proofs.Ytleenmphhlioaaa.QFnExactPlanBaseOk Go.Proofs.YtleenmphhlioaaaW.PrintWords Go.Proofs.Ytleenmphhlioaaa.Kit Go.Proofs.Ytleenmphhlioaaa.StdFnExactPlanBaseOk Go.Proofs.Ytleenmphhlioaaa.SayFnExactPlanBaseOk
set_option linter.unusedSimpArgs false
set_option linter.unusedVariables false
theorem size_toList (x : ByteArray) : x.data.toList.length = x.size := by rw [Array.length_toList]; rfl
theorem bt_data (x : ByteArray) (i : Nat) (h : i < x.data.toList.length) : bt x (i : Int) = ((x.data.toList[i]).toNat : Int) := by
  have hs : i < x.size := by rw [← size_toList]; exact h
  unfold bt
  rw [dif_pos (by simpa using hs)]
  rfl
/-! #### a name -/
def goodC (c : Int) : Prop := (97 ≤ c ∧ c ≤ 122) ∨ (48 ≤ c ∧ c ≤ 57) ∨ c = 45
instance (c : Int) : Decidable (goodC c) := by unfold goodC; infer_instance
theorem name_step (c : Int) {g : Nat → Option Bool} {r : Bool} (h1 : goodC c → Ev g r) (h2 : ¬ goodC c → r = false) : Ev (fun k => if c ≥ 97 then (if c ≤ 122 then g k else (if c ≥ 48 then (if c ≤ 57 then g k else (if c = 45 then g k else some false)) else (if c = 45 then g k else some false))) else (if c ≥ 48 then (if c ≤ 57 then g k else (if c = 45 then g k else some false)) else (if c = 45 then g k else some false))) r := by
  have bad : ¬ goodC c → Ev (fun _ => some false) r := fun h => Ev.cast (Ev.val _) (h2 h).symm
  have low : ¬ (97 ≤ c ∧ c ≤ 122) → Ev (fun k => if c ≥ 48 then (if c ≤ 57 then g k else (if c = 45 then g k else some false)) else (if c = 45 then g k else some false)) r := by
    intro hh
    have five : ¬ (48 ≤ c ∧ c ≤ 57) → Ev (fun k => if c = 45 then g k else some false) r := by
      intro h3
      by_cases h5 : c = 45
      · exact Ev.ite_pos h5 (h1 (Or.inr (Or.inr h5)))
      · exact Ev.ite_neg h5 (bad (by unfold goodC; omega))
    by_cases h3 : c ≥ 48
    · by_cases h4 : c ≤ 57
      · exact Ev.ite_pos h3 (Ev.ite_pos h4 (h1 (Or.inr (Or.inl ⟨h3, h4⟩))))
      · exact Ev.ite_pos h3 (Ev.ite_neg h4 (five (by omega)))
    · exact Ev.ite_neg h3 (five (by omega))
  by_cases h3 : c ≥ 97
  · by_cases h4 : c ≤ 122
    · exact Ev.ite_pos h3 (Ev.ite_pos h4 (h1 (Or.inl ⟨h3, h4⟩)))
    · exact Ev.ite_pos h3 (Ev.ite_neg h4 (low (by omega)))
  · exact Ev.ite_neg h3 (low (by omega))
def nameL (l : List UInt8) : Bool := l.all fun c => decide (goodC (c.toNat : Int))
theorem name_loop (x : ByteArray) (hx : x.size ≤ 2000000) (F : Nat → ByteArray → Int → Option Bool)
    (hs : ∀ k i, F (k + 1) x i = if i < (x.size : Int) then (if 0 ≤ i then (if (bt x i) ≥ 97 then (if (bt x i) ≤ 122 then (F k x (wrap64 (i + 1))) else (if (bt x i) ≥ 48 then (if (bt x i) ≤ 57 then (F k x (wrap64 (i + 1))) else (if ((bt x i) = 45) then (F k x (wrap64 (i + 1))) else (some false))) else (if ((bt x i) = 45) then (F k x (wrap64 (i + 1))) else (some false)))) else (if (bt x i) ≥ 48 then (if (bt x i) ≤ 57 then (F k x (wrap64 (i + 1))) else (if ((bt x i) = 45) then (F k x (wrap64 (i + 1))) else (some false))) else (if ((bt x i) = 45) then (F k x (wrap64 (i + 1))) else (some false)))) else (none)) else (some true)) :
    ∀ d i : Nat, i + d = x.size → Ev (fun k => F k x (i : Int)) (nameL (x.data.toList.drop i)) := by
  intro d
  induction d with
  | zero =>
    intro i hi
    rw [List.drop_of_length_le (by rw [size_toList]; omega)]
    refine Ev.succ ?_
    simp only [hs]
    exact Ev.ite_neg (by omega) (Ev.val _)
  | succ d ih =>
    intro i hi
    have hil : i < x.data.toList.length := by rw [size_toList]; omega
    have next := ih (i + 1) (by omega)
    rw [show (((i + 1 : Nat)) : Int) = (i : Int) + 1 by omega] at next
    rw [List.drop_eq_getElem_cons hil]
    refine Ev.succ ?_
    simp only [hs]
    rw [w64 (n := (i : Int) + 1) (by omega) (by omega), bt_data x i hil]
    refine Ev.ite_pos (by omega) (Ev.ite_pos (by omega) (name_step _ (fun h => ?_) (fun h => ?_)))
    · refine Ev.cast next ?_
      unfold nameL
      rw [List.all_cons, decide_eq_true h, Bool.true_and]
    · unfold nameL
      rw [List.all_cons, decide_eq_false h, Bool.false_and]
def nameB (x : ByteArray) : Bool := decide (1 ≤ x.size ∧ x.size ≤ 8) && nameL x.data.toList
theorem in_eq (a b c : Int) : spec_l11In.f a b c = some (decide (b ≤ a ∧ a ≤ c)) := by
  unfold spec_l11In.f
  by_cases h : a ≥ b
  · rw [if_pos h]
    by_cases h2 : a ≤ c
    · rw [decide_eq_true h2, decide_eq_true ⟨h, h2⟩]
    · rw [decide_eq_false h2, decide_eq_false (fun x => h2 x.2)]
  · rw [if_neg h, decide_eq_false (fun x => h x.1)]
theorem within_eq (a b c : Int) : impl_within.f a b c = some (decide (b ≤ a ∧ a ≤ c)) := in_eq a b c
theorem name_spec (x : ByteArray) : Ev (fun k => spec_l11NameOk.f k x) (nameB x) := by
  unfold spec_l11NameOk.f nameB
  rw [in_eq]
  simp only [Option.bind_some]
  by_cases h : 1 ≤ x.size ∧ x.size ≤ 8
  · have lp := name_loop x (by omega) spec_l11NameOk.l0 (fun k i => by simp only [spec_l11NameOk.l0]) x.size 0 (Nat.zero_add _)
    rw [List.drop_zero] at lp
    rw [decide_eq_true h, Bool.true_and]
    exact Ev.ite_pos (decide_eq_true (by omega)) lp
  · rw [decide_eq_false h, Bool.false_and]
    exact Ev.ite_neg (by rw [decide_eq_true_eq]; omega) (Ev.val _)
theorem name_impl (x : ByteArray) : Ev (fun k => impl_isName.f k x) (nameB x) := by
  unfold impl_isName.f nameB
  by_cases h1 : (x.size : Int) < 1
  · rw [decide_eq_false (by omega : ¬ (1 ≤ x.size ∧ x.size ≤ 8)), Bool.false_and]
    refine Ev.ite_pos h1 (Ev.succ ?_)
    simp only [impl_isName.j0]
    exact Ev.ite_pos trivial (Ev.val _)
  · refine Ev.ite_neg h1 (Ev.succ ?_)
    simp only [impl_isName.j0]
    by_cases h2 : (x.size : Int) > 8
    · rw [decide_eq_false (by omega : ¬ (1 ≤ x.size ∧ x.size ≤ 8)), Bool.false_and]
      exact Ev.ite_pos (decide_eq_true h2) (Ev.val _)
    · have lp := name_loop x (by omega) impl_isName.l0 (fun k i => by simp only [impl_isName.l0]) x.size 0 (Nat.zero_add _)
      rw [List.drop_zero] at lp
      rw [decide_eq_true (by omega : 1 ≤ x.size ∧ x.size ≤ 8), Bool.true_and]
      exact Ev.ite_neg (by rw [decide_eq_true_eq]; exact h2) lp
/-! #### a kind, a point -/
def kindB (x : S39) : Bool := nameB x.f0 && decide (1 ≤ x.f1 ∧ x.f1 ≤ x.f2) && decide (x.f2 ≤ 50)
def pointB (x : S42) : Bool := nameB x.f0 && decide (0 ≤ x.f1 ∧ x.f1 ≤ 15) && decide (0 ≤ x.f2 ∧ x.f2 ≤ 15)
theorem kind_spec (x : S39) : Ev (fun k => spec_l11KindOk.f k x.f0 x.f1 x.f2) (kindB x) := by
  unfold spec_l11KindOk.f kindB
  refine Ev.bind (name_spec _) ?_
  cases nameB x.f0 with
  | false => exact Ev.ite_neg (by decide) (Ev.val _)
  | true =>
    refine Ev.ite_pos rfl (Ev.bind (Ev.const (in_eq _ _ _)) ?_)
    by_cases h : 1 ≤ x.f1 ∧ x.f1 ≤ x.f2
    · rw [decide_eq_true h]
      exact Ev.ite_pos rfl (Ev.cast (Ev.val _) (by simp))
    · rw [decide_eq_false h]
      exact Ev.ite_neg (by decide) (Ev.cast (Ev.val _) (by simp))
theorem kind_impl (x : S39) : Ev (fun k => impl_kindOk.f k x.f0 x.f1 x.f2) (kindB x) := by
  unfold impl_kindOk.f kindB
  refine Ev.bind (name_impl _) ?_
  cases nameB x.f0 with
  | false => exact Ev.ite_neg (by decide) (Ev.val _)
  | true =>
    refine Ev.ite_pos rfl ?_
    by_cases h1 : 1 ≤ x.f1
    · by_cases h2 : x.f1 ≤ x.f2
      · rw [decide_eq_true (⟨h1, h2⟩ : 1 ≤ x.f1 ∧ x.f1 ≤ x.f2)]
        exact Ev.ite_pos h1 (Ev.ite_pos h2 (Ev.cast (Ev.val _) (by simp)))
      · rw [decide_eq_false (fun h => h2 h.2 : ¬ (1 ≤ x.f1 ∧ x.f1 ≤ x.f2))]
        exact Ev.ite_pos h1 (Ev.ite_neg h2 (Ev.cast (Ev.val _) (by simp)))
    · rw [decide_eq_false (fun h => h1 h.1 : ¬ (1 ≤ x.f1 ∧ x.f1 ≤ x.f2))]
      exact Ev.ite_neg h1 (Ev.cast (Ev.val _) (by simp))
theorem point_spec (x : S42) : Ev (fun k => spec_l11PointOk.f k x.f0 x.f1 x.f2) (pointB x) := by
  unfold spec_l11PointOk.f pointB
  refine Ev.bind (name_spec _) ?_
  cases nameB x.f0 with
  | false => exact Ev.ite_neg (by decide) (Ev.val _)
  | true =>
    refine Ev.ite_pos rfl (Ev.bind (Ev.const (in_eq _ _ _)) ?_)
    by_cases h : 0 ≤ x.f1 ∧ x.f1 ≤ 15
    · rw [decide_eq_true h]
      exact Ev.ite_pos rfl (Ev.bind (Ev.const (in_eq _ _ _)) (Ev.cast (Ev.val _) (by simp)))
    · rw [decide_eq_false h]
      exact Ev.ite_neg (by decide) (Ev.cast (Ev.val _) (by simp))
theorem point_impl (x : S42) : Ev (fun k => impl_pointOk.f k x.f0 x.f1 x.f2) (pointB x) := by
  unfold impl_pointOk.f pointB
  refine Ev.bind (name_impl _) ?_
  cases nameB x.f0 with
  | false => exact Ev.ite_neg (by decide) (Ev.val _)
  | true =>
    refine Ev.ite_pos rfl (Ev.bind (Ev.const (within_eq _ _ _)) ?_)
    by_cases h : 0 ≤ x.f1 ∧ x.f1 ≤ 15
    · rw [decide_eq_true h]
      exact Ev.ite_pos rfl (Ev.bind (Ev.const (within_eq _ _ _)) (Ev.cast (Ev.val _) (by simp)))
    · rw [decide_eq_false h]
      exact Ev.ite_neg (by decide) (Ev.cast (Ev.val _) (by simp))
theorem rd39 {l : List S39} {i : Nat} (h : i < l.length) : rd_T39 l (i : Int) = l[i] := rd_at h
theorem rd42 {l : List S42} {i : Nat} (h : i < l.length) : rd_T42 l (i : Int) = l[i] := rd_at h
/-! #### the points -/
def same (pts : List S42) (q i : Nat) : Prop := (rd_T42 pts (q : Int)).f1 = (rd_T42 pts (i : Int)).f1 ∧ (rd_T42 pts (q : Int)).f2 = (rd_T42 pts (i : Int)).f2
theorem seen_iff {pts : List S42} {i : Nat} (hi : i < pts.length) : ((rd_T42 pts (i : Int)).f1, (rd_T42 pts (i : Int)).f2) ∈ seenT pts (i : Int) ↔ ∃ q, q < i ∧ same pts q i := by
  unfold seenT
  rw [Int.toNat_natCast, List.mem_map]
  constructor
  · rintro ⟨p, hp, e⟩
    obtain ⟨q, hq, rfl⟩ := List.getElem_of_mem hp
    rw [List.length_take] at hq
    rw [List.getElem_take] at e
    simp only [Prod.mk.injEq] at e
    refine ⟨q, by omega, ?_⟩
    unfold same
    rw [rd42 (show q < pts.length by omega)]
    exact e
  · rintro ⟨q, hq, h1, h2⟩
    rw [rd42 (show q < pts.length by omega)] at h1 h2
    refine ⟨pts[q], ?_, by rw [h1, h2]⟩
    rw [List.mem_iff_getElem]
    exact ⟨q, by rw [List.length_take]; omega, by rw [List.getElem_take]⟩
theorem scan (ks : List S39) (pts : List S42) (hl : pts.length ≤ 1048576) (i : Nat) (hi : i < pts.length) {b : Bool} (hb : Ev (fun k => spec_PlanBaseOk.l1 k ((i : Int) + 1) ks pts) b) :
    ∀ e j : Nat, j + e = i → ((∃ q, j ≤ q ∧ q < i ∧ same pts q i) → Ev (fun k => spec_PlanBaseOk.l2 k (i : Int) (j : Int) ks pts) false) ∧ ((¬ ∃ q, j ≤ q ∧ q < i ∧ same pts q i) → Ev (fun k => spec_PlanBaseOk.l2 k (i : Int) (j : Int) ks pts) b) := by
  intro e
  induction e with
  | zero =>
    intro j hj
    refine ⟨fun ⟨q, h1, h2, _⟩ => absurd h2 (by omega), fun _ => Ev.succ ?_⟩
    simp only [spec_PlanBaseOk.l2]
    rw [w64 (n := (i : Int) + 1) (by omega) (by omega)]
    exact Ev.ite_neg (by omega) hb
  | succ e ih =>
    intro j hj
    have nx := ih (j + 1) (by omega)
    rw [show (((j + 1 : Nat)) : Int) = (j : Int) + 1 by omega] at nx
    have step : ∀ r : Bool, (same pts j i → r = false) → (¬ same pts j i → Ev (fun k => spec_PlanBaseOk.l2 k (i : Int) ((j : Int) + 1) ks pts) r) → Ev (fun k => spec_PlanBaseOk.l2 k (i : Int) (j : Int) ks pts) r := by
      intro r h1 h2
      refine Ev.succ ?_
      simp only [spec_PlanBaseOk.l2]
      rw [w64 (n := (j : Int) + 1) (by omega) (by omega)]
      refine Ev.ite_pos (by omega) (Ev.ite_pos (by omega) (Ev.ite_pos (by omega) (Ev.ite_pos (by omega) (Ev.ite_pos (by omega) ?_))))
      by_cases c1 : (rd_T42 pts (j : Int)).f1 = (rd_T42 pts (i : Int)).f1
      · by_cases c2 : (rd_T42 pts (j : Int)).f2 = (rd_T42 pts (i : Int)).f2
        · exact Ev.ite_pos c1 (Ev.ite_pos c2 (Ev.cast (Ev.val _) (h1 ⟨c1, c2⟩).symm))
        · exact Ev.ite_pos c1 (Ev.ite_neg c2 (h2 (fun h => c2 h.2)))
      · exact Ev.ite_neg c1 (h2 (fun h => c1 h.1))
    constructor
    · rintro ⟨q, h1, h2, h3⟩
      refine step _ (fun _ => rfl) (fun hn => nx.1 ⟨q, ?_, h2, h3⟩)
      rcases Nat.lt_or_ge j q with h | h
      · exact h
      · obtain rfl : q = j := by omega
        exact absurd h3 hn
    · intro hn
      refine step _ (fun hs => absurd ⟨j, Nat.le_refl _, by omega, hs⟩ hn) (fun _ => nx.2 (fun ⟨q, h1, h2, h3⟩ => hn ⟨q, by omega, h2, h3⟩))
theorem points (ks : List S39) (pts : List S42) (hl : pts.length ≤ 1048576) : ∀ d i : Nat, i + d = pts.length → ∃ b, Ev (fun k => spec_PlanBaseOk.l1 k (i : Int) ks pts) b ∧ Ev (fun k => impl_PlanBaseOk.l1 k pts (pts.length : Int) (i : Int) ks pts) b := by
  intro d
  induction d with
  | zero =>
    intro i hi
    refine ⟨true, Ev.succ ?_, Ev.succ ?_⟩
    · simp only [spec_PlanBaseOk.l1]
      exact Ev.ite_neg (by omega) (Ev.val _)
    · simp only [impl_PlanBaseOk.l1]
      exact Ev.ite_neg (by omega) (Ev.val _)
  | succ d ih =>
    intro i hi
    have hil : i < pts.length := by omega
    obtain ⟨b, hb1, hb2⟩ := ih (i + 1) (by omega)
    rw [show (((i + 1 : Nat)) : Int) = (i : Int) + 1 by omega] at hb1 hb2
    have sc := scan ks pts hl i hil hb1 i 0 (Nat.zero_add _)
    have hz : ∀ P : Nat → Prop, (∃ q, 0 ≤ q ∧ q < i ∧ P q) ↔ ∃ q, q < i ∧ P q := fun P => ⟨fun ⟨q, _, h⟩ => ⟨q, h⟩, fun ⟨q, h⟩ => ⟨q, Nat.zero_le _, h⟩⟩
    rw [hz, ← seen_iff hil] at sc
    -- one step of each
    have S : ∀ r, Ev (fun k => if pointB (rd_T42 pts (i : Int)) = true then (if (i : Int) > 0 then spec_PlanBaseOk.j3 k (i : Int) (!(Op.bytesLess (((rd_T42 pts ((i : Int) - 1)).f0).toList) (((rd_T42 pts (i : Int)).f0).toList))) ks pts else spec_PlanBaseOk.j3 k (i : Int) false ks pts) else spec_PlanBaseOk.j3 k (i : Int) true ks pts) r → Ev (fun k => spec_PlanBaseOk.l1 k (i : Int) ks pts) r := by
      intro r h
      refine Ev.succ ?_
      simp only [spec_PlanBaseOk.l1]
      rw [w64 (n := (i : Int) - 1) (by omega) (by omega)]
      refine Ev.ite_pos (by omega) (Ev.ite_pos (by omega) (Ev.bind (point_spec _) ?_))
      by_cases h0 : (i : Int) > 0
      · simp only [if_pos h0, if_pos (show 0 ≤ (i : Int) - 1 by omega), if_pos (show (i : Int) - 1 < (pts.length : Int) by omega)] at h ⊢
        exact h
      · simp only [if_neg h0] at h ⊢
        exact h
    have I : ∀ r, Ev (fun k => if pointB (rd_T42 pts (i : Int)) = true then (if ((rd_T42 pts (i : Int)).f1, (rd_T42 pts (i : Int)).f2) ∈ seenT pts (i : Int) then some false else (if (i : Int) > 0 then (if Op.bytesLess (((rd_T42 pts ((i : Int) - 1)).f0).toList) (((rd_T42 pts (i : Int)).f0).toList) = true then impl_PlanBaseOk.l1 k pts (pts.length : Int) ((i : Int) + 1) ks pts else some false) else impl_PlanBaseOk.l1 k pts (pts.length : Int) ((i : Int) + 1) ks pts)) else some false) r → Ev (fun k => impl_PlanBaseOk.l1 k pts (pts.length : Int) (i : Int) ks pts) r := by
      intro r h
      refine Ev.succ ?_
      simp only [impl_PlanBaseOk.l1]
      rw [w64 (n := (i : Int) - 1) (by omega) (by omega), w64 (n := (i : Int) + 1) (by omega) (by omega)]
      refine Ev.ite_pos (by omega) (Ev.ite_pos (by omega) (Ev.ite_pos (by omega) (Ev.bind (point_impl _) ?_)))
      by_cases h0 : (i : Int) > 0
      · simp only [if_pos h0, if_pos (show 0 ≤ (i : Int) - 1 by omega), if_pos (show (i : Int) - 1 < (pts.length : Int) by omega)] at h ⊢
        exact h
      · simp only [if_neg h0] at h ⊢
        exact h
    have jT : Ev (fun k => spec_PlanBaseOk.j3 k (i : Int) true ks pts) false := by
      refine Ev.succ ?_
      simp only [spec_PlanBaseOk.j3]
      exact Ev.ite_pos trivial (Ev.val _)
    have jF : ∀ r, Ev (fun k => spec_PlanBaseOk.l2 k (i : Int) 0 ks pts) r → Ev (fun k => spec_PlanBaseOk.j3 k (i : Int) false ks pts) r := by
      intro r h
      refine Ev.succ ?_
      simp only [spec_PlanBaseOk.j3]
      exact Ev.ite_neg (by decide) h
    by_cases hp : pointB (rd_T42 pts (i : Int)) = true
    · by_cases hseen : ((rd_T42 pts (i : Int)).f1, (rd_T42 pts (i : Int)).f2) ∈ seenT pts (i : Int)
      · refine ⟨false, S _ (Ev.ite_pos hp ?_), I _ (Ev.ite_pos hp (Ev.ite_pos hseen (Ev.val _)))⟩
        by_cases h0 : (i : Int) > 0
        · refine Ev.ite_pos h0 ?_
          cases Op.bytesLess (((rd_T42 pts ((i : Int) - 1)).f0).toList) (((rd_T42 pts (i : Int)).f0).toList) with
          | true => exact jF _ (sc.1 hseen)
          | false => exact jT
        · exact Ev.ite_neg h0 (jF _ (sc.1 hseen))
      · by_cases h0 : (i : Int) > 0
        · cases hls : Op.bytesLess (((rd_T42 pts ((i : Int) - 1)).f0).toList) (((rd_T42 pts (i : Int)).f0).toList) with
          | true =>
            rw [hls] at S I
            exact ⟨b, S _ (Ev.ite_pos hp (Ev.ite_pos h0 (jF _ (sc.2 hseen)))), I _ (Ev.ite_pos hp (Ev.ite_neg hseen (Ev.ite_pos h0 (Ev.ite_pos rfl hb2))))⟩
          | false =>
            rw [hls] at S I
            exact ⟨false, S _ (Ev.ite_pos hp (Ev.ite_pos h0 jT)), I _ (Ev.ite_pos hp (Ev.ite_neg hseen (Ev.ite_pos h0 (Ev.ite_neg (by decide) (Ev.val _)))))⟩
        · exact ⟨b, S _ (Ev.ite_pos hp (Ev.ite_neg h0 (jF _ (sc.2 hseen)))), I _ (Ev.ite_pos hp (Ev.ite_neg hseen (Ev.ite_neg h0 hb2)))⟩
    · exact ⟨false, S _ (Ev.ite_neg hp jT), I _ (Ev.ite_neg hp (Ev.val _))⟩
/-! #### the kinds -/
theorem kinds (ks : List S39) (pts : List S42) (hk : ks.length ≤ 1048576) (hl : pts.length ≤ 1048576) : ∀ d i : Nat, i + d = ks.length → ∃ b, Ev (fun k => spec_PlanBaseOk.l0 k (i : Int) ks pts) b ∧ Ev (fun k => impl_PlanBaseOk.l0 k ks (ks.length : Int) (i : Int) ks pts) b := by
  intro d
  induction d with
  | zero =>
    intro i hi
    obtain ⟨b, h1, h2⟩ := points ks pts hl pts.length 0 (Nat.zero_add _)
    refine ⟨b, Ev.succ ?_, Ev.succ ?_⟩
    · simp only [spec_PlanBaseOk.l0]
      exact Ev.ite_neg (by omega) h1
    · simp only [impl_PlanBaseOk.l0]
      exact Ev.ite_neg (by omega) h2
  | succ d ih =>
    intro i hi
    obtain ⟨b, hb1, hb2⟩ := ih (i + 1) (by omega)
    rw [show (((i + 1 : Nat)) : Int) = (i : Int) + 1 by omega] at hb1 hb2
    have S : ∀ r, Ev (fun k => if kindB (rd_T39 ks (i : Int)) = true then (if (i : Int) > 0 then (if Op.bytesLess (((rd_T39 ks ((i : Int) - 1)).f0).toList) (((rd_T39 ks (i : Int)).f0).toList) = true then spec_PlanBaseOk.l0 k ((i : Int) + 1) ks pts else some false) else spec_PlanBaseOk.l0 k ((i : Int) + 1) ks pts) else some false) r → Ev (fun k => spec_PlanBaseOk.l0 k (i : Int) ks pts) r := by
      intro r h
      refine Ev.succ ?_
      simp only [spec_PlanBaseOk.l0]
      rw [w64 (n := (i : Int) - 1) (by omega) (by omega), w64 (n := (i : Int) + 1) (by omega) (by omega)]
      refine Ev.ite_pos (by omega) (Ev.ite_pos (by omega) (Ev.bind (kind_spec _) ?_))
      by_cases h0 : (i : Int) > 0
      · simp only [if_pos h0, if_pos (show 0 ≤ (i : Int) - 1 by omega), if_pos (show (i : Int) - 1 < (ks.length : Int) by omega)] at h ⊢
        exact h
      · simp only [if_neg h0] at h ⊢
        exact h
    have I : ∀ r, Ev (fun k => if kindB (rd_T39 ks (i : Int)) = true then (if (i : Int) > 0 then (if Op.bytesLess (((rd_T39 ks ((i : Int) - 1)).f0).toList) (((rd_T39 ks (i : Int)).f0).toList) = true then impl_PlanBaseOk.l0 k ks (ks.length : Int) ((i : Int) + 1) ks pts else some false) else impl_PlanBaseOk.l0 k ks (ks.length : Int) ((i : Int) + 1) ks pts) else some false) r → Ev (fun k => impl_PlanBaseOk.l0 k ks (ks.length : Int) (i : Int) ks pts) r := by
      intro r h
      refine Ev.succ ?_
      simp only [impl_PlanBaseOk.l0]
      rw [w64 (n := (i : Int) - 1) (by omega) (by omega), w64 (n := (i : Int) + 1) (by omega) (by omega)]
      refine Ev.ite_pos (by omega) (Ev.ite_pos (by omega) (Ev.ite_pos (by omega) (Ev.bind (kind_impl _) ?_)))
      by_cases h0 : (i : Int) > 0
      · simp only [if_pos h0, if_pos (show 0 ≤ (i : Int) - 1 by omega), if_pos (show (i : Int) - 1 < (ks.length : Int) by omega)] at h ⊢
        exact h
      · simp only [if_neg h0] at h ⊢
        exact h
    by_cases hp : kindB (rd_T39 ks (i : Int)) = true
    · by_cases h0 : (i : Int) > 0
      · by_cases hls : Op.bytesLess (((rd_T39 ks ((i : Int) - 1)).f0).toList) (((rd_T39 ks (i : Int)).f0).toList) = true
        · exact ⟨b, S _ (Ev.ite_pos hp (Ev.ite_pos h0 (Ev.ite_pos hls hb1))), I _ (Ev.ite_pos hp (Ev.ite_pos h0 (Ev.ite_pos hls hb2)))⟩
        · exact ⟨false, S _ (Ev.ite_pos hp (Ev.ite_pos h0 (Ev.ite_neg hls (Ev.val _)))), I _ (Ev.ite_pos hp (Ev.ite_pos h0 (Ev.ite_neg hls (Ev.val _))))⟩
      · exact ⟨b, S _ (Ev.ite_pos hp (Ev.ite_neg h0 hb1)), I _ (Ev.ite_pos hp (Ev.ite_neg h0 hb2))⟩
    · exact ⟨false, S _ (Ev.ite_neg hp (Ev.val _)), I _ (Ev.ite_neg hp (Ev.val _))⟩
theorem both (ks : List S39) (pts : List S42) (hk : ks.length ≤ 1048576) (hl : pts.length ≤ 1048576) : ∃ b, Ev (fun k => spec_PlanBaseOk.f k ks pts) b ∧ Ev (fun k => impl_PlanBaseOk.f k ks pts) b := by
  have s1 : Ev (fun k => spec_PlanBaseOk.j0 k true ks pts) false := by
    refine Ev.succ ?_
    simp only [spec_PlanBaseOk.j0]
    exact Ev.ite_pos trivial (Ev.val _)
  have i1 : Ev (fun k => impl_PlanBaseOk.j0 k true ks pts) false := by
    refine Ev.succ ?_
    simp only [impl_PlanBaseOk.j0]
    exact Ev.ite_pos trivial (Ev.val _)
  unfold spec_PlanBaseOk.f impl_PlanBaseOk.f
  by_cases h1 : (ks.length : Int) > 6
  · exact ⟨false, Ev.ite_pos h1 s1, Ev.ite_pos h1 i1⟩
  by_cases h2 : (pts.length : Int) > 16
  · rw [decide_eq_true h2]
    exact ⟨false, Ev.ite_neg h1 s1, Ev.ite_neg h1 i1⟩
  · rw [decide_eq_false h2]
    obtain ⟨b, hb1, hb2⟩ := kinds ks pts hk hl ks.length 0 (Nat.zero_add _)
    refine ⟨b, Ev.ite_neg h1 (Ev.succ ?_), Ev.ite_neg h1 (Ev.succ ?_)⟩
    · simp only [spec_PlanBaseOk.j0]
      exact Ev.ite_neg (by decide) hb1
    · simp only [impl_PlanBaseOk.j0]
      exact Ev.ite_neg (by decide) hb2
theorem FnExactPlanBaseOk : Said := by
  intro xs ys ⟨⟨hm1, hx1⟩, ⟨hm2, hx2⟩⟩
  refine Ev.rounds (r := true) ?_
  unfold laws_FnExactPlanBaseOk.f
  obtain ⟨r1, hr1, hle1, hge1, hin1⟩ := szPlanKindS_ev xs hm1 (fun y hy => (hx1 y hy).1) 1048576 (by omega) (by omega)
  by_cases h1 : r1 < 0
  · have hsz : Ev (fun k => laws_szPlanBase.f k xs ys 1048576) (-1) := by
      unfold laws_szPlanBase.f
      refine Ev.bind hr1 ?_
      exact Ev.ite_pos h1 (Ev.val _)
    refine Ev.bind hsz ?_
    exact Ev.ite_pos (by decide) (Ev.val _)
  have hl1 := hin1 (by omega)
  obtain ⟨r2, hr2, hle2, hge2, hin2⟩ := szPlanPointS_ev ys hm2 (fun y hy => (hx2 y hy).1) r1 (by omega) (by omega)
  by_cases h2 : r2 < 0
  · have hsz : Ev (fun k => laws_szPlanBase.f k xs ys 1048576) (-1) := by
      unfold laws_szPlanBase.f
      refine Ev.bind hr1 ?_
      refine Ev.ite_neg h1 ?_
      refine Ev.bind hr2 ?_
      exact Ev.ite_pos h2 (Ev.val _)
    refine Ev.bind hsz ?_
    exact Ev.ite_pos (by decide) (Ev.val _)
  have hl2 := hin2 (by omega)
  have hto : Ev (fun k => laws_toPlanBase.f k xs ys) (xs.map conv_toPlanKindS, ys.map conv_toPlanPointS) := by
    unfold laws_toPlanBase.f
    exact Ev.bind (toPlanKindS_ev xs (by omega)) (Ev.bind (toPlanPointS_ev ys (by omega)) (Ev.val _))
  have hk : (xs.map conv_toPlanKindS).length ≤ 1048576 := by rw [List.length_map]; omega
  have hp : (ys.map conv_toPlanPointS).length ≤ 1048576 := by rw [List.length_map]; omega
  obtain ⟨b, hs, hi⟩ := both _ _ hk hp
  have heq : Ev (fun k => laws_eqPlanBase.f k (xs.map conv_toPlanKindS) (ys.map conv_toPlanPointS) (xs.map conv_toPlanKindS) (ys.map conv_toPlanPointS)) true := by
    unfold laws_eqPlanBase.f
    exact Ev.bind (eqPlanKindS_ev _ hk) (Ev.ite_pos rfl (Ev.bind (eqPlanPointS_ev _ hp) (Ev.ite_pos rfl (Ev.val _))))
  have hsz : Ev (fun k => laws_szPlanBase.f k xs ys 1048576) r2 := by
    unfold laws_szPlanBase.f
    refine Ev.bind hr1 ?_
    refine Ev.ite_neg h1 ?_
    refine Ev.bind hr2 ?_
    exact Ev.ite_neg h2 (Ev.val _)
  refine Ev.bind hsz ?_
  refine Ev.ite_neg h2 ?_
  refine Ev.bind hto ?_
  refine Ev.bind hs ?_
  refine Ev.bind hto ?_
  refine Ev.bind hi (Ev.ite_neg (by simp) ?_)
  refine Ev.bind hto ?_
  exact Ev.bind heq (Ev.ite_pos rfl (Ev.val _))
end Go.Proofs.Ytleenmphhlioaaa.Pure
