/-
  Plain laws of rounds: copying, comparing, marking and asking loops, each proved once of whatever element type.
-/
import Derived.Test.YtkdhfgonjipbbaaXw
namespace Go.Proofs.Ytkdhfgonjipbbaa.Kit
open Go.RowKit Go.Proofs.YtkdhfgonjipbbaaW.PrintWords
def I64 (n : Int) : Prop := -9223372036854775808 ≤ n ∧ n ≤ 9223372036854775807
theorem w64 {n : Int} (h : -9223372036854775808 ≤ n) (h' : n ≤ 9223372036854775807) : wrap64 n = n := by unfold wrap64; omega
theorem Ev.ite_pos {α : Type} {c : Prop} [Decidable c] {g f : Nat → Option α} {r : α} (h : c) (k : Ev g r) : Ev (fun n => if c then g n else f n) r := Ev.congr (fun _ => if_pos h) k
theorem Ev.ite_neg {α : Type} {c : Prop} [Decidable c] {g f : Nat → Option α} {r : α} (h : ¬ c) (k : Ev f r) : Ev (fun n => if c then g n else f n) r := Ev.congr (fun _ => if_neg h) k
theorem Ev.succ {α : Type} {g : Nat → Option α} {r : α} (h : Ev (fun k => g (k + 1)) r) : Ev g r := Ev.step (fun _ => rfl) h
theorem Ev.val {α : Type} (r : α) : Ev (fun _ => some r) r := Ev.now r
theorem Ev.const {α : Type} {o : Option α} {r : α} (h : o = some r) : Ev (fun _ => o) r := ⟨0, fun _ _ => h⟩
theorem Ev.cast {α : Type} {g : Nat → Option α} {r r' : α} (h : Ev g r) (e : r = r') : Ev g r' := e ▸ h
section
variable {α β : Type}
theorem getD_lt {xs : List α} {i : Nat} {z : α} (h : i < xs.length) : xs[i]? = some (xs.getD i z) := by
  rw [List.getD_eq_getElem?_getD, List.getElem?_eq_getElem h]; rfl
/-- out[i] = conv(a[i]), for all i. -/
theorem copy_loop {F : Nat → List α → List β → Int → Option (List β)} {conv : α → β} {z : α}
    (hs : ∀ x0 x3 (i : Int), 0 ≤ i → i < x0.length → i < x3.length → i + 1 ≤ 9223372036854775807 → ∀ k, F (k + 1) x0 x3 i = F k x0 (x3.set i.toNat (conv (x0.getD i.toNat z))) (i + 1))
    (he : ∀ x0 x3 (i : Int), ¬ i < x0.length → ∀ k, F (k + 1) x0 x3 i = some x3) (x0 : List α) (hm : x0.length ≤ 9223372036854775807) :
    ∀ (d : Nat) (i : Int) (x3 : List β), 0 ≤ i → (x0.length : Int) - i = d → x3.length = x0.length → (∀ j : Nat, (j : Int) < i → x3[j]? = (x0.map conv)[j]?) → Ev (fun k => F k x0 x3 i) (x0.map conv)
  | 0, i, x3, h0, hd, hl, hj => Ev.step (he x0 x3 i (by omega)) (Ev.cast (Ev.val x3) (by
      apply List.ext_getElem?
      intro j
      by_cases hjl : j < x0.length
      · exact hj j (by omega)
      · rw [List.getElem?_eq_none (by omega), List.getElem?_eq_none (by rw [List.length_map]; omega)]))
  | d + 1, i, x3, h0, hd, hl, hj => Ev.step (hs x0 x3 i h0 (by omega) (by omega) (by omega)) (copy_loop hs he x0 hm d (i + 1) _ (by omega) (by omega) (by rw [List.length_set]; exact hl) (fun j hjl => by
      by_cases e : j = i.toNat
      · subst e
        rw [List.getElem?_set_self (by omega), List.getElem?_map, getD_lt (z := z) (show i.toNat < x0.length by omega)]
        rfl
      · rw [List.getElem?_set_ne (Ne.symm e)]
        exact hj j (by omega)))
/-- The comparing loop, of a list with itself. -/
theorem eq_loop {F : Nat → List α → List α → Int → Option Bool} (x0 : List α) (hm : x0.length ≤ 9223372036854775807)
    (hs : ∀ (i : Int), 0 ≤ i → i < x0.length → i + 1 ≤ 9223372036854775807 → ∀ k, F (k + 1) x0 x0 i = F k x0 x0 (i + 1))
    (he : ∀ (i : Int), ¬ i < x0.length → ∀ k, F (k + 1) x0 x0 i = some true) :
    ∀ (d : Nat) (i : Int), 0 ≤ i → (x0.length : Int) - i = d → Ev (fun k => F k x0 x0 i) true
  | 0, i, h0, hd => Ev.step (he i (by omega)) (Ev.val true)
  | d + 1, i, h0, hd => Ev.step (hs i h0 (by omega) (by omega)) (eq_loop x0 hm hs he d (i + 1) (by omega) (by omega))
/-- Element i of a list that was marked from m on, c numbers an element. -/
def marks (mk : Int → α) (m c : Int) (n : Nat) : List α := (List.range n).map fun i : Nat => mk (m + c * (i : Int))
theorem marks_length (mk : Int → α) (m c : Int) (n : Nat) : (marks mk m c n).length = n := by simp [marks]
theorem marks_get (mk : Int → α) (m c : Int) (n : Nat) (i : Nat) (h : i < n) : (marks mk m c n)[i]? = some (mk (m + c * (i : Int))) := by simp [marks, h]
theorem marks_getD (mk : Int → α) (m c : Int) (n : Nat) (i : Nat) (z : α) (h : i < n) : (marks mk m c n).getD i z = mk (m + c * (i : Int)) := by
  rw [List.getD_eq_getElem?_getD, marks_get mk m c n i h]; rfl
/-- The marking loop. -/
theorem mark_loop {F : Nat → List α → Int → Int → Option (Int × List α)} {mk : Int → α} {m c : Int} (hc : 0 ≤ c) (hm0 : 0 ≤ m) (N : Nat) (hN : m + c * (N : Int) ≤ 9223372036854775807) (hN' : N ≤ 9223372036854775807)
    (hs : ∀ (x0 : List α) (q i : Int), 0 ≤ i → i < x0.length → 0 ≤ q → q + c ≤ 9223372036854775807 → i + 1 ≤ 9223372036854775807 → ∀ k, F (k + 1) x0 q i = F k (x0.set i.toNat (mk q)) (q + c) (i + 1))
    (he : ∀ (x0 : List α) (q i : Int), ¬ i < x0.length → ∀ k, F (k + 1) x0 q i = some (q, x0)) :
    ∀ (d : Nat) (i : Nat) (x0 : List α), x0.length = N → N - i = d → i ≤ N → (∀ j : Nat, j < i → x0[j]? = some (mk (m + c * (j : Int)))) → Ev (fun k => F k x0 (m + c * (i : Int)) (i : Int)) (m + c * (N : Int), marks mk m c N)
  | 0, i, x0, hl, hd, hi, hj => Ev.step (he x0 _ _ (by omega)) (Ev.cast (Ev.val (m + c * (i : Int), x0)) (by
      have e : i = N := by omega
      subst e
      congr 1
      apply List.ext_getElem?
      intro j
      by_cases hjl : j < i
      · rw [hj j hjl, marks_get mk m c i j hjl]
      · rw [List.getElem?_eq_none (by omega), List.getElem?_eq_none (by rw [marks_length]; omega)]))
  | d + 1, i, x0, hl, hd, hi, hj => by
    have hle : c * ((i + 1 : Nat) : Int) ≤ c * (N : Int) := Int.mul_le_mul_of_nonneg_left (by omega) hc
    have h0 : 0 ≤ c * (i : Int) := Int.mul_nonneg hc (by omega)
    have hmul : c * ((i + 1 : Nat) : Int) = c * (i : Int) + c := by rw [Int.natCast_add, Int.mul_add]; simp
    refine Ev.step (hs x0 _ _ (by omega) (by omega) (by omega) (by omega) (by omega)) ?_
    have := mark_loop hc hm0 N hN hN' hs he d (i + 1) (x0.set i (mk (m + c * (i : Int)))) (by rw [List.length_set]; exact hl) (by omega) (by omega) (fun j hjl => by
      by_cases e : j = i
      · subst e
        rw [List.getElem?_set_self (by omega)]
      · rw [List.getElem?_set_ne (Ne.symm e)]
        exact hj j (by omega))
    rw [hmul] at this
    simpa [Int.add_assoc] using this
/-- The asking loop, over what the marking loop left. -/
theorem held_loop {F : Nat → List α → Int → Int → Option Int} {mk : Int → α} {m c : Int} (z : α) (hc : 0 ≤ c) (hm0 : 0 ≤ m) (N : Nat) (hN : m + c * (N : Int) ≤ 9223372036854775807) (hN' : N ≤ 9223372036854775807)
    (hs : ∀ (x0 : List α) (q i : Int), 0 ≤ i → i < x0.length → 0 ≤ q → q + c ≤ 9223372036854775807 → i + 1 ≤ 9223372036854775807 → x0.getD i.toNat z = mk q → ∀ k, F (k + 1) x0 q i = F k x0 (q + c) (i + 1))
    (he : ∀ (x0 : List α) (q i : Int), ¬ i < x0.length → ∀ k, F (k + 1) x0 q i = some q) :
    ∀ (d : Nat) (i : Nat), N - i = d → i ≤ N → Ev (fun k => F k (marks mk m c N) (m + c * (i : Int)) (i : Int)) (m + c * (N : Int))
  | 0, i, hd, hi => Ev.step (he _ _ _ (by rw [marks_length]; omega)) (Ev.cast (Ev.val _) (by
      have e : i = N := by omega
      rw [e]))
  | d + 1, i, hd, hi => by
    have hle : c * ((i + 1 : Nat) : Int) ≤ c * (N : Int) := Int.mul_le_mul_of_nonneg_left (by omega) hc
    have h0 : 0 ≤ c * (i : Int) := Int.mul_nonneg hc (by omega)
    have hmul : c * ((i + 1 : Nat) : Int) = c * (i : Int) + c := by rw [Int.natCast_add, Int.mul_add]; simp
    refine Ev.step (hs _ _ _ (by omega) (by rw [marks_length]; omega) (by omega) (by omega) (by omega) (marks_getD mk m c N i z (by omega))) ?_
    have := held_loop z hc hm0 N hN hN' hs he d (i + 1) (by omega) (by omega)
    rw [hmul] at this
    simpa [Int.add_assoc] using this
/-- A loop that takes sizes off a rest: it ends, at no more than the rest. -/
theorem size_loop {F : Nat → List α → Int → Int → Option Int} (sz : α → Int) (z : α) (x0 : List α) (hm : x0.length ≤ 1048576)
    (hs : ∀ (q i : Int), 0 ≤ i → i < x0.length → 0 ≤ q → q ≤ 1048576 → i + 1 ≤ 9223372036854775807 → ∀ k, F (k + 1) x0 q i = if q - sz (x0.getD i.toNat z) < 0 then some (-1) else F k x0 (q - sz (x0.getD i.toNat z)) (i + 1))
    (h0 : ∀ i : Nat, i < x0.length → 0 ≤ sz (x0.getD i z)) (he : ∀ (q i : Int), ¬ i < x0.length → ∀ k, F (k + 1) x0 q i = some q) :
    ∀ (d : Nat) (i q : Int), 0 ≤ i → (x0.length : Int) - i = d → 0 ≤ q → q ≤ 1048576 → ∃ r, Ev (fun k => F k x0 q i) r ∧ r ≤ q ∧ -1 ≤ r
  | 0, i, q, hi, hd, hq, hq' => ⟨q, Ev.step (he q i (by omega)) (Ev.val q), Int.le_refl _, by omega⟩
  | d + 1, i, q, hi, hd, hq, hq' => by
    have hz := h0 i.toNat (by omega)
    by_cases h : q - sz (x0.getD i.toNat z) < 0
    · exact ⟨-1, Ev.step (hs q i hi (by omega) hq hq' (by omega)) (Ev.ite_pos h (Ev.val _)), by omega, by omega⟩
    · obtain ⟨r, hr, hle, hge⟩ := size_loop sz z x0 hm hs h0 he d (i + 1) (q - sz (x0.getD i.toNat z)) (by omega) (by omega) (by omega) (by omega)
      exact ⟨r, Ev.step (hs q i hi (by omega) hq hq' (by omega)) (Ev.ite_neg h hr), by omega, hge⟩
/-- out[i] = conv(a[i]), where an element takes rounds of its own. -/
theorem copy_loopE {F : Nat → List α → List β → Int → Option (List β)} {conv : α → β} (x0 : List α)
    (hs : ∀ (x3 : List β) (i : Nat) (h : i < x0.length), i < x3.length → ∀ r, Ev (fun k => F k x0 (x3.set i (conv x0[i])) ((i : Int) + 1)) r → Ev (fun k => F k x0 x3 (i : Int)) r)
    (he : ∀ (x3 : List β) (i : Int), ¬ i < x0.length → ∀ k, F (k + 1) x0 x3 i = some x3) :
    ∀ (d i : Nat) (x3 : List β), i + d = x0.length → x3.length = x0.length → (∀ j : Nat, j < i → x3[j]? = (x0.map conv)[j]?) → Ev (fun k => F k x0 x3 (i : Int)) (x0.map conv)
  | 0, i, x3, hd, hl, hj => Ev.step (he x3 _ (by omega)) (Ev.cast (Ev.val x3) (by
      apply List.ext_getElem?
      intro j
      by_cases hjl : j < x0.length
      · exact hj j (by omega)
      · rw [List.getElem?_eq_none (by omega), List.getElem?_eq_none (by rw [List.length_map]; omega)]))
  | d + 1, i, x3, hd, hl, hj => hs x3 i (by omega) (by omega) _ (by
      have := copy_loopE x0 hs he d (i + 1) (x3.set i (conv x0[i])) (by omega) (by rw [List.length_set]; exact hl) (fun j hjl => by
        by_cases e : j = i
        · subst e
          rw [List.getElem?_set_self (by omega), List.getElem?_map, List.getElem?_eq_getElem (show j < x0.length by omega)]
          rfl
        · rw [List.getElem?_set_ne (Ne.symm e)]
          exact hj j (by omega))
      rwa [show (((i + 1 : Nat) : Int)) = (i : Int) + 1 by omega] at this)
theorem eq_loopE {F : Nat → List α → List α → Int → Option Bool} (x0 : List α)
    (hs : ∀ (i : Nat), i < x0.length → ∀ r, Ev (fun k => F k x0 x0 ((i : Int) + 1)) r → Ev (fun k => F k x0 x0 (i : Int)) r)
    (he : ∀ (i : Int), ¬ i < x0.length → ∀ k, F (k + 1) x0 x0 i = some true) : ∀ (d i : Nat), i + d = x0.length → Ev (fun k => F k x0 x0 (i : Int)) true
  | 0, i, hd => Ev.step (he _ (by omega)) (Ev.val true)
  | d + 1, i, hd => hs i (by omega) _ (by
      have := eq_loopE x0 hs he d (i + 1) (by omega)
      rwa [show (((i + 1 : Nat) : Int)) = (i : Int) + 1 by omega] at this)
theorem size_loopE {F : Nat → List α → Int → Int → Option Int} (B : α → Prop) (x0 : List α)
    (hs : ∀ (q : Int) (i : Nat) (h : i < x0.length), 0 ≤ q → q ≤ 1048576 → Ev (fun k => F k x0 q (i : Int)) (-1) ∨ ∃ q', 0 ≤ q' ∧ q' ≤ q ∧ B x0[i] ∧ ∀ r, Ev (fun k => F k x0 q' ((i : Int) + 1)) r → Ev (fun k => F k x0 q (i : Int)) r)
    (he : ∀ (q i : Int), ¬ i < x0.length → ∀ k, F (k + 1) x0 q i = some q) :
    ∀ (d i : Nat) (q : Int), i + d = x0.length → 0 ≤ q → q ≤ 1048576 → ∃ r, Ev (fun k => F k x0 q (i : Int)) r ∧ r ≤ q ∧ -1 ≤ r ∧ (0 ≤ r → ∀ (j : Nat) (h : j < x0.length), i ≤ j → B x0[j])
  | 0, i, q, hd, hq, hq' => ⟨q, Ev.step (he q _ (by omega)) (Ev.val q), Int.le_refl _, by omega, fun _ j h1 h2 => by omega⟩
  | d + 1, i, q, hd, hq, hq' => by
    rcases hs q i (by omega) hq hq' with h | ⟨q', h1, h2, hB, h3⟩
    · exact ⟨-1, h, by omega, by omega, fun h => by omega⟩
    · obtain ⟨r, hr, hle, hge, hall⟩ := size_loopE B x0 hs he d (i + 1) q' (by omega) h1 (by omega)
      rw [show (((i + 1 : Nat) : Int)) = (i : Int) + 1 by omega] at hr
      refine ⟨r, h3 r hr, by omega, hge, fun h0 j hj hij => ?_⟩
      by_cases e : j = i
      · subst e; exact hB
      · exact hall h0 j hj (by omega)
theorem rd_at {xs : List α} {z : α} {i : Nat} (h : i < xs.length) : xs.getD ((i : Int)).toNat z = xs[i] := by
  rw [Int.toNat_natCast, List.getD_eq_getElem?_getD, List.getElem?_eq_getElem h]; rfl
/-- A search from i on, d places: R of the first place that P tells, r if there is none. -/
def findN {ρ : Type} (P : Nat → Bool) (R : Nat → ρ) (r : ρ) : Nat → Nat → ρ
  | 0, _ => r
  | d + 1, i => if P i = true then R i else findN P R r d (i + 1)
theorem findN_congr {ρ : Type} {P P' : Nat → Bool} {R R' : Nat → ρ} {r : ρ} : ∀ (d i : Nat), (∀ j, i ≤ j → j < i + d → P j = P' j ∧ (P j = true → R j = R' j)) → findN P R r d i = findN P' R' r d i
  | 0, _, _ => rfl
  | d + 1, i, h => by
    have h0 := h i (Nat.le_refl _) (by omega)
    simp only [findN]
    rw [← h0.1, findN_congr d (i + 1) (fun j h1 h2 => h j (by omega) (by omega))]
    by_cases hp : P i = true
    · rw [if_pos hp, if_pos hp, h0.2 hp]
    · rw [if_neg hp, if_neg hp]
theorem findN_none {ρ : Type} {P : Nat → Bool} {R : Nat → ρ} {r : ρ} : ∀ (d i : Nat), (∀ j, i ≤ j → j < i + d → P j = false) → findN P R r d i = r
  | 0, _, _ => rfl
  | d + 1, i, h => by
    simp only [findN]
    rw [h i (Nat.le_refl _) (by omega), findN_none d (i + 1) (fun j h1 h2 => h j (by omega) (by omega))]
    rfl
/-- Whether a search finds something. -/
abbrev anyN (P : Nat → Bool) (d i : Nat) : Bool := findN P (fun _ => true) false d i
abbrev allN (P : Nat → Bool) (d i : Nat) : Bool := findN (fun j => !P j) (fun _ => false) true d i
theorem anyN_iff {P : Nat → Bool} : ∀ (d i : Nat), anyN P d i = true ↔ ∃ j, i ≤ j ∧ j < i + d ∧ P j = true
  | 0, i => ⟨fun h => by simp [anyN, findN] at h, fun ⟨j, h1, h2, _⟩ => by omega⟩
  | d + 1, i => by
    simp only [anyN, findN]
    by_cases hp : P i = true
    · rw [if_pos hp]
      exact ⟨fun _ => ⟨i, Nat.le_refl _, by omega, hp⟩, fun _ => rfl⟩
    · rw [if_neg hp]
      refine (anyN_iff d (i + 1)).trans ⟨fun ⟨j, h1, h2, h3⟩ => ⟨j, by omega, by omega, h3⟩, fun ⟨j, h1, h2, h3⟩ => ⟨j, ?_, by omega, h3⟩⟩
      rcases Nat.lt_or_ge i j with h | h
      · exact h
      · exact absurd (show P i = true by rw [show i = j by omega]; exact h3) hp
theorem allN_iff {P : Nat → Bool} : ∀ (d i : Nat), allN P d i = true ↔ ∀ j, i ≤ j → j < i + d → P j = true
  | 0, i => ⟨fun _ j h1 h2 => by omega, fun _ => rfl⟩
  | d + 1, i => by
    simp only [allN, findN]
    by_cases hp : P i = true
    · rw [if_neg (by simp [hp])]
      refine (allN_iff d (i + 1)).trans ⟨fun h j h1 h2 => ?_, fun h j h1 h2 => h j (by omega) (by omega)⟩
      rcases Nat.lt_or_ge i j with h3 | h3
      · exact h j h3 (by omega)
      · rw [show j = i by omega]; exact hp
    · rw [if_pos (by simp [hp])]
      exact ⟨fun h => (by cases h), fun h => absurd (h i (Nat.le_refl _) (by omega)) hp⟩
/-- Two 'all's that differ only behind a place where the one falls. -/
theorem allN_hist {P P' : Nat → Bool} : ∀ (d i : Nat), (∀ j, i ≤ j → j < i + d → (∀ m, i ≤ m → m < j → P m = true) → P j = P' j) → allN P d i = allN P' d i
  | 0, _, _ => rfl
  | d + 1, i, h => by
    have h0 := h i (Nat.le_refl _) (by omega) (fun m h1 h2 => by omega)
    simp only [allN, findN]
    rw [← h0]
    by_cases hp : P i = true
    · rw [if_neg (by simp [hp]), if_neg (by simp [hp])]
      exact allN_hist d (i + 1) (fun j h1 h2 h3 => h j (by omega) (by omega) (fun m h4 h5 => by
        rcases Nat.lt_or_ge i m with h6 | h6
        · exact h3 m h6 h5
        · rw [show m = i by omega]; exact hp))
    · rw [if_pos (by simp [hp]), if_pos (by simp [hp])]
theorem findN_found {ρ : Type} {P : Nat → Bool} {c r : ρ} : ∀ (d i : Nat), (∃ j, i ≤ j ∧ j < i + d ∧ P j = true) → findN P (fun _ => c) r d i = c
  | 0, i, ⟨j, h1, h2, _⟩ => by omega
  | d + 1, i, ⟨j, h1, h2, h3⟩ => by
    simp only [findN]
    by_cases hp : P i = true
    · rw [if_pos hp]
    · rw [if_neg hp]
      refine findN_found d (i + 1) ⟨j, ?_, by omega, h3⟩
      rcases Nat.lt_or_ge i j with h | h
      · exact h
      · exact absurd (show P i = true by rw [show i = j by omega]; exact h3) hp
/-- A searching loop; its end is reached only where nothing is found. -/
theorem find_loop2 {ρ : Type} {F : Nat → Int → Option ρ} (N : Nat) (P : Nat → Bool) (R : Nat → ρ) (r : ρ)
    (hp : ∀ i : Nat, i < N → P i = true → Ev (fun k => F k (i : Int)) (R i))
    (hn : ∀ i : Nat, i < N → P i = false → ∀ r', Ev (fun k => F k ((i : Int) + 1)) r' → Ev (fun k => F k (i : Int)) r') :
    ∀ (d i : Nat), i + d = N → ((∀ j, i ≤ j → j < N → P j = false) → Ev (fun k => F k (N : Int)) r) → Ev (fun k => F k (i : Int)) (findN P R r d i)
  | 0, i, h, he => by
    have : i = N := by omega
    rw [this]
    exact he (fun j h1 h2 => by omega)
  | d + 1, i, h, he => by
    simp only [findN]
    by_cases hpi : P i = true
    · rw [if_pos hpi]
      exact hp i (by omega) hpi
    · rw [if_neg hpi]
      refine hn i (by omega) (by simpa using hpi) _ ?_
      have := find_loop2 N P R r hp hn d (i + 1) (by omega) (fun hj => he (fun j h1 h2 => by
        rcases Nat.lt_or_ge i j with h3 | h3
        · exact hj j h3 h2
        · rw [show j = i by omega]; simpa using hpi))
      rwa [show (((i + 1 : Nat) : Int)) = (i : Int) + 1 by omega] at this
theorem find_loop {ρ : Type} {F : Nat → Int → Option ρ} (N : Nat) (P : Nat → Bool) (R : Nat → ρ) (r : ρ)
    (hp : ∀ i : Nat, i < N → P i = true → Ev (fun k => F k (i : Int)) (R i))
    (hn : ∀ i : Nat, i < N → P i = false → ∀ r', Ev (fun k => F k ((i : Int) + 1)) r' → Ev (fun k => F k (i : Int)) r')
    (he : Ev (fun k => F k (N : Int)) r) (d i : Nat) (h : i + d = N) : Ev (fun k => F k (i : Int)) (findN P R r d i) := find_loop2 N P R r hp hn d i h (fun _ => he)
theorem anyN_false {P : Nat → Bool} {d i : Nat} (h : anyN P d i = false) (j : Nat) (h1 : i ≤ j) (h2 : j < i + d) : P j = false :=
  Bool.eq_false_iff.2 (fun h3 => by rw [(anyN_iff d i).2 ⟨j, h1, h2, h3⟩] at h; cases h)
end
end Go.Proofs.Ytkdhfgonjipbbaa.Kit
