/-
  The law FnExactSkyAlong over numbers and lists: both go the same way along an index, hop by hop.
-/
import Derived.Test.YtkdhfgonjipbbaaSayFnExactSkyAlong
import Derived.Test.YtkdhfgonjipbbaaStdFnExactSkyAlong
namespace Go.Proofs.Ytkdhfgonjipbbaa.Pure
open Go.RowKit Go.Proofs.Ytkdhfgonjipbbaa.QFnExactSkyAlong Go.Proofs.YtkdhfgonjipbbaaW.PrintWords Go.Proofs.Ytkdhfgonjipbbaa.Kit Go.Proofs.Ytkdhfgonjipbbaa.StdFnExactSkyAlong Go.Proofs.Ytkdhfgonjipbbaa.SayFnExactSkyAlong
set_option linter.unusedSimpArgs false
set_option linter.unusedVariables false
set_option linter.unusedSectionVars false
/-! #### the law's own helpers on an index -/
theorem szRun_ev (l : List S74) (hm : l.length ≤ 9223372036854775807) (hs : ∀ x ∈ l, x.f2.size ≤ 9223372036854775807) (a : Int) (h0 : 0 ≤ a) (ha : a ≤ 1048576) : ∃ r, Ev (fun k => laws_szSkyRunS.f k l a) r ∧ r ≤ a ∧ -1 ≤ r ∧ (0 ≤ r → l.length ≤ 1048576) := by
  obtain ⟨r, hr, hle, hge, hlen⟩ := szSkyRunS_ev l hm hs a h0 ha
  exact ⟨r, hr, hle, hge, fun h => by have := hlen h; omega⟩
theorem szRows_ev (x0 : List S56) (hm : x0.length ≤ 9223372036854775807) (hs : ∀ x ∈ x0, x.f2.length ≤ 9223372036854775807 ∧ ∀ y ∈ x.f2, y.f2.size ≤ 9223372036854775807) (a : Int) (h0 : 0 ≤ a) (ha : a ≤ 1048576) : ∃ r, Ev (fun k => laws_szSkyRowS.f k x0 a) r ∧ r ≤ a ∧ -1 ≤ r ∧ (0 ≤ r → x0.length ≤ 1048576 ∧ ∀ x ∈ x0, x.f2.length ≤ 1048576) := by
  unfold laws_szSkyRowS.f
  rw [w64 (by omega) (by omega)]
  by_cases h : (x0.length : Int) ≤ a
  · obtain ⟨r, hr, hle, hge, hall⟩ := size_loopE (F := laws_szSkyRowS.l0) (fun x => x.f2.length ≤ 1048576) x0 (fun q i hi hq hq' => by
      have e : rd_T56 x0 (i : Int) = x0[i] := rd_at hi
      obtain ⟨hx1, hx2⟩ := hs x0[i] (List.getElem_mem hi)
      obtain ⟨r, hr, hle, hge, hlen⟩ := szRun_ev x0[i].f2 hx1 hx2 q hq hq'
      by_cases hneg : r < 0
      · left
        refine Ev.succ ?_
        simp only [laws_szSkyRowS.l0, laws_szSkyRow.f, e]
        exact Ev.ite_pos (by omega) (Ev.ite_pos (by omega) (Ev.bind (Ev.bind hr (Ev.ite_pos hneg (Ev.val _))) (Ev.ite_pos (by decide) (Ev.val _))))
      · right
        refine ⟨r, by omega, hle, hlen (by omega), fun r' hr' => ?_⟩
        refine Ev.succ ?_
        simp only [laws_szSkyRowS.l0, laws_szSkyRow.f, e]
        rw [w64 (by omega) (by omega)]
        exact Ev.ite_pos (by omega) (Ev.ite_pos (by omega) (Ev.bind (Ev.bind hr (Ev.ite_neg hneg (Ev.val _))) (Ev.ite_neg hneg hr')))) (fun q i h k => by
      simp only [laws_szSkyRowS.l0]
      rw [if_neg h]) x0.length 0 (a - x0.length) (by omega) (by omega) (by omega)
    refine ⟨r, Ev.ite_neg (by omega) hr, by omega, hge, fun h0 => ⟨by omega, fun x hx => ?_⟩⟩
    obtain ⟨j, hj, rfl⟩ := List.getElem_of_mem hx
    exact hall h0 j hj (by omega)
  · exact ⟨-1, Ev.ite_pos (by omega) (Ev.val _), by omega, by omega, fun h => by omega⟩
theorem szHops_ev (x0 : List S58) (hm : x0.length ≤ 9223372036854775807) (hs : ∀ x ∈ x0, x.f0.size ≤ 9223372036854775807 ∧ x.f1.size ≤ 9223372036854775807 ∧ x.f3.size ≤ 9223372036854775807) (a : Int) (h0 : 0 ≤ a) (ha : a ≤ 1048576) : ∃ r, Ev (fun k => laws_szSkyHopS.f k x0 a) r ∧ r ≤ a ∧ -1 ≤ r ∧ (0 ≤ r → x0.length ≤ 1048576) := by
  unfold laws_szSkyHopS.f
  rw [w64 (by omega) (by omega)]
  by_cases h : (x0.length : Int) ≤ a
  · obtain ⟨r, hr, hle, hge, hall⟩ := size_loopE (F := laws_szSkyHopS.l0) (fun x => True) x0 (fun q i hi hq hq' => by
      have e : rd_T58 x0 (i : Int) = x0[i] := rd_at hi
      obtain ⟨hx1, hx2, hx3⟩ := hs x0[i] (List.getElem_mem hi)
      have e1 := w64 (show -9223372036854775808 ≤ q - (x0[i].f0.size : Int) by omega) (by omega)
      by_cases n1 : q - (x0[i].f0.size : Int) < 0
      · left
        refine Ev.succ ?_
        simp only [laws_szSkyHopS.l0, laws_szSkyHop.f, e, e1, if_pos n1, Option.bind_some]
        exact Ev.ite_pos (by omega) (Ev.ite_pos (by omega) (Ev.ite_pos (by decide) (Ev.val _)))
      · have e2 := w64 (show -9223372036854775808 ≤ q - (x0[i].f0.size : Int) - (x0[i].f1.size : Int) by omega) (by omega)
        by_cases n2 : q - (x0[i].f0.size : Int) - (x0[i].f1.size : Int) < 0
        · left
          refine Ev.succ ?_
          simp only [laws_szSkyHopS.l0, laws_szSkyHop.f, e, e1, e2, if_neg n1, if_pos n2, Option.bind_some]
          exact Ev.ite_pos (by omega) (Ev.ite_pos (by omega) (Ev.ite_pos (by decide) (Ev.val _)))
        · have e3 := w64 (show -9223372036854775808 ≤ q - (x0[i].f0.size : Int) - (x0[i].f1.size : Int) - (x0[i].f3.size : Int) by omega) (by omega)
          by_cases n3 : q - (x0[i].f0.size : Int) - (x0[i].f1.size : Int) - (x0[i].f3.size : Int) < 0
          · left
            refine Ev.succ ?_
            simp only [laws_szSkyHopS.l0, laws_szSkyHop.f, e, e1, e2, e3, if_neg n1, if_neg n2, if_pos n3, Option.bind_some]
            exact Ev.ite_pos (by omega) (Ev.ite_pos (by omega) (Ev.ite_pos (by decide) (Ev.val _)))
          · right
            refine ⟨q - (x0[i].f0.size : Int) - (x0[i].f1.size : Int) - (x0[i].f3.size : Int), by omega, by omega, trivial, fun r' hr' => ?_⟩
            refine Ev.succ ?_
            simp only [laws_szSkyHopS.l0, laws_szSkyHop.f, e, e1, e2, e3, if_neg n1, if_neg n2, if_neg n3, Option.bind_some]
            rw [w64 (by omega) (by omega)]
            exact Ev.ite_pos (by omega) (Ev.ite_pos (by omega) hr')) (fun q i h k => by
      simp only [laws_szSkyHopS.l0]
      rw [if_neg h]) x0.length 0 (a - x0.length) (by omega) (by omega) (by omega)
    exact ⟨r, Ev.ite_neg (by omega) hr, by omega, hge, fun h0 => by omega⟩
  · exact ⟨-1, Ev.ite_pos (by omega) (Ev.val _), by omega, by omega, fun h => by omega⟩
theorem szSkyIndex_ev (rows : List S56) (hops : List S58) (hm : rows.length ≤ 9223372036854775807) (hs : ∀ x ∈ rows, x.f2.length ≤ 9223372036854775807 ∧ ∀ y ∈ x.f2, y.f2.size ≤ 9223372036854775807) (hm2 : hops.length ≤ 9223372036854775807) (hs2 : ∀ x ∈ hops, x.f0.size ≤ 9223372036854775807 ∧ x.f1.size ≤ 9223372036854775807 ∧ x.f3.size ≤ 9223372036854775807) (a : Int) (h0 : 0 ≤ a) (ha : a ≤ 1048576) :
    ∃ r, Ev (fun k => laws_szSkyIndex.f k rows hops a) r ∧ (0 ≤ r → rows.length ≤ 1048576 ∧ (∀ x ∈ rows, x.f2.length ≤ 1048576) ∧ hops.length ≤ 1048576) := by
  unfold laws_szSkyIndex.f
  obtain ⟨r, hr, hle, hge, hb⟩ := szRows_ev rows hm hs a h0 ha
  by_cases hneg : r < 0
  · exact ⟨-1, Ev.bind hr (Ev.ite_pos hneg (Ev.val _)), fun h => by omega⟩
  · obtain ⟨r2, hr2, hle2, hge2, hb2⟩ := szHops_ev hops hm2 hs2 r (by omega) (by omega)
    by_cases hneg2 : r2 < 0
    · exact ⟨-1, Ev.bind hr (Ev.ite_neg hneg (Ev.bind hr2 (Ev.ite_pos hneg2 (Ev.val _)))), fun h => by omega⟩
    · exact ⟨r2, Ev.bind hr (Ev.ite_neg hneg (Ev.bind hr2 (Ev.ite_neg hneg2 (Ev.val _)))), fun h => ⟨(hb (by omega)).1, (hb (by omega)).2, hb2 h⟩⟩
def convRow (x : S56) : S61 := ⟨x.f0, x.f1, x.f2.map conv_toSkyRunS⟩
theorem toRows_ev (x0 : List S56) (hm : x0.length ≤ 1048576) (hs : ∀ x ∈ x0, x.f2.length ≤ 1048576) : Ev (fun k => laws_toSkyRowS.f k x0) (x0.map convRow) := by
  unfold laws_toSkyRowS.f
  refine Ev.ite_pos (by omega) (Ev.ite_pos (by omega) ?_)
  refine copy_loopE (F := laws_toSkyRowS.l0) (conv := convRow) x0 (fun x3 i hi hi3 r hr => ?_) (fun x3 i h k => ?_) x0.length 0 _ (by omega) (by simp) (fun j hj => by omega)
  · have e : rd_T56 x0 (i : Int) = x0[i] := rd_at hi
    refine Ev.succ ?_
    simp only [laws_toSkyRowS.l0, laws_toSkyRow.f, e, Int.toNat_natCast]
    rw [w64 (by omega) (by omega)]
    exact Ev.ite_pos (by omega) (Ev.ite_pos (by omega) (Ev.bind (Ev.bind (toSkyRunS_ev _ (hs _ (List.getElem_mem hi))) (Ev.val _)) (Ev.ite_pos (by omega) hr)))
  · simp only [laws_toSkyRowS.l0]
    rw [if_neg h]
theorem toSkyIndex_ev (rows : List S56) (hops : List S58) (hm : rows.length ≤ 1048576) (hs : ∀ x ∈ rows, x.f2.length ≤ 1048576) (hm2 : hops.length ≤ 1048576) : Ev (fun k => laws_toSkyIndex.f k rows hops) (rows.map convRow, hops.map conv_toSkyHopS) := by
  unfold laws_toSkyIndex.f
  exact Ev.bind (toRows_ev rows hm hs) (Ev.bind (toSkyHopS_ev hops hm2) (Ev.val _))
theorem eqRows_ev (x0 : List S61) (hm : x0.length ≤ 1048576) (hs : ∀ x ∈ x0, x.f2.length ≤ 1048576) : Ev (fun k => laws_eqSkyRowS.f k x0 x0) true := by
  unfold laws_eqSkyRowS.f
  refine Ev.ite_pos rfl ?_
  refine eq_loopE (F := laws_eqSkyRowS.l0) x0 (fun i hi r hr => ?_) (fun i h k => ?_) x0.length 0 (by omega)
  · have e : rd_T61 x0 (i : Int) = x0[i] := rd_at hi
    refine Ev.succ ?_
    simp only [laws_eqSkyRowS.l0, laws_eqSkyRow.f, e]
    rw [w64 (by omega) (by omega)]
    exact Ev.ite_pos (by omega) (Ev.ite_pos (by omega) (Ev.ite_pos (by omega) (Ev.bind (Ev.ite_pos trivial (Ev.ite_pos trivial (Ev.bind (eqSkyRunS_ev _ (hs _ (List.getElem_mem hi))) (Ev.ite_pos rfl (Ev.val _))))) (Ev.ite_pos rfl hr))))
  · simp only [laws_eqSkyRowS.l0]
    rw [if_neg h]
theorem eqSkyIndex_ev (rows : List S61) (hops : List S43) (hm : rows.length ≤ 1048576) (hs : ∀ x ∈ rows, x.f2.length ≤ 1048576) (hm2 : hops.length ≤ 1048576) : Ev (fun k => laws_eqSkyIndex.f k rows hops rows hops) true := by
  unfold laws_eqSkyIndex.f
  exact Ev.bind (eqRows_ev rows hm hs) (Ev.ite_pos rfl (Ev.bind (eqSkyHopS_ev hops hm2) (Ev.ite_pos rfl (Ev.val _))))
/-! #### marks of texts -/
theorem one_num (c : Int) : (strOfNums [c]).size = 1 := rfl
theorem markText_loop : ∀ (d : Nat) (m : Int) (x : ByteArray), 0 ≤ m → m < 10 ^ d → m ≤ 9223372036854775807 → x.size + d + 1 ≤ 9223372036854775807 → ∃ s, Ev (fun k => laws_markText.l0 k m x) s
  | 0, m, x, h0, hm, hb, hx => by
    have e : m = 0 := by simp at hm; omega
    subst e
    exact ⟨_, Ev.step (fun k => (by simp only [laws_markText.l0]; rw [if_neg (by decide), if_pos (by omega)])) (Ev.val _)⟩
  | d + 1, m, x, h0, hm, hb, hx => by
    by_cases hp : m > 0
    · have hd : Int.tdiv m 10 = m / 10 := Int.tdiv_eq_ediv_of_nonneg h0
      have hpow : (10 : Int) ^ (d + 1) = 10 ^ d * 10 := Int.pow_succ 10 d
      have e : wrap64 (Int.tdiv m 10) = m / 10 := by rw [hd]; exact w64 (by omega) (by omega)
      obtain ⟨s, hs⟩ := markText_loop d (m / 10) ((strOfNums [(wrap64 (48 + (Int.tmod m 10))) % 256]) ++ x) (by omega) (by rw [hpow] at hm; omega) (by omega) (by rw [ByteArray.size_append, one_num]; omega)
      refine ⟨s, Ev.succ ?_⟩
      simp only [laws_markText.l0, Option.bind_some, e]
      exact Ev.ite_pos hp (Ev.ite_pos (by rw [one_num]; omega) hs)
    · have e : m = 0 := by omega
      subst e
      exact ⟨_, Ev.step (fun k => (by simp only [laws_markText.l0]; rw [if_neg (by decide), if_pos (by omega)])) (Ev.val _)⟩
theorem markText_ev (m : Int) (hm : m ≤ 1000000000) : ∃ s, Ev (fun k => laws_markText.f k m) s := by
  unfold laws_markText.f
  by_cases h : m ≤ 0
  · exact ⟨_, Ev.ite_pos h (Ev.val _)⟩
  · obtain ⟨s, hs⟩ := markText_loop 10 m ⟨#[]⟩ (by omega) (by omega) (by omega) (by decide)
    exact ⟨s, Ev.ite_neg h hs⟩
/-! #### marking loops whose elements take rounds of their own -/
theorem mark_loopE {α : Type} {F : Nat → List α → Int → Int → Option (Int × List α)} {mk : Int → α} {m c : Int} (hc : 0 ≤ c) (hm0 : 0 ≤ m) (N : Nat) (hN : m + c * (N : Int) ≤ 1000000000)
    (hs : ∀ (x0 : List α) (q i : Int), 0 ≤ i → i < x0.length → x0.length = N → 0 ≤ q → q + c ≤ 1000000000 → ∀ r, Ev (fun k => F k (x0.set i.toNat (mk q)) (q + c) (i + 1)) r → Ev (fun k => F k x0 q i) r)
    (he : ∀ (x0 : List α) (q i : Int), ¬ i < x0.length → ∀ k, F (k + 1) x0 q i = some (q, x0)) :
    ∀ (d : Nat) (i : Nat) (x0 : List α), x0.length = N → N - i = d → i ≤ N → (∀ j : Nat, j < i → x0[j]? = some (mk (m + c * (j : Int)))) → Ev (fun k => F k x0 (m + c * (i : Int)) (i : Int)) (m + c * (N : Int), marks mk m c N)
  | 0, i, x0, hl, hd, hi, hj => Ev.step (he x0 _ _ (by omega)) (Ev.cast (Ev.val (m + c * (i : Int), x0)) (by
      have e : i = N := by omega
      subst e
      congr 1
      apply List.ext_getElem?
      intro j
      by_cases hjl : j < i
      · rw [hj j hjl, marks_get mk m c i j hjl]
      · rw [List.getElem?_eq_none (by omega), List.getElem?_eq_none (by rw [marks_length]; omega)]))
  | d + 1, i, x0, hl, hd, hi, hj => by
    have hle : c * ((i + 1 : Nat) : Int) ≤ c * (N : Int) := Int.mul_le_mul_of_nonneg_left (by omega) hc
    have h0 : 0 ≤ c * (i : Int) := Int.mul_nonneg hc (by omega)
    have hmul : c * ((i + 1 : Nat) : Int) = c * (i : Int) + c := by rw [Int.natCast_add, Int.mul_add]; simp
    refine hs x0 _ _ (by omega) (by omega) hl (by omega) (by omega) _ ?_
    have := mark_loopE hc hm0 N hN hs he d (i + 1) (x0.set i (mk (m + c * (i : Int)))) (by rw [List.length_set]; exact hl) (by omega) (by omega) (fun j hjl => by
      by_cases e : j = i
      · subst e
        rw [List.getElem?_set_self (by omega)]
      · rw [List.getElem?_set_ne (Ne.symm e)]
        exact hj j (by omega))
    rw [hmul] at this
    simpa [Int.add_assoc] using this
theorem held_loopE {α : Type} {F : Nat → List α → Int → Int → Option Int} {mk : Int → α} {m c : Int} (z : α) (hc : 0 ≤ c) (hm0 : 0 ≤ m) (N : Nat) (hN : m + c * (N : Int) ≤ 1000000000)
    (hs : ∀ (x0 : List α) (q i : Int), 0 ≤ i → i < x0.length → x0.length = N → 0 ≤ q → q + c ≤ 1000000000 → x0.getD i.toNat z = mk q → ∀ r, Ev (fun k => F k x0 (q + c) (i + 1)) r → Ev (fun k => F k x0 q i) r)
    (he : ∀ (x0 : List α) (q i : Int), ¬ i < x0.length → ∀ k, F (k + 1) x0 q i = some q) :
    ∀ (d : Nat) (i : Nat), N - i = d → i ≤ N → Ev (fun k => F k (marks mk m c N) (m + c * (i : Int)) (i : Int)) (m + c * (N : Int))
  | 0, i, hd, hi => Ev.step (he _ _ _ (by rw [marks_length]; omega)) (Ev.cast (Ev.val _) (by
      have e : i = N := by omega
      rw [e]))
  | d + 1, i, hd, hi => by
    have hle : c * ((i + 1 : Nat) : Int) ≤ c * (N : Int) := Int.mul_le_mul_of_nonneg_left (by omega) hc
    have h0 : 0 ≤ c * (i : Int) := Int.mul_nonneg hc (by omega)
    have hmul : c * ((i + 1 : Nat) : Int) = c * (i : Int) + c := by rw [Int.natCast_add, Int.mul_add]; simp
    refine hs _ _ _ (by omega) (by rw [marks_length]; omega) (marks_length _ _ _ _) (by omega) (by omega) (marks_getD mk m c N i z (by omega)) _ ?_
    have := held_loopE z hc hm0 N hN hs he d (i + 1) (by omega) (by omega)
    rw [hmul] at this
    simpa [Int.add_assoc] using this
noncomputable def txt (m : Int) : ByteArray := if h : m ≤ 1000000000 then Classical.choose (markText_ev m h) else ByteArray.empty
theorem txt_ev (m : Int) (h : m ≤ 1000000000) : Ev (fun k => laws_markText.f k m) (txt m) := by
  unfold txt
  rw [dif_pos h]
  exact Classical.choose_spec (markText_ev m h)
theorem markStringS_ev (x0 : List ByteArray) (hm : x0.length ≤ 1048576) : Ev (fun k => laws_markStringS.f k x0 1) (1 + 1 * (x0.length : Int), marks txt 1 1 x0.length) := by
  unfold laws_markStringS.f
  refine Ev.cast (mark_loopE (F := laws_markStringS.l0) (mk := txt) (m := 1) (c := 1) (by omega) (by omega) x0.length (by omega) (fun x0 q i h0 h1 hl h2 h3 r hr => ?_) (fun x0 q i h k => ?_) x0.length 0 x0 rfl (by omega) (by omega) (by intro j hj; omega)) rfl
  · refine Ev.succ ?_
    simp only [laws_markStringS.l0]
    rw [w64 (show -9223372036854775808 ≤ q + 1 by omega) (by omega), w64 (show -9223372036854775808 ≤ i + 1 by omega) (by omega)]
    exact Ev.ite_pos h1 (Ev.bind (txt_ev q (by omega)) (Ev.ite_pos h0 hr))
  · simp only [laws_markStringS.l0]
    rw [if_neg h]
theorem heldStringS_ev (n : Nat) (hm : n ≤ 1048576) : Ev (fun k => laws_heldStringS.f k (marks txt 1 1 n) 1) (1 + 1 * (n : Int)) := by
  unfold laws_heldStringS.f
  refine held_loopE (F := laws_heldStringS.l0) (mk := txt) (m := 1) (c := 1) ByteArray.empty (by omega) (by omega) n (by omega) (fun x0 q i h0 h1 hl h2 h3 he r hr => ?_) (fun x0 q i h k => ?_) n 0 (by omega) (by omega)
  · refine Ev.succ ?_
    simp only [laws_heldStringS.l0]
    rw [w64 (show -9223372036854775808 ≤ q + 1 by omega) (by omega), w64 (show -9223372036854775808 ≤ i + 1 by omega) (by omega)]
    have he' : rdOf ByteArray.empty x0 i = txt q := he
    refine Ev.ite_pos h1 (Ev.ite_pos h0 (Ev.bind (txt_ev q (by omega)) ?_))
    rw [he']
    exact Ev.ite_pos rfl hr
  · simp only [laws_heldStringS.l0]
    rw [if_neg h]
/-! #### hop by hop -/
def findHop (hops : List S43) (a b : ByteArray) : Int := findN (fun j => isHop (rd_T43 hops (j : Int)) a b) (fun j => (j : Int)) (-1) hops.length 0
theorem find_lt {P : Nat → Bool} : ∀ (d i : Nat), findN P (fun j => (j : Int)) (-1) d i < (i : Int) + (d : Int)
  | 0, i => by simp only [findN]; omega
  | d + 1, i => by
    have h := find_lt (P := P) d (i + 1)
    simp only [findN]
    split <;> omega
theorem findHop_lt (hops : List S43) (a b : ByteArray) : findHop hops a b < (hops.length : Int) := by
  have h := find_lt (P := fun j => isHop (rd_T43 hops (j : Int)) a b) hops.length 0
  unfold findHop
  omega
theorem spec_hop (rows : List S61) (hops : List S43) (a b : ByteArray) (hm : hops.length ≤ 1048576) : Ev (fun k => spec_l8Hop.f k rows hops a b) (findHop hops a b) := by
  unfold spec_l8Hop.f
  refine find_loop (F := fun k j => spec_l8Hop.l0 k a b j rows hops) hops.length (fun j => isHop (rd_T43 hops (j : Int)) a b) (fun j => (j : Int)) _ ?_ ?_ ?_ hops.length 0 (by omega)
  · intro j hj hp
    unfold isHop at hp
    rw [Bool.and_eq_true] at hp
    refine Ev.step (fun k => ?_) (Ev.val _)
    simp only [spec_l8Hop.l0]
    rw [if_pos (show (j : Int) < (hops.length : Int) by omega), if_pos (show (0 : Int) ≤ j by omega), if_pos (eq_of_beq hp.1), if_pos (eq_of_beq hp.2)]
  · intro j hj hp r' hr
    unfold isHop at hp
    refine Ev.step (fun k => ?_) hr
    simp only [spec_l8Hop.l0]
    rw [if_pos (show (j : Int) < (hops.length : Int) by omega), if_pos (show (0 : Int) ≤ j by omega), w64 (show -9223372036854775808 ≤ (j : Int) + 1 by omega) (by omega)]
    by_cases c : ((rd_T43 hops (j : Int)).f0).toList = a.toList
    · rw [if_pos c, if_neg]
      intro c2
      rw [c, c2] at hp
      simp at hp
    · rw [if_neg c]
  · refine Ev.step (fun k => ?_) (Ev.val _)
    simp only [spec_l8Hop.l0]
    rw [if_neg (by omega)]
theorem impl_hop (hops : List S43) (a b : ByteArray) (hm : hops.length ≤ 1048576) : Ev (fun k => impl_hopFind.f k hops a b) (findHop hops a b) := by
  unfold impl_hopFind.f
  refine find_loop (F := fun k j => impl_hopFind.l0 k hops a b (hops.length : Int) j) hops.length (fun j => isHop (rd_T43 hops (j : Int)) a b) (fun j => (j : Int)) _ ?_ ?_ ?_ hops.length 0 (by omega)
  · intro j hj hp
    refine Ev.step (fun k => ?_) (Ev.val _)
    simp only [impl_hopFind.l0]
    rw [if_pos (show (j : Int) < (hops.length : Int) by omega), if_pos (show (0 : Int) ≤ j by omega), if_pos (show (j : Int) < (hops.length : Int) by omega), if_pos hp]
  · intro j hj hp r' hr
    refine Ev.step (fun k => ?_) hr
    simp only [impl_hopFind.l0]
    rw [if_pos (show (j : Int) < (hops.length : Int) by omega), if_pos (show (0 : Int) ≤ j by omega), if_pos (show (j : Int) < (hops.length : Int) by omega), if_neg (by rw [hp]; decide), w64 (show -9223372036854775808 ≤ (j : Int) + 1 by omega) (by omega)]
  · refine Ev.step (fun k => ?_) (Ev.val _)
    simp only [impl_hopFind.l0]
    rw [if_neg (by omega)]
/-- d hops at most. -/
def goAlong (hops : List S43) (b : ByteArray) : Nat → ByteArray → List ByteArray → List ByteArray
  | 0, _, _ => []
  | d + 1, a, out => if a.toList = b.toList then out else if findHop hops a b < 0 then [] else if (out.length : Int) ≥ 16 then [] else goAlong hops b d ((rd_T43 hops (findHop hops a b)).f3) (out ++ [(rd_T43 hops (findHop hops a b)).f3])
theorem goAlong_length (hops : List S43) (b : ByteArray) : ∀ (d : Nat) (a : ByteArray) (out : List ByteArray), (goAlong hops b d a out).length ≤ out.length + d
  | 0, _, _ => by simp only [goAlong, List.length_nil]; omega
  | d + 1, a, out => by
    have h := goAlong_length hops b d ((rd_T43 hops (findHop hops a b)).f3) (out ++ [(rd_T43 hops (findHop hops a b)).f3])
    rw [List.length_append, List.length_singleton] at h
    simp only [goAlong]
    split
    · omega
    · split
      · simp only [List.length_nil]; omega
      · split
        · simp only [List.length_nil]; omega
        · omega
theorem along_spec (rows : List S61) (hops : List S43) (a b : ByteArray) (hm : hops.length ≤ 1048576) : Ev (fun k => spec_SkyAlong.f k rows hops a b) (goAlong hops b 16 a [a]) := by
  have go : ∀ (d : Nat) (a : ByteArray) (out : List ByteArray), out.length + d = 16 → Ev (fun k => spec_SkyAlong.l0 k a b out rows hops) (goAlong hops b (d + 1) a out) := by
    intro d
    induction d with
    | zero =>
      intro a out ho
      refine Ev.succ ?_
      simp only [spec_SkyAlong.l0, goAlong]
      by_cases c : a.toList = b.toList
      · rw [if_pos c]; exact Ev.ite_pos c (Ev.val _)
      · rw [if_neg c]
        refine Ev.ite_neg c (Ev.bind (spec_hop rows hops a b hm) ?_)
        by_cases c1 : findHop hops a b < 0
        · rw [if_pos c1]; exact Ev.ite_pos c1 (Ev.val _)
        · rw [if_neg c1, if_pos (show (out.length : Int) ≥ 16 by omega)]
          exact Ev.ite_neg c1 (Ev.ite_pos (by omega) (Ev.val _))
    | succ d ih =>
      intro a out ho
      refine Ev.succ ?_
      rw [goAlong]
      simp only [spec_SkyAlong.l0]
      by_cases c : a.toList = b.toList
      · rw [if_pos c]; exact Ev.ite_pos c (Ev.val _)
      · rw [if_neg c]
        refine Ev.ite_neg c (Ev.bind (spec_hop rows hops a b hm) ?_)
        by_cases c1 : findHop hops a b < 0
        · rw [if_pos c1]; exact Ev.ite_pos c1 (Ev.val _)
        · rw [if_neg c1, if_neg (show ¬ (out.length : Int) ≥ 16 by omega)]
          exact Ev.ite_neg c1 (Ev.ite_neg (by omega) (Ev.ite_pos (by omega) (Ev.ite_pos (findHop_lt hops a b) (Ev.ite_pos (by omega) (ih _ _ (by rw [List.length_append, List.length_singleton]; omega))))))
  unfold spec_SkyAlong.f
  exact go 15 a [a] rfl
theorem along_impl (rows : List S61) (hops : List S43) (a b : ByteArray) (hm : hops.length ≤ 1048576) : Ev (fun k => impl_SkyAlong.f k rows hops a b) (goAlong hops b 16 a [a]) := by
  have go : ∀ (d : Nat) (a : ByteArray) (out : List ByteArray), out.length + d = 16 → Ev (fun k => impl_SkyAlong.l0 k a b out rows hops) (goAlong hops b (d + 1) a out) := by
    intro d
    induction d with
    | zero =>
      intro a out ho
      refine Ev.succ ?_
      simp only [impl_SkyAlong.l0, goAlong]
      by_cases c : a.toList = b.toList
      · rw [if_pos c]; exact Ev.ite_pos c (Ev.val _)
      · rw [if_neg c]
        refine Ev.ite_neg c (Ev.bind (impl_hop hops a b hm) ?_)
        by_cases c1 : findHop hops a b < 0
        · rw [if_pos c1]; exact Ev.ite_pos c1 (Ev.val _)
        · rw [if_neg c1, if_pos (show (out.length : Int) ≥ 16 by omega)]
          exact Ev.ite_neg c1 (Ev.ite_pos (by omega) (Ev.val _))
    | succ d ih =>
      intro a out ho
      refine Ev.succ ?_
      rw [goAlong]
      simp only [impl_SkyAlong.l0]
      by_cases c : a.toList = b.toList
      · rw [if_pos c]; exact Ev.ite_pos c (Ev.val _)
      · rw [if_neg c]
        refine Ev.ite_neg c (Ev.bind (impl_hop hops a b hm) ?_)
        by_cases c1 : findHop hops a b < 0
        · rw [if_pos c1]; exact Ev.ite_pos c1 (Ev.val _)
        · rw [if_neg c1, if_neg (show ¬ (out.length : Int) ≥ 16 by omega)]
          exact Ev.ite_neg c1 (Ev.ite_neg (by omega) (Ev.ite_pos (by omega) (Ev.ite_pos (findHop_lt hops a b) (Ev.ite_pos (by omega) (ih _ _ (by rw [List.length_append, List.length_singleton]; omega))))))
  unfold impl_SkyAlong.f
  exact go 15 a [a] rfl
/-! #### what is handed over is marked -/
theorem text_ev (m : Int) (hm : m ≤ 9000000000000000000) : ∃ s, Ev (fun k => laws_markText.f k m) s := by
  unfold laws_markText.f
  by_cases h : m ≤ 0
  · exact ⟨_, Ev.ite_pos h (Ev.val _)⟩
  · obtain ⟨s, hs⟩ := markText_loop 19 m ⟨#[]⟩ (by omega) (by omega) (by omega) (by decide)
    exact ⟨s, Ev.ite_neg h hs⟩
def runSet (x0 : List S72) (i m : Int) (s : ByteArray) : List S72 :=
  let y := x0.set i.toNat (⟨m, (rd_T72 x0 i).f1, (rd_T72 x0 i).f2⟩ : S72)
  let z := y.set i.toNat (⟨(rd_T72 y i).f0, m + 1, (rd_T72 y i).f2⟩ : S72)
  z.set i.toNat (⟨(rd_T72 z i).f0, (rd_T72 z i).f1, s⟩ : S72)
theorem runs_mark : ∀ (d i : Nat) (m : Int) (x0 : List S72), 0 ≤ m → m + 3 * (d : Int) ≤ 8000000000000000000 → x0.length ≤ 1048576 → i + d = x0.length → ∃ l, Ev (fun k => laws_markSkyRunS.l0 k x0 m (i : Int)) (m + 3 * (d : Int), l) := by
  intro d
  induction d with
  | zero =>
    intro i m x0 h0 h1 hx hi
    refine ⟨x0, Ev.succ ?_⟩
    simp only [laws_markSkyRunS.l0]
    exact Ev.ite_neg (by omega) (Ev.cast (Ev.val _) (by congr 1; omega))
  | succ d ih =>
    intro i m x0 h0 h1 hx hi
    obtain ⟨s, hs⟩ := text_ev (m + 1 + 1) (by omega)
    have hlen : (runSet x0 (i : Int) m s).length = x0.length := by unfold runSet; simp only [List.length_set]
    obtain ⟨l, h⟩ := ih (i + 1) (m + 1 + 1 + 1) (runSet x0 (i : Int) m s) (by omega) (by omega) (by omega) (by omega)
    rw [show (((i + 1 : Nat)) : Int) = (i : Int) + 1 by omega, show m + 1 + 1 + 1 + 3 * (d : Int) = m + 3 * ((d + 1 : Nat) : Int) by omega] at h
    refine ⟨l, Ev.succ ?_⟩
    simp only [laws_markSkyRunS.l0, Option.bind_some]
    rw [w64 (show -9223372036854775808 ≤ m + 1 by omega) (by omega), w64 (show -9223372036854775808 ≤ m + 1 + 1 by omega) (by omega), w64 (show -9223372036854775808 ≤ m + 1 + 1 + 1 by omega) (by omega), w64 (show -9223372036854775808 ≤ (i : Int) + 1 by omega) (by omega)]
    exact Ev.ite_pos (by omega) (Ev.ite_pos (by omega) (Ev.bind hs h))
theorem rows_mark (rows : List S61) (hl : rows.length ≤ 1048576) (hr : ∀ i : Nat, i < rows.length → (rd_T61 rows (i : Int)).f2.length ≤ 1048576) : ∀ (d i : Nat) (m : Int), i + d = rows.length → 0 ≤ m → m + 4000000 * (d : Int) ≤ 8000000000000000 → ∃ r, 0 ≤ r ∧ r ≤ m + 4000000 * (d : Int) ∧ Ev (fun k => laws_markSkyRowS.l0 k rows m (i : Int)) r := by
  intro d
  induction d with
  | zero =>
    intro i m hi h0 h1
    refine ⟨m, h0, by omega, Ev.succ ?_⟩
    simp only [laws_markSkyRowS.l0]
    exact Ev.ite_neg (by omega) (Ev.val _)
  | succ d ih =>
    intro i m hi h0 h1
    have hn := hr i (by omega)
    obtain ⟨l, hG⟩ := runs_mark (rd_T61 rows (i : Int)).f2.length 0 (m + 1 + 1) (rd_T61 rows (i : Int)).f2 (by omega) (by omega) hn (by omega)
    obtain ⟨r, r0, r1, h⟩ := ih (i + 1) (m + 1 + 1 + 3 * ((rd_T61 rows (i : Int)).f2.length : Int)) (by omega) (by omega) (by omega)
    refine ⟨r, r0, by omega, Ev.succ ?_⟩
    simp only [laws_markSkyRowS.l0]
    rw [w64 (show -9223372036854775808 ≤ m + 1 by omega) (by omega), w64 (show -9223372036854775808 ≤ m + 1 + 1 by omega) (by omega), w64 (show -9223372036854775808 ≤ (i : Int) + 1 by omega) (by omega)]
    rw [show (((i + 1 : Nat)) : Int) = (i : Int) + 1 by omega] at h
    exact Ev.ite_pos (by omega) (Ev.ite_pos (by omega) (Ev.bind (show Ev (fun k => laws_markSkyRunS.f k (rd_T61 rows (i : Int)).f2 (m + 1 + 1)) _ from hG) h))
def hopSet (x0 : List S43) (i m : Int) (s0 s1 s3 : ByteArray) : List S43 :=
  let y := x0.set i.toNat (⟨s0, (rd_T43 x0 i).f1, (rd_T43 x0 i).f2, (rd_T43 x0 i).f3⟩ : S43)
  let z := y.set i.toNat (⟨(rd_T43 y i).f0, s1, (rd_T43 y i).f2, (rd_T43 y i).f3⟩ : S43)
  let u := z.set i.toNat (⟨(rd_T43 z i).f0, (rd_T43 z i).f1, m + 1 + 1, (rd_T43 z i).f3⟩ : S43)
  u.set i.toNat (⟨(rd_T43 u i).f0, (rd_T43 u i).f1, (rd_T43 u i).f2, s3⟩ : S43)
theorem hops_mark : ∀ (d i : Nat) (m : Int) (x0 : List S43), 0 ≤ m → m + 4 * (d : Int) ≤ 8000000000000000000 → x0.length ≤ 1048576 → i + d = x0.length → ∃ l, Ev (fun k => laws_markSkyHopS.l0 k x0 m (i : Int)) (m + 4 * (d : Int), l) := by
  intro d
  induction d with
  | zero =>
    intro i m x0 h0 h1 hx hi
    refine ⟨x0, Ev.succ ?_⟩
    simp only [laws_markSkyHopS.l0]
    exact Ev.ite_neg (by omega) (Ev.cast (Ev.val _) (by congr 1; omega))
  | succ d ih =>
    intro i m x0 h0 h1 hx hi
    obtain ⟨s0, hs0⟩ := text_ev m (by omega)
    obtain ⟨s1, hs1⟩ := text_ev (m + 1) (by omega)
    obtain ⟨s3, hs3⟩ := text_ev (m + 1 + 1 + 1) (by omega)
    have hlen : (hopSet x0 (i : Int) m s0 s1 s3).length = x0.length := by unfold hopSet; simp only [List.length_set]
    obtain ⟨l, h⟩ := ih (i + 1) (m + 1 + 1 + 1 + 1) (hopSet x0 (i : Int) m s0 s1 s3) (by omega) (by omega) (by omega) (by omega)
    rw [show (((i + 1 : Nat)) : Int) = (i : Int) + 1 by omega, show m + 1 + 1 + 1 + 1 + 4 * (d : Int) = m + 4 * ((d + 1 : Nat) : Int) by omega] at h
    refine ⟨l, Ev.succ ?_⟩
    simp only [laws_markSkyHopS.l0, Option.bind_some]
    rw [w64 (show -9223372036854775808 ≤ m + 1 by omega) (by omega), w64 (show -9223372036854775808 ≤ m + 1 + 1 by omega) (by omega), w64 (show -9223372036854775808 ≤ m + 1 + 1 + 1 by omega) (by omega), w64 (show -9223372036854775808 ≤ m + 1 + 1 + 1 + 1 by omega) (by omega), w64 (show -9223372036854775808 ≤ (i : Int) + 1 by omega) (by omega)]
    exact Ev.ite_pos (by omega) (Ev.bind hs0 (Ev.ite_pos (by omega) (Ev.bind hs1 (Ev.bind hs3 h))))
theorem index_mark (rows : List S61) (hops : List S43) (hl : rows.length ≤ 1048576) (hr : ∀ i : Nat, i < rows.length → (rd_T61 rows (i : Int)).f2.length ≤ 1048576) (hh : hops.length ≤ 1048576) : ∃ r l, 0 ≤ r ∧ Ev (fun k => laws_markSkyIndex.f k rows hops 1) (r, l) := by
  obtain ⟨m, m0, m1, h⟩ := rows_mark rows hl hr rows.length 0 1 (by omega) (by omega) (by omega)
  obtain ⟨l, hG⟩ := hops_mark hops.length 0 m hops m0 (by omega) hh (by omega)
  refine ⟨m + 4 * (hops.length : Int), l, by omega, ?_⟩
  unfold laws_markSkyIndex.f
  exact Ev.bind (show Ev (fun k => laws_markSkyRowS.f k rows 1) m from h) (Ev.bind (show Ev (fun k => laws_markSkyHopS.f k hops m) (m + 4 * (hops.length : Int), l) from hG) (Ev.val _))
theorem FnExactSkyAlong : Said := by
  intro rows hops a b ⟨⟨hm, hrows⟩, ⟨hm2, hhops⟩⟩ _ _
  refine Ev.rounds (r := true) ?_
  unfold laws_FnExactSkyAlong.f
  by_cases ha : (a.size : Int) > 1048576
  · exact Ev.ite_pos ha (Ev.val _)
  refine Ev.ite_neg ha ?_
  by_cases hb0 : (b.size : Int) > 1048576
  · exact Ev.ite_pos hb0 (Ev.val _)
  refine Ev.ite_neg hb0 ?_
  obtain ⟨r, hr, hb⟩ := szSkyIndex_ev rows hops hm (fun z hz => ⟨(hrows z hz).2.2.1, fun u hu => ((hrows z hz).2.2.2 u hu).2.2⟩) hm2 (fun z hz => ⟨(hhops z hz).1, (hhops z hz).2.1, (hhops z hz).2.2.2⟩) 1048576 (by omega) (by omega)
  refine Ev.bind hr ?_
  by_cases hneg : r < 0
  · exact Ev.ite_pos hneg (Ev.val _)
  · obtain ⟨hl, hll, hl2⟩ := hb (by omega)
    refine Ev.ite_neg hneg ?_
    have tx := toSkyIndex_ev rows hops hl hll hl2
    have m1 : (rows.map convRow).length ≤ 1048576 := by rw [List.length_map]; exact hl
    have m2 : (hops.map conv_toSkyHopS).length ≤ 1048576 := by rw [List.length_map]; exact hl2
    have mm : ∀ i : Nat, i < (rows.map convRow).length → (rd_T61 (rows.map convRow) (i : Int)).f2.length ≤ 1048576 := fun i hi => by
      show ((rows.map convRow).getD ((i : Int)).toNat _).f2.length ≤ 1048576
      rw [rd_at hi, List.getElem_map]
      simp only [convRow, List.length_map]
      exact hll _ (List.getElem_mem _)
    have mm2 : ∀ z ∈ rows.map convRow, z.f2.length ≤ 1048576 := fun z hz => by
      obtain ⟨u, hu, rfl⟩ := List.mem_map.1 hz
      simp only [convRow, List.length_map]
      exact hll u hu
    have hg : (goAlong (hops.map conv_toSkyHopS) b 16 a [a]).length ≤ 1048576 := by
      have := goAlong_length (hops.map conv_toSkyHopS) b 16 a [a]
      simp only [List.length_singleton] at this
      omega
    have es := along_spec (rows.map convRow) (hops.map conv_toSkyHopS) a b m2
    have ei := along_impl (rows.map convRow) (hops.map conv_toSkyHopS) a b m2
    obtain ⟨mk, ml, mk0, hmk⟩ := index_mark (rows.map convRow) (hops.map conv_toSkyHopS) m1 mm m2
    generalize goAlong (hops.map conv_toSkyHopS) b 16 a [a] = way at hg es ei
    refine Ev.bind tx (Ev.bind es (Ev.bind tx (Ev.bind ei (Ev.bind (eqStringS_ev _ hg) (Ev.ite_pos rfl ?_)))))
    refine Ev.bind tx (Ev.bind (eqSkyIndex_ev _ _ m1 mm2 m2) (Ev.ite_pos rfl (Ev.bind hmk (Ev.ite_neg (by omega) (Ev.bind (eqStringS_ev _ hg) (Ev.succ ?_))))))
    simp only [laws_FnExactSkyAlong.j0]
    refine Ev.ite_neg (by decide) (Ev.bind (markStringS_ev _ hg) (Ev.bind (heldStringS_ev _ hg) (Ev.ite_neg (by omega) (Ev.ite_pos rfl ?_))))
    exact Ev.bind tx (Ev.bind ei (Ev.bind (eqStringS_ev _ hg) (Ev.ite_pos rfl (Ev.bind (heldStringS_ev _ hg) (Ev.ite_neg (by omega) (Ev.ite_pos rfl (Ev.val _)))))))
end Go.Proofs.Ytkdhfgonjipbbaa.Pure
