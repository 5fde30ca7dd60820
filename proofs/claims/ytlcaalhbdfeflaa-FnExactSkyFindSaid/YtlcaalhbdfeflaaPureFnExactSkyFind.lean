/-
  The law FnExactSkyFind over numbers and lists: the first row and run that hold a place, found by both in the same way.
-/
import Derived.Test.YtlcaalhbdfeflaaSayFnExactSkyFind
import Derived.Test.YtlcaalhbdfeflaaStdFnExactSkyFind
namespace Go.Proofs.Ytlcaalhbdfeflaa.Pure
open Go.RowKit Go.Proofs.Ytlcaalhbdfeflaa.QFnExactSkyFind Go.Proofs.YtlcaalhbdfeflaaW.PrintWords Go.Proofs.Ytlcaalhbdfeflaa.Kit Go.Proofs.Ytlcaalhbdfeflaa.StdFnExactSkyFind Go.Proofs.Ytlcaalhbdfeflaa.SayFnExactSkyFind
set_option linter.unusedSimpArgs false
set_option linter.unusedVariables false
/-! #### the law's own helpers on an index -/
theorem szRun_ev (l : List S68) (hm : l.length ≤ 9223372036854775807) (hs : ∀ x ∈ l, x.f2.size ≤ 9223372036854775807) (a : Int) (h0 : 0 ≤ a) (ha : a ≤ 1048576) : ∃ r, Ev (fun k => laws_szSkyRunS.f k l a) r ∧ r ≤ a ∧ -1 ≤ r ∧ (0 ≤ r → l.length ≤ 1048576) := by
  obtain ⟨r, hr, hle, hge, hlen⟩ := szSkyRunS_ev l hm hs a h0 ha
  exact ⟨r, hr, hle, hge, fun h => by have := hlen h; omega⟩
theorem szRows_ev (x0 : List S55) (hm : x0.length ≤ 9223372036854775807) (hs : ∀ x ∈ x0, x.f2.length ≤ 9223372036854775807 ∧ ∀ y ∈ x.f2, y.f2.size ≤ 9223372036854775807) (a : Int) (h0 : 0 ≤ a) (ha : a ≤ 1048576) : ∃ r, Ev (fun k => laws_szSkyRowS.f k x0 a) r ∧ r ≤ a ∧ -1 ≤ r ∧ (0 ≤ r → x0.length ≤ 1048576 ∧ ∀ x ∈ x0, x.f2.length ≤ 1048576) := by
  unfold laws_szSkyRowS.f
  rw [w64 (by omega) (by omega)]
  by_cases h : (x0.length : Int) ≤ a
  · obtain ⟨r, hr, hle, hge, hall⟩ := size_loopE (F := laws_szSkyRowS.l0) (fun x => x.f2.length ≤ 1048576) x0 (fun q i hi hq hq' => by
      have e : rd_T55 x0 (i : Int) = x0[i] := rd_at hi
      obtain ⟨hx1, hx2⟩ := hs x0[i] (List.getElem_mem hi)
      obtain ⟨r, hr, hle, hge, hlen⟩ := szRun_ev x0[i].f2 hx1 hx2 q hq hq'
      by_cases hneg : r < 0
      · left
        refine Ev.succ ?_
        simp only [laws_szSkyRowS.l0, laws_szSkyRow.f, e]
        exact Ev.ite_pos (by omega) (Ev.ite_pos (by omega) (Ev.bind (Ev.bind hr (Ev.ite_pos hneg (Ev.val _))) (Ev.ite_pos (by decide) (Ev.val _))))
      · right
        refine ⟨r, by omega, hle, hlen (by omega), fun r' hr' => ?_⟩
        refine Ev.succ ?_
        simp only [laws_szSkyRowS.l0, laws_szSkyRow.f, e]
        rw [w64 (by omega) (by omega)]
        exact Ev.ite_pos (by omega) (Ev.ite_pos (by omega) (Ev.bind (Ev.bind hr (Ev.ite_neg hneg (Ev.val _))) (Ev.ite_neg hneg hr')))) (fun q i h k => by
      simp only [laws_szSkyRowS.l0]
      rw [if_neg h]) x0.length 0 (a - x0.length) (by omega) (by omega) (by omega)
    refine ⟨r, Ev.ite_neg (by omega) hr, by omega, hge, fun h0 => ⟨by omega, fun x hx => ?_⟩⟩
    obtain ⟨j, hj, rfl⟩ := List.getElem_of_mem hx
    exact hall h0 j hj (by omega)
  · exact ⟨-1, Ev.ite_pos (by omega) (Ev.val _), by omega, by omega, fun h => by omega⟩
theorem szHops_ev (x0 : List S58) (hm : x0.length ≤ 9223372036854775807) (hs : ∀ x ∈ x0, x.f0.size ≤ 9223372036854775807 ∧ x.f1.size ≤ 9223372036854775807 ∧ x.f3.size ≤ 9223372036854775807) (a : Int) (h0 : 0 ≤ a) (ha : a ≤ 1048576) : ∃ r, Ev (fun k => laws_szSkyHopS.f k x0 a) r ∧ r ≤ a ∧ -1 ≤ r ∧ (0 ≤ r → x0.length ≤ 1048576) := by
  unfold laws_szSkyHopS.f
  rw [w64 (by omega) (by omega)]
  by_cases h : (x0.length : Int) ≤ a
  · obtain ⟨r, hr, hle, hge, hall⟩ := size_loopE (F := laws_szSkyHopS.l0) (fun x => True) x0 (fun q i hi hq hq' => by
      have e : rd_T58 x0 (i : Int) = x0[i] := rd_at hi
      obtain ⟨hx1, hx2, hx3⟩ := hs x0[i] (List.getElem_mem hi)
      have e1 := w64 (show -9223372036854775808 ≤ q - (x0[i].f0.size : Int) by omega) (by omega)
      by_cases n1 : q - (x0[i].f0.size : Int) < 0
      · left
        refine Ev.succ ?_
        simp only [laws_szSkyHopS.l0, laws_szSkyHop.f, e, e1, if_pos n1, Option.bind_some]
        exact Ev.ite_pos (by omega) (Ev.ite_pos (by omega) (Ev.ite_pos (by decide) (Ev.val _)))
      · have e2 := w64 (show -9223372036854775808 ≤ q - (x0[i].f0.size : Int) - (x0[i].f1.size : Int) by omega) (by omega)
        by_cases n2 : q - (x0[i].f0.size : Int) - (x0[i].f1.size : Int) < 0
        · left
          refine Ev.succ ?_
          simp only [laws_szSkyHopS.l0, laws_szSkyHop.f, e, e1, e2, if_neg n1, if_pos n2, Option.bind_some]
          exact Ev.ite_pos (by omega) (Ev.ite_pos (by omega) (Ev.ite_pos (by decide) (Ev.val _)))
        · have e3 := w64 (show -9223372036854775808 ≤ q - (x0[i].f0.size : Int) - (x0[i].f1.size : Int) - (x0[i].f3.size : Int) by omega) (by omega)
          by_cases n3 : q - (x0[i].f0.size : Int) - (x0[i].f1.size : Int) - (x0[i].f3.size : Int) < 0
          · left
            refine Ev.succ ?_
            simp only [laws_szSkyHopS.l0, laws_szSkyHop.f, e, e1, e2, e3, if_neg n1, if_neg n2, if_pos n3, Option.bind_some]
            exact Ev.ite_pos (by omega) (Ev.ite_pos (by omega) (Ev.ite_pos (by decide) (Ev.val _)))
          · right
            refine ⟨q - (x0[i].f0.size : Int) - (x0[i].f1.size : Int) - (x0[i].f3.size : Int), by omega, by omega, trivial, fun r' hr' => ?_⟩
            refine Ev.succ ?_
            simp only [laws_szSkyHopS.l0, laws_szSkyHop.f, e, e1, e2, e3, if_neg n1, if_neg n2, if_neg n3, Option.bind_some]
            rw [w64 (by omega) (by omega)]
            exact Ev.ite_pos (by omega) (Ev.ite_pos (by omega) hr')) (fun q i h k => by
      simp only [laws_szSkyHopS.l0]
      rw [if_neg h]) x0.length 0 (a - x0.length) (by omega) (by omega) (by omega)
    exact ⟨r, Ev.ite_neg (by omega) hr, by omega, hge, fun h0 => by omega⟩
  · exact ⟨-1, Ev.ite_pos (by omega) (Ev.val _), by omega, by omega, fun h => by omega⟩
theorem szSkyIndex_ev (rows : List S55) (hops : List S58) (hm : rows.length ≤ 9223372036854775807) (hs : ∀ x ∈ rows, x.f2.length ≤ 9223372036854775807 ∧ ∀ y ∈ x.f2, y.f2.size ≤ 9223372036854775807) (hm2 : hops.length ≤ 9223372036854775807) (hs2 : ∀ x ∈ hops, x.f0.size ≤ 9223372036854775807 ∧ x.f1.size ≤ 9223372036854775807 ∧ x.f3.size ≤ 9223372036854775807) (a : Int) (h0 : 0 ≤ a) (ha : a ≤ 1048576) :
    ∃ r, Ev (fun k => laws_szSkyIndex.f k rows hops a) r ∧ (0 ≤ r → rows.length ≤ 1048576 ∧ (∀ x ∈ rows, x.f2.length ≤ 1048576) ∧ hops.length ≤ 1048576) := by
  unfold laws_szSkyIndex.f
  obtain ⟨r, hr, hle, hge, hb⟩ := szRows_ev rows hm hs a h0 ha
  by_cases hneg : r < 0
  · exact ⟨-1, Ev.bind hr (Ev.ite_pos hneg (Ev.val _)), fun h => by omega⟩
  · obtain ⟨r2, hr2, hle2, hge2, hb2⟩ := szHops_ev hops hm2 hs2 r (by omega) (by omega)
    by_cases hneg2 : r2 < 0
    · exact ⟨-1, Ev.bind hr (Ev.ite_neg hneg (Ev.bind hr2 (Ev.ite_pos hneg2 (Ev.val _)))), fun h => by omega⟩
    · exact ⟨r2, Ev.bind hr (Ev.ite_neg hneg (Ev.bind hr2 (Ev.ite_neg hneg2 (Ev.val _)))), fun h => ⟨(hb (by omega)).1, (hb (by omega)).2, hb2 h⟩⟩
def convRow (x : S55) : S44 := ⟨x.f0, x.f1, x.f2.map conv_toSkyRunS⟩
theorem toRows_ev (x0 : List S55) (hm : x0.length ≤ 1048576) (hs : ∀ x ∈ x0, x.f2.length ≤ 1048576) : Ev (fun k => laws_toSkyRowS.f k x0) (x0.map convRow) := by
  unfold laws_toSkyRowS.f
  refine Ev.ite_pos (by omega) (Ev.ite_pos (by omega) ?_)
  refine copy_loopE (F := laws_toSkyRowS.l0) (conv := convRow) x0 (fun x3 i hi hi3 r hr => ?_) (fun x3 i h k => ?_) x0.length 0 _ (by omega) (by simp) (fun j hj => by omega)
  · have e : rd_T55 x0 (i : Int) = x0[i] := rd_at hi
    refine Ev.succ ?_
    simp only [laws_toSkyRowS.l0, laws_toSkyRow.f, e, Int.toNat_natCast]
    rw [w64 (by omega) (by omega)]
    exact Ev.ite_pos (by omega) (Ev.ite_pos (by omega) (Ev.bind (Ev.bind (toSkyRunS_ev _ (hs _ (List.getElem_mem hi))) (Ev.val _)) (Ev.ite_pos (by omega) hr)))
  · simp only [laws_toSkyRowS.l0]
    rw [if_neg h]
theorem toSkyIndex_ev (rows : List S55) (hops : List S58) (hm : rows.length ≤ 1048576) (hs : ∀ x ∈ rows, x.f2.length ≤ 1048576) (hm2 : hops.length ≤ 1048576) : Ev (fun k => laws_toSkyIndex.f k rows hops) (rows.map convRow, hops.map conv_toSkyHopS) := by
  unfold laws_toSkyIndex.f
  exact Ev.bind (toRows_ev rows hm hs) (Ev.bind (toSkyHopS_ev hops hm2) (Ev.val _))
theorem eqRows_ev (x0 : List S44) (hm : x0.length ≤ 1048576) (hs : ∀ x ∈ x0, x.f2.length ≤ 1048576) : Ev (fun k => laws_eqSkyRowS.f k x0 x0) true := by
  unfold laws_eqSkyRowS.f
  refine Ev.ite_pos rfl ?_
  refine eq_loopE (F := laws_eqSkyRowS.l0) x0 (fun i hi r hr => ?_) (fun i h k => ?_) x0.length 0 (by omega)
  · have e : rd_T44 x0 (i : Int) = x0[i] := rd_at hi
    refine Ev.succ ?_
    simp only [laws_eqSkyRowS.l0, laws_eqSkyRow.f, e]
    rw [w64 (by omega) (by omega)]
    exact Ev.ite_pos (by omega) (Ev.ite_pos (by omega) (Ev.ite_pos (by omega) (Ev.bind (Ev.ite_pos trivial (Ev.ite_pos trivial (Ev.bind (eqSkyRunS_ev _ (hs _ (List.getElem_mem hi))) (Ev.ite_pos rfl (Ev.val _))))) (Ev.ite_pos rfl hr))))
  · simp only [laws_eqSkyRowS.l0]
    rw [if_neg h]
theorem eqSkyIndex_ev (rows : List S44) (hops : List S60) (hm : rows.length ≤ 1048576) (hs : ∀ x ∈ rows, x.f2.length ≤ 1048576) (hm2 : hops.length ≤ 1048576) : Ev (fun k => laws_eqSkyIndex.f k rows hops rows hops) true := by
  unfold laws_eqSkyIndex.f
  exact Ev.bind (eqRows_ev rows hm hs) (Ev.ite_pos rfl (Ev.bind (eqSkyHopS_ev hops hm2) (Ev.ite_pos rfl (Ev.val _))))
def findRow (runs : List S47) (x : Int) (r : ByteArray × Bool) : ByteArray × Bool := findN (fun j => decide ((rd_T47 runs (j : Int)).f0 ≤ x ∧ x ≤ (rd_T47 runs (j : Int)).f1)) (fun j => ((rd_T47 runs (j : Int)).f2, true)) r runs.length 0
/-- From row i on, d rows. -/
def findAll (rows : List S44) (x y level : Int) : Nat → Nat → ByteArray × Bool
  | 0, _ => (⟨#[]⟩, false)
  | d + 1, i => if (rd_T44 rows (i : Int)).f0 = level ∧ (rd_T44 rows (i : Int)).f1 = y then findRow (rd_T44 rows (i : Int)).f2 x (findAll rows x y level d (i + 1)) else findAll rows x y level d (i + 1)
theorem in_spec (a b c : Int) : spec_l1In.f a b c = some (decide (b ≤ a ∧ a ≤ c)) := by
  unfold spec_l1In.f
  by_cases h : a ≥ b <;> simp [h]
theorem find_spec (rows : List S44) (hops : List S60) (x y level : Int) (hr : rows.length ≤ 1048576) (hrr : ∀ i : Nat, i < rows.length → (rd_T44 rows (i : Int)).f2.length ≤ 1048576) : Ev (fun k => spec_SkyFind.f k rows hops x y level) (findAll rows x y level rows.length 0) := by
  have go : ∀ (d i : Nat), i + d = rows.length → Ev (fun k => spec_SkyFind.l0 k i rows hops x y level) (findAll rows x y level d i) := by
    intro d
    induction d with
    | zero =>
      intro i hi
      refine Ev.step (fun k => ?_) (Ev.val _)
      simp only [spec_SkyFind.l0]
      rw [if_neg (by omega)]
      rfl
    | succ d ih =>
      intro i hi
      have h := ih (i + 1) (by omega)
      rw [show (((i + 1 : Nat) : Int)) = (i : Int) + 1 by omega] at h
      have skip : Ev (fun k => spec_SkyFind.j1 k i true rows hops x y level) (findAll rows x y level d (i + 1)) := by
        refine Ev.step (fun k => ?_) h
        simp only [spec_SkyFind.j1]
        rw [if_pos trivial, w64 (by omega) (by omega)]
      refine Ev.succ ?_
      simp only [spec_SkyFind.l0, findAll]
      refine Ev.ite_pos (by omega) (Ev.ite_pos (by omega) ?_)
      by_cases h0 : (rd_T44 rows (i : Int)).f0 = level
      · refine Ev.ite_pos h0 ?_
        by_cases h1 : (rd_T44 rows (i : Int)).f1 = y
        · rw [if_pos ⟨h0, h1⟩, show ((rd_T44 rows (i : Int)).f1 != y) = false by rw [h1]; exact bne_self_eq_false y]
          refine Ev.step (fun k => by simp only [spec_SkyFind.j1]; exact if_neg (by decide)) ?_
          have hlen := hrr i (by omega)
          refine find_loop (F := fun k j => spec_SkyFind.l1 k i j rows hops x y level) (rd_T44 rows (i : Int)).f2.length _ _ _ ?_ ?_ ?_ (rd_T44 rows (i : Int)).f2.length 0 (by omega)
          · intro j hj hp
            refine Ev.step (fun k => ?_) (Ev.val _)
            simp only [spec_SkyFind.l1, in_spec, Option.bind_some, if_pos (show (0 : Int) ≤ i by omega), if_pos (show (i : Int) < (rows.length : Int) by omega), if_pos (show (j : Int) < ((rd_T44 rows (i : Int)).f2.length : Int) by omega), if_pos (show (0 : Int) ≤ j by omega)]
            rw [if_pos hp]
          · intro j hj hp r' hr'
            refine Ev.step (fun k => ?_) hr'
            simp only [spec_SkyFind.l1, in_spec, Option.bind_some, if_pos (show (0 : Int) ≤ i by omega), if_pos (show (i : Int) < (rows.length : Int) by omega), if_pos (show (j : Int) < ((rd_T44 rows (i : Int)).f2.length : Int) by omega), if_pos (show (0 : Int) ≤ j by omega)]
            rw [if_neg (by rw [hp]; decide), w64 (by omega) (by omega)]
          · refine Ev.step (fun k => ?_) h
            simp only [spec_SkyFind.l1, if_pos (show (0 : Int) ≤ i by omega), if_pos (show (i : Int) < (rows.length : Int) by omega)]
            rw [if_neg (by omega), w64 (by omega) (by omega)]
        · rw [if_neg (fun hh => h1 hh.2), show ((rd_T44 rows (i : Int)).f1 != y) = true by rw [bne_iff_ne]; exact h1]
          exact skip
      · rw [if_neg (fun hh => h0 hh.1)]
        exact Ev.ite_neg h0 skip
  exact go rows.length 0 (by omega)
theorem find_impl (rows : List S44) (hops : List S60) (x y level : Int) (hr : rows.length ≤ 1048576) (hrr : ∀ i : Nat, i < rows.length → (rd_T44 rows (i : Int)).f2.length ≤ 1048576) : Ev (fun k => impl_SkyFind.f k rows hops x y level) (findAll rows x y level rows.length 0) := by
  have go : ∀ (d i : Nat), i + d = rows.length → Ev (fun k => impl_SkyFind.l0 k rows (rows.length : Int) i x y level) (findAll rows x y level d i) := by
    intro d
    induction d with
    | zero =>
      intro i hi
      refine Ev.step (fun k => ?_) (Ev.val _)
      simp only [impl_SkyFind.l0]
      rw [if_neg (by omega)]
      rfl
    | succ d ih =>
      intro i hi
      have h := ih (i + 1) (by omega)
      rw [show (((i + 1 : Nat) : Int)) = (i : Int) + 1 by omega] at h
      have hlen := hrr i (by omega)
      refine Ev.succ ?_
      simp only [impl_SkyFind.l0, findAll]
      refine Ev.ite_pos (by omega) (Ev.ite_pos (by omega) (Ev.ite_pos (by omega) ?_))
      generalize rd_T44 rows (i : Int) = row at hlen ⊢
      have skip : Ev (fun k => impl_SkyFind.j1 k rows (rows.length : Int) i true x y level row.f0 row.f1 row.f2) (findAll rows x y level d (i + 1)) := by
        refine Ev.step (fun k => ?_) h
        simp only [impl_SkyFind.j1]
        rw [if_pos trivial, w64 (by omega) (by omega)]
      by_cases h0 : row.f0 = level
      · refine Ev.ite_pos h0 ?_
        by_cases h1 : row.f1 = y
        · rw [if_pos ⟨h0, h1⟩, show (row.f1 != y) = false by rw [h1]; exact bne_self_eq_false y]
          refine Ev.step (fun k => by simp only [impl_SkyFind.j1]; exact if_neg (by decide)) ?_
          refine find_loop (F := fun k j => impl_SkyFind.l1 k rows (rows.length : Int) i row.f2 (row.f2.length : Int) j x y level) row.f2.length _ _ _ ?_ ?_ ?_ row.f2.length 0 (by omega)
          · intro j hj hp
            have hp := of_decide_eq_true hp
            refine Ev.step (fun k => ?_) (Ev.val _)
            simp only [impl_SkyFind.l1, if_pos (show (j : Int) < (row.f2.length : Int) by omega), if_pos (show (0 : Int) ≤ j by omega)]
            rw [if_pos hp.1, if_pos hp.2]
          · intro j hj hp r' hr'
            have hp := of_decide_eq_false hp
            refine Ev.step (fun k => ?_) hr'
            simp only [impl_SkyFind.l1, if_pos (show (j : Int) < (row.f2.length : Int) by omega), if_pos (show (0 : Int) ≤ j by omega)]
            rw [w64 (by omega) (by omega)]
            by_cases c : (rd_T47 row.f2 (j : Int)).f0 ≤ x
            · rw [if_pos c, if_neg (fun c2 => hp ⟨c, c2⟩)]
            · rw [if_neg c]
          · refine Ev.step (fun k => ?_) h
            simp only [impl_SkyFind.l1]
            rw [if_neg (by omega), w64 (by omega) (by omega)]
        · rw [if_neg (fun hh => h1 hh.2), show (row.f1 != y) = true by rw [bne_iff_ne]; exact h1]
          exact skip
      · rw [if_neg (fun hh => h0 hh.1)]
        exact Ev.ite_neg h0 skip
  exact go rows.length 0 (by omega)
theorem FnExactSkyFind : Said := by
  intro rows hops x y level ⟨⟨hm, hrows⟩, ⟨hm2, hhops⟩⟩ _
  refine Ev.rounds (r := true) ?_
  unfold laws_FnExactSkyFind.f laws_toSkyPlace.f
  obtain ⟨r, hr, hb⟩ := szSkyIndex_ev rows hops hm (fun z hz => ⟨(hrows z hz).2.2.1, fun u hu => ((hrows z hz).2.2.2 u hu).2.2⟩) hm2 (fun z hz => ⟨(hhops z hz).1, (hhops z hz).2.1, (hhops z hz).2.2.2⟩) 1048576 (by omega) (by omega)
  refine Ev.bind hr ?_
  by_cases hneg : r < 0
  · exact Ev.ite_pos hneg (Ev.val _)
  · obtain ⟨hl, hll, hl2⟩ := hb (by omega)
    refine Ev.ite_neg hneg ?_
    have tx := toSkyIndex_ev rows hops hl hll hl2
    have m1 : (rows.map convRow).length ≤ 1048576 := by rw [List.length_map]; exact hl
    have m2 : (hops.map conv_toSkyHopS).length ≤ 1048576 := by rw [List.length_map]; exact hl2
    have mm : ∀ i : Nat, i < (rows.map convRow).length → (rd_T44 (rows.map convRow) (i : Int)).f2.length ≤ 1048576 := fun i hi => by
      show ((rows.map convRow).getD ((i : Int)).toNat _).f2.length ≤ 1048576
      rw [rd_at hi, List.getElem_map]
      simp only [convRow, List.length_map]
      exact hll _ (List.getElem_mem _)
    have mm2 : ∀ z ∈ rows.map convRow, z.f2.length ≤ 1048576 := fun z hz => by
      obtain ⟨u, hu, rfl⟩ := List.mem_map.1 hz
      simp only [convRow, List.length_map]
      exact hll u hu
    refine Ev.bind tx ?_
    simp only [Option.bind_some]
    refine Ev.bind (find_spec _ _ x y level m1 mm) (Ev.bind tx (Ev.bind (find_impl _ _ x y level m1 mm) (Ev.ite_pos rfl ?_)))
    rw [bne_self_eq_false]
    refine Ev.succ ?_
    simp only [laws_FnExactSkyFind.j0]
    exact Ev.ite_neg (by decide) (Ev.bind tx (Ev.bind (eqSkyIndex_ev _ _ m1 mm2 m2) (Ev.ite_pos rfl (Ev.val _))))
end Go.Proofs.Ytlcaalhbdfeflaa.Pure
