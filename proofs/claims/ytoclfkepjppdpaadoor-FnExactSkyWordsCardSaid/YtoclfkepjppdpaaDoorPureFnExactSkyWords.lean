/-
  The law FnExactSkyWords over texts alone: both tell the same words of every line.
-/
import Derived.Test.YtoclfkepjppdpaaDoorStdFnExactSkyWords
namespace Go.Proofs.YtoclfkepjppdpaaDoor.Pure
open Go Go.RowKit Go.Proofs.YtoclfkepjppdpaaDoor.QFnExactSkyWords Go.Proofs.YtoclfkepjppdpaaDoorW.PrintWords Go.Proofs.YtoclfkepjppdpaaDoor.Kit Go.Proofs.YtoclfkepjppdpaaDoor.StdFnExactSkyWords
set_option linter.unusedSimpArgs false
set_option linter.unusedVariables false
/-! #### a line's words, said once -/
def goodC (c : UInt8) : Bool := decide (33 ≤ c.toNat ∧ c.toNat ≤ 126)
def goodW (p : ByteArray) : Bool := p.data.toList.all goodC && decide (p.size ≤ 24)
/-- What the parts come to, behind the words that are there. -/
def wordsL : List ByteArray → List ByteArray → List ByteArray × Bool
  | out, [] => if (out.length : Int) > 12 then ([], false) else (out, true)
  | out, p :: ps => if p.size = 0 then wordsL out ps else if goodW p = true then wordsL (out ++ [p]) ps else ([], false)
/-- A line's rest cut at each blank; what stands behind the last one is left. -/
def cutL : ByteArray → List UInt8 → List ByteArray
  | _, [] => []
  | w, c :: r => if c = 32 then w :: cutL ⟨#[]⟩ r else cutL (w ++ ⟨#[c]⟩) r
theorem wordsL_length : ∀ (ps out : List ByteArray), (wordsL out ps).1.length ≤ 12
  | [], out => by
    unfold wordsL
    split
    · simp
    · simp only; omega
  | p :: ps, out => by
    unfold wordsL
    split
    · exact wordsL_length ps out
    · split
      · exact wordsL_length ps _
      · simp
theorem size_toList (x : ByteArray) : x.data.toList.length = x.size := by rw [Array.length_toList]; rfl
theorem toList_nil (x : ByteArray) : x.toList = [] ↔ x.size = 0 := by
  rw [Lib.toList_data, ← size_toList]
  exact List.length_eq_zero_iff.symm
theorem bt_data (x : ByteArray) (i : Nat) (h : i < x.data.toList.length) : bt x (i : Int) = ((x.data.toList[i]).toNat : Int) := by
  have hs : i < x.size := by rw [← size_toList]; exact h
  unfold bt
  rw [dif_pos (by simpa using hs)]
  rfl
theorem byte_lt (c : UInt8) : c.toNat < 256 := c.toNat_lt
/-! #### the program: part by part -/
theorem impl_word (out parts : List ByteArray) (n i : Int) (p : ByteArray) (hp : p.size ≤ 4000000) {R : List ByteArray × Bool} (hR : goodW p = true → Ev (fun k => if out.length < 8796093022208 then impl_SkyWords.l0 k (out ++ [p]) parts n (wrap64 (i + 1)) else none) R) (hN : goodW p = false → R = ([], false)) :
    ∀ (d j : Nat), j + d = p.size → (p.data.toList.take j).all goodC = true → Ev (fun k => impl_SkyWords.l1 k out p (j : Int) parts n i) R := by
  intro d
  induction d with
  | zero =>
    intro j hj hall
    have e : (p.data.toList.take j) = p.data.toList := List.take_of_length_le (by rw [size_toList]; omega)
    rw [e] at hall
    refine Ev.succ ?_
    simp only [impl_SkyWords.l1]
    refine Ev.ite_neg (by omega) ?_
    by_cases h24 : (p.size : Int) > 24
    · refine Ev.ite_pos h24 (Ev.cast (Ev.val _) (hN ?_).symm)
      unfold goodW
      rw [decide_eq_false (by omega), Bool.and_false]
    · refine Ev.ite_neg h24 ?_
      unfold strings_Clone.f
      rw [if_pos hp]
      simp only [Option.bind_some]
      refine hR ?_
      unfold goodW
      rw [hall, decide_eq_true (by omega)]; rfl
  | succ d ih =>
    intro j hj hall
    have hjl : j < p.data.toList.length := by rw [size_toList]; omega
    have hb := bt_data p j hjl
    refine Ev.succ ?_
    simp only [impl_SkyWords.l1]
    rw [hb]
    have bad : ¬ goodC p.data.toList[j] = true → goodW p = false := by
      intro hc
      unfold goodW
      rw [Bool.and_eq_false_iff]
      left
      rw [List.all_eq_false]
      exact ⟨p.data.toList[j], List.getElem_mem hjl, hc⟩
    by_cases c1 : ((p.data.toList[j]).toNat : Int) < 33
    · refine Ev.ite_pos (by omega) (Ev.ite_pos (by omega) (Ev.ite_pos c1 (Ev.cast (Ev.val _) (hN (bad ?_)).symm)))
      unfold goodC
      rw [decide_eq_true_eq]; omega
    · by_cases c2 : ((p.data.toList[j]).toNat : Int) > 126
      · refine Ev.ite_pos (by omega) (Ev.ite_pos (by omega) (Ev.ite_neg c1 (Ev.ite_pos c2 (Ev.cast (Ev.val _) (hN (bad ?_)).symm))))
        unfold goodC
        rw [decide_eq_true_eq]; omega
      · have next := ih (j + 1) (by omega) (by
          rw [List.take_add_one, List.getElem?_eq_getElem hjl, List.all_append, hall]
          show (true && ([p.data.toList[j]].all goodC)) = true
          simp only [List.all_cons, List.all_nil, Bool.and_true, Bool.true_and]
          unfold goodC
          rw [decide_eq_true_eq]; omega)
        rw [show (((j + 1 : Nat)) : Int) = (j : Int) + 1 by omega] at next
        rw [w64 (n := (j : Int) + 1) (by omega) (by omega)]
        exact Ev.ite_pos (by omega) (Ev.ite_pos (by omega) (Ev.ite_neg c1 (Ev.ite_neg c2 next)))
theorem rdOf_nth (x : List ByteArray) (i : Nat) (h : i < x.length) : rdOf ByteArray.empty x (i : Int) = x[i] := by
  show x.getD ((i : Int)).toNat _ = x[i]
  rw [Int.toNat_natCast, List.getD_eq_getElem?_getD, List.getElem?_eq_getElem h]; rfl
theorem impl_parts (parts : List ByteArray) (hs : ∀ p ∈ parts, p.size ≤ 4000000) (hl : parts.length ≤ 4000000) : ∀ (d i : Nat) (out : List ByteArray), i + d = parts.length → out.length ≤ i → Ev (fun k => impl_SkyWords.l0 k out parts (parts.length : Int) (i : Int)) (wordsL out (parts.drop i)) := by
  intro d
  induction d with
  | zero =>
    intro i out hi ho
    rw [List.drop_of_length_le (by omega)]
    refine Ev.succ ?_
    simp only [impl_SkyWords.l0]
    refine Ev.ite_neg (by omega) ?_
    unfold wordsL
    by_cases h : (out.length : Int) > 12
    · exact Ev.cast (Ev.ite_pos h (Ev.val _)) (if_pos h).symm
    · exact Ev.cast (Ev.ite_neg h (Ev.val _)) (if_neg h).symm
  | succ d ih =>
    intro i out hi ho
    have hil : i < parts.length := by omega
    rw [List.drop_eq_getElem_cons hil]
    refine Ev.succ ?_
    simp only [impl_SkyWords.l0]
    rw [rdOf_nth parts i hil, w64 (n := (i : Int) + 1) (by omega) (by omega)]
    refine Ev.ite_pos (by omega) (Ev.ite_pos (by omega) (Ev.ite_pos (by omega) ?_))
    unfold wordsL
    by_cases h0 : parts[i].size = 0
    · rw [if_pos h0]
      refine Ev.ite_pos ((toList_nil _).2 h0) ?_
      have := ih (i + 1) out (by omega) (by omega)
      rw [show (((i + 1 : Nat)) : Int) = (i : Int) + 1 by omega] at this
      exact this
    · rw [if_neg h0]
      refine Ev.ite_neg (fun e => h0 ((toList_nil _).1 e)) ?_
      refine impl_word out parts (parts.length : Int) (i : Int) parts[i] (hs _ (List.getElem_mem hil)) (fun hg => ?_) (fun hg => ?_) parts[i].size 0 (by omega) (by simp)
      · rw [if_pos hg, w64 (n := (i : Int) + 1) (by omega) (by omega)]
        have := ih (i + 1) (out ++ [parts[i]]) (by omega) (by simp; omega)
        rw [show (((i + 1 : Nat)) : Int) = (i : Int) + 1 by omega] at this
        exact Ev.ite_pos (by omega) this
      · rw [hg]; rfl
/-! #### the reference: byte by byte -/
theorem bad_end : ∀ (r : List UInt8) (w : ByteArray) (out : List ByteArray), r.getLast? = some 32 → w.size ≠ 0 → goodW w = false → wordsL out (cutL w r) = ([], false)
  | [], w, out, h, _, _ => by simp at h
  | c :: r, w, out, h, hw, hg => by
    unfold cutL
    by_cases hc : c = 32
    · rw [if_pos hc]
      unfold wordsL
      rw [if_neg hw, hg]; rfl
    · rw [if_neg hc]
      have hr : r.getLast? = some 32 := by
        cases r with
        | nil => simp at h; exact absurd h hc
        | cons a b => simpa using h
      refine bad_end r _ out hr (by rw [ByteArray.size_append]; show w.size + 1 ≠ 0; omega) ?_
      unfold goodW at hg ⊢
      rw [Bool.and_eq_false_iff] at hg ⊢
      rcases hg with hg | hg
      · left
        rw [show (w ++ (⟨#[c]⟩ : ByteArray)).data.toList = w.data.toList ++ [c] by simp [ByteArray.data_append], List.all_append, hg]; rfl
      · right
        have := of_decide_eq_false hg
        refine decide_eq_false ?_
        rw [ByteArray.size_append]
        show ¬ w.size + 1 ≤ 24
        omega
theorem extract_one (z : ByteArray) (i : Nat) (h : i < z.data.toList.length) : z.extract i (i + 1) = ⟨#[z.data.toList[i]]⟩ := by
  rw [Lib.extract_eq, List.drop_eq_getElem_cons h, show i + 1 - i = 1 by omega]
  rfl
theorem spec_parts (z : ByteArray) (hz : z.size ≤ 4000001) : ∀ (d i : Nat) (out : List ByteArray) (w : ByteArray), i + d = z.size → out.length ≤ i → w.size ≤ i → goodW w = true → (d = 0 → w.size = 0) → (d ≠ 0 → (z.data.toList.drop i).getLast? = some 32) → Ev (fun k => spec_SkyWords.l0 k out w z (i : Int)) (wordsL out (cutL w (z.data.toList.drop i))) := by
  intro d
  induction d with
  | zero =>
    intro i out w hi ho hwi hg hw hlast
    rw [List.drop_of_length_le (by rw [size_toList]; omega)]
    refine Ev.succ ?_
    simp only [spec_SkyWords.l0]
    refine Ev.ite_neg (by omega) ?_
    unfold cutL wordsL
    by_cases h : (out.length : Int) > 12
    · exact Ev.cast (Ev.ite_pos h (Ev.val _)) (if_pos h).symm
    · exact Ev.cast (Ev.ite_neg h (Ev.val _)) (if_neg h).symm
  | succ d ih =>
    intro i out w hi ho hwi hg hw hlast
    have hil : i < z.data.toList.length := by rw [size_toList]; omega
    have hlast' := hlast (by omega)
    rw [List.drop_eq_getElem_cons hil] at hlast' ⊢
    have hb := bt_data z i hil
    have e1 : wrap64 ((i : Int) + 1) = (i : Int) + 1 := w64 (by omega) (by omega)
    have hr : d ≠ 0 → (z.data.toList.drop (i + 1)).getLast? = some 32 := by
      intro hd
      have hne : z.data.toList.drop (i + 1) ≠ [] := by
        intro e
        have := congrArg List.length e
        rw [List.length_drop, size_toList, List.length_nil] at this
        omega
      obtain ⟨a, r, e⟩ := List.exists_cons_of_ne_nil hne
      rw [e] at hlast' ⊢
      simpa using hlast'
    refine Ev.succ ?_
    simp only [spec_SkyWords.l0, e1]
    rw [hb]
    refine Ev.ite_pos (by omega) (Ev.ite_pos (by omega) ?_)
    unfold cutL
    by_cases hc : z.data.toList[i] = 32
    · rw [if_pos hc]
      refine Ev.ite_pos (by rw [hc]; rfl) ?_
      unfold wordsL
      by_cases h0 : w.size = 0
      · rw [if_pos h0]
        refine Ev.ite_pos ((toList_nil _).2 h0) ?_
        have ew : w = ⟨#[]⟩ := by
          apply ByteArray.ext
          exact Array.eq_empty_of_size_eq_zero h0
        have := ih (i + 1) out w (by omega) (by omega) (by omega) hg (fun _ => h0) hr
        rw [show (((i + 1 : Nat)) : Int) = (i : Int) + 1 by omega] at this
        rw [ew] at this ⊢
        exact this
      · rw [if_neg h0, if_pos hg]
        refine Ev.ite_neg (fun e => h0 ((toList_nil _).1 e)) (Ev.ite_pos (by omega) ?_)
        have := ih (i + 1) (out ++ [w]) ⟨#[]⟩ (by omega) (by simp; omega) (by show 0 ≤ _; omega) (by rfl) (fun _ => rfl) hr
        rw [show (((i + 1 : Nat)) : Int) = (i : Int) + 1 by omega] at this
        exact this
    · rw [if_neg hc]
      have hcn : ¬ ((z.data.toList[i]).toNat : Int) = 32 := by
        intro e
        refine hc (UInt8.toNat_inj.mp ?_)
        show _ = 32
        omega
      have hd : d ≠ 0 := by
        intro e
        subst e
        rw [List.drop_of_length_le (by rw [size_toList]; omega)] at hlast'
        simp at hlast'
        exact hc hlast'
      have hex : z.extract ((i : Int)).toNat (((i : Int) + 1)).toNat = ⟨#[z.data.toList[i]]⟩ := by
        rw [show ((i : Int)).toNat = i by omega, show ((i : Int) + 1).toNat = i + 1 by omega]
        exact extract_one z i hil
      rw [hex]
      have hsz : (w ++ (⟨#[z.data.toList[i]]⟩ : ByteArray)).size = w.size + 1 := ByteArray.size_append
      have hdl : (w ++ (⟨#[z.data.toList[i]]⟩ : ByteArray)).data.toList = w.data.toList ++ [z.data.toList[i]] := by simp [ByteArray.data_append]
      have hby := byte_lt z.data.toList[i]
      unfold spec_l1In.f
      rw [w64 (n := ((z.data.toList[i]).toNat : Int)) (by omega) (by omega)]
      have stop : goodW (w ++ (⟨#[z.data.toList[i]]⟩ : ByteArray)) = false → Ev (fun k => spec_SkyWords.j1 k out (w ++ (⟨#[z.data.toList[i]]⟩ : ByteArray)) z (i : Int) true) (wordsL out (cutL (w ++ (⟨#[z.data.toList[i]]⟩ : ByteArray)) (z.data.toList.drop (i + 1)))) := by
        intro hb
        refine Ev.cast (Ev.succ ?_) (bad_end _ _ out (hr hd) (by omega) hb).symm
        simp only [spec_SkyWords.j1]
        exact Ev.ite_pos trivial (Ev.val _)
      have goodL : w.data.toList.all goodC = true := by
        unfold goodW at hg
        rw [Bool.and_eq_true] at hg
        exact hg.1
      refine Ev.ite_neg hcn (Ev.ite_pos (by omega) (Ev.ite_pos (by omega) (Ev.ite_pos (by show w.size + 1 ≤ _; omega) ?_)))
      by_cases c1 : ((z.data.toList[i]).toNat : Int) ≥ 33
      · rw [if_pos c1]
        simp only [Option.bind_some]
        by_cases c2 : ((z.data.toList[i]).toNat : Int) ≤ 126
        · refine Ev.ite_pos (decide_eq_true c2) ?_
          by_cases h24 : ((w ++ (⟨#[z.data.toList[i]]⟩ : ByteArray)).size : Int) > 24
          · rw [decide_eq_true h24]
            refine stop ?_
            unfold goodW
            rw [decide_eq_false (by omega), Bool.and_false]
          · rw [decide_eq_false h24]
            have := ih (i + 1) out (w ++ (⟨#[z.data.toList[i]]⟩ : ByteArray)) (by omega) (by omega) (by omega) (by
              unfold goodW
              rw [hdl, List.all_append, goodL, decide_eq_true (by omega), Bool.and_true, Bool.true_and]
              simp only [List.all_cons, List.all_nil, Bool.and_true]
              unfold goodC
              rw [decide_eq_true_eq]; omega) (fun e => absurd e hd) hr
            rw [show (((i + 1 : Nat)) : Int) = (i : Int) + 1 by omega] at this
            refine Ev.succ ?_
            simp only [spec_SkyWords.j1, e1]
            exact Ev.ite_neg (by decide) this
        · refine Ev.ite_neg (by simpa using c2) (stop ?_)
          unfold goodW
          rw [Bool.and_eq_false_iff]
          left
          rw [hdl, List.all_append, List.all_cons]
          have : goodC z.data.toList[i] = false := by unfold goodC; exact decide_eq_false (by omega)
          rw [this, Bool.false_and, Bool.and_false]
      · rw [if_neg c1]
        simp only [Option.bind_some]
        refine Ev.ite_neg (by simp) (stop ?_)
        unfold goodW
        rw [Bool.and_eq_false_iff]
        left
        rw [hdl, List.all_append, List.all_cons]
        have : goodC z.data.toList[i] = false := by unfold goodC; exact decide_eq_false (by omega)
        rw [this, Bool.false_and, Bool.and_false]
/-! #### both cut the line alike -/
theorem cutL_sp (w : ByteArray) (r : List UInt8) : cutL w (32 :: r) = w :: cutL ⟨#[]⟩ r := by rw [cutL, if_pos rfl]
theorem cutL_c (w : ByteArray) (c : UInt8) (r : List UInt8) (h : c ≠ 32) : cutL w (c :: r) = cutL (w ++ ⟨#[c]⟩) r := by rw [cutL, if_neg h]
theorem emp_app (x : ByteArray) : (⟨#[]⟩ : ByteArray) ++ x = x := by apply ByteArray.ext; simp [ByteArray.data_append]
theorem cut_run : ∀ (a : List UInt8) (w : ByteArray) (r : List UInt8), (∀ c ∈ a, c ≠ 32) → cutL w (a ++ 32 :: r) = (w ++ (⟨a.toArray⟩ : ByteArray)) :: cutL ⟨#[]⟩ r
  | [], w, r, _ => by
    show cutL w (32 :: r) = _
    rw [cutL_sp]
    congr 1
    apply ByteArray.ext
    simp [ByteArray.data_append]
  | c :: a, w, r, h => by
    show cutL w (c :: (a ++ 32 :: r)) = _
    rw [cutL_c _ _ _ (h c List.mem_cons_self), cut_run a _ r (fun x hx => h x (List.mem_cons_of_mem _ hx))]
    congr 1
    apply ByteArray.ext
    simp [ByteArray.data_append]
def blank : ByteArray := ⟨#[32]⟩
def hash : ByteArray := ⟨#[35]⟩
theorem split_cut : ∀ (n : Nat) (s : ByteArray), s.size ≤ n → Lib.splitB blank 0 (Lib.countB s blank) s = cutL ⟨#[]⟩ (s.data.toList ++ [32]) := by
  intro n
  induction n with
  | zero =>
    intro s hs
    have hm : Lib.indexB s blank = -1 := by
      rcases Lib.indexB_cases s blank with h | ⟨i, h, hi⟩
      · exact h
      · have : blank.size = 1 := rfl
        omega
    rw [Lib.splitB_miss _ _ _ _ hm, cut_run s.data.toList ⟨#[]⟩ [] (fun c hc => by
      have : s.data.toList.length = 0 := by rw [size_toList]; omega
      rw [List.length_eq_zero_iff.1 this] at hc
      cases hc), emp_app, Lib.mk_data]
    rfl
  | succ n ih =>
    intro s hs
    have h1 : Lib.indexB s blank = Lib.indexByte s.data.toList 32 := Lib.one s blank rfl
    rcases Lib.indexB_cases s blank with h | ⟨i, h, hi⟩
    · rw [Lib.splitB_miss _ _ _ _ h, cut_run s.data.toList ⟨#[]⟩ [] (fun c hc e => by
        obtain ⟨k, hk, hke⟩ := List.getElem_of_mem hc
        rw [h1] at h
        exact Lib.indexByte_none h k (by rw [List.getElem?_eq_getElem hk, hke, e])), emp_app, Lib.mk_data]
      rfl
    · have hb : blank.size = 1 := rfl
      have hi' : i < s.data.toList.length := by rw [size_toList]; omega
      rw [h1] at h
      have hs1 := Lib.indexByte_some h
      have hc : Lib.countB s blank = Lib.countB (s.extract (i + blank.size) s.size) blank + 1 := by
        rw [Lib.countB_hit s blank i (by omega) (by rw [h1]; exact h)]; omega
      rw [hc, Lib.splitB_hit blank 0 _ s i (by rw [h1]; exact h)]
      have er : (s.extract (i + blank.size) s.size).data.toList = s.data.toList.drop (i + 1) := by rw [Lib.extract_to_end]; rfl
      have el : (s.extract 0 (i + 0)).data.toList = s.data.toList.take i := by rw [Lib.extract_from_zero]; rfl
      have es : s.data.toList = s.data.toList.take i ++ 32 :: s.data.toList.drop (i + 1) := by
        have h2 := hs1.1
        rw [List.getElem?_eq_getElem hi'] at h2
        have h3 := Option.some.inj h2
        rw [← h3, ← List.drop_eq_getElem_cons hi', List.take_append_drop]
      rw [ih _ (by rw [← size_toList, er, List.length_drop, size_toList]; omega), er]
      have hno : ∀ c ∈ s.data.toList.take i, c ≠ 32 := by
        intro c hc e
        obtain ⟨k, hk, hke⟩ := List.getElem_of_mem hc
        rw [List.length_take] at hk
        refine hs1.2 k (by omega) ?_
        rw [List.getElem_take] at hke
        rw [List.getElem?_eq_getElem (by omega), hke, e]
      have e2 : s.data.toList ++ [32] = s.data.toList.take i ++ 32 :: (s.data.toList.drop (i + 1) ++ [32]) := by
        conv => lhs; rw [es]
        simp
      rw [e2, cut_run _ ⟨#[]⟩ _ hno, emp_app, ← el, Lib.mk_data]
/-- What stands ahead of the first hash. -/
def bareOf (s : ByteArray) : ByteArray := ⟨(Lib.cut s.data.toList hash.data.toList).1.toArray⟩
theorem bare_size (s : ByteArray) : (bareOf s).size ≤ s.size := by
  unfold bareOf
  rcases Lib.indexB_cases s hash with h | ⟨i, h, hi⟩
  · rw [(Lib.cutB_miss s hash h).1]; exact Nat.le_refl _
  · rw [(Lib.cutB_hit s hash i h).1, ByteArray.size_extract]; omega
theorem bare_ev (s : ByteArray) (hs : s.size ≤ 4000000) : Ev (fun k => spec_l1Bare.f k s) (bareOf s) := by
  have h1 : Lib.indexB s hash = Lib.indexByte s.data.toList 35 := Lib.one s hash rfl
  unfold spec_l1Bare.f
  rcases Lib.indexB_cases s hash with h | ⟨n, h, hn⟩
  · have e : bareOf s = s := (Lib.cutB_miss s hash h).1
    rw [e]
    rw [h1] at h
    have loop : ∀ d i : Nat, i + d = s.size → Ev (fun k => spec_l1Bare.l0 k s (i : Int)) s := by
      intro d
      induction d with
      | zero =>
        intro i hi
        refine Ev.succ ?_
        simp only [spec_l1Bare.l0]
        exact Ev.ite_neg (by omega) (Ev.val _)
      | succ d ih =>
        intro i hi
        have hil : i < s.data.toList.length := by rw [size_toList]; omega
        have := ih (i + 1) (by omega)
        rw [show (((i + 1 : Nat)) : Int) = (i : Int) + 1 by omega] at this
        refine Ev.succ ?_
        simp only [spec_l1Bare.l0]
        rw [bt_data s i hil, w64 (n := (i : Int) + 1) (by omega) (by omega)]
        refine Ev.ite_pos (by omega) (Ev.ite_pos (by omega) (Ev.ite_neg ?_ this))
        intro e2
        refine Lib.indexByte_none h i ?_
        rw [List.getElem?_eq_getElem hil]
        congr 1
        refine UInt8.toNat_inj.mp ?_
        show _ = 35
        omega
    exact loop s.size 0 (by omega)
  · have e : bareOf s = s.extract 0 n := (Lib.cutB_hit s hash n h).1
    rw [e]
    rw [h1] at h
    have hs1 := Lib.indexByte_some h
    have hz : hash.size = 1 := rfl
    have hnl : n < s.data.toList.length := by rw [size_toList]; omega
    have loop : ∀ d i : Nat, i + d = n → Ev (fun k => spec_l1Bare.l0 k s (i : Int)) (s.extract 0 n) := by
      intro d
      induction d with
      | zero =>
        intro i hi
        have ei : i = n := by omega
        have h2 := hs1.1
        rw [List.getElem?_eq_getElem hnl] at h2
        refine Ev.succ ?_
        simp only [spec_l1Bare.l0]
        rw [ei, bt_data s n hnl, Option.some.inj h2]
        refine Ev.ite_pos (by omega) (Ev.ite_pos (by omega) (Ev.ite_pos rfl (Ev.ite_pos (by omega) (Ev.cast (Ev.val _) ?_))))
        rw [Int.toNat_natCast]
      | succ d ih =>
        intro i hi
        have hil : i < s.data.toList.length := by omega
        have := ih (i + 1) (by omega)
        rw [show (((i + 1 : Nat)) : Int) = (i : Int) + 1 by omega] at this
        have hsz := size_toList s
        refine Ev.succ ?_
        simp only [spec_l1Bare.l0]
        rw [bt_data s i hil, w64 (n := (i : Int) + 1) (by omega) (by omega)]
        refine Ev.ite_pos (by omega) (Ev.ite_pos (by omega) (Ev.ite_neg ?_ this))
        intro e2
        refine hs1.2 i (by omega) ?_
        rw [List.getElem?_eq_getElem hil]
        congr 1
        refine UInt8.toNat_inj.mp ?_
        show _ = 35
        omega
    exact loop n 0 (by omega)
def wordsOf (s : ByteArray) : List ByteArray × Bool := wordsL [] (cutL ⟨#[]⟩ ((bareOf s).data.toList ++ [32]))
theorem cutL_sizes : ∀ (r : List UInt8) (w : ByteArray) (n : Nat), w.size + r.length ≤ n → (∀ p ∈ cutL w r, p.size ≤ n) ∧ (cutL w r).length ≤ r.length
  | [], w, n, h => by unfold cutL; exact ⟨fun p hp => (by cases hp), Nat.le_refl _⟩
  | c :: r, w, n, h => by
    simp only [List.length_cons] at h
    unfold cutL
    split
    · have := cutL_sizes r ⟨#[]⟩ n (by show 0 + _ ≤ _; omega)
      refine ⟨fun p hp => ?_, by simp only [List.length_cons]; omega⟩
      rcases List.mem_cons.1 hp with e | e
      · rw [e]; omega
      · exact this.1 p e
    · have := cutL_sizes r (w ++ ⟨#[c]⟩) n (by rw [ByteArray.size_append]; show w.size + 1 + _ ≤ _; omega)
      exact ⟨this.1, by simp only [List.length_cons]; omega⟩
theorem words_spec (s : ByteArray) (hs : s.size ≤ 3000000) : Ev (fun k => spec_SkyWords.f k s) (wordsOf s) := by
  have hb := bare_size s
  unfold spec_SkyWords.f
  refine Ev.bind (bare_ev s (by omega)) (Ev.ite_pos (by omega) ?_)
  have e : ((bareOf s) ++ (⟨#[32]⟩ : ByteArray)).data.toList = (bareOf s).data.toList ++ [32] := by simp [ByteArray.data_append]
  have hz : ((bareOf s) ++ (⟨#[32]⟩ : ByteArray)).size = (bareOf s).size + 1 := ByteArray.size_append
  have := spec_parts ((bareOf s) ++ (⟨#[32]⟩ : ByteArray)) (by omega) _ 0 [] ⟨#[]⟩ (Nat.zero_add _) (by simp) (by show 0 ≤ _; omega) (by rfl) (fun h => by omega) (fun _ => by rw [List.drop_zero, e]; simp)
  rw [List.drop_zero, e] at this
  exact this
theorem words_impl (s : ByteArray) (hs : s.size ≤ 3000000) : Ev (fun k => impl_SkyWords.f k s) (wordsOf s) := by
  have hb := bare_size s
  unfold impl_SkyWords.f strings_Cut.f
  rw [if_pos (by omega)]
  simp only [Option.bind_some]
  have ec : (⟨(Lib.cut s.data.toList (⟨#[35]⟩ : ByteArray).data.toList).1.toArray⟩ : ByteArray) = bareOf s := rfl
  rw [ec]
  unfold strings_Split.f
  rw [if_pos (by omega), if_pos (by show 1 ≤ 1; omega)]
  simp only [Option.bind_some]
  have es : Lib.splitB (⟨#[32]⟩ : ByteArray) 0 (Lib.countB (bareOf s) (⟨#[32]⟩ : ByteArray)) (bareOf s) = cutL ⟨#[]⟩ ((bareOf s).data.toList ++ [32]) := split_cut _ (bareOf s) (Nat.le_refl _)
  rw [es]
  have hc := cutL_sizes ((bareOf s).data.toList ++ [32]) ⟨#[]⟩ 3000001 (by rw [List.length_append, size_toList]; show 0 + (_ + 1) ≤ _; omega)
  rw [List.length_append, size_toList] at hc
  have := impl_parts (cutL ⟨#[]⟩ ((bareOf s).data.toList ++ [32])) (fun p hp => by have := hc.1 p hp; omega) (by have := hc.2; simp only [List.length_cons, List.length_nil] at this; omega) _ 0 [] (Nat.zero_add _) (by simp)
  rw [List.drop_zero] at this
  exact this
/-! #### marks of texts -/
theorem one_num (c : Int) : (strOfNums [c]).size = 1 := rfl
theorem markText_loop : ∀ (d : Nat) (m : Int) (x : ByteArray), 0 ≤ m → m < 10 ^ d → m ≤ 9223372036854775807 → x.size + d + 1 ≤ 9223372036854775807 → ∃ s, Ev (fun k => laws_markText.l0 k m x) s
  | 0, m, x, h0, hm, hb, hx => by
    have e : m = 0 := by simp at hm; omega
    subst e
    exact ⟨_, Ev.step (fun k => (by simp only [laws_markText.l0]; rw [if_neg (by decide), if_pos (by omega)])) (Ev.val _)⟩
  | d + 1, m, x, h0, hm, hb, hx => by
    by_cases hp : m > 0
    · have hd : Int.tdiv m 10 = m / 10 := Int.tdiv_eq_ediv_of_nonneg h0
      have hpow : (10 : Int) ^ (d + 1) = 10 ^ d * 10 := Int.pow_succ 10 d
      have e : wrap64 (Int.tdiv m 10) = m / 10 := by rw [hd]; exact w64 (by omega) (by omega)
      obtain ⟨s, hs⟩ := markText_loop d (m / 10) ((strOfNums [(wrap64 (48 + (Int.tmod m 10))) % 256]) ++ x) (by omega) (by rw [hpow] at hm; omega) (by omega) (by rw [ByteArray.size_append, one_num]; omega)
      refine ⟨s, Ev.succ ?_⟩
      simp only [laws_markText.l0, Option.bind_some, e]
      exact Ev.ite_pos hp (Ev.ite_pos (by rw [one_num]; omega) hs)
    · have e : m = 0 := by omega
      subst e
      exact ⟨_, Ev.step (fun k => (by simp only [laws_markText.l0]; rw [if_neg (by decide), if_pos (by omega)])) (Ev.val _)⟩
theorem markText_ev (m : Int) (hm : m ≤ 1000000000) : ∃ s, Ev (fun k => laws_markText.f k m) s := by
  unfold laws_markText.f
  by_cases h : m ≤ 0
  · exact ⟨_, Ev.ite_pos h (Ev.val _)⟩
  · obtain ⟨s, hs⟩ := markText_loop 10 m ⟨#[]⟩ (by omega) (by omega) (by omega) (by decide)
    exact ⟨s, Ev.ite_neg h hs⟩
/-! #### marking loops whose elements take rounds of their own -/
theorem mark_loopE {α : Type} {F : Nat → List α → Int → Int → Option (Int × List α)} {mk : Int → α} {m c : Int} (hc : 0 ≤ c) (hm0 : 0 ≤ m) (N : Nat) (hN : m + c * (N : Int) ≤ 1000000000)
    (hs : ∀ (x0 : List α) (q i : Int), 0 ≤ i → i < x0.length → x0.length = N → 0 ≤ q → q + c ≤ 1000000000 → ∀ r, Ev (fun k => F k (x0.set i.toNat (mk q)) (q + c) (i + 1)) r → Ev (fun k => F k x0 q i) r)
    (he : ∀ (x0 : List α) (q i : Int), ¬ i < x0.length → ∀ k, F (k + 1) x0 q i = some (q, x0)) :
    ∀ (d : Nat) (i : Nat) (x0 : List α), x0.length = N → N - i = d → i ≤ N → (∀ j : Nat, j < i → x0[j]? = some (mk (m + c * (j : Int)))) → Ev (fun k => F k x0 (m + c * (i : Int)) (i : Int)) (m + c * (N : Int), marks mk m c N)
  | 0, i, x0, hl, hd, hi, hj => Ev.step (he x0 _ _ (by omega)) (Ev.cast (Ev.val (m + c * (i : Int), x0)) (by
      have e : i = N := by omega
      subst e
      congr 1
      apply List.ext_getElem?
      intro j
      by_cases hjl : j < i
      · rw [hj j hjl, marks_get mk m c i j hjl]
      · rw [List.getElem?_eq_none (by omega), List.getElem?_eq_none (by rw [marks_length]; omega)]))
  | d + 1, i, x0, hl, hd, hi, hj => by
    have hle : c * ((i + 1 : Nat) : Int) ≤ c * (N : Int) := Int.mul_le_mul_of_nonneg_left (by omega) hc
    have h0 : 0 ≤ c * (i : Int) := Int.mul_nonneg hc (by omega)
    have hmul : c * ((i + 1 : Nat) : Int) = c * (i : Int) + c := by rw [Int.natCast_add, Int.mul_add]; simp
    refine hs x0 _ _ (by omega) (by omega) hl (by omega) (by omega) _ ?_
    have := mark_loopE hc hm0 N hN hs he d (i + 1) (x0.set i (mk (m + c * (i : Int)))) (by rw [List.length_set]; exact hl) (by omega) (by omega) (fun j hjl => by
      by_cases e : j = i
      · subst e
        rw [List.getElem?_set_self (by omega)]
      · rw [List.getElem?_set_ne (Ne.symm e)]
        exact hj j (by omega))
    rw [hmul] at this
    simpa [Int.add_assoc] using this
theorem held_loopE {α : Type} {F : Nat → List α → Int → Int → Option Int} {mk : Int → α} {m c : Int} (z : α) (hc : 0 ≤ c) (hm0 : 0 ≤ m) (N : Nat) (hN : m + c * (N : Int) ≤ 1000000000)
    (hs : ∀ (x0 : List α) (q i : Int), 0 ≤ i → i < x0.length → x0.length = N → 0 ≤ q → q + c ≤ 1000000000 → x0.getD i.toNat z = mk q → ∀ r, Ev (fun k => F k x0 (q + c) (i + 1)) r → Ev (fun k => F k x0 q i) r)
    (he : ∀ (x0 : List α) (q i : Int), ¬ i < x0.length → ∀ k, F (k + 1) x0 q i = some q) :
    ∀ (d : Nat) (i : Nat), N - i = d → i ≤ N → Ev (fun k => F k (marks mk m c N) (m + c * (i : Int)) (i : Int)) (m + c * (N : Int))
  | 0, i, hd, hi => Ev.step (he _ _ _ (by rw [marks_length]; omega)) (Ev.cast (Ev.val _) (by
      have e : i = N := by omega
      rw [e]))
  | d + 1, i, hd, hi => by
    have hle : c * ((i + 1 : Nat) : Int) ≤ c * (N : Int) := Int.mul_le_mul_of_nonneg_left (by omega) hc
    have h0 : 0 ≤ c * (i : Int) := Int.mul_nonneg hc (by omega)
    have hmul : c * ((i + 1 : Nat) : Int) = c * (i : Int) + c := by rw [Int.natCast_add, Int.mul_add]; simp
    refine hs _ _ _ (by omega) (by rw [marks_length]; omega) (marks_length _ _ _ _) (by omega) (by omega) (marks_getD mk m c N i z (by omega)) _ ?_
    have := held_loopE z hc hm0 N hN hs he d (i + 1) (by omega) (by omega)
    rw [hmul] at this
    simpa [Int.add_assoc] using this
noncomputable def txt (m : Int) : ByteArray := if h : m ≤ 1000000000 then Classical.choose (markText_ev m h) else ByteArray.empty
theorem txt_ev (m : Int) (h : m ≤ 1000000000) : Ev (fun k => laws_markText.f k m) (txt m) := by
  unfold txt
  rw [dif_pos h]
  exact Classical.choose_spec (markText_ev m h)
theorem markStringS_ev (x0 : List ByteArray) (hm : x0.length ≤ 1048576) : Ev (fun k => laws_markStringS.f k x0 1) (1 + 1 * (x0.length : Int), marks txt 1 1 x0.length) := by
  unfold laws_markStringS.f
  refine Ev.cast (mark_loopE (F := laws_markStringS.l0) (mk := txt) (m := 1) (c := 1) (by omega) (by omega) x0.length (by omega) (fun x0 q i h0 h1 hl h2 h3 r hr => ?_) (fun x0 q i h k => ?_) x0.length 0 x0 rfl (by omega) (by omega) (by intro j hj; omega)) rfl
  · refine Ev.succ ?_
    simp only [laws_markStringS.l0]
    rw [w64 (show -9223372036854775808 ≤ q + 1 by omega) (by omega), w64 (show -9223372036854775808 ≤ i + 1 by omega) (by omega)]
    exact Ev.ite_pos h1 (Ev.bind (txt_ev q (by omega)) (Ev.ite_pos h0 hr))
  · simp only [laws_markStringS.l0]
    rw [if_neg h]
theorem heldStringS_ev (n : Nat) (hm : n ≤ 1048576) : Ev (fun k => laws_heldStringS.f k (marks txt 1 1 n) 1) (1 + 1 * (n : Int)) := by
  unfold laws_heldStringS.f
  refine held_loopE (F := laws_heldStringS.l0) (mk := txt) (m := 1) (c := 1) ByteArray.empty (by omega) (by omega) n (by omega) (fun x0 q i h0 h1 hl h2 h3 he r hr => ?_) (fun x0 q i h k => ?_) n 0 (by omega) (by omega)
  · refine Ev.succ ?_
    simp only [laws_heldStringS.l0]
    rw [w64 (show -9223372036854775808 ≤ q + 1 by omega) (by omega), w64 (show -9223372036854775808 ≤ i + 1 by omega) (by omega)]
    have he' : rdOf ByteArray.empty x0 i = txt q := he
    refine Ev.ite_pos h1 (Ev.ite_pos h0 (Ev.bind (txt_ev q (by omega)) ?_))
    rw [he']
    exact Ev.ite_pos rfl hr
  · simp only [laws_heldStringS.l0]
    rw [if_neg h]
theorem FnExactSkyWords : ∀ (a0 : ByteArray), a0.size ≤ 140737488351232 → ∃ k, laws_FnExactSkyWords.f k a0 = some true := by
  intro a _
  refine Ev.rounds (r := true) ?_
  unfold laws_FnExactSkyWords.f
  by_cases hlong : (a.size : Int) > 1048576
  · exact Ev.ite_pos hlong (Ev.val _)
  have hw := wordsL_length (cutL ⟨#[]⟩ ((bareOf a).data.toList ++ [32])) []
  have hn : (wordsOf a).1.length ≤ 1048576 := by unfold wordsOf; omega
  refine Ev.ite_neg hlong (Ev.bind (words_spec a (by omega)) (Ev.bind (words_impl a (by omega)) (Ev.bind (eqStringS_ev _ hn) (Ev.ite_pos rfl (Ev.succ ?_)))))
  simp only [laws_FnExactSkyWords.j0]
  refine Ev.ite_neg (by simp) (Ev.bind (markStringS_ev _ hn) (Ev.bind (heldStringS_ev _ hn) (Ev.ite_neg (by omega) (Ev.ite_pos rfl (Ev.bind (words_impl a (by omega)) (Ev.bind (eqStringS_ev _ hn) (Ev.ite_pos rfl (Ev.succ ?_))))))))
  simp only [laws_FnExactSkyWords.j1]
  exact Ev.ite_neg (by simp) (Ev.bind (heldStringS_ev _ hn) (Ev.ite_neg (by omega) (Ev.ite_pos rfl (Ev.val _))))
end Go.Proofs.YtoclfkepjppdpaaDoor.Pure
