/-
  The law FnSkyWords over texts and lists: the words of a drawn line, written with one blank ahead of each, are cut as the same words.
-/
import Derived.Test.YtnmjmhhkbcnccaaDoorStdFnSkyWords
namespace Go.Proofs.YtnmjmhhkbcnccaaDoor.Pure
open Go Go.RowKit Go.Proofs.YtnmjmhhkbcnccaaDoor.QFnSkyWords Go.Proofs.YtnmjmhhkbcnccaaDoorW.PrintWords Go.Proofs.YtnmjmhhkbcnccaaDoor.Kit Go.Proofs.YtnmjmhhkbcnccaaDoor.StdFnSkyWords
set_option linter.unusedSimpArgs false
set_option linter.unusedVariables false
/-! #### a line's words, said once -/
def goodC (c : UInt8) : Bool := decide (33 ≤ c.toNat ∧ c.toNat ≤ 126)
def goodW (p : ByteArray) : Bool := p.data.toList.all goodC && decide (p.size ≤ 24)
/-- What the parts come to, behind the words that are there. -/
def wordsL : List ByteArray → List ByteArray → List ByteArray × Bool
  | out, [] => if (out.length : Int) > 12 then ([], false) else (out, true)
  | out, p :: ps => if p.size = 0 then wordsL out ps else if goodW p = true then wordsL (out ++ [p]) ps else ([], false)
/-- A line's rest cut at each blank; what stands behind the last one is left. -/
def cutL : ByteArray → List UInt8 → List ByteArray
  | _, [] => []
  | w, c :: r => if c = 32 then w :: cutL ⟨#[]⟩ r else cutL (w ++ ⟨#[c]⟩) r
theorem wordsL_length : ∀ (ps out : List ByteArray), (wordsL out ps).1.length ≤ 12
  | [], out => by
    unfold wordsL
    split
    · simp
    · simp only; omega
  | p :: ps, out => by
    unfold wordsL
    split
    · exact wordsL_length ps out
    · split
      · exact wordsL_length ps _
      · simp
theorem size_toList (x : ByteArray) : x.data.toList.length = x.size := by rw [Array.length_toList]; rfl
theorem toList_nil (x : ByteArray) : x.toList = [] ↔ x.size = 0 := by
  rw [Lib.toList_data, ← size_toList]
  exact List.length_eq_zero_iff.symm
theorem bt_data (x : ByteArray) (i : Nat) (h : i < x.data.toList.length) : bt x (i : Int) = ((x.data.toList[i]).toNat : Int) := by
  have hs : i < x.size := by rw [← size_toList]; exact h
  unfold bt
  rw [dif_pos (by simpa using hs)]
  rfl
theorem byte_lt (c : UInt8) : c.toNat < 256 := c.toNat_lt
/-! #### the program: part by part -/
theorem impl_word (out parts : List ByteArray) (n i : Int) (p : ByteArray) (hp : p.size ≤ 4000000) {R : List ByteArray × Bool} (hR : goodW p = true → Ev (fun k => if out.length < 8796093022208 then impl_SkyWords.l0 k (out ++ [p]) parts n (wrap64 (i + 1)) else none) R) (hN : goodW p = false → R = ([], false)) :
    ∀ (d j : Nat), j + d = p.size → (p.data.toList.take j).all goodC = true → Ev (fun k => impl_SkyWords.l1 k out p (j : Int) parts n i) R := by
  intro d
  induction d with
  | zero =>
    intro j hj hall
    have e : (p.data.toList.take j) = p.data.toList := List.take_of_length_le (by rw [size_toList]; omega)
    rw [e] at hall
    refine Ev.succ ?_
    simp only [impl_SkyWords.l1]
    refine Ev.ite_neg (by omega) ?_
    by_cases h24 : (p.size : Int) > 24
    · refine Ev.ite_pos h24 (Ev.cast (Ev.val _) (hN ?_).symm)
      unfold goodW
      rw [decide_eq_false (by omega), Bool.and_false]
    · refine Ev.ite_neg h24 ?_
      unfold strings_Clone.f
      rw [if_pos hp]
      simp only [Option.bind_some]
      refine hR ?_
      unfold goodW
      rw [hall, decide_eq_true (by omega)]; rfl
  | succ d ih =>
    intro j hj hall
    have hjl : j < p.data.toList.length := by rw [size_toList]; omega
    have hb := bt_data p j hjl
    refine Ev.succ ?_
    simp only [impl_SkyWords.l1]
    rw [hb]
    have bad : ¬ goodC p.data.toList[j] = true → goodW p = false := by
      intro hc
      unfold goodW
      rw [Bool.and_eq_false_iff]
      left
      rw [List.all_eq_false]
      exact ⟨p.data.toList[j], List.getElem_mem hjl, hc⟩
    by_cases c1 : ((p.data.toList[j]).toNat : Int) < 33
    · refine Ev.ite_pos (by omega) (Ev.ite_pos (by omega) (Ev.ite_pos c1 (Ev.cast (Ev.val _) (hN (bad ?_)).symm)))
      unfold goodC
      rw [decide_eq_true_eq]; omega
    · by_cases c2 : ((p.data.toList[j]).toNat : Int) > 126
      · refine Ev.ite_pos (by omega) (Ev.ite_pos (by omega) (Ev.ite_neg c1 (Ev.ite_pos c2 (Ev.cast (Ev.val _) (hN (bad ?_)).symm))))
        unfold goodC
        rw [decide_eq_true_eq]; omega
      · have next := ih (j + 1) (by omega) (by
          rw [List.take_add_one, List.getElem?_eq_getElem hjl, List.all_append, hall]
          show (true && ([p.data.toList[j]].all goodC)) = true
          simp only [List.all_cons, List.all_nil, Bool.and_true, Bool.true_and]
          unfold goodC
          rw [decide_eq_true_eq]; omega)
        rw [show (((j + 1 : Nat)) : Int) = (j : Int) + 1 by omega] at next
        rw [w64 (n := (j : Int) + 1) (by omega) (by omega)]
        exact Ev.ite_pos (by omega) (Ev.ite_pos (by omega) (Ev.ite_neg c1 (Ev.ite_neg c2 next)))
theorem rdOf_nth (x : List ByteArray) (i : Nat) (h : i < x.length) : rdOf ByteArray.empty x (i : Int) = x[i] := by
  show x.getD ((i : Int)).toNat _ = x[i]
  rw [Int.toNat_natCast, List.getD_eq_getElem?_getD, List.getElem?_eq_getElem h]; rfl
theorem impl_parts (parts : List ByteArray) (hs : ∀ p ∈ parts, p.size ≤ 4000000) (hl : parts.length ≤ 4000000) : ∀ (d i : Nat) (out : List ByteArray), i + d = parts.length → out.length ≤ i → Ev (fun k => impl_SkyWords.l0 k out parts (parts.length : Int) (i : Int)) (wordsL out (parts.drop i)) := by
  intro d
  induction d with
  | zero =>
    intro i out hi ho
    rw [List.drop_of_length_le (by omega)]
    refine Ev.succ ?_
    simp only [impl_SkyWords.l0]
    refine Ev.ite_neg (by omega) ?_
    unfold wordsL
    by_cases h : (out.length : Int) > 12
    · exact Ev.cast (Ev.ite_pos h (Ev.val _)) (if_pos h).symm
    · exact Ev.cast (Ev.ite_neg h (Ev.val _)) (if_neg h).symm
  | succ d ih =>
    intro i out hi ho
    have hil : i < parts.length := by omega
    rw [List.drop_eq_getElem_cons hil]
    refine Ev.succ ?_
    simp only [impl_SkyWords.l0]
    rw [rdOf_nth parts i hil, w64 (n := (i : Int) + 1) (by omega) (by omega)]
    refine Ev.ite_pos (by omega) (Ev.ite_pos (by omega) (Ev.ite_pos (by omega) ?_))
    unfold wordsL
    by_cases h0 : parts[i].size = 0
    · rw [if_pos h0]
      refine Ev.ite_pos ((toList_nil _).2 h0) ?_
      have := ih (i + 1) out (by omega) (by omega)
      rw [show (((i + 1 : Nat)) : Int) = (i : Int) + 1 by omega] at this
      exact this
    · rw [if_neg h0]
      refine Ev.ite_neg (fun e => h0 ((toList_nil _).1 e)) ?_
      refine impl_word out parts (parts.length : Int) (i : Int) parts[i] (hs _ (List.getElem_mem hil)) (fun hg => ?_) (fun hg => ?_) parts[i].size 0 (by omega) (by simp)
      · rw [if_pos hg, w64 (n := (i : Int) + 1) (by omega) (by omega)]
        have := ih (i + 1) (out ++ [parts[i]]) (by omega) (by simp; omega)
        rw [show (((i + 1 : Nat)) : Int) = (i : Int) + 1 by omega] at this
        exact Ev.ite_pos (by omega) this
      · rw [hg]; rfl
/-! #### the reference: byte by byte -/
theorem bad_end : ∀ (r : List UInt8) (w : ByteArray) (out : List ByteArray), r.getLast? = some 32 → w.size ≠ 0 → goodW w = false → wordsL out (cutL w r) = ([], false)
  | [], w, out, h, _, _ => by simp at h
  | c :: r, w, out, h, hw, hg => by
    unfold cutL
    by_cases hc : c = 32
    · rw [if_pos hc]
      unfold wordsL
      rw [if_neg hw, hg]; rfl
    · rw [if_neg hc]
      have hr : r.getLast? = some 32 := by
        cases r with
        | nil => simp at h; exact absurd h hc
        | cons a b => simpa using h
      refine bad_end r _ out hr (by rw [ByteArray.size_append]; show w.size + 1 ≠ 0; omega) ?_
      unfold goodW at hg ⊢
      rw [Bool.and_eq_false_iff] at hg ⊢
      rcases hg with hg | hg
      · left
        rw [show (w ++ (⟨#[c]⟩ : ByteArray)).data.toList = w.data.toList ++ [c] by simp [ByteArray.data_append], List.all_append, hg]; rfl
      · right
        have := of_decide_eq_false hg
        refine decide_eq_false ?_
        rw [ByteArray.size_append]
        show ¬ w.size + 1 ≤ 24
        omega
theorem extract_one (z : ByteArray) (i : Nat) (h : i < z.data.toList.length) : z.extract i (i + 1) = ⟨#[z.data.toList[i]]⟩ := by
  rw [Lib.extract_eq, List.drop_eq_getElem_cons h, show i + 1 - i = 1 by omega]
  rfl
theorem spec_parts (z : ByteArray) (hz : z.size ≤ 4000001) : ∀ (d i : Nat) (out : List ByteArray) (w : ByteArray), i + d = z.size → out.length ≤ i → w.size ≤ i → goodW w = true → (d = 0 → w.size = 0) → (d ≠ 0 → (z.data.toList.drop i).getLast? = some 32) → Ev (fun k => spec_SkyWords.l0 k out w z (i : Int)) (wordsL out (cutL w (z.data.toList.drop i))) := by
  intro d
  induction d with
  | zero =>
    intro i out w hi ho hwi hg hw hlast
    rw [List.drop_of_length_le (by rw [size_toList]; omega)]
    refine Ev.succ ?_
    simp only [spec_SkyWords.l0]
    refine Ev.ite_neg (by omega) ?_
    unfold cutL wordsL
    by_cases h : (out.length : Int) > 12
    · exact Ev.cast (Ev.ite_pos h (Ev.val _)) (if_pos h).symm
    · exact Ev.cast (Ev.ite_neg h (Ev.val _)) (if_neg h).symm
  | succ d ih =>
    intro i out w hi ho hwi hg hw hlast
    have hil : i < z.data.toList.length := by rw [size_toList]; omega
    have hlast' := hlast (by omega)
    rw [List.drop_eq_getElem_cons hil] at hlast' ⊢
    have hb := bt_data z i hil
    have e1 : wrap64 ((i : Int) + 1) = (i : Int) + 1 := w64 (by omega) (by omega)
    have hr : d ≠ 0 → (z.data.toList.drop (i + 1)).getLast? = some 32 := by
      intro hd
      have hne : z.data.toList.drop (i + 1) ≠ [] := by
        intro e
        have := congrArg List.length e
        rw [List.length_drop, size_toList, List.length_nil] at this
        omega
      obtain ⟨a, r, e⟩ := List.exists_cons_of_ne_nil hne
      rw [e] at hlast' ⊢
      simpa using hlast'
    refine Ev.succ ?_
    simp only [spec_SkyWords.l0, e1]
    rw [hb]
    refine Ev.ite_pos (by omega) (Ev.ite_pos (by omega) ?_)
    unfold cutL
    by_cases hc : z.data.toList[i] = 32
    · rw [if_pos hc]
      refine Ev.ite_pos (by rw [hc]; rfl) ?_
      unfold wordsL
      by_cases h0 : w.size = 0
      · rw [if_pos h0]
        refine Ev.ite_pos ((toList_nil _).2 h0) ?_
        have ew : w = ⟨#[]⟩ := by
          apply ByteArray.ext
          exact Array.eq_empty_of_size_eq_zero h0
        have := ih (i + 1) out w (by omega) (by omega) (by omega) hg (fun _ => h0) hr
        rw [show (((i + 1 : Nat)) : Int) = (i : Int) + 1 by omega] at this
        rw [ew] at this ⊢
        exact this
      · rw [if_neg h0, if_pos hg]
        refine Ev.ite_neg (fun e => h0 ((toList_nil _).1 e)) (Ev.ite_pos (by omega) ?_)
        have := ih (i + 1) (out ++ [w]) ⟨#[]⟩ (by omega) (by simp; omega) (by show 0 ≤ _; omega) (by rfl) (fun _ => rfl) hr
        rw [show (((i + 1 : Nat)) : Int) = (i : Int) + 1 by omega] at this
        exact this
    · rw [if_neg hc]
      have hcn : ¬ ((z.data.toList[i]).toNat : Int) = 32 := by
        intro e
        refine hc (UInt8.toNat_inj.mp ?_)
        show _ = 32
        omega
      have hd : d ≠ 0 := by
        intro e
        subst e
        rw [List.drop_of_length_le (by rw [size_toList]; omega)] at hlast'
        simp at hlast'
        exact hc hlast'
      have hex : z.extract ((i : Int)).toNat (((i : Int) + 1)).toNat = ⟨#[z.data.toList[i]]⟩ := by
        rw [show ((i : Int)).toNat = i by omega, show ((i : Int) + 1).toNat = i + 1 by omega]
        exact extract_one z i hil
      rw [hex]
      have hsz : (w ++ (⟨#[z.data.toList[i]]⟩ : ByteArray)).size = w.size + 1 := ByteArray.size_append
      have hdl : (w ++ (⟨#[z.data.toList[i]]⟩ : ByteArray)).data.toList = w.data.toList ++ [z.data.toList[i]] := by simp [ByteArray.data_append]
      have hby := byte_lt z.data.toList[i]
      unfold spec_l1In.f
      rw [w64 (n := ((z.data.toList[i]).toNat : Int)) (by omega) (by omega)]
      have stop : goodW (w ++ (⟨#[z.data.toList[i]]⟩ : ByteArray)) = false → Ev (fun k => spec_SkyWords.j1 k out (w ++ (⟨#[z.data.toList[i]]⟩ : ByteArray)) z (i : Int) true) (wordsL out (cutL (w ++ (⟨#[z.data.toList[i]]⟩ : ByteArray)) (z.data.toList.drop (i + 1)))) := by
        intro hb
        refine Ev.cast (Ev.succ ?_) (bad_end _ _ out (hr hd) (by omega) hb).symm
        simp only [spec_SkyWords.j1]
        exact Ev.ite_pos trivial (Ev.val _)
      have goodL : w.data.toList.all goodC = true := by
        unfold goodW at hg
        rw [Bool.and_eq_true] at hg
        exact hg.1
      refine Ev.ite_neg hcn (Ev.ite_pos (by omega) (Ev.ite_pos (by omega) (Ev.ite_pos (by show w.size + 1 ≤ _; omega) ?_)))
      by_cases c1 : ((z.data.toList[i]).toNat : Int) ≥ 33
      · rw [if_pos c1]
        simp only [Option.bind_some]
        by_cases c2 : ((z.data.toList[i]).toNat : Int) ≤ 126
        · refine Ev.ite_pos (decide_eq_true c2) ?_
          by_cases h24 : ((w ++ (⟨#[z.data.toList[i]]⟩ : ByteArray)).size : Int) > 24
          · rw [decide_eq_true h24]
            refine stop ?_
            unfold goodW
            rw [decide_eq_false (by omega), Bool.and_false]
          · rw [decide_eq_false h24]
            have := ih (i + 1) out (w ++ (⟨#[z.data.toList[i]]⟩ : ByteArray)) (by omega) (by omega) (by omega) (by
              unfold goodW
              rw [hdl, List.all_append, goodL, decide_eq_true (by omega), Bool.and_true, Bool.true_and]
              simp only [List.all_cons, List.all_nil, Bool.and_true]
              unfold goodC
              rw [decide_eq_true_eq]; omega) (fun e => absurd e hd) hr
            rw [show (((i + 1 : Nat)) : Int) = (i : Int) + 1 by omega] at this
            refine Ev.succ ?_
            simp only [spec_SkyWords.j1, e1]
            exact Ev.ite_neg (by decide) this
        · refine Ev.ite_neg (by simpa using c2) (stop ?_)
          unfold goodW
          rw [Bool.and_eq_false_iff]
          left
          rw [hdl, List.all_append, List.all_cons]
          have : goodC z.data.toList[i] = false := by unfold goodC; exact decide_eq_false (by omega)
          rw [this, Bool.false_and, Bool.and_false]
      · rw [if_neg c1]
        simp only [Option.bind_some]
        refine Ev.ite_neg (by simp) (stop ?_)
        unfold goodW
        rw [Bool.and_eq_false_iff]
        left
        rw [hdl, List.all_append, List.all_cons]
        have : goodC z.data.toList[i] = false := by unfold goodC; exact decide_eq_false (by omega)
        rw [this, Bool.false_and, Bool.and_false]
/-! #### both cut the line alike -/
theorem cutL_sp (w : ByteArray) (r : List UInt8) : cutL w (32 :: r) = w :: cutL ⟨#[]⟩ r := by rw [cutL, if_pos rfl]
theorem cutL_c (w : ByteArray) (c : UInt8) (r : List UInt8) (h : c ≠ 32) : cutL w (c :: r) = cutL (w ++ ⟨#[c]⟩) r := by rw [cutL, if_neg h]
theorem emp_app (x : ByteArray) : (⟨#[]⟩ : ByteArray) ++ x = x := by apply ByteArray.ext; simp [ByteArray.data_append]
theorem cut_run : ∀ (a : List UInt8) (w : ByteArray) (r : List UInt8), (∀ c ∈ a, c ≠ 32) → cutL w (a ++ 32 :: r) = (w ++ (⟨a.toArray⟩ : ByteArray)) :: cutL ⟨#[]⟩ r
  | [], w, r, _ => by
    show cutL w (32 :: r) = _
    rw [cutL_sp]
    congr 1
    apply ByteArray.ext
    simp [ByteArray.data_append]
  | c :: a, w, r, h => by
    show cutL w (c :: (a ++ 32 :: r)) = _
    rw [cutL_c _ _ _ (h c List.mem_cons_self), cut_run a _ r (fun x hx => h x (List.mem_cons_of_mem _ hx))]
    congr 1
    apply ByteArray.ext
    simp [ByteArray.data_append]
def blank : ByteArray := ⟨#[32]⟩
def hash : ByteArray := ⟨#[35]⟩
theorem split_cut : ∀ (n : Nat) (s : ByteArray), s.size ≤ n → Lib.splitB blank 0 (Lib.countB s blank) s = cutL ⟨#[]⟩ (s.data.toList ++ [32]) := by
  intro n
  induction n with
  | zero =>
    intro s hs
    have hm : Lib.indexB s blank = -1 := by
      rcases Lib.indexB_cases s blank with h | ⟨i, h, hi⟩
      · exact h
      · have : blank.size = 1 := rfl
        omega
    rw [Lib.splitB_miss _ _ _ _ hm, cut_run s.data.toList ⟨#[]⟩ [] (fun c hc => by
      have : s.data.toList.length = 0 := by rw [size_toList]; omega
      rw [List.length_eq_zero_iff.1 this] at hc
      cases hc), emp_app, Lib.mk_data]
    rfl
  | succ n ih =>
    intro s hs
    have h1 : Lib.indexB s blank = Lib.indexByte s.data.toList 32 := Lib.one s blank rfl
    rcases Lib.indexB_cases s blank with h | ⟨i, h, hi⟩
    · rw [Lib.splitB_miss _ _ _ _ h, cut_run s.data.toList ⟨#[]⟩ [] (fun c hc e => by
        obtain ⟨k, hk, hke⟩ := List.getElem_of_mem hc
        rw [h1] at h
        exact Lib.indexByte_none h k (by rw [List.getElem?_eq_getElem hk, hke, e])), emp_app, Lib.mk_data]
      rfl
    · have hb : blank.size = 1 := rfl
      have hi' : i < s.data.toList.length := by rw [size_toList]; omega
      rw [h1] at h
      have hs1 := Lib.indexByte_some h
      have hc : Lib.countB s blank = Lib.countB (s.extract (i + blank.size) s.size) blank + 1 := by
        rw [Lib.countB_hit s blank i (by omega) (by rw [h1]; exact h)]; omega
      rw [hc, Lib.splitB_hit blank 0 _ s i (by rw [h1]; exact h)]
      have er : (s.extract (i + blank.size) s.size).data.toList = s.data.toList.drop (i + 1) := by rw [Lib.extract_to_end]; rfl
      have el : (s.extract 0 (i + 0)).data.toList = s.data.toList.take i := by rw [Lib.extract_from_zero]; rfl
      have es : s.data.toList = s.data.toList.take i ++ 32 :: s.data.toList.drop (i + 1) := by
        have h2 := hs1.1
        rw [List.getElem?_eq_getElem hi'] at h2
        have h3 := Option.some.inj h2
        rw [← h3, ← List.drop_eq_getElem_cons hi', List.take_append_drop]
      rw [ih _ (by rw [← size_toList, er, List.length_drop, size_toList]; omega), er]
      have hno : ∀ c ∈ s.data.toList.take i, c ≠ 32 := by
        intro c hc e
        obtain ⟨k, hk, hke⟩ := List.getElem_of_mem hc
        rw [List.length_take] at hk
        refine hs1.2 k (by omega) ?_
        rw [List.getElem_take] at hke
        rw [List.getElem?_eq_getElem (by omega), hke, e]
      have e2 : s.data.toList ++ [32] = s.data.toList.take i ++ 32 :: (s.data.toList.drop (i + 1) ++ [32]) := by
        conv => lhs; rw [es]
        simp
      rw [e2, cut_run _ ⟨#[]⟩ _ hno, emp_app, ← el, Lib.mk_data]
/-- What stands ahead of the first hash. -/
def bareOf (s : ByteArray) : ByteArray := ⟨(Lib.cut s.data.toList hash.data.toList).1.toArray⟩
theorem bare_size (s : ByteArray) : (bareOf s).size ≤ s.size := by
  unfold bareOf
  rcases Lib.indexB_cases s hash with h | ⟨i, h, hi⟩
  · rw [(Lib.cutB_miss s hash h).1]; exact Nat.le_refl _
  · rw [(Lib.cutB_hit s hash i h).1, ByteArray.size_extract]; omega
theorem bare_ev (s : ByteArray) (hs : s.size ≤ 4000000) : Ev (fun k => spec_l1Bare.f k s) (bareOf s) := by
  have h1 : Lib.indexB s hash = Lib.indexByte s.data.toList 35 := Lib.one s hash rfl
  unfold spec_l1Bare.f
  rcases Lib.indexB_cases s hash with h | ⟨n, h, hn⟩
  · have e : bareOf s = s := (Lib.cutB_miss s hash h).1
    rw [e]
    rw [h1] at h
    have loop : ∀ d i : Nat, i + d = s.size → Ev (fun k => spec_l1Bare.l0 k s (i : Int)) s := by
      intro d
      induction d with
      | zero =>
        intro i hi
        refine Ev.succ ?_
        simp only [spec_l1Bare.l0]
        exact Ev.ite_neg (by omega) (Ev.val _)
      | succ d ih =>
        intro i hi
        have hil : i < s.data.toList.length := by rw [size_toList]; omega
        have := ih (i + 1) (by omega)
        rw [show (((i + 1 : Nat)) : Int) = (i : Int) + 1 by omega] at this
        refine Ev.succ ?_
        simp only [spec_l1Bare.l0]
        rw [bt_data s i hil, w64 (n := (i : Int) + 1) (by omega) (by omega)]
        refine Ev.ite_pos (by omega) (Ev.ite_pos (by omega) (Ev.ite_neg ?_ this))
        intro e2
        refine Lib.indexByte_none h i ?_
        rw [List.getElem?_eq_getElem hil]
        congr 1
        refine UInt8.toNat_inj.mp ?_
        show _ = 35
        omega
    exact loop s.size 0 (by omega)
  · have e : bareOf s = s.extract 0 n := (Lib.cutB_hit s hash n h).1
    rw [e]
    rw [h1] at h
    have hs1 := Lib.indexByte_some h
    have hz : hash.size = 1 := rfl
    have hnl : n < s.data.toList.length := by rw [size_toList]; omega
    have loop : ∀ d i : Nat, i + d = n → Ev (fun k => spec_l1Bare.l0 k s (i : Int)) (s.extract 0 n) := by
      intro d
      induction d with
      | zero =>
        intro i hi
        have ei : i = n := by omega
        have h2 := hs1.1
        rw [List.getElem?_eq_getElem hnl] at h2
        refine Ev.succ ?_
        simp only [spec_l1Bare.l0]
        rw [ei, bt_data s n hnl, Option.some.inj h2]
        refine Ev.ite_pos (by omega) (Ev.ite_pos (by omega) (Ev.ite_pos rfl (Ev.ite_pos (by omega) (Ev.cast (Ev.val _) ?_))))
        rw [Int.toNat_natCast]
      | succ d ih =>
        intro i hi
        have hil : i < s.data.toList.length := by omega
        have := ih (i + 1) (by omega)
        rw [show (((i + 1 : Nat)) : Int) = (i : Int) + 1 by omega] at this
        have hsz := size_toList s
        refine Ev.succ ?_
        simp only [spec_l1Bare.l0]
        rw [bt_data s i hil, w64 (n := (i : Int) + 1) (by omega) (by omega)]
        refine Ev.ite_pos (by omega) (Ev.ite_pos (by omega) (Ev.ite_neg ?_ this))
        intro e2
        refine hs1.2 i (by omega) ?_
        rw [List.getElem?_eq_getElem hil]
        congr 1
        refine UInt8.toNat_inj.mp ?_
        show _ = 35
        omega
    exact loop n 0 (by omega)
def wordsOf (s : ByteArray) : List ByteArray × Bool := wordsL [] (cutL ⟨#[]⟩ ((bareOf s).data.toList ++ [32]))
theorem cutL_sizes : ∀ (r : List UInt8) (w : ByteArray) (n : Nat), w.size + r.length ≤ n → (∀ p ∈ cutL w r, p.size ≤ n) ∧ (cutL w r).length ≤ r.length
  | [], w, n, h => by unfold cutL; exact ⟨fun p hp => (by cases hp), Nat.le_refl _⟩
  | c :: r, w, n, h => by
    simp only [List.length_cons] at h
    unfold cutL
    split
    · have := cutL_sizes r ⟨#[]⟩ n (by show 0 + _ ≤ _; omega)
      refine ⟨fun p hp => ?_, by simp only [List.length_cons]; omega⟩
      rcases List.mem_cons.1 hp with e | e
      · rw [e]; omega
      · exact this.1 p e
    · have := cutL_sizes r (w ++ ⟨#[c]⟩) n (by rw [ByteArray.size_append]; show w.size + 1 + _ ≤ _; omega)
      exact ⟨this.1, by simp only [List.length_cons]; omega⟩
theorem words_spec (s : ByteArray) (hs : s.size ≤ 3000000) : Ev (fun k => spec_SkyWords.f k s) (wordsOf s) := by
  have hb := bare_size s
  unfold spec_SkyWords.f
  refine Ev.bind (bare_ev s (by omega)) (Ev.ite_pos (by omega) ?_)
  have e : ((bareOf s) ++ (⟨#[32]⟩ : ByteArray)).data.toList = (bareOf s).data.toList ++ [32] := by simp [ByteArray.data_append]
  have hz : ((bareOf s) ++ (⟨#[32]⟩ : ByteArray)).size = (bareOf s).size + 1 := ByteArray.size_append
  have := spec_parts ((bareOf s) ++ (⟨#[32]⟩ : ByteArray)) (by omega) _ 0 [] ⟨#[]⟩ (Nat.zero_add _) (by simp) (by show 0 ≤ _; omega) (by rfl) (fun h => by omega) (fun _ => by rw [List.drop_zero, e]; simp)
  rw [List.drop_zero, e] at this
  exact this
theorem words_impl (s : ByteArray) (hs : s.size ≤ 3000000) : Ev (fun k => impl_SkyWords.f k s) (wordsOf s) := by
  have hb := bare_size s
  unfold impl_SkyWords.f strings_Cut.f
  rw [if_pos (by omega)]
  simp only [Option.bind_some]
  have ec : (⟨(Lib.cut s.data.toList (⟨#[35]⟩ : ByteArray).data.toList).1.toArray⟩ : ByteArray) = bareOf s := rfl
  rw [ec]
  unfold strings_Split.f
  rw [if_pos (by omega), if_pos (by show 1 ≤ 1; omega)]
  simp only [Option.bind_some]
  have es : Lib.splitB (⟨#[32]⟩ : ByteArray) 0 (Lib.countB (bareOf s) (⟨#[32]⟩ : ByteArray)) (bareOf s) = cutL ⟨#[]⟩ ((bareOf s).data.toList ++ [32]) := split_cut _ (bareOf s) (Nat.le_refl _)
  rw [es]
  have hc := cutL_sizes ((bareOf s).data.toList ++ [32]) ⟨#[]⟩ 3000001 (by rw [List.length_append, size_toList]; show 0 + (_ + 1) ≤ _; omega)
  rw [List.length_append, size_toList] at hc
  have := impl_parts (cutL ⟨#[]⟩ ((bareOf s).data.toList ++ [32])) (fun p hp => by have := hc.1 p hp; omega) (by have := hc.2; simp only [List.length_cons, List.length_nil] at this; omega) _ 0 [] (Nat.zero_add _) (by simp)
  rw [List.drop_zero] at this
  exact this
theorem xor_small (a b : Nat) (ha : a < 4611686018427387904) (hb : b < 4611686018427387904) : ∃ m : Nat, m < 4611686018427387904 ∧ Go.bits .xor .i64 (a : Int) (b : Int) = (m : Int) := by
  have hx : a ^^^ b < 2 ^ 62 := Nat.xor_lt_two_pow (by omega) (by omega)
  have h1 : (BitVec.ofInt 64 (a : Int)).toNat = a := by
    rw [BitVec.ofInt_natCast, BitVec.toNat_ofNat]; exact Nat.mod_eq_of_lt (by omega)
  have h2 : (BitVec.ofInt 64 (b : Int)).toNat = b := by
    rw [BitVec.ofInt_natCast, BitVec.toNat_ofNat]; exact Nat.mod_eq_of_lt (by omega)
  refine ⟨a ^^^ b, by omega, ?_⟩
  show IntKind.i64.wrap ((BitVec.ofInt 64 (a : Int) ^^^ BitVec.ofInt 64 (b : Int)).toNat : Int) = _
  rw [BitVec.toNat_xor, h1, h2]
  simp only [IntKind.wrap, IntKind.bits, IntKind.signed]
  simp
  omega
theorem byte_range {l : List Int} (hl : ∀ x ∈ l, (Lit.int .u8 x).wf = true) (i : Int) : 0 ≤ rd l i ∧ rd l i ≤ 255 := by
  by_cases h : i.toNat < l.length
  · have e : rd l i = l[i.toNat] := by
      show l.getD i.toNat 0 = _
      rw [List.getD_eq_getElem?_getD, List.getElem?_eq_getElem h]; rfl
    have := hl _ (List.getElem_mem h)
    rw [← e] at this
    simp only [Lit.wf, Bool.and_eq_true, decide_eq_true_eq] at this
    have h3 : IntKind.u8.min = 0 := rfl
    have h4 : IntKind.u8.max = 255 := rfl
    omega
  · have e : rd l i = 0 := by
      show l.getD i.toNat 0 = _
      rw [List.getD_eq_getElem?_getD, List.getElem?_eq_none (by omega)]; rfl
    omega
theorem tmod_range (x n : Int) (hx : 0 ≤ x) (hn : 0 < n) : 0 ≤ Int.tmod x n ∧ Int.tmod x n < n := ⟨Int.tmod_nonneg n hx, Int.tmod_lt_of_pos x hn⟩
theorem tdiv_range (x n : Int) (hx : 0 ≤ x) (hn : 0 < n) : 0 ≤ Int.tdiv x n ∧ Int.tdiv x n ≤ x := by
  rw [Int.tdiv_eq_ediv_of_nonneg hx]
  refine ⟨Int.ediv_nonneg hx (by omega), Int.ediv_le_self n hx⟩
/-- A number from 0 to n - 1, 0 if there is none; the place moves on by one. -/
theorem pick_ev (l : List Int) (hl : ∀ x ∈ l, (Lit.int .u8 x).wf = true) (hlen : l.length ≤ 2000) (p n : Int) (hp : 0 ≤ p) (hp2 : p ≤ 1000000) :
    ∃ v, 0 ≤ v ∧ (1 ≤ n → v < n) ∧ Ev (fun k => spec_l1Rd_pick.f k l p n) (v, p + 1) := by
  unfold spec_l1Rd_pick.f
  by_cases hn : n < 1
  · refine ⟨0, by omega, by omega, ?_⟩
    refine Ev.ite_pos hn (Ev.succ ?_)
    simp only [spec_l1Rd_pick.j0]
    rw [w64 (show -9223372036854775808 ≤ p + 1 by omega) (by omega)]
    exact Ev.ite_pos trivial (Ev.val _)
  simp only [w64 (show -9223372036854775808 ≤ p + 1 by omega) (show p + 1 ≤ 9223372036854775807 by omega), if_neg (show ¬ n < 1 by omega)]
  have hw : ∀ v : Int, -1000000000000 ≤ v → v ≤ 1000000000000 → wrap64 v = v := fun v h1 h2 => w64 (by omega) (by omega)
  by_cases h0 : l.length = 0
  · refine ⟨0, by omega, by omega, ?_⟩
    rw [show ((l.length : Int) == 0) = true from by rw [h0]; rfl]
    refine Ev.succ ?_
    simp only [spec_l1Rd_pick.j0]
    exact Ev.ite_pos trivial (Ev.val _)
  · rw [show ((l.length : Int) == 0) = false from by rw [beq_eq_false_iff_ne]; omega]
    by_cases h1 : p < (l.length : Int)
    · have hb := byte_range hl p
      have ht := tmod_range (rd l p) n hb.1 (by omega)
      refine ⟨Int.tmod (rd l p) n, ht.1, fun _ => ht.2, ?_⟩
      refine Ev.succ ?_
      simp only [spec_l1Rd_pick.j0]
      rw [hw (p + 1 - 1) (by omega) (by omega), show p + 1 - 1 = p by omega, hw (rd l p) (by omega) (by omega)]
      exact Ev.ite_neg (by decide) (Ev.ite_pos h1 (Ev.ite_pos hp (Ev.ite_neg (by omega) (Ev.val _))))
    · have t1 := tmod_range p (l.length : Int) hp (by omega)
      have t2 := tmod_range (p * 7 + 3) (l.length : Int) (by omega) (by omega)
      have t3 := tdiv_range p (l.length : Int) hp (by omega)
      have b1 := byte_range hl (Int.tmod p (l.length : Int))
      have b2 := byte_range hl (Int.tmod (p * 7 + 3) (l.length : Int))
      obtain ⟨X, hX⟩ : ∃ X : Int, X = rd l (Int.tmod p (l.length : Int)) * 131 + rd l (Int.tmod (p * 7 + 3) (l.length : Int)) * 1117 + p * 29 + Int.tdiv p (l.length : Int) * 53 := ⟨_, rfl⟩
      have hX0 : 0 ≤ X ∧ X ≤ 1000000000 := by omega
      have d1 := tdiv_range X 64 hX0.1 (by omega)
      obtain ⟨m, hm, hme⟩ := xor_small X.toNat (Int.tdiv X 64).toNat (by omega) (by omega)
      rw [show ((X.toNat : Nat) : Int) = X by omega, show (((Int.tdiv X 64).toNat : Nat) : Int) = Int.tdiv X 64 by omega] at hme
      have ht := tmod_range (m : Int) n (by omega) (by omega)
      refine ⟨Int.tmod (m : Int) n, ht.1, fun _ => ht.2, ?_⟩
      refine Ev.succ ?_
      simp only [spec_l1Rd_pick.j0]
      rw [hw (p + 1 - 1) (by omega) (by omega), show p + 1 - 1 = p by omega, hw (p * 7) (by omega) (by omega), hw (p * 7 + 3) (by omega) (by omega), hw (Int.tdiv p (l.length : Int)) (by omega) (by omega), hw (p * 29) (by omega) (by omega), hw (Int.tdiv p (l.length : Int) * 53) (by omega) (by omega), hw (rd l (Int.tmod p (l.length : Int))) (by omega) (by omega), hw (rd l (Int.tmod (p * 7 + 3) (l.length : Int))) (by omega) (by omega), hw (rd l (Int.tmod p (l.length : Int)) * 131) (by omega) (by omega), hw (rd l (Int.tmod (p * 7 + 3) (l.length : Int)) * 1117) (by omega) (by omega), hw (rd l (Int.tmod p (l.length : Int)) * 131 + rd l (Int.tmod (p * 7 + 3) (l.length : Int)) * 1117) (by omega) (by omega), hw (rd l (Int.tmod p (l.length : Int)) * 131 + rd l (Int.tmod (p * 7 + 3) (l.length : Int)) * 1117 + p * 29) (by omega) (by omega), ← hX, hw X (by omega) (by omega), hw (Int.tdiv X 64) (by omega) (by omega), hme]
      exact Ev.ite_neg (by decide) (Ev.ite_neg h1 (Ev.ite_neg (by omega) (Ev.ite_pos t1.1 (Ev.ite_pos t1.2 (Ev.ite_pos t2.1 (Ev.ite_pos t2.2 (Ev.ite_neg (by omega) (Ev.val _))))))))
theorem open_ev (l : List Int) (hl : ∀ x ∈ l, (Lit.int .u8 x).wf = true) : ∃ l', (∀ x ∈ l', (Lit.int .u8 x).wf = true) ∧ l'.length ≤ 2000 ∧ spec_l1Open.f l = some (l', 0) := by
  unfold spec_l1Open.f
  by_cases h : (l.length : Int) > 2000
  · exact ⟨l.take 2000, fun x hx => hl x (List.mem_of_mem_take hx), by rw [List.length_take]; omega, by rw [if_pos h, if_pos (by omega)]⟩
  · exact ⟨l, hl, by omega, by rw [if_neg h]⟩
/-! #### the drawn line -/
theorem many_loop : ∀ (n N : Nat) (x0 x5 : ByteArray), n ≤ N → n ≤ 1000 → x5.size + x0.size * n ≤ 1000000 → ∃ t : ByteArray, t.size = x5.size + x0.size * n ∧ Ev (fun k => spec_l1Many.l0 k x0 (n : Int) x5) t := by
  intro n N
  induction N generalizing n with
  | zero =>
    intro x0 x5 hn hn3 hs
    obtain rfl : n = 0 := by omega
    refine ⟨x5, by omega, Ev.succ ?_⟩
    simp only [spec_l1Many.l0]
    exact Ev.ite_neg (by omega) (Ev.val _)
  | succ N ih =>
    intro x0 x5 hn hn3 hs
    by_cases h0 : n = 0
    · subst h0
      refine ⟨x5, by omega, Ev.succ ?_⟩
      simp only [spec_l1Many.l0]
      exact Ev.ite_neg (by omega) (Ev.val _)
    have hd : ((n / 2 : Nat) : Int) = Int.tdiv (n : Int) 2 := by rw [Int.tdiv_eq_ediv_of_nonneg (by omega)]; omega
    have hm : Int.tmod (n : Int) 2 = ((n % 2 : Nat) : Int) := by rw [Int.tmod_eq_emod_of_nonneg (by omega)]; omega
    have h2 : (x0 ++ x0).size = x0.size + x0.size := ByteArray.size_append
    have e2 : (x0 ++ x0).size * (n / 2) = x0.size * (n / 2) + x0.size * (n / 2) := by rw [h2, Nat.add_mul]
    have e3 : x0.size * n = x0.size * (n / 2) + x0.size * (n / 2) + x0.size * (n % 2) := by
      rw [← Nat.mul_add, ← Nat.mul_add]
      congr 1; omega
    have e4 : x0.size * 1 ≤ x0.size * n := Nat.mul_le_mul_left _ (by omega)
    by_cases hb : n % 2 = 1
    · have h5 : (x5 ++ x0).size = x5.size + x0.size := ByteArray.size_append
      rw [hb] at e3
      obtain ⟨t, ht, hev⟩ := ih (n / 2) (x0 ++ x0) (x5 ++ x0) (by omega) (by omega) (by omega)
      refine ⟨t, by omega, Ev.succ ?_⟩
      simp only [spec_l1Many.l0]
      rw [hm, ← hd, w64 (n := ((n / 2 : Nat) : Int)) (by omega) (by omega)]
      exact Ev.ite_pos (by omega) (Ev.ite_pos (by omega) (Ev.ite_pos (by omega) (Ev.ite_pos (by omega) hev)))
    · rw [show n % 2 = 0 by omega] at e3
      obtain ⟨t, ht, hev⟩ := ih (n / 2) (x0 ++ x0) x5 (by omega) (by omega) (by omega)
      refine ⟨t, by omega, Ev.succ ?_⟩
      simp only [spec_l1Many.l0]
      rw [hm, ← hd, w64 (n := ((n / 2 : Nat) : Int)) (by omega) (by omega)]
      exact Ev.ite_pos (by omega) (Ev.ite_neg (by omega) (Ev.ite_pos (by omega) hev))
theorem many_one (c : UInt8) (n : Int) (h0 : 0 ≤ n) (h1 : n ≤ 40) : ∃ t : ByteArray, t.size ≤ 40 ∧ Ev (fun k => spec_l1Many.f k ⟨#[c]⟩ n) t := by
  have hc : (⟨#[c]⟩ : ByteArray).size = 1 := rfl
  obtain ⟨t, ht, hev⟩ := many_loop n.toNat n.toNat ⟨#[c]⟩ ⟨#[]⟩ (Nat.le_refl _) (by omega) (by rw [hc]; show 0 + _ ≤ _; omega)
  rw [show ((n.toNat : Nat) : Int) = n by omega] at hev
  rw [hc] at ht
  refine ⟨t, by have : (⟨#[]⟩ : ByteArray).size = 0 := rfl; omega, ?_⟩
  unfold spec_l1Many.f
  exact hev
theorem of_one (l : List Int) (hl : ∀ x ∈ l, (Lit.int .u8 x).wf = true) (hlen : l.length ≤ 2000) (p : Int) (hp : 0 ≤ p) (hp2 : p ≤ 1000000) (L : List ByteArray) (h0 : L ≠ []) (hb : ∀ x ∈ L, x.size ≤ 40) :
    ∃ t : ByteArray, t.size ≤ 40 ∧ Ev (fun k => spec_l1Rd_of.f k l p L) (t, p + 1) := by
  have hn : 0 < L.length := List.length_pos_iff.2 h0
  obtain ⟨v, hv0, hv1, hev⟩ := pick_ev l hl hlen p (L.length : Int) hp hp2
  have hv := hv1 (by omega)
  have e := rdOf_nth L v.toNat (by omega)
  rw [show ((v.toNat : Nat) : Int) = v by omega] at e
  refine ⟨rdOf ByteArray.empty L v, by rw [e]; exact hb _ (List.getElem_mem _), ?_⟩
  unfold spec_l1Rd_of.f
  exact Ev.bind hev (Ev.ite_pos hv0 (Ev.ite_pos hv (Ev.val _)))
theorem draw_loop (l : List Int) (hl : ∀ x ∈ l, (Lit.int .u8 x).wf = true) (hlen : l.length ≤ 2000) : ∀ (m : Nat) (x : ByteArray) (p : Int), 0 ≤ p → x.size + 100 * m ≤ 100000 → p + 10 * m ≤ 100000 → ∃ t : ByteArray, t.size ≤ 100000 ∧ Ev (fun k => spec_DrawSkyWords.l0 k x (m : Int) l p) t := by
  intro m
  induction m with
  | zero =>
    intro x p hp hx hq
    refine ⟨x, by omega, Ev.succ ?_⟩
    simp only [spec_DrawSkyWords.l0]
    exact Ev.ite_neg (by omega) (Ev.val _)
  | succ m ih =>
    intro x p hp hx hq
    obtain ⟨a, ha0, ha1, hea⟩ := pick_ev l hl hlen p 24 hp (by omega)
    have tail : ∀ (y : ByteArray) (q : Int), 0 ≤ q → y.size ≤ x.size + 40 → q ≤ p + 3 → ∃ t : ByteArray, t.size ≤ 100000 ∧ Ev (fun k => (spec_l1Rd_pick.f k l q 3).bind fun b => (spec_l1Rd_pick.f k l b.2 2).bind fun c => (spec_l1Many.f k (⟨#[32]⟩ : ByteArray) (wrap64 (b.1 + c.1))).bind fun s => if y.size + s.size ≤ 9223372036854775807 then spec_DrawSkyWords.l0 k (y ++ s) (wrap64 (((m + 1 : Nat) : Int) - 1)) l c.2 else none) t := by
      intro y q hq0 hy hqp
      obtain ⟨b, hb0, hb1, heb⟩ := pick_ev l hl hlen q 3 hq0 (by omega)
      obtain ⟨c, hc0, hc1, hec⟩ := pick_ev l hl hlen (q + 1) 2 (by omega) (by omega)
      have hb2 := hb1 (by omega)
      have hc2 := hc1 (by omega)
      obtain ⟨s, hs, hes⟩ := many_one 32 (b + c) (by omega) (by omega)
      have hz : (y ++ s).size = y.size + s.size := ByteArray.size_append
      obtain ⟨t, ht, het⟩ := ih (y ++ s) (q + 1 + 1) (by omega) (by omega) (by omega)
      refine ⟨t, ht, Ev.bind heb (Ev.bind hec ?_)⟩
      simp only []
      rw [w64 (n := b + c) (by omega) (by omega), w64 (n := ((m + 1 : Nat) : Int) - 1) (by omega) (by omega), show ((m + 1 : Nat) : Int) - 1 = (m : Int) by omega]
      exact Ev.bind hes (Ev.ite_pos (by omega) het)
    have one : ∀ (y : ByteArray), y.size ≤ 40 → (x ++ y).size ≤ x.size + 40 := fun y hy => by rw [ByteArray.size_append]; omega
    by_cases c0 : a = 0
    · obtain ⟨t, ht, het⟩ := tail (x ++ ⟨#[35]⟩) (p + 1) (by omega) (one _ (by show 1 ≤ 40; omega)) (by omega)
      refine ⟨t, ht, Ev.succ ?_⟩
      simp only [spec_DrawSkyWords.l0]
      exact Ev.ite_pos (by omega) (Ev.bind hea (Ev.ite_pos c0 (Ev.ite_pos (by omega) het)))
    by_cases c1 : a = 1
    · obtain ⟨y, hy, hey⟩ := of_one l hl hlen (p + 1) (by omega) (by omega) [(⟨#[127]⟩ : ByteArray), (⟨#[9]⟩ : ByteArray), (⟨#[0]⟩ : ByteArray), (⟨#[195, 169]⟩ : ByteArray)] (by simp) (by
        intro z hz
        simp only [List.mem_cons, List.not_mem_nil, or_false] at hz
        rcases hz with rfl | rfl | rfl | rfl <;> decide)
      obtain ⟨t, ht, het⟩ := tail (x ++ y) (p + 1 + 1) (by omega) (one _ hy) (by omega)
      refine ⟨t, ht, Ev.succ ?_⟩
      simp only [spec_DrawSkyWords.l0]
      exact Ev.ite_pos (by omega) (Ev.bind hea (Ev.ite_neg c0 (Ev.ite_pos c1 (Ev.bind hey (Ev.ite_pos (by simp only []; omega) het)))))
    by_cases c2 : a = 2
    · obtain ⟨b, hb0, hb1, heb⟩ := pick_ev l hl hlen (p + 1) 2 (by omega) (by omega)
      have hb2 := hb1 (by omega)
      obtain ⟨y, hy, hey⟩ := many_one 119 (24 + b) (by omega) (by omega)
      obtain ⟨t, ht, het⟩ := tail (x ++ y) (p + 1 + 1) (by omega) (one _ hy) (by omega)
      refine ⟨t, ht, Ev.succ ?_⟩
      simp only [spec_DrawSkyWords.l0]
      refine Ev.ite_pos (by omega) (Ev.bind hea (Ev.ite_neg c0 (Ev.ite_neg c1 (Ev.ite_pos c2 (Ev.bind heb ?_)))))
      simp only []
      rw [w64 (n := 24 + b) (by omega) (by omega)]
      exact Ev.bind hey (Ev.ite_pos (by omega) het)
    · obtain ⟨y, hy, hey⟩ := of_one l hl hlen (p + 1) (by omega) (by omega) [(⟨#[112, 111, 105, 110, 116]⟩ : ByteArray), (⟨#[97]⟩ : ByteArray), (⟨#[49, 50]⟩ : ByteArray), (⟨#[33]⟩ : ByteArray), (⟨#[126]⟩ : ByteArray)] (by simp) (by
        intro z hz
        simp only [List.mem_cons, List.not_mem_nil, or_false] at hz
        rcases hz with rfl | rfl | rfl | rfl | rfl <;> decide)
      obtain ⟨t, ht, het⟩ := tail (x ++ y) (p + 1 + 1) (by omega) (one _ hy) (by omega)
      refine ⟨t, ht, Ev.succ ?_⟩
      simp only [spec_DrawSkyWords.l0]
      exact Ev.ite_pos (by omega) (Ev.bind hea (Ev.ite_neg c0 (Ev.ite_neg c1 (Ev.ite_neg c2 (Ev.bind hey (Ev.ite_pos (by simp only []; omega) het))))))
theorem draw_line (l : List Int) (hl : ∀ x ∈ l, (Lit.int .u8 x).wf = true) : ∃ t : ByteArray, t.size ≤ 100000 ∧ Ev (fun k => spec_DrawSkyWords.f k l) t := by
  obtain ⟨l', hl', hlen, ho⟩ := open_ev l hl
  obtain ⟨n, hn0, hn1, hen⟩ := pick_ev l' hl' hlen 0 15 (by omega) (by omega)
  have hn2 := hn1 (by omega)
  have hz : (⟨#[]⟩ : ByteArray).size = 0 := rfl
  obtain ⟨t, ht, het⟩ := draw_loop l' hl' hlen n.toNat ⟨#[]⟩ (0 + 1) (by omega) (by omega) (by omega)
  rw [show ((n.toNat : Nat) : Int) = n by omega] at het
  refine ⟨t, ht, ?_⟩
  unfold spec_DrawSkyWords.f
  rw [ho]
  exact Ev.bind (Ev.val _) (Ev.bind hen het)
/-! #### what a word is -/
def wordy (w : ByteArray) : Prop := goodW w = true ∧ w.size ≠ 0 ∧ ∀ c ∈ w.data.toList, c ≠ 32 ∧ c ≠ 35
theorem wordsL_all : ∀ (ps out : List ByteArray), (∀ p ∈ ps, ∀ c ∈ p.data.toList, c ≠ 35) → (∀ w ∈ out, wordy w) → ∀ w ∈ (wordsL out ps).1, wordy w
  | [], out, _, ho => by
    unfold wordsL
    split
    · simp
    · exact ho
  | p :: ps, out, hp, ho => by
    have hp' : ∀ q ∈ ps, ∀ c ∈ q.data.toList, c ≠ 35 := fun q hq => hp q (List.mem_cons_of_mem _ hq)
    unfold wordsL
    split
    · exact wordsL_all ps out hp' ho
    · rename_i h0
      split
      · rename_i hg
        refine wordsL_all ps _ hp' (fun w hw => ?_)
        rcases List.mem_append.1 hw with h | h
        · exact ho w h
        · simp only [List.mem_singleton] at h
          subst h
          refine ⟨hg, h0, fun c hc => ⟨fun e => ?_, hp w List.mem_cons_self c hc⟩⟩
          unfold goodW at hg
          rw [Bool.and_eq_true, List.all_eq_true] at hg
          have := hg.1 c hc
          unfold goodC at this
          rw [decide_eq_true_eq, e] at this
          exact absurd this.1 (by decide)
      · simp
theorem cutL_bytes : ∀ (r : List UInt8) (w : ByteArray), (∀ c ∈ r, c ≠ 35) → (∀ c ∈ w.data.toList, c ≠ 35) → ∀ p ∈ cutL w r, ∀ c ∈ p.data.toList, c ≠ 35
  | [], w, _, _ => by unfold cutL; intro p hp; cases hp
  | x :: r, w, hr, hw => by
    have hr' : ∀ c ∈ r, c ≠ 35 := fun c hc => hr c (List.mem_cons_of_mem _ hc)
    unfold cutL
    split
    · intro p hp
      rcases List.mem_cons.1 hp with e | e
      · rw [e]; exact hw
      · exact cutL_bytes r ⟨#[]⟩ hr' (fun c hc => by cases hc) p e
    · refine cutL_bytes r _ hr' (fun c hc => ?_)
      rw [show (w ++ (⟨#[x]⟩ : ByteArray)).data.toList = w.data.toList ++ [x] by simp [ByteArray.data_append]] at hc
      rcases List.mem_append.1 hc with h | h
      · exact hw c h
      · simp only [List.mem_singleton] at h
        rw [h]; exact hr x List.mem_cons_self
theorem bare_no (s : ByteArray) : ∀ c ∈ (bareOf s).data.toList, c ≠ 35 := by
  have h1 : Lib.indexB s hash = Lib.indexByte s.data.toList 35 := Lib.one s hash rfl
  intro c hc e
  subst e
  obtain ⟨k, hk, hke⟩ := List.getElem_of_mem hc
  rcases Lib.indexB_cases s hash with h | ⟨n, h, hn⟩
  · have e : bareOf s = s := (Lib.cutB_miss s hash h).1
    rw [h1] at h
    simp only [e] at hk hke
    exact Lib.indexByte_none h k (by rw [List.getElem?_eq_getElem hk, hke])
  · have e : bareOf s = s.extract 0 n := (Lib.cutB_hit s hash n h).1
    rw [h1] at h
    have hs1 := Lib.indexByte_some h
    have el : (s.extract 0 n).data.toList = s.data.toList.take n := by rw [Lib.extract_from_zero]
    simp only [e, el] at hk hke
    rw [List.length_take] at hk
    rw [List.getElem_take] at hke
    exact hs1.2 k (by omega) (by rw [List.getElem?_eq_getElem (by omega), hke])
theorem words_all (s : ByteArray) : ∀ w ∈ (wordsOf s).1, wordy w := by
  unfold wordsOf
  refine wordsL_all _ [] (cutL_bytes _ ⟨#[]⟩ (fun c hc => ?_) (fun c hc => by cases hc)) (fun w hw => by cases hw)
  rcases List.mem_append.1 hc with h | h
  · exact bare_no s c h
  · simp only [List.mem_singleton] at h
    rw [h]; decide
/-! #### the words, written with one blank ahead of each -/
def joinW : List ByteArray → List UInt8
  | [] => []
  | w :: ws => 32 :: (w.data.toList ++ joinW ws)
theorem cut_app : ∀ (a : List UInt8) (w : ByteArray) (r : List UInt8), (∀ c ∈ a, c ≠ 32) → cutL w (a ++ r) = cutL (w ++ ⟨a.toArray⟩) r
  | [], w, r, _ => by
    congr 1
    apply ByteArray.ext
    simp [ByteArray.data_append]
  | c :: a, w, r, h => by
    show cutL w (c :: (a ++ r)) = _
    rw [cutL_c _ _ _ (h c List.mem_cons_self), cut_app a _ r (fun x hx => h x (List.mem_cons_of_mem _ hx))]
    congr 1
    apply ByteArray.ext
    simp [ByteArray.data_append]
theorem cut_join : ∀ (ws : List ByteArray) (w0 : ByteArray), (∀ w ∈ ws, wordy w) → cutL w0 (joinW ws ++ [32, 32]) = w0 :: (ws ++ [⟨#[]⟩])
  | [], w0, _ => by
    show cutL w0 (32 :: 32 :: []) = _
    rw [cutL_sp, cutL_sp]
    rfl
  | w :: ws, w0, h => by
    show cutL w0 (32 :: ((w.data.toList ++ joinW ws) ++ [32, 32])) = _
    rw [cutL_sp, List.append_assoc, cut_app _ _ _ (fun c hc => ((h w List.mem_cons_self).2.2 c hc).1), emp_app, Lib.mk_data, cut_join ws w (fun x hx => h x (List.mem_cons_of_mem _ hx))]
    rfl
theorem wordsL_join : ∀ (ws out : List ByteArray), (∀ w ∈ ws, wordy w) → (out ++ ws).length ≤ 12 → wordsL out (ws ++ [⟨#[]⟩]) = (out ++ ws, true)
  | [], out, _, hl => by
    show wordsL out [⟨#[]⟩] = _
    rw [List.append_nil] at hl ⊢
    unfold wordsL
    rw [if_pos (show (⟨#[]⟩ : ByteArray).size = 0 from rfl)]
    unfold wordsL
    rw [if_neg (by omega)]
  | w :: ws, out, h, hl => by
    show wordsL out (w :: (ws ++ [⟨#[]⟩])) = _
    have hw := h w List.mem_cons_self
    unfold wordsL
    rw [if_neg hw.2.1, if_pos hw.1, wordsL_join ws (out ++ [w]) (fun x hx => h x (List.mem_cons_of_mem _ hx)) (by simpa using hl)]
    simp
theorem join_no : ∀ (ws : List ByteArray), (∀ w ∈ ws, wordy w) → ∀ c ∈ joinW ws, c ≠ 35
  | [], _, c, hc => by cases hc
  | w :: ws, h, c, hc => by
    rcases List.mem_cons.1 hc with e | e
    · rw [e]; decide
    · rcases List.mem_append.1 e with e | e
      · exact ((h w List.mem_cons_self).2.2 c e).2
      · exact join_no ws (fun x hx => h x (List.mem_cons_of_mem _ hx)) c e
theorem bare_join (S line : ByteArray) (hS : ∀ c ∈ S.data.toList, c ≠ 35) : (bareOf ((S ++ ⟨#[32, 35, 32]⟩) ++ line)).data.toList = S.data.toList ++ [32] := by
  obtain ⟨z, hz⟩ : ∃ z, z = (S ++ ⟨#[32, 35, 32]⟩) ++ line := ⟨_, rfl⟩
  rw [← hz]
  have hzl : z.data.toList = S.data.toList ++ [32] ++ 35 :: (32 :: line.data.toList) := by rw [hz]; simp [ByteArray.data_append]
  have hno : ∀ c ∈ S.data.toList ++ [(32 : UInt8)], c ≠ 35 := by
    intro c hc
    rcases List.mem_append.1 hc with h | h
    · exact hS c h
    · simp only [List.mem_singleton] at h
      rw [h]; decide
  have h1 : Lib.indexB z hash = Lib.indexByte z.data.toList 35 := Lib.one z hash rfl
  have at35 : z.data.toList[(S.data.toList ++ [(32 : UInt8)]).length]? = some 35 := by
    rw [hzl, List.getElem?_append_right (Nat.le_refl _), Nat.sub_self]; rfl
  rcases Lib.indexB_cases z hash with h | ⟨n, h, hn⟩
  · rw [h1] at h
    exact absurd at35 (Lib.indexByte_none h _)
  · have e : bareOf z = z.extract 0 n := (Lib.cutB_hit z hash n h).1
    rw [h1] at h
    have hs1 := Lib.indexByte_some h
    have hn1 : n = (S.data.toList ++ [(32 : UInt8)]).length := by
      rcases Nat.lt_trichotomy n (S.data.toList ++ [(32 : UInt8)]).length with h2 | h2 | h2
      · exfalso
        have h3 := hs1.1
        rw [hzl, List.getElem?_append_left h2, List.getElem?_eq_getElem h2] at h3
        exact hno _ (List.getElem_mem h2) (Option.some.inj h3)
      · exact h2
      · exact absurd at35 (hs1.2 _ h2)
    rw [e, Lib.extract_from_zero, hzl, hn1, List.take_left]
theorem words_join (ws : List ByteArray) (S line : ByteArray) (hS : S.data.toList = joinW ws) (hw : ∀ w ∈ ws, wordy w) (hl : ws.length ≤ 12) : wordsOf ((S ++ ⟨#[32, 35, 32]⟩) ++ line) = (ws, true) := by
  unfold wordsOf
  rw [bare_join S line (by rw [hS]; exact join_no ws hw), hS, List.append_assoc]
  show wordsL [] (cutL ⟨#[]⟩ (joinW ws ++ [32, 32])) = _
  rw [cut_join ws _ hw]
  unfold wordsL
  rw [if_pos (show (⟨#[]⟩ : ByteArray).size = 0 from rfl), wordsL_join ws [] hw (by simpa using hl)]
  simp
/-! #### the law -/
theorem texts_ev (ws : List ByteArray) (hl : ws.length ≤ 1000000) : Ev (fun k => laws_wmTexts.f k ws ws) true := by
  unfold laws_wmTexts.f
  refine Ev.ite_pos rfl ?_
  have loop : ∀ d i : Nat, i + d = ws.length → Ev (fun k => laws_wmTexts.l0 k ws ws (i : Int)) true := by
    intro d
    induction d with
    | zero =>
      intro i hi
      refine Ev.succ ?_
      simp only [laws_wmTexts.l0]
      exact Ev.ite_neg (by omega) (Ev.val _)
    | succ d ih =>
      intro i hi
      have := ih (i + 1) (by omega)
      rw [show (((i + 1 : Nat)) : Int) = (i : Int) + 1 by omega] at this
      refine Ev.succ ?_
      simp only [laws_wmTexts.l0]
      rw [w64 (n := (i : Int) + 1) (by omega) (by omega)]
      exact Ev.ite_pos (by omega) (Ev.ite_pos (by omega) (Ev.ite_pos (by omega) (Ev.ite_pos (by simp) this)))
  exact loop ws.length 0 (by omega)
theorem word_small {w : ByteArray} (h : wordy w) : w.size ≤ 24 := by
  have := h.1
  unfold goodW at this
  rw [Bool.and_eq_true] at this
  exact of_decide_eq_true this.2
theorem joinW_app : ∀ (a : List ByteArray) (w : ByteArray), joinW (a ++ [w]) = joinW a ++ 32 :: w.data.toList
  | [], w => by simp [joinW]
  | x :: a, w => by
    show 32 :: (x.data.toList ++ joinW (a ++ [w])) = 32 :: (x.data.toList ++ joinW a) ++ 32 :: w.data.toList
    rw [joinW_app a w]; simp
theorem again (line : ByteArray) (hline : line.size ≤ 100000) (ws : List ByteArray) (hw : ∀ w ∈ ws, wordy w) (hl : ws.length ≤ 12) : ∀ (d i : Nat) (S : ByteArray), i + d = ws.length → S.data.toList = joinW (ws.take i) → S.size ≤ 25 * i → Ev (fun k => laws_FnSkyWords.l0 k line ws S (i : Int)) true := by
  intro d
  induction d with
  | zero =>
    intro i S hi hS hz
    rw [List.take_of_length_le (by omega)] at hS
    have h3 : (⟨#[32, 35, 32]⟩ : ByteArray).size = 3 := rfl
    have h4 : (S ++ (⟨#[32, 35, 32]⟩ : ByteArray)).size = S.size + 3 := ByteArray.size_append
    have h5 : ((S ++ (⟨#[32, 35, 32]⟩ : ByteArray)) ++ line).size = S.size + 3 + line.size := by rw [ByteArray.size_append, h4]
    have hev := words_impl ((S ++ ⟨#[32, 35, 32]⟩) ++ line) (by omega)
    rw [words_join ws S line hS hw hl] at hev
    refine Ev.succ ?_
    simp only [laws_FnSkyWords.l0]
    exact Ev.ite_neg (by omega) (Ev.ite_pos (by omega) (Ev.ite_pos (by omega) (Ev.bind hev (Ev.ite_pos (by simp) (Ev.bind (texts_ev ws (by omega)) (Ev.val _))))))
  | succ d ih =>
    intro i S hi hS hz
    have hil : i < ws.length := by omega
    have hww := hw _ (List.getElem_mem hil)
    have hws := word_small hww
    have h1 : (S ++ (⟨#[32]⟩ : ByteArray)).size = S.size + 1 := ByteArray.size_append
    have h2 : ((S ++ (⟨#[32]⟩ : ByteArray)) ++ ws[i]).size = S.size + 1 + ws[i].size := by rw [ByteArray.size_append, h1]
    have := ih (i + 1) ((S ++ ⟨#[32]⟩) ++ ws[i]) (by omega) (by
      rw [List.take_add_one, List.getElem?_eq_getElem hil]
      show _ = joinW (ws.take i ++ [ws[i]])
      rw [joinW_app, ← hS]
      simp [ByteArray.data_append]) (by omega)
    rw [show (((i + 1 : Nat)) : Int) = (i : Int) + 1 by omega] at this
    refine Ev.succ ?_
    simp only [laws_FnSkyWords.l0]
    rw [rdOf_nth ws i hil, w64 (n := (i : Int) + 1) (by omega) (by omega)]
    exact Ev.ite_pos (by omega) (Ev.ite_pos (by omega) (Ev.ite_pos (by omega) (Ev.ite_pos (by omega) this)))
theorem FnSkyWords : laws_FnSkyWords.Pure := by
  intro l _ _ hl
  refine Ev.rounds (r := true) ?_
  unfold laws_FnSkyWords.f
  by_cases c0 : (l.length : Int) > 1048576
  · exact Ev.ite_pos c0 (Ev.val _)
  obtain ⟨line, hline, hev⟩ := draw_line l hl
  have hlen : (wordsOf line).1.length ≤ 12 := wordsL_length _ []
  refine Ev.ite_neg c0 (Ev.bind hev (Ev.bind (words_impl line (by omega)) (Ev.bind (words_spec line (by omega)) (Ev.ite_neg (by simp) (Ev.bind (texts_ev _ (by omega)) (Ev.succ ?_))))))
  simp only [laws_FnSkyWords.j0]
  exact Ev.ite_neg (by decide) (again line hline _ (words_all line) hlen _ 0 ⟨#[]⟩ (Nat.zero_add _) (by rfl) (by show 0 ≤ _; omega))
end Go.Proofs.YtnmjmhhkbcnccaaDoor.Pure
