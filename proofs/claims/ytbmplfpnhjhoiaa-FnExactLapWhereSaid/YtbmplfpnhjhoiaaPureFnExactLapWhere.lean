/-
  The law FnExactLapWhere over numbers and lists: both tell the box that is being flown, or that there is none.
-/
import Derived.Test.YtbmplfpnhjhoiaaSayFnExactLapWhere
import Derived.Test.YtbmplfpnhjhoiaaStdFnExactLapWhere
namespace Go.Proofs.Ytbmplfpnhjhoiaa.Pure
open Go.RowKit Go.Proofs.Ytbmplfpnhjhoiaa.QFnExactLapWhere Go.Proofs.YtbmplfpnhjhoiaaW.PrintWords Go.Proofs.Ytbmplfpnhjhoiaa.Kit Go.Proofs.Ytbmplfpnhjhoiaa.StdFnExactLapWhere Go.Proofs.Ytbmplfpnhjhoiaa.SayFnExactLapWhere
set_option linter.unusedSimpArgs false
set_option linter.unusedVariables false
/-- The box before the n-th, if there is one. -/
def whereV (bs : List S41) (n : Int) : Int × Int × Int × Int × Int × Int × Bool :=
  if 0 ≤ n ∧ n < (bs.length : Int) then ((rd_T41 bs n).f0, (rd_T41 bs n).f1, (rd_T41 bs n).f2, (rd_T41 bs n).f3, (rd_T41 bs n).f4, (rd_T41 bs n).f5, true) else (0, 0, 0, 0, 0, 0, false)
theorem where_spec (nm : ByteArray) (q s a b : Int) (bs : List S41) (fl : List Int) (hb : bs.length ≤ 1048576) (hf : fl.length ≤ 1048576) : spec_LapWhere.f nm q s a b bs fl = some (whereV bs ((fl.length : Int) - 1)) := by
  unfold spec_LapWhere.f spec_l1In.f whereV
  rw [w64 (show -9223372036854775808 ≤ (fl.length : Int) - 1 by omega) (by omega), w64 (show -9223372036854775808 ≤ (bs.length : Int) - 1 by omega) (by omega)]
  generalize (fl.length : Int) - 1 = n
  by_cases h0 : 0 ≤ n
  · rw [if_pos (show n ≥ 0 from h0)]
    simp only [Option.bind_some]
    by_cases h1 : n < (bs.length : Int)
    · rw [if_pos (decide_eq_true (by omega)), if_pos h0, if_pos h1, if_pos ⟨h0, h1⟩]
    · rw [if_neg (by simp only [decide_eq_true_eq]; omega), if_neg (fun h => h1 h.2)]
  · rw [if_neg (show ¬ n ≥ 0 from h0)]
    simp only [Option.bind_some]
    rw [if_neg (by simp), if_neg (fun h => h0 h.1)]
theorem where_impl (nm : ByteArray) (q s a b : Int) (bs : List S41) (fl : List Int) (hb : bs.length ≤ 1048576) (hf : fl.length ≤ 1048576) : impl_LapWhere.f nm q s a b bs fl = some (whereV bs ((fl.length : Int) - 1)) := by
  unfold impl_LapWhere.f whereV
  rw [w64 (show -9223372036854775808 ≤ (fl.length : Int) - 1 by omega) (by omega)]
  generalize (fl.length : Int) - 1 = n
  by_cases h0 : 0 ≤ n
  · rw [if_neg (show ¬ n < 0 by omega)]
    by_cases h1 : n < (bs.length : Int)
    · rw [if_neg (show ¬ n ≥ (bs.length : Int) by omega), if_pos h0, if_pos h1, if_pos ⟨h0, h1⟩]
    · rw [if_pos (show n ≥ (bs.length : Int) by omega), if_neg (fun h => h1 h.2)]
  · rw [if_pos (show n < 0 by omega), if_neg (fun h => h0 h.1)]
theorem toLap_ev (nm : ByteArray) (q s a b : Int) (bs : List S120) (fl : List Int) (hb : bs.length ≤ 1048576) (hf : fl.length ≤ 1048576) : Ev (fun k => laws_toLapCraft.f k nm q s a b bs fl) (nm, q, s, a, b, bs.map conv_toHandBoxS, fl) := by
  unfold laws_toLapCraft.f
  simp only [laws_toFlyKind.f, Option.bind_some]
  exact Ev.bind (toHandBoxS_ev bs hb) (Ev.bind (toIntS_ev fl hf) (Ev.val _))
theorem eqLap_ev (nm : ByteArray) (q s a b : Int) (bs : List S41) (fl : List Int) (hb : bs.length ≤ 1048576) (hf : fl.length ≤ 1048576) : Ev (fun k => laws_eqLapCraft.f k nm q s a b bs fl nm q s a b bs fl) true := by
  unfold laws_eqLapCraft.f
  have e : laws_eqFlyKind.f q s q s = some true := by unfold laws_eqFlyKind.f; rw [if_pos rfl, if_pos rfl]
  exact Ev.ite_pos rfl (Ev.bind (Ev.const e) (Ev.ite_pos rfl (Ev.ite_pos rfl (Ev.ite_pos rfl (Ev.bind (eqHandBoxS_ev bs hb) (Ev.ite_pos rfl (Ev.bind (eqIntS_ev fl hf) (Ev.ite_pos rfl (Ev.val _)))))))))
theorem eqBox (a b c d e f : Int) : laws_eqHandBox.f a b c d e f a b c d e f = some true := by
  unfold laws_eqHandBox.f
  rw [if_pos rfl, if_pos rfl, if_pos rfl, if_pos rfl, if_pos rfl, if_pos rfl]
theorem FnExactLapWhere : Said := by
  intro nm q s a b bs fl ⟨hn, _, _, _, _, ⟨hb, _⟩, ⟨hf, _⟩⟩
  refine Ev.rounds (r := true) ?_
  unfold laws_FnExactLapWhere.f laws_szLapCraft.f
  rw [w64 (show -9223372036854775808 ≤ 1048576 - (nm.size : Int) by omega) (by omega)]
  by_cases h0 : 1048576 - (nm.size : Int) < 0
  · rw [if_pos h0]
    exact Ev.bind (Ev.val _) (Ev.ite_pos (by decide) (Ev.val _))
  · rw [if_neg h0, szHandBoxS_eq bs hb _ (by omega) (by omega)]
    simp only [Option.bind_some]
    by_cases h1 : (bs.length : Int) ≤ 1048576 - (nm.size : Int)
    · have hl : bs.length ≤ 1048576 := by omega
      rw [if_pos h1, if_neg (show ¬ 1048576 - (nm.size : Int) - (bs.length : Int) < 0 by omega), szIntS_eq fl hf _ (by omega) (by omega)]
      simp only [Option.bind_some]
      by_cases h2 : (fl.length : Int) ≤ 1048576 - (nm.size : Int) - (bs.length : Int)
      · have hf' : fl.length ≤ 1048576 := by omega
        have m1 : (bs.map conv_toHandBoxS).length ≤ 1048576 := by rw [List.length_map]; exact hl
        rw [if_pos h2, if_neg (show ¬ 1048576 - (nm.size : Int) - (bs.length : Int) - (fl.length : Int) < 0 by omega)]
        simp only [Option.bind_some]
        refine Ev.ite_neg (by omega) (Ev.bind (toLap_ev nm q s a b bs fl hl hf') ?_)
        simp only [where_spec nm q s a b _ fl m1 hf', where_impl nm q s a b _ fl m1 hf', Option.bind_some]
        refine Ev.bind (toLap_ev nm q s a b bs fl hl hf') ?_
        simp only [where_impl nm q s a b _ fl m1 hf', eqBox, Option.bind_some, bne_self_eq_false]
        refine Ev.ite_pos trivial (Ev.succ ?_)
        simp only [laws_FnExactLapWhere.j0]
        exact Ev.ite_neg (by decide) (Ev.bind (toLap_ev nm q s a b bs fl hl hf') (Ev.bind (eqLap_ev nm q s a b _ fl m1 hf') (Ev.ite_pos rfl (Ev.val _))))
      · rw [if_neg h2, if_pos (show (-1 : Int) < 0 by decide)]
        exact Ev.bind (Ev.val _) (Ev.ite_pos (by decide) (Ev.val _))
    · rw [if_neg h1, if_pos (show (-1 : Int) < 0 by decide)]
      exact Ev.bind (Ev.val _) (Ev.ite_pos (by decide) (Ev.val _))
end Go.Proofs.Ytbmplfpnhjhoiaa.Pure
