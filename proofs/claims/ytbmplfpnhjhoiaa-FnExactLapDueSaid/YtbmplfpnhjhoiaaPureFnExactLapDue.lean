/-
  The law FnExactLapDue over numbers and lists: the last box that may have been entered, and the last zone over it, told from both ends.
-/
import Derived.Test.YtbmplfpnhjhoiaaSayFnExactLapDue
import Derived.Test.YtbmplfpnhjhoiaaStdFnExactLapDue
namespace Go.Proofs.Ytbmplfpnhjhoiaa.Pure
open Go.RowKit Go.Proofs.Ytbmplfpnhjhoiaa.QFnExactLapDue Go.Proofs.YtbmplfpnhjhoiaaW.PrintWords Go.Proofs.Ytbmplfpnhjhoiaa.Kit Go.Proofs.Ytbmplfpnhjhoiaa.StdFnExactLapDue Go.Proofs.Ytbmplfpnhjhoiaa.SayFnExactLapDue
set_option linter.unusedSimpArgs false
set_option linter.unusedVariables false
def overB (z : S55) (b : S41) : Bool := decide ((z.f1 ≤ b.f0 ∧ b.f0 ≤ z.f3) ∧ z.f2 ≤ b.f1 ∧ b.f1 ≤ z.f4)
theorem over_spec (z : S55) (b : S41) : spec_l31Over.f z.f0 z.f1 z.f2 z.f3 z.f4 b.f0 b.f1 b.f2 b.f3 b.f4 b.f5 = some (overB z b) := by
  unfold spec_l31Over.f spec_l31In.f overB
  by_cases h0 : b.f0 ≥ z.f1 <;> by_cases h1 : b.f0 ≤ z.f3 <;> by_cases h2 : b.f1 ≥ z.f2 <;> simp [h0, h1, h2]
theorem over_impl (z : S55) (b : S41) : impl_HandZone_over.f z.f0 z.f1 z.f2 z.f3 z.f4 b.f0 b.f1 = some (overB z b) := by
  unfold impl_HandZone_over.f impl_within.f overB
  by_cases h0 : b.f0 ≥ z.f1 <;> by_cases h1 : b.f0 ≤ z.f3 <;> by_cases h2 : b.f1 ≥ z.f2 <;> simp [h0, h1, h2]
/-- The last zone over a box, among the first n. -/
def dueZ (zs : List S55) (b : S41) : Nat → Option ByteArray
  | 0 => none
  | n + 1 => if overB (rd_T55 zs (n : Int)) b = true then some (rd_T55 zs (n : Int)).f0 else dueZ zs b n
/-- The last name that is due, among the first n boxes. -/
def dueT (zs : List S55) (bs : List S41) (now : Int) : Nat → ByteArray
  | 0 => ⟨#[]⟩
  | n + 1 => if (rd_T41 bs (n : Int)).f4 > now then dueT zs bs now n else (dueZ zs (rd_T41 bs (n : Int)) zs.length).getD (dueT zs bs now n)
theorem due_spec (zs : List S55) (bs : List S41) (now : Int) (hz : zs.length ≤ 1048576) (hb : bs.length ≤ 1048576) : Ev (fun k => spec_LapDue.f k zs bs now) (dueT zs bs now bs.length) := by
  have inner : ∀ (i : Nat), i < bs.length → ∀ (acc r : ByteArray), Ev (fun k => spec_LapDue.l0 k zs bs now ((dueZ zs (rd_T41 bs (i : Int)) zs.length).getD acc) ((i : Int) + 1)) r →
      ∀ (d j : Nat), j + d = zs.length → Ev (fun k => spec_LapDue.l1 k zs bs now ((dueZ zs (rd_T41 bs (i : Int)) j).getD acc) i j) r := by
    intro i hi acc r hr d
    induction d with
    | zero =>
      intro j hj
      have e : j = zs.length := by omega
      subst e
      refine Ev.step (fun k => ?_) hr
      simp only [spec_LapDue.l1]
      rw [if_neg (by omega), w64 (by omega) (by omega)]
    | succ d ih =>
      intro j hj
      have := ih (j + 1) (by omega)
      rw [show (((j + 1 : Nat) : Int)) = (j : Int) + 1 by omega] at this
      refine Ev.step (fun k => ?_) this
      simp only [spec_LapDue.l1, over_spec, Option.bind_some, if_pos (show (j : Int) < (zs.length : Int) by omega), if_pos (show (0 : Int) ≤ j by omega), if_pos (show (0 : Int) ≤ i by omega), if_pos (show (i : Int) < (bs.length : Int) by omega), dueZ]
      rw [w64 (by omega) (by omega)]
      split <;> rfl
  have outer : ∀ (d i : Nat), i + d = bs.length → Ev (fun k => spec_LapDue.l0 k zs bs now (dueT zs bs now i) i) (dueT zs bs now bs.length) := by
    intro d
    induction d with
    | zero =>
      intro i hi
      have e : i = bs.length := by omega
      subst e
      refine Ev.step (fun k => ?_) (Ev.val _)
      simp only [spec_LapDue.l0]
      rw [if_neg (by omega)]
    | succ d ih =>
      intro i hi
      have h := ih (i + 1) (by omega)
      rw [show (((i + 1 : Nat) : Int)) = (i : Int) + 1 by omega] at h
      simp only [dueT] at h
      refine Ev.succ ?_
      simp only [spec_LapDue.l0]
      refine Ev.ite_pos (by omega) (Ev.ite_pos (by omega) ?_)
      by_cases hn : (rd_T41 bs (i : Int)).f4 > now
      · rw [if_pos hn] at h
        refine Ev.ite_pos hn ?_
        rw [w64 (by omega) (by omega)]
        exact h
      · rw [if_neg hn] at h
        refine Ev.ite_neg hn ?_
        exact inner i (by omega) _ _ h zs.length 0 (by omega)
  exact outer bs.length 0 (by omega)
theorem due_impl (zs : List S55) (bs : List S41) (now : Int) (hz : zs.length ≤ 1048576) (hb : bs.length ≤ 1048576) : Ev (fun k => impl_LapDue.f k zs bs now) (dueT zs bs now bs.length) := by
  have inner : ∀ (i : Nat), i < bs.length → ∀ (r : ByteArray), Ev (fun k => impl_LapDue.l0 k zs bs now ((i : Int) - 1)) r →
      ∀ (j : Nat), j ≤ zs.length → Ev (fun k => impl_LapDue.l1 k zs bs now i ((j : Int) - 1)) ((dueZ zs (rd_T41 bs (i : Int)) j).getD r) := by
    intro i hi r hr j
    induction j with
    | zero =>
      intro hj
      refine Ev.step (fun k => ?_) hr
      simp only [impl_LapDue.l1]
      rw [if_neg (by omega), w64 (by omega) (by omega)]
    | succ j ih =>
      intro hj
      have h := ih (by omega)
      rw [show (((j + 1 : Nat) : Int)) - 1 = (j : Int) by omega]
      refine Ev.succ ?_
      simp only [impl_LapDue.l1, over_impl, Option.bind_some, dueZ]
      refine Ev.ite_pos (by omega) (Ev.ite_pos (by omega) (Ev.ite_pos (by omega) (Ev.ite_pos (by omega) (Ev.ite_pos (by omega) ?_))))
      by_cases ho : overB (rd_T55 zs (j : Int)) (rd_T41 bs (i : Int)) = true
      · rw [if_pos ho]
        exact Ev.ite_pos ho (Ev.val _)
      · rw [if_neg ho]
        refine Ev.ite_neg ho ?_
        rw [w64 (by omega) (by omega)]
        exact h
  have outer : ∀ (i : Nat), i ≤ bs.length → Ev (fun k => impl_LapDue.l0 k zs bs now ((i : Int) - 1)) (dueT zs bs now i) := by
    intro i
    induction i with
    | zero =>
      intro hi
      refine Ev.step (fun k => ?_) (Ev.val _)
      simp only [impl_LapDue.l0, dueT]
      rw [if_neg (by omega)]
    | succ i ih =>
      intro hi
      have h := ih (by omega)
      rw [show (((i + 1 : Nat) : Int)) - 1 = (i : Int) by omega]
      refine Ev.succ ?_
      simp only [impl_LapDue.l0, dueT]
      refine Ev.ite_pos (by omega) (Ev.ite_pos (by omega) (Ev.ite_pos (by omega) ?_))
      by_cases hn : (rd_T41 bs (i : Int)).f4 > now
      · rw [if_pos hn]
        refine Ev.ite_pos hn ?_
        rw [w64 (by omega) (by omega)]
        exact h
      · rw [if_neg hn]
        refine Ev.ite_neg hn ?_
        rw [w64 (by omega) (by omega)]
        exact inner i (by omega) _ h zs.length (Nat.le_refl _)
  unfold impl_LapDue.f
  rw [w64 (by omega) (by omega)]
  exact outer bs.length (Nat.le_refl _)
theorem FnExactLapDue : Said := by
  intro zs bs now ⟨hz, hzs⟩ ⟨hb, _⟩ _
  refine Ev.rounds (r := true) ?_
  unfold laws_FnExactLapDue.f
  obtain ⟨r, hr, hle, hge, hlen⟩ := szHandZoneS_ev zs hz (fun x hx => (hzs x hx).1) 1048576 (by omega) (by omega)
  refine Ev.bind hr ?_
  by_cases hneg : r < 0
  · exact Ev.ite_pos hneg (Ev.val _)
  · refine Ev.ite_neg hneg ?_
    have hzl : zs.length ≤ 1048576 := by have := hlen (by omega); omega
    rw [szHandBoxS_eq bs hb r (by omega) (by omega)]
    simp only [Option.bind_some]
    by_cases h : (bs.length : Int) ≤ r
    · have hbl : bs.length ≤ 1048576 := by omega
      have m1 : (zs.map conv_toHandZoneS).length ≤ 1048576 := by rw [List.length_map]; exact hzl
      have m2 : (bs.map conv_toHandBoxS).length ≤ 1048576 := by rw [List.length_map]; exact hbl
      rw [if_pos h]
      refine Ev.ite_neg (by omega) (Ev.bind (toHandZoneS_ev zs hzl) (Ev.bind (toHandBoxS_ev bs hbl) (Ev.bind (due_spec _ _ now m1 m2) (Ev.bind (toHandZoneS_ev zs hzl) (Ev.bind (toHandBoxS_ev bs hbl) (Ev.bind (due_impl _ _ now m1 m2) (Ev.ite_pos rfl ?_)))))))
      exact Ev.bind (toHandZoneS_ev zs hzl) (Ev.bind (eqHandZoneS_ev _ m1) (Ev.ite_pos rfl (Ev.bind (toHandBoxS_ev bs hbl) (Ev.bind (eqHandBoxS_ev _ m2) (Ev.ite_pos rfl (Ev.val _))))))
    · rw [if_neg h]
      exact Ev.ite_pos (by omega) (Ev.val _)
end Go.Proofs.Ytbmplfpnhjhoiaa.Pure
