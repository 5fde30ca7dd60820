/- The walk of what the law FnExactFlyRest reaches: laid by a program of this session (ownprint.py). -/
import Derived.Test.YtbmplfpnhjhoiaaQFnExactFlyRestx0
namespace Go.Proofs.Ytbmplfpnhjhoiaa.QFnExactFlyRest
open Go.RowKit Go.Proofs.YtbmplfpnhjhoiaaW.PrintWords Go.Proofs.YtbmplfpnhjhoiaaW.PrintLast Go.Proofs.YtbmplfpnhjhoiaaW.PrintMore Go.Proofs.Ytbmplfpnhjhoiaa.Z
attribute [local go_sem] max2_int min2_int max_two min_two max_three min_three max_four min_four zdn   -- for this text's walks alone
set_option linter.unusedVariables false
set_option linter.unusedSimpArgs false
def laws_markFlyStepS.l0 : Nat → List (S132) → Int → Int → Option (Int × (List (S132)))
 | 0, _, _, _ => none
 | k + 1, x0, x1, x5 => if x5 < (x0.length : Int) then (if 0 ≤ x5 then ((some (x0.set (x5 : Int).toNat (⟨x1, (rd_T132 x0 x5).f1, (rd_T132 x0 x5).f2, (rd_T132 x0 x5).f3, (rd_T132 x0 x5).f4, (rd_T132 x0 x5).f5, (rd_T132 x0 x5).f6⟩ : S132) : List (S132))).bind fun y112 => ((some (y112.set (x5 : Int).toNat (⟨(rd_T132 y112 x5).f0, wrap64 (x1 + 1), (rd_T132 y112 x5).f2, (rd_T132 y112 x5).f3, (rd_T132 y112 x5).f4, (rd_T132 y112 x5).f5, (rd_T132 y112 x5).f6⟩ : S132) : List (S132))).bind fun y113 => ((some (y113.set (x5 : Int).toNat (⟨(rd_T132 y113 x5).f0, (rd_T132 y113 x5).f1, wrap64 ((wrap64 (x1 + 1)) + 1), (rd_T132 y113 x5).f3, (rd_T132 y113 x5).f4, (rd_T132 y113 x5).f5, (rd_T132 y113 x5).f6⟩ : S132) : List (S132))).bind fun y114 => ((some (y114.set (x5 : Int).toNat (⟨(rd_T132 y114 x5).f0, (rd_T132 y114 x5).f1, (rd_T132 y114 x5).f2, wrap64 ((wrap64 ((wrap64 (x1 + 1)) + 1)) + 1), (rd_T132 y114 x5).f4, (rd_T132 y114 x5).f5, (rd_T132 y114 x5).f6⟩ : S132) : List (S132))).bind fun y115 => ((some (y115.set (x5 : Int).toNat (⟨(rd_T132 y115 x5).f0, (rd_T132 y115 x5).f1, (rd_T132 y115 x5).f2, (rd_T132 y115 x5).f3, wrap64 ((wrap64 ((wrap64 ((wrap64 (x1 + 1)) + 1)) + 1)) + 1), (rd_T132 y115 x5).f5, (rd_T132 y115 x5).f6⟩ : S132) : List (S132))).bind fun y116 => ((some (y116.set (x5 : Int).toNat (⟨(rd_T132 y116 x5).f0, (rd_T132 y116 x5).f1, (rd_T132 y116 x5).f2, (rd_T132 y116 x5).f3, (rd_T132 y116 x5).f4, wrap64 ((wrap64 ((wrap64 ((wrap64 ((wrap64 (x1 + 1)) + 1)) + 1)) + 1)) + 1), (rd_T132 y116 x5).f6⟩ : S132) : List (S132))).bind fun y117 => (laws_markFlyStepS.l0 k (y117.set (x5 : Int).toNat (⟨(rd_T132 y117 x5).f0, (rd_T132 y117 x5).f1, (rd_T132 y117 x5).f2, (rd_T132 y117 x5).f3, (rd_T132 y117 x5).f4, (rd_T132 y117 x5).f5, ((Int.tmod (wrap64 ((wrap64 ((wrap64 ((wrap64 ((wrap64 ((wrap64 (x1 + 1)) + 1)) + 1)) + 1)) + 1)) + 1)) 3) == 0)⟩ : S132)) (wrap64 ((wrap64 ((wrap64 ((wrap64 ((wrap64 ((wrap64 ((wrap64 (x1 + 1)) + 1)) + 1)) + 1)) + 1)) + 1)) + 1)) (wrap64 (x5 + 1))))))))) else (none)) else (some (x1, x0))
def laws_markFlyStepS.f (k : Nat) (l0 : List (S132)) (a1 : Int) : Option (Int × (List (S132))) := laws_markFlyStepS.l0 k l0 a1 0
set_option maxHeartbeats 8000000 in
set_option maxRecDepth 100000 in
theorem laws_markFlyStepS.calls (k : Nat) (P0_ : Nat → Prop) (u9000_ : Value) (l0 : List (S132)) (a1 : Int) (r1 : Int) (r2 : List (S132)) (w0 w : World) (hB : Below w0.heap.size w0 w) (ho0 : Kd.R k132 132 w w0.heap.size P0_ u9000_ l0) (h : laws_markFlyStepS.f k l0 a1 = some (r1, r2)) :
 Calls Try.prog 101 #[u9000_, .int .i64 a1] w fun e w' => e = .returned (.int .i64 r1) ∧ Kd.R k132 132 w' w0.heap.size (fun k_ => (P0_ k_ ∨ w.heap.size ≤ k_)) u9000_ r2 ∧ Below w0.heap.size w0 w' ∧ Kept w w' (fun k_ => P0_ k_) := by
 have HO0 := zA (show Kd.R k132 132 w w0.heap.size (fun k_ => (P0_ k_ ∨ w.heap.size ≤ k_)) u9000_ l0 from Kd.R_mono ho0 (fun k_ hk => (.inl hk)))
 have HK := zA (Kept.refl w (fun k_ => P0_ k_))
 have HW0 := zA hB.size
 have HB := zA hB
 clear hB
 have H : (laws_markFlyStepS.l0 k l0 a1 0) = some (r1, r2) := h
 clear h
 have H' := zA H
 clear H
 go_enter Try.func101, Try.ntmps101
 go_wp2
 go_loopg [1, 5] k (fun kq v1 v5 w' => ∃ (x0_1 : List (S132)) (x1_1 : Int) (x5_1 : Int), v1 = .int .i64 x1_1 ∧ v5 = .int .i64 x5_1 ∧ Aside0 (laws_markFlyStepS.l0 kq x0_1 x1_1 x5_1 = some (r1, r2)) ∧ Aside0 (kq ≤ k) ∧ Aside0 (Kd.R k132 132 w' w0.heap.size (fun k_ => (P0_ k_ ∨ w.heap.size ≤ k_)) u9000_ x0_1) ∧ Aside0 (Kept w w' (fun k_ => P0_ k_)) ∧ Aside0 (Below w0.heap.size w0 w'))
 case atStart => exact ⟨(l0), (a1), (0), zi, zi, H', ⟨Nat.le_refl _⟩, ⟨zr HO0⟩, ⟨by repeat (first | (with_reducible first | exact HK.out | apply Kept.alloc | apply Kept.drewN | apply Kept.drew) | exact HK.out)⟩, ⟨zs0 HB⟩⟩
 case round =>
  clear H'
  try clear c1
  try clear p2
  obtain ⟨x0_1, x1_1, x5_1, rfl, rfl, HA, HK1, HO_0, HK, HB⟩ := hrel
  cases gk with
  | zero => exact absurd HA.out (by simp [laws_markFlyStepS.l0])
  | succ k1 =>
   have H := HA.out
   clear HA
   simp only [laws_markFlyStepS.l0] at H
   by_cases c3 : x5_1 < (x0_1.length : Int)
   rotate_left
   ·rw [if_neg c3] at H
    have c3b0 : decide (x5_1 < (x0_1.length : Int)) = false := decide_eq_false c3
    clear c3
    simp only [Option.some.injEq, Prod.mk.injEq] at H
    obtain ⟨rfl, rfl⟩ := H
    obtain ⟨Ao27, co27, eo27⟩ := Kd.R_slice HO_0.out
    subst eo27
    go_wp2
    go_ret
    exact ⟨ze, zr HO_0, zs0 HB, by repeat (first | (with_reducible first | exact HK.out | apply Kept.alloc | apply Kept.drewN | apply Kept.drew) | exact HK.out)⟩
   rw [if_pos c3] at H
   have c3b0 : decide (x5_1 < (x0_1.length : Int)) = true := decide_eq_true c3
   clear c3
   by_cases c4 : 0 ≤ x5_1
   rotate_left
   ·rw [if_neg c4] at H
    exact absurd H (by simp)
   rw [if_pos c4] at H
   have c4b0 : decide (0 ≤ x5_1) = true := decide_eq_true c4
   clear c4
   obtain ⟨y112, hy112⟩ : ∃ y_ : List (S132), y_ = (x0_1.set (x5_1 : Int).toNat (⟨x1_1, (rd_T132 x0_1 x5_1).f1, (rd_T132 x0_1 x5_1).f2, (rd_T132 x0_1 x5_1).f3, (rd_T132 x0_1 x5_1).f4, (rd_T132 x0_1 x5_1).f5, (rd_T132 x0_1 x5_1).f6⟩ : S132)) := ⟨_, rfl⟩
   replace H : ((some (y112.set (x5_1 : Int).toNat (⟨(rd_T132 y112 x5_1).f0, wrap64 (x1_1 + 1), (rd_T132 y112 x5_1).f2, (rd_T132 y112 x5_1).f3, (rd_T132 y112 x5_1).f4, (rd_T132 y112 x5_1).f5, (rd_T132 y112 x5_1).f6⟩ : S132) : List (S132))).bind fun y113 => ((some (y113.set (x5_1 : Int).toNat (⟨(rd_T132 y113 x5_1).f0, (rd_T132 y113 x5_1).f1, wrap64 ((wrap64 (x1_1 + 1)) + 1), (rd_T132 y113 x5_1).f3, (rd_T132 y113 x5_1).f4, (rd_T132 y113 x5_1).f5, (rd_T132 y113 x5_1).f6⟩ : S132) : List (S132))).bind fun y114 => ((some (y114.set (x5_1 : Int).toNat (⟨(rd_T132 y114 x5_1).f0, (rd_T132 y114 x5_1).f1, (rd_T132 y114 x5_1).f2, wrap64 ((wrap64 ((wrap64 (x1_1 + 1)) + 1)) + 1), (rd_T132 y114 x5_1).f4, (rd_T132 y114 x5_1).f5, (rd_T132 y114 x5_1).f6⟩ : S132) : List (S132))).bind fun y115 => ((some (y115.set (x5_1 : Int).toNat (⟨(rd_T132 y115 x5_1).f0, (rd_T132 y115 x5_1).f1, (rd_T132 y115 x5_1).f2, (rd_T132 y115 x5_1).f3, wrap64 ((wrap64 ((wrap64 ((wrap64 (x1_1 + 1)) + 1)) + 1)) + 1), (rd_T132 y115 x5_1).f5, (rd_T132 y115 x5_1).f6⟩ : S132) : List (S132))).bind fun y116 => ((some (y116.set (x5_1 : Int).toNat (⟨(rd_T132 y116 x5_1).f0, (rd_T132 y116 x5_1).f1, (rd_T132 y116 x5_1).f2, (rd_T132 y116 x5_1).f3, (rd_T132 y116 x5_1).f4, wrap64 ((wrap64 ((wrap64 ((wrap64 ((wrap64 (x1_1 + 1)) + 1)) + 1)) + 1)) + 1), (rd_T132 y116 x5_1).f6⟩ : S132) : List (S132))).bind fun y117 => (laws_markFlyStepS.l0 k1 (y117.set (x5_1 : Int).toNat (⟨(rd_T132 y117 x5_1).f0, (rd_T132 y117 x5_1).f1, (rd_T132 y117 x5_1).f2, (rd_T132 y117 x5_1).f3, (rd_T132 y117 x5_1).f4, (rd_T132 y117 x5_1).f5, ((Int.tmod (wrap64 ((wrap64 ((wrap64 ((wrap64 ((wrap64 ((wrap64 (x1_1 + 1)) + 1)) + 1)) + 1)) + 1)) + 1)) 3) == 0)⟩ : S132)) (wrap64 ((wrap64 ((wrap64 ((wrap64 ((wrap64 ((wrap64 ((wrap64 (x1_1 + 1)) + 1)) + 1)) + 1)) + 1)) + 1)) + 1)) (wrap64 (x5_1 + 1)))))))) = some (r1, r2) := by first | (rw [hy112]; with_reducible exact H) | (have H2_ := (Option.bind_some _ _).symm.trans H; rw [hy112]; with_reducible exact H2_) | (have H2_ := (Option.bind_some _ _).symm.trans H; with_reducible exact H2_) | with_reducible exact H | (rw [hy112]; exact H) | exact H
   have Ny112 := zA hy112
   clear hy112
   obtain ⟨y113, hy113⟩ : ∃ y_ : List (S132), y_ = (y112.set (x5_1 : Int).toNat (⟨(rd_T132 y112 x5_1).f0, wrap64 (x1_1 + 1), (rd_T132 y112 x5_1).f2, (rd_T132 y112 x5_1).f3, (rd_T132 y112 x5_1).f4, (rd_T132 y112 x5_1).f5, (rd_T132 y112 x5_1).f6⟩ : S132)) := ⟨_, rfl⟩
   replace H : ((some (y113.set (x5_1 : Int).toNat (⟨(rd_T132 y113 x5_1).f0, (rd_T132 y113 x5_1).f1, wrap64 ((wrap64 (x1_1 + 1)) + 1), (rd_T132 y113 x5_1).f3, (rd_T132 y113 x5_1).f4, (rd_T132 y113 x5_1).f5, (rd_T132 y113 x5_1).f6⟩ : S132) : List (S132))).bind fun y114 => ((some (y114.set (x5_1 : Int).toNat (⟨(rd_T132 y114 x5_1).f0, (rd_T132 y114 x5_1).f1, (rd_T132 y114 x5_1).f2, wrap64 ((wrap64 ((wrap64 (x1_1 + 1)) + 1)) + 1), (rd_T132 y114 x5_1).f4, (rd_T132 y114 x5_1).f5, (rd_T132 y114 x5_1).f6⟩ : S132) : List (S132))).bind fun y115 => ((some (y115.set (x5_1 : Int).toNat (⟨(rd_T132 y115 x5_1).f0, (rd_T132 y115 x5_1).f1, (rd_T132 y115 x5_1).f2, (rd_T132 y115 x5_1).f3, wrap64 ((wrap64 ((wrap64 ((wrap64 (x1_1 + 1)) + 1)) + 1)) + 1), (rd_T132 y115 x5_1).f5, (rd_T132 y115 x5_1).f6⟩ : S132) : List (S132))).bind fun y116 => ((some (y116.set (x5_1 : Int).toNat (⟨(rd_T132 y116 x5_1).f0, (rd_T132 y116 x5_1).f1, (rd_T132 y116 x5_1).f2, (rd_T132 y116 x5_1).f3, (rd_T132 y116 x5_1).f4, wrap64 ((wrap64 ((wrap64 ((wrap64 ((wrap64 (x1_1 + 1)) + 1)) + 1)) + 1)) + 1), (rd_T132 y116 x5_1).f6⟩ : S132) : List (S132))).bind fun y117 => (laws_markFlyStepS.l0 k1 (y117.set (x5_1 : Int).toNat (⟨(rd_T132 y117 x5_1).f0, (rd_T132 y117 x5_1).f1, (rd_T132 y117 x5_1).f2, (rd_T132 y117 x5_1).f3, (rd_T132 y117 x5_1).f4, (rd_T132 y117 x5_1).f5, ((Int.tmod (wrap64 ((wrap64 ((wrap64 ((wrap64 ((wrap64 ((wrap64 (x1_1 + 1)) + 1)) + 1)) + 1)) + 1)) + 1)) 3) == 0)⟩ : S132)) (wrap64 ((wrap64 ((wrap64 ((wrap64 ((wrap64 ((wrap64 ((wrap64 (x1_1 + 1)) + 1)) + 1)) + 1)) + 1)) + 1)) + 1)) (wrap64 (x5_1 + 1))))))) = some (r1, r2) := by first | (rw [hy113]; with_reducible exact H) | (have H2_ := (Option.bind_some _ _).symm.trans H; rw [hy113]; with_reducible exact H2_) | (have H2_ := (Option.bind_some _ _).symm.trans H; with_reducible exact H2_) | with_reducible exact H | (rw [hy113]; exact H) | exact H
   have Ny113 := zA hy113
   clear hy113
   obtain ⟨y114, hy114⟩ : ∃ y_ : List (S132), y_ = (y113.set (x5_1 : Int).toNat (⟨(rd_T132 y113 x5_1).f0, (rd_T132 y113 x5_1).f1, wrap64 ((wrap64 (x1_1 + 1)) + 1), (rd_T132 y113 x5_1).f3, (rd_T132 y113 x5_1).f4, (rd_T132 y113 x5_1).f5, (rd_T132 y113 x5_1).f6⟩ : S132)) := ⟨_, rfl⟩
   replace H : ((some (y114.set (x5_1 : Int).toNat (⟨(rd_T132 y114 x5_1).f0, (rd_T132 y114 x5_1).f1, (rd_T132 y114 x5_1).f2, wrap64 ((wrap64 ((wrap64 (x1_1 + 1)) + 1)) + 1), (rd_T132 y114 x5_1).f4, (rd_T132 y114 x5_1).f5, (rd_T132 y114 x5_1).f6⟩ : S132) : List (S132))).bind fun y115 => ((some (y115.set (x5_1 : Int).toNat (⟨(rd_T132 y115 x5_1).f0, (rd_T132 y115 x5_1).f1, (rd_T132 y115 x5_1).f2, (rd_T132 y115 x5_1).f3, wrap64 ((wrap64 ((wrap64 ((wrap64 (x1_1 + 1)) + 1)) + 1)) + 1), (rd_T132 y115 x5_1).f5, (rd_T132 y115 x5_1).f6⟩ : S132) : List (S132))).bind fun y116 => ((some (y116.set (x5_1 : Int).toNat (⟨(rd_T132 y116 x5_1).f0, (rd_T132 y116 x5_1).f1, (rd_T132 y116 x5_1).f2, (rd_T132 y116 x5_1).f3, (rd_T132 y116 x5_1).f4, wrap64 ((wrap64 ((wrap64 ((wrap64 ((wrap64 (x1_1 + 1)) + 1)) + 1)) + 1)) + 1), (rd_T132 y116 x5_1).f6⟩ : S132) : List (S132))).bind fun y117 => (laws_markFlyStepS.l0 k1 (y117.set (x5_1 : Int).toNat (⟨(rd_T132 y117 x5_1).f0, (rd_T132 y117 x5_1).f1, (rd_T132 y117 x5_1).f2, (rd_T132 y117 x5_1).f3, (rd_T132 y117 x5_1).f4, (rd_T132 y117 x5_1).f5, ((Int.tmod (wrap64 ((wrap64 ((wrap64 ((wrap64 ((wrap64 ((wrap64 (x1_1 + 1)) + 1)) + 1)) + 1)) + 1)) + 1)) 3) == 0)⟩ : S132)) (wrap64 ((wrap64 ((wrap64 ((wrap64 ((wrap64 ((wrap64 ((wrap64 (x1_1 + 1)) + 1)) + 1)) + 1)) + 1)) + 1)) + 1)) (wrap64 (x5_1 + 1)))))) = some (r1, r2) := by first | (rw [hy114]; with_reducible exact H) | (have H2_ := (Option.bind_some _ _).symm.trans H; rw [hy114]; with_reducible exact H2_) | (have H2_ := (Option.bind_some _ _).symm.trans H; with_reducible exact H2_) | with_reducible exact H | (rw [hy114]; exact H) | exact H
   have Ny114 := zA hy114
   clear hy114
   obtain ⟨y115, hy115⟩ : ∃ y_ : List (S132), y_ = (y114.set (x5_1 : Int).toNat (⟨(rd_T132 y114 x5_1).f0, (rd_T132 y114 x5_1).f1, (rd_T132 y114 x5_1).f2, wrap64 ((wrap64 ((wrap64 (x1_1 + 1)) + 1)) + 1), (rd_T132 y114 x5_1).f4, (rd_T132 y114 x5_1).f5, (rd_T132 y114 x5_1).f6⟩ : S132)) := ⟨_, rfl⟩
   replace H : ((some (y115.set (x5_1 : Int).toNat (⟨(rd_T132 y115 x5_1).f0, (rd_T132 y115 x5_1).f1, (rd_T132 y115 x5_1).f2, (rd_T132 y115 x5_1).f3, wrap64 ((wrap64 ((wrap64 ((wrap64 (x1_1 + 1)) + 1)) + 1)) + 1), (rd_T132 y115 x5_1).f5, (rd_T132 y115 x5_1).f6⟩ : S132) : List (S132))).bind fun y116 => ((some (y116.set (x5_1 : Int).toNat (⟨(rd_T132 y116 x5_1).f0, (rd_T132 y116 x5_1).f1, (rd_T132 y116 x5_1).f2, (rd_T132 y116 x5_1).f3, (rd_T132 y116 x5_1).f4, wrap64 ((wrap64 ((wrap64 ((wrap64 ((wrap64 (x1_1 + 1)) + 1)) + 1)) + 1)) + 1), (rd_T132 y116 x5_1).f6⟩ : S132) : List (S132))).bind fun y117 => (laws_markFlyStepS.l0 k1 (y117.set (x5_1 : Int).toNat (⟨(rd_T132 y117 x5_1).f0, (rd_T132 y117 x5_1).f1, (rd_T132 y117 x5_1).f2, (rd_T132 y117 x5_1).f3, (rd_T132 y117 x5_1).f4, (rd_T132 y117 x5_1).f5, ((Int.tmod (wrap64 ((wrap64 ((wrap64 ((wrap64 ((wrap64 ((wrap64 (x1_1 + 1)) + 1)) + 1)) + 1)) + 1)) + 1)) 3) == 0)⟩ : S132)) (wrap64 ((wrap64 ((wrap64 ((wrap64 ((wrap64 ((wrap64 ((wrap64 (x1_1 + 1)) + 1)) + 1)) + 1)) + 1)) + 1)) + 1)) (wrap64 (x5_1 + 1))))) = some (r1, r2) := by first | (rw [hy115]; with_reducible exact H) | (have H2_ := (Option.bind_some _ _).symm.trans H; rw [hy115]; with_reducible exact H2_) | (have H2_ := (Option.bind_some _ _).symm.trans H; with_reducible exact H2_) | with_reducible exact H | (rw [hy115]; exact H) | exact H
   have Ny115 := zA hy115
   clear hy115
   obtain ⟨y116, hy116⟩ : ∃ y_ : List (S132), y_ = (y115.set (x5_1 : Int).toNat (⟨(rd_T132 y115 x5_1).f0, (rd_T132 y115 x5_1).f1, (rd_T132 y115 x5_1).f2, (rd_T132 y115 x5_1).f3, wrap64 ((wrap64 ((wrap64 ((wrap64 (x1_1 + 1)) + 1)) + 1)) + 1), (rd_T132 y115 x5_1).f5, (rd_T132 y115 x5_1).f6⟩ : S132)) := ⟨_, rfl⟩
   replace H : ((some (y116.set (x5_1 : Int).toNat (⟨(rd_T132 y116 x5_1).f0, (rd_T132 y116 x5_1).f1, (rd_T132 y116 x5_1).f2, (rd_T132 y116 x5_1).f3, (rd_T132 y116 x5_1).f4, wrap64 ((wrap64 ((wrap64 ((wrap64 ((wrap64 (x1_1 + 1)) + 1)) + 1)) + 1)) + 1), (rd_T132 y116 x5_1).f6⟩ : S132) : List (S132))).bind fun y117 => (laws_markFlyStepS.l0 k1 (y117.set (x5_1 : Int).toNat (⟨(rd_T132 y117 x5_1).f0, (rd_T132 y117 x5_1).f1, (rd_T132 y117 x5_1).f2, (rd_T132 y117 x5_1).f3, (rd_T132 y117 x5_1).f4, (rd_T132 y117 x5_1).f5, ((Int.tmod (wrap64 ((wrap64 ((wrap64 ((wrap64 ((wrap64 ((wrap64 (x1_1 + 1)) + 1)) + 1)) + 1)) + 1)) + 1)) 3) == 0)⟩ : S132)) (wrap64 ((wrap64 ((wrap64 ((wrap64 ((wrap64 ((wrap64 ((wrap64 (x1_1 + 1)) + 1)) + 1)) + 1)) + 1)) + 1)) + 1)) (wrap64 (x5_1 + 1)))) = some (r1, r2) := by first | (rw [hy116]; with_reducible exact H) | (have H2_ := (Option.bind_some _ _).symm.trans H; rw [hy116]; with_reducible exact H2_) | (have H2_ := (Option.bind_some _ _).symm.trans H; with_reducible exact H2_) | with_reducible exact H | (rw [hy116]; exact H) | exact H
   have Ny116 := zA hy116
   clear hy116
   obtain ⟨y117, hy117⟩ : ∃ y_ : List (S132), y_ = (y116.set (x5_1 : Int).toNat (⟨(rd_T132 y116 x5_1).f0, (rd_T132 y116 x5_1).f1, (rd_T132 y116 x5_1).f2, (rd_T132 y116 x5_1).f3, (rd_T132 y116 x5_1).f4, wrap64 ((wrap64 ((wrap64 ((wrap64 ((wrap64 (x1_1 + 1)) + 1)) + 1)) + 1)) + 1), (rd_T132 y116 x5_1).f6⟩ : S132)) := ⟨_, rfl⟩
   replace H : (laws_markFlyStepS.l0 k1 (y117.set (x5_1 : Int).toNat (⟨(rd_T132 y117 x5_1).f0, (rd_T132 y117 x5_1).f1, (rd_T132 y117 x5_1).f2, (rd_T132 y117 x5_1).f3, (rd_T132 y117 x5_1).f4, (rd_T132 y117 x5_1).f5, ((Int.tmod (wrap64 ((wrap64 ((wrap64 ((wrap64 ((wrap64 ((wrap64 (x1_1 + 1)) + 1)) + 1)) + 1)) + 1)) + 1)) 3) == 0)⟩ : S132)) (wrap64 ((wrap64 ((wrap64 ((wrap64 ((wrap64 ((wrap64 ((wrap64 (x1_1 + 1)) + 1)) + 1)) + 1)) + 1)) + 1)) + 1)) (wrap64 (x5_1 + 1))) = some (r1, r2) := by first | (rw [hy117]; with_reducible exact H) | (have H2_ := (Option.bind_some _ _).symm.trans H; rw [hy117]; with_reducible exact H2_) | (have H2_ := (Option.bind_some _ _).symm.trans H; with_reducible exact H2_) | with_reducible exact H | (rw [hy117]; exact H) | exact H
   have Ny117 := zA hy117
   clear hy117
   obtain ⟨y118, hy118⟩ : ∃ y_ : List (S132), y_ = (y117.set (x5_1 : Int).toNat (⟨(rd_T132 y117 x5_1).f0, (rd_T132 y117 x5_1).f1, (rd_T132 y117 x5_1).f2, (rd_T132 y117 x5_1).f3, (rd_T132 y117 x5_1).f4, (rd_T132 y117 x5_1).f5, ((Int.tmod (wrap64 ((wrap64 ((wrap64 ((wrap64 ((wrap64 ((wrap64 (x1_1 + 1)) + 1)) + 1)) + 1)) + 1)) + 1)) 3) == 0)⟩ : S132)) := ⟨_, rfl⟩
   replace H : (laws_markFlyStepS.l0 k1 y118 (wrap64 ((wrap64 ((wrap64 ((wrap64 ((wrap64 ((wrap64 ((wrap64 (x1_1 + 1)) + 1)) + 1)) + 1)) + 1)) + 1)) + 1)) (wrap64 (x5_1 + 1))) = some (r1, r2) := by first | (rw [hy118]; with_reducible exact H) | (have H2_ := (Option.bind_some _ _).symm.trans H; rw [hy118]; with_reducible exact H2_) | (have H2_ := (Option.bind_some _ _).symm.trans H; with_reducible exact H2_) | with_reducible exact H | (rw [hy118]; exact H) | exact H
   have Ny118 := zA hy118
   clear hy118
   have H' := zA H
   clear H
   obtain ⟨Ao12, co12, eo12⟩ := Kd.R_slice HO_0.out
   subst eo12
   have p5 : 0 ≤ (x5_1 : Int) := za
   have q5 : (x5_1 : Int) < ((x0_1.length : Int) : Int) := za
   obtain ⟨go5, co5, eo5, gb5, gl5, cl5, HG5⟩ := Kd.R_form HO_0.out (by omega)
   (first | cases eo5 | (injection eo5 with ea_ en_ ec_; (first | subst ea_ | (injection ea_ with ea_; subst ea_)); subst ec_; clear en_))
   have GB5 := zA gb5
   have GG5 := zA HG5
   clear gb5 gl5 HG5
   have HMgo5 := zA (show (P0_ go5 ∨ w.heap.size ≤ go5) from (HO_0.out.1 _ rfl))
   obtain ⟨ce5, hcl5, hM5, hcc5, hfr5⟩ := Kd.R_elem HO_0.out z132 (x5_1 : Int) p5 q5
   obtain rfl := k132_openM hM5
   have hx5_0 : wr.cell? ⟨go5, (x5_1 : Int).toNat * 7, none⟩ = some (.int .i64 ((rd_T132 x0_1 x5_1).f0)) := hcc5 0 _ rfl
   have hx5_1 : wr.cell? ⟨go5, (x5_1 : Int).toNat * 7 + 1, none⟩ = some (.int .i64 ((rd_T132 x0_1 x5_1).f1)) := hcc5 1 _ rfl
   have hx5_2 : wr.cell? ⟨go5, (x5_1 : Int).toNat * 7 + 2, none⟩ = some (.int .i64 ((rd_T132 x0_1 x5_1).f2)) := hcc5 2 _ rfl
   have hx5_3 : wr.cell? ⟨go5, (x5_1 : Int).toNat * 7 + 3, none⟩ = some (.int .i64 ((rd_T132 x0_1 x5_1).f3)) := hcc5 3 _ rfl
   have hx5_4 : wr.cell? ⟨go5, (x5_1 : Int).toNat * 7 + 4, none⟩ = some (.int .i64 ((rd_T132 x0_1 x5_1).f4)) := hcc5 4 _ rfl
   have hx5_5 : wr.cell? ⟨go5, (x5_1 : Int).toNat * 7 + 5, none⟩ = some (.int .i64 ((rd_T132 x0_1 x5_1).f5)) := hcc5 5 _ rfl
   have hx5_6 : wr.cell? ⟨go5, (x5_1 : Int).toNat * 7 + 6, none⟩ = some (.bool ((rd_T132 x0_1 x5_1).f6)) := hcc5 6 _ rfl
   have hf5_0 : wr.frozen? ⟨go5, (x5_1 : Int).toNat * 7, none⟩ = false := hfr5 0
   have hf5_1 : wr.frozen? ⟨go5, (x5_1 : Int).toNat * 7 + 1, none⟩ = false := hfr5 1
   have hf5_2 : wr.frozen? ⟨go5, (x5_1 : Int).toNat * 7 + 2, none⟩ = false := hfr5 2
   have hf5_3 : wr.frozen? ⟨go5, (x5_1 : Int).toNat * 7 + 3, none⟩ = false := hfr5 3
   have hf5_4 : wr.frozen? ⟨go5, (x5_1 : Int).toNat * 7 + 4, none⟩ = false := hfr5 4
   have hf5_5 : wr.frozen? ⟨go5, (x5_1 : Int).toNat * 7 + 5, none⟩ = false := hfr5 5
   have hf5_6 : wr.frozen? ⟨go5, (x5_1 : Int).toNat * 7 + 6, none⟩ = false := hfr5 6
   clear hcl5 hcc5 hfr5 hM5
   replace p5 := eq_true p5
   replace q5 := eq_true q5
   have HX13 := zA (show Kd.R k132 132 wr w0.heap.size (fun k_ => (P0_ k_ ∨ w.heap.size ≤ k_)) (.slice (some ⟨go5, 0, none⟩) x0_1.length co12) x0_1 from (zr HO_0))
   obtain ⟨ce13, hcl13, hM13, hcc13, hfr13⟩ := Kd.R_elem HX13.out z132 (x5_1 : Int) (za) (by have h_ : (x5_1 : Int) < ((x0_1.length : Int) : Int) := za; first | exact h_ | (have e_ := (Kd.R_reads' HO_0.out).1; omega) | simpa using h_)
   obtain rfl := k132_openM hM13
   have HP13 := Kd.R_seg HX13.out (x5_1 : Int) (za) (by have h_ : (x5_1 : Int) < ((x0_1.length : Int) : Int) := za; first | exact h_ | (have e_ := (Kd.R_reads' HO_0.out).1; omega) | simpa using h_) (seg := [.int .i64 x1_1]) (j := 0) hcl13 hcc13 (show 1 ≤ 7 from by decide) (x' := (⟨x1_1, (rd_T132 x0_1 x5_1).f1, (rd_T132 x0_1 x5_1).f2, (rd_T132 x0_1 x5_1).f3, (rd_T132 x0_1 x5_1).f4, (rd_T132 x0_1 x5_1).f5, (rd_T132 x0_1 x5_1).f6⟩ : S132)) (k132_mkM _ _ _ (⟨x1_1, (rd_T132 x0_1 x5_1).f1, (rd_T132 x0_1 x5_1).f2, (rd_T132 x0_1 x5_1).f3, (rd_T132 x0_1 x5_1).f4, (rd_T132 x0_1 x5_1).f5, (rd_T132 x0_1 x5_1).f6⟩ : S132) ) (fun _ hk => hk)
   have hx13_0 := hcc13 0 _ rfl
   (try simp only [show (k132).sz = 7 from rfl, Nat.mul_one, Nat.add_zero] at hx13_0)
   have hf13_0 := hfr13 0
   (try simp only [show (k132).sz = 7 from rfl, Nat.mul_one, Nat.add_zero] at hf13_0)
   clear hcl13 hcc13 hfr13 hM13
   go_wp2_with (first | ((with_reducible refine gate_store (t := 3) (p := 16) rfl ?_); refine store_event (t := 3) (p := 16) (v := ?vo_w14) (w1 := (wr.setCell ⟨go5, (x5_1 : Int).toNat * 7, none⟩ (.int .i64 x1_1))) ?hg ?ho ?hn ?hr ?_; (case ho => rfl); (case hg => rfl); (case hn => rfl); (case hr => first | (go_simp; done) | (go_simp; rfl)); intro w14 hw; have hg : wr.grownBy w14 (some go5) := (by rw [hw]; exact HP13.2); have hp_ : Kd.R k132 132 w14 w0.heap.size (fun k_ => (P0_ k_ ∨ w.heap.size ≤ k_)) (.slice (some ⟨go5, 0, none⟩) x0_1.length co12) y112 := (by rw [hw, Ny112.out]; exact HP13.1); clear HP13; replace HB := zA ((by rw [hw]; exact below_set (HB.out) GB5.out : Below w0.heap.size w0 w14)); replace HK := zA (Kept.of_grown (S := (fun k_ => P0_ k_)) hg (by repeat (first | (with_reducible first | exact HK.out | apply Kept.alloc | apply Kept.drewN | apply Kept.drew) | exact HK.out)) (fun k_ e_ => (HO_0.out.1 k_ e_))); replace HO_0 := zA (hp_); clear hg hw hp_; have p6 : 0 ≤ (x5_1 : Int) := za; have q6 : (x5_1 : Int) < ((x0_1.length : Int) : Int) := za; obtain ⟨ce6, hcl6, hM6, hcc6, hfr6⟩ := Kd.R_elem HO_0.out z132 (x5_1 : Int) p6 q6; obtain rfl := k132_openM hM6; have hx6_0 : w14.cell? ⟨go5, (x5_1 : Int).toNat * 7, none⟩ = some (.int .i64 ((rd_T132 y112 x5_1).f0)) := hcc6 0 _ rfl; have hx6_1 : w14.cell? ⟨go5, (x5_1 : Int).toNat * 7 + 1, none⟩ = some (.int .i64 ((rd_T132 y112 x5_1).f1)) := hcc6 1 _ rfl; have hx6_2 : w14.cell? ⟨go5, (x5_1 : Int).toNat * 7 + 2, none⟩ = some (.int .i64 ((rd_T132 y112 x5_1).f2)) := hcc6 2 _ rfl; have hx6_3 : w14.cell? ⟨go5, (x5_1 : Int).toNat * 7 + 3, none⟩ = some (.int .i64 ((rd_T132 y112 x5_1).f3)) := hcc6 3 _ rfl; have hx6_4 : w14.cell? ⟨go5, (x5_1 : Int).toNat * 7 + 4, none⟩ = some (.int .i64 ((rd_T132 y112 x5_1).f4)) := hcc6 4 _ rfl; have hx6_5 : w14.cell? ⟨go5, (x5_1 : Int).toNat * 7 + 5, none⟩ = some (.int .i64 ((rd_T132 y112 x5_1).f5)) := hcc6 5 _ rfl; have hx6_6 : w14.cell? ⟨go5, (x5_1 : Int).toNat * 7 + 6, none⟩ = some (.bool ((rd_T132 y112 x5_1).f6)) := hcc6 6 _ rfl; have hf6_0 : w14.frozen? ⟨go5, (x5_1 : Int).toNat * 7, none⟩ = false := hfr6 0; have hf6_1 : w14.frozen? ⟨go5, (x5_1 : Int).toNat * 7 + 1, none⟩ = false := hfr6 1; have hf6_2 : w14.frozen? ⟨go5, (x5_1 : Int).toNat * 7 + 2, none⟩ = false := hfr6 2; have hf6_3 : w14.frozen? ⟨go5, (x5_1 : Int).toNat * 7 + 3, none⟩ = false := hfr6 3; have hf6_4 : w14.frozen? ⟨go5, (x5_1 : Int).toNat * 7 + 4, none⟩ = false := hfr6 4; have hf6_5 : w14.frozen? ⟨go5, (x5_1 : Int).toNat * 7 + 5, none⟩ = false := hfr6 5; have hf6_6 : w14.frozen? ⟨go5, (x5_1 : Int).toNat * 7 + 6, none⟩ = false := hfr6 6; clear hcl6 hcc6 hfr6 hM6; replace p6 := eq_true p6; replace q6 := eq_true q6; have HX15 := zA (show Kd.R k132 132 w14 w0.heap.size (fun k_ => (P0_ k_ ∨ w.heap.size ≤ k_)) (.slice (some ⟨go5, 0, none⟩) x0_1.length co12) y112 from (zr HO_0)); obtain ⟨ce15, hcl15, hM15, hcc15, hfr15⟩ := Kd.R_elem HX15.out z132 (x5_1 : Int) (za) (by have h_ : (x5_1 : Int) < ((x0_1.length : Int) : Int) := za; first | exact h_ | (have e_ := (Kd.R_reads' HO_0.out).1; omega) | simpa using h_); obtain rfl := k132_openM hM15; have HP15 := Kd.R_seg HX15.out (x5_1 : Int) (za) (by have h_ : (x5_1 : Int) < ((x0_1.length : Int) : Int) := za; first | exact h_ | (have e_ := (Kd.R_reads' HO_0.out).1; omega) | simpa using h_) (seg := [.int .i64 (wrap64 (x1_1 + 1))]) (j := 1) hcl15 hcc15 (show 2 ≤ 7 from by decide) (x' := (⟨(rd_T132 y112 x5_1).f0, wrap64 (x1_1 + 1), (rd_T132 y112 x5_1).f2, (rd_T132 y112 x5_1).f3, (rd_T132 y112 x5_1).f4, (rd_T132 y112 x5_1).f5, (rd_T132 y112 x5_1).f6⟩ : S132)) (k132_mkM _ _ _ (⟨(rd_T132 y112 x5_1).f0, wrap64 (x1_1 + 1), (rd_T132 y112 x5_1).f2, (rd_T132 y112 x5_1).f3, (rd_T132 y112 x5_1).f4, (rd_T132 y112 x5_1).f5, (rd_T132 y112 x5_1).f6⟩ : S132) ) (fun _ hk => hk); have hx15_1 := hcc15 1 _ rfl; (try simp only [show (k132).sz = 7 from rfl, Nat.mul_one, Nat.add_zero] at hx15_1); have hf15_1 := hfr15 1; (try simp only [show (k132).sz = 7 from rfl, Nat.mul_one, Nat.add_zero] at hf15_1); clear hcl15 hcc15 hfr15 hM15) | ((with_reducible refine gate_store (t := 3) (p := 23) rfl ?_); refine store_event (t := 3) (p := 23) (v := ?vo_w16) (w1 := (w14.setCell ⟨go5, (x5_1 : Int).toNat * 7 + 1, none⟩ (.int .i64 (wrap64 (x1_1 + 1))))) ?hg ?ho ?hn ?hr ?_; (case ho => rfl); (case hg => rfl); (case hn => rfl); (case hr => first | (go_simp; done) | (go_simp; rfl)); intro w16 hw; have hg : w14.grownBy w16 (some go5) := (by rw [hw]; exact HP15.2); have hp_ : Kd.R k132 132 w16 w0.heap.size (fun k_ => (P0_ k_ ∨ w.heap.size ≤ k_)) (.slice (some ⟨go5, 0, none⟩) x0_1.length co12) y113 := (by rw [hw, Ny113.out]; exact HP15.1); clear HP15; replace HB := zA ((by rw [hw]; exact below_set (HB.out) GB5.out : Below w0.heap.size w0 w16)); replace HK := zA (Kept.of_grown (S := (fun k_ => P0_ k_)) hg (by repeat (first | (with_reducible first | exact HK.out | apply Kept.alloc | apply Kept.drewN | apply Kept.drew) | exact HK.out)) (fun k_ e_ => (HO_0.out.1 k_ e_))); replace HO_0 := zA (hp_); clear hg hw hp_; have p7 : 0 ≤ (x5_1 : Int) := za; have q7 : (x5_1 : Int) < ((x0_1.length : Int) : Int) := za; obtain ⟨ce7, hcl7, hM7, hcc7, hfr7⟩ := Kd.R_elem HO_0.out z132 (x5_1 : Int) p7 q7; obtain rfl := k132_openM hM7; have hx7_0 : w16.cell? ⟨go5, (x5_1 : Int).toNat * 7, none⟩ = some (.int .i64 ((rd_T132 y113 x5_1).f0)) := hcc7 0 _ rfl; have hx7_1 : w16.cell? ⟨go5, (x5_1 : Int).toNat * 7 + 1, none⟩ = some (.int .i64 ((rd_T132 y113 x5_1).f1)) := hcc7 1 _ rfl; have hx7_2 : w16.cell? ⟨go5, (x5_1 : Int).toNat * 7 + 2, none⟩ = some (.int .i64 ((rd_T132 y113 x5_1).f2)) := hcc7 2 _ rfl; have hx7_3 : w16.cell? ⟨go5, (x5_1 : Int).toNat * 7 + 3, none⟩ = some (.int .i64 ((rd_T132 y113 x5_1).f3)) := hcc7 3 _ rfl; have hx7_4 : w16.cell? ⟨go5, (x5_1 : Int).toNat * 7 + 4, none⟩ = some (.int .i64 ((rd_T132 y113 x5_1).f4)) := hcc7 4 _ rfl; have hx7_5 : w16.cell? ⟨go5, (x5_1 : Int).toNat * 7 + 5, none⟩ = some (.int .i64 ((rd_T132 y113 x5_1).f5)) := hcc7 5 _ rfl; have hx7_6 : w16.cell? ⟨go5, (x5_1 : Int).toNat * 7 + 6, none⟩ = some (.bool ((rd_T132 y113 x5_1).f6)) := hcc7 6 _ rfl; have hf7_0 : w16.frozen? ⟨go5, (x5_1 : Int).toNat * 7, none⟩ = false := hfr7 0; have hf7_1 : w16.frozen? ⟨go5, (x5_1 : Int).toNat * 7 + 1, none⟩ = false := hfr7 1; have hf7_2 : w16.frozen? ⟨go5, (x5_1 : Int).toNat * 7 + 2, none⟩ = false := hfr7 2; have hf7_3 : w16.frozen? ⟨go5, (x5_1 : Int).toNat * 7 + 3, none⟩ = false := hfr7 3; have hf7_4 : w16.frozen? ⟨go5, (x5_1 : Int).toNat * 7 + 4, none⟩ = false := hfr7 4; have hf7_5 : w16.frozen? ⟨go5, (x5_1 : Int).toNat * 7 + 5, none⟩ = false := hfr7 5; have hf7_6 : w16.frozen? ⟨go5, (x5_1 : Int).toNat * 7 + 6, none⟩ = false := hfr7 6; clear hcl7 hcc7 hfr7 hM7; replace p7 := eq_true p7; replace q7 := eq_true q7; have HX17 := zA (show Kd.R k132 132 w16 w0.heap.size (fun k_ => (P0_ k_ ∨ w.heap.size ≤ k_)) (.slice (some ⟨go5, 0, none⟩) x0_1.length co12) y113 from (zr HO_0)); obtain ⟨ce17, hcl17, hM17, hcc17, hfr17⟩ := Kd.R_elem HX17.out z132 (x5_1 : Int) (za) (by have h_ : (x5_1 : Int) < ((x0_1.length : Int) : Int) := za; first | exact h_ | (have e_ := (Kd.R_reads' HO_0.out).1; omega) | simpa using h_); obtain rfl := k132_openM hM17; have HP17 := Kd.R_seg HX17.out (x5_1 : Int) (za) (by have h_ : (x5_1 : Int) < ((x0_1.length : Int) : Int) := za; first | exact h_ | (have e_ := (Kd.R_reads' HO_0.out).1; omega) | simpa using h_) (seg := [.int .i64 (wrap64 ((wrap64 (x1_1 + 1)) + 1))]) (j := 2) hcl17 hcc17 (show 3 ≤ 7 from by decide) (x' := (⟨(rd_T132 y113 x5_1).f0, (rd_T132 y113 x5_1).f1, wrap64 ((wrap64 (x1_1 + 1)) + 1), (rd_T132 y113 x5_1).f3, (rd_T132 y113 x5_1).f4, (rd_T132 y113 x5_1).f5, (rd_T132 y113 x5_1).f6⟩ : S132)) (k132_mkM _ _ _ (⟨(rd_T132 y113 x5_1).f0, (rd_T132 y113 x5_1).f1, wrap64 ((wrap64 (x1_1 + 1)) + 1), (rd_T132 y113 x5_1).f3, (rd_T132 y113 x5_1).f4, (rd_T132 y113 x5_1).f5, (rd_T132 y113 x5_1).f6⟩ : S132) ) (fun _ hk => hk); have hx17_2 := hcc17 2 _ rfl; (try simp only [show (k132).sz = 7 from rfl, Nat.mul_one, Nat.add_zero] at hx17_2); have hf17_2 := hfr17 2; (try simp only [show (k132).sz = 7 from rfl, Nat.mul_one, Nat.add_zero] at hf17_2); clear hcl17 hcc17 hfr17 hM17) | ((with_reducible refine gate_store (t := 3) (p := 30) rfl ?_); refine store_event (t := 3) (p := 30) (v := ?vo_w18) (w1 := (w16.setCell ⟨go5, (x5_1 : Int).toNat * 7 + 2, none⟩ (.int .i64 (wrap64 ((wrap64 (x1_1 + 1)) + 1))))) ?hg ?ho ?hn ?hr ?_; (case ho => rfl); (case hg => rfl); (case hn => rfl); (case hr => first | (go_simp; done) | (go_simp; rfl)); intro w18 hw; have hg : w16.grownBy w18 (some go5) := (by rw [hw]; exact HP17.2); have hp_ : Kd.R k132 132 w18 w0.heap.size (fun k_ => (P0_ k_ ∨ w.heap.size ≤ k_)) (.slice (some ⟨go5, 0, none⟩) x0_1.length co12) y114 := (by rw [hw, Ny114.out]; exact HP17.1); clear HP17; replace HB := zA ((by rw [hw]; exact below_set (HB.out) GB5.out : Below w0.heap.size w0 w18)); replace HK := zA (Kept.of_grown (S := (fun k_ => P0_ k_)) hg (by repeat (first | (with_reducible first | exact HK.out | apply Kept.alloc | apply Kept.drewN | apply Kept.drew) | exact HK.out)) (fun k_ e_ => (HO_0.out.1 k_ e_))); replace HO_0 := zA (hp_); clear hg hw hp_; have p8 : 0 ≤ (x5_1 : Int) := za; have q8 : (x5_1 : Int) < ((x0_1.length : Int) : Int) := za; obtain ⟨ce8, hcl8, hM8, hcc8, hfr8⟩ := Kd.R_elem HO_0.out z132 (x5_1 : Int) p8 q8; obtain rfl := k132_openM hM8; have hx8_0 : w18.cell? ⟨go5, (x5_1 : Int).toNat * 7, none⟩ = some (.int .i64 ((rd_T132 y114 x5_1).f0)) := hcc8 0 _ rfl; have hx8_1 : w18.cell? ⟨go5, (x5_1 : Int).toNat * 7 + 1, none⟩ = some (.int .i64 ((rd_T132 y114 x5_1).f1)) := hcc8 1 _ rfl; have hx8_2 : w18.cell? ⟨go5, (x5_1 : Int).toNat * 7 + 2, none⟩ = some (.int .i64 ((rd_T132 y114 x5_1).f2)) := hcc8 2 _ rfl; have hx8_3 : w18.cell? ⟨go5, (x5_1 : Int).toNat * 7 + 3, none⟩ = some (.int .i64 ((rd_T132 y114 x5_1).f3)) := hcc8 3 _ rfl; have hx8_4 : w18.cell? ⟨go5, (x5_1 : Int).toNat * 7 + 4, none⟩ = some (.int .i64 ((rd_T132 y114 x5_1).f4)) := hcc8 4 _ rfl; have hx8_5 : w18.cell? ⟨go5, (x5_1 : Int).toNat * 7 + 5, none⟩ = some (.int .i64 ((rd_T132 y114 x5_1).f5)) := hcc8 5 _ rfl; have hx8_6 : w18.cell? ⟨go5, (x5_1 : Int).toNat * 7 + 6, none⟩ = some (.bool ((rd_T132 y114 x5_1).f6)) := hcc8 6 _ rfl; have hf8_0 : w18.frozen? ⟨go5, (x5_1 : Int).toNat * 7, none⟩ = false := hfr8 0; have hf8_1 : w18.frozen? ⟨go5, (x5_1 : Int).toNat * 7 + 1, none⟩ = false := hfr8 1; have hf8_2 : w18.frozen? ⟨go5, (x5_1 : Int).toNat * 7 + 2, none⟩ = false := hfr8 2; have hf8_3 : w18.frozen? ⟨go5, (x5_1 : Int).toNat * 7 + 3, none⟩ = false := hfr8 3; have hf8_4 : w18.frozen? ⟨go5, (x5_1 : Int).toNat * 7 + 4, none⟩ = false := hfr8 4; have hf8_5 : w18.frozen? ⟨go5, (x5_1 : Int).toNat * 7 + 5, none⟩ = false := hfr8 5; have hf8_6 : w18.frozen? ⟨go5, (x5_1 : Int).toNat * 7 + 6, none⟩ = false := hfr8 6; clear hcl8 hcc8 hfr8 hM8; replace p8 := eq_true p8; replace q8 := eq_true q8; have HX19 := zA (show Kd.R k132 132 w18 w0.heap.size (fun k_ => (P0_ k_ ∨ w.heap.size ≤ k_)) (.slice (some ⟨go5, 0, none⟩) x0_1.length co12) y114 from (zr HO_0)); obtain ⟨ce19, hcl19, hM19, hcc19, hfr19⟩ := Kd.R_elem HX19.out z132 (x5_1 : Int) (za) (by have h_ : (x5_1 : Int) < ((x0_1.length : Int) : Int) := za; first | exact h_ | (have e_ := (Kd.R_reads' HO_0.out).1; omega) | simpa using h_); obtain rfl := k132_openM hM19; have HP19 := Kd.R_seg HX19.out (x5_1 : Int) (za) (by have h_ : (x5_1 : Int) < ((x0_1.length : Int) : Int) := za; first | exact h_ | (have e_ := (Kd.R_reads' HO_0.out).1; omega) | simpa using h_) (seg := [.int .i64 (wrap64 ((wrap64 ((wrap64 (x1_1 + 1)) + 1)) + 1))]) (j := 3) hcl19 hcc19 (show 4 ≤ 7 from by decide) (x' := (⟨(rd_T132 y114 x5_1).f0, (rd_T132 y114 x5_1).f1, (rd_T132 y114 x5_1).f2, wrap64 ((wrap64 ((wrap64 (x1_1 + 1)) + 1)) + 1), (rd_T132 y114 x5_1).f4, (rd_T132 y114 x5_1).f5, (rd_T132 y114 x5_1).f6⟩ : S132)) (k132_mkM _ _ _ (⟨(rd_T132 y114 x5_1).f0, (rd_T132 y114 x5_1).f1, (rd_T132 y114 x5_1).f2, wrap64 ((wrap64 ((wrap64 (x1_1 + 1)) + 1)) + 1), (rd_T132 y114 x5_1).f4, (rd_T132 y114 x5_1).f5, (rd_T132 y114 x5_1).f6⟩ : S132) ) (fun _ hk => hk); have hx19_3 := hcc19 3 _ rfl; (try simp only [show (k132).sz = 7 from rfl, Nat.mul_one, Nat.add_zero] at hx19_3); have hf19_3 := hfr19 3; (try simp only [show (k132).sz = 7 from rfl, Nat.mul_one, Nat.add_zero] at hf19_3); clear hcl19 hcc19 hfr19 hM19) | ((with_reducible refine gate_store (t := 3) (p := 37) rfl ?_); refine store_event (t := 3) (p := 37) (v := ?vo_w20) (w1 := (w18.setCell ⟨go5, (x5_1 : Int).toNat * 7 + 3, none⟩ (.int .i64 (wrap64 ((wrap64 ((wrap64 (x1_1 + 1)) + 1)) + 1))))) ?hg ?ho ?hn ?hr ?_; (case ho => rfl); (case hg => rfl); (case hn => rfl); (case hr => first | (go_simp; done) | (go_simp; rfl)); intro w20 hw; have hg : w18.grownBy w20 (some go5) := (by rw [hw]; exact HP19.2); have hp_ : Kd.R k132 132 w20 w0.heap.size (fun k_ => (P0_ k_ ∨ w.heap.size ≤ k_)) (.slice (some ⟨go5, 0, none⟩) x0_1.length co12) y115 := (by rw [hw, Ny115.out]; exact HP19.1); clear HP19; replace HB := zA ((by rw [hw]; exact below_set (HB.out) GB5.out : Below w0.heap.size w0 w20)); replace HK := zA (Kept.of_grown (S := (fun k_ => P0_ k_)) hg (by repeat (first | (with_reducible first | exact HK.out | apply Kept.alloc | apply Kept.drewN | apply Kept.drew) | exact HK.out)) (fun k_ e_ => (HO_0.out.1 k_ e_))); replace HO_0 := zA (hp_); clear hg hw hp_; have p9 : 0 ≤ (x5_1 : Int) := za; have q9 : (x5_1 : Int) < ((x0_1.length : Int) : Int) := za; obtain ⟨ce9, hcl9, hM9, hcc9, hfr9⟩ := Kd.R_elem HO_0.out z132 (x5_1 : Int) p9 q9; obtain rfl := k132_openM hM9; have hx9_0 : w20.cell? ⟨go5, (x5_1 : Int).toNat * 7, none⟩ = some (.int .i64 ((rd_T132 y115 x5_1).f0)) := hcc9 0 _ rfl; have hx9_1 : w20.cell? ⟨go5, (x5_1 : Int).toNat * 7 + 1, none⟩ = some (.int .i64 ((rd_T132 y115 x5_1).f1)) := hcc9 1 _ rfl; have hx9_2 : w20.cell? ⟨go5, (x5_1 : Int).toNat * 7 + 2, none⟩ = some (.int .i64 ((rd_T132 y115 x5_1).f2)) := hcc9 2 _ rfl; have hx9_3 : w20.cell? ⟨go5, (x5_1 : Int).toNat * 7 + 3, none⟩ = some (.int .i64 ((rd_T132 y115 x5_1).f3)) := hcc9 3 _ rfl; have hx9_4 : w20.cell? ⟨go5, (x5_1 : Int).toNat * 7 + 4, none⟩ = some (.int .i64 ((rd_T132 y115 x5_1).f4)) := hcc9 4 _ rfl; have hx9_5 : w20.cell? ⟨go5, (x5_1 : Int).toNat * 7 + 5, none⟩ = some (.int .i64 ((rd_T132 y115 x5_1).f5)) := hcc9 5 _ rfl; have hx9_6 : w20.cell? ⟨go5, (x5_1 : Int).toNat * 7 + 6, none⟩ = some (.bool ((rd_T132 y115 x5_1).f6)) := hcc9 6 _ rfl; have hf9_0 : w20.frozen? ⟨go5, (x5_1 : Int).toNat * 7, none⟩ = false := hfr9 0; have hf9_1 : w20.frozen? ⟨go5, (x5_1 : Int).toNat * 7 + 1, none⟩ = false := hfr9 1; have hf9_2 : w20.frozen? ⟨go5, (x5_1 : Int).toNat * 7 + 2, none⟩ = false := hfr9 2; have hf9_3 : w20.frozen? ⟨go5, (x5_1 : Int).toNat * 7 + 3, none⟩ = false := hfr9 3; have hf9_4 : w20.frozen? ⟨go5, (x5_1 : Int).toNat * 7 + 4, none⟩ = false := hfr9 4; have hf9_5 : w20.frozen? ⟨go5, (x5_1 : Int).toNat * 7 + 5, none⟩ = false := hfr9 5; have hf9_6 : w20.frozen? ⟨go5, (x5_1 : Int).toNat * 7 + 6, none⟩ = false := hfr9 6; clear hcl9 hcc9 hfr9 hM9; replace p9 := eq_true p9; replace q9 := eq_true q9; have HX21 := zA (show Kd.R k132 132 w20 w0.heap.size (fun k_ => (P0_ k_ ∨ w.heap.size ≤ k_)) (.slice (some ⟨go5, 0, none⟩) x0_1.length co12) y115 from (zr HO_0)); obtain ⟨ce21, hcl21, hM21, hcc21, hfr21⟩ := Kd.R_elem HX21.out z132 (x5_1 : Int) (za) (by have h_ : (x5_1 : Int) < ((x0_1.length : Int) : Int) := za; first | exact h_ | (have e_ := (Kd.R_reads' HO_0.out).1; omega) | simpa using h_); obtain rfl := k132_openM hM21; have HP21 := Kd.R_seg HX21.out (x5_1 : Int) (za) (by have h_ : (x5_1 : Int) < ((x0_1.length : Int) : Int) := za; first | exact h_ | (have e_ := (Kd.R_reads' HO_0.out).1; omega) | simpa using h_) (seg := [.int .i64 (wrap64 ((wrap64 ((wrap64 ((wrap64 (x1_1 + 1)) + 1)) + 1)) + 1))]) (j := 4) hcl21 hcc21 (show 5 ≤ 7 from by decide) (x' := (⟨(rd_T132 y115 x5_1).f0, (rd_T132 y115 x5_1).f1, (rd_T132 y115 x5_1).f2, (rd_T132 y115 x5_1).f3, wrap64 ((wrap64 ((wrap64 ((wrap64 (x1_1 + 1)) + 1)) + 1)) + 1), (rd_T132 y115 x5_1).f5, (rd_T132 y115 x5_1).f6⟩ : S132)) (k132_mkM _ _ _ (⟨(rd_T132 y115 x5_1).f0, (rd_T132 y115 x5_1).f1, (rd_T132 y115 x5_1).f2, (rd_T132 y115 x5_1).f3, wrap64 ((wrap64 ((wrap64 ((wrap64 (x1_1 + 1)) + 1)) + 1)) + 1), (rd_T132 y115 x5_1).f5, (rd_T132 y115 x5_1).f6⟩ : S132) ) (fun _ hk => hk); have hx21_4 := hcc21 4 _ rfl; (try simp only [show (k132).sz = 7 from rfl, Nat.mul_one, Nat.add_zero] at hx21_4); have hf21_4 := hfr21 4; (try simp only [show (k132).sz = 7 from rfl, Nat.mul_one, Nat.add_zero] at hf21_4); clear hcl21 hcc21 hfr21 hM21) | ((with_reducible refine gate_store (t := 3) (p := 44) rfl ?_); refine store_event (t := 3) (p := 44) (v := ?vo_w22) (w1 := (w20.setCell ⟨go5, (x5_1 : Int).toNat * 7 + 4, none⟩ (.int .i64 (wrap64 ((wrap64 ((wrap64 ((wrap64 (x1_1 + 1)) + 1)) + 1)) + 1))))) ?hg ?ho ?hn ?hr ?_; (case ho => rfl); (case hg => rfl); (case hn => rfl); (case hr => first | (go_simp; done) | (go_simp; rfl)); intro w22 hw; have hg : w20.grownBy w22 (some go5) := (by rw [hw]; exact HP21.2); have hp_ : Kd.R k132 132 w22 w0.heap.size (fun k_ => (P0_ k_ ∨ w.heap.size ≤ k_)) (.slice (some ⟨go5, 0, none⟩) x0_1.length co12) y116 := (by rw [hw, Ny116.out]; exact HP21.1); clear HP21; replace HB := zA ((by rw [hw]; exact below_set (HB.out) GB5.out : Below w0.heap.size w0 w22)); replace HK := zA (Kept.of_grown (S := (fun k_ => P0_ k_)) hg (by repeat (first | (with_reducible first | exact HK.out | apply Kept.alloc | apply Kept.drewN | apply Kept.drew) | exact HK.out)) (fun k_ e_ => (HO_0.out.1 k_ e_))); replace HO_0 := zA (hp_); clear hg hw hp_; have p10 : 0 ≤ (x5_1 : Int) := za; have q10 : (x5_1 : Int) < ((x0_1.length : Int) : Int) := za; obtain ⟨ce10, hcl10, hM10, hcc10, hfr10⟩ := Kd.R_elem HO_0.out z132 (x5_1 : Int) p10 q10; obtain rfl := k132_openM hM10; have hx10_0 : w22.cell? ⟨go5, (x5_1 : Int).toNat * 7, none⟩ = some (.int .i64 ((rd_T132 y116 x5_1).f0)) := hcc10 0 _ rfl; have hx10_1 : w22.cell? ⟨go5, (x5_1 : Int).toNat * 7 + 1, none⟩ = some (.int .i64 ((rd_T132 y116 x5_1).f1)) := hcc10 1 _ rfl; have hx10_2 : w22.cell? ⟨go5, (x5_1 : Int).toNat * 7 + 2, none⟩ = some (.int .i64 ((rd_T132 y116 x5_1).f2)) := hcc10 2 _ rfl; have hx10_3 : w22.cell? ⟨go5, (x5_1 : Int).toNat * 7 + 3, none⟩ = some (.int .i64 ((rd_T132 y116 x5_1).f3)) := hcc10 3 _ rfl; have hx10_4 : w22.cell? ⟨go5, (x5_1 : Int).toNat * 7 + 4, none⟩ = some (.int .i64 ((rd_T132 y116 x5_1).f4)) := hcc10 4 _ rfl; have hx10_5 : w22.cell? ⟨go5, (x5_1 : Int).toNat * 7 + 5, none⟩ = some (.int .i64 ((rd_T132 y116 x5_1).f5)) := hcc10 5 _ rfl; have hx10_6 : w22.cell? ⟨go5, (x5_1 : Int).toNat * 7 + 6, none⟩ = some (.bool ((rd_T132 y116 x5_1).f6)) := hcc10 6 _ rfl; have hf10_0 : w22.frozen? ⟨go5, (x5_1 : Int).toNat * 7, none⟩ = false := hfr10 0; have hf10_1 : w22.frozen? ⟨go5, (x5_1 : Int).toNat * 7 + 1, none⟩ = false := hfr10 1; have hf10_2 : w22.frozen? ⟨go5, (x5_1 : Int).toNat * 7 + 2, none⟩ = false := hfr10 2; have hf10_3 : w22.frozen? ⟨go5, (x5_1 : Int).toNat * 7 + 3, none⟩ = false := hfr10 3; have hf10_4 : w22.frozen? ⟨go5, (x5_1 : Int).toNat * 7 + 4, none⟩ = false := hfr10 4; have hf10_5 : w22.frozen? ⟨go5, (x5_1 : Int).toNat * 7 + 5, none⟩ = false := hfr10 5; have hf10_6 : w22.frozen? ⟨go5, (x5_1 : Int).toNat * 7 + 6, none⟩ = false := hfr10 6; clear hcl10 hcc10 hfr10 hM10; replace p10 := eq_true p10; replace q10 := eq_true q10; have HX23 := zA (show Kd.R k132 132 w22 w0.heap.size (fun k_ => (P0_ k_ ∨ w.heap.size ≤ k_)) (.slice (some ⟨go5, 0, none⟩) x0_1.length co12) y116 from (zr HO_0)); obtain ⟨ce23, hcl23, hM23, hcc23, hfr23⟩ := Kd.R_elem HX23.out z132 (x5_1 : Int) (za) (by have h_ : (x5_1 : Int) < ((x0_1.length : Int) : Int) := za; first | exact h_ | (have e_ := (Kd.R_reads' HO_0.out).1; omega) | simpa using h_); obtain rfl := k132_openM hM23; have HP23 := Kd.R_seg HX23.out (x5_1 : Int) (za) (by have h_ : (x5_1 : Int) < ((x0_1.length : Int) : Int) := za; first | exact h_ | (have e_ := (Kd.R_reads' HO_0.out).1; omega) | simpa using h_) (seg := [.int .i64 (wrap64 ((wrap64 ((wrap64 ((wrap64 ((wrap64 (x1_1 + 1)) + 1)) + 1)) + 1)) + 1))]) (j := 5) hcl23 hcc23 (show 6 ≤ 7 from by decide) (x' := (⟨(rd_T132 y116 x5_1).f0, (rd_T132 y116 x5_1).f1, (rd_T132 y116 x5_1).f2, (rd_T132 y116 x5_1).f3, (rd_T132 y116 x5_1).f4, wrap64 ((wrap64 ((wrap64 ((wrap64 ((wrap64 (x1_1 + 1)) + 1)) + 1)) + 1)) + 1), (rd_T132 y116 x5_1).f6⟩ : S132)) (k132_mkM _ _ _ (⟨(rd_T132 y116 x5_1).f0, (rd_T132 y116 x5_1).f1, (rd_T132 y116 x5_1).f2, (rd_T132 y116 x5_1).f3, (rd_T132 y116 x5_1).f4, wrap64 ((wrap64 ((wrap64 ((wrap64 ((wrap64 (x1_1 + 1)) + 1)) + 1)) + 1)) + 1), (rd_T132 y116 x5_1).f6⟩ : S132) ) (fun _ hk => hk); have hx23_5 := hcc23 5 _ rfl; (try simp only [show (k132).sz = 7 from rfl, Nat.mul_one, Nat.add_zero] at hx23_5); have hf23_5 := hfr23 5; (try simp only [show (k132).sz = 7 from rfl, Nat.mul_one, Nat.add_zero] at hf23_5); clear hcl23 hcc23 hfr23 hM23) | ((with_reducible refine gate_store (t := 3) (p := 51) rfl ?_); refine store_event (t := 3) (p := 51) (v := ?vo_w24) (w1 := (w22.setCell ⟨go5, (x5_1 : Int).toNat * 7 + 5, none⟩ (.int .i64 (wrap64 ((wrap64 ((wrap64 ((wrap64 ((wrap64 (x1_1 + 1)) + 1)) + 1)) + 1)) + 1))))) ?hg ?ho ?hn ?hr ?_; (case ho => rfl); (case hg => rfl); (case hn => rfl); (case hr => first | (go_simp; done) | (go_simp; rfl)); intro w24 hw; have hg : w22.grownBy w24 (some go5) := (by rw [hw]; exact HP23.2); have hp_ : Kd.R k132 132 w24 w0.heap.size (fun k_ => (P0_ k_ ∨ w.heap.size ≤ k_)) (.slice (some ⟨go5, 0, none⟩) x0_1.length co12) y117 := (by rw [hw, Ny117.out]; exact HP23.1); clear HP23; replace HB := zA ((by rw [hw]; exact below_set (HB.out) GB5.out : Below w0.heap.size w0 w24)); replace HK := zA (Kept.of_grown (S := (fun k_ => P0_ k_)) hg (by repeat (first | (with_reducible first | exact HK.out | apply Kept.alloc | apply Kept.drewN | apply Kept.drew) | exact HK.out)) (fun k_ e_ => (HO_0.out.1 k_ e_))); replace HO_0 := zA (hp_); clear hg hw hp_; have p11 : 0 ≤ (x5_1 : Int) := za; have q11 : (x5_1 : Int) < ((x0_1.length : Int) : Int) := za; obtain ⟨ce11, hcl11, hM11, hcc11, hfr11⟩ := Kd.R_elem HO_0.out z132 (x5_1 : Int) p11 q11; obtain rfl := k132_openM hM11; have hx11_0 : w24.cell? ⟨go5, (x5_1 : Int).toNat * 7, none⟩ = some (.int .i64 ((rd_T132 y117 x5_1).f0)) := hcc11 0 _ rfl; have hx11_1 : w24.cell? ⟨go5, (x5_1 : Int).toNat * 7 + 1, none⟩ = some (.int .i64 ((rd_T132 y117 x5_1).f1)) := hcc11 1 _ rfl; have hx11_2 : w24.cell? ⟨go5, (x5_1 : Int).toNat * 7 + 2, none⟩ = some (.int .i64 ((rd_T132 y117 x5_1).f2)) := hcc11 2 _ rfl; have hx11_3 : w24.cell? ⟨go5, (x5_1 : Int).toNat * 7 + 3, none⟩ = some (.int .i64 ((rd_T132 y117 x5_1).f3)) := hcc11 3 _ rfl; have hx11_4 : w24.cell? ⟨go5, (x5_1 : Int).toNat * 7 + 4, none⟩ = some (.int .i64 ((rd_T132 y117 x5_1).f4)) := hcc11 4 _ rfl; have hx11_5 : w24.cell? ⟨go5, (x5_1 : Int).toNat * 7 + 5, none⟩ = some (.int .i64 ((rd_T132 y117 x5_1).f5)) := hcc11 5 _ rfl; have hx11_6 : w24.cell? ⟨go5, (x5_1 : Int).toNat * 7 + 6, none⟩ = some (.bool ((rd_T132 y117 x5_1).f6)) := hcc11 6 _ rfl; have hf11_0 : w24.frozen? ⟨go5, (x5_1 : Int).toNat * 7, none⟩ = false := hfr11 0; have hf11_1 : w24.frozen? ⟨go5, (x5_1 : Int).toNat * 7 + 1, none⟩ = false := hfr11 1; have hf11_2 : w24.frozen? ⟨go5, (x5_1 : Int).toNat * 7 + 2, none⟩ = false := hfr11 2; have hf11_3 : w24.frozen? ⟨go5, (x5_1 : Int).toNat * 7 + 3, none⟩ = false := hfr11 3; have hf11_4 : w24.frozen? ⟨go5, (x5_1 : Int).toNat * 7 + 4, none⟩ = false := hfr11 4; have hf11_5 : w24.frozen? ⟨go5, (x5_1 : Int).toNat * 7 + 5, none⟩ = false := hfr11 5; have hf11_6 : w24.frozen? ⟨go5, (x5_1 : Int).toNat * 7 + 6, none⟩ = false := hfr11 6; clear hcl11 hcc11 hfr11 hM11; replace p11 := eq_true p11; replace q11 := eq_true q11; have HX25 := zA (show Kd.R k132 132 w24 w0.heap.size (fun k_ => (P0_ k_ ∨ w.heap.size ≤ k_)) (.slice (some ⟨go5, 0, none⟩) x0_1.length co12) y117 from (zr HO_0)); obtain ⟨ce25, hcl25, hM25, hcc25, hfr25⟩ := Kd.R_elem HX25.out z132 (x5_1 : Int) (za) (by have h_ : (x5_1 : Int) < ((x0_1.length : Int) : Int) := za; first | exact h_ | (have e_ := (Kd.R_reads' HO_0.out).1; omega) | simpa using h_); obtain rfl := k132_openM hM25; have HP25 := Kd.R_seg HX25.out (x5_1 : Int) (za) (by have h_ : (x5_1 : Int) < ((x0_1.length : Int) : Int) := za; first | exact h_ | (have e_ := (Kd.R_reads' HO_0.out).1; omega) | simpa using h_) (seg := [.bool ((Int.tmod (wrap64 ((wrap64 ((wrap64 ((wrap64 ((wrap64 ((wrap64 (x1_1 + 1)) + 1)) + 1)) + 1)) + 1)) + 1)) 3) == 0)]) (j := 6) hcl25 hcc25 (show 7 ≤ 7 from by decide) (x' := (⟨(rd_T132 y117 x5_1).f0, (rd_T132 y117 x5_1).f1, (rd_T132 y117 x5_1).f2, (rd_T132 y117 x5_1).f3, (rd_T132 y117 x5_1).f4, (rd_T132 y117 x5_1).f5, ((Int.tmod (wrap64 ((wrap64 ((wrap64 ((wrap64 ((wrap64 ((wrap64 (x1_1 + 1)) + 1)) + 1)) + 1)) + 1)) + 1)) 3) == 0)⟩ : S132)) (k132_mkM _ _ _ (⟨(rd_T132 y117 x5_1).f0, (rd_T132 y117 x5_1).f1, (rd_T132 y117 x5_1).f2, (rd_T132 y117 x5_1).f3, (rd_T132 y117 x5_1).f4, (rd_T132 y117 x5_1).f5, ((Int.tmod (wrap64 ((wrap64 ((wrap64 ((wrap64 ((wrap64 ((wrap64 (x1_1 + 1)) + 1)) + 1)) + 1)) + 1)) + 1)) 3) == 0)⟩ : S132) ) (fun _ hk => hk); have hx25_6 := hcc25 6 _ rfl; (try simp only [show (k132).sz = 7 from rfl, Nat.mul_one, Nat.add_zero] at hx25_6); have hf25_6 := hfr25 6; (try simp only [show (k132).sz = 7 from rfl, Nat.mul_one, Nat.add_zero] at hf25_6); clear hcl25 hcc25 hfr25 hM25) | ((with_reducible refine gate_store (t := 4) (p := 60) rfl ?_); refine store_event (t := 4) (p := 60) (v := ?vo_w26) (w1 := (w24.setCell ⟨go5, (x5_1 : Int).toNat * 7 + 6, none⟩ (.bool ((Int.tmod (wrap64 ((wrap64 ((wrap64 ((wrap64 ((wrap64 ((wrap64 (x1_1 + 1)) + 1)) + 1)) + 1)) + 1)) + 1)) 3) == 0)))) ?hg ?ho ?hn ?hr ?_; (case ho => rfl); (case hg => rfl); (case hn => rfl); (case hr => first | (go_simp; done) | (go_simp; rfl)); intro w26 hw; have hg : w24.grownBy w26 (some go5) := (by rw [hw]; exact HP25.2); have hp_ : Kd.R k132 132 w26 w0.heap.size (fun k_ => (P0_ k_ ∨ w.heap.size ≤ k_)) (.slice (some ⟨go5, 0, none⟩) x0_1.length co12) y118 := (by rw [hw, Ny118.out]; exact HP25.1); clear HP25; replace HB := zA ((by rw [hw]; exact below_set (HB.out) GB5.out : Below w0.heap.size w0 w26)); replace HK := zA (Kept.of_grown (S := (fun k_ => P0_ k_)) hg (by repeat (first | (with_reducible first | exact HK.out | apply Kept.alloc | apply Kept.drewN | apply Kept.drew) | exact HK.out)) (fun k_ e_ => (HO_0.out.1 k_ e_))); replace HO_0 := zA (hp_); clear hg hw hp_))
   go_roundg k1
   case measure => have := HK1.out; omega
   case rel => exact ⟨(y118), (wrap64 ((wrap64 ((wrap64 ((wrap64 ((wrap64 ((wrap64 ((wrap64 (x1_1 + 1)) + 1)) + 1)) + 1)) + 1)) + 1)) + 1)), (wrap64 (x5_1 + 1)), zi, zi, H', ⟨by have := HK1.out; omega⟩, ⟨zr HO_0⟩, ⟨by repeat (first | (with_reducible first | exact HK.out | apply Kept.alloc | apply Kept.drewN | apply Kept.drew) | exact HK.out)⟩, ⟨zs0 HB⟩⟩
def laws_markFlyPath.f (k : Nat) (a0_0 : Int) (a0_1 : Int) (l0_2 : List (S132)) (a0_3 : Int) (a0_4 : Int) (a1 : Int) : Option (Int × (List (S132))) := (laws_markFlyStepS.f k l0_2 a1).bind fun bt120 => (some (bt120.1, bt120.2))
set_option maxHeartbeats 8000000 in
set_option maxRecDepth 100000 in
theorem laws_markFlyPath.calls (k : Nat) (a0_0 : Int) (a0_1 : Int) (P0_2_ : Nat → Prop) (u9000_ : Value) (l0_2 : List (S132)) (a0_3 : Int) (a0_4 : Int) (a1 : Int) (r1 : Int) (r2 : List (S132)) (w0 w : World) (hB : Below w0.heap.size w0 w) (ho0_2 : Kd.R k132 132 w w0.heap.size P0_2_ u9000_ l0_2) (h : laws_markFlyPath.f k a0_0 a0_1 l0_2 a0_3 a0_4 a1 = some (r1, r2)) :
 Calls Try.prog 47 #[.agg #[.int .i64 a0_0, .int .i64 a0_1, u9000_, .int .i64 a0_3, .int .i64 a0_4], .int .i64 a1] w fun e w' => e = .returned (.int .i64 r1) ∧ Kd.R k132 132 w' w0.heap.size (fun k_ => (P0_2_ k_ ∨ w.heap.size ≤ k_)) u9000_ r2 ∧ Below w0.heap.size w0 w' ∧ Kept w w' (fun k_ => P0_2_ k_) := by
 have hu68 := Try.underlying68
 have HO0_2 := zA (show Kd.R k132 132 w w0.heap.size (fun k_ => (P0_2_ k_ ∨ w.heap.size ≤ k_)) u9000_ l0_2 from Kd.R_mono ho0_2 (fun k_ hk => (.inl hk)))
 have HK := zA (Kept.refl w (fun k_ => P0_2_ k_))
 have HW0 := zA hB.size
 have HB := zA hB
 clear hB
 have H : ((laws_markFlyStepS.f k l0_2 a1).bind fun bt120 => (some (bt120.1, bt120.2))) = some (r1, r2) := h
 clear h
 replace H := Option.bind_eq_some_iff.mp H
 obtain ⟨⟨t120, t121⟩, A30, H⟩ := H
 replace H : (some (t120, t121)) = some (r1, r2) := H
 have A3 := zA A30
 clear A30
 simp only [Option.some.injEq, Prod.mk.injEq] at H
 obtain ⟨rfl, rfl⟩ := H
 obtain ⟨Ao4, co4, eo4⟩ := Kd.R_slice HO0_2.out
 subst eo4
 go_enter Try.func47, Try.ntmps47
 go_wp2_with (first | ((with_reducible refine gate_dst (N := 2) rfl ?_); refine zbx 2 #[.int .i64 a0_0, .int .i64 a0_1, .slice Ao4 l0_2.length co4, .int .i64 a0_3, .int .i64 a0_4] 68 ?_; intro gb119 hg w5 hbox hb; have BK119 := zA hbox; have GW119 := zA ((by rw [hg]; exact (by first | exact HK.out.1 | exact (show Kept w _ (fun k_ => P0_2_ k_) from by repeat (first | (with_reducible first | exact HK.out | apply Kept.alloc | apply Kept.drewN | apply Kept.drew) | exact HK.out)).1) : w.heap.size ≤ gb119)); have GE119 := zA ((by rw [hg]; exact (below_size (zs0 HB)) : w0.heap.size ≤ gb119)); replace HO0_2 := zA (Kd.R_below (zr HO0_2) hb); replace HK := zA (Kept.below (S := (fun k_ => P0_2_ k_)) (by repeat (first | (with_reducible first | exact HK.out | apply Kept.alloc | apply Kept.drewN | apply Kept.drew) | exact HK.out)) hb); replace HB := zE (zs0 HB) hb; clear hb hbox hg; obtain ⟨hcz6_0, hcz6_1, hcz6_2, hcz6_3, hcz6_4⟩ := zd5 BK119; obtain ⟨hfz6_0, hfz6_1, hfz6_2, hfz6_3, hfz6_4⟩ := zn5 BK119) | ((with_reducible refine gate_callee (f := 101) rfl ?_); refine zgl (N := some 8) Try.func101 #[.slice Ao4 l0_2.length co4, .int .i64 a1] ?_; (with_reducible refine (laws_markFlyStepS.calls k (fun k_ => some k_ = (.slice Ao4 l0_2.length co4 : Value).ownBlock) (.slice Ao4 l0_2.length co4) l0_2 a1 t120 t121 w0 _ ?side1 ?side2 A3.out).mono ?_); (case side1 => repeat (first | (with_reducible first | exact HB.out | apply below_alloc | apply pw_below_drewN | apply below_drew1 | refine below_set ?_ GE119.out) | exact HB.out)); (case side2 => exact Kd.R_tight rfl HO0_2.out); rintro e w7 ⟨rfl, hy0, hb, hkp⟩; refine ⟨_, rfl, ?_⟩; replace BK119 := zA (blk_kept (zh BK119) hkp (fun hs_ => (fun e_ => (Kd.R_ne HO0_2.out BK119.out (by decide)) e_) hs_)); replace HK := zA (Kept.then_ (S := (fun k_ => P0_2_ k_)) (by repeat (first | (with_reducible first | exact HK.out | apply Kept.alloc | apply Kept.drewN | apply Kept.drew | refine Kept.setCell ?_ (.inr GW119.out) _) | exact HK.out)) hkp (fun k_ hs_ => (fun e_ => (HO0_2.out.1 k_ e_.symm)) hs_)); replace HO0_2 := zA (Kd.R_reok rfl hy0 (fun k_ e_ => HO0_2.out.1 k_ e_)); replace HB := zA (hb); (try clear hb); (try clear hkp); (try clear hy0)))
 go_ret
 exact ⟨ze, zr HO0_2, zs1 HB GE119, by repeat (first | (with_reducible first | exact HK.out | apply Kept.alloc | apply Kept.drewN | apply Kept.drew | refine Kept.setCell ?_ (.inr GW119.out) _) | exact HK.out)⟩
def laws_heldFlyStepS.l0 : Nat → List (S132) → Int → Int → Option (Int)
 | 0, _, _, _ => none
 | k + 1, x0, x1, x5 => if x5 < (x0.length : Int) then (if 0 ≤ x5 then (if ((rd_T132 x0 x5).f0) = x1 then (if ((rd_T132 x0 x5).f1) = (wrap64 (x1 + 1)) then (if ((rd_T132 x0 x5).f2) = (wrap64 ((wrap64 (x1 + 1)) + 1)) then (if ((rd_T132 x0 x5).f3) = (wrap64 ((wrap64 ((wrap64 (x1 + 1)) + 1)) + 1)) then (if ((rd_T132 x0 x5).f4) = (wrap64 ((wrap64 ((wrap64 ((wrap64 (x1 + 1)) + 1)) + 1)) + 1)) then (if ((rd_T132 x0 x5).f5) = (wrap64 ((wrap64 ((wrap64 ((wrap64 ((wrap64 (x1 + 1)) + 1)) + 1)) + 1)) + 1)) then (if (((rd_T132 x0 x5).f6) != ((Int.tmod (wrap64 ((wrap64 ((wrap64 ((wrap64 ((wrap64 ((wrap64 (x1 + 1)) + 1)) + 1)) + 1)) + 1)) + 1)) 3) == 0)) = true then (some (-1)) else (laws_heldFlyStepS.l0 k x0 (wrap64 ((wrap64 ((wrap64 ((wrap64 ((wrap64 ((wrap64 ((wrap64 (x1 + 1)) + 1)) + 1)) + 1)) + 1)) + 1)) + 1)) (wrap64 (x5 + 1)))) else (some (-1))) else (some (-1))) else (some (-1))) else (some (-1))) else (some (-1))) else (some (-1))) else (none)) else (some x1)
def laws_heldFlyStepS.f (k : Nat) (l0 : List (S132)) (a1 : Int) : Option (Int) := laws_heldFlyStepS.l0 k l0 a1 0
set_option maxHeartbeats 8000000 in
set_option maxRecDepth 100000 in
theorem laws_heldFlyStepS.calls (k : Nat) (A0 : Option Addr) (c0 : Nat) (l0 : List (S132)) (a1 : Int) (r : Int) (w : World) (hr0 : Kd.C k132 w A0 l0.length l0) (hc0 : l0.length ≤ c0) (h : laws_heldFlyStepS.f k l0 a1 = some r) :
 Calls Try.prog 102 #[.slice A0 l0.length c0, .int .i64 a1] w fun e w' => e = .returned (.int .i64 r) ∧ Drawn0 w w' := by
 have HR0 := zA hr0
 have HC0 := zA hc0
 clear hr0 hc0
 have H : (laws_heldFlyStepS.l0 k l0 a1 0) = some r := h
 clear h
 have H' := zA H
 clear H
 go_enter Try.func102, Try.ntmps102
 go_wp2
 go_loopg [1, 5] k (fun kq v1 v5 w' => ∃ (x1_1 : Int) (x5_1 : Int), v1 = .int .i64 x1_1 ∧ v5 = .int .i64 x5_1 ∧ Aside0 (laws_heldFlyStepS.l0 kq l0 x1_1 x5_1 = some r) ∧ Aside0 (kq ≤ k) ∧ Drawn0 w w')
 case atStart => exact ⟨(a1), (0), zi, zi, H', ⟨Nat.le_refl _⟩, by repeat (first | exact Drawn0.refl _ | apply Drawn0.step)⟩
 case round =>
  clear H'
  try clear c1
  try clear p2
  obtain ⟨x1_1, x5_1, rfl, rfl, HA, HK1, ⟨m1, rfl⟩⟩ := hrel
  cases gk with
  | zero => exact absurd HA.out (by simp [laws_heldFlyStepS.l0])
  | succ k1 =>
   have H := HA.out
   clear HA
   simp only [laws_heldFlyStepS.l0] at H
   by_cases c3 : x5_1 < (l0.length : Int)
   rotate_left
   ·rw [if_neg c3] at H
    have c3b0 : decide (x5_1 < (l0.length : Int)) = false := decide_eq_false c3
    clear c3
    obtain rfl := Option.some.inj H
    go_wp2
    go_ret
    exact ⟨by first | rfl | (simp; done) | (simp [*]; done), by repeat (first | exact Drawn0.refl _ | apply Drawn0.step)⟩
   rw [if_pos c3] at H
   have c3b0 : decide (x5_1 < (l0.length : Int)) = true := decide_eq_true c3
   clear c3
   by_cases c4 : 0 ≤ x5_1
   rotate_left
   ·rw [if_neg c4] at H
    exact absurd H (by simp)
   rw [if_pos c4] at H
   have c4b0 : decide (0 ≤ x5_1) = true := decide_eq_true c4
   clear c4
   by_cases c5 : ((rd_T132 l0 x5_1).f0) = x1_1
   rotate_left
   ·rw [if_neg c5] at H
    have c5b0 : (((rd_T132 l0 x5_1).f0) == x1_1) = false := beq_eq_false_iff_ne.mpr c5
    have c5b1 : (((rd_T132 l0 x5_1).f0) != x1_1) = true := bne_iff_ne.mpr c5
    obtain rfl := Option.some.inj H
    have p122 : 0 ≤ (x5_1 : Int) := za
    have q122 : x5_1 < (l0.length : Int) := za
    obtain ⟨ad122, e122, hx122_0, hx122_1, hx122_2, hx122_3, hx122_4, hx122_5, hx122_6⟩ := at_T132 HR0.out x5_1 p122 q122
    cases e122
    replace p122 := eq_true p122
    replace q122 := eq_true q122
    go_wp2
    go_ret
    exact ⟨by first | rfl | (simp; done) | (simp [*]; done), by repeat (first | exact Drawn0.refl _ | apply Drawn0.step)⟩
   rw [if_pos c5] at H
   have c5b0 : (((rd_T132 l0 x5_1).f0) == x1_1) = true := beq_iff_eq.mpr c5
   have c5b1 : (((rd_T132 l0 x5_1).f0) != x1_1) = false := bne_eq_false_iff_eq.mpr c5
   clear c5
   by_cases c6 : ((rd_T132 l0 x5_1).f1) = (wrap64 (x1_1 + 1))
   rotate_left
   ·rw [if_neg c6] at H
    have c6b0 : (((rd_T132 l0 x5_1).f1) == (wrap64 (x1_1 + 1))) = false := beq_eq_false_iff_ne.mpr c6
    have c6b1 : (((rd_T132 l0 x5_1).f1) != (wrap64 (x1_1 + 1))) = true := bne_iff_ne.mpr c6
    obtain rfl := Option.some.inj H
    have p122 : 0 ≤ (x5_1 : Int) := za
    have q122 : x5_1 < (l0.length : Int) := za
    obtain ⟨ad122, e122, hx122_0, hx122_1, hx122_2, hx122_3, hx122_4, hx122_5, hx122_6⟩ := at_T132 HR0.out x5_1 p122 q122
    cases e122
    replace p122 := eq_true p122
    replace q122 := eq_true q122
    have p123 : 0 ≤ (x5_1 : Int) := za
    have q123 : x5_1 < (l0.length : Int) := za
    obtain ⟨ad123, e123, hx123_0, hx123_1, hx123_2, hx123_3, hx123_4, hx123_5, hx123_6⟩ := at_T132 HR0.out x5_1 p123 q123
    obtain rfl : ad122 = ad123 := (by injection e123)
    replace p123 := eq_true p123
    replace q123 := eq_true q123
    go_wp2
    go_ret
    exact ⟨by first | rfl | (simp; done) | (simp [*]; done), by repeat (first | exact Drawn0.refl _ | apply Drawn0.step)⟩
   rw [if_pos c6] at H
   have c6b0 : (((rd_T132 l0 x5_1).f1) == (wrap64 (x1_1 + 1))) = true := beq_iff_eq.mpr c6
   have c6b1 : (((rd_T132 l0 x5_1).f1) != (wrap64 (x1_1 + 1))) = false := bne_eq_false_iff_eq.mpr c6
   clear c6
   by_cases c7 : ((rd_T132 l0 x5_1).f2) = (wrap64 ((wrap64 (x1_1 + 1)) + 1))
   rotate_left
   ·rw [if_neg c7] at H
    have c7b0 : (((rd_T132 l0 x5_1).f2) == (wrap64 ((wrap64 (x1_1 + 1)) + 1))) = false := beq_eq_false_iff_ne.mpr c7
    have c7b1 : (((rd_T132 l0 x5_1).f2) != (wrap64 ((wrap64 (x1_1 + 1)) + 1))) = true := bne_iff_ne.mpr c7
    obtain rfl := Option.some.inj H
    have p122 : 0 ≤ (x5_1 : Int) := za
    have q122 : x5_1 < (l0.length : Int) := za
    obtain ⟨ad122, e122, hx122_0, hx122_1, hx122_2, hx122_3, hx122_4, hx122_5, hx122_6⟩ := at_T132 HR0.out x5_1 p122 q122
    cases e122
    replace p122 := eq_true p122
    replace q122 := eq_true q122
    have p123 : 0 ≤ (x5_1 : Int) := za
    have q123 : x5_1 < (l0.length : Int) := za
    obtain ⟨ad123, e123, hx123_0, hx123_1, hx123_2, hx123_3, hx123_4, hx123_5, hx123_6⟩ := at_T132 HR0.out x5_1 p123 q123
    obtain rfl : ad122 = ad123 := (by injection e123)
    replace p123 := eq_true p123
    replace q123 := eq_true q123
    have p124 : 0 ≤ (x5_1 : Int) := za
    have q124 : x5_1 < (l0.length : Int) := za
    obtain ⟨ad124, e124, hx124_0, hx124_1, hx124_2, hx124_3, hx124_4, hx124_5, hx124_6⟩ := at_T132 HR0.out x5_1 p124 q124
    obtain rfl : ad122 = ad124 := (by injection e124)
    replace p124 := eq_true p124
    replace q124 := eq_true q124
    go_wp2
    go_ret
    exact ⟨by first | rfl | (simp; done) | (simp [*]; done), by repeat (first | exact Drawn0.refl _ | apply Drawn0.step)⟩
   rw [if_pos c7] at H
   have c7b0 : (((rd_T132 l0 x5_1).f2) == (wrap64 ((wrap64 (x1_1 + 1)) + 1))) = true := beq_iff_eq.mpr c7
   have c7b1 : (((rd_T132 l0 x5_1).f2) != (wrap64 ((wrap64 (x1_1 + 1)) + 1))) = false := bne_eq_false_iff_eq.mpr c7
   clear c7
   by_cases c8 : ((rd_T132 l0 x5_1).f3) = (wrap64 ((wrap64 ((wrap64 (x1_1 + 1)) + 1)) + 1))
   rotate_left
   ·rw [if_neg c8] at H
    have c8b0 : (((rd_T132 l0 x5_1).f3) == (wrap64 ((wrap64 ((wrap64 (x1_1 + 1)) + 1)) + 1))) = false := beq_eq_false_iff_ne.mpr c8
    have c8b1 : (((rd_T132 l0 x5_1).f3) != (wrap64 ((wrap64 ((wrap64 (x1_1 + 1)) + 1)) + 1))) = true := bne_iff_ne.mpr c8
    obtain rfl := Option.some.inj H
    have p122 : 0 ≤ (x5_1 : Int) := za
    have q122 : x5_1 < (l0.length : Int) := za
    obtain ⟨ad122, e122, hx122_0, hx122_1, hx122_2, hx122_3, hx122_4, hx122_5, hx122_6⟩ := at_T132 HR0.out x5_1 p122 q122
    cases e122
    replace p122 := eq_true p122
    replace q122 := eq_true q122
    have p123 : 0 ≤ (x5_1 : Int) := za
    have q123 : x5_1 < (l0.length : Int) := za
    obtain ⟨ad123, e123, hx123_0, hx123_1, hx123_2, hx123_3, hx123_4, hx123_5, hx123_6⟩ := at_T132 HR0.out x5_1 p123 q123
    obtain rfl : ad122 = ad123 := (by injection e123)
    replace p123 := eq_true p123
    replace q123 := eq_true q123
    have p124 : 0 ≤ (x5_1 : Int) := za
    have q124 : x5_1 < (l0.length : Int) := za
    obtain ⟨ad124, e124, hx124_0, hx124_1, hx124_2, hx124_3, hx124_4, hx124_5, hx124_6⟩ := at_T132 HR0.out x5_1 p124 q124
    obtain rfl : ad122 = ad124 := (by injection e124)
    replace p124 := eq_true p124
    replace q124 := eq_true q124
    have p125 : 0 ≤ (x5_1 : Int) := za
    have q125 : x5_1 < (l0.length : Int) := za
    obtain ⟨ad125, e125, hx125_0, hx125_1, hx125_2, hx125_3, hx125_4, hx125_5, hx125_6⟩ := at_T132 HR0.out x5_1 p125 q125
    obtain rfl : ad122 = ad125 := (by injection e125)
    replace p125 := eq_true p125
    replace q125 := eq_true q125
    go_wp2
    go_ret
    exact ⟨by first | rfl | (simp; done) | (simp [*]; done), by repeat (first | exact Drawn0.refl _ | apply Drawn0.step)⟩
   rw [if_pos c8] at H
   have c8b0 : (((rd_T132 l0 x5_1).f3) == (wrap64 ((wrap64 ((wrap64 (x1_1 + 1)) + 1)) + 1))) = true := beq_iff_eq.mpr c8
   have c8b1 : (((rd_T132 l0 x5_1).f3) != (wrap64 ((wrap64 ((wrap64 (x1_1 + 1)) + 1)) + 1))) = false := bne_eq_false_iff_eq.mpr c8
   clear c8
   by_cases c9 : ((rd_T132 l0 x5_1).f4) = (wrap64 ((wrap64 ((wrap64 ((wrap64 (x1_1 + 1)) + 1)) + 1)) + 1))
   rotate_left
   ·rw [if_neg c9] at H
    have c9b0 : (((rd_T132 l0 x5_1).f4) == (wrap64 ((wrap64 ((wrap64 ((wrap64 (x1_1 + 1)) + 1)) + 1)) + 1))) = false := beq_eq_false_iff_ne.mpr c9
    have c9b1 : (((rd_T132 l0 x5_1).f4) != (wrap64 ((wrap64 ((wrap64 ((wrap64 (x1_1 + 1)) + 1)) + 1)) + 1))) = true := bne_iff_ne.mpr c9
    obtain rfl := Option.some.inj H
    have p122 : 0 ≤ (x5_1 : Int) := za
    have q122 : x5_1 < (l0.length : Int) := za
    obtain ⟨ad122, e122, hx122_0, hx122_1, hx122_2, hx122_3, hx122_4, hx122_5, hx122_6⟩ := at_T132 HR0.out x5_1 p122 q122
    cases e122
    replace p122 := eq_true p122
    replace q122 := eq_true q122
    have p123 : 0 ≤ (x5_1 : Int) := za
    have q123 : x5_1 < (l0.length : Int) := za
    obtain ⟨ad123, e123, hx123_0, hx123_1, hx123_2, hx123_3, hx123_4, hx123_5, hx123_6⟩ := at_T132 HR0.out x5_1 p123 q123
    obtain rfl : ad122 = ad123 := (by injection e123)
    replace p123 := eq_true p123
    replace q123 := eq_true q123
    have p124 : 0 ≤ (x5_1 : Int) := za
    have q124 : x5_1 < (l0.length : Int) := za
    obtain ⟨ad124, e124, hx124_0, hx124_1, hx124_2, hx124_3, hx124_4, hx124_5, hx124_6⟩ := at_T132 HR0.out x5_1 p124 q124
    obtain rfl : ad122 = ad124 := (by injection e124)
    replace p124 := eq_true p124
    replace q124 := eq_true q124
    have p125 : 0 ≤ (x5_1 : Int) := za
    have q125 : x5_1 < (l0.length : Int) := za
    obtain ⟨ad125, e125, hx125_0, hx125_1, hx125_2, hx125_3, hx125_4, hx125_5, hx125_6⟩ := at_T132 HR0.out x5_1 p125 q125
    obtain rfl : ad122 = ad125 := (by injection e125)
    replace p125 := eq_true p125
    replace q125 := eq_true q125
    have p126 : 0 ≤ (x5_1 : Int) := za
    have q126 : x5_1 < (l0.length : Int) := za
    obtain ⟨ad126, e126, hx126_0, hx126_1, hx126_2, hx126_3, hx126_4, hx126_5, hx126_6⟩ := at_T132 HR0.out x5_1 p126 q126
    obtain rfl : ad122 = ad126 := (by injection e126)
    replace p126 := eq_true p126
    replace q126 := eq_true q126
    go_wp2
    go_ret
    exact ⟨by first | rfl | (simp; done) | (simp [*]; done), by repeat (first | exact Drawn0.refl _ | apply Drawn0.step)⟩
   rw [if_pos c9] at H
   have c9b0 : (((rd_T132 l0 x5_1).f4) == (wrap64 ((wrap64 ((wrap64 ((wrap64 (x1_1 + 1)) + 1)) + 1)) + 1))) = true := beq_iff_eq.mpr c9
   have c9b1 : (((rd_T132 l0 x5_1).f4) != (wrap64 ((wrap64 ((wrap64 ((wrap64 (x1_1 + 1)) + 1)) + 1)) + 1))) = false := bne_eq_false_iff_eq.mpr c9
   clear c9
   by_cases c10 : ((rd_T132 l0 x5_1).f5) = (wrap64 ((wrap64 ((wrap64 ((wrap64 ((wrap64 (x1_1 + 1)) + 1)) + 1)) + 1)) + 1))
   rotate_left
   ·rw [if_neg c10] at H
    have c10b0 : (((rd_T132 l0 x5_1).f5) == (wrap64 ((wrap64 ((wrap64 ((wrap64 ((wrap64 (x1_1 + 1)) + 1)) + 1)) + 1)) + 1))) = false := beq_eq_false_iff_ne.mpr c10
    have c10b1 : (((rd_T132 l0 x5_1).f5) != (wrap64 ((wrap64 ((wrap64 ((wrap64 ((wrap64 (x1_1 + 1)) + 1)) + 1)) + 1)) + 1))) = true := bne_iff_ne.mpr c10
    obtain rfl := Option.some.inj H
    have p122 : 0 ≤ (x5_1 : Int) := za
    have q122 : x5_1 < (l0.length : Int) := za
    obtain ⟨ad122, e122, hx122_0, hx122_1, hx122_2, hx122_3, hx122_4, hx122_5, hx122_6⟩ := at_T132 HR0.out x5_1 p122 q122
    cases e122
    replace p122 := eq_true p122
    replace q122 := eq_true q122
    have p123 : 0 ≤ (x5_1 : Int) := za
    have q123 : x5_1 < (l0.length : Int) := za
    obtain ⟨ad123, e123, hx123_0, hx123_1, hx123_2, hx123_3, hx123_4, hx123_5, hx123_6⟩ := at_T132 HR0.out x5_1 p123 q123
    obtain rfl : ad122 = ad123 := (by injection e123)
    replace p123 := eq_true p123
    replace q123 := eq_true q123
    have p124 : 0 ≤ (x5_1 : Int) := za
    have q124 : x5_1 < (l0.length : Int) := za
    obtain ⟨ad124, e124, hx124_0, hx124_1, hx124_2, hx124_3, hx124_4, hx124_5, hx124_6⟩ := at_T132 HR0.out x5_1 p124 q124
    obtain rfl : ad122 = ad124 := (by injection e124)
    replace p124 := eq_true p124
    replace q124 := eq_true q124
    have p125 : 0 ≤ (x5_1 : Int) := za
    have q125 : x5_1 < (l0.length : Int) := za
    obtain ⟨ad125, e125, hx125_0, hx125_1, hx125_2, hx125_3, hx125_4, hx125_5, hx125_6⟩ := at_T132 HR0.out x5_1 p125 q125
    obtain rfl : ad122 = ad125 := (by injection e125)
    replace p125 := eq_true p125
    replace q125 := eq_true q125
    have p126 : 0 ≤ (x5_1 : Int) := za
    have q126 : x5_1 < (l0.length : Int) := za
    obtain ⟨ad126, e126, hx126_0, hx126_1, hx126_2, hx126_3, hx126_4, hx126_5, hx126_6⟩ := at_T132 HR0.out x5_1 p126 q126
    obtain rfl : ad122 = ad126 := (by injection e126)
    replace p126 := eq_true p126
    replace q126 := eq_true q126
    have p127 : 0 ≤ (x5_1 : Int) := za
    have q127 : x5_1 < (l0.length : Int) := za
    obtain ⟨ad127, e127, hx127_0, hx127_1, hx127_2, hx127_3, hx127_4, hx127_5, hx127_6⟩ := at_T132 HR0.out x5_1 p127 q127
    obtain rfl : ad122 = ad127 := (by injection e127)
    replace p127 := eq_true p127
    replace q127 := eq_true q127
    go_wp2
    go_ret
    exact ⟨by first | rfl | (simp; done) | (simp [*]; done), by repeat (first | exact Drawn0.refl _ | apply Drawn0.step)⟩
   rw [if_pos c10] at H
   have c10b0 : (((rd_T132 l0 x5_1).f5) == (wrap64 ((wrap64 ((wrap64 ((wrap64 ((wrap64 (x1_1 + 1)) + 1)) + 1)) + 1)) + 1))) = true := beq_iff_eq.mpr c10
   have c10b1 : (((rd_T132 l0 x5_1).f5) != (wrap64 ((wrap64 ((wrap64 ((wrap64 ((wrap64 (x1_1 + 1)) + 1)) + 1)) + 1)) + 1))) = false := bne_eq_false_iff_eq.mpr c10
   clear c10
   by_cases c11 : (((rd_T132 l0 x5_1).f6) != ((Int.tmod (wrap64 ((wrap64 ((wrap64 ((wrap64 ((wrap64 ((wrap64 (x1_1 + 1)) + 1)) + 1)) + 1)) + 1)) + 1)) 3) == 0)) = true
   ·rw [if_pos c11] at H
    have c11b0 : (((rd_T132 l0 x5_1).f6) != ((Int.tmod (wrap64 ((wrap64 ((wrap64 ((wrap64 ((wrap64 ((wrap64 (x1_1 + 1)) + 1)) + 1)) + 1)) + 1)) + 1)) 3) == 0)) = true := c11
    (try (have c11b1 : decide (((rd_T132 l0 x5_1).f6) = ((Int.tmod (wrap64 ((wrap64 ((wrap64 ((wrap64 ((wrap64 ((wrap64 (x1_1 + 1)) + 1)) + 1)) + 1)) + 1)) + 1)) 3) == 0)) = false := by simpa using c11))
    (try (have c11b2 : (((rd_T132 l0 x5_1).f6) == ((Int.tmod (wrap64 ((wrap64 ((wrap64 ((wrap64 ((wrap64 ((wrap64 (x1_1 + 1)) + 1)) + 1)) + 1)) + 1)) + 1)) 3) == 0)) = false := by simpa using c11))
    (try (have c11b3 : ¬ (((rd_T132 l0 x5_1).f6) = ((Int.tmod (wrap64 ((wrap64 ((wrap64 ((wrap64 ((wrap64 ((wrap64 (x1_1 + 1)) + 1)) + 1)) + 1)) + 1)) + 1)) 3) == 0)) := by simpa using c11))
    clear c11
    obtain rfl := Option.some.inj H
    have p122 : 0 ≤ (x5_1 : Int) := za
    have q122 : x5_1 < (l0.length : Int) := za
    obtain ⟨ad122, e122, hx122_0, hx122_1, hx122_2, hx122_3, hx122_4, hx122_5, hx122_6⟩ := at_T132 HR0.out x5_1 p122 q122
    cases e122
    replace p122 := eq_true p122
    replace q122 := eq_true q122
    have p123 : 0 ≤ (x5_1 : Int) := za
    have q123 : x5_1 < (l0.length : Int) := za
    obtain ⟨ad123, e123, hx123_0, hx123_1, hx123_2, hx123_3, hx123_4, hx123_5, hx123_6⟩ := at_T132 HR0.out x5_1 p123 q123
    obtain rfl : ad122 = ad123 := (by injection e123)
    replace p123 := eq_true p123
    replace q123 := eq_true q123
    have p124 : 0 ≤ (x5_1 : Int) := za
    have q124 : x5_1 < (l0.length : Int) := za
    obtain ⟨ad124, e124, hx124_0, hx124_1, hx124_2, hx124_3, hx124_4, hx124_5, hx124_6⟩ := at_T132 HR0.out x5_1 p124 q124
    obtain rfl : ad122 = ad124 := (by injection e124)
    replace p124 := eq_true p124
    replace q124 := eq_true q124
    have p125 : 0 ≤ (x5_1 : Int) := za
    have q125 : x5_1 < (l0.length : Int) := za
    obtain ⟨ad125, e125, hx125_0, hx125_1, hx125_2, hx125_3, hx125_4, hx125_5, hx125_6⟩ := at_T132 HR0.out x5_1 p125 q125
    obtain rfl : ad122 = ad125 := (by injection e125)
    replace p125 := eq_true p125
    replace q125 := eq_true q125
    have p126 : 0 ≤ (x5_1 : Int) := za
    have q126 : x5_1 < (l0.length : Int) := za
    obtain ⟨ad126, e126, hx126_0, hx126_1, hx126_2, hx126_3, hx126_4, hx126_5, hx126_6⟩ := at_T132 HR0.out x5_1 p126 q126
    obtain rfl : ad122 = ad126 := (by injection e126)
    replace p126 := eq_true p126
    replace q126 := eq_true q126
    have p127 : 0 ≤ (x5_1 : Int) := za
    have q127 : x5_1 < (l0.length : Int) := za
    obtain ⟨ad127, e127, hx127_0, hx127_1, hx127_2, hx127_3, hx127_4, hx127_5, hx127_6⟩ := at_T132 HR0.out x5_1 p127 q127
    obtain rfl : ad122 = ad127 := (by injection e127)
    replace p127 := eq_true p127
    replace q127 := eq_true q127
    have p128 : 0 ≤ (x5_1 : Int) := za
    have q128 : x5_1 < (l0.length : Int) := za
    obtain ⟨ad128, e128, hx128_0, hx128_1, hx128_2, hx128_3, hx128_4, hx128_5, hx128_6⟩ := at_T132 HR0.out x5_1 p128 q128
    obtain rfl : ad122 = ad128 := (by injection e128)
    replace p128 := eq_true p128
    replace q128 := eq_true q128
    go_wp2
    go_ret
    exact ⟨by first | rfl | (simp; done) | (simp [*]; done), by repeat (first | exact Drawn0.refl _ | apply Drawn0.step)⟩
   rw [if_neg c11] at H
   have c11b0 : (((rd_T132 l0 x5_1).f6) != ((Int.tmod (wrap64 ((wrap64 ((wrap64 ((wrap64 ((wrap64 ((wrap64 (x1_1 + 1)) + 1)) + 1)) + 1)) + 1)) + 1)) 3) == 0)) = false := by simpa using c11
   (try (have c11b1 : decide (((rd_T132 l0 x5_1).f6) = ((Int.tmod (wrap64 ((wrap64 ((wrap64 ((wrap64 ((wrap64 ((wrap64 (x1_1 + 1)) + 1)) + 1)) + 1)) + 1)) + 1)) 3) == 0)) = true := by simpa using c11))
   (try (have c11b2 : (((rd_T132 l0 x5_1).f6) == ((Int.tmod (wrap64 ((wrap64 ((wrap64 ((wrap64 ((wrap64 ((wrap64 (x1_1 + 1)) + 1)) + 1)) + 1)) + 1)) + 1)) 3) == 0)) = true := by simpa using c11))
   clear c11
   have H' := zA H
   clear H
   have p122 : 0 ≤ (x5_1 : Int) := za
   have q122 : x5_1 < (l0.length : Int) := za
   obtain ⟨ad122, e122, hx122_0, hx122_1, hx122_2, hx122_3, hx122_4, hx122_5, hx122_6⟩ := at_T132 HR0.out x5_1 p122 q122
   cases e122
   replace p122 := eq_true p122
   replace q122 := eq_true q122
   have p123 : 0 ≤ (x5_1 : Int) := za
   have q123 : x5_1 < (l0.length : Int) := za
   obtain ⟨ad123, e123, hx123_0, hx123_1, hx123_2, hx123_3, hx123_4, hx123_5, hx123_6⟩ := at_T132 HR0.out x5_1 p123 q123
   obtain rfl : ad122 = ad123 := (by injection e123)
   replace p123 := eq_true p123
   replace q123 := eq_true q123
   have p124 : 0 ≤ (x5_1 : Int) := za
   have q124 : x5_1 < (l0.length : Int) := za
   obtain ⟨ad124, e124, hx124_0, hx124_1, hx124_2, hx124_3, hx124_4, hx124_5, hx124_6⟩ := at_T132 HR0.out x5_1 p124 q124
   obtain rfl : ad122 = ad124 := (by injection e124)
   replace p124 := eq_true p124
   replace q124 := eq_true q124
   have p125 : 0 ≤ (x5_1 : Int) := za
   have q125 : x5_1 < (l0.length : Int) := za
   obtain ⟨ad125, e125, hx125_0, hx125_1, hx125_2, hx125_3, hx125_4, hx125_5, hx125_6⟩ := at_T132 HR0.out x5_1 p125 q125
   obtain rfl : ad122 = ad125 := (by injection e125)
   replace p125 := eq_true p125
   replace q125 := eq_true q125
   have p126 : 0 ≤ (x5_1 : Int) := za
   have q126 : x5_1 < (l0.length : Int) := za
   obtain ⟨ad126, e126, hx126_0, hx126_1, hx126_2, hx126_3, hx126_4, hx126_5, hx126_6⟩ := at_T132 HR0.out x5_1 p126 q126
   obtain rfl : ad122 = ad126 := (by injection e126)
   replace p126 := eq_true p126
   replace q126 := eq_true q126
   have p127 : 0 ≤ (x5_1 : Int) := za
   have q127 : x5_1 < (l0.length : Int) := za
   obtain ⟨ad127, e127, hx127_0, hx127_1, hx127_2, hx127_3, hx127_4, hx127_5, hx127_6⟩ := at_T132 HR0.out x5_1 p127 q127
   obtain rfl : ad122 = ad127 := (by injection e127)
   replace p127 := eq_true p127
   replace q127 := eq_true q127
   have p128 : 0 ≤ (x5_1 : Int) := za
   have q128 : x5_1 < (l0.length : Int) := za
   obtain ⟨ad128, e128, hx128_0, hx128_1, hx128_2, hx128_3, hx128_4, hx128_5, hx128_6⟩ := at_T132 HR0.out x5_1 p128 q128
   obtain rfl : ad122 = ad128 := (by injection e128)
   replace p128 := eq_true p128
   replace q128 := eq_true q128
   go_wp2
   go_roundg k1
   case measure => have := HK1.out; omega
   case rel => exact ⟨(wrap64 ((wrap64 ((wrap64 ((wrap64 ((wrap64 ((wrap64 ((wrap64 (x1_1 + 1)) + 1)) + 1)) + 1)) + 1)) + 1)) + 1)), (wrap64 (x5_1 + 1)), zi, zi, H', ⟨by have := HK1.out; omega⟩, by repeat (first | exact Drawn0.refl _ | apply Drawn0.step)⟩
def laws_heldFlyPath.f (k : Nat) (a0_0 : Int) (a0_1 : Int) (l0_2 : List (S132)) (a0_3 : Int) (a0_4 : Int) (a1 : Int) : Option (Int) := (laws_heldFlyStepS.f k l0_2 a1).bind fun t130 => (if t130 < 0 then (some (-1)) else (some t130))
set_option maxHeartbeats 8000000 in
set_option maxRecDepth 100000 in
theorem laws_heldFlyPath.calls (k : Nat) (a0_0 : Int) (a0_1 : Int) (A0_2 : Option Addr) (c0_2 : Nat) (l0_2 : List (S132)) (a0_3 : Int) (a0_4 : Int) (a1 : Int) (r : Int) (w : World) (hr0_2 : Kd.C k132 w A0_2 l0_2.length l0_2) (hc0_2 : l0_2.length ≤ c0_2) (h : laws_heldFlyPath.f k a0_0 a0_1 l0_2 a0_3 a0_4 a1 = some r) :
 Calls Try.prog 48 #[.agg #[.int .i64 a0_0, .int .i64 a0_1, .slice A0_2 l0_2.length c0_2, .int .i64 a0_3, .int .i64 a0_4], .int .i64 a1] w fun e w' => e = .returned (.int .i64 r) ∧ Below w.heap.size w w' := by
 have hu68 := Try.underlying68
 have HR0_2 := zA hr0_2
 have HC0_2 := zA hc0_2
 clear hr0_2 hc0_2
 have HB := zA (Below.refl w.heap.size w)
 have H : ((laws_heldFlyStepS.f k l0_2 a1).bind fun t130 => (if t130 < 0 then (some (-1)) else (some t130))) = some r := h
 clear h
 replace H := zbd H; obtain ⟨t130, A3, H⟩ := H
 by_cases c4 : t130 < 0
 ·rw [if_pos c4] at H
  have c4b0 : decide (t130 < 0) = true := decide_eq_true c4
  clear c4
  obtain rfl := Option.some.inj H
  go_enter Try.func48, Try.ntmps48
  go_wp2_with (first | ((with_reducible refine gate_dst (N := 2) rfl ?_); refine zbx 2 #[.int .i64 a0_0, .int .i64 a0_1, .slice A0_2 l0_2.length c0_2, .int .i64 a0_3, .int .i64 a0_4] 68 ?_; intro gb129 hg w5 hbox hb; have BK129 := zA hbox; have GW129 := zgs hg (zs0 HB); have GE129 := zgs hg (zs0 HB); replace HB := zE (zs0 HB) hb; clear hb hbox hg; obtain ⟨hcz6_0, hcz6_1, hcz6_2, hcz6_3, hcz6_4⟩ := zd5 BK129; obtain ⟨hfz6_0, hfz6_1, hfz6_2, hfz6_3, hfz6_4⟩ := zn5 BK129) | ((with_reducible refine gate_callee (f := 102) rfl ?_); refine zgl (N := some 8) Try.func102 #[.slice A0_2 l0_2.length c0_2, .int .i64 a1] ?_; (with_reducible refine (laws_heldFlyStepS.calls k _ _ l0_2 a1 t130 _ ?side1 ?side2 A3.out).mono ?_); (case side1 => exact zC HR0_2 HB); (case side2 => exact HC0_2.out); rintro e w' ⟨rfl, ⟨nd, rfl⟩⟩; refine ⟨_, rfl, ?_⟩))
  go_ret
  exact ⟨ze, zs1 HB GE129⟩
 rw [if_neg c4] at H
 have c4b0 : decide (t130 < 0) = false := decide_eq_false c4
 clear c4
 obtain rfl := Option.some.inj H
 go_enter Try.func48, Try.ntmps48
 go_wp2_with (first | ((with_reducible refine gate_dst (N := 2) rfl ?_); refine zbx 2 #[.int .i64 a0_0, .int .i64 a0_1, .slice A0_2 l0_2.length c0_2, .int .i64 a0_3, .int .i64 a0_4] 68 ?_; intro gb129 hg w7 hbox hb; have BK129 := zA hbox; have GW129 := zgs hg (zs0 HB); have GE129 := zgs hg (zs0 HB); replace HB := zE (zs0 HB) hb; clear hb hbox hg; obtain ⟨hcz8_0, hcz8_1, hcz8_2, hcz8_3, hcz8_4⟩ := zd5 BK129; obtain ⟨hfz8_0, hfz8_1, hfz8_2, hfz8_3, hfz8_4⟩ := zn5 BK129) | ((with_reducible refine gate_callee (f := 102) rfl ?_); refine zgl (N := some 8) Try.func102 #[.slice A0_2 l0_2.length c0_2, .int .i64 a1] ?_; (with_reducible refine (laws_heldFlyStepS.calls k _ _ l0_2 a1 t130 _ ?side1 ?side2 A3.out).mono ?_); (case side1 => exact zC HR0_2 HB); (case side2 => exact HC0_2.out); rintro e w' ⟨rfl, ⟨nd, rfl⟩⟩; refine ⟨_, rfl, ?_⟩))
 go_ret
 exact ⟨ze, zs1 HB GE129⟩
def laws_szFlyStepS.f (l0 : List (S170)) (a1 : Int) : Option (Int) := if (wrap64 (a1 - (l0.length : Int))) < 0 then (some (-1)) else (some (wrap64 (a1 - (l0.length : Int))))
set_option maxHeartbeats 8000000 in
set_option maxRecDepth 100000 in
theorem laws_szFlyStepS.calls (A0 : Option Addr) (c0 : Nat) (l0 : List (S170)) (a1 : Int) (r : Int) (w : World) (hr0 : Kd.C k170 w A0 l0.length l0) (hc0 : l0.length ≤ c0) (h : laws_szFlyStepS.f l0 a1 = some r) :
 Calls Try.prog 118 #[.slice A0 l0.length c0, .int .i64 a1] w fun e w' => e = .returned (.int .i64 r) ∧ Drawn0 w w' := by
 have HR0 := zA hr0
 have HC0 := zA hc0
 clear hr0 hc0
 have H : (if (wrap64 (a1 - (l0.length : Int))) < 0 then (some (-1)) else (some (wrap64 (a1 - (l0.length : Int))))) = some r := h
 clear h
 by_cases c3 : (wrap64 (a1 - (l0.length : Int))) < 0
 ·rw [if_pos c3] at H
  have c3b0 : decide ((wrap64 (a1 - (l0.length : Int))) < 0) = true := decide_eq_true c3
  clear c3
  obtain rfl := Option.some.inj H
  go_enter Try.func118, Try.ntmps118
  go_wp2
  go_ret
  exact ⟨by first | rfl | (simp; done) | (simp [*]; done), by repeat (first | exact Drawn0.refl _ | apply Drawn0.step)⟩
 rw [if_neg c3] at H
 have c3b0 : decide ((wrap64 (a1 - (l0.length : Int))) < 0) = false := decide_eq_false c3
 clear c3
 obtain rfl := Option.some.inj H
 go_enter Try.func118, Try.ntmps118
 go_wp2
 go_ret
 exact ⟨by first | rfl | (simp; done) | (simp [*]; done), by repeat (first | exact Drawn0.refl _ | apply Drawn0.step)⟩
def laws_szFlyPath.f (a0_0 : Int) (a0_1 : Int) (l0_2 : List (S170)) (a0_3 : Int) (a0_4 : Int) (a1 : Int) : Option (Int) := (laws_szFlyStepS.f l0_2 a1).bind fun t132 => (if t132 < 0 then (some (-1)) else (some t132))
set_option maxHeartbeats 8000000 in
set_option maxRecDepth 100000 in
theorem laws_szFlyPath.calls (a0_0 : Int) (a0_1 : Int) (A0_2 : Option Addr) (c0_2 : Nat) (l0_2 : List (S170)) (a0_3 : Int) (a0_4 : Int) (a1 : Int) (r : Int) (w : World) (hr0_2 : Kd.C k170 w A0_2 l0_2.length l0_2) (hc0_2 : l0_2.length ≤ c0_2) (h : laws_szFlyPath.f a0_0 a0_1 l0_2 a0_3 a0_4 a1 = some r) :
 Calls Try.prog 62 #[.agg #[.int .i64 a0_0, .int .i64 a0_1, .slice A0_2 l0_2.length c0_2, .int .i64 a0_3, .int .i64 a0_4], .int .i64 a1] w fun e w' => e = .returned (.int .i64 r) ∧ Below w.heap.size w w' := by
 have hu91 := Try.underlying91
 have HR0_2 := zA hr0_2
 have HC0_2 := zA hc0_2
 clear hr0_2 hc0_2
 have HB := zA (Below.refl w.heap.size w)
 have H : ((laws_szFlyStepS.f l0_2 a1).bind fun t132 => (if t132 < 0 then (some (-1)) else (some t132))) = some r := h
 clear h
 replace H := zbd H; obtain ⟨t132, A3, H⟩ := H
 by_cases c4 : t132 < 0
 ·rw [if_pos c4] at H
  have c4b0 : decide (t132 < 0) = true := decide_eq_true c4
  clear c4
  obtain rfl := Option.some.inj H
  go_enter Try.func62, Try.ntmps62
  go_wp2_with (first | ((with_reducible refine gate_dst (N := 2) rfl ?_); refine zbx 2 #[.int .i64 a0_0, .int .i64 a0_1, .slice A0_2 l0_2.length c0_2, .int .i64 a0_3, .int .i64 a0_4] 91 ?_; intro gb131 hg w5 hbox hb; have BK131 := zA hbox; have GW131 := zgs hg (zs0 HB); have GE131 := zgs hg (zs0 HB); replace HB := zE (zs0 HB) hb; clear hb hbox hg; obtain ⟨hcz6_0, hcz6_1, hcz6_2, hcz6_3, hcz6_4⟩ := zd5 BK131; obtain ⟨hfz6_0, hfz6_1, hfz6_2, hfz6_3, hfz6_4⟩ := zn5 BK131) | ((with_reducible refine gate_callee (f := 118) rfl ?_); refine zgl (N := some 8) Try.func118 #[.slice A0_2 l0_2.length c0_2, .int .i64 a1] ?_; (with_reducible refine (laws_szFlyStepS.calls _ _ l0_2 a1 t132 _ ?side1 ?side2 A3.out).mono ?_); (case side1 => exact zC HR0_2 HB); (case side2 => exact HC0_2.out); rintro e w' ⟨rfl, ⟨nd, rfl⟩⟩; refine ⟨_, rfl, ?_⟩))
  go_ret
  exact ⟨ze, zs1 HB GE131⟩
 rw [if_neg c4] at H
 have c4b0 : decide (t132 < 0) = false := decide_eq_false c4
 clear c4
 obtain rfl := Option.some.inj H
 go_enter Try.func62, Try.ntmps62
 go_wp2_with (first | ((with_reducible refine gate_dst (N := 2) rfl ?_); refine zbx 2 #[.int .i64 a0_0, .int .i64 a0_1, .slice A0_2 l0_2.length c0_2, .int .i64 a0_3, .int .i64 a0_4] 91 ?_; intro gb131 hg w7 hbox hb; have BK131 := zA hbox; have GW131 := zgs hg (zs0 HB); have GE131 := zgs hg (zs0 HB); replace HB := zE (zs0 HB) hb; clear hb hbox hg; obtain ⟨hcz8_0, hcz8_1, hcz8_2, hcz8_3, hcz8_4⟩ := zd5 BK131; obtain ⟨hfz8_0, hfz8_1, hfz8_2, hfz8_3, hfz8_4⟩ := zn5 BK131) | ((with_reducible refine gate_callee (f := 118) rfl ?_); refine zgl (N := some 8) Try.func118 #[.slice A0_2 l0_2.length c0_2, .int .i64 a1] ?_; (with_reducible refine (laws_szFlyStepS.calls _ _ l0_2 a1 t132 _ ?side1 ?side2 A3.out).mono ?_); (case side1 => exact zC HR0_2 HB); (case side2 => exact HC0_2.out); rintro e w' ⟨rfl, ⟨nd, rfl⟩⟩; refine ⟨_, rfl, ?_⟩))
 go_ret
 exact ⟨ze, zs1 HB GE131⟩
end Go.Proofs.Ytbmplfpnhjhoiaa.QFnExactFlyRest
