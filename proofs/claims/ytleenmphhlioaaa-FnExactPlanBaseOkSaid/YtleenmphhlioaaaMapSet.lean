/-
  A set of pairs of small numbers as a map[[2]int]bool of the call's own: what a look-up tells, what a store does.
-/
import Derived.Maps.OwnSet
import Derived.Maps.Keyed
import Derived.DeepKeys4
import Derived.Laws.Cover1
import Derived.Test.YtleenmphhlioaaaXs
import Derived.Test.YtleenmphhlioaaaQFnExactPlanBaseOkx0
namespace Go.Proofs.Ytleenmphhlioaaa.QFnExactPlanBaseOk
open Go Go.RowKit Go.Proofs.YtleenmphhlioaaaW.PrintWords Go.Proofs.YtleenmphhlioaaaW.PrintLast Go.Proofs.YtleenmphhlioaaaW.PrintMore Go.Proofs.Ytleenmphhlioaaa.Z
set_option maxRecDepth 100000
set_option linter.unusedVariables false
def kvI (x y : Int) : Value := .agg #[.int .i64 x, .int .i64 y]
theorem law46 : Maps.Keyed Try.prog 46 := Maps.Keyed.of_law (deep_law_laid (m := 5) (by kernel_rfl) (by decide) (of_decide_eq_true (by kernel_rfl)) (by kernel_rfl) (by kernel_rfl))
theorem zero4 (w : World) : (zeroValue 4).run Try.prog w = .ok (.bool false) w := by kernel_rfl
theorem keysAll : ((List.range 16).all fun x => (List.range 16).all fun y => (keyOf Try.prog 46 (kvI (x : Int) (y : Int))).isSome) = true := by kernel_rfl
theorem key_ex {x y : Int} (hx : 0 ≤ x ∧ x ≤ 15) (hy : 0 ≤ y ∧ y ≤ 15) : ∃ kl, keyOf Try.prog 46 (kvI x y) = some kl := by
  have h := List.all_eq_true.1 (List.all_eq_true.1 keysAll x.toNat (List.mem_range.2 (by omega))) y.toNat (List.mem_range.2 (by omega))
  rw [show ((x.toNat : Nat) : Int) = x by omega, show ((y.toNat : Nat) : Int) = y by omega] at h
  exact Option.isSome_iff_exists.1 h
def SetIs (w : World) (b n : Nat) (cs : List (Int × Int)) : Prop :=
  ∃ D : DataW Unit, w.ownsMap Try.prog 46 (plainElem Try.prog 4) b n D ∧ ∀ (x y : Int) (kl : Lit), keyOf Try.prog 46 (kvI x y) = some kl → D.atKey kl (.lit (.bool false)) = .lit (.bool (decide ((x, y) ∈ cs)))
theorem SetIs.block {w : World} {b n : Nat} {cs : List (Int × Int)} (h : SetIs w b n cs) : ∃ em : Obj, w.heap[b]? = some em ∧ ∀ w' : World, w'.heap[b]? = some em → SetIs w' b n cs := by
  obtain ⟨D, ⟨es, clock, hb, r⟩, hD⟩ := h
  exact ⟨_, hb, fun w' hw => ⟨D, ⟨es, clock, hw, r⟩, hD⟩⟩
theorem SetIs.made {w : World} {b : Nat} (h : w.heap[b]? = some (.map #[] 0)) : SetIs w b 0 [] := by
  obtain ⟨es, clock, hb, F, hs, hD⟩ := World.ownsMap_made (H := Unit) w Try.prog 46 (plainElem Try.prog 4)
  have e1 : (w.alloc (.map #[] 0)).heap[w.heap.size]? = some (.map #[] 0) := (MapKept.heap_alloc w _).1
  rw [e1] at hb
  injection hb with hb
  injection hb with h1 h2
  subst h1 h2
  exact ⟨.map [], ⟨#[], 0, h, F, hs, hD⟩, fun x y kl _ => by simp [DataW.atKey]⟩
theorem plainBool_inv {v : Value} {z : DataW Unit × List MemPlace} (h : plainElem Try.prog 4 v = some z) : ∃ c, v = .bool c ∧ z.1 = .lit (.bool c) := by
  cases v with
  | bool c =>
    simp [plainElem, Try.underlying4] at h
    exact ⟨c, rfl, by rw [← h]⟩
  | _ => simp [plainElem, Try.underlying4] at h
theorem SetIs.look {w : World} {b n : Nat} {cs : List (Int × Int)} (h : SetIs w b n cs) {x y : Int} (hx : 0 ≤ x ∧ x ≤ 15) (hy : 0 ≤ y ∧ y ≤ 15) : (Instr.lookup 45 (.map (some b)) (kvI x y) false).run Try.prog w = .ok (.bool (decide ((x, y) ∈ cs))) w := by
  obtain ⟨kl, hkl⟩ := key_ex hx hy
  obtain ⟨D, hown, hD⟩ := h
  obtain ⟨v, ps, hrun, hv⟩ := hown.lookup law46 Try.underlying45 (zero4 w) (plainElem_bool Try.underlying4 false) hkl
  obtain ⟨c, rfl, hc⟩ := plainBool_inv hv
  rw [hD x y kl hkl] at hc
  injection hc with hc
  injection hc with hc
  rw [hrun, hc]
theorem SetIs.put {w : World} {b n : Nat} {cs : List (Int × Int)} (h : SetIs w b n cs) (hn : n < maxLen) {x y : Int} (hx : 0 ≤ x ∧ x ≤ 15) (hy : 0 ≤ y ∧ y ≤ 15) : ∃ w', (Instr.mapUpdate 45 (.map (some b)) (kvI x y) (.bool true)).run Try.prog w = .ok () w' ∧ SetIs w' b (n + 1) (cs ++ [(x, y)]) ∧ w.grownBy w' (some b) := by
  obtain ⟨kl, hkl⟩ := key_ex hx hy
  obtain ⟨D, hown, hD⟩ := h
  obtain ⟨w', hrun, hown', hg⟩ := hown.update law46 Try.underlying45 hn hkl (plainElem_bool Try.underlying4 true)
  refine ⟨w', hrun, ⟨_, hown', fun x' y' kl' hk' => ?_⟩, hg⟩
  by_cases he : kl' = kl
  · subst he
    have e := law46.inj hk' hkl
    have exy : (x', y') = (x, y) := by
      unfold kvI at e
      simp only [Value.agg.injEq, Array.mk.injEq, List.cons.injEq, Value.int.injEq, true_and, and_true] at e
      rw [e.1, e.2]
    rw [Maps.atKey_put_same hown.isMap (law46.key hkl), decide_eq_true (by rw [exy]; simp)]
  · rw [Maps.atKey_put_other he, hD x' y' kl' hk']
    congr 2
    refine decide_eq_decide.2 ⟨fun hm => List.mem_append_left _ hm, fun hm => ?_⟩
    rcases List.mem_append.1 hm with hm | hm
    · exact hm
    · simp only [List.mem_singleton, Prod.mk.injEq] at hm
      rw [hm.1, hm.2, hkl] at hk'
      exact absurd (Option.some.inj hk').symm he
section
variable {P : Program} {ops : Array Oper} {rest : List Oper} {o : Oper} {a : Act} {Q : Exit → Act → World → Prop} {W : World}
theorem zmk (M : Tmp) (h : ∀ g, g = W.heap.size → ∀ w1, w1.heap[g]? = some (.map #[] 0) → Below W.heap.size W w1 → wpList P ops Q rest (a.put o.dst (.map (some g))) w1) (hgd : o.guard = none := by rfl) (hd : o.dst = some M := by rfl) (hop : o.op = Op.makeMap 45 none := by rfl) : wpList P ops Q (o :: rest) a W := by
  refine wpList_plain hgd fun K' hK' => ?_
  unfold Oper.wp
  simp only [execOp, hop]
  exact hK' _ _ (h _ rfl _ (MapKept.heap_alloc W _).1 ((Below.refl _ _).alloc (Nat.le_refl _) _))
theorem zput_ {w : World} {b n : Nat} {cs : List (Int × Int)} (x y : Int) (hS : SetIs w b n cs) (hn : n < maxLen) (hx : 0 ≤ x ∧ x ≤ 15) (hy : 0 ≤ y ∧ y ≤ 15)
    (hK : ∀ w', SetIs w' b (n + 1) (cs ++ [(x, y)]) → w.grownBy w' (some b) → wpList Try.prog ops Q rest (a.put o.dst undef) w')
    (hgd : o.guard = none := by rfl) (hop : o.op = Op.mapUpdate 45 (.tmp 85) (.tmp 86) (.const (.bool true)) := by rfl) (hm : a.eval (.tmp 85) = .map (some b) := by rfl) (hx2 : a.eval (.tmp 86) = kvI x y := by rfl) : wpList Try.prog ops Q (o :: rest) a w := by
  refine wpList_plain hgd fun K' hK' => ?_
  obtain ⟨w', hrun, h1, h2⟩ := hS.put hn hx hy
  have hv : a.eval (.const (.bool true)) = .bool true := rfl
  unfold Oper.wp
  simp [execOp, hop, hm, hx2, hv, hrun, Result.andThen]
  exact hK' _ _ (hK w' h1 h2)
end
theorem leq_list : ∀ (a b : List UInt8), (Op.bytesLess a b || a == b) = !(Op.bytesLess b a)
  | [], [] => rfl
  | [], _ :: _ => rfl
  | _ :: _, [] => rfl
  | a :: x, b :: y => by
    have ih := leq_list x y
    have h3 : (a :: x == b :: y) = (a == b && x == y) := rfl
    unfold Op.bytesLess
    rw [h3]
    rcases Nat.lt_trichotomy a.toNat b.toNat with h | h | h
    · have h1 : a < b := h
      have h2 : ¬ b < a := fun e => Nat.lt_asymm h e
      have h4 : (b == a) = false := beq_eq_false_iff_ne.2 (fun e => by rw [e] at h; exact Nat.lt_irrefl _ h)
      simp [h1, h2, h4]
    · obtain rfl : a = b := UInt8.toNat_inj.mp h
      have h2 : ¬ a < a := fun e => Nat.lt_irrefl _ e
      simp only [h2, decide_false, Bool.false_or, beq_self_eq_true, Bool.true_and]
      exact ih
    · have h1 : b < a := h
      have h2 : ¬ a < b := fun e => Nat.lt_asymm h e
      have h4 : (a == b) = false := beq_eq_false_iff_ne.2 (fun e => by rw [e] at h; exact Nat.lt_irrefl _ h)
      simp [h1, h2, h4]
theorem leq_alt (t : TypeId) (a b : ByteArray) : binOp .leq t (.string a) (.string b) = pure (.bool !(Op.bytesLess b.toList a.toList)) := by rw [binOp_string_leq, leq_list]
theorem zbo {w : World} {g g' i : Nat} {o : Obj} (h : w.heap[g]? = some o) (hp : g ≠ g') (u : Value) : (w.setCell ⟨g', i, none⟩ u).heap[g]? = some o := (Below.heap_setCell w ⟨g', i, none⟩ u g hp).trans h
theorem zmf {w W : World} {g g' : Nat} {o : Obj} (H : Aside0 (w.heap[g]? = some o)) (N : Aside0 (g ≠ g')) (h : w.heap[g]? = some o → g ≠ g' → W.heap[g]? = some o := by intro a b; (repeat (first | with_reducible exact a | with_reducible refine blk_drewN ?_ _ | with_reducible refine blk_drew ?_ | with_reducible refine blk_alloc ?_ _ | with_reducible apply zbo (hp := b)))) : W.heap[g]? = some o := h H.out N.out
theorem w64_ {n : Int} (h : -9223372036854775808 ≤ n) (h' : n ≤ 9223372036854775807) : wrap64 n = n := by unfold wrap64; omega
section
variable {md : Region.Mode} {ops : Array Oper} {Q : Exit → Act → World → Prop} {S : World → Prop} {ds : List Nat} {fuel : Nat} {l l' : Array Bool} {a a' : Act} {w : World} {T : Bool × List (List Nat × List Nat)} {B : List Nat} {o2 : TypeId} {o3 : String} {o4 : Array Edge} {o5 : Option (Nat × Bool)}
theorem zlook (G : Aside0 (rtab md ops = T)) (V : Aside0 (waitsOk T.2 B = true)) (hS : S w) (i : Nat) {x y : Int} {b n : Nat} {em : Obj} {cs : List (Int × Int)} (hx : 0 ≤ x ∧ x ≤ 15) (hy : 0 ≤ y ∧ y ≤ 15) (hM : ∀ W_ : World, W_.heap[b]? = some em → SetIs W_ b n cs) (hSm : ∀ w, S w → w.heap[b]? = some em)
    (h : wpAnyLast Try.prog md ops Q S ds fuel l' a' w)
    (z : ops[i]? = some (⟨some 67, Op.lookup 45 (.tmp 65) (.tmp 66) false, o2, o3, o4, o5⟩ : Oper) ∧ l.setIfInBounds i true = l' ∧ takeW T B ds l.toList l'.toList i = true ∧ Region.wanted (⟨some 67, Op.lookup 45 (.tmp 65) (.tmp 66) false, o2, o3, o4, o5⟩ : Oper) (yielded ops a.tmps) = true ∧ (a.eval (.tmp 65) = .map (some b) ∧ a.eval (.tmp 66) = kvI x y) ∧ a.put (some 67) (.bool (decide ((x, y) ∈ cs))) = a' := by
      refine ⟨?_, ?_, ?_, ?_, ?_, ?_⟩
      · rfl
      · (simp only [List.setIfInBounds_toArray, List.set_cons_zero, List.set_cons_succ]; rfl)
      · kernel_rfl
      · rfl
      · exact ⟨rfl, rfl⟩
      · (simp only [Act.put, List.setIfInBounds_toArray, List.set_cons_zero, List.set_cons_succ]; rfl)) (hQ : ∀ c a w, Q (.panic c) (a.put (some 67) (.bool (decide ((x, y) ∈ cs)))) w → Q (.panic c) a w := by exact fun _ _ _ h => h) : wpAnyLast Try.prog md ops Q S ds (fuel + 1) l a w := by
  have hrun : ∀ w, S w → (execOp a.eval (⟨some 67, Op.lookup 45 (.tmp 65) (.tmp 66) false, o2, o3, o4, o5⟩ : Oper)).run Try.prog w = .ok (.value (.bool (decide ((x, y) ∈ cs)))) w := by
    intro w hw
    have e := (hM w (hSm w hw)).look hx hy
    have h65 := z.2.2.2.2.1.1
    have h66 := z.2.2.2.2.1.2
    simp [execOp, h65, h66, e, Result.andThen]
  exact take_ l' z.1 rfl (take_ofW G.out V.out z.2.2.1) hQ (Or.inl ⟨z.2.2.2.1, hrun⟩) hS z.2.2.2.2.2 h
end
end Go.Proofs.Ytleenmphhlioaaa.QFnExactPlanBaseOk
