/- The walk of what the law FnExactPlanForm reaches: laid by a program of this session (ownprint.py). -/
import Derived.Test.YtkphmngnanccbaaDoorQFnExactPlanFormx0
import Derived.Shelf.Strings.Search3
import Derived.Test.YtkphmngnanccbaaDoorShelf
import Derived.Test.YtkphmngnanccbaaDoorQFnExactPlanFormx1
import Derived.Test.YtkphmngnanccbaaDoorQFnExactPlanFormx3
import Derived.Test.YtkphmngnanccbaaDoorQFnExactPlanFormx4
import Derived.Test.YtkphmngnanccbaaDoorQFnExactPlanFormx5
namespace Go.Proofs.YtkphmngnanccbaaDoor.QFnExactPlanForm
open Go Go.RowKit Go.Proofs.YtkphmngnanccbaaDoorW.PrintWords Go.Proofs.YtkphmngnanccbaaDoorW.PrintLast Go.Proofs.YtkphmngnanccbaaDoorW.PrintMore Go.Proofs.YtkphmngnanccbaaDoor.Z
attribute [local go_sem] max2_int min2_int max_two min_two max_three min_three max_four min_four zdn   -- for this text's walks alone
set_option linter.unusedVariables false
set_option linter.unusedSimpArgs false
/-- What the walk asks of the world: the words lie in their package variable; the library's table lies. -/
def whatW : List ByteArray := [⟨#[]⟩, ⟨#[107, 105, 110, 100]⟩, ⟨#[116, 105, 109, 101]⟩, ⟨#[108, 101, 118, 101, 108]⟩, ⟨#[114, 111, 117, 116, 101]⟩, ⟨#[115, 116, 97, 116, 101]⟩]
def PlanLaid (w : World) : Prop := (∃ (ad : Addr) (cp : Nat), w.cell? ⟨0, 0, none⟩ = some (.slice (some ad) whatW.length cp) ∧ ∀ i : Int, 0 ≤ i → i < (whatW.length : Int) → w.cell? (ad.add i.toNat) = some (.string (rdOf ByteArray.empty whatW i))) ∧ 2 < w.heap.size ∧ Lib.TabIs Tryd.prog w "internal/strconv.uint64pow10" .u64 Lib.pow10Tab
theorem PlanLaid.below {w W : World} (hb : Below w.heap.size w W) (h : PlanLaid w) : PlanLaid W := by
 obtain ⟨⟨ad, cp, h1, h2⟩, h3, h4⟩ := h
 refine ⟨⟨ad, cp, zhc hb h1, fun i a b => zhc hb (h2 i a b)⟩, Nat.lt_of_lt_of_le h3 hb.size, ?_⟩
 have hg : Tryd.prog.globalNamed "internal/strconv.uint64pow10" = some 2 := by kernel_rfl
 unfold Lib.TabIs World.var? at h4 ⊢
 rw [hg] at h4 ⊢
 simp only [Option.bind_some] at h4 ⊢
 rw [hb.block 2 h3]
 exact h4
def strconv_Itoa_16.f (a0 : Int) : Option (ByteArray) := if -9223372036854775808 ≤ a0 then (if a0 ≤ 9223372036854775807 then some ⟨(Lib.itoa a0).toArray⟩ else none) else none
theorem strconv_Itoa_16.calls (a0 : Int) (r : ByteArray) (w : World) (h : strconv_Itoa_16.f a0 = some r) (hL : PlanLaid w) :
 Calls Tryd.prog 16 #[.int .i64 a0] w fun e w' => e = .returned (.string r) ∧ Below w.heap.size w w' := by
 unfold strconv_Itoa_16.f at h
 by_cases h0 : -9223372036854775808 ≤ a0
 · rw [if_pos h0] at h
   by_cases h1 : a0 ≤ 9223372036854775807
   · rw [if_pos h1] at h
     obtain rfl := Option.some.inj h
     refine (Tryd.strconv_Itoa a0 h0 h1 w hL.2.2).mono fun e w' ⟨he, k, os, hw⟩ => ?_
     subst hw
     exact ⟨he, ⟨rfl, rfl, rfl, by show _ ≤ (w.heap ++ os).size; rw [Array.size_append]; omega, fun k hk => by show (w.heap ++ os)[k]? = _; exact Array.getElem?_append_left hk⟩⟩
   · rw [if_neg h1] at h; cases h
 · rw [if_neg h0] at h; cases h
def impl_PlanForm.f (k : Nat) (a0_0 : ByteArray) (a0_1 : Int) (a0_2 : Int) (a0_3 : ByteArray) : Option (ByteArray) := ((impl_isName.f k a0_0).bind fun t154 => (if t154 = true then ((impl_within.f a0_1 1 5).bind fun t155 => (if t155 = true then ((impl_within.f a0_2 1 1000000).bind fun t156 => (if t156 = true then (if a0_3.toList = ([] : List UInt8) then (some (⟨#[]⟩ : ByteArray)) else ((strings_Contains.f a0_3 (⟨#[10]⟩ : ByteArray)).bind fun t157 => (if t157 = true then (some (⟨#[]⟩ : ByteArray)) else (if 4 + a0_0.size ≤ 9223372036854775807 then (if ((⟨#[115, 101, 116, 32]⟩ : ByteArray) ++ a0_0).size + 1 ≤ 9223372036854775807 then (if 0 ≤ a0_1 then (if a0_1 < (whatW.length : Int) then (if (((⟨#[115, 101, 116, 32]⟩ : ByteArray) ++ a0_0) ++ (⟨#[32]⟩ : ByteArray)).size + (rdOf ByteArray.empty whatW a0_1).size ≤ 9223372036854775807 then (if ((((⟨#[115, 101, 116, 32]⟩ : ByteArray) ++ a0_0) ++ (⟨#[32]⟩ : ByteArray)) ++ (rdOf ByteArray.empty whatW a0_1)).size + 1 ≤ 9223372036854775807 then ((strconv_Itoa_16.f a0_2).bind fun t159 => (if (((((⟨#[115, 101, 116, 32]⟩ : ByteArray) ++ a0_0) ++ (⟨#[32]⟩ : ByteArray)) ++ (rdOf ByteArray.empty whatW a0_1)) ++ (⟨#[32]⟩ : ByteArray)).size + t159.size ≤ 9223372036854775807 then (if ((((((⟨#[115, 101, 116, 32]⟩ : ByteArray) ++ a0_0) ++ (⟨#[32]⟩ : ByteArray)) ++ (rdOf ByteArray.empty whatW a0_1)) ++ (⟨#[32]⟩ : ByteArray)) ++ t159).size + 1 ≤ 9223372036854775807 then (if (((((((⟨#[115, 101, 116, 32]⟩ : ByteArray) ++ a0_0) ++ (⟨#[32]⟩ : ByteArray)) ++ (rdOf ByteArray.empty whatW a0_1)) ++ (⟨#[32]⟩ : ByteArray)) ++ t159) ++ (⟨#[32]⟩ : ByteArray)).size + a0_3.size ≤ 9223372036854775807 then (some ((((((((⟨#[115, 101, 116, 32]⟩ : ByteArray) ++ a0_0) ++ (⟨#[32]⟩ : ByteArray)) ++ (rdOf ByteArray.empty whatW a0_1)) ++ (⟨#[32]⟩ : ByteArray)) ++ t159) ++ (⟨#[32]⟩ : ByteArray)) ++ a0_3)) else (none)) else (none)) else (none))) else (none)) else (none)) else (none)) else (none)) else (none)) else (none))))) else (some (⟨#[]⟩ : ByteArray)))) else (some (⟨#[]⟩ : ByteArray)))) else (some (⟨#[]⟩ : ByteArray))))
def impl_PlanForm.T3 : Bool × List (List Nat × List Nat) := (true, [([], []), ([0], [0]), ([1], [1]), ([2], [2]), ([], []), ([], []), ([5], [5]), ([4, 6], [4, 6]), ([7], [7]), ([3, 8], [3, 8]), ([9], [9]), ([], []), ([11], [11]), ([12], [12]), ([10, 13], [10, 13]), ([14], [14]), ([], []), ([16], [16]), ([15, 17], [15, 17]), ([18, 13, 0, 1, 2, 3, 4, 5, 6, 7, 8, 9, 10, 11, 12, 13, 14, 15, 16, 17, 18], [18])])
def impl_PlanForm.B3 : List Nat := [0, 1, 3, 7, 0, 0, 32, 112, 240, 511, 1023, 0, 2048, 6144, 16383, 32767, 0, 65536, 262143, 524287]
theorem impl_PlanForm.tab3 : rtab .any (opsOf Tryd.f7 3) = impl_PlanForm.T3 := by kernel_rfl
theorem impl_PlanForm.bits3 : waitsOk impl_PlanForm.T3.2 impl_PlanForm.B3 = true := by kernel_rfl
set_option maxHeartbeats 8000000 in
set_option maxRecDepth 100000 in
theorem impl_PlanForm.calls (k : Nat) (a0_0 : ByteArray) (a0_1 : Int) (a0_2 : Int) (a0_3 : ByteArray) (r : ByteArray) (w : World) (h : impl_PlanForm.f k a0_0 a0_1 a0_2 a0_3 = some r) (hL : PlanLaid w) :
 Calls Tryd.prog 7 #[.agg #[.string a0_0, .int .i64 a0_1, .int .i64 a0_2, .string a0_3]] w fun e w' => e = .returned (.string r) ∧ Below w.heap.size w w' := by
 have hu26 := Tryd.underlying26
 have HL := Aside0.mk hL
 clear hL
 have HB := Aside0.mk (Below.refl w.heap.size w)
 have H : (((impl_isName.f k a0_0).bind fun t154 => (if t154 = true then ((impl_within.f a0_1 1 5).bind fun t155 => (if t155 = true then ((impl_within.f a0_2 1 1000000).bind fun t156 => (if t156 = true then (if a0_3.toList = ([] : List UInt8) then (some (⟨#[]⟩ : ByteArray)) else ((strings_Contains.f a0_3 (⟨#[10]⟩ : ByteArray)).bind fun t157 => (if t157 = true then (some (⟨#[]⟩ : ByteArray)) else (if 4 + a0_0.size ≤ 9223372036854775807 then (if ((⟨#[115, 101, 116, 32]⟩ : ByteArray) ++ a0_0).size + 1 ≤ 9223372036854775807 then (if 0 ≤ a0_1 then (if a0_1 < (whatW.length : Int) then (if (((⟨#[115, 101, 116, 32]⟩ : ByteArray) ++ a0_0) ++ (⟨#[32]⟩ : ByteArray)).size + (rdOf ByteArray.empty whatW a0_1).size ≤ 9223372036854775807 then (if ((((⟨#[115, 101, 116, 32]⟩ : ByteArray) ++ a0_0) ++ (⟨#[32]⟩ : ByteArray)) ++ (rdOf ByteArray.empty whatW a0_1)).size + 1 ≤ 9223372036854775807 then ((strconv_Itoa_16.f a0_2).bind fun t159 => (if (((((⟨#[115, 101, 116, 32]⟩ : ByteArray) ++ a0_0) ++ (⟨#[32]⟩ : ByteArray)) ++ (rdOf ByteArray.empty whatW a0_1)) ++ (⟨#[32]⟩ : ByteArray)).size + t159.size ≤ 9223372036854775807 then (if ((((((⟨#[115, 101, 116, 32]⟩ : ByteArray) ++ a0_0) ++ (⟨#[32]⟩ : ByteArray)) ++ (rdOf ByteArray.empty whatW a0_1)) ++ (⟨#[32]⟩ : ByteArray)) ++ t159).size + 1 ≤ 9223372036854775807 then (if (((((((⟨#[115, 101, 116, 32]⟩ : ByteArray) ++ a0_0) ++ (⟨#[32]⟩ : ByteArray)) ++ (rdOf ByteArray.empty whatW a0_1)) ++ (⟨#[32]⟩ : ByteArray)) ++ t159) ++ (⟨#[32]⟩ : ByteArray)).size + a0_3.size ≤ 9223372036854775807 then (some ((((((((⟨#[115, 101, 116, 32]⟩ : ByteArray) ++ a0_0) ++ (⟨#[32]⟩ : ByteArray)) ++ (rdOf ByteArray.empty whatW a0_1)) ++ (⟨#[32]⟩ : ByteArray)) ++ t159) ++ (⟨#[32]⟩ : ByteArray)) ++ a0_3)) else (none)) else (none)) else (none))) else (none)) else (none)) else (none)) else (none)) else (none)) else (none))))) else (some (⟨#[]⟩ : ByteArray)))) else (some (⟨#[]⟩ : ByteArray)))) else (some (⟨#[]⟩ : ByteArray))))) = some r := h
 clear h
 replace H := Option.bind_eq_some_iff.mp H
 obtain ⟨t154, A30, H⟩ := H
 replace H : (if t154 = true then ((impl_within.f a0_1 1 5).bind fun t155 => (if t155 = true then ((impl_within.f a0_2 1 1000000).bind fun t156 => (if t156 = true then (if a0_3.toList = ([] : List UInt8) then (some (⟨#[]⟩ : ByteArray)) else ((strings_Contains.f a0_3 (⟨#[10]⟩ : ByteArray)).bind fun t157 => (if t157 = true then (some (⟨#[]⟩ : ByteArray)) else (if 4 + a0_0.size ≤ 9223372036854775807 then (if ((⟨#[115, 101, 116, 32]⟩ : ByteArray) ++ a0_0).size + 1 ≤ 9223372036854775807 then (if 0 ≤ a0_1 then (if a0_1 < (whatW.length : Int) then (if (((⟨#[115, 101, 116, 32]⟩ : ByteArray) ++ a0_0) ++ (⟨#[32]⟩ : ByteArray)).size + (rdOf ByteArray.empty whatW a0_1).size ≤ 9223372036854775807 then (if ((((⟨#[115, 101, 116, 32]⟩ : ByteArray) ++ a0_0) ++ (⟨#[32]⟩ : ByteArray)) ++ (rdOf ByteArray.empty whatW a0_1)).size + 1 ≤ 9223372036854775807 then ((strconv_Itoa_16.f a0_2).bind fun t159 => (if (((((⟨#[115, 101, 116, 32]⟩ : ByteArray) ++ a0_0) ++ (⟨#[32]⟩ : ByteArray)) ++ (rdOf ByteArray.empty whatW a0_1)) ++ (⟨#[32]⟩ : ByteArray)).size + t159.size ≤ 9223372036854775807 then (if ((((((⟨#[115, 101, 116, 32]⟩ : ByteArray) ++ a0_0) ++ (⟨#[32]⟩ : ByteArray)) ++ (rdOf ByteArray.empty whatW a0_1)) ++ (⟨#[32]⟩ : ByteArray)) ++ t159).size + 1 ≤ 9223372036854775807 then (if (((((((⟨#[115, 101, 116, 32]⟩ : ByteArray) ++ a0_0) ++ (⟨#[32]⟩ : ByteArray)) ++ (rdOf ByteArray.empty whatW a0_1)) ++ (⟨#[32]⟩ : ByteArray)) ++ t159) ++ (⟨#[32]⟩ : ByteArray)).size + a0_3.size ≤ 9223372036854775807 then (some ((((((((⟨#[115, 101, 116, 32]⟩ : ByteArray) ++ a0_0) ++ (⟨#[32]⟩ : ByteArray)) ++ (rdOf ByteArray.empty whatW a0_1)) ++ (⟨#[32]⟩ : ByteArray)) ++ t159) ++ (⟨#[32]⟩ : ByteArray)) ++ a0_3)) else (none)) else (none)) else (none))) else (none)) else (none)) else (none)) else (none)) else (none)) else (none))))) else (some (⟨#[]⟩ : ByteArray)))) else (some (⟨#[]⟩ : ByteArray)))) else (some (⟨#[]⟩ : ByteArray))) = some r := H
 have A3 := Aside0.mk A30
 clear A30
 by_cases c4 : t154 = true
 rotate_left
 ·replace c4 := Bool.eq_false_iff.mpr c4
  subst c4
  have H1 : (some (⟨#[]⟩ : ByteArray)) = some r := by rw [if_neg (show ¬ (false = true) by decide)] at H; exact H
  clear H
  have H := H1
  clear H1
  obtain rfl := Option.some.inj H
  go_enter Tryd.func7, Tryd.ntmps7
  go_wp2_with (first | ((with_reducible refine gate_dst (N := 1) rfl ?_); refine zbx 1 #[.string a0_0, .int .i64 a0_1, .int .i64 a0_2, .string a0_3] 26 ?_; intro gb150 hg w40 hbox hb; have BK150 := zA hbox; have GW150 := zgs hg (zs0 HB); have GE150 := zgs hg (zs0 HB); replace HB := zE (zs0 HB) hb; clear hb hbox hg; obtain ⟨hcz42_0, hcz42_1, hcz42_2, hcz42_3⟩ := zd4 BK150; obtain ⟨hfz42_0, hfz42_1, hfz42_2, hfz42_3⟩ := zn4 BK150) | ((with_reducible refine gate_callee (f := 13) rfl ?_); refine goesL_ (some 5) rfl rfl Tryd.func13 (by kernel_rfl) rfl #[.string a0_0] rfl zl ?_; (with_reducible refine (impl_isName.calls k a0_0 false _ A3.out).mono ?_); rintro e w' ⟨rfl, ⟨nd, rfl⟩⟩; refine ⟨_, rfl, ?_⟩))
  go_ret
  exact ⟨ze, zs1 HB GE150⟩
 subst c4
 have H1 : ((impl_within.f a0_1 1 5).bind fun t155 => (if t155 = true then ((impl_within.f a0_2 1 1000000).bind fun t156 => (if t156 = true then (if a0_3.toList = ([] : List UInt8) then (some (⟨#[]⟩ : ByteArray)) else ((strings_Contains.f a0_3 (⟨#[10]⟩ : ByteArray)).bind fun t157 => (if t157 = true then (some (⟨#[]⟩ : ByteArray)) else (if 4 + a0_0.size ≤ 9223372036854775807 then (if ((⟨#[115, 101, 116, 32]⟩ : ByteArray) ++ a0_0).size + 1 ≤ 9223372036854775807 then (if 0 ≤ a0_1 then (if a0_1 < (whatW.length : Int) then (if (((⟨#[115, 101, 116, 32]⟩ : ByteArray) ++ a0_0) ++ (⟨#[32]⟩ : ByteArray)).size + (rdOf ByteArray.empty whatW a0_1).size ≤ 9223372036854775807 then (if ((((⟨#[115, 101, 116, 32]⟩ : ByteArray) ++ a0_0) ++ (⟨#[32]⟩ : ByteArray)) ++ (rdOf ByteArray.empty whatW a0_1)).size + 1 ≤ 9223372036854775807 then ((strconv_Itoa_16.f a0_2).bind fun t159 => (if (((((⟨#[115, 101, 116, 32]⟩ : ByteArray) ++ a0_0) ++ (⟨#[32]⟩ : ByteArray)) ++ (rdOf ByteArray.empty whatW a0_1)) ++ (⟨#[32]⟩ : ByteArray)).size + t159.size ≤ 9223372036854775807 then (if ((((((⟨#[115, 101, 116, 32]⟩ : ByteArray) ++ a0_0) ++ (⟨#[32]⟩ : ByteArray)) ++ (rdOf ByteArray.empty whatW a0_1)) ++ (⟨#[32]⟩ : ByteArray)) ++ t159).size + 1 ≤ 9223372036854775807 then (if (((((((⟨#[115, 101, 116, 32]⟩ : ByteArray) ++ a0_0) ++ (⟨#[32]⟩ : ByteArray)) ++ (rdOf ByteArray.empty whatW a0_1)) ++ (⟨#[32]⟩ : ByteArray)) ++ t159) ++ (⟨#[32]⟩ : ByteArray)).size + a0_3.size ≤ 9223372036854775807 then (some ((((((((⟨#[115, 101, 116, 32]⟩ : ByteArray) ++ a0_0) ++ (⟨#[32]⟩ : ByteArray)) ++ (rdOf ByteArray.empty whatW a0_1)) ++ (⟨#[32]⟩ : ByteArray)) ++ t159) ++ (⟨#[32]⟩ : ByteArray)) ++ a0_3)) else (none)) else (none)) else (none))) else (none)) else (none)) else (none)) else (none)) else (none)) else (none))))) else (some (⟨#[]⟩ : ByteArray)))) else (some (⟨#[]⟩ : ByteArray)))) = some r := by rw [if_pos rfl] at H; exact H
 clear H
 have H := H1
 clear H1
 replace H := zbd H; obtain ⟨t155, A5, H⟩ := H
 by_cases c6 : t155 = true
 rotate_left
 ·replace c6 := Bool.eq_false_iff.mpr c6
  subst c6
  have H1 : (some (⟨#[]⟩ : ByteArray)) = some r := by rw [if_neg (show ¬ (false = true) by decide)] at H; exact H
  clear H
  have H := H1
  clear H1
  obtain rfl := Option.some.inj H
  go_enter Tryd.func7, Tryd.ntmps7
  go_wp2_with (first | ((with_reducible refine gate_dst (N := 1) rfl ?_); refine zbx 1 #[.string a0_0, .int .i64 a0_1, .int .i64 a0_2, .string a0_3] 26 ?_; intro gb150 hg w37 hbox hb; have BK150 := zA hbox; have GW150 := zgs hg (zs0 HB); have GE150 := zgs hg (zs0 HB); replace HB := zE (zs0 HB) hb; clear hb hbox hg; obtain ⟨hcz39_0, hcz39_1, hcz39_2, hcz39_3⟩ := zd4 BK150; obtain ⟨hfz39_0, hfz39_1, hfz39_2, hfz39_3⟩ := zn4 BK150) | ((with_reducible refine gate_callee (f := 13) rfl ?_); refine goesL_ (some 5) rfl rfl Tryd.func13 (by kernel_rfl) rfl #[.string a0_0] rfl zl ?_; (with_reducible refine (impl_isName.calls k a0_0 true _ A3.out).mono ?_); rintro e w' ⟨rfl, ⟨nd, rfl⟩⟩; refine ⟨_, rfl, ?_⟩) | (go_at_call 14; (with_reducible refine (impl_within.calls a0_1 1 5 false _ A5.out).mono ?_); rintro e w' ⟨rfl, ⟨nd, rfl⟩⟩))
  go_ret
  exact ⟨ze, zs1 HB GE150⟩
 subst c6
 have H1 : ((impl_within.f a0_2 1 1000000).bind fun t156 => (if t156 = true then (if a0_3.toList = ([] : List UInt8) then (some (⟨#[]⟩ : ByteArray)) else ((strings_Contains.f a0_3 (⟨#[10]⟩ : ByteArray)).bind fun t157 => (if t157 = true then (some (⟨#[]⟩ : ByteArray)) else (if 4 + a0_0.size ≤ 9223372036854775807 then (if ((⟨#[115, 101, 116, 32]⟩ : ByteArray) ++ a0_0).size + 1 ≤ 9223372036854775807 then (if 0 ≤ a0_1 then (if a0_1 < (whatW.length : Int) then (if (((⟨#[115, 101, 116, 32]⟩ : ByteArray) ++ a0_0) ++ (⟨#[32]⟩ : ByteArray)).size + (rdOf ByteArray.empty whatW a0_1).size ≤ 9223372036854775807 then (if ((((⟨#[115, 101, 116, 32]⟩ : ByteArray) ++ a0_0) ++ (⟨#[32]⟩ : ByteArray)) ++ (rdOf ByteArray.empty whatW a0_1)).size + 1 ≤ 9223372036854775807 then ((strconv_Itoa_16.f a0_2).bind fun t159 => (if (((((⟨#[115, 101, 116, 32]⟩ : ByteArray) ++ a0_0) ++ (⟨#[32]⟩ : ByteArray)) ++ (rdOf ByteArray.empty whatW a0_1)) ++ (⟨#[32]⟩ : ByteArray)).size + t159.size ≤ 9223372036854775807 then (if ((((((⟨#[115, 101, 116, 32]⟩ : ByteArray) ++ a0_0) ++ (⟨#[32]⟩ : ByteArray)) ++ (rdOf ByteArray.empty whatW a0_1)) ++ (⟨#[32]⟩ : ByteArray)) ++ t159).size + 1 ≤ 9223372036854775807 then (if (((((((⟨#[115, 101, 116, 32]⟩ : ByteArray) ++ a0_0) ++ (⟨#[32]⟩ : ByteArray)) ++ (rdOf ByteArray.empty whatW a0_1)) ++ (⟨#[32]⟩ : ByteArray)) ++ t159) ++ (⟨#[32]⟩ : ByteArray)).size + a0_3.size ≤ 9223372036854775807 then (some ((((((((⟨#[115, 101, 116, 32]⟩ : ByteArray) ++ a0_0) ++ (⟨#[32]⟩ : ByteArray)) ++ (rdOf ByteArray.empty whatW a0_1)) ++ (⟨#[32]⟩ : ByteArray)) ++ t159) ++ (⟨#[32]⟩ : ByteArray)) ++ a0_3)) else (none)) else (none)) else (none))) else (none)) else (none)) else (none)) else (none)) else (none)) else (none))))) else (some (⟨#[]⟩ : ByteArray)))) = some r := by rw [if_pos rfl] at H; exact H
 clear H
 have H := H1
 clear H1
 replace H := zbd H; obtain ⟨t156, A7, H⟩ := H
 by_cases c8 : t156 = true
 rotate_left
 ·replace c8 := Bool.eq_false_iff.mpr c8
  subst c8
  have H1 : (some (⟨#[]⟩ : ByteArray)) = some r := by rw [if_neg (show ¬ (false = true) by decide)] at H; exact H
  clear H
  have H := H1
  clear H1
  obtain rfl := Option.some.inj H
  go_enter Tryd.func7, Tryd.ntmps7
  go_wp2_with (first | ((with_reducible refine gate_dst (N := 1) rfl ?_); refine zbx 1 #[.string a0_0, .int .i64 a0_1, .int .i64 a0_2, .string a0_3] 26 ?_; intro gb150 hg w34 hbox hb; have BK150 := zA hbox; have GW150 := zgs hg (zs0 HB); have GE150 := zgs hg (zs0 HB); replace HB := zE (zs0 HB) hb; clear hb hbox hg; obtain ⟨hcz36_0, hcz36_1, hcz36_2, hcz36_3⟩ := zd4 BK150; obtain ⟨hfz36_0, hfz36_1, hfz36_2, hfz36_3⟩ := zn4 BK150) | ((with_reducible refine gate_callee (f := 13) rfl ?_); refine goesL_ (some 5) rfl rfl Tryd.func13 (by kernel_rfl) rfl #[.string a0_0] rfl zl ?_; (with_reducible refine (impl_isName.calls k a0_0 true _ A3.out).mono ?_); rintro e w' ⟨rfl, ⟨nd, rfl⟩⟩; refine ⟨_, rfl, ?_⟩) | (go_at_call 14; (with_reducible refine (impl_within.calls a0_1 1 5 true _ A5.out).mono ?_); rintro e w' ⟨rfl, ⟨nd, rfl⟩⟩) | (go_at_call 14; (with_reducible refine (impl_within.calls a0_2 1 1000000 false _ A7.out).mono ?_); rintro e w' ⟨rfl, ⟨nd, rfl⟩⟩))
  go_ret
  exact ⟨ze, zs1 HB GE150⟩
 subst c8
 have H1 : (if a0_3.toList = ([] : List UInt8) then (some (⟨#[]⟩ : ByteArray)) else ((strings_Contains.f a0_3 (⟨#[10]⟩ : ByteArray)).bind fun t157 => (if t157 = true then (some (⟨#[]⟩ : ByteArray)) else (if 4 + a0_0.size ≤ 9223372036854775807 then (if ((⟨#[115, 101, 116, 32]⟩ : ByteArray) ++ a0_0).size + 1 ≤ 9223372036854775807 then (if 0 ≤ a0_1 then (if a0_1 < (whatW.length : Int) then (if (((⟨#[115, 101, 116, 32]⟩ : ByteArray) ++ a0_0) ++ (⟨#[32]⟩ : ByteArray)).size + (rdOf ByteArray.empty whatW a0_1).size ≤ 9223372036854775807 then (if ((((⟨#[115, 101, 116, 32]⟩ : ByteArray) ++ a0_0) ++ (⟨#[32]⟩ : ByteArray)) ++ (rdOf ByteArray.empty whatW a0_1)).size + 1 ≤ 9223372036854775807 then ((strconv_Itoa_16.f a0_2).bind fun t159 => (if (((((⟨#[115, 101, 116, 32]⟩ : ByteArray) ++ a0_0) ++ (⟨#[32]⟩ : ByteArray)) ++ (rdOf ByteArray.empty whatW a0_1)) ++ (⟨#[32]⟩ : ByteArray)).size + t159.size ≤ 9223372036854775807 then (if ((((((⟨#[115, 101, 116, 32]⟩ : ByteArray) ++ a0_0) ++ (⟨#[32]⟩ : ByteArray)) ++ (rdOf ByteArray.empty whatW a0_1)) ++ (⟨#[32]⟩ : ByteArray)) ++ t159).size + 1 ≤ 9223372036854775807 then (if (((((((⟨#[115, 101, 116, 32]⟩ : ByteArray) ++ a0_0) ++ (⟨#[32]⟩ : ByteArray)) ++ (rdOf ByteArray.empty whatW a0_1)) ++ (⟨#[32]⟩ : ByteArray)) ++ t159) ++ (⟨#[32]⟩ : ByteArray)).size + a0_3.size ≤ 9223372036854775807 then (some ((((((((⟨#[115, 101, 116, 32]⟩ : ByteArray) ++ a0_0) ++ (⟨#[32]⟩ : ByteArray)) ++ (rdOf ByteArray.empty whatW a0_1)) ++ (⟨#[32]⟩ : ByteArray)) ++ t159) ++ (⟨#[32]⟩ : ByteArray)) ++ a0_3)) else (none)) else (none)) else (none))) else (none)) else (none)) else (none)) else (none)) else (none)) else (none))))) = some r := by rw [if_pos rfl] at H; exact H
 clear H
 have H := H1
 clear H1
 by_cases c9 : a0_3.toList = ([] : List UInt8)
 ·rw [if_pos c9] at H
  have c9b0 : (a0_3.toList == ([] : List UInt8)) = true := beq_iff_eq.mpr c9
  have c9b1 : (a0_3.toList != ([] : List UInt8)) = false := bne_eq_false_iff_eq.mpr c9
  clear c9
  obtain rfl := Option.some.inj H
  go_enter Tryd.func7, Tryd.ntmps7
  go_wp2_with (first | ((with_reducible refine gate_dst (N := 1) rfl ?_); refine zbx 1 #[.string a0_0, .int .i64 a0_1, .int .i64 a0_2, .string a0_3] 26 ?_; intro gb150 hg w10 hbox hb; have BK150 := zA hbox; have GW150 := zgs hg (zs0 HB); have GE150 := zgs hg (zs0 HB); replace HB := zE (zs0 HB) hb; clear hb hbox hg; obtain ⟨hcz12_0, hcz12_1, hcz12_2, hcz12_3⟩ := zd4 BK150; obtain ⟨hfz12_0, hfz12_1, hfz12_2, hfz12_3⟩ := zn4 BK150) | ((with_reducible refine gate_callee (f := 13) rfl ?_); refine goesL_ (some 5) rfl rfl Tryd.func13 (by kernel_rfl) rfl #[.string a0_0] rfl zl ?_; (with_reducible refine (impl_isName.calls k a0_0 true _ A3.out).mono ?_); rintro e w' ⟨rfl, ⟨nd, rfl⟩⟩; refine ⟨_, rfl, ?_⟩) | (go_at_call 14; (with_reducible refine (impl_within.calls a0_1 1 5 true _ A5.out).mono ?_); rintro e w' ⟨rfl, ⟨nd, rfl⟩⟩) | (go_at_call 14; (with_reducible refine (impl_within.calls a0_2 1 1000000 true _ A7.out).mono ?_); rintro e w' ⟨rfl, ⟨nd, rfl⟩⟩))
  go_ret
  exact ⟨ze, zs1 HB GE150⟩
 rw [if_neg c9] at H
 have c9b0 : (a0_3.toList == ([] : List UInt8)) = false := beq_eq_false_iff_ne.mpr c9
 have c9b1 : (a0_3.toList != ([] : List UInt8)) = true := bne_iff_ne.mpr c9
 replace H := zbd H; obtain ⟨t157, A13, H⟩ := H
 by_cases c14 : t157 = true
 ·subst c14
  have H1 : (some (⟨#[]⟩ : ByteArray)) = some r := by rw [if_pos rfl] at H; exact H
  clear H
  have H := H1
  clear H1
  obtain rfl := Option.some.inj H
  go_enter Tryd.func7, Tryd.ntmps7
  go_wp2_with (first | ((with_reducible refine gate_dst (N := 1) rfl ?_); refine zbx 1 #[.string a0_0, .int .i64 a0_1, .int .i64 a0_2, .string a0_3] 26 ?_; intro gb150 hg w15 hbox hb; have BK150 := zA hbox; have GW150 := zgs hg (zs0 HB); have GE150 := zgs hg (zs0 HB); replace HB := zE (zs0 HB) hb; clear hb hbox hg; obtain ⟨hcz17_0, hcz17_1, hcz17_2, hcz17_3⟩ := zd4 BK150; obtain ⟨hfz17_0, hfz17_1, hfz17_2, hfz17_3⟩ := zn4 BK150) | ((with_reducible refine gate_callee (f := 13) rfl ?_); refine goesL_ (some 5) rfl rfl Tryd.func13 (by kernel_rfl) rfl #[.string a0_0] rfl zl ?_; (with_reducible refine (impl_isName.calls k a0_0 true _ A3.out).mono ?_); rintro e w' ⟨rfl, ⟨nd, rfl⟩⟩; refine ⟨_, rfl, ?_⟩) | (go_at_call 14; (with_reducible refine (impl_within.calls a0_1 1 5 true _ A5.out).mono ?_); rintro e w' ⟨rfl, ⟨nd, rfl⟩⟩) | (go_at_call 14; (with_reducible refine (impl_within.calls a0_2 1 1000000 true _ A7.out).mono ?_); rintro e w' ⟨rfl, ⟨nd, rfl⟩⟩) | (go_at_call 15; (with_reducible refine (strings_Contains.calls a0_3 (⟨#[10]⟩ : ByteArray) true _ A13.out).mono ?_); rintro e w' ⟨rfl, ⟨nd, rfl⟩⟩))
  go_ret
  exact ⟨ze, zs1 HB GE150⟩
 replace c14 := Bool.eq_false_iff.mpr c14
 subst c14
 have H1 : (if 4 + a0_0.size ≤ 9223372036854775807 then (if ((⟨#[115, 101, 116, 32]⟩ : ByteArray) ++ a0_0).size + 1 ≤ 9223372036854775807 then (if 0 ≤ a0_1 then (if a0_1 < (whatW.length : Int) then (if (((⟨#[115, 101, 116, 32]⟩ : ByteArray) ++ a0_0) ++ (⟨#[32]⟩ : ByteArray)).size + (rdOf ByteArray.empty whatW a0_1).size ≤ 9223372036854775807 then (if ((((⟨#[115, 101, 116, 32]⟩ : ByteArray) ++ a0_0) ++ (⟨#[32]⟩ : ByteArray)) ++ (rdOf ByteArray.empty whatW a0_1)).size + 1 ≤ 9223372036854775807 then ((strconv_Itoa_16.f a0_2).bind fun t159 => (if (((((⟨#[115, 101, 116, 32]⟩ : ByteArray) ++ a0_0) ++ (⟨#[32]⟩ : ByteArray)) ++ (rdOf ByteArray.empty whatW a0_1)) ++ (⟨#[32]⟩ : ByteArray)).size + t159.size ≤ 9223372036854775807 then (if ((((((⟨#[115, 101, 116, 32]⟩ : ByteArray) ++ a0_0) ++ (⟨#[32]⟩ : ByteArray)) ++ (rdOf ByteArray.empty whatW a0_1)) ++ (⟨#[32]⟩ : ByteArray)) ++ t159).size + 1 ≤ 9223372036854775807 then (if (((((((⟨#[115, 101, 116, 32]⟩ : ByteArray) ++ a0_0) ++ (⟨#[32]⟩ : ByteArray)) ++ (rdOf ByteArray.empty whatW a0_1)) ++ (⟨#[32]⟩ : ByteArray)) ++ t159) ++ (⟨#[32]⟩ : ByteArray)).size + a0_3.size ≤ 9223372036854775807 then (some ((((((((⟨#[115, 101, 116, 32]⟩ : ByteArray) ++ a0_0) ++ (⟨#[32]⟩ : ByteArray)) ++ (rdOf ByteArray.empty whatW a0_1)) ++ (⟨#[32]⟩ : ByteArray)) ++ t159) ++ (⟨#[32]⟩ : ByteArray)) ++ a0_3)) else (none)) else (none)) else (none))) else (none)) else (none)) else (none)) else (none)) else (none)) else (none)) = some r := by rw [if_neg (show ¬ (false = true) by decide)] at H; exact H
 clear H
 have H := H1
 clear H1
 by_cases c18 : 4 + a0_0.size ≤ 9223372036854775807
 rotate_left
 ·rw [if_neg c18] at H
  exact absurd H (by simp)
 rw [if_pos c18] at H
 have c18b0 := eq_true c18
 have c18b1 : decide (4 + a0_0.size ≤ 9223372036854775807) = true := decide_eq_true c18
 try have c18b2 : (9223372036854775807 < 4 + a0_0.size) = False := eq_false (Nat.not_lt.2 c18)
 by_cases c19 : ((⟨#[115, 101, 116, 32]⟩ : ByteArray) ++ a0_0).size + 1 ≤ 9223372036854775807
 rotate_left
 ·rw [if_neg c19] at H
  exact absurd H (by simp)
 rw [if_pos c19] at H
 have c19b0 := eq_true c19
 have c19b1 : decide (((⟨#[115, 101, 116, 32]⟩ : ByteArray) ++ a0_0).size + 1 ≤ 9223372036854775807) = true := decide_eq_true c19
 try have c19b2 : (9223372036854775807 < ((⟨#[115, 101, 116, 32]⟩ : ByteArray) ++ a0_0).size + 1) = False := eq_false (Nat.not_lt.2 c19)
 try have c19b3 : (9223372036854775807 < 4 + a0_0.size + 1) = False := eq_false (Nat.not_lt.2 (by have h_ := c19; simp only [ByteArray.size_append] at h_; exact h_))
 by_cases c20 : 0 ≤ a0_1
 rotate_left
 ·rw [if_neg c20] at H
  exact absurd H (by simp)
 rw [if_pos c20] at H
 have c20b0 : decide (0 ≤ a0_1) = true := decide_eq_true c20
 clear c20
 by_cases c21 : a0_1 < (whatW.length : Int)
 rotate_left
 ·rw [if_neg c21] at H
  exact absurd H (by simp)
 rw [if_pos c21] at H
 have c21b0 : decide (a0_1 < (whatW.length : Int)) = true := decide_eq_true c21
 clear c21
 by_cases c22 : (((⟨#[115, 101, 116, 32]⟩ : ByteArray) ++ a0_0) ++ (⟨#[32]⟩ : ByteArray)).size + (rdOf ByteArray.empty whatW a0_1).size ≤ 9223372036854775807
 rotate_left
 ·rw [if_neg c22] at H
  exact absurd H (by simp)
 rw [if_pos c22] at H
 have c22b0 := eq_true c22
 have c22b1 : decide ((((⟨#[115, 101, 116, 32]⟩ : ByteArray) ++ a0_0) ++ (⟨#[32]⟩ : ByteArray)).size + (rdOf ByteArray.empty whatW a0_1).size ≤ 9223372036854775807) = true := decide_eq_true c22
 try have c22b2 : (9223372036854775807 < (((⟨#[115, 101, 116, 32]⟩ : ByteArray) ++ a0_0) ++ (⟨#[32]⟩ : ByteArray)).size + (rdOf ByteArray.empty whatW a0_1).size) = False := eq_false (Nat.not_lt.2 c22)
 try have c22b3 : (9223372036854775807 < 4 + a0_0.size + 1 + (rdOf ByteArray.empty whatW a0_1).size) = False := eq_false (Nat.not_lt.2 (by have h_ := c22; simp only [ByteArray.size_append] at h_; exact h_))
 by_cases c23 : ((((⟨#[115, 101, 116, 32]⟩ : ByteArray) ++ a0_0) ++ (⟨#[32]⟩ : ByteArray)) ++ (rdOf ByteArray.empty whatW a0_1)).size + 1 ≤ 9223372036854775807
 rotate_left
 ·rw [if_neg c23] at H
  exact absurd H (by simp)
 rw [if_pos c23] at H
 have c23b0 := eq_true c23
 have c23b1 : decide (((((⟨#[115, 101, 116, 32]⟩ : ByteArray) ++ a0_0) ++ (⟨#[32]⟩ : ByteArray)) ++ (rdOf ByteArray.empty whatW a0_1)).size + 1 ≤ 9223372036854775807) = true := decide_eq_true c23
 try have c23b2 : (9223372036854775807 < ((((⟨#[115, 101, 116, 32]⟩ : ByteArray) ++ a0_0) ++ (⟨#[32]⟩ : ByteArray)) ++ (rdOf ByteArray.empty whatW a0_1)).size + 1) = False := eq_false (Nat.not_lt.2 c23)
 try have c23b3 : (9223372036854775807 < 4 + a0_0.size + 1 + (rdOf ByteArray.empty whatW a0_1).size + 1) = False := eq_false (Nat.not_lt.2 (by have h_ := c23; simp only [ByteArray.size_append] at h_; exact h_))
 replace H := zbd H; obtain ⟨t159, A24, H⟩ := H
 by_cases c25 : (((((⟨#[115, 101, 116, 32]⟩ : ByteArray) ++ a0_0) ++ (⟨#[32]⟩ : ByteArray)) ++ (rdOf ByteArray.empty whatW a0_1)) ++ (⟨#[32]⟩ : ByteArray)).size + t159.size ≤ 9223372036854775807
 rotate_left
 ·rw [if_neg c25] at H
  exact absurd H (by simp)
 rw [if_pos c25] at H
 have c25b0 := eq_true c25
 have c25b1 : decide ((((((⟨#[115, 101, 116, 32]⟩ : ByteArray) ++ a0_0) ++ (⟨#[32]⟩ : ByteArray)) ++ (rdOf ByteArray.empty whatW a0_1)) ++ (⟨#[32]⟩ : ByteArray)).size + t159.size ≤ 9223372036854775807) = true := decide_eq_true c25
 try have c25b2 : (9223372036854775807 < (((((⟨#[115, 101, 116, 32]⟩ : ByteArray) ++ a0_0) ++ (⟨#[32]⟩ : ByteArray)) ++ (rdOf ByteArray.empty whatW a0_1)) ++ (⟨#[32]⟩ : ByteArray)).size + t159.size) = False := eq_false (Nat.not_lt.2 c25)
 try have c25b3 : (9223372036854775807 < 4 + a0_0.size + 1 + (rdOf ByteArray.empty whatW a0_1).size + 1 + t159.size) = False := eq_false (Nat.not_lt.2 (by have h_ := c25; simp only [ByteArray.size_append] at h_; exact h_))
 by_cases c26 : ((((((⟨#[115, 101, 116, 32]⟩ : ByteArray) ++ a0_0) ++ (⟨#[32]⟩ : ByteArray)) ++ (rdOf ByteArray.empty whatW a0_1)) ++ (⟨#[32]⟩ : ByteArray)) ++ t159).size + 1 ≤ 9223372036854775807
 rotate_left
 ·rw [if_neg c26] at H
  exact absurd H (by simp)
 rw [if_pos c26] at H
 have c26b0 := eq_true c26
 have c26b1 : decide (((((((⟨#[115, 101, 116, 32]⟩ : ByteArray) ++ a0_0) ++ (⟨#[32]⟩ : ByteArray)) ++ (rdOf ByteArray.empty whatW a0_1)) ++ (⟨#[32]⟩ : ByteArray)) ++ t159).size + 1 ≤ 9223372036854775807) = true := decide_eq_true c26
 try have c26b2 : (9223372036854775807 < ((((((⟨#[115, 101, 116, 32]⟩ : ByteArray) ++ a0_0) ++ (⟨#[32]⟩ : ByteArray)) ++ (rdOf ByteArray.empty whatW a0_1)) ++ (⟨#[32]⟩ : ByteArray)) ++ t159).size + 1) = False := eq_false (Nat.not_lt.2 c26)
 try have c26b3 : (9223372036854775807 < 4 + a0_0.size + 1 + (rdOf ByteArray.empty whatW a0_1).size + 1 + t159.size + 1) = False := eq_false (Nat.not_lt.2 (by have h_ := c26; simp only [ByteArray.size_append] at h_; exact h_))
 by_cases c27 : (((((((⟨#[115, 101, 116, 32]⟩ : ByteArray) ++ a0_0) ++ (⟨#[32]⟩ : ByteArray)) ++ (rdOf ByteArray.empty whatW a0_1)) ++ (⟨#[32]⟩ : ByteArray)) ++ t159) ++ (⟨#[32]⟩ : ByteArray)).size + a0_3.size ≤ 9223372036854775807
 rotate_left
 ·rw [if_neg c27] at H
  exact absurd H (by simp)
 rw [if_pos c27] at H
 have c27b0 := eq_true c27
 have c27b1 : decide ((((((((⟨#[115, 101, 116, 32]⟩ : ByteArray) ++ a0_0) ++ (⟨#[32]⟩ : ByteArray)) ++ (rdOf ByteArray.empty whatW a0_1)) ++ (⟨#[32]⟩ : ByteArray)) ++ t159) ++ (⟨#[32]⟩ : ByteArray)).size + a0_3.size ≤ 9223372036854775807) = true := decide_eq_true c27
 try have c27b2 : (9223372036854775807 < (((((((⟨#[115, 101, 116, 32]⟩ : ByteArray) ++ a0_0) ++ (⟨#[32]⟩ : ByteArray)) ++ (rdOf ByteArray.empty whatW a0_1)) ++ (⟨#[32]⟩ : ByteArray)) ++ t159) ++ (⟨#[32]⟩ : ByteArray)).size + a0_3.size) = False := eq_false (Nat.not_lt.2 c27)
 try have c27b3 : (9223372036854775807 < 4 + a0_0.size + 1 + (rdOf ByteArray.empty whatW a0_1).size + 1 + t159.size + 1 + a0_3.size) = False := eq_false (Nat.not_lt.2 (by have h_ := c27; simp only [ByteArray.size_append] at h_; exact h_))
 obtain rfl := Option.some.inj H
 go_enter Tryd.func7, Tryd.ntmps7
 try go_wp2_with (first | ((with_reducible refine gate_dst (N := 1) rfl ?_); refine zbx 1 #[.string a0_0, .int .i64 a0_1, .int .i64 a0_2, .string a0_3] 26 ?_; intro gb150 hg w28 hbox hb; have BK150 := zA hbox; have GW150 := zgs hg (zs0 HB); have GE150 := zgs hg (zs0 HB); replace HB := zE (zs0 HB) hb; clear hb hbox hg; obtain ⟨hcz30_0, hcz30_1, hcz30_2, hcz30_3⟩ := zd4 BK150; obtain ⟨hfz30_0, hfz30_1, hfz30_2, hfz30_3⟩ := zn4 BK150) | ((with_reducible refine gate_callee (f := 13) rfl ?_); refine goesL_ (some 5) rfl rfl Tryd.func13 (by kernel_rfl) rfl #[.string a0_0] rfl zl ?_; (with_reducible refine (impl_isName.calls k a0_0 true _ A3.out).mono ?_); rintro e w' ⟨rfl, ⟨nd, rfl⟩⟩; refine ⟨_, rfl, ?_⟩) | (go_at_call 14; (with_reducible refine (impl_within.calls a0_1 1 5 true _ A5.out).mono ?_); rintro e w' ⟨rfl, ⟨nd, rfl⟩⟩) | (go_at_call 14; (with_reducible refine (impl_within.calls a0_2 1 1000000 true _ A7.out).mono ?_); rintro e w' ⟨rfl, ⟨nd, rfl⟩⟩) | (go_at_call 15; (with_reducible refine (strings_Contains.calls a0_3 (⟨#[10]⟩ : ByteArray) false _ A13.out).mono ?_); rintro e w' ⟨rfl, ⟨nd, rfl⟩⟩))
 (try (rw [drewN_self w28]; generalize hq_ : World.drewN w28 _ = w28; replace BK150 : Aside0 (w28.heap[gb150]? = some (.cells #[.string a0_0, .int .i64 a0_1, .int .i64 a0_2, .string a0_3] 26 (0, 0))) := ⟨by rw [← hq_]; exact (zh BK150)⟩; replace HB : Aside0 (Below w.heap.size w w28) := ⟨by rw [← hq_]; exact (zs1 HB GE150)⟩; clear hq_))
 replace BK150 := Aside0.mk (blk_drew BK150.out)
 replace HB := Aside0.mk (below_drew1 HB.out)
 have p158 : 0 ≤ (a0_1 : Int) := za
 have q158 : a0_1 < (whatW.length : Int) := za
 obtain ⟨⟨ad158, cp_, hg_, hx158_⟩, hsz_, htab_⟩ := PlanLaid.below HB.out HL.out
 have hx158_0 := hx158_ a0_1 p158 q158
 clear hx158_ hsz_ htab_
 replace p158 := eq_true p158
 replace q158 := eq_true q158
 refine start_ (n := 20) (S := fun w' => w'.cell? ⟨gb150, 0, none⟩ = some (.string a0_0) ∧ w'.cell? ⟨gb150, 1, none⟩ = some (.int .i64 a0_1) ∧ w'.cell? ⟨gb150, 2, none⟩ = some (.int .i64 a0_2) ∧ w'.cell? ⟨gb150, 3, none⟩ = some (.string a0_3) ∧ w'.cell? (ad158.add (a0_1).toNat) = some (.string (rdOf ByteArray.empty whatW a0_1)) ∧ w'.cell? ⟨0, 0, none⟩ = some (.slice (some ad158) whatW.length cp_)) (ds := []) #[false, false, false, false, false, false, false, false, false, false, false, false, false, false, false, false, false, false, false, false] (by kernel_rfl) rfl rfl ⟨zc0 BK150, zc1 BK150, zc2 BK150, zc3 BK150, hx158_0, hg_⟩ (fun hHeld => ?_); refine with_tabW impl_PlanForm.tab3 impl_PlanForm.bits3 (fun HT_ HW_ => ?_)
 generalize w28.drew = w31 at BK150 HB hx158_0 hg_ hHeld ⊢
 refine zq HT_ 0 ?_
 refine zk6 HT_ HW_ hHeld 4 ?_
 refine zq HT_ 5 ?_
 refine zq HT_ 11 ?_
 refine zq HT_ 16 ?_
 refine zk6 HT_ HW_ hHeld 1 ?_
 refine zq HT_ 2 ?_
 refine zq HT_ 3 ?_
 refine zk6 HT_ HW_ hHeld 6 ?_
 refine zq HT_ 7 ?_
 refine zk6 HT_ HW_ hHeld 8 ?_
 refine zq HT_ 9 ?_
 refine zq HT_ 10 ?_
 refine zk6 HT_ HW_ hHeld 12 ?_
 refine zk6 HT_ HW_ hHeld 17 ?_
 refine zo HT_ 13 (fun K hK => ?_)
 refine goes_ Tryd.func16 (by kernel_rfl) rfl #[.int .i64 a0_2] (by rfl) rfl rfl zl ?_
 with_reducible refine (strconv_Itoa_16.calls a0_2 t159 _ A24.out (PlanLaid.below (zs1 HB GE150) HL.out)).mono ?_
 rintro e w33 ⟨rfl, hb⟩
 have HS4_ := zhc hb (hHeld.2.2.2.2.1)
 have HS5_ := zhc hb (hHeld.2.2.2.2.2)
 refine ⟨_, rfl, ?_⟩
 replace BK150 := zb BK150 hb
 replace HB := zE (zs1 HB GE150) hb
 (try clear hb)
 (try clear hb2)
 (try clear hk)
 (try clear hi)
 refine hK.out _ _ ⟨zc0 BK150, zc1 BK150, zc2 BK150, zc3 BK150, HS4_, HS5_⟩ (fun hHeld => ?_)
 clear hK K
 refine zN ?_
 refine zq HT_ 14 ?_
 refine zq HT_ 15 ?_
 refine zq HT_ 18 ?_
 refine zq HT_ 19 ?_
 refine done_ (done_of HT_.out (by kernel_rfl)) ?_
 try go_wp2
 go_ret
 exact ⟨ze, zs1 HB GE150⟩
def laws_FnExactPlanForm.f (k : Nat) (a0_0 : ByteArray) (a0_1 : Int) (a0_2 : Int) (a0_3 : ByteArray) : Option (Bool) := (laws_szPlanChange.f a0_0 a0_1 a0_2 a0_3 1048576).bind fun t161 => (if t161 < 0 then (some true) else ((laws_toPlanChange.f a0_0 a0_1 a0_2 a0_3).bind fun bt162 => ((spec_PlanForm.f k bt162.1 bt162.2.1 bt162.2.2.1 bt162.2.2.2).bind fun t166 => ((laws_toPlanChange.f a0_0 a0_1 a0_2 a0_3).bind fun bt167 => ((impl_PlanForm.f k bt167.1 bt167.2.1 bt167.2.2.1 bt167.2.2.2).bind fun t171 => (if t171.toList = t166.toList then (some true) else (some false)))))))
set_option maxHeartbeats 8000000 in
set_option maxRecDepth 100000 in
theorem laws_FnExactPlanForm.calls (k : Nat) (a0_0 : ByteArray) (a0_1 : Int) (a0_2 : Int) (a0_3 : ByteArray) (r : Bool) (w : World) (h : laws_FnExactPlanForm.f k a0_0 a0_1 a0_2 a0_3 = some r) (hL : PlanLaid w) :
 Calls Tryd.prog 3 #[.agg #[.string a0_0, .int .i64 a0_1, .int .i64 a0_2, .string a0_3]] w fun e w' => e = .returned (.bool r) ∧ Below w.heap.size w w' := by
 have hu23 := Tryd.underlying23
 have HL := Aside0.mk hL
 clear hL
 have HB := Aside0.mk (Below.refl w.heap.size w)
 have H : ((laws_szPlanChange.f a0_0 a0_1 a0_2 a0_3 1048576).bind fun t161 => (if t161 < 0 then (some true) else ((laws_toPlanChange.f a0_0 a0_1 a0_2 a0_3).bind fun bt162 => ((spec_PlanForm.f k bt162.1 bt162.2.1 bt162.2.2.1 bt162.2.2.2).bind fun t166 => ((laws_toPlanChange.f a0_0 a0_1 a0_2 a0_3).bind fun bt167 => ((impl_PlanForm.f k bt167.1 bt167.2.1 bt167.2.2.1 bt167.2.2.2).bind fun t171 => (if t171.toList = t166.toList then (some true) else (some false)))))))) = some r := h
 clear h
 replace H := zbd H; obtain ⟨t161, A2, H⟩ := H
 by_cases c3 : t161 < 0
 ·rw [if_pos c3] at H
  have c3b0 : decide (t161 < 0) = true := decide_eq_true c3
  clear c3
  obtain rfl := Option.some.inj H
  go_enter Tryd.func3, Tryd.ntmps3
  go_wp2_with (first | ((with_reducible refine gate_dst (N := 1) rfl ?_); refine zbx 1 #[.string a0_0, .int .i64 a0_1, .int .i64 a0_2, .string a0_3] 23 ?_; intro gb160 hg w4 hbox hb; have BK160 := zA hbox; have GW160 := zgs hg (zs0 HB); have GE160 := zgs hg (zs0 HB); replace HB := zE (zs0 HB) hb; clear hb hbox hg; obtain ⟨hcz5_0, hcz5_1, hcz5_2, hcz5_3⟩ := zd4 BK160; obtain ⟨hfz5_0, hfz5_1, hfz5_2, hfz5_3⟩ := zn4 BK160) | ((with_reducible refine gate_callee (f := 4) rfl ?_); refine goesL_ (some 8) rfl rfl Tryd.func4 (by kernel_rfl) rfl #[.agg #[.string a0_0, .int .i64 a0_1, .int .i64 a0_2, .string a0_3], .int .i64 1048576] rfl zl ?_; (with_reducible refine (laws_szPlanChange.calls a0_0 a0_1 a0_2 a0_3 1048576 t161 _ A2.out).mono ?_); rintro e w6 ⟨rfl, hb⟩; refine ⟨_, rfl, ?_⟩; replace BK160 := zb BK160 hb; replace HB := zE (zs1 HB GE160) hb; (try clear hb); (try clear hb2); (try clear hk); (try clear hi)))
  go_ret
  exact ⟨ze, zs1 HB GE160⟩
 rw [if_neg c3] at H
 have c3b0 : decide (t161 < 0) = false := decide_eq_false c3
 clear c3
 replace H := Option.bind_eq_some_iff.mp H
 obtain ⟨⟨t162, t163, t164, t165⟩, A70, H⟩ := H
 replace H : ((spec_PlanForm.f k t162 t163 t164 t165).bind fun t166 => ((laws_toPlanChange.f a0_0 a0_1 a0_2 a0_3).bind fun bt167 => ((impl_PlanForm.f k bt167.1 bt167.2.1 bt167.2.2.1 bt167.2.2.2).bind fun t171 => (if t171.toList = t166.toList then (some true) else (some false))))) = some r := H
 have A7 := Aside0.mk A70
 clear A70
 replace H := zbd H; obtain ⟨t166, A8, H⟩ := H
 replace H := Option.bind_eq_some_iff.mp H
 obtain ⟨⟨t167, t168, t169, t170⟩, A90, H⟩ := H
 replace H : ((impl_PlanForm.f k t167 t168 t169 t170).bind fun t171 => (if t171.toList = t166.toList then (some true) else (some false))) = some r := H
 have A9 := Aside0.mk A90
 clear A90
 replace H := zbd H; obtain ⟨t171, A10, H⟩ := H
 by_cases c11 : t171.toList = t166.toList
 rotate_left
 ·rw [if_neg c11] at H
  have c11b0 : (t171.toList == t166.toList) = false := beq_eq_false_iff_ne.mpr c11
  have c11b1 : (t171.toList != t166.toList) = true := bne_iff_ne.mpr c11
  obtain rfl := Option.some.inj H
  go_enter Tryd.func3, Tryd.ntmps3
  go_wp2_with (first | ((with_reducible refine gate_dst (N := 1) rfl ?_); refine zbx 1 #[.string a0_0, .int .i64 a0_1, .int .i64 a0_2, .string a0_3] 23 ?_; intro gb160 hg w21 hbox hb; have BK160 := zA hbox; have GW160 := zgs hg (zs0 HB); have GE160 := zgs hg (zs0 HB); replace HB := zE (zs0 HB) hb; clear hb hbox hg; obtain ⟨hcz22_0, hcz22_1, hcz22_2, hcz22_3⟩ := zd4 BK160; obtain ⟨hfz22_0, hfz22_1, hfz22_2, hfz22_3⟩ := zn4 BK160) | ((with_reducible refine gate_callee (f := 4) rfl ?_); refine goesL_ (some 8) rfl rfl Tryd.func4 (by kernel_rfl) rfl #[.agg #[.string a0_0, .int .i64 a0_1, .int .i64 a0_2, .string a0_3], .int .i64 1048576] rfl zl ?_; (with_reducible refine (laws_szPlanChange.calls a0_0 a0_1 a0_2 a0_3 1048576 t161 _ A2.out).mono ?_); rintro e w23 ⟨rfl, hb⟩; refine ⟨_, rfl, ?_⟩; replace BK160 := zb BK160 hb; replace HB := zE (zs1 HB GE160) hb; (try clear hb); (try clear hb2); (try clear hk); (try clear hi); obtain ⟨hcz24_0, hcz24_1, hcz24_2, hcz24_3⟩ := zd4 BK160; obtain ⟨hfz24_0, hfz24_1, hfz24_2, hfz24_3⟩ := zn4 BK160) | ((with_reducible refine gate_callee (f := 6) rfl ?_); refine goesL_ (some 12) rfl rfl Tryd.func6 (by kernel_rfl) rfl #[.agg #[.string a0_0, .int .i64 a0_1, .int .i64 a0_2, .string a0_3]] rfl zl ?_; (with_reducible refine (laws_toPlanChange.calls a0_0 a0_1 a0_2 a0_3 t162 t163 t164 t165 _ A7.out).mono ?_); rintro e w25 ⟨rfl, hb⟩; refine ⟨_, rfl, ?_⟩; replace BK160 := zb BK160 hb; replace HB := zE (zs1 HB GE160) hb; (try clear hb); (try clear hb2); (try clear hk); (try clear hi)) | ((with_reducible refine gate_callee (f := 5) rfl ?_); refine goesL_ (some 13) rfl rfl Tryd.func5 (by kernel_rfl) rfl #[.agg #[.string t162, .int .i64 t163, .int .i64 t164, .string t165]] rfl zl ?_; (with_reducible refine (spec_PlanForm.calls k t162 t163 t164 t165 t166 _ A8.out).mono ?_); rintro e w26 ⟨rfl, hb⟩; refine ⟨_, rfl, ?_⟩; replace BK160 := zb BK160 hb; replace HB := zE (zs1 HB GE160) hb; (try clear hb); (try clear hb2); (try clear hk); (try clear hi); obtain ⟨hcz27_0, hcz27_1, hcz27_2, hcz27_3⟩ := zd4 BK160; obtain ⟨hfz27_0, hfz27_1, hfz27_2, hfz27_3⟩ := zn4 BK160) | ((with_reducible refine gate_callee (f := 6) rfl ?_); refine goesL_ (some 15) rfl rfl Tryd.func6 (by kernel_rfl) rfl #[.agg #[.string a0_0, .int .i64 a0_1, .int .i64 a0_2, .string a0_3]] rfl zl ?_; (with_reducible refine (laws_toPlanChange.calls a0_0 a0_1 a0_2 a0_3 t167 t168 t169 t170 _ A9.out).mono ?_); rintro e w28 ⟨rfl, hb⟩; refine ⟨_, rfl, ?_⟩; replace BK160 := zb BK160 hb; replace HB := zE (zs1 HB GE160) hb; (try clear hb); (try clear hb2); (try clear hk); (try clear hi)) | ((with_reducible refine gate_callee (f := 7) rfl ?_); refine goesL_ (some 16) rfl rfl Tryd.func7 (by kernel_rfl) rfl #[.agg #[.string t167, .int .i64 t168, .int .i64 t169, .string t170]] rfl zl ?_; (with_reducible refine (impl_PlanForm.calls k t167 t168 t169 t170 t171 _ A10.out (PlanLaid.below (zs1 HB GE160) HL.out)).mono ?_); rintro e w29 ⟨rfl, hb⟩; refine ⟨_, rfl, ?_⟩; replace BK160 := zb BK160 hb; replace HB := zE (zs1 HB GE160) hb; (try clear hb); (try clear hb2); (try clear hk); (try clear hi)))
  go_ret
  exact ⟨ze, zs1 HB GE160⟩
 rw [if_pos c11] at H
 have c11b0 : (t171.toList == t166.toList) = true := beq_iff_eq.mpr c11
 have c11b1 : (t171.toList != t166.toList) = false := bne_eq_false_iff_eq.mpr c11
 clear c11
 obtain rfl := Option.some.inj H
 go_enter Tryd.func3, Tryd.ntmps3
 go_wp2_with (first | ((with_reducible refine gate_dst (N := 1) rfl ?_); refine zbx 1 #[.string a0_0, .int .i64 a0_1, .int .i64 a0_2, .string a0_3] 23 ?_; intro gb160 hg w12 hbox hb; have BK160 := zA hbox; have GW160 := zgs hg (zs0 HB); have GE160 := zgs hg (zs0 HB); replace HB := zE (zs0 HB) hb; clear hb hbox hg; obtain ⟨hcz13_0, hcz13_1, hcz13_2, hcz13_3⟩ := zd4 BK160; obtain ⟨hfz13_0, hfz13_1, hfz13_2, hfz13_3⟩ := zn4 BK160) | ((with_reducible refine gate_callee (f := 4) rfl ?_); refine goesL_ (some 8) rfl rfl Tryd.func4 (by kernel_rfl) rfl #[.agg #[.string a0_0, .int .i64 a0_1, .int .i64 a0_2, .string a0_3], .int .i64 1048576] rfl zl ?_; (with_reducible refine (laws_szPlanChange.calls a0_0 a0_1 a0_2 a0_3 1048576 t161 _ A2.out).mono ?_); rintro e w14 ⟨rfl, hb⟩; refine ⟨_, rfl, ?_⟩; replace BK160 := zb BK160 hb; replace HB := zE (zs1 HB GE160) hb; (try clear hb); (try clear hb2); (try clear hk); (try clear hi); obtain ⟨hcz15_0, hcz15_1, hcz15_2, hcz15_3⟩ := zd4 BK160; obtain ⟨hfz15_0, hfz15_1, hfz15_2, hfz15_3⟩ := zn4 BK160) | ((with_reducible refine gate_callee (f := 6) rfl ?_); refine goesL_ (some 12) rfl rfl Tryd.func6 (by kernel_rfl) rfl #[.agg #[.string a0_0, .int .i64 a0_1, .int .i64 a0_2, .string a0_3]] rfl zl ?_; (with_reducible refine (laws_toPlanChange.calls a0_0 a0_1 a0_2 a0_3 t162 t163 t164 t165 _ A7.out).mono ?_); rintro e w16 ⟨rfl, hb⟩; refine ⟨_, rfl, ?_⟩; replace BK160 := zb BK160 hb; replace HB := zE (zs1 HB GE160) hb; (try clear hb); (try clear hb2); (try clear hk); (try clear hi)) | ((with_reducible refine gate_callee (f := 5) rfl ?_); refine goesL_ (some 13) rfl rfl Tryd.func5 (by kernel_rfl) rfl #[.agg #[.string t162, .int .i64 t163, .int .i64 t164, .string t165]] rfl zl ?_; (with_reducible refine (spec_PlanForm.calls k t162 t163 t164 t165 t166 _ A8.out).mono ?_); rintro e w17 ⟨rfl, hb⟩; refine ⟨_, rfl, ?_⟩; replace BK160 := zb BK160 hb; replace HB := zE (zs1 HB GE160) hb; (try clear hb); (try clear hb2); (try clear hk); (try clear hi); obtain ⟨hcz18_0, hcz18_1, hcz18_2, hcz18_3⟩ := zd4 BK160; obtain ⟨hfz18_0, hfz18_1, hfz18_2, hfz18_3⟩ := zn4 BK160) | ((with_reducible refine gate_callee (f := 6) rfl ?_); refine goesL_ (some 15) rfl rfl Tryd.func6 (by kernel_rfl) rfl #[.agg #[.string a0_0, .int .i64 a0_1, .int .i64 a0_2, .string a0_3]] rfl zl ?_; (with_reducible refine (laws_toPlanChange.calls a0_0 a0_1 a0_2 a0_3 t167 t168 t169 t170 _ A9.out).mono ?_); rintro e w19 ⟨rfl, hb⟩; refine ⟨_, rfl, ?_⟩; replace BK160 := zb BK160 hb; replace HB := zE (zs1 HB GE160) hb; (try clear hb); (try clear hb2); (try clear hk); (try clear hi)) | ((with_reducible refine gate_callee (f := 7) rfl ?_); refine goesL_ (some 16) rfl rfl Tryd.func7 (by kernel_rfl) rfl #[.agg #[.string t167, .int .i64 t168, .int .i64 t169, .string t170]] rfl zl ?_; (with_reducible refine (impl_PlanForm.calls k t167 t168 t169 t170 t171 _ A10.out (PlanLaid.below (zs1 HB GE160) HL.out)).mono ?_); rintro e w20 ⟨rfl, hb⟩; refine ⟨_, rfl, ?_⟩; replace BK160 := zb BK160 hb; replace HB := zE (zs1 HB GE160) hb; (try clear hb); (try clear hb2); (try clear hk); (try clear hi)))
 go_ret
 exact ⟨ze, zs1 HB GE160⟩
end Go.Proofs.YtkphmngnanccbaaDoor.QFnExactPlanForm
