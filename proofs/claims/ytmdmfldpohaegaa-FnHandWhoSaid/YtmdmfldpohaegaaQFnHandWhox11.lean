/- The walk of what the law FnHandWho reaches: laid by a program of this session (ownprint.py). -/
import Derived.Test.YtmdmfldpohaegaaQFnHandWhox0
import Derived.Test.YtmdmfldpohaegaaQFnHandWhox2
namespace Go.Proofs.Ytmdmfldpohaegaa.QFnHandWho
open Go.RowKit Go.Proofs.YtmdmfldpohaegaaW.PrintWords Go.Proofs.YtmdmfldpohaegaaW.PrintLast Go.Proofs.YtmdmfldpohaegaaW.PrintMore Go.Proofs.Ytmdmfldpohaegaa.Z
attribute [local go_sem] max2_int min2_int max_two min_two max_three min_three max_four min_four zdn   -- for this text's walks alone
set_option linter.unusedVariables false
set_option linter.unusedSimpArgs false
def spec_l31Rd_of.f (k:Nat) (s0_0:List Int) (s0_1:Int) (l1:List ByteArray):Option (ByteArray×Int):=(spec_l31Rd_pick.f k s0_0 s0_1 (l1.length:Int)).bind fun a0=>(if 0≤a0.1 then(if a0.1<(l1.length:Int)then(some (rdOf ByteArray.empty l1 a0.1,a0.2))else(none))else(none))
set_option maxHeartbeats 8000000 in
set_option maxRecDepth 100000 in
theorem spec_l31Rd_of.calls (k:Nat) (g:Nat) (s0_0:List Int) (s0_1:Int) (A1:Option Addr) (c1:Nat) (l1:List ByteArray) (r1:ByteArray) (r2:Int) (w0 w:World) (hI:IsS54 w0 w g s0_0 s0_1) (hB:Below w0.heap.size w0 w) (hr1:Kd.C Kd.string w A1 l1.length l1) (hc1:l1.length≤c1) (a7: ∀ad,A1=some ad→0<l1.length→ad.block≠g) (h:spec_l31Rd_of.f k s0_0 s0_1 l1=some (r1,r2)):
 Calls Try.prog 38 #[.pointer (some ⟨g,0,none⟩),.slice A1 l1.length c1] w fun e w'=>e= .returned (.string r1)∧IsS54 w0 w' g s0_0 r2∧Below w0.heap.size w0 w'∧KeepBut w w' g none:=by
 have b0:=zA hr1;have b3:=zA hc1;clear hr1 hc1;have a4:=zA hI;have HK:=zA (KeepBut.refl w g none);have HL:=zA hB.size;clear hI;have b4:=zA hB.size;have HB:=zA hB;clear hB;have H:=h;clear h;unfold spec_l31Rd_of.f at H;replace H:=Option.bind_eq_some_iff.mp H;obtain⟨⟨a0,a5⟩,a9,H⟩:=H;replace H:(if 0≤a0 then(if a0<(l1.length:Int)then(some (rdOf ByteArray.empty l1 a0,a5))else(none))else(none))=some (r1,r2):=H;have A3:=zA a9;clear a9;replace H:=zif H;obtain⟨b1,H⟩:=H
 by_cases c5:a0<(l1.length:Int)
 rotate_left
 ·rw[if_neg c5]at H
  exact absurd H (by simp)
 rw[if_pos c5]at H;have b2:decide (a0<(l1.length:Int))=true:=decide_eq_true c5;clear c5;simp only[Option.some.injEq,Prod.mk.injEq]at H;obtain⟨rfl,rfl⟩:=H
 go_enter Try.func38,Try.ntmps38
 go_wp2_with (first|((with_reducible refine gate_callee (f:=20) rfl ?_);refine zgl (N:=some 9) Try.func20 #[.pointer (some ⟨g,0,none⟩),.int .i64 (l1.length:Int)] ?_;(with_reducible refine(spec_l31Rd_pick.calls k g s0_0 s0_1 (l1.length:Int) a0 a5 w0 _ ?side1 ?side2 A3.out).mono ?_);(case side1=>exact zI0 a4);(case side2=>exact zB0 a4 HB);rintro e w6 ⟨rfl,hi,hb,hk⟩;refine⟨_,rfl,?_⟩;replace HK:=zKk (zK0 HK) hk;replace HB:=zA (hb);replace a4:=zA (hi);(try clear hb);(try clear hb2);(try clear hk);(try clear hi);have a2:0≤(a0:Int):=za;have a3:a0<(l1.length:Int):=za;obtain⟨a6,a8,a1⟩:=Kd.at_string b0.out a0 a2 a3;cases a8;replace a1:=keep_cell HK.out a1 (by first|(rw[add_block];exact a7 _ rfl (by omega))|exact a7 _ rfl (by omega)|exact a7 a6 rfl (by omega));replace a2:=eq_true a2;replace a3:=eq_true a3))
 go_ret;exact⟨ze,zI0 a4,zB0 a4 HB,zK0 HK⟩
end Go.Proofs.Ytmdmfldpohaegaa.QFnHandWho
