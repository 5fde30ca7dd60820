/- The walk of what the law FnFlyTight reaches: laid by a program of this session (ownprint.py). -/
import Derived.Test.YtidoahlbaeiemaaQFnFlyTightx0
namespace Go.Proofs.Ytidoahlbaeiemaa.QFnFlyTight
open Go.RowKit Go.Proofs.YtidoahlbaeiemaaW.PrintWords Go.Proofs.YtidoahlbaeiemaaW.PrintLast Go.Proofs.YtidoahlbaeiemaaW.PrintMore Go.Proofs.Ytidoahlbaeiemaa.Z
attribute [local go_sem] max2_int min2_int max_two min_two max_three min_three max_four min_four zdn   -- for this text's walks alone
set_option linter.unusedVariables false
set_option linter.unusedSimpArgs false
def spec_l23Low.f (a3:Int) (a4:Int) (a0:List (S52)) (a2:Int) (a5:Int) (a1:Int):Option (Int):=if a1<(a0.length:Int)then(if 0≤a1 then(some ((rd_T52 a0 a1).f4))else(none))else(some a2)
set_option maxHeartbeats 8000000 in
set_option maxRecDepth 100000 in
theorem spec_l23Low.calls (b1:Int) (b2:Int) (b3:Option Addr) (b4:Nat) (a0:List (S52)) (b5:Int) (b6:Int) (a1:Int) (r:Int) (w:World) (hr0_2:Kd.C k52 w b3 a0.length a0) (hc0_2:a0.length≤b4) (h:spec_l23Low.f b1 b2 a0 b5 b6 a1=some r):
 Calls Try.prog 39 #[.agg #[.int .i64 b1,.int .i64 b2,.slice b3 a0.length b4,.int .i64 b5,.int .i64 b6],.int .i64 a1] w fun e w'=>e= .returned (.int .i64 r)∧Below w.heap.size w w':=by
 have f4:=Try.underlying27;have b9:=zA hr0_2;have f2:=zA hc0_2;clear hr0_2 hc0_2;have HB:=zA (Below.refl w.heap.size w);have H:=h;clear h;unfold spec_l23Low.f at H
 by_cases c3:a1<(a0.length:Int)
 rotate_left
 ·rw[if_neg c3]at H
  have d0:decide (a1<(a0.length:Int))=false:=decide_eq_false c3;clear c3;obtain rfl:=Option.some.inj H
  go_enter Try.func39,Try.ntmps39
  go_wp2_with (first|((with_reducible refine gate_dst (N:=2) rfl ?_);refine zbx 2 #[.int .i64 b1,.int .i64 b2,.slice b3 a0.length b4,.int .i64 b5,.int .i64 b6] 27 ?_;intro c0 hg w7 hbox hb;have a2:=zA hbox;have c1:=zgs hg (zs0 HB);have b0:=zgs hg (zs0 HB);replace HB:=zE (zs0 HB) hb;clear hb hbox hg;obtain⟨d1,d2,d3,d4,d5⟩:=zd5 a2;obtain⟨d6,d7,d8,d9,e0⟩:=zn5 a2))
  go_ret;exact⟨ze,zs1 HB b0⟩
 rw[if_pos c3]at H;have d0:decide (a1<(a0.length:Int))=true:=decide_eq_true c3;clear c3;replace H:=zif H;obtain⟨f5,H⟩:=H;obtain rfl:=Option.some.inj H
 go_enter Try.func39,Try.ntmps39
 go_wp2_with (first|((with_reducible refine gate_dst (N:=2) rfl ?_);refine zbx 2 #[.int .i64 b1,.int .i64 b2,.slice b3 a0.length b4,.int .i64 b5,.int .i64 b6] 27 ?_;intro c0 hg w5 hbox hb;have a2:=zA hbox;have c1:=zgs hg (zs0 HB);have b0:=zgs hg (zs0 HB);replace HB:=zE (zs0 HB) hb;clear hb hbox hg;obtain⟨e1,e2,e3,e4,e5⟩:=zd5 a2;obtain⟨e6,e7,e8,e9,f0⟩:=zn5 a2;have b7:0≤(a1:Int):=za;have b8:a1<(a0.length:Int):=za;obtain⟨f3,f1,a3,a4,a5,a6,a7,a8,a9⟩:=at_T52 b9.out a1 b7 b8;cases f1;replace a3:=zx HB a3;replace a4:=zx HB a4;replace a5:=zx HB a5;replace a6:=zx HB a6;replace a7:=zx HB a7;replace a8:=zx HB a8;replace a9:=zx HB a9;replace b7:=eq_true b7;replace b8:=eq_true b8))
 go_ret;exact⟨ze,zs1 HB b0⟩
def spec_l23High.f (a3:Int) (a4:Int) (a0:List (S52)) (a5:Int) (a2:Int) (a1:Int):Option (Int):=if a1<(a0.length:Int)then(if 0≤a1 then(some ((rd_T52 a0 a1).f5))else(none))else(some a2)
set_option maxHeartbeats 8000000 in
set_option maxRecDepth 100000 in
theorem spec_l23High.calls (b1:Int) (b2:Int) (b3:Option Addr) (b4:Nat) (a0:List (S52)) (b5:Int) (b6:Int) (a1:Int) (r:Int) (w:World) (hr0_2:Kd.C k52 w b3 a0.length a0) (hc0_2:a0.length≤b4) (h:spec_l23High.f b1 b2 a0 b5 b6 a1=some r):
 Calls Try.prog 40 #[.agg #[.int .i64 b1,.int .i64 b2,.slice b3 a0.length b4,.int .i64 b5,.int .i64 b6],.int .i64 a1] w fun e w'=>e= .returned (.int .i64 r)∧Below w.heap.size w w':=by
 have f4:=Try.underlying27;have b9:=zA hr0_2;have f2:=zA hc0_2;clear hr0_2 hc0_2;have HB:=zA (Below.refl w.heap.size w);have H:=h;clear h;unfold spec_l23High.f at H
 by_cases c3:a1<(a0.length:Int)
 rotate_left
 ·rw[if_neg c3]at H
  have d0:decide (a1<(a0.length:Int))=false:=decide_eq_false c3;clear c3;obtain rfl:=Option.some.inj H
  go_enter Try.func40,Try.ntmps40
  go_wp2_with (first|((with_reducible refine gate_dst (N:=2) rfl ?_);refine zbx 2 #[.int .i64 b1,.int .i64 b2,.slice b3 a0.length b4,.int .i64 b5,.int .i64 b6] 27 ?_;intro c0 hg w7 hbox hb;have a2:=zA hbox;have c1:=zgs hg (zs0 HB);have b0:=zgs hg (zs0 HB);replace HB:=zE (zs0 HB) hb;clear hb hbox hg;obtain⟨d1,d2,d3,d4,d5⟩:=zd5 a2;obtain⟨d6,d7,d8,d9,e0⟩:=zn5 a2))
  go_ret;exact⟨ze,zs1 HB b0⟩
 rw[if_pos c3]at H;have d0:decide (a1<(a0.length:Int))=true:=decide_eq_true c3;clear c3;replace H:=zif H;obtain⟨f5,H⟩:=H;obtain rfl:=Option.some.inj H
 go_enter Try.func40,Try.ntmps40
 go_wp2_with (first|((with_reducible refine gate_dst (N:=2) rfl ?_);refine zbx 2 #[.int .i64 b1,.int .i64 b2,.slice b3 a0.length b4,.int .i64 b5,.int .i64 b6] 27 ?_;intro c0 hg w5 hbox hb;have a2:=zA hbox;have c1:=zgs hg (zs0 HB);have b0:=zgs hg (zs0 HB);replace HB:=zE (zs0 HB) hb;clear hb hbox hg;obtain⟨e1,e2,e3,e4,e5⟩:=zd5 a2;obtain⟨e6,e7,e8,e9,f0⟩:=zn5 a2;have b7:0≤(a1:Int):=za;have b8:a1<(a0.length:Int):=za;obtain⟨f3,f1,a3,a4,a5,a6,a7,a8,a9⟩:=at_T52 b9.out a1 b7 b8;cases f1;replace a3:=zx HB a3;replace a4:=zx HB a4;replace a5:=zx HB a5;replace a6:=zx HB a6;replace a7:=zx HB a7;replace a8:=zx HB a8;replace a9:=zx HB a9;replace b7:=eq_true b7;replace b8:=eq_true b8))
 go_ret;exact⟨ze,zs1 HB b0⟩
def spec_l21Min.f (a0:Int) (a1:Int):Option (Int):=if a0<a1 then(some a0)else(some a1)
set_option maxHeartbeats 8000000 in
set_option maxRecDepth 100000 in
theorem spec_l21Min.calls (a0:Int) (a1:Int) (r:Int) (w:World) (h:spec_l21Min.f a0 a1=some r):
 Calls Try.prog 41 #[.int .i64 a0,.int .i64 a1] w fun e w'=>e= .returned (.int .i64 r)∧Drawn0 w w':=by
 have H:=h;clear h;unfold spec_l21Min.f at H
 by_cases c3:a0<a1
 ·rw[if_pos c3]at H
  have a2:decide (a0<a1)=true:=decide_eq_true c3;clear c3;obtain rfl:=Option.some.inj H
  go_enter Try.func41,Try.ntmps41
  go_wp2
  go_ret;exact⟨by first|rfl|(simp;done)|(simp[*];done),by repeat(first|exact Drawn0.refl _|apply Drawn0.step)⟩
 rw[if_neg c3]at H;have a2:decide (a0<a1)=false:=decide_eq_false c3;clear c3;obtain rfl:=Option.some.inj H
 go_enter Try.func41,Try.ntmps41
 go_wp2
 go_ret;exact⟨by first|rfl|(simp;done)|(simp[*];done),by repeat(first|exact Drawn0.refl _|apply Drawn0.step)⟩
def spec_l23Most.f (a3:Int) (a2:Int) (a0:List (S52)) (a4:Int) (a5:Int) (a1:Int):Option (Int):=if 0≤a1 then(if a1<(a0.length:Int)then(if(rd_T52 a0 a1).f6=true then(some 10000)else(some a2))else(none))else(none)
set_option maxHeartbeats 8000000 in
set_option maxRecDepth 100000 in
theorem spec_l23Most.calls (b4:Int) (b2:Int) (b5:Option Addr) (b6:Nat) (a8:List (S52)) (b7:Int) (b8:Int) (a1:Int) (r:Int) (w:World) (hr0_2:Kd.C k52 w b5 a8.length a8) (hc0_2:a8.length≤b6) (h:spec_l23Most.f b4 b2 a8 b7 b8 a1=some r):
 Calls Try.prog 42 #[.agg #[.int .i64 b4,.int .i64 b2,.slice b5 a8.length b6,.int .i64 b7,.int .i64 b8],.int .i64 a1] w fun e w'=>e= .returned (.int .i64 r)∧Below w.heap.size w w':=by
 have f3:=Try.underlying27;have b9:=zA hr0_2;have f2:=zA hc0_2;clear hr0_2 hc0_2;have HB:=zA (Below.refl w.heap.size w);have H:=h;clear h;unfold spec_l23Most.f at H;replace H:=zif H;obtain⟨f4,H⟩:=H
 by_cases c4:a1<(a8.length:Int)
 rotate_left
 ·rw[if_neg c4]at H
  exact absurd H (by simp)
 rw[if_pos c4]at H;have f5:decide (a1<(a8.length:Int))=true:=decide_eq_true c4;clear c4;obtain⟨bq5,hbq5⟩: ∃b_:Bool,b_=((rd_T52 a8 a1).f6):=⟨_,rfl⟩
 replace H:(if bq5=true then(some 10000)else(some b2))=some r:=by rw[←hbq5]at H;exact H
 have Nbq5:=zA hbq5;clear hbq5
 by_cases c6:bq5=true
 ·subst c6
  rw[if_pos rfl]at H;obtain rfl:=Option.some.inj H
  go_enter Try.func42,Try.ntmps42
  go_wp2_with (first|((with_reducible refine gate_dst (N:=2) rfl ?_);refine zbx 2 #[.int .i64 b4,.int .i64 b2,.slice b5 a8.length b6,.int .i64 b7,.int .i64 b8] 27 ?_;intro c1 hg w7 hbox hb;have a9:=zA hbox;have d0:=zgs hg (zs0 HB);have b3:=zgs hg (zs0 HB);replace HB:=zE (zs0 HB) hb;clear hb hbox hg;obtain⟨e2,e3,e4,e5,e6⟩:=zd5 a9;obtain⟨e7,e8,e9,f0,f1⟩:=zn5 a9;have b0:0≤(a1:Int):=za;have b1:a1<(a8.length:Int):=za;obtain⟨d1,c0,a2,a3,a4,a5,a6,a7,a0⟩:=at_T52 b9.out a1 b0 b1;(try rw[←Nbq5.out]at a0);cases c0;replace a2:=zx HB a2;replace a3:=zx HB a3;replace a4:=zx HB a4;replace a5:=zx HB a5;replace a6:=zx HB a6;replace a7:=zx HB a7;replace a0:=zx HB a0;replace b0:=eq_true b0;replace b1:=eq_true b1))
  go_ret;exact⟨ze,zs1 HB b3⟩
 replace c6:=Bool.eq_false_iff.mpr c6;subst c6;rw[if_neg zfn]at H;obtain rfl:=Option.some.inj H
 go_enter Try.func42,Try.ntmps42
 go_wp2_with (first|((with_reducible refine gate_dst (N:=2) rfl ?_);refine zbx 2 #[.int .i64 b4,.int .i64 b2,.slice b5 a8.length b6,.int .i64 b7,.int .i64 b8] 27 ?_;intro c1 hg w9 hbox hb;have a9:=zA hbox;have d0:=zgs hg (zs0 HB);have b3:=zgs hg (zs0 HB);replace HB:=zE (zs0 HB) hb;clear hb hbox hg;obtain⟨d2,d3,d4,d5,d6⟩:=zd5 a9;obtain⟨d7,d8,d9,e0,e1⟩:=zn5 a9;have b0:0≤(a1:Int):=za;have b1:a1<(a8.length:Int):=za;obtain⟨d1,c0,a2,a3,a4,a5,a6,a7,a0⟩:=at_T52 b9.out a1 b0 b1;(try rw[←Nbq5.out]at a0);cases c0;replace a2:=zx HB a2;replace a3:=zx HB a3;replace a4:=zx HB a4;replace a5:=zx HB a5;replace a6:=zx HB a6;replace a7:=zx HB a7;replace a0:=zx HB a0;replace b0:=eq_true b0;replace b1:=eq_true b1))
 go_ret;exact⟨ze,zs1 HB b3⟩
end Go.Proofs.Ytidoahlbaeiemaa.QFnFlyTight
