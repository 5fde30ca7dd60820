/- The walk of what the law FnFlyNext reaches: laid by a program of this session (ownprint.py). -/
import Derived.Test.YtkecbmgdmkmfgaaQFnFlyNextx0
import Derived.Test.YtkecbmgdmkmfgaaQFnFlyNextx2
namespace Go.Proofs.Ytkecbmgdmkmfgaa.QFnFlyNext
open Go.RowKit Go.Proofs.YtkecbmgdmkmfgaaW.PrintWords Go.Proofs.YtkecbmgdmkmfgaaW.PrintLast Go.Proofs.YtkecbmgdmkmfgaaW.PrintMore Go.Proofs.Ytkecbmgdmkmfgaa.Z
attribute [local go_sem] max2_int min2_int max_two min_two max_three min_three max_four min_four zdn   -- for this text's walks alone
set_option linter.unusedVariables false
set_option linter.unusedSimpArgs false
def spec_l21Max.f (a0:Int) (a1:Int):Option (Int):=if a0>a1 then(some a0)else(some a1)
set_option maxHeartbeats 8000000 in
set_option maxRecDepth 100000 in
theorem spec_l21Max.calls (a0:Int) (a1:Int) (r:Int) (w:World) (h:spec_l21Max.f a0 a1=some r):
 Calls Try.prog 26 #[.int .i64 a0,.int .i64 a1] w fun e w'=>e= .returned (.int .i64 r)∧Drawn0 w w':=by
 have H:=h;clear h;unfold spec_l21Max.f at H
 by_cases c3:a0>a1
 ·rw[if_pos c3]at H
  have a2:decide (a1<a0)=true:=decide_eq_true c3;clear c3;obtain rfl:=Option.some.inj H
  go_enter Try.func26,Try.ntmps26
  go_wp2
  go_ret;exact⟨by first|rfl|(simp;done)|(simp[*];done),by repeat(first|exact Drawn0.refl _|apply Drawn0.step)⟩
 rw[if_neg c3]at H;have a2:decide (a1<a0)=false:=decide_eq_false c3;clear c3;obtain rfl:=Option.some.inj H
 go_enter Try.func26,Try.ntmps26
 go_wp2
 go_ret;exact⟨by first|rfl|(simp;done)|(simp[*];done),by repeat(first|exact Drawn0.refl _|apply Drawn0.step)⟩
def spec_FlyKindOk.f (a1:Int) (a0:Int):Option (Bool):=(spec_l21In.f a1 1 a0).bind fun a2=>(if a2=true then(some (decide (a0≤50)))else(some false))
set_option maxHeartbeats 8000000 in
set_option maxRecDepth 100000 in
theorem spec_FlyKindOk.calls (a0:Int) (a1:Int) (r:Bool) (w:World) (h:spec_FlyKindOk.f a0 a1=some r):
 Calls Try.prog 32 #[.agg #[.int .i64 a0,.int .i64 a1]] w fun e w'=>e= .returned (.bool r)∧Below w.heap.size w w':=by
 have b5:=Try.underlying24;have HB:=zA (Below.refl w.heap.size w);have H:=h;clear h;unfold spec_FlyKindOk.f at H;replace H:=zbd H;obtain⟨a6,A2,H⟩:=H
 by_cases c3:a6=true
 ·subst c3
  rw[if_pos rfl]at H;obtain rfl:=Option.some.inj H
  go_enter Try.func32,Try.ntmps32
  go_wp2_with (first|((with_reducible refine gate_dst (N:=1) rfl ?_);refine zbx 1 #[.int .i64 a0,.int .i64 a1] 24 ?_;intro a4 hg w4 hbox hb;have a2:=zA hbox;have a5:=zgs hg (zs0 HB);have a3:=zgs hg (zs0 HB);replace HB:=zE (zs0 HB) hb;clear hb hbox hg;obtain⟨a7,a8⟩:=zd2 a2;obtain⟨a9,b0⟩:=zn2 a2)|((with_reducible refine gate_callee (f:=33) rfl ?_);refine zgl (N:=some 7) Try.func33 #[.int .i64 a0,.int .i64 1,.int .i64 a1] ?_;(with_reducible refine(spec_l21In.calls a0 1 a1 true _ A2.out).mono ?_);rintro e w' ⟨rfl,⟨nd,rfl⟩⟩;refine⟨_,rfl,?_⟩))
  go_ret;exact⟨ze,zs1 HB a3⟩
 replace c3:=Bool.eq_false_iff.mpr c3;subst c3;rw[if_neg zfn]at H;obtain rfl:=Option.some.inj H
 go_enter Try.func32,Try.ntmps32
 go_wp2_with (first|((with_reducible refine gate_dst (N:=1) rfl ?_);refine zbx 1 #[.int .i64 a0,.int .i64 a1] 24 ?_;intro a4 hg w6 hbox hb;have a2:=zA hbox;have a5:=zgs hg (zs0 HB);have a3:=zgs hg (zs0 HB);replace HB:=zE (zs0 HB) hb;clear hb hbox hg;obtain⟨b1,b2⟩:=zd2 a2;obtain⟨b3,b4⟩:=zn2 a2)|((with_reducible refine gate_callee (f:=33) rfl ?_);refine zgl (N:=some 7) Try.func33 #[.int .i64 a0,.int .i64 1,.int .i64 a1] ?_;(with_reducible refine(spec_l21In.calls a0 1 a1 false _ A2.out).mono ?_);rintro e w' ⟨rfl,⟨nd,rfl⟩⟩;refine⟨_,rfl,?_⟩))
 go_ret;exact⟨ze,zs1 HB a3⟩
def spec_l22StepOk.f (a2:Int) (a3:Int) (a4:Int) (a0:Int) (a5:Int) (a1:Int) (b0:Bool):Option (Bool):=(spec_l21In.f a2 0 15).bind fun a6=>(if a6=true then((spec_l21In.f a3 0 15).bind fun a7=>(if a7=true then((spec_l21In.f a4 0 a0).bind fun a8=>(if a8=true then(if a0≤6 then((spec_l21In.f a5 0 a1).bind fun a9=>(if a9=true then(some (decide (a1≤10000)))else(some false)))else(some false))else(some false)))else(some false)))else(some false))
set_option maxHeartbeats 8000000 in
set_option maxRecDepth 100000 in
theorem spec_l22StepOk.calls (a1:Int) (a4:Int) (a5:Int) (a3:Int) (a6:Int) (a7:Int) (a8:Bool) (r:Bool) (w:World) (h:spec_l22StepOk.f a1 a4 a5 a3 a6 a7 a8=some r):
 Calls Try.prog 34 #[.agg #[.int .i64 a1,.int .i64 a4,.int .i64 a5,.int .i64 a3,.int .i64 a6,.int .i64 a7,.bool a8]] w fun e w'=>e= .returned (.bool r)∧Below w.heap.size w w':=by
 have l6:=Try.underlying54;have HB:=zA (Below.refl w.heap.size w);have H:=h;clear h;unfold spec_l22StepOk.f at H;replace H:=zbd H;obtain⟨k7,A2,H⟩:=H
 by_cases c3:k7=true
 rotate_left
 ·replace c3:=Bool.eq_false_iff.mpr c3
  subst c3;rw[if_neg zfn]at H;obtain rfl:=Option.some.inj H
  go_enter Try.func34,Try.ntmps34
  go_wp2_with (first|((with_reducible refine gate_dst (N:=1) rfl ?_);refine zbx 1 #[.int .i64 a1,.int .i64 a4,.int .i64 a5,.int .i64 a3,.int .i64 a6,.int .i64 a7,.bool a8] 54 ?_;intro a9 hg l7 hbox hb;have a0:=zA hbox;have b0:=zgs hg (zs0 HB);have a2:=zgs hg (zs0 HB);replace HB:=zE (zs0 HB) hb;clear hb hbox hg;obtain⟨b1,b2,b3,b4,b5,b6,b7⟩:=zd7 a0;obtain⟨b8,b9,c0,c1,d0,d1,d2⟩:=zn7 a0)|((with_reducible refine gate_callee (f:=33) rfl ?_);refine zgl (N:=some 5) Try.func33 #[.int .i64 a1,.int .i64 0,.int .i64 15] ?_;(with_reducible refine(spec_l21In.calls a1 0 15 false _ A2.out).mono ?_);rintro e w' ⟨rfl,⟨nd,rfl⟩⟩;refine⟨_,rfl,?_⟩))
  go_ret;exact⟨ze,zs1 HB a2⟩
 subst c3;rw[if_pos rfl]at H;replace H:=zbd H;obtain⟨k8,A4,H⟩:=H
 by_cases c5:k8=true
 rotate_left
 ·replace c5:=Bool.eq_false_iff.mpr c5
  subst c5;rw[if_neg zfn]at H;obtain rfl:=Option.some.inj H
  go_enter Try.func34,Try.ntmps34
  go_wp2_with (first|((with_reducible refine gate_dst (N:=1) rfl ?_);refine zbx 1 #[.int .i64 a1,.int .i64 a4,.int .i64 a5,.int .i64 a3,.int .i64 a6,.int .i64 a7,.bool a8] 54 ?_;intro a9 hg l8 hbox hb;have a0:=zA hbox;have b0:=zgs hg (zs0 HB);have a2:=zgs hg (zs0 HB);replace HB:=zE (zs0 HB) hb;clear hb hbox hg;obtain⟨d3,d4,d5,d6,d7,d8,d9⟩:=zd7 a0;obtain⟨e0,e1,e2,e3,e4,e5,e6⟩:=zn7 a0)|((with_reducible refine gate_callee (f:=33) rfl ?_);refine zgl (N:=some 5) Try.func33 #[.int .i64 a1,.int .i64 0,.int .i64 15] ?_;(with_reducible refine(spec_l21In.calls a1 0 15 true _ A2.out).mono ?_);rintro e w' ⟨rfl,⟨nd,rfl⟩⟩;refine⟨_,rfl,?_⟩)|(go_at_call 33;(with_reducible refine(spec_l21In.calls a4 0 15 false _ A4.out).mono ?_);rintro e w' ⟨rfl,⟨nd,rfl⟩⟩))
  go_ret;exact⟨ze,zs1 HB a2⟩
 subst c5;rw[if_pos rfl]at H;replace H:=zbd H;obtain⟨k9,A6,H⟩:=H
 by_cases c7:k9=true
 rotate_left
 ·replace c7:=Bool.eq_false_iff.mpr c7
  subst c7;rw[if_neg zfn]at H;obtain rfl:=Option.some.inj H
  go_enter Try.func34,Try.ntmps34
  go_wp2_with (first|((with_reducible refine gate_dst (N:=1) rfl ?_);refine zbx 1 #[.int .i64 a1,.int .i64 a4,.int .i64 a5,.int .i64 a3,.int .i64 a6,.int .i64 a7,.bool a8] 54 ?_;intro a9 hg l9 hbox hb;have a0:=zA hbox;have b0:=zgs hg (zs0 HB);have a2:=zgs hg (zs0 HB);replace HB:=zE (zs0 HB) hb;clear hb hbox hg;obtain⟨e7,e8,e9,f0,f1,f2,f3⟩:=zd7 a0;obtain⟨f4,f5,f6,f7,f8,f9,g0⟩:=zn7 a0)|((with_reducible refine gate_callee (f:=33) rfl ?_);refine zgl (N:=some 5) Try.func33 #[.int .i64 a1,.int .i64 0,.int .i64 15] ?_;(with_reducible refine(spec_l21In.calls a1 0 15 true _ A2.out).mono ?_);rintro e w' ⟨rfl,⟨nd,rfl⟩⟩;refine⟨_,rfl,?_⟩)|(go_at_call 33;(with_reducible refine(spec_l21In.calls a4 0 15 true _ A4.out).mono ?_);rintro e w' ⟨rfl,⟨nd,rfl⟩⟩)|(go_at_call 33;(with_reducible refine(spec_l21In.calls a5 0 a3 false _ A6.out).mono ?_);rintro e w' ⟨rfl,⟨nd,rfl⟩⟩))
  go_ret;exact⟨ze,zs1 HB a2⟩
 subst c7;rw[if_pos rfl]at H
 by_cases c8:a3≤6
 rotate_left
 ·rw[if_neg c8]at H
  have l4:decide (a3≤6)=false:=decide_eq_false c8;clear c8;obtain rfl:=Option.some.inj H
  go_enter Try.func34,Try.ntmps34
  go_wp2_with (first|((with_reducible refine gate_dst (N:=1) rfl ?_);refine zbx 1 #[.int .i64 a1,.int .i64 a4,.int .i64 a5,.int .i64 a3,.int .i64 a6,.int .i64 a7,.bool a8] 54 ?_;intro a9 hg m0 hbox hb;have a0:=zA hbox;have b0:=zgs hg (zs0 HB);have a2:=zgs hg (zs0 HB);replace HB:=zE (zs0 HB) hb;clear hb hbox hg;obtain⟨g1,g2,g3,g4,g5,g6,g7⟩:=zd7 a0;obtain⟨g8,g9,h0,h1,h2,h3,h4⟩:=zn7 a0)|((with_reducible refine gate_callee (f:=33) rfl ?_);refine zgl (N:=some 5) Try.func33 #[.int .i64 a1,.int .i64 0,.int .i64 15] ?_;(with_reducible refine(spec_l21In.calls a1 0 15 true _ A2.out).mono ?_);rintro e w' ⟨rfl,⟨nd,rfl⟩⟩;refine⟨_,rfl,?_⟩)|(go_at_call 33;(with_reducible refine(spec_l21In.calls a4 0 15 true _ A4.out).mono ?_);rintro e w' ⟨rfl,⟨nd,rfl⟩⟩)|(go_at_call 33;(with_reducible refine(spec_l21In.calls a5 0 a3 true _ A6.out).mono ?_);rintro e w' ⟨rfl,⟨nd,rfl⟩⟩))
  go_ret;exact⟨ze,zs1 HB a2⟩
 rw[if_pos c8]at H;have l4:decide (a3≤6)=true:=decide_eq_true c8;clear c8;replace H:=zbd H;obtain⟨l5,A9,H⟩:=H
 by_cases c10:l5=true
 ·subst c10
  rw[if_pos rfl]at H;obtain rfl:=Option.some.inj H
  go_enter Try.func34,Try.ntmps34
  go_wp2_with (first|((with_reducible refine gate_dst (N:=1) rfl ?_);refine zbx 1 #[.int .i64 a1,.int .i64 a4,.int .i64 a5,.int .i64 a3,.int .i64 a6,.int .i64 a7,.bool a8] 54 ?_;intro a9 hg m1 hbox hb;have a0:=zA hbox;have b0:=zgs hg (zs0 HB);have a2:=zgs hg (zs0 HB);replace HB:=zE (zs0 HB) hb;clear hb hbox hg;obtain⟨h5,h6,h7,h8,h9,i0,i1⟩:=zd7 a0;obtain⟨i2,i3,i4,i5,i6,i7,i8⟩:=zn7 a0)|((with_reducible refine gate_callee (f:=33) rfl ?_);refine zgl (N:=some 5) Try.func33 #[.int .i64 a1,.int .i64 0,.int .i64 15] ?_;(with_reducible refine(spec_l21In.calls a1 0 15 true _ A2.out).mono ?_);rintro e w' ⟨rfl,⟨nd,rfl⟩⟩;refine⟨_,rfl,?_⟩)|(go_at_call 33;(with_reducible refine(spec_l21In.calls a4 0 15 true _ A4.out).mono ?_);rintro e w' ⟨rfl,⟨nd,rfl⟩⟩)|(go_at_call 33;(with_reducible refine(spec_l21In.calls a5 0 a3 true _ A6.out).mono ?_);rintro e w' ⟨rfl,⟨nd,rfl⟩⟩)|(go_at_call 33;(with_reducible refine(spec_l21In.calls a6 0 a7 true _ A9.out).mono ?_);rintro e w' ⟨rfl,⟨nd,rfl⟩⟩))
  go_ret;exact⟨ze,zs1 HB a2⟩
 replace c10:=Bool.eq_false_iff.mpr c10;subst c10;rw[if_neg zfn]at H;obtain rfl:=Option.some.inj H
 go_enter Try.func34,Try.ntmps34
 go_wp2_with (first|((with_reducible refine gate_dst (N:=1) rfl ?_);refine zbx 1 #[.int .i64 a1,.int .i64 a4,.int .i64 a5,.int .i64 a3,.int .i64 a6,.int .i64 a7,.bool a8] 54 ?_;intro a9 hg m2 hbox hb;have a0:=zA hbox;have b0:=zgs hg (zs0 HB);have a2:=zgs hg (zs0 HB);replace HB:=zE (zs0 HB) hb;clear hb hbox hg;obtain⟨i9,j1,j5,j6,j7,j8,j9⟩:=zd7 a0;obtain⟨k0,k1,k2,k3,k4,k5,k6⟩:=zn7 a0)|((with_reducible refine gate_callee (f:=33) rfl ?_);refine zgl (N:=some 5) Try.func33 #[.int .i64 a1,.int .i64 0,.int .i64 15] ?_;(with_reducible refine(spec_l21In.calls a1 0 15 true _ A2.out).mono ?_);rintro e w' ⟨rfl,⟨nd,rfl⟩⟩;refine⟨_,rfl,?_⟩)|(go_at_call 33;(with_reducible refine(spec_l21In.calls a4 0 15 true _ A4.out).mono ?_);rintro e w' ⟨rfl,⟨nd,rfl⟩⟩)|(go_at_call 33;(with_reducible refine(spec_l21In.calls a5 0 a3 true _ A6.out).mono ?_);rintro e w' ⟨rfl,⟨nd,rfl⟩⟩)|(go_at_call 33;(with_reducible refine(spec_l21In.calls a6 0 a7 false _ A9.out).mono ?_);rintro e w' ⟨rfl,⟨nd,rfl⟩⟩))
 go_ret;exact⟨ze,zs1 HB a2⟩
def spec_l22Next.f (a0:Int) (a1:Int) (a2:Int) (a3:Int) (b0:Int) (b1:Int) (b2:Bool) (a4:Int) (a5:Int) (a6:Int) (a7:Int) (b3:Int) (b4:Int) (b5:Bool):Option (Bool):=(spec_l21In.f (wrap64 (a0-a4)) (-1) 1).bind fun a8=>(if a8=true then((spec_l21In.f (wrap64 (a1-a5)) (-1) 1).bind fun a9=>(if a9=true then(if a0=a4 then(if a1=a5 then(some false)else(if a2≤a7 then(some (decide (a6≤a3)))else(some false)))else(if a2≤a7 then(some (decide (a6≤a3)))else(some false)))else(some false)))else(some false))
set_option maxHeartbeats 8000000 in
set_option maxRecDepth 100000 in
theorem spec_l22Next.calls (a5:Int) (a7:Int) (b0:Int) (b6:Int) (b7:Int) (b8:Int) (b9:Bool) (a6:Int) (a8:Int) (c0:Int) (b1:Int) (c1:Int) (d0:Int) (d1:Bool) (r:Bool) (w:World) (h:spec_l22Next.f a5 a7 b0 b6 b7 b8 b9 a6 a8 c0 b1 c1 d0 d1=some r):
 Calls Try.prog 35 #[.agg #[.int .i64 a5,.int .i64 a7,.int .i64 b0,.int .i64 b6,.int .i64 b7,.int .i64 b8,.bool b9],.agg #[.int .i64 a6,.int .i64 a8,.int .i64 c0,.int .i64 b1,.int .i64 c1,.int .i64 d0,.bool d1]] w fun e w'=>e= .returned (.bool r)∧Below w.heap.size w w':=by
 have B5:=Try.underlying54;have HB:=zA (Below.refl w.heap.size w);have H:=h;clear h;unfold spec_l22Next.f at H;replace H:=zbd H;obtain⟨z1,A3,H⟩:=H
 by_cases c4:z1=true
 rotate_left
 ·replace c4:=Bool.eq_false_iff.mpr c4
  subst c4;rw[if_neg zfn]at H;obtain rfl:=Option.some.inj H
  go_enter Try.func35,Try.ntmps35
  go_wp2_with (first|((with_reducible refine gate_dst (N:=2) rfl ?_);refine zbx 2 #[.int .i64 a5,.int .i64 a7,.int .i64 b0,.int .i64 b6,.int .i64 b7,.int .i64 b8,.bool b9] 54 ?_;intro b2 hg C0 hbox hb;have a0:=zA hbox;have b3:=zgs hg (zs0 HB);have a1:=zgs hg (zs0 HB);replace HB:=zE (zs0 HB) hb;clear hb hbox hg)|((with_reducible refine gate_dst (N:=3) rfl ?_);refine zbx 3 #[.int .i64 a6,.int .i64 a8,.int .i64 c0,.int .i64 b1,.int .i64 c1,.int .i64 d0,.bool d1] 54 ?_;intro b4 hg C1 hbox hb;have a4:=zA hbox;have b5:=zgs hg (zs1 HB a1);have a9:=zgs hg (zs1 HB a1);have a2:=zne hg a0;have a3:=znf hg a0;replace a0:=zb a0 hb;replace HB:=zE (zs1 HB a1) hb;clear hb hbox hg;have z7:=a2.out;have z8:=a3.out;obtain⟨d6,d7,d8,d9,e0,e1,e2⟩:=zd7 a0;obtain⟨e3,e4,e5,e6,e7,e8,e9⟩:=zn7 a0;obtain⟨f0,f1,f2,f3,f4,f5,f6⟩:=zd7 a4;obtain⟨f7,f8,f9,g0,g1,g2,g3⟩:=zn7 a4)|((with_reducible refine gate_callee (f:=33) rfl ?_);refine zgl (N:=some 10) Try.func33 #[.int .i64 (wrap64 (a5-a6)),.int .i64 (-1),.int .i64 1] ?_;(with_reducible refine(spec_l21In.calls (wrap64 (a5-a6)) (-1) 1 false _ A3.out).mono ?_);rintro e w' ⟨rfl,⟨nd,rfl⟩⟩;refine⟨_,rfl,?_⟩))
  go_ret;exact⟨ze,zs2 HB a1 a9⟩
 subst c4;rw[if_pos rfl]at H;replace H:=zbd H;obtain⟨z2,A5,H⟩:=H
 by_cases c6:z2=true
 rotate_left
 ·replace c6:=Bool.eq_false_iff.mpr c6
  subst c6;rw[if_neg zfn]at H;obtain rfl:=Option.some.inj H
  go_enter Try.func35,Try.ntmps35
  go_wp2_with (first|((with_reducible refine gate_dst (N:=2) rfl ?_);refine zbx 2 #[.int .i64 a5,.int .i64 a7,.int .i64 b0,.int .i64 b6,.int .i64 b7,.int .i64 b8,.bool b9] 54 ?_;intro b2 hg C2 hbox hb;have a0:=zA hbox;have b3:=zgs hg (zs0 HB);have a1:=zgs hg (zs0 HB);replace HB:=zE (zs0 HB) hb;clear hb hbox hg)|((with_reducible refine gate_dst (N:=3) rfl ?_);refine zbx 3 #[.int .i64 a6,.int .i64 a8,.int .i64 c0,.int .i64 b1,.int .i64 c1,.int .i64 d0,.bool d1] 54 ?_;intro b4 hg C3 hbox hb;have a4:=zA hbox;have b5:=zgs hg (zs1 HB a1);have a9:=zgs hg (zs1 HB a1);have a2:=zne hg a0;have a3:=znf hg a0;replace a0:=zb a0 hb;replace HB:=zE (zs1 HB a1) hb;clear hb hbox hg;have z9:=a2.out;have A0:=a3.out;obtain⟨g4,g5,g6,g7,g8,g9,h0⟩:=zd7 a0;obtain⟨h1,h2,h3,h4,h5,h6,h7⟩:=zn7 a0;obtain⟨h8,h9,i0,i1,i2,i3,i4⟩:=zd7 a4;obtain⟨i5,i6,i7,i8,i9,j1,j5⟩:=zn7 a4)|((with_reducible refine gate_callee (f:=33) rfl ?_);refine zgl (N:=some 10) Try.func33 #[.int .i64 (wrap64 (a5-a6)),.int .i64 (-1),.int .i64 1] ?_;(with_reducible refine(spec_l21In.calls (wrap64 (a5-a6)) (-1) 1 true _ A3.out).mono ?_);rintro e w' ⟨rfl,⟨nd,rfl⟩⟩;refine⟨_,rfl,?_⟩)|(go_at_call 33;(with_reducible refine(spec_l21In.calls (wrap64 (a7-a8)) (-1) 1 false _ A5.out).mono ?_);rintro e w' ⟨rfl,⟨nd,rfl⟩⟩))
  go_ret;exact⟨ze,zs2 HB a1 a9⟩
 subst c6;rw[if_pos rfl]at H
 by_cases c7:a5=a6
 rotate_left
 ·rw[if_neg c7]at H
  have z3:(a5==a6)=false:=beq_eq_false_iff_ne.mpr c7;have z4:(a5 !=a6)=true:=bne_iff_ne.mpr c7
  by_cases d2:b0≤b1
  ·rw[if_pos d2]at H
   have d4:decide (b0≤b1)=true:=decide_eq_true d2;clear d2;obtain rfl:=Option.some.inj H
   go_enter Try.func35,Try.ntmps35
   go_wp2_with (first|((with_reducible refine gate_dst (N:=2) rfl ?_);refine zbx 2 #[.int .i64 a5,.int .i64 a7,.int .i64 b0,.int .i64 b6,.int .i64 b7,.int .i64 b8,.bool b9] 54 ?_;intro b2 hg C4 hbox hb;have a0:=zA hbox;have b3:=zgs hg (zs0 HB);have a1:=zgs hg (zs0 HB);replace HB:=zE (zs0 HB) hb;clear hb hbox hg)|((with_reducible refine gate_dst (N:=3) rfl ?_);refine zbx 3 #[.int .i64 a6,.int .i64 a8,.int .i64 c0,.int .i64 b1,.int .i64 c1,.int .i64 d0,.bool d1] 54 ?_;intro b4 hg C5 hbox hb;have a4:=zA hbox;have b5:=zgs hg (zs1 HB a1);have a9:=zgs hg (zs1 HB a1);have a2:=zne hg a0;have a3:=znf hg a0;replace a0:=zb a0 hb;replace HB:=zE (zs1 HB a1) hb;clear hb hbox hg;have A1:=a2.out;have A2:=a3.out;obtain⟨j6,j7,j8,j9,k0,k1,k2⟩:=zd7 a0;obtain⟨k3,k4,k5,k6,k7,k8,k9⟩:=zn7 a0;obtain⟨l4,l5,l6,l7,l8,l9,m0⟩:=zd7 a4;obtain⟨m1,m2,m3,m4,m5,m6,m7⟩:=zn7 a4)|((with_reducible refine gate_callee (f:=33) rfl ?_);refine zgl (N:=some 10) Try.func33 #[.int .i64 (wrap64 (a5-a6)),.int .i64 (-1),.int .i64 1] ?_;(with_reducible refine(spec_l21In.calls (wrap64 (a5-a6)) (-1) 1 true _ A3.out).mono ?_);rintro e w' ⟨rfl,⟨nd,rfl⟩⟩;refine⟨_,rfl,?_⟩)|(go_at_call 33;(with_reducible refine(spec_l21In.calls (wrap64 (a7-a8)) (-1) 1 true _ A5.out).mono ?_);rintro e w' ⟨rfl,⟨nd,rfl⟩⟩))
   go_ret;exact⟨ze,zs2 HB a1 a9⟩
  rw[if_neg d2]at H;have d4:decide (b0≤b1)=false:=decide_eq_false d2;clear d2;obtain rfl:=Option.some.inj H
  go_enter Try.func35,Try.ntmps35
  go_wp2_with (first|((with_reducible refine gate_dst (N:=2) rfl ?_);refine zbx 2 #[.int .i64 a5,.int .i64 a7,.int .i64 b0,.int .i64 b6,.int .i64 b7,.int .i64 b8,.bool b9] 54 ?_;intro b2 hg C6 hbox hb;have a0:=zA hbox;have b3:=zgs hg (zs0 HB);have a1:=zgs hg (zs0 HB);replace HB:=zE (zs0 HB) hb;clear hb hbox hg)|((with_reducible refine gate_dst (N:=3) rfl ?_);refine zbx 3 #[.int .i64 a6,.int .i64 a8,.int .i64 c0,.int .i64 b1,.int .i64 c1,.int .i64 d0,.bool d1] 54 ?_;intro b4 hg C7 hbox hb;have a4:=zA hbox;have b5:=zgs hg (zs1 HB a1);have a9:=zgs hg (zs1 HB a1);have a2:=zne hg a0;have a3:=znf hg a0;replace a0:=zb a0 hb;replace HB:=zE (zs1 HB a1) hb;clear hb hbox hg;have A4:=a2.out;have A6:=a3.out;obtain⟨m8,m9,n0,n1,n2,n3,n4⟩:=zd7 a0;obtain⟨n5,n6,n7,n8,n9,o0,o1⟩:=zn7 a0;obtain⟨o2,o3,o4,o5,o6,o7,o8⟩:=zd7 a4;obtain⟨o9,p0,p1,p2,p3,p4,p5⟩:=zn7 a4)|((with_reducible refine gate_callee (f:=33) rfl ?_);refine zgl (N:=some 10) Try.func33 #[.int .i64 (wrap64 (a5-a6)),.int .i64 (-1),.int .i64 1] ?_;(with_reducible refine(spec_l21In.calls (wrap64 (a5-a6)) (-1) 1 true _ A3.out).mono ?_);rintro e w' ⟨rfl,⟨nd,rfl⟩⟩;refine⟨_,rfl,?_⟩)|(go_at_call 33;(with_reducible refine(spec_l21In.calls (wrap64 (a7-a8)) (-1) 1 true _ A5.out).mono ?_);rintro e w' ⟨rfl,⟨nd,rfl⟩⟩))
  go_ret;exact⟨ze,zs2 HB a1 a9⟩
 rw[if_pos c7]at H;have z3:(a5==a6)=true:=beq_iff_eq.mpr c7;have z4:(a5 !=a6)=false:=bne_eq_false_iff_eq.mpr c7;clear c7
 by_cases c8:a7=a8
 ·rw[if_pos c8]at H
  have z5:(a7==a8)=true:=beq_iff_eq.mpr c8;have z6:(a7 !=a8)=false:=bne_eq_false_iff_eq.mpr c8;clear c8;obtain rfl:=Option.some.inj H
  go_enter Try.func35,Try.ntmps35
  go_wp2_with (first|((with_reducible refine gate_dst (N:=2) rfl ?_);refine zbx 2 #[.int .i64 a5,.int .i64 a7,.int .i64 b0,.int .i64 b6,.int .i64 b7,.int .i64 b8,.bool b9] 54 ?_;intro b2 hg w9 hbox hb;have a0:=zA hbox;have b3:=zgs hg (zs0 HB);have a1:=zgs hg (zs0 HB);replace HB:=zE (zs0 HB) hb;clear hb hbox hg)|((with_reducible refine gate_dst (N:=3) rfl ?_);refine zbx 3 #[.int .i64 a6,.int .i64 a8,.int .i64 c0,.int .i64 b1,.int .i64 c1,.int .i64 d0,.bool d1] 54 ?_;intro b4 hg C8 hbox hb;have a4:=zA hbox;have b5:=zgs hg (zs1 HB a1);have a9:=zgs hg (zs1 HB a1);have a2:=zne hg a0;have a3:=znf hg a0;replace a0:=zb a0 hb;replace HB:=zE (zs1 HB a1) hb;clear hb hbox hg;have A7:=a2.out;have A8:=a3.out;obtain⟨p6,p7,p8,p9,q0,q1,q2⟩:=zd7 a0;obtain⟨q3,q4,q5,q6,q7,q8,q9⟩:=zn7 a0;obtain⟨r0,r1,r2,r3,r4,r5,r6⟩:=zd7 a4;obtain⟨r7,r8,r9,s0,s1,s2,s3⟩:=zn7 a4)|((with_reducible refine gate_callee (f:=33) rfl ?_);refine zgl (N:=some 10) Try.func33 #[.int .i64 (wrap64 (a5-a6)),.int .i64 (-1),.int .i64 1] ?_;(with_reducible refine(spec_l21In.calls (wrap64 (a5-a6)) (-1) 1 true _ A3.out).mono ?_);rintro e w' ⟨rfl,⟨nd,rfl⟩⟩;refine⟨_,rfl,?_⟩)|(go_at_call 33;(with_reducible refine(spec_l21In.calls (wrap64 (a7-a8)) (-1) 1 true _ A5.out).mono ?_);rintro e w' ⟨rfl,⟨nd,rfl⟩⟩))
  go_ret;exact⟨ze,zs2 HB a1 a9⟩
 rw[if_neg c8]at H;have z5:(a7==a8)=false:=beq_eq_false_iff_ne.mpr c8;have z6:(a7 !=a8)=true:=bne_iff_ne.mpr c8
 by_cases d3:b0≤b1
 ·rw[if_pos d3]at H
  have d5:decide (b0≤b1)=true:=decide_eq_true d3;clear d3;obtain rfl:=Option.some.inj H
  go_enter Try.func35,Try.ntmps35
  go_wp2_with (first|((with_reducible refine gate_dst (N:=2) rfl ?_);refine zbx 2 #[.int .i64 a5,.int .i64 a7,.int .i64 b0,.int .i64 b6,.int .i64 b7,.int .i64 b8,.bool b9] 54 ?_;intro b2 hg C9 hbox hb;have a0:=zA hbox;have b3:=zgs hg (zs0 HB);have a1:=zgs hg (zs0 HB);replace HB:=zE (zs0 HB) hb;clear hb hbox hg)|((with_reducible refine gate_dst (N:=3) rfl ?_);refine zbx 3 #[.int .i64 a6,.int .i64 a8,.int .i64 c0,.int .i64 b1,.int .i64 c1,.int .i64 d0,.bool d1] 54 ?_;intro b4 hg D0 hbox hb;have a4:=zA hbox;have b5:=zgs hg (zs1 HB a1);have a9:=zgs hg (zs1 HB a1);have a2:=zne hg a0;have a3:=znf hg a0;replace a0:=zb a0 hb;replace HB:=zE (zs1 HB a1) hb;clear hb hbox hg;have A9:=a2.out;have B0:=a3.out;obtain⟨s4,s5,s6,s7,s8,s9,t0⟩:=zd7 a0;obtain⟨t1,t2,t3,t4,t5,t6,t7⟩:=zn7 a0;obtain⟨t8,t9,v0,v1,v2,v3,v4⟩:=zd7 a4;obtain⟨v5,v6,v7,v8,v9,w0,w1⟩:=zn7 a4)|((with_reducible refine gate_callee (f:=33) rfl ?_);refine zgl (N:=some 10) Try.func33 #[.int .i64 (wrap64 (a5-a6)),.int .i64 (-1),.int .i64 1] ?_;(with_reducible refine(spec_l21In.calls (wrap64 (a5-a6)) (-1) 1 true _ A3.out).mono ?_);rintro e w' ⟨rfl,⟨nd,rfl⟩⟩;refine⟨_,rfl,?_⟩)|(go_at_call 33;(with_reducible refine(spec_l21In.calls (wrap64 (a7-a8)) (-1) 1 true _ A5.out).mono ?_);rintro e w' ⟨rfl,⟨nd,rfl⟩⟩))
  go_ret;exact⟨ze,zs2 HB a1 a9⟩
 rw[if_neg d3]at H;have d5:decide (b0≤b1)=false:=decide_eq_false d3;clear d3;obtain rfl:=Option.some.inj H
 go_enter Try.func35,Try.ntmps35
 go_wp2_with (first|((with_reducible refine gate_dst (N:=2) rfl ?_);refine zbx 2 #[.int .i64 a5,.int .i64 a7,.int .i64 b0,.int .i64 b6,.int .i64 b7,.int .i64 b8,.bool b9] 54 ?_;intro b2 hg D1 hbox hb;have a0:=zA hbox;have b3:=zgs hg (zs0 HB);have a1:=zgs hg (zs0 HB);replace HB:=zE (zs0 HB) hb;clear hb hbox hg)|((with_reducible refine gate_dst (N:=3) rfl ?_);refine zbx 3 #[.int .i64 a6,.int .i64 a8,.int .i64 c0,.int .i64 b1,.int .i64 c1,.int .i64 d0,.bool d1] 54 ?_;intro b4 hg D2 hbox hb;have a4:=zA hbox;have b5:=zgs hg (zs1 HB a1);have a9:=zgs hg (zs1 HB a1);have a2:=zne hg a0;have a3:=znf hg a0;replace a0:=zb a0 hb;replace HB:=zE (zs1 HB a1) hb;clear hb hbox hg;have B1:=a2.out;have B2:=a3.out;obtain⟨w2,w3,w4,w5,w6,w7,w8⟩:=zd7 a0;obtain⟨x0,x1,x2,x3,x4,x5,x6⟩:=zn7 a0;obtain⟨x7,x8,x9,y0,y1,y2,y3⟩:=zd7 a4;obtain⟨y4,y5,y6,y7,y8,y9,z0⟩:=zn7 a4)|((with_reducible refine gate_callee (f:=33) rfl ?_);refine zgl (N:=some 10) Try.func33 #[.int .i64 (wrap64 (a5-a6)),.int .i64 (-1),.int .i64 1] ?_;(with_reducible refine(spec_l21In.calls (wrap64 (a5-a6)) (-1) 1 true _ A3.out).mono ?_);rintro e w' ⟨rfl,⟨nd,rfl⟩⟩;refine⟨_,rfl,?_⟩)|(go_at_call 33;(with_reducible refine(spec_l21In.calls (wrap64 (a7-a8)) (-1) 1 true _ A5.out).mono ?_);rintro e w' ⟨rfl,⟨nd,rfl⟩⟩))
 go_ret;exact⟨ze,zs2 HB a1 a9⟩
end Go.Proofs.Ytkecbmgdmkmfgaa.QFnFlyNext
