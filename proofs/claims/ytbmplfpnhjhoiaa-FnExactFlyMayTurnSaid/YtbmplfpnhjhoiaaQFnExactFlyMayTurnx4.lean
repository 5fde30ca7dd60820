/- The walk of what the law FnExactFlyMayTurn reaches: laid by a program of this session (ownprint.py). -/
import Derived.Test.YtbmplfpnhjhoiaaQFnExactFlyMayTurnx0
namespace Go.Proofs.Ytbmplfpnhjhoiaa.QFnExactFlyMayTurn
open Go.RowKit Go.Proofs.YtbmplfpnhjhoiaaW.PrintWords Go.Proofs.YtbmplfpnhjhoiaaW.PrintLast Go.Proofs.YtbmplfpnhjhoiaaW.PrintMore Go.Proofs.Ytbmplfpnhjhoiaa.Z
attribute [local go_sem] max2_int min2_int max_two min_two max_three min_three max_four min_four zdn   -- for this text's walks alone
set_option linter.unusedVariables false
set_option linter.unusedSimpArgs false
def laws_szFlyStepS.f (l0:List (S170)) (a1:Int):Option (Int):=if(wrap64 (a1-(l0.length:Int)))<0 then(some (-1))else(some (wrap64 (a1-(l0.length:Int))))
set_option maxHeartbeats 8000000 in
set_option maxRecDepth 100000 in
theorem laws_szFlyStepS.calls (A0:Option Addr) (c0:Nat) (l0:List (S170)) (a1:Int) (r:Int) (w:World) (hr0:Kd.C k170 w A0 l0.length l0) (hc0:l0.length≤c0) (h:laws_szFlyStepS.f l0 a1=some r):
 Calls Try.prog 118 #[.slice A0 l0.length c0,.int .i64 a1] w fun e w'=>e= .returned (.int .i64 r)∧Drawn0 w w':=by
 have HR0:=zA hr0;have HC0:=zA hc0;clear hr0 hc0;have H:=h;clear h;unfold laws_szFlyStepS.f at H
 by_cases c3:(wrap64 (a1-(l0.length:Int)))<0
 ·rw[if_pos c3]at H
  have c3b0:decide ((wrap64 (a1-(l0.length:Int)))<0)=true:=decide_eq_true c3;clear c3;obtain rfl:=Option.some.inj H
  go_enter Try.func118,Try.ntmps118
  go_wp2
  go_ret;exact⟨by first|rfl|(simp;done)|(simp[*];done),by repeat(first|exact Drawn0.refl _|apply Drawn0.step)⟩
 rw[if_neg c3]at H;have c3b0:decide ((wrap64 (a1-(l0.length:Int)))<0)=false:=decide_eq_false c3;clear c3;obtain rfl:=Option.some.inj H
 go_enter Try.func118,Try.ntmps118
 go_wp2
 go_ret;exact⟨by first|rfl|(simp;done)|(simp[*];done),by repeat(first|exact Drawn0.refl _|apply Drawn0.step)⟩
def laws_szFlyPath.f (a0_0:Int) (a0_1:Int) (l0_2:List (S170)) (a0_3:Int) (a0_4:Int) (a1:Int):Option (Int):=(laws_szFlyStepS.f l0_2 a1).bind fun t113=>(if t113<0 then(some (-1))else(some t113))
set_option maxHeartbeats 8000000 in
set_option maxRecDepth 100000 in
theorem laws_szFlyPath.calls (a0_0:Int) (a0_1:Int) (A0_2:Option Addr) (c0_2:Nat) (l0_2:List (S170)) (a0_3:Int) (a0_4:Int) (a1:Int) (r:Int) (w:World) (hr0_2:Kd.C k170 w A0_2 l0_2.length l0_2) (hc0_2:l0_2.length≤c0_2) (h:laws_szFlyPath.f a0_0 a0_1 l0_2 a0_3 a0_4 a1=some r):
 Calls Try.prog 62 #[.agg #[.int .i64 a0_0,.int .i64 a0_1,.slice A0_2 l0_2.length c0_2,.int .i64 a0_3,.int .i64 a0_4],.int .i64 a1] w fun e w'=>e= .returned (.int .i64 r)∧Below w.heap.size w w':=by
 have hu91:=Try.underlying91;have HR0_2:=zA hr0_2;have HC0_2:=zA hc0_2;clear hr0_2 hc0_2;have HB:=zA (Below.refl w.heap.size w);have H:=h;clear h;unfold laws_szFlyPath.f at H;replace H:=zbd H;obtain⟨t113,A3,H⟩:=H
 by_cases c4:t113<0
 ·rw[if_pos c4]at H
  have c4b0:decide (t113<0)=true:=decide_eq_true c4;clear c4;obtain rfl:=Option.some.inj H
  go_enter Try.func62,Try.ntmps62
  go_wp2_with (first|((with_reducible refine gate_dst (N:=2) rfl ?_);refine zbx 2 #[.int .i64 a0_0,.int .i64 a0_1,.slice A0_2 l0_2.length c0_2,.int .i64 a0_3,.int .i64 a0_4] 91 ?_;intro gb112 hg w5 hbox hb;have BK112:=zA hbox;have GW112:=zgs hg (zs0 HB);have GE112:=zgs hg (zs0 HB);replace HB:=zE (zs0 HB) hb;clear hb hbox hg;obtain⟨hcz6_0,hcz6_1,hcz6_2,hcz6_3,hcz6_4⟩:=zd5 BK112;obtain⟨hfz6_0,hfz6_1,hfz6_2,hfz6_3,hfz6_4⟩:=zn5 BK112)|((with_reducible refine gate_callee (f:=118) rfl ?_);refine zgl (N:=some 8) Try.func118 #[.slice A0_2 l0_2.length c0_2,.int .i64 a1] ?_;(with_reducible refine(laws_szFlyStepS.calls _ _ l0_2 a1 t113 _ ?side1 ?side2 A3.out).mono ?_);(case side1=>exact zC HR0_2 HB);(case side2=>exact HC0_2.out);rintro e w' ⟨rfl,⟨nd,rfl⟩⟩;refine⟨_,rfl,?_⟩))
  go_ret;exact⟨ze,zs1 HB GE112⟩
 rw[if_neg c4]at H;have c4b0:decide (t113<0)=false:=decide_eq_false c4;clear c4;obtain rfl:=Option.some.inj H
 go_enter Try.func62,Try.ntmps62
 go_wp2_with (first|((with_reducible refine gate_dst (N:=2) rfl ?_);refine zbx 2 #[.int .i64 a0_0,.int .i64 a0_1,.slice A0_2 l0_2.length c0_2,.int .i64 a0_3,.int .i64 a0_4] 91 ?_;intro gb112 hg w7 hbox hb;have BK112:=zA hbox;have GW112:=zgs hg (zs0 HB);have GE112:=zgs hg (zs0 HB);replace HB:=zE (zs0 HB) hb;clear hb hbox hg;obtain⟨hcz8_0,hcz8_1,hcz8_2,hcz8_3,hcz8_4⟩:=zd5 BK112;obtain⟨hfz8_0,hfz8_1,hfz8_2,hfz8_3,hfz8_4⟩:=zn5 BK112)|((with_reducible refine gate_callee (f:=118) rfl ?_);refine zgl (N:=some 8) Try.func118 #[.slice A0_2 l0_2.length c0_2,.int .i64 a1] ?_;(with_reducible refine(laws_szFlyStepS.calls _ _ l0_2 a1 t113 _ ?side1 ?side2 A3.out).mono ?_);(case side1=>exact zC HR0_2 HB);(case side2=>exact HC0_2.out);rintro e w' ⟨rfl,⟨nd,rfl⟩⟩;refine⟨_,rfl,?_⟩))
 go_ret;exact⟨ze,zs1 HB GE112⟩
def spec_l21In.f (a0:Int) (a1:Int) (a2:Int):Option (Bool):=if a0≥a1 then(some (decide (a0≤a2)))else(some false)
set_option maxHeartbeats 8000000 in
set_option maxRecDepth 100000 in
theorem spec_l21In.calls (a0:Int) (a1:Int) (a2:Int) (r:Bool) (w:World) (h:spec_l21In.f a0 a1 a2=some r):
 Calls Try.prog 127 #[.int .i64 a0,.int .i64 a1,.int .i64 a2] w fun e w'=>e= .returned (.bool r)∧Drawn0 w w':=by
 have H:=h;clear h;unfold spec_l21In.f at H
 by_cases c4:a0≥a1
 ·rw[if_pos c4]at H
  have c4b0:decide (a1≤a0)=true:=decide_eq_true c4;clear c4;obtain rfl:=Option.some.inj H
  go_enter Try.func127,Try.ntmps127
  go_wp2
  go_ret;exact⟨by first|rfl|(simp;done)|(simp[*];done),by repeat(first|exact Drawn0.refl _|apply Drawn0.step)⟩
 rw[if_neg c4]at H;have c4b0:decide (a1≤a0)=false:=decide_eq_false c4;clear c4;obtain rfl:=Option.some.inj H
 go_enter Try.func127,Try.ntmps127
 go_wp2
 go_ret;exact⟨by first|rfl|(simp;done)|(simp[*];done),by repeat(first|exact Drawn0.refl _|apply Drawn0.step)⟩
def spec_FlyKindOk.f (a0_0:Int) (a0_1:Int):Option (Bool):=(spec_l21In.f a0_0 1 a0_1).bind fun t115=>(if t115=true then(some (decide (a0_1≤50)))else(some false))
set_option maxHeartbeats 8000000 in
set_option maxRecDepth 100000 in
theorem spec_FlyKindOk.calls (a0_0:Int) (a0_1:Int) (r:Bool) (w:World) (h:spec_FlyKindOk.f a0_0 a0_1=some r):
 Calls Try.prog 137 #[.agg #[.int .i64 a0_0,.int .i64 a0_1]] w fun e w'=>e= .returned (.bool r)∧Below w.heap.size w w':=by
 have hu44:=Try.underlying44;have HB:=zA (Below.refl w.heap.size w);have H:=h;clear h;unfold spec_FlyKindOk.f at H;replace H:=zbd H;obtain⟨t115,A2,H⟩:=H
 by_cases c3:t115=true
 ·subst c3
  rw[if_pos rfl]at H;obtain rfl:=Option.some.inj H
  go_enter Try.func137,Try.ntmps137
  go_wp2_with (first|((with_reducible refine gate_dst (N:=1) rfl ?_);refine zbx 1 #[.int .i64 a0_0,.int .i64 a0_1] 44 ?_;intro gb114 hg w4 hbox hb;have BK114:=zA hbox;have GW114:=zgs hg (zs0 HB);have GE114:=zgs hg (zs0 HB);replace HB:=zE (zs0 HB) hb;clear hb hbox hg;obtain⟨hcz5_0,hcz5_1⟩:=zd2 BK114;obtain⟨hfz5_0,hfz5_1⟩:=zn2 BK114)|((with_reducible refine gate_callee (f:=127) rfl ?_);refine zgl (N:=some 7) Try.func127 #[.int .i64 a0_0,.int .i64 1,.int .i64 a0_1] ?_;(with_reducible refine(spec_l21In.calls a0_0 1 a0_1 true _ A2.out).mono ?_);rintro e w' ⟨rfl,⟨nd,rfl⟩⟩;refine⟨_,rfl,?_⟩))
  go_ret;exact⟨ze,zs1 HB GE114⟩
 replace c3:=Bool.eq_false_iff.mpr c3;subst c3;rw[if_neg zfn]at H;obtain rfl:=Option.some.inj H
 go_enter Try.func137,Try.ntmps137
 go_wp2_with (first|((with_reducible refine gate_dst (N:=1) rfl ?_);refine zbx 1 #[.int .i64 a0_0,.int .i64 a0_1] 44 ?_;intro gb114 hg w6 hbox hb;have BK114:=zA hbox;have GW114:=zgs hg (zs0 HB);have GE114:=zgs hg (zs0 HB);replace HB:=zE (zs0 HB) hb;clear hb hbox hg;obtain⟨hcz7_0,hcz7_1⟩:=zd2 BK114;obtain⟨hfz7_0,hfz7_1⟩:=zn2 BK114)|((with_reducible refine gate_callee (f:=127) rfl ?_);refine zgl (N:=some 7) Try.func127 #[.int .i64 a0_0,.int .i64 1,.int .i64 a0_1] ?_;(with_reducible refine(spec_l21In.calls a0_0 1 a0_1 false _ A2.out).mono ?_);rintro e w' ⟨rfl,⟨nd,rfl⟩⟩;refine⟨_,rfl,?_⟩))
 go_ret;exact⟨ze,zs1 HB GE114⟩
def spec_l22StepOk.f (a0_0:Int) (a0_1:Int) (a0_2:Int) (a0_3:Int) (a0_4:Int) (a0_5:Int) (a0_6:Bool):Option (Bool):=(spec_l21In.f a0_0 0 15).bind fun t117=>(if t117=true then((spec_l21In.f a0_1 0 15).bind fun t118=>(if t118=true then((spec_l21In.f a0_2 0 a0_3).bind fun t119=>(if t119=true then(if a0_3≤6 then((spec_l21In.f a0_4 0 a0_5).bind fun t120=>(if t120=true then(some (decide (a0_5≤10000)))else(some false)))else(some false))else(some false)))else(some false)))else(some false))
set_option maxHeartbeats 8000000 in
set_option maxRecDepth 100000 in
theorem spec_l22StepOk.calls (a0_0:Int) (a0_1:Int) (a0_2:Int) (a0_3:Int) (a0_4:Int) (a0_5:Int) (a0_6:Bool) (r:Bool) (w:World) (h:spec_l22StepOk.f a0_0 a0_1 a0_2 a0_3 a0_4 a0_5 a0_6=some r):
 Calls Try.prog 138 #[.agg #[.int .i64 a0_0,.int .i64 a0_1,.int .i64 a0_2,.int .i64 a0_3,.int .i64 a0_4,.int .i64 a0_5,.bool a0_6]] w fun e w'=>e= .returned (.bool r)∧Below w.heap.size w w':=by
 have hu132:=Try.underlying132;have HB:=zA (Below.refl w.heap.size w);have H:=h;clear h;unfold spec_l22StepOk.f at H;replace H:=zbd H;obtain⟨t117,A2,H⟩:=H
 by_cases c3:t117=true
 rotate_left
 ·replace c3:=Bool.eq_false_iff.mpr c3
  subst c3;rw[if_neg zfn]at H;obtain rfl:=Option.some.inj H
  go_enter Try.func138,Try.ntmps138
  go_wp2_with (first|((with_reducible refine gate_dst (N:=1) rfl ?_);refine zbx 1 #[.int .i64 a0_0,.int .i64 a0_1,.int .i64 a0_2,.int .i64 a0_3,.int .i64 a0_4,.int .i64 a0_5,.bool a0_6] 132 ?_;intro gb116 hg w21 hbox hb;have BK116:=zA hbox;have GW116:=zgs hg (zs0 HB);have GE116:=zgs hg (zs0 HB);replace HB:=zE (zs0 HB) hb;clear hb hbox hg;obtain⟨hcz22_0,hcz22_1,hcz22_2,hcz22_3,hcz22_4,hcz22_5,hcz22_6⟩:=zd7 BK116;obtain⟨hfz22_0,hfz22_1,hfz22_2,hfz22_3,hfz22_4,hfz22_5,hfz22_6⟩:=zn7 BK116)|((with_reducible refine gate_callee (f:=127) rfl ?_);refine zgl (N:=some 5) Try.func127 #[.int .i64 a0_0,.int .i64 0,.int .i64 15] ?_;(with_reducible refine(spec_l21In.calls a0_0 0 15 false _ A2.out).mono ?_);rintro e w' ⟨rfl,⟨nd,rfl⟩⟩;refine⟨_,rfl,?_⟩))
  go_ret;exact⟨ze,zs1 HB GE116⟩
 subst c3;rw[if_pos rfl]at H;replace H:=zbd H;obtain⟨t118,A4,H⟩:=H
 by_cases c5:t118=true
 rotate_left
 ·replace c5:=Bool.eq_false_iff.mpr c5
  subst c5;rw[if_neg zfn]at H;obtain rfl:=Option.some.inj H
  go_enter Try.func138,Try.ntmps138
  go_wp2_with (first|((with_reducible refine gate_dst (N:=1) rfl ?_);refine zbx 1 #[.int .i64 a0_0,.int .i64 a0_1,.int .i64 a0_2,.int .i64 a0_3,.int .i64 a0_4,.int .i64 a0_5,.bool a0_6] 132 ?_;intro gb116 hg w19 hbox hb;have BK116:=zA hbox;have GW116:=zgs hg (zs0 HB);have GE116:=zgs hg (zs0 HB);replace HB:=zE (zs0 HB) hb;clear hb hbox hg;obtain⟨hcz20_0,hcz20_1,hcz20_2,hcz20_3,hcz20_4,hcz20_5,hcz20_6⟩:=zd7 BK116;obtain⟨hfz20_0,hfz20_1,hfz20_2,hfz20_3,hfz20_4,hfz20_5,hfz20_6⟩:=zn7 BK116)|((with_reducible refine gate_callee (f:=127) rfl ?_);refine zgl (N:=some 5) Try.func127 #[.int .i64 a0_0,.int .i64 0,.int .i64 15] ?_;(with_reducible refine(spec_l21In.calls a0_0 0 15 true _ A2.out).mono ?_);rintro e w' ⟨rfl,⟨nd,rfl⟩⟩;refine⟨_,rfl,?_⟩)|(go_at_call 127;(with_reducible refine(spec_l21In.calls a0_1 0 15 false _ A4.out).mono ?_);rintro e w' ⟨rfl,⟨nd,rfl⟩⟩))
  go_ret;exact⟨ze,zs1 HB GE116⟩
 subst c5;rw[if_pos rfl]at H;replace H:=zbd H;obtain⟨t119,A6,H⟩:=H
 by_cases c7:t119=true
 rotate_left
 ·replace c7:=Bool.eq_false_iff.mpr c7
  subst c7;rw[if_neg zfn]at H;obtain rfl:=Option.some.inj H
  go_enter Try.func138,Try.ntmps138
  go_wp2_with (first|((with_reducible refine gate_dst (N:=1) rfl ?_);refine zbx 1 #[.int .i64 a0_0,.int .i64 a0_1,.int .i64 a0_2,.int .i64 a0_3,.int .i64 a0_4,.int .i64 a0_5,.bool a0_6] 132 ?_;intro gb116 hg w17 hbox hb;have BK116:=zA hbox;have GW116:=zgs hg (zs0 HB);have GE116:=zgs hg (zs0 HB);replace HB:=zE (zs0 HB) hb;clear hb hbox hg;obtain⟨hcz18_0,hcz18_1,hcz18_2,hcz18_3,hcz18_4,hcz18_5,hcz18_6⟩:=zd7 BK116;obtain⟨hfz18_0,hfz18_1,hfz18_2,hfz18_3,hfz18_4,hfz18_5,hfz18_6⟩:=zn7 BK116)|((with_reducible refine gate_callee (f:=127) rfl ?_);refine zgl (N:=some 5) Try.func127 #[.int .i64 a0_0,.int .i64 0,.int .i64 15] ?_;(with_reducible refine(spec_l21In.calls a0_0 0 15 true _ A2.out).mono ?_);rintro e w' ⟨rfl,⟨nd,rfl⟩⟩;refine⟨_,rfl,?_⟩)|(go_at_call 127;(with_reducible refine(spec_l21In.calls a0_1 0 15 true _ A4.out).mono ?_);rintro e w' ⟨rfl,⟨nd,rfl⟩⟩)|(go_at_call 127;(with_reducible refine(spec_l21In.calls a0_2 0 a0_3 false _ A6.out).mono ?_);rintro e w' ⟨rfl,⟨nd,rfl⟩⟩))
  go_ret;exact⟨ze,zs1 HB GE116⟩
 subst c7;rw[if_pos rfl]at H
 by_cases c8:a0_3≤6
 rotate_left
 ·rw[if_neg c8]at H
  have c8b0:decide (a0_3≤6)=false:=decide_eq_false c8;clear c8;obtain rfl:=Option.some.inj H
  go_enter Try.func138,Try.ntmps138
  go_wp2_with (first|((with_reducible refine gate_dst (N:=1) rfl ?_);refine zbx 1 #[.int .i64 a0_0,.int .i64 a0_1,.int .i64 a0_2,.int .i64 a0_3,.int .i64 a0_4,.int .i64 a0_5,.bool a0_6] 132 ?_;intro gb116 hg w15 hbox hb;have BK116:=zA hbox;have GW116:=zgs hg (zs0 HB);have GE116:=zgs hg (zs0 HB);replace HB:=zE (zs0 HB) hb;clear hb hbox hg;obtain⟨hcz16_0,hcz16_1,hcz16_2,hcz16_3,hcz16_4,hcz16_5,hcz16_6⟩:=zd7 BK116;obtain⟨hfz16_0,hfz16_1,hfz16_2,hfz16_3,hfz16_4,hfz16_5,hfz16_6⟩:=zn7 BK116)|((with_reducible refine gate_callee (f:=127) rfl ?_);refine zgl (N:=some 5) Try.func127 #[.int .i64 a0_0,.int .i64 0,.int .i64 15] ?_;(with_reducible refine(spec_l21In.calls a0_0 0 15 true _ A2.out).mono ?_);rintro e w' ⟨rfl,⟨nd,rfl⟩⟩;refine⟨_,rfl,?_⟩)|(go_at_call 127;(with_reducible refine(spec_l21In.calls a0_1 0 15 true _ A4.out).mono ?_);rintro e w' ⟨rfl,⟨nd,rfl⟩⟩)|(go_at_call 127;(with_reducible refine(spec_l21In.calls a0_2 0 a0_3 true _ A6.out).mono ?_);rintro e w' ⟨rfl,⟨nd,rfl⟩⟩))
  go_ret;exact⟨ze,zs1 HB GE116⟩
 rw[if_pos c8]at H;have c8b0:decide (a0_3≤6)=true:=decide_eq_true c8;clear c8;replace H:=zbd H;obtain⟨t120,A9,H⟩:=H
 by_cases c10:t120=true
 ·subst c10
  rw[if_pos rfl]at H;obtain rfl:=Option.some.inj H
  go_enter Try.func138,Try.ntmps138
  go_wp2_with (first|((with_reducible refine gate_dst (N:=1) rfl ?_);refine zbx 1 #[.int .i64 a0_0,.int .i64 a0_1,.int .i64 a0_2,.int .i64 a0_3,.int .i64 a0_4,.int .i64 a0_5,.bool a0_6] 132 ?_;intro gb116 hg w11 hbox hb;have BK116:=zA hbox;have GW116:=zgs hg (zs0 HB);have GE116:=zgs hg (zs0 HB);replace HB:=zE (zs0 HB) hb;clear hb hbox hg;obtain⟨hcz12_0,hcz12_1,hcz12_2,hcz12_3,hcz12_4,hcz12_5,hcz12_6⟩:=zd7 BK116;obtain⟨hfz12_0,hfz12_1,hfz12_2,hfz12_3,hfz12_4,hfz12_5,hfz12_6⟩:=zn7 BK116)|((with_reducible refine gate_callee (f:=127) rfl ?_);refine zgl (N:=some 5) Try.func127 #[.int .i64 a0_0,.int .i64 0,.int .i64 15] ?_;(with_reducible refine(spec_l21In.calls a0_0 0 15 true _ A2.out).mono ?_);rintro e w' ⟨rfl,⟨nd,rfl⟩⟩;refine⟨_,rfl,?_⟩)|(go_at_call 127;(with_reducible refine(spec_l21In.calls a0_1 0 15 true _ A4.out).mono ?_);rintro e w' ⟨rfl,⟨nd,rfl⟩⟩)|(go_at_call 127;(with_reducible refine(spec_l21In.calls a0_2 0 a0_3 true _ A6.out).mono ?_);rintro e w' ⟨rfl,⟨nd,rfl⟩⟩)|(go_at_call 127;(with_reducible refine(spec_l21In.calls a0_4 0 a0_5 true _ A9.out).mono ?_);rintro e w' ⟨rfl,⟨nd,rfl⟩⟩))
  go_ret;exact⟨ze,zs1 HB GE116⟩
 replace c10:=Bool.eq_false_iff.mpr c10;subst c10;rw[if_neg zfn]at H;obtain rfl:=Option.some.inj H
 go_enter Try.func138,Try.ntmps138
 go_wp2_with (first|((with_reducible refine gate_dst (N:=1) rfl ?_);refine zbx 1 #[.int .i64 a0_0,.int .i64 a0_1,.int .i64 a0_2,.int .i64 a0_3,.int .i64 a0_4,.int .i64 a0_5,.bool a0_6] 132 ?_;intro gb116 hg w13 hbox hb;have BK116:=zA hbox;have GW116:=zgs hg (zs0 HB);have GE116:=zgs hg (zs0 HB);replace HB:=zE (zs0 HB) hb;clear hb hbox hg;obtain⟨hcz14_0,hcz14_1,hcz14_2,hcz14_3,hcz14_4,hcz14_5,hcz14_6⟩:=zd7 BK116;obtain⟨hfz14_0,hfz14_1,hfz14_2,hfz14_3,hfz14_4,hfz14_5,hfz14_6⟩:=zn7 BK116)|((with_reducible refine gate_callee (f:=127) rfl ?_);refine zgl (N:=some 5) Try.func127 #[.int .i64 a0_0,.int .i64 0,.int .i64 15] ?_;(with_reducible refine(spec_l21In.calls a0_0 0 15 true _ A2.out).mono ?_);rintro e w' ⟨rfl,⟨nd,rfl⟩⟩;refine⟨_,rfl,?_⟩)|(go_at_call 127;(with_reducible refine(spec_l21In.calls a0_1 0 15 true _ A4.out).mono ?_);rintro e w' ⟨rfl,⟨nd,rfl⟩⟩)|(go_at_call 127;(with_reducible refine(spec_l21In.calls a0_2 0 a0_3 true _ A6.out).mono ?_);rintro e w' ⟨rfl,⟨nd,rfl⟩⟩)|(go_at_call 127;(with_reducible refine(spec_l21In.calls a0_4 0 a0_5 false _ A9.out).mono ?_);rintro e w' ⟨rfl,⟨nd,rfl⟩⟩))
 go_ret;exact⟨ze,zs1 HB GE116⟩
def spec_l22Next.f (a0_0:Int) (a0_1:Int) (a0_2:Int) (a0_3:Int) (a0_4:Int) (a0_5:Int) (a0_6:Bool) (a1_0:Int) (a1_1:Int) (a1_2:Int) (a1_3:Int) (a1_4:Int) (a1_5:Int) (a1_6:Bool):Option (Bool):=(spec_l21In.f (wrap64 (a0_0-a1_0)) (-1) 1).bind fun t123=>(if t123=true then((spec_l21In.f (wrap64 (a0_1-a1_1)) (-1) 1).bind fun t124=>(if t124=true then(if a0_0=a1_0 then(if a0_1=a1_1 then(some false)else(if a0_2≤a1_3 then(some (decide (a1_2≤a0_3)))else(some false)))else(if a0_2≤a1_3 then(some (decide (a1_2≤a0_3)))else(some false)))else(some false)))else(some false))
set_option maxHeartbeats 8000000 in
set_option maxRecDepth 100000 in
theorem spec_l22Next.calls (a0_0:Int) (a0_1:Int) (a0_2:Int) (a0_3:Int) (a0_4:Int) (a0_5:Int) (a0_6:Bool) (a1_0:Int) (a1_1:Int) (a1_2:Int) (a1_3:Int) (a1_4:Int) (a1_5:Int) (a1_6:Bool) (r:Bool) (w:World) (h:spec_l22Next.f a0_0 a0_1 a0_2 a0_3 a0_4 a0_5 a0_6 a1_0 a1_1 a1_2 a1_3 a1_4 a1_5 a1_6=some r):
 Calls Try.prog 139 #[.agg #[.int .i64 a0_0,.int .i64 a0_1,.int .i64 a0_2,.int .i64 a0_3,.int .i64 a0_4,.int .i64 a0_5,.bool a0_6],.agg #[.int .i64 a1_0,.int .i64 a1_1,.int .i64 a1_2,.int .i64 a1_3,.int .i64 a1_4,.int .i64 a1_5,.bool a1_6]] w fun e w'=>e= .returned (.bool r)∧Below w.heap.size w w':=by
 have hu132:=Try.underlying132;have HB:=zA (Below.refl w.heap.size w);have H:=h;clear h;unfold spec_l22Next.f at H;replace H:=zbd H;obtain⟨t123,A3,H⟩:=H
 by_cases c4:t123=true
 rotate_left
 ·replace c4:=Bool.eq_false_iff.mpr c4
  subst c4;rw[if_neg zfn]at H;obtain rfl:=Option.some.inj H
  go_enter Try.func139,Try.ntmps139
  go_wp2_with (first|((with_reducible refine gate_dst (N:=2) rfl ?_);refine zbx 2 #[.int .i64 a0_0,.int .i64 a0_1,.int .i64 a0_2,.int .i64 a0_3,.int .i64 a0_4,.int .i64 a0_5,.bool a0_6] 132 ?_;intro gb121 hg w41 hbox hb;have BK121:=zA hbox;have GW121:=zgs hg (zs0 HB);have GE121:=zgs hg (zs0 HB);replace HB:=zE (zs0 HB) hb;clear hb hbox hg)|((with_reducible refine gate_dst (N:=3) rfl ?_);refine zbx 3 #[.int .i64 a1_0,.int .i64 a1_1,.int .i64 a1_2,.int .i64 a1_3,.int .i64 a1_4,.int .i64 a1_5,.bool a1_6] 132 ?_;intro gb122 hg w42 hbox hb;have BK122:=zA hbox;have GW122:=zgs hg (zs1 HB GE121);have GE122:=zgs hg (zs1 HB GE121);have NB121_122:=zne hg BK121;have NB122_121:=znf hg BK121;replace BK121:=zb BK121 hb;replace HB:=zE (zs1 HB GE121) hb;clear hb hbox hg;have hnb43:=NB121_122.out;have hnc43:=NB122_121.out;obtain⟨hcz44_0,hcz44_1,hcz44_2,hcz44_3,hcz44_4,hcz44_5,hcz44_6⟩:=zd7 BK121;obtain⟨hfz44_0,hfz44_1,hfz44_2,hfz44_3,hfz44_4,hfz44_5,hfz44_6⟩:=zn7 BK121;obtain⟨hcz45_0,hcz45_1,hcz45_2,hcz45_3,hcz45_4,hcz45_5,hcz45_6⟩:=zd7 BK122;obtain⟨hfz45_0,hfz45_1,hfz45_2,hfz45_3,hfz45_4,hfz45_5,hfz45_6⟩:=zn7 BK122)|((with_reducible refine gate_callee (f:=127) rfl ?_);refine zgl (N:=some 10) Try.func127 #[.int .i64 (wrap64 (a0_0-a1_0)),.int .i64 (-1),.int .i64 1] ?_;(with_reducible refine(spec_l21In.calls (wrap64 (a0_0-a1_0)) (-1) 1 false _ A3.out).mono ?_);rintro e w' ⟨rfl,⟨nd,rfl⟩⟩;refine⟨_,rfl,?_⟩))
  go_ret;exact⟨ze,zs2 HB GE121 GE122⟩
 subst c4;rw[if_pos rfl]at H;replace H:=zbd H;obtain⟨t124,A5,H⟩:=H
 by_cases c6:t124=true
 rotate_left
 ·replace c6:=Bool.eq_false_iff.mpr c6
  subst c6;rw[if_neg zfn]at H;obtain rfl:=Option.some.inj H
  go_enter Try.func139,Try.ntmps139
  go_wp2_with (first|((with_reducible refine gate_dst (N:=2) rfl ?_);refine zbx 2 #[.int .i64 a0_0,.int .i64 a0_1,.int .i64 a0_2,.int .i64 a0_3,.int .i64 a0_4,.int .i64 a0_5,.bool a0_6] 132 ?_;intro gb121 hg w36 hbox hb;have BK121:=zA hbox;have GW121:=zgs hg (zs0 HB);have GE121:=zgs hg (zs0 HB);replace HB:=zE (zs0 HB) hb;clear hb hbox hg)|((with_reducible refine gate_dst (N:=3) rfl ?_);refine zbx 3 #[.int .i64 a1_0,.int .i64 a1_1,.int .i64 a1_2,.int .i64 a1_3,.int .i64 a1_4,.int .i64 a1_5,.bool a1_6] 132 ?_;intro gb122 hg w37 hbox hb;have BK122:=zA hbox;have GW122:=zgs hg (zs1 HB GE121);have GE122:=zgs hg (zs1 HB GE121);have NB121_122:=zne hg BK121;have NB122_121:=znf hg BK121;replace BK121:=zb BK121 hb;replace HB:=zE (zs1 HB GE121) hb;clear hb hbox hg;have hnb38:=NB121_122.out;have hnc38:=NB122_121.out;obtain⟨hcz39_0,hcz39_1,hcz39_2,hcz39_3,hcz39_4,hcz39_5,hcz39_6⟩:=zd7 BK121;obtain⟨hfz39_0,hfz39_1,hfz39_2,hfz39_3,hfz39_4,hfz39_5,hfz39_6⟩:=zn7 BK121;obtain⟨hcz40_0,hcz40_1,hcz40_2,hcz40_3,hcz40_4,hcz40_5,hcz40_6⟩:=zd7 BK122;obtain⟨hfz40_0,hfz40_1,hfz40_2,hfz40_3,hfz40_4,hfz40_5,hfz40_6⟩:=zn7 BK122)|((with_reducible refine gate_callee (f:=127) rfl ?_);refine zgl (N:=some 10) Try.func127 #[.int .i64 (wrap64 (a0_0-a1_0)),.int .i64 (-1),.int .i64 1] ?_;(with_reducible refine(spec_l21In.calls (wrap64 (a0_0-a1_0)) (-1) 1 true _ A3.out).mono ?_);rintro e w' ⟨rfl,⟨nd,rfl⟩⟩;refine⟨_,rfl,?_⟩)|(go_at_call 127;(with_reducible refine(spec_l21In.calls (wrap64 (a0_1-a1_1)) (-1) 1 false _ A5.out).mono ?_);rintro e w' ⟨rfl,⟨nd,rfl⟩⟩))
  go_ret;exact⟨ze,zs2 HB GE121 GE122⟩
 subst c6;rw[if_pos rfl]at H
 by_cases c7:a0_0=a1_0
 rotate_left
 ·rw[if_neg c7]at H
  have c7b0:(a0_0==a1_0)=false:=beq_eq_false_iff_ne.mpr c7;have c7b1:(a0_0 !=a1_0)=true:=bne_iff_ne.mpr c7
  by_cases c25:a0_2≤a1_3
  ·rw[if_pos c25]at H
   have c25b0:decide (a0_2≤a1_3)=true:=decide_eq_true c25;clear c25;obtain rfl:=Option.some.inj H
   go_enter Try.func139,Try.ntmps139
   go_wp2_with (first|((with_reducible refine gate_dst (N:=2) rfl ?_);refine zbx 2 #[.int .i64 a0_0,.int .i64 a0_1,.int .i64 a0_2,.int .i64 a0_3,.int .i64 a0_4,.int .i64 a0_5,.bool a0_6] 132 ?_;intro gb121 hg w26 hbox hb;have BK121:=zA hbox;have GW121:=zgs hg (zs0 HB);have GE121:=zgs hg (zs0 HB);replace HB:=zE (zs0 HB) hb;clear hb hbox hg)|((with_reducible refine gate_dst (N:=3) rfl ?_);refine zbx 3 #[.int .i64 a1_0,.int .i64 a1_1,.int .i64 a1_2,.int .i64 a1_3,.int .i64 a1_4,.int .i64 a1_5,.bool a1_6] 132 ?_;intro gb122 hg w27 hbox hb;have BK122:=zA hbox;have GW122:=zgs hg (zs1 HB GE121);have GE122:=zgs hg (zs1 HB GE121);have NB121_122:=zne hg BK121;have NB122_121:=znf hg BK121;replace BK121:=zb BK121 hb;replace HB:=zE (zs1 HB GE121) hb;clear hb hbox hg;have hnb28:=NB121_122.out;have hnc28:=NB122_121.out;obtain⟨hcz29_0,hcz29_1,hcz29_2,hcz29_3,hcz29_4,hcz29_5,hcz29_6⟩:=zd7 BK121;obtain⟨hfz29_0,hfz29_1,hfz29_2,hfz29_3,hfz29_4,hfz29_5,hfz29_6⟩:=zn7 BK121;obtain⟨hcz30_0,hcz30_1,hcz30_2,hcz30_3,hcz30_4,hcz30_5,hcz30_6⟩:=zd7 BK122;obtain⟨hfz30_0,hfz30_1,hfz30_2,hfz30_3,hfz30_4,hfz30_5,hfz30_6⟩:=zn7 BK122)|((with_reducible refine gate_callee (f:=127) rfl ?_);refine zgl (N:=some 10) Try.func127 #[.int .i64 (wrap64 (a0_0-a1_0)),.int .i64 (-1),.int .i64 1] ?_;(with_reducible refine(spec_l21In.calls (wrap64 (a0_0-a1_0)) (-1) 1 true _ A3.out).mono ?_);rintro e w' ⟨rfl,⟨nd,rfl⟩⟩;refine⟨_,rfl,?_⟩)|(go_at_call 127;(with_reducible refine(spec_l21In.calls (wrap64 (a0_1-a1_1)) (-1) 1 true _ A5.out).mono ?_);rintro e w' ⟨rfl,⟨nd,rfl⟩⟩))
   go_ret;exact⟨ze,zs2 HB GE121 GE122⟩
  rw[if_neg c25]at H;have c25b0:decide (a0_2≤a1_3)=false:=decide_eq_false c25;clear c25;obtain rfl:=Option.some.inj H
  go_enter Try.func139,Try.ntmps139
  go_wp2_with (first|((with_reducible refine gate_dst (N:=2) rfl ?_);refine zbx 2 #[.int .i64 a0_0,.int .i64 a0_1,.int .i64 a0_2,.int .i64 a0_3,.int .i64 a0_4,.int .i64 a0_5,.bool a0_6] 132 ?_;intro gb121 hg w31 hbox hb;have BK121:=zA hbox;have GW121:=zgs hg (zs0 HB);have GE121:=zgs hg (zs0 HB);replace HB:=zE (zs0 HB) hb;clear hb hbox hg)|((with_reducible refine gate_dst (N:=3) rfl ?_);refine zbx 3 #[.int .i64 a1_0,.int .i64 a1_1,.int .i64 a1_2,.int .i64 a1_3,.int .i64 a1_4,.int .i64 a1_5,.bool a1_6] 132 ?_;intro gb122 hg w32 hbox hb;have BK122:=zA hbox;have GW122:=zgs hg (zs1 HB GE121);have GE122:=zgs hg (zs1 HB GE121);have NB121_122:=zne hg BK121;have NB122_121:=znf hg BK121;replace BK121:=zb BK121 hb;replace HB:=zE (zs1 HB GE121) hb;clear hb hbox hg;have hnb33:=NB121_122.out;have hnc33:=NB122_121.out;obtain⟨hcz34_0,hcz34_1,hcz34_2,hcz34_3,hcz34_4,hcz34_5,hcz34_6⟩:=zd7 BK121;obtain⟨hfz34_0,hfz34_1,hfz34_2,hfz34_3,hfz34_4,hfz34_5,hfz34_6⟩:=zn7 BK121;obtain⟨hcz35_0,hcz35_1,hcz35_2,hcz35_3,hcz35_4,hcz35_5,hcz35_6⟩:=zd7 BK122;obtain⟨hfz35_0,hfz35_1,hfz35_2,hfz35_3,hfz35_4,hfz35_5,hfz35_6⟩:=zn7 BK122)|((with_reducible refine gate_callee (f:=127) rfl ?_);refine zgl (N:=some 10) Try.func127 #[.int .i64 (wrap64 (a0_0-a1_0)),.int .i64 (-1),.int .i64 1] ?_;(with_reducible refine(spec_l21In.calls (wrap64 (a0_0-a1_0)) (-1) 1 true _ A3.out).mono ?_);rintro e w' ⟨rfl,⟨nd,rfl⟩⟩;refine⟨_,rfl,?_⟩)|(go_at_call 127;(with_reducible refine(spec_l21In.calls (wrap64 (a0_1-a1_1)) (-1) 1 true _ A5.out).mono ?_);rintro e w' ⟨rfl,⟨nd,rfl⟩⟩))
  go_ret;exact⟨ze,zs2 HB GE121 GE122⟩
 rw[if_pos c7]at H;have c7b0:(a0_0==a1_0)=true:=beq_iff_eq.mpr c7;have c7b1:(a0_0 !=a1_0)=false:=bne_eq_false_iff_eq.mpr c7;clear c7
 by_cases c8:a0_1=a1_1
 ·rw[if_pos c8]at H
  have c8b0:(a0_1==a1_1)=true:=beq_iff_eq.mpr c8;have c8b1:(a0_1 !=a1_1)=false:=bne_eq_false_iff_eq.mpr c8;clear c8;obtain rfl:=Option.some.inj H
  go_enter Try.func139,Try.ntmps139
  go_wp2_with (first|((with_reducible refine gate_dst (N:=2) rfl ?_);refine zbx 2 #[.int .i64 a0_0,.int .i64 a0_1,.int .i64 a0_2,.int .i64 a0_3,.int .i64 a0_4,.int .i64 a0_5,.bool a0_6] 132 ?_;intro gb121 hg w9 hbox hb;have BK121:=zA hbox;have GW121:=zgs hg (zs0 HB);have GE121:=zgs hg (zs0 HB);replace HB:=zE (zs0 HB) hb;clear hb hbox hg)|((with_reducible refine gate_dst (N:=3) rfl ?_);refine zbx 3 #[.int .i64 a1_0,.int .i64 a1_1,.int .i64 a1_2,.int .i64 a1_3,.int .i64 a1_4,.int .i64 a1_5,.bool a1_6] 132 ?_;intro gb122 hg w10 hbox hb;have BK122:=zA hbox;have GW122:=zgs hg (zs1 HB GE121);have GE122:=zgs hg (zs1 HB GE121);have NB121_122:=zne hg BK121;have NB122_121:=znf hg BK121;replace BK121:=zb BK121 hb;replace HB:=zE (zs1 HB GE121) hb;clear hb hbox hg;have hnb11:=NB121_122.out;have hnc11:=NB122_121.out;obtain⟨hcz12_0,hcz12_1,hcz12_2,hcz12_3,hcz12_4,hcz12_5,hcz12_6⟩:=zd7 BK121;obtain⟨hfz12_0,hfz12_1,hfz12_2,hfz12_3,hfz12_4,hfz12_5,hfz12_6⟩:=zn7 BK121;obtain⟨hcz13_0,hcz13_1,hcz13_2,hcz13_3,hcz13_4,hcz13_5,hcz13_6⟩:=zd7 BK122;obtain⟨hfz13_0,hfz13_1,hfz13_2,hfz13_3,hfz13_4,hfz13_5,hfz13_6⟩:=zn7 BK122)|((with_reducible refine gate_callee (f:=127) rfl ?_);refine zgl (N:=some 10) Try.func127 #[.int .i64 (wrap64 (a0_0-a1_0)),.int .i64 (-1),.int .i64 1] ?_;(with_reducible refine(spec_l21In.calls (wrap64 (a0_0-a1_0)) (-1) 1 true _ A3.out).mono ?_);rintro e w' ⟨rfl,⟨nd,rfl⟩⟩;refine⟨_,rfl,?_⟩)|(go_at_call 127;(with_reducible refine(spec_l21In.calls (wrap64 (a0_1-a1_1)) (-1) 1 true _ A5.out).mono ?_);rintro e w' ⟨rfl,⟨nd,rfl⟩⟩))
  go_ret;exact⟨ze,zs2 HB GE121 GE122⟩
 rw[if_neg c8]at H;have c8b0:(a0_1==a1_1)=false:=beq_eq_false_iff_ne.mpr c8;have c8b1:(a0_1 !=a1_1)=true:=bne_iff_ne.mpr c8
 by_cases c14:a0_2≤a1_3
 ·rw[if_pos c14]at H
  have c14b0:decide (a0_2≤a1_3)=true:=decide_eq_true c14;clear c14;obtain rfl:=Option.some.inj H
  go_enter Try.func139,Try.ntmps139
  go_wp2_with (first|((with_reducible refine gate_dst (N:=2) rfl ?_);refine zbx 2 #[.int .i64 a0_0,.int .i64 a0_1,.int .i64 a0_2,.int .i64 a0_3,.int .i64 a0_4,.int .i64 a0_5,.bool a0_6] 132 ?_;intro gb121 hg w15 hbox hb;have BK121:=zA hbox;have GW121:=zgs hg (zs0 HB);have GE121:=zgs hg (zs0 HB);replace HB:=zE (zs0 HB) hb;clear hb hbox hg)|((with_reducible refine gate_dst (N:=3) rfl ?_);refine zbx 3 #[.int .i64 a1_0,.int .i64 a1_1,.int .i64 a1_2,.int .i64 a1_3,.int .i64 a1_4,.int .i64 a1_5,.bool a1_6] 132 ?_;intro gb122 hg w16 hbox hb;have BK122:=zA hbox;have GW122:=zgs hg (zs1 HB GE121);have GE122:=zgs hg (zs1 HB GE121);have NB121_122:=zne hg BK121;have NB122_121:=znf hg BK121;replace BK121:=zb BK121 hb;replace HB:=zE (zs1 HB GE121) hb;clear hb hbox hg;have hnb17:=NB121_122.out;have hnc17:=NB122_121.out;obtain⟨hcz18_0,hcz18_1,hcz18_2,hcz18_3,hcz18_4,hcz18_5,hcz18_6⟩:=zd7 BK121;obtain⟨hfz18_0,hfz18_1,hfz18_2,hfz18_3,hfz18_4,hfz18_5,hfz18_6⟩:=zn7 BK121;obtain⟨hcz19_0,hcz19_1,hcz19_2,hcz19_3,hcz19_4,hcz19_5,hcz19_6⟩:=zd7 BK122;obtain⟨hfz19_0,hfz19_1,hfz19_2,hfz19_3,hfz19_4,hfz19_5,hfz19_6⟩:=zn7 BK122)|((with_reducible refine gate_callee (f:=127) rfl ?_);refine zgl (N:=some 10) Try.func127 #[.int .i64 (wrap64 (a0_0-a1_0)),.int .i64 (-1),.int .i64 1] ?_;(with_reducible refine(spec_l21In.calls (wrap64 (a0_0-a1_0)) (-1) 1 true _ A3.out).mono ?_);rintro e w' ⟨rfl,⟨nd,rfl⟩⟩;refine⟨_,rfl,?_⟩)|(go_at_call 127;(with_reducible refine(spec_l21In.calls (wrap64 (a0_1-a1_1)) (-1) 1 true _ A5.out).mono ?_);rintro e w' ⟨rfl,⟨nd,rfl⟩⟩))
  go_ret;exact⟨ze,zs2 HB GE121 GE122⟩
 rw[if_neg c14]at H;have c14b0:decide (a0_2≤a1_3)=false:=decide_eq_false c14;clear c14;obtain rfl:=Option.some.inj H
 go_enter Try.func139,Try.ntmps139
 go_wp2_with (first|((with_reducible refine gate_dst (N:=2) rfl ?_);refine zbx 2 #[.int .i64 a0_0,.int .i64 a0_1,.int .i64 a0_2,.int .i64 a0_3,.int .i64 a0_4,.int .i64 a0_5,.bool a0_6] 132 ?_;intro gb121 hg w20 hbox hb;have BK121:=zA hbox;have GW121:=zgs hg (zs0 HB);have GE121:=zgs hg (zs0 HB);replace HB:=zE (zs0 HB) hb;clear hb hbox hg)|((with_reducible refine gate_dst (N:=3) rfl ?_);refine zbx 3 #[.int .i64 a1_0,.int .i64 a1_1,.int .i64 a1_2,.int .i64 a1_3,.int .i64 a1_4,.int .i64 a1_5,.bool a1_6] 132 ?_;intro gb122 hg w21 hbox hb;have BK122:=zA hbox;have GW122:=zgs hg (zs1 HB GE121);have GE122:=zgs hg (zs1 HB GE121);have NB121_122:=zne hg BK121;have NB122_121:=znf hg BK121;replace BK121:=zb BK121 hb;replace HB:=zE (zs1 HB GE121) hb;clear hb hbox hg;have hnb22:=NB121_122.out;have hnc22:=NB122_121.out;obtain⟨hcz23_0,hcz23_1,hcz23_2,hcz23_3,hcz23_4,hcz23_5,hcz23_6⟩:=zd7 BK121;obtain⟨hfz23_0,hfz23_1,hfz23_2,hfz23_3,hfz23_4,hfz23_5,hfz23_6⟩:=zn7 BK121;obtain⟨hcz24_0,hcz24_1,hcz24_2,hcz24_3,hcz24_4,hcz24_5,hcz24_6⟩:=zd7 BK122;obtain⟨hfz24_0,hfz24_1,hfz24_2,hfz24_3,hfz24_4,hfz24_5,hfz24_6⟩:=zn7 BK122)|((with_reducible refine gate_callee (f:=127) rfl ?_);refine zgl (N:=some 10) Try.func127 #[.int .i64 (wrap64 (a0_0-a1_0)),.int .i64 (-1),.int .i64 1] ?_;(with_reducible refine(spec_l21In.calls (wrap64 (a0_0-a1_0)) (-1) 1 true _ A3.out).mono ?_);rintro e w' ⟨rfl,⟨nd,rfl⟩⟩;refine⟨_,rfl,?_⟩)|(go_at_call 127;(with_reducible refine(spec_l21In.calls (wrap64 (a0_1-a1_1)) (-1) 1 true _ A5.out).mono ?_);rintro e w' ⟨rfl,⟨nd,rfl⟩⟩))
 go_ret;exact⟨ze,zs2 HB GE121 GE122⟩
end Go.Proofs.Ytbmplfpnhjhoiaa.QFnExactFlyMayTurn
