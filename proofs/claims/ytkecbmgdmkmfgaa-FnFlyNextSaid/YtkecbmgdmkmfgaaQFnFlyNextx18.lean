/- The walk of what the law FnFlyNext reaches: laid by a program of this session (ownprint.py). -/
import Derived.Test.YtkecbmgdmkmfgaaQFnFlyNextx0
namespace Go.Proofs.Ytkecbmgdmkmfgaa.QFnFlyNext
open Go.RowKit Go.Proofs.YtkecbmgdmkmfgaaW.PrintWords Go.Proofs.YtkecbmgdmkmfgaaW.PrintLast Go.Proofs.YtkecbmgdmkmfgaaW.PrintMore Go.Proofs.Ytkecbmgdmkmfgaa.Z
attribute [local go_sem] max2_int min2_int max_two min_two max_three min_three max_four min_four zdn   -- for this text's walks alone
set_option linter.unusedVariables false
set_option linter.unusedSimpArgs false
def impl_within.f (a0:Int) (a1:Int) (a2:Int):Option (Bool):=if a0≥a1 then(some (decide (a0≤a2)))else(some false)
set_option maxHeartbeats 8000000 in
set_option maxRecDepth 100000 in
theorem impl_within.calls (a0:Int) (a1:Int) (a2:Int) (r:Bool) (w:World) (h:impl_within.f a0 a1 a2=some r):
 Calls Try.prog 21 #[.int .i64 a0,.int .i64 a1,.int .i64 a2] w fun e w'=>e= .returned (.bool r)∧Drawn0 w w':=by
 have H:=h;clear h;unfold impl_within.f at H
 by_cases c4:a0≥a1
 ·rw[if_pos c4]at H
  have a3:decide (a1≤a0)=true:=decide_eq_true c4;clear c4;obtain rfl:=Option.some.inj H
  go_enter Try.func21,Try.ntmps21
  go_wp2
  go_ret;exact⟨by first|rfl|(simp;done)|(simp[*];done),by repeat(first|exact Drawn0.refl _|apply Drawn0.step)⟩
 rw[if_neg c4]at H;have a3:decide (a1≤a0)=false:=decide_eq_false c4;clear c4;obtain rfl:=Option.some.inj H
 go_enter Try.func21,Try.ntmps21
 go_wp2
 go_ret;exact⟨by first|rfl|(simp;done)|(simp[*];done),by repeat(first|exact Drawn0.refl _|apply Drawn0.step)⟩
def impl_FlyKindOk.f (a0:Int) (a1:Int):Option (Bool):=if 1≤a0 then(if a0≤a1 then(some (decide (a1≤50)))else(some false))else(some false)
set_option maxHeartbeats 8000000 in
set_option maxRecDepth 100000 in
theorem impl_FlyKindOk.calls (a1:Int) (a2:Int) (r:Bool) (w:World) (h:impl_FlyKindOk.f a1 a2=some r):
 Calls Try.prog 29 #[.agg #[.int .i64 a1,.int .i64 a2]] w fun e w'=>e= .returned (.bool r)∧Below w.heap.size w w':=by
 have c0:=Try.underlying24;have HB:=zA (Below.refl w.heap.size w);have H:=h;clear h;unfold impl_FlyKindOk.f at H
 by_cases c2:1≤a1
 rotate_left
 ·rw[if_neg c2]at H
  have a6:decide (1≤a1)=false:=decide_eq_false c2;clear c2;obtain rfl:=Option.some.inj H
  go_enter Try.func29,Try.ntmps29
  go_wp2_with (first|((with_reducible refine gate_dst (N:=1) rfl ?_);refine zbx 1 #[.int .i64 a1,.int .i64 a2] 24 ?_;intro a4 hg w8 hbox hb;have a0:=zA hbox;have a5:=zgs hg (zs0 HB);have a3:=zgs hg (zs0 HB);replace HB:=zE (zs0 HB) hb;clear hb hbox hg;obtain⟨a7,a8⟩:=zd2 a0;obtain⟨a9,b0⟩:=zn2 a0))
  go_ret;exact⟨ze,zs1 HB a3⟩
 rw[if_pos c2]at H;have a6:decide (1≤a1)=true:=decide_eq_true c2;clear c2
 by_cases c3:a1≤a2
 ·rw[if_pos c3]at H
  have b1:decide (a1≤a2)=true:=decide_eq_true c3;clear c3;obtain rfl:=Option.some.inj H
  go_enter Try.func29,Try.ntmps29
  go_wp2_with (first|((with_reducible refine gate_dst (N:=1) rfl ?_);refine zbx 1 #[.int .i64 a1,.int .i64 a2] 24 ?_;intro a4 hg w4 hbox hb;have a0:=zA hbox;have a5:=zgs hg (zs0 HB);have a3:=zgs hg (zs0 HB);replace HB:=zE (zs0 HB) hb;clear hb hbox hg;obtain⟨b2,b3⟩:=zd2 a0;obtain⟨b4,b5⟩:=zn2 a0))
  go_ret;exact⟨ze,zs1 HB a3⟩
 rw[if_neg c3]at H;have b1:decide (a1≤a2)=false:=decide_eq_false c3;clear c3;obtain rfl:=Option.some.inj H
 go_enter Try.func29,Try.ntmps29
 go_wp2_with (first|((with_reducible refine gate_dst (N:=1) rfl ?_);refine zbx 1 #[.int .i64 a1,.int .i64 a2] 24 ?_;intro a4 hg w6 hbox hb;have a0:=zA hbox;have a5:=zgs hg (zs0 HB);have a3:=zgs hg (zs0 HB);replace HB:=zE (zs0 HB) hb;clear hb hbox hg;obtain⟨b6,b7⟩:=zd2 a0;obtain⟨b8,b9⟩:=zn2 a0))
 go_ret;exact⟨ze,zs1 HB a3⟩
def impl_window.f (a0:Int) (a1:Int):Option (Bool):=if 0≤a0 then(if a0≤a1 then(some (decide (a1≤10000)))else(some false))else(some false)
set_option maxHeartbeats 8000000 in
set_option maxRecDepth 100000 in
theorem impl_window.calls (a0:Int) (a1:Int) (r:Bool) (w:World) (h:impl_window.f a0 a1=some r):
 Calls Try.prog 30 #[.int .i64 a0,.int .i64 a1] w fun e w'=>e= .returned (.bool r)∧Drawn0 w w':=by
 have H:=h;clear h;unfold impl_window.f at H
 by_cases c3:0≤a0
 rotate_left
 ·rw[if_neg c3]at H
  have a2:decide (0≤a0)=false:=decide_eq_false c3;clear c3;obtain rfl:=Option.some.inj H
  go_enter Try.func30,Try.ntmps30
  go_wp2
  go_ret;exact⟨by first|rfl|(simp;done)|(simp[*];done),by repeat(first|exact Drawn0.refl _|apply Drawn0.step)⟩
 rw[if_pos c3]at H;have a2:decide (0≤a0)=true:=decide_eq_true c3;clear c3
 by_cases c4:a0≤a1
 ·rw[if_pos c4]at H
  have a3:decide (a0≤a1)=true:=decide_eq_true c4;clear c4;obtain rfl:=Option.some.inj H
  go_enter Try.func30,Try.ntmps30
  go_wp2
  go_ret;exact⟨by first|rfl|(simp;done)|(simp[*];done),by repeat(first|exact Drawn0.refl _|apply Drawn0.step)⟩
 rw[if_neg c4]at H;have a3:decide (a0≤a1)=false:=decide_eq_false c4;clear c4;obtain rfl:=Option.some.inj H
 go_enter Try.func30,Try.ntmps30
 go_wp2
 go_ret;exact⟨by first|rfl|(simp;done)|(simp[*];done),by repeat(first|exact Drawn0.refl _|apply Drawn0.step)⟩
def impl_dist.f (a0:Int) (a1:Int):Option (Int):=if a0>a1 then(some (wrap64 (a0-a1)))else(some (wrap64 (a1-a0)))
set_option maxHeartbeats 8000000 in
set_option maxRecDepth 100000 in
theorem impl_dist.calls (a0:Int) (a1:Int) (r:Int) (w:World) (h:impl_dist.f a0 a1=some r):
 Calls Try.prog 31 #[.int .i64 a0,.int .i64 a1] w fun e w'=>e= .returned (.int .i64 r)∧Drawn0 w w':=by
 have H:=h;clear h;unfold impl_dist.f at H
 by_cases c3:a0>a1
 ·rw[if_pos c3]at H
  have a2:decide (a1<a0)=true:=decide_eq_true c3;clear c3;obtain rfl:=Option.some.inj H
  go_enter Try.func31,Try.ntmps31
  go_wp2
  go_ret;exact⟨by first|rfl|(simp;done)|(simp[*];done),by repeat(first|exact Drawn0.refl _|apply Drawn0.step)⟩
 rw[if_neg c3]at H;have a2:decide (a1<a0)=false:=decide_eq_false c3;clear c3;obtain rfl:=Option.some.inj H
 go_enter Try.func31,Try.ntmps31
 go_wp2
 go_ret;exact⟨by first|rfl|(simp;done)|(simp[*];done),by repeat(first|exact Drawn0.refl _|apply Drawn0.step)⟩
end Go.Proofs.Ytkecbmgdmkmfgaa.QFnFlyNext
