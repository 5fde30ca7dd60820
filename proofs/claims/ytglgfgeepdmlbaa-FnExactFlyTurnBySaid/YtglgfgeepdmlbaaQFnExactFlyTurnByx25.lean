/- The walk of what the law FnExactFlyTurnBy reaches: laid by a program of this session (ownprint.py). -/
import Derived.Test.YtglgfgeepdmlbaaQFnExactFlyTurnByx0
namespace Go.Proofs.Ytglgfgeepdmlbaa.QFnExactFlyTurnBy
open Go.RowKit Go.Proofs.YtglgfgeepdmlbaaW.PrintWords Go.Proofs.YtglgfgeepdmlbaaW.PrintLast Go.Proofs.YtglgfgeepdmlbaaW.PrintMore Go.Proofs.Ytglgfgeepdmlbaa.Z
attribute [local go_sem] max2_int min2_int max_two min_two max_three min_three max_four min_four zdn   -- for this text's walks alone
set_option linter.unusedVariables false
set_option linter.unusedSimpArgs false
def laws_eqFlyKind.f (a0:Int) (a1:Int) (a2:Int) (a3:Int):Option (Bool):=if a0=a2 then(if a1=a3 then(some true)else(some false))else(some false)
set_option maxHeartbeats 8000000 in
set_option maxRecDepth 100000 in
theorem laws_eqFlyKind.calls (a5:Int) (a6:Int) (a7:Int) (a8:Int) (r:Bool) (w:World) (h:laws_eqFlyKind.f a5 a6 a7 a8=some r):
 Calls Try.prog 20 #[.agg #[.int .i64 a5,.int .i64 a6],.agg #[.int .i64 a7,.int .i64 a8]] w fun e w'=>e= .returned (.bool r)∧Below w.heap.size w w':=by
 have f4:=Try.underlying29;have HB:=zA (Below.refl w.heap.size w);have H:=h;clear h;unfold laws_eqFlyKind.f at H
 by_cases c3:a5=a7
 rotate_left
 ·rw[if_neg c3]at H
  have d8:(a5==a7)=false:=beq_eq_false_iff_ne.mpr c3;have d9:(a5 !=a7)=true:=bne_iff_ne.mpr c3;obtain rfl:=Option.some.inj H
  go_enter Try.func20,Try.ntmps20
  go_wp2_with (first|((with_reducible refine gate_dst (N:=2) rfl ?_);refine zbx 2 #[.int .i64 a5,.int .i64 a6] 29 ?_;intro b0 hg f7 hbox hb;have a0:=zA hbox;have b1:=zgs hg (zs0 HB);have a1:=zgs hg (zs0 HB);replace HB:=zE (zs0 HB) hb;clear hb hbox hg)|((with_reducible refine gate_dst (N:=3) rfl ?_);refine zbx 3 #[.int .i64 a7,.int .i64 a8] 29 ?_;intro b2 hg f8 hbox hb;have a4:=zA hbox;have b3:=zgs hg (zs1 HB a1);have a9:=zgs hg (zs1 HB a1);have a2:=zne hg a0;have a3:=znf hg a0;replace a0:=zb a0 hb;replace HB:=zE (zs1 HB a1) hb;clear hb hbox hg;have f0:=a2.out;have f1:=a3.out;obtain⟨b4,b5⟩:=zd2 a0;obtain⟨b6,b7⟩:=zn2 a0;obtain⟨b8,b9⟩:=zd2 a4;obtain⟨c0,c1⟩:=zn2 a4))
  go_ret;exact⟨ze,zs2 HB a1 a9⟩
 rw[if_pos c3]at H;have d8:(a5==a7)=true:=beq_iff_eq.mpr c3;have d9:(a5 !=a7)=false:=bne_eq_false_iff_eq.mpr c3;clear c3
 by_cases c4:a6=a8
 ·rw[if_pos c4]at H
  have e0:(a6==a8)=true:=beq_iff_eq.mpr c4;have e1:(a6 !=a8)=false:=bne_eq_false_iff_eq.mpr c4;clear c4;obtain rfl:=Option.some.inj H
  go_enter Try.func20,Try.ntmps20
  go_wp2_with (first|((with_reducible refine gate_dst (N:=2) rfl ?_);refine zbx 2 #[.int .i64 a5,.int .i64 a6] 29 ?_;intro b0 hg w5 hbox hb;have a0:=zA hbox;have b1:=zgs hg (zs0 HB);have a1:=zgs hg (zs0 HB);replace HB:=zE (zs0 HB) hb;clear hb hbox hg)|((with_reducible refine gate_dst (N:=3) rfl ?_);refine zbx 3 #[.int .i64 a7,.int .i64 a8] 29 ?_;intro b2 hg w6 hbox hb;have a4:=zA hbox;have b3:=zgs hg (zs1 HB a1);have a9:=zgs hg (zs1 HB a1);have a2:=zne hg a0;have a3:=znf hg a0;replace a0:=zb a0 hb;replace HB:=zE (zs1 HB a1) hb;clear hb hbox hg;have f5:=a2.out;have f6:=a3.out;obtain⟨e2,e3⟩:=zd2 a0;obtain⟨e4,e5⟩:=zn2 a0;obtain⟨e6,e7⟩:=zd2 a4;obtain⟨e8,e9⟩:=zn2 a4))
  go_ret;exact⟨ze,zs2 HB a1 a9⟩
 rw[if_neg c4]at H;have e0:(a6==a8)=false:=beq_eq_false_iff_ne.mpr c4;have e1:(a6 !=a8)=true:=bne_iff_ne.mpr c4;obtain rfl:=Option.some.inj H
 go_enter Try.func20,Try.ntmps20
 go_wp2_with (first|((with_reducible refine gate_dst (N:=2) rfl ?_);refine zbx 2 #[.int .i64 a5,.int .i64 a6] 29 ?_;intro b0 hg f9 hbox hb;have a0:=zA hbox;have b1:=zgs hg (zs0 HB);have a1:=zgs hg (zs0 HB);replace HB:=zE (zs0 HB) hb;clear hb hbox hg)|((with_reducible refine gate_dst (N:=3) rfl ?_);refine zbx 3 #[.int .i64 a7,.int .i64 a8] 29 ?_;intro b2 hg g0 hbox hb;have a4:=zA hbox;have b3:=zgs hg (zs1 HB a1);have a9:=zgs hg (zs1 HB a1);have a2:=zne hg a0;have a3:=znf hg a0;replace a0:=zb a0 hb;replace HB:=zE (zs1 HB a1) hb;clear hb hbox hg;have f2:=a2.out;have f3:=a3.out;obtain⟨d0,d1⟩:=zd2 a0;obtain⟨d2,d3⟩:=zn2 a0;obtain⟨d4,d5⟩:=zd2 a4;obtain⟨d6,d7⟩:=zn2 a4))
 go_ret;exact⟨ze,zs2 HB a1 a9⟩
def laws_eqFlyStep.f (a0:Int) (a1:Int) (a2:Int) (a3:Int) (a4:Int) (a5:Int) (a6:Bool) (a7:Int) (a8:Int) (a9:Int) (b0:Int) (b1:Int) (b2:Int) (b3:Bool):Option (Bool):=if a0=a7 then(if a1=a8 then(if a2=a9 then(if a3=b0 then(if a4=b1 then(if a5=b2 then(if(a6 !=b3)=true then(some false)else(some true))else(some false))else(some false))else(some false))else(some false))else(some false))else(some false)
set_option maxHeartbeats 8000000 in
set_option maxRecDepth 100000 in
theorem laws_eqFlyStep.calls (a8:Int) (a9:Int) (b0:Int) (b1:Int) (b2:Int) (b3:Int) (a6:Bool) (b4:Int) (b5:Int) (b6:Int) (b7:Int) (b8:Int) (b9:Int) (a7:Bool) (r:Bool) (w:World) (h:laws_eqFlyStep.f a8 a9 b0 b1 b2 b3 a6 b4 b5 b6 b7 b8 b9 a7=some r):
 Calls Try.prog 35 #[.agg #[.int .i64 a8,.int .i64 a9,.int .i64 b0,.int .i64 b1,.int .i64 b2,.int .i64 b3,.bool a6],.agg #[.int .i64 b4,.int .i64 b5,.int .i64 b6,.int .i64 b7,.int .i64 b8,.int .i64 b9,.bool a7]] w fun e w'=>e= .returned (.bool r)∧Below w.heap.size w w':=by
 have F2:=Try.underlying53;have HB:=zA (Below.refl w.heap.size w);have H:=h;clear h;unfold laws_eqFlyStep.f at H
 by_cases c3:a8=b4
 rotate_left
 ·rw[if_neg c3]at H
  have C1:(a8==b4)=false:=beq_eq_false_iff_ne.mpr c3;have C2:(a8 !=b4)=true:=bne_iff_ne.mpr c3;obtain rfl:=Option.some.inj H
  go_enter Try.func35,Try.ntmps35
  go_wp2_with (first|((with_reducible refine gate_dst (N:=2) rfl ?_);refine zbx 2 #[.int .i64 a8,.int .i64 a9,.int .i64 b0,.int .i64 b1,.int .i64 b2,.int .i64 b3,.bool a6] 53 ?_;intro c0 hg F4 hbox hb;have a0:=zA hbox;have c1:=zgs hg (zs0 HB);have a1:=zgs hg (zs0 HB);replace HB:=zE (zs0 HB) hb;clear hb hbox hg)|((with_reducible refine gate_dst (N:=3) rfl ?_);refine zbx 3 #[.int .i64 b4,.int .i64 b5,.int .i64 b6,.int .i64 b7,.int .i64 b8,.int .i64 b9,.bool a7] 53 ?_;intro d0 hg F5 hbox hb;have a4:=zA hbox;have d1:=zgs hg (zs1 HB a1);have a5:=zgs hg (zs1 HB a1);have a2:=zne hg a0;have a3:=znf hg a0;replace a0:=zb a0 hb;replace HB:=zE (zs1 HB a1) hb;clear hb hbox hg;have D6:=a2.out;have D7:=a3.out;obtain⟨d2,d3,d4,d5,d6,d7,d8⟩:=zd7 a0;obtain⟨d9,e0,e1,e2,e3,e4,e5⟩:=zn7 a0;obtain⟨e6,e7,e8,e9,f0,f1,f2⟩:=zd7 a4;obtain⟨f3,f4,f5,f6,f7,f8,f9⟩:=zn7 a4))
  go_ret;exact⟨ze,zs2 HB a1 a5⟩
 rw[if_pos c3]at H;have C1:(a8==b4)=true:=beq_iff_eq.mpr c3;have C2:(a8 !=b4)=false:=bne_eq_false_iff_eq.mpr c3;clear c3
 by_cases c4:a9=b5
 rotate_left
 ·rw[if_neg c4]at H
  have C3:(a9==b5)=false:=beq_eq_false_iff_ne.mpr c4;have C4:(a9 !=b5)=true:=bne_iff_ne.mpr c4;obtain rfl:=Option.some.inj H
  go_enter Try.func35,Try.ntmps35
  go_wp2_with (first|((with_reducible refine gate_dst (N:=2) rfl ?_);refine zbx 2 #[.int .i64 a8,.int .i64 a9,.int .i64 b0,.int .i64 b1,.int .i64 b2,.int .i64 b3,.bool a6] 53 ?_;intro c0 hg F6 hbox hb;have a0:=zA hbox;have c1:=zgs hg (zs0 HB);have a1:=zgs hg (zs0 HB);replace HB:=zE (zs0 HB) hb;clear hb hbox hg)|((with_reducible refine gate_dst (N:=3) rfl ?_);refine zbx 3 #[.int .i64 b4,.int .i64 b5,.int .i64 b6,.int .i64 b7,.int .i64 b8,.int .i64 b9,.bool a7] 53 ?_;intro d0 hg F7 hbox hb;have a4:=zA hbox;have d1:=zgs hg (zs1 HB a1);have a5:=zgs hg (zs1 HB a1);have a2:=zne hg a0;have a3:=znf hg a0;replace a0:=zb a0 hb;replace HB:=zE (zs1 HB a1) hb;clear hb hbox hg;have D8:=a2.out;have D9:=a3.out;obtain⟨g0,g1,g2,g3,g4,g5,g6⟩:=zd7 a0;obtain⟨g7,g8,g9,h0,h1,h2,h3⟩:=zn7 a0;obtain⟨h4,h5,h6,h7,h8,h9,i0⟩:=zd7 a4;obtain⟨i1,i2,i3,i4,i5,i6,i7⟩:=zn7 a4))
  go_ret;exact⟨ze,zs2 HB a1 a5⟩
 rw[if_pos c4]at H;have C3:(a9==b5)=true:=beq_iff_eq.mpr c4;have C4:(a9 !=b5)=false:=bne_eq_false_iff_eq.mpr c4;clear c4
 by_cases c5:b0=b6
 rotate_left
 ·rw[if_neg c5]at H
  have C5:(b0==b6)=false:=beq_eq_false_iff_ne.mpr c5;have C6:(b0 !=b6)=true:=bne_iff_ne.mpr c5;obtain rfl:=Option.some.inj H
  go_enter Try.func35,Try.ntmps35
  go_wp2_with (first|((with_reducible refine gate_dst (N:=2) rfl ?_);refine zbx 2 #[.int .i64 a8,.int .i64 a9,.int .i64 b0,.int .i64 b1,.int .i64 b2,.int .i64 b3,.bool a6] 53 ?_;intro c0 hg F8 hbox hb;have a0:=zA hbox;have c1:=zgs hg (zs0 HB);have a1:=zgs hg (zs0 HB);replace HB:=zE (zs0 HB) hb;clear hb hbox hg)|((with_reducible refine gate_dst (N:=3) rfl ?_);refine zbx 3 #[.int .i64 b4,.int .i64 b5,.int .i64 b6,.int .i64 b7,.int .i64 b8,.int .i64 b9,.bool a7] 53 ?_;intro d0 hg F9 hbox hb;have a4:=zA hbox;have d1:=zgs hg (zs1 HB a1);have a5:=zgs hg (zs1 HB a1);have a2:=zne hg a0;have a3:=znf hg a0;replace a0:=zb a0 hb;replace HB:=zE (zs1 HB a1) hb;clear hb hbox hg;have E0:=a2.out;have E1:=a3.out;obtain⟨i8,i9,j1,j4,j5,j6,j7⟩:=zd7 a0;obtain⟨j8,j9,k0,k1,k2,k3,k4⟩:=zn7 a0;obtain⟨k5,k6,k7,k8,k9,l4,l5⟩:=zd7 a4;obtain⟨l6,l7,l8,l9,m0,m1,m2⟩:=zn7 a4))
  go_ret;exact⟨ze,zs2 HB a1 a5⟩
 rw[if_pos c5]at H;have C5:(b0==b6)=true:=beq_iff_eq.mpr c5;have C6:(b0 !=b6)=false:=bne_eq_false_iff_eq.mpr c5;clear c5
 by_cases c6:b1=b7
 rotate_left
 ·rw[if_neg c6]at H
  have C7:(b1==b7)=false:=beq_eq_false_iff_ne.mpr c6;have C8:(b1 !=b7)=true:=bne_iff_ne.mpr c6;obtain rfl:=Option.some.inj H
  go_enter Try.func35,Try.ntmps35
  go_wp2_with (first|((with_reducible refine gate_dst (N:=2) rfl ?_);refine zbx 2 #[.int .i64 a8,.int .i64 a9,.int .i64 b0,.int .i64 b1,.int .i64 b2,.int .i64 b3,.bool a6] 53 ?_;intro c0 hg G0 hbox hb;have a0:=zA hbox;have c1:=zgs hg (zs0 HB);have a1:=zgs hg (zs0 HB);replace HB:=zE (zs0 HB) hb;clear hb hbox hg)|((with_reducible refine gate_dst (N:=3) rfl ?_);refine zbx 3 #[.int .i64 b4,.int .i64 b5,.int .i64 b6,.int .i64 b7,.int .i64 b8,.int .i64 b9,.bool a7] 53 ?_;intro d0 hg G1 hbox hb;have a4:=zA hbox;have d1:=zgs hg (zs1 HB a1);have a5:=zgs hg (zs1 HB a1);have a2:=zne hg a0;have a3:=znf hg a0;replace a0:=zb a0 hb;replace HB:=zE (zs1 HB a1) hb;clear hb hbox hg;have E2:=a2.out;have E3:=a3.out;obtain⟨m3,m4,m5,m6,m7,m8,m9⟩:=zd7 a0;obtain⟨n0,n1,n2,n3,n4,n5,n6⟩:=zn7 a0;obtain⟨n7,n8,n9,o0,o1,o2,o3⟩:=zd7 a4;obtain⟨o4,o5,o6,o7,o8,o9,p0⟩:=zn7 a4))
  go_ret;exact⟨ze,zs2 HB a1 a5⟩
 rw[if_pos c6]at H;have C7:(b1==b7)=true:=beq_iff_eq.mpr c6;have C8:(b1 !=b7)=false:=bne_eq_false_iff_eq.mpr c6;clear c6
 by_cases c7:b2=b8
 rotate_left
 ·rw[if_neg c7]at H
  have C9:(b2==b8)=false:=beq_eq_false_iff_ne.mpr c7;have D0:(b2 !=b8)=true:=bne_iff_ne.mpr c7;obtain rfl:=Option.some.inj H
  go_enter Try.func35,Try.ntmps35
  go_wp2_with (first|((with_reducible refine gate_dst (N:=2) rfl ?_);refine zbx 2 #[.int .i64 a8,.int .i64 a9,.int .i64 b0,.int .i64 b1,.int .i64 b2,.int .i64 b3,.bool a6] 53 ?_;intro c0 hg G2 hbox hb;have a0:=zA hbox;have c1:=zgs hg (zs0 HB);have a1:=zgs hg (zs0 HB);replace HB:=zE (zs0 HB) hb;clear hb hbox hg)|((with_reducible refine gate_dst (N:=3) rfl ?_);refine zbx 3 #[.int .i64 b4,.int .i64 b5,.int .i64 b6,.int .i64 b7,.int .i64 b8,.int .i64 b9,.bool a7] 53 ?_;intro d0 hg G3 hbox hb;have a4:=zA hbox;have d1:=zgs hg (zs1 HB a1);have a5:=zgs hg (zs1 HB a1);have a2:=zne hg a0;have a3:=znf hg a0;replace a0:=zb a0 hb;replace HB:=zE (zs1 HB a1) hb;clear hb hbox hg;have E4:=a2.out;have E5:=a3.out;obtain⟨p1,p2,p3,p4,p5,p6,p7⟩:=zd7 a0;obtain⟨p8,p9,q0,q1,q2,q3,q4⟩:=zn7 a0;obtain⟨q5,q6,q7,q8,q9,r0,r1⟩:=zd7 a4;obtain⟨r2,r3,r4,r5,r6,r7,r8⟩:=zn7 a4))
  go_ret;exact⟨ze,zs2 HB a1 a5⟩
 rw[if_pos c7]at H;have C9:(b2==b8)=true:=beq_iff_eq.mpr c7;have D0:(b2 !=b8)=false:=bne_eq_false_iff_eq.mpr c7;clear c7
 by_cases c8:b3=b9
 rotate_left
 ·rw[if_neg c8]at H
  have D1:(b3==b9)=false:=beq_eq_false_iff_ne.mpr c8;have D2:(b3 !=b9)=true:=bne_iff_ne.mpr c8;obtain rfl:=Option.some.inj H
  go_enter Try.func35,Try.ntmps35
  go_wp2_with (first|((with_reducible refine gate_dst (N:=2) rfl ?_);refine zbx 2 #[.int .i64 a8,.int .i64 a9,.int .i64 b0,.int .i64 b1,.int .i64 b2,.int .i64 b3,.bool a6] 53 ?_;intro c0 hg G4 hbox hb;have a0:=zA hbox;have c1:=zgs hg (zs0 HB);have a1:=zgs hg (zs0 HB);replace HB:=zE (zs0 HB) hb;clear hb hbox hg)|((with_reducible refine gate_dst (N:=3) rfl ?_);refine zbx 3 #[.int .i64 b4,.int .i64 b5,.int .i64 b6,.int .i64 b7,.int .i64 b8,.int .i64 b9,.bool a7] 53 ?_;intro d0 hg G5 hbox hb;have a4:=zA hbox;have d1:=zgs hg (zs1 HB a1);have a5:=zgs hg (zs1 HB a1);have a2:=zne hg a0;have a3:=znf hg a0;replace a0:=zb a0 hb;replace HB:=zE (zs1 HB a1) hb;clear hb hbox hg;have E6:=a2.out;have E7:=a3.out;obtain⟨r9,s0,s1,s2,s3,s4,s5⟩:=zd7 a0;obtain⟨s6,s7,s8,s9,t0,t1,t2⟩:=zn7 a0;obtain⟨t3,t4,t5,t6,t7,t8,t9⟩:=zd7 a4;obtain⟨v0,v1,v2,v3,v4,v5,v6⟩:=zn7 a4))
  go_ret;exact⟨ze,zs2 HB a1 a5⟩
 rw[if_pos c8]at H;have D1:(b3==b9)=true:=beq_iff_eq.mpr c8;have D2:(b3 !=b9)=false:=bne_eq_false_iff_eq.mpr c8;clear c8
 by_cases c9:(a6 !=a7)=true
 rotate_left
 ·rw[if_neg c9]at H
  have D3:(a6 !=a7)=false:=by simpa using c9
  (try(have D4:decide (a6=a7)=true:=by simpa using c9));(try(have D5:(a6==a7)=true:=by simpa using c9));clear c9;obtain rfl:=Option.some.inj H
  go_enter Try.func35,Try.ntmps35
  go_wp2_with (first|((with_reducible refine gate_dst (N:=2) rfl ?_);refine zbx 2 #[.int .i64 a8,.int .i64 a9,.int .i64 b0,.int .i64 b1,.int .i64 b2,.int .i64 b3,.bool a6] 53 ?_;intro c0 hg G6 hbox hb;have a0:=zA hbox;have c1:=zgs hg (zs0 HB);have a1:=zgs hg (zs0 HB);replace HB:=zE (zs0 HB) hb;clear hb hbox hg)|((with_reducible refine gate_dst (N:=3) rfl ?_);refine zbx 3 #[.int .i64 b4,.int .i64 b5,.int .i64 b6,.int .i64 b7,.int .i64 b8,.int .i64 b9,.bool a7] 53 ?_;intro d0 hg G7 hbox hb;have a4:=zA hbox;have d1:=zgs hg (zs1 HB a1);have a5:=zgs hg (zs1 HB a1);have a2:=zne hg a0;have a3:=znf hg a0;replace a0:=zb a0 hb;replace HB:=zE (zs1 HB a1) hb;clear hb hbox hg;have E8:=a2.out;have E9:=a3.out;obtain⟨v7,v8,v9,w0,w1,w2,w3⟩:=zd7 a0;obtain⟨w4,w5,w6,w7,w8,w9,x0⟩:=zn7 a0;obtain⟨x1,x2,x3,x4,x5,x6,x7⟩:=zd7 a4;obtain⟨x8,x9,y0,y1,y2,y3,y4⟩:=zn7 a4))
  go_ret;exact⟨ze,zs2 HB a1 a5⟩
 rw[if_pos c9]at H;have D3:(a6 !=a7)=true:=c9;(try(have D4:decide (a6=a7)=false:=by simpa using c9));(try(have D5:(a6==a7)=false:=by simpa using c9));(try(have F3: ¬(a6=a7):=by simpa using c9));clear c9;obtain rfl:=Option.some.inj H
 go_enter Try.func35,Try.ntmps35
 go_wp2_with (first|((with_reducible refine gate_dst (N:=2) rfl ?_);refine zbx 2 #[.int .i64 a8,.int .i64 a9,.int .i64 b0,.int .i64 b1,.int .i64 b2,.int .i64 b3,.bool a6] 53 ?_;intro c0 hg G8 hbox hb;have a0:=zA hbox;have c1:=zgs hg (zs0 HB);have a1:=zgs hg (zs0 HB);replace HB:=zE (zs0 HB) hb;clear hb hbox hg)|((with_reducible refine gate_dst (N:=3) rfl ?_);refine zbx 3 #[.int .i64 b4,.int .i64 b5,.int .i64 b6,.int .i64 b7,.int .i64 b8,.int .i64 b9,.bool a7] 53 ?_;intro d0 hg G9 hbox hb;have a4:=zA hbox;have d1:=zgs hg (zs1 HB a1);have a5:=zgs hg (zs1 HB a1);have a2:=zne hg a0;have a3:=znf hg a0;replace a0:=zb a0 hb;replace HB:=zE (zs1 HB a1) hb;clear hb hbox hg;have F0:=a2.out;have F1:=a3.out;obtain⟨y5,y6,y7,y8,y9,z0,z1⟩:=zd7 a0;obtain⟨z2,z3,z4,z5,z6,z7,z8⟩:=zn7 a0;obtain⟨z9,A0,A1,A2,A3,A4,A5⟩:=zd7 a4;obtain⟨A6,A7,A8,A9,B0,B3,C0⟩:=zn7 a4))
 go_ret;exact⟨ze,zs2 HB a1 a5⟩
def laws_eqFlyStepS.l0:Nat→List (S53)→List (S53)→Int→Option (Bool)
 |0,_,_,_=>none
 |k+1,x0,x1,x5=>if x5<(x0.length:Int)then(if 0≤x5 then(if x5<(x1.length:Int)then((laws_eqFlyStep.f ((rd_T53 x0 x5).f0) ((rd_T53 x0 x5).f1) ((rd_T53 x0 x5).f2) ((rd_T53 x0 x5).f3) ((rd_T53 x0 x5).f4) ((rd_T53 x0 x5).f5) ((rd_T53 x0 x5).f6) ((rd_T53 x1 x5).f0) ((rd_T53 x1 x5).f1) ((rd_T53 x1 x5).f2) ((rd_T53 x1 x5).f3) ((rd_T53 x1 x5).f4) ((rd_T53 x1 x5).f5) ((rd_T53 x1 x5).f6)).bind fun a0=>(if a0=true then(laws_eqFlyStepS.l0 k x0 x1 (wrap64 (x5+1)))else(some false)))else(none))else(none))else(some true)
def laws_eqFlyStepS.f (k:Nat) (l0:List (S53)) (l1:List (S53)):Option (Bool):=if(l0.length:Int)=(l1.length:Int)then(laws_eqFlyStepS.l0 k l0 l1 0)else(some false)
def laws_eqFlyStepS.T6:Bool×List (List Nat×List Nat):=(true,[([],[]),([],[]),([0,1],[0,1]),([2],[2]),([],[]),([],[]),([4,5],[4,5]),([6],[6]),([3,7],[3,7]),([8],[8])])
def laws_eqFlyStepS.B6:List Nat:=[0,0,3,7,0,0,48,112,255,511]
theorem laws_eqFlyStepS.tab6:rtab .any (opsOf Try.f21 6)=laws_eqFlyStepS.T6:=by kernel_rfl
theorem laws_eqFlyStepS.bits6:waitsOk laws_eqFlyStepS.T6.2 laws_eqFlyStepS.B6=true:=by kernel_rfl
set_option maxHeartbeats 8000000 in
set_option maxRecDepth 100000 in
theorem laws_eqFlyStepS.calls (k:Nat) (A0:Option Addr) (c0:Nat) (l0:List (S53)) (A1:Option Addr) (c1:Nat) (l1:List (S53)) (r:Bool) (w:World) (hr0:Kd.C k53 w A0 l0.length l0) (hc0:l0.length≤c0) (hr1:Kd.C k53 w A1 l1.length l1) (hc1:l1.length≤c1) (h:laws_eqFlyStepS.f k l0 l1=some r):
 Calls Try.prog 21 #[.slice A0 l0.length c0,.slice A1 l1.length c1] w fun e w'=>e= .returned (.bool r)∧Below w.heap.size w w':=by
 have e1:=Try.underlying53;have d8:=zA hr0;have e4:=zA hc0;clear hr0 hc0;have d9:=zA hr1;have e5:=zA hc1;clear hr1 hc1;have HB:=zA (Below.refl w.heap.size w);have H:=h;clear h;unfold laws_eqFlyStepS.f at H
 by_cases c3:(l0.length:Int)=(l1.length:Int)
 rotate_left
 ·rw[if_neg c3]at H
  have d3:((l0.length:Int)==(l1.length:Int))=false:=beq_eq_false_iff_ne.mpr c3;have d4:((l0.length:Int) !=(l1.length:Int))=true:=bne_iff_ne.mpr c3
  have d5:(l0.length==l1.length)=false:=by first|simpa using c3|(simp at c3⊢;omega)
  obtain rfl:=Option.some.inj H
  go_enter Try.func21,Try.ntmps21
  go_wp2
  go_ret;exact⟨ze,zs0 HB⟩
 rw[if_pos c3]at H;have d3:((l0.length:Int)==(l1.length:Int))=true:=beq_iff_eq.mpr c3;have d4:((l0.length:Int) !=(l1.length:Int))=false:=bne_eq_false_iff_eq.mpr c3
 have d5:(l0.length==l1.length)=true:=by first|simpa using c3|(simp at c3⊢;omega)
 clear c3;have H':=zA H;clear H
 go_enter Try.func21,Try.ntmps21
 go_wp2
 go_loopg [5] k (fun kq v5 w'=> ∃(a0:Int),v5= .int .i64 a0∧Aside0 (laws_eqFlyStepS.l0 kq l0 l1 a0=some r)∧Aside0 (kq≤k)∧Aside0 (Below w.heap.size w w'))
 case atStart=>exact⟨(0),zi,H',⟨Nat.le_refl _⟩,⟨zs0 HB⟩⟩
 case round=>
  clear H'
  try clear c1
  try clear c2
  try clear p2
  try clear c3
  try clear d3
  try clear d4
  try clear d5
  obtain⟨a0,rfl,HA,e0,HB⟩:=hrel
  cases gk with
  |zero=>exact absurd HA.out (by simp[laws_eqFlyStepS.l0])
  |succ k1=>
   have H:=HA.out;clear HA;simp only[laws_eqFlyStepS.l0]at H
   by_cases c4:a0<(l0.length:Int)
   rotate_left
   ·rw[if_neg c4]at H
    have d6:decide (a0<(l0.length:Int))=false:=decide_eq_false c4;clear c4;obtain rfl:=Option.some.inj H
    go_wp2
    go_ret;exact⟨ze,zs0 HB⟩
   rw[if_pos c4]at H;have d6:decide (a0<(l0.length:Int))=true:=decide_eq_true c4;clear c4;replace H:=zif H;obtain⟨e2,H⟩:=H
   by_cases c6:a0<(l1.length:Int)
   rotate_left
   ·rw[if_neg c6]at H
    exact absurd H (by simp)
   rw[if_pos c6]at H;have e3:decide (a0<(l1.length:Int))=true:=decide_eq_true c6;clear c6;replace H:=zbd H;obtain⟨d7,A7,H⟩:=H
   by_cases c8:d7=true
   rotate_left
   ·replace c8:=Bool.eq_false_iff.mpr c8
    subst c8;rw[if_neg zfn]at H;obtain rfl:=Option.some.inj H
    try go_wp2
    replace HB:=zA (below_drew1 HB.out);have b7:0≤(a0:Int):=za;have b8:a0<(l0.length:Int):=za;obtain⟨a1,d1,a3,a4,a5,a6,a7,a8,a9⟩:=at_T53 d8.out a0 b7 b8;have hw580_6:=a9;have hw580_5:=a8;have hw580_4:=a7;have hw580_3:=a6;have hw580_2:=a5;have hw580_1:=a4;have hw580_0:=a3;cases d1;replace a3:=zx HB a3;replace a4:=zx HB a4;replace a5:=zx HB a5;replace a6:=zx HB a6;replace a7:=zx HB a7;replace a8:=zx HB a8;replace a9:=zx HB a9;replace b7:=eq_true b7;replace b8:=eq_true b8;have b9:0≤(a0:Int):=za;have d0:a0<(l1.length:Int):=za;obtain⟨a2,d2,b0,b1,b2,b3,b4,b5,b6⟩:=at_T53 d9.out a0 b9 d0;have hw581_6:=b6;have hw581_5:=b5;have hw581_4:=b4;have hw581_3:=b3;have hw581_2:=b2;have hw581_1:=b1;have hw581_0:=b0;cases d2;replace b0:=zx HB b0;replace b1:=zx HB b1;replace b2:=zx HB b2;replace b3:=zx HB b3;replace b4:=zx HB b4;replace b5:=zx HB b5;replace b6:=zx HB b6;replace b9:=eq_true b9;replace d0:=eq_true d0;refine start_ (n:=10) (S:=fun w'=>w'.cell? (a1.add ((a0).toNat*7))=some (.int .i64 ((rd_T53 l0 a0).f0))∧w'.cell? ⟨(a1.add ((a0).toNat*7)).block,(a1.add ((a0).toNat*7)).off+1,none⟩=some (.int .i64 ((rd_T53 l0 a0).f1))∧w'.cell? ⟨(a1.add ((a0).toNat*7)).block,(a1.add ((a0).toNat*7)).off+2,none⟩=some (.int .i64 ((rd_T53 l0 a0).f2))∧w'.cell? ⟨(a1.add ((a0).toNat*7)).block,(a1.add ((a0).toNat*7)).off+3,none⟩=some (.int .i64 ((rd_T53 l0 a0).f3))∧w'.cell? ⟨(a1.add ((a0).toNat*7)).block,(a1.add ((a0).toNat*7)).off+4,none⟩=some (.int .i64 ((rd_T53 l0 a0).f4))∧w'.cell? ⟨(a1.add ((a0).toNat*7)).block,(a1.add ((a0).toNat*7)).off+5,none⟩=some (.int .i64 ((rd_T53 l0 a0).f5))∧w'.cell? ⟨(a1.add ((a0).toNat*7)).block,(a1.add ((a0).toNat*7)).off+6,none⟩=some (.bool ((rd_T53 l0 a0).f6))∧w'.cell? (a2.add ((a0).toNat*7))=some (.int .i64 ((rd_T53 l1 a0).f0))∧w'.cell? ⟨(a2.add ((a0).toNat*7)).block,(a2.add ((a0).toNat*7)).off+1,none⟩=some (.int .i64 ((rd_T53 l1 a0).f1))∧w'.cell? ⟨(a2.add ((a0).toNat*7)).block,(a2.add ((a0).toNat*7)).off+2,none⟩=some (.int .i64 ((rd_T53 l1 a0).f2))∧w'.cell? ⟨(a2.add ((a0).toNat*7)).block,(a2.add ((a0).toNat*7)).off+3,none⟩=some (.int .i64 ((rd_T53 l1 a0).f3))∧w'.cell? ⟨(a2.add ((a0).toNat*7)).block,(a2.add ((a0).toNat*7)).off+4,none⟩=some (.int .i64 ((rd_T53 l1 a0).f4))∧w'.cell? ⟨(a2.add ((a0).toNat*7)).block,(a2.add ((a0).toNat*7)).off+5,none⟩=some (.int .i64 ((rd_T53 l1 a0).f5))∧w'.cell? ⟨(a2.add ((a0).toNat*7)).block,(a2.add ((a0).toNat*7)).off+6,none⟩=some (.bool ((rd_T53 l1 a0).f6))) (ds:=[]) #[F,F,F,F,F,F,F,F,F,F] (by kernel_rfl) rfl rfl ⟨(zw HB hw580_0),(zw HB hw580_1),(zw HB hw580_2),(zw HB hw580_3),(zw HB hw580_4),(zw HB hw580_5),(zw HB hw580_6),(zw HB hw581_0),(zw HB hw581_1),(zw HB hw581_2),(zw HB hw581_3),(zw HB hw581_4),(zw HB hw581_5),(zw HB hw581_6)⟩ (fun hHeld=>?_);refine with_tabW laws_eqFlyStepS.tab6 laws_eqFlyStepS.bits6 (fun HT_ HW_=>?_);generalize wr.drew=e6 at HB a3 a4 a5 a6 a7 a8 a9 b0 b1 b2 b3 b4 b5 b6 hHeld⊢;refine zq HT_ 0 ?_;refine zq HT_ 1 ?_;refine zq HT_ 2 ?_;refine zq HT_ 4 ?_;refine zq HT_ 5 ?_;refine zq HT_ 6 ?_;refine zk14 HT_ HW_ hHeld 3 ?_;refine zk14 HT_ HW_ hHeld 7 ?_;refine zo HT_ 8 (fun K hK=>?_);refine zgo Try.func35 #[.agg #[.int .i64 ((rd_T53 l0 a0).f0),.int .i64 ((rd_T53 l0 a0).f1),.int .i64 ((rd_T53 l0 a0).f2),.int .i64 ((rd_T53 l0 a0).f3),.int .i64 ((rd_T53 l0 a0).f4),.int .i64 ((rd_T53 l0 a0).f5),.bool ((rd_T53 l0 a0).f6)],.agg #[.int .i64 ((rd_T53 l1 a0).f0),.int .i64 ((rd_T53 l1 a0).f1),.int .i64 ((rd_T53 l1 a0).f2),.int .i64 ((rd_T53 l1 a0).f3),.int .i64 ((rd_T53 l1 a0).f4),.int .i64 ((rd_T53 l1 a0).f5),.bool ((rd_T53 l1 a0).f6)]] ?_
    with_reducible refine(laws_eqFlyStep.calls ((rd_T53 l0 a0).f0) ((rd_T53 l0 a0).f1) ((rd_T53 l0 a0).f2) ((rd_T53 l0 a0).f3) ((rd_T53 l0 a0).f4) ((rd_T53 l0 a0).f5) ((rd_T53 l0 a0).f6) ((rd_T53 l1 a0).f0) ((rd_T53 l1 a0).f1) ((rd_T53 l1 a0).f2) ((rd_T53 l1 a0).f3) ((rd_T53 l1 a0).f4) ((rd_T53 l1 a0).f5) ((rd_T53 l1 a0).f6) false _ A7.out).mono ?_
    rintro e e7 ⟨rfl,hb⟩;refine⟨_,rfl,?_⟩;replace HB:=zE (zs0 HB) hb;(try clear hb);(try clear hb2);(try clear hk);(try clear hi);refine hK.out _ _ ⟨(zw HB hw580_0),(zw HB hw580_1),(zw HB hw580_2),(zw HB hw580_3),(zw HB hw580_4),(zw HB hw580_5),(zw HB hw580_6),(zw HB hw581_0),(zw HB hw581_1),(zw HB hw581_2),(zw HB hw581_3),(zw HB hw581_4),(zw HB hw581_5),(zw HB hw581_6)⟩ (fun hHeld=>?_);clear hK K;refine zN ?_;refine zq HT_ 9 ?_;refine done_ (done_of HT_.out (by kernel_rfl)) ?_
    try go_wp2
    go_ret;exact⟨ze,zs0 HB⟩
   subst c8;rw[if_pos rfl]at H;have H':=zA H;clear H
   try go_wp2
   replace HB:=zA (below_drew1 HB.out);have b7:0≤(a0:Int):=za;have b8:a0<(l0.length:Int):=za;obtain⟨a1,d1,a3,a4,a5,a6,a7,a8,a9⟩:=at_T53 d8.out a0 b7 b8;have hw580_6:=a9;have hw580_5:=a8;have hw580_4:=a7;have hw580_3:=a6;have hw580_2:=a5;have hw580_1:=a4;have hw580_0:=a3;cases d1;replace a3:=zx HB a3;replace a4:=zx HB a4;replace a5:=zx HB a5;replace a6:=zx HB a6;replace a7:=zx HB a7;replace a8:=zx HB a8;replace a9:=zx HB a9;replace b7:=eq_true b7;replace b8:=eq_true b8;have b9:0≤(a0:Int):=za;have d0:a0<(l1.length:Int):=za;obtain⟨a2,d2,b0,b1,b2,b3,b4,b5,b6⟩:=at_T53 d9.out a0 b9 d0;have hw581_6:=b6;have hw581_5:=b5;have hw581_4:=b4;have hw581_3:=b3;have hw581_2:=b2;have hw581_1:=b1;have hw581_0:=b0;cases d2;replace b0:=zx HB b0;replace b1:=zx HB b1;replace b2:=zx HB b2;replace b3:=zx HB b3;replace b4:=zx HB b4;replace b5:=zx HB b5;replace b6:=zx HB b6;replace b9:=eq_true b9;replace d0:=eq_true d0;refine start_ (n:=10) (S:=fun w'=>w'.cell? (a1.add ((a0).toNat*7))=some (.int .i64 ((rd_T53 l0 a0).f0))∧w'.cell? ⟨(a1.add ((a0).toNat*7)).block,(a1.add ((a0).toNat*7)).off+1,none⟩=some (.int .i64 ((rd_T53 l0 a0).f1))∧w'.cell? ⟨(a1.add ((a0).toNat*7)).block,(a1.add ((a0).toNat*7)).off+2,none⟩=some (.int .i64 ((rd_T53 l0 a0).f2))∧w'.cell? ⟨(a1.add ((a0).toNat*7)).block,(a1.add ((a0).toNat*7)).off+3,none⟩=some (.int .i64 ((rd_T53 l0 a0).f3))∧w'.cell? ⟨(a1.add ((a0).toNat*7)).block,(a1.add ((a0).toNat*7)).off+4,none⟩=some (.int .i64 ((rd_T53 l0 a0).f4))∧w'.cell? ⟨(a1.add ((a0).toNat*7)).block,(a1.add ((a0).toNat*7)).off+5,none⟩=some (.int .i64 ((rd_T53 l0 a0).f5))∧w'.cell? ⟨(a1.add ((a0).toNat*7)).block,(a1.add ((a0).toNat*7)).off+6,none⟩=some (.bool ((rd_T53 l0 a0).f6))∧w'.cell? (a2.add ((a0).toNat*7))=some (.int .i64 ((rd_T53 l1 a0).f0))∧w'.cell? ⟨(a2.add ((a0).toNat*7)).block,(a2.add ((a0).toNat*7)).off+1,none⟩=some (.int .i64 ((rd_T53 l1 a0).f1))∧w'.cell? ⟨(a2.add ((a0).toNat*7)).block,(a2.add ((a0).toNat*7)).off+2,none⟩=some (.int .i64 ((rd_T53 l1 a0).f2))∧w'.cell? ⟨(a2.add ((a0).toNat*7)).block,(a2.add ((a0).toNat*7)).off+3,none⟩=some (.int .i64 ((rd_T53 l1 a0).f3))∧w'.cell? ⟨(a2.add ((a0).toNat*7)).block,(a2.add ((a0).toNat*7)).off+4,none⟩=some (.int .i64 ((rd_T53 l1 a0).f4))∧w'.cell? ⟨(a2.add ((a0).toNat*7)).block,(a2.add ((a0).toNat*7)).off+5,none⟩=some (.int .i64 ((rd_T53 l1 a0).f5))∧w'.cell? ⟨(a2.add ((a0).toNat*7)).block,(a2.add ((a0).toNat*7)).off+6,none⟩=some (.bool ((rd_T53 l1 a0).f6))) (ds:=[]) #[F,F,F,F,F,F,F,F,F,F] (by kernel_rfl) rfl rfl ⟨(zw HB hw580_0),(zw HB hw580_1),(zw HB hw580_2),(zw HB hw580_3),(zw HB hw580_4),(zw HB hw580_5),(zw HB hw580_6),(zw HB hw581_0),(zw HB hw581_1),(zw HB hw581_2),(zw HB hw581_3),(zw HB hw581_4),(zw HB hw581_5),(zw HB hw581_6)⟩ (fun hHeld=>?_);refine with_tabW laws_eqFlyStepS.tab6 laws_eqFlyStepS.bits6 (fun HT_ HW_=>?_);generalize wr.drew=w9 at HB a3 a4 a5 a6 a7 a8 a9 b0 b1 b2 b3 b4 b5 b6 hHeld⊢;refine zq HT_ 0 ?_;refine zq HT_ 1 ?_;refine zq HT_ 2 ?_;refine zq HT_ 4 ?_;refine zq HT_ 5 ?_;refine zq HT_ 6 ?_;refine zk14 HT_ HW_ hHeld 3 ?_;refine zk14 HT_ HW_ hHeld 7 ?_;refine zo HT_ 8 (fun K hK=>?_);refine zgo Try.func35 #[.agg #[.int .i64 ((rd_T53 l0 a0).f0),.int .i64 ((rd_T53 l0 a0).f1),.int .i64 ((rd_T53 l0 a0).f2),.int .i64 ((rd_T53 l0 a0).f3),.int .i64 ((rd_T53 l0 a0).f4),.int .i64 ((rd_T53 l0 a0).f5),.bool ((rd_T53 l0 a0).f6)],.agg #[.int .i64 ((rd_T53 l1 a0).f0),.int .i64 ((rd_T53 l1 a0).f1),.int .i64 ((rd_T53 l1 a0).f2),.int .i64 ((rd_T53 l1 a0).f3),.int .i64 ((rd_T53 l1 a0).f4),.int .i64 ((rd_T53 l1 a0).f5),.bool ((rd_T53 l1 a0).f6)]] ?_
   with_reducible refine(laws_eqFlyStep.calls ((rd_T53 l0 a0).f0) ((rd_T53 l0 a0).f1) ((rd_T53 l0 a0).f2) ((rd_T53 l0 a0).f3) ((rd_T53 l0 a0).f4) ((rd_T53 l0 a0).f5) ((rd_T53 l0 a0).f6) ((rd_T53 l1 a0).f0) ((rd_T53 l1 a0).f1) ((rd_T53 l1 a0).f2) ((rd_T53 l1 a0).f3) ((rd_T53 l1 a0).f4) ((rd_T53 l1 a0).f5) ((rd_T53 l1 a0).f6) true _ A7.out).mono ?_
   rintro e e8 ⟨rfl,hb⟩;refine⟨_,rfl,?_⟩;replace HB:=zE (zs0 HB) hb;(try clear hb);(try clear hb2);(try clear hk);(try clear hi);refine hK.out _ _ ⟨(zw HB hw580_0),(zw HB hw580_1),(zw HB hw580_2),(zw HB hw580_3),(zw HB hw580_4),(zw HB hw580_5),(zw HB hw580_6),(zw HB hw581_0),(zw HB hw581_1),(zw HB hw581_2),(zw HB hw581_3),(zw HB hw581_4),(zw HB hw581_5),(zw HB hw581_6)⟩ (fun hHeld=>?_);clear hK K;refine zN ?_;refine zq HT_ 9 ?_;refine done_ (done_of HT_.out (by kernel_rfl)) ?_
   try go_wp2
   go_roundg k1
   case measure=>have:=e0.out;omega
   case rel=>exact⟨(wrap64 (a0+1)),zi,H',⟨by have:=e0.out;omega⟩,⟨zs0 HB⟩⟩
def laws_eqFlyPath.f (k:Nat) (a0:Int) (a1:Int) (a2:List (S53)) (a3:Int) (a4:Int) (a5:Int) (a6:Int) (a7:List (S53)) (a8:Int) (a9:Int):Option (Bool):=(laws_eqFlyKind.f a0 a1 a5 a6).bind fun b0=>(if b0=true then((laws_eqFlyStepS.f k a2 a7).bind fun b1=>(if b1=true then(if a3=a8 then(if a4=a9 then(some true)else(some false))else(some false))else(some false)))else(some false))
set_option maxHeartbeats 8000000 in
set_option maxRecDepth 100000 in
theorem laws_eqFlyPath.calls (k:Nat) (a8:Int) (a9:Int) (b6:Option Addr) (b7:Nat) (a6:List (S53)) (b2:Int) (b3:Int) (b0:Int) (b1:Int) (b8:Option Addr) (b9:Nat) (a7:List (S53)) (b4:Int) (b5:Int) (r:Bool) (w:World) (hr0_2:Kd.C k53 w b6 a6.length a6) (hc0_2:a6.length≤b7) (hr1_2:Kd.C k53 w b8 a7.length a7) (hc1_2:a7.length≤b9) (h:laws_eqFlyPath.f k a8 a9 a6 b2 b3 b0 b1 a7 b4 b5=some r):
 Calls Try.prog 8 #[.agg #[.int .i64 a8,.int .i64 a9,.slice b6 a6.length b7,.int .i64 b2,.int .i64 b3],.agg #[.int .i64 b0,.int .i64 b1,.slice b8 a7.length b9,.int .i64 b4,.int .i64 b5]] w fun e w'=>e= .returned (.bool r)∧Below w.heap.size w w':=by
 have G0:=Try.underlying32;have G1:=Try.underlying29;have c0:=zA hr0_2;have c1:=zA hc0_2;clear hr0_2 hc0_2;have d0:=zA hr1_2;have d1:=zA hc1_2;clear hr1_2 hc1_2;have HB:=zA (Below.refl w.heap.size w);have H:=h;clear h;unfold laws_eqFlyPath.f at H;replace H:=zbd H;obtain⟨E4,A3,H⟩:=H
 by_cases c4:E4=true
 rotate_left
 ·replace c4:=Bool.eq_false_iff.mpr c4
  subst c4;rw[if_neg zfn]at H;obtain rfl:=Option.some.inj H
  go_enter Try.func8,Try.ntmps8
  go_wp2_with (first|((with_reducible refine gate_dst (N:=2) rfl ?_);refine zbx 2 #[.int .i64 a8,.int .i64 a9,.slice b6 a6.length b7,.int .i64 b2,.int .i64 b3] 32 ?_;intro d2 hg G2 hbox hb;have a0:=zA hbox;have d3:=zgs hg (zs0 HB);have a2:=zgs hg (zs0 HB);replace HB:=zE (zs0 HB) hb;clear hb hbox hg)|((with_reducible refine gate_dst (N:=3) rfl ?_);refine zbx 3 #[.int .i64 b0,.int .i64 b1,.slice b8 a7.length b9,.int .i64 b4,.int .i64 b5] 32 ?_;intro d4 hg G3 hbox hb;have a1:=zA hbox;have d5:=zgs hg (zs1 HB a2);have a5:=zgs hg (zs1 HB a2);have a3:=zne hg a0;have a4:=znf hg a0;replace a0:=zb a0 hb;replace HB:=zE (zs1 HB a2) hb;clear hb hbox hg;have F0:=a3.out;have F1:=a4.out;obtain⟨d6,d7,d8,d9,e0⟩:=zd5 a0;obtain⟨e1,e2,e3,e4,e5⟩:=zn5 a0;obtain⟨e6,e7,e8,e9,f0⟩:=zd5 a1;obtain⟨f1,f2,f3,f4,f5⟩:=zn5 a1)|((with_reducible refine gate_callee (f:=20) rfl ?_);refine zgl (N:=some 9) Try.func20 #[.agg #[.int .i64 a8,.int .i64 a9],.agg #[.int .i64 b0,.int .i64 b1]] ?_;(with_reducible refine(laws_eqFlyKind.calls a8 a9 b0 b1 false _ A3.out).mono ?_);rintro e G4 ⟨rfl,hb⟩;refine⟨_,rfl,?_⟩;replace a0:=zb a0 hb;replace a1:=zb a1 hb;replace HB:=zE (zs2 HB a2 a5) hb;(try clear hb);(try clear hb2);(try clear hk);(try clear hi)))
  go_ret;exact⟨ze,zs2 HB a2 a5⟩
 subst c4;rw[if_pos rfl]at H;replace H:=zbd H;obtain⟨E5,A5,H⟩:=H
 by_cases c6:E5=true
 rotate_left
 ·replace c6:=Bool.eq_false_iff.mpr c6
  subst c6;rw[if_neg zfn]at H;obtain rfl:=Option.some.inj H
  go_enter Try.func8,Try.ntmps8
  go_wp2_with (first|((with_reducible refine gate_dst (N:=2) rfl ?_);refine zbx 2 #[.int .i64 a8,.int .i64 a9,.slice b6 a6.length b7,.int .i64 b2,.int .i64 b3] 32 ?_;intro d2 hg G5 hbox hb;have a0:=zA hbox;have d3:=zgs hg (zs0 HB);have a2:=zgs hg (zs0 HB);replace HB:=zE (zs0 HB) hb;clear hb hbox hg)|((with_reducible refine gate_dst (N:=3) rfl ?_);refine zbx 3 #[.int .i64 b0,.int .i64 b1,.slice b8 a7.length b9,.int .i64 b4,.int .i64 b5] 32 ?_;intro d4 hg G6 hbox hb;have a1:=zA hbox;have d5:=zgs hg (zs1 HB a2);have a5:=zgs hg (zs1 HB a2);have a3:=zne hg a0;have a4:=znf hg a0;replace a0:=zb a0 hb;replace HB:=zE (zs1 HB a2) hb;clear hb hbox hg;have F2:=a3.out;have F3:=a4.out;obtain⟨f6,f7,f8,f9,g0⟩:=zd5 a0;obtain⟨g1,g2,g3,g4,g5⟩:=zn5 a0;obtain⟨g6,g7,g8,g9,h0⟩:=zd5 a1;obtain⟨h1,h2,h3,h4,h5⟩:=zn5 a1)|((with_reducible refine gate_callee (f:=20) rfl ?_);refine zgl (N:=some 9) Try.func20 #[.agg #[.int .i64 a8,.int .i64 a9],.agg #[.int .i64 b0,.int .i64 b1]] ?_;(with_reducible refine(laws_eqFlyKind.calls a8 a9 b0 b1 true _ A3.out).mono ?_);rintro e G7 ⟨rfl,hb⟩;refine⟨_,rfl,?_⟩;replace a0:=zb a0 hb;replace a1:=zb a1 hb;replace HB:=zE (zs2 HB a2 a5) hb;(try clear hb);(try clear hb2);(try clear hk);(try clear hi);obtain⟨h6,h7,h8,h9,i0⟩:=zd5 a0;obtain⟨i1,i2,i3,i4,i5⟩:=zn5 a0;obtain⟨i6,i7,i8,i9,j1⟩:=zd5 a1;obtain⟨j4,j5,j6,j7,j8⟩:=zn5 a1)|((with_reducible refine gate_callee (f:=21) rfl ?_);refine zgl (N:=some 15) Try.func21 #[.slice b6 a6.length b7,.slice b8 a7.length b9] ?_;(with_reducible refine(laws_eqFlyStepS.calls k _ _ a6 _ _ a7 false _ ?side1 ?side2 ?side3 ?side4 A5.out).mono ?_);(case side1=>exact zC c0 HB);(case side2=>exact c1.out);(case side3=>exact zC d0 HB);(case side4=>exact d1.out);rintro e G8 ⟨rfl,hb⟩;refine⟨_,rfl,?_⟩;replace a0:=zb a0 hb;replace a1:=zb a1 hb;replace HB:=zE (zs2 HB a2 a5) hb;(try clear hb);(try clear hb2);(try clear hk);(try clear hi)))
  go_ret;exact⟨ze,zs2 HB a2 a5⟩
 subst c6;rw[if_pos rfl]at H
 by_cases c7:b2=b4
 rotate_left
 ·rw[if_neg c7]at H
  have E6:(b2==b4)=false:=beq_eq_false_iff_ne.mpr c7;have E7:(b2 !=b4)=true:=bne_iff_ne.mpr c7;obtain rfl:=Option.some.inj H
  go_enter Try.func8,Try.ntmps8
  go_wp2_with (first|((with_reducible refine gate_dst (N:=2) rfl ?_);refine zbx 2 #[.int .i64 a8,.int .i64 a9,.slice b6 a6.length b7,.int .i64 b2,.int .i64 b3] 32 ?_;intro d2 hg G9 hbox hb;have a0:=zA hbox;have d3:=zgs hg (zs0 HB);have a2:=zgs hg (zs0 HB);replace HB:=zE (zs0 HB) hb;clear hb hbox hg)|((with_reducible refine gate_dst (N:=3) rfl ?_);refine zbx 3 #[.int .i64 b0,.int .i64 b1,.slice b8 a7.length b9,.int .i64 b4,.int .i64 b5] 32 ?_;intro d4 hg H0 hbox hb;have a1:=zA hbox;have d5:=zgs hg (zs1 HB a2);have a5:=zgs hg (zs1 HB a2);have a3:=zne hg a0;have a4:=znf hg a0;replace a0:=zb a0 hb;replace HB:=zE (zs1 HB a2) hb;clear hb hbox hg;have F4:=a3.out;have F5:=a4.out;obtain⟨j9,k0,k1,k2,k3⟩:=zd5 a0;obtain⟨k4,k5,k6,k7,k8⟩:=zn5 a0;obtain⟨k9,l4,l5,l6,l7⟩:=zd5 a1;obtain⟨l8,l9,m0,m1,m2⟩:=zn5 a1)|((with_reducible refine gate_callee (f:=20) rfl ?_);refine zgl (N:=some 9) Try.func20 #[.agg #[.int .i64 a8,.int .i64 a9],.agg #[.int .i64 b0,.int .i64 b1]] ?_;(with_reducible refine(laws_eqFlyKind.calls a8 a9 b0 b1 true _ A3.out).mono ?_);rintro e H1 ⟨rfl,hb⟩;refine⟨_,rfl,?_⟩;replace a0:=zb a0 hb;replace a1:=zb a1 hb;replace HB:=zE (zs2 HB a2 a5) hb;(try clear hb);(try clear hb2);(try clear hk);(try clear hi);obtain⟨m3,m4,m5,m6,m7⟩:=zd5 a0;obtain⟨m8,m9,n0,n1,n2⟩:=zn5 a0;obtain⟨n3,n4,n5,n6,n7⟩:=zd5 a1;obtain⟨n8,n9,o0,o1,o2⟩:=zn5 a1)|((with_reducible refine gate_callee (f:=21) rfl ?_);refine zgl (N:=some 15) Try.func21 #[.slice b6 a6.length b7,.slice b8 a7.length b9] ?_;(with_reducible refine(laws_eqFlyStepS.calls k _ _ a6 _ _ a7 true _ ?side1 ?side2 ?side3 ?side4 A5.out).mono ?_);(case side1=>exact zC c0 HB);(case side2=>exact c1.out);(case side3=>exact zC d0 HB);(case side4=>exact d1.out);rintro e H2 ⟨rfl,hb⟩;refine⟨_,rfl,?_⟩;replace a0:=zb a0 hb;replace a1:=zb a1 hb;replace HB:=zE (zs2 HB a2 a5) hb;(try clear hb);(try clear hb2);(try clear hk);(try clear hi);obtain⟨o3,o4,o5,o6,o7⟩:=zd5 a0;obtain⟨o8,o9,p0,p1,p2⟩:=zn5 a0;obtain⟨p3,p4,p5,p6,p7⟩:=zd5 a1;obtain⟨p8,p9,q0,q1,q2⟩:=zn5 a1))
  go_ret;exact⟨ze,zs2 HB a2 a5⟩
 rw[if_pos c7]at H;have E6:(b2==b4)=true:=beq_iff_eq.mpr c7;have E7:(b2 !=b4)=false:=bne_eq_false_iff_eq.mpr c7;clear c7
 by_cases c8:b3=b5
 rotate_left
 ·rw[if_neg c8]at H
  have E8:(b3==b5)=false:=beq_eq_false_iff_ne.mpr c8;have E9:(b3 !=b5)=true:=bne_iff_ne.mpr c8;obtain rfl:=Option.some.inj H
  go_enter Try.func8,Try.ntmps8
  go_wp2_with (first|((with_reducible refine gate_dst (N:=2) rfl ?_);refine zbx 2 #[.int .i64 a8,.int .i64 a9,.slice b6 a6.length b7,.int .i64 b2,.int .i64 b3] 32 ?_;intro d2 hg H3 hbox hb;have a0:=zA hbox;have d3:=zgs hg (zs0 HB);have a2:=zgs hg (zs0 HB);replace HB:=zE (zs0 HB) hb;clear hb hbox hg)|((with_reducible refine gate_dst (N:=3) rfl ?_);refine zbx 3 #[.int .i64 b0,.int .i64 b1,.slice b8 a7.length b9,.int .i64 b4,.int .i64 b5] 32 ?_;intro d4 hg H4 hbox hb;have a1:=zA hbox;have d5:=zgs hg (zs1 HB a2);have a5:=zgs hg (zs1 HB a2);have a3:=zne hg a0;have a4:=znf hg a0;replace a0:=zb a0 hb;replace HB:=zE (zs1 HB a2) hb;clear hb hbox hg;have F6:=a3.out;have F7:=a4.out;obtain⟨q3,q4,q5,q6,q7⟩:=zd5 a0;obtain⟨q8,q9,r0,r1,r2⟩:=zn5 a0;obtain⟨r3,r4,r5,r6,r7⟩:=zd5 a1;obtain⟨r8,r9,s0,s1,s2⟩:=zn5 a1)|((with_reducible refine gate_callee (f:=20) rfl ?_);refine zgl (N:=some 9) Try.func20 #[.agg #[.int .i64 a8,.int .i64 a9],.agg #[.int .i64 b0,.int .i64 b1]] ?_;(with_reducible refine(laws_eqFlyKind.calls a8 a9 b0 b1 true _ A3.out).mono ?_);rintro e H5 ⟨rfl,hb⟩;refine⟨_,rfl,?_⟩;replace a0:=zb a0 hb;replace a1:=zb a1 hb;replace HB:=zE (zs2 HB a2 a5) hb;(try clear hb);(try clear hb2);(try clear hk);(try clear hi);obtain⟨s3,s4,s5,s6,s7⟩:=zd5 a0;obtain⟨s8,s9,t0,t1,t2⟩:=zn5 a0;obtain⟨t3,t4,t5,t6,t7⟩:=zd5 a1;obtain⟨t8,t9,v0,v1,v2⟩:=zn5 a1)|((with_reducible refine gate_callee (f:=21) rfl ?_);refine zgl (N:=some 15) Try.func21 #[.slice b6 a6.length b7,.slice b8 a7.length b9] ?_;(with_reducible refine(laws_eqFlyStepS.calls k _ _ a6 _ _ a7 true _ ?side1 ?side2 ?side3 ?side4 A5.out).mono ?_);(case side1=>exact zC c0 HB);(case side2=>exact c1.out);(case side3=>exact zC d0 HB);(case side4=>exact d1.out);rintro e H6 ⟨rfl,hb⟩;refine⟨_,rfl,?_⟩;replace a0:=zb a0 hb;replace a1:=zb a1 hb;replace HB:=zE (zs2 HB a2 a5) hb;(try clear hb);(try clear hb2);(try clear hk);(try clear hi);obtain⟨v3,v4,v5,v6,v7⟩:=zd5 a0;obtain⟨v8,v9,w0,w1,w2⟩:=zn5 a0;obtain⟨w3,w4,w5,w6,w7⟩:=zd5 a1;obtain⟨w8,x0,x1,x2,x3⟩:=zn5 a1))
  go_ret;exact⟨ze,zs2 HB a2 a5⟩
 rw[if_pos c8]at H;have E8:(b3==b5)=true:=beq_iff_eq.mpr c8;have E9:(b3 !=b5)=false:=bne_eq_false_iff_eq.mpr c8;clear c8;obtain rfl:=Option.some.inj H
 go_enter Try.func8,Try.ntmps8
 go_wp2_with (first|((with_reducible refine gate_dst (N:=2) rfl ?_);refine zbx 2 #[.int .i64 a8,.int .i64 a9,.slice b6 a6.length b7,.int .i64 b2,.int .i64 b3] 32 ?_;intro d2 hg w9 hbox hb;have a0:=zA hbox;have d3:=zgs hg (zs0 HB);have a2:=zgs hg (zs0 HB);replace HB:=zE (zs0 HB) hb;clear hb hbox hg)|((with_reducible refine gate_dst (N:=3) rfl ?_);refine zbx 3 #[.int .i64 b0,.int .i64 b1,.slice b8 a7.length b9,.int .i64 b4,.int .i64 b5] 32 ?_;intro d4 hg H7 hbox hb;have a1:=zA hbox;have d5:=zgs hg (zs1 HB a2);have a5:=zgs hg (zs1 HB a2);have a3:=zne hg a0;have a4:=znf hg a0;replace a0:=zb a0 hb;replace HB:=zE (zs1 HB a2) hb;clear hb hbox hg;have F8:=a3.out;have F9:=a4.out;obtain⟨x4,x5,x6,x7,x8⟩:=zd5 a0;obtain⟨x9,y0,y1,y2,y3⟩:=zn5 a0;obtain⟨y4,y5,y6,y7,y8⟩:=zd5 a1;obtain⟨y9,z0,z1,z2,z3⟩:=zn5 a1)|((with_reducible refine gate_callee (f:=20) rfl ?_);refine zgl (N:=some 9) Try.func20 #[.agg #[.int .i64 a8,.int .i64 a9],.agg #[.int .i64 b0,.int .i64 b1]] ?_;(with_reducible refine(laws_eqFlyKind.calls a8 a9 b0 b1 true _ A3.out).mono ?_);rintro e H8 ⟨rfl,hb⟩;refine⟨_,rfl,?_⟩;replace a0:=zb a0 hb;replace a1:=zb a1 hb;replace HB:=zE (zs2 HB a2 a5) hb;(try clear hb);(try clear hb2);(try clear hk);(try clear hi);obtain⟨z4,z5,z6,z7,z8⟩:=zd5 a0;obtain⟨z9,A0,A1,A2,A4⟩:=zn5 a0;obtain⟨A6,A7,A8,A9,B0⟩:=zd5 a1;obtain⟨B3,C0,C1,C2,C3⟩:=zn5 a1)|((with_reducible refine gate_callee (f:=21) rfl ?_);refine zgl (N:=some 15) Try.func21 #[.slice b6 a6.length b7,.slice b8 a7.length b9] ?_;(with_reducible refine(laws_eqFlyStepS.calls k _ _ a6 _ _ a7 true _ ?side1 ?side2 ?side3 ?side4 A5.out).mono ?_);(case side1=>exact zC c0 HB);(case side2=>exact c1.out);(case side3=>exact zC d0 HB);(case side4=>exact d1.out);rintro e H9 ⟨rfl,hb⟩;refine⟨_,rfl,?_⟩;replace a0:=zb a0 hb;replace a1:=zb a1 hb;replace HB:=zE (zs2 HB a2 a5) hb;(try clear hb);(try clear hb2);(try clear hk);(try clear hi);obtain⟨C4,C5,C6,C7,C8⟩:=zd5 a0;obtain⟨C9,D0,D1,D2,D3⟩:=zn5 a0;obtain⟨D4,D5,D6,D7,D8⟩:=zd5 a1;obtain⟨D9,E0,E1,E2,E3⟩:=zn5 a1))
 go_ret;exact⟨ze,zs2 HB a2 a5⟩
end Go.Proofs.Ytglgfgeepdmlbaa.QFnExactFlyTurnBy
