/- The walk of what the law FnHandWho reaches: laid by a program of this session (ownprint.py). -/
import Derived.Test.YtmdmfldpohaegaaQFnHandWhox0
import Derived.Test.YtmdmfldpohaegaaQFnHandWhox13
import Derived.Test.YtmdmfldpohaegaaQFnHandWhox14
namespace Go.Proofs.Ytmdmfldpohaegaa.QFnHandWho
open Go.RowKit Go.Proofs.YtmdmfldpohaegaaW.PrintWords Go.Proofs.YtmdmfldpohaegaaW.PrintLast Go.Proofs.YtmdmfldpohaegaaW.PrintMore Go.Proofs.Ytmdmfldpohaegaa.Z
attribute [local go_sem] max2_int min2_int max_two min_two max_three min_three max_four min_four zdn   -- for this text's walks alone
set_option linter.unusedVariables false
set_option linter.unusedSimpArgs false
def impl_handBox.f (a4:Int) (a5:Int) (a0:Int) (a1:Int) (a2:Int) (a3:Int):Option (Bool):=(impl_within.f a4 0 15).bind fun a6=>(if a6=true then((impl_within.f a5 0 15).bind fun a7=>(if a7=true then(if 0≤a0 then(if a0≤a1 then(if a1≤6 then(if 0≤a2 then(if a2≤a3 then(some (decide (a3≤10000)))else(some false))else(some false))else(some false))else(some false))else(some false))else(some false)))else(some false))
set_option maxHeartbeats 8000000 in
set_option maxRecDepth 100000 in
theorem impl_handBox.calls (a1:Int) (a3:Int) (a4:Int) (a5:Int) (a6:Int) (a7:Int) (r:Bool) (w:World) (h:impl_handBox.f a1 a3 a4 a5 a6 a7=some r):
 Calls Try.prog 30 #[.agg #[.int .i64 a1,.int .i64 a3,.int .i64 a4,.int .i64 a5,.int .i64 a6,.int .i64 a7]] w fun e w'=>e= .returned (.bool r)∧Below w.heap.size w w':=by
 have m8:=Try.underlying47;have HB:=zA (Below.refl w.heap.size w);have H:=h;clear h;unfold impl_handBox.f at H;replace H:=zbd H;obtain⟨m2,A2,H⟩:=H
 by_cases c3:m2=true
 rotate_left
 ·replace c3:=Bool.eq_false_iff.mpr c3
  subst c3;rw[if_neg zfn]at H;obtain rfl:=Option.some.inj H
  go_enter Try.func30,Try.ntmps30
  go_wp2_with (first|((with_reducible refine gate_dst (N:=1) rfl ?_);refine zbx 1 #[.int .i64 a1,.int .i64 a3,.int .i64 a4,.int .i64 a5,.int .i64 a6,.int .i64 a7] 47 ?_;intro a8 hg m9 hbox hb;have a0:=zA hbox;have a9:=zgs hg (zs0 HB);have a2:=zgs hg (zs0 HB);replace HB:=zE (zs0 HB) hb;clear hb hbox hg;obtain⟨b1,b2,b3,b4,b5,b6⟩:=zd6 a0;obtain⟨b7,b8,b9,c0,c1,d0⟩:=zn6 a0)|((with_reducible refine gate_callee (f:=27) rfl ?_);refine zgl (N:=some 5) Try.func27 #[.int .i64 a1,.int .i64 0,.int .i64 15] ?_;(with_reducible refine(impl_within.calls a1 0 15 false _ A2.out).mono ?_);rintro e w' ⟨rfl,⟨nd,rfl⟩⟩;refine⟨_,rfl,?_⟩))
  go_ret;exact⟨ze,zs1 HB a2⟩
 subst c3;rw[if_pos rfl]at H;replace H:=zbd H;obtain⟨m3,A4,H⟩:=H
 by_cases c5:m3=true
 rotate_left
 ·replace c5:=Bool.eq_false_iff.mpr c5
  subst c5;rw[if_neg zfn]at H;obtain rfl:=Option.some.inj H
  go_enter Try.func30,Try.ntmps30
  go_wp2_with (first|((with_reducible refine gate_dst (N:=1) rfl ?_);refine zbx 1 #[.int .i64 a1,.int .i64 a3,.int .i64 a4,.int .i64 a5,.int .i64 a6,.int .i64 a7] 47 ?_;intro a8 hg n0 hbox hb;have a0:=zA hbox;have a9:=zgs hg (zs0 HB);have a2:=zgs hg (zs0 HB);replace HB:=zE (zs0 HB) hb;clear hb hbox hg;obtain⟨d1,d2,d3,d4,d5,d6⟩:=zd6 a0;obtain⟨d7,d8,d9,e0,e1,e2⟩:=zn6 a0)|((with_reducible refine gate_callee (f:=27) rfl ?_);refine zgl (N:=some 5) Try.func27 #[.int .i64 a1,.int .i64 0,.int .i64 15] ?_;(with_reducible refine(impl_within.calls a1 0 15 true _ A2.out).mono ?_);rintro e w' ⟨rfl,⟨nd,rfl⟩⟩;refine⟨_,rfl,?_⟩)|(go_at_call 27;(with_reducible refine(impl_within.calls a3 0 15 false _ A4.out).mono ?_);rintro e w' ⟨rfl,⟨nd,rfl⟩⟩))
  go_ret;exact⟨ze,zs1 HB a2⟩
 subst c5;rw[if_pos rfl]at H
 by_cases c6:0≤a4
 rotate_left
 ·rw[if_neg c6]at H
  have m4:decide (0≤a4)=false:=decide_eq_false c6;clear c6;obtain rfl:=Option.some.inj H
  go_enter Try.func30,Try.ntmps30
  go_wp2_with (first|((with_reducible refine gate_dst (N:=1) rfl ?_);refine zbx 1 #[.int .i64 a1,.int .i64 a3,.int .i64 a4,.int .i64 a5,.int .i64 a6,.int .i64 a7] 47 ?_;intro a8 hg n1 hbox hb;have a0:=zA hbox;have a9:=zgs hg (zs0 HB);have a2:=zgs hg (zs0 HB);replace HB:=zE (zs0 HB) hb;clear hb hbox hg;obtain⟨e3,e4,e5,e6,e7,e8⟩:=zd6 a0;obtain⟨e9,f0,f1,f2,f3,f4⟩:=zn6 a0)|((with_reducible refine gate_callee (f:=27) rfl ?_);refine zgl (N:=some 5) Try.func27 #[.int .i64 a1,.int .i64 0,.int .i64 15] ?_;(with_reducible refine(impl_within.calls a1 0 15 true _ A2.out).mono ?_);rintro e w' ⟨rfl,⟨nd,rfl⟩⟩;refine⟨_,rfl,?_⟩)|(go_at_call 27;(with_reducible refine(impl_within.calls a3 0 15 true _ A4.out).mono ?_);rintro e w' ⟨rfl,⟨nd,rfl⟩⟩))
  go_ret;exact⟨ze,zs1 HB a2⟩
 rw[if_pos c6]at H;have m4:decide (0≤a4)=true:=decide_eq_true c6;clear c6
 by_cases c7:a4≤a5
 rotate_left
 ·rw[if_neg c7]at H
  have m5:decide (a4≤a5)=false:=decide_eq_false c7;clear c7;obtain rfl:=Option.some.inj H
  go_enter Try.func30,Try.ntmps30
  go_wp2_with (first|((with_reducible refine gate_dst (N:=1) rfl ?_);refine zbx 1 #[.int .i64 a1,.int .i64 a3,.int .i64 a4,.int .i64 a5,.int .i64 a6,.int .i64 a7] 47 ?_;intro a8 hg n2 hbox hb;have a0:=zA hbox;have a9:=zgs hg (zs0 HB);have a2:=zgs hg (zs0 HB);replace HB:=zE (zs0 HB) hb;clear hb hbox hg;obtain⟨f5,f6,f7,f8,f9,g0⟩:=zd6 a0;obtain⟨g1,g2,g3,g4,g5,g6⟩:=zn6 a0)|((with_reducible refine gate_callee (f:=27) rfl ?_);refine zgl (N:=some 5) Try.func27 #[.int .i64 a1,.int .i64 0,.int .i64 15] ?_;(with_reducible refine(impl_within.calls a1 0 15 true _ A2.out).mono ?_);rintro e w' ⟨rfl,⟨nd,rfl⟩⟩;refine⟨_,rfl,?_⟩)|(go_at_call 27;(with_reducible refine(impl_within.calls a3 0 15 true _ A4.out).mono ?_);rintro e w' ⟨rfl,⟨nd,rfl⟩⟩))
  go_ret;exact⟨ze,zs1 HB a2⟩
 rw[if_pos c7]at H;have m5:decide (a4≤a5)=true:=decide_eq_true c7;clear c7
 by_cases c8:a5≤6
 rotate_left
 ·rw[if_neg c8]at H
  have m6:decide (a5≤6)=false:=decide_eq_false c8;clear c8;obtain rfl:=Option.some.inj H
  go_enter Try.func30,Try.ntmps30
  go_wp2_with (first|((with_reducible refine gate_dst (N:=1) rfl ?_);refine zbx 1 #[.int .i64 a1,.int .i64 a3,.int .i64 a4,.int .i64 a5,.int .i64 a6,.int .i64 a7] 47 ?_;intro a8 hg n3 hbox hb;have a0:=zA hbox;have a9:=zgs hg (zs0 HB);have a2:=zgs hg (zs0 HB);replace HB:=zE (zs0 HB) hb;clear hb hbox hg;obtain⟨g7,g8,g9,h0,h1,h2⟩:=zd6 a0;obtain⟨h3,h4,h5,h6,h7,h8⟩:=zn6 a0)|((with_reducible refine gate_callee (f:=27) rfl ?_);refine zgl (N:=some 5) Try.func27 #[.int .i64 a1,.int .i64 0,.int .i64 15] ?_;(with_reducible refine(impl_within.calls a1 0 15 true _ A2.out).mono ?_);rintro e w' ⟨rfl,⟨nd,rfl⟩⟩;refine⟨_,rfl,?_⟩)|(go_at_call 27;(with_reducible refine(impl_within.calls a3 0 15 true _ A4.out).mono ?_);rintro e w' ⟨rfl,⟨nd,rfl⟩⟩))
  go_ret;exact⟨ze,zs1 HB a2⟩
 rw[if_pos c8]at H;have m6:decide (a5≤6)=true:=decide_eq_true c8;clear c8
 by_cases c9:0≤a6
 rotate_left
 ·rw[if_neg c9]at H
  have m7:decide (0≤a6)=false:=decide_eq_false c9;clear c9;obtain rfl:=Option.some.inj H
  go_enter Try.func30,Try.ntmps30
  go_wp2_with (first|((with_reducible refine gate_dst (N:=1) rfl ?_);refine zbx 1 #[.int .i64 a1,.int .i64 a3,.int .i64 a4,.int .i64 a5,.int .i64 a6,.int .i64 a7] 47 ?_;intro a8 hg n4 hbox hb;have a0:=zA hbox;have a9:=zgs hg (zs0 HB);have a2:=zgs hg (zs0 HB);replace HB:=zE (zs0 HB) hb;clear hb hbox hg;obtain⟨h9,i0,i1,i2,i3,i4⟩:=zd6 a0;obtain⟨i5,i6,i7,i8,i9,j4⟩:=zn6 a0)|((with_reducible refine gate_callee (f:=27) rfl ?_);refine zgl (N:=some 5) Try.func27 #[.int .i64 a1,.int .i64 0,.int .i64 15] ?_;(with_reducible refine(impl_within.calls a1 0 15 true _ A2.out).mono ?_);rintro e w' ⟨rfl,⟨nd,rfl⟩⟩;refine⟨_,rfl,?_⟩)|(go_at_call 27;(with_reducible refine(impl_within.calls a3 0 15 true _ A4.out).mono ?_);rintro e w' ⟨rfl,⟨nd,rfl⟩⟩))
  go_ret;exact⟨ze,zs1 HB a2⟩
 rw[if_pos c9]at H;have m7:decide (0≤a6)=true:=decide_eq_true c9;clear c9
 by_cases c10:a6≤a7
 ·rw[if_pos c10]at H
  have b0:decide (a6≤a7)=true:=decide_eq_true c10;clear c10;obtain rfl:=Option.some.inj H
  go_enter Try.func30,Try.ntmps30
  go_wp2_with (first|((with_reducible refine gate_dst (N:=1) rfl ?_);refine zbx 1 #[.int .i64 a1,.int .i64 a3,.int .i64 a4,.int .i64 a5,.int .i64 a6,.int .i64 a7] 47 ?_;intro a8 hg n5 hbox hb;have a0:=zA hbox;have a9:=zgs hg (zs0 HB);have a2:=zgs hg (zs0 HB);replace HB:=zE (zs0 HB) hb;clear hb hbox hg;obtain⟨j6,j7,j8,j9,k0,k1⟩:=zd6 a0;obtain⟨k2,k3,k4,k5,k6,k7⟩:=zn6 a0)|((with_reducible refine gate_callee (f:=27) rfl ?_);refine zgl (N:=some 5) Try.func27 #[.int .i64 a1,.int .i64 0,.int .i64 15] ?_;(with_reducible refine(impl_within.calls a1 0 15 true _ A2.out).mono ?_);rintro e w' ⟨rfl,⟨nd,rfl⟩⟩;refine⟨_,rfl,?_⟩)|(go_at_call 27;(with_reducible refine(impl_within.calls a3 0 15 true _ A4.out).mono ?_);rintro e w' ⟨rfl,⟨nd,rfl⟩⟩))
  go_ret;exact⟨ze,zs1 HB a2⟩
 rw[if_neg c10]at H;have b0:decide (a6≤a7)=false:=decide_eq_false c10;clear c10;obtain rfl:=Option.some.inj H
 go_enter Try.func30,Try.ntmps30
 go_wp2_with (first|((with_reducible refine gate_dst (N:=1) rfl ?_);refine zbx 1 #[.int .i64 a1,.int .i64 a3,.int .i64 a4,.int .i64 a5,.int .i64 a6,.int .i64 a7] 47 ?_;intro a8 hg n6 hbox hb;have a0:=zA hbox;have a9:=zgs hg (zs0 HB);have a2:=zgs hg (zs0 HB);replace HB:=zE (zs0 HB) hb;clear hb hbox hg;obtain⟨k8,k9,l2,l3,l4,l5⟩:=zd6 a0;obtain⟨l6,l7,l8,l9,m0,m1⟩:=zn6 a0)|((with_reducible refine gate_callee (f:=27) rfl ?_);refine zgl (N:=some 5) Try.func27 #[.int .i64 a1,.int .i64 0,.int .i64 15] ?_;(with_reducible refine(impl_within.calls a1 0 15 true _ A2.out).mono ?_);rintro e w' ⟨rfl,⟨nd,rfl⟩⟩;refine⟨_,rfl,?_⟩)|(go_at_call 27;(with_reducible refine(impl_within.calls a3 0 15 true _ A4.out).mono ?_);rintro e w' ⟨rfl,⟨nd,rfl⟩⟩))
 go_ret;exact⟨ze,zs1 HB a2⟩
def impl_HandZone_over.f (a8:ByteArray) (a0:Int) (a3:Int) (a4:Int) (a5:Int) (a1:Int) (a2:Int):Option (Bool):=(impl_within.f a1 a0 a4).bind fun a6=>(if a6=true then((impl_within.f a2 a3 a5).bind fun a7=>(some a7))else(some false))
set_option maxHeartbeats 8000000 in
set_option maxRecDepth 100000 in
theorem impl_HandZone_over.calls (a8:ByteArray) (a0:Int) (a5:Int) (a3:Int) (a6:Int) (a1:Int) (a2:Int) (r:Bool) (w:World) (h:impl_HandZone_over.f a8 a0 a5 a3 a6 a1 a2=some r):
 Calls Try.prog 41 #[.agg #[.string a8,.int .i64 a0,.int .i64 a5,.int .i64 a3,.int .i64 a6],.int .i64 a1,.int .i64 a2] w fun e w'=>e= .returned (.bool r)∧Below w.heap.size w w':=by
 have e1:=Try.underlying34;have HB:=zA (Below.refl w.heap.size w);have H:=h;clear h;unfold impl_HandZone_over.f at H;replace H:=zbd H;obtain⟨c1,A4,H⟩:=H
 by_cases c5:c1=true
 rotate_left
 ·replace c5:=Bool.eq_false_iff.mpr c5
  subst c5;rw[if_neg zfn]at H;obtain rfl:=Option.some.inj H
  go_enter Try.func41,Try.ntmps41
  go_wp2_with (first|((with_reducible refine gate_dst (N:=3) rfl ?_);refine zbx 3 #[.string a8,.int .i64 a0,.int .i64 a5,.int .i64 a3,.int .i64 a6] 34 ?_;intro a9 hg w9 hbox hb;have a4:=zA hbox;have b0:=zgs hg (zs0 HB);have a7:=zgs hg (zs0 HB);replace HB:=zE (zs0 HB) hb;clear hb hbox hg;obtain⟨b1,b2,b3,b4,b5⟩:=zd5 a4;obtain⟨b6,b7,b8,b9,c0⟩:=zn5 a4)|((with_reducible refine gate_callee (f:=27) rfl ?_);refine zgl (N:=some 12) Try.func27 #[.int .i64 a1,.int .i64 a0,.int .i64 a3] ?_;(with_reducible refine(impl_within.calls a1 a0 a3 false _ A4.out).mono ?_);rintro e w' ⟨rfl,⟨nd,rfl⟩⟩;refine⟨_,rfl,?_⟩))
  go_ret;exact⟨ze,zs1 HB a7⟩
 subst c5;rw[if_pos rfl]at H;replace H:=zbd H;obtain⟨d0,A6,H⟩:=H;obtain rfl:=Option.some.inj H
 go_enter Try.func41,Try.ntmps41
 go_wp2_with (first|((with_reducible refine gate_dst (N:=3) rfl ?_);refine zbx 3 #[.string a8,.int .i64 a0,.int .i64 a5,.int .i64 a3,.int .i64 a6] 34 ?_;intro a9 hg w7 hbox hb;have a4:=zA hbox;have b0:=zgs hg (zs0 HB);have a7:=zgs hg (zs0 HB);replace HB:=zE (zs0 HB) hb;clear hb hbox hg;obtain⟨d1,d2,d3,d4,d5⟩:=zd5 a4;obtain⟨d6,d7,d8,d9,e0⟩:=zn5 a4)|((with_reducible refine gate_callee (f:=27) rfl ?_);refine zgl (N:=some 12) Try.func27 #[.int .i64 a1,.int .i64 a0,.int .i64 a3] ?_;(with_reducible refine(impl_within.calls a1 a0 a3 true _ A4.out).mono ?_);rintro e w' ⟨rfl,⟨nd,rfl⟩⟩;refine⟨_,rfl,?_⟩)|(go_at_call 27;(with_reducible refine(impl_within.calls a2 a5 a6 d0 _ A6.out).mono ?_);rintro e w' ⟨rfl,⟨nd,rfl⟩⟩))
 go_ret;exact⟨ze,zs1 HB a7⟩
set_option maxHeartbeats 8000000 in
set_option maxRecDepth 100000 in
/-- The function value: is the zone over the box whose place it holds? -/
theorem tubeOk_1.calls (z0:ByteArray) (z1 z2 z3 z4:Int) (a0 a1 a2 a3 a4 a5:Int) (gb:Nat) (r:Bool) (w:World) (hbk:w.heap[gb]?=some (.cells #[.int .i64 a0,.int .i64 a1,.int .i64 a2,.int .i64 a3,.int .i64 a4,.int .i64 a5] 47 (0,0))) (h:impl_HandZone_over.f z0 z1 z2 z3 z4 a0 a1=some r):
 Calls Try.prog 40 #[.agg #[.string z0,.int .i64 z1,.int .i64 z2,.int .i64 z3,.int .i64 z4],.pointer (some ⟨gb,0,none⟩)] w fun e w'=>e= .returned (.bool r)∧Below w.heap.size w w':=by
 have b7:=Try.underlying34;have b8:=Try.underlying47;have BKb:=zA hbk;have A6:=zA h;clear hbk h;have HB:=zA (Below.refl w.heap.size w)
 go_enter Try.func40,Try.ntmps40
 go_wp2_with (first|((with_reducible refine gate_dst (N:=2) rfl ?_);refine zbx 2 #[.string z0,.int .i64 z1,.int .i64 z2,.int .i64 z3,.int .i64 z4] 34 ?_;intro gbz hg w1 hbox hb;have BKz:=zA hbox;have GEz:=zgs hg (zs0 HB);replace BKb:=zb BKb hb;replace HB:=zE (zs0 HB) hb;clear hb hbox hg;obtain⟨a6,a7,a8,a9,b0⟩:=zd5 BKz;obtain⟨b1,b2,b3,b4,b5,b6⟩:=zd6 BKb)|((with_reducible refine gate_callee (f:=41) rfl ?_);refine zgl (N:=some 9) Try.func41 #[.agg #[.string z0,.int .i64 z1,.int .i64 z2,.int .i64 z3,.int .i64 z4],.int .i64 a0,.int .i64 a1] ?_;(with_reducible refine(impl_HandZone_over.calls z0 z1 z2 z3 z4 a0 a1 r _ A6.out).mono ?_);rintro e w2 ⟨rfl,hb⟩;refine⟨_,rfl,?_⟩;replace HB:=zE (zs1 HB GEz) hb;clear hb))
 go_ret;exact⟨ze,zs1 HB GEz⟩
def impl_HandZone_42.l0:Nat→List (S34)→Int→Int→Int→Int→Option (Int)
 |0,_,_,_,_,_=>none
 |k+1,x0,x1,x2,x7,x8=>if x8<x7 then(if 0≤x8 then(if x8<(x0.length:Int)then((impl_HandZone_over.f ((rd_T34 x0 x8).f0) ((rd_T34 x0 x8).f1) ((rd_T34 x0 x8).f2) ((rd_T34 x0 x8).f3) ((rd_T34 x0 x8).f4) x1 x2).bind fun a0=>(if a0=true then(some x8)else(impl_HandZone_42.l0 k x0 x1 x2 x7 (wrap64 (x8+1)))))else(none))else(none))else(some (-1))
def impl_HandZone_42.f (k:Nat) (l0:List (S34)) (a0 a1:Int):Option (Int):=impl_HandZone_42.l0 k l0 a0 a1 (l0.length:Int) 0
set_option maxHeartbeats 8000000 in
set_option maxRecDepth 100000 in
theorem impl_HandZone_42.calls (k:Nat) (A0:Option Addr) (c0:Nat) (l0:List (S34)) (a8 a9 b0 b1 b2 b3:Int) (gb:Nat) (r:Int) (w:World) (hr0:Kd.C k34 w A0 l0.length l0) (hc0:l0.length≤c0) (hbk:w.heap[gb]?=some (.cells #[.int .i64 a8,.int .i64 a9,.int .i64 b0,.int .i64 b1,.int .i64 b2,.int .i64 b3] 47 (0,0))) (h:impl_HandZone_42.f k l0 a8 a9=some r):
 Calls Try.prog 42 #[.slice A0 l0.length c0,.func (.func 40) #[] #[.pointer (some ⟨gb,0,none⟩)]] w fun e w'=>e= .returned (.int .i64 r)∧Below w.heap.size w w':=by
 have c1:=Try.underlying34;have b8:=zA hr0;have d2:=zA hc0;have HBK:=zA hbk;clear hr0 hc0 hbk;have HB:=zA (Below.refl w.heap.size w);have H:=h;clear h;unfold impl_HandZone_42.f at H;have H':=zA H;clear H
 go_enter Try.func42,Try.ntmps42
 go_wp2
 go_loopg [8] k (fun kq v8 w'=> ∃(a0:Int),v8= .int .i64 a0∧Aside0 (impl_HandZone_42.l0 kq l0 a8 a9 (l0.length:Int) a0=some r)∧Aside0 (kq≤k)∧Aside0 (Below w.heap.size w w'))
 case atStart=>exact⟨(0),zi,H',⟨Nat.le_refl _⟩,⟨zs0 HB⟩⟩
 case round=>
  clear H'
  try clear p2
  obtain⟨a0,rfl,HA,b9,HB⟩:=hrel
  cases gk with
  |zero=>exact absurd HA.out (by simp[impl_HandZone_42.l0])
  |succ k1=>
   have H:=HA.out;clear HA;simp only[impl_HandZone_42.l0]at H
   by_cases c3:a0<(l0.length:Int)
   rotate_left
   ·rw[if_neg c3]at H
    have b6:decide (a0<(l0.length:Int))=false:=decide_eq_false c3;clear c3;obtain rfl:=Option.some.inj H
    go_wp2
    go_ret;exact⟨ze,zs0 HB⟩
   rw[if_pos c3]at H;have b6:decide (a0<(l0.length:Int))=true:=decide_eq_true c3;clear c3;replace H:=zif H;obtain⟨d0,H⟩:=H
   by_cases c5:a0<(l0.length:Int)
   rotate_left
   ·rw[if_neg c5]at H
    exact absurd H (by simp)
   rw[if_pos c5]at H;have d1:decide (a0<(l0.length:Int))=true:=decide_eq_true c5;clear c5;replace H:=zbd H;obtain⟨b7,A6,H⟩:=H
   by_cases c7:b7=true
   ·subst c7
    rw[if_pos rfl]at H;obtain rfl:=Option.some.inj H;have a6:0≤(a0:Int):=za;have a7:a0<(l0.length:Int):=za;obtain⟨b5,b4,a1,a2,a3,a4,a5⟩:=at_T34 b8.out a0 a6 a7;cases b4;replace a1:=zx HB a1;replace a2:=zx HB a2;replace a3:=zx HB a3;replace a4:=zx HB a4;replace a5:=zx HB a5;replace a6:=eq_true a6;replace a7:=eq_true a7
    go_wp2_with (first|(go_at_call 40;(refine(tubeOk_1.calls ((rd_T34 l0 a0).f0) ((rd_T34 l0 a0).f1) ((rd_T34 l0 a0).f2) ((rd_T34 l0 a0).f3) ((rd_T34 l0 a0).f4) a8 a9 b0 b1 b2 b3 gb true _ (zb HBK HB.out).out A6.out).mono ?_);rintro e w8 ⟨rfl,hb⟩;replace HB:=zE (zs0 HB) hb;(try clear hb);(try clear hb2);(try clear hk);(try clear hi)))
    go_ret;exact⟨ze,zs0 HB⟩
   replace c7:=Bool.eq_false_iff.mpr c7;subst c7;rw[if_neg zfn]at H;have H':=zA H;clear H;have a6:0≤(a0:Int):=za;have a7:a0<(l0.length:Int):=za;obtain⟨b5,b4,a1,a2,a3,a4,a5⟩:=at_T34 b8.out a0 a6 a7;cases b4;replace a1:=zx HB a1;replace a2:=zx HB a2;replace a3:=zx HB a3;replace a4:=zx HB a4;replace a5:=zx HB a5;replace a6:=eq_true a6;replace a7:=eq_true a7
   go_wp2_with (first|(go_at_call 40;(refine(tubeOk_1.calls ((rd_T34 l0 a0).f0) ((rd_T34 l0 a0).f1) ((rd_T34 l0 a0).f2) ((rd_T34 l0 a0).f3) ((rd_T34 l0 a0).f4) a8 a9 b0 b1 b2 b3 gb false _ (zb HBK HB.out).out A6.out).mono ?_);rintro e w9 ⟨rfl,hb⟩;replace HB:=zE (zs0 HB) hb;(try clear hb);(try clear hb2);(try clear hk);(try clear hi)))
   go_roundg k1
   case measure=>have:=b9.out;omega
   case rel=>exact⟨(wrap64 (a0+1)),zi,H',⟨by have:=b9.out;omega⟩,⟨zs0 HB⟩⟩
def impl_HandZone_39.f (k:Nat) (l0:List (S34)) (a0 a1:Int):Option (Bool):=(impl_HandZone_42.f k l0 a0 a1).bind fun a2=>(some (decide (a2≥0)))
set_option maxHeartbeats 8000000 in
set_option maxRecDepth 100000 in
theorem impl_HandZone_39.calls (k:Nat) (A0:Option Addr) (c0:Nat) (l0:List (S34)) (a0 a1 a2 a3 a4 a5:Int) (gb:Nat) (r:Bool) (w:World) (hr0:Kd.C k34 w A0 l0.length l0) (hc0:l0.length≤c0) (hbk:w.heap[gb]?=some (.cells #[.int .i64 a0,.int .i64 a1,.int .i64 a2,.int .i64 a3,.int .i64 a4,.int .i64 a5] 47 (0,0))) (h:impl_HandZone_39.f k l0 a0 a1=some r):
 Calls Try.prog 39 #[.slice A0 l0.length c0,.func (.func 40) #[] #[.pointer (some ⟨gb,0,none⟩)]] w fun e w'=>e= .returned (.bool r)∧Below w.heap.size w w':=by
 have a7:=zA hr0;have a8:=zA hc0;have HBK:=zA hbk;clear hr0 hc0 hbk;have HB:=zA (Below.refl w.heap.size w);have H:=h;clear h;unfold impl_HandZone_39.f at H;replace H:=zbd H;obtain⟨a6,A3,H⟩:=H;obtain rfl:=Option.some.inj H
 go_enter Try.func39,Try.ntmps39
 go_wp2_with (first|((with_reducible refine gate_callee (f:=42) rfl ?_);refine zgl (N:=some 7) Try.func42 #[.slice A0 l0.length c0,.func (.func 40) #[] #[.pointer (some ⟨gb,0,none⟩)]] ?_;(with_reducible refine(impl_HandZone_42.calls k _ _ l0 a0 a1 a2 a3 a4 a5 gb a6 _ ?side1 ?side2 HBK.out A3.out).mono ?_);(case side1=>repeat(first|exact a7.out|(with_reducible refine Kd.C_alloc ?_ _)|(with_reducible refine Kd.C_drewN ?_ _)|(with_reducible refine Kd.C_drew ?_)));(case side2=>exact a8.out);rintro e w4 ⟨rfl,hb⟩;refine⟨_,rfl,?_⟩;replace HB:=zE (zs0 HB) hb;(try clear hb);(try clear hb2);(try clear hk);(try clear hi)))
 go_ret;exact⟨ze,zs0 HB⟩
def impl_tubeOk.l0:Nat→List (S34)→List (S47)→Int→Int→Option (Bool)
 |0,_,_,_,_=>none
 |k+1,x0,x11,x12,x13=>if x13<x12 then(if 0≤x13 then(if x13<(x11.length:Int)then((impl_handBox.f ((rd_T47 x11 x13).f0) ((rd_T47 x11 x13).f1) ((rd_T47 x11 x13).f2) ((rd_T47 x11 x13).f3) ((rd_T47 x11 x13).f4) ((rd_T47 x11 x13).f5)).bind fun a0=>(if a0=true then((impl_HandZone_39.f k x0 ((rd_T47 x11 x13).f0) ((rd_T47 x11 x13).f1)).bind fun a1=>(if a1=true then(impl_tubeOk.l0 k x0 x11 x12 (wrap64 (x13+1)))else(some false)))else(some false)))else(none))else(none))else(some true)
def impl_tubeOk.f (k:Nat) (l0:List (S34)) (l1:List (S47)):Option (Bool):=(impl_within.f (l1.length:Int) 1 20).bind fun a0=>(if a0=true then(impl_tubeOk.l0 k l0 l1 (l1.length:Int) 0)else(some false))
set_option maxHeartbeats 8000000 in
set_option maxRecDepth 100000 in
theorem impl_tubeOk.calls (k:Nat) (A0:Option Addr) (c0:Nat) (l0:List (S34)) (A1:Option Addr) (c1:Nat) (l1:List (S47)) (r:Bool) (w:World) (hr0:Kd.C k34 w A0 l0.length l0) (hc0:l0.length≤c0) (hr1:Kd.C k47 w A1 l1.length l1) (hc1:l1.length≤c1) (h:impl_tubeOk.f k l0 l1=some r):
 Calls Try.prog 23 #[.slice A0 l0.length c0,.slice A1 l1.length c1] w fun e w'=>e= .returned (.bool r)∧Below w.heap.size w w':=by
 have hmf: ∀(fn:Fn) (first cap:Array Value) (w:World),(Instr.makeFunc fn first cap).run Try.prog w= .ok (.func fn first cap) w:=fun _ _ _ _=>rfl
 have h7:=Try.underlying47;have h3:=zA hr0;have h4:=zA hc0;clear hr0 hc0;have g8:=zA hr1;have i1:=zA hc1;clear hr1 hc1;have HB:=zA (Below.refl w.heap.size w);have H:=h;clear h;unfold impl_tubeOk.f at H;replace H:=zbd H;obtain⟨g9,A3,H⟩:=H
 by_cases c4:g9=true
 rotate_left
 ·replace c4:=Bool.eq_false_iff.mpr c4
  subst c4;rw[if_neg zfn]at H;obtain rfl:=Option.some.inj H
  go_enter Try.func23,Try.ntmps23
  go_wp2_with (first|((with_reducible refine gate_callee (f:=27) rfl ?_);refine zgl (N:=some 9) Try.func27 #[.int .i64 (l1.length:Int),.int .i64 1,.int .i64 20] ?_;(with_reducible refine(impl_within.calls (l1.length:Int) 1 20 false _ A3.out).mono ?_);rintro e w' ⟨rfl,⟨nd,rfl⟩⟩;refine⟨_,rfl,?_⟩))
  go_ret;exact⟨ze,zs0 HB⟩
 subst c4;rw[if_pos rfl]at H;have H':=zA H;clear H
 go_enter Try.func23,Try.ntmps23
 go_wp2_with (first|((with_reducible refine gate_callee (f:=27) rfl ?_);refine zgl (N:=some 9) Try.func27 #[.int .i64 (l1.length:Int),.int .i64 1,.int .i64 20] ?_;(with_reducible refine(impl_within.calls (l1.length:Int) 1 20 true _ A3.out).mono ?_);rintro e w' ⟨rfl,⟨nd,rfl⟩⟩;refine⟨_,rfl,?_⟩))
 go_loopg [13] k (fun kq h8 w'=> ∃(a0:Int),h8= .int .i64 a0∧Aside0 (impl_tubeOk.l0 kq l0 l1 (l1.length:Int) a0=some r)∧Aside0 (kq≤k)∧Aside0 (Below w.heap.size w w'))
 case atStart=>exact⟨(0),zi,H',⟨Nat.le_refl _⟩,⟨zs0 HB⟩⟩
 case round=>
  clear H'
  try clear c1
  try clear c2
  try clear p2
  try clear c4
  obtain⟨a0,rfl,HA,h5,HB⟩:=hrel
  cases gk with
  |zero=>exact absurd HA.out (by simp[impl_tubeOk.l0])
  |succ k1=>
   have H:=HA.out;clear HA;simp only[impl_tubeOk.l0]at H
   by_cases c5:a0<(l1.length:Int)
   rotate_left
   ·rw[if_neg c5]at H
    have h0:decide (a0<(l1.length:Int))=false:=decide_eq_false c5;clear c5;obtain rfl:=Option.some.inj H
    go_wp2
    go_ret;exact⟨ze,zs0 HB⟩
   rw[if_pos c5]at H;have h0:decide (a0<(l1.length:Int))=true:=decide_eq_true c5;clear c5;replace H:=zif H;obtain⟨h9,H⟩:=H
   by_cases c7:a0<(l1.length:Int)
   rotate_left
   ·rw[if_neg c7]at H
    exact absurd H (by simp)
   rw[if_pos c7]at H;have i0:decide (a0<(l1.length:Int))=true:=decide_eq_true c7;clear c7;replace H:=zbd H;obtain⟨h1,A8,H⟩:=H
   by_cases c9:h1=true
   rotate_left
   ·replace c9:=Bool.eq_false_iff.mpr c9
    subst c9;rw[if_neg zfn]at H;obtain rfl:=Option.some.inj H;have a9:0≤(a0:Int):=za;have b0:a0<(l1.length:Int):=za;obtain⟨b3,b2,a2,a3,a4,a5,a6,a7⟩:=at_T47 g8.out a0 a9 b0;cases b2;replace a2:=zx HB a2;replace a3:=zx HB a3;replace a4:=zx HB a4;replace a5:=zx HB a5;replace a6:=zx HB a6;replace a7:=zx HB a7;replace a9:=eq_true a9;replace b0:=eq_true b0
    go_wp2_with (first|((with_reducible refine gate_dst (N:=6) rfl ?_);refine zbx 6 #[.int .i64 0,.int .i64 0,.int .i64 0,.int .i64 0,.int .i64 0,.int .i64 0] 47 ?_;intro b1 hg i2 hbox hb;have a1:=zA hbox;have b4:=zgs hg (zs0 HB);have a8:=zgs hg (zs0 HB);replace HB:=zE (zs0 HB) hb;clear hb hbox hg;obtain⟨b5,b6,b7,b8,b9,d0⟩:=zd6 a1;obtain⟨d1,d2,d3,d4,d5,d6⟩:=zn6 a1)|((with_reducible refine gate_callee (f:=30) rfl ?_);refine zgl (N:=some 18) Try.func30 #[.agg #[.int .i64 ((rd_T47 l1 a0).f0),.int .i64 ((rd_T47 l1 a0).f1),.int .i64 ((rd_T47 l1 a0).f2),.int .i64 ((rd_T47 l1 a0).f3),.int .i64 ((rd_T47 l1 a0).f4),.int .i64 ((rd_T47 l1 a0).f5)]] ?_;(with_reducible refine(impl_handBox.calls ((rd_T47 l1 a0).f0) ((rd_T47 l1 a0).f1) ((rd_T47 l1 a0).f2) ((rd_T47 l1 a0).f3) ((rd_T47 l1 a0).f4) ((rd_T47 l1 a0).f5) false _ A8.out).mono ?_);rintro e i3 ⟨rfl,hb⟩;refine⟨_,rfl,?_⟩;replace a1:=zA (blk_below (g:=b1) (o:= .cells #[.int .i64 ((rd_T47 l1 a0).f0),.int .i64 ((rd_T47 l1 a0).f1),.int .i64 ((rd_T47 l1 a0).f2),.int .i64 ((rd_T47 l1 a0).f3),.int .i64 ((rd_T47 l1 a0).f4),.int .i64 ((rd_T47 l1 a0).f5)] 47 (0,0)) (zpb a1) hb);replace HB:=zE (zs1 HB a8) hb;(try clear hb);(try clear hb2);(try clear hk);(try clear hi)))
    go_ret;exact⟨ze,zs1 HB a8⟩
   subst c9;rw[if_pos rfl]at H;replace H:=zbd H;obtain⟨h2,h6,H⟩:=H
   by_cases d7:h2=true
   rotate_left
   ·replace d7:=Bool.eq_false_iff.mpr d7
    subst d7;rw[if_neg zfn]at H;obtain rfl:=Option.some.inj H;have a9:0≤(a0:Int):=za;have b0:a0<(l1.length:Int):=za;obtain⟨b3,b2,a2,a3,a4,a5,a6,a7⟩:=at_T47 g8.out a0 a9 b0;cases b2;replace a2:=zx HB a2;replace a3:=zx HB a3;replace a4:=zx HB a4;replace a5:=zx HB a5;replace a6:=zx HB a6;replace a7:=zx HB a7;replace a9:=eq_true a9;replace b0:=eq_true b0
    go_wp2_with (first|((with_reducible refine gate_dst (N:=6) rfl ?_);refine zbx 6 #[.int .i64 0,.int .i64 0,.int .i64 0,.int .i64 0,.int .i64 0,.int .i64 0] 47 ?_;intro b1 hg i4 hbox hb;have a1:=zA hbox;have b4:=zgs hg (zs0 HB);have a8:=zgs hg (zs0 HB);replace HB:=zE (zs0 HB) hb;clear hb hbox hg;obtain⟨d8,d9,e0,e1,e2,e3⟩:=zd6 a1;obtain⟨e4,e5,e6,e7,e8,e9⟩:=zn6 a1)|((with_reducible refine gate_callee (f:=30) rfl ?_);refine zgl (N:=some 18) Try.func30 #[.agg #[.int .i64 ((rd_T47 l1 a0).f0),.int .i64 ((rd_T47 l1 a0).f1),.int .i64 ((rd_T47 l1 a0).f2),.int .i64 ((rd_T47 l1 a0).f3),.int .i64 ((rd_T47 l1 a0).f4),.int .i64 ((rd_T47 l1 a0).f5)]] ?_;(with_reducible refine(impl_handBox.calls ((rd_T47 l1 a0).f0) ((rd_T47 l1 a0).f1) ((rd_T47 l1 a0).f2) ((rd_T47 l1 a0).f3) ((rd_T47 l1 a0).f4) ((rd_T47 l1 a0).f5) true _ A8.out).mono ?_);rintro e i5 ⟨rfl,hb⟩;refine⟨_,rfl,?_⟩;replace a1:=zA (blk_below (g:=b1) (o:= .cells #[.int .i64 ((rd_T47 l1 a0).f0),.int .i64 ((rd_T47 l1 a0).f1),.int .i64 ((rd_T47 l1 a0).f2),.int .i64 ((rd_T47 l1 a0).f3),.int .i64 ((rd_T47 l1 a0).f4),.int .i64 ((rd_T47 l1 a0).f5)] 47 (0,0)) (zpb a1) hb);replace HB:=zE (zs1 HB a8) hb;(try clear hb);(try clear hb2);(try clear hk);(try clear hi))|(go_at_call 39;(with_reducible refine(impl_HandZone_39.calls k1 _ _ l0 _ _ _ _ _ _ b1 false _ ?side1 ?side2 a1.out h6.out).mono ?_);(case side1=>exact zC h3 HB);(case side2=>exact h4.out);rintro e i6 ⟨rfl,hb⟩;replace a1:=zb a1 hb;replace HB:=zE (zs1 HB a8) hb;(try clear hb);(try clear hb2);(try clear hk);(try clear hi)))
    go_ret;exact⟨ze,zs1 HB a8⟩
   subst d7;rw[if_pos rfl]at H;have H':=zA H;clear H;have a9:0≤(a0:Int):=za;have b0:a0<(l1.length:Int):=za;obtain⟨b3,b2,a2,a3,a4,a5,a6,a7⟩:=at_T47 g8.out a0 a9 b0;cases b2;replace a2:=zx HB a2;replace a3:=zx HB a3;replace a4:=zx HB a4;replace a5:=zx HB a5;replace a6:=zx HB a6;replace a7:=zx HB a7;replace a9:=eq_true a9;replace b0:=eq_true b0
   go_wp2_with (first|((with_reducible refine gate_dst (N:=6) rfl ?_);refine zbx 6 #[.int .i64 0,.int .i64 0,.int .i64 0,.int .i64 0,.int .i64 0,.int .i64 0] 47 ?_;intro b1 hg i7 hbox hb;have a1:=zA hbox;have b4:=zgs hg (zs0 HB);have a8:=zgs hg (zs0 HB);replace HB:=zE (zs0 HB) hb;clear hb hbox hg;obtain⟨f6,f7,f8,f9,g0,g1⟩:=zd6 a1;obtain⟨g2,g3,g4,g5,g6,g7⟩:=zn6 a1)|((with_reducible refine gate_callee (f:=30) rfl ?_);refine zgl (N:=some 18) Try.func30 #[.agg #[.int .i64 ((rd_T47 l1 a0).f0),.int .i64 ((rd_T47 l1 a0).f1),.int .i64 ((rd_T47 l1 a0).f2),.int .i64 ((rd_T47 l1 a0).f3),.int .i64 ((rd_T47 l1 a0).f4),.int .i64 ((rd_T47 l1 a0).f5)]] ?_;(with_reducible refine(impl_handBox.calls ((rd_T47 l1 a0).f0) ((rd_T47 l1 a0).f1) ((rd_T47 l1 a0).f2) ((rd_T47 l1 a0).f3) ((rd_T47 l1 a0).f4) ((rd_T47 l1 a0).f5) true _ A8.out).mono ?_);rintro e i8 ⟨rfl,hb⟩;refine⟨_,rfl,?_⟩;replace a1:=zA (blk_below (g:=b1) (o:= .cells #[.int .i64 ((rd_T47 l1 a0).f0),.int .i64 ((rd_T47 l1 a0).f1),.int .i64 ((rd_T47 l1 a0).f2),.int .i64 ((rd_T47 l1 a0).f3),.int .i64 ((rd_T47 l1 a0).f4),.int .i64 ((rd_T47 l1 a0).f5)] 47 (0,0)) (zpb a1) hb);replace HB:=zE (zs1 HB a8) hb;(try clear hb);(try clear hb2);(try clear hk);(try clear hi))|(go_at_call 39;(with_reducible refine(impl_HandZone_39.calls k1 _ _ l0 _ _ _ _ _ _ b1 true _ ?side1 ?side2 a1.out h6.out).mono ?_);(case side1=>exact zC h3 HB);(case side2=>exact h4.out);rintro e i9 ⟨rfl,hb⟩;replace a1:=zb a1 hb;replace HB:=zE (zs1 HB a8) hb;(try clear hb);(try clear hb2);(try clear hk);(try clear hi)))
   go_roundg k1
   case measure=>have:=h5.out;omega
   case rel=>exact⟨(wrap64 (a0+1)),zi,H',⟨by have:=h5.out;omega⟩,⟨zs1 HB a8⟩⟩
def impl_HandTubeOk.f (k:Nat) (l0:List (S34)) (l1:List (S47)):Option (Bool):=(impl_HandZonesOk.f k l0).bind fun a0=>(if a0=true then((impl_tubeOk.f k l0 l1).bind fun a1=>(some a1))else(some false))
set_option maxHeartbeats 8000000 in
set_option maxRecDepth 100000 in
theorem impl_HandTubeOk.calls (k:Nat) (A0:Option Addr) (c0:Nat) (l0:List (S34)) (A1:Option Addr) (c1:Nat) (l1:List (S47)) (r:Bool) (w:World) (hr0:Kd.C k34 w A0 l0.length l0) (hc0:l0.length≤c0) (hr1:Kd.C k47 w A1 l1.length l1) (hc1:l1.length≤c1) (h:impl_HandTubeOk.f k l0 l1=some r):
 Calls Try.prog 5 #[.slice A0 l0.length c0,.slice A1 l1.length c1] w fun e w'=>e= .returned (.bool r)∧Below w.heap.size w w':=by
 have a0:=zA hr0;have a1:=zA hc0;clear hr0 hc0;have a4:=zA hr1;have a5:=zA hc1;clear hr1 hc1;have HB:=zA (Below.refl w.heap.size w);have H:=h;clear h;unfold impl_HandTubeOk.f at H;replace H:=zbd H;obtain⟨a2,A3,H⟩:=H
 by_cases c4:a2=true
 rotate_left
 ·replace c4:=Bool.eq_false_iff.mpr c4
  subst c4;rw[if_neg zfn]at H;obtain rfl:=Option.some.inj H
  go_enter Try.func5,Try.ntmps5
  go_wp2_with (first|((with_reducible refine gate_callee (f:=7) rfl ?_);refine zgl (N:=some 6) Try.func7 #[.slice A0 l0.length c0] ?_;(with_reducible refine(impl_HandZonesOk.calls k _ _ l0 false _ ?side1 ?side2 A3.out).mono ?_);(case side1=>repeat(first|exact a0.out|(with_reducible refine Kd.C_alloc ?_ _)|(with_reducible refine Kd.C_drewN ?_ _)|(with_reducible refine Kd.C_drew ?_)));(case side2=>exact a1.out);rintro e w8 ⟨rfl,hb⟩;refine⟨_,rfl,?_⟩;replace HB:=zE (zs0 HB) hb;(try clear hb);(try clear hb2);(try clear hk);(try clear hi)))
  go_ret;exact⟨ze,zs0 HB⟩
 subst c4;rw[if_pos rfl]at H;replace H:=zbd H;obtain⟨a3,A5,H⟩:=H;obtain rfl:=Option.some.inj H
 go_enter Try.func5,Try.ntmps5
 go_wp2_with (first|((with_reducible refine gate_callee (f:=7) rfl ?_);refine zgl (N:=some 6) Try.func7 #[.slice A0 l0.length c0] ?_;(with_reducible refine(impl_HandZonesOk.calls k _ _ l0 true _ ?side1 ?side2 A3.out).mono ?_);(case side1=>repeat(first|exact a0.out|(with_reducible refine Kd.C_alloc ?_ _)|(with_reducible refine Kd.C_drewN ?_ _)|(with_reducible refine Kd.C_drew ?_)));(case side2=>exact a1.out);rintro e w6 ⟨rfl,hb⟩;refine⟨_,rfl,?_⟩;replace HB:=zE (zs0 HB) hb;(try clear hb);(try clear hb2);(try clear hk);(try clear hi))|(go_at_call 23;(with_reducible refine(impl_tubeOk.calls k _ _ l0 _ _ l1 a3 _ ?side1 ?side2 ?side3 ?side4 A5.out).mono ?_);(case side1=>exact zC a0 HB);(case side2=>exact a1.out);(case side3=>exact zC a4 HB);(case side4=>exact a5.out);rintro e w7 ⟨rfl,hb⟩;replace HB:=zE (zs0 HB) hb;(try clear hb);(try clear hb2);(try clear hk);(try clear hi)))
 go_ret;exact⟨ze,zs0 HB⟩
def impl_dist.f (a0:Int) (a1:Int):Option (Int):=if a0>a1 then(some (wrap64 (a0-a1)))else(some (wrap64 (a1-a0)))
set_option maxHeartbeats 8000000 in
set_option maxRecDepth 100000 in
theorem impl_dist.calls (a0:Int) (a1:Int) (r:Int) (w:World) (h:impl_dist.f a0 a1=some r):
 Calls Try.prog 31 #[.int .i64 a0,.int .i64 a1] w fun e w'=>e= .returned (.int .i64 r)∧Drawn0 w w':=by
 have H:=h;clear h;unfold impl_dist.f at H
 by_cases c3:a0>a1
 ·rw[if_pos c3]at H
  have a2:decide (a1<a0)=true:=decide_eq_true c3;clear c3;obtain rfl:=Option.some.inj H
  go_enter Try.func31,Try.ntmps31
  go_wp2
  go_ret;exact⟨by first|rfl|(simp;done)|(simp[*];done),by repeat(first|exact Drawn0.refl _|apply Drawn0.step)⟩
 rw[if_neg c3]at H;have a2:decide (a1<a0)=false:=decide_eq_false c3;clear c3;obtain rfl:=Option.some.inj H
 go_enter Try.func31,Try.ntmps31
 go_wp2
 go_ret;exact⟨by first|rfl|(simp;done)|(simp[*];done),by repeat(first|exact Drawn0.refl _|apply Drawn0.step)⟩
end Go.Proofs.Ytmdmfldpohaegaa.QFnHandWho
