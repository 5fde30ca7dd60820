/- The walk of what the law FnHandWho reaches: laid by a program of this session (ownprint.py). -/
import Derived.Test.YtmdmfldpohaegaaQFnHandWhox0
import Derived.Test.YtmdmfldpohaegaaQFnHandWhox2
namespace Go.Proofs.Ytmdmfldpohaegaa.QFnHandWho
open Go.RowKit Go.Proofs.YtmdmfldpohaegaaW.PrintWords Go.Proofs.YtmdmfldpohaegaaW.PrintLast Go.Proofs.YtmdmfldpohaegaaW.PrintMore Go.Proofs.Ytmdmfldpohaegaa.Z
attribute [local go_sem] max2_int min2_int max_two min_two max_three min_three max_four min_four zdn   -- for this text's walks alone
set_option linter.unusedVariables false
set_option linter.unusedSimpArgs false
def spec_l31Over.f (a8:ByteArray) (a0:Int) (a1:Int) (a2:Int) (a3:Int) (a4:Int) (a5:Int) (a9:Int) (b0:Int) (b1:Int) (b2:Int):Option (Bool):=(spec_l31In.f a4 a0 a2).bind fun a6=>(if a6=true then((spec_l31In.f a5 a1 a3).bind fun a7=>(some a7))else(some false))
set_option maxHeartbeats 8000000 in
set_option maxRecDepth 100000 in
theorem spec_l31Over.calls (b2:ByteArray) (a4:Int) (a8:Int) (a5:Int) (a9:Int) (a6:Int) (b0:Int) (b3:Int) (b4:Int) (b5:Int) (b6:Int) (r:Bool) (w:World) (h:spec_l31Over.f b2 a4 a8 a5 a9 a6 b0 b3 b4 b5 b6=some r):
 Calls Try.prog 25 #[.agg #[.string b2,.int .i64 a4,.int .i64 a8,.int .i64 a5,.int .i64 a9],.agg #[.int .i64 a6,.int .i64 b0,.int .i64 b3,.int .i64 b4,.int .i64 b5,.int .i64 b6]] w fun e w'=>e= .returned (.bool r)∧Below w.heap.size w w':=by
 have h7:=Try.underlying34;have h8:=Try.underlying47;have HB:=zA (Below.refl w.heap.size w);have H:=h;clear h;unfold spec_l31Over.f at H;replace H:=zbd H;obtain⟨g1,A3,H⟩:=H
 by_cases c4:g1=true
 rotate_left
 ·replace c4:=Bool.eq_false_iff.mpr c4
  subst c4;rw[if_neg zfn]at H;obtain rfl:=Option.some.inj H
  go_enter Try.func25,Try.ntmps25
  go_wp2_with (first|((with_reducible refine gate_dst (N:=2) rfl ?_);refine zbx 2 #[.string b2,.int .i64 a4,.int .i64 a8,.int .i64 a5,.int .i64 a9] 34 ?_;intro b7 hg i1 hbox hb;have a0:=zA hbox;have b8:=zgs hg (zs0 HB);have a1:=zgs hg (zs0 HB);replace HB:=zE (zs0 HB) hb;clear hb hbox hg)|((with_reducible refine gate_dst (N:=3) rfl ?_);refine zbx 3 #[.int .i64 a6,.int .i64 b0,.int .i64 b3,.int .i64 b4,.int .i64 b5,.int .i64 b6] 47 ?_;intro b9 hg i2 hbox hb;have a7:=zA hbox;have c0:=zgs hg (zs1 HB a1);have b1:=zgs hg (zs1 HB a1);have a2:=zne hg a0;have a3:=znf hg a0;replace a0:=zb a0 hb;replace HB:=zE (zs1 HB a1) hb;clear hb hbox hg;have h5:=a3.out;have h6:=a2.out;obtain⟨c1,d0,d1,d2,d3,d4⟩:=zd6 a7;obtain⟨d5,d6,d7,d8,d9,e0⟩:=zn6 a7;obtain⟨e1,e2,e3,e4,e5⟩:=zd5 a0;obtain⟨e6,e7,e8,e9,f0⟩:=zn5 a0)|((with_reducible refine gate_callee (f:=24) rfl ?_);refine zgl (N:=some 11) Try.func24 #[.int .i64 a6,.int .i64 a4,.int .i64 a5] ?_;(with_reducible refine(spec_l31In.calls a6 a4 a5 false _ A3.out).mono ?_);rintro e w' ⟨rfl,⟨nd,rfl⟩⟩;refine⟨_,rfl,?_⟩))
  go_ret;exact⟨ze,zs2 HB a1 b1⟩
 subst c4;rw[if_pos rfl]at H;replace H:=zbd H;obtain⟨g2,A5,H⟩:=H;obtain rfl:=Option.some.inj H
 go_enter Try.func25,Try.ntmps25
 go_wp2_with (first|((with_reducible refine gate_dst (N:=2) rfl ?_);refine zbx 2 #[.string b2,.int .i64 a4,.int .i64 a8,.int .i64 a5,.int .i64 a9] 34 ?_;intro b7 hg w6 hbox hb;have a0:=zA hbox;have b8:=zgs hg (zs0 HB);have a1:=zgs hg (zs0 HB);replace HB:=zE (zs0 HB) hb;clear hb hbox hg)|((with_reducible refine gate_dst (N:=3) rfl ?_);refine zbx 3 #[.int .i64 a6,.int .i64 b0,.int .i64 b3,.int .i64 b4,.int .i64 b5,.int .i64 b6] 47 ?_;intro b9 hg w7 hbox hb;have a7:=zA hbox;have c0:=zgs hg (zs1 HB a1);have b1:=zgs hg (zs1 HB a1);have a2:=zne hg a0;have a3:=znf hg a0;replace a0:=zb a0 hb;replace HB:=zE (zs1 HB a1) hb;clear hb hbox hg;have h9:=a3.out;have i0:=a2.out;obtain⟨g3,g4,g5,g6,g7,g8⟩:=zd6 a7;obtain⟨g9,h0,h1,h2,h3,h4⟩:=zn6 a7;obtain⟨f1,f2,f3,f4,f5⟩:=zd5 a0;obtain⟨f6,f7,f8,f9,g0⟩:=zn5 a0)|((with_reducible refine gate_callee (f:=24) rfl ?_);refine zgl (N:=some 11) Try.func24 #[.int .i64 a6,.int .i64 a4,.int .i64 a5] ?_;(with_reducible refine(spec_l31In.calls a6 a4 a5 true _ A3.out).mono ?_);rintro e w' ⟨rfl,⟨nd,rfl⟩⟩;refine⟨_,rfl,?_⟩)|(go_at_call 24;(with_reducible refine(spec_l31In.calls b0 a8 a9 g2 _ A5.out).mono ?_);rintro e w' ⟨rfl,⟨nd,rfl⟩⟩))
 go_ret;exact⟨ze,zs2 HB a1 b1⟩
def spec_l31BoxOk.f (a2:Int) (a3:Int) (a4:Int) (a0:Int) (a5:Int) (a1:Int):Option (Bool):=(spec_l31In.f a2 0 15).bind fun a6=>(if a6=true then((spec_l31In.f a3 0 15).bind fun a7=>(if a7=true then((spec_l31In.f a4 0 a0).bind fun a8=>(if a8=true then(if a0≤6 then((spec_l31In.f a5 0 a1).bind fun a9=>(if a9=true then(some (decide (a1≤10000)))else(some false)))else(some false))else(some false)))else(some false)))else(some false))
set_option maxHeartbeats 8000000 in
set_option maxRecDepth 100000 in
theorem spec_l31BoxOk.calls (a1:Int) (a4:Int) (a5:Int) (a3:Int) (a6:Int) (a7:Int) (r:Bool) (w:World) (h:spec_l31BoxOk.f a1 a4 a5 a3 a6 a7=some r):
 Calls Try.prog 26 #[.agg #[.int .i64 a1,.int .i64 a4,.int .i64 a5,.int .i64 a3,.int .i64 a6,.int .i64 a7]] w fun e w'=>e= .returned (.bool r)∧Below w.heap.size w w':=by
 have k0:=Try.underlying47;have HB:=zA (Below.refl w.heap.size w);have H:=h;clear h;unfold spec_l31BoxOk.f at H;replace H:=zbd H;obtain⟨j4,A2,H⟩:=H
 by_cases c3:j4=true
 rotate_left
 ·replace c3:=Bool.eq_false_iff.mpr c3
  subst c3;rw[if_neg zfn]at H;obtain rfl:=Option.some.inj H
  go_enter Try.func26,Try.ntmps26
  go_wp2_with (first|((with_reducible refine gate_dst (N:=1) rfl ?_);refine zbx 1 #[.int .i64 a1,.int .i64 a4,.int .i64 a5,.int .i64 a3,.int .i64 a6,.int .i64 a7] 47 ?_;intro a8 hg k1 hbox hb;have a0:=zA hbox;have a9:=zgs hg (zs0 HB);have a2:=zgs hg (zs0 HB);replace HB:=zE (zs0 HB) hb;clear hb hbox hg;obtain⟨b0,b1,b2,b3,b4,b5⟩:=zd6 a0;obtain⟨b6,b7,b8,b9,c0,c1⟩:=zn6 a0)|((with_reducible refine gate_callee (f:=24) rfl ?_);refine zgl (N:=some 5) Try.func24 #[.int .i64 a1,.int .i64 0,.int .i64 15] ?_;(with_reducible refine(spec_l31In.calls a1 0 15 false _ A2.out).mono ?_);rintro e w' ⟨rfl,⟨nd,rfl⟩⟩;refine⟨_,rfl,?_⟩))
  go_ret;exact⟨ze,zs1 HB a2⟩
 subst c3;rw[if_pos rfl]at H;replace H:=zbd H;obtain⟨j6,A4,H⟩:=H
 by_cases c5:j6=true
 rotate_left
 ·replace c5:=Bool.eq_false_iff.mpr c5
  subst c5;rw[if_neg zfn]at H;obtain rfl:=Option.some.inj H
  go_enter Try.func26,Try.ntmps26
  go_wp2_with (first|((with_reducible refine gate_dst (N:=1) rfl ?_);refine zbx 1 #[.int .i64 a1,.int .i64 a4,.int .i64 a5,.int .i64 a3,.int .i64 a6,.int .i64 a7] 47 ?_;intro a8 hg k2 hbox hb;have a0:=zA hbox;have a9:=zgs hg (zs0 HB);have a2:=zgs hg (zs0 HB);replace HB:=zE (zs0 HB) hb;clear hb hbox hg;obtain⟨d0,d1,d2,d3,d4,d5⟩:=zd6 a0;obtain⟨d6,d7,d8,d9,e0,e1⟩:=zn6 a0)|((with_reducible refine gate_callee (f:=24) rfl ?_);refine zgl (N:=some 5) Try.func24 #[.int .i64 a1,.int .i64 0,.int .i64 15] ?_;(with_reducible refine(spec_l31In.calls a1 0 15 true _ A2.out).mono ?_);rintro e w' ⟨rfl,⟨nd,rfl⟩⟩;refine⟨_,rfl,?_⟩)|(go_at_call 24;(with_reducible refine(spec_l31In.calls a4 0 15 false _ A4.out).mono ?_);rintro e w' ⟨rfl,⟨nd,rfl⟩⟩))
  go_ret;exact⟨ze,zs1 HB a2⟩
 subst c5;rw[if_pos rfl]at H;replace H:=zbd H;obtain⟨j7,A6,H⟩:=H
 by_cases c7:j7=true
 rotate_left
 ·replace c7:=Bool.eq_false_iff.mpr c7
  subst c7;rw[if_neg zfn]at H;obtain rfl:=Option.some.inj H
  go_enter Try.func26,Try.ntmps26
  go_wp2_with (first|((with_reducible refine gate_dst (N:=1) rfl ?_);refine zbx 1 #[.int .i64 a1,.int .i64 a4,.int .i64 a5,.int .i64 a3,.int .i64 a6,.int .i64 a7] 47 ?_;intro a8 hg k3 hbox hb;have a0:=zA hbox;have a9:=zgs hg (zs0 HB);have a2:=zgs hg (zs0 HB);replace HB:=zE (zs0 HB) hb;clear hb hbox hg;obtain⟨e2,e3,e4,e5,e6,e7⟩:=zd6 a0;obtain⟨e8,e9,f0,f1,f2,f3⟩:=zn6 a0)|((with_reducible refine gate_callee (f:=24) rfl ?_);refine zgl (N:=some 5) Try.func24 #[.int .i64 a1,.int .i64 0,.int .i64 15] ?_;(with_reducible refine(spec_l31In.calls a1 0 15 true _ A2.out).mono ?_);rintro e w' ⟨rfl,⟨nd,rfl⟩⟩;refine⟨_,rfl,?_⟩)|(go_at_call 24;(with_reducible refine(spec_l31In.calls a4 0 15 true _ A4.out).mono ?_);rintro e w' ⟨rfl,⟨nd,rfl⟩⟩)|(go_at_call 24;(with_reducible refine(spec_l31In.calls a5 0 a3 false _ A6.out).mono ?_);rintro e w' ⟨rfl,⟨nd,rfl⟩⟩))
  go_ret;exact⟨ze,zs1 HB a2⟩
 subst c7;rw[if_pos rfl]at H
 by_cases c8:a3≤6
 rotate_left
 ·rw[if_neg c8]at H
  have j8:decide (a3≤6)=false:=decide_eq_false c8;clear c8;obtain rfl:=Option.some.inj H
  go_enter Try.func26,Try.ntmps26
  go_wp2_with (first|((with_reducible refine gate_dst (N:=1) rfl ?_);refine zbx 1 #[.int .i64 a1,.int .i64 a4,.int .i64 a5,.int .i64 a3,.int .i64 a6,.int .i64 a7] 47 ?_;intro a8 hg k4 hbox hb;have a0:=zA hbox;have a9:=zgs hg (zs0 HB);have a2:=zgs hg (zs0 HB);replace HB:=zE (zs0 HB) hb;clear hb hbox hg;obtain⟨f4,f5,f6,f7,f8,f9⟩:=zd6 a0;obtain⟨g0,g1,g2,g3,g4,g5⟩:=zn6 a0)|((with_reducible refine gate_callee (f:=24) rfl ?_);refine zgl (N:=some 5) Try.func24 #[.int .i64 a1,.int .i64 0,.int .i64 15] ?_;(with_reducible refine(spec_l31In.calls a1 0 15 true _ A2.out).mono ?_);rintro e w' ⟨rfl,⟨nd,rfl⟩⟩;refine⟨_,rfl,?_⟩)|(go_at_call 24;(with_reducible refine(spec_l31In.calls a4 0 15 true _ A4.out).mono ?_);rintro e w' ⟨rfl,⟨nd,rfl⟩⟩)|(go_at_call 24;(with_reducible refine(spec_l31In.calls a5 0 a3 true _ A6.out).mono ?_);rintro e w' ⟨rfl,⟨nd,rfl⟩⟩))
  go_ret;exact⟨ze,zs1 HB a2⟩
 rw[if_pos c8]at H;have j8:decide (a3≤6)=true:=decide_eq_true c8;clear c8;replace H:=zbd H;obtain⟨j9,A9,H⟩:=H
 by_cases c10:j9=true
 ·subst c10
  rw[if_pos rfl]at H;obtain rfl:=Option.some.inj H
  go_enter Try.func26,Try.ntmps26
  go_wp2_with (first|((with_reducible refine gate_dst (N:=1) rfl ?_);refine zbx 1 #[.int .i64 a1,.int .i64 a4,.int .i64 a5,.int .i64 a3,.int .i64 a6,.int .i64 a7] 47 ?_;intro a8 hg k5 hbox hb;have a0:=zA hbox;have a9:=zgs hg (zs0 HB);have a2:=zgs hg (zs0 HB);replace HB:=zE (zs0 HB) hb;clear hb hbox hg;obtain⟨g6,g7,g8,g9,h0,h1⟩:=zd6 a0;obtain⟨h2,h3,h4,h5,h6,h7⟩:=zn6 a0)|((with_reducible refine gate_callee (f:=24) rfl ?_);refine zgl (N:=some 5) Try.func24 #[.int .i64 a1,.int .i64 0,.int .i64 15] ?_;(with_reducible refine(spec_l31In.calls a1 0 15 true _ A2.out).mono ?_);rintro e w' ⟨rfl,⟨nd,rfl⟩⟩;refine⟨_,rfl,?_⟩)|(go_at_call 24;(with_reducible refine(spec_l31In.calls a4 0 15 true _ A4.out).mono ?_);rintro e w' ⟨rfl,⟨nd,rfl⟩⟩)|(go_at_call 24;(with_reducible refine(spec_l31In.calls a5 0 a3 true _ A6.out).mono ?_);rintro e w' ⟨rfl,⟨nd,rfl⟩⟩)|(go_at_call 24;(with_reducible refine(spec_l31In.calls a6 0 a7 true _ A9.out).mono ?_);rintro e w' ⟨rfl,⟨nd,rfl⟩⟩))
  go_ret;exact⟨ze,zs1 HB a2⟩
 replace c10:=Bool.eq_false_iff.mpr c10;subst c10;rw[if_neg zfn]at H;obtain rfl:=Option.some.inj H
 go_enter Try.func26,Try.ntmps26
 go_wp2_with (first|((with_reducible refine gate_dst (N:=1) rfl ?_);refine zbx 1 #[.int .i64 a1,.int .i64 a4,.int .i64 a5,.int .i64 a3,.int .i64 a6,.int .i64 a7] 47 ?_;intro a8 hg k6 hbox hb;have a0:=zA hbox;have a9:=zgs hg (zs0 HB);have a2:=zgs hg (zs0 HB);replace HB:=zE (zs0 HB) hb;clear hb hbox hg;obtain⟨h8,h9,i0,i1,i2,i3⟩:=zd6 a0;obtain⟨i4,i5,i6,i7,i8,i9⟩:=zn6 a0)|((with_reducible refine gate_callee (f:=24) rfl ?_);refine zgl (N:=some 5) Try.func24 #[.int .i64 a1,.int .i64 0,.int .i64 15] ?_;(with_reducible refine(spec_l31In.calls a1 0 15 true _ A2.out).mono ?_);rintro e w' ⟨rfl,⟨nd,rfl⟩⟩;refine⟨_,rfl,?_⟩)|(go_at_call 24;(with_reducible refine(spec_l31In.calls a4 0 15 true _ A4.out).mono ?_);rintro e w' ⟨rfl,⟨nd,rfl⟩⟩)|(go_at_call 24;(with_reducible refine(spec_l31In.calls a5 0 a3 true _ A6.out).mono ?_);rintro e w' ⟨rfl,⟨nd,rfl⟩⟩)|(go_at_call 24;(with_reducible refine(spec_l31In.calls a6 0 a7 false _ A9.out).mono ?_);rintro e w' ⟨rfl,⟨nd,rfl⟩⟩))
 go_ret;exact⟨ze,zs1 HB a2⟩
end Go.Proofs.Ytmdmfldpohaegaa.QFnHandWho
