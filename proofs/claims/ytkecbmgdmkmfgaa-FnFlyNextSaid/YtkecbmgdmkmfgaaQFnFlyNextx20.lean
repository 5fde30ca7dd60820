/- The walk of what the law FnFlyNext reaches: laid by a program of this session (ownprint.py). -/
import Derived.Test.YtkecbmgdmkmfgaaQFnFlyNextx0
namespace Go.Proofs.Ytkecbmgdmkmfgaa.QFnFlyNext
open Go.RowKit Go.Proofs.YtkecbmgdmkmfgaaW.PrintWords Go.Proofs.YtkecbmgdmkmfgaaW.PrintLast Go.Proofs.YtkecbmgdmkmfgaaW.PrintMore Go.Proofs.Ytkecbmgdmkmfgaa.Z
attribute [local go_sem] max2_int min2_int max_two min_two max_three min_three max_four min_four zdn   -- for this text's walks alone
set_option linter.unusedVariables false
set_option linter.unusedSimpArgs false
def impl_FlyPath_bound.f (a4:Int) (a5:Int) (a0:List (S54)) (a2:Int) (a3:Int) (a1:Int):Option (Int×Int):=if a1=(a0.length:Int)then(some (a2,a3))else(if 0≤a1 then(if a1<(a0.length:Int)then(some ((rd_T54 a0 a1).f4,(rd_T54 a0 a1).f5))else(none))else(none))
set_option maxHeartbeats 8000000 in
set_option maxRecDepth 100000 in
theorem impl_FlyPath_bound.calls (d1:Int) (d2:Int) (d3:Option Addr) (d4:Nat) (a2:List (S54)) (d5:Int) (d6:Int) (a1:Int) (r1:Int) (r2:Int) (w:World) (hr0_2:Kd.C k54 w d3 a2.length a2) (hc0_2:a2.length≤d4) (h:impl_FlyPath_bound.f d1 d2 a2 d5 d6 a1=some (r1,r2)):
 Calls Try.prog 20 #[.agg #[.int .i64 d1,.int .i64 d2,.slice d3 a2.length d4,.int .i64 d5,.int .i64 d6],.int .i64 a1] w fun e w'=>e= .returned (.tuple #[.int .i64 r1,.int .i64 r2])∧Below w.heap.size w w':=by
 have g6:=Try.underlying27;have d0:=zA hr0_2;have g5:=zA hc0_2;clear hr0_2 hc0_2;have HB:=zA (Below.refl w.heap.size w);have H:=h;clear h;unfold impl_FlyPath_bound.f at H
 by_cases c3:a1=(a2.length:Int)
 ·rw[if_pos c3]at H
  have g3:(a1==(a2.length:Int))=true:=beq_iff_eq.mpr c3;have g4:(a1 !=(a2.length:Int))=false:=bne_eq_false_iff_eq.mpr c3;clear c3;simp only[Option.some.injEq,Prod.mk.injEq]at H;obtain⟨rfl,rfl⟩:=H
  go_enter Try.func20,Try.ntmps20
  go_wp2_with (first|((with_reducible refine gate_dst (N:=2) rfl ?_);refine zbx 2 #[.int .i64 d1,.int .i64 d2,.slice d3 a2.length d4,.int .i64 d5,.int .i64 d6] 27 ?_;intro d7 hg w4 hbox hb;have a0:=zA hbox;have d8:=zgs hg (zs0 HB);have b7:=zgs hg (zs0 HB);replace HB:=zE (zs0 HB) hb;clear hb hbox hg;obtain⟨e1,e2,e3,e4,e5⟩:=zd5 a0;obtain⟨e6,e7,e8,e9,f0⟩:=zn5 a0))
  repeat(go_quiet (first|((with_reducible refine gate_dst (N:=2) rfl ?_);refine zbx 2 #[.int .i64 d1,.int .i64 d2,.slice d3 a2.length d4,.int .i64 d5,.int .i64 d6] 27 ?_;intro d7 hg w4 hbox hb;have a0:=zA hbox;have d8:=zgs hg (zs0 HB);have b7:=zgs hg (zs0 HB);replace HB:=zE (zs0 HB) hb;clear hb hbox hg;obtain⟨e1,e2,e3,e4,e5⟩:=zd5 a0;obtain⟨e6,e7,e8,e9,f0⟩:=zn5 a0));try go_wp2_with (first|((with_reducible refine gate_dst (N:=2) rfl ?_);refine zbx 2 #[.int .i64 d1,.int .i64 d2,.slice d3 a2.length d4,.int .i64 d5,.int .i64 d6] 27 ?_;intro d7 hg w4 hbox hb;have a0:=zA hbox;have d8:=zgs hg (zs0 HB);have b7:=zgs hg (zs0 HB);replace HB:=zE (zs0 HB) hb;clear hb hbox hg;obtain⟨e1,e2,e3,e4,e5⟩:=zd5 a0;obtain⟨e6,e7,e8,e9,f0⟩:=zn5 a0)))
  go_ret2
  exact⟨ze,zs1 HB b7⟩
 rw[if_neg c3]at H;have g3:(a1==(a2.length:Int))=false:=beq_eq_false_iff_ne.mpr c3;have g4:(a1 !=(a2.length:Int))=true:=bne_iff_ne.mpr c3;replace H:=zif H;obtain⟨g7,H⟩:=H
 by_cases c7:a1<(a2.length:Int)
 rotate_left
 ·rw[if_neg c7]at H
  exact absurd H (by simp)
 rw[if_pos c7]at H;have g8:decide (a1<(a2.length:Int))=true:=decide_eq_true c7;clear c7;simp only[Option.some.injEq,Prod.mk.injEq]at H;obtain⟨rfl,rfl⟩:=H
 go_enter Try.func20,Try.ntmps20
 go_wp2_with (first|((with_reducible refine gate_dst (N:=2) rfl ?_);refine zbx 2 #[.int .i64 d1,.int .i64 d2,.slice d3 a2.length d4,.int .i64 d5,.int .i64 d6] 27 ?_;intro d7 hg w8 hbox hb;have a0:=zA hbox;have d8:=zgs hg (zs0 HB);have b7:=zgs hg (zs0 HB);replace HB:=zE (zs0 HB) hb;clear hb hbox hg;obtain⟨f1,f2,f3,f4,f5⟩:=zd5 a0;obtain⟨f6,f7,f8,f9,g0⟩:=zn5 a0;have b8:0≤(a1:Int):=za;have b9:a1<(a2.length:Int):=za;obtain⟨d9,g1,a3,a4,a5,a6,a7,a8,a9⟩:=at_T54 d0.out a1 b8 b9;cases g1;replace a3:=zx HB a3;replace a4:=zx HB a4;replace a5:=zx HB a5;replace a6:=zx HB a6;replace a7:=zx HB a7;replace a8:=zx HB a8;replace a9:=zx HB a9;replace b8:=eq_true b8;replace b9:=eq_true b9;have c0:0≤(a1:Int):=za;have c1:a1<(a2.length:Int):=za;obtain⟨e0,g2,b0,b1,b2,b3,b4,b5,b6⟩:=at_T54 d0.out a1 c0 c1;obtain rfl:d9=e0:=(by injection g2);replace b0:=zx HB b0;replace b1:=zx HB b1;replace b2:=zx HB b2;replace b3:=zx HB b3;replace b4:=zx HB b4;replace b5:=zx HB b5;replace b6:=zx HB b6;replace c0:=eq_true c0;replace c1:=eq_true c1))
 repeat(go_quiet (first|((with_reducible refine gate_dst (N:=2) rfl ?_);refine zbx 2 #[.int .i64 d1,.int .i64 d2,.slice d3 a2.length d4,.int .i64 d5,.int .i64 d6] 27 ?_;intro d7 hg w8 hbox hb;have a0:=zA hbox;have d8:=zgs hg (zs0 HB);have b7:=zgs hg (zs0 HB);replace HB:=zE (zs0 HB) hb;clear hb hbox hg;obtain⟨f1,f2,f3,f4,f5⟩:=zd5 a0;obtain⟨f6,f7,f8,f9,g0⟩:=zn5 a0;have b8:0≤(a1:Int):=za;have b9:a1<(a2.length:Int):=za;obtain⟨d9,g1,a3,a4,a5,a6,a7,a8,a9⟩:=at_T54 d0.out a1 b8 b9;cases g1;replace a3:=zx HB a3;replace a4:=zx HB a4;replace a5:=zx HB a5;replace a6:=zx HB a6;replace a7:=zx HB a7;replace a8:=zx HB a8;replace a9:=zx HB a9;replace b8:=eq_true b8;replace b9:=eq_true b9;have c0:0≤(a1:Int):=za;have c1:a1<(a2.length:Int):=za;obtain⟨e0,g2,b0,b1,b2,b3,b4,b5,b6⟩:=at_T54 d0.out a1 c0 c1;obtain rfl:d9=e0:=(by injection g2);replace b0:=zx HB b0;replace b1:=zx HB b1;replace b2:=zx HB b2;replace b3:=zx HB b3;replace b4:=zx HB b4;replace b5:=zx HB b5;replace b6:=zx HB b6;replace c0:=eq_true c0;replace c1:=eq_true c1));try go_wp2_with (first|((with_reducible refine gate_dst (N:=2) rfl ?_);refine zbx 2 #[.int .i64 d1,.int .i64 d2,.slice d3 a2.length d4,.int .i64 d5,.int .i64 d6] 27 ?_;intro d7 hg w8 hbox hb;have a0:=zA hbox;have d8:=zgs hg (zs0 HB);have b7:=zgs hg (zs0 HB);replace HB:=zE (zs0 HB) hb;clear hb hbox hg;obtain⟨f1,f2,f3,f4,f5⟩:=zd5 a0;obtain⟨f6,f7,f8,f9,g0⟩:=zn5 a0;have b8:0≤(a1:Int):=za;have b9:a1<(a2.length:Int):=za;obtain⟨d9,g1,a3,a4,a5,a6,a7,a8,a9⟩:=at_T54 d0.out a1 b8 b9;cases g1;replace a3:=zx HB a3;replace a4:=zx HB a4;replace a5:=zx HB a5;replace a6:=zx HB a6;replace a7:=zx HB a7;replace a8:=zx HB a8;replace a9:=zx HB a9;replace b8:=eq_true b8;replace b9:=eq_true b9;have c0:0≤(a1:Int):=za;have c1:a1<(a2.length:Int):=za;obtain⟨e0,g2,b0,b1,b2,b3,b4,b5,b6⟩:=at_T54 d0.out a1 c0 c1;obtain rfl:d9=e0:=(by injection g2);replace b0:=zx HB b0;replace b1:=zx HB b1;replace b2:=zx HB b2;replace b3:=zx HB b3;replace b4:=zx HB b4;replace b5:=zx HB b5;replace b6:=zx HB b6;replace c0:=eq_true c0;replace c1:=eq_true c1)))
 go_ret2
 exact⟨ze,zs1 HB b7⟩
end Go.Proofs.Ytkecbmgdmkmfgaa.QFnFlyNext
