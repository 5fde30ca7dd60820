/- The walk of what the law FnExactFlyTurnBy reaches: laid by a program of this session (ownprint.py). -/
import Derived.Test.YtglgfgeepdmlbaaQFnExactFlyTurnByx0
import Derived.Test.YtglgfgeepdmlbaaQFnExactFlyTurnByx3
import Derived.Test.YtglgfgeepdmlbaaQFnExactFlyTurnByx4
import Derived.Test.YtglgfgeepdmlbaaQFnExactFlyTurnByx7
import Derived.Test.YtglgfgeepdmlbaaQFnExactFlyTurnByx13
namespace Go.Proofs.Ytglgfgeepdmlbaa.QFnExactFlyTurnBy
open Go.RowKit Go.Proofs.YtglgfgeepdmlbaaW.PrintWords Go.Proofs.YtglgfgeepdmlbaaW.PrintLast Go.Proofs.YtglgfgeepdmlbaaW.PrintMore Go.Proofs.Ytglgfgeepdmlbaa.Z
attribute [local go_sem] max2_int min2_int max_two min_two max_three min_three max_four min_four zdn   -- for this text's walks alone
set_option linter.unusedVariables false
set_option linter.unusedSimpArgs false
def spec_l28All.l0:Nat→List (S45)→Int→Bool→Int→Int→Int→List (S53)→Int→Int→Int→Int→List (S53)→Int→Int→Option (Bool)
 |0,_,_,_,_,_,_,_,_,_,_,_,_,_,_=>none
 |k+1,x2,x3,x9,x10,a0,a1,a2,a3,a4,a5,a6,a7,a8,a9=>if x10<(x2.length:Int)then(if 0≤x10 then((spec_l21In.f x3 ((rd_T45 x2 x10).f4) ((rd_T45 x2 x10).f5)).bind fun b0=>(if b0=true then((spec_FlyMayTurn.f k a0 a1 a2 a3 a4 a5 a6 a7 a8 a9 x10 x3).bind fun b1=>(if b1=true then(spec_l28All.l0 k x2 x3 true (wrap64 (x10+1)) a0 a1 a2 a3 a4 a5 a6 a7 a8 a9)else(some false)))else(spec_l28All.l0 k x2 x3 x9 (wrap64 (x10+1)) a0 a1 a2 a3 a4 a5 a6 a7 a8 a9)))else(none))else(some x9)
def spec_l28All.f (k:Nat) (a0:Int) (a1:Int) (a2:List (S53)) (a4:Int) (a5:Int) (a6:Int) (a7:Int) (a8:List (S53)) (a9:Int) (b0:Int) (l2:List (S45)) (a3:Int):Option (Bool):=spec_l28All.l0 k l2 a3 false 0 a0 a1 a2 a4 a5 a6 a7 a8 a9 b0
set_option maxHeartbeats 8000000 in
set_option maxRecDepth 100000 in
theorem spec_l28All.calls (k:Nat) (d1:Int) (d2:Int) (j4:Option Addr) (j5:Nat) (c0:List (S53)) (d3:Int) (d4:Int) (d5:Int) (d6:Int) (j6:Option Addr) (j7:Nat) (d0:List (S53)) (d7:Int) (d8:Int) (A2:Option Addr) (c2:Nat) (l2:List (S45)) (a3:Int) (r:Bool) (w:World) (hr0_2:Kd.C k53 w j4 c0.length c0) (hc0_2:c0.length≤j5) (hr1_2:Kd.C k53 w j6 d0.length d0) (hc1_2:d0.length≤j7) (hr2:Kd.C k45 w A2 l2.length l2) (hc2:l2.length≤c2) (h:spec_l28All.f k d1 d2 c0 d3 d4 d5 d6 d0 d7 d8 l2 a3=some r):
 Calls Try.prog 13 #[.agg #[.int .i64 d1,.int .i64 d2,.slice j4 c0.length j5,.int .i64 d3,.int .i64 d4],.agg #[.int .i64 d5,.int .i64 d6,.slice j6 d0.length j7,.int .i64 d7,.int .i64 d8],.slice A2 l2.length c2,.int .i64 a3] w fun e w'=>e= .returned (.bool r)∧Below w.heap.size w w':=by
 have m3:=Try.underlying32;have e3:=zA hr0_2;have e4:=zA hc0_2;clear hr0_2 hc0_2;have e5:=zA hr1_2;have e6:=zA hc1_2;clear hr1_2 hc1_2;have l4:=zA hr2;have m6:=zA hc2;clear hr2 hc2;have HB:=zA (Below.refl w.heap.size w);have H:=h;clear h;unfold spec_l28All.f at H;have H':=zA H;clear H
 go_enter Try.func13,Try.ntmps13
 go_wp2_with (first|((with_reducible refine gate_dst (N:=4) rfl ?_);refine zbx 4 #[.int .i64 d1,.int .i64 d2,.slice j4 c0.length j5,.int .i64 d3,.int .i64 d4] 32 ?_;intro j8 hg w5 hbox hb;have a1:=zA hbox;have k4:=zgs hg (zs0 HB);have a2:=zgs hg (zs0 HB);replace HB:=zE (zs0 HB) hb;clear hb hbox hg)|((with_reducible refine gate_dst (N:=5) rfl ?_);refine zbx 5 #[.int .i64 d5,.int .i64 d6,.slice j6 d0.length j7,.int .i64 d7,.int .i64 d8] 32 ?_;intro j9 hg w6 hbox hb;have a4:=zA hbox;have k5:=zgs hg (zs1 HB a2);have a5:=zgs hg (zs1 HB a2);have a6:=zne hg a1;have a7:=znf hg a1;replace a1:=zb a1 hb;replace HB:=zE (zs1 HB a2) hb;clear hb hbox hg))
 repeat(go_quiet (first|((with_reducible refine gate_dst (N:=4) rfl ?_);refine zbx 4 #[.int .i64 d1,.int .i64 d2,.slice j4 c0.length j5,.int .i64 d3,.int .i64 d4] 32 ?_;intro j8 hg w5 hbox hb;have a1:=zA hbox;have k4:=zgs hg (zs0 HB);have a2:=zgs hg (zs0 HB);replace HB:=zE (zs0 HB) hb;clear hb hbox hg)|((with_reducible refine gate_dst (N:=5) rfl ?_);refine zbx 5 #[.int .i64 d5,.int .i64 d6,.slice j6 d0.length j7,.int .i64 d7,.int .i64 d8] 32 ?_;intro j9 hg w6 hbox hb;have a4:=zA hbox;have k5:=zgs hg (zs1 HB a2);have a5:=zgs hg (zs1 HB a2);have a6:=zne hg a1;have a7:=znf hg a1;replace a1:=zb a1 hb;replace HB:=zE (zs1 HB a2) hb;clear hb hbox hg));try go_wp2_with (first|((with_reducible refine gate_dst (N:=4) rfl ?_);refine zbx 4 #[.int .i64 d1,.int .i64 d2,.slice j4 c0.length j5,.int .i64 d3,.int .i64 d4] 32 ?_;intro j8 hg w5 hbox hb;have a1:=zA hbox;have k4:=zgs hg (zs0 HB);have a2:=zgs hg (zs0 HB);replace HB:=zE (zs0 HB) hb;clear hb hbox hg)|((with_reducible refine gate_dst (N:=5) rfl ?_);refine zbx 5 #[.int .i64 d5,.int .i64 d6,.slice j6 d0.length j7,.int .i64 d7,.int .i64 d8] 32 ?_;intro j9 hg w6 hbox hb;have a4:=zA hbox;have k5:=zgs hg (zs1 HB a2);have a5:=zgs hg (zs1 HB a2);have a6:=zne hg a1;have a7:=znf hg a1;replace a1:=zb a1 hb;replace HB:=zE (zs1 HB a2) hb;clear hb hbox hg)))
 go_loopg [9,10] k (fun kq v9 m4 w'=> ∃(k3:Bool) (a0:Int),v9= .bool k3∧m4= .int .i64 a0∧Aside0 (spec_l28All.l0 kq l2 a3 k3 a0 d1 d2 c0 d3 d4 d5 d6 d0 d7 d8=some r)∧Aside0 (kq≤k)∧Aside0 (w'.heap[j8]?=some (.cells #[.int .i64 d1,.int .i64 d2,(.slice j4 c0.length j5),.int .i64 d3,.int .i64 d4] 32 (0,0)))∧Aside0 (w'.heap[j9]?=some (.cells #[.int .i64 d5,.int .i64 d6,(.slice j6 d0.length j7),.int .i64 d7,.int .i64 d8] 32 (0,0)))∧Aside0 (Below w.heap.size w w'))
 case atStart=>exact⟨(false),(0),zi,zi,H',⟨Nat.le_refl _⟩,⟨zh a1⟩,⟨zh a4⟩,⟨zs2 HB a2 a5⟩⟩
 case round=>
  clear H'
  try clear c1
  try clear c2
  try clear p2
  obtain⟨k3,a0,rfl,rfl,HA,l6,a1,a4,HB⟩:=hrel
  cases gk with
  |zero=>exact absurd HA.out (by simp[spec_l28All.l0])
  |succ k1=>
   have H:=HA.out;clear HA;simp only[spec_l28All.l0]at H
   by_cases c7:a0<(l2.length:Int)
   rotate_left
   ·rw[if_neg c7]at H
    have l8:decide (a0<(l2.length:Int))=false:=decide_eq_false c7;clear c7;obtain rfl:=Option.some.inj H
    go_wp2
    repeat(go_quiet (fail);try go_wp2)
    go_ret;exact⟨ze,zs2 HB a2 a5⟩
   rw[if_pos c7]at H;have l8:decide (a0<(l2.length:Int))=true:=decide_eq_true c7;clear c7;replace H:=zif H;obtain⟨m5,H⟩:=H;replace H:=zbd H;obtain⟨l9,A9,H⟩:=H
   by_cases c10:l9=true
   rotate_left
   ·replace c10:=Bool.eq_false_iff.mpr c10
    subst c10;rw[if_neg zfn]at H;have H':=zA H;clear H;have d9:0≤(a0:Int):=za;have e0:a0<(l2.length:Int):=za;obtain⟨e7,k0,a8,a9,b0,b1,b2,b3⟩:=at_T45 l4.out a0 d9 e0;cases k0;replace a8:=zx HB a8;replace a9:=zx HB a9;replace b0:=zx HB b0;replace b1:=zx HB b1;replace b2:=zx HB b2;replace b3:=zx HB b3;replace d9:=eq_true d9;replace e0:=eq_true e0;have e1:0≤(a0:Int):=za;have e2:a0<(l2.length:Int):=za;obtain⟨e8,k2,b4,b5,b6,b7,b8,b9⟩:=at_T45 l4.out a0 e1 e2;obtain rfl:e7=e8:=(by injection k2);replace b4:=zx HB b4;replace b5:=zx HB b5;replace b6:=zx HB b6;replace b7:=zx HB b7;replace b8:=zx HB b8;replace b9:=zx HB b9;replace e1:=eq_true e1;replace e2:=eq_true e2
    go_wp2_with (first|(go_at_call 11;(with_reducible refine(spec_l21In.calls a3 ((rd_T45 l2 a0).f4) ((rd_T45 l2 a0).f5) false _ A9.out).mono ?_);rintro e w' ⟨rfl,⟨nd,rfl⟩⟩;(try first|exact⟨rfl,_,World.drewN_drewN _ _ _⟩|exact⟨rfl,_,Eq.trans (World.drewN_drewN _ _ _) (congrArg (World.drewN _) (Nat.add_assoc _ _ _))⟩)))
    repeat(go_quiet (first|(go_at_call 11;(with_reducible refine(spec_l21In.calls a3 ((rd_T45 l2 a0).f4) ((rd_T45 l2 a0).f5) false _ A9.out).mono ?_);rintro e w' ⟨rfl,⟨nd,rfl⟩⟩;(try first|exact⟨rfl,_,World.drewN_drewN _ _ _⟩|exact⟨rfl,_,Eq.trans (World.drewN_drewN _ _ _) (congrArg (World.drewN _) (Nat.add_assoc _ _ _))⟩)));try go_wp2_with (first|(go_at_call 11;(with_reducible refine(spec_l21In.calls a3 ((rd_T45 l2 a0).f4) ((rd_T45 l2 a0).f5) false _ A9.out).mono ?_);rintro e w' ⟨rfl,⟨nd,rfl⟩⟩;(try first|exact⟨rfl,_,World.drewN_drewN _ _ _⟩|exact⟨rfl,_,Eq.trans (World.drewN_drewN _ _ _) (congrArg (World.drewN _) (Nat.add_assoc _ _ _))⟩))))
    go_roundg k1
    case measure=>have:=l6.out;omega
    case rel=>exact⟨(k3),(wrap64 (a0+1)),zi,zi,H',⟨by have:=l6.out;omega⟩,⟨zh a1⟩,⟨zh a4⟩,⟨zs2 HB a2 a5⟩⟩
   subst c10;rw[if_pos rfl]at H;replace H:=zbd H;obtain⟨m0,l5,H⟩:=H
   by_cases l7:m0=true
   rotate_left
   ·replace l7:=Bool.eq_false_iff.mpr l7
    subst l7;rw[if_neg zfn]at H;obtain rfl:=Option.some.inj H;have d9:0≤(a0:Int):=za;have e0:a0<(l2.length:Int):=za;obtain⟨e7,k0,a8,a9,b0,b1,b2,b3⟩:=at_T45 l4.out a0 d9 e0;cases k0;replace a8:=zx HB a8;replace a9:=zx HB a9;replace b0:=zx HB b0;replace b1:=zx HB b1;replace b2:=zx HB b2;replace b3:=zx HB b3;replace d9:=eq_true d9;replace e0:=eq_true e0;have e1:0≤(a0:Int):=za;have e2:a0<(l2.length:Int):=za;obtain⟨e8,k2,b4,b5,b6,b7,b8,b9⟩:=at_T45 l4.out a0 e1 e2;obtain rfl:e7=e8:=(by injection k2);replace b4:=zx HB b4;replace b5:=zx HB b5;replace b6:=zx HB b6;replace b7:=zx HB b7;replace b8:=zx HB b8;replace b9:=zx HB b9;replace e1:=eq_true e1;replace e2:=eq_true e2
    go_wp2_with (first|(go_at_call 11;(with_reducible refine(spec_l21In.calls a3 ((rd_T45 l2 a0).f4) ((rd_T45 l2 a0).f5) true _ A9.out).mono ?_);rintro e w' ⟨rfl,⟨nd,rfl⟩⟩;(try first|exact⟨rfl,_,World.drewN_drewN _ _ _⟩|exact⟨rfl,_,Eq.trans (World.drewN_drewN _ _ _) (congrArg (World.drewN _) (Nat.add_assoc _ _ _))⟩);have k6:=a6.out;have k7:=a7.out;obtain⟨e9,f0,f1,f2,f3⟩:=zd5 a1;obtain⟨f6,f7,f8,f9,g0⟩:=zn5 a1;obtain⟨g1,g2,g3,g4,g5⟩:=zd5 a4;obtain⟨g6,g7,g8,g9,h0⟩:=zn5 a4)|(go_at_call 26;(with_reducible refine(spec_FlyMayTurn.calls k1 d1 d2 _ _ c0 d3 d4 d5 d6 _ _ d0 d7 d8 a0 a3 false _ ?side1 ?side2 ?side3 ?side4 l5.out).mono ?_);(case side1=>repeat(first|exact(Kd.C_below e3.out (zs2 HB a2 a5))|(with_reducible refine Kd.C_alloc ?_ _)|(with_reducible refine Kd.C_drewN ?_ _)|(with_reducible refine Kd.C_drew ?_)));(case side2=>exact e4.out);(case side3=>repeat(first|exact(Kd.C_below e5.out (zs2 HB a2 a5))|(with_reducible refine Kd.C_alloc ?_ _)|(with_reducible refine Kd.C_drewN ?_ _)|(with_reducible refine Kd.C_drew ?_)));(case side4=>exact e6.out);rintro e m1 ⟨rfl,hb⟩;replace a1:=zb a1 hb;replace a4:=zb a4 hb;replace HB:=zE (zs2 HB a2 a5) hb;(try clear hb);(try clear hb2);(try clear hk);(try clear hi)))
    repeat(go_quiet (first|(go_at_call 11;(with_reducible refine(spec_l21In.calls a3 ((rd_T45 l2 a0).f4) ((rd_T45 l2 a0).f5) true _ A9.out).mono ?_);rintro e w' ⟨rfl,⟨nd,rfl⟩⟩;(try first|exact⟨rfl,_,World.drewN_drewN _ _ _⟩|exact⟨rfl,_,Eq.trans (World.drewN_drewN _ _ _) (congrArg (World.drewN _) (Nat.add_assoc _ _ _))⟩);have k6:=a6.out;have k7:=a7.out;obtain⟨e9,f0,f1,f2,f3⟩:=zd5 a1;obtain⟨f6,f7,f8,f9,g0⟩:=zn5 a1;obtain⟨g1,g2,g3,g4,g5⟩:=zd5 a4;obtain⟨g6,g7,g8,g9,h0⟩:=zn5 a4)|(go_at_call 26;(with_reducible refine(spec_FlyMayTurn.calls k1 d1 d2 _ _ c0 d3 d4 d5 d6 _ _ d0 d7 d8 a0 a3 false _ ?side1 ?side2 ?side3 ?side4 l5.out).mono ?_);(case side1=>repeat(first|exact(Kd.C_below e3.out (zs2 HB a2 a5))|(with_reducible refine Kd.C_alloc ?_ _)|(with_reducible refine Kd.C_drewN ?_ _)|(with_reducible refine Kd.C_drew ?_)));(case side2=>exact e4.out);(case side3=>repeat(first|exact(Kd.C_below e5.out (zs2 HB a2 a5))|(with_reducible refine Kd.C_alloc ?_ _)|(with_reducible refine Kd.C_drewN ?_ _)|(with_reducible refine Kd.C_drew ?_)));(case side4=>exact e6.out);rintro e m1 ⟨rfl,hb⟩;replace a1:=zb a1 hb;replace a4:=zb a4 hb;replace HB:=zE (zs2 HB a2 a5) hb;(try clear hb);(try clear hb2);(try clear hk);(try clear hi)));try go_wp2_with (first|(go_at_call 11;(with_reducible refine(spec_l21In.calls a3 ((rd_T45 l2 a0).f4) ((rd_T45 l2 a0).f5) true _ A9.out).mono ?_);rintro e w' ⟨rfl,⟨nd,rfl⟩⟩;(try first|exact⟨rfl,_,World.drewN_drewN _ _ _⟩|exact⟨rfl,_,Eq.trans (World.drewN_drewN _ _ _) (congrArg (World.drewN _) (Nat.add_assoc _ _ _))⟩);have k6:=a6.out;have k7:=a7.out;obtain⟨e9,f0,f1,f2,f3⟩:=zd5 a1;obtain⟨f6,f7,f8,f9,g0⟩:=zn5 a1;obtain⟨g1,g2,g3,g4,g5⟩:=zd5 a4;obtain⟨g6,g7,g8,g9,h0⟩:=zn5 a4)|(go_at_call 26;(with_reducible refine(spec_FlyMayTurn.calls k1 d1 d2 _ _ c0 d3 d4 d5 d6 _ _ d0 d7 d8 a0 a3 false _ ?side1 ?side2 ?side3 ?side4 l5.out).mono ?_);(case side1=>repeat(first|exact(Kd.C_below e3.out (zs2 HB a2 a5))|(with_reducible refine Kd.C_alloc ?_ _)|(with_reducible refine Kd.C_drewN ?_ _)|(with_reducible refine Kd.C_drew ?_)));(case side2=>exact e4.out);(case side3=>repeat(first|exact(Kd.C_below e5.out (zs2 HB a2 a5))|(with_reducible refine Kd.C_alloc ?_ _)|(with_reducible refine Kd.C_drewN ?_ _)|(with_reducible refine Kd.C_drew ?_)));(case side4=>exact e6.out);rintro e m1 ⟨rfl,hb⟩;replace a1:=zb a1 hb;replace a4:=zb a4 hb;replace HB:=zE (zs2 HB a2 a5) hb;(try clear hb);(try clear hb2);(try clear hk);(try clear hi))))
    go_ret;exact⟨ze,zs2 HB a2 a5⟩
   subst l7;rw[if_pos rfl]at H;have H':=zA H;clear H;have d9:0≤(a0:Int):=za;have e0:a0<(l2.length:Int):=za;obtain⟨e7,k0,a8,a9,b0,b1,b2,b3⟩:=at_T45 l4.out a0 d9 e0;cases k0;replace a8:=zx HB a8;replace a9:=zx HB a9;replace b0:=zx HB b0;replace b1:=zx HB b1;replace b2:=zx HB b2;replace b3:=zx HB b3;replace d9:=eq_true d9;replace e0:=eq_true e0;have e1:0≤(a0:Int):=za;have e2:a0<(l2.length:Int):=za;obtain⟨e8,k2,b4,b5,b6,b7,b8,b9⟩:=at_T45 l4.out a0 e1 e2;obtain rfl:e7=e8:=(by injection k2);replace b4:=zx HB b4;replace b5:=zx HB b5;replace b6:=zx HB b6;replace b7:=zx HB b7;replace b8:=zx HB b8;replace b9:=zx HB b9;replace e1:=eq_true e1;replace e2:=eq_true e2
   go_wp2_with (first|(go_at_call 11;(with_reducible refine(spec_l21In.calls a3 ((rd_T45 l2 a0).f4) ((rd_T45 l2 a0).f5) true _ A9.out).mono ?_);rintro e w' ⟨rfl,⟨nd,rfl⟩⟩;(try first|exact⟨rfl,_,World.drewN_drewN _ _ _⟩|exact⟨rfl,_,Eq.trans (World.drewN_drewN _ _ _) (congrArg (World.drewN _) (Nat.add_assoc _ _ _))⟩);have k8:=a6.out;have k9:=a7.out;obtain⟨h1,h2,h3,h4,h5⟩:=zd5 a1;obtain⟨h6,h7,h8,h9,i0⟩:=zn5 a1;obtain⟨i1,i2,i3,i4,i5⟩:=zd5 a4;obtain⟨i6,i7,i8,i9,j1⟩:=zn5 a4)|(go_at_call 26;(with_reducible refine(spec_FlyMayTurn.calls k1 d1 d2 _ _ c0 d3 d4 d5 d6 _ _ d0 d7 d8 a0 a3 true _ ?side1 ?side2 ?side3 ?side4 l5.out).mono ?_);(case side1=>repeat(first|exact(Kd.C_below e3.out (zs2 HB a2 a5))|(with_reducible refine Kd.C_alloc ?_ _)|(with_reducible refine Kd.C_drewN ?_ _)|(with_reducible refine Kd.C_drew ?_)));(case side2=>exact e4.out);(case side3=>repeat(first|exact(Kd.C_below e5.out (zs2 HB a2 a5))|(with_reducible refine Kd.C_alloc ?_ _)|(with_reducible refine Kd.C_drewN ?_ _)|(with_reducible refine Kd.C_drew ?_)));(case side4=>exact e6.out);rintro e m2 ⟨rfl,hb⟩;replace a1:=zb a1 hb;replace a4:=zb a4 hb;replace HB:=zE (zs2 HB a2 a5) hb;(try clear hb);(try clear hb2);(try clear hk);(try clear hi)))
   repeat(go_quiet (first|(go_at_call 11;(with_reducible refine(spec_l21In.calls a3 ((rd_T45 l2 a0).f4) ((rd_T45 l2 a0).f5) true _ A9.out).mono ?_);rintro e w' ⟨rfl,⟨nd,rfl⟩⟩;(try first|exact⟨rfl,_,World.drewN_drewN _ _ _⟩|exact⟨rfl,_,Eq.trans (World.drewN_drewN _ _ _) (congrArg (World.drewN _) (Nat.add_assoc _ _ _))⟩);have k8:=a6.out;have k9:=a7.out;obtain⟨h1,h2,h3,h4,h5⟩:=zd5 a1;obtain⟨h6,h7,h8,h9,i0⟩:=zn5 a1;obtain⟨i1,i2,i3,i4,i5⟩:=zd5 a4;obtain⟨i6,i7,i8,i9,j1⟩:=zn5 a4)|(go_at_call 26;(with_reducible refine(spec_FlyMayTurn.calls k1 d1 d2 _ _ c0 d3 d4 d5 d6 _ _ d0 d7 d8 a0 a3 true _ ?side1 ?side2 ?side3 ?side4 l5.out).mono ?_);(case side1=>repeat(first|exact(Kd.C_below e3.out (zs2 HB a2 a5))|(with_reducible refine Kd.C_alloc ?_ _)|(with_reducible refine Kd.C_drewN ?_ _)|(with_reducible refine Kd.C_drew ?_)));(case side2=>exact e4.out);(case side3=>repeat(first|exact(Kd.C_below e5.out (zs2 HB a2 a5))|(with_reducible refine Kd.C_alloc ?_ _)|(with_reducible refine Kd.C_drewN ?_ _)|(with_reducible refine Kd.C_drew ?_)));(case side4=>exact e6.out);rintro e m2 ⟨rfl,hb⟩;replace a1:=zb a1 hb;replace a4:=zb a4 hb;replace HB:=zE (zs2 HB a2 a5) hb;(try clear hb);(try clear hb2);(try clear hk);(try clear hi)));try go_wp2_with (first|(go_at_call 11;(with_reducible refine(spec_l21In.calls a3 ((rd_T45 l2 a0).f4) ((rd_T45 l2 a0).f5) true _ A9.out).mono ?_);rintro e w' ⟨rfl,⟨nd,rfl⟩⟩;(try first|exact⟨rfl,_,World.drewN_drewN _ _ _⟩|exact⟨rfl,_,Eq.trans (World.drewN_drewN _ _ _) (congrArg (World.drewN _) (Nat.add_assoc _ _ _))⟩);have k8:=a6.out;have k9:=a7.out;obtain⟨h1,h2,h3,h4,h5⟩:=zd5 a1;obtain⟨h6,h7,h8,h9,i0⟩:=zn5 a1;obtain⟨i1,i2,i3,i4,i5⟩:=zd5 a4;obtain⟨i6,i7,i8,i9,j1⟩:=zn5 a4)|(go_at_call 26;(with_reducible refine(spec_FlyMayTurn.calls k1 d1 d2 _ _ c0 d3 d4 d5 d6 _ _ d0 d7 d8 a0 a3 true _ ?side1 ?side2 ?side3 ?side4 l5.out).mono ?_);(case side1=>repeat(first|exact(Kd.C_below e3.out (zs2 HB a2 a5))|(with_reducible refine Kd.C_alloc ?_ _)|(with_reducible refine Kd.C_drewN ?_ _)|(with_reducible refine Kd.C_drew ?_)));(case side2=>exact e4.out);(case side3=>repeat(first|exact(Kd.C_below e5.out (zs2 HB a2 a5))|(with_reducible refine Kd.C_alloc ?_ _)|(with_reducible refine Kd.C_drewN ?_ _)|(with_reducible refine Kd.C_drew ?_)));(case side4=>exact e6.out);rintro e m2 ⟨rfl,hb⟩;replace a1:=zb a1 hb;replace a4:=zb a4 hb;replace HB:=zE (zs2 HB a2 a5) hb;(try clear hb);(try clear hb2);(try clear hk);(try clear hi))))
   go_roundg k1
   case measure=>have:=l6.out;omega
   case rel=>exact⟨(true),(wrap64 (a0+1)),zi,zi,H',⟨by have:=l6.out;omega⟩,⟨zh a1⟩,⟨zh a4⟩,⟨zs2 HB a2 a5⟩⟩
mutual
def spec_FlyTurnBy.j0:Nat→Int→List (S45)→Bool→Int→Int→List (S53)→Int→Int→Int→Int→List (S53)→Int→Int→Option (Int)
 |0,_,_,_,_,_,_,_,_,_,_,_,_,_=>none
 |k+1,x2,x7,x18,a0,a1,a2,a3,a4,a5,a6,a7,a8,a9=>if x18=true then(some (-1))else(spec_FlyTurnBy.l0 k x2 x7 x2 a0 a1 a2 a3 a4 a5 a6 a7 a8 a9)
def spec_FlyTurnBy.l0:Nat→Int→List (S45)→Int→Int→Int→List (S53)→Int→Int→Int→Int→List (S53)→Int→Int→Option (Int)
 |0,_,_,_,_,_,_,_,_,_,_,_,_,_=>none
 |k+1,x2,x7,x8,a0,a1,a2,a3,a4,a5,a6,a7,a8,a9=>if x8≤10000 then((spec_l28All.f k a0 a1 a2 a3 a4 a5 a6 a7 a8 a9 x7 x8).bind fun b0=>(if b0=true then(spec_FlyTurnBy.l0 k x2 x7 (wrap64 (x8+1)) a0 a1 a2 a3 a4 a5 a6 a7 a8 a9)else(if x8=x2 then(some (-1))else(some (wrap64 (x8-1))))))else(if x8=x2 then(some (-1))else(some (wrap64 (x8-1))))
end
def spec_FlyTurnBy.f (k:Nat) (a0:Int) (a1:Int) (a3:List (S53)) (a4:Int) (a5:Int) (a6:Int) (a7:Int) (a8:List (S53)) (a9:Int) (b0:Int) (a2:Int):Option (Int):=(spec_FlyTube.f k a0 a1 a3 a4 a5).bind fun b1=>((spec_l21In.f a2 0 10000).bind fun b2=>(if b2=true then((spec_FlyPathOk.f k a6 a7 a8 a9 b0).bind fun b3=>(spec_FlyTurnBy.j0 k a2 b1 (!b3) a0 a1 a3 a4 a5 a6 a7 a8 a9 b0))else(spec_FlyTurnBy.j0 k a2 b1 true a0 a1 a3 a4 a5 a6 a7 a8 a9 b0)))
set_option maxHeartbeats 8000000 in
set_option maxRecDepth 100000 in
theorem spec_FlyTurnBy.calls (k:Nat) (b0:Int) (b1:Int) (e4:Option Addr) (e5:Nat) (a8:List (S53)) (b2:Int) (b3:Int) (b4:Int) (b5:Int) (e6:Option Addr) (e7:Nat) (a9:List (S53)) (b6:Int) (b7:Int) (a2:Int) (r:Int) (w:World) (hr0_2:Kd.C k53 w e4 a8.length a8) (hc0_2:a8.length≤e5) (hr1_2:Kd.C k53 w e6 a9.length a9) (hc1_2:a9.length≤e7) (h:spec_FlyTurnBy.f k b0 b1 a8 b2 b3 b4 b5 a9 b6 b7 a2=some r):
 Calls Try.prog 5 #[.agg #[.int .i64 b0,.int .i64 b1,.slice e4 a8.length e5,.int .i64 b2,.int .i64 b3],.agg #[.int .i64 b4,.int .i64 b5,.slice e6 a9.length e7,.int .i64 b6,.int .i64 b7],.int .i64 a2] w fun e w'=>e= .returned (.int .i64 r)∧Below w.heap.size w w':=by
 have q4:=Try.underlying32;have b9:=zA hr0_2;have c0:=zA hc0_2;clear hr0_2 hc0_2;have d0:=zA hr1_2;have d1:=zA hc1_2;clear hr1_2 hc1_2;have HB:=zA (Below.refl w.heap.size w);have H:=h;clear h;unfold spec_FlyTurnBy.f at H;replace H:=zbd H;obtain⟨b8,A4,H⟩:=H;have o1:=zA H;clear H
 go_enter Try.func5,Try.ntmps5
 go_upto_region 2 with(first|((with_reducible refine gate_dst (N:=3) rfl ?_);refine zbx 3 #[.int .i64 b0,.int .i64 b1,.slice e4 a8.length e5,.int .i64 b2,.int .i64 b3] 32 ?_;intro f8 hg w6 hbox hb;have a0:=zA hbox;have o8:=zgs hg (zs0 HB);have a3:=zgs hg (zs0 HB);replace HB:=zE (zs0 HB) hb;clear hb hbox hg)|((with_reducible refine gate_dst (N:=4) rfl ?_);refine zbx 4 #[.int .i64 b4,.int .i64 b5,.slice e6 a9.length e7,.int .i64 b6,.int .i64 b7] 32 ?_;intro f9 hg w7 hbox hb;have a1:=zA hbox;have o9:=zgs hg (zs1 HB a3);have a4:=zgs hg (zs1 HB a3);have a5:=zne hg a0;have a6:=znf hg a0;replace a0:=zb a0 hb;replace HB:=zE (zs1 HB a3) hb;clear hb hbox hg;have q5:=a5.out;have q6:=a6.out;obtain⟨e8,e9,f0,f1,f2⟩:=zd5 a0;obtain⟨f3,f4,f5,f6,f7⟩:=zn5 a0)|((with_reducible refine gate_callee (f:=10) rfl ?_);refine zgl (N:=some 10) Try.func10 #[.agg #[.int .i64 b0,.int .i64 b1,.slice e4 a8.length e5,.int .i64 b2,.int .i64 b3]] ?_;(with_reducible refine(spec_FlyTube.calls k b0 b1 _ _ a8 b2 b3 b8 _ ?side1 ?side2 A4.out).mono ?_);(case side1=>exact zC b9 HB);(case side2=>exact c0.out);rintro e r1 ⟨g4,rfl,p0,hb⟩;refine⟨_,rfl,?_⟩;have d2:=zA (Kd.R_lower p0 (below_size (zs2 HB a3 a4)));replace a0:=zb a0 hb;replace a1:=zb a1 hb;replace HB:=zE (zs2 HB a3 a4) hb;(try clear hb);(try clear hb2);(try clear hk);(try clear hi);(try clear p0)))
 (try simp only[Act.put,List.setIfInBounds_toArray,List.set_cons_zero,List.set_cons_succ])
 go_cut [18] (fun q7 wc=> ∃(kq:Nat) (d3:Bool),q7= .bool d3∧Aside0 (spec_FlyTurnBy.j0 kq a2 b8 d3 b0 b1 a8 b2 b3 b4 b5 a9 b6 b7=some r)∧Aside0 (kq≤k)∧Aside0 (Kd.R k45 45 wc w.heap.size (fun _=>True) g4 b8)∧Aside0 (wc.heap[f8]?=some (.cells #[.int .i64 b0,.int .i64 b1,(.slice e4 a8.length e5),.int .i64 b2,.int .i64 b3] 32 (0,0)))∧Aside0 (wc.heap[f9]?=some (.cells #[.int .i64 b4,.int .i64 b5,(.slice e6 a9.length e7),.int .i64 b6,.int .i64 b7] 32 (0,0)))∧Aside0 (Below w.heap.size w wc))
 case first=>
  have H:=o1.out;clear o1;replace H:=zbd H;obtain⟨o2,p1,H⟩:=H
  by_cases g2:o2=true
  rotate_left
  ·replace g2:=Bool.eq_false_iff.mpr g2
   subst g2;rw[if_neg zfn]at H;have H':=zA H;clear H
   go_wp2_with (first|((with_reducible refine gate_callee (f:=11) rfl ?_);refine zgl (N:=some 12) Try.func11 #[.int .i64 a2,.int .i64 0,.int .i64 10000] ?_;(with_reducible refine(spec_l21In.calls a2 0 10000 false _ p1.out).mono ?_);rintro e w' ⟨rfl,⟨nd,rfl⟩⟩;refine⟨_,rfl,?_⟩))
   go_meet
   case rel=>exact⟨_,(true),zi,H',⟨by first|omega|exact Nat.le_refl _⟩,⟨zr d2⟩,⟨zh a0⟩,⟨zh a1⟩,⟨zs2 HB a3 a4⟩⟩
  subst g2;rw[if_pos rfl]at H;replace H:=zbd H;obtain⟨g5,q8,H⟩:=H;have H':=zA H;clear H
  go_wp2_with (first|((with_reducible refine gate_callee (f:=11) rfl ?_);refine zgl (N:=some 12) Try.func11 #[.int .i64 a2,.int .i64 0,.int .i64 10000] ?_;(with_reducible refine(spec_l21In.calls a2 0 10000 true _ p1.out).mono ?_);rintro e w' ⟨rfl,⟨nd,rfl⟩⟩;refine⟨_,rfl,?_⟩;have p3:=a6.out;have p4:=a5.out;obtain⟨d4,d5,d6,d7,d8⟩:=zd5 a1;obtain⟨d9,e0,e1,e2,e3⟩:=zn5 a1)|(go_at_call 12;(with_reducible refine(spec_FlyPathOk.calls k b4 b5 _ _ a9 b6 b7 g5 _ ?side1 ?side2 q8.out).mono ?_);(case side1=>repeat(first|exact(Kd.C_below d0.out (zs2 HB a3 a4))|(with_reducible refine Kd.C_alloc ?_ _)|(with_reducible refine Kd.C_drewN ?_ _)|(with_reducible refine Kd.C_drew ?_)));(case side2=>exact d1.out);rintro e r2 ⟨rfl,hb⟩;replace d2:=zA (Kd.R_below (zr d2) hb);replace a0:=zb a0 hb;replace a1:=zb a1 hb;replace HB:=zE (zs2 HB a3 a4) hb;(try clear hb);(try clear hb2);(try clear hk);(try clear hi)))
  go_meet
  case rel=>exact⟨_,(!g5),zi,H',⟨by first|omega|exact Nat.le_refl _⟩,⟨zr d2⟩,⟨zh a0⟩,⟨zh a1⟩,⟨zs2 HB a3 a4⟩⟩
 case rest=>
  clear o1
  try clear c1
  try clear p2
  try clear c5
  try clear c8
  try clear c10
  try clear q9
  try clear g2
  try clear r0
  try clear d4 d5 d6 d7 d8
  try clear e8 e9 f0 f1 f2
  try clear d9 e0 e1 e2 e3
  try clear f3 f4 f5 f6 f7
  obtain⟨kq,d3,rfl,HA,p5,HO_7,a0,a1,HB⟩:=hcut
  cases kq with
  |zero=>exact absurd HA.out (by simp[spec_FlyTurnBy.j0])
  |succ p6=>
   have H:=HA.out;clear HA;simp only[spec_FlyTurnBy.j0]at H
   by_cases g6:d3=true
   ·subst g6
    rw[if_pos rfl]at H;obtain rfl:=Option.some.inj H
    go_wp2
    go_ret;exact⟨ze,zs2 HB a3 a4⟩
   replace g6:=Bool.eq_false_iff.mpr g6;subst g6;rw[if_neg zfn]at H;have H':=zA H;clear H
   go_wp2
   go_loopg [8] p6 (fun kq v8 w'=> ∃(a7:Int),v8= .int .i64 a7∧Aside0 (spec_FlyTurnBy.l0 kq a2 b8 a7 b0 b1 a8 b2 b3 b4 b5 a9 b6 b7=some r)∧Aside0 (kq≤p6)∧Aside0 (Kd.R k45 45 w' w.heap.size (fun _=>True) g4 b8)∧Aside0 (w'.heap[f8]?=some (.cells #[.int .i64 b0,.int .i64 b1,(.slice e4 a8.length e5),.int .i64 b2,.int .i64 b3] 32 (0,0)))∧Aside0 (w'.heap[f9]?=some (.cells #[.int .i64 b4,.int .i64 b5,(.slice e6 a9.length e7),.int .i64 b6,.int .i64 b7] 32 (0,0)))∧Aside0 (Below w.heap.size w w'))
   case atStart=>exact⟨(a2),zi,H',⟨Nat.le_refl _⟩,⟨zr HO_7⟩,⟨zh a0⟩,⟨zh a1⟩,⟨zs2 HB a3 a4⟩⟩
   case round=>
    clear H'
    try clear c1
    try clear p2
    try clear c5
    try clear c8
    try clear c10
    try clear q9
    try clear g2
    try clear r0
    try clear g6
    try clear d4 d5 d6 d7 d8
    try clear e8 e9 f0 f1 f2
    try clear d9 e0 e1 e2 e3
    try clear f3 f4 f5 f6 f7
    try clear p2
    obtain⟨a7,rfl,HA,p7,HO_7,a0,a1,HB⟩:=hrel
    cases gk with
    |zero=>exact absurd HA.out (by simp[spec_FlyTurnBy.l0])
    |succ k2=>
     have H:=HA.out;clear HA;simp only[spec_FlyTurnBy.l0]at H
     by_cases g3:a7≤10000
     rotate_left
     ·rw[if_neg g3]at H
      have g7:decide (a7≤10000)=false:=decide_eq_false g3;clear g3
      by_cases g0:a7=a2
      rotate_left
      ·rw[if_neg g0]at H
       have g8:(a7==a2)=false:=beq_eq_false_iff_ne.mpr g0;have g9:(a7 !=a2)=true:=bne_iff_ne.mpr g0;obtain rfl:=Option.some.inj H
       go_wp2
       go_ret;exact⟨ze,zs2 HB a3 a4⟩
      rw[if_pos g0]at H;have g8:(a7==a2)=true:=beq_iff_eq.mpr g0;have g9:(a7 !=a2)=false:=bne_eq_false_iff_eq.mpr g0;clear g0;obtain rfl:=Option.some.inj H
      go_wp2
      go_ret;exact⟨ze,zs2 HB a3 a4⟩
     rw[if_pos g3]at H;have g7:decide (a7≤10000)=true:=decide_eq_true g3;clear g3;replace H:=zbd H;obtain⟨o3,o4,H⟩:=H
     by_cases h2:o3=true
     ·subst h2
      rw[if_pos rfl]at H;have H':=zA H;clear H;have p8:=a5.out;have p9:=a6.out;obtain⟨h3,h4,h5,h6,h7⟩:=zd5 a0;obtain⟨h8,h9,i0,i1,i2⟩:=zn5 a0;obtain⟨i3,i4,i5,i6,i7⟩:=zd5 a1;obtain⟨i8,i9,j1,j4,j5⟩:=zn5 a1;obtain⟨Ao24,co24,o5⟩:=Kd.R_slice HO_7.out;subst o5
      go_wp2_with (first|(go_at_call 13;(with_reducible refine(spec_l28All.calls k2 b0 b1 _ _ a8 b2 b3 b4 b5 _ _ a9 b6 b7 _ _ b8 a7 true _ ?side1 ?side2 ?side3 ?side4 ?side5 ?side6 o4.out).mono ?_);(case side1=>exact zC b9 HB);(case side2=>exact c0.out);(case side3=>exact zC d0 HB);(case side4=>exact d1.out);(case side5=>repeat(first|exact(Kd.R_reads' HO_7.out).2.2|(with_reducible refine Kd.C_alloc ?_ _)|(with_reducible refine Kd.C_drewN ?_ _)|(with_reducible refine Kd.C_drew ?_)));(case side6=>exact(Kd.R_reads' HO_7.out).2.1);rintro e r3 ⟨rfl,hb⟩;replace HO_7:=zA (Kd.R_below (zr HO_7) hb);replace a0:=zb a0 hb;replace a1:=zb a1 hb;replace HB:=zE (zs2 HB a3 a4) hb;(try clear hb);(try clear hb2);(try clear hk);(try clear hi)))
      go_roundg k2
      case measure=>have:=p5.out;have:=p7.out;omega
      case rel=>exact⟨(wrap64 (a7+1)),zi,H',⟨by have:=p5.out;have:=p7.out;omega⟩,⟨zr HO_7⟩,⟨zh a0⟩,⟨zh a1⟩,⟨zs2 HB a3 a4⟩⟩
     replace h2:=Bool.eq_false_iff.mpr h2;subst h2;rw[if_neg zfn]at H
     by_cases g1:a7=a2
     rotate_left
     ·rw[if_neg g1]at H
      have h0:(a7==a2)=false:=beq_eq_false_iff_ne.mpr g1;have h1:(a7 !=a2)=true:=bne_iff_ne.mpr g1;obtain rfl:=Option.some.inj H;have q0:=a5.out;have q1:=a6.out;obtain⟨j6,j7,j8,j9,k0⟩:=zd5 a0;obtain⟨k1,k3,k4,k5,k6⟩:=zn5 a0;obtain⟨k7,k8,k9,l4,l5⟩:=zd5 a1;obtain⟨l6,l7,l8,l9,m0⟩:=zn5 a1;obtain⟨Ao35,co35,o6⟩:=Kd.R_slice HO_7.out;subst o6
      go_wp2_with (first|(go_at_call 13;(with_reducible refine(spec_l28All.calls k2 b0 b1 _ _ a8 b2 b3 b4 b5 _ _ a9 b6 b7 _ _ b8 a7 false _ ?side1 ?side2 ?side3 ?side4 ?side5 ?side6 o4.out).mono ?_);(case side1=>exact zC b9 HB);(case side2=>exact c0.out);(case side3=>exact zC d0 HB);(case side4=>exact d1.out);(case side5=>repeat(first|exact(Kd.R_reads' HO_7.out).2.2|(with_reducible refine Kd.C_alloc ?_ _)|(with_reducible refine Kd.C_drewN ?_ _)|(with_reducible refine Kd.C_drew ?_)));(case side6=>exact(Kd.R_reads' HO_7.out).2.1);rintro e r4 ⟨rfl,hb⟩;replace HO_7:=zA (Kd.R_below (zr HO_7) hb);replace a0:=zb a0 hb;replace a1:=zb a1 hb;replace HB:=zE (zs2 HB a3 a4) hb;(try clear hb);(try clear hb2);(try clear hk);(try clear hi)))
      go_ret;exact⟨ze,zs2 HB a3 a4⟩
     rw[if_pos g1]at H;have h0:(a7==a2)=true:=beq_iff_eq.mpr g1;have h1:(a7 !=a2)=false:=bne_eq_false_iff_eq.mpr g1;clear g1;obtain rfl:=Option.some.inj H;have q2:=a5.out;have q3:=a6.out;obtain⟨m1,m2,m3,m4,m5⟩:=zd5 a0;obtain⟨m6,m7,m8,m9,n0⟩:=zn5 a0;obtain⟨n1,n2,n3,n4,n5⟩:=zd5 a1;obtain⟨n6,n7,n8,n9,o0⟩:=zn5 a1;obtain⟨Ao30,co30,o7⟩:=Kd.R_slice HO_7.out;subst o7
     go_wp2_with (first|(go_at_call 13;(with_reducible refine(spec_l28All.calls k2 b0 b1 _ _ a8 b2 b3 b4 b5 _ _ a9 b6 b7 _ _ b8 a7 false _ ?side1 ?side2 ?side3 ?side4 ?side5 ?side6 o4.out).mono ?_);(case side1=>exact zC b9 HB);(case side2=>exact c0.out);(case side3=>exact zC d0 HB);(case side4=>exact d1.out);(case side5=>repeat(first|exact(Kd.R_reads' HO_7.out).2.2|(with_reducible refine Kd.C_alloc ?_ _)|(with_reducible refine Kd.C_drewN ?_ _)|(with_reducible refine Kd.C_drew ?_)));(case side6=>exact(Kd.R_reads' HO_7.out).2.1);rintro e r5 ⟨rfl,hb⟩;replace HO_7:=zA (Kd.R_below (zr HO_7) hb);replace a0:=zb a0 hb;replace a1:=zb a1 hb;replace HB:=zE (zs2 HB a3 a4) hb;(try clear hb);(try clear hb2);(try clear hk);(try clear hi)))
     go_ret;exact⟨ze,zs2 HB a3 a4⟩
def laws_toFlyKind.f (a0:Int) (a1:Int):Option (Int×Int):=some (a0,a1)
set_option maxHeartbeats 8000000 in
set_option maxRecDepth 100000 in
theorem laws_toFlyKind.calls (b0:Int) (b1:Int) (r1:Int) (r2:Int) (w:World) (h:laws_toFlyKind.f b0 b1=some (r1,r2)):
 Calls Try.prog 14 #[.agg #[.int .i64 b0,.int .i64 b1]] w fun e w'=>e= .returned (.agg #[.int .i64 r1,.int .i64 r2])∧Below w.heap.size w w':=by
 have e0:=Try.underlying23;have e1:=Try.underlying29;have HB:=zA (Below.refl w.heap.size w);have H:=h;clear h;unfold laws_toFlyKind.f at H;simp only[Option.some.injEq,Prod.mk.injEq]at H;obtain⟨rfl,rfl⟩:=H
 go_enter Try.func14,Try.ntmps14
 go_wp2_with (first|((with_reducible refine gate_dst (N:=1) rfl ?_);refine zbx 1 #[.int .i64 b0,.int .i64 b1] 23 ?_;intro d5 hg w2 hbox hb;have a0:=zA hbox;have d6:=zgs hg (zs0 HB);have a1:=zgs hg (zs0 HB);replace HB:=zE (zs0 HB) hb;clear hb hbox hg)|((with_reducible refine gate_dst (N:=2) rfl ?_);refine zbx 2 #[.int .i64 0,.int .i64 0] 29 ?_;intro b3 hg w3 hbox hb;have a2:=zA hbox;have d7:=zgs hg (zs1 HB a1);have a4:=zgs hg (zs1 HB a1);have a5:=zne hg a0;have a6:=znf hg a0;replace a0:=zb a0 hb;replace HB:=zE (zs1 HB a1) hb;clear hb hbox hg)|((with_reducible refine gate_dst (N:=3) rfl ?_);refine zbx 3 #[.int .i64 0,.int .i64 0] 29 ?_;intro d8 hg w4 hbox hb;have b2:=zA hbox;have d9:=zgs hg (zs2 HB a1 a4);have b4:=zgs hg (zs2 HB a1 a4);have a7:=zne hg a0;have a8:=znf hg a0;have a3:=zne hg a2;have a9:=znf hg a2;replace a0:=zb a0 hb;replace a2:=zb a2 hb;replace HB:=zE (zs2 HB a1 a4) hb;clear hb hbox hg;have e2:=a5.out;have e3:=a6.out;have e4:=a7.out;have e5:=a8.out;obtain⟨b9,c0⟩:=zd2 a0;obtain⟨c1,d0⟩:=zn2 a0;have e6:=a9.out;have e7:=a3.out;obtain⟨d1,d2⟩:=zd2 b2;obtain⟨d3,d4⟩:=zn2 b2;obtain⟨b5,b6⟩:=zd2 a2;obtain⟨b7,b8⟩:=zn2 a2))
 refine bodyPost_ret (results_cell_row rfl _ _ b3 29 #[.int .i64 b0,.int .i64 b1] (0,0) _ rfl ?hz Try.underlying29 rfl (by kernel_rfl)) rfl ?_;(case hz=>exact zpf a2 a3);exact⟨ze,zs3 HB a1 a4 b4⟩
def laws_toFlyStep.f (a0:Int) (a1:Int) (a2:Int) (a3:Int) (a4:Int) (a5:Int) (a6:Bool):Option (Int×Int×Int×Int×Int×Int×Bool):=some (a0,a1,a2,a3,a4,a5,a6)
set_option maxHeartbeats 8000000 in
set_option maxRecDepth 100000 in
theorem laws_toFlyStep.calls (b0:Int) (b1:Int) (b2:Int) (b3:Int) (b4:Int) (b5:Int) (b6:Bool) (r1:Int) (r2:Int) (r3:Int) (r4:Int) (r5:Int) (r6:Int) (r7:Bool) (w:World) (h:laws_toFlyStep.f b0 b1 b2 b3 b4 b5 b6=some (r1,r2,r3,r4,r5,r6,r7)):
 Calls Try.prog 27 #[.agg #[.int .i64 b0,.int .i64 b1,.int .i64 b2,.int .i64 b3,.int .i64 b4,.int .i64 b5,.bool b6]] w fun e w'=>e= .returned (.agg #[.int .i64 r1,.int .i64 r2,.int .i64 r3,.int .i64 r4,.int .i64 r5,.int .i64 r6,.bool r7])∧Below w.heap.size w w':=by
 have h5:=Try.underlying60;have h6:=Try.underlying53;have HB:=zA (Below.refl w.heap.size w);have H:=h;clear h;unfold laws_toFlyStep.f at H;simp only[Option.some.injEq,Prod.mk.injEq]at H;obtain⟨rfl,rfl,rfl,rfl,rfl,rfl,rfl⟩:=H
 go_enter Try.func27,Try.ntmps27
 go_wp2_with (first|((with_reducible refine gate_dst (N:=1) rfl ?_);refine zbx 1 #[.int .i64 b0,.int .i64 b1,.int .i64 b2,.int .i64 b3,.int .i64 b4,.int .i64 b5,.bool b6] 60 ?_;intro h0 hg w2 hbox hb;have a0:=zA hbox;have h1:=zgs hg (zs0 HB);have a1:=zgs hg (zs0 HB);replace HB:=zE (zs0 HB) hb;clear hb hbox hg)|((with_reducible refine gate_dst (N:=2) rfl ?_);refine zbx 2 #[.int .i64 0,.int .i64 0,.int .i64 0,.int .i64 0,.int .i64 0,.int .i64 0,.bool false] 53 ?_;intro b8 hg w3 hbox hb;have a2:=zA hbox;have h2:=zgs hg (zs1 HB a1);have a4:=zgs hg (zs1 HB a1);have a5:=zne hg a0;have a6:=znf hg a0;replace a0:=zb a0 hb;replace HB:=zE (zs1 HB a1) hb;clear hb hbox hg)|((with_reducible refine gate_dst (N:=3) rfl ?_);refine zbx 3 #[.int .i64 0,.int .i64 0,.int .i64 0,.int .i64 0,.int .i64 0,.int .i64 0,.bool false] 53 ?_;intro h3 hg w4 hbox hb;have b7:=zA hbox;have h4:=zgs hg (zs2 HB a1 a4);have b9:=zgs hg (zs2 HB a1 a4);have a7:=zne hg a0;have a8:=znf hg a0;have a3:=zne hg a2;have a9:=znf hg a2;replace a0:=zb a0 hb;replace a2:=zb a2 hb;replace HB:=zE (zs2 HB a1 a4) hb;clear hb hbox hg;have h7:=a5.out;have h8:=a6.out;have h9:=a7.out;have i0:=a8.out;obtain⟨e2,e3,e4,e5,e6,e7,e8⟩:=zd7 a0;obtain⟨e9,f0,f1,f2,f3,f4,f5⟩:=zn7 a0;have i1:=a9.out;have i2:=a3.out;obtain⟨f6,f7,f8,f9,g0,g1,g2⟩:=zd7 b7;obtain⟨g3,g4,g5,g6,g7,g8,g9⟩:=zn7 b7;obtain⟨c0,c1,d0,d1,d2,d3,d4⟩:=zd7 a2;obtain⟨d5,d6,d7,d8,d9,e0,e1⟩:=zn7 a2))
 refine bodyPost_ret (results_cell_row rfl _ _ b8 53 #[.int .i64 b0,.int .i64 b1,.int .i64 b2,.int .i64 b3,.int .i64 b4,.int .i64 b5,.bool b6] (0,0) _ rfl ?hz Try.underlying53 rfl (by kernel_rfl)) rfl ?_;(case hz=>exact zpf a2 a3);exact⟨ze,zs3 HB a1 a4 b9⟩
end Go.Proofs.Ytglgfgeepdmlbaa.QFnExactFlyTurnBy
