/- The walk of what the law FnFlyTight reaches: laid by a program of this session (ownprint.py). -/
import Derived.Test.YtidoahlbaeiemaaQFnFlyTightx0
import Derived.Test.YtidoahlbaeiemaaQFnFlyTightx1
import Derived.Test.YtidoahlbaeiemaaQFnFlyTightx11
import Derived.Test.YtidoahlbaeiemaaQFnFlyTightx13
namespace Go.Proofs.Ytidoahlbaeiemaa.QFnFlyTight
open Go.RowKit Go.Proofs.YtidoahlbaeiemaaW.PrintWords Go.Proofs.YtidoahlbaeiemaaW.PrintLast Go.Proofs.YtidoahlbaeiemaaW.PrintMore Go.Proofs.Ytidoahlbaeiemaa.Z
attribute [local go_sem] max2_int min2_int max_two min_two max_three min_three max_four min_four zdn   -- for this text's walks alone
set_option linter.unusedVariables false
set_option linter.unusedSimpArgs false
attribute [local go_sem high] eqA40
def impl_FlySpans.f (k:Nat) (a1:Int) (a2:Int) (a3:List (S52)) (a4:Int) (a5:Int):Option ((List (S37))×Bool):=(impl_FlyPathOk.f k a1 a2 a3 a4 a5).bind fun a6=>(if a6=true then((impl_FlyPath_spans.f k a1 a2 a3 a4 a5 ([]:List Int)).bind fun a0=>(some (a0.1,a0.2)))else(some (([]:List (S37)),false)))
set_option maxHeartbeats 8000000 in
set_option maxRecDepth 100000 in
theorem impl_FlySpans.calls (k:Nat) (a3:Int) (a4:Int) (a7:Option Addr) (a8:Nat) (a1:List (S52)) (a5:Int) (a6:Int) (r1:List (S37)) (r2:Bool) (w:World) (hr0_2:Kd.C k52 w a7 a1.length a1) (hc0_2:a1.length≤a8) (h:impl_FlySpans.f k a3 a4 a1 a5 a6=some (r1,r2)):
 Calls Try.prog 5 #[.agg #[.int .i64 a3,.int .i64 a4,.slice a7 a1.length a8,.int .i64 a5,.int .i64 a6]] w fun e w'=> ∃v0_:Value,e= .returned (.tuple #[v0_,.bool r2])∧Kd.R k37 37 w' w.heap.size (fun _=>True) v0_ r1∧Below w.heap.size w w':=by
 have f7:=Try.underlying27;have a9:=zA hr0_2;have b0:=zA hc0_2;clear hr0_2 hc0_2;have HB:=zA (Below.refl w.heap.size w);have H:=h;clear h;unfold impl_FlySpans.f at H;replace H:=zbd H;obtain⟨d4,A2,H⟩:=H
 by_cases c3:d4=true
 rotate_left
 ·replace c3:=Bool.eq_false_iff.mpr c3
  subst c3;rw[if_neg zfn]at H;simp only[Option.some.injEq,Prod.mk.injEq]at H;obtain⟨rfl,rfl⟩:=H
  go_enter Try.func5,Try.ntmps5
  go_wp2_with (first|((with_reducible refine gate_dst (N:=1) rfl ?_);refine zbx 1 #[.int .i64 a3,.int .i64 a4,.slice a7 a1.length a8,.int .i64 a5,.int .i64 a6] 27 ?_;intro b1 hg f9 hbox hb;have a0:=zA hbox;have b2:=zgs hg (zs0 HB);have a2:=zgs hg (zs0 HB);replace HB:=zE (zs0 HB) hb;clear hb hbox hg;obtain⟨b6,b7,b8,b9,c0⟩:=zd5 a0;obtain⟨c1,d0,d1,d2,d3⟩:=zn5 a0)|((with_reducible refine gate_callee (f:=16) rfl ?_);refine zgl (N:=some 5) Try.func16 #[.agg #[.int .i64 a3,.int .i64 a4,.slice a7 a1.length a8,.int .i64 a5,.int .i64 a6]] ?_;(with_reducible refine(impl_FlyPathOk.calls k a3 a4 _ _ a1 a5 a6 false _ ?side1 ?side2 A2.out).mono ?_);(case side1=>exact zC a9 HB);(case side2=>exact b0.out);rintro e g0 ⟨rfl,hb⟩;refine⟨_,rfl,?_⟩;replace a0:=zb a0 hb;replace HB:=zE (zs1 HB a2) hb;(try clear hb);(try clear hb2);(try clear hk);(try clear hi)))
  go_ret2
  exact⟨_,ze,by first|exact Kd.R_nil _ _ _ _ _|exact Kd.N_nil _ _ _ _ _|exact Kd.V_nil _ _ _ _ _|exact Kd.Q_nil _ _ _ _ _|exact Kd.S_nil _ _ _ _ _,zs1 HB a2⟩
 subst c3;rw[if_pos rfl]at H;replace H:=Option.bind_eq_some_iff.mp H;obtain⟨⟨b3,b4⟩,f5,H⟩:=H;replace H:(some (b3,b4))=some (r1,r2):=H;have A4:=zA f5;clear f5;simp only[Option.some.injEq,Prod.mk.injEq]at H;obtain⟨rfl,rfl⟩:=H
 go_enter Try.func5,Try.ntmps5
 go_wp2_with (first|((with_reducible refine gate_dst (N:=1) rfl ?_);refine zbx 1 #[.int .i64 a3,.int .i64 a4,.slice a7 a1.length a8,.int .i64 a5,.int .i64 a6] 27 ?_;intro b1 hg w5 hbox hb;have a0:=zA hbox;have b2:=zgs hg (zs0 HB);have a2:=zgs hg (zs0 HB);replace HB:=zE (zs0 HB) hb;clear hb hbox hg;obtain⟨d5,d6,d7,d8,d9⟩:=zd5 a0;obtain⟨e0,e1,e2,e3,e4⟩:=zn5 a0)|((with_reducible refine gate_callee (f:=16) rfl ?_);refine zgl (N:=some 5) Try.func16 #[.agg #[.int .i64 a3,.int .i64 a4,.slice a7 a1.length a8,.int .i64 a5,.int .i64 a6]] ?_;(with_reducible refine(impl_FlyPathOk.calls k a3 a4 _ _ a1 a5 a6 true _ ?side1 ?side2 A2.out).mono ?_);(case side1=>exact zC a9 HB);(case side2=>exact b0.out);rintro e w7 ⟨rfl,hb⟩;refine⟨_,rfl,?_⟩;replace a0:=zb a0 hb;replace HB:=zE (zs1 HB a2) hb;(try clear hb);(try clear hb2);(try clear hk);(try clear hi);obtain⟨e5,e6,e7,e8,e9⟩:=zd5 a0;obtain⟨f0,f1,f2,f3,f4⟩:=zn5 a0)|((with_reducible refine gate_callee (f:=17) rfl ?_);refine zgl (N:=some 8) Try.func17 #[.agg #[.int .i64 a3,.int .i64 a4,.slice a7 a1.length a8,.int .i64 a5,.int .i64 a6],.slice none 0 0] ?_;(refine(impl_FlyPath_spans.calls k a3 a4 _ _ a1 a5 a6 _ _ ([]:List Int) b3 b4 _ ?side1 ?side2 ?side3 ?side4 A4.out).mono ?_);(case side1=>exact zC a9 HB);(case side2=>exact b0.out);(case side3=>exact Kd.C_nil _ _);(case side4=>exact Nat.le_refl _);rintro e w9 ⟨f8,rfl,f6,hb⟩;refine⟨_,rfl,?_⟩;have b5:=zA (Kd.R_lower f6 (below_size (zs1 HB a2)));replace a0:=zb a0 hb;replace HB:=zE (zs1 HB a2) hb;(try clear hb);(try clear hb2);(try clear hk);(try clear hi);(try clear f6)))
 go_ret2
 exact⟨_,ze,zr b5,zs1 HB a2⟩
def impl_FlyTube.l0:Nat→List (S37)→List (S40)→List (S52)→Int→Int→Option ((List (S40)))
 |0,_,_,_,_,_=>none
 |k+1,x3,x5,x16,x17,x18=>if x18<x17 then(if 0≤x18 then(if x18<(x16.length:Int)then(if x18<(x3.length:Int)then(if 0≤(wrap64 (x18+1))then(if(wrap64 (x18+1))<(x3.length:Int)then(if x5.length<2932031007402 then(impl_FlyTube.l0 k x3 (x5++[(⟨(rd_T52 x16 x18).f0,(rd_T52 x16 x18).f1,(rd_T52 x16 x18).f2,(rd_T52 x16 x18).f3,(rd_T37 x3 x18).f0,wrap64 (((rd_T37 x3 (wrap64 (x18+1))).f1)-1)⟩:S40)]) x16 x17 (wrap64 (x18+1)))else(none))else(none))else(none))else(none))else(none))else(none))else(some x5)
def impl_FlyTube.f (k:Nat) (a2:Int) (a3:Int) (a1:List (S52)) (a4:Int) (a5:Int):Option ((List (S40))):=(impl_FlySpans.f k a2 a3 a1 a4 a5).bind fun a0=>(if a0.2=true then(impl_FlyTube.l0 k a0.1 ([]:List (S40)) a1 (a1.length:Int) 0)else(some ([]:List (S40))))
def impl_FlyTube.T8:Bool×List (List Nat×List Nat):=(true,[([],[]),([],[]),([1],[1]),([],[]),([3],[3]),([],[]),([5],[5]),([],[]),([7],[7]),([],[]),([],[]),([9,10],[9,10]),([11],[11]),([12],[12]),([],[]),([],[]),([15],[15]),([14,16],[14,16]),([17],[17]),([18],[18]),([19],[19]),([2,4,6,8,13,20],[2,4,6,8,13,20]),([21],[21]),([0,22],[0,22]),([23,23,0,1,2,3,4,5,6,7,8,9,10,11,12,13,14,15,16,17,18,19,20,21,22,23],[0,23])])
def impl_FlyTube.B8:List Nat:=[0,0,2,0,8,0,32,0,128,0,0,1536,3584,7680,0,0,32768,114688,245760,507904,1032192,2097150,4194302,8388607,16777215]
theorem impl_FlyTube.tab8:rtab .any (opsOf Try.f6 8)=impl_FlyTube.T8:=by kernel_rfl
theorem impl_FlyTube.bits8:waitsOk impl_FlyTube.T8.2 impl_FlyTube.B8=true:=by kernel_rfl
set_option maxHeartbeats 8000000 in
set_option maxRecDepth 100000 in
theorem impl_FlyTube.calls (k:Nat) (a8:Int) (a9:Int) (b6:Option Addr) (b4:Nat) (a1:List (S52)) (b0:Int) (b1:Int) (r:List (S40)) (w:World) (hr0_2:Kd.C k52 w b6 a1.length a1) (hc0_2:a1.length≤b4) (h:impl_FlyTube.f k a8 a9 a1 b0 b1=some r):
 Calls Try.prog 6 #[.agg #[.int .i64 a8,.int .i64 a9,.slice b6 a1.length b4,.int .i64 b0,.int .i64 b1]] w fun e w'=> ∃v0_:Value,e= .returned (v0_)∧Kd.R k40 40 w' w.heap.size (fun _=>True) v0_ r∧Below w.heap.size w w':=by
 have n7:=Try.underlying27;have n8:=Try.underlying52;have n9:=Try.underlying40;have e1:=zA hr0_2;have e2:=zA hc0_2;clear hr0_2 hc0_2;have HB:=zA (Below.refl w.heap.size w);have H:=h;clear h;unfold impl_FlyTube.f at H;replace H:=Option.bind_eq_some_iff.mp H;obtain⟨⟨a5,i0⟩,m8,H⟩:=H;replace H:(if i0=true then(impl_FlyTube.l0 k a5 ([]:List (S40)) a1 (a1.length:Int) 0)else(some ([]:List (S40))))=some r:=H;have A2:=zA m8;clear m8
 by_cases c3:i0=true
 rotate_left
 ·replace c3:=Bool.eq_false_iff.mpr c3
  subst c3;rw[if_neg zfn]at H;obtain rfl:=Option.some.inj H
  go_enter Try.func6,Try.ntmps6
  go_wp2_with (first|((with_reducible refine gate_dst (N:=1) rfl ?_);refine zbx 1 #[.int .i64 a8,.int .i64 a9,.slice b6 a1.length b4,.int .i64 b0,.int .i64 b1] 27 ?_;intro b8 hg o4 hbox hb;have a2:=zA hbox;have i1:=zgs hg (zs0 HB);have a6:=zgs hg (zs0 HB);replace HB:=zE (zs0 HB) hb;clear hb hbox hg;obtain⟨i8,i9,j1,j5,j6⟩:=zd5 a2;obtain⟨j7,j8,j9,k0,k2⟩:=zn5 a2)|((with_reducible refine gate_callee (f:=5) rfl ?_);refine zgl (N:=some 10) Try.func5 #[.agg #[.int .i64 a8,.int .i64 a9,.slice b6 a1.length b4,.int .i64 b0,.int .i64 b1]] ?_;(with_reducible refine(impl_FlySpans.calls k a8 a9 _ _ a1 b0 b1 a5 false _ ?side1 ?side2 A2.out).mono ?_);(case side1=>exact zC e1 HB);(case side2=>exact e2.out);rintro e o5 ⟨e5,rfl,i2,hb⟩;refine⟨_,rfl,?_⟩;have e3:=zA (Kd.R_lower i2 (below_size (zs1 HB a6)));replace a2:=zb a2 hb;replace HB:=zE (zs1 HB a6) hb;(try clear hb);(try clear hb2);(try clear hk);(try clear hi);(try clear i2)))
  go_ret;exact⟨_,ze,by first|exact Kd.R_nil _ _ _ _ _|exact Kd.N_nil _ _ _ _ _|exact Kd.V_nil _ _ _ _ _|exact Kd.Q_nil _ _ _ _ _|exact Kd.S_nil _ _ _ _ _,zs1 HB a6⟩
 subst c3;rw[if_pos rfl]at H;have H':=zA H;clear H
 go_enter Try.func6,Try.ntmps6
 go_wp2_with (first|((with_reducible refine gate_dst (N:=1) rfl ?_);refine zbx 1 #[.int .i64 a8,.int .i64 a9,.slice b6 a1.length b4,.int .i64 b0,.int .i64 b1] 27 ?_;intro b8 hg w4 hbox hb;have a2:=zA hbox;have i1:=zgs hg (zs0 HB);have a6:=zgs hg (zs0 HB);replace HB:=zE (zs0 HB) hb;clear hb hbox hg;obtain⟨e6,e7,e8,e9,f7⟩:=zd5 a2;obtain⟨f8,f9,g0,g1,g2⟩:=zn5 a2)|((with_reducible refine gate_callee (f:=5) rfl ?_);refine zgl (N:=some 10) Try.func5 #[.agg #[.int .i64 a8,.int .i64 a9,.slice b6 a1.length b4,.int .i64 b0,.int .i64 b1]] ?_;(with_reducible refine(impl_FlySpans.calls k a8 a9 _ _ a1 b0 b1 a5 true _ ?side1 ?side2 A2.out).mono ?_);(case side1=>exact zC e1 HB);(case side2=>exact e2.out);rintro e w6 ⟨e5,rfl,i2,hb⟩;refine⟨_,rfl,?_⟩;have e3:=zA (Kd.R_lower i2 (below_size (zs1 HB a6)));replace a2:=zb a2 hb;replace HB:=zE (zs1 HB a6) hb;(try clear hb);(try clear hb2);(try clear hk);(try clear hi);(try clear i2);obtain⟨g3,g4,g5,g6,g7⟩:=zd5 a2;obtain⟨g8,g9,h0,h1,h2⟩:=zn5 a2))
 go_loopg [5,18] k (fun kq v5 o0 w'=> ∃(b7:List (S40)) (a0:Int),o0= .int .i64 a0∧Aside0 (impl_FlyTube.l0 kq a5 b7 a1 (a1.length:Int) a0=some r)∧Aside0 (kq≤k)∧Aside0 (Kd.R k37 37 w' w.heap.size (fun _=>True) e5 a5)∧Aside0 (Kd.R k40 40 w' w.heap.size (fun _=>True) v5 b7)∧Aside0 (w'.heap[b8]?=some (.cells #[.int .i64 a8,.int .i64 a9,(.slice b6 a1.length b4),.int .i64 b0,.int .i64 b1] 27 (0,0)))∧Aside0 (Below w.heap.size w w'))
 case atStart=>exact⟨(([]:List (S40))),(0),zi,H',⟨Nat.le_refl _⟩,⟨zr e3⟩,⟨by first|exact Kd.R_nil _ _ _ _ _|exact Kd.N_nil _ _ _ _ _|exact Kd.V_nil _ _ _ _ _|exact Kd.Q_nil _ _ _ _ _|exact Kd.S_nil _ _ _ _ _⟩,⟨zh a2⟩,⟨zs1 HB a6⟩⟩
 case round=>
  clear H'
  try clear p2
  try clear c3
  try clear c5
  try clear c6
  try clear e6 e7 e8 e9 f7
  try clear g3 g4 g5 g6 g7
  try clear f8 f9 g0 g1 g2
  try clear g8 g9 h0 h1 h2
  obtain⟨b7,a0,rfl,HA,m9,HO_3,HO_5,a2,HB⟩:=hrel
  cases gk with
  |zero=>exact absurd HA.out (by simp[impl_FlyTube.l0])
  |succ k1=>
   have H:=HA.out;clear HA;simp only[impl_FlyTube.l0]at H
   by_cases c8:a0<(a1.length:Int)
   rotate_left
   ·rw[if_neg c8]at H
    have m3:decide (a0<(a1.length:Int))=false:=decide_eq_false c8;clear c8;obtain rfl:=Option.some.inj H
    go_wp2
    go_ret;exact⟨_,ze,zr HO_5,zs1 HB a6⟩
   rw[if_pos c8]at H;have m3:decide (a0<(a1.length:Int))=true:=decide_eq_true c8;clear c8;replace H:=zif H;obtain⟨o1,H⟩:=H
   by_cases c10:a0<(a1.length:Int)
   rotate_left
   ·rw[if_neg c10]at H
    exact absurd H (by simp)
   rw[if_pos c10]at H;have n0:decide (a0<(a1.length:Int))=true:=decide_eq_true c10;clear c10;replace H:=zif H;obtain⟨n1,H⟩:=H;obtain⟨a7,b9⟩: ∃j_:Int,(wrap64 (a0+1))=j_:=⟨_,rfl⟩
   first|rw[b9]at H|simp only[b9]at H
   have m4:(IntKind.i64.wrap (a0+1))=a7:=(i64_w _).trans b9;replace H:=zif H;obtain⟨n2,H⟩:=H
   by_cases k3:(a7)<(a5.length:Int)
   rotate_left
   ·rw[if_neg k3]at H
    exact absurd H (by simp)
   rw[if_pos k3]at H;have n3:decide ((a7)<(a5.length:Int))=true:=decide_eq_true k3;clear k3
   by_cases k4:b7.length<2932031007402
   rotate_left
   ·rw[if_neg k4]at H
    exact absurd H (by simp)
   rw[if_pos k4]at H;have LMc15:=zA k4;clear k4;obtain⟨i3,b5⟩: ∃y_:List (S40),y_=(b7++[(⟨(rd_T52 a1 a0).f0,(rd_T52 a1 a0).f1,(rd_T52 a1 a0).f2,(rd_T52 a1 a0).f3,(rd_T37 a5 a0).f0,wrap64 (((rd_T37 a5 (a7)).f1)-1)⟩:S40)]):=⟨_,rfl⟩
   replace H:(impl_FlyTube.l0 k1 a5 i3 a1 (a1.length:Int) a7)=some r:=by first|(rw[b5];with_reducible exact H)|(have H2_:=(Option.bind_some _ _).symm.trans H;rw[b5];with_reducible exact H2_)|(have H2_:=(Option.bind_some _ _).symm.trans H;with_reducible exact H2_)|with_reducible exact H|(rw[b5];exact H)|exact H
   have i4:=zA b5;clear b5;have H':=zA H;clear H;have h3:0≤(a0:Int):=za;have h4:a0<(a1.length:Int):=za;obtain⟨e4,m5,c0,c1,d0,d1,d2,d3,d4⟩:=at_T52 e1.out a0 h3 h4;cases m5;replace c0:=zx HB c0;replace c1:=zx HB c1;replace d0:=zx HB d0;replace d1:=zx HB d1;replace d2:=zx HB d2;replace d3:=zx HB d3;replace d4:=zx HB d4;replace h3:=eq_true h3;replace h4:=eq_true h4
   try go_wp2_with (first|((with_reducible refine gate_dst (N:=7) rfl ?_);refine zbx 7 #[.int .i64 0,.int .i64 0,.int .i64 0,.int .i64 0,.int .i64 0,.int .i64 0,.bool false] 52 ?_;intro a4 hg o2 hbox hb;have a3:=zA hbox;have n4:=zgs hg (zs1 HB a6);have d5:=zgs hg (zs1 HB a6);have b3:=zne hg a2;have e0:=znf hg a2;replace HO_3:=zA (Kd.R_below (zr HO_3) hb);replace HO_5:=zA (Kd.R_below (zr HO_5) hb);replace a2:=zb a2 hb;replace HB:=zE (zs1 HB a6) hb;clear hb hbox hg;have n5:=e0.out;have n6:=b3.out;obtain⟨k5,k6,k7,k8,k9,l4,l5⟩:=zd7 a3;obtain⟨l6,l7,l8,l9,m0,m1,m2⟩:=zn7 a3))
   obtain⟨h9,e_⟩: ∃x,x=(((((((o2.setCell ⟨a4,0,none⟩ (.int .i64 ((rd_T52 a1 a0).f0))).setCell ⟨a4,1,none⟩ (.int .i64 ((rd_T52 a1 a0).f1))).setCell ⟨a4,2,none⟩ (.int .i64 ((rd_T52 a1 a0).f2))).setCell ⟨a4,3,none⟩ (.int .i64 ((rd_T52 a1 a0).f3))).setCell ⟨a4,4,none⟩ (.int .i64 ((rd_T52 a1 a0).f4))).setCell ⟨a4,5,none⟩ (.int .i64 ((rd_T52 a1 a0).f5))).setCell ⟨a4,6,none⟩ (.bool ((rd_T52 a1 a0).f6))):=⟨_,rfl⟩
   have n0_:Aside0 (Kd.R k37 37 h9 w.heap.size (fun _=>True) e5 a5):=by rw[e_];exact⟨zRf HO_3 a3 (fun _ hk=>trivial)⟩
   have n1_:Aside0 (Kd.R k40 40 h9 w.heap.size (fun _=>True) u5 b7):=by rw[e_];exact⟨zRf HO_5 a3 (fun _ hk=>trivial)⟩
   have n2_:Aside0 (h9.heap[b8]?=some (.cells #[.int .i64 a8,.int .i64 a9,.slice (some e4) a1.length b4,.int .i64 b0,.int .i64 b1] 27 (0,0))):=by rw[e_];exact⟨zpf a2 b3⟩
   have n3_:Aside0 (h9.heap[a4]?=some (.cells #[.int .i64 ((rd_T52 a1 a0).f0),.int .i64 ((rd_T52 a1 a0).f1),.int .i64 ((rd_T52 a1 a0).f2),.int .i64 ((rd_T52 a1 a0).f3),.int .i64 ((rd_T52 a1 a0).f4),.int .i64 ((rd_T52 a1 a0).f5),.bool ((rd_T52 a1 a0).f6)] 52 (0,0))):=by rw[e_];exact⟨zpb a3⟩
   have n4_:Aside0 (Below w.heap.size w h9):=by rw[e_];exact⟨zs2 HB a6 d5⟩
   (try clear HO_3);(try clear HO_5);(try clear a2);(try clear a3);(try clear HB);rw[←e_];clear e_;have HO_3:=n0_;have HO_5:=n1_;have a2:=n2_;have a3:=n3_;have HB:=n4_;clear n0_ n1_ n2_ n3_ n4_;replace HO_3:=zA (Kd.R_drew HO_3.out);replace HO_5:=zA (Kd.R_drew HO_5.out);replace a2:=zA (blk_drew a2.out);replace a3:=zA (blk_drew a3.out);replace HB:=zA (below_drew1 HB.out);obtain⟨Ao21,co21,i5⟩:=Kd.R_slice HO_3.out;(first|subst i5|(injection i5 with f1_ f2_ f3_;have f4_:=f1_.symm;have f5_:=f3_.symm;clear f1_ f2_ f3_;subst f4_;subst f5_));have h5:0≤(a0:Int):=za;have h6:a0<(a5.length:Int):=za;obtain⟨b2,m6,d6,d7⟩:=at_T37 (Kd.R_reads' HO_3.out).2.2 a0 h5 h6;cases m6;replace h5:=eq_true h5;replace h6:=eq_true h6;have h7:0≤((a7):Int):=za;have h8:(a7)<(a5.length:Int):=za;obtain⟨i6,m7,d8,d9⟩:=at_T37 (Kd.R_reads' HO_3.out).2.2 (a7) h7 h8;obtain rfl:b2=i6:=(by injection m7);replace h7:=eq_true h7;replace h8:=eq_true h8;refine start_ (n:=25) (S:=fun w'=>w'.cell? ⟨a4,0,none⟩=some (.int .i64 ((rd_T52 a1 a0).f0))∧w'.cell? ⟨a4,1,none⟩=some (.int .i64 ((rd_T52 a1 a0).f1))∧w'.cell? ⟨a4,2,none⟩=some (.int .i64 ((rd_T52 a1 a0).f2))∧w'.cell? ⟨a4,3,none⟩=some (.int .i64 ((rd_T52 a1 a0).f3))∧w'.cell? ⟨a4,4,none⟩=some (.int .i64 ((rd_T52 a1 a0).f4))∧w'.cell? ⟨a4,5,none⟩=some (.int .i64 ((rd_T52 a1 a0).f5))∧w'.cell? ⟨a4,6,none⟩=some (.bool ((rd_T52 a1 a0).f6))∧w'.cell? (b2.add ((a0).toNat*2))=some (.int .i64 ((rd_T37 a5 a0).f0))∧w'.cell? ⟨(b2.add ((a0).toNat*2)).block,(b2.add ((a0).toNat*2)).off+1,none⟩=some (.int .i64 ((rd_T37 a5 a0).f1))∧w'.cell? (b2.add (((a7)).toNat*2))=some (.int .i64 ((rd_T37 a5 (a7)).f0))∧w'.cell? ⟨(b2.add (((a7)).toNat*2)).block,(b2.add (((a7)).toNat*2)).off+1,none⟩=some (.int .i64 ((rd_T37 a5 (a7)).f1))) (ds:=[22,23]) #[F,F,F,F,F,F,F,F,F,F,F,F,F,F,F,F,F,F,F,F,F,F,F,F,F] (by kernel_rfl) rfl rfl ⟨zc0 a3,zc1 a3,zc2 a3,zc3 a3,zc4 a3,zc5 a3,zc6 a3,d6,d7,d8,d9⟩ (fun hHeld=>?_);refine with_tabW impl_FlyTube.tab8 impl_FlyTube.bits8 (fun HT_ HW_=>?_);generalize h9.drew=o6 at HO_3 HO_5 a2 a3 HB d6 d7 d8 d9 hHeld⊢;refine zq HT_ 0 ?_;refine zq HT_ 1 ?_;refine zq HT_ 3 ?_;refine zq HT_ 5 ?_;refine zq HT_ 7 ?_;refine zq HT_ 9 ?_;refine zq HT_ 10 ?_;refine zq HT_ 11 ?_;refine zq HT_ 12 ?_;refine zq HT_ 14 ?_;refine zq HT_ 15 ?_;refine zq HT_ 16 ?_;refine zq HT_ 17 ?_;refine zq HT_ 18 ?_;refine zk11 HT_ HW_ hHeld 2 ?_;refine zk11 HT_ HW_ hHeld 4 ?_;refine zk11 HT_ HW_ hHeld 6 ?_;refine zk11 HT_ HW_ hHeld 8 ?_;refine zk11 HT_ HW_ hHeld 13 ?_;refine zk11 HT_ HW_ hHeld 19 ?_;refine zq HT_ 20 ?_;refine zq HT_ 21 ?_;refine zO HT_ 22 (fun K hK=>?_);refine value_ (w1:=?_) (v:=?_) (by rfl) rfl ?_ ?_;rotate_left 2
   ·go_simp
    constructor
    ·rfl
    ·rfl
   refine hK.out _ _ ?_;clear hK K;refine zN ?_;refine zO HT_ 23 (fun K hK=>?_);refine Kd.R_append_step k40 (w0:=w) w.heap.size (by rfl) (.tmp 23) (.tmp 45) 32 40 (.agg #[(.int .i64 0),(.int .i64 0),(.int .i64 0),(.int .i64 0),(.int .i64 0),(.int .i64 0)]) 48 rfl Try.underlying32 info40 rfl (by decide) (by omega) u5 b7 (⟨(rd_T52 a1 a0).f0,(rd_T52 a1 a0).f1,(rd_T52 a1 a0).f2,(rd_T52 a1 a0).f3,(rd_T37 a5 a0).f0,wrap64 (((rd_T37 a5 (a7)).f1)-1)⟩:S40) [.int .i64 ((rd_T52 a1 a0).f0),.int .i64 ((rd_T52 a1 a0).f1),.int .i64 ((rd_T52 a1 a0).f2),.int .i64 ((rd_T52 a1 a0).f3),.int .i64 ((rd_T37 a5 a0).f0),.int .i64 (wrap64 (((rd_T37 a5 (a7)).f1)-1))] (fun _=>True) (fun _=>False) rfl rfl ?aP (fun _ hk=>hk.elim) ?aF ?aO ?aB ?aS ?aL ?_;(case aP=>exact k40_mkM _ _ _ (⟨(rd_T52 a1 a0).f0,(rd_T52 a1 a0).f1,(rd_T52 a1 a0).f2,(rd_T52 a1 a0).f3,(rd_T37 a5 a0).f0,wrap64 (((rd_T37 a5 (a7)).f1)-1)⟩:S40));(case aB=>exact(zs2 HB a6 d5));(case aF=>exact(fun _ _=>trivial));(case aO=>exact(zr HO_5));(case aS=>exact(below_size (zs2 HB a6 d5)));(case aL=>have:=LMc15.out;omega);intro o3 o7 ho hb hg hat;rw[←i4.out]at ho;have i7:=zA (ho);replace HO_3:=zA (Kd.R_over' (zr HO_3) (Kd.R_typed (zr HO_5)) (by decide) hg);replace a2:=zA (blk_grown (g:=b8) (o:= .cells #[.int .i64 a8,.int .i64 a9,.slice (some e4) a1.length b4,.int .i64 b0,.int .i64 b1] 27 (0,0)) (zh a2) hg (Kd.R_ne HO_5.out a2.out (by decide)));replace a3:=zA (blk_grown (g:=a4) (o:= .cells #[.int .i64 ((rd_T52 a1 a0).f0),.int .i64 ((rd_T52 a1 a0).f1),.int .i64 ((rd_T52 a1 a0).f2),.int .i64 ((rd_T52 a1 a0).f3),.int .i64 ((rd_T52 a1 a0).f4),.int .i64 ((rd_T52 a1 a0).f5),.bool ((rd_T52 a1 a0).f6)] 52 (0,0)) (zh a3) hg (Kd.R_ne HO_5.out a3.out (by decide)));replace HB:=zA (hb);clear HO_5;clear ho hb hg hat;refine hK.out _ _ ?_;clear hK K;refine zN ?_;refine zq HT_ 24 ?_;refine done_ (done_of HT_.out (by kernel_rfl)) ?_
   try go_wp2
   go_roundg k1
   case measure=>have:=m9.out;omega
   case rel=>exact⟨(i3),(a7),(by first|rfl|(simp;done)|(simp only[←b9]<;>(first|rfl|exact congrArg Value.bool (leq_not _ _)|exact leq_not _ _|simp))|(simp[*];done)),H',⟨by have:=m9.out;omega⟩,⟨zr HO_3⟩,⟨zr i7⟩,⟨zh a2⟩,⟨zs2 HB a6 d5⟩⟩
def laws_wfTube.l0:Nat→List (S40)→List (S40)→Int→Option (Bool)
 |0,_,_,_=>none
 |k+1,x0,x1,x5=>if x5<(x0.length:Int)then(if 0≤x5 then(if x5<(x1.length:Int)then(if(!(((rd_T40 x0 x5).f0)==((rd_T40 x1 x5).f0))||(!(((rd_T40 x0 x5).f1)==((rd_T40 x1 x5).f1))||(!(((rd_T40 x0 x5).f2)==((rd_T40 x1 x5).f2))||(!(((rd_T40 x0 x5).f3)==((rd_T40 x1 x5).f3))||(!(((rd_T40 x0 x5).f4)==((rd_T40 x1 x5).f4))||(!(((rd_T40 x0 x5).f5)==((rd_T40 x1 x5).f5))))))))=true then(some false)else(laws_wfTube.l0 k x0 x1 (wrap64 (x5+1))))else(none))else(none))else(some true)
def laws_wfTube.f (k:Nat) (l0:List (S40)) (l1:List (S40)):Option (Bool):=if(l0.length:Int)=(l1.length:Int)then(laws_wfTube.l0 k l0 l1 0)else(some false)
set_option maxHeartbeats 8000000 in
set_option maxRecDepth 100000 in
theorem laws_wfTube.calls (k:Nat) (A0:Option Addr) (c0:Nat) (l0:List (S40)) (A1:Option Addr) (c1:Nat) (l1:List (S40)) (r:Bool) (w:World) (hr0:Kd.C k40 w A0 l0.length l0) (hc0:l0.length≤c0) (hr1:Kd.C k40 w A1 l1.length l1) (hc1:l1.length≤c1) (h:laws_wfTube.f k l0 l1=some r):
 Calls Try.prog 8 #[.slice A0 l0.length c0,.slice A1 l1.length c1] w fun e w'=>e= .returned (.bool r)∧Drawn0 w w':=by
 have d9:=Try.underlying40;have d6:=zA hr0;have e2:=zA hc0;clear hr0 hc0;have d7:=zA hr1;have e3:=zA hc1;clear hr1 hc1;have H:=h;clear h;unfold laws_wfTube.f at H
 by_cases c3:(l0.length:Int)=(l1.length:Int)
 rotate_left
 ·rw[if_neg c3]at H
  have b9:((l0.length:Int)==(l1.length:Int))=false:=beq_eq_false_iff_ne.mpr c3;have d0:((l0.length:Int) !=(l1.length:Int))=true:=bne_iff_ne.mpr c3
  have d1:(l0.length==l1.length)=false:=by first|simpa using c3|(simp at c3⊢;omega)
  obtain rfl:=Option.some.inj H
  go_enter Try.func8,Try.ntmps8
  go_wp2
  repeat(go_quiet (fail);try go_wp2)
  go_ret;exact⟨by first|rfl|(simp;done)|(simp[*];done),by repeat(first|exact Drawn0.refl _|apply Drawn0.step)⟩
 rw[if_pos c3]at H;have b9:((l0.length:Int)==(l1.length:Int))=true:=beq_iff_eq.mpr c3;have d0:((l0.length:Int) !=(l1.length:Int))=false:=bne_eq_false_iff_eq.mpr c3
 have d1:(l0.length==l1.length)=true:=by first|simpa using c3|(simp at c3⊢;omega)
 clear c3;have H':=zA H;clear H
 go_enter Try.func8,Try.ntmps8
 go_wp2
 repeat(go_quiet (fail);try go_wp2)
 go_loopg [5] k (fun kq v5 w'=> ∃(a0:Int),v5= .int .i64 a0∧Aside0 (laws_wfTube.l0 kq l0 l1 a0=some r)∧Aside0 (kq≤k)∧Drawn0 w w')
 case atStart=>exact⟨(0),zi,H',⟨Nat.le_refl _⟩,by repeat(first|exact Drawn0.refl _|apply Drawn0.step)⟩
 case round=>
  clear H'
  try clear c1
  try clear p2
  try clear c3
  try clear b9
  try clear d0
  try clear d1
  obtain⟨a0,rfl,HA,d8,⟨m1,rfl⟩⟩:=hrel
  cases gk with
  |zero=>exact absurd HA.out (by simp[laws_wfTube.l0])
  |succ k1=>
   have H:=HA.out;clear HA;simp only[laws_wfTube.l0]at H
   by_cases c4:a0<(l0.length:Int)
   rotate_left
   ·rw[if_neg c4]at H
    have d4:decide (a0<(l0.length:Int))=false:=decide_eq_false c4;clear c4;obtain rfl:=Option.some.inj H
    go_wp2
    repeat(go_quiet (fail);try go_wp2)
    go_ret;exact⟨by first|rfl|(simp;done)|(simp[*];done),by repeat(first|exact Drawn0.refl _|apply Drawn0.step)⟩
   rw[if_pos c4]at H;have d4:decide (a0<(l0.length:Int))=true:=decide_eq_true c4;clear c4;replace H:=zif H;obtain⟨e0,H⟩:=H
   by_cases c6:a0<(l1.length:Int)
   rotate_left
   ·rw[if_neg c6]at H
    exact absurd H (by simp)
   rw[if_pos c6]at H;have e1:decide (a0<(l1.length:Int))=true:=decide_eq_true c6;clear c6
   by_cases c7:(!(((rd_T40 l0 a0).f0)==((rd_T40 l1 a0).f0))||(!(((rd_T40 l0 a0).f1)==((rd_T40 l1 a0).f1))||(!(((rd_T40 l0 a0).f2)==((rd_T40 l1 a0).f2))||(!(((rd_T40 l0 a0).f3)==((rd_T40 l1 a0).f3))||(!(((rd_T40 l0 a0).f4)==((rd_T40 l1 a0).f4))||(!(((rd_T40 l0 a0).f5)==((rd_T40 l1 a0).f5))))))))=true
   ·rw[if_pos c7]at H
    have d5:(!(((rd_T40 l0 a0).f0)==((rd_T40 l1 a0).f0))||(!(((rd_T40 l0 a0).f1)==((rd_T40 l1 a0).f1))||(!(((rd_T40 l0 a0).f2)==((rd_T40 l1 a0).f2))||(!(((rd_T40 l0 a0).f3)==((rd_T40 l1 a0).f3))||(!(((rd_T40 l0 a0).f4)==((rd_T40 l1 a0).f4))||(!(((rd_T40 l0 a0).f5)==((rd_T40 l1 a0).f5))))))))=true:=c7;clear c7;obtain rfl:=Option.some.inj H;have a1:0≤(a0:Int):=za;have a2:a0<(l0.length:Int):=za;obtain⟨d2,b7,a5,a6,a7,a8,a9,b0⟩:=at_T40 d6.out a0 a1 a2;cases b7;replace a1:=eq_true a1;replace a2:=eq_true a2;have a3:0≤(a0:Int):=za;have a4:a0<(l1.length:Int):=za;obtain⟨d3,b8,b1,b2,b3,b4,b5,b6⟩:=at_T40 d7.out a0 a3 a4;cases b8;replace a3:=eq_true a3;replace a4:=eq_true a4
    go_wp2
    repeat(go_quiet (fail);try go_wp2)
    go_ret;exact⟨by first|rfl|(simp;done)|(simp[*];done),by repeat(first|exact Drawn0.refl _|apply Drawn0.step)⟩
   rw[if_neg c7]at H
   have d5:(!(((rd_T40 l0 a0).f0)==((rd_T40 l1 a0).f0))||(!(((rd_T40 l0 a0).f1)==((rd_T40 l1 a0).f1))||(!(((rd_T40 l0 a0).f2)==((rd_T40 l1 a0).f2))||(!(((rd_T40 l0 a0).f3)==((rd_T40 l1 a0).f3))||(!(((rd_T40 l0 a0).f4)==((rd_T40 l1 a0).f4))||(!(((rd_T40 l0 a0).f5)==((rd_T40 l1 a0).f5))))))))=false:=by simpa using c7
   clear c7;have H':=zA H;clear H;have a1:0≤(a0:Int):=za;have a2:a0<(l0.length:Int):=za;obtain⟨d2,b7,a5,a6,a7,a8,a9,b0⟩:=at_T40 d6.out a0 a1 a2;cases b7;replace a1:=eq_true a1;replace a2:=eq_true a2;have a3:0≤(a0:Int):=za;have a4:a0<(l1.length:Int):=za;obtain⟨d3,b8,b1,b2,b3,b4,b5,b6⟩:=at_T40 d7.out a0 a3 a4;cases b8;replace a3:=eq_true a3;replace a4:=eq_true a4
   go_wp2
   repeat(go_quiet (fail);try go_wp2)
   go_roundg k1
   case measure=>have:=d8.out;omega
   case rel=>exact⟨(wrap64 (a0+1)),zi,H',⟨by have:=d8.out;omega⟩,by repeat(first|exact Drawn0.refl _|apply Drawn0.step)⟩
end Go.Proofs.Ytidoahlbaeiemaa.QFnFlyTight
