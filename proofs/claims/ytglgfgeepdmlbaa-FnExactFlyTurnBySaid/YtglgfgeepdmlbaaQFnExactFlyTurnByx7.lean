/- The walk of what the law FnExactFlyTurnBy reaches: laid by a program of this session (ownprint.py). -/
import Derived.Test.YtglgfgeepdmlbaaQFnExactFlyTurnByx0
import Derived.Test.YtglgfgeepdmlbaaQFnExactFlyTurnByx4
import Derived.Test.YtglgfgeepdmlbaaQFnExactFlyTurnByx6
namespace Go.Proofs.Ytglgfgeepdmlbaa.QFnExactFlyTurnBy
open Go.RowKit Go.Proofs.YtglgfgeepdmlbaaW.PrintWords Go.Proofs.YtglgfgeepdmlbaaW.PrintLast Go.Proofs.YtglgfgeepdmlbaaW.PrintMore Go.Proofs.Ytglgfgeepdmlbaa.Z
attribute [local go_sem] max2_int min2_int max_two min_two max_three min_three max_four min_four zdn   -- for this text's walks alone
set_option linter.unusedVariables false
set_option linter.unusedSimpArgs false
def spec_FlySpans.f (k:Nat) (a1:Int) (a2:Int) (a3:List (S53)) (a4:Int) (a5:Int):Option ((List (S55))×Bool):=(spec_FlyPathOk.f k a1 a2 a3 a4 a5).bind fun a6=>(if a6=true then((spec_l24Spans.f k a1 a2 a3 a4 a5).bind fun a0=>(some (a0.1,a0.2)))else(some ((([]:List (S55))),false)))
set_option maxHeartbeats 8000000 in
set_option maxRecDepth 100000 in
theorem spec_FlySpans.calls (k:Nat) (a3:Int) (a4:Int) (a8:Option Addr) (a9:Nat) (a2:List (S53)) (a5:Int) (a6:Int) (r1:List (S55)) (r2:Bool) (w:World) (hr0_2:Kd.C k53 w a8 a2.length a2) (hc0_2:a2.length≤a9) (h:spec_FlySpans.f k a3 a4 a2 a5 a6=some (r1,r2)):
 Calls Try.prog 22 #[.agg #[.int .i64 a3,.int .i64 a4,.slice a8 a2.length a9,.int .i64 a5,.int .i64 a6]] w fun e w'=> ∃v0_:Value,e= .returned (.tuple #[v0_,.bool r2])∧Kd.R k55 55 w' w.heap.size (fun _=>True) v0_ r1∧Below w.heap.size w w':=by
 have g2:=Try.underlying32;have b0:=zA hr0_2;have b1:=zA hc0_2;clear hr0_2 hc0_2;have HB:=zA (Below.refl w.heap.size w);have H:=h;clear h;unfold spec_FlySpans.f at H;replace H:=zbd H;obtain⟨d8,A2,H⟩:=H
 by_cases c3:d8=true
 rotate_left
 ·replace c3:=Bool.eq_false_iff.mpr c3
  subst c3;rw[if_neg zfn]at H;obtain⟨d9,a7⟩: ∃y_:List (S55),y_=(([]:List (S55))):=⟨_,rfl⟩
  replace H:(some (d9,false))=some (r1,r2):=by first|(rw[a7];with_reducible exact H)|(have H2_:=(Option.bind_some _ _).symm.trans H;rw[a7];with_reducible exact H2_)|(have H2_:=(Option.bind_some _ _).symm.trans H;with_reducible exact H2_)|with_reducible exact H|(rw[a7];exact H)|exact H
  have b3:=zA a7;clear a7;simp only[Option.some.injEq,Prod.mk.injEq]at H;obtain⟨rfl,rfl⟩:=H
  go_enter Try.func22,Try.ntmps22
  go_wp2_with (first|((with_reducible refine gate_dst (N:=1) rfl ?_);refine zbx 1 #[.int .i64 a3,.int .i64 a4,.slice a8 a2.length a9,.int .i64 a5,.int .i64 a6] 32 ?_;intro b4 hg g5 hbox hb;have a0:=zA hbox;have b5:=zgs hg (zs0 HB);have a1:=zgs hg (zs0 HB);replace HB:=zE (zs0 HB) hb;clear hb hbox hg;obtain⟨c0,c1,d0,d1,d2⟩:=zd5 a0;obtain⟨d3,d4,d5,d6,d7⟩:=zn5 a0)|((with_reducible refine gate_callee (f:=12) rfl ?_);refine zgl (N:=some 5) Try.func12 #[.agg #[.int .i64 a3,.int .i64 a4,.slice a8 a2.length a9,.int .i64 a5,.int .i64 a6]] ?_;(with_reducible refine(spec_FlyPathOk.calls k a3 a4 _ _ a2 a5 a6 false _ ?side1 ?side2 A2.out).mono ?_);(case side1=>exact zC b0 HB);(case side2=>exact b1.out);rintro e g6 ⟨rfl,hb⟩;refine⟨_,rfl,?_⟩;replace a0:=zb a0 hb;replace HB:=zE (zs1 HB a1) hb;(try clear hb);(try clear hb2);(try clear hk);(try clear hi))|((with_reducible refine gate_dst (N:=7) rfl ?_);refine Kd.R_lit k55 _ 55 ?hg (N:=7) ?hd (xs:=([]:List (S55))) (inner:=[]) (ok:=fun _=>True) (okp:=fun _=>True) ?hr ?hp (fun _ hk=>hk) trivial (Below.refl _ _) (Nat.le_refl _) (by simp) ?_;(case hd=>rfl);(case hg=>rfl);(case hr=>first|(go_simp;done)|(go_simp;rfl));(case hp=>exact(Reps.none _ _));intro g3 g7 b2 hb hg_ hnew_;clear hg_ hnew_;(first|rw[←b3.out]at b2|(simp only[Int.reduceToNat]at b2;rw[←b3.out]at b2));have b6:=zA (Kd.R_lower b2 (below_size (zs1 HB a1)));replace a0:=zb a0 hb;replace HB:=zE (zs1 HB a1) hb;clear hb b2))
  go_ret2
  exact⟨_,ze,zr b6,zs1 HB a1⟩
 subst c3;rw[if_pos rfl]at H;replace H:=Option.bind_eq_some_iff.mp H;obtain⟨⟨b7,b8⟩,g0,H⟩:=H;replace H:(some (b7,b8))=some (r1,r2):=H;have A4:=zA g0;clear g0;simp only[Option.some.injEq,Prod.mk.injEq]at H;obtain⟨rfl,rfl⟩:=H
 go_enter Try.func22,Try.ntmps22
 go_wp2_with (first|((with_reducible refine gate_dst (N:=1) rfl ?_);refine zbx 1 #[.int .i64 a3,.int .i64 a4,.slice a8 a2.length a9,.int .i64 a5,.int .i64 a6] 32 ?_;intro b4 hg w5 hbox hb;have a0:=zA hbox;have b5:=zgs hg (zs0 HB);have a1:=zgs hg (zs0 HB);replace HB:=zE (zs0 HB) hb;clear hb hbox hg;obtain⟨e0,e1,e2,e3,e4⟩:=zd5 a0;obtain⟨e5,e6,e7,e8,e9⟩:=zn5 a0)|((with_reducible refine gate_callee (f:=12) rfl ?_);refine zgl (N:=some 5) Try.func12 #[.agg #[.int .i64 a3,.int .i64 a4,.slice a8 a2.length a9,.int .i64 a5,.int .i64 a6]] ?_;(with_reducible refine(spec_FlyPathOk.calls k a3 a4 _ _ a2 a5 a6 true _ ?side1 ?side2 A2.out).mono ?_);(case side1=>exact zC b0 HB);(case side2=>exact b1.out);rintro e w7 ⟨rfl,hb⟩;refine⟨_,rfl,?_⟩;replace a0:=zb a0 hb;replace HB:=zE (zs1 HB a1) hb;(try clear hb);(try clear hb2);(try clear hk);(try clear hi);obtain⟨f0,f1,f2,f3,f4⟩:=zd5 a0;obtain⟨f5,f6,f7,f8,f9⟩:=zn5 a0)|((with_reducible refine gate_callee (f:=36) rfl ?_);refine zgl (N:=some 9) Try.func36 #[.agg #[.int .i64 a3,.int .i64 a4,.slice a8 a2.length a9,.int .i64 a5,.int .i64 a6]] ?_;(with_reducible refine(spec_l24Spans.calls k a3 a4 _ _ a2 a5 a6 b7 b8 _ ?side1 ?side2 A4.out).mono ?_);(case side1=>exact zC b0 HB);(case side2=>exact b1.out);rintro e w9 ⟨g4,rfl,g1,hb⟩;refine⟨_,rfl,?_⟩;have b9:=zA (Kd.R_lower g1 (below_size (zs1 HB a1)));replace a0:=zb a0 hb;replace HB:=zE (zs1 HB a1) hb;(try clear hb);(try clear hb2);(try clear hk);(try clear hi);(try clear g1)))
 go_ret2
 exact⟨_,ze,zr b9,zs1 HB a1⟩
def spec_FlyTube.l0:Nat→List (S45)→List (S55)→Bool→Int→Int→Int→List (S53)→Int→Int→Option ((List (S45)))
 |0,_,_,_,_,_,_,_,_,_=>none
 |k+1,x3,x4,x5,x6,a1,a2,a0,a3,a4=>if x5=true then(if x6<(a0.length:Int)then(if 0≤x6 then(if x6<(x4.length:Int)then(if 0≤(wrap64 (x6+1))then(if(wrap64 (x6+1))<(x4.length:Int)then(if x3.length<2932031007402 then(spec_FlyTube.l0 k (x3++[(⟨(rd_T53 a0 x6).f0,(rd_T53 a0 x6).f1,(rd_T53 a0 x6).f2,(rd_T53 a0 x6).f3,(rd_T55 x4 x6).f0,wrap64 (((rd_T55 x4 (wrap64 (x6+1))).f1)-1)⟩:S45)]) x4 x5 (wrap64 (x6+1)) a1 a2 a0 a3 a4)else(none))else(none))else(none))else(none))else(none))else(some x3))else(some x3)
def spec_FlyTube.f (k:Nat) (a1:Int) (a2:Int) (a3:List (S53)) (a4:Int) (a5:Int):Option ((List (S45))):=(spec_FlySpans.f k a1 a2 a3 a4 a5).bind fun a0=>(spec_FlyTube.l0 k (([]:List (S45))) a0.1 a0.2 0 a1 a2 a3 a4 a5)
def spec_FlyTube.T7:Bool×List (List Nat×List Nat):=(true,[([],[]),([],[]),([1],[1]),([],[]),([3],[3]),([],[]),([5],[5]),([],[]),([7],[7]),([],[]),([],[]),([9,10],[9,10]),([11],[11]),([12],[12]),([],[]),([],[]),([15],[15]),([14,16],[14,16]),([17],[17]),([18],[18]),([19],[19]),([2,4,6,8,13,20],[2,4,6,8,13,20]),([21],[21]),([0,22],[0,22]),([23,23,0,1,2,3,4,5,6,7,8,9,10,11,12,13,14,15,16,17,18,19,20,21,22,23],[0,23])])
def spec_FlyTube.B7:List Nat:=[0,0,2,0,8,0,32,0,128,0,0,1536,3584,7680,0,0,32768,114688,245760,507904,1032192,2097150,4194302,8388607,16777215]
theorem spec_FlyTube.tab7:rtab .any (opsOf Try.f10 7)=spec_FlyTube.T7:=by kernel_rfl
theorem spec_FlyTube.bits7:waitsOk spec_FlyTube.T7.2 spec_FlyTube.B7=true:=by kernel_rfl
set_option maxHeartbeats 8000000 in
set_option maxRecDepth 100000 in
theorem spec_FlyTube.calls (k:Nat) (a8:Int) (a9:Int) (e1:Option Addr) (b6:Nat) (a1:List (S53)) (b0:Int) (b1:Int) (r:List (S45)) (w:World) (hr0_2:Kd.C k53 w e1 a1.length a1) (hc0_2:a1.length≤b6) (h:spec_FlyTube.f k a8 a9 a1 b0 b1=some r):
 Calls Try.prog 10 #[.agg #[.int .i64 a8,.int .i64 a9,.slice e1 a1.length b6,.int .i64 b0,.int .i64 b1]] w fun e w'=> ∃v0_:Value,e= .returned (v0_)∧Kd.R k45 45 w' w.heap.size (fun _=>True) v0_ r∧Below w.heap.size w w':=by
 have o4:=Try.underlying32;have o5:=Try.underlying53;have o6:=Try.underlying45;have e5:=zA hr0_2;have h4:=zA hc0_2;clear hr0_2 hc0_2;have HB:=zA (Below.refl w.heap.size w);have H:=h;clear h;unfold spec_FlyTube.f at H;obtain⟨e9,b4⟩: ∃y_:List (S45),y_=(([]:List (S45))):=⟨_,rfl⟩
 replace H:((spec_FlySpans.f k a8 a9 a1 b0 b1).bind fun e6=>(spec_FlyTube.l0 k e9 e6.1 e6.2 0 a8 a9 a1 b0 b1))=some r:=by first|(rw[b4];with_reducible exact H)|(have H2_:=(Option.bind_some _ _).symm.trans H;rw[b4];with_reducible exact H2_)|(have H2_:=(Option.bind_some _ _).symm.trans H;with_reducible exact H2_)|with_reducible exact H|(rw[b4];exact H)|exact H
 have e7:=zA b4;clear b4;replace H:=Option.bind_eq_some_iff.mp H;obtain⟨⟨a5,e4⟩,n3,H⟩:=H;replace H:(spec_FlyTube.l0 k e9 a5 e4 0 a8 a9 a1 b0 b1)=some r:=H;have A2:=zA n3;clear n3;have H':=zA H;clear H
 go_enter Try.func10,Try.ntmps10
 go_wp2_with (first|((with_reducible refine gate_dst (N:=1) rfl ?_);(try(refine gate_guard (by rfl) ?_;dsimp only));refine zbx 1 #[.int .i64 a8,.int .i64 a9,.slice e1 a1.length b6,.int .i64 b0,.int .i64 b1] 32 ?_;intro e2 hg w3 hbox hb;have a2:=zA hbox;have n4:=zgs hg (zs0 HB);have a6:=zgs hg (zs0 HB);replace HB:=zE (zs0 HB) hb;clear hb hbox hg)|((with_reducible refine gate_dst (N:=8) rfl ?_);(try(refine gate_guard (by rfl) ?_;dsimp only));refine Kd.R_lit k45 _ 45 ?hg (N:=8) ?hd (xs:=([]:List (S45))) (inner:=[]) (ok:=fun _=>True) (okp:=fun _=>True) ?hr ?hp (fun _ hk=>hk) trivial (Below.refl _ _) (Nat.le_refl _) (by simp) ?_;(case hd=>rfl);(case hg=>rfl);(case hr=>first|(go_simp;done)|(go_simp;rfl));(case hp=>exact(Reps.none _ _));intro o7 w4 h5 hb hg_ hnew_;clear hg_ hnew_;(first|rw[←e7.out]at h5|(simp only[Int.reduceToNat]at h5;rw[←e7.out]at h5));have e3:=zA (Kd.R_lower h5 (below_size (zs1 HB a6)));replace a2:=zb a2 hb;replace HB:=zE (zs1 HB a6) hb;clear hb h5;obtain⟨f7,f8,f9,g0,g1⟩:=zd5 a2;obtain⟨g2,g3,g4,g5,g6⟩:=zn5 a2)|((with_reducible refine gate_callee (f:=22) rfl ?_);refine zgl (N:=some 11) Try.func22 #[.agg #[.int .i64 a8,.int .i64 a9,.slice e1 a1.length b6,.int .i64 b0,.int .i64 b1]] ?_;(with_reducible refine(spec_FlySpans.calls k a8 a9 _ _ a1 b0 b1 a5 e4 _ ?side1 ?side2 A2.out).mono ?_);(case side1=>exact zC e5 HB);(case side2=>exact h4.out);rintro e w7 ⟨h6,rfl,n5,hb⟩;refine⟨_,rfl,?_⟩;have h7:=zA (Kd.R_lower n5 (below_size (zs1 HB a6)));replace e3:=zA (Kd.R_below (zr e3) hb);replace a2:=zb a2 hb;replace HB:=zE (zs1 HB a6) hb;(try clear hb);(try clear hb2);(try clear hk);(try clear hi);(try clear n5)))
 go_loopg [3,6] k (fun kq v3 v6 w'=> ∃(b7:List (S45)) (a0:Int),v6= .int .i64 a0∧Aside0 (spec_FlyTube.l0 kq b7 a5 e4 a0 a8 a9 a1 b0 b1=some r)∧Aside0 (kq≤k)∧Aside0 (Kd.R k45 45 w' w.heap.size (fun _=>True) v3 b7)∧Aside0 (Kd.R k55 55 w' w.heap.size (fun _=>True) h6 a5)∧Aside0 (w'.heap[e2]?=some (.cells #[.int .i64 a8,.int .i64 a9,(.slice e1 a1.length b6),.int .i64 b0,.int .i64 b1] 32 (0,0)))∧Aside0 (Below w.heap.size w w'))
 case atStart=>exact⟨(e9),(0),zi,H',⟨Nat.le_refl _⟩,⟨zr e3⟩,⟨zr h7⟩,⟨zh a2⟩,⟨zs1 HB a6⟩⟩
 case round=>
  clear H'
  try clear c1
  try clear c2
  try clear p2
  try clear f7 f8 f9 g0 g1 g2 g3 g4 g5 g6
  obtain⟨b7,a0,rfl,HA,n6,HO_3,HO_4,a2,HB⟩:=hrel
  cases gk with
  |zero=>exact absurd HA.out (by simp[spec_FlyTube.l0])
  |succ k1=>
   have H:=HA.out;clear HA;simp only[spec_FlyTube.l0]at H
   by_cases c8:e4=true
   rotate_left
   ·replace c8:=Bool.eq_false_iff.mpr c8
    subst c8;rw[if_neg zfn]at H;obtain rfl:=Option.some.inj H
    go_wp2
    go_ret;exact⟨_,ze,zr HO_3,zs1 HB a6⟩
   subst c8;rw[if_pos rfl]at H
   by_cases c9:a0<(a1.length:Int)
   rotate_left
   ·rw[if_neg c9]at H
    have m8:decide (a0<(a1.length:Int))=false:=decide_eq_false c9;clear c9;obtain rfl:=Option.some.inj H;obtain⟨i3,i4,i5,i6,i7⟩:=zd5 a2;obtain⟨i8,i9,j1,j4,j5⟩:=zn5 a2
    go_wp2
    go_ret;exact⟨_,ze,zr HO_3,zs1 HB a6⟩
   rw[if_pos c9]at H;have m8:decide (a0<(a1.length:Int))=true:=decide_eq_true c9;clear c9;replace H:=zif H;obtain⟨n7,H⟩:=H
   by_cases j6:a0<(a5.length:Int)
   rotate_left
   ·rw[if_neg j6]at H
    exact absurd H (by simp)
   rw[if_pos j6]at H;have n8:decide (a0<(a5.length:Int))=true:=decide_eq_true j6;clear j6;obtain⟨a7,b8⟩: ∃j_:Int,(wrap64 (a0+1))=j_:=⟨_,rfl⟩
   first|rw[b8]at H|simp only[b8]at H
   have m9:(IntKind.i64.wrap (a0+1))=a7:=(i64_w _).trans b8;replace H:=zif H;obtain⟨n9,H⟩:=H
   by_cases j7:(a7)<(a5.length:Int)
   rotate_left
   ·rw[if_neg j7]at H
    exact absurd H (by simp)
   rw[if_pos j7]at H;have o0:decide ((a7)<(a5.length:Int))=true:=decide_eq_true j7;clear j7
   by_cases j8:b7.length<2932031007402
   rotate_left
   ·rw[if_neg j8]at H
    exact absurd H (by simp)
   rw[if_pos j8]at H;have LMc15:=zA j8;clear j8;obtain⟨h8,b5⟩: ∃y_:List (S45),y_=(b7++[(⟨(rd_T53 a1 a0).f0,(rd_T53 a1 a0).f1,(rd_T53 a1 a0).f2,(rd_T53 a1 a0).f3,(rd_T55 a5 a0).f0,wrap64 (((rd_T55 a5 (a7)).f1)-1)⟩:S45)]):=⟨_,rfl⟩
   replace H:(spec_FlyTube.l0 k1 h8 a5 true a7 a8 a9 a1 b0 b1)=some r:=by first|(rw[b5];with_reducible exact H)|(have H2_:=(Option.bind_some _ _).symm.trans H;rw[b5];with_reducible exact H2_)|(have H2_:=(Option.bind_some _ _).symm.trans H;with_reducible exact H2_)|with_reducible exact H|(rw[b5];exact H)|exact H
   have h9:=zA b5;clear b5;have H':=zA H;clear H;obtain⟨j9,k0,k2,k3,k4⟩:=zd5 a2;obtain⟨k5,k6,k7,k8,k9⟩:=zn5 a2;have g7:0≤(a0:Int):=za;have g8:a0<(a1.length:Int):=za;obtain⟨e8,n0,b9,c0,d0,d1,d2,d3,d4⟩:=at_T53 e5.out a0 g7 g8;cases n0;replace b9:=zx HB b9;replace c0:=zx HB c0;replace d0:=zx HB d0;replace d1:=zx HB d1;replace d2:=zx HB d2;replace d3:=zx HB d3;replace d4:=zx HB d4;replace g7:=eq_true g7;replace g8:=eq_true g8
   try go_wp2_with (first|((with_reducible refine gate_dst (N:=7) rfl ?_);(try(refine gate_guard (by rfl) ?_;dsimp only));refine zbx 7 #[.int .i64 0,.int .i64 0,.int .i64 0,.int .i64 0,.int .i64 0,.int .i64 0,.bool false] 53 ?_;intro a4 hg o8 hbox hb;have a3:=zA hbox;have o1:=zgs hg (zs1 HB a6);have d5:=zgs hg (zs1 HB a6);have b3:=zne hg a2;have e0:=znf hg a2;replace HO_3:=zA (Kd.R_below (zr HO_3) hb);replace HO_4:=zA (Kd.R_below (zr HO_4) hb);replace a2:=zb a2 hb;replace HB:=zE (zs1 HB a6) hb;clear hb hbox hg;have o2:=e0.out;have o3:=b3.out;obtain⟨l4,l5,l6,l7,l8,l9,m0⟩:=zd7 a3;obtain⟨m1,m2,m3,m4,m5,m6,m7⟩:=zn7 a3))
   obtain⟨h3,e_⟩: ∃x,x=(((((((o8.setCell ⟨a4,0,none⟩ (.int .i64 ((rd_T53 a1 a0).f0))).setCell ⟨a4,1,none⟩ (.int .i64 ((rd_T53 a1 a0).f1))).setCell ⟨a4,2,none⟩ (.int .i64 ((rd_T53 a1 a0).f2))).setCell ⟨a4,3,none⟩ (.int .i64 ((rd_T53 a1 a0).f3))).setCell ⟨a4,4,none⟩ (.int .i64 ((rd_T53 a1 a0).f4))).setCell ⟨a4,5,none⟩ (.int .i64 ((rd_T53 a1 a0).f5))).setCell ⟨a4,6,none⟩ (.bool ((rd_T53 a1 a0).f6))):=⟨_,rfl⟩
   have n0_:Aside0 (Kd.R k45 45 h3 w.heap.size (fun _=>True) u3 b7):=by rw[e_];exact⟨zRf HO_3 a3 (fun _ hk=>trivial)⟩
   have n1_:Aside0 (Kd.R k55 55 h3 w.heap.size (fun _=>True) h6 a5):=by rw[e_];exact⟨zRf HO_4 a3 (fun _ hk=>trivial)⟩
   have n2_:Aside0 (h3.heap[e2]?=some (.cells #[.int .i64 a8,.int .i64 a9,.slice (some e8) a1.length b6,.int .i64 b0,.int .i64 b1] 32 (0,0))):=by rw[e_];exact⟨zpf a2 b3⟩
   have n3_:Aside0 (h3.heap[a4]?=some (.cells #[.int .i64 ((rd_T53 a1 a0).f0),.int .i64 ((rd_T53 a1 a0).f1),.int .i64 ((rd_T53 a1 a0).f2),.int .i64 ((rd_T53 a1 a0).f3),.int .i64 ((rd_T53 a1 a0).f4),.int .i64 ((rd_T53 a1 a0).f5),.bool ((rd_T53 a1 a0).f6)] 53 (0,0))):=by rw[e_];exact⟨zpb a3⟩
   have n4_:Aside0 (Below w.heap.size w h3):=by rw[e_];exact⟨zs2 HB a6 d5⟩
   (try clear HO_3);(try clear HO_4);(try clear a2);(try clear a3);(try clear HB);rw[←e_];clear e_;have HO_3:=n0_;have HO_4:=n1_;have a2:=n2_;have a3:=n3_;have HB:=n4_;clear n0_ n1_ n2_ n3_ n4_;replace HO_3:=zA (Kd.R_drew HO_3.out);replace HO_4:=zA (Kd.R_drew HO_4.out);replace a2:=zA (blk_drew a2.out);replace a3:=zA (blk_drew a3.out);replace HB:=zA (below_drew1 HB.out);obtain⟨Ao22,co22,i0⟩:=Kd.R_slice HO_4.out;(first|subst i0|(injection i0 with f1_ f2_ f3_;have f4_:=f1_.symm;have f5_:=f3_.symm;clear f1_ f2_ f3_;subst f4_;subst f5_));have g9:0≤(a0:Int):=za;have h0:a0<(a5.length:Int):=za;obtain⟨b2,n1,d6,d7⟩:=at_T55 (Kd.R_reads' HO_4.out).2.2 a0 g9 h0;cases n1;replace g9:=eq_true g9;replace h0:=eq_true h0;have h1:0≤((a7):Int):=za;have h2:(a7)<(a5.length:Int):=za;obtain⟨i1,n2,d8,d9⟩:=at_T55 (Kd.R_reads' HO_4.out).2.2 (a7) h1 h2;obtain rfl:b2=i1:=(by injection n2);replace h1:=eq_true h1;replace h2:=eq_true h2;refine start_ (n:=25) (S:=fun w'=>w'.cell? ⟨a4,0,none⟩=some (.int .i64 ((rd_T53 a1 a0).f0))∧w'.cell? ⟨a4,1,none⟩=some (.int .i64 ((rd_T53 a1 a0).f1))∧w'.cell? ⟨a4,2,none⟩=some (.int .i64 ((rd_T53 a1 a0).f2))∧w'.cell? ⟨a4,3,none⟩=some (.int .i64 ((rd_T53 a1 a0).f3))∧w'.cell? ⟨a4,4,none⟩=some (.int .i64 ((rd_T53 a1 a0).f4))∧w'.cell? ⟨a4,5,none⟩=some (.int .i64 ((rd_T53 a1 a0).f5))∧w'.cell? ⟨a4,6,none⟩=some (.bool ((rd_T53 a1 a0).f6))∧w'.cell? (b2.add ((a0).toNat*2))=some (.int .i64 ((rd_T55 a5 a0).f0))∧w'.cell? ⟨(b2.add ((a0).toNat*2)).block,(b2.add ((a0).toNat*2)).off+1,none⟩=some (.int .i64 ((rd_T55 a5 a0).f1))∧w'.cell? (b2.add (((a7)).toNat*2))=some (.int .i64 ((rd_T55 a5 (a7)).f0))∧w'.cell? ⟨(b2.add (((a7)).toNat*2)).block,(b2.add (((a7)).toNat*2)).off+1,none⟩=some (.int .i64 ((rd_T55 a5 (a7)).f1))) (ds:=[22,23]) #[F,F,F,F,F,F,F,F,F,F,F,F,F,F,F,F,F,F,F,F,F,F,F,F,F] (by kernel_rfl) rfl rfl ⟨zc0 a3,zc1 a3,zc2 a3,zc3 a3,zc4 a3,zc5 a3,zc6 a3,d6,d7,d8,d9⟩ (fun hHeld=>?_);refine with_tabW spec_FlyTube.tab7 spec_FlyTube.bits7 (fun HT_ HW_=>?_);generalize h3.drew=p0 at HO_3 HO_4 a2 a3 HB d6 d7 d8 d9 hHeld⊢;refine zq HT_ 0 ?_;refine zq HT_ 1 ?_;refine zq HT_ 3 ?_;refine zq HT_ 5 ?_;refine zq HT_ 7 ?_;refine zq HT_ 9 ?_;refine zq HT_ 10 ?_;refine zq HT_ 11 ?_;refine zq HT_ 12 ?_;refine zq HT_ 14 ?_;refine zq HT_ 15 ?_;refine zq HT_ 16 ?_;refine zq HT_ 17 ?_;refine zq HT_ 18 ?_;refine zk11 HT_ HW_ hHeld 2 ?_;refine zk11 HT_ HW_ hHeld 4 ?_;refine zk11 HT_ HW_ hHeld 6 ?_;refine zk11 HT_ HW_ hHeld 8 ?_;refine zk11 HT_ HW_ hHeld 13 ?_;refine zk11 HT_ HW_ hHeld 19 ?_;refine zq HT_ 20 ?_;refine zq HT_ 21 ?_;refine zO HT_ 22 (fun K hK=>?_);refine value_ (w1:=?_) (v:=?_) (by rfl) rfl ?_ ?_;rotate_left 2
   ·go_simp
    constructor
    ·rfl
    ·rfl
   refine hK.out _ _ ?_;clear hK K;refine zN ?_;refine zO HT_ 23 (fun K hK=>?_);refine Kd.R_append_step k45 (w0:=w) w.heap.size (by rfl) (.tmp 29) (.tmp 51) 37 45 (.agg #[(.int .i64 0),(.int .i64 0),(.int .i64 0),(.int .i64 0),(.int .i64 0),(.int .i64 0)]) 48 rfl Try.underlying37 info45 rfl (by decide) (by omega) u3 b7 (⟨(rd_T53 a1 a0).f0,(rd_T53 a1 a0).f1,(rd_T53 a1 a0).f2,(rd_T53 a1 a0).f3,(rd_T55 a5 a0).f0,wrap64 (((rd_T55 a5 (a7)).f1)-1)⟩:S45) [.int .i64 ((rd_T53 a1 a0).f0),.int .i64 ((rd_T53 a1 a0).f1),.int .i64 ((rd_T53 a1 a0).f2),.int .i64 ((rd_T53 a1 a0).f3),.int .i64 ((rd_T55 a5 a0).f0),.int .i64 (wrap64 (((rd_T55 a5 (a7)).f1)-1))] (fun _=>True) (fun _=>False) rfl rfl ?aP (fun _ hk=>hk.elim) ?aF ?aO ?aB ?aS ?aL ?_;(case aP=>exact k45_mkM _ _ _ (⟨(rd_T53 a1 a0).f0,(rd_T53 a1 a0).f1,(rd_T53 a1 a0).f2,(rd_T53 a1 a0).f3,(rd_T55 a5 a0).f0,wrap64 (((rd_T55 a5 (a7)).f1)-1)⟩:S45));(case aB=>exact(zs2 HB a6 d5));(case aF=>exact(fun _ _=>trivial));(case aO=>exact(zr HO_3));(case aS=>exact(below_size (zs2 HB a6 d5)));(case aL=>have:=LMc15.out;omega);intro o9 p1 ho hb hg hat;rw[←h9.out]at ho;have i2:=zA (ho);replace HO_4:=zA (Kd.R_over' (zr HO_4) (Kd.R_typed (zr HO_3)) (by decide) hg);replace a2:=zA (blk_grown (g:=e2) (o:= .cells #[.int .i64 a8,.int .i64 a9,.slice (some e8) a1.length b6,.int .i64 b0,.int .i64 b1] 32 (0,0)) (zh a2) hg (Kd.R_ne HO_3.out a2.out (by decide)));replace a3:=zA (blk_grown (g:=a4) (o:= .cells #[.int .i64 ((rd_T53 a1 a0).f0),.int .i64 ((rd_T53 a1 a0).f1),.int .i64 ((rd_T53 a1 a0).f2),.int .i64 ((rd_T53 a1 a0).f3),.int .i64 ((rd_T53 a1 a0).f4),.int .i64 ((rd_T53 a1 a0).f5),.bool ((rd_T53 a1 a0).f6)] 53 (0,0)) (zh a3) hg (Kd.R_ne HO_3.out a3.out (by decide)));replace HB:=zA (hb);clear HO_3;clear ho hb hg hat;refine hK.out _ _ ?_;clear hK K;refine zN ?_;refine zq HT_ 24 ?_;refine done_ (done_of HT_.out (by kernel_rfl)) ?_
   try go_wp2
   go_roundg k1
   case measure=>have:=n6.out;omega
   case rel=>exact⟨(h8),(a7),(by first|rfl|(simp;done)|(simp only[←b8]<;>(first|rfl|exact congrArg Value.bool (leq_not _ _)|exact leq_not _ _|simp))|(simp[*];done)),H',⟨by have:=n6.out;omega⟩,⟨zr i2⟩,⟨zr HO_4⟩,⟨zh a2⟩,⟨zs2 HB a6 d5⟩⟩
end Go.Proofs.Ytglgfgeepdmlbaa.QFnExactFlyTurnBy
