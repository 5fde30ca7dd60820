/- The walk of what the law FnFlyNext reaches: laid by a program of this session (ownprint.py). -/
import Derived.Test.YtkecbmgdmkmfgaaQFnFlyNextx0
import Derived.Test.YtkecbmgdmkmfgaaQFnFlyNextx8
import Derived.Test.YtkecbmgdmkmfgaaQFnFlyNextx11
import Derived.Test.YtkecbmgdmkmfgaaQFnFlyNextx12
namespace Go.Proofs.Ytkecbmgdmkmfgaa.QFnFlyNext
open Go.RowKit Go.Proofs.YtkecbmgdmkmfgaaW.PrintWords Go.Proofs.YtkecbmgdmkmfgaaW.PrintLast Go.Proofs.YtkecbmgdmkmfgaaW.PrintMore Go.Proofs.Ytkecbmgdmkmfgaa.Z
attribute [local go_sem] max2_int min2_int max_two min_two max_three min_three max_four min_four zdn   -- for this text's walks alone
set_option linter.unusedVariables false
set_option linter.unusedSimpArgs false
def spec_FlyNext.j0:Nat→List Int→Bool→Int→Int→List (S54)→Int→Int→Option (Int×Int×Bool)
 |0,_,_,_,_,_,_,_=>none
 |k+1,x1,x18,a2,a3,a4,a5,a6=>if x18=true then(some (0,0,false))else((spec_l26Held.f k a2 a3 a4 a5 a6 x1).bind fun a0=>((spec_l24Spans.f k a0.1 a0.2.1 a0.2.2.1 a0.2.2.2.1 a0.2.2.2.2).bind fun a1=>(if a1.2=true then(if 0≤(x1.length:Int)then(if(x1.length:Int)<(a1.1.length:Int)then(some ((rd_T32 a1.1 (x1.length:Int)).f0,(rd_T32 a1.1 (x1.length:Int)).f1,true))else(none))else(none))else(some (0,0,false)))))
def spec_FlyNext.f (k:Nat) (a1:Int) (a2:Int) (a0:List (S54)) (a3:Int) (a4:Int) (l1:List Int):Option (Int×Int×Bool):=(spec_FlyPathOk.f k a1 a2 a0 a3 a4).bind fun a5=>(if a5=true then(spec_FlyNext.j0 k l1 (decide ((l1.length:Int)>(a0.length:Int))) a1 a2 a0 a3 a4)else(spec_FlyNext.j0 k l1 true a1 a2 a0 a3 a4))
set_option maxHeartbeats 8000000 in
set_option maxRecDepth 100000 in
theorem spec_FlyNext.calls (k:Nat) (a8:Int) (a9:Int) (b4:Option Addr) (b5:Nat) (a6:List (S54)) (b0:Int) (b1:Int) (A1:Option Addr) (c1:Nat) (l1:List Int) (r1:Int) (r2:Int) (r3:Bool) (w:World) (hr0_2:Kd.C k54 w b4 a6.length a6) (hc0_2:a6.length≤b5) (hr1:Kd.C (Kd.int .i64) w A1 l1.length l1) (hc1:l1.length≤c1) (h:spec_FlyNext.f k a8 a9 a6 b0 b1 l1=some (r1,r2,r3)):
 Calls Try.prog 6 #[.agg #[.int .i64 a8,.int .i64 a9,.slice b4 a6.length b5,.int .i64 b0,.int .i64 b1],.slice A1 l1.length c1] w fun e w'=>e= .returned (.tuple #[.agg #[.int .i64 r1,.int .i64 r2],.bool r3])∧Below w.heap.size w w':=by
 have o8:=Try.underlying27;have o9:=Try.underlying32;have d0:=zA hr0_2;have d1:=zA hc0_2;clear hr0_2 hc0_2;have m9:=zA hr1;have n0:=zA hc1;clear hr1 hc1;have HB:=zA (Below.refl w.heap.size w);have H:=h;clear h;unfold spec_FlyNext.f at H;have m1:=zA H;clear H
 go_enter Try.func6,Try.ntmps6
 go_upto_region 1 with(first|((with_reducible refine gate_dst (N:=2) rfl ?_);(try(refine gate_guard (by rfl) ?_;dsimp only));refine zbx 2 #[.int .i64 a8,.int .i64 a9,.slice b4 a6.length b5,.int .i64 b0,.int .i64 b1] 27 ?_;intro h2 hg w4 hbox hb;have a0:=zA hbox;have n1:=zgs hg (zs0 HB);have a2:=zgs hg (zs0 HB);replace HB:=zE (zs0 HB) hb;clear hb hbox hg)|((with_reducible refine gate_dst (N:=4) rfl ?_);(try(refine gate_guard (by rfl) ?_;dsimp only));refine zbx 4 #[.int .i64 0,.int .i64 0] 32 ?_;intro b3 hg w5 hbox hb;have a1:=zA hbox;have n2:=zgs hg (zs1 HB a2);have a3:=zgs hg (zs1 HB a2);have a4:=zne hg a0;have a5:=znf hg a0;replace a0:=zb a0 hb;replace HB:=zE (zs1 HB a2) hb;clear hb hbox hg))
 (try simp only[Act.put,List.setIfInBounds_toArray,List.set_cons_zero,List.set_cons_succ])
 go_cut [18] (fun p0 wc=> ∃(kq:Nat) (d2:Bool),p0= .bool d2∧Aside0 (spec_FlyNext.j0 kq l1 d2 a8 a9 a6 b0 b1=some (r1,r2,r3))∧Aside0 (kq≤k)∧Aside0 (wc.heap[h2]?=some (.cells #[.int .i64 a8,.int .i64 a9,(.slice b4 a6.length b5),.int .i64 b0,.int .i64 b1] 27 (0,0)))∧Aside0 (wc.heap[b3]?=some (.cells #[.int .i64 0,.int .i64 0] 32 (0,0)))∧Aside0 (Below w.heap.size w wc))
 case first=>
  have H:=m1.out;clear m1;replace H:=zbd H;obtain⟨m2,A6,H⟩:=H
  by_cases c7:m2=true
  rotate_left
  ·replace c7:=Bool.eq_false_iff.mpr c7
   subst c7;rw[if_neg zfn]at H;have H':=zA H;clear H;have n3:=a4.out;have n4:=a5.out;obtain⟨d6,d7,d8,d9,e0⟩:=zd5 a0;obtain⟨e1,e2,e3,e4,e5⟩:=zn5 a0
   go_wp2_with (first|((with_reducible refine gate_callee (f:=17) rfl ?_);refine zgl (N:=some 9) Try.func17 #[.agg #[.int .i64 a8,.int .i64 a9,.slice b4 a6.length b5,.int .i64 b0,.int .i64 b1]] ?_;(with_reducible refine(spec_FlyPathOk.calls k a8 a9 _ _ a6 b0 b1 false _ ?side1 ?side2 A6.out).mono ?_);(case side1=>exact zC d0 HB);(case side2=>exact d1.out);rintro e p4 ⟨rfl,hb⟩;refine⟨_,rfl,?_⟩;replace a0:=zb a0 hb;replace a1:=zb a1 hb;replace HB:=zE (zs2 HB a2 a3) hb;(try clear hb)))
   go_meet
   case rel=>exact⟨_,(true),zi,H',⟨by first|omega|exact Nat.le_refl _⟩,⟨zh a0⟩,⟨zh a1⟩,⟨zs2 HB a2 a3⟩⟩
  subst c7;rw[if_pos rfl]at H;have H':=zA H;clear H;have p1:=a4.out;have p3:=a5.out;obtain⟨g0,g1,g2,g3,g4⟩:=zd5 a0;obtain⟨g5,g6,g7,g8,g9⟩:=zn5 a0
  go_wp2_with (first|((with_reducible refine gate_callee (f:=17) rfl ?_);refine zgl (N:=some 9) Try.func17 #[.agg #[.int .i64 a8,.int .i64 a9,.slice b4 a6.length b5,.int .i64 b0,.int .i64 b1]] ?_;(with_reducible refine(spec_FlyPathOk.calls k a8 a9 _ _ a6 b0 b1 true _ ?side1 ?side2 A6.out).mono ?_);(case side1=>exact zC d0 HB);(case side2=>exact d1.out);rintro e p5 ⟨rfl,hb⟩;refine⟨_,rfl,?_⟩;replace a0:=zb a0 hb;replace a1:=zb a1 hb;replace HB:=zE (zs2 HB a2 a3) hb;(try clear hb);obtain⟨e6,e7,e8,e9,f2⟩:=zd5 a0;obtain⟨f3,f4,f5,f6,f7⟩:=zn5 a0))
  go_meet
  case rel=>exact⟨_,(decide ((l1.length:Int)>(a6.length:Int))),zi,H',⟨by first|omega|exact Nat.le_refl _⟩,⟨zh a0⟩,⟨zh a1⟩,⟨zs2 HB a2 a3⟩⟩
 case rest=>
  clear m1
  obtain⟨kq,d2,rfl,HA,p7,a0,a1,HB⟩:=hcut
  cases kq with
  |zero=>exact absurd HA.out (by simp[spec_FlyNext.j0])
  |succ h3=>
   have H:=HA.out;clear HA;simp only[spec_FlyNext.j0]at H
   by_cases h8:d2=true
   ·subst h8
    rw[if_pos rfl]at H;simp only[Option.some.injEq,Prod.mk.injEq]at H;obtain⟨rfl,rfl,rfl⟩:=H;have n5:=a5.out;have n6:=a4.out;obtain⟨h9,i0⟩:=zd2 a1;obtain⟨i1,i2⟩:=zn2 a1
    go_wp2
    refine bodyPost_ret (results_ct rfl _ _ b3 32 #[.int .i64 0,.int .i64 0] (0,0) _ rfl ?hz Try.underlying32 rfl (by kernel_rfl)) rfl ?_;(case hz=>exact zpb a1);exact⟨ze,zs2 HB a2 a3⟩
   replace h8:=Bool.eq_false_iff.mpr h8;subst h8;rw[if_neg zfn]at H;replace H:=Option.bind_eq_some_iff.mp H;obtain⟨⟨b6,b7,b8,b9,c0⟩,h4,H⟩:=H;replace H:((spec_l24Spans.f h3 b6 b7 b8 b9 c0).bind fun d3=>(if d3.2=true then(if 0≤(l1.length:Int)then(if(l1.length:Int)<(d3.1.length:Int)then(some ((rd_T32 d3.1 (l1.length:Int)).f0,(rd_T32 d3.1 (l1.length:Int)).f1,true))else(none))else(none))else(some (0,0,false))))=some (r1,r2,r3):=H;have n7:=zA h4;clear h4;replace H:=Option.bind_eq_some_iff.mp H;obtain⟨⟨b2,h5⟩,h6,H⟩:=H;replace H:(if h5=true then(if 0≤(l1.length:Int)then(if(l1.length:Int)<(b2.length:Int)then(some ((rd_T32 b2 (l1.length:Int)).f0,(rd_T32 b2 (l1.length:Int)).f1,true))else(none))else(none))else(some (0,0,false)))=some (r1,r2,r3):=H;have n8:=zA h6;clear h6
   by_cases i3:h5=true
   rotate_left
   ·replace i3:=Bool.eq_false_iff.mpr i3
    subst i3;rw[if_neg zfn]at H;simp only[Option.some.injEq,Prod.mk.injEq]at H;obtain⟨rfl,rfl,rfl⟩:=H;have n9:=a4.out;have o0:=a5.out;obtain⟨i4,i5,i6,i7,i8⟩:=zd5 a0;obtain⟨i9,j1,j5,j6,j7⟩:=zn5 a0
    go_wp2_with (first|((with_reducible refine gate_callee (f:=19) rfl ?_);refine zgl (N:=some 23) Try.func19 #[.agg #[.int .i64 a8,.int .i64 a9,.slice b4 a6.length b5,.int .i64 b0,.int .i64 b1],.slice A1 l1.length c1] ?_;(with_reducible refine(spec_l26Held.calls h3 a8 a9 _ _ a6 b0 b1 _ _ l1 b6 b7 b8 b9 c0 _ ?side1 ?side2 ?side3 ?side4 n7.out).mono ?_);(case side1=>exact zC d0 HB);(case side2=>exact d1.out);(case side3=>exact zC m9 HB);(case side4=>exact n0.out);rintro e p8 ⟨m3,rfl,d4,hb⟩;refine⟨_,rfl,?_⟩;have a7:=zA (Kd.R_lower d4 (below_size (zs2 HB a2 a3)));replace a0:=zb a0 hb;replace a1:=zb a1 hb;replace HB:=zE (zs2 HB a2 a3) hb;(try clear hb d4);obtain⟨Ao33,co33,m4⟩:=Kd.R_slice a7.out;subst m4)|((with_reducible refine gate_callee (f:=18) rfl ?_);refine zgl (N:=some 24) Try.func18 #[.agg #[.int .i64 b6,.int .i64 b7,.slice Ao33 b8.length co33,.int .i64 b9,.int .i64 c0]] ?_;(with_reducible refine(spec_l24Spans.calls h3 b6 b7 _ _ b8 b9 c0 b2 false _ ?side1 ?side2 n8.out).mono ?_);(case side1=>exact zCs a7);(case side2=>exact(Kd.R_reads' a7.out).2.1);rintro e p9 ⟨m5,rfl,d4,hb⟩;refine⟨_,rfl,?_⟩;have d5:=zA (Kd.R_lower (Kd.R_newB d4 (g:=b3) (o:= .cells #[.int .i64 0,.int .i64 0] 32 (0,0)) (zh a1)) (below_size (zs2 HB a2 a3)));replace a7:=zA (Kd.R_below (zr a7) hb);replace a0:=zb a0 hb;replace a1:=zb a1 hb;replace HB:=zE (zs2 HB a2 a3) hb;(try clear hb d4);obtain⟨j8,j9⟩:=zd2 a1;obtain⟨k0,k1⟩:=zn2 a1))
    refine bodyPost_ret (results_ct rfl _ _ b3 32 #[.int .i64 0,.int .i64 0] (0,0) _ rfl ?hz Try.underlying32 rfl (by kernel_rfl)) rfl ?_;(case hz=>exact zpb a1);exact⟨ze,zs2 HB a2 a3⟩
   subst i3;rw[if_pos rfl]at H
   by_cases k2:0≤(l1.length:Int)
   rotate_left
   ·rw[if_neg k2]at H
    exact absurd H (by simp)
   rw[if_pos k2]at H;have o1:decide (0≤(l1.length:Int))=true:=decide_eq_true k2;have o2:decide (0≤l1.length)=true:=decide_eq_true (by omega);clear k2
   by_cases h7:(l1.length:Int)<(b2.length:Int)
   rotate_left
   ·rw[if_neg h7]at H
    exact absurd H (by simp)
   rw[if_pos h7]at H;have o3:decide ((l1.length:Int)<(b2.length:Int))=true:=decide_eq_true h7;have o4:decide (l1.length<b2.length)=true:=decide_eq_true (Int.ofNat_lt.mp h7);clear h7;simp only[Option.some.injEq,Prod.mk.injEq]at H;obtain⟨rfl,rfl,rfl⟩:=H;have o5:=a4.out;have o6:=a5.out;obtain⟨k3,k4,k5,k6,k7⟩:=zd5 a0;obtain⟨k8,k9,l4,l5,l6⟩:=zn5 a0
   go_wp2_with (first|((with_reducible refine gate_callee (f:=19) rfl ?_);refine zgl (N:=some 23) Try.func19 #[.agg #[.int .i64 a8,.int .i64 a9,.slice b4 a6.length b5,.int .i64 b0,.int .i64 b1],.slice A1 l1.length c1] ?_;(with_reducible refine(spec_l26Held.calls h3 a8 a9 _ _ a6 b0 b1 _ _ l1 b6 b7 b8 b9 c0 _ ?side1 ?side2 ?side3 ?side4 n7.out).mono ?_);(case side1=>exact zC d0 HB);(case side2=>exact d1.out);(case side3=>exact zC m9 HB);(case side4=>exact n0.out);rintro e q0 ⟨m3,rfl,d4,hb⟩;refine⟨_,rfl,?_⟩;have a7:=zA (Kd.R_lower d4 (below_size (zs2 HB a2 a3)));replace a0:=zb a0 hb;replace a1:=zb a1 hb;replace HB:=zE (zs2 HB a2 a3) hb;(try clear hb d4);obtain⟨Ao26,co26,m6⟩:=Kd.R_slice a7.out;subst m6)|((with_reducible refine gate_callee (f:=18) rfl ?_);refine zgl (N:=some 24) Try.func18 #[.agg #[.int .i64 b6,.int .i64 b7,.slice Ao26 b8.length co26,.int .i64 b9,.int .i64 c0]] ?_;(with_reducible refine(spec_l24Spans.calls h3 b6 b7 _ _ b8 b9 c0 b2 true _ ?side1 ?side2 n8.out).mono ?_);(case side1=>exact zCs a7);(case side2=>exact(Kd.R_reads' a7.out).2.1);rintro e q1 ⟨m5,rfl,d4,hb⟩;refine⟨_,rfl,?_⟩;have d5:=zA (Kd.R_lower (Kd.R_newB d4 (g:=b3) (o:= .cells #[.int .i64 0,.int .i64 0] 32 (0,0)) (zh a1)) (below_size (zs2 HB a2 a3)));replace a7:=zA (Kd.R_below (zr a7) hb);replace a0:=zb a0 hb;replace a1:=zb a1 hb;replace HB:=zE (zs2 HB a2 a3) hb;(try clear hb d4);obtain⟨Ao28,co28,m7⟩:=Kd.R_slice d5.out;subst m7;have h0:0≤((l1.length:Int):Int):=za;have h1:(l1.length:Int)<(b2.length:Int):=za;obtain⟨o7,m8,f8,f9⟩:=at_T32 (Kd.R_reads' d5.out).2.2 (l1.length:Int) h0 h1;cases m8;(try simp only[Go.IntWalk.toNatUp]at f8);(try simp only[Go.IntWalk.toNatUp]at f9);replace h0:=eq_true h0;replace h1:=eq_true h1;obtain⟨l7,l8⟩:=zd2 a1;obtain⟨l9,m0⟩:=zn2 a1))
   refine bodyPost_ret (results_ct rfl _ _ b3 32 #[.int .i64 ((rd_T32 b2 (l1.length:Int)).f0),.int .i64 ((rd_T32 b2 (l1.length:Int)).f1)] (0,0) _ rfl ?hz Try.underlying32 rfl (by kernel_rfl)) rfl ?_;(case hz=>exact zpb a1);exact⟨ze,zs2 HB a2 a3⟩
end Go.Proofs.Ytkecbmgdmkmfgaa.QFnFlyNext
