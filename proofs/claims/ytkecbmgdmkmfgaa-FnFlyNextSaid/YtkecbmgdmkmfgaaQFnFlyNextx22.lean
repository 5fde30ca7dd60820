/- The walk of what the law FnFlyNext reaches: laid by a program of this session (ownprint.py). -/
import Derived.Test.YtkecbmgdmkmfgaaQFnFlyNextx0
import Derived.Test.YtkecbmgdmkmfgaaQFnFlyNextx19
import Derived.Test.YtkecbmgdmkmfgaaQFnFlyNextx21
namespace Go.Proofs.Ytkecbmgdmkmfgaa.QFnFlyNext
open Go.RowKit Go.Proofs.YtkecbmgdmkmfgaaW.PrintWords Go.Proofs.YtkecbmgdmkmfgaaW.PrintLast Go.Proofs.YtkecbmgdmkmfgaaW.PrintMore Go.Proofs.Ytkecbmgdmkmfgaa.Z
attribute [local go_sem] max2_int min2_int max_two min_two max_three min_three max_four min_four zdn   -- for this text's walks alone
set_option linter.unusedVariables false
set_option linter.unusedSimpArgs false
def impl_FlyNext.j0:Nat→List Int→Bool→Int→Int→List (S54)→Int→Int→Option (Int×Int×Bool)
 |0,_,_,_,_,_,_,_=>none
 |k+1,x1,x18,a1,a2,a3,a4,a5=>if x18=true then(some (0,0,false))else((impl_FlyPath_spans.f k a1 a2 a3 a4 a5 x1).bind fun a0=>(if a0.2=true then(if 0≤(x1.length:Int)then(if(x1.length:Int)<(a0.1.length:Int)then(some ((rd_T32 a0.1 (x1.length:Int)).f0,(rd_T32 a0.1 (x1.length:Int)).f1,true))else(none))else(none))else(some (0,0,false))))
def impl_FlyNext.f (k:Nat) (a1:Int) (a2:Int) (a0:List (S54)) (a3:Int) (a4:Int) (l1:List Int):Option (Int×Int×Bool):=(impl_FlyPathOk.f k a1 a2 a0 a3 a4).bind fun a5=>(if a5=true then(impl_FlyNext.j0 k l1 (decide ((l1.length:Int)>(a0.length:Int))) a1 a2 a0 a3 a4)else(impl_FlyNext.j0 k l1 true a1 a2 a0 a3 a4))
set_option maxHeartbeats 8000000 in
set_option maxRecDepth 100000 in
theorem impl_FlyNext.calls (k:Nat) (a7:Int) (a8:Int) (b3:Option Addr) (b4:Nat) (a5:List (S54)) (a9:Int) (b0:Int) (A1:Option Addr) (c1:Nat) (l1:List Int) (r1:Int) (r2:Int) (r3:Bool) (w:World) (hr0_2:Kd.C k54 w b3 a5.length a5) (hc0_2:a5.length≤b4) (hr1:Kd.C (Kd.int .i64) w A1 l1.length l1) (hc1:l1.length≤c1) (h:impl_FlyNext.f k a7 a8 a5 a9 b0 l1=some (r1,r2,r3)):
 Calls Try.prog 5 #[.agg #[.int .i64 a7,.int .i64 a8,.slice b3 a5.length b4,.int .i64 a9,.int .i64 b0],.slice A1 l1.length c1] w fun e w'=>e= .returned (.tuple #[.agg #[.int .i64 r1,.int .i64 r2],.bool r3])∧Below w.heap.size w w':=by
 have n6:=Try.underlying27;have n7:=Try.underlying32;have b5:=zA hr0_2;have b6:=zA hc0_2;clear hr0_2 hc0_2;have l7:=zA hr1;have l8:=zA hc1;clear hr1 hc1;have HB:=zA (Below.refl w.heap.size w);have H:=h;clear h;unfold impl_FlyNext.f at H;have k8:=zA H;clear H
 go_enter Try.func5,Try.ntmps5
 go_upto_region 1 with(first|((with_reducible refine gate_dst (N:=2) rfl ?_);(try(refine gate_guard (by rfl) ?_;dsimp only));refine zbx 2 #[.int .i64 a7,.int .i64 a8,.slice b3 a5.length b4,.int .i64 a9,.int .i64 b0] 27 ?_;intro g4 hg w4 hbox hb;have a0:=zA hbox;have l9:=zgs hg (zs0 HB);have a2:=zgs hg (zs0 HB);replace HB:=zE (zs0 HB) hb;clear hb hbox hg)|((with_reducible refine gate_dst (N:=4) rfl ?_);(try(refine gate_guard (by rfl) ?_;dsimp only));refine zbx 4 #[.int .i64 0,.int .i64 0] 32 ?_;intro b2 hg w5 hbox hb;have a1:=zA hbox;have m0:=zgs hg (zs1 HB a2);have a6:=zgs hg (zs1 HB a2);have a3:=zne hg a0;have a4:=znf hg a0;replace a0:=zb a0 hb;replace HB:=zE (zs1 HB a2) hb;clear hb hbox hg))
 (try simp only[Act.put,List.setIfInBounds_toArray,List.set_cons_zero,List.set_cons_succ])
 go_cut [18] (fun n8 wc=> ∃(kq:Nat) (b7:Bool),n8= .bool b7∧Aside0 (impl_FlyNext.j0 kq l1 b7 a7 a8 a5 a9 b0=some (r1,r2,r3))∧Aside0 (kq≤k)∧Aside0 (wc.heap[g4]?=some (.cells #[.int .i64 a7,.int .i64 a8,(.slice b3 a5.length b4),.int .i64 a9,.int .i64 b0] 27 (0,0)))∧Aside0 (wc.heap[b2]?=some (.cells #[.int .i64 0,.int .i64 0] 32 (0,0)))∧Aside0 (Below w.heap.size w wc))
 case first=>
  have H:=k8.out;clear k8;replace H:=zbd H;obtain⟨k9,A6,H⟩:=H
  by_cases c7:k9=true
  rotate_left
  ·replace c7:=Bool.eq_false_iff.mpr c7
   subst c7;rw[if_neg zfn]at H;have H':=zA H;clear H;have m1:=a3.out;have m2:=a4.out;obtain⟨b9,c0,d0,d1,d2⟩:=zd5 a0;obtain⟨d3,d4,d5,d6,d7⟩:=zn5 a0
   go_wp2_with (first|((with_reducible refine gate_callee (f:=15) rfl ?_);refine zgl (N:=some 9) Try.func15 #[.agg #[.int .i64 a7,.int .i64 a8,.slice b3 a5.length b4,.int .i64 a9,.int .i64 b0]] ?_;(with_reducible refine(impl_FlyPathOk.calls k a7 a8 _ _ a5 a9 b0 false _ ?side1 ?side2 A6.out).mono ?_);(case side1=>exact zC b5 HB);(case side2=>exact b6.out);rintro e o1 ⟨rfl,hb⟩;refine⟨_,rfl,?_⟩;replace a0:=zb a0 hb;replace a1:=zb a1 hb;replace HB:=zE (zs2 HB a2 a6) hb;(try clear hb)))
   go_meet
   case rel=>exact⟨_,(true),zi,H',⟨by first|omega|exact Nat.le_refl _⟩,⟨zh a0⟩,⟨zh a1⟩,⟨zs2 HB a2 a6⟩⟩
  subst c7;rw[if_pos rfl]at H;have H':=zA H;clear H;have n9:=a3.out;have o0:=a4.out;obtain⟨f2,f3,f4,f5,f6⟩:=zd5 a0;obtain⟨f7,f8,f9,g0,g1⟩:=zn5 a0
  go_wp2_with (first|((with_reducible refine gate_callee (f:=15) rfl ?_);refine zgl (N:=some 9) Try.func15 #[.agg #[.int .i64 a7,.int .i64 a8,.slice b3 a5.length b4,.int .i64 a9,.int .i64 b0]] ?_;(with_reducible refine(impl_FlyPathOk.calls k a7 a8 _ _ a5 a9 b0 true _ ?side1 ?side2 A6.out).mono ?_);(case side1=>exact zC b5 HB);(case side2=>exact b6.out);rintro e o2 ⟨rfl,hb⟩;refine⟨_,rfl,?_⟩;replace a0:=zb a0 hb;replace a1:=zb a1 hb;replace HB:=zE (zs2 HB a2 a6) hb;(try clear hb);obtain⟨d8,d9,e0,e1,e2⟩:=zd5 a0;obtain⟨e3,e4,e5,e6,e7⟩:=zn5 a0))
  go_meet
  case rel=>exact⟨_,(decide ((l1.length:Int)>(a5.length:Int))),zi,H',⟨by first|omega|exact Nat.le_refl _⟩,⟨zh a0⟩,⟨zh a1⟩,⟨zs2 HB a2 a6⟩⟩
 case rest=>
  clear k8
  obtain⟨kq,b7,rfl,HA,o4,a0,a1,HB⟩:=hcut
  cases kq with
  |zero=>exact absurd HA.out (by simp[impl_FlyNext.j0])
  |succ m3=>
   have H:=HA.out;clear HA;simp only[impl_FlyNext.j0]at H
   by_cases g9:b7=true
   ·subst g9
    rw[if_pos rfl]at H;simp only[Option.some.injEq,Prod.mk.injEq]at H;obtain⟨rfl,rfl,rfl⟩:=H;have m4:=a4.out;have m5:=a3.out;obtain⟨h0,h1⟩:=zd2 a1;obtain⟨h2,h3⟩:=zn2 a1
    go_wp2
    refine bodyPost_ret (results_ct rfl _ _ b2 32 #[.int .i64 0,.int .i64 0] (0,0) _ rfl ?hz Try.underlying32 rfl (by kernel_rfl)) rfl ?_;(case hz=>exact zpb a1);exact⟨ze,zs2 HB a2 a6⟩
   replace g9:=Bool.eq_false_iff.mpr g9;subst g9;rw[if_neg zfn]at H;replace H:=Option.bind_eq_some_iff.mp H;obtain⟨⟨b1,g5⟩,g6,H⟩:=H;replace H:(if g5=true then(if 0≤(l1.length:Int)then(if(l1.length:Int)<(b1.length:Int)then(some ((rd_T32 b1 (l1.length:Int)).f0,(rd_T32 b1 (l1.length:Int)).f1,true))else(none))else(none))else(some (0,0,false)))=some (r1,r2,r3):=H;have m6:=zA g6;clear g6
   by_cases h4:g5=true
   rotate_left
   ·replace h4:=Bool.eq_false_iff.mpr h4
    subst h4;rw[if_neg zfn]at H;simp only[Option.some.injEq,Prod.mk.injEq]at H;obtain⟨rfl,rfl,rfl⟩:=H;have m7:=a3.out;have m8:=a4.out;obtain⟨h5,h6,h7,h8,h9⟩:=zd5 a0;obtain⟨i0,i1,i2,i3,i4⟩:=zn5 a0
    go_wp2_with (first|((with_reducible refine gate_callee (f:=16) rfl ?_);refine zgl (N:=some 23) Try.func16 #[.agg #[.int .i64 a7,.int .i64 a8,.slice b3 a5.length b4,.int .i64 a9,.int .i64 b0],.slice A1 l1.length c1] ?_;(with_reducible refine(impl_FlyPath_spans.calls m3 a7 a8 _ _ a5 a9 b0 _ _ l1 b1 false _ ?side1 ?side2 ?side3 ?side4 m6.out).mono ?_);(case side1=>exact zC b5 HB);(case side2=>exact b6.out);(case side3=>exact zC l7 HB);(case side4=>exact l8.out);rintro e o5 ⟨l4,rfl,g7,hb⟩;refine⟨_,rfl,?_⟩;have b8:=zA (Kd.R_lower (Kd.R_newB g7 (g:=b2) (o:= .cells #[.int .i64 0,.int .i64 0] 32 (0,0)) (zh a1)) (below_size (zs2 HB a2 a6)));replace a0:=zb a0 hb;replace a1:=zb a1 hb;replace HB:=zE (zs2 HB a2 a6) hb;(try clear hb g7);obtain⟨i5,i6⟩:=zd2 a1;obtain⟨i7,i8⟩:=zn2 a1))
    refine bodyPost_ret (results_ct rfl _ _ b2 32 #[.int .i64 0,.int .i64 0] (0,0) _ rfl ?hz Try.underlying32 rfl (by kernel_rfl)) rfl ?_;(case hz=>exact zpb a1);exact⟨ze,zs2 HB a2 a6⟩
   subst h4;rw[if_pos rfl]at H
   by_cases i9:0≤(l1.length:Int)
   rotate_left
   ·rw[if_neg i9]at H
    exact absurd H (by simp)
   rw[if_pos i9]at H;have m9:decide (0≤(l1.length:Int))=true:=decide_eq_true i9;have n0:decide (0≤l1.length)=true:=decide_eq_true (by omega);clear i9
   by_cases g8:(l1.length:Int)<(b1.length:Int)
   rotate_left
   ·rw[if_neg g8]at H
    exact absurd H (by simp)
   rw[if_pos g8]at H;have n1:decide ((l1.length:Int)<(b1.length:Int))=true:=decide_eq_true g8;have n2:decide (l1.length<b1.length)=true:=decide_eq_true (Int.ofNat_lt.mp g8);clear g8;simp only[Option.some.injEq,Prod.mk.injEq]at H;obtain⟨rfl,rfl,rfl⟩:=H;have n3:=a3.out;have n4:=a4.out;obtain⟨j1,j5,j6,j7,j8⟩:=zd5 a0;obtain⟨j9,k0,k1,k2,k3⟩:=zn5 a0
   go_wp2_with (first|((with_reducible refine gate_callee (f:=16) rfl ?_);refine zgl (N:=some 23) Try.func16 #[.agg #[.int .i64 a7,.int .i64 a8,.slice b3 a5.length b4,.int .i64 a9,.int .i64 b0],.slice A1 l1.length c1] ?_;(with_reducible refine(impl_FlyPath_spans.calls m3 a7 a8 _ _ a5 a9 b0 _ _ l1 b1 true _ ?side1 ?side2 ?side3 ?side4 m6.out).mono ?_);(case side1=>exact zC b5 HB);(case side2=>exact b6.out);(case side3=>exact zC l7 HB);(case side4=>exact l8.out);rintro e o6 ⟨l4,rfl,g7,hb⟩;refine⟨_,rfl,?_⟩;have b8:=zA (Kd.R_lower (Kd.R_newB g7 (g:=b2) (o:= .cells #[.int .i64 0,.int .i64 0] 32 (0,0)) (zh a1)) (below_size (zs2 HB a2 a6)));replace a0:=zb a0 hb;replace a1:=zb a1 hb;replace HB:=zE (zs2 HB a2 a6) hb;(try clear hb g7);obtain⟨Ao25,co25,l5⟩:=Kd.R_slice b8.out;subst l5;have g2:0≤((l1.length:Int):Int):=za;have g3:(l1.length:Int)<(b1.length:Int):=za;obtain⟨n5,l6,e8,e9⟩:=at_T32 (Kd.R_reads' b8.out).2.2 (l1.length:Int) g2 g3;cases l6;(try simp only[Go.IntWalk.toNatUp]at e8);(try simp only[Go.IntWalk.toNatUp]at e9);replace g2:=eq_true g2;replace g3:=eq_true g3;obtain⟨k4,k5⟩:=zd2 a1;obtain⟨k6,k7⟩:=zn2 a1))
   refine bodyPost_ret (results_ct rfl _ _ b2 32 #[.int .i64 ((rd_T32 b1 (l1.length:Int)).f0),.int .i64 ((rd_T32 b1 (l1.length:Int)).f1)] (0,0) _ rfl ?hz Try.underlying32 rfl (by kernel_rfl)) rfl ?_;(case hz=>exact zpb a1);exact⟨ze,zs2 HB a2 a6⟩
end Go.Proofs.Ytkecbmgdmkmfgaa.QFnFlyNext
