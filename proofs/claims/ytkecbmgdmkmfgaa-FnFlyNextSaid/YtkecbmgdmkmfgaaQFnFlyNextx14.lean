/- The walk of what the law FnFlyNext reaches: laid by a program of this session (ownprint.py). -/
import Derived.Test.YtkecbmgdmkmfgaaQFnFlyNextx0
import Derived.Test.YtkecbmgdmkmfgaaQFnFlyNextx2
import Derived.Test.YtkecbmgdmkmfgaaQFnFlyNextx8
import Derived.Test.YtkecbmgdmkmfgaaQFnFlyNextx10
namespace Go.Proofs.Ytkecbmgdmkmfgaa.QFnFlyNext
open Go.RowKit Go.Proofs.YtkecbmgdmkmfgaaW.PrintWords Go.Proofs.YtkecbmgdmkmfgaaW.PrintLast Go.Proofs.YtkecbmgdmkmfgaaW.PrintMore Go.Proofs.Ytkecbmgdmkmfgaa.Z
attribute [local go_sem] max2_int min2_int max_two min_two max_three min_three max_four min_four zdn   -- for this text's walks alone
set_option linter.unusedVariables false
set_option linter.unusedSimpArgs false
mutual
def spec_FlyLawful.j0:Nat→List Int→Bool→Int→Int→List (S54)→Int→Int→Option (Bool)
 |0,_,_,_,_,_,_,_=>none
 |k+1,x1,x17,a0,a1,a2,a3,a4=>if x17=true then(some false)else(spec_FlyLawful.l0 k x1 0 a0 a1 a2 a3 a4)
def spec_FlyLawful.l0:Nat→List Int→Int→Int→Int→List (S54)→Int→Int→Option (Bool)
 |0,_,_,_,_,_,_,_=>none
 |k+1,x1,x5,a0,a1,a2,a3,a4=>if x5<(x1.length:Int)then(if 0≤x5 then((spec_l23Low.f a0 a1 a2 a3 a4 x5).bind fun a5=>((spec_l23High.f a0 a1 a2 a3 a4 x5).bind fun a6=>((spec_l21In.f (rd x1 x5) a5 a6).bind fun a7=>(if a7=true then(if x5>0 then(if 0≤(wrap64 (x5-1))then(if(wrap64 (x5-1))<(x1.length:Int)then((spec_l23Most.f a0 a1 a2 a3 a4 (wrap64 (x5-1))).bind fun a8=>((spec_l21In.f (wrap64 ((rd x1 x5)-(rd x1 (wrap64 (x5-1))))) a0 a8).bind fun a9=>(if a9=true then(spec_FlyLawful.l0 k x1 (wrap64 (x5+1)) a0 a1 a2 a3 a4)else(some false))))else(none))else(none))else(spec_FlyLawful.l0 k x1 (wrap64 (x5+1)) a0 a1 a2 a3 a4))else(some false)))))else(none))else(some true)
end
def spec_FlyLawful.f (k:Nat) (a1:Int) (a2:Int) (a0:List (S54)) (a3:Int) (a4:Int) (l1:List Int):Option (Bool):=(spec_FlyPathOk.f k a1 a2 a0 a3 a4).bind fun a5=>(if a5=true then(spec_FlyLawful.j0 k l1 ((l1.length:Int) !=(wrap64 ((a0.length:Int)+1))) a1 a2 a0 a3 a4)else(spec_FlyLawful.j0 k l1 true a1 a2 a0 a3 a4))
def spec_FlyLawful.T6:Bool×List (List Nat×List Nat):=(true,[([],[]),([],[]),([0,1],[0,1]),([2],[2]),([],[]),([],[]),([4,5],[4,5]),([],[]),([],[]),([7,8,6],[7,8]),([3,6,9,9],[3,6,9]),([10],[10])])
def spec_FlyLawful.B6:List Nat:=[0,0,3,7,0,0,48,0,0,496,1023,2047]
theorem spec_FlyLawful.tab6:rtab .any (opsOf Try.f27 6)=spec_FlyLawful.T6:=by kernel_rfl
theorem spec_FlyLawful.bits6:waitsOk spec_FlyLawful.T6.2 spec_FlyLawful.B6=true:=by kernel_rfl
def spec_FlyLawful.T8:Bool×List (List Nat×List Nat):=(true,[([],[]),([0],[0]),([1],[1]),([2],[2]),([2],[2]),([3,4,2],[2,3,4]),([5,2],[2,5]),([2],[2]),([2],[2]),([8,2],[2,8]),([7,9,2],[2,7,9]),([10,2],[2,10]),([6,11,2],[2,6,11]),([2],[2]),([13,2],[2,13]),([14,2],[2,14]),([2],[2]),([2],[2]),([17,2],[2,17]),([16,18,2,2],[2,16,18]),([12,15,19,19,2],[2,12,15,19]),([20,2],[2,20]),([2,21],[2,21])])
def spec_FlyLawful.B8:List Nat:=[0,1,3,7,7,31,63,7,7,263,903,1927,4095,7,8199,24583,7,7,131079,458759,1048575,2097151,4194303]
theorem spec_FlyLawful.tab8:rtab .any (opsOf Try.f27 8)=spec_FlyLawful.T8:=by kernel_rfl
theorem spec_FlyLawful.bits8:waitsOk spec_FlyLawful.T8.2 spec_FlyLawful.B8=true:=by kernel_rfl
set_option maxHeartbeats 8000000 in
set_option maxRecDepth 100000 in
theorem spec_FlyLawful.calls (k:Nat) (a3:Int) (a6:Int) (b0:Option Addr) (b1:Nat) (a5:List (S54)) (a7:Int) (a8:Int) (A1:Option Addr) (c1:Nat) (l1:List Int) (r:Bool) (w:World) (hr0_2:Kd.C k54 w b0 a5.length a5) (hc0_2:a5.length≤b1) (hr1:Kd.C (Kd.int .i64) w A1 l1.length l1) (hc1:l1.length≤c1) (h:spec_FlyLawful.f k a3 a6 a5 a7 a8 l1=some r):
 Calls Try.prog 27 #[.agg #[.int .i64 a3,.int .i64 a6,.slice b0 a5.length b1,.int .i64 a7,.int .i64 a8],.slice A1 l1.length c1] w fun e w'=>e= .returned (.bool r)∧Below w.heap.size w w':=by
 have k9:=Try.underlying27;have b6:=zA hr0_2;have b7:=zA hc0_2;clear hr0_2 hc0_2;have h2:=zA hr1;have l5:=zA hc1;clear hr1 hc1;have HB:=zA (Below.refl w.heap.size w);have H:=h;clear h;unfold spec_FlyLawful.f at H;have j8:=zA H;clear H
 go_enter Try.func27,Try.ntmps27
 go_upto_region 1 with(first|((with_reducible refine gate_dst (N:=2) rfl ?_);(try(refine gate_guard (by rfl) ?_;dsimp only));refine zbx 2 #[.int .i64 a3,.int .i64 a6,.slice b0 a5.length b1,.int .i64 a7,.int .i64 a8] 27 ?_;intro a2 hg w4 hbox hb;have a0:=zA hbox;have k1:=zgs hg (zs0 HB);have a9:=zgs hg (zs0 HB);replace HB:=zE (zs0 HB) hb;clear hb hbox hg))
 (try simp only[Act.put,List.setIfInBounds_toArray,List.set_cons_zero,List.set_cons_succ])
 go_cut [17] (fun l4 wc=> ∃(kq:Nat) (d8:Bool),l4= .bool d8∧Aside0 (spec_FlyLawful.j0 kq l1 d8 a3 a6 a5 a7 a8=some r)∧Aside0 (kq≤k)∧Aside0 (wc.heap[a2]?=some (.cells #[.int .i64 a3,.int .i64 a6,(.slice b0 a5.length b1),.int .i64 a7,.int .i64 a8] 27 (0,0)))∧Aside0 (Below w.heap.size w wc))
 case first=>
  have H:=j8.out;clear j8;replace H:=zbd H;obtain⟨j9,A5,H⟩:=H
  by_cases c6:j9=true
  rotate_left
  ·replace c6:=Bool.eq_false_iff.mpr c6
   subst c6;rw[if_neg zfn]at H;have H':=zA H;clear H;obtain⟨d9,e0,e1,e2,e3⟩:=zd5 a0;obtain⟨e4,e5,e6,e7,e8⟩:=zn5 a0
   go_wp2_with (first|((with_reducible refine gate_callee (f:=17) rfl ?_);refine zgl (N:=some 7) Try.func17 #[.agg #[.int .i64 a3,.int .i64 a6,.slice b0 a5.length b1,.int .i64 a7,.int .i64 a8]] ?_;(with_reducible refine(spec_FlyPathOk.calls k a3 a6 _ _ a5 a7 a8 false _ ?side1 ?side2 A5.out).mono ?_);(case side1=>exact zC b6 HB);(case side2=>exact b7.out);rintro e l6 ⟨rfl,hb⟩;refine⟨_,rfl,?_⟩;replace a0:=zb a0 hb;replace HB:=zE (zs1 HB a9) hb;(try clear hb)))
   go_meet
   case rel=>exact⟨_,(true),zi,H',⟨by first|omega|exact Nat.le_refl _⟩,⟨zh a0⟩,⟨zs1 HB a9⟩⟩
  subst c6;rw[if_pos rfl]at H;have H':=zA H;clear H;obtain⟨e9,f0,f1,f2,f3⟩:=zd5 a0;obtain⟨f4,f5,f6,f7,f8⟩:=zn5 a0
  go_wp2_with (first|((with_reducible refine gate_callee (f:=17) rfl ?_);refine zgl (N:=some 7) Try.func17 #[.agg #[.int .i64 a3,.int .i64 a6,.slice b0 a5.length b1,.int .i64 a7,.int .i64 a8]] ?_;(with_reducible refine(spec_FlyPathOk.calls k a3 a6 _ _ a5 a7 a8 true _ ?side1 ?side2 A5.out).mono ?_);(case side1=>exact zC b6 HB);(case side2=>exact b7.out);rintro e w8 ⟨rfl,hb⟩;refine⟨_,rfl,?_⟩;replace a0:=zb a0 hb;replace HB:=zE (zs1 HB a9) hb;(try clear hb);obtain⟨f9,g0,g1,g2,g3⟩:=zd5 a0;obtain⟨g4,g5,g6,g7,g8⟩:=zn5 a0))
  go_meet
  case rel=>exact⟨_,(((l1.length:Int) !=(wrap64 ((a5.length:Int)+1)))),zi,H',⟨by first|omega|exact Nat.le_refl _⟩,⟨zh a0⟩,⟨zs1 HB a9⟩⟩
 case rest=>
  clear j8
  obtain⟨kq,d8,rfl,HA,i9,a0,HB⟩:=hcut
  cases kq with
  |zero=>exact absurd HA.out (by simp[spec_FlyLawful.j0])
  |succ k3=>
   have H:=HA.out;clear HA;simp only[spec_FlyLawful.j0]at H
   by_cases i1:d8=true
   ·subst i1
    rw[if_pos rfl]at H;obtain rfl:=Option.some.inj H
    go_wp2
    go_ret;exact⟨ze,zs1 HB a9⟩
   replace i1:=Bool.eq_false_iff.mpr i1;subst i1;rw[if_neg zfn]at H;have H':=zA H;clear H
   go_wp2
   go_loopg [5] k3 (fun kq v5 w'=> ∃(a1:Int),v5= .int .i64 a1∧Aside0 (spec_FlyLawful.l0 kq l1 a1 a3 a6 a5 a7 a8=some r)∧Aside0 (kq≤k3)∧Aside0 (w'.heap[a2]?=some (.cells #[.int .i64 a3,.int .i64 a6,(.slice b0 a5.length b1),.int .i64 a7,.int .i64 a8] 27 (0,0)))∧Aside0 (Below w.heap.size w w'))
   case atStart=>exact⟨(0),zi,H',⟨Nat.le_refl _⟩,⟨zh a0⟩,⟨zs1 HB a9⟩⟩
   case round=>
    clear H'
    try clear i1
    obtain⟨a1,rfl,HA,j1,a0,HB⟩:=hrel
    cases gk with
    |zero=>exact absurd HA.out (by simp[spec_FlyLawful.l0])
    |succ k2=>
     have H:=HA.out;clear HA;simp only[spec_FlyLawful.l0]at H
     by_cases h6:a1<(l1.length:Int)
     rotate_left
     ·rw[if_neg h6]at H
      have i2:decide (a1<(l1.length:Int))=false:=decide_eq_false h6;clear h6;obtain rfl:=Option.some.inj H
      go_wp2
      go_ret;exact⟨ze,zs1 HB a9⟩
     rw[if_pos h6]at H;have i2:decide (a1<(l1.length:Int))=true:=decide_eq_true h6;clear h6;replace H:=zif H;obtain⟨k4,H⟩:=H;replace H:=zbd H;obtain⟨d0,i3,H⟩:=H;replace H:=Option.bind_eq_some_iff.mp H;obtain⟨d1,i4,H⟩:=H;replace H:((spec_l21In.f (rd l1 a1) d0 d1).bind fun h3=>(if h3=true then(if a1>0 then(if 0≤(wrap64 (a1-1))then(if(wrap64 (a1-1))<(l1.length:Int)then((spec_l23Most.f a3 a6 a5 a7 a8 (wrap64 (a1-1))).bind fun d2=>((spec_l21In.f (wrap64 ((rd l1 a1)-(rd l1 (wrap64 (a1-1))))) a3 d2).bind fun h1=>(if h1=true then(spec_FlyLawful.l0 k2 l1 (wrap64 (a1+1)) a3 a6 a5 a7 a8)else(some false))))else(none))else(none))else(spec_FlyLawful.l0 k2 l1 (wrap64 (a1+1)) a3 a6 a5 a7 a8))else(some false)))=some r:=H;have i5:=zA i4;clear i4;replace H:=zbd H;obtain⟨h3,i6,H⟩:=H
     by_cases j5:h3=true
     rotate_left
     ·replace j5:=Bool.eq_false_iff.mpr j5
      subst j5;rw[if_neg zfn]at H;obtain rfl:=Option.some.inj H
      try go_wp2
      replace a0:=zA (blk_drew a0.out);replace HB:=zA (below_drew1 HB.out);have b9:0≤(a1:Int):=za;have c0:a1<(l1.length:Int):=za;obtain⟨b4,d3,a4⟩:=Kd.at_int h2.out a1 b9 c0;have hw418_0:=a4;cases d3;replace a4:=zx HB a4;replace b9:=eq_true b9;replace c0:=eq_true c0;refine start_ (n:=12) (S:=fun w'=>w'.cell? ⟨a2,0,none⟩=some (.int .i64 a3)∧w'.cell? ⟨a2,1,none⟩=some (.int .i64 a6)∧w'.cell? ⟨a2,2,none⟩=some (.slice b0 a5.length b1)∧w'.cell? ⟨a2,3,none⟩=some (.int .i64 a7)∧w'.cell? ⟨a2,4,none⟩=some (.int .i64 a8)∧w'.cell? (b4.add (a1).toNat)=some (.int .i64 (rd l1 a1))) (ds:=[]) #[F,F,F,F,F,F,F,F,F,F,F,F] (by kernel_rfl) rfl rfl ⟨zc0 a0,zc1 a0,zc2 a0,zc3 a0,zc4 a0,(zw HB hw418_0)⟩ (fun hHeld=>?_);refine with_tabW spec_FlyLawful.tab6 spec_FlyLawful.bits6 (fun HT_ HW_=>?_);generalize wr.drew=l7 at a0 HB a4 hHeld⊢;refine zq HT_ 0 ?_;refine zq HT_ 1 ?_;refine zq HT_ 2 ?_;refine zq HT_ 5 ?_;refine zq HT_ 8 ?_;refine zk6 HT_ HW_ hHeld 3 ?_;refine zk6 HT_ HW_ hHeld 4 ?_;refine zk6 HT_ HW_ hHeld 7 ?_;refine zo HT_ 6 (fun K hK=>?_);refine zgo Try.func36 #[.agg #[.int .i64 a3,.int .i64 a6,.slice b0 a5.length b1,.int .i64 a7,.int .i64 a8],.int .i64 a1] ?_
      with_reducible refine(spec_l23Low.calls a3 a6 _ _ a5 a7 a8 a1 d0 _ ?side1 ?side2 i3.out).mono ?_
      (case side1=>exact zC b6 HB);(case side2=>exact b7.out);rintro e l8 ⟨rfl,hb⟩;refine⟨_,rfl,?_⟩;replace a0:=zb a0 hb;replace HB:=zE (zs1 HB a9) hb;(try clear hb);refine hK.out _ _ ⟨zc0 a0,zc1 a0,zc2 a0,zc3 a0,zc4 a0,(zw HB hw418_0)⟩ (fun hHeld=>?_);clear hK K;refine zN ?_;refine zo HT_ 9 (fun K hK=>?_);refine zgo Try.func37 #[.agg #[.int .i64 a3,.int .i64 a6,.slice b0 a5.length b1,.int .i64 a7,.int .i64 a8],.int .i64 a1] ?_
      with_reducible refine(spec_l23High.calls a3 a6 _ _ a5 a7 a8 a1 d1 _ ?side1 ?side2 i5.out).mono ?_
      (case side1=>exact zC b6 HB);(case side2=>exact b7.out);rintro e l9 ⟨rfl,hb⟩;refine⟨_,rfl,?_⟩;replace a0:=zb a0 hb;replace HB:=zE (zs1 HB a9) hb;(try clear hb);refine hK.out _ _ ⟨zc0 a0,zc1 a0,zc2 a0,zc3 a0,zc4 a0,(zw HB hw418_0)⟩ (fun hHeld=>?_);clear hK K;refine zN ?_;refine zo HT_ 10 (fun K hK=>?_);refine zgo Try.func33 #[.int .i64 (rd l1 a1),.int .i64 d0,.int .i64 d1] ?_
      with_reducible refine(spec_l21In.calls (rd l1 a1) d0 d1 false _ i6.out).mono ?_
      rintro e w' ⟨rfl,⟨nd,rfl⟩⟩;refine⟨_,rfl,?_⟩;refine hK.out _ _ ⟨zc0 a0,zc1 a0,zc2 a0,zc3 a0,zc4 a0,(zw HB hw418_0)⟩ (fun hHeld=>?_);clear hK K;refine zN ?_;refine zq HT_ 11 ?_;refine done_ (done_of HT_.out (by kernel_rfl)) ?_
      try go_wp2
      go_ret;exact⟨ze,zs1 HB a9⟩
     subst j5;rw[if_pos rfl]at H
     by_cases h7:a1>0
     rotate_left
     ·rw[if_neg h7]at H
      have i7:decide (0<a1)=false:=decide_eq_false h7;clear h7;have H':=zA H;clear H
      try go_wp2
      replace a0:=zA (blk_drew a0.out);replace HB:=zA (below_drew1 HB.out);have b9:0≤(a1:Int):=za;have c0:a1<(l1.length:Int):=za;obtain⟨b4,d3,a4⟩:=Kd.at_int h2.out a1 b9 c0;have hw418_0:=a4;cases d3;replace a4:=zx HB a4;replace b9:=eq_true b9;replace c0:=eq_true c0;refine start_ (n:=12) (S:=fun w'=>w'.cell? ⟨a2,0,none⟩=some (.int .i64 a3)∧w'.cell? ⟨a2,1,none⟩=some (.int .i64 a6)∧w'.cell? ⟨a2,2,none⟩=some (.slice b0 a5.length b1)∧w'.cell? ⟨a2,3,none⟩=some (.int .i64 a7)∧w'.cell? ⟨a2,4,none⟩=some (.int .i64 a8)∧w'.cell? (b4.add (a1).toNat)=some (.int .i64 (rd l1 a1))) (ds:=[]) #[F,F,F,F,F,F,F,F,F,F,F,F] (by kernel_rfl) rfl rfl ⟨zc0 a0,zc1 a0,zc2 a0,zc3 a0,zc4 a0,(zw HB hw418_0)⟩ (fun hHeld=>?_);refine with_tabW spec_FlyLawful.tab6 spec_FlyLawful.bits6 (fun HT_ HW_=>?_);generalize wr.drew=m0 at a0 HB a4 hHeld⊢;refine zq HT_ 0 ?_;refine zq HT_ 1 ?_;refine zq HT_ 2 ?_;refine zq HT_ 5 ?_;refine zq HT_ 8 ?_;refine zk6 HT_ HW_ hHeld 3 ?_;refine zk6 HT_ HW_ hHeld 4 ?_;refine zk6 HT_ HW_ hHeld 7 ?_;refine zo HT_ 6 (fun K hK=>?_);refine zgo Try.func36 #[.agg #[.int .i64 a3,.int .i64 a6,.slice b0 a5.length b1,.int .i64 a7,.int .i64 a8],.int .i64 a1] ?_
      with_reducible refine(spec_l23Low.calls a3 a6 _ _ a5 a7 a8 a1 d0 _ ?side1 ?side2 i3.out).mono ?_
      (case side1=>exact zC b6 HB);(case side2=>exact b7.out);rintro e m1 ⟨rfl,hb⟩;refine⟨_,rfl,?_⟩;replace a0:=zb a0 hb;replace HB:=zE (zs1 HB a9) hb;(try clear hb);refine hK.out _ _ ⟨zc0 a0,zc1 a0,zc2 a0,zc3 a0,zc4 a0,(zw HB hw418_0)⟩ (fun hHeld=>?_);clear hK K;refine zN ?_;refine zo HT_ 9 (fun K hK=>?_);refine zgo Try.func37 #[.agg #[.int .i64 a3,.int .i64 a6,.slice b0 a5.length b1,.int .i64 a7,.int .i64 a8],.int .i64 a1] ?_
      with_reducible refine(spec_l23High.calls a3 a6 _ _ a5 a7 a8 a1 d1 _ ?side1 ?side2 i5.out).mono ?_
      (case side1=>exact zC b6 HB);(case side2=>exact b7.out);rintro e h8 ⟨rfl,hb⟩;refine⟨_,rfl,?_⟩;replace a0:=zb a0 hb;replace HB:=zE (zs1 HB a9) hb;(try clear hb);refine hK.out _ _ ⟨zc0 a0,zc1 a0,zc2 a0,zc3 a0,zc4 a0,(zw HB hw418_0)⟩ (fun hHeld=>?_);clear hK K;refine zN ?_;refine zo HT_ 10 (fun K hK=>?_);refine zgo Try.func33 #[.int .i64 (rd l1 a1),.int .i64 d0,.int .i64 d1] ?_
      with_reducible refine(spec_l21In.calls (rd l1 a1) d0 d1 true _ i6.out).mono ?_
      rintro e w' ⟨rfl,⟨nd,rfl⟩⟩;refine⟨_,rfl,?_⟩;refine hK.out _ _ ⟨zc0 a0,zc1 a0,zc2 a0,zc3 a0,zc4 a0,(zw HB hw418_0)⟩ (fun hHeld=>?_);clear hK K;refine zN ?_;refine zq HT_ 11 ?_;refine done_ (done_of HT_.out (by kernel_rfl)) ?_
      try go_wp2
      (try(rw[drewN_self h8];generalize hq_:World.drewN h8 _=h8;replace a0:Aside0 (h8.heap[a2]?=some (.cells #[.int .i64 a3,.int .i64 a6,.slice b0 a5.length b1,.int .i64 a7,.int .i64 a8] 27 (0,0))):=⟨by rw[←hq_];exact(zh a0)⟩;replace HB:Aside0 (Below w.heap.size w h8):=⟨by rw[←hq_];exact(zs1 HB a9)⟩;clear hq_));replace a0:=zA (blk_drew a0.out);replace HB:=zA (below_drew1 HB.out);refine start_ (n:=23) (S:=fun w'=>True) (ds:=[]) #[F,F,F,F,F,F,F,F,F,F,F,F,F,F,F,F,F,F,F,F,F,F,F] (by kernel_rfl) rfl rfl trivial (fun hHeld=>?_);refine with_tabW spec_FlyLawful.tab8 spec_FlyLawful.bits8 (fun HT_ HW_=>?_);generalize h8.drew=m2 at a0 HB hHeld⊢;refine zq HT_ 0 ?_;refine zq HT_ 1 ?_;refine zq HT_ 2 ?_;refine zu HT_ 3 ?_;refine zu HT_ 4 ?_;refine zu HT_ 5 ?_;refine zu HT_ 6 ?_;refine zu HT_ 7 ?_;refine zu HT_ 8 ?_;refine zu HT_ 9 ?_;refine zu HT_ 10 ?_;refine zu HT_ 11 ?_;refine zu HT_ 12 ?_;refine zu HT_ 13 ?_;refine zu HT_ 14 ?_;refine zu HT_ 15 ?_;refine zu HT_ 16 ?_;refine zu HT_ 17 ?_;refine zu HT_ 18 ?_;refine zu HT_ 19 ?_;refine zu HT_ 20 ?_;refine zu HT_ 21 ?_;refine zq HT_ 22 ?_;refine done_ (done_of HT_.out (by kernel_rfl)) ?_
      try go_wp2
      go_roundg k2
      case measure=>have:=i9.out;have:=j1.out;omega
      case rel=>exact⟨(wrap64 (a1+1)),zi,H',⟨by have:=i9.out;have:=j1.out;omega⟩,⟨zh a0⟩,⟨zs1 HB a9⟩⟩
     rw[if_pos h7]at H;have i7:decide (0<a1)=true:=decide_eq_true h7;clear h7;obtain⟨b5,b8⟩: ∃j_:Int,(wrap64 (a1-1))=j_:=⟨_,rfl⟩
     first|rw[b8]at H|simp only[b8]at H
     (try rw[b8]at i3);(try rw[b8]at i5);(try rw[b8]at i6);have k0:(IntKind.i64.wrap (a1-1))=b5:=(i64_w _).trans b8;replace H:=zif H;obtain⟨k5,H⟩:=H
     by_cases j6:(b5)<(l1.length:Int)
     rotate_left
     ·rw[if_neg j6]at H
      exact absurd H (by simp)
     rw[if_pos j6]at H;have k6:decide ((b5)<(l1.length:Int))=true:=decide_eq_true j6;clear j6;replace H:=zbd H;obtain⟨d2,k7,H⟩:=H;replace H:=Option.bind_eq_some_iff.mp H;obtain⟨h1,i8,H⟩:=H;replace H:(if h1=true then(spec_FlyLawful.l0 k2 l1 (wrap64 (a1+1)) a3 a6 a5 a7 a8)else(some false))=some r:=H;have k8:=zA i8;clear i8
     by_cases j7:h1=true
     rotate_left
     ·replace j7:=Bool.eq_false_iff.mpr j7
      subst j7;rw[if_neg zfn]at H;obtain rfl:=Option.some.inj H
      try go_wp2
      replace a0:=zA (blk_drew a0.out);replace HB:=zA (below_drew1 HB.out);have b9:0≤(a1:Int):=za;have c0:a1<(l1.length:Int):=za;obtain⟨b4,d3,a4⟩:=Kd.at_int h2.out a1 b9 c0;have hw418_0:=a4;cases d3;replace a4:=zx HB a4;replace b9:=eq_true b9;replace c0:=eq_true c0;refine start_ (n:=12) (S:=fun w'=>w'.cell? ⟨a2,0,none⟩=some (.int .i64 a3)∧w'.cell? ⟨a2,1,none⟩=some (.int .i64 a6)∧w'.cell? ⟨a2,2,none⟩=some (.slice b0 a5.length b1)∧w'.cell? ⟨a2,3,none⟩=some (.int .i64 a7)∧w'.cell? ⟨a2,4,none⟩=some (.int .i64 a8)∧w'.cell? (b4.add (a1).toNat)=some (.int .i64 (rd l1 a1))) (ds:=[]) #[F,F,F,F,F,F,F,F,F,F,F,F] (by kernel_rfl) rfl rfl ⟨zc0 a0,zc1 a0,zc2 a0,zc3 a0,zc4 a0,(zw HB hw418_0)⟩ (fun hHeld=>?_);refine with_tabW spec_FlyLawful.tab6 spec_FlyLawful.bits6 (fun HT_ HW_=>?_);generalize wr.drew=m3 at a0 HB a4 hHeld⊢;refine zq HT_ 0 ?_;refine zq HT_ 1 ?_;refine zq HT_ 2 ?_;refine zq HT_ 5 ?_;refine zq HT_ 8 ?_;refine zk6 HT_ HW_ hHeld 3 ?_;refine zk6 HT_ HW_ hHeld 4 ?_;refine zk6 HT_ HW_ hHeld 7 ?_;refine zo HT_ 6 (fun K hK=>?_);refine zgo Try.func36 #[.agg #[.int .i64 a3,.int .i64 a6,.slice b0 a5.length b1,.int .i64 a7,.int .i64 a8],.int .i64 a1] ?_
      with_reducible refine(spec_l23Low.calls a3 a6 _ _ a5 a7 a8 a1 d0 _ ?side1 ?side2 i3.out).mono ?_
      (case side1=>exact zC b6 HB);(case side2=>exact b7.out);rintro e m4 ⟨rfl,hb⟩;refine⟨_,rfl,?_⟩;replace a0:=zb a0 hb;replace HB:=zE (zs1 HB a9) hb;(try clear hb);refine hK.out _ _ ⟨zc0 a0,zc1 a0,zc2 a0,zc3 a0,zc4 a0,(zw HB hw418_0)⟩ (fun hHeld=>?_);clear hK K;refine zN ?_;refine zo HT_ 9 (fun K hK=>?_);refine zgo Try.func37 #[.agg #[.int .i64 a3,.int .i64 a6,.slice b0 a5.length b1,.int .i64 a7,.int .i64 a8],.int .i64 a1] ?_
      with_reducible refine(spec_l23High.calls a3 a6 _ _ a5 a7 a8 a1 d1 _ ?side1 ?side2 i5.out).mono ?_
      (case side1=>exact zC b6 HB);(case side2=>exact b7.out);rintro e h9 ⟨rfl,hb⟩;refine⟨_,rfl,?_⟩;replace a0:=zb a0 hb;replace HB:=zE (zs1 HB a9) hb;(try clear hb);refine hK.out _ _ ⟨zc0 a0,zc1 a0,zc2 a0,zc3 a0,zc4 a0,(zw HB hw418_0)⟩ (fun hHeld=>?_);clear hK K;refine zN ?_;refine zo HT_ 10 (fun K hK=>?_);refine zgo Try.func33 #[.int .i64 (rd l1 a1),.int .i64 d0,.int .i64 d1] ?_
      with_reducible refine(spec_l21In.calls (rd l1 a1) d0 d1 true _ i6.out).mono ?_
      rintro e w' ⟨rfl,⟨nd,rfl⟩⟩;refine⟨_,rfl,?_⟩;refine hK.out _ _ ⟨zc0 a0,zc1 a0,zc2 a0,zc3 a0,zc4 a0,(zw HB hw418_0)⟩ (fun hHeld=>?_);clear hK K;refine zN ?_;refine zq HT_ 11 ?_;refine done_ (done_of HT_.out (by kernel_rfl)) ?_
      try go_wp2
      (try(rw[drewN_self h9];generalize hq_:World.drewN h9 _=h9;replace a0:Aside0 (h9.heap[a2]?=some (.cells #[.int .i64 a3,.int .i64 a6,.slice b0 a5.length b1,.int .i64 a7,.int .i64 a8] 27 (0,0))):=⟨by rw[←hq_];exact(zh a0)⟩;replace HB:Aside0 (Below w.heap.size w h9):=⟨by rw[←hq_];exact(zs1 HB a9)⟩;clear hq_));replace a0:=zA (blk_drew a0.out);replace HB:=zA (below_drew1 HB.out);have d4:0≤(a1:Int):=za;have d5:a1<(l1.length:Int):=za;obtain⟨g9,h4,b2⟩:=Kd.at_int h2.out a1 d4 d5;have hw422_0:=b2;obtain rfl:b4=g9:=(by injection h4);replace b2:=zx HB b2;replace d4:=eq_true d4;replace d5:=eq_true d5;have d6:0≤((b5):Int):=za;have d7:(b5)<(l1.length:Int):=za;obtain⟨h0,h5,b3⟩:=Kd.at_int h2.out (b5) d6 d7;have hw423_0:=b3;obtain rfl:b4=h0:=(by injection h5);replace b3:=zx HB b3;replace d6:=eq_true d6;replace d7:=eq_true d7;refine start_ (n:=23) (S:=fun w'=>w'.cell? ⟨a2,0,none⟩=some (.int .i64 a3)∧w'.cell? ⟨a2,1,none⟩=some (.int .i64 a6)∧w'.cell? ⟨a2,2,none⟩=some (.slice b0 a5.length b1)∧w'.cell? ⟨a2,3,none⟩=some (.int .i64 a7)∧w'.cell? ⟨a2,4,none⟩=some (.int .i64 a8)∧w'.cell? (b4.add (a1).toNat)=some (.int .i64 (rd l1 a1))∧w'.cell? (b4.add ((b5)).toNat)=some (.int .i64 (rd l1 (b5)))) (ds:=[]) #[F,F,F,F,F,F,F,F,F,F,F,F,F,F,F,F,F,F,F,F,F,F,F] (by kernel_rfl) rfl rfl ⟨zc0 a0,zc1 a0,zc2 a0,zc3 a0,zc4 a0,(zw HB hw422_0),(zw HB hw423_0)⟩ (fun hHeld=>?_);refine with_tabW spec_FlyLawful.tab8 spec_FlyLawful.bits8 (fun HT_ HW_=>?_);generalize h9.drew=m5 at a0 HB b2 b3 hHeld⊢;refine zq HT_ 0 ?_;refine zq HT_ 1 ?_;refine zq HT_ 2 ?_;refine zq HT_ 3 ?_;refine zq HT_ 4 ?_;refine zq HT_ 5 ?_;refine zq HT_ 7 ?_;refine zq HT_ 8 ?_;refine zq HT_ 9 ?_;refine zq HT_ 10 ?_;refine zq HT_ 13 ?_;refine zq HT_ 14 ?_;refine zq HT_ 17 ?_;refine zq HT_ 18 ?_;refine zk7 HT_ HW_ hHeld 6 ?_;refine zk7 HT_ HW_ hHeld 11 ?_;refine zq HT_ 12 ?_;refine zk7 HT_ HW_ hHeld 15 ?_;refine zk7 HT_ HW_ hHeld 16 ?_;refine zo HT_ 19 (fun K hK=>?_);refine goes_ Try.func38 (by kernel_rfl) rfl #[.agg #[.int .i64 a3,.int .i64 a6,.slice b0 a5.length b1,.int .i64 a7,.int .i64 a8],.int .i64 b5] (by rfl) rfl rfl (by(try simp only[List.map_toArray,List.map_cons,List.map_nil]);first|done|(simp only[b8];rfl)|rfl|(simp only[List.length_drop,List.length_take];rfl)) ?_
      with_reducible refine(spec_l23Most.calls a3 a6 _ _ a5 a7 a8 b5 d2 _ ?side1 ?side2 k7.out).mono ?_
      (case side1=>exact zC b6 HB);(case side2=>exact b7.out);rintro e m6 ⟨rfl,hb⟩;refine⟨_,rfl,?_⟩;replace a0:=zb a0 hb;replace HB:=zE (zs1 HB a9) hb;(try clear hb);refine hK.out _ _ ⟨zc0 a0,zc1 a0,zc2 a0,zc3 a0,zc4 a0,(zw HB hw422_0),(zw HB hw423_0)⟩ (fun hHeld=>?_);clear hK K;refine zN ?_;refine zo HT_ 20 (fun K hK=>?_);refine goes_ Try.func33 (by kernel_rfl) rfl #[.int .i64 (wrap64 ((rd l1 a1)-(rd l1 (b5)))),.int .i64 a3,.int .i64 d2] (by rfl) rfl rfl (by(try simp only[List.map_toArray,List.map_cons,List.map_nil]);first|done|(simp only[b8];rfl)|rfl|(simp only[List.length_drop,List.length_take];rfl)) ?_
      with_reducible refine(spec_l21In.calls (wrap64 ((rd l1 a1)-(rd l1 (b5)))) a3 d2 false _ k8.out).mono ?_
      rintro e w' ⟨rfl,⟨nd,rfl⟩⟩;refine⟨_,rfl,?_⟩;refine hK.out _ _ ⟨zc0 a0,zc1 a0,zc2 a0,zc3 a0,zc4 a0,(zw HB hw422_0),(zw HB hw423_0)⟩ (fun hHeld=>?_);clear hK K;refine zN ?_;refine zq HT_ 21 ?_;refine zq HT_ 22 ?_;refine done_ (done_of HT_.out (by kernel_rfl)) ?_
      try go_wp2
      go_ret;exact⟨by first|rfl|(simp[errW_none,errW_some]<;>rfl)|(simp only[←b8];first|rfl|(simp[errW_none,errW_some]<;>rfl))|(simp[*,errW_none,errW_some]<;>rfl),zs1 HB a9⟩
     subst j7;rw[if_pos rfl]at H;have H':=zA H;clear H
     try go_wp2
     replace a0:=zA (blk_drew a0.out);replace HB:=zA (below_drew1 HB.out);have b9:0≤(a1:Int):=za;have c0:a1<(l1.length:Int):=za;obtain⟨b4,d3,a4⟩:=Kd.at_int h2.out a1 b9 c0;have hw418_0:=a4;cases d3;replace a4:=zx HB a4;replace b9:=eq_true b9;replace c0:=eq_true c0;refine start_ (n:=12) (S:=fun w'=>w'.cell? ⟨a2,0,none⟩=some (.int .i64 a3)∧w'.cell? ⟨a2,1,none⟩=some (.int .i64 a6)∧w'.cell? ⟨a2,2,none⟩=some (.slice b0 a5.length b1)∧w'.cell? ⟨a2,3,none⟩=some (.int .i64 a7)∧w'.cell? ⟨a2,4,none⟩=some (.int .i64 a8)∧w'.cell? (b4.add (a1).toNat)=some (.int .i64 (rd l1 a1))) (ds:=[]) #[F,F,F,F,F,F,F,F,F,F,F,F] (by kernel_rfl) rfl rfl ⟨zc0 a0,zc1 a0,zc2 a0,zc3 a0,zc4 a0,(zw HB hw418_0)⟩ (fun hHeld=>?_);refine with_tabW spec_FlyLawful.tab6 spec_FlyLawful.bits6 (fun HT_ HW_=>?_);generalize wr.drew=m7 at a0 HB a4 hHeld⊢;refine zq HT_ 0 ?_;refine zq HT_ 1 ?_;refine zq HT_ 2 ?_;refine zq HT_ 5 ?_;refine zq HT_ 8 ?_;refine zk6 HT_ HW_ hHeld 3 ?_;refine zk6 HT_ HW_ hHeld 4 ?_;refine zk6 HT_ HW_ hHeld 7 ?_;refine zo HT_ 6 (fun K hK=>?_);refine zgo Try.func36 #[.agg #[.int .i64 a3,.int .i64 a6,.slice b0 a5.length b1,.int .i64 a7,.int .i64 a8],.int .i64 a1] ?_
     with_reducible refine(spec_l23Low.calls a3 a6 _ _ a5 a7 a8 a1 d0 _ ?side1 ?side2 i3.out).mono ?_
     (case side1=>exact zC b6 HB);(case side2=>exact b7.out);rintro e m8 ⟨rfl,hb⟩;refine⟨_,rfl,?_⟩;replace a0:=zb a0 hb;replace HB:=zE (zs1 HB a9) hb;(try clear hb);refine hK.out _ _ ⟨zc0 a0,zc1 a0,zc2 a0,zc3 a0,zc4 a0,(zw HB hw418_0)⟩ (fun hHeld=>?_);clear hK K;refine zN ?_;refine zo HT_ 9 (fun K hK=>?_);refine zgo Try.func37 #[.agg #[.int .i64 a3,.int .i64 a6,.slice b0 a5.length b1,.int .i64 a7,.int .i64 a8],.int .i64 a1] ?_
     with_reducible refine(spec_l23High.calls a3 a6 _ _ a5 a7 a8 a1 d1 _ ?side1 ?side2 i5.out).mono ?_
     (case side1=>exact zC b6 HB);(case side2=>exact b7.out);rintro e i0 ⟨rfl,hb⟩;refine⟨_,rfl,?_⟩;replace a0:=zb a0 hb;replace HB:=zE (zs1 HB a9) hb;(try clear hb);refine hK.out _ _ ⟨zc0 a0,zc1 a0,zc2 a0,zc3 a0,zc4 a0,(zw HB hw418_0)⟩ (fun hHeld=>?_);clear hK K;refine zN ?_;refine zo HT_ 10 (fun K hK=>?_);refine zgo Try.func33 #[.int .i64 (rd l1 a1),.int .i64 d0,.int .i64 d1] ?_
     with_reducible refine(spec_l21In.calls (rd l1 a1) d0 d1 true _ i6.out).mono ?_
     rintro e w' ⟨rfl,⟨nd,rfl⟩⟩;refine⟨_,rfl,?_⟩;refine hK.out _ _ ⟨zc0 a0,zc1 a0,zc2 a0,zc3 a0,zc4 a0,(zw HB hw418_0)⟩ (fun hHeld=>?_);clear hK K;refine zN ?_;refine zq HT_ 11 ?_;refine done_ (done_of HT_.out (by kernel_rfl)) ?_
     try go_wp2
     (try(rw[drewN_self i0];generalize hq_:World.drewN i0 _=i0;replace a0:Aside0 (i0.heap[a2]?=some (.cells #[.int .i64 a3,.int .i64 a6,.slice b0 a5.length b1,.int .i64 a7,.int .i64 a8] 27 (0,0))):=⟨by rw[←hq_];exact(zh a0)⟩;replace HB:Aside0 (Below w.heap.size w i0):=⟨by rw[←hq_];exact(zs1 HB a9)⟩;clear hq_));replace a0:=zA (blk_drew a0.out);replace HB:=zA (below_drew1 HB.out);have d4:0≤(a1:Int):=za;have d5:a1<(l1.length:Int):=za;obtain⟨g9,h4,b2⟩:=Kd.at_int h2.out a1 d4 d5;have hw422_0:=b2;obtain rfl:b4=g9:=(by injection h4);replace b2:=zx HB b2;replace d4:=eq_true d4;replace d5:=eq_true d5;have d6:0≤((b5):Int):=za;have d7:(b5)<(l1.length:Int):=za;obtain⟨h0,h5,b3⟩:=Kd.at_int h2.out (b5) d6 d7;have hw423_0:=b3;obtain rfl:b4=h0:=(by injection h5);replace b3:=zx HB b3;replace d6:=eq_true d6;replace d7:=eq_true d7;refine start_ (n:=23) (S:=fun w'=>w'.cell? ⟨a2,0,none⟩=some (.int .i64 a3)∧w'.cell? ⟨a2,1,none⟩=some (.int .i64 a6)∧w'.cell? ⟨a2,2,none⟩=some (.slice b0 a5.length b1)∧w'.cell? ⟨a2,3,none⟩=some (.int .i64 a7)∧w'.cell? ⟨a2,4,none⟩=some (.int .i64 a8)∧w'.cell? (b4.add (a1).toNat)=some (.int .i64 (rd l1 a1))∧w'.cell? (b4.add ((b5)).toNat)=some (.int .i64 (rd l1 (b5)))) (ds:=[]) #[F,F,F,F,F,F,F,F,F,F,F,F,F,F,F,F,F,F,F,F,F,F,F] (by kernel_rfl) rfl rfl ⟨zc0 a0,zc1 a0,zc2 a0,zc3 a0,zc4 a0,(zw HB hw422_0),(zw HB hw423_0)⟩ (fun hHeld=>?_);refine with_tabW spec_FlyLawful.tab8 spec_FlyLawful.bits8 (fun HT_ HW_=>?_);generalize i0.drew=m9 at a0 HB b2 b3 hHeld⊢;refine zq HT_ 0 ?_;refine zq HT_ 1 ?_;refine zq HT_ 2 ?_;refine zq HT_ 3 ?_;refine zq HT_ 4 ?_;refine zq HT_ 5 ?_;refine zq HT_ 7 ?_;refine zq HT_ 8 ?_;refine zq HT_ 9 ?_;refine zq HT_ 10 ?_;refine zq HT_ 13 ?_;refine zq HT_ 14 ?_;refine zq HT_ 17 ?_;refine zq HT_ 18 ?_;refine zk7 HT_ HW_ hHeld 6 ?_;refine zk7 HT_ HW_ hHeld 11 ?_;refine zq HT_ 12 ?_;refine zk7 HT_ HW_ hHeld 15 ?_;refine zk7 HT_ HW_ hHeld 16 ?_;refine zo HT_ 19 (fun K hK=>?_);refine goes_ Try.func38 (by kernel_rfl) rfl #[.agg #[.int .i64 a3,.int .i64 a6,.slice b0 a5.length b1,.int .i64 a7,.int .i64 a8],.int .i64 b5] (by rfl) rfl rfl (by(try simp only[List.map_toArray,List.map_cons,List.map_nil]);first|done|(simp only[b8];rfl)|rfl|(simp only[List.length_drop,List.length_take];rfl)) ?_
     with_reducible refine(spec_l23Most.calls a3 a6 _ _ a5 a7 a8 b5 d2 _ ?side1 ?side2 k7.out).mono ?_
     (case side1=>exact zC b6 HB);(case side2=>exact b7.out);rintro e n0 ⟨rfl,hb⟩;refine⟨_,rfl,?_⟩;replace a0:=zb a0 hb;replace HB:=zE (zs1 HB a9) hb;(try clear hb);refine hK.out _ _ ⟨zc0 a0,zc1 a0,zc2 a0,zc3 a0,zc4 a0,(zw HB hw422_0),(zw HB hw423_0)⟩ (fun hHeld=>?_);clear hK K;refine zN ?_;refine zo HT_ 20 (fun K hK=>?_);refine goes_ Try.func33 (by kernel_rfl) rfl #[.int .i64 (wrap64 ((rd l1 a1)-(rd l1 (b5)))),.int .i64 a3,.int .i64 d2] (by rfl) rfl rfl (by(try simp only[List.map_toArray,List.map_cons,List.map_nil]);first|done|(simp only[b8];rfl)|rfl|(simp only[List.length_drop,List.length_take];rfl)) ?_
     with_reducible refine(spec_l21In.calls (wrap64 ((rd l1 a1)-(rd l1 (b5)))) a3 d2 true _ k8.out).mono ?_
     rintro e w' ⟨rfl,⟨nd,rfl⟩⟩;refine⟨_,rfl,?_⟩;refine hK.out _ _ ⟨zc0 a0,zc1 a0,zc2 a0,zc3 a0,zc4 a0,(zw HB hw422_0),(zw HB hw423_0)⟩ (fun hHeld=>?_);clear hK K;refine zN ?_;refine zq HT_ 21 ?_;refine zq HT_ 22 ?_;refine done_ (done_of HT_.out (by kernel_rfl)) ?_
     try go_wp2
     go_roundg k2
     case measure=>have:=i9.out;have:=j1.out;omega
     case rel=>exact⟨(wrap64 (a1+1)),zi,H',⟨by have:=i9.out;have:=j1.out;omega⟩,⟨zh a0⟩,⟨zs1 HB a9⟩⟩
end Go.Proofs.Ytkecbmgdmkmfgaa.QFnFlyNext
