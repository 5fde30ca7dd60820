/- The walk of what the law FnFlyShift reaches: laid by a program of this session (ownprint.py). -/
import Derived.Test.YtcokhiclencmdaaQFnFlyShiftx0
import Derived.Test.YtcokhiclencmdaaQFnFlyShiftx3
import Derived.Test.YtcokhiclencmdaaQFnFlyShiftx11
namespace Go.Proofs.Ytcokhiclencmdaa.QFnFlyShift
open Go.RowKit Go.Proofs.YtcokhiclencmdaaW.PrintWords Go.Proofs.YtcokhiclencmdaaW.PrintLast Go.Proofs.YtcokhiclencmdaaW.PrintMore Go.Proofs.Ytcokhiclencmdaa.Z
attribute [local go_sem] max2_int min2_int max_two min_two max_three min_three max_four min_four zdn   -- for this text's walks alone
set_option linter.unusedVariables false
set_option linter.unusedSimpArgs false
def spec_DrawFlyShift.f (k:Nat) (l0:List Int):Option (Int×Int×(List (S43))×Int×Int×Int):=(spec_l21Open.f l0).bind fun a1=>((spec_l30Any.f k a1.1 a1.2).bind fun a0=>((spec_l21Rd_pick.f k a1.1 a0.2.2.2.2.2 50).bind fun a3=>((spec_l21Rd_pick.f k a1.1 a3.2 20).bind fun a4=>((some (([a3.1,wrap64 (-a4.1),0,10000,(-10001)]:List Int):List Int)).bind fun a5=>((spec_l21Rd_pick.f k a1.1 a4.2 5).bind fun a2=>(if 0≤a2.1 then(if a2.1<(a5.length:Int)then(some (a0.1,a0.2.1,a0.2.2.1,a0.2.2.2.1,a0.2.2.2.2.1,rd a5 a2.1))else(none))else(none)))))))
def spec_DrawFlyShift.T3:Bool×List (List Nat×List Nat):=(true,[([],[]),([],[]),([1],[1]),([],[]),([3,2],[3]),([4],[4]),([2,5],[2,5]),([],[]),([7,4],[7]),([6,8],[6,8]),([9],[9]),([0,8,0],[0]),([10,11,0,1,2,3,4,5,6,7,8,9,10,11],[10])])
def spec_DrawFlyShift.B3:List Nat:=[0,0,2,0,14,30,62,0,158,510,1022,415,4095]
theorem spec_DrawFlyShift.tab3:rtab .any (opsOf Try.f4 3)=spec_DrawFlyShift.T3:=by kernel_rfl
theorem spec_DrawFlyShift.bits3:waitsOk spec_DrawFlyShift.T3.2 spec_DrawFlyShift.B3=true:=by kernel_rfl
set_option maxHeartbeats 8000000 in
set_option maxRecDepth 100000 in
theorem spec_DrawFlyShift.calls (k:Nat) (A0:Option Addr) (c0:Nat) (l0:List Int) (r1:Int) (r2:Int) (r3:List (S43)) (r4:Int) (r5:Int) (r6:Int) (w:World) (hr0:Kd.C (Kd.int .u8) w A0 l0.length l0) (hc0:l0.length≤c0) (h:spec_DrawFlyShift.f k l0=some (r1,r2,r3,r4,r5,r6)):
 Calls Try.prog 4 #[.slice A0 l0.length c0] w fun e w'=> ∃v2_:Value,e= .returned (.tuple #[.agg #[.int .i64 r1,.int .i64 r2,v2_,.int .i64 r4,.int .i64 r5],.int .i64 r6])∧Kd.R k43 43 w' w.heap.size (fun _=>True) v2_ r3∧Below w.heap.size w w':=by
 have j7:=Try.underlying27;have j8:=zA hr0;have j9:=zA hc0;clear hr0 hc0;have HB:=zA (Below.refl w.heap.size w);have H:=h;clear h;unfold spec_DrawFlyShift.f at H;replace H:=Option.bind_eq_some_iff.mp H;obtain⟨⟨a9,e8⟩,h7,H⟩:=H;replace H:((spec_l30Any.f k a9 e8).bind fun d7=>((spec_l21Rd_pick.f k a9 d7.2.2.2.2.2 50).bind fun d9=>((spec_l21Rd_pick.f k a9 d9.2 20).bind fun d4=>((some (([d9.1,wrap64 (-d4.1),0,10000,(-10001)]:List Int):List Int)).bind fun a7=>((spec_l21Rd_pick.f k a9 d4.2 5).bind fun a8=>(if 0≤a8.1 then(if a8.1<(a7.length:Int)then(some (d7.1,d7.2.1,d7.2.2.1,d7.2.2.2.1,d7.2.2.2.2.1,rd a7 a8.1))else(none))else(none)))))))=some (r1,r2,r3,r4,r5,r6):=H;have A2:=zA h7;clear h7;replace H:=Option.bind_eq_some_iff.mp H;obtain⟨⟨b7,b8,b4,b9,c1,e1⟩,h8,H⟩:=H;replace H:((spec_l21Rd_pick.f k a9 e1 50).bind fun d9=>((spec_l21Rd_pick.f k a9 d9.2 20).bind fun d4=>((some (([d9.1,wrap64 (-d4.1),0,10000,(-10001)]:List Int):List Int)).bind fun a7=>((spec_l21Rd_pick.f k a9 d4.2 5).bind fun a8=>(if 0≤a8.1 then(if a8.1<(a7.length:Int)then(some (b7,b8,b4,b9,c1,rd a7 a8.1))else(none))else(none))))))=some (r1,r2,r3,r4,r5,r6):=H;have A3:=zA h8;clear h8;replace H:=Option.bind_eq_some_iff.mp H;obtain⟨⟨d6,e3⟩,h9,H⟩:=H;replace H:((spec_l21Rd_pick.f k a9 e3 20).bind fun d4=>((some (([d6,wrap64 (-d4.1),0,10000,(-10001)]:List Int):List Int)).bind fun a7=>((spec_l21Rd_pick.f k a9 d4.2 5).bind fun a8=>(if 0≤a8.1 then(if a8.1<(a7.length:Int)then(some (b7,b8,b4,b9,c1,rd a7 a8.1))else(none))else(none)))))=some (r1,r2,r3,r4,r5,r6):=H;have A4:=zA h9;clear h9;replace H:=Option.bind_eq_some_iff.mp H;obtain⟨⟨d3,d8⟩,i0,H⟩:=H;replace H:((some (([d6,wrap64 (-d3),0,10000,(-10001)]:List Int):List Int)).bind fun a7=>((spec_l21Rd_pick.f k a9 d8 5).bind fun a8=>(if 0≤a8.1 then(if a8.1<(a7.length:Int)then(some (b7,b8,b4,b9,c1,rd a7 a8.1))else(none))else(none))))=some (r1,r2,r3,r4,r5,r6):=H;have A5:=zA i0;clear i0;obtain⟨a7,e0⟩: ∃y_:List Int,y_=(([d6,wrap64 (-d3),0,10000,(-10001)]:List Int)):=⟨_,rfl⟩
 replace H:((spec_l21Rd_pick.f k a9 d8 5).bind fun a8=>(if 0≤a8.1 then(if a8.1<(a7.length:Int)then(some (b7,b8,b4,b9,c1,rd a7 a8.1))else(none))else(none)))=some (r1,r2,r3,r4,r5,r6):=by first|(rw[e0];with_reducible exact H)|(have H2_:=(Option.bind_some _ _).symm.trans H;rw[e0];with_reducible exact H2_)|(have H2_:=(Option.bind_some _ _).symm.trans H;with_reducible exact H2_)|with_reducible exact H|(rw[e0];exact H)|exact H
 have e4:=zA e0;clear e0;replace H:=Option.bind_eq_some_iff.mp H;obtain⟨⟨b6,e9⟩,i1,H⟩:=H;replace H:(if 0≤b6 then(if b6<(a7.length:Int)then(some (b7,b8,b4,b9,c1,rd a7 b6))else(none))else(none))=some (r1,r2,r3,r4,r5,r6):=H;have A6:=zA i1;clear i1;replace H:=zif H;obtain⟨k0,H⟩:=H
 by_cases c8:b6<(a7.length:Int)
 rotate_left
 ·rw[if_neg c8]at H
  exact absurd H (by simp)
 rw[if_pos c8]at H;have k1:decide (b6<(a7.length:Int))=true:=decide_eq_true c8;clear c8;simp only[Option.some.injEq,Prod.mk.injEq]at H;obtain⟨rfl,rfl,rfl,rfl,rfl,rfl⟩:=H
 go_enter Try.func4,Try.ntmps4
 try go_wp2_with (first|((with_reducible refine gate_dst (N:=2) rfl ?_);refine zbx 2 #[.int .i64 0,.int .i64 0,.slice none 0 0,.int .i64 0,.int .i64 0] 27 ?_;intro a6 hg w9 hbox hb;have a1:=zA hbox;have i2:=zgs hg (zs0 HB);have b0:=zgs hg (zs0 HB);replace HB:=zE (zs0 HB) hb;clear hb hbox hg)|((with_reducible refine gate_callee (f:=9) rfl ?_);refine zgl (N:=some 7) Try.func9 #[.slice A0 l0.length c0] ?_;(with_reducible refine(spec_l21Open.calls _ _ l0 a9 e8 w _ ?side1 ?side2 ?side3 A2.out).mono ?_);(case side1=>repeat(first|(with_reducible first|exact HB.out|apply below_alloc|apply pw_below_drewN|apply below_drew1|refine below_set ?_ b0.out)|exact HB.out));(case side2=>exact j8.out);(case side3=>exact j9.out);rintro e l5 ⟨g338,rfl,hi,hb,hb2⟩;refine⟨_,rfl,?_⟩;have a0:=zA (hi);have a2:=zA (IsS51.ne_blk hi (blk_below (g:=a6) (o:= .cells #[.int .i64 0,.int .i64 0,.slice none 0 0,.int .i64 0,.int .i64 0] 27 (0,0)) (zh a1) hb2) (by decide));have d1:=zA (Ne.symm (IsS51.ne_blk hi (blk_below (g:=a6) (o:= .cells #[.int .i64 0,.int .i64 0,.slice none 0 0,.int .i64 0,.int .i64 0] 27 (0,0)) (zh a1) hb2) (by decide)));replace a1:=zA (blk_below (g:=a6) (o:= .cells #[.int .i64 0,.int .i64 0,.slice none 0 0,.int .i64 0,.int .i64 0] 27 (0,0)) (zh a1) hb2);replace HB:=zA (hb);(try clear hb);(try clear hb2);(try clear hk);(try clear hi))|((with_reducible refine gate_callee (f:=10) rfl ?_);refine zgl (N:=some 9) Try.func10 #[.pointer (some ⟨g338,0,none⟩)] ?_;(with_reducible refine(spec_l30Any.calls k g338 a9 e8 b7 b8 b4 b9 c1 e1 w _ ?side1 ?side2 A3.out).mono ?_);(case side1=>exact zI1 a0 a2);(case side2=>exact zB1 a0 HB b0);rintro e l6 ⟨k2,rfl,i3,hi,hb,hk⟩;refine⟨_,rfl,?_⟩;have a5:=zA (Kd.R_lower i3 (below_size (zB1 a0 HB b0)));replace a1:=zbh hk a1 d1;replace HB:=zA (hb);replace a0:=zA (hi);(try clear hb);(try clear hb2);(try clear hk);(try clear hi);(try clear i3))|((with_reducible refine gate_dst (N:=5) rfl ?_);refine zbx 5 #[.int .i64 0,.int .i64 0,.slice none 0 0,.int .i64 0,.int .i64 0] 27 ?_;intro b5 hg k3 hbox hb;have a3:=zA hbox;have i4:=zA ((by rw[hg];exact(below_size (zB1 a0 HB b0)):w.heap.size≤b5));have d0:=zA ((by rw[hg];exact(below_size (zB1 a0 HB b0)):w.heap.size≤b5));have b1:=zne hg a1;have b2:=znf hg a1;have a4:=znl hg (IsS51.lt (zI1 a0 a2));have d2:=zns a4;replace a5:=zA (Kd.R_below (zr a5) hb);replace a1:=zb a1 hb;replace HB:=zE (zB1 a0 HB b0) hb;replace a0:=zib (zI1 a0 a2) hb;clear hb hbox hg;have i5:=b2.out;have i6:=b1.out;have i7:=d2.out;have i8:=a4.out;obtain⟨f3,f4,f5,f6,f7⟩:=zd5 a3;obtain⟨f8,f9,g0,g1,g2⟩:=zn5 a3;obtain⟨Ao16,co16,h3⟩:=Kd.R_slice a5.out;subst h3))
 have pi357:(0≤(b6:Int))=True:=eq_true (za);have f2:(b6<(a7.length:Int))=True:=eq_true (za);obtain⟨f0,e_⟩: ∃x,x=(((((k3.setCell ⟨b5,0,none⟩ (.int .i64 b7)).setCell ⟨b5,1,none⟩ (.int .i64 b8)).setCell ⟨b5,2,none⟩ (.slice Ao16 b4.length co16)).setCell ⟨b5,3,none⟩ (.int .i64 b9)).setCell ⟨b5,4,none⟩ (.int .i64 c1)):=⟨_,rfl⟩
 have n0_:Aside0 (Kd.R k43 43 f0 w.heap.size (fun _=>True) (.slice Ao16 b4.length co16) b4):=by rw[e_];exact⟨zRf a5 a3 (fun _ hk=>trivial)⟩
 have n1_:Aside0 (f0.heap[a6]?=some (.cells #[.int .i64 0,.int .i64 0,.slice none 0 0,.int .i64 0,.int .i64 0] 27 (0,0))):=by rw[e_];exact⟨zpf a1 b1⟩
 have n2_:Aside0 (f0.heap[b5]?=some (.cells #[.int .i64 b7,.int .i64 b8,.slice Ao16 b4.length co16,.int .i64 b9,.int .i64 c1] 27 (0,0))):=by rw[e_];exact⟨zpb a3⟩
 have n3_:Aside0 (IsS51 w f0 g338 a9 e1):=by rw[e_];exact⟨zI2 a0 a2 a4⟩
 have n4_:Aside0 (Below w.heap.size w f0):=by rw[e_];exact⟨zB2 a0 HB b0 d0⟩
 (try clear a5);(try clear a1);(try clear a3);(try clear a0);(try clear HB);rw[←e_];clear e_;have a5:=n0_;have a1:=n1_;have a3:=n2_;have a0:=n3_;have HB:=n4_;clear n0_ n1_ n2_ n3_ n4_;replace a5:=zA (Kd.R_drew a5.out);replace a1:=zA (blk_drew a1.out);replace a3:=zA (blk_drew a3.out);replace a0:=zA (IsS51.drew a0.out);replace HB:=zA (below_drew1 HB.out);refine start_ (n:=13) (S:=fun w'=>True) (ds:=[]) #[F,F,F,F,F,F,F,F,F,F,F,F,F] (by kernel_rfl) rfl rfl trivial (fun hHeld=>?_);refine with_tabW spec_DrawFlyShift.tab3 spec_DrawFlyShift.bits3 (fun HT_ HW_=>?_);generalize f0.drew=l7 at a5 a1 a3 a0 HB hHeld⊢;refine zq HT_ 1 ?_;refine zq HT_ 3 ?_;refine zq HT_ 7 ?_;refine inv_at [0,2,4,5,6,8,9,10,11,12] (fun a0_ b a w'=> ∃(b3:Value) (adz_v353:Addr) (m9_:Value),a=putSel a0_ b [(0,10,.agg #[.int .i64 b7,.int .i64 b8,.slice Ao16 b4.length co16,.int .i64 b9,.int .i64 c1]),(2,12,.int .i64 d6),(4,14,.int .i64 d3),(5,15,.int .i64 (wrap64 (-d3))),(6,16,b3),(8,18,.int .i64 b6),(9,19,m9_),(10,20,.int .i64 (rd a7 b6)),(12,3,.int .i64 (rd a7 b6))]∧(Kd.R k43 43 w' w.heap.size (fun _=>True) (.slice Ao16 b4.length co16) b4)∧(b 11=false→w'.heap[a6]?=some (.cells #[.int .i64 0,.int .i64 0,.slice none 0 0,.int .i64 0,.int .i64 0] 27 (0,0)))∧(w'.heap[b5]?=some (.cells #[.int .i64 b7,.int .i64 b8,.slice Ao16 b4.length co16,.int .i64 b9,.int .i64 c1] 27 (0,0)))∧(b 2=false→IsS51 w w' g338 a9 e1)∧(Below w.heap.size w w')∧(b 2=true→b 4=false→IsS51 w w' g338 a9 e3)∧(b 4=true→b 8=false→IsS51 w w' g338 a9 d8)∧(b 6=true→Kd.R (Kd.int .i64) 3 w' w.heap.size (fun _=>True) b3 a7)∧(b 6=true→ ∃c_,(b3:Value)= .slice (some adz_v353) a7.length c_)∧(b 8=true→IsS51 w w' g338 a9 e9)∧(b 11=true→w'.heap[a6]?=some (.cells #[.int .i64 b7,.int .i64 b8,.slice Ao16 b4.length co16,.int .i64 b9,.int .i64 c1] 27 (0,0)))∧(b 9=true→(m9_:Value)= .pointer (some (adz_v353.add (b6).toNat)))) HT_.out HW_.out (by kernel_rfl) (by kernel_rfl) ?_ ?_ ?_
 ·exact⟨.bool false,⟨0,0,none⟩,.bool false,by simp only[putSel,Bool.false_eq_true,if_false],a5.out,fun _=>a1.out,a3.out,fun _=>a0.out,HB.out,fun h_=>absurd h_ (by decide),fun h_=>absurd h_ (by decide),fun h_=>absurd h_ (by decide),fun h_=>absurd h_ (by decide),fun h_=>absurd h_ (by decide),fun h_=>absurd h_ (by decide),fun h_=>absurd h_ (by decide)⟩
 ·skip
  clear a1 a3 HB a0 a5;refine steps_cons ?_ ?_
  ·rintro b a w' ⟨b3,adz_v353,m9_,ha,Q_HO343,Q_BK335,Q_BK347,Q_HI338,Q_HB,Q_HI338_e2,Q_HI338_e4,Q_HO354,Q_HA_HO354,Q_HI338_e8,Q_BK335_e11,Q_X9_⟩ hb_ hon hoff
   refine⟨_,rfl,fun K hK=>?_⟩
   have e5:a.tmps[5]?=some (.pointer (some ⟨b5,0,none⟩)):=by rw[ha];exact(putSel_off rfl).trans rfl
   replace ha:=zA ha;have a5:=zA Q_HO343;have a1:=zA (Q_BK335 (hoff 11 (by kernel_rfl)));have a3:=zA Q_BK347;have HB:=zA Q_HB;have hc0_:w'.cell? ⟨b5,0,none⟩=some (.int .i64 b7):=zc0 a3;have hc1_:w'.cell? ⟨b5,1,none⟩=some (.int .i64 b8):=zc1 a3;have hc2_:w'.cell? ⟨b5,2,none⟩=some (.slice Ao16 b4.length co16):=zc2 a3;have hc3_:w'.cell? ⟨b5,3,none⟩=some (.int .i64 b9):=zc3 a3;have hc4_:w'.cell? ⟨b5,4,none⟩=some (.int .i64 c1):=zc4 a3;refine value_ (w1:=w') (v:= .agg #[.int .i64 b7,.int .i64 b8,.slice Ao16 b4.length co16,.int .i64 b9,.int .i64 c1]) (by rfl) rfl ?_ ?_
   ·go_simp
    (try simp only[i64_w])
    try rfl
   refine hK.out _ _ ⟨b3,adz_v353,m9_,(by rw[ha.out];exact putSel_upk 0 hb_ rfl rfl rfl),Q_HO343,Q_BK335,Q_BK347,Q_HI338,Q_HB,Q_HI338_e2,Q_HI338_e4,Q_HO354,Q_HA_HO354,Q_HI338_e8,fun h0_=>absurd ((hoff 11 (by kernel_rfl)).symm.trans h0_) (by decide),Q_X9_⟩
  refine steps_cons ?_ ?_
  ·rintro b a w' ⟨b3,adz_v353,m9_,ha,Q_HO343,Q_BK335,Q_BK347,Q_HI338,Q_HB,Q_HI338_e2,Q_HI338_e4,Q_HO354,Q_HA_HO354,Q_HI338_e8,Q_BK335_e11,Q_X9_⟩ hb_ hon hoff
   refine⟨_,rfl,fun K hK=>?_⟩
   have i9:a.tmps[11]?=some (.pointer (some ⟨g338,0,none⟩)):=by rw[ha];exact(putSel_off rfl).trans rfl
   replace ha:=zA ha;have a5:=zA Q_HO343;have a1:=zA (Q_BK335 (hoff 11 (by kernel_rfl)));have a3:=zA Q_BK347;have a0:=zA (Q_HI338 hb_);have HB:=zA Q_HB;refine goes_ Try.func11 (by kernel_rfl) rfl #[.pointer (some ⟨g338,0,none⟩),.int .i64 50] (by rfl) rfl rfl (by first|(simp only[List.map_toArray,List.map_cons,List.map_nil,Act.eval,Array.getD_eq_getD_getElem?,Option.getD_some,i9];done)|(simp only[List.map_toArray,List.map_cons,List.map_nil,Act.eval,Array.getD_eq_getD_getElem?,Option.getD_some,i9];rfl)) ?_
   with_reducible refine(spec_l21Rd_pick.calls k g338 a9 e1 50 d6 e3 w _ ?side1 ?side2 A4.out).mono ?_
   (case side1=>exact zI2 a0 a2 a4);(case side2=>exact zB2 a0 HB b0 d0);rintro e l8 ⟨rfl,hi,hb,hk⟩;refine⟨_,rfl,?_⟩;replace a1:=zbh hk a1 d1;replace a5:=zok (show IsS51 w _ g338 a9 e1 from zI2 a0 a2 a4) (zr a5) hk;replace a3:=zbh hk a3 d2;replace HB:=zA (hb);replace a0:=zA (hi);(try clear hb);(try clear hb2);(try clear hk);(try clear hi);refine hK.out _ _ ⟨b3,adz_v353,m9_,(by rw[ha.out];exact putSel_upk 1 hb_ rfl rfl rfl),(zr a5),fun _=>(zh a1),(zh a3),fun h0_=>absurd ((up_self b 2).symm.trans h0_) (by decide),(zB2 a0 HB b0 d0),fun _ _=>(zI2 a0 a2 a4),fun h0_ _=>absurd ((hoff 4 (by kernel_rfl)).symm.trans h0_) (by decide),fun h0_=>absurd ((hoff 6 (by kernel_rfl)).symm.trans h0_) (by decide),fun h0_=>absurd ((hoff 6 (by kernel_rfl)).symm.trans h0_) (by decide),fun h0_=>absurd ((hoff 8 (by kernel_rfl)).symm.trans h0_) (by decide),fun h0_=>absurd ((hoff 11 (by kernel_rfl)).symm.trans h0_) (by decide),fun h0_=>absurd ((hoff 9 (by kernel_rfl)).symm.trans h0_) (by decide)⟩
  refine steps_cons ?_ ?_
  ·rintro b a w' ⟨b3,adz_v353,m9_,ha,Q_HO343,Q_BK335,Q_BK347,Q_HI338,Q_HB,Q_HI338_e2,Q_HI338_e4,Q_HO354,Q_HA_HO354,Q_HI338_e8,Q_BK335_e11,Q_X9_⟩ hb_ hon hoff
   refine⟨_,rfl,fun K hK=>?_⟩
   have j5:a.tmps[13]?=some (.pointer (some ⟨g338,0,none⟩)):=by rw[ha];exact(putSel_off rfl).trans rfl
   replace ha:=zA ha;have a5:=zA Q_HO343;have a1:=zA (Q_BK335 (hoff 11 (by kernel_rfl)));have a3:=zA Q_BK347;have HB:=zA Q_HB;have a0:=zA (Q_HI338_e2 (hon 2 (by kernel_rfl)) hb_);refine goes_ Try.func11 (by kernel_rfl) rfl #[.pointer (some ⟨g338,0,none⟩),.int .i64 20] (by rfl) rfl rfl (by first|(simp only[List.map_toArray,List.map_cons,List.map_nil,Act.eval,Array.getD_eq_getD_getElem?,Option.getD_some,j5];done)|(simp only[List.map_toArray,List.map_cons,List.map_nil,Act.eval,Array.getD_eq_getD_getElem?,Option.getD_some,j5];rfl)) ?_
   with_reducible refine(spec_l21Rd_pick.calls k g338 a9 e3 20 d3 d8 w _ ?side1 ?side2 A5.out).mono ?_
   (case side1=>exact zI2 a0 a2 a4);(case side2=>exact zB2 a0 HB b0 d0);rintro e l9 ⟨rfl,hi,hb,hk⟩;refine⟨_,rfl,?_⟩;replace a1:=zbh hk a1 d1;replace a5:=zok (show IsS51 w _ g338 a9 e3 from zI2 a0 a2 a4) (zr a5) hk;replace a3:=zbh hk a3 d2;replace HB:=zA (hb);replace a0:=zA (hi);(try clear hb);(try clear hb2);(try clear hk);(try clear hi);refine hK.out _ _ ⟨b3,adz_v353,m9_,(by rw[ha.out];exact putSel_upk 2 hb_ rfl rfl rfl),(zr a5),fun _=>(zh a1),(zh a3),fun h0_=>absurd ((hon 2 (by kernel_rfl)).symm.trans h0_) (by decide),(zB2 a0 HB b0 d0),fun _ h1_=>absurd ((up_self b 4).symm.trans h1_) (by decide),fun _ _=>(zI2 a0 a2 a4),fun h0_=>absurd ((hoff 6 (by kernel_rfl)).symm.trans h0_) (by decide),fun h0_=>absurd ((hoff 6 (by kernel_rfl)).symm.trans h0_) (by decide),fun h0_=>absurd ((hoff 8 (by kernel_rfl)).symm.trans h0_) (by decide),fun h0_=>absurd ((hoff 11 (by kernel_rfl)).symm.trans h0_) (by decide),fun h0_=>absurd ((hoff 9 (by kernel_rfl)).symm.trans h0_) (by decide)⟩
  refine steps_cons ?_ ?_
  ·rintro b a w' ⟨b3,adz_v353,m9_,ha,Q_HO343,Q_BK335,Q_BK347,Q_HI338,Q_HB,Q_HI338_e2,Q_HI338_e4,Q_HO354,Q_HA_HO354,Q_HI338_e8,Q_BK335_e11,Q_X9_⟩ hb_ hon hoff
   refine⟨_,rfl,fun K hK=>?_⟩
   have m0:a.tmps[14]?=some (.int .i64 d3):=by rw[ha];exact putSel_on (e:=(4,14,.int .i64 d3)) 2 rfl rfl (hon 4 (by kernel_rfl)) rfl
   replace ha:=zA ha;have a5:=zA Q_HO343;have a3:=zA Q_BK347;have HB:=zA Q_HB;refine value_ (w1:=w') (v:= .int .i64 (wrap64 (-d3))) (by rfl) rfl ?_ ?_
   ·go_simp
    (try simp only[i64_w])
    try rfl
   refine hK.out _ _ ⟨b3,adz_v353,m9_,(by rw[ha.out];exact putSel_upk 3 hb_ rfl rfl rfl),Q_HO343,Q_BK335,Q_BK347,fun h0_=>absurd ((hon 2 (by kernel_rfl)).symm.trans h0_) (by decide),Q_HB,fun _ h1_=>absurd ((hon 4 (by kernel_rfl)).symm.trans h1_) (by decide),Q_HI338_e4,fun h0_=>absurd ((hoff 6 (by kernel_rfl)).symm.trans h0_) (by decide),fun h0_=>absurd ((hoff 6 (by kernel_rfl)).symm.trans h0_) (by decide),Q_HI338_e8,Q_BK335_e11,fun h0_=>absurd ((hoff 9 (by kernel_rfl)).symm.trans h0_) (by decide)⟩
  refine steps_cons ?_ ?_
  ·rintro b a w' ⟨b3,adz_v353,m9_,ha,Q_HO343,Q_BK335,Q_BK347,Q_HI338,Q_HB,Q_HI338_e2,Q_HI338_e4,Q_HO354,Q_HA_HO354,Q_HI338_e8,Q_BK335_e11,Q_X9_⟩ hb_ hon hoff
   refine⟨_,rfl,fun K hK=>?_⟩
   have m1:a.tmps[12]?=some (.int .i64 d6):=by rw[ha];exact putSel_on (e:=(2,12,.int .i64 d6)) 1 rfl rfl (hon 2 (by kernel_rfl)) rfl
   have m2:a.tmps[15]?=some (.int .i64 (wrap64 (-d3))):=by rw[ha];exact putSel_on (e:=(5,15,.int .i64 (wrap64 (-d3)))) 3 rfl rfl (hon 5 (by kernel_rfl)) rfl
   replace ha:=zA ha;have a5:=zA Q_HO343;have a3:=zA Q_BK347;have HB:=zA Q_HB;refine Kd.R_lit_step (Kd.int .i64) _ 3 ?hg (N:=16) ?hd (xs:=([d6,wrap64 (-d3),0,10000,(-10001)]:List Int)) (inner:=[.int .i64 d6,.int .i64 (wrap64 (-d3)),.int .i64 0,.int .i64 10000,.int .i64 (-10001)]) (ok:=fun _=>True) (okp:=fun _=>True) ?hr ?hp (fun _ hk=>hk) trivial (Below.refl _ _) (Nat.le_refl _) (by simp) ?_;(case hd=>rfl);(case hg=>rfl);(case hr=>first|(go_simp;done)|(go_simp;rfl));(case hp=>exact(Reps.one (show Kd.M (Kd.int .i64) _ _ _ d6 [.int .i64 d6]from rfl) (Reps.one (show Kd.M (Kd.int .i64) _ _ _ (wrap64 (-d3)) [.int .i64 (wrap64 (-d3))]from rfl) (Reps.one (show Kd.M (Kd.int .i64) _ _ _ 0 [.int .i64 0]from rfl) (Reps.one (show Kd.M (Kd.int .i64) _ _ _ 10000 [.int .i64 10000]from rfl) (Reps.one (show Kd.M (Kd.int .i64) _ _ _ (-10001) [.int .i64 (-10001)]from rfl) (Reps.none _ _)))))));intro b3 f1 e6 hb hg_ hnew_;clear hg_ hnew_;(first|rw[←e4.out]at e6|(simp only[Int.reduceToNat]at e6;rw[←e4.out]at e6));have n0_:=zA (Kd.R_below (zr a5) hb);have n1_:=zA (Kd.R_lower e6 (below_size (zs2 HB b0 d0)));have n4_:=zb a3 hb;have n5_:=zE (zs2 HB b0 d0) hb
   have z_BK335:=fun(h0_:b 11=false)=>(show f1.heap[a6]?=some (.cells #[.int .i64 0,.int .i64 0,.slice none 0 0,.int .i64 0,.int .i64 0] 27 (0,0))from by first|exact(blk_below (g:=a6) (o:= .cells #[.int .i64 0,.int .i64 0,.slice none 0 0,.int .i64 0,.int .i64 0] 27 (0,0)) (by(with_reducible repeat(first|refine blk_drewN ?_ _|refine blk_drew ?_|refine blk_alloc ?_ _));exact(Q_BK335 h0_)) hb))
   have z_HI338_e4:=fun(h0_:b 4=true) (h1_:b 8=false)=>(show IsS51 w f1 g338 a9 d8 from by first|exact(IsS51.below (by repeat(first|(with_reducible first|exact(Q_HI338_e4 h0_ h1_)|apply IsS51.alloc|apply IsS51.drewN|apply IsS51.drew|apply IsS51.set_1|refine IsS51.far ?_ a2.out _|refine IsS51.far ?_ a4.out _)|exact(Q_HI338_e4 h0_ h1_))) hb))
   have z_HI338_e8:=fun(h0_:b 8=true)=>(show IsS51 w f1 g338 a9 e9 from by first|exact(IsS51.below (by repeat(first|(with_reducible first|exact(Q_HI338_e8 h0_)|apply IsS51.alloc|apply IsS51.drewN|apply IsS51.drew|apply IsS51.set_1|refine IsS51.far ?_ a2.out _|refine IsS51.far ?_ a4.out _)|exact(Q_HI338_e8 h0_))) hb))
   have z_BK335_e11:=fun(h0_:b 11=true)=>(show f1.heap[a6]?=some (.cells #[.int .i64 b7,.int .i64 b8,.slice Ao16 b4.length co16,.int .i64 b9,.int .i64 c1] 27 (0,0))from by first|exact(blk_below (g:=a6) (o:= .cells #[.int .i64 b7,.int .i64 b8,.slice Ao16 b4.length co16,.int .i64 b9,.int .i64 c1] 27 (0,0)) (by(with_reducible repeat(first|refine blk_drewN ?_ _|refine blk_drew ?_|refine blk_alloc ?_ _));exact(Q_BK335_e11 h0_)) hb))
   clear a5;clear a3;clear HB;have a5:=n0_;have d5:=n1_;have a3:=n4_;have HB:=n5_;clear n0_ n1_ n4_ n5_;clear hb e6;obtain⟨Ao24,co24,h4⟩:=Kd.R_slice d5.out;subst h4;obtain⟨e7,h5,_⟩:=Kd.at_int (Kd.R_reads' d5.out).2.2 0 (by decide) (by rw[e4.out];simp);cases h5;refine hK.out _ _ ⟨.slice (some e7) a7.length co24,e7,m9_,(by rw[ha.out];exact putSel_upk 4 hb_ rfl rfl rfl),(zr a5),z_BK335,(zh a3),fun h0_=>absurd ((hon 2 (by kernel_rfl)).symm.trans h0_) (by decide),(zs2 HB b0 d0),fun _ h1_=>absurd ((hon 4 (by kernel_rfl)).symm.trans h1_) (by decide),z_HI338_e4,fun _=>(zr d5),fun _=>⟨_,rfl⟩,z_HI338_e8,z_BK335_e11,fun h0_=>absurd ((hoff 9 (by kernel_rfl)).symm.trans h0_) (by decide)⟩
  refine steps_cons ?_ ?_
  ·rintro b a w' ⟨b3,adz_v353,m9_,ha,Q_HO343,Q_BK335,Q_BK347,Q_HI338,Q_HB,Q_HI338_e2,Q_HI338_e4,Q_HO354,Q_HA_HO354,Q_HI338_e8,Q_BK335_e11,Q_X9_⟩ hb_ hon hoff
   refine⟨_,rfl,fun K hK=>?_⟩
   have j6:a.tmps[17]?=some (.pointer (some ⟨g338,0,none⟩)):=by rw[ha];exact(putSel_off rfl).trans rfl
   replace ha:=zA ha;have a5:=zA Q_HO343;have a1:=zA (Q_BK335 (hoff 11 (by kernel_rfl)));have a3:=zA Q_BK347;have HB:=zA Q_HB;have a0:=zA (Q_HI338_e4 (hon 4 (by kernel_rfl)) hb_);refine goes_ Try.func11 (by kernel_rfl) rfl #[.pointer (some ⟨g338,0,none⟩),.int .i64 5] (by rfl) rfl rfl (by first|(simp only[List.map_toArray,List.map_cons,List.map_nil,Act.eval,Array.getD_eq_getD_getElem?,Option.getD_some,j6];done)|(simp only[List.map_toArray,List.map_cons,List.map_nil,Act.eval,Array.getD_eq_getD_getElem?,Option.getD_some,j6];rfl)) ?_
   with_reducible refine(spec_l21Rd_pick.calls k g338 a9 d8 5 b6 e9 w _ ?side1 ?side2 A6.out).mono ?_
   (case side1=>exact zI2 a0 a2 a4);(case side2=>exact zB2 a0 HB b0 d0);rintro e f1 ⟨rfl,hi,hb,hk⟩;refine⟨_,rfl,?_⟩;have n0_:=zbh hk a1 d1;have n1_:=zok (show IsS51 w _ g338 a9 d8 from zI2 a0 a2 a4) (zr a5) hk;have n2_:=zbh hk a3 d2;have n3_:=zA (hb);have n4_:=zA (hi)
   have z_HO354:=fun(h0_:b 6=true)=>(show Kd.R (Kd.int .i64) 3 f1 w.heap.size (fun _=>True) b3 a7 from by first|exact(Kd.R_mono (Kd.R_keep (IsS51.apart (show IsS51 w _ g338 a9 d8 from zI2 a0 a2 a4) (by(with_reducible repeat(first|apply Kd.R_alloc|apply Kd.R_drewN|apply Kd.R_drew));exact(Q_HO354 h0_)) (by decide)) hk (fun _ h=>h.2)) (fun _ h=>h.1))|exact Kd.R_mono (Kd.R_mono (Kd.R_keep (IsS51.apart (show IsS51 w _ g338 a9 d8 from zI2 a0 a2 a4) (by(with_reducible repeat(first|apply Kd.R_alloc|apply Kd.R_drewN|apply Kd.R_drew));exact(Q_HO354 h0_)) (by decide)) hk (fun _ h=>h.2)) (fun _ h=>h.1)) (fun _ h_=>by first|trivial|exact h_|exact h_.1))
   clear a1 a5 a3 HB a0
   revert n0_ n1_ n2_ n3_ n4_
   intro a1 a5 a3 HB a0;(try clear hb);(try clear hb2);(try clear hk);(try clear hi);refine hK.out _ _ ⟨b3,adz_v353,m9_,(by rw[ha.out];exact putSel_upk 5 hb_ rfl rfl rfl),(zr a5),fun _=>(zh a1),(zh a3),fun h0_=>absurd ((hon 2 (by kernel_rfl)).symm.trans h0_) (by decide),(zB2 a0 HB b0 d0),fun _ h1_=>absurd ((hon 4 (by kernel_rfl)).symm.trans h1_) (by decide),fun _ h1_=>absurd ((up_self b 8).symm.trans h1_) (by decide),z_HO354,Q_HA_HO354,fun _=>(zI2 a0 a2 a4),fun h0_=>absurd ((hoff 11 (by kernel_rfl)).symm.trans h0_) (by decide),fun h0_=>absurd ((hoff 9 (by kernel_rfl)).symm.trans h0_) (by decide)⟩
  refine steps_cons ?_ ?_
  ·rintro b a w' ⟨b3,adz_v353,m9_,ha,Q_HO343,Q_BK335,Q_BK347,Q_HI338,Q_HB,Q_HI338_e2,Q_HI338_e4,Q_HO354,Q_HA_HO354,Q_HI338_e8,Q_BK335_e11,Q_X9_⟩ hb_ hon hoff
   refine⟨_,rfl,fun K hK=>?_⟩
   have k4:a.tmps[16]?=some (b3):=by rw[ha];exact putSel_on (e:=(6,16,b3)) 4 rfl rfl (hon 6 (by kernel_rfl)) rfl
   have m3:a.tmps[18]?=some (.int .i64 b6):=by rw[ha];exact putSel_on (e:=(8,18,.int .i64 b6)) 5 rfl rfl (hon 8 (by kernel_rfl)) rfl
   replace ha:=zA ha;have a5:=zA Q_HO343;have a3:=zA Q_BK347;have HB:=zA Q_HB;have d5:=zA (Q_HO354 (hon 6 (by kernel_rfl)));have HA_HO354:=zA (Q_HA_HO354 (hon 6 (by kernel_rfl)));have a0:=zA (Q_HI338_e8 (hon 8 (by kernel_rfl)));obtain⟨c_,hv_⟩:=HA_HO354.out;rw[hv_]at k4;refine value_ (w1:=w') (v:= .pointer (some (adz_v353.add (b6).toNat))) (by rfl) rfl ?_ ?_
   ·go_simp
    (try simp only[i64_w])
    try rfl
   refine hK.out _ _ ⟨b3,adz_v353,(.pointer (some (adz_v353.add (b6).toNat))),(by rw[ha.out];exact putSel_upk 6 hb_ rfl rfl rfl),Q_HO343,Q_BK335,Q_BK347,fun h0_=>absurd ((hon 2 (by kernel_rfl)).symm.trans h0_) (by decide),Q_HB,fun _ h1_=>absurd ((hon 4 (by kernel_rfl)).symm.trans h1_) (by decide),fun _ h1_=>absurd ((hon 8 (by kernel_rfl)).symm.trans h1_) (by decide),Q_HO354,Q_HA_HO354,Q_HI338_e8,Q_BK335_e11,fun _=>rfl⟩
  refine steps_cons ?_ ?_
  ·rintro b a w' ⟨b3,adz_v353,m9_,ha,Q_HO343,Q_BK335,Q_BK347,Q_HI338,Q_HB,Q_HI338_e2,Q_HI338_e4,Q_HO354,Q_HA_HO354,Q_HI338_e8,Q_BK335_e11,Q_X9_⟩ hb_ hon hoff
   refine⟨_,rfl,fun K hK=>?_⟩
   have k5:a.tmps[19]?=some (m9_):=by rw[ha];exact putSel_on (e:=(9,19,m9_)) 6 rfl rfl (hon 9 (by kernel_rfl)) rfl
   rw[Q_X9_ (hon 9 (by kernel_rfl))]at k5;replace ha:=zA ha;have a5:=zA Q_HO343;have a3:=zA Q_BK347;have HB:=zA Q_HB;have d5:=zA (Q_HO354 (hon 6 (by kernel_rfl)));have HA_HO354:=zA (Q_HA_HO354 (hon 6 (by kernel_rfl)));have a0:=zA (Q_HI338_e8 (hon 8 (by kernel_rfl)));obtain⟨c_,hv_⟩:=HA_HO354.out;have hF_:=d5.out;rw[hv_]at hF_;obtain⟨ad_,ea_,hx_⟩:=Kd.at_int (Kd.R_reads' hF_).2.2 b6 (of_eq_true pi357) (of_eq_true f2);cases ea_;refine value_ (w1:=w') (v:= .int .i64 (rd a7 b6)) (by rfl) rfl ?_ ?_
   ·go_simp
    (try simp only[i64_w])
    try rfl
   refine hK.out _ _ ⟨b3,adz_v353,m9_,(by rw[ha.out];exact putSel_upk 7 hb_ rfl rfl rfl),Q_HO343,Q_BK335,Q_BK347,fun h0_=>absurd ((hon 2 (by kernel_rfl)).symm.trans h0_) (by decide),Q_HB,fun _ h1_=>absurd ((hon 4 (by kernel_rfl)).symm.trans h1_) (by decide),fun _ h1_=>absurd ((hon 8 (by kernel_rfl)).symm.trans h1_) (by decide),Q_HO354,Q_HA_HO354,Q_HI338_e8,Q_BK335_e11,Q_X9_⟩
  refine steps_cons ?_ ?_
  ·rintro b a w' ⟨b3,adz_v353,m9_,ha,Q_HO343,Q_BK335,Q_BK347,Q_HI338,Q_HB,Q_HI338_e2,Q_HI338_e4,Q_HO354,Q_HA_HO354,Q_HI338_e8,Q_BK335_e11,Q_X9_⟩ hb_ hon hoff
   refine⟨_,rfl,fun K hK=>?_⟩
   have e2:a.tmps[2]?=some (.pointer (some ⟨a6,0,none⟩)):=by rw[ha];exact(putSel_off rfl).trans rfl
   have m4:a.tmps[10]?=some (.agg #[.int .i64 b7,.int .i64 b8,.slice Ao16 b4.length co16,.int .i64 b9,.int .i64 c1]):=by rw[ha];exact putSel_on (e:=(0,10,.agg #[.int .i64 b7,.int .i64 b8,.slice Ao16 b4.length co16,.int .i64 b9,.int .i64 c1])) 0 rfl rfl (hon 0 (by kernel_rfl)) rfl
   replace ha:=zA ha;have a5:=zA Q_HO343;have a1:=zA (Q_BK335 hb_);have a3:=zA Q_BK347;have HB:=zA Q_HB;have a0:=zA (Q_HI338_e8 (hon 8 (by kernel_rfl)));have k6:w'.cell? ⟨a6,0,none⟩=some (.int .i64 0):=zc0 a1;have hfs23:=zf a1 0;have g3:=b2.out;have g4:=b1.out;have k7:w'.cell? ⟨a6,1,none⟩=some (.int .i64 0):=zc1 a1;have hfs24:=zf a1 1;have g5:=b2.out;have g6:=b1.out;have k8:w'.cell? ⟨a6,2,none⟩=some (.slice none 0 0):=zc2 a1;have hfs25:=zf a1 2;have g7:=b2.out;have g8:=b1.out;have k9:w'.cell? ⟨a6,3,none⟩=some (.int .i64 0):=zc3 a1;have hfs26:=zf a1 3;have g9:=b2.out;have h0:=b1.out;have l4:w'.cell? ⟨a6,4,none⟩=some (.int .i64 0):=zc4 a1;have hfs27:=zf a1 4;have h1:=b2.out;have h2:=b1.out;refine skip_ (w1:=?_) (by rfl) rfl ?_ ?_;rotate_left
   ·go_simp
    rfl
   refine hK.out _ _ ⟨b3,adz_v353,m9_,(by rw[ha.out];exact putSel_none (v:=undef) rfl),(zRf a5 a1 (fun _ hk=>trivial)),fun h0_=>absurd ((up_self b 11).symm.trans h0_) (by decide),(zpf a3 b2),fun h0_=>absurd ((hon 2 (by kernel_rfl)).symm.trans h0_) (by decide),(zB2 a0 HB b0 d0),fun _ h1_=>absurd ((hon 4 (by kernel_rfl)).symm.trans h1_) (by decide),fun _ h1_=>absurd ((hon 8 (by kernel_rfl)).symm.trans h1_) (by decide),fun h0_=>(by(with_reducible repeat(first|apply Kd.R_alloc|apply Kd.R_drewN|apply Kd.R_drew));exact Kd.R_mono (Kd.R_far (p:=⟨a6,4,none⟩) (Kd.R_far (p:=⟨a6,3,none⟩) (Kd.R_far (p:=⟨a6,2,none⟩) (Kd.R_far (p:=⟨a6,1,none⟩) (Kd.R_far (p:=⟨a6,0,none⟩) (Kd.R_types (Q_HO354 h0_) a1.out (by decide)) (fun _ hk=>hk.2) (.int .i64 b7)) (fun _ hk=>hk.2) (.int .i64 b8)) (fun _ hk=>hk.2) (.slice Ao16 b4.length co16)) (fun _ hk=>hk.2) (.int .i64 b9)) (fun _ hk=>hk.2) (.int .i64 c1)) (fun _ hk=>trivial)),Q_HA_HO354,fun _=>(zI2 a0 a2 a4),fun _=>(zpb a1),Q_X9_⟩
  refine steps_cons ?_ ?_
  ·rintro b a w' ⟨b3,adz_v353,m9_,ha,Q_HO343,Q_BK335,Q_BK347,Q_HI338,Q_HB,Q_HI338_e2,Q_HI338_e4,Q_HO354,Q_HA_HO354,Q_HI338_e8,Q_BK335_e11,Q_X9_⟩ hb_ hon hoff
   refine⟨_,rfl,fun K hK=>?_⟩
   have m5:a.tmps[20]?=some (.int .i64 (rd a7 b6)):=by rw[ha];exact putSel_on (e:=(10,20,.int .i64 (rd a7 b6))) 7 rfl rfl (hon 10 (by kernel_rfl)) rfl
   replace ha:=zA ha;have a5:=zA Q_HO343;have a3:=zA Q_BK347;have HB:=zA Q_HB;have d5:=zA (Q_HO354 (hon 6 (by kernel_rfl)));have HA_HO354:=zA (Q_HA_HO354 (hon 6 (by kernel_rfl)));have a0:=zA (Q_HI338_e8 (hon 8 (by kernel_rfl)));have a1:=zA (Q_BK335_e11 (hon 11 (by kernel_rfl)));refine value_ (w1:=w') (v:= .int .i64 (rd a7 b6)) (by rfl) rfl ?_ ?_
   ·go_simp
    (try simp only[i64_w])
    try rfl
   refine hK.out _ _ ⟨b3,adz_v353,m9_,(by rw[ha.out];exact putSel_upk 8 hb_ rfl rfl rfl),Q_HO343,fun h0_=>absurd ((hon 11 (by kernel_rfl)).symm.trans h0_) (by decide),Q_BK347,fun h0_=>absurd ((hon 2 (by kernel_rfl)).symm.trans h0_) (by decide),Q_HB,fun _ h1_=>absurd ((hon 4 (by kernel_rfl)).symm.trans h1_) (by decide),fun _ h1_=>absurd ((hon 8 (by kernel_rfl)).symm.trans h1_) (by decide),Q_HO354,Q_HA_HO354,Q_HI338_e8,Q_BK335_e11,Q_X9_⟩
  exact steps_nil
 rintro b a m6 hall ⟨b3,adz_v353,m9_,ha,Q_HO343,Q_BK335,Q_BK347,Q_HI338,Q_HB,Q_HI338_e2,Q_HI338_e4,Q_HO354,Q_HA_HO354,Q_HI338_e8,Q_BK335_e11,Q_X9_⟩;clear a1 a3 HB a0 a5;have hb0_:=hall 0 (by kernel_rfl);have hb2_:=hall 2 (by kernel_rfl);have hb4_:=hall 4 (by kernel_rfl);have hb5_:=hall 5 (by kernel_rfl);have hb6_:=hall 6 (by kernel_rfl);have hb8_:=hall 8 (by kernel_rfl);have hb9_:=hall 9 (by kernel_rfl);have hb10_:=hall 10 (by kernel_rfl);have hb11_:=hall 11 (by kernel_rfl);have hb12_:=hall 12 (by kernel_rfl);subst ha;obtain rfl:=Q_X9_ hb9_;simp only[putSel,hb0_,hb2_,hb4_,hb5_,hb6_,hb8_,hb9_,hb10_,hb11_,hb12_,if_true,Act.put,List.setIfInBounds_toArray,List.set_cons_zero,List.set_cons_succ];have a5:=zA Q_HO343;clear Q_HO343;clear Q_BK335;have a3:=zA Q_BK347;clear Q_BK347;clear Q_HI338;have HB:=zA Q_HB;clear Q_HB;clear Q_HI338_e2;clear Q_HI338_e4;have d5:=zA (Q_HO354 hb6_);clear Q_HO354;have HA_HO354:=zA (Q_HA_HO354 hb6_);clear Q_HA_HO354;have a0:=zA (Q_HI338_e8 hb8_);clear Q_HI338_e8;have a1:=zA (Q_BK335_e11 hb11_);clear Q_BK335_e11;clear hall hb0_ hb2_ hb4_ hb5_ hb6_ hb8_ hb9_ hb10_ hb11_ hb12_;obtain⟨co31,h6⟩:=HA_HO354.out;clear HA_HO354;subst h6
 try go_wp2
 refine bodyPost_ret (results_ct rfl _ _ a6 27 #[.int .i64 b7,.int .i64 b8,.slice Ao16 b4.length co16,.int .i64 b9,.int .i64 c1] (0,0) _ rfl (zh a1) Try.underlying27 rfl (by kernel_rfl)) rfl ?_;exact⟨_,ze,zr a5,zB2 a0 HB b0 d0⟩
def impl_within.f (a0:Int) (a1:Int) (a2:Int):Option (Bool):=if a0≥a1 then(some (decide (a0≤a2)))else(some false)
set_option maxHeartbeats 8000000 in
set_option maxRecDepth 100000 in
theorem impl_within.calls (a0:Int) (a1:Int) (a2:Int) (r:Bool) (w:World) (h:impl_within.f a0 a1 a2=some r):
 Calls Try.prog 13 #[.int .i64 a0,.int .i64 a1,.int .i64 a2] w fun e w'=>e= .returned (.bool r)∧Drawn0 w w':=by
 have H:=h;clear h;unfold impl_within.f at H
 by_cases c4:a0≥a1
 ·rw[if_pos c4]at H
  have a3:decide (a1≤a0)=true:=decide_eq_true c4;clear c4;obtain rfl:=Option.some.inj H
  go_enter Try.func13,Try.ntmps13
  go_wp2
  go_ret;exact⟨by first|rfl|(simp;done)|(simp[*];done),by repeat(first|exact Drawn0.refl _|apply Drawn0.step)⟩
 rw[if_neg c4]at H;have a3:decide (a1≤a0)=false:=decide_eq_false c4;clear c4;obtain rfl:=Option.some.inj H
 go_enter Try.func13,Try.ntmps13
 go_wp2
 go_ret;exact⟨by first|rfl|(simp;done)|(simp[*];done),by repeat(first|exact Drawn0.refl _|apply Drawn0.step)⟩
def impl_FlyKindOk.f (a0:Int) (a1:Int):Option (Bool):=if 1≤a0 then(if a0≤a1 then(some (decide (a1≤50)))else(some false))else(some false)
set_option maxHeartbeats 8000000 in
set_option maxRecDepth 100000 in
theorem impl_FlyKindOk.calls (a1:Int) (a2:Int) (r:Bool) (w:World) (h:impl_FlyKindOk.f a1 a2=some r):
 Calls Try.prog 21 #[.agg #[.int .i64 a1,.int .i64 a2]] w fun e w'=>e= .returned (.bool r)∧Below w.heap.size w w':=by
 have c0:=Try.underlying24;have HB:=zA (Below.refl w.heap.size w);have H:=h;clear h;unfold impl_FlyKindOk.f at H
 by_cases c2:1≤a1
 rotate_left
 ·rw[if_neg c2]at H
  have a6:decide (1≤a1)=false:=decide_eq_false c2;clear c2;obtain rfl:=Option.some.inj H
  go_enter Try.func21,Try.ntmps21
  go_wp2_with (first|((with_reducible refine gate_dst (N:=1) rfl ?_);refine zbx 1 #[.int .i64 a1,.int .i64 a2] 24 ?_;intro a4 hg w8 hbox hb;have a0:=zA hbox;have a5:=zgs hg (zs0 HB);have a3:=zgs hg (zs0 HB);replace HB:=zE (zs0 HB) hb;clear hb hbox hg;obtain⟨a7,a8⟩:=zd2 a0;obtain⟨a9,b0⟩:=zn2 a0))
  go_ret;exact⟨ze,zs1 HB a3⟩
 rw[if_pos c2]at H;have a6:decide (1≤a1)=true:=decide_eq_true c2;clear c2
 by_cases c3:a1≤a2
 ·rw[if_pos c3]at H
  have b1:decide (a1≤a2)=true:=decide_eq_true c3;clear c3;obtain rfl:=Option.some.inj H
  go_enter Try.func21,Try.ntmps21
  go_wp2_with (first|((with_reducible refine gate_dst (N:=1) rfl ?_);refine zbx 1 #[.int .i64 a1,.int .i64 a2] 24 ?_;intro a4 hg w4 hbox hb;have a0:=zA hbox;have a5:=zgs hg (zs0 HB);have a3:=zgs hg (zs0 HB);replace HB:=zE (zs0 HB) hb;clear hb hbox hg;obtain⟨b2,b3⟩:=zd2 a0;obtain⟨b4,b5⟩:=zn2 a0))
  go_ret;exact⟨ze,zs1 HB a3⟩
 rw[if_neg c3]at H;have b1:decide (a1≤a2)=false:=decide_eq_false c3;clear c3;obtain rfl:=Option.some.inj H
 go_enter Try.func21,Try.ntmps21
 go_wp2_with (first|((with_reducible refine gate_dst (N:=1) rfl ?_);refine zbx 1 #[.int .i64 a1,.int .i64 a2] 24 ?_;intro a4 hg w6 hbox hb;have a0:=zA hbox;have a5:=zgs hg (zs0 HB);have a3:=zgs hg (zs0 HB);replace HB:=zE (zs0 HB) hb;clear hb hbox hg;obtain⟨b6,b7⟩:=zd2 a0;obtain⟨b8,b9⟩:=zn2 a0))
 go_ret;exact⟨ze,zs1 HB a3⟩
def impl_window.f (a0:Int) (a1:Int):Option (Bool):=if 0≤a0 then(if a0≤a1 then(some (decide (a1≤10000)))else(some false))else(some false)
set_option maxHeartbeats 8000000 in
set_option maxRecDepth 100000 in
theorem impl_window.calls (a0:Int) (a1:Int) (r:Bool) (w:World) (h:impl_window.f a0 a1=some r):
 Calls Try.prog 22 #[.int .i64 a0,.int .i64 a1] w fun e w'=>e= .returned (.bool r)∧Drawn0 w w':=by
 have H:=h;clear h;unfold impl_window.f at H
 by_cases c3:0≤a0
 rotate_left
 ·rw[if_neg c3]at H
  have a2:decide (0≤a0)=false:=decide_eq_false c3;clear c3;obtain rfl:=Option.some.inj H
  go_enter Try.func22,Try.ntmps22
  go_wp2
  go_ret;exact⟨by first|rfl|(simp;done)|(simp[*];done),by repeat(first|exact Drawn0.refl _|apply Drawn0.step)⟩
 rw[if_pos c3]at H;have a2:decide (0≤a0)=true:=decide_eq_true c3;clear c3
 by_cases c4:a0≤a1
 ·rw[if_pos c4]at H
  have a3:decide (a0≤a1)=true:=decide_eq_true c4;clear c4;obtain rfl:=Option.some.inj H
  go_enter Try.func22,Try.ntmps22
  go_wp2
  go_ret;exact⟨by first|rfl|(simp;done)|(simp[*];done),by repeat(first|exact Drawn0.refl _|apply Drawn0.step)⟩
 rw[if_neg c4]at H;have a3:decide (a0≤a1)=false:=decide_eq_false c4;clear c4;obtain rfl:=Option.some.inj H
 go_enter Try.func22,Try.ntmps22
 go_wp2
 go_ret;exact⟨by first|rfl|(simp;done)|(simp[*];done),by repeat(first|exact Drawn0.refl _|apply Drawn0.step)⟩
def impl_dist.f (a0:Int) (a1:Int):Option (Int):=if a0>a1 then(some (wrap64 (a0-a1)))else(some (wrap64 (a1-a0)))
set_option maxHeartbeats 8000000 in
set_option maxRecDepth 100000 in
theorem impl_dist.calls (a0:Int) (a1:Int) (r:Int) (w:World) (h:impl_dist.f a0 a1=some r):
 Calls Try.prog 23 #[.int .i64 a0,.int .i64 a1] w fun e w'=>e= .returned (.int .i64 r)∧Drawn0 w w':=by
 have H:=h;clear h;unfold impl_dist.f at H
 by_cases c3:a0>a1
 ·rw[if_pos c3]at H
  have a2:decide (a1<a0)=true:=decide_eq_true c3;clear c3;obtain rfl:=Option.some.inj H
  go_enter Try.func23,Try.ntmps23
  go_wp2
  go_ret;exact⟨by first|rfl|(simp;done)|(simp[*];done),by repeat(first|exact Drawn0.refl _|apply Drawn0.step)⟩
 rw[if_neg c3]at H;have a2:decide (a1<a0)=false:=decide_eq_false c3;clear c3;obtain rfl:=Option.some.inj H
 go_enter Try.func23,Try.ntmps23
 go_wp2
 go_ret;exact⟨by first|rfl|(simp;done)|(simp[*];done),by repeat(first|exact Drawn0.refl _|apply Drawn0.step)⟩
end Go.Proofs.Ytcokhiclencmdaa.QFnFlyShift
