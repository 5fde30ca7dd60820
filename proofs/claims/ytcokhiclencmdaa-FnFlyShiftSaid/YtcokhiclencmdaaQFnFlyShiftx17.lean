/- The walk of what the law FnFlyShift reaches: laid by a program of this session (ownprint.py). -/
import Derived.Test.YtcokhiclencmdaaQFnFlyShiftx0
import Derived.Test.YtcokhiclencmdaaQFnFlyShiftx13
import Derived.Test.YtcokhiclencmdaaQFnFlyShiftx16
namespace Go.Proofs.Ytcokhiclencmdaa.QFnFlyShift
open Go.RowKit Go.Proofs.YtcokhiclencmdaaW.PrintWords Go.Proofs.YtcokhiclencmdaaW.PrintLast Go.Proofs.YtcokhiclencmdaaW.PrintMore Go.Proofs.Ytcokhiclencmdaa.Z
attribute [local go_sem] max2_int min2_int max_two min_two max_three min_three max_four min_four zdn   -- for this text's walks alone
set_option linter.unusedVariables false
set_option linter.unusedSimpArgs false
def impl_FlySpans.f (k:Nat) (a1:Int) (a2:Int) (a3:List (S43)) (a4:Int) (a5:Int):Option ((List (S49))×Bool):=(impl_FlyPathOk.f k a1 a2 a3 a4 a5).bind fun a6=>(if a6=true then((impl_FlyPath_spans.f k a1 a2 a3 a4 a5 ([]:List Int)).bind fun a0=>(some (a0.1,a0.2)))else(some (([]:List (S49)),false)))
set_option maxHeartbeats 8000000 in
set_option maxRecDepth 100000 in
theorem impl_FlySpans.calls (k:Nat) (a3:Int) (a4:Int) (a7:Option Addr) (a8:Nat) (a1:List (S43)) (a5:Int) (a6:Int) (r1:List (S49)) (r2:Bool) (w:World) (hr0_2:Kd.C k43 w a7 a1.length a1) (hc0_2:a1.length≤a8) (h:impl_FlySpans.f k a3 a4 a1 a5 a6=some (r1,r2)):
 Calls Try.prog 17 #[.agg #[.int .i64 a3,.int .i64 a4,.slice a7 a1.length a8,.int .i64 a5,.int .i64 a6]] w fun e w'=> ∃v0_:Value,e= .returned (.tuple #[v0_,.bool r2])∧Kd.R k49 49 w' w.heap.size (fun _=>True) v0_ r1∧Below w.heap.size w w':=by
 have f7:=Try.underlying27;have a9:=zA hr0_2;have b0:=zA hc0_2;clear hr0_2 hc0_2;have HB:=zA (Below.refl w.heap.size w);have H:=h;clear h;unfold impl_FlySpans.f at H;replace H:=zbd H;obtain⟨d4,A2,H⟩:=H
 by_cases c3:d4=true
 rotate_left
 ·replace c3:=Bool.eq_false_iff.mpr c3
  subst c3;rw[if_neg zfn]at H;simp only[Option.some.injEq,Prod.mk.injEq]at H;obtain⟨rfl,rfl⟩:=H
  go_enter Try.func17,Try.ntmps17
  go_wp2_with (first|((with_reducible refine gate_dst (N:=1) rfl ?_);refine zbx 1 #[.int .i64 a3,.int .i64 a4,.slice a7 a1.length a8,.int .i64 a5,.int .i64 a6] 27 ?_;intro b1 hg f9 hbox hb;have a0:=zA hbox;have b2:=zgs hg (zs0 HB);have a2:=zgs hg (zs0 HB);replace HB:=zE (zs0 HB) hb;clear hb hbox hg;obtain⟨b6,b7,b8,b9,c0⟩:=zd5 a0;obtain⟨c1,d0,d1,d2,d3⟩:=zn5 a0)|((with_reducible refine gate_callee (f:=12) rfl ?_);refine zgl (N:=some 5) Try.func12 #[.agg #[.int .i64 a3,.int .i64 a4,.slice a7 a1.length a8,.int .i64 a5,.int .i64 a6]] ?_;(with_reducible refine(impl_FlyPathOk.calls k a3 a4 _ _ a1 a5 a6 false _ ?side1 ?side2 A2.out).mono ?_);(case side1=>exact zC a9 HB);(case side2=>exact b0.out);rintro e g0 ⟨rfl,hb⟩;refine⟨_,rfl,?_⟩;replace a0:=zb a0 hb;replace HB:=zE (zs1 HB a2) hb;(try clear hb);(try clear hb2);(try clear hk);(try clear hi)))
  go_ret2
  exact⟨_,ze,by first|exact Kd.R_nil _ _ _ _ _|exact Kd.N_nil _ _ _ _ _|exact Kd.V_nil _ _ _ _ _|exact Kd.Q_nil _ _ _ _ _|exact Kd.S_nil _ _ _ _ _,zs1 HB a2⟩
 subst c3;rw[if_pos rfl]at H;replace H:=Option.bind_eq_some_iff.mp H;obtain⟨⟨b3,b4⟩,f5,H⟩:=H;replace H:(some (b3,b4))=some (r1,r2):=H;have A4:=zA f5;clear f5;simp only[Option.some.injEq,Prod.mk.injEq]at H;obtain⟨rfl,rfl⟩:=H
 go_enter Try.func17,Try.ntmps17
 go_wp2_with (first|((with_reducible refine gate_dst (N:=1) rfl ?_);refine zbx 1 #[.int .i64 a3,.int .i64 a4,.slice a7 a1.length a8,.int .i64 a5,.int .i64 a6] 27 ?_;intro b1 hg w5 hbox hb;have a0:=zA hbox;have b2:=zgs hg (zs0 HB);have a2:=zgs hg (zs0 HB);replace HB:=zE (zs0 HB) hb;clear hb hbox hg;obtain⟨d5,d6,d7,d8,d9⟩:=zd5 a0;obtain⟨e0,e1,e2,e3,e4⟩:=zn5 a0)|((with_reducible refine gate_callee (f:=12) rfl ?_);refine zgl (N:=some 5) Try.func12 #[.agg #[.int .i64 a3,.int .i64 a4,.slice a7 a1.length a8,.int .i64 a5,.int .i64 a6]] ?_;(with_reducible refine(impl_FlyPathOk.calls k a3 a4 _ _ a1 a5 a6 true _ ?side1 ?side2 A2.out).mono ?_);(case side1=>exact zC a9 HB);(case side2=>exact b0.out);rintro e w7 ⟨rfl,hb⟩;refine⟨_,rfl,?_⟩;replace a0:=zb a0 hb;replace HB:=zE (zs1 HB a2) hb;(try clear hb);(try clear hb2);(try clear hk);(try clear hi);obtain⟨e5,e6,e7,e8,e9⟩:=zd5 a0;obtain⟨f0,f1,f2,f3,f4⟩:=zn5 a0)|((with_reducible refine gate_callee (f:=27) rfl ?_);refine zgl (N:=some 8) Try.func27 #[.agg #[.int .i64 a3,.int .i64 a4,.slice a7 a1.length a8,.int .i64 a5,.int .i64 a6],.slice none 0 0] ?_;(refine(impl_FlyPath_spans.calls k a3 a4 _ _ a1 a5 a6 _ _ ([]:List Int) b3 b4 _ ?side1 ?side2 ?side3 ?side4 A4.out).mono ?_);(case side1=>exact zC a9 HB);(case side2=>exact b0.out);(case side3=>exact Kd.C_nil _ _);(case side4=>exact Nat.le_refl _);rintro e w9 ⟨f8,rfl,f6,hb⟩;refine⟨_,rfl,?_⟩;have b5:=zA (Kd.R_lower f6 (below_size (zs1 HB a2)));replace a0:=zb a0 hb;replace HB:=zE (zs1 HB a2) hb;(try clear hb);(try clear hb2);(try clear hk);(try clear hi);(try clear f6)))
 go_ret2
 exact⟨_,ze,zr b5,zs1 HB a2⟩
def impl_FlyFirst.l0:Nat→List Int→List (S49)→Int→Int→Option (List Int)
 |0,_,_,_,_=>none
 |k+1,x5,x13,x14,x15=>if x15<x14 then(if 0≤x15 then(if x15<(x13.length:Int)then(if x5.length<17592186044416 then(impl_FlyFirst.l0 k (x5++[(rd_T49 x13 x15).f0]) x13 x14 (wrap64 (x15+1)))else(none))else(none))else(none))else(some x5)
def impl_FlyFirst.f (k:Nat) (a1:Int) (a2:Int) (a3:List (S43)) (a4:Int) (a5:Int):Option (List Int):=(impl_FlySpans.f k a1 a2 a3 a4 a5).bind fun a0=>(impl_FlyFirst.l0 k ([]:List Int) a0.1 (a0.1.length:Int) 0)
set_option maxHeartbeats 8000000 in
set_option maxRecDepth 100000 in
theorem impl_FlyFirst.calls (k:Nat) (a9:Int) (b0:Int) (b3:Option Addr) (b4:Nat) (a5:List (S43)) (b1:Int) (b2:Int) (r:List Int) (w:World) (hr0_2:Kd.C k43 w b3 a5.length a5) (hc0_2:a5.length≤b4) (h:impl_FlyFirst.f k a9 b0 a5 b1 b2=some r):
 Calls Try.prog 8 #[.agg #[.int .i64 a9,.int .i64 b0,.slice b3 a5.length b4,.int .i64 b1,.int .i64 b2]] w fun e w'=> ∃v0_:Value,e= .returned (v0_)∧Kd.R (Kd.int .i64) 3 w' w.heap.size (fun _=>True) v0_ r∧Below w.heap.size w w':=by
 have g5:=Try.underlying27;have g6:=Try.underlying49;have e1:=zA hr0_2;have e2:=zA hc0_2;clear hr0_2 hc0_2;have HB:=zA (Below.refl w.heap.size w);have H:=h;clear h;unfold impl_FlyFirst.f at H;replace H:=Option.bind_eq_some_iff.mp H;obtain⟨⟨a1,f4⟩,f7,H⟩:=H;replace H:(impl_FlyFirst.l0 k ([]:List Int) a1 (a1.length:Int) 0)=some r:=H;have A2:=zA f7;clear f7;have H':=zA H;clear H
 go_enter Try.func8,Try.ntmps8
 go_wp2_with (first|((with_reducible refine gate_dst (N:=1) rfl ?_);refine zbx 1 #[.int .i64 a9,.int .i64 b0,.slice b3 a5.length b4,.int .i64 b1,.int .i64 b2] 27 ?_;intro b8 hg w3 hbox hb;have a2:=zA hbox;have f8:=zgs hg (zs0 HB);have a3:=zgs hg (zs0 HB);replace HB:=zE (zs0 HB) hb;clear hb hbox hg;obtain⟨c0,d0,d1,d2,d3⟩:=zd5 a2;obtain⟨d4,d5,d6,d7,d8⟩:=zn5 a2)|((with_reducible refine gate_callee (f:=17) rfl ?_);refine zgl (N:=some 10) Try.func17 #[.agg #[.int .i64 a9,.int .i64 b0,.slice b3 a5.length b4,.int .i64 b1,.int .i64 b2]] ?_;(with_reducible refine(impl_FlySpans.calls k a9 b0 _ _ a5 b1 b2 a1 f4 _ ?side1 ?side2 A2.out).mono ?_);(case side1=>exact zC e1 HB);(case side2=>exact e2.out);rintro e w5 ⟨g7,rfl,f9,hb⟩;refine⟨_,rfl,?_⟩;have b9:=zA (Kd.R_lower f9 (below_size (zs1 HB a3)));replace a2:=zb a2 hb;replace HB:=zE (zs1 HB a3) hb;(try clear hb);(try clear hb2);(try clear hk);(try clear hi);(try clear f9);obtain⟨Ao6,co6,g8⟩:=Kd.R_slice b9.out;subst g8))
 go_loopg [5,15] k (fun kq v5 g9 w'=> ∃(b5:List Int) (a0:Int),g9= .int .i64 a0∧Aside0 (impl_FlyFirst.l0 kq b5 a1 (a1.length:Int) a0=some r)∧Aside0 (kq≤k)∧Aside0 (Kd.R (Kd.int .i64) 3 w' w.heap.size (fun _=>True) v5 b5)∧Aside0 (Kd.R k49 49 w' w.heap.size (fun _=>True) (.slice Ao6 a1.length co6) a1)∧Aside0 (w'.heap[b8]?=some (.cells #[.int .i64 a9,.int .i64 b0,(.slice b3 a5.length b4),.int .i64 b1,.int .i64 b2] 27 (0,0)))∧Aside0 (Below w.heap.size w w'))
 case atStart=>exact⟨(([]:List Int)),(0),zi,H',⟨Nat.le_refl _⟩,⟨by first|exact Kd.R_nil _ _ _ _ _|exact Kd.N_nil _ _ _ _ _|exact Kd.V_nil _ _ _ _ _|exact Kd.Q_nil _ _ _ _ _|exact Kd.S_nil _ _ _ _ _⟩,⟨zr b9⟩,⟨zh a2⟩,⟨zs1 HB a3⟩⟩
 case round=>
  clear H'
  try clear c1
  try clear p2
  try clear c0 d0 d1 d2 d3 d4 d5 d6 d7 d8
  obtain⟨b5,a0,rfl,HA,g0,HO_5,HO_13,a2,HB⟩:=hrel
  cases gk with
  |zero=>exact absurd HA.out (by simp[impl_FlyFirst.l0])
  |succ k1=>
   have H:=HA.out;clear HA;simp only[impl_FlyFirst.l0]at H
   by_cases c7:a0<(a1.length:Int)
   rotate_left
   ·rw[if_neg c7]at H
    have f5:decide (a0<(a1.length:Int))=false:=decide_eq_false c7;clear c7;obtain rfl:=Option.some.inj H
    go_wp2
    go_ret;exact⟨_,ze,zr HO_5,zs1 HB a3⟩
   rw[if_pos c7]at H;have f5:decide (a0<(a1.length:Int))=true:=decide_eq_true c7;clear c7;replace H:=zif H;obtain⟨h0,H⟩:=H
   by_cases c9:a0<(a1.length:Int)
   rotate_left
   ·rw[if_neg c9]at H
    exact absurd H (by simp)
   rw[if_pos c9]at H;have h1:decide (a0<(a1.length:Int))=true:=decide_eq_true c9;clear c9
   by_cases c10:b5.length<17592186044416
   rotate_left
   ·rw[if_neg c10]at H
    exact absurd H (by simp)
   rw[if_pos c10]at H;have LMc10:=zA c10;clear c10;obtain⟨e3,a7⟩: ∃y_:List Int,y_=(b5++[(rd_T49 a1 a0).f0]):=⟨_,rfl⟩
   replace H:(impl_FlyFirst.l0 k1 e3 a1 (a1.length:Int) (wrap64 (a0+1)))=some r:=by first|(rw[a7];with_reducible exact H)|(have H2_:=(Option.bind_some _ _).symm.trans H;rw[a7];with_reducible exact H2_)|(have H2_:=(Option.bind_some _ _).symm.trans H;with_reducible exact H2_)|with_reducible exact H|(rw[a7];exact H)|exact H
   have e4:=zA a7;clear a7;have H':=zA H;clear H;have d9:0≤(a0:Int):=za;have e0:a0<(a1.length:Int):=za;obtain⟨g1,f6,e6,e7⟩:=at_T49 (Kd.R_reads' HO_13.out).2.2 a0 d9 e0;cases f6;replace d9:=eq_true d9;replace e0:=eq_true e0
   go_wp2_with (first|((with_reducible refine gate_dst (N:=7) rfl ?_);refine zbx 7 #[.int .i64 0,.int .i64 0] 49 ?_;intro a8 hg h3 hbox hb;have a4:=zA hbox;have g2:=zgs hg (zs1 HB a3);have b7:=zgs hg (zs1 HB a3);have a6:=zne hg a2;have b6:=znf hg a2;replace HO_5:=zA (Kd.R_below (zr HO_5) hb);replace HO_13:=zA (Kd.R_below (Kd.R_elderB (zr HO_13) a8 (Nat.le_of_eq hg.symm)) hb);replace a2:=zb a2 hb;replace HB:=zE (zs1 HB a3) hb;clear hb hbox hg;have g3:=b6.out;have g4:=a6.out;obtain⟨e8,e9⟩:=zd2 a4;obtain⟨f2,f3⟩:=zn2 a4)|((with_reducible refine gate_builtin (b:= .append) (xs:=#[.tmp 19,.tmp 22]) rfl ?_);at_builtin;refine Kd.R_append (Kd.int .i64) (w0:=w) w.heap.size rfl (.tmp 19) (.tmp 22) 33 3 (.int .i64 0) 8 rfl Try.underlying33 info3 rfl (by decide) (by omega) u5 b5 ((rd_T49 a1 a0).f0) [.int .i64 ((rd_T49 a1 a0).f0)] (fun _=>True) (fun _=>False) rfl (by first|(go_simp;done)|(go_simp;rfl)) ?aP (fun _ hk=>hk.elim) ?aF ?aO ?aB ?aS ?aL ?_;(case aP=>exact rfl);(case aB=>exact(zs2 HB a3 b7));(case aF=>exact(fun _ _=>trivial));(case aO=>exact(zRf HO_5 a4 (fun _ hk=>trivial)));(case aS=>exact(below_size (zs2 HB a3 b7)));(case aL=>have:=LMc10.out;omega);intro h2 h4 ho hb hg hat;rw[←e4.out]at ho;have e5:=zA (ho);replace HO_13:=zA (Kd.R_over' (by(with_reducible repeat(first|apply Kd.R_alloc|apply Kd.R_drewN|apply Kd.R_drew));exact(Kd.R_mono (Kd.R_far (p:=⟨a8,1,none⟩) (Kd.R_far (p:=⟨a8,0,none⟩) (Kd.R_mono HO_13.out (fun k_ hk=>(⟨hk,hk.2⟩:_∧k_≠a8))) (fun _ hk=>hk.2) (.int .i64 ((rd_T49 a1 a0).f0))) (fun _ hk=>hk.2) (.int .i64 ((rd_T49 a1 a0).f1))) (fun _ h_=>h_.1))) (Kd.R_typed (zRf HO_5 a4 (fun _ h_=>h_.1))) (by decide) hg);replace a2:=zA (blk_grown (g:=b8) (o:= .cells #[.int .i64 a9,.int .i64 b0,.slice b3 a5.length b4,.int .i64 b1,.int .i64 b2] 27 (0,0)) (zpf a2 a6) hg (Kd.R_ne HO_5.out a2.out (by decide)));replace a4:=zA (blk_grown (g:=a8) (o:= .cells #[.int .i64 ((rd_T49 a1 a0).f0),.int .i64 ((rd_T49 a1 a0).f1)] 49 (0,0)) (zpb a4) hg (Kd.R_ne HO_5.out a4.out (by decide)));replace HB:=zA (hb);clear HO_5;clear ho hb hg hat))
   go_roundg k1
   case measure=>have:=g0.out;omega
   case rel=>exact⟨(e3),(wrap64 (a0+1)),zi,H',⟨by have:=g0.out;omega⟩,⟨zr e5⟩,⟨by(with_reducible repeat(first|apply Kd.R_alloc|apply Kd.R_drewN|apply Kd.R_drew));exact Kd.R_mono HO_13.out (fun _ hk=>trivial)⟩,⟨zh a2⟩,⟨zs2 HB a3 b7⟩⟩
end Go.Proofs.Ytcokhiclencmdaa.QFnFlyShift
