/- The walk of what the law FnExactFlyMayTurn reaches: laid by a program of this session (ownprint.py). -/
import Derived.Test.YtbmplfpnhjhoiaaQFnExactFlyMayTurnx0
namespace Go.Proofs.Ytbmplfpnhjhoiaa.QFnExactFlyMayTurn
open Go.RowKit Go.Proofs.YtbmplfpnhjhoiaaW.PrintWords Go.Proofs.YtbmplfpnhjhoiaaW.PrintLast Go.Proofs.YtbmplfpnhjhoiaaW.PrintMore Go.Proofs.Ytbmplfpnhjhoiaa.Z
attribute [local go_sem] max2_int min2_int max_two min_two max_three min_three max_four min_four zdn   -- for this text's walks alone
set_option linter.unusedVariables false
set_option linter.unusedSimpArgs false
def laws_toFlyKind.f (a0_0:Int) (a0_1:Int):Option (Int×Int):=some (a0_0,a0_1)
set_option maxHeartbeats 8000000 in
set_option maxRecDepth 100000 in
theorem laws_toFlyKind.calls (a0_0:Int) (a0_1:Int) (r1:Int) (r2:Int) (w:World) (h:laws_toFlyKind.f a0_0 a0_1=some (r1,r2)):
 Calls Try.prog 44 #[.agg #[.int .i64 a0_0,.int .i64 a0_1]] w fun e w'=>e= .returned (.agg #[.int .i64 r1,.int .i64 r2])∧Below w.heap.size w w':=by
 have hu35:=Try.underlying35;have hu44:=Try.underlying44;have HB:=zA (Below.refl w.heap.size w);have H:=h;clear h;unfold laws_toFlyKind.f at H;simp only[Option.some.injEq,Prod.mk.injEq]at H;obtain⟨rfl,rfl⟩:=H
 go_enter Try.func44,Try.ntmps44
 go_wp2_with (first|((with_reducible refine gate_dst (N:=1) rfl ?_);refine zbx 1 #[.int .i64 a0_0,.int .i64 a0_1] 35 ?_;intro gb354 hg w2 hbox hb;have BK354:=zA hbox;have GW354:=zgs hg (zs0 HB);have GE354:=zgs hg (zs0 HB);replace HB:=zE (zs0 HB) hb;clear hb hbox hg)|((with_reducible refine gate_dst (N:=2) rfl ?_);refine zbx 2 #[.int .i64 0,.int .i64 0] 44 ?_;intro gb355 hg w3 hbox hb;have BK355:=zA hbox;have GW355:=zgs hg (zs1 HB GE354);have GE355:=zgs hg (zs1 HB GE354);have NB354_355:=zne hg BK354;have NB355_354:=znf hg BK354;replace BK354:=zb BK354 hb;replace HB:=zE (zs1 HB GE354) hb;clear hb hbox hg)|((with_reducible refine gate_dst (N:=3) rfl ?_);refine zbx 3 #[.int .i64 0,.int .i64 0] 44 ?_;intro gb356 hg w4 hbox hb;have BK356:=zA hbox;have GW356:=zgs hg (zs2 HB GE354 GE355);have GE356:=zgs hg (zs2 HB GE354 GE355);have NB354_356:=zne hg BK354;have NB356_354:=znf hg BK354;have NB355_356:=zne hg BK355;have NB356_355:=znf hg BK355;replace BK354:=zb BK354 hb;replace BK355:=zb BK355 hb;replace HB:=zE (zs2 HB GE354 GE355) hb;clear hb hbox hg;have hnb5:=NB354_355.out;have hnc5:=NB355_354.out;have hnb6:=NB354_356.out;have hnc6:=NB356_354.out;obtain⟨hcz7_0,hcz7_1⟩:=zd2 BK354;obtain⟨hfz7_0,hfz7_1⟩:=zn2 BK354;have hnb8:=NB356_355.out;have hnc8:=NB355_356.out;obtain⟨hcz9_0,hcz9_1⟩:=zd2 BK356;obtain⟨hfz9_0,hfz9_1⟩:=zn2 BK356;obtain⟨hcz10_0,hcz10_1⟩:=zd2 BK355;obtain⟨hfz10_0,hfz10_1⟩:=zn2 BK355))
 refine bodyPost_ret (results_cell_row rfl _ _ gb355 44 #[.int .i64 a0_0,.int .i64 a0_1] (0,0) _ rfl ?hz Try.underlying44 rfl (by kernel_rfl)) rfl ?_;(case hz=>exact zpf BK355 NB355_356);exact⟨ze,zs3 HB GE354 GE355 GE356⟩
def laws_toFlyStep.f (a0_0:Int) (a0_1:Int) (a0_2:Int) (a0_3:Int) (a0_4:Int) (a0_5:Int) (a0_6:Bool):Option (Int×Int×Int×Int×Int×Int×Bool):=some (a0_0,a0_1,a0_2,a0_3,a0_4,a0_5,a0_6)
set_option maxHeartbeats 8000000 in
set_option maxRecDepth 100000 in
theorem laws_toFlyStep.calls (a0_0:Int) (a0_1:Int) (a0_2:Int) (a0_3:Int) (a0_4:Int) (a0_5:Int) (a0_6:Bool) (r1:Int) (r2:Int) (r3:Int) (r4:Int) (r5:Int) (r6:Int) (r7:Bool) (w:World) (h:laws_toFlyStep.f a0_0 a0_1 a0_2 a0_3 a0_4 a0_5 a0_6=some (r1,r2,r3,r4,r5,r6,r7)):
 Calls Try.prog 155 #[.agg #[.int .i64 a0_0,.int .i64 a0_1,.int .i64 a0_2,.int .i64 a0_3,.int .i64 a0_4,.int .i64 a0_5,.bool a0_6]] w fun e w'=>e= .returned (.agg #[.int .i64 r1,.int .i64 r2,.int .i64 r3,.int .i64 r4,.int .i64 r5,.int .i64 r6,.bool r7])∧Below w.heap.size w w':=by
 have hu170:=Try.underlying170;have hu132:=Try.underlying132;have HB:=zA (Below.refl w.heap.size w);have H:=h;clear h;unfold laws_toFlyStep.f at H;simp only[Option.some.injEq,Prod.mk.injEq]at H;obtain⟨rfl,rfl,rfl,rfl,rfl,rfl,rfl⟩:=H
 go_enter Try.func155,Try.ntmps155
 go_wp2_with (first|((with_reducible refine gate_dst (N:=1) rfl ?_);refine zbx 1 #[.int .i64 a0_0,.int .i64 a0_1,.int .i64 a0_2,.int .i64 a0_3,.int .i64 a0_4,.int .i64 a0_5,.bool a0_6] 170 ?_;intro gb357 hg w2 hbox hb;have BK357:=zA hbox;have GW357:=zgs hg (zs0 HB);have GE357:=zgs hg (zs0 HB);replace HB:=zE (zs0 HB) hb;clear hb hbox hg)|((with_reducible refine gate_dst (N:=2) rfl ?_);refine zbx 2 #[.int .i64 0,.int .i64 0,.int .i64 0,.int .i64 0,.int .i64 0,.int .i64 0,.bool false] 132 ?_;intro gb358 hg w3 hbox hb;have BK358:=zA hbox;have GW358:=zgs hg (zs1 HB GE357);have GE358:=zgs hg (zs1 HB GE357);have NB357_358:=zne hg BK357;have NB358_357:=znf hg BK357;replace BK357:=zb BK357 hb;replace HB:=zE (zs1 HB GE357) hb;clear hb hbox hg)|((with_reducible refine gate_dst (N:=3) rfl ?_);refine zbx 3 #[.int .i64 0,.int .i64 0,.int .i64 0,.int .i64 0,.int .i64 0,.int .i64 0,.bool false] 132 ?_;intro gb359 hg w4 hbox hb;have BK359:=zA hbox;have GW359:=zgs hg (zs2 HB GE357 GE358);have GE359:=zgs hg (zs2 HB GE357 GE358);have NB357_359:=zne hg BK357;have NB359_357:=znf hg BK357;have NB358_359:=zne hg BK358;have NB359_358:=znf hg BK358;replace BK357:=zb BK357 hb;replace BK358:=zb BK358 hb;replace HB:=zE (zs2 HB GE357 GE358) hb;clear hb hbox hg;have hnb5:=NB357_358.out;have hnc5:=NB358_357.out;have hnb6:=NB357_359.out;have hnc6:=NB359_357.out;obtain⟨hcz7_0,hcz7_1,hcz7_2,hcz7_3,hcz7_4,hcz7_5,hcz7_6⟩:=zd7 BK357;obtain⟨hfz7_0,hfz7_1,hfz7_2,hfz7_3,hfz7_4,hfz7_5,hfz7_6⟩:=zn7 BK357;have hnb8:=NB359_358.out;have hnc8:=NB358_359.out;obtain⟨hcz9_0,hcz9_1,hcz9_2,hcz9_3,hcz9_4,hcz9_5,hcz9_6⟩:=zd7 BK359;obtain⟨hfz9_0,hfz9_1,hfz9_2,hfz9_3,hfz9_4,hfz9_5,hfz9_6⟩:=zn7 BK359;obtain⟨hcz10_0,hcz10_1,hcz10_2,hcz10_3,hcz10_4,hcz10_5,hcz10_6⟩:=zd7 BK358;obtain⟨hfz10_0,hfz10_1,hfz10_2,hfz10_3,hfz10_4,hfz10_5,hfz10_6⟩:=zn7 BK358))
 refine bodyPost_ret (results_cell_row rfl _ _ gb358 132 #[.int .i64 a0_0,.int .i64 a0_1,.int .i64 a0_2,.int .i64 a0_3,.int .i64 a0_4,.int .i64 a0_5,.bool a0_6] (0,0) _ rfl ?hz Try.underlying132 rfl (by kernel_rfl)) rfl ?_;(case hz=>exact zpf BK358 NB358_359);exact⟨ze,zs3 HB GE357 GE358 GE359⟩
def laws_toFlyStepS.l0:Nat→List (S170)→List (S132)→Int→Option ((List (S132)))
 |0,_,_,_=>none
 |k+1,x0,x3,x4=>if x4<(x0.length:Int)then(if 0≤x4 then((laws_toFlyStep.f ((rd_T170 x0 x4).f0) ((rd_T170 x0 x4).f1) ((rd_T170 x0 x4).f2) ((rd_T170 x0 x4).f3) ((rd_T170 x0 x4).f4) ((rd_T170 x0 x4).f5) ((rd_T170 x0 x4).f6)).bind fun bt364=>(if x4<(x3.length:Int)then(laws_toFlyStepS.l0 k x0 (x3.set (x4:Int).toNat (⟨bt364.1,bt364.2.1,bt364.2.2.1,bt364.2.2.2.1,bt364.2.2.2.2.1,bt364.2.2.2.2.2.1,bt364.2.2.2.2.2.2⟩:S132)) (wrap64 (x4+1)))else(none)))else(none))else(some x3)
def laws_toFlyStepS.f (k:Nat) (l0:List (S170)):Option ((List (S132))):=if 0≤(l0.length:Int)then(if((l0.length:Int):Int).toNat≤5026338869833 then(laws_toFlyStepS.l0 k l0 (List.replicate ((l0.length:Int):Int).toNat z132) 0)else(none))else(none)
set_option maxHeartbeats 8000000 in
set_option maxRecDepth 100000 in
theorem laws_toFlyStepS.calls (k:Nat) (A0:Option Addr) (c0:Nat) (l0:List (S170)) (r:List (S132)) (w:World) (hr0:Kd.C k170 w A0 l0.length l0) (hc0:l0.length≤c0) (h:laws_toFlyStepS.f k l0=some r):
 Calls Try.prog 122 #[.slice A0 l0.length c0] w fun e w'=> ∃v0_:Value,e= .returned (v0_)∧Kd.R k132 132 w' w.heap.size (fun _=>True) v0_ r∧Below w.heap.size w w':=by
 have hu170:=Try.underlying170;have hu132:=Try.underlying132;have HR0:=zA hr0;have HC0:=zA hc0;clear hr0 hc0;have HB:=zA (Below.refl w.heap.size w);have H:=h;clear h;unfold laws_toFlyStepS.f at H
 by_cases c2:0≤(l0.length:Int)
 rotate_left
 ·rw[if_neg c2]at H
  exact absurd H (by simp)
 rw[if_pos c2]at H;have c2b0:=eq_true c2;have c2b1:decide (0≤(l0.length:Int))=true:=decide_eq_true c2;clear c2
 by_cases c3:((l0.length:Int):Int).toNat≤5026338869833
 rotate_left
 ·rw[if_neg c3]at H
  exact absurd H (by simp)
 rw[if_pos c3]at H;have c3b0:=eq_true c3;have c3b1:decide (((l0.length:Int):Int).toNat≤5026338869833)=true:=decide_eq_true c3;clear c3;obtain⟨y360,hy360⟩: ∃y_:List (S132),y_=(List.replicate ((l0.length:Int):Int).toNat z132):=⟨_,rfl⟩
 replace H:(laws_toFlyStepS.l0 k l0 y360 0)=some r:=by first|(rw[hy360];with_reducible exact H)|(have H2_:=(Option.bind_some _ _).symm.trans H;rw[hy360];with_reducible exact H2_)|(have H2_:=(Option.bind_some _ _).symm.trans H;with_reducible exact H2_)|with_reducible exact H|(rw[hy360];exact H)|exact H
 have Ny360:=zA hy360;clear hy360;have H':=zA H;clear H
 go_enter Try.func122,Try.ntmps122
 go_wp2_with (first|((with_reducible refine gate_dst (N:=7) rfl ?_);refine Kd.R_make k132 _ 132 rfl (N:=7) rfl 66 _ _ rfl (l0.length:Int) rfl rfl Try.underlying66 (.agg #[(.int .i64 0),(.int .i64 0),(.int .i64 0),(.int .i64 0),(.int .i64 0),(.int .i64 0),(.bool false)]) 56 info132 rfl (by decide) (by omega) z132 (ok:=fun _=>True) (okp:=fun _=>True) (k132_mkM _ _ _ z132) (fun _ hk=>hk) trivial (za) (Nat.le_trans (Nat.mul_le_mul_right _ (za:(l0.length:Int).toNat≤5026338869833)) (by omega)) (Below.refl _ _) (Nat.le_refl _) ?_;intro v361 w4 ho5 hb hg_ hnew_;clear hg_ hnew_;(first|rw[←Ny360.out]at ho5|(simp only[Int.reduceToNat]at ho5;rw[←Ny360.out]at ho5));have HO362:=zA (Kd.R_lower ho5 (below_size (zs0 HB)));replace HB:=zE (zs0 HB) hb;clear hb ho5))
 go_loopg [4] k (fun kq v4 w'=> ∃(x3_1:List (S132)) (x4_1:Int),v4= .int .i64 x4_1∧Aside0 (laws_toFlyStepS.l0 kq l0 x3_1 x4_1=some r)∧Aside0 (kq≤k)∧Aside0 (Kd.R k132 132 w' w.heap.size (fun _=>True) v361 x3_1)∧Aside0 (Below w.heap.size w w'))
 case atStart=>exact⟨(y360),(0),zi,H',⟨Nat.le_refl _⟩,⟨zr HO362⟩,⟨zs0 HB⟩⟩
 case round=>
  clear H'
  try clear c1
  try clear c2
  try clear c2b0
  try clear c2b1
  try clear p2
  try clear c3
  try clear c3b0
  try clear c3b1
  obtain⟨x3_1,x4_1,rfl,HA,HK1,HO_3,HB⟩:=hrel
  cases gk with
  |zero=>exact absurd HA.out (by simp[laws_toFlyStepS.l0])
  |succ k1=>
   have H:=HA.out;clear HA;simp only[laws_toFlyStepS.l0]at H
   by_cases c6:x4_1<(l0.length:Int)
   rotate_left
   ·rw[if_neg c6]at H
    have c6b0:decide (x4_1<(l0.length:Int))=false:=decide_eq_false c6;clear c6;obtain rfl:=Option.some.inj H
    go_wp2
    go_ret;exact⟨_,ze,zr HO_3,zs0 HB⟩
   rw[if_pos c6]at H;have c6b0:decide (x4_1<(l0.length:Int))=true:=decide_eq_true c6;clear c6;replace H:=zif H;obtain⟨c7b0,H⟩:=H;replace H:=Option.bind_eq_some_iff.mp H;obtain⟨⟨t364,t365,t366,t367,t368,t369,t370⟩,A80,H⟩:=H;replace H:(if x4_1<(x3_1.length:Int)then(laws_toFlyStepS.l0 k1 l0 (x3_1.set (x4_1:Int).toNat (⟨t364,t365,t366,t367,t368,t369,t370⟩:S132)) (wrap64 (x4_1+1)))else(none))=some r:=H;have A8:=zA A80;clear A80;replace H:=zif H;obtain⟨c9b0,H⟩:=H;obtain⟨y371,hy371⟩: ∃y_:List (S132),y_=(x3_1.set (x4_1:Int).toNat (⟨t364,t365,t366,t367,t368,t369,t370⟩:S132)):=⟨_,rfl⟩
   replace H:(laws_toFlyStepS.l0 k1 l0 y371 (wrap64 (x4_1+1)))=some r:=by first|(rw[hy371];with_reducible exact H)|(have H2_:=(Option.bind_some _ _).symm.trans H;rw[hy371];with_reducible exact H2_)|(have H2_:=(Option.bind_some _ _).symm.trans H;with_reducible exact H2_)|with_reducible exact H|(rw[hy371];exact H)|exact H
   have Ny371:=zA hy371;clear hy371;have H':=zA H;clear H;have p363:0≤(x4_1:Int):=za;have q363:x4_1<(l0.length:Int):=za;obtain⟨ad363,e363,hx363_0,hx363_1,hx363_2,hx363_3,hx363_4,hx363_5,hx363_6⟩:=at_T170 HR0.out x4_1 p363 q363;cases e363;replace hx363_0:=zx HB hx363_0;replace hx363_1:=zx HB hx363_1;replace hx363_2:=zx HB hx363_2;replace hx363_3:=zx HB hx363_3;replace hx363_4:=zx HB hx363_4;replace hx363_5:=zx HB hx363_5;replace hx363_6:=zx HB hx363_6;replace p363:=eq_true p363;replace q363:=eq_true q363
   go_wp2_with (first|((with_reducible refine gate_callee (f:=155) rfl ?_);refine zgl (N:=some 20) Try.func155 #[.agg #[.int .i64 ((rd_T170 l0 x4_1).f0),.int .i64 ((rd_T170 l0 x4_1).f1),.int .i64 ((rd_T170 l0 x4_1).f2),.int .i64 ((rd_T170 l0 x4_1).f3),.int .i64 ((rd_T170 l0 x4_1).f4),.int .i64 ((rd_T170 l0 x4_1).f5),.bool ((rd_T170 l0 x4_1).f6)]] ?_;(with_reducible refine(laws_toFlyStep.calls ((rd_T170 l0 x4_1).f0) ((rd_T170 l0 x4_1).f1) ((rd_T170 l0 x4_1).f2) ((rd_T170 l0 x4_1).f3) ((rd_T170 l0 x4_1).f4) ((rd_T170 l0 x4_1).f5) ((rd_T170 l0 x4_1).f6) t364 t365 t366 t367 t368 t369 t370 _ A8.out).mono ?_);rintro e w11 ⟨rfl,hb⟩;refine⟨_,rfl,?_⟩;replace HO_3:=zA (Kd.R_below (zr HO_3) hb);replace HB:=zE (zs0 HB) hb;(try clear hb);(try clear hb2);(try clear hk);(try clear hi);have p10:0≤(x4_1:Int):=za;have q10:(x4_1:Int)<((x3_1.length:Int):Int):=za;obtain⟨go10,co10,eo10,gb10,gl10,cl10,HG10⟩:=Kd.R_form HO_3.out (by omega);(first|cases eo10|(injection eo10 with ea_ en_ ec_;(first|subst ea_|(injection ea_ with ea_;subst ea_));subst ec_;clear en_));have GB10:=zA gb10;have GG10:=zA HG10;clear gb10 gl10 HG10;obtain⟨ce10,hcl10,hM10,hcc10,hfr10⟩:=Kd.R_elem HO_3.out z132 (x4_1:Int) p10 q10;obtain rfl:=k132_openM hM10;have hx10_0:w11.cell? ⟨go10,(x4_1:Int).toNat*7,none⟩=some (.int .i64 ((rd_T132 x3_1 x4_1).f0)):=hcc10 0 _ rfl;have hx10_1:w11.cell? ⟨go10,(x4_1:Int).toNat*7+1,none⟩=some (.int .i64 ((rd_T132 x3_1 x4_1).f1)):=hcc10 1 _ rfl;have hx10_2:w11.cell? ⟨go10,(x4_1:Int).toNat*7+2,none⟩=some (.int .i64 ((rd_T132 x3_1 x4_1).f2)):=hcc10 2 _ rfl;have hx10_3:w11.cell? ⟨go10,(x4_1:Int).toNat*7+3,none⟩=some (.int .i64 ((rd_T132 x3_1 x4_1).f3)):=hcc10 3 _ rfl;have hx10_4:w11.cell? ⟨go10,(x4_1:Int).toNat*7+4,none⟩=some (.int .i64 ((rd_T132 x3_1 x4_1).f4)):=hcc10 4 _ rfl;have hx10_5:w11.cell? ⟨go10,(x4_1:Int).toNat*7+5,none⟩=some (.int .i64 ((rd_T132 x3_1 x4_1).f5)):=hcc10 5 _ rfl;have hx10_6:w11.cell? ⟨go10,(x4_1:Int).toNat*7+6,none⟩=some (.bool ((rd_T132 x3_1 x4_1).f6)):=hcc10 6 _ rfl;have hf10_0:w11.frozen? ⟨go10,(x4_1:Int).toNat*7,none⟩=false:=hfr10 0;have hf10_1:w11.frozen? ⟨go10,(x4_1:Int).toNat*7+1,none⟩=false:=hfr10 1;have hf10_2:w11.frozen? ⟨go10,(x4_1:Int).toNat*7+2,none⟩=false:=hfr10 2;have hf10_3:w11.frozen? ⟨go10,(x4_1:Int).toNat*7+3,none⟩=false:=hfr10 3;have hf10_4:w11.frozen? ⟨go10,(x4_1:Int).toNat*7+4,none⟩=false:=hfr10 4;have hf10_5:w11.frozen? ⟨go10,(x4_1:Int).toNat*7+5,none⟩=false:=hfr10 5;have hf10_6:w11.frozen? ⟨go10,(x4_1:Int).toNat*7+6,none⟩=false:=hfr10 6;clear hcl10 hcc10 hfr10 hM10;replace p10:=eq_true p10;replace q10:=eq_true q10;have HX12:=zA (show Kd.R k132 132 w11 w.heap.size (fun _=>True) (.slice (some ⟨go10,0,none⟩) x3_1.length co10) x3_1 from(zr HO_3));obtain⟨ce12,hcl12,hM12,hcc12,hfr12⟩:=Kd.R_elem HX12.out z132 (x4_1:Int) (za) (by have h_:(x4_1:Int)<((x3_1.length:Int):Int):=za;first|exact h_|(have e_:=(Kd.R_reads' HO_3.out).1;omega)|simpa using h_);obtain rfl:=k132_openM hM12;have HP12:=Kd.R_seg HX12.out (x4_1:Int) (za) (by have h_:(x4_1:Int)<((x3_1.length:Int):Int):=za;first|exact h_|(have e_:=(Kd.R_reads' HO_3.out).1;omega)|simpa using h_) (seg:=[.int .i64 t364,.int .i64 t365,.int .i64 t366,.int .i64 t367,.int .i64 t368,.int .i64 t369,.bool t370]) (j:=0) hcl12 hcc12 (show 7≤7 from by decide) (x':=(⟨t364,t365,t366,t367,t368,t369,t370⟩:S132)) (k132_mkM _ _ _ (⟨t364,t365,t366,t367,t368,t369,t370⟩:S132)) (fun _ hk=>hk);have hx12_0:=hcc12 0 _ rfl;(try simp only[show(k132).sz=7 from rfl,Nat.mul_one,Nat.add_zero]at hx12_0);have hf12_0:=hfr12 0;(try simp only[show(k132).sz=7 from rfl,Nat.mul_one,Nat.add_zero]at hf12_0);have hx12_1:=hcc12 1 _ rfl;(try simp only[show(k132).sz=7 from rfl,Nat.mul_one,Nat.add_zero]at hx12_1);have hf12_1:=hfr12 1;(try simp only[show(k132).sz=7 from rfl,Nat.mul_one,Nat.add_zero]at hf12_1);have hx12_2:=hcc12 2 _ rfl;(try simp only[show(k132).sz=7 from rfl,Nat.mul_one,Nat.add_zero]at hx12_2);have hf12_2:=hfr12 2;(try simp only[show(k132).sz=7 from rfl,Nat.mul_one,Nat.add_zero]at hf12_2);have hx12_3:=hcc12 3 _ rfl;(try simp only[show(k132).sz=7 from rfl,Nat.mul_one,Nat.add_zero]at hx12_3);have hf12_3:=hfr12 3;(try simp only[show(k132).sz=7 from rfl,Nat.mul_one,Nat.add_zero]at hf12_3);have hx12_4:=hcc12 4 _ rfl;(try simp only[show(k132).sz=7 from rfl,Nat.mul_one,Nat.add_zero]at hx12_4);have hf12_4:=hfr12 4;(try simp only[show(k132).sz=7 from rfl,Nat.mul_one,Nat.add_zero]at hf12_4);have hx12_5:=hcc12 5 _ rfl;(try simp only[show(k132).sz=7 from rfl,Nat.mul_one,Nat.add_zero]at hx12_5);have hf12_5:=hfr12 5;(try simp only[show(k132).sz=7 from rfl,Nat.mul_one,Nat.add_zero]at hf12_5);have hx12_6:=hcc12 6 _ rfl;(try simp only[show(k132).sz=7 from rfl,Nat.mul_one,Nat.add_zero]at hx12_6);have hf12_6:=hfr12 6;(try simp only[show(k132).sz=7 from rfl,Nat.mul_one,Nat.add_zero]at hf12_6);clear hcl12 hcc12 hfr12 hM12)|((with_reducible refine gate_store (t:=132) (p:=21) rfl ?_);refine store_event (t:=132) (p:=21) (v:=?vo_w13) (w1:=(((((((w11.setCell ⟨go10,(x4_1:Int).toNat*7,none⟩ (.int .i64 t364)).setCell ⟨go10,(x4_1:Int).toNat*7+1,none⟩ (.int .i64 t365)).setCell ⟨go10,(x4_1:Int).toNat*7+2,none⟩ (.int .i64 t366)).setCell ⟨go10,(x4_1:Int).toNat*7+3,none⟩ (.int .i64 t367)).setCell ⟨go10,(x4_1:Int).toNat*7+4,none⟩ (.int .i64 t368)).setCell ⟨go10,(x4_1:Int).toNat*7+5,none⟩ (.int .i64 t369)).setCell ⟨go10,(x4_1:Int).toNat*7+6,none⟩ (.bool t370))) ?hg ?ho ?hn ?hr ?_;(case ho=>rfl);(case hg=>rfl);(case hn=>rfl);(case hr=>first|(go_simp;done)|(go_simp;rfl));intro w13 hw;have hg:w11.grownBy w13 (some go10):=(by rw[hw];exact HP12.2);have hp_:Kd.R k132 132 w13 w.heap.size (fun _=>True) (.slice (some ⟨go10,0,none⟩) x3_1.length co10) y371:=(by rw[hw,Ny371.out];exact HP12.1);clear HP12;replace HO_3:=zA (hp_);replace HB:=zA ((by rw[hw];exact below_set (below_set (below_set (below_set (below_set (below_set (below_set (HB.out) GB10.out) GB10.out) GB10.out) GB10.out) GB10.out) GB10.out) GB10.out:Below w.heap.size w w13));clear hg hw hp_))
   go_roundg k1
   case measure=>have:=HK1.out;omega
   case rel=>exact⟨(y371),(wrap64 (x4_1+1)),zi,H',⟨by have:=HK1.out;omega⟩,⟨zr HO_3⟩,⟨zs0 HB⟩⟩
def laws_toFlyPath.f (k:Nat) (a0_0:Int) (a0_1:Int) (l0_2:List (S170)) (a0_3:Int) (a0_4:Int):Option (Int×Int×(List (S132))×Int×Int):=(laws_toFlyKind.f a0_0 a0_1).bind fun bt375=>((laws_toFlyStepS.f k l0_2).bind fun t377=>(some (bt375.1,bt375.2,t377,a0_3,a0_4)))
set_option maxHeartbeats 8000000 in
set_option maxRecDepth 100000 in
theorem laws_toFlyPath.calls (k:Nat) (a0_0:Int) (a0_1:Int) (A0_2:Option Addr) (c0_2:Nat) (l0_2:List (S170)) (a0_3:Int) (a0_4:Int) (r1:Int) (r2:Int) (r3:List (S132)) (r4:Int) (r5:Int) (w:World) (hr0_2:Kd.C k170 w A0_2 l0_2.length l0_2) (hc0_2:l0_2.length≤c0_2) (h:laws_toFlyPath.f k a0_0 a0_1 l0_2 a0_3 a0_4=some (r1,r2,r3,r4,r5)):
 Calls Try.prog 64 #[.agg #[.int .i64 a0_0,.int .i64 a0_1,.slice A0_2 l0_2.length c0_2,.int .i64 a0_3,.int .i64 a0_4]] w fun e w'=> ∃v2_:Value,e= .returned (.agg #[.int .i64 r1,.int .i64 r2,v2_,.int .i64 r4,.int .i64 r5])∧Kd.R k132 132 w' w.heap.size (fun _=>True) v2_ r3∧Below w.heap.size w w':=by
 have hu91:=Try.underlying91;have hu68:=Try.underlying68;have hu35:=Try.underlying35;have hu44:=Try.underlying44;have HR0_2:=zA hr0_2;have HC0_2:=zA hc0_2;clear hr0_2 hc0_2;have HB:=zA (Below.refl w.heap.size w);have H:=h;clear h;unfold laws_toFlyPath.f at H;replace H:=Option.bind_eq_some_iff.mp H;obtain⟨⟨t375,t376⟩,A20,H⟩:=H;replace H:((laws_toFlyStepS.f k l0_2).bind fun t377=>(some (t375,t376,t377,a0_3,a0_4)))=some (r1,r2,r3,r4,r5):=H;have A2:=zA A20;clear A20;replace H:=zbd H;obtain⟨t377,A3,H⟩:=H;simp only[Option.some.injEq,Prod.mk.injEq]at H;obtain⟨rfl,rfl,rfl,rfl,rfl⟩:=H
 go_enter Try.func64,Try.ntmps64
 go_wp2_with (first|((with_reducible refine gate_dst (N:=1) rfl ?_);refine zbx 1 #[.int .i64 a0_0,.int .i64 a0_1,.slice A0_2 l0_2.length c0_2,.int .i64 a0_3,.int .i64 a0_4] 91 ?_;intro gb372 hg w4 hbox hb;have BK372:=zA hbox;have GW372:=zgs hg (zs0 HB);have GE372:=zgs hg (zs0 HB);replace HB:=zE (zs0 HB) hb;clear hb hbox hg)|((with_reducible refine gate_dst (N:=2) rfl ?_);refine zbx 2 #[.int .i64 0,.int .i64 0,.slice none 0 0,.int .i64 0,.int .i64 0] 68 ?_;intro gb373 hg w5 hbox hb;have BK373:=zA hbox;have GW373:=zgs hg (zs1 HB GE372);have GE373:=zgs hg (zs1 HB GE372);have NB372_373:=zne hg BK372;have NB373_372:=znf hg BK372;replace BK372:=zb BK372 hb;replace HB:=zE (zs1 HB GE372) hb;clear hb hbox hg)|((with_reducible refine gate_dst (N:=3) rfl ?_);refine zbx 3 #[.int .i64 0,.int .i64 0,.slice none 0 0,.int .i64 0,.int .i64 0] 68 ?_;intro gb374 hg w6 hbox hb;have BK374:=zA hbox;have GW374:=zgs hg (zs2 HB GE372 GE373);have GE374:=zgs hg (zs2 HB GE372 GE373);have NB372_374:=zne hg BK372;have NB374_372:=znf hg BK372;have NB373_374:=zne hg BK373;have NB374_373:=znf hg BK373;replace BK372:=zb BK372 hb;replace BK373:=zb BK373 hb;replace HB:=zE (zs2 HB GE372 GE373) hb;clear hb hbox hg;have hnb7:=NB372_373.out;have hnc7:=NB373_372.out;have hnb8:=NB372_374.out;have hnc8:=NB374_372.out;obtain⟨hcz9_0,hcz9_1,hcz9_2,hcz9_3,hcz9_4⟩:=zd5 BK372;obtain⟨hfz9_0,hfz9_1,hfz9_2,hfz9_3,hfz9_4⟩:=zn5 BK372)|((with_reducible refine gate_callee (f:=44) rfl ?_);refine zgl (N:=some 6) Try.func44 #[.agg #[.int .i64 a0_0,.int .i64 a0_1]] ?_;(with_reducible refine(laws_toFlyKind.calls a0_0 a0_1 t375 t376 _ A2.out).mono ?_);rintro e w10 ⟨rfl,hb⟩;refine⟨_,rfl,?_⟩;replace BK372:=zb BK372 hb;replace BK373:=zb BK373 hb;replace BK374:=zb BK374 hb;replace HB:=zE (zs3 HB GE372 GE373 GE374) hb;(try clear hb);(try clear hb2);(try clear hk);(try clear hi);have hnb11:=NB374_373.out;have hnc11:=NB373_374.out;obtain⟨hcz12_0,hcz12_1,hcz12_2,hcz12_3,hcz12_4⟩:=zd5 BK374;obtain⟨hfz12_0,hfz12_1,hfz12_2,hfz12_3,hfz12_4⟩:=zn5 BK374;obtain⟨hcz13_0,hcz13_1,hcz13_2,hcz13_3,hcz13_4⟩:=zd5 BK372;obtain⟨hfz13_0,hfz13_1,hfz13_2,hfz13_3,hfz13_4⟩:=zn5 BK372)|((with_reducible refine gate_callee (f:=122) rfl ?_);refine zgl (N:=some 10) Try.func122 #[.slice A0_2 l0_2.length c0_2] ?_;(with_reducible refine(laws_toFlyStepS.calls k _ _ l0_2 t377 _ ?side1 ?side2 A3.out).mono ?_);(case side1=>exact Kd.C_below HR0_2.out (zs3 HB GE372 GE373 GE374));(case side2=>exact HC0_2.out);rintro e w14 ⟨v378,rfl,ho0,hb⟩;refine⟨_,rfl,?_⟩;have HO379:=zA (Kd.R_lower ho0 (below_size (zs3 HB GE372 GE373 GE374)));replace BK372:=zA (blk_below (g:=gb372) (o:= .cells #[.int .i64 a0_0,.int .i64 a0_1,.slice A0_2 l0_2.length c0_2,.int .i64 a0_3,.int .i64 a0_4] 91 (0,0)) (zpf BK372 NB372_374) hb);replace BK373:=zA (blk_below (g:=gb373) (o:= .cells #[.int .i64 0,.int .i64 0,.slice none 0 0,.int .i64 0,.int .i64 0] 68 (0,0)) (zpf BK373 NB373_374) hb);replace BK374:=zA (blk_below (g:=gb374) (o:= .cells #[.int .i64 t375,.int .i64 t376,.slice none 0 0,.int .i64 0,.int .i64 0] 68 (0,0)) (zpb BK374) hb);replace HB:=zE (zs3 HB GE372 GE373 GE374) hb;(try clear hb);(try clear hb2);(try clear hk);(try clear hi);(try clear ho0);obtain⟨Ao15,co15,eo15⟩:=Kd.R_slice HO379.out;subst eo15;obtain⟨hcz16_0,hcz16_1,hcz16_2,hcz16_3,hcz16_4⟩:=zd5 BK374;obtain⟨hfz16_0,hfz16_1,hfz16_2,hfz16_3,hfz16_4⟩:=zn5 BK374;obtain⟨hcz17_0,hcz17_1,hcz17_2,hcz17_3,hcz17_4⟩:=zd5 BK372;obtain⟨hfz17_0,hfz17_1,hfz17_2,hfz17_3,hfz17_4⟩:=zn5 BK372;obtain⟨hcz18_0,hcz18_1,hcz18_2,hcz18_3,hcz18_4⟩:=zd5 BK373;obtain⟨hfz18_0,hfz18_1,hfz18_2,hfz18_3,hfz18_4⟩:=zn5 BK373))
 refine bodyPost_ret (results_cell_row rfl _ _ gb373 68 #[.int .i64 t375,.int .i64 t376,.slice Ao15 t377.length co15,.int .i64 a0_3,.int .i64 a0_4] (0,0) _ rfl ?hz Try.underlying68 rfl (by kernel_rfl)) rfl ?_;(case hz=>exact zpf BK373 NB373_374);exact⟨_,ze,by(with_reducible repeat(first|apply Kd.R_alloc|apply Kd.R_drewN|apply Kd.R_drew));exact Kd.R_mono (Kd.R_far (p:=⟨gb373,4,none⟩) (Kd.R_far (p:=⟨gb373,3,none⟩) (Kd.R_far (p:=⟨gb373,2,none⟩) (Kd.R_far (p:=⟨gb373,1,none⟩) (Kd.R_far (p:=⟨gb373,0,none⟩) (Kd.R_far (p:=⟨gb374,4,none⟩) (Kd.R_far (p:=⟨gb374,3,none⟩) (Kd.R_far (p:=⟨gb374,2,none⟩) (Kd.R_types (Kd.R_types HO379.out BK374.out (by decide)) BK373.out (by decide)) (fun _ hk=>hk.1.2) (.slice Ao15 t377.length co15)) (fun _ hk=>hk.1.2) (.int .i64 a0_3)) (fun _ hk=>hk.1.2) (.int .i64 a0_4)) (fun _ hk=>hk.2) (.int .i64 t375)) (fun _ hk=>hk.2) (.int .i64 t376)) (fun _ hk=>hk.2) (.slice Ao15 t377.length co15)) (fun _ hk=>hk.2) (.int .i64 a0_3)) (fun _ hk=>hk.2) (.int .i64 a0_4)) (fun _ hk=>trivial),zs3 HB GE372 GE373 GE374⟩
def impl_within.f (a0:Int) (a1:Int) (a2:Int):Option (Bool):=if a0≥a1 then(some (decide (a0≤a2)))else(some false)
set_option maxHeartbeats 8000000 in
set_option maxRecDepth 100000 in
theorem impl_within.calls (a0:Int) (a1:Int) (a2:Int) (r:Bool) (w:World) (h:impl_within.f a0 a1 a2=some r):
 Calls Try.prog 93 #[.int .i64 a0,.int .i64 a1,.int .i64 a2] w fun e w'=>e= .returned (.bool r)∧Drawn0 w w':=by
 have H:=h;clear h;unfold impl_within.f at H
 by_cases c4:a0≥a1
 ·rw[if_pos c4]at H
  have c4b0:decide (a1≤a0)=true:=decide_eq_true c4;clear c4;obtain rfl:=Option.some.inj H
  go_enter Try.func93,Try.ntmps93
  go_wp2
  go_ret;exact⟨by first|rfl|(simp;done)|(simp[*];done),by repeat(first|exact Drawn0.refl _|apply Drawn0.step)⟩
 rw[if_neg c4]at H;have c4b0:decide (a1≤a0)=false:=decide_eq_false c4;clear c4;obtain rfl:=Option.some.inj H
 go_enter Try.func93,Try.ntmps93
 go_wp2
 go_ret;exact⟨by first|rfl|(simp;done)|(simp[*];done),by repeat(first|exact Drawn0.refl _|apply Drawn0.step)⟩
def impl_dist.f (a0:Int) (a1:Int):Option (Int):=if a0>a1 then(some (wrap64 (a0-a1)))else(some (wrap64 (a1-a0)))
set_option maxHeartbeats 8000000 in
set_option maxRecDepth 100000 in
theorem impl_dist.calls (a0:Int) (a1:Int) (r:Int) (w:World) (h:impl_dist.f a0 a1=some r):
 Calls Try.prog 111 #[.int .i64 a0,.int .i64 a1] w fun e w'=>e= .returned (.int .i64 r)∧Drawn0 w w':=by
 have H:=h;clear h;unfold impl_dist.f at H
 by_cases c3:a0>a1
 ·rw[if_pos c3]at H
  have c3b0:decide (a1<a0)=true:=decide_eq_true c3;clear c3;obtain rfl:=Option.some.inj H
  go_enter Try.func111,Try.ntmps111
  go_wp2
  go_ret;exact⟨by first|rfl|(simp;done)|(simp[*];done),by repeat(first|exact Drawn0.refl _|apply Drawn0.step)⟩
 rw[if_neg c3]at H;have c3b0:decide (a1<a0)=false:=decide_eq_false c3;clear c3;obtain rfl:=Option.some.inj H
 go_enter Try.func111,Try.ntmps111
 go_wp2
 go_ret;exact⟨by first|rfl|(simp;done)|(simp[*];done),by repeat(first|exact Drawn0.refl _|apply Drawn0.step)⟩
def impl_FlyKindOk.f (a0_0:Int) (a0_1:Int):Option (Bool):=if 1≤a0_0 then(if a0_0≤a0_1 then(some (decide (a0_1≤50)))else(some false))else(some false)
set_option maxHeartbeats 8000000 in
set_option maxRecDepth 100000 in
theorem impl_FlyKindOk.calls (a0_0:Int) (a0_1:Int) (r:Bool) (w:World) (h:impl_FlyKindOk.f a0_0 a0_1=some r):
 Calls Try.prog 142 #[.agg #[.int .i64 a0_0,.int .i64 a0_1]] w fun e w'=>e= .returned (.bool r)∧Below w.heap.size w w':=by
 have hu44:=Try.underlying44;have HB:=zA (Below.refl w.heap.size w);have H:=h;clear h;unfold impl_FlyKindOk.f at H
 by_cases c2:1≤a0_0
 rotate_left
 ·rw[if_neg c2]at H
  have c2b0:decide (1≤a0_0)=false:=decide_eq_false c2;clear c2;obtain rfl:=Option.some.inj H
  go_enter Try.func142,Try.ntmps142
  go_wp2_with (first|((with_reducible refine gate_dst (N:=1) rfl ?_);refine zbx 1 #[.int .i64 a0_0,.int .i64 a0_1] 44 ?_;intro gb380 hg w8 hbox hb;have BK380:=zA hbox;have GW380:=zgs hg (zs0 HB);have GE380:=zgs hg (zs0 HB);replace HB:=zE (zs0 HB) hb;clear hb hbox hg;obtain⟨hcz9_0,hcz9_1⟩:=zd2 BK380;obtain⟨hfz9_0,hfz9_1⟩:=zn2 BK380))
  go_ret;exact⟨ze,zs1 HB GE380⟩
 rw[if_pos c2]at H;have c2b0:decide (1≤a0_0)=true:=decide_eq_true c2;clear c2
 by_cases c3:a0_0≤a0_1
 ·rw[if_pos c3]at H
  have c3b0:decide (a0_0≤a0_1)=true:=decide_eq_true c3;clear c3;obtain rfl:=Option.some.inj H
  go_enter Try.func142,Try.ntmps142
  go_wp2_with (first|((with_reducible refine gate_dst (N:=1) rfl ?_);refine zbx 1 #[.int .i64 a0_0,.int .i64 a0_1] 44 ?_;intro gb380 hg w4 hbox hb;have BK380:=zA hbox;have GW380:=zgs hg (zs0 HB);have GE380:=zgs hg (zs0 HB);replace HB:=zE (zs0 HB) hb;clear hb hbox hg;obtain⟨hcz5_0,hcz5_1⟩:=zd2 BK380;obtain⟨hfz5_0,hfz5_1⟩:=zn2 BK380))
  go_ret;exact⟨ze,zs1 HB GE380⟩
 rw[if_neg c3]at H;have c3b0:decide (a0_0≤a0_1)=false:=decide_eq_false c3;clear c3;obtain rfl:=Option.some.inj H
 go_enter Try.func142,Try.ntmps142
 go_wp2_with (first|((with_reducible refine gate_dst (N:=1) rfl ?_);refine zbx 1 #[.int .i64 a0_0,.int .i64 a0_1] 44 ?_;intro gb380 hg w6 hbox hb;have BK380:=zA hbox;have GW380:=zgs hg (zs0 HB);have GE380:=zgs hg (zs0 HB);replace HB:=zE (zs0 HB) hb;clear hb hbox hg;obtain⟨hcz7_0,hcz7_1⟩:=zd2 BK380;obtain⟨hfz7_0,hfz7_1⟩:=zn2 BK380))
 go_ret;exact⟨ze,zs1 HB GE380⟩
def impl_window.f (a0:Int) (a1:Int):Option (Bool):=if 0≤a0 then(if a0≤a1 then(some (decide (a1≤10000)))else(some false))else(some false)
set_option maxHeartbeats 8000000 in
set_option maxRecDepth 100000 in
theorem impl_window.calls (a0:Int) (a1:Int) (r:Bool) (w:World) (h:impl_window.f a0 a1=some r):
 Calls Try.prog 143 #[.int .i64 a0,.int .i64 a1] w fun e w'=>e= .returned (.bool r)∧Drawn0 w w':=by
 have H:=h;clear h;unfold impl_window.f at H
 by_cases c3:0≤a0
 rotate_left
 ·rw[if_neg c3]at H
  have c3b0:decide (0≤a0)=false:=decide_eq_false c3;clear c3;obtain rfl:=Option.some.inj H
  go_enter Try.func143,Try.ntmps143
  go_wp2
  go_ret;exact⟨by first|rfl|(simp;done)|(simp[*];done),by repeat(first|exact Drawn0.refl _|apply Drawn0.step)⟩
 rw[if_pos c3]at H;have c3b0:decide (0≤a0)=true:=decide_eq_true c3;clear c3
 by_cases c4:a0≤a1
 ·rw[if_pos c4]at H
  have c4b0:decide (a0≤a1)=true:=decide_eq_true c4;clear c4;obtain rfl:=Option.some.inj H
  go_enter Try.func143,Try.ntmps143
  go_wp2
  go_ret;exact⟨by first|rfl|(simp;done)|(simp[*];done),by repeat(first|exact Drawn0.refl _|apply Drawn0.step)⟩
 rw[if_neg c4]at H;have c4b0:decide (a0≤a1)=false:=decide_eq_false c4;clear c4;obtain rfl:=Option.some.inj H
 go_enter Try.func143,Try.ntmps143
 go_wp2
 go_ret;exact⟨by first|rfl|(simp;done)|(simp[*];done),by repeat(first|exact Drawn0.refl _|apply Drawn0.step)⟩
end Go.Proofs.Ytbmplfpnhjhoiaa.QFnExactFlyMayTurn
