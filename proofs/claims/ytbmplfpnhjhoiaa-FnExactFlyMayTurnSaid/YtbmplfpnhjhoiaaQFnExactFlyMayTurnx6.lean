/- The walk of what the law FnExactFlyMayTurn reaches: laid by a program of this session (ownprint.py). -/
import Derived.Test.YtbmplfpnhjhoiaaQFnExactFlyMayTurnx0
namespace Go.Proofs.Ytbmplfpnhjhoiaa.QFnExactFlyMayTurn
open Go.RowKit Go.Proofs.YtbmplfpnhjhoiaaW.PrintWords Go.Proofs.YtbmplfpnhjhoiaaW.PrintLast Go.Proofs.YtbmplfpnhjhoiaaW.PrintMore Go.Proofs.Ytbmplfpnhjhoiaa.Z
attribute [local go_sem] max2_int min2_int max_two min_two max_three min_three max_four min_four zdn   -- for this text's walks alone
set_option linter.unusedVariables false
set_option linter.unusedSimpArgs false
def spec_l21Min.f (a0:Int) (a1:Int):Option (Int):=if a0<a1 then(some a0)else(some a1)
set_option maxHeartbeats 8000000 in
set_option maxRecDepth 100000 in
theorem spec_l21Min.calls (a0:Int) (a1:Int) (r:Int) (w:World) (h:spec_l21Min.f a0 a1=some r):
 Calls Try.prog 98 #[.int .i64 a0,.int .i64 a1] w fun e w'=>e= .returned (.int .i64 r)∧Drawn0 w w':=by
 have H:=h;clear h;unfold spec_l21Min.f at H
 by_cases c3:a0<a1
 ·rw[if_pos c3]at H
  have c3b0:decide (a0<a1)=true:=decide_eq_true c3;clear c3;obtain rfl:=Option.some.inj H
  go_enter Try.func98,Try.ntmps98
  go_wp2
  go_ret;exact⟨by first|rfl|(simp;done)|(simp[*];done),by repeat(first|exact Drawn0.refl _|apply Drawn0.step)⟩
 rw[if_neg c3]at H;have c3b0:decide (a0<a1)=false:=decide_eq_false c3;clear c3;obtain rfl:=Option.some.inj H
 go_enter Try.func98,Try.ntmps98
 go_wp2
 go_ret;exact⟨by first|rfl|(simp;done)|(simp[*];done),by repeat(first|exact Drawn0.refl _|apply Drawn0.step)⟩
def spec_l27Tail.f (a0_0:Int) (a0_1:Int) (l0_2:List (S132)) (a0_3:Int) (a0_4:Int) (a1:Int):Option (Int×Int×(List (S132))×Int×Int):=(some (([]:List (S132)):List (S132))).bind fun y136=>(if 0≤a1 then(if a1≤(l0_2.length:Int)then((some (l0_2.drop (a1:Int).toNat:List (S132))).bind fun y139=>(if y136.length+y139.length<2513169434916 then(some (a0_0,a0_1,(y136++y139),a0_3,a0_4))else(none)))else(none))else(none))
def spec_l27Tail.T1:Bool×List (List Nat×List Nat):=(true,[([],[]),([0],[0]),([],[]),([],[]),([3],[3]),([],[]),([4,5],[4,5]),([2,6],[2,6]),([],[]),([8],[8]),([],[]),([10],[10]),([1,7,9,11],[1,7,9,11]),([12,7,0,1,2,3,4,5,6,7,8,9,10,11,12],[12])])
def spec_l27Tail.B1:List Nat:=[0,1,0,0,8,0,56,124,0,256,0,1024,4095,8191]
theorem spec_l27Tail.tab1:rtab .any (opsOf Try.f128 1)=spec_l27Tail.T1:=by kernel_rfl
theorem spec_l27Tail.bits1:waitsOk spec_l27Tail.T1.2 spec_l27Tail.B1=true:=by kernel_rfl
set_option maxHeartbeats 8000000 in
set_option maxRecDepth 100000 in
theorem spec_l27Tail.calls (a0_0:Int) (a0_1:Int) (A0_2:Option Addr) (c0_2:Nat) (l0_2:List (S132)) (a0_3:Int) (a0_4:Int) (a1:Int) (r1:Int) (r2:Int) (r3:List (S132)) (r4:Int) (r5:Int) (w:World) (hr0_2:Kd.C k132 w A0_2 l0_2.length l0_2) (hc0_2:l0_2.length≤c0_2) (h:spec_l27Tail.f a0_0 a0_1 l0_2 a0_3 a0_4 a1=some (r1,r2,r3,r4,r5)):
 Calls Try.prog 128 #[.agg #[.int .i64 a0_0,.int .i64 a0_1,.slice A0_2 l0_2.length c0_2,.int .i64 a0_3,.int .i64 a0_4],.int .i64 a1] w fun e w'=> ∃v2_:Value,e= .returned (.agg #[.int .i64 r1,.int .i64 r2,v2_,.int .i64 r4,.int .i64 r5])∧Kd.R k132 132 w' w.heap.size (fun _=>True) v2_ r3∧Below w.heap.size w w':=by
 have hu68:=Try.underlying68;have hu44:=Try.underlying44;have HR0_2:=zA hr0_2;have HC0_2:=zA hc0_2;clear hr0_2 hc0_2;have HB:=zA (Below.refl w.heap.size w);have H:=h;clear h;unfold spec_l27Tail.f at H;obtain⟨y136,hy136⟩: ∃y_:List (S132),y_=(([]:List (S132))):=⟨_,rfl⟩
 replace H:(if 0≤a1 then(if a1≤(l0_2.length:Int)then((some (l0_2.drop (a1:Int).toNat:List (S132))).bind fun y139=>(if y136.length+y139.length<2513169434916 then(some (a0_0,a0_1,(y136++y139),a0_3,a0_4))else(none)))else(none))else(none))=some (r1,r2,r3,r4,r5):=by first|(rw[hy136];with_reducible exact H)|(have H2_:=(Option.bind_some _ _).symm.trans H;rw[hy136];with_reducible exact H2_)|(have H2_:=(Option.bind_some _ _).symm.trans H;with_reducible exact H2_)|with_reducible exact H|(rw[hy136];exact H)|exact H
 have Ny136:=zA hy136;clear hy136
 by_cases c3:0≤a1
 rotate_left
 ·rw[if_neg c3]at H
  exact absurd H (by simp)
 rw[if_pos c3]at H;have c3b0:=eq_true c3;have c3b1:decide (0≤a1)=true:=decide_eq_true c3;clear c3
 by_cases c4:a1≤(l0_2.length:Int)
 rotate_left
 ·rw[if_neg c4]at H
  exact absurd H (by simp)
 rw[if_pos c4]at H;have c4b0:=eq_true c4;have c4b1:decide (a1≤(l0_2.length:Int))=true:=decide_eq_true c4;clear c4;obtain⟨y139,hy139⟩: ∃y_:List (S132),y_=(l0_2.drop (a1:Int).toNat):=⟨_,rfl⟩
 replace H:(if y136.length+y139.length<2513169434916 then(some (a0_0,a0_1,(y136++y139),a0_3,a0_4))else(none))=some (r1,r2,r3,r4,r5):=by first|(rw[hy139];with_reducible exact H)|(have H2_:=(Option.bind_some _ _).symm.trans H;rw[hy139];with_reducible exact H2_)|(have H2_:=(Option.bind_some _ _).symm.trans H;with_reducible exact H2_)|with_reducible exact H|(rw[hy139];exact H)|exact H
 have Ny139:=zA hy139;clear hy139
 by_cases c5:y136.length+y139.length<2513169434916
 rotate_left
 ·rw[if_neg c5]at H
  exact absurd H (by simp)
 rw[if_pos c5]at H;have LMc5:=zA c5;clear c5;obtain⟨y143,hy143⟩: ∃y_:List (S132),y_=(y136++y139):=⟨_,rfl⟩
 replace H:(some (a0_0,a0_1,y143,a0_3,a0_4))=some (r1,r2,r3,r4,r5):=by first|(rw[hy143];with_reducible exact H)|(have H2_:=(Option.bind_some _ _).symm.trans H;rw[hy143];with_reducible exact H2_)|(have H2_:=(Option.bind_some _ _).symm.trans H;with_reducible exact H2_)|with_reducible exact H|(rw[hy143];exact H)|exact H
 have Ny143:=zA hy143;clear hy143;simp only[Option.some.injEq,Prod.mk.injEq]at H;obtain⟨rfl,rfl,rfl,rfl,rfl⟩:=H
 go_enter Try.func128,Try.ntmps128
 try go_wp2_with (first|((with_reducible refine gate_dst (N:=2) rfl ?_);refine zbx 2 #[.int .i64 a0_0,.int .i64 a0_1,.slice A0_2 l0_2.length c0_2,.int .i64 a0_3,.int .i64 a0_4] 68 ?_;intro gb134 hg w6 hbox hb;have BK134:=zA hbox;have GW134:=zgs hg (zs0 HB);have GE134:=zgs hg (zs0 HB);replace HB:=zE (zs0 HB) hb;clear hb hbox hg)|((with_reducible refine gate_dst (N:=4) rfl ?_);refine zbx 4 #[.int .i64 0,.int .i64 0,.slice none 0 0,.int .i64 0,.int .i64 0] 68 ?_;intro gb135 hg w7 hbox hb;have BK135:=zA hbox;have GW135:=zgs hg (zs1 HB GE134);have GE135:=zgs hg (zs1 HB GE134);have NB134_135:=zne hg BK134;have NB135_134:=znf hg BK134;replace BK134:=zb BK134 hb;replace HB:=zE (zs1 HB GE134) hb;clear hb hbox hg))
 replace BK134:=zA (blk_drew BK134.out);replace BK135:=zA (blk_drew BK135.out);replace HB:=zA (below_drew1 HB.out);have q9:(a1:Int)≤((l0_2.length:Int):Int):=za;obtain⟨i09,hi09,_,hsz9,_⟩:=info_parts info132;have hroom9:l0_2.length≤c0_2:=HC0_2.out;have hC9:Kd.C k132 _ A0_2 l0_2.length l0_2:=HR0_2.out;have q09:(0:Int)≤(a1:Int):=za;have hcut9:=cut_from (P:=Try.prog) 66 132 .i64 Try.underlying66 hi09 7 hsz9 A0_2 l0_2.length c0_2 a1 q09 q9;have hr9:=Kd.C_drop (m:=(a1:Int).toNat) (c:=c0_2) hC9 (by omega) hroom9;obtain⟨A9,hA9⟩: ∃A1,A1=(if c0_2=(a1:Int).toNat then A0_2 else(A0_2:Option Addr).map (·.add ((a1:Int).toNat*7))):=⟨_,rfl⟩;obtain⟨c9,hc9⟩: ∃c1,c1=c0_2-(a1:Int).toNat:=⟨_,rfl⟩;have hy9:y139.length=l0_2.length-(a1:Int).toNat:=(by rw[Ny139.out,List.length_drop]<;>omega);rw[show(l0_2).drop (a1:Int).toNat=y139 from Ny139.out.symm]at hr9;replace hr9:Kd.C k132 _ A9 y139.length y139:=(by rw[hA9];exact hr9);rw[←hy9,←hA9,←hc9]at hcut9;have HR142:=zA hr9;have HC142:=zA (show y139.length≤c9 from by rw[hy9,hc9];exact Nat.sub_le_sub_right hroom9 _);clear hr9 hC9 hroom9 hi09 hsz9 hc9;have KY9:=zA hy9;have KA9:=zA hA9;clear hy9 hA9;replace q9:=eq_true q9;refine start_ (n:=14) (S:=fun w'=>w'.cell? ⟨gb134,0,none⟩=some (.int .i64 a0_0)∧w'.cell? ⟨gb134,1,none⟩=some (.int .i64 a0_1)∧w'.cell? ⟨gb134,2,none⟩=some (.slice A0_2 l0_2.length c0_2)∧w'.cell? ⟨gb134,3,none⟩=some (.int .i64 a0_3)∧w'.cell? ⟨gb134,4,none⟩=some (.int .i64 a0_4)) (ds:=[]) #[F,F,F,F,F,F,F,F,F,F,F,F,F,F] (by kernel_rfl) rfl rfl ⟨zc0 BK134,zc1 BK134,zc2 BK134,zc3 BK134,zc4 BK134⟩ (fun hHeld=>?_);refine with_tabW spec_l27Tail.tab1 spec_l27Tail.bits1 (fun HT_ HW_=>?_);generalize w7.drew=w8 at BK134 BK135 HB HR142 hHeld⊢;refine zq HT_ 0 ?_;refine zq HT_ 3 ?_;refine zq HT_ 5 ?_;refine zq HT_ 8 ?_;refine zq HT_ 10 ?_;refine zk5 HT_ HW_ hHeld 1 ?_;refine zk5 HT_ HW_ hHeld 4 ?_;refine zq HT_ 6 ?_;refine zk5 HT_ HW_ hHeld 9 ?_;refine zk5 HT_ HW_ hHeld 11 ?_;refine zo HT_ 2 (fun K hK=>?_);refine Kd.R_lit_step k132 _ 132 ?hg (N:=7) ?hd (xs:=([]:List (S132))) (inner:=[]) (ok:=fun _=>True) (okp:=fun _=>True) ?hr ?hp (fun _ hk=>hk) trivial (Below.refl _ _) (Nat.le_refl _) (by simp) ?_;(case hd=>rfl);(case hg=>rfl);(case hr=>first|(go_simp;done)|(go_simp;rfl));(case hp=>exact(Reps.none _ _));intro v137 w10 ho11 hb hg_ hnew_;clear hg_ hnew_;(first|rw[←Ny136.out]at ho11|(simp only[Int.reduceToNat]at ho11;rw[←Ny136.out]at ho11));have HO138:=zA (Kd.R_lower ho11 (below_size (zs2 HB GE134 GE135)));replace BK134:=zb BK134 hb;replace BK135:=zb BK135 hb;replace HB:=zE (zs2 HB GE134 GE135) hb;clear hb ho11;refine hK.out _ _ ⟨zc0 BK134,zc1 BK134,zc2 BK134,zc3 BK134,zc4 BK134⟩ (fun hHeld=>?_);clear hK K;refine zN ?_;refine zo HT_ 7 (fun K hK=>?_);refine Kd.R_append_rows_step k132 (w0:=w) w.heap.size (by rfl) (.tmp 7) (.tmp 11) 66 132 (.agg #[(.int .i64 0),(.int .i64 0),(.int .i64 0),(.int .i64 0),(.int .i64 0),(.int .i64 0),(.bool false)]) 56 rfl Try.underlying66 info132 rfl (by decide) (by omega) v137 y136 y139 _ _ _ (fun _=>True) (fun _=>False) rfl rfl ?aO ?aR (fun _ _ h=>h) (fun _ h=>h.elim) ?aF ?aB ?aS ?aL ?_;(case aR=>repeat(first|exact(Kd.C_below HR142.out HB.out)|(with_reducible refine Kd.C_alloc ?_ _)|(with_reducible refine Kd.C_drewN ?_ _)|(with_reducible refine Kd.C_drew ?_)));(case aB=>exact(zs2 HB GE134 GE135));(case aF=>exact(fun _ _=>trivial));(case aO=>exact(zr HO138));(case aS=>exact(below_size (zs2 HB GE134 GE135)));(case aL=>have:=LMc5.out;omega);intro v144 w12 ho hb hg hat;rw[←Ny143.out]at ho;have HO145:=zA (ho);replace BK134:=zA (blk_grown (g:=gb134) (o:= .cells #[.int .i64 a0_0,.int .i64 a0_1,.slice A0_2 l0_2.length c0_2,.int .i64 a0_3,.int .i64 a0_4] 68 (0,0)) (zh BK134) hg (Kd.R_ne HO138.out BK134.out (by decide)));replace BK135:=zA (blk_grown (g:=gb135) (o:= .cells #[.int .i64 0,.int .i64 0,.slice none 0 0,.int .i64 0,.int .i64 0] 68 (0,0)) (zh BK135) hg (Kd.R_ne HO138.out BK135.out (by decide)));replace HB:=zA (hb);clear HO138;clear ho hb hg hat;obtain⟨Ao13,co13,eo13⟩:=Kd.R_slice HO145.out
 (first|subst eo13|(injection eo13 with f1_ f2_ f3_;have f4_:=f1_.symm;have f5_:=f3_.symm;clear f1_ f2_ f3_;subst f4_;subst f5_));refine hK.out _ _ ⟨zc0 BK134,zc1 BK134,zc2 BK134,zc3 BK134,zc4 BK134⟩ (fun hHeld=>?_);clear hK K;refine zN ?_;refine zq HT_ 12 ?_;refine zo HT_ 13 (fun K hK=>?_);have hs14:w12.cell? ⟨gb135,0,none⟩=some (.int .i64 0):=zc0 BK135;have hfs14:=zf BK135 0;have hns14_0:=NB134_135.out;have hms14_0:=NB135_134.out;have hs15:w12.cell? ⟨gb135,1,none⟩=some (.int .i64 0):=zc1 BK135;have hfs15:=zf BK135 1;have hns15_0:=NB134_135.out;have hms15_0:=NB135_134.out;have hs16:w12.cell? ⟨gb135,2,none⟩=some (.slice none 0 0):=zc2 BK135;have hfs16:=zf BK135 2;have hns16_0:=NB134_135.out;have hms16_0:=NB135_134.out;have hs17:w12.cell? ⟨gb135,3,none⟩=some (.int .i64 0):=zc3 BK135;have hfs17:=zf BK135 3;have hns17_0:=NB134_135.out;have hms17_0:=NB135_134.out;have hs18:w12.cell? ⟨gb135,4,none⟩=some (.int .i64 0):=zc4 BK135;have hfs18:=zf BK135 4;have hns18_0:=NB134_135.out;have hms18_0:=NB135_134.out;refine skip_ (w1:=?_) (by rfl) rfl ?_ ?_;rotate_left
 ·go_simp
  rfl
 refine hK.out _ _ (zcf hHeld NB134_135) (fun hHeld=>?_);clear hK K;refine done_ (done_of HT_.out (by kernel_rfl)) ?_
 try go_wp2
 refine bodyPost_ret (results_cell_row rfl _ _ gb135 68 #[.int .i64 a0_0,.int .i64 a0_1,.slice Ao13 y143.length co13,.int .i64 a0_3,.int .i64 a0_4] (0,0) _ rfl ?hz Try.underlying68 rfl (by kernel_rfl)) rfl ?_;(case hz=>exact zpb BK135);exact⟨_,ze,by(with_reducible repeat(first|apply Kd.R_alloc|apply Kd.R_drewN|apply Kd.R_drew));exact Kd.R_mono (Kd.R_far (p:=⟨gb135,4,none⟩) (Kd.R_far (p:=⟨gb135,3,none⟩) (Kd.R_far (p:=⟨gb135,2,none⟩) (Kd.R_far (p:=⟨gb135,1,none⟩) (Kd.R_far (p:=⟨gb135,0,none⟩) (Kd.R_types HO145.out BK135.out (by decide)) (fun _ hk=>hk.2) (.int .i64 a0_0)) (fun _ hk=>hk.2) (.int .i64 a0_1)) (fun _ hk=>hk.2) (.slice Ao13 y143.length co13)) (fun _ hk=>hk.2) (.int .i64 a0_3)) (fun _ hk=>hk.2) (.int .i64 a0_4)) (fun _ hk=>trivial),zs2 HB GE134 GE135⟩
def spec_l21Max.f (a0:Int) (a1:Int):Option (Int):=if a0>a1 then(some a0)else(some a1)
set_option maxHeartbeats 8000000 in
set_option maxRecDepth 100000 in
theorem spec_l21Max.calls (a0:Int) (a1:Int) (r:Int) (w:World) (h:spec_l21Max.f a0 a1=some r):
 Calls Try.prog 130 #[.int .i64 a0,.int .i64 a1] w fun e w'=>e= .returned (.int .i64 r)∧Drawn0 w w':=by
 have H:=h;clear h;unfold spec_l21Max.f at H
 by_cases c3:a0>a1
 ·rw[if_pos c3]at H
  have c3b0:decide (a1<a0)=true:=decide_eq_true c3;clear c3;obtain rfl:=Option.some.inj H
  go_enter Try.func130,Try.ntmps130
  go_wp2
  go_ret;exact⟨by first|rfl|(simp;done)|(simp[*];done),by repeat(first|exact Drawn0.refl _|apply Drawn0.step)⟩
 rw[if_neg c3]at H;have c3b0:decide (a1<a0)=false:=decide_eq_false c3;clear c3;obtain rfl:=Option.some.inj H
 go_enter Try.func130,Try.ntmps130
 go_wp2
 go_ret;exact⟨by first|rfl|(simp;done)|(simp[*];done),by repeat(first|exact Drawn0.refl _|apply Drawn0.step)⟩
def spec_l22Copy.f (a0_0:Int) (a0_1:Int) (l0_2:List (S132)) (a0_3:Int) (a0_4:Int):Option (Int×Int×(List (S132))×Int×Int):=(some (([]:List (S132)):List (S132))).bind fun y148=>(if y148.length+l0_2.length<2513169434916 then(some (a0_0,a0_1,(y148++l0_2),a0_3,a0_4))else(none))
set_option maxHeartbeats 8000000 in
set_option maxRecDepth 100000 in
theorem spec_l22Copy.calls (a0_0:Int) (a0_1:Int) (A0_2:Option Addr) (c0_2:Nat) (l0_2:List (S132)) (a0_3:Int) (a0_4:Int) (r1:Int) (r2:Int) (r3:List (S132)) (r4:Int) (r5:Int) (w:World) (hr0_2:Kd.C k132 w A0_2 l0_2.length l0_2) (hc0_2:l0_2.length≤c0_2) (h:spec_l22Copy.f a0_0 a0_1 l0_2 a0_3 a0_4=some (r1,r2,r3,r4,r5)):
 Calls Try.prog 156 #[.agg #[.int .i64 a0_0,.int .i64 a0_1,.slice A0_2 l0_2.length c0_2,.int .i64 a0_3,.int .i64 a0_4]] w fun e w'=> ∃v2_:Value,e= .returned (.agg #[.int .i64 r1,.int .i64 r2,v2_,.int .i64 r4,.int .i64 r5])∧Kd.R k132 132 w' w.heap.size (fun _=>True) v2_ r3∧Below w.heap.size w w':=by
 have hu68:=Try.underlying68;have HR0_2:=zA hr0_2;have HC0_2:=zA hc0_2;clear hr0_2 hc0_2;have HB:=zA (Below.refl w.heap.size w);have H:=h;clear h;unfold spec_l22Copy.f at H;obtain⟨y148,hy148⟩: ∃y_:List (S132),y_=(([]:List (S132))):=⟨_,rfl⟩
 replace H:(if y148.length+l0_2.length<2513169434916 then(some (a0_0,a0_1,(y148++l0_2),a0_3,a0_4))else(none))=some (r1,r2,r3,r4,r5):=by first|(rw[hy148];with_reducible exact H)|(have H2_:=(Option.bind_some _ _).symm.trans H;rw[hy148];with_reducible exact H2_)|(have H2_:=(Option.bind_some _ _).symm.trans H;with_reducible exact H2_)|with_reducible exact H|(rw[hy148];exact H)|exact H
 have Ny148:=zA hy148;clear hy148
 by_cases c2:y148.length+l0_2.length<2513169434916
 rotate_left
 ·rw[if_neg c2]at H
  exact absurd H (by simp)
 rw[if_pos c2]at H;have LMc2:=zA c2;clear c2;obtain⟨y151,hy151⟩: ∃y_:List (S132),y_=(y148++l0_2):=⟨_,rfl⟩
 replace H:(some (a0_0,a0_1,y151,a0_3,a0_4))=some (r1,r2,r3,r4,r5):=by first|(rw[hy151];with_reducible exact H)|(have H2_:=(Option.bind_some _ _).symm.trans H;rw[hy151];with_reducible exact H2_)|(have H2_:=(Option.bind_some _ _).symm.trans H;with_reducible exact H2_)|with_reducible exact H|(rw[hy151];exact H)|exact H
 have Ny151:=zA hy151;clear hy151;simp only[Option.some.injEq,Prod.mk.injEq]at H;obtain⟨rfl,rfl,rfl,rfl,rfl⟩:=H
 go_enter Try.func156,Try.ntmps156
 go_wp2_with (first|((with_reducible refine gate_dst (N:=1) rfl ?_);refine zbx 1 #[.int .i64 a0_0,.int .i64 a0_1,.slice A0_2 l0_2.length c0_2,.int .i64 a0_3,.int .i64 a0_4] 68 ?_;intro gb146 hg w3 hbox hb;have BK146:=zA hbox;have GW146:=zgs hg (zs0 HB);have GE146:=zgs hg (zs0 HB);replace HB:=zE (zs0 HB) hb;clear hb hbox hg)|((with_reducible refine gate_dst (N:=2) rfl ?_);refine zbx 2 #[.int .i64 0,.int .i64 0,.slice none 0 0,.int .i64 0,.int .i64 0] 68 ?_;intro gb147 hg w4 hbox hb;have BK147:=zA hbox;have GW147:=zgs hg (zs1 HB GE146);have GE147:=zgs hg (zs1 HB GE146);have NB146_147:=zne hg BK146;have NB147_146:=znf hg BK146;replace BK146:=zb BK146 hb;replace HB:=zE (zs1 HB GE146) hb;clear hb hbox hg)|((with_reducible refine gate_dst (N:=3) rfl ?_);refine Kd.R_lit k132 _ 132 ?hg (N:=3) ?hd (xs:=([]:List (S132))) (inner:=[]) (ok:=fun _=>True) (okp:=fun _=>True) ?hr ?hp (fun _ hk=>hk) trivial (Below.refl _ _) (Nat.le_refl _) (by simp) ?_;(case hd=>rfl);(case hg=>rfl);(case hr=>first|(go_simp;done)|(go_simp;rfl));(case hp=>exact(Reps.none _ _));intro v149 w5 ho6 hb hg_ hnew_;clear hg_ hnew_;(first|rw[←Ny148.out]at ho6|(simp only[Int.reduceToNat]at ho6;rw[←Ny148.out]at ho6));have HO150:=zA (Kd.R_lower ho6 (below_size (zs2 HB GE146 GE147)));replace BK146:=zb BK146 hb;replace BK147:=zb BK147 hb;replace HB:=zE (zs2 HB GE146 GE147) hb;clear hb ho6;have hnb7:=NB146_147.out;have hnc7:=NB147_146.out;obtain⟨hcz8_0,hcz8_1,hcz8_2,hcz8_3,hcz8_4⟩:=zd5 BK146;obtain⟨hfz8_0,hfz8_1,hfz8_2,hfz8_3,hfz8_4⟩:=zn5 BK146)|((with_reducible refine gate_builtin (b:= .append) (xs:=#[.tmp 3,.tmp 5]) rfl ?_);at_builtin;refine Kd.R_append_rows k132 (w0:=w) w.heap.size rfl (.tmp 3) (.tmp 5) 66 132 (.agg #[(.int .i64 0),(.int .i64 0),(.int .i64 0),(.int .i64 0),(.int .i64 0),(.int .i64 0),(.bool false)]) 56 rfl Try.underlying66 info132 rfl (by decide) (by omega) v149 y148 l0_2 _ _ _ (fun _=>True) (fun _=>False) rfl rfl ?aO ?aR (fun _ _ h=>h) (fun _ h=>h.elim) ?aF ?aB ?aS ?aL ?_;(case aR=>repeat(first|exact(Kd.C_below HR0_2.out HB.out)|(with_reducible refine Kd.C_alloc ?_ _)|(with_reducible refine Kd.C_drewN ?_ _)|(with_reducible refine Kd.C_drew ?_)));(case aB=>exact(zs2 HB GE146 GE147));(case aF=>exact(fun _ _=>trivial));(case aO=>exact(zr HO150));(case aS=>exact(below_size (zs2 HB GE146 GE147)));(case aL=>have:=LMc2.out;omega);intro v152 w9 ho hb hg hat;rw[←Ny151.out]at ho;have HO153:=zA (ho);replace BK146:=zA (blk_grown (g:=gb146) (o:= .cells #[.int .i64 a0_0,.int .i64 a0_1,.slice A0_2 l0_2.length c0_2,.int .i64 a0_3,.int .i64 a0_4] 68 (0,0)) (zh BK146) hg (Kd.R_ne HO150.out BK146.out (by decide)));replace BK147:=zA (blk_grown (g:=gb147) (o:= .cells #[.int .i64 0,.int .i64 0,.slice none 0 0,.int .i64 0,.int .i64 0] 68 (0,0)) (zh BK147) hg (Kd.R_ne HO150.out BK147.out (by decide)));replace HB:=zA (hb);clear HO150;clear ho hb hg hat;obtain⟨Ao10,co10,eo10⟩:=Kd.R_slice HO153.out;subst eo10;obtain⟨hcz11_0,hcz11_1,hcz11_2,hcz11_3,hcz11_4⟩:=zd5 BK146;obtain⟨hfz11_0,hfz11_1,hfz11_2,hfz11_3,hfz11_4⟩:=zn5 BK146;obtain⟨hcz12_0,hcz12_1,hcz12_2,hcz12_3,hcz12_4⟩:=zd5 BK147;obtain⟨hfz12_0,hfz12_1,hfz12_2,hfz12_3,hfz12_4⟩:=zn5 BK147))
 refine bodyPost_ret (results_cell_row rfl _ _ gb147 68 #[.int .i64 a0_0,.int .i64 a0_1,.slice Ao10 y151.length co10,.int .i64 a0_3,.int .i64 a0_4] (0,0) _ rfl ?hz Try.underlying68 rfl (by kernel_rfl)) rfl ?_;(case hz=>exact zpf BK147 NB147_146);exact⟨_,ze,by(with_reducible repeat(first|apply Kd.R_alloc|apply Kd.R_drewN|apply Kd.R_drew));exact Kd.R_mono (Kd.R_far (p:=⟨gb147,4,none⟩) (Kd.R_far (p:=⟨gb147,3,none⟩) (Kd.R_far (p:=⟨gb147,2,none⟩) (Kd.R_far (p:=⟨gb147,1,none⟩) (Kd.R_far (p:=⟨gb147,0,none⟩) (Kd.R_far (p:=⟨gb146,2,none⟩) (Kd.R_types (Kd.R_types HO153.out BK146.out (by decide)) BK147.out (by decide)) (fun _ hk=>hk.1.2) (.slice Ao10 y151.length co10)) (fun _ hk=>hk.2) (.int .i64 a0_0)) (fun _ hk=>hk.2) (.int .i64 a0_1)) (fun _ hk=>hk.2) (.slice Ao10 y151.length co10)) (fun _ hk=>hk.2) (.int .i64 a0_3)) (fun _ hk=>hk.2) (.int .i64 a0_4)) (fun _ hk=>trivial),zs2 HB GE146 GE147⟩
end Go.Proofs.Ytbmplfpnhjhoiaa.QFnExactFlyMayTurn
