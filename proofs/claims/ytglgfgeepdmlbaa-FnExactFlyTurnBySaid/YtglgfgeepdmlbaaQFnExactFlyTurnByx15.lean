/- The walk of what the law FnExactFlyTurnBy reaches: laid by a program of this session (ownprint.py). -/
import Derived.Test.YtglgfgeepdmlbaaQFnExactFlyTurnByx0
import Derived.Test.YtglgfgeepdmlbaaQFnExactFlyTurnByx14
namespace Go.Proofs.Ytglgfgeepdmlbaa.QFnExactFlyTurnBy
open Go.RowKit Go.Proofs.YtglgfgeepdmlbaaW.PrintWords Go.Proofs.YtglgfgeepdmlbaaW.PrintLast Go.Proofs.YtglgfgeepdmlbaaW.PrintMore Go.Proofs.Ytglgfgeepdmlbaa.Z
attribute [local go_sem] max2_int min2_int max_two min_two max_three min_three max_four min_four zdn   -- for this text's walks alone
set_option linter.unusedVariables false
set_option linter.unusedSimpArgs false
def laws_toFlyStepS.l0:Nat→List (S60)→List (S53)→Int→Option ((List (S53)))
 |0,_,_,_=>none
 |k+1,x0,x3,x4=>if x4<(x0.length:Int)then(if 0≤x4 then((laws_toFlyStep.f ((rd_T60 x0 x4).f0) ((rd_T60 x0 x4).f1) ((rd_T60 x0 x4).f2) ((rd_T60 x0 x4).f3) ((rd_T60 x0 x4).f4) ((rd_T60 x0 x4).f5) ((rd_T60 x0 x4).f6)).bind fun a0=>(if x4<(x3.length:Int)then(laws_toFlyStepS.l0 k x0 (x3.set (x4:Int).toNat (⟨a0.1,a0.2.1,a0.2.2.1,a0.2.2.2.1,a0.2.2.2.2.1,a0.2.2.2.2.2.1,a0.2.2.2.2.2.2⟩:S53)) (wrap64 (x4+1)))else(none)))else(none))else(some x3)
def laws_toFlyStepS.f (k:Nat) (l0:List (S60)):Option ((List (S53))):=if 0≤(l0.length:Int)then(if((l0.length:Int):Int).toNat≤5026338869833 then(laws_toFlyStepS.l0 k l0 (List.replicate ((l0.length:Int):Int).toNat z53) 0)else(none))else(none)
set_option maxHeartbeats 8000000 in
set_option maxRecDepth 100000 in
theorem laws_toFlyStepS.calls (k:Nat) (A0:Option Addr) (c0:Nat) (l0:List (S60)) (r:List (S53)) (w:World) (hr0:Kd.C k60 w A0 l0.length l0) (hc0:l0.length≤c0) (h:laws_toFlyStepS.f k l0=some r):
 Calls Try.prog 15 #[.slice A0 l0.length c0] w fun e w'=> ∃v0_:Value,e= .returned (v0_)∧Kd.R k53 53 w' w.heap.size (fun _=>True) v0_ r∧Below w.heap.size w w':=by
 have j8:=Try.underlying60;have j9:=Try.underlying53;have k0:=zA hr0;have k7:=zA hc0;clear hr0 hc0;have HB:=zA (Below.refl w.heap.size w);have H:=h;clear h;unfold laws_toFlyStepS.f at H
 by_cases c2:0≤(l0.length:Int)
 rotate_left
 ·rw[if_neg c2]at H
  exact absurd H (by simp)
 rw[if_pos c2]at H;have g8:=eq_true c2;have g9:decide (0≤(l0.length:Int))=true:=decide_eq_true c2;clear c2
 by_cases c3:((l0.length:Int):Int).toNat≤5026338869833
 rotate_left
 ·rw[if_neg c3]at H
  exact absurd H (by simp)
 rw[if_pos c3]at H;have h0:=eq_true c3;have h1:decide (((l0.length:Int):Int).toNat≤5026338869833)=true:=decide_eq_true c3;clear c3;obtain⟨g1,a7⟩: ∃y_:List (S53),y_=(List.replicate ((l0.length:Int):Int).toNat z53):=⟨_,rfl⟩
 replace H:(laws_toFlyStepS.l0 k l0 g1 0)=some r:=by first|(rw[a7];with_reducible exact H)|(have H2_:=(Option.bind_some _ _).symm.trans H;rw[a7];with_reducible exact H2_)|(have H2_:=(Option.bind_some _ _).symm.trans H;with_reducible exact H2_)|with_reducible exact H|(rw[a7];exact H)|exact H
 have d4:=zA a7;clear a7;have H':=zA H;clear H
 go_enter Try.func15,Try.ntmps15
 go_wp2_with (first|((with_reducible refine gate_dst (N:=7) rfl ?_);refine Kd.R_make k53 _ 53 rfl (N:=7) rfl 30 _ _ rfl (l0.length:Int) rfl rfl Try.underlying30 (.agg #[(.int .i64 0),(.int .i64 0),(.int .i64 0),(.int .i64 0),(.int .i64 0),(.int .i64 0),(.bool false)]) 56 info53 rfl (by decide) (by omega) z53 (ok:=fun _=>True) (okp:=fun _=>True) (k53_mkM _ _ _ z53) (fun _ hk=>hk) trivial (za) (Nat.le_trans (Nat.mul_le_mul_right _ (za:(l0.length:Int).toNat≤5026338869833)) (by omega)) (Below.refl _ _) (Nat.le_refl _) ?_;intro h2 w4 g2 hb hg_ hnew_;clear hg_ hnew_;(first|rw[←d4.out]at g2|(simp only[Int.reduceToNat]at g2;rw[←d4.out]at g2));have g3:=zA (Kd.R_lower g2 (below_size (zs0 HB)));replace HB:=zE (zs0 HB) hb;clear hb g2))
 go_loopg [4] k (fun kq v4 w'=> ∃(a2:List (S53)) (a0:Int),v4= .int .i64 a0∧Aside0 (laws_toFlyStepS.l0 kq l0 a2 a0=some r)∧Aside0 (kq≤k)∧Aside0 (Kd.R k53 53 w' w.heap.size (fun _=>True) h2 a2)∧Aside0 (Below w.heap.size w w'))
 case atStart=>exact⟨(g1),(0),zi,H',⟨Nat.le_refl _⟩,⟨zr g3⟩,⟨zs0 HB⟩⟩
 case round=>
  clear H'
  try clear c1
  try clear c2
  try clear g8
  try clear g9
  try clear p2
  try clear c3
  try clear h0
  try clear h1
  obtain⟨a2,a0,rfl,HA,j5,HO_3,HB⟩:=hrel
  cases gk with
  |zero=>exact absurd HA.out (by simp[laws_toFlyStepS.l0])
  |succ k1=>
   have H:=HA.out;clear HA;simp only[laws_toFlyStepS.l0]at H
   by_cases c6:a0<(l0.length:Int)
   rotate_left
   ·rw[if_neg c6]at H
    have h3:decide (a0<(l0.length:Int))=false:=decide_eq_false c6;clear c6;obtain rfl:=Option.some.inj H
    go_wp2
    go_ret;exact⟨_,ze,zr HO_3,zs0 HB⟩
   rw[if_pos c6]at H;have h3:decide (a0<(l0.length:Int))=true:=decide_eq_true c6;clear c6;replace H:=zif H;obtain⟨k2,H⟩:=H;replace H:=Option.bind_eq_some_iff.mp H;obtain⟨⟨b0,b1,b2,b3,b4,b5,b6⟩,j6,H⟩:=H;replace H:(if a0<(a2.length:Int)then(laws_toFlyStepS.l0 k1 l0 (a2.set (a0:Int).toNat (⟨b0,b1,b2,b3,b4,b5,b6⟩:S53)) (wrap64 (a0+1)))else(none))=some r:=H;have A8:=zA j6;clear j6;replace H:=zif H;obtain⟨k3,H⟩:=H;obtain⟨d6,a8⟩: ∃y_:List (S53),y_=(a2.set (a0:Int).toNat (⟨b0,b1,b2,b3,b4,b5,b6⟩:S53)):=⟨_,rfl⟩
   replace H:(laws_toFlyStepS.l0 k1 l0 d6 (wrap64 (a0+1)))=some r:=by first|(rw[a8];with_reducible exact H)|(have H2_:=(Option.bind_some _ _).symm.trans H;rw[a8];with_reducible exact H2_)|(have H2_:=(Option.bind_some _ _).symm.trans H;with_reducible exact H2_)|with_reducible exact H|(rw[a8];exact H)|exact H
   have g4:=zA a8;clear a8;have H':=zA H;clear H;have d7:0≤(a0:Int):=za;have d8:a0<(l0.length:Int):=za;obtain⟨j7,h4,b7,b8,b9,d0,d1,d2,d3⟩:=at_T60 k0.out a0 d7 d8;cases h4;replace b7:=zx HB b7;replace b8:=zx HB b8;replace b9:=zx HB b9;replace d0:=zx HB d0;replace d1:=zx HB d1;replace d2:=zx HB d2;replace d3:=zx HB d3;replace d7:=eq_true d7;replace d8:=eq_true d8
   go_wp2_with (first|((with_reducible refine gate_callee (f:=27) rfl ?_);refine zgl (N:=some 20) Try.func27 #[.agg #[.int .i64 ((rd_T60 l0 a0).f0),.int .i64 ((rd_T60 l0 a0).f1),.int .i64 ((rd_T60 l0 a0).f2),.int .i64 ((rd_T60 l0 a0).f3),.int .i64 ((rd_T60 l0 a0).f4),.int .i64 ((rd_T60 l0 a0).f5),.bool ((rd_T60 l0 a0).f6)]] ?_;(with_reducible refine(laws_toFlyStep.calls ((rd_T60 l0 a0).f0) ((rd_T60 l0 a0).f1) ((rd_T60 l0 a0).f2) ((rd_T60 l0 a0).f3) ((rd_T60 l0 a0).f4) ((rd_T60 l0 a0).f5) ((rd_T60 l0 a0).f6) b0 b1 b2 b3 b4 b5 b6 _ A8.out).mono ?_);rintro e a9 ⟨rfl,hb⟩;refine⟨_,rfl,?_⟩;replace HO_3:=zA (Kd.R_below (zr HO_3) hb);replace HB:=zE (zs0 HB) hb;(try clear hb);(try clear hb2);(try clear hk);(try clear hi);have h5:0≤(a0:Int):=za;have h6:(a0:Int)<((a2.length:Int):Int):=za;obtain⟨a1,co10,g5,g6,gl10,cl10,HG10⟩:=Kd.R_form HO_3.out (by omega);(first|cases g5|(injection g5 with ea_ en_ ec_;(first|subst ea_|(injection ea_ with ea_;subst ea_));subst ec_;clear en_));have GB10:=zA g6;have k4:=zA HG10;clear g6 gl10 HG10;obtain⟨k5,g7,hM10,a4,a5⟩:=Kd.R_elem HO_3.out z53 (a0:Int) h5 h6;obtain rfl:=k53_openM hM10;have h7:a9.cell? ⟨a1,(a0:Int).toNat*7,none⟩=some (.int .i64 ((rd_T53 a2 a0).f0)):=a4 0 _ rfl;have h8:a9.cell? ⟨a1,(a0:Int).toNat*7+1,none⟩=some (.int .i64 ((rd_T53 a2 a0).f1)):=a4 1 _ rfl;have h9:a9.cell? ⟨a1,(a0:Int).toNat*7+2,none⟩=some (.int .i64 ((rd_T53 a2 a0).f2)):=a4 2 _ rfl;have i0:a9.cell? ⟨a1,(a0:Int).toNat*7+3,none⟩=some (.int .i64 ((rd_T53 a2 a0).f3)):=a4 3 _ rfl;have i1:a9.cell? ⟨a1,(a0:Int).toNat*7+4,none⟩=some (.int .i64 ((rd_T53 a2 a0).f4)):=a4 4 _ rfl;have i2:a9.cell? ⟨a1,(a0:Int).toNat*7+5,none⟩=some (.int .i64 ((rd_T53 a2 a0).f5)):=a4 5 _ rfl;have i3:a9.cell? ⟨a1,(a0:Int).toNat*7+6,none⟩=some (.bool ((rd_T53 a2 a0).f6)):=a4 6 _ rfl;have i4:a9.frozen? ⟨a1,(a0:Int).toNat*7,none⟩=false:=a5 0;have i5:a9.frozen? ⟨a1,(a0:Int).toNat*7+1,none⟩=false:=a5 1;have i6:a9.frozen? ⟨a1,(a0:Int).toNat*7+2,none⟩=false:=a5 2;have i7:a9.frozen? ⟨a1,(a0:Int).toNat*7+3,none⟩=false:=a5 3;have i8:a9.frozen? ⟨a1,(a0:Int).toNat*7+4,none⟩=false:=a5 4;have i9:a9.frozen? ⟨a1,(a0:Int).toNat*7+5,none⟩=false:=a5 5;have j1:a9.frozen? ⟨a1,(a0:Int).toNat*7+6,none⟩=false:=a5 6;clear g7 a4 a5 hM10;replace h5:=eq_true h5;replace h6:=eq_true h6;have HX12:=zA (show Kd.R k53 53 a9 w.heap.size (fun _=>True) (.slice (some ⟨a1,0,none⟩) a2.length co10) a2 from(zr HO_3));obtain⟨k6,d5,hM12,a3,a6⟩:=Kd.R_elem HX12.out z53 (a0:Int) (za) (by have h_:(a0:Int)<((a2.length:Int):Int):=za;first|exact h_|(have e_:=(Kd.R_reads' HO_3.out).1;omega)|simpa using h_);obtain rfl:=k53_openM hM12;have d9:=Kd.R_seg HX12.out (a0:Int) (za) (by have h_:(a0:Int)<((a2.length:Int):Int):=za;first|exact h_|(have e_:=(Kd.R_reads' HO_3.out).1;omega)|simpa using h_) (seg:=[.int .i64 b0,.int .i64 b1,.int .i64 b2,.int .i64 b3,.int .i64 b4,.int .i64 b5,.bool b6]) (j:=0) d5 a3 (show 7≤7 from by decide) (x':=(⟨b0,b1,b2,b3,b4,b5,b6⟩:S53)) (k53_mkM _ _ _ (⟨b0,b1,b2,b3,b4,b5,b6⟩:S53)) (fun _ hk=>hk);have e0:=a3 0 _ rfl;(try simp only[show(k53).sz=7 from rfl,Nat.mul_one,Nat.add_zero]at e0);have e1:=a6 0;(try simp only[show(k53).sz=7 from rfl,Nat.mul_one,Nat.add_zero]at e1);have e2:=a3 1 _ rfl;(try simp only[show(k53).sz=7 from rfl,Nat.mul_one,Nat.add_zero]at e2);have e3:=a6 1;(try simp only[show(k53).sz=7 from rfl,Nat.mul_one,Nat.add_zero]at e3);have e4:=a3 2 _ rfl;(try simp only[show(k53).sz=7 from rfl,Nat.mul_one,Nat.add_zero]at e4);have e5:=a6 2;(try simp only[show(k53).sz=7 from rfl,Nat.mul_one,Nat.add_zero]at e5);have e6:=a3 3 _ rfl;(try simp only[show(k53).sz=7 from rfl,Nat.mul_one,Nat.add_zero]at e6);have e7:=a6 3;(try simp only[show(k53).sz=7 from rfl,Nat.mul_one,Nat.add_zero]at e7);have e8:=a3 4 _ rfl;(try simp only[show(k53).sz=7 from rfl,Nat.mul_one,Nat.add_zero]at e8);have e9:=a6 4;(try simp only[show(k53).sz=7 from rfl,Nat.mul_one,Nat.add_zero]at e9);have f7:=a3 5 _ rfl;(try simp only[show(k53).sz=7 from rfl,Nat.mul_one,Nat.add_zero]at f7);have f8:=a6 5;(try simp only[show(k53).sz=7 from rfl,Nat.mul_one,Nat.add_zero]at f8);have f9:=a3 6 _ rfl;(try simp only[show(k53).sz=7 from rfl,Nat.mul_one,Nat.add_zero]at f9);have g0:=a6 6;(try simp only[show(k53).sz=7 from rfl,Nat.mul_one,Nat.add_zero]at g0);clear d5 a3 a6 hM12)|((with_reducible refine gate_store (t:=53) (p:=21) rfl ?_);refine store_event (t:=53) (p:=21) (v:=?vo_w13) (w1:=(((((((a9.setCell ⟨a1,(a0:Int).toNat*7,none⟩ (.int .i64 b0)).setCell ⟨a1,(a0:Int).toNat*7+1,none⟩ (.int .i64 b1)).setCell ⟨a1,(a0:Int).toNat*7+2,none⟩ (.int .i64 b2)).setCell ⟨a1,(a0:Int).toNat*7+3,none⟩ (.int .i64 b3)).setCell ⟨a1,(a0:Int).toNat*7+4,none⟩ (.int .i64 b4)).setCell ⟨a1,(a0:Int).toNat*7+5,none⟩ (.int .i64 b5)).setCell ⟨a1,(a0:Int).toNat*7+6,none⟩ (.bool b6))) ?hg ?ho ?hn ?hr ?_;(case ho=>rfl);(case hg=>rfl);(case hn=>rfl);(case hr=>first|(go_simp;done)|(go_simp;rfl));intro j4 hw;have hg:a9.grownBy j4 (some a1):=(by rw[hw];exact d9.2);have hp_:Kd.R k53 53 j4 w.heap.size (fun _=>True) (.slice (some ⟨a1,0,none⟩) a2.length co10) d6:=(by rw[hw,g4.out];exact d9.1);clear d9;replace HO_3:=zA (hp_);replace HB:=zA ((by rw[hw];exact below_set (below_set (below_set (below_set (below_set (below_set (below_set (HB.out) GB10.out) GB10.out) GB10.out) GB10.out) GB10.out) GB10.out) GB10.out:Below w.heap.size w j4));clear hg hw hp_))
   go_roundg k1
   case measure=>have:=j5.out;omega
   case rel=>exact⟨(d6),(wrap64 (a0+1)),zi,H',⟨by have:=j5.out;omega⟩,⟨zr HO_3⟩,⟨zs0 HB⟩⟩
def laws_toFlyPath.f (k:Nat) (a1:Int) (a2:Int) (a3:List (S60)) (a4:Int) (a5:Int):Option (Int×Int×(List (S53))×Int×Int):=(laws_toFlyKind.f a1 a2).bind fun a0=>((laws_toFlyStepS.f k a3).bind fun a6=>(some (a0.1,a0.2,a6,a4,a5)))
set_option maxHeartbeats 8000000 in
set_option maxRecDepth 100000 in
theorem laws_toFlyPath.calls (k:Nat) (b3:Int) (b4:Int) (c0:Option Addr) (c1:Nat) (a7:List (S60)) (a9:Int) (b0:Int) (r1:Int) (r2:Int) (r3:List (S53)) (r4:Int) (r5:Int) (w:World) (hr0_2:Kd.C k60 w c0 a7.length a7) (hc0_2:a7.length≤c1) (h:laws_toFlyPath.f k b3 b4 a7 a9 b0=some (r1,r2,r3,r4,r5)):
 Calls Try.prog 6 #[.agg #[.int .i64 b3,.int .i64 b4,.slice c0 a7.length c1,.int .i64 a9,.int .i64 b0]] w fun e w'=> ∃v2_:Value,e= .returned (.agg #[.int .i64 r1,.int .i64 r2,v2_,.int .i64 r4,.int .i64 r5])∧Kd.R k53 53 w' w.heap.size (fun _=>True) v2_ r3∧Below w.heap.size w w':=by
 have k7:=Try.underlying26;have k8:=Try.underlying32;have k9:=Try.underlying23;have l4:=Try.underlying29;have d3:=zA hr0_2;have d4:=zA hc0_2;clear hr0_2 hc0_2;have HB:=zA (Below.refl w.heap.size w);have H:=h;clear h;unfold laws_toFlyPath.f at H;replace H:=Option.bind_eq_some_iff.mp H;obtain⟨⟨d0,d1⟩,k0,H⟩:=H;replace H:((laws_toFlyStepS.f k a7).bind fun b5=>(some (d0,d1,b5,a9,b0)))=some (r1,r2,r3,r4,r5):=H;have A2:=zA k0;clear k0;replace H:=zbd H;obtain⟨b5,A3,H⟩:=H;simp only[Option.some.injEq,Prod.mk.injEq]at H;obtain⟨rfl,rfl,rfl,rfl,rfl⟩:=H
 go_enter Try.func6,Try.ntmps6
 go_wp2_with (first|((with_reducible refine gate_dst (N:=1) rfl ?_);refine zbx 1 #[.int .i64 b3,.int .i64 b4,.slice c0 a7.length c1,.int .i64 a9,.int .i64 b0] 26 ?_;intro d5 hg w4 hbox hb;have a0:=zA hbox;have k1:=zgs hg (zs0 HB);have a2:=zgs hg (zs0 HB);replace HB:=zE (zs0 HB) hb;clear hb hbox hg)|((with_reducible refine gate_dst (N:=2) rfl ?_);refine zbx 2 #[.int .i64 0,.int .i64 0,.slice none 0 0,.int .i64 0,.int .i64 0] 32 ?_;intro a6 hg w5 hbox hb;have a1:=zA hbox;have k2:=zgs hg (zs1 HB a2);have a5:=zgs hg (zs1 HB a2);have b6:=zne hg a0;have b7:=znf hg a0;replace a0:=zb a0 hb;replace HB:=zE (zs1 HB a2) hb;clear hb hbox hg)|((with_reducible refine gate_dst (N:=3) rfl ?_);refine zbx 3 #[.int .i64 0,.int .i64 0,.slice none 0 0,.int .i64 0,.int .i64 0] 32 ?_;intro b2 hg w6 hbox hb;have a3:=zA hbox;have k3:=zgs hg (zs2 HB a2 a5);have b1:=zgs hg (zs2 HB a2 a5);have a8:=zne hg a0;have b8:=znf hg a0;have a4:=zne hg a1;have b9:=znf hg a1;replace a0:=zb a0 hb;replace a1:=zb a1 hb;replace HB:=zE (zs2 HB a2 a5) hb;clear hb hbox hg;have l5:=b6.out;have l6:=b7.out;have l7:=a8.out;have l8:=b8.out;obtain⟨i6,i7,i8,i9,j1⟩:=zd5 a0;obtain⟨j4,j5,j6,j7,j8⟩:=zn5 a0)|((with_reducible refine gate_callee (f:=14) rfl ?_);refine zgl (N:=some 6) Try.func14 #[.agg #[.int .i64 b3,.int .i64 b4]] ?_;(with_reducible refine(laws_toFlyKind.calls b3 b4 d0 d1 _ A2.out).mono ?_);rintro e m0 ⟨rfl,hb⟩;refine⟨_,rfl,?_⟩;replace a0:=zb a0 hb;replace a1:=zb a1 hb;replace a3:=zb a3 hb;replace HB:=zE (zs3 HB a2 a5 b1) hb;(try clear hb);(try clear hb2);(try clear hk);(try clear hi);have k4:=b9.out;have k5:=a4.out;obtain⟨d6,d7,d8,d9,e0⟩:=zd5 a3;obtain⟨e1,e2,e3,e4,e5⟩:=zn5 a3;obtain⟨e6,e7,e8,e9,f0⟩:=zd5 a0;obtain⟨f1,f2,f3,f4,f5⟩:=zn5 a0)|((with_reducible refine gate_callee (f:=15) rfl ?_);refine zgl (N:=some 10) Try.func15 #[.slice c0 a7.length c1] ?_;(with_reducible refine(laws_toFlyStepS.calls k _ _ a7 b5 _ ?side1 ?side2 A3.out).mono ?_);(case side1=>exact Kd.C_below d3.out (zs3 HB a2 a5 b1));(case side2=>exact d4.out);rintro e m1 ⟨l9,rfl,k6,hb⟩;refine⟨_,rfl,?_⟩;have d2:=zA (Kd.R_lower k6 (below_size (zs3 HB a2 a5 b1)));replace a0:=zA (blk_below (g:=d5) (o:= .cells #[.int .i64 b3,.int .i64 b4,.slice c0 a7.length c1,.int .i64 a9,.int .i64 b0] 26 (0,0)) (zpf a0 a8) hb);replace a1:=zA (blk_below (g:=a6) (o:= .cells #[.int .i64 0,.int .i64 0,.slice none 0 0,.int .i64 0,.int .i64 0] 32 (0,0)) (zpf a1 a4) hb);replace a3:=zA (blk_below (g:=b2) (o:= .cells #[.int .i64 d0,.int .i64 d1,.slice none 0 0,.int .i64 0,.int .i64 0] 32 (0,0)) (zpb a3) hb);replace HB:=zE (zs3 HB a2 a5 b1) hb;(try clear hb);(try clear hb2);(try clear hk);(try clear hi);(try clear k6);obtain⟨Ao15,co15,j9⟩:=Kd.R_slice d2.out;subst j9;obtain⟨f6,f7,f8,f9,g0⟩:=zd5 a3;obtain⟨g1,g2,g3,g4,g5⟩:=zn5 a3;obtain⟨g6,g7,g8,g9,h0⟩:=zd5 a0;obtain⟨h1,h2,h3,h4,h5⟩:=zn5 a0;obtain⟨h6,h7,h8,h9,i0⟩:=zd5 a1;obtain⟨i1,i2,i3,i4,i5⟩:=zn5 a1))
 refine bodyPost_ret (results_cell_row rfl _ _ a6 32 #[.int .i64 d0,.int .i64 d1,.slice Ao15 b5.length co15,.int .i64 a9,.int .i64 b0] (0,0) _ rfl ?hz Try.underlying32 rfl (by kernel_rfl)) rfl ?_;(case hz=>exact zpf a1 a4);exact⟨_,ze,by(with_reducible repeat(first|apply Kd.R_alloc|apply Kd.R_drewN|apply Kd.R_drew));exact Kd.R_mono (Kd.R_far (p:=⟨a6,4,none⟩) (Kd.R_far (p:=⟨a6,3,none⟩) (Kd.R_far (p:=⟨a6,2,none⟩) (Kd.R_far (p:=⟨a6,1,none⟩) (Kd.R_far (p:=⟨a6,0,none⟩) (Kd.R_far (p:=⟨b2,4,none⟩) (Kd.R_far (p:=⟨b2,3,none⟩) (Kd.R_far (p:=⟨b2,2,none⟩) (Kd.R_types (Kd.R_types d2.out a3.out (by decide)) a1.out (by decide)) (fun _ hk=>hk.1.2) (.slice Ao15 b5.length co15)) (fun _ hk=>hk.1.2) (.int .i64 a9)) (fun _ hk=>hk.1.2) (.int .i64 b0)) (fun _ hk=>hk.2) (.int .i64 d0)) (fun _ hk=>hk.2) (.int .i64 d1)) (fun _ hk=>hk.2) (.slice Ao15 b5.length co15)) (fun _ hk=>hk.2) (.int .i64 a9)) (fun _ hk=>hk.2) (.int .i64 b0)) (fun _ hk=>trivial),zs3 HB a2 a5 b1⟩
def impl_within.f (a0:Int) (a1:Int) (a2:Int):Option (Bool):=if a0≥a1 then(some (decide (a0≤a2)))else(some false)
set_option maxHeartbeats 8000000 in
set_option maxRecDepth 100000 in
theorem impl_within.calls (a0:Int) (a1:Int) (a2:Int) (r:Bool) (w:World) (h:impl_within.f a0 a1 a2=some r):
 Calls Try.prog 16 #[.int .i64 a0,.int .i64 a1,.int .i64 a2] w fun e w'=>e= .returned (.bool r)∧Drawn0 w w':=by
 have H:=h;clear h;unfold impl_within.f at H
 by_cases c4:a0≥a1
 ·rw[if_pos c4]at H
  have a3:decide (a1≤a0)=true:=decide_eq_true c4;clear c4;obtain rfl:=Option.some.inj H
  go_enter Try.func16,Try.ntmps16
  go_wp2
  go_ret;exact⟨by first|rfl|(simp;done)|(simp[*];done),by repeat(first|exact Drawn0.refl _|apply Drawn0.step)⟩
 rw[if_neg c4]at H;have a3:decide (a1≤a0)=false:=decide_eq_false c4;clear c4;obtain rfl:=Option.some.inj H
 go_enter Try.func16,Try.ntmps16
 go_wp2
 go_ret;exact⟨by first|rfl|(simp;done)|(simp[*];done),by repeat(first|exact Drawn0.refl _|apply Drawn0.step)⟩
def impl_FlyKindOk.f (a0:Int) (a1:Int):Option (Bool):=if 1≤a0 then(if a0≤a1 then(some (decide (a1≤50)))else(some false))else(some false)
set_option maxHeartbeats 8000000 in
set_option maxRecDepth 100000 in
theorem impl_FlyKindOk.calls (a1:Int) (a2:Int) (r:Bool) (w:World) (h:impl_FlyKindOk.f a1 a2=some r):
 Calls Try.prog 28 #[.agg #[.int .i64 a1,.int .i64 a2]] w fun e w'=>e= .returned (.bool r)∧Below w.heap.size w w':=by
 have c0:=Try.underlying29;have HB:=zA (Below.refl w.heap.size w);have H:=h;clear h;unfold impl_FlyKindOk.f at H
 by_cases c2:1≤a1
 rotate_left
 ·rw[if_neg c2]at H
  have a6:decide (1≤a1)=false:=decide_eq_false c2;clear c2;obtain rfl:=Option.some.inj H
  go_enter Try.func28,Try.ntmps28
  go_wp2_with (first|((with_reducible refine gate_dst (N:=1) rfl ?_);refine zbx 1 #[.int .i64 a1,.int .i64 a2] 29 ?_;intro a4 hg w8 hbox hb;have a0:=zA hbox;have a5:=zgs hg (zs0 HB);have a3:=zgs hg (zs0 HB);replace HB:=zE (zs0 HB) hb;clear hb hbox hg;obtain⟨a7,a8⟩:=zd2 a0;obtain⟨a9,b0⟩:=zn2 a0))
  go_ret;exact⟨ze,zs1 HB a3⟩
 rw[if_pos c2]at H;have a6:decide (1≤a1)=true:=decide_eq_true c2;clear c2
 by_cases c3:a1≤a2
 ·rw[if_pos c3]at H
  have b1:decide (a1≤a2)=true:=decide_eq_true c3;clear c3;obtain rfl:=Option.some.inj H
  go_enter Try.func28,Try.ntmps28
  go_wp2_with (first|((with_reducible refine gate_dst (N:=1) rfl ?_);refine zbx 1 #[.int .i64 a1,.int .i64 a2] 29 ?_;intro a4 hg w4 hbox hb;have a0:=zA hbox;have a5:=zgs hg (zs0 HB);have a3:=zgs hg (zs0 HB);replace HB:=zE (zs0 HB) hb;clear hb hbox hg;obtain⟨b2,b3⟩:=zd2 a0;obtain⟨b4,b5⟩:=zn2 a0))
  go_ret;exact⟨ze,zs1 HB a3⟩
 rw[if_neg c3]at H;have b1:decide (a1≤a2)=false:=decide_eq_false c3;clear c3;obtain rfl:=Option.some.inj H
 go_enter Try.func28,Try.ntmps28
 go_wp2_with (first|((with_reducible refine gate_dst (N:=1) rfl ?_);refine zbx 1 #[.int .i64 a1,.int .i64 a2] 29 ?_;intro a4 hg w6 hbox hb;have a0:=zA hbox;have a5:=zgs hg (zs0 HB);have a3:=zgs hg (zs0 HB);replace HB:=zE (zs0 HB) hb;clear hb hbox hg;obtain⟨b6,b7⟩:=zd2 a0;obtain⟨b8,b9⟩:=zn2 a0))
 go_ret;exact⟨ze,zs1 HB a3⟩
def impl_window.f (a0:Int) (a1:Int):Option (Bool):=if 0≤a0 then(if a0≤a1 then(some (decide (a1≤10000)))else(some false))else(some false)
set_option maxHeartbeats 8000000 in
set_option maxRecDepth 100000 in
theorem impl_window.calls (a0:Int) (a1:Int) (r:Bool) (w:World) (h:impl_window.f a0 a1=some r):
 Calls Try.prog 29 #[.int .i64 a0,.int .i64 a1] w fun e w'=>e= .returned (.bool r)∧Drawn0 w w':=by
 have H:=h;clear h;unfold impl_window.f at H
 by_cases c3:0≤a0
 rotate_left
 ·rw[if_neg c3]at H
  have a2:decide (0≤a0)=false:=decide_eq_false c3;clear c3;obtain rfl:=Option.some.inj H
  go_enter Try.func29,Try.ntmps29
  go_wp2
  go_ret;exact⟨by first|rfl|(simp;done)|(simp[*];done),by repeat(first|exact Drawn0.refl _|apply Drawn0.step)⟩
 rw[if_pos c3]at H;have a2:decide (0≤a0)=true:=decide_eq_true c3;clear c3
 by_cases c4:a0≤a1
 ·rw[if_pos c4]at H
  have a3:decide (a0≤a1)=true:=decide_eq_true c4;clear c4;obtain rfl:=Option.some.inj H
  go_enter Try.func29,Try.ntmps29
  go_wp2
  go_ret;exact⟨by first|rfl|(simp;done)|(simp[*];done),by repeat(first|exact Drawn0.refl _|apply Drawn0.step)⟩
 rw[if_neg c4]at H;have a3:decide (a0≤a1)=false:=decide_eq_false c4;clear c4;obtain rfl:=Option.some.inj H
 go_enter Try.func29,Try.ntmps29
 go_wp2
 go_ret;exact⟨by first|rfl|(simp;done)|(simp[*];done),by repeat(first|exact Drawn0.refl _|apply Drawn0.step)⟩
def impl_dist.f (a0:Int) (a1:Int):Option (Int):=if a0>a1 then(some (wrap64 (a0-a1)))else(some (wrap64 (a1-a0)))
set_option maxHeartbeats 8000000 in
set_option maxRecDepth 100000 in
theorem impl_dist.calls (a0:Int) (a1:Int) (r:Int) (w:World) (h:impl_dist.f a0 a1=some r):
 Calls Try.prog 30 #[.int .i64 a0,.int .i64 a1] w fun e w'=>e= .returned (.int .i64 r)∧Drawn0 w w':=by
 have H:=h;clear h;unfold impl_dist.f at H
 by_cases c3:a0>a1
 ·rw[if_pos c3]at H
  have a2:decide (a1<a0)=true:=decide_eq_true c3;clear c3;obtain rfl:=Option.some.inj H
  go_enter Try.func30,Try.ntmps30
  go_wp2
  go_ret;exact⟨by first|rfl|(simp;done)|(simp[*];done),by repeat(first|exact Drawn0.refl _|apply Drawn0.step)⟩
 rw[if_neg c3]at H;have a2:decide (a1<a0)=false:=decide_eq_false c3;clear c3;obtain rfl:=Option.some.inj H
 go_enter Try.func30,Try.ntmps30
 go_wp2
 go_ret;exact⟨by first|rfl|(simp;done)|(simp[*];done),by repeat(first|exact Drawn0.refl _|apply Drawn0.step)⟩
end Go.Proofs.Ytglgfgeepdmlbaa.QFnExactFlyTurnBy
