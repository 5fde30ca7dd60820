/- The walk of what the law FnFlyNext reaches: laid by a program of this session (ownprint.py). -/
import Derived.Test.YtkecbmgdmkmfgaaQFnFlyNextx0
import Derived.Test.YtkecbmgdmkmfgaaQFnFlyNextx2
import Derived.Test.YtkecbmgdmkmfgaaQFnFlyNextx15
namespace Go.Proofs.Ytkecbmgdmkmfgaa.QFnFlyNext
open Go.RowKit Go.Proofs.YtkecbmgdmkmfgaaW.PrintWords Go.Proofs.YtkecbmgdmkmfgaaW.PrintLast Go.Proofs.YtkecbmgdmkmfgaaW.PrintMore Go.Proofs.Ytkecbmgdmkmfgaa.Z
attribute [local go_sem] max2_int min2_int max_two min_two max_three min_three max_four min_four zdn   -- for this text's walks alone
set_option linter.unusedVariables false
set_option linter.unusedSimpArgs false
def spec_l30Asked.l0:Nat→List Int→List (S32)→Bool→Int→List Int→Int→Option (List Int×Int)
 |0,_,_,_,_,_,_=>none
 |k+1,x5,x6,x7,x8,a1,a0=>if x7=true then(if x8<(x6.length:Int)then(if 0≤x8 then((spec_l21Rd_pick.f k a1 a0 (wrap64 ((wrap64 (1+((rd_T32 x6 x8).f1)))-((rd_T32 x6 x8).f0)))).bind fun a2=>(if x5.length<17592186044416 then(spec_l30Asked.l0 k (x5++[wrap64 (((rd_T32 x6 x8).f0)+a2.1)]) x6 x7 (wrap64 (x8+1)) a1 a2.2)else(none)))else(none))else(some (x5,a0)))else(some (x5,a0))
def spec_l30Asked.f (k:Nat) (s0_0:List Int) (s0_1:Int) (a1:Int) (a2:Int) (a3:List (S54)) (a4:Int) (a5:Int):Option (List Int×Int):=(spec_FlySpans.f k a1 a2 a3 a4 a5).bind fun a0=>(spec_l30Asked.l0 k (([]:List Int)) a0.1 a0.2 0 s0_0 s0_1)
def spec_l30Asked.T6:Bool×List (List Nat×List Nat):=(true,[([],[]),([],[]),([],[]),([1,2],[1,2]),([3],[3]),([4],[4]),([],[]),([],[]),([],[]),([7,8],[7,8]),([9],[9]),([10],[10]),([11],[11]),([],[]),([],[]),([13,14],[13,14]),([15],[15]),([16],[16]),([12,17],[12,17]),([6,18],[6,18]),([5,19],[5,19]),([20],[20]),([0,21,19],[0,21]),([22,22,0,1,2,3,4,5,6,7,8,9,10,11,12,13,14,15,16,17,18,19,20,21,22],[0,22])])
def spec_l30Asked.B6:List Nat:=[0,0,0,6,14,30,0,0,0,384,896,1920,3968,0,0,24576,57344,122880,262016,524224,1048574,2097150,4194303,8388607]
theorem spec_l30Asked.tab6:rtab .any (opsOf Try.f13 6)=spec_l30Asked.T6:=by kernel_rfl
theorem spec_l30Asked.bits6:waitsOk spec_l30Asked.T6.2 spec_l30Asked.B6=true:=by kernel_rfl
set_option maxHeartbeats 8000000 in
set_option maxRecDepth 100000 in
theorem spec_l30Asked.calls (k:Nat) (g:Nat) (s0_0:List Int) (s0_1:Int) (b0:Int) (b1:Int) (d3:Option Addr) (d4:Nat) (a9:List (S54)) (b2:Int) (b3:Int) (r1:List Int) (r2:Int) (w0 w:World) (hI:IsS56 w0 w g s0_0 s0_1) (hB:Below w0.heap.size w0 w) (hr1_2: ∀W_,KeepBut w W_ g none→Kd.C k54 W_ d3 a9.length a9) (hc1_2:a9.length≤d4) (h:spec_l30Asked.f k s0_0 s0_1 b0 b1 a9 b2 b3=some (r1,r2)):
 Calls Try.prog 13 #[.pointer (some ⟨g,0,none⟩),.agg #[.int .i64 b0,.int .i64 b1,.slice d3 a9.length d4,.int .i64 b2,.int .i64 b3]] w fun e w'=> ∃v0_:Value,e= .returned (v0_)∧Kd.R (Kd.int .i64) 3 w' w.heap.size (fun _=>True) v0_ r1∧IsS56 w0 w' g s0_0 r2∧Below w0.heap.size w0 w'∧KeepBut w w' g none:=by
 have j1:=Try.underlying27;have g2:=zA hr1_2;have g3:=zA hc1_2;clear hr1_2 hc1_2;have a5:=zA hI;have HK:=zA (KeepBut.refl w g none);have HL:=zA hB.size;clear hI;have j5:=zA hB.size;have HB:=zA hB;clear hB;have H:=h;clear h;unfold spec_l30Asked.f at H;obtain⟨e2,b4⟩: ∃y_:List Int,y_=(([]:List Int)):=⟨_,rfl⟩
 replace H:((spec_FlySpans.f k b0 b1 a9 b2 b3).bind fun d9=>(spec_l30Asked.l0 k e2 d9.1 d9.2 0 s0_0 s0_1))=some (r1,r2):=zRw b4 H
 have e0:=zA b4;clear b4;replace H:=Option.bind_eq_some_iff.mp H;obtain⟨⟨a2,d7⟩,i6,H⟩:=H;replace H:(spec_l30Asked.l0 k e2 a2 d7 0 s0_0 s0_1)=some (r1,r2):=H;have A3:=zA i6;clear i6;have H':=zA H;clear H
 go_enter Try.func13,Try.ntmps13
 go_wp2_with (first|((with_reducible refine gate_dst (N:=3) rfl ?_);(try(refine gate_guard (by rfl) ?_;dsimp only));refine zbx 3 #[.int .i64 b0,.int .i64 b1,.slice d3 a9.length d4,.int .i64 b2,.int .i64 b3] 27 ?_;intro e1 hg w4 hbox hb;have a3:=zA hbox;have a4:=zgw hg (zK0 HK);have a8:=zge j5 a4;have a1:=znl hg (IsS56.lt (zI0 a5));have b7:=zns a1;replace HK:=zKb (zK0 HK) hb;replace HB:=zE (zB0 a5 HB) hb;replace a5:=zib (zI0 a5) hb;clear hb hbox hg)|((with_reducible refine gate_dst (N:=9) rfl ?_);(try(refine gate_guard (by rfl) ?_;dsimp only));refine Kd.R_lit (Kd.int .i64) _ 3 ?hg (N:=9) ?hd (xs:=([]:List Int)) (inner:=[]) (ok:=fun _=>True) (okp:=fun _=>True) ?hr ?hp (fun _ hk=>hk) trivial (Below.refl _ _) (Nat.le_refl _) (by simp) ?_;(case hd=>rfl);(case hg=>rfl);(case hr=>first|(go_simp;done)|(go_simp;rfl));(case hp=>exact(Reps.none _ _));intro j6 w5 g4 hb hg_ hnew_;clear hg_ hnew_;(first|rw[←e0.out]at g4|(simp only[Int.reduceToNat]at g4;rw[←e0.out]at g4));have d5:=zlo g4 (zK1 HK a4);replace a3:=zb a3 hb;replace HK:=zKb (zK1 HK a4) hb;replace HB:=zE (zB1 a5 HB a8) hb;replace a5:=zib (zI1 a5 a1) hb;clear hb g4;have j7:=b7.out;have j8:=a1.out;obtain⟨e3,e4,e5,e6,e7⟩:=zd5 a3;obtain⟨e8,e9,f2,f3,f4⟩:=zn5 a3)|((with_reducible refine gate_callee (f:=28) rfl ?_);refine zgl (N:=some 12) Try.func28 #[.agg #[.int .i64 b0,.int .i64 b1,.slice d3 a9.length d4,.int .i64 b2,.int .i64 b3]] ?_;(with_reducible refine(spec_FlySpans.calls k b0 b1 _ _ a9 b2 b3 a2 d7 _ ?side1 ?side2 A3.out).mono ?_);(case side1=>exact Kd.C_foot_now g2.out (zK1 HK a4));(case side2=>exact g3.out);rintro e w9 ⟨h4,rfl,i7,hb⟩;refine⟨_,rfl,?_⟩;have g5:=zlo i7 (zK1 HK a4);replace d5:=zA (Kd.R_below (zr d5) hb);replace a3:=zb a3 hb;replace HK:=zKb (zK1 HK a4) hb;replace HB:=zE (zB1 a5 HB a8) hb;replace a5:=zib (zI1 a5 a1) hb;(try clear hb i7)))
 go_loopg [5,8] k (fun kq v5 v8 w'=> ∃(b5:List Int) (a0:Int) (a7:Int),v8= .int .i64 a0∧Aside0 (spec_l30Asked.l0 kq b5 a2 d7 a0 s0_0 a7=some (r1,r2))∧Aside0 (kq≤k)∧Aside0 (Kd.R (Kd.int .i64) 3 w' w.heap.size (fun _=>True) v5 b5)∧Aside0 (Kd.R k32 32 w' w.heap.size (fun _=>True) h4 a2)∧Aside0 (w'.heap[e1]?=some (.cells #[.int .i64 b0,.int .i64 b1,(.slice d3 a9.length d4),.int .i64 b2,.int .i64 b3] 27 (0,0)))∧Aside0 (IsS56 w0 w' g s0_0 a7)∧Aside0 (KeepBut w w' g none)∧Aside0 (Below w0.heap.size w0 w'))
 case atStart=>exact⟨(e2),(0),(s0_1),zi,H',⟨Nat.le_refl _⟩,⟨zr d5⟩,⟨zr g5⟩,⟨zh a3⟩,⟨zI1 a5 a1⟩,⟨zK1 HK a4⟩,⟨zB1 a5 HB a8⟩⟩
 case round=>
  clear H'
  try clear e3 e4 e5 e6 e7 e8 e9 f2 f3 f4
  obtain⟨b5,a0,a7,rfl,HA,i8,HO_5,HO_6,a3,a5,HK,HB⟩:=hrel
  cases gk with
  |zero=>exact absurd HA.out (by simp[spec_l30Asked.l0])
  |succ k1=>
   have H:=HA.out;clear HA;simp only[spec_l30Asked.l0]at H
   by_cases c10:d7=true
   rotate_left
   ·replace c10:=Bool.eq_false_iff.mpr c10
    subst c10;rw[if_neg zfn]at H;simp only[Option.some.injEq,Prod.mk.injEq]at H;obtain⟨rfl,rfl⟩:=H
    go_wp2
    go_ret;exact⟨_,ze,zr HO_5,zI1 a5 a1,zB1 a5 HB a8,zK1 HK a4⟩
   subst c10;rw[if_pos rfl]at H
   by_cases g1:a0<(a2.length:Int)
   rotate_left
   ·rw[if_neg g1]at H
    have g6:decide (a0<(a2.length:Int))=false:=decide_eq_false g1;clear g1;simp only[Option.some.injEq,Prod.mk.injEq]at H;obtain⟨rfl,rfl⟩:=H;obtain⟨Ao19,co19,h5⟩:=Kd.R_slice HO_6.out;subst h5
    go_wp2
    go_ret;exact⟨_,ze,zr HO_5,zI1 a5 a1,zB1 a5 HB a8,zK1 HK a4⟩
   rw[if_pos g1]at H;have g6:decide (a0<(a2.length:Int))=true:=decide_eq_true g1;clear g1;replace H:=zif H;obtain⟨i9,H⟩:=H;replace H:=Option.bind_eq_some_iff.mp H;obtain⟨⟨d6,d8⟩,g7,H⟩:=H;replace H:(if b5.length<17592186044416 then(spec_l30Asked.l0 k1 (b5++[wrap64 (((rd_T32 a2 a0).f0)+d6)]) a2 true (wrap64 (a0+1)) s0_0 d8)else(none))=some (r1,r2):=H;have j9:=zA g7;clear g7
   by_cases h3:b5.length<17592186044416
   rotate_left
   ·rw[if_neg h3]at H
    exact absurd H (by simp)
   rw[if_pos h3]at H;have LMc14:=zA h3;clear h3;obtain⟨g8,b6⟩: ∃y_:List Int,y_=(b5++[wrap64 (((rd_T32 a2 a0).f0)+d6)]):=⟨_,rfl⟩
   replace H:(spec_l30Asked.l0 k1 g8 a2 true (wrap64 (a0+1)) s0_0 d8)=some (r1,r2):=zRw b6 H
   have g9:=zA b6;clear b6;have H':=zA H;clear H;obtain⟨Ao15,co15,h6⟩:=Kd.R_slice HO_6.out;subst h6
   try go_wp2
   replace HO_5:=zA (Kd.R_drew HO_5.out);replace HO_6:=zA (Kd.R_drew HO_6.out);replace a3:=zA (blk_drew a3.out);replace a5:=zA (IsS56.drew a5.out);replace HK:=zA (keep_drew HK.out);replace HB:=zA (below_drew1 HB.out);have f5:0≤(a0:Int):=za;have f6:a0<(a2.length:Int):=za;obtain⟨a6,h7,b8,b9⟩:=at_T32 (Kd.R_reads' HO_6.out).2.2 a0 f5 f6;cases h7;replace f5:=eq_true f5;replace f6:=eq_true f6;have f7:0≤(a0:Int):=za;have f8:a0<(a2.length:Int):=za;obtain⟨h0,h8,c0,d0⟩:=at_T32 (Kd.R_reads' HO_6.out).2.2 a0 f7 f8;obtain rfl:a6=h0:=(by injection h8);replace f7:=eq_true f7;replace f8:=eq_true f8;have f9:0≤(a0:Int):=za;have g0:a0<(a2.length:Int):=za;obtain⟨h1,h9,d1,d2⟩:=at_T32 (Kd.R_reads' HO_6.out).2.2 a0 f9 g0;obtain rfl:a6=h1:=(by injection h9);replace f9:=eq_true f9;replace g0:=eq_true g0;refine start_ (n:=24) (S:=fun w'=>w'.cell? (a6.add ((a0).toNat*2))=some (.int .i64 ((rd_T32 a2 a0).f0))∧w'.cell? ⟨(a6.add ((a0).toNat*2)).block,(a6.add ((a0).toNat*2)).off+1,none⟩=some (.int .i64 ((rd_T32 a2 a0).f1))∧w'.cell? (a6.add ((a0).toNat*2))=some (.int .i64 ((rd_T32 a2 a0).f0))∧w'.cell? ⟨(a6.add ((a0).toNat*2)).block,(a6.add ((a0).toNat*2)).off+1,none⟩=some (.int .i64 ((rd_T32 a2 a0).f1))∧w'.cell? (a6.add ((a0).toNat*2))=some (.int .i64 ((rd_T32 a2 a0).f0))∧w'.cell? ⟨(a6.add ((a0).toNat*2)).block,(a6.add ((a0).toNat*2)).off+1,none⟩=some (.int .i64 ((rd_T32 a2 a0).f1))) (ds:=[21,22]) #[F,F,F,F,F,F,F,F,F,F,F,F,F,F,F,F,F,F,F,F,F,F,F,F] (by kernel_rfl) rfl rfl ⟨b8,b9,c0,d0,d1,d2⟩ (fun hHeld=>?_);refine with_tabW spec_l30Asked.tab6 spec_l30Asked.bits6 (fun HT_ HW_=>?_);generalize wr.drew=k2 at HO_5 HO_6 a3 a5 HK HB b8 b9 c0 d0 d1 d2 hHeld⊢;refine zq HT_ 0 ?_;refine zq HT_ 1 ?_;refine zq HT_ 2 ?_;refine zq HT_ 3 ?_;refine zq HT_ 4 ?_;refine zq HT_ 6 ?_;refine zq HT_ 7 ?_;refine zq HT_ 8 ?_;refine zq HT_ 9 ?_;refine zq HT_ 10 ?_;refine zq HT_ 13 ?_;refine zq HT_ 14 ?_;refine zq HT_ 15 ?_;refine zq HT_ 16 ?_;refine zk6 HT_ HW_ hHeld 5 ?_;refine zk6 HT_ HW_ hHeld 11 ?_;refine zq HT_ 12 ?_;refine zk6 HT_ HW_ hHeld 17 ?_;refine zq HT_ 18 ?_;refine zo HT_ 19 (fun K hK=>?_);refine zgo Try.func14 #[.pointer (some ⟨g,0,none⟩),.int .i64 (wrap64 ((wrap64 (1+((rd_T32 a2 a0).f1)))-((rd_T32 a2 a0).f0)))] ?_
   with_reducible refine(spec_l21Rd_pick.calls k1 g s0_0 a7 (wrap64 ((wrap64 (1+((rd_T32 a2 a0).f1)))-((rd_T32 a2 a0).f0))) d6 d8 w0 _ ?side1 ?side2 j9.out).mono ?_
   (case side1=>exact zI1 a5 a1);(case side2=>exact zB1 a5 HB a8);rintro e k3 ⟨rfl,hi,hb,hk⟩;have i0:=zhk hk (hHeld.1) a5 HO_6;have i1:=zhk hk (hHeld.2.1) a5 HO_6;have i2:=zhk hk (hHeld.2.2.1) a5 HO_6;have i3:=zhk hk (hHeld.2.2.2.1) a5 HO_6;have i4:=zhk hk (hHeld.2.2.2.2.1) a5 HO_6;have i5:=zhk hk (hHeld.2.2.2.2.2) a5 HO_6;refine⟨_,rfl,?_⟩;replace HO_5:=zok (show IsS56 w0 _ g s0_0 a7 from zI1 a5 a1) (zr HO_5) hk;replace HO_6:=zok (show IsS56 w0 _ g s0_0 a7 from zI1 a5 a1) (zr HO_6) hk;replace a3:=zbh hk a3 b7;replace HK:=zKk (zK1 HK a4) hk;replace HB:=zA (hb);replace a5:=zA (hi);(try clear hb hk hi);refine hK.out _ _ ⟨i0,i1,i2,i3,i4,i5⟩ (fun hHeld=>?_);clear hK K;refine zN ?_;refine zq HT_ 20 ?_;refine zO HT_ 21 (fun K hK=>?_);refine value_ (w1:=?_) (v:=?_) (by rfl) rfl ?_ ?_;rotate_left 2
   ·go_simp
    constructor
    ·rfl
    ·rfl
   refine hK.out _ _ ?_;clear hK K;refine zN ?_;refine zO HT_ 22 (fun K hK=>?_);refine Kd.R_append_step (Kd.int .i64) w.heap.size (by rfl) (.tmp 24) (.tmp 45) 28 3 (.int .i64 0) 8 rfl Try.underlying28 info3 rfl (by decide) (by omega) u5 b5 (wrap64 (((rd_T32 a2 a0).f0)+d6)) [.int .i64 (wrap64 (((rd_T32 a2 a0).f0)+d6))] (fun _=>True) (fun _=>False) rfl rfl ?aP (fun _ hk=>hk.elim) ?aF ?aO (Below.refl _ _) ?aS ?aL ?_;(case aP=>exact rfl);(case aF=>exact(fun _ _=>trivial));(case aO=>exact(zr HO_5));(case aS=>exact(keep_size (w:=w) (g:=g) (row:=none) (zK1 HK a4)));(case aL=>have:=LMc14.out;omega);intro k0 k4 ho hb hg hat;rw[←g9.out]at ho;have h2:=zA (ho);replace HO_6:=zA (Kd.R_over' (zr HO_6) (Kd.R_typed (zr HO_5)) (by decide) hg);replace a3:=zA (blk_grown (g:=e1) (o:= .cells #[.int .i64 b0,.int .i64 b1,.slice d3 a9.length d4,.int .i64 b2,.int .i64 b3] 27 (0,0)) (zh a3) hg (Kd.R_ne HO_5.out a3.out (by decide)));replace HB:=zA (below_weaken (zB1 a5 HB a8) HL.out hb);replace a5:=zA (IsS56.grown (zJ1 a5 a1) hg (IsS56.own_ne a5.out HO_5.out (by decide)));replace HK:=zA (KeepBut.trans (zK1 HK a4) (KeepBut.of_grown hg g) (Kd.R_base2 HO_5.out));clear HO_5;clear ho hb hg hat;refine hK.out _ _ ?_;clear hK K;refine zN ?_;refine zq HT_ 23 ?_;refine done_ (done_of HT_.out (by kernel_rfl)) ?_
   try go_wp2
   go_roundg k1
   case measure=>have:=i8.out;omega
   case rel=>exact⟨(g8),(wrap64 (a0+1)),(d8),zi,H',⟨by have:=i8.out;omega⟩,⟨zr h2⟩,⟨zr HO_6⟩,⟨zh a3⟩,⟨zI1 a5 a1⟩,⟨zK1 HK a4⟩,⟨zB1 a5 HB a8⟩⟩
end Go.Proofs.Ytkecbmgdmkmfgaa.QFnFlyNext
