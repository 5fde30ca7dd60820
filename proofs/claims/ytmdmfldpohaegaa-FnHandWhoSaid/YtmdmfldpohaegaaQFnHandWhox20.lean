/- The walk of what the law FnHandWho reaches: laid by a program of this session (ownprint.py). -/
import Derived.Test.YtmdmfldpohaegaaQFnHandWhox0
import Derived.Test.YtmdmfldpohaegaaQFnHandWhox19
namespace Go.Proofs.Ytmdmfldpohaegaa.QFnHandWho
open Go.RowKit Go.Proofs.YtmdmfldpohaegaaW.PrintWords Go.Proofs.YtmdmfldpohaegaaW.PrintLast Go.Proofs.YtmdmfldpohaegaaW.PrintMore Go.Proofs.Ytmdmfldpohaegaa.Z
attribute [local go_sem] max2_int min2_int max_two min_two max_three min_three max_four min_four zdn   -- for this text's walks alone
set_option linter.unusedVariables false
set_option linter.unusedSimpArgs false
mutual
def spec_HandPartOf.l0:Nat→List (S47)→List (S47)→Int→ByteArray→Int→Int→Int→Int→Option ((List (S47)))
 |0,_,_,_,_,_,_,_,_=>none
 |k+1,x1,x5,x6,a0,a1,a2,a3,a4=>if x6<(x1.length:Int)then((spec_l31ZoneOk.f k a0 a1 a2 a3 a4).bind fun a5=>(spec_HandPartOf.j1 k x1 x5 x6 a5 a0 a1 a2 a3 a4))else(spec_HandPartOf.j1 k x1 x5 x6 false a0 a1 a2 a3 a4)
def spec_HandPartOf.j1:Nat→List (S47)→List (S47)→Int→Bool→ByteArray→Int→Int→Int→Int→Option ((List (S47)))
 |0,_,_,_,_,_,_,_,_,_=>none
 |k+1,x1,x5,x6,x15,a0,a1,a2,a3,a4=>if x15=true then(if 0≤x6 then(if x6<(x1.length:Int)then((spec_l31Sees.f a0 a1 a2 a3 a4 ((rd_T47 x1 x6).f0) ((rd_T47 x1 x6).f1) ((rd_T47 x1 x6).f2) ((rd_T47 x1 x6).f3) ((rd_T47 x1 x6).f4) ((rd_T47 x1 x6).f5)).bind fun a5=>(if a5=true then(if x5.length<2932031007402 then(spec_HandPartOf.l0 k x1 (x5++[(⟨(rd_T47 x1 x6).f0,(rd_T47 x1 x6).f1,(rd_T47 x1 x6).f2,(rd_T47 x1 x6).f3,(rd_T47 x1 x6).f4,(rd_T47 x1 x6).f5⟩:S47)]) (wrap64 (x6+1)) a0 a1 a2 a3 a4)else(none))else(spec_HandPartOf.l0 k x1 x5 (wrap64 (x6+1)) a0 a1 a2 a3 a4)))else(none))else(none))else(some x5)
end
def spec_HandPartOf.f (k:Nat) (a0:ByteArray) (a1:Int) (a2:Int) (a3:Int) (a4:Int) (l1:List (S47)):Option ((List (S47))):=spec_HandPartOf.l0 k l1 (([]:List (S47))) 0 a0 a1 a2 a3 a4
set_option maxHeartbeats 8000000 in
set_option maxRecDepth 100000 in
theorem spec_HandPartOf.calls (k:Nat) (b1:ByteArray) (b2:Int) (b3:Int) (b4:Int) (b5:Int) (A1:Option Addr) (c1:Nat) (l1:List (S47)) (r:List (S47)) (w:World) (hr1:Kd.C k47 w A1 l1.length l1) (hc1:l1.length≤c1) (h:spec_HandPartOf.f k b1 b2 b3 b4 b5 l1=some r):
 Calls Try.prog 15 #[.agg #[.string b1,.int .i64 b2,.int .i64 b3,.int .i64 b4,.int .i64 b5],.slice A1 l1.length c1] w fun e w'=> ∃v0_:Value,e= .returned (v0_)∧Kd.R k47 47 w' w.heap.size (fun _=>True) v0_ r∧Below w.heap.size w w':=by
 have i1:=Try.underlying34;have i2:=Try.underlying47;have h2:=zA hr1;have i6:=zA hc1;clear hr1 hc1;have HB:=zA (Below.refl w.heap.size w);have H:=h;clear h;unfold spec_HandPartOf.f at H;obtain⟨f9,b7⟩: ∃y_:List (S47),y_=(([]:List (S47))):=⟨_,rfl⟩
 replace H:(spec_HandPartOf.l0 k l1 f9 0 b1 b2 b3 b4 b5)=some r:=by first|(rw[b7];with_reducible exact H)|(have H2_:=(Option.bind_some _ _).symm.trans H;rw[b7];with_reducible exact H2_)|(have H2_:=(Option.bind_some _ _).symm.trans H;with_reducible exact H2_)|with_reducible exact H|(rw[b7];exact H)|exact H
 have d8:=zA b7;clear b7;have H':=zA H;clear H
 go_enter Try.func15,Try.ntmps15
 go_wp2_with (first|((with_reducible refine gate_dst (N:=2) rfl ?_);refine zbx 2 #[.string b1,.int .i64 b2,.int .i64 b3,.int .i64 b4,.int .i64 b5] 34 ?_;intro a9 hg w3 hbox hb;have a1:=zA hbox;have h7:=zgs hg (zs0 HB);have b0:=zgs hg (zs0 HB);replace HB:=zE (zs0 HB) hb;clear hb hbox hg)|((with_reducible refine gate_dst (N:=7) rfl ?_);refine Kd.R_lit k47 _ 47 ?hg (N:=7) ?hd (xs:=([]:List (S47))) (inner:=[]) (ok:=fun _=>True) (okp:=fun _=>True) ?hr ?hp (fun _ hk=>hk) trivial (Below.refl _ _) (Nat.le_refl _) (by simp) ?_;(case hd=>rfl);(case hg=>rfl);(case hr=>first|(go_simp;done)|(go_simp;rfl));(case hp=>exact(Reps.none _ _));intro i3 w4 g0 hb hg_ hnew_;clear hg_ hnew_;(first|rw[←d8.out]at g0|(simp only[Int.reduceToNat]at g0;rw[←d8.out]at g0));have g1:=zA (Kd.R_lower g0 (below_size (zs1 HB b0)));replace a1:=zb a1 hb;replace HB:=zE (zs1 HB b0) hb;clear hb g0))
 go_loopg [5,6] k (fun kq v5 v6 w'=> ∃(b6:List (S47)) (a0:Int),v6= .int .i64 a0∧Aside0 (spec_HandPartOf.l0 kq l1 b6 a0 b1 b2 b3 b4 b5=some r)∧Aside0 (kq≤k)∧Aside0 (Kd.R k47 47 w' w.heap.size (fun _=>True) v5 b6)∧Aside0 (w'.heap[a9]?=some (.cells #[.string b1,.int .i64 b2,.int .i64 b3,.int .i64 b4,.int .i64 b5] 34 (0,0)))∧Aside0 (Below w.heap.size w w'))
 case atStart=>exact⟨(f9),(0),zi,H',⟨Nat.le_refl _⟩,⟨zr g1⟩,⟨zh a1⟩,⟨zs1 HB b0⟩⟩
 case round=>
  clear H'
  try clear c1
  try clear p2
  obtain⟨b6,a0,rfl,HA,f8,HO_5,a1,HB⟩:=hrel
  cases gk with
  |zero=>exact absurd HA.out (by simp[spec_HandPartOf.l0])
  |succ k1=>
   have H:=HA.out;clear HA;simp only[spec_HandPartOf.l0]at H;have h3:=zA H;clear H
   go_upto_region 3 with(fail)
   go_cut [15] (fun i4 wc=> ∃(kq:Nat) (d0:Bool),i4= .bool d0∧Aside0 (spec_HandPartOf.j1 kq l1 b6 a0 d0 b1 b2 b3 b4 b5=some r)∧Aside0 (kq≤k1)∧Aside0 (Kd.R k47 47 wc w.heap.size (fun _=>True) u5 b6)∧Aside0 (wc.heap[a9]?=some (.cells #[.string b1,.int .i64 b2,.int .i64 b3,.int .i64 b4,.int .i64 b5] 34 (0,0)))∧Aside0 (Below w.heap.size w wc))
   case first=>
    have H:=h3.out;clear h3
    by_cases c7:a0<(l1.length:Int)
    rotate_left
    ·rw[if_neg c7]at H
     have d7:decide (a0<(l1.length:Int))=false:=decide_eq_false c7;clear c7;(first|rw[d7]|(simp only[i64_w,i32_w];rw[d7])|skip);have H':=zA H;clear H
     go_wp2
     go_meet
     case rel=>exact⟨_,(false),zi,H',⟨by have:=f8.out;first|omega|exact Nat.le_refl _⟩,⟨zr HO_5⟩,⟨zh a1⟩,⟨zs1 HB b0⟩⟩
    rw[if_pos c7]at H;have d7:decide (a0<(l1.length:Int))=true:=decide_eq_true c7;clear c7;(first|rw[d7]|(simp only[i64_w,i32_w];rw[d7])|skip);replace H:=zbd H;obtain⟨g2,A8,H⟩:=H;have H':=zA H;clear H;obtain⟨d9,e0,e1,e2,e3⟩:=zd5 a1;obtain⟨e4,e5,e6,e7,e8⟩:=zn5 a1
    go_wp2_with (first|(go_at_call 34;(with_reducible refine(spec_l31ZoneOk.calls k1 b1 b2 b3 b4 b5 g2 _ A8.out).mono ?_);rintro e i7 ⟨rfl,hb⟩;replace HO_5:=zA (Kd.R_below (zr HO_5) hb);replace a1:=zb a1 hb;replace HB:=zE (zs1 HB b0) hb;(try clear hb);(try clear hb2);(try clear hk);(try clear hi)))
    go_meet
    case rel=>exact⟨_,(g2),zi,H',⟨by have:=f8.out;first|omega|exact Nat.le_refl _⟩,⟨zr HO_5⟩,⟨zh a1⟩,⟨zs1 HB b0⟩⟩
   case rest=>
    clear h3
    try clear c1
    try clear p2
    try clear c7
    try clear d7
    try clear d9 e0 e1 e2 e3 e4 e5 e6 e7 e8
    try clear p2
    obtain⟨kq,d0,rfl,HA,g7,HO_5,a1,HB⟩:=hcut
    cases kq with
    |zero=>exact absurd HA.out (by simp[spec_HandPartOf.j1])
    |succ h4=>
     have H:=HA.out;clear HA;simp only[spec_HandPartOf.j1]at H
     by_cases g8:d0=true
     rotate_left
     ·replace g8:=Bool.eq_false_iff.mpr g8
      subst g8;rw[if_neg zfn]at H;obtain rfl:=Option.some.inj H
      go_wp2
      go_ret;exact⟨_,ze,zr HO_5,zs1 HB b0⟩
     subst g8;rw[if_pos rfl]at H;replace H:=zif H;obtain⟨h8,H⟩:=H
     by_cases g9:a0<(l1.length:Int)
     rotate_left
     ·rw[if_neg g9]at H
      exact absurd H (by simp)
     rw[if_pos g9]at H;have h9:decide (a0<(l1.length:Int))=true:=decide_eq_true g9;clear g9;replace H:=zbd H;obtain⟨h5,i0,H⟩:=H
     by_cases h0:h5=true
     rotate_left
     ·replace h0:=Bool.eq_false_iff.mpr h0
      subst h0;rw[if_neg zfn]at H;have H':=zA H;clear H
      try go_wp2
      replace HO_5:=zA (Kd.R_drew HO_5.out);replace a1:=zA (blk_drew a1.out);replace HB:=zA (below_drew1 HB.out);have b9:0≤(a0:Int):=za;have c0:a0<(l1.length:Int):=za;obtain⟨a2,e9,a3,a4,a5,a6,a7,a8⟩:=at_T47 h2.out a0 b9 c0;have hw421_5:=a8;have hw421_4:=a7;have hw421_3:=a6;have hw421_2:=a5;have hw421_1:=a4;have hw421_0:=a3;cases e9;replace a3:=zx HB a3;replace a4:=zx HB a4;replace a5:=zx HB a5;replace a6:=zx HB a6;replace a7:=zx HB a7;replace a8:=zx HB a8;replace b9:=eq_true b9;replace c0:=eq_true c0;refine start_ (n:=6) (S:=fun w'=>w'.cell? ⟨a9,0,none⟩=some (.string b1)∧w'.cell? ⟨a9,1,none⟩=some (.int .i64 b2)∧w'.cell? ⟨a9,2,none⟩=some (.int .i64 b3)∧w'.cell? ⟨a9,3,none⟩=some (.int .i64 b4)∧w'.cell? ⟨a9,4,none⟩=some (.int .i64 b5)∧w'.cell? (a2.add ((a0).toNat*6))=some (.int .i64 ((rd_T47 l1 a0).f0))∧w'.cell? ⟨(a2.add ((a0).toNat*6)).block,(a2.add ((a0).toNat*6)).off+1,none⟩=some (.int .i64 ((rd_T47 l1 a0).f1))∧w'.cell? ⟨(a2.add ((a0).toNat*6)).block,(a2.add ((a0).toNat*6)).off+2,none⟩=some (.int .i64 ((rd_T47 l1 a0).f2))∧w'.cell? ⟨(a2.add ((a0).toNat*6)).block,(a2.add ((a0).toNat*6)).off+3,none⟩=some (.int .i64 ((rd_T47 l1 a0).f3))∧w'.cell? ⟨(a2.add ((a0).toNat*6)).block,(a2.add ((a0).toNat*6)).off+4,none⟩=some (.int .i64 ((rd_T47 l1 a0).f4))∧w'.cell? ⟨(a2.add ((a0).toNat*6)).block,(a2.add ((a0).toNat*6)).off+5,none⟩=some (.int .i64 ((rd_T47 l1 a0).f5))) (ds:=[]) #[F,F,F,F,F,F] (by kernel_rfl) rfl rfl ⟨zc0 a1,zc1 a1,zc2 a1,zc3 a1,zc4 a1,(zw HB hw421_0),(zw HB hw421_1),(zw HB hw421_2),(zw HB hw421_3),(zw HB hw421_4),(zw HB hw421_5)⟩ (fun hHeld=>?_);generalize wc.drew=i8 at HO_5 a1 HB a3 a4 a5 a6 a7 a8 hHeld⊢;refine zp 1 ?_;refine zp 2 ?_;refine zp 3 ?_;refine take_ (i:=0) (N:=some 18) (v:=?_) (a':=?_) #[T,T,T,T,F,F] rfl rfl (by kernel_rfl) (fun _ _ _ h=>h) (Or.inl ⟨by rfl,?_⟩) hHeld ?_ ?_;rotate_left;exact zt11;rotate_left;exact zput;refine take_ (i:=4) (N:=some 22) (v:=?_) (a':=?_) #[T,T,T,T,T,F] rfl rfl (by kernel_rfl) (fun _ _ _ h=>h) (Or.inl ⟨by rfl,?_⟩) hHeld ?_ ?_;rotate_left;exact zt11;rotate_left;exact zput;refine one_ (i:=5) (N:=some 23) #[T,T,T,T,T,T] rfl rfl (by kernel_rfl) (by decide) (fun K hK=>?_);refine zgo Try.func35 #[.agg #[.string b1,.int .i64 b2,.int .i64 b3,.int .i64 b4,.int .i64 b5],.agg #[.int .i64 ((rd_T47 l1 a0).f0),.int .i64 ((rd_T47 l1 a0).f1),.int .i64 ((rd_T47 l1 a0).f2),.int .i64 ((rd_T47 l1 a0).f3),.int .i64 ((rd_T47 l1 a0).f4),.int .i64 ((rd_T47 l1 a0).f5)]] ?_
      with_reducible refine(spec_l31Sees.calls b1 b2 b3 b4 b5 ((rd_T47 l1 a0).f0) ((rd_T47 l1 a0).f1) ((rd_T47 l1 a0).f2) ((rd_T47 l1 a0).f3) ((rd_T47 l1 a0).f4) ((rd_T47 l1 a0).f5) false _ i0.out).mono ?_
      rintro e i9 ⟨rfl,hb⟩;refine⟨_,rfl,?_⟩;replace HO_5:=zA (Kd.R_below (zr HO_5) hb);replace a1:=zb a1 hb;replace HB:=zE (zs1 HB b0) hb;(try clear hb);(try clear hb2);(try clear hk);(try clear hi);refine hK.out _ _ ⟨zc0 a1,zc1 a1,zc2 a1,zc3 a1,zc4 a1,(zw HB hw421_0),(zw HB hw421_1),(zw HB hw421_2),(zw HB hw421_3),(zw HB hw421_4),(zw HB hw421_5)⟩ (fun hHeld=>?_);clear hK K;refine zN ?_;refine done_ (by kernel_rfl) ?_
      try go_wp2
      go_roundg h4
      case measure=>have:=f8.out;have:=g7.out;omega
      case rel=>exact⟨(b6),(wrap64 (a0+1)),zi,H',⟨by have:=f8.out;have:=g7.out;omega⟩,⟨zr HO_5⟩,⟨zh a1⟩,⟨zs1 HB b0⟩⟩
     subst h0;rw[if_pos rfl]at H
     by_cases h1:b6.length<2932031007402
     rotate_left
     ·rw[if_neg h1]at H
      exact absurd H (by simp)
     rw[if_pos h1]at H;have LMc16:=zA h1;clear h1;obtain⟨g3,b8⟩: ∃y_:List (S47),y_=(b6++[(⟨(rd_T47 l1 a0).f0,(rd_T47 l1 a0).f1,(rd_T47 l1 a0).f2,(rd_T47 l1 a0).f3,(rd_T47 l1 a0).f4,(rd_T47 l1 a0).f5⟩:S47)]):=⟨_,rfl⟩
     replace H:(spec_HandPartOf.l0 h4 l1 g3 (wrap64 (a0+1)) b1 b2 b3 b4 b5)=some r:=by first|(rw[b8];with_reducible exact H)|(have H2_:=(Option.bind_some _ _).symm.trans H;rw[b8];with_reducible exact H2_)|(have H2_:=(Option.bind_some _ _).symm.trans H;with_reducible exact H2_)|with_reducible exact H|(rw[b8];exact H)|exact H
     have g4:=zA b8;clear b8;have H':=zA H;clear H
     try go_wp2
     replace HO_5:=zA (Kd.R_drew HO_5.out);replace a1:=zA (blk_drew a1.out);replace HB:=zA (below_drew1 HB.out);have b9:0≤(a0:Int):=za;have c0:a0<(l1.length:Int):=za;obtain⟨a2,e9,a3,a4,a5,a6,a7,a8⟩:=at_T47 h2.out a0 b9 c0;have hw421_5:=a8;have hw421_4:=a7;have hw421_3:=a6;have hw421_2:=a5;have hw421_1:=a4;have hw421_0:=a3;cases e9;replace a3:=zx HB a3;replace a4:=zx HB a4;replace a5:=zx HB a5;replace a6:=zx HB a6;replace a7:=zx HB a7;replace a8:=zx HB a8;replace b9:=eq_true b9;replace c0:=eq_true c0;refine start_ (n:=6) (S:=fun w'=>w'.cell? ⟨a9,0,none⟩=some (.string b1)∧w'.cell? ⟨a9,1,none⟩=some (.int .i64 b2)∧w'.cell? ⟨a9,2,none⟩=some (.int .i64 b3)∧w'.cell? ⟨a9,3,none⟩=some (.int .i64 b4)∧w'.cell? ⟨a9,4,none⟩=some (.int .i64 b5)∧w'.cell? (a2.add ((a0).toNat*6))=some (.int .i64 ((rd_T47 l1 a0).f0))∧w'.cell? ⟨(a2.add ((a0).toNat*6)).block,(a2.add ((a0).toNat*6)).off+1,none⟩=some (.int .i64 ((rd_T47 l1 a0).f1))∧w'.cell? ⟨(a2.add ((a0).toNat*6)).block,(a2.add ((a0).toNat*6)).off+2,none⟩=some (.int .i64 ((rd_T47 l1 a0).f2))∧w'.cell? ⟨(a2.add ((a0).toNat*6)).block,(a2.add ((a0).toNat*6)).off+3,none⟩=some (.int .i64 ((rd_T47 l1 a0).f3))∧w'.cell? ⟨(a2.add ((a0).toNat*6)).block,(a2.add ((a0).toNat*6)).off+4,none⟩=some (.int .i64 ((rd_T47 l1 a0).f4))∧w'.cell? ⟨(a2.add ((a0).toNat*6)).block,(a2.add ((a0).toNat*6)).off+5,none⟩=some (.int .i64 ((rd_T47 l1 a0).f5))) (ds:=[]) #[F,F,F,F,F,F] (by kernel_rfl) rfl rfl ⟨zc0 a1,zc1 a1,zc2 a1,zc3 a1,zc4 a1,(zw HB hw421_0),(zw HB hw421_1),(zw HB hw421_2),(zw HB hw421_3),(zw HB hw421_4),(zw HB hw421_5)⟩ (fun hHeld=>?_);generalize wc.drew=j4 at HO_5 a1 HB a3 a4 a5 a6 a7 a8 hHeld⊢;refine zp 1 ?_;refine zp 2 ?_;refine zp 3 ?_;refine take_ (i:=0) (N:=some 18) (v:=?_) (a':=?_) #[T,T,T,T,F,F] rfl rfl (by kernel_rfl) (fun _ _ _ h=>h) (Or.inl ⟨by rfl,?_⟩) hHeld ?_ ?_;rotate_left;exact zt11;rotate_left;exact zput;refine take_ (i:=4) (N:=some 22) (v:=?_) (a':=?_) #[T,T,T,T,T,F] rfl rfl (by kernel_rfl) (fun _ _ _ h=>h) (Or.inl ⟨by rfl,?_⟩) hHeld ?_ ?_;rotate_left;exact zt11;rotate_left;exact zput;refine one_ (i:=5) (N:=some 23) #[T,T,T,T,T,T] rfl rfl (by kernel_rfl) (by decide) (fun K hK=>?_);refine zgo Try.func35 #[.agg #[.string b1,.int .i64 b2,.int .i64 b3,.int .i64 b4,.int .i64 b5],.agg #[.int .i64 ((rd_T47 l1 a0).f0),.int .i64 ((rd_T47 l1 a0).f1),.int .i64 ((rd_T47 l1 a0).f2),.int .i64 ((rd_T47 l1 a0).f3),.int .i64 ((rd_T47 l1 a0).f4),.int .i64 ((rd_T47 l1 a0).f5)]] ?_
     with_reducible refine(spec_l31Sees.calls b1 b2 b3 b4 b5 ((rd_T47 l1 a0).f0) ((rd_T47 l1 a0).f1) ((rd_T47 l1 a0).f2) ((rd_T47 l1 a0).f3) ((rd_T47 l1 a0).f4) ((rd_T47 l1 a0).f5) true _ i0.out).mono ?_
     rintro e j6 ⟨rfl,hb⟩;refine⟨_,rfl,?_⟩;replace HO_5:=zA (Kd.R_below (zr HO_5) hb);replace a1:=zb a1 hb;replace HB:=zE (zs1 HB b0) hb;(try clear hb);(try clear hb2);(try clear hk);(try clear hi);refine hK.out _ _ ⟨zc0 a1,zc1 a1,zc2 a1,zc3 a1,zc4 a1,(zw HB hw421_0),(zw HB hw421_1),(zw HB hw421_2),(zw HB hw421_3),(zw HB hw421_4),(zw HB hw421_5)⟩ (fun hHeld=>?_);clear hK K;refine zN ?_;refine done_ (by kernel_rfl) ?_;have f6:0≤(a0:Int):=za;have f7:a0<(l1.length:Int):=za;obtain⟨g5,h6,d1,d2,d3,d4,d5,d6⟩:=at_T47 h2.out a0 f6 f7;obtain rfl:a2=g5:=(by injection h6);replace d1:=zx HB d1;replace d2:=zx HB d2;replace d3:=zx HB d3;replace d4:=zx HB d4;replace d5:=zx HB d5;replace d6:=zx HB d6;replace f6:=eq_true f6;replace f7:=eq_true f7
     try go_wp2_with (first|((with_reducible refine gate_builtin (b:= .append) (xs:=#[.tmp 24,.tmp 29]) rfl ?_);at_builtin;refine Kd.R_append k47 (w0:=w) w.heap.size rfl (.tmp 24) (.tmp 29) 24 47 (.agg #[(.int .i64 0),(.int .i64 0),(.int .i64 0),(.int .i64 0),(.int .i64 0),(.int .i64 0)]) 48 rfl Try.underlying24 info47 rfl (by decide) (by omega) u5 b6 (⟨(rd_T47 l1 a0).f0,(rd_T47 l1 a0).f1,(rd_T47 l1 a0).f2,(rd_T47 l1 a0).f3,(rd_T47 l1 a0).f4,(rd_T47 l1 a0).f5⟩:S47) [.int .i64 ((rd_T47 l1 a0).f0),.int .i64 ((rd_T47 l1 a0).f1),.int .i64 ((rd_T47 l1 a0).f2),.int .i64 ((rd_T47 l1 a0).f3),.int .i64 ((rd_T47 l1 a0).f4),.int .i64 ((rd_T47 l1 a0).f5)] (fun _=>True) (fun _=>False) rfl rfl ?aP (fun _ hk=>hk.elim) ?aF ?aO ?aB ?aS ?aL ?_;(case aP=>exact k47_mkM _ _ _ (⟨(rd_T47 l1 a0).f0,(rd_T47 l1 a0).f1,(rd_T47 l1 a0).f2,(rd_T47 l1 a0).f3,(rd_T47 l1 a0).f4,(rd_T47 l1 a0).f5⟩:S47));(case aB=>exact(zs1 HB b0));(case aF=>exact(fun _ _=>trivial));(case aO=>exact(zr HO_5));(case aS=>exact(below_size (zs1 HB b0)));(case aL=>have:=LMc16.out;omega);intro i5 j7 ho hb hg hat;rw[←g4.out]at ho;have g6:=zA (ho);replace a1:=zA (blk_grown (g:=a9) (o:= .cells #[.string b1,.int .i64 b2,.int .i64 b3,.int .i64 b4,.int .i64 b5] 34 (0,0)) (zh a1) hg (Kd.R_ne HO_5.out a1.out (by decide)));replace HB:=zA (hb);clear HO_5;clear ho hb hg hat))
     go_roundg h4
     case measure=>have:=f8.out;have:=g7.out;omega
     case rel=>exact⟨(g3),(wrap64 (a0+1)),zi,H',⟨by have:=f8.out;have:=g7.out;omega⟩,⟨zr g6⟩,⟨zh a1⟩,⟨zs1 HB b0⟩⟩
def laws_whIn.l0:Nat→List ByteArray→ByteArray→Int→Option (Bool)
 |0,_,_,_=>none
 |k+1,x0,x1,x5=>if x5<(x0.length:Int)then(if 0≤x5 then(if(rdOf ByteArray.empty x0 x5).toList=x1.toList then(some true)else(laws_whIn.l0 k x0 x1 (wrap64 (x5+1))))else(none))else(some false)
def laws_whIn.f (k:Nat) (l0:List ByteArray) (a1:ByteArray):Option (Bool):=laws_whIn.l0 k l0 a1 0
set_option maxHeartbeats 8000000 in
set_option maxRecDepth 100000 in
theorem laws_whIn.calls (k:Nat) (A0:Option Addr) (c0:Nat) (l0:List ByteArray) (a1:ByteArray) (r:Bool) (w:World) (hr0:Kd.C Kd.string w A0 l0.length l0) (hc0:l0.length≤c0) (h:laws_whIn.f k l0 a1=some r):
 Calls Try.prog 16 #[.slice A0 l0.length c0,.string a1] w fun e w'=>e= .returned (.bool r)∧Drawn0 w w':=by
 have b0:=zA hr0;have b3:=zA hc0;clear hr0 hc0;have H:=h;clear h;unfold laws_whIn.f at H;have H':=zA H;clear H
 go_enter Try.func16,Try.ntmps16
 go_wp2
 go_loopg [5] k (fun kq v5 w'=> ∃(a0:Int),v5= .int .i64 a0∧Aside0 (laws_whIn.l0 kq l0 a1 a0=some r)∧Aside0 (kq≤k)∧Drawn0 w w')
 case atStart=>exact⟨(0),zi,H',⟨Nat.le_refl _⟩,by repeat(first|exact Drawn0.refl _|apply Drawn0.step)⟩
 case round=>
  clear H'
  try clear c1
  try clear p2
  obtain⟨a0,rfl,HA,b1,⟨m1,rfl⟩⟩:=hrel
  cases gk with
  |zero=>exact absurd HA.out (by simp[laws_whIn.l0])
  |succ k1=>
   have H:=HA.out;clear HA;simp only[laws_whIn.l0]at H
   by_cases c3:a0<(l0.length:Int)
   rotate_left
   ·rw[if_neg c3]at H
    have a7:decide (a0<(l0.length:Int))=false:=decide_eq_false c3;clear c3;obtain rfl:=Option.some.inj H
    go_wp2
    go_ret;exact⟨by first|rfl|(simp;done)|(simp[*];done),by repeat(first|exact Drawn0.refl _|apply Drawn0.step)⟩
   rw[if_pos c3]at H;have a7:decide (a0<(l0.length:Int))=true:=decide_eq_true c3;clear c3;replace H:=zif H;obtain⟨b2,H⟩:=H
   by_cases c5:(rdOf ByteArray.empty l0 a0).toList=a1.toList
   ·rw[if_pos c5]at H
    have a8:((rdOf ByteArray.empty l0 a0).toList==a1.toList)=true:=beq_iff_eq.mpr c5;have a9:((rdOf ByteArray.empty l0 a0).toList !=a1.toList)=false:=bne_eq_false_iff_eq.mpr c5;clear c5;obtain rfl:=Option.some.inj H;have a2:0≤(a0:Int):=za;have a3:a0<(l0.length:Int):=za;obtain⟨a6,a5,a4⟩:=Kd.at_string b0.out a0 a2 a3;cases a5;replace a2:=eq_true a2;replace a3:=eq_true a3
    go_wp2
    go_ret;exact⟨by first|rfl|(simp;done)|(simp[*];done),by repeat(first|exact Drawn0.refl _|apply Drawn0.step)⟩
   rw[if_neg c5]at H;have a8:((rdOf ByteArray.empty l0 a0).toList==a1.toList)=false:=beq_eq_false_iff_ne.mpr c5;have a9:((rdOf ByteArray.empty l0 a0).toList !=a1.toList)=true:=bne_iff_ne.mpr c5;have H':=zA H;clear H;have a2:0≤(a0:Int):=za;have a3:a0<(l0.length:Int):=za;obtain⟨a6,a5,a4⟩:=Kd.at_string b0.out a0 a2 a3;cases a5;replace a2:=eq_true a2;replace a3:=eq_true a3
   go_wp2
   go_roundg k1
   case measure=>have:=b1.out;omega
   case rel=>exact⟨(wrap64 (a0+1)),zi,H',⟨by have:=b1.out;omega⟩,by repeat(first|exact Drawn0.refl _|apply Drawn0.step)⟩
end Go.Proofs.Ytmdmfldpohaegaa.QFnHandWho
