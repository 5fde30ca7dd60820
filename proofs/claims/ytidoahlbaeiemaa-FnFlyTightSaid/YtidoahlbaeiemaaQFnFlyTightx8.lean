/- The walk of what the law FnFlyTight reaches: laid by a program of this session (ownprint.py). -/
import Derived.Test.YtidoahlbaeiemaaQFnFlyTightx0
import Derived.Test.YtidoahlbaeiemaaQFnFlyTightx2
import Derived.Test.YtidoahlbaeiemaaQFnFlyTightx7
namespace Go.Proofs.Ytidoahlbaeiemaa.QFnFlyTight
open Go.RowKit Go.Proofs.YtidoahlbaeiemaaW.PrintWords Go.Proofs.YtidoahlbaeiemaaW.PrintLast Go.Proofs.YtidoahlbaeiemaaW.PrintMore Go.Proofs.Ytidoahlbaeiemaa.Z
attribute [local go_sem] max2_int min2_int max_two min_two max_three min_three max_four min_four zdn   -- for this text's walks alone
set_option linter.unusedVariables false
set_option linter.unusedSimpArgs false
mutual
def spec_FlyPathOk.j0:Nat→Bool→Int→Int→List (S52)→Int→Int→Option (Bool)
 |0,_,_,_,_,_,_=>none
 |k+1,x27,a0,a1,a2,a3,a4=>if x27=true then(some false)else(spec_FlyPathOk.l0 k 0 a0 a1 a2 a3 a4)
def spec_FlyPathOk.l0:Nat→Int→Int→Int→List (S52)→Int→Int→Option (Bool)
 |0,_,_,_,_,_,_=>none
 |k+1,x3,a1,a2,a0,a3,a4=>if x3<(a0.length:Int)then(if 0≤x3 then((spec_l22StepOk.f ((rd_T52 a0 x3).f0) ((rd_T52 a0 x3).f1) ((rd_T52 a0 x3).f2) ((rd_T52 a0 x3).f3) ((rd_T52 a0 x3).f4) ((rd_T52 a0 x3).f5) ((rd_T52 a0 x3).f6)).bind fun a5=>(if a5=true then(if x3>0 then(if 0≤(wrap64 (x3-1))then(if(wrap64 (x3-1))<(a0.length:Int)then((spec_l22Next.f ((rd_T52 a0 (wrap64 (x3-1))).f0) ((rd_T52 a0 (wrap64 (x3-1))).f1) ((rd_T52 a0 (wrap64 (x3-1))).f2) ((rd_T52 a0 (wrap64 (x3-1))).f3) ((rd_T52 a0 (wrap64 (x3-1))).f4) ((rd_T52 a0 (wrap64 (x3-1))).f5) ((rd_T52 a0 (wrap64 (x3-1))).f6) ((rd_T52 a0 x3).f0) ((rd_T52 a0 x3).f1) ((rd_T52 a0 x3).f2) ((rd_T52 a0 x3).f3) ((rd_T52 a0 x3).f4) ((rd_T52 a0 x3).f5) ((rd_T52 a0 x3).f6)).bind fun a6=>(if a6=true then(spec_FlyPathOk.l0 k (wrap64 (x3+1)) a1 a2 a0 a3 a4)else(some false)))else(none))else(none))else(spec_FlyPathOk.l0 k (wrap64 (x3+1)) a1 a2 a0 a3 a4))else(some false)))else(none))else(some true)
end
def spec_FlyPathOk.f (k:Nat) (a1:Int) (a2:Int) (a3:List (S52)) (a4:Int) (a0:Int):Option (Bool):=(spec_FlyKindOk.f a1 a2).bind fun a5=>(if a5=true then((spec_l21In.f (a3.length:Int) 1 40).bind fun a6=>(if a6=true then((spec_l21In.f a4 0 a0).bind fun a7=>(if a7=true then(spec_FlyPathOk.j0 k (decide (a0>10000)) a1 a2 a3 a4 a0)else(spec_FlyPathOk.j0 k true a1 a2 a3 a4 a0)))else(spec_FlyPathOk.j0 k true a1 a2 a3 a4 a0)))else(spec_FlyPathOk.j0 k true a1 a2 a3 a4 a0))
def spec_FlyPathOk.T6:Bool×List (List Nat×List Nat):=(true,[([],[]),([0],[0]),([],[]),([1,2],[1,2]),([3],[3]),([4],[4]),([5],[5]),([6,5],[6]),([7],[7]),([8,7],[7,8]),([9,7,7],[7,9]),([10],[10]),([11,10],[10,11]),([10],[10]),([13,10],[10,13]),([12,14,10],[10,12,14]),([15,10],[10,15]),([10],[10]),([17,10],[10,17]),([10],[10]),([18,19,10],[10,18,19]),([20,10],[10,20]),([16,21,10,10],[10,16,21]),([22,10],[10,22]),([10,23,7],[7,10,23]),([7,24],[7,24])])
def spec_FlyPathOk.B6:List Nat:=[0,1,0,7,15,31,63,127,255,511,1023,2047,4095,2047,10239,32767,65535,2047,133119,2047,919551,1968127,4194303,8388607,16777215,33554431]
theorem spec_FlyPathOk.tab6:rtab .any (opsOf Try.f7 6)=spec_FlyPathOk.T6:=by kernel_rfl
theorem spec_FlyPathOk.bits6:waitsOk spec_FlyPathOk.T6.2 spec_FlyPathOk.B6=true:=by kernel_rfl
set_option maxHeartbeats 8000000 in
set_option maxRecDepth 100000 in
theorem spec_FlyPathOk.calls (k:Nat) (d7:Int) (d8:Int) (n8:Option Addr) (e5:Nat) (a1:List (S52)) (e2:Int) (e1:Int) (r:Bool) (w:World) (hr0_2:Kd.C k52 w n8 a1.length a1) (hc0_2:a1.length≤e5) (h:spec_FlyPathOk.f k d7 d8 a1 e2 e1=some r):
 Calls Try.prog 7 #[.agg #[.int .i64 d7,.int .i64 d8,.slice n8 a1.length e5,.int .i64 e2,.int .i64 e1]] w fun e w'=>e= .returned (.bool r)∧Below w.heap.size w w':=by
 have x1:=Try.underlying27;have x2:=Try.underlying24;have x3:=Try.underlying52;have e3:=zA hr0_2;have w4:=zA hc0_2;clear hr0_2 hc0_2;have HB:=zA (Below.refl w.heap.size w);have H:=h;clear h;unfold spec_FlyPathOk.f at H;have v6:=zA H;clear H
 go_enter Try.func7,Try.ntmps7
 go_upto_region 1 with(first|((with_reducible refine gate_dst (N:=1) rfl ?_);(try(refine gate_guard (by rfl) ?_;dsimp only));refine zbx 1 #[.int .i64 d7,.int .i64 d8,.slice n8 a1.length e5,.int .i64 e2,.int .i64 e1] 27 ?_;intro b2 hg w3 hbox hb;have a2:=zA hbox;have w5:=zgs hg (zs0 HB);have b3:=zgs hg (zs0 HB);replace HB:=zE (zs0 HB) hb;clear hb hbox hg))
 (try simp only[Act.put,List.setIfInBounds_toArray,List.set_cons_zero,List.set_cons_succ])
 go_cut [27] (fun x4 wc=> ∃(kq:Nat) (f8:Bool),x4= .bool f8∧Aside0 (spec_FlyPathOk.j0 kq f8 d7 d8 a1 e2 e1=some r)∧Aside0 (kq≤k)∧Aside0 (wc.heap[b2]?=some (.cells #[.int .i64 d7,.int .i64 d8,(.slice n8 a1.length e5),.int .i64 e2,.int .i64 e1] 27 (0,0)))∧Aside0 (Below w.heap.size w wc))
 case first=>
  have H:=v6.out;clear v6;replace H:=zbd H;obtain⟨v7,A4,H⟩:=H
  by_cases c5:v7=true
  rotate_left
  ·replace c5:=Bool.eq_false_iff.mpr c5
   subst c5;rw[if_neg zfn]at H;have H':=zA H;clear H;obtain⟨f9,g0,g1,g2,g3⟩:=zd5 a2;obtain⟨g4,g5,g6,g7,g8⟩:=zn5 a2
   go_wp2_with (first|((with_reducible refine gate_callee (f:=18) rfl ?_);refine zgl (N:=some 6) Try.func18 #[.agg #[.int .i64 d7,.int .i64 d8]] ?_;(with_reducible refine(spec_FlyKindOk.calls d7 d8 false _ A4.out).mono ?_);rintro e x6 ⟨rfl,hb⟩;refine⟨_,rfl,?_⟩;replace a2:=zb a2 hb;replace HB:=zE (zs1 HB b3) hb;(try clear hb);(try clear hb2);(try clear hk);(try clear hi)))
   go_meet
   case rel=>exact⟨_,(true),zi,H',⟨by first|omega|exact Nat.le_refl _⟩,⟨zh a2⟩,⟨zs1 HB b3⟩⟩
  subst c5;rw[if_pos rfl]at H;replace H:=zbd H;obtain⟨v8,A6,H⟩:=H
  by_cases c7:v8=true
  rotate_left
  ·replace c7:=Bool.eq_false_iff.mpr c7
   subst c7;rw[if_neg zfn]at H;have H':=zA H;clear H;obtain⟨g9,h0,h1,h2,h3⟩:=zd5 a2;obtain⟨h4,h5,h6,h7,h8⟩:=zn5 a2
   go_wp2_with (first|((with_reducible refine gate_callee (f:=18) rfl ?_);refine zgl (N:=some 6) Try.func18 #[.agg #[.int .i64 d7,.int .i64 d8]] ?_;(with_reducible refine(spec_FlyKindOk.calls d7 d8 true _ A4.out).mono ?_);rintro e x7 ⟨rfl,hb⟩;refine⟨_,rfl,?_⟩;replace a2:=zb a2 hb;replace HB:=zE (zs1 HB b3) hb;(try clear hb);(try clear hb2);(try clear hk);(try clear hi);obtain⟨h9,i0,i1,i2,i3⟩:=zd5 a2;obtain⟨i4,i5,i6,i7,i8⟩:=zn5 a2)|(go_at_call 19;(with_reducible refine(spec_l21In.calls (a1.length:Int) 1 40 false _ A6.out).mono ?_);rintro e w' ⟨rfl,⟨nd,rfl⟩⟩))
   go_meet
   case rel=>exact⟨_,(true),zi,H',⟨by first|omega|exact Nat.le_refl _⟩,⟨zh a2⟩,⟨zs1 HB b3⟩⟩
  subst c7;rw[if_pos rfl]at H;replace H:=zbd H;obtain⟨v9,A8,H⟩:=H
  by_cases c9:v9=true
  ·subst c9
   rw[if_pos rfl]at H;have H':=zA H;clear H;obtain⟨i9,j1,j5,j6,j7⟩:=zd5 a2;obtain⟨j8,j9,k0,k1,k3⟩:=zn5 a2
   go_wp2_with (first|((with_reducible refine gate_callee (f:=18) rfl ?_);refine zgl (N:=some 6) Try.func18 #[.agg #[.int .i64 d7,.int .i64 d8]] ?_;(with_reducible refine(spec_FlyKindOk.calls d7 d8 true _ A4.out).mono ?_);rintro e x8 ⟨rfl,hb⟩;refine⟨_,rfl,?_⟩;replace a2:=zb a2 hb;replace HB:=zE (zs1 HB b3) hb;(try clear hb);(try clear hb2);(try clear hk);(try clear hi);obtain⟨k4,k5,k6,k7,k8⟩:=zd5 a2;obtain⟨k9,l4,l5,l6,l7⟩:=zn5 a2)|(go_at_call 19;(with_reducible refine(spec_l21In.calls (a1.length:Int) 1 40 true _ A6.out).mono ?_);rintro e w' ⟨rfl,⟨nd,rfl⟩⟩)|(go_at_call 19;(with_reducible refine(spec_l21In.calls e2 0 e1 true _ A8.out).mono ?_);rintro e w' ⟨rfl,⟨nd,rfl⟩⟩))
   go_meet
   case rel=>exact⟨_,(decide (e1>10000)),zi,H',⟨by first|omega|exact Nat.le_refl _⟩,⟨zh a2⟩,⟨zs1 HB b3⟩⟩
  replace c9:=Bool.eq_false_iff.mpr c9;subst c9;rw[if_neg zfn]at H;have H':=zA H;clear H;obtain⟨l8,l9,m0,m1,m2⟩:=zd5 a2;obtain⟨m3,m4,m5,m6,m7⟩:=zn5 a2
  go_wp2_with (first|((with_reducible refine gate_callee (f:=18) rfl ?_);refine zgl (N:=some 6) Try.func18 #[.agg #[.int .i64 d7,.int .i64 d8]] ?_;(with_reducible refine(spec_FlyKindOk.calls d7 d8 true _ A4.out).mono ?_);rintro e x9 ⟨rfl,hb⟩;refine⟨_,rfl,?_⟩;replace a2:=zb a2 hb;replace HB:=zE (zs1 HB b3) hb;(try clear hb);(try clear hb2);(try clear hk);(try clear hi);obtain⟨m8,m9,n0,n1,n2⟩:=zd5 a2;obtain⟨n3,n4,n5,n6,n7⟩:=zn5 a2)|(go_at_call 19;(with_reducible refine(spec_l21In.calls (a1.length:Int) 1 40 true _ A6.out).mono ?_);rintro e w' ⟨rfl,⟨nd,rfl⟩⟩)|(go_at_call 19;(with_reducible refine(spec_l21In.calls e2 0 e1 false _ A8.out).mono ?_);rintro e w' ⟨rfl,⟨nd,rfl⟩⟩))
  go_meet
  case rel=>exact⟨_,(true),zi,H',⟨by first|omega|exact Nat.le_refl _⟩,⟨zh a2⟩,⟨zs1 HB b3⟩⟩
 case rest=>
  clear v6
  try clear c1
  try clear p2
  try clear c5
  try clear c7
  try clear c9
  try clear x5
  try clear i9 j1 j5 j6 j7
  try clear k4 k5 k6 k7 k8
  try clear l8 l9 m0 m1 m2
  try clear m8 m9 n0 n1 n2
  try clear g9 h0 h1 h2 h3
  try clear h9 i0 i1 i2 i3
  try clear f9 g0 g1 g2 g3
  try clear j8 j9 k0 k1 k3
  try clear k9 l4 l5 l6 l7
  try clear m3 m4 m5 m6 m7
  try clear n3 n4 n5 n6 n7
  try clear h4 h5 h6 h7 h8
  try clear i4 i5 i6 i7 i8
  try clear g4 g5 g6 g7 g8
  obtain⟨kq,f8,rfl,HA,o9,a2,HB⟩:=hcut
  cases kq with
  |zero=>exact absurd HA.out (by simp[spec_FlyPathOk.j0])
  |succ w6=>
   have H:=HA.out;clear HA;simp only[spec_FlyPathOk.j0]at H
   by_cases o5:f8=true
   ·subst o5
    rw[if_pos rfl]at H;obtain rfl:=Option.some.inj H
    go_wp2
    go_ret;exact⟨ze,zs1 HB b3⟩
   replace o5:=Bool.eq_false_iff.mpr o5;subst o5;rw[if_neg zfn]at H;have H':=zA H;clear H
   go_wp2
   go_loopg [3] w6 (fun kq v3 w'=> ∃(a0:Int),v3= .int .i64 a0∧Aside0 (spec_FlyPathOk.l0 kq a0 d7 d8 a1 e2 e1=some r)∧Aside0 (kq≤w6)∧Aside0 (w'.heap[b2]?=some (.cells #[.int .i64 d7,.int .i64 d8,(.slice n8 a1.length e5),.int .i64 e2,.int .i64 e1] 27 (0,0)))∧Aside0 (Below w.heap.size w w'))
   case atStart=>exact⟨(0),zi,H',⟨Nat.le_refl _⟩,⟨zh a2⟩,⟨zs1 HB b3⟩⟩
   case round=>
    clear H'
    try clear c1
    try clear c2
    try clear p2
    try clear c5
    try clear c7
    try clear c9
    try clear x5
    try clear o5
    try clear i9 j1 j5 j6 j7
    try clear k4 k5 k6 k7 k8
    try clear l8 l9 m0 m1 m2
    try clear m8 m9 n0 n1 n2
    try clear g9 h0 h1 h2 h3
    try clear h9 i0 i1 i2 i3
    try clear f9 g0 g1 g2 g3
    try clear j8 j9 k0 k1 k3
    try clear k9 l4 l5 l6 l7
    try clear m3 m4 m5 m6 m7
    try clear n3 n4 n5 n6 n7
    try clear h4 h5 h6 h7 h8
    try clear i4 i5 i6 i7 i8
    try clear g4 g5 g6 g7 g8
    try clear p2
    obtain⟨a0,rfl,HA,p0,a2,HB⟩:=hrel
    cases gk with
    |zero=>exact absurd HA.out (by simp[spec_FlyPathOk.l0])
    |succ k2=>
     have H:=HA.out;clear HA;simp only[spec_FlyPathOk.l0]at H
     by_cases o3:a0<(a1.length:Int)
     rotate_left
     ·rw[if_neg o3]at H
      have o6:decide (a0<(a1.length:Int))=false:=decide_eq_false o3;clear o3;obtain rfl:=Option.some.inj H;obtain⟨p1,p3,p4,p5,p6⟩:=zd5 a2;obtain⟨p7,p8,p9,q0,q1⟩:=zn5 a2
      go_wp2
      go_ret;exact⟨ze,zs1 HB b3⟩
     rw[if_pos o3]at H;have o6:decide (a0<(a1.length:Int))=true:=decide_eq_true o3;clear o3;replace H:=zif H;obtain⟨w7,H⟩:=H;replace H:=zbd H;obtain⟨w0,o7,H⟩:=H
     by_cases q2:w0=true
     rotate_left
     ·replace q2:=Bool.eq_false_iff.mpr q2
      subst q2;rw[if_neg zfn]at H;obtain rfl:=Option.some.inj H;obtain⟨q3,q4,q5,q6,q7⟩:=zd5 a2;obtain⟨q8,q9,r0,r1,r2⟩:=zn5 a2
      try go_wp2
      replace a2:=zA (blk_drew a2.out);replace HB:=zA (below_drew1 HB.out);have d9:0≤(a0:Int):=za;have e0:a0<(a1.length:Int):=za;obtain⟨a3,e6,a5,a6,a7,a8,a9,b0,b1⟩:=at_T52 e3.out a0 d9 e0;have hw270_6:=b1;have hw270_5:=b0;have hw270_4:=a9;have hw270_3:=a8;have hw270_2:=a7;have hw270_1:=a6;have hw270_0:=a5;cases e6;replace a5:=zx HB a5;replace a6:=zx HB a6;replace a7:=zx HB a7;replace a8:=zx HB a8;replace a9:=zx HB a9;replace b0:=zx HB b0;replace b1:=zx HB b1;replace d9:=eq_true d9;replace e0:=eq_true e0;refine start_ (n:=26) (S:=fun w'=>w'.cell? ⟨b2,0,none⟩=some (.int .i64 d7)∧w'.cell? ⟨b2,1,none⟩=some (.int .i64 d8)∧w'.cell? ⟨b2,2,none⟩=some (.slice (some a3) a1.length e5)∧w'.cell? ⟨b2,3,none⟩=some (.int .i64 e2)∧w'.cell? ⟨b2,4,none⟩=some (.int .i64 e1)∧w'.cell? (a3.add ((a0).toNat*7))=some (.int .i64 ((rd_T52 a1 a0).f0))∧w'.cell? ⟨(a3.add ((a0).toNat*7)).block,(a3.add ((a0).toNat*7)).off+1,none⟩=some (.int .i64 ((rd_T52 a1 a0).f1))∧w'.cell? ⟨(a3.add ((a0).toNat*7)).block,(a3.add ((a0).toNat*7)).off+2,none⟩=some (.int .i64 ((rd_T52 a1 a0).f2))∧w'.cell? ⟨(a3.add ((a0).toNat*7)).block,(a3.add ((a0).toNat*7)).off+3,none⟩=some (.int .i64 ((rd_T52 a1 a0).f3))∧w'.cell? ⟨(a3.add ((a0).toNat*7)).block,(a3.add ((a0).toNat*7)).off+4,none⟩=some (.int .i64 ((rd_T52 a1 a0).f4))∧w'.cell? ⟨(a3.add ((a0).toNat*7)).block,(a3.add ((a0).toNat*7)).off+5,none⟩=some (.int .i64 ((rd_T52 a1 a0).f5))∧w'.cell? ⟨(a3.add ((a0).toNat*7)).block,(a3.add ((a0).toNat*7)).off+6,none⟩=some (.bool ((rd_T52 a1 a0).f6))) (ds:=[]) #[F,F,F,F,F,F,F,F,F,F,F,F,F,F,F,F,F,F,F,F,F,F,F,F,F,F] (by kernel_rfl) rfl rfl ⟨zc0 a2,zc1 a2,zc2 a2,zc3 a2,zc4 a2,(zw HB hw270_0),(zw HB hw270_1),(zw HB hw270_2),(zw HB hw270_3),(zw HB hw270_4),(zw HB hw270_5),(zw HB hw270_6)⟩ (fun hHeld=>?_);refine with_tabW spec_FlyPathOk.tab6 spec_FlyPathOk.bits6 (fun HT_ HW_=>?_);generalize wr.drew=y0 at a2 HB a5 a6 a7 a8 a9 b0 b1 hHeld⊢;refine zq HT_ 0 ?_;refine zq HT_ 2 ?_;refine zk12 HT_ HW_ hHeld 1 ?_;refine zq HT_ 3 ?_;refine zk12 HT_ HW_ hHeld 4 ?_;refine zo HT_ 5 (fun K hK=>?_);refine zgo Try.func20 #[.agg #[.int .i64 ((rd_T52 a1 a0).f0),.int .i64 ((rd_T52 a1 a0).f1),.int .i64 ((rd_T52 a1 a0).f2),.int .i64 ((rd_T52 a1 a0).f3),.int .i64 ((rd_T52 a1 a0).f4),.int .i64 ((rd_T52 a1 a0).f5),.bool ((rd_T52 a1 a0).f6)]] ?_
      with_reducible refine(spec_l22StepOk.calls ((rd_T52 a1 a0).f0) ((rd_T52 a1 a0).f1) ((rd_T52 a1 a0).f2) ((rd_T52 a1 a0).f3) ((rd_T52 a1 a0).f4) ((rd_T52 a1 a0).f5) ((rd_T52 a1 a0).f6) false _ o7.out).mono ?_
      rintro e y1 ⟨rfl,hb⟩;refine⟨_,rfl,?_⟩;replace a2:=zb a2 hb;replace HB:=zE (zs1 HB b3) hb;(try clear hb);(try clear hb2);(try clear hk);(try clear hi);refine hK.out _ _ ⟨zc0 a2,zc1 a2,zc2 a2,zc3 a2,zc4 a2,(zw HB hw270_0),(zw HB hw270_1),(zw HB hw270_2),(zw HB hw270_3),(zw HB hw270_4),(zw HB hw270_5),(zw HB hw270_6)⟩ (fun hHeld=>?_);clear hK K;refine zN ?_;refine zq HT_ 6 ?_;refine zq HT_ 7 ?_;refine zu HT_ 8 ?_;refine zu HT_ 9 ?_;refine zu HT_ 10 ?_;refine zu HT_ 11 ?_;refine zu HT_ 12 ?_;refine zu HT_ 13 ?_;refine zu HT_ 14 ?_;refine zu HT_ 15 ?_;refine zu HT_ 16 ?_;refine zu HT_ 17 ?_;refine zu HT_ 18 ?_;refine zu HT_ 19 ?_;refine zu HT_ 20 ?_;refine zu HT_ 21 ?_;refine zu HT_ 22 ?_;refine zu HT_ 23 ?_;refine zu HT_ 24 ?_;refine zq HT_ 25 ?_;refine done_ (done_of HT_.out (by kernel_rfl)) ?_
      try go_wp2
      go_ret;exact⟨ze,zs1 HB b3⟩
     subst q2;rw[if_pos rfl]at H
     by_cases o4:a0>0
     rotate_left
     ·rw[if_neg o4]at H
      have o8:decide (0<a0)=false:=decide_eq_false o4;clear o4;have H':=zA H;clear H;obtain⟨r3,r4,r5,r6,r7⟩:=zd5 a2;obtain⟨r8,r9,s0,s1,s2⟩:=zn5 a2
      try go_wp2
      replace a2:=zA (blk_drew a2.out);replace HB:=zA (below_drew1 HB.out);have d9:0≤(a0:Int):=za;have e0:a0<(a1.length:Int):=za;obtain⟨a3,e6,a5,a6,a7,a8,a9,b0,b1⟩:=at_T52 e3.out a0 d9 e0;have hw270_6:=b1;have hw270_5:=b0;have hw270_4:=a9;have hw270_3:=a8;have hw270_2:=a7;have hw270_1:=a6;have hw270_0:=a5;cases e6;replace a5:=zx HB a5;replace a6:=zx HB a6;replace a7:=zx HB a7;replace a8:=zx HB a8;replace a9:=zx HB a9;replace b0:=zx HB b0;replace b1:=zx HB b1;replace d9:=eq_true d9;replace e0:=eq_true e0;refine start_ (n:=26) (S:=fun w'=>w'.cell? ⟨b2,0,none⟩=some (.int .i64 d7)∧w'.cell? ⟨b2,1,none⟩=some (.int .i64 d8)∧w'.cell? ⟨b2,2,none⟩=some (.slice (some a3) a1.length e5)∧w'.cell? ⟨b2,3,none⟩=some (.int .i64 e2)∧w'.cell? ⟨b2,4,none⟩=some (.int .i64 e1)∧w'.cell? (a3.add ((a0).toNat*7))=some (.int .i64 ((rd_T52 a1 a0).f0))∧w'.cell? ⟨(a3.add ((a0).toNat*7)).block,(a3.add ((a0).toNat*7)).off+1,none⟩=some (.int .i64 ((rd_T52 a1 a0).f1))∧w'.cell? ⟨(a3.add ((a0).toNat*7)).block,(a3.add ((a0).toNat*7)).off+2,none⟩=some (.int .i64 ((rd_T52 a1 a0).f2))∧w'.cell? ⟨(a3.add ((a0).toNat*7)).block,(a3.add ((a0).toNat*7)).off+3,none⟩=some (.int .i64 ((rd_T52 a1 a0).f3))∧w'.cell? ⟨(a3.add ((a0).toNat*7)).block,(a3.add ((a0).toNat*7)).off+4,none⟩=some (.int .i64 ((rd_T52 a1 a0).f4))∧w'.cell? ⟨(a3.add ((a0).toNat*7)).block,(a3.add ((a0).toNat*7)).off+5,none⟩=some (.int .i64 ((rd_T52 a1 a0).f5))∧w'.cell? ⟨(a3.add ((a0).toNat*7)).block,(a3.add ((a0).toNat*7)).off+6,none⟩=some (.bool ((rd_T52 a1 a0).f6))) (ds:=[]) #[F,F,F,F,F,F,F,F,F,F,F,F,F,F,F,F,F,F,F,F,F,F,F,F,F,F] (by kernel_rfl) rfl rfl ⟨zc0 a2,zc1 a2,zc2 a2,zc3 a2,zc4 a2,(zw HB hw270_0),(zw HB hw270_1),(zw HB hw270_2),(zw HB hw270_3),(zw HB hw270_4),(zw HB hw270_5),(zw HB hw270_6)⟩ (fun hHeld=>?_);refine with_tabW spec_FlyPathOk.tab6 spec_FlyPathOk.bits6 (fun HT_ HW_=>?_);generalize wr.drew=y2 at a2 HB a5 a6 a7 a8 a9 b0 b1 hHeld⊢;refine zq HT_ 0 ?_;refine zq HT_ 2 ?_;refine zk12 HT_ HW_ hHeld 1 ?_;refine zq HT_ 3 ?_;refine zk12 HT_ HW_ hHeld 4 ?_;refine zo HT_ 5 (fun K hK=>?_);refine zgo Try.func20 #[.agg #[.int .i64 ((rd_T52 a1 a0).f0),.int .i64 ((rd_T52 a1 a0).f1),.int .i64 ((rd_T52 a1 a0).f2),.int .i64 ((rd_T52 a1 a0).f3),.int .i64 ((rd_T52 a1 a0).f4),.int .i64 ((rd_T52 a1 a0).f5),.bool ((rd_T52 a1 a0).f6)]] ?_
      with_reducible refine(spec_l22StepOk.calls ((rd_T52 a1 a0).f0) ((rd_T52 a1 a0).f1) ((rd_T52 a1 a0).f2) ((rd_T52 a1 a0).f3) ((rd_T52 a1 a0).f4) ((rd_T52 a1 a0).f5) ((rd_T52 a1 a0).f6) true _ o7.out).mono ?_
      rintro e y3 ⟨rfl,hb⟩;refine⟨_,rfl,?_⟩;replace a2:=zb a2 hb;replace HB:=zE (zs1 HB b3) hb;(try clear hb);(try clear hb2);(try clear hk);(try clear hi);refine hK.out _ _ ⟨zc0 a2,zc1 a2,zc2 a2,zc3 a2,zc4 a2,(zw HB hw270_0),(zw HB hw270_1),(zw HB hw270_2),(zw HB hw270_3),(zw HB hw270_4),(zw HB hw270_5),(zw HB hw270_6)⟩ (fun hHeld=>?_);clear hK K;refine zN ?_;refine zq HT_ 6 ?_;refine zq HT_ 7 ?_;refine zq HT_ 8 ?_;refine zq HT_ 9 ?_;refine zq HT_ 10 ?_;refine zu HT_ 11 ?_;refine zu HT_ 12 ?_;refine zu HT_ 13 ?_;refine zu HT_ 14 ?_;refine zu HT_ 15 ?_;refine zu HT_ 16 ?_;refine zu HT_ 17 ?_;refine zu HT_ 18 ?_;refine zu HT_ 19 ?_;refine zu HT_ 20 ?_;refine zu HT_ 21 ?_;refine zu HT_ 22 ?_;refine zu HT_ 23 ?_;refine zq HT_ 24 ?_;refine zq HT_ 25 ?_;refine done_ (done_of HT_.out (by kernel_rfl)) ?_
      try go_wp2
      go_roundg k2
      case measure=>have:=o9.out;have:=p0.out;omega
      case rel=>exact⟨(wrap64 (a0+1)),zi,H',⟨by have:=o9.out;have:=p0.out;omega⟩,⟨zh a2⟩,⟨zs1 HB b3⟩⟩
     rw[if_pos o4]at H;have o8:decide (0<a0)=true:=decide_eq_true o4;clear o4;obtain⟨a4,e4⟩: ∃j_:Int,(wrap64 (a0-1))=j_:=⟨_,rfl⟩
     first|rw[e4]at H|simp only[e4]at H
     (try rw[e4]at o7);have w1:(IntKind.i64.wrap (a0-1))=a4:=(i64_w _).trans e4;replace H:=zif H;obtain⟨w8,H⟩:=H
     by_cases s3:(a4)<(a1.length:Int)
     rotate_left
     ·rw[if_neg s3]at H
      exact absurd H (by simp)
     rw[if_pos s3]at H;have w9:decide ((a4)<(a1.length:Int))=true:=decide_eq_true s3;clear s3;replace H:=zbd H;obtain⟨w2,x0,H⟩:=H
     by_cases s4:w2=true
     rotate_left
     ·replace s4:=Bool.eq_false_iff.mpr s4
      subst s4;rw[if_neg zfn]at H;obtain rfl:=Option.some.inj H;obtain⟨s5,s6,s7,s8,s9⟩:=zd5 a2;obtain⟨t0,t1,t2,t3,t4⟩:=zn5 a2
      try go_wp2
      replace a2:=zA (blk_drew a2.out);replace HB:=zA (below_drew1 HB.out);have d9:0≤(a0:Int):=za;have e0:a0<(a1.length:Int):=za;obtain⟨a3,e6,a5,a6,a7,a8,a9,b0,b1⟩:=at_T52 e3.out a0 d9 e0;have hw270_6:=b1;have hw270_5:=b0;have hw270_4:=a9;have hw270_3:=a8;have hw270_2:=a7;have hw270_1:=a6;have hw270_0:=a5;cases e6;replace a5:=zx HB a5;replace a6:=zx HB a6;replace a7:=zx HB a7;replace a8:=zx HB a8;replace a9:=zx HB a9;replace b0:=zx HB b0;replace b1:=zx HB b1;replace d9:=eq_true d9;replace e0:=eq_true e0;have e7:0≤((a4):Int):=za;have e8:(a4)<(a1.length:Int):=za;obtain⟨n9,o1,b4,b5,b6,b7,b8,b9,c0⟩:=at_T52 e3.out (a4) e7 e8;have hw272_6:=c0;have hw272_5:=b9;have hw272_4:=b8;have hw272_3:=b7;have hw272_2:=b6;have hw272_1:=b5;have hw272_0:=b4;obtain rfl:a3=n9:=(by injection o1);replace b4:=zx HB b4;replace b5:=zx HB b5;replace b6:=zx HB b6;replace b7:=zx HB b7;replace b8:=zx HB b8;replace b9:=zx HB b9;replace c0:=zx HB c0;replace e7:=eq_true e7;replace e8:=eq_true e8;have e9:0≤(a0:Int):=za;have f7:a0<(a1.length:Int):=za;obtain⟨o0,o2,d0,d1,d2,d3,d4,d5,d6⟩:=at_T52 e3.out a0 e9 f7;have hw273_6:=d6;have hw273_5:=d5;have hw273_4:=d4;have hw273_3:=d3;have hw273_2:=d2;have hw273_1:=d1;have hw273_0:=d0;obtain rfl:a3=o0:=(by injection o2);replace d0:=zx HB d0;replace d1:=zx HB d1;replace d2:=zx HB d2;replace d3:=zx HB d3;replace d4:=zx HB d4;replace d5:=zx HB d5;replace d6:=zx HB d6;replace e9:=eq_true e9;replace f7:=eq_true f7;refine start_ (n:=26) (S:=fun w'=>w'.cell? ⟨b2,0,none⟩=some (.int .i64 d7)∧w'.cell? ⟨b2,1,none⟩=some (.int .i64 d8)∧w'.cell? ⟨b2,2,none⟩=some (.slice (some a3) a1.length e5)∧w'.cell? ⟨b2,3,none⟩=some (.int .i64 e2)∧w'.cell? ⟨b2,4,none⟩=some (.int .i64 e1)∧w'.cell? (a3.add ((a0).toNat*7))=some (.int .i64 ((rd_T52 a1 a0).f0))∧w'.cell? ⟨(a3.add ((a0).toNat*7)).block,(a3.add ((a0).toNat*7)).off+1,none⟩=some (.int .i64 ((rd_T52 a1 a0).f1))∧w'.cell? ⟨(a3.add ((a0).toNat*7)).block,(a3.add ((a0).toNat*7)).off+2,none⟩=some (.int .i64 ((rd_T52 a1 a0).f2))∧w'.cell? ⟨(a3.add ((a0).toNat*7)).block,(a3.add ((a0).toNat*7)).off+3,none⟩=some (.int .i64 ((rd_T52 a1 a0).f3))∧w'.cell? ⟨(a3.add ((a0).toNat*7)).block,(a3.add ((a0).toNat*7)).off+4,none⟩=some (.int .i64 ((rd_T52 a1 a0).f4))∧w'.cell? ⟨(a3.add ((a0).toNat*7)).block,(a3.add ((a0).toNat*7)).off+5,none⟩=some (.int .i64 ((rd_T52 a1 a0).f5))∧w'.cell? ⟨(a3.add ((a0).toNat*7)).block,(a3.add ((a0).toNat*7)).off+6,none⟩=some (.bool ((rd_T52 a1 a0).f6))∧w'.cell? (a3.add (((a4)).toNat*7))=some (.int .i64 ((rd_T52 a1 (a4)).f0))∧w'.cell? ⟨(a3.add (((a4)).toNat*7)).block,(a3.add (((a4)).toNat*7)).off+1,none⟩=some (.int .i64 ((rd_T52 a1 (a4)).f1))∧w'.cell? ⟨(a3.add (((a4)).toNat*7)).block,(a3.add (((a4)).toNat*7)).off+2,none⟩=some (.int .i64 ((rd_T52 a1 (a4)).f2))∧w'.cell? ⟨(a3.add (((a4)).toNat*7)).block,(a3.add (((a4)).toNat*7)).off+3,none⟩=some (.int .i64 ((rd_T52 a1 (a4)).f3))∧w'.cell? ⟨(a3.add (((a4)).toNat*7)).block,(a3.add (((a4)).toNat*7)).off+4,none⟩=some (.int .i64 ((rd_T52 a1 (a4)).f4))∧w'.cell? ⟨(a3.add (((a4)).toNat*7)).block,(a3.add (((a4)).toNat*7)).off+5,none⟩=some (.int .i64 ((rd_T52 a1 (a4)).f5))∧w'.cell? ⟨(a3.add (((a4)).toNat*7)).block,(a3.add (((a4)).toNat*7)).off+6,none⟩=some (.bool ((rd_T52 a1 (a4)).f6))∧w'.cell? (a3.add ((a0).toNat*7))=some (.int .i64 ((rd_T52 a1 a0).f0))∧w'.cell? ⟨(a3.add ((a0).toNat*7)).block,(a3.add ((a0).toNat*7)).off+1,none⟩=some (.int .i64 ((rd_T52 a1 a0).f1))∧w'.cell? ⟨(a3.add ((a0).toNat*7)).block,(a3.add ((a0).toNat*7)).off+2,none⟩=some (.int .i64 ((rd_T52 a1 a0).f2))∧w'.cell? ⟨(a3.add ((a0).toNat*7)).block,(a3.add ((a0).toNat*7)).off+3,none⟩=some (.int .i64 ((rd_T52 a1 a0).f3))∧w'.cell? ⟨(a3.add ((a0).toNat*7)).block,(a3.add ((a0).toNat*7)).off+4,none⟩=some (.int .i64 ((rd_T52 a1 a0).f4))∧w'.cell? ⟨(a3.add ((a0).toNat*7)).block,(a3.add ((a0).toNat*7)).off+5,none⟩=some (.int .i64 ((rd_T52 a1 a0).f5))∧w'.cell? ⟨(a3.add ((a0).toNat*7)).block,(a3.add ((a0).toNat*7)).off+6,none⟩=some (.bool ((rd_T52 a1 a0).f6))) (ds:=[]) #[F,F,F,F,F,F,F,F,F,F,F,F,F,F,F,F,F,F,F,F,F,F,F,F,F,F] (by kernel_rfl) rfl rfl ⟨zc0 a2,zc1 a2,zc2 a2,zc3 a2,zc4 a2,(zw HB hw270_0),(zw HB hw270_1),(zw HB hw270_2),(zw HB hw270_3),(zw HB hw270_4),(zw HB hw270_5),(zw HB hw270_6),(zw HB hw272_0),(zw HB hw272_1),(zw HB hw272_2),(zw HB hw272_3),(zw HB hw272_4),(zw HB hw272_5),(zw HB hw272_6),(zw HB hw273_0),(zw HB hw273_1),(zw HB hw273_2),(zw HB hw273_3),(zw HB hw273_4),(zw HB hw273_5),(zw HB hw273_6)⟩ (fun hHeld=>?_);refine with_tabW spec_FlyPathOk.tab6 spec_FlyPathOk.bits6 (fun HT_ HW_=>?_)
      generalize wr.drew=y4 at a2 HB a5 a6 a7 a8 a9 b0 b1 b4 b5 b6 b7 b8 b9 c0 d0 d1 d2 d3 d4 d5 d6 hHeld⊢;refine zq HT_ 0 ?_;refine zq HT_ 2 ?_;refine zk26 HT_ HW_ hHeld 1 ?_;refine zq HT_ 3 ?_;refine zk26 HT_ HW_ hHeld 4 ?_;refine zo HT_ 5 (fun K hK=>?_);refine zgo Try.func20 #[.agg #[.int .i64 ((rd_T52 a1 a0).f0),.int .i64 ((rd_T52 a1 a0).f1),.int .i64 ((rd_T52 a1 a0).f2),.int .i64 ((rd_T52 a1 a0).f3),.int .i64 ((rd_T52 a1 a0).f4),.int .i64 ((rd_T52 a1 a0).f5),.bool ((rd_T52 a1 a0).f6)]] ?_
      with_reducible refine(spec_l22StepOk.calls ((rd_T52 a1 a0).f0) ((rd_T52 a1 a0).f1) ((rd_T52 a1 a0).f2) ((rd_T52 a1 a0).f3) ((rd_T52 a1 a0).f4) ((rd_T52 a1 a0).f5) ((rd_T52 a1 a0).f6) true _ o7.out).mono ?_
      rintro e y5 ⟨rfl,hb⟩;refine⟨_,rfl,?_⟩;replace a2:=zb a2 hb;replace HB:=zE (zs1 HB b3) hb;(try clear hb);(try clear hb2);(try clear hk);(try clear hi);refine hK.out _ _ ⟨zc0 a2,zc1 a2,zc2 a2,zc3 a2,zc4 a2,(zw HB hw270_0),(zw HB hw270_1),(zw HB hw270_2),(zw HB hw270_3),(zw HB hw270_4),(zw HB hw270_5),(zw HB hw270_6),(zw HB hw272_0),(zw HB hw272_1),(zw HB hw272_2),(zw HB hw272_3),(zw HB hw272_4),(zw HB hw272_5),(zw HB hw272_6),(zw HB hw273_0),(zw HB hw273_1),(zw HB hw273_2),(zw HB hw273_3),(zw HB hw273_4),(zw HB hw273_5),(zw HB hw273_6)⟩ (fun hHeld=>?_);clear hK K;refine zN ?_;refine zq HT_ 6 ?_;refine zq HT_ 7 ?_;refine zq HT_ 8 ?_;refine zq HT_ 9 ?_;refine zq HT_ 10 ?_;refine zq HT_ 11 ?_;refine zq HT_ 13 ?_;refine zq HT_ 14 ?_;refine zq HT_ 17 ?_;refine zq HT_ 19 ?_;refine zk26 HT_ HW_ hHeld 12 ?_;refine zq HT_ 15 ?_;refine zk26 HT_ HW_ hHeld 16 ?_;refine zk26 HT_ HW_ hHeld 18 ?_;refine zq HT_ 20 ?_;refine zk26 HT_ HW_ hHeld 21 ?_;refine zo HT_ 22 (fun K hK=>?_);refine goes_ Try.func21 (by kernel_rfl) rfl #[.agg #[.int .i64 ((rd_T52 a1 (a4)).f0),.int .i64 ((rd_T52 a1 (a4)).f1),.int .i64 ((rd_T52 a1 (a4)).f2),.int .i64 ((rd_T52 a1 (a4)).f3),.int .i64 ((rd_T52 a1 (a4)).f4),.int .i64 ((rd_T52 a1 (a4)).f5),.bool ((rd_T52 a1 (a4)).f6)],.agg #[.int .i64 ((rd_T52 a1 a0).f0),.int .i64 ((rd_T52 a1 a0).f1),.int .i64 ((rd_T52 a1 a0).f2),.int .i64 ((rd_T52 a1 a0).f3),.int .i64 ((rd_T52 a1 a0).f4),.int .i64 ((rd_T52 a1 a0).f5),.bool ((rd_T52 a1 a0).f6)]] (by rfl) rfl rfl (by(try simp only[List.map_toArray,List.map_cons,List.map_nil]);first|done|(simp only[e4];rfl)|rfl|(simp only[List.length_drop,List.length_take];rfl)) ?_
      with_reducible refine(spec_l22Next.calls ((rd_T52 a1 (a4)).f0) ((rd_T52 a1 (a4)).f1) ((rd_T52 a1 (a4)).f2) ((rd_T52 a1 (a4)).f3) ((rd_T52 a1 (a4)).f4) ((rd_T52 a1 (a4)).f5) ((rd_T52 a1 (a4)).f6) ((rd_T52 a1 a0).f0) ((rd_T52 a1 a0).f1) ((rd_T52 a1 a0).f2) ((rd_T52 a1 a0).f3) ((rd_T52 a1 a0).f4) ((rd_T52 a1 a0).f5) ((rd_T52 a1 a0).f6) false _ x0.out).mono ?_
      rintro e y6 ⟨rfl,hb⟩;refine⟨_,rfl,?_⟩;replace a2:=zb a2 hb;replace HB:=zE (zs1 HB b3) hb;(try clear hb);(try clear hb2);(try clear hk);(try clear hi);refine hK.out _ _ ⟨zc0 a2,zc1 a2,zc2 a2,zc3 a2,zc4 a2,(zw HB hw270_0),(zw HB hw270_1),(zw HB hw270_2),(zw HB hw270_3),(zw HB hw270_4),(zw HB hw270_5),(zw HB hw270_6),(zw HB hw272_0),(zw HB hw272_1),(zw HB hw272_2),(zw HB hw272_3),(zw HB hw272_4),(zw HB hw272_5),(zw HB hw272_6),(zw HB hw273_0),(zw HB hw273_1),(zw HB hw273_2),(zw HB hw273_3),(zw HB hw273_4),(zw HB hw273_5),(zw HB hw273_6)⟩ (fun hHeld=>?_);clear hK K;refine zN ?_;refine zq HT_ 23 ?_;refine zq HT_ 24 ?_;refine zq HT_ 25 ?_;refine done_ (done_of HT_.out (by kernel_rfl)) ?_
      try go_wp2
      go_ret;exact⟨by first|rfl|(simp[errW_none,errW_some]<;>rfl)|(simp only[←e4];first|rfl|(simp[errW_none,errW_some]<;>rfl))|(simp[*,errW_none,errW_some]<;>rfl),zs1 HB b3⟩
     subst s4;rw[if_pos rfl]at H;have H':=zA H;clear H;obtain⟨t5,t6,t7,t8,t9⟩:=zd5 a2;obtain⟨v0,v1,v2,v4,v5⟩:=zn5 a2
     try go_wp2
     replace a2:=zA (blk_drew a2.out);replace HB:=zA (below_drew1 HB.out);have d9:0≤(a0:Int):=za;have e0:a0<(a1.length:Int):=za;obtain⟨a3,e6,a5,a6,a7,a8,a9,b0,b1⟩:=at_T52 e3.out a0 d9 e0;have hw270_6:=b1;have hw270_5:=b0;have hw270_4:=a9;have hw270_3:=a8;have hw270_2:=a7;have hw270_1:=a6;have hw270_0:=a5;cases e6;replace a5:=zx HB a5;replace a6:=zx HB a6;replace a7:=zx HB a7;replace a8:=zx HB a8;replace a9:=zx HB a9;replace b0:=zx HB b0;replace b1:=zx HB b1;replace d9:=eq_true d9;replace e0:=eq_true e0;have e7:0≤((a4):Int):=za;have e8:(a4)<(a1.length:Int):=za;obtain⟨n9,o1,b4,b5,b6,b7,b8,b9,c0⟩:=at_T52 e3.out (a4) e7 e8;have hw272_6:=c0;have hw272_5:=b9;have hw272_4:=b8;have hw272_3:=b7;have hw272_2:=b6;have hw272_1:=b5;have hw272_0:=b4;obtain rfl:a3=n9:=(by injection o1);replace b4:=zx HB b4;replace b5:=zx HB b5;replace b6:=zx HB b6;replace b7:=zx HB b7;replace b8:=zx HB b8;replace b9:=zx HB b9;replace c0:=zx HB c0;replace e7:=eq_true e7;replace e8:=eq_true e8;have e9:0≤(a0:Int):=za;have f7:a0<(a1.length:Int):=za;obtain⟨o0,o2,d0,d1,d2,d3,d4,d5,d6⟩:=at_T52 e3.out a0 e9 f7;have hw273_6:=d6;have hw273_5:=d5;have hw273_4:=d4;have hw273_3:=d3;have hw273_2:=d2;have hw273_1:=d1;have hw273_0:=d0;obtain rfl:a3=o0:=(by injection o2);replace d0:=zx HB d0;replace d1:=zx HB d1;replace d2:=zx HB d2;replace d3:=zx HB d3;replace d4:=zx HB d4;replace d5:=zx HB d5;replace d6:=zx HB d6;replace e9:=eq_true e9;replace f7:=eq_true f7;refine start_ (n:=26) (S:=fun w'=>w'.cell? ⟨b2,0,none⟩=some (.int .i64 d7)∧w'.cell? ⟨b2,1,none⟩=some (.int .i64 d8)∧w'.cell? ⟨b2,2,none⟩=some (.slice (some a3) a1.length e5)∧w'.cell? ⟨b2,3,none⟩=some (.int .i64 e2)∧w'.cell? ⟨b2,4,none⟩=some (.int .i64 e1)∧w'.cell? (a3.add ((a0).toNat*7))=some (.int .i64 ((rd_T52 a1 a0).f0))∧w'.cell? ⟨(a3.add ((a0).toNat*7)).block,(a3.add ((a0).toNat*7)).off+1,none⟩=some (.int .i64 ((rd_T52 a1 a0).f1))∧w'.cell? ⟨(a3.add ((a0).toNat*7)).block,(a3.add ((a0).toNat*7)).off+2,none⟩=some (.int .i64 ((rd_T52 a1 a0).f2))∧w'.cell? ⟨(a3.add ((a0).toNat*7)).block,(a3.add ((a0).toNat*7)).off+3,none⟩=some (.int .i64 ((rd_T52 a1 a0).f3))∧w'.cell? ⟨(a3.add ((a0).toNat*7)).block,(a3.add ((a0).toNat*7)).off+4,none⟩=some (.int .i64 ((rd_T52 a1 a0).f4))∧w'.cell? ⟨(a3.add ((a0).toNat*7)).block,(a3.add ((a0).toNat*7)).off+5,none⟩=some (.int .i64 ((rd_T52 a1 a0).f5))∧w'.cell? ⟨(a3.add ((a0).toNat*7)).block,(a3.add ((a0).toNat*7)).off+6,none⟩=some (.bool ((rd_T52 a1 a0).f6))∧w'.cell? (a3.add (((a4)).toNat*7))=some (.int .i64 ((rd_T52 a1 (a4)).f0))∧w'.cell? ⟨(a3.add (((a4)).toNat*7)).block,(a3.add (((a4)).toNat*7)).off+1,none⟩=some (.int .i64 ((rd_T52 a1 (a4)).f1))∧w'.cell? ⟨(a3.add (((a4)).toNat*7)).block,(a3.add (((a4)).toNat*7)).off+2,none⟩=some (.int .i64 ((rd_T52 a1 (a4)).f2))∧w'.cell? ⟨(a3.add (((a4)).toNat*7)).block,(a3.add (((a4)).toNat*7)).off+3,none⟩=some (.int .i64 ((rd_T52 a1 (a4)).f3))∧w'.cell? ⟨(a3.add (((a4)).toNat*7)).block,(a3.add (((a4)).toNat*7)).off+4,none⟩=some (.int .i64 ((rd_T52 a1 (a4)).f4))∧w'.cell? ⟨(a3.add (((a4)).toNat*7)).block,(a3.add (((a4)).toNat*7)).off+5,none⟩=some (.int .i64 ((rd_T52 a1 (a4)).f5))∧w'.cell? ⟨(a3.add (((a4)).toNat*7)).block,(a3.add (((a4)).toNat*7)).off+6,none⟩=some (.bool ((rd_T52 a1 (a4)).f6))∧w'.cell? (a3.add ((a0).toNat*7))=some (.int .i64 ((rd_T52 a1 a0).f0))∧w'.cell? ⟨(a3.add ((a0).toNat*7)).block,(a3.add ((a0).toNat*7)).off+1,none⟩=some (.int .i64 ((rd_T52 a1 a0).f1))∧w'.cell? ⟨(a3.add ((a0).toNat*7)).block,(a3.add ((a0).toNat*7)).off+2,none⟩=some (.int .i64 ((rd_T52 a1 a0).f2))∧w'.cell? ⟨(a3.add ((a0).toNat*7)).block,(a3.add ((a0).toNat*7)).off+3,none⟩=some (.int .i64 ((rd_T52 a1 a0).f3))∧w'.cell? ⟨(a3.add ((a0).toNat*7)).block,(a3.add ((a0).toNat*7)).off+4,none⟩=some (.int .i64 ((rd_T52 a1 a0).f4))∧w'.cell? ⟨(a3.add ((a0).toNat*7)).block,(a3.add ((a0).toNat*7)).off+5,none⟩=some (.int .i64 ((rd_T52 a1 a0).f5))∧w'.cell? ⟨(a3.add ((a0).toNat*7)).block,(a3.add ((a0).toNat*7)).off+6,none⟩=some (.bool ((rd_T52 a1 a0).f6))) (ds:=[]) #[F,F,F,F,F,F,F,F,F,F,F,F,F,F,F,F,F,F,F,F,F,F,F,F,F,F] (by kernel_rfl) rfl rfl ⟨zc0 a2,zc1 a2,zc2 a2,zc3 a2,zc4 a2,(zw HB hw270_0),(zw HB hw270_1),(zw HB hw270_2),(zw HB hw270_3),(zw HB hw270_4),(zw HB hw270_5),(zw HB hw270_6),(zw HB hw272_0),(zw HB hw272_1),(zw HB hw272_2),(zw HB hw272_3),(zw HB hw272_4),(zw HB hw272_5),(zw HB hw272_6),(zw HB hw273_0),(zw HB hw273_1),(zw HB hw273_2),(zw HB hw273_3),(zw HB hw273_4),(zw HB hw273_5),(zw HB hw273_6)⟩ (fun hHeld=>?_);refine with_tabW spec_FlyPathOk.tab6 spec_FlyPathOk.bits6 (fun HT_ HW_=>?_)
     generalize wr.drew=y7 at a2 HB a5 a6 a7 a8 a9 b0 b1 b4 b5 b6 b7 b8 b9 c0 d0 d1 d2 d3 d4 d5 d6 hHeld⊢;refine zq HT_ 0 ?_;refine zq HT_ 2 ?_;refine zk26 HT_ HW_ hHeld 1 ?_;refine zq HT_ 3 ?_;refine zk26 HT_ HW_ hHeld 4 ?_;refine zo HT_ 5 (fun K hK=>?_);refine zgo Try.func20 #[.agg #[.int .i64 ((rd_T52 a1 a0).f0),.int .i64 ((rd_T52 a1 a0).f1),.int .i64 ((rd_T52 a1 a0).f2),.int .i64 ((rd_T52 a1 a0).f3),.int .i64 ((rd_T52 a1 a0).f4),.int .i64 ((rd_T52 a1 a0).f5),.bool ((rd_T52 a1 a0).f6)]] ?_
     with_reducible refine(spec_l22StepOk.calls ((rd_T52 a1 a0).f0) ((rd_T52 a1 a0).f1) ((rd_T52 a1 a0).f2) ((rd_T52 a1 a0).f3) ((rd_T52 a1 a0).f4) ((rd_T52 a1 a0).f5) ((rd_T52 a1 a0).f6) true _ o7.out).mono ?_
     rintro e y8 ⟨rfl,hb⟩;refine⟨_,rfl,?_⟩;replace a2:=zb a2 hb;replace HB:=zE (zs1 HB b3) hb;(try clear hb);(try clear hb2);(try clear hk);(try clear hi);refine hK.out _ _ ⟨zc0 a2,zc1 a2,zc2 a2,zc3 a2,zc4 a2,(zw HB hw270_0),(zw HB hw270_1),(zw HB hw270_2),(zw HB hw270_3),(zw HB hw270_4),(zw HB hw270_5),(zw HB hw270_6),(zw HB hw272_0),(zw HB hw272_1),(zw HB hw272_2),(zw HB hw272_3),(zw HB hw272_4),(zw HB hw272_5),(zw HB hw272_6),(zw HB hw273_0),(zw HB hw273_1),(zw HB hw273_2),(zw HB hw273_3),(zw HB hw273_4),(zw HB hw273_5),(zw HB hw273_6)⟩ (fun hHeld=>?_);clear hK K;refine zN ?_;refine zq HT_ 6 ?_;refine zq HT_ 7 ?_;refine zq HT_ 8 ?_;refine zq HT_ 9 ?_;refine zq HT_ 10 ?_;refine zq HT_ 11 ?_;refine zq HT_ 13 ?_;refine zq HT_ 14 ?_;refine zq HT_ 17 ?_;refine zq HT_ 19 ?_;refine zk26 HT_ HW_ hHeld 12 ?_;refine zq HT_ 15 ?_;refine zk26 HT_ HW_ hHeld 16 ?_;refine zk26 HT_ HW_ hHeld 18 ?_;refine zq HT_ 20 ?_;refine zk26 HT_ HW_ hHeld 21 ?_;refine zo HT_ 22 (fun K hK=>?_);refine goes_ Try.func21 (by kernel_rfl) rfl #[.agg #[.int .i64 ((rd_T52 a1 (a4)).f0),.int .i64 ((rd_T52 a1 (a4)).f1),.int .i64 ((rd_T52 a1 (a4)).f2),.int .i64 ((rd_T52 a1 (a4)).f3),.int .i64 ((rd_T52 a1 (a4)).f4),.int .i64 ((rd_T52 a1 (a4)).f5),.bool ((rd_T52 a1 (a4)).f6)],.agg #[.int .i64 ((rd_T52 a1 a0).f0),.int .i64 ((rd_T52 a1 a0).f1),.int .i64 ((rd_T52 a1 a0).f2),.int .i64 ((rd_T52 a1 a0).f3),.int .i64 ((rd_T52 a1 a0).f4),.int .i64 ((rd_T52 a1 a0).f5),.bool ((rd_T52 a1 a0).f6)]] (by rfl) rfl rfl (by(try simp only[List.map_toArray,List.map_cons,List.map_nil]);first|done|(simp only[e4];rfl)|rfl|(simp only[List.length_drop,List.length_take];rfl)) ?_
     with_reducible refine(spec_l22Next.calls ((rd_T52 a1 (a4)).f0) ((rd_T52 a1 (a4)).f1) ((rd_T52 a1 (a4)).f2) ((rd_T52 a1 (a4)).f3) ((rd_T52 a1 (a4)).f4) ((rd_T52 a1 (a4)).f5) ((rd_T52 a1 (a4)).f6) ((rd_T52 a1 a0).f0) ((rd_T52 a1 a0).f1) ((rd_T52 a1 a0).f2) ((rd_T52 a1 a0).f3) ((rd_T52 a1 a0).f4) ((rd_T52 a1 a0).f5) ((rd_T52 a1 a0).f6) true _ x0.out).mono ?_
     rintro e y9 ⟨rfl,hb⟩;refine⟨_,rfl,?_⟩;replace a2:=zb a2 hb;replace HB:=zE (zs1 HB b3) hb;(try clear hb);(try clear hb2);(try clear hk);(try clear hi);refine hK.out _ _ ⟨zc0 a2,zc1 a2,zc2 a2,zc3 a2,zc4 a2,(zw HB hw270_0),(zw HB hw270_1),(zw HB hw270_2),(zw HB hw270_3),(zw HB hw270_4),(zw HB hw270_5),(zw HB hw270_6),(zw HB hw272_0),(zw HB hw272_1),(zw HB hw272_2),(zw HB hw272_3),(zw HB hw272_4),(zw HB hw272_5),(zw HB hw272_6),(zw HB hw273_0),(zw HB hw273_1),(zw HB hw273_2),(zw HB hw273_3),(zw HB hw273_4),(zw HB hw273_5),(zw HB hw273_6)⟩ (fun hHeld=>?_);clear hK K;refine zN ?_;refine zq HT_ 23 ?_;refine zq HT_ 24 ?_;refine zq HT_ 25 ?_;refine done_ (done_of HT_.out (by kernel_rfl)) ?_
     try go_wp2
     go_roundg k2
     case measure=>have:=o9.out;have:=p0.out;omega
     case rel=>exact⟨(wrap64 (a0+1)),zi,H',⟨by have:=o9.out;have:=p0.out;omega⟩,⟨zh a2⟩,⟨zs1 HB b3⟩⟩
end Go.Proofs.Ytidoahlbaeiemaa.QFnFlyTight
