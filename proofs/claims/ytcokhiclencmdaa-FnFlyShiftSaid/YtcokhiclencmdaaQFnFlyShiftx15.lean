/- The walk of what the law FnFlyShift reaches: laid by a program of this session (ownprint.py). -/
import Derived.Test.YtcokhiclencmdaaQFnFlyShiftx0
import Derived.Test.YtcokhiclencmdaaQFnFlyShiftx1
import Derived.Test.YtcokhiclencmdaaQFnFlyShiftx2
namespace Go.Proofs.Ytcokhiclencmdaa.QFnFlyShift
open Go.RowKit Go.Proofs.YtcokhiclencmdaaW.PrintWords Go.Proofs.YtcokhiclencmdaaW.PrintLast Go.Proofs.YtcokhiclencmdaaW.PrintMore Go.Proofs.Ytcokhiclencmdaa.Z
attribute [local go_sem] max2_int min2_int max_two min_two max_three min_three max_four min_four zdn   -- for this text's walks alone
set_option linter.unusedVariables false
set_option linter.unusedSimpArgs false
attribute [local go_sem high] eqA24 eqA43
mutual
def laws_wfPath.j0:Nat→Bool→Int→Int→List (S43)→Int→Int→Int→Int→List (S43)→Int→Int→Option (Bool)
 |0,_,_,_,_,_,_,_,_,_,_,_=>none
 |k+1,x33,a0,a1,a2,a3,a4,a5,a6,a7,a8,a9=>if x33=true then(some false)else(laws_wfPath.l0 k 0 a0 a1 a2 a3 a4 a5 a6 a7 a8 a9)
def laws_wfPath.l0:Nat→Int→Int→Int→List (S43)→Int→Int→Int→Int→List (S43)→Int→Int→Option (Bool)
 |0,_,_,_,_,_,_,_,_,_,_,_=>none
 |k+1,x5,a2,a3,a0,a4,a5,a6,a7,a1,a8,a9=>if x5<(a0.length:Int)then(if 0≤x5 then(if x5<(a1.length:Int)then(if(!(((rd_T43 a0 x5).f0)==((rd_T43 a1 x5).f0))||(!(((rd_T43 a0 x5).f1)==((rd_T43 a1 x5).f1))||(!(((rd_T43 a0 x5).f2)==((rd_T43 a1 x5).f2))||(!(((rd_T43 a0 x5).f3)==((rd_T43 a1 x5).f3))||(!(((rd_T43 a0 x5).f4)==((rd_T43 a1 x5).f4))||(!(((rd_T43 a0 x5).f5)==((rd_T43 a1 x5).f5))||(!(((rd_T43 a0 x5).f6)==((rd_T43 a1 x5).f6)))))))))=true then(some false)else(laws_wfPath.l0 k (wrap64 (x5+1)) a2 a3 a0 a4 a5 a6 a7 a1 a8 a9))else(none))else(none))else(some true)
end
def laws_wfPath.f (k:Nat) (a0:Int) (a1:Int) (a2:List (S43)) (a3:Int) (a4:Int) (a5:Int) (a6:Int) (a7:List (S43)) (a8:Int) (a9:Int):Option (Bool):=if(!(a0==a5)||(!(a1==a6)))=true then(laws_wfPath.j0 k true a0 a1 a2 a3 a4 a5 a6 a7 a8 a9)else(if a3=a8 then(if a4=a9 then(laws_wfPath.j0 k ((a2.length:Int) !=(a7.length:Int)) a0 a1 a2 a3 a4 a5 a6 a7 a8 a9)else(laws_wfPath.j0 k true a0 a1 a2 a3 a4 a5 a6 a7 a8 a9))else(laws_wfPath.j0 k true a0 a1 a2 a3 a4 a5 a6 a7 a8 a9))
set_option maxHeartbeats 8000000 in
set_option maxRecDepth 100000 in
theorem laws_wfPath.calls (k:Nat) (d6:Int) (d7:Int) (e0:Option Addr) (e1:Nat) (a2:List (S43)) (a9:Int) (b0:Int) (d8:Int) (d9:Int) (e2:Option Addr) (e3:Nat) (a3:List (S43)) (b1:Int) (b2:Int) (r:Bool) (w:World) (hr0_2:Kd.C k43 w e0 a2.length a2) (hc0_2:a2.length≤e1) (hr1_2:Kd.C k43 w e2 a3.length a3) (hc1_2:a3.length≤e3) (h:laws_wfPath.f k d6 d7 a2 a9 b0 d8 d9 a3 b1 b2=some r):
 Calls Try.prog 7 #[.agg #[.int .i64 d6,.int .i64 d7,.slice e0 a2.length e1,.int .i64 a9,.int .i64 b0],.agg #[.int .i64 d8,.int .i64 d9,.slice e2 a3.length e3,.int .i64 b1,.int .i64 b2]] w fun e w'=>e= .returned (.bool r)∧Below w.heap.size w w':=by
 have z2:=Try.underlying27;have z3:=Try.underlying24;have z4:=Try.underlying43;have p5:=zA hr0_2;have x3:=zA hc0_2;clear hr0_2 hc0_2;have p6:=zA hr1_2;have x4:=zA hc1_2;clear hr1_2 hc1_2;have HB:=zA (Below.refl w.heap.size w);have H:=h;clear h;unfold laws_wfPath.f at H;have x2:=zA H;clear H
 go_enter Try.func7,Try.ntmps7
 go_upto_region 1 with(first|((with_reducible refine gate_dst (N:=2) rfl ?_);(try(refine gate_guard (by rfl) ?_;dsimp only));refine zbx 2 #[.int .i64 d6,.int .i64 d7,.slice e0 a2.length e1,.int .i64 a9,.int .i64 b0] 27 ?_;intro e9 hg w4 hbox hb;have a1:=zA hbox;have p7:=zgs hg (zs0 HB);have a7:=zgs hg (zs0 HB);replace HB:=zE (zs0 HB) hb;clear hb hbox hg)|((with_reducible refine gate_dst (N:=3) rfl ?_);(try(refine gate_guard (by rfl) ?_;dsimp only));refine zbx 3 #[.int .i64 d8,.int .i64 d9,.slice e2 a3.length e3,.int .i64 b1,.int .i64 b2] 27 ?_;intro f7 hg w5 hbox hb;have a6:=zA hbox;have p8:=zgs hg (zs1 HB a7);have a8:=zgs hg (zs1 HB a7);have a4:=zne hg a1;have a5:=znf hg a1;replace a1:=zb a1 hb;replace HB:=zE (zs1 HB a7) hb;clear hb hbox hg))
 repeat(go_quiet (first|((with_reducible refine gate_dst (N:=2) rfl ?_);(try(refine gate_guard (by rfl) ?_;dsimp only));refine zbx 2 #[.int .i64 d6,.int .i64 d7,.slice e0 a2.length e1,.int .i64 a9,.int .i64 b0] 27 ?_;intro e9 hg w4 hbox hb;have a1:=zA hbox;have p7:=zgs hg (zs0 HB);have a7:=zgs hg (zs0 HB);replace HB:=zE (zs0 HB) hb;clear hb hbox hg)|((with_reducible refine gate_dst (N:=3) rfl ?_);(try(refine gate_guard (by rfl) ?_;dsimp only));refine zbx 3 #[.int .i64 d8,.int .i64 d9,.slice e2 a3.length e3,.int .i64 b1,.int .i64 b2] 27 ?_;intro f7 hg w5 hbox hb;have a6:=zA hbox;have p8:=zgs hg (zs1 HB a7);have a8:=zgs hg (zs1 HB a7);have a4:=zne hg a1;have a5:=znf hg a1;replace a1:=zb a1 hb;replace HB:=zE (zs1 HB a7) hb;clear hb hbox hg));go_upto_region 1 with(first|((with_reducible refine gate_dst (N:=2) rfl ?_);(try(refine gate_guard (by rfl) ?_;dsimp only));refine zbx 2 #[.int .i64 d6,.int .i64 d7,.slice e0 a2.length e1,.int .i64 a9,.int .i64 b0] 27 ?_;intro e9 hg w4 hbox hb;have a1:=zA hbox;have p7:=zgs hg (zs0 HB);have a7:=zgs hg (zs0 HB);replace HB:=zE (zs0 HB) hb;clear hb hbox hg)|((with_reducible refine gate_dst (N:=3) rfl ?_);(try(refine gate_guard (by rfl) ?_;dsimp only));refine zbx 3 #[.int .i64 d8,.int .i64 d9,.slice e2 a3.length e3,.int .i64 b1,.int .i64 b2] 27 ?_;intro f7 hg w5 hbox hb;have a6:=zA hbox;have p8:=zgs hg (zs1 HB a7);have a8:=zgs hg (zs1 HB a7);have a4:=zne hg a1;have a5:=znf hg a1;replace a1:=zb a1 hb;replace HB:=zE (zs1 HB a7) hb;clear hb hbox hg)))
 (try simp only[Act.put,List.setIfInBounds_toArray,List.set_cons_zero,List.set_cons_succ])
 go_cut [33] (fun z5 wc=> ∃(kq:Nat) (f8:Bool),z5= .bool f8∧Aside0 (laws_wfPath.j0 kq f8 d6 d7 a2 a9 b0 d8 d9 a3 b1 b2=some r)∧Aside0 (kq≤k)∧Aside0 (wc.heap[e9]?=some (.cells #[.int .i64 d6,.int .i64 d7,(.slice e0 a2.length e1),.int .i64 a9,.int .i64 b0] 27 (0,0)))∧Aside0 (wc.heap[f7]?=some (.cells #[.int .i64 d8,.int .i64 d9,(.slice e2 a3.length e3),.int .i64 b1,.int .i64 b2] 27 (0,0)))∧Aside0 (Below w.heap.size w wc))
 case first=>
  have H:=x2.out;clear x2
  by_cases c6:(!(d6==d8)||(!(d7==d9)))=true
  ·rw[if_pos c6]at H
   have e4:(!(d6==d8)||(!(d7==d9)))=true:=c6;clear c6;(first|rw[e4]|(simp only[i64_w,i32_w];rw[e4])|skip);have H':=zA H;clear H;have z6:=a4.out;have z7:=a5.out;obtain⟨m9,n0,n1,n2,n3⟩:=zd5 a1;obtain⟨n4,n5,n6,n7,n8⟩:=zn5 a1;obtain⟨n9,o0,o1,o2,o3⟩:=zd5 a6;obtain⟨o4,o5,o6,o7,o8⟩:=zn5 a6
   go_wp2
   repeat(go_quiet (fail);try go_wp2)
   go_meet
   case rel=>exact⟨_,(true),zi,H',⟨by first|omega|exact Nat.le_refl _⟩,⟨zh a1⟩,⟨zh a6⟩,⟨zs2 HB a7 a8⟩⟩
  rw[if_neg c6]at H
  have e4:(!(d6==d8)||(!(d7==d9)))=false:=by simpa using c6
  clear c6;(first|rw[e4]|(simp only[i64_w,i32_w];rw[e4])|skip)
  by_cases c10:a9=b1
  rotate_left
  ·rw[if_neg c10]at H
   have o9:(a9==b1)=false:=beq_eq_false_iff_ne.mpr c10;have p0:(a9 !=b1)=true:=bne_iff_ne.mpr c10;have H':=zA H;clear H;have x5:=a4.out;have x6:=a5.out;obtain⟨f9,g0,g1,g2,g3⟩:=zd5 a1;obtain⟨g4,g5,g6,g7,g8⟩:=zn5 a1;obtain⟨g9,h0,h1,h2,h3⟩:=zd5 a6;obtain⟨h4,h5,h6,h7,h8⟩:=zn5 a6
   go_wp2
   repeat(go_quiet (fail);try go_wp2)
   go_meet
   case rel=>exact⟨_,(true),zi,H',⟨by first|omega|exact Nat.le_refl _⟩,⟨zh a1⟩,⟨zh a6⟩,⟨zs2 HB a7 a8⟩⟩
  rw[if_pos c10]at H;have o9:(a9==b1)=true:=beq_iff_eq.mpr c10;have p0:(a9 !=b1)=false:=bne_eq_false_iff_eq.mpr c10;clear c10
  by_cases p4:b0=b2
  rotate_left
  ·rw[if_neg p4]at H
   have p1:(b0==b2)=false:=beq_eq_false_iff_ne.mpr p4;have p3:(b0 !=b2)=true:=bne_iff_ne.mpr p4;have H':=zA H;clear H;have x7:=a4.out;have x8:=a5.out;obtain⟨h9,i0,i1,i2,i3⟩:=zd5 a1;obtain⟨i4,i5,i6,i7,i8⟩:=zn5 a1;obtain⟨i9,j5,j6,j7,j8⟩:=zd5 a6;obtain⟨j9,k0,k1,k3,k4⟩:=zn5 a6
   go_wp2
   repeat(go_quiet (fail);try go_wp2)
   go_meet
   case rel=>exact⟨_,(true),zi,H',⟨by first|omega|exact Nat.le_refl _⟩,⟨zh a1⟩,⟨zh a6⟩,⟨zs2 HB a7 a8⟩⟩
  rw[if_pos p4]at H;have p1:(b0==b2)=true:=beq_iff_eq.mpr p4;have p3:(b0 !=b2)=false:=bne_eq_false_iff_eq.mpr p4;clear p4;have H':=zA H;clear H;have x9:=a4.out;have y0:=a5.out;obtain⟨k5,k6,k7,k8,k9⟩:=zd5 a1;obtain⟨l4,l5,l6,l7,l8⟩:=zn5 a1;obtain⟨l9,m0,m1,m2,m3⟩:=zd5 a6;obtain⟨m4,m5,m6,m7,m8⟩:=zn5 a6
  go_wp2
  repeat(go_quiet (fail);try go_wp2)
  go_meet
  case rel=>exact⟨_,(((a2.length:Int) !=(a3.length:Int))),zi,H',⟨by first|omega|exact Nat.le_refl _⟩,⟨zh a1⟩,⟨zh a6⟩,⟨zs2 HB a7 a8⟩⟩
 case rest=>
  clear x2
  try clear c1
  try clear p2
  try clear c6
  try clear e4
  try clear c7
  try clear c10
  try clear o9
  try clear p0
  try clear p4
  try clear p1
  try clear p3
  try clear z8
  try clear z9
  try clear A0
  try clear k5 k6 k7 k8 k9
  try clear l9 m0 m1 m2 m3
  try clear h9 i0 i1 i2 i3
  try clear i9 j5 j6 j7 j8
  try clear f9 g0 g1 g2 g3
  try clear g9 h0 h1 h2 h3
  try clear m9 n0 n1 n2 n3
  try clear n9 o0 o1 o2 o3
  try clear l4 l5 l6 l7 l8
  try clear m4 m5 m6 m7 m8
  try clear i4 i5 i6 i7 i8
  try clear j9 k0 k1 k3 k4
  try clear g4 g5 g6 g7 g8
  try clear h4 h5 h6 h7 h8
  try clear n4 n5 n6 n7 n8
  try clear o4 o5 o6 o7 o8
  obtain⟨kq,f8,rfl,HA,y1,a1,a6,HB⟩:=hcut
  cases kq with
  |zero=>exact absurd HA.out (by simp[laws_wfPath.j0])
  |succ y2=>
   have H:=HA.out;clear HA;simp only[laws_wfPath.j0]at H
   by_cases q3:f8=true
   ·subst q3
    rw[if_pos rfl]at H;obtain rfl:=Option.some.inj H
    go_wp2
    repeat(go_quiet (fail);try go_wp2)
    go_ret;exact⟨ze,zs2 HB a7 a8⟩
   replace q3:=Bool.eq_false_iff.mpr q3;subst q3;rw[if_neg zfn]at H;have H':=zA H;clear H
   go_wp2
   repeat(go_quiet (fail);try go_wp2)
   go_loopg [5] y2 (fun kq v5 w'=> ∃(a0:Int),v5= .int .i64 a0∧Aside0 (laws_wfPath.l0 kq a0 d6 d7 a2 a9 b0 d8 d9 a3 b1 b2=some r)∧Aside0 (kq≤y2)∧Aside0 (w'.heap[e9]?=some (.cells #[.int .i64 d6,.int .i64 d7,(.slice e0 a2.length e1),.int .i64 a9,.int .i64 b0] 27 (0,0)))∧Aside0 (w'.heap[f7]?=some (.cells #[.int .i64 d8,.int .i64 d9,(.slice e2 a3.length e3),.int .i64 b1,.int .i64 b2] 27 (0,0)))∧Aside0 (Below w.heap.size w w'))
   case atStart=>exact⟨(0),zi,H',⟨Nat.le_refl _⟩,⟨zh a1⟩,⟨zh a6⟩,⟨zs2 HB a7 a8⟩⟩
   case round=>
    clear H'
    try clear c1
    try clear c2
    try clear p2
    try clear c6
    try clear e4
    try clear c7
    try clear c10
    try clear o9
    try clear p0
    try clear p4
    try clear p1
    try clear p3
    try clear z8
    try clear z9
    try clear A0
    try clear q3
    try clear k5 k6 k7 k8 k9
    try clear l9 m0 m1 m2 m3
    try clear h9 i0 i1 i2 i3
    try clear i9 j5 j6 j7 j8
    try clear f9 g0 g1 g2 g3
    try clear g9 h0 h1 h2 h3
    try clear m9 n0 n1 n2 n3
    try clear n9 o0 o1 o2 o3
    try clear l4 l5 l6 l7 l8
    try clear m4 m5 m6 m7 m8
    try clear i4 i5 i6 i7 i8
    try clear j9 k0 k1 k3 k4
    try clear g4 g5 g6 g7 g8
    try clear h4 h5 h6 h7 h8
    try clear n4 n5 n6 n7 n8
    try clear o4 o5 o6 o7 o8
    try clear p2
    obtain⟨a0,rfl,HA,y3,a1,a6,HB⟩:=hrel
    cases gk with
    |zero=>exact absurd HA.out (by simp[laws_wfPath.l0])
    |succ k2=>
     have H:=HA.out;clear HA;simp only[laws_wfPath.l0]at H
     by_cases q1:a0<(a2.length:Int)
     rotate_left
     ·rw[if_neg q1]at H
      have q4:decide (a0<(a2.length:Int))=false:=decide_eq_false q1;clear q1;obtain rfl:=Option.some.inj H;have y4:=a4.out;have y5:=a5.out;obtain⟨q8,q9,r0,r1,r2⟩:=zd5 a1;obtain⟨r3,r4,r5,r6,r7⟩:=zn5 a1
      go_wp2
      repeat(go_quiet (fail);try go_wp2)
      go_ret;exact⟨ze,zs2 HB a7 a8⟩
     rw[if_pos q1]at H;have q4:decide (a0<(a2.length:Int))=true:=decide_eq_true q1;clear q1;replace H:=zif H;obtain⟨y6,H⟩:=H
     by_cases r8:a0<(a3.length:Int)
     rotate_left
     ·rw[if_neg r8]at H
      exact absurd H (by simp)
     rw[if_pos r8]at H;have y7:decide (a0<(a3.length:Int))=true:=decide_eq_true r8;clear r8
     by_cases q2:(!(((rd_T43 a2 a0).f0)==((rd_T43 a3 a0).f0))||(!(((rd_T43 a2 a0).f1)==((rd_T43 a3 a0).f1))||(!(((rd_T43 a2 a0).f2)==((rd_T43 a3 a0).f2))||(!(((rd_T43 a2 a0).f3)==((rd_T43 a3 a0).f3))||(!(((rd_T43 a2 a0).f4)==((rd_T43 a3 a0).f4))||(!(((rd_T43 a2 a0).f5)==((rd_T43 a3 a0).f5))||(!(((rd_T43 a2 a0).f6)==((rd_T43 a3 a0).f6)))))))))=true
     ·rw[if_pos q2]at H
      have q5:(!(((rd_T43 a2 a0).f0)==((rd_T43 a3 a0).f0))||(!(((rd_T43 a2 a0).f1)==((rd_T43 a3 a0).f1))||(!(((rd_T43 a2 a0).f2)==((rd_T43 a3 a0).f2))||(!(((rd_T43 a2 a0).f3)==((rd_T43 a3 a0).f3))||(!(((rd_T43 a2 a0).f4)==((rd_T43 a3 a0).f4))||(!(((rd_T43 a2 a0).f5)==((rd_T43 a3 a0).f5))||(!(((rd_T43 a2 a0).f6)==((rd_T43 a3 a0).f6)))))))))=true:=q2;clear q2;obtain rfl:=Option.some.inj H;have y8:=a4.out;have y9:=a5.out;obtain⟨r9,s0,s1,s2,s3⟩:=zd5 a1;obtain⟨s4,s5,s6,s7,s8⟩:=zn5 a1;have e5:0≤(a0:Int):=za;have e6:a0<(a2.length:Int):=za;obtain⟨q6,p9,b3,b4,b5,b6,b7,b8,b9⟩:=at_T43 p5.out a0 e5 e6;cases p9;replace b3:=zx HB b3;replace b4:=zx HB b4;replace b5:=zx HB b5;replace b6:=zx HB b6;replace b7:=zx HB b7;replace b8:=zx HB b8;replace b9:=zx HB b9;replace e5:=eq_true e5;replace e6:=eq_true e6;obtain⟨s9,t0,t1,t2,t3⟩:=zd5 a6;obtain⟨t4,t5,t6,t7,t8⟩:=zn5 a6;have e7:0≤(a0:Int):=za;have e8:a0<(a3.length:Int):=za;obtain⟨q7,q0,c0,d0,d1,d2,d3,d4,d5⟩:=at_T43 p6.out a0 e7 e8;cases q0;replace c0:=zx HB c0;replace d0:=zx HB d0;replace d1:=zx HB d1;replace d2:=zx HB d2;replace d3:=zx HB d3;replace d4:=zx HB d4;replace d5:=zx HB d5;replace e7:=eq_true e7;replace e8:=eq_true e8
      go_wp2
      repeat(go_quiet (fail);try go_wp2)
      go_ret;exact⟨ze,zs2 HB a7 a8⟩
     rw[if_neg q2]at H
     have q5:(!(((rd_T43 a2 a0).f0)==((rd_T43 a3 a0).f0))||(!(((rd_T43 a2 a0).f1)==((rd_T43 a3 a0).f1))||(!(((rd_T43 a2 a0).f2)==((rd_T43 a3 a0).f2))||(!(((rd_T43 a2 a0).f3)==((rd_T43 a3 a0).f3))||(!(((rd_T43 a2 a0).f4)==((rd_T43 a3 a0).f4))||(!(((rd_T43 a2 a0).f5)==((rd_T43 a3 a0).f5))||(!(((rd_T43 a2 a0).f6)==((rd_T43 a3 a0).f6)))))))))=false:=by simpa using q2
     clear q2;have H':=zA H;clear H;have z0:=a4.out;have z1:=a5.out;obtain⟨t9,v0,v1,v2,v3⟩:=zd5 a1;obtain⟨v4,v6,v7,v8,v9⟩:=zn5 a1;have e5:0≤(a0:Int):=za;have e6:a0<(a2.length:Int):=za;obtain⟨q6,p9,b3,b4,b5,b6,b7,b8,b9⟩:=at_T43 p5.out a0 e5 e6;cases p9;replace b3:=zx HB b3;replace b4:=zx HB b4;replace b5:=zx HB b5;replace b6:=zx HB b6;replace b7:=zx HB b7;replace b8:=zx HB b8;replace b9:=zx HB b9;replace e5:=eq_true e5;replace e6:=eq_true e6;obtain⟨w0,w1,w2,w3,w6⟩:=zd5 a6;obtain⟨w7,w8,w9,x0,x1⟩:=zn5 a6;have e7:0≤(a0:Int):=za;have e8:a0<(a3.length:Int):=za;obtain⟨q7,q0,c0,d0,d1,d2,d3,d4,d5⟩:=at_T43 p6.out a0 e7 e8;cases q0;replace c0:=zx HB c0;replace d0:=zx HB d0;replace d1:=zx HB d1;replace d2:=zx HB d2;replace d3:=zx HB d3;replace d4:=zx HB d4;replace d5:=zx HB d5;replace e7:=eq_true e7;replace e8:=eq_true e8
     go_wp2
     repeat(go_quiet (fail);try go_wp2)
     go_roundg k2
     case measure=>have:=y1.out;have:=y3.out;omega
     case rel=>exact⟨(wrap64 (a0+1)),zi,H',⟨by have:=y1.out;have:=y3.out;omega⟩,⟨zh a1⟩,⟨zh a6⟩,⟨zs2 HB a7 a8⟩⟩
def impl_FlyPath_bound.f (a4:Int) (a5:Int) (a0:List (S43)) (a2:Int) (a3:Int) (a1:Int):Option (Int×Int):=if a1=(a0.length:Int)then(some (a2,a3))else(if 0≤a1 then(if a1<(a0.length:Int)then(some ((rd_T43 a0 a1).f4,(rd_T43 a0 a1).f5))else(none))else(none))
set_option maxHeartbeats 8000000 in
set_option maxRecDepth 100000 in
theorem impl_FlyPath_bound.calls (d1:Int) (d2:Int) (d3:Option Addr) (d4:Nat) (a2:List (S43)) (d5:Int) (d6:Int) (a1:Int) (r1:Int) (r2:Int) (w:World) (hr0_2:Kd.C k43 w d3 a2.length a2) (hc0_2:a2.length≤d4) (h:impl_FlyPath_bound.f d1 d2 a2 d5 d6 a1=some (r1,r2)):
 Calls Try.prog 32 #[.agg #[.int .i64 d1,.int .i64 d2,.slice d3 a2.length d4,.int .i64 d5,.int .i64 d6],.int .i64 a1] w fun e w'=>e= .returned (.tuple #[.int .i64 r1,.int .i64 r2])∧Below w.heap.size w w':=by
 have g6:=Try.underlying27;have d0:=zA hr0_2;have g5:=zA hc0_2;clear hr0_2 hc0_2;have HB:=zA (Below.refl w.heap.size w);have H:=h;clear h;unfold impl_FlyPath_bound.f at H
 by_cases c3:a1=(a2.length:Int)
 ·rw[if_pos c3]at H
  have g3:(a1==(a2.length:Int))=true:=beq_iff_eq.mpr c3;have g4:(a1 !=(a2.length:Int))=false:=bne_eq_false_iff_eq.mpr c3;clear c3;simp only[Option.some.injEq,Prod.mk.injEq]at H;obtain⟨rfl,rfl⟩:=H
  go_enter Try.func32,Try.ntmps32
  go_wp2_with (first|((with_reducible refine gate_dst (N:=2) rfl ?_);refine zbx 2 #[.int .i64 d1,.int .i64 d2,.slice d3 a2.length d4,.int .i64 d5,.int .i64 d6] 27 ?_;intro d7 hg w4 hbox hb;have a0:=zA hbox;have d8:=zgs hg (zs0 HB);have b7:=zgs hg (zs0 HB);replace HB:=zE (zs0 HB) hb;clear hb hbox hg;obtain⟨e1,e2,e3,e4,e5⟩:=zd5 a0;obtain⟨e6,e7,e8,e9,f0⟩:=zn5 a0))
  repeat(go_quiet (first|((with_reducible refine gate_dst (N:=2) rfl ?_);refine zbx 2 #[.int .i64 d1,.int .i64 d2,.slice d3 a2.length d4,.int .i64 d5,.int .i64 d6] 27 ?_;intro d7 hg w4 hbox hb;have a0:=zA hbox;have d8:=zgs hg (zs0 HB);have b7:=zgs hg (zs0 HB);replace HB:=zE (zs0 HB) hb;clear hb hbox hg;obtain⟨e1,e2,e3,e4,e5⟩:=zd5 a0;obtain⟨e6,e7,e8,e9,f0⟩:=zn5 a0));try go_wp2_with (first|((with_reducible refine gate_dst (N:=2) rfl ?_);refine zbx 2 #[.int .i64 d1,.int .i64 d2,.slice d3 a2.length d4,.int .i64 d5,.int .i64 d6] 27 ?_;intro d7 hg w4 hbox hb;have a0:=zA hbox;have d8:=zgs hg (zs0 HB);have b7:=zgs hg (zs0 HB);replace HB:=zE (zs0 HB) hb;clear hb hbox hg;obtain⟨e1,e2,e3,e4,e5⟩:=zd5 a0;obtain⟨e6,e7,e8,e9,f0⟩:=zn5 a0)))
  go_ret2
  exact⟨ze,zs1 HB b7⟩
 rw[if_neg c3]at H;have g3:(a1==(a2.length:Int))=false:=beq_eq_false_iff_ne.mpr c3;have g4:(a1 !=(a2.length:Int))=true:=bne_iff_ne.mpr c3;replace H:=zif H;obtain⟨g7,H⟩:=H
 by_cases c7:a1<(a2.length:Int)
 rotate_left
 ·rw[if_neg c7]at H
  exact absurd H (by simp)
 rw[if_pos c7]at H;have g8:decide (a1<(a2.length:Int))=true:=decide_eq_true c7;clear c7;simp only[Option.some.injEq,Prod.mk.injEq]at H;obtain⟨rfl,rfl⟩:=H
 go_enter Try.func32,Try.ntmps32
 go_wp2_with (first|((with_reducible refine gate_dst (N:=2) rfl ?_);refine zbx 2 #[.int .i64 d1,.int .i64 d2,.slice d3 a2.length d4,.int .i64 d5,.int .i64 d6] 27 ?_;intro d7 hg w8 hbox hb;have a0:=zA hbox;have d8:=zgs hg (zs0 HB);have b7:=zgs hg (zs0 HB);replace HB:=zE (zs0 HB) hb;clear hb hbox hg;obtain⟨f1,f2,f3,f4,f5⟩:=zd5 a0;obtain⟨f6,f7,f8,f9,g0⟩:=zn5 a0;have b8:0≤(a1:Int):=za;have b9:a1<(a2.length:Int):=za;obtain⟨d9,g1,a3,a4,a5,a6,a7,a8,a9⟩:=at_T43 d0.out a1 b8 b9;cases g1;replace a3:=zx HB a3;replace a4:=zx HB a4;replace a5:=zx HB a5;replace a6:=zx HB a6;replace a7:=zx HB a7;replace a8:=zx HB a8;replace a9:=zx HB a9;replace b8:=eq_true b8;replace b9:=eq_true b9;have c0:0≤(a1:Int):=za;have c1:a1<(a2.length:Int):=za;obtain⟨e0,g2,b0,b1,b2,b3,b4,b5,b6⟩:=at_T43 d0.out a1 c0 c1;obtain rfl:d9=e0:=(by injection g2);replace b0:=zx HB b0;replace b1:=zx HB b1;replace b2:=zx HB b2;replace b3:=zx HB b3;replace b4:=zx HB b4;replace b5:=zx HB b5;replace b6:=zx HB b6;replace c0:=eq_true c0;replace c1:=eq_true c1))
 repeat(go_quiet (first|((with_reducible refine gate_dst (N:=2) rfl ?_);refine zbx 2 #[.int .i64 d1,.int .i64 d2,.slice d3 a2.length d4,.int .i64 d5,.int .i64 d6] 27 ?_;intro d7 hg w8 hbox hb;have a0:=zA hbox;have d8:=zgs hg (zs0 HB);have b7:=zgs hg (zs0 HB);replace HB:=zE (zs0 HB) hb;clear hb hbox hg;obtain⟨f1,f2,f3,f4,f5⟩:=zd5 a0;obtain⟨f6,f7,f8,f9,g0⟩:=zn5 a0;have b8:0≤(a1:Int):=za;have b9:a1<(a2.length:Int):=za;obtain⟨d9,g1,a3,a4,a5,a6,a7,a8,a9⟩:=at_T43 d0.out a1 b8 b9;cases g1;replace a3:=zx HB a3;replace a4:=zx HB a4;replace a5:=zx HB a5;replace a6:=zx HB a6;replace a7:=zx HB a7;replace a8:=zx HB a8;replace a9:=zx HB a9;replace b8:=eq_true b8;replace b9:=eq_true b9;have c0:0≤(a1:Int):=za;have c1:a1<(a2.length:Int):=za;obtain⟨e0,g2,b0,b1,b2,b3,b4,b5,b6⟩:=at_T43 d0.out a1 c0 c1;obtain rfl:d9=e0:=(by injection g2);replace b0:=zx HB b0;replace b1:=zx HB b1;replace b2:=zx HB b2;replace b3:=zx HB b3;replace b4:=zx HB b4;replace b5:=zx HB b5;replace b6:=zx HB b6;replace c0:=eq_true c0;replace c1:=eq_true c1));try go_wp2_with (first|((with_reducible refine gate_dst (N:=2) rfl ?_);refine zbx 2 #[.int .i64 d1,.int .i64 d2,.slice d3 a2.length d4,.int .i64 d5,.int .i64 d6] 27 ?_;intro d7 hg w8 hbox hb;have a0:=zA hbox;have d8:=zgs hg (zs0 HB);have b7:=zgs hg (zs0 HB);replace HB:=zE (zs0 HB) hb;clear hb hbox hg;obtain⟨f1,f2,f3,f4,f5⟩:=zd5 a0;obtain⟨f6,f7,f8,f9,g0⟩:=zn5 a0;have b8:0≤(a1:Int):=za;have b9:a1<(a2.length:Int):=za;obtain⟨d9,g1,a3,a4,a5,a6,a7,a8,a9⟩:=at_T43 d0.out a1 b8 b9;cases g1;replace a3:=zx HB a3;replace a4:=zx HB a4;replace a5:=zx HB a5;replace a6:=zx HB a6;replace a7:=zx HB a7;replace a8:=zx HB a8;replace a9:=zx HB a9;replace b8:=eq_true b8;replace b9:=eq_true b9;have c0:0≤(a1:Int):=za;have c1:a1<(a2.length:Int):=za;obtain⟨e0,g2,b0,b1,b2,b3,b4,b5,b6⟩:=at_T43 d0.out a1 c0 c1;obtain rfl:d9=e0:=(by injection g2);replace b0:=zx HB b0;replace b1:=zx HB b1;replace b2:=zx HB b2;replace b3:=zx HB b3;replace b4:=zx HB b4;replace b5:=zx HB b5;replace b6:=zx HB b6;replace c0:=eq_true c0;replace c1:=eq_true c1)))
 go_ret2
 exact⟨ze,zs1 HB b7⟩
end Go.Proofs.Ytcokhiclencmdaa.QFnFlyShift
