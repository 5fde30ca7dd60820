/- The walk of what the law FnFlyShift reaches: laid by a program of this session (ownprint.py). -/
import Derived.Test.YtcokhiclencmdaaQFnFlyShiftx0
import Derived.Test.YtcokhiclencmdaaQFnFlyShiftx12
namespace Go.Proofs.Ytcokhiclencmdaa.QFnFlyShift
open Go.RowKit Go.Proofs.YtcokhiclencmdaaW.PrintWords Go.Proofs.YtcokhiclencmdaaW.PrintLast Go.Proofs.YtcokhiclencmdaaW.PrintMore Go.Proofs.Ytcokhiclencmdaa.Z
attribute [local go_sem] max2_int min2_int max_two min_two max_three min_three max_four min_four zdn   -- for this text's walks alone
set_option linter.unusedVariables false
set_option linter.unusedSimpArgs false
mutual
def impl_FlyPathOk.j0:Nat→Bool→Int→Int→List (S43)→Int→Int→Option (Bool)
 |0,_,_,_,_,_,_=>none
 |k+1,x24,a1,a2,a0,a3,a4=>if x24=true then(some false)else(impl_FlyPathOk.l0 k a0 (a0.length:Int) 0 a1 a2 a0 a3 a4)
def impl_FlyPathOk.l0:Nat→List (S43)→Int→Int→Int→Int→List (S43)→Int→Int→Option (Bool)
 |0,_,_,_,_,_,_,_,_=>none
 |k+1,x26,x27,x28,a0,a1,a2,a3,a4=>if x28<x27 then(if 0≤x28 then(if x28<(x26.length:Int)then((impl_within.f ((rd_T43 x26 x28).f0) 0 15).bind fun a5=>(if a5=true then((impl_within.f ((rd_T43 x26 x28).f1) 0 15).bind fun a6=>(if a6=true then(if 0≤((rd_T43 x26 x28).f2)then(if((rd_T43 x26 x28).f2)≤((rd_T43 x26 x28).f3)then(if(((rd_T43 x26 x28).f3)≤6)then((impl_window.f ((rd_T43 x26 x28).f4) ((rd_T43 x26 x28).f5)).bind fun a7=>(impl_FlyPathOk.j2 k x28 x26 x27 x28 (!a7) a0 a1 a2 a3 a4 ((rd_T43 x26 x28).f0) ((rd_T43 x26 x28).f1) ((rd_T43 x26 x28).f2) ((rd_T43 x26 x28).f3) ((rd_T43 x26 x28).f4) ((rd_T43 x26 x28).f5) ((rd_T43 x26 x28).f6)))else(impl_FlyPathOk.j2 k x28 x26 x27 x28 true a0 a1 a2 a3 a4 ((rd_T43 x26 x28).f0) ((rd_T43 x26 x28).f1) ((rd_T43 x26 x28).f2) ((rd_T43 x26 x28).f3) ((rd_T43 x26 x28).f4) ((rd_T43 x26 x28).f5) ((rd_T43 x26 x28).f6)))else(impl_FlyPathOk.j2 k x28 x26 x27 x28 true a0 a1 a2 a3 a4 ((rd_T43 x26 x28).f0) ((rd_T43 x26 x28).f1) ((rd_T43 x26 x28).f2) ((rd_T43 x26 x28).f3) ((rd_T43 x26 x28).f4) ((rd_T43 x26 x28).f5) ((rd_T43 x26 x28).f6)))else(impl_FlyPathOk.j2 k x28 x26 x27 x28 true a0 a1 a2 a3 a4 ((rd_T43 x26 x28).f0) ((rd_T43 x26 x28).f1) ((rd_T43 x26 x28).f2) ((rd_T43 x26 x28).f3) ((rd_T43 x26 x28).f4) ((rd_T43 x26 x28).f5) ((rd_T43 x26 x28).f6)))else(impl_FlyPathOk.j2 k x28 x26 x27 x28 true a0 a1 a2 a3 a4 ((rd_T43 x26 x28).f0) ((rd_T43 x26 x28).f1) ((rd_T43 x26 x28).f2) ((rd_T43 x26 x28).f3) ((rd_T43 x26 x28).f4) ((rd_T43 x26 x28).f5) ((rd_T43 x26 x28).f6))))else(impl_FlyPathOk.j2 k x28 x26 x27 x28 true a0 a1 a2 a3 a4 ((rd_T43 x26 x28).f0) ((rd_T43 x26 x28).f1) ((rd_T43 x26 x28).f2) ((rd_T43 x26 x28).f3) ((rd_T43 x26 x28).f4) ((rd_T43 x26 x28).f5) ((rd_T43 x26 x28).f6))))else(none))else(none))else(some true)
def impl_FlyPathOk.j2:Nat→Int→List (S43)→Int→Int→Bool→Int→Int→List (S43)→Int→Int→Int→Int→Int→Int→Int→Int→Bool→Option (Bool)
 |0,_,_,_,_,_,_,_,_,_,_,_,_,_,_,_,_,_=>none
 |k+1,x3,x26,x27,x28,x68,a1,a2,a0,a3,a4,a5,a6,a7,a8,a9,b0,b1=>if x68=true then(some false)else(if x3=0 then(impl_FlyPathOk.l0 k x26 x27 (wrap64 (x28+1)) a1 a2 a0 a3 a4)else(if 0≤(wrap64 (x3-1))then(if(wrap64 (x3-1))<(a0.length:Int)then(if((rd_T43 a0 (wrap64 (x3-1))).f0)=a5 then(if((rd_T43 a0 (wrap64 (x3-1))).f1)=a6 then(some false)else((impl_dist.f ((rd_T43 a0 (wrap64 (x3-1))).f0) a5).bind fun b2=>(if b2>1 then(some false)else((impl_dist.f ((rd_T43 a0 (wrap64 (x3-1))).f1) a6).bind fun b3=>(if b3>1 then(some false)else(if((rd_T43 a0 (wrap64 (x3-1))).f2)>a8 then(some false)else(if a7>((rd_T43 a0 (wrap64 (x3-1))).f3)then(some false)else(impl_FlyPathOk.l0 k x26 x27 (wrap64 (x28+1)) a1 a2 a0 a3 a4))))))))else((impl_dist.f ((rd_T43 a0 (wrap64 (x3-1))).f0) a5).bind fun b4=>(if b4>1 then(some false)else((impl_dist.f ((rd_T43 a0 (wrap64 (x3-1))).f1) a6).bind fun b5=>(if b5>1 then(some false)else(if((rd_T43 a0 (wrap64 (x3-1))).f2)>a8 then(some false)else(if a7>((rd_T43 a0 (wrap64 (x3-1))).f3)then(some false)else(impl_FlyPathOk.l0 k x26 x27 (wrap64 (x28+1)) a1 a2 a0 a3 a4))))))))else(none))else(none)))
end
def impl_FlyPathOk.f (k:Nat) (a0:Int) (a1:Int) (a2:List (S43)) (a3:Int) (a4:Int):Option (Bool):=(impl_FlyKindOk.f a0 a1).bind fun a5=>(if a5=true then((impl_within.f (a2.length:Int) 1 40).bind fun a6=>(if a6=true then((impl_window.f a3 a4).bind fun a7=>(impl_FlyPathOk.j0 k (!a7) a0 a1 a2 a3 a4))else(impl_FlyPathOk.j0 k true a0 a1 a2 a3 a4)))else(impl_FlyPathOk.j0 k true a0 a1 a2 a3 a4))
set_option maxHeartbeats 8000000 in
set_option maxRecDepth 100000 in
theorem impl_FlyPathOk.calls (k:Nat) (e0:Int) (e1:Int) (o3:Option Addr) (n5:Nat) (a1:List (S43)) (e2:Int) (e3:Int) (r:Bool) (w:World) (hr0_2:Kd.C k43 w o3 a1.length a1) (hc0_2:a1.length≤n5) (h:impl_FlyPathOk.f k e0 e1 a1 e2 e3=some r):
 Calls Try.prog 12 #[.agg #[.int .i64 e0,.int .i64 e1,.slice o3 a1.length n5,.int .i64 e2,.int .i64 e3]] w fun e w'=>e= .returned (.bool r)∧Below w.heap.size w w':=by
 have ng:=Try.underlying27;have nh:=Try.underlying24;have ni:=Try.underlying43;have d5:=zA hr0_2;have kt:=zA hc0_2;clear hr0_2 hc0_2;have HB:=zA (Below.refl w.heap.size w);have H:=h;clear h;unfold impl_FlyPathOk.f at H;have jh:=zA H;clear H
 go_enter Try.func12,Try.ntmps12
 go_upto_region 1 with(first|((with_reducible refine gate_dst (N:=1) rfl ?_);(try(refine gate_guard (by rfl) ?_;dsimp only));refine zbx 1 #[.int .i64 e0,.int .i64 e1,.slice o3 a1.length n5,.int .i64 e2,.int .i64 e3] 27 ?_;intro o4 hg w3 hbox hb;have a2:=zA hbox;have ku:=zgs hg (zs0 HB);have a4:=zgs hg (zs0 HB);replace HB:=zE (zs0 HB) hb;clear hb hbox hg))
 (try simp only[Act.put,List.setIfInBounds_toArray,List.set_cons_zero,List.set_cons_succ])
 go_cut [24] (fun nj wc=> ∃(kq:Nat) (m4:Bool),nj= .bool m4∧Aside0 (impl_FlyPathOk.j0 kq m4 e0 e1 a1 e2 e3=some r)∧Aside0 (kq≤k)∧Aside0 (wc.heap[o4]?=some (.cells #[.int .i64 e0,.int .i64 e1,(.slice o3 a1.length n5),.int .i64 e2,.int .i64 e3] 27 (0,0)))∧Aside0 (Below w.heap.size w wc))
 case first=>
  have H:=jh.out;clear jh;replace H:=zbd H;obtain⟨ji,A4,H⟩:=H
  by_cases c5:ji=true
  rotate_left
  ·replace c5:=Bool.eq_false_iff.mpr c5
   subst c5;rw[if_neg zfn]at H;have H':=zA H;clear H;obtain⟨e5,e6,e7,e8,e9⟩:=zd5 a2;obtain⟨f7,f8,f9,g0,g1⟩:=zn5 a2
   go_wp2_with (first|((with_reducible refine gate_callee (f:=21) rfl ?_);refine zgl (N:=some 8) Try.func21 #[.agg #[.int .i64 e0,.int .i64 e1]] ?_;(with_reducible refine(impl_FlyKindOk.calls e0 e1 false _ A4.out).mono ?_);rintro e nu ⟨rfl,hb⟩;refine⟨_,rfl,?_⟩;replace a2:=zb a2 hb;replace HB:=zE (zs1 HB a4) hb;(try clear hb);(try clear hb2);(try clear hk);(try clear hi)))
   go_meet
   case rel=>exact⟨_,(true),zi,H',⟨by first|omega|exact Nat.le_refl _⟩,⟨zh a2⟩,⟨zs1 HB a4⟩⟩
  subst c5;rw[if_pos rfl]at H;replace H:=zbd H;obtain⟨jj,A6,H⟩:=H
  by_cases c7:jj=true
  rotate_left
  ·replace c7:=Bool.eq_false_iff.mpr c7
   subst c7;rw[if_neg zfn]at H;have H':=zA H;clear H;obtain⟨g2,g3,g4,g5,g6⟩:=zd5 a2;obtain⟨g7,g8,g9,h0,h1⟩:=zn5 a2
   go_wp2_with (first|((with_reducible refine gate_callee (f:=21) rfl ?_);refine zgl (N:=some 8) Try.func21 #[.agg #[.int .i64 e0,.int .i64 e1]] ?_;(with_reducible refine(impl_FlyKindOk.calls e0 e1 true _ A4.out).mono ?_);rintro e nv ⟨rfl,hb⟩;refine⟨_,rfl,?_⟩;replace a2:=zb a2 hb;replace HB:=zE (zs1 HB a4) hb;(try clear hb);(try clear hb2);(try clear hk);(try clear hi);obtain⟨h2,h3,h4,h5,h6⟩:=zd5 a2;obtain⟨h7,h8,h9,i0,i1⟩:=zn5 a2)|(go_at_call 13;(with_reducible refine(impl_within.calls (a1.length:Int) 1 40 false _ A6.out).mono ?_);rintro e w' ⟨rfl,⟨nd,rfl⟩⟩))
   go_meet
   case rel=>exact⟨_,(true),zi,H',⟨by first|omega|exact Nat.le_refl _⟩,⟨zh a2⟩,⟨zs1 HB a4⟩⟩
  subst c7;rw[if_pos rfl]at H;replace H:=zbd H;obtain⟨D1,A8,H⟩:=H;have H':=zA H;clear H;obtain⟨k8,k9,l4,l5,l6⟩:=zd5 a2;obtain⟨l7,l8,l9,m0,m1⟩:=zn5 a2
  go_wp2_with (first|((with_reducible refine gate_callee (f:=21) rfl ?_);refine zgl (N:=some 8) Try.func21 #[.agg #[.int .i64 e0,.int .i64 e1]] ?_;(with_reducible refine(impl_FlyKindOk.calls e0 e1 true _ A4.out).mono ?_);rintro e nw ⟨rfl,hb⟩;refine⟨_,rfl,?_⟩;replace a2:=zb a2 hb;replace HB:=zE (zs1 HB a4) hb;(try clear hb);(try clear hb2);(try clear hk);(try clear hi);obtain⟨i2,i3,i4,i5,i6⟩:=zd5 a2;obtain⟨i7,i8,i9,j5,j6⟩:=zn5 a2)|(go_at_call 13;(with_reducible refine(impl_within.calls (a1.length:Int) 1 40 true _ A6.out).mono ?_);rintro e w' ⟨rfl,⟨nd,rfl⟩⟩)|(go_at_call 22;(with_reducible refine(impl_window.calls e2 e3 D1 _ A8.out).mono ?_);rintro e w' ⟨rfl,⟨nd,rfl⟩⟩))
  go_meet
  case rel=>exact⟨_,(!D1),zi,H',⟨by first|omega|exact Nat.le_refl _⟩,⟨zh a2⟩,⟨zs1 HB a4⟩⟩
 case rest=>
  clear jh
  try clear c1
  try clear c2
  try clear p2
  try clear c5
  try clear c7
  try clear kv
  try clear i2 i3 i4 i5 i6
  try clear g2 g3 g4 g5 g6
  try clear h2 h3 h4 h5 h6
  try clear e5 e6 e7 e8 e9
  try clear k8 k9 l4 l5 l6
  try clear i7 i8 i9 j5 j6
  try clear g7 g8 g9 h0 h1
  try clear h7 h8 h9 i0 i1
  try clear f7 f8 f9 g0 g1
  try clear l7 l8 l9 m0 m1
  obtain⟨kq,m4,rfl,HA,o1,a2,HB⟩:=hcut
  cases kq with
  |zero=>exact absurd HA.out (by simp[impl_FlyPathOk.j0])
  |succ kw=>
   have H:=HA.out;clear HA;simp only[impl_FlyPathOk.j0]at H
   by_cases C5:m4=true
   ·subst C5
    rw[if_pos rfl]at H;obtain rfl:=Option.some.inj H
    go_wp2
    go_ret;exact⟨ze,zs1 HB a4⟩
   replace C5:=Bool.eq_false_iff.mpr C5;subst C5;rw[if_neg zfn]at H;have H':=zA H;clear H;obtain⟨m5,m6,m7,m8,m9⟩:=zd5 a2;obtain⟨n0,n1,n2,n3,n4⟩:=zn5 a2
   go_wp2
   go_loopg [28] kw (fun kq nk w'=> ∃(a0:Int),nk= .int .i64 a0∧Aside0 (impl_FlyPathOk.l0 kq a1 (a1.length:Int) a0 e0 e1 a1 e2 e3=some r)∧Aside0 (kq≤kw)∧Aside0 (w'.heap[o4]?=some (.cells #[.int .i64 e0,.int .i64 e1,(.slice o3 a1.length n5),.int .i64 e2,.int .i64 e3] 27 (0,0)))∧Aside0 (Below w.heap.size w w'))
   case atStart=>exact⟨(0),zi,H',⟨Nat.le_refl _⟩,⟨zh a2⟩,⟨zs1 HB a4⟩⟩
   case round=>
    clear H'
    try clear c1
    try clear c2
    try clear p2
    try clear c5
    try clear c7
    try clear kv
    try clear C5
    try clear i2 i3 i4 i5 i6
    try clear g2 g3 g4 g5 g6
    try clear h2 h3 h4 h5 h6
    try clear e5 e6 e7 e8 e9
    try clear m5 m6 m7 m8 m9
    try clear k8 k9 l4 l5 l6
    try clear i7 i8 i9 j5 j6
    try clear g7 g8 g9 h0 h1
    try clear h7 h8 h9 i0 i1
    try clear f7 f8 f9 g0 g1
    try clear n0 n1 n2 n3 n4
    try clear l7 l8 l9 m0 m1
    try clear p2
    obtain⟨a0,rfl,HA,o2,a2,HB⟩:=hrel
    cases gk with
    |zero=>exact absurd HA.out (by simp[impl_FlyPathOk.l0])
    |succ k2=>
     have H:=HA.out;clear HA;simp only[impl_FlyPathOk.l0]at H
     by_cases A5:a0<(a1.length:Int)
     rotate_left
     ·rw[if_neg A5]at H
      have A1:decide (a0<(a1.length:Int))=false:=decide_eq_false A5;clear A5;obtain rfl:=Option.some.inj H
      go_wp2
      go_ret;exact⟨ze,zs1 HB a4⟩
     rw[if_pos A5]at H;have A1:decide (a0<(a1.length:Int))=true:=decide_eq_true A5;clear A5;replace H:=zif H;obtain⟨D2,H⟩:=H
     by_cases D3:a0<(a1.length:Int)
     rotate_left
     ·rw[if_neg D3]at H
      exact absurd H (by simp)
     rw[if_pos D3]at H;have D4:decide (a0<(a1.length:Int))=true:=decide_eq_true D3;clear D3;have A7:=zA H;clear H;have o6:0≤(a0:Int):=za;have o7:a0<(a1.length:Int):=za;obtain⟨d6,jk,j7,j8,j9,k0,k1,k3,k4⟩:=at_T43 d5.out a0 o6 o7;cases jk;replace j7:=zx HB j7;replace j8:=zx HB j8;replace j9:=zx HB j9;replace k0:=zx HB k0;replace k1:=zx HB k1;replace k3:=zx HB k3;replace k4:=zx HB k4;replace o6:=eq_true o6;replace o7:=eq_true o7
     go_upto_region 6 with(first|((with_reducible refine gate_dst (N:=4) rfl ?_);(try(refine gate_guard (by rfl) ?_;dsimp only));refine zbx 4 #[.int .i64 0,.int .i64 0,.int .i64 0,.int .i64 0,.int .i64 0,.int .i64 0,.bool false] 43 ?_;intro D5 hg nx hbox hb;have a3:=zA hbox;have kx:=zgs hg (zs1 HB a4);have b4:=zgs hg (zs1 HB a4);have a5:=zne hg a2;have b9:=znf hg a2;replace a2:=zb a2 hb;replace HB:=zE (zs1 HB a4) hb;clear hb hbox hg;have ky:=b9.out;have kz:=a5.out;obtain⟨o8,o9,p0,p1,p4,p5,p6⟩:=zd7 a3;obtain⟨p7,p8,p9,q0,q1,q2,q4⟩:=zn7 a3))
     (try simp only[Act.put,List.setIfInBounds_toArray,List.set_cons_zero,List.set_cons_succ])
     go_cut [68] (fun nl wc=> ∃(kq:Nat) (k5:Bool),nl= .bool k5∧Aside0 (impl_FlyPathOk.j2 kq a0 a1 (a1.length:Int) a0 k5 e0 e1 a1 e2 e3 ((rd_T43 a1 a0).f0) ((rd_T43 a1 a0).f1) ((rd_T43 a1 a0).f2) ((rd_T43 a1 a0).f3) ((rd_T43 a1 a0).f4) ((rd_T43 a1 a0).f5) ((rd_T43 a1 a0).f6)=some r)∧Aside0 (kq≤k2)∧Aside0 (wc.heap[o4]?=some (.cells #[.int .i64 e0,.int .i64 e1,(.slice (some d6) a1.length n5),.int .i64 e2,.int .i64 e3] 27 (0,0)))∧Aside0 (wc.heap[D5]?=some (.cells #[.int .i64 ((rd_T43 a1 a0).f0),.int .i64 ((rd_T43 a1 a0).f1),.int .i64 ((rd_T43 a1 a0).f2),.int .i64 ((rd_T43 a1 a0).f3),.int .i64 ((rd_T43 a1 a0).f4),.int .i64 ((rd_T43 a1 a0).f5),.bool ((rd_T43 a1 a0).f6)] 43 (0,0)))∧Aside0 (Below w.heap.size w wc))
     case first=>
      have H:=A7.out;clear A7;replace H:=zbd H;obtain⟨jl,C6,H⟩:=H
      by_cases D6:jl=true
      rotate_left
      ·replace D6:=Bool.eq_false_iff.mpr D6
       subst D6;rw[if_neg zfn]at H;have H':=zA H;clear H;have la:=b9.out;have lb:=a5.out;obtain⟨q5,q6,q7,q8,q9,r0,r1⟩:=zd7 a3;obtain⟨r2,r3,r4,r5,r6,r7,r8⟩:=zn7 a3
       go_wp2_with (first|((with_reducible refine gate_callee (f:=13) rfl ?_);refine zgl (N:=some 35) Try.func13 #[.int .i64 ((rd_T43 a1 a0).f0),.int .i64 0,.int .i64 15] ?_;(with_reducible refine(impl_within.calls ((rd_T43 a1 a0).f0) 0 15 false _ C6.out).mono ?_);rintro e w' ⟨rfl,⟨nd,rfl⟩⟩;refine⟨_,rfl,?_⟩))
       go_meet
       case rel=>exact⟨_,(true),zi,H',⟨by have:=o1.out;have:=o2.out;first|omega|exact Nat.le_refl _⟩,⟨zpf a2 a5⟩,⟨zpb a3⟩,⟨zs2 HB a4 b4⟩⟩
      subst D6;rw[if_pos rfl]at H;replace H:=zbd H;obtain⟨jm,D7,H⟩:=H
      by_cases D8:jm=true
      rotate_left
      ·replace D8:=Bool.eq_false_iff.mpr D8
       subst D8;rw[if_neg zfn]at H;have H':=zA H;clear H;have lc:=b9.out;have ld:=a5.out;obtain⟨r9,s0,s1,s2,s3,s4,s5⟩:=zd7 a3;obtain⟨s6,s7,s8,s9,t0,t1,t2⟩:=zn7 a3
       go_wp2_with (first|((with_reducible refine gate_callee (f:=13) rfl ?_);refine zgl (N:=some 35) Try.func13 #[.int .i64 ((rd_T43 a1 a0).f0),.int .i64 0,.int .i64 15] ?_;(with_reducible refine(impl_within.calls ((rd_T43 a1 a0).f0) 0 15 true _ C6.out).mono ?_);rintro e w' ⟨rfl,⟨nd,rfl⟩⟩;refine⟨_,rfl,?_⟩)|(go_at_call 13;(with_reducible refine(impl_within.calls ((rd_T43 a1 a0).f1) 0 15 false _ D7.out).mono ?_);rintro e w' ⟨rfl,⟨nd,rfl⟩⟩))
       go_meet
       case rel=>exact⟨_,(true),zi,H',⟨by have:=o1.out;have:=o2.out;first|omega|exact Nat.le_refl _⟩,⟨zpf a2 a5⟩,⟨zpb a3⟩,⟨zs2 HB a4 b4⟩⟩
      subst D8;rw[if_pos rfl]at H
      by_cases A9:0≤((rd_T43 a1 a0).f2)
      rotate_left
      ·rw[if_neg A9]at H
       have e4:decide (0≤((rd_T43 a1 a0).f2))=false:=decide_eq_false A9;clear A9;(first|rw[e4]|(simp only[i64_w,i32_w];rw[e4])|skip);have H':=zA H;clear H;have lf:=b9.out;have lg:=a5.out;obtain⟨t3,t4,t5,t6,t7,t8,t9⟩:=zd7 a3;obtain⟨v0,v1,v2,v3,v4,v5,v6⟩:=zn7 a3
       go_wp2_with (first|((with_reducible refine gate_callee (f:=13) rfl ?_);refine zgl (N:=some 35) Try.func13 #[.int .i64 ((rd_T43 a1 a0).f0),.int .i64 0,.int .i64 15] ?_;(with_reducible refine(impl_within.calls ((rd_T43 a1 a0).f0) 0 15 true _ C6.out).mono ?_);rintro e w' ⟨rfl,⟨nd,rfl⟩⟩;refine⟨_,rfl,?_⟩)|(go_at_call 13;(with_reducible refine(impl_within.calls ((rd_T43 a1 a0).f1) 0 15 true _ D7.out).mono ?_);rintro e w' ⟨rfl,⟨nd,rfl⟩⟩))
       go_meet
       case rel=>exact⟨_,(true),zi,H',⟨by have:=o1.out;have:=o2.out;first|omega|exact Nat.le_refl _⟩,⟨zpf a2 a5⟩,⟨zpb a3⟩,⟨zs2 HB a4 b4⟩⟩
      rw[if_pos A9]at H;have e4:decide (0≤((rd_T43 a1 a0).f2))=true:=decide_eq_true A9;clear A9;(first|rw[e4]|(simp only[i64_w,i32_w];rw[e4])|skip)
      by_cases B0:((rd_T43 a1 a0).f2)≤((rd_T43 a1 a0).f3)
      rotate_left
      ·rw[if_neg B0]at H
       have A2:decide (((rd_T43 a1 a0).f2)≤((rd_T43 a1 a0).f3))=false:=decide_eq_false B0;clear B0;have H':=zA H;clear H;have lh:=b9.out;have li:=a5.out;obtain⟨v7,v8,v9,w0,w1,w2,w4⟩:=zd7 a3;obtain⟨w5,w6,w7,w8,w9,x0,x1⟩:=zn7 a3
       go_wp2_with (first|((with_reducible refine gate_callee (f:=13) rfl ?_);refine zgl (N:=some 35) Try.func13 #[.int .i64 ((rd_T43 a1 a0).f0),.int .i64 0,.int .i64 15] ?_;(with_reducible refine(impl_within.calls ((rd_T43 a1 a0).f0) 0 15 true _ C6.out).mono ?_);rintro e w' ⟨rfl,⟨nd,rfl⟩⟩;refine⟨_,rfl,?_⟩)|(go_at_call 13;(with_reducible refine(impl_within.calls ((rd_T43 a1 a0).f1) 0 15 true _ D7.out).mono ?_);rintro e w' ⟨rfl,⟨nd,rfl⟩⟩))
       go_meet
       case rel=>exact⟨_,(true),zi,H',⟨by have:=o1.out;have:=o2.out;first|omega|exact Nat.le_refl _⟩,⟨zpf a2 a5⟩,⟨zpb a3⟩,⟨zs2 HB a4 b4⟩⟩
      rw[if_pos B0]at H;have A2:decide (((rd_T43 a1 a0).f2)≤((rd_T43 a1 a0).f3))=true:=decide_eq_true B0;clear B0
      by_cases B1:(((rd_T43 a1 a0).f3)≤6)
      rotate_left
      ·rw[if_neg B1]at H
       have A3:decide (((rd_T43 a1 a0).f3)≤6)=false:=decide_eq_false B1;clear B1;have H':=zA H;clear H;have lj:=b9.out;have lk:=a5.out;obtain⟨x2,x3,x4,x5,x6,x7,x8⟩:=zd7 a3;obtain⟨x9,y0,y1,y2,y3,y4,y5⟩:=zn7 a3
       go_wp2_with (first|((with_reducible refine gate_callee (f:=13) rfl ?_);refine zgl (N:=some 35) Try.func13 #[.int .i64 ((rd_T43 a1 a0).f0),.int .i64 0,.int .i64 15] ?_;(with_reducible refine(impl_within.calls ((rd_T43 a1 a0).f0) 0 15 true _ C6.out).mono ?_);rintro e w' ⟨rfl,⟨nd,rfl⟩⟩;refine⟨_,rfl,?_⟩)|(go_at_call 13;(with_reducible refine(impl_within.calls ((rd_T43 a1 a0).f1) 0 15 true _ D7.out).mono ?_);rintro e w' ⟨rfl,⟨nd,rfl⟩⟩))
       go_meet
       case rel=>exact⟨_,(true),zi,H',⟨by have:=o1.out;have:=o2.out;first|omega|exact Nat.le_refl _⟩,⟨zpf a2 a5⟩,⟨zpb a3⟩,⟨zs2 HB a4 b4⟩⟩
      rw[if_pos B1]at H;have A3:decide (((rd_T43 a1 a0).f3)≤6)=true:=decide_eq_true B1;clear B1;replace H:=zbd H;obtain⟨D9,nm,H⟩:=H;have H':=zA H;clear H;have ll:=b9.out;have lm:=a5.out;obtain⟨y6,y7,y8,y9,z0,z1,z2⟩:=zd7 a3;obtain⟨z3,z4,z5,z6,z7,z8,z9⟩:=zn7 a3
      go_wp2_with (first|((with_reducible refine gate_callee (f:=13) rfl ?_);refine zgl (N:=some 35) Try.func13 #[.int .i64 ((rd_T43 a1 a0).f0),.int .i64 0,.int .i64 15] ?_;(with_reducible refine(impl_within.calls ((rd_T43 a1 a0).f0) 0 15 true _ C6.out).mono ?_);rintro e w' ⟨rfl,⟨nd,rfl⟩⟩;refine⟨_,rfl,?_⟩)|(go_at_call 13;(with_reducible refine(impl_within.calls ((rd_T43 a1 a0).f1) 0 15 true _ D7.out).mono ?_);rintro e w' ⟨rfl,⟨nd,rfl⟩⟩)|(go_at_call 22;(with_reducible refine(impl_window.calls ((rd_T43 a1 a0).f4) ((rd_T43 a1 a0).f5) D9 _ nm.out).mono ?_);rintro e w' ⟨rfl,⟨nd,rfl⟩⟩))
      go_meet
      case rel=>exact⟨_,(!D9),zi,H',⟨by have:=o1.out;have:=o2.out;first|omega|exact Nat.le_refl _⟩,⟨zpf a2 a5⟩,⟨zpb a3⟩,⟨zs2 HB a4 b4⟩⟩
     case rest=>
      clear A7
      try clear c1
      try clear c2
      try clear p2
      try clear c3
      try clear p3
      try clear q3
      try clear ny
      try clear c4
      try clear c5
      try clear c7
      try clear kv
      try clear nz
      try clear C5
      try clear A5
      try clear A1
      try clear oa
      try clear D2
      try clear D3
      try clear D4
      try clear ob
      try clear D6
      try clear D8
      try clear A9
      try clear e4
      try clear B0
      try clear A2
      try clear B1
      try clear A3
      try clear oc
      try clear od
      try clear oe
      try clear og
      try clear nn
      try clear oh
      try clear oi
      try clear oj
      try clear ok
      try clear i2 i3 i4 i5 i6
      try clear g2 g3 g4 g5 g6
      try clear h2 h3 h4 h5 h6
      try clear e5 e6 e7 e8 e9
      try clear m5 m6 m7 m8 m9
      try clear o8 o9 p0 p1 p4 p5 p6
      try clear y6 y7 y8 y9 z0 z1 z2
      try clear x2 x3 x4 x5 x6 x7 x8
      try clear v7 v8 v9 w0 w1 w2 w4
      try clear t3 t4 t5 t6 t7 t8 t9
      try clear r9 s0 s1 s2 s3 s4 s5
      try clear q5 q6 q7 q8 q9 r0 r1
      try clear k8 k9 l4 l5 l6
      try clear i7 i8 i9 j5 j6
      try clear g7 g8 g9 h0 h1
      try clear h7 h8 h9 i0 i1
      try clear f7 f8 f9 g0 g1
      try clear n0 n1 n2 n3 n4
      try clear p7 p8 p9 q0 q1 q2 q4
      try clear z3 z4 z5 z6 z7 z8 z9
      try clear x9 y0 y1 y2 y3 y4 y5
      try clear w5 w6 w7 w8 w9 x0 x1
      try clear v0 v1 v2 v3 v4 v5 v6
      try clear s6 s7 s8 s9 t0 t1 t2
      try clear r2 r3 r4 r5 r6 r7 r8
      try clear l7 l8 l9 m0 m1
      try clear j7
      try clear j8
      try clear j9
      try clear k0
      try clear k1
      try clear k3
      try clear k4
      try clear p2
      try clear o6
      try clear o7
      obtain⟨kq,k5,rfl,HA,n6,a2,a3,HB⟩:=hcut
      cases kq with
      |zero=>exact absurd HA.out (by simp[impl_FlyPathOk.j2])
      |succ B2=>
       have H:=HA.out;clear HA;simp only[impl_FlyPathOk.j2]at H
       by_cases aa:k5=true
       ·subst aa
        rw[if_pos rfl]at H;obtain rfl:=Option.some.inj H
        go_wp2
        go_ret;exact⟨ze,zs2 HB a4 b4⟩
       replace aa:=Bool.eq_false_iff.mpr aa;subst aa;rw[if_neg zfn]at H
       by_cases B5:a0=0
       ·rw[if_pos B5]at H
        have E0:(a0==0)=true:=beq_iff_eq.mpr B5;have E1:(a0 !=0)=false:=bne_eq_false_iff_eq.mpr B5;clear B5;have H':=zA H;clear H
        go_wp2
        go_roundg B2
        case measure=>have:=o1.out;have:=o2.out;have:=n6.out;omega
        case rel=>exact⟨(wrap64 (a0+1)),zi,H',⟨by have:=o1.out;have:=o2.out;have:=n6.out;omega⟩,⟨zh a2⟩,⟨zs2 HB a4 b4⟩⟩
       rw[if_neg B5]at H;have E0:(a0==0)=false:=beq_eq_false_iff_ne.mpr B5;have E1:(a0 !=0)=true:=bne_iff_ne.mpr B5;obtain⟨b5,d7⟩: ∃j_:Int,(wrap64 (a0-1))=j_:=⟨_,rfl⟩
       first|rw[d7]at H|simp only[d7]at H
       have jn:(IntKind.i64.wrap (a0-1))=b5:=(i64_w _).trans d7;replace H:=zif H;obtain⟨ln,H⟩:=H
       by_cases ab:(b5)<(a1.length:Int)
       rotate_left
       ·rw[if_neg ab]at H
        exact absurd H (by simp)
       rw[if_pos ab]at H;have lo:decide ((b5)<(a1.length:Int))=true:=decide_eq_true ab;clear ab
       by_cases B9:((rd_T43 a1 (b5)).f0)=((rd_T43 a1 a0).f0)
       rotate_left
       ·rw[if_neg B9]at H
        have E2:(((rd_T43 a1 (b5)).f0)==((rd_T43 a1 a0).f0))=false:=beq_eq_false_iff_ne.mpr B9;have E3:(((rd_T43 a1 (b5)).f0) !=((rd_T43 a1 a0).f0))=true:=bne_iff_ne.mpr B9;replace H:=zbd H;obtain⟨k6,o5,H⟩:=H
        by_cases n7:k6>1
        ·rw[if_pos n7]at H
         have C0:decide (1<k6)=true:=decide_eq_true n7;clear n7;obtain rfl:=Option.some.inj H;have jo:=a5.out;have jp:=b9.out;obtain⟨E4,E5,E6,E7,E8⟩:=zd5 a2;obtain⟨E9,F0,F1,F2,F3⟩:=zn5 a2;have d0:0≤((b5):Int):=za;have d1:(b5)<(a1.length:Int):=za;obtain⟨d2,d4,a7,a8,a9,b0,b1,b2,b3⟩:=at_T43 d5.out (b5) d0 d1;obtain rfl:d6=d2:=(by injection d4);replace a7:=zx HB a7;replace a8:=zx HB a8;replace a9:=zx HB a9;replace b0:=zx HB b0;replace b1:=zx HB b1;replace b2:=zx HB b2;replace b3:=zx HB b3;replace d0:=eq_true d0;replace d1:=eq_true d1
         go_wp2_with (first|((with_reducible refine gate_dst (N:=5) rfl ?_);(try(refine gate_guard (by rfl) ?_;dsimp only));refine zbx 5 #[.int .i64 0,.int .i64 0,.int .i64 0,.int .i64 0,.int .i64 0,.int .i64 0,.bool false] 43 ?_;intro d8 hg np hbox hb;have c0:=zA hbox;have d9:=zgs hg (zs2 HB a4 b4);have d3:=zgs hg (zs2 HB a4 b4);have a6:=zne hg a2;have b6:=znf hg a2;have b7:=zne hg a3;have b8:=znf hg a3;replace a2:=zb a2 hb;replace a3:=zb a3 hb;replace HB:=zE (zs2 HB a4 b4) hb;clear hb hbox hg;have jq:=b6.out;have jr:=a6.out;have js:=b8.out;have jt:=b7.out;obtain⟨F4,F5,F6,F7,F8,F9,G0⟩:=zd7 c0;obtain⟨G1,G2,G3,G4,G5,G6,G7⟩:=zn7 c0;obtain⟨G8,G9,H0,H1,H2,H3,H4⟩:=zd7 a3;obtain⟨H5,H6,H7,H8,H9,I0,I1⟩:=zn7 a3)|(go_at_call 23;(with_reducible refine(impl_dist.calls ((rd_T43 a1 (b5)).f0) ((rd_T43 a1 a0).f0) k6 _ o5.out).mono ?_);rintro e w' ⟨rfl,⟨nd,rfl⟩⟩))
         go_ret;exact⟨by first|rfl|(simp[errW_none,errW_some]<;>rfl)|(simp only[←d7];first|rfl|(simp[errW_none,errW_some]<;>rfl))|(simp[*,errW_none,errW_some]<;>rfl),zs3 HB a4 b4 d3⟩
        rw[if_neg n7]at H;have C0:decide (1<k6)=false:=decide_eq_false n7;clear n7;replace H:=zbd H;obtain⟨m2,A0,H⟩:=H
        by_cases n8:m2>1
        ·rw[if_pos n8]at H
         have C1:decide (1<m2)=true:=decide_eq_true n8;clear n8;obtain rfl:=Option.some.inj H;have ju:=a5.out;have jv:=b9.out;obtain⟨I2,I3,I4,I5,I6⟩:=zd5 a2;obtain⟨I7,I8,I9,J0,J1⟩:=zn5 a2;have d0:0≤((b5):Int):=za;have d1:(b5)<(a1.length:Int):=za;obtain⟨d2,d4,a7,a8,a9,b0,b1,b2,b3⟩:=at_T43 d5.out (b5) d0 d1;obtain rfl:d6=d2:=(by injection d4);replace a7:=zx HB a7;replace a8:=zx HB a8;replace a9:=zx HB a9;replace b0:=zx HB b0;replace b1:=zx HB b1;replace b2:=zx HB b2;replace b3:=zx HB b3;replace d0:=eq_true d0;replace d1:=eq_true d1
         go_wp2_with (first|((with_reducible refine gate_dst (N:=5) rfl ?_);(try(refine gate_guard (by rfl) ?_;dsimp only));refine zbx 5 #[.int .i64 0,.int .i64 0,.int .i64 0,.int .i64 0,.int .i64 0,.int .i64 0,.bool false] 43 ?_;intro d8 hg nq hbox hb;have c0:=zA hbox;have d9:=zgs hg (zs2 HB a4 b4);have d3:=zgs hg (zs2 HB a4 b4);have a6:=zne hg a2;have b6:=znf hg a2;have b7:=zne hg a3;have b8:=znf hg a3;replace a2:=zb a2 hb;replace a3:=zb a3 hb;replace HB:=zE (zs2 HB a4 b4) hb;clear hb hbox hg;have jw:=b6.out;have jx:=a6.out;have jy:=b8.out;have jz:=b7.out;obtain⟨J2,J3,J4,J5,J6,J7,J8⟩:=zd7 c0;obtain⟨J9,K0,K1,K2,K3,K4,K5⟩:=zn7 c0;obtain⟨K6,K7,K8,K9,L0,L1,L2⟩:=zd7 a3;obtain⟨L3,L4,L5,L6,L7,L8,L9⟩:=zn7 a3)|(go_at_call 23;(with_reducible refine(impl_dist.calls ((rd_T43 a1 (b5)).f0) ((rd_T43 a1 a0).f0) k6 _ o5.out).mono ?_);rintro e w' ⟨rfl,⟨nd,rfl⟩⟩)|(go_at_call 23;(with_reducible refine(impl_dist.calls ((rd_T43 a1 (b5)).f1) ((rd_T43 a1 a0).f1) m2 _ A0.out).mono ?_);rintro e w' ⟨rfl,⟨nd,rfl⟩⟩))
         go_ret;exact⟨by first|rfl|(simp[errW_none,errW_some]<;>rfl)|(simp only[←d7];first|rfl|(simp[errW_none,errW_some]<;>rfl))|(simp[*,errW_none,errW_some]<;>rfl),zs3 HB a4 b4 d3⟩
        rw[if_neg n8]at H;have C1:decide (1<m2)=false:=decide_eq_false n8;clear n8
        by_cases n9:((rd_T43 a1 (b5)).f2)>((rd_T43 a1 a0).f3)
        ·rw[if_pos n9]at H
         have C2:decide (((rd_T43 a1 a0).f3)<((rd_T43 a1 (b5)).f2))=true:=decide_eq_true n9;clear n9;obtain rfl:=Option.some.inj H;have ka:=a5.out;have kb:=b9.out;obtain⟨M0,M1,M2,M3,M4⟩:=zd5 a2;obtain⟨M5,M6,M7,M8,M9⟩:=zn5 a2;have d0:0≤((b5):Int):=za;have d1:(b5)<(a1.length:Int):=za;obtain⟨d2,d4,a7,a8,a9,b0,b1,b2,b3⟩:=at_T43 d5.out (b5) d0 d1;obtain rfl:d6=d2:=(by injection d4);replace a7:=zx HB a7;replace a8:=zx HB a8;replace a9:=zx HB a9;replace b0:=zx HB b0;replace b1:=zx HB b1;replace b2:=zx HB b2;replace b3:=zx HB b3;replace d0:=eq_true d0;replace d1:=eq_true d1
         go_wp2_with (first|((with_reducible refine gate_dst (N:=5) rfl ?_);(try(refine gate_guard (by rfl) ?_;dsimp only));refine zbx 5 #[.int .i64 0,.int .i64 0,.int .i64 0,.int .i64 0,.int .i64 0,.int .i64 0,.bool false] 43 ?_;intro d8 hg nr hbox hb;have c0:=zA hbox;have d9:=zgs hg (zs2 HB a4 b4);have d3:=zgs hg (zs2 HB a4 b4);have a6:=zne hg a2;have b6:=znf hg a2;have b7:=zne hg a3;have b8:=znf hg a3;replace a2:=zb a2 hb;replace a3:=zb a3 hb;replace HB:=zE (zs2 HB a4 b4) hb;clear hb hbox hg;have kc:=b6.out;have kd:=a6.out;have ke:=b8.out;have kf:=b7.out;obtain⟨N0,N1,N2,N3,N4,N5,N6⟩:=zd7 c0;obtain⟨N7,N8,N9,O0,O1,O2,O3⟩:=zn7 c0;obtain⟨O4,O5,O6,O7,O8,O9,P0⟩:=zd7 a3;obtain⟨P1,P2,P3,P4,P5,P6,P7⟩:=zn7 a3)|(go_at_call 23;(with_reducible refine(impl_dist.calls ((rd_T43 a1 (b5)).f0) ((rd_T43 a1 a0).f0) k6 _ o5.out).mono ?_);rintro e w' ⟨rfl,⟨nd,rfl⟩⟩)|(go_at_call 23;(with_reducible refine(impl_dist.calls ((rd_T43 a1 (b5)).f1) ((rd_T43 a1 a0).f1) m2 _ A0.out).mono ?_);rintro e w' ⟨rfl,⟨nd,rfl⟩⟩))
         go_ret;exact⟨by first|rfl|(simp[errW_none,errW_some]<;>rfl)|(simp only[←d7];first|rfl|(simp[errW_none,errW_some]<;>rfl))|(simp[*,errW_none,errW_some]<;>rfl),zs3 HB a4 b4 d3⟩
        rw[if_neg n9]at H;have C2:decide (((rd_T43 a1 a0).f3)<((rd_T43 a1 (b5)).f2))=false:=decide_eq_false n9;clear n9
        by_cases o0:((rd_T43 a1 a0).f2)>((rd_T43 a1 (b5)).f3)
        ·rw[if_pos o0]at H
         have C3:decide (((rd_T43 a1 (b5)).f3)<((rd_T43 a1 a0).f2))=true:=decide_eq_true o0;clear o0;obtain rfl:=Option.some.inj H;have kg:=a5.out;have kh:=b9.out;obtain⟨P8,P9,Q0,Q1,Q2⟩:=zd5 a2;obtain⟨Q3,Q4,Q5,Q6,Q7⟩:=zn5 a2;have d0:0≤((b5):Int):=za;have d1:(b5)<(a1.length:Int):=za;obtain⟨d2,d4,a7,a8,a9,b0,b1,b2,b3⟩:=at_T43 d5.out (b5) d0 d1;obtain rfl:d6=d2:=(by injection d4);replace a7:=zx HB a7;replace a8:=zx HB a8;replace a9:=zx HB a9;replace b0:=zx HB b0;replace b1:=zx HB b1;replace b2:=zx HB b2;replace b3:=zx HB b3;replace d0:=eq_true d0;replace d1:=eq_true d1
         go_wp2_with (first|((with_reducible refine gate_dst (N:=5) rfl ?_);(try(refine gate_guard (by rfl) ?_;dsimp only));refine zbx 5 #[.int .i64 0,.int .i64 0,.int .i64 0,.int .i64 0,.int .i64 0,.int .i64 0,.bool false] 43 ?_;intro d8 hg ns hbox hb;have c0:=zA hbox;have d9:=zgs hg (zs2 HB a4 b4);have d3:=zgs hg (zs2 HB a4 b4);have a6:=zne hg a2;have b6:=znf hg a2;have b7:=zne hg a3;have b8:=znf hg a3;replace a2:=zb a2 hb;replace a3:=zb a3 hb;replace HB:=zE (zs2 HB a4 b4) hb;clear hb hbox hg;have ki:=b6.out;have kj:=a6.out;have kk:=b8.out;have kl:=b7.out;obtain⟨Q8,Q9,R0,R1,R2,R3,R4⟩:=zd7 c0;obtain⟨R5,R6,R7,R8,R9,S0,S1⟩:=zn7 c0;obtain⟨S2,S3,S4,S5,S6,S7,S8⟩:=zd7 a3;obtain⟨S9,T0,T1,T2,T5,T9,U0⟩:=zn7 a3)|(go_at_call 23;(with_reducible refine(impl_dist.calls ((rd_T43 a1 (b5)).f0) ((rd_T43 a1 a0).f0) k6 _ o5.out).mono ?_);rintro e w' ⟨rfl,⟨nd,rfl⟩⟩)|(go_at_call 23;(with_reducible refine(impl_dist.calls ((rd_T43 a1 (b5)).f1) ((rd_T43 a1 a0).f1) m2 _ A0.out).mono ?_);rintro e w' ⟨rfl,⟨nd,rfl⟩⟩))
         go_ret;exact⟨by first|rfl|(simp[errW_none,errW_some]<;>rfl)|(simp only[←d7];first|rfl|(simp[errW_none,errW_some]<;>rfl))|(simp[*,errW_none,errW_some]<;>rfl),zs3 HB a4 b4 d3⟩
        rw[if_neg o0]at H;have C3:decide (((rd_T43 a1 (b5)).f3)<((rd_T43 a1 a0).f2))=false:=decide_eq_false o0;clear o0;have H':=zA H;clear H;have km:=a5.out;have kn:=b9.out;obtain⟨U1,U2,U3,U4,U5⟩:=zd5 a2;obtain⟨U6,U7,U8,U9,V0⟩:=zn5 a2;have d0:0≤((b5):Int):=za;have d1:(b5)<(a1.length:Int):=za;obtain⟨d2,d4,a7,a8,a9,b0,b1,b2,b3⟩:=at_T43 d5.out (b5) d0 d1;obtain rfl:d6=d2:=(by injection d4);replace a7:=zx HB a7;replace a8:=zx HB a8;replace a9:=zx HB a9;replace b0:=zx HB b0;replace b1:=zx HB b1;replace b2:=zx HB b2;replace b3:=zx HB b3;replace d0:=eq_true d0;replace d1:=eq_true d1
        go_wp2_with (first|((with_reducible refine gate_dst (N:=5) rfl ?_);(try(refine gate_guard (by rfl) ?_;dsimp only));refine zbx 5 #[.int .i64 0,.int .i64 0,.int .i64 0,.int .i64 0,.int .i64 0,.int .i64 0,.bool false] 43 ?_;intro d8 hg nt hbox hb;have c0:=zA hbox;have d9:=zgs hg (zs2 HB a4 b4);have d3:=zgs hg (zs2 HB a4 b4);have a6:=zne hg a2;have b6:=znf hg a2;have b7:=zne hg a3;have b8:=znf hg a3;replace a2:=zb a2 hb;replace a3:=zb a3 hb;replace HB:=zE (zs2 HB a4 b4) hb;clear hb hbox hg;have ko:=b6.out;have kp:=a6.out;have kr:=b8.out;have ks:=b7.out;obtain⟨V1,V2,V3,V4,V5,V6,V7⟩:=zd7 c0;obtain⟨V8,V9,W0,W1,W2,W3,W4⟩:=zn7 c0;obtain⟨W5,W6,W7,W8,W9,X0,X1⟩:=zd7 a3;obtain⟨X2,X3,X4,X5,X6,X7,X8⟩:=zn7 a3)|(go_at_call 23;(with_reducible refine(impl_dist.calls ((rd_T43 a1 (b5)).f0) ((rd_T43 a1 a0).f0) k6 _ o5.out).mono ?_);rintro e w' ⟨rfl,⟨nd,rfl⟩⟩)|(go_at_call 23;(with_reducible refine(impl_dist.calls ((rd_T43 a1 (b5)).f1) ((rd_T43 a1 a0).f1) m2 _ A0.out).mono ?_);rintro e w' ⟨rfl,⟨nd,rfl⟩⟩))
        go_roundg B2
        case measure=>have:=o1.out;have:=o2.out;have:=n6.out;omega
        case rel=>exact⟨(wrap64 (a0+1)),zi,H',⟨by have:=o1.out;have:=o2.out;have:=n6.out;omega⟩,⟨zpf a2 a6⟩,⟨zs3 HB a4 b4 d3⟩⟩
       rw[if_pos B9]at H;have E2:(((rd_T43 a1 (b5)).f0)==((rd_T43 a1 a0).f0))=true:=beq_iff_eq.mpr B9;have E3:(((rd_T43 a1 (b5)).f0) !=((rd_T43 a1 a0).f0))=false:=bne_eq_false_iff_eq.mpr B9;clear B9
       by_cases C4:((rd_T43 a1 (b5)).f1)=((rd_T43 a1 a0).f1)
       ·rw[if_pos C4]at H
        have X9:(((rd_T43 a1 (b5)).f1)==((rd_T43 a1 a0).f1))=true:=beq_iff_eq.mpr C4;have Y0:(((rd_T43 a1 (b5)).f1) !=((rd_T43 a1 a0).f1))=false:=bne_eq_false_iff_eq.mpr C4;clear C4;obtain rfl:=Option.some.inj H;have lp:=a5.out;have lq:=b9.out;obtain⟨ad,ae,af,ag,ah⟩:=zd5 a2;obtain⟨ai,aj,ak,al,am⟩:=zn5 a2;have d0:0≤((b5):Int):=za;have d1:(b5)<(a1.length:Int):=za;obtain⟨d2,d4,a7,a8,a9,b0,b1,b2,b3⟩:=at_T43 d5.out (b5) d0 d1;obtain rfl:d6=d2:=(by injection d4);replace a7:=zx HB a7;replace a8:=zx HB a8;replace a9:=zx HB a9;replace b0:=zx HB b0;replace b1:=zx HB b1;replace b2:=zx HB b2;replace b3:=zx HB b3;replace d0:=eq_true d0;replace d1:=eq_true d1
        go_wp2_with (first|((with_reducible refine gate_dst (N:=5) rfl ?_);(try(refine gate_guard (by rfl) ?_;dsimp only));refine zbx 5 #[.int .i64 0,.int .i64 0,.int .i64 0,.int .i64 0,.int .i64 0,.int .i64 0,.bool false] 43 ?_;intro d8 hg ol hbox hb;have c0:=zA hbox;have d9:=zgs hg (zs2 HB a4 b4);have d3:=zgs hg (zs2 HB a4 b4);have a6:=zne hg a2;have b6:=znf hg a2;have b7:=zne hg a3;have b8:=znf hg a3;replace a2:=zb a2 hb;replace a3:=zb a3 hb;replace HB:=zE (zs2 HB a4 b4) hb;clear hb hbox hg;have lr:=b6.out;have ls:=a6.out;have lu:=b8.out;have lv:=b7.out;obtain⟨an,ao,ap,aq,ar,au,av⟩:=zd7 c0;obtain⟨aw,ax,ay,az,ba,bb,bc⟩:=zn7 c0;obtain⟨bd,be,bf,bg,bh,bi,bj⟩:=zd7 a3;obtain⟨bk,bl,bm,bn,bo,bp,bq⟩:=zn7 a3))
        go_ret;exact⟨by first|rfl|(simp[errW_none,errW_some]<;>rfl)|(simp only[←d7];first|rfl|(simp[errW_none,errW_some]<;>rfl))|(simp[*,errW_none,errW_some]<;>rfl),zs3 HB a4 b4 d3⟩
       rw[if_neg C4]at H;have X9:(((rd_T43 a1 (b5)).f1)==((rd_T43 a1 a0).f1))=false:=beq_eq_false_iff_ne.mpr C4;have Y0:(((rd_T43 a1 (b5)).f1) !=((rd_T43 a1 a0).f1))=true:=bne_iff_ne.mpr C4;replace H:=zbd H;obtain⟨k7,Y1,H⟩:=H
       by_cases C7:k7>1
       ·rw[if_pos C7]at H
        have Y2:decide (1<k7)=true:=decide_eq_true C7;clear C7;obtain rfl:=Option.some.inj H;have lw:=a5.out;have lx:=b9.out;obtain⟨br,bs,bu,bv,bw⟩:=zd5 a2;obtain⟨bx,bz,ca,cb,cc⟩:=zn5 a2;have d0:0≤((b5):Int):=za;have d1:(b5)<(a1.length:Int):=za;obtain⟨d2,d4,a7,a8,a9,b0,b1,b2,b3⟩:=at_T43 d5.out (b5) d0 d1;obtain rfl:d6=d2:=(by injection d4);replace a7:=zx HB a7;replace a8:=zx HB a8;replace a9:=zx HB a9;replace b0:=zx HB b0;replace b1:=zx HB b1;replace b2:=zx HB b2;replace b3:=zx HB b3;replace d0:=eq_true d0;replace d1:=eq_true d1
        go_wp2_with (first|((with_reducible refine gate_dst (N:=5) rfl ?_);(try(refine gate_guard (by rfl) ?_;dsimp only));refine zbx 5 #[.int .i64 0,.int .i64 0,.int .i64 0,.int .i64 0,.int .i64 0,.int .i64 0,.bool false] 43 ?_;intro d8 hg om hbox hb;have c0:=zA hbox;have d9:=zgs hg (zs2 HB a4 b4);have d3:=zgs hg (zs2 HB a4 b4);have a6:=zne hg a2;have b6:=znf hg a2;have b7:=zne hg a3;have b8:=znf hg a3;replace a2:=zb a2 hb;replace a3:=zb a3 hb;replace HB:=zE (zs2 HB a4 b4) hb;clear hb hbox hg;have ly:=b6.out;have lz:=a6.out;have ma:=b8.out;have mb:=b7.out;obtain⟨cd,ce,cf,cg,ch,ci,cj⟩:=zd7 c0;obtain⟨ck,cl,cm,cn,co,cp,cq⟩:=zn7 c0;obtain⟨cr,cs,ct,cu,cv,cw,cx⟩:=zd7 a3;obtain⟨cy,cz,da,db,dc,dd,de⟩:=zn7 a3)|(go_at_call 23;(with_reducible refine(impl_dist.calls ((rd_T43 a1 (b5)).f0) ((rd_T43 a1 a0).f0) k7 _ Y1.out).mono ?_);rintro e w' ⟨rfl,⟨nd,rfl⟩⟩))
        go_ret;exact⟨by first|rfl|(simp[errW_none,errW_some]<;>rfl)|(simp only[←d7];first|rfl|(simp[errW_none,errW_some]<;>rfl))|(simp[*,errW_none,errW_some]<;>rfl),zs3 HB a4 b4 d3⟩
       rw[if_neg C7]at H;have Y2:decide (1<k7)=false:=decide_eq_false C7;clear C7;replace H:=zbd H;obtain⟨m3,df,H⟩:=H
       by_cases C8:m3>1
       ·rw[if_pos C8]at H
        have Y3:decide (1<m3)=true:=decide_eq_true C8;clear C8;obtain rfl:=Option.some.inj H;have mc:=a5.out;have md:=b9.out;obtain⟨dg,dh,di,dj,dk⟩:=zd5 a2;obtain⟨dl,dm,dn,dp,dq⟩:=zn5 a2;have d0:0≤((b5):Int):=za;have d1:(b5)<(a1.length:Int):=za;obtain⟨d2,d4,a7,a8,a9,b0,b1,b2,b3⟩:=at_T43 d5.out (b5) d0 d1;obtain rfl:d6=d2:=(by injection d4);replace a7:=zx HB a7;replace a8:=zx HB a8;replace a9:=zx HB a9;replace b0:=zx HB b0;replace b1:=zx HB b1;replace b2:=zx HB b2;replace b3:=zx HB b3;replace d0:=eq_true d0;replace d1:=eq_true d1
        go_wp2_with (first|((with_reducible refine gate_dst (N:=5) rfl ?_);(try(refine gate_guard (by rfl) ?_;dsimp only));refine zbx 5 #[.int .i64 0,.int .i64 0,.int .i64 0,.int .i64 0,.int .i64 0,.int .i64 0,.bool false] 43 ?_;intro d8 hg oo hbox hb;have c0:=zA hbox;have d9:=zgs hg (zs2 HB a4 b4);have d3:=zgs hg (zs2 HB a4 b4);have a6:=zne hg a2;have b6:=znf hg a2;have b7:=zne hg a3;have b8:=znf hg a3;replace a2:=zb a2 hb;replace a3:=zb a3 hb;replace HB:=zE (zs2 HB a4 b4) hb;clear hb hbox hg;have mf:=b6.out;have mg:=a6.out;have mh:=b8.out;have mi:=b7.out;obtain⟨dr,ds,dt,du,dv,dw,dx⟩:=zd7 c0;obtain⟨dy,dz,ea,eb,ec,ed,ee⟩:=zn7 c0;obtain⟨ef,eg,eh,ei,ej,ek,el⟩:=zd7 a3;obtain⟨em,en,eo,ep,er,es,et⟩:=zn7 a3)|(go_at_call 23;(with_reducible refine(impl_dist.calls ((rd_T43 a1 (b5)).f0) ((rd_T43 a1 a0).f0) k7 _ Y1.out).mono ?_);rintro e w' ⟨rfl,⟨nd,rfl⟩⟩)|(go_at_call 23;(with_reducible refine(impl_dist.calls ((rd_T43 a1 (b5)).f1) ((rd_T43 a1 a0).f1) m3 _ df.out).mono ?_);rintro e w' ⟨rfl,⟨nd,rfl⟩⟩))
        go_ret;exact⟨by first|rfl|(simp[errW_none,errW_some]<;>rfl)|(simp only[←d7];first|rfl|(simp[errW_none,errW_some]<;>rfl))|(simp[*,errW_none,errW_some]<;>rfl),zs3 HB a4 b4 d3⟩
       rw[if_neg C8]at H;have Y3:decide (1<m3)=false:=decide_eq_false C8;clear C8
       by_cases C9:((rd_T43 a1 (b5)).f2)>((rd_T43 a1 a0).f3)
       ·rw[if_pos C9]at H
        have Y4:decide (((rd_T43 a1 a0).f3)<((rd_T43 a1 (b5)).f2))=true:=decide_eq_true C9;clear C9;obtain rfl:=Option.some.inj H;have mj:=a5.out;have mk:=b9.out;obtain⟨eu,ev,ew,ex,ey⟩:=zd5 a2;obtain⟨ez,fa,fb,fc,fd⟩:=zn5 a2;have d0:0≤((b5):Int):=za;have d1:(b5)<(a1.length:Int):=za;obtain⟨d2,d4,a7,a8,a9,b0,b1,b2,b3⟩:=at_T43 d5.out (b5) d0 d1;obtain rfl:d6=d2:=(by injection d4);replace a7:=zx HB a7;replace a8:=zx HB a8;replace a9:=zx HB a9;replace b0:=zx HB b0;replace b1:=zx HB b1;replace b2:=zx HB b2;replace b3:=zx HB b3;replace d0:=eq_true d0;replace d1:=eq_true d1
        go_wp2_with (first|((with_reducible refine gate_dst (N:=5) rfl ?_);(try(refine gate_guard (by rfl) ?_;dsimp only));refine zbx 5 #[.int .i64 0,.int .i64 0,.int .i64 0,.int .i64 0,.int .i64 0,.int .i64 0,.bool false] 43 ?_;intro d8 hg op hbox hb;have c0:=zA hbox;have d9:=zgs hg (zs2 HB a4 b4);have d3:=zgs hg (zs2 HB a4 b4);have a6:=zne hg a2;have b6:=znf hg a2;have b7:=zne hg a3;have b8:=znf hg a3;replace a2:=zb a2 hb;replace a3:=zb a3 hb;replace HB:=zE (zs2 HB a4 b4) hb;clear hb hbox hg;have ml:=b6.out;have mm:=a6.out;have mo:=b8.out;have mp:=b7.out;obtain⟨fe,ff,fg,fh,fi,fj,fk⟩:=zd7 c0;obtain⟨fl,fm,fo,fp,fq,fr,fs⟩:=zn7 c0;obtain⟨ft,fu,fv,fw,fx,fy,fz⟩:=zd7 a3;obtain⟨ga,gb,gc,gf,gg,gh,gi⟩:=zn7 a3)|(go_at_call 23;(with_reducible refine(impl_dist.calls ((rd_T43 a1 (b5)).f0) ((rd_T43 a1 a0).f0) k7 _ Y1.out).mono ?_);rintro e w' ⟨rfl,⟨nd,rfl⟩⟩)|(go_at_call 23;(with_reducible refine(impl_dist.calls ((rd_T43 a1 (b5)).f1) ((rd_T43 a1 a0).f1) m3 _ df.out).mono ?_);rintro e w' ⟨rfl,⟨nd,rfl⟩⟩))
        go_ret;exact⟨by first|rfl|(simp[errW_none,errW_some]<;>rfl)|(simp only[←d7];first|rfl|(simp[errW_none,errW_some]<;>rfl))|(simp[*,errW_none,errW_some]<;>rfl),zs3 HB a4 b4 d3⟩
       rw[if_neg C9]at H;have Y4:decide (((rd_T43 a1 a0).f3)<((rd_T43 a1 (b5)).f2))=false:=decide_eq_false C9;clear C9
       by_cases D0:((rd_T43 a1 a0).f2)>((rd_T43 a1 (b5)).f3)
       ·rw[if_pos D0]at H
        have Y5:decide (((rd_T43 a1 (b5)).f3)<((rd_T43 a1 a0).f2))=true:=decide_eq_true D0;clear D0;obtain rfl:=Option.some.inj H;have mq:=a5.out;have mr:=b9.out;obtain⟨gj,gl,gm,gn,gp⟩:=zd5 a2;obtain⟨gq,gr,gs,gu,gv⟩:=zn5 a2;have d0:0≤((b5):Int):=za;have d1:(b5)<(a1.length:Int):=za;obtain⟨d2,d4,a7,a8,a9,b0,b1,b2,b3⟩:=at_T43 d5.out (b5) d0 d1;obtain rfl:d6=d2:=(by injection d4);replace a7:=zx HB a7;replace a8:=zx HB a8;replace a9:=zx HB a9;replace b0:=zx HB b0;replace b1:=zx HB b1;replace b2:=zx HB b2;replace b3:=zx HB b3;replace d0:=eq_true d0;replace d1:=eq_true d1
        go_wp2_with (first|((with_reducible refine gate_dst (N:=5) rfl ?_);(try(refine gate_guard (by rfl) ?_;dsimp only));refine zbx 5 #[.int .i64 0,.int .i64 0,.int .i64 0,.int .i64 0,.int .i64 0,.int .i64 0,.bool false] 43 ?_;intro d8 hg oq hbox hb;have c0:=zA hbox;have d9:=zgs hg (zs2 HB a4 b4);have d3:=zgs hg (zs2 HB a4 b4);have a6:=zne hg a2;have b6:=znf hg a2;have b7:=zne hg a3;have b8:=znf hg a3;replace a2:=zb a2 hb;replace a3:=zb a3 hb;replace HB:=zE (zs2 HB a4 b4) hb;clear hb hbox hg;have ms:=b6.out;have mt:=a6.out;have mu:=b8.out;have mv:=b7.out;obtain⟨gw,gx,gy,gz,ha,hc,hd⟩:=zd7 c0;obtain⟨hf,hh,hj,hl,hm,hn,ho⟩:=zn7 c0;obtain⟨hp,hq,hr,hs,ht,hu,hv⟩:=zd7 a3;obtain⟨hw,hx,hy,hz,ia,ib,ic⟩:=zn7 a3)|(go_at_call 23;(with_reducible refine(impl_dist.calls ((rd_T43 a1 (b5)).f0) ((rd_T43 a1 a0).f0) k7 _ Y1.out).mono ?_);rintro e w' ⟨rfl,⟨nd,rfl⟩⟩)|(go_at_call 23;(with_reducible refine(impl_dist.calls ((rd_T43 a1 (b5)).f1) ((rd_T43 a1 a0).f1) m3 _ df.out).mono ?_);rintro e w' ⟨rfl,⟨nd,rfl⟩⟩))
        go_ret;exact⟨by first|rfl|(simp[errW_none,errW_some]<;>rfl)|(simp only[←d7];first|rfl|(simp[errW_none,errW_some]<;>rfl))|(simp[*,errW_none,errW_some]<;>rfl),zs3 HB a4 b4 d3⟩
       rw[if_neg D0]at H;have Y5:decide (((rd_T43 a1 (b5)).f3)<((rd_T43 a1 a0).f2))=false:=decide_eq_false D0;clear D0;have H':=zA H;clear H;have mw:=a5.out;have mz:=b9.out;obtain⟨ie,ig,ii,ij,ik⟩:=zd5 a2;obtain⟨il,im,io,ip,iq⟩:=zn5 a2;have d0:0≤((b5):Int):=za;have d1:(b5)<(a1.length:Int):=za;obtain⟨d2,d4,a7,a8,a9,b0,b1,b2,b3⟩:=at_T43 d5.out (b5) d0 d1;obtain rfl:d6=d2:=(by injection d4);replace a7:=zx HB a7;replace a8:=zx HB a8;replace a9:=zx HB a9;replace b0:=zx HB b0;replace b1:=zx HB b1;replace b2:=zx HB b2;replace b3:=zx HB b3;replace d0:=eq_true d0;replace d1:=eq_true d1
       go_wp2_with (first|((with_reducible refine gate_dst (N:=5) rfl ?_);(try(refine gate_guard (by rfl) ?_;dsimp only));refine zbx 5 #[.int .i64 0,.int .i64 0,.int .i64 0,.int .i64 0,.int .i64 0,.int .i64 0,.bool false] 43 ?_;intro d8 hg os hbox hb;have c0:=zA hbox;have d9:=zgs hg (zs2 HB a4 b4);have d3:=zgs hg (zs2 HB a4 b4);have a6:=zne hg a2;have b6:=znf hg a2;have b7:=zne hg a3;have b8:=znf hg a3;replace a2:=zb a2 hb;replace a3:=zb a3 hb;replace HB:=zE (zs2 HB a4 b4) hb;clear hb hbox hg;have na:=b6.out;have nb:=a6.out;have nc:=b8.out;have nf:=b7.out;obtain⟨ir,iu,iv,iw,ix,iy,iz⟩:=zd7 c0;obtain⟨ja,jb,jc,jd,je,jf,jg⟩:=zn7 c0;obtain⟨Y6,Y7,Y8,Y9,Z0,Z1,Z2⟩:=zd7 a3;obtain⟨Z3,Z4,Z5,Z6,Z7,Z8,Z9⟩:=zn7 a3)|(go_at_call 23;(with_reducible refine(impl_dist.calls ((rd_T43 a1 (b5)).f0) ((rd_T43 a1 a0).f0) k7 _ Y1.out).mono ?_);rintro e w' ⟨rfl,⟨nd,rfl⟩⟩)|(go_at_call 23;(with_reducible refine(impl_dist.calls ((rd_T43 a1 (b5)).f1) ((rd_T43 a1 a0).f1) m3 _ df.out).mono ?_);rintro e w' ⟨rfl,⟨nd,rfl⟩⟩))
       go_roundg B2
       case measure=>have:=o1.out;have:=o2.out;have:=n6.out;omega
       case rel=>exact⟨(wrap64 (a0+1)),zi,H',⟨by have:=o1.out;have:=o2.out;have:=n6.out;omega⟩,⟨zpf a2 a6⟩,⟨zs3 HB a4 b4 d3⟩⟩
end Go.Proofs.Ytcokhiclencmdaa.QFnFlyShift
