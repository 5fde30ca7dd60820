/- The walk of what the law FnFlyTight reaches: laid by a program of this session (ownprint.py). -/
import Derived.Test.YtidoahlbaeiemaaQFnFlyTightx0
import Derived.Test.YtidoahlbaeiemaaQFnFlyTightx10
namespace Go.Proofs.Ytidoahlbaeiemaa.QFnFlyTight
open Go.RowKit Go.Proofs.YtidoahlbaeiemaaW.PrintWords Go.Proofs.YtidoahlbaeiemaaW.PrintLast Go.Proofs.YtidoahlbaeiemaaW.PrintMore Go.Proofs.Ytidoahlbaeiemaa.Z
attribute [local go_sem] max2_int min2_int max_two min_two max_three min_three max_four min_four zdn   -- for this text's walks alone
set_option linter.unusedVariables false
set_option linter.unusedSimpArgs false
mutual
def impl_FlyPathOk.j0:Nat→Bool→Int→Int→List (S52)→Int→Int→Option (Bool)
 |0,_,_,_,_,_,_=>none
 |k+1,x24,a1,a2,a0,a3,a4=>if x24=true then(some false)else(impl_FlyPathOk.l0 k a0 (a0.length:Int) 0 a1 a2 a0 a3 a4)
def impl_FlyPathOk.l0:Nat→List (S52)→Int→Int→Int→Int→List (S52)→Int→Int→Option (Bool)
 |0,_,_,_,_,_,_,_,_=>none
 |k+1,x26,x27,x28,a0,a1,a2,a3,a4=>if x28<x27 then(if 0≤x28 then(if x28<(x26.length:Int)then((impl_within.f ((rd_T52 x26 x28).f0) 0 15).bind fun a5=>(if a5=true then((impl_within.f ((rd_T52 x26 x28).f1) 0 15).bind fun a6=>(if a6=true then(if 0≤((rd_T52 x26 x28).f2)then(if((rd_T52 x26 x28).f2)≤((rd_T52 x26 x28).f3)then(if(((rd_T52 x26 x28).f3)≤6)then((impl_window.f ((rd_T52 x26 x28).f4) ((rd_T52 x26 x28).f5)).bind fun a7=>(impl_FlyPathOk.j2 k x28 x26 x27 x28 (!a7) a0 a1 a2 a3 a4 ((rd_T52 x26 x28).f0) ((rd_T52 x26 x28).f1) ((rd_T52 x26 x28).f2) ((rd_T52 x26 x28).f3) ((rd_T52 x26 x28).f4) ((rd_T52 x26 x28).f5) ((rd_T52 x26 x28).f6)))else(impl_FlyPathOk.j2 k x28 x26 x27 x28 true a0 a1 a2 a3 a4 ((rd_T52 x26 x28).f0) ((rd_T52 x26 x28).f1) ((rd_T52 x26 x28).f2) ((rd_T52 x26 x28).f3) ((rd_T52 x26 x28).f4) ((rd_T52 x26 x28).f5) ((rd_T52 x26 x28).f6)))else(impl_FlyPathOk.j2 k x28 x26 x27 x28 true a0 a1 a2 a3 a4 ((rd_T52 x26 x28).f0) ((rd_T52 x26 x28).f1) ((rd_T52 x26 x28).f2) ((rd_T52 x26 x28).f3) ((rd_T52 x26 x28).f4) ((rd_T52 x26 x28).f5) ((rd_T52 x26 x28).f6)))else(impl_FlyPathOk.j2 k x28 x26 x27 x28 true a0 a1 a2 a3 a4 ((rd_T52 x26 x28).f0) ((rd_T52 x26 x28).f1) ((rd_T52 x26 x28).f2) ((rd_T52 x26 x28).f3) ((rd_T52 x26 x28).f4) ((rd_T52 x26 x28).f5) ((rd_T52 x26 x28).f6)))else(impl_FlyPathOk.j2 k x28 x26 x27 x28 true a0 a1 a2 a3 a4 ((rd_T52 x26 x28).f0) ((rd_T52 x26 x28).f1) ((rd_T52 x26 x28).f2) ((rd_T52 x26 x28).f3) ((rd_T52 x26 x28).f4) ((rd_T52 x26 x28).f5) ((rd_T52 x26 x28).f6))))else(impl_FlyPathOk.j2 k x28 x26 x27 x28 true a0 a1 a2 a3 a4 ((rd_T52 x26 x28).f0) ((rd_T52 x26 x28).f1) ((rd_T52 x26 x28).f2) ((rd_T52 x26 x28).f3) ((rd_T52 x26 x28).f4) ((rd_T52 x26 x28).f5) ((rd_T52 x26 x28).f6))))else(none))else(none))else(some true)
def impl_FlyPathOk.j2:Nat→Int→List (S52)→Int→Int→Bool→Int→Int→List (S52)→Int→Int→Int→Int→Int→Int→Int→Int→Bool→Option (Bool)
 |0,_,_,_,_,_,_,_,_,_,_,_,_,_,_,_,_,_=>none
 |k+1,x3,x26,x27,x28,x68,a1,a2,a0,a3,a4,a5,a6,a7,a8,a9,b0,b1=>if x68=true then(some false)else(if x3=0 then(impl_FlyPathOk.l0 k x26 x27 (wrap64 (x28+1)) a1 a2 a0 a3 a4)else(if 0≤(wrap64 (x3-1))then(if(wrap64 (x3-1))<(a0.length:Int)then(if((rd_T52 a0 (wrap64 (x3-1))).f0)=a5 then(if((rd_T52 a0 (wrap64 (x3-1))).f1)=a6 then(some false)else((impl_dist.f ((rd_T52 a0 (wrap64 (x3-1))).f0) a5).bind fun b2=>(if b2>1 then(some false)else((impl_dist.f ((rd_T52 a0 (wrap64 (x3-1))).f1) a6).bind fun b3=>(if b3>1 then(some false)else(if((rd_T52 a0 (wrap64 (x3-1))).f2)>a8 then(some false)else(if a7>((rd_T52 a0 (wrap64 (x3-1))).f3)then(some false)else(impl_FlyPathOk.l0 k x26 x27 (wrap64 (x28+1)) a1 a2 a0 a3 a4))))))))else((impl_dist.f ((rd_T52 a0 (wrap64 (x3-1))).f0) a5).bind fun b4=>(if b4>1 then(some false)else((impl_dist.f ((rd_T52 a0 (wrap64 (x3-1))).f1) a6).bind fun b5=>(if b5>1 then(some false)else(if((rd_T52 a0 (wrap64 (x3-1))).f2)>a8 then(some false)else(if a7>((rd_T52 a0 (wrap64 (x3-1))).f3)then(some false)else(impl_FlyPathOk.l0 k x26 x27 (wrap64 (x28+1)) a1 a2 a0 a3 a4))))))))else(none))else(none)))
end
def impl_FlyPathOk.f (k:Nat) (a0:Int) (a1:Int) (a2:List (S52)) (a3:Int) (a4:Int):Option (Bool):=(impl_FlyKindOk.f a0 a1).bind fun a5=>(if a5=true then((impl_within.f (a2.length:Int) 1 40).bind fun a6=>(if a6=true then((impl_window.f a3 a4).bind fun a7=>(impl_FlyPathOk.j0 k (!a7) a0 a1 a2 a3 a4))else(impl_FlyPathOk.j0 k true a0 a1 a2 a3 a4)))else(impl_FlyPathOk.j0 k true a0 a1 a2 a3 a4))
set_option maxHeartbeats 8000000 in
set_option maxRecDepth 100000 in
theorem impl_FlyPathOk.calls (k:Nat) (e0:Int) (e1:Int) (o2:Option Addr) (n4:Nat) (a1:List (S52)) (e2:Int) (e3:Int) (r:Bool) (w:World) (hr0_2:Kd.C k52 w o2 a1.length a1) (hc0_2:a1.length≤n4) (h:impl_FlyPathOk.f k e0 e1 a1 e2 e3=some r):
 Calls Try.prog 16 #[.agg #[.int .i64 e0,.int .i64 e1,.slice o2 a1.length n4,.int .i64 e2,.int .i64 e3]] w fun e w'=>e= .returned (.bool r)∧Below w.heap.size w w':=by
 have nf:=Try.underlying27;have ng:=Try.underlying24;have nh:=Try.underlying52;have d5:=zA hr0_2;have ks:=zA hc0_2;clear hr0_2 hc0_2;have HB:=zA (Below.refl w.heap.size w);have H:=h;clear h;unfold impl_FlyPathOk.f at H;have jg:=zA H;clear H
 go_enter Try.func16,Try.ntmps16
 go_upto_region 1 with(first|((with_reducible refine gate_dst (N:=1) rfl ?_);(try(refine gate_guard (by rfl) ?_;dsimp only));refine zbx 1 #[.int .i64 e0,.int .i64 e1,.slice o2 a1.length n4,.int .i64 e2,.int .i64 e3] 27 ?_;intro o3 hg w3 hbox hb;have a2:=zA hbox;have kt:=zgs hg (zs0 HB);have a4:=zgs hg (zs0 HB);replace HB:=zE (zs0 HB) hb;clear hb hbox hg))
 (try simp only[Act.put,List.setIfInBounds_toArray,List.set_cons_zero,List.set_cons_succ])
 go_cut [24] (fun ni wc=> ∃(kq:Nat) (m3:Bool),ni= .bool m3∧Aside0 (impl_FlyPathOk.j0 kq m3 e0 e1 a1 e2 e3=some r)∧Aside0 (kq≤k)∧Aside0 (wc.heap[o3]?=some (.cells #[.int .i64 e0,.int .i64 e1,(.slice o2 a1.length n4),.int .i64 e2,.int .i64 e3] 27 (0,0)))∧Aside0 (Below w.heap.size w wc))
 case first=>
  have H:=jg.out;clear jg;replace H:=zbd H;obtain⟨jh,A4,H⟩:=H
  by_cases c5:jh=true
  rotate_left
  ·replace c5:=Bool.eq_false_iff.mpr c5
   subst c5;rw[if_neg zfn]at H;have H':=zA H;clear H;obtain⟨e5,e6,e7,e8,e9⟩:=zd5 a2;obtain⟨f7,f8,f9,g0,g1⟩:=zn5 a2
   go_wp2_with (first|((with_reducible refine gate_callee (f:=27) rfl ?_);refine zgl (N:=some 8) Try.func27 #[.agg #[.int .i64 e0,.int .i64 e1]] ?_;(with_reducible refine(impl_FlyKindOk.calls e0 e1 false _ A4.out).mono ?_);rintro e nt ⟨rfl,hb⟩;refine⟨_,rfl,?_⟩;replace a2:=zb a2 hb;replace HB:=zE (zs1 HB a4) hb;(try clear hb);(try clear hb2);(try clear hk);(try clear hi)))
   go_meet
   case rel=>exact⟨_,(true),zi,H',⟨by first|omega|exact Nat.le_refl _⟩,⟨zh a2⟩,⟨zs1 HB a4⟩⟩
  subst c5;rw[if_pos rfl]at H;replace H:=zbd H;obtain⟨ji,A6,H⟩:=H
  by_cases c7:ji=true
  rotate_left
  ·replace c7:=Bool.eq_false_iff.mpr c7
   subst c7;rw[if_neg zfn]at H;have H':=zA H;clear H;obtain⟨g2,g3,g4,g5,g6⟩:=zd5 a2;obtain⟨g7,g8,g9,h0,h1⟩:=zn5 a2
   go_wp2_with (first|((with_reducible refine gate_callee (f:=27) rfl ?_);refine zgl (N:=some 8) Try.func27 #[.agg #[.int .i64 e0,.int .i64 e1]] ?_;(with_reducible refine(impl_FlyKindOk.calls e0 e1 true _ A4.out).mono ?_);rintro e nu ⟨rfl,hb⟩;refine⟨_,rfl,?_⟩;replace a2:=zb a2 hb;replace HB:=zE (zs1 HB a4) hb;(try clear hb);(try clear hb2);(try clear hk);(try clear hi);obtain⟨h2,h3,h4,h5,h6⟩:=zd5 a2;obtain⟨h7,h8,h9,i0,i1⟩:=zn5 a2)|(go_at_call 28;(with_reducible refine(impl_within.calls (a1.length:Int) 1 40 false _ A6.out).mono ?_);rintro e w' ⟨rfl,⟨nd,rfl⟩⟩))
   go_meet
   case rel=>exact⟨_,(true),zi,H',⟨by first|omega|exact Nat.le_refl _⟩,⟨zh a2⟩,⟨zs1 HB a4⟩⟩
  subst c7;rw[if_pos rfl]at H;replace H:=zbd H;obtain⟨D0,A8,H⟩:=H;have H':=zA H;clear H;obtain⟨k7,k8,k9,l4,l5⟩:=zd5 a2;obtain⟨l6,l7,l8,l9,m0⟩:=zn5 a2
  go_wp2_with (first|((with_reducible refine gate_callee (f:=27) rfl ?_);refine zgl (N:=some 8) Try.func27 #[.agg #[.int .i64 e0,.int .i64 e1]] ?_;(with_reducible refine(impl_FlyKindOk.calls e0 e1 true _ A4.out).mono ?_);rintro e nv ⟨rfl,hb⟩;refine⟨_,rfl,?_⟩;replace a2:=zb a2 hb;replace HB:=zE (zs1 HB a4) hb;(try clear hb);(try clear hb2);(try clear hk);(try clear hi);obtain⟨i2,i3,i4,i5,i6⟩:=zd5 a2;obtain⟨i7,i8,i9,j1,j5⟩:=zn5 a2)|(go_at_call 28;(with_reducible refine(impl_within.calls (a1.length:Int) 1 40 true _ A6.out).mono ?_);rintro e w' ⟨rfl,⟨nd,rfl⟩⟩)|(go_at_call 29;(with_reducible refine(impl_window.calls e2 e3 D0 _ A8.out).mono ?_);rintro e w' ⟨rfl,⟨nd,rfl⟩⟩))
  go_meet
  case rel=>exact⟨_,(!D0),zi,H',⟨by first|omega|exact Nat.le_refl _⟩,⟨zh a2⟩,⟨zs1 HB a4⟩⟩
 case rest=>
  clear jg
  try clear c1
  try clear c2
  try clear p2
  try clear c5
  try clear c7
  try clear ku
  try clear i2 i3 i4 i5 i6
  try clear g2 g3 g4 g5 g6
  try clear h2 h3 h4 h5 h6
  try clear e5 e6 e7 e8 e9
  try clear k7 k8 k9 l4 l5
  try clear i7 i8 i9 j1 j5
  try clear g7 g8 g9 h0 h1
  try clear h7 h8 h9 i0 i1
  try clear f7 f8 f9 g0 g1
  try clear l6 l7 l8 l9 m0
  obtain⟨kq,m3,rfl,HA,o0,a2,HB⟩:=hcut
  cases kq with
  |zero=>exact absurd HA.out (by simp[impl_FlyPathOk.j0])
  |succ kv=>
   have H:=HA.out;clear HA;simp only[impl_FlyPathOk.j0]at H
   by_cases C4:m3=true
   ·subst C4
    rw[if_pos rfl]at H;obtain rfl:=Option.some.inj H
    go_wp2
    go_ret;exact⟨ze,zs1 HB a4⟩
   replace C4:=Bool.eq_false_iff.mpr C4;subst C4;rw[if_neg zfn]at H;have H':=zA H;clear H;obtain⟨m4,m5,m6,m7,m8⟩:=zd5 a2;obtain⟨m9,n0,n1,n2,n3⟩:=zn5 a2
   go_wp2
   go_loopg [28] kv (fun kq nj w'=> ∃(a0:Int),nj= .int .i64 a0∧Aside0 (impl_FlyPathOk.l0 kq a1 (a1.length:Int) a0 e0 e1 a1 e2 e3=some r)∧Aside0 (kq≤kv)∧Aside0 (w'.heap[o3]?=some (.cells #[.int .i64 e0,.int .i64 e1,(.slice o2 a1.length n4),.int .i64 e2,.int .i64 e3] 27 (0,0)))∧Aside0 (Below w.heap.size w w'))
   case atStart=>exact⟨(0),zi,H',⟨Nat.le_refl _⟩,⟨zh a2⟩,⟨zs1 HB a4⟩⟩
   case round=>
    clear H'
    try clear c1
    try clear c2
    try clear p2
    try clear c5
    try clear c7
    try clear ku
    try clear C4
    try clear i2 i3 i4 i5 i6
    try clear g2 g3 g4 g5 g6
    try clear h2 h3 h4 h5 h6
    try clear e5 e6 e7 e8 e9
    try clear m4 m5 m6 m7 m8
    try clear k7 k8 k9 l4 l5
    try clear i7 i8 i9 j1 j5
    try clear g7 g8 g9 h0 h1
    try clear h7 h8 h9 i0 i1
    try clear f7 f8 f9 g0 g1
    try clear m9 n0 n1 n2 n3
    try clear l6 l7 l8 l9 m0
    try clear p2
    obtain⟨a0,rfl,HA,o1,a2,HB⟩:=hrel
    cases gk with
    |zero=>exact absurd HA.out (by simp[impl_FlyPathOk.l0])
    |succ k2=>
     have H:=HA.out;clear HA;simp only[impl_FlyPathOk.l0]at H
     by_cases A3:a0<(a1.length:Int)
     rotate_left
     ·rw[if_neg A3]at H
      have A0:decide (a0<(a1.length:Int))=false:=decide_eq_false A3;clear A3;obtain rfl:=Option.some.inj H
      go_wp2
      go_ret;exact⟨ze,zs1 HB a4⟩
     rw[if_pos A3]at H;have A0:decide (a0<(a1.length:Int))=true:=decide_eq_true A3;clear A3;replace H:=zif H;obtain⟨D1,H⟩:=H
     by_cases D2:a0<(a1.length:Int)
     rotate_left
     ·rw[if_neg D2]at H
      exact absurd H (by simp)
     rw[if_pos D2]at H;have D3:decide (a0<(a1.length:Int))=true:=decide_eq_true D2;clear D2;have A5:=zA H;clear H;have o5:0≤(a0:Int):=za;have o6:a0<(a1.length:Int):=za;obtain⟨d6,jj,j6,j7,j8,j9,k0,k1,k3⟩:=at_T52 d5.out a0 o5 o6;cases jj;replace j6:=zx HB j6;replace j7:=zx HB j7;replace j8:=zx HB j8;replace j9:=zx HB j9;replace k0:=zx HB k0;replace k1:=zx HB k1;replace k3:=zx HB k3;replace o5:=eq_true o5;replace o6:=eq_true o6
     go_upto_region 6 with(first|((with_reducible refine gate_dst (N:=4) rfl ?_);(try(refine gate_guard (by rfl) ?_;dsimp only));refine zbx 4 #[.int .i64 0,.int .i64 0,.int .i64 0,.int .i64 0,.int .i64 0,.int .i64 0,.bool false] 52 ?_;intro D4 hg nw hbox hb;have a3:=zA hbox;have kw:=zgs hg (zs1 HB a4);have b4:=zgs hg (zs1 HB a4);have a5:=zne hg a2;have b9:=znf hg a2;replace a2:=zb a2 hb;replace HB:=zE (zs1 HB a4) hb;clear hb hbox hg;have kx:=b9.out;have ky:=a5.out;obtain⟨o7,o8,o9,p0,p1,p4,p5⟩:=zd7 a3;obtain⟨p6,p7,p8,p9,q0,q1,q2⟩:=zn7 a3))
     (try simp only[Act.put,List.setIfInBounds_toArray,List.set_cons_zero,List.set_cons_succ])
     go_cut [68] (fun nk wc=> ∃(kq:Nat) (k4:Bool),nk= .bool k4∧Aside0 (impl_FlyPathOk.j2 kq a0 a1 (a1.length:Int) a0 k4 e0 e1 a1 e2 e3 ((rd_T52 a1 a0).f0) ((rd_T52 a1 a0).f1) ((rd_T52 a1 a0).f2) ((rd_T52 a1 a0).f3) ((rd_T52 a1 a0).f4) ((rd_T52 a1 a0).f5) ((rd_T52 a1 a0).f6)=some r)∧Aside0 (kq≤k2)∧Aside0 (wc.heap[o3]?=some (.cells #[.int .i64 e0,.int .i64 e1,(.slice (some d6) a1.length n4),.int .i64 e2,.int .i64 e3] 27 (0,0)))∧Aside0 (wc.heap[D4]?=some (.cells #[.int .i64 ((rd_T52 a1 a0).f0),.int .i64 ((rd_T52 a1 a0).f1),.int .i64 ((rd_T52 a1 a0).f2),.int .i64 ((rd_T52 a1 a0).f3),.int .i64 ((rd_T52 a1 a0).f4),.int .i64 ((rd_T52 a1 a0).f5),.bool ((rd_T52 a1 a0).f6)] 52 (0,0)))∧Aside0 (Below w.heap.size w wc))
     case first=>
      have H:=A5.out;clear A5;replace H:=zbd H;obtain⟨jk,C5,H⟩:=H
      by_cases D5:jk=true
      rotate_left
      ·replace D5:=Bool.eq_false_iff.mpr D5
       subst D5;rw[if_neg zfn]at H;have H':=zA H;clear H;have kz:=b9.out;have la:=a5.out;obtain⟨q4,q5,q6,q7,q8,q9,r0⟩:=zd7 a3;obtain⟨r1,r2,r3,r4,r5,r6,r7⟩:=zn7 a3
       go_wp2_with (first|((with_reducible refine gate_callee (f:=28) rfl ?_);refine zgl (N:=some 35) Try.func28 #[.int .i64 ((rd_T52 a1 a0).f0),.int .i64 0,.int .i64 15] ?_;(with_reducible refine(impl_within.calls ((rd_T52 a1 a0).f0) 0 15 false _ C5.out).mono ?_);rintro e w' ⟨rfl,⟨nd,rfl⟩⟩;refine⟨_,rfl,?_⟩))
       go_meet
       case rel=>exact⟨_,(true),zi,H',⟨by have:=o0.out;have:=o1.out;first|omega|exact Nat.le_refl _⟩,⟨zpf a2 a5⟩,⟨zpb a3⟩,⟨zs2 HB a4 b4⟩⟩
      subst D5;rw[if_pos rfl]at H;replace H:=zbd H;obtain⟨jl,D6,H⟩:=H
      by_cases D7:jl=true
      rotate_left
      ·replace D7:=Bool.eq_false_iff.mpr D7
       subst D7;rw[if_neg zfn]at H;have H':=zA H;clear H;have lb:=b9.out;have lc:=a5.out;obtain⟨r8,r9,s0,s1,s2,s3,s4⟩:=zd7 a3;obtain⟨s5,s6,s7,s8,s9,t0,t1⟩:=zn7 a3
       go_wp2_with (first|((with_reducible refine gate_callee (f:=28) rfl ?_);refine zgl (N:=some 35) Try.func28 #[.int .i64 ((rd_T52 a1 a0).f0),.int .i64 0,.int .i64 15] ?_;(with_reducible refine(impl_within.calls ((rd_T52 a1 a0).f0) 0 15 true _ C5.out).mono ?_);rintro e w' ⟨rfl,⟨nd,rfl⟩⟩;refine⟨_,rfl,?_⟩)|(go_at_call 28;(with_reducible refine(impl_within.calls ((rd_T52 a1 a0).f1) 0 15 false _ D6.out).mono ?_);rintro e w' ⟨rfl,⟨nd,rfl⟩⟩))
       go_meet
       case rel=>exact⟨_,(true),zi,H',⟨by have:=o0.out;have:=o1.out;first|omega|exact Nat.le_refl _⟩,⟨zpf a2 a5⟩,⟨zpb a3⟩,⟨zs2 HB a4 b4⟩⟩
      subst D7;rw[if_pos rfl]at H
      by_cases A7:0≤((rd_T52 a1 a0).f2)
      rotate_left
      ·rw[if_neg A7]at H
       have e4:decide (0≤((rd_T52 a1 a0).f2))=false:=decide_eq_false A7;clear A7;(first|rw[e4]|(simp only[i64_w,i32_w];rw[e4])|skip);have H':=zA H;clear H;have ld:=b9.out;have lf:=a5.out;obtain⟨t2,t3,t4,t5,t6,t7,t8⟩:=zd7 a3;obtain⟨t9,v0,v1,v2,v3,v4,v5⟩:=zn7 a3
       go_wp2_with (first|((with_reducible refine gate_callee (f:=28) rfl ?_);refine zgl (N:=some 35) Try.func28 #[.int .i64 ((rd_T52 a1 a0).f0),.int .i64 0,.int .i64 15] ?_;(with_reducible refine(impl_within.calls ((rd_T52 a1 a0).f0) 0 15 true _ C5.out).mono ?_);rintro e w' ⟨rfl,⟨nd,rfl⟩⟩;refine⟨_,rfl,?_⟩)|(go_at_call 28;(with_reducible refine(impl_within.calls ((rd_T52 a1 a0).f1) 0 15 true _ D6.out).mono ?_);rintro e w' ⟨rfl,⟨nd,rfl⟩⟩))
       go_meet
       case rel=>exact⟨_,(true),zi,H',⟨by have:=o0.out;have:=o1.out;first|omega|exact Nat.le_refl _⟩,⟨zpf a2 a5⟩,⟨zpb a3⟩,⟨zs2 HB a4 b4⟩⟩
      rw[if_pos A7]at H;have e4:decide (0≤((rd_T52 a1 a0).f2))=true:=decide_eq_true A7;clear A7;(first|rw[e4]|(simp only[i64_w,i32_w];rw[e4])|skip)
      by_cases A9:((rd_T52 a1 a0).f2)≤((rd_T52 a1 a0).f3)
      rotate_left
      ·rw[if_neg A9]at H
       have A1:decide (((rd_T52 a1 a0).f2)≤((rd_T52 a1 a0).f3))=false:=decide_eq_false A9;clear A9;have H':=zA H;clear H;have lg:=b9.out;have lh:=a5.out;obtain⟨v6,v7,v8,v9,w0,w1,w2⟩:=zd7 a3;obtain⟨w4,w5,w6,w7,w8,w9,x0⟩:=zn7 a3
       go_wp2_with (first|((with_reducible refine gate_callee (f:=28) rfl ?_);refine zgl (N:=some 35) Try.func28 #[.int .i64 ((rd_T52 a1 a0).f0),.int .i64 0,.int .i64 15] ?_;(with_reducible refine(impl_within.calls ((rd_T52 a1 a0).f0) 0 15 true _ C5.out).mono ?_);rintro e w' ⟨rfl,⟨nd,rfl⟩⟩;refine⟨_,rfl,?_⟩)|(go_at_call 28;(with_reducible refine(impl_within.calls ((rd_T52 a1 a0).f1) 0 15 true _ D6.out).mono ?_);rintro e w' ⟨rfl,⟨nd,rfl⟩⟩))
       go_meet
       case rel=>exact⟨_,(true),zi,H',⟨by have:=o0.out;have:=o1.out;first|omega|exact Nat.le_refl _⟩,⟨zpf a2 a5⟩,⟨zpb a3⟩,⟨zs2 HB a4 b4⟩⟩
      rw[if_pos A9]at H;have A1:decide (((rd_T52 a1 a0).f2)≤((rd_T52 a1 a0).f3))=true:=decide_eq_true A9;clear A9
      by_cases B0:(((rd_T52 a1 a0).f3)≤6)
      rotate_left
      ·rw[if_neg B0]at H
       have A2:decide (((rd_T52 a1 a0).f3)≤6)=false:=decide_eq_false B0;clear B0;have H':=zA H;clear H;have li:=b9.out;have lj:=a5.out;obtain⟨x1,x2,x3,x4,x5,x6,x7⟩:=zd7 a3;obtain⟨x8,x9,y0,y1,y2,y3,y4⟩:=zn7 a3
       go_wp2_with (first|((with_reducible refine gate_callee (f:=28) rfl ?_);refine zgl (N:=some 35) Try.func28 #[.int .i64 ((rd_T52 a1 a0).f0),.int .i64 0,.int .i64 15] ?_;(with_reducible refine(impl_within.calls ((rd_T52 a1 a0).f0) 0 15 true _ C5.out).mono ?_);rintro e w' ⟨rfl,⟨nd,rfl⟩⟩;refine⟨_,rfl,?_⟩)|(go_at_call 28;(with_reducible refine(impl_within.calls ((rd_T52 a1 a0).f1) 0 15 true _ D6.out).mono ?_);rintro e w' ⟨rfl,⟨nd,rfl⟩⟩))
       go_meet
       case rel=>exact⟨_,(true),zi,H',⟨by have:=o0.out;have:=o1.out;first|omega|exact Nat.le_refl _⟩,⟨zpf a2 a5⟩,⟨zpb a3⟩,⟨zs2 HB a4 b4⟩⟩
      rw[if_pos B0]at H;have A2:decide (((rd_T52 a1 a0).f3)≤6)=true:=decide_eq_true B0;clear B0;replace H:=zbd H;obtain⟨D8,nl,H⟩:=H;have H':=zA H;clear H;have lk:=b9.out;have ll:=a5.out;obtain⟨y5,y6,y7,y8,y9,z0,z1⟩:=zd7 a3;obtain⟨z2,z3,z4,z5,z6,z7,z8⟩:=zn7 a3
      go_wp2_with (first|((with_reducible refine gate_callee (f:=28) rfl ?_);refine zgl (N:=some 35) Try.func28 #[.int .i64 ((rd_T52 a1 a0).f0),.int .i64 0,.int .i64 15] ?_;(with_reducible refine(impl_within.calls ((rd_T52 a1 a0).f0) 0 15 true _ C5.out).mono ?_);rintro e w' ⟨rfl,⟨nd,rfl⟩⟩;refine⟨_,rfl,?_⟩)|(go_at_call 28;(with_reducible refine(impl_within.calls ((rd_T52 a1 a0).f1) 0 15 true _ D6.out).mono ?_);rintro e w' ⟨rfl,⟨nd,rfl⟩⟩)|(go_at_call 29;(with_reducible refine(impl_window.calls ((rd_T52 a1 a0).f4) ((rd_T52 a1 a0).f5) D8 _ nl.out).mono ?_);rintro e w' ⟨rfl,⟨nd,rfl⟩⟩))
      go_meet
      case rel=>exact⟨_,(!D8),zi,H',⟨by have:=o0.out;have:=o1.out;first|omega|exact Nat.le_refl _⟩,⟨zpf a2 a5⟩,⟨zpb a3⟩,⟨zs2 HB a4 b4⟩⟩
     case rest=>
      clear A5
      try clear c1
      try clear c2
      try clear p2
      try clear c3
      try clear p3
      try clear q3
      try clear nx
      try clear c4
      try clear c5
      try clear c7
      try clear ku
      try clear C4
      try clear A3
      try clear A0
      try clear ny
      try clear D1
      try clear D2
      try clear D3
      try clear nz
      try clear D5
      try clear oa
      try clear D7
      try clear A7
      try clear e4
      try clear A9
      try clear A1
      try clear B0
      try clear A2
      try clear ob
      try clear oc
      try clear od
      try clear nm
      try clear oe
      try clear og
      try clear oh
      try clear oi
      try clear oj
      try clear i2 i3 i4 i5 i6
      try clear g2 g3 g4 g5 g6
      try clear h2 h3 h4 h5 h6
      try clear e5 e6 e7 e8 e9
      try clear m4 m5 m6 m7 m8
      try clear o7 o8 o9 p0 p1 p4 p5
      try clear y5 y6 y7 y8 y9 z0 z1
      try clear x1 x2 x3 x4 x5 x6 x7
      try clear v6 v7 v8 v9 w0 w1 w2
      try clear t2 t3 t4 t5 t6 t7 t8
      try clear r8 r9 s0 s1 s2 s3 s4
      try clear q4 q5 q6 q7 q8 q9 r0
      try clear k7 k8 k9 l4 l5
      try clear i7 i8 i9 j1 j5
      try clear g7 g8 g9 h0 h1
      try clear h7 h8 h9 i0 i1
      try clear f7 f8 f9 g0 g1
      try clear m9 n0 n1 n2 n3
      try clear p6 p7 p8 p9 q0 q1 q2
      try clear z2 z3 z4 z5 z6 z7 z8
      try clear x8 x9 y0 y1 y2 y3 y4
      try clear w4 w5 w6 w7 w8 w9 x0
      try clear t9 v0 v1 v2 v3 v4 v5
      try clear s5 s6 s7 s8 s9 t0 t1
      try clear r1 r2 r3 r4 r5 r6 r7
      try clear l6 l7 l8 l9 m0
      try clear j6
      try clear j7
      try clear j8
      try clear j9
      try clear k0
      try clear k1
      try clear k3
      try clear p2
      try clear o5
      try clear o6
      obtain⟨kq,k4,rfl,HA,n5,a2,a3,HB⟩:=hcut
      cases kq with
      |zero=>exact absurd HA.out (by simp[impl_FlyPathOk.j2])
      |succ B1=>
       have H:=HA.out;clear HA;simp only[impl_FlyPathOk.j2]at H
       by_cases Z9:k4=true
       ·subst Z9
        rw[if_pos rfl]at H;obtain rfl:=Option.some.inj H
        go_wp2
        go_ret;exact⟨ze,zs2 HB a4 b4⟩
       replace Z9:=Bool.eq_false_iff.mpr Z9;subst Z9;rw[if_neg zfn]at H
       by_cases B2:a0=0
       ·rw[if_pos B2]at H
        have D9:(a0==0)=true:=beq_iff_eq.mpr B2;have E0:(a0 !=0)=false:=bne_eq_false_iff_eq.mpr B2;clear B2;have H':=zA H;clear H
        go_wp2
        go_roundg B1
        case measure=>have:=o0.out;have:=o1.out;have:=n5.out;omega
        case rel=>exact⟨(wrap64 (a0+1)),zi,H',⟨by have:=o0.out;have:=o1.out;have:=n5.out;omega⟩,⟨zh a2⟩,⟨zs2 HB a4 b4⟩⟩
       rw[if_neg B2]at H;have D9:(a0==0)=false:=beq_eq_false_iff_ne.mpr B2;have E0:(a0 !=0)=true:=bne_iff_ne.mpr B2;obtain⟨b5,d7⟩: ∃j_:Int,(wrap64 (a0-1))=j_:=⟨_,rfl⟩
       first|rw[d7]at H|simp only[d7]at H
       have jm:(IntKind.i64.wrap (a0-1))=b5:=(i64_w _).trans d7;replace H:=zif H;obtain⟨lm,H⟩:=H
       by_cases aa:(b5)<(a1.length:Int)
       rotate_left
       ·rw[if_neg aa]at H
        exact absurd H (by simp)
       rw[if_pos aa]at H;have ln:decide ((b5)<(a1.length:Int))=true:=decide_eq_true aa;clear aa
       by_cases B3:((rd_T52 a1 (b5)).f0)=((rd_T52 a1 a0).f0)
       rotate_left
       ·rw[if_neg B3]at H
        have E1:(((rd_T52 a1 (b5)).f0)==((rd_T52 a1 a0).f0))=false:=beq_eq_false_iff_ne.mpr B3;have E2:(((rd_T52 a1 (b5)).f0) !=((rd_T52 a1 a0).f0))=true:=bne_iff_ne.mpr B3;replace H:=zbd H;obtain⟨k5,o4,H⟩:=H
        by_cases n6:k5>1
        ·rw[if_pos n6]at H
         have B5:decide (1<k5)=true:=decide_eq_true n6;clear n6;obtain rfl:=Option.some.inj H;have jn:=a5.out;have jo:=b9.out;obtain⟨E3,E4,E5,E6,E7⟩:=zd5 a2;obtain⟨E8,E9,F0,F1,F2⟩:=zn5 a2;have d0:0≤((b5):Int):=za;have d1:(b5)<(a1.length:Int):=za;obtain⟨d2,d4,a7,a8,a9,b0,b1,b2,b3⟩:=at_T52 d5.out (b5) d0 d1;obtain rfl:d6=d2:=(by injection d4);replace a7:=zx HB a7;replace a8:=zx HB a8;replace a9:=zx HB a9;replace b0:=zx HB b0;replace b1:=zx HB b1;replace b2:=zx HB b2;replace b3:=zx HB b3;replace d0:=eq_true d0;replace d1:=eq_true d1
         go_wp2_with (first|((with_reducible refine gate_dst (N:=5) rfl ?_);(try(refine gate_guard (by rfl) ?_;dsimp only));refine zbx 5 #[.int .i64 0,.int .i64 0,.int .i64 0,.int .i64 0,.int .i64 0,.int .i64 0,.bool false] 52 ?_;intro d8 hg nn hbox hb;have c0:=zA hbox;have d9:=zgs hg (zs2 HB a4 b4);have d3:=zgs hg (zs2 HB a4 b4);have a6:=zne hg a2;have b6:=znf hg a2;have b7:=zne hg a3;have b8:=znf hg a3;replace a2:=zb a2 hb;replace a3:=zb a3 hb;replace HB:=zE (zs2 HB a4 b4) hb;clear hb hbox hg;have jp:=b6.out;have jq:=a6.out;have jr:=b8.out;have js:=b7.out;obtain⟨F3,F4,F5,F6,F7,F8,F9⟩:=zd7 c0;obtain⟨G0,G1,G2,G3,G4,G5,G6⟩:=zn7 c0;obtain⟨G7,G8,G9,H0,H1,H2,H3⟩:=zd7 a3;obtain⟨H4,H5,H6,H7,H8,H9,I0⟩:=zn7 a3)|(go_at_call 30;(with_reducible refine(impl_dist.calls ((rd_T52 a1 (b5)).f0) ((rd_T52 a1 a0).f0) k5 _ o4.out).mono ?_);rintro e w' ⟨rfl,⟨nd,rfl⟩⟩))
         go_ret;exact⟨by first|rfl|(simp[errW_none,errW_some]<;>rfl)|(simp only[←d7];first|rfl|(simp[errW_none,errW_some]<;>rfl))|(simp[*,errW_none,errW_some]<;>rfl),zs3 HB a4 b4 d3⟩
        rw[if_neg n6]at H;have B5:decide (1<k5)=false:=decide_eq_false n6;clear n6;replace H:=zbd H;obtain⟨m1,z9,H⟩:=H
        by_cases n7:m1>1
        ·rw[if_pos n7]at H
         have C0:decide (1<m1)=true:=decide_eq_true n7;clear n7;obtain rfl:=Option.some.inj H;have jt:=a5.out;have ju:=b9.out;obtain⟨I1,I2,I3,I4,I5⟩:=zd5 a2;obtain⟨I6,I7,I8,I9,J0⟩:=zn5 a2;have d0:0≤((b5):Int):=za;have d1:(b5)<(a1.length:Int):=za;obtain⟨d2,d4,a7,a8,a9,b0,b1,b2,b3⟩:=at_T52 d5.out (b5) d0 d1;obtain rfl:d6=d2:=(by injection d4);replace a7:=zx HB a7;replace a8:=zx HB a8;replace a9:=zx HB a9;replace b0:=zx HB b0;replace b1:=zx HB b1;replace b2:=zx HB b2;replace b3:=zx HB b3;replace d0:=eq_true d0;replace d1:=eq_true d1
         go_wp2_with (first|((with_reducible refine gate_dst (N:=5) rfl ?_);(try(refine gate_guard (by rfl) ?_;dsimp only));refine zbx 5 #[.int .i64 0,.int .i64 0,.int .i64 0,.int .i64 0,.int .i64 0,.int .i64 0,.bool false] 52 ?_;intro d8 hg np hbox hb;have c0:=zA hbox;have d9:=zgs hg (zs2 HB a4 b4);have d3:=zgs hg (zs2 HB a4 b4);have a6:=zne hg a2;have b6:=znf hg a2;have b7:=zne hg a3;have b8:=znf hg a3;replace a2:=zb a2 hb;replace a3:=zb a3 hb;replace HB:=zE (zs2 HB a4 b4) hb;clear hb hbox hg;have jv:=b6.out;have jw:=a6.out;have jx:=b8.out;have jy:=b7.out;obtain⟨J1,J2,J3,J4,J5,J6,J7⟩:=zd7 c0;obtain⟨J8,J9,K0,K1,K2,K3,K4⟩:=zn7 c0;obtain⟨K5,K6,K7,K8,K9,L0,L1⟩:=zd7 a3;obtain⟨L2,L3,L4,L5,L6,L7,L8⟩:=zn7 a3)|(go_at_call 30;(with_reducible refine(impl_dist.calls ((rd_T52 a1 (b5)).f0) ((rd_T52 a1 a0).f0) k5 _ o4.out).mono ?_);rintro e w' ⟨rfl,⟨nd,rfl⟩⟩)|(go_at_call 30;(with_reducible refine(impl_dist.calls ((rd_T52 a1 (b5)).f1) ((rd_T52 a1 a0).f1) m1 _ z9.out).mono ?_);rintro e w' ⟨rfl,⟨nd,rfl⟩⟩))
         go_ret;exact⟨by first|rfl|(simp[errW_none,errW_some]<;>rfl)|(simp only[←d7];first|rfl|(simp[errW_none,errW_some]<;>rfl))|(simp[*,errW_none,errW_some]<;>rfl),zs3 HB a4 b4 d3⟩
        rw[if_neg n7]at H;have C0:decide (1<m1)=false:=decide_eq_false n7;clear n7
        by_cases n8:((rd_T52 a1 (b5)).f2)>((rd_T52 a1 a0).f3)
        ·rw[if_pos n8]at H
         have C1:decide (((rd_T52 a1 a0).f3)<((rd_T52 a1 (b5)).f2))=true:=decide_eq_true n8;clear n8;obtain rfl:=Option.some.inj H;have jz:=a5.out;have ka:=b9.out;obtain⟨L9,M0,M1,M2,M3⟩:=zd5 a2;obtain⟨M4,M5,M6,M7,M8⟩:=zn5 a2;have d0:0≤((b5):Int):=za;have d1:(b5)<(a1.length:Int):=za;obtain⟨d2,d4,a7,a8,a9,b0,b1,b2,b3⟩:=at_T52 d5.out (b5) d0 d1;obtain rfl:d6=d2:=(by injection d4);replace a7:=zx HB a7;replace a8:=zx HB a8;replace a9:=zx HB a9;replace b0:=zx HB b0;replace b1:=zx HB b1;replace b2:=zx HB b2;replace b3:=zx HB b3;replace d0:=eq_true d0;replace d1:=eq_true d1
         go_wp2_with (first|((with_reducible refine gate_dst (N:=5) rfl ?_);(try(refine gate_guard (by rfl) ?_;dsimp only));refine zbx 5 #[.int .i64 0,.int .i64 0,.int .i64 0,.int .i64 0,.int .i64 0,.int .i64 0,.bool false] 52 ?_;intro d8 hg nq hbox hb;have c0:=zA hbox;have d9:=zgs hg (zs2 HB a4 b4);have d3:=zgs hg (zs2 HB a4 b4);have a6:=zne hg a2;have b6:=znf hg a2;have b7:=zne hg a3;have b8:=znf hg a3;replace a2:=zb a2 hb;replace a3:=zb a3 hb;replace HB:=zE (zs2 HB a4 b4) hb;clear hb hbox hg;have kb:=b6.out;have kc:=a6.out;have kd:=b8.out;have ke:=b7.out;obtain⟨M9,N0,N1,N2,N3,N4,N5⟩:=zd7 c0;obtain⟨N6,N7,N8,N9,O0,O1,O2⟩:=zn7 c0;obtain⟨O3,O4,O5,O6,O7,O8,O9⟩:=zd7 a3;obtain⟨P0,P1,P2,P3,P4,P5,P6⟩:=zn7 a3)|(go_at_call 30;(with_reducible refine(impl_dist.calls ((rd_T52 a1 (b5)).f0) ((rd_T52 a1 a0).f0) k5 _ o4.out).mono ?_);rintro e w' ⟨rfl,⟨nd,rfl⟩⟩)|(go_at_call 30;(with_reducible refine(impl_dist.calls ((rd_T52 a1 (b5)).f1) ((rd_T52 a1 a0).f1) m1 _ z9.out).mono ?_);rintro e w' ⟨rfl,⟨nd,rfl⟩⟩))
         go_ret;exact⟨by first|rfl|(simp[errW_none,errW_some]<;>rfl)|(simp only[←d7];first|rfl|(simp[errW_none,errW_some]<;>rfl))|(simp[*,errW_none,errW_some]<;>rfl),zs3 HB a4 b4 d3⟩
        rw[if_neg n8]at H;have C1:decide (((rd_T52 a1 a0).f3)<((rd_T52 a1 (b5)).f2))=false:=decide_eq_false n8;clear n8
        by_cases n9:((rd_T52 a1 a0).f2)>((rd_T52 a1 (b5)).f3)
        ·rw[if_pos n9]at H
         have C2:decide (((rd_T52 a1 (b5)).f3)<((rd_T52 a1 a0).f2))=true:=decide_eq_true n9;clear n9;obtain rfl:=Option.some.inj H;have kf:=a5.out;have kg:=b9.out;obtain⟨P7,P8,P9,Q0,Q1⟩:=zd5 a2;obtain⟨Q2,Q3,Q4,Q5,Q6⟩:=zn5 a2;have d0:0≤((b5):Int):=za;have d1:(b5)<(a1.length:Int):=za;obtain⟨d2,d4,a7,a8,a9,b0,b1,b2,b3⟩:=at_T52 d5.out (b5) d0 d1;obtain rfl:d6=d2:=(by injection d4);replace a7:=zx HB a7;replace a8:=zx HB a8;replace a9:=zx HB a9;replace b0:=zx HB b0;replace b1:=zx HB b1;replace b2:=zx HB b2;replace b3:=zx HB b3;replace d0:=eq_true d0;replace d1:=eq_true d1
         go_wp2_with (first|((with_reducible refine gate_dst (N:=5) rfl ?_);(try(refine gate_guard (by rfl) ?_;dsimp only));refine zbx 5 #[.int .i64 0,.int .i64 0,.int .i64 0,.int .i64 0,.int .i64 0,.int .i64 0,.bool false] 52 ?_;intro d8 hg nr hbox hb;have c0:=zA hbox;have d9:=zgs hg (zs2 HB a4 b4);have d3:=zgs hg (zs2 HB a4 b4);have a6:=zne hg a2;have b6:=znf hg a2;have b7:=zne hg a3;have b8:=znf hg a3;replace a2:=zb a2 hb;replace a3:=zb a3 hb;replace HB:=zE (zs2 HB a4 b4) hb;clear hb hbox hg;have kh:=b6.out;have ki:=a6.out;have kj:=b8.out;have kk:=b7.out;obtain⟨Q7,Q8,Q9,R0,R1,R2,R3⟩:=zd7 c0;obtain⟨R4,R5,R6,R7,R8,R9,S0⟩:=zn7 c0;obtain⟨S1,S2,S3,S4,S5,S6,S7⟩:=zd7 a3;obtain⟨S8,S9,T0,T1,T2,T3,T5⟩:=zn7 a3)|(go_at_call 30;(with_reducible refine(impl_dist.calls ((rd_T52 a1 (b5)).f0) ((rd_T52 a1 a0).f0) k5 _ o4.out).mono ?_);rintro e w' ⟨rfl,⟨nd,rfl⟩⟩)|(go_at_call 30;(with_reducible refine(impl_dist.calls ((rd_T52 a1 (b5)).f1) ((rd_T52 a1 a0).f1) m1 _ z9.out).mono ?_);rintro e w' ⟨rfl,⟨nd,rfl⟩⟩))
         go_ret;exact⟨by first|rfl|(simp[errW_none,errW_some]<;>rfl)|(simp only[←d7];first|rfl|(simp[errW_none,errW_some]<;>rfl))|(simp[*,errW_none,errW_some]<;>rfl),zs3 HB a4 b4 d3⟩
        rw[if_neg n9]at H;have C2:decide (((rd_T52 a1 (b5)).f3)<((rd_T52 a1 a0).f2))=false:=decide_eq_false n9;clear n9;have H':=zA H;clear H;have kl:=a5.out;have km:=b9.out;obtain⟨U0,U1,U2,U3,U4⟩:=zd5 a2;obtain⟨U5,U6,U7,U8,U9⟩:=zn5 a2;have d0:0≤((b5):Int):=za;have d1:(b5)<(a1.length:Int):=za;obtain⟨d2,d4,a7,a8,a9,b0,b1,b2,b3⟩:=at_T52 d5.out (b5) d0 d1;obtain rfl:d6=d2:=(by injection d4);replace a7:=zx HB a7;replace a8:=zx HB a8;replace a9:=zx HB a9;replace b0:=zx HB b0;replace b1:=zx HB b1;replace b2:=zx HB b2;replace b3:=zx HB b3;replace d0:=eq_true d0;replace d1:=eq_true d1
        go_wp2_with (first|((with_reducible refine gate_dst (N:=5) rfl ?_);(try(refine gate_guard (by rfl) ?_;dsimp only));refine zbx 5 #[.int .i64 0,.int .i64 0,.int .i64 0,.int .i64 0,.int .i64 0,.int .i64 0,.bool false] 52 ?_;intro d8 hg ns hbox hb;have c0:=zA hbox;have d9:=zgs hg (zs2 HB a4 b4);have d3:=zgs hg (zs2 HB a4 b4);have a6:=zne hg a2;have b6:=znf hg a2;have b7:=zne hg a3;have b8:=znf hg a3;replace a2:=zb a2 hb;replace a3:=zb a3 hb;replace HB:=zE (zs2 HB a4 b4) hb;clear hb hbox hg;have kn:=b6.out;have ko:=a6.out;have kp:=b8.out;have kr:=b7.out;obtain⟨V0,V1,V2,V3,V4,V5,V6⟩:=zd7 c0;obtain⟨V7,V8,V9,W0,W1,W2,W3⟩:=zn7 c0;obtain⟨W4,W5,W6,W7,W8,W9,X0⟩:=zd7 a3;obtain⟨X1,X2,X3,X4,X5,X6,X7⟩:=zn7 a3)|(go_at_call 30;(with_reducible refine(impl_dist.calls ((rd_T52 a1 (b5)).f0) ((rd_T52 a1 a0).f0) k5 _ o4.out).mono ?_);rintro e w' ⟨rfl,⟨nd,rfl⟩⟩)|(go_at_call 30;(with_reducible refine(impl_dist.calls ((rd_T52 a1 (b5)).f1) ((rd_T52 a1 a0).f1) m1 _ z9.out).mono ?_);rintro e w' ⟨rfl,⟨nd,rfl⟩⟩))
        go_roundg B1
        case measure=>have:=o0.out;have:=o1.out;have:=n5.out;omega
        case rel=>exact⟨(wrap64 (a0+1)),zi,H',⟨by have:=o0.out;have:=o1.out;have:=n5.out;omega⟩,⟨zpf a2 a6⟩,⟨zs3 HB a4 b4 d3⟩⟩
       rw[if_pos B3]at H;have E1:(((rd_T52 a1 (b5)).f0)==((rd_T52 a1 a0).f0))=true:=beq_iff_eq.mpr B3;have E2:(((rd_T52 a1 (b5)).f0) !=((rd_T52 a1 a0).f0))=false:=bne_eq_false_iff_eq.mpr B3;clear B3
       by_cases C3:((rd_T52 a1 (b5)).f1)=((rd_T52 a1 a0).f1)
       ·rw[if_pos C3]at H
        have X8:(((rd_T52 a1 (b5)).f1)==((rd_T52 a1 a0).f1))=true:=beq_iff_eq.mpr C3;have X9:(((rd_T52 a1 (b5)).f1) !=((rd_T52 a1 a0).f1))=false:=bne_eq_false_iff_eq.mpr C3;clear C3;obtain rfl:=Option.some.inj H;have lo:=a5.out;have lp:=b9.out;obtain⟨ab,ad,ae,af,ag⟩:=zd5 a2;obtain⟨ah,ai,aj,ak,al⟩:=zn5 a2;have d0:0≤((b5):Int):=za;have d1:(b5)<(a1.length:Int):=za;obtain⟨d2,d4,a7,a8,a9,b0,b1,b2,b3⟩:=at_T52 d5.out (b5) d0 d1;obtain rfl:d6=d2:=(by injection d4);replace a7:=zx HB a7;replace a8:=zx HB a8;replace a9:=zx HB a9;replace b0:=zx HB b0;replace b1:=zx HB b1;replace b2:=zx HB b2;replace b3:=zx HB b3;replace d0:=eq_true d0;replace d1:=eq_true d1
        go_wp2_with (first|((with_reducible refine gate_dst (N:=5) rfl ?_);(try(refine gate_guard (by rfl) ?_;dsimp only));refine zbx 5 #[.int .i64 0,.int .i64 0,.int .i64 0,.int .i64 0,.int .i64 0,.int .i64 0,.bool false] 52 ?_;intro d8 hg ok hbox hb;have c0:=zA hbox;have d9:=zgs hg (zs2 HB a4 b4);have d3:=zgs hg (zs2 HB a4 b4);have a6:=zne hg a2;have b6:=znf hg a2;have b7:=zne hg a3;have b8:=znf hg a3;replace a2:=zb a2 hb;replace a3:=zb a3 hb;replace HB:=zE (zs2 HB a4 b4) hb;clear hb hbox hg;have lq:=b6.out;have lr:=a6.out;have ls:=b8.out;have lu:=b7.out;obtain⟨am,an,ao,ap,aq,ar,au⟩:=zd7 c0;obtain⟨av,aw,ax,ay,az,ba,bb⟩:=zn7 c0;obtain⟨bc,bd,be,bf,bg,bh,bi⟩:=zd7 a3;obtain⟨bj,bk,bl,bm,bn,bo,bp⟩:=zn7 a3))
        go_ret;exact⟨by first|rfl|(simp[errW_none,errW_some]<;>rfl)|(simp only[←d7];first|rfl|(simp[errW_none,errW_some]<;>rfl))|(simp[*,errW_none,errW_some]<;>rfl),zs3 HB a4 b4 d3⟩
       rw[if_neg C3]at H;have X8:(((rd_T52 a1 (b5)).f1)==((rd_T52 a1 a0).f1))=false:=beq_eq_false_iff_ne.mpr C3;have X9:(((rd_T52 a1 (b5)).f1) !=((rd_T52 a1 a0).f1))=true:=bne_iff_ne.mpr C3;replace H:=zbd H;obtain⟨k6,Y0,H⟩:=H
       by_cases C6:k6>1
       ·rw[if_pos C6]at H
        have Y1:decide (1<k6)=true:=decide_eq_true C6;clear C6;obtain rfl:=Option.some.inj H;have lv:=a5.out;have lw:=b9.out;obtain⟨bq,br,bs,bu,bv⟩:=zd5 a2;obtain⟨bw,bx,bz,ca,cb⟩:=zn5 a2;have d0:0≤((b5):Int):=za;have d1:(b5)<(a1.length:Int):=za;obtain⟨d2,d4,a7,a8,a9,b0,b1,b2,b3⟩:=at_T52 d5.out (b5) d0 d1;obtain rfl:d6=d2:=(by injection d4);replace a7:=zx HB a7;replace a8:=zx HB a8;replace a9:=zx HB a9;replace b0:=zx HB b0;replace b1:=zx HB b1;replace b2:=zx HB b2;replace b3:=zx HB b3;replace d0:=eq_true d0;replace d1:=eq_true d1
        go_wp2_with (first|((with_reducible refine gate_dst (N:=5) rfl ?_);(try(refine gate_guard (by rfl) ?_;dsimp only));refine zbx 5 #[.int .i64 0,.int .i64 0,.int .i64 0,.int .i64 0,.int .i64 0,.int .i64 0,.bool false] 52 ?_;intro d8 hg ol hbox hb;have c0:=zA hbox;have d9:=zgs hg (zs2 HB a4 b4);have d3:=zgs hg (zs2 HB a4 b4);have a6:=zne hg a2;have b6:=znf hg a2;have b7:=zne hg a3;have b8:=znf hg a3;replace a2:=zb a2 hb;replace a3:=zb a3 hb;replace HB:=zE (zs2 HB a4 b4) hb;clear hb hbox hg;have lx:=b6.out;have ly:=a6.out;have lz:=b8.out;have ma:=b7.out;obtain⟨cc,cd,ce,cf,cg,ch,ci⟩:=zd7 c0;obtain⟨cj,ck,cl,cm,cn,co,cp⟩:=zn7 c0;obtain⟨cq,cr,cs,ct,cu,cv,cw⟩:=zd7 a3;obtain⟨cx,cy,cz,da,db,dc,dd⟩:=zn7 a3)|(go_at_call 30;(with_reducible refine(impl_dist.calls ((rd_T52 a1 (b5)).f0) ((rd_T52 a1 a0).f0) k6 _ Y0.out).mono ?_);rintro e w' ⟨rfl,⟨nd,rfl⟩⟩))
        go_ret;exact⟨by first|rfl|(simp[errW_none,errW_some]<;>rfl)|(simp only[←d7];first|rfl|(simp[errW_none,errW_some]<;>rfl))|(simp[*,errW_none,errW_some]<;>rfl),zs3 HB a4 b4 d3⟩
       rw[if_neg C6]at H;have Y1:decide (1<k6)=false:=decide_eq_false C6;clear C6;replace H:=zbd H;obtain⟨m2,de,H⟩:=H
       by_cases C7:m2>1
       ·rw[if_pos C7]at H
        have Y2:decide (1<m2)=true:=decide_eq_true C7;clear C7;obtain rfl:=Option.some.inj H;have mb:=a5.out;have mc:=b9.out;obtain⟨df,dg,dh,di,dj⟩:=zd5 a2;obtain⟨dk,dl,dm,dn,dp⟩:=zn5 a2;have d0:0≤((b5):Int):=za;have d1:(b5)<(a1.length:Int):=za;obtain⟨d2,d4,a7,a8,a9,b0,b1,b2,b3⟩:=at_T52 d5.out (b5) d0 d1;obtain rfl:d6=d2:=(by injection d4);replace a7:=zx HB a7;replace a8:=zx HB a8;replace a9:=zx HB a9;replace b0:=zx HB b0;replace b1:=zx HB b1;replace b2:=zx HB b2;replace b3:=zx HB b3;replace d0:=eq_true d0;replace d1:=eq_true d1
        go_wp2_with (first|((with_reducible refine gate_dst (N:=5) rfl ?_);(try(refine gate_guard (by rfl) ?_;dsimp only));refine zbx 5 #[.int .i64 0,.int .i64 0,.int .i64 0,.int .i64 0,.int .i64 0,.int .i64 0,.bool false] 52 ?_;intro d8 hg om hbox hb;have c0:=zA hbox;have d9:=zgs hg (zs2 HB a4 b4);have d3:=zgs hg (zs2 HB a4 b4);have a6:=zne hg a2;have b6:=znf hg a2;have b7:=zne hg a3;have b8:=znf hg a3;replace a2:=zb a2 hb;replace a3:=zb a3 hb;replace HB:=zE (zs2 HB a4 b4) hb;clear hb hbox hg;have md:=b6.out;have mf:=a6.out;have mg:=b8.out;have mh:=b7.out;obtain⟨dq,dr,ds,dt,du,dv,dw⟩:=zd7 c0;obtain⟨dx,dy,dz,ea,eb,ec,ed⟩:=zn7 c0;obtain⟨ee,ef,eg,eh,ei,ej,ek⟩:=zd7 a3;obtain⟨el,em,en,eo,ep,er,es⟩:=zn7 a3)|(go_at_call 30;(with_reducible refine(impl_dist.calls ((rd_T52 a1 (b5)).f0) ((rd_T52 a1 a0).f0) k6 _ Y0.out).mono ?_);rintro e w' ⟨rfl,⟨nd,rfl⟩⟩)|(go_at_call 30;(with_reducible refine(impl_dist.calls ((rd_T52 a1 (b5)).f1) ((rd_T52 a1 a0).f1) m2 _ de.out).mono ?_);rintro e w' ⟨rfl,⟨nd,rfl⟩⟩))
        go_ret;exact⟨by first|rfl|(simp[errW_none,errW_some]<;>rfl)|(simp only[←d7];first|rfl|(simp[errW_none,errW_some]<;>rfl))|(simp[*,errW_none,errW_some]<;>rfl),zs3 HB a4 b4 d3⟩
       rw[if_neg C7]at H;have Y2:decide (1<m2)=false:=decide_eq_false C7;clear C7
       by_cases C8:((rd_T52 a1 (b5)).f2)>((rd_T52 a1 a0).f3)
       ·rw[if_pos C8]at H
        have Y3:decide (((rd_T52 a1 a0).f3)<((rd_T52 a1 (b5)).f2))=true:=decide_eq_true C8;clear C8;obtain rfl:=Option.some.inj H;have mi:=a5.out;have mj:=b9.out;obtain⟨et,eu,ev,ew,ex⟩:=zd5 a2;obtain⟨ey,ez,fa,fb,fc⟩:=zn5 a2;have d0:0≤((b5):Int):=za;have d1:(b5)<(a1.length:Int):=za;obtain⟨d2,d4,a7,a8,a9,b0,b1,b2,b3⟩:=at_T52 d5.out (b5) d0 d1;obtain rfl:d6=d2:=(by injection d4);replace a7:=zx HB a7;replace a8:=zx HB a8;replace a9:=zx HB a9;replace b0:=zx HB b0;replace b1:=zx HB b1;replace b2:=zx HB b2;replace b3:=zx HB b3;replace d0:=eq_true d0;replace d1:=eq_true d1
        go_wp2_with (first|((with_reducible refine gate_dst (N:=5) rfl ?_);(try(refine gate_guard (by rfl) ?_;dsimp only));refine zbx 5 #[.int .i64 0,.int .i64 0,.int .i64 0,.int .i64 0,.int .i64 0,.int .i64 0,.bool false] 52 ?_;intro d8 hg oo hbox hb;have c0:=zA hbox;have d9:=zgs hg (zs2 HB a4 b4);have d3:=zgs hg (zs2 HB a4 b4);have a6:=zne hg a2;have b6:=znf hg a2;have b7:=zne hg a3;have b8:=znf hg a3;replace a2:=zb a2 hb;replace a3:=zb a3 hb;replace HB:=zE (zs2 HB a4 b4) hb;clear hb hbox hg;have mk:=b6.out;have ml:=a6.out;have mm:=b8.out;have mo:=b7.out;obtain⟨fd,fe,ff,fg,fh,fi,fj⟩:=zd7 c0;obtain⟨fk,fl,fm,fo,fp,fq,fr⟩:=zn7 c0;obtain⟨fs,ft,fu,fv,fw,fx,fy⟩:=zd7 a3;obtain⟨fz,ga,gb,gc,gf,gg,gh⟩:=zn7 a3)|(go_at_call 30;(with_reducible refine(impl_dist.calls ((rd_T52 a1 (b5)).f0) ((rd_T52 a1 a0).f0) k6 _ Y0.out).mono ?_);rintro e w' ⟨rfl,⟨nd,rfl⟩⟩)|(go_at_call 30;(with_reducible refine(impl_dist.calls ((rd_T52 a1 (b5)).f1) ((rd_T52 a1 a0).f1) m2 _ de.out).mono ?_);rintro e w' ⟨rfl,⟨nd,rfl⟩⟩))
        go_ret;exact⟨by first|rfl|(simp[errW_none,errW_some]<;>rfl)|(simp only[←d7];first|rfl|(simp[errW_none,errW_some]<;>rfl))|(simp[*,errW_none,errW_some]<;>rfl),zs3 HB a4 b4 d3⟩
       rw[if_neg C8]at H;have Y3:decide (((rd_T52 a1 a0).f3)<((rd_T52 a1 (b5)).f2))=false:=decide_eq_false C8;clear C8
       by_cases C9:((rd_T52 a1 a0).f2)>((rd_T52 a1 (b5)).f3)
       ·rw[if_pos C9]at H
        have Y4:decide (((rd_T52 a1 (b5)).f3)<((rd_T52 a1 a0).f2))=true:=decide_eq_true C9;clear C9;obtain rfl:=Option.some.inj H;have mp:=a5.out;have mq:=b9.out;obtain⟨gi,gj,gl,gm,gn⟩:=zd5 a2;obtain⟨gp,gq,gr,gs,gu⟩:=zn5 a2;have d0:0≤((b5):Int):=za;have d1:(b5)<(a1.length:Int):=za;obtain⟨d2,d4,a7,a8,a9,b0,b1,b2,b3⟩:=at_T52 d5.out (b5) d0 d1;obtain rfl:d6=d2:=(by injection d4);replace a7:=zx HB a7;replace a8:=zx HB a8;replace a9:=zx HB a9;replace b0:=zx HB b0;replace b1:=zx HB b1;replace b2:=zx HB b2;replace b3:=zx HB b3;replace d0:=eq_true d0;replace d1:=eq_true d1
        go_wp2_with (first|((with_reducible refine gate_dst (N:=5) rfl ?_);(try(refine gate_guard (by rfl) ?_;dsimp only));refine zbx 5 #[.int .i64 0,.int .i64 0,.int .i64 0,.int .i64 0,.int .i64 0,.int .i64 0,.bool false] 52 ?_;intro d8 hg op hbox hb;have c0:=zA hbox;have d9:=zgs hg (zs2 HB a4 b4);have d3:=zgs hg (zs2 HB a4 b4);have a6:=zne hg a2;have b6:=znf hg a2;have b7:=zne hg a3;have b8:=znf hg a3;replace a2:=zb a2 hb;replace a3:=zb a3 hb;replace HB:=zE (zs2 HB a4 b4) hb;clear hb hbox hg;have mr:=b6.out;have ms:=a6.out;have mt:=b8.out;have mu:=b7.out;obtain⟨gv,gw,gx,gy,gz,ha,hc⟩:=zd7 c0;obtain⟨hd,hf,hh,hj,hl,hm,hn⟩:=zn7 c0;obtain⟨ho,hp,hq,hr,hs,ht,hu⟩:=zd7 a3;obtain⟨hv,hw,hx,hy,hz,ia,ib⟩:=zn7 a3)|(go_at_call 30;(with_reducible refine(impl_dist.calls ((rd_T52 a1 (b5)).f0) ((rd_T52 a1 a0).f0) k6 _ Y0.out).mono ?_);rintro e w' ⟨rfl,⟨nd,rfl⟩⟩)|(go_at_call 30;(with_reducible refine(impl_dist.calls ((rd_T52 a1 (b5)).f1) ((rd_T52 a1 a0).f1) m2 _ de.out).mono ?_);rintro e w' ⟨rfl,⟨nd,rfl⟩⟩))
        go_ret;exact⟨by first|rfl|(simp[errW_none,errW_some]<;>rfl)|(simp only[←d7];first|rfl|(simp[errW_none,errW_some]<;>rfl))|(simp[*,errW_none,errW_some]<;>rfl),zs3 HB a4 b4 d3⟩
       rw[if_neg C9]at H;have Y4:decide (((rd_T52 a1 (b5)).f3)<((rd_T52 a1 a0).f2))=false:=decide_eq_false C9;clear C9;have H':=zA H;clear H;have mv:=a5.out;have mw:=b9.out;obtain⟨ic,ie,ig,ii,ij⟩:=zd5 a2;obtain⟨ik,il,im,io,ip⟩:=zn5 a2;have d0:0≤((b5):Int):=za;have d1:(b5)<(a1.length:Int):=za;obtain⟨d2,d4,a7,a8,a9,b0,b1,b2,b3⟩:=at_T52 d5.out (b5) d0 d1;obtain rfl:d6=d2:=(by injection d4);replace a7:=zx HB a7;replace a8:=zx HB a8;replace a9:=zx HB a9;replace b0:=zx HB b0;replace b1:=zx HB b1;replace b2:=zx HB b2;replace b3:=zx HB b3;replace d0:=eq_true d0;replace d1:=eq_true d1
       go_wp2_with (first|((with_reducible refine gate_dst (N:=5) rfl ?_);(try(refine gate_guard (by rfl) ?_;dsimp only));refine zbx 5 #[.int .i64 0,.int .i64 0,.int .i64 0,.int .i64 0,.int .i64 0,.int .i64 0,.bool false] 52 ?_;intro d8 hg oq hbox hb;have c0:=zA hbox;have d9:=zgs hg (zs2 HB a4 b4);have d3:=zgs hg (zs2 HB a4 b4);have a6:=zne hg a2;have b6:=znf hg a2;have b7:=zne hg a3;have b8:=znf hg a3;replace a2:=zb a2 hb;replace a3:=zb a3 hb;replace HB:=zE (zs2 HB a4 b4) hb;clear hb hbox hg;have mz:=b6.out;have na:=a6.out;have nb:=b8.out;have nc:=b7.out;obtain⟨iq,ir,iu,iv,iw,ix,iy⟩:=zd7 c0;obtain⟨iz,ja,jb,jc,jd,je,jf⟩:=zn7 c0;obtain⟨Y5,Y6,Y7,Y8,Y9,Z0,Z1⟩:=zd7 a3;obtain⟨Z2,Z3,Z4,Z5,Z6,Z7,Z8⟩:=zn7 a3)|(go_at_call 30;(with_reducible refine(impl_dist.calls ((rd_T52 a1 (b5)).f0) ((rd_T52 a1 a0).f0) k6 _ Y0.out).mono ?_);rintro e w' ⟨rfl,⟨nd,rfl⟩⟩)|(go_at_call 30;(with_reducible refine(impl_dist.calls ((rd_T52 a1 (b5)).f1) ((rd_T52 a1 a0).f1) m2 _ de.out).mono ?_);rintro e w' ⟨rfl,⟨nd,rfl⟩⟩))
       go_roundg B1
       case measure=>have:=o0.out;have:=o1.out;have:=n5.out;omega
       case rel=>exact⟨(wrap64 (a0+1)),zi,H',⟨by have:=o0.out;have:=o1.out;have:=n5.out;omega⟩,⟨zpf a2 a6⟩,⟨zs3 HB a4 b4 d3⟩⟩
end Go.Proofs.Ytidoahlbaeiemaa.QFnFlyTight
