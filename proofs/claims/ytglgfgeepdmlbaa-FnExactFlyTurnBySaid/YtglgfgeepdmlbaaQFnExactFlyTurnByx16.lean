/- The walk of what the law FnExactFlyTurnBy reaches: laid by a program of this session (ownprint.py). -/
import Derived.Test.YtglgfgeepdmlbaaQFnExactFlyTurnByx0
import Derived.Test.YtglgfgeepdmlbaaQFnExactFlyTurnByx15
namespace Go.Proofs.Ytglgfgeepdmlbaa.QFnExactFlyTurnBy
open Go.RowKit Go.Proofs.YtglgfgeepdmlbaaW.PrintWords Go.Proofs.YtglgfgeepdmlbaaW.PrintLast Go.Proofs.YtglgfgeepdmlbaaW.PrintMore Go.Proofs.Ytglgfgeepdmlbaa.Z
attribute [local go_sem] max2_int min2_int max_two min_two max_three min_three max_four min_four zdn   -- for this text's walks alone
set_option linter.unusedVariables false
set_option linter.unusedSimpArgs false
mutual
def impl_FlyPathOk.j0:Nat→Bool→Int→Int→List (S53)→Int→Int→Option (Bool)
 |0,_,_,_,_,_,_=>none
 |k+1,x24,a1,a2,a0,a3,a4=>if x24=true then(some false)else(impl_FlyPathOk.l0 k a0 (a0.length:Int) 0 a1 a2 a0 a3 a4)
def impl_FlyPathOk.l0:Nat→List (S53)→Int→Int→Int→Int→List (S53)→Int→Int→Option (Bool)
 |0,_,_,_,_,_,_,_,_=>none
 |k+1,x26,x27,x28,a0,a1,a2,a3,a4=>if x28<x27 then(if 0≤x28 then(if x28<(x26.length:Int)then((impl_within.f ((rd_T53 x26 x28).f0) 0 15).bind fun a5=>(if a5=true then((impl_within.f ((rd_T53 x26 x28).f1) 0 15).bind fun a6=>(if a6=true then(if 0≤((rd_T53 x26 x28).f2)then(if((rd_T53 x26 x28).f2)≤((rd_T53 x26 x28).f3)then(if(((rd_T53 x26 x28).f3)≤6)then((impl_window.f ((rd_T53 x26 x28).f4) ((rd_T53 x26 x28).f5)).bind fun a7=>(impl_FlyPathOk.j2 k x28 x26 x27 x28 (!a7) a0 a1 a2 a3 a4 ((rd_T53 x26 x28).f0) ((rd_T53 x26 x28).f1) ((rd_T53 x26 x28).f2) ((rd_T53 x26 x28).f3) ((rd_T53 x26 x28).f4) ((rd_T53 x26 x28).f5) ((rd_T53 x26 x28).f6)))else(impl_FlyPathOk.j2 k x28 x26 x27 x28 true a0 a1 a2 a3 a4 ((rd_T53 x26 x28).f0) ((rd_T53 x26 x28).f1) ((rd_T53 x26 x28).f2) ((rd_T53 x26 x28).f3) ((rd_T53 x26 x28).f4) ((rd_T53 x26 x28).f5) ((rd_T53 x26 x28).f6)))else(impl_FlyPathOk.j2 k x28 x26 x27 x28 true a0 a1 a2 a3 a4 ((rd_T53 x26 x28).f0) ((rd_T53 x26 x28).f1) ((rd_T53 x26 x28).f2) ((rd_T53 x26 x28).f3) ((rd_T53 x26 x28).f4) ((rd_T53 x26 x28).f5) ((rd_T53 x26 x28).f6)))else(impl_FlyPathOk.j2 k x28 x26 x27 x28 true a0 a1 a2 a3 a4 ((rd_T53 x26 x28).f0) ((rd_T53 x26 x28).f1) ((rd_T53 x26 x28).f2) ((rd_T53 x26 x28).f3) ((rd_T53 x26 x28).f4) ((rd_T53 x26 x28).f5) ((rd_T53 x26 x28).f6)))else(impl_FlyPathOk.j2 k x28 x26 x27 x28 true a0 a1 a2 a3 a4 ((rd_T53 x26 x28).f0) ((rd_T53 x26 x28).f1) ((rd_T53 x26 x28).f2) ((rd_T53 x26 x28).f3) ((rd_T53 x26 x28).f4) ((rd_T53 x26 x28).f5) ((rd_T53 x26 x28).f6))))else(impl_FlyPathOk.j2 k x28 x26 x27 x28 true a0 a1 a2 a3 a4 ((rd_T53 x26 x28).f0) ((rd_T53 x26 x28).f1) ((rd_T53 x26 x28).f2) ((rd_T53 x26 x28).f3) ((rd_T53 x26 x28).f4) ((rd_T53 x26 x28).f5) ((rd_T53 x26 x28).f6))))else(none))else(none))else(some true)
def impl_FlyPathOk.j2:Nat→Int→List (S53)→Int→Int→Bool→Int→Int→List (S53)→Int→Int→Int→Int→Int→Int→Int→Int→Bool→Option (Bool)
 |0,_,_,_,_,_,_,_,_,_,_,_,_,_,_,_,_,_=>none
 |k+1,x3,x26,x27,x28,x68,a1,a2,a0,a3,a4,a5,a6,a7,a8,a9,b0,b1=>if x68=true then(some false)else(if x3=0 then(impl_FlyPathOk.l0 k x26 x27 (wrap64 (x28+1)) a1 a2 a0 a3 a4)else(if 0≤(wrap64 (x3-1))then(if(wrap64 (x3-1))<(a0.length:Int)then(if((rd_T53 a0 (wrap64 (x3-1))).f0)=a5 then(if((rd_T53 a0 (wrap64 (x3-1))).f1)=a6 then(some false)else((impl_dist.f ((rd_T53 a0 (wrap64 (x3-1))).f0) a5).bind fun b2=>(if b2>1 then(some false)else((impl_dist.f ((rd_T53 a0 (wrap64 (x3-1))).f1) a6).bind fun b3=>(if b3>1 then(some false)else(if((rd_T53 a0 (wrap64 (x3-1))).f2)>a8 then(some false)else(if a7>((rd_T53 a0 (wrap64 (x3-1))).f3)then(some false)else(impl_FlyPathOk.l0 k x26 x27 (wrap64 (x28+1)) a1 a2 a0 a3 a4))))))))else((impl_dist.f ((rd_T53 a0 (wrap64 (x3-1))).f0) a5).bind fun b4=>(if b4>1 then(some false)else((impl_dist.f ((rd_T53 a0 (wrap64 (x3-1))).f1) a6).bind fun b5=>(if b5>1 then(some false)else(if((rd_T53 a0 (wrap64 (x3-1))).f2)>a8 then(some false)else(if a7>((rd_T53 a0 (wrap64 (x3-1))).f3)then(some false)else(impl_FlyPathOk.l0 k x26 x27 (wrap64 (x28+1)) a1 a2 a0 a3 a4))))))))else(none))else(none)))
end
def impl_FlyPathOk.f (k:Nat) (a0:Int) (a1:Int) (a2:List (S53)) (a3:Int) (a4:Int):Option (Bool):=(impl_FlyKindOk.f a0 a1).bind fun a5=>(if a5=true then((impl_within.f (a2.length:Int) 1 40).bind fun a6=>(if a6=true then((impl_window.f a3 a4).bind fun a7=>(impl_FlyPathOk.j0 k (!a7) a0 a1 a2 a3 a4))else(impl_FlyPathOk.j0 k true a0 a1 a2 a3 a4)))else(impl_FlyPathOk.j0 k true a0 a1 a2 a3 a4))
set_option maxHeartbeats 8000000 in
set_option maxRecDepth 100000 in
theorem impl_FlyPathOk.calls (k:Nat) (e0:Int) (e1:Int) (o1:Option Addr) (n3:Nat) (a1:List (S53)) (e2:Int) (e3:Int) (r:Bool) (w:World) (hr0_2:Kd.C k53 w o1 a1.length a1) (hc0_2:a1.length≤n3) (h:impl_FlyPathOk.f k e0 e1 a1 e2 e3=some r):
 Calls Try.prog 17 #[.agg #[.int .i64 e0,.int .i64 e1,.slice o1 a1.length n3,.int .i64 e2,.int .i64 e3]] w fun e w'=>e= .returned (.bool r)∧Below w.heap.size w w':=by
 have nj:=Try.underlying32;have nk:=Try.underlying29;have nl:=Try.underlying53;have d5:=zA hr0_2;have kx:=zA hc0_2;clear hr0_2 hc0_2;have HB:=zA (Below.refl w.heap.size w);have H:=h;clear h;unfold impl_FlyPathOk.f at H;have jl:=zA H;clear H
 go_enter Try.func17,Try.ntmps17
 go_upto_region 1 with(first|((with_reducible refine gate_dst (N:=1) rfl ?_);(try(refine gate_guard (by rfl) ?_;dsimp only));refine zbx 1 #[.int .i64 e0,.int .i64 e1,.slice o1 a1.length n3,.int .i64 e2,.int .i64 e3] 32 ?_;intro o2 hg w3 hbox hb;have a2:=zA hbox;have ky:=zgs hg (zs0 HB);have a4:=zgs hg (zs0 HB);replace HB:=zE (zs0 HB) hb;clear hb hbox hg))
 (try simp only[Act.put,List.setIfInBounds_toArray,List.set_cons_zero,List.set_cons_succ])
 go_cut [24] (fun nm wc=> ∃(kq:Nat) (m2:Bool),nm= .bool m2∧Aside0 (impl_FlyPathOk.j0 kq m2 e0 e1 a1 e2 e3=some r)∧Aside0 (kq≤k)∧Aside0 (wc.heap[o2]?=some (.cells #[.int .i64 e0,.int .i64 e1,(.slice o1 a1.length n3),.int .i64 e2,.int .i64 e3] 32 (0,0)))∧Aside0 (Below w.heap.size w wc))
 case first=>
  have H:=jl.out;clear jl;replace H:=zbd H;obtain⟨jm,A4,H⟩:=H
  by_cases c5:jm=true
  rotate_left
  ·replace c5:=Bool.eq_false_iff.mpr c5
   subst c5;rw[if_neg zfn]at H;have H':=zA H;clear H;obtain⟨e5,e6,e7,e8,e9⟩:=zd5 a2;obtain⟨f7,f8,f9,g0,g1⟩:=zn5 a2
   go_wp2_with (first|((with_reducible refine gate_callee (f:=28) rfl ?_);refine zgl (N:=some 8) Try.func28 #[.agg #[.int .i64 e0,.int .i64 e1]] ?_;(with_reducible refine(impl_FlyKindOk.calls e0 e1 false _ A4.out).mono ?_);rintro e nx ⟨rfl,hb⟩;refine⟨_,rfl,?_⟩;replace a2:=zb a2 hb;replace HB:=zE (zs1 HB a4) hb;(try clear hb);(try clear hb2);(try clear hk);(try clear hi)))
   go_meet
   case rel=>exact⟨_,(true),zi,H',⟨by first|omega|exact Nat.le_refl _⟩,⟨zh a2⟩,⟨zs1 HB a4⟩⟩
  subst c5;rw[if_pos rfl]at H;replace H:=zbd H;obtain⟨jn,A6,H⟩:=H
  by_cases c7:jn=true
  rotate_left
  ·replace c7:=Bool.eq_false_iff.mpr c7
   subst c7;rw[if_neg zfn]at H;have H':=zA H;clear H;obtain⟨g2,g3,g4,g5,g6⟩:=zd5 a2;obtain⟨g7,g8,g9,h0,h1⟩:=zn5 a2
   go_wp2_with (first|((with_reducible refine gate_callee (f:=28) rfl ?_);refine zgl (N:=some 8) Try.func28 #[.agg #[.int .i64 e0,.int .i64 e1]] ?_;(with_reducible refine(impl_FlyKindOk.calls e0 e1 true _ A4.out).mono ?_);rintro e ny ⟨rfl,hb⟩;refine⟨_,rfl,?_⟩;replace a2:=zb a2 hb;replace HB:=zE (zs1 HB a4) hb;(try clear hb);(try clear hb2);(try clear hk);(try clear hi);obtain⟨h2,h3,h4,h5,h6⟩:=zd5 a2;obtain⟨h7,h8,h9,i0,i1⟩:=zn5 a2)|(go_at_call 16;(with_reducible refine(impl_within.calls (a1.length:Int) 1 40 false _ A6.out).mono ?_);rintro e w' ⟨rfl,⟨nd,rfl⟩⟩))
   go_meet
   case rel=>exact⟨_,(true),zi,H',⟨by first|omega|exact Nat.le_refl _⟩,⟨zh a2⟩,⟨zs1 HB a4⟩⟩
  subst c7;rw[if_pos rfl]at H;replace H:=zbd H;obtain⟨D2,A8,H⟩:=H;have H':=zA H;clear H;obtain⟨k6,k7,k8,k9,l4⟩:=zd5 a2;obtain⟨l5,l6,l7,l8,l9⟩:=zn5 a2
  go_wp2_with (first|((with_reducible refine gate_callee (f:=28) rfl ?_);refine zgl (N:=some 8) Try.func28 #[.agg #[.int .i64 e0,.int .i64 e1]] ?_;(with_reducible refine(impl_FlyKindOk.calls e0 e1 true _ A4.out).mono ?_);rintro e nz ⟨rfl,hb⟩;refine⟨_,rfl,?_⟩;replace a2:=zb a2 hb;replace HB:=zE (zs1 HB a4) hb;(try clear hb);(try clear hb2);(try clear hk);(try clear hi);obtain⟨i2,i3,i4,i5,i6⟩:=zd5 a2;obtain⟨i7,i8,i9,j1,j4⟩:=zn5 a2)|(go_at_call 16;(with_reducible refine(impl_within.calls (a1.length:Int) 1 40 true _ A6.out).mono ?_);rintro e w' ⟨rfl,⟨nd,rfl⟩⟩)|(go_at_call 29;(with_reducible refine(impl_window.calls e2 e3 D2 _ A8.out).mono ?_);rintro e w' ⟨rfl,⟨nd,rfl⟩⟩))
  go_meet
  case rel=>exact⟨_,(!D2),zi,H',⟨by first|omega|exact Nat.le_refl _⟩,⟨zh a2⟩,⟨zs1 HB a4⟩⟩
 case rest=>
  clear jl
  try clear c1
  try clear c2
  try clear p2
  try clear c5
  try clear c7
  try clear i2 i3 i4 i5 i6
  try clear g2 g3 g4 g5 g6
  try clear h2 h3 h4 h5 h6
  try clear e5 e6 e7 e8 e9
  try clear k6 k7 k8 k9 l4
  try clear i7 i8 i9 j1 j4
  try clear g7 g8 g9 h0 h1
  try clear h7 h8 h9 i0 i1
  try clear f7 f8 f9 g0 g1
  try clear l5 l6 l7 l8 l9
  obtain⟨kq,m2,rfl,HA,n9,a2,HB⟩:=hcut
  cases kq with
  |zero=>exact absurd HA.out (by simp[impl_FlyPathOk.j0])
  |succ kz=>
   have H:=HA.out;clear HA;simp only[impl_FlyPathOk.j0]at H
   by_cases C6:m2=true
   ·subst C6
    rw[if_pos rfl]at H;obtain rfl:=Option.some.inj H
    go_wp2
    go_ret;exact⟨ze,zs1 HB a4⟩
   replace C6:=Bool.eq_false_iff.mpr C6;subst C6;rw[if_neg zfn]at H;have H':=zA H;clear H;obtain⟨m3,m4,m5,m6,m7⟩:=zd5 a2;obtain⟨m8,m9,n0,n1,n2⟩:=zn5 a2
   go_wp2
   go_loopg [28] kz (fun kq nn w'=> ∃(a0:Int),nn= .int .i64 a0∧Aside0 (impl_FlyPathOk.l0 kq a1 (a1.length:Int) a0 e0 e1 a1 e2 e3=some r)∧Aside0 (kq≤kz)∧Aside0 (w'.heap[o2]?=some (.cells #[.int .i64 e0,.int .i64 e1,(.slice o1 a1.length n3),.int .i64 e2,.int .i64 e3] 32 (0,0)))∧Aside0 (Below w.heap.size w w'))
   case atStart=>exact⟨(0),zi,H',⟨Nat.le_refl _⟩,⟨zh a2⟩,⟨zs1 HB a4⟩⟩
   case round=>
    clear H'
    try clear c1
    try clear c2
    try clear p2
    try clear c5
    try clear c7
    try clear C6
    try clear i2 i3 i4 i5 i6
    try clear g2 g3 g4 g5 g6
    try clear h2 h3 h4 h5 h6
    try clear e5 e6 e7 e8 e9
    try clear m3 m4 m5 m6 m7
    try clear k6 k7 k8 k9 l4
    try clear i7 i8 i9 j1 j4
    try clear g7 g8 g9 h0 h1
    try clear h7 h8 h9 i0 i1
    try clear f7 f8 f9 g0 g1
    try clear m8 m9 n0 n1 n2
    try clear l5 l6 l7 l8 l9
    try clear p2
    obtain⟨a0,rfl,HA,o0,a2,HB⟩:=hrel
    cases gk with
    |zero=>exact absurd HA.out (by simp[impl_FlyPathOk.l0])
    |succ k2=>
     have H:=HA.out;clear HA;simp only[impl_FlyPathOk.l0]at H
     by_cases A2:a0<(a1.length:Int)
     rotate_left
     ·rw[if_neg A2]at H
      have z9:decide (a0<(a1.length:Int))=false:=decide_eq_false A2;clear A2;obtain rfl:=Option.some.inj H
      go_wp2
      go_ret;exact⟨ze,zs1 HB a4⟩
     rw[if_pos A2]at H;have z9:decide (a0<(a1.length:Int))=true:=decide_eq_true A2;clear A2;replace H:=zif H;obtain⟨D3,H⟩:=H
     by_cases D4:a0<(a1.length:Int)
     rotate_left
     ·rw[if_neg D4]at H
      exact absurd H (by simp)
     rw[if_pos D4]at H;have D5:decide (a0<(a1.length:Int))=true:=decide_eq_true D4;clear D4;have A3:=zA H;clear H;have o4:0≤(a0:Int):=za;have o5:a0<(a1.length:Int):=za;obtain⟨d6,jo,j5,j6,j7,j8,j9,k0,k1⟩:=at_T53 d5.out a0 o4 o5;cases jo;replace j5:=zx HB j5;replace j6:=zx HB j6;replace j7:=zx HB j7;replace j8:=zx HB j8;replace j9:=zx HB j9;replace k0:=zx HB k0;replace k1:=zx HB k1;replace o4:=eq_true o4;replace o5:=eq_true o5
     go_upto_region 6 with(first|((with_reducible refine gate_dst (N:=4) rfl ?_);(try(refine gate_guard (by rfl) ?_;dsimp only));refine zbx 4 #[.int .i64 0,.int .i64 0,.int .i64 0,.int .i64 0,.int .i64 0,.int .i64 0,.bool false] 53 ?_;intro D6 hg oa hbox hb;have a3:=zA hbox;have la:=zgs hg (zs1 HB a4);have b4:=zgs hg (zs1 HB a4);have a5:=zne hg a2;have b9:=znf hg a2;replace a2:=zb a2 hb;replace HB:=zE (zs1 HB a4) hb;clear hb hbox hg;have lb:=b9.out;have lc:=a5.out;obtain⟨o6,o7,o8,o9,p0,p1,p3⟩:=zd7 a3;obtain⟨p5,p6,p7,p8,p9,q0,q1⟩:=zn7 a3))
     (try simp only[Act.put,List.setIfInBounds_toArray,List.set_cons_zero,List.set_cons_succ])
     go_cut [68] (fun np wc=> ∃(kq:Nat) (k3:Bool),np= .bool k3∧Aside0 (impl_FlyPathOk.j2 kq a0 a1 (a1.length:Int) a0 k3 e0 e1 a1 e2 e3 ((rd_T53 a1 a0).f0) ((rd_T53 a1 a0).f1) ((rd_T53 a1 a0).f2) ((rd_T53 a1 a0).f3) ((rd_T53 a1 a0).f4) ((rd_T53 a1 a0).f5) ((rd_T53 a1 a0).f6)=some r)∧Aside0 (kq≤k2)∧Aside0 (wc.heap[o2]?=some (.cells #[.int .i64 e0,.int .i64 e1,(.slice (some d6) a1.length n3),.int .i64 e2,.int .i64 e3] 32 (0,0)))∧Aside0 (wc.heap[D6]?=some (.cells #[.int .i64 ((rd_T53 a1 a0).f0),.int .i64 ((rd_T53 a1 a0).f1),.int .i64 ((rd_T53 a1 a0).f2),.int .i64 ((rd_T53 a1 a0).f3),.int .i64 ((rd_T53 a1 a0).f4),.int .i64 ((rd_T53 a1 a0).f5),.bool ((rd_T53 a1 a0).f6)] 53 (0,0)))∧Aside0 (Below w.heap.size w wc))
     case first=>
      have H:=A3.out;clear A3;replace H:=zbd H;obtain⟨jp,C7,H⟩:=H
      by_cases D7:jp=true
      rotate_left
      ·replace D7:=Bool.eq_false_iff.mpr D7
       subst D7;rw[if_neg zfn]at H;have H':=zA H;clear H;have ld:=b9.out;have lf:=a5.out;obtain⟨q2,q3,q5,q6,q7,q8,q9⟩:=zd7 a3;obtain⟨r0,r1,r2,r3,r4,r5,r6⟩:=zn7 a3
       go_wp2_with (first|((with_reducible refine gate_callee (f:=16) rfl ?_);refine zgl (N:=some 35) Try.func16 #[.int .i64 ((rd_T53 a1 a0).f0),.int .i64 0,.int .i64 15] ?_;(with_reducible refine(impl_within.calls ((rd_T53 a1 a0).f0) 0 15 false _ C7.out).mono ?_);rintro e w' ⟨rfl,⟨nd,rfl⟩⟩;refine⟨_,rfl,?_⟩))
       go_meet
       case rel=>exact⟨_,(true),zi,H',⟨by have:=n9.out;have:=o0.out;first|omega|exact Nat.le_refl _⟩,⟨zpf a2 a5⟩,⟨zpb a3⟩,⟨zs2 HB a4 b4⟩⟩
      subst D7;rw[if_pos rfl]at H;replace H:=zbd H;obtain⟨jq,D8,H⟩:=H
      by_cases D9:jq=true
      rotate_left
      ·replace D9:=Bool.eq_false_iff.mpr D9
       subst D9;rw[if_neg zfn]at H;have H':=zA H;clear H;have lg:=b9.out;have lh:=a5.out;obtain⟨r7,r8,r9,s0,s1,s2,s3⟩:=zd7 a3;obtain⟨s4,s5,s6,s7,s8,s9,t0⟩:=zn7 a3
       go_wp2_with (first|((with_reducible refine gate_callee (f:=16) rfl ?_);refine zgl (N:=some 35) Try.func16 #[.int .i64 ((rd_T53 a1 a0).f0),.int .i64 0,.int .i64 15] ?_;(with_reducible refine(impl_within.calls ((rd_T53 a1 a0).f0) 0 15 true _ C7.out).mono ?_);rintro e w' ⟨rfl,⟨nd,rfl⟩⟩;refine⟨_,rfl,?_⟩)|(go_at_call 16;(with_reducible refine(impl_within.calls ((rd_T53 a1 a0).f1) 0 15 false _ D8.out).mono ?_);rintro e w' ⟨rfl,⟨nd,rfl⟩⟩))
       go_meet
       case rel=>exact⟨_,(true),zi,H',⟨by have:=n9.out;have:=o0.out;first|omega|exact Nat.le_refl _⟩,⟨zpf a2 a5⟩,⟨zpb a3⟩,⟨zs2 HB a4 b4⟩⟩
      subst D9;rw[if_pos rfl]at H
      by_cases A5:0≤((rd_T53 a1 a0).f2)
      rotate_left
      ·rw[if_neg A5]at H
       have e4:decide (0≤((rd_T53 a1 a0).f2))=false:=decide_eq_false A5;clear A5;(first|rw[e4]|(simp only[i64_w,i32_w];rw[e4])|skip);have H':=zA H;clear H;have li:=b9.out;have lj:=a5.out;obtain⟨t1,t2,t3,t4,t5,t6,t7⟩:=zd7 a3;obtain⟨t8,t9,v0,v1,v2,v3,v4⟩:=zn7 a3
       go_wp2_with (first|((with_reducible refine gate_callee (f:=16) rfl ?_);refine zgl (N:=some 35) Try.func16 #[.int .i64 ((rd_T53 a1 a0).f0),.int .i64 0,.int .i64 15] ?_;(with_reducible refine(impl_within.calls ((rd_T53 a1 a0).f0) 0 15 true _ C7.out).mono ?_);rintro e w' ⟨rfl,⟨nd,rfl⟩⟩;refine⟨_,rfl,?_⟩)|(go_at_call 16;(with_reducible refine(impl_within.calls ((rd_T53 a1 a0).f1) 0 15 true _ D8.out).mono ?_);rintro e w' ⟨rfl,⟨nd,rfl⟩⟩))
       go_meet
       case rel=>exact⟨_,(true),zi,H',⟨by have:=n9.out;have:=o0.out;first|omega|exact Nat.le_refl _⟩,⟨zpf a2 a5⟩,⟨zpb a3⟩,⟨zs2 HB a4 b4⟩⟩
      rw[if_pos A5]at H;have e4:decide (0≤((rd_T53 a1 a0).f2))=true:=decide_eq_true A5;clear A5;(first|rw[e4]|(simp only[i64_w,i32_w];rw[e4])|skip)
      by_cases A7:((rd_T53 a1 a0).f2)≤((rd_T53 a1 a0).f3)
      rotate_left
      ·rw[if_neg A7]at H
       have A0:decide (((rd_T53 a1 a0).f2)≤((rd_T53 a1 a0).f3))=false:=decide_eq_false A7;clear A7;have H':=zA H;clear H;have lk:=b9.out;have ll:=a5.out;obtain⟨v5,v6,v7,v8,v9,w0,w1⟩:=zd7 a3;obtain⟨w2,w4,w5,w6,w7,w8,w9⟩:=zn7 a3
       go_wp2_with (first|((with_reducible refine gate_callee (f:=16) rfl ?_);refine zgl (N:=some 35) Try.func16 #[.int .i64 ((rd_T53 a1 a0).f0),.int .i64 0,.int .i64 15] ?_;(with_reducible refine(impl_within.calls ((rd_T53 a1 a0).f0) 0 15 true _ C7.out).mono ?_);rintro e w' ⟨rfl,⟨nd,rfl⟩⟩;refine⟨_,rfl,?_⟩)|(go_at_call 16;(with_reducible refine(impl_within.calls ((rd_T53 a1 a0).f1) 0 15 true _ D8.out).mono ?_);rintro e w' ⟨rfl,⟨nd,rfl⟩⟩))
       go_meet
       case rel=>exact⟨_,(true),zi,H',⟨by have:=n9.out;have:=o0.out;first|omega|exact Nat.le_refl _⟩,⟨zpf a2 a5⟩,⟨zpb a3⟩,⟨zs2 HB a4 b4⟩⟩
      rw[if_pos A7]at H;have A0:decide (((rd_T53 a1 a0).f2)≤((rd_T53 a1 a0).f3))=true:=decide_eq_true A7;clear A7
      by_cases A9:(((rd_T53 a1 a0).f3)≤6)
      rotate_left
      ·rw[if_neg A9]at H
       have A1:decide (((rd_T53 a1 a0).f3)≤6)=false:=decide_eq_false A9;clear A9;have H':=zA H;clear H;have lm:=b9.out;have ln:=a5.out;obtain⟨x0,x1,x2,x3,x4,x5,x6⟩:=zd7 a3;obtain⟨x7,x8,x9,y0,y1,y2,y3⟩:=zn7 a3
       go_wp2_with (first|((with_reducible refine gate_callee (f:=16) rfl ?_);refine zgl (N:=some 35) Try.func16 #[.int .i64 ((rd_T53 a1 a0).f0),.int .i64 0,.int .i64 15] ?_;(with_reducible refine(impl_within.calls ((rd_T53 a1 a0).f0) 0 15 true _ C7.out).mono ?_);rintro e w' ⟨rfl,⟨nd,rfl⟩⟩;refine⟨_,rfl,?_⟩)|(go_at_call 16;(with_reducible refine(impl_within.calls ((rd_T53 a1 a0).f1) 0 15 true _ D8.out).mono ?_);rintro e w' ⟨rfl,⟨nd,rfl⟩⟩))
       go_meet
       case rel=>exact⟨_,(true),zi,H',⟨by have:=n9.out;have:=o0.out;first|omega|exact Nat.le_refl _⟩,⟨zpf a2 a5⟩,⟨zpb a3⟩,⟨zs2 HB a4 b4⟩⟩
      rw[if_pos A9]at H;have A1:decide (((rd_T53 a1 a0).f3)≤6)=true:=decide_eq_true A9;clear A9;replace H:=zbd H;obtain⟨E0,nq,H⟩:=H;have H':=zA H;clear H;have lo:=b9.out;have lp:=a5.out;obtain⟨y4,y5,y6,y7,y8,y9,z0⟩:=zd7 a3;obtain⟨z1,z2,z3,z4,z5,z6,z7⟩:=zn7 a3
      go_wp2_with (first|((with_reducible refine gate_callee (f:=16) rfl ?_);refine zgl (N:=some 35) Try.func16 #[.int .i64 ((rd_T53 a1 a0).f0),.int .i64 0,.int .i64 15] ?_;(with_reducible refine(impl_within.calls ((rd_T53 a1 a0).f0) 0 15 true _ C7.out).mono ?_);rintro e w' ⟨rfl,⟨nd,rfl⟩⟩;refine⟨_,rfl,?_⟩)|(go_at_call 16;(with_reducible refine(impl_within.calls ((rd_T53 a1 a0).f1) 0 15 true _ D8.out).mono ?_);rintro e w' ⟨rfl,⟨nd,rfl⟩⟩)|(go_at_call 29;(with_reducible refine(impl_window.calls ((rd_T53 a1 a0).f4) ((rd_T53 a1 a0).f5) E0 _ nq.out).mono ?_);rintro e w' ⟨rfl,⟨nd,rfl⟩⟩))
      go_meet
      case rel=>exact⟨_,(!E0),zi,H',⟨by have:=n9.out;have:=o0.out;first|omega|exact Nat.le_refl _⟩,⟨zpf a2 a5⟩,⟨zpb a3⟩,⟨zs2 HB a4 b4⟩⟩
     case rest=>
      clear A3
      try clear c1
      try clear c2
      try clear p2
      try clear c3
      try clear c4
      try clear p4
      try clear q4
      try clear ob
      try clear c5
      try clear c7
      try clear oc
      try clear C6
      try clear A2
      try clear z9
      try clear od
      try clear D3
      try clear D4
      try clear D5
      try clear oe
      try clear D7
      try clear og
      try clear D9
      try clear A5
      try clear e4
      try clear A7
      try clear A0
      try clear A9
      try clear A1
      try clear oh
      try clear oi
      try clear oj
      try clear ok
      try clear ol
      try clear om
      try clear nr
      try clear oo
      try clear op
      try clear i2 i3 i4 i5 i6
      try clear g2 g3 g4 g5 g6
      try clear h2 h3 h4 h5 h6
      try clear e5 e6 e7 e8 e9
      try clear m3 m4 m5 m6 m7
      try clear o6 o7 o8 o9 p0 p1 p3
      try clear y4 y5 y6 y7 y8 y9 z0
      try clear x0 x1 x2 x3 x4 x5 x6
      try clear v5 v6 v7 v8 v9 w0 w1
      try clear t1 t2 t3 t4 t5 t6 t7
      try clear r7 r8 r9 s0 s1 s2 s3
      try clear q2 q3 q5 q6 q7 q8 q9
      try clear k6 k7 k8 k9 l4
      try clear i7 i8 i9 j1 j4
      try clear g7 g8 g9 h0 h1
      try clear h7 h8 h9 i0 i1
      try clear f7 f8 f9 g0 g1
      try clear m8 m9 n0 n1 n2
      try clear p5 p6 p7 p8 p9 q0 q1
      try clear z1 z2 z3 z4 z5 z6 z7
      try clear x7 x8 x9 y0 y1 y2 y3
      try clear w2 w4 w5 w6 w7 w8 w9
      try clear t8 t9 v0 v1 v2 v3 v4
      try clear s4 s5 s6 s7 s8 s9 t0
      try clear r0 r1 r2 r3 r4 r5 r6
      try clear l5 l6 l7 l8 l9
      try clear j5
      try clear j6
      try clear j7
      try clear j8
      try clear j9
      try clear k0
      try clear k1
      try clear p2
      try clear o4
      try clear o5
      obtain⟨kq,k3,rfl,HA,n4,a2,a3,HB⟩:=hcut
      cases kq with
      |zero=>exact absurd HA.out (by simp[impl_FlyPathOk.j2])
      |succ B0=>
       have H:=HA.out;clear HA;simp only[impl_FlyPathOk.j2]at H
       by_cases af:k3=true
       ·subst af
        rw[if_pos rfl]at H;obtain rfl:=Option.some.inj H
        go_wp2
        go_ret;exact⟨ze,zs2 HB a4 b4⟩
       replace af:=Bool.eq_false_iff.mpr af;subst af;rw[if_neg zfn]at H
       by_cases B3:a0=0
       ·rw[if_pos B3]at H
        have E1:(a0==0)=true:=beq_iff_eq.mpr B3;have E2:(a0 !=0)=false:=bne_eq_false_iff_eq.mpr B3;clear B3;have H':=zA H;clear H
        go_wp2
        go_roundg B0
        case measure=>have:=n9.out;have:=o0.out;have:=n4.out;omega
        case rel=>exact⟨(wrap64 (a0+1)),zi,H',⟨by have:=n9.out;have:=o0.out;have:=n4.out;omega⟩,⟨zh a2⟩,⟨zs2 HB a4 b4⟩⟩
       rw[if_neg B3]at H;have E1:(a0==0)=false:=beq_eq_false_iff_ne.mpr B3;have E2:(a0 !=0)=true:=bne_iff_ne.mpr B3;obtain⟨b5,d7⟩: ∃j_:Int,(wrap64 (a0-1))=j_:=⟨_,rfl⟩
       first|rw[d7]at H|simp only[d7]at H
       have jr:(IntKind.i64.wrap (a0-1))=b5:=(i64_w _).trans d7;replace H:=zif H;obtain⟨lq,H⟩:=H
       by_cases ag:(b5)<(a1.length:Int)
       rotate_left
       ·rw[if_neg ag]at H
        exact absurd H (by simp)
       rw[if_pos ag]at H;have lr:decide ((b5)<(a1.length:Int))=true:=decide_eq_true ag;clear ag
       by_cases C0:((rd_T53 a1 (b5)).f0)=((rd_T53 a1 a0).f0)
       rotate_left
       ·rw[if_neg C0]at H
        have E3:(((rd_T53 a1 (b5)).f0)==((rd_T53 a1 a0).f0))=false:=beq_eq_false_iff_ne.mpr C0;have E4:(((rd_T53 a1 (b5)).f0) !=((rd_T53 a1 a0).f0))=true:=bne_iff_ne.mpr C0;replace H:=zbd H;obtain⟨k4,o3,H⟩:=H
        by_cases n5:k4>1
        ·rw[if_pos n5]at H
         have C1:decide (1<k4)=true:=decide_eq_true n5;clear n5;obtain rfl:=Option.some.inj H;have js:=a5.out;have jt:=b9.out;obtain⟨E5,E6,E7,E8,E9⟩:=zd5 a2;obtain⟨F0,F1,F2,F3,F4⟩:=zn5 a2;have d0:0≤((b5):Int):=za;have d1:(b5)<(a1.length:Int):=za;obtain⟨d2,d4,a7,a8,a9,b0,b1,b2,b3⟩:=at_T53 d5.out (b5) d0 d1;obtain rfl:d6=d2:=(by injection d4);replace a7:=zx HB a7;replace a8:=zx HB a8;replace a9:=zx HB a9;replace b0:=zx HB b0;replace b1:=zx HB b1;replace b2:=zx HB b2;replace b3:=zx HB b3;replace d0:=eq_true d0;replace d1:=eq_true d1
         go_wp2_with (first|((with_reducible refine gate_dst (N:=5) rfl ?_);(try(refine gate_guard (by rfl) ?_;dsimp only));refine zbx 5 #[.int .i64 0,.int .i64 0,.int .i64 0,.int .i64 0,.int .i64 0,.int .i64 0,.bool false] 53 ?_;intro d8 hg ns hbox hb;have c0:=zA hbox;have d9:=zgs hg (zs2 HB a4 b4);have d3:=zgs hg (zs2 HB a4 b4);have a6:=zne hg a2;have b6:=znf hg a2;have b7:=zne hg a3;have b8:=znf hg a3;replace a2:=zb a2 hb;replace a3:=zb a3 hb;replace HB:=zE (zs2 HB a4 b4) hb;clear hb hbox hg;have ju:=b6.out;have jv:=a6.out;have jw:=b8.out;have jx:=b7.out;obtain⟨F5,F6,F7,F8,F9,G0,G1⟩:=zd7 c0;obtain⟨G2,G3,G4,G5,G6,G7,G8⟩:=zn7 c0;obtain⟨G9,H0,H1,H2,H3,H4,H5⟩:=zd7 a3;obtain⟨H6,H7,H8,H9,I0,I1,I2⟩:=zn7 a3)|(go_at_call 30;(with_reducible refine(impl_dist.calls ((rd_T53 a1 (b5)).f0) ((rd_T53 a1 a0).f0) k4 _ o3.out).mono ?_);rintro e w' ⟨rfl,⟨nd,rfl⟩⟩))
         go_ret;exact⟨by first|rfl|(simp[errW_none,errW_some]<;>rfl)|(simp only[←d7];first|rfl|(simp[errW_none,errW_some]<;>rfl))|(simp[*,errW_none,errW_some]<;>rfl),zs3 HB a4 b4 d3⟩
        rw[if_neg n5]at H;have C1:decide (1<k4)=false:=decide_eq_false n5;clear n5;replace H:=zbd H;obtain⟨m0,z8,H⟩:=H
        by_cases n6:m0>1
        ·rw[if_pos n6]at H
         have C2:decide (1<m0)=true:=decide_eq_true n6;clear n6;obtain rfl:=Option.some.inj H;have jy:=a5.out;have jz:=b9.out;obtain⟨I3,I4,I5,I6,I7⟩:=zd5 a2;obtain⟨I8,I9,J0,J1,J2⟩:=zn5 a2;have d0:0≤((b5):Int):=za;have d1:(b5)<(a1.length:Int):=za;obtain⟨d2,d4,a7,a8,a9,b0,b1,b2,b3⟩:=at_T53 d5.out (b5) d0 d1;obtain rfl:d6=d2:=(by injection d4);replace a7:=zx HB a7;replace a8:=zx HB a8;replace a9:=zx HB a9;replace b0:=zx HB b0;replace b1:=zx HB b1;replace b2:=zx HB b2;replace b3:=zx HB b3;replace d0:=eq_true d0;replace d1:=eq_true d1
         go_wp2_with (first|((with_reducible refine gate_dst (N:=5) rfl ?_);(try(refine gate_guard (by rfl) ?_;dsimp only));refine zbx 5 #[.int .i64 0,.int .i64 0,.int .i64 0,.int .i64 0,.int .i64 0,.int .i64 0,.bool false] 53 ?_;intro d8 hg nt hbox hb;have c0:=zA hbox;have d9:=zgs hg (zs2 HB a4 b4);have d3:=zgs hg (zs2 HB a4 b4);have a6:=zne hg a2;have b6:=znf hg a2;have b7:=zne hg a3;have b8:=znf hg a3;replace a2:=zb a2 hb;replace a3:=zb a3 hb;replace HB:=zE (zs2 HB a4 b4) hb;clear hb hbox hg;have ka:=b6.out;have kb:=a6.out;have kc:=b8.out;have kd:=b7.out;obtain⟨J3,J4,J5,J6,J7,J8,J9⟩:=zd7 c0;obtain⟨K0,K1,K2,K3,K4,K5,K6⟩:=zn7 c0;obtain⟨K7,K8,K9,L0,L1,L2,L3⟩:=zd7 a3;obtain⟨L4,L5,L6,L7,L8,L9,M0⟩:=zn7 a3)|(go_at_call 30;(with_reducible refine(impl_dist.calls ((rd_T53 a1 (b5)).f0) ((rd_T53 a1 a0).f0) k4 _ o3.out).mono ?_);rintro e w' ⟨rfl,⟨nd,rfl⟩⟩)|(go_at_call 30;(with_reducible refine(impl_dist.calls ((rd_T53 a1 (b5)).f1) ((rd_T53 a1 a0).f1) m0 _ z8.out).mono ?_);rintro e w' ⟨rfl,⟨nd,rfl⟩⟩))
         go_ret;exact⟨by first|rfl|(simp[errW_none,errW_some]<;>rfl)|(simp only[←d7];first|rfl|(simp[errW_none,errW_some]<;>rfl))|(simp[*,errW_none,errW_some]<;>rfl),zs3 HB a4 b4 d3⟩
        rw[if_neg n6]at H;have C2:decide (1<m0)=false:=decide_eq_false n6;clear n6
        by_cases n7:((rd_T53 a1 (b5)).f2)>((rd_T53 a1 a0).f3)
        ·rw[if_pos n7]at H
         have C3:decide (((rd_T53 a1 a0).f3)<((rd_T53 a1 (b5)).f2))=true:=decide_eq_true n7;clear n7;obtain rfl:=Option.some.inj H;have ke:=a5.out;have kf:=b9.out;obtain⟨M1,M2,M3,M4,M5⟩:=zd5 a2;obtain⟨M6,M7,M8,M9,N0⟩:=zn5 a2;have d0:0≤((b5):Int):=za;have d1:(b5)<(a1.length:Int):=za;obtain⟨d2,d4,a7,a8,a9,b0,b1,b2,b3⟩:=at_T53 d5.out (b5) d0 d1;obtain rfl:d6=d2:=(by injection d4);replace a7:=zx HB a7;replace a8:=zx HB a8;replace a9:=zx HB a9;replace b0:=zx HB b0;replace b1:=zx HB b1;replace b2:=zx HB b2;replace b3:=zx HB b3;replace d0:=eq_true d0;replace d1:=eq_true d1
         go_wp2_with (first|((with_reducible refine gate_dst (N:=5) rfl ?_);(try(refine gate_guard (by rfl) ?_;dsimp only));refine zbx 5 #[.int .i64 0,.int .i64 0,.int .i64 0,.int .i64 0,.int .i64 0,.int .i64 0,.bool false] 53 ?_;intro d8 hg nu hbox hb;have c0:=zA hbox;have d9:=zgs hg (zs2 HB a4 b4);have d3:=zgs hg (zs2 HB a4 b4);have a6:=zne hg a2;have b6:=znf hg a2;have b7:=zne hg a3;have b8:=znf hg a3;replace a2:=zb a2 hb;replace a3:=zb a3 hb;replace HB:=zE (zs2 HB a4 b4) hb;clear hb hbox hg;have kg:=b6.out;have kh:=a6.out;have ki:=b8.out;have kj:=b7.out;obtain⟨N1,N2,N3,N4,N5,N6,N7⟩:=zd7 c0;obtain⟨N8,N9,O0,O1,O2,O3,O4⟩:=zn7 c0;obtain⟨O5,O6,O7,O8,O9,P0,P1⟩:=zd7 a3;obtain⟨P2,P3,P4,P5,P6,P7,P8⟩:=zn7 a3)|(go_at_call 30;(with_reducible refine(impl_dist.calls ((rd_T53 a1 (b5)).f0) ((rd_T53 a1 a0).f0) k4 _ o3.out).mono ?_);rintro e w' ⟨rfl,⟨nd,rfl⟩⟩)|(go_at_call 30;(with_reducible refine(impl_dist.calls ((rd_T53 a1 (b5)).f1) ((rd_T53 a1 a0).f1) m0 _ z8.out).mono ?_);rintro e w' ⟨rfl,⟨nd,rfl⟩⟩))
         go_ret;exact⟨by first|rfl|(simp[errW_none,errW_some]<;>rfl)|(simp only[←d7];first|rfl|(simp[errW_none,errW_some]<;>rfl))|(simp[*,errW_none,errW_some]<;>rfl),zs3 HB a4 b4 d3⟩
        rw[if_neg n7]at H;have C3:decide (((rd_T53 a1 a0).f3)<((rd_T53 a1 (b5)).f2))=false:=decide_eq_false n7;clear n7
        by_cases n8:((rd_T53 a1 a0).f2)>((rd_T53 a1 (b5)).f3)
        ·rw[if_pos n8]at H
         have C4:decide (((rd_T53 a1 (b5)).f3)<((rd_T53 a1 a0).f2))=true:=decide_eq_true n8;clear n8;obtain rfl:=Option.some.inj H;have kk:=a5.out;have kl:=b9.out;obtain⟨P9,Q0,Q1,Q2,Q3⟩:=zd5 a2;obtain⟨Q4,Q5,Q6,Q7,Q8⟩:=zn5 a2;have d0:0≤((b5):Int):=za;have d1:(b5)<(a1.length:Int):=za;obtain⟨d2,d4,a7,a8,a9,b0,b1,b2,b3⟩:=at_T53 d5.out (b5) d0 d1;obtain rfl:d6=d2:=(by injection d4);replace a7:=zx HB a7;replace a8:=zx HB a8;replace a9:=zx HB a9;replace b0:=zx HB b0;replace b1:=zx HB b1;replace b2:=zx HB b2;replace b3:=zx HB b3;replace d0:=eq_true d0;replace d1:=eq_true d1
         go_wp2_with (first|((with_reducible refine gate_dst (N:=5) rfl ?_);(try(refine gate_guard (by rfl) ?_;dsimp only));refine zbx 5 #[.int .i64 0,.int .i64 0,.int .i64 0,.int .i64 0,.int .i64 0,.int .i64 0,.bool false] 53 ?_;intro d8 hg nv hbox hb;have c0:=zA hbox;have d9:=zgs hg (zs2 HB a4 b4);have d3:=zgs hg (zs2 HB a4 b4);have a6:=zne hg a2;have b6:=znf hg a2;have b7:=zne hg a3;have b8:=znf hg a3;replace a2:=zb a2 hb;replace a3:=zb a3 hb;replace HB:=zE (zs2 HB a4 b4) hb;clear hb hbox hg;have km:=b6.out;have kn:=a6.out;have ko:=b8.out;have kp:=b7.out;obtain⟨Q9,R0,R1,R2,R3,R4,R5⟩:=zd7 c0;obtain⟨R6,R7,R8,R9,S0,S1,S2⟩:=zn7 c0;obtain⟨S3,S4,S5,S6,S7,S8,S9⟩:=zd7 a3;obtain⟨T0,T3,U0,U1,U2,U3,U4⟩:=zn7 a3)|(go_at_call 30;(with_reducible refine(impl_dist.calls ((rd_T53 a1 (b5)).f0) ((rd_T53 a1 a0).f0) k4 _ o3.out).mono ?_);rintro e w' ⟨rfl,⟨nd,rfl⟩⟩)|(go_at_call 30;(with_reducible refine(impl_dist.calls ((rd_T53 a1 (b5)).f1) ((rd_T53 a1 a0).f1) m0 _ z8.out).mono ?_);rintro e w' ⟨rfl,⟨nd,rfl⟩⟩))
         go_ret;exact⟨by first|rfl|(simp[errW_none,errW_some]<;>rfl)|(simp only[←d7];first|rfl|(simp[errW_none,errW_some]<;>rfl))|(simp[*,errW_none,errW_some]<;>rfl),zs3 HB a4 b4 d3⟩
        rw[if_neg n8]at H;have C4:decide (((rd_T53 a1 (b5)).f3)<((rd_T53 a1 a0).f2))=false:=decide_eq_false n8;clear n8;have H':=zA H;clear H;have kr:=a5.out;have ks:=b9.out;obtain⟨U5,U6,U7,U8,U9⟩:=zd5 a2;obtain⟨V0,V1,V2,V3,V4⟩:=zn5 a2;have d0:0≤((b5):Int):=za;have d1:(b5)<(a1.length:Int):=za;obtain⟨d2,d4,a7,a8,a9,b0,b1,b2,b3⟩:=at_T53 d5.out (b5) d0 d1;obtain rfl:d6=d2:=(by injection d4);replace a7:=zx HB a7;replace a8:=zx HB a8;replace a9:=zx HB a9;replace b0:=zx HB b0;replace b1:=zx HB b1;replace b2:=zx HB b2;replace b3:=zx HB b3;replace d0:=eq_true d0;replace d1:=eq_true d1
        go_wp2_with (first|((with_reducible refine gate_dst (N:=5) rfl ?_);(try(refine gate_guard (by rfl) ?_;dsimp only));refine zbx 5 #[.int .i64 0,.int .i64 0,.int .i64 0,.int .i64 0,.int .i64 0,.int .i64 0,.bool false] 53 ?_;intro d8 hg nw hbox hb;have c0:=zA hbox;have d9:=zgs hg (zs2 HB a4 b4);have d3:=zgs hg (zs2 HB a4 b4);have a6:=zne hg a2;have b6:=znf hg a2;have b7:=zne hg a3;have b8:=znf hg a3;replace a2:=zb a2 hb;replace a3:=zb a3 hb;replace HB:=zE (zs2 HB a4 b4) hb;clear hb hbox hg;have kt:=b6.out;have ku:=a6.out;have kv:=b8.out;have kw:=b7.out;obtain⟨V5,V6,V7,V8,V9,W0,W1⟩:=zd7 c0;obtain⟨W2,W3,W4,W5,W6,W7,W8⟩:=zn7 c0;obtain⟨W9,X0,X1,X2,X3,X4,X5⟩:=zd7 a3;obtain⟨X6,X7,X8,X9,Y0,Y1,Y2⟩:=zn7 a3)|(go_at_call 30;(with_reducible refine(impl_dist.calls ((rd_T53 a1 (b5)).f0) ((rd_T53 a1 a0).f0) k4 _ o3.out).mono ?_);rintro e w' ⟨rfl,⟨nd,rfl⟩⟩)|(go_at_call 30;(with_reducible refine(impl_dist.calls ((rd_T53 a1 (b5)).f1) ((rd_T53 a1 a0).f1) m0 _ z8.out).mono ?_);rintro e w' ⟨rfl,⟨nd,rfl⟩⟩))
        go_roundg B0
        case measure=>have:=n9.out;have:=o0.out;have:=n4.out;omega
        case rel=>exact⟨(wrap64 (a0+1)),zi,H',⟨by have:=n9.out;have:=o0.out;have:=n4.out;omega⟩,⟨zpf a2 a6⟩,⟨zs3 HB a4 b4 d3⟩⟩
       rw[if_pos C0]at H;have E3:(((rd_T53 a1 (b5)).f0)==((rd_T53 a1 a0).f0))=true:=beq_iff_eq.mpr C0;have E4:(((rd_T53 a1 (b5)).f0) !=((rd_T53 a1 a0).f0))=false:=bne_eq_false_iff_eq.mpr C0;clear C0
       by_cases C5:((rd_T53 a1 (b5)).f1)=((rd_T53 a1 a0).f1)
       ·rw[if_pos C5]at H
        have Y3:(((rd_T53 a1 (b5)).f1)==((rd_T53 a1 a0).f1))=true:=beq_iff_eq.mpr C5;have Y4:(((rd_T53 a1 (b5)).f1) !=((rd_T53 a1 a0).f1))=false:=bne_eq_false_iff_eq.mpr C5;clear C5;obtain rfl:=Option.some.inj H;have ls:=a5.out;have lu:=b9.out;obtain⟨ah,ai,aj,ak,al⟩:=zd5 a2;obtain⟨am,an,ao,ap,aq⟩:=zn5 a2;have d0:0≤((b5):Int):=za;have d1:(b5)<(a1.length:Int):=za;obtain⟨d2,d4,a7,a8,a9,b0,b1,b2,b3⟩:=at_T53 d5.out (b5) d0 d1;obtain rfl:d6=d2:=(by injection d4);replace a7:=zx HB a7;replace a8:=zx HB a8;replace a9:=zx HB a9;replace b0:=zx HB b0;replace b1:=zx HB b1;replace b2:=zx HB b2;replace b3:=zx HB b3;replace d0:=eq_true d0;replace d1:=eq_true d1
        go_wp2_with (first|((with_reducible refine gate_dst (N:=5) rfl ?_);(try(refine gate_guard (by rfl) ?_;dsimp only));refine zbx 5 #[.int .i64 0,.int .i64 0,.int .i64 0,.int .i64 0,.int .i64 0,.int .i64 0,.bool false] 53 ?_;intro d8 hg oq hbox hb;have c0:=zA hbox;have d9:=zgs hg (zs2 HB a4 b4);have d3:=zgs hg (zs2 HB a4 b4);have a6:=zne hg a2;have b6:=znf hg a2;have b7:=zne hg a3;have b8:=znf hg a3;replace a2:=zb a2 hb;replace a3:=zb a3 hb;replace HB:=zE (zs2 HB a4 b4) hb;clear hb hbox hg;have lv:=b6.out;have lw:=a6.out;have lx:=b8.out;have ly:=b7.out;obtain⟨ar,au,av,aw,ax,ay,az⟩:=zd7 c0;obtain⟨ba,bb,bc,bd,be,bf,bg⟩:=zn7 c0;obtain⟨bh,bi,bj,bk,bl,bm,bn⟩:=zd7 a3;obtain⟨bo,bp,bq,br,bs,bu,bv⟩:=zn7 a3))
        go_ret;exact⟨by first|rfl|(simp[errW_none,errW_some]<;>rfl)|(simp only[←d7];first|rfl|(simp[errW_none,errW_some]<;>rfl))|(simp[*,errW_none,errW_some]<;>rfl),zs3 HB a4 b4 d3⟩
       rw[if_neg C5]at H;have Y3:(((rd_T53 a1 (b5)).f1)==((rd_T53 a1 a0).f1))=false:=beq_eq_false_iff_ne.mpr C5;have Y4:(((rd_T53 a1 (b5)).f1) !=((rd_T53 a1 a0).f1))=true:=bne_iff_ne.mpr C5;replace H:=zbd H;obtain⟨k5,Y5,H⟩:=H
       by_cases C8:k5>1
       ·rw[if_pos C8]at H
        have Y6:decide (1<k5)=true:=decide_eq_true C8;clear C8;obtain rfl:=Option.some.inj H;have lz:=a5.out;have ma:=b9.out;obtain⟨bw,bx,bz,ca,cb⟩:=zd5 a2;obtain⟨cc,cd,ce,cf,cg⟩:=zn5 a2;have d0:0≤((b5):Int):=za;have d1:(b5)<(a1.length:Int):=za;obtain⟨d2,d4,a7,a8,a9,b0,b1,b2,b3⟩:=at_T53 d5.out (b5) d0 d1;obtain rfl:d6=d2:=(by injection d4);replace a7:=zx HB a7;replace a8:=zx HB a8;replace a9:=zx HB a9;replace b0:=zx HB b0;replace b1:=zx HB b1;replace b2:=zx HB b2;replace b3:=zx HB b3;replace d0:=eq_true d0;replace d1:=eq_true d1
        go_wp2_with (first|((with_reducible refine gate_dst (N:=5) rfl ?_);(try(refine gate_guard (by rfl) ?_;dsimp only));refine zbx 5 #[.int .i64 0,.int .i64 0,.int .i64 0,.int .i64 0,.int .i64 0,.int .i64 0,.bool false] 53 ?_;intro d8 hg os hbox hb;have c0:=zA hbox;have d9:=zgs hg (zs2 HB a4 b4);have d3:=zgs hg (zs2 HB a4 b4);have a6:=zne hg a2;have b6:=znf hg a2;have b7:=zne hg a3;have b8:=znf hg a3;replace a2:=zb a2 hb;replace a3:=zb a3 hb;replace HB:=zE (zs2 HB a4 b4) hb;clear hb hbox hg;have mb:=b6.out;have mc:=a6.out;have md:=b8.out;have mf:=b7.out;obtain⟨ch,ci,cj,ck,cl,cm,cn⟩:=zd7 c0;obtain⟨co,cp,cq,cr,cs,ct,cu⟩:=zn7 c0;obtain⟨cv,cw,cx,cy,cz,da,db⟩:=zd7 a3;obtain⟨dc,dd,de,df,dg,dh,di⟩:=zn7 a3)|(go_at_call 30;(with_reducible refine(impl_dist.calls ((rd_T53 a1 (b5)).f0) ((rd_T53 a1 a0).f0) k5 _ Y5.out).mono ?_);rintro e w' ⟨rfl,⟨nd,rfl⟩⟩))
        go_ret;exact⟨by first|rfl|(simp[errW_none,errW_some]<;>rfl)|(simp only[←d7];first|rfl|(simp[errW_none,errW_some]<;>rfl))|(simp[*,errW_none,errW_some]<;>rfl),zs3 HB a4 b4 d3⟩
       rw[if_neg C8]at H;have Y6:decide (1<k5)=false:=decide_eq_false C8;clear C8;replace H:=zbd H;obtain⟨m1,dj,H⟩:=H
       by_cases C9:m1>1
       ·rw[if_pos C9]at H
        have Y7:decide (1<m1)=true:=decide_eq_true C9;clear C9;obtain rfl:=Option.some.inj H;have mg:=a5.out;have mh:=b9.out;obtain⟨dk,dl,dm,dn,dp⟩:=zd5 a2;obtain⟨dq,dr,ds,dt,du⟩:=zn5 a2;have d0:0≤((b5):Int):=za;have d1:(b5)<(a1.length:Int):=za;obtain⟨d2,d4,a7,a8,a9,b0,b1,b2,b3⟩:=at_T53 d5.out (b5) d0 d1;obtain rfl:d6=d2:=(by injection d4);replace a7:=zx HB a7;replace a8:=zx HB a8;replace a9:=zx HB a9;replace b0:=zx HB b0;replace b1:=zx HB b1;replace b2:=zx HB b2;replace b3:=zx HB b3;replace d0:=eq_true d0;replace d1:=eq_true d1
        go_wp2_with (first|((with_reducible refine gate_dst (N:=5) rfl ?_);(try(refine gate_guard (by rfl) ?_;dsimp only));refine zbx 5 #[.int .i64 0,.int .i64 0,.int .i64 0,.int .i64 0,.int .i64 0,.int .i64 0,.bool false] 53 ?_;intro d8 hg ot hbox hb;have c0:=zA hbox;have d9:=zgs hg (zs2 HB a4 b4);have d3:=zgs hg (zs2 HB a4 b4);have a6:=zne hg a2;have b6:=znf hg a2;have b7:=zne hg a3;have b8:=znf hg a3;replace a2:=zb a2 hb;replace a3:=zb a3 hb;replace HB:=zE (zs2 HB a4 b4) hb;clear hb hbox hg;have mi:=b6.out;have mj:=a6.out;have mk:=b8.out;have ml:=b7.out;obtain⟨dv,dw,dx,dy,dz,ea,eb⟩:=zd7 c0;obtain⟨ec,ed,ee,ef,eg,eh,ei⟩:=zn7 c0;obtain⟨ej,ek,el,em,en,eo,ep⟩:=zd7 a3;obtain⟨er,es,et,eu,ev,ew,ex⟩:=zn7 a3)|(go_at_call 30;(with_reducible refine(impl_dist.calls ((rd_T53 a1 (b5)).f0) ((rd_T53 a1 a0).f0) k5 _ Y5.out).mono ?_);rintro e w' ⟨rfl,⟨nd,rfl⟩⟩)|(go_at_call 30;(with_reducible refine(impl_dist.calls ((rd_T53 a1 (b5)).f1) ((rd_T53 a1 a0).f1) m1 _ dj.out).mono ?_);rintro e w' ⟨rfl,⟨nd,rfl⟩⟩))
        go_ret;exact⟨by first|rfl|(simp[errW_none,errW_some]<;>rfl)|(simp only[←d7];first|rfl|(simp[errW_none,errW_some]<;>rfl))|(simp[*,errW_none,errW_some]<;>rfl),zs3 HB a4 b4 d3⟩
       rw[if_neg C9]at H;have Y7:decide (1<m1)=false:=decide_eq_false C9;clear C9
       by_cases D0:((rd_T53 a1 (b5)).f2)>((rd_T53 a1 a0).f3)
       ·rw[if_pos D0]at H
        have Y8:decide (((rd_T53 a1 a0).f3)<((rd_T53 a1 (b5)).f2))=true:=decide_eq_true D0;clear D0;obtain rfl:=Option.some.inj H;have mm:=a5.out;have mo:=b9.out;obtain⟨ey,ez,fa,fb,fc⟩:=zd5 a2;obtain⟨fd,fe,ff,fg,fh⟩:=zn5 a2;have d0:0≤((b5):Int):=za;have d1:(b5)<(a1.length:Int):=za;obtain⟨d2,d4,a7,a8,a9,b0,b1,b2,b3⟩:=at_T53 d5.out (b5) d0 d1;obtain rfl:d6=d2:=(by injection d4);replace a7:=zx HB a7;replace a8:=zx HB a8;replace a9:=zx HB a9;replace b0:=zx HB b0;replace b1:=zx HB b1;replace b2:=zx HB b2;replace b3:=zx HB b3;replace d0:=eq_true d0;replace d1:=eq_true d1
        go_wp2_with (first|((with_reducible refine gate_dst (N:=5) rfl ?_);(try(refine gate_guard (by rfl) ?_;dsimp only));refine zbx 5 #[.int .i64 0,.int .i64 0,.int .i64 0,.int .i64 0,.int .i64 0,.int .i64 0,.bool false] 53 ?_;intro d8 hg ou hbox hb;have c0:=zA hbox;have d9:=zgs hg (zs2 HB a4 b4);have d3:=zgs hg (zs2 HB a4 b4);have a6:=zne hg a2;have b6:=znf hg a2;have b7:=zne hg a3;have b8:=znf hg a3;replace a2:=zb a2 hb;replace a3:=zb a3 hb;replace HB:=zE (zs2 HB a4 b4) hb;clear hb hbox hg;have mp:=b6.out;have mq:=a6.out;have mr:=b8.out;have ms:=b7.out;obtain⟨fi,fj,fk,fl,fm,fo,fp⟩:=zd7 c0;obtain⟨fq,fr,fs,ft,fu,fv,fw⟩:=zn7 c0;obtain⟨fx,fy,fz,ga,gb,gc,gf⟩:=zd7 a3;obtain⟨gg,gh,gi,gj,gl,gm,gn⟩:=zn7 a3)|(go_at_call 30;(with_reducible refine(impl_dist.calls ((rd_T53 a1 (b5)).f0) ((rd_T53 a1 a0).f0) k5 _ Y5.out).mono ?_);rintro e w' ⟨rfl,⟨nd,rfl⟩⟩)|(go_at_call 30;(with_reducible refine(impl_dist.calls ((rd_T53 a1 (b5)).f1) ((rd_T53 a1 a0).f1) m1 _ dj.out).mono ?_);rintro e w' ⟨rfl,⟨nd,rfl⟩⟩))
        go_ret;exact⟨by first|rfl|(simp[errW_none,errW_some]<;>rfl)|(simp only[←d7];first|rfl|(simp[errW_none,errW_some]<;>rfl))|(simp[*,errW_none,errW_some]<;>rfl),zs3 HB a4 b4 d3⟩
       rw[if_neg D0]at H;have Y8:decide (((rd_T53 a1 a0).f3)<((rd_T53 a1 (b5)).f2))=false:=decide_eq_false D0;clear D0
       by_cases D1:((rd_T53 a1 a0).f2)>((rd_T53 a1 (b5)).f3)
       ·rw[if_pos D1]at H
        have Y9:decide (((rd_T53 a1 (b5)).f3)<((rd_T53 a1 a0).f2))=true:=decide_eq_true D1;clear D1;obtain rfl:=Option.some.inj H;have mt:=a5.out;have mu:=b9.out;obtain⟨gp,gq,gr,gs,gu⟩:=zd5 a2;obtain⟨gv,gw,gx,gy,gz⟩:=zn5 a2;have d0:0≤((b5):Int):=za;have d1:(b5)<(a1.length:Int):=za;obtain⟨d2,d4,a7,a8,a9,b0,b1,b2,b3⟩:=at_T53 d5.out (b5) d0 d1;obtain rfl:d6=d2:=(by injection d4);replace a7:=zx HB a7;replace a8:=zx HB a8;replace a9:=zx HB a9;replace b0:=zx HB b0;replace b1:=zx HB b1;replace b2:=zx HB b2;replace b3:=zx HB b3;replace d0:=eq_true d0;replace d1:=eq_true d1
        go_wp2_with (first|((with_reducible refine gate_dst (N:=5) rfl ?_);(try(refine gate_guard (by rfl) ?_;dsimp only));refine zbx 5 #[.int .i64 0,.int .i64 0,.int .i64 0,.int .i64 0,.int .i64 0,.int .i64 0,.bool false] 53 ?_;intro d8 hg ov hbox hb;have c0:=zA hbox;have d9:=zgs hg (zs2 HB a4 b4);have d3:=zgs hg (zs2 HB a4 b4);have a6:=zne hg a2;have b6:=znf hg a2;have b7:=zne hg a3;have b8:=znf hg a3;replace a2:=zb a2 hb;replace a3:=zb a3 hb;replace HB:=zE (zs2 HB a4 b4) hb;clear hb hbox hg;have mv:=b6.out;have mw:=a6.out;have mz:=b8.out;have na:=b7.out;obtain⟨ha,hc,hd,hf,hh,hj,hl⟩:=zd7 c0;obtain⟨hm,hn,ho,hp,hq,hr,hs⟩:=zn7 c0;obtain⟨ht,hu,hv,hw,hx,hy,hz⟩:=zd7 a3;obtain⟨ia,ib,ic,ie,ig,ii,ij⟩:=zn7 a3)|(go_at_call 30;(with_reducible refine(impl_dist.calls ((rd_T53 a1 (b5)).f0) ((rd_T53 a1 a0).f0) k5 _ Y5.out).mono ?_);rintro e w' ⟨rfl,⟨nd,rfl⟩⟩)|(go_at_call 30;(with_reducible refine(impl_dist.calls ((rd_T53 a1 (b5)).f1) ((rd_T53 a1 a0).f1) m1 _ dj.out).mono ?_);rintro e w' ⟨rfl,⟨nd,rfl⟩⟩))
        go_ret;exact⟨by first|rfl|(simp[errW_none,errW_some]<;>rfl)|(simp only[←d7];first|rfl|(simp[errW_none,errW_some]<;>rfl))|(simp[*,errW_none,errW_some]<;>rfl),zs3 HB a4 b4 d3⟩
       rw[if_neg D1]at H;have Y9:decide (((rd_T53 a1 (b5)).f3)<((rd_T53 a1 a0).f2))=false:=decide_eq_false D1;clear D1;have H':=zA H;clear H;have nb:=a5.out;have nc:=b9.out;obtain⟨ik,il,im,io,ip⟩:=zd5 a2;obtain⟨iq,ir,iu,iv,iw⟩:=zn5 a2;have d0:0≤((b5):Int):=za;have d1:(b5)<(a1.length:Int):=za;obtain⟨d2,d4,a7,a8,a9,b0,b1,b2,b3⟩:=at_T53 d5.out (b5) d0 d1;obtain rfl:d6=d2:=(by injection d4);replace a7:=zx HB a7;replace a8:=zx HB a8;replace a9:=zx HB a9;replace b0:=zx HB b0;replace b1:=zx HB b1;replace b2:=zx HB b2;replace b3:=zx HB b3;replace d0:=eq_true d0;replace d1:=eq_true d1
       go_wp2_with (first|((with_reducible refine gate_dst (N:=5) rfl ?_);(try(refine gate_guard (by rfl) ?_;dsimp only));refine zbx 5 #[.int .i64 0,.int .i64 0,.int .i64 0,.int .i64 0,.int .i64 0,.int .i64 0,.bool false] 53 ?_;intro d8 hg ow hbox hb;have c0:=zA hbox;have d9:=zgs hg (zs2 HB a4 b4);have d3:=zgs hg (zs2 HB a4 b4);have a6:=zne hg a2;have b6:=znf hg a2;have b7:=zne hg a3;have b8:=znf hg a3;replace a2:=zb a2 hb;replace a3:=zb a3 hb;replace HB:=zE (zs2 HB a4 b4) hb;clear hb hbox hg;have nf:=b6.out;have ng:=a6.out;have nh:=b8.out;have ni:=b7.out;obtain⟨ix,iy,iz,ja,jb,jc,jd⟩:=zd7 c0;obtain⟨je,jf,jg,jh,ji,jj,jk⟩:=zn7 c0;obtain⟨Z0,Z1,Z2,Z3,Z4,Z5,Z6⟩:=zd7 a3;obtain⟨Z7,Z8,Z9,aa,ab,ad,ae⟩:=zn7 a3)|(go_at_call 30;(with_reducible refine(impl_dist.calls ((rd_T53 a1 (b5)).f0) ((rd_T53 a1 a0).f0) k5 _ Y5.out).mono ?_);rintro e w' ⟨rfl,⟨nd,rfl⟩⟩)|(go_at_call 30;(with_reducible refine(impl_dist.calls ((rd_T53 a1 (b5)).f1) ((rd_T53 a1 a0).f1) m1 _ dj.out).mono ?_);rintro e w' ⟨rfl,⟨nd,rfl⟩⟩))
       go_roundg B0
       case measure=>have:=n9.out;have:=o0.out;have:=n4.out;omega
       case rel=>exact⟨(wrap64 (a0+1)),zi,H',⟨by have:=n9.out;have:=o0.out;have:=n4.out;omega⟩,⟨zpf a2 a6⟩,⟨zs3 HB a4 b4 d3⟩⟩
end Go.Proofs.Ytglgfgeepdmlbaa.QFnExactFlyTurnBy
