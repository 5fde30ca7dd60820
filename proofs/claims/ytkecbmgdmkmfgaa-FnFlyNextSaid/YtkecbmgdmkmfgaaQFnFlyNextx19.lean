/- The walk of what the law FnFlyNext reaches: laid by a program of this session (ownprint.py). -/
import Derived.Test.YtkecbmgdmkmfgaaQFnFlyNextx0
import Derived.Test.YtkecbmgdmkmfgaaQFnFlyNextx18
namespace Go.Proofs.Ytkecbmgdmkmfgaa.QFnFlyNext
open Go.RowKit Go.Proofs.YtkecbmgdmkmfgaaW.PrintWords Go.Proofs.YtkecbmgdmkmfgaaW.PrintLast Go.Proofs.YtkecbmgdmkmfgaaW.PrintMore Go.Proofs.Ytkecbmgdmkmfgaa.Z
attribute [local go_sem] max2_int min2_int max_two min_two max_three min_three max_four min_four zdn   -- for this text's walks alone
set_option linter.unusedVariables false
set_option linter.unusedSimpArgs false
mutual
def impl_FlyPathOk.j0:Nat→Bool→Int→Int→List (S54)→Int→Int→Option (Bool)
 |0,_,_,_,_,_,_=>none
 |k+1,x24,a1,a2,a0,a3,a4=>if x24=true then(some false)else(impl_FlyPathOk.l0 k a0 (a0.length:Int) 0 a1 a2 a0 a3 a4)
def impl_FlyPathOk.l0:Nat→List (S54)→Int→Int→Int→Int→List (S54)→Int→Int→Option (Bool)
 |0,_,_,_,_,_,_,_,_=>none
 |k+1,x26,x27,x28,a0,a1,a2,a3,a4=>if x28<x27 then(if 0≤x28 then(if x28<(x26.length:Int)then((impl_within.f ((rd_T54 x26 x28).f0) 0 15).bind fun a5=>(if a5=true then((impl_within.f ((rd_T54 x26 x28).f1) 0 15).bind fun a6=>(if a6=true then(if 0≤((rd_T54 x26 x28).f2)then(if((rd_T54 x26 x28).f2)≤((rd_T54 x26 x28).f3)then(if(((rd_T54 x26 x28).f3)≤6)then((impl_window.f ((rd_T54 x26 x28).f4) ((rd_T54 x26 x28).f5)).bind fun a7=>(impl_FlyPathOk.j2 k x28 x26 x27 x28 (!a7) a0 a1 a2 a3 a4 ((rd_T54 x26 x28).f0) ((rd_T54 x26 x28).f1) ((rd_T54 x26 x28).f2) ((rd_T54 x26 x28).f3) ((rd_T54 x26 x28).f4) ((rd_T54 x26 x28).f5) ((rd_T54 x26 x28).f6)))else(impl_FlyPathOk.j2 k x28 x26 x27 x28 true a0 a1 a2 a3 a4 ((rd_T54 x26 x28).f0) ((rd_T54 x26 x28).f1) ((rd_T54 x26 x28).f2) ((rd_T54 x26 x28).f3) ((rd_T54 x26 x28).f4) ((rd_T54 x26 x28).f5) ((rd_T54 x26 x28).f6)))else(impl_FlyPathOk.j2 k x28 x26 x27 x28 true a0 a1 a2 a3 a4 ((rd_T54 x26 x28).f0) ((rd_T54 x26 x28).f1) ((rd_T54 x26 x28).f2) ((rd_T54 x26 x28).f3) ((rd_T54 x26 x28).f4) ((rd_T54 x26 x28).f5) ((rd_T54 x26 x28).f6)))else(impl_FlyPathOk.j2 k x28 x26 x27 x28 true a0 a1 a2 a3 a4 ((rd_T54 x26 x28).f0) ((rd_T54 x26 x28).f1) ((rd_T54 x26 x28).f2) ((rd_T54 x26 x28).f3) ((rd_T54 x26 x28).f4) ((rd_T54 x26 x28).f5) ((rd_T54 x26 x28).f6)))else(impl_FlyPathOk.j2 k x28 x26 x27 x28 true a0 a1 a2 a3 a4 ((rd_T54 x26 x28).f0) ((rd_T54 x26 x28).f1) ((rd_T54 x26 x28).f2) ((rd_T54 x26 x28).f3) ((rd_T54 x26 x28).f4) ((rd_T54 x26 x28).f5) ((rd_T54 x26 x28).f6))))else(impl_FlyPathOk.j2 k x28 x26 x27 x28 true a0 a1 a2 a3 a4 ((rd_T54 x26 x28).f0) ((rd_T54 x26 x28).f1) ((rd_T54 x26 x28).f2) ((rd_T54 x26 x28).f3) ((rd_T54 x26 x28).f4) ((rd_T54 x26 x28).f5) ((rd_T54 x26 x28).f6))))else(none))else(none))else(some true)
def impl_FlyPathOk.j2:Nat→Int→List (S54)→Int→Int→Bool→Int→Int→List (S54)→Int→Int→Int→Int→Int→Int→Int→Int→Bool→Option (Bool)
 |0,_,_,_,_,_,_,_,_,_,_,_,_,_,_,_,_,_=>none
 |k+1,x3,x26,x27,x28,x68,a1,a2,a0,a3,a4,a5,a6,a7,a8,a9,b0,b1=>if x68=true then(some false)else(if x3=0 then(impl_FlyPathOk.l0 k x26 x27 (wrap64 (x28+1)) a1 a2 a0 a3 a4)else(if 0≤(wrap64 (x3-1))then(if(wrap64 (x3-1))<(a0.length:Int)then(if((rd_T54 a0 (wrap64 (x3-1))).f0)=a5 then(if((rd_T54 a0 (wrap64 (x3-1))).f1)=a6 then(some false)else((impl_dist.f ((rd_T54 a0 (wrap64 (x3-1))).f0) a5).bind fun b2=>(if b2>1 then(some false)else((impl_dist.f ((rd_T54 a0 (wrap64 (x3-1))).f1) a6).bind fun b3=>(if b3>1 then(some false)else(if((rd_T54 a0 (wrap64 (x3-1))).f2)>a8 then(some false)else(if a7>((rd_T54 a0 (wrap64 (x3-1))).f3)then(some false)else(impl_FlyPathOk.l0 k x26 x27 (wrap64 (x28+1)) a1 a2 a0 a3 a4))))))))else((impl_dist.f ((rd_T54 a0 (wrap64 (x3-1))).f0) a5).bind fun b4=>(if b4>1 then(some false)else((impl_dist.f ((rd_T54 a0 (wrap64 (x3-1))).f1) a6).bind fun b5=>(if b5>1 then(some false)else(if((rd_T54 a0 (wrap64 (x3-1))).f2)>a8 then(some false)else(if a7>((rd_T54 a0 (wrap64 (x3-1))).f3)then(some false)else(impl_FlyPathOk.l0 k x26 x27 (wrap64 (x28+1)) a1 a2 a0 a3 a4))))))))else(none))else(none)))
end
def impl_FlyPathOk.f (k:Nat) (a0:Int) (a1:Int) (a2:List (S54)) (a3:Int) (a4:Int):Option (Bool):=(impl_FlyKindOk.f a0 a1).bind fun a5=>(if a5=true then((impl_within.f (a2.length:Int) 1 40).bind fun a6=>(if a6=true then((impl_window.f a3 a4).bind fun a7=>(impl_FlyPathOk.j0 k (!a7) a0 a1 a2 a3 a4))else(impl_FlyPathOk.j0 k true a0 a1 a2 a3 a4)))else(impl_FlyPathOk.j0 k true a0 a1 a2 a3 a4))
set_option maxHeartbeats 8000000 in
set_option maxRecDepth 100000 in
theorem impl_FlyPathOk.calls (k:Nat) (e0:Int) (e1:Int) (o2:Option Addr) (n4:Nat) (a1:List (S54)) (e2:Int) (e3:Int) (r:Bool) (w:World) (hr0_2:Kd.C k54 w o2 a1.length a1) (hc0_2:a1.length≤n4) (h:impl_FlyPathOk.f k e0 e1 a1 e2 e3=some r):
 Calls Try.prog 15 #[.agg #[.int .i64 e0,.int .i64 e1,.slice o2 a1.length n4,.int .i64 e2,.int .i64 e3]] w fun e w'=>e= .returned (.bool r)∧Below w.heap.size w w':=by
 have nh:=Try.underlying27;have ni:=Try.underlying24;have nj:=Try.underlying54;have d5:=zA hr0_2;have ku:=zA hc0_2;clear hr0_2 hc0_2;have HB:=zA (Below.refl w.heap.size w);have H:=h;clear h;unfold impl_FlyPathOk.f at H;have ji:=zA H;clear H
 go_enter Try.func15,Try.ntmps15
 go_upto_region 1 with(first|((with_reducible refine gate_dst (N:=1) rfl ?_);(try(refine gate_guard (by rfl) ?_;dsimp only));refine zbx 1 #[.int .i64 e0,.int .i64 e1,.slice o2 a1.length n4,.int .i64 e2,.int .i64 e3] 27 ?_;intro o3 hg w3 hbox hb;have a2:=zA hbox;have kv:=zgs hg (zs0 HB);have a4:=zgs hg (zs0 HB);replace HB:=zE (zs0 HB) hb;clear hb hbox hg))
 (try simp only[Act.put,List.setIfInBounds_toArray,List.set_cons_zero,List.set_cons_succ])
 go_cut [24] (fun nk wc=> ∃(kq:Nat) (m3:Bool),nk= .bool m3∧Aside0 (impl_FlyPathOk.j0 kq m3 e0 e1 a1 e2 e3=some r)∧Aside0 (kq≤k)∧Aside0 (wc.heap[o3]?=some (.cells #[.int .i64 e0,.int .i64 e1,(.slice o2 a1.length n4),.int .i64 e2,.int .i64 e3] 27 (0,0)))∧Aside0 (Below w.heap.size w wc))
 case first=>
  have H:=ji.out;clear ji;replace H:=zbd H;obtain⟨jj,A4,H⟩:=H
  by_cases c5:jj=true
  rotate_left
  ·replace c5:=Bool.eq_false_iff.mpr c5
   subst c5;rw[if_neg zfn]at H;have H':=zA H;clear H;obtain⟨e5,e6,e7,e8,e9⟩:=zd5 a2;obtain⟨f7,f8,f9,g0,g1⟩:=zn5 a2
   go_wp2_with (first|((with_reducible refine gate_callee (f:=29) rfl ?_);refine zgl (N:=some 8) Try.func29 #[.agg #[.int .i64 e0,.int .i64 e1]] ?_;(with_reducible refine(impl_FlyKindOk.calls e0 e1 false _ A4.out).mono ?_);rintro e nu ⟨rfl,hb⟩;refine⟨_,rfl,?_⟩;replace a2:=zb a2 hb;replace HB:=zE (zs1 HB a4) hb;(try clear hb)))
   go_meet
   case rel=>exact⟨_,(true),zi,H',⟨by first|omega|exact Nat.le_refl _⟩,⟨zh a2⟩,⟨zs1 HB a4⟩⟩
  subst c5;rw[if_pos rfl]at H;replace H:=zbd H;obtain⟨jk,A6,H⟩:=H
  by_cases c7:jk=true
  rotate_left
  ·replace c7:=Bool.eq_false_iff.mpr c7
   subst c7;rw[if_neg zfn]at H;have H':=zA H;clear H;obtain⟨g2,g3,g4,g5,g6⟩:=zd5 a2;obtain⟨g7,g8,g9,h0,h1⟩:=zn5 a2
   go_wp2_with (first|((with_reducible refine gate_callee (f:=29) rfl ?_);refine zgl (N:=some 8) Try.func29 #[.agg #[.int .i64 e0,.int .i64 e1]] ?_;(with_reducible refine(impl_FlyKindOk.calls e0 e1 true _ A4.out).mono ?_);rintro e nv ⟨rfl,hb⟩;refine⟨_,rfl,?_⟩;replace a2:=zb a2 hb;replace HB:=zE (zs1 HB a4) hb;(try clear hb);obtain⟨h2,h3,h4,h5,h6⟩:=zd5 a2;obtain⟨h7,h8,h9,i0,i1⟩:=zn5 a2)|(go_at_call 21;(with_reducible refine(impl_within.calls (a1.length:Int) 1 40 false _ A6.out).mono ?_);rintro e w' ⟨rfl,⟨nd,rfl⟩⟩))
   go_meet
   case rel=>exact⟨_,(true),zi,H',⟨by first|omega|exact Nat.le_refl _⟩,⟨zh a2⟩,⟨zs1 HB a4⟩⟩
  subst c7;rw[if_pos rfl]at H;replace H:=zbd H;obtain⟨D1,A8,H⟩:=H;have H':=zA H;clear H;obtain⟨k7,k8,k9,l4,l5⟩:=zd5 a2;obtain⟨l6,l7,l8,l9,m0⟩:=zn5 a2
  go_wp2_with (first|((with_reducible refine gate_callee (f:=29) rfl ?_);refine zgl (N:=some 8) Try.func29 #[.agg #[.int .i64 e0,.int .i64 e1]] ?_;(with_reducible refine(impl_FlyKindOk.calls e0 e1 true _ A4.out).mono ?_);rintro e nw ⟨rfl,hb⟩;refine⟨_,rfl,?_⟩;replace a2:=zb a2 hb;replace HB:=zE (zs1 HB a4) hb;(try clear hb);obtain⟨i2,i3,i4,i5,i6⟩:=zd5 a2;obtain⟨i7,i8,i9,j1,j5⟩:=zn5 a2)|(go_at_call 21;(with_reducible refine(impl_within.calls (a1.length:Int) 1 40 true _ A6.out).mono ?_);rintro e w' ⟨rfl,⟨nd,rfl⟩⟩)|(go_at_call 30;(with_reducible refine(impl_window.calls e2 e3 D1 _ A8.out).mono ?_);rintro e w' ⟨rfl,⟨nd,rfl⟩⟩))
  go_meet
  case rel=>exact⟨_,(!D1),zi,H',⟨by first|omega|exact Nat.le_refl _⟩,⟨zh a2⟩,⟨zs1 HB a4⟩⟩
 case rest=>
  clear ji
  obtain⟨kq,m3,rfl,HA,o0,a2,HB⟩:=hcut
  cases kq with
  |zero=>exact absurd HA.out (by simp[impl_FlyPathOk.j0])
  |succ kx=>
   have H:=HA.out;clear HA;simp only[impl_FlyPathOk.j0]at H
   by_cases C5:m3=true
   ·subst C5
    rw[if_pos rfl]at H;obtain rfl:=Option.some.inj H
    go_wp2
    go_ret;exact⟨ze,zs1 HB a4⟩
   replace C5:=Bool.eq_false_iff.mpr C5;subst C5;rw[if_neg zfn]at H;have H':=zA H;clear H;obtain⟨m4,m5,m6,m7,m8⟩:=zd5 a2;obtain⟨m9,n0,n1,n2,n3⟩:=zn5 a2
   go_wp2
   go_loopg [28] kx (fun kq nl w'=> ∃(a0:Int),nl= .int .i64 a0∧Aside0 (impl_FlyPathOk.l0 kq a1 (a1.length:Int) a0 e0 e1 a1 e2 e3=some r)∧Aside0 (kq≤kx)∧Aside0 (w'.heap[o3]?=some (.cells #[.int .i64 e0,.int .i64 e1,(.slice o2 a1.length n4),.int .i64 e2,.int .i64 e3] 27 (0,0)))∧Aside0 (Below w.heap.size w w'))
   case atStart=>exact⟨(0),zi,H',⟨Nat.le_refl _⟩,⟨zh a2⟩,⟨zs1 HB a4⟩⟩
   case round=>
    clear H'
    try clear C5
    try clear m4 m5 m6 m7 m8
    try clear m9 n0 n1 n2 n3
    obtain⟨a0,rfl,HA,o1,a2,HB⟩:=hrel
    cases gk with
    |zero=>exact absurd HA.out (by simp[impl_FlyPathOk.l0])
    |succ k2=>
     have H:=HA.out;clear HA;simp only[impl_FlyPathOk.l0]at H
     by_cases A3:a0<(a1.length:Int)
     rotate_left
     ·rw[if_neg A3]at H
      have A0:decide (a0<(a1.length:Int))=false:=decide_eq_false A3;clear A3;obtain rfl:=Option.some.inj H
      go_wp2
      go_ret;exact⟨ze,zs1 HB a4⟩
     rw[if_pos A3]at H;have A0:decide (a0<(a1.length:Int))=true:=decide_eq_true A3;clear A3;replace H:=zif H;obtain⟨D2,H⟩:=H
     by_cases D3:a0<(a1.length:Int)
     rotate_left
     ·rw[if_neg D3]at H
      exact absurd H (by simp)
     rw[if_pos D3]at H;have D4:decide (a0<(a1.length:Int))=true:=decide_eq_true D3;clear D3;have A5:=zA H;clear H;have o5:0≤(a0:Int):=za;have o6:a0<(a1.length:Int):=za;obtain⟨d6,jl,j6,j7,j8,j9,k0,k1,k3⟩:=at_T54 d5.out a0 o5 o6;cases jl;replace j6:=zx HB j6;replace j7:=zx HB j7;replace j8:=zx HB j8;replace j9:=zx HB j9;replace k0:=zx HB k0;replace k1:=zx HB k1;replace k3:=zx HB k3;replace o5:=eq_true o5;replace o6:=eq_true o6
     go_upto_region 6 with(first|((with_reducible refine gate_dst (N:=4) rfl ?_);(try(refine gate_guard (by rfl) ?_;dsimp only));refine zbx 4 #[.int .i64 0,.int .i64 0,.int .i64 0,.int .i64 0,.int .i64 0,.int .i64 0,.bool false] 54 ?_;intro D5 hg nx hbox hb;have a3:=zA hbox;have ky:=zgs hg (zs1 HB a4);have b4:=zgs hg (zs1 HB a4);have a5:=zne hg a2;have b9:=znf hg a2;replace a2:=zb a2 hb;replace HB:=zE (zs1 HB a4) hb;clear hb hbox hg;have kz:=b9.out;have la:=a5.out;obtain⟨o7,o8,o9,p0,p1,p3,p4⟩:=zd7 a3;obtain⟨p6,p7,p8,p9,q0,q1,q2⟩:=zn7 a3))
     (try simp only[Act.put,List.setIfInBounds_toArray,List.set_cons_zero,List.set_cons_succ])
     go_cut [68] (fun nm wc=> ∃(kq:Nat) (k4:Bool),nm= .bool k4∧Aside0 (impl_FlyPathOk.j2 kq a0 a1 (a1.length:Int) a0 k4 e0 e1 a1 e2 e3 ((rd_T54 a1 a0).f0) ((rd_T54 a1 a0).f1) ((rd_T54 a1 a0).f2) ((rd_T54 a1 a0).f3) ((rd_T54 a1 a0).f4) ((rd_T54 a1 a0).f5) ((rd_T54 a1 a0).f6)=some r)∧Aside0 (kq≤k2)∧Aside0 (wc.heap[o3]?=some (.cells #[.int .i64 e0,.int .i64 e1,(.slice (some d6) a1.length n4),.int .i64 e2,.int .i64 e3] 27 (0,0)))∧Aside0 (wc.heap[D5]?=some (.cells #[.int .i64 ((rd_T54 a1 a0).f0),.int .i64 ((rd_T54 a1 a0).f1),.int .i64 ((rd_T54 a1 a0).f2),.int .i64 ((rd_T54 a1 a0).f3),.int .i64 ((rd_T54 a1 a0).f4),.int .i64 ((rd_T54 a1 a0).f5),.bool ((rd_T54 a1 a0).f6)] 54 (0,0)))∧Aside0 (Below w.heap.size w wc))
     case first=>
      have H:=A5.out;clear A5;replace H:=zbd H;obtain⟨jm,C6,H⟩:=H
      by_cases D6:jm=true
      rotate_left
      ·replace D6:=Bool.eq_false_iff.mpr D6
       subst D6;rw[if_neg zfn]at H;have H':=zA H;clear H;have lb:=b9.out;have lc:=a5.out;obtain⟨q3,q4,q6,q7,q8,q9,r0⟩:=zd7 a3;obtain⟨r1,r2,r3,r4,r5,r6,r7⟩:=zn7 a3
       go_wp2_with (first|((with_reducible refine gate_callee (f:=21) rfl ?_);refine zgl (N:=some 35) Try.func21 #[.int .i64 ((rd_T54 a1 a0).f0),.int .i64 0,.int .i64 15] ?_;(with_reducible refine(impl_within.calls ((rd_T54 a1 a0).f0) 0 15 false _ C6.out).mono ?_);rintro e w' ⟨rfl,⟨nd,rfl⟩⟩;refine⟨_,rfl,?_⟩))
       go_meet
       case rel=>exact⟨_,(true),zi,H',⟨by have:=o0.out;have:=o1.out;first|omega|exact Nat.le_refl _⟩,⟨zpf a2 a5⟩,⟨zpb a3⟩,⟨zs2 HB a4 b4⟩⟩
      subst D6;rw[if_pos rfl]at H;replace H:=zbd H;obtain⟨jn,D7,H⟩:=H
      by_cases D8:jn=true
      rotate_left
      ·replace D8:=Bool.eq_false_iff.mpr D8
       subst D8;rw[if_neg zfn]at H;have H':=zA H;clear H;have ld:=b9.out;have lf:=a5.out;obtain⟨r8,r9,s0,s1,s2,s3,s4⟩:=zd7 a3;obtain⟨s5,s6,s7,s8,s9,t0,t1⟩:=zn7 a3
       go_wp2_with (first|((with_reducible refine gate_callee (f:=21) rfl ?_);refine zgl (N:=some 35) Try.func21 #[.int .i64 ((rd_T54 a1 a0).f0),.int .i64 0,.int .i64 15] ?_;(with_reducible refine(impl_within.calls ((rd_T54 a1 a0).f0) 0 15 true _ C6.out).mono ?_);rintro e w' ⟨rfl,⟨nd,rfl⟩⟩;refine⟨_,rfl,?_⟩)|(go_at_call 21;(with_reducible refine(impl_within.calls ((rd_T54 a1 a0).f1) 0 15 false _ D7.out).mono ?_);rintro e w' ⟨rfl,⟨nd,rfl⟩⟩))
       go_meet
       case rel=>exact⟨_,(true),zi,H',⟨by have:=o0.out;have:=o1.out;first|omega|exact Nat.le_refl _⟩,⟨zpf a2 a5⟩,⟨zpb a3⟩,⟨zs2 HB a4 b4⟩⟩
      subst D8;rw[if_pos rfl]at H
      by_cases A7:0≤((rd_T54 a1 a0).f2)
      rotate_left
      ·rw[if_neg A7]at H
       have e4:decide (0≤((rd_T54 a1 a0).f2))=false:=decide_eq_false A7;clear A7;(first|rw[e4]|(simp only[i64_w,i32_w];rw[e4])|skip);have H':=zA H;clear H;have lg:=b9.out;have lh:=a5.out;obtain⟨t2,t3,t4,t5,t6,t7,t8⟩:=zd7 a3;obtain⟨t9,v0,v1,v2,v3,v4,v5⟩:=zn7 a3
       go_wp2_with (first|((with_reducible refine gate_callee (f:=21) rfl ?_);refine zgl (N:=some 35) Try.func21 #[.int .i64 ((rd_T54 a1 a0).f0),.int .i64 0,.int .i64 15] ?_;(with_reducible refine(impl_within.calls ((rd_T54 a1 a0).f0) 0 15 true _ C6.out).mono ?_);rintro e w' ⟨rfl,⟨nd,rfl⟩⟩;refine⟨_,rfl,?_⟩)|(go_at_call 21;(with_reducible refine(impl_within.calls ((rd_T54 a1 a0).f1) 0 15 true _ D7.out).mono ?_);rintro e w' ⟨rfl,⟨nd,rfl⟩⟩))
       go_meet
       case rel=>exact⟨_,(true),zi,H',⟨by have:=o0.out;have:=o1.out;first|omega|exact Nat.le_refl _⟩,⟨zpf a2 a5⟩,⟨zpb a3⟩,⟨zs2 HB a4 b4⟩⟩
      rw[if_pos A7]at H;have e4:decide (0≤((rd_T54 a1 a0).f2))=true:=decide_eq_true A7;clear A7;(first|rw[e4]|(simp only[i64_w,i32_w];rw[e4])|skip)
      by_cases A9:((rd_T54 a1 a0).f2)≤((rd_T54 a1 a0).f3)
      rotate_left
      ·rw[if_neg A9]at H
       have A1:decide (((rd_T54 a1 a0).f2)≤((rd_T54 a1 a0).f3))=false:=decide_eq_false A9;clear A9;have H':=zA H;clear H;have li:=b9.out;have lj:=a5.out;obtain⟨v6,v7,v8,v9,w0,w1,w2⟩:=zd7 a3;obtain⟨w4,w5,w6,w7,w8,w9,x0⟩:=zn7 a3
       go_wp2_with (first|((with_reducible refine gate_callee (f:=21) rfl ?_);refine zgl (N:=some 35) Try.func21 #[.int .i64 ((rd_T54 a1 a0).f0),.int .i64 0,.int .i64 15] ?_;(with_reducible refine(impl_within.calls ((rd_T54 a1 a0).f0) 0 15 true _ C6.out).mono ?_);rintro e w' ⟨rfl,⟨nd,rfl⟩⟩;refine⟨_,rfl,?_⟩)|(go_at_call 21;(with_reducible refine(impl_within.calls ((rd_T54 a1 a0).f1) 0 15 true _ D7.out).mono ?_);rintro e w' ⟨rfl,⟨nd,rfl⟩⟩))
       go_meet
       case rel=>exact⟨_,(true),zi,H',⟨by have:=o0.out;have:=o1.out;first|omega|exact Nat.le_refl _⟩,⟨zpf a2 a5⟩,⟨zpb a3⟩,⟨zs2 HB a4 b4⟩⟩
      rw[if_pos A9]at H;have A1:decide (((rd_T54 a1 a0).f2)≤((rd_T54 a1 a0).f3))=true:=decide_eq_true A9;clear A9
      by_cases B0:(((rd_T54 a1 a0).f3)≤6)
      rotate_left
      ·rw[if_neg B0]at H
       have A2:decide (((rd_T54 a1 a0).f3)≤6)=false:=decide_eq_false B0;clear B0;have H':=zA H;clear H;have lk:=b9.out;have ll:=a5.out;obtain⟨x1,x2,x3,x4,x5,x6,x7⟩:=zd7 a3;obtain⟨x8,x9,y0,y1,y2,y3,y4⟩:=zn7 a3
       go_wp2_with (first|((with_reducible refine gate_callee (f:=21) rfl ?_);refine zgl (N:=some 35) Try.func21 #[.int .i64 ((rd_T54 a1 a0).f0),.int .i64 0,.int .i64 15] ?_;(with_reducible refine(impl_within.calls ((rd_T54 a1 a0).f0) 0 15 true _ C6.out).mono ?_);rintro e w' ⟨rfl,⟨nd,rfl⟩⟩;refine⟨_,rfl,?_⟩)|(go_at_call 21;(with_reducible refine(impl_within.calls ((rd_T54 a1 a0).f1) 0 15 true _ D7.out).mono ?_);rintro e w' ⟨rfl,⟨nd,rfl⟩⟩))
       go_meet
       case rel=>exact⟨_,(true),zi,H',⟨by have:=o0.out;have:=o1.out;first|omega|exact Nat.le_refl _⟩,⟨zpf a2 a5⟩,⟨zpb a3⟩,⟨zs2 HB a4 b4⟩⟩
      rw[if_pos B0]at H;have A2:decide (((rd_T54 a1 a0).f3)≤6)=true:=decide_eq_true B0;clear B0;replace H:=zbd H;obtain⟨D9,nn,H⟩:=H;have H':=zA H;clear H;have lm:=b9.out;have ln:=a5.out;obtain⟨y5,y6,y7,y8,y9,z0,z1⟩:=zd7 a3;obtain⟨z2,z3,z4,z5,z6,z7,z8⟩:=zn7 a3
      go_wp2_with (first|((with_reducible refine gate_callee (f:=21) rfl ?_);refine zgl (N:=some 35) Try.func21 #[.int .i64 ((rd_T54 a1 a0).f0),.int .i64 0,.int .i64 15] ?_;(with_reducible refine(impl_within.calls ((rd_T54 a1 a0).f0) 0 15 true _ C6.out).mono ?_);rintro e w' ⟨rfl,⟨nd,rfl⟩⟩;refine⟨_,rfl,?_⟩)|(go_at_call 21;(with_reducible refine(impl_within.calls ((rd_T54 a1 a0).f1) 0 15 true _ D7.out).mono ?_);rintro e w' ⟨rfl,⟨nd,rfl⟩⟩)|(go_at_call 30;(with_reducible refine(impl_window.calls ((rd_T54 a1 a0).f4) ((rd_T54 a1 a0).f5) D9 _ nn.out).mono ?_);rintro e w' ⟨rfl,⟨nd,rfl⟩⟩))
      go_meet
      case rel=>exact⟨_,(!D9),zi,H',⟨by have:=o0.out;have:=o1.out;first|omega|exact Nat.le_refl _⟩,⟨zpf a2 a5⟩,⟨zpb a3⟩,⟨zs2 HB a4 b4⟩⟩
     case rest=>
      clear A5
      try clear C5
      try clear A0
      try clear D2
      try clear D4
      try clear m4 m5 m6 m7 m8
      try clear o7 o8 o9 p0 p1 p3 p4
      try clear m9 n0 n1 n2 n3
      try clear p6 p7 p8 p9 q0 q1 q2
      try clear j6
      try clear j7
      try clear j8
      try clear j9
      try clear k0
      try clear k1
      try clear k3
      try clear o5
      try clear o6
      obtain⟨kq,k4,rfl,HA,n5,a2,a3,HB⟩:=hcut
      cases kq with
      |zero=>exact absurd HA.out (by simp[impl_FlyPathOk.j2])
      |succ B1=>
       have H:=HA.out;clear HA;simp only[impl_FlyPathOk.j2]at H
       by_cases ab:k4=true
       ·subst ab
        rw[if_pos rfl]at H;obtain rfl:=Option.some.inj H
        go_wp2
        go_ret;exact⟨ze,zs2 HB a4 b4⟩
       replace ab:=Bool.eq_false_iff.mpr ab;subst ab;rw[if_neg zfn]at H
       by_cases B2:a0=0
       ·rw[if_pos B2]at H
        have E0:(a0==0)=true:=beq_iff_eq.mpr B2;have E1:(a0 !=0)=false:=bne_eq_false_iff_eq.mpr B2;clear B2;have H':=zA H;clear H
        go_wp2
        go_roundg B1
        case measure=>have:=o0.out;have:=o1.out;have:=n5.out;omega
        case rel=>exact⟨(wrap64 (a0+1)),zi,H',⟨by have:=o0.out;have:=o1.out;have:=n5.out;omega⟩,⟨zh a2⟩,⟨zs2 HB a4 b4⟩⟩
       rw[if_neg B2]at H;have E0:(a0==0)=false:=beq_eq_false_iff_ne.mpr B2;have E1:(a0 !=0)=true:=bne_iff_ne.mpr B2;obtain⟨b5,d7⟩: ∃j_:Int,(wrap64 (a0-1))=j_:=⟨_,rfl⟩
       first|rw[d7]at H|simp only[d7]at H
       have jo:(IntKind.i64.wrap (a0-1))=b5:=(i64_w _).trans d7;replace H:=zif H;obtain⟨lo,H⟩:=H
       by_cases ad:(b5)<(a1.length:Int)
       rotate_left
       ·rw[if_neg ad]at H
        exact absurd H (by simp)
       rw[if_pos ad]at H;have lp:decide ((b5)<(a1.length:Int))=true:=decide_eq_true ad;clear ad
       by_cases B5:((rd_T54 a1 (b5)).f0)=((rd_T54 a1 a0).f0)
       rotate_left
       ·rw[if_neg B5]at H
        have E2:(((rd_T54 a1 (b5)).f0)==((rd_T54 a1 a0).f0))=false:=beq_eq_false_iff_ne.mpr B5;have E3:(((rd_T54 a1 (b5)).f0) !=((rd_T54 a1 a0).f0))=true:=bne_iff_ne.mpr B5;replace H:=zbd H;obtain⟨k5,o4,H⟩:=H
        by_cases n6:k5>1
        ·rw[if_pos n6]at H
         have C0:decide (1<k5)=true:=decide_eq_true n6;clear n6;obtain rfl:=Option.some.inj H;have jp:=a5.out;have jq:=b9.out;obtain⟨E4,E5,E6,E7,E8⟩:=zd5 a2;obtain⟨E9,F0,F1,F2,F3⟩:=zn5 a2;have d0:0≤((b5):Int):=za;have d1:(b5)<(a1.length:Int):=za;obtain⟨d2,d4,a7,a8,a9,b0,b1,b2,b3⟩:=at_T54 d5.out (b5) d0 d1;obtain rfl:d6=d2:=(by injection d4);replace a7:=zx HB a7;replace a8:=zx HB a8;replace a9:=zx HB a9;replace b0:=zx HB b0;replace b1:=zx HB b1;replace b2:=zx HB b2;replace b3:=zx HB b3;replace d0:=eq_true d0;replace d1:=eq_true d1
         go_wp2_with (first|((with_reducible refine gate_dst (N:=5) rfl ?_);(try(refine gate_guard (by rfl) ?_;dsimp only));refine zbx 5 #[.int .i64 0,.int .i64 0,.int .i64 0,.int .i64 0,.int .i64 0,.int .i64 0,.bool false] 54 ?_;intro d8 hg np hbox hb;have c0:=zA hbox;have d9:=zgs hg (zs2 HB a4 b4);have d3:=zgs hg (zs2 HB a4 b4);have a6:=zne hg a2;have b6:=znf hg a2;have b7:=zne hg a3;have b8:=znf hg a3;replace a2:=zb a2 hb;replace a3:=zb a3 hb;replace HB:=zE (zs2 HB a4 b4) hb;clear hb hbox hg;have jr:=b6.out;have js:=a6.out;have jt:=b8.out;have ju:=b7.out;obtain⟨F4,F5,F6,F7,F8,F9,G0⟩:=zd7 c0;obtain⟨G1,G2,G3,G4,G5,G6,G7⟩:=zn7 c0;obtain⟨G8,G9,H0,H1,H2,H3,H4⟩:=zd7 a3;obtain⟨H5,H6,H7,H8,H9,I0,I1⟩:=zn7 a3)|(go_at_call 31;(with_reducible refine(impl_dist.calls ((rd_T54 a1 (b5)).f0) ((rd_T54 a1 a0).f0) k5 _ o4.out).mono ?_);rintro e w' ⟨rfl,⟨nd,rfl⟩⟩))
         go_ret;exact⟨by first|rfl|(simp[errW_none,errW_some]<;>rfl)|(simp only[←d7];first|rfl|(simp[errW_none,errW_some]<;>rfl))|(simp[*,errW_none,errW_some]<;>rfl),zs3 HB a4 b4 d3⟩
        rw[if_neg n6]at H;have C0:decide (1<k5)=false:=decide_eq_false n6;clear n6;replace H:=zbd H;obtain⟨m1,z9,H⟩:=H
        by_cases n7:m1>1
        ·rw[if_pos n7]at H
         have C1:decide (1<m1)=true:=decide_eq_true n7;clear n7;obtain rfl:=Option.some.inj H;have jv:=a5.out;have jw:=b9.out;obtain⟨I2,I3,I4,I5,I6⟩:=zd5 a2;obtain⟨I7,I8,I9,J0,J1⟩:=zn5 a2;have d0:0≤((b5):Int):=za;have d1:(b5)<(a1.length:Int):=za;obtain⟨d2,d4,a7,a8,a9,b0,b1,b2,b3⟩:=at_T54 d5.out (b5) d0 d1;obtain rfl:d6=d2:=(by injection d4);replace a7:=zx HB a7;replace a8:=zx HB a8;replace a9:=zx HB a9;replace b0:=zx HB b0;replace b1:=zx HB b1;replace b2:=zx HB b2;replace b3:=zx HB b3;replace d0:=eq_true d0;replace d1:=eq_true d1
         go_wp2_with (first|((with_reducible refine gate_dst (N:=5) rfl ?_);(try(refine gate_guard (by rfl) ?_;dsimp only));refine zbx 5 #[.int .i64 0,.int .i64 0,.int .i64 0,.int .i64 0,.int .i64 0,.int .i64 0,.bool false] 54 ?_;intro d8 hg nq hbox hb;have c0:=zA hbox;have d9:=zgs hg (zs2 HB a4 b4);have d3:=zgs hg (zs2 HB a4 b4);have a6:=zne hg a2;have b6:=znf hg a2;have b7:=zne hg a3;have b8:=znf hg a3;replace a2:=zb a2 hb;replace a3:=zb a3 hb;replace HB:=zE (zs2 HB a4 b4) hb;clear hb hbox hg;have jx:=b6.out;have jy:=a6.out;have jz:=b8.out;have ka:=b7.out;obtain⟨J2,J3,J4,J5,J6,J7,J8⟩:=zd7 c0;obtain⟨J9,K0,K1,K2,K3,K4,K5⟩:=zn7 c0;obtain⟨K6,K7,K8,K9,L0,L1,L2⟩:=zd7 a3;obtain⟨L3,L4,L5,L6,L7,L8,L9⟩:=zn7 a3)|(go_at_call 31;(with_reducible refine(impl_dist.calls ((rd_T54 a1 (b5)).f0) ((rd_T54 a1 a0).f0) k5 _ o4.out).mono ?_);rintro e w' ⟨rfl,⟨nd,rfl⟩⟩)|(go_at_call 31;(with_reducible refine(impl_dist.calls ((rd_T54 a1 (b5)).f1) ((rd_T54 a1 a0).f1) m1 _ z9.out).mono ?_);rintro e w' ⟨rfl,⟨nd,rfl⟩⟩))
         go_ret;exact⟨by first|rfl|(simp[errW_none,errW_some]<;>rfl)|(simp only[←d7];first|rfl|(simp[errW_none,errW_some]<;>rfl))|(simp[*,errW_none,errW_some]<;>rfl),zs3 HB a4 b4 d3⟩
        rw[if_neg n7]at H;have C1:decide (1<m1)=false:=decide_eq_false n7;clear n7
        by_cases n8:((rd_T54 a1 (b5)).f2)>((rd_T54 a1 a0).f3)
        ·rw[if_pos n8]at H
         have C2:decide (((rd_T54 a1 a0).f3)<((rd_T54 a1 (b5)).f2))=true:=decide_eq_true n8;clear n8;obtain rfl:=Option.some.inj H;have kb:=a5.out;have kc:=b9.out;obtain⟨M0,M1,M2,M3,M4⟩:=zd5 a2;obtain⟨M5,M6,M7,M8,M9⟩:=zn5 a2;have d0:0≤((b5):Int):=za;have d1:(b5)<(a1.length:Int):=za;obtain⟨d2,d4,a7,a8,a9,b0,b1,b2,b3⟩:=at_T54 d5.out (b5) d0 d1;obtain rfl:d6=d2:=(by injection d4);replace a7:=zx HB a7;replace a8:=zx HB a8;replace a9:=zx HB a9;replace b0:=zx HB b0;replace b1:=zx HB b1;replace b2:=zx HB b2;replace b3:=zx HB b3;replace d0:=eq_true d0;replace d1:=eq_true d1
         go_wp2_with (first|((with_reducible refine gate_dst (N:=5) rfl ?_);(try(refine gate_guard (by rfl) ?_;dsimp only));refine zbx 5 #[.int .i64 0,.int .i64 0,.int .i64 0,.int .i64 0,.int .i64 0,.int .i64 0,.bool false] 54 ?_;intro d8 hg nr hbox hb;have c0:=zA hbox;have d9:=zgs hg (zs2 HB a4 b4);have d3:=zgs hg (zs2 HB a4 b4);have a6:=zne hg a2;have b6:=znf hg a2;have b7:=zne hg a3;have b8:=znf hg a3;replace a2:=zb a2 hb;replace a3:=zb a3 hb;replace HB:=zE (zs2 HB a4 b4) hb;clear hb hbox hg;have kd:=b6.out;have ke:=a6.out;have kf:=b8.out;have kg:=b7.out;obtain⟨N0,N1,N2,N3,N4,N5,N6⟩:=zd7 c0;obtain⟨N7,N8,N9,O0,O1,O2,O3⟩:=zn7 c0;obtain⟨O4,O5,O6,O7,O8,O9,P0⟩:=zd7 a3;obtain⟨P1,P2,P3,P4,P5,P6,P7⟩:=zn7 a3)|(go_at_call 31;(with_reducible refine(impl_dist.calls ((rd_T54 a1 (b5)).f0) ((rd_T54 a1 a0).f0) k5 _ o4.out).mono ?_);rintro e w' ⟨rfl,⟨nd,rfl⟩⟩)|(go_at_call 31;(with_reducible refine(impl_dist.calls ((rd_T54 a1 (b5)).f1) ((rd_T54 a1 a0).f1) m1 _ z9.out).mono ?_);rintro e w' ⟨rfl,⟨nd,rfl⟩⟩))
         go_ret;exact⟨by first|rfl|(simp[errW_none,errW_some]<;>rfl)|(simp only[←d7];first|rfl|(simp[errW_none,errW_some]<;>rfl))|(simp[*,errW_none,errW_some]<;>rfl),zs3 HB a4 b4 d3⟩
        rw[if_neg n8]at H;have C2:decide (((rd_T54 a1 a0).f3)<((rd_T54 a1 (b5)).f2))=false:=decide_eq_false n8;clear n8
        by_cases n9:((rd_T54 a1 a0).f2)>((rd_T54 a1 (b5)).f3)
        ·rw[if_pos n9]at H
         have C3:decide (((rd_T54 a1 (b5)).f3)<((rd_T54 a1 a0).f2))=true:=decide_eq_true n9;clear n9;obtain rfl:=Option.some.inj H;have kh:=a5.out;have ki:=b9.out;obtain⟨P8,P9,Q0,Q1,Q2⟩:=zd5 a2;obtain⟨Q3,Q4,Q5,Q6,Q7⟩:=zn5 a2;have d0:0≤((b5):Int):=za;have d1:(b5)<(a1.length:Int):=za;obtain⟨d2,d4,a7,a8,a9,b0,b1,b2,b3⟩:=at_T54 d5.out (b5) d0 d1;obtain rfl:d6=d2:=(by injection d4);replace a7:=zx HB a7;replace a8:=zx HB a8;replace a9:=zx HB a9;replace b0:=zx HB b0;replace b1:=zx HB b1;replace b2:=zx HB b2;replace b3:=zx HB b3;replace d0:=eq_true d0;replace d1:=eq_true d1
         go_wp2_with (first|((with_reducible refine gate_dst (N:=5) rfl ?_);(try(refine gate_guard (by rfl) ?_;dsimp only));refine zbx 5 #[.int .i64 0,.int .i64 0,.int .i64 0,.int .i64 0,.int .i64 0,.int .i64 0,.bool false] 54 ?_;intro d8 hg ns hbox hb;have c0:=zA hbox;have d9:=zgs hg (zs2 HB a4 b4);have d3:=zgs hg (zs2 HB a4 b4);have a6:=zne hg a2;have b6:=znf hg a2;have b7:=zne hg a3;have b8:=znf hg a3;replace a2:=zb a2 hb;replace a3:=zb a3 hb;replace HB:=zE (zs2 HB a4 b4) hb;clear hb hbox hg;have kj:=b6.out;have kk:=a6.out;have kl:=b8.out;have km:=b7.out;obtain⟨Q8,Q9,R0,R1,R2,R3,R4⟩:=zd7 c0;obtain⟨R5,R6,R7,R8,R9,S0,S1⟩:=zn7 c0;obtain⟨S2,S3,S4,S5,S6,S7,S8⟩:=zd7 a3;obtain⟨S9,T0,T1,T2,T5,U0,U1⟩:=zn7 a3)|(go_at_call 31;(with_reducible refine(impl_dist.calls ((rd_T54 a1 (b5)).f0) ((rd_T54 a1 a0).f0) k5 _ o4.out).mono ?_);rintro e w' ⟨rfl,⟨nd,rfl⟩⟩)|(go_at_call 31;(with_reducible refine(impl_dist.calls ((rd_T54 a1 (b5)).f1) ((rd_T54 a1 a0).f1) m1 _ z9.out).mono ?_);rintro e w' ⟨rfl,⟨nd,rfl⟩⟩))
         go_ret;exact⟨by first|rfl|(simp[errW_none,errW_some]<;>rfl)|(simp only[←d7];first|rfl|(simp[errW_none,errW_some]<;>rfl))|(simp[*,errW_none,errW_some]<;>rfl),zs3 HB a4 b4 d3⟩
        rw[if_neg n9]at H;have C3:decide (((rd_T54 a1 (b5)).f3)<((rd_T54 a1 a0).f2))=false:=decide_eq_false n9;clear n9;have H':=zA H;clear H;have kn:=a5.out;have ko:=b9.out;obtain⟨U2,U3,U4,U5,U6⟩:=zd5 a2;obtain⟨U7,U8,U9,V0,V1⟩:=zn5 a2;have d0:0≤((b5):Int):=za;have d1:(b5)<(a1.length:Int):=za;obtain⟨d2,d4,a7,a8,a9,b0,b1,b2,b3⟩:=at_T54 d5.out (b5) d0 d1;obtain rfl:d6=d2:=(by injection d4);replace a7:=zx HB a7;replace a8:=zx HB a8;replace a9:=zx HB a9;replace b0:=zx HB b0;replace b1:=zx HB b1;replace b2:=zx HB b2;replace b3:=zx HB b3;replace d0:=eq_true d0;replace d1:=eq_true d1
        go_wp2_with (first|((with_reducible refine gate_dst (N:=5) rfl ?_);(try(refine gate_guard (by rfl) ?_;dsimp only));refine zbx 5 #[.int .i64 0,.int .i64 0,.int .i64 0,.int .i64 0,.int .i64 0,.int .i64 0,.bool false] 54 ?_;intro d8 hg nt hbox hb;have c0:=zA hbox;have d9:=zgs hg (zs2 HB a4 b4);have d3:=zgs hg (zs2 HB a4 b4);have a6:=zne hg a2;have b6:=znf hg a2;have b7:=zne hg a3;have b8:=znf hg a3;replace a2:=zb a2 hb;replace a3:=zb a3 hb;replace HB:=zE (zs2 HB a4 b4) hb;clear hb hbox hg;have kp:=b6.out;have kr:=a6.out;have ks:=b8.out;have kt:=b7.out;obtain⟨V2,V3,V4,V5,V6,V7,V8⟩:=zd7 c0;obtain⟨V9,W0,W1,W2,W3,W4,W5⟩:=zn7 c0;obtain⟨W6,W7,W8,W9,X0,X1,X2⟩:=zd7 a3;obtain⟨X3,X4,X5,X6,X7,X8,X9⟩:=zn7 a3)|(go_at_call 31;(with_reducible refine(impl_dist.calls ((rd_T54 a1 (b5)).f0) ((rd_T54 a1 a0).f0) k5 _ o4.out).mono ?_);rintro e w' ⟨rfl,⟨nd,rfl⟩⟩)|(go_at_call 31;(with_reducible refine(impl_dist.calls ((rd_T54 a1 (b5)).f1) ((rd_T54 a1 a0).f1) m1 _ z9.out).mono ?_);rintro e w' ⟨rfl,⟨nd,rfl⟩⟩))
        go_roundg B1
        case measure=>have:=o0.out;have:=o1.out;have:=n5.out;omega
        case rel=>exact⟨(wrap64 (a0+1)),zi,H',⟨by have:=o0.out;have:=o1.out;have:=n5.out;omega⟩,⟨zpf a2 a6⟩,⟨zs3 HB a4 b4 d3⟩⟩
       rw[if_pos B5]at H;have E2:(((rd_T54 a1 (b5)).f0)==((rd_T54 a1 a0).f0))=true:=beq_iff_eq.mpr B5;have E3:(((rd_T54 a1 (b5)).f0) !=((rd_T54 a1 a0).f0))=false:=bne_eq_false_iff_eq.mpr B5;clear B5
       by_cases C4:((rd_T54 a1 (b5)).f1)=((rd_T54 a1 a0).f1)
       ·rw[if_pos C4]at H
        have Y0:(((rd_T54 a1 (b5)).f1)==((rd_T54 a1 a0).f1))=true:=beq_iff_eq.mpr C4;have Y1:(((rd_T54 a1 (b5)).f1) !=((rd_T54 a1 a0).f1))=false:=bne_eq_false_iff_eq.mpr C4;clear C4;obtain rfl:=Option.some.inj H;have lq:=a5.out;have lr:=b9.out;obtain⟨ae,af,ag,ah,ai⟩:=zd5 a2;obtain⟨aj,ak,al,am,an⟩:=zn5 a2;have d0:0≤((b5):Int):=za;have d1:(b5)<(a1.length:Int):=za;obtain⟨d2,d4,a7,a8,a9,b0,b1,b2,b3⟩:=at_T54 d5.out (b5) d0 d1;obtain rfl:d6=d2:=(by injection d4);replace a7:=zx HB a7;replace a8:=zx HB a8;replace a9:=zx HB a9;replace b0:=zx HB b0;replace b1:=zx HB b1;replace b2:=zx HB b2;replace b3:=zx HB b3;replace d0:=eq_true d0;replace d1:=eq_true d1
        go_wp2_with (first|((with_reducible refine gate_dst (N:=5) rfl ?_);(try(refine gate_guard (by rfl) ?_;dsimp only));refine zbx 5 #[.int .i64 0,.int .i64 0,.int .i64 0,.int .i64 0,.int .i64 0,.int .i64 0,.bool false] 54 ?_;intro d8 hg oi hbox hb;have c0:=zA hbox;have d9:=zgs hg (zs2 HB a4 b4);have d3:=zgs hg (zs2 HB a4 b4);have a6:=zne hg a2;have b6:=znf hg a2;have b7:=zne hg a3;have b8:=znf hg a3;replace a2:=zb a2 hb;replace a3:=zb a3 hb;replace HB:=zE (zs2 HB a4 b4) hb;clear hb hbox hg;have ls:=b6.out;have lu:=a6.out;have lv:=b8.out;have lw:=b7.out;obtain⟨ao,ap,aq,ar,au,av,aw⟩:=zd7 c0;obtain⟨ax,ay,az,ba,bb,bc,bd⟩:=zn7 c0;obtain⟨be,bf,bg,bh,bi,bj,bk⟩:=zd7 a3;obtain⟨bl,bm,bn,bo,bp,bq,br⟩:=zn7 a3))
        go_ret;exact⟨by first|rfl|(simp[errW_none,errW_some]<;>rfl)|(simp only[←d7];first|rfl|(simp[errW_none,errW_some]<;>rfl))|(simp[*,errW_none,errW_some]<;>rfl),zs3 HB a4 b4 d3⟩
       rw[if_neg C4]at H;have Y0:(((rd_T54 a1 (b5)).f1)==((rd_T54 a1 a0).f1))=false:=beq_eq_false_iff_ne.mpr C4;have Y1:(((rd_T54 a1 (b5)).f1) !=((rd_T54 a1 a0).f1))=true:=bne_iff_ne.mpr C4;replace H:=zbd H;obtain⟨k6,Y2,H⟩:=H
       by_cases C7:k6>1
       ·rw[if_pos C7]at H
        have Y3:decide (1<k6)=true:=decide_eq_true C7;clear C7;obtain rfl:=Option.some.inj H;have lx:=a5.out;have ly:=b9.out;obtain⟨bs,bu,bv,bw,bx⟩:=zd5 a2;obtain⟨bz,ca,cb,cc,cd⟩:=zn5 a2;have d0:0≤((b5):Int):=za;have d1:(b5)<(a1.length:Int):=za;obtain⟨d2,d4,a7,a8,a9,b0,b1,b2,b3⟩:=at_T54 d5.out (b5) d0 d1;obtain rfl:d6=d2:=(by injection d4);replace a7:=zx HB a7;replace a8:=zx HB a8;replace a9:=zx HB a9;replace b0:=zx HB b0;replace b1:=zx HB b1;replace b2:=zx HB b2;replace b3:=zx HB b3;replace d0:=eq_true d0;replace d1:=eq_true d1
        go_wp2_with (first|((with_reducible refine gate_dst (N:=5) rfl ?_);(try(refine gate_guard (by rfl) ?_;dsimp only));refine zbx 5 #[.int .i64 0,.int .i64 0,.int .i64 0,.int .i64 0,.int .i64 0,.int .i64 0,.bool false] 54 ?_;intro d8 hg oj hbox hb;have c0:=zA hbox;have d9:=zgs hg (zs2 HB a4 b4);have d3:=zgs hg (zs2 HB a4 b4);have a6:=zne hg a2;have b6:=znf hg a2;have b7:=zne hg a3;have b8:=znf hg a3;replace a2:=zb a2 hb;replace a3:=zb a3 hb;replace HB:=zE (zs2 HB a4 b4) hb;clear hb hbox hg;have lz:=b6.out;have ma:=a6.out;have mb:=b8.out;have mc:=b7.out;obtain⟨ce,cf,cg,ch,ci,cj,ck⟩:=zd7 c0;obtain⟨cl,cm,cn,co,cp,cq,cr⟩:=zn7 c0;obtain⟨cs,ct,cu,cv,cw,cx,cy⟩:=zd7 a3;obtain⟨cz,da,db,dc,dd,de,df⟩:=zn7 a3)|(go_at_call 31;(with_reducible refine(impl_dist.calls ((rd_T54 a1 (b5)).f0) ((rd_T54 a1 a0).f0) k6 _ Y2.out).mono ?_);rintro e w' ⟨rfl,⟨nd,rfl⟩⟩))
        go_ret;exact⟨by first|rfl|(simp[errW_none,errW_some]<;>rfl)|(simp only[←d7];first|rfl|(simp[errW_none,errW_some]<;>rfl))|(simp[*,errW_none,errW_some]<;>rfl),zs3 HB a4 b4 d3⟩
       rw[if_neg C7]at H;have Y3:decide (1<k6)=false:=decide_eq_false C7;clear C7;replace H:=zbd H;obtain⟨m2,dg,H⟩:=H
       by_cases C8:m2>1
       ·rw[if_pos C8]at H
        have Y4:decide (1<m2)=true:=decide_eq_true C8;clear C8;obtain rfl:=Option.some.inj H;have md:=a5.out;have mf:=b9.out;obtain⟨dh,di,dj,dk,dl⟩:=zd5 a2;obtain⟨dm,dn,dp,dq,dr⟩:=zn5 a2;have d0:0≤((b5):Int):=za;have d1:(b5)<(a1.length:Int):=za;obtain⟨d2,d4,a7,a8,a9,b0,b1,b2,b3⟩:=at_T54 d5.out (b5) d0 d1;obtain rfl:d6=d2:=(by injection d4);replace a7:=zx HB a7;replace a8:=zx HB a8;replace a9:=zx HB a9;replace b0:=zx HB b0;replace b1:=zx HB b1;replace b2:=zx HB b2;replace b3:=zx HB b3;replace d0:=eq_true d0;replace d1:=eq_true d1
        go_wp2_with (first|((with_reducible refine gate_dst (N:=5) rfl ?_);(try(refine gate_guard (by rfl) ?_;dsimp only));refine zbx 5 #[.int .i64 0,.int .i64 0,.int .i64 0,.int .i64 0,.int .i64 0,.int .i64 0,.bool false] 54 ?_;intro d8 hg ok hbox hb;have c0:=zA hbox;have d9:=zgs hg (zs2 HB a4 b4);have d3:=zgs hg (zs2 HB a4 b4);have a6:=zne hg a2;have b6:=znf hg a2;have b7:=zne hg a3;have b8:=znf hg a3;replace a2:=zb a2 hb;replace a3:=zb a3 hb;replace HB:=zE (zs2 HB a4 b4) hb;clear hb hbox hg;have mg:=b6.out;have mh:=a6.out;have mi:=b8.out;have mj:=b7.out;obtain⟨ds,dt,du,dv,dw,dx,dy⟩:=zd7 c0;obtain⟨dz,ea,eb,ec,ed,ee,ef⟩:=zn7 c0;obtain⟨eg,eh,ei,ej,ek,el,em⟩:=zd7 a3;obtain⟨en,eo,ep,er,es,et,eu⟩:=zn7 a3)|(go_at_call 31;(with_reducible refine(impl_dist.calls ((rd_T54 a1 (b5)).f0) ((rd_T54 a1 a0).f0) k6 _ Y2.out).mono ?_);rintro e w' ⟨rfl,⟨nd,rfl⟩⟩)|(go_at_call 31;(with_reducible refine(impl_dist.calls ((rd_T54 a1 (b5)).f1) ((rd_T54 a1 a0).f1) m2 _ dg.out).mono ?_);rintro e w' ⟨rfl,⟨nd,rfl⟩⟩))
        go_ret;exact⟨by first|rfl|(simp[errW_none,errW_some]<;>rfl)|(simp only[←d7];first|rfl|(simp[errW_none,errW_some]<;>rfl))|(simp[*,errW_none,errW_some]<;>rfl),zs3 HB a4 b4 d3⟩
       rw[if_neg C8]at H;have Y4:decide (1<m2)=false:=decide_eq_false C8;clear C8
       by_cases C9:((rd_T54 a1 (b5)).f2)>((rd_T54 a1 a0).f3)
       ·rw[if_pos C9]at H
        have Y5:decide (((rd_T54 a1 a0).f3)<((rd_T54 a1 (b5)).f2))=true:=decide_eq_true C9;clear C9;obtain rfl:=Option.some.inj H;have mk:=a5.out;have ml:=b9.out;obtain⟨ev,ew,ex,ey,ez⟩:=zd5 a2;obtain⟨fa,fb,fc,fd,fe⟩:=zn5 a2;have d0:0≤((b5):Int):=za;have d1:(b5)<(a1.length:Int):=za;obtain⟨d2,d4,a7,a8,a9,b0,b1,b2,b3⟩:=at_T54 d5.out (b5) d0 d1;obtain rfl:d6=d2:=(by injection d4);replace a7:=zx HB a7;replace a8:=zx HB a8;replace a9:=zx HB a9;replace b0:=zx HB b0;replace b1:=zx HB b1;replace b2:=zx HB b2;replace b3:=zx HB b3;replace d0:=eq_true d0;replace d1:=eq_true d1
        go_wp2_with (first|((with_reducible refine gate_dst (N:=5) rfl ?_);(try(refine gate_guard (by rfl) ?_;dsimp only));refine zbx 5 #[.int .i64 0,.int .i64 0,.int .i64 0,.int .i64 0,.int .i64 0,.int .i64 0,.bool false] 54 ?_;intro d8 hg ol hbox hb;have c0:=zA hbox;have d9:=zgs hg (zs2 HB a4 b4);have d3:=zgs hg (zs2 HB a4 b4);have a6:=zne hg a2;have b6:=znf hg a2;have b7:=zne hg a3;have b8:=znf hg a3;replace a2:=zb a2 hb;replace a3:=zb a3 hb;replace HB:=zE (zs2 HB a4 b4) hb;clear hb hbox hg;have mm:=b6.out;have mo:=a6.out;have mp:=b8.out;have mq:=b7.out;obtain⟨ff,fg,fh,fi,fj,fk,fl⟩:=zd7 c0;obtain⟨fm,fo,fp,fq,fr,fs,ft⟩:=zn7 c0;obtain⟨fu,fv,fw,fx,fy,fz,ga⟩:=zd7 a3;obtain⟨gb,gc,gf,gg,gh,gi,gj⟩:=zn7 a3)|(go_at_call 31;(with_reducible refine(impl_dist.calls ((rd_T54 a1 (b5)).f0) ((rd_T54 a1 a0).f0) k6 _ Y2.out).mono ?_);rintro e w' ⟨rfl,⟨nd,rfl⟩⟩)|(go_at_call 31;(with_reducible refine(impl_dist.calls ((rd_T54 a1 (b5)).f1) ((rd_T54 a1 a0).f1) m2 _ dg.out).mono ?_);rintro e w' ⟨rfl,⟨nd,rfl⟩⟩))
        go_ret;exact⟨by first|rfl|(simp[errW_none,errW_some]<;>rfl)|(simp only[←d7];first|rfl|(simp[errW_none,errW_some]<;>rfl))|(simp[*,errW_none,errW_some]<;>rfl),zs3 HB a4 b4 d3⟩
       rw[if_neg C9]at H;have Y5:decide (((rd_T54 a1 a0).f3)<((rd_T54 a1 (b5)).f2))=false:=decide_eq_false C9;clear C9
       by_cases D0:((rd_T54 a1 a0).f2)>((rd_T54 a1 (b5)).f3)
       ·rw[if_pos D0]at H
        have Y6:decide (((rd_T54 a1 (b5)).f3)<((rd_T54 a1 a0).f2))=true:=decide_eq_true D0;clear D0;obtain rfl:=Option.some.inj H;have mr:=a5.out;have ms:=b9.out;obtain⟨gl,gm,gn,gp,gq⟩:=zd5 a2;obtain⟨gr,gs,gu,gv,gw⟩:=zn5 a2;have d0:0≤((b5):Int):=za;have d1:(b5)<(a1.length:Int):=za;obtain⟨d2,d4,a7,a8,a9,b0,b1,b2,b3⟩:=at_T54 d5.out (b5) d0 d1;obtain rfl:d6=d2:=(by injection d4);replace a7:=zx HB a7;replace a8:=zx HB a8;replace a9:=zx HB a9;replace b0:=zx HB b0;replace b1:=zx HB b1;replace b2:=zx HB b2;replace b3:=zx HB b3;replace d0:=eq_true d0;replace d1:=eq_true d1
        go_wp2_with (first|((with_reducible refine gate_dst (N:=5) rfl ?_);(try(refine gate_guard (by rfl) ?_;dsimp only));refine zbx 5 #[.int .i64 0,.int .i64 0,.int .i64 0,.int .i64 0,.int .i64 0,.int .i64 0,.bool false] 54 ?_;intro d8 hg om hbox hb;have c0:=zA hbox;have d9:=zgs hg (zs2 HB a4 b4);have d3:=zgs hg (zs2 HB a4 b4);have a6:=zne hg a2;have b6:=znf hg a2;have b7:=zne hg a3;have b8:=znf hg a3;replace a2:=zb a2 hb;replace a3:=zb a3 hb;replace HB:=zE (zs2 HB a4 b4) hb;clear hb hbox hg;have mt:=b6.out;have mu:=a6.out;have mv:=b8.out;have mw:=b7.out;obtain⟨gx,gy,gz,ha,hc,hd,hf⟩:=zd7 c0;obtain⟨hh,hj,hl,hm,hn,ho,hp⟩:=zn7 c0;obtain⟨hq,hr,hs,ht,hu,hv,hw⟩:=zd7 a3;obtain⟨hx,hy,hz,ia,ib,ic,ie⟩:=zn7 a3)|(go_at_call 31;(with_reducible refine(impl_dist.calls ((rd_T54 a1 (b5)).f0) ((rd_T54 a1 a0).f0) k6 _ Y2.out).mono ?_);rintro e w' ⟨rfl,⟨nd,rfl⟩⟩)|(go_at_call 31;(with_reducible refine(impl_dist.calls ((rd_T54 a1 (b5)).f1) ((rd_T54 a1 a0).f1) m2 _ dg.out).mono ?_);rintro e w' ⟨rfl,⟨nd,rfl⟩⟩))
        go_ret;exact⟨by first|rfl|(simp[errW_none,errW_some]<;>rfl)|(simp only[←d7];first|rfl|(simp[errW_none,errW_some]<;>rfl))|(simp[*,errW_none,errW_some]<;>rfl),zs3 HB a4 b4 d3⟩
       rw[if_neg D0]at H;have Y6:decide (((rd_T54 a1 (b5)).f3)<((rd_T54 a1 a0).f2))=false:=decide_eq_false D0;clear D0;have H':=zA H;clear H;have mz:=a5.out;have na:=b9.out;obtain⟨ig,ii,ij,ik,il⟩:=zd5 a2;obtain⟨im,io,ip,iq,ir⟩:=zn5 a2;have d0:0≤((b5):Int):=za;have d1:(b5)<(a1.length:Int):=za;obtain⟨d2,d4,a7,a8,a9,b0,b1,b2,b3⟩:=at_T54 d5.out (b5) d0 d1;obtain rfl:d6=d2:=(by injection d4);replace a7:=zx HB a7;replace a8:=zx HB a8;replace a9:=zx HB a9;replace b0:=zx HB b0;replace b1:=zx HB b1;replace b2:=zx HB b2;replace b3:=zx HB b3;replace d0:=eq_true d0;replace d1:=eq_true d1
       go_wp2_with (first|((with_reducible refine gate_dst (N:=5) rfl ?_);(try(refine gate_guard (by rfl) ?_;dsimp only));refine zbx 5 #[.int .i64 0,.int .i64 0,.int .i64 0,.int .i64 0,.int .i64 0,.int .i64 0,.bool false] 54 ?_;intro d8 hg oo hbox hb;have c0:=zA hbox;have d9:=zgs hg (zs2 HB a4 b4);have d3:=zgs hg (zs2 HB a4 b4);have a6:=zne hg a2;have b6:=znf hg a2;have b7:=zne hg a3;have b8:=znf hg a3;replace a2:=zb a2 hb;replace a3:=zb a3 hb;replace HB:=zE (zs2 HB a4 b4) hb;clear hb hbox hg;have nb:=b6.out;have nc:=a6.out;have nf:=b8.out;have ng:=b7.out;obtain⟨iu,iv,iw,ix,iy,iz,ja⟩:=zd7 c0;obtain⟨jb,jc,jd,je,jf,jg,jh⟩:=zn7 c0;obtain⟨Y7,Y8,Y9,Z0,Z1,Z2,Z3⟩:=zd7 a3;obtain⟨Z4,Z5,Z6,Z7,Z8,Z9,aa⟩:=zn7 a3)|(go_at_call 31;(with_reducible refine(impl_dist.calls ((rd_T54 a1 (b5)).f0) ((rd_T54 a1 a0).f0) k6 _ Y2.out).mono ?_);rintro e w' ⟨rfl,⟨nd,rfl⟩⟩)|(go_at_call 31;(with_reducible refine(impl_dist.calls ((rd_T54 a1 (b5)).f1) ((rd_T54 a1 a0).f1) m2 _ dg.out).mono ?_);rintro e w' ⟨rfl,⟨nd,rfl⟩⟩))
       go_roundg B1
       case measure=>have:=o0.out;have:=o1.out;have:=n5.out;omega
       case rel=>exact⟨(wrap64 (a0+1)),zi,H',⟨by have:=o0.out;have:=o1.out;have:=n5.out;omega⟩,⟨zpf a2 a6⟩,⟨zs3 HB a4 b4 d3⟩⟩
end Go.Proofs.Ytkecbmgdmkmfgaa.QFnFlyNext
