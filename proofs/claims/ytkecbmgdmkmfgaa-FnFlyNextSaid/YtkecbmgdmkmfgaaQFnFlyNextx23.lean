/- The walk of what the law FnFlyNext reaches: laid by a program of this session (ownprint.py). -/
import Derived.Test.YtkecbmgdmkmfgaaQFnFlyNextx0
import Derived.Test.YtkecbmgdmkmfgaaQFnFlyNextx18
import Derived.Test.YtkecbmgdmkmfgaaQFnFlyNextx19
import Derived.Test.YtkecbmgdmkmfgaaQFnFlyNextx20
namespace Go.Proofs.Ytkecbmgdmkmfgaa.QFnFlyNext
open Go.RowKit Go.Proofs.YtkecbmgdmkmfgaaW.PrintWords Go.Proofs.YtkecbmgdmkmfgaaW.PrintLast Go.Proofs.YtkecbmgdmkmfgaaW.PrintMore Go.Proofs.Ytkecbmgdmkmfgaa.Z
attribute [local go_sem] max2_int min2_int max_two min_two max_three min_three max_four min_four zdn   -- for this text's walks alone
set_option linter.unusedVariables false
set_option linter.unusedSimpArgs false
mutual
def impl_FlyLawful.j0:Nat→List Int→Bool→Int→Int→List (S54)→Int→Int→Option (Bool)
 |0,_,_,_,_,_,_,_=>none
 |k+1,x1,x21,a0,a1,a2,a3,a4=>if x21=true then(some false)else(impl_FlyLawful.l0 k x1 x1 (x1.length:Int) 0 a0 a1 a2 a3 a4)
def impl_FlyLawful.l0:Nat→List Int→List Int→Int→Int→Int→Int→List (S54)→Int→Int→Option (Bool)
 |0,_,_,_,_,_,_,_,_,_=>none
 |k+1,x1,x22,x23,x24,a1,a2,a0,a3,a4=>if x24<x23 then(if 0≤x24 then(if x24<(x22.length:Int)then((impl_FlyPath_bound.f a1 a2 a0 a3 a4 x24).bind fun a5=>((impl_within.f (rd x22 x24) a5.1 a5.2).bind fun a6=>(if a6=true then(if x24>0 then(if 0≤(wrap64 (x24-1))then(if(wrap64 (x24-1))<(x1.length:Int)then(if(rd x22 x24)<(wrap64 ((rd x1 (wrap64 (x24-1)))+a1))then(some false)else(if(rd x22 x24)>(wrap64 ((rd x1 (wrap64 (x24-1)))+a2))then(if(wrap64 (x24-1))<(a0.length:Int)then(if((rd_T54 a0 (wrap64 (x24-1))).f6=true)then(impl_FlyLawful.l0 k x1 x22 x23 (wrap64 (x24+1)) a1 a2 a0 a3 a4)else(some false))else(none))else(impl_FlyLawful.l0 k x1 x22 x23 (wrap64 (x24+1)) a1 a2 a0 a3 a4)))else(none))else(none))else(impl_FlyLawful.l0 k x1 x22 x23 (wrap64 (x24+1)) a1 a2 a0 a3 a4))else(some false))))else(none))else(none))else(some true)
end
def impl_FlyLawful.f (k:Nat) (a1:Int) (a2:Int) (a0:List (S54)) (a3:Int) (a4:Int) (l1:List Int):Option (Bool):=(impl_FlyPathOk.f k a1 a2 a0 a3 a4).bind fun a5=>(if a5=true then(impl_FlyLawful.j0 k l1 ((l1.length:Int) !=(wrap64 ((a0.length:Int)+1))) a1 a2 a0 a3 a4)else(impl_FlyLawful.j0 k l1 true a1 a2 a0 a3 a4))
set_option maxHeartbeats 8000000 in
set_option maxRecDepth 100000 in
theorem impl_FlyLawful.calls (k:Nat) (a4:Int) (a5:Int) (d5:Option Addr) (d6:Nat) (a3:List (S54)) (a9:Int) (b0:Int) (A1:Option Addr) (c1:Nat) (l1:List Int) (r:Bool) (w:World) (hr0_2:Kd.C k54 w d5 a3.length a3) (hc0_2:a3.length≤d6) (hr1:Kd.C (Kd.int .i64) w A1 l1.length l1) (hc1:l1.length≤c1) (h:impl_FlyLawful.f k a4 a5 a3 a9 b0 l1=some r):
 Calls Try.prog 8 #[.agg #[.int .i64 a4,.int .i64 a5,.slice d5 a3.length d6,.int .i64 a9,.int .i64 b0],.slice A1 l1.length c1] w fun e w'=>e= .returned (.bool r)∧Below w.heap.size w w':=by
 have x2:=Try.underlying27;have b6:=zA hr0_2;have d7:=zA hc0_2;clear hr0_2 hc0_2;have h6:=zA hr1;have x5:=zA hc1;clear hr1 hc1;have HB:=zA (Below.refl w.heap.size w);have H:=h;clear h;unfold impl_FlyLawful.f at H;have w0:=zA H;clear H
 go_enter Try.func8,Try.ntmps8
 go_upto_region 1 with(first|((with_reducible refine gate_dst (N:=2) rfl ?_);(try(refine gate_guard (by rfl) ?_;dsimp only));refine zbx 2 #[.int .i64 a4,.int .i64 a5,.slice d5 a3.length d6,.int .i64 a9,.int .i64 b0] 27 ?_;intro h7 hg w4 hbox hb;have a1:=zA hbox;have w3:=zgs hg (zs0 HB);have a6:=zgs hg (zs0 HB);replace HB:=zE (zs0 HB) hb;clear hb hbox hg))
 (try simp only[Act.put,List.setIfInBounds_toArray,List.set_cons_zero,List.set_cons_succ])
 go_cut [21] (fun x3 wc=> ∃(kq:Nat) (e4:Bool),x3= .bool e4∧Aside0 (impl_FlyLawful.j0 kq l1 e4 a4 a5 a3 a9 b0=some r)∧Aside0 (kq≤k)∧Aside0 (wc.heap[h7]?=some (.cells #[.int .i64 a4,.int .i64 a5,(.slice d5 a3.length d6),.int .i64 a9,.int .i64 b0] 27 (0,0)))∧Aside0 (Below w.heap.size w wc))
 case first=>
  have H:=w0.out;clear w0;replace H:=zbd H;obtain⟨w1,A5,H⟩:=H
  by_cases c6:w1=true
  rotate_left
  ·replace c6:=Bool.eq_false_iff.mpr c6
   subst c6;rw[if_neg zfn]at H;have H':=zA H;clear H;obtain⟨e5,e6,e7,e8,e9⟩:=zd5 a1;obtain⟨f0,f1,f2,f3,f4⟩:=zn5 a1
   go_wp2_with (first|((with_reducible refine gate_callee (f:=15) rfl ?_);refine zgl (N:=some 11) Try.func15 #[.agg #[.int .i64 a4,.int .i64 a5,.slice d5 a3.length d6,.int .i64 a9,.int .i64 b0]] ?_;(with_reducible refine(impl_FlyPathOk.calls k a4 a5 _ _ a3 a9 b0 false _ ?side1 ?side2 A5.out).mono ?_);(case side1=>exact zC b6 HB);(case side2=>exact d7.out);rintro e x6 ⟨rfl,hb⟩;refine⟨_,rfl,?_⟩;replace a1:=zb a1 hb;replace HB:=zE (zs1 HB a6) hb;(try clear hb)))
   go_meet
   case rel=>exact⟨_,(true),zi,H',⟨by first|omega|exact Nat.le_refl _⟩,⟨zh a1⟩,⟨zs1 HB a6⟩⟩
  subst c6;rw[if_pos rfl]at H;have H':=zA H;clear H;obtain⟨f5,f7,f8,f9,g0⟩:=zd5 a1;obtain⟨g1,g2,g3,g4,g5⟩:=zn5 a1
  go_wp2_with (first|((with_reducible refine gate_callee (f:=15) rfl ?_);refine zgl (N:=some 11) Try.func15 #[.agg #[.int .i64 a4,.int .i64 a5,.slice d5 a3.length d6,.int .i64 a9,.int .i64 b0]] ?_;(with_reducible refine(impl_FlyPathOk.calls k a4 a5 _ _ a3 a9 b0 true _ ?side1 ?side2 A5.out).mono ?_);(case side1=>exact zC b6 HB);(case side2=>exact d7.out);rintro e w8 ⟨rfl,hb⟩;refine⟨_,rfl,?_⟩;replace a1:=zb a1 hb;replace HB:=zE (zs1 HB a6) hb;(try clear hb);obtain⟨g6,g7,g8,g9,h0⟩:=zd5 a1;obtain⟨h1,h2,h3,h4,h5⟩:=zn5 a1))
  go_meet
  case rel=>exact⟨_,(((l1.length:Int) !=(wrap64 ((a3.length:Int)+1)))),zi,H',⟨by first|omega|exact Nat.le_refl _⟩,⟨zh a1⟩,⟨zs1 HB a6⟩⟩
 case rest=>
  clear w0
  obtain⟨kq,e4,rfl,HA,i2,a1,HB⟩:=hcut
  cases kq with
  |zero=>exact absurd HA.out (by simp[impl_FlyLawful.j0])
  |succ w5=>
   have H:=HA.out;clear HA;simp only[impl_FlyLawful.j0]at H
   by_cases i8:e4=true
   ·subst i8
    rw[if_pos rfl]at H;obtain rfl:=Option.some.inj H
    go_wp2
    go_ret;exact⟨ze,zs1 HB a6⟩
   replace i8:=Bool.eq_false_iff.mpr i8;subst i8;rw[if_neg zfn]at H;have H':=zA H;clear H
   go_wp2
   go_loopg [24] w5 (fun kq x4 w'=> ∃(a0:Int),x4= .int .i64 a0∧Aside0 (impl_FlyLawful.l0 kq l1 l1 (l1.length:Int) a0 a4 a5 a3 a9 b0=some r)∧Aside0 (kq≤w5)∧Aside0 (w'.heap[h7]?=some (.cells #[.int .i64 a4,.int .i64 a5,(.slice d5 a3.length d6),.int .i64 a9,.int .i64 b0] 27 (0,0)))∧Aside0 (Below w.heap.size w w'))
   case atStart=>exact⟨(0),zi,H',⟨Nat.le_refl _⟩,⟨zh a1⟩,⟨zs1 HB a6⟩⟩
   case round=>
    clear H'
    try clear i8
    obtain⟨a0,rfl,HA,i3,a1,HB⟩:=hrel
    cases gk with
    |zero=>exact absurd HA.out (by simp[impl_FlyLawful.l0])
    |succ k2=>
     have H:=HA.out;clear HA;simp only[impl_FlyLawful.l0]at H
     by_cases i4:a0<(l1.length:Int)
     rotate_left
     ·rw[if_neg i4]at H
      have i9:decide (a0<(l1.length:Int))=false:=decide_eq_false i4;clear i4;obtain rfl:=Option.some.inj H
      go_wp2
      go_ret;exact⟨ze,zs1 HB a6⟩
     rw[if_pos i4]at H;have i9:decide (a0<(l1.length:Int))=true:=decide_eq_true i4;clear i4;replace H:=zif H;obtain⟨w6,H⟩:=H
     by_cases j9:a0<(l1.length:Int)
     rotate_left
     ·rw[if_neg j9]at H
      exact absurd H (by simp)
     rw[if_pos j9]at H;have w7:decide (a0<(l1.length:Int))=true:=decide_eq_true j9;clear j9;replace H:=Option.bind_eq_some_iff.mp H;obtain⟨⟨b3,b4⟩,j1,H⟩:=H;replace H:((impl_within.f (rd l1 a0) b3 b4).bind fun h8=>(if h8=true then(if a0>0 then(if 0≤(wrap64 (a0-1))then(if(wrap64 (a0-1))<(l1.length:Int)then(if(rd l1 a0)<(wrap64 ((rd l1 (wrap64 (a0-1)))+a4))then(some false)else(if(rd l1 a0)>(wrap64 ((rd l1 (wrap64 (a0-1)))+a5))then(if(wrap64 (a0-1))<(a3.length:Int)then(if((rd_T54 a3 (wrap64 (a0-1))).f6=true)then(impl_FlyLawful.l0 k2 l1 l1 (l1.length:Int) (wrap64 (a0+1)) a4 a5 a3 a9 b0)else(some false))else(none))else(impl_FlyLawful.l0 k2 l1 l1 (l1.length:Int) (wrap64 (a0+1)) a4 a5 a3 a9 b0)))else(none))else(none))else(impl_FlyLawful.l0 k2 l1 l1 (l1.length:Int) (wrap64 (a0+1)) a4 a5 a3 a9 b0))else(some false)))=some r:=H;have h9:=zA j1;clear j1;replace H:=zbd H;obtain⟨h8,i0,H⟩:=H
     by_cases k0:h8=true
     rotate_left
     ·replace k0:=Bool.eq_false_iff.mpr k0
      subst k0;rw[if_neg zfn]at H;obtain rfl:=Option.some.inj H;have b1:0≤(a0:Int):=za;have b2:a0<(l1.length:Int):=za;obtain⟨b9,d8,a2⟩:=Kd.at_int h6.out a0 b1 b2;cases d8;replace a2:=zx HB a2;replace b1:=eq_true b1;replace b2:=eq_true b2;obtain⟨k1,k3,k4,k5,k6⟩:=zd5 a1;obtain⟨k7,k8,k9,l4,l5⟩:=zn5 a1
      go_wp2_with (first|((with_reducible refine gate_callee (f:=20) rfl ?_);refine zgl (N:=some 32) Try.func20 #[.agg #[.int .i64 a4,.int .i64 a5,.slice d5 a3.length d6,.int .i64 a9,.int .i64 b0],.int .i64 a0] ?_;(with_reducible refine(impl_FlyPath_bound.calls a4 a5 _ _ a3 a9 b0 a0 b3 b4 _ ?side1 ?side2 h9.out).mono ?_);(case side1=>exact zC b6 HB);(case side2=>exact d7.out);rintro e x7 ⟨rfl,hb⟩;refine⟨_,rfl,?_⟩;replace a1:=zb a1 hb;replace HB:=zE (zs1 HB a6) hb;(try clear hb))|((with_reducible refine gate_callee (f:=21) rfl ?_);refine zgl (N:=some 38) Try.func21 #[.int .i64 (rd l1 a0),.int .i64 b3,.int .i64 b4] ?_;(with_reducible refine(impl_within.calls (rd l1 a0) b3 b4 false _ i0.out).mono ?_);rintro e w' ⟨rfl,⟨nd,rfl⟩⟩;refine⟨_,rfl,?_⟩))
      go_ret;exact⟨ze,zs1 HB a6⟩
     subst k0;rw[if_pos rfl]at H
     by_cases i5:a0>0
     rotate_left
     ·rw[if_neg i5]at H
      have j5:decide (0<a0)=false:=decide_eq_false i5;clear i5;have H':=zA H;clear H;have b1:0≤(a0:Int):=za;have b2:a0<(l1.length:Int):=za;obtain⟨b9,d8,a2⟩:=Kd.at_int h6.out a0 b1 b2;cases d8;replace a2:=zx HB a2;replace b1:=eq_true b1;replace b2:=eq_true b2;obtain⟨l6,l7,l8,l9,m0⟩:=zd5 a1;obtain⟨m1,m2,m3,m4,m5⟩:=zn5 a1
      go_wp2_with (first|((with_reducible refine gate_callee (f:=20) rfl ?_);refine zgl (N:=some 32) Try.func20 #[.agg #[.int .i64 a4,.int .i64 a5,.slice d5 a3.length d6,.int .i64 a9,.int .i64 b0],.int .i64 a0] ?_;(with_reducible refine(impl_FlyPath_bound.calls a4 a5 _ _ a3 a9 b0 a0 b3 b4 _ ?side1 ?side2 h9.out).mono ?_);(case side1=>exact zC b6 HB);(case side2=>exact d7.out);rintro e x8 ⟨rfl,hb⟩;refine⟨_,rfl,?_⟩;replace a1:=zb a1 hb;replace HB:=zE (zs1 HB a6) hb;(try clear hb))|((with_reducible refine gate_callee (f:=21) rfl ?_);refine zgl (N:=some 38) Try.func21 #[.int .i64 (rd l1 a0),.int .i64 b3,.int .i64 b4] ?_;(with_reducible refine(impl_within.calls (rd l1 a0) b3 b4 true _ i0.out).mono ?_);rintro e w' ⟨rfl,⟨nd,rfl⟩⟩;refine⟨_,rfl,?_⟩))
      go_roundg k2
      case measure=>have:=i2.out;have:=i3.out;omega
      case rel=>exact⟨(wrap64 (a0+1)),zi,H',⟨by have:=i2.out;have:=i3.out;omega⟩,⟨zh a1⟩,⟨zs1 HB a6⟩⟩
     rw[if_pos i5]at H;have j5:decide (0<a0)=true:=decide_eq_true i5;clear i5;obtain⟨a8,d9⟩: ∃j_:Int,(wrap64 (a0-1))=j_:=⟨_,rfl⟩
     first|rw[d9]at H|simp only[d9]at H
     (try rw[d9]at h9);(try rw[d9]at i0);have w2:(IntKind.i64.wrap (a0-1))=a8:=(i64_w _).trans d9;replace H:=zif H;obtain⟨w9,H⟩:=H
     by_cases m6:(a8)<(l1.length:Int)
     rotate_left
     ·rw[if_neg m6]at H
      exact absurd H (by simp)
     rw[if_pos m6]at H;have x0:decide ((a8)<(l1.length:Int))=true:=decide_eq_true m6;clear m6
     by_cases i6:(rd l1 a0)<(wrap64 ((rd l1 (a8))+a4))
     ·rw[if_pos i6]at H
      have j6:decide ((rd l1 a0)<(wrap64 ((rd l1 (a8))+a4)))=true:=decide_eq_true i6;clear i6;obtain rfl:=Option.some.inj H;have b1:0≤(a0:Int):=za;have b2:a0<(l1.length:Int):=za;obtain⟨b9,d8,a2⟩:=Kd.at_int h6.out a0 b1 b2;cases d8;replace a2:=zx HB a2;replace b1:=eq_true b1;replace b2:=eq_true b2;obtain⟨m7,m8,m9,n0,n1⟩:=zd5 a1;obtain⟨n2,n3,n4,n5,n6⟩:=zn5 a1
      go_wp2_with (first|((with_reducible refine gate_callee (f:=20) rfl ?_);refine zgl (N:=some 32) Try.func20 #[.agg #[.int .i64 a4,.int .i64 a5,.slice d5 a3.length d6,.int .i64 a9,.int .i64 b0],.int .i64 a0] ?_;(with_reducible refine(impl_FlyPath_bound.calls a4 a5 _ _ a3 a9 b0 a0 b3 b4 _ ?side1 ?side2 h9.out).mono ?_);(case side1=>exact zC b6 HB);(case side2=>exact d7.out);rintro e x9 ⟨rfl,hb⟩;refine⟨_,rfl,?_⟩;replace a1:=zb a1 hb;replace HB:=zE (zs1 HB a6) hb;(try clear hb))|((with_reducible refine gate_callee (f:=21) rfl ?_);refine zgl (N:=some 38) Try.func21 #[.int .i64 (rd l1 a0),.int .i64 b3,.int .i64 b4] ?_;(with_reducible refine(impl_within.calls (rd l1 a0) b3 b4 true _ i0.out).mono ?_);rintro e w' ⟨rfl,⟨nd,rfl⟩⟩;refine⟨_,rfl,?_⟩;have b7:0≤((a8):Int):=za;have b8:(a8)<(l1.length:Int):=za;obtain⟨e0,e1,a7⟩:=Kd.at_int h6.out (a8) b7 b8;obtain rfl:b9=e0:=(by injection e1);replace a7:=zx HB a7;replace b7:=eq_true b7;replace b8:=eq_true b8;obtain⟨n7,n8,n9,o0,o1⟩:=zd5 a1;obtain⟨o2,o3,o4,o5,o6⟩:=zn5 a1))
      go_ret;exact⟨by first|rfl|(simp[errW_none,errW_some]<;>rfl)|(simp only[←d9];first|rfl|(simp[errW_none,errW_some]<;>rfl))|(simp[*,errW_none,errW_some]<;>rfl),zs1 HB a6⟩
     rw[if_neg i6]at H;have j6:decide ((rd l1 a0)<(wrap64 ((rd l1 (a8))+a4)))=false:=decide_eq_false i6;clear i6
     by_cases i7:(rd l1 a0)>(wrap64 ((rd l1 (a8))+a5))
     rotate_left
     ·rw[if_neg i7]at H
      have j7:decide ((wrap64 ((rd l1 (a8))+a5))<(rd l1 a0))=false:=decide_eq_false i7;clear i7;have H':=zA H;clear H;have b1:0≤(a0:Int):=za;have b2:a0<(l1.length:Int):=za;obtain⟨b9,d8,a2⟩:=Kd.at_int h6.out a0 b1 b2;cases d8;replace a2:=zx HB a2;replace b1:=eq_true b1;replace b2:=eq_true b2;obtain⟨o7,o8,o9,p0,p1⟩:=zd5 a1;obtain⟨p3,p4,p5,p7,p8⟩:=zn5 a1
      go_wp2_with (first|((with_reducible refine gate_callee (f:=20) rfl ?_);refine zgl (N:=some 32) Try.func20 #[.agg #[.int .i64 a4,.int .i64 a5,.slice d5 a3.length d6,.int .i64 a9,.int .i64 b0],.int .i64 a0] ?_;(with_reducible refine(impl_FlyPath_bound.calls a4 a5 _ _ a3 a9 b0 a0 b3 b4 _ ?side1 ?side2 h9.out).mono ?_);(case side1=>exact zC b6 HB);(case side2=>exact d7.out);rintro e y0 ⟨rfl,hb⟩;refine⟨_,rfl,?_⟩;replace a1:=zb a1 hb;replace HB:=zE (zs1 HB a6) hb;(try clear hb))|((with_reducible refine gate_callee (f:=21) rfl ?_);refine zgl (N:=some 38) Try.func21 #[.int .i64 (rd l1 a0),.int .i64 b3,.int .i64 b4] ?_;(with_reducible refine(impl_within.calls (rd l1 a0) b3 b4 true _ i0.out).mono ?_);rintro e w' ⟨rfl,⟨nd,rfl⟩⟩;refine⟨_,rfl,?_⟩;have b7:0≤((a8):Int):=za;have b8:(a8)<(l1.length:Int):=za;obtain⟨e0,e1,a7⟩:=Kd.at_int h6.out (a8) b7 b8;obtain rfl:b9=e0:=(by injection e1);replace a7:=zx HB a7;replace b7:=eq_true b7;replace b8:=eq_true b8;obtain⟨p9,q0,q1,q2,q3⟩:=zd5 a1;obtain⟨q4,q5,q6,q7,q8⟩:=zn5 a1))
      go_roundg k2
      case measure=>have:=i2.out;have:=i3.out;omega
      case rel=>exact⟨(wrap64 (a0+1)),zi,H',⟨by have:=i2.out;have:=i3.out;omega⟩,⟨zh a1⟩,⟨zs1 HB a6⟩⟩
     rw[if_pos i7]at H;have j7:decide ((wrap64 ((rd l1 (a8))+a5))<(rd l1 a0))=true:=decide_eq_true i7;clear i7;replace H:=zif H;obtain⟨x1,H⟩:=H;obtain⟨bq29,hbq29⟩: ∃b_:Bool,b_=((rd_T54 a3 (a8)).f6):=⟨_,rfl⟩
     replace H:(if(bq29=true)then(impl_FlyLawful.l0 k2 l1 l1 (l1.length:Int) (wrap64 (a0+1)) a4 a5 a3 a9 b0)else(some false))=some r:=by rw[←hbq29]at H;exact H
     have Nbq29:=zA hbq29;clear hbq29
     by_cases q9:(bq29=true)
     rotate_left
     ·replace q9:=Bool.eq_false_iff.mpr q9
      subst q9;rw[if_neg zfn]at H;obtain rfl:=Option.some.inj H;have b1:0≤(a0:Int):=za;have b2:a0<(l1.length:Int):=za;obtain⟨b9,d8,a2⟩:=Kd.at_int h6.out a0 b1 b2;cases d8;replace a2:=zx HB a2;replace b1:=eq_true b1;replace b2:=eq_true b2;obtain⟨r0,r1,r2,r3,r4⟩:=zd5 a1;obtain⟨r5,r6,r7,r8,r9⟩:=zn5 a1
      go_wp2_with (first|((with_reducible refine gate_callee (f:=20) rfl ?_);refine zgl (N:=some 32) Try.func20 #[.agg #[.int .i64 a4,.int .i64 a5,.slice d5 a3.length d6,.int .i64 a9,.int .i64 b0],.int .i64 a0] ?_;(with_reducible refine(impl_FlyPath_bound.calls a4 a5 _ _ a3 a9 b0 a0 b3 b4 _ ?side1 ?side2 h9.out).mono ?_);(case side1=>exact zC b6 HB);(case side2=>exact d7.out);rintro e y1 ⟨rfl,hb⟩;refine⟨_,rfl,?_⟩;replace a1:=zb a1 hb;replace HB:=zE (zs1 HB a6) hb;(try clear hb))|((with_reducible refine gate_callee (f:=21) rfl ?_);refine zgl (N:=some 38) Try.func21 #[.int .i64 (rd l1 a0),.int .i64 b3,.int .i64 b4] ?_;(with_reducible refine(impl_within.calls (rd l1 a0) b3 b4 true _ i0.out).mono ?_);rintro e w' ⟨rfl,⟨nd,rfl⟩⟩;refine⟨_,rfl,?_⟩;have b7:0≤((a8):Int):=za;have b8:(a8)<(l1.length:Int):=za;obtain⟨e0,e1,a7⟩:=Kd.at_int h6.out (a8) b7 b8;obtain rfl:b9=e0:=(by injection e1);replace a7:=zx HB a7;replace b7:=eq_true b7;replace b8:=eq_true b8;obtain⟨s0,s1,s2,s3,s4⟩:=zd5 a1;obtain⟨s5,s6,s7,s8,s9⟩:=zn5 a1;have e2:0≤((a8):Int):=za;have e3:(a8)<(a3.length:Int):=za;obtain⟨j8,i1,c0,d0,d1,d2,d3,d4,b5⟩:=at_T54 b6.out (a8) e2 e3;(try rw[←Nbq29.out]at b5);cases i1;replace c0:=zx HB c0;replace d0:=zx HB d0;replace d1:=zx HB d1;replace d2:=zx HB d2;replace d3:=zx HB d3;replace d4:=zx HB d4;replace b5:=zx HB b5;replace e2:=eq_true e2;replace e3:=eq_true e3))
      go_ret;exact⟨by first|rfl|(simp[errW_none,errW_some]<;>rfl)|(simp only[←d9];first|rfl|(simp[errW_none,errW_some]<;>rfl))|(simp[*,errW_none,errW_some]<;>rfl),zs1 HB a6⟩
     subst q9;rw[if_pos rfl]at H;have H':=zA H;clear H;have b1:0≤(a0:Int):=za;have b2:a0<(l1.length:Int):=za;obtain⟨b9,d8,a2⟩:=Kd.at_int h6.out a0 b1 b2;cases d8;replace a2:=zx HB a2;replace b1:=eq_true b1;replace b2:=eq_true b2;obtain⟨t0,t1,t2,t3,t4⟩:=zd5 a1;obtain⟨t5,t6,t7,t8,t9⟩:=zn5 a1
     go_wp2_with (first|((with_reducible refine gate_callee (f:=20) rfl ?_);refine zgl (N:=some 32) Try.func20 #[.agg #[.int .i64 a4,.int .i64 a5,.slice d5 a3.length d6,.int .i64 a9,.int .i64 b0],.int .i64 a0] ?_;(with_reducible refine(impl_FlyPath_bound.calls a4 a5 _ _ a3 a9 b0 a0 b3 b4 _ ?side1 ?side2 h9.out).mono ?_);(case side1=>exact zC b6 HB);(case side2=>exact d7.out);rintro e y2 ⟨rfl,hb⟩;refine⟨_,rfl,?_⟩;replace a1:=zb a1 hb;replace HB:=zE (zs1 HB a6) hb;(try clear hb))|((with_reducible refine gate_callee (f:=21) rfl ?_);refine zgl (N:=some 38) Try.func21 #[.int .i64 (rd l1 a0),.int .i64 b3,.int .i64 b4] ?_;(with_reducible refine(impl_within.calls (rd l1 a0) b3 b4 true _ i0.out).mono ?_);rintro e w' ⟨rfl,⟨nd,rfl⟩⟩;refine⟨_,rfl,?_⟩;have b7:0≤((a8):Int):=za;have b8:(a8)<(l1.length:Int):=za;obtain⟨e0,e1,a7⟩:=Kd.at_int h6.out (a8) b7 b8;obtain rfl:b9=e0:=(by injection e1);replace a7:=zx HB a7;replace b7:=eq_true b7;replace b8:=eq_true b8;obtain⟨v0,v1,v2,v3,v4⟩:=zd5 a1;obtain⟨v5,v6,v7,v8,v9⟩:=zn5 a1;have e2:0≤((a8):Int):=za;have e3:(a8)<(a3.length:Int):=za;obtain⟨j8,i1,c0,d0,d1,d2,d3,d4,b5⟩:=at_T54 b6.out (a8) e2 e3;(try rw[←Nbq29.out]at b5);cases i1;replace c0:=zx HB c0;replace d0:=zx HB d0;replace d1:=zx HB d1;replace d2:=zx HB d2;replace d3:=zx HB d3;replace d4:=zx HB d4;replace b5:=zx HB b5;replace e2:=eq_true e2;replace e3:=eq_true e3))
     go_roundg k2
     case measure=>have:=i2.out;have:=i3.out;omega
     case rel=>exact⟨(wrap64 (a0+1)),zi,H',⟨by have:=i2.out;have:=i3.out;omega⟩,⟨zh a1⟩,⟨zs1 HB a6⟩⟩
end Go.Proofs.Ytkecbmgdmkmfgaa.QFnFlyNext
