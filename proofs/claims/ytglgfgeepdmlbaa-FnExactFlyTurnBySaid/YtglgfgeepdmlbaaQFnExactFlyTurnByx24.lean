/- The walk of what the law FnExactFlyTurnBy reaches: laid by a program of this session (ownprint.py). -/
import Derived.Test.YtglgfgeepdmlbaaQFnExactFlyTurnByx0
import Derived.Test.YtglgfgeepdmlbaaQFnExactFlyTurnByx15
import Derived.Test.YtglgfgeepdmlbaaQFnExactFlyTurnByx16
import Derived.Test.YtglgfgeepdmlbaaQFnExactFlyTurnByx19
import Derived.Test.YtglgfgeepdmlbaaQFnExactFlyTurnByx23
namespace Go.Proofs.Ytglgfgeepdmlbaa.QFnExactFlyTurnBy
open Go.RowKit Go.Proofs.YtglgfgeepdmlbaaW.PrintWords Go.Proofs.YtglgfgeepdmlbaaW.PrintLast Go.Proofs.YtglgfgeepdmlbaaW.PrintMore Go.Proofs.Ytglgfgeepdmlbaa.Z
attribute [local go_sem] max2_int min2_int max_two min_two max_three min_three max_four min_four zdn   -- for this text's walks alone
set_option linter.unusedVariables false
set_option linter.unusedSimpArgs false
mutual
def impl_FlyTurnBy.j0:Nat→Int→Bool→Int→Int→List (S53)→Int→Int→Int→Int→List (S53)→Int→Int→Option (Int)
 |0,_,_,_,_,_,_,_,_,_,_,_,_=>none
 |k+1,x2,x20,a0,a1,a2,a3,a4,a5,a6,a7,a8,a9=>if x20=true then(some (-1))else((impl_FlyTube.f k a0 a1 a2 a3 a4).bind fun b0=>(impl_FlyTurnBy.l0 k b0 (-1) x2 a0 a1 a2 a3 a4 a5 a6 a7 a8 a9))
def impl_FlyTurnBy.l0:Nat→List (S45)→Int→Int→Int→Int→List (S53)→Int→Int→Int→Int→List (S53)→Int→Int→Option (Int)
 |0,_,_,_,_,_,_,_,_,_,_,_,_,_=>none
 |k+1,x7,x8,x9,a0,a1,a2,a3,a4,a5,a6,a7,a8,a9=>if x9≤10000 then(impl_FlyTurnBy.l1 k x7 x8 x9 false x7 (x7.length:Int) 0 a0 a1 a2 a3 a4 a5 a6 a7 a8 a9)else(some x8)
def impl_FlyTurnBy.l1:Nat→List (S45)→Int→Int→Bool→List (S45)→Int→Int→Int→Int→List (S53)→Int→Int→Int→Int→List (S53)→Int→Int→Option (Int)
 |0,_,_,_,_,_,_,_,_,_,_,_,_,_,_,_,_,_=>none
 |k+1,x7,x8,x9,x10,x28,x29,x30,a0,a1,a2,a3,a4,a5,a6,a7,a8,a9=>if x30<x29 then(if 0≤x30 then(if x30<(x28.length:Int)then(if((rd_T45 x28 x30).f4)≤x9 then(impl_FlyTurnBy.j3 k x7 x8 x9 x10 x30 x28 x29 x30 (decide (x9≤((rd_T45 x28 x30).f5))) a0 a1 a2 a3 a4 a5 a6 a7 a8 a9)else(impl_FlyTurnBy.j3 k x7 x8 x9 x10 x30 x28 x29 x30 false a0 a1 a2 a3 a4 a5 a6 a7 a8 a9))else(none))else(none))else(if x10=true then(impl_FlyTurnBy.l0 k x7 x9 (wrap64 (x9+1)) a0 a1 a2 a3 a4 a5 a6 a7 a8 a9)else(some x8))
def impl_FlyTurnBy.j3:Nat→List (S45)→Int→Int→Bool→Int→List (S45)→Int→Int→Bool→Int→Int→List (S53)→Int→Int→Int→Int→List (S53)→Int→Int→Option (Int)
 |0,_,_,_,_,_,_,_,_,_,_,_,_,_,_,_,_,_,_,_=>none
 |k+1,x7,x8,x9,x10,x11,x28,x29,x30,x44,a0,a1,a2,a3,a4,a5,a6,a7,a8,a9=>if x44=true then((impl_FlyMayTurn.f k a0 a1 a2 a3 a4 a5 a6 a7 a8 a9 x11 x9).bind fun b0=>(if b0=true then(impl_FlyTurnBy.l1 k x7 x8 x9 true x28 x29 (wrap64 (x30+1)) a0 a1 a2 a3 a4 a5 a6 a7 a8 a9)else(some x8)))else(impl_FlyTurnBy.l1 k x7 x8 x9 x10 x28 x29 (wrap64 (x30+1)) a0 a1 a2 a3 a4 a5 a6 a7 a8 a9)
end
def impl_FlyTurnBy.f (k:Nat) (a6:Int) (a7:Int) (a8:List (S53)) (a9:Int) (b0:Int) (a0:Int) (a1:Int) (a3:List (S53)) (a4:Int) (a5:Int) (a2:Int):Option (Int):=(impl_within.f a2 0 10000).bind fun b1=>(if b1=true then((impl_FlyPathOk.f k a0 a1 a3 a4 a5).bind fun b2=>(impl_FlyTurnBy.j0 k a2 (!b2) a6 a7 a8 a9 b0 a0 a1 a3 a4 a5))else(impl_FlyTurnBy.j0 k a2 true a6 a7 a8 a9 b0 a0 a1 a3 a4 a5))
set_option maxHeartbeats 8000000 in
set_option maxRecDepth 100000 in
theorem impl_FlyTurnBy.calls (k:Nat) (b6:Int) (b7:Int) (e6:Option Addr) (e7:Nat) (b0:List (S53)) (b8:Int) (b9:Int) (d1:Int) (d2:Int) (f6:Option Addr) (f7:Nat) (b4:List (S53)) (d3:Int) (d4:Int) (a2:Int) (r:Int) (w:World) (hr0_2:Kd.C k53 w e6 b0.length b0) (hc0_2:b0.length≤e7) (hr1_2:Kd.C k53 w f6 b4.length b4) (hc1_2:b4.length≤f7) (h:impl_FlyTurnBy.f k b6 b7 b0 b8 b9 d1 d2 b4 d3 d4 a2=some r):
 Calls Try.prog 7 #[.agg #[.int .i64 b6,.int .i64 b7,.slice e6 b0.length e7,.int .i64 b8,.int .i64 b9],.agg #[.int .i64 d1,.int .i64 d2,.slice f6 b4.length f7,.int .i64 d3,.int .i64 d4],.int .i64 a2] w fun e w'=>e= .returned (.int .i64 r)∧Below w.heap.size w w':=by
 have z0:=Try.underlying32;have z1:=Try.underlying45;have h2:=zA hr0_2;have h3:=zA hc0_2;clear hr0_2 hc0_2;have h4:=zA hr1_2;have h5:=zA hc1_2;clear hr1_2 hc1_2;have HB:=zA (Below.refl w.heap.size w);have H:=h;clear h;unfold impl_FlyTurnBy.f at H;have t4:=zA H;clear H
 go_enter Try.func7,Try.ntmps7
 go_upto_region 1 with(first|((with_reducible refine gate_dst (N:=3) rfl ?_);refine zbx 3 #[.int .i64 b6,.int .i64 b7,.slice e6 b0.length e7,.int .i64 b8,.int .i64 b9] 32 ?_;intro g9 hg w5 hbox hb;have a3:=zA hbox;have v1:=zgs hg (zs0 HB);have a6:=zgs hg (zs0 HB);replace HB:=zE (zs0 HB) hb;clear hb hbox hg)|((with_reducible refine gate_dst (N:=4) rfl ?_);refine zbx 4 #[.int .i64 d1,.int .i64 d2,.slice f6 b4.length f7,.int .i64 d3,.int .i64 d4] 32 ?_;intro h0 hg w6 hbox hb;have a5:=zA hbox;have v2:=zgs hg (zs1 HB a6);have a7:=zgs hg (zs1 HB a6);have c0:=zne hg a3;have d0:=znf hg a3;replace a3:=zb a3 hb;replace HB:=zE (zs1 HB a6) hb;clear hb hbox hg))
 (try simp only[Act.put,List.setIfInBounds_toArray,List.set_cons_zero,List.set_cons_succ])
 go_cut [20] (fun z2 wc=> ∃(kq:Nat) (h1:Bool),z2= .bool h1∧Aside0 (impl_FlyTurnBy.j0 kq a2 h1 b6 b7 b0 b8 b9 d1 d2 b4 d3 d4=some r)∧Aside0 (kq≤k)∧Aside0 (wc.heap[g9]?=some (.cells #[.int .i64 b6,.int .i64 b7,(.slice e6 b0.length e7),.int .i64 b8,.int .i64 b9] 32 (0,0)))∧Aside0 (wc.heap[h0]?=some (.cells #[.int .i64 d1,.int .i64 d2,(.slice f6 b4.length f7),.int .i64 d3,.int .i64 d4] 32 (0,0)))∧Aside0 (Below w.heap.size w wc))
 case first=>
  have H:=t4.out;clear t4;replace H:=zbd H;obtain⟨t5,A7,H⟩:=H
  by_cases c8:t5=true
  rotate_left
  ·replace c8:=Bool.eq_false_iff.mpr c8
   subst c8;rw[if_neg zfn]at H;have H':=zA H;clear H
   go_wp2_with (first|((with_reducible refine gate_callee (f:=16) rfl ?_);refine zgl (N:=some 14) Try.func16 #[.int .i64 a2,.int .i64 0,.int .i64 10000] ?_;(with_reducible refine(impl_within.calls a2 0 10000 false _ A7.out).mono ?_);rintro e w' ⟨rfl,⟨nd,rfl⟩⟩;refine⟨_,rfl,?_⟩))
   go_meet
   case rel=>exact⟨_,(true),zi,H',⟨by first|omega|exact Nat.le_refl _⟩,⟨zh a3⟩,⟨zh a5⟩,⟨zs2 HB a6 a7⟩⟩
  subst c8;rw[if_pos rfl]at H;replace H:=zbd H;obtain⟨o3,A9,H⟩:=H;have H':=zA H;clear H
  go_wp2_with (first|((with_reducible refine gate_callee (f:=16) rfl ?_);refine zgl (N:=some 14) Try.func16 #[.int .i64 a2,.int .i64 0,.int .i64 10000] ?_;(with_reducible refine(impl_within.calls a2 0 10000 true _ A7.out).mono ?_);rintro e w' ⟨rfl,⟨nd,rfl⟩⟩;refine⟨_,rfl,?_⟩;have v3:=d0.out;have v4:=c0.out;obtain⟨d5,d6,d7,d8,d9⟩:=zd5 a5;obtain⟨e0,e1,e2,e3,e4⟩:=zn5 a5)|(go_at_call 17;(with_reducible refine(impl_FlyPathOk.calls k d1 d2 _ _ b4 d3 d4 o3 _ ?side1 ?side2 A9.out).mono ?_);(case side1=>repeat(first|exact(Kd.C_below h4.out (zs2 HB a6 a7))|(with_reducible refine Kd.C_alloc ?_ _)|(with_reducible refine Kd.C_drewN ?_ _)|(with_reducible refine Kd.C_drew ?_)));(case side2=>exact h5.out);rintro e z7 ⟨rfl,hb⟩;replace a3:=zb a3 hb;replace a5:=zb a5 hb;replace HB:=zE (zs2 HB a6 a7) hb;(try clear hb);(try clear hb2);(try clear hk);(try clear hi)))
  go_meet
  case rel=>exact⟨_,(!o3),zi,H',⟨by first|omega|exact Nat.le_refl _⟩,⟨zh a3⟩,⟨zh a5⟩,⟨zs2 HB a6 a7⟩⟩
 case rest=>
  clear t4
  try clear c1
  try clear p2
  try clear c7
  try clear c8
  try clear c10
  try clear d5 d6 d7 d8 d9 e0 e1 e2 e3 e4
  obtain⟨kq,h1,rfl,HA,n3,a3,a5,HB⟩:=hcut
  cases kq with
  |zero=>exact absurd HA.out (by simp[impl_FlyTurnBy.j0])
  |succ t6=>
   have H:=HA.out;clear HA;simp only[impl_FlyTurnBy.j0]at H
   by_cases n9:h1=true
   ·subst n9
    rw[if_pos rfl]at H;obtain rfl:=Option.some.inj H
    go_wp2
    go_ret;exact⟨ze,zs2 HB a6 a7⟩
   replace n9:=Bool.eq_false_iff.mpr n9;subst n9;rw[if_neg zfn]at H;replace H:=zbd H;obtain⟨a1,z3,H⟩:=H;have H':=zA H;clear H;have v5:=c0.out;have v6:=d0.out;obtain⟨f8,f9,g0,g1,g2⟩:=zd5 a3;obtain⟨g3,g4,g5,g6,g7⟩:=zn5 a3
   go_wp2_with (first|((with_reducible refine gate_callee (f:=18) rfl ?_);refine zgl (N:=some 22) Try.func18 #[.agg #[.int .i64 b6,.int .i64 b7,.slice e6 b0.length e7,.int .i64 b8,.int .i64 b9]] ?_;(with_reducible refine(impl_FlyTube.calls t6 b6 b7 _ _ b0 b8 b9 a1 _ ?side1 ?side2 z3.out).mono ?_);(case side1=>exact zC h2 HB);(case side2=>exact h3.out);rintro e z8 ⟨t7,rfl,v7,hb⟩;refine⟨_,rfl,?_⟩;have o4:=zA (Kd.R_lower v7 (below_size (zs2 HB a6 a7)));replace a3:=zb a3 hb;replace a5:=zb a5 hb;replace HB:=zE (zs2 HB a6 a7) hb;(try clear hb);(try clear hb2);(try clear hk);(try clear hi);(try clear v7)))
   go_loopg [8,9] t6 (fun kq v8 v9 w'=> ∃(h6:Int) (b5:Int),v8= .int .i64 h6∧v9= .int .i64 b5∧Aside0 (impl_FlyTurnBy.l0 kq a1 h6 b5 b6 b7 b0 b8 b9 d1 d2 b4 d3 d4=some r)∧Aside0 (kq≤t6)∧Aside0 (Kd.R k45 45 w' w.heap.size (fun _=>True) t7 a1)∧Aside0 (w'.heap[g9]?=some (.cells #[.int .i64 b6,.int .i64 b7,(.slice e6 b0.length e7),.int .i64 b8,.int .i64 b9] 32 (0,0)))∧Aside0 (w'.heap[h0]?=some (.cells #[.int .i64 d1,.int .i64 d2,(.slice f6 b4.length f7),.int .i64 d3,.int .i64 d4] 32 (0,0)))∧Aside0 (Below w.heap.size w w'))
   case atStart=>exact⟨((-1)),(a2),zi,zi,H',⟨Nat.le_refl _⟩,⟨zr o4⟩,⟨zh a3⟩,⟨zh a5⟩,⟨zs2 HB a6 a7⟩⟩
   case round=>
    clear H'
    try clear c1
    try clear p2
    try clear c7
    try clear c8
    try clear c10
    try clear n9
    try clear w0
    try clear w1
    try clear d5 d6 d7 d8 d9
    try clear f8 f9 g0 g1 g2
    try clear e0 e1 e2 e3 e4
    try clear g3 g4 g5 g6 g7
    try clear p2
    obtain⟨h6,b5,rfl,rfl,HA,n4,HO_7,a3,a5,HB⟩:=hrel
    cases gk with
    |zero=>exact absurd HA.out (by simp[impl_FlyTurnBy.l0])
    |succ k2=>
     have H:=HA.out;clear HA;simp only[impl_FlyTurnBy.l0]at H
     by_cases n5:b5≤10000
     rotate_left
     ·rw[if_neg n5]at H
      have h7:decide (b5≤10000)=false:=decide_eq_false n5;clear n5;obtain rfl:=Option.some.inj H
      go_wp2
      go_ret;exact⟨ze,zs2 HB a6 a7⟩
     rw[if_pos n5]at H;have h7:decide (b5≤10000)=true:=decide_eq_true n5;clear n5;have H':=zA H;clear H;obtain⟨Ao19,co19,t8⟩:=Kd.R_slice HO_7.out;subst t8
     go_wp2
     go_loopg [10,30] k2 (fun kq z4 z5 w'=> ∃(e8:Bool) (a0:Int),z4= .bool e8∧z5= .int .i64 a0∧Aside0 (impl_FlyTurnBy.l1 kq a1 h6 b5 e8 a1 (a1.length:Int) a0 b6 b7 b0 b8 b9 d1 d2 b4 d3 d4=some r)∧Aside0 (kq≤k2)∧Aside0 (Kd.R k45 45 w' w.heap.size (fun _=>True) (.slice Ao19 a1.length co19) a1)∧Aside0 (Kd.R k45 45 w' w.heap.size (fun _=>True) (.slice Ao19 a1.length co19) a1)∧Aside0 (w'.heap[g9]?=some (.cells #[.int .i64 b6,.int .i64 b7,(.slice e6 b0.length e7),.int .i64 b8,.int .i64 b9] 32 (0,0)))∧Aside0 (w'.heap[h0]?=some (.cells #[.int .i64 d1,.int .i64 d2,(.slice f6 b4.length f7),.int .i64 d3,.int .i64 d4] 32 (0,0)))∧Aside0 (Below w.heap.size w w'))
     case atStart=>exact⟨(false),(0),zi,zi,H',⟨Nat.le_refl _⟩,⟨zr HO_7⟩,⟨zr HO_7⟩,⟨zh a3⟩,⟨zh a5⟩,⟨zs2 HB a6 a7⟩⟩
     case round=>
      clear H'
      try clear c1
      try clear p2
      try clear c7
      try clear c8
      try clear c10
      try clear n9
      try clear w0
      try clear w1
      try clear n5
      try clear h7
      try clear d5 d6 d7 d8 d9
      try clear f8 f9 g0 g1 g2
      try clear e0 e1 e2 e3 e4
      try clear g3 g4 g5 g6 g7
      try clear p2
      obtain⟨e8,a0,rfl,rfl,HA,n6,HO_7,HO_28,a3,a5,HB⟩:=hrel
      cases gk with
      |zero=>exact absurd HA.out (by simp[impl_FlyTurnBy.l1])
      |succ k3=>
       have H:=HA.out;clear HA;simp only[impl_FlyTurnBy.l1]at H
       by_cases o0:a0<(a1.length:Int)
       rotate_left
       ·rw[if_neg o0]at H
        have n7:decide (a0<(a1.length:Int))=false:=decide_eq_false o0;clear o0
        by_cases o8:e8=true
        rotate_left
        ·replace o8:=Bool.eq_false_iff.mpr o8
         subst o8;rw[if_neg zfn]at H;obtain rfl:=Option.some.inj H
         go_wp2
         go_ret;exact⟨ze,zs2 HB a6 a7⟩
        subst o8;rw[if_pos rfl]at H;have H':=zA H;clear H
        go_wp2
        go_roundg k3
        case measure=>have:=n3.out;have:=n4.out;have:=n6.out;omega
        case rel=>exact⟨(b5),(wrap64 (b5+1)),zi,zi,H',⟨by have:=n3.out;have:=n4.out;have:=n6.out;omega⟩,⟨zr HO_7⟩,⟨zh a3⟩,⟨zh a5⟩,⟨zs2 HB a6 a7⟩⟩
       rw[if_pos o0]at H;have n7:decide (a0<(a1.length:Int))=true:=decide_eq_true o0;clear o0;replace H:=zif H;obtain⟨o5,H⟩:=H
       by_cases o6:a0<(a1.length:Int)
       rotate_left
       ·rw[if_neg o6]at H
        exact absurd H (by simp)
       rw[if_pos o6]at H;have o7:decide (a0<(a1.length:Int))=true:=decide_eq_true o6;clear o6;have o1:=zA H;clear H;have h8:0≤(a0:Int):=za;have h9:a0<(a1.length:Int):=za;obtain⟨n8,t9,i0,i1,i2,i3,i4,i5⟩:=at_T45 (Kd.R_reads' HO_28.out).2.2 a0 h8 h9;cases t9;replace h8:=eq_true h8;replace h9:=eq_true h9
       go_upto_region 12 with(first|((with_reducible refine gate_dst (N:=12) rfl ?_);refine zbx 12 #[.int .i64 0,.int .i64 0,.int .i64 0,.int .i64 0,.int .i64 0,.int .i64 0] 45 ?_;intro a4 hg z9 hbox hb;have b1:=zA hbox;have w2:=zgs hg (zs2 HB a6 a7);have e5:=zgs hg (zs2 HB a6 a7);have a8:=zne hg a3;have b2:=znf hg a3;have a9:=zne hg a5;have b3:=znf hg a5;replace HO_7:=zA (Kd.R_below (Kd.R_elderB (zr HO_7) a4 (Nat.le_of_eq hg.symm)) hb);replace HO_28:=zA (Kd.R_below (Kd.R_elderB (zr HO_28) a4 (Nat.le_of_eq hg.symm)) hb);replace a3:=zb a3 hb;replace a5:=zb a5 hb;replace HB:=zE (zs2 HB a6 a7) hb;clear hb hbox hg;have w3:=b2.out;have w4:=a8.out;have w7:=b3.out;have w8:=a9.out;obtain⟨i6,i7,i8,i9,j1,j4⟩:=zd6 b1;obtain⟨j5,j6,j7,j8,j9,k0⟩:=zn6 b1))
       (try simp only[Act.put,List.setIfInBounds_toArray,List.set_cons_zero,List.set_cons_succ])
       go_cut [44] (fun z6 wc=> ∃(kq:Nat) (g8:Bool),z6= .bool g8∧Aside0 (impl_FlyTurnBy.j3 kq a1 h6 b5 e8 a0 a1 (a1.length:Int) a0 g8 b6 b7 b0 b8 b9 d1 d2 b4 d3 d4=some r)∧Aside0 (kq≤k3)∧Aside0 (Kd.R k45 45 wc w.heap.size (fun k_=>k_≠a4) (.slice (some n8) a1.length co19) a1)∧Aside0 (Kd.R k45 45 wc w.heap.size (fun k_=>k_≠a4) (.slice (some n8) a1.length co19) a1)∧Aside0 (wc.heap[g9]?=some (.cells #[.int .i64 b6,.int .i64 b7,(.slice e6 b0.length e7),.int .i64 b8,.int .i64 b9] 32 (0,0)))∧Aside0 (wc.heap[h0]?=some (.cells #[.int .i64 d1,.int .i64 d2,(.slice f6 b4.length f7),.int .i64 d3,.int .i64 d4] 32 (0,0)))∧Aside0 (wc.heap[a4]?=some (.cells #[.int .i64 ((rd_T45 a1 a0).f0),.int .i64 ((rd_T45 a1 a0).f1),.int .i64 ((rd_T45 a1 a0).f2),.int .i64 ((rd_T45 a1 a0).f3),.int .i64 ((rd_T45 a1 a0).f4),.int .i64 ((rd_T45 a1 a0).f5)] 45 (0,0)))∧Aside0 (Below w.heap.size w wc))
       case first=>
        have H:=o1.out;clear o1
        by_cases o2:((rd_T45 a1 a0).f4)≤b5
        rotate_left
        ·rw[if_neg o2]at H
         have e9:decide (((rd_T45 a1 a0).f4)≤b5)=false:=decide_eq_false o2;clear o2;(first|rw[e9]|(simp only[i64_w,i32_w];rw[e9])|skip);have H':=zA H;clear H;have w9:=b2.out;have x0:=a8.out;have x1:=b3.out;have x2:=a9.out;obtain⟨k1,k4,k5,k6,k7,k8⟩:=zd6 b1;obtain⟨k9,l4,l5,l6,l7,l8⟩:=zn6 b1
         go_wp2
         go_meet
         case rel=>exact⟨_,(false),zi,H',⟨by have:=n3.out;have:=n4.out;have:=n6.out;first|omega|exact Nat.le_refl _⟩,⟨by(with_reducible repeat(first|apply Kd.R_alloc|apply Kd.R_drewN|apply Kd.R_drew));exact Kd.R_mono (Kd.R_far (p:=⟨a4,5,none⟩) (Kd.R_far (p:=⟨a4,4,none⟩) (Kd.R_far (p:=⟨a4,3,none⟩) (Kd.R_far (p:=⟨a4,2,none⟩) (Kd.R_far (p:=⟨a4,1,none⟩) (Kd.R_far (p:=⟨a4,0,none⟩) (Kd.R_mono HO_7.out (fun k_ hk=>(⟨hk,hk.2⟩:_∧k_≠a4))) (fun _ hk=>hk.2) (.int .i64 ((rd_T45 a1 a0).f0))) (fun _ hk=>hk.2) (.int .i64 ((rd_T45 a1 a0).f1))) (fun _ hk=>hk.2) (.int .i64 ((rd_T45 a1 a0).f2))) (fun _ hk=>hk.2) (.int .i64 ((rd_T45 a1 a0).f3))) (fun _ hk=>hk.2) (.int .i64 ((rd_T45 a1 a0).f4))) (fun _ hk=>hk.2) (.int .i64 ((rd_T45 a1 a0).f5))) (fun _ hk=>hk.1.2)⟩,⟨by(with_reducible repeat(first|apply Kd.R_alloc|apply Kd.R_drewN|apply Kd.R_drew));exact Kd.R_mono (Kd.R_far (p:=⟨a4,5,none⟩) (Kd.R_far (p:=⟨a4,4,none⟩) (Kd.R_far (p:=⟨a4,3,none⟩) (Kd.R_far (p:=⟨a4,2,none⟩) (Kd.R_far (p:=⟨a4,1,none⟩) (Kd.R_far (p:=⟨a4,0,none⟩) (Kd.R_mono HO_28.out (fun k_ hk=>(⟨hk,hk.2⟩:_∧k_≠a4))) (fun _ hk=>hk.2) (.int .i64 ((rd_T45 a1 a0).f0))) (fun _ hk=>hk.2) (.int .i64 ((rd_T45 a1 a0).f1))) (fun _ hk=>hk.2) (.int .i64 ((rd_T45 a1 a0).f2))) (fun _ hk=>hk.2) (.int .i64 ((rd_T45 a1 a0).f3))) (fun _ hk=>hk.2) (.int .i64 ((rd_T45 a1 a0).f4))) (fun _ hk=>hk.2) (.int .i64 ((rd_T45 a1 a0).f5))) (fun _ hk=>hk.1.2)⟩,⟨zpf a3 a8⟩,⟨zpf a5 a9⟩,⟨zpb b1⟩,⟨zs3 HB a6 a7 e5⟩⟩
        rw[if_pos o2]at H;have e9:decide (((rd_T45 a1 a0).f4)≤b5)=true:=decide_eq_true o2;clear o2;(first|rw[e9]|(simp only[i64_w,i32_w];rw[e9])|skip);have H':=zA H;clear H;have x3:=b2.out;have x4:=a8.out;have x5:=b3.out;have x6:=a9.out;obtain⟨l9,m0,m1,m2,m3,m4⟩:=zd6 b1;obtain⟨m5,m6,m7,m8,m9,n0⟩:=zn6 b1
        go_wp2
        go_meet
        case rel=>exact⟨_,(decide (b5≤((rd_T45 a1 a0).f5))),zi,H',⟨by have:=n3.out;have:=n4.out;have:=n6.out;first|omega|exact Nat.le_refl _⟩,⟨by(with_reducible repeat(first|apply Kd.R_alloc|apply Kd.R_drewN|apply Kd.R_drew));exact Kd.R_mono (Kd.R_far (p:=⟨a4,5,none⟩) (Kd.R_far (p:=⟨a4,4,none⟩) (Kd.R_far (p:=⟨a4,3,none⟩) (Kd.R_far (p:=⟨a4,2,none⟩) (Kd.R_far (p:=⟨a4,1,none⟩) (Kd.R_far (p:=⟨a4,0,none⟩) (Kd.R_mono HO_7.out (fun k_ hk=>(⟨hk,hk.2⟩:_∧k_≠a4))) (fun _ hk=>hk.2) (.int .i64 ((rd_T45 a1 a0).f0))) (fun _ hk=>hk.2) (.int .i64 ((rd_T45 a1 a0).f1))) (fun _ hk=>hk.2) (.int .i64 ((rd_T45 a1 a0).f2))) (fun _ hk=>hk.2) (.int .i64 ((rd_T45 a1 a0).f3))) (fun _ hk=>hk.2) (.int .i64 ((rd_T45 a1 a0).f4))) (fun _ hk=>hk.2) (.int .i64 ((rd_T45 a1 a0).f5))) (fun _ hk=>hk.1.2)⟩,⟨by(with_reducible repeat(first|apply Kd.R_alloc|apply Kd.R_drewN|apply Kd.R_drew));exact Kd.R_mono (Kd.R_far (p:=⟨a4,5,none⟩) (Kd.R_far (p:=⟨a4,4,none⟩) (Kd.R_far (p:=⟨a4,3,none⟩) (Kd.R_far (p:=⟨a4,2,none⟩) (Kd.R_far (p:=⟨a4,1,none⟩) (Kd.R_far (p:=⟨a4,0,none⟩) (Kd.R_mono HO_28.out (fun k_ hk=>(⟨hk,hk.2⟩:_∧k_≠a4))) (fun _ hk=>hk.2) (.int .i64 ((rd_T45 a1 a0).f0))) (fun _ hk=>hk.2) (.int .i64 ((rd_T45 a1 a0).f1))) (fun _ hk=>hk.2) (.int .i64 ((rd_T45 a1 a0).f2))) (fun _ hk=>hk.2) (.int .i64 ((rd_T45 a1 a0).f3))) (fun _ hk=>hk.2) (.int .i64 ((rd_T45 a1 a0).f4))) (fun _ hk=>hk.2) (.int .i64 ((rd_T45 a1 a0).f5))) (fun _ hk=>hk.1.2)⟩,⟨zpf a3 a8⟩,⟨zpf a5 a9⟩,⟨zpb b1⟩,⟨zs3 HB a6 a7 e5⟩⟩
       case rest=>
        clear o1
        try clear c1
        try clear c2
        try clear p2
        try clear c3
        try clear p5
        try clear q5
        try clear A0
        try clear c7
        try clear c8
        try clear c10
        try clear n9
        try clear w0
        try clear w1
        try clear n5
        try clear h7
        try clear o0
        try clear n7
        try clear A1
        try clear o5
        try clear o6
        try clear o7
        try clear A2
        try clear A3
        try clear o2
        try clear e9
        try clear A4
        try clear A5
        try clear A6
        try clear A8
        try clear d5 d6 d7 d8 d9
        try clear f8 f9 g0 g1 g2
        try clear i6 i7 i8 i9 j1 j4
        try clear l9 m0 m1 m2 m3 m4
        try clear k1 k4 k5 k6 k7 k8
        try clear e0 e1 e2 e3 e4
        try clear g3 g4 g5 g6 g7
        try clear j5 j6 j7 j8 j9 k0
        try clear m5 m6 m7 m8 m9 n0
        try clear k9 l4 l5 l6 l7 l8
        try clear i0
        try clear i1
        try clear i2
        try clear i3
        try clear i4
        try clear i5
        try clear p2
        try clear h8
        try clear h9
        obtain⟨kq,g8,rfl,HA,n1,HO_7,HO_28,a3,a5,b1,HB⟩:=hcut
        cases kq with
        |zero=>exact absurd HA.out (by simp[impl_FlyTurnBy.j3])
        |succ n2=>
         have H:=HA.out;clear HA;simp only[impl_FlyTurnBy.j3]at H
         by_cases o9:g8=true
         rotate_left
         ·replace o9:=Bool.eq_false_iff.mpr o9
          subst o9;rw[if_neg zfn]at H;have H':=zA H;clear H
          go_wp2
          go_roundg n2
          case measure=>have:=n3.out;have:=n4.out;have:=n6.out;have:=n1.out;omega
          case rel=>exact⟨(e8),(wrap64 (a0+1)),zi,zi,H',⟨by have:=n3.out;have:=n4.out;have:=n6.out;have:=n1.out;omega⟩,⟨by(with_reducible repeat(first|apply Kd.R_alloc|apply Kd.R_drewN|apply Kd.R_drew));exact Kd.R_mono HO_7.out (fun _ hk=>trivial)⟩,⟨by(with_reducible repeat(first|apply Kd.R_alloc|apply Kd.R_drewN|apply Kd.R_drew));exact Kd.R_mono HO_28.out (fun _ hk=>trivial)⟩,⟨zh a3⟩,⟨zh a5⟩,⟨zs3 HB a6 a7 e5⟩⟩
         subst o9;rw[if_pos rfl]at H;replace H:=zbd H;obtain⟨v0,x7,H⟩:=H
         by_cases p0:v0=true
         rotate_left
         ·replace p0:=Bool.eq_false_iff.mpr p0
          subst p0;rw[if_neg zfn]at H;obtain rfl:=Option.some.inj H;have x8:=c0.out;have x9:=d0.out;have y0:=a8.out;have y1:=b2.out;obtain⟨p1,p3,p4,p6,p7⟩:=zd5 a3;obtain⟨p8,p9,q0,q1,q2⟩:=zn5 a3;have y2:=a9.out;have y3:=b3.out;obtain⟨q3,q4,q6,q7,q8⟩:=zd5 a5;obtain⟨q9,r0,r1,r2,r3⟩:=zn5 a5
          go_wp2_with (first|((with_reducible refine gate_callee (f:=19) rfl ?_);refine zgl (N:=some 49) Try.func19 #[.agg #[.int .i64 b6,.int .i64 b7,.slice e6 b0.length e7,.int .i64 b8,.int .i64 b9],.agg #[.int .i64 d1,.int .i64 d2,.slice f6 b4.length f7,.int .i64 d3,.int .i64 d4],.int .i64 a0,.int .i64 b5] ?_;(with_reducible refine(impl_FlyMayTurn.calls n2 b6 b7 _ _ b0 b8 b9 d1 d2 _ _ b4 d3 d4 a0 b5 false _ ?side1 ?side2 ?side3 ?side4 x7.out).mono ?_);(case side1=>exact zC h2 HB);(case side2=>exact h3.out);(case side3=>exact zC h4 HB);(case side4=>exact h5.out);rintro e B0 ⟨rfl,hb⟩;refine⟨_,rfl,?_⟩;replace HO_7:=zA (Kd.R_below (zr HO_7) hb);replace HO_28:=zA (Kd.R_below (zr HO_28) hb);replace a3:=zb a3 hb;replace a5:=zb a5 hb;replace b1:=zb b1 hb;replace HB:=zE (zs3 HB a6 a7 e5) hb;(try clear hb);(try clear hb2);(try clear hk);(try clear hi)))
          go_ret;exact⟨ze,zs3 HB a6 a7 e5⟩
         subst p0;rw[if_pos rfl]at H;have H':=zA H;clear H;have y4:=c0.out;have y5:=d0.out;have y6:=a8.out;have y7:=b2.out;obtain⟨r4,r5,r6,r7,r8⟩:=zd5 a3;obtain⟨r9,s0,s1,s2,s3⟩:=zn5 a3;have y8:=a9.out;have y9:=b3.out;obtain⟨s4,s5,s6,s7,s8⟩:=zd5 a5;obtain⟨s9,t0,t1,t2,t3⟩:=zn5 a5
         go_wp2_with (first|((with_reducible refine gate_callee (f:=19) rfl ?_);refine zgl (N:=some 49) Try.func19 #[.agg #[.int .i64 b6,.int .i64 b7,.slice e6 b0.length e7,.int .i64 b8,.int .i64 b9],.agg #[.int .i64 d1,.int .i64 d2,.slice f6 b4.length f7,.int .i64 d3,.int .i64 d4],.int .i64 a0,.int .i64 b5] ?_;(with_reducible refine(impl_FlyMayTurn.calls n2 b6 b7 _ _ b0 b8 b9 d1 d2 _ _ b4 d3 d4 a0 b5 true _ ?side1 ?side2 ?side3 ?side4 x7.out).mono ?_);(case side1=>exact zC h2 HB);(case side2=>exact h3.out);(case side3=>exact zC h4 HB);(case side4=>exact h5.out);rintro e B3 ⟨rfl,hb⟩;refine⟨_,rfl,?_⟩;replace HO_7:=zA (Kd.R_below (zr HO_7) hb);replace HO_28:=zA (Kd.R_below (zr HO_28) hb);replace a3:=zb a3 hb;replace a5:=zb a5 hb;replace b1:=zb b1 hb;replace HB:=zE (zs3 HB a6 a7 e5) hb;(try clear hb);(try clear hb2);(try clear hk);(try clear hi)))
         go_roundg n2
         case measure=>have:=n3.out;have:=n4.out;have:=n6.out;have:=n1.out;omega
         case rel=>exact⟨(true),(wrap64 (a0+1)),zi,zi,H',⟨by have:=n3.out;have:=n4.out;have:=n6.out;have:=n1.out;omega⟩,⟨by(with_reducible repeat(first|apply Kd.R_alloc|apply Kd.R_drewN|apply Kd.R_drew));exact Kd.R_mono HO_7.out (fun _ hk=>trivial)⟩,⟨by(with_reducible repeat(first|apply Kd.R_alloc|apply Kd.R_drewN|apply Kd.R_drew));exact Kd.R_mono HO_28.out (fun _ hk=>trivial)⟩,⟨zh a3⟩,⟨zh a5⟩,⟨zs3 HB a6 a7 e5⟩⟩
end Go.Proofs.Ytglgfgeepdmlbaa.QFnExactFlyTurnBy
