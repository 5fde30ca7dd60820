/- The walk of what the law FnExactFlyMayTurn reaches: laid by a program of this session (ownprint.py). -/
import Derived.Test.YtbmplfpnhjhoiaaQFnExactFlyMayTurnx0
import Derived.Test.YtbmplfpnhjhoiaaQFnExactFlyMayTurnx15
namespace Go.Proofs.Ytbmplfpnhjhoiaa.QFnExactFlyMayTurn
open Go.RowKit Go.Proofs.YtbmplfpnhjhoiaaW.PrintWords Go.Proofs.YtbmplfpnhjhoiaaW.PrintLast Go.Proofs.YtbmplfpnhjhoiaaW.PrintMore Go.Proofs.Ytbmplfpnhjhoiaa.Z
attribute [local go_sem] max2_int min2_int max_two min_two max_three min_three max_four min_four zdn   -- for this text's walks alone
set_option linter.unusedVariables false
set_option linter.unusedSimpArgs false
mutual
def impl_FlyPathOk.j0:Nat→Bool→Int→Int→List (S132)→Int→Int→Option (Bool)
 |0,_,_,_,_,_,_=>none
 |k+1,x24,x382000,x382001,x382002,x382003,x382004=>if x24=true then(some false)else(impl_FlyPathOk.l0 k x382002 (x382002.length:Int) 0 x382000 x382001 x382002 x382003 x382004)
def impl_FlyPathOk.l0:Nat→List (S132)→Int→Int→Int→Int→List (S132)→Int→Int→Option (Bool)
 |0,_,_,_,_,_,_,_,_=>none
 |k+1,x26,x27,x28,x382000,x382001,x382002,x382003,x382004=>if x28<x27 then(if 0≤x28 then(if x28<(x26.length:Int)then((impl_within.f ((rd_T132 x26 x28).f0) 0 15).bind fun t387=>(if t387=true then((impl_within.f ((rd_T132 x26 x28).f1) 0 15).bind fun t388=>(if t388=true then(if 0≤((rd_T132 x26 x28).f2)then(if((rd_T132 x26 x28).f2)≤((rd_T132 x26 x28).f3)then(if(((rd_T132 x26 x28).f3)≤6)then((impl_window.f ((rd_T132 x26 x28).f4) ((rd_T132 x26 x28).f5)).bind fun t389=>(impl_FlyPathOk.j2 k x28 x26 x27 x28 (!t389) x382000 x382001 x382002 x382003 x382004 ((rd_T132 x26 x28).f0) ((rd_T132 x26 x28).f1) ((rd_T132 x26 x28).f2) ((rd_T132 x26 x28).f3) ((rd_T132 x26 x28).f4) ((rd_T132 x26 x28).f5) ((rd_T132 x26 x28).f6)))else(impl_FlyPathOk.j2 k x28 x26 x27 x28 true x382000 x382001 x382002 x382003 x382004 ((rd_T132 x26 x28).f0) ((rd_T132 x26 x28).f1) ((rd_T132 x26 x28).f2) ((rd_T132 x26 x28).f3) ((rd_T132 x26 x28).f4) ((rd_T132 x26 x28).f5) ((rd_T132 x26 x28).f6)))else(impl_FlyPathOk.j2 k x28 x26 x27 x28 true x382000 x382001 x382002 x382003 x382004 ((rd_T132 x26 x28).f0) ((rd_T132 x26 x28).f1) ((rd_T132 x26 x28).f2) ((rd_T132 x26 x28).f3) ((rd_T132 x26 x28).f4) ((rd_T132 x26 x28).f5) ((rd_T132 x26 x28).f6)))else(impl_FlyPathOk.j2 k x28 x26 x27 x28 true x382000 x382001 x382002 x382003 x382004 ((rd_T132 x26 x28).f0) ((rd_T132 x26 x28).f1) ((rd_T132 x26 x28).f2) ((rd_T132 x26 x28).f3) ((rd_T132 x26 x28).f4) ((rd_T132 x26 x28).f5) ((rd_T132 x26 x28).f6)))else(impl_FlyPathOk.j2 k x28 x26 x27 x28 true x382000 x382001 x382002 x382003 x382004 ((rd_T132 x26 x28).f0) ((rd_T132 x26 x28).f1) ((rd_T132 x26 x28).f2) ((rd_T132 x26 x28).f3) ((rd_T132 x26 x28).f4) ((rd_T132 x26 x28).f5) ((rd_T132 x26 x28).f6))))else(impl_FlyPathOk.j2 k x28 x26 x27 x28 true x382000 x382001 x382002 x382003 x382004 ((rd_T132 x26 x28).f0) ((rd_T132 x26 x28).f1) ((rd_T132 x26 x28).f2) ((rd_T132 x26 x28).f3) ((rd_T132 x26 x28).f4) ((rd_T132 x26 x28).f5) ((rd_T132 x26 x28).f6))))else(none))else(none))else(some true)
def impl_FlyPathOk.j2:Nat→Int→List (S132)→Int→Int→Bool→Int→Int→List (S132)→Int→Int→Int→Int→Int→Int→Int→Int→Bool→Option (Bool)
 |0,_,_,_,_,_,_,_,_,_,_,_,_,_,_,_,_,_=>none
 |k+1,x3,x26,x27,x28,x68,x382000,x382001,x382002,x382003,x382004,x387000,x387001,x387002,x387003,x387004,x387005,x387006=>if x68=true then(some false)else(if x3=0 then(impl_FlyPathOk.l0 k x26 x27 (wrap64 (x28+1)) x382000 x382001 x382002 x382003 x382004)else(if 0≤(wrap64 (x3-1))then(if(wrap64 (x3-1))<(x382002.length:Int)then(if((rd_T132 x382002 (wrap64 (x3-1))).f0)=x387000 then(if((rd_T132 x382002 (wrap64 (x3-1))).f1)=x387001 then(some false)else((impl_dist.f ((rd_T132 x382002 (wrap64 (x3-1))).f0) x387000).bind fun t392=>(if t392>1 then(some false)else((impl_dist.f ((rd_T132 x382002 (wrap64 (x3-1))).f1) x387001).bind fun t393=>(if t393>1 then(some false)else(if((rd_T132 x382002 (wrap64 (x3-1))).f2)>x387003 then(some false)else(if x387002>((rd_T132 x382002 (wrap64 (x3-1))).f3)then(some false)else(impl_FlyPathOk.l0 k x26 x27 (wrap64 (x28+1)) x382000 x382001 x382002 x382003 x382004))))))))else((impl_dist.f ((rd_T132 x382002 (wrap64 (x3-1))).f0) x387000).bind fun t394=>(if t394>1 then(some false)else((impl_dist.f ((rd_T132 x382002 (wrap64 (x3-1))).f1) x387001).bind fun t395=>(if t395>1 then(some false)else(if((rd_T132 x382002 (wrap64 (x3-1))).f2)>x387003 then(some false)else(if x387002>((rd_T132 x382002 (wrap64 (x3-1))).f3)then(some false)else(impl_FlyPathOk.l0 k x26 x27 (wrap64 (x28+1)) x382000 x382001 x382002 x382003 x382004))))))))else(none))else(none)))
end
def impl_FlyPathOk.f (k:Nat) (a0_0:Int) (a0_1:Int) (l0_2:List (S132)) (a0_3:Int) (a0_4:Int):Option (Bool):=(impl_FlyKindOk.f a0_0 a0_1).bind fun t382=>(if t382=true then((impl_within.f (l0_2.length:Int) 1 40).bind fun t383=>(if t383=true then((impl_window.f a0_3 a0_4).bind fun t384=>(impl_FlyPathOk.j0 k (!t384) a0_0 a0_1 l0_2 a0_3 a0_4))else(impl_FlyPathOk.j0 k true a0_0 a0_1 l0_2 a0_3 a0_4)))else(impl_FlyPathOk.j0 k true a0_0 a0_1 l0_2 a0_3 a0_4))
set_option maxHeartbeats 8000000 in
set_option maxRecDepth 100000 in
theorem impl_FlyPathOk.calls (k:Nat) (a0_0:Int) (a0_1:Int) (A0_2:Option Addr) (c0_2:Nat) (l0_2:List (S132)) (a0_3:Int) (a0_4:Int) (r:Bool) (w:World) (hr0_2:Kd.C k132 w A0_2 l0_2.length l0_2) (hc0_2:l0_2.length≤c0_2) (h:impl_FlyPathOk.f k a0_0 a0_1 l0_2 a0_3 a0_4=some r):
 Calls Try.prog 99 #[.agg #[.int .i64 a0_0,.int .i64 a0_1,.slice A0_2 l0_2.length c0_2,.int .i64 a0_3,.int .i64 a0_4]] w fun e w'=>e= .returned (.bool r)∧Below w.heap.size w w':=by
 have hu68:=Try.underlying68;have hu44:=Try.underlying44;have hu132:=Try.underlying132;have HR0_2:=zA hr0_2;have HC0_2:=zA hc0_2;clear hr0_2 hc0_2;have HB:=zA (Below.refl w.heap.size w);have H:=h;clear h;unfold impl_FlyPathOk.f at H;have HC2:=zA H;clear H
 go_enter Try.func99,Try.ntmps99
 go_upto_region 1 with(first|((with_reducible refine gate_dst (N:=1) rfl ?_);(try(refine gate_guard (by rfl) ?_;dsimp only));refine zbx 1 #[.int .i64 a0_0,.int .i64 a0_1,.slice A0_2 l0_2.length c0_2,.int .i64 a0_3,.int .i64 a0_4] 68 ?_;intro gb381 hg w3 hbox hb;have BK381:=zA hbox;have GW381:=zgs hg (zs0 HB);have GE381:=zgs hg (zs0 HB);replace HB:=zE (zs0 HB) hb;clear hb hbox hg))
 (try simp only[Act.put,List.setIfInBounds_toArray,List.set_cons_zero,List.set_cons_succ])
 go_cut [24] (fun v24 wc=> ∃(kq:Nat) (x24_1:Bool),v24= .bool x24_1∧Aside0 (impl_FlyPathOk.j0 kq x24_1 a0_0 a0_1 l0_2 a0_3 a0_4=some r)∧Aside0 (kq≤k)∧Aside0 (wc.heap[gb381]?=some (.cells #[.int .i64 a0_0,.int .i64 a0_1,(.slice A0_2 l0_2.length c0_2),.int .i64 a0_3,.int .i64 a0_4] 68 (0,0)))∧Aside0 (Below w.heap.size w wc))
 case first=>
  have H:=HC2.out;clear HC2;replace H:=zbd H;obtain⟨t382,A4,H⟩:=H
  by_cases c5:t382=true
  rotate_left
  ·replace c5:=Bool.eq_false_iff.mpr c5
   subst c5;rw[if_neg zfn]at H;have H':=zA H;clear H;obtain⟨hcz15_0,hcz15_1,hcz15_2,hcz15_3,hcz15_4⟩:=zd5 BK381;obtain⟨hfz15_0,hfz15_1,hfz15_2,hfz15_3,hfz15_4⟩:=zn5 BK381
   go_wp2_with (first|((with_reducible refine gate_callee (f:=142) rfl ?_);refine zgl (N:=some 8) Try.func142 #[.agg #[.int .i64 a0_0,.int .i64 a0_1]] ?_;(with_reducible refine(impl_FlyKindOk.calls a0_0 a0_1 false _ A4.out).mono ?_);rintro e w16 ⟨rfl,hb⟩;refine⟨_,rfl,?_⟩;replace BK381:=zb BK381 hb;replace HB:=zE (zs1 HB GE381) hb;(try clear hb);(try clear hb2);(try clear hk);(try clear hi)))
   go_meet
   case rel=>exact⟨_,(true),zi,H',⟨by first|omega|exact Nat.le_refl _⟩,⟨zh BK381⟩,⟨zs1 HB GE381⟩⟩
  subst c5;rw[if_pos rfl]at H;replace H:=zbd H;obtain⟨t383,A6,H⟩:=H
  by_cases c7:t383=true
  rotate_left
  ·replace c7:=Bool.eq_false_iff.mpr c7
   subst c7;rw[if_neg zfn]at H;have H':=zA H;clear H;obtain⟨hcz12_0,hcz12_1,hcz12_2,hcz12_3,hcz12_4⟩:=zd5 BK381;obtain⟨hfz12_0,hfz12_1,hfz12_2,hfz12_3,hfz12_4⟩:=zn5 BK381
   go_wp2_with (first|((with_reducible refine gate_callee (f:=142) rfl ?_);refine zgl (N:=some 8) Try.func142 #[.agg #[.int .i64 a0_0,.int .i64 a0_1]] ?_;(with_reducible refine(impl_FlyKindOk.calls a0_0 a0_1 true _ A4.out).mono ?_);rintro e w13 ⟨rfl,hb⟩;refine⟨_,rfl,?_⟩;replace BK381:=zb BK381 hb;replace HB:=zE (zs1 HB GE381) hb;(try clear hb);(try clear hb2);(try clear hk);(try clear hi);obtain⟨hcz14_0,hcz14_1,hcz14_2,hcz14_3,hcz14_4⟩:=zd5 BK381;obtain⟨hfz14_0,hfz14_1,hfz14_2,hfz14_3,hfz14_4⟩:=zn5 BK381)|(go_at_call 93;(with_reducible refine(impl_within.calls (l0_2.length:Int) 1 40 false _ A6.out).mono ?_);rintro e w' ⟨rfl,⟨nd,rfl⟩⟩))
   go_meet
   case rel=>exact⟨_,(true),zi,H',⟨by first|omega|exact Nat.le_refl _⟩,⟨zh BK381⟩,⟨zs1 HB GE381⟩⟩
  subst c7;rw[if_pos rfl]at H;replace H:=zbd H;obtain⟨t384,A8,H⟩:=H;have H':=zA H;clear H;obtain⟨hcz9_0,hcz9_1,hcz9_2,hcz9_3,hcz9_4⟩:=zd5 BK381;obtain⟨hfz9_0,hfz9_1,hfz9_2,hfz9_3,hfz9_4⟩:=zn5 BK381
  go_wp2_with (first|((with_reducible refine gate_callee (f:=142) rfl ?_);refine zgl (N:=some 8) Try.func142 #[.agg #[.int .i64 a0_0,.int .i64 a0_1]] ?_;(with_reducible refine(impl_FlyKindOk.calls a0_0 a0_1 true _ A4.out).mono ?_);rintro e w10 ⟨rfl,hb⟩;refine⟨_,rfl,?_⟩;replace BK381:=zb BK381 hb;replace HB:=zE (zs1 HB GE381) hb;(try clear hb);(try clear hb2);(try clear hk);(try clear hi);obtain⟨hcz11_0,hcz11_1,hcz11_2,hcz11_3,hcz11_4⟩:=zd5 BK381;obtain⟨hfz11_0,hfz11_1,hfz11_2,hfz11_3,hfz11_4⟩:=zn5 BK381)|(go_at_call 93;(with_reducible refine(impl_within.calls (l0_2.length:Int) 1 40 true _ A6.out).mono ?_);rintro e w' ⟨rfl,⟨nd,rfl⟩⟩)|(go_at_call 143;(with_reducible refine(impl_window.calls a0_3 a0_4 t384 _ A8.out).mono ?_);rintro e w' ⟨rfl,⟨nd,rfl⟩⟩))
  go_meet
  case rel=>exact⟨_,(!t384),zi,H',⟨by first|omega|exact Nat.le_refl _⟩,⟨zh BK381⟩,⟨zs1 HB GE381⟩⟩
 case rest=>
  clear HC2
  try clear c1
  try clear p2
  try clear c5
  try clear c7
  try clear c9
  try clear c14
  try clear hcz11_0 hcz11_1 hcz11_2 hcz11_3 hcz11_4
  try clear hcz12_0 hcz12_1 hcz12_2 hcz12_3 hcz12_4
  try clear hcz14_0 hcz14_1 hcz14_2 hcz14_3 hcz14_4
  try clear hcz15_0 hcz15_1 hcz15_2 hcz15_3 hcz15_4
  try clear hcz9_0 hcz9_1 hcz9_2 hcz9_3 hcz9_4
  try clear hfz11_0 hfz11_1 hfz11_2 hfz11_3 hfz11_4
  try clear hfz12_0 hfz12_1 hfz12_2 hfz12_3 hfz12_4
  try clear hfz14_0 hfz14_1 hfz14_2 hfz14_3 hfz14_4
  try clear hfz15_0 hfz15_1 hfz15_2 hfz15_3 hfz15_4
  try clear hfz9_0 hfz9_1 hfz9_2 hfz9_3 hfz9_4
  obtain⟨kq,x24_1,rfl,HA,HJ1,BK381,HB⟩:=hcut
  cases kq with
  |zero=>exact absurd HA.out (by simp[impl_FlyPathOk.j0])
  |succ kj1=>
   have H:=HA.out;clear HA;simp only[impl_FlyPathOk.j0]at H
   by_cases c17:x24_1=true
   ·subst c17
    rw[if_pos rfl]at H;obtain rfl:=Option.some.inj H
    go_wp2
    go_ret;exact⟨ze,zs1 HB GE381⟩
   replace c17:=Bool.eq_false_iff.mpr c17;subst c17;rw[if_neg zfn]at H;have H':=zA H;clear H;obtain⟨hcz18_0,hcz18_1,hcz18_2,hcz18_3,hcz18_4⟩:=zd5 BK381;obtain⟨hfz18_0,hfz18_1,hfz18_2,hfz18_3,hfz18_4⟩:=zn5 BK381
   go_wp2
   go_loopg [28] kj1 (fun kq v28 w'=> ∃(x28_2:Int),v28= .int .i64 x28_2∧Aside0 (impl_FlyPathOk.l0 kq l0_2 (l0_2.length:Int) x28_2 a0_0 a0_1 l0_2 a0_3 a0_4=some r)∧Aside0 (kq≤kj1)∧Aside0 (w'.heap[gb381]?=some (.cells #[.int .i64 a0_0,.int .i64 a0_1,(.slice A0_2 l0_2.length c0_2),.int .i64 a0_3,.int .i64 a0_4] 68 (0,0)))∧Aside0 (Below w.heap.size w w'))
   case atStart=>exact⟨(0),zi,H',⟨Nat.le_refl _⟩,⟨zh BK381⟩,⟨zs1 HB GE381⟩⟩
   case round=>
    clear H'
    try clear c1
    try clear p2
    try clear c5
    try clear c7
    try clear c9
    try clear c14
    try clear c17
    try clear hcz11_0 hcz11_1 hcz11_2 hcz11_3 hcz11_4
    try clear hcz12_0 hcz12_1 hcz12_2 hcz12_3 hcz12_4
    try clear hcz14_0 hcz14_1 hcz14_2 hcz14_3 hcz14_4
    try clear hcz15_0 hcz15_1 hcz15_2 hcz15_3 hcz15_4
    try clear hcz18_0 hcz18_1 hcz18_2 hcz18_3 hcz18_4
    try clear hcz9_0 hcz9_1 hcz9_2 hcz9_3 hcz9_4
    try clear hfz11_0 hfz11_1 hfz11_2 hfz11_3 hfz11_4
    try clear hfz12_0 hfz12_1 hfz12_2 hfz12_3 hfz12_4
    try clear hfz14_0 hfz14_1 hfz14_2 hfz14_3 hfz14_4
    try clear hfz15_0 hfz15_1 hfz15_2 hfz15_3 hfz15_4
    try clear hfz18_0 hfz18_1 hfz18_2 hfz18_3 hfz18_4
    try clear hfz9_0 hfz9_1 hfz9_2 hfz9_3 hfz9_4
    try clear p2
    obtain⟨x28_2,rfl,HA,HK2,BK381,HB⟩:=hrel
    cases gk with
    |zero=>exact absurd HA.out (by simp[impl_FlyPathOk.l0])
    |succ k2=>
     have H:=HA.out;clear HA;simp only[impl_FlyPathOk.l0]at H
     by_cases c19:x28_2<(l0_2.length:Int)
     rotate_left
     ·rw[if_neg c19]at H
      have c19b0:decide (x28_2<(l0_2.length:Int))=false:=decide_eq_false c19;clear c19;obtain rfl:=Option.some.inj H
      go_wp2
      go_ret;exact⟨ze,zs1 HB GE381⟩
     rw[if_pos c19]at H;have c19b0:decide (x28_2<(l0_2.length:Int))=true:=decide_eq_true c19;clear c19;replace H:=zif H;obtain⟨c20b0,H⟩:=H
     by_cases c21:x28_2<(l0_2.length:Int)
     rotate_left
     ·rw[if_neg c21]at H
      exact absurd H (by simp)
     rw[if_pos c21]at H;have c21b0:decide (x28_2<(l0_2.length:Int))=true:=decide_eq_true c21;clear c21;have HC22:=zA H;clear H;have p385:0≤(x28_2:Int):=za;have q385:x28_2<(l0_2.length:Int):=za;obtain⟨ad385,e385,hx385_0,hx385_1,hx385_2,hx385_3,hx385_4,hx385_5,hx385_6⟩:=at_T132 HR0_2.out x28_2 p385 q385;cases e385;replace hx385_0:=zx HB hx385_0;replace hx385_1:=zx HB hx385_1;replace hx385_2:=zx HB hx385_2;replace hx385_3:=zx HB hx385_3;replace hx385_4:=zx HB hx385_4;replace hx385_5:=zx HB hx385_5;replace hx385_6:=zx HB hx385_6;replace p385:=eq_true p385;replace q385:=eq_true q385
     go_upto_region 6 with(first|((with_reducible refine gate_dst (N:=4) rfl ?_);(try(refine gate_guard (by rfl) ?_;dsimp only));refine zbx 4 #[.int .i64 0,.int .i64 0,.int .i64 0,.int .i64 0,.int .i64 0,.int .i64 0,.bool false] 132 ?_;intro gb386 hg w23 hbox hb;have BK386:=zA hbox;have GW386:=zgs hg (zs1 HB GE381);have GE386:=zgs hg (zs1 HB GE381);have NB381_386:=zne hg BK381;have NB386_381:=znf hg BK381;replace BK381:=zb BK381 hb;replace HB:=zE (zs1 HB GE381) hb;clear hb hbox hg;have hnb24:=NB386_381.out;have hnc24:=NB381_386.out;obtain⟨hcz25_0,hcz25_1,hcz25_2,hcz25_3,hcz25_4,hcz25_5,hcz25_6⟩:=zd7 BK386;obtain⟨hfz25_0,hfz25_1,hfz25_2,hfz25_3,hfz25_4,hfz25_5,hfz25_6⟩:=zn7 BK386))
     (try simp only[Act.put,List.setIfInBounds_toArray,List.set_cons_zero,List.set_cons_succ])
     go_cut [68] (fun v68 wc=> ∃(kq:Nat) (x68_21:Bool),v68= .bool x68_21∧Aside0 (impl_FlyPathOk.j2 kq x28_2 l0_2 (l0_2.length:Int) x28_2 x68_21 a0_0 a0_1 l0_2 a0_3 a0_4 ((rd_T132 l0_2 x28_2).f0) ((rd_T132 l0_2 x28_2).f1) ((rd_T132 l0_2 x28_2).f2) ((rd_T132 l0_2 x28_2).f3) ((rd_T132 l0_2 x28_2).f4) ((rd_T132 l0_2 x28_2).f5) ((rd_T132 l0_2 x28_2).f6)=some r)∧Aside0 (kq≤k2)∧Aside0 (wc.heap[gb381]?=some (.cells #[.int .i64 a0_0,.int .i64 a0_1,(.slice (some ad385) l0_2.length c0_2),.int .i64 a0_3,.int .i64 a0_4] 68 (0,0)))∧Aside0 (wc.heap[gb386]?=some (.cells #[.int .i64 ((rd_T132 l0_2 x28_2).f0),.int .i64 ((rd_T132 l0_2 x28_2).f1),.int .i64 ((rd_T132 l0_2 x28_2).f2),.int .i64 ((rd_T132 l0_2 x28_2).f3),.int .i64 ((rd_T132 l0_2 x28_2).f4),.int .i64 ((rd_T132 l0_2 x28_2).f5),.bool ((rd_T132 l0_2 x28_2).f6)] 132 (0,0)))∧Aside0 (Below w.heap.size w wc))
     case first=>
      have H:=HC22.out;clear HC22;replace H:=zbd H;obtain⟨t387,A26,H⟩:=H
      by_cases c27:t387=true
      rotate_left
      ·replace c27:=Bool.eq_false_iff.mpr c27
       subst c27;rw[if_neg zfn]at H;have H':=zA H;clear H;have hnb44:=NB386_381.out;have hnc44:=NB381_386.out;obtain⟨hcz45_0,hcz45_1,hcz45_2,hcz45_3,hcz45_4,hcz45_5,hcz45_6⟩:=zd7 BK386;obtain⟨hfz45_0,hfz45_1,hfz45_2,hfz45_3,hfz45_4,hfz45_5,hfz45_6⟩:=zn7 BK386
       go_wp2_with (first|((with_reducible refine gate_callee (f:=93) rfl ?_);refine zgl (N:=some 35) Try.func93 #[.int .i64 ((rd_T132 l0_2 x28_2).f0),.int .i64 0,.int .i64 15] ?_;(with_reducible refine(impl_within.calls ((rd_T132 l0_2 x28_2).f0) 0 15 false _ A26.out).mono ?_);rintro e w' ⟨rfl,⟨nd,rfl⟩⟩;refine⟨_,rfl,?_⟩))
       go_meet
       case rel=>exact⟨_,(true),zi,H',⟨by have:=HJ1.out;have:=HK2.out;first|omega|exact Nat.le_refl _⟩,⟨zpf BK381 NB381_386⟩,⟨zpb BK386⟩,⟨zs2 HB GE381 GE386⟩⟩
      subst c27;rw[if_pos rfl]at H;replace H:=zbd H;obtain⟨t388,A28,H⟩:=H
      by_cases c29:t388=true
      rotate_left
      ·replace c29:=Bool.eq_false_iff.mpr c29
       subst c29;rw[if_neg zfn]at H;have H':=zA H;clear H;have hnb42:=NB386_381.out;have hnc42:=NB381_386.out;obtain⟨hcz43_0,hcz43_1,hcz43_2,hcz43_3,hcz43_4,hcz43_5,hcz43_6⟩:=zd7 BK386;obtain⟨hfz43_0,hfz43_1,hfz43_2,hfz43_3,hfz43_4,hfz43_5,hfz43_6⟩:=zn7 BK386
       go_wp2_with (first|((with_reducible refine gate_callee (f:=93) rfl ?_);refine zgl (N:=some 35) Try.func93 #[.int .i64 ((rd_T132 l0_2 x28_2).f0),.int .i64 0,.int .i64 15] ?_;(with_reducible refine(impl_within.calls ((rd_T132 l0_2 x28_2).f0) 0 15 true _ A26.out).mono ?_);rintro e w' ⟨rfl,⟨nd,rfl⟩⟩;refine⟨_,rfl,?_⟩)|(go_at_call 93;(with_reducible refine(impl_within.calls ((rd_T132 l0_2 x28_2).f1) 0 15 false _ A28.out).mono ?_);rintro e w' ⟨rfl,⟨nd,rfl⟩⟩))
       go_meet
       case rel=>exact⟨_,(true),zi,H',⟨by have:=HJ1.out;have:=HK2.out;first|omega|exact Nat.le_refl _⟩,⟨zpf BK381 NB381_386⟩,⟨zpb BK386⟩,⟨zs2 HB GE381 GE386⟩⟩
      subst c29;rw[if_pos rfl]at H
      by_cases c30:0≤((rd_T132 l0_2 x28_2).f2)
      rotate_left
      ·rw[if_neg c30]at H
       have c30b0:decide (0≤((rd_T132 l0_2 x28_2).f2))=false:=decide_eq_false c30;clear c30;(first|rw[c30b0]|(simp only[i64_w,i32_w];rw[c30b0])|skip);have H':=zA H;clear H;have hnb40:=NB386_381.out;have hnc40:=NB381_386.out;obtain⟨hcz41_0,hcz41_1,hcz41_2,hcz41_3,hcz41_4,hcz41_5,hcz41_6⟩:=zd7 BK386;obtain⟨hfz41_0,hfz41_1,hfz41_2,hfz41_3,hfz41_4,hfz41_5,hfz41_6⟩:=zn7 BK386
       go_wp2_with (first|((with_reducible refine gate_callee (f:=93) rfl ?_);refine zgl (N:=some 35) Try.func93 #[.int .i64 ((rd_T132 l0_2 x28_2).f0),.int .i64 0,.int .i64 15] ?_;(with_reducible refine(impl_within.calls ((rd_T132 l0_2 x28_2).f0) 0 15 true _ A26.out).mono ?_);rintro e w' ⟨rfl,⟨nd,rfl⟩⟩;refine⟨_,rfl,?_⟩)|(go_at_call 93;(with_reducible refine(impl_within.calls ((rd_T132 l0_2 x28_2).f1) 0 15 true _ A28.out).mono ?_);rintro e w' ⟨rfl,⟨nd,rfl⟩⟩))
       go_meet
       case rel=>exact⟨_,(true),zi,H',⟨by have:=HJ1.out;have:=HK2.out;first|omega|exact Nat.le_refl _⟩,⟨zpf BK381 NB381_386⟩,⟨zpb BK386⟩,⟨zs2 HB GE381 GE386⟩⟩
      rw[if_pos c30]at H;have c30b0:decide (0≤((rd_T132 l0_2 x28_2).f2))=true:=decide_eq_true c30;clear c30;(first|rw[c30b0]|(simp only[i64_w,i32_w];rw[c30b0])|skip)
      by_cases c31:((rd_T132 l0_2 x28_2).f2)≤((rd_T132 l0_2 x28_2).f3)
      rotate_left
      ·rw[if_neg c31]at H
       have c31b0:decide (((rd_T132 l0_2 x28_2).f2)≤((rd_T132 l0_2 x28_2).f3))=false:=decide_eq_false c31;clear c31;have H':=zA H;clear H;have hnb38:=NB386_381.out;have hnc38:=NB381_386.out;obtain⟨hcz39_0,hcz39_1,hcz39_2,hcz39_3,hcz39_4,hcz39_5,hcz39_6⟩:=zd7 BK386;obtain⟨hfz39_0,hfz39_1,hfz39_2,hfz39_3,hfz39_4,hfz39_5,hfz39_6⟩:=zn7 BK386
       go_wp2_with (first|((with_reducible refine gate_callee (f:=93) rfl ?_);refine zgl (N:=some 35) Try.func93 #[.int .i64 ((rd_T132 l0_2 x28_2).f0),.int .i64 0,.int .i64 15] ?_;(with_reducible refine(impl_within.calls ((rd_T132 l0_2 x28_2).f0) 0 15 true _ A26.out).mono ?_);rintro e w' ⟨rfl,⟨nd,rfl⟩⟩;refine⟨_,rfl,?_⟩)|(go_at_call 93;(with_reducible refine(impl_within.calls ((rd_T132 l0_2 x28_2).f1) 0 15 true _ A28.out).mono ?_);rintro e w' ⟨rfl,⟨nd,rfl⟩⟩))
       go_meet
       case rel=>exact⟨_,(true),zi,H',⟨by have:=HJ1.out;have:=HK2.out;first|omega|exact Nat.le_refl _⟩,⟨zpf BK381 NB381_386⟩,⟨zpb BK386⟩,⟨zs2 HB GE381 GE386⟩⟩
      rw[if_pos c31]at H;have c31b0:decide (((rd_T132 l0_2 x28_2).f2)≤((rd_T132 l0_2 x28_2).f3))=true:=decide_eq_true c31;clear c31
      by_cases c32:(((rd_T132 l0_2 x28_2).f3)≤6)
      rotate_left
      ·rw[if_neg c32]at H
       have c32b0:decide (((rd_T132 l0_2 x28_2).f3)≤6)=false:=decide_eq_false c32;clear c32;have H':=zA H;clear H;have hnb36:=NB386_381.out;have hnc36:=NB381_386.out;obtain⟨hcz37_0,hcz37_1,hcz37_2,hcz37_3,hcz37_4,hcz37_5,hcz37_6⟩:=zd7 BK386;obtain⟨hfz37_0,hfz37_1,hfz37_2,hfz37_3,hfz37_4,hfz37_5,hfz37_6⟩:=zn7 BK386
       go_wp2_with (first|((with_reducible refine gate_callee (f:=93) rfl ?_);refine zgl (N:=some 35) Try.func93 #[.int .i64 ((rd_T132 l0_2 x28_2).f0),.int .i64 0,.int .i64 15] ?_;(with_reducible refine(impl_within.calls ((rd_T132 l0_2 x28_2).f0) 0 15 true _ A26.out).mono ?_);rintro e w' ⟨rfl,⟨nd,rfl⟩⟩;refine⟨_,rfl,?_⟩)|(go_at_call 93;(with_reducible refine(impl_within.calls ((rd_T132 l0_2 x28_2).f1) 0 15 true _ A28.out).mono ?_);rintro e w' ⟨rfl,⟨nd,rfl⟩⟩))
       go_meet
       case rel=>exact⟨_,(true),zi,H',⟨by have:=HJ1.out;have:=HK2.out;first|omega|exact Nat.le_refl _⟩,⟨zpf BK381 NB381_386⟩,⟨zpb BK386⟩,⟨zs2 HB GE381 GE386⟩⟩
      rw[if_pos c32]at H;have c32b0:decide (((rd_T132 l0_2 x28_2).f3)≤6)=true:=decide_eq_true c32;clear c32;replace H:=zbd H;obtain⟨t389,A33,H⟩:=H;have H':=zA H;clear H;have hnb34:=NB386_381.out;have hnc34:=NB381_386.out;obtain⟨hcz35_0,hcz35_1,hcz35_2,hcz35_3,hcz35_4,hcz35_5,hcz35_6⟩:=zd7 BK386;obtain⟨hfz35_0,hfz35_1,hfz35_2,hfz35_3,hfz35_4,hfz35_5,hfz35_6⟩:=zn7 BK386
      go_wp2_with (first|((with_reducible refine gate_callee (f:=93) rfl ?_);refine zgl (N:=some 35) Try.func93 #[.int .i64 ((rd_T132 l0_2 x28_2).f0),.int .i64 0,.int .i64 15] ?_;(with_reducible refine(impl_within.calls ((rd_T132 l0_2 x28_2).f0) 0 15 true _ A26.out).mono ?_);rintro e w' ⟨rfl,⟨nd,rfl⟩⟩;refine⟨_,rfl,?_⟩)|(go_at_call 93;(with_reducible refine(impl_within.calls ((rd_T132 l0_2 x28_2).f1) 0 15 true _ A28.out).mono ?_);rintro e w' ⟨rfl,⟨nd,rfl⟩⟩)|(go_at_call 143;(with_reducible refine(impl_window.calls ((rd_T132 l0_2 x28_2).f4) ((rd_T132 l0_2 x28_2).f5) t389 _ A33.out).mono ?_);rintro e w' ⟨rfl,⟨nd,rfl⟩⟩))
      go_meet
      case rel=>exact⟨_,(!t389),zi,H',⟨by have:=HJ1.out;have:=HK2.out;first|omega|exact Nat.le_refl _⟩,⟨zpf BK381 NB381_386⟩,⟨zpb BK386⟩,⟨zs2 HB GE381 GE386⟩⟩
     case rest=>
      clear HC22
      try clear c1
      try clear c2
      try clear p2
      try clear c3
      try clear p3
      try clear q3
      try clear hx3
      try clear c4
      try clear c5
      try clear c7
      try clear c9
      try clear c14
      try clear c17
      try clear c19
      try clear c19b0
      try clear c20
      try clear c20b0
      try clear c21
      try clear c21b0
      try clear c24
      try clear c27
      try clear c29
      try clear c30
      try clear c30b0
      try clear c31
      try clear c31b0
      try clear c32
      try clear c32b0
      try clear c34
      try clear c36
      try clear c38
      try clear p38
      try clear q38
      try clear hx38
      try clear c40
      try clear c42
      try clear c44
      try clear hcz11_0 hcz11_1 hcz11_2 hcz11_3 hcz11_4
      try clear hcz12_0 hcz12_1 hcz12_2 hcz12_3 hcz12_4
      try clear hcz14_0 hcz14_1 hcz14_2 hcz14_3 hcz14_4
      try clear hcz15_0 hcz15_1 hcz15_2 hcz15_3 hcz15_4
      try clear hcz18_0 hcz18_1 hcz18_2 hcz18_3 hcz18_4
      try clear hcz25_0 hcz25_1 hcz25_2 hcz25_3 hcz25_4 hcz25_5 hcz25_6
      try clear hcz35_0 hcz35_1 hcz35_2 hcz35_3 hcz35_4 hcz35_5 hcz35_6
      try clear hcz37_0 hcz37_1 hcz37_2 hcz37_3 hcz37_4 hcz37_5 hcz37_6
      try clear hcz39_0 hcz39_1 hcz39_2 hcz39_3 hcz39_4 hcz39_5 hcz39_6
      try clear hcz41_0 hcz41_1 hcz41_2 hcz41_3 hcz41_4 hcz41_5 hcz41_6
      try clear hcz43_0 hcz43_1 hcz43_2 hcz43_3 hcz43_4 hcz43_5 hcz43_6
      try clear hcz45_0 hcz45_1 hcz45_2 hcz45_3 hcz45_4 hcz45_5 hcz45_6
      try clear hcz9_0 hcz9_1 hcz9_2 hcz9_3 hcz9_4
      try clear hfz11_0 hfz11_1 hfz11_2 hfz11_3 hfz11_4
      try clear hfz12_0 hfz12_1 hfz12_2 hfz12_3 hfz12_4
      try clear hfz14_0 hfz14_1 hfz14_2 hfz14_3 hfz14_4
      try clear hfz15_0 hfz15_1 hfz15_2 hfz15_3 hfz15_4
      try clear hfz18_0 hfz18_1 hfz18_2 hfz18_3 hfz18_4
      try clear hfz25_0 hfz25_1 hfz25_2 hfz25_3 hfz25_4 hfz25_5 hfz25_6
      try clear hfz35_0 hfz35_1 hfz35_2 hfz35_3 hfz35_4 hfz35_5 hfz35_6
      try clear hfz37_0 hfz37_1 hfz37_2 hfz37_3 hfz37_4 hfz37_5 hfz37_6
      try clear hfz39_0 hfz39_1 hfz39_2 hfz39_3 hfz39_4 hfz39_5 hfz39_6
      try clear hfz41_0 hfz41_1 hfz41_2 hfz41_3 hfz41_4 hfz41_5 hfz41_6
      try clear hfz43_0 hfz43_1 hfz43_2 hfz43_3 hfz43_4 hfz43_5 hfz43_6
      try clear hfz45_0 hfz45_1 hfz45_2 hfz45_3 hfz45_4 hfz45_5 hfz45_6
      try clear hfz9_0 hfz9_1 hfz9_2 hfz9_3 hfz9_4
      try clear hx385_0
      try clear hx385_1
      try clear hx385_2
      try clear hx385_3
      try clear hx385_4
      try clear hx385_5
      try clear hx385_6
      try clear p2
      try clear p385
      try clear q385
      obtain⟨kq,x68_21,rfl,HA,HJ21,BK381,BK386,HB⟩:=hcut
      cases kq with
      |zero=>exact absurd HA.out (by simp[impl_FlyPathOk.j2])
      |succ kj21=>
       have H:=HA.out;clear HA;simp only[impl_FlyPathOk.j2]at H
       by_cases c46:x68_21=true
       ·subst c46
        rw[if_pos rfl]at H;obtain rfl:=Option.some.inj H
        go_wp2
        go_ret;exact⟨ze,zs2 HB GE381 GE386⟩
       replace c46:=Bool.eq_false_iff.mpr c46;subst c46;rw[if_neg zfn]at H
       by_cases c47:x28_2=0
       ·rw[if_pos c47]at H
        have c47b0:(x28_2==0)=true:=beq_iff_eq.mpr c47;have c47b1:(x28_2 !=0)=false:=bne_eq_false_iff_eq.mpr c47;clear c47;have H':=zA H;clear H
        go_wp2
        go_roundg kj21
        case measure=>have:=HJ1.out;have:=HK2.out;have:=HJ21.out;omega
        case rel=>exact⟨(wrap64 (x28_2+1)),zi,H',⟨by have:=HJ1.out;have:=HK2.out;have:=HJ21.out;omega⟩,⟨zh BK381⟩,⟨zs2 HB GE381 GE386⟩⟩
       rw[if_neg c47]at H;have c47b0:(x28_2==0)=false:=beq_eq_false_iff_ne.mpr c47;have c47b1:(x28_2 !=0)=true:=bne_iff_ne.mpr c47;obtain⟨ji48,hji48⟩: ∃j_:Int,(wrap64 (x28_2-1))=j_:=⟨_,rfl⟩
       first|rw[hji48]at H|simp only[hji48]at H
       have hji48w:(IntKind.i64.wrap (x28_2-1))=ji48:=(i64_w _).trans hji48;replace H:=zif H;obtain⟨c49b0,H⟩:=H
       by_cases c50:(ji48)<(l0_2.length:Int)
       rotate_left
       ·rw[if_neg c50]at H
        exact absurd H (by simp)
       rw[if_pos c50]at H;have c50b0:decide ((ji48)<(l0_2.length:Int))=true:=decide_eq_true c50;clear c50
       by_cases c51:((rd_T132 l0_2 (ji48)).f0)=((rd_T132 l0_2 x28_2).f0)
       rotate_left
       ·rw[if_neg c51]at H
        have c51b0:(((rd_T132 l0_2 (ji48)).f0)==((rd_T132 l0_2 x28_2).f0))=false:=beq_eq_false_iff_ne.mpr c51;have c51b1:(((rd_T132 l0_2 (ji48)).f0) !=((rd_T132 l0_2 x28_2).f0))=true:=bne_iff_ne.mpr c51;replace H:=zbd H;obtain⟨t394,A101,H⟩:=H
        by_cases c102:t394>1
        ·rw[if_pos c102]at H
         have c102b0:decide (1<t394)=true:=decide_eq_true c102;clear c102;obtain rfl:=Option.some.inj H;have hnb103:=NB381_386.out;have hnc103:=NB386_381.out;obtain⟨hcz104_0,hcz104_1,hcz104_2,hcz104_3,hcz104_4⟩:=zd5 BK381;obtain⟨hfz104_0,hfz104_1,hfz104_2,hfz104_3,hfz104_4⟩:=zn5 BK381;have p390:0≤((ji48):Int):=za;have q390:(ji48)<(l0_2.length:Int):=za;obtain⟨ad390,e390,hx390_0,hx390_1,hx390_2,hx390_3,hx390_4,hx390_5,hx390_6⟩:=at_T132 HR0_2.out (ji48) p390 q390;obtain rfl:ad385=ad390:=(by injection e390);replace hx390_0:=zx HB hx390_0;replace hx390_1:=zx HB hx390_1;replace hx390_2:=zx HB hx390_2;replace hx390_3:=zx HB hx390_3;replace hx390_4:=zx HB hx390_4;replace hx390_5:=zx HB hx390_5;replace hx390_6:=zx HB hx390_6;replace p390:=eq_true p390;replace q390:=eq_true q390
         go_wp2_with (first|((with_reducible refine gate_dst (N:=5) rfl ?_);(try(refine gate_guard (by rfl) ?_;dsimp only));refine zbx 5 #[.int .i64 0,.int .i64 0,.int .i64 0,.int .i64 0,.int .i64 0,.int .i64 0,.bool false] 132 ?_;intro gb391 hg w105 hbox hb;have BK391:=zA hbox;have GW391:=zgs hg (zs2 HB GE381 GE386);have GE391:=zgs hg (zs2 HB GE381 GE386);have NB381_391:=zne hg BK381;have NB391_381:=znf hg BK381;have NB386_391:=zne hg BK386;have NB391_386:=znf hg BK386;replace BK381:=zb BK381 hb;replace BK386:=zb BK386 hb;replace HB:=zE (zs2 HB GE381 GE386) hb;clear hb hbox hg;have hnb106:=NB391_381.out;have hnc106:=NB381_391.out;have hnb107:=NB391_386.out;have hnc107:=NB386_391.out;obtain⟨hcz108_0,hcz108_1,hcz108_2,hcz108_3,hcz108_4,hcz108_5,hcz108_6⟩:=zd7 BK391;obtain⟨hfz108_0,hfz108_1,hfz108_2,hfz108_3,hfz108_4,hfz108_5,hfz108_6⟩:=zn7 BK391;obtain⟨hcz109_0,hcz109_1,hcz109_2,hcz109_3,hcz109_4,hcz109_5,hcz109_6⟩:=zd7 BK386;obtain⟨hfz109_0,hfz109_1,hfz109_2,hfz109_3,hfz109_4,hfz109_5,hfz109_6⟩:=zn7 BK386)|(go_at_call 111;(with_reducible refine(impl_dist.calls ((rd_T132 l0_2 (ji48)).f0) ((rd_T132 l0_2 x28_2).f0) t394 _ A101.out).mono ?_);rintro e w' ⟨rfl,⟨nd,rfl⟩⟩))
         go_ret;exact⟨by first|rfl|(simp[errW_none,errW_some]<;>rfl)|(simp only[←hji48];first|rfl|(simp[errW_none,errW_some]<;>rfl))|(simp[*,errW_none,errW_some]<;>rfl),zs3 HB GE381 GE386 GE391⟩
        rw[if_neg c102]at H;have c102b0:decide (1<t394)=false:=decide_eq_false c102;clear c102;replace H:=zbd H;obtain⟨t395,A110,H⟩:=H
        by_cases c111:t395>1
        ·rw[if_pos c111]at H
         have c111b0:decide (1<t395)=true:=decide_eq_true c111;clear c111;obtain rfl:=Option.some.inj H;have hnb112:=NB381_386.out;have hnc112:=NB386_381.out;obtain⟨hcz113_0,hcz113_1,hcz113_2,hcz113_3,hcz113_4⟩:=zd5 BK381;obtain⟨hfz113_0,hfz113_1,hfz113_2,hfz113_3,hfz113_4⟩:=zn5 BK381;have p390:0≤((ji48):Int):=za;have q390:(ji48)<(l0_2.length:Int):=za;obtain⟨ad390,e390,hx390_0,hx390_1,hx390_2,hx390_3,hx390_4,hx390_5,hx390_6⟩:=at_T132 HR0_2.out (ji48) p390 q390;obtain rfl:ad385=ad390:=(by injection e390);replace hx390_0:=zx HB hx390_0;replace hx390_1:=zx HB hx390_1;replace hx390_2:=zx HB hx390_2;replace hx390_3:=zx HB hx390_3;replace hx390_4:=zx HB hx390_4;replace hx390_5:=zx HB hx390_5;replace hx390_6:=zx HB hx390_6;replace p390:=eq_true p390;replace q390:=eq_true q390
         go_wp2_with (first|((with_reducible refine gate_dst (N:=5) rfl ?_);(try(refine gate_guard (by rfl) ?_;dsimp only));refine zbx 5 #[.int .i64 0,.int .i64 0,.int .i64 0,.int .i64 0,.int .i64 0,.int .i64 0,.bool false] 132 ?_;intro gb391 hg w114 hbox hb;have BK391:=zA hbox;have GW391:=zgs hg (zs2 HB GE381 GE386);have GE391:=zgs hg (zs2 HB GE381 GE386);have NB381_391:=zne hg BK381;have NB391_381:=znf hg BK381;have NB386_391:=zne hg BK386;have NB391_386:=znf hg BK386;replace BK381:=zb BK381 hb;replace BK386:=zb BK386 hb;replace HB:=zE (zs2 HB GE381 GE386) hb;clear hb hbox hg;have hnb115:=NB391_381.out;have hnc115:=NB381_391.out;have hnb116:=NB391_386.out;have hnc116:=NB386_391.out;obtain⟨hcz117_0,hcz117_1,hcz117_2,hcz117_3,hcz117_4,hcz117_5,hcz117_6⟩:=zd7 BK391;obtain⟨hfz117_0,hfz117_1,hfz117_2,hfz117_3,hfz117_4,hfz117_5,hfz117_6⟩:=zn7 BK391;obtain⟨hcz118_0,hcz118_1,hcz118_2,hcz118_3,hcz118_4,hcz118_5,hcz118_6⟩:=zd7 BK386;obtain⟨hfz118_0,hfz118_1,hfz118_2,hfz118_3,hfz118_4,hfz118_5,hfz118_6⟩:=zn7 BK386)|(go_at_call 111;(with_reducible refine(impl_dist.calls ((rd_T132 l0_2 (ji48)).f0) ((rd_T132 l0_2 x28_2).f0) t394 _ A101.out).mono ?_);rintro e w' ⟨rfl,⟨nd,rfl⟩⟩)|(go_at_call 111;(with_reducible refine(impl_dist.calls ((rd_T132 l0_2 (ji48)).f1) ((rd_T132 l0_2 x28_2).f1) t395 _ A110.out).mono ?_);rintro e w' ⟨rfl,⟨nd,rfl⟩⟩))
         go_ret;exact⟨by first|rfl|(simp[errW_none,errW_some]<;>rfl)|(simp only[←hji48];first|rfl|(simp[errW_none,errW_some]<;>rfl))|(simp[*,errW_none,errW_some]<;>rfl),zs3 HB GE381 GE386 GE391⟩
        rw[if_neg c111]at H;have c111b0:decide (1<t395)=false:=decide_eq_false c111;clear c111
        by_cases c119:((rd_T132 l0_2 (ji48)).f2)>((rd_T132 l0_2 x28_2).f3)
        ·rw[if_pos c119]at H
         have c119b0:decide (((rd_T132 l0_2 x28_2).f3)<((rd_T132 l0_2 (ji48)).f2))=true:=decide_eq_true c119;clear c119;obtain rfl:=Option.some.inj H;have hnb120:=NB381_386.out;have hnc120:=NB386_381.out;obtain⟨hcz121_0,hcz121_1,hcz121_2,hcz121_3,hcz121_4⟩:=zd5 BK381;obtain⟨hfz121_0,hfz121_1,hfz121_2,hfz121_3,hfz121_4⟩:=zn5 BK381;have p390:0≤((ji48):Int):=za;have q390:(ji48)<(l0_2.length:Int):=za;obtain⟨ad390,e390,hx390_0,hx390_1,hx390_2,hx390_3,hx390_4,hx390_5,hx390_6⟩:=at_T132 HR0_2.out (ji48) p390 q390;obtain rfl:ad385=ad390:=(by injection e390);replace hx390_0:=zx HB hx390_0;replace hx390_1:=zx HB hx390_1;replace hx390_2:=zx HB hx390_2;replace hx390_3:=zx HB hx390_3;replace hx390_4:=zx HB hx390_4;replace hx390_5:=zx HB hx390_5;replace hx390_6:=zx HB hx390_6;replace p390:=eq_true p390;replace q390:=eq_true q390
         go_wp2_with (first|((with_reducible refine gate_dst (N:=5) rfl ?_);(try(refine gate_guard (by rfl) ?_;dsimp only));refine zbx 5 #[.int .i64 0,.int .i64 0,.int .i64 0,.int .i64 0,.int .i64 0,.int .i64 0,.bool false] 132 ?_;intro gb391 hg w122 hbox hb;have BK391:=zA hbox;have GW391:=zgs hg (zs2 HB GE381 GE386);have GE391:=zgs hg (zs2 HB GE381 GE386);have NB381_391:=zne hg BK381;have NB391_381:=znf hg BK381;have NB386_391:=zne hg BK386;have NB391_386:=znf hg BK386;replace BK381:=zb BK381 hb;replace BK386:=zb BK386 hb;replace HB:=zE (zs2 HB GE381 GE386) hb;clear hb hbox hg;have hnb123:=NB391_381.out;have hnc123:=NB381_391.out;have hnb124:=NB391_386.out;have hnc124:=NB386_391.out;obtain⟨hcz125_0,hcz125_1,hcz125_2,hcz125_3,hcz125_4,hcz125_5,hcz125_6⟩:=zd7 BK391;obtain⟨hfz125_0,hfz125_1,hfz125_2,hfz125_3,hfz125_4,hfz125_5,hfz125_6⟩:=zn7 BK391;obtain⟨hcz126_0,hcz126_1,hcz126_2,hcz126_3,hcz126_4,hcz126_5,hcz126_6⟩:=zd7 BK386;obtain⟨hfz126_0,hfz126_1,hfz126_2,hfz126_3,hfz126_4,hfz126_5,hfz126_6⟩:=zn7 BK386)|(go_at_call 111;(with_reducible refine(impl_dist.calls ((rd_T132 l0_2 (ji48)).f0) ((rd_T132 l0_2 x28_2).f0) t394 _ A101.out).mono ?_);rintro e w' ⟨rfl,⟨nd,rfl⟩⟩)|(go_at_call 111;(with_reducible refine(impl_dist.calls ((rd_T132 l0_2 (ji48)).f1) ((rd_T132 l0_2 x28_2).f1) t395 _ A110.out).mono ?_);rintro e w' ⟨rfl,⟨nd,rfl⟩⟩))
         go_ret;exact⟨by first|rfl|(simp[errW_none,errW_some]<;>rfl)|(simp only[←hji48];first|rfl|(simp[errW_none,errW_some]<;>rfl))|(simp[*,errW_none,errW_some]<;>rfl),zs3 HB GE381 GE386 GE391⟩
        rw[if_neg c119]at H;have c119b0:decide (((rd_T132 l0_2 x28_2).f3)<((rd_T132 l0_2 (ji48)).f2))=false:=decide_eq_false c119;clear c119
        by_cases c127:((rd_T132 l0_2 x28_2).f2)>((rd_T132 l0_2 (ji48)).f3)
        ·rw[if_pos c127]at H
         have c127b0:decide (((rd_T132 l0_2 (ji48)).f3)<((rd_T132 l0_2 x28_2).f2))=true:=decide_eq_true c127;clear c127;obtain rfl:=Option.some.inj H;have hnb128:=NB381_386.out;have hnc128:=NB386_381.out;obtain⟨hcz129_0,hcz129_1,hcz129_2,hcz129_3,hcz129_4⟩:=zd5 BK381;obtain⟨hfz129_0,hfz129_1,hfz129_2,hfz129_3,hfz129_4⟩:=zn5 BK381;have p390:0≤((ji48):Int):=za;have q390:(ji48)<(l0_2.length:Int):=za;obtain⟨ad390,e390,hx390_0,hx390_1,hx390_2,hx390_3,hx390_4,hx390_5,hx390_6⟩:=at_T132 HR0_2.out (ji48) p390 q390;obtain rfl:ad385=ad390:=(by injection e390);replace hx390_0:=zx HB hx390_0;replace hx390_1:=zx HB hx390_1;replace hx390_2:=zx HB hx390_2;replace hx390_3:=zx HB hx390_3;replace hx390_4:=zx HB hx390_4;replace hx390_5:=zx HB hx390_5;replace hx390_6:=zx HB hx390_6;replace p390:=eq_true p390;replace q390:=eq_true q390
         go_wp2_with (first|((with_reducible refine gate_dst (N:=5) rfl ?_);(try(refine gate_guard (by rfl) ?_;dsimp only));refine zbx 5 #[.int .i64 0,.int .i64 0,.int .i64 0,.int .i64 0,.int .i64 0,.int .i64 0,.bool false] 132 ?_;intro gb391 hg w130 hbox hb;have BK391:=zA hbox;have GW391:=zgs hg (zs2 HB GE381 GE386);have GE391:=zgs hg (zs2 HB GE381 GE386);have NB381_391:=zne hg BK381;have NB391_381:=znf hg BK381;have NB386_391:=zne hg BK386;have NB391_386:=znf hg BK386;replace BK381:=zb BK381 hb;replace BK386:=zb BK386 hb;replace HB:=zE (zs2 HB GE381 GE386) hb;clear hb hbox hg;have hnb131:=NB391_381.out;have hnc131:=NB381_391.out;have hnb132:=NB391_386.out;have hnc132:=NB386_391.out;obtain⟨hcz133_0,hcz133_1,hcz133_2,hcz133_3,hcz133_4,hcz133_5,hcz133_6⟩:=zd7 BK391;obtain⟨hfz133_0,hfz133_1,hfz133_2,hfz133_3,hfz133_4,hfz133_5,hfz133_6⟩:=zn7 BK391;obtain⟨hcz134_0,hcz134_1,hcz134_2,hcz134_3,hcz134_4,hcz134_5,hcz134_6⟩:=zd7 BK386;obtain⟨hfz134_0,hfz134_1,hfz134_2,hfz134_3,hfz134_4,hfz134_5,hfz134_6⟩:=zn7 BK386)|(go_at_call 111;(with_reducible refine(impl_dist.calls ((rd_T132 l0_2 (ji48)).f0) ((rd_T132 l0_2 x28_2).f0) t394 _ A101.out).mono ?_);rintro e w' ⟨rfl,⟨nd,rfl⟩⟩)|(go_at_call 111;(with_reducible refine(impl_dist.calls ((rd_T132 l0_2 (ji48)).f1) ((rd_T132 l0_2 x28_2).f1) t395 _ A110.out).mono ?_);rintro e w' ⟨rfl,⟨nd,rfl⟩⟩))
         go_ret;exact⟨by first|rfl|(simp[errW_none,errW_some]<;>rfl)|(simp only[←hji48];first|rfl|(simp[errW_none,errW_some]<;>rfl))|(simp[*,errW_none,errW_some]<;>rfl),zs3 HB GE381 GE386 GE391⟩
        rw[if_neg c127]at H;have c127b0:decide (((rd_T132 l0_2 (ji48)).f3)<((rd_T132 l0_2 x28_2).f2))=false:=decide_eq_false c127;clear c127;have H':=zA H;clear H;have hnb135:=NB381_386.out;have hnc135:=NB386_381.out;obtain⟨hcz136_0,hcz136_1,hcz136_2,hcz136_3,hcz136_4⟩:=zd5 BK381;obtain⟨hfz136_0,hfz136_1,hfz136_2,hfz136_3,hfz136_4⟩:=zn5 BK381;have p390:0≤((ji48):Int):=za;have q390:(ji48)<(l0_2.length:Int):=za;obtain⟨ad390,e390,hx390_0,hx390_1,hx390_2,hx390_3,hx390_4,hx390_5,hx390_6⟩:=at_T132 HR0_2.out (ji48) p390 q390;obtain rfl:ad385=ad390:=(by injection e390);replace hx390_0:=zx HB hx390_0;replace hx390_1:=zx HB hx390_1;replace hx390_2:=zx HB hx390_2;replace hx390_3:=zx HB hx390_3;replace hx390_4:=zx HB hx390_4;replace hx390_5:=zx HB hx390_5;replace hx390_6:=zx HB hx390_6;replace p390:=eq_true p390;replace q390:=eq_true q390
        go_wp2_with (first|((with_reducible refine gate_dst (N:=5) rfl ?_);(try(refine gate_guard (by rfl) ?_;dsimp only));refine zbx 5 #[.int .i64 0,.int .i64 0,.int .i64 0,.int .i64 0,.int .i64 0,.int .i64 0,.bool false] 132 ?_;intro gb391 hg w137 hbox hb;have BK391:=zA hbox;have GW391:=zgs hg (zs2 HB GE381 GE386);have GE391:=zgs hg (zs2 HB GE381 GE386);have NB381_391:=zne hg BK381;have NB391_381:=znf hg BK381;have NB386_391:=zne hg BK386;have NB391_386:=znf hg BK386;replace BK381:=zb BK381 hb;replace BK386:=zb BK386 hb;replace HB:=zE (zs2 HB GE381 GE386) hb;clear hb hbox hg;have hnb138:=NB391_381.out;have hnc138:=NB381_391.out;have hnb139:=NB391_386.out;have hnc139:=NB386_391.out;obtain⟨hcz140_0,hcz140_1,hcz140_2,hcz140_3,hcz140_4,hcz140_5,hcz140_6⟩:=zd7 BK391;obtain⟨hfz140_0,hfz140_1,hfz140_2,hfz140_3,hfz140_4,hfz140_5,hfz140_6⟩:=zn7 BK391;obtain⟨hcz141_0,hcz141_1,hcz141_2,hcz141_3,hcz141_4,hcz141_5,hcz141_6⟩:=zd7 BK386;obtain⟨hfz141_0,hfz141_1,hfz141_2,hfz141_3,hfz141_4,hfz141_5,hfz141_6⟩:=zn7 BK386)|(go_at_call 111;(with_reducible refine(impl_dist.calls ((rd_T132 l0_2 (ji48)).f0) ((rd_T132 l0_2 x28_2).f0) t394 _ A101.out).mono ?_);rintro e w' ⟨rfl,⟨nd,rfl⟩⟩)|(go_at_call 111;(with_reducible refine(impl_dist.calls ((rd_T132 l0_2 (ji48)).f1) ((rd_T132 l0_2 x28_2).f1) t395 _ A110.out).mono ?_);rintro e w' ⟨rfl,⟨nd,rfl⟩⟩))
        go_roundg kj21
        case measure=>have:=HJ1.out;have:=HK2.out;have:=HJ21.out;omega
        case rel=>exact⟨(wrap64 (x28_2+1)),zi,H',⟨by have:=HJ1.out;have:=HK2.out;have:=HJ21.out;omega⟩,⟨zpf BK381 NB381_391⟩,⟨zs3 HB GE381 GE386 GE391⟩⟩
       rw[if_pos c51]at H;have c51b0:(((rd_T132 l0_2 (ji48)).f0)==((rd_T132 l0_2 x28_2).f0))=true:=beq_iff_eq.mpr c51;have c51b1:(((rd_T132 l0_2 (ji48)).f0) !=((rd_T132 l0_2 x28_2).f0))=false:=bne_eq_false_iff_eq.mpr c51;clear c51
       by_cases c52:((rd_T132 l0_2 (ji48)).f1)=((rd_T132 l0_2 x28_2).f1)
       ·rw[if_pos c52]at H
        have c52b0:(((rd_T132 l0_2 (ji48)).f1)==((rd_T132 l0_2 x28_2).f1))=true:=beq_iff_eq.mpr c52;have c52b1:(((rd_T132 l0_2 (ji48)).f1) !=((rd_T132 l0_2 x28_2).f1))=false:=bne_eq_false_iff_eq.mpr c52;clear c52;obtain rfl:=Option.some.inj H;have hnb53:=NB381_386.out;have hnc53:=NB386_381.out;obtain⟨hcz54_0,hcz54_1,hcz54_2,hcz54_3,hcz54_4⟩:=zd5 BK381;obtain⟨hfz54_0,hfz54_1,hfz54_2,hfz54_3,hfz54_4⟩:=zn5 BK381;have p390:0≤((ji48):Int):=za;have q390:(ji48)<(l0_2.length:Int):=za;obtain⟨ad390,e390,hx390_0,hx390_1,hx390_2,hx390_3,hx390_4,hx390_5,hx390_6⟩:=at_T132 HR0_2.out (ji48) p390 q390;obtain rfl:ad385=ad390:=(by injection e390);replace hx390_0:=zx HB hx390_0;replace hx390_1:=zx HB hx390_1;replace hx390_2:=zx HB hx390_2;replace hx390_3:=zx HB hx390_3;replace hx390_4:=zx HB hx390_4;replace hx390_5:=zx HB hx390_5;replace hx390_6:=zx HB hx390_6;replace p390:=eq_true p390;replace q390:=eq_true q390
        go_wp2_with (first|((with_reducible refine gate_dst (N:=5) rfl ?_);(try(refine gate_guard (by rfl) ?_;dsimp only));refine zbx 5 #[.int .i64 0,.int .i64 0,.int .i64 0,.int .i64 0,.int .i64 0,.int .i64 0,.bool false] 132 ?_;intro gb391 hg w55 hbox hb;have BK391:=zA hbox;have GW391:=zgs hg (zs2 HB GE381 GE386);have GE391:=zgs hg (zs2 HB GE381 GE386);have NB381_391:=zne hg BK381;have NB391_381:=znf hg BK381;have NB386_391:=zne hg BK386;have NB391_386:=znf hg BK386;replace BK381:=zb BK381 hb;replace BK386:=zb BK386 hb;replace HB:=zE (zs2 HB GE381 GE386) hb;clear hb hbox hg;have hnb56:=NB391_381.out;have hnc56:=NB381_391.out;have hnb57:=NB391_386.out;have hnc57:=NB386_391.out;obtain⟨hcz58_0,hcz58_1,hcz58_2,hcz58_3,hcz58_4,hcz58_5,hcz58_6⟩:=zd7 BK391;obtain⟨hfz58_0,hfz58_1,hfz58_2,hfz58_3,hfz58_4,hfz58_5,hfz58_6⟩:=zn7 BK391;obtain⟨hcz59_0,hcz59_1,hcz59_2,hcz59_3,hcz59_4,hcz59_5,hcz59_6⟩:=zd7 BK386;obtain⟨hfz59_0,hfz59_1,hfz59_2,hfz59_3,hfz59_4,hfz59_5,hfz59_6⟩:=zn7 BK386))
        go_ret;exact⟨by first|rfl|(simp[errW_none,errW_some]<;>rfl)|(simp only[←hji48];first|rfl|(simp[errW_none,errW_some]<;>rfl))|(simp[*,errW_none,errW_some]<;>rfl),zs3 HB GE381 GE386 GE391⟩
       rw[if_neg c52]at H;have c52b0:(((rd_T132 l0_2 (ji48)).f1)==((rd_T132 l0_2 x28_2).f1))=false:=beq_eq_false_iff_ne.mpr c52;have c52b1:(((rd_T132 l0_2 (ji48)).f1) !=((rd_T132 l0_2 x28_2).f1))=true:=bne_iff_ne.mpr c52;replace H:=zbd H;obtain⟨t392,A60,H⟩:=H
       by_cases c61:t392>1
       ·rw[if_pos c61]at H
        have c61b0:decide (1<t392)=true:=decide_eq_true c61;clear c61;obtain rfl:=Option.some.inj H;have hnb62:=NB381_386.out;have hnc62:=NB386_381.out;obtain⟨hcz63_0,hcz63_1,hcz63_2,hcz63_3,hcz63_4⟩:=zd5 BK381;obtain⟨hfz63_0,hfz63_1,hfz63_2,hfz63_3,hfz63_4⟩:=zn5 BK381;have p390:0≤((ji48):Int):=za;have q390:(ji48)<(l0_2.length:Int):=za;obtain⟨ad390,e390,hx390_0,hx390_1,hx390_2,hx390_3,hx390_4,hx390_5,hx390_6⟩:=at_T132 HR0_2.out (ji48) p390 q390;obtain rfl:ad385=ad390:=(by injection e390);replace hx390_0:=zx HB hx390_0;replace hx390_1:=zx HB hx390_1;replace hx390_2:=zx HB hx390_2;replace hx390_3:=zx HB hx390_3;replace hx390_4:=zx HB hx390_4;replace hx390_5:=zx HB hx390_5;replace hx390_6:=zx HB hx390_6;replace p390:=eq_true p390;replace q390:=eq_true q390
        go_wp2_with (first|((with_reducible refine gate_dst (N:=5) rfl ?_);(try(refine gate_guard (by rfl) ?_;dsimp only));refine zbx 5 #[.int .i64 0,.int .i64 0,.int .i64 0,.int .i64 0,.int .i64 0,.int .i64 0,.bool false] 132 ?_;intro gb391 hg w64 hbox hb;have BK391:=zA hbox;have GW391:=zgs hg (zs2 HB GE381 GE386);have GE391:=zgs hg (zs2 HB GE381 GE386);have NB381_391:=zne hg BK381;have NB391_381:=znf hg BK381;have NB386_391:=zne hg BK386;have NB391_386:=znf hg BK386;replace BK381:=zb BK381 hb;replace BK386:=zb BK386 hb;replace HB:=zE (zs2 HB GE381 GE386) hb;clear hb hbox hg;have hnb65:=NB391_381.out;have hnc65:=NB381_391.out;have hnb66:=NB391_386.out;have hnc66:=NB386_391.out;obtain⟨hcz67_0,hcz67_1,hcz67_2,hcz67_3,hcz67_4,hcz67_5,hcz67_6⟩:=zd7 BK391;obtain⟨hfz67_0,hfz67_1,hfz67_2,hfz67_3,hfz67_4,hfz67_5,hfz67_6⟩:=zn7 BK391;obtain⟨hcz68_0,hcz68_1,hcz68_2,hcz68_3,hcz68_4,hcz68_5,hcz68_6⟩:=zd7 BK386;obtain⟨hfz68_0,hfz68_1,hfz68_2,hfz68_3,hfz68_4,hfz68_5,hfz68_6⟩:=zn7 BK386)|(go_at_call 111;(with_reducible refine(impl_dist.calls ((rd_T132 l0_2 (ji48)).f0) ((rd_T132 l0_2 x28_2).f0) t392 _ A60.out).mono ?_);rintro e w' ⟨rfl,⟨nd,rfl⟩⟩))
        go_ret;exact⟨by first|rfl|(simp[errW_none,errW_some]<;>rfl)|(simp only[←hji48];first|rfl|(simp[errW_none,errW_some]<;>rfl))|(simp[*,errW_none,errW_some]<;>rfl),zs3 HB GE381 GE386 GE391⟩
       rw[if_neg c61]at H;have c61b0:decide (1<t392)=false:=decide_eq_false c61;clear c61;replace H:=zbd H;obtain⟨t393,A69,H⟩:=H
       by_cases c70:t393>1
       ·rw[if_pos c70]at H
        have c70b0:decide (1<t393)=true:=decide_eq_true c70;clear c70;obtain rfl:=Option.some.inj H;have hnb71:=NB381_386.out;have hnc71:=NB386_381.out;obtain⟨hcz72_0,hcz72_1,hcz72_2,hcz72_3,hcz72_4⟩:=zd5 BK381;obtain⟨hfz72_0,hfz72_1,hfz72_2,hfz72_3,hfz72_4⟩:=zn5 BK381;have p390:0≤((ji48):Int):=za;have q390:(ji48)<(l0_2.length:Int):=za;obtain⟨ad390,e390,hx390_0,hx390_1,hx390_2,hx390_3,hx390_4,hx390_5,hx390_6⟩:=at_T132 HR0_2.out (ji48) p390 q390;obtain rfl:ad385=ad390:=(by injection e390);replace hx390_0:=zx HB hx390_0;replace hx390_1:=zx HB hx390_1;replace hx390_2:=zx HB hx390_2;replace hx390_3:=zx HB hx390_3;replace hx390_4:=zx HB hx390_4;replace hx390_5:=zx HB hx390_5;replace hx390_6:=zx HB hx390_6;replace p390:=eq_true p390;replace q390:=eq_true q390
        go_wp2_with (first|((with_reducible refine gate_dst (N:=5) rfl ?_);(try(refine gate_guard (by rfl) ?_;dsimp only));refine zbx 5 #[.int .i64 0,.int .i64 0,.int .i64 0,.int .i64 0,.int .i64 0,.int .i64 0,.bool false] 132 ?_;intro gb391 hg w73 hbox hb;have BK391:=zA hbox;have GW391:=zgs hg (zs2 HB GE381 GE386);have GE391:=zgs hg (zs2 HB GE381 GE386);have NB381_391:=zne hg BK381;have NB391_381:=znf hg BK381;have NB386_391:=zne hg BK386;have NB391_386:=znf hg BK386;replace BK381:=zb BK381 hb;replace BK386:=zb BK386 hb;replace HB:=zE (zs2 HB GE381 GE386) hb;clear hb hbox hg;have hnb74:=NB391_381.out;have hnc74:=NB381_391.out;have hnb75:=NB391_386.out;have hnc75:=NB386_391.out;obtain⟨hcz76_0,hcz76_1,hcz76_2,hcz76_3,hcz76_4,hcz76_5,hcz76_6⟩:=zd7 BK391;obtain⟨hfz76_0,hfz76_1,hfz76_2,hfz76_3,hfz76_4,hfz76_5,hfz76_6⟩:=zn7 BK391;obtain⟨hcz77_0,hcz77_1,hcz77_2,hcz77_3,hcz77_4,hcz77_5,hcz77_6⟩:=zd7 BK386;obtain⟨hfz77_0,hfz77_1,hfz77_2,hfz77_3,hfz77_4,hfz77_5,hfz77_6⟩:=zn7 BK386)|(go_at_call 111;(with_reducible refine(impl_dist.calls ((rd_T132 l0_2 (ji48)).f0) ((rd_T132 l0_2 x28_2).f0) t392 _ A60.out).mono ?_);rintro e w' ⟨rfl,⟨nd,rfl⟩⟩)|(go_at_call 111;(with_reducible refine(impl_dist.calls ((rd_T132 l0_2 (ji48)).f1) ((rd_T132 l0_2 x28_2).f1) t393 _ A69.out).mono ?_);rintro e w' ⟨rfl,⟨nd,rfl⟩⟩))
        go_ret;exact⟨by first|rfl|(simp[errW_none,errW_some]<;>rfl)|(simp only[←hji48];first|rfl|(simp[errW_none,errW_some]<;>rfl))|(simp[*,errW_none,errW_some]<;>rfl),zs3 HB GE381 GE386 GE391⟩
       rw[if_neg c70]at H;have c70b0:decide (1<t393)=false:=decide_eq_false c70;clear c70
       by_cases c78:((rd_T132 l0_2 (ji48)).f2)>((rd_T132 l0_2 x28_2).f3)
       ·rw[if_pos c78]at H
        have c78b0:decide (((rd_T132 l0_2 x28_2).f3)<((rd_T132 l0_2 (ji48)).f2))=true:=decide_eq_true c78;clear c78;obtain rfl:=Option.some.inj H;have hnb79:=NB381_386.out;have hnc79:=NB386_381.out;obtain⟨hcz80_0,hcz80_1,hcz80_2,hcz80_3,hcz80_4⟩:=zd5 BK381;obtain⟨hfz80_0,hfz80_1,hfz80_2,hfz80_3,hfz80_4⟩:=zn5 BK381;have p390:0≤((ji48):Int):=za;have q390:(ji48)<(l0_2.length:Int):=za;obtain⟨ad390,e390,hx390_0,hx390_1,hx390_2,hx390_3,hx390_4,hx390_5,hx390_6⟩:=at_T132 HR0_2.out (ji48) p390 q390;obtain rfl:ad385=ad390:=(by injection e390);replace hx390_0:=zx HB hx390_0;replace hx390_1:=zx HB hx390_1;replace hx390_2:=zx HB hx390_2;replace hx390_3:=zx HB hx390_3;replace hx390_4:=zx HB hx390_4;replace hx390_5:=zx HB hx390_5;replace hx390_6:=zx HB hx390_6;replace p390:=eq_true p390;replace q390:=eq_true q390
        go_wp2_with (first|((with_reducible refine gate_dst (N:=5) rfl ?_);(try(refine gate_guard (by rfl) ?_;dsimp only));refine zbx 5 #[.int .i64 0,.int .i64 0,.int .i64 0,.int .i64 0,.int .i64 0,.int .i64 0,.bool false] 132 ?_;intro gb391 hg w81 hbox hb;have BK391:=zA hbox;have GW391:=zgs hg (zs2 HB GE381 GE386);have GE391:=zgs hg (zs2 HB GE381 GE386);have NB381_391:=zne hg BK381;have NB391_381:=znf hg BK381;have NB386_391:=zne hg BK386;have NB391_386:=znf hg BK386;replace BK381:=zb BK381 hb;replace BK386:=zb BK386 hb;replace HB:=zE (zs2 HB GE381 GE386) hb;clear hb hbox hg;have hnb82:=NB391_381.out;have hnc82:=NB381_391.out;have hnb83:=NB391_386.out;have hnc83:=NB386_391.out;obtain⟨hcz84_0,hcz84_1,hcz84_2,hcz84_3,hcz84_4,hcz84_5,hcz84_6⟩:=zd7 BK391;obtain⟨hfz84_0,hfz84_1,hfz84_2,hfz84_3,hfz84_4,hfz84_5,hfz84_6⟩:=zn7 BK391;obtain⟨hcz85_0,hcz85_1,hcz85_2,hcz85_3,hcz85_4,hcz85_5,hcz85_6⟩:=zd7 BK386;obtain⟨hfz85_0,hfz85_1,hfz85_2,hfz85_3,hfz85_4,hfz85_5,hfz85_6⟩:=zn7 BK386)|(go_at_call 111;(with_reducible refine(impl_dist.calls ((rd_T132 l0_2 (ji48)).f0) ((rd_T132 l0_2 x28_2).f0) t392 _ A60.out).mono ?_);rintro e w' ⟨rfl,⟨nd,rfl⟩⟩)|(go_at_call 111;(with_reducible refine(impl_dist.calls ((rd_T132 l0_2 (ji48)).f1) ((rd_T132 l0_2 x28_2).f1) t393 _ A69.out).mono ?_);rintro e w' ⟨rfl,⟨nd,rfl⟩⟩))
        go_ret;exact⟨by first|rfl|(simp[errW_none,errW_some]<;>rfl)|(simp only[←hji48];first|rfl|(simp[errW_none,errW_some]<;>rfl))|(simp[*,errW_none,errW_some]<;>rfl),zs3 HB GE381 GE386 GE391⟩
       rw[if_neg c78]at H;have c78b0:decide (((rd_T132 l0_2 x28_2).f3)<((rd_T132 l0_2 (ji48)).f2))=false:=decide_eq_false c78;clear c78
       by_cases c86:((rd_T132 l0_2 x28_2).f2)>((rd_T132 l0_2 (ji48)).f3)
       ·rw[if_pos c86]at H
        have c86b0:decide (((rd_T132 l0_2 (ji48)).f3)<((rd_T132 l0_2 x28_2).f2))=true:=decide_eq_true c86;clear c86;obtain rfl:=Option.some.inj H;have hnb87:=NB381_386.out;have hnc87:=NB386_381.out;obtain⟨hcz88_0,hcz88_1,hcz88_2,hcz88_3,hcz88_4⟩:=zd5 BK381;obtain⟨hfz88_0,hfz88_1,hfz88_2,hfz88_3,hfz88_4⟩:=zn5 BK381;have p390:0≤((ji48):Int):=za;have q390:(ji48)<(l0_2.length:Int):=za;obtain⟨ad390,e390,hx390_0,hx390_1,hx390_2,hx390_3,hx390_4,hx390_5,hx390_6⟩:=at_T132 HR0_2.out (ji48) p390 q390;obtain rfl:ad385=ad390:=(by injection e390);replace hx390_0:=zx HB hx390_0;replace hx390_1:=zx HB hx390_1;replace hx390_2:=zx HB hx390_2;replace hx390_3:=zx HB hx390_3;replace hx390_4:=zx HB hx390_4;replace hx390_5:=zx HB hx390_5;replace hx390_6:=zx HB hx390_6;replace p390:=eq_true p390;replace q390:=eq_true q390
        go_wp2_with (first|((with_reducible refine gate_dst (N:=5) rfl ?_);(try(refine gate_guard (by rfl) ?_;dsimp only));refine zbx 5 #[.int .i64 0,.int .i64 0,.int .i64 0,.int .i64 0,.int .i64 0,.int .i64 0,.bool false] 132 ?_;intro gb391 hg w89 hbox hb;have BK391:=zA hbox;have GW391:=zgs hg (zs2 HB GE381 GE386);have GE391:=zgs hg (zs2 HB GE381 GE386);have NB381_391:=zne hg BK381;have NB391_381:=znf hg BK381;have NB386_391:=zne hg BK386;have NB391_386:=znf hg BK386;replace BK381:=zb BK381 hb;replace BK386:=zb BK386 hb;replace HB:=zE (zs2 HB GE381 GE386) hb;clear hb hbox hg;have hnb90:=NB391_381.out;have hnc90:=NB381_391.out;have hnb91:=NB391_386.out;have hnc91:=NB386_391.out;obtain⟨hcz92_0,hcz92_1,hcz92_2,hcz92_3,hcz92_4,hcz92_5,hcz92_6⟩:=zd7 BK391;obtain⟨hfz92_0,hfz92_1,hfz92_2,hfz92_3,hfz92_4,hfz92_5,hfz92_6⟩:=zn7 BK391;obtain⟨hcz93_0,hcz93_1,hcz93_2,hcz93_3,hcz93_4,hcz93_5,hcz93_6⟩:=zd7 BK386;obtain⟨hfz93_0,hfz93_1,hfz93_2,hfz93_3,hfz93_4,hfz93_5,hfz93_6⟩:=zn7 BK386)|(go_at_call 111;(with_reducible refine(impl_dist.calls ((rd_T132 l0_2 (ji48)).f0) ((rd_T132 l0_2 x28_2).f0) t392 _ A60.out).mono ?_);rintro e w' ⟨rfl,⟨nd,rfl⟩⟩)|(go_at_call 111;(with_reducible refine(impl_dist.calls ((rd_T132 l0_2 (ji48)).f1) ((rd_T132 l0_2 x28_2).f1) t393 _ A69.out).mono ?_);rintro e w' ⟨rfl,⟨nd,rfl⟩⟩))
        go_ret;exact⟨by first|rfl|(simp[errW_none,errW_some]<;>rfl)|(simp only[←hji48];first|rfl|(simp[errW_none,errW_some]<;>rfl))|(simp[*,errW_none,errW_some]<;>rfl),zs3 HB GE381 GE386 GE391⟩
       rw[if_neg c86]at H;have c86b0:decide (((rd_T132 l0_2 (ji48)).f3)<((rd_T132 l0_2 x28_2).f2))=false:=decide_eq_false c86;clear c86;have H':=zA H;clear H;have hnb94:=NB381_386.out;have hnc94:=NB386_381.out;obtain⟨hcz95_0,hcz95_1,hcz95_2,hcz95_3,hcz95_4⟩:=zd5 BK381;obtain⟨hfz95_0,hfz95_1,hfz95_2,hfz95_3,hfz95_4⟩:=zn5 BK381;have p390:0≤((ji48):Int):=za;have q390:(ji48)<(l0_2.length:Int):=za;obtain⟨ad390,e390,hx390_0,hx390_1,hx390_2,hx390_3,hx390_4,hx390_5,hx390_6⟩:=at_T132 HR0_2.out (ji48) p390 q390;obtain rfl:ad385=ad390:=(by injection e390);replace hx390_0:=zx HB hx390_0;replace hx390_1:=zx HB hx390_1;replace hx390_2:=zx HB hx390_2;replace hx390_3:=zx HB hx390_3;replace hx390_4:=zx HB hx390_4;replace hx390_5:=zx HB hx390_5;replace hx390_6:=zx HB hx390_6;replace p390:=eq_true p390;replace q390:=eq_true q390
       go_wp2_with (first|((with_reducible refine gate_dst (N:=5) rfl ?_);(try(refine gate_guard (by rfl) ?_;dsimp only));refine zbx 5 #[.int .i64 0,.int .i64 0,.int .i64 0,.int .i64 0,.int .i64 0,.int .i64 0,.bool false] 132 ?_;intro gb391 hg w96 hbox hb;have BK391:=zA hbox;have GW391:=zgs hg (zs2 HB GE381 GE386);have GE391:=zgs hg (zs2 HB GE381 GE386);have NB381_391:=zne hg BK381;have NB391_381:=znf hg BK381;have NB386_391:=zne hg BK386;have NB391_386:=znf hg BK386;replace BK381:=zb BK381 hb;replace BK386:=zb BK386 hb;replace HB:=zE (zs2 HB GE381 GE386) hb;clear hb hbox hg;have hnb97:=NB391_381.out;have hnc97:=NB381_391.out;have hnb98:=NB391_386.out;have hnc98:=NB386_391.out;obtain⟨hcz99_0,hcz99_1,hcz99_2,hcz99_3,hcz99_4,hcz99_5,hcz99_6⟩:=zd7 BK391;obtain⟨hfz99_0,hfz99_1,hfz99_2,hfz99_3,hfz99_4,hfz99_5,hfz99_6⟩:=zn7 BK391;obtain⟨hcz100_0,hcz100_1,hcz100_2,hcz100_3,hcz100_4,hcz100_5,hcz100_6⟩:=zd7 BK386;obtain⟨hfz100_0,hfz100_1,hfz100_2,hfz100_3,hfz100_4,hfz100_5,hfz100_6⟩:=zn7 BK386)|(go_at_call 111;(with_reducible refine(impl_dist.calls ((rd_T132 l0_2 (ji48)).f0) ((rd_T132 l0_2 x28_2).f0) t392 _ A60.out).mono ?_);rintro e w' ⟨rfl,⟨nd,rfl⟩⟩)|(go_at_call 111;(with_reducible refine(impl_dist.calls ((rd_T132 l0_2 (ji48)).f1) ((rd_T132 l0_2 x28_2).f1) t393 _ A69.out).mono ?_);rintro e w' ⟨rfl,⟨nd,rfl⟩⟩))
       go_roundg kj21
       case measure=>have:=HJ1.out;have:=HK2.out;have:=HJ21.out;omega
       case rel=>exact⟨(wrap64 (x28_2+1)),zi,H',⟨by have:=HJ1.out;have:=HK2.out;have:=HJ21.out;omega⟩,⟨zpf BK381 NB381_391⟩,⟨zs3 HB GE381 GE386 GE391⟩⟩
end Go.Proofs.Ytbmplfpnhjhoiaa.QFnExactFlyMayTurn
