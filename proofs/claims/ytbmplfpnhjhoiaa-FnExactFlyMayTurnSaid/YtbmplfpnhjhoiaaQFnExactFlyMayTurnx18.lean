/- The walk of what the law FnExactFlyMayTurn reaches: laid by a program of this session (ownprint.py). -/
import Derived.Test.YtbmplfpnhjhoiaaQFnExactFlyMayTurnx0
import Derived.Test.YtbmplfpnhjhoiaaQFnExactFlyMayTurnx17
namespace Go.Proofs.Ytbmplfpnhjhoiaa.QFnExactFlyMayTurn
open Go.RowKit Go.Proofs.YtbmplfpnhjhoiaaW.PrintWords Go.Proofs.YtbmplfpnhjhoiaaW.PrintLast Go.Proofs.YtbmplfpnhjhoiaaW.PrintMore Go.Proofs.Ytbmplfpnhjhoiaa.Z
attribute [local go_sem] max2_int min2_int max_two min_two max_three min_three max_four min_four zdn   -- for this text's walks alone
set_option linter.unusedVariables false
set_option linter.unusedSimpArgs false
mutual
def impl_FlyPath_spans.l0:Nat→List Int→Int→List (S110)→Int→Int→Int→Int→List (S132)→Int→Int→Option ((List (S110))×Bool)
 |0,_,_,_,_,_,_,_,_,_,_=>none
 |k+1,x1,x6,x7,x20,x21,x400000,x400001,x400002,x400003,x400004=>if x21<x20 then((impl_FlyPath_bound.f x400000 x400001 x400002 x400003 x400004 x21).bind fun bt403=>(if 0≤x21 then(if x21<(x7.length:Int)then((some (x7.set (x21:Int).toNat (⟨bt403.1,(rd_T110 x7 x21).f1⟩:S110):List (S110))).bind fun y405=>((some (y405.set (x21:Int).toNat (⟨(rd_T110 y405 x21).f0,bt403.2⟩:S110):List (S110))).bind fun y406=>(if x21<(x1.length:Int)then((some (y406.set (x21:Int).toNat (⟨mx ((rd_T110 y406 x21).f0) (rd x1 x21),(rd_T110 y406 x21).f1⟩:S110):List (S110))).bind fun y411=>(impl_FlyPath_spans.l0 k x1 x6 (y411.set (x21:Int).toNat (⟨(rd_T110 y411 x21).f0,mn ((rd_T110 y406 x21).f1) (rd x1 x21)⟩:S110)) x20 (wrap64 (x21+1)) x400000 x400001 x400002 x400003 x400004))else(impl_FlyPath_spans.l0 k x1 x6 y406 x20 (wrap64 (x21+1)) x400000 x400001 x400002 x400003 x400004))))else(none))else(none)))else(impl_FlyPath_spans.l1 k x6 x7 1 x400000 x400001 x400002 x400003 x400004)
def impl_FlyPath_spans.l1:Nat→Int→List (S110)→Int→Int→Int→List (S132)→Int→Int→Option ((List (S110))×Bool)
 |0,_,_,_,_,_,_,_,_=>none
 |k+1,x6,x7,x9,x400000,x400001,x400002,x400003,x400004=>if x9≤x6 then(if 0≤x9 then(if x9<(x7.length:Int)then(if 0≤(wrap64 (x9-1))then(if(wrap64 (x9-1))<(x7.length:Int)then((some (x7.set (x9:Int).toNat (⟨mx ((rd_T110 x7 x9).f0) (wrap64 (((rd_T110 x7 (wrap64 (x9-1))).f0)+x400000)),(rd_T110 x7 x9).f1⟩:S110):List (S110))).bind fun y415=>(if(wrap64 (x9-1))<(x400002.length:Int)then(if((rd_T132 x400002 (wrap64 (x9-1))).f6=true)then(impl_FlyPath_spans.l1 k x6 y415 (wrap64 (x9+1)) x400000 x400001 x400002 x400003 x400004)else(impl_FlyPath_spans.l1 k x6 (y415.set (x9:Int).toNat (⟨(rd_T110 y415 x9).f0,mn ((rd_T110 y415 x9).f1) (wrap64 (((rd_T110 y415 (wrap64 (x9-1))).f1)+x400001))⟩:S110)) (wrap64 (x9+1)) x400000 x400001 x400002 x400003 x400004))else(none)))else(none))else(none))else(none))else(none))else(impl_FlyPath_spans.l2 k x7 (wrap64 (x6-1)) x400000 x400001 x400002 x400003 x400004)
def impl_FlyPath_spans.l2:Nat→List (S110)→Int→Int→Int→List (S132)→Int→Int→Option ((List (S110))×Bool)
 |0,_,_,_,_,_,_,_=>none
 |k+1,x7,x10,x400000,x400001,x400002,x400003,x400004=>if x10≥0 then(if 0≤x10 then(if x10<(x7.length:Int)then(if 0≤(wrap64 (x10+1))then(if(wrap64 (x10+1))<(x7.length:Int)then((some (x7.set (x10:Int).toNat (⟨(rd_T110 x7 x10).f0,mn ((rd_T110 x7 x10).f1) (wrap64 (((rd_T110 x7 (wrap64 (x10+1))).f1)-x400000))⟩:S110):List (S110))).bind fun y422=>(if x10<(x400002.length:Int)then(if((rd_T132 x400002 x10).f6=true)then(impl_FlyPath_spans.l2 k y422 (wrap64 (x10-1)) x400000 x400001 x400002 x400003 x400004)else(impl_FlyPath_spans.l2 k (y422.set (x10:Int).toNat (⟨mx ((rd_T110 y422 x10).f0) (wrap64 (((rd_T110 y422 (wrap64 (x10+1))).f0)-x400001)),(rd_T110 y422 x10).f1⟩:S110)) (wrap64 (x10-1)) x400000 x400001 x400002 x400003 x400004))else(none)))else(none))else(none))else(none))else(none))else(impl_FlyPath_spans.l3 k x7 x7 (x7.length:Int) 0)
def impl_FlyPath_spans.l3:Nat→List (S110)→List (S110)→Int→Int→Option ((List (S110))×Bool)
 |0,_,_,_,_=>none
 |k+1,x7,x177,x178,x179=>if x179<x178 then(if 0≤x179 then(if x179<(x177.length:Int)then(if((rd_T110 x177 x179).f0)>((rd_T110 x177 x179).f1)then(some (([]:List (S110)),false))else(impl_FlyPath_spans.l3 k x7 x177 x178 (wrap64 (x179+1))))else(none))else(none))else(some (x7,true))
end
def impl_FlyPath_spans.f (k:Nat) (a0_0:Int) (a0_1:Int) (l0_2:List (S132)) (a0_3:Int) (a0_4:Int) (l1:List Int):Option ((List (S110))×Bool):=if 0≤(wrap64 ((l0_2.length:Int)+1))then(if(wrap64 ((l0_2.length:Int)+1):Int).toNat≤17592186044416 then((some (List.replicate (wrap64 ((l0_2.length:Int)+1):Int).toNat z110:List (S110))).bind fun y400=>(impl_FlyPath_spans.l0 k l1 (l0_2.length:Int) y400 (y400.length:Int) 0 a0_0 a0_1 l0_2 a0_3 a0_4))else(none))else(none)
def impl_FlyPath_spans.T8:Bool×List (List Nat×List Nat):=(true,[([],[]),([],[]),([],[]),([],[]),([],[]),([],[]),([4,5],[4,5]),([6],[6]),([7],[7]),([],[]),([],[]),([9,10],[9,10]),([11],[11]),([8,12],[8,12]),([],[]),([],[]),([14,15],[14,15]),([16],[16]),([17],[17]),([],[]),([],[]),([19,20],[19,20]),([21],[21]),([18,22],[18,22]),([0,1,0,1,4,5,6,7,8,9,10,11,12,13,18,22],[0,1]),([24,0,1,4,5,6,7,8,9,10,11,12,13,18,22],[24]),([25,13,0,1,4,5,6,7,8,9,10,11,12,13,18,22],[13,25]),([2,3,0,1,2,3,4,5,6,7,8,9,10,11,12,13,14,15,16,17,18,19,20,21,22,23,24,25,26],[2,3]),([27,0,1,2,3,4,5,6,7,8,9,10,11,12,13,14,15,16,17,18,19,20,21,22,23,24,25,26],[27]),([28,23,26,0,1,2,3,4,5,6,7,8,9,10,11,12,13,14,15,16,17,18,19,20,21,22,23,24,25,26],[23,28])])
def impl_FlyPath_spans.B8:List Nat:=[0,0,0,0,0,0,48,112,240,0,0,1536,3584,8176,0,0,49152,114688,245760,0,0,1572864,3670016,8372224,8388595,25165811,58720243,134217727,268435455,536870911]
theorem impl_FlyPath_spans.tab8:rtab .any (opsOf Try.f136 8)=impl_FlyPath_spans.T8:=by kernel_rfl
theorem impl_FlyPath_spans.bits8:waitsOk impl_FlyPath_spans.T8.2 impl_FlyPath_spans.B8=true:=by kernel_rfl
def impl_FlyPath_spans.T13:Bool×List (List Nat×List Nat):=(true,[([],[]),([],[]),([],[]),([],[]),([2,3],[2,3]),([4],[4]),([5],[5]),([],[]),([],[]),([8],[8]),([7,9],[7,9]),([10],[10]),([11],[11]),([],[]),([13],[13]),([14],[14]),([12,15],[12,15]),([6,16],[6,16]),([0,1,0,1,2,3,4,5,6,7,8,9,10,11,12,13,14,15,16,17],[0,1]),([18,0,1,2,3,4,5,6,7,8,9,10,11,12,13,14,15,16,17],[18]),([19,17,0,1,2,3,4,5,6,7,8,9,10,11,12,13,14,15,16,17],[17,19])])
def impl_FlyPath_spans.B13:List Nat:=[0,0,0,0,12,28,60,0,0,256,896,1920,3968,0,8192,24576,65408,131068,262143,524287,1048575]
theorem impl_FlyPath_spans.tab13:rtab .any (opsOf Try.f136 13)=impl_FlyPath_spans.T13:=by kernel_rfl
theorem impl_FlyPath_spans.bits13:waitsOk impl_FlyPath_spans.T13.2 impl_FlyPath_spans.B13=true:=by kernel_rfl
def impl_FlyPath_spans.T15:Bool×List (List Nat×List Nat):=(true,[([],[]),([],[]),([],[]),([],[]),([2,3],[2,3]),([4],[4]),([5],[5]),([],[]),([],[]),([8],[8]),([7,9],[7,9]),([10],[10]),([11],[11]),([],[]),([13],[13]),([14],[14]),([12,15],[12,15]),([6,16],[6,16]),([0,1,0,1,2,3,4,5,6,7,8,9,10,11,12,13,14,15,16,17],[0,1]),([18,0,1,2,3,4,5,6,7,8,9,10,11,12,13,14,15,16,17],[18]),([19,17,0,1,2,3,4,5,6,7,8,9,10,11,12,13,14,15,16,17],[17,19])])
def impl_FlyPath_spans.B15:List Nat:=[0,0,0,0,12,28,60,0,0,256,896,1920,3968,0,8192,24576,65408,131068,262143,524287,1048575]
theorem impl_FlyPath_spans.tab15:rtab .any (opsOf Try.f136 15)=impl_FlyPath_spans.T15:=by kernel_rfl
theorem impl_FlyPath_spans.bits15:waitsOk impl_FlyPath_spans.T15.2 impl_FlyPath_spans.B15=true:=by kernel_rfl
def impl_FlyPath_spans.T19:Bool×List (List Nat×List Nat):=(true,[([],[]),([],[]),([],[]),([],[]),([2,3],[2,3]),([4],[4]),([5],[5]),([],[]),([],[]),([8],[8]),([7,9],[7,9]),([10],[10]),([11],[11]),([],[]),([13],[13]),([14],[14]),([12,15],[12,15]),([6,16],[6,16]),([0,1,0,1,2,3,4,5,6,7,8,9,10,11,12,13,14,15,16,17],[0,1]),([18,0,1,2,3,4,5,6,7,8,9,10,11,12,13,14,15,16,17],[18]),([19,17,0,1,2,3,4,5,6,7,8,9,10,11,12,13,14,15,16,17],[17,19])])
def impl_FlyPath_spans.B19:List Nat:=[0,0,0,0,12,28,60,0,0,256,896,1920,3968,0,8192,24576,65408,131068,262143,524287,1048575]
theorem impl_FlyPath_spans.tab19:rtab .any (opsOf Try.f136 19)=impl_FlyPath_spans.T19:=by kernel_rfl
theorem impl_FlyPath_spans.bits19:waitsOk impl_FlyPath_spans.T19.2 impl_FlyPath_spans.B19=true:=by kernel_rfl
def impl_FlyPath_spans.T21:Bool×List (List Nat×List Nat):=(true,[([],[]),([],[]),([],[]),([],[]),([2,3],[2,3]),([4],[4]),([5],[5]),([],[]),([],[]),([8],[8]),([7,9],[7,9]),([10],[10]),([11],[11]),([],[]),([13],[13]),([14],[14]),([12,15],[12,15]),([6,16],[6,16]),([0,1,0,1,2,3,4,5,6,7,8,9,10,11,12,13,14,15,16,17],[0,1]),([18,0,1,2,3,4,5,6,7,8,9,10,11,12,13,14,15,16,17],[18]),([19,17,0,1,2,3,4,5,6,7,8,9,10,11,12,13,14,15,16,17],[17,19])])
def impl_FlyPath_spans.B21:List Nat:=[0,0,0,0,12,28,60,0,0,256,896,1920,3968,0,8192,24576,65408,131068,262143,524287,1048575]
theorem impl_FlyPath_spans.tab21:rtab .any (opsOf Try.f136 21)=impl_FlyPath_spans.T21:=by kernel_rfl
theorem impl_FlyPath_spans.bits21:waitsOk impl_FlyPath_spans.T21.2 impl_FlyPath_spans.B21=true:=by kernel_rfl
set_option maxHeartbeats 8000000 in
set_option maxRecDepth 100000 in
theorem impl_FlyPath_spans.calls (k:Nat) (a0_0:Int) (a0_1:Int) (A0_2:Option Addr) (c0_2:Nat) (l0_2:List (S132)) (a0_3:Int) (a0_4:Int) (A1:Option Addr) (c1:Nat) (l1:List Int) (r1:List (S110)) (r2:Bool) (w:World) (hr0_2:Kd.C k132 w A0_2 l0_2.length l0_2) (hc0_2:l0_2.length≤c0_2) (hr1:Kd.C (Kd.int .i64) w A1 l1.length l1) (hc1:l1.length≤c1) (h:impl_FlyPath_spans.f k a0_0 a0_1 l0_2 a0_3 a0_4 l1=some (r1,r2)):
 Calls Try.prog 136 #[.agg #[.int .i64 a0_0,.int .i64 a0_1,.slice A0_2 l0_2.length c0_2,.int .i64 a0_3,.int .i64 a0_4],.slice A1 l1.length c1] w fun e w'=> ∃v0_:Value,e= .returned (.tuple #[v0_,.bool r2])∧Kd.R k110 110 w' w.heap.size (fun _=>True) v0_ r1∧Below w.heap.size w w':=by
 have hu68:=Try.underlying68;have hu110:=Try.underlying110;have HR0_2:=zA hr0_2;have HC0_2:=zA hc0_2;clear hr0_2 hc0_2;have HR1:=zA hr1;have HC1:=zA hc1;clear hr1 hc1;have HB:=zA (Below.refl w.heap.size w);have H:=h;clear h;unfold impl_FlyPath_spans.f at H;obtain⟨ji3,hji3⟩: ∃j_:Int,(wrap64 ((l0_2.length:Int)+1))=j_:=⟨_,rfl⟩
 first|rw[hji3]at H|simp only[hji3]at H
 have hji3w:(IntKind.i64.wrap ((l0_2.length:Int)+1))=ji3:=(i64_w _).trans hji3
 by_cases c4:0≤(ji3)
 rotate_left
 ·rw[if_neg c4]at H
  exact absurd H (by simp)
 rw[if_pos c4]at H;have c4b0:=eq_true c4;have c4b1:decide (0≤(ji3))=true:=decide_eq_true c4;clear c4
 by_cases c5:(ji3:Int).toNat≤17592186044416
 rotate_left
 ·rw[if_neg c5]at H
  exact absurd H (by simp)
 rw[if_pos c5]at H;have c5b0:=eq_true c5;have c5b1:decide ((ji3:Int).toNat≤17592186044416)=true:=decide_eq_true c5;clear c5;obtain⟨y400,hy400⟩: ∃y_:List (S110),y_=(List.replicate (ji3:Int).toNat z110):=⟨_,rfl⟩
 replace H:(impl_FlyPath_spans.l0 k l1 (l0_2.length:Int) y400 (y400.length:Int) 0 a0_0 a0_1 l0_2 a0_3 a0_4)=some (r1,r2):=by first|(rw[hy400];with_reducible exact H)|(have H2_:=(Option.bind_some _ _).symm.trans H;rw[hy400];with_reducible exact H2_)|(have H2_:=(Option.bind_some _ _).symm.trans H;with_reducible exact H2_)|with_reducible exact H|(rw[hy400];exact H)|exact H
 have Ny400:=zA hy400;clear hy400;have H':=zA H;clear H
 go_enter Try.func136,Try.ntmps136
 go_wp2_with (first|((with_reducible refine gate_dst (N:=2) rfl ?_);refine zbx 2 #[.int .i64 a0_0,.int .i64 a0_1,.slice A0_2 l0_2.length c0_2,.int .i64 a0_3,.int .i64 a0_4] 68 ?_;intro gb399 hg w6 hbox hb;have BK399:=zA hbox;have GW399:=zgs hg (zs0 HB);have GE399:=zgs hg (zs0 HB);replace HB:=zE (zs0 HB) hb;clear hb hbox hg;obtain⟨hcz7_0,hcz7_1,hcz7_2,hcz7_3,hcz7_4⟩:=zd5 BK399;obtain⟨hfz7_0,hfz7_1,hfz7_2,hfz7_3,hfz7_4⟩:=zn5 BK399)|((with_reducible refine gate_dst (N:=18) rfl ?_);refine Kd.R_make k110 _ 110 rfl (N:=18) rfl 105 _ _ rfl ji3 rfl rfl Try.underlying105 (.agg #[(.int .i64 0),(.int .i64 0)]) 16 info110 rfl (by decide) (by omega) z110 (ok:=fun _=>True) (okp:=fun _=>True) (k110_mkM _ _ _ z110) (fun _ hk=>hk) trivial (za) (Nat.le_trans (Nat.mul_le_mul_right _ (za:ji3.toNat≤17592186044416)) (by omega)) (Below.refl _ _) (Nat.le_refl _) ?_;intro v401 w8 ho9 hb hg_ hnew_;clear hg_ hnew_;(first|rw[←Ny400.out]at ho9|(simp only[Int.reduceToNat]at ho9;rw[←Ny400.out]at ho9));have HO402:=zA (Kd.R_lower ho9 (below_size (zs1 HB GE399)));replace BK399:=zb BK399 hb;replace HB:=zE (zs1 HB GE399) hb;clear hb ho9;obtain⟨Ao10,co10,eo10⟩:=Kd.R_slice HO402.out;subst eo10))
 go_loopg [21] k (fun kq v21 w'=> ∃(x7_1:List (S110)) (x21_1:Int),v21= .int .i64 x21_1∧Aside0 (impl_FlyPath_spans.l0 kq l1 (l0_2.length:Int) x7_1 (y400.length:Int) x21_1 a0_0 a0_1 l0_2 a0_3 a0_4=some (r1,r2))∧Aside0 (kq≤k)∧Aside0 (Kd.R k110 110 w' w.heap.size (fun _=>True) (.slice Ao10 y400.length co10) x7_1)∧Aside0 (w'.heap[gb399]?=some (.cells #[.int .i64 a0_0,.int .i64 a0_1,(.slice A0_2 l0_2.length c0_2),.int .i64 a0_3,.int .i64 a0_4] 68 (0,0)))∧Aside0 (Below w.heap.size w w'))
 case atStart=>exact⟨(y400),(0),zi,H',⟨Nat.le_refl _⟩,⟨zr HO402⟩,⟨zh BK399⟩,⟨zs1 HB GE399⟩⟩
 case round=>
  clear H'
  try clear c1
  try clear p2
  try clear c4
  try clear c4b0
  try clear c4b1
  try clear c5
  try clear c5b0
  try clear c5b1
  try clear p6
  try clear hcz7_0 hcz7_1 hcz7_2 hcz7_3 hcz7_4 hfz7_0 hfz7_1 hfz7_2 hfz7_3 hfz7_4
  obtain⟨x7_1,x21_1,rfl,HA,HK1,HO_7,BK399,HB⟩:=hrel;have hl7_1:=(Kd.R_reads' HO_7.out).1;rw[hl7_1]at HO_7;(try simp only[hl7_1]);(try simp only[hl7_1]at BK399)
  cases gk with
  |zero=>exact absurd HA.out (by simp[impl_FlyPath_spans.l0])
  |succ k1=>
   have H:=HA.out;clear HA;simp only[impl_FlyPath_spans.l0]at H
   by_cases c11:x21_1<(y400.length:Int)
   ·rw[if_pos c11]at H
    have c11b0:decide (x21_1<(y400.length:Int))=true:=decide_eq_true c11;clear c11;replace H:=Option.bind_eq_some_iff.mp H;obtain⟨⟨t403,t404⟩,A120,H⟩:=H;replace H:(if 0≤x21_1 then(if x21_1<(x7_1.length:Int)then((some (x7_1.set (x21_1:Int).toNat (⟨t403,(rd_T110 x7_1 x21_1).f1⟩:S110):List (S110))).bind fun y405=>((some (y405.set (x21_1:Int).toNat (⟨(rd_T110 y405 x21_1).f0,t404⟩:S110):List (S110))).bind fun y406=>(if x21_1<(l1.length:Int)then((some (y406.set (x21_1:Int).toNat (⟨mx ((rd_T110 y406 x21_1).f0) (rd l1 x21_1),(rd_T110 y406 x21_1).f1⟩:S110):List (S110))).bind fun y411=>(impl_FlyPath_spans.l0 k1 l1 (l0_2.length:Int) (y411.set (x21_1:Int).toNat (⟨(rd_T110 y411 x21_1).f0,mn ((rd_T110 y406 x21_1).f1) (rd l1 x21_1)⟩:S110)) (y400.length:Int) (wrap64 (x21_1+1)) a0_0 a0_1 l0_2 a0_3 a0_4))else(impl_FlyPath_spans.l0 k1 l1 (l0_2.length:Int) y406 (y400.length:Int) (wrap64 (x21_1+1)) a0_0 a0_1 l0_2 a0_3 a0_4))))else(none))else(none))=some (r1,r2):=H;have A12:=zA A120;clear A120;replace H:=zif H;obtain⟨c13b0,H⟩:=H
    by_cases c14:x21_1<(x7_1.length:Int)
    rotate_left
    ·rw[if_neg c14]at H
     exact absurd H (by simp)
    rw[if_pos c14]at H;have c14b0:decide (x21_1<(x7_1.length:Int))=true:=decide_eq_true c14;clear c14;obtain⟨y405,hy405⟩: ∃y_:List (S110),y_=(x7_1.set (x21_1:Int).toNat (⟨t403,(rd_T110 x7_1 x21_1).f1⟩:S110)):=⟨_,rfl⟩
    replace H:((some (y405.set (x21_1:Int).toNat (⟨(rd_T110 y405 x21_1).f0,t404⟩:S110):List (S110))).bind fun y406=>(if x21_1<(l1.length:Int)then((some (y406.set (x21_1:Int).toNat (⟨mx ((rd_T110 y406 x21_1).f0) (rd l1 x21_1),(rd_T110 y406 x21_1).f1⟩:S110):List (S110))).bind fun y411=>(impl_FlyPath_spans.l0 k1 l1 (l0_2.length:Int) (y411.set (x21_1:Int).toNat (⟨(rd_T110 y411 x21_1).f0,mn ((rd_T110 y406 x21_1).f1) (rd l1 x21_1)⟩:S110)) (y400.length:Int) (wrap64 (x21_1+1)) a0_0 a0_1 l0_2 a0_3 a0_4))else(impl_FlyPath_spans.l0 k1 l1 (l0_2.length:Int) y406 (y400.length:Int) (wrap64 (x21_1+1)) a0_0 a0_1 l0_2 a0_3 a0_4)))=some (r1,r2):=by first|(rw[hy405];with_reducible exact H)|(have H2_:=(Option.bind_some _ _).symm.trans H;rw[hy405];with_reducible exact H2_)|(have H2_:=(Option.bind_some _ _).symm.trans H;with_reducible exact H2_)|with_reducible exact H|(rw[hy405];exact H)|exact H
    have Ny405:=zA hy405;clear hy405;obtain⟨y406,hy406⟩: ∃y_:List (S110),y_=(y405.set (x21_1:Int).toNat (⟨(rd_T110 y405 x21_1).f0,t404⟩:S110)):=⟨_,rfl⟩
    replace H:(if x21_1<(l1.length:Int)then((some (y406.set (x21_1:Int).toNat (⟨mx ((rd_T110 y406 x21_1).f0) (rd l1 x21_1),(rd_T110 y406 x21_1).f1⟩:S110):List (S110))).bind fun y411=>(impl_FlyPath_spans.l0 k1 l1 (l0_2.length:Int) (y411.set (x21_1:Int).toNat (⟨(rd_T110 y411 x21_1).f0,mn ((rd_T110 y406 x21_1).f1) (rd l1 x21_1)⟩:S110)) (y400.length:Int) (wrap64 (x21_1+1)) a0_0 a0_1 l0_2 a0_3 a0_4))else(impl_FlyPath_spans.l0 k1 l1 (l0_2.length:Int) y406 (y400.length:Int) (wrap64 (x21_1+1)) a0_0 a0_1 l0_2 a0_3 a0_4))=some (r1,r2):=by first|(rw[hy406];with_reducible exact H)|(have H2_:=(Option.bind_some _ _).symm.trans H;rw[hy406];with_reducible exact H2_)|(have H2_:=(Option.bind_some _ _).symm.trans H;with_reducible exact H2_)|with_reducible exact H|(rw[hy406];exact H)|exact H
    have Ny406:=zA hy406;clear hy406
    by_cases c17:x21_1<(l1.length:Int)
    rotate_left
    ·rw[if_neg c17]at H
     have c17b0:decide (x21_1<(l1.length:Int))=false:=decide_eq_false c17;clear c17;have H':=zA H;clear H;obtain⟨hcz31_0,hcz31_1,hcz31_2,hcz31_3,hcz31_4⟩:=zd5 BK399;obtain⟨hfz31_0,hfz31_1,hfz31_2,hfz31_3,hfz31_4⟩:=zn5 BK399
     go_wp2_with (first|((with_reducible refine gate_callee (f:=161) rfl ?_);refine zgl (N:=some 31) Try.func161 #[.agg #[.int .i64 a0_0,.int .i64 a0_1,.slice A0_2 l0_2.length c0_2,.int .i64 a0_3,.int .i64 a0_4],.int .i64 x21_1] ?_;(with_reducible refine(impl_FlyPath_bound.calls a0_0 a0_1 _ _ l0_2 a0_3 a0_4 x21_1 t403 t404 _ ?side1 ?side2 A12.out).mono ?_);(case side1=>exact zC HR0_2 HB);(case side2=>exact HC0_2.out);rintro e w32 ⟨rfl,hb⟩;refine⟨_,rfl,?_⟩;replace HO_7:=zA (Kd.R_below (zr HO_7) hb);replace BK399:=zb BK399 hb;replace HB:=zE (zs1 HB GE399) hb;(try clear hb);(try clear hb2);(try clear hk);(try clear hi);have p15:0≤(x21_1:Int):=za;have q15:(x21_1:Int)<((x7_1.length:Int):Int):=za;obtain⟨go15,co15,eo15,gb15,gl15,cl15,HG15⟩:=Kd.R_form HO_7.out (by omega);(first|cases eo15|(injection eo15 with ea_ en_ ec_;(first|subst ea_|(injection ea_ with ea_;subst ea_));subst ec_;clear en_));have GB15:=zA gb15;have GG15:=zA HG15;clear gb15 gl15 HG15;obtain⟨ce15,hcl15,hM15,hcc15,hfr15⟩:=Kd.R_elem HO_7.out z110 (x21_1:Int) p15 q15;obtain rfl:=k110_openM hM15;have hx15_0:w32.cell? ⟨go15,(x21_1:Int).toNat*2,none⟩=some (.int .i64 ((rd_T110 x7_1 x21_1).f0)):=hcc15 0 _ rfl;have hx15_1:w32.cell? ⟨go15,(x21_1:Int).toNat*2+1,none⟩=some (.int .i64 ((rd_T110 x7_1 x21_1).f1)):=hcc15 1 _ rfl;have hf15_0:w32.frozen? ⟨go15,(x21_1:Int).toNat*2,none⟩=false:=hfr15 0;have hf15_1:w32.frozen? ⟨go15,(x21_1:Int).toNat*2+1,none⟩=false:=hfr15 1;clear hcl15 hcc15 hfr15 hM15;replace p15:=eq_true p15;replace q15:=eq_true q15;have HX33:=zA (show Kd.R k110 110 w32 w.heap.size (fun _=>True) (.slice (some ⟨go15,0,none⟩) x7_1.length co10) x7_1 from(zr HO_7));obtain⟨ce33,hcl33,hM33,hcc33,hfr33⟩:=Kd.R_elem HX33.out z110 (x21_1:Int) (za) (by have h_:(x21_1:Int)<((x7_1.length:Int):Int):=za;first|exact h_|(have e_:=(Kd.R_reads' HO_7.out).1;omega)|simpa using h_);obtain rfl:=k110_openM hM33;have HP33:=Kd.R_seg HX33.out (x21_1:Int) (za) (by have h_:(x21_1:Int)<((x7_1.length:Int):Int):=za;first|exact h_|(have e_:=(Kd.R_reads' HO_7.out).1;omega)|simpa using h_) (seg:=[.int .i64 t403]) (j:=0) hcl33 hcc33 (show 1≤2 from by decide) (x':=(⟨t403,(rd_T110 x7_1 x21_1).f1⟩:S110)) (k110_mkM _ _ _ (⟨t403,(rd_T110 x7_1 x21_1).f1⟩:S110)) (fun _ hk=>hk);have hx33_0:=hcc33 0 _ rfl;(try simp only[show(k110).sz=2 from rfl,Nat.mul_one,Nat.add_zero]at hx33_0);have hf33_0:=hfr33 0;(try simp only[show(k110).sz=2 from rfl,Nat.mul_one,Nat.add_zero]at hf33_0);clear hcl33 hcc33 hfr33 hM33)|((with_reducible refine gate_store (t:=3) (p:=35) rfl ?_);refine store_event (t:=3) (p:=35) (v:=?vo_w34) (w1:=(w32.setCell ⟨go15,(x21_1:Int).toNat*2,none⟩ (.int .i64 t403))) ?hg ?ho ?hn ?hr ?_;(case ho=>rfl);(case hg=>rfl);(case hn=>rfl);(case hr=>first|(go_simp;done)|(go_simp;rfl));intro w34 hw;have hg:w32.grownBy w34 (some go15):=(by rw[hw];exact HP33.2);have hp_:Kd.R k110 110 w34 w.heap.size (fun _=>True) (.slice (some ⟨go15,0,none⟩) x7_1.length co10) y405:=(by rw[hw,Ny405.out];exact HP33.1);clear HP33;replace BK399:=zA (blk_grown (g:=gb399) (o:= .cells #[.int .i64 a0_0,.int .i64 a0_1,.slice A0_2 l0_2.length c0_2,.int .i64 a0_3,.int .i64 a0_4] 68 (0,0)) (zh BK399) hg (Kd.R_ne HO_7.out BK399.out (by decide)));replace HO_7:=zA (hp_);replace HB:=zA ((by rw[hw];exact below_set (HB.out) GB15.out:Below w.heap.size w w34));clear hg hw hp_;have p16:0≤(x21_1:Int):=za;have q16:(x21_1:Int)<((x7_1.length:Int):Int):=za;obtain⟨ce16,hcl16,hM16,hcc16,hfr16⟩:=Kd.R_elem HO_7.out z110 (x21_1:Int) p16 q16;obtain rfl:=k110_openM hM16;have hx16_0:w34.cell? ⟨go15,(x21_1:Int).toNat*2,none⟩=some (.int .i64 ((rd_T110 y405 x21_1).f0)):=hcc16 0 _ rfl;have hx16_1:w34.cell? ⟨go15,(x21_1:Int).toNat*2+1,none⟩=some (.int .i64 ((rd_T110 y405 x21_1).f1)):=hcc16 1 _ rfl;have hf16_0:w34.frozen? ⟨go15,(x21_1:Int).toNat*2,none⟩=false:=hfr16 0;have hf16_1:w34.frozen? ⟨go15,(x21_1:Int).toNat*2+1,none⟩=false:=hfr16 1;clear hcl16 hcc16 hfr16 hM16;replace p16:=eq_true p16;replace q16:=eq_true q16;have HX35:=zA (show Kd.R k110 110 w34 w.heap.size (fun _=>True) (.slice (some ⟨go15,0,none⟩) x7_1.length co10) y405 from(zr HO_7));obtain⟨ce35,hcl35,hM35,hcc35,hfr35⟩:=Kd.R_elem HX35.out z110 (x21_1:Int) (za) (by have h_:(x21_1:Int)<((x7_1.length:Int):Int):=za;first|exact h_|(have e_:=(Kd.R_reads' HO_7.out).1;omega)|simpa using h_);obtain rfl:=k110_openM hM35;have HP35:=Kd.R_seg HX35.out (x21_1:Int) (za) (by have h_:(x21_1:Int)<((x7_1.length:Int):Int):=za;first|exact h_|(have e_:=(Kd.R_reads' HO_7.out).1;omega)|simpa using h_) (seg:=[.int .i64 t404]) (j:=1) hcl35 hcc35 (show 2≤2 from by decide) (x':=(⟨(rd_T110 y405 x21_1).f0,t404⟩:S110)) (k110_mkM _ _ _ (⟨(rd_T110 y405 x21_1).f0,t404⟩:S110)) (fun _ hk=>hk);have hx35_1:=hcc35 1 _ rfl;(try simp only[show(k110).sz=2 from rfl,Nat.mul_one,Nat.add_zero]at hx35_1);have hf35_1:=hfr35 1;(try simp only[show(k110).sz=2 from rfl,Nat.mul_one,Nat.add_zero]at hf35_1);clear hcl35 hcc35 hfr35 hM35)|((with_reducible refine gate_store (t:=3) (p:=37) rfl ?_);refine store_event (t:=3) (p:=37) (v:=?vo_w36) (w1:=(w34.setCell ⟨go15,(x21_1:Int).toNat*2+1,none⟩ (.int .i64 t404))) ?hg ?ho ?hn ?hr ?_;(case ho=>rfl);(case hg=>rfl);(case hn=>rfl);(case hr=>first|(go_simp;done)|(go_simp;rfl));intro w36 hw;have hg:w34.grownBy w36 (some go15):=(by rw[hw];exact HP35.2);have hp_:Kd.R k110 110 w36 w.heap.size (fun _=>True) (.slice (some ⟨go15,0,none⟩) x7_1.length co10) y406:=(by rw[hw,Ny406.out];exact HP35.1);clear HP35;replace BK399:=zA (blk_grown (g:=gb399) (o:= .cells #[.int .i64 a0_0,.int .i64 a0_1,.slice A0_2 l0_2.length c0_2,.int .i64 a0_3,.int .i64 a0_4] 68 (0,0)) (zh BK399) hg (Kd.R_ne HO_7.out BK399.out (by decide)));replace HO_7:=zA (hp_);replace HB:=zA ((by rw[hw];exact below_set (HB.out) GB15.out:Below w.heap.size w w36));clear hg hw hp_))
     (try simp only[←hl7_1])
     go_roundg k1
     case measure=>have:=HK1.out;omega
     case rel=>exact⟨(y406),(wrap64 (x21_1+1)),zi,H',⟨by have:=HK1.out;omega⟩,⟨by(try simp only[hl7_1]);(with_reducible repeat(first|apply Kd.R_alloc|apply Kd.R_drewN|apply Kd.R_drew));exact HO_7.out⟩,⟨by(try simp only[hl7_1]);(with_reducible repeat(first|refine blk_drewN ?_ _|refine blk_drew ?_|refine blk_alloc ?_ _));exact BK399.out⟩,⟨zs1 HB GE399⟩⟩
    rw[if_pos c17]at H;have c17b0:decide (x21_1<(l1.length:Int))=true:=decide_eq_true c17;clear c17;obtain⟨ji18,hji18⟩: ∃j_:Int,(mx ((rd_T110 y406 x21_1).f0) (rd l1 x21_1))=j_:=⟨_,rfl⟩
    first|rw[hji18]at H|simp only[hji18]at H
    (try rw[hji18]at A12);have hji18_:(if((rd_T110 y406 x21_1).f0)<(rd l1 x21_1)then(rd l1 x21_1)else((rd_T110 y406 x21_1).f0))=ji18:=hji18;obtain⟨ji19,hji19⟩: ∃j_:Int,(mn ((rd_T110 y406 x21_1).f1) (rd l1 x21_1))=j_:=⟨_,rfl⟩
    first|rw[hji19]at H|simp only[hji19]at H
    (try rw[hji19]at A12);have hji19_:(if(rd l1 x21_1)<((rd_T110 y406 x21_1).f1)then(rd l1 x21_1)else((rd_T110 y406 x21_1).f1))=ji19:=hji19;obtain⟨y411,hy411⟩: ∃y_:List (S110),y_=(y406.set (x21_1:Int).toNat (⟨ji18,(rd_T110 y406 x21_1).f1⟩:S110)):=⟨_,rfl⟩
    replace H:(impl_FlyPath_spans.l0 k1 l1 (l0_2.length:Int) (y411.set (x21_1:Int).toNat (⟨(rd_T110 y411 x21_1).f0,ji19⟩:S110)) (y400.length:Int) (wrap64 (x21_1+1)) a0_0 a0_1 l0_2 a0_3 a0_4)=some (r1,r2):=by first|(rw[hy411];with_reducible exact H)|(have H2_:=(Option.bind_some _ _).symm.trans H;rw[hy411];with_reducible exact H2_)|(have H2_:=(Option.bind_some _ _).symm.trans H;with_reducible exact H2_)|with_reducible exact H|(rw[hy411];exact H)|exact H
    have Ny411:=zA hy411;clear hy411;obtain⟨y412,hy412⟩: ∃y_:List (S110),y_=(y411.set (x21_1:Int).toNat (⟨(rd_T110 y411 x21_1).f0,ji19⟩:S110)):=⟨_,rfl⟩
    replace H:(impl_FlyPath_spans.l0 k1 l1 (l0_2.length:Int) y412 (y400.length:Int) (wrap64 (x21_1+1)) a0_0 a0_1 l0_2 a0_3 a0_4)=some (r1,r2):=by first|(rw[hy412];with_reducible exact H)|(have H2_:=(Option.bind_some _ _).symm.trans H;rw[hy412];with_reducible exact H2_)|(have H2_:=(Option.bind_some _ _).symm.trans H;with_reducible exact H2_)|with_reducible exact H|(rw[hy412];exact H)|exact H
    have Ny412:=zA hy412;clear hy412;have H':=zA H;clear H;obtain⟨hcz22_0,hcz22_1,hcz22_2,hcz22_3,hcz22_4⟩:=zd5 BK399;obtain⟨hfz22_0,hfz22_1,hfz22_2,hfz22_3,hfz22_4⟩:=zn5 BK399
    try go_wp2_with (first|((with_reducible refine gate_callee (f:=161) rfl ?_);refine zgl (N:=some 31) Try.func161 #[.agg #[.int .i64 a0_0,.int .i64 a0_1,.slice A0_2 l0_2.length c0_2,.int .i64 a0_3,.int .i64 a0_4],.int .i64 x21_1] ?_;(with_reducible refine(impl_FlyPath_bound.calls a0_0 a0_1 _ _ l0_2 a0_3 a0_4 x21_1 t403 t404 _ ?side1 ?side2 A12.out).mono ?_);(case side1=>exact zC HR0_2 HB);(case side2=>exact HC0_2.out);rintro e w23 ⟨rfl,hb⟩;refine⟨_,rfl,?_⟩;replace HO_7:=zA (Kd.R_below (zr HO_7) hb);replace BK399:=zb BK399 hb;replace HB:=zE (zs1 HB GE399) hb;(try clear hb);(try clear hb2);(try clear hk);(try clear hi);have p15:0≤(x21_1:Int):=za;have q15:(x21_1:Int)<((x7_1.length:Int):Int):=za;obtain⟨go15,co15,eo15,gb15,gl15,cl15,HG15⟩:=Kd.R_form HO_7.out (by omega);(first|cases eo15|(injection eo15 with ea_ en_ ec_;(first|subst ea_|(injection ea_ with ea_;subst ea_));subst ec_;clear en_));have GB15:=zA gb15;have GG15:=zA HG15;clear gb15 gl15 HG15;obtain⟨ce15,hcl15,hM15,hcc15,hfr15⟩:=Kd.R_elem HO_7.out z110 (x21_1:Int) p15 q15;obtain rfl:=k110_openM hM15;have hx15_0:w23.cell? ⟨go15,(x21_1:Int).toNat*2,none⟩=some (.int .i64 ((rd_T110 x7_1 x21_1).f0)):=hcc15 0 _ rfl;have hx15_1:w23.cell? ⟨go15,(x21_1:Int).toNat*2+1,none⟩=some (.int .i64 ((rd_T110 x7_1 x21_1).f1)):=hcc15 1 _ rfl;have hf15_0:w23.frozen? ⟨go15,(x21_1:Int).toNat*2,none⟩=false:=hfr15 0;have hf15_1:w23.frozen? ⟨go15,(x21_1:Int).toNat*2+1,none⟩=false:=hfr15 1;clear hcl15 hcc15 hfr15 hM15;replace p15:=eq_true p15;replace q15:=eq_true q15;have HX24:=zA (show Kd.R k110 110 w23 w.heap.size (fun _=>True) (.slice (some ⟨go15,0,none⟩) x7_1.length co10) x7_1 from(zr HO_7));obtain⟨ce24,hcl24,hM24,hcc24,hfr24⟩:=Kd.R_elem HX24.out z110 (x21_1:Int) (za) (by have h_:(x21_1:Int)<((x7_1.length:Int):Int):=za;first|exact h_|(have e_:=(Kd.R_reads' HO_7.out).1;omega)|simpa using h_);obtain rfl:=k110_openM hM24;have HP24:=Kd.R_seg HX24.out (x21_1:Int) (za) (by have h_:(x21_1:Int)<((x7_1.length:Int):Int):=za;first|exact h_|(have e_:=(Kd.R_reads' HO_7.out).1;omega)|simpa using h_) (seg:=[.int .i64 t403]) (j:=0) hcl24 hcc24 (show 1≤2 from by decide) (x':=(⟨t403,(rd_T110 x7_1 x21_1).f1⟩:S110)) (k110_mkM _ _ _ (⟨t403,(rd_T110 x7_1 x21_1).f1⟩:S110)) (fun _ hk=>hk);have hx24_0:=hcc24 0 _ rfl;(try simp only[show(k110).sz=2 from rfl,Nat.mul_one,Nat.add_zero]at hx24_0);have hf24_0:=hfr24 0;(try simp only[show(k110).sz=2 from rfl,Nat.mul_one,Nat.add_zero]at hf24_0);clear hcl24 hcc24 hfr24 hM24)|((with_reducible refine gate_store (t:=3) (p:=35) rfl ?_);refine store_event (t:=3) (p:=35) (v:=?vo_w25) (w1:=(w23.setCell ⟨go15,(x21_1:Int).toNat*2,none⟩ (.int .i64 t403))) ?hg ?ho ?hn ?hr ?_;(case ho=>rfl);(case hg=>rfl);(case hn=>rfl);(case hr=>first|(go_simp;done)|(go_simp;rfl));intro w25 hw;have hg:w23.grownBy w25 (some go15):=(by rw[hw];exact HP24.2);have hp_:Kd.R k110 110 w25 w.heap.size (fun _=>True) (.slice (some ⟨go15,0,none⟩) x7_1.length co10) y405:=(by rw[hw,Ny405.out];exact HP24.1);clear HP24;replace BK399:=zA (blk_grown (g:=gb399) (o:= .cells #[.int .i64 a0_0,.int .i64 a0_1,.slice A0_2 l0_2.length c0_2,.int .i64 a0_3,.int .i64 a0_4] 68 (0,0)) (zh BK399) hg (Kd.R_ne HO_7.out BK399.out (by decide)));replace HO_7:=zA (hp_);replace HB:=zA ((by rw[hw];exact below_set (HB.out) GB15.out:Below w.heap.size w w25));clear hg hw hp_;have p16:0≤(x21_1:Int):=za;have q16:(x21_1:Int)<((x7_1.length:Int):Int):=za;obtain⟨ce16,hcl16,hM16,hcc16,hfr16⟩:=Kd.R_elem HO_7.out z110 (x21_1:Int) p16 q16;obtain rfl:=k110_openM hM16;have hx16_0:w25.cell? ⟨go15,(x21_1:Int).toNat*2,none⟩=some (.int .i64 ((rd_T110 y405 x21_1).f0)):=hcc16 0 _ rfl;have hx16_1:w25.cell? ⟨go15,(x21_1:Int).toNat*2+1,none⟩=some (.int .i64 ((rd_T110 y405 x21_1).f1)):=hcc16 1 _ rfl;have hf16_0:w25.frozen? ⟨go15,(x21_1:Int).toNat*2,none⟩=false:=hfr16 0;have hf16_1:w25.frozen? ⟨go15,(x21_1:Int).toNat*2+1,none⟩=false:=hfr16 1;clear hcl16 hcc16 hfr16 hM16;replace p16:=eq_true p16;replace q16:=eq_true q16;have HX26:=zA (show Kd.R k110 110 w25 w.heap.size (fun _=>True) (.slice (some ⟨go15,0,none⟩) x7_1.length co10) y405 from(zr HO_7));obtain⟨ce26,hcl26,hM26,hcc26,hfr26⟩:=Kd.R_elem HX26.out z110 (x21_1:Int) (za) (by have h_:(x21_1:Int)<((x7_1.length:Int):Int):=za;first|exact h_|(have e_:=(Kd.R_reads' HO_7.out).1;omega)|simpa using h_);obtain rfl:=k110_openM hM26;have HP26:=Kd.R_seg HX26.out (x21_1:Int) (za) (by have h_:(x21_1:Int)<((x7_1.length:Int):Int):=za;first|exact h_|(have e_:=(Kd.R_reads' HO_7.out).1;omega)|simpa using h_) (seg:=[.int .i64 t404]) (j:=1) hcl26 hcc26 (show 2≤2 from by decide) (x':=(⟨(rd_T110 y405 x21_1).f0,t404⟩:S110)) (k110_mkM _ _ _ (⟨(rd_T110 y405 x21_1).f0,t404⟩:S110)) (fun _ hk=>hk);have hx26_1:=hcc26 1 _ rfl;(try simp only[show(k110).sz=2 from rfl,Nat.mul_one,Nat.add_zero]at hx26_1);have hf26_1:=hfr26 1;(try simp only[show(k110).sz=2 from rfl,Nat.mul_one,Nat.add_zero]at hf26_1);clear hcl26 hcc26 hfr26 hM26)|((with_reducible refine gate_store (t:=3) (p:=37) rfl ?_);refine store_event (t:=3) (p:=37) (v:=?vo_w27) (w1:=(w25.setCell ⟨go15,(x21_1:Int).toNat*2+1,none⟩ (.int .i64 t404))) ?hg ?ho ?hn ?hr ?_;(case ho=>rfl);(case hg=>rfl);(case hn=>rfl);(case hr=>first|(go_simp;done)|(go_simp;rfl));intro w27 hw;have hg:w25.grownBy w27 (some go15):=(by rw[hw];exact HP26.2);have hp_:Kd.R k110 110 w27 w.heap.size (fun _=>True) (.slice (some ⟨go15,0,none⟩) x7_1.length co10) y406:=(by rw[hw,Ny406.out];exact HP26.1);clear HP26;replace BK399:=zA (blk_grown (g:=gb399) (o:= .cells #[.int .i64 a0_0,.int .i64 a0_1,.slice A0_2 l0_2.length c0_2,.int .i64 a0_3,.int .i64 a0_4] 68 (0,0)) (zh BK399) hg (Kd.R_ne HO_7.out BK399.out (by decide)));replace HO_7:=zA (hp_);replace HB:=zA ((by rw[hw];exact below_set (HB.out) GB15.out:Below w.heap.size w w27));clear hg hw hp_))
    replace HO_7:=zA (Kd.R_drew HO_7.out);replace BK399:=zA (blk_drew BK399.out);replace HB:=zA (below_drew1 HB.out);have p407:0≤(x21_1:Int):=za;have q407:x21_1<(y406.length:Int):=(by have h_:(x21_1:Int)<((x7_1.length:Int):Int):=za;first|(have e_:=(Kd.R_reads' HO_7.out).1;omega)|simpa only[Ny405.out,Ny406.out,List.length_set]using h_);have ql407:((x21_1:Int)<((x7_1.length:Int):Int))=True:=eq_true (za);obtain⟨ad407,e407,hx407_0,hx407_1⟩:=at_T110 (Kd.R_reads' HO_7.out).2.2 x21_1 p407 q407;obtain rfl:(⟨go15,0,none⟩:Addr)=ad407:=(by injection e407);(first|simp only[add_plain]at hx407_0|simp only[add_at]at hx407_0|simp only[Addr.add,Nat.zero_add]at hx407_0|skip);(first|simp only[add_plain]at hx407_1|simp only[add_at]at hx407_1|simp only[Addr.add,Nat.zero_add]at hx407_1|skip);replace p407:=eq_true p407;replace q407:=eq_true q407;have p408:0≤(x21_1:Int):=za;have q408:x21_1<(l1.length:Int):=za;obtain⟨ad408,e408,hx408_0⟩:=Kd.at_int HR1.out x21_1 p408 q408;have hw408_0:=hx408_0;cases e408;replace hx408_0:=zx HB hx408_0;replace p408:=eq_true p408;replace q408:=eq_true q408;have p409:0≤(x21_1:Int):=za;have q409:x21_1<(y406.length:Int):=(by have h_:(x21_1:Int)<((x7_1.length:Int):Int):=za;first|(have e_:=(Kd.R_reads' HO_7.out).1;omega)|simpa only[Ny405.out,Ny406.out,List.length_set]using h_);have ql409:((x21_1:Int)<((x7_1.length:Int):Int))=True:=eq_true (za);obtain⟨ad409,e409,hx409_0,hx409_1⟩:=at_T110 (Kd.R_reads' HO_7.out).2.2 x21_1 p409 q409;obtain rfl:(⟨go15,0,none⟩:Addr)=ad409:=(by injection e409);(first|simp only[add_plain]at hx409_0|simp only[add_at]at hx409_0|simp only[Addr.add,Nat.zero_add]at hx409_0|skip);(first|simp only[add_plain]at hx409_1|simp only[add_at]at hx409_1|simp only[Addr.add,Nat.zero_add]at hx409_1|skip);replace p409:=eq_true p409;replace q409:=eq_true q409;have p410:0≤(x21_1:Int):=za;have q410:x21_1<(l1.length:Int):=za;obtain⟨ad410,e410,hx410_0⟩:=Kd.at_int HR1.out x21_1 p410 q410;have hw410_0:=hx410_0;obtain rfl:ad408=ad410:=(by injection e410);replace hx410_0:=zx HB hx410_0;replace p410:=eq_true p410;replace q410:=eq_true q410;have p20:0≤(x21_1:Int):=za;have q20:(x21_1:Int)<((x7_1.length:Int):Int):=za;obtain⟨ce20,hcl20,hM20,hcc20,hfr20⟩:=Kd.R_elem HO_7.out z110 (x21_1:Int) p20 q20;obtain rfl:=k110_openM hM20;have hx20_0:World.cell? _ ⟨go15,(x21_1:Int).toNat*2,none⟩=some (.int .i64 ((rd_T110 y406 x21_1).f0)):=hcc20 0 _ rfl;have hx20_1:World.cell? _ ⟨go15,(x21_1:Int).toNat*2+1,none⟩=some (.int .i64 ((rd_T110 y406 x21_1).f1)):=hcc20 1 _ rfl;have hf20_0:World.frozen? _ ⟨go15,(x21_1:Int).toNat*2,none⟩=false:=hfr20 0;have hf20_1:World.frozen? _ ⟨go15,(x21_1:Int).toNat*2+1,none⟩=false:=hfr20 1;clear hcl20 hcc20 hfr20 hM20;replace p20:=eq_true p20;replace q20:=eq_true q20;obtain⟨ce29,hcl29,hM29,hcc29,hfr29⟩:=Kd.R_elem HO_7.out z110 (x21_1:Int) (za) (by have h_:(x21_1:Int)<((x7_1.length:Int):Int):=za;first|exact h_|(have e_:=(Kd.R_reads' HO_7.out).1;omega)|simpa using h_);obtain rfl:=k110_openM hM29;have HP29:=(Kd.R_seg HO_7.out (x21_1:Int) (za) (by have h_:(x21_1:Int)<((x7_1.length:Int):Int):=za;first|exact h_|(have e_:=(Kd.R_reads' HO_7.out).1;omega)|simpa using h_) (seg:=[.int .i64 ji18]) (j:=0) hcl29 hcc29 (show 1≤2 from by decide) (x':=(⟨ji18,(rd_T110 y406 x21_1).f1⟩:S110)) (k110_mkM _ _ _ (⟨ji18,(rd_T110 y406 x21_1).f1⟩:S110)) (fun _ hk=>hk)).1;rw[←Ny411.out]at HP29;have HQ29:=zA HP29;clear hcl29 hcc29 hfr29 hM29 HP29;have p21:0≤(x21_1:Int):=za;have q21:(x21_1:Int)<((x7_1.length:Int):Int):=za;replace p21:=eq_true p21;replace q21:=eq_true q21;obtain⟨ce30,hcl30,hM30,hcc30,hfr30⟩:=Kd.R_elem HQ29.out z110 (x21_1:Int) (za) (by have h_:(x21_1:Int)<((x7_1.length:Int):Int):=za;first|exact h_|(have e_:=(Kd.R_reads' HO_7.out).1;omega)|simpa using h_);obtain rfl:=k110_openM hM30;have HP30:=(Kd.R_seg HQ29.out (x21_1:Int) (za) (by have h_:(x21_1:Int)<((x7_1.length:Int):Int):=za;first|exact h_|(have e_:=(Kd.R_reads' HO_7.out).1;omega)|simpa using h_) (seg:=[.int .i64 ji19]) (j:=1) hcl30 hcc30 (show 2≤2 from by decide) (x':=(⟨(rd_T110 y411 x21_1).f0,ji19⟩:S110)) (k110_mkM _ _ _ (⟨(rd_T110 y411 x21_1).f0,ji19⟩:S110)) (fun _ hk=>hk)).1
    rw[←Ny412.out]at HP30;have HQ30:=zA HP30;clear hcl30 hcc30 hfr30 hM30 HP30;refine start_ (n:=30) (S:=fun w'=>w'.cell? ⟨go15,(x21_1).toNat*2,none⟩=some (.int .i64 ((rd_T110 y406 x21_1).f0))∧w'.cell? ⟨go15,(x21_1).toNat*2+1,none⟩=some (.int .i64 ((rd_T110 y406 x21_1).f1))∧w'.cell? (ad408.add (x21_1).toNat)=some (.int .i64 (rd l1 x21_1))∧w'.cell? ⟨go15,(x21_1).toNat*2,none⟩=some (.int .i64 ((rd_T110 y406 x21_1).f0))∧w'.cell? ⟨go15,(x21_1).toNat*2+1,none⟩=some (.int .i64 ((rd_T110 y406 x21_1).f1))∧w'.cell? (ad408.add (x21_1).toNat)=some (.int .i64 (rd l1 x21_1))) (ds:=[26,29]) #[F,F,F,F,F,F,F,F,F,F,F,F,F,F,F,F,F,F,F,F,F,F,F,F,F,F,F,F,F,F] (by kernel_rfl) rfl rfl ⟨hx407_0,hx407_1,(zw HB hw408_0),hx409_0,hx409_1,(zw HB hw410_0)⟩ (fun hHeld=>?_);refine with_tabW impl_FlyPath_spans.tab8 impl_FlyPath_spans.bits8 (fun HT_ HW_=>?_);generalize w27.drew=w28 at HO_7 BK399 HB HQ29 HQ30 hf20_0 hf20_1 hx20_0 hx20_1 hx407_0 hx407_1 hx408_0 hx409_0 hx409_1 hx410_0 hHeld⊢;refine zq HT_ 0 ?_;refine zq HT_ 1 ?_;refine zq HT_ 2 ?_;refine zq HT_ 3 ?_;refine zq HT_ 4 ?_;refine zq HT_ 5 ?_;refine zq HT_ 6 ?_;refine zq HT_ 7 ?_;refine zq HT_ 9 ?_;refine zq HT_ 10 ?_;refine zq HT_ 11 ?_;refine zq HT_ 14 ?_;refine zq HT_ 15 ?_;refine zq HT_ 16 ?_;refine zq HT_ 17 ?_;refine zq HT_ 19 ?_;refine zq HT_ 20 ?_;refine zq HT_ 21 ?_;refine zk6 HT_ HW_ hHeld 8 ?_;refine zk6 HT_ HW_ hHeld 12 ?_;refine zq HT_ 13 ?_;refine zk6 HT_ HW_ hHeld 18 ?_;refine zk6 HT_ HW_ hHeld 22 ?_;refine zq HT_ 23 ?_;refine zq HT_ 24 ?_;refine zq HT_ 25 ?_;refine zO HT_ 26 (fun K hK=>?_);refine skip_ (w1:=?_) (by rfl) rfl ?_ ?_;rotate_left
    ·go_simp
     rfl
    refine hK.out _ _ ?_;clear hK K;refine zq HT_ 27 ?_;refine zq HT_ 28 ?_;refine zO HT_ 29 (fun K hK=>?_);refine skip_ (w1:=?_) (by rfl) rfl ?_ ?_;rotate_left
    ·go_simp
     rfl
    refine hK.out _ _ ?_;clear hK K;refine done_ (done_of HT_.out (by kernel_rfl)) ?_
    try go_wp2
    (try simp only[←hl7_1])
    go_roundg k1
    case measure=>have:=HK1.out;omega
    case rel=>exact⟨(y412),(wrap64 (x21_1+1)),zi,H',⟨by have:=HK1.out;omega⟩,⟨by(try simp only[hl7_1]);(with_reducible repeat(first|apply Kd.R_alloc|apply Kd.R_drewN|apply Kd.R_drew));exact HQ30.out⟩,⟨by(try simp only[hl7_1]);(with_reducible repeat(first|refine blk_drewN ?_ _|refine blk_drew ?_|refine blk_alloc ?_ _));refine blk_far ?_ (by have h_:=Kd.R_ne HO_7.out BK399.out (by decide);intro e_;exact h_ (by rw[e_];rfl)) _;(with_reducible repeat(first|refine blk_drewN ?_ _|refine blk_drew ?_|refine blk_alloc ?_ _));refine blk_far ?_ (by have h_:=Kd.R_ne HO_7.out BK399.out (by decide);intro e_;exact h_ (by rw[e_];rfl)) _;(with_reducible repeat(first|refine blk_drewN ?_ _|refine blk_drew ?_|refine blk_alloc ?_ _));exact BK399.out⟩,⟨by repeat(first|(with_reducible first|exact HB.out|apply below_alloc|apply pw_below_drewN|apply below_drew1|refine below_set ?_ GB15.out|refine below_set ?_ GB15.out|refine below_set ?_ GE399.out)|exact HB.out)⟩⟩
   rw[if_neg c11]at H;have c11b0:decide (x21_1<(y400.length:Int))=false:=decide_eq_false c11;(try rw[hl7_1]at c11b0);(try rw[hl7_2]at c11b0);(try rw[hl7_3]at c11b0);clear c11;have H':=zA H;clear H
   go_wp2
   go_loopg [9] k1 (fun kq v9 w'=> ∃(x7_2:List (S110)) (x9_2:Int),v9= .int .i64 x9_2∧Aside0 (impl_FlyPath_spans.l1 kq (l0_2.length:Int) x7_2 x9_2 a0_0 a0_1 l0_2 a0_3 a0_4=some (r1,r2))∧Aside0 (kq≤k1)∧Aside0 (Kd.R k110 110 w' w.heap.size (fun _=>True) (.slice Ao10 x7_1.length co10) x7_2)∧Aside0 (w'.heap[gb399]?=some (.cells #[.int .i64 a0_0,.int .i64 a0_1,(.slice A0_2 l0_2.length c0_2),.int .i64 a0_3,.int .i64 a0_4] 68 (0,0)))∧Aside0 (Below w.heap.size w w'))
   case atStart=>exact⟨(x7_1),(1),zi,H',⟨Nat.le_refl _⟩,⟨by(try simp only[hl7_1]);(with_reducible repeat(first|apply Kd.R_alloc|apply Kd.R_drewN|apply Kd.R_drew));exact HO_7.out⟩,⟨by(try simp only[hl7_1]);(with_reducible repeat(first|refine blk_drewN ?_ _|refine blk_drew ?_|refine blk_alloc ?_ _));exact BK399.out⟩,⟨zs1 HB GE399⟩⟩
   case round=>
    clear H'
    try clear c1
    try clear p1
    try clear q1
    try clear hx1
    try clear c2
    try clear p2
    try clear q2
    try clear hx2
    try clear hf2
    try clear c3
    try clear hx3
    try clear hf3
    try clear c4
    try clear c4b0
    try clear c4b1
    try clear p4
    try clear q4
    try clear hx4
    try clear c5
    try clear c5b0
    try clear c5b1
    try clear p6
    try clear c11
    try clear c11b0
    try clear c13
    try clear c13b0
    try clear c14
    try clear c14b0
    try clear c15
    try clear p15
    try clear q15
    try clear hx15
    try clear hf15
    try clear c16
    try clear p16
    try clear q16
    try clear hx16
    try clear hf16
    try clear c17
    try clear c17b0
    try clear c20
    try clear p20
    try clear q20
    try clear hx20
    try clear hf20
    try clear p21
    try clear q21
    try clear c24
    try clear hx24
    try clear hf24
    try clear c26
    try clear hx26
    try clear hf26
    try clear c29
    try clear c30
    try clear c33
    try clear hx33
    try clear hf33
    try clear c35
    try clear hx35
    try clear hf35
    try clear hcz22_0 hcz22_1 hcz22_2 hcz22_3 hcz22_4
    try clear hcz31_0 hcz31_1 hcz31_2 hcz31_3 hcz31_4
    try clear hcz7_0 hcz7_1 hcz7_2 hcz7_3 hcz7_4
    try clear hfz22_0 hfz22_1 hfz22_2 hfz22_3 hfz22_4
    try clear hfz31_0 hfz31_1 hfz31_2 hfz31_3 hfz31_4
    try clear hfz7_0 hfz7_1 hfz7_2 hfz7_3 hfz7_4
    try clear hx15_0
    try clear hx15_1
    try clear hx16_0
    try clear hx16_1
    try clear hx20_0
    try clear hx20_1
    try clear hx24_0
    try clear hx26_1
    try clear hx33_0
    try clear hx35_1
    try clear hx407_0
    try clear hx407_1
    try clear hx408_0
    try clear hx409_0
    try clear hx409_1
    try clear hx410_0
    try clear p15
    try clear p16
    try clear p2
    try clear p20
    try clear p21
    try clear p407
    try clear p408
    try clear p409
    try clear p410
    try clear p6
    try clear q15
    try clear q16
    try clear q20
    try clear q21
    try clear q407
    try clear q408
    try clear q409
    try clear q410
    obtain⟨x7_2,x9_2,rfl,HA,HK2,HO_7,BK399,HB⟩:=hrel;have hl7_2:=(Kd.R_reads' HO_7.out).1;rw[hl7_2]at HO_7;(try simp only[hl7_2]);(try simp only[hl7_2]at BK399)
    cases gk with
    |zero=>exact absurd HA.out (by simp[impl_FlyPath_spans.l1])
    |succ k2=>
     have H:=HA.out;clear HA;simp only[impl_FlyPath_spans.l1]at H
     by_cases c37:x9_2≤(l0_2.length:Int)
     ·rw[if_pos c37]at H
      have c37b0:decide (x9_2≤(l0_2.length:Int))=true:=decide_eq_true c37;clear c37;replace H:=zif H;obtain⟨c38b0,H⟩:=H
      by_cases c39:x9_2<(x7_2.length:Int)
      rotate_left
      ·rw[if_neg c39]at H
       exact absurd H (by simp)
      rw[if_pos c39]at H;have c39b0:decide (x9_2<(x7_2.length:Int))=true:=decide_eq_true c39;clear c39;obtain⟨ji40,hji40⟩: ∃j_:Int,(wrap64 (x9_2-1))=j_:=⟨_,rfl⟩
      first|rw[hji40]at H|simp only[hji40]at H
      have hji40w:(IntKind.i64.wrap (x9_2-1))=ji40:=(i64_w _).trans hji40;replace H:=zif H;obtain⟨c41b0,H⟩:=H
      by_cases c42:(ji40)<(x7_2.length:Int)
      rotate_left
      ·rw[if_neg c42]at H
       exact absurd H (by simp)
      rw[if_pos c42]at H;have c42b0:decide ((ji40)<(x7_2.length:Int))=true:=decide_eq_true c42;clear c42;obtain⟨ji43,hji43⟩: ∃j_:Int,(mx ((rd_T110 x7_2 x9_2).f0) (wrap64 (((rd_T110 x7_2 (ji40)).f0)+a0_0)))=j_:=⟨_,rfl⟩
      first|rw[hji43]at H|simp only[hji43]at H
      have hji43_:(if((rd_T110 x7_2 x9_2).f0)<(wrap64 (((rd_T110 x7_2 (ji40)).f0)+a0_0))then(wrap64 (((rd_T110 x7_2 (ji40)).f0)+a0_0))else((rd_T110 x7_2 x9_2).f0))=ji43:=hji43;obtain⟨y415,hy415⟩: ∃y_:List (S110),y_=(x7_2.set (x9_2:Int).toNat (⟨ji43,(rd_T110 x7_2 x9_2).f1⟩:S110)):=⟨_,rfl⟩
      replace H:(if(ji40)<(l0_2.length:Int)then(if((rd_T132 l0_2 (ji40)).f6=true)then(impl_FlyPath_spans.l1 k2 (l0_2.length:Int) y415 (wrap64 (x9_2+1)) a0_0 a0_1 l0_2 a0_3 a0_4)else(impl_FlyPath_spans.l1 k2 (l0_2.length:Int) (y415.set (x9_2:Int).toNat (⟨(rd_T110 y415 x9_2).f0,mn ((rd_T110 y415 x9_2).f1) (wrap64 (((rd_T110 y415 (ji40)).f1)+a0_1))⟩:S110)) (wrap64 (x9_2+1)) a0_0 a0_1 l0_2 a0_3 a0_4))else(none))=some (r1,r2):=by first|(rw[hy415];with_reducible exact H)|(have H2_:=(Option.bind_some _ _).symm.trans H;rw[hy415];with_reducible exact H2_)|(have H2_:=(Option.bind_some _ _).symm.trans H;with_reducible exact H2_)|with_reducible exact H|(rw[hy415];exact H)|exact H
      have Ny415:=zA hy415;clear hy415;replace H:=zif H;obtain⟨c45b0,H⟩:=H;obtain⟨bq46,hbq46⟩: ∃b_:Bool,b_=((rd_T132 l0_2 (ji40)).f6):=⟨_,rfl⟩
      replace H:(if(bq46=true)then(impl_FlyPath_spans.l1 k2 (l0_2.length:Int) y415 (wrap64 (x9_2+1)) a0_0 a0_1 l0_2 a0_3 a0_4)else(impl_FlyPath_spans.l1 k2 (l0_2.length:Int) (y415.set (x9_2:Int).toNat (⟨(rd_T110 y415 x9_2).f0,mn ((rd_T110 y415 x9_2).f1) (wrap64 (((rd_T110 y415 (ji40)).f1)+a0_1))⟩:S110)) (wrap64 (x9_2+1)) a0_0 a0_1 l0_2 a0_3 a0_4))=some (r1,r2):=by rw[←hbq46]at H;exact H
      have Nbq46:=zA hbq46;clear hbq46
      by_cases c47:(bq46=true)
      ·subst c47
       rw[if_pos rfl]at H;have H':=zA H;clear H
       try go_wp2
       replace HO_7:=zA (Kd.R_drew HO_7.out);replace BK399:=zA (blk_drew BK399.out);replace HB:=zA (below_drew1 HB.out);have p413:0≤(x9_2:Int):=za;have q413:x9_2<(x7_2.length:Int):=za;obtain⟨ad413,e413,hx413_0,hx413_1⟩:=at_T110 (Kd.R_reads' HO_7.out).2.2 x9_2 p413 q413;cases e413;replace p413:=eq_true p413;replace q413:=eq_true q413;have p414:0≤((ji40):Int):=za;have q414:(ji40)<(x7_2.length:Int):=za;obtain⟨ad414,e414,hx414_0,hx414_1⟩:=at_T110 (Kd.R_reads' HO_7.out).2.2 (ji40) p414 q414;obtain rfl:ad413=ad414:=(by injection e414);replace p414:=eq_true p414;replace q414:=eq_true q414;have p44:0≤(x9_2:Int):=za;have q44:(x9_2:Int)<((x7_2.length:Int):Int):=za;obtain⟨go44,co44,eo44,gb44,gl44,cl44,HG44⟩:=Kd.R_form HO_7.out (by omega);(first|cases eo44|(injection eo44 with ea_ en_ ec_;(first|subst ea_|(injection ea_ with ea_;subst ea_));subst ec_;clear en_));have GB44:=zA gb44;have GG44:=zA HG44;clear gb44 gl44 HG44;(first|simp only[add_plain]at hx413_0|skip);(first|simp only[add_plain]at hx413_1|skip);(first|simp only[add_plain]at hx414_0|skip);(first|simp only[add_plain]at hx414_1|skip);obtain⟨ce44,hcl44,hM44,hcc44,hfr44⟩:=Kd.R_elem HO_7.out z110 (x9_2:Int) p44 q44;obtain rfl:=k110_openM hM44;have hx44_0:World.cell? _ ⟨go44,(x9_2:Int).toNat*2,none⟩=some (.int .i64 ((rd_T110 x7_2 x9_2).f0)):=hcc44 0 _ rfl;have hx44_1:World.cell? _ ⟨go44,(x9_2:Int).toNat*2+1,none⟩=some (.int .i64 ((rd_T110 x7_2 x9_2).f1)):=hcc44 1 _ rfl;have hf44_0:World.frozen? _ ⟨go44,(x9_2:Int).toNat*2,none⟩=false:=hfr44 0;have hf44_1:World.frozen? _ ⟨go44,(x9_2:Int).toNat*2+1,none⟩=false:=hfr44 1;clear hcl44 hcc44 hfr44 hM44;replace p44:=eq_true p44;replace q44:=eq_true q44;obtain⟨ce49,hcl49,hM49,hcc49,hfr49⟩:=Kd.R_elem HO_7.out z110 (x9_2:Int) (za) (by have h_:(x9_2:Int)<((x7_2.length:Int):Int):=za;first|exact h_|(have e_:=(Kd.R_reads' HO_7.out).1;omega)|simpa using h_);obtain rfl:=k110_openM hM49;have HP49:=(Kd.R_seg HO_7.out (x9_2:Int) (za) (by have h_:(x9_2:Int)<((x7_2.length:Int):Int):=za;first|exact h_|(have e_:=(Kd.R_reads' HO_7.out).1;omega)|simpa using h_) (seg:=[.int .i64 ji43]) (j:=0) hcl49 hcc49 (show 1≤2 from by decide) (x':=(⟨ji43,(rd_T110 x7_2 x9_2).f1⟩:S110)) (k110_mkM _ _ _ (⟨ji43,(rd_T110 x7_2 x9_2).f1⟩:S110)) (fun _ hk=>hk)).1;rw[←Ny415.out]at HP49;have HQ49:=zA HP49;clear hcl49 hcc49 hfr49 hM49 HP49;refine start_ (n:=21) (S:=fun w'=>w'.cell? ⟨gb399,0,none⟩=some (.int .i64 a0_0)∧w'.cell? ⟨gb399,1,none⟩=some (.int .i64 a0_1)∧w'.cell? ⟨gb399,2,none⟩=some (.slice A0_2 l0_2.length c0_2)∧w'.cell? ⟨gb399,3,none⟩=some (.int .i64 a0_3)∧w'.cell? ⟨gb399,4,none⟩=some (.int .i64 a0_4)∧w'.cell? ⟨go44,((x9_2).toNat*2),none⟩=some (.int .i64 ((rd_T110 x7_2 x9_2).f0))∧w'.cell? ⟨go44,((x9_2).toNat*2)+1,none⟩=some (.int .i64 ((rd_T110 x7_2 x9_2).f1))∧w'.cell? ⟨go44,(((ji40)).toNat*2),none⟩=some (.int .i64 ((rd_T110 x7_2 (ji40)).f0))∧w'.cell? ⟨go44,(((ji40)).toNat*2)+1,none⟩=some (.int .i64 ((rd_T110 x7_2 (ji40)).f1))) (ds:=[20]) #[F,F,F,F,F,F,F,F,F,F,F,F,F,F,F,F,F,F,F,F,F] (by kernel_rfl) rfl rfl ⟨zc0 BK399,zc1 BK399,zc2 BK399,zc3 BK399,zc4 BK399,hx413_0,hx413_1,hx414_0,hx414_1⟩ (fun hHeld=>?_);refine with_tabW impl_FlyPath_spans.tab13 impl_FlyPath_spans.bits13 (fun HT_ HW_=>?_);generalize wr.drew=w48 at HO_7 BK399 HB GG44 HQ49 hf44_0 hf44_1 hx413_0 hx413_1 hx414_0 hx414_1 hx44_0 hx44_1 hHeld⊢;refine zq HT_ 0 ?_;refine zq HT_ 1 ?_;refine zq HT_ 2 ?_;refine zq HT_ 3 ?_;refine zq HT_ 4 ?_;refine zq HT_ 5 ?_;refine zq HT_ 7 ?_;refine zq HT_ 8 ?_;refine zq HT_ 9 ?_;refine zq HT_ 10 ?_;refine zq HT_ 11 ?_;refine zq HT_ 13 ?_;refine zq HT_ 14 ?_;refine zk9 HT_ HW_ hHeld 6 ?_;refine zk9 HT_ HW_ hHeld 12 ?_;refine zk9 HT_ HW_ hHeld 15 ?_;refine zq HT_ 16 ?_;refine zq HT_ 17 ?_;refine zq HT_ 18 ?_;refine zq HT_ 19 ?_;refine zO HT_ 20 (fun K hK=>?_);refine skip_ (w1:=?_) (by rfl) rfl ?_ ?_;rotate_left
       ·go_simp
        rfl
       refine hK.out _ _ ?_;clear hK K;refine done_ (done_of HT_.out (by kernel_rfl)) ?_;obtain⟨hcz50_0,hcz50_1,hcz50_2,hcz50_3,hcz50_4⟩:=zd5 BK399;obtain⟨hfz50_0,hfz50_1,hfz50_2,hfz50_3,hfz50_4⟩:=zn5 BK399;have p416:0≤((ji40):Int):=za;have q416:(ji40)<(l0_2.length:Int):=za;obtain⟨ad416,e416,hx416_0,hx416_1,hx416_2,hx416_3,hx416_4,hx416_5,hx416_6⟩:=at_T132 HR0_2.out (ji40) p416 q416;(try rw[←Nbq46.out]at hx416_6);cases e416;have hn416_0:ad416.block≠go44:=Nat.ne_of_lt (Nat.lt_of_lt_of_le (by have:=World.block_lt_of_cell? _ _ hx416_0;first|rwa [add_block]at this|exact this) GB44.out);replace hx416_0:=zx HB hx416_0;replace hx416_1:=zx HB hx416_1;replace hx416_2:=zx HB hx416_2;replace hx416_3:=zx HB hx416_3;replace hx416_4:=zx HB hx416_4;replace hx416_5:=zx HB hx416_5;replace hx416_6:=zx HB hx416_6;replace hx416_0:=(cell_far (p:=⟨go44,(x9_2:Int).toNat*2,none⟩) (by first|(rw[add_block];exact hn416_0)|(show(Addr.add _ _).block≠_;rw[add_block];exact hn416_0)|exact hn416_0) (.int .i64 ji43)).trans hx416_0;replace hx416_1:=(cell_far (p:=⟨go44,(x9_2:Int).toNat*2,none⟩) (by first|(rw[add_block];exact hn416_0)|(show(Addr.add _ _).block≠_;rw[add_block];exact hn416_0)|exact hn416_0) (.int .i64 ji43)).trans hx416_1;replace hx416_2:=(cell_far (p:=⟨go44,(x9_2:Int).toNat*2,none⟩) (by first|(rw[add_block];exact hn416_0)|(show(Addr.add _ _).block≠_;rw[add_block];exact hn416_0)|exact hn416_0) (.int .i64 ji43)).trans hx416_2;replace hx416_3:=(cell_far (p:=⟨go44,(x9_2:Int).toNat*2,none⟩) (by first|(rw[add_block];exact hn416_0)|(show(Addr.add _ _).block≠_;rw[add_block];exact hn416_0)|exact hn416_0) (.int .i64 ji43)).trans hx416_3;replace hx416_4:=(cell_far (p:=⟨go44,(x9_2:Int).toNat*2,none⟩) (by first|(rw[add_block];exact hn416_0)|(show(Addr.add _ _).block≠_;rw[add_block];exact hn416_0)|exact hn416_0) (.int .i64 ji43)).trans hx416_4;replace hx416_5:=(cell_far (p:=⟨go44,(x9_2:Int).toNat*2,none⟩) (by first|(rw[add_block];exact hn416_0)|(show(Addr.add _ _).block≠_;rw[add_block];exact hn416_0)|exact hn416_0) (.int .i64 ji43)).trans hx416_5;replace hx416_6:=(cell_far (p:=⟨go44,(x9_2:Int).toNat*2,none⟩) (by first|(rw[add_block];exact hn416_0)|(show(Addr.add _ _).block≠_;rw[add_block];exact hn416_0)|exact hn416_0) (.int .i64 ji43)).trans hx416_6;clear hn416_0;replace p416:=eq_true p416;replace q416:=eq_true q416;have hne_:gb399≠go44:=(by have h_:=Kd.R_ne HO_7.out BK399.out (by decide);intro e_;exact h_ (by rw[e_];rfl));have hy0_:=(cell_far (p:=⟨go44,(x9_2:Int).toNat*2,none⟩) (a:=⟨gb399,0,none⟩) hne_ (.int .i64 ji43)).trans (zc0 BK399);have hy1_:=(cell_far (p:=⟨go44,(x9_2:Int).toNat*2,none⟩) (a:=⟨gb399,1,none⟩) hne_ (.int .i64 ji43)).trans (zc1 BK399);have hy2_:=(cell_far (p:=⟨go44,(x9_2:Int).toNat*2,none⟩) (a:=⟨gb399,2,none⟩) hne_ (.int .i64 ji43)).trans (zc2 BK399);have hy3_:=(cell_far (p:=⟨go44,(x9_2:Int).toNat*2,none⟩) (a:=⟨gb399,3,none⟩) hne_ (.int .i64 ji43)).trans (zc3 BK399);have hy4_:=(cell_far (p:=⟨go44,(x9_2:Int).toNat*2,none⟩) (a:=⟨gb399,4,none⟩) hne_ (.int .i64 ji43)).trans (zc4 BK399)
       try go_wp2
       (try simp only[←hl7_2])
       go_roundg k2
       case measure=>have:=HK1.out;have:=HK2.out;omega
       case rel=>exact⟨(y415),(wrap64 (x9_2+1)),zi,H',⟨by have:=HK1.out;have:=HK2.out;omega⟩,⟨by(try simp only[hl7_1]);(try simp only[hl7_2]);(with_reducible repeat(first|apply Kd.R_alloc|apply Kd.R_drewN|apply Kd.R_drew));exact HQ49.out⟩,⟨by(try simp only[hl7_1]);(try simp only[hl7_2]);(with_reducible repeat(first|refine blk_drewN ?_ _|refine blk_drew ?_|refine blk_alloc ?_ _));refine blk_far ?_ (by have h_:=Kd.R_ne HO_7.out BK399.out (by decide);intro e_;exact h_ (by rw[e_];rfl)) _;(with_reducible repeat(first|refine blk_drewN ?_ _|refine blk_drew ?_|refine blk_alloc ?_ _));exact BK399.out⟩,⟨by repeat(first|(with_reducible first|exact HB.out|apply below_alloc|apply pw_below_drewN|apply below_drew1|refine below_set ?_ GB44.out|refine below_set ?_ GE399.out)|exact HB.out)⟩⟩
      replace c47:=Bool.eq_false_iff.mpr c47;subst c47;rw[if_neg zfn]at H;obtain⟨ji51,hji51⟩: ∃j_:Int,(mn ((rd_T110 y415 x9_2).f1) (wrap64 (((rd_T110 y415 (ji40)).f1)+a0_1)))=j_:=⟨_,rfl⟩
      first|rw[hji51]at H|simp only[hji51]at H
      have hji51_:(if(wrap64 (((rd_T110 y415 (ji40)).f1)+a0_1))<((rd_T110 y415 x9_2).f1)then(wrap64 (((rd_T110 y415 (ji40)).f1)+a0_1))else((rd_T110 y415 x9_2).f1))=ji51:=hji51;obtain⟨y419,hy419⟩: ∃y_:List (S110),y_=(y415.set (x9_2:Int).toNat (⟨(rd_T110 y415 x9_2).f0,ji51⟩:S110)):=⟨_,rfl⟩
      replace H:(impl_FlyPath_spans.l1 k2 (l0_2.length:Int) y419 (wrap64 (x9_2+1)) a0_0 a0_1 l0_2 a0_3 a0_4)=some (r1,r2):=by first|(rw[hy419];with_reducible exact H)|(have H2_:=(Option.bind_some _ _).symm.trans H;rw[hy419];with_reducible exact H2_)|(have H2_:=(Option.bind_some _ _).symm.trans H;with_reducible exact H2_)|with_reducible exact H|(rw[hy419];exact H)|exact H
      have Ny419:=zA hy419;clear hy419;have H':=zA H;clear H
      try go_wp2
      replace HO_7:=zA (Kd.R_drew HO_7.out);replace BK399:=zA (blk_drew BK399.out);replace HB:=zA (below_drew1 HB.out);have p413:0≤(x9_2:Int):=za;have q413:x9_2<(x7_2.length:Int):=za;obtain⟨ad413,e413,hx413_0,hx413_1⟩:=at_T110 (Kd.R_reads' HO_7.out).2.2 x9_2 p413 q413;cases e413;replace p413:=eq_true p413;replace q413:=eq_true q413;have p414:0≤((ji40):Int):=za;have q414:(ji40)<(x7_2.length:Int):=za;obtain⟨ad414,e414,hx414_0,hx414_1⟩:=at_T110 (Kd.R_reads' HO_7.out).2.2 (ji40) p414 q414;obtain rfl:ad413=ad414:=(by injection e414);replace p414:=eq_true p414;replace q414:=eq_true q414;have p44:0≤(x9_2:Int):=za;have q44:(x9_2:Int)<((x7_2.length:Int):Int):=za;obtain⟨go44,co44,eo44,gb44,gl44,cl44,HG44⟩:=Kd.R_form HO_7.out (by omega);(first|cases eo44|(injection eo44 with ea_ en_ ec_;(first|subst ea_|(injection ea_ with ea_;subst ea_));subst ec_;clear en_));have GB44:=zA gb44;have GG44:=zA HG44;clear gb44 gl44 HG44;(first|simp only[add_plain]at hx413_0|skip);(first|simp only[add_plain]at hx413_1|skip);(first|simp only[add_plain]at hx414_0|skip);(first|simp only[add_plain]at hx414_1|skip);obtain⟨ce44,hcl44,hM44,hcc44,hfr44⟩:=Kd.R_elem HO_7.out z110 (x9_2:Int) p44 q44;obtain rfl:=k110_openM hM44;have hx44_0:World.cell? _ ⟨go44,(x9_2:Int).toNat*2,none⟩=some (.int .i64 ((rd_T110 x7_2 x9_2).f0)):=hcc44 0 _ rfl;have hx44_1:World.cell? _ ⟨go44,(x9_2:Int).toNat*2+1,none⟩=some (.int .i64 ((rd_T110 x7_2 x9_2).f1)):=hcc44 1 _ rfl;have hf44_0:World.frozen? _ ⟨go44,(x9_2:Int).toNat*2,none⟩=false:=hfr44 0;have hf44_1:World.frozen? _ ⟨go44,(x9_2:Int).toNat*2+1,none⟩=false:=hfr44 1;clear hcl44 hcc44 hfr44 hM44;replace p44:=eq_true p44;replace q44:=eq_true q44;obtain⟨ce54,hcl54,hM54,hcc54,hfr54⟩:=Kd.R_elem HO_7.out z110 (x9_2:Int) (za) (by have h_:(x9_2:Int)<((x7_2.length:Int):Int):=za;first|exact h_|(have e_:=(Kd.R_reads' HO_7.out).1;omega)|simpa using h_);obtain rfl:=k110_openM hM54;have HP54:=(Kd.R_seg HO_7.out (x9_2:Int) (za) (by have h_:(x9_2:Int)<((x7_2.length:Int):Int):=za;first|exact h_|(have e_:=(Kd.R_reads' HO_7.out).1;omega)|simpa using h_) (seg:=[.int .i64 ji43]) (j:=0) hcl54 hcc54 (show 1≤2 from by decide) (x':=(⟨ji43,(rd_T110 x7_2 x9_2).f1⟩:S110)) (k110_mkM _ _ _ (⟨ji43,(rd_T110 x7_2 x9_2).f1⟩:S110)) (fun _ hk=>hk)).1;rw[←Ny415.out]at HP54;have HQ54:=zA HP54;clear hcl54 hcc54 hfr54 hM54 HP54;refine start_ (n:=21) (S:=fun w'=>w'.cell? ⟨gb399,0,none⟩=some (.int .i64 a0_0)∧w'.cell? ⟨gb399,1,none⟩=some (.int .i64 a0_1)∧w'.cell? ⟨gb399,2,none⟩=some (.slice A0_2 l0_2.length c0_2)∧w'.cell? ⟨gb399,3,none⟩=some (.int .i64 a0_3)∧w'.cell? ⟨gb399,4,none⟩=some (.int .i64 a0_4)∧w'.cell? ⟨go44,((x9_2).toNat*2),none⟩=some (.int .i64 ((rd_T110 x7_2 x9_2).f0))∧w'.cell? ⟨go44,((x9_2).toNat*2)+1,none⟩=some (.int .i64 ((rd_T110 x7_2 x9_2).f1))∧w'.cell? ⟨go44,(((ji40)).toNat*2),none⟩=some (.int .i64 ((rd_T110 x7_2 (ji40)).f0))∧w'.cell? ⟨go44,(((ji40)).toNat*2)+1,none⟩=some (.int .i64 ((rd_T110 x7_2 (ji40)).f1))) (ds:=[20]) #[F,F,F,F,F,F,F,F,F,F,F,F,F,F,F,F,F,F,F,F,F] (by kernel_rfl) rfl rfl ⟨zc0 BK399,zc1 BK399,zc2 BK399,zc3 BK399,zc4 BK399,hx413_0,hx413_1,hx414_0,hx414_1⟩ (fun hHeld=>?_);refine with_tabW impl_FlyPath_spans.tab13 impl_FlyPath_spans.bits13 (fun HT_ HW_=>?_);generalize wr.drew=w53 at HO_7 BK399 HB GG44 HQ54 hf44_0 hf44_1 hx413_0 hx413_1 hx414_0 hx414_1 hx44_0 hx44_1 hHeld⊢;refine zq HT_ 0 ?_;refine zq HT_ 1 ?_;refine zq HT_ 2 ?_;refine zq HT_ 3 ?_;refine zq HT_ 4 ?_;refine zq HT_ 5 ?_;refine zq HT_ 7 ?_;refine zq HT_ 8 ?_;refine zq HT_ 9 ?_;refine zq HT_ 10 ?_;refine zq HT_ 11 ?_;refine zq HT_ 13 ?_;refine zq HT_ 14 ?_;refine zk9 HT_ HW_ hHeld 6 ?_;refine zk9 HT_ HW_ hHeld 12 ?_;refine zk9 HT_ HW_ hHeld 15 ?_;refine zq HT_ 16 ?_;refine zq HT_ 17 ?_;refine zq HT_ 18 ?_;refine zq HT_ 19 ?_;refine zO HT_ 20 (fun K hK=>?_);refine skip_ (w1:=?_) (by rfl) rfl ?_ ?_;rotate_left
      ·go_simp
       rfl
      refine hK.out _ _ ?_;clear hK K;refine done_ (done_of HT_.out (by kernel_rfl)) ?_;obtain⟨hcz55_0,hcz55_1,hcz55_2,hcz55_3,hcz55_4⟩:=zd5 BK399;obtain⟨hfz55_0,hfz55_1,hfz55_2,hfz55_3,hfz55_4⟩:=zn5 BK399;have p416:0≤((ji40):Int):=za;have q416:(ji40)<(l0_2.length:Int):=za;obtain⟨ad416,e416,hx416_0,hx416_1,hx416_2,hx416_3,hx416_4,hx416_5,hx416_6⟩:=at_T132 HR0_2.out (ji40) p416 q416;(try rw[←Nbq46.out]at hx416_6);cases e416;have hn416_0:ad416.block≠go44:=Nat.ne_of_lt (Nat.lt_of_lt_of_le (by have:=World.block_lt_of_cell? _ _ hx416_0;first|rwa [add_block]at this|exact this) GB44.out);replace hx416_0:=zx HB hx416_0;replace hx416_1:=zx HB hx416_1;replace hx416_2:=zx HB hx416_2;replace hx416_3:=zx HB hx416_3;replace hx416_4:=zx HB hx416_4;replace hx416_5:=zx HB hx416_5;replace hx416_6:=zx HB hx416_6;replace hx416_0:=(cell_far (p:=⟨go44,(x9_2:Int).toNat*2,none⟩) (by first|(rw[add_block];exact hn416_0)|(show(Addr.add _ _).block≠_;rw[add_block];exact hn416_0)|exact hn416_0) (.int .i64 ji43)).trans hx416_0;replace hx416_1:=(cell_far (p:=⟨go44,(x9_2:Int).toNat*2,none⟩) (by first|(rw[add_block];exact hn416_0)|(show(Addr.add _ _).block≠_;rw[add_block];exact hn416_0)|exact hn416_0) (.int .i64 ji43)).trans hx416_1;replace hx416_2:=(cell_far (p:=⟨go44,(x9_2:Int).toNat*2,none⟩) (by first|(rw[add_block];exact hn416_0)|(show(Addr.add _ _).block≠_;rw[add_block];exact hn416_0)|exact hn416_0) (.int .i64 ji43)).trans hx416_2;replace hx416_3:=(cell_far (p:=⟨go44,(x9_2:Int).toNat*2,none⟩) (by first|(rw[add_block];exact hn416_0)|(show(Addr.add _ _).block≠_;rw[add_block];exact hn416_0)|exact hn416_0) (.int .i64 ji43)).trans hx416_3;replace hx416_4:=(cell_far (p:=⟨go44,(x9_2:Int).toNat*2,none⟩) (by first|(rw[add_block];exact hn416_0)|(show(Addr.add _ _).block≠_;rw[add_block];exact hn416_0)|exact hn416_0) (.int .i64 ji43)).trans hx416_4;replace hx416_5:=(cell_far (p:=⟨go44,(x9_2:Int).toNat*2,none⟩) (by first|(rw[add_block];exact hn416_0)|(show(Addr.add _ _).block≠_;rw[add_block];exact hn416_0)|exact hn416_0) (.int .i64 ji43)).trans hx416_5;replace hx416_6:=(cell_far (p:=⟨go44,(x9_2:Int).toNat*2,none⟩) (by first|(rw[add_block];exact hn416_0)|(show(Addr.add _ _).block≠_;rw[add_block];exact hn416_0)|exact hn416_0) (.int .i64 ji43)).trans hx416_6;clear hn416_0;replace p416:=eq_true p416;replace q416:=eq_true q416;have hne_:gb399≠go44:=(by have h_:=Kd.R_ne HO_7.out BK399.out (by decide);intro e_;exact h_ (by rw[e_];rfl));have hy0_:=(cell_far (p:=⟨go44,(x9_2:Int).toNat*2,none⟩) (a:=⟨gb399,0,none⟩) hne_ (.int .i64 ji43)).trans (zc0 BK399);have hy1_:=(cell_far (p:=⟨go44,(x9_2:Int).toNat*2,none⟩) (a:=⟨gb399,1,none⟩) hne_ (.int .i64 ji43)).trans (zc1 BK399);have hy2_:=(cell_far (p:=⟨go44,(x9_2:Int).toNat*2,none⟩) (a:=⟨gb399,2,none⟩) hne_ (.int .i64 ji43)).trans (zc2 BK399);have hy3_:=(cell_far (p:=⟨go44,(x9_2:Int).toNat*2,none⟩) (a:=⟨gb399,3,none⟩) hne_ (.int .i64 ji43)).trans (zc3 BK399);have hy4_:=(cell_far (p:=⟨go44,(x9_2:Int).toNat*2,none⟩) (a:=⟨gb399,4,none⟩) hne_ (.int .i64 ji43)).trans (zc4 BK399)
      try go_wp2
      obtain⟨w56,e_⟩: ∃x,x=(w53.setCell ⟨go44,(x9_2:Int).toNat*2,none⟩ (.int .i64 ji43)):=⟨_,rfl⟩
      have n0_:Aside0 (Kd.R k110 110 w56 w.heap.size (fun _=>True) (.slice (some ⟨go44,0,none⟩) x7_2.length co10) y415):=by rw[e_];exact⟨zr HQ54⟩
      have n1_:Aside0 (w56.heap[gb399]?=some (.cells #[.int .i64 a0_0,.int .i64 a0_1,.slice (some ad416) l0_2.length c0_2,.int .i64 a0_3,.int .i64 a0_4] 68 (0,0))):=by rw[e_];exact⟨by(with_reducible repeat(first|refine blk_drewN ?_ _|refine blk_drew ?_|refine blk_alloc ?_ _));refine blk_far ?_ (by have h_:=Kd.R_ne HO_7.out BK399.out (by decide);intro e_;exact h_ (by rw[e_];rfl)) _;(with_reducible repeat(first|refine blk_drewN ?_ _|refine blk_drew ?_|refine blk_alloc ?_ _));exact BK399.out⟩
      have n2_:Aside0 (Below w.heap.size w w56):=by rw[e_];exact⟨by repeat(first|(with_reducible first|exact HB.out|apply below_alloc|apply pw_below_drewN|apply below_drew1|refine below_set ?_ GB44.out|refine below_set ?_ GE399.out)|exact HB.out)⟩
      (try clear HO_7);(try clear BK399);(try clear HB);rw[←e_];clear e_;have HO_7:=n0_;have BK399:=n1_;have HB:=n2_;clear n0_ n1_ n2_;replace HO_7:=zA (Kd.R_drew HO_7.out);replace BK399:=zA (blk_drew BK399.out);replace HB:=zA (below_drew1 HB.out);have p417:0≤(x9_2:Int):=za;have q417:x9_2<(y415.length:Int):=(by have h_:(x9_2:Int)<((x7_2.length:Int):Int):=za;first|(have e_:=(Kd.R_reads' HO_7.out).1;omega)|simpa only[Ny415.out,List.length_set]using h_);have ql417:((x9_2:Int)<((x7_2.length:Int):Int))=True:=eq_true (za);obtain⟨ad417,e417,hx417_0,hx417_1⟩:=at_T110 (Kd.R_reads' HO_7.out).2.2 x9_2 p417 q417;obtain rfl:(⟨go44,0,none⟩:Addr)=ad417:=(by injection e417);(first|simp only[add_plain]at hx417_0|simp only[add_at]at hx417_0|simp only[Addr.add,Nat.zero_add]at hx417_0|skip);(first|simp only[add_plain]at hx417_1|simp only[add_at]at hx417_1|simp only[Addr.add,Nat.zero_add]at hx417_1|skip);replace p417:=eq_true p417;replace q417:=eq_true q417;have p418:0≤((ji40):Int):=za;have q418:(ji40)<(y415.length:Int):=(by have h_:((ji40):Int)<((x7_2.length:Int):Int):=za;first|(have e_:=(Kd.R_reads' HO_7.out).1;omega)|simpa only[Ny415.out,List.length_set]using h_);have ql418:(((ji40):Int)<((x7_2.length:Int):Int))=True:=eq_true (za);obtain⟨ad418,e418,hx418_0,hx418_1⟩:=at_T110 (Kd.R_reads' HO_7.out).2.2 (ji40) p418 q418;obtain rfl:(⟨go44,0,none⟩:Addr)=ad418:=(by injection e418);(first|simp only[add_plain]at hx418_0|simp only[add_at]at hx418_0|simp only[Addr.add,Nat.zero_add]at hx418_0|skip);(first|simp only[add_plain]at hx418_1|simp only[add_at]at hx418_1|simp only[Addr.add,Nat.zero_add]at hx418_1|skip);replace p418:=eq_true p418;replace q418:=eq_true q418;have p52:0≤(x9_2:Int):=za;have q52:(x9_2:Int)<((x7_2.length:Int):Int):=za;obtain⟨ce52,hcl52,hM52,hcc52,hfr52⟩:=Kd.R_elem HO_7.out z110 (x9_2:Int) p52 q52;obtain rfl:=k110_openM hM52;have hx52_0:World.cell? _ ⟨go44,(x9_2:Int).toNat*2,none⟩=some (.int .i64 ((rd_T110 y415 x9_2).f0)):=hcc52 0 _ rfl;have hx52_1:World.cell? _ ⟨go44,(x9_2:Int).toNat*2+1,none⟩=some (.int .i64 ((rd_T110 y415 x9_2).f1)):=hcc52 1 _ rfl;have hf52_0:World.frozen? _ ⟨go44,(x9_2:Int).toNat*2,none⟩=false:=hfr52 0;have hf52_1:World.frozen? _ ⟨go44,(x9_2:Int).toNat*2+1,none⟩=false:=hfr52 1;clear hcl52 hcc52 hfr52 hM52;replace p52:=eq_true p52;replace q52:=eq_true q52;obtain⟨ce58,hcl58,hM58,hcc58,hfr58⟩:=Kd.R_elem HO_7.out z110 (x9_2:Int) (za) (by have h_:(x9_2:Int)<((x7_2.length:Int):Int):=za;first|exact h_|(have e_:=(Kd.R_reads' HO_7.out).1;omega)|simpa using h_);obtain rfl:=k110_openM hM58;have HP58:=(Kd.R_seg HO_7.out (x9_2:Int) (za) (by have h_:(x9_2:Int)<((x7_2.length:Int):Int):=za;first|exact h_|(have e_:=(Kd.R_reads' HO_7.out).1;omega)|simpa using h_) (seg:=[.int .i64 ji51]) (j:=1) hcl58 hcc58 (show 2≤2 from by decide) (x':=(⟨(rd_T110 y415 x9_2).f0,ji51⟩:S110)) (k110_mkM _ _ _ (⟨(rd_T110 y415 x9_2).f0,ji51⟩:S110)) (fun _ hk=>hk)).1;rw[←Ny419.out]at HP58;have HQ58:=zA HP58;clear hcl58 hcc58 hfr58 hM58 HP58;refine start_ (n:=21) (S:=fun w'=>w'.cell? ⟨gb399,0,none⟩=some (.int .i64 a0_0)∧w'.cell? ⟨gb399,1,none⟩=some (.int .i64 a0_1)∧w'.cell? ⟨gb399,2,none⟩=some (.slice (some ad416) l0_2.length c0_2)∧w'.cell? ⟨gb399,3,none⟩=some (.int .i64 a0_3)∧w'.cell? ⟨gb399,4,none⟩=some (.int .i64 a0_4)∧w'.cell? ⟨go44,(x9_2).toNat*2,none⟩=some (.int .i64 ((rd_T110 y415 x9_2).f0))∧w'.cell? ⟨go44,(x9_2).toNat*2+1,none⟩=some (.int .i64 ((rd_T110 y415 x9_2).f1))∧w'.cell? ⟨go44,((ji40)).toNat*2,none⟩=some (.int .i64 ((rd_T110 y415 (ji40)).f0))∧w'.cell? ⟨go44,((ji40)).toNat*2+1,none⟩=some (.int .i64 ((rd_T110 y415 (ji40)).f1))) (ds:=[20]) #[F,F,F,F,F,F,F,F,F,F,F,F,F,F,F,F,F,F,F,F,F] (by kernel_rfl) rfl rfl ⟨zc0 BK399,zc1 BK399,zc2 BK399,zc3 BK399,zc4 BK399,hx417_0,hx417_1,hx418_0,hx418_1⟩ (fun hHeld=>?_);refine with_tabW impl_FlyPath_spans.tab15 impl_FlyPath_spans.bits15 (fun HT_ HW_=>?_);generalize w56.drew=w57 at HO_7 BK399 HB HQ54 HQ58 hf52_0 hf52_1 hx417_0 hx417_1 hx418_0 hx418_1 hx52_0 hx52_1 hHeld⊢;refine zq HT_ 0 ?_;refine zq HT_ 1 ?_;refine zq HT_ 2 ?_
      refine zq HT_ 3 ?_;refine zq HT_ 4 ?_;refine zq HT_ 5 ?_;refine zq HT_ 7 ?_;refine zq HT_ 8 ?_;refine zq HT_ 9 ?_;refine zq HT_ 10 ?_;refine zq HT_ 11 ?_;refine zq HT_ 13 ?_;refine zq HT_ 14 ?_;refine zk9 HT_ HW_ hHeld 6 ?_;refine zk9 HT_ HW_ hHeld 12 ?_;refine zk9 HT_ HW_ hHeld 15 ?_;refine zq HT_ 16 ?_;refine zq HT_ 17 ?_;refine zq HT_ 18 ?_;refine zq HT_ 19 ?_;refine zO HT_ 20 (fun K hK=>?_);refine skip_ (w1:=?_) (by rfl) rfl ?_ ?_;rotate_left
      ·go_simp
       rfl
      refine hK.out _ _ ?_;clear hK K;refine done_ (done_of HT_.out (by kernel_rfl)) ?_
      try go_wp2
      (try simp only[←hl7_2])
      go_roundg k2
      case measure=>have:=HK1.out;have:=HK2.out;omega
      case rel=>exact⟨(y419),(wrap64 (x9_2+1)),zi,H',⟨by have:=HK1.out;have:=HK2.out;omega⟩,⟨by(try simp only[hl7_1]);(try simp only[hl7_2]);(with_reducible repeat(first|apply Kd.R_alloc|apply Kd.R_drewN|apply Kd.R_drew));exact HQ58.out⟩,⟨by(try simp only[hl7_1]);(try simp only[hl7_2]);(with_reducible repeat(first|refine blk_drewN ?_ _|refine blk_drew ?_|refine blk_alloc ?_ _));refine blk_far ?_ (by have h_:=Kd.R_ne HO_7.out BK399.out (by decide);intro e_;exact h_ (by rw[e_];rfl)) _;(with_reducible repeat(first|refine blk_drewN ?_ _|refine blk_drew ?_|refine blk_alloc ?_ _));exact BK399.out⟩,⟨by repeat(first|(with_reducible first|exact HB.out|apply below_alloc|apply pw_below_drewN|apply below_drew1|refine below_set ?_ GB44.out|refine below_set ?_ GE399.out)|exact HB.out)⟩⟩
     rw[if_neg c37]at H;have c37b0:decide (x9_2≤(l0_2.length:Int))=false:=decide_eq_false c37;clear c37;have H':=zA H;clear H
     go_wp2
     go_loopg [10] k2 (fun kq v10 w'=> ∃(x7_3:List (S110)) (x10_3:Int),v10= .int .i64 x10_3∧Aside0 (impl_FlyPath_spans.l2 kq x7_3 x10_3 a0_0 a0_1 l0_2 a0_3 a0_4=some (r1,r2))∧Aside0 (kq≤k2)∧Aside0 (Kd.R k110 110 w' w.heap.size (fun _=>True) (.slice Ao10 x7_2.length co10) x7_3)∧Aside0 (w'.heap[gb399]?=some (.cells #[.int .i64 a0_0,.int .i64 a0_1,(.slice A0_2 l0_2.length c0_2),.int .i64 a0_3,.int .i64 a0_4] 68 (0,0)))∧Aside0 (Below w.heap.size w w'))
     case atStart=>exact⟨(x7_2),(wrap64 ((l0_2.length:Int)-1)),zi,H',⟨Nat.le_refl _⟩,⟨by(try simp only[hl7_1]);(try simp only[hl7_2]);(with_reducible repeat(first|apply Kd.R_alloc|apply Kd.R_drewN|apply Kd.R_drew));exact HO_7.out⟩,⟨by(try simp only[hl7_1]);(try simp only[hl7_2]);(with_reducible repeat(first|refine blk_drewN ?_ _|refine blk_drew ?_|refine blk_alloc ?_ _));exact BK399.out⟩,⟨zs1 HB GE399⟩⟩
     case round=>
      clear H'
      try clear p2
      try clear c3
      try clear c4
      try clear p4
      try clear q4
      try clear hx4
      try clear hf4
      try clear c5
      try clear p5
      try clear q5
      try clear hx5
      try clear hf5
      try clear p6
      try clear c37
      try clear c37b0
      try clear c38
      try clear c39
      try clear c41
      try clear p41
      try clear q41
      try clear hx41
      try clear c42
      try clear c44
      try clear p44
      try clear q44
      try clear hx44
      try clear hf44
      try clear c45
      try clear q46
      try clear c47
      try clear c52
      try clear p52
      try clear q52
      try clear hx52
      try clear hf52
      try clear c54
      try clear c58
      try clear hcz50_0 hcz50_1 hcz50_2 hcz50_3 hcz50_4
      try clear hcz55_0 hcz55_1 hcz55_2 hcz55_3 hcz55_4
      try clear hfz50_0 hfz50_1 hfz50_2 hfz50_3 hfz50_4
      try clear hfz55_0 hfz55_1 hfz55_2 hfz55_3 hfz55_4
      try clear hx413_0
      try clear hx413_1
      try clear hx414_0
      try clear hx414_1
      try clear hx416_0
      try clear hx416_1
      try clear hx416_2
      try clear hx416_3
      try clear hx416_4
      try clear hx416_5
      try clear hx416_6
      try clear hx417_0
      try clear hx417_1
      try clear hx418_0
      try clear hx418_1
      try clear hx44_0
      try clear hx44_1
      try clear hx52_0
      try clear hx52_1
      try clear p413
      try clear p414
      try clear p416
      try clear p417
      try clear p418
      try clear p44
      try clear p52
      try clear q413
      try clear q414
      try clear q416
      try clear q417
      try clear q418
      try clear q44
      try clear q52
      obtain⟨x7_3,x10_3,rfl,HA,HK3,HO_7,BK399,HB⟩:=hrel;have hl7_3:=(Kd.R_reads' HO_7.out).1;rw[hl7_3]at HO_7;(try simp only[hl7_3]);(try simp only[hl7_3]at BK399)
      cases gk with
      |zero=>exact absurd HA.out (by simp[impl_FlyPath_spans.l2])
      |succ k3=>
       have H:=HA.out;clear HA;simp only[impl_FlyPath_spans.l2]at H
       by_cases c59:x10_3≥0
       rotate_left
       ·rw[if_neg c59]at H
        have c59b0:decide (0≤x10_3)=false:=decide_eq_false c59;clear c59;have H':=zA H;clear H
        go_wp2
        go_loopg [179] k3 (fun kq v179 w'=> ∃(x179_4:Int),v179= .int .i64 x179_4∧Aside0 (impl_FlyPath_spans.l3 kq x7_3 x7_3 (x7_3.length:Int) x179_4=some (r1,r2))∧Aside0 (kq≤k3)∧Aside0 (Kd.R k110 110 w' w.heap.size (fun _=>True) (.slice Ao10 x7_3.length co10) x7_3)∧Aside0 (Kd.R k110 110 w' w.heap.size (fun _=>True) (.slice Ao10 x7_3.length co10) x7_3)∧Aside0 (w'.heap[gb399]?=some (.cells #[.int .i64 a0_0,.int .i64 a0_1,(.slice A0_2 l0_2.length c0_2),.int .i64 a0_3,.int .i64 a0_4] 68 (0,0)))∧Aside0 (Below w.heap.size w w'))
        case atStart=>exact⟨(0),zi,H',⟨Nat.le_refl _⟩,⟨by(try simp only[hl7_1]);(try simp only[hl7_2]);(try simp only[hl7_3]);(with_reducible repeat(first|apply Kd.R_alloc|apply Kd.R_drewN|apply Kd.R_drew));exact HO_7.out⟩,⟨by(try simp only[hl7_1]);(try simp only[hl7_2]);(try simp only[hl7_3]);(with_reducible repeat(first|apply Kd.R_alloc|apply Kd.R_drewN|apply Kd.R_drew));exact HO_7.out⟩,⟨by(try simp only[hl7_1]);(try simp only[hl7_2]);(try simp only[hl7_3]);(with_reducible repeat(first|refine blk_drewN ?_ _|refine blk_drew ?_|refine blk_alloc ?_ _));exact BK399.out⟩,⟨zs1 HB GE399⟩⟩
        case round=>
         clear H'
         try clear p2
         try clear p4
         try clear q4
         try clear hx4
         try clear c5
         try clear c6
         try clear p6
         try clear q6
         try clear hx6
         try clear hf6
         try clear c7
         try clear p7
         try clear q7
         try clear hx7
         try clear hf7
         try clear c8
         try clear p42
         try clear q42
         try clear hx42
         try clear c59
         try clear c59b0
         try clear c60
         try clear c61
         try clear c63
         try clear c64
         try clear p64
         try clear c66
         try clear p66
         try clear q66
         try clear hx66
         try clear hf66
         try clear c67
         try clear q68
         try clear c69
         try clear c74
         try clear p74
         try clear q74
         try clear hx74
         try clear hf74
         try clear c76
         try clear c80
         try clear hcz72_0 hcz72_1 hcz72_2 hcz72_3 hcz72_4
         try clear hcz77_0 hcz77_1 hcz77_2 hcz77_3 hcz77_4
         try clear hfz72_0 hfz72_1 hfz72_2 hfz72_3 hfz72_4
         try clear hfz77_0 hfz77_1 hfz77_2 hfz77_3 hfz77_4
         try clear hx420_0
         try clear hx420_1
         try clear hx421_0
         try clear hx421_1
         try clear hx423_0
         try clear hx423_1
         try clear hx423_2
         try clear hx423_3
         try clear hx423_4
         try clear hx423_5
         try clear hx423_6
         try clear hx424_0
         try clear hx424_1
         try clear hx425_0
         try clear hx425_1
         try clear hx66_0
         try clear hx66_1
         try clear hx74_0
         try clear hx74_1
         try clear p420
         try clear p421
         try clear p423
         try clear p424
         try clear p425
         try clear p66
         try clear p74
         try clear q420
         try clear q421
         try clear q423
         try clear q424
         try clear q425
         try clear q66
         try clear q74
         obtain⟨x179_4,rfl,HA,HK4,HO_7,HO_177,BK399,HB⟩:=hrel
         cases gk with
         |zero=>exact absurd HA.out (by simp[impl_FlyPath_spans.l3])
         |succ k4=>
          have H:=HA.out;clear HA;simp only[impl_FlyPath_spans.l3]at H
          by_cases c81:x179_4<(x7_3.length:Int)
          rotate_left
          ·rw[if_neg c81]at H
           have c81b0:decide (x179_4<(x7_3.length:Int))=false:=decide_eq_false c81;clear c81;simp only[Option.some.injEq,Prod.mk.injEq]at H;obtain⟨rfl,rfl⟩:=H
           go_wp2
           go_ret2
           exact⟨_,by first|rfl|(simp[errW_none,errW_some]<;>rfl)|(simp only[←hji3];first|rfl|(simp[errW_none,errW_some]<;>rfl))|(simp[*,errW_none,errW_some]<;>rfl),zr HO_7,zs1 HB GE399⟩
          rw[if_pos c81]at H;have c81b0:decide (x179_4<(x7_3.length:Int))=true:=decide_eq_true c81;clear c81;replace H:=zif H;obtain⟨c82b0,H⟩:=H
          by_cases c83:x179_4<(x7_3.length:Int)
          rotate_left
          ·rw[if_neg c83]at H
           exact absurd H (by simp)
          rw[if_pos c83]at H;have c83b0:decide (x179_4<(x7_3.length:Int))=true:=decide_eq_true c83;clear c83
          by_cases c84:((rd_T110 x7_3 x179_4).f0)>((rd_T110 x7_3 x179_4).f1)
          ·rw[if_pos c84]at H
           have c84b0:decide (((rd_T110 x7_3 x179_4).f1)<((rd_T110 x7_3 x179_4).f0))=true:=decide_eq_true c84;clear c84;simp only[Option.some.injEq,Prod.mk.injEq]at H;obtain⟨rfl,rfl⟩:=H;have p427:0≤(x179_4:Int):=za;have q427:x179_4<(x7_3.length:Int):=za;obtain⟨ad427,e427,hx427_0,hx427_1⟩:=at_T110 (Kd.R_reads' HO_177.out).2.2 x179_4 p427 q427;cases e427;replace p427:=eq_true p427;replace q427:=eq_true q427
           go_wp2_with (first|((with_reducible refine gate_dst (N:=12) rfl ?_);refine zbx 12 #[.int .i64 0,.int .i64 0] 110 ?_;intro gb428 hg w85 hbox hb;have BK428:=zA hbox;have GW428:=zgs hg (zs1 HB GE399);have GE428:=zgs hg (zs1 HB GE399);have NB399_428:=zne hg BK399;have NB428_399:=znf hg BK399;replace HO_7:=zA (Kd.R_below (Kd.R_elderB (zr HO_7) gb428 (Nat.le_of_eq hg.symm)) hb);replace HO_177:=zA (Kd.R_below (Kd.R_elderB (zr HO_177) gb428 (Nat.le_of_eq hg.symm)) hb);replace BK399:=zb BK399 hb;replace HB:=zE (zs1 HB GE399) hb;clear hb hbox hg;have hnb86:=NB428_399.out;have hnc86:=NB399_428.out;obtain⟨hcz87_0,hcz87_1⟩:=zd2 BK428;obtain⟨hfz87_0,hfz87_1⟩:=zn2 BK428))
           go_ret2
           exact⟨_,by first|rfl|(simp[errW_none,errW_some]<;>rfl)|(simp only[←hji3];first|rfl|(simp[errW_none,errW_some]<;>rfl))|(simp[*,errW_none,errW_some]<;>rfl),by first|exact Kd.R_nil _ _ _ _ _|exact Kd.N_nil _ _ _ _ _|exact Kd.V_nil _ _ _ _ _|exact Kd.Q_nil _ _ _ _ _|exact Kd.S_nil _ _ _ _ _,zs2 HB GE399 GE428⟩
          rw[if_neg c84]at H;have c84b0:decide (((rd_T110 x7_3 x179_4).f1)<((rd_T110 x7_3 x179_4).f0))=false:=decide_eq_false c84;clear c84;have H':=zA H;clear H;have p427:0≤(x179_4:Int):=za;have q427:x179_4<(x7_3.length:Int):=za;obtain⟨ad427,e427,hx427_0,hx427_1⟩:=at_T110 (Kd.R_reads' HO_177.out).2.2 x179_4 p427 q427;cases e427;replace p427:=eq_true p427;replace q427:=eq_true q427
          go_wp2_with (first|((with_reducible refine gate_dst (N:=12) rfl ?_);refine zbx 12 #[.int .i64 0,.int .i64 0] 110 ?_;intro gb428 hg w88 hbox hb;have BK428:=zA hbox;have GW428:=zgs hg (zs1 HB GE399);have GE428:=zgs hg (zs1 HB GE399);have NB399_428:=zne hg BK399;have NB428_399:=znf hg BK399;replace HO_7:=zA (Kd.R_below (Kd.R_elderB (zr HO_7) gb428 (Nat.le_of_eq hg.symm)) hb);replace HO_177:=zA (Kd.R_below (Kd.R_elderB (zr HO_177) gb428 (Nat.le_of_eq hg.symm)) hb);replace BK399:=zb BK399 hb;replace HB:=zE (zs1 HB GE399) hb;clear hb hbox hg;have hnb89:=NB428_399.out;have hnc89:=NB399_428.out;obtain⟨hcz90_0,hcz90_1⟩:=zd2 BK428;obtain⟨hfz90_0,hfz90_1⟩:=zn2 BK428))
          go_roundg k4
          case measure=>have:=HK1.out;have:=HK2.out;have:=HK3.out;have:=HK4.out;omega
          case rel=>exact⟨(wrap64 (x179_4+1)),zi,H',⟨by have:=HK1.out;have:=HK2.out;have:=HK3.out;have:=HK4.out;omega⟩,⟨by(try simp only[hl7_1]);(try simp only[hl7_2]);(try simp only[hl7_3]);(with_reducible repeat(first|apply Kd.R_alloc|apply Kd.R_drewN|apply Kd.R_drew));exact Kd.R_mono (Kd.R_far (p:=⟨gb428,1,none⟩) (Kd.R_far (p:=⟨gb428,0,none⟩) (Kd.R_mono HO_7.out (fun k_ hk=>(⟨hk,hk.2⟩:_∧k_≠gb428))) (fun _ hk=>hk.2) (.int .i64 ((rd_T110 x7_3 x179_4).f0))) (fun _ hk=>hk.2) (.int .i64 ((rd_T110 x7_3 x179_4).f1))) (fun _ hk=>trivial)⟩,⟨by(try simp only[hl7_1]);(try simp only[hl7_2]);(try simp only[hl7_3]);(with_reducible repeat(first|apply Kd.R_alloc|apply Kd.R_drewN|apply Kd.R_drew));exact Kd.R_mono (Kd.R_far (p:=⟨gb428,1,none⟩) (Kd.R_far (p:=⟨gb428,0,none⟩) (Kd.R_mono HO_177.out (fun k_ hk=>(⟨hk,hk.2⟩:_∧k_≠gb428))) (fun _ hk=>hk.2) (.int .i64 ((rd_T110 x7_3 x179_4).f0))) (fun _ hk=>hk.2) (.int .i64 ((rd_T110 x7_3 x179_4).f1))) (fun _ hk=>trivial)⟩,⟨by(try simp only[hl7_1]);(try simp only[hl7_2]);(try simp only[hl7_3]);(with_reducible repeat(first|refine blk_drewN ?_ _|refine blk_drew ?_|refine blk_alloc ?_ _));refine blk_far ?_ NB399_428.out _;(with_reducible repeat(first|refine blk_drewN ?_ _|refine blk_drew ?_|refine blk_alloc ?_ _));refine blk_far ?_ NB399_428.out _;(with_reducible repeat(first|refine blk_drewN ?_ _|refine blk_drew ?_|refine blk_alloc ?_ _));exact BK399.out⟩,⟨zs2 HB GE399 GE428⟩⟩
       rw[if_pos c59]at H;have c59b0:decide (0≤x10_3)=true:=decide_eq_true c59;clear c59;replace H:=zif H;obtain⟨c60b0,H⟩:=H
       by_cases c61:x10_3<(x7_3.length:Int)
       rotate_left
       ·rw[if_neg c61]at H
        exact absurd H (by simp)
       rw[if_pos c61]at H;have c61b0:decide (x10_3<(x7_3.length:Int))=true:=decide_eq_true c61;clear c61;obtain⟨ji62,hji62⟩: ∃j_:Int,(wrap64 (x10_3+1))=j_:=⟨_,rfl⟩
       first|rw[hji62]at H|simp only[hji62]at H
       have hji62w:(IntKind.i64.wrap (x10_3+1))=ji62:=(i64_w _).trans hji62;replace H:=zif H;obtain⟨c63b0,H⟩:=H
       by_cases c64:(ji62)<(x7_3.length:Int)
       rotate_left
       ·rw[if_neg c64]at H
        exact absurd H (by simp)
       rw[if_pos c64]at H;have c64b0:decide ((ji62)<(x7_3.length:Int))=true:=decide_eq_true c64;clear c64;obtain⟨ji65,hji65⟩: ∃j_:Int,(mn ((rd_T110 x7_3 x10_3).f1) (wrap64 (((rd_T110 x7_3 (ji62)).f1)-a0_0)))=j_:=⟨_,rfl⟩
       first|rw[hji65]at H|simp only[hji65]at H
       have hji65_:(if(wrap64 (((rd_T110 x7_3 (ji62)).f1)-a0_0))<((rd_T110 x7_3 x10_3).f1)then(wrap64 (((rd_T110 x7_3 (ji62)).f1)-a0_0))else((rd_T110 x7_3 x10_3).f1))=ji65:=hji65;obtain⟨y422,hy422⟩: ∃y_:List (S110),y_=(x7_3.set (x10_3:Int).toNat (⟨(rd_T110 x7_3 x10_3).f0,ji65⟩:S110)):=⟨_,rfl⟩
       replace H:(if x10_3<(l0_2.length:Int)then(if((rd_T132 l0_2 x10_3).f6=true)then(impl_FlyPath_spans.l2 k3 y422 (wrap64 (x10_3-1)) a0_0 a0_1 l0_2 a0_3 a0_4)else(impl_FlyPath_spans.l2 k3 (y422.set (x10_3:Int).toNat (⟨mx ((rd_T110 y422 x10_3).f0) (wrap64 (((rd_T110 y422 (ji62)).f0)-a0_1)),(rd_T110 y422 x10_3).f1⟩:S110)) (wrap64 (x10_3-1)) a0_0 a0_1 l0_2 a0_3 a0_4))else(none))=some (r1,r2):=by first|(rw[hy422];with_reducible exact H)|(have H2_:=(Option.bind_some _ _).symm.trans H;rw[hy422];with_reducible exact H2_)|(have H2_:=(Option.bind_some _ _).symm.trans H;with_reducible exact H2_)|with_reducible exact H|(rw[hy422];exact H)|exact H
       have Ny422:=zA hy422;clear hy422;replace H:=zif H;obtain⟨c67b0,H⟩:=H;obtain⟨bq68,hbq68⟩: ∃b_:Bool,b_=((rd_T132 l0_2 x10_3).f6):=⟨_,rfl⟩
       replace H:(if(bq68=true)then(impl_FlyPath_spans.l2 k3 y422 (wrap64 (x10_3-1)) a0_0 a0_1 l0_2 a0_3 a0_4)else(impl_FlyPath_spans.l2 k3 (y422.set (x10_3:Int).toNat (⟨mx ((rd_T110 y422 x10_3).f0) (wrap64 (((rd_T110 y422 (ji62)).f0)-a0_1)),(rd_T110 y422 x10_3).f1⟩:S110)) (wrap64 (x10_3-1)) a0_0 a0_1 l0_2 a0_3 a0_4))=some (r1,r2):=by rw[←hbq68]at H;exact H
       have Nbq68:=zA hbq68;clear hbq68
       by_cases c69:(bq68=true)
       ·subst c69
        rw[if_pos rfl]at H;have H':=zA H;clear H
        try go_wp2
        replace HO_7:=zA (Kd.R_drew HO_7.out);replace BK399:=zA (blk_drew BK399.out);replace HB:=zA (below_drew1 HB.out);have p420:0≤(x10_3:Int):=za;have q420:x10_3<(x7_3.length:Int):=za;obtain⟨ad420,e420,hx420_0,hx420_1⟩:=at_T110 (Kd.R_reads' HO_7.out).2.2 x10_3 p420 q420;cases e420;replace p420:=eq_true p420;replace q420:=eq_true q420;have p421:0≤((ji62):Int):=za;have q421:(ji62)<(x7_3.length:Int):=za;obtain⟨ad421,e421,hx421_0,hx421_1⟩:=at_T110 (Kd.R_reads' HO_7.out).2.2 (ji62) p421 q421;obtain rfl:ad420=ad421:=(by injection e421);replace p421:=eq_true p421;replace q421:=eq_true q421;have p66:0≤(x10_3:Int):=za;have q66:(x10_3:Int)<((x7_3.length:Int):Int):=za;obtain⟨go66,co66,eo66,gb66,gl66,cl66,HG66⟩:=Kd.R_form HO_7.out (by omega);(first|cases eo66|(injection eo66 with ea_ en_ ec_;(first|subst ea_|(injection ea_ with ea_;subst ea_));subst ec_;clear en_));have GB66:=zA gb66;have GG66:=zA HG66;clear gb66 gl66 HG66;(first|simp only[add_plain]at hx420_0|skip);(first|simp only[add_plain]at hx420_1|skip);(first|simp only[add_plain]at hx421_0|skip);(first|simp only[add_plain]at hx421_1|skip);obtain⟨ce66,hcl66,hM66,hcc66,hfr66⟩:=Kd.R_elem HO_7.out z110 (x10_3:Int) p66 q66;obtain rfl:=k110_openM hM66;have hx66_0:World.cell? _ ⟨go66,(x10_3:Int).toNat*2,none⟩=some (.int .i64 ((rd_T110 x7_3 x10_3).f0)):=hcc66 0 _ rfl;have hx66_1:World.cell? _ ⟨go66,(x10_3:Int).toNat*2+1,none⟩=some (.int .i64 ((rd_T110 x7_3 x10_3).f1)):=hcc66 1 _ rfl;have hf66_0:World.frozen? _ ⟨go66,(x10_3:Int).toNat*2,none⟩=false:=hfr66 0;have hf66_1:World.frozen? _ ⟨go66,(x10_3:Int).toNat*2+1,none⟩=false:=hfr66 1;clear hcl66 hcc66 hfr66 hM66;replace p66:=eq_true p66;replace q66:=eq_true q66;obtain⟨ce71,hcl71,hM71,hcc71,hfr71⟩:=Kd.R_elem HO_7.out z110 (x10_3:Int) (za) (by have h_:(x10_3:Int)<((x7_3.length:Int):Int):=za;first|exact h_|(have e_:=(Kd.R_reads' HO_7.out).1;omega)|simpa using h_);obtain rfl:=k110_openM hM71;have HP71:=(Kd.R_seg HO_7.out (x10_3:Int) (za) (by have h_:(x10_3:Int)<((x7_3.length:Int):Int):=za;first|exact h_|(have e_:=(Kd.R_reads' HO_7.out).1;omega)|simpa using h_) (seg:=[.int .i64 ji65]) (j:=1) hcl71 hcc71 (show 2≤2 from by decide) (x':=(⟨(rd_T110 x7_3 x10_3).f0,ji65⟩:S110)) (k110_mkM _ _ _ (⟨(rd_T110 x7_3 x10_3).f0,ji65⟩:S110)) (fun _ hk=>hk)).1;rw[←Ny422.out]at HP71;have HQ71:=zA HP71;clear hcl71 hcc71 hfr71 hM71 HP71;refine start_ (n:=21) (S:=fun w'=>w'.cell? ⟨gb399,0,none⟩=some (.int .i64 a0_0)∧w'.cell? ⟨gb399,1,none⟩=some (.int .i64 a0_1)∧w'.cell? ⟨gb399,2,none⟩=some (.slice A0_2 l0_2.length c0_2)∧w'.cell? ⟨gb399,3,none⟩=some (.int .i64 a0_3)∧w'.cell? ⟨gb399,4,none⟩=some (.int .i64 a0_4)∧w'.cell? ⟨go66,((x10_3).toNat*2),none⟩=some (.int .i64 ((rd_T110 x7_3 x10_3).f0))∧w'.cell? ⟨go66,((x10_3).toNat*2)+1,none⟩=some (.int .i64 ((rd_T110 x7_3 x10_3).f1))∧w'.cell? ⟨go66,(((ji62)).toNat*2),none⟩=some (.int .i64 ((rd_T110 x7_3 (ji62)).f0))∧w'.cell? ⟨go66,(((ji62)).toNat*2)+1,none⟩=some (.int .i64 ((rd_T110 x7_3 (ji62)).f1))) (ds:=[20]) #[F,F,F,F,F,F,F,F,F,F,F,F,F,F,F,F,F,F,F,F,F] (by kernel_rfl) rfl rfl ⟨zc0 BK399,zc1 BK399,zc2 BK399,zc3 BK399,zc4 BK399,hx420_0,hx420_1,hx421_0,hx421_1⟩ (fun hHeld=>?_);refine with_tabW impl_FlyPath_spans.tab19 impl_FlyPath_spans.bits19 (fun HT_ HW_=>?_);generalize wr.drew=w70 at HO_7 BK399 HB GG66 HQ71 hf66_0 hf66_1 hx420_0 hx420_1 hx421_0 hx421_1 hx66_0 hx66_1 hHeld⊢;refine zq HT_ 0 ?_;refine zq HT_ 1 ?_;refine zq HT_ 2 ?_;refine zq HT_ 3 ?_;refine zq HT_ 4 ?_;refine zq HT_ 5 ?_;refine zq HT_ 7 ?_;refine zq HT_ 8 ?_;refine zq HT_ 9 ?_;refine zq HT_ 10 ?_;refine zq HT_ 11 ?_;refine zq HT_ 13 ?_;refine zq HT_ 14 ?_;refine zk9 HT_ HW_ hHeld 6 ?_;refine zk9 HT_ HW_ hHeld 12 ?_;refine zk9 HT_ HW_ hHeld 15 ?_;refine zq HT_ 16 ?_;refine zq HT_ 17 ?_;refine zq HT_ 18 ?_;refine zq HT_ 19 ?_;refine zO HT_ 20 (fun K hK=>?_);refine skip_ (w1:=?_) (by rfl) rfl ?_ ?_;rotate_left
        ·go_simp
         rfl
        refine hK.out _ _ ?_;clear hK K;refine done_ (done_of HT_.out (by kernel_rfl)) ?_;obtain⟨hcz72_0,hcz72_1,hcz72_2,hcz72_3,hcz72_4⟩:=zd5 BK399;obtain⟨hfz72_0,hfz72_1,hfz72_2,hfz72_3,hfz72_4⟩:=zn5 BK399;have p423:0≤(x10_3:Int):=za;have q423:x10_3<(l0_2.length:Int):=za;obtain⟨ad423,e423,hx423_0,hx423_1,hx423_2,hx423_3,hx423_4,hx423_5,hx423_6⟩:=at_T132 HR0_2.out x10_3 p423 q423;(try rw[←Nbq68.out]at hx423_6);cases e423;have hn423_0:ad423.block≠go66:=Nat.ne_of_lt (Nat.lt_of_lt_of_le (by have:=World.block_lt_of_cell? _ _ hx423_0;first|rwa [add_block]at this|exact this) GB66.out);replace hx423_0:=zx HB hx423_0;replace hx423_1:=zx HB hx423_1;replace hx423_2:=zx HB hx423_2;replace hx423_3:=zx HB hx423_3;replace hx423_4:=zx HB hx423_4;replace hx423_5:=zx HB hx423_5;replace hx423_6:=zx HB hx423_6;replace hx423_0:=(cell_far (p:=⟨go66,(x10_3:Int).toNat*2+1,none⟩) (by first|(rw[add_block];exact hn423_0)|(show(Addr.add _ _).block≠_;rw[add_block];exact hn423_0)|exact hn423_0) (.int .i64 ji65)).trans hx423_0;replace hx423_1:=(cell_far (p:=⟨go66,(x10_3:Int).toNat*2+1,none⟩) (by first|(rw[add_block];exact hn423_0)|(show(Addr.add _ _).block≠_;rw[add_block];exact hn423_0)|exact hn423_0) (.int .i64 ji65)).trans hx423_1;replace hx423_2:=(cell_far (p:=⟨go66,(x10_3:Int).toNat*2+1,none⟩) (by first|(rw[add_block];exact hn423_0)|(show(Addr.add _ _).block≠_;rw[add_block];exact hn423_0)|exact hn423_0) (.int .i64 ji65)).trans hx423_2;replace hx423_3:=(cell_far (p:=⟨go66,(x10_3:Int).toNat*2+1,none⟩) (by first|(rw[add_block];exact hn423_0)|(show(Addr.add _ _).block≠_;rw[add_block];exact hn423_0)|exact hn423_0) (.int .i64 ji65)).trans hx423_3;replace hx423_4:=(cell_far (p:=⟨go66,(x10_3:Int).toNat*2+1,none⟩) (by first|(rw[add_block];exact hn423_0)|(show(Addr.add _ _).block≠_;rw[add_block];exact hn423_0)|exact hn423_0) (.int .i64 ji65)).trans hx423_4;replace hx423_5:=(cell_far (p:=⟨go66,(x10_3:Int).toNat*2+1,none⟩) (by first|(rw[add_block];exact hn423_0)|(show(Addr.add _ _).block≠_;rw[add_block];exact hn423_0)|exact hn423_0) (.int .i64 ji65)).trans hx423_5;replace hx423_6:=(cell_far (p:=⟨go66,(x10_3:Int).toNat*2+1,none⟩) (by first|(rw[add_block];exact hn423_0)|(show(Addr.add _ _).block≠_;rw[add_block];exact hn423_0)|exact hn423_0) (.int .i64 ji65)).trans hx423_6;clear hn423_0;replace p423:=eq_true p423;replace q423:=eq_true q423;have hne_:gb399≠go66:=(by have h_:=Kd.R_ne HO_7.out BK399.out (by decide);intro e_;exact h_ (by rw[e_];rfl));have hy0_:=(cell_far (p:=⟨go66,(x10_3:Int).toNat*2+1,none⟩) (a:=⟨gb399,0,none⟩) hne_ (.int .i64 ji65)).trans (zc0 BK399);have hy1_:=(cell_far (p:=⟨go66,(x10_3:Int).toNat*2+1,none⟩) (a:=⟨gb399,1,none⟩) hne_ (.int .i64 ji65)).trans (zc1 BK399);have hy2_:=(cell_far (p:=⟨go66,(x10_3:Int).toNat*2+1,none⟩) (a:=⟨gb399,2,none⟩) hne_ (.int .i64 ji65)).trans (zc2 BK399);have hy3_:=(cell_far (p:=⟨go66,(x10_3:Int).toNat*2+1,none⟩) (a:=⟨gb399,3,none⟩) hne_ (.int .i64 ji65)).trans (zc3 BK399);have hy4_:=(cell_far (p:=⟨go66,(x10_3:Int).toNat*2+1,none⟩) (a:=⟨gb399,4,none⟩) hne_ (.int .i64 ji65)).trans (zc4 BK399)
        try go_wp2
        (try simp only[←hl7_3])
        go_roundg k3
        case measure=>have:=HK1.out;have:=HK2.out;have:=HK3.out;omega
        case rel=>exact⟨(y422),(wrap64 (x10_3-1)),zi,H',⟨by have:=HK1.out;have:=HK2.out;have:=HK3.out;omega⟩,⟨by(try simp only[hl7_1]);(try simp only[hl7_2]);(try simp only[hl7_3]);(with_reducible repeat(first|apply Kd.R_alloc|apply Kd.R_drewN|apply Kd.R_drew));exact HQ71.out⟩,⟨by(try simp only[hl7_1]);(try simp only[hl7_2]);(try simp only[hl7_3]);(with_reducible repeat(first|refine blk_drewN ?_ _|refine blk_drew ?_|refine blk_alloc ?_ _));refine blk_far ?_ (by have h_:=Kd.R_ne HO_7.out BK399.out (by decide);intro e_;exact h_ (by rw[e_];rfl)) _;(with_reducible repeat(first|refine blk_drewN ?_ _|refine blk_drew ?_|refine blk_alloc ?_ _));exact BK399.out⟩,⟨by repeat(first|(with_reducible first|exact HB.out|apply below_alloc|apply pw_below_drewN|apply below_drew1|refine below_set ?_ GB66.out|refine below_set ?_ GE399.out)|exact HB.out)⟩⟩
       replace c69:=Bool.eq_false_iff.mpr c69;subst c69;rw[if_neg zfn]at H;obtain⟨ji73,hji73⟩: ∃j_:Int,(mx ((rd_T110 y422 x10_3).f0) (wrap64 (((rd_T110 y422 (ji62)).f0)-a0_1)))=j_:=⟨_,rfl⟩
       first|rw[hji73]at H|simp only[hji73]at H
       have hji73_:(if((rd_T110 y422 x10_3).f0)<(wrap64 (((rd_T110 y422 (ji62)).f0)-a0_1))then(wrap64 (((rd_T110 y422 (ji62)).f0)-a0_1))else((rd_T110 y422 x10_3).f0))=ji73:=hji73;obtain⟨y426,hy426⟩: ∃y_:List (S110),y_=(y422.set (x10_3:Int).toNat (⟨ji73,(rd_T110 y422 x10_3).f1⟩:S110)):=⟨_,rfl⟩
       replace H:(impl_FlyPath_spans.l2 k3 y426 (wrap64 (x10_3-1)) a0_0 a0_1 l0_2 a0_3 a0_4)=some (r1,r2):=by first|(rw[hy426];with_reducible exact H)|(have H2_:=(Option.bind_some _ _).symm.trans H;rw[hy426];with_reducible exact H2_)|(have H2_:=(Option.bind_some _ _).symm.trans H;with_reducible exact H2_)|with_reducible exact H|(rw[hy426];exact H)|exact H
       have Ny426:=zA hy426;clear hy426;have H':=zA H;clear H
       try go_wp2
       replace HO_7:=zA (Kd.R_drew HO_7.out);replace BK399:=zA (blk_drew BK399.out);replace HB:=zA (below_drew1 HB.out);have p420:0≤(x10_3:Int):=za;have q420:x10_3<(x7_3.length:Int):=za;obtain⟨ad420,e420,hx420_0,hx420_1⟩:=at_T110 (Kd.R_reads' HO_7.out).2.2 x10_3 p420 q420;cases e420;replace p420:=eq_true p420;replace q420:=eq_true q420;have p421:0≤((ji62):Int):=za;have q421:(ji62)<(x7_3.length:Int):=za;obtain⟨ad421,e421,hx421_0,hx421_1⟩:=at_T110 (Kd.R_reads' HO_7.out).2.2 (ji62) p421 q421;obtain rfl:ad420=ad421:=(by injection e421);replace p421:=eq_true p421;replace q421:=eq_true q421;have p66:0≤(x10_3:Int):=za;have q66:(x10_3:Int)<((x7_3.length:Int):Int):=za;obtain⟨go66,co66,eo66,gb66,gl66,cl66,HG66⟩:=Kd.R_form HO_7.out (by omega);(first|cases eo66|(injection eo66 with ea_ en_ ec_;(first|subst ea_|(injection ea_ with ea_;subst ea_));subst ec_;clear en_));have GB66:=zA gb66;have GG66:=zA HG66;clear gb66 gl66 HG66;(first|simp only[add_plain]at hx420_0|skip);(first|simp only[add_plain]at hx420_1|skip);(first|simp only[add_plain]at hx421_0|skip);(first|simp only[add_plain]at hx421_1|skip);obtain⟨ce66,hcl66,hM66,hcc66,hfr66⟩:=Kd.R_elem HO_7.out z110 (x10_3:Int) p66 q66;obtain rfl:=k110_openM hM66;have hx66_0:World.cell? _ ⟨go66,(x10_3:Int).toNat*2,none⟩=some (.int .i64 ((rd_T110 x7_3 x10_3).f0)):=hcc66 0 _ rfl;have hx66_1:World.cell? _ ⟨go66,(x10_3:Int).toNat*2+1,none⟩=some (.int .i64 ((rd_T110 x7_3 x10_3).f1)):=hcc66 1 _ rfl;have hf66_0:World.frozen? _ ⟨go66,(x10_3:Int).toNat*2,none⟩=false:=hfr66 0;have hf66_1:World.frozen? _ ⟨go66,(x10_3:Int).toNat*2+1,none⟩=false:=hfr66 1;clear hcl66 hcc66 hfr66 hM66;replace p66:=eq_true p66;replace q66:=eq_true q66;obtain⟨ce76,hcl76,hM76,hcc76,hfr76⟩:=Kd.R_elem HO_7.out z110 (x10_3:Int) (za) (by have h_:(x10_3:Int)<((x7_3.length:Int):Int):=za;first|exact h_|(have e_:=(Kd.R_reads' HO_7.out).1;omega)|simpa using h_);obtain rfl:=k110_openM hM76;have HP76:=(Kd.R_seg HO_7.out (x10_3:Int) (za) (by have h_:(x10_3:Int)<((x7_3.length:Int):Int):=za;first|exact h_|(have e_:=(Kd.R_reads' HO_7.out).1;omega)|simpa using h_) (seg:=[.int .i64 ji65]) (j:=1) hcl76 hcc76 (show 2≤2 from by decide) (x':=(⟨(rd_T110 x7_3 x10_3).f0,ji65⟩:S110)) (k110_mkM _ _ _ (⟨(rd_T110 x7_3 x10_3).f0,ji65⟩:S110)) (fun _ hk=>hk)).1;rw[←Ny422.out]at HP76;have HQ76:=zA HP76;clear hcl76 hcc76 hfr76 hM76 HP76;refine start_ (n:=21) (S:=fun w'=>w'.cell? ⟨gb399,0,none⟩=some (.int .i64 a0_0)∧w'.cell? ⟨gb399,1,none⟩=some (.int .i64 a0_1)∧w'.cell? ⟨gb399,2,none⟩=some (.slice A0_2 l0_2.length c0_2)∧w'.cell? ⟨gb399,3,none⟩=some (.int .i64 a0_3)∧w'.cell? ⟨gb399,4,none⟩=some (.int .i64 a0_4)∧w'.cell? ⟨go66,((x10_3).toNat*2),none⟩=some (.int .i64 ((rd_T110 x7_3 x10_3).f0))∧w'.cell? ⟨go66,((x10_3).toNat*2)+1,none⟩=some (.int .i64 ((rd_T110 x7_3 x10_3).f1))∧w'.cell? ⟨go66,(((ji62)).toNat*2),none⟩=some (.int .i64 ((rd_T110 x7_3 (ji62)).f0))∧w'.cell? ⟨go66,(((ji62)).toNat*2)+1,none⟩=some (.int .i64 ((rd_T110 x7_3 (ji62)).f1))) (ds:=[20]) #[F,F,F,F,F,F,F,F,F,F,F,F,F,F,F,F,F,F,F,F,F] (by kernel_rfl) rfl rfl ⟨zc0 BK399,zc1 BK399,zc2 BK399,zc3 BK399,zc4 BK399,hx420_0,hx420_1,hx421_0,hx421_1⟩ (fun hHeld=>?_);refine with_tabW impl_FlyPath_spans.tab19 impl_FlyPath_spans.bits19 (fun HT_ HW_=>?_);generalize wr.drew=w75 at HO_7 BK399 HB GG66 HQ76 hf66_0 hf66_1 hx420_0 hx420_1 hx421_0 hx421_1 hx66_0 hx66_1 hHeld⊢;refine zq HT_ 0 ?_;refine zq HT_ 1 ?_;refine zq HT_ 2 ?_;refine zq HT_ 3 ?_;refine zq HT_ 4 ?_;refine zq HT_ 5 ?_;refine zq HT_ 7 ?_;refine zq HT_ 8 ?_;refine zq HT_ 9 ?_;refine zq HT_ 10 ?_;refine zq HT_ 11 ?_;refine zq HT_ 13 ?_;refine zq HT_ 14 ?_;refine zk9 HT_ HW_ hHeld 6 ?_;refine zk9 HT_ HW_ hHeld 12 ?_;refine zk9 HT_ HW_ hHeld 15 ?_;refine zq HT_ 16 ?_;refine zq HT_ 17 ?_;refine zq HT_ 18 ?_;refine zq HT_ 19 ?_;refine zO HT_ 20 (fun K hK=>?_);refine skip_ (w1:=?_) (by rfl) rfl ?_ ?_;rotate_left
       ·go_simp
        rfl
       refine hK.out _ _ ?_;clear hK K;refine done_ (done_of HT_.out (by kernel_rfl)) ?_;obtain⟨hcz77_0,hcz77_1,hcz77_2,hcz77_3,hcz77_4⟩:=zd5 BK399;obtain⟨hfz77_0,hfz77_1,hfz77_2,hfz77_3,hfz77_4⟩:=zn5 BK399;have p423:0≤(x10_3:Int):=za;have q423:x10_3<(l0_2.length:Int):=za;obtain⟨ad423,e423,hx423_0,hx423_1,hx423_2,hx423_3,hx423_4,hx423_5,hx423_6⟩:=at_T132 HR0_2.out x10_3 p423 q423;(try rw[←Nbq68.out]at hx423_6);cases e423;have hn423_0:ad423.block≠go66:=Nat.ne_of_lt (Nat.lt_of_lt_of_le (by have:=World.block_lt_of_cell? _ _ hx423_0;first|rwa [add_block]at this|exact this) GB66.out);replace hx423_0:=zx HB hx423_0;replace hx423_1:=zx HB hx423_1;replace hx423_2:=zx HB hx423_2;replace hx423_3:=zx HB hx423_3;replace hx423_4:=zx HB hx423_4;replace hx423_5:=zx HB hx423_5;replace hx423_6:=zx HB hx423_6;replace hx423_0:=(cell_far (p:=⟨go66,(x10_3:Int).toNat*2+1,none⟩) (by first|(rw[add_block];exact hn423_0)|(show(Addr.add _ _).block≠_;rw[add_block];exact hn423_0)|exact hn423_0) (.int .i64 ji65)).trans hx423_0;replace hx423_1:=(cell_far (p:=⟨go66,(x10_3:Int).toNat*2+1,none⟩) (by first|(rw[add_block];exact hn423_0)|(show(Addr.add _ _).block≠_;rw[add_block];exact hn423_0)|exact hn423_0) (.int .i64 ji65)).trans hx423_1;replace hx423_2:=(cell_far (p:=⟨go66,(x10_3:Int).toNat*2+1,none⟩) (by first|(rw[add_block];exact hn423_0)|(show(Addr.add _ _).block≠_;rw[add_block];exact hn423_0)|exact hn423_0) (.int .i64 ji65)).trans hx423_2;replace hx423_3:=(cell_far (p:=⟨go66,(x10_3:Int).toNat*2+1,none⟩) (by first|(rw[add_block];exact hn423_0)|(show(Addr.add _ _).block≠_;rw[add_block];exact hn423_0)|exact hn423_0) (.int .i64 ji65)).trans hx423_3;replace hx423_4:=(cell_far (p:=⟨go66,(x10_3:Int).toNat*2+1,none⟩) (by first|(rw[add_block];exact hn423_0)|(show(Addr.add _ _).block≠_;rw[add_block];exact hn423_0)|exact hn423_0) (.int .i64 ji65)).trans hx423_4;replace hx423_5:=(cell_far (p:=⟨go66,(x10_3:Int).toNat*2+1,none⟩) (by first|(rw[add_block];exact hn423_0)|(show(Addr.add _ _).block≠_;rw[add_block];exact hn423_0)|exact hn423_0) (.int .i64 ji65)).trans hx423_5;replace hx423_6:=(cell_far (p:=⟨go66,(x10_3:Int).toNat*2+1,none⟩) (by first|(rw[add_block];exact hn423_0)|(show(Addr.add _ _).block≠_;rw[add_block];exact hn423_0)|exact hn423_0) (.int .i64 ji65)).trans hx423_6;clear hn423_0;replace p423:=eq_true p423;replace q423:=eq_true q423;have hne_:gb399≠go66:=(by have h_:=Kd.R_ne HO_7.out BK399.out (by decide);intro e_;exact h_ (by rw[e_];rfl));have hy0_:=(cell_far (p:=⟨go66,(x10_3:Int).toNat*2+1,none⟩) (a:=⟨gb399,0,none⟩) hne_ (.int .i64 ji65)).trans (zc0 BK399);have hy1_:=(cell_far (p:=⟨go66,(x10_3:Int).toNat*2+1,none⟩) (a:=⟨gb399,1,none⟩) hne_ (.int .i64 ji65)).trans (zc1 BK399);have hy2_:=(cell_far (p:=⟨go66,(x10_3:Int).toNat*2+1,none⟩) (a:=⟨gb399,2,none⟩) hne_ (.int .i64 ji65)).trans (zc2 BK399);have hy3_:=(cell_far (p:=⟨go66,(x10_3:Int).toNat*2+1,none⟩) (a:=⟨gb399,3,none⟩) hne_ (.int .i64 ji65)).trans (zc3 BK399);have hy4_:=(cell_far (p:=⟨go66,(x10_3:Int).toNat*2+1,none⟩) (a:=⟨gb399,4,none⟩) hne_ (.int .i64 ji65)).trans (zc4 BK399)
       try go_wp2
       obtain⟨w78,e_⟩: ∃x,x=(w75.setCell ⟨go66,(x10_3:Int).toNat*2+1,none⟩ (.int .i64 ji65)):=⟨_,rfl⟩
       have n0_:Aside0 (Kd.R k110 110 w78 w.heap.size (fun _=>True) (.slice (some ⟨go66,0,none⟩) x7_3.length co10) y422):=by rw[e_];exact⟨zr HQ76⟩
       have n1_:Aside0 (w78.heap[gb399]?=some (.cells #[.int .i64 a0_0,.int .i64 a0_1,.slice (some ad423) l0_2.length c0_2,.int .i64 a0_3,.int .i64 a0_4] 68 (0,0))):=by rw[e_];exact⟨by(with_reducible repeat(first|refine blk_drewN ?_ _|refine blk_drew ?_|refine blk_alloc ?_ _));refine blk_far ?_ (by have h_:=Kd.R_ne HO_7.out BK399.out (by decide);intro e_;exact h_ (by rw[e_];rfl)) _;(with_reducible repeat(first|refine blk_drewN ?_ _|refine blk_drew ?_|refine blk_alloc ?_ _));exact BK399.out⟩
       have n2_:Aside0 (Below w.heap.size w w78):=by rw[e_];exact⟨by repeat(first|(with_reducible first|exact HB.out|apply below_alloc|apply pw_below_drewN|apply below_drew1|refine below_set ?_ GB66.out|refine below_set ?_ GE399.out)|exact HB.out)⟩
       (try clear HO_7);(try clear BK399);(try clear HB);rw[←e_];clear e_;have HO_7:=n0_;have BK399:=n1_;have HB:=n2_;clear n0_ n1_ n2_;replace HO_7:=zA (Kd.R_drew HO_7.out);replace BK399:=zA (blk_drew BK399.out);replace HB:=zA (below_drew1 HB.out);have p424:0≤(x10_3:Int):=za;have q424:x10_3<(y422.length:Int):=(by have h_:(x10_3:Int)<((x7_3.length:Int):Int):=za;first|(have e_:=(Kd.R_reads' HO_7.out).1;omega)|simpa only[Ny422.out,List.length_set]using h_);have ql424:((x10_3:Int)<((x7_3.length:Int):Int))=True:=eq_true (za);obtain⟨ad424,e424,hx424_0,hx424_1⟩:=at_T110 (Kd.R_reads' HO_7.out).2.2 x10_3 p424 q424;obtain rfl:(⟨go66,0,none⟩:Addr)=ad424:=(by injection e424);(first|simp only[add_plain]at hx424_0|simp only[add_at]at hx424_0|simp only[Addr.add,Nat.zero_add]at hx424_0|skip);(first|simp only[add_plain]at hx424_1|simp only[add_at]at hx424_1|simp only[Addr.add,Nat.zero_add]at hx424_1|skip);replace p424:=eq_true p424;replace q424:=eq_true q424;have p425:0≤((ji62):Int):=za;have q425:(ji62)<(y422.length:Int):=(by have h_:((ji62):Int)<((x7_3.length:Int):Int):=za;first|(have e_:=(Kd.R_reads' HO_7.out).1;omega)|simpa only[Ny422.out,List.length_set]using h_);have ql425:(((ji62):Int)<((x7_3.length:Int):Int))=True:=eq_true (za);obtain⟨ad425,e425,hx425_0,hx425_1⟩:=at_T110 (Kd.R_reads' HO_7.out).2.2 (ji62) p425 q425;obtain rfl:(⟨go66,0,none⟩:Addr)=ad425:=(by injection e425);(first|simp only[add_plain]at hx425_0|simp only[add_at]at hx425_0|simp only[Addr.add,Nat.zero_add]at hx425_0|skip);(first|simp only[add_plain]at hx425_1|simp only[add_at]at hx425_1|simp only[Addr.add,Nat.zero_add]at hx425_1|skip);replace p425:=eq_true p425;replace q425:=eq_true q425;have p74:0≤(x10_3:Int):=za;have q74:(x10_3:Int)<((x7_3.length:Int):Int):=za;obtain⟨ce74,hcl74,hM74,hcc74,hfr74⟩:=Kd.R_elem HO_7.out z110 (x10_3:Int) p74 q74;obtain rfl:=k110_openM hM74;have hx74_0:World.cell? _ ⟨go66,(x10_3:Int).toNat*2,none⟩=some (.int .i64 ((rd_T110 y422 x10_3).f0)):=hcc74 0 _ rfl;have hx74_1:World.cell? _ ⟨go66,(x10_3:Int).toNat*2+1,none⟩=some (.int .i64 ((rd_T110 y422 x10_3).f1)):=hcc74 1 _ rfl;have hf74_0:World.frozen? _ ⟨go66,(x10_3:Int).toNat*2,none⟩=false:=hfr74 0;have hf74_1:World.frozen? _ ⟨go66,(x10_3:Int).toNat*2+1,none⟩=false:=hfr74 1;clear hcl74 hcc74 hfr74 hM74;replace p74:=eq_true p74;replace q74:=eq_true q74;obtain⟨ce80,hcl80,hM80,hcc80,hfr80⟩:=Kd.R_elem HO_7.out z110 (x10_3:Int) (za) (by have h_:(x10_3:Int)<((x7_3.length:Int):Int):=za;first|exact h_|(have e_:=(Kd.R_reads' HO_7.out).1;omega)|simpa using h_);obtain rfl:=k110_openM hM80;have HP80:=(Kd.R_seg HO_7.out (x10_3:Int) (za) (by have h_:(x10_3:Int)<((x7_3.length:Int):Int):=za;first|exact h_|(have e_:=(Kd.R_reads' HO_7.out).1;omega)|simpa using h_) (seg:=[.int .i64 ji73]) (j:=0) hcl80 hcc80 (show 1≤2 from by decide) (x':=(⟨ji73,(rd_T110 y422 x10_3).f1⟩:S110)) (k110_mkM _ _ _ (⟨ji73,(rd_T110 y422 x10_3).f1⟩:S110)) (fun _ hk=>hk)).1;rw[←Ny426.out]at HP80;have HQ80:=zA HP80;clear hcl80 hcc80 hfr80 hM80 HP80;refine start_ (n:=21) (S:=fun w'=>w'.cell? ⟨gb399,0,none⟩=some (.int .i64 a0_0)∧w'.cell? ⟨gb399,1,none⟩=some (.int .i64 a0_1)∧w'.cell? ⟨gb399,2,none⟩=some (.slice (some ad423) l0_2.length c0_2)∧w'.cell? ⟨gb399,3,none⟩=some (.int .i64 a0_3)∧w'.cell? ⟨gb399,4,none⟩=some (.int .i64 a0_4)∧w'.cell? ⟨go66,(x10_3).toNat*2,none⟩=some (.int .i64 ((rd_T110 y422 x10_3).f0))∧w'.cell? ⟨go66,(x10_3).toNat*2+1,none⟩=some (.int .i64 ((rd_T110 y422 x10_3).f1))∧w'.cell? ⟨go66,((ji62)).toNat*2,none⟩=some (.int .i64 ((rd_T110 y422 (ji62)).f0))∧w'.cell? ⟨go66,((ji62)).toNat*2+1,none⟩=some (.int .i64 ((rd_T110 y422 (ji62)).f1))) (ds:=[20]) #[F,F,F,F,F,F,F,F,F,F,F,F,F,F,F,F,F,F,F,F,F] (by kernel_rfl) rfl rfl ⟨zc0 BK399,zc1 BK399,zc2 BK399,zc3 BK399,zc4 BK399,hx424_0,hx424_1,hx425_0,hx425_1⟩ (fun hHeld=>?_);refine with_tabW impl_FlyPath_spans.tab21 impl_FlyPath_spans.bits21 (fun HT_ HW_=>?_);generalize w78.drew=w79 at HO_7 BK399 HB HQ76 HQ80 hf74_0 hf74_1 hx424_0 hx424_1 hx425_0 hx425_1 hx74_0 hx74_1 hHeld⊢;refine zq HT_ 0 ?_
       refine zq HT_ 1 ?_;refine zq HT_ 2 ?_;refine zq HT_ 3 ?_;refine zq HT_ 4 ?_;refine zq HT_ 5 ?_;refine zq HT_ 7 ?_;refine zq HT_ 8 ?_;refine zq HT_ 9 ?_;refine zq HT_ 10 ?_;refine zq HT_ 11 ?_;refine zq HT_ 13 ?_;refine zq HT_ 14 ?_;refine zk9 HT_ HW_ hHeld 6 ?_;refine zk9 HT_ HW_ hHeld 12 ?_;refine zk9 HT_ HW_ hHeld 15 ?_;refine zq HT_ 16 ?_;refine zq HT_ 17 ?_;refine zq HT_ 18 ?_;refine zq HT_ 19 ?_;refine zO HT_ 20 (fun K hK=>?_);refine skip_ (w1:=?_) (by rfl) rfl ?_ ?_;rotate_left
       ·go_simp
        rfl
       refine hK.out _ _ ?_;clear hK K;refine done_ (done_of HT_.out (by kernel_rfl)) ?_
       try go_wp2
       (try simp only[←hl7_3])
       go_roundg k3
       case measure=>have:=HK1.out;have:=HK2.out;have:=HK3.out;omega
       case rel=>exact⟨(y426),(wrap64 (x10_3-1)),zi,H',⟨by have:=HK1.out;have:=HK2.out;have:=HK3.out;omega⟩,⟨by(try simp only[hl7_1]);(try simp only[hl7_2]);(try simp only[hl7_3]);(with_reducible repeat(first|apply Kd.R_alloc|apply Kd.R_drewN|apply Kd.R_drew));exact HQ80.out⟩,⟨by(try simp only[hl7_1]);(try simp only[hl7_2]);(try simp only[hl7_3]);(with_reducible repeat(first|refine blk_drewN ?_ _|refine blk_drew ?_|refine blk_alloc ?_ _));refine blk_far ?_ (by have h_:=Kd.R_ne HO_7.out BK399.out (by decide);intro e_;exact h_ (by rw[e_];rfl)) _;(with_reducible repeat(first|refine blk_drewN ?_ _|refine blk_drew ?_|refine blk_alloc ?_ _));exact BK399.out⟩,⟨by repeat(first|(with_reducible first|exact HB.out|apply below_alloc|apply pw_below_drewN|apply below_drew1|refine below_set ?_ GB66.out|refine below_set ?_ GE399.out)|exact HB.out)⟩⟩
end Go.Proofs.Ytbmplfpnhjhoiaa.QFnExactFlyMayTurn
