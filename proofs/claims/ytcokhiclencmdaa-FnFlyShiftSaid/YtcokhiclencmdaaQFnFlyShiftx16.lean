/- The walk of what the law FnFlyShift reaches: laid by a program of this session (ownprint.py). -/
import Derived.Test.YtcokhiclencmdaaQFnFlyShiftx0
import Derived.Test.YtcokhiclencmdaaQFnFlyShiftx15
namespace Go.Proofs.Ytcokhiclencmdaa.QFnFlyShift
open Go.RowKit Go.Proofs.YtcokhiclencmdaaW.PrintWords Go.Proofs.YtcokhiclencmdaaW.PrintLast Go.Proofs.YtcokhiclencmdaaW.PrintMore Go.Proofs.Ytcokhiclencmdaa.Z
attribute [local go_sem] max2_int min2_int max_two min_two max_three min_three max_four min_four zdn   -- for this text's walks alone
set_option linter.unusedVariables false
set_option linter.unusedSimpArgs false
mutual
def impl_FlyPath_spans.l0:Nat→List Int→Int→List (S49)→Int→Int→Int→Int→List (S43)→Int→Int→Option ((List (S49))×Bool)
 |0,_,_,_,_,_,_,_,_,_,_=>none
 |k+1,x1,x6,x7,x20,x21,a0,a1,a2,a3,a4=>if x21<x20 then((impl_FlyPath_bound.f a0 a1 a2 a3 a4 x21).bind fun a6=>(if 0≤x21 then(if x21<(x7.length:Int)then((some (x7.set (x21:Int).toNat (⟨a6.1,(rd_T49 x7 x21).f1⟩:S49):List (S49))).bind fun a7=>((some (a7.set (x21:Int).toNat (⟨(rd_T49 a7 x21).f0,a6.2⟩:S49):List (S49))).bind fun a5=>(if x21<(x1.length:Int)then((some (a5.set (x21:Int).toNat (⟨mx ((rd_T49 a5 x21).f0) (rd x1 x21),(rd_T49 a5 x21).f1⟩:S49):List (S49))).bind fun a8=>(impl_FlyPath_spans.l0 k x1 x6 (a8.set (x21:Int).toNat (⟨(rd_T49 a8 x21).f0,mn ((rd_T49 a5 x21).f1) (rd x1 x21)⟩:S49)) x20 (wrap64 (x21+1)) a0 a1 a2 a3 a4))else(impl_FlyPath_spans.l0 k x1 x6 a5 x20 (wrap64 (x21+1)) a0 a1 a2 a3 a4))))else(none))else(none)))else(impl_FlyPath_spans.l1 k x6 x7 1 a0 a1 a2 a3 a4)
def impl_FlyPath_spans.l1:Nat→Int→List (S49)→Int→Int→Int→List (S43)→Int→Int→Option ((List (S49))×Bool)
 |0,_,_,_,_,_,_,_,_=>none
 |k+1,x6,x7,x9,a1,a2,a0,a3,a4=>if x9≤x6 then(if 0≤x9 then(if x9<(x7.length:Int)then(if 0≤(wrap64 (x9-1))then(if(wrap64 (x9-1))<(x7.length:Int)then((some (x7.set (x9:Int).toNat (⟨mx ((rd_T49 x7 x9).f0) (wrap64 (((rd_T49 x7 (wrap64 (x9-1))).f0)+a1)),(rd_T49 x7 x9).f1⟩:S49):List (S49))).bind fun a5=>(if(wrap64 (x9-1))<(a0.length:Int)then(if((rd_T43 a0 (wrap64 (x9-1))).f6=true)then(impl_FlyPath_spans.l1 k x6 a5 (wrap64 (x9+1)) a1 a2 a0 a3 a4)else(impl_FlyPath_spans.l1 k x6 (a5.set (x9:Int).toNat (⟨(rd_T49 a5 x9).f0,mn ((rd_T49 a5 x9).f1) (wrap64 (((rd_T49 a5 (wrap64 (x9-1))).f1)+a2))⟩:S49)) (wrap64 (x9+1)) a1 a2 a0 a3 a4))else(none)))else(none))else(none))else(none))else(none))else(impl_FlyPath_spans.l2 k x7 (wrap64 (x6-1)) a1 a2 a0 a3 a4)
def impl_FlyPath_spans.l2:Nat→List (S49)→Int→Int→Int→List (S43)→Int→Int→Option ((List (S49))×Bool)
 |0,_,_,_,_,_,_,_=>none
 |k+1,x7,x10,a1,a2,a0,a3,a4=>if x10≥0 then(if 0≤x10 then(if x10<(x7.length:Int)then(if 0≤(wrap64 (x10+1))then(if(wrap64 (x10+1))<(x7.length:Int)then((some (x7.set (x10:Int).toNat (⟨(rd_T49 x7 x10).f0,mn ((rd_T49 x7 x10).f1) (wrap64 (((rd_T49 x7 (wrap64 (x10+1))).f1)-a1))⟩:S49):List (S49))).bind fun a5=>(if x10<(a0.length:Int)then(if((rd_T43 a0 x10).f6=true)then(impl_FlyPath_spans.l2 k a5 (wrap64 (x10-1)) a1 a2 a0 a3 a4)else(impl_FlyPath_spans.l2 k (a5.set (x10:Int).toNat (⟨mx ((rd_T49 a5 x10).f0) (wrap64 (((rd_T49 a5 (wrap64 (x10+1))).f0)-a2)),(rd_T49 a5 x10).f1⟩:S49)) (wrap64 (x10-1)) a1 a2 a0 a3 a4))else(none)))else(none))else(none))else(none))else(none))else(impl_FlyPath_spans.l3 k x7 x7 (x7.length:Int) 0)
def impl_FlyPath_spans.l3:Nat→List (S49)→List (S49)→Int→Int→Option ((List (S49))×Bool)
 |0,_,_,_,_=>none
 |k+1,x7,a1,a2,a0=>if a0<a2 then(if 0≤a0 then(if a0<(a1.length:Int)then(if((rd_T49 a1 a0).f0)>((rd_T49 a1 a0).f1)then(some (([]:List (S49)),false))else(impl_FlyPath_spans.l3 k x7 a1 a2 (wrap64 (a0+1))))else(none))else(none))else(some (x7,true))
end
def impl_FlyPath_spans.f (k:Nat) (a2:Int) (a3:Int) (a0:List (S43)) (a4:Int) (a5:Int) (l1:List Int):Option ((List (S49))×Bool):=if 0≤(wrap64 ((a0.length:Int)+1))then(if(wrap64 ((a0.length:Int)+1):Int).toNat≤17592186044416 then((some (List.replicate (wrap64 ((a0.length:Int)+1):Int).toNat z49:List (S49))).bind fun a1=>(impl_FlyPath_spans.l0 k l1 (a0.length:Int) a1 (a1.length:Int) 0 a2 a3 a0 a4 a5))else(none))else(none)
def impl_FlyPath_spans.T8:Bool×List (List Nat×List Nat):=(true,[([],[]),([],[]),([],[]),([],[]),([],[]),([],[]),([4,5],[4,5]),([6],[6]),([7],[7]),([],[]),([],[]),([9,10],[9,10]),([11],[11]),([8,12],[8,12]),([],[]),([],[]),([14,15],[14,15]),([16],[16]),([17],[17]),([],[]),([],[]),([19,20],[19,20]),([21],[21]),([18,22],[18,22]),([0,1,0,1,4,5,6,7,8,9,10,11,12,13,18,22],[0,1]),([24,0,1,4,5,6,7,8,9,10,11,12,13,18,22],[24]),([25,13,0,1,4,5,6,7,8,9,10,11,12,13,18,22],[13,25]),([2,3,0,1,2,3,4,5,6,7,8,9,10,11,12,13,14,15,16,17,18,19,20,21,22,23,24,25,26],[2,3]),([27,0,1,2,3,4,5,6,7,8,9,10,11,12,13,14,15,16,17,18,19,20,21,22,23,24,25,26],[27]),([28,23,26,0,1,2,3,4,5,6,7,8,9,10,11,12,13,14,15,16,17,18,19,20,21,22,23,24,25,26],[23,28])])
def impl_FlyPath_spans.B8:List Nat:=[0,0,0,0,0,0,48,112,240,0,0,1536,3584,8176,0,0,49152,114688,245760,0,0,1572864,3670016,8372224,8388595,25165811,58720243,134217727,268435455,536870911]
theorem impl_FlyPath_spans.tab8:rtab .any (opsOf Try.f27 8)=impl_FlyPath_spans.T8:=by kernel_rfl
theorem impl_FlyPath_spans.bits8:waitsOk impl_FlyPath_spans.T8.2 impl_FlyPath_spans.B8=true:=by kernel_rfl
def impl_FlyPath_spans.T13:Bool×List (List Nat×List Nat):=(true,[([],[]),([],[]),([],[]),([],[]),([2,3],[2,3]),([4],[4]),([5],[5]),([],[]),([],[]),([8],[8]),([7,9],[7,9]),([10],[10]),([11],[11]),([],[]),([13],[13]),([14],[14]),([12,15],[12,15]),([6,16],[6,16]),([0,1,0,1,2,3,4,5,6,7,8,9,10,11,12,13,14,15,16,17],[0,1]),([18,0,1,2,3,4,5,6,7,8,9,10,11,12,13,14,15,16,17],[18]),([19,17,0,1,2,3,4,5,6,7,8,9,10,11,12,13,14,15,16,17],[17,19])])
def impl_FlyPath_spans.B13:List Nat:=[0,0,0,0,12,28,60,0,0,256,896,1920,3968,0,8192,24576,65408,131068,262143,524287,1048575]
theorem impl_FlyPath_spans.tab13:rtab .any (opsOf Try.f27 13)=impl_FlyPath_spans.T13:=by kernel_rfl
theorem impl_FlyPath_spans.bits13:waitsOk impl_FlyPath_spans.T13.2 impl_FlyPath_spans.B13=true:=by kernel_rfl
def impl_FlyPath_spans.T15:Bool×List (List Nat×List Nat):=(true,[([],[]),([],[]),([],[]),([],[]),([2,3],[2,3]),([4],[4]),([5],[5]),([],[]),([],[]),([8],[8]),([7,9],[7,9]),([10],[10]),([11],[11]),([],[]),([13],[13]),([14],[14]),([12,15],[12,15]),([6,16],[6,16]),([0,1,0,1,2,3,4,5,6,7,8,9,10,11,12,13,14,15,16,17],[0,1]),([18,0,1,2,3,4,5,6,7,8,9,10,11,12,13,14,15,16,17],[18]),([19,17,0,1,2,3,4,5,6,7,8,9,10,11,12,13,14,15,16,17],[17,19])])
def impl_FlyPath_spans.B15:List Nat:=[0,0,0,0,12,28,60,0,0,256,896,1920,3968,0,8192,24576,65408,131068,262143,524287,1048575]
theorem impl_FlyPath_spans.tab15:rtab .any (opsOf Try.f27 15)=impl_FlyPath_spans.T15:=by kernel_rfl
theorem impl_FlyPath_spans.bits15:waitsOk impl_FlyPath_spans.T15.2 impl_FlyPath_spans.B15=true:=by kernel_rfl
def impl_FlyPath_spans.T19:Bool×List (List Nat×List Nat):=(true,[([],[]),([],[]),([],[]),([],[]),([2,3],[2,3]),([4],[4]),([5],[5]),([],[]),([],[]),([8],[8]),([7,9],[7,9]),([10],[10]),([11],[11]),([],[]),([13],[13]),([14],[14]),([12,15],[12,15]),([6,16],[6,16]),([0,1,0,1,2,3,4,5,6,7,8,9,10,11,12,13,14,15,16,17],[0,1]),([18,0,1,2,3,4,5,6,7,8,9,10,11,12,13,14,15,16,17],[18]),([19,17,0,1,2,3,4,5,6,7,8,9,10,11,12,13,14,15,16,17],[17,19])])
def impl_FlyPath_spans.B19:List Nat:=[0,0,0,0,12,28,60,0,0,256,896,1920,3968,0,8192,24576,65408,131068,262143,524287,1048575]
theorem impl_FlyPath_spans.tab19:rtab .any (opsOf Try.f27 19)=impl_FlyPath_spans.T19:=by kernel_rfl
theorem impl_FlyPath_spans.bits19:waitsOk impl_FlyPath_spans.T19.2 impl_FlyPath_spans.B19=true:=by kernel_rfl
def impl_FlyPath_spans.T21:Bool×List (List Nat×List Nat):=(true,[([],[]),([],[]),([],[]),([],[]),([2,3],[2,3]),([4],[4]),([5],[5]),([],[]),([],[]),([8],[8]),([7,9],[7,9]),([10],[10]),([11],[11]),([],[]),([13],[13]),([14],[14]),([12,15],[12,15]),([6,16],[6,16]),([0,1,0,1,2,3,4,5,6,7,8,9,10,11,12,13,14,15,16,17],[0,1]),([18,0,1,2,3,4,5,6,7,8,9,10,11,12,13,14,15,16,17],[18]),([19,17,0,1,2,3,4,5,6,7,8,9,10,11,12,13,14,15,16,17],[17,19])])
def impl_FlyPath_spans.B21:List Nat:=[0,0,0,0,12,28,60,0,0,256,896,1920,3968,0,8192,24576,65408,131068,262143,524287,1048575]
theorem impl_FlyPath_spans.tab21:rtab .any (opsOf Try.f27 21)=impl_FlyPath_spans.T21:=by kernel_rfl
theorem impl_FlyPath_spans.bits21:waitsOk impl_FlyPath_spans.T21.2 impl_FlyPath_spans.B21=true:=by kernel_rfl
set_option maxHeartbeats 8000000 in
set_option maxRecDepth 100000 in
theorem impl_FlyPath_spans.calls (k:Nat) (b1:Int) (a9:Int) (g2:Option Addr) (f9:Nat) (a5:List (S43)) (b4:Int) (b5:Int) (A1:Option Addr) (c1:Nat) (l1:List Int) (r1:List (S49)) (r2:Bool) (w:World) (hr0_2:Kd.C k43 w g2 a5.length a5) (hc0_2:a5.length≤f9) (hr1:Kd.C (Kd.int .i64) w A1 l1.length l1) (hc1:l1.length≤c1) (h:impl_FlyPath_spans.f k b1 a9 a5 b4 b5 l1=some (r1,r2)):
 Calls Try.prog 27 #[.agg #[.int .i64 b1,.int .i64 a9,.slice g2 a5.length f9,.int .i64 b4,.int .i64 b5],.slice A1 l1.length c1] w fun e w'=> ∃v0_:Value,e= .returned (.tuple #[v0_,.bool r2])∧Kd.R k49 49 w' w.heap.size (fun _=>True) v0_ r1∧Below w.heap.size w w':=by
 have aq:=Try.underlying27;have ar:=Try.underlying49;have j6:=zA hr0_2;have H1:=zA hc0_2;clear hr0_2 hc0_2;have Z4:=zA hr1;have cq:=zA hc1;clear hr1 hc1;have HB:=zA (Below.refl w.heap.size w);have H:=h;clear h;unfold impl_FlyPath_spans.f at H;obtain⟨H2,o8⟩: ∃j_:Int,(wrap64 ((a5.length:Int)+1))=j_:=⟨_,rfl⟩
 first|rw[o8]at H|simp only[o8]at H
 have Z5:(IntKind.i64.wrap ((a5.length:Int)+1))=H2:=(i64_w _).trans o8
 by_cases c4:0≤(H2)
 rotate_left
 ·rw[if_neg c4]at H
  exact absurd H (by simp)
 rw[if_pos c4]at H;have P4:=eq_true c4;have P5:decide (0≤(H2))=true:=decide_eq_true c4;clear c4
 by_cases c5:(H2:Int).toNat≤17592186044416
 rotate_left
 ·rw[if_neg c5]at H
  exact absurd H (by simp)
 rw[if_pos c5]at H;have P6:=eq_true c5;have P7:decide ((H2:Int).toNat≤17592186044416)=true:=decide_eq_true c5;clear c5;obtain⟨h6,k5⟩: ∃y_:List (S49),y_=(List.replicate (H2:Int).toNat z49):=⟨_,rfl⟩
 replace H:(impl_FlyPath_spans.l0 k l1 (a5.length:Int) h6 (h6.length:Int) 0 b1 a9 a5 b4 b5)=some (r1,r2):=by first|(rw[k5];with_reducible exact H)|(have H2_:=(Option.bind_some _ _).symm.trans H;rw[k5];with_reducible exact H2_)|(have H2_:=(Option.bind_some _ _).symm.trans H;with_reducible exact H2_)|with_reducible exact H|(rw[k5];exact H)|exact H
 have H3:=zA k5;clear k5;have H':=zA H;clear H
 go_enter Try.func27,Try.ntmps27
 go_wp2_with (first|((with_reducible refine gate_dst (N:=2) rfl ?_);refine zbx 2 #[.int .i64 b1,.int .i64 a9,.slice g2 a5.length f9,.int .i64 b4,.int .i64 b5] 27 ?_;intro a4 hg w6 hbox hb;have a1:=zA hbox;have Z6:=zgs hg (zs0 HB);have b8:=zgs hg (zs0 HB);replace HB:=zE (zs0 HB) hb;clear hb hbox hg;obtain⟨o9,p0,p3,p8,p9⟩:=zd5 a1;obtain⟨q0,q3,q8,q9,r0⟩:=zn5 a1)|((with_reducible refine gate_dst (N:=18) rfl ?_);refine Kd.R_make k49 _ 49 rfl (N:=18) rfl 45 _ _ rfl H2 rfl rfl Try.underlying45 (.agg #[(.int .i64 0),(.int .i64 0)]) 16 info49 rfl (by decide) (by omega) z49 (ok:=fun _=>True) (okp:=fun _=>True) (k49_mkM _ _ _ z49) (fun _ hk=>hk) trivial (za) (Nat.le_trans (Nat.mul_le_mul_right _ (za:H2.toNat≤17592186044416)) (by omega)) (Below.refl _ _) (Nat.le_refl _) ?_;intro au w8 P8 hb hg_ hnew_;clear hg_ hnew_;(first|rw[←H3.out]at P8|(simp only[Int.reduceToNat]at P8;rw[←H3.out]at P8));have H4:=zA (Kd.R_lower P8 (below_size (zs1 HB b8)));replace a1:=zb a1 hb;replace HB:=zE (zs1 HB b8) hb;clear hb P8;obtain⟨Ao10,co10,W9⟩:=Kd.R_slice H4.out;subst W9))
 go_loopg [21] k (fun kq av w'=> ∃(b0:List (S49)) (a0:Int),av= .int .i64 a0∧Aside0 (impl_FlyPath_spans.l0 kq l1 (a5.length:Int) b0 (h6.length:Int) a0 b1 a9 a5 b4 b5=some (r1,r2))∧Aside0 (kq≤k)∧Aside0 (Kd.R k49 49 w' w.heap.size (fun _=>True) (.slice Ao10 h6.length co10) b0)∧Aside0 (w'.heap[a4]?=some (.cells #[.int .i64 b1,.int .i64 a9,(.slice g2 a5.length f9),.int .i64 b4,.int .i64 b5] 27 (0,0)))∧Aside0 (Below w.heap.size w w'))
 case atStart=>exact⟨(h6),(0),zi,H',⟨Nat.le_refl _⟩,⟨zr H4⟩,⟨zh a1⟩,⟨zs1 HB b8⟩⟩
 case round=>
  clear H'
  try clear c1
  try clear c2
  try clear p2
  try clear c4
  try clear P4
  try clear P5
  try clear c5
  try clear P6
  try clear P7
  try clear p6
  try clear o9 p0 p3 p8 p9 q0 q3 q8 q9 r0
  obtain⟨b0,a0,rfl,HA,o0,HO_7,a1,HB⟩:=hrel;have hl7_1:=(Kd.R_reads' HO_7.out).1;rw[hl7_1]at HO_7;(try simp only[hl7_1]);(try simp only[hl7_1]at a1)
  cases gk with
  |zero=>exact absurd HA.out (by simp[impl_FlyPath_spans.l0])
  |succ k1=>
   have H:=HA.out;clear HA;simp only[impl_FlyPath_spans.l0]at H
   by_cases K2:a0<(h6.length:Int)
   ·rw[if_pos K2]at H
    have k6:decide (a0<(h6.length:Int))=true:=decide_eq_true K2;clear K2;replace H:=Option.bind_eq_some_iff.mp H;obtain⟨⟨i2,i0⟩,P9,H⟩:=H;replace H:(if 0≤a0 then(if a0<(b0.length:Int)then((some (b0.set (a0:Int).toNat (⟨i2,(rd_T49 b0 a0).f1⟩:S49):List (S49))).bind fun g1=>((some (g1.set (a0:Int).toNat (⟨(rd_T49 g1 a0).f0,i0⟩:S49):List (S49))).bind fun b9=>(if a0<(l1.length:Int)then((some (b9.set (a0:Int).toNat (⟨mx ((rd_T49 b9 a0).f0) (rd l1 a0),(rd_T49 b9 a0).f1⟩:S49):List (S49))).bind fun h7=>(impl_FlyPath_spans.l0 k1 l1 (a5.length:Int) (h7.set (a0:Int).toNat (⟨(rd_T49 h7 a0).f0,mn ((rd_T49 b9 a0).f1) (rd l1 a0)⟩:S49)) (h6.length:Int) (wrap64 (a0+1)) b1 a9 a5 b4 b5))else(impl_FlyPath_spans.l0 k1 l1 (a5.length:Int) b9 (h6.length:Int) (wrap64 (a0+1)) b1 a9 a5 b4 b5))))else(none))else(none))=some (r1,r2):=H;have V4:=zA P9;clear P9;replace H:=zif H;obtain⟨Q0,H⟩:=H
    by_cases Q1:a0<(b0.length:Int)
    rotate_left
    ·rw[if_neg Q1]at H
     exact absurd H (by simp)
    rw[if_pos Q1]at H;have Q2:decide (a0<(b0.length:Int))=true:=decide_eq_true Q1;clear Q1;obtain⟨g1,k7⟩: ∃y_:List (S49),y_=(b0.set (a0:Int).toNat (⟨i2,(rd_T49 b0 a0).f1⟩:S49)):=⟨_,rfl⟩
    replace H:((some (g1.set (a0:Int).toNat (⟨(rd_T49 g1 a0).f0,i0⟩:S49):List (S49))).bind fun b9=>(if a0<(l1.length:Int)then((some (b9.set (a0:Int).toNat (⟨mx ((rd_T49 b9 a0).f0) (rd l1 a0),(rd_T49 b9 a0).f1⟩:S49):List (S49))).bind fun h7=>(impl_FlyPath_spans.l0 k1 l1 (a5.length:Int) (h7.set (a0:Int).toNat (⟨(rd_T49 h7 a0).f0,mn ((rd_T49 b9 a0).f1) (rd l1 a0)⟩:S49)) (h6.length:Int) (wrap64 (a0+1)) b1 a9 a5 b4 b5))else(impl_FlyPath_spans.l0 k1 l1 (a5.length:Int) b9 (h6.length:Int) (wrap64 (a0+1)) b1 a9 a5 b4 b5)))=some (r1,r2):=by first|(rw[k7];with_reducible exact H)|(have H2_:=(Option.bind_some _ _).symm.trans H;rw[k7];with_reducible exact H2_)|(have H2_:=(Option.bind_some _ _).symm.trans H;with_reducible exact H2_)|with_reducible exact H|(rw[k7];exact H)|exact H
    have o1:=zA k7;clear k7;obtain⟨b9,k8⟩: ∃y_:List (S49),y_=(g1.set (a0:Int).toNat (⟨(rd_T49 g1 a0).f0,i0⟩:S49)):=⟨_,rfl⟩
    replace H:(if a0<(l1.length:Int)then((some (b9.set (a0:Int).toNat (⟨mx ((rd_T49 b9 a0).f0) (rd l1 a0),(rd_T49 b9 a0).f1⟩:S49):List (S49))).bind fun h7=>(impl_FlyPath_spans.l0 k1 l1 (a5.length:Int) (h7.set (a0:Int).toNat (⟨(rd_T49 h7 a0).f0,mn ((rd_T49 b9 a0).f1) (rd l1 a0)⟩:S49)) (h6.length:Int) (wrap64 (a0+1)) b1 a9 a5 b4 b5))else(impl_FlyPath_spans.l0 k1 l1 (a5.length:Int) b9 (h6.length:Int) (wrap64 (a0+1)) b1 a9 a5 b4 b5))=some (r1,r2):=by first|(rw[k8];with_reducible exact H)|(have H2_:=(Option.bind_some _ _).symm.trans H;rw[k8];with_reducible exact H2_)|(have H2_:=(Option.bind_some _ _).symm.trans H;with_reducible exact H2_)|with_reducible exact H|(rw[k8];exact H)|exact H
    have o2:=zA k8;clear k8
    by_cases K3:a0<(l1.length:Int)
    rotate_left
    ·rw[if_neg K3]at H
     have H5:decide (a0<(l1.length:Int))=false:=decide_eq_false K3;clear K3;have H':=zA H;clear H;obtain⟨x9,y0,y1,y2,y3⟩:=zd5 a1;obtain⟨y4,y5,y6,y7,y8⟩:=zn5 a1
     go_wp2_with (first|((with_reducible refine gate_callee (f:=32) rfl ?_);refine zgl (N:=some 31) Try.func32 #[.agg #[.int .i64 b1,.int .i64 a9,.slice g2 a5.length f9,.int .i64 b4,.int .i64 b5],.int .i64 a0] ?_;(with_reducible refine(impl_FlyPath_bound.calls b1 a9 _ _ a5 b4 b5 a0 i2 i0 _ ?side1 ?side2 V4.out).mono ?_);(case side1=>exact zC j6 HB);(case side2=>exact H1.out);rintro e K4 ⟨rfl,hb⟩;refine⟨_,rfl,?_⟩;replace HO_7:=zA (Kd.R_below (zr HO_7) hb);replace a1:=zb a1 hb;replace HB:=zE (zs1 HB b8) hb;(try clear hb);(try clear hb2);(try clear hk);(try clear hi);have y9:0≤(a0:Int):=za;have z0:(a0:Int)<((b0.length:Int):Int):=za;obtain⟨b6,co15,r3,r4,gl15,cl15,HG15⟩:=Kd.R_form HO_7.out (by omega);(first|cases r3|(injection r3 with ea_ en_ ec_;(first|subst ea_|(injection ea_ with ea_;subst ea_));subst ec_;clear en_));have GB15:=zA r4;have X0:=zA HG15;clear r4 gl15 HG15;obtain⟨X1,r5,hM15,i3,i4⟩:=Kd.R_elem HO_7.out z49 (a0:Int) y9 z0;obtain rfl:=k49_openM hM15;have r6:K4.cell? ⟨b6,(a0:Int).toNat*2,none⟩=some (.int .i64 ((rd_T49 b0 a0).f0)):=i3 0 _ rfl;have r7:K4.cell? ⟨b6,(a0:Int).toNat*2+1,none⟩=some (.int .i64 ((rd_T49 b0 a0).f1)):=i3 1 _ rfl;have K5:K4.frozen? ⟨b6,(a0:Int).toNat*2,none⟩=false:=i4 0;have K6:K4.frozen? ⟨b6,(a0:Int).toNat*2+1,none⟩=false:=i4 1;clear r5 i3 i4 hM15;replace y9:=eq_true y9;replace z0:=eq_true z0;have HX33:=zA (show Kd.R k49 49 K4 w.heap.size (fun _=>True) (.slice (some ⟨b6,0,none⟩) b0.length co10) b0 from(zr HO_7));obtain⟨aw,H6,hM33,r8,H7⟩:=Kd.R_elem HX33.out z49 (a0:Int) (za) (by have h_:(a0:Int)<((b0.length:Int):Int):=za;first|exact h_|(have e_:=(Kd.R_reads' HO_7.out).1;omega)|simpa using h_);obtain rfl:=k49_openM hM33;have K7:=Kd.R_seg HX33.out (a0:Int) (za) (by have h_:(a0:Int)<((b0.length:Int):Int):=za;first|exact h_|(have e_:=(Kd.R_reads' HO_7.out).1;omega)|simpa using h_) (seg:=[.int .i64 i2]) (j:=0) H6 r8 (show 1≤2 from by decide) (x':=(⟨i2,(rd_T49 b0 a0).f1⟩:S49)) (k49_mkM _ _ _ (⟨i2,(rd_T49 b0 a0).f1⟩:S49)) (fun _ hk=>hk);have r9:=r8 0 _ rfl;(try simp only[show(k49).sz=2 from rfl,Nat.mul_one,Nat.add_zero]at r9);have K8:=H7 0;(try simp only[show(k49).sz=2 from rfl,Nat.mul_one,Nat.add_zero]at K8);clear H6 r8 H7 hM33)|((with_reducible refine gate_store (t:=3) (p:=35) rfl ?_);refine store_event (t:=3) (p:=35) (v:=?vo_w34) (w1:=(K4.setCell ⟨b6,(a0:Int).toNat*2,none⟩ (.int .i64 i2))) ?hg ?ho ?hn ?hr ?_;(case ho=>rfl);(case hg=>rfl);(case hn=>rfl);(case hr=>first|(go_simp;done)|(go_simp;rfl));intro x6 hw;have hg:K4.grownBy x6 (some b6):=(by rw[hw];exact K7.2);have hp_:Kd.R k49 49 x6 w.heap.size (fun _=>True) (.slice (some ⟨b6,0,none⟩) b0.length co10) g1:=(by rw[hw,o1.out];exact K7.1);clear K7;replace a1:=zA (blk_grown (g:=a4) (o:= .cells #[.int .i64 b1,.int .i64 a9,.slice g2 a5.length f9,.int .i64 b4,.int .i64 b5] 27 (0,0)) (zh a1) hg (Kd.R_ne HO_7.out a1.out (by decide)));replace HO_7:=zA (hp_);replace HB:=zA ((by rw[hw];exact below_set (HB.out) GB15.out:Below w.heap.size w x6));clear hg hw hp_;have z1:0≤(a0:Int):=za;have z2:(a0:Int)<((b0.length:Int):Int):=za;obtain⟨X2,s0,hM16,i5,i6⟩:=Kd.R_elem HO_7.out z49 (a0:Int) z1 z2;obtain rfl:=k49_openM hM16;have s1:x6.cell? ⟨b6,(a0:Int).toNat*2,none⟩=some (.int .i64 ((rd_T49 g1 a0).f0)):=i5 0 _ rfl;have s2:x6.cell? ⟨b6,(a0:Int).toNat*2+1,none⟩=some (.int .i64 ((rd_T49 g1 a0).f1)):=i5 1 _ rfl;have K9:x6.frozen? ⟨b6,(a0:Int).toNat*2,none⟩=false:=i6 0;have L0:x6.frozen? ⟨b6,(a0:Int).toNat*2+1,none⟩=false:=i6 1;clear s0 i5 i6 hM16;replace z1:=eq_true z1;replace z2:=eq_true z2;have HX35:=zA (show Kd.R k49 49 x6 w.heap.size (fun _=>True) (.slice (some ⟨b6,0,none⟩) b0.length co10) g1 from(zr HO_7));obtain⟨ax,H8,hM35,s3,H9⟩:=Kd.R_elem HX35.out z49 (a0:Int) (za) (by have h_:(a0:Int)<((b0.length:Int):Int):=za;first|exact h_|(have e_:=(Kd.R_reads' HO_7.out).1;omega)|simpa using h_);obtain rfl:=k49_openM hM35;have L1:=Kd.R_seg HX35.out (a0:Int) (za) (by have h_:(a0:Int)<((b0.length:Int):Int):=za;first|exact h_|(have e_:=(Kd.R_reads' HO_7.out).1;omega)|simpa using h_) (seg:=[.int .i64 i0]) (j:=1) H8 s3 (show 2≤2 from by decide) (x':=(⟨(rd_T49 g1 a0).f0,i0⟩:S49)) (k49_mkM _ _ _ (⟨(rd_T49 g1 a0).f0,i0⟩:S49)) (fun _ hk=>hk);have s4:=s3 1 _ rfl;(try simp only[show(k49).sz=2 from rfl,Nat.mul_one,Nat.add_zero]at s4);have L2:=H9 1;(try simp only[show(k49).sz=2 from rfl,Nat.mul_one,Nat.add_zero]at L2);clear H8 s3 H9 hM35)|((with_reducible refine gate_store (t:=3) (p:=37) rfl ?_);refine store_event (t:=3) (p:=37) (v:=?vo_w36) (w1:=(x6.setCell ⟨b6,(a0:Int).toNat*2+1,none⟩ (.int .i64 i0))) ?hg ?ho ?hn ?hr ?_;(case ho=>rfl);(case hg=>rfl);(case hn=>rfl);(case hr=>first|(go_simp;done)|(go_simp;rfl));intro X3 hw;have hg:x6.grownBy X3 (some b6):=(by rw[hw];exact L1.2);have hp_:Kd.R k49 49 X3 w.heap.size (fun _=>True) (.slice (some ⟨b6,0,none⟩) b0.length co10) b9:=(by rw[hw,o2.out];exact L1.1);clear L1;replace a1:=zA (blk_grown (g:=a4) (o:= .cells #[.int .i64 b1,.int .i64 a9,.slice g2 a5.length f9,.int .i64 b4,.int .i64 b5] 27 (0,0)) (zh a1) hg (Kd.R_ne HO_7.out a1.out (by decide)));replace HO_7:=zA (hp_);replace HB:=zA ((by rw[hw];exact below_set (HB.out) GB15.out:Below w.heap.size w X3));clear hg hw hp_))
     (try simp only[←hl7_1])
     go_roundg k1
     case measure=>have:=o0.out;omega
     case rel=>exact⟨(b9),(wrap64 (a0+1)),zi,H',⟨by have:=o0.out;omega⟩,⟨by(try simp only[hl7_1]);(with_reducible repeat(first|apply Kd.R_alloc|apply Kd.R_drewN|apply Kd.R_drew));exact HO_7.out⟩,⟨by(try simp only[hl7_1]);(with_reducible repeat(first|refine blk_drewN ?_ _|refine blk_drew ?_|refine blk_alloc ?_ _));exact a1.out⟩,⟨zs1 HB b8⟩⟩
    rw[if_pos K3]at H;have H5:decide (a0<(l1.length:Int))=true:=decide_eq_true K3;clear K3;obtain⟨s5,o3⟩: ∃j_:Int,(mx ((rd_T49 b9 a0).f0) (rd l1 a0))=j_:=⟨_,rfl⟩
    first|rw[o3]at H|simp only[o3]at H
    (try rw[o3]at V4);have X4:(if((rd_T49 b9 a0).f0)<(rd l1 a0)then(rd l1 a0)else((rd_T49 b9 a0).f0))=s5:=o3;obtain⟨o7,o4⟩: ∃j_:Int,(mn ((rd_T49 b9 a0).f1) (rd l1 a0))=j_:=⟨_,rfl⟩
    first|rw[o4]at H|simp only[o4]at H
    (try rw[o4]at V4);have X5:(if(rd l1 a0)<((rd_T49 b9 a0).f1)then(rd l1 a0)else((rd_T49 b9 a0).f1))=o7:=o4;obtain⟨h7,k9⟩: ∃y_:List (S49),y_=(b9.set (a0:Int).toNat (⟨s5,(rd_T49 b9 a0).f1⟩:S49)):=⟨_,rfl⟩
    replace H:(impl_FlyPath_spans.l0 k1 l1 (a5.length:Int) (h7.set (a0:Int).toNat (⟨(rd_T49 h7 a0).f0,o7⟩:S49)) (h6.length:Int) (wrap64 (a0+1)) b1 a9 a5 b4 b5)=some (r1,r2):=by first|(rw[k9];with_reducible exact H)|(have H2_:=(Option.bind_some _ _).symm.trans H;rw[k9];with_reducible exact H2_)|(have H2_:=(Option.bind_some _ _).symm.trans H;with_reducible exact H2_)|with_reducible exact H|(rw[k9];exact H)|exact H
    have Q3:=zA k9;clear k9;obtain⟨Q4,l4⟩: ∃y_:List (S49),y_=(h7.set (a0:Int).toNat (⟨(rd_T49 h7 a0).f0,o7⟩:S49)):=⟨_,rfl⟩
    replace H:(impl_FlyPath_spans.l0 k1 l1 (a5.length:Int) Q4 (h6.length:Int) (wrap64 (a0+1)) b1 a9 a5 b4 b5)=some (r1,r2):=by first|(rw[l4];with_reducible exact H)|(have H2_:=(Option.bind_some _ _).symm.trans H;rw[l4];with_reducible exact H2_)|(have H2_:=(Option.bind_some _ _).symm.trans H;with_reducible exact H2_)|with_reducible exact H|(rw[l4];exact H)|exact H
    have Q5:=zA l4;clear l4;have H':=zA H;clear H;obtain⟨z3,z4,z5,z6,z7⟩:=zd5 a1;obtain⟨z8,z9,A0,A2,A3⟩:=zn5 a1
    try go_wp2_with (first|((with_reducible refine gate_callee (f:=32) rfl ?_);refine zgl (N:=some 31) Try.func32 #[.agg #[.int .i64 b1,.int .i64 a9,.slice g2 a5.length f9,.int .i64 b4,.int .i64 b5],.int .i64 a0] ?_;(with_reducible refine(impl_FlyPath_bound.calls b1 a9 _ _ a5 b4 b5 a0 i2 i0 _ ?side1 ?side2 V4.out).mono ?_);(case side1=>exact zC j6 HB);(case side2=>exact H1.out);rintro e L3 ⟨rfl,hb⟩;refine⟨_,rfl,?_⟩;replace HO_7:=zA (Kd.R_below (zr HO_7) hb);replace a1:=zb a1 hb;replace HB:=zE (zs1 HB b8) hb;(try clear hb);(try clear hb2);(try clear hk);(try clear hi);have y9:0≤(a0:Int):=za;have z0:(a0:Int)<((b0.length:Int):Int):=za;obtain⟨b6,co15,r3,r4,gl15,cl15,HG15⟩:=Kd.R_form HO_7.out (by omega);(first|cases r3|(injection r3 with ea_ en_ ec_;(first|subst ea_|(injection ea_ with ea_;subst ea_));subst ec_;clear en_));have GB15:=zA r4;have X0:=zA HG15;clear r4 gl15 HG15;obtain⟨X1,r5,hM15,i3,i4⟩:=Kd.R_elem HO_7.out z49 (a0:Int) y9 z0;obtain rfl:=k49_openM hM15;have r6:L3.cell? ⟨b6,(a0:Int).toNat*2,none⟩=some (.int .i64 ((rd_T49 b0 a0).f0)):=i3 0 _ rfl;have r7:L3.cell? ⟨b6,(a0:Int).toNat*2+1,none⟩=some (.int .i64 ((rd_T49 b0 a0).f1)):=i3 1 _ rfl;have K5:L3.frozen? ⟨b6,(a0:Int).toNat*2,none⟩=false:=i4 0;have K6:L3.frozen? ⟨b6,(a0:Int).toNat*2+1,none⟩=false:=i4 1;clear r5 i3 i4 hM15;replace y9:=eq_true y9;replace z0:=eq_true z0;have HX24:=zA (show Kd.R k49 49 L3 w.heap.size (fun _=>True) (.slice (some ⟨b6,0,none⟩) b0.length co10) b0 from(zr HO_7));obtain⟨ay,I0,hM24,s6,I1⟩:=Kd.R_elem HX24.out z49 (a0:Int) (za) (by have h_:(a0:Int)<((b0.length:Int):Int):=za;first|exact h_|(have e_:=(Kd.R_reads' HO_7.out).1;omega)|simpa using h_);obtain rfl:=k49_openM hM24;have L4:=Kd.R_seg HX24.out (a0:Int) (za) (by have h_:(a0:Int)<((b0.length:Int):Int):=za;first|exact h_|(have e_:=(Kd.R_reads' HO_7.out).1;omega)|simpa using h_) (seg:=[.int .i64 i2]) (j:=0) I0 s6 (show 1≤2 from by decide) (x':=(⟨i2,(rd_T49 b0 a0).f1⟩:S49)) (k49_mkM _ _ _ (⟨i2,(rd_T49 b0 a0).f1⟩:S49)) (fun _ hk=>hk);have s7:=s6 0 _ rfl;(try simp only[show(k49).sz=2 from rfl,Nat.mul_one,Nat.add_zero]at s7);have L5:=I1 0;(try simp only[show(k49).sz=2 from rfl,Nat.mul_one,Nat.add_zero]at L5);clear I0 s6 I1 hM24)|((with_reducible refine gate_store (t:=3) (p:=35) rfl ?_);refine store_event (t:=3) (p:=35) (v:=?vo_w25) (w1:=(L3.setCell ⟨b6,(a0:Int).toNat*2,none⟩ (.int .i64 i2))) ?hg ?ho ?hn ?hr ?_;(case ho=>rfl);(case hg=>rfl);(case hn=>rfl);(case hr=>first|(go_simp;done)|(go_simp;rfl));intro x7 hw;have hg:L3.grownBy x7 (some b6):=(by rw[hw];exact L4.2);have hp_:Kd.R k49 49 x7 w.heap.size (fun _=>True) (.slice (some ⟨b6,0,none⟩) b0.length co10) g1:=(by rw[hw,o1.out];exact L4.1);clear L4;replace a1:=zA (blk_grown (g:=a4) (o:= .cells #[.int .i64 b1,.int .i64 a9,.slice g2 a5.length f9,.int .i64 b4,.int .i64 b5] 27 (0,0)) (zh a1) hg (Kd.R_ne HO_7.out a1.out (by decide)));replace HO_7:=zA (hp_);replace HB:=zA ((by rw[hw];exact below_set (HB.out) GB15.out:Below w.heap.size w x7));clear hg hw hp_;have z1:0≤(a0:Int):=za;have z2:(a0:Int)<((b0.length:Int):Int):=za;obtain⟨X2,s0,hM16,i5,i6⟩:=Kd.R_elem HO_7.out z49 (a0:Int) z1 z2;obtain rfl:=k49_openM hM16;have s1:x7.cell? ⟨b6,(a0:Int).toNat*2,none⟩=some (.int .i64 ((rd_T49 g1 a0).f0)):=i5 0 _ rfl;have s2:x7.cell? ⟨b6,(a0:Int).toNat*2+1,none⟩=some (.int .i64 ((rd_T49 g1 a0).f1)):=i5 1 _ rfl;have K9:x7.frozen? ⟨b6,(a0:Int).toNat*2,none⟩=false:=i6 0;have L0:x7.frozen? ⟨b6,(a0:Int).toNat*2+1,none⟩=false:=i6 1;clear s0 i5 i6 hM16;replace z1:=eq_true z1;replace z2:=eq_true z2;have HX26:=zA (show Kd.R k49 49 x7 w.heap.size (fun _=>True) (.slice (some ⟨b6,0,none⟩) b0.length co10) g1 from(zr HO_7));obtain⟨az,I2,hM26,s8,I3⟩:=Kd.R_elem HX26.out z49 (a0:Int) (za) (by have h_:(a0:Int)<((b0.length:Int):Int):=za;first|exact h_|(have e_:=(Kd.R_reads' HO_7.out).1;omega)|simpa using h_);obtain rfl:=k49_openM hM26;have L6:=Kd.R_seg HX26.out (a0:Int) (za) (by have h_:(a0:Int)<((b0.length:Int):Int):=za;first|exact h_|(have e_:=(Kd.R_reads' HO_7.out).1;omega)|simpa using h_) (seg:=[.int .i64 i0]) (j:=1) I2 s8 (show 2≤2 from by decide) (x':=(⟨(rd_T49 g1 a0).f0,i0⟩:S49)) (k49_mkM _ _ _ (⟨(rd_T49 g1 a0).f0,i0⟩:S49)) (fun _ hk=>hk);have s9:=s8 1 _ rfl;(try simp only[show(k49).sz=2 from rfl,Nat.mul_one,Nat.add_zero]at s9);have L7:=I3 1;(try simp only[show(k49).sz=2 from rfl,Nat.mul_one,Nat.add_zero]at L7);clear I2 s8 I3 hM26)|((with_reducible refine gate_store (t:=3) (p:=37) rfl ?_);refine store_event (t:=3) (p:=37) (v:=?vo_w27) (w1:=(x7.setCell ⟨b6,(a0:Int).toNat*2+1,none⟩ (.int .i64 i0))) ?hg ?ho ?hn ?hr ?_;(case ho=>rfl);(case hg=>rfl);(case hn=>rfl);(case hr=>first|(go_simp;done)|(go_simp;rfl));intro V5 hw;have hg:x7.grownBy V5 (some b6):=(by rw[hw];exact L6.2);have hp_:Kd.R k49 49 V5 w.heap.size (fun _=>True) (.slice (some ⟨b6,0,none⟩) b0.length co10) b9:=(by rw[hw,o2.out];exact L6.1);clear L6;replace a1:=zA (blk_grown (g:=a4) (o:= .cells #[.int .i64 b1,.int .i64 a9,.slice g2 a5.length f9,.int .i64 b4,.int .i64 b5] 27 (0,0)) (zh a1) hg (Kd.R_ne HO_7.out a1.out (by decide)));replace HO_7:=zA (hp_);replace HB:=zA ((by rw[hw];exact below_set (HB.out) GB15.out:Below w.heap.size w V5));clear hg hw hp_))
    replace HO_7:=zA (Kd.R_drew HO_7.out);replace a1:=zA (blk_drew a1.out);replace HB:=zA (below_drew1 HB.out);have A4:0≤(a0:Int):=za;have A5:a0<(b9.length:Int):=(by have h_:(a0:Int)<((b0.length:Int):Int):=za;first|(have e_:=(Kd.R_reads' HO_7.out).1;omega)|simpa only[o1.out,o2.out,List.length_set]using h_);have ql402:((a0:Int)<((b0.length:Int):Int))=True:=eq_true (za);obtain⟨Q6,X6,g4,g5⟩:=at_T49 (Kd.R_reads' HO_7.out).2.2 a0 A4 A5;obtain rfl:(⟨b6,0,none⟩:Addr)=Q6:=(by injection X6);(first|simp only[add_plain]at g4|simp only[add_at]at g4|simp only[Addr.add,Nat.zero_add]at g4|skip);(first|simp only[add_plain]at g5|simp only[add_at]at g5|simp only[Addr.add,Nat.zero_add]at g5|skip);replace A4:=eq_true A4;replace A5:=eq_true A5;have A6:0≤(a0:Int):=za;have A7:a0<(l1.length:Int):=za;obtain⟨t0,X7,h8⟩:=Kd.at_int Z4.out a0 A6 A7;have hw403_0:=h8;cases X7;replace h8:=zx HB h8;replace A6:=eq_true A6;replace A7:=eq_true A7;have A8:0≤(a0:Int):=za;have A9:a0<(b9.length:Int):=(by have h_:(a0:Int)<((b0.length:Int):Int):=za;first|(have e_:=(Kd.R_reads' HO_7.out).1;omega)|simpa only[o1.out,o2.out,List.length_set]using h_);have ql404:((a0:Int)<((b0.length:Int):Int))=True:=eq_true (za);obtain⟨Q7,X8,g6,g7⟩:=at_T49 (Kd.R_reads' HO_7.out).2.2 a0 A8 A9;obtain rfl:(⟨b6,0,none⟩:Addr)=Q7:=(by injection X8);(first|simp only[add_plain]at g6|simp only[add_at]at g6|simp only[Addr.add,Nat.zero_add]at g6|skip);(first|simp only[add_plain]at g7|simp only[add_at]at g7|simp only[Addr.add,Nat.zero_add]at g7|skip);replace A8:=eq_true A8;replace A9:=eq_true A9;have B0:0≤(a0:Int):=za;have B1:a0<(l1.length:Int):=za;obtain⟨Q8,X9,h9⟩:=Kd.at_int Z4.out a0 B0 B1;have hw405_0:=h9;obtain rfl:t0=Q8:=(by injection X9);replace h9:=zx HB h9;replace B0:=eq_true B0;replace B1:=eq_true B1;have Q9:0≤(a0:Int):=za;have R0:(a0:Int)<((b0.length:Int):Int):=za;obtain⟨ba,R1,hM20,t1,t2⟩:=Kd.R_elem HO_7.out z49 (a0:Int) Q9 R0;obtain rfl:=k49_openM hM20;have t3:World.cell? _ ⟨b6,(a0:Int).toNat*2,none⟩=some (.int .i64 ((rd_T49 b9 a0).f0)):=t1 0 _ rfl;have t4:World.cell? _ ⟨b6,(a0:Int).toNat*2+1,none⟩=some (.int .i64 ((rd_T49 b9 a0).f1)):=t1 1 _ rfl;have L8:World.frozen? _ ⟨b6,(a0:Int).toNat*2,none⟩=false:=t2 0;have L9:World.frozen? _ ⟨b6,(a0:Int).toNat*2+1,none⟩=false:=t2 1;clear R1 t1 t2 hM20;replace Q9:=eq_true Q9;replace R0:=eq_true R0;obtain⟨bb,I4,hM29,I5,R2⟩:=Kd.R_elem HO_7.out z49 (a0:Int) (za) (by have h_:(a0:Int)<((b0.length:Int):Int):=za;first|exact h_|(have e_:=(Kd.R_reads' HO_7.out).1;omega)|simpa using h_);obtain rfl:=k49_openM hM29;have M0:=(Kd.R_seg HO_7.out (a0:Int) (za) (by have h_:(a0:Int)<((b0.length:Int):Int):=za;first|exact h_|(have e_:=(Kd.R_reads' HO_7.out).1;omega)|simpa using h_) (seg:=[.int .i64 s5]) (j:=0) I4 I5 (show 1≤2 from by decide) (x':=(⟨s5,(rd_T49 b9 a0).f1⟩:S49)) (k49_mkM _ _ _ (⟨s5,(rd_T49 b9 a0).f1⟩:S49)) (fun _ hk=>hk)).1;rw[←Q3.out]at M0;have M1:=zA M0;clear I4 I5 R2 hM29 M0;have V6:0≤(a0:Int):=za;have V7:(a0:Int)<((b0.length:Int):Int):=za;replace V6:=eq_true V6;replace V7:=eq_true V7;obtain⟨bc,I6,hM30,I7,R3⟩:=Kd.R_elem M1.out z49 (a0:Int) (za) (by have h_:(a0:Int)<((b0.length:Int):Int):=za;first|exact h_|(have e_:=(Kd.R_reads' HO_7.out).1;omega)|simpa using h_);obtain rfl:=k49_openM hM30;have M2:=(Kd.R_seg M1.out (a0:Int) (za) (by have h_:(a0:Int)<((b0.length:Int):Int):=za;first|exact h_|(have e_:=(Kd.R_reads' HO_7.out).1;omega)|simpa using h_) (seg:=[.int .i64 o7]) (j:=1) I6 I7 (show 2≤2 from by decide) (x':=(⟨(rd_T49 h7 a0).f0,o7⟩:S49)) (k49_mkM _ _ _ (⟨(rd_T49 h7 a0).f0,o7⟩:S49)) (fun _ hk=>hk)).1;rw[←Q5.out]at M2;have R4:=zA M2;clear I6 I7 R3 hM30 M2;refine start_ (n:=30) (S:=fun w'=>w'.cell? ⟨b6,(a0).toNat*2,none⟩=some (.int .i64 ((rd_T49 b9 a0).f0))∧w'.cell? ⟨b6,(a0).toNat*2+1,none⟩=some (.int .i64 ((rd_T49 b9 a0).f1))∧w'.cell? (t0.add (a0).toNat)=some (.int .i64 (rd l1 a0))∧w'.cell? ⟨b6,(a0).toNat*2,none⟩=some (.int .i64 ((rd_T49 b9 a0).f0))∧w'.cell? ⟨b6,(a0).toNat*2+1,none⟩=some (.int .i64 ((rd_T49 b9 a0).f1))∧w'.cell? (t0.add (a0).toNat)=some (.int .i64 (rd l1 a0))) (ds:=[26,29]) #[F,F,F,F,F,F,F,F,F,F,F,F,F,F,F,F,F,F,F,F,F,F,F,F,F,F,F,F,F,F] (by kernel_rfl) rfl rfl ⟨g4,g5,(zw HB hw403_0),g6,g7,(zw HB hw405_0)⟩ (fun hHeld=>?_);refine with_tabW impl_FlyPath_spans.tab8 impl_FlyPath_spans.bits8 (fun HT_ HW_=>?_)
    generalize V5.drew=cr at HO_7 a1 HB M1 R4 L8 L9 t3 t4 g4 g5 h8 g6 g7 h9 hHeld⊢;refine zq HT_ 0 ?_;refine zq HT_ 1 ?_;refine zq HT_ 2 ?_;refine zq HT_ 3 ?_;refine zq HT_ 4 ?_;refine zq HT_ 5 ?_;refine zq HT_ 6 ?_;refine zq HT_ 7 ?_;refine zq HT_ 9 ?_;refine zq HT_ 10 ?_;refine zq HT_ 11 ?_;refine zq HT_ 14 ?_;refine zq HT_ 15 ?_;refine zq HT_ 16 ?_;refine zq HT_ 17 ?_;refine zq HT_ 19 ?_;refine zq HT_ 20 ?_;refine zq HT_ 21 ?_;refine zk6 HT_ HW_ hHeld 8 ?_;refine zk6 HT_ HW_ hHeld 12 ?_;refine zq HT_ 13 ?_;refine zk6 HT_ HW_ hHeld 18 ?_;refine zk6 HT_ HW_ hHeld 22 ?_;refine zq HT_ 23 ?_;refine zq HT_ 24 ?_;refine zq HT_ 25 ?_;refine zO HT_ 26 (fun K hK=>?_);refine skip_ (w1:=?_) (by rfl) rfl ?_ ?_;rotate_left
    ·go_simp
     rfl
    refine hK.out _ _ ?_;clear hK K;refine zq HT_ 27 ?_;refine zq HT_ 28 ?_;refine zO HT_ 29 (fun K hK=>?_);refine skip_ (w1:=?_) (by rfl) rfl ?_ ?_;rotate_left
    ·go_simp
     rfl
    refine hK.out _ _ ?_;clear hK K;refine done_ (done_of HT_.out (by kernel_rfl)) ?_
    try go_wp2
    (try simp only[←hl7_1])
    go_roundg k1
    case measure=>have:=o0.out;omega
    case rel=>exact⟨(Q4),(wrap64 (a0+1)),zi,H',⟨by have:=o0.out;omega⟩,⟨by(try simp only[hl7_1]);(with_reducible repeat(first|apply Kd.R_alloc|apply Kd.R_drewN|apply Kd.R_drew));exact R4.out⟩,⟨by(try simp only[hl7_1]);(with_reducible repeat(first|refine blk_drewN ?_ _|refine blk_drew ?_|refine blk_alloc ?_ _));refine blk_far ?_ (by have h_:=Kd.R_ne HO_7.out a1.out (by decide);intro e_;exact h_ (by rw[e_];rfl)) _;(with_reducible repeat(first|refine blk_drewN ?_ _|refine blk_drew ?_|refine blk_alloc ?_ _));refine blk_far ?_ (by have h_:=Kd.R_ne HO_7.out a1.out (by decide);intro e_;exact h_ (by rw[e_];rfl)) _;(with_reducible repeat(first|refine blk_drewN ?_ _|refine blk_drew ?_|refine blk_alloc ?_ _));exact a1.out⟩,⟨zs3 HB GB15 GB15 b8⟩⟩
   rw[if_neg K2]at H;have k6:decide (a0<(h6.length:Int))=false:=decide_eq_false K2;(try rw[hl7_1]at k6);(try rw[hl7_2]at k6);(try rw[hl7_3]at k6);clear K2;have H':=zA H;clear H
   go_wp2
   go_loopg [9] k1 (fun kq v9 w'=> ∃(b2:List (S49)) (a3:Int),v9= .int .i64 a3∧Aside0 (impl_FlyPath_spans.l1 kq (a5.length:Int) b2 a3 b1 a9 a5 b4 b5=some (r1,r2))∧Aside0 (kq≤k1)∧Aside0 (Kd.R k49 49 w' w.heap.size (fun _=>True) (.slice Ao10 b0.length co10) b2)∧Aside0 (w'.heap[a4]?=some (.cells #[.int .i64 b1,.int .i64 a9,(.slice g2 a5.length f9),.int .i64 b4,.int .i64 b5] 27 (0,0)))∧Aside0 (Below w.heap.size w w'))
   case atStart=>exact⟨(b0),(1),zi,H',⟨Nat.le_refl _⟩,⟨by(try simp only[hl7_1]);(with_reducible repeat(first|apply Kd.R_alloc|apply Kd.R_drewN|apply Kd.R_drew));exact HO_7.out⟩,⟨by(try simp only[hl7_1]);(with_reducible repeat(first|refine blk_drewN ?_ _|refine blk_drew ?_|refine blk_alloc ?_ _));exact a1.out⟩,⟨zs1 HB b8⟩⟩
   case round=>
    clear H'
    try clear c1
    try clear p1
    try clear q1
    try clear cs
    try clear c2
    try clear p2
    try clear q2
    try clear ct
    try clear cu
    try clear c3
    try clear cv
    try clear cw
    try clear c4
    try clear P4
    try clear P5
    try clear p4
    try clear q4
    try clear Z7
    try clear c5
    try clear P6
    try clear P7
    try clear p6
    try clear K2
    try clear k6
    try clear cx
    try clear Q0
    try clear Q1
    try clear Q2
    try clear cy
    try clear y9
    try clear z0
    try clear bd
    try clear be
    try clear cz
    try clear z1
    try clear z2
    try clear bf
    try clear bg
    try clear K3
    try clear H5
    try clear da
    try clear Q9
    try clear R0
    try clear bh
    try clear bi
    try clear V6
    try clear V7
    try clear db
    try clear bj
    try clear bk
    try clear dc
    try clear bl
    try clear bm
    try clear dd
    try clear de
    try clear df
    try clear dg
    try clear dh
    try clear bn
    try clear bo
    try clear di
    try clear bp
    try clear bq
    try clear z3 z4 z5 z6 z7
    try clear x9 y0 y1 y2 y3
    try clear o9 p0 p3 p8 p9
    try clear z8 z9 A0 A2 A3
    try clear y4 y5 y6 y7 y8
    try clear q0 q3 q8 q9 r0
    try clear r6
    try clear r7
    try clear s1
    try clear s2
    try clear t3
    try clear t4
    try clear s7
    try clear s9
    try clear r9
    try clear s4
    try clear g4
    try clear g5
    try clear h8
    try clear g6
    try clear g7
    try clear h9
    try clear y9
    try clear z1
    try clear p2
    try clear Q9
    try clear V6
    try clear A4
    try clear A6
    try clear A8
    try clear B0
    try clear p6
    try clear z0
    try clear z2
    try clear R0
    try clear V7
    try clear A5
    try clear A7
    try clear A9
    try clear B1
    obtain⟨b2,a3,rfl,HA,x8,HO_7,a1,HB⟩:=hrel;have hl7_2:=(Kd.R_reads' HO_7.out).1;rw[hl7_2]at HO_7;(try simp only[hl7_2]);(try simp only[hl7_2]at a1)
    cases gk with
    |zero=>exact absurd HA.out (by simp[impl_FlyPath_spans.l1])
    |succ k2=>
     have H:=HA.out;clear HA;simp only[impl_FlyPath_spans.l1]at H
     by_cases M3:a3≤(a5.length:Int)
     ·rw[if_pos M3]at H
      have I8:decide (a3≤(a5.length:Int))=true:=decide_eq_true M3;clear M3;replace H:=zif H;obtain⟨Z8,H⟩:=H
      by_cases R5:a3<(b2.length:Int)
      rotate_left
      ·rw[if_neg R5]at H
       exact absurd H (by simp)
      rw[if_pos R5]at H;have Z9:decide (a3<(b2.length:Int))=true:=decide_eq_true R5;clear R5;obtain⟨b7,t5⟩: ∃j_:Int,(wrap64 (a3-1))=j_:=⟨_,rfl⟩
      first|rw[t5]at H|simp only[t5]at H
      have Y0:(IntKind.i64.wrap (a3-1))=b7:=(i64_w _).trans t5;replace H:=zif H;obtain⟨aa,H⟩:=H
      by_cases R6:(b7)<(b2.length:Int)
      rotate_left
      ·rw[if_neg R6]at H
       exact absurd H (by simp)
      rw[if_pos R6]at H;have ab:decide ((b7)<(b2.length:Int))=true:=decide_eq_true R6;clear R6;obtain⟨d0,t6⟩: ∃j_:Int,(mx ((rd_T49 b2 a3).f0) (wrap64 (((rd_T49 b2 (b7)).f0)+b1)))=j_:=⟨_,rfl⟩
      first|rw[t6]at H|simp only[t6]at H
      have Y1:(if((rd_T49 b2 a3).f0)<(wrap64 (((rd_T49 b2 (b7)).f0)+b1))then(wrap64 (((rd_T49 b2 (b7)).f0)+b1))else((rd_T49 b2 a3).f0))=d0:=t6;obtain⟨d6,l5⟩: ∃y_:List (S49),y_=(b2.set (a3:Int).toNat (⟨d0,(rd_T49 b2 a3).f1⟩:S49)):=⟨_,rfl⟩
      replace H:(if(b7)<(a5.length:Int)then(if((rd_T43 a5 (b7)).f6=true)then(impl_FlyPath_spans.l1 k2 (a5.length:Int) d6 (wrap64 (a3+1)) b1 a9 a5 b4 b5)else(impl_FlyPath_spans.l1 k2 (a5.length:Int) (d6.set (a3:Int).toNat (⟨(rd_T49 d6 a3).f0,mn ((rd_T49 d6 a3).f1) (wrap64 (((rd_T49 d6 (b7)).f1)+a9))⟩:S49)) (wrap64 (a3+1)) b1 a9 a5 b4 b5))else(none))=some (r1,r2):=by first|(rw[l5];with_reducible exact H)|(have H2_:=(Option.bind_some _ _).symm.trans H;rw[l5];with_reducible exact H2_)|(have H2_:=(Option.bind_some _ _).symm.trans H;with_reducible exact H2_)|with_reducible exact H|(rw[l5];exact H)|exact H
      have o5:=zA l5;clear l5;replace H:=zif H;obtain⟨ad,H⟩:=H;obtain⟨bq46,hbq46⟩: ∃b_:Bool,b_=((rd_T43 a5 (b7)).f6):=⟨_,rfl⟩
      replace H:(if(bq46=true)then(impl_FlyPath_spans.l1 k2 (a5.length:Int) d6 (wrap64 (a3+1)) b1 a9 a5 b4 b5)else(impl_FlyPath_spans.l1 k2 (a5.length:Int) (d6.set (a3:Int).toNat (⟨(rd_T49 d6 a3).f0,mn ((rd_T49 d6 a3).f1) (wrap64 (((rd_T49 d6 (b7)).f1)+a9))⟩:S49)) (wrap64 (a3+1)) b1 a9 a5 b4 b5))=some (r1,r2):=by rw[←hbq46]at H;exact H
      have Nbq46:=zA hbq46;clear hbq46
      by_cases R7:(bq46=true)
      ·subst R7
       rw[if_pos rfl]at H;have H':=zA H;clear H
       try go_wp2
       replace HO_7:=zA (Kd.R_drew HO_7.out);replace a1:=zA (blk_drew a1.out);replace HB:=zA (below_drew1 HB.out);have l6:0≤(a3:Int):=za;have l7:a3<(b2.length:Int):=za;obtain⟨t7,M4,e8,e9⟩:=at_T49 (Kd.R_reads' HO_7.out).2.2 a3 l6 l7;cases M4;replace l6:=eq_true l6;replace l7:=eq_true l7;have l8:0≤((b7):Int):=za;have l9:(b7)<(b2.length:Int):=za;obtain⟨t8,M5,f2,f3⟩:=at_T49 (Kd.R_reads' HO_7.out).2.2 (b7) l8 l9;obtain rfl:t7=t8:=(by injection M5);replace l8:=eq_true l8;replace l9:=eq_true l9;have B2:0≤(a3:Int):=za;have B5:(a3:Int)<((b2.length:Int):Int):=za;obtain⟨a7,co44,t9,v0,gl44,cl44,HG44⟩:=Kd.R_form HO_7.out (by omega);(first|cases t9|(injection t9 with ea_ en_ ec_;(first|subst ea_|(injection ea_ with ea_;subst ea_));subst ec_;clear en_));have GB44:=zA v0;have M6:=zA HG44;clear v0 gl44 HG44;(first|simp only[add_plain]at e8|skip);(first|simp only[add_plain]at e9|skip);(first|simp only[add_plain]at f2|skip);(first|simp only[add_plain]at f3|skip);obtain⟨Y2,v1,hM44,i7,i8⟩:=Kd.R_elem HO_7.out z49 (a3:Int) B2 B5;obtain rfl:=k49_openM hM44;have j7:World.cell? _ ⟨a7,(a3:Int).toNat*2,none⟩=some (.int .i64 ((rd_T49 b2 a3).f0)):=i7 0 _ rfl;have j8:World.cell? _ ⟨a7,(a3:Int).toNat*2+1,none⟩=some (.int .i64 ((rd_T49 b2 a3).f1)):=i7 1 _ rfl;have n4:World.frozen? _ ⟨a7,(a3:Int).toNat*2,none⟩=false:=i8 0;have n5:World.frozen? _ ⟨a7,(a3:Int).toNat*2+1,none⟩=false:=i8 1;clear v1 i7 i8 hM44;replace B2:=eq_true B2;replace B5:=eq_true B5;obtain⟨br,I9,hM49,J0,R8⟩:=Kd.R_elem HO_7.out z49 (a3:Int) (za) (by have h_:(a3:Int)<((b2.length:Int):Int):=za;first|exact h_|(have e_:=(Kd.R_reads' HO_7.out).1;omega)|simpa using h_);obtain rfl:=k49_openM hM49;have M7:=(Kd.R_seg HO_7.out (a3:Int) (za) (by have h_:(a3:Int)<((b2.length:Int):Int):=za;first|exact h_|(have e_:=(Kd.R_reads' HO_7.out).1;omega)|simpa using h_) (seg:=[.int .i64 d0]) (j:=0) I9 J0 (show 1≤2 from by decide) (x':=(⟨d0,(rd_T49 b2 a3).f1⟩:S49)) (k49_mkM _ _ _ (⟨d0,(rd_T49 b2 a3).f1⟩:S49)) (fun _ hk=>hk)).1;rw[←o5.out]at M7;have R9:=zA M7;clear I9 J0 R8 hM49 M7;refine start_ (n:=21) (S:=fun w'=>w'.cell? ⟨a4,0,none⟩=some (.int .i64 b1)∧w'.cell? ⟨a4,1,none⟩=some (.int .i64 a9)∧w'.cell? ⟨a4,2,none⟩=some (.slice g2 a5.length f9)∧w'.cell? ⟨a4,3,none⟩=some (.int .i64 b4)∧w'.cell? ⟨a4,4,none⟩=some (.int .i64 b5)∧w'.cell? ⟨a7,((a3).toNat*2),none⟩=some (.int .i64 ((rd_T49 b2 a3).f0))∧w'.cell? ⟨a7,((a3).toNat*2)+1,none⟩=some (.int .i64 ((rd_T49 b2 a3).f1))∧w'.cell? ⟨a7,(((b7)).toNat*2),none⟩=some (.int .i64 ((rd_T49 b2 (b7)).f0))∧w'.cell? ⟨a7,(((b7)).toNat*2)+1,none⟩=some (.int .i64 ((rd_T49 b2 (b7)).f1))) (ds:=[20]) #[F,F,F,F,F,F,F,F,F,F,F,F,F,F,F,F,F,F,F,F,F] (by kernel_rfl) rfl rfl ⟨zc0 a1,zc1 a1,zc2 a1,zc3 a1,zc4 a1,e8,e9,f2,f3⟩ (fun hHeld=>?_);refine with_tabW impl_FlyPath_spans.tab13 impl_FlyPath_spans.bits13 (fun HT_ HW_=>?_);generalize wr.drew=dj at HO_7 a1 HB M6 R9 n4 n5 e8 e9 f2 f3 j7 j8 hHeld⊢;refine zq HT_ 0 ?_;refine zq HT_ 1 ?_;refine zq HT_ 2 ?_;refine zq HT_ 3 ?_;refine zq HT_ 4 ?_;refine zq HT_ 5 ?_;refine zq HT_ 7 ?_;refine zq HT_ 8 ?_;refine zq HT_ 9 ?_;refine zq HT_ 10 ?_;refine zq HT_ 11 ?_;refine zq HT_ 13 ?_;refine zq HT_ 14 ?_;refine zk9 HT_ HW_ hHeld 6 ?_;refine zk9 HT_ HW_ hHeld 12 ?_;refine zk9 HT_ HW_ hHeld 15 ?_;refine zq HT_ 16 ?_;refine zq HT_ 17 ?_;refine zq HT_ 18 ?_;refine zq HT_ 19 ?_;refine zO HT_ 20 (fun K hK=>?_);refine skip_ (w1:=?_) (by rfl) rfl ?_ ?_;rotate_left
       ·go_simp
        rfl
       refine hK.out _ _ ?_;clear hK K;refine done_ (done_of HT_.out (by kernel_rfl)) ?_;obtain⟨B9,C0,C1,C2,C3⟩:=zd5 a1;obtain⟨C4,C5,C6,C7,C8⟩:=zn5 a1;have m0:0≤((b7):Int):=za;have m1:(b7)<(a5.length:Int):=za;obtain⟨m2,M8,d2,d8,d9,e0,e1,e2,d3⟩:=at_T43 j6.out (b7) m0 m1;(try rw[←Nbq46.out]at d3);cases M8;have hn411_0:m2.block≠a7:=Nat.ne_of_lt (Nat.lt_of_lt_of_le (by have:=World.block_lt_of_cell? _ _ d2;first|rwa [add_block]at this|exact this) GB44.out);replace d2:=zx HB d2;replace d8:=zx HB d8;replace d9:=zx HB d9;replace e0:=zx HB e0;replace e1:=zx HB e1;replace e2:=zx HB e2;replace d3:=zx HB d3;replace d2:=(cell_far (p:=⟨a7,(a3:Int).toNat*2,none⟩) (by first|(rw[add_block];exact hn411_0)|(show(Addr.add _ _).block≠_;rw[add_block];exact hn411_0)|exact hn411_0) (.int .i64 d0)).trans d2;replace d8:=(cell_far (p:=⟨a7,(a3:Int).toNat*2,none⟩) (by first|(rw[add_block];exact hn411_0)|(show(Addr.add _ _).block≠_;rw[add_block];exact hn411_0)|exact hn411_0) (.int .i64 d0)).trans d8;replace d9:=(cell_far (p:=⟨a7,(a3:Int).toNat*2,none⟩) (by first|(rw[add_block];exact hn411_0)|(show(Addr.add _ _).block≠_;rw[add_block];exact hn411_0)|exact hn411_0) (.int .i64 d0)).trans d9;replace e0:=(cell_far (p:=⟨a7,(a3:Int).toNat*2,none⟩) (by first|(rw[add_block];exact hn411_0)|(show(Addr.add _ _).block≠_;rw[add_block];exact hn411_0)|exact hn411_0) (.int .i64 d0)).trans e0;replace e1:=(cell_far (p:=⟨a7,(a3:Int).toNat*2,none⟩) (by first|(rw[add_block];exact hn411_0)|(show(Addr.add _ _).block≠_;rw[add_block];exact hn411_0)|exact hn411_0) (.int .i64 d0)).trans e1;replace e2:=(cell_far (p:=⟨a7,(a3:Int).toNat*2,none⟩) (by first|(rw[add_block];exact hn411_0)|(show(Addr.add _ _).block≠_;rw[add_block];exact hn411_0)|exact hn411_0) (.int .i64 d0)).trans e2;replace d3:=(cell_far (p:=⟨a7,(a3:Int).toNat*2,none⟩) (by first|(rw[add_block];exact hn411_0)|(show(Addr.add _ _).block≠_;rw[add_block];exact hn411_0)|exact hn411_0) (.int .i64 d0)).trans d3;clear hn411_0;replace m0:=eq_true m0;replace m1:=eq_true m1;have hne_:a4≠a7:=(by have h_:=Kd.R_ne HO_7.out a1.out (by decide);intro e_;exact h_ (by rw[e_];rfl));have M9:=(cell_far (p:=⟨a7,(a3:Int).toNat*2,none⟩) (a:=⟨a4,0,none⟩) hne_ (.int .i64 d0)).trans (zc0 a1);have N0:=(cell_far (p:=⟨a7,(a3:Int).toNat*2,none⟩) (a:=⟨a4,1,none⟩) hne_ (.int .i64 d0)).trans (zc1 a1);have N1:=(cell_far (p:=⟨a7,(a3:Int).toNat*2,none⟩) (a:=⟨a4,2,none⟩) hne_ (.int .i64 d0)).trans (zc2 a1);have N2:=(cell_far (p:=⟨a7,(a3:Int).toNat*2,none⟩) (a:=⟨a4,3,none⟩) hne_ (.int .i64 d0)).trans (zc3 a1);have N3:=(cell_far (p:=⟨a7,(a3:Int).toNat*2,none⟩) (a:=⟨a4,4,none⟩) hne_ (.int .i64 d0)).trans (zc4 a1)
       try go_wp2
       (try simp only[←hl7_2])
       go_roundg k2
       case measure=>have:=o0.out;have:=x8.out;omega
       case rel=>exact⟨(d6),(wrap64 (a3+1)),zi,H',⟨by have:=o0.out;have:=x8.out;omega⟩,⟨by(try simp only[hl7_1]);(try simp only[hl7_2]);(with_reducible repeat(first|apply Kd.R_alloc|apply Kd.R_drewN|apply Kd.R_drew));exact R9.out⟩,⟨by(try simp only[hl7_1]);(try simp only[hl7_2]);(with_reducible repeat(first|refine blk_drewN ?_ _|refine blk_drew ?_|refine blk_alloc ?_ _));refine blk_far ?_ (by have h_:=Kd.R_ne HO_7.out a1.out (by decide);intro e_;exact h_ (by rw[e_];rfl)) _;(with_reducible repeat(first|refine blk_drewN ?_ _|refine blk_drew ?_|refine blk_alloc ?_ _));exact a1.out⟩,⟨zs2 HB GB44 b8⟩⟩
      replace R7:=Bool.eq_false_iff.mpr R7;subst R7;rw[if_neg zfn]at H;obtain⟨v2,v3⟩: ∃j_:Int,(mn ((rd_T49 d6 a3).f1) (wrap64 (((rd_T49 d6 (b7)).f1)+a9)))=j_:=⟨_,rfl⟩
      first|rw[v3]at H|simp only[v3]at H
      have Y3:(if(wrap64 (((rd_T49 d6 (b7)).f1)+a9))<((rd_T49 d6 a3).f1)then(wrap64 (((rd_T49 d6 (b7)).f1)+a9))else((rd_T49 d6 a3).f1))=v2:=v3;obtain⟨S0,m3⟩: ∃y_:List (S49),y_=(d6.set (a3:Int).toNat (⟨(rd_T49 d6 a3).f0,v2⟩:S49)):=⟨_,rfl⟩
      replace H:(impl_FlyPath_spans.l1 k2 (a5.length:Int) S0 (wrap64 (a3+1)) b1 a9 a5 b4 b5)=some (r1,r2):=by first|(rw[m3];with_reducible exact H)|(have H2_:=(Option.bind_some _ _).symm.trans H;rw[m3];with_reducible exact H2_)|(have H2_:=(Option.bind_some _ _).symm.trans H;with_reducible exact H2_)|with_reducible exact H|(rw[m3];exact H)|exact H
      have S1:=zA m3;clear m3;have H':=zA H;clear H
      try go_wp2
      replace HO_7:=zA (Kd.R_drew HO_7.out);replace a1:=zA (blk_drew a1.out);replace HB:=zA (below_drew1 HB.out);have l6:0≤(a3:Int):=za;have l7:a3<(b2.length:Int):=za;obtain⟨t7,M4,e8,e9⟩:=at_T49 (Kd.R_reads' HO_7.out).2.2 a3 l6 l7;cases M4;replace l6:=eq_true l6;replace l7:=eq_true l7;have l8:0≤((b7):Int):=za;have l9:(b7)<(b2.length:Int):=za;obtain⟨t8,M5,f2,f3⟩:=at_T49 (Kd.R_reads' HO_7.out).2.2 (b7) l8 l9;obtain rfl:t7=t8:=(by injection M5);replace l8:=eq_true l8;replace l9:=eq_true l9;have B2:0≤(a3:Int):=za;have B5:(a3:Int)<((b2.length:Int):Int):=za;obtain⟨a7,co44,t9,v0,gl44,cl44,HG44⟩:=Kd.R_form HO_7.out (by omega);(first|cases t9|(injection t9 with ea_ en_ ec_;(first|subst ea_|(injection ea_ with ea_;subst ea_));subst ec_;clear en_));have GB44:=zA v0;have M6:=zA HG44;clear v0 gl44 HG44;(first|simp only[add_plain]at e8|skip);(first|simp only[add_plain]at e9|skip);(first|simp only[add_plain]at f2|skip);(first|simp only[add_plain]at f3|skip);obtain⟨Y2,v1,hM44,i7,i8⟩:=Kd.R_elem HO_7.out z49 (a3:Int) B2 B5;obtain rfl:=k49_openM hM44;have j7:World.cell? _ ⟨a7,(a3:Int).toNat*2,none⟩=some (.int .i64 ((rd_T49 b2 a3).f0)):=i7 0 _ rfl;have j8:World.cell? _ ⟨a7,(a3:Int).toNat*2+1,none⟩=some (.int .i64 ((rd_T49 b2 a3).f1)):=i7 1 _ rfl;have n4:World.frozen? _ ⟨a7,(a3:Int).toNat*2,none⟩=false:=i8 0;have n5:World.frozen? _ ⟨a7,(a3:Int).toNat*2+1,none⟩=false:=i8 1;clear v1 i7 i8 hM44;replace B2:=eq_true B2;replace B5:=eq_true B5;obtain⟨bs,J1,hM54,J2,S2⟩:=Kd.R_elem HO_7.out z49 (a3:Int) (za) (by have h_:(a3:Int)<((b2.length:Int):Int):=za;first|exact h_|(have e_:=(Kd.R_reads' HO_7.out).1;omega)|simpa using h_);obtain rfl:=k49_openM hM54;have N4:=(Kd.R_seg HO_7.out (a3:Int) (za) (by have h_:(a3:Int)<((b2.length:Int):Int):=za;first|exact h_|(have e_:=(Kd.R_reads' HO_7.out).1;omega)|simpa using h_) (seg:=[.int .i64 d0]) (j:=0) J1 J2 (show 1≤2 from by decide) (x':=(⟨d0,(rd_T49 b2 a3).f1⟩:S49)) (k49_mkM _ _ _ (⟨d0,(rd_T49 b2 a3).f1⟩:S49)) (fun _ hk=>hk)).1;rw[←o5.out]at N4;have N5:=zA N4;clear J1 J2 S2 hM54 N4;refine start_ (n:=21) (S:=fun w'=>w'.cell? ⟨a4,0,none⟩=some (.int .i64 b1)∧w'.cell? ⟨a4,1,none⟩=some (.int .i64 a9)∧w'.cell? ⟨a4,2,none⟩=some (.slice g2 a5.length f9)∧w'.cell? ⟨a4,3,none⟩=some (.int .i64 b4)∧w'.cell? ⟨a4,4,none⟩=some (.int .i64 b5)∧w'.cell? ⟨a7,((a3).toNat*2),none⟩=some (.int .i64 ((rd_T49 b2 a3).f0))∧w'.cell? ⟨a7,((a3).toNat*2)+1,none⟩=some (.int .i64 ((rd_T49 b2 a3).f1))∧w'.cell? ⟨a7,(((b7)).toNat*2),none⟩=some (.int .i64 ((rd_T49 b2 (b7)).f0))∧w'.cell? ⟨a7,(((b7)).toNat*2)+1,none⟩=some (.int .i64 ((rd_T49 b2 (b7)).f1))) (ds:=[20]) #[F,F,F,F,F,F,F,F,F,F,F,F,F,F,F,F,F,F,F,F,F] (by kernel_rfl) rfl rfl ⟨zc0 a1,zc1 a1,zc2 a1,zc3 a1,zc4 a1,e8,e9,f2,f3⟩ (fun hHeld=>?_);refine with_tabW impl_FlyPath_spans.tab13 impl_FlyPath_spans.bits13 (fun HT_ HW_=>?_);generalize wr.drew=bu at HO_7 a1 HB M6 N5 n4 n5 e8 e9 f2 f3 j7 j8 hHeld⊢;refine zq HT_ 0 ?_;refine zq HT_ 1 ?_;refine zq HT_ 2 ?_;refine zq HT_ 3 ?_;refine zq HT_ 4 ?_;refine zq HT_ 5 ?_;refine zq HT_ 7 ?_;refine zq HT_ 8 ?_;refine zq HT_ 9 ?_;refine zq HT_ 10 ?_;refine zq HT_ 11 ?_;refine zq HT_ 13 ?_;refine zq HT_ 14 ?_;refine zk9 HT_ HW_ hHeld 6 ?_;refine zk9 HT_ HW_ hHeld 12 ?_;refine zk9 HT_ HW_ hHeld 15 ?_;refine zq HT_ 16 ?_;refine zq HT_ 17 ?_;refine zq HT_ 18 ?_;refine zq HT_ 19 ?_;refine zO HT_ 20 (fun K hK=>?_);refine skip_ (w1:=?_) (by rfl) rfl ?_ ?_;rotate_left
      ·go_simp
       rfl
      refine hK.out _ _ ?_;clear hK K;refine done_ (done_of HT_.out (by kernel_rfl)) ?_;obtain⟨C9,D0,D1,D2,D3⟩:=zd5 a1;obtain⟨D4,D5,D6,D7,D8⟩:=zn5 a1;have m0:0≤((b7):Int):=za;have m1:(b7)<(a5.length:Int):=za;obtain⟨m2,M8,d2,d8,d9,e0,e1,e2,d3⟩:=at_T43 j6.out (b7) m0 m1;(try rw[←Nbq46.out]at d3);cases M8;have hn411_0:m2.block≠a7:=Nat.ne_of_lt (Nat.lt_of_lt_of_le (by have:=World.block_lt_of_cell? _ _ d2;first|rwa [add_block]at this|exact this) GB44.out);replace d2:=zx HB d2;replace d8:=zx HB d8;replace d9:=zx HB d9;replace e0:=zx HB e0;replace e1:=zx HB e1;replace e2:=zx HB e2;replace d3:=zx HB d3;replace d2:=(cell_far (p:=⟨a7,(a3:Int).toNat*2,none⟩) (by first|(rw[add_block];exact hn411_0)|(show(Addr.add _ _).block≠_;rw[add_block];exact hn411_0)|exact hn411_0) (.int .i64 d0)).trans d2;replace d8:=(cell_far (p:=⟨a7,(a3:Int).toNat*2,none⟩) (by first|(rw[add_block];exact hn411_0)|(show(Addr.add _ _).block≠_;rw[add_block];exact hn411_0)|exact hn411_0) (.int .i64 d0)).trans d8;replace d9:=(cell_far (p:=⟨a7,(a3:Int).toNat*2,none⟩) (by first|(rw[add_block];exact hn411_0)|(show(Addr.add _ _).block≠_;rw[add_block];exact hn411_0)|exact hn411_0) (.int .i64 d0)).trans d9;replace e0:=(cell_far (p:=⟨a7,(a3:Int).toNat*2,none⟩) (by first|(rw[add_block];exact hn411_0)|(show(Addr.add _ _).block≠_;rw[add_block];exact hn411_0)|exact hn411_0) (.int .i64 d0)).trans e0;replace e1:=(cell_far (p:=⟨a7,(a3:Int).toNat*2,none⟩) (by first|(rw[add_block];exact hn411_0)|(show(Addr.add _ _).block≠_;rw[add_block];exact hn411_0)|exact hn411_0) (.int .i64 d0)).trans e1;replace e2:=(cell_far (p:=⟨a7,(a3:Int).toNat*2,none⟩) (by first|(rw[add_block];exact hn411_0)|(show(Addr.add _ _).block≠_;rw[add_block];exact hn411_0)|exact hn411_0) (.int .i64 d0)).trans e2;replace d3:=(cell_far (p:=⟨a7,(a3:Int).toNat*2,none⟩) (by first|(rw[add_block];exact hn411_0)|(show(Addr.add _ _).block≠_;rw[add_block];exact hn411_0)|exact hn411_0) (.int .i64 d0)).trans d3;clear hn411_0;replace m0:=eq_true m0;replace m1:=eq_true m1;have hne_:a4≠a7:=(by have h_:=Kd.R_ne HO_7.out a1.out (by decide);intro e_;exact h_ (by rw[e_];rfl));have M9:=(cell_far (p:=⟨a7,(a3:Int).toNat*2,none⟩) (a:=⟨a4,0,none⟩) hne_ (.int .i64 d0)).trans (zc0 a1);have N0:=(cell_far (p:=⟨a7,(a3:Int).toNat*2,none⟩) (a:=⟨a4,1,none⟩) hne_ (.int .i64 d0)).trans (zc1 a1);have N1:=(cell_far (p:=⟨a7,(a3:Int).toNat*2,none⟩) (a:=⟨a4,2,none⟩) hne_ (.int .i64 d0)).trans (zc2 a1);have N2:=(cell_far (p:=⟨a7,(a3:Int).toNat*2,none⟩) (a:=⟨a4,3,none⟩) hne_ (.int .i64 d0)).trans (zc3 a1);have N3:=(cell_far (p:=⟨a7,(a3:Int).toNat*2,none⟩) (a:=⟨a4,4,none⟩) hne_ (.int .i64 d0)).trans (zc4 a1)
      try go_wp2
      obtain⟨V8,e_⟩: ∃x,x=(bu.setCell ⟨a7,(a3:Int).toNat*2,none⟩ (.int .i64 d0)):=⟨_,rfl⟩
      have n0_:Aside0 (Kd.R k49 49 V8 w.heap.size (fun _=>True) (.slice (some ⟨a7,0,none⟩) b2.length co10) d6):=by rw[e_];exact⟨zr N5⟩
      have n1_:Aside0 (V8.heap[a4]?=some (.cells #[.int .i64 b1,.int .i64 a9,.slice (some m2) a5.length f9,.int .i64 b4,.int .i64 b5] 27 (0,0))):=by rw[e_];exact⟨by(with_reducible repeat(first|refine blk_drewN ?_ _|refine blk_drew ?_|refine blk_alloc ?_ _));refine blk_far ?_ (by have h_:=Kd.R_ne HO_7.out a1.out (by decide);intro e_;exact h_ (by rw[e_];rfl)) _;(with_reducible repeat(first|refine blk_drewN ?_ _|refine blk_drew ?_|refine blk_alloc ?_ _));exact a1.out⟩
      have n2_:Aside0 (Below w.heap.size w V8):=by rw[e_];exact⟨zs2 HB GB44 b8⟩
      (try clear HO_7);(try clear a1);(try clear HB);rw[←e_];clear e_;have HO_7:=n0_;have a1:=n1_;have HB:=n2_;clear n0_ n1_ n2_;replace HO_7:=zA (Kd.R_drew HO_7.out);replace a1:=zA (blk_drew a1.out);replace HB:=zA (below_drew1 HB.out);have D9:0≤(a3:Int):=za;have E0:a3<(d6.length:Int):=(by have h_:(a3:Int)<((b2.length:Int):Int):=za;first|(have e_:=(Kd.R_reads' HO_7.out).1;omega)|simpa only[o5.out,List.length_set]using h_);have ql412:((a3:Int)<((b2.length:Int):Int))=True:=eq_true (za);obtain⟨S3,Y4,g8,g9⟩:=at_T49 (Kd.R_reads' HO_7.out).2.2 a3 D9 E0;obtain rfl:(⟨a7,0,none⟩:Addr)=S3:=(by injection Y4);(first|simp only[add_plain]at g8|simp only[add_at]at g8|simp only[Addr.add,Nat.zero_add]at g8|skip);(first|simp only[add_plain]at g9|simp only[add_at]at g9|simp only[Addr.add,Nat.zero_add]at g9|skip);replace D9:=eq_true D9;replace E0:=eq_true E0;have E1:0≤((b7):Int):=za;have E2:(b7)<(d6.length:Int):=(by have h_:((b7):Int)<((b2.length:Int):Int):=za;first|(have e_:=(Kd.R_reads' HO_7.out).1;omega)|simpa only[o5.out,List.length_set]using h_);have ql413:(((b7):Int)<((b2.length:Int):Int))=True:=eq_true (za);obtain⟨S4,Y5,h0,h1⟩:=at_T49 (Kd.R_reads' HO_7.out).2.2 (b7) E1 E2;obtain rfl:(⟨a7,0,none⟩:Addr)=S4:=(by injection Y5);(first|simp only[add_plain]at h0|simp only[add_at]at h0|simp only[Addr.add,Nat.zero_add]at h0|skip);(first|simp only[add_plain]at h1|simp only[add_at]at h1|simp only[Addr.add,Nat.zero_add]at h1|skip);replace E1:=eq_true E1;replace E2:=eq_true E2;have S5:0≤(a3:Int):=za;have S6:(a3:Int)<((b2.length:Int):Int):=za;obtain⟨bv,S7,hM52,v4,v5⟩:=Kd.R_elem HO_7.out z49 (a3:Int) S5 S6;obtain rfl:=k49_openM hM52;have v6:World.cell? _ ⟨a7,(a3:Int).toNat*2,none⟩=some (.int .i64 ((rd_T49 d6 a3).f0)):=v4 0 _ rfl;have v7:World.cell? _ ⟨a7,(a3:Int).toNat*2+1,none⟩=some (.int .i64 ((rd_T49 d6 a3).f1)):=v4 1 _ rfl;have N6:World.frozen? _ ⟨a7,(a3:Int).toNat*2,none⟩=false:=v5 0;have N7:World.frozen? _ ⟨a7,(a3:Int).toNat*2+1,none⟩=false:=v5 1;clear S7 v4 v5 hM52;replace S5:=eq_true S5;replace S6:=eq_true S6;obtain⟨bw,J3,hM58,J4,S8⟩:=Kd.R_elem HO_7.out z49 (a3:Int) (za) (by have h_:(a3:Int)<((b2.length:Int):Int):=za;first|exact h_|(have e_:=(Kd.R_reads' HO_7.out).1;omega)|simpa using h_);obtain rfl:=k49_openM hM58;have N8:=(Kd.R_seg HO_7.out (a3:Int) (za) (by have h_:(a3:Int)<((b2.length:Int):Int):=za;first|exact h_|(have e_:=(Kd.R_reads' HO_7.out).1;omega)|simpa using h_) (seg:=[.int .i64 v2]) (j:=1) J3 J4 (show 2≤2 from by decide) (x':=(⟨(rd_T49 d6 a3).f0,v2⟩:S49)) (k49_mkM _ _ _ (⟨(rd_T49 d6 a3).f0,v2⟩:S49)) (fun _ hk=>hk)).1;rw[←S1.out]at N8;have S9:=zA N8;clear J3 J4 S8 hM58 N8;refine start_ (n:=21) (S:=fun w'=>w'.cell? ⟨a4,0,none⟩=some (.int .i64 b1)∧w'.cell? ⟨a4,1,none⟩=some (.int .i64 a9)∧w'.cell? ⟨a4,2,none⟩=some (.slice (some m2) a5.length f9)∧w'.cell? ⟨a4,3,none⟩=some (.int .i64 b4)∧w'.cell? ⟨a4,4,none⟩=some (.int .i64 b5)∧w'.cell? ⟨a7,(a3).toNat*2,none⟩=some (.int .i64 ((rd_T49 d6 a3).f0))∧w'.cell? ⟨a7,(a3).toNat*2+1,none⟩=some (.int .i64 ((rd_T49 d6 a3).f1))∧w'.cell? ⟨a7,((b7)).toNat*2,none⟩=some (.int .i64 ((rd_T49 d6 (b7)).f0))∧w'.cell? ⟨a7,((b7)).toNat*2+1,none⟩=some (.int .i64 ((rd_T49 d6 (b7)).f1))) (ds:=[20]) #[F,F,F,F,F,F,F,F,F,F,F,F,F,F,F,F,F,F,F,F,F] (by kernel_rfl) rfl rfl ⟨zc0 a1,zc1 a1,zc2 a1,zc3 a1,zc4 a1,g8,g9,h0,h1⟩ (fun hHeld=>?_);refine with_tabW impl_FlyPath_spans.tab15 impl_FlyPath_spans.bits15 (fun HT_ HW_=>?_);generalize V8.drew=dk at HO_7 a1 HB N5 S9 N6 N7 g8 g9 h0 h1 v6 v7 hHeld⊢;refine zq HT_ 0 ?_;refine zq HT_ 1 ?_;refine zq HT_ 2 ?_;refine zq HT_ 3 ?_;refine zq HT_ 4 ?_;refine zq HT_ 5 ?_;refine zq HT_ 7 ?_;refine zq HT_ 8 ?_;refine zq HT_ 9 ?_;refine zq HT_ 10 ?_;refine zq HT_ 11 ?_;refine zq HT_ 13 ?_;refine zq HT_ 14 ?_;refine zk9 HT_ HW_ hHeld 6 ?_;refine zk9 HT_ HW_ hHeld 12 ?_;refine zk9 HT_ HW_ hHeld 15 ?_;refine zq HT_ 16 ?_;refine zq HT_ 17 ?_;refine zq HT_ 18 ?_;refine zq HT_ 19 ?_;refine zO HT_ 20 (fun K hK=>?_);refine skip_ (w1:=?_) (by rfl) rfl ?_ ?_;rotate_left
      ·go_simp
       rfl
      refine hK.out _ _ ?_;clear hK K;refine done_ (done_of HT_.out (by kernel_rfl)) ?_
      try go_wp2
      (try simp only[←hl7_2])
      go_roundg k2
      case measure=>have:=o0.out;have:=x8.out;omega
      case rel=>exact⟨(S0),(wrap64 (a3+1)),zi,H',⟨by have:=o0.out;have:=x8.out;omega⟩,⟨by(try simp only[hl7_1]);(try simp only[hl7_2]);(with_reducible repeat(first|apply Kd.R_alloc|apply Kd.R_drewN|apply Kd.R_drew));exact S9.out⟩,⟨by(try simp only[hl7_1]);(try simp only[hl7_2]);(with_reducible repeat(first|refine blk_drewN ?_ _|refine blk_drew ?_|refine blk_alloc ?_ _));refine blk_far ?_ (by have h_:=Kd.R_ne HO_7.out a1.out (by decide);intro e_;exact h_ (by rw[e_];rfl)) _;(with_reducible repeat(first|refine blk_drewN ?_ _|refine blk_drew ?_|refine blk_alloc ?_ _));exact a1.out⟩,⟨zs2 HB GB44 b8⟩⟩
     rw[if_neg M3]at H;have I8:decide (a3≤(a5.length:Int))=false:=decide_eq_false M3;clear M3;have H':=zA H;clear H
     go_wp2
     go_loopg [10] k2 (fun kq bx w'=> ∃(a6:List (S49)) (a2:Int),bx= .int .i64 a2∧Aside0 (impl_FlyPath_spans.l2 kq a6 a2 b1 a9 a5 b4 b5=some (r1,r2))∧Aside0 (kq≤k2)∧Aside0 (Kd.R k49 49 w' w.heap.size (fun _=>True) (.slice Ao10 b2.length co10) a6)∧Aside0 (w'.heap[a4]?=some (.cells #[.int .i64 b1,.int .i64 a9,(.slice g2 a5.length f9),.int .i64 b4,.int .i64 b5] 27 (0,0)))∧Aside0 (Below w.heap.size w w'))
     case atStart=>exact⟨(b2),(wrap64 ((a5.length:Int)-1)),zi,H',⟨Nat.le_refl _⟩,⟨by(try simp only[hl7_1]);(try simp only[hl7_2]);(with_reducible repeat(first|apply Kd.R_alloc|apply Kd.R_drewN|apply Kd.R_drew));exact HO_7.out⟩,⟨by(try simp only[hl7_1]);(try simp only[hl7_2]);(with_reducible repeat(first|refine blk_drewN ?_ _|refine blk_drew ?_|refine blk_alloc ?_ _));exact a1.out⟩,⟨zs1 HB b8⟩⟩
     case round=>
      clear H'
      try clear p2
      try clear c3
      try clear c4
      try clear p4
      try clear q4
      try clear Z7
      try clear dl
      try clear c5
      try clear p5
      try clear q5
      try clear dm
      try clear dn
      try clear p6
      try clear M3
      try clear I8
      try clear dp
      try clear R5
      try clear dq
      try clear dr
      try clear bz
      try clear dt
      try clear ca
      try clear cb
      try clear Y6
      try clear R6
      try clear du
      try clear B2
      try clear B5
      try clear cc
      try clear cd
      try clear dv
      try clear dw
      try clear R7
      try clear dx
      try clear S5
      try clear S6
      try clear ce
      try clear cf
      try clear dy
      try clear dz
      try clear B9 C0 C1 C2 C3
      try clear C9 D0 D1 D2 D3
      try clear C4 C5 C6 C7 C8
      try clear D4 D5 D6 D7 D8
      try clear e8
      try clear e9
      try clear f2
      try clear f3
      try clear d2
      try clear d8
      try clear d9
      try clear e0
      try clear e1
      try clear e2
      try clear d3
      try clear g8
      try clear g9
      try clear h0
      try clear h1
      try clear j7
      try clear j8
      try clear v6
      try clear v7
      try clear l6
      try clear l8
      try clear m0
      try clear D9
      try clear E1
      try clear B2
      try clear S5
      try clear l7
      try clear l9
      try clear m1
      try clear E0
      try clear E2
      try clear B5
      try clear S6
      obtain⟨a6,a2,rfl,HA,P1,HO_7,a1,HB⟩:=hrel;have hl7_3:=(Kd.R_reads' HO_7.out).1;rw[hl7_3]at HO_7;(try simp only[hl7_3]);(try simp only[hl7_3]at a1)
      cases gk with
      |zero=>exact absurd HA.out (by simp[impl_FlyPath_spans.l2])
      |succ k3=>
       have H:=HA.out;clear HA;simp only[impl_FlyPath_spans.l2]at H
       by_cases N9:a2≥0
       rotate_left
       ·rw[if_neg N9]at H
        have J5:decide (0≤a2)=false:=decide_eq_false N9;clear N9;have H':=zA H;clear H
        go_wp2
        go_loopg [179] k3 (fun kq Y7 w'=> ∃(b3:Int),Y7= .int .i64 b3∧Aside0 (impl_FlyPath_spans.l3 kq a6 a6 (a6.length:Int) b3=some (r1,r2))∧Aside0 (kq≤k3)∧Aside0 (Kd.R k49 49 w' w.heap.size (fun _=>True) (.slice Ao10 a6.length co10) a6)∧Aside0 (Kd.R k49 49 w' w.heap.size (fun _=>True) (.slice Ao10 a6.length co10) a6)∧Aside0 (w'.heap[a4]?=some (.cells #[.int .i64 b1,.int .i64 a9,(.slice g2 a5.length f9),.int .i64 b4,.int .i64 b5] 27 (0,0)))∧Aside0 (Below w.heap.size w w'))
        case atStart=>exact⟨(0),zi,H',⟨Nat.le_refl _⟩,⟨by(try simp only[hl7_1]);(try simp only[hl7_2]);(try simp only[hl7_3]);(with_reducible repeat(first|apply Kd.R_alloc|apply Kd.R_drewN|apply Kd.R_drew));exact HO_7.out⟩,⟨by(try simp only[hl7_1]);(try simp only[hl7_2]);(try simp only[hl7_3]);(with_reducible repeat(first|apply Kd.R_alloc|apply Kd.R_drewN|apply Kd.R_drew));exact HO_7.out⟩,⟨by(try simp only[hl7_1]);(try simp only[hl7_2]);(try simp only[hl7_3]);(with_reducible repeat(first|refine blk_drewN ?_ _|refine blk_drew ?_|refine blk_alloc ?_ _));exact a1.out⟩,⟨zs1 HB b8⟩⟩
        case round=>
         clear H'
         try clear p2
         try clear p4
         try clear q4
         try clear Z7
         try clear c5
         try clear c6
         try clear p6
         try clear q6
         try clear ea
         try clear eb
         try clear c7
         try clear p7
         try clear q7
         try clear ec
         try clear ed
         try clear c8
         try clear ca
         try clear cb
         try clear Y6
         try clear ee
         try clear ef
         try clear cg
         try clear N9
         try clear J5
         try clear eg
         try clear T0
         try clear eh
         try clear T1
         try clear ei
         try clear ej
         try clear E3
         try clear E4
         try clear ch
         try clear ci
         try clear ek
         try clear el
         try clear T2
         try clear em
         try clear T5
         try clear T9
         try clear cj
         try clear ck
         try clear en
         try clear eo
         try clear E5 E6 E7 E8 E9
         try clear F0 F1 F2 F3 F4
         try clear F5 F6 F7 F8 F9
         try clear G0 G1 G2 G3 G4
         try clear f4
         try clear f5
         try clear f7
         try clear f8
         try clear d4
         try clear e3
         try clear e4
         try clear e5
         try clear e6
         try clear e7
         try clear d5
         try clear h2
         try clear h3
         try clear h4
         try clear h5
         try clear j9
         try clear k0
         try clear v8
         try clear w0
         try clear m4
         try clear m5
         try clear m6
         try clear G5
         try clear G6
         try clear E3
         try clear T5
         try clear m7
         try clear m8
         try clear m9
         try clear G7
         try clear G8
         try clear E4
         try clear T9
         obtain⟨b3,rfl,HA,ae,HO_7,HO_177,a1,HB⟩:=hrel
         cases gk with
         |zero=>exact absurd HA.out (by simp[impl_FlyPath_spans.l3])
         |succ k4=>
          have H:=HA.out;clear HA;simp only[impl_FlyPath_spans.l3]at H
          by_cases P2:b3<(a6.length:Int)
          rotate_left
          ·rw[if_neg P2]at H
           have U0:decide (b3<(a6.length:Int))=false:=decide_eq_false P2;clear P2;simp only[Option.some.injEq,Prod.mk.injEq]at H;obtain⟨rfl,rfl⟩:=H
           go_wp2
           go_ret2
           exact⟨_,by first|rfl|(simp[errW_none,errW_some]<;>rfl)|(simp only[←o8];first|rfl|(simp[errW_none,errW_some]<;>rfl))|(simp[*,errW_none,errW_some]<;>rfl),zr HO_7,zs1 HB b8⟩
          rw[if_pos P2]at H;have U0:decide (b3<(a6.length:Int))=true:=decide_eq_true P2;clear P2;replace H:=zif H;obtain⟨af,H⟩:=H
          by_cases V9:b3<(a6.length:Int)
          rotate_left
          ·rw[if_neg V9]at H
           exact absurd H (by simp)
          rw[if_pos V9]at H;have ag:decide (b3<(a6.length:Int))=true:=decide_eq_true V9;clear V9
          by_cases P3:((rd_T49 a6 b3).f0)>((rd_T49 a6 b3).f1)
          ·rw[if_pos P3]at H
           have U1:decide (((rd_T49 a6 b3).f1)<((rd_T49 a6 b3).f0))=true:=decide_eq_true P3;clear P3;simp only[Option.some.injEq,Prod.mk.injEq]at H;obtain⟨rfl,rfl⟩:=H;have n6:0≤(b3:Int):=za;have n7:b3<(a6.length:Int):=za;obtain⟨U2,O0,G9,H0⟩:=at_T49 (Kd.R_reads' HO_177.out).2.2 b3 n6 n7;cases O0;replace n6:=eq_true n6;replace n7:=eq_true n7
           go_wp2_with (first|((with_reducible refine gate_dst (N:=12) rfl ?_);refine zbx 12 #[.int .i64 0,.int .i64 0] 49 ?_;intro g3 hg ep hbox hb;have n0:=zA hbox;have U3:=zgs hg (zs1 HB b8);have w2:=zgs hg (zs1 HB b8);have g0:=zne hg a1;have i1:=znf hg a1;replace HO_7:=zA (Kd.R_below (Kd.R_elderB (zr HO_7) g3 (Nat.le_of_eq hg.symm)) hb);replace HO_177:=zA (Kd.R_below (Kd.R_elderB (zr HO_177) g3 (Nat.le_of_eq hg.symm)) hb);replace a1:=zb a1 hb;replace HB:=zE (zs1 HB b8) hb;clear hb hbox hg;have ah:=i1.out;have ai:=g0.out;obtain⟨W0,W1⟩:=zd2 n0;obtain⟨W2,W3⟩:=zn2 n0))
           go_ret2
           exact⟨_,by first|rfl|(simp[errW_none,errW_some]<;>rfl)|(simp only[←o8];first|rfl|(simp[errW_none,errW_some]<;>rfl))|(simp[*,errW_none,errW_some]<;>rfl),by first|exact Kd.R_nil _ _ _ _ _|exact Kd.N_nil _ _ _ _ _|exact Kd.V_nil _ _ _ _ _|exact Kd.Q_nil _ _ _ _ _|exact Kd.S_nil _ _ _ _ _,zs2 HB b8 w2⟩
          rw[if_neg P3]at H;have U1:decide (((rd_T49 a6 b3).f1)<((rd_T49 a6 b3).f0))=false:=decide_eq_false P3;clear P3;have H':=zA H;clear H;have n6:0≤(b3:Int):=za;have n7:b3<(a6.length:Int):=za;obtain⟨U2,O0,G9,H0⟩:=at_T49 (Kd.R_reads' HO_177.out).2.2 b3 n6 n7;cases O0;replace n6:=eq_true n6;replace n7:=eq_true n7
          go_wp2_with (first|((with_reducible refine gate_dst (N:=12) rfl ?_);refine zbx 12 #[.int .i64 0,.int .i64 0] 49 ?_;intro g3 hg er hbox hb;have n0:=zA hbox;have U3:=zgs hg (zs1 HB b8);have w2:=zgs hg (zs1 HB b8);have g0:=zne hg a1;have i1:=znf hg a1;replace HO_7:=zA (Kd.R_below (Kd.R_elderB (zr HO_7) g3 (Nat.le_of_eq hg.symm)) hb);replace HO_177:=zA (Kd.R_below (Kd.R_elderB (zr HO_177) g3 (Nat.le_of_eq hg.symm)) hb);replace a1:=zb a1 hb;replace HB:=zE (zs1 HB b8) hb;clear hb hbox hg;have aj:=i1.out;have ak:=g0.out;obtain⟨W4,W5⟩:=zd2 n0;obtain⟨W6,W7⟩:=zn2 n0))
          go_roundg k4
          case measure=>have:=o0.out;have:=x8.out;have:=P1.out;have:=ae.out;omega
          case rel=>exact⟨(wrap64 (b3+1)),zi,H',⟨by have:=o0.out;have:=x8.out;have:=P1.out;have:=ae.out;omega⟩,⟨by(try simp only[hl7_1]);(try simp only[hl7_2]);(try simp only[hl7_3]);(with_reducible repeat(first|apply Kd.R_alloc|apply Kd.R_drewN|apply Kd.R_drew));exact Kd.R_mono (Kd.R_far (p:=⟨g3,1,none⟩) (Kd.R_far (p:=⟨g3,0,none⟩) (Kd.R_mono HO_7.out (fun k_ hk=>(⟨hk,hk.2⟩:_∧k_≠g3))) (fun _ hk=>hk.2) (.int .i64 ((rd_T49 a6 b3).f0))) (fun _ hk=>hk.2) (.int .i64 ((rd_T49 a6 b3).f1))) (fun _ hk=>trivial)⟩,⟨by(try simp only[hl7_1]);(try simp only[hl7_2]);(try simp only[hl7_3]);(with_reducible repeat(first|apply Kd.R_alloc|apply Kd.R_drewN|apply Kd.R_drew));exact Kd.R_mono (Kd.R_far (p:=⟨g3,1,none⟩) (Kd.R_far (p:=⟨g3,0,none⟩) (Kd.R_mono HO_177.out (fun k_ hk=>(⟨hk,hk.2⟩:_∧k_≠g3))) (fun _ hk=>hk.2) (.int .i64 ((rd_T49 a6 b3).f0))) (fun _ hk=>hk.2) (.int .i64 ((rd_T49 a6 b3).f1))) (fun _ hk=>trivial)⟩,⟨by(try simp only[hl7_1]);(try simp only[hl7_2]);(try simp only[hl7_3]);(with_reducible repeat(first|refine blk_drewN ?_ _|refine blk_drew ?_|refine blk_alloc ?_ _));refine blk_far ?_ g0.out _;(with_reducible repeat(first|refine blk_drewN ?_ _|refine blk_drew ?_|refine blk_alloc ?_ _));refine blk_far ?_ g0.out _;(with_reducible repeat(first|refine blk_drewN ?_ _|refine blk_drew ?_|refine blk_alloc ?_ _));exact a1.out⟩,⟨zs2 HB b8 w2⟩⟩
       rw[if_pos N9]at H;have J5:decide (0≤a2)=true:=decide_eq_true N9;clear N9;replace H:=zif H;obtain⟨al,H⟩:=H
       by_cases T0:a2<(a6.length:Int)
       rotate_left
       ·rw[if_neg T0]at H
        exact absurd H (by simp)
       rw[if_pos T0]at H;have am:decide (a2<(a6.length:Int))=true:=decide_eq_true T0;clear T0;obtain⟨c0,w3⟩: ∃j_:Int,(wrap64 (a2+1))=j_:=⟨_,rfl⟩
       first|rw[w3]at H|simp only[w3]at H
       have Y8:(IntKind.i64.wrap (a2+1))=c0:=(i64_w _).trans w3;replace H:=zif H;obtain⟨an,H⟩:=H
       by_cases T1:(c0)<(a6.length:Int)
       rotate_left
       ·rw[if_neg T1]at H
        exact absurd H (by simp)
       rw[if_pos T1]at H;have ao:decide ((c0)<(a6.length:Int))=true:=decide_eq_true T1;clear T1;obtain⟨d1,w4⟩: ∃j_:Int,(mn ((rd_T49 a6 a2).f1) (wrap64 (((rd_T49 a6 (c0)).f1)-b1)))=j_:=⟨_,rfl⟩
       first|rw[w4]at H|simp only[w4]at H
       have Y9:(if(wrap64 (((rd_T49 a6 (c0)).f1)-b1))<((rd_T49 a6 a2).f1)then(wrap64 (((rd_T49 a6 (c0)).f1)-b1))else((rd_T49 a6 a2).f1))=d1:=w4;obtain⟨d7,n1⟩: ∃y_:List (S49),y_=(a6.set (a2:Int).toNat (⟨(rd_T49 a6 a2).f0,d1⟩:S49)):=⟨_,rfl⟩
       replace H:(if a2<(a5.length:Int)then(if((rd_T43 a5 a2).f6=true)then(impl_FlyPath_spans.l2 k3 d7 (wrap64 (a2-1)) b1 a9 a5 b4 b5)else(impl_FlyPath_spans.l2 k3 (d7.set (a2:Int).toNat (⟨mx ((rd_T49 d7 a2).f0) (wrap64 (((rd_T49 d7 (c0)).f0)-a9)),(rd_T49 d7 a2).f1⟩:S49)) (wrap64 (a2-1)) b1 a9 a5 b4 b5))else(none))=some (r1,r2):=by first|(rw[n1];with_reducible exact H)|(have H2_:=(Option.bind_some _ _).symm.trans H;rw[n1];with_reducible exact H2_)|(have H2_:=(Option.bind_some _ _).symm.trans H;with_reducible exact H2_)|with_reducible exact H|(rw[n1];exact H)|exact H
       have o6:=zA n1;clear n1;replace H:=zif H;obtain⟨ap,H⟩:=H;obtain⟨bq68,hbq68⟩: ∃b_:Bool,b_=((rd_T43 a5 a2).f6):=⟨_,rfl⟩
       replace H:(if(bq68=true)then(impl_FlyPath_spans.l2 k3 d7 (wrap64 (a2-1)) b1 a9 a5 b4 b5)else(impl_FlyPath_spans.l2 k3 (d7.set (a2:Int).toNat (⟨mx ((rd_T49 d7 a2).f0) (wrap64 (((rd_T49 d7 (c0)).f0)-a9)),(rd_T49 d7 a2).f1⟩:S49)) (wrap64 (a2-1)) b1 a9 a5 b4 b5))=some (r1,r2):=by rw[←hbq68]at H;exact H
       have Nbq68:=zA hbq68;clear hbq68
       by_cases T2:(bq68=true)
       ·subst T2
        rw[if_pos rfl]at H;have H':=zA H;clear H
        try go_wp2
        replace HO_7:=zA (Kd.R_drew HO_7.out);replace a1:=zA (blk_drew a1.out);replace HB:=zA (below_drew1 HB.out);have m4:0≤(a2:Int):=za;have m7:a2<(a6.length:Int):=za;obtain⟨w5,O1,f4,f5⟩:=at_T49 (Kd.R_reads' HO_7.out).2.2 a2 m4 m7;cases O1;replace m4:=eq_true m4;replace m7:=eq_true m7;have m5:0≤((c0):Int):=za;have m8:(c0)<(a6.length:Int):=za;obtain⟨w7,O2,f7,f8⟩:=at_T49 (Kd.R_reads' HO_7.out).2.2 (c0) m5 m8;obtain rfl:w5=w7:=(by injection O2);replace m5:=eq_true m5;replace m8:=eq_true m8;have E3:0≤(a2:Int):=za;have E4:(a2:Int)<((a6.length:Int):Int):=za;obtain⟨a8,co66,w9,x0,gl66,cl66,HG66⟩:=Kd.R_form HO_7.out (by omega);(first|cases w9|(injection w9 with ea_ en_ ec_;(first|subst ea_|(injection ea_ with ea_;subst ea_));subst ec_;clear en_));have GB66:=zA x0;have O3:=zA HG66;clear x0 gl66 HG66;(first|simp only[add_plain]at f4|skip);(first|simp only[add_plain]at f5|skip);(first|simp only[add_plain]at f7|skip);(first|simp only[add_plain]at f8|skip);obtain⟨Z0,x1,hM66,i9,j5⟩:=Kd.R_elem HO_7.out z49 (a2:Int) E3 E4;obtain rfl:=k49_openM hM66;have j9:World.cell? _ ⟨a8,(a2:Int).toNat*2,none⟩=some (.int .i64 ((rd_T49 a6 a2).f0)):=i9 0 _ rfl;have k0:World.cell? _ ⟨a8,(a2:Int).toNat*2+1,none⟩=some (.int .i64 ((rd_T49 a6 a2).f1)):=i9 1 _ rfl;have n8:World.frozen? _ ⟨a8,(a2:Int).toNat*2,none⟩=false:=j5 0;have n9:World.frozen? _ ⟨a8,(a2:Int).toNat*2+1,none⟩=false:=j5 1;clear x1 i9 j5 hM66;replace E3:=eq_true E3;replace E4:=eq_true E4;obtain⟨cl,J6,hM71,J7,U4⟩:=Kd.R_elem HO_7.out z49 (a2:Int) (za) (by have h_:(a2:Int)<((a6.length:Int):Int):=za;first|exact h_|(have e_:=(Kd.R_reads' HO_7.out).1;omega)|simpa using h_);obtain rfl:=k49_openM hM71;have O4:=(Kd.R_seg HO_7.out (a2:Int) (za) (by have h_:(a2:Int)<((a6.length:Int):Int):=za;first|exact h_|(have e_:=(Kd.R_reads' HO_7.out).1;omega)|simpa using h_) (seg:=[.int .i64 d1]) (j:=1) J6 J7 (show 2≤2 from by decide) (x':=(⟨(rd_T49 a6 a2).f0,d1⟩:S49)) (k49_mkM _ _ _ (⟨(rd_T49 a6 a2).f0,d1⟩:S49)) (fun _ hk=>hk)).1;rw[←o6.out]at O4;have U5:=zA O4;clear J6 J7 U4 hM71 O4;refine start_ (n:=21) (S:=fun w'=>w'.cell? ⟨a4,0,none⟩=some (.int .i64 b1)∧w'.cell? ⟨a4,1,none⟩=some (.int .i64 a9)∧w'.cell? ⟨a4,2,none⟩=some (.slice g2 a5.length f9)∧w'.cell? ⟨a4,3,none⟩=some (.int .i64 b4)∧w'.cell? ⟨a4,4,none⟩=some (.int .i64 b5)∧w'.cell? ⟨a8,((a2).toNat*2),none⟩=some (.int .i64 ((rd_T49 a6 a2).f0))∧w'.cell? ⟨a8,((a2).toNat*2)+1,none⟩=some (.int .i64 ((rd_T49 a6 a2).f1))∧w'.cell? ⟨a8,(((c0)).toNat*2),none⟩=some (.int .i64 ((rd_T49 a6 (c0)).f0))∧w'.cell? ⟨a8,(((c0)).toNat*2)+1,none⟩=some (.int .i64 ((rd_T49 a6 (c0)).f1))) (ds:=[20]) #[F,F,F,F,F,F,F,F,F,F,F,F,F,F,F,F,F,F,F,F,F] (by kernel_rfl) rfl rfl ⟨zc0 a1,zc1 a1,zc2 a1,zc3 a1,zc4 a1,f4,f5,f7,f8⟩ (fun hHeld=>?_);refine with_tabW impl_FlyPath_spans.tab19 impl_FlyPath_spans.bits19 (fun HT_ HW_=>?_);generalize wr.drew=es at HO_7 a1 HB O3 U5 n8 n9 f4 f5 f7 f8 j9 k0 hHeld⊢;refine zq HT_ 0 ?_;refine zq HT_ 1 ?_;refine zq HT_ 2 ?_;refine zq HT_ 3 ?_;refine zq HT_ 4 ?_;refine zq HT_ 5 ?_;refine zq HT_ 7 ?_;refine zq HT_ 8 ?_;refine zq HT_ 9 ?_;refine zq HT_ 10 ?_;refine zq HT_ 11 ?_;refine zq HT_ 13 ?_;refine zq HT_ 14 ?_;refine zk9 HT_ HW_ hHeld 6 ?_;refine zk9 HT_ HW_ hHeld 12 ?_;refine zk9 HT_ HW_ hHeld 15 ?_;refine zq HT_ 16 ?_;refine zq HT_ 17 ?_;refine zq HT_ 18 ?_;refine zq HT_ 19 ?_;refine zO HT_ 20 (fun K hK=>?_);refine skip_ (w1:=?_) (by rfl) rfl ?_ ?_;rotate_left
        ·go_simp
         rfl
        refine hK.out _ _ ?_;clear hK K;refine done_ (done_of HT_.out (by kernel_rfl)) ?_;obtain⟨E5,E6,E7,E8,E9⟩:=zd5 a1;obtain⟨F5,F6,F7,F8,F9⟩:=zn5 a1;have m6:0≤(a2:Int):=za;have m9:a2<(a5.length:Int):=za;obtain⟨n2,O5,d4,e3,e4,e5,e6,e7,d5⟩:=at_T43 j6.out a2 m6 m9;(try rw[←Nbq68.out]at d5);cases O5;have hn418_0:n2.block≠a8:=Nat.ne_of_lt (Nat.lt_of_lt_of_le (by have:=World.block_lt_of_cell? _ _ d4;first|rwa [add_block]at this|exact this) GB66.out);replace d4:=zx HB d4;replace e3:=zx HB e3;replace e4:=zx HB e4;replace e5:=zx HB e5;replace e6:=zx HB e6;replace e7:=zx HB e7;replace d5:=zx HB d5;replace d4:=(cell_far (p:=⟨a8,(a2:Int).toNat*2+1,none⟩) (by first|(rw[add_block];exact hn418_0)|(show(Addr.add _ _).block≠_;rw[add_block];exact hn418_0)|exact hn418_0) (.int .i64 d1)).trans d4;replace e3:=(cell_far (p:=⟨a8,(a2:Int).toNat*2+1,none⟩) (by first|(rw[add_block];exact hn418_0)|(show(Addr.add _ _).block≠_;rw[add_block];exact hn418_0)|exact hn418_0) (.int .i64 d1)).trans e3;replace e4:=(cell_far (p:=⟨a8,(a2:Int).toNat*2+1,none⟩) (by first|(rw[add_block];exact hn418_0)|(show(Addr.add _ _).block≠_;rw[add_block];exact hn418_0)|exact hn418_0) (.int .i64 d1)).trans e4;replace e5:=(cell_far (p:=⟨a8,(a2:Int).toNat*2+1,none⟩) (by first|(rw[add_block];exact hn418_0)|(show(Addr.add _ _).block≠_;rw[add_block];exact hn418_0)|exact hn418_0) (.int .i64 d1)).trans e5;replace e6:=(cell_far (p:=⟨a8,(a2:Int).toNat*2+1,none⟩) (by first|(rw[add_block];exact hn418_0)|(show(Addr.add _ _).block≠_;rw[add_block];exact hn418_0)|exact hn418_0) (.int .i64 d1)).trans e6;replace e7:=(cell_far (p:=⟨a8,(a2:Int).toNat*2+1,none⟩) (by first|(rw[add_block];exact hn418_0)|(show(Addr.add _ _).block≠_;rw[add_block];exact hn418_0)|exact hn418_0) (.int .i64 d1)).trans e7;replace d5:=(cell_far (p:=⟨a8,(a2:Int).toNat*2+1,none⟩) (by first|(rw[add_block];exact hn418_0)|(show(Addr.add _ _).block≠_;rw[add_block];exact hn418_0)|exact hn418_0) (.int .i64 d1)).trans d5;clear hn418_0;replace m6:=eq_true m6;replace m9:=eq_true m9;have hne_:a4≠a8:=(by have h_:=Kd.R_ne HO_7.out a1.out (by decide);intro e_;exact h_ (by rw[e_];rfl));have M9:=(cell_far (p:=⟨a8,(a2:Int).toNat*2+1,none⟩) (a:=⟨a4,0,none⟩) hne_ (.int .i64 d1)).trans (zc0 a1);have N0:=(cell_far (p:=⟨a8,(a2:Int).toNat*2+1,none⟩) (a:=⟨a4,1,none⟩) hne_ (.int .i64 d1)).trans (zc1 a1);have N1:=(cell_far (p:=⟨a8,(a2:Int).toNat*2+1,none⟩) (a:=⟨a4,2,none⟩) hne_ (.int .i64 d1)).trans (zc2 a1);have N2:=(cell_far (p:=⟨a8,(a2:Int).toNat*2+1,none⟩) (a:=⟨a4,3,none⟩) hne_ (.int .i64 d1)).trans (zc3 a1);have N3:=(cell_far (p:=⟨a8,(a2:Int).toNat*2+1,none⟩) (a:=⟨a4,4,none⟩) hne_ (.int .i64 d1)).trans (zc4 a1)
        try go_wp2
        (try simp only[←hl7_3])
        go_roundg k3
        case measure=>have:=o0.out;have:=x8.out;have:=P1.out;omega
        case rel=>exact⟨(d7),(wrap64 (a2-1)),zi,H',⟨by have:=o0.out;have:=x8.out;have:=P1.out;omega⟩,⟨by(try simp only[hl7_1]);(try simp only[hl7_2]);(try simp only[hl7_3]);(with_reducible repeat(first|apply Kd.R_alloc|apply Kd.R_drewN|apply Kd.R_drew));exact U5.out⟩,⟨by(try simp only[hl7_1]);(try simp only[hl7_2]);(try simp only[hl7_3]);(with_reducible repeat(first|refine blk_drewN ?_ _|refine blk_drew ?_|refine blk_alloc ?_ _));refine blk_far ?_ (by have h_:=Kd.R_ne HO_7.out a1.out (by decide);intro e_;exact h_ (by rw[e_];rfl)) _;(with_reducible repeat(first|refine blk_drewN ?_ _|refine blk_drew ?_|refine blk_alloc ?_ _));exact a1.out⟩,⟨zs2 HB GB66 b8⟩⟩
       replace T2:=Bool.eq_false_iff.mpr T2;subst T2;rw[if_neg zfn]at H;obtain⟨x2,x3⟩: ∃j_:Int,(mx ((rd_T49 d7 a2).f0) (wrap64 (((rd_T49 d7 (c0)).f0)-a9)))=j_:=⟨_,rfl⟩
       first|rw[x3]at H|simp only[x3]at H
       have Z1:(if((rd_T49 d7 a2).f0)<(wrap64 (((rd_T49 d7 (c0)).f0)-a9))then(wrap64 (((rd_T49 d7 (c0)).f0)-a9))else((rd_T49 d7 a2).f0))=x2:=x3;obtain⟨U6,n3⟩: ∃y_:List (S49),y_=(d7.set (a2:Int).toNat (⟨x2,(rd_T49 d7 a2).f1⟩:S49)):=⟨_,rfl⟩
       replace H:(impl_FlyPath_spans.l2 k3 U6 (wrap64 (a2-1)) b1 a9 a5 b4 b5)=some (r1,r2):=by first|(rw[n3];with_reducible exact H)|(have H2_:=(Option.bind_some _ _).symm.trans H;rw[n3];with_reducible exact H2_)|(have H2_:=(Option.bind_some _ _).symm.trans H;with_reducible exact H2_)|with_reducible exact H|(rw[n3];exact H)|exact H
       have U7:=zA n3;clear n3;have H':=zA H;clear H
       try go_wp2
       replace HO_7:=zA (Kd.R_drew HO_7.out);replace a1:=zA (blk_drew a1.out);replace HB:=zA (below_drew1 HB.out);have m4:0≤(a2:Int):=za;have m7:a2<(a6.length:Int):=za;obtain⟨w5,O1,f4,f5⟩:=at_T49 (Kd.R_reads' HO_7.out).2.2 a2 m4 m7;cases O1;replace m4:=eq_true m4;replace m7:=eq_true m7;have m5:0≤((c0):Int):=za;have m8:(c0)<(a6.length:Int):=za;obtain⟨w7,O2,f7,f8⟩:=at_T49 (Kd.R_reads' HO_7.out).2.2 (c0) m5 m8;obtain rfl:w5=w7:=(by injection O2);replace m5:=eq_true m5;replace m8:=eq_true m8;have E3:0≤(a2:Int):=za;have E4:(a2:Int)<((a6.length:Int):Int):=za;obtain⟨a8,co66,w9,x0,gl66,cl66,HG66⟩:=Kd.R_form HO_7.out (by omega);(first|cases w9|(injection w9 with ea_ en_ ec_;(first|subst ea_|(injection ea_ with ea_;subst ea_));subst ec_;clear en_));have GB66:=zA x0;have O3:=zA HG66;clear x0 gl66 HG66;(first|simp only[add_plain]at f4|skip);(first|simp only[add_plain]at f5|skip);(first|simp only[add_plain]at f7|skip);(first|simp only[add_plain]at f8|skip);obtain⟨Z0,x1,hM66,i9,j5⟩:=Kd.R_elem HO_7.out z49 (a2:Int) E3 E4;obtain rfl:=k49_openM hM66;have j9:World.cell? _ ⟨a8,(a2:Int).toNat*2,none⟩=some (.int .i64 ((rd_T49 a6 a2).f0)):=i9 0 _ rfl;have k0:World.cell? _ ⟨a8,(a2:Int).toNat*2+1,none⟩=some (.int .i64 ((rd_T49 a6 a2).f1)):=i9 1 _ rfl;have n8:World.frozen? _ ⟨a8,(a2:Int).toNat*2,none⟩=false:=j5 0;have n9:World.frozen? _ ⟨a8,(a2:Int).toNat*2+1,none⟩=false:=j5 1;clear x1 i9 j5 hM66;replace E3:=eq_true E3;replace E4:=eq_true E4;obtain⟨cm,J8,hM76,J9,U8⟩:=Kd.R_elem HO_7.out z49 (a2:Int) (za) (by have h_:(a2:Int)<((a6.length:Int):Int):=za;first|exact h_|(have e_:=(Kd.R_reads' HO_7.out).1;omega)|simpa using h_);obtain rfl:=k49_openM hM76;have O6:=(Kd.R_seg HO_7.out (a2:Int) (za) (by have h_:(a2:Int)<((a6.length:Int):Int):=za;first|exact h_|(have e_:=(Kd.R_reads' HO_7.out).1;omega)|simpa using h_) (seg:=[.int .i64 d1]) (j:=1) J8 J9 (show 2≤2 from by decide) (x':=(⟨(rd_T49 a6 a2).f0,d1⟩:S49)) (k49_mkM _ _ _ (⟨(rd_T49 a6 a2).f0,d1⟩:S49)) (fun _ hk=>hk)).1;rw[←o6.out]at O6;have O7:=zA O6;clear J8 J9 U8 hM76 O6;refine start_ (n:=21) (S:=fun w'=>w'.cell? ⟨a4,0,none⟩=some (.int .i64 b1)∧w'.cell? ⟨a4,1,none⟩=some (.int .i64 a9)∧w'.cell? ⟨a4,2,none⟩=some (.slice g2 a5.length f9)∧w'.cell? ⟨a4,3,none⟩=some (.int .i64 b4)∧w'.cell? ⟨a4,4,none⟩=some (.int .i64 b5)∧w'.cell? ⟨a8,((a2).toNat*2),none⟩=some (.int .i64 ((rd_T49 a6 a2).f0))∧w'.cell? ⟨a8,((a2).toNat*2)+1,none⟩=some (.int .i64 ((rd_T49 a6 a2).f1))∧w'.cell? ⟨a8,(((c0)).toNat*2),none⟩=some (.int .i64 ((rd_T49 a6 (c0)).f0))∧w'.cell? ⟨a8,(((c0)).toNat*2)+1,none⟩=some (.int .i64 ((rd_T49 a6 (c0)).f1))) (ds:=[20]) #[F,F,F,F,F,F,F,F,F,F,F,F,F,F,F,F,F,F,F,F,F] (by kernel_rfl) rfl rfl ⟨zc0 a1,zc1 a1,zc2 a1,zc3 a1,zc4 a1,f4,f5,f7,f8⟩ (fun hHeld=>?_);refine with_tabW impl_FlyPath_spans.tab19 impl_FlyPath_spans.bits19 (fun HT_ HW_=>?_);generalize wr.drew=cn at HO_7 a1 HB O3 O7 n8 n9 f4 f5 f7 f8 j9 k0 hHeld⊢;refine zq HT_ 0 ?_;refine zq HT_ 1 ?_;refine zq HT_ 2 ?_;refine zq HT_ 3 ?_;refine zq HT_ 4 ?_;refine zq HT_ 5 ?_;refine zq HT_ 7 ?_;refine zq HT_ 8 ?_;refine zq HT_ 9 ?_;refine zq HT_ 10 ?_;refine zq HT_ 11 ?_;refine zq HT_ 13 ?_;refine zq HT_ 14 ?_;refine zk9 HT_ HW_ hHeld 6 ?_;refine zk9 HT_ HW_ hHeld 12 ?_;refine zk9 HT_ HW_ hHeld 15 ?_;refine zq HT_ 16 ?_;refine zq HT_ 17 ?_;refine zq HT_ 18 ?_;refine zq HT_ 19 ?_;refine zO HT_ 20 (fun K hK=>?_);refine skip_ (w1:=?_) (by rfl) rfl ?_ ?_;rotate_left
       ·go_simp
        rfl
       refine hK.out _ _ ?_;clear hK K;refine done_ (done_of HT_.out (by kernel_rfl)) ?_;obtain⟨F0,F1,F2,F3,F4⟩:=zd5 a1;obtain⟨G0,G1,G2,G3,G4⟩:=zn5 a1;have m6:0≤(a2:Int):=za;have m9:a2<(a5.length:Int):=za;obtain⟨n2,O5,d4,e3,e4,e5,e6,e7,d5⟩:=at_T43 j6.out a2 m6 m9;(try rw[←Nbq68.out]at d5);cases O5;have hn418_0:n2.block≠a8:=Nat.ne_of_lt (Nat.lt_of_lt_of_le (by have:=World.block_lt_of_cell? _ _ d4;first|rwa [add_block]at this|exact this) GB66.out);replace d4:=zx HB d4;replace e3:=zx HB e3;replace e4:=zx HB e4;replace e5:=zx HB e5;replace e6:=zx HB e6;replace e7:=zx HB e7;replace d5:=zx HB d5;replace d4:=(cell_far (p:=⟨a8,(a2:Int).toNat*2+1,none⟩) (by first|(rw[add_block];exact hn418_0)|(show(Addr.add _ _).block≠_;rw[add_block];exact hn418_0)|exact hn418_0) (.int .i64 d1)).trans d4;replace e3:=(cell_far (p:=⟨a8,(a2:Int).toNat*2+1,none⟩) (by first|(rw[add_block];exact hn418_0)|(show(Addr.add _ _).block≠_;rw[add_block];exact hn418_0)|exact hn418_0) (.int .i64 d1)).trans e3;replace e4:=(cell_far (p:=⟨a8,(a2:Int).toNat*2+1,none⟩) (by first|(rw[add_block];exact hn418_0)|(show(Addr.add _ _).block≠_;rw[add_block];exact hn418_0)|exact hn418_0) (.int .i64 d1)).trans e4;replace e5:=(cell_far (p:=⟨a8,(a2:Int).toNat*2+1,none⟩) (by first|(rw[add_block];exact hn418_0)|(show(Addr.add _ _).block≠_;rw[add_block];exact hn418_0)|exact hn418_0) (.int .i64 d1)).trans e5;replace e6:=(cell_far (p:=⟨a8,(a2:Int).toNat*2+1,none⟩) (by first|(rw[add_block];exact hn418_0)|(show(Addr.add _ _).block≠_;rw[add_block];exact hn418_0)|exact hn418_0) (.int .i64 d1)).trans e6;replace e7:=(cell_far (p:=⟨a8,(a2:Int).toNat*2+1,none⟩) (by first|(rw[add_block];exact hn418_0)|(show(Addr.add _ _).block≠_;rw[add_block];exact hn418_0)|exact hn418_0) (.int .i64 d1)).trans e7;replace d5:=(cell_far (p:=⟨a8,(a2:Int).toNat*2+1,none⟩) (by first|(rw[add_block];exact hn418_0)|(show(Addr.add _ _).block≠_;rw[add_block];exact hn418_0)|exact hn418_0) (.int .i64 d1)).trans d5;clear hn418_0;replace m6:=eq_true m6;replace m9:=eq_true m9;have hne_:a4≠a8:=(by have h_:=Kd.R_ne HO_7.out a1.out (by decide);intro e_;exact h_ (by rw[e_];rfl));have M9:=(cell_far (p:=⟨a8,(a2:Int).toNat*2+1,none⟩) (a:=⟨a4,0,none⟩) hne_ (.int .i64 d1)).trans (zc0 a1);have N0:=(cell_far (p:=⟨a8,(a2:Int).toNat*2+1,none⟩) (a:=⟨a4,1,none⟩) hne_ (.int .i64 d1)).trans (zc1 a1);have N1:=(cell_far (p:=⟨a8,(a2:Int).toNat*2+1,none⟩) (a:=⟨a4,2,none⟩) hne_ (.int .i64 d1)).trans (zc2 a1);have N2:=(cell_far (p:=⟨a8,(a2:Int).toNat*2+1,none⟩) (a:=⟨a4,3,none⟩) hne_ (.int .i64 d1)).trans (zc3 a1);have N3:=(cell_far (p:=⟨a8,(a2:Int).toNat*2+1,none⟩) (a:=⟨a4,4,none⟩) hne_ (.int .i64 d1)).trans (zc4 a1)
       try go_wp2
       obtain⟨W8,e_⟩: ∃x,x=(cn.setCell ⟨a8,(a2:Int).toNat*2+1,none⟩ (.int .i64 d1)):=⟨_,rfl⟩
       have n0_:Aside0 (Kd.R k49 49 W8 w.heap.size (fun _=>True) (.slice (some ⟨a8,0,none⟩) a6.length co10) d7):=by rw[e_];exact⟨zr O7⟩
       have n1_:Aside0 (W8.heap[a4]?=some (.cells #[.int .i64 b1,.int .i64 a9,.slice (some n2) a5.length f9,.int .i64 b4,.int .i64 b5] 27 (0,0))):=by rw[e_];exact⟨by(with_reducible repeat(first|refine blk_drewN ?_ _|refine blk_drew ?_|refine blk_alloc ?_ _));refine blk_far ?_ (by have h_:=Kd.R_ne HO_7.out a1.out (by decide);intro e_;exact h_ (by rw[e_];rfl)) _;(with_reducible repeat(first|refine blk_drewN ?_ _|refine blk_drew ?_|refine blk_alloc ?_ _));exact a1.out⟩
       have n2_:Aside0 (Below w.heap.size w W8):=by rw[e_];exact⟨zs2 HB GB66 b8⟩
       (try clear HO_7);(try clear a1);(try clear HB);rw[←e_];clear e_;have HO_7:=n0_;have a1:=n1_;have HB:=n2_;clear n0_ n1_ n2_;replace HO_7:=zA (Kd.R_drew HO_7.out);replace a1:=zA (blk_drew a1.out);replace HB:=zA (below_drew1 HB.out);have G5:0≤(a2:Int):=za;have G7:a2<(d7.length:Int):=(by have h_:(a2:Int)<((a6.length:Int):Int):=za;first|(have e_:=(Kd.R_reads' HO_7.out).1;omega)|simpa only[o6.out,List.length_set]using h_);have ql419:((a2:Int)<((a6.length:Int):Int))=True:=eq_true (za);obtain⟨U9,Z2,h2,h3⟩:=at_T49 (Kd.R_reads' HO_7.out).2.2 a2 G5 G7;obtain rfl:(⟨a8,0,none⟩:Addr)=U9:=(by injection Z2);(first|simp only[add_plain]at h2|simp only[add_at]at h2|simp only[Addr.add,Nat.zero_add]at h2|skip);(first|simp only[add_plain]at h3|simp only[add_at]at h3|simp only[Addr.add,Nat.zero_add]at h3|skip);replace G5:=eq_true G5;replace G7:=eq_true G7;have G6:0≤((c0):Int):=za;have G8:(c0)<(d7.length:Int):=(by have h_:((c0):Int)<((a6.length:Int):Int):=za;first|(have e_:=(Kd.R_reads' HO_7.out).1;omega)|simpa only[o6.out,List.length_set]using h_);have ql420:(((c0):Int)<((a6.length:Int):Int))=True:=eq_true (za);obtain⟨V0,Z3,h4,h5⟩:=at_T49 (Kd.R_reads' HO_7.out).2.2 (c0) G6 G8;obtain rfl:(⟨a8,0,none⟩:Addr)=V0:=(by injection Z3);(first|simp only[add_plain]at h4|simp only[add_at]at h4|simp only[Addr.add,Nat.zero_add]at h4|skip);(first|simp only[add_plain]at h5|simp only[add_at]at h5|simp only[Addr.add,Nat.zero_add]at h5|skip);replace G6:=eq_true G6;replace G8:=eq_true G8;have T5:0≤(a2:Int):=za;have T9:(a2:Int)<((a6.length:Int):Int):=za;obtain⟨co,V1,hM74,x4,x5⟩:=Kd.R_elem HO_7.out z49 (a2:Int) T5 T9;obtain rfl:=k49_openM hM74;have v8:World.cell? _ ⟨a8,(a2:Int).toNat*2,none⟩=some (.int .i64 ((rd_T49 d7 a2).f0)):=x4 0 _ rfl;have w0:World.cell? _ ⟨a8,(a2:Int).toNat*2+1,none⟩=some (.int .i64 ((rd_T49 d7 a2).f1)):=x4 1 _ rfl;have O8:World.frozen? _ ⟨a8,(a2:Int).toNat*2,none⟩=false:=x5 0;have O9:World.frozen? _ ⟨a8,(a2:Int).toNat*2+1,none⟩=false:=x5 1;clear V1 x4 x5 hM74;replace T5:=eq_true T5;replace T9:=eq_true T9;obtain⟨cp,K0,hM80,K1,V2⟩:=Kd.R_elem HO_7.out z49 (a2:Int) (za) (by have h_:(a2:Int)<((a6.length:Int):Int):=za;first|exact h_|(have e_:=(Kd.R_reads' HO_7.out).1;omega)|simpa using h_);obtain rfl:=k49_openM hM80;have P0:=(Kd.R_seg HO_7.out (a2:Int) (za) (by have h_:(a2:Int)<((a6.length:Int):Int):=za;first|exact h_|(have e_:=(Kd.R_reads' HO_7.out).1;omega)|simpa using h_) (seg:=[.int .i64 x2]) (j:=0) K0 K1 (show 1≤2 from by decide) (x':=(⟨x2,(rd_T49 d7 a2).f1⟩:S49)) (k49_mkM _ _ _ (⟨x2,(rd_T49 d7 a2).f1⟩:S49)) (fun _ hk=>hk)).1;rw[←U7.out]at P0;have V3:=zA P0;clear K0 K1 V2 hM80 P0;refine start_ (n:=21) (S:=fun w'=>w'.cell? ⟨a4,0,none⟩=some (.int .i64 b1)∧w'.cell? ⟨a4,1,none⟩=some (.int .i64 a9)∧w'.cell? ⟨a4,2,none⟩=some (.slice (some n2) a5.length f9)∧w'.cell? ⟨a4,3,none⟩=some (.int .i64 b4)∧w'.cell? ⟨a4,4,none⟩=some (.int .i64 b5)∧w'.cell? ⟨a8,(a2).toNat*2,none⟩=some (.int .i64 ((rd_T49 d7 a2).f0))∧w'.cell? ⟨a8,(a2).toNat*2+1,none⟩=some (.int .i64 ((rd_T49 d7 a2).f1))∧w'.cell? ⟨a8,((c0)).toNat*2,none⟩=some (.int .i64 ((rd_T49 d7 (c0)).f0))∧w'.cell? ⟨a8,((c0)).toNat*2+1,none⟩=some (.int .i64 ((rd_T49 d7 (c0)).f1))) (ds:=[20]) #[F,F,F,F,F,F,F,F,F,F,F,F,F,F,F,F,F,F,F,F,F] (by kernel_rfl) rfl rfl ⟨zc0 a1,zc1 a1,zc2 a1,zc3 a1,zc4 a1,h2,h3,h4,h5⟩ (fun hHeld=>?_);refine with_tabW impl_FlyPath_spans.tab21 impl_FlyPath_spans.bits21 (fun HT_ HW_=>?_);generalize W8.drew=et at HO_7 a1 HB O7 V3 O8 O9 h2 h3 h4 h5 v8 w0 hHeld⊢;refine zq HT_ 0 ?_;refine zq HT_ 1 ?_;refine zq HT_ 2 ?_;refine zq HT_ 3 ?_;refine zq HT_ 4 ?_;refine zq HT_ 5 ?_;refine zq HT_ 7 ?_;refine zq HT_ 8 ?_;refine zq HT_ 9 ?_;refine zq HT_ 10 ?_;refine zq HT_ 11 ?_;refine zq HT_ 13 ?_;refine zq HT_ 14 ?_;refine zk9 HT_ HW_ hHeld 6 ?_;refine zk9 HT_ HW_ hHeld 12 ?_;refine zk9 HT_ HW_ hHeld 15 ?_;refine zq HT_ 16 ?_;refine zq HT_ 17 ?_;refine zq HT_ 18 ?_;refine zq HT_ 19 ?_;refine zO HT_ 20 (fun K hK=>?_);refine skip_ (w1:=?_) (by rfl) rfl ?_ ?_;rotate_left
       ·go_simp
        rfl
       refine hK.out _ _ ?_;clear hK K;refine done_ (done_of HT_.out (by kernel_rfl)) ?_
       try go_wp2
       (try simp only[←hl7_3])
       go_roundg k3
       case measure=>have:=o0.out;have:=x8.out;have:=P1.out;omega
       case rel=>exact⟨(U6),(wrap64 (a2-1)),zi,H',⟨by have:=o0.out;have:=x8.out;have:=P1.out;omega⟩,⟨by(try simp only[hl7_1]);(try simp only[hl7_2]);(try simp only[hl7_3]);(with_reducible repeat(first|apply Kd.R_alloc|apply Kd.R_drewN|apply Kd.R_drew));exact V3.out⟩,⟨by(try simp only[hl7_1]);(try simp only[hl7_2]);(try simp only[hl7_3]);(with_reducible repeat(first|refine blk_drewN ?_ _|refine blk_drew ?_|refine blk_alloc ?_ _));refine blk_far ?_ (by have h_:=Kd.R_ne HO_7.out a1.out (by decide);intro e_;exact h_ (by rw[e_];rfl)) _;(with_reducible repeat(first|refine blk_drewN ?_ _|refine blk_drew ?_|refine blk_alloc ?_ _));exact a1.out⟩,⟨zs2 HB GB66 b8⟩⟩
end Go.Proofs.Ytcokhiclencmdaa.QFnFlyShift
