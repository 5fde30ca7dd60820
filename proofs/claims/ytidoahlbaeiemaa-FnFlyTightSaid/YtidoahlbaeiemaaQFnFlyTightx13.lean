/- The walk of what the law FnFlyTight reaches: laid by a program of this session (ownprint.py). -/
import Derived.Test.YtidoahlbaeiemaaQFnFlyTightx0
import Derived.Test.YtidoahlbaeiemaaQFnFlyTightx12
namespace Go.Proofs.Ytidoahlbaeiemaa.QFnFlyTight
open Go.RowKit Go.Proofs.YtidoahlbaeiemaaW.PrintWords Go.Proofs.YtidoahlbaeiemaaW.PrintLast Go.Proofs.YtidoahlbaeiemaaW.PrintMore Go.Proofs.Ytidoahlbaeiemaa.Z
attribute [local go_sem] max2_int min2_int max_two min_two max_three min_three max_four min_four zdn   -- for this text's walks alone
set_option linter.unusedVariables false
set_option linter.unusedSimpArgs false
mutual
def impl_FlyPath_spans.l0:Nat→List Int→Int→List (S37)→Int→Int→Int→Int→List (S52)→Int→Int→Option ((List (S37))×Bool)
 |0,_,_,_,_,_,_,_,_,_,_=>none
 |k+1,x1,x6,x7,x20,x21,a0,a1,a2,a3,a4=>if x21<x20 then((impl_FlyPath_bound.f a0 a1 a2 a3 a4 x21).bind fun a6=>(if 0≤x21 then(if x21<(x7.length:Int)then((some (x7.set (x21:Int).toNat (⟨a6.1,(rd_T37 x7 x21).f1⟩:S37):List (S37))).bind fun a7=>((some (a7.set (x21:Int).toNat (⟨(rd_T37 a7 x21).f0,a6.2⟩:S37):List (S37))).bind fun a5=>(if x21<(x1.length:Int)then((some (a5.set (x21:Int).toNat (⟨mx ((rd_T37 a5 x21).f0) (rd x1 x21),(rd_T37 a5 x21).f1⟩:S37):List (S37))).bind fun a8=>(impl_FlyPath_spans.l0 k x1 x6 (a8.set (x21:Int).toNat (⟨(rd_T37 a8 x21).f0,mn ((rd_T37 a5 x21).f1) (rd x1 x21)⟩:S37)) x20 (wrap64 (x21+1)) a0 a1 a2 a3 a4))else(impl_FlyPath_spans.l0 k x1 x6 a5 x20 (wrap64 (x21+1)) a0 a1 a2 a3 a4))))else(none))else(none)))else(impl_FlyPath_spans.l1 k x6 x7 1 a0 a1 a2 a3 a4)
def impl_FlyPath_spans.l1:Nat→Int→List (S37)→Int→Int→Int→List (S52)→Int→Int→Option ((List (S37))×Bool)
 |0,_,_,_,_,_,_,_,_=>none
 |k+1,x6,x7,x9,a1,a2,a0,a3,a4=>if x9≤x6 then(if 0≤x9 then(if x9<(x7.length:Int)then(if 0≤(wrap64 (x9-1))then(if(wrap64 (x9-1))<(x7.length:Int)then((some (x7.set (x9:Int).toNat (⟨mx ((rd_T37 x7 x9).f0) (wrap64 (((rd_T37 x7 (wrap64 (x9-1))).f0)+a1)),(rd_T37 x7 x9).f1⟩:S37):List (S37))).bind fun a5=>(if(wrap64 (x9-1))<(a0.length:Int)then(if((rd_T52 a0 (wrap64 (x9-1))).f6=true)then(impl_FlyPath_spans.l1 k x6 a5 (wrap64 (x9+1)) a1 a2 a0 a3 a4)else(impl_FlyPath_spans.l1 k x6 (a5.set (x9:Int).toNat (⟨(rd_T37 a5 x9).f0,mn ((rd_T37 a5 x9).f1) (wrap64 (((rd_T37 a5 (wrap64 (x9-1))).f1)+a2))⟩:S37)) (wrap64 (x9+1)) a1 a2 a0 a3 a4))else(none)))else(none))else(none))else(none))else(none))else(impl_FlyPath_spans.l2 k x7 (wrap64 (x6-1)) a1 a2 a0 a3 a4)
def impl_FlyPath_spans.l2:Nat→List (S37)→Int→Int→Int→List (S52)→Int→Int→Option ((List (S37))×Bool)
 |0,_,_,_,_,_,_,_=>none
 |k+1,x7,x10,a1,a2,a0,a3,a4=>if x10≥0 then(if 0≤x10 then(if x10<(x7.length:Int)then(if 0≤(wrap64 (x10+1))then(if(wrap64 (x10+1))<(x7.length:Int)then((some (x7.set (x10:Int).toNat (⟨(rd_T37 x7 x10).f0,mn ((rd_T37 x7 x10).f1) (wrap64 (((rd_T37 x7 (wrap64 (x10+1))).f1)-a1))⟩:S37):List (S37))).bind fun a5=>(if x10<(a0.length:Int)then(if((rd_T52 a0 x10).f6=true)then(impl_FlyPath_spans.l2 k a5 (wrap64 (x10-1)) a1 a2 a0 a3 a4)else(impl_FlyPath_spans.l2 k (a5.set (x10:Int).toNat (⟨mx ((rd_T37 a5 x10).f0) (wrap64 (((rd_T37 a5 (wrap64 (x10+1))).f0)-a2)),(rd_T37 a5 x10).f1⟩:S37)) (wrap64 (x10-1)) a1 a2 a0 a3 a4))else(none)))else(none))else(none))else(none))else(none))else(impl_FlyPath_spans.l3 k x7 x7 (x7.length:Int) 0)
def impl_FlyPath_spans.l3:Nat→List (S37)→List (S37)→Int→Int→Option ((List (S37))×Bool)
 |0,_,_,_,_=>none
 |k+1,x7,a1,a2,a0=>if a0<a2 then(if 0≤a0 then(if a0<(a1.length:Int)then(if((rd_T37 a1 a0).f0)>((rd_T37 a1 a0).f1)then(some (([]:List (S37)),false))else(impl_FlyPath_spans.l3 k x7 a1 a2 (wrap64 (a0+1))))else(none))else(none))else(some (x7,true))
end
def impl_FlyPath_spans.f (k:Nat) (a2:Int) (a3:Int) (a0:List (S52)) (a4:Int) (a5:Int) (l1:List Int):Option ((List (S37))×Bool):=if 0≤(wrap64 ((a0.length:Int)+1))then(if(wrap64 ((a0.length:Int)+1):Int).toNat≤17592186044416 then((some (List.replicate (wrap64 ((a0.length:Int)+1):Int).toNat z37:List (S37))).bind fun a1=>(impl_FlyPath_spans.l0 k l1 (a0.length:Int) a1 (a1.length:Int) 0 a2 a3 a0 a4 a5))else(none))else(none)
def impl_FlyPath_spans.T8:Bool×List (List Nat×List Nat):=(true,[([],[]),([],[]),([],[]),([],[]),([],[]),([],[]),([4,5],[4,5]),([6],[6]),([7],[7]),([],[]),([],[]),([9,10],[9,10]),([11],[11]),([8,12],[8,12]),([],[]),([],[]),([14,15],[14,15]),([16],[16]),([17],[17]),([],[]),([],[]),([19,20],[19,20]),([21],[21]),([18,22],[18,22]),([0,1,0,1,4,5,6,7,8,9,10,11,12,13,18,22],[0,1]),([24,0,1,4,5,6,7,8,9,10,11,12,13,18,22],[24]),([25,13,0,1,4,5,6,7,8,9,10,11,12,13,18,22],[13,25]),([2,3,0,1,2,3,4,5,6,7,8,9,10,11,12,13,14,15,16,17,18,19,20,21,22,23,24,25,26],[2,3]),([27,0,1,2,3,4,5,6,7,8,9,10,11,12,13,14,15,16,17,18,19,20,21,22,23,24,25,26],[27]),([28,23,26,0,1,2,3,4,5,6,7,8,9,10,11,12,13,14,15,16,17,18,19,20,21,22,23,24,25,26],[23,28])])
def impl_FlyPath_spans.B8:List Nat:=[0,0,0,0,0,0,48,112,240,0,0,1536,3584,8176,0,0,49152,114688,245760,0,0,1572864,3670016,8372224,8388595,25165811,58720243,134217727,268435455,536870911]
theorem impl_FlyPath_spans.tab8:rtab .any (opsOf Try.f17 8)=impl_FlyPath_spans.T8:=by kernel_rfl
theorem impl_FlyPath_spans.bits8:waitsOk impl_FlyPath_spans.T8.2 impl_FlyPath_spans.B8=true:=by kernel_rfl
def impl_FlyPath_spans.T13:Bool×List (List Nat×List Nat):=(true,[([],[]),([],[]),([],[]),([],[]),([2,3],[2,3]),([4],[4]),([5],[5]),([],[]),([],[]),([8],[8]),([7,9],[7,9]),([10],[10]),([11],[11]),([],[]),([13],[13]),([14],[14]),([12,15],[12,15]),([6,16],[6,16]),([0,1,0,1,2,3,4,5,6,7,8,9,10,11,12,13,14,15,16,17],[0,1]),([18,0,1,2,3,4,5,6,7,8,9,10,11,12,13,14,15,16,17],[18]),([19,17,0,1,2,3,4,5,6,7,8,9,10,11,12,13,14,15,16,17],[17,19])])
def impl_FlyPath_spans.B13:List Nat:=[0,0,0,0,12,28,60,0,0,256,896,1920,3968,0,8192,24576,65408,131068,262143,524287,1048575]
theorem impl_FlyPath_spans.tab13:rtab .any (opsOf Try.f17 13)=impl_FlyPath_spans.T13:=by kernel_rfl
theorem impl_FlyPath_spans.bits13:waitsOk impl_FlyPath_spans.T13.2 impl_FlyPath_spans.B13=true:=by kernel_rfl
def impl_FlyPath_spans.T15:Bool×List (List Nat×List Nat):=(true,[([],[]),([],[]),([],[]),([],[]),([2,3],[2,3]),([4],[4]),([5],[5]),([],[]),([],[]),([8],[8]),([7,9],[7,9]),([10],[10]),([11],[11]),([],[]),([13],[13]),([14],[14]),([12,15],[12,15]),([6,16],[6,16]),([0,1,0,1,2,3,4,5,6,7,8,9,10,11,12,13,14,15,16,17],[0,1]),([18,0,1,2,3,4,5,6,7,8,9,10,11,12,13,14,15,16,17],[18]),([19,17,0,1,2,3,4,5,6,7,8,9,10,11,12,13,14,15,16,17],[17,19])])
def impl_FlyPath_spans.B15:List Nat:=[0,0,0,0,12,28,60,0,0,256,896,1920,3968,0,8192,24576,65408,131068,262143,524287,1048575]
theorem impl_FlyPath_spans.tab15:rtab .any (opsOf Try.f17 15)=impl_FlyPath_spans.T15:=by kernel_rfl
theorem impl_FlyPath_spans.bits15:waitsOk impl_FlyPath_spans.T15.2 impl_FlyPath_spans.B15=true:=by kernel_rfl
def impl_FlyPath_spans.T19:Bool×List (List Nat×List Nat):=(true,[([],[]),([],[]),([],[]),([],[]),([2,3],[2,3]),([4],[4]),([5],[5]),([],[]),([],[]),([8],[8]),([7,9],[7,9]),([10],[10]),([11],[11]),([],[]),([13],[13]),([14],[14]),([12,15],[12,15]),([6,16],[6,16]),([0,1,0,1,2,3,4,5,6,7,8,9,10,11,12,13,14,15,16,17],[0,1]),([18,0,1,2,3,4,5,6,7,8,9,10,11,12,13,14,15,16,17],[18]),([19,17,0,1,2,3,4,5,6,7,8,9,10,11,12,13,14,15,16,17],[17,19])])
def impl_FlyPath_spans.B19:List Nat:=[0,0,0,0,12,28,60,0,0,256,896,1920,3968,0,8192,24576,65408,131068,262143,524287,1048575]
theorem impl_FlyPath_spans.tab19:rtab .any (opsOf Try.f17 19)=impl_FlyPath_spans.T19:=by kernel_rfl
theorem impl_FlyPath_spans.bits19:waitsOk impl_FlyPath_spans.T19.2 impl_FlyPath_spans.B19=true:=by kernel_rfl
def impl_FlyPath_spans.T21:Bool×List (List Nat×List Nat):=(true,[([],[]),([],[]),([],[]),([],[]),([2,3],[2,3]),([4],[4]),([5],[5]),([],[]),([],[]),([8],[8]),([7,9],[7,9]),([10],[10]),([11],[11]),([],[]),([13],[13]),([14],[14]),([12,15],[12,15]),([6,16],[6,16]),([0,1,0,1,2,3,4,5,6,7,8,9,10,11,12,13,14,15,16,17],[0,1]),([18,0,1,2,3,4,5,6,7,8,9,10,11,12,13,14,15,16,17],[18]),([19,17,0,1,2,3,4,5,6,7,8,9,10,11,12,13,14,15,16,17],[17,19])])
def impl_FlyPath_spans.B21:List Nat:=[0,0,0,0,12,28,60,0,0,256,896,1920,3968,0,8192,24576,65408,131068,262143,524287,1048575]
theorem impl_FlyPath_spans.tab21:rtab .any (opsOf Try.f17 21)=impl_FlyPath_spans.T21:=by kernel_rfl
theorem impl_FlyPath_spans.bits21:waitsOk impl_FlyPath_spans.T21.2 impl_FlyPath_spans.B21=true:=by kernel_rfl
set_option maxHeartbeats 8000000 in
set_option maxRecDepth 100000 in
theorem impl_FlyPath_spans.calls (k:Nat) (b1:Int) (a9:Int) (g2:Option Addr) (f9:Nat) (a5:List (S52)) (b4:Int) (b5:Int) (A1:Option Addr) (c1:Nat) (l1:List Int) (r1:List (S37)) (r2:Bool) (w:World) (hr0_2:Kd.C k52 w g2 a5.length a5) (hc0_2:a5.length≤f9) (hr1:Kd.C (Kd.int .i64) w A1 l1.length l1) (hc1:l1.length≤c1) (h:impl_FlyPath_spans.f k b1 a9 a5 b4 b5 l1=some (r1,r2)):
 Calls Try.prog 17 #[.agg #[.int .i64 b1,.int .i64 a9,.slice g2 a5.length f9,.int .i64 b4,.int .i64 b5],.slice A1 l1.length c1] w fun e w'=> ∃v0_:Value,e= .returned (.tuple #[v0_,.bool r2])∧Kd.R k37 37 w' w.heap.size (fun _=>True) v0_ r1∧Below w.heap.size w w':=by
 have ar:=Try.underlying27;have au:=Try.underlying37;have j5:=zA hr0_2;have H2:=zA hc0_2;clear hr0_2 hc0_2;have Z5:=zA hr1;have cq:=zA hc1;clear hr1 hc1;have HB:=zA (Below.refl w.heap.size w);have H:=h;clear h;unfold impl_FlyPath_spans.f at H;obtain⟨H3,o7⟩: ∃j_:Int,(wrap64 ((a5.length:Int)+1))=j_:=⟨_,rfl⟩
 first|rw[o7]at H|simp only[o7]at H
 have Z6:(IntKind.i64.wrap ((a5.length:Int)+1))=H3:=(i64_w _).trans o7
 by_cases c4:0≤(H3)
 rotate_left
 ·rw[if_neg c4]at H
  exact absurd H (by simp)
 rw[if_pos c4]at H;have P5:=eq_true c4;have P6:decide (0≤(H3))=true:=decide_eq_true c4;clear c4
 by_cases c5:(H3:Int).toNat≤17592186044416
 rotate_left
 ·rw[if_neg c5]at H
  exact absurd H (by simp)
 rw[if_pos c5]at H;have P7:=eq_true c5;have P8:decide ((H3:Int).toNat≤17592186044416)=true:=decide_eq_true c5;clear c5;obtain⟨h6,k0⟩: ∃y_:List (S37),y_=(List.replicate (H3:Int).toNat z37):=⟨_,rfl⟩
 replace H:(impl_FlyPath_spans.l0 k l1 (a5.length:Int) h6 (h6.length:Int) 0 b1 a9 a5 b4 b5)=some (r1,r2):=by first|(rw[k0];with_reducible exact H)|(have H2_:=(Option.bind_some _ _).symm.trans H;rw[k0];with_reducible exact H2_)|(have H2_:=(Option.bind_some _ _).symm.trans H;with_reducible exact H2_)|with_reducible exact H|(rw[k0];exact H)|exact H
 have H4:=zA k0;clear k0;have H':=zA H;clear H
 go_enter Try.func17,Try.ntmps17
 go_wp2_with (first|((with_reducible refine gate_dst (N:=2) rfl ?_);refine zbx 2 #[.int .i64 b1,.int .i64 a9,.slice g2 a5.length f9,.int .i64 b4,.int .i64 b5] 27 ?_;intro a4 hg w6 hbox hb;have a1:=zA hbox;have Z7:=zgs hg (zs0 HB);have b8:=zgs hg (zs0 HB);replace HB:=zE (zs0 HB) hb;clear hb hbox hg;obtain⟨o8,o9,p0,p8,p9⟩:=zd5 a1;obtain⟨q0,q8,q9,r0,r3⟩:=zn5 a1)|((with_reducible refine gate_dst (N:=18) rfl ?_);refine Kd.R_make k37 _ 37 rfl (N:=18) rfl 29 _ _ rfl H3 rfl rfl Try.underlying29 (.agg #[(.int .i64 0),(.int .i64 0)]) 16 info37 rfl (by decide) (by omega) z37 (ok:=fun _=>True) (okp:=fun _=>True) (k37_mkM _ _ _ z37) (fun _ hk=>hk) trivial (za) (Nat.le_trans (Nat.mul_le_mul_right _ (za:H3.toNat≤17592186044416)) (by omega)) (Below.refl _ _) (Nat.le_refl _) ?_;intro av w8 P9 hb hg_ hnew_;clear hg_ hnew_;(first|rw[←H4.out]at P9|(simp only[Int.reduceToNat]at P9;rw[←H4.out]at P9));have H5:=zA (Kd.R_lower P9 (below_size (zs1 HB b8)));replace a1:=zb a1 hb;replace HB:=zE (zs1 HB b8) hb;clear hb P9;obtain⟨Ao10,co10,X0⟩:=Kd.R_slice H5.out;subst X0))
 go_loopg [21] k (fun kq aw w'=> ∃(b0:List (S37)) (a0:Int),aw= .int .i64 a0∧Aside0 (impl_FlyPath_spans.l0 kq l1 (a5.length:Int) b0 (h6.length:Int) a0 b1 a9 a5 b4 b5=some (r1,r2))∧Aside0 (kq≤k)∧Aside0 (Kd.R k37 37 w' w.heap.size (fun _=>True) (.slice Ao10 h6.length co10) b0)∧Aside0 (w'.heap[a4]?=some (.cells #[.int .i64 b1,.int .i64 a9,(.slice g2 a5.length f9),.int .i64 b4,.int .i64 b5] 27 (0,0)))∧Aside0 (Below w.heap.size w w'))
 case atStart=>exact⟨(h6),(0),zi,H',⟨Nat.le_refl _⟩,⟨zr H5⟩,⟨zh a1⟩,⟨zs1 HB b8⟩⟩
 case round=>
  clear H'
  try clear c1
  try clear p2
  try clear c4
  try clear P5
  try clear P6
  try clear c5
  try clear P7
  try clear P8
  try clear p6
  try clear o8 o9 p0 p8 p9 q0 q8 q9 r0 r3
  obtain⟨b0,a0,rfl,HA,n9,HO_7,a1,HB⟩:=hrel;have hl7_1:=(Kd.R_reads' HO_7.out).1;rw[hl7_1]at HO_7;(try simp only[hl7_1]);(try simp only[hl7_1]at a1)
  cases gk with
  |zero=>exact absurd HA.out (by simp[impl_FlyPath_spans.l0])
  |succ k1=>
   have H:=HA.out;clear HA;simp only[impl_FlyPath_spans.l0]at H
   by_cases K3:a0<(h6.length:Int)
   ·rw[if_pos K3]at H
    have k5:decide (a0<(h6.length:Int))=true:=decide_eq_true K3;clear K3;replace H:=Option.bind_eq_some_iff.mp H;obtain⟨⟨i2,i0⟩,Q0,H⟩:=H;replace H:(if 0≤a0 then(if a0<(b0.length:Int)then((some (b0.set (a0:Int).toNat (⟨i2,(rd_T37 b0 a0).f1⟩:S37):List (S37))).bind fun g1=>((some (g1.set (a0:Int).toNat (⟨(rd_T37 g1 a0).f0,i0⟩:S37):List (S37))).bind fun b9=>(if a0<(l1.length:Int)then((some (b9.set (a0:Int).toNat (⟨mx ((rd_T37 b9 a0).f0) (rd l1 a0),(rd_T37 b9 a0).f1⟩:S37):List (S37))).bind fun h7=>(impl_FlyPath_spans.l0 k1 l1 (a5.length:Int) (h7.set (a0:Int).toNat (⟨(rd_T37 h7 a0).f0,mn ((rd_T37 b9 a0).f1) (rd l1 a0)⟩:S37)) (h6.length:Int) (wrap64 (a0+1)) b1 a9 a5 b4 b5))else(impl_FlyPath_spans.l0 k1 l1 (a5.length:Int) b9 (h6.length:Int) (wrap64 (a0+1)) b1 a9 a5 b4 b5))))else(none))else(none))=some (r1,r2):=H;have V5:=zA Q0;clear Q0;replace H:=zif H;obtain⟨Q1,H⟩:=H
    by_cases Q2:a0<(b0.length:Int)
    rotate_left
    ·rw[if_neg Q2]at H
     exact absurd H (by simp)
    rw[if_pos Q2]at H;have Q3:decide (a0<(b0.length:Int))=true:=decide_eq_true Q2;clear Q2;obtain⟨g1,k6⟩: ∃y_:List (S37),y_=(b0.set (a0:Int).toNat (⟨i2,(rd_T37 b0 a0).f1⟩:S37)):=⟨_,rfl⟩
    replace H:((some (g1.set (a0:Int).toNat (⟨(rd_T37 g1 a0).f0,i0⟩:S37):List (S37))).bind fun b9=>(if a0<(l1.length:Int)then((some (b9.set (a0:Int).toNat (⟨mx ((rd_T37 b9 a0).f0) (rd l1 a0),(rd_T37 b9 a0).f1⟩:S37):List (S37))).bind fun h7=>(impl_FlyPath_spans.l0 k1 l1 (a5.length:Int) (h7.set (a0:Int).toNat (⟨(rd_T37 h7 a0).f0,mn ((rd_T37 b9 a0).f1) (rd l1 a0)⟩:S37)) (h6.length:Int) (wrap64 (a0+1)) b1 a9 a5 b4 b5))else(impl_FlyPath_spans.l0 k1 l1 (a5.length:Int) b9 (h6.length:Int) (wrap64 (a0+1)) b1 a9 a5 b4 b5)))=some (r1,r2):=by first|(rw[k6];with_reducible exact H)|(have H2_:=(Option.bind_some _ _).symm.trans H;rw[k6];with_reducible exact H2_)|(have H2_:=(Option.bind_some _ _).symm.trans H;with_reducible exact H2_)|with_reducible exact H|(rw[k6];exact H)|exact H
    have o0:=zA k6;clear k6;obtain⟨b9,k7⟩: ∃y_:List (S37),y_=(g1.set (a0:Int).toNat (⟨(rd_T37 g1 a0).f0,i0⟩:S37)):=⟨_,rfl⟩
    replace H:(if a0<(l1.length:Int)then((some (b9.set (a0:Int).toNat (⟨mx ((rd_T37 b9 a0).f0) (rd l1 a0),(rd_T37 b9 a0).f1⟩:S37):List (S37))).bind fun h7=>(impl_FlyPath_spans.l0 k1 l1 (a5.length:Int) (h7.set (a0:Int).toNat (⟨(rd_T37 h7 a0).f0,mn ((rd_T37 b9 a0).f1) (rd l1 a0)⟩:S37)) (h6.length:Int) (wrap64 (a0+1)) b1 a9 a5 b4 b5))else(impl_FlyPath_spans.l0 k1 l1 (a5.length:Int) b9 (h6.length:Int) (wrap64 (a0+1)) b1 a9 a5 b4 b5))=some (r1,r2):=by first|(rw[k7];with_reducible exact H)|(have H2_:=(Option.bind_some _ _).symm.trans H;rw[k7];with_reducible exact H2_)|(have H2_:=(Option.bind_some _ _).symm.trans H;with_reducible exact H2_)|with_reducible exact H|(rw[k7];exact H)|exact H
    have o1:=zA k7;clear k7
    by_cases K4:a0<(l1.length:Int)
    rotate_left
    ·rw[if_neg K4]at H
     have H6:decide (a0<(l1.length:Int))=false:=decide_eq_false K4;clear K4;have H':=zA H;clear H;obtain⟨y0,y1,y2,y3,y4⟩:=zd5 a1;obtain⟨y5,y6,y7,y8,y9⟩:=zn5 a1
     go_wp2_with (first|((with_reducible refine gate_callee (f:=31) rfl ?_);refine zgl (N:=some 31) Try.func31 #[.agg #[.int .i64 b1,.int .i64 a9,.slice g2 a5.length f9,.int .i64 b4,.int .i64 b5],.int .i64 a0] ?_;(with_reducible refine(impl_FlyPath_bound.calls b1 a9 _ _ a5 b4 b5 a0 i2 i0 _ ?side1 ?side2 V5.out).mono ?_);(case side1=>exact zC j5 HB);(case side2=>exact H2.out);rintro e K5 ⟨rfl,hb⟩;refine⟨_,rfl,?_⟩;replace HO_7:=zA (Kd.R_below (zr HO_7) hb);replace a1:=zb a1 hb;replace HB:=zE (zs1 HB b8) hb;(try clear hb);(try clear hb2);(try clear hk);(try clear hi);have z0:0≤(a0:Int):=za;have z1:(a0:Int)<((b0.length:Int):Int):=za;obtain⟨b6,co15,r4,r5,gl15,cl15,HG15⟩:=Kd.R_form HO_7.out (by omega);(first|cases r4|(injection r4 with ea_ en_ ec_;(first|subst ea_|(injection ea_ with ea_;subst ea_));subst ec_;clear en_));have GB15:=zA r5;have X1:=zA HG15;clear r5 gl15 HG15;obtain⟨X2,r6,hM15,i3,i4⟩:=Kd.R_elem HO_7.out z37 (a0:Int) z0 z1;obtain rfl:=k37_openM hM15;have r7:K5.cell? ⟨b6,(a0:Int).toNat*2,none⟩=some (.int .i64 ((rd_T37 b0 a0).f0)):=i3 0 _ rfl;have r8:K5.cell? ⟨b6,(a0:Int).toNat*2+1,none⟩=some (.int .i64 ((rd_T37 b0 a0).f1)):=i3 1 _ rfl;have K6:K5.frozen? ⟨b6,(a0:Int).toNat*2,none⟩=false:=i4 0;have K7:K5.frozen? ⟨b6,(a0:Int).toNat*2+1,none⟩=false:=i4 1;clear r6 i3 i4 hM15;replace z0:=eq_true z0;replace z1:=eq_true z1;have HX33:=zA (show Kd.R k37 37 K5 w.heap.size (fun _=>True) (.slice (some ⟨b6,0,none⟩) b0.length co10) b0 from(zr HO_7));obtain⟨ax,H7,hM33,r9,H8⟩:=Kd.R_elem HX33.out z37 (a0:Int) (za) (by have h_:(a0:Int)<((b0.length:Int):Int):=za;first|exact h_|(have e_:=(Kd.R_reads' HO_7.out).1;omega)|simpa using h_);obtain rfl:=k37_openM hM33;have K8:=Kd.R_seg HX33.out (a0:Int) (za) (by have h_:(a0:Int)<((b0.length:Int):Int):=za;first|exact h_|(have e_:=(Kd.R_reads' HO_7.out).1;omega)|simpa using h_) (seg:=[.int .i64 i2]) (j:=0) H7 r9 (show 1≤2 from by decide) (x':=(⟨i2,(rd_T37 b0 a0).f1⟩:S37)) (k37_mkM _ _ _ (⟨i2,(rd_T37 b0 a0).f1⟩:S37)) (fun _ hk=>hk);have s0:=r9 0 _ rfl;(try simp only[show(k37).sz=2 from rfl,Nat.mul_one,Nat.add_zero]at s0);have K9:=H8 0;(try simp only[show(k37).sz=2 from rfl,Nat.mul_one,Nat.add_zero]at K9);clear H7 r9 H8 hM33)|((with_reducible refine gate_store (t:=3) (p:=35) rfl ?_);refine store_event (t:=3) (p:=35) (v:=?vo_w34) (w1:=(K5.setCell ⟨b6,(a0:Int).toNat*2,none⟩ (.int .i64 i2))) ?hg ?ho ?hn ?hr ?_;(case ho=>rfl);(case hg=>rfl);(case hn=>rfl);(case hr=>first|(go_simp;done)|(go_simp;rfl));intro x7 hw;have hg:K5.grownBy x7 (some b6):=(by rw[hw];exact K8.2);have hp_:Kd.R k37 37 x7 w.heap.size (fun _=>True) (.slice (some ⟨b6,0,none⟩) b0.length co10) g1:=(by rw[hw,o0.out];exact K8.1);clear K8;replace a1:=zA (blk_grown (g:=a4) (o:= .cells #[.int .i64 b1,.int .i64 a9,.slice g2 a5.length f9,.int .i64 b4,.int .i64 b5] 27 (0,0)) (zh a1) hg (Kd.R_ne HO_7.out a1.out (by decide)));replace HO_7:=zA (hp_);replace HB:=zA ((by rw[hw];exact below_set (HB.out) GB15.out:Below w.heap.size w x7));clear hg hw hp_;have z2:0≤(a0:Int):=za;have z3:(a0:Int)<((b0.length:Int):Int):=za;obtain⟨X3,s1,hM16,i5,i6⟩:=Kd.R_elem HO_7.out z37 (a0:Int) z2 z3;obtain rfl:=k37_openM hM16;have s2:x7.cell? ⟨b6,(a0:Int).toNat*2,none⟩=some (.int .i64 ((rd_T37 g1 a0).f0)):=i5 0 _ rfl;have s3:x7.cell? ⟨b6,(a0:Int).toNat*2+1,none⟩=some (.int .i64 ((rd_T37 g1 a0).f1)):=i5 1 _ rfl;have L0:x7.frozen? ⟨b6,(a0:Int).toNat*2,none⟩=false:=i6 0;have L1:x7.frozen? ⟨b6,(a0:Int).toNat*2+1,none⟩=false:=i6 1;clear s1 i5 i6 hM16;replace z2:=eq_true z2;replace z3:=eq_true z3;have HX35:=zA (show Kd.R k37 37 x7 w.heap.size (fun _=>True) (.slice (some ⟨b6,0,none⟩) b0.length co10) g1 from(zr HO_7));obtain⟨ay,H9,hM35,s4,I0⟩:=Kd.R_elem HX35.out z37 (a0:Int) (za) (by have h_:(a0:Int)<((b0.length:Int):Int):=za;first|exact h_|(have e_:=(Kd.R_reads' HO_7.out).1;omega)|simpa using h_);obtain rfl:=k37_openM hM35;have L2:=Kd.R_seg HX35.out (a0:Int) (za) (by have h_:(a0:Int)<((b0.length:Int):Int):=za;first|exact h_|(have e_:=(Kd.R_reads' HO_7.out).1;omega)|simpa using h_) (seg:=[.int .i64 i0]) (j:=1) H9 s4 (show 2≤2 from by decide) (x':=(⟨(rd_T37 g1 a0).f0,i0⟩:S37)) (k37_mkM _ _ _ (⟨(rd_T37 g1 a0).f0,i0⟩:S37)) (fun _ hk=>hk);have s5:=s4 1 _ rfl;(try simp only[show(k37).sz=2 from rfl,Nat.mul_one,Nat.add_zero]at s5);have L3:=I0 1;(try simp only[show(k37).sz=2 from rfl,Nat.mul_one,Nat.add_zero]at L3);clear H9 s4 I0 hM35)|((with_reducible refine gate_store (t:=3) (p:=37) rfl ?_);refine store_event (t:=3) (p:=37) (v:=?vo_w36) (w1:=(x7.setCell ⟨b6,(a0:Int).toNat*2+1,none⟩ (.int .i64 i0))) ?hg ?ho ?hn ?hr ?_;(case ho=>rfl);(case hg=>rfl);(case hn=>rfl);(case hr=>first|(go_simp;done)|(go_simp;rfl));intro X4 hw;have hg:x7.grownBy X4 (some b6):=(by rw[hw];exact L2.2);have hp_:Kd.R k37 37 X4 w.heap.size (fun _=>True) (.slice (some ⟨b6,0,none⟩) b0.length co10) b9:=(by rw[hw,o1.out];exact L2.1);clear L2;replace a1:=zA (blk_grown (g:=a4) (o:= .cells #[.int .i64 b1,.int .i64 a9,.slice g2 a5.length f9,.int .i64 b4,.int .i64 b5] 27 (0,0)) (zh a1) hg (Kd.R_ne HO_7.out a1.out (by decide)));replace HO_7:=zA (hp_);replace HB:=zA ((by rw[hw];exact below_set (HB.out) GB15.out:Below w.heap.size w X4));clear hg hw hp_))
     (try simp only[←hl7_1])
     go_roundg k1
     case measure=>have:=n9.out;omega
     case rel=>exact⟨(b9),(wrap64 (a0+1)),zi,H',⟨by have:=n9.out;omega⟩,⟨by(try simp only[hl7_1]);(with_reducible repeat(first|apply Kd.R_alloc|apply Kd.R_drewN|apply Kd.R_drew));exact HO_7.out⟩,⟨by(try simp only[hl7_1]);(with_reducible repeat(first|refine blk_drewN ?_ _|refine blk_drew ?_|refine blk_alloc ?_ _));exact a1.out⟩,⟨zs1 HB b8⟩⟩
    rw[if_pos K4]at H;have H6:decide (a0<(l1.length:Int))=true:=decide_eq_true K4;clear K4;obtain⟨s6,o2⟩: ∃j_:Int,(mx ((rd_T37 b9 a0).f0) (rd l1 a0))=j_:=⟨_,rfl⟩
    first|rw[o2]at H|simp only[o2]at H
    (try rw[o2]at V5);have X5:(if((rd_T37 b9 a0).f0)<(rd l1 a0)then(rd l1 a0)else((rd_T37 b9 a0).f0))=s6:=o2;obtain⟨o6,o3⟩: ∃j_:Int,(mn ((rd_T37 b9 a0).f1) (rd l1 a0))=j_:=⟨_,rfl⟩
    first|rw[o3]at H|simp only[o3]at H
    (try rw[o3]at V5);have X6:(if(rd l1 a0)<((rd_T37 b9 a0).f1)then(rd l1 a0)else((rd_T37 b9 a0).f1))=o6:=o3;obtain⟨h7,k8⟩: ∃y_:List (S37),y_=(b9.set (a0:Int).toNat (⟨s6,(rd_T37 b9 a0).f1⟩:S37)):=⟨_,rfl⟩
    replace H:(impl_FlyPath_spans.l0 k1 l1 (a5.length:Int) (h7.set (a0:Int).toNat (⟨(rd_T37 h7 a0).f0,o6⟩:S37)) (h6.length:Int) (wrap64 (a0+1)) b1 a9 a5 b4 b5)=some (r1,r2):=by first|(rw[k8];with_reducible exact H)|(have H2_:=(Option.bind_some _ _).symm.trans H;rw[k8];with_reducible exact H2_)|(have H2_:=(Option.bind_some _ _).symm.trans H;with_reducible exact H2_)|with_reducible exact H|(rw[k8];exact H)|exact H
    have Q4:=zA k8;clear k8;obtain⟨Q5,k9⟩: ∃y_:List (S37),y_=(h7.set (a0:Int).toNat (⟨(rd_T37 h7 a0).f0,o6⟩:S37)):=⟨_,rfl⟩
    replace H:(impl_FlyPath_spans.l0 k1 l1 (a5.length:Int) Q5 (h6.length:Int) (wrap64 (a0+1)) b1 a9 a5 b4 b5)=some (r1,r2):=by first|(rw[k9];with_reducible exact H)|(have H2_:=(Option.bind_some _ _).symm.trans H;rw[k9];with_reducible exact H2_)|(have H2_:=(Option.bind_some _ _).symm.trans H;with_reducible exact H2_)|with_reducible exact H|(rw[k9];exact H)|exact H
    have Q6:=zA k9;clear k9;have H':=zA H;clear H;obtain⟨z4,z5,z6,z7,z8⟩:=zd5 a1;obtain⟨z9,A0,A2,A3,A4⟩:=zn5 a1
    try go_wp2_with (first|((with_reducible refine gate_callee (f:=31) rfl ?_);refine zgl (N:=some 31) Try.func31 #[.agg #[.int .i64 b1,.int .i64 a9,.slice g2 a5.length f9,.int .i64 b4,.int .i64 b5],.int .i64 a0] ?_;(with_reducible refine(impl_FlyPath_bound.calls b1 a9 _ _ a5 b4 b5 a0 i2 i0 _ ?side1 ?side2 V5.out).mono ?_);(case side1=>exact zC j5 HB);(case side2=>exact H2.out);rintro e L4 ⟨rfl,hb⟩;refine⟨_,rfl,?_⟩;replace HO_7:=zA (Kd.R_below (zr HO_7) hb);replace a1:=zb a1 hb;replace HB:=zE (zs1 HB b8) hb;(try clear hb);(try clear hb2);(try clear hk);(try clear hi);have z0:0≤(a0:Int):=za;have z1:(a0:Int)<((b0.length:Int):Int):=za;obtain⟨b6,co15,r4,r5,gl15,cl15,HG15⟩:=Kd.R_form HO_7.out (by omega);(first|cases r4|(injection r4 with ea_ en_ ec_;(first|subst ea_|(injection ea_ with ea_;subst ea_));subst ec_;clear en_));have GB15:=zA r5;have X1:=zA HG15;clear r5 gl15 HG15;obtain⟨X2,r6,hM15,i3,i4⟩:=Kd.R_elem HO_7.out z37 (a0:Int) z0 z1;obtain rfl:=k37_openM hM15;have r7:L4.cell? ⟨b6,(a0:Int).toNat*2,none⟩=some (.int .i64 ((rd_T37 b0 a0).f0)):=i3 0 _ rfl;have r8:L4.cell? ⟨b6,(a0:Int).toNat*2+1,none⟩=some (.int .i64 ((rd_T37 b0 a0).f1)):=i3 1 _ rfl;have K6:L4.frozen? ⟨b6,(a0:Int).toNat*2,none⟩=false:=i4 0;have K7:L4.frozen? ⟨b6,(a0:Int).toNat*2+1,none⟩=false:=i4 1;clear r6 i3 i4 hM15;replace z0:=eq_true z0;replace z1:=eq_true z1;have HX24:=zA (show Kd.R k37 37 L4 w.heap.size (fun _=>True) (.slice (some ⟨b6,0,none⟩) b0.length co10) b0 from(zr HO_7));obtain⟨az,I1,hM24,s7,I2⟩:=Kd.R_elem HX24.out z37 (a0:Int) (za) (by have h_:(a0:Int)<((b0.length:Int):Int):=za;first|exact h_|(have e_:=(Kd.R_reads' HO_7.out).1;omega)|simpa using h_);obtain rfl:=k37_openM hM24;have L5:=Kd.R_seg HX24.out (a0:Int) (za) (by have h_:(a0:Int)<((b0.length:Int):Int):=za;first|exact h_|(have e_:=(Kd.R_reads' HO_7.out).1;omega)|simpa using h_) (seg:=[.int .i64 i2]) (j:=0) I1 s7 (show 1≤2 from by decide) (x':=(⟨i2,(rd_T37 b0 a0).f1⟩:S37)) (k37_mkM _ _ _ (⟨i2,(rd_T37 b0 a0).f1⟩:S37)) (fun _ hk=>hk);have s8:=s7 0 _ rfl;(try simp only[show(k37).sz=2 from rfl,Nat.mul_one,Nat.add_zero]at s8);have L6:=I2 0;(try simp only[show(k37).sz=2 from rfl,Nat.mul_one,Nat.add_zero]at L6);clear I1 s7 I2 hM24)|((with_reducible refine gate_store (t:=3) (p:=35) rfl ?_);refine store_event (t:=3) (p:=35) (v:=?vo_w25) (w1:=(L4.setCell ⟨b6,(a0:Int).toNat*2,none⟩ (.int .i64 i2))) ?hg ?ho ?hn ?hr ?_;(case ho=>rfl);(case hg=>rfl);(case hn=>rfl);(case hr=>first|(go_simp;done)|(go_simp;rfl));intro x8 hw;have hg:L4.grownBy x8 (some b6):=(by rw[hw];exact L5.2);have hp_:Kd.R k37 37 x8 w.heap.size (fun _=>True) (.slice (some ⟨b6,0,none⟩) b0.length co10) g1:=(by rw[hw,o0.out];exact L5.1);clear L5;replace a1:=zA (blk_grown (g:=a4) (o:= .cells #[.int .i64 b1,.int .i64 a9,.slice g2 a5.length f9,.int .i64 b4,.int .i64 b5] 27 (0,0)) (zh a1) hg (Kd.R_ne HO_7.out a1.out (by decide)));replace HO_7:=zA (hp_);replace HB:=zA ((by rw[hw];exact below_set (HB.out) GB15.out:Below w.heap.size w x8));clear hg hw hp_;have z2:0≤(a0:Int):=za;have z3:(a0:Int)<((b0.length:Int):Int):=za;obtain⟨X3,s1,hM16,i5,i6⟩:=Kd.R_elem HO_7.out z37 (a0:Int) z2 z3;obtain rfl:=k37_openM hM16;have s2:x8.cell? ⟨b6,(a0:Int).toNat*2,none⟩=some (.int .i64 ((rd_T37 g1 a0).f0)):=i5 0 _ rfl;have s3:x8.cell? ⟨b6,(a0:Int).toNat*2+1,none⟩=some (.int .i64 ((rd_T37 g1 a0).f1)):=i5 1 _ rfl;have L0:x8.frozen? ⟨b6,(a0:Int).toNat*2,none⟩=false:=i6 0;have L1:x8.frozen? ⟨b6,(a0:Int).toNat*2+1,none⟩=false:=i6 1;clear s1 i5 i6 hM16;replace z2:=eq_true z2;replace z3:=eq_true z3;have HX26:=zA (show Kd.R k37 37 x8 w.heap.size (fun _=>True) (.slice (some ⟨b6,0,none⟩) b0.length co10) g1 from(zr HO_7));obtain⟨ba,I3,hM26,s9,I4⟩:=Kd.R_elem HX26.out z37 (a0:Int) (za) (by have h_:(a0:Int)<((b0.length:Int):Int):=za;first|exact h_|(have e_:=(Kd.R_reads' HO_7.out).1;omega)|simpa using h_);obtain rfl:=k37_openM hM26;have L7:=Kd.R_seg HX26.out (a0:Int) (za) (by have h_:(a0:Int)<((b0.length:Int):Int):=za;first|exact h_|(have e_:=(Kd.R_reads' HO_7.out).1;omega)|simpa using h_) (seg:=[.int .i64 i0]) (j:=1) I3 s9 (show 2≤2 from by decide) (x':=(⟨(rd_T37 g1 a0).f0,i0⟩:S37)) (k37_mkM _ _ _ (⟨(rd_T37 g1 a0).f0,i0⟩:S37)) (fun _ hk=>hk);have t0:=s9 1 _ rfl;(try simp only[show(k37).sz=2 from rfl,Nat.mul_one,Nat.add_zero]at t0);have L8:=I4 1;(try simp only[show(k37).sz=2 from rfl,Nat.mul_one,Nat.add_zero]at L8);clear I3 s9 I4 hM26)|((with_reducible refine gate_store (t:=3) (p:=37) rfl ?_);refine store_event (t:=3) (p:=37) (v:=?vo_w27) (w1:=(x8.setCell ⟨b6,(a0:Int).toNat*2+1,none⟩ (.int .i64 i0))) ?hg ?ho ?hn ?hr ?_;(case ho=>rfl);(case hg=>rfl);(case hn=>rfl);(case hr=>first|(go_simp;done)|(go_simp;rfl));intro V6 hw;have hg:x8.grownBy V6 (some b6):=(by rw[hw];exact L7.2);have hp_:Kd.R k37 37 V6 w.heap.size (fun _=>True) (.slice (some ⟨b6,0,none⟩) b0.length co10) b9:=(by rw[hw,o1.out];exact L7.1);clear L7;replace a1:=zA (blk_grown (g:=a4) (o:= .cells #[.int .i64 b1,.int .i64 a9,.slice g2 a5.length f9,.int .i64 b4,.int .i64 b5] 27 (0,0)) (zh a1) hg (Kd.R_ne HO_7.out a1.out (by decide)));replace HO_7:=zA (hp_);replace HB:=zA ((by rw[hw];exact below_set (HB.out) GB15.out:Below w.heap.size w V6));clear hg hw hp_))
    replace HO_7:=zA (Kd.R_drew HO_7.out);replace a1:=zA (blk_drew a1.out);replace HB:=zA (below_drew1 HB.out);have A5:0≤(a0:Int):=za;have A6:a0<(b9.length:Int):=(by have h_:(a0:Int)<((b0.length:Int):Int):=za;first|(have e_:=(Kd.R_reads' HO_7.out).1;omega)|simpa only[o0.out,o1.out,List.length_set]using h_);have ql374:((a0:Int)<((b0.length:Int):Int))=True:=eq_true (za);obtain⟨Q7,X7,g4,g5⟩:=at_T37 (Kd.R_reads' HO_7.out).2.2 a0 A5 A6;obtain rfl:(⟨b6,0,none⟩:Addr)=Q7:=(by injection X7);(first|simp only[add_plain]at g4|simp only[add_at]at g4|simp only[Addr.add,Nat.zero_add]at g4|skip);(first|simp only[add_plain]at g5|simp only[add_at]at g5|simp only[Addr.add,Nat.zero_add]at g5|skip);replace A5:=eq_true A5;replace A6:=eq_true A6;have A7:0≤(a0:Int):=za;have A8:a0<(l1.length:Int):=za;obtain⟨t1,X8,h8⟩:=Kd.at_int Z5.out a0 A7 A8;have hw375_0:=h8;cases X8;replace h8:=zx HB h8;replace A7:=eq_true A7;replace A8:=eq_true A8;have A9:0≤(a0:Int):=za;have B0:a0<(b9.length:Int):=(by have h_:(a0:Int)<((b0.length:Int):Int):=za;first|(have e_:=(Kd.R_reads' HO_7.out).1;omega)|simpa only[o0.out,o1.out,List.length_set]using h_);have ql376:((a0:Int)<((b0.length:Int):Int))=True:=eq_true (za);obtain⟨Q8,X9,g6,g7⟩:=at_T37 (Kd.R_reads' HO_7.out).2.2 a0 A9 B0;obtain rfl:(⟨b6,0,none⟩:Addr)=Q8:=(by injection X9);(first|simp only[add_plain]at g6|simp only[add_at]at g6|simp only[Addr.add,Nat.zero_add]at g6|skip);(first|simp only[add_plain]at g7|simp only[add_at]at g7|simp only[Addr.add,Nat.zero_add]at g7|skip);replace A9:=eq_true A9;replace B0:=eq_true B0;have B1:0≤(a0:Int):=za;have B2:a0<(l1.length:Int):=za;obtain⟨Q9,Y0,h9⟩:=Kd.at_int Z5.out a0 B1 B2;have hw377_0:=h9;obtain rfl:t1=Q9:=(by injection Y0);replace h9:=zx HB h9;replace B1:=eq_true B1;replace B2:=eq_true B2;have R0:0≤(a0:Int):=za;have R1:(a0:Int)<((b0.length:Int):Int):=za;obtain⟨bb,R2,hM20,t2,t3⟩:=Kd.R_elem HO_7.out z37 (a0:Int) R0 R1;obtain rfl:=k37_openM hM20;have t4:World.cell? _ ⟨b6,(a0:Int).toNat*2,none⟩=some (.int .i64 ((rd_T37 b9 a0).f0)):=t2 0 _ rfl;have t5:World.cell? _ ⟨b6,(a0:Int).toNat*2+1,none⟩=some (.int .i64 ((rd_T37 b9 a0).f1)):=t2 1 _ rfl;have L9:World.frozen? _ ⟨b6,(a0:Int).toNat*2,none⟩=false:=t3 0;have M0:World.frozen? _ ⟨b6,(a0:Int).toNat*2+1,none⟩=false:=t3 1;clear R2 t2 t3 hM20;replace R0:=eq_true R0;replace R1:=eq_true R1;obtain⟨bc,I5,hM29,I6,R3⟩:=Kd.R_elem HO_7.out z37 (a0:Int) (za) (by have h_:(a0:Int)<((b0.length:Int):Int):=za;first|exact h_|(have e_:=(Kd.R_reads' HO_7.out).1;omega)|simpa using h_);obtain rfl:=k37_openM hM29;have M1:=(Kd.R_seg HO_7.out (a0:Int) (za) (by have h_:(a0:Int)<((b0.length:Int):Int):=za;first|exact h_|(have e_:=(Kd.R_reads' HO_7.out).1;omega)|simpa using h_) (seg:=[.int .i64 s6]) (j:=0) I5 I6 (show 1≤2 from by decide) (x':=(⟨s6,(rd_T37 b9 a0).f1⟩:S37)) (k37_mkM _ _ _ (⟨s6,(rd_T37 b9 a0).f1⟩:S37)) (fun _ hk=>hk)).1;rw[←Q4.out]at M1;have M2:=zA M1;clear I5 I6 R3 hM29 M1;have V7:0≤(a0:Int):=za;have V8:(a0:Int)<((b0.length:Int):Int):=za;replace V7:=eq_true V7;replace V8:=eq_true V8;obtain⟨bd,I7,hM30,I8,R4⟩:=Kd.R_elem M2.out z37 (a0:Int) (za) (by have h_:(a0:Int)<((b0.length:Int):Int):=za;first|exact h_|(have e_:=(Kd.R_reads' HO_7.out).1;omega)|simpa using h_);obtain rfl:=k37_openM hM30;have M3:=(Kd.R_seg M2.out (a0:Int) (za) (by have h_:(a0:Int)<((b0.length:Int):Int):=za;first|exact h_|(have e_:=(Kd.R_reads' HO_7.out).1;omega)|simpa using h_) (seg:=[.int .i64 o6]) (j:=1) I7 I8 (show 2≤2 from by decide) (x':=(⟨(rd_T37 h7 a0).f0,o6⟩:S37)) (k37_mkM _ _ _ (⟨(rd_T37 h7 a0).f0,o6⟩:S37)) (fun _ hk=>hk)).1;rw[←Q6.out]at M3;have R5:=zA M3;clear I7 I8 R4 hM30 M3;refine start_ (n:=30) (S:=fun w'=>w'.cell? ⟨b6,(a0).toNat*2,none⟩=some (.int .i64 ((rd_T37 b9 a0).f0))∧w'.cell? ⟨b6,(a0).toNat*2+1,none⟩=some (.int .i64 ((rd_T37 b9 a0).f1))∧w'.cell? (t1.add (a0).toNat)=some (.int .i64 (rd l1 a0))∧w'.cell? ⟨b6,(a0).toNat*2,none⟩=some (.int .i64 ((rd_T37 b9 a0).f0))∧w'.cell? ⟨b6,(a0).toNat*2+1,none⟩=some (.int .i64 ((rd_T37 b9 a0).f1))∧w'.cell? (t1.add (a0).toNat)=some (.int .i64 (rd l1 a0))) (ds:=[26,29]) #[F,F,F,F,F,F,F,F,F,F,F,F,F,F,F,F,F,F,F,F,F,F,F,F,F,F,F,F,F,F] (by kernel_rfl) rfl rfl ⟨g4,g5,(zw HB hw375_0),g6,g7,(zw HB hw377_0)⟩ (fun hHeld=>?_);refine with_tabW impl_FlyPath_spans.tab8 impl_FlyPath_spans.bits8 (fun HT_ HW_=>?_)
    generalize V6.drew=cr at HO_7 a1 HB M2 R5 L9 M0 t4 t5 g4 g5 h8 g6 g7 h9 hHeld⊢;refine zq HT_ 0 ?_;refine zq HT_ 1 ?_;refine zq HT_ 2 ?_;refine zq HT_ 3 ?_;refine zq HT_ 4 ?_;refine zq HT_ 5 ?_;refine zq HT_ 6 ?_;refine zq HT_ 7 ?_;refine zq HT_ 9 ?_;refine zq HT_ 10 ?_;refine zq HT_ 11 ?_;refine zq HT_ 14 ?_;refine zq HT_ 15 ?_;refine zq HT_ 16 ?_;refine zq HT_ 17 ?_;refine zq HT_ 19 ?_;refine zq HT_ 20 ?_;refine zq HT_ 21 ?_;refine zk6 HT_ HW_ hHeld 8 ?_;refine zk6 HT_ HW_ hHeld 12 ?_;refine zq HT_ 13 ?_;refine zk6 HT_ HW_ hHeld 18 ?_;refine zk6 HT_ HW_ hHeld 22 ?_;refine zq HT_ 23 ?_;refine zq HT_ 24 ?_;refine zq HT_ 25 ?_;refine zO HT_ 26 (fun K hK=>?_);refine skip_ (w1:=?_) (by rfl) rfl ?_ ?_;rotate_left
    ·go_simp
     rfl
    refine hK.out _ _ ?_;clear hK K;refine zq HT_ 27 ?_;refine zq HT_ 28 ?_;refine zO HT_ 29 (fun K hK=>?_);refine skip_ (w1:=?_) (by rfl) rfl ?_ ?_;rotate_left
    ·go_simp
     rfl
    refine hK.out _ _ ?_;clear hK K;refine done_ (done_of HT_.out (by kernel_rfl)) ?_
    try go_wp2
    (try simp only[←hl7_1])
    go_roundg k1
    case measure=>have:=n9.out;omega
    case rel=>exact⟨(Q5),(wrap64 (a0+1)),zi,H',⟨by have:=n9.out;omega⟩,⟨by(try simp only[hl7_1]);(with_reducible repeat(first|apply Kd.R_alloc|apply Kd.R_drewN|apply Kd.R_drew));exact R5.out⟩,⟨by(try simp only[hl7_1]);(with_reducible repeat(first|refine blk_drewN ?_ _|refine blk_drew ?_|refine blk_alloc ?_ _));refine blk_far ?_ (by have h_:=Kd.R_ne HO_7.out a1.out (by decide);intro e_;exact h_ (by rw[e_];rfl)) _;(with_reducible repeat(first|refine blk_drewN ?_ _|refine blk_drew ?_|refine blk_alloc ?_ _));refine blk_far ?_ (by have h_:=Kd.R_ne HO_7.out a1.out (by decide);intro e_;exact h_ (by rw[e_];rfl)) _;(with_reducible repeat(first|refine blk_drewN ?_ _|refine blk_drew ?_|refine blk_alloc ?_ _));exact a1.out⟩,⟨zs3 HB GB15 GB15 b8⟩⟩
   rw[if_neg K3]at H;have k5:decide (a0<(h6.length:Int))=false:=decide_eq_false K3;(try rw[hl7_1]at k5);(try rw[hl7_2]at k5);(try rw[hl7_3]at k5);clear K3;have H':=zA H;clear H
   go_wp2
   go_loopg [9] k1 (fun kq v9 w'=> ∃(b2:List (S37)) (a3:Int),v9= .int .i64 a3∧Aside0 (impl_FlyPath_spans.l1 kq (a5.length:Int) b2 a3 b1 a9 a5 b4 b5=some (r1,r2))∧Aside0 (kq≤k1)∧Aside0 (Kd.R k37 37 w' w.heap.size (fun _=>True) (.slice Ao10 b0.length co10) b2)∧Aside0 (w'.heap[a4]?=some (.cells #[.int .i64 b1,.int .i64 a9,(.slice g2 a5.length f9),.int .i64 b4,.int .i64 b5] 27 (0,0)))∧Aside0 (Below w.heap.size w w'))
   case atStart=>exact⟨(b0),(1),zi,H',⟨Nat.le_refl _⟩,⟨by(try simp only[hl7_1]);(with_reducible repeat(first|apply Kd.R_alloc|apply Kd.R_drewN|apply Kd.R_drew));exact HO_7.out⟩,⟨by(try simp only[hl7_1]);(with_reducible repeat(first|refine blk_drewN ?_ _|refine blk_drew ?_|refine blk_alloc ?_ _));exact a1.out⟩,⟨zs1 HB b8⟩⟩
   case round=>
    clear H'
    try clear c1
    try clear p1
    try clear q1
    try clear cs
    try clear c2
    try clear p2
    try clear q2
    try clear ct
    try clear cu
    try clear c3
    try clear p3
    try clear q3
    try clear Z8
    try clear cv
    try clear c4
    try clear P5
    try clear P6
    try clear c5
    try clear P7
    try clear P8
    try clear p6
    try clear K3
    try clear k5
    try clear cw
    try clear Q1
    try clear Q2
    try clear Q3
    try clear cx
    try clear z0
    try clear z1
    try clear be
    try clear bf
    try clear cy
    try clear z2
    try clear z3
    try clear bg
    try clear bh
    try clear K4
    try clear H6
    try clear cz
    try clear R0
    try clear R1
    try clear bi
    try clear bj
    try clear V7
    try clear V8
    try clear da
    try clear bk
    try clear bl
    try clear db
    try clear bm
    try clear bn
    try clear dc
    try clear dd
    try clear de
    try clear df
    try clear bo
    try clear bp
    try clear dg
    try clear bq
    try clear br
    try clear z4 z5 z6 z7 z8
    try clear y0 y1 y2 y3 y4
    try clear o8 o9 p0 p8 p9
    try clear z9 A0 A2 A3 A4
    try clear y5 y6 y7 y8 y9
    try clear q0 q8 q9 r0 r3
    try clear r7
    try clear r8
    try clear s2
    try clear s3
    try clear t4
    try clear t5
    try clear s8
    try clear t0
    try clear s0
    try clear s5
    try clear g4
    try clear g5
    try clear h8
    try clear g6
    try clear g7
    try clear h9
    try clear z0
    try clear z2
    try clear p2
    try clear R0
    try clear V7
    try clear A5
    try clear A7
    try clear A9
    try clear B1
    try clear p6
    try clear z1
    try clear z3
    try clear R1
    try clear V8
    try clear A6
    try clear A8
    try clear B0
    try clear B2
    obtain⟨b2,a3,rfl,HA,x9,HO_7,a1,HB⟩:=hrel;have hl7_2:=(Kd.R_reads' HO_7.out).1;rw[hl7_2]at HO_7;(try simp only[hl7_2]);(try simp only[hl7_2]at a1)
    cases gk with
    |zero=>exact absurd HA.out (by simp[impl_FlyPath_spans.l1])
    |succ k2=>
     have H:=HA.out;clear HA;simp only[impl_FlyPath_spans.l1]at H
     by_cases M4:a3≤(a5.length:Int)
     ·rw[if_pos M4]at H
      have I9:decide (a3≤(a5.length:Int))=true:=decide_eq_true M4;clear M4;replace H:=zif H;obtain⟨Z9,H⟩:=H
      by_cases R6:a3<(b2.length:Int)
      rotate_left
      ·rw[if_neg R6]at H
       exact absurd H (by simp)
      rw[if_pos R6]at H;have aa:decide (a3<(b2.length:Int))=true:=decide_eq_true R6;clear R6;obtain⟨b7,t6⟩: ∃j_:Int,(wrap64 (a3-1))=j_:=⟨_,rfl⟩
      first|rw[t6]at H|simp only[t6]at H
      have Y1:(IntKind.i64.wrap (a3-1))=b7:=(i64_w _).trans t6;replace H:=zif H;obtain⟨ab,H⟩:=H
      by_cases R7:(b7)<(b2.length:Int)
      rotate_left
      ·rw[if_neg R7]at H
       exact absurd H (by simp)
      rw[if_pos R7]at H;have ad:decide ((b7)<(b2.length:Int))=true:=decide_eq_true R7;clear R7;obtain⟨d0,t7⟩: ∃j_:Int,(mx ((rd_T37 b2 a3).f0) (wrap64 (((rd_T37 b2 (b7)).f0)+b1)))=j_:=⟨_,rfl⟩
      first|rw[t7]at H|simp only[t7]at H
      have Y2:(if((rd_T37 b2 a3).f0)<(wrap64 (((rd_T37 b2 (b7)).f0)+b1))then(wrap64 (((rd_T37 b2 (b7)).f0)+b1))else((rd_T37 b2 a3).f0))=d0:=t7;obtain⟨d6,l4⟩: ∃y_:List (S37),y_=(b2.set (a3:Int).toNat (⟨d0,(rd_T37 b2 a3).f1⟩:S37)):=⟨_,rfl⟩
      replace H:(if(b7)<(a5.length:Int)then(if((rd_T52 a5 (b7)).f6=true)then(impl_FlyPath_spans.l1 k2 (a5.length:Int) d6 (wrap64 (a3+1)) b1 a9 a5 b4 b5)else(impl_FlyPath_spans.l1 k2 (a5.length:Int) (d6.set (a3:Int).toNat (⟨(rd_T37 d6 a3).f0,mn ((rd_T37 d6 a3).f1) (wrap64 (((rd_T37 d6 (b7)).f1)+a9))⟩:S37)) (wrap64 (a3+1)) b1 a9 a5 b4 b5))else(none))=some (r1,r2):=by first|(rw[l4];with_reducible exact H)|(have H2_:=(Option.bind_some _ _).symm.trans H;rw[l4];with_reducible exact H2_)|(have H2_:=(Option.bind_some _ _).symm.trans H;with_reducible exact H2_)|with_reducible exact H|(rw[l4];exact H)|exact H
      have o4:=zA l4;clear l4;replace H:=zif H;obtain⟨ae,H⟩:=H;obtain⟨bq46,hbq46⟩: ∃b_:Bool,b_=((rd_T52 a5 (b7)).f6):=⟨_,rfl⟩
      replace H:(if(bq46=true)then(impl_FlyPath_spans.l1 k2 (a5.length:Int) d6 (wrap64 (a3+1)) b1 a9 a5 b4 b5)else(impl_FlyPath_spans.l1 k2 (a5.length:Int) (d6.set (a3:Int).toNat (⟨(rd_T37 d6 a3).f0,mn ((rd_T37 d6 a3).f1) (wrap64 (((rd_T37 d6 (b7)).f1)+a9))⟩:S37)) (wrap64 (a3+1)) b1 a9 a5 b4 b5))=some (r1,r2):=by rw[←hbq46]at H;exact H
      have Nbq46:=zA hbq46;clear hbq46
      by_cases R8:(bq46=true)
      ·subst R8
       rw[if_pos rfl]at H;have H':=zA H;clear H
       try go_wp2
       replace HO_7:=zA (Kd.R_drew HO_7.out);replace a1:=zA (blk_drew a1.out);replace HB:=zA (below_drew1 HB.out);have l5:0≤(a3:Int):=za;have l6:a3<(b2.length:Int):=za;obtain⟨t8,M5,e8,e9⟩:=at_T37 (Kd.R_reads' HO_7.out).2.2 a3 l5 l6;cases M5;replace l5:=eq_true l5;replace l6:=eq_true l6;have l7:0≤((b7):Int):=za;have l8:(b7)<(b2.length:Int):=za;obtain⟨t9,M6,f2,f3⟩:=at_T37 (Kd.R_reads' HO_7.out).2.2 (b7) l7 l8;obtain rfl:t8=t9:=(by injection M6);replace l7:=eq_true l7;replace l8:=eq_true l8;have B3:0≤(a3:Int):=za;have B5:(a3:Int)<((b2.length:Int):Int):=za;obtain⟨a7,co44,v0,v1,gl44,cl44,HG44⟩:=Kd.R_form HO_7.out (by omega);(first|cases v0|(injection v0 with ea_ en_ ec_;(first|subst ea_|(injection ea_ with ea_;subst ea_));subst ec_;clear en_));have GB44:=zA v1;have M7:=zA HG44;clear v1 gl44 HG44;(first|simp only[add_plain]at e8|skip);(first|simp only[add_plain]at e9|skip);(first|simp only[add_plain]at f2|skip);(first|simp only[add_plain]at f3|skip);obtain⟨Y3,v2,hM44,i7,i8⟩:=Kd.R_elem HO_7.out z37 (a3:Int) B3 B5;obtain rfl:=k37_openM hM44;have j6:World.cell? _ ⟨a7,(a3:Int).toNat*2,none⟩=some (.int .i64 ((rd_T37 b2 a3).f0)):=i7 0 _ rfl;have j7:World.cell? _ ⟨a7,(a3:Int).toNat*2+1,none⟩=some (.int .i64 ((rd_T37 b2 a3).f1)):=i7 1 _ rfl;have n3:World.frozen? _ ⟨a7,(a3:Int).toNat*2,none⟩=false:=i8 0;have n4:World.frozen? _ ⟨a7,(a3:Int).toNat*2+1,none⟩=false:=i8 1;clear v2 i7 i8 hM44;replace B3:=eq_true B3;replace B5:=eq_true B5;obtain⟨bs,J0,hM49,J1,R9⟩:=Kd.R_elem HO_7.out z37 (a3:Int) (za) (by have h_:(a3:Int)<((b2.length:Int):Int):=za;first|exact h_|(have e_:=(Kd.R_reads' HO_7.out).1;omega)|simpa using h_);obtain rfl:=k37_openM hM49;have M8:=(Kd.R_seg HO_7.out (a3:Int) (za) (by have h_:(a3:Int)<((b2.length:Int):Int):=za;first|exact h_|(have e_:=(Kd.R_reads' HO_7.out).1;omega)|simpa using h_) (seg:=[.int .i64 d0]) (j:=0) J0 J1 (show 1≤2 from by decide) (x':=(⟨d0,(rd_T37 b2 a3).f1⟩:S37)) (k37_mkM _ _ _ (⟨d0,(rd_T37 b2 a3).f1⟩:S37)) (fun _ hk=>hk)).1;rw[←o4.out]at M8;have S0:=zA M8;clear J0 J1 R9 hM49 M8;refine start_ (n:=21) (S:=fun w'=>w'.cell? ⟨a4,0,none⟩=some (.int .i64 b1)∧w'.cell? ⟨a4,1,none⟩=some (.int .i64 a9)∧w'.cell? ⟨a4,2,none⟩=some (.slice g2 a5.length f9)∧w'.cell? ⟨a4,3,none⟩=some (.int .i64 b4)∧w'.cell? ⟨a4,4,none⟩=some (.int .i64 b5)∧w'.cell? ⟨a7,((a3).toNat*2),none⟩=some (.int .i64 ((rd_T37 b2 a3).f0))∧w'.cell? ⟨a7,((a3).toNat*2)+1,none⟩=some (.int .i64 ((rd_T37 b2 a3).f1))∧w'.cell? ⟨a7,(((b7)).toNat*2),none⟩=some (.int .i64 ((rd_T37 b2 (b7)).f0))∧w'.cell? ⟨a7,(((b7)).toNat*2)+1,none⟩=some (.int .i64 ((rd_T37 b2 (b7)).f1))) (ds:=[20]) #[F,F,F,F,F,F,F,F,F,F,F,F,F,F,F,F,F,F,F,F,F] (by kernel_rfl) rfl rfl ⟨zc0 a1,zc1 a1,zc2 a1,zc3 a1,zc4 a1,e8,e9,f2,f3⟩ (fun hHeld=>?_);refine with_tabW impl_FlyPath_spans.tab13 impl_FlyPath_spans.bits13 (fun HT_ HW_=>?_);generalize wr.drew=dh at HO_7 a1 HB M7 S0 n3 n4 e8 e9 f2 f3 j6 j7 hHeld⊢;refine zq HT_ 0 ?_;refine zq HT_ 1 ?_;refine zq HT_ 2 ?_;refine zq HT_ 3 ?_;refine zq HT_ 4 ?_;refine zq HT_ 5 ?_;refine zq HT_ 7 ?_;refine zq HT_ 8 ?_;refine zq HT_ 9 ?_;refine zq HT_ 10 ?_;refine zq HT_ 11 ?_;refine zq HT_ 13 ?_;refine zq HT_ 14 ?_;refine zk9 HT_ HW_ hHeld 6 ?_;refine zk9 HT_ HW_ hHeld 12 ?_;refine zk9 HT_ HW_ hHeld 15 ?_;refine zq HT_ 16 ?_;refine zq HT_ 17 ?_;refine zq HT_ 18 ?_;refine zq HT_ 19 ?_;refine zO HT_ 20 (fun K hK=>?_);refine skip_ (w1:=?_) (by rfl) rfl ?_ ?_;rotate_left
       ·go_simp
        rfl
       refine hK.out _ _ ?_;clear hK K;refine done_ (done_of HT_.out (by kernel_rfl)) ?_;obtain⟨C0,C1,C2,C3,C4⟩:=zd5 a1;obtain⟨C5,C6,C7,C8,C9⟩:=zn5 a1;have l9:0≤((b7):Int):=za;have m0:(b7)<(a5.length:Int):=za;obtain⟨m1,M9,d2,d8,d9,e0,e1,e2,d3⟩:=at_T52 j5.out (b7) l9 m0;(try rw[←Nbq46.out]at d3);cases M9;have hn383_0:m1.block≠a7:=Nat.ne_of_lt (Nat.lt_of_lt_of_le (by have:=World.block_lt_of_cell? _ _ d2;first|rwa [add_block]at this|exact this) GB44.out);replace d2:=zx HB d2;replace d8:=zx HB d8;replace d9:=zx HB d9;replace e0:=zx HB e0;replace e1:=zx HB e1;replace e2:=zx HB e2;replace d3:=zx HB d3;replace d2:=(cell_far (p:=⟨a7,(a3:Int).toNat*2,none⟩) (by first|(rw[add_block];exact hn383_0)|(show(Addr.add _ _).block≠_;rw[add_block];exact hn383_0)|exact hn383_0) (.int .i64 d0)).trans d2;replace d8:=(cell_far (p:=⟨a7,(a3:Int).toNat*2,none⟩) (by first|(rw[add_block];exact hn383_0)|(show(Addr.add _ _).block≠_;rw[add_block];exact hn383_0)|exact hn383_0) (.int .i64 d0)).trans d8;replace d9:=(cell_far (p:=⟨a7,(a3:Int).toNat*2,none⟩) (by first|(rw[add_block];exact hn383_0)|(show(Addr.add _ _).block≠_;rw[add_block];exact hn383_0)|exact hn383_0) (.int .i64 d0)).trans d9;replace e0:=(cell_far (p:=⟨a7,(a3:Int).toNat*2,none⟩) (by first|(rw[add_block];exact hn383_0)|(show(Addr.add _ _).block≠_;rw[add_block];exact hn383_0)|exact hn383_0) (.int .i64 d0)).trans e0;replace e1:=(cell_far (p:=⟨a7,(a3:Int).toNat*2,none⟩) (by first|(rw[add_block];exact hn383_0)|(show(Addr.add _ _).block≠_;rw[add_block];exact hn383_0)|exact hn383_0) (.int .i64 d0)).trans e1;replace e2:=(cell_far (p:=⟨a7,(a3:Int).toNat*2,none⟩) (by first|(rw[add_block];exact hn383_0)|(show(Addr.add _ _).block≠_;rw[add_block];exact hn383_0)|exact hn383_0) (.int .i64 d0)).trans e2;replace d3:=(cell_far (p:=⟨a7,(a3:Int).toNat*2,none⟩) (by first|(rw[add_block];exact hn383_0)|(show(Addr.add _ _).block≠_;rw[add_block];exact hn383_0)|exact hn383_0) (.int .i64 d0)).trans d3;clear hn383_0;replace l9:=eq_true l9;replace m0:=eq_true m0;have hne_:a4≠a7:=(by have h_:=Kd.R_ne HO_7.out a1.out (by decide);intro e_;exact h_ (by rw[e_];rfl));have N0:=(cell_far (p:=⟨a7,(a3:Int).toNat*2,none⟩) (a:=⟨a4,0,none⟩) hne_ (.int .i64 d0)).trans (zc0 a1);have N1:=(cell_far (p:=⟨a7,(a3:Int).toNat*2,none⟩) (a:=⟨a4,1,none⟩) hne_ (.int .i64 d0)).trans (zc1 a1);have N2:=(cell_far (p:=⟨a7,(a3:Int).toNat*2,none⟩) (a:=⟨a4,2,none⟩) hne_ (.int .i64 d0)).trans (zc2 a1);have N3:=(cell_far (p:=⟨a7,(a3:Int).toNat*2,none⟩) (a:=⟨a4,3,none⟩) hne_ (.int .i64 d0)).trans (zc3 a1);have N4:=(cell_far (p:=⟨a7,(a3:Int).toNat*2,none⟩) (a:=⟨a4,4,none⟩) hne_ (.int .i64 d0)).trans (zc4 a1)
       try go_wp2
       (try simp only[←hl7_2])
       go_roundg k2
       case measure=>have:=n9.out;have:=x9.out;omega
       case rel=>exact⟨(d6),(wrap64 (a3+1)),zi,H',⟨by have:=n9.out;have:=x9.out;omega⟩,⟨by(try simp only[hl7_1]);(try simp only[hl7_2]);(with_reducible repeat(first|apply Kd.R_alloc|apply Kd.R_drewN|apply Kd.R_drew));exact S0.out⟩,⟨by(try simp only[hl7_1]);(try simp only[hl7_2]);(with_reducible repeat(first|refine blk_drewN ?_ _|refine blk_drew ?_|refine blk_alloc ?_ _));refine blk_far ?_ (by have h_:=Kd.R_ne HO_7.out a1.out (by decide);intro e_;exact h_ (by rw[e_];rfl)) _;(with_reducible repeat(first|refine blk_drewN ?_ _|refine blk_drew ?_|refine blk_alloc ?_ _));exact a1.out⟩,⟨zs2 HB GB44 b8⟩⟩
      replace R8:=Bool.eq_false_iff.mpr R8;subst R8;rw[if_neg zfn]at H;obtain⟨v3,v4⟩: ∃j_:Int,(mn ((rd_T37 d6 a3).f1) (wrap64 (((rd_T37 d6 (b7)).f1)+a9)))=j_:=⟨_,rfl⟩
      first|rw[v4]at H|simp only[v4]at H
      have Y4:(if(wrap64 (((rd_T37 d6 (b7)).f1)+a9))<((rd_T37 d6 a3).f1)then(wrap64 (((rd_T37 d6 (b7)).f1)+a9))else((rd_T37 d6 a3).f1))=v3:=v4;obtain⟨S1,m2⟩: ∃y_:List (S37),y_=(d6.set (a3:Int).toNat (⟨(rd_T37 d6 a3).f0,v3⟩:S37)):=⟨_,rfl⟩
      replace H:(impl_FlyPath_spans.l1 k2 (a5.length:Int) S1 (wrap64 (a3+1)) b1 a9 a5 b4 b5)=some (r1,r2):=by first|(rw[m2];with_reducible exact H)|(have H2_:=(Option.bind_some _ _).symm.trans H;rw[m2];with_reducible exact H2_)|(have H2_:=(Option.bind_some _ _).symm.trans H;with_reducible exact H2_)|with_reducible exact H|(rw[m2];exact H)|exact H
      have S2:=zA m2;clear m2;have H':=zA H;clear H
      try go_wp2
      replace HO_7:=zA (Kd.R_drew HO_7.out);replace a1:=zA (blk_drew a1.out);replace HB:=zA (below_drew1 HB.out);have l5:0≤(a3:Int):=za;have l6:a3<(b2.length:Int):=za;obtain⟨t8,M5,e8,e9⟩:=at_T37 (Kd.R_reads' HO_7.out).2.2 a3 l5 l6;cases M5;replace l5:=eq_true l5;replace l6:=eq_true l6;have l7:0≤((b7):Int):=za;have l8:(b7)<(b2.length:Int):=za;obtain⟨t9,M6,f2,f3⟩:=at_T37 (Kd.R_reads' HO_7.out).2.2 (b7) l7 l8;obtain rfl:t8=t9:=(by injection M6);replace l7:=eq_true l7;replace l8:=eq_true l8;have B3:0≤(a3:Int):=za;have B5:(a3:Int)<((b2.length:Int):Int):=za;obtain⟨a7,co44,v0,v1,gl44,cl44,HG44⟩:=Kd.R_form HO_7.out (by omega);(first|cases v0|(injection v0 with ea_ en_ ec_;(first|subst ea_|(injection ea_ with ea_;subst ea_));subst ec_;clear en_));have GB44:=zA v1;have M7:=zA HG44;clear v1 gl44 HG44;(first|simp only[add_plain]at e8|skip);(first|simp only[add_plain]at e9|skip);(first|simp only[add_plain]at f2|skip);(first|simp only[add_plain]at f3|skip);obtain⟨Y3,v2,hM44,i7,i8⟩:=Kd.R_elem HO_7.out z37 (a3:Int) B3 B5;obtain rfl:=k37_openM hM44;have j6:World.cell? _ ⟨a7,(a3:Int).toNat*2,none⟩=some (.int .i64 ((rd_T37 b2 a3).f0)):=i7 0 _ rfl;have j7:World.cell? _ ⟨a7,(a3:Int).toNat*2+1,none⟩=some (.int .i64 ((rd_T37 b2 a3).f1)):=i7 1 _ rfl;have n3:World.frozen? _ ⟨a7,(a3:Int).toNat*2,none⟩=false:=i8 0;have n4:World.frozen? _ ⟨a7,(a3:Int).toNat*2+1,none⟩=false:=i8 1;clear v2 i7 i8 hM44;replace B3:=eq_true B3;replace B5:=eq_true B5;obtain⟨bu,J2,hM54,J3,S3⟩:=Kd.R_elem HO_7.out z37 (a3:Int) (za) (by have h_:(a3:Int)<((b2.length:Int):Int):=za;first|exact h_|(have e_:=(Kd.R_reads' HO_7.out).1;omega)|simpa using h_);obtain rfl:=k37_openM hM54;have N5:=(Kd.R_seg HO_7.out (a3:Int) (za) (by have h_:(a3:Int)<((b2.length:Int):Int):=za;first|exact h_|(have e_:=(Kd.R_reads' HO_7.out).1;omega)|simpa using h_) (seg:=[.int .i64 d0]) (j:=0) J2 J3 (show 1≤2 from by decide) (x':=(⟨d0,(rd_T37 b2 a3).f1⟩:S37)) (k37_mkM _ _ _ (⟨d0,(rd_T37 b2 a3).f1⟩:S37)) (fun _ hk=>hk)).1;rw[←o4.out]at N5;have N6:=zA N5;clear J2 J3 S3 hM54 N5;refine start_ (n:=21) (S:=fun w'=>w'.cell? ⟨a4,0,none⟩=some (.int .i64 b1)∧w'.cell? ⟨a4,1,none⟩=some (.int .i64 a9)∧w'.cell? ⟨a4,2,none⟩=some (.slice g2 a5.length f9)∧w'.cell? ⟨a4,3,none⟩=some (.int .i64 b4)∧w'.cell? ⟨a4,4,none⟩=some (.int .i64 b5)∧w'.cell? ⟨a7,((a3).toNat*2),none⟩=some (.int .i64 ((rd_T37 b2 a3).f0))∧w'.cell? ⟨a7,((a3).toNat*2)+1,none⟩=some (.int .i64 ((rd_T37 b2 a3).f1))∧w'.cell? ⟨a7,(((b7)).toNat*2),none⟩=some (.int .i64 ((rd_T37 b2 (b7)).f0))∧w'.cell? ⟨a7,(((b7)).toNat*2)+1,none⟩=some (.int .i64 ((rd_T37 b2 (b7)).f1))) (ds:=[20]) #[F,F,F,F,F,F,F,F,F,F,F,F,F,F,F,F,F,F,F,F,F] (by kernel_rfl) rfl rfl ⟨zc0 a1,zc1 a1,zc2 a1,zc3 a1,zc4 a1,e8,e9,f2,f3⟩ (fun hHeld=>?_);refine with_tabW impl_FlyPath_spans.tab13 impl_FlyPath_spans.bits13 (fun HT_ HW_=>?_);generalize wr.drew=bv at HO_7 a1 HB M7 N6 n3 n4 e8 e9 f2 f3 j6 j7 hHeld⊢;refine zq HT_ 0 ?_;refine zq HT_ 1 ?_;refine zq HT_ 2 ?_;refine zq HT_ 3 ?_;refine zq HT_ 4 ?_;refine zq HT_ 5 ?_;refine zq HT_ 7 ?_;refine zq HT_ 8 ?_;refine zq HT_ 9 ?_;refine zq HT_ 10 ?_;refine zq HT_ 11 ?_;refine zq HT_ 13 ?_;refine zq HT_ 14 ?_;refine zk9 HT_ HW_ hHeld 6 ?_;refine zk9 HT_ HW_ hHeld 12 ?_;refine zk9 HT_ HW_ hHeld 15 ?_;refine zq HT_ 16 ?_;refine zq HT_ 17 ?_;refine zq HT_ 18 ?_;refine zq HT_ 19 ?_;refine zO HT_ 20 (fun K hK=>?_);refine skip_ (w1:=?_) (by rfl) rfl ?_ ?_;rotate_left
      ·go_simp
       rfl
      refine hK.out _ _ ?_;clear hK K;refine done_ (done_of HT_.out (by kernel_rfl)) ?_;obtain⟨D0,D1,D2,D3,D4⟩:=zd5 a1;obtain⟨D5,D6,D7,D8,D9⟩:=zn5 a1;have l9:0≤((b7):Int):=za;have m0:(b7)<(a5.length:Int):=za;obtain⟨m1,M9,d2,d8,d9,e0,e1,e2,d3⟩:=at_T52 j5.out (b7) l9 m0;(try rw[←Nbq46.out]at d3);cases M9;have hn383_0:m1.block≠a7:=Nat.ne_of_lt (Nat.lt_of_lt_of_le (by have:=World.block_lt_of_cell? _ _ d2;first|rwa [add_block]at this|exact this) GB44.out);replace d2:=zx HB d2;replace d8:=zx HB d8;replace d9:=zx HB d9;replace e0:=zx HB e0;replace e1:=zx HB e1;replace e2:=zx HB e2;replace d3:=zx HB d3;replace d2:=(cell_far (p:=⟨a7,(a3:Int).toNat*2,none⟩) (by first|(rw[add_block];exact hn383_0)|(show(Addr.add _ _).block≠_;rw[add_block];exact hn383_0)|exact hn383_0) (.int .i64 d0)).trans d2;replace d8:=(cell_far (p:=⟨a7,(a3:Int).toNat*2,none⟩) (by first|(rw[add_block];exact hn383_0)|(show(Addr.add _ _).block≠_;rw[add_block];exact hn383_0)|exact hn383_0) (.int .i64 d0)).trans d8;replace d9:=(cell_far (p:=⟨a7,(a3:Int).toNat*2,none⟩) (by first|(rw[add_block];exact hn383_0)|(show(Addr.add _ _).block≠_;rw[add_block];exact hn383_0)|exact hn383_0) (.int .i64 d0)).trans d9;replace e0:=(cell_far (p:=⟨a7,(a3:Int).toNat*2,none⟩) (by first|(rw[add_block];exact hn383_0)|(show(Addr.add _ _).block≠_;rw[add_block];exact hn383_0)|exact hn383_0) (.int .i64 d0)).trans e0;replace e1:=(cell_far (p:=⟨a7,(a3:Int).toNat*2,none⟩) (by first|(rw[add_block];exact hn383_0)|(show(Addr.add _ _).block≠_;rw[add_block];exact hn383_0)|exact hn383_0) (.int .i64 d0)).trans e1;replace e2:=(cell_far (p:=⟨a7,(a3:Int).toNat*2,none⟩) (by first|(rw[add_block];exact hn383_0)|(show(Addr.add _ _).block≠_;rw[add_block];exact hn383_0)|exact hn383_0) (.int .i64 d0)).trans e2;replace d3:=(cell_far (p:=⟨a7,(a3:Int).toNat*2,none⟩) (by first|(rw[add_block];exact hn383_0)|(show(Addr.add _ _).block≠_;rw[add_block];exact hn383_0)|exact hn383_0) (.int .i64 d0)).trans d3;clear hn383_0;replace l9:=eq_true l9;replace m0:=eq_true m0;have hne_:a4≠a7:=(by have h_:=Kd.R_ne HO_7.out a1.out (by decide);intro e_;exact h_ (by rw[e_];rfl));have N0:=(cell_far (p:=⟨a7,(a3:Int).toNat*2,none⟩) (a:=⟨a4,0,none⟩) hne_ (.int .i64 d0)).trans (zc0 a1);have N1:=(cell_far (p:=⟨a7,(a3:Int).toNat*2,none⟩) (a:=⟨a4,1,none⟩) hne_ (.int .i64 d0)).trans (zc1 a1);have N2:=(cell_far (p:=⟨a7,(a3:Int).toNat*2,none⟩) (a:=⟨a4,2,none⟩) hne_ (.int .i64 d0)).trans (zc2 a1);have N3:=(cell_far (p:=⟨a7,(a3:Int).toNat*2,none⟩) (a:=⟨a4,3,none⟩) hne_ (.int .i64 d0)).trans (zc3 a1);have N4:=(cell_far (p:=⟨a7,(a3:Int).toNat*2,none⟩) (a:=⟨a4,4,none⟩) hne_ (.int .i64 d0)).trans (zc4 a1)
      try go_wp2
      obtain⟨V9,e_⟩: ∃x,x=(bv.setCell ⟨a7,(a3:Int).toNat*2,none⟩ (.int .i64 d0)):=⟨_,rfl⟩
      have n0_:Aside0 (Kd.R k37 37 V9 w.heap.size (fun _=>True) (.slice (some ⟨a7,0,none⟩) b2.length co10) d6):=by rw[e_];exact⟨zr N6⟩
      have n1_:Aside0 (V9.heap[a4]?=some (.cells #[.int .i64 b1,.int .i64 a9,.slice (some m1) a5.length f9,.int .i64 b4,.int .i64 b5] 27 (0,0))):=by rw[e_];exact⟨by(with_reducible repeat(first|refine blk_drewN ?_ _|refine blk_drew ?_|refine blk_alloc ?_ _));refine blk_far ?_ (by have h_:=Kd.R_ne HO_7.out a1.out (by decide);intro e_;exact h_ (by rw[e_];rfl)) _;(with_reducible repeat(first|refine blk_drewN ?_ _|refine blk_drew ?_|refine blk_alloc ?_ _));exact a1.out⟩
      have n2_:Aside0 (Below w.heap.size w V9):=by rw[e_];exact⟨zs2 HB GB44 b8⟩
      (try clear HO_7);(try clear a1);(try clear HB);rw[←e_];clear e_;have HO_7:=n0_;have a1:=n1_;have HB:=n2_;clear n0_ n1_ n2_;replace HO_7:=zA (Kd.R_drew HO_7.out);replace a1:=zA (blk_drew a1.out);replace HB:=zA (below_drew1 HB.out);have E0:0≤(a3:Int):=za;have E1:a3<(d6.length:Int):=(by have h_:(a3:Int)<((b2.length:Int):Int):=za;first|(have e_:=(Kd.R_reads' HO_7.out).1;omega)|simpa only[o4.out,List.length_set]using h_);have ql384:((a3:Int)<((b2.length:Int):Int))=True:=eq_true (za);obtain⟨S4,Y5,g8,g9⟩:=at_T37 (Kd.R_reads' HO_7.out).2.2 a3 E0 E1;obtain rfl:(⟨a7,0,none⟩:Addr)=S4:=(by injection Y5);(first|simp only[add_plain]at g8|simp only[add_at]at g8|simp only[Addr.add,Nat.zero_add]at g8|skip);(first|simp only[add_plain]at g9|simp only[add_at]at g9|simp only[Addr.add,Nat.zero_add]at g9|skip);replace E0:=eq_true E0;replace E1:=eq_true E1;have E2:0≤((b7):Int):=za;have E3:(b7)<(d6.length:Int):=(by have h_:((b7):Int)<((b2.length:Int):Int):=za;first|(have e_:=(Kd.R_reads' HO_7.out).1;omega)|simpa only[o4.out,List.length_set]using h_);have ql385:(((b7):Int)<((b2.length:Int):Int))=True:=eq_true (za);obtain⟨S5,Y6,h0,h1⟩:=at_T37 (Kd.R_reads' HO_7.out).2.2 (b7) E2 E3;obtain rfl:(⟨a7,0,none⟩:Addr)=S5:=(by injection Y6);(first|simp only[add_plain]at h0|simp only[add_at]at h0|simp only[Addr.add,Nat.zero_add]at h0|skip);(first|simp only[add_plain]at h1|simp only[add_at]at h1|simp only[Addr.add,Nat.zero_add]at h1|skip);replace E2:=eq_true E2;replace E3:=eq_true E3;have S6:0≤(a3:Int):=za;have S7:(a3:Int)<((b2.length:Int):Int):=za;obtain⟨bw,S8,hM52,v5,v6⟩:=Kd.R_elem HO_7.out z37 (a3:Int) S6 S7;obtain rfl:=k37_openM hM52;have v7:World.cell? _ ⟨a7,(a3:Int).toNat*2,none⟩=some (.int .i64 ((rd_T37 d6 a3).f0)):=v5 0 _ rfl;have v8:World.cell? _ ⟨a7,(a3:Int).toNat*2+1,none⟩=some (.int .i64 ((rd_T37 d6 a3).f1)):=v5 1 _ rfl;have N7:World.frozen? _ ⟨a7,(a3:Int).toNat*2,none⟩=false:=v6 0;have N8:World.frozen? _ ⟨a7,(a3:Int).toNat*2+1,none⟩=false:=v6 1;clear S8 v5 v6 hM52;replace S6:=eq_true S6;replace S7:=eq_true S7;obtain⟨bx,J4,hM58,J5,S9⟩:=Kd.R_elem HO_7.out z37 (a3:Int) (za) (by have h_:(a3:Int)<((b2.length:Int):Int):=za;first|exact h_|(have e_:=(Kd.R_reads' HO_7.out).1;omega)|simpa using h_);obtain rfl:=k37_openM hM58;have N9:=(Kd.R_seg HO_7.out (a3:Int) (za) (by have h_:(a3:Int)<((b2.length:Int):Int):=za;first|exact h_|(have e_:=(Kd.R_reads' HO_7.out).1;omega)|simpa using h_) (seg:=[.int .i64 v3]) (j:=1) J4 J5 (show 2≤2 from by decide) (x':=(⟨(rd_T37 d6 a3).f0,v3⟩:S37)) (k37_mkM _ _ _ (⟨(rd_T37 d6 a3).f0,v3⟩:S37)) (fun _ hk=>hk)).1;rw[←S2.out]at N9;have T0:=zA N9;clear J4 J5 S9 hM58 N9;refine start_ (n:=21) (S:=fun w'=>w'.cell? ⟨a4,0,none⟩=some (.int .i64 b1)∧w'.cell? ⟨a4,1,none⟩=some (.int .i64 a9)∧w'.cell? ⟨a4,2,none⟩=some (.slice (some m1) a5.length f9)∧w'.cell? ⟨a4,3,none⟩=some (.int .i64 b4)∧w'.cell? ⟨a4,4,none⟩=some (.int .i64 b5)∧w'.cell? ⟨a7,(a3).toNat*2,none⟩=some (.int .i64 ((rd_T37 d6 a3).f0))∧w'.cell? ⟨a7,(a3).toNat*2+1,none⟩=some (.int .i64 ((rd_T37 d6 a3).f1))∧w'.cell? ⟨a7,((b7)).toNat*2,none⟩=some (.int .i64 ((rd_T37 d6 (b7)).f0))∧w'.cell? ⟨a7,((b7)).toNat*2+1,none⟩=some (.int .i64 ((rd_T37 d6 (b7)).f1))) (ds:=[20]) #[F,F,F,F,F,F,F,F,F,F,F,F,F,F,F,F,F,F,F,F,F] (by kernel_rfl) rfl rfl ⟨zc0 a1,zc1 a1,zc2 a1,zc3 a1,zc4 a1,g8,g9,h0,h1⟩ (fun hHeld=>?_);refine with_tabW impl_FlyPath_spans.tab15 impl_FlyPath_spans.bits15 (fun HT_ HW_=>?_);generalize V9.drew=di at HO_7 a1 HB N6 T0 N7 N8 g8 g9 h0 h1 v7 v8 hHeld⊢;refine zq HT_ 0 ?_;refine zq HT_ 1 ?_;refine zq HT_ 2 ?_;refine zq HT_ 3 ?_;refine zq HT_ 4 ?_;refine zq HT_ 5 ?_;refine zq HT_ 7 ?_;refine zq HT_ 8 ?_;refine zq HT_ 9 ?_;refine zq HT_ 10 ?_;refine zq HT_ 11 ?_;refine zq HT_ 13 ?_;refine zq HT_ 14 ?_;refine zk9 HT_ HW_ hHeld 6 ?_;refine zk9 HT_ HW_ hHeld 12 ?_;refine zk9 HT_ HW_ hHeld 15 ?_;refine zq HT_ 16 ?_;refine zq HT_ 17 ?_;refine zq HT_ 18 ?_;refine zq HT_ 19 ?_;refine zO HT_ 20 (fun K hK=>?_);refine skip_ (w1:=?_) (by rfl) rfl ?_ ?_;rotate_left
      ·go_simp
       rfl
      refine hK.out _ _ ?_;clear hK K;refine done_ (done_of HT_.out (by kernel_rfl)) ?_
      try go_wp2
      (try simp only[←hl7_2])
      go_roundg k2
      case measure=>have:=n9.out;have:=x9.out;omega
      case rel=>exact⟨(S1),(wrap64 (a3+1)),zi,H',⟨by have:=n9.out;have:=x9.out;omega⟩,⟨by(try simp only[hl7_1]);(try simp only[hl7_2]);(with_reducible repeat(first|apply Kd.R_alloc|apply Kd.R_drewN|apply Kd.R_drew));exact T0.out⟩,⟨by(try simp only[hl7_1]);(try simp only[hl7_2]);(with_reducible repeat(first|refine blk_drewN ?_ _|refine blk_drew ?_|refine blk_alloc ?_ _));refine blk_far ?_ (by have h_:=Kd.R_ne HO_7.out a1.out (by decide);intro e_;exact h_ (by rw[e_];rfl)) _;(with_reducible repeat(first|refine blk_drewN ?_ _|refine blk_drew ?_|refine blk_alloc ?_ _));exact a1.out⟩,⟨zs2 HB GB44 b8⟩⟩
     rw[if_neg M4]at H;have I9:decide (a3≤(a5.length:Int))=false:=decide_eq_false M4;clear M4;have H':=zA H;clear H
     go_wp2
     go_loopg [10] k2 (fun kq bz w'=> ∃(a6:List (S37)) (a2:Int),bz= .int .i64 a2∧Aside0 (impl_FlyPath_spans.l2 kq a6 a2 b1 a9 a5 b4 b5=some (r1,r2))∧Aside0 (kq≤k2)∧Aside0 (Kd.R k37 37 w' w.heap.size (fun _=>True) (.slice Ao10 b2.length co10) a6)∧Aside0 (w'.heap[a4]?=some (.cells #[.int .i64 b1,.int .i64 a9,(.slice g2 a5.length f9),.int .i64 b4,.int .i64 b5] 27 (0,0)))∧Aside0 (Below w.heap.size w w'))
     case atStart=>exact⟨(b2),(wrap64 ((a5.length:Int)-1)),zi,H',⟨Nat.le_refl _⟩,⟨by(try simp only[hl7_1]);(try simp only[hl7_2]);(with_reducible repeat(first|apply Kd.R_alloc|apply Kd.R_drewN|apply Kd.R_drew));exact HO_7.out⟩,⟨by(try simp only[hl7_1]);(try simp only[hl7_2]);(with_reducible repeat(first|refine blk_drewN ?_ _|refine blk_drew ?_|refine blk_alloc ?_ _));exact a1.out⟩,⟨zs1 HB b8⟩⟩
     case round=>
      clear H'
      try clear p2
      try clear c3
      try clear p3
      try clear q3
      try clear Z8
      try clear c4
      try clear p4
      try clear q4
      try clear dj
      try clear dk
      try clear c5
      try clear p5
      try clear q5
      try clear dl
      try clear dm
      try clear p6
      try clear M4
      try clear I9
      try clear dn
      try clear ca
      try clear cb
      try clear Y7
      try clear R6
      try clear dp
      try clear R7
      try clear dq
      try clear B3
      try clear B5
      try clear cc
      try clear cd
      try clear dr
      try clear dt
      try clear R8
      try clear du
      try clear S6
      try clear S7
      try clear ce
      try clear cf
      try clear dv
      try clear dw
      try clear C0 C1 C2 C3 C4
      try clear D0 D1 D2 D3 D4
      try clear C5 C6 C7 C8 C9
      try clear D5 D6 D7 D8 D9
      try clear e8
      try clear e9
      try clear f2
      try clear f3
      try clear d2
      try clear d8
      try clear d9
      try clear e0
      try clear e1
      try clear e2
      try clear d3
      try clear g8
      try clear g9
      try clear h0
      try clear h1
      try clear j6
      try clear j7
      try clear v7
      try clear v8
      try clear l5
      try clear l7
      try clear l9
      try clear E0
      try clear E2
      try clear B3
      try clear S6
      try clear l6
      try clear l8
      try clear m0
      try clear E1
      try clear E3
      try clear B5
      try clear S7
      obtain⟨a6,a2,rfl,HA,P2,HO_7,a1,HB⟩:=hrel;have hl7_3:=(Kd.R_reads' HO_7.out).1;rw[hl7_3]at HO_7;(try simp only[hl7_3]);(try simp only[hl7_3]at a1)
      cases gk with
      |zero=>exact absurd HA.out (by simp[impl_FlyPath_spans.l2])
      |succ k3=>
       have H:=HA.out;clear HA;simp only[impl_FlyPath_spans.l2]at H
       by_cases O0:a2≥0
       rotate_left
       ·rw[if_neg O0]at H
        have J6:decide (0≤a2)=false:=decide_eq_false O0;clear O0;have H':=zA H;clear H
        go_wp2
        go_loopg [179] k3 (fun kq Y8 w'=> ∃(b3:Int),Y8= .int .i64 b3∧Aside0 (impl_FlyPath_spans.l3 kq a6 a6 (a6.length:Int) b3=some (r1,r2))∧Aside0 (kq≤k3)∧Aside0 (Kd.R k37 37 w' w.heap.size (fun _=>True) (.slice Ao10 a6.length co10) a6)∧Aside0 (Kd.R k37 37 w' w.heap.size (fun _=>True) (.slice Ao10 a6.length co10) a6)∧Aside0 (w'.heap[a4]?=some (.cells #[.int .i64 b1,.int .i64 a9,(.slice g2 a5.length f9),.int .i64 b4,.int .i64 b5] 27 (0,0)))∧Aside0 (Below w.heap.size w w'))
        case atStart=>exact⟨(0),zi,H',⟨Nat.le_refl _⟩,⟨by(try simp only[hl7_1]);(try simp only[hl7_2]);(try simp only[hl7_3]);(with_reducible repeat(first|apply Kd.R_alloc|apply Kd.R_drewN|apply Kd.R_drew));exact HO_7.out⟩,⟨by(try simp only[hl7_1]);(try simp only[hl7_2]);(try simp only[hl7_3]);(with_reducible repeat(first|apply Kd.R_alloc|apply Kd.R_drewN|apply Kd.R_drew));exact HO_7.out⟩,⟨by(try simp only[hl7_1]);(try simp only[hl7_2]);(try simp only[hl7_3]);(with_reducible repeat(first|refine blk_drewN ?_ _|refine blk_drew ?_|refine blk_alloc ?_ _));exact a1.out⟩,⟨zs1 HB b8⟩⟩
        case round=>
         clear H'
         try clear p2
         try clear p3
         try clear q3
         try clear Z8
         try clear c5
         try clear c6
         try clear p6
         try clear q6
         try clear dx
         try clear dy
         try clear c7
         try clear p7
         try clear q7
         try clear dz
         try clear ea
         try clear c8
         try clear ca
         try clear cb
         try clear Y7
         try clear eb
         try clear ec
         try clear cg
         try clear O0
         try clear J6
         try clear ed
         try clear T1
         try clear ee
         try clear T2
         try clear ef
         try clear eg
         try clear E4
         try clear E5
         try clear ch
         try clear ci
         try clear eh
         try clear ei
         try clear T3
         try clear ej
         try clear T5
         try clear U0
         try clear cj
         try clear ck
         try clear ek
         try clear el
         try clear E6 E7 E8 E9 F0
         try clear F1 F2 F3 F4 F5
         try clear F6 F7 F8 F9 G0
         try clear G1 G2 G3 G4 G5
         try clear f4
         try clear f5
         try clear f7
         try clear f8
         try clear d4
         try clear e3
         try clear e4
         try clear e5
         try clear e6
         try clear e7
         try clear d5
         try clear h2
         try clear h3
         try clear h4
         try clear h5
         try clear j8
         try clear j9
         try clear w0
         try clear w2
         try clear m3
         try clear m4
         try clear m5
         try clear G6
         try clear G7
         try clear E4
         try clear T5
         try clear m6
         try clear m7
         try clear m8
         try clear G8
         try clear G9
         try clear E5
         try clear U0
         obtain⟨b3,rfl,HA,af,HO_7,HO_177,a1,HB⟩:=hrel
         cases gk with
         |zero=>exact absurd HA.out (by simp[impl_FlyPath_spans.l3])
         |succ k4=>
          have H:=HA.out;clear HA;simp only[impl_FlyPath_spans.l3]at H
          by_cases P3:b3<(a6.length:Int)
          rotate_left
          ·rw[if_neg P3]at H
           have U1:decide (b3<(a6.length:Int))=false:=decide_eq_false P3;clear P3;simp only[Option.some.injEq,Prod.mk.injEq]at H;obtain⟨rfl,rfl⟩:=H
           go_wp2
           go_ret2
           exact⟨_,by first|rfl|(simp[errW_none,errW_some]<;>rfl)|(simp only[←o7];first|rfl|(simp[errW_none,errW_some]<;>rfl))|(simp[*,errW_none,errW_some]<;>rfl),zr HO_7,zs1 HB b8⟩
          rw[if_pos P3]at H;have U1:decide (b3<(a6.length:Int))=true:=decide_eq_true P3;clear P3;replace H:=zif H;obtain⟨ag,H⟩:=H
          by_cases W0:b3<(a6.length:Int)
          rotate_left
          ·rw[if_neg W0]at H
           exact absurd H (by simp)
          rw[if_pos W0]at H;have ah:decide (b3<(a6.length:Int))=true:=decide_eq_true W0;clear W0
          by_cases P4:((rd_T37 a6 b3).f0)>((rd_T37 a6 b3).f1)
          ·rw[if_pos P4]at H
           have U2:decide (((rd_T37 a6 b3).f1)<((rd_T37 a6 b3).f0))=true:=decide_eq_true P4;clear P4;simp only[Option.some.injEq,Prod.mk.injEq]at H;obtain⟨rfl,rfl⟩:=H;have n5:0≤(b3:Int):=za;have n6:b3<(a6.length:Int):=za;obtain⟨U3,O1,H0,H1⟩:=at_T37 (Kd.R_reads' HO_177.out).2.2 b3 n5 n6;cases O1;replace n5:=eq_true n5;replace n6:=eq_true n6
           go_wp2_with (first|((with_reducible refine gate_dst (N:=12) rfl ?_);refine zbx 12 #[.int .i64 0,.int .i64 0] 37 ?_;intro g3 hg em hbox hb;have m9:=zA hbox;have U4:=zgs hg (zs1 HB b8);have w3:=zgs hg (zs1 HB b8);have g0:=zne hg a1;have i1:=znf hg a1;replace HO_7:=zA (Kd.R_below (Kd.R_elderB (zr HO_7) g3 (Nat.le_of_eq hg.symm)) hb);replace HO_177:=zA (Kd.R_below (Kd.R_elderB (zr HO_177) g3 (Nat.le_of_eq hg.symm)) hb);replace a1:=zb a1 hb;replace HB:=zE (zs1 HB b8) hb;clear hb hbox hg;have ai:=i1.out;have aj:=g0.out;obtain⟨W1,W2⟩:=zd2 m9;obtain⟨W3,W4⟩:=zn2 m9))
           go_ret2
           exact⟨_,by first|rfl|(simp[errW_none,errW_some]<;>rfl)|(simp only[←o7];first|rfl|(simp[errW_none,errW_some]<;>rfl))|(simp[*,errW_none,errW_some]<;>rfl),by first|exact Kd.R_nil _ _ _ _ _|exact Kd.N_nil _ _ _ _ _|exact Kd.V_nil _ _ _ _ _|exact Kd.Q_nil _ _ _ _ _|exact Kd.S_nil _ _ _ _ _,zs2 HB b8 w3⟩
          rw[if_neg P4]at H;have U2:decide (((rd_T37 a6 b3).f1)<((rd_T37 a6 b3).f0))=false:=decide_eq_false P4;clear P4;have H':=zA H;clear H;have n5:0≤(b3:Int):=za;have n6:b3<(a6.length:Int):=za;obtain⟨U3,O1,H0,H1⟩:=at_T37 (Kd.R_reads' HO_177.out).2.2 b3 n5 n6;cases O1;replace n5:=eq_true n5;replace n6:=eq_true n6
          go_wp2_with (first|((with_reducible refine gate_dst (N:=12) rfl ?_);refine zbx 12 #[.int .i64 0,.int .i64 0] 37 ?_;intro g3 hg en hbox hb;have m9:=zA hbox;have U4:=zgs hg (zs1 HB b8);have w3:=zgs hg (zs1 HB b8);have g0:=zne hg a1;have i1:=znf hg a1;replace HO_7:=zA (Kd.R_below (Kd.R_elderB (zr HO_7) g3 (Nat.le_of_eq hg.symm)) hb);replace HO_177:=zA (Kd.R_below (Kd.R_elderB (zr HO_177) g3 (Nat.le_of_eq hg.symm)) hb);replace a1:=zb a1 hb;replace HB:=zE (zs1 HB b8) hb;clear hb hbox hg;have ak:=i1.out;have al:=g0.out;obtain⟨W5,W6⟩:=zd2 m9;obtain⟨W7,W8⟩:=zn2 m9))
          go_roundg k4
          case measure=>have:=n9.out;have:=x9.out;have:=P2.out;have:=af.out;omega
          case rel=>exact⟨(wrap64 (b3+1)),zi,H',⟨by have:=n9.out;have:=x9.out;have:=P2.out;have:=af.out;omega⟩,⟨by(try simp only[hl7_1]);(try simp only[hl7_2]);(try simp only[hl7_3]);(with_reducible repeat(first|apply Kd.R_alloc|apply Kd.R_drewN|apply Kd.R_drew));exact Kd.R_mono (Kd.R_far (p:=⟨g3,1,none⟩) (Kd.R_far (p:=⟨g3,0,none⟩) (Kd.R_mono HO_7.out (fun k_ hk=>(⟨hk,hk.2⟩:_∧k_≠g3))) (fun _ hk=>hk.2) (.int .i64 ((rd_T37 a6 b3).f0))) (fun _ hk=>hk.2) (.int .i64 ((rd_T37 a6 b3).f1))) (fun _ hk=>trivial)⟩,⟨by(try simp only[hl7_1]);(try simp only[hl7_2]);(try simp only[hl7_3]);(with_reducible repeat(first|apply Kd.R_alloc|apply Kd.R_drewN|apply Kd.R_drew));exact Kd.R_mono (Kd.R_far (p:=⟨g3,1,none⟩) (Kd.R_far (p:=⟨g3,0,none⟩) (Kd.R_mono HO_177.out (fun k_ hk=>(⟨hk,hk.2⟩:_∧k_≠g3))) (fun _ hk=>hk.2) (.int .i64 ((rd_T37 a6 b3).f0))) (fun _ hk=>hk.2) (.int .i64 ((rd_T37 a6 b3).f1))) (fun _ hk=>trivial)⟩,⟨by(try simp only[hl7_1]);(try simp only[hl7_2]);(try simp only[hl7_3]);(with_reducible repeat(first|refine blk_drewN ?_ _|refine blk_drew ?_|refine blk_alloc ?_ _));refine blk_far ?_ g0.out _;(with_reducible repeat(first|refine blk_drewN ?_ _|refine blk_drew ?_|refine blk_alloc ?_ _));refine blk_far ?_ g0.out _;(with_reducible repeat(first|refine blk_drewN ?_ _|refine blk_drew ?_|refine blk_alloc ?_ _));exact a1.out⟩,⟨zs2 HB b8 w3⟩⟩
       rw[if_pos O0]at H;have J6:decide (0≤a2)=true:=decide_eq_true O0;clear O0;replace H:=zif H;obtain⟨am,H⟩:=H
       by_cases T1:a2<(a6.length:Int)
       rotate_left
       ·rw[if_neg T1]at H
        exact absurd H (by simp)
       rw[if_pos T1]at H;have an:decide (a2<(a6.length:Int))=true:=decide_eq_true T1;clear T1;obtain⟨c0,w4⟩: ∃j_:Int,(wrap64 (a2+1))=j_:=⟨_,rfl⟩
       first|rw[w4]at H|simp only[w4]at H
       have Y9:(IntKind.i64.wrap (a2+1))=c0:=(i64_w _).trans w4;replace H:=zif H;obtain⟨ao,H⟩:=H
       by_cases T2:(c0)<(a6.length:Int)
       rotate_left
       ·rw[if_neg T2]at H
        exact absurd H (by simp)
       rw[if_pos T2]at H;have ap:decide ((c0)<(a6.length:Int))=true:=decide_eq_true T2;clear T2;obtain⟨d1,w5⟩: ∃j_:Int,(mn ((rd_T37 a6 a2).f1) (wrap64 (((rd_T37 a6 (c0)).f1)-b1)))=j_:=⟨_,rfl⟩
       first|rw[w5]at H|simp only[w5]at H
       have Z0:(if(wrap64 (((rd_T37 a6 (c0)).f1)-b1))<((rd_T37 a6 a2).f1)then(wrap64 (((rd_T37 a6 (c0)).f1)-b1))else((rd_T37 a6 a2).f1))=d1:=w5;obtain⟨d7,n0⟩: ∃y_:List (S37),y_=(a6.set (a2:Int).toNat (⟨(rd_T37 a6 a2).f0,d1⟩:S37)):=⟨_,rfl⟩
       replace H:(if a2<(a5.length:Int)then(if((rd_T52 a5 a2).f6=true)then(impl_FlyPath_spans.l2 k3 d7 (wrap64 (a2-1)) b1 a9 a5 b4 b5)else(impl_FlyPath_spans.l2 k3 (d7.set (a2:Int).toNat (⟨mx ((rd_T37 d7 a2).f0) (wrap64 (((rd_T37 d7 (c0)).f0)-a9)),(rd_T37 d7 a2).f1⟩:S37)) (wrap64 (a2-1)) b1 a9 a5 b4 b5))else(none))=some (r1,r2):=by first|(rw[n0];with_reducible exact H)|(have H2_:=(Option.bind_some _ _).symm.trans H;rw[n0];with_reducible exact H2_)|(have H2_:=(Option.bind_some _ _).symm.trans H;with_reducible exact H2_)|with_reducible exact H|(rw[n0];exact H)|exact H
       have o5:=zA n0;clear n0;replace H:=zif H;obtain⟨aq,H⟩:=H;obtain⟨bq68,hbq68⟩: ∃b_:Bool,b_=((rd_T52 a5 a2).f6):=⟨_,rfl⟩
       replace H:(if(bq68=true)then(impl_FlyPath_spans.l2 k3 d7 (wrap64 (a2-1)) b1 a9 a5 b4 b5)else(impl_FlyPath_spans.l2 k3 (d7.set (a2:Int).toNat (⟨mx ((rd_T37 d7 a2).f0) (wrap64 (((rd_T37 d7 (c0)).f0)-a9)),(rd_T37 d7 a2).f1⟩:S37)) (wrap64 (a2-1)) b1 a9 a5 b4 b5))=some (r1,r2):=by rw[←hbq68]at H;exact H
       have Nbq68:=zA hbq68;clear hbq68
       by_cases T3:(bq68=true)
       ·subst T3
        rw[if_pos rfl]at H;have H':=zA H;clear H
        try go_wp2
        replace HO_7:=zA (Kd.R_drew HO_7.out);replace a1:=zA (blk_drew a1.out);replace HB:=zA (below_drew1 HB.out);have m3:0≤(a2:Int):=za;have m6:a2<(a6.length:Int):=za;obtain⟨w7,O2,f4,f5⟩:=at_T37 (Kd.R_reads' HO_7.out).2.2 a2 m3 m6;cases O2;replace m3:=eq_true m3;replace m6:=eq_true m6;have m4:0≤((c0):Int):=za;have m7:(c0)<(a6.length:Int):=za;obtain⟨w9,O3,f7,f8⟩:=at_T37 (Kd.R_reads' HO_7.out).2.2 (c0) m4 m7;obtain rfl:w7=w9:=(by injection O3);replace m4:=eq_true m4;replace m7:=eq_true m7;have E4:0≤(a2:Int):=za;have E5:(a2:Int)<((a6.length:Int):Int):=za;obtain⟨a8,co66,x0,x1,gl66,cl66,HG66⟩:=Kd.R_form HO_7.out (by omega);(first|cases x0|(injection x0 with ea_ en_ ec_;(first|subst ea_|(injection ea_ with ea_;subst ea_));subst ec_;clear en_));have GB66:=zA x1;have O4:=zA HG66;clear x1 gl66 HG66;(first|simp only[add_plain]at f4|skip);(first|simp only[add_plain]at f5|skip);(first|simp only[add_plain]at f7|skip);(first|simp only[add_plain]at f8|skip);obtain⟨Z1,x2,hM66,i9,j1⟩:=Kd.R_elem HO_7.out z37 (a2:Int) E4 E5;obtain rfl:=k37_openM hM66;have j8:World.cell? _ ⟨a8,(a2:Int).toNat*2,none⟩=some (.int .i64 ((rd_T37 a6 a2).f0)):=i9 0 _ rfl;have j9:World.cell? _ ⟨a8,(a2:Int).toNat*2+1,none⟩=some (.int .i64 ((rd_T37 a6 a2).f1)):=i9 1 _ rfl;have n7:World.frozen? _ ⟨a8,(a2:Int).toNat*2,none⟩=false:=j1 0;have n8:World.frozen? _ ⟨a8,(a2:Int).toNat*2+1,none⟩=false:=j1 1;clear x2 i9 j1 hM66;replace E4:=eq_true E4;replace E5:=eq_true E5;obtain⟨cl,J7,hM71,J8,U5⟩:=Kd.R_elem HO_7.out z37 (a2:Int) (za) (by have h_:(a2:Int)<((a6.length:Int):Int):=za;first|exact h_|(have e_:=(Kd.R_reads' HO_7.out).1;omega)|simpa using h_);obtain rfl:=k37_openM hM71;have O5:=(Kd.R_seg HO_7.out (a2:Int) (za) (by have h_:(a2:Int)<((a6.length:Int):Int):=za;first|exact h_|(have e_:=(Kd.R_reads' HO_7.out).1;omega)|simpa using h_) (seg:=[.int .i64 d1]) (j:=1) J7 J8 (show 2≤2 from by decide) (x':=(⟨(rd_T37 a6 a2).f0,d1⟩:S37)) (k37_mkM _ _ _ (⟨(rd_T37 a6 a2).f0,d1⟩:S37)) (fun _ hk=>hk)).1;rw[←o5.out]at O5;have U6:=zA O5;clear J7 J8 U5 hM71 O5;refine start_ (n:=21) (S:=fun w'=>w'.cell? ⟨a4,0,none⟩=some (.int .i64 b1)∧w'.cell? ⟨a4,1,none⟩=some (.int .i64 a9)∧w'.cell? ⟨a4,2,none⟩=some (.slice g2 a5.length f9)∧w'.cell? ⟨a4,3,none⟩=some (.int .i64 b4)∧w'.cell? ⟨a4,4,none⟩=some (.int .i64 b5)∧w'.cell? ⟨a8,((a2).toNat*2),none⟩=some (.int .i64 ((rd_T37 a6 a2).f0))∧w'.cell? ⟨a8,((a2).toNat*2)+1,none⟩=some (.int .i64 ((rd_T37 a6 a2).f1))∧w'.cell? ⟨a8,(((c0)).toNat*2),none⟩=some (.int .i64 ((rd_T37 a6 (c0)).f0))∧w'.cell? ⟨a8,(((c0)).toNat*2)+1,none⟩=some (.int .i64 ((rd_T37 a6 (c0)).f1))) (ds:=[20]) #[F,F,F,F,F,F,F,F,F,F,F,F,F,F,F,F,F,F,F,F,F] (by kernel_rfl) rfl rfl ⟨zc0 a1,zc1 a1,zc2 a1,zc3 a1,zc4 a1,f4,f5,f7,f8⟩ (fun hHeld=>?_);refine with_tabW impl_FlyPath_spans.tab19 impl_FlyPath_spans.bits19 (fun HT_ HW_=>?_);generalize wr.drew=eo at HO_7 a1 HB O4 U6 n7 n8 f4 f5 f7 f8 j8 j9 hHeld⊢;refine zq HT_ 0 ?_;refine zq HT_ 1 ?_;refine zq HT_ 2 ?_;refine zq HT_ 3 ?_;refine zq HT_ 4 ?_;refine zq HT_ 5 ?_;refine zq HT_ 7 ?_;refine zq HT_ 8 ?_;refine zq HT_ 9 ?_;refine zq HT_ 10 ?_;refine zq HT_ 11 ?_;refine zq HT_ 13 ?_;refine zq HT_ 14 ?_;refine zk9 HT_ HW_ hHeld 6 ?_;refine zk9 HT_ HW_ hHeld 12 ?_;refine zk9 HT_ HW_ hHeld 15 ?_;refine zq HT_ 16 ?_;refine zq HT_ 17 ?_;refine zq HT_ 18 ?_;refine zq HT_ 19 ?_;refine zO HT_ 20 (fun K hK=>?_);refine skip_ (w1:=?_) (by rfl) rfl ?_ ?_;rotate_left
        ·go_simp
         rfl
        refine hK.out _ _ ?_;clear hK K;refine done_ (done_of HT_.out (by kernel_rfl)) ?_;obtain⟨E6,E7,E8,E9,F0⟩:=zd5 a1;obtain⟨F6,F7,F8,F9,G0⟩:=zn5 a1;have m5:0≤(a2:Int):=za;have m8:a2<(a5.length:Int):=za;obtain⟨n1,O6,d4,e3,e4,e5,e6,e7,d5⟩:=at_T52 j5.out a2 m5 m8;(try rw[←Nbq68.out]at d5);cases O6;have hn390_0:n1.block≠a8:=Nat.ne_of_lt (Nat.lt_of_lt_of_le (by have:=World.block_lt_of_cell? _ _ d4;first|rwa [add_block]at this|exact this) GB66.out);replace d4:=zx HB d4;replace e3:=zx HB e3;replace e4:=zx HB e4;replace e5:=zx HB e5;replace e6:=zx HB e6;replace e7:=zx HB e7;replace d5:=zx HB d5;replace d4:=(cell_far (p:=⟨a8,(a2:Int).toNat*2+1,none⟩) (by first|(rw[add_block];exact hn390_0)|(show(Addr.add _ _).block≠_;rw[add_block];exact hn390_0)|exact hn390_0) (.int .i64 d1)).trans d4;replace e3:=(cell_far (p:=⟨a8,(a2:Int).toNat*2+1,none⟩) (by first|(rw[add_block];exact hn390_0)|(show(Addr.add _ _).block≠_;rw[add_block];exact hn390_0)|exact hn390_0) (.int .i64 d1)).trans e3;replace e4:=(cell_far (p:=⟨a8,(a2:Int).toNat*2+1,none⟩) (by first|(rw[add_block];exact hn390_0)|(show(Addr.add _ _).block≠_;rw[add_block];exact hn390_0)|exact hn390_0) (.int .i64 d1)).trans e4;replace e5:=(cell_far (p:=⟨a8,(a2:Int).toNat*2+1,none⟩) (by first|(rw[add_block];exact hn390_0)|(show(Addr.add _ _).block≠_;rw[add_block];exact hn390_0)|exact hn390_0) (.int .i64 d1)).trans e5;replace e6:=(cell_far (p:=⟨a8,(a2:Int).toNat*2+1,none⟩) (by first|(rw[add_block];exact hn390_0)|(show(Addr.add _ _).block≠_;rw[add_block];exact hn390_0)|exact hn390_0) (.int .i64 d1)).trans e6;replace e7:=(cell_far (p:=⟨a8,(a2:Int).toNat*2+1,none⟩) (by first|(rw[add_block];exact hn390_0)|(show(Addr.add _ _).block≠_;rw[add_block];exact hn390_0)|exact hn390_0) (.int .i64 d1)).trans e7;replace d5:=(cell_far (p:=⟨a8,(a2:Int).toNat*2+1,none⟩) (by first|(rw[add_block];exact hn390_0)|(show(Addr.add _ _).block≠_;rw[add_block];exact hn390_0)|exact hn390_0) (.int .i64 d1)).trans d5;clear hn390_0;replace m5:=eq_true m5;replace m8:=eq_true m8;have hne_:a4≠a8:=(by have h_:=Kd.R_ne HO_7.out a1.out (by decide);intro e_;exact h_ (by rw[e_];rfl));have N0:=(cell_far (p:=⟨a8,(a2:Int).toNat*2+1,none⟩) (a:=⟨a4,0,none⟩) hne_ (.int .i64 d1)).trans (zc0 a1);have N1:=(cell_far (p:=⟨a8,(a2:Int).toNat*2+1,none⟩) (a:=⟨a4,1,none⟩) hne_ (.int .i64 d1)).trans (zc1 a1);have N2:=(cell_far (p:=⟨a8,(a2:Int).toNat*2+1,none⟩) (a:=⟨a4,2,none⟩) hne_ (.int .i64 d1)).trans (zc2 a1);have N3:=(cell_far (p:=⟨a8,(a2:Int).toNat*2+1,none⟩) (a:=⟨a4,3,none⟩) hne_ (.int .i64 d1)).trans (zc3 a1);have N4:=(cell_far (p:=⟨a8,(a2:Int).toNat*2+1,none⟩) (a:=⟨a4,4,none⟩) hne_ (.int .i64 d1)).trans (zc4 a1)
        try go_wp2
        (try simp only[←hl7_3])
        go_roundg k3
        case measure=>have:=n9.out;have:=x9.out;have:=P2.out;omega
        case rel=>exact⟨(d7),(wrap64 (a2-1)),zi,H',⟨by have:=n9.out;have:=x9.out;have:=P2.out;omega⟩,⟨by(try simp only[hl7_1]);(try simp only[hl7_2]);(try simp only[hl7_3]);(with_reducible repeat(first|apply Kd.R_alloc|apply Kd.R_drewN|apply Kd.R_drew));exact U6.out⟩,⟨by(try simp only[hl7_1]);(try simp only[hl7_2]);(try simp only[hl7_3]);(with_reducible repeat(first|refine blk_drewN ?_ _|refine blk_drew ?_|refine blk_alloc ?_ _));refine blk_far ?_ (by have h_:=Kd.R_ne HO_7.out a1.out (by decide);intro e_;exact h_ (by rw[e_];rfl)) _;(with_reducible repeat(first|refine blk_drewN ?_ _|refine blk_drew ?_|refine blk_alloc ?_ _));exact a1.out⟩,⟨zs2 HB GB66 b8⟩⟩
       replace T3:=Bool.eq_false_iff.mpr T3;subst T3;rw[if_neg zfn]at H;obtain⟨x3,x4⟩: ∃j_:Int,(mx ((rd_T37 d7 a2).f0) (wrap64 (((rd_T37 d7 (c0)).f0)-a9)))=j_:=⟨_,rfl⟩
       first|rw[x4]at H|simp only[x4]at H
       have Z2:(if((rd_T37 d7 a2).f0)<(wrap64 (((rd_T37 d7 (c0)).f0)-a9))then(wrap64 (((rd_T37 d7 (c0)).f0)-a9))else((rd_T37 d7 a2).f0))=x3:=x4;obtain⟨U7,n2⟩: ∃y_:List (S37),y_=(d7.set (a2:Int).toNat (⟨x3,(rd_T37 d7 a2).f1⟩:S37)):=⟨_,rfl⟩
       replace H:(impl_FlyPath_spans.l2 k3 U7 (wrap64 (a2-1)) b1 a9 a5 b4 b5)=some (r1,r2):=by first|(rw[n2];with_reducible exact H)|(have H2_:=(Option.bind_some _ _).symm.trans H;rw[n2];with_reducible exact H2_)|(have H2_:=(Option.bind_some _ _).symm.trans H;with_reducible exact H2_)|with_reducible exact H|(rw[n2];exact H)|exact H
       have U8:=zA n2;clear n2;have H':=zA H;clear H
       try go_wp2
       replace HO_7:=zA (Kd.R_drew HO_7.out);replace a1:=zA (blk_drew a1.out);replace HB:=zA (below_drew1 HB.out);have m3:0≤(a2:Int):=za;have m6:a2<(a6.length:Int):=za;obtain⟨w7,O2,f4,f5⟩:=at_T37 (Kd.R_reads' HO_7.out).2.2 a2 m3 m6;cases O2;replace m3:=eq_true m3;replace m6:=eq_true m6;have m4:0≤((c0):Int):=za;have m7:(c0)<(a6.length:Int):=za;obtain⟨w9,O3,f7,f8⟩:=at_T37 (Kd.R_reads' HO_7.out).2.2 (c0) m4 m7;obtain rfl:w7=w9:=(by injection O3);replace m4:=eq_true m4;replace m7:=eq_true m7;have E4:0≤(a2:Int):=za;have E5:(a2:Int)<((a6.length:Int):Int):=za;obtain⟨a8,co66,x0,x1,gl66,cl66,HG66⟩:=Kd.R_form HO_7.out (by omega);(first|cases x0|(injection x0 with ea_ en_ ec_;(first|subst ea_|(injection ea_ with ea_;subst ea_));subst ec_;clear en_));have GB66:=zA x1;have O4:=zA HG66;clear x1 gl66 HG66;(first|simp only[add_plain]at f4|skip);(first|simp only[add_plain]at f5|skip);(first|simp only[add_plain]at f7|skip);(first|simp only[add_plain]at f8|skip);obtain⟨Z1,x2,hM66,i9,j1⟩:=Kd.R_elem HO_7.out z37 (a2:Int) E4 E5;obtain rfl:=k37_openM hM66;have j8:World.cell? _ ⟨a8,(a2:Int).toNat*2,none⟩=some (.int .i64 ((rd_T37 a6 a2).f0)):=i9 0 _ rfl;have j9:World.cell? _ ⟨a8,(a2:Int).toNat*2+1,none⟩=some (.int .i64 ((rd_T37 a6 a2).f1)):=i9 1 _ rfl;have n7:World.frozen? _ ⟨a8,(a2:Int).toNat*2,none⟩=false:=j1 0;have n8:World.frozen? _ ⟨a8,(a2:Int).toNat*2+1,none⟩=false:=j1 1;clear x2 i9 j1 hM66;replace E4:=eq_true E4;replace E5:=eq_true E5;obtain⟨cm,J9,hM76,K0,U9⟩:=Kd.R_elem HO_7.out z37 (a2:Int) (za) (by have h_:(a2:Int)<((a6.length:Int):Int):=za;first|exact h_|(have e_:=(Kd.R_reads' HO_7.out).1;omega)|simpa using h_);obtain rfl:=k37_openM hM76;have O7:=(Kd.R_seg HO_7.out (a2:Int) (za) (by have h_:(a2:Int)<((a6.length:Int):Int):=za;first|exact h_|(have e_:=(Kd.R_reads' HO_7.out).1;omega)|simpa using h_) (seg:=[.int .i64 d1]) (j:=1) J9 K0 (show 2≤2 from by decide) (x':=(⟨(rd_T37 a6 a2).f0,d1⟩:S37)) (k37_mkM _ _ _ (⟨(rd_T37 a6 a2).f0,d1⟩:S37)) (fun _ hk=>hk)).1;rw[←o5.out]at O7;have O8:=zA O7;clear J9 K0 U9 hM76 O7;refine start_ (n:=21) (S:=fun w'=>w'.cell? ⟨a4,0,none⟩=some (.int .i64 b1)∧w'.cell? ⟨a4,1,none⟩=some (.int .i64 a9)∧w'.cell? ⟨a4,2,none⟩=some (.slice g2 a5.length f9)∧w'.cell? ⟨a4,3,none⟩=some (.int .i64 b4)∧w'.cell? ⟨a4,4,none⟩=some (.int .i64 b5)∧w'.cell? ⟨a8,((a2).toNat*2),none⟩=some (.int .i64 ((rd_T37 a6 a2).f0))∧w'.cell? ⟨a8,((a2).toNat*2)+1,none⟩=some (.int .i64 ((rd_T37 a6 a2).f1))∧w'.cell? ⟨a8,(((c0)).toNat*2),none⟩=some (.int .i64 ((rd_T37 a6 (c0)).f0))∧w'.cell? ⟨a8,(((c0)).toNat*2)+1,none⟩=some (.int .i64 ((rd_T37 a6 (c0)).f1))) (ds:=[20]) #[F,F,F,F,F,F,F,F,F,F,F,F,F,F,F,F,F,F,F,F,F] (by kernel_rfl) rfl rfl ⟨zc0 a1,zc1 a1,zc2 a1,zc3 a1,zc4 a1,f4,f5,f7,f8⟩ (fun hHeld=>?_);refine with_tabW impl_FlyPath_spans.tab19 impl_FlyPath_spans.bits19 (fun HT_ HW_=>?_);generalize wr.drew=cn at HO_7 a1 HB O4 O8 n7 n8 f4 f5 f7 f8 j8 j9 hHeld⊢;refine zq HT_ 0 ?_;refine zq HT_ 1 ?_;refine zq HT_ 2 ?_;refine zq HT_ 3 ?_;refine zq HT_ 4 ?_;refine zq HT_ 5 ?_;refine zq HT_ 7 ?_;refine zq HT_ 8 ?_;refine zq HT_ 9 ?_;refine zq HT_ 10 ?_;refine zq HT_ 11 ?_;refine zq HT_ 13 ?_;refine zq HT_ 14 ?_;refine zk9 HT_ HW_ hHeld 6 ?_;refine zk9 HT_ HW_ hHeld 12 ?_;refine zk9 HT_ HW_ hHeld 15 ?_;refine zq HT_ 16 ?_;refine zq HT_ 17 ?_;refine zq HT_ 18 ?_;refine zq HT_ 19 ?_;refine zO HT_ 20 (fun K hK=>?_);refine skip_ (w1:=?_) (by rfl) rfl ?_ ?_;rotate_left
       ·go_simp
        rfl
       refine hK.out _ _ ?_;clear hK K;refine done_ (done_of HT_.out (by kernel_rfl)) ?_;obtain⟨F1,F2,F3,F4,F5⟩:=zd5 a1;obtain⟨G1,G2,G3,G4,G5⟩:=zn5 a1;have m5:0≤(a2:Int):=za;have m8:a2<(a5.length:Int):=za;obtain⟨n1,O6,d4,e3,e4,e5,e6,e7,d5⟩:=at_T52 j5.out a2 m5 m8;(try rw[←Nbq68.out]at d5);cases O6;have hn390_0:n1.block≠a8:=Nat.ne_of_lt (Nat.lt_of_lt_of_le (by have:=World.block_lt_of_cell? _ _ d4;first|rwa [add_block]at this|exact this) GB66.out);replace d4:=zx HB d4;replace e3:=zx HB e3;replace e4:=zx HB e4;replace e5:=zx HB e5;replace e6:=zx HB e6;replace e7:=zx HB e7;replace d5:=zx HB d5;replace d4:=(cell_far (p:=⟨a8,(a2:Int).toNat*2+1,none⟩) (by first|(rw[add_block];exact hn390_0)|(show(Addr.add _ _).block≠_;rw[add_block];exact hn390_0)|exact hn390_0) (.int .i64 d1)).trans d4;replace e3:=(cell_far (p:=⟨a8,(a2:Int).toNat*2+1,none⟩) (by first|(rw[add_block];exact hn390_0)|(show(Addr.add _ _).block≠_;rw[add_block];exact hn390_0)|exact hn390_0) (.int .i64 d1)).trans e3;replace e4:=(cell_far (p:=⟨a8,(a2:Int).toNat*2+1,none⟩) (by first|(rw[add_block];exact hn390_0)|(show(Addr.add _ _).block≠_;rw[add_block];exact hn390_0)|exact hn390_0) (.int .i64 d1)).trans e4;replace e5:=(cell_far (p:=⟨a8,(a2:Int).toNat*2+1,none⟩) (by first|(rw[add_block];exact hn390_0)|(show(Addr.add _ _).block≠_;rw[add_block];exact hn390_0)|exact hn390_0) (.int .i64 d1)).trans e5;replace e6:=(cell_far (p:=⟨a8,(a2:Int).toNat*2+1,none⟩) (by first|(rw[add_block];exact hn390_0)|(show(Addr.add _ _).block≠_;rw[add_block];exact hn390_0)|exact hn390_0) (.int .i64 d1)).trans e6;replace e7:=(cell_far (p:=⟨a8,(a2:Int).toNat*2+1,none⟩) (by first|(rw[add_block];exact hn390_0)|(show(Addr.add _ _).block≠_;rw[add_block];exact hn390_0)|exact hn390_0) (.int .i64 d1)).trans e7;replace d5:=(cell_far (p:=⟨a8,(a2:Int).toNat*2+1,none⟩) (by first|(rw[add_block];exact hn390_0)|(show(Addr.add _ _).block≠_;rw[add_block];exact hn390_0)|exact hn390_0) (.int .i64 d1)).trans d5;clear hn390_0;replace m5:=eq_true m5;replace m8:=eq_true m8;have hne_:a4≠a8:=(by have h_:=Kd.R_ne HO_7.out a1.out (by decide);intro e_;exact h_ (by rw[e_];rfl));have N0:=(cell_far (p:=⟨a8,(a2:Int).toNat*2+1,none⟩) (a:=⟨a4,0,none⟩) hne_ (.int .i64 d1)).trans (zc0 a1);have N1:=(cell_far (p:=⟨a8,(a2:Int).toNat*2+1,none⟩) (a:=⟨a4,1,none⟩) hne_ (.int .i64 d1)).trans (zc1 a1);have N2:=(cell_far (p:=⟨a8,(a2:Int).toNat*2+1,none⟩) (a:=⟨a4,2,none⟩) hne_ (.int .i64 d1)).trans (zc2 a1);have N3:=(cell_far (p:=⟨a8,(a2:Int).toNat*2+1,none⟩) (a:=⟨a4,3,none⟩) hne_ (.int .i64 d1)).trans (zc3 a1);have N4:=(cell_far (p:=⟨a8,(a2:Int).toNat*2+1,none⟩) (a:=⟨a4,4,none⟩) hne_ (.int .i64 d1)).trans (zc4 a1)
       try go_wp2
       obtain⟨W9,e_⟩: ∃x,x=(cn.setCell ⟨a8,(a2:Int).toNat*2+1,none⟩ (.int .i64 d1)):=⟨_,rfl⟩
       have n0_:Aside0 (Kd.R k37 37 W9 w.heap.size (fun _=>True) (.slice (some ⟨a8,0,none⟩) a6.length co10) d7):=by rw[e_];exact⟨zr O8⟩
       have n1_:Aside0 (W9.heap[a4]?=some (.cells #[.int .i64 b1,.int .i64 a9,.slice (some n1) a5.length f9,.int .i64 b4,.int .i64 b5] 27 (0,0))):=by rw[e_];exact⟨by(with_reducible repeat(first|refine blk_drewN ?_ _|refine blk_drew ?_|refine blk_alloc ?_ _));refine blk_far ?_ (by have h_:=Kd.R_ne HO_7.out a1.out (by decide);intro e_;exact h_ (by rw[e_];rfl)) _;(with_reducible repeat(first|refine blk_drewN ?_ _|refine blk_drew ?_|refine blk_alloc ?_ _));exact a1.out⟩
       have n2_:Aside0 (Below w.heap.size w W9):=by rw[e_];exact⟨zs2 HB GB66 b8⟩
       (try clear HO_7);(try clear a1);(try clear HB);rw[←e_];clear e_;have HO_7:=n0_;have a1:=n1_;have HB:=n2_;clear n0_ n1_ n2_;replace HO_7:=zA (Kd.R_drew HO_7.out);replace a1:=zA (blk_drew a1.out);replace HB:=zA (below_drew1 HB.out);have G6:0≤(a2:Int):=za;have G8:a2<(d7.length:Int):=(by have h_:(a2:Int)<((a6.length:Int):Int):=za;first|(have e_:=(Kd.R_reads' HO_7.out).1;omega)|simpa only[o5.out,List.length_set]using h_);have ql391:((a2:Int)<((a6.length:Int):Int))=True:=eq_true (za);obtain⟨V0,Z3,h2,h3⟩:=at_T37 (Kd.R_reads' HO_7.out).2.2 a2 G6 G8;obtain rfl:(⟨a8,0,none⟩:Addr)=V0:=(by injection Z3);(first|simp only[add_plain]at h2|simp only[add_at]at h2|simp only[Addr.add,Nat.zero_add]at h2|skip);(first|simp only[add_plain]at h3|simp only[add_at]at h3|simp only[Addr.add,Nat.zero_add]at h3|skip);replace G6:=eq_true G6;replace G8:=eq_true G8;have G7:0≤((c0):Int):=za;have G9:(c0)<(d7.length:Int):=(by have h_:((c0):Int)<((a6.length:Int):Int):=za;first|(have e_:=(Kd.R_reads' HO_7.out).1;omega)|simpa only[o5.out,List.length_set]using h_);have ql392:(((c0):Int)<((a6.length:Int):Int))=True:=eq_true (za);obtain⟨V1,Z4,h4,h5⟩:=at_T37 (Kd.R_reads' HO_7.out).2.2 (c0) G7 G9;obtain rfl:(⟨a8,0,none⟩:Addr)=V1:=(by injection Z4);(first|simp only[add_plain]at h4|simp only[add_at]at h4|simp only[Addr.add,Nat.zero_add]at h4|skip);(first|simp only[add_plain]at h5|simp only[add_at]at h5|simp only[Addr.add,Nat.zero_add]at h5|skip);replace G7:=eq_true G7;replace G9:=eq_true G9;have T5:0≤(a2:Int):=za;have U0:(a2:Int)<((a6.length:Int):Int):=za;obtain⟨co,V2,hM74,x5,x6⟩:=Kd.R_elem HO_7.out z37 (a2:Int) T5 U0;obtain rfl:=k37_openM hM74;have w0:World.cell? _ ⟨a8,(a2:Int).toNat*2,none⟩=some (.int .i64 ((rd_T37 d7 a2).f0)):=x5 0 _ rfl;have w2:World.cell? _ ⟨a8,(a2:Int).toNat*2+1,none⟩=some (.int .i64 ((rd_T37 d7 a2).f1)):=x5 1 _ rfl;have O9:World.frozen? _ ⟨a8,(a2:Int).toNat*2,none⟩=false:=x6 0;have P0:World.frozen? _ ⟨a8,(a2:Int).toNat*2+1,none⟩=false:=x6 1;clear V2 x5 x6 hM74;replace T5:=eq_true T5;replace U0:=eq_true U0;obtain⟨cp,K1,hM80,K2,V3⟩:=Kd.R_elem HO_7.out z37 (a2:Int) (za) (by have h_:(a2:Int)<((a6.length:Int):Int):=za;first|exact h_|(have e_:=(Kd.R_reads' HO_7.out).1;omega)|simpa using h_);obtain rfl:=k37_openM hM80;have P1:=(Kd.R_seg HO_7.out (a2:Int) (za) (by have h_:(a2:Int)<((a6.length:Int):Int):=za;first|exact h_|(have e_:=(Kd.R_reads' HO_7.out).1;omega)|simpa using h_) (seg:=[.int .i64 x3]) (j:=0) K1 K2 (show 1≤2 from by decide) (x':=(⟨x3,(rd_T37 d7 a2).f1⟩:S37)) (k37_mkM _ _ _ (⟨x3,(rd_T37 d7 a2).f1⟩:S37)) (fun _ hk=>hk)).1;rw[←U8.out]at P1;have V4:=zA P1;clear K1 K2 V3 hM80 P1;refine start_ (n:=21) (S:=fun w'=>w'.cell? ⟨a4,0,none⟩=some (.int .i64 b1)∧w'.cell? ⟨a4,1,none⟩=some (.int .i64 a9)∧w'.cell? ⟨a4,2,none⟩=some (.slice (some n1) a5.length f9)∧w'.cell? ⟨a4,3,none⟩=some (.int .i64 b4)∧w'.cell? ⟨a4,4,none⟩=some (.int .i64 b5)∧w'.cell? ⟨a8,(a2).toNat*2,none⟩=some (.int .i64 ((rd_T37 d7 a2).f0))∧w'.cell? ⟨a8,(a2).toNat*2+1,none⟩=some (.int .i64 ((rd_T37 d7 a2).f1))∧w'.cell? ⟨a8,((c0)).toNat*2,none⟩=some (.int .i64 ((rd_T37 d7 (c0)).f0))∧w'.cell? ⟨a8,((c0)).toNat*2+1,none⟩=some (.int .i64 ((rd_T37 d7 (c0)).f1))) (ds:=[20]) #[F,F,F,F,F,F,F,F,F,F,F,F,F,F,F,F,F,F,F,F,F] (by kernel_rfl) rfl rfl ⟨zc0 a1,zc1 a1,zc2 a1,zc3 a1,zc4 a1,h2,h3,h4,h5⟩ (fun hHeld=>?_);refine with_tabW impl_FlyPath_spans.tab21 impl_FlyPath_spans.bits21 (fun HT_ HW_=>?_);generalize W9.drew=ep at HO_7 a1 HB O8 V4 O9 P0 h2 h3 h4 h5 w0 w2 hHeld⊢;refine zq HT_ 0 ?_;refine zq HT_ 1 ?_;refine zq HT_ 2 ?_;refine zq HT_ 3 ?_;refine zq HT_ 4 ?_;refine zq HT_ 5 ?_;refine zq HT_ 7 ?_;refine zq HT_ 8 ?_;refine zq HT_ 9 ?_;refine zq HT_ 10 ?_;refine zq HT_ 11 ?_;refine zq HT_ 13 ?_;refine zq HT_ 14 ?_;refine zk9 HT_ HW_ hHeld 6 ?_;refine zk9 HT_ HW_ hHeld 12 ?_;refine zk9 HT_ HW_ hHeld 15 ?_;refine zq HT_ 16 ?_;refine zq HT_ 17 ?_;refine zq HT_ 18 ?_;refine zq HT_ 19 ?_;refine zO HT_ 20 (fun K hK=>?_);refine skip_ (w1:=?_) (by rfl) rfl ?_ ?_;rotate_left
       ·go_simp
        rfl
       refine hK.out _ _ ?_;clear hK K;refine done_ (done_of HT_.out (by kernel_rfl)) ?_
       try go_wp2
       (try simp only[←hl7_3])
       go_roundg k3
       case measure=>have:=n9.out;have:=x9.out;have:=P2.out;omega
       case rel=>exact⟨(U7),(wrap64 (a2-1)),zi,H',⟨by have:=n9.out;have:=x9.out;have:=P2.out;omega⟩,⟨by(try simp only[hl7_1]);(try simp only[hl7_2]);(try simp only[hl7_3]);(with_reducible repeat(first|apply Kd.R_alloc|apply Kd.R_drewN|apply Kd.R_drew));exact V4.out⟩,⟨by(try simp only[hl7_1]);(try simp only[hl7_2]);(try simp only[hl7_3]);(with_reducible repeat(first|refine blk_drewN ?_ _|refine blk_drew ?_|refine blk_alloc ?_ _));refine blk_far ?_ (by have h_:=Kd.R_ne HO_7.out a1.out (by decide);intro e_;exact h_ (by rw[e_];rfl)) _;(with_reducible repeat(first|refine blk_drewN ?_ _|refine blk_drew ?_|refine blk_alloc ?_ _));exact a1.out⟩,⟨zs2 HB GB66 b8⟩⟩
end Go.Proofs.Ytidoahlbaeiemaa.QFnFlyTight
