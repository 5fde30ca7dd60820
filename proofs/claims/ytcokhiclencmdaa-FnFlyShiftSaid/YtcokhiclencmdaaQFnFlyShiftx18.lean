/- The walk of what the law FnFlyShift reaches: laid by a program of this session (ownprint.py). -/
import Derived.Test.YtcokhiclencmdaaQFnFlyShiftx0
import Derived.Test.YtcokhiclencmdaaQFnFlyShiftx10
import Derived.Test.YtcokhiclencmdaaQFnFlyShiftx12
import Derived.Test.YtcokhiclencmdaaQFnFlyShiftx14
import Derived.Test.YtcokhiclencmdaaQFnFlyShiftx15
import Derived.Test.YtcokhiclencmdaaQFnFlyShiftx17
namespace Go.Proofs.Ytcokhiclencmdaa.QFnFlyShift
open Go.RowKit Go.Proofs.YtcokhiclencmdaaW.PrintWords Go.Proofs.YtcokhiclencmdaaW.PrintLast Go.Proofs.YtcokhiclencmdaaW.PrintMore Go.Proofs.Ytcokhiclencmdaa.Z
attribute [local go_sem] max2_int min2_int max_two min_two max_three min_three max_four min_four zdn   -- for this text's walks alone
set_option linter.unusedVariables false
set_option linter.unusedSimpArgs false
mutual
def laws_FnFlyShift.j0:Nat→Int→Bool→Bool→Int→Int→List (S43)→Int→Int→Int→Int→List (S43)→Int→Int→Option (Bool)
 |0,_,_,_,_,_,_,_,_,_,_,_,_,_=>none
 |k+1,x4,x6,x42,a2,a3,a4,a5,a6,a7,a8,a1,a9,b0=>if x42=true then(some false)else(if x6=true then((impl_FlyShift.f k a7 a8 a1 a9 b0 (wrap64 (-x4))).bind fun a0=>((impl_FlyFirst.f k a2 a3 a4 a5 a6).bind fun b1=>((impl_FlyFirst.f k a7 a8 a1 a9 b0).bind fun b2=>(if a0.2.2.2.2.2=true then((laws_wfPath.f k a0.1 a0.2.1 a0.2.2.1 a0.2.2.2.1 a0.2.2.2.2.1 a2 a3 a4 a5 a6).bind fun b3=>(if b3=true then(laws_FnFlyShift.j1 k x4 b1 b2 ((b1.length:Int) !=(b2.length:Int)))else(laws_FnFlyShift.j1 k x4 b1 b2 true)))else(laws_FnFlyShift.j1 k x4 b1 b2 true)))))else(some ((a1.length:Int)==0)))
def laws_FnFlyShift.j1:Nat→Int→List Int→List Int→Bool→Option (Bool)
 |0,_,_,_,_=>none
 |k+1,x4,x11,x12,x74=>if x74=true then(some false)else(laws_FnFlyShift.l0 k x4 x11 x12 0)
def laws_FnFlyShift.l0:Nat→Int→List Int→List Int→Int→Option (Bool)
 |0,_,_,_,_=>none
 |k+1,x4,x11,x12,x13=>if x13<(x11.length:Int)then(if 0≤x13 then(if x13<(x12.length:Int)then(if(rd x12 x13)=(wrap64 ((rd x11 x13)+x4))then(laws_FnFlyShift.l0 k x4 x11 x12 (wrap64 (x13+1)))else(some false))else(none))else(none))else(some true)
end
def laws_FnFlyShift.f (k:Nat) (l0:List Int):Option (Bool):=if(l0.length:Int)>1048576 then(some true)else((spec_DrawFlyShift.f k l0).bind fun a0=>((impl_FlyShift.f k a0.1 a0.2.1 a0.2.2.1 a0.2.2.2.1 a0.2.2.2.2.1 a0.2.2.2.2.2).bind fun a1=>((spec_FlyShift.f k a0.1 a0.2.1 a0.2.2.1 a0.2.2.2.1 a0.2.2.2.2.1 a0.2.2.2.2.2).bind fun a2=>(if(a1.2.2.2.2.2 !=a2.2.2.2.2.2)=true then(laws_FnFlyShift.j0 k a0.2.2.2.2.2 a1.2.2.2.2.2 true a0.1 a0.2.1 a0.2.2.1 a0.2.2.2.1 a0.2.2.2.2.1 a1.1 a1.2.1 a1.2.2.1 a1.2.2.2.1 a1.2.2.2.2.1)else((laws_wfPath.f k a1.1 a1.2.1 a1.2.2.1 a1.2.2.2.1 a1.2.2.2.2.1 a2.1 a2.2.1 a2.2.2.1 a2.2.2.2.1 a2.2.2.2.2.1).bind fun a3=>(laws_FnFlyShift.j0 k a0.2.2.2.2.2 a1.2.2.2.2.2 (!a3) a0.1 a0.2.1 a0.2.2.1 a0.2.2.2.1 a0.2.2.2.2.1 a1.1 a1.2.1 a1.2.2.1 a1.2.2.2.1 a1.2.2.2.2.1))))))
set_option maxHeartbeats 8000000 in
set_option maxRecDepth 100000 in
theorem laws_FnFlyShift.calls (k:Nat) (A0:Option Addr) (c0:Nat) (l0:List Int) (r:Bool) (w:World) (hr0:Kd.C (Kd.int .u8) w A0 l0.length l0) (hc0:l0.length≤c0) (h:laws_FnFlyShift.f k l0=some r):
 Calls Try.prog 3 #[.slice A0 l0.length c0] w fun e w'=>e= .returned (.bool r)∧Below w.heap.size w w':=by
 have N3:=Try.underlying27;have G2:=zA hr0;have G3:=zA hc0;clear hr0 hc0;have HB:=zA (Below.refl w.heap.size w);have H:=h;clear h;unfold laws_FnFlyShift.f at H
 by_cases c2:(l0.length:Int)>1048576
 ·rw[if_pos c2]at H
  have z5:decide (1048576<(l0.length:Int))=true:=decide_eq_true c2;have z6:decide (1048576<l0.length)=true:=decide_eq_true (by omega);clear c2;obtain rfl:=Option.some.inj H
  go_enter Try.func3,Try.ntmps3
  go_wp2
  repeat(go_quiet (fail);try go_wp2)
  go_ret;exact⟨ze,zs0 HB⟩
 rw[if_neg c2]at H;have z5:decide (1048576<(l0.length:Int))=false:=decide_eq_false c2;have z6:decide (1048576<l0.length)=false:=decide_eq_false (by omega);clear c2;replace H:=Option.bind_eq_some_iff.mp H;obtain⟨⟨b5,b6,a9,b7,b8,e0⟩,H4,H⟩:=H;replace H:((impl_FlyShift.f k b5 b6 a9 b7 b8 e0).bind fun e8=>((spec_FlyShift.f k b5 b6 a9 b7 b8 e0).bind fun f6=>(if(e8.2.2.2.2.2 !=f6.2.2.2.2.2)=true then(laws_FnFlyShift.j0 k e0 e8.2.2.2.2.2 true b5 b6 a9 b7 b8 e8.1 e8.2.1 e8.2.2.1 e8.2.2.2.1 e8.2.2.2.2.1)else((laws_wfPath.f k e8.1 e8.2.1 e8.2.2.1 e8.2.2.2.1 e8.2.2.2.2.1 f6.1 f6.2.1 f6.2.2.1 f6.2.2.2.1 f6.2.2.2.2.1).bind fun p1=>(laws_FnFlyShift.j0 k e0 e8.2.2.2.2.2 (!p1) b5 b6 a9 b7 b8 e8.1 e8.2.1 e8.2.2.1 e8.2.2.2.1 e8.2.2.2.2.1)))))=some r:=H;have A3:=zA H4;clear H4;replace H:=Option.bind_eq_some_iff.mp H;obtain⟨⟨e1,e2,b1,e3,e4,f7⟩,H5,H⟩:=H;replace H:((spec_FlyShift.f k b5 b6 a9 b7 b8 e0).bind fun f6=>(if(f7 !=f6.2.2.2.2.2)=true then(laws_FnFlyShift.j0 k e0 f7 true b5 b6 a9 b7 b8 e1 e2 b1 e3 e4)else((laws_wfPath.f k e1 e2 b1 e3 e4 f6.1 f6.2.1 f6.2.2.1 f6.2.2.2.1 f6.2.2.2.2.1).bind fun p1=>(laws_FnFlyShift.j0 k e0 f7 (!p1) b5 b6 a9 b7 b8 e1 e2 b1 e3 e4))))=some r:=H;have A4:=zA H5;clear H5;replace H:=Option.bind_eq_some_iff.mp H;obtain⟨⟨f9,g0,d3,g1,g2,k5⟩,H6,H⟩:=H;replace H:(if(f7 !=k5)=true then(laws_FnFlyShift.j0 k e0 f7 true b5 b6 a9 b7 b8 e1 e2 b1 e3 e4)else((laws_wfPath.f k e1 e2 b1 e3 e4 f9 g0 d3 g1 g2).bind fun p1=>(laws_FnFlyShift.j0 k e0 f7 (!p1) b5 b6 a9 b7 b8 e1 e2 b1 e3 e4)))=some r:=H;have A5:=zA H6;clear H6;have G4:=zA H;clear H
 go_enter Try.func3,Try.ntmps3
 go_upto_region 6 with(first|(go_at_call 4;(with_reducible refine(spec_DrawFlyShift.calls k _ _ l0 b5 b6 a9 b7 b8 e0 _ ?side1 ?side2 A3.out).mono ?_);(case side1=>repeat(first|exact G2.out|(with_reducible refine Kd.C_alloc ?_ _)|(with_reducible refine Kd.C_drewN ?_ _)|(with_reducible refine Kd.C_drew ?_)));(case side2=>exact G3.out);rintro e w7 ⟨D6,rfl,d9,hb⟩;have a5:=zA (Kd.R_lower d9 (below_size (zs0 HB)));replace HB:=zE (zs0 HB) hb;(try clear hb);(try clear hb2);(try clear hk);(try clear hi);(try clear d9))|((with_reducible refine gate_dst (N:=3) rfl ?_);(try(refine gate_guard (by rfl) ?_;dsimp only));refine zbx 3 #[.int .i64 0,.int .i64 0,.slice none 0 0,.int .i64 0,.int .i64 0] 27 ?_;intro f3 hg w8 hbox hb;have a0:=zA hbox;have z9:=zgs hg (zs0 HB);have a3:=zgs hg (zs0 HB);replace a5:=zA (Kd.R_below (zr a5) hb);replace HB:=zE (zs0 HB) hb;clear hb hbox hg;obtain⟨o0,o1,o2,o3,o4⟩:=zd5 a0;obtain⟨o5,o6,o7,o8,o9⟩:=zn5 a0;obtain⟨Ao10,co10,y8⟩:=Kd.R_slice a5.out;subst y8)|(go_at_call 5;(with_reducible refine(impl_FlyShift.calls k b5 b6 _ _ a9 b7 b8 e0 e1 e2 b1 e3 e4 f7 _ ?side1 ?side2 A4.out).mono ?_);(case side1=>refine(Kd.R_reads' (e:=43) (base:=w.heap.size) (ok:=fun k_=>True) (n:=a9.length) (c:=co10) ?_).2.2;exact(zRf a5 a0 (fun _ h_=>h_.1)));(case side2=>exact(Kd.R_reads' a5.out).2.1);rintro e H7 ⟨D7,rfl,d9,hb⟩;have b0:=zA (Kd.R_lower (Kd.R_new' d9 (Kd.R_lt (zRf a5 a0 (fun _ h_=>h_.1)))) (below_size (zs1 HB a3)));replace a5:=zA (Kd.R_elder' (zRf a5 a0 (fun _ h_=>h_.1)) (Kd.R_base d9) hb);replace a0:=zA (blk_below (g:=f3) (o:= .cells #[.int .i64 b5,.int .i64 b6,.slice Ao10 a9.length co10,.int .i64 b7,.int .i64 b8] 27 (0,0)) (zpb a0) hb);replace HB:=zE (zs1 HB a3) hb;(try clear hb);(try clear hb2);(try clear hk);(try clear hi);(try clear d9))|((with_reducible refine gate_dst (N:=5) rfl ?_);(try(refine gate_guard (by rfl) ?_;dsimp only));refine zbx 5 #[.int .i64 0,.int .i64 0,.slice none 0 0,.int .i64 0,.int .i64 0] 27 ?_;intro f5 hg H8 hbox hb;have a1:=zA hbox;have A1:=zgs hg (zs1 HB a3);have a4:=zgs hg (zs1 HB a3);have b3:=zne hg a0;have d5:=znf hg a0;replace a5:=zA (Kd.R_below (zr a5) hb);replace b0:=zA (Kd.R_below (zr b0) hb);replace a0:=zb a0 hb;replace HB:=zE (zs1 HB a3) hb;clear hb hbox hg;have A2:=d5.out;have A6:=b3.out;obtain⟨g7,g8,g9,h0,h1⟩:=zd5 a1;obtain⟨h2,h3,h4,h5,h6⟩:=zn5 a1;obtain⟨Ao15,co15,y9⟩:=Kd.R_slice b0.out;subst y9;obtain⟨h7,h8,h9,i0,i1⟩:=zd5 a0;obtain⟨i2,i3,i4,i5,i6⟩:=zn5 a0)|(go_at_call 6;(with_reducible refine(spec_FlyShift.calls k b5 b6 _ _ a9 b7 b8 e0 f9 g0 d3 g1 g2 k5 _ ?side1 ?side2 A5.out).mono ?_);(case side1=>refine(Kd.R_reads' (e:=43) (base:=w.heap.size) (ok:=fun k_=>(True∧some k_≠(.slice Ao15 b1.length co15:Value).ownBlock)) (n:=a9.length) (c:=co10) ?_).2.2;exact(zRf a5 a1 (fun _ h_=>h_.1)));(case side2=>exact(Kd.R_reads' a5.out).2.1);rintro e H9 ⟨D8,rfl,d9,hb⟩;have d4:=zA (Kd.R_lower (Kd.R_new' (Kd.R_new' d9 (Kd.R_lt (zRf a5 a1 (fun _ h_=>h_.1)))) (Kd.R_lt (zRf b0 a1 (fun _ h_=>h_.1)))) (below_size (zs2 HB a3 a4)));replace a5:=zA (Kd.R_elder' (zRf a5 a1 (fun _ h_=>h_.1)) (Kd.R_base d9) hb);replace b0:=zA (Kd.R_elder' (zRf b0 a1 (fun _ h_=>h_.1)) (Kd.R_base d9) hb);replace a0:=zA (blk_below (g:=f3) (o:= .cells #[.int .i64 b5,.int .i64 b6,.slice Ao10 a9.length co10,.int .i64 b7,.int .i64 b8] 27 (0,0)) (zpf a0 b3) hb);replace a1:=zA (blk_below (g:=f5) (o:= .cells #[.int .i64 e1,.int .i64 e2,.slice Ao15 b1.length co15,.int .i64 e3,.int .i64 e4] 27 (0,0)) (zpb a1) hb);replace HB:=zE (zs2 HB a3 a4) hb;(try clear hb);(try clear hb2);(try clear hk);(try clear hi);(try clear d9))|((with_reducible refine gate_dst (N:=7) rfl ?_);(try(refine gate_guard (by rfl) ?_;dsimp only));refine zbx 7 #[.int .i64 0,.int .i64 0,.slice none 0 0,.int .i64 0,.int .i64 0] 27 ?_;intro f8 hg I0 hbox hb;have a2:=zA hbox;have A7:=zgs hg (zs2 HB a3 a4);have a7:=zgs hg (zs2 HB a3 a4);have b2:=zne hg a0;have d2:=znf hg a0;have b9:=zne hg a1;have e5:=znf hg a1;replace a5:=zA (Kd.R_below (zr a5) hb);replace b0:=zA (Kd.R_below (zr b0) hb);replace d4:=zA (Kd.R_below (zr d4) hb);replace a0:=zb a0 hb;replace a1:=zb a1 hb;replace HB:=zE (zs2 HB a3 a4) hb;clear hb hbox hg;have A8:=d2.out;have A9:=b2.out;have B0:=e5.out;have B1:=b9.out;obtain⟨i7,i8,i9,j5,j6⟩:=zd5 a2;obtain⟨j7,j8,j9,k0,k1⟩:=zn5 a2;obtain⟨Ao22,co22,z0⟩:=Kd.R_slice d4.out;subst z0))
 repeat(go_quiet (first|(go_at_call 4;(with_reducible refine(spec_DrawFlyShift.calls k _ _ l0 b5 b6 a9 b7 b8 e0 _ ?side1 ?side2 A3.out).mono ?_);(case side1=>repeat(first|exact G2.out|(with_reducible refine Kd.C_alloc ?_ _)|(with_reducible refine Kd.C_drewN ?_ _)|(with_reducible refine Kd.C_drew ?_)));(case side2=>exact G3.out);rintro e w7 ⟨D6,rfl,d9,hb⟩;have a5:=zA (Kd.R_lower d9 (below_size (zs0 HB)));replace HB:=zE (zs0 HB) hb;(try clear hb);(try clear hb2);(try clear hk);(try clear hi);(try clear d9))|((with_reducible refine gate_dst (N:=3) rfl ?_);(try(refine gate_guard (by rfl) ?_;dsimp only));refine zbx 3 #[.int .i64 0,.int .i64 0,.slice none 0 0,.int .i64 0,.int .i64 0] 27 ?_;intro f3 hg w8 hbox hb;have a0:=zA hbox;have z9:=zgs hg (zs0 HB);have a3:=zgs hg (zs0 HB);replace a5:=zA (Kd.R_below (zr a5) hb);replace HB:=zE (zs0 HB) hb;clear hb hbox hg;obtain⟨o0,o1,o2,o3,o4⟩:=zd5 a0;obtain⟨o5,o6,o7,o8,o9⟩:=zn5 a0;obtain⟨Ao10,co10,y8⟩:=Kd.R_slice a5.out;subst y8)|(go_at_call 5;(with_reducible refine(impl_FlyShift.calls k b5 b6 _ _ a9 b7 b8 e0 e1 e2 b1 e3 e4 f7 _ ?side1 ?side2 A4.out).mono ?_);(case side1=>refine(Kd.R_reads' (e:=43) (base:=w.heap.size) (ok:=fun k_=>True) (n:=a9.length) (c:=co10) ?_).2.2;exact(zRf a5 a0 (fun _ h_=>h_.1)));(case side2=>exact(Kd.R_reads' a5.out).2.1);rintro e H7 ⟨D7,rfl,d9,hb⟩;have b0:=zA (Kd.R_lower (Kd.R_new' d9 (Kd.R_lt (zRf a5 a0 (fun _ h_=>h_.1)))) (below_size (zs1 HB a3)));replace a5:=zA (Kd.R_elder' (zRf a5 a0 (fun _ h_=>h_.1)) (Kd.R_base d9) hb);replace a0:=zA (blk_below (g:=f3) (o:= .cells #[.int .i64 b5,.int .i64 b6,.slice Ao10 a9.length co10,.int .i64 b7,.int .i64 b8] 27 (0,0)) (zpb a0) hb);replace HB:=zE (zs1 HB a3) hb;(try clear hb);(try clear hb2);(try clear hk);(try clear hi);(try clear d9))|((with_reducible refine gate_dst (N:=5) rfl ?_);(try(refine gate_guard (by rfl) ?_;dsimp only));refine zbx 5 #[.int .i64 0,.int .i64 0,.slice none 0 0,.int .i64 0,.int .i64 0] 27 ?_;intro f5 hg H8 hbox hb;have a1:=zA hbox;have A1:=zgs hg (zs1 HB a3);have a4:=zgs hg (zs1 HB a3);have b3:=zne hg a0;have d5:=znf hg a0;replace a5:=zA (Kd.R_below (zr a5) hb);replace b0:=zA (Kd.R_below (zr b0) hb);replace a0:=zb a0 hb;replace HB:=zE (zs1 HB a3) hb;clear hb hbox hg;have A2:=d5.out;have A6:=b3.out;obtain⟨g7,g8,g9,h0,h1⟩:=zd5 a1;obtain⟨h2,h3,h4,h5,h6⟩:=zn5 a1;obtain⟨Ao15,co15,y9⟩:=Kd.R_slice b0.out;subst y9;obtain⟨h7,h8,h9,i0,i1⟩:=zd5 a0;obtain⟨i2,i3,i4,i5,i6⟩:=zn5 a0)|(go_at_call 6;(with_reducible refine(spec_FlyShift.calls k b5 b6 _ _ a9 b7 b8 e0 f9 g0 d3 g1 g2 k5 _ ?side1 ?side2 A5.out).mono ?_);(case side1=>refine(Kd.R_reads' (e:=43) (base:=w.heap.size) (ok:=fun k_=>(True∧some k_≠(.slice Ao15 b1.length co15:Value).ownBlock)) (n:=a9.length) (c:=co10) ?_).2.2;exact(zRf a5 a1 (fun _ h_=>h_.1)));(case side2=>exact(Kd.R_reads' a5.out).2.1);rintro e H9 ⟨D8,rfl,d9,hb⟩;have d4:=zA (Kd.R_lower (Kd.R_new' (Kd.R_new' d9 (Kd.R_lt (zRf a5 a1 (fun _ h_=>h_.1)))) (Kd.R_lt (zRf b0 a1 (fun _ h_=>h_.1)))) (below_size (zs2 HB a3 a4)));replace a5:=zA (Kd.R_elder' (zRf a5 a1 (fun _ h_=>h_.1)) (Kd.R_base d9) hb);replace b0:=zA (Kd.R_elder' (zRf b0 a1 (fun _ h_=>h_.1)) (Kd.R_base d9) hb);replace a0:=zA (blk_below (g:=f3) (o:= .cells #[.int .i64 b5,.int .i64 b6,.slice Ao10 a9.length co10,.int .i64 b7,.int .i64 b8] 27 (0,0)) (zpf a0 b3) hb);replace a1:=zA (blk_below (g:=f5) (o:= .cells #[.int .i64 e1,.int .i64 e2,.slice Ao15 b1.length co15,.int .i64 e3,.int .i64 e4] 27 (0,0)) (zpb a1) hb);replace HB:=zE (zs2 HB a3 a4) hb;(try clear hb);(try clear hb2);(try clear hk);(try clear hi);(try clear d9))|((with_reducible refine gate_dst (N:=7) rfl ?_);(try(refine gate_guard (by rfl) ?_;dsimp only));refine zbx 7 #[.int .i64 0,.int .i64 0,.slice none 0 0,.int .i64 0,.int .i64 0] 27 ?_;intro f8 hg I0 hbox hb;have a2:=zA hbox;have A7:=zgs hg (zs2 HB a3 a4);have a7:=zgs hg (zs2 HB a3 a4);have b2:=zne hg a0;have d2:=znf hg a0;have b9:=zne hg a1;have e5:=znf hg a1;replace a5:=zA (Kd.R_below (zr a5) hb);replace b0:=zA (Kd.R_below (zr b0) hb);replace d4:=zA (Kd.R_below (zr d4) hb);replace a0:=zb a0 hb;replace a1:=zb a1 hb;replace HB:=zE (zs2 HB a3 a4) hb;clear hb hbox hg;have A8:=d2.out;have A9:=b2.out;have B0:=e5.out;have B1:=b9.out;obtain⟨i7,i8,i9,j5,j6⟩:=zd5 a2;obtain⟨j7,j8,j9,k0,k1⟩:=zn5 a2;obtain⟨Ao22,co22,z0⟩:=Kd.R_slice d4.out;subst z0));go_upto_region 6 with(first|(go_at_call 4;(with_reducible refine(spec_DrawFlyShift.calls k _ _ l0 b5 b6 a9 b7 b8 e0 _ ?side1 ?side2 A3.out).mono ?_);(case side1=>repeat(first|exact G2.out|(with_reducible refine Kd.C_alloc ?_ _)|(with_reducible refine Kd.C_drewN ?_ _)|(with_reducible refine Kd.C_drew ?_)));(case side2=>exact G3.out);rintro e w7 ⟨D6,rfl,d9,hb⟩;have a5:=zA (Kd.R_lower d9 (below_size (zs0 HB)));replace HB:=zE (zs0 HB) hb;(try clear hb);(try clear hb2);(try clear hk);(try clear hi);(try clear d9))|((with_reducible refine gate_dst (N:=3) rfl ?_);(try(refine gate_guard (by rfl) ?_;dsimp only));refine zbx 3 #[.int .i64 0,.int .i64 0,.slice none 0 0,.int .i64 0,.int .i64 0] 27 ?_;intro f3 hg w8 hbox hb;have a0:=zA hbox;have z9:=zgs hg (zs0 HB);have a3:=zgs hg (zs0 HB);replace a5:=zA (Kd.R_below (zr a5) hb);replace HB:=zE (zs0 HB) hb;clear hb hbox hg;obtain⟨o0,o1,o2,o3,o4⟩:=zd5 a0;obtain⟨o5,o6,o7,o8,o9⟩:=zn5 a0;obtain⟨Ao10,co10,y8⟩:=Kd.R_slice a5.out;subst y8)|(go_at_call 5;(with_reducible refine(impl_FlyShift.calls k b5 b6 _ _ a9 b7 b8 e0 e1 e2 b1 e3 e4 f7 _ ?side1 ?side2 A4.out).mono ?_);(case side1=>refine(Kd.R_reads' (e:=43) (base:=w.heap.size) (ok:=fun k_=>True) (n:=a9.length) (c:=co10) ?_).2.2;exact(zRf a5 a0 (fun _ h_=>h_.1)));(case side2=>exact(Kd.R_reads' a5.out).2.1);rintro e H7 ⟨D7,rfl,d9,hb⟩;have b0:=zA (Kd.R_lower (Kd.R_new' d9 (Kd.R_lt (zRf a5 a0 (fun _ h_=>h_.1)))) (below_size (zs1 HB a3)));replace a5:=zA (Kd.R_elder' (zRf a5 a0 (fun _ h_=>h_.1)) (Kd.R_base d9) hb);replace a0:=zA (blk_below (g:=f3) (o:= .cells #[.int .i64 b5,.int .i64 b6,.slice Ao10 a9.length co10,.int .i64 b7,.int .i64 b8] 27 (0,0)) (zpb a0) hb);replace HB:=zE (zs1 HB a3) hb;(try clear hb);(try clear hb2);(try clear hk);(try clear hi);(try clear d9))|((with_reducible refine gate_dst (N:=5) rfl ?_);(try(refine gate_guard (by rfl) ?_;dsimp only));refine zbx 5 #[.int .i64 0,.int .i64 0,.slice none 0 0,.int .i64 0,.int .i64 0] 27 ?_;intro f5 hg H8 hbox hb;have a1:=zA hbox;have A1:=zgs hg (zs1 HB a3);have a4:=zgs hg (zs1 HB a3);have b3:=zne hg a0;have d5:=znf hg a0;replace a5:=zA (Kd.R_below (zr a5) hb);replace b0:=zA (Kd.R_below (zr b0) hb);replace a0:=zb a0 hb;replace HB:=zE (zs1 HB a3) hb;clear hb hbox hg;have A2:=d5.out;have A6:=b3.out;obtain⟨g7,g8,g9,h0,h1⟩:=zd5 a1;obtain⟨h2,h3,h4,h5,h6⟩:=zn5 a1;obtain⟨Ao15,co15,y9⟩:=Kd.R_slice b0.out;subst y9;obtain⟨h7,h8,h9,i0,i1⟩:=zd5 a0;obtain⟨i2,i3,i4,i5,i6⟩:=zn5 a0)|(go_at_call 6;(with_reducible refine(spec_FlyShift.calls k b5 b6 _ _ a9 b7 b8 e0 f9 g0 d3 g1 g2 k5 _ ?side1 ?side2 A5.out).mono ?_);(case side1=>refine(Kd.R_reads' (e:=43) (base:=w.heap.size) (ok:=fun k_=>(True∧some k_≠(.slice Ao15 b1.length co15:Value).ownBlock)) (n:=a9.length) (c:=co10) ?_).2.2;exact(zRf a5 a1 (fun _ h_=>h_.1)));(case side2=>exact(Kd.R_reads' a5.out).2.1);rintro e H9 ⟨D8,rfl,d9,hb⟩;have d4:=zA (Kd.R_lower (Kd.R_new' (Kd.R_new' d9 (Kd.R_lt (zRf a5 a1 (fun _ h_=>h_.1)))) (Kd.R_lt (zRf b0 a1 (fun _ h_=>h_.1)))) (below_size (zs2 HB a3 a4)));replace a5:=zA (Kd.R_elder' (zRf a5 a1 (fun _ h_=>h_.1)) (Kd.R_base d9) hb);replace b0:=zA (Kd.R_elder' (zRf b0 a1 (fun _ h_=>h_.1)) (Kd.R_base d9) hb);replace a0:=zA (blk_below (g:=f3) (o:= .cells #[.int .i64 b5,.int .i64 b6,.slice Ao10 a9.length co10,.int .i64 b7,.int .i64 b8] 27 (0,0)) (zpf a0 b3) hb);replace a1:=zA (blk_below (g:=f5) (o:= .cells #[.int .i64 e1,.int .i64 e2,.slice Ao15 b1.length co15,.int .i64 e3,.int .i64 e4] 27 (0,0)) (zpb a1) hb);replace HB:=zE (zs2 HB a3 a4) hb;(try clear hb);(try clear hb2);(try clear hk);(try clear hi);(try clear d9))|((with_reducible refine gate_dst (N:=7) rfl ?_);(try(refine gate_guard (by rfl) ?_;dsimp only));refine zbx 7 #[.int .i64 0,.int .i64 0,.slice none 0 0,.int .i64 0,.int .i64 0] 27 ?_;intro f8 hg I0 hbox hb;have a2:=zA hbox;have A7:=zgs hg (zs2 HB a3 a4);have a7:=zgs hg (zs2 HB a3 a4);have b2:=zne hg a0;have d2:=znf hg a0;have b9:=zne hg a1;have e5:=znf hg a1;replace a5:=zA (Kd.R_below (zr a5) hb);replace b0:=zA (Kd.R_below (zr b0) hb);replace d4:=zA (Kd.R_below (zr d4) hb);replace a0:=zb a0 hb;replace a1:=zb a1 hb;replace HB:=zE (zs2 HB a3 a4) hb;clear hb hbox hg;have A8:=d2.out;have A9:=b2.out;have B0:=e5.out;have B1:=b9.out;obtain⟨i7,i8,i9,j5,j6⟩:=zd5 a2;obtain⟨j7,j8,j9,k0,k1⟩:=zn5 a2;obtain⟨Ao22,co22,z0⟩:=Kd.R_slice d4.out;subst z0)))
 (try simp only[Act.put,List.setIfInBounds_toArray,List.set_cons_zero,List.set_cons_succ])
 go_cut [42] (fun N4 wc=> ∃(kq:Nat) (r9:Bool),N4= .bool r9∧Aside0 (laws_FnFlyShift.j0 kq e0 f7 r9 b5 b6 a9 b7 b8 e1 e2 b1 e3 e4=some r)∧Aside0 (kq≤k)∧Aside0 (Kd.R k43 43 wc w.heap.size (fun k_=>some k_≠((.slice Ao15 b1.length co15):Value).ownBlock∧some k_≠((.slice Ao22 d3.length co22):Value).ownBlock) (.slice Ao10 a9.length co10) a9)∧Aside0 (Kd.R k43 43 wc w.heap.size (fun k_=>some k_≠((.slice Ao10 a9.length co10):Value).ownBlock∧some k_≠((.slice Ao22 d3.length co22):Value).ownBlock) (.slice Ao15 b1.length co15) b1)∧Aside0 (Kd.R k43 43 wc w.heap.size (fun k_=>some k_≠((.slice Ao10 a9.length co10):Value).ownBlock∧some k_≠((.slice Ao15 b1.length co15):Value).ownBlock) (.slice Ao22 d3.length co22) d3)∧Aside0 (wc.heap[f3]?=some (.cells #[.int .i64 b5,.int .i64 b6,(.slice Ao10 a9.length co10),.int .i64 b7,.int .i64 b8] 27 (0,0)))∧Aside0 (wc.heap[f5]?=some (.cells #[.int .i64 e1,.int .i64 e2,(.slice Ao15 b1.length co15),.int .i64 e3,.int .i64 e4] 27 (0,0)))∧Aside0 (wc.heap[f8]?=some (.cells #[.int .i64 f9,.int .i64 g0,(.slice Ao22 d3.length co22),.int .i64 g1,.int .i64 g2] 27 (0,0)))∧Aside0 (Below w.heap.size w wc))
 case first=>
  have H:=G4.out;clear G4
  by_cases s0:(f7 !=k5)=true
  ·rw[if_pos s0]at H
   have k2:(f7 !=k5)=true:=s0;(try(have s1:decide (f7=k5)=false:=by simpa using s0));(try(have s2:(f7==k5)=false:=by simpa using s0));(try(have I1: ¬(f7=k5):=by simpa using s0));clear s0;(first|rw[k2]|(simp only[i64_w,i32_w];rw[k2])|skip);have H':=zA H;clear H
   go_wp2
   repeat(go_quiet (fail);try go_wp2)
   go_meet
   case rel=>exact⟨_,(true),zi,H',⟨by first|omega|exact Nat.le_refl _⟩,⟨zRf a5 a2 (fun _ hk=>⟨hk.1.1.2,hk.1.2⟩)⟩,⟨zRf b0 a2 (fun _ hk=>⟨hk.1.1.2,hk.1.2⟩)⟩,⟨zRf d4 a2 (fun _ hk=>⟨hk.1.1.2,hk.1.2⟩)⟩,⟨zpf a0 b2⟩,⟨zpf a1 b9⟩,⟨zpb a2⟩,⟨zs3 HB a3 a4 a7⟩⟩
  rw[if_neg s0]at H
  have k2:(f7 !=k5)=false:=by simpa using s0
  (try(have s1:decide (f7=k5)=true:=by simpa using s0));(try(have s2:(f7==k5)=true:=by simpa using s0));clear s0;(first|rw[k2]|(simp only[i64_w,i32_w];rw[k2])|skip);replace H:=zbd H;obtain⟨p1,G5,H⟩:=H;have H':=zA H;clear H;have I2:=d5.out;have I3:=b3.out;have I4:=b9.out;have I5:=e5.out;obtain⟨p3,p4,p5,p7,p8⟩:=zd5 a1;obtain⟨p9,q0,q1,q2,q3⟩:=zn5 a1;have I6:=d2.out;have I7:=b2.out;obtain⟨q4,q5,q6,q7,q8⟩:=zd5 a2;obtain⟨q9,r0,r1,r2,r3⟩:=zn5 a2
  go_wp2_with (first|(go_at_call 7;(with_reducible refine(laws_wfPath.calls k e1 e2 _ _ b1 e3 e4 f9 g0 _ _ d3 g1 g2 p1 _ ?side1 ?side2 ?side3 ?side4 G5.out).mono ?_);(case side1=>refine(Kd.R_reads' (e:=43) (base:=w.heap.size) (ok:=fun k_=>((True∧some k_≠(.slice Ao10 a9.length co10:Value).ownBlock)∧some k_≠(.slice Ao22 d3.length co22:Value).ownBlock)) (n:=b1.length) (c:=co15) ?_).2.2;exact(zRf b0 a2 (fun _ h_=>h_.1)));(case side2=>exact(Kd.R_reads' b0.out).2.1);(case side3=>refine(Kd.R_reads' (e:=43) (base:=w.heap.size) (ok:=fun k_=>((True∧some k_≠(.slice Ao10 a9.length co10:Value).ownBlock)∧some k_≠(.slice Ao15 b1.length co15:Value).ownBlock)) (n:=d3.length) (c:=co22) ?_).2.2;exact(zRf d4 a2 (fun _ h_=>h_.1)));(case side4=>exact(Kd.R_reads' d4.out).2.1);rintro e I8 ⟨rfl,hb⟩;replace a5:=zA (Kd.R_below (zRf a5 a2 (fun _ h_=>h_.1)) hb);replace b0:=zA (Kd.R_below (zRf b0 a2 (fun _ h_=>h_.1)) hb);replace d4:=zA (Kd.R_below (zRf d4 a2 (fun _ h_=>h_.1)) hb);replace a0:=zA (blk_below (g:=f3) (o:= .cells #[.int .i64 b5,.int .i64 b6,.slice Ao10 a9.length co10,.int .i64 b7,.int .i64 b8] 27 (0,0)) (zpf a0 b2) hb);replace a1:=zA (blk_below (g:=f5) (o:= .cells #[.int .i64 e1,.int .i64 e2,.slice Ao15 b1.length co15,.int .i64 e3,.int .i64 e4] 27 (0,0)) (zpf a1 b9) hb);replace a2:=zA (blk_below (g:=f8) (o:= .cells #[.int .i64 f9,.int .i64 g0,.slice Ao22 d3.length co22,.int .i64 g1,.int .i64 g2] 27 (0,0)) (zpb a2) hb);replace HB:=zE (zs3 HB a3 a4 a7) hb;(try clear hb);(try clear hb2);(try clear hk);(try clear hi)))
  repeat(go_quiet (first|(go_at_call 7;(with_reducible refine(laws_wfPath.calls k e1 e2 _ _ b1 e3 e4 f9 g0 _ _ d3 g1 g2 p1 _ ?side1 ?side2 ?side3 ?side4 G5.out).mono ?_);(case side1=>refine(Kd.R_reads' (e:=43) (base:=w.heap.size) (ok:=fun k_=>((True∧some k_≠(.slice Ao10 a9.length co10:Value).ownBlock)∧some k_≠(.slice Ao22 d3.length co22:Value).ownBlock)) (n:=b1.length) (c:=co15) ?_).2.2;exact(zRf b0 a2 (fun _ h_=>h_.1)));(case side2=>exact(Kd.R_reads' b0.out).2.1);(case side3=>refine(Kd.R_reads' (e:=43) (base:=w.heap.size) (ok:=fun k_=>((True∧some k_≠(.slice Ao10 a9.length co10:Value).ownBlock)∧some k_≠(.slice Ao15 b1.length co15:Value).ownBlock)) (n:=d3.length) (c:=co22) ?_).2.2;exact(zRf d4 a2 (fun _ h_=>h_.1)));(case side4=>exact(Kd.R_reads' d4.out).2.1);rintro e I8 ⟨rfl,hb⟩;replace a5:=zA (Kd.R_below (zRf a5 a2 (fun _ h_=>h_.1)) hb);replace b0:=zA (Kd.R_below (zRf b0 a2 (fun _ h_=>h_.1)) hb);replace d4:=zA (Kd.R_below (zRf d4 a2 (fun _ h_=>h_.1)) hb);replace a0:=zA (blk_below (g:=f3) (o:= .cells #[.int .i64 b5,.int .i64 b6,.slice Ao10 a9.length co10,.int .i64 b7,.int .i64 b8] 27 (0,0)) (zpf a0 b2) hb);replace a1:=zA (blk_below (g:=f5) (o:= .cells #[.int .i64 e1,.int .i64 e2,.slice Ao15 b1.length co15,.int .i64 e3,.int .i64 e4] 27 (0,0)) (zpf a1 b9) hb);replace a2:=zA (blk_below (g:=f8) (o:= .cells #[.int .i64 f9,.int .i64 g0,.slice Ao22 d3.length co22,.int .i64 g1,.int .i64 g2] 27 (0,0)) (zpb a2) hb);replace HB:=zE (zs3 HB a3 a4 a7) hb;(try clear hb);(try clear hb2);(try clear hk);(try clear hi)));try go_wp2_with (first|(go_at_call 7;(with_reducible refine(laws_wfPath.calls k e1 e2 _ _ b1 e3 e4 f9 g0 _ _ d3 g1 g2 p1 _ ?side1 ?side2 ?side3 ?side4 G5.out).mono ?_);(case side1=>refine(Kd.R_reads' (e:=43) (base:=w.heap.size) (ok:=fun k_=>((True∧some k_≠(.slice Ao10 a9.length co10:Value).ownBlock)∧some k_≠(.slice Ao22 d3.length co22:Value).ownBlock)) (n:=b1.length) (c:=co15) ?_).2.2;exact(zRf b0 a2 (fun _ h_=>h_.1)));(case side2=>exact(Kd.R_reads' b0.out).2.1);(case side3=>refine(Kd.R_reads' (e:=43) (base:=w.heap.size) (ok:=fun k_=>((True∧some k_≠(.slice Ao10 a9.length co10:Value).ownBlock)∧some k_≠(.slice Ao15 b1.length co15:Value).ownBlock)) (n:=d3.length) (c:=co22) ?_).2.2;exact(zRf d4 a2 (fun _ h_=>h_.1)));(case side4=>exact(Kd.R_reads' d4.out).2.1);rintro e I8 ⟨rfl,hb⟩;replace a5:=zA (Kd.R_below (zRf a5 a2 (fun _ h_=>h_.1)) hb);replace b0:=zA (Kd.R_below (zRf b0 a2 (fun _ h_=>h_.1)) hb);replace d4:=zA (Kd.R_below (zRf d4 a2 (fun _ h_=>h_.1)) hb);replace a0:=zA (blk_below (g:=f3) (o:= .cells #[.int .i64 b5,.int .i64 b6,.slice Ao10 a9.length co10,.int .i64 b7,.int .i64 b8] 27 (0,0)) (zpf a0 b2) hb);replace a1:=zA (blk_below (g:=f5) (o:= .cells #[.int .i64 e1,.int .i64 e2,.slice Ao15 b1.length co15,.int .i64 e3,.int .i64 e4] 27 (0,0)) (zpf a1 b9) hb);replace a2:=zA (blk_below (g:=f8) (o:= .cells #[.int .i64 f9,.int .i64 g0,.slice Ao22 d3.length co22,.int .i64 g1,.int .i64 g2] 27 (0,0)) (zpb a2) hb);replace HB:=zE (zs3 HB a3 a4 a7) hb;(try clear hb);(try clear hb2);(try clear hk);(try clear hi))))
  go_meet
  case rel=>exact⟨_,(!p1),zi,H',⟨by first|omega|exact Nat.le_refl _⟩,⟨by(with_reducible repeat(first|apply Kd.R_alloc|apply Kd.R_drewN|apply Kd.R_drew));exact Kd.R_mono a5.out (fun _ hk=>⟨hk.1.2,hk.2⟩)⟩,⟨by(with_reducible repeat(first|apply Kd.R_alloc|apply Kd.R_drewN|apply Kd.R_drew));exact Kd.R_mono b0.out (fun _ hk=>⟨hk.1.2,hk.2⟩)⟩,⟨by(with_reducible repeat(first|apply Kd.R_alloc|apply Kd.R_drewN|apply Kd.R_drew));exact Kd.R_mono d4.out (fun _ hk=>⟨hk.1.2,hk.2⟩)⟩,⟨zh a0⟩,⟨zh a1⟩,⟨zh a2⟩,⟨zs3 HB a3 a4 a7⟩⟩
 case rest=>
  clear G4
  try clear c1
  try clear c2
  try clear z5
  try clear z6
  try clear p2
  try clear c3
  try clear I9
  try clear J0
  try clear J1
  try clear s0
  try clear k2
  try clear s1
  try clear s2
  try clear J2
  try clear J3
  try clear J4
  try clear g7 g8 g9 h0 h1
  try clear h7 h8 h9 i0 i1
  try clear i7 i8 i9 j5 j6
  try clear p3 p4 p5 p7 p8
  try clear q4 q5 q6 q7 q8
  try clear o0 o1 o2 o3 o4
  try clear h2 h3 h4 h5 h6
  try clear i2 i3 i4 i5 i6
  try clear j7 j8 j9 k0 k1
  try clear p9 q0 q1 q2 q3
  try clear q9 r0 r1 r2 r3
  try clear o5 o6 o7 o8 o9
  obtain⟨kq,r9,rfl,HA,D9,HO_449002,HO_458002,HO_467002,a0,a1,a2,HB⟩:=hcut
  cases kq with
  |zero=>exact absurd HA.out (by simp[laws_FnFlyShift.j0])
  |succ k4=>
   have H:=HA.out;clear HA;simp only[laws_FnFlyShift.j0]at H
   by_cases D0:r9=true
   ·subst D0
    rw[if_pos rfl]at H;obtain rfl:=Option.some.inj H
    go_wp2
    repeat(go_quiet (fail);try go_wp2)
    go_ret;exact⟨ze,zs3 HB a3 a4 a7⟩
   replace D0:=Bool.eq_false_iff.mpr D0;subst D0;rw[if_neg zfn]at H
   by_cases D1:f7=true
   rotate_left
   ·replace D1:=Bool.eq_false_iff.mpr D1
    subst D1;rw[if_neg zfn]at H;obtain rfl:=Option.some.inj H;have J5:=d5.out;have J6:=b3.out;have J7:=b9.out;have J8:=e5.out;obtain⟨F1,F2,F3,F4,F5⟩:=zd5 a1;obtain⟨F6,F7,F8,F9,G0⟩:=zn5 a1
    go_wp2
    repeat(go_quiet (fail);try go_wp2)
    go_ret;exact⟨ze,zs3 HB a3 a4 a7⟩
   subst D1;rw[if_pos rfl]at H;replace H:=Option.bind_eq_some_iff.mp H;obtain⟨⟨g3,g4,e7,g5,g6,y5⟩,E0,H⟩:=H;replace H:((impl_FlyFirst.f k4 b5 b6 a9 b7 b8).bind fun e9=>((impl_FlyFirst.f k4 e1 e2 b1 e3 e4).bind fun f4=>(if y5=true then((laws_wfPath.f k4 g3 g4 e7 g5 g6 b5 b6 a9 b7 b8).bind fun z1=>(if z1=true then(laws_FnFlyShift.j1 k4 e0 e9 f4 ((e9.length:Int) !=(f4.length:Int)))else(laws_FnFlyShift.j1 k4 e0 e9 f4 true)))else(laws_FnFlyShift.j1 k4 e0 e9 f4 true))))=some r:=H;have G6:=zA E0;clear E0;replace H:=zbd H;obtain⟨e9,G7,H⟩:=H;replace H:=Option.bind_eq_some_iff.mp H;obtain⟨f4,E1,H⟩:=H;replace H:(if y5=true then((laws_wfPath.f k4 g3 g4 e7 g5 g6 b5 b6 a9 b7 b8).bind fun z1=>(if z1=true then(laws_FnFlyShift.j1 k4 e0 e9 f4 ((e9.length:Int) !=(f4.length:Int)))else(laws_FnFlyShift.j1 k4 e0 e9 f4 true)))else(laws_FnFlyShift.j1 k4 e0 e9 f4 true))=some r:=H;have G8:=zA E1;clear E1;have C6:=zA H;clear H;have J9:=d5.out;have K0:=b3.out;have K1:=b9.out;have K2:=e5.out;obtain⟨s3,s4,s5,s6,s7⟩:=zd5 a1;obtain⟨s8,s9,t0,t1,t2⟩:=zn5 a1
   go_upto_region 13 with(first|(go_at_call 5;(with_reducible refine(impl_FlyShift.calls k4 e1 e2 _ _ b1 e3 e4 (wrap64 (-e0)) g3 g4 e7 g5 g6 y5 _ ?side1 ?side2 G6.out).mono ?_);(case side1=>repeat(first|exact(Kd.R_reads' HO_458002.out).2.2|(with_reducible refine Kd.C_alloc ?_ _)|(with_reducible refine Kd.C_drewN ?_ _)|(with_reducible refine Kd.C_drew ?_)));(case side2=>exact(Kd.R_reads' HO_458002.out).2.1);rintro e K3 ⟨E2,rfl,d9,hb⟩;have a8:=zA (Kd.R_lower (Kd.R_new' (Kd.R_new' (Kd.R_new' d9 (Kd.R_lt (zr HO_449002))) (Kd.R_lt (zr HO_458002))) (Kd.R_lt (zr HO_467002))) (below_size (zs3 HB a3 a4 a7)));replace HO_449002:=zA (Kd.R_elder' (zr HO_449002) (Kd.R_base d9) hb);replace HO_458002:=zA (Kd.R_elder' (zr HO_458002) (Kd.R_base d9) hb);replace HO_467002:=zA (Kd.R_elder' (zr HO_467002) (Kd.R_base d9) hb);replace a0:=zb a0 hb;replace a1:=zb a1 hb;replace a2:=zb a2 hb;replace HB:=zE (zs3 HB a3 a4 a7) hb;(try clear hb);(try clear hb2);(try clear hk);(try clear hi);(try clear d9))|((with_reducible refine gate_dst (N:=9) rfl ?_);(try(refine gate_guard (by rfl) ?_;dsimp only));refine zbx 9 #[.int .i64 0,.int .i64 0,.slice none 0 0,.int .i64 0,.int .i64 0] 27 ?_;intro p0 hg K4 hbox hb;have a6:=zA hbox;have B2:=zgs hg (zs3 HB a3 a4 a7);have d1:=zgs hg (zs3 HB a3 a4 a7);have d6:=zne hg a0;have f0:=znf hg a0;have d7:=zne hg a1;have f1:=znf hg a1;have d8:=zne hg a2;have f2:=znf hg a2;replace HO_449002:=zA (Kd.R_below (zr HO_449002) hb);replace HO_458002:=zA (Kd.R_below (zr HO_458002) hb);replace HO_467002:=zA (Kd.R_below (zr HO_467002) hb);replace a8:=zA (Kd.R_below (zr a8) hb);replace a0:=zb a0 hb;replace a1:=zb a1 hb;replace a2:=zb a2 hb;replace HB:=zE (zs3 HB a3 a4 a7) hb;clear hb hbox hg;have B5:=f0.out;have B9:=d6.out;have C0:=f1.out;have C1:=d7.out;have C2:=f2.out;have C3:=d8.out;obtain⟨k6,k7,k8,k9,l4⟩:=zd5 a6;obtain⟨l5,l6,l7,l8,l9⟩:=zn5 a6;obtain⟨Ao46,co46,z2⟩:=Kd.R_slice a8.out;subst z2;have C4:=b2.out;have C5:=d2.out;obtain⟨m0,m1,m2,m3,m4⟩:=zd5 a0;obtain⟨m5,m6,m7,m8,m9⟩:=zn5 a0)|(go_at_call 8;(with_reducible refine(impl_FlyFirst.calls k4 b5 b6 _ _ a9 b7 b8 e9 _ ?side1 ?side2 G7.out).mono ?_);(case side1=>refine(Kd.R_reads' (e:=43) (base:=w.heap.size) (ok:=fun k_=>((some k_≠(.slice Ao15 b1.length co15:Value).ownBlock∧some k_≠(.slice Ao22 d3.length co22:Value).ownBlock)∧some k_≠(.slice Ao46 e7.length co46:Value).ownBlock)) (n:=a9.length) (c:=co10) ?_).2.2;exact(zRf HO_449002 a6 (fun _ h_=>h_.1)));(case side2=>exact(Kd.R_reads' HO_449002.out).2.1);rintro e K5 ⟨y6,rfl,d9,hb⟩;have d0:=zA (Kd.R_lower d9 (below_size (zs4 HB a3 a4 a7 d1)));replace HO_449002:=zA (Kd.R_below (zRf HO_449002 a6 (fun _ h_=>h_.1)) hb);replace HO_458002:=zA (Kd.R_below (zRf HO_458002 a6 (fun _ h_=>h_.1)) hb);replace HO_467002:=zA (Kd.R_below (zRf HO_467002 a6 (fun _ h_=>h_.1)) hb);replace a8:=zA (Kd.R_below (zRf a8 a6 (fun _ h_=>h_.1)) hb);replace a0:=zA (blk_below (g:=f3) (o:= .cells #[.int .i64 b5,.int .i64 b6,.slice Ao10 a9.length co10,.int .i64 b7,.int .i64 b8] 27 (0,0)) (zpf a0 d6) hb);replace a1:=zA (blk_below (g:=f5) (o:= .cells #[.int .i64 e1,.int .i64 e2,.slice Ao15 b1.length co15,.int .i64 e3,.int .i64 e4] 27 (0,0)) (zpf a1 d7) hb);replace a2:=zA (blk_below (g:=f8) (o:= .cells #[.int .i64 f9,.int .i64 g0,.slice Ao22 d3.length co22,.int .i64 g1,.int .i64 g2] 27 (0,0)) (zpf a2 d8) hb);replace a6:=zA (blk_below (g:=p0) (o:= .cells #[.int .i64 g3,.int .i64 g4,.slice Ao46 e7.length co46,.int .i64 g5,.int .i64 g6] 27 (0,0)) (zpb a6) hb);replace HB:=zE (zs4 HB a3 a4 a7 d1) hb;(try clear hb);(try clear hb2);(try clear hk);(try clear hi);(try clear d9);obtain⟨n0,n1,n2,n3,n4⟩:=zd5 a1;obtain⟨n5,n6,n7,n8,n9⟩:=zn5 a1)|(go_at_call 8;(with_reducible refine(impl_FlyFirst.calls k4 e1 e2 _ _ b1 e3 e4 f4 _ ?side1 ?side2 G8.out).mono ?_);(case side1=>repeat(first|exact(Kd.R_reads' HO_458002.out).2.2|(with_reducible refine Kd.C_alloc ?_ _)|(with_reducible refine Kd.C_drewN ?_ _)|(with_reducible refine Kd.C_drew ?_)));(case side2=>exact(Kd.R_reads' HO_458002.out).2.1);rintro e K6 ⟨y7,rfl,d9,hb⟩;have e6:=zA (Kd.R_lower (Kd.R_new' d9 (Kd.R_lt (zr d0))) (below_size (zs4 HB a3 a4 a7 d1)));replace HO_449002:=zA (Kd.R_below (zr HO_449002) hb);replace HO_458002:=zA (Kd.R_below (zr HO_458002) hb);replace HO_467002:=zA (Kd.R_below (zr HO_467002) hb);replace a8:=zA (Kd.R_below (zr a8) hb);replace d0:=zA (Kd.R_elder' (zr d0) (Kd.R_base d9) hb);replace a0:=zb a0 hb;replace a1:=zb a1 hb;replace a2:=zb a2 hb;replace a6:=zb a6 hb;replace HB:=zE (zs4 HB a3 a4 a7 d1) hb;(try clear hb);(try clear hb2);(try clear hk);(try clear hi);(try clear d9)))
   repeat(go_quiet (first|(go_at_call 5;(with_reducible refine(impl_FlyShift.calls k4 e1 e2 _ _ b1 e3 e4 (wrap64 (-e0)) g3 g4 e7 g5 g6 y5 _ ?side1 ?side2 G6.out).mono ?_);(case side1=>repeat(first|exact(Kd.R_reads' HO_458002.out).2.2|(with_reducible refine Kd.C_alloc ?_ _)|(with_reducible refine Kd.C_drewN ?_ _)|(with_reducible refine Kd.C_drew ?_)));(case side2=>exact(Kd.R_reads' HO_458002.out).2.1);rintro e K3 ⟨E2,rfl,d9,hb⟩;have a8:=zA (Kd.R_lower (Kd.R_new' (Kd.R_new' (Kd.R_new' d9 (Kd.R_lt (zr HO_449002))) (Kd.R_lt (zr HO_458002))) (Kd.R_lt (zr HO_467002))) (below_size (zs3 HB a3 a4 a7)));replace HO_449002:=zA (Kd.R_elder' (zr HO_449002) (Kd.R_base d9) hb);replace HO_458002:=zA (Kd.R_elder' (zr HO_458002) (Kd.R_base d9) hb);replace HO_467002:=zA (Kd.R_elder' (zr HO_467002) (Kd.R_base d9) hb);replace a0:=zb a0 hb;replace a1:=zb a1 hb;replace a2:=zb a2 hb;replace HB:=zE (zs3 HB a3 a4 a7) hb;(try clear hb);(try clear hb2);(try clear hk);(try clear hi);(try clear d9))|((with_reducible refine gate_dst (N:=9) rfl ?_);(try(refine gate_guard (by rfl) ?_;dsimp only));refine zbx 9 #[.int .i64 0,.int .i64 0,.slice none 0 0,.int .i64 0,.int .i64 0] 27 ?_;intro p0 hg K4 hbox hb;have a6:=zA hbox;have B2:=zgs hg (zs3 HB a3 a4 a7);have d1:=zgs hg (zs3 HB a3 a4 a7);have d6:=zne hg a0;have f0:=znf hg a0;have d7:=zne hg a1;have f1:=znf hg a1;have d8:=zne hg a2;have f2:=znf hg a2;replace HO_449002:=zA (Kd.R_below (zr HO_449002) hb);replace HO_458002:=zA (Kd.R_below (zr HO_458002) hb);replace HO_467002:=zA (Kd.R_below (zr HO_467002) hb);replace a8:=zA (Kd.R_below (zr a8) hb);replace a0:=zb a0 hb;replace a1:=zb a1 hb;replace a2:=zb a2 hb;replace HB:=zE (zs3 HB a3 a4 a7) hb;clear hb hbox hg;have B5:=f0.out;have B9:=d6.out;have C0:=f1.out;have C1:=d7.out;have C2:=f2.out;have C3:=d8.out;obtain⟨k6,k7,k8,k9,l4⟩:=zd5 a6;obtain⟨l5,l6,l7,l8,l9⟩:=zn5 a6;obtain⟨Ao46,co46,z2⟩:=Kd.R_slice a8.out;subst z2;have C4:=b2.out;have C5:=d2.out;obtain⟨m0,m1,m2,m3,m4⟩:=zd5 a0;obtain⟨m5,m6,m7,m8,m9⟩:=zn5 a0)|(go_at_call 8;(with_reducible refine(impl_FlyFirst.calls k4 b5 b6 _ _ a9 b7 b8 e9 _ ?side1 ?side2 G7.out).mono ?_);(case side1=>refine(Kd.R_reads' (e:=43) (base:=w.heap.size) (ok:=fun k_=>((some k_≠(.slice Ao15 b1.length co15:Value).ownBlock∧some k_≠(.slice Ao22 d3.length co22:Value).ownBlock)∧some k_≠(.slice Ao46 e7.length co46:Value).ownBlock)) (n:=a9.length) (c:=co10) ?_).2.2;exact(zRf HO_449002 a6 (fun _ h_=>h_.1)));(case side2=>exact(Kd.R_reads' HO_449002.out).2.1);rintro e K5 ⟨y6,rfl,d9,hb⟩;have d0:=zA (Kd.R_lower d9 (below_size (zs4 HB a3 a4 a7 d1)));replace HO_449002:=zA (Kd.R_below (zRf HO_449002 a6 (fun _ h_=>h_.1)) hb);replace HO_458002:=zA (Kd.R_below (zRf HO_458002 a6 (fun _ h_=>h_.1)) hb);replace HO_467002:=zA (Kd.R_below (zRf HO_467002 a6 (fun _ h_=>h_.1)) hb);replace a8:=zA (Kd.R_below (zRf a8 a6 (fun _ h_=>h_.1)) hb);replace a0:=zA (blk_below (g:=f3) (o:= .cells #[.int .i64 b5,.int .i64 b6,.slice Ao10 a9.length co10,.int .i64 b7,.int .i64 b8] 27 (0,0)) (zpf a0 d6) hb);replace a1:=zA (blk_below (g:=f5) (o:= .cells #[.int .i64 e1,.int .i64 e2,.slice Ao15 b1.length co15,.int .i64 e3,.int .i64 e4] 27 (0,0)) (zpf a1 d7) hb);replace a2:=zA (blk_below (g:=f8) (o:= .cells #[.int .i64 f9,.int .i64 g0,.slice Ao22 d3.length co22,.int .i64 g1,.int .i64 g2] 27 (0,0)) (zpf a2 d8) hb);replace a6:=zA (blk_below (g:=p0) (o:= .cells #[.int .i64 g3,.int .i64 g4,.slice Ao46 e7.length co46,.int .i64 g5,.int .i64 g6] 27 (0,0)) (zpb a6) hb);replace HB:=zE (zs4 HB a3 a4 a7 d1) hb;(try clear hb);(try clear hb2);(try clear hk);(try clear hi);(try clear d9);obtain⟨n0,n1,n2,n3,n4⟩:=zd5 a1;obtain⟨n5,n6,n7,n8,n9⟩:=zn5 a1)|(go_at_call 8;(with_reducible refine(impl_FlyFirst.calls k4 e1 e2 _ _ b1 e3 e4 f4 _ ?side1 ?side2 G8.out).mono ?_);(case side1=>repeat(first|exact(Kd.R_reads' HO_458002.out).2.2|(with_reducible refine Kd.C_alloc ?_ _)|(with_reducible refine Kd.C_drewN ?_ _)|(with_reducible refine Kd.C_drew ?_)));(case side2=>exact(Kd.R_reads' HO_458002.out).2.1);rintro e K6 ⟨y7,rfl,d9,hb⟩;have e6:=zA (Kd.R_lower (Kd.R_new' d9 (Kd.R_lt (zr d0))) (below_size (zs4 HB a3 a4 a7 d1)));replace HO_449002:=zA (Kd.R_below (zr HO_449002) hb);replace HO_458002:=zA (Kd.R_below (zr HO_458002) hb);replace HO_467002:=zA (Kd.R_below (zr HO_467002) hb);replace a8:=zA (Kd.R_below (zr a8) hb);replace d0:=zA (Kd.R_elder' (zr d0) (Kd.R_base d9) hb);replace a0:=zb a0 hb;replace a1:=zb a1 hb;replace a2:=zb a2 hb;replace a6:=zb a6 hb;replace HB:=zE (zs4 HB a3 a4 a7 d1) hb;(try clear hb);(try clear hb2);(try clear hk);(try clear hi);(try clear d9)));go_upto_region 13 with(first|(go_at_call 5;(with_reducible refine(impl_FlyShift.calls k4 e1 e2 _ _ b1 e3 e4 (wrap64 (-e0)) g3 g4 e7 g5 g6 y5 _ ?side1 ?side2 G6.out).mono ?_);(case side1=>repeat(first|exact(Kd.R_reads' HO_458002.out).2.2|(with_reducible refine Kd.C_alloc ?_ _)|(with_reducible refine Kd.C_drewN ?_ _)|(with_reducible refine Kd.C_drew ?_)));(case side2=>exact(Kd.R_reads' HO_458002.out).2.1);rintro e K3 ⟨E2,rfl,d9,hb⟩;have a8:=zA (Kd.R_lower (Kd.R_new' (Kd.R_new' (Kd.R_new' d9 (Kd.R_lt (zr HO_449002))) (Kd.R_lt (zr HO_458002))) (Kd.R_lt (zr HO_467002))) (below_size (zs3 HB a3 a4 a7)));replace HO_449002:=zA (Kd.R_elder' (zr HO_449002) (Kd.R_base d9) hb);replace HO_458002:=zA (Kd.R_elder' (zr HO_458002) (Kd.R_base d9) hb);replace HO_467002:=zA (Kd.R_elder' (zr HO_467002) (Kd.R_base d9) hb);replace a0:=zb a0 hb;replace a1:=zb a1 hb;replace a2:=zb a2 hb;replace HB:=zE (zs3 HB a3 a4 a7) hb;(try clear hb);(try clear hb2);(try clear hk);(try clear hi);(try clear d9))|((with_reducible refine gate_dst (N:=9) rfl ?_);(try(refine gate_guard (by rfl) ?_;dsimp only));refine zbx 9 #[.int .i64 0,.int .i64 0,.slice none 0 0,.int .i64 0,.int .i64 0] 27 ?_;intro p0 hg K4 hbox hb;have a6:=zA hbox;have B2:=zgs hg (zs3 HB a3 a4 a7);have d1:=zgs hg (zs3 HB a3 a4 a7);have d6:=zne hg a0;have f0:=znf hg a0;have d7:=zne hg a1;have f1:=znf hg a1;have d8:=zne hg a2;have f2:=znf hg a2;replace HO_449002:=zA (Kd.R_below (zr HO_449002) hb);replace HO_458002:=zA (Kd.R_below (zr HO_458002) hb);replace HO_467002:=zA (Kd.R_below (zr HO_467002) hb);replace a8:=zA (Kd.R_below (zr a8) hb);replace a0:=zb a0 hb;replace a1:=zb a1 hb;replace a2:=zb a2 hb;replace HB:=zE (zs3 HB a3 a4 a7) hb;clear hb hbox hg;have B5:=f0.out;have B9:=d6.out;have C0:=f1.out;have C1:=d7.out;have C2:=f2.out;have C3:=d8.out;obtain⟨k6,k7,k8,k9,l4⟩:=zd5 a6;obtain⟨l5,l6,l7,l8,l9⟩:=zn5 a6;obtain⟨Ao46,co46,z2⟩:=Kd.R_slice a8.out;subst z2;have C4:=b2.out;have C5:=d2.out;obtain⟨m0,m1,m2,m3,m4⟩:=zd5 a0;obtain⟨m5,m6,m7,m8,m9⟩:=zn5 a0)|(go_at_call 8;(with_reducible refine(impl_FlyFirst.calls k4 b5 b6 _ _ a9 b7 b8 e9 _ ?side1 ?side2 G7.out).mono ?_);(case side1=>refine(Kd.R_reads' (e:=43) (base:=w.heap.size) (ok:=fun k_=>((some k_≠(.slice Ao15 b1.length co15:Value).ownBlock∧some k_≠(.slice Ao22 d3.length co22:Value).ownBlock)∧some k_≠(.slice Ao46 e7.length co46:Value).ownBlock)) (n:=a9.length) (c:=co10) ?_).2.2;exact(zRf HO_449002 a6 (fun _ h_=>h_.1)));(case side2=>exact(Kd.R_reads' HO_449002.out).2.1);rintro e K5 ⟨y6,rfl,d9,hb⟩;have d0:=zA (Kd.R_lower d9 (below_size (zs4 HB a3 a4 a7 d1)));replace HO_449002:=zA (Kd.R_below (zRf HO_449002 a6 (fun _ h_=>h_.1)) hb);replace HO_458002:=zA (Kd.R_below (zRf HO_458002 a6 (fun _ h_=>h_.1)) hb);replace HO_467002:=zA (Kd.R_below (zRf HO_467002 a6 (fun _ h_=>h_.1)) hb);replace a8:=zA (Kd.R_below (zRf a8 a6 (fun _ h_=>h_.1)) hb);replace a0:=zA (blk_below (g:=f3) (o:= .cells #[.int .i64 b5,.int .i64 b6,.slice Ao10 a9.length co10,.int .i64 b7,.int .i64 b8] 27 (0,0)) (zpf a0 d6) hb);replace a1:=zA (blk_below (g:=f5) (o:= .cells #[.int .i64 e1,.int .i64 e2,.slice Ao15 b1.length co15,.int .i64 e3,.int .i64 e4] 27 (0,0)) (zpf a1 d7) hb);replace a2:=zA (blk_below (g:=f8) (o:= .cells #[.int .i64 f9,.int .i64 g0,.slice Ao22 d3.length co22,.int .i64 g1,.int .i64 g2] 27 (0,0)) (zpf a2 d8) hb);replace a6:=zA (blk_below (g:=p0) (o:= .cells #[.int .i64 g3,.int .i64 g4,.slice Ao46 e7.length co46,.int .i64 g5,.int .i64 g6] 27 (0,0)) (zpb a6) hb);replace HB:=zE (zs4 HB a3 a4 a7 d1) hb;(try clear hb);(try clear hb2);(try clear hk);(try clear hi);(try clear d9);obtain⟨n0,n1,n2,n3,n4⟩:=zd5 a1;obtain⟨n5,n6,n7,n8,n9⟩:=zn5 a1)|(go_at_call 8;(with_reducible refine(impl_FlyFirst.calls k4 e1 e2 _ _ b1 e3 e4 f4 _ ?side1 ?side2 G8.out).mono ?_);(case side1=>repeat(first|exact(Kd.R_reads' HO_458002.out).2.2|(with_reducible refine Kd.C_alloc ?_ _)|(with_reducible refine Kd.C_drewN ?_ _)|(with_reducible refine Kd.C_drew ?_)));(case side2=>exact(Kd.R_reads' HO_458002.out).2.1);rintro e K6 ⟨y7,rfl,d9,hb⟩;have e6:=zA (Kd.R_lower (Kd.R_new' d9 (Kd.R_lt (zr d0))) (below_size (zs4 HB a3 a4 a7 d1)));replace HO_449002:=zA (Kd.R_below (zr HO_449002) hb);replace HO_458002:=zA (Kd.R_below (zr HO_458002) hb);replace HO_467002:=zA (Kd.R_below (zr HO_467002) hb);replace a8:=zA (Kd.R_below (zr a8) hb);replace d0:=zA (Kd.R_elder' (zr d0) (Kd.R_base d9) hb);replace a0:=zb a0 hb;replace a1:=zb a1 hb;replace a2:=zb a2 hb;replace a6:=zb a6 hb;replace HB:=zE (zs4 HB a3 a4 a7 d1) hb;(try clear hb);(try clear hb2);(try clear hk);(try clear hi);(try clear d9))))
   (try simp only[Act.put,List.setIfInBounds_toArray,List.set_cons_zero,List.set_cons_succ])
   go_cut [74] (fun N5 wc=> ∃(kq:Nat) (r4:Bool),N5= .bool r4∧Aside0 (laws_FnFlyShift.j1 kq e0 e9 f4 r4=some r)∧Aside0 (kq≤k4)∧Aside0 (Kd.R (Kd.int .i64) 3 wc w.heap.size (fun k_=>some k_≠(y7:Value).ownBlock) y6 e9)∧Aside0 (Kd.R (Kd.int .i64) 3 wc w.heap.size (fun k_=>some k_≠(y6:Value).ownBlock) y7 f4)∧Aside0 (Kd.R k43 43 wc w.heap.size (fun k_=>some k_≠((.slice Ao15 b1.length co15):Value).ownBlock∧some k_≠((.slice Ao22 d3.length co22):Value).ownBlock∧some k_≠((.slice Ao46 e7.length co46):Value).ownBlock) (.slice Ao10 a9.length co10) a9)∧Aside0 (Kd.R k43 43 wc w.heap.size (fun k_=>some k_≠((.slice Ao10 a9.length co10):Value).ownBlock∧some k_≠((.slice Ao22 d3.length co22):Value).ownBlock∧some k_≠((.slice Ao46 e7.length co46):Value).ownBlock) (.slice Ao15 b1.length co15) b1)∧Aside0 (Kd.R k43 43 wc w.heap.size (fun k_=>some k_≠((.slice Ao10 a9.length co10):Value).ownBlock∧some k_≠((.slice Ao15 b1.length co15):Value).ownBlock∧some k_≠((.slice Ao46 e7.length co46):Value).ownBlock) (.slice Ao22 d3.length co22) d3)∧Aside0 (Kd.R k43 43 wc w.heap.size (fun k_=>some k_≠((.slice Ao10 a9.length co10):Value).ownBlock∧some k_≠((.slice Ao15 b1.length co15):Value).ownBlock∧some k_≠((.slice Ao22 d3.length co22):Value).ownBlock) (.slice Ao46 e7.length co46) e7)∧Aside0 (wc.heap[f3]?=some (.cells #[.int .i64 b5,.int .i64 b6,(.slice Ao10 a9.length co10),.int .i64 b7,.int .i64 b8] 27 (0,0)))∧Aside0 (wc.heap[f5]?=some (.cells #[.int .i64 e1,.int .i64 e2,(.slice Ao15 b1.length co15),.int .i64 e3,.int .i64 e4] 27 (0,0)))∧Aside0 (wc.heap[f8]?=some (.cells #[.int .i64 f9,.int .i64 g0,(.slice Ao22 d3.length co22),.int .i64 g1,.int .i64 g2] 27 (0,0)))∧Aside0 (wc.heap[p0]?=some (.cells #[.int .i64 g3,.int .i64 g4,(.slice Ao46 e7.length co46),.int .i64 g5,.int .i64 g6] 27 (0,0)))∧Aside0 (Below w.heap.size w wc))
   case first=>
    have H:=C6.out;clear C6
    by_cases D2:y5=true
    rotate_left
    ·replace D2:=Bool.eq_false_iff.mpr D2
     subst D2;rw[if_neg zfn]at H;have H':=zA H;clear H
     go_wp2
     repeat(go_quiet (fail);try go_wp2)
     go_meet
     case rel=>exact⟨_,(true),zi,H',⟨by have:=D9.out;first|omega|exact Nat.le_refl _⟩,⟨by(with_reducible repeat(first|apply Kd.R_alloc|apply Kd.R_drewN|apply Kd.R_drew));exact Kd.R_mono d0.out (fun _ hk=>hk.2)⟩,⟨by(with_reducible repeat(first|apply Kd.R_alloc|apply Kd.R_drewN|apply Kd.R_drew));exact Kd.R_mono e6.out (fun _ hk=>hk.2)⟩,⟨by(with_reducible repeat(first|apply Kd.R_alloc|apply Kd.R_drewN|apply Kd.R_drew));exact Kd.R_mono HO_449002.out (fun _ hk=>⟨hk.1.1,⟨hk.1.2,hk.2⟩⟩)⟩,⟨by(with_reducible repeat(first|apply Kd.R_alloc|apply Kd.R_drewN|apply Kd.R_drew));exact Kd.R_mono HO_458002.out (fun _ hk=>⟨hk.1.1,⟨hk.1.2,hk.2⟩⟩)⟩,⟨by(with_reducible repeat(first|apply Kd.R_alloc|apply Kd.R_drewN|apply Kd.R_drew));exact Kd.R_mono HO_467002.out (fun _ hk=>⟨hk.1.1,⟨hk.1.2,hk.2⟩⟩)⟩,⟨by(with_reducible repeat(first|apply Kd.R_alloc|apply Kd.R_drewN|apply Kd.R_drew));exact Kd.R_mono a8.out (fun _ hk=>⟨hk.1.1.2,⟨hk.1.2,hk.2⟩⟩)⟩,⟨zh a0⟩,⟨zh a1⟩,⟨zh a2⟩,⟨zh a6⟩,⟨zs4 HB a3 a4 a7 d1⟩⟩
    subst D2;rw[if_pos rfl]at H;replace H:=zbd H;obtain⟨z1,D3,H⟩:=H
    by_cases D4:z1=true
    rotate_left
    ·replace D4:=Bool.eq_false_iff.mpr D4
     subst D4;rw[if_neg zfn]at H;have H':=zA H;clear H;have K7:=f0.out;have K8:=d6.out;have K9:=f1.out;have L0:=d7.out;have L1:=f2.out;have L2:=d8.out;obtain⟨t3,t4,t5,t6,t7⟩:=zd5 a6;obtain⟨t8,t9,v0,v1,v2⟩:=zn5 a6;have L3:=b3.out;have L4:=d5.out;have L5:=b2.out;have L6:=d2.out;obtain⟨v3,v4,v5,v6,v7⟩:=zd5 a0;obtain⟨v8,v9,w0,w1,w2⟩:=zn5 a0
     go_wp2_with (first|(go_at_call 7;(with_reducible refine(laws_wfPath.calls k4 g3 g4 _ _ e7 g5 g6 b5 b6 _ _ a9 b7 b8 false _ ?side1 ?side2 ?side3 ?side4 D3.out).mono ?_);(case side1=>repeat(first|exact(Kd.R_reads' a8.out).2.2|(with_reducible refine Kd.C_alloc ?_ _)|(with_reducible refine Kd.C_drewN ?_ _)|(with_reducible refine Kd.C_drew ?_)));(case side2=>exact(Kd.R_reads' a8.out).2.1);(case side3=>repeat(first|exact(Kd.R_reads' HO_449002.out).2.2|(with_reducible refine Kd.C_alloc ?_ _)|(with_reducible refine Kd.C_drewN ?_ _)|(with_reducible refine Kd.C_drew ?_)));(case side4=>exact(Kd.R_reads' HO_449002.out).2.1);rintro e L7 ⟨rfl,hb⟩;replace HO_449002:=zA (Kd.R_below (zr HO_449002) hb);replace HO_458002:=zA (Kd.R_below (zr HO_458002) hb);replace HO_467002:=zA (Kd.R_below (zr HO_467002) hb);replace a8:=zA (Kd.R_below (zr a8) hb);replace d0:=zA (Kd.R_below (zr d0) hb);replace e6:=zA (Kd.R_below (zr e6) hb);replace a0:=zb a0 hb;replace a1:=zb a1 hb;replace a2:=zb a2 hb;replace a6:=zb a6 hb;replace HB:=zE (zs4 HB a3 a4 a7 d1) hb;(try clear hb);(try clear hb2);(try clear hk);(try clear hi)))
     repeat(go_quiet (first|(go_at_call 7;(with_reducible refine(laws_wfPath.calls k4 g3 g4 _ _ e7 g5 g6 b5 b6 _ _ a9 b7 b8 false _ ?side1 ?side2 ?side3 ?side4 D3.out).mono ?_);(case side1=>repeat(first|exact(Kd.R_reads' a8.out).2.2|(with_reducible refine Kd.C_alloc ?_ _)|(with_reducible refine Kd.C_drewN ?_ _)|(with_reducible refine Kd.C_drew ?_)));(case side2=>exact(Kd.R_reads' a8.out).2.1);(case side3=>repeat(first|exact(Kd.R_reads' HO_449002.out).2.2|(with_reducible refine Kd.C_alloc ?_ _)|(with_reducible refine Kd.C_drewN ?_ _)|(with_reducible refine Kd.C_drew ?_)));(case side4=>exact(Kd.R_reads' HO_449002.out).2.1);rintro e L7 ⟨rfl,hb⟩;replace HO_449002:=zA (Kd.R_below (zr HO_449002) hb);replace HO_458002:=zA (Kd.R_below (zr HO_458002) hb);replace HO_467002:=zA (Kd.R_below (zr HO_467002) hb);replace a8:=zA (Kd.R_below (zr a8) hb);replace d0:=zA (Kd.R_below (zr d0) hb);replace e6:=zA (Kd.R_below (zr e6) hb);replace a0:=zb a0 hb;replace a1:=zb a1 hb;replace a2:=zb a2 hb;replace a6:=zb a6 hb;replace HB:=zE (zs4 HB a3 a4 a7 d1) hb;(try clear hb);(try clear hb2);(try clear hk);(try clear hi)));try go_wp2_with (first|(go_at_call 7;(with_reducible refine(laws_wfPath.calls k4 g3 g4 _ _ e7 g5 g6 b5 b6 _ _ a9 b7 b8 false _ ?side1 ?side2 ?side3 ?side4 D3.out).mono ?_);(case side1=>repeat(first|exact(Kd.R_reads' a8.out).2.2|(with_reducible refine Kd.C_alloc ?_ _)|(with_reducible refine Kd.C_drewN ?_ _)|(with_reducible refine Kd.C_drew ?_)));(case side2=>exact(Kd.R_reads' a8.out).2.1);(case side3=>repeat(first|exact(Kd.R_reads' HO_449002.out).2.2|(with_reducible refine Kd.C_alloc ?_ _)|(with_reducible refine Kd.C_drewN ?_ _)|(with_reducible refine Kd.C_drew ?_)));(case side4=>exact(Kd.R_reads' HO_449002.out).2.1);rintro e L7 ⟨rfl,hb⟩;replace HO_449002:=zA (Kd.R_below (zr HO_449002) hb);replace HO_458002:=zA (Kd.R_below (zr HO_458002) hb);replace HO_467002:=zA (Kd.R_below (zr HO_467002) hb);replace a8:=zA (Kd.R_below (zr a8) hb);replace d0:=zA (Kd.R_below (zr d0) hb);replace e6:=zA (Kd.R_below (zr e6) hb);replace a0:=zb a0 hb;replace a1:=zb a1 hb;replace a2:=zb a2 hb;replace a6:=zb a6 hb;replace HB:=zE (zs4 HB a3 a4 a7 d1) hb;(try clear hb);(try clear hb2);(try clear hk);(try clear hi))))
     go_meet
     case rel=>exact⟨_,(true),zi,H',⟨by have:=D9.out;first|omega|exact Nat.le_refl _⟩,⟨by(with_reducible repeat(first|apply Kd.R_alloc|apply Kd.R_drewN|apply Kd.R_drew));exact Kd.R_mono d0.out (fun _ hk=>hk.2)⟩,⟨by(with_reducible repeat(first|apply Kd.R_alloc|apply Kd.R_drewN|apply Kd.R_drew));exact Kd.R_mono e6.out (fun _ hk=>hk.2)⟩,⟨by(with_reducible repeat(first|apply Kd.R_alloc|apply Kd.R_drewN|apply Kd.R_drew));exact Kd.R_mono HO_449002.out (fun _ hk=>⟨hk.1.1,⟨hk.1.2,hk.2⟩⟩)⟩,⟨by(with_reducible repeat(first|apply Kd.R_alloc|apply Kd.R_drewN|apply Kd.R_drew));exact Kd.R_mono HO_458002.out (fun _ hk=>⟨hk.1.1,⟨hk.1.2,hk.2⟩⟩)⟩,⟨by(with_reducible repeat(first|apply Kd.R_alloc|apply Kd.R_drewN|apply Kd.R_drew));exact Kd.R_mono HO_467002.out (fun _ hk=>⟨hk.1.1,⟨hk.1.2,hk.2⟩⟩)⟩,⟨by(with_reducible repeat(first|apply Kd.R_alloc|apply Kd.R_drewN|apply Kd.R_drew));exact Kd.R_mono a8.out (fun _ hk=>⟨hk.1.1.2,⟨hk.1.2,hk.2⟩⟩)⟩,⟨zh a0⟩,⟨zh a1⟩,⟨zh a2⟩,⟨zh a6⟩,⟨zs4 HB a3 a4 a7 d1⟩⟩
    subst D4;rw[if_pos rfl]at H;have H':=zA H;clear H;have L8:=f0.out;have L9:=d6.out;have M0:=f1.out;have M1:=d7.out;have M2:=f2.out;have M3:=d8.out;obtain⟨w3,w4,w5,w6,w9⟩:=zd5 a6;obtain⟨x0,x1,x2,x3,x4⟩:=zn5 a6;have M4:=b3.out;have M5:=d5.out;have M6:=b2.out;have M7:=d2.out;obtain⟨x5,x6,x7,x8,x9⟩:=zd5 a0;obtain⟨y0,y1,y2,y3,y4⟩:=zn5 a0
    go_wp2_with (first|(go_at_call 7;(with_reducible refine(laws_wfPath.calls k4 g3 g4 _ _ e7 g5 g6 b5 b6 _ _ a9 b7 b8 true _ ?side1 ?side2 ?side3 ?side4 D3.out).mono ?_);(case side1=>repeat(first|exact(Kd.R_reads' a8.out).2.2|(with_reducible refine Kd.C_alloc ?_ _)|(with_reducible refine Kd.C_drewN ?_ _)|(with_reducible refine Kd.C_drew ?_)));(case side2=>exact(Kd.R_reads' a8.out).2.1);(case side3=>repeat(first|exact(Kd.R_reads' HO_449002.out).2.2|(with_reducible refine Kd.C_alloc ?_ _)|(with_reducible refine Kd.C_drewN ?_ _)|(with_reducible refine Kd.C_drew ?_)));(case side4=>exact(Kd.R_reads' HO_449002.out).2.1);rintro e M8 ⟨rfl,hb⟩;replace HO_449002:=zA (Kd.R_below (zr HO_449002) hb);replace HO_458002:=zA (Kd.R_below (zr HO_458002) hb);replace HO_467002:=zA (Kd.R_below (zr HO_467002) hb);replace a8:=zA (Kd.R_below (zr a8) hb);replace d0:=zA (Kd.R_below (zr d0) hb);replace e6:=zA (Kd.R_below (zr e6) hb);replace a0:=zb a0 hb;replace a1:=zb a1 hb;replace a2:=zb a2 hb;replace a6:=zb a6 hb;replace HB:=zE (zs4 HB a3 a4 a7 d1) hb;(try clear hb);(try clear hb2);(try clear hk);(try clear hi);obtain⟨Ao63,co63,z3⟩:=Kd.R_slice d0.out;subst z3;obtain⟨Ao64,co64,z4⟩:=Kd.R_slice e6.out;subst z4))
    repeat(go_quiet (first|(go_at_call 7;(with_reducible refine(laws_wfPath.calls k4 g3 g4 _ _ e7 g5 g6 b5 b6 _ _ a9 b7 b8 true _ ?side1 ?side2 ?side3 ?side4 D3.out).mono ?_);(case side1=>repeat(first|exact(Kd.R_reads' a8.out).2.2|(with_reducible refine Kd.C_alloc ?_ _)|(with_reducible refine Kd.C_drewN ?_ _)|(with_reducible refine Kd.C_drew ?_)));(case side2=>exact(Kd.R_reads' a8.out).2.1);(case side3=>repeat(first|exact(Kd.R_reads' HO_449002.out).2.2|(with_reducible refine Kd.C_alloc ?_ _)|(with_reducible refine Kd.C_drewN ?_ _)|(with_reducible refine Kd.C_drew ?_)));(case side4=>exact(Kd.R_reads' HO_449002.out).2.1);rintro e M8 ⟨rfl,hb⟩;replace HO_449002:=zA (Kd.R_below (zr HO_449002) hb);replace HO_458002:=zA (Kd.R_below (zr HO_458002) hb);replace HO_467002:=zA (Kd.R_below (zr HO_467002) hb);replace a8:=zA (Kd.R_below (zr a8) hb);replace d0:=zA (Kd.R_below (zr d0) hb);replace e6:=zA (Kd.R_below (zr e6) hb);replace a0:=zb a0 hb;replace a1:=zb a1 hb;replace a2:=zb a2 hb;replace a6:=zb a6 hb;replace HB:=zE (zs4 HB a3 a4 a7 d1) hb;(try clear hb);(try clear hb2);(try clear hk);(try clear hi);obtain⟨Ao63,co63,z3⟩:=Kd.R_slice d0.out;subst z3;obtain⟨Ao64,co64,z4⟩:=Kd.R_slice e6.out;subst z4));try go_wp2_with (first|(go_at_call 7;(with_reducible refine(laws_wfPath.calls k4 g3 g4 _ _ e7 g5 g6 b5 b6 _ _ a9 b7 b8 true _ ?side1 ?side2 ?side3 ?side4 D3.out).mono ?_);(case side1=>repeat(first|exact(Kd.R_reads' a8.out).2.2|(with_reducible refine Kd.C_alloc ?_ _)|(with_reducible refine Kd.C_drewN ?_ _)|(with_reducible refine Kd.C_drew ?_)));(case side2=>exact(Kd.R_reads' a8.out).2.1);(case side3=>repeat(first|exact(Kd.R_reads' HO_449002.out).2.2|(with_reducible refine Kd.C_alloc ?_ _)|(with_reducible refine Kd.C_drewN ?_ _)|(with_reducible refine Kd.C_drew ?_)));(case side4=>exact(Kd.R_reads' HO_449002.out).2.1);rintro e M8 ⟨rfl,hb⟩;replace HO_449002:=zA (Kd.R_below (zr HO_449002) hb);replace HO_458002:=zA (Kd.R_below (zr HO_458002) hb);replace HO_467002:=zA (Kd.R_below (zr HO_467002) hb);replace a8:=zA (Kd.R_below (zr a8) hb);replace d0:=zA (Kd.R_below (zr d0) hb);replace e6:=zA (Kd.R_below (zr e6) hb);replace a0:=zb a0 hb;replace a1:=zb a1 hb;replace a2:=zb a2 hb;replace a6:=zb a6 hb;replace HB:=zE (zs4 HB a3 a4 a7 d1) hb;(try clear hb);(try clear hb2);(try clear hk);(try clear hi);obtain⟨Ao63,co63,z3⟩:=Kd.R_slice d0.out;subst z3;obtain⟨Ao64,co64,z4⟩:=Kd.R_slice e6.out;subst z4)))
    go_meet
    case rel=>exact⟨_,(((e9.length:Int) !=(f4.length:Int))),zi,H',⟨by have:=D9.out;first|omega|exact Nat.le_refl _⟩,⟨by(with_reducible repeat(first|apply Kd.R_alloc|apply Kd.R_drewN|apply Kd.R_drew));exact Kd.R_mono d0.out (fun _ hk=>hk.2)⟩,⟨by(with_reducible repeat(first|apply Kd.R_alloc|apply Kd.R_drewN|apply Kd.R_drew));exact Kd.R_mono e6.out (fun _ hk=>hk.2)⟩,⟨by(with_reducible repeat(first|apply Kd.R_alloc|apply Kd.R_drewN|apply Kd.R_drew));exact Kd.R_mono HO_449002.out (fun _ hk=>⟨hk.1.1,⟨hk.1.2,hk.2⟩⟩)⟩,⟨by(with_reducible repeat(first|apply Kd.R_alloc|apply Kd.R_drewN|apply Kd.R_drew));exact Kd.R_mono HO_458002.out (fun _ hk=>⟨hk.1.1,⟨hk.1.2,hk.2⟩⟩)⟩,⟨by(with_reducible repeat(first|apply Kd.R_alloc|apply Kd.R_drewN|apply Kd.R_drew));exact Kd.R_mono HO_467002.out (fun _ hk=>⟨hk.1.1,⟨hk.1.2,hk.2⟩⟩)⟩,⟨by(with_reducible repeat(first|apply Kd.R_alloc|apply Kd.R_drewN|apply Kd.R_drew));exact Kd.R_mono a8.out (fun _ hk=>⟨hk.1.1.2,⟨hk.1.2,hk.2⟩⟩)⟩,⟨zh a0⟩,⟨zh a1⟩,⟨zh a2⟩,⟨zh a6⟩,⟨zs4 HB a3 a4 a7 d1⟩⟩
   case rest=>
    clear C6
    try clear c1
    try clear c2
    try clear z5
    try clear z6
    try clear p2
    try clear c3
    try clear c4
    try clear c5
    try clear c6
    try clear p6
    try clear c7
    try clear I9
    try clear J0
    try clear J1
    try clear s0
    try clear k2
    try clear s1
    try clear s2
    try clear J2
    try clear J3
    try clear J4
    try clear D0
    try clear D1
    try clear N6
    try clear N7
    try clear N8
    try clear N9
    try clear O0
    try clear O1
    try clear D2
    try clear D4
    try clear O2
    try clear O3
    try clear O4
    try clear O5
    try clear O6
    try clear M9
    try clear O7
    try clear O8
    try clear O9
    try clear P0
    try clear P1
    try clear g7 g8 g9 h0 h1
    try clear h7 h8 h9 i0 i1
    try clear i7 i8 i9 j5 j6
    try clear p3 p4 p5 p7 p8
    try clear q4 q5 q6 q7 q8
    try clear s3 s4 s5 s6 s7
    try clear k6 k7 k8 k9 l4
    try clear m0 m1 m2 m3 m4
    try clear n0 n1 n2 n3 n4
    try clear w3 w4 w5 w6 w9
    try clear x5 x6 x7 x8 x9
    try clear t3 t4 t5 t6 t7
    try clear v3 v4 v5 v6 v7
    try clear o0 o1 o2 o3 o4
    try clear h2 h3 h4 h5 h6
    try clear i2 i3 i4 i5 i6
    try clear j7 j8 j9 k0 k1
    try clear p9 q0 q1 q2 q3
    try clear q9 r0 r1 r2 r3
    try clear s8 s9 t0 t1 t2
    try clear l5 l6 l7 l8 l9
    try clear m5 m6 m7 m8 m9
    try clear n5 n6 n7 n8 n9
    try clear x0 x1 x2 x3 x4
    try clear y0 y1 y2 y3 y4
    try clear t8 t9 v0 v1 v2
    try clear v8 v9 w0 w1 w2
    try clear o5 o6 o7 o8 o9
    try clear p2
    obtain⟨kq,r4,rfl,HA,E3,HO_11,HO_12,HO_449002,HO_458002,HO_467002,HO_477002,a0,a1,a2,a6,HB⟩:=hcut
    cases kq with
    |zero=>exact absurd HA.out (by simp[laws_FnFlyShift.j1])
    |succ E4=>
     have H:=HA.out;clear HA;simp only[laws_FnFlyShift.j1]at H
     by_cases E5:r4=true
     ·subst E5
      rw[if_pos rfl]at H;obtain rfl:=Option.some.inj H
      go_wp2
      repeat(go_quiet (fail);try go_wp2)
      go_ret;exact⟨ze,zs4 HB a3 a4 a7 d1⟩
     replace E5:=Bool.eq_false_iff.mpr E5;subst E5;rw[if_neg zfn]at H;have H':=zA H;clear H
     go_wp2
     repeat(go_quiet (fail);try go_wp2)
     go_loopg [13] E4 (fun kq P2 w'=> ∃(b4:Int),P2= .int .i64 b4∧Aside0 (laws_FnFlyShift.l0 kq e0 e9 f4 b4=some r)∧Aside0 (kq≤E4)∧Aside0 (Kd.R (Kd.int .i64) 3 w' w.heap.size (fun k_=>some k_≠(y7:Value).ownBlock) y6 e9)∧Aside0 (Kd.R (Kd.int .i64) 3 w' w.heap.size (fun k_=>some k_≠(y6:Value).ownBlock) y7 f4)∧Aside0 (Kd.R k43 43 w' w.heap.size (fun k_=>some k_≠((.slice Ao15 b1.length co15):Value).ownBlock∧some k_≠((.slice Ao22 d3.length co22):Value).ownBlock∧some k_≠((.slice Ao46 e7.length co46):Value).ownBlock) (.slice Ao10 a9.length co10) a9)∧Aside0 (Kd.R k43 43 w' w.heap.size (fun k_=>some k_≠((.slice Ao10 a9.length co10):Value).ownBlock∧some k_≠((.slice Ao22 d3.length co22):Value).ownBlock∧some k_≠((.slice Ao46 e7.length co46):Value).ownBlock) (.slice Ao15 b1.length co15) b1)∧Aside0 (Kd.R k43 43 w' w.heap.size (fun k_=>some k_≠((.slice Ao10 a9.length co10):Value).ownBlock∧some k_≠((.slice Ao15 b1.length co15):Value).ownBlock∧some k_≠((.slice Ao46 e7.length co46):Value).ownBlock) (.slice Ao22 d3.length co22) d3)∧Aside0 (Kd.R k43 43 w' w.heap.size (fun k_=>some k_≠((.slice Ao10 a9.length co10):Value).ownBlock∧some k_≠((.slice Ao15 b1.length co15):Value).ownBlock∧some k_≠((.slice Ao22 d3.length co22):Value).ownBlock) (.slice Ao46 e7.length co46) e7)∧Aside0 (w'.heap[f3]?=some (.cells #[.int .i64 b5,.int .i64 b6,(.slice Ao10 a9.length co10),.int .i64 b7,.int .i64 b8] 27 (0,0)))∧Aside0 (w'.heap[f5]?=some (.cells #[.int .i64 e1,.int .i64 e2,(.slice Ao15 b1.length co15),.int .i64 e3,.int .i64 e4] 27 (0,0)))∧Aside0 (w'.heap[f8]?=some (.cells #[.int .i64 f9,.int .i64 g0,(.slice Ao22 d3.length co22),.int .i64 g1,.int .i64 g2] 27 (0,0)))∧Aside0 (w'.heap[p0]?=some (.cells #[.int .i64 g3,.int .i64 g4,(.slice Ao46 e7.length co46),.int .i64 g5,.int .i64 g6] 27 (0,0)))∧Aside0 (Below w.heap.size w w'))
     case atStart=>exact⟨(0),zi,H',⟨Nat.le_refl _⟩,⟨zr HO_11⟩,⟨zr HO_12⟩,⟨zr HO_449002⟩,⟨zr HO_458002⟩,⟨zr HO_467002⟩,⟨zr HO_477002⟩,⟨zh a0⟩,⟨zh a1⟩,⟨zh a2⟩,⟨zh a6⟩,⟨zs4 HB a3 a4 a7 d1⟩⟩
     case round=>
      clear H'
      try clear c1
      try clear c2
      try clear z5
      try clear z6
      try clear p2
      try clear c3
      try clear c4
      try clear c5
      try clear c6
      try clear p6
      try clear c7
      try clear I9
      try clear J0
      try clear J1
      try clear s0
      try clear k2
      try clear s1
      try clear s2
      try clear J2
      try clear J3
      try clear J4
      try clear D0
      try clear D1
      try clear N6
      try clear N7
      try clear N8
      try clear N9
      try clear O0
      try clear O1
      try clear D2
      try clear D4
      try clear O2
      try clear O3
      try clear O4
      try clear O5
      try clear O6
      try clear M9
      try clear O7
      try clear O8
      try clear O9
      try clear P0
      try clear P1
      try clear E5
      try clear g7 g8 g9 h0 h1
      try clear h7 h8 h9 i0 i1
      try clear i7 i8 i9 j5 j6
      try clear p3 p4 p5 p7 p8
      try clear q4 q5 q6 q7 q8
      try clear s3 s4 s5 s6 s7
      try clear k6 k7 k8 k9 l4
      try clear m0 m1 m2 m3 m4
      try clear n0 n1 n2 n3 n4
      try clear w3 w4 w5 w6 w9
      try clear x5 x6 x7 x8 x9
      try clear t3 t4 t5 t6 t7
      try clear v3 v4 v5 v6 v7
      try clear o0 o1 o2 o3 o4
      try clear h2 h3 h4 h5 h6
      try clear i2 i3 i4 i5 i6
      try clear j7 j8 j9 k0 k1
      try clear p9 q0 q1 q2 q3
      try clear q9 r0 r1 r2 r3
      try clear s8 s9 t0 t1 t2
      try clear l5 l6 l7 l8 l9
      try clear m5 m6 m7 m8 m9
      try clear n5 n6 n7 n8 n9
      try clear x0 x1 x2 x3 x4
      try clear y0 y1 y2 y3 y4
      try clear t8 t9 v0 v1 v2
      try clear v8 v9 w0 w1 w2
      try clear o5 o6 o7 o8 o9
      try clear p2
      try clear p6
      try clear M9
      obtain⟨b4,rfl,HA,N0,HO_11,HO_12,HO_449002,HO_458002,HO_467002,HO_477002,a0,a1,a2,a6,HB⟩:=hrel
      cases gk with
      |zero=>exact absurd HA.out (by simp[laws_FnFlyShift.l0])
      |succ k3=>
       have H:=HA.out;clear HA;simp only[laws_FnFlyShift.l0]at H
       by_cases D5:b4<(e9.length:Int)
       rotate_left
       ·rw[if_neg D5]at H
        have E6:decide (b4<(e9.length:Int))=false:=decide_eq_false D5;clear D5;obtain rfl:=Option.some.inj H;obtain⟨Ao82,co82,G9⟩:=Kd.R_slice HO_11.out;subst G9
        go_wp2
        repeat(go_quiet (fail);try go_wp2)
        go_ret;exact⟨ze,zs4 HB a3 a4 a7 d1⟩
       rw[if_pos D5]at H;have E6:decide (b4<(e9.length:Int))=true:=decide_eq_true D5;clear D5;replace H:=zif H;obtain⟨N1,H⟩:=H
       by_cases G1:b4<(f4.length:Int)
       rotate_left
       ·rw[if_neg G1]at H
        exact absurd H (by simp)
       rw[if_pos G1]at H;have N2:decide (b4<(f4.length:Int))=true:=decide_eq_true G1;clear G1
       by_cases C7:(rd f4 b4)=(wrap64 ((rd e9 b4)+e0))
       rotate_left
       ·rw[if_neg C7]at H
        have E7:((rd f4 b4)==(wrap64 ((rd e9 b4)+e0)))=false:=beq_eq_false_iff_ne.mpr C7;have E8:((rd f4 b4) !=(wrap64 ((rd e9 b4)+e0)))=true:=bne_iff_ne.mpr C7;obtain rfl:=Option.some.inj H;obtain⟨Ao80,co80,H0⟩:=Kd.R_slice HO_11.out;subst H0;obtain⟨Ao81,co81,H1⟩:=Kd.R_slice HO_12.out;subst H1;have r5:0≤(b4:Int):=za;have r6:b4<(f4.length:Int):=za;obtain⟨E9,C8,z7⟩:=Kd.at_int (Kd.R_reads' HO_12.out).2.2 b4 r5 r6;cases C8;replace r5:=eq_true r5;replace r6:=eq_true r6;have r7:0≤(b4:Int):=za;have r8:b4<(e9.length:Int):=za;obtain⟨F0,C9,z8⟩:=Kd.at_int (Kd.R_reads' HO_11.out).2.2 b4 r7 r8;cases C9;replace r7:=eq_true r7;replace r8:=eq_true r8
        go_wp2
        repeat(go_quiet (fail);try go_wp2)
        go_ret;exact⟨ze,zs4 HB a3 a4 a7 d1⟩
       rw[if_pos C7]at H;have E7:((rd f4 b4)==(wrap64 ((rd e9 b4)+e0)))=true:=beq_iff_eq.mpr C7;have E8:((rd f4 b4) !=(wrap64 ((rd e9 b4)+e0)))=false:=bne_eq_false_iff_eq.mpr C7;clear C7;have H':=zA H;clear H;obtain⟨Ao78,co78,H2⟩:=Kd.R_slice HO_11.out;subst H2;obtain⟨Ao79,co79,H3⟩:=Kd.R_slice HO_12.out;subst H3;have r5:0≤(b4:Int):=za;have r6:b4<(f4.length:Int):=za;obtain⟨E9,C8,z7⟩:=Kd.at_int (Kd.R_reads' HO_12.out).2.2 b4 r5 r6;cases C8;replace r5:=eq_true r5;replace r6:=eq_true r6;have r7:0≤(b4:Int):=za;have r8:b4<(e9.length:Int):=za;obtain⟨F0,C9,z8⟩:=Kd.at_int (Kd.R_reads' HO_11.out).2.2 b4 r7 r8;cases C9;replace r7:=eq_true r7;replace r8:=eq_true r8
       go_wp2
       repeat(go_quiet (fail);try go_wp2)
       go_roundg k3
       case measure=>have:=D9.out;have:=E3.out;have:=N0.out;omega
       case rel=>exact⟨(wrap64 (b4+1)),zi,H',⟨by have:=D9.out;have:=E3.out;have:=N0.out;omega⟩,⟨zr HO_11⟩,⟨zr HO_12⟩,⟨zr HO_449002⟩,⟨zr HO_458002⟩,⟨zr HO_467002⟩,⟨zr HO_477002⟩,⟨zh a0⟩,⟨zh a1⟩,⟨zh a2⟩,⟨zh a6⟩,⟨zs4 HB a3 a4 a7 d1⟩⟩
/-- THE ONE PURE STATEMENT of laws_FnFlyShift: yours. -/
def laws_FnFlyShift.Pure:Prop:= ∀(l0:List Int),l0.length≤maxLen→l0.length*1≤140737488351232→(∀x∈l0,(Lit.int .u8 x).wf=true)→ ∃k,laws_FnFlyShift.f k l0=some true
theorem laws_FnFlyShift.walk (P:laws_FnFlyShift.Pure) (a0:Option Addr) (len0 cap0:Nat) (z0:List Int) (w:World) (w0:(a0=none∧len0=0∧cap0=0∧z0=[])∨ ∃x,a0=some x∧len0≤cap0∧cap0≤maxLen∧z0.length=cap0∧(∀i,i<z0.length→w.cell? (x.add i)=some (.int .u8 (z0.getD i 0)))∧ ∀n∈z0,(Lit.int .u8 n).wf=true) (y0:len0*1≤140737488351232):
 Calls Try.prog 3 #[.slice a0 len0 cap0] w fun e w'=>e= .returned (.bool true)∧Below w.heap.size w w':=by
 obtain⟨l0,rfl,hr0,hm0,hw0,hc0⟩:=ReadsInt.ofRowC w0;obtain⟨k,h⟩:=P l0 hm0 y0 hw0;refine(laws_FnFlyShift.calls k _ _ l0 true w (Kd.C_of_reads (d:=(0:Int)) (h1:=fun _=>rfl) hr0) hc0 h).mono ?_;rintro e w' ⟨rfl,hd⟩;exact⟨rfl,hd⟩
end Go.Proofs.Ytcokhiclencmdaa.QFnFlyShift
