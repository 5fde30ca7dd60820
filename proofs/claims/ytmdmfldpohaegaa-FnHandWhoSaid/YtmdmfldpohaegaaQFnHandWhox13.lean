/- The walk of what the law FnHandWho reaches: laid by a program of this session (ownprint.py). -/
import Derived.Test.YtmdmfldpohaegaaQFnHandWhox0
import Derived.Test.YtmdmfldpohaegaaQFnHandWhox2
import Derived.Test.YtmdmfldpohaegaaQFnHandWhox8
import Derived.Test.YtmdmfldpohaegaaQFnHandWhox10
import Derived.Test.YtmdmfldpohaegaaQFnHandWhox12
namespace Go.Proofs.Ytmdmfldpohaegaa.QFnHandWho
open Go.RowKit Go.Proofs.YtmdmfldpohaegaaW.PrintWords Go.Proofs.YtmdmfldpohaegaaW.PrintLast Go.Proofs.YtmdmfldpohaegaaW.PrintMore Go.Proofs.Ytmdmfldpohaegaa.Z
attribute [local go_sem] max2_int min2_int max_two min_two max_three min_three max_four min_four zdn   -- for this text's walks alone
set_option linter.unusedVariables false
set_option linter.unusedSimpArgs false
def spec_DrawHandTubeOk.j0:Nat→List (S34)→List (S47)→List Int→Int→Option ((List (S34))×(List (S47)))
 |0,_,_,_,_=>none
 |k+1,x5,x6,a0,a1=>(spec_l31Rd_pick.f k a0 a1 16).bind fun a2=>(if a2.1=0 then((spec_l37SpoilZones.f k a0 a2.2 x5).bind fun a3=>(some (a3.1,x6)))else(some (x5,x6)))
def spec_DrawHandTubeOk.f (k:Nat) (l0:List Int):Option ((List (S34))×(List (S47))):=(spec_l31Open.f l0).bind fun a0=>((spec_l37Zones.f k a0.1 a0.2).bind fun a1=>((spec_l37Tube.f k a0.1 a1.2 a1.1).bind fun a2=>((spec_l31Rd_pick.f k a0.1 a2.2 2).bind fun a3=>(if a3.1=0 then((spec_l37SpoilTube.f k a0.1 a3.2 a2.1).bind fun a4=>(spec_DrawHandTubeOk.j0 k a1.1 a4.1 a0.1 a4.2))else(spec_DrawHandTubeOk.j0 k a1.1 a2.1 a0.1 a3.2)))))
set_option maxHeartbeats 8000000 in
set_option maxRecDepth 100000 in
theorem spec_DrawHandTubeOk.calls (k:Nat) (A0:Option Addr) (c0:Nat) (l0:List Int) (r1:List (S34)) (r2:List (S47)) (w:World) (hr0:Kd.C (Kd.int .u8) w A0 l0.length l0) (hc0:l0.length≤c0) (h:spec_DrawHandTubeOk.f k l0=some (r1,r2)):
 Calls Try.prog 4 #[.slice A0 l0.length c0] w fun e w'=> ∃v0_ v1_:Value,e= .returned (.tuple #[v0_,v1_])∧Kd.R k34 34 w' w.heap.size (fun _=>True) v0_ r1∧Kd.R k47 47 w' w.heap.size (fun _=>True) v1_ r2∧Below w.heap.size w w':=by
 have f4:=zA hr0;have f5:=zA hc0;clear hr0 hc0;have HB:=zA (Below.refl w.heap.size w);have H:=h;clear h;unfold spec_DrawHandTubeOk.f at H;replace H:=Option.bind_eq_some_iff.mp H;obtain⟨⟨a1,d2⟩,e9,H⟩:=H;replace H:((spec_l37Zones.f k a1 d2).bind fun b5=>((spec_l37Tube.f k a1 b5.2 b5.1).bind fun a8=>((spec_l31Rd_pick.f k a1 a8.2 2).bind fun a4=>(if a4.1=0 then((spec_l37SpoilTube.f k a1 a4.2 a8.1).bind fun a5=>(spec_DrawHandTubeOk.j0 k b5.1 a5.1 a1 a5.2))else(spec_DrawHandTubeOk.j0 k b5.1 a8.1 a1 a4.2)))))=some (r1,r2):=H;have A2:=zA e9;clear e9;replace H:=Option.bind_eq_some_iff.mp H;obtain⟨⟨a3,b8⟩,f0,H⟩:=H;replace H:((spec_l37Tube.f k a1 b8 a3).bind fun a8=>((spec_l31Rd_pick.f k a1 a8.2 2).bind fun a4=>(if a4.1=0 then((spec_l37SpoilTube.f k a1 a4.2 a8.1).bind fun a5=>(spec_DrawHandTubeOk.j0 k a3 a5.1 a1 a5.2))else(spec_DrawHandTubeOk.j0 k a3 a8.1 a1 a4.2))))=some (r1,r2):=H;have A3:=zA f0;clear f0;replace H:=Option.bind_eq_some_iff.mp H;obtain⟨⟨b0,b9⟩,f1,H⟩:=H;replace H:((spec_l31Rd_pick.f k a1 b9 2).bind fun a4=>(if a4.1=0 then((spec_l37SpoilTube.f k a1 a4.2 b0).bind fun a5=>(spec_DrawHandTubeOk.j0 k a3 a5.1 a1 a5.2))else(spec_DrawHandTubeOk.j0 k a3 b0 a1 a4.2)))=some (r1,r2):=H;have A4:=zA f1;clear f1;replace H:=Option.bind_eq_some_iff.mp H;obtain⟨⟨b3,b1⟩,f2,H⟩:=H;replace H:(if b3=0 then((spec_l37SpoilTube.f k a1 b1 b0).bind fun a5=>(spec_DrawHandTubeOk.j0 k a3 a5.1 a1 a5.2))else(spec_DrawHandTubeOk.j0 k a3 b0 a1 b1))=some (r1,r2):=H;have A5:=zA f2;clear f2;have e6:=zA H;clear H
 go_enter Try.func4,Try.ntmps4
 go_upto_if 16 with(first|((with_reducible refine gate_callee (f:=17) rfl ?_);refine zgl (N:=some 8) Try.func17 #[.slice A0 l0.length c0] ?_;(with_reducible refine(spec_l31Open.calls _ _ l0 a1 d2 w _ ?side1 ?side2 ?side3 A2.out).mono ?_);(case side1=>repeat(first|(with_reducible first|exact HB.out|apply below_alloc|apply pw_below_drewN|apply below_drew1)|exact HB.out));(case side2=>exact f4.out);(case side3=>exact f5.out);rintro e w7 ⟨g312,rfl,hi,hb,hb2⟩;refine⟨_,rfl,?_⟩;have a0:=zA (hi);replace HB:=zA (hb);(try clear hb);(try clear hb2);(try clear hk);(try clear hi))|((with_reducible refine gate_callee (f:=18) rfl ?_);refine zgl (N:=some 10) Try.func18 #[.pointer (some ⟨g312,0,none⟩)] ?_;(with_reducible refine(spec_l37Zones.calls k g312 a1 d2 a3 b8 w _ ?side1 ?side2 A3.out).mono ?_);(case side1=>exact zI0 a0);(case side2=>exact zB0 a0 HB);rintro e w8 ⟨f6,rfl,b6,hi,hb,hk⟩;refine⟨_,rfl,?_⟩;have a6:=zA (Kd.R_lower b6 (below_size (zB0 a0 HB)));replace HB:=zA (hb);replace a0:=zA (hi);(try clear hb);(try clear hb2);(try clear hk);(try clear hi);(try clear b6);obtain⟨Ao9,co9,f7⟩:=Kd.R_slice a6.out;subst f7)|((with_reducible refine gate_callee (f:=19) rfl ?_);refine zgl (N:=some 13) Try.func19 #[.pointer (some ⟨g312,0,none⟩),.slice Ao9 a3.length co9] ?_;(with_reducible refine(spec_l37Tube.calls k g312 a1 b8 _ _ a3 b0 b9 w _ ?side1 ?side2 ?side3 ?side4 A4.out).mono ?_);(case side1=>exact zI0 a0);(case side2=>exact zB0 a0 HB);(case side3=>exact Kd.C_foot_own (IsS54.apart (show IsS54 w _ g312 a1 b8 from zI0 a0) (zr a6) (by decide)) (fun _ h_=>h_.2));(case side4=>exact(Kd.R_reads' a6.out).2.1);rintro e g3 ⟨f8,rfl,b6,hi,hb,hk⟩;refine⟨_,rfl,?_⟩;have a7:=zA (Kd.R_lower b6 (below_size (zB0 a0 HB)));replace a6:=zok (show IsS54 w _ g312 a1 b8 from zI0 a0) (zr a6) hk;replace HB:=zA (hb);replace a0:=zA (hi);(try clear hb);(try clear hb2);(try clear hk);(try clear hi);(try clear b6))|((with_reducible refine gate_callee (f:=20) rfl ?_);refine zgl (N:=some 15) Try.func20 #[.pointer (some ⟨g312,0,none⟩),.int .i64 2] ?_;(with_reducible refine(spec_l31Rd_pick.calls k g312 a1 b9 2 b3 b1 w _ ?side1 ?side2 A5.out).mono ?_);(case side1=>exact zI0 a0);(case side2=>exact zB0 a0 HB);rintro e g4 ⟨rfl,hi,hb,hk⟩;refine⟨_,rfl,?_⟩;replace a6:=zok (show IsS54 w _ g312 a1 b9 from zI0 a0) (zr a6) hk;replace a7:=zok (show IsS54 w _ g312 a1 b9 from zI0 a0) (zr a7) hk;replace HB:=zA (hb);replace a0:=zA (hi);(try clear hb);(try clear hb2);(try clear hk);(try clear hi)))
 (try simp only[Act.put,List.setIfInBounds_toArray,List.set_cons_zero,List.set_cons_succ])
 go_cut [6] (fun v6 wc=> ∃(kq:Nat) (b7:List (S47)) (a2:Int),Aside0 (spec_DrawHandTubeOk.j0 kq a3 b7 a1 a2=some (r1,r2))∧Aside0 (kq≤k)∧Aside0 (Kd.R k34 34 wc w.heap.size (fun _=>True) (.slice Ao9 a3.length co9) a3)∧Aside0 (Kd.R k47 47 wc w.heap.size (fun _=>True) v6 b7)∧Aside0 (IsS54 w wc g312 a1 a2)∧Aside0 (Below w.heap.size w wc))
 case first=>
  have H:=e6.out;clear e6
  by_cases d0:b3=0
  rotate_left
  ·rw[if_neg d0]at H
   have a9:(b3==0)=false:=beq_eq_false_iff_ne.mpr d0;have d1:(b3 !=0)=true:=bne_iff_ne.mpr d0;(first|rw[a9]|(simp only[i64_w,i32_w];rw[a9])|skip);have H':=zA H;clear H
   go_wp2
   go_meet
   case rel=>exact⟨_,(b0),(b1),H',⟨by first|omega|exact Nat.le_refl _⟩,⟨zr a6⟩,⟨zr a7⟩,⟨zI0 a0⟩,⟨zB0 a0 HB⟩⟩
  rw[if_pos d0]at H;have a9:(b3==0)=true:=beq_iff_eq.mpr d0;have d1:(b3 !=0)=false:=bne_eq_false_iff_eq.mpr d0;clear d0;(first|rw[a9]|(simp only[i64_w,i32_w];rw[a9])|skip);replace H:=Option.bind_eq_some_iff.mp H;obtain⟨⟨d3,d4⟩,d6,H⟩:=H;replace H:(spec_DrawHandTubeOk.j0 k a3 d3 a1 d4)=some (r1,r2):=H;have f9:=zA d6;clear d6;have H':=zA H;clear H;obtain⟨Ao14,co14,e7⟩:=Kd.R_slice a7.out;subst e7
  go_wp2_with (first|((with_reducible refine gate_callee (f:=21) rfl ?_);refine zgl (N:=some 19) Try.func21 #[.pointer (some ⟨g312,0,none⟩),.slice Ao14 b0.length co14] ?_;(with_reducible refine(spec_l37SpoilTube.calls k g312 a1 b1 _ _ b0 d3 d4 w _ ?side1 ?side2 ?side3 ?side4 f9.out).mono ?_);(case side1=>exact zI0 a0);(case side2=>exact zB0 a0 HB);(case side3=>exact Kd.C_foot_own (IsS54.apart (show IsS54 w _ g312 a1 b1 from zI0 a0) (zr a7) (by decide)) (fun _ h_=>h_.2));(case side4=>exact(Kd.R_reads' a7.out).2.1);rintro e g5 ⟨g0,rfl,b6,hi,hb,hk⟩;refine⟨_,rfl,?_⟩;have d7:=zA (Kd.R_lower (Kd.R_new' b6 (Kd.R_lt (zr a7))) (below_size (zB0 a0 HB)));replace a6:=zok (show IsS54 w _ g312 a1 b1 from zI0 a0) (zr a6) hk;replace a7:=zA (Kd.R_mono (Kd.R_told (Kd.R_oldK (IsS54.apart (show IsS54 w _ g312 a1 b1 from zI0 a0) (zr a7) (by decide)) hk) (Kd.R_base b6)) (fun _ h_=>h_.1));replace HB:=zA (hb);replace a0:=zA (hi);(try clear hb);(try clear hb2);(try clear hk);(try clear hi);(try clear b6)))
  go_meet
  case rel=>exact⟨_,(d3),(d4),H',⟨by first|omega|exact Nat.le_refl _⟩,⟨zr a6⟩,⟨by(with_reducible repeat(first|apply Kd.R_alloc|apply Kd.R_drewN|apply Kd.R_drew));exact Kd.R_mono d7.out (fun _ hk=>trivial)⟩,⟨zI0 a0⟩,⟨zB0 a0 HB⟩⟩
 case rest=>
  clear e6
  try clear c1
  try clear c2
  try clear p2
  try clear c4
  try clear d0
  try clear a9
  try clear d1
  obtain⟨kq,b7,a2,HA,g6,HO_5,HO_6,a0,HB⟩:=hcut
  cases kq with
  |zero=>exact absurd HA.out (by simp[spec_DrawHandTubeOk.j0])
  |succ e5=>
   have H:=HA.out;clear HA;simp only[spec_DrawHandTubeOk.j0]at H;replace H:=Option.bind_eq_some_iff.mp H;obtain⟨⟨b2,b4⟩,d8,H⟩:=H;replace H:(if b2=0 then((spec_l37SpoilZones.f e5 a1 b4 a3).bind fun d9=>(some (d9.1,b7)))else(some (a3,b7)))=some (r1,r2):=H;have f3:=zA d8;clear d8
   by_cases d5:b2=0
   rotate_left
   ·rw[if_neg d5]at H
    have e0:(b2==0)=false:=beq_eq_false_iff_ne.mpr d5;have e1:(b2 !=0)=true:=bne_iff_ne.mpr d5;simp only[Option.some.injEq,Prod.mk.injEq]at H;obtain⟨rfl,rfl⟩:=H
    go_wp2_with (first|((with_reducible refine gate_callee (f:=20) rfl ?_);refine zgl (N:=some 21) Try.func20 #[.pointer (some ⟨g312,0,none⟩),.int .i64 16] ?_;(with_reducible refine(spec_l31Rd_pick.calls e5 g312 a1 a2 16 b2 b4 w _ ?side1 ?side2 f3.out).mono ?_);(case side1=>exact zI0 a0);(case side2=>exact zB0 a0 HB);rintro e g7 ⟨rfl,hi,hb,hk⟩;refine⟨_,rfl,?_⟩;replace HO_5:=zok (show IsS54 w _ g312 a1 a2 from zI0 a0) (zr HO_5) hk;replace HO_6:=zok (show IsS54 w _ g312 a1 a2 from zI0 a0) (zr HO_6) hk;replace HB:=zA (hb);replace a0:=zA (hi);(try clear hb);(try clear hb2);(try clear hk);(try clear hi)))
    go_ret2
    exact⟨_,_,ze,zr HO_5,zr HO_6,zB0 a0 HB⟩
   rw[if_pos d5]at H;have e0:(b2==0)=true:=beq_iff_eq.mpr d5;have e1:(b2 !=0)=false:=bne_eq_false_iff_eq.mpr d5;clear d5;replace H:=Option.bind_eq_some_iff.mp H;obtain⟨⟨e2,e8⟩,e3,H⟩:=H;replace H:(some (e2,b7))=some (r1,r2):=H;have g1:=zA e3;clear e3;simp only[Option.some.injEq,Prod.mk.injEq]at H;obtain⟨rfl,rfl⟩:=H
   go_wp2_with (first|((with_reducible refine gate_callee (f:=20) rfl ?_);refine zgl (N:=some 21) Try.func20 #[.pointer (some ⟨g312,0,none⟩),.int .i64 16] ?_;(with_reducible refine(spec_l31Rd_pick.calls e5 g312 a1 a2 16 b2 b4 w _ ?side1 ?side2 f3.out).mono ?_);(case side1=>exact zI0 a0);(case side2=>exact zB0 a0 HB);rintro e g8 ⟨rfl,hi,hb,hk⟩;refine⟨_,rfl,?_⟩;replace HO_5:=zok (show IsS54 w _ g312 a1 a2 from zI0 a0) (zr HO_5) hk;replace HO_6:=zok (show IsS54 w _ g312 a1 a2 from zI0 a0) (zr HO_6) hk;replace HB:=zA (hb);replace a0:=zA (hi);(try clear hb);(try clear hb2);(try clear hk);(try clear hi))|((with_reducible refine gate_callee (f:=22) rfl ?_);refine zgl (N:=some 25) Try.func22 #[.pointer (some ⟨g312,0,none⟩),.slice Ao9 a3.length co9] ?_;(with_reducible refine(spec_l37SpoilZones.calls e5 g312 a1 b4 _ _ a3 e2 e8 w _ ?side1 ?side2 ?side3 ?side4 g1.out).mono ?_);(case side1=>exact zI0 a0);(case side2=>exact zB0 a0 HB);(case side3=>exact Kd.C_foot_own (IsS54.apart (show IsS54 w _ g312 a1 b4 from zI0 a0) (zr HO_5) (by decide)) (fun _ h_=>h_.2));(case side4=>exact(Kd.R_reads' HO_5.out).2.1);rintro e g9 ⟨g2,rfl,b6,hi,hb,hk⟩;refine⟨_,rfl,?_⟩;have e4:=zA (Kd.R_lower (Kd.R_new' b6 (Kd.R_lt (zr HO_5))) (below_size (zB0 a0 HB)));replace HO_5:=zA (Kd.R_mono (Kd.R_told (Kd.R_oldK (IsS54.apart (show IsS54 w _ g312 a1 b4 from zI0 a0) (zr HO_5) (by decide)) hk) (Kd.R_base b6)) (fun _ h_=>h_.1));replace HO_6:=zok (show IsS54 w _ g312 a1 b4 from zI0 a0) (zr HO_6) hk;replace HB:=zA (hb);replace a0:=zA (hi);(try clear hb);(try clear hb2);(try clear hk);(try clear hi);(try clear b6)))
   go_ret2
   exact⟨_,_,ze,by(with_reducible repeat(first|apply Kd.R_alloc|apply Kd.R_drewN|apply Kd.R_drew));exact Kd.R_mono e4.out (fun _ hk=>trivial),zr HO_6,zB0 a0 HB⟩
def impl_within.f (a0:Int) (a1:Int) (a2:Int):Option (Bool):=if a0≥a1 then(some (decide (a0≤a2)))else(some false)
set_option maxHeartbeats 8000000 in
set_option maxRecDepth 100000 in
theorem impl_within.calls (a0:Int) (a1:Int) (a2:Int) (r:Bool) (w:World) (h:impl_within.f a0 a1 a2=some r):
 Calls Try.prog 27 #[.int .i64 a0,.int .i64 a1,.int .i64 a2] w fun e w'=>e= .returned (.bool r)∧Drawn0 w w':=by
 have H:=h;clear h;unfold impl_within.f at H
 by_cases c4:a0≥a1
 ·rw[if_pos c4]at H
  have a3:decide (a1≤a0)=true:=decide_eq_true c4;clear c4;obtain rfl:=Option.some.inj H
  go_enter Try.func27,Try.ntmps27
  go_wp2
  go_ret;exact⟨by first|rfl|(simp;done)|(simp[*];done),by repeat(first|exact Drawn0.refl _|apply Drawn0.step)⟩
 rw[if_neg c4]at H;have a3:decide (a1≤a0)=false:=decide_eq_false c4;clear c4;obtain rfl:=Option.some.inj H
 go_enter Try.func27,Try.ntmps27
 go_wp2
 go_ret;exact⟨by first|rfl|(simp;done)|(simp[*];done),by repeat(first|exact Drawn0.refl _|apply Drawn0.step)⟩
mutual
def impl_isName.j0:Nat→ByteArray→Bool→Option (Bool)
 |0,_,_=>none
 |k+1,x0,x12=>if x12=true then(some false)else(impl_isName.l0 k x0 0)
def impl_isName.l0:Nat→ByteArray→Int→Option (Bool)
 |0,_,_=>none
 |k+1,x0,x3=>if x3<(x0.size:Int)then(if 0≤x3 then(if(bt x0 x3)≥97 then(if(bt x0 x3)≤122 then(impl_isName.l0 k x0 (wrap64 (x3+1)))else(if(bt x0 x3)≥48 then(if(bt x0 x3)≤57 then(impl_isName.l0 k x0 (wrap64 (x3+1)))else(if((bt x0 x3)=45)then(impl_isName.l0 k x0 (wrap64 (x3+1)))else(some false)))else(if((bt x0 x3)=45)then(impl_isName.l0 k x0 (wrap64 (x3+1)))else(some false))))else(if(bt x0 x3)≥48 then(if(bt x0 x3)≤57 then(impl_isName.l0 k x0 (wrap64 (x3+1)))else(if((bt x0 x3)=45)then(impl_isName.l0 k x0 (wrap64 (x3+1)))else(some false)))else(if((bt x0 x3)=45)then(impl_isName.l0 k x0 (wrap64 (x3+1)))else(some false))))else(none))else(some true)
end
def impl_isName.f (k:Nat) (a0:ByteArray):Option (Bool):=if(a0.size:Int)<1 then(impl_isName.j0 k a0 true)else(impl_isName.j0 k a0 (decide ((a0.size:Int)>8)))
set_option maxHeartbeats 8000000 in
set_option maxRecDepth 100000 in
theorem impl_isName.calls (k:Nat) (a0:ByteArray) (r:Bool) (w:World) (h:impl_isName.f k a0=some r):
 Calls Try.prog 28 #[.string a0] w fun e w'=>e= .returned (.bool r)∧Drawn0 w w':=by
 have H:=h;clear h;unfold impl_isName.f at H;have d6:=zA H;clear H
 go_enter Try.func28,Try.ntmps28
 go_upto_region 1 with(fail)
 go_cut [12] (fun e1 wc=> ∃(kq:Nat) (a3:Bool),e1= .bool a3∧Aside0 (impl_isName.j0 kq a0 a3=some r)∧Aside0 (kq≤k)∧Drawn0 w wc)
 case first=>
  have H:=d6.out;clear d6
  by_cases c3:(a0.size:Int)<1
  ·rw[if_pos c3]at H
   have a2:decide ((a0.size:Int)<1)=true:=decide_eq_true c3;have a7:decide (a0.size<1)=true:=decide_eq_true (by omega);clear c3;(first|rw[a2]|(simp only[i64_w,i32_w];rw[a2])|skip);have H':=zA H;clear H
   go_wp2
   go_meet
   case rel=>exact⟨_,(true),zi,H',⟨by first|omega|exact Nat.le_refl _⟩,by repeat(first|exact Drawn0.refl _|apply Drawn0.step)⟩
  rw[if_neg c3]at H;have a2:decide ((a0.size:Int)<1)=false:=decide_eq_false c3;have a7:decide (a0.size<1)=false:=decide_eq_false (by omega);clear c3;(first|rw[a2]|(simp only[i64_w,i32_w];rw[a2])|skip);have H':=zA H;clear H
  go_wp2
  go_meet
  case rel=>exact⟨_,(decide ((a0.size:Int)>8)),zi,H',⟨by first|omega|exact Nat.le_refl _⟩,by repeat(first|exact Drawn0.refl _|apply Drawn0.step)⟩
 case rest=>
  clear d6
  try clear c2
  try clear p2
  try clear c3
  try clear a2
  try clear a7
  obtain⟨kq,a3,rfl,HA,a4,⟨mc1,rfl⟩⟩:=hcut
  cases kq with
  |zero=>exact absurd HA.out (by simp[impl_isName.j0])
  |succ e0=>
   have H:=HA.out;clear HA;simp only[impl_isName.j0]at H
   by_cases c4:a3=true
   ·subst c4
    rw[if_pos rfl]at H;obtain rfl:=Option.some.inj H
    go_wp2
    go_ret;exact⟨by first|rfl|(simp;done)|(simp[*];done),by repeat(first|exact Drawn0.refl _|apply Drawn0.step)⟩
   replace c4:=Bool.eq_false_iff.mpr c4;subst c4;rw[if_neg zfn]at H;have H':=zA H;clear H
   go_wp2
   go_loopg [3] e0 (fun kq v3 w'=> ∃(a1:Int),v3= .int .i64 a1∧Aside0 (impl_isName.l0 kq a0 a1=some r)∧Aside0 (kq≤e0)∧Drawn0 w w')
   case atStart=>exact⟨(0),zi,H',⟨Nat.le_refl _⟩,by repeat(first|exact Drawn0.refl _|apply Drawn0.step)⟩
   case round=>
    clear H'
    try clear c1
    try clear c2
    try clear p2
    try clear c3
    try clear a2
    try clear a7
    try clear c4
    try clear p2
    obtain⟨a1,rfl,HA,a5,⟨m2,rfl⟩⟩:=hrel
    cases gk with
    |zero=>exact absurd HA.out (by simp[impl_isName.l0])
    |succ k2=>
     have H:=HA.out;clear HA;simp only[impl_isName.l0]at H
     by_cases c5:a1<(a0.size:Int)
     rotate_left
     ·rw[if_neg c5]at H
      have d7:decide (a1<(a0.size:Int))=false:=decide_eq_false c5;clear c5;obtain rfl:=Option.some.inj H
      go_wp2
      go_ret;exact⟨by first|rfl|(simp;done)|(simp[*];done),by repeat(first|exact Drawn0.refl _|apply Drawn0.step)⟩
     rw[if_pos c5]at H;have d7:decide (a1<(a0.size:Int))=true:=decide_eq_true c5;clear c5;replace H:=zif H;obtain⟨e2,H⟩:=H
     by_cases c8:(bt a0 a1)≥97
     rotate_left
     ·rw[if_neg c8]at H
      have d8:decide (97≤(bt a0 a1))=false:=decide_eq_false c8;clear c8
      by_cases b2:(bt a0 a1)≥48
      rotate_left
      ·rw[if_neg b2]at H
       have b5:decide (48≤(bt a0 a1))=false:=decide_eq_false b2;clear b2
       by_cases a8:((bt a0 a1)=45)
       rotate_left
       ·rw[if_neg a8]at H
        have b6:((bt a0 a1)==45)=false:=beq_eq_false_iff_ne.mpr a8;have b7:((bt a0 a1) !=45)=true:=bne_iff_ne.mpr a8;obtain rfl:=Option.some.inj H;have p7:0≤(a1:Int):=za;have q7:a1<(a0.size:Int):=za;have a6:=bt_at a0 a1;replace p7:=eq_true p7;replace q7:=eq_true q7
        go_wp2
        go_ret;exact⟨by first|rfl|(simp;done)|(simp[*];done),by repeat(first|exact Drawn0.refl _|apply Drawn0.step)⟩
       rw[if_pos a8]at H;have b6:((bt a0 a1)==45)=true:=beq_iff_eq.mpr a8;have b7:((bt a0 a1) !=45)=false:=bne_eq_false_iff_eq.mpr a8;clear a8;have H':=zA H;clear H;have p7:0≤(a1:Int):=za;have q7:a1<(a0.size:Int):=za;have a6:=bt_at a0 a1;replace p7:=eq_true p7;replace q7:=eq_true q7
       go_wp2
       go_roundg k2
       case measure=>have:=a4.out;have:=a5.out;omega
       case rel=>exact⟨(wrap64 (a1+1)),zi,H',⟨by have:=a4.out;have:=a5.out;omega⟩,by repeat(first|exact Drawn0.refl _|apply Drawn0.step)⟩
      rw[if_pos b2]at H;have b5:decide (48≤(bt a0 a1))=true:=decide_eq_true b2;clear b2
      by_cases b3:(bt a0 a1)≤57
      ·rw[if_pos b3]at H
       have b8:decide ((bt a0 a1)≤57)=true:=decide_eq_true b3;clear b3;have H':=zA H;clear H;have p7:0≤(a1:Int):=za;have q7:a1<(a0.size:Int):=za;have a6:=bt_at a0 a1;replace p7:=eq_true p7;replace q7:=eq_true q7
       go_wp2
       go_roundg k2
       case measure=>have:=a4.out;have:=a5.out;omega
       case rel=>exact⟨(wrap64 (a1+1)),zi,H',⟨by have:=a4.out;have:=a5.out;omega⟩,by repeat(first|exact Drawn0.refl _|apply Drawn0.step)⟩
      rw[if_neg b3]at H;have b8:decide ((bt a0 a1)≤57)=false:=decide_eq_false b3;clear b3
      by_cases a9:((bt a0 a1)=45)
      rotate_left
      ·rw[if_neg a9]at H
       have b9:((bt a0 a1)==45)=false:=beq_eq_false_iff_ne.mpr a9;have c0:((bt a0 a1) !=45)=true:=bne_iff_ne.mpr a9;obtain rfl:=Option.some.inj H;have p7:0≤(a1:Int):=za;have q7:a1<(a0.size:Int):=za;have a6:=bt_at a0 a1;replace p7:=eq_true p7;replace q7:=eq_true q7
       go_wp2
       go_ret;exact⟨by first|rfl|(simp;done)|(simp[*];done),by repeat(first|exact Drawn0.refl _|apply Drawn0.step)⟩
      rw[if_pos a9]at H;have b9:((bt a0 a1)==45)=true:=beq_iff_eq.mpr a9;have c0:((bt a0 a1) !=45)=false:=bne_eq_false_iff_eq.mpr a9;clear a9;have H':=zA H;clear H;have p7:0≤(a1:Int):=za;have q7:a1<(a0.size:Int):=za;have a6:=bt_at a0 a1;replace p7:=eq_true p7;replace q7:=eq_true q7
      go_wp2
      go_roundg k2
      case measure=>have:=a4.out;have:=a5.out;omega
      case rel=>exact⟨(wrap64 (a1+1)),zi,H',⟨by have:=a4.out;have:=a5.out;omega⟩,by repeat(first|exact Drawn0.refl _|apply Drawn0.step)⟩
     rw[if_pos c8]at H;have d8:decide (97≤(bt a0 a1))=true:=decide_eq_true c8;clear c8
     by_cases c9:(bt a0 a1)≤122
     ·rw[if_pos c9]at H
      have d9:decide ((bt a0 a1)≤122)=true:=decide_eq_true c9;clear c9;have H':=zA H;clear H;have p7:0≤(a1:Int):=za;have q7:a1<(a0.size:Int):=za;have a6:=bt_at a0 a1;replace p7:=eq_true p7;replace q7:=eq_true q7
      go_wp2
      go_roundg k2
      case measure=>have:=a4.out;have:=a5.out;omega
      case rel=>exact⟨(wrap64 (a1+1)),zi,H',⟨by have:=a4.out;have:=a5.out;omega⟩,by repeat(first|exact Drawn0.refl _|apply Drawn0.step)⟩
     rw[if_neg c9]at H;have d9:decide ((bt a0 a1)≤122)=false:=decide_eq_false c9;clear c9
     by_cases c10:(bt a0 a1)≥48
     rotate_left
     ·rw[if_neg c10]at H
      have d0:decide (48≤(bt a0 a1))=false:=decide_eq_false c10;clear c10
      by_cases b0:((bt a0 a1)=45)
      rotate_left
      ·rw[if_neg b0]at H
       have d1:((bt a0 a1)==45)=false:=beq_eq_false_iff_ne.mpr b0;have d2:((bt a0 a1) !=45)=true:=bne_iff_ne.mpr b0;obtain rfl:=Option.some.inj H;have p7:0≤(a1:Int):=za;have q7:a1<(a0.size:Int):=za;have a6:=bt_at a0 a1;replace p7:=eq_true p7;replace q7:=eq_true q7
       go_wp2
       go_ret;exact⟨by first|rfl|(simp;done)|(simp[*];done),by repeat(first|exact Drawn0.refl _|apply Drawn0.step)⟩
      rw[if_pos b0]at H;have d1:((bt a0 a1)==45)=true:=beq_iff_eq.mpr b0;have d2:((bt a0 a1) !=45)=false:=bne_eq_false_iff_eq.mpr b0;clear b0;have H':=zA H;clear H;have p7:0≤(a1:Int):=za;have q7:a1<(a0.size:Int):=za;have a6:=bt_at a0 a1;replace p7:=eq_true p7;replace q7:=eq_true q7
      go_wp2
      go_roundg k2
      case measure=>have:=a4.out;have:=a5.out;omega
      case rel=>exact⟨(wrap64 (a1+1)),zi,H',⟨by have:=a4.out;have:=a5.out;omega⟩,by repeat(first|exact Drawn0.refl _|apply Drawn0.step)⟩
     rw[if_pos c10]at H;have d0:decide (48≤(bt a0 a1))=true:=decide_eq_true c10;clear c10
     by_cases b4:(bt a0 a1)≤57
     ·rw[if_pos b4]at H
      have d3:decide ((bt a0 a1)≤57)=true:=decide_eq_true b4;clear b4;have H':=zA H;clear H;have p7:0≤(a1:Int):=za;have q7:a1<(a0.size:Int):=za;have a6:=bt_at a0 a1;replace p7:=eq_true p7;replace q7:=eq_true q7
      go_wp2
      go_roundg k2
      case measure=>have:=a4.out;have:=a5.out;omega
      case rel=>exact⟨(wrap64 (a1+1)),zi,H',⟨by have:=a4.out;have:=a5.out;omega⟩,by repeat(first|exact Drawn0.refl _|apply Drawn0.step)⟩
     rw[if_neg b4]at H;have d3:decide ((bt a0 a1)≤57)=false:=decide_eq_false b4;clear b4
     by_cases b1:((bt a0 a1)=45)
     rotate_left
     ·rw[if_neg b1]at H
      have d4:((bt a0 a1)==45)=false:=beq_eq_false_iff_ne.mpr b1;have d5:((bt a0 a1) !=45)=true:=bne_iff_ne.mpr b1;obtain rfl:=Option.some.inj H;have p7:0≤(a1:Int):=za;have q7:a1<(a0.size:Int):=za;have a6:=bt_at a0 a1;replace p7:=eq_true p7;replace q7:=eq_true q7
      go_wp2
      go_ret;exact⟨by first|rfl|(simp;done)|(simp[*];done),by repeat(first|exact Drawn0.refl _|apply Drawn0.step)⟩
     rw[if_pos b1]at H;have d4:((bt a0 a1)==45)=true:=beq_iff_eq.mpr b1;have d5:((bt a0 a1) !=45)=false:=bne_eq_false_iff_eq.mpr b1;clear b1;have H':=zA H;clear H;have p7:0≤(a1:Int):=za;have q7:a1<(a0.size:Int):=za;have a6:=bt_at a0 a1;replace p7:=eq_true p7;replace q7:=eq_true q7
     go_wp2
     go_roundg k2
     case measure=>have:=a4.out;have:=a5.out;omega
     case rel=>exact⟨(wrap64 (a1+1)),zi,H',⟨by have:=a4.out;have:=a5.out;omega⟩,by repeat(first|exact Drawn0.refl _|apply Drawn0.step)⟩
end Go.Proofs.Ytmdmfldpohaegaa.QFnHandWho
