/- The walk of what the law FnHandWho reaches: laid by a program of this session (ownprint.py). -/
import Derived.Test.YtmdmfldpohaegaaQFnHandWhox0
import Derived.Test.YtmdmfldpohaegaaQFnHandWhox4
import Derived.Test.YtmdmfldpohaegaaQFnHandWhox6
import Derived.Test.YtmdmfldpohaegaaQFnHandWhox13
import Derived.Test.YtmdmfldpohaegaaQFnHandWhox14
import Derived.Test.YtmdmfldpohaegaaQFnHandWhox15
import Derived.Test.YtmdmfldpohaegaaQFnHandWhox16
import Derived.Test.YtmdmfldpohaegaaQFnHandWhox17
import Derived.Test.YtmdmfldpohaegaaQFnHandWhox18
import Derived.Test.YtmdmfldpohaegaaQFnHandWhox19
import Derived.Test.YtmdmfldpohaegaaQFnHandWhox20
namespace Go.Proofs.Ytmdmfldpohaegaa.QFnHandWho
open Go.RowKit Go.Proofs.YtmdmfldpohaegaaW.PrintWords Go.Proofs.YtmdmfldpohaegaaW.PrintLast Go.Proofs.YtmdmfldpohaegaaW.PrintMore Go.Proofs.Ytmdmfldpohaegaa.Z
attribute [local go_sem] max2_int min2_int max_two min_two max_three min_three max_four min_four zdn   -- for this text's walks alone
set_option linter.unusedVariables false
set_option linter.unusedSimpArgs false
mutual
def laws_FnHandWho.j0:Nat→List Int→List Int→Bool→Option (Bool)
 |0,_,_,_=>none
 |k+1,x0,x1,x21=>if x21=true then(some true)else((spec_DrawHandTubeOk.f k x0).bind fun a0=>((impl_HandTubeOk.f k a0.1 a0.2).bind fun a1=>((spec_HandTubeOk.f k a0.1 a0.2).bind fun a2=>(if(a1 !=a2)=true then(laws_FnHandWho.j1 k x1 a0.1 a0.2 true)else((impl_HandZonesOk.f k a0.1).bind fun a3=>((spec_HandZonesOk.f k a0.1).bind fun a4=>(laws_FnHandWho.j1 k x1 a0.1 a0.2 (a3 !=a4))))))))
def laws_FnHandWho.j1:Nat→List Int→List (S34)→List (S47)→Bool→Option (Bool)
 |0,_,_,_,_=>none
 |k+1,x1,x5,x6,x40=>if x40=true then(some false)else((spec_DrawHandTubeOk.f k x1).bind fun a0=>((impl_HandNear.f k x6 a0.2).bind fun a1=>((spec_HandNear.f k x6 a0.2).bind fun a2=>(if(a1 !=a2)=true then(laws_FnHandWho.j2 k x5 x6 a0.2 true)else((impl_HandNear.f k x6 a0.2).bind fun a3=>((impl_HandNear.f k a0.2 x6).bind fun a4=>(laws_FnHandWho.j2 k x5 x6 a0.2 (a3 !=a4))))))))
def laws_FnHandWho.j2:Nat→List (S34)→List (S47)→List (S47)→Bool→Option (Bool)
 |0,_,_,_,_=>none
 |k+1,x5,x6,x8,x61=>if x61=true then(some false)else((spec_HandTubeOk.f k x5 x6).bind fun a0=>(if a0=true then((spec_HandTubeOk.f k x5 x8).bind fun a1=>(laws_FnHandWho.j3 k x5 x6 x8 (!a1)))else(laws_FnHandWho.j3 k x5 x6 x8 true)))
def laws_FnHandWho.j3:Nat→List (S34)→List (S47)→List (S47)→Bool→Option (Bool)
 |0,_,_,_,_=>none
 |k+1,x5,x6,x8,x71=>if x71=true then(some true)else((impl_HandWho.f k x5 x6).bind fun a0=>(laws_FnHandWho.l0 k x5 x6 x8 false a0 0))
def laws_FnHandWho.l0:Nat→List (S34)→List (S47)→List (S47)→Bool→List ByteArray→Int→Option (Bool)
 |0,_,_,_,_,_,_=>none
 |k+1,x5,x6,x8,x9,x10,x11=>if x11<(x5.length:Int)then(if 0≤x11 then((impl_HandPartOf.f k ((rd_T34 x5 x11).f0) ((rd_T34 x5 x11).f1) ((rd_T34 x5 x11).f2) ((rd_T34 x5 x11).f3) ((rd_T34 x5 x11).f4) x6).bind fun a0=>((impl_HandPartOf.f k ((rd_T34 x5 x11).f0) ((rd_T34 x5 x11).f1) ((rd_T34 x5 x11).f2) ((rd_T34 x5 x11).f3) ((rd_T34 x5 x11).f4) x8).bind fun a1=>(if x9=true then(laws_FnHandWho.j5 k x5 x6 x8 true x10 x11 a0)else((laws_whNear.f k a0 a1).bind fun a2=>(laws_FnHandWho.j5 k x5 x6 x8 a2 x10 x11 a0)))))else(none))else((laws_whNear.f k x6 x8).bind fun a3=>(if(x9==a3)=true then((impl_HandNear.f k x6 x8).bind fun a4=>(some (a4==x9)))else(some false)))
def laws_FnHandWho.j5:Nat→List (S34)→List (S47)→List (S47)→Bool→List ByteArray→Int→List (S47)→Option (Bool)
 |0,_,_,_,_,_,_,_=>none
 |k+1,x5,x6,x8,x9,x10,x11,x12=>if 0≤x11 then(if x11<(x5.length:Int)then((spec_HandPartOf.f k ((rd_T34 x5 x11).f0) ((rd_T34 x5 x11).f1) ((rd_T34 x5 x11).f2) ((rd_T34 x5 x11).f3) ((rd_T34 x5 x11).f4) x6).bind fun a0=>((laws_whTube.f k x12 a0).bind fun a1=>(if a1=true then((laws_whIn.f k x10 ((rd_T34 x5 x11).f0)).bind fun a2=>(if(a2 !=(decide ((x12.length:Int)>0)))=true then(some false)else(laws_FnHandWho.l0 k x5 x6 x8 x9 x10 (wrap64 (x11+1)))))else(some false))))else(none))else(none)
end
def laws_FnHandWho.f (k:Nat) (l0:List Int) (l1:List Int):Option (Bool):=if(l0.length:Int)>1048576 then(laws_FnHandWho.j0 k l0 l1 true)else(laws_FnHandWho.j0 k l0 l1 (decide ((l1.length:Int)>1048576)))
set_option maxHeartbeats 8000000 in
set_option maxRecDepth 100000 in
theorem laws_FnHandWho.calls (k:Nat) (A0:Option Addr) (c0:Nat) (l0:List Int) (A1:Option Addr) (c1:Nat) (l1:List Int) (r:Bool) (w:World) (hr0:Kd.C (Kd.int .u8) w A0 l0.length l0) (hc0:l0.length≤c0) (hr1:Kd.C (Kd.int .u8) w A1 l1.length l1) (hc1:l1.length≤c1) (h:laws_FnHandWho.f k l0 l1=some r):
 Calls Try.prog 3 #[.slice A0 l0.length c0,.slice A1 l1.length c1] w fun e w'=>e= .returned (.bool r)∧Below w.heap.size w w':=by
 have v3:=Try.underlying34;have v4:=zA hr0;have v5:=zA hc0;clear hr0 hc0;have v6:=zA hr1;have v7:=zA hc1;clear hr1 hc1;have HB:=zA (Below.refl w.heap.size w);have H:=h;clear h;unfold laws_FnHandWho.f at H;have p0:=zA H;clear H
 go_enter Try.func3,Try.ntmps3
 go_upto_region 1 with(fail)
 go_cut [21] (fun v8 wc=> ∃(kq:Nat) (g3:Bool),v8= .bool g3∧Aside0 (laws_FnHandWho.j0 kq l0 l1 g3=some r)∧Aside0 (kq≤k)∧Aside0 (Below w.heap.size w wc))
 case first=>
  have H:=p0.out;clear p0
  by_cases c4:(l0.length:Int)>1048576
  ·rw[if_pos c4]at H
   have d0:decide (1048576<(l0.length:Int))=true:=decide_eq_true c4;have f5:decide (1048576<l0.length)=true:=decide_eq_true (by omega);clear c4;(first|rw[d0]|(simp only[i64_w,i32_w];rw[d0])|skip);have H':=zA H;clear H
   go_wp2
   go_meet
   case rel=>exact⟨_,(true),zi,H',⟨by first|omega|exact Nat.le_refl _⟩,⟨zs0 HB⟩⟩
  rw[if_neg c4]at H;have d0:decide (1048576<(l0.length:Int))=false:=decide_eq_false c4;have f5:decide (1048576<l0.length)=false:=decide_eq_false (by omega);clear c4;(first|rw[d0]|(simp only[i64_w,i32_w];rw[d0])|skip);have H':=zA H;clear H
  go_wp2
  go_meet
  case rel=>exact⟨_,(decide ((l1.length:Int)>1048576)),zi,H',⟨by first|omega|exact Nat.le_refl _⟩,⟨zs0 HB⟩⟩
 case rest=>
  clear p0
  try clear c1
  try clear p2
  try clear c3
  try clear c4
  try clear d0
  try clear f5
  obtain⟨kq,g3,rfl,HA,h7,HB⟩:=hcut
  cases kq with
  |zero=>exact absurd HA.out (by simp[laws_FnHandWho.j0])
  |succ d9=>
   have H:=HA.out;clear HA;simp only[laws_FnHandWho.j0]at H
   by_cases c5:g3=true
   ·subst c5
    rw[if_pos rfl]at H;obtain rfl:=Option.some.inj H
    go_wp2
    go_ret;exact⟨ze,zs0 HB⟩
   replace c5:=Bool.eq_false_iff.mpr c5;subst c5;rw[if_neg zfn]at H;replace H:=Option.bind_eq_some_iff.mp H;obtain⟨⟨a1,a2⟩,t0,H⟩:=H;replace H:((impl_HandTubeOk.f d9 a1 a2).bind fun b5=>((spec_HandTubeOk.f d9 a1 a2).bind fun b6=>(if(b5 !=b6)=true then(laws_FnHandWho.j1 d9 l1 a1 a2 true)else((impl_HandZonesOk.f d9 a1).bind fun f6=>((spec_HandZonesOk.f d9 a1).bind fun f7=>(laws_FnHandWho.j1 d9 l1 a1 a2 (f6 !=f7)))))))=some r:=H;have A6:=zA t0;clear t0;have p1:=zA H;clear H
   go_upto_region 4 with(first|((with_reducible refine gate_callee (f:=4) rfl ?_);refine zgl (N:=some 24) Try.func4 #[.slice A0 l0.length c0] ?_;(with_reducible refine(spec_DrawHandTubeOk.calls d9 _ _ l0 a1 a2 _ ?side1 ?side2 A6.out).mono ?_);(case side1=>exact zC v4 HB);(case side2=>exact v5.out);rintro e w8 ⟨k9,h3,rfl,a8,m2,hb⟩;refine⟨_,rfl,?_⟩;have a4:=zA (Kd.R_lower a8 (below_size (zs0 HB)));have a6:=zA (Kd.R_lower m2 (below_size (zs0 HB)));replace HB:=zE (zs0 HB) hb;(try clear hb);(try clear hb2);(try clear hk);(try clear hi);(try clear a8);(try clear m2)))
   (try simp only[Act.put,List.setIfInBounds_toArray,List.set_cons_zero,List.set_cons_succ])
   go_cut [40] (fun w0 wc=> ∃(kq:Nat) (g4:Bool),w0= .bool g4∧Aside0 (laws_FnHandWho.j1 kq l1 a1 a2 g4=some r)∧Aside0 (kq≤d9)∧Aside0 (Kd.R k34 34 wc w.heap.size (fun _=>True) k9 a1)∧Aside0 (Kd.R k47 47 wc w.heap.size (fun _=>True) h3 a2)∧Aside0 (Below w.heap.size w wc))
   case first=>
    have H:=p1.out;clear p1;replace H:=zbd H;obtain⟨b5,A9,H⟩:=H;replace H:=Option.bind_eq_some_iff.mp H;obtain⟨b6,m4,H⟩:=H;replace H:(if(b5 !=b6)=true then(laws_FnHandWho.j1 d9 l1 a1 a2 true)else((impl_HandZonesOk.f d9 a1).bind fun f6=>((spec_HandZonesOk.f d9 a1).bind fun f7=>(laws_FnHandWho.j1 d9 l1 a1 a2 (f6 !=f7)))))=some r:=H;have t1:=zA m4;clear m4
    by_cases e9:(b5 !=b6)=true
    ·rw[if_pos e9]at H
     have b1:(b5 !=b6)=true:=e9;(try(have d7:decide (b5=b6)=false:=by simpa using e9));(try(have d8:(b5==b6)=false:=by simpa using e9));(try(have t2: ¬(b5=b6):=by simpa using e9));clear e9;(first|rw[b1]|(simp only[i64_w,i32_w];rw[b1])|skip);have H':=zA H;clear H;obtain⟨Ao12,co12,p3⟩:=Kd.R_slice a4.out;subst p3;obtain⟨Ao13,co13,p5⟩:=Kd.R_slice a6.out;subst p5
     go_wp2_with (first|((with_reducible refine gate_callee (f:=5) rfl ?_);refine zgl (N:=some 29) Try.func5 #[.slice Ao12 a1.length co12,.slice Ao13 a2.length co13] ?_;(with_reducible refine(impl_HandTubeOk.calls d9 _ _ a1 _ _ a2 b5 _ ?side1 ?side2 ?side3 ?side4 A9.out).mono ?_);(case side1=>repeat(first|exact(Kd.R_reads' a4.out).2.2|(with_reducible refine Kd.C_alloc ?_ _)|(with_reducible refine Kd.C_drewN ?_ _)|(with_reducible refine Kd.C_drew ?_)));(case side2=>exact(Kd.R_reads' a4.out).2.1);(case side3=>repeat(first|exact(Kd.R_reads' a6.out).2.2|(with_reducible refine Kd.C_alloc ?_ _)|(with_reducible refine Kd.C_drewN ?_ _)|(with_reducible refine Kd.C_drew ?_)));(case side4=>exact(Kd.R_reads' a6.out).2.1);rintro e x9 ⟨rfl,hb⟩;refine⟨_,rfl,?_⟩;replace a4:=zA (Kd.R_below (zr a4) hb);replace a6:=zA (Kd.R_below (zr a6) hb);replace HB:=zE (zs0 HB) hb;(try clear hb);(try clear hb2);(try clear hk);(try clear hi))|((with_reducible refine gate_callee (f:=6) rfl ?_);refine zgl (N:=some 32) Try.func6 #[.slice Ao12 a1.length co12,.slice Ao13 a2.length co13] ?_;(with_reducible refine(spec_HandTubeOk.calls d9 _ _ a1 _ _ a2 b6 _ ?side1 ?side2 ?side3 ?side4 t1.out).mono ?_);(case side1=>repeat(first|exact(Kd.R_reads' a4.out).2.2|(with_reducible refine Kd.C_alloc ?_ _)|(with_reducible refine Kd.C_drewN ?_ _)|(with_reducible refine Kd.C_drew ?_)));(case side2=>exact(Kd.R_reads' a4.out).2.1);(case side3=>repeat(first|exact(Kd.R_reads' a6.out).2.2|(with_reducible refine Kd.C_alloc ?_ _)|(with_reducible refine Kd.C_drewN ?_ _)|(with_reducible refine Kd.C_drew ?_)));(case side4=>exact(Kd.R_reads' a6.out).2.1);rintro e y0 ⟨rfl,hb⟩;refine⟨_,rfl,?_⟩;replace a4:=zA (Kd.R_below (zr a4) hb);replace a6:=zA (Kd.R_below (zr a6) hb);replace HB:=zE (zs0 HB) hb;(try clear hb);(try clear hb2);(try clear hk);(try clear hi)))
     go_meet
     case rel=>exact⟨_,(true),zi,H',⟨by have:=h7.out;first|omega|exact Nat.le_refl _⟩,⟨zr a4⟩,⟨zr a6⟩,⟨zs0 HB⟩⟩
    rw[if_neg e9]at H
    have b1:(b5 !=b6)=false:=by simpa using e9
    (try(have d7:decide (b5=b6)=true:=by simpa using e9));(try(have d8:(b5==b6)=true:=by simpa using e9));clear e9;(first|rw[b1]|(simp only[i64_w,i32_w];rw[b1])|skip);replace H:=zbd H;obtain⟨f6,w1,H⟩:=H;replace H:=Option.bind_eq_some_iff.mp H;obtain⟨f7,m5,H⟩:=H;replace H:(laws_FnHandWho.j1 d9 l1 a1 a2 (f6 !=f7))=some r:=H;have w2:=zA m5;clear m5;have H':=zA H;clear H;obtain⟨Ao18,co18,p6⟩:=Kd.R_slice a4.out;subst p6;obtain⟨Ao19,co19,p7⟩:=Kd.R_slice a6.out;subst p7
    go_wp2_with (first|((with_reducible refine gate_callee (f:=5) rfl ?_);refine zgl (N:=some 29) Try.func5 #[.slice Ao18 a1.length co18,.slice Ao19 a2.length co19] ?_;(with_reducible refine(impl_HandTubeOk.calls d9 _ _ a1 _ _ a2 b5 _ ?side1 ?side2 ?side3 ?side4 A9.out).mono ?_);(case side1=>repeat(first|exact(Kd.R_reads' a4.out).2.2|(with_reducible refine Kd.C_alloc ?_ _)|(with_reducible refine Kd.C_drewN ?_ _)|(with_reducible refine Kd.C_drew ?_)));(case side2=>exact(Kd.R_reads' a4.out).2.1);(case side3=>repeat(first|exact(Kd.R_reads' a6.out).2.2|(with_reducible refine Kd.C_alloc ?_ _)|(with_reducible refine Kd.C_drewN ?_ _)|(with_reducible refine Kd.C_drew ?_)));(case side4=>exact(Kd.R_reads' a6.out).2.1);rintro e y1 ⟨rfl,hb⟩;refine⟨_,rfl,?_⟩;replace a4:=zA (Kd.R_below (zr a4) hb);replace a6:=zA (Kd.R_below (zr a6) hb);replace HB:=zE (zs0 HB) hb;(try clear hb);(try clear hb2);(try clear hk);(try clear hi))|((with_reducible refine gate_callee (f:=6) rfl ?_);refine zgl (N:=some 32) Try.func6 #[.slice Ao18 a1.length co18,.slice Ao19 a2.length co19] ?_;(with_reducible refine(spec_HandTubeOk.calls d9 _ _ a1 _ _ a2 b6 _ ?side1 ?side2 ?side3 ?side4 t1.out).mono ?_);(case side1=>repeat(first|exact(Kd.R_reads' a4.out).2.2|(with_reducible refine Kd.C_alloc ?_ _)|(with_reducible refine Kd.C_drewN ?_ _)|(with_reducible refine Kd.C_drew ?_)));(case side2=>exact(Kd.R_reads' a4.out).2.1);(case side3=>repeat(first|exact(Kd.R_reads' a6.out).2.2|(with_reducible refine Kd.C_alloc ?_ _)|(with_reducible refine Kd.C_drewN ?_ _)|(with_reducible refine Kd.C_drew ?_)));(case side4=>exact(Kd.R_reads' a6.out).2.1);rintro e y2 ⟨rfl,hb⟩;refine⟨_,rfl,?_⟩;replace a4:=zA (Kd.R_below (zr a4) hb);replace a6:=zA (Kd.R_below (zr a6) hb);replace HB:=zE (zs0 HB) hb;(try clear hb);(try clear hb2);(try clear hk);(try clear hi))|(go_at_call 7;(with_reducible refine(impl_HandZonesOk.calls d9 _ _ a1 f6 _ ?side1 ?side2 w1.out).mono ?_);(case side1=>repeat(first|exact(Kd.R_reads' a4.out).2.2|(with_reducible refine Kd.C_alloc ?_ _)|(with_reducible refine Kd.C_drewN ?_ _)|(with_reducible refine Kd.C_drew ?_)));(case side2=>exact(Kd.R_reads' a4.out).2.1);rintro e y3 ⟨rfl,hb⟩;replace a4:=zA (Kd.R_below (zr a4) hb);replace a6:=zA (Kd.R_below (zr a6) hb);replace HB:=zE (zs0 HB) hb;(try clear hb);(try clear hb2);(try clear hk);(try clear hi))|(go_at_call 8;(with_reducible refine(spec_HandZonesOk.calls d9 _ _ a1 f7 _ ?side1 ?side2 w2.out).mono ?_);(case side1=>repeat(first|exact(Kd.R_reads' a4.out).2.2|(with_reducible refine Kd.C_alloc ?_ _)|(with_reducible refine Kd.C_drewN ?_ _)|(with_reducible refine Kd.C_drew ?_)));(case side2=>exact(Kd.R_reads' a4.out).2.1);rintro e y4 ⟨rfl,hb⟩;replace a4:=zA (Kd.R_below (zr a4) hb);replace a6:=zA (Kd.R_below (zr a6) hb);replace HB:=zE (zs0 HB) hb;(try clear hb);(try clear hb2);(try clear hk);(try clear hi)))
    go_meet
    case rel=>exact⟨_,((f6 !=f7)),zi,H',⟨by have:=h7.out;first|omega|exact Nat.le_refl _⟩,⟨zr a4⟩,⟨zr a6⟩,⟨zs0 HB⟩⟩
   case rest=>
    clear p1
    try clear c1
    try clear p2
    try clear c3
    try clear c4
    try clear d0
    try clear f5
    try clear c5
    try clear c6
    try clear e9
    try clear b1
    try clear d7
    try clear d8
    try clear p2
    obtain⟨kq,g4,rfl,HA,k6,HO_5,HO_6,HB⟩:=hcut
    cases kq with
    |zero=>exact absurd HA.out (by simp[laws_FnHandWho.j1])
    |succ e0=>
     have H:=HA.out;clear HA;simp only[laws_FnHandWho.j1]at H
     by_cases k7:g4=true
     ·subst k7
      rw[if_pos rfl]at H;obtain rfl:=Option.some.inj H
      go_wp2
      go_ret;exact⟨ze,zs0 HB⟩
     replace k7:=Bool.eq_false_iff.mpr k7;subst k7;rw[if_neg zfn]at H;replace H:=Option.bind_eq_some_iff.mp H;obtain⟨⟨p8,a3⟩,m6,H⟩:=H;replace H:((impl_HandNear.f e0 a2 a3).bind fun b7=>((spec_HandNear.f e0 a2 a3).bind fun b8=>(if(b7 !=b8)=true then(laws_FnHandWho.j2 e0 a1 a2 a3 true)else((impl_HandNear.f e0 a2 a3).bind fun f8=>((impl_HandNear.f e0 a3 a2).bind fun f9=>(laws_FnHandWho.j2 e0 a1 a2 a3 (f8 !=f9)))))))=some r:=H;have w3:=zA m6;clear m6;have l2:=zA H;clear H
     go_upto_region 7 with(first|((with_reducible refine gate_callee (f:=4) rfl ?_);refine zgl (N:=some 43) Try.func4 #[.slice A1 l1.length c1] ?_;(with_reducible refine(spec_DrawHandTubeOk.calls e0 _ _ l1 p8 a3 _ ?side1 ?side2 w3.out).mono ?_);(case side1=>exact zC v6 HB);(case side2=>exact v7.out);rintro e y5 ⟨w4,h0,rfl,a8,m2,hb⟩;refine⟨_,rfl,?_⟩;have a9:=zA (Kd.R_lower (Kd.R_new' a8 (Kd.R_lt (zr HO_5))) (below_size (zs0 HB)));have a5:=zA (Kd.R_lower (Kd.R_new' m2 (Kd.R_lt (zr HO_6))) (below_size (zs0 HB)));replace HO_5:=zA (Kd.R_elder' (zr HO_5) (Kd.R_base a8) hb);replace HO_6:=zA (Kd.R_elder' (zr HO_6) (Kd.R_base m2) hb);replace HB:=zE (zs0 HB) hb;(try clear hb);(try clear hb2);(try clear hk);(try clear hi);(try clear a8);(try clear m2)))
     (try simp only[Act.put,List.setIfInBounds_toArray,List.set_cons_zero,List.set_cons_succ])
     go_cut [61] (fun w5 wc=> ∃(kq:Nat) (e1:Bool),w5= .bool e1∧Aside0 (laws_FnHandWho.j2 kq a1 a2 a3 e1=some r)∧Aside0 (kq≤e0)∧Aside0 (Kd.R k34 34 wc w.heap.size (fun _=>True) k9 a1)∧Aside0 (Kd.R k47 47 wc w.heap.size (fun k_=>some k_≠(h0:Value).ownBlock) h3 a2)∧Aside0 (Kd.R k47 47 wc w.heap.size (fun k_=>some k_≠(h3:Value).ownBlock) h0 a3)∧Aside0 (Below w.heap.size w wc))
     case first=>
      have H:=l2.out;clear l2;replace H:=zbd H;obtain⟨b7,t3,H⟩:=H;replace H:=Option.bind_eq_some_iff.mp H;obtain⟨b8,m7,H⟩:=H;replace H:(if(b7 !=b8)=true then(laws_FnHandWho.j2 e0 a1 a2 a3 true)else((impl_HandNear.f e0 a2 a3).bind fun f8=>((impl_HandNear.f e0 a3 a2).bind fun f9=>(laws_FnHandWho.j2 e0 a1 a2 a3 (f8 !=f9)))))=some r:=H;have t4:=zA m7;clear m7
      by_cases g0:(b7 !=b8)=true
      ·rw[if_pos g0]at H
       have b3:(b7 !=b8)=true:=g0;(try(have e4:decide (b7=b8)=false:=by simpa using g0));(try(have e5:(b7==b8)=false:=by simpa using g0));(try(have t5: ¬(b7=b8):=by simpa using g0));clear g0;(first|rw[b3]|(simp only[i64_w,i32_w];rw[b3])|skip);have H':=zA H;clear H;obtain⟨Ao31,co31,p9⟩:=Kd.R_slice HO_6.out;subst p9;obtain⟨Ao32,co32,q0⟩:=Kd.R_slice a5.out;subst q0
       go_wp2_with (first|((with_reducible refine gate_callee (f:=9) rfl ?_);refine zgl (N:=some 48) Try.func9 #[.slice Ao31 a2.length co31,.slice Ao32 a3.length co32] ?_;(with_reducible refine(impl_HandNear.calls e0 _ _ a2 _ _ a3 b7 _ ?side1 ?side2 ?side3 ?side4 t3.out).mono ?_);(case side1=>repeat(first|exact(Kd.R_reads' HO_6.out).2.2|(with_reducible refine Kd.C_alloc ?_ _)|(with_reducible refine Kd.C_drewN ?_ _)|(with_reducible refine Kd.C_drew ?_)));(case side2=>exact(Kd.R_reads' HO_6.out).2.1);(case side3=>repeat(first|exact(Kd.R_reads' a5.out).2.2|(with_reducible refine Kd.C_alloc ?_ _)|(with_reducible refine Kd.C_drewN ?_ _)|(with_reducible refine Kd.C_drew ?_)));(case side4=>exact(Kd.R_reads' a5.out).2.1);rintro e y6 ⟨rfl,hb⟩;refine⟨_,rfl,?_⟩;replace HO_5:=zA (Kd.R_below (zr HO_5) hb);replace HO_6:=zA (Kd.R_below (zr HO_6) hb);replace a9:=zA (Kd.R_below (zr a9) hb);replace a5:=zA (Kd.R_below (zr a5) hb);replace HB:=zE (zs0 HB) hb;(try clear hb);(try clear hb2);(try clear hk);(try clear hi))|((with_reducible refine gate_callee (f:=10) rfl ?_);refine zgl (N:=some 51) Try.func10 #[.slice Ao31 a2.length co31,.slice Ao32 a3.length co32] ?_;(with_reducible refine(spec_HandNear.calls e0 _ _ a2 _ _ a3 b8 _ ?side1 ?side2 ?side3 ?side4 t4.out).mono ?_);(case side1=>repeat(first|exact(Kd.R_reads' HO_6.out).2.2|(with_reducible refine Kd.C_alloc ?_ _)|(with_reducible refine Kd.C_drewN ?_ _)|(with_reducible refine Kd.C_drew ?_)));(case side2=>exact(Kd.R_reads' HO_6.out).2.1);(case side3=>repeat(first|exact(Kd.R_reads' a5.out).2.2|(with_reducible refine Kd.C_alloc ?_ _)|(with_reducible refine Kd.C_drewN ?_ _)|(with_reducible refine Kd.C_drew ?_)));(case side4=>exact(Kd.R_reads' a5.out).2.1);rintro e y7 ⟨rfl,hb⟩;refine⟨_,rfl,?_⟩;replace HO_5:=zA (Kd.R_below (zr HO_5) hb);replace HO_6:=zA (Kd.R_below (zr HO_6) hb);replace a9:=zA (Kd.R_below (zr a9) hb);replace a5:=zA (Kd.R_below (zr a5) hb);replace HB:=zE (zs0 HB) hb;(try clear hb);(try clear hb2);(try clear hk);(try clear hi)))
       go_meet
       case rel=>exact⟨_,(true),zi,H',⟨by have:=h7.out;have:=k6.out;first|omega|exact Nat.le_refl _⟩,⟨by(with_reducible repeat(first|apply Kd.R_alloc|apply Kd.R_drewN|apply Kd.R_drew));exact Kd.R_mono HO_5.out (fun _ hk=>trivial)⟩,⟨by(with_reducible repeat(first|apply Kd.R_alloc|apply Kd.R_drewN|apply Kd.R_drew));exact Kd.R_mono HO_6.out (fun _ hk=>hk.2)⟩,⟨by(with_reducible repeat(first|apply Kd.R_alloc|apply Kd.R_drewN|apply Kd.R_drew));exact Kd.R_mono a5.out (fun _ hk=>hk.2)⟩,⟨zs0 HB⟩⟩
      rw[if_neg g0]at H
      have b3:(b7 !=b8)=false:=by simpa using g0
      (try(have e4:decide (b7=b8)=true:=by simpa using g0));(try(have e5:(b7==b8)=true:=by simpa using g0));clear g0;(first|rw[b3]|(simp only[i64_w,i32_w];rw[b3])|skip);replace H:=zbd H;obtain⟨f8,w6,H⟩:=H;replace H:=Option.bind_eq_some_iff.mp H;obtain⟨f9,m8,H⟩:=H;replace H:(laws_FnHandWho.j2 e0 a1 a2 a3 (f8 !=f9))=some r:=H;have w7:=zA m8;clear m8;have H':=zA H;clear H;obtain⟨Ao37,co37,q1⟩:=Kd.R_slice HO_6.out;subst q1;obtain⟨Ao38,co38,q2⟩:=Kd.R_slice a5.out;subst q2
      go_wp2_with (first|((with_reducible refine gate_callee (f:=9) rfl ?_);refine zgl (N:=some 48) Try.func9 #[.slice Ao37 a2.length co37,.slice Ao38 a3.length co38] ?_;(with_reducible refine(impl_HandNear.calls e0 _ _ a2 _ _ a3 b7 _ ?side1 ?side2 ?side3 ?side4 t3.out).mono ?_);(case side1=>repeat(first|exact(Kd.R_reads' HO_6.out).2.2|(with_reducible refine Kd.C_alloc ?_ _)|(with_reducible refine Kd.C_drewN ?_ _)|(with_reducible refine Kd.C_drew ?_)));(case side2=>exact(Kd.R_reads' HO_6.out).2.1);(case side3=>repeat(first|exact(Kd.R_reads' a5.out).2.2|(with_reducible refine Kd.C_alloc ?_ _)|(with_reducible refine Kd.C_drewN ?_ _)|(with_reducible refine Kd.C_drew ?_)));(case side4=>exact(Kd.R_reads' a5.out).2.1);rintro e y8 ⟨rfl,hb⟩;refine⟨_,rfl,?_⟩;replace HO_5:=zA (Kd.R_below (zr HO_5) hb);replace HO_6:=zA (Kd.R_below (zr HO_6) hb);replace a9:=zA (Kd.R_below (zr a9) hb);replace a5:=zA (Kd.R_below (zr a5) hb);replace HB:=zE (zs0 HB) hb;(try clear hb);(try clear hb2);(try clear hk);(try clear hi))|((with_reducible refine gate_callee (f:=10) rfl ?_);refine zgl (N:=some 51) Try.func10 #[.slice Ao37 a2.length co37,.slice Ao38 a3.length co38] ?_;(with_reducible refine(spec_HandNear.calls e0 _ _ a2 _ _ a3 b8 _ ?side1 ?side2 ?side3 ?side4 t4.out).mono ?_);(case side1=>repeat(first|exact(Kd.R_reads' HO_6.out).2.2|(with_reducible refine Kd.C_alloc ?_ _)|(with_reducible refine Kd.C_drewN ?_ _)|(with_reducible refine Kd.C_drew ?_)));(case side2=>exact(Kd.R_reads' HO_6.out).2.1);(case side3=>repeat(first|exact(Kd.R_reads' a5.out).2.2|(with_reducible refine Kd.C_alloc ?_ _)|(with_reducible refine Kd.C_drewN ?_ _)|(with_reducible refine Kd.C_drew ?_)));(case side4=>exact(Kd.R_reads' a5.out).2.1);rintro e y9 ⟨rfl,hb⟩;refine⟨_,rfl,?_⟩;replace HO_5:=zA (Kd.R_below (zr HO_5) hb);replace HO_6:=zA (Kd.R_below (zr HO_6) hb);replace a9:=zA (Kd.R_below (zr a9) hb);replace a5:=zA (Kd.R_below (zr a5) hb);replace HB:=zE (zs0 HB) hb;(try clear hb);(try clear hb2);(try clear hk);(try clear hi))|(go_at_call 9;(with_reducible refine(impl_HandNear.calls e0 _ _ a2 _ _ a3 f8 _ ?side1 ?side2 ?side3 ?side4 w6.out).mono ?_);(case side1=>repeat(first|exact(Kd.R_reads' HO_6.out).2.2|(with_reducible refine Kd.C_alloc ?_ _)|(with_reducible refine Kd.C_drewN ?_ _)|(with_reducible refine Kd.C_drew ?_)));(case side2=>exact(Kd.R_reads' HO_6.out).2.1);(case side3=>repeat(first|exact(Kd.R_reads' a5.out).2.2|(with_reducible refine Kd.C_alloc ?_ _)|(with_reducible refine Kd.C_drewN ?_ _)|(with_reducible refine Kd.C_drew ?_)));(case side4=>exact(Kd.R_reads' a5.out).2.1);rintro e z0 ⟨rfl,hb⟩;replace HO_5:=zA (Kd.R_below (zr HO_5) hb);replace HO_6:=zA (Kd.R_below (zr HO_6) hb);replace a9:=zA (Kd.R_below (zr a9) hb);replace a5:=zA (Kd.R_below (zr a5) hb);replace HB:=zE (zs0 HB) hb;(try clear hb);(try clear hb2);(try clear hk);(try clear hi))|(go_at_call 9;(with_reducible refine(impl_HandNear.calls e0 _ _ a3 _ _ a2 f9 _ ?side1 ?side2 ?side3 ?side4 w7.out).mono ?_);(case side1=>repeat(first|exact(Kd.R_reads' a5.out).2.2|(with_reducible refine Kd.C_alloc ?_ _)|(with_reducible refine Kd.C_drewN ?_ _)|(with_reducible refine Kd.C_drew ?_)));(case side2=>exact(Kd.R_reads' a5.out).2.1);(case side3=>repeat(first|exact(Kd.R_reads' HO_6.out).2.2|(with_reducible refine Kd.C_alloc ?_ _)|(with_reducible refine Kd.C_drewN ?_ _)|(with_reducible refine Kd.C_drew ?_)));(case side4=>exact(Kd.R_reads' HO_6.out).2.1);rintro e z1 ⟨rfl,hb⟩;replace HO_5:=zA (Kd.R_below (zr HO_5) hb);replace HO_6:=zA (Kd.R_below (zr HO_6) hb);replace a9:=zA (Kd.R_below (zr a9) hb);replace a5:=zA (Kd.R_below (zr a5) hb);replace HB:=zE (zs0 HB) hb;(try clear hb);(try clear hb2);(try clear hk);(try clear hi)))
      go_meet
      case rel=>exact⟨_,((f8 !=f9)),zi,H',⟨by have:=h7.out;have:=k6.out;first|omega|exact Nat.le_refl _⟩,⟨by(with_reducible repeat(first|apply Kd.R_alloc|apply Kd.R_drewN|apply Kd.R_drew));exact Kd.R_mono HO_5.out (fun _ hk=>trivial)⟩,⟨by(with_reducible repeat(first|apply Kd.R_alloc|apply Kd.R_drewN|apply Kd.R_drew));exact Kd.R_mono HO_6.out (fun _ hk=>hk.2)⟩,⟨by(with_reducible repeat(first|apply Kd.R_alloc|apply Kd.R_drewN|apply Kd.R_drew));exact Kd.R_mono a5.out (fun _ hk=>hk.2)⟩,⟨zs0 HB⟩⟩
     case rest=>
      clear l2
      try clear c1
      try clear c2
      try clear p2
      try clear c3
      try clear c4
      try clear d0
      try clear f5
      try clear c5
      try clear c6
      try clear c9
      try clear c10
      try clear e9
      try clear b1
      try clear d7
      try clear d8
      try clear k7
      try clear g0
      try clear b3
      try clear e4
      try clear e5
      try clear p2
      obtain⟨kq,e1,rfl,HA,h1,HO_5,HO_6,HO_8,HB⟩:=hcut
      cases kq with
      |zero=>exact absurd HA.out (by simp[laws_FnHandWho.j2])
      |succ h8=>
       have H:=HA.out;clear HA;simp only[laws_FnHandWho.j2]at H
       by_cases l3:e1=true
       ·subst l3
        rw[if_pos rfl]at H;obtain rfl:=Option.some.inj H
        go_wp2
        go_ret;exact⟨ze,zs0 HB⟩
       replace l3:=Bool.eq_false_iff.mpr l3;subst l3;rw[if_neg zfn]at H;have l4:=zA H;clear H
       go_upto_region 9 with(fail)
       go_cut [71] (fun w9 wc=> ∃(kq:Nat) (e2:Bool),w9= .bool e2∧Aside0 (laws_FnHandWho.j3 kq a1 a2 a3 e2=some r)∧Aside0 (kq≤h8)∧Aside0 (Kd.R k34 34 wc w.heap.size (fun _=>True) k9 a1)∧Aside0 (Kd.R k47 47 wc w.heap.size (fun k_=>some k_≠(h0:Value).ownBlock) h3 a2)∧Aside0 (Kd.R k47 47 wc w.heap.size (fun k_=>some k_≠(h3:Value).ownBlock) h0 a3)∧Aside0 (Below w.heap.size w wc))
       case first=>
        have H:=l4.out;clear l4;replace H:=zbd H;obtain⟨q3,t6,H⟩:=H
        by_cases l5:q3=true
        rotate_left
        ·replace l5:=Bool.eq_false_iff.mpr l5
         subst l5;rw[if_neg zfn]at H;have H':=zA H;clear H;obtain⟨Ao53,co53,q5⟩:=Kd.R_slice HO_5.out;subst q5;obtain⟨Ao54,co54,q6⟩:=Kd.R_slice HO_6.out;subst q6
         go_wp2_with (first|((with_reducible refine gate_callee (f:=6) rfl ?_);refine zgl (N:=some 64) Try.func6 #[.slice Ao53 a1.length co53,.slice Ao54 a2.length co54] ?_;(with_reducible refine(spec_HandTubeOk.calls h8 _ _ a1 _ _ a2 false _ ?side1 ?side2 ?side3 ?side4 t6.out).mono ?_);(case side1=>repeat(first|exact(Kd.R_reads' HO_5.out).2.2|(with_reducible refine Kd.C_alloc ?_ _)|(with_reducible refine Kd.C_drewN ?_ _)|(with_reducible refine Kd.C_drew ?_)));(case side2=>exact(Kd.R_reads' HO_5.out).2.1);(case side3=>repeat(first|exact(Kd.R_reads' HO_6.out).2.2|(with_reducible refine Kd.C_alloc ?_ _)|(with_reducible refine Kd.C_drewN ?_ _)|(with_reducible refine Kd.C_drew ?_)));(case side4=>exact(Kd.R_reads' HO_6.out).2.1);rintro e z2 ⟨rfl,hb⟩;refine⟨_,rfl,?_⟩;replace HO_5:=zA (Kd.R_below (zr HO_5) hb);replace HO_6:=zA (Kd.R_below (zr HO_6) hb);replace HO_8:=zA (Kd.R_below (zr HO_8) hb);replace HB:=zE (zs0 HB) hb;(try clear hb);(try clear hb2);(try clear hk);(try clear hi)))
         go_meet
         case rel=>exact⟨_,(true),zi,H',⟨by have:=h7.out;have:=k6.out;have:=h1.out;first|omega|exact Nat.le_refl _⟩,⟨zr HO_5⟩,⟨zr HO_6⟩,⟨zr HO_8⟩,⟨zs0 HB⟩⟩
        subst l5;rw[if_pos rfl]at H;replace H:=zbd H;obtain⟨m9,x0,H⟩:=H;have H':=zA H;clear H;obtain⟨Ao48,co48,q7⟩:=Kd.R_slice HO_5.out;subst q7;obtain⟨Ao49,co49,q8⟩:=Kd.R_slice HO_6.out;subst q8
        go_wp2_with (first|((with_reducible refine gate_callee (f:=6) rfl ?_);refine zgl (N:=some 64) Try.func6 #[.slice Ao48 a1.length co48,.slice Ao49 a2.length co49] ?_;(with_reducible refine(spec_HandTubeOk.calls h8 _ _ a1 _ _ a2 true _ ?side1 ?side2 ?side3 ?side4 t6.out).mono ?_);(case side1=>repeat(first|exact(Kd.R_reads' HO_5.out).2.2|(with_reducible refine Kd.C_alloc ?_ _)|(with_reducible refine Kd.C_drewN ?_ _)|(with_reducible refine Kd.C_drew ?_)));(case side2=>exact(Kd.R_reads' HO_5.out).2.1);(case side3=>repeat(first|exact(Kd.R_reads' HO_6.out).2.2|(with_reducible refine Kd.C_alloc ?_ _)|(with_reducible refine Kd.C_drewN ?_ _)|(with_reducible refine Kd.C_drew ?_)));(case side4=>exact(Kd.R_reads' HO_6.out).2.1);rintro e z3 ⟨rfl,hb⟩;refine⟨_,rfl,?_⟩;replace HO_5:=zA (Kd.R_below (zr HO_5) hb);replace HO_6:=zA (Kd.R_below (zr HO_6) hb);replace HO_8:=zA (Kd.R_below (zr HO_8) hb);replace HB:=zE (zs0 HB) hb;(try clear hb);(try clear hb2);(try clear hk);(try clear hi);obtain⟨Ao51,co51,q9⟩:=Kd.R_slice HO_8.out;subst q9)|(go_at_call 6;(with_reducible refine(spec_HandTubeOk.calls h8 _ _ a1 _ _ a3 m9 _ ?side1 ?side2 ?side3 ?side4 x0.out).mono ?_);(case side1=>repeat(first|exact(Kd.R_reads' HO_5.out).2.2|(with_reducible refine Kd.C_alloc ?_ _)|(with_reducible refine Kd.C_drewN ?_ _)|(with_reducible refine Kd.C_drew ?_)));(case side2=>exact(Kd.R_reads' HO_5.out).2.1);(case side3=>repeat(first|exact(Kd.R_reads' HO_8.out).2.2|(with_reducible refine Kd.C_alloc ?_ _)|(with_reducible refine Kd.C_drewN ?_ _)|(with_reducible refine Kd.C_drew ?_)));(case side4=>exact(Kd.R_reads' HO_8.out).2.1);rintro e z4 ⟨rfl,hb⟩;replace HO_5:=zA (Kd.R_below (zr HO_5) hb);replace HO_6:=zA (Kd.R_below (zr HO_6) hb);replace HO_8:=zA (Kd.R_below (zr HO_8) hb);replace HB:=zE (zs0 HB) hb;(try clear hb);(try clear hb2);(try clear hk);(try clear hi)))
        go_meet
        case rel=>exact⟨_,(!m9),zi,H',⟨by have:=h7.out;have:=k6.out;have:=h1.out;first|omega|exact Nat.le_refl _⟩,⟨zr HO_5⟩,⟨zr HO_6⟩,⟨zr HO_8⟩,⟨zs0 HB⟩⟩
       case rest=>
        clear l4
        try clear c1
        try clear c2
        try clear p2
        try clear c3
        try clear c4
        try clear d0
        try clear f5
        try clear c5
        try clear c6
        try clear c9
        try clear c10
        try clear e9
        try clear b1
        try clear d7
        try clear d8
        try clear k7
        try clear g0
        try clear b3
        try clear e4
        try clear e5
        try clear l3
        try clear l5
        try clear p2
        obtain⟨kq,e2,rfl,HA,h9,HO_5,HO_6,HO_8,HB⟩:=hcut
        cases kq with
        |zero=>exact absurd HA.out (by simp[laws_FnHandWho.j3])
        |succ l6=>
         have H:=HA.out;clear HA;simp only[laws_FnHandWho.j3]at H
         by_cases m3:e2=true
         ·subst m3
          rw[if_pos rfl]at H;obtain rfl:=Option.some.inj H
          go_wp2
          go_ret;exact⟨ze,zs0 HB⟩
         replace m3:=Bool.eq_false_iff.mpr m3;subst m3;rw[if_neg zfn]at H;replace H:=zbd H;obtain⟨d1,x1,H⟩:=H;have H':=zA H;clear H;obtain⟨Ao58,co58,r0⟩:=Kd.R_slice HO_5.out;subst r0;obtain⟨Ao59,co59,r1⟩:=Kd.R_slice HO_6.out;subst r1
         go_wp2_with (first|((with_reducible refine gate_callee (f:=11) rfl ?_);refine zgl (N:=some 74) Try.func11 #[.slice Ao58 a1.length co58,.slice Ao59 a2.length co59] ?_;(with_reducible refine(impl_HandWho.calls l6 _ _ a1 _ _ a2 d1 _ ?side1 ?side2 ?side3 ?side4 x1.out).mono ?_);(case side1=>repeat(first|exact(Kd.R_reads' HO_5.out).2.2|(with_reducible refine Kd.C_alloc ?_ _)|(with_reducible refine Kd.C_drewN ?_ _)|(with_reducible refine Kd.C_drew ?_)));(case side2=>exact(Kd.R_reads' HO_5.out).2.1);(case side3=>repeat(first|exact(Kd.R_reads' HO_6.out).2.2|(with_reducible refine Kd.C_alloc ?_ _)|(with_reducible refine Kd.C_drewN ?_ _)|(with_reducible refine Kd.C_drew ?_)));(case side4=>exact(Kd.R_reads' HO_6.out).2.1);rintro e z5 ⟨n0,rfl,a8,hb⟩;refine⟨_,rfl,?_⟩;have n1:=zA (Kd.R_lower a8 (below_size (zs0 HB)));replace HO_5:=zA (Kd.R_below (zr HO_5) hb);replace HO_6:=zA (Kd.R_below (zr HO_6) hb);replace HO_8:=zA (Kd.R_below (zr HO_8) hb);replace HB:=zE (zs0 HB) hb;(try clear hb);(try clear hb2);(try clear hk);(try clear hi);(try clear a8)))
         go_loopg [9,11] l6 (fun kq v9 x2 w'=> ∃(b9:Bool) (a0:Int),v9= .bool b9∧x2= .int .i64 a0∧Aside0 (laws_FnHandWho.l0 kq a1 a2 a3 b9 d1 a0=some r)∧Aside0 (kq≤l6)∧Aside0 (Kd.R k34 34 w' w.heap.size (fun _=>True) (.slice Ao58 a1.length co58) a1)∧Aside0 (Kd.R k47 47 w' w.heap.size (fun k_=>some k_≠(h0:Value).ownBlock) (.slice Ao59 a2.length co59) a2)∧Aside0 (Kd.R k47 47 w' w.heap.size (fun k_=>some k_≠((.slice Ao59 a2.length co59):Value).ownBlock) h0 a3)∧Aside0 (Kd.R Kd.string 9 w' w.heap.size (fun _=>True) n0 d1)∧Aside0 (Below w.heap.size w w'))
         case atStart=>exact⟨(false),(0),zi,zi,H',⟨Nat.le_refl _⟩,⟨zr HO_5⟩,⟨zr HO_6⟩,⟨zr HO_8⟩,⟨zr n1⟩,⟨zs0 HB⟩⟩
         case round=>
          clear H'
          try clear c1
          try clear c2
          try clear p2
          try clear c3
          try clear c4
          try clear d0
          try clear f5
          try clear c5
          try clear c6
          try clear c9
          try clear c10
          try clear e9
          try clear b1
          try clear d7
          try clear d8
          try clear k7
          try clear g0
          try clear b3
          try clear e4
          try clear e5
          try clear l3
          try clear l5
          try clear m3
          try clear p2
          obtain⟨b9,a0,rfl,rfl,HA,o7,HO_5,HO_6,HO_8,HO_10,HB⟩:=hrel
          cases gk with
          |zero=>exact absurd HA.out (by simp[laws_FnHandWho.l0])
          |succ k5=>
           have H:=HA.out;clear HA;simp only[laws_FnHandWho.l0]at H
           by_cases l7:a0<(a1.length:Int)
           rotate_left
           ·rw[if_neg l7]at H
            have k8:decide (a0<(a1.length:Int))=false:=decide_eq_false l7;clear l7;replace H:=zbd H;obtain⟨d6,t7,H⟩:=H
            by_cases h4:(b9==d6)=true
            rotate_left
            ·rw[if_neg h4]at H
             have n2:(b9==d6)=false:=by simpa using h4
             (try(have n3:decide (b9=d6)=false:=by simpa using h4));(try(have n4:(b9==d6)=false:=by simpa using h4));(try(have t8: ¬(b9=d6):=by simpa using h4));clear h4;obtain rfl:=Option.some.inj H;obtain⟨Ao98,co98,r2⟩:=Kd.R_slice HO_8.out;subst r2
             go_wp2_with (first|((with_reducible refine gate_callee (f:=13) rfl ?_);refine zgl (N:=some 124) Try.func13 #[.slice Ao59 a2.length co59,.slice Ao98 a3.length co98] ?_;(with_reducible refine(laws_whNear.calls k5 _ _ a2 _ _ a3 d6 _ ?side1 ?side2 ?side3 ?side4 t7.out).mono ?_);(case side1=>repeat(first|exact(Kd.R_reads' HO_6.out).2.2|(with_reducible refine Kd.C_alloc ?_ _)|(with_reducible refine Kd.C_drewN ?_ _)|(with_reducible refine Kd.C_drew ?_)));(case side2=>exact(Kd.R_reads' HO_6.out).2.1);(case side3=>repeat(first|exact(Kd.R_reads' HO_8.out).2.2|(with_reducible refine Kd.C_alloc ?_ _)|(with_reducible refine Kd.C_drewN ?_ _)|(with_reducible refine Kd.C_drew ?_)));(case side4=>exact(Kd.R_reads' HO_8.out).2.1);rintro e z6 ⟨rfl,hb⟩;refine⟨_,rfl,?_⟩;replace HO_5:=zA (Kd.R_below (zr HO_5) hb);replace HO_6:=zA (Kd.R_below (zr HO_6) hb);replace HO_8:=zA (Kd.R_below (zr HO_8) hb);replace HO_10:=zA (Kd.R_below (zr HO_10) hb);replace HB:=zE (zs0 HB) hb;(try clear hb);(try clear hb2);(try clear hk);(try clear hi)))
             go_ret;exact⟨ze,zs0 HB⟩
            rw[if_pos h4]at H;have n2:(b9==d6)=true:=h4;(try(have n3:decide (b9=d6)=true:=by simpa using h4));(try(have n4:(b9==d6)=true:=by simpa using h4));clear h4;replace H:=zbd H;obtain⟨r3,x3,H⟩:=H;obtain rfl:=Option.some.inj H;obtain⟨Ao95,co95,r4⟩:=Kd.R_slice HO_8.out;subst r4
            go_wp2_with (first|((with_reducible refine gate_callee (f:=13) rfl ?_);refine zgl (N:=some 124) Try.func13 #[.slice Ao59 a2.length co59,.slice Ao95 a3.length co95] ?_;(with_reducible refine(laws_whNear.calls k5 _ _ a2 _ _ a3 d6 _ ?side1 ?side2 ?side3 ?side4 t7.out).mono ?_);(case side1=>repeat(first|exact(Kd.R_reads' HO_6.out).2.2|(with_reducible refine Kd.C_alloc ?_ _)|(with_reducible refine Kd.C_drewN ?_ _)|(with_reducible refine Kd.C_drew ?_)));(case side2=>exact(Kd.R_reads' HO_6.out).2.1);(case side3=>repeat(first|exact(Kd.R_reads' HO_8.out).2.2|(with_reducible refine Kd.C_alloc ?_ _)|(with_reducible refine Kd.C_drewN ?_ _)|(with_reducible refine Kd.C_drew ?_)));(case side4=>exact(Kd.R_reads' HO_8.out).2.1);rintro e z7 ⟨rfl,hb⟩;refine⟨_,rfl,?_⟩;replace HO_5:=zA (Kd.R_below (zr HO_5) hb);replace HO_6:=zA (Kd.R_below (zr HO_6) hb);replace HO_8:=zA (Kd.R_below (zr HO_8) hb);replace HO_10:=zA (Kd.R_below (zr HO_10) hb);replace HB:=zE (zs0 HB) hb;(try clear hb);(try clear hb2);(try clear hk);(try clear hi))|(go_at_call 9;(with_reducible refine(impl_HandNear.calls k5 _ _ a2 _ _ a3 r3 _ ?side1 ?side2 ?side3 ?side4 x3.out).mono ?_);(case side1=>repeat(first|exact(Kd.R_reads' HO_6.out).2.2|(with_reducible refine Kd.C_alloc ?_ _)|(with_reducible refine Kd.C_drewN ?_ _)|(with_reducible refine Kd.C_drew ?_)));(case side2=>exact(Kd.R_reads' HO_6.out).2.1);(case side3=>repeat(first|exact(Kd.R_reads' HO_8.out).2.2|(with_reducible refine Kd.C_alloc ?_ _)|(with_reducible refine Kd.C_drewN ?_ _)|(with_reducible refine Kd.C_drew ?_)));(case side4=>exact(Kd.R_reads' HO_8.out).2.1);rintro e z8 ⟨rfl,hb⟩;replace HO_5:=zA (Kd.R_below (zr HO_5) hb);replace HO_6:=zA (Kd.R_below (zr HO_6) hb);replace HO_8:=zA (Kd.R_below (zr HO_8) hb);replace HO_10:=zA (Kd.R_below (zr HO_10) hb);replace HB:=zE (zs0 HB) hb;(try clear hb);(try clear hb2);(try clear hk);(try clear hi)))
            go_ret;exact⟨ze,zs0 HB⟩
           rw[if_pos l7]at H;have k8:decide (a0<(a1.length:Int))=true:=decide_eq_true l7;clear l7;replace H:=zif H;obtain⟨n5,H⟩:=H;replace H:=zbd H;obtain⟨a7,x4,H⟩:=H;replace H:=Option.bind_eq_some_iff.mp H;obtain⟨l8,n6,H⟩:=H;replace H:(if b9=true then(laws_FnHandWho.j5 k5 a1 a2 a3 true d1 a0 a7)else((laws_whNear.f k5 a7 l8).bind fun i0=>(laws_FnHandWho.j5 k5 a1 a2 a3 i0 d1 a0 a7)))=some r:=H;have x5:=zA n6;clear n6;have l9:=zA H;clear H;have i1:0≤(a0:Int):=za;have i2:a0<(a1.length:Int):=za;obtain⟨d2,r5,i3,i4,i5,i6,i7⟩:=at_T34 (Kd.R_reads' HO_5.out).2.2 a0 i1 i2;cases r5;replace i1:=eq_true i1;replace i2:=eq_true i2
           go_upto_region 18 with(first|((with_reducible refine gate_callee (f:=12) rfl ?_);refine zgl (N:=some 86) Try.func12 #[.agg #[.string ((rd_T34 a1 a0).f0),.int .i64 ((rd_T34 a1 a0).f1),.int .i64 ((rd_T34 a1 a0).f2),.int .i64 ((rd_T34 a1 a0).f3),.int .i64 ((rd_T34 a1 a0).f4)],.slice Ao59 a2.length co59] ?_;(with_reducible refine(impl_HandPartOf.calls k5 ((rd_T34 a1 a0).f0) ((rd_T34 a1 a0).f1) ((rd_T34 a1 a0).f2) ((rd_T34 a1 a0).f3) ((rd_T34 a1 a0).f4) _ _ a2 a7 _ ?side1 ?side2 x4.out).mono ?_);(case side1=>repeat(first|exact(Kd.R_reads' HO_6.out).2.2|(with_reducible refine Kd.C_alloc ?_ _)|(with_reducible refine Kd.C_drewN ?_ _)|(with_reducible refine Kd.C_drew ?_)));(case side2=>exact(Kd.R_reads' HO_6.out).2.1);rintro e z9 ⟨m0,rfl,a8,hb⟩;refine⟨_,rfl,?_⟩;have b2:=zA (Kd.R_lower (Kd.R_new' (Kd.R_new' a8 (Kd.R_lt (zr HO_6))) (Kd.R_lt (zr HO_8))) (below_size (zs0 HB)));replace HO_5:=zA (Kd.R_below (zr HO_5) hb);replace HO_6:=zA (Kd.R_elder' (zr HO_6) (Kd.R_base a8) hb);replace HO_8:=zA (Kd.R_elder' (zr HO_8) (Kd.R_base a8) hb);replace HO_10:=zA (Kd.R_below (zr HO_10) hb);replace HB:=zE (zs0 HB) hb;(try clear hb);(try clear hb2);(try clear hk);(try clear hi);(try clear a8);have i8:0≤(a0:Int):=za;have i9:a0<(a1.length:Int):=za;obtain⟨n7,r6,j4,j6,j7,j8,j9⟩:=at_T34 (Kd.R_reads' HO_5.out).2.2 a0 i8 i9;obtain rfl:d2=n7:=(by injection r6);replace i8:=eq_true i8;replace i9:=eq_true i9;obtain⟨Ao67,co67,r7⟩:=Kd.R_slice HO_8.out;subst r7)|((with_reducible refine gate_callee (f:=12) rfl ?_);refine zgl (N:=some 92) Try.func12 #[.agg #[.string ((rd_T34 a1 a0).f0),.int .i64 ((rd_T34 a1 a0).f1),.int .i64 ((rd_T34 a1 a0).f2),.int .i64 ((rd_T34 a1 a0).f3),.int .i64 ((rd_T34 a1 a0).f4)],.slice Ao67 a3.length co67] ?_;(with_reducible refine(impl_HandPartOf.calls k5 ((rd_T34 a1 a0).f0) ((rd_T34 a1 a0).f1) ((rd_T34 a1 a0).f2) ((rd_T34 a1 a0).f3) ((rd_T34 a1 a0).f4) _ _ a3 l8 _ ?side1 ?side2 x5.out).mono ?_);(case side1=>repeat(first|exact(Kd.R_reads' HO_8.out).2.2|(with_reducible refine Kd.C_alloc ?_ _)|(with_reducible refine Kd.C_drewN ?_ _)|(with_reducible refine Kd.C_drew ?_)));(case side2=>exact(Kd.R_reads' HO_8.out).2.1);rintro e A2 ⟨x6,rfl,a8,hb⟩;refine⟨_,rfl,?_⟩;have e6:=zA (Kd.R_lower (Kd.R_new' (Kd.R_new' (Kd.R_new' a8 (Kd.R_lt (zr HO_6))) (Kd.R_lt (zr HO_8))) (Kd.R_lt (zr b2))) (below_size (zs0 HB)));replace HO_5:=zA (Kd.R_below (zr HO_5) hb);replace HO_6:=zA (Kd.R_elder' (zr HO_6) (Kd.R_base a8) hb);replace HO_8:=zA (Kd.R_elder' (zr HO_8) (Kd.R_base a8) hb);replace HO_10:=zA (Kd.R_below (zr HO_10) hb);replace b2:=zA (Kd.R_elder' (zr b2) (Kd.R_base a8) hb);replace HB:=zE (zs0 HB) hb;(try clear hb);(try clear hb2);(try clear hk);(try clear hi);(try clear a8)))
           (try simp only[Act.put,List.setIfInBounds_toArray,List.set_cons_zero,List.set_cons_succ])
           go_cut [9] (fun v9 wc=> ∃(kq:Nat) (e7:Bool),v9= .bool e7∧Aside0 (laws_FnHandWho.j5 kq a1 a2 a3 e7 d1 a0 a7=some r)∧Aside0 (kq≤k5)∧Aside0 (Kd.R k34 34 wc w.heap.size (fun _=>True) (.slice (some d2) a1.length co58) a1)∧Aside0 (Kd.R k47 47 wc w.heap.size (fun k_=>some k_≠((.slice Ao67 a3.length co67):Value).ownBlock∧some k_≠(m0:Value).ownBlock) (.slice Ao59 a2.length co59) a2)∧Aside0 (Kd.R k47 47 wc w.heap.size (fun k_=>some k_≠((.slice Ao59 a2.length co59):Value).ownBlock∧some k_≠(m0:Value).ownBlock) (.slice Ao67 a3.length co67) a3)∧Aside0 (Kd.R Kd.string 9 wc w.heap.size (fun _=>True) n0 d1)∧Aside0 (Kd.R k47 47 wc w.heap.size (fun k_=>some k_≠((.slice Ao59 a2.length co59):Value).ownBlock∧some k_≠((.slice Ao67 a3.length co67):Value).ownBlock) m0 a7)∧Aside0 (Below w.heap.size w wc))
           case first=>
            have H:=l9.out;clear l9
            by_cases n8:b9=true
            ·subst n8
             rw[if_pos rfl]at H;have H':=zA H;clear H
             go_wp2
             go_meet
             case rel=>exact⟨_,(true),zi,H',⟨by have:=h7.out;have:=k6.out;have:=h1.out;have:=h9.out;have:=o7.out;first|omega|exact Nat.le_refl _⟩,⟨zr HO_5⟩,⟨by(with_reducible repeat(first|apply Kd.R_alloc|apply Kd.R_drewN|apply Kd.R_drew));exact Kd.R_mono HO_6.out (fun _ hk=>⟨hk.1.1,hk.1.2⟩)⟩,⟨by(with_reducible repeat(first|apply Kd.R_alloc|apply Kd.R_drewN|apply Kd.R_drew));exact Kd.R_mono HO_8.out (fun _ hk=>⟨hk.1.1,hk.1.2⟩)⟩,⟨zr HO_10⟩,⟨by(with_reducible repeat(first|apply Kd.R_alloc|apply Kd.R_drewN|apply Kd.R_drew));exact Kd.R_mono b2.out (fun _ hk=>⟨hk.1.1.2,hk.1.2⟩)⟩,⟨zs0 HB⟩⟩
            replace n8:=Bool.eq_false_iff.mpr n8;subst n8;rw[if_neg zfn]at H;replace H:=zbd H;obtain⟨i0,x7,H⟩:=H;have H':=zA H;clear H;obtain⟨Ao71,co71,r8⟩:=Kd.R_slice b2.out;subst r8;obtain⟨Ao72,co72,r9⟩:=Kd.R_slice e6.out;subst r9
            go_wp2_with (first|(go_at_call 13;(with_reducible refine(laws_whNear.calls k5 _ _ a7 _ _ l8 i0 _ ?side1 ?side2 ?side3 ?side4 x7.out).mono ?_);(case side1=>repeat(first|exact(Kd.R_reads' b2.out).2.2|(with_reducible refine Kd.C_alloc ?_ _)|(with_reducible refine Kd.C_drewN ?_ _)|(with_reducible refine Kd.C_drew ?_)));(case side2=>exact(Kd.R_reads' b2.out).2.1);(case side3=>repeat(first|exact(Kd.R_reads' e6.out).2.2|(with_reducible refine Kd.C_alloc ?_ _)|(with_reducible refine Kd.C_drewN ?_ _)|(with_reducible refine Kd.C_drew ?_)));(case side4=>exact(Kd.R_reads' e6.out).2.1);rintro e A3 ⟨rfl,hb⟩;replace HO_5:=zA (Kd.R_below (zr HO_5) hb);replace HO_6:=zA (Kd.R_below (zr HO_6) hb);replace HO_8:=zA (Kd.R_below (zr HO_8) hb);replace HO_10:=zA (Kd.R_below (zr HO_10) hb);replace b2:=zA (Kd.R_below (zr b2) hb);replace e6:=zA (Kd.R_below (zr e6) hb);replace HB:=zE (zs0 HB) hb;(try clear hb);(try clear hb2);(try clear hk);(try clear hi)))
            go_meet
            case rel=>exact⟨_,(i0),zi,H',⟨by have:=h7.out;have:=k6.out;have:=h1.out;have:=h9.out;have:=o7.out;first|omega|exact Nat.le_refl _⟩,⟨zr HO_5⟩,⟨by(with_reducible repeat(first|apply Kd.R_alloc|apply Kd.R_drewN|apply Kd.R_drew));exact Kd.R_mono HO_6.out (fun _ hk=>⟨hk.1.1,hk.1.2⟩)⟩,⟨by(with_reducible repeat(first|apply Kd.R_alloc|apply Kd.R_drewN|apply Kd.R_drew));exact Kd.R_mono HO_8.out (fun _ hk=>⟨hk.1.1,hk.1.2⟩)⟩,⟨zr HO_10⟩,⟨by(with_reducible repeat(first|apply Kd.R_alloc|apply Kd.R_drewN|apply Kd.R_drew));exact Kd.R_mono b2.out (fun _ hk=>⟨hk.1.1.2,hk.1.2⟩)⟩,⟨zs0 HB⟩⟩
           case rest=>
            clear l9
            try clear c1
            try clear c2
            try clear p2
            try clear c3
            try clear c4
            try clear d0
            try clear f5
            try clear p4
            try clear q4
            try clear A4
            try clear c5
            try clear c6
            try clear c9
            try clear c10
            try clear e9
            try clear b1
            try clear d7
            try clear d8
            try clear A5
            try clear k7
            try clear g0
            try clear b3
            try clear e4
            try clear e5
            try clear l3
            try clear A7
            try clear A8
            try clear x8
            try clear l5
            try clear m3
            try clear l7
            try clear k8
            try clear B0
            try clear n5
            try clear n8
            try clear i3
            try clear i4
            try clear i5
            try clear i6
            try clear i7
            try clear j4
            try clear j6
            try clear j7
            try clear j8
            try clear j9
            try clear p2
            try clear i1
            try clear i8
            try clear i2
            try clear i9
            obtain⟨kq,e7,rfl,HA,n9,HO_5,HO_6,HO_8,HO_10,HO_12,HB⟩:=hcut
            cases kq with
            |zero=>exact absurd HA.out (by simp[laws_FnHandWho.j5])
            |succ d3=>
             have H:=HA.out;clear HA;simp only[laws_FnHandWho.j5]at H;replace H:=zif H;obtain⟨t9,H⟩:=H
             by_cases o8:a0<(a1.length:Int)
             rotate_left
             ·rw[if_neg o8]at H
              exact absurd H (by simp)
             rw[if_pos o8]at H;have v0:decide (a0<(a1.length:Int))=true:=decide_eq_true o8;clear o8;replace H:=zbd H;obtain⟨e3,s0,H⟩:=H;replace H:=Option.bind_eq_some_iff.mp H;obtain⟨o0,o1,H⟩:=H;replace H:(if o0=true then((laws_whIn.f d3 d1 ((rd_T34 a1 a0).f0)).bind fun b4=>(if(b4 !=(decide ((a7.length:Int)>0)))=true then(some false)else(laws_FnHandWho.l0 d3 a1 a2 a3 e7 d1 (wrap64 (a0+1)))))else(some false))=some r:=H;have s1:=zA o1;clear o1
             by_cases o9:o0=true
             rotate_left
             ·replace o9:=Bool.eq_false_iff.mpr o9
              subst o9;rw[if_neg zfn]at H;obtain rfl:=Option.some.inj H;have d4:0≤(a0:Int):=za;have d5:a0<(a1.length:Int):=za;obtain⟨e8,h5,g5,g6,g7,g8,g9⟩:=at_T34 (Kd.R_reads' HO_5.out).2.2 a0 d4 d5;obtain rfl:d2=e8:=(by injection h5);replace d4:=eq_true d4;replace d5:=eq_true d5
              go_wp2_with (first|((with_reducible refine gate_callee (f:=15) rfl ?_);refine zgl (N:=some 105) Try.func15 #[.agg #[.string ((rd_T34 a1 a0).f0),.int .i64 ((rd_T34 a1 a0).f1),.int .i64 ((rd_T34 a1 a0).f2),.int .i64 ((rd_T34 a1 a0).f3),.int .i64 ((rd_T34 a1 a0).f4)],.slice Ao59 a2.length co59] ?_;(with_reducible refine(spec_HandPartOf.calls d3 ((rd_T34 a1 a0).f0) ((rd_T34 a1 a0).f1) ((rd_T34 a1 a0).f2) ((rd_T34 a1 a0).f3) ((rd_T34 a1 a0).f4) _ _ a2 e3 _ ?side1 ?side2 s0.out).mono ?_);(case side1=>repeat(first|exact(Kd.R_reads' HO_6.out).2.2|(with_reducible refine Kd.C_alloc ?_ _)|(with_reducible refine Kd.C_drewN ?_ _)|(with_reducible refine Kd.C_drew ?_)));(case side2=>exact(Kd.R_reads' HO_6.out).2.1);rintro e B1 ⟨o2,rfl,a8,hb⟩;refine⟨_,rfl,?_⟩;have b0:=zA (Kd.R_lower (Kd.R_new' (Kd.R_new' (Kd.R_new' a8 (Kd.R_lt (zr HO_6))) (Kd.R_lt (zr HO_8))) (Kd.R_lt (zr HO_12))) (below_size (zs0 HB)));replace HO_5:=zA (Kd.R_below (zr HO_5) hb);replace HO_6:=zA (Kd.R_elder' (zr HO_6) (Kd.R_base a8) hb);replace HO_8:=zA (Kd.R_elder' (zr HO_8) (Kd.R_base a8) hb);replace HO_10:=zA (Kd.R_below (zr HO_10) hb);replace HO_12:=zA (Kd.R_elder' (zr HO_12) (Kd.R_base a8) hb);replace HB:=zE (zs0 HB) hb;(try clear hb);(try clear hb2);(try clear hk);(try clear hi);(try clear a8);obtain⟨Ao90,co90,s2⟩:=Kd.R_slice HO_12.out;subst s2;obtain⟨Ao91,co91,s3⟩:=Kd.R_slice b0.out;subst s3)|((with_reducible refine gate_callee (f:=14) rfl ?_);refine zgl (N:=some 106) Try.func14 #[.slice Ao90 a7.length co90,.slice Ao91 e3.length co91] ?_;(with_reducible refine(laws_whTube.calls d3 _ _ a7 _ _ e3 false _ ?side1 ?side2 ?side3 ?side4 s1.out).mono ?_);(case side1=>repeat(first|exact(Kd.R_reads' HO_12.out).2.2|(with_reducible refine Kd.C_alloc ?_ _)|(with_reducible refine Kd.C_drewN ?_ _)|(with_reducible refine Kd.C_drew ?_)));(case side2=>exact(Kd.R_reads' HO_12.out).2.1);(case side3=>repeat(first|exact(Kd.R_reads' b0.out).2.2|(with_reducible refine Kd.C_alloc ?_ _)|(with_reducible refine Kd.C_drewN ?_ _)|(with_reducible refine Kd.C_drew ?_)));(case side4=>exact(Kd.R_reads' b0.out).2.1);rintro e w' ⟨rfl,⟨nd,rfl⟩⟩;refine⟨_,rfl,?_⟩))
              go_ret;exact⟨ze,zs0 HB⟩
             subst o9;rw[if_pos rfl]at H;replace H:=zbd H;obtain⟨b4,v1,H⟩:=H
             by_cases h2:(b4 !=(decide ((a7.length:Int)>0)))=true
             ·rw[if_pos h2]at H
              have o3:(b4 !=(decide ((a7.length:Int)>0)))=true:=h2;(try(have o4:decide (b4=(decide ((a7.length:Int)>0)))=false:=by simpa using h2));(try(have o5:(b4==(decide ((a7.length:Int)>0)))=false:=by simpa using h2));(try(have o6:(b4==decide (0<a7.length))=false:=by simpa using h2));(try(have v2: ¬(b4=(decide ((a7.length:Int)>0))):=by simpa using h2));clear h2;obtain rfl:=Option.some.inj H;have d4:0≤(a0:Int):=za;have d5:a0<(a1.length:Int):=za;obtain⟨e8,h5,g5,g6,g7,g8,g9⟩:=at_T34 (Kd.R_reads' HO_5.out).2.2 a0 d4 d5;obtain rfl:d2=e8:=(by injection h5);replace d4:=eq_true d4;replace d5:=eq_true d5
              go_wp2_with (first|((with_reducible refine gate_callee (f:=15) rfl ?_);refine zgl (N:=some 105) Try.func15 #[.agg #[.string ((rd_T34 a1 a0).f0),.int .i64 ((rd_T34 a1 a0).f1),.int .i64 ((rd_T34 a1 a0).f2),.int .i64 ((rd_T34 a1 a0).f3),.int .i64 ((rd_T34 a1 a0).f4)],.slice Ao59 a2.length co59] ?_;(with_reducible refine(spec_HandPartOf.calls d3 ((rd_T34 a1 a0).f0) ((rd_T34 a1 a0).f1) ((rd_T34 a1 a0).f2) ((rd_T34 a1 a0).f3) ((rd_T34 a1 a0).f4) _ _ a2 e3 _ ?side1 ?side2 s0.out).mono ?_);(case side1=>repeat(first|exact(Kd.R_reads' HO_6.out).2.2|(with_reducible refine Kd.C_alloc ?_ _)|(with_reducible refine Kd.C_drewN ?_ _)|(with_reducible refine Kd.C_drew ?_)));(case side2=>exact(Kd.R_reads' HO_6.out).2.1);rintro e B3 ⟨o2,rfl,a8,hb⟩;refine⟨_,rfl,?_⟩;have b0:=zA (Kd.R_lower (Kd.R_new' (Kd.R_new' (Kd.R_new' a8 (Kd.R_lt (zr HO_6))) (Kd.R_lt (zr HO_8))) (Kd.R_lt (zr HO_12))) (below_size (zs0 HB)));replace HO_5:=zA (Kd.R_below (zr HO_5) hb);replace HO_6:=zA (Kd.R_elder' (zr HO_6) (Kd.R_base a8) hb);replace HO_8:=zA (Kd.R_elder' (zr HO_8) (Kd.R_base a8) hb);replace HO_10:=zA (Kd.R_below (zr HO_10) hb);replace HO_12:=zA (Kd.R_elder' (zr HO_12) (Kd.R_base a8) hb);replace HB:=zE (zs0 HB) hb;(try clear hb);(try clear hb2);(try clear hk);(try clear hi);(try clear a8);obtain⟨Ao82,co82,s4⟩:=Kd.R_slice HO_12.out;subst s4;obtain⟨Ao83,co83,s5⟩:=Kd.R_slice b0.out;subst s5)|((with_reducible refine gate_callee (f:=14) rfl ?_);refine zgl (N:=some 106) Try.func14 #[.slice Ao82 a7.length co82,.slice Ao83 e3.length co83] ?_;(with_reducible refine(laws_whTube.calls d3 _ _ a7 _ _ e3 true _ ?side1 ?side2 ?side3 ?side4 s1.out).mono ?_);(case side1=>repeat(first|exact(Kd.R_reads' HO_12.out).2.2|(with_reducible refine Kd.C_alloc ?_ _)|(with_reducible refine Kd.C_drewN ?_ _)|(with_reducible refine Kd.C_drew ?_)));(case side2=>exact(Kd.R_reads' HO_12.out).2.1);(case side3=>repeat(first|exact(Kd.R_reads' b0.out).2.2|(with_reducible refine Kd.C_alloc ?_ _)|(with_reducible refine Kd.C_drewN ?_ _)|(with_reducible refine Kd.C_drew ?_)));(case side4=>exact(Kd.R_reads' b0.out).2.1);rintro e w' ⟨rfl,⟨nd,rfl⟩⟩;refine⟨_,rfl,?_⟩;have g1:0≤(a0:Int):=za;have g2:a0<(a1.length:Int):=za;obtain⟨h6,m1,k0,k1,k2,k3,k4⟩:=at_T34 (Kd.R_reads' HO_5.out).2.2 a0 g1 g2;obtain rfl:d2=h6:=(by injection m1);replace g1:=eq_true g1;replace g2:=eq_true g2;obtain⟨Ao84,co84,s6⟩:=Kd.R_slice HO_10.out;subst s6)|(go_at_call 16;(with_reducible refine(laws_whIn.calls d3 _ _ d1 ((rd_T34 a1 a0).f0) b4 _ ?side1 ?side2 v1.out).mono ?_);(case side1=>repeat(first|exact(Kd.R_reads' HO_10.out).2.2|(with_reducible refine Kd.C_alloc ?_ _)|(with_reducible refine Kd.C_drewN ?_ _)|(with_reducible refine Kd.C_drew ?_)));(case side2=>exact(Kd.R_reads' HO_10.out).2.1);rintro e w' ⟨rfl,⟨nd,rfl⟩⟩))
              go_ret;exact⟨ze,zs0 HB⟩
             rw[if_neg h2]at H
             have o3:(b4 !=(decide ((a7.length:Int)>0)))=false:=by simpa using h2
             (try(have o4:decide (b4=(decide ((a7.length:Int)>0)))=true:=by simpa using h2));(try(have o5:(b4==(decide ((a7.length:Int)>0)))=true:=by simpa using h2));(try(have o6:(b4==decide (0<a7.length))=true:=by simpa using h2));clear h2;have H':=zA H;clear H;have d4:0≤(a0:Int):=za;have d5:a0<(a1.length:Int):=za;obtain⟨e8,h5,g5,g6,g7,g8,g9⟩:=at_T34 (Kd.R_reads' HO_5.out).2.2 a0 d4 d5;obtain rfl:d2=e8:=(by injection h5);replace d4:=eq_true d4;replace d5:=eq_true d5
             go_wp2_with (first|((with_reducible refine gate_callee (f:=15) rfl ?_);refine zgl (N:=some 105) Try.func15 #[.agg #[.string ((rd_T34 a1 a0).f0),.int .i64 ((rd_T34 a1 a0).f1),.int .i64 ((rd_T34 a1 a0).f2),.int .i64 ((rd_T34 a1 a0).f3),.int .i64 ((rd_T34 a1 a0).f4)],.slice Ao59 a2.length co59] ?_;(with_reducible refine(spec_HandPartOf.calls d3 ((rd_T34 a1 a0).f0) ((rd_T34 a1 a0).f1) ((rd_T34 a1 a0).f2) ((rd_T34 a1 a0).f3) ((rd_T34 a1 a0).f4) _ _ a2 e3 _ ?side1 ?side2 s0.out).mono ?_);(case side1=>repeat(first|exact(Kd.R_reads' HO_6.out).2.2|(with_reducible refine Kd.C_alloc ?_ _)|(with_reducible refine Kd.C_drewN ?_ _)|(with_reducible refine Kd.C_drew ?_)));(case side2=>exact(Kd.R_reads' HO_6.out).2.1);rintro e B4 ⟨o2,rfl,a8,hb⟩;refine⟨_,rfl,?_⟩;have b0:=zA (Kd.R_lower (Kd.R_new' (Kd.R_new' (Kd.R_new' a8 (Kd.R_lt (zr HO_6))) (Kd.R_lt (zr HO_8))) (Kd.R_lt (zr HO_12))) (below_size (zs0 HB)));replace HO_5:=zA (Kd.R_below (zr HO_5) hb);replace HO_6:=zA (Kd.R_elder' (zr HO_6) (Kd.R_base a8) hb);replace HO_8:=zA (Kd.R_elder' (zr HO_8) (Kd.R_base a8) hb);replace HO_10:=zA (Kd.R_below (zr HO_10) hb);replace HO_12:=zA (Kd.R_elder' (zr HO_12) (Kd.R_base a8) hb);replace HB:=zE (zs0 HB) hb;(try clear hb);(try clear hb2);(try clear hk);(try clear hi);(try clear a8);obtain⟨Ao86,co86,s7⟩:=Kd.R_slice HO_12.out;subst s7;obtain⟨Ao87,co87,s8⟩:=Kd.R_slice b0.out;subst s8)|((with_reducible refine gate_callee (f:=14) rfl ?_);refine zgl (N:=some 106) Try.func14 #[.slice Ao86 a7.length co86,.slice Ao87 e3.length co87] ?_;(with_reducible refine(laws_whTube.calls d3 _ _ a7 _ _ e3 true _ ?side1 ?side2 ?side3 ?side4 s1.out).mono ?_);(case side1=>repeat(first|exact(Kd.R_reads' HO_12.out).2.2|(with_reducible refine Kd.C_alloc ?_ _)|(with_reducible refine Kd.C_drewN ?_ _)|(with_reducible refine Kd.C_drew ?_)));(case side2=>exact(Kd.R_reads' HO_12.out).2.1);(case side3=>repeat(first|exact(Kd.R_reads' b0.out).2.2|(with_reducible refine Kd.C_alloc ?_ _)|(with_reducible refine Kd.C_drewN ?_ _)|(with_reducible refine Kd.C_drew ?_)));(case side4=>exact(Kd.R_reads' b0.out).2.1);rintro e w' ⟨rfl,⟨nd,rfl⟩⟩;refine⟨_,rfl,?_⟩;have g1:0≤(a0:Int):=za;have g2:a0<(a1.length:Int):=za;obtain⟨h6,m1,k0,k1,k2,k3,k4⟩:=at_T34 (Kd.R_reads' HO_5.out).2.2 a0 g1 g2;obtain rfl:d2=h6:=(by injection m1);replace g1:=eq_true g1;replace g2:=eq_true g2;obtain⟨Ao88,co88,s9⟩:=Kd.R_slice HO_10.out;subst s9)|(go_at_call 16;(with_reducible refine(laws_whIn.calls d3 _ _ d1 ((rd_T34 a1 a0).f0) b4 _ ?side1 ?side2 v1.out).mono ?_);(case side1=>repeat(first|exact(Kd.R_reads' HO_10.out).2.2|(with_reducible refine Kd.C_alloc ?_ _)|(with_reducible refine Kd.C_drewN ?_ _)|(with_reducible refine Kd.C_drew ?_)));(case side2=>exact(Kd.R_reads' HO_10.out).2.1);rintro e w' ⟨rfl,⟨nd,rfl⟩⟩))
             go_roundg d3
             case measure=>have:=h7.out;have:=k6.out;have:=h1.out;have:=h9.out;have:=o7.out;have:=n9.out;omega
             case rel=>exact⟨(e7),(wrap64 (a0+1)),zi,zi,H',⟨by have:=h7.out;have:=k6.out;have:=h1.out;have:=h9.out;have:=o7.out;have:=n9.out;omega⟩,⟨zr HO_5⟩,⟨by(with_reducible repeat(first|apply Kd.R_alloc|apply Kd.R_drewN|apply Kd.R_drew));exact Kd.R_mono HO_6.out (fun _ hk=>hk.1.1)⟩,⟨by(with_reducible repeat(first|apply Kd.R_alloc|apply Kd.R_drewN|apply Kd.R_drew));exact Kd.R_mono HO_8.out (fun _ hk=>hk.1.1)⟩,⟨zr HO_10⟩,⟨zs0 HB⟩⟩
/-- THE ONE PURE STATEMENT of laws_FnHandWho: yours. -/
def laws_FnHandWho.Pure:Prop:= ∀(l0:List Int) (l1:List Int),l0.length≤maxLen→l0.length*1≤140737488351232→(∀x∈l0,(Lit.int .u8 x).wf=true)→l1.length≤maxLen→l1.length*1≤140737488351232→(∀x∈l1,(Lit.int .u8 x).wf=true)→ ∃k,laws_FnHandWho.f k l0 l1=some true
theorem laws_FnHandWho.walk (P:laws_FnHandWho.Pure) (a0:Option Addr) (len0 cap0:Nat) (z0:List Int) (a1:Option Addr) (len1 cap1:Nat) (z1:List Int) (w:World) (w0:(a0=none∧len0=0∧cap0=0∧z0=[])∨ ∃x,a0=some x∧len0≤cap0∧cap0≤maxLen∧z0.length=cap0∧(∀i,i<z0.length→w.cell? (x.add i)=some (.int .u8 (z0.getD i 0)))∧ ∀n∈z0,(Lit.int .u8 n).wf=true) (y0:len0*1≤140737488351232) (w1:(a1=none∧len1=0∧cap1=0∧z1=[])∨ ∃x,a1=some x∧len1≤cap1∧cap1≤maxLen∧z1.length=cap1∧(∀i,i<z1.length→w.cell? (x.add i)=some (.int .u8 (z1.getD i 0)))∧ ∀n∈z1,(Lit.int .u8 n).wf=true) (y1:len1*1≤140737488351232):
 Calls Try.prog 3 #[.slice a0 len0 cap0,.slice a1 len1 cap1] w fun e w'=>e= .returned (.bool true)∧Below w.heap.size w w':=by
 obtain⟨l0,rfl,hr0,hm0,hw0,hc0⟩:=ReadsInt.ofRowC w0;obtain⟨l1,rfl,hr1,hm1,hw1,hc1⟩:=ReadsInt.ofRowC w1;obtain⟨k,h⟩:=P l0 l1 hm0 y0 hw0 hm1 y1 hw1;refine(laws_FnHandWho.calls k _ _ l0 _ _ l1 true w (Kd.C_of_reads (d:=(0:Int)) (h1:=fun _=>rfl) hr0) hc0 (Kd.C_of_reads (d:=(0:Int)) (h1:=fun _=>rfl) hr1) hc1 h).mono ?_;rintro e w' ⟨rfl,hd⟩;exact⟨rfl,hd⟩
end Go.Proofs.Ytmdmfldpohaegaa.QFnHandWho
