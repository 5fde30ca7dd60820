/- The walk of what the law FnFlyNext reaches: laid by a program of this session (ownprint.py). -/
import Derived.Test.YtkecbmgdmkmfgaaQFnFlyNextx0
import Derived.Test.YtkecbmgdmkmfgaaQFnFlyNextx2
namespace Go.Proofs.Ytkecbmgdmkmfgaa.QFnFlyNext
open Go.RowKit Go.Proofs.YtkecbmgdmkmfgaaW.PrintWords Go.Proofs.YtkecbmgdmkmfgaaW.PrintLast Go.Proofs.YtkecbmgdmkmfgaaW.PrintMore Go.Proofs.Ytkecbmgdmkmfgaa.Z
attribute [local go_sem] max2_int min2_int max_two min_two max_three min_three max_four min_four zdn   -- for this text's walks alone
set_option linter.unusedVariables false
set_option linter.unusedSimpArgs false
def spec_l30Step.l0:Nat→Int→Int→Int→List Int→Int→Option (Int×Int×Int)
 |0,_,_,_,_,_=>none
 |k+1,x1,x2,x8,a1,a3=>if x8<20 then((spec_l21Rd_pick.f k a1 a3 3).bind fun a2=>((spec_l21Rd_pick.f k a1 a2.2 3).bind fun a0=>(if(wrap64 ((wrap64 (x1+a2.1))-1))=x1 then(if(wrap64 ((wrap64 (x2+a0.1))-1))=x2 then(spec_l30Step.l0 k x1 x2 (wrap64 (x8+1)) a1 a0.2)else((spec_l21In.f (wrap64 ((wrap64 (x1+a2.1))-1)) 0 15).bind fun a4=>(if a4=true then((spec_l21In.f (wrap64 ((wrap64 (x2+a0.1))-1)) 0 15).bind fun a5=>(if a5=true then(some (wrap64 ((wrap64 (x1+a2.1))-1),wrap64 ((wrap64 (x2+a0.1))-1),a0.2))else(spec_l30Step.l0 k x1 x2 (wrap64 (x8+1)) a1 a0.2)))else(spec_l30Step.l0 k x1 x2 (wrap64 (x8+1)) a1 a0.2))))else((spec_l21In.f (wrap64 ((wrap64 (x1+a2.1))-1)) 0 15).bind fun a6=>(if a6=true then((spec_l21In.f (wrap64 ((wrap64 (x2+a0.1))-1)) 0 15).bind fun a7=>(if a7=true then(some (wrap64 ((wrap64 (x1+a2.1))-1),wrap64 ((wrap64 (x2+a0.1))-1),a0.2))else(spec_l30Step.l0 k x1 x2 (wrap64 (x8+1)) a1 a0.2)))else(spec_l30Step.l0 k x1 x2 (wrap64 (x8+1)) a1 a0.2))))))else(if x1>0 then(some (wrap64 (x1-1),x2,a3))else(some (wrap64 (x1+1),x2,a3)))
def spec_l30Step.f (k:Nat) (s0_0:List Int) (s0_1:Int) (a1:Int) (a2:Int):Option (Int×Int×Int):=spec_l30Step.l0 k a1 a2 0 s0_0 s0_1
set_option maxHeartbeats 8000000 in
set_option maxRecDepth 100000 in
theorem spec_l30Step.calls (k:Nat) (g:Nat) (s0_0:List Int) (s0_1:Int) (a1:Int) (a2:Int) (r1:Int) (r2:Int) (r3:Int) (w0 w:World) (hI:IsS56 w0 w g s0_0 s0_1) (hB:Below w0.heap.size w0 w) (h:spec_l30Step.f k s0_0 s0_1 a1 a2=some (r1,r2,r3)):
 Calls Try.prog 42 #[.pointer (some ⟨g,0,none⟩),.int .i64 a1,.int .i64 a2] w fun e w'=>e= .returned (.tuple #[.int .i64 r1,.int .i64 r2])∧IsS56 w0 w' g s0_0 r3∧Below w0.heap.size w0 w'∧KeepBut w w' g none:=by
 have a0:=zA hI;have HK:=zA (KeepBut.refl w g none);have HL:=zA hB.size;clear hI;have e0:=zA hB.size;have HB:=zA hB;clear hB;have H:=h;clear h;unfold spec_l30Step.f at H;have H':=zA H;clear H
 go_enter Try.func42,Try.ntmps42
 go_wp2
 go_loopg [8] k (fun kq v8 w'=> ∃(a5:Int) (a4:Int),v8= .int .i64 a5∧Aside0 (spec_l30Step.l0 kq a1 a2 a5 s0_0 a4=some (r1,r2,r3))∧Aside0 (kq≤k)∧Aside0 (IsS56 w0 w' g s0_0 a4)∧Aside0 (KeepBut w w' g none)∧Aside0 (Below w0.heap.size w0 w'))
 case atStart=>exact⟨(0),(s0_1),zi,H',⟨Nat.le_refl _⟩,⟨zI0 a0⟩,⟨zK0 HK⟩,⟨zB0 a0 HB⟩⟩
 case round=>
  clear H'
  obtain⟨a5,a4,rfl,HA,b4,a0,HK,HB⟩:=hrel
  cases gk with
  |zero=>exact absurd HA.out (by simp[spec_l30Step.l0])
  |succ k1=>
   have H:=HA.out;clear HA;simp only[spec_l30Step.l0]at H
   by_cases c4:a5<20
   rotate_left
   ·rw[if_neg c4]at H
    have c1:decide (a5<20)=false:=decide_eq_false c4;clear c4
    by_cases b5:a1>0
    ·rw[if_pos b5]at H
     have b6:decide (0<a1)=true:=decide_eq_true b5;clear b5;simp only[Option.some.injEq,Prod.mk.injEq]at H;obtain⟨rfl,rfl,rfl⟩:=H
     go_wp2
     go_ret2
     exact⟨ze,zI0 a0,zB0 a0 HB,zK0 HK⟩
    rw[if_neg b5]at H;have b6:decide (0<a1)=false:=decide_eq_false b5;clear b5;simp only[Option.some.injEq,Prod.mk.injEq]at H;obtain⟨rfl,rfl,rfl⟩:=H
    go_wp2
    go_ret2
    exact⟨ze,zI0 a0,zB0 a0 HB,zK0 HK⟩
   rw[if_pos c4]at H;have c1:decide (a5<20)=true:=decide_eq_true c4;clear c4;replace H:=Option.bind_eq_some_iff.mp H;obtain⟨⟨a3,a9⟩,d6,H⟩:=H;replace H:((spec_l21Rd_pick.f k1 s0_0 a9 3).bind fun a8=>(if(wrap64 ((wrap64 (a1+a3))-1))=a1 then(if(wrap64 ((wrap64 (a2+a8.1))-1))=a2 then(spec_l30Step.l0 k1 a1 a2 (wrap64 (a5+1)) s0_0 a8.2)else((spec_l21In.f (wrap64 ((wrap64 (a1+a3))-1)) 0 15).bind fun b0=>(if b0=true then((spec_l21In.f (wrap64 ((wrap64 (a2+a8.1))-1)) 0 15).bind fun b1=>(if b1=true then(some (wrap64 ((wrap64 (a1+a3))-1),wrap64 ((wrap64 (a2+a8.1))-1),a8.2))else(spec_l30Step.l0 k1 a1 a2 (wrap64 (a5+1)) s0_0 a8.2)))else(spec_l30Step.l0 k1 a1 a2 (wrap64 (a5+1)) s0_0 a8.2))))else((spec_l21In.f (wrap64 ((wrap64 (a1+a3))-1)) 0 15).bind fun b2=>(if b2=true then((spec_l21In.f (wrap64 ((wrap64 (a2+a8.1))-1)) 0 15).bind fun b3=>(if b3=true then(some (wrap64 ((wrap64 (a1+a3))-1),wrap64 ((wrap64 (a2+a8.1))-1),a8.2))else(spec_l30Step.l0 k1 a1 a2 (wrap64 (a5+1)) s0_0 a8.2)))else(spec_l30Step.l0 k1 a1 a2 (wrap64 (a5+1)) s0_0 a8.2)))))=some (r1,r2,r3):=H;have A5:=zA d6;clear d6;replace H:=Option.bind_eq_some_iff.mp H;obtain⟨⟨a6,a7⟩,d7,H⟩:=H;replace H:(if(wrap64 ((wrap64 (a1+a3))-1))=a1 then(if(wrap64 ((wrap64 (a2+a6))-1))=a2 then(spec_l30Step.l0 k1 a1 a2 (wrap64 (a5+1)) s0_0 a7)else((spec_l21In.f (wrap64 ((wrap64 (a1+a3))-1)) 0 15).bind fun b0=>(if b0=true then((spec_l21In.f (wrap64 ((wrap64 (a2+a6))-1)) 0 15).bind fun b1=>(if b1=true then(some (wrap64 ((wrap64 (a1+a3))-1),wrap64 ((wrap64 (a2+a6))-1),a7))else(spec_l30Step.l0 k1 a1 a2 (wrap64 (a5+1)) s0_0 a7)))else(spec_l30Step.l0 k1 a1 a2 (wrap64 (a5+1)) s0_0 a7))))else((spec_l21In.f (wrap64 ((wrap64 (a1+a3))-1)) 0 15).bind fun b2=>(if b2=true then((spec_l21In.f (wrap64 ((wrap64 (a2+a6))-1)) 0 15).bind fun b3=>(if b3=true then(some (wrap64 ((wrap64 (a1+a3))-1),wrap64 ((wrap64 (a2+a6))-1),a7))else(spec_l30Step.l0 k1 a1 a2 (wrap64 (a5+1)) s0_0 a7)))else(spec_l30Step.l0 k1 a1 a2 (wrap64 (a5+1)) s0_0 a7))))=some (r1,r2,r3):=H;have A6:=zA d7;clear d7
   by_cases c7:(wrap64 ((wrap64 (a1+a3))-1))=a1
   rotate_left
   ·rw[if_neg c7]at H
    have d0:((wrap64 ((wrap64 (a1+a3))-1))==a1)=false:=beq_eq_false_iff_ne.mpr c7;have d1:((wrap64 ((wrap64 (a1+a3))-1)) !=a1)=true:=bne_iff_ne.mpr c7;replace H:=zbd H;obtain⟨b2,d2,H⟩:=H
    by_cases b7:b2=true
    rotate_left
    ·replace b7:=Bool.eq_false_iff.mpr b7
     subst b7;rw[if_neg zfn]at H;have H':=zA H;clear H
     go_wp2_with (first|((with_reducible refine gate_callee (f:=14) rfl ?_);refine zgl (N:=some 17) Try.func14 #[.pointer (some ⟨g,0,none⟩),.int .i64 3] ?_;(with_reducible refine(spec_l21Rd_pick.calls k1 g s0_0 a4 3 a3 a9 w0 _ ?side1 ?side2 A5.out).mono ?_);(case side1=>exact zI0 a0);(case side2=>exact zB0 a0 HB);rintro e e1 ⟨rfl,hi,hb,hk⟩;refine⟨_,rfl,?_⟩;replace HK:=zKk (zK0 HK) hk;replace HB:=zA (hb);replace a0:=zA (hi);(try clear hb hk hi))|((with_reducible refine gate_callee (f:=14) rfl ?_);refine zgl (N:=some 22) Try.func14 #[.pointer (some ⟨g,0,none⟩),.int .i64 3] ?_;(with_reducible refine(spec_l21Rd_pick.calls k1 g s0_0 a9 3 a6 a7 w0 _ ?side1 ?side2 A6.out).mono ?_);(case side1=>exact zI0 a0);(case side2=>exact zB0 a0 HB);rintro e e2 ⟨rfl,hi,hb,hk⟩;refine⟨_,rfl,?_⟩;replace HK:=zKk (zK0 HK) hk;replace HB:=zA (hb);replace a0:=zA (hi);(try clear hb hk hi))|(go_at_call 33;(with_reducible refine(spec_l21In.calls (wrap64 ((wrap64 (a1+a3))-1)) 0 15 false _ d2.out).mono ?_);rintro e w' ⟨rfl,⟨nd,rfl⟩⟩))
     go_roundg k1
     case measure=>have:=b4.out;omega
     case rel=>exact⟨(wrap64 (a5+1)),(a7),zi,H',⟨by have:=b4.out;omega⟩,⟨zI0 a0⟩,⟨zK0 HK⟩,⟨zB0 a0 HB⟩⟩
    subst b7;rw[if_pos rfl]at H;replace H:=zbd H;obtain⟨b3,d8,H⟩:=H
    by_cases b8:b3=true
    ·subst b8
     rw[if_pos rfl]at H;simp only[Option.some.injEq,Prod.mk.injEq]at H;obtain⟨rfl,rfl,rfl⟩:=H
     go_wp2_with (first|((with_reducible refine gate_callee (f:=14) rfl ?_);refine zgl (N:=some 17) Try.func14 #[.pointer (some ⟨g,0,none⟩),.int .i64 3] ?_;(with_reducible refine(spec_l21Rd_pick.calls k1 g s0_0 a4 3 a3 a9 w0 _ ?side1 ?side2 A5.out).mono ?_);(case side1=>exact zI0 a0);(case side2=>exact zB0 a0 HB);rintro e e3 ⟨rfl,hi,hb,hk⟩;refine⟨_,rfl,?_⟩;replace HK:=zKk (zK0 HK) hk;replace HB:=zA (hb);replace a0:=zA (hi);(try clear hb hk hi))|((with_reducible refine gate_callee (f:=14) rfl ?_);refine zgl (N:=some 22) Try.func14 #[.pointer (some ⟨g,0,none⟩),.int .i64 3] ?_;(with_reducible refine(spec_l21Rd_pick.calls k1 g s0_0 a9 3 a6 a7 w0 _ ?side1 ?side2 A6.out).mono ?_);(case side1=>exact zI0 a0);(case side2=>exact zB0 a0 HB);rintro e e4 ⟨rfl,hi,hb,hk⟩;refine⟨_,rfl,?_⟩;replace HK:=zKk (zK0 HK) hk;replace HB:=zA (hb);replace a0:=zA (hi);(try clear hb hk hi))|(go_at_call 33;(with_reducible refine(spec_l21In.calls (wrap64 ((wrap64 (a1+a3))-1)) 0 15 true _ d2.out).mono ?_);rintro e w' ⟨rfl,⟨nd,rfl⟩⟩)|(go_at_call 33;(with_reducible refine(spec_l21In.calls (wrap64 ((wrap64 (a2+a6))-1)) 0 15 true _ d8.out).mono ?_);rintro e w' ⟨rfl,⟨nd,rfl⟩⟩))
     go_ret2
     exact⟨ze,zI0 a0,zB0 a0 HB,zK0 HK⟩
    replace b8:=Bool.eq_false_iff.mpr b8;subst b8;rw[if_neg zfn]at H;have H':=zA H;clear H
    go_wp2_with (first|((with_reducible refine gate_callee (f:=14) rfl ?_);refine zgl (N:=some 17) Try.func14 #[.pointer (some ⟨g,0,none⟩),.int .i64 3] ?_;(with_reducible refine(spec_l21Rd_pick.calls k1 g s0_0 a4 3 a3 a9 w0 _ ?side1 ?side2 A5.out).mono ?_);(case side1=>exact zI0 a0);(case side2=>exact zB0 a0 HB);rintro e e5 ⟨rfl,hi,hb,hk⟩;refine⟨_,rfl,?_⟩;replace HK:=zKk (zK0 HK) hk;replace HB:=zA (hb);replace a0:=zA (hi);(try clear hb hk hi))|((with_reducible refine gate_callee (f:=14) rfl ?_);refine zgl (N:=some 22) Try.func14 #[.pointer (some ⟨g,0,none⟩),.int .i64 3] ?_;(with_reducible refine(spec_l21Rd_pick.calls k1 g s0_0 a9 3 a6 a7 w0 _ ?side1 ?side2 A6.out).mono ?_);(case side1=>exact zI0 a0);(case side2=>exact zB0 a0 HB);rintro e e6 ⟨rfl,hi,hb,hk⟩;refine⟨_,rfl,?_⟩;replace HK:=zKk (zK0 HK) hk;replace HB:=zA (hb);replace a0:=zA (hi);(try clear hb hk hi))|(go_at_call 33;(with_reducible refine(spec_l21In.calls (wrap64 ((wrap64 (a1+a3))-1)) 0 15 true _ d2.out).mono ?_);rintro e w' ⟨rfl,⟨nd,rfl⟩⟩)|(go_at_call 33;(with_reducible refine(spec_l21In.calls (wrap64 ((wrap64 (a2+a6))-1)) 0 15 false _ d8.out).mono ?_);rintro e w' ⟨rfl,⟨nd,rfl⟩⟩))
    go_roundg k1
    case measure=>have:=b4.out;omega
    case rel=>exact⟨(wrap64 (a5+1)),(a7),zi,H',⟨by have:=b4.out;omega⟩,⟨zI0 a0⟩,⟨zK0 HK⟩,⟨zB0 a0 HB⟩⟩
   rw[if_pos c7]at H;have d0:((wrap64 ((wrap64 (a1+a3))-1))==a1)=true:=beq_iff_eq.mpr c7;have d1:((wrap64 ((wrap64 (a1+a3))-1)) !=a1)=false:=bne_eq_false_iff_eq.mpr c7;clear c7
   by_cases c8:(wrap64 ((wrap64 (a2+a6))-1))=a2
   ·rw[if_pos c8]at H
    have d3:((wrap64 ((wrap64 (a2+a6))-1))==a2)=true:=beq_iff_eq.mpr c8;have d4:((wrap64 ((wrap64 (a2+a6))-1)) !=a2)=false:=bne_eq_false_iff_eq.mpr c8;clear c8;have H':=zA H;clear H
    go_wp2_with (first|((with_reducible refine gate_callee (f:=14) rfl ?_);refine zgl (N:=some 17) Try.func14 #[.pointer (some ⟨g,0,none⟩),.int .i64 3] ?_;(with_reducible refine(spec_l21Rd_pick.calls k1 g s0_0 a4 3 a3 a9 w0 _ ?side1 ?side2 A5.out).mono ?_);(case side1=>exact zI0 a0);(case side2=>exact zB0 a0 HB);rintro e w9 ⟨rfl,hi,hb,hk⟩;refine⟨_,rfl,?_⟩;replace HK:=zKk (zK0 HK) hk;replace HB:=zA (hb);replace a0:=zA (hi);(try clear hb hk hi))|((with_reducible refine gate_callee (f:=14) rfl ?_);refine zgl (N:=some 22) Try.func14 #[.pointer (some ⟨g,0,none⟩),.int .i64 3] ?_;(with_reducible refine(spec_l21Rd_pick.calls k1 g s0_0 a9 3 a6 a7 w0 _ ?side1 ?side2 A6.out).mono ?_);(case side1=>exact zI0 a0);(case side2=>exact zB0 a0 HB);rintro e e7 ⟨rfl,hi,hb,hk⟩;refine⟨_,rfl,?_⟩;replace HK:=zKk (zK0 HK) hk;replace HB:=zA (hb);replace a0:=zA (hi);(try clear hb hk hi)))
    go_roundg k1
    case measure=>have:=b4.out;omega
    case rel=>exact⟨(wrap64 (a5+1)),(a7),zi,H',⟨by have:=b4.out;omega⟩,⟨zI0 a0⟩,⟨zK0 HK⟩,⟨zB0 a0 HB⟩⟩
   rw[if_neg c8]at H;have d3:((wrap64 ((wrap64 (a2+a6))-1))==a2)=false:=beq_eq_false_iff_ne.mpr c8;have d4:((wrap64 ((wrap64 (a2+a6))-1)) !=a2)=true:=bne_iff_ne.mpr c8;replace H:=zbd H;obtain⟨b0,d5,H⟩:=H
   by_cases b9:b0=true
   rotate_left
   ·replace b9:=Bool.eq_false_iff.mpr b9
    subst b9;rw[if_neg zfn]at H;have H':=zA H;clear H
    go_wp2_with (first|((with_reducible refine gate_callee (f:=14) rfl ?_);refine zgl (N:=some 17) Try.func14 #[.pointer (some ⟨g,0,none⟩),.int .i64 3] ?_;(with_reducible refine(spec_l21Rd_pick.calls k1 g s0_0 a4 3 a3 a9 w0 _ ?side1 ?side2 A5.out).mono ?_);(case side1=>exact zI0 a0);(case side2=>exact zB0 a0 HB);rintro e e8 ⟨rfl,hi,hb,hk⟩;refine⟨_,rfl,?_⟩;replace HK:=zKk (zK0 HK) hk;replace HB:=zA (hb);replace a0:=zA (hi);(try clear hb hk hi))|((with_reducible refine gate_callee (f:=14) rfl ?_);refine zgl (N:=some 22) Try.func14 #[.pointer (some ⟨g,0,none⟩),.int .i64 3] ?_;(with_reducible refine(spec_l21Rd_pick.calls k1 g s0_0 a9 3 a6 a7 w0 _ ?side1 ?side2 A6.out).mono ?_);(case side1=>exact zI0 a0);(case side2=>exact zB0 a0 HB);rintro e e9 ⟨rfl,hi,hb,hk⟩;refine⟨_,rfl,?_⟩;replace HK:=zKk (zK0 HK) hk;replace HB:=zA (hb);replace a0:=zA (hi);(try clear hb hk hi))|(go_at_call 33;(with_reducible refine(spec_l21In.calls (wrap64 ((wrap64 (a1+a3))-1)) 0 15 false _ d5.out).mono ?_);rintro e w' ⟨rfl,⟨nd,rfl⟩⟩))
    go_roundg k1
    case measure=>have:=b4.out;omega
    case rel=>exact⟨(wrap64 (a5+1)),(a7),zi,H',⟨by have:=b4.out;omega⟩,⟨zI0 a0⟩,⟨zK0 HK⟩,⟨zB0 a0 HB⟩⟩
   subst b9;rw[if_pos rfl]at H;replace H:=zbd H;obtain⟨b1,d9,H⟩:=H
   by_cases c0:b1=true
   ·subst c0
    rw[if_pos rfl]at H;simp only[Option.some.injEq,Prod.mk.injEq]at H;obtain⟨rfl,rfl,rfl⟩:=H
    go_wp2_with (first|((with_reducible refine gate_callee (f:=14) rfl ?_);refine zgl (N:=some 17) Try.func14 #[.pointer (some ⟨g,0,none⟩),.int .i64 3] ?_;(with_reducible refine(spec_l21Rd_pick.calls k1 g s0_0 a4 3 a3 a9 w0 _ ?side1 ?side2 A5.out).mono ?_);(case side1=>exact zI0 a0);(case side2=>exact zB0 a0 HB);rintro e f0 ⟨rfl,hi,hb,hk⟩;refine⟨_,rfl,?_⟩;replace HK:=zKk (zK0 HK) hk;replace HB:=zA (hb);replace a0:=zA (hi);(try clear hb hk hi))|((with_reducible refine gate_callee (f:=14) rfl ?_);refine zgl (N:=some 22) Try.func14 #[.pointer (some ⟨g,0,none⟩),.int .i64 3] ?_;(with_reducible refine(spec_l21Rd_pick.calls k1 g s0_0 a9 3 a6 a7 w0 _ ?side1 ?side2 A6.out).mono ?_);(case side1=>exact zI0 a0);(case side2=>exact zB0 a0 HB);rintro e f1 ⟨rfl,hi,hb,hk⟩;refine⟨_,rfl,?_⟩;replace HK:=zKk (zK0 HK) hk;replace HB:=zA (hb);replace a0:=zA (hi);(try clear hb hk hi))|(go_at_call 33;(with_reducible refine(spec_l21In.calls (wrap64 ((wrap64 (a1+a3))-1)) 0 15 true _ d5.out).mono ?_);rintro e w' ⟨rfl,⟨nd,rfl⟩⟩)|(go_at_call 33;(with_reducible refine(spec_l21In.calls (wrap64 ((wrap64 (a2+a6))-1)) 0 15 true _ d9.out).mono ?_);rintro e w' ⟨rfl,⟨nd,rfl⟩⟩))
    go_ret2
    exact⟨ze,zI0 a0,zB0 a0 HB,zK0 HK⟩
   replace c0:=Bool.eq_false_iff.mpr c0;subst c0;rw[if_neg zfn]at H;have H':=zA H;clear H
   go_wp2_with (first|((with_reducible refine gate_callee (f:=14) rfl ?_);refine zgl (N:=some 17) Try.func14 #[.pointer (some ⟨g,0,none⟩),.int .i64 3] ?_;(with_reducible refine(spec_l21Rd_pick.calls k1 g s0_0 a4 3 a3 a9 w0 _ ?side1 ?side2 A5.out).mono ?_);(case side1=>exact zI0 a0);(case side2=>exact zB0 a0 HB);rintro e f2 ⟨rfl,hi,hb,hk⟩;refine⟨_,rfl,?_⟩;replace HK:=zKk (zK0 HK) hk;replace HB:=zA (hb);replace a0:=zA (hi);(try clear hb hk hi))|((with_reducible refine gate_callee (f:=14) rfl ?_);refine zgl (N:=some 22) Try.func14 #[.pointer (some ⟨g,0,none⟩),.int .i64 3] ?_;(with_reducible refine(spec_l21Rd_pick.calls k1 g s0_0 a9 3 a6 a7 w0 _ ?side1 ?side2 A6.out).mono ?_);(case side1=>exact zI0 a0);(case side2=>exact zB0 a0 HB);rintro e f3 ⟨rfl,hi,hb,hk⟩;refine⟨_,rfl,?_⟩;replace HK:=zKk (zK0 HK) hk;replace HB:=zA (hb);replace a0:=zA (hi);(try clear hb hk hi))|(go_at_call 33;(with_reducible refine(spec_l21In.calls (wrap64 ((wrap64 (a1+a3))-1)) 0 15 true _ d5.out).mono ?_);rintro e w' ⟨rfl,⟨nd,rfl⟩⟩)|(go_at_call 33;(with_reducible refine(spec_l21In.calls (wrap64 ((wrap64 (a2+a6))-1)) 0 15 false _ d9.out).mono ?_);rintro e w' ⟨rfl,⟨nd,rfl⟩⟩))
   go_roundg k1
   case measure=>have:=b4.out;omega
   case rel=>exact⟨(wrap64 (a5+1)),(a7),zi,H',⟨by have:=b4.out;omega⟩,⟨zI0 a0⟩,⟨zK0 HK⟩,⟨zB0 a0 HB⟩⟩
end Go.Proofs.Ytkecbmgdmkmfgaa.QFnFlyNext
