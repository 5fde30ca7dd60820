/- The walk of what the law FnExactFlyMayTurn reaches: laid by a program of this session (ownprint.py). -/
import Derived.Test.YtbmplfpnhjhoiaaQFnExactFlyMayTurnx0
import Derived.Test.YtbmplfpnhjhoiaaQFnExactFlyMayTurnx16
import Derived.Test.YtbmplfpnhjhoiaaQFnExactFlyMayTurnx18
namespace Go.Proofs.Ytbmplfpnhjhoiaa.QFnExactFlyMayTurn
open Go.RowKit Go.Proofs.YtbmplfpnhjhoiaaW.PrintWords Go.Proofs.YtbmplfpnhjhoiaaW.PrintLast Go.Proofs.YtbmplfpnhjhoiaaW.PrintMore Go.Proofs.Ytbmplfpnhjhoiaa.Z
attribute [local go_sem] max2_int min2_int max_two min_two max_three min_three max_four min_four zdn   -- for this text's walks alone
set_option linter.unusedVariables false
set_option linter.unusedSimpArgs false
def impl_FlySpans.f (k:Nat) (a0_0:Int) (a0_1:Int) (l0_2:List (S132)) (a0_3:Int) (a0_4:Int):Option ((List (S110))×Bool):=(impl_FlyPathOk.f k a0_0 a0_1 l0_2 a0_3 a0_4).bind fun t430=>(if t430=true then((impl_FlyPath_spans.f k a0_0 a0_1 l0_2 a0_3 a0_4 ([]:List Int)).bind fun bt431=>(some (bt431.1,bt431.2)))else(some (([]:List (S110)),false)))
set_option maxHeartbeats 8000000 in
set_option maxRecDepth 100000 in
theorem impl_FlySpans.calls (k:Nat) (a0_0:Int) (a0_1:Int) (A0_2:Option Addr) (c0_2:Nat) (l0_2:List (S132)) (a0_3:Int) (a0_4:Int) (r1:List (S110)) (r2:Bool) (w:World) (hr0_2:Kd.C k132 w A0_2 l0_2.length l0_2) (hc0_2:l0_2.length≤c0_2) (h:impl_FlySpans.f k a0_0 a0_1 l0_2 a0_3 a0_4=some (r1,r2)):
 Calls Try.prog 74 #[.agg #[.int .i64 a0_0,.int .i64 a0_1,.slice A0_2 l0_2.length c0_2,.int .i64 a0_3,.int .i64 a0_4]] w fun e w'=> ∃v0_:Value,e= .returned (.tuple #[v0_,.bool r2])∧Kd.R k110 110 w' w.heap.size (fun _=>True) v0_ r1∧Below w.heap.size w w':=by
 have hu68:=Try.underlying68;have HR0_2:=zA hr0_2;have HC0_2:=zA hc0_2;clear hr0_2 hc0_2;have HB:=zA (Below.refl w.heap.size w);have H:=h;clear h;unfold impl_FlySpans.f at H;replace H:=zbd H;obtain⟨t430,A2,H⟩:=H
 by_cases c3:t430=true
 rotate_left
 ·replace c3:=Bool.eq_false_iff.mpr c3
  subst c3;rw[if_neg zfn]at H;simp only[Option.some.injEq,Prod.mk.injEq]at H;obtain⟨rfl,rfl⟩:=H
  go_enter Try.func74,Try.ntmps74
  go_wp2_with (first|((with_reducible refine gate_dst (N:=1) rfl ?_);refine zbx 1 #[.int .i64 a0_0,.int .i64 a0_1,.slice A0_2 l0_2.length c0_2,.int .i64 a0_3,.int .i64 a0_4] 68 ?_;intro gb429 hg w10 hbox hb;have BK429:=zA hbox;have GW429:=zgs hg (zs0 HB);have GE429:=zgs hg (zs0 HB);replace HB:=zE (zs0 HB) hb;clear hb hbox hg;obtain⟨hcz11_0,hcz11_1,hcz11_2,hcz11_3,hcz11_4⟩:=zd5 BK429;obtain⟨hfz11_0,hfz11_1,hfz11_2,hfz11_3,hfz11_4⟩:=zn5 BK429)|((with_reducible refine gate_callee (f:=99) rfl ?_);refine zgl (N:=some 5) Try.func99 #[.agg #[.int .i64 a0_0,.int .i64 a0_1,.slice A0_2 l0_2.length c0_2,.int .i64 a0_3,.int .i64 a0_4]] ?_;(with_reducible refine(impl_FlyPathOk.calls k a0_0 a0_1 _ _ l0_2 a0_3 a0_4 false _ ?side1 ?side2 A2.out).mono ?_);(case side1=>exact zC HR0_2 HB);(case side2=>exact HC0_2.out);rintro e w12 ⟨rfl,hb⟩;refine⟨_,rfl,?_⟩;replace BK429:=zb BK429 hb;replace HB:=zE (zs1 HB GE429) hb;(try clear hb);(try clear hb2);(try clear hk);(try clear hi)))
  go_ret2
  exact⟨_,ze,by first|exact Kd.R_nil _ _ _ _ _|exact Kd.N_nil _ _ _ _ _|exact Kd.V_nil _ _ _ _ _|exact Kd.Q_nil _ _ _ _ _|exact Kd.S_nil _ _ _ _ _,zs1 HB GE429⟩
 subst c3;rw[if_pos rfl]at H;replace H:=Option.bind_eq_some_iff.mp H;obtain⟨⟨t431,t434⟩,A40,H⟩:=H;replace H:(some (t431,t434))=some (r1,r2):=H;have A4:=zA A40;clear A40;simp only[Option.some.injEq,Prod.mk.injEq]at H;obtain⟨rfl,rfl⟩:=H
 go_enter Try.func74,Try.ntmps74
 go_wp2_with (first|((with_reducible refine gate_dst (N:=1) rfl ?_);refine zbx 1 #[.int .i64 a0_0,.int .i64 a0_1,.slice A0_2 l0_2.length c0_2,.int .i64 a0_3,.int .i64 a0_4] 68 ?_;intro gb429 hg w5 hbox hb;have BK429:=zA hbox;have GW429:=zgs hg (zs0 HB);have GE429:=zgs hg (zs0 HB);replace HB:=zE (zs0 HB) hb;clear hb hbox hg;obtain⟨hcz6_0,hcz6_1,hcz6_2,hcz6_3,hcz6_4⟩:=zd5 BK429;obtain⟨hfz6_0,hfz6_1,hfz6_2,hfz6_3,hfz6_4⟩:=zn5 BK429)|((with_reducible refine gate_callee (f:=99) rfl ?_);refine zgl (N:=some 5) Try.func99 #[.agg #[.int .i64 a0_0,.int .i64 a0_1,.slice A0_2 l0_2.length c0_2,.int .i64 a0_3,.int .i64 a0_4]] ?_;(with_reducible refine(impl_FlyPathOk.calls k a0_0 a0_1 _ _ l0_2 a0_3 a0_4 true _ ?side1 ?side2 A2.out).mono ?_);(case side1=>exact zC HR0_2 HB);(case side2=>exact HC0_2.out);rintro e w7 ⟨rfl,hb⟩;refine⟨_,rfl,?_⟩;replace BK429:=zb BK429 hb;replace HB:=zE (zs1 HB GE429) hb;(try clear hb);(try clear hb2);(try clear hk);(try clear hi);obtain⟨hcz8_0,hcz8_1,hcz8_2,hcz8_3,hcz8_4⟩:=zd5 BK429;obtain⟨hfz8_0,hfz8_1,hfz8_2,hfz8_3,hfz8_4⟩:=zn5 BK429)|((with_reducible refine gate_callee (f:=136) rfl ?_);refine zgl (N:=some 8) Try.func136 #[.agg #[.int .i64 a0_0,.int .i64 a0_1,.slice A0_2 l0_2.length c0_2,.int .i64 a0_3,.int .i64 a0_4],.slice none 0 0] ?_;(refine(impl_FlyPath_spans.calls k a0_0 a0_1 _ _ l0_2 a0_3 a0_4 _ _ ([]:List Int) t431 t434 _ ?side1 ?side2 ?side3 ?side4 A4.out).mono ?_);(case side1=>exact zC HR0_2 HB);(case side2=>exact HC0_2.out);(case side3=>exact Kd.C_nil _ _);(case side4=>exact Nat.le_refl _);rintro e w9 ⟨v432,rfl,ho0,hb⟩;refine⟨_,rfl,?_⟩;have HO433:=zA (Kd.R_lower ho0 (below_size (zs1 HB GE429)));replace BK429:=zb BK429 hb;replace HB:=zE (zs1 HB GE429) hb;(try clear hb);(try clear hb2);(try clear hk);(try clear hi);(try clear ho0)))
 go_ret2
 exact⟨_,ze,zr HO433,zs1 HB GE429⟩
end Go.Proofs.Ytbmplfpnhjhoiaa.QFnExactFlyMayTurn
