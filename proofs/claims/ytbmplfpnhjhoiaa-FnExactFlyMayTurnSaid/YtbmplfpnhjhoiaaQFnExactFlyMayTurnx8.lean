/- The walk of what the law FnExactFlyMayTurn reaches: laid by a program of this session (ownprint.py). -/
import Derived.Test.YtbmplfpnhjhoiaaQFnExactFlyMayTurnx0
namespace Go.Proofs.Ytbmplfpnhjhoiaa.QFnExactFlyMayTurn
open Go.RowKit Go.Proofs.YtbmplfpnhjhoiaaW.PrintWords Go.Proofs.YtbmplfpnhjhoiaaW.PrintLast Go.Proofs.YtbmplfpnhjhoiaaW.PrintMore Go.Proofs.Ytbmplfpnhjhoiaa.Z
attribute [local go_sem] max2_int min2_int max_two min_two max_three min_three max_four min_four zdn   -- for this text's walks alone
set_option linter.unusedVariables false
set_option linter.unusedSimpArgs false
def spec_l23Low.f (a0_0:Int) (a0_1:Int) (l0_2:List (S132)) (a0_3:Int) (a0_4:Int) (a1:Int):Option (Int):=if a1<(l0_2.length:Int)then(if 0≤a1 then(some ((rd_T132 l0_2 a1).f4))else(none))else(some a0_3)
set_option maxHeartbeats 8000000 in
set_option maxRecDepth 100000 in
theorem spec_l23Low.calls (a0_0:Int) (a0_1:Int) (A0_2:Option Addr) (c0_2:Nat) (l0_2:List (S132)) (a0_3:Int) (a0_4:Int) (a1:Int) (r:Int) (w:World) (hr0_2:Kd.C k132 w A0_2 l0_2.length l0_2) (hc0_2:l0_2.length≤c0_2) (h:spec_l23Low.f a0_0 a0_1 l0_2 a0_3 a0_4 a1=some r):
 Calls Try.prog 152 #[.agg #[.int .i64 a0_0,.int .i64 a0_1,.slice A0_2 l0_2.length c0_2,.int .i64 a0_3,.int .i64 a0_4],.int .i64 a1] w fun e w'=>e= .returned (.int .i64 r)∧Below w.heap.size w w':=by
 have hu68:=Try.underlying68;have HR0_2:=zA hr0_2;have HC0_2:=zA hc0_2;clear hr0_2 hc0_2;have HB:=zA (Below.refl w.heap.size w);have H:=h;clear h;unfold spec_l23Low.f at H
 by_cases c3:a1<(l0_2.length:Int)
 rotate_left
 ·rw[if_neg c3]at H
  have c3b0:decide (a1<(l0_2.length:Int))=false:=decide_eq_false c3;clear c3;obtain rfl:=Option.some.inj H
  go_enter Try.func152,Try.ntmps152
  go_wp2_with (first|((with_reducible refine gate_dst (N:=2) rfl ?_);refine zbx 2 #[.int .i64 a0_0,.int .i64 a0_1,.slice A0_2 l0_2.length c0_2,.int .i64 a0_3,.int .i64 a0_4] 68 ?_;intro gb176 hg w7 hbox hb;have BK176:=zA hbox;have GW176:=zgs hg (zs0 HB);have GE176:=zgs hg (zs0 HB);replace HB:=zE (zs0 HB) hb;clear hb hbox hg;obtain⟨hcz8_0,hcz8_1,hcz8_2,hcz8_3,hcz8_4⟩:=zd5 BK176;obtain⟨hfz8_0,hfz8_1,hfz8_2,hfz8_3,hfz8_4⟩:=zn5 BK176))
  go_ret;exact⟨ze,zs1 HB GE176⟩
 rw[if_pos c3]at H;have c3b0:decide (a1<(l0_2.length:Int))=true:=decide_eq_true c3;clear c3;replace H:=zif H;obtain⟨c4b0,H⟩:=H;obtain rfl:=Option.some.inj H
 go_enter Try.func152,Try.ntmps152
 go_wp2_with (first|((with_reducible refine gate_dst (N:=2) rfl ?_);refine zbx 2 #[.int .i64 a0_0,.int .i64 a0_1,.slice A0_2 l0_2.length c0_2,.int .i64 a0_3,.int .i64 a0_4] 68 ?_;intro gb176 hg w5 hbox hb;have BK176:=zA hbox;have GW176:=zgs hg (zs0 HB);have GE176:=zgs hg (zs0 HB);replace HB:=zE (zs0 HB) hb;clear hb hbox hg;obtain⟨hcz6_0,hcz6_1,hcz6_2,hcz6_3,hcz6_4⟩:=zd5 BK176;obtain⟨hfz6_0,hfz6_1,hfz6_2,hfz6_3,hfz6_4⟩:=zn5 BK176;have p177:0≤(a1:Int):=za;have q177:a1<(l0_2.length:Int):=za;obtain⟨ad177,e177,hx177_0,hx177_1,hx177_2,hx177_3,hx177_4,hx177_5,hx177_6⟩:=at_T132 HR0_2.out a1 p177 q177;cases e177;replace hx177_0:=zx HB hx177_0;replace hx177_1:=zx HB hx177_1;replace hx177_2:=zx HB hx177_2;replace hx177_3:=zx HB hx177_3;replace hx177_4:=zx HB hx177_4;replace hx177_5:=zx HB hx177_5;replace hx177_6:=zx HB hx177_6;replace p177:=eq_true p177;replace q177:=eq_true q177))
 go_ret;exact⟨ze,zs1 HB GE176⟩
def spec_l23High.f (a0_0:Int) (a0_1:Int) (l0_2:List (S132)) (a0_3:Int) (a0_4:Int) (a1:Int):Option (Int):=if a1<(l0_2.length:Int)then(if 0≤a1 then(some ((rd_T132 l0_2 a1).f5))else(none))else(some a0_4)
set_option maxHeartbeats 8000000 in
set_option maxRecDepth 100000 in
theorem spec_l23High.calls (a0_0:Int) (a0_1:Int) (A0_2:Option Addr) (c0_2:Nat) (l0_2:List (S132)) (a0_3:Int) (a0_4:Int) (a1:Int) (r:Int) (w:World) (hr0_2:Kd.C k132 w A0_2 l0_2.length l0_2) (hc0_2:l0_2.length≤c0_2) (h:spec_l23High.f a0_0 a0_1 l0_2 a0_3 a0_4 a1=some r):
 Calls Try.prog 153 #[.agg #[.int .i64 a0_0,.int .i64 a0_1,.slice A0_2 l0_2.length c0_2,.int .i64 a0_3,.int .i64 a0_4],.int .i64 a1] w fun e w'=>e= .returned (.int .i64 r)∧Below w.heap.size w w':=by
 have hu68:=Try.underlying68;have HR0_2:=zA hr0_2;have HC0_2:=zA hc0_2;clear hr0_2 hc0_2;have HB:=zA (Below.refl w.heap.size w);have H:=h;clear h;unfold spec_l23High.f at H
 by_cases c3:a1<(l0_2.length:Int)
 rotate_left
 ·rw[if_neg c3]at H
  have c3b0:decide (a1<(l0_2.length:Int))=false:=decide_eq_false c3;clear c3;obtain rfl:=Option.some.inj H
  go_enter Try.func153,Try.ntmps153
  go_wp2_with (first|((with_reducible refine gate_dst (N:=2) rfl ?_);refine zbx 2 #[.int .i64 a0_0,.int .i64 a0_1,.slice A0_2 l0_2.length c0_2,.int .i64 a0_3,.int .i64 a0_4] 68 ?_;intro gb178 hg w7 hbox hb;have BK178:=zA hbox;have GW178:=zgs hg (zs0 HB);have GE178:=zgs hg (zs0 HB);replace HB:=zE (zs0 HB) hb;clear hb hbox hg;obtain⟨hcz8_0,hcz8_1,hcz8_2,hcz8_3,hcz8_4⟩:=zd5 BK178;obtain⟨hfz8_0,hfz8_1,hfz8_2,hfz8_3,hfz8_4⟩:=zn5 BK178))
  go_ret;exact⟨ze,zs1 HB GE178⟩
 rw[if_pos c3]at H;have c3b0:decide (a1<(l0_2.length:Int))=true:=decide_eq_true c3;clear c3;replace H:=zif H;obtain⟨c4b0,H⟩:=H;obtain rfl:=Option.some.inj H
 go_enter Try.func153,Try.ntmps153
 go_wp2_with (first|((with_reducible refine gate_dst (N:=2) rfl ?_);refine zbx 2 #[.int .i64 a0_0,.int .i64 a0_1,.slice A0_2 l0_2.length c0_2,.int .i64 a0_3,.int .i64 a0_4] 68 ?_;intro gb178 hg w5 hbox hb;have BK178:=zA hbox;have GW178:=zgs hg (zs0 HB);have GE178:=zgs hg (zs0 HB);replace HB:=zE (zs0 HB) hb;clear hb hbox hg;obtain⟨hcz6_0,hcz6_1,hcz6_2,hcz6_3,hcz6_4⟩:=zd5 BK178;obtain⟨hfz6_0,hfz6_1,hfz6_2,hfz6_3,hfz6_4⟩:=zn5 BK178;have p179:0≤(a1:Int):=za;have q179:a1<(l0_2.length:Int):=za;obtain⟨ad179,e179,hx179_0,hx179_1,hx179_2,hx179_3,hx179_4,hx179_5,hx179_6⟩:=at_T132 HR0_2.out a1 p179 q179;cases e179;replace hx179_0:=zx HB hx179_0;replace hx179_1:=zx HB hx179_1;replace hx179_2:=zx HB hx179_2;replace hx179_3:=zx HB hx179_3;replace hx179_4:=zx HB hx179_4;replace hx179_5:=zx HB hx179_5;replace hx179_6:=zx HB hx179_6;replace p179:=eq_true p179;replace q179:=eq_true q179))
 go_ret;exact⟨ze,zs1 HB GE178⟩
def spec_l23Most.f (a0_0:Int) (a0_1:Int) (l0_2:List (S132)) (a0_3:Int) (a0_4:Int) (a1:Int):Option (Int):=if 0≤a1 then(if a1<(l0_2.length:Int)then(if(rd_T132 l0_2 a1).f6=true then(some 10000)else(some a0_1))else(none))else(none)
set_option maxHeartbeats 8000000 in
set_option maxRecDepth 100000 in
theorem spec_l23Most.calls (a0_0:Int) (a0_1:Int) (A0_2:Option Addr) (c0_2:Nat) (l0_2:List (S132)) (a0_3:Int) (a0_4:Int) (a1:Int) (r:Int) (w:World) (hr0_2:Kd.C k132 w A0_2 l0_2.length l0_2) (hc0_2:l0_2.length≤c0_2) (h:spec_l23Most.f a0_0 a0_1 l0_2 a0_3 a0_4 a1=some r):
 Calls Try.prog 154 #[.agg #[.int .i64 a0_0,.int .i64 a0_1,.slice A0_2 l0_2.length c0_2,.int .i64 a0_3,.int .i64 a0_4],.int .i64 a1] w fun e w'=>e= .returned (.int .i64 r)∧Below w.heap.size w w':=by
 have hu68:=Try.underlying68;have HR0_2:=zA hr0_2;have HC0_2:=zA hc0_2;clear hr0_2 hc0_2;have HB:=zA (Below.refl w.heap.size w);have H:=h;clear h;unfold spec_l23Most.f at H;replace H:=zif H;obtain⟨c3b0,H⟩:=H
 by_cases c4:a1<(l0_2.length:Int)
 rotate_left
 ·rw[if_neg c4]at H
  exact absurd H (by simp)
 rw[if_pos c4]at H;have c4b0:decide (a1<(l0_2.length:Int))=true:=decide_eq_true c4;clear c4;obtain⟨bq5,hbq5⟩: ∃b_:Bool,b_=((rd_T132 l0_2 a1).f6):=⟨_,rfl⟩
 replace H:(if bq5=true then(some 10000)else(some a0_1))=some r:=by rw[←hbq5]at H;exact H
 have Nbq5:=zA hbq5;clear hbq5
 by_cases c6:bq5=true
 ·subst c6
  rw[if_pos rfl]at H;obtain rfl:=Option.some.inj H
  go_enter Try.func154,Try.ntmps154
  go_wp2_with (first|((with_reducible refine gate_dst (N:=2) rfl ?_);refine zbx 2 #[.int .i64 a0_0,.int .i64 a0_1,.slice A0_2 l0_2.length c0_2,.int .i64 a0_3,.int .i64 a0_4] 68 ?_;intro gb180 hg w7 hbox hb;have BK180:=zA hbox;have GW180:=zgs hg (zs0 HB);have GE180:=zgs hg (zs0 HB);replace HB:=zE (zs0 HB) hb;clear hb hbox hg;obtain⟨hcz8_0,hcz8_1,hcz8_2,hcz8_3,hcz8_4⟩:=zd5 BK180;obtain⟨hfz8_0,hfz8_1,hfz8_2,hfz8_3,hfz8_4⟩:=zn5 BK180;have p181:0≤(a1:Int):=za;have q181:a1<(l0_2.length:Int):=za;obtain⟨ad181,e181,hx181_0,hx181_1,hx181_2,hx181_3,hx181_4,hx181_5,hx181_6⟩:=at_T132 HR0_2.out a1 p181 q181;(try rw[←Nbq5.out]at hx181_6);cases e181;replace hx181_0:=zx HB hx181_0;replace hx181_1:=zx HB hx181_1;replace hx181_2:=zx HB hx181_2;replace hx181_3:=zx HB hx181_3;replace hx181_4:=zx HB hx181_4;replace hx181_5:=zx HB hx181_5;replace hx181_6:=zx HB hx181_6;replace p181:=eq_true p181;replace q181:=eq_true q181))
  go_ret;exact⟨ze,zs1 HB GE180⟩
 replace c6:=Bool.eq_false_iff.mpr c6;subst c6;rw[if_neg zfn]at H;obtain rfl:=Option.some.inj H
 go_enter Try.func154,Try.ntmps154
 go_wp2_with (first|((with_reducible refine gate_dst (N:=2) rfl ?_);refine zbx 2 #[.int .i64 a0_0,.int .i64 a0_1,.slice A0_2 l0_2.length c0_2,.int .i64 a0_3,.int .i64 a0_4] 68 ?_;intro gb180 hg w9 hbox hb;have BK180:=zA hbox;have GW180:=zgs hg (zs0 HB);have GE180:=zgs hg (zs0 HB);replace HB:=zE (zs0 HB) hb;clear hb hbox hg;obtain⟨hcz10_0,hcz10_1,hcz10_2,hcz10_3,hcz10_4⟩:=zd5 BK180;obtain⟨hfz10_0,hfz10_1,hfz10_2,hfz10_3,hfz10_4⟩:=zn5 BK180;have p181:0≤(a1:Int):=za;have q181:a1<(l0_2.length:Int):=za;obtain⟨ad181,e181,hx181_0,hx181_1,hx181_2,hx181_3,hx181_4,hx181_5,hx181_6⟩:=at_T132 HR0_2.out a1 p181 q181;(try rw[←Nbq5.out]at hx181_6);cases e181;replace hx181_0:=zx HB hx181_0;replace hx181_1:=zx HB hx181_1;replace hx181_2:=zx HB hx181_2;replace hx181_3:=zx HB hx181_3;replace hx181_4:=zx HB hx181_4;replace hx181_5:=zx HB hx181_5;replace hx181_6:=zx HB hx181_6;replace p181:=eq_true p181;replace q181:=eq_true q181))
 go_ret;exact⟨ze,zs1 HB GE180⟩
end Go.Proofs.Ytbmplfpnhjhoiaa.QFnExactFlyMayTurn
