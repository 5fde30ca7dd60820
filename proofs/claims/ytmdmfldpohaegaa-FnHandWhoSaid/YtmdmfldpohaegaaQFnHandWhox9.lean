/- The walk of what the law FnHandWho reaches: laid by a program of this session (ownprint.py). -/
import Derived.Test.YtmdmfldpohaegaaQFnHandWhox0
namespace Go.Proofs.Ytmdmfldpohaegaa.QFnHandWho
open Go.RowKit Go.Proofs.YtmdmfldpohaegaaW.PrintWords Go.Proofs.YtmdmfldpohaegaaW.PrintLast Go.Proofs.YtmdmfldpohaegaaW.PrintMore Go.Proofs.Ytmdmfldpohaegaa.Z
attribute [local go_sem] max2_int min2_int max_two min_two max_three min_three max_four min_four zdn   -- for this text's walks alone
set_option linter.unusedVariables false
set_option linter.unusedSimpArgs false
def spec_l31Tube.f (l0:List (S47)):Option ((List (S47))):=(some (([]:List (S47)):List (S47))).bind fun a0=>(if a0.length+l0.length<2932031007402 then(some (a0++l0))else(none))
set_option maxHeartbeats 8000000 in
set_option maxRecDepth 100000 in
theorem spec_l31Tube.calls (A0:Option Addr) (c0:Nat) (l0:List (S47)) (r:List (S47)) (w:World) (hr0:Kd.C k47 w A0 l0.length l0) (hc0:l0.length≤c0) (h:spec_l31Tube.f l0=some r):
 Calls Try.prog 37 #[.slice A0 l0.length c0] w fun e w'=> ∃v0_:Value,e= .returned (v0_)∧Kd.R k47 47 w' w.heap.size (fun _=>True) v0_ r∧Below w.heap.size w w':=by
 have b0:=zA hr0;have b2:=zA hc0;clear hr0 hc0;have HB:=zA (Below.refl w.heap.size w);have H:=h;clear h;unfold spec_l31Tube.f at H;obtain⟨a2,a0⟩: ∃y_:List (S47),y_=(([]:List (S47))):=⟨_,rfl⟩
 replace H:(if a2.length+l0.length<2932031007402 then(some (a2++l0))else(none))=some r:=by first|(rw[a0];with_reducible exact H)|(have H2_:=(Option.bind_some _ _).symm.trans H;rw[a0];with_reducible exact H2_)|(have H2_:=(Option.bind_some _ _).symm.trans H;with_reducible exact H2_)|with_reducible exact H|(rw[a0];exact H)|exact H
 have a3:=zA a0;clear a0
 by_cases c2:a2.length+l0.length<2932031007402
 rotate_left
 ·rw[if_neg c2]at H
  exact absurd H (by simp)
 rw[if_pos c2]at H;have LMc2:=zA c2;clear c2;obtain⟨a8,a1⟩: ∃y_:List (S47),y_=(a2++l0):=⟨_,rfl⟩
 replace H:(some a8)=some r:=by first|(rw[a1];with_reducible exact H)|(have H2_:=(Option.bind_some _ _).symm.trans H;rw[a1];with_reducible exact H2_)|(have H2_:=(Option.bind_some _ _).symm.trans H;with_reducible exact H2_)|with_reducible exact H|(rw[a1];exact H)|exact H
 have a5:=zA a1;clear a1;obtain rfl:=Option.some.inj H
 go_enter Try.func37,Try.ntmps37
 go_wp2_with (first|((with_reducible refine gate_dst (N:=3) rfl ?_);refine Kd.R_lit k47 _ 47 ?hg (N:=3) ?hd (xs:=([]:List (S47))) (inner:=[]) (ok:=fun _=>True) (okp:=fun _=>True) ?hr ?hp (fun _ hk=>hk) trivial (Below.refl _ _) (Nat.le_refl _) (by simp) ?_;(case hd=>rfl);(case hg=>rfl);(case hr=>first|(go_simp;done)|(go_simp;rfl));(case hp=>exact(Reps.none _ _));intro a9 w3 a6 hb hg_ hnew_;clear hg_ hnew_;(first|rw[←a3.out]at a6|(simp only[Int.reduceToNat]at a6;rw[←a3.out]at a6));have a4:=zA (Kd.R_lower a6 (below_size (zs0 HB)));replace HB:=zE (zs0 HB) hb;clear hb a6)|((with_reducible refine gate_builtin (b:= .append) (xs:=#[.tmp 3,.tmp 4]) rfl ?_);at_builtin;refine Kd.R_append_rows k47 (w0:=w) w.heap.size rfl (.tmp 3) (.tmp 4) 24 47 (.agg #[(.int .i64 0),(.int .i64 0),(.int .i64 0),(.int .i64 0),(.int .i64 0),(.int .i64 0)]) 48 rfl Try.underlying24 info47 rfl (by decide) (by omega) a9 a2 l0 _ _ _ (fun _=>True) (fun _=>False) rfl rfl ?aO ?aR (fun _ _ h=>h) (fun _ h=>h.elim) ?aF ?aB ?aS ?aL ?_;(case aR=>repeat(first|exact(Kd.C_below b0.out HB.out)|(with_reducible refine Kd.C_alloc ?_ _)|(with_reducible refine Kd.C_drewN ?_ _)|(with_reducible refine Kd.C_drew ?_)));(case aB=>exact(zs0 HB));(case aF=>exact(fun _ _=>trivial));(case aO=>exact(zr a4));(case aS=>exact(below_size (zs0 HB)));(case aL=>have:=LMc2.out;omega);intro b1 w5 ho hb hg hat;rw[←a5.out]at ho;have a7:=zA (ho);replace HB:=zA (hb);clear a4;clear ho hb hg hat))
 go_ret;exact⟨_,ze,zr a7,zs0 HB⟩
end Go.Proofs.Ytmdmfldpohaegaa.QFnHandWho
