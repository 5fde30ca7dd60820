/- The walk of what the law FnFlyTight reaches: laid by a program of this session (ownprint.py). -/
import Derived.Test.YtidoahlbaeiemaaQFnFlyTightx0
import Derived.Test.YtidoahlbaeiemaaQFnFlyTightx14
namespace Go.Proofs.Ytidoahlbaeiemaa.QFnFlyTight
open Go.RowKit Go.Proofs.YtidoahlbaeiemaaW.PrintWords Go.Proofs.YtidoahlbaeiemaaW.PrintLast Go.Proofs.YtidoahlbaeiemaaW.PrintMore Go.Proofs.Ytidoahlbaeiemaa.Z
attribute [local go_sem] max2_int min2_int max_two min_two max_three min_three max_four min_four zdn   -- for this text's walks alone
set_option linter.unusedVariables false
set_option linter.unusedSimpArgs false
def impl_FlyFirst.l0:Nat→List Int→List (S37)→Int→Int→Option (List Int)
 |0,_,_,_,_=>none
 |k+1,x5,x13,x14,x15=>if x15<x14 then(if 0≤x15 then(if x15<(x13.length:Int)then(if x5.length<17592186044416 then(impl_FlyFirst.l0 k (x5++[(rd_T37 x13 x15).f0]) x13 x14 (wrap64 (x15+1)))else(none))else(none))else(none))else(some x5)
def impl_FlyFirst.f (k:Nat) (a1:Int) (a2:Int) (a3:List (S52)) (a4:Int) (a5:Int):Option (List Int):=(impl_FlySpans.f k a1 a2 a3 a4 a5).bind fun a0=>(impl_FlyFirst.l0 k ([]:List Int) a0.1 (a0.1.length:Int) 0)
set_option maxHeartbeats 8000000 in
set_option maxRecDepth 100000 in
theorem impl_FlyFirst.calls (k:Nat) (a9:Int) (b0:Int) (b3:Option Addr) (b4:Nat) (a5:List (S52)) (b1:Int) (b2:Int) (r:List Int) (w:World) (hr0_2:Kd.C k52 w b3 a5.length a5) (hc0_2:a5.length≤b4) (h:impl_FlyFirst.f k a9 b0 a5 b1 b2=some r):
 Calls Try.prog 11 #[.agg #[.int .i64 a9,.int .i64 b0,.slice b3 a5.length b4,.int .i64 b1,.int .i64 b2]] w fun e w'=> ∃v0_:Value,e= .returned (v0_)∧Kd.R (Kd.int .i64) 3 w' w.heap.size (fun _=>True) v0_ r∧Below w.heap.size w w':=by
 have g5:=Try.underlying27;have g6:=Try.underlying37;have e1:=zA hr0_2;have e2:=zA hc0_2;clear hr0_2 hc0_2;have HB:=zA (Below.refl w.heap.size w);have H:=h;clear h;unfold impl_FlyFirst.f at H;replace H:=Option.bind_eq_some_iff.mp H;obtain⟨⟨a1,f4⟩,f7,H⟩:=H;replace H:(impl_FlyFirst.l0 k ([]:List Int) a1 (a1.length:Int) 0)=some r:=H;have A2:=zA f7;clear f7;have H':=zA H;clear H
 go_enter Try.func11,Try.ntmps11
 go_wp2_with (first|((with_reducible refine gate_dst (N:=1) rfl ?_);refine zbx 1 #[.int .i64 a9,.int .i64 b0,.slice b3 a5.length b4,.int .i64 b1,.int .i64 b2] 27 ?_;intro b8 hg w3 hbox hb;have a2:=zA hbox;have f8:=zgs hg (zs0 HB);have a3:=zgs hg (zs0 HB);replace HB:=zE (zs0 HB) hb;clear hb hbox hg;obtain⟨c0,d0,d1,d2,d3⟩:=zd5 a2;obtain⟨d4,d5,d6,d7,d8⟩:=zn5 a2)|((with_reducible refine gate_callee (f:=5) rfl ?_);refine zgl (N:=some 10) Try.func5 #[.agg #[.int .i64 a9,.int .i64 b0,.slice b3 a5.length b4,.int .i64 b1,.int .i64 b2]] ?_;(with_reducible refine(impl_FlySpans.calls k a9 b0 _ _ a5 b1 b2 a1 f4 _ ?side1 ?side2 A2.out).mono ?_);(case side1=>exact zC e1 HB);(case side2=>exact e2.out);rintro e w5 ⟨g7,rfl,f9,hb⟩;refine⟨_,rfl,?_⟩;have b9:=zA (Kd.R_lower f9 (below_size (zs1 HB a3)));replace a2:=zb a2 hb;replace HB:=zE (zs1 HB a3) hb;(try clear hb);(try clear hb2);(try clear hk);(try clear hi);(try clear f9);obtain⟨Ao6,co6,g8⟩:=Kd.R_slice b9.out;subst g8))
 go_loopg [5,15] k (fun kq v5 g9 w'=> ∃(b5:List Int) (a0:Int),g9= .int .i64 a0∧Aside0 (impl_FlyFirst.l0 kq b5 a1 (a1.length:Int) a0=some r)∧Aside0 (kq≤k)∧Aside0 (Kd.R (Kd.int .i64) 3 w' w.heap.size (fun _=>True) v5 b5)∧Aside0 (Kd.R k37 37 w' w.heap.size (fun _=>True) (.slice Ao6 a1.length co6) a1)∧Aside0 (w'.heap[b8]?=some (.cells #[.int .i64 a9,.int .i64 b0,(.slice b3 a5.length b4),.int .i64 b1,.int .i64 b2] 27 (0,0)))∧Aside0 (Below w.heap.size w w'))
 case atStart=>exact⟨(([]:List Int)),(0),zi,H',⟨Nat.le_refl _⟩,⟨by first|exact Kd.R_nil _ _ _ _ _|exact Kd.N_nil _ _ _ _ _|exact Kd.V_nil _ _ _ _ _|exact Kd.Q_nil _ _ _ _ _|exact Kd.S_nil _ _ _ _ _⟩,⟨zr b9⟩,⟨zh a2⟩,⟨zs1 HB a3⟩⟩
 case round=>
  clear H'
  try clear c1
  try clear p2
  try clear c5
  try clear c0 d0 d1 d2 d3 d4 d5 d6 d7 d8
  obtain⟨b5,a0,rfl,HA,g0,HO_5,HO_13,a2,HB⟩:=hrel
  cases gk with
  |zero=>exact absurd HA.out (by simp[impl_FlyFirst.l0])
  |succ k1=>
   have H:=HA.out;clear HA;simp only[impl_FlyFirst.l0]at H
   by_cases c7:a0<(a1.length:Int)
   rotate_left
   ·rw[if_neg c7]at H
    have f5:decide (a0<(a1.length:Int))=false:=decide_eq_false c7;clear c7;obtain rfl:=Option.some.inj H
    go_wp2
    go_ret;exact⟨_,ze,zr HO_5,zs1 HB a3⟩
   rw[if_pos c7]at H;have f5:decide (a0<(a1.length:Int))=true:=decide_eq_true c7;clear c7;replace H:=zif H;obtain⟨h0,H⟩:=H
   by_cases c9:a0<(a1.length:Int)
   rotate_left
   ·rw[if_neg c9]at H
    exact absurd H (by simp)
   rw[if_pos c9]at H;have h1:decide (a0<(a1.length:Int))=true:=decide_eq_true c9;clear c9
   by_cases c10:b5.length<17592186044416
   rotate_left
   ·rw[if_neg c10]at H
    exact absurd H (by simp)
   rw[if_pos c10]at H;have LMc10:=zA c10;clear c10;obtain⟨e3,a7⟩: ∃y_:List Int,y_=(b5++[(rd_T37 a1 a0).f0]):=⟨_,rfl⟩
   replace H:(impl_FlyFirst.l0 k1 e3 a1 (a1.length:Int) (wrap64 (a0+1)))=some r:=by first|(rw[a7];with_reducible exact H)|(have H2_:=(Option.bind_some _ _).symm.trans H;rw[a7];with_reducible exact H2_)|(have H2_:=(Option.bind_some _ _).symm.trans H;with_reducible exact H2_)|with_reducible exact H|(rw[a7];exact H)|exact H
   have e4:=zA a7;clear a7;have H':=zA H;clear H;have d9:0≤(a0:Int):=za;have e0:a0<(a1.length:Int):=za;obtain⟨g1,f6,e6,e7⟩:=at_T37 (Kd.R_reads' HO_13.out).2.2 a0 d9 e0;cases f6;replace d9:=eq_true d9;replace e0:=eq_true e0
   go_wp2_with (first|((with_reducible refine gate_dst (N:=7) rfl ?_);refine zbx 7 #[.int .i64 0,.int .i64 0] 37 ?_;intro a8 hg h3 hbox hb;have a4:=zA hbox;have g2:=zgs hg (zs1 HB a3);have b7:=zgs hg (zs1 HB a3);have a6:=zne hg a2;have b6:=znf hg a2;replace HO_5:=zA (Kd.R_below (zr HO_5) hb);replace HO_13:=zA (Kd.R_below (Kd.R_elderB (zr HO_13) a8 (Nat.le_of_eq hg.symm)) hb);replace a2:=zb a2 hb;replace HB:=zE (zs1 HB a3) hb;clear hb hbox hg;have g3:=b6.out;have g4:=a6.out;obtain⟨e8,e9⟩:=zd2 a4;obtain⟨f2,f3⟩:=zn2 a4)|((with_reducible refine gate_builtin (b:= .append) (xs:=#[.tmp 19,.tmp 22]) rfl ?_);at_builtin;refine Kd.R_append (Kd.int .i64) (w0:=w) w.heap.size rfl (.tmp 19) (.tmp 22) 41 3 (.int .i64 0) 8 rfl Try.underlying41 info3 rfl (by decide) (by omega) u5 b5 ((rd_T37 a1 a0).f0) [.int .i64 ((rd_T37 a1 a0).f0)] (fun _=>True) (fun _=>False) rfl (by first|(go_simp;done)|(go_simp;rfl)) ?aP (fun _ hk=>hk.elim) ?aF ?aO ?aB ?aS ?aL ?_;(case aP=>exact rfl);(case aB=>exact(zs2 HB a3 b7));(case aF=>exact(fun _ _=>trivial));(case aO=>exact(zRf HO_5 a4 (fun _ hk=>trivial)));(case aS=>exact(below_size (zs2 HB a3 b7)));(case aL=>have:=LMc10.out;omega);intro h2 h4 ho hb hg hat;rw[←e4.out]at ho;have e5:=zA (ho);replace HO_13:=zA (Kd.R_over' (by(with_reducible repeat(first|apply Kd.R_alloc|apply Kd.R_drewN|apply Kd.R_drew));exact(Kd.R_mono (Kd.R_far (p:=⟨a8,1,none⟩) (Kd.R_far (p:=⟨a8,0,none⟩) (Kd.R_mono HO_13.out (fun k_ hk=>(⟨hk,hk.2⟩:_∧k_≠a8))) (fun _ hk=>hk.2) (.int .i64 ((rd_T37 a1 a0).f0))) (fun _ hk=>hk.2) (.int .i64 ((rd_T37 a1 a0).f1))) (fun _ h_=>h_.1))) (Kd.R_typed (zRf HO_5 a4 (fun _ h_=>h_.1))) (by decide) hg);replace a2:=zA (blk_grown (g:=b8) (o:= .cells #[.int .i64 a9,.int .i64 b0,.slice b3 a5.length b4,.int .i64 b1,.int .i64 b2] 27 (0,0)) (zpf a2 a6) hg (Kd.R_ne HO_5.out a2.out (by decide)));replace a4:=zA (blk_grown (g:=a8) (o:= .cells #[.int .i64 ((rd_T37 a1 a0).f0),.int .i64 ((rd_T37 a1 a0).f1)] 37 (0,0)) (zpb a4) hg (Kd.R_ne HO_5.out a4.out (by decide)));replace HB:=zA (hb);clear HO_5;clear ho hb hg hat))
   go_roundg k1
   case measure=>have:=g0.out;omega
   case rel=>exact⟨(e3),(wrap64 (a0+1)),zi,H',⟨by have:=g0.out;omega⟩,⟨zr e5⟩,⟨by(with_reducible repeat(first|apply Kd.R_alloc|apply Kd.R_drewN|apply Kd.R_drew));exact Kd.R_mono HO_13.out (fun _ hk=>trivial)⟩,⟨zh a2⟩,⟨zs2 HB a3 b7⟩⟩
def impl_FlyWhere.l0:Nat→List Int→Int→Int→Option (Int×Bool)
 |0,_,_,_=>none
 |k+1,x0,x1,x6=>if(wrap64 (x6+1))<(x0.length:Int)then(if 0≤x6 then(if x6<(x0.length:Int)then(if(rd x0 x6)≤x1 then(if 0≤(wrap64 (x6+1))then(if x1<(rd x0 (wrap64 (x6+1)))then(some (x6,true))else(impl_FlyWhere.l0 k x0 x1 (wrap64 (x6+1))))else(none))else(impl_FlyWhere.l0 k x0 x1 (wrap64 (x6+1))))else(none))else(none))else(some (0,false))
def impl_FlyWhere.f (k:Nat) (l0:List Int) (a1:Int):Option (Int×Bool):=impl_FlyWhere.l0 k l0 a1 0
set_option maxHeartbeats 8000000 in
set_option maxRecDepth 100000 in
theorem impl_FlyWhere.calls (k:Nat) (A0:Option Addr) (c0:Nat) (l0:List Int) (a1:Int) (r1:Int) (r2:Bool) (w:World) (hr0:Kd.C (Kd.int .i64) w A0 l0.length l0) (hc0:l0.length≤c0) (h:impl_FlyWhere.f k l0 a1=some (r1,r2)):
 Calls Try.prog 12 #[.slice A0 l0.length c0,.int .i64 a1] w fun e w'=>e= .returned (.tuple #[.int .i64 r1,.bool r2])∧Drawn0 w w':=by
 have b4:=zA hr0;have d3:=zA hc0;clear hr0 hc0;have H:=h;clear h;unfold impl_FlyWhere.f at H;have H':=zA H;clear H
 go_enter Try.func12,Try.ntmps12
 go_wp2
 go_loopg [6] k (fun kq v6 w'=> ∃(a0:Int),v6= .int .i64 a0∧Aside0 (impl_FlyWhere.l0 kq l0 a1 a0=some (r1,r2))∧Aside0 (kq≤k)∧Drawn0 w w')
 case atStart=>exact⟨(0),zi,H',⟨Nat.le_refl _⟩,by repeat(first|exact Drawn0.refl _|apply Drawn0.step)⟩
 case round=>
  clear H'
  try clear c1
  try clear p2
  obtain⟨a0,rfl,HA,b6,⟨m1,rfl⟩⟩:=hrel
  cases gk with
  |zero=>exact absurd HA.out (by simp[impl_FlyWhere.l0])
  |succ k1=>
   have H:=HA.out;clear HA;simp only[impl_FlyWhere.l0]at H
   by_cases c3:(wrap64 (a0+1))<(l0.length:Int)
   rotate_left
   ·rw[if_neg c3]at H
    have b5:decide ((wrap64 (a0+1))<(l0.length:Int))=false:=decide_eq_false c3;clear c3;simp only[Option.some.injEq,Prod.mk.injEq]at H;obtain⟨rfl,rfl⟩:=H
    go_wp2
    go_ret2
    exact⟨by first|rfl|(simp;done)|(simp[*];done),by repeat(first|exact Drawn0.refl _|apply Drawn0.step)⟩
   rw[if_pos c3]at H;have b5:decide ((wrap64 (a0+1))<(l0.length:Int))=true:=decide_eq_true c3;clear c3;replace H:=zif H;obtain⟨d0,H⟩:=H
   by_cases c5:a0<(l0.length:Int)
   rotate_left
   ·rw[if_neg c5]at H
    exact absurd H (by simp)
   rw[if_pos c5]at H;have d1:decide (a0<(l0.length:Int))=true:=decide_eq_true c5;clear c5
   by_cases c6:(rd l0 a0)≤a1
   rotate_left
   ·rw[if_neg c6]at H
    have b7:decide ((rd l0 a0)≤a1)=false:=decide_eq_false c6;clear c6;have H':=zA H;clear H;have a2:0≤(a0:Int):=za;have a3:a0<(l0.length:Int):=za;obtain⟨a6,a9,a7⟩:=Kd.at_int b4.out a0 a2 a3;cases a9;replace a2:=eq_true a2;replace a3:=eq_true a3
    go_wp2
    go_roundg k1
    case measure=>have:=b6.out;omega
    case rel=>exact⟨(wrap64 (a0+1)),zi,H',⟨by have:=b6.out;omega⟩,by repeat(first|exact Drawn0.refl _|apply Drawn0.step)⟩
   rw[if_pos c6]at H;have b7:decide ((rd l0 a0)≤a1)=true:=decide_eq_true c6;clear c6;obtain⟨b0,a8⟩: ∃j_:Int,(wrap64 (a0+1))=j_:=⟨_,rfl⟩
   first|rw[a8]at H|simp only[a8]at H
   (try rw[a8]at b5);have b9:(IntKind.i64.wrap (a0+1))=b0:=(i64_w _).trans a8;replace H:=zif H;obtain⟨d2,H⟩:=H
   by_cases c9:a1<(rd l0 (b0))
   ·rw[if_pos c9]at H
    have b8:decide (a1<(rd l0 (b0)))=true:=decide_eq_true c9;clear c9;simp only[Option.some.injEq,Prod.mk.injEq]at H;obtain⟨rfl,rfl⟩:=H;have a2:0≤(a0:Int):=za;have a3:a0<(l0.length:Int):=za;obtain⟨a6,a9,a7⟩:=Kd.at_int b4.out a0 a2 a3;cases a9;replace a2:=eq_true a2;replace a3:=eq_true a3;have a4:0≤((b0):Int):=za;have a5:(b0)<(l0.length:Int):=za;obtain⟨b1,b3,b2⟩:=Kd.at_int b4.out (b0) a4 a5;obtain rfl:a6=b1:=(by injection b3);replace a4:=eq_true a4;replace a5:=eq_true a5
    go_wp2
    go_ret2
    exact⟨by first|rfl|(simp;done)|(simp only[←a8]<;>(first|rfl|simp))|(simp[*];done),by repeat(first|exact Drawn0.refl _|apply Drawn0.step)⟩
   rw[if_neg c9]at H;have b8:decide (a1<(rd l0 (b0)))=false:=decide_eq_false c9;clear c9;have H':=zA H;clear H;have a2:0≤(a0:Int):=za;have a3:a0<(l0.length:Int):=za;obtain⟨a6,a9,a7⟩:=Kd.at_int b4.out a0 a2 a3;cases a9;replace a2:=eq_true a2;replace a3:=eq_true a3;have a4:0≤((b0):Int):=za;have a5:(b0)<(l0.length:Int):=za;obtain⟨b1,b3,b2⟩:=Kd.at_int b4.out (b0) a4 a5;obtain rfl:a6=b1:=(by injection b3);replace a4:=eq_true a4;replace a5:=eq_true a5
   go_wp2
   go_roundg k1
   case measure=>have:=b6.out;omega
   case rel=>exact⟨(b0),(by first|rfl|(simp;done)|(simp only[←a8]<;>(first|rfl|exact congrArg Value.bool (leq_not _ _)|exact leq_not _ _|simp))|(simp[*];done)),H',⟨by have:=b6.out;omega⟩,by repeat(first|exact Drawn0.refl _|apply Drawn0.step)⟩
end Go.Proofs.Ytidoahlbaeiemaa.QFnFlyTight
