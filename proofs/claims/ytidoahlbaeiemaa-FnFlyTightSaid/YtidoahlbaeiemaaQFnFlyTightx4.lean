/- The walk of what the law FnFlyTight reaches: laid by a program of this session (ownprint.py). -/
import Derived.Test.YtidoahlbaeiemaaQFnFlyTightx0
import Derived.Test.YtidoahlbaeiemaaQFnFlyTightx2
import Derived.Test.YtidoahlbaeiemaaQFnFlyTightx3
namespace Go.Proofs.Ytidoahlbaeiemaa.QFnFlyTight
open Go.RowKit Go.Proofs.YtidoahlbaeiemaaW.PrintWords Go.Proofs.YtidoahlbaeiemaaW.PrintLast Go.Proofs.YtidoahlbaeiemaaW.PrintMore Go.Proofs.Ytidoahlbaeiemaa.Z
attribute [local go_sem] max2_int min2_int max_two min_two max_three min_three max_four min_four zdn   -- for this text's walks alone
set_option linter.unusedVariables false
set_option linter.unusedSimpArgs false
mutual
def spec_l30Path.j0:Nat→Int→Int→Int→Int→Int→List Int→Int→Int→Int→Int→Int→Option (Int×Int×(List (S52))×Int×Int×Int)
 |0,_,_,_,_,_,_,_,_,_,_,_=>none
 |k+1,x4,x5,x6,x7,x8,a4,a5,a0,a1,a2,a3=>spec_l30Path.l0 k x4 x5 x6 x7 x8 0 a4 a5 a0 a1 ([]:List (S52)) a2 a3
def spec_l30Path.l0:Nat→Int→Int→Int→Int→Int→Int→List Int→Int→Int→Int→List (S52)→Int→Int→Option (Int×Int×(List (S52))×Int×Int×Int)
 |0,_,_,_,_,_,_,_,_,_,_,_,_,_=>none
 |k+1,x4,x5,x6,x7,x8,x9,a0,a9,a1,a2,a3,a4,a5=>if x9<x8 then((spec_l21Rd_pick.f k a0 a9 3).bind fun a6=>((spec_l21Rd_pick.f k a0 a6.2 6).bind fun b0=>((spec_l30Less.f x4 b0.1).bind fun b5=>((spec_l21Rd_pick.f k a0 b0.2 8).bind fun b1=>((spec_l21Rd_pick.f k a0 b1.2 6).bind fun a7=>((spec_l21Rd_pick.f k a0 a7.2 3).bind fun a8=>(if a8.1=0 then((spec_l21Rd_pick.f k a0 a8.2 90).bind fun b2=>(spec_l30Path.j2 k x4 x5 x6 x8 x9 a0 b2.2 a1 a2 a3 a4 a5 x5 x6 x7 (wrap64 (x7+a6.1)) 0 (wrap64 (x4+b2.1)) (a7.1==0)))else(spec_l30Path.j2 k x4 x5 x6 x8 x9 a0 a8.2 a1 a2 a3 a4 a5 x5 x6 x7 (wrap64 (x7+a6.1)) b5 (wrap64 (x4+b1.1)) (a7.1==0)))))))))else((spec_l21Rd_pick.f k a0 a9 5).bind fun b3=>((spec_l30Less.f x4 b3.1).bind fun b6=>((spec_l21Rd_pick.f k a0 b3.2 9).bind fun b4=>(some (a1,a2,a3,b6,wrap64 (x4+b4.1),b4.2)))))
def spec_l30Path.j2:Nat→Int→Int→Int→Int→Int→List Int→Int→Int→Int→List (S52)→Int→Int→Int→Int→Int→Int→Int→Int→Bool→Option (Int×Int×(List (S52))×Int×Int×Int)
 |0,_,_,_,_,_,_,_,_,_,_,_,_,_,_,_,_,_,_,_=>none
 |k+1,x4,x5,x6,x8,x9,a9,b5,a0,a2,b0,b1,b2,a3,a4,a5,a6,a7,a8,a1=>if b0.length<2513169434916 then((some (b0++[(⟨a3,a4,a5,a6,a7,a8,a1⟩:S52)]:List (S52))).bind fun b6=>((spec_l21Rd_pick.f k a9 b5 (wrap64 ((wrap64 (a2-a0))+1))).bind fun b3=>(if a1=true then((spec_l21Rd_pick.f k a9 b3.2 2).bind fun b4=>(spec_l30Path.j3 k x4 x5 x6 x8 x9 (wrap64 (a0+b3.1)) (b4.1==0) a9 b4.2 a0 a2 b6 b1 b2 a3 a4 a5 a6 a7 a8 a1))else(spec_l30Path.j3 k x4 x5 x6 x8 x9 (wrap64 (a0+b3.1)) false a9 b3.2 a0 a2 b6 b1 b2 a3 a4 a5 a6 a7 a8 a1))))else(none)
def spec_l30Path.j3:Nat→Int→Int→Int→Int→Int→Int→Bool→List Int→Int→Int→Int→List (S52)→Int→Int→Int→Int→Int→Int→Int→Int→Bool→Option (Int×Int×(List (S52))×Int×Int×Int)
 |0,_,_,_,_,_,_,_,_,_,_,_,_,_,_,_,_,_,_,_,_,_=>none
 |k+1,x4,x5,x6,x8,x9,x11,x91,b2,b3,a0,a1,a2,a3,a4,a5,a6,a7,a8,a9,b0,b1=>if x91=true then((spec_l21Rd_pick.f k b2 b3 20).bind fun b4=>(spec_l30Path.j4 k x4 x5 x6 x8 x9 (wrap64 (a0+b4.1)) b2 b4.2 a0 a1 a2 a3 a4 a5 a6 a7 a8 a9 b0 b1))else(spec_l30Path.j4 k x4 x5 x6 x8 x9 x11 b2 b3 a0 a1 a2 a3 a4 a5 a6 a7 a8 a9 b0 b1)
def spec_l30Path.j4:Nat→Int→Int→Int→Int→Int→Int→List Int→Int→Int→Int→List (S52)→Int→Int→Int→Int→Int→Int→Int→Int→Bool→Option (Int×Int×(List (S52))×Int×Int×Int)
 |0,_,_,_,_,_,_,_,_,_,_,_,_,_,_,_,_,_,_,_,_=>none
 |k+1,x4,x5,x6,x8,x9,x11,a1,a9,a2,a3,a4,a5,a6,b1,b2,b3,a8,b4,b5,b6=>(spec_l30Step.f k a1 a9 x5 x6).bind fun a0=>((spec_l21Rd_pick.f k a1 a0.2.2 2).bind fun a7=>((spec_l30Less.f a8 a7.1).bind fun b0=>(if b0>3 then(spec_l30Path.l0 k (wrap64 (x4+x11)) a0.1 a0.2.1 3 x8 (wrap64 (x9+1)) a1 a7.2 a2 a3 a4 a5 a6)else(spec_l30Path.l0 k (wrap64 (x4+x11)) a0.1 a0.2.1 b0 x8 (wrap64 (x9+1)) a1 a7.2 a2 a3 a4 a5 a6))))
end
def spec_l30Path.f (k:Nat) (s0_0:List Int) (s0_1:Int):Option (Int×Int×(List (S52))×Int×Int×Int):=(spec_l30Kind.f k s0_0 s0_1).bind fun a0=>((spec_l21Rd_pick.f k s0_0 a0.2.2 30).bind fun a1=>((spec_l21Rd_pick.f k s0_0 a1.2 16).bind fun a2=>((spec_l21Rd_pick.f k s0_0 a2.2 16).bind fun a3=>((spec_l21Rd_pick.f k s0_0 a3.2 4).bind fun a4=>((spec_l21Rd_pick.f k s0_0 a4.2 8).bind fun a6=>((spec_l21Rd_pick.f k s0_0 a6.2 24).bind fun a5=>(if a5.1=0 then((spec_l21Rd_pick.f k s0_0 a5.2 2).bind fun a7=>(spec_l30Path.j0 k a1.1 a2.1 a3.1 a4.1 (wrap64 (40-a7.1)) s0_0 a7.2 a0.1 a0.2.1 0 0))else(spec_l30Path.j0 k a1.1 a2.1 a3.1 a4.1 (wrap64 (1+a6.1)) s0_0 a5.2 a0.1 a0.2.1 0 0))))))))
def spec_l30Path.T17:Bool×List (List Nat×List Nat):=(true,[([],[]),([0],[0]),([1],[1]),([],[]),([],[]),([4],[4]),([5],[5]),([],[]),([7],[7]),([8],[8]),([6,9],[6,9]),([10],[10]),([3,11],[3,11]),([2,12],[2,12]),([13,12,0,1,2,3,4,5,6,7,8,9,10,11,12,13],[13])])
def spec_l30Path.B17:List Nat:=[0,1,3,0,0,16,48,0,128,384,1008,2032,4088,8191,16383]
theorem spec_l30Path.tab17:rtab .any (opsOf Try.f23 17)=spec_l30Path.T17:=by kernel_rfl
theorem spec_l30Path.bits17:waitsOk spec_l30Path.T17.2 spec_l30Path.B17=true:=by kernel_rfl
set_option maxHeartbeats 8000000 in
set_option maxRecDepth 100000 in
theorem spec_l30Path.calls (k:Nat) (g:Nat) (s0_0:List Int) (s0_1:Int) (r1:Int) (r2:Int) (r3:List (S52)) (r4:Int) (r5:Int) (r6:Int) (w0 w:World) (hI:IsS61 w0 w g s0_0 s0_1) (hB:Below w0.heap.size w0 w) (h:spec_l30Path.f k s0_0 s0_1=some (r1,r2,r3,r4,r5,r6)):
 Calls Try.prog 23 #[.pointer (some ⟨g,0,none⟩)] w fun e w'=> ∃v2_:Value,e= .returned (.agg #[.int .i64 r1,.int .i64 r2,v2_,.int .i64 r4,.int .i64 r5])∧Kd.R k52 52 w' w.heap.size (fun _=>True) v2_ r3∧IsS61 w0 w' g s0_0 r6∧Below w0.heap.size w0 w'∧KeepBut w w' g none:=by
 have Q4:=Try.underlying27;have Q5:=Try.underlying52;have b0:=zA hI;have HK:=zA (KeepBut.refl w g none);have HL:=zA hB.size;clear hI;have J8:=zA hB.size;have HB:=zA hB;clear hB;have H:=h;clear h;unfold spec_l30Path.f at H;replace H:=Option.bind_eq_some_iff.mp H;obtain⟨⟨b1,b3,C4⟩,K3,H⟩:=H;replace H:((spec_l21Rd_pick.f k s0_0 C4 30).bind fun y7=>((spec_l21Rd_pick.f k s0_0 y7.2 16).bind fun h9=>((spec_l21Rd_pick.f k s0_0 h9.2 16).bind fun f9=>((spec_l21Rd_pick.f k s0_0 f9.2 4).bind fun e7=>((spec_l21Rd_pick.f k s0_0 e7.2 8).bind fun f2=>((spec_l21Rd_pick.f k s0_0 f2.2 24).bind fun d5=>(if d5.1=0 then((spec_l21Rd_pick.f k s0_0 d5.2 2).bind fun e0=>(spec_l30Path.j0 k y7.1 h9.1 f9.1 e7.1 (wrap64 (40-e0.1)) s0_0 e0.2 b1 b3 0 0))else(spec_l30Path.j0 k y7.1 h9.1 f9.1 e7.1 (wrap64 (1+f2.1)) s0_0 d5.2 b1 b3 0 0))))))))=some (r1,r2,r3,r4,r5,r6):=H;have A2:=zA K3;clear K3;replace H:=Option.bind_eq_some_iff.mp H;obtain⟨⟨g1,C5⟩,I2,H⟩:=H;replace H:((spec_l21Rd_pick.f k s0_0 C5 16).bind fun h9=>((spec_l21Rd_pick.f k s0_0 h9.2 16).bind fun f9=>((spec_l21Rd_pick.f k s0_0 f9.2 4).bind fun e7=>((spec_l21Rd_pick.f k s0_0 e7.2 8).bind fun f2=>((spec_l21Rd_pick.f k s0_0 f2.2 24).bind fun d5=>(if d5.1=0 then((spec_l21Rd_pick.f k s0_0 d5.2 2).bind fun e0=>(spec_l30Path.j0 k g1 h9.1 f9.1 e7.1 (wrap64 (40-e0.1)) s0_0 e0.2 b1 b3 0 0))else(spec_l30Path.j0 k g1 h9.1 f9.1 e7.1 (wrap64 (1+f2.1)) s0_0 d5.2 b1 b3 0 0)))))))=some (r1,r2,r3,r4,r5,r6):=H;have A3:=zA I2;clear I2;replace H:=Option.bind_eq_some_iff.mp H;obtain⟨⟨g3,C6⟩,K4,H⟩:=H;replace H:((spec_l21Rd_pick.f k s0_0 C6 16).bind fun f9=>((spec_l21Rd_pick.f k s0_0 f9.2 4).bind fun e7=>((spec_l21Rd_pick.f k s0_0 e7.2 8).bind fun f2=>((spec_l21Rd_pick.f k s0_0 f2.2 24).bind fun d5=>(if d5.1=0 then((spec_l21Rd_pick.f k s0_0 d5.2 2).bind fun e0=>(spec_l30Path.j0 k g1 g3 f9.1 e7.1 (wrap64 (40-e0.1)) s0_0 e0.2 b1 b3 0 0))else(spec_l30Path.j0 k g1 g3 f9.1 e7.1 (wrap64 (1+f2.1)) s0_0 d5.2 b1 b3 0 0))))))=some (r1,r2,r3,r4,r5,r6):=H;have A4:=zA K4;clear K4;replace H:=Option.bind_eq_some_iff.mp H;obtain⟨⟨h6,C7⟩,K5,H⟩:=H;replace H:((spec_l21Rd_pick.f k s0_0 C7 4).bind fun e7=>((spec_l21Rd_pick.f k s0_0 e7.2 8).bind fun f2=>((spec_l21Rd_pick.f k s0_0 f2.2 24).bind fun d5=>(if d5.1=0 then((spec_l21Rd_pick.f k s0_0 d5.2 2).bind fun e0=>(spec_l30Path.j0 k g1 g3 h6 e7.1 (wrap64 (40-e0.1)) s0_0 e0.2 b1 b3 0 0))else(spec_l30Path.j0 k g1 g3 h6 e7.1 (wrap64 (1+f2.1)) s0_0 d5.2 b1 b3 0 0)))))=some (r1,r2,r3,r4,r5,r6):=H;have A5:=zA K5;clear K5;replace H:=Option.bind_eq_some_iff.mp H;obtain⟨⟨i4,C8⟩,K6,H⟩:=H;replace H:((spec_l21Rd_pick.f k s0_0 C8 8).bind fun f2=>((spec_l21Rd_pick.f k s0_0 f2.2 24).bind fun d5=>(if d5.1=0 then((spec_l21Rd_pick.f k s0_0 d5.2 2).bind fun e0=>(spec_l30Path.j0 k g1 g3 h6 i4 (wrap64 (40-e0.1)) s0_0 e0.2 b1 b3 0 0))else(spec_l30Path.j0 k g1 g3 h6 i4 (wrap64 (1+f2.1)) s0_0 d5.2 b1 b3 0 0))))=some (r1,r2,r3,r4,r5,r6):=H;have A6:=zA K6;clear K6;replace H:=Option.bind_eq_some_iff.mp H;obtain⟨⟨z8,C9⟩,K7,H⟩:=H;replace H:((spec_l21Rd_pick.f k s0_0 C9 24).bind fun d5=>(if d5.1=0 then((spec_l21Rd_pick.f k s0_0 d5.2 2).bind fun e0=>(spec_l30Path.j0 k g1 g3 h6 i4 (wrap64 (40-e0.1)) s0_0 e0.2 b1 b3 0 0))else(spec_l30Path.j0 k g1 g3 h6 i4 (wrap64 (1+z8)) s0_0 d5.2 b1 b3 0 0)))=some (r1,r2,r3,r4,r5,r6):=H;have A7:=zA K7;clear K7;replace H:=Option.bind_eq_some_iff.mp H;obtain⟨⟨o5,y8⟩,I3,H⟩:=H;replace H:(if o5=0 then((spec_l21Rd_pick.f k s0_0 y8 2).bind fun e0=>(spec_l30Path.j0 k g1 g3 h6 i4 (wrap64 (40-e0.1)) s0_0 e0.2 b1 b3 0 0))else(spec_l30Path.j0 k g1 g3 h6 i4 (wrap64 (1+z8)) s0_0 y8 b1 b3 0 0))=some (r1,r2,r3,r4,r5,r6):=H;have A8:=zA I3;clear I3;have J9:=zA H;clear H
 go_enter Try.func23,Try.ntmps23
 go_upto_if 28 with(first|((with_reducible refine gate_dst (N:=2) rfl ?_);refine zbx 2 #[.int .i64 0,.int .i64 0,.slice none 0 0,.int .i64 0,.int .i64 0] 27 ?_;intro e8 hg U1 hbox hb;have a4:=zA hbox;have b2:=zgw hg (zK0 HK);have b6:=zge J8 b2;have a1:=znl hg (IsS61.lt (zI0 b0));have b9:=zns a1;replace HK:=zKb (zK0 HK) hb;replace HB:=zE (zB0 b0 HB) hb;replace b0:=zib (zI0 b0) hb;clear hb hbox hg)|((with_reducible refine gate_callee (f:=33) rfl ?_);refine zgl (N:=some 13) Try.func33 #[.pointer (some ⟨g,0,none⟩)] ?_;(with_reducible refine(spec_l30Kind.calls k g s0_0 s0_1 b1 b3 C4 w0 _ ?side1 ?side2 A2.out).mono ?_);(case side1=>exact zI1 b0 a1);(case side2=>exact zB1 b0 HB b6);rintro e U2 ⟨rfl,hi,hb,hk⟩;refine⟨_,rfl,?_⟩;replace a4:=zbh hk a4 b9;replace HK:=zKk (zK1 HK b2) hk;replace HB:=zA (hb);replace b0:=zA (hi);(try clear hb);(try clear hb2);(try clear hk);(try clear hi))|((with_reducible refine gate_dst (N:=3) rfl ?_);refine zbx 3 #[.int .i64 0,.int .i64 0,.slice none 0 0,.int .i64 0,.int .i64 0] 27 ?_;intro d6 hg U3 hbox hb;have a0:=zA hbox;have b5:=zgw hg (zK1 HK b2);have c0:=zge J8 b5;have e5:=zne hg a4;have h4:=znf hg a4;have a2:=znl hg (IsS61.lt (zI1 b0 a1));have b4:=zns a2;replace a4:=zb a4 hb;replace HK:=zKb (zK1 HK b2) hb;replace HB:=zE (zB1 b0 HB b6) hb;replace b0:=zib (zI1 b0 a1) hb;clear hb hbox hg;have K8:=h4.out;have K9:=e5.out;have L0:=b4.out;have L1:=a2.out;obtain⟨g4,g5,g6,g7,g8⟩:=zd5 a0;obtain⟨g9,h0,h1,h2,h3⟩:=zn5 a0)|((with_reducible refine gate_callee (f:=24) rfl ?_);refine zgl (N:=some 16) Try.func24 #[.pointer (some ⟨g,0,none⟩),.int .i64 30] ?_;(with_reducible refine(spec_l21Rd_pick.calls k g s0_0 C4 30 g1 C5 w0 _ ?side1 ?side2 A3.out).mono ?_);(case side1=>exact zI2 b0 a1 a2);(case side2=>exact zB2 b0 HB b6 c0);rintro e U4 ⟨rfl,hi,hb,hk⟩;refine⟨_,rfl,?_⟩;replace a4:=zbk hk (o:= .cells #[.int .i64 0,.int .i64 0,.slice none 0 0,.int .i64 0,.int .i64 0] 27 (0,0)) (zpf a4 e5) b9;replace a0:=zbk hk (o:= .cells #[.int .i64 b1,.int .i64 b3,.slice none 0 0,.int .i64 0,.int .i64 0] 27 (0,0)) (zpb a0) b4;replace HK:=zKk (zK2 HK b2 b5) hk;replace HB:=zA (hb);replace b0:=zA (hi);(try clear hb);(try clear hb2);(try clear hk);(try clear hi))|((with_reducible refine gate_callee (f:=24) rfl ?_);refine zgl (N:=some 18) Try.func24 #[.pointer (some ⟨g,0,none⟩),.int .i64 16] ?_;(with_reducible refine(spec_l21Rd_pick.calls k g s0_0 C5 16 g3 C6 w0 _ ?side1 ?side2 A4.out).mono ?_);(case side1=>exact zI2 b0 a1 a2);(case side2=>exact zB2 b0 HB b6 c0);rintro e U5 ⟨rfl,hi,hb,hk⟩;refine⟨_,rfl,?_⟩;replace a4:=zbh hk a4 b9;replace a0:=zbh hk a0 b4;replace HK:=zKk (zK2 HK b2 b5) hk;replace HB:=zA (hb);replace b0:=zA (hi);(try clear hb);(try clear hb2);(try clear hk);(try clear hi))|((with_reducible refine gate_callee (f:=24) rfl ?_);refine zgl (N:=some 20) Try.func24 #[.pointer (some ⟨g,0,none⟩),.int .i64 16] ?_;(with_reducible refine(spec_l21Rd_pick.calls k g s0_0 C6 16 h6 C7 w0 _ ?side1 ?side2 A5.out).mono ?_);(case side1=>exact zI2 b0 a1 a2);(case side2=>exact zB2 b0 HB b6 c0);rintro e U6 ⟨rfl,hi,hb,hk⟩;refine⟨_,rfl,?_⟩;replace a4:=zbh hk a4 b9;replace a0:=zbh hk a0 b4;replace HK:=zKk (zK2 HK b2 b5) hk;replace HB:=zA (hb);replace b0:=zA (hi);(try clear hb);(try clear hb2);(try clear hk);(try clear hi))|((with_reducible refine gate_callee (f:=24) rfl ?_);refine zgl (N:=some 22) Try.func24 #[.pointer (some ⟨g,0,none⟩),.int .i64 4] ?_;(with_reducible refine(spec_l21Rd_pick.calls k g s0_0 C7 4 i4 C8 w0 _ ?side1 ?side2 A6.out).mono ?_);(case side1=>exact zI2 b0 a1 a2);(case side2=>exact zB2 b0 HB b6 c0);rintro e U7 ⟨rfl,hi,hb,hk⟩;refine⟨_,rfl,?_⟩;replace a4:=zbh hk a4 b9;replace a0:=zbh hk a0 b4;replace HK:=zKk (zK2 HK b2 b5) hk;replace HB:=zA (hb);replace b0:=zA (hi);(try clear hb);(try clear hb2);(try clear hk);(try clear hi))|((with_reducible refine gate_callee (f:=24) rfl ?_);refine zgl (N:=some 24) Try.func24 #[.pointer (some ⟨g,0,none⟩),.int .i64 8] ?_;(with_reducible refine(spec_l21Rd_pick.calls k g s0_0 C8 8 z8 C9 w0 _ ?side1 ?side2 A7.out).mono ?_);(case side1=>exact zI2 b0 a1 a2);(case side2=>exact zB2 b0 HB b6 c0);rintro e U8 ⟨rfl,hi,hb,hk⟩;refine⟨_,rfl,?_⟩;replace a4:=zbh hk a4 b9;replace a0:=zbh hk a0 b4;replace HK:=zKk (zK2 HK b2 b5) hk;replace HB:=zA (hb);replace b0:=zA (hi);(try clear hb);(try clear hb2);(try clear hk);(try clear hi))|((with_reducible refine gate_callee (f:=24) rfl ?_);refine zgl (N:=some 27) Try.func24 #[.pointer (some ⟨g,0,none⟩),.int .i64 24] ?_;(with_reducible refine(spec_l21Rd_pick.calls k g s0_0 C9 24 o5 y8 w0 _ ?side1 ?side2 A8.out).mono ?_);(case side1=>exact zI2 b0 a1 a2);(case side2=>exact zB2 b0 HB b6 c0);rintro e U9 ⟨rfl,hi,hb,hk⟩;refine⟨_,rfl,?_⟩;replace a4:=zbh hk a4 b9;replace a0:=zbh hk a0 b4;replace HK:=zKk (zK2 HK b2 b5) hk;replace HB:=zA (hb);replace b0:=zA (hi);(try clear hb);(try clear hb2);(try clear hk);(try clear hi)))
 (try simp only[Act.put,List.setIfInBounds_toArray,List.set_cons_zero,List.set_cons_succ])
 go_cut [8] (fun v8 wc=> ∃(kq:Nat) (d9:Int) (h8:Int),v8= .int .i64 d9∧Aside0 (spec_l30Path.j0 kq g1 g3 h6 i4 d9 s0_0 h8 b1 b3 0 0=some (r1,r2,r3,r4,r5,r6))∧Aside0 (kq≤k)∧Aside0 (wc.heap[e8]?=some (.cells #[.int .i64 0,.int .i64 0,(.slice none 0 0),.int .i64 0,.int .i64 0] 27 (0,0)))∧Aside0 (wc.heap[d6]?=some (.cells #[.int .i64 b1,.int .i64 b3,(.slice none 0 0),.int .i64 0,.int .i64 0] 27 (0,0)))∧Aside0 (IsS61 w0 wc g s0_0 h8)∧Aside0 (KeepBut w wc g none)∧Aside0 (Below w0.heap.size w0 wc))
 case first=>
  have H:=J9.out;clear J9
  by_cases y6:o5=0
  rotate_left
  ·rw[if_neg y6]at H
   have g2:(o5==0)=false:=beq_eq_false_iff_ne.mpr y6;have i5:(o5 !=0)=true:=bne_iff_ne.mpr y6;(first|rw[g2]|(simp only[i64_w,i32_w];rw[g2])|skip);have H':=zA H;clear H
   go_wp2
   go_meet
   case rel=>exact⟨_,(wrap64 (1+z8)),(y8),zi,H',⟨by first|omega|exact Nat.le_refl _⟩,⟨zh a4⟩,⟨zh a0⟩,⟨zI2 b0 a1 a2⟩,⟨zK2 HK b2 b5⟩,⟨zB2 b0 HB b6 c0⟩⟩
  rw[if_pos y6]at H;have g2:(o5==0)=true:=beq_iff_eq.mpr y6;have i5:(o5 !=0)=false:=bne_eq_false_iff_eq.mpr y6;clear y6;(first|rw[g2]|(simp only[i64_w,i32_w];rw[g2])|skip);replace H:=Option.bind_eq_some_iff.mp H;obtain⟨⟨D0,D1⟩,E3,H⟩:=H;replace H:(spec_l30Path.j0 k g1 g3 h6 i4 (wrap64 (40-D0)) s0_0 D1 b1 b3 0 0)=some (r1,r2,r3,r4,r5,r6):=H;have Q6:=zA E3;clear E3;have H':=zA H;clear H
  go_wp2_with (first|((with_reducible refine gate_callee (f:=24) rfl ?_);refine zgl (N:=some 30) Try.func24 #[.pointer (some ⟨g,0,none⟩),.int .i64 2] ?_;(with_reducible refine(spec_l21Rd_pick.calls k g s0_0 y8 2 D0 D1 w0 _ ?side1 ?side2 Q6.out).mono ?_);(case side1=>exact zI2 b0 a1 a2);(case side2=>exact zB2 b0 HB b6 c0);rintro e V0 ⟨rfl,hi,hb,hk⟩;refine⟨_,rfl,?_⟩;replace a4:=zbh hk a4 b9;replace a0:=zbh hk a0 b4;replace HK:=zKk (zK2 HK b2 b5) hk;replace HB:=zA (hb);replace b0:=zA (hi);(try clear hb);(try clear hb2);(try clear hk);(try clear hi)))
  go_meet
  case rel=>exact⟨_,(wrap64 (40-D0)),(D1),zi,H',⟨by first|omega|exact Nat.le_refl _⟩,⟨zh a4⟩,⟨zh a0⟩,⟨zI2 b0 a1 a2⟩,⟨zK2 HK b2 b5⟩,⟨zB2 b0 HB b6 c0⟩⟩
 case rest=>
  clear J9
  try clear c1
  try clear c2
  try clear p2
  try clear c3
  try clear p6
  try clear I4
  try clear I5
  try clear y6
  try clear g2
  try clear i5
  try clear I6
  try clear I7
  try clear g4 g5 g6 g7 g8 g9 h0 h1 h2 h3
  obtain⟨kq,d9,h8,rfl,HA,z5,a4,a0,b0,HK,HB⟩:=hcut
  cases kq with
  |zero=>exact absurd HA.out (by simp[spec_l30Path.j0])
  |succ L2=>
   have H:=HA.out;clear HA;simp only[spec_l30Path.j0]at H;have H':=zA H;clear H
   go_wp2
   go_loopg [4,5,6,7,9] L2 (fun kq v4 v5 v6 v7 v9 w'=> ∃(d0:Int) (b7:Int) (b8:Int) (a9:Int) (d7:Int) (f7:Int) (a7:List (S52)) (u125002:Value),v4= .int .i64 d0∧v5= .int .i64 b7∧v6= .int .i64 b8∧v7= .int .i64 a9∧v9= .int .i64 d7∧Aside0 (spec_l30Path.l0 kq d0 b7 b8 a9 d9 d7 s0_0 f7 b1 b3 a7 0 0=some (r1,r2,r3,r4,r5,r6))∧Aside0 (kq≤L2)∧Aside0 (Kd.R k52 52 w' w.heap.size (fun _=>True) u125002 a7)∧Aside0 (w'.heap[e8]?=some (.cells #[.int .i64 0,.int .i64 0,(.slice none 0 0),.int .i64 0,.int .i64 0] 27 (0,0)))∧Aside0 (w'.heap[d6]?=some (.cells #[.int .i64 b1,.int .i64 b3,u125002,.int .i64 0,.int .i64 0] 27 (0,0)))∧Aside0 (IsS61 w0 w' g s0_0 f7)∧Aside0 (KeepBut w w' g none)∧Aside0 (Below w0.heap.size w0 w'))
   case atStart=>exact⟨(g1),(g3),(h6),(i4),(0),(h8),(([]:List (S52))),(.slice none 0 0),zi,zi,zi,zi,zi,H',⟨Nat.le_refl _⟩,⟨by first|exact Kd.R_nil _ _ _ _ _|exact Kd.N_nil _ _ _ _ _|exact Kd.V_nil _ _ _ _ _|exact Kd.Q_nil _ _ _ _ _|exact Kd.S_nil _ _ _ _ _⟩,⟨zh a4⟩,⟨zh a0⟩,⟨zI2 b0 a1 a2⟩,⟨zK2 HK b2 b5⟩,⟨zB2 b0 HB b6 c0⟩⟩
   case round=>
    clear H'
    try clear c1
    try clear c2
    try clear p2
    try clear c3
    try clear p6
    try clear I4
    try clear I5
    try clear y6
    try clear g2
    try clear i5
    try clear I6
    try clear I7
    try clear g4 g5 g6 g7 g8 g9 h0 h1 h2 h3
    try clear p2
    try clear p6
    obtain⟨d0,b7,b8,a9,d7,f7,a7,u125002,rfl,rfl,rfl,rfl,rfl,HA,z6,HO_125002,a4,a0,b0,HK,HB⟩:=hrel
    cases gk with
    |zero=>exact absurd HA.out (by simp[spec_l30Path.l0])
    |succ k2=>
     have H:=HA.out;clear HA;simp only[spec_l30Path.l0]at H
     by_cases z9:d7<d9
     rotate_left
     ·rw[if_neg z9]at H
      have p0:decide (d7<d9)=false:=decide_eq_false z9;clear z9;replace H:=Option.bind_eq_some_iff.mp H;obtain⟨⟨A0,y9⟩,E4,H⟩:=H;replace H:((spec_l30Less.f d0 A0).bind fun o6=>((spec_l21Rd_pick.f k2 s0_0 y9 9).bind fun C1=>(some (b1,b3,a7,o6,wrap64 (d0+C1.1),C1.2))))=some (r1,r2,r3,r4,r5,r6):=H;have Q7:=zA E4;clear E4;replace H:=zbd H;obtain⟨o6,Q8,H⟩:=H;replace H:=Option.bind_eq_some_iff.mp H;obtain⟨⟨z0,E5⟩,E6,H⟩:=H;replace H:(some (b1,b3,a7,o6,wrap64 (d0+z0),E5))=some (r1,r2,r3,r4,r5,r6):=H;have Q9:=zA E6;clear E6;simp only[Option.some.injEq,Prod.mk.injEq]at H;obtain⟨rfl,rfl,rfl,rfl,rfl,rfl⟩:=H
      go_wp2_with (first|((with_reducible refine gate_callee (f:=24) rfl ?_);refine zgl (N:=some 117) Try.func24 #[.pointer (some ⟨g,0,none⟩),.int .i64 5] ?_;(with_reducible refine(spec_l21Rd_pick.calls k2 g s0_0 f7 5 A0 y9 w0 _ ?side1 ?side2 Q7.out).mono ?_);(case side1=>exact zI2 b0 a1 a2);(case side2=>exact zB2 b0 HB b6 c0);rintro e A1 ⟨rfl,hi,hb,hk⟩;refine⟨_,rfl,?_⟩;replace HO_125002:=zok (show IsS61 w0 _ g s0_0 f7 from zI2 b0 a1 a2) (zr HO_125002) hk;replace a4:=zbh hk a4 b9;replace a0:=zbh hk a0 b4;replace HK:=zKk (zK2 HK b2 b5) hk;replace HB:=zA (hb);replace b0:=zA (hi);(try clear hb);(try clear hb2);(try clear hk);(try clear hi))|((with_reducible refine gate_callee (f:=34) rfl ?_);refine zgl (N:=some 118) Try.func34 #[.int .i64 d0,.int .i64 A0] ?_;(with_reducible refine(spec_l30Less.calls d0 A0 o6 _ Q8.out).mono ?_);rintro e w' ⟨rfl,⟨nd,rfl⟩⟩;refine⟨_,rfl,?_⟩;(try(rw[drewN_self A1];generalize hq_:World.drewN A1 _=A1;replace HO_125002:Aside0 (Kd.R k52 52 A1 w.heap.size (fun _=>True) u125002 a7):=⟨by rw[←hq_];exact(zr HO_125002)⟩;replace a4:Aside0 (A1.heap[e8]?=some (.cells #[.int .i64 0,.int .i64 0,.slice none 0 0,.int .i64 0,.int .i64 0] 27 (0,0))):=⟨by rw[←hq_];exact(zh a4)⟩;replace a0:Aside0 (A1.heap[d6]?=some (.cells #[.int .i64 b1,.int .i64 b3,u125002,.int .i64 0,.int .i64 0] 27 (0,0))):=⟨by rw[←hq_];exact(zh a0)⟩;replace HK:Aside0 (KeepBut w A1 g none):=⟨by rw[←hq_];exact(zK2 HK b2 b5)⟩;replace HB:Aside0 (Below w0.heap.size w0 A1):=⟨by rw[←hq_];exact(zB2 b0 HB b6 c0)⟩;replace b0:Aside0 (IsS61 w0 A1 g s0_0 y9):=⟨by rw[←hq_];exact(zI2 b0 a1 a2)⟩;clear hq_));have L3:=h4.out;have L4:=e5.out;have L5:=b4.out;have L6:=a2.out;obtain⟨I8,I9,J0,J1,J2⟩:=zd5 a0;obtain⟨J3,J4,J5,J6,J7⟩:=zn5 a0)|((with_reducible refine gate_callee (f:=24) rfl ?_);refine zgl (N:=some 122) Try.func24 #[.pointer (some ⟨g,0,none⟩),.int .i64 9] ?_;(with_reducible refine(spec_l21Rd_pick.calls k2 g s0_0 y9 9 z0 E5 w0 _ ?side1 ?side2 Q9.out).mono ?_);(case side1=>exact zI2 b0 a1 a2);(case side2=>exact zB2 b0 HB b6 c0);rintro e R0 ⟨rfl,hi,hb,hk⟩;refine⟨_,rfl,?_⟩;replace HO_125002:=zok (show IsS61 w0 _ g s0_0 y9 from zI2 b0 a1 a2) (zRf HO_125002 a0 (fun _ h_=>h_.1)) hk;replace a4:=zbk hk (o:= .cells #[.int .i64 0,.int .i64 0,.slice none 0 0,.int .i64 0,.int .i64 0] 27 (0,0)) (zpf a4 e5) b9;replace a0:=zbk hk (o:= .cells #[.int .i64 b1,.int .i64 b3,u125002,.int .i64 o6,.int .i64 0] 27 (0,0)) (zpb a0) b4;replace HK:=zKk (zK2 HK b2 b5) hk;replace HB:=zA (hb);replace b0:=zA (hi);(try clear hb);(try clear hb2);(try clear hk);(try clear hi);obtain⟨E7,E8,E9,F0,F1⟩:=zd5 a0;obtain⟨F2,F3,F4,F5,F6⟩:=zn5 a0;have K0:=b9.out;have K1:=a1.out;obtain⟨F7,F8,F9,G0,G1⟩:=zd5 a4;obtain⟨G2,G3,G4,G5,G6⟩:=zn5 a4;obtain⟨Ao104,co104,G7⟩:=Kd.R_slice HO_125002.out;subst G7))
      refine bodyPost_ret (results_cell_row rfl _ _ e8 27 #[.int .i64 b1,.int .i64 b3,.slice Ao104 a7.length co104,.int .i64 o6,.int .i64 (wrap64 (d0+z0))] (0,0) _ rfl ?hz Try.underlying27 rfl (by kernel_rfl)) rfl ?_;(case hz=>exact zpf a4 e5);exact⟨_,ze,by(with_reducible repeat(first|apply Kd.R_alloc|apply Kd.R_drewN|apply Kd.R_drew));exact Kd.R_mono (Kd.R_far (p:=⟨e8,4,none⟩) (Kd.R_far (p:=⟨e8,3,none⟩) (Kd.R_far (p:=⟨e8,2,none⟩) (Kd.R_far (p:=⟨e8,1,none⟩) (Kd.R_far (p:=⟨e8,0,none⟩) (Kd.R_far (p:=⟨d6,4,none⟩) (Kd.R_types (Kd.R_types HO_125002.out a0.out (by decide)) a4.out (by decide)) (fun _ hk=>hk.1.2) (.int .i64 (wrap64 (d0+z0)))) (fun _ hk=>hk.2) (.int .i64 b1)) (fun _ hk=>hk.2) (.int .i64 b3)) (fun _ hk=>hk.2) (.slice Ao104 a7.length co104)) (fun _ hk=>hk.2) (.int .i64 o6)) (fun _ hk=>hk.2) (.int .i64 (wrap64 (d0+z0)))) (fun _ hk=>trivial),zI2 b0 a1 a2,zB2 b0 HB b6 c0,zK2 HK b2 b5⟩
     rw[if_pos z9]at H;have p0:decide (d7<d9)=true:=decide_eq_true z9;clear z9;replace H:=Option.bind_eq_some_iff.mp H;obtain⟨⟨d2,A9⟩,G8,H⟩:=H;replace H:((spec_l21Rd_pick.f k2 s0_0 A9 6).bind fun C2=>((spec_l30Less.f d0 C2.1).bind fun i0=>((spec_l21Rd_pick.f k2 s0_0 C2.2 8).bind fun n8=>((spec_l21Rd_pick.f k2 s0_0 n8.2 6).bind fun g0=>((spec_l21Rd_pick.f k2 s0_0 g0.2 3).bind fun e9=>(if e9.1=0 then((spec_l21Rd_pick.f k2 s0_0 e9.2 90).bind fun f3=>(spec_l30Path.j2 k2 d0 b7 b8 d9 d7 s0_0 f3.2 b1 b3 a7 0 0 b7 b8 a9 (wrap64 (a9+d2)) 0 (wrap64 (d0+f3.1)) (g0.1==0)))else(spec_l30Path.j2 k2 d0 b7 b8 d9 d7 s0_0 e9.2 b1 b3 a7 0 0 b7 b8 a9 (wrap64 (a9+d2)) i0 (wrap64 (d0+n8.1)) (g0.1==0))))))))=some (r1,r2,r3,r4,r5,r6):=H;have R1:=zA G8;clear G8;replace H:=Option.bind_eq_some_iff.mp H;obtain⟨⟨B0,z1⟩,G9,H⟩:=H;replace H:((spec_l30Less.f d0 B0).bind fun i0=>((spec_l21Rd_pick.f k2 s0_0 z1 8).bind fun n8=>((spec_l21Rd_pick.f k2 s0_0 n8.2 6).bind fun g0=>((spec_l21Rd_pick.f k2 s0_0 g0.2 3).bind fun e9=>(if e9.1=0 then((spec_l21Rd_pick.f k2 s0_0 e9.2 90).bind fun f3=>(spec_l30Path.j2 k2 d0 b7 b8 d9 d7 s0_0 f3.2 b1 b3 a7 0 0 b7 b8 a9 (wrap64 (a9+d2)) 0 (wrap64 (d0+f3.1)) (g0.1==0)))else(spec_l30Path.j2 k2 d0 b7 b8 d9 d7 s0_0 e9.2 b1 b3 a7 0 0 b7 b8 a9 (wrap64 (a9+d2)) i0 (wrap64 (d0+n8.1)) (g0.1==0)))))))=some (r1,r2,r3,r4,r5,r6):=H;have R2:=zA G9;clear G9;replace H:=zbd H;obtain⟨i0,R3,H⟩:=H;replace H:=Option.bind_eq_some_iff.mp H;obtain⟨⟨n9,B1⟩,H0,H⟩:=H;replace H:((spec_l21Rd_pick.f k2 s0_0 B1 6).bind fun g0=>((spec_l21Rd_pick.f k2 s0_0 g0.2 3).bind fun e9=>(if e9.1=0 then((spec_l21Rd_pick.f k2 s0_0 e9.2 90).bind fun f3=>(spec_l30Path.j2 k2 d0 b7 b8 d9 d7 s0_0 f3.2 b1 b3 a7 0 0 b7 b8 a9 (wrap64 (a9+d2)) 0 (wrap64 (d0+f3.1)) (g0.1==0)))else(spec_l30Path.j2 k2 d0 b7 b8 d9 d7 s0_0 e9.2 b1 b3 a7 0 0 b7 b8 a9 (wrap64 (a9+d2)) i0 (wrap64 (d0+n9)) (g0.1==0)))))=some (r1,r2,r3,r4,r5,r6):=H;have R4:=zA H0;clear H0;replace H:=Option.bind_eq_some_iff.mp H;obtain⟨⟨d3,B2⟩,H1,H⟩:=H;replace H:((spec_l21Rd_pick.f k2 s0_0 B2 3).bind fun e9=>(if e9.1=0 then((spec_l21Rd_pick.f k2 s0_0 e9.2 90).bind fun f3=>(spec_l30Path.j2 k2 d0 b7 b8 d9 d7 s0_0 f3.2 b1 b3 a7 0 0 b7 b8 a9 (wrap64 (a9+d2)) 0 (wrap64 (d0+f3.1)) (d3==0)))else(spec_l30Path.j2 k2 d0 b7 b8 d9 d7 s0_0 e9.2 b1 b3 a7 0 0 b7 b8 a9 (wrap64 (a9+d2)) i0 (wrap64 (d0+n9)) (d3==0))))=some (r1,r2,r3,r4,r5,r6):=H;have I2:=zA H1;clear H1;replace H:=Option.bind_eq_some_iff.mp H;obtain⟨⟨o7,y0⟩,H2,H⟩:=H;replace H:(if o7=0 then((spec_l21Rd_pick.f k2 s0_0 y0 90).bind fun f3=>(spec_l30Path.j2 k2 d0 b7 b8 d9 d7 s0_0 f3.2 b1 b3 a7 0 0 b7 b8 a9 (wrap64 (a9+d2)) 0 (wrap64 (d0+f3.1)) (d3==0)))else(spec_l30Path.j2 k2 d0 b7 b8 d9 d7 s0_0 y0 b1 b3 a7 0 0 b7 b8 a9 (wrap64 (a9+d2)) i0 (wrap64 (d0+n9)) (d3==0)))=some (r1,r2,r3,r4,r5,r6):=H;have R5:=zA H2;clear H2;have D2:=zA H;clear H
     go_upto_if 58 with(first|((with_reducible refine gate_callee (f:=24) rfl ?_);refine zgl (N:=some 42) Try.func24 #[.pointer (some ⟨g,0,none⟩),.int .i64 3] ?_;(with_reducible refine(spec_l21Rd_pick.calls k2 g s0_0 f7 3 d2 A9 w0 _ ?side1 ?side2 R1.out).mono ?_);(case side1=>exact zI2 b0 a1 a2);(case side2=>exact zB2 b0 HB b6 c0);rintro e V1 ⟨rfl,hi,hb,hk⟩;refine⟨_,rfl,?_⟩;replace HO_125002:=zok (show IsS61 w0 _ g s0_0 f7 from zI2 b0 a1 a2) (zr HO_125002) hk;replace a4:=zbh hk a4 b9;replace a0:=zbh hk a0 b4;replace HK:=zKk (zK2 HK b2 b5) hk;replace HB:=zA (hb);replace b0:=zA (hi);(try clear hb);(try clear hb2);(try clear hk);(try clear hi))|((with_reducible refine gate_callee (f:=24) rfl ?_);refine zgl (N:=some 46) Try.func24 #[.pointer (some ⟨g,0,none⟩),.int .i64 6] ?_;(with_reducible refine(spec_l21Rd_pick.calls k2 g s0_0 A9 6 B0 z1 w0 _ ?side1 ?side2 R2.out).mono ?_);(case side1=>exact zI2 b0 a1 a2);(case side2=>exact zB2 b0 HB b6 c0);rintro e B3 ⟨rfl,hi,hb,hk⟩;refine⟨_,rfl,?_⟩;replace HO_125002:=zok (show IsS61 w0 _ g s0_0 A9 from zI2 b0 a1 a2) (zr HO_125002) hk;replace a4:=zbh hk a4 b9;replace a0:=zbh hk a0 b4;replace HK:=zKk (zK2 HK b2 b5) hk;replace HB:=zA (hb);replace b0:=zA (hi);(try clear hb);(try clear hb2);(try clear hk);(try clear hi))|((with_reducible refine gate_callee (f:=34) rfl ?_);refine zgl (N:=some 47) Try.func34 #[.int .i64 d0,.int .i64 B0] ?_;(with_reducible refine(spec_l30Less.calls d0 B0 i0 _ R3.out).mono ?_);rintro e w' ⟨rfl,⟨nd,rfl⟩⟩;refine⟨_,rfl,?_⟩;(try(rw[drewN_self B3];generalize hq_:World.drewN B3 _=B3;replace HO_125002:Aside0 (Kd.R k52 52 B3 w.heap.size (fun _=>True) u125002 a7):=⟨by rw[←hq_];exact(zr HO_125002)⟩;replace a4:Aside0 (B3.heap[e8]?=some (.cells #[.int .i64 0,.int .i64 0,.slice none 0 0,.int .i64 0,.int .i64 0] 27 (0,0))):=⟨by rw[←hq_];exact(zh a4)⟩;replace a0:Aside0 (B3.heap[d6]?=some (.cells #[.int .i64 b1,.int .i64 b3,u125002,.int .i64 0,.int .i64 0] 27 (0,0))):=⟨by rw[←hq_];exact(zh a0)⟩;replace HK:Aside0 (KeepBut w B3 g none):=⟨by rw[←hq_];exact(zK2 HK b2 b5)⟩;replace HB:Aside0 (Below w0.heap.size w0 B3):=⟨by rw[←hq_];exact(zB2 b0 HB b6 c0)⟩;replace b0:Aside0 (IsS61 w0 B3 g s0_0 z1):=⟨by rw[←hq_];exact(zI2 b0 a1 a2)⟩;clear hq_)))|((with_reducible refine gate_callee (f:=24) rfl ?_);refine zgl (N:=some 50) Try.func24 #[.pointer (some ⟨g,0,none⟩),.int .i64 8] ?_;(with_reducible refine(spec_l21Rd_pick.calls k2 g s0_0 z1 8 n9 B1 w0 _ ?side1 ?side2 R4.out).mono ?_);(case side1=>exact zI2 b0 a1 a2);(case side2=>exact zB2 b0 HB b6 c0);rintro e V2 ⟨rfl,hi,hb,hk⟩;refine⟨_,rfl,?_⟩;replace HO_125002:=zok (show IsS61 w0 _ g s0_0 z1 from zI2 b0 a1 a2) (zr HO_125002) hk;replace a4:=zbh hk a4 b9;replace a0:=zbh hk a0 b4;replace HK:=zKk (zK2 HK b2 b5) hk;replace HB:=zA (hb);replace b0:=zA (hi);(try clear hb);(try clear hb2);(try clear hk);(try clear hi))|((with_reducible refine gate_callee (f:=24) rfl ?_);refine zgl (N:=some 53) Try.func24 #[.pointer (some ⟨g,0,none⟩),.int .i64 6] ?_;(with_reducible refine(spec_l21Rd_pick.calls k2 g s0_0 B1 6 d3 B2 w0 _ ?side1 ?side2 I2.out).mono ?_);(case side1=>exact zI2 b0 a1 a2);(case side2=>exact zB2 b0 HB b6 c0);rintro e V3 ⟨rfl,hi,hb,hk⟩;refine⟨_,rfl,?_⟩;replace HO_125002:=zok (show IsS61 w0 _ g s0_0 B1 from zI2 b0 a1 a2) (zr HO_125002) hk;replace a4:=zbh hk a4 b9;replace a0:=zbh hk a0 b4;replace HK:=zKk (zK2 HK b2 b5) hk;replace HB:=zA (hb);replace b0:=zA (hi);(try clear hb);(try clear hb2);(try clear hk);(try clear hi))|((with_reducible refine gate_dst (N:=10) rfl ?_);refine zbx 10 #[.int .i64 0,.int .i64 0,.int .i64 0,.int .i64 0,.int .i64 0,.int .i64 0,.bool false] 52 ?_;intro d1 hg V4 hbox hb;have a3:=zA hbox;have d8:=zgw hg (zK2 HK b2 b5);have e3:=zge J8 d8;have e1:=zne hg a4;have f4:=znf hg a4;have e2:=zne hg a0;have e6:=znf hg a0;have a8:=znl hg (IsS61.lt (zI2 b0 a1 a2));have d4:=zns a8;replace HO_125002:=zA (Kd.R_below (Kd.R_elderB (zr HO_125002) d1 (Nat.le_of_eq hg.symm)) hb);replace a4:=zb a4 hb;replace a0:=zb a0 hb;replace HK:=zKb (zK2 HK b2 b5) hb;replace HB:=zE (zB2 b0 HB b6 c0) hb;replace b0:=zib (zI2 b0 a1 a2) hb;clear hb hbox hg;have L7:=f4.out;have L8:=e1.out;have L9:=e6.out;have M0:=e2.out;have M1:=d4.out;have M2:=a8.out;obtain⟨i6,i7,i8,i9,j1,j5,j6⟩:=zd7 a3;obtain⟨j7,j8,j9,k0,k1,k3,k4⟩:=zn7 a3)|((with_reducible refine gate_callee (f:=24) rfl ?_);refine zgl (N:=some 57) Try.func24 #[.pointer (some ⟨g,0,none⟩),.int .i64 3] ?_;(with_reducible refine(spec_l21Rd_pick.calls k2 g s0_0 B2 3 o7 y0 w0 _ ?side1 ?side2 R5.out).mono ?_);(case side1=>exact zI3 b0 a1 a2 a8);(case side2=>exact zB3 b0 HB b6 c0 e3);rintro e V5 ⟨rfl,hi,hb,hk⟩;refine⟨_,rfl,?_⟩;replace HO_125002:=zA (Kd.R_mono (Kd.R_keep (IsS61.apart (show IsS61 w0 _ g s0_0 B2 from zI3 b0 a1 a2 a8) (by(with_reducible repeat(first|apply Kd.R_alloc|apply Kd.R_drewN|apply Kd.R_drew));exact(Kd.R_mono (Kd.R_far (p:=⟨d1,6,none⟩) (Kd.R_far (p:=⟨d1,5,none⟩) (Kd.R_far (p:=⟨d1,4,none⟩) (Kd.R_far (p:=⟨d1,3,none⟩) (Kd.R_far (p:=⟨d1,2,none⟩) (Kd.R_far (p:=⟨d1,1,none⟩) (Kd.R_far (p:=⟨d1,0,none⟩) (Kd.R_mono HO_125002.out (fun k_ hk=>(⟨hk,hk.2⟩:_∧k_≠d1))) (fun _ hk=>hk.2) (.int .i64 b7)) (fun _ hk=>hk.2) (.int .i64 b8)) (fun _ hk=>hk.2) (.int .i64 a9)) (fun _ hk=>hk.2) (.int .i64 (wrap64 (a9+d2)))) (fun _ hk=>hk.2) (.int .i64 i0)) (fun _ hk=>hk.2) (.int .i64 (wrap64 (d0+n9)))) (fun _ hk=>hk.2) (.bool (d3==0))) (fun _ h_=>h_.1))) (by decide)) hk (fun _ h=>h.2)) (fun _ h=>h.1));replace a4:=zbk hk (o:= .cells #[.int .i64 0,.int .i64 0,.slice none 0 0,.int .i64 0,.int .i64 0] 27 (0,0)) (zpf a4 e1) b9;replace a0:=zbk hk (o:= .cells #[.int .i64 b1,.int .i64 b3,u125002,.int .i64 0,.int .i64 0] 27 (0,0)) (zpf a0 e2) b4;replace a3:=zbk hk (o:= .cells #[.int .i64 b7,.int .i64 b8,.int .i64 a9,.int .i64 (wrap64 (a9+d2)),.int .i64 i0,.int .i64 (wrap64 (d0+n9)),.bool (d3==0)] 52 (0,0)) (zpb a3) d4;replace HK:=zKk (zK3 HK b2 b5 d8) hk;replace HB:=zA (hb);replace b0:=zA (hi);(try clear hb);(try clear hb2);(try clear hk);(try clear hi)))
     (try simp only[Act.put,List.setIfInBounds_toArray,List.set_cons_zero,List.set_cons_succ])
     go_cut [] (fun wc=> ∃(kq:Nat) (f0:Int) (a5:Int) (a6:Int),Aside0 (spec_l30Path.j2 kq d0 b7 b8 d9 d7 s0_0 f0 b1 b3 a7 0 0 b7 b8 a9 (wrap64 (a9+d2)) a5 a6 (d3==0)=some (r1,r2,r3,r4,r5,r6))∧Aside0 (kq≤k2)∧Aside0 (Kd.R k52 52 wc w.heap.size (fun k_=>k_≠d1) u125002 a7)∧Aside0 (wc.heap[e8]?=some (.cells #[.int .i64 0,.int .i64 0,(.slice none 0 0),.int .i64 0,.int .i64 0] 27 (0,0)))∧Aside0 (wc.heap[d6]?=some (.cells #[.int .i64 b1,.int .i64 b3,u125002,.int .i64 0,.int .i64 0] 27 (0,0)))∧Aside0 (wc.heap[d1]?=some (.cells #[.int .i64 b7,.int .i64 b8,.int .i64 a9,.int .i64 (wrap64 (a9+d2)),.int .i64 a5,.int .i64 a6,.bool (d3==0)] 52 (0,0)))∧Aside0 (IsS61 w0 wc g s0_0 f0)∧Aside0 (KeepBut w wc g none)∧Aside0 (Below w0.heap.size w0 wc))
     case first=>
      have H:=D2.out;clear D2
      by_cases z7:o7=0
      rotate_left
      ·rw[if_neg z7]at H
       have h5:(o7==0)=false:=beq_eq_false_iff_ne.mpr z7;have p1:(o7 !=0)=true:=bne_iff_ne.mpr z7;(first|rw[h5]|(simp only[i64_w,i32_w];rw[h5])|skip);have H':=zA H;clear H
       go_wp2
       go_meet
       case rel=>exact⟨_,(y0),(i0),(wrap64 (d0+n9)),H',⟨by have:=z5.out;have:=z6.out;first|omega|exact Nat.le_refl _⟩,⟨by(with_reducible repeat(first|apply Kd.R_alloc|apply Kd.R_drewN|apply Kd.R_drew));exact Kd.R_mono HO_125002.out (fun _ hk=>hk.2)⟩,⟨zh a4⟩,⟨zh a0⟩,⟨zh a3⟩,⟨zI3 b0 a1 a2 a8⟩,⟨zK3 HK b2 b5 d8⟩,⟨zB3 b0 HB b6 c0 e3⟩⟩
      rw[if_pos z7]at H;have h5:(o7==0)=true:=beq_iff_eq.mpr z7;have p1:(o7 !=0)=false:=bne_eq_false_iff_eq.mpr z7;clear z7;(first|rw[h5]|(simp only[i64_w,i32_w];rw[h5])|skip);replace H:=Option.bind_eq_some_iff.mp H;obtain⟨⟨B5,D3⟩,H3,H⟩:=H;replace H:(spec_l30Path.j2 k2 d0 b7 b8 d9 d7 s0_0 D3 b1 b3 a7 0 0 b7 b8 a9 (wrap64 (a9+d2)) 0 (wrap64 (d0+B5)) (d3==0))=some (r1,r2,r3,r4,r5,r6):=H;have R6:=zA H3;clear H3;have H':=zA H;clear H;have M3:=f4.out;have M4:=e1.out;have M5:=e6.out;have M6:=e2.out;have M7:=d4.out;have M8:=a8.out;obtain⟨k5,k6,k7,k8,k9,l4,l5⟩:=zd7 a3;obtain⟨l6,l7,l8,l9,m0,m1,m2⟩:=zn7 a3
      go_wp2_with (first|((with_reducible refine gate_callee (f:=24) rfl ?_);refine zgl (N:=some 62) Try.func24 #[.pointer (some ⟨g,0,none⟩),.int .i64 90] ?_;(with_reducible refine(spec_l21Rd_pick.calls k2 g s0_0 y0 90 B5 D3 w0 _ ?side1 ?side2 R6.out).mono ?_);(case side1=>exact zI3 b0 a1 a2 a8);(case side2=>exact zB3 b0 HB b6 c0 e3);rintro e V6 ⟨rfl,hi,hb,hk⟩;refine⟨_,rfl,?_⟩;replace HO_125002:=zA (Kd.R_mono (Kd.R_keep (IsS61.apart (show IsS61 w0 _ g s0_0 y0 from zI3 b0 a1 a2 a8) (by(with_reducible repeat(first|apply Kd.R_alloc|apply Kd.R_drewN|apply Kd.R_drew));exact(Kd.R_mono (Kd.R_far (p:=⟨d1,4,none⟩) (Kd.R_mono HO_125002.out (fun k_ hk=>(⟨hk,hk.2⟩:_∧k_≠d1))) (fun _ hk=>hk.2) (.int .i64 0)) (fun _ h_=>h_.1))) (by decide)) hk (fun _ h=>h.2)) (fun _ h=>h.1));replace a4:=zbk hk (o:= .cells #[.int .i64 0,.int .i64 0,.slice none 0 0,.int .i64 0,.int .i64 0] 27 (0,0)) (zpf a4 e1) b9;replace a0:=zbk hk (o:= .cells #[.int .i64 b1,.int .i64 b3,u125002,.int .i64 0,.int .i64 0] 27 (0,0)) (zpf a0 e2) b4;replace a3:=zbk hk (o:= .cells #[.int .i64 b7,.int .i64 b8,.int .i64 a9,.int .i64 (wrap64 (a9+d2)),.int .i64 0,.int .i64 (wrap64 (d0+n9)),.bool (d3==0)] 52 (0,0)) (zpb a3) d4;replace HK:=zKk (zK3 HK b2 b5 d8) hk;replace HB:=zA (hb);replace b0:=zA (hi);(try clear hb);(try clear hb2);(try clear hk);(try clear hi);obtain⟨m3,m4,m5,m6,m7,m8,m9⟩:=zd7 a3;obtain⟨n0,n1,n2,n3,n4,n5,n6⟩:=zn7 a3))
      go_meet
      case rel=>exact⟨_,(D3),(0),(wrap64 (d0+B5)),H',⟨by have:=z5.out;have:=z6.out;first|omega|exact Nat.le_refl _⟩,⟨by(with_reducible repeat(first|apply Kd.R_alloc|apply Kd.R_drewN|apply Kd.R_drew));exact Kd.R_mono (Kd.R_far (p:=⟨d1,5,none⟩) (Kd.R_mono HO_125002.out (fun k_ hk=>(⟨hk,hk.2⟩:_∧k_≠d1))) (fun _ hk=>hk.2) (.int .i64 (wrap64 (d0+B5)))) (fun _ hk=>hk.1.2)⟩,⟨zpf a4 e1⟩,⟨zpf a0 e2⟩,⟨zpb a3⟩,⟨zI3 b0 a1 a2 a8⟩,⟨zK3 HK b2 b5 d8⟩,⟨zB3 b0 HB b6 c0 e3⟩⟩
     case rest=>
      clear D2
      try clear c1
      try clear c2
      try clear p2
      try clear c3
      try clear c4
      try clear p6
      try clear I4
      try clear I5
      try clear y6
      try clear g2
      try clear i5
      try clear I6
      try clear I7
      try clear z9
      try clear p0
      try clear M9
      try clear N0
      try clear N1
      try clear N2
      try clear N3
      try clear z7
      try clear h5
      try clear p1
      try clear N4
      try clear N5
      try clear N6
      try clear g4 g5 g6 g7 g8
      try clear i6 i7 i8 i9 j1 j5 j6
      try clear k5 k6 k7 k8 k9 l4 l5
      try clear m3 m4 m5 m6 m7 m8 m9
      try clear g9 h0 h1 h2 h3
      try clear j7 j8 j9 k0 k1 k3 k4
      try clear l6 l7 l8 l9 m0 m1 m2
      try clear n0 n1 n2 n3 n4 n5 n6
      try clear p2
      try clear p6
      obtain⟨kq,f0,a5,a6,HA,o0,HO_125002,a4,a0,a3,b0,HK,HB⟩:=hcut
      cases kq with
      |zero=>exact absurd HA.out (by simp[spec_l30Path.j2])
      |succ i1=>
       have H:=HA.out;clear HA;simp only[spec_l30Path.j2]at H
       by_cases E1:a7.length<2513169434916
       rotate_left
       ·rw[if_neg E1]at H
        exact absurd H (by simp)
       rw[if_pos E1]at H;have LMc51:=zA E1;clear E1;obtain⟨e4,o1⟩: ∃y_:List (S52),y_=(a7++[(⟨b7,b8,a9,(wrap64 (a9+d2)),a5,a6,(d3==0)⟩:S52)]):=⟨_,rfl⟩
       replace H:((spec_l21Rd_pick.f i1 s0_0 f0 (wrap64 ((wrap64 (b3-b1))+1))).bind fun p3=>(if(d3==0)=true then((spec_l21Rd_pick.f i1 s0_0 p3.2 2).bind fun o2=>(spec_l30Path.j3 i1 d0 b7 b8 d9 d7 (wrap64 (b1+p3.1)) (o2.1==0) s0_0 o2.2 b1 b3 e4 0 0 b7 b8 a9 (wrap64 (a9+d2)) a5 a6 (d3==0)))else(spec_l30Path.j3 i1 d0 b7 b8 d9 d7 (wrap64 (b1+p3.1)) false s0_0 p3.2 b1 b3 e4 0 0 b7 b8 a9 (wrap64 (a9+d2)) a5 a6 (d3==0))))=some (r1,r2,r3,r4,r5,r6):=by first|(rw[o1];with_reducible exact H)|(have H2_:=(Option.bind_some _ _).symm.trans H;rw[o1];with_reducible exact H2_)|(have H2_:=(Option.bind_some _ _).symm.trans H;with_reducible exact H2_)|with_reducible exact H|(rw[o1];exact H)|exact H
       have H4:=zA o1;clear o1;replace H:=Option.bind_eq_some_iff.mp H;obtain⟨⟨y1,y2⟩,H5,H⟩:=H;replace H:(if(d3==0)=true then((spec_l21Rd_pick.f i1 s0_0 y2 2).bind fun o2=>(spec_l30Path.j3 i1 d0 b7 b8 d9 d7 (wrap64 (b1+y1)) (o2.1==0) s0_0 o2.2 b1 b3 e4 0 0 b7 b8 a9 (wrap64 (a9+d2)) a5 a6 (d3==0)))else(spec_l30Path.j3 i1 d0 b7 b8 d9 d7 (wrap64 (b1+y1)) false s0_0 y2 b1 b3 e4 0 0 b7 b8 a9 (wrap64 (a9+d2)) a5 a6 (d3==0)))=some (r1,r2,r3,r4,r5,r6):=H;have R7:=zA H5;clear H5;have D4:=zA H;clear H;have N7:=h4.out;have N8:=e5.out;have N9:=e2.out;have O0:=e6.out;have O1:=b4.out;have O2:=a2.out;obtain⟨p4,p5,p7,p8,p9⟩:=zd5 a0;obtain⟨q0,q1,q2,q3,q4⟩:=zn5 a0;have O3:=f4.out;have O4:=e1.out;have O5:=d4.out;have O6:=a8.out;obtain⟨q5,q6,q7,q8,q9,r0,r7⟩:=zd7 a3;obtain⟨r8,r9,s0,s1,s2,s3,s4⟩:=zn7 a3
       try go_wp2_with (first|((with_reducible refine gate_builtin (b:= .append) (xs:=#[.tmp 66,.tmp 68]) rfl ?_);at_builtin;refine Kd.R_append k52 w.heap.size rfl (.tmp 66) (.tmp 68) 25 52 (.agg #[(.int .i64 0),(.int .i64 0),(.int .i64 0),(.int .i64 0),(.int .i64 0),(.int .i64 0),(.bool false)]) 56 rfl Try.underlying25 info52 rfl (by decide) (by omega) u125002 a7 (⟨b7,b8,a9,(wrap64 (a9+d2)),a5,a6,(d3==0)⟩:S52) [.int .i64 b7,.int .i64 b8,.int .i64 a9,.int .i64 (wrap64 (a9+d2)),.int .i64 a5,.int .i64 a6,.bool (d3==0)] (fun k_=>k_≠d1) (fun _=>False) rfl rfl ?aP (fun _ hk=>hk.elim) ?aF ?aO (Below.refl _ _) ?aS ?aL ?_;(case aP=>exact k52_mkM _ _ _ (⟨b7,b8,a9,(wrap64 (a9+d2)),a5,a6,(d3==0)⟩:S52));(case aF=>exact(fun k_ hk=>Kd.freshB (g:=d1) (o:= .cells #[.int .i64 b7,.int .i64 b8,.int .i64 a9,.int .i64 (wrap64 (a9+d2)),.int .i64 a5,.int .i64 a6,.bool (d3==0)] 52 (0,0)) (zh a3) k_ hk));(case aO=>exact(zr HO_125002));(case aS=>exact(keep_size (w:=w) (g:=g) (row:=none) (zK3 HK b2 b5 d8)));(case aL=>have:=LMc51.out;omega);intro R8 R9 ho hb hg hat;rw[←H4.out]at ho;have f5:=zA (ho);replace a4:=zA (blk_grown (g:=e8) (o:= .cells #[.int .i64 0,.int .i64 0,.slice none 0 0,.int .i64 0,.int .i64 0] 27 (0,0)) (zh a4) hg (Kd.R_ne HO_125002.out a4.out (by decide)));replace a0:=zA (blk_grown (g:=d6) (o:= .cells #[.int .i64 b1,.int .i64 b3,u125002,.int .i64 0,.int .i64 0] 27 (0,0)) (zh a0) hg (Kd.R_ne HO_125002.out a0.out (by decide)));replace a3:=zA (blk_grown (g:=d1) (o:= .cells #[.int .i64 b7,.int .i64 b8,.int .i64 a9,.int .i64 (wrap64 (a9+d2)),.int .i64 a5,.int .i64 a6,.bool (d3==0)] 52 (0,0)) (zh a3) hg (Kd.R_away HO_125002.out (fun _ hk=>hk)));replace HB:=zA (below_weaken (zB3 b0 HB b6 c0 e3) HL.out hb);replace b0:=zA (IsS61.grown (zJ3 b0 a1 a2 a8) hg (IsS61.own_ne b0.out HO_125002.out (by decide)));replace HK:=zA (KeepBut.trans (zK3 HK b2 b5 d8) (KeepBut.of_grown hg g) (Kd.R_base2 HO_125002.out));clear HO_125002;clear ho hb hg hat;obtain⟨Ao62,co62,K2⟩:=Kd.R_slice f5.out;subst K2;obtain⟨s5,s6,s7,s8,s9⟩:=zd5 a0;obtain⟨t0,t1,t2,t3,t4⟩:=zn5 a0))
       obtain⟨C3,e_⟩: ∃x,x=(R9.setCell ⟨d6,2,none⟩ (.slice Ao62 e4.length co62)):=⟨_,rfl⟩
       have n0_:Aside0 (Kd.R k52 52 C3 w.heap.size (fun k_=>k_≠d1) (.slice Ao62 e4.length co62) e4):=by rw[e_];exact⟨zRf f5 a0 (fun _ hk=>hk.1)⟩
       have n1_:Aside0 (C3.heap[e8]?=some (.cells #[.int .i64 0,.int .i64 0,.slice none 0 0,.int .i64 0,.int .i64 0] 27 (0,0))):=by rw[e_];exact⟨zpf a4 e5⟩
       have n2_:Aside0 (C3.heap[d6]?=some (.cells #[.int .i64 b1,.int .i64 b3,.slice Ao62 e4.length co62,.int .i64 0,.int .i64 0] 27 (0,0))):=by rw[e_];exact⟨zpb a0⟩
       have n3_:Aside0 (C3.heap[d1]?=some (.cells #[.int .i64 b7,.int .i64 b8,.int .i64 a9,.int .i64 (wrap64 (a9+d2)),.int .i64 a5,.int .i64 a6,.bool (d3==0)] 52 (0,0))):=by rw[e_];exact⟨zpf a3 e6⟩
       have n4_:Aside0 (IsS61 w0 C3 g s0_0 f0):=by rw[e_];exact⟨zI3 b0 a1 a2 a8⟩
       have n5_:Aside0 (KeepBut w C3 g none):=by rw[e_];exact⟨zK3 HK b2 b5 d8⟩
       have n6_:Aside0 (Below w0.heap.size w0 C3):=by rw[e_];exact⟨zB3 b0 HB b6 c0 e3⟩
       (try clear f5);(try clear a4);(try clear a0);(try clear a3);(try clear b0);(try clear HK);(try clear HB);rw[←e_];clear e_;have f5:=n0_;have a4:=n1_;have a0:=n2_;have a3:=n3_;have b0:=n4_;have HK:=n5_;have HB:=n6_;clear n0_ n1_ n2_ n3_ n4_ n5_ n6_;replace f5:=zA (Kd.R_drew f5.out);replace a4:=zA (blk_drew a4.out);replace a0:=zA (blk_drew a0.out);replace a3:=zA (blk_drew a3.out);replace b0:=zA (IsS61.drew b0.out);replace HK:=zA (keep_drew HK.out);replace HB:=zA (below_drew1 HB.out);refine start_ (n:=15) (S:=fun w'=>w'.cell? ⟨d6,0,none⟩=some (.int .i64 b1)∧w'.cell? ⟨d6,1,none⟩=some (.int .i64 b3)∧w'.cell? ⟨d6,2,none⟩=some (.slice Ao62 e4.length co62)∧w'.cell? ⟨d6,3,none⟩=some (.int .i64 0)∧w'.cell? ⟨d6,4,none⟩=some (.int .i64 0)) (ds:=[]) #[F,F,F,F,F,F,F,F,F,F,F,F,F,F,F] (by kernel_rfl) rfl rfl ⟨zc0 a0,zc1 a0,zc2 a0,zc3 a0,zc4 a0⟩ (fun hHeld=>?_);refine with_tabW spec_l30Path.tab17 spec_l30Path.bits17 (fun HT_ HW_=>?_);generalize C3.drew=V7 at f5 a4 a0 a3 b0 HK HB hHeld⊢;refine zq HT_ 0 ?_;refine zq HT_ 1 ?_;refine zq HT_ 3 ?_;refine zq HT_ 4 ?_;refine zq HT_ 5 ?_;refine zq HT_ 7 ?_;refine zq HT_ 8 ?_;refine zk5 HT_ HW_ hHeld 2 ?_;refine zk5 HT_ HW_ hHeld 6 ?_;refine zk5 HT_ HW_ hHeld 9 ?_;refine zq HT_ 10 ?_;refine zq HT_ 11 ?_;refine zo HT_ 12 (fun K hK=>?_);refine zgo Try.func24 #[.pointer (some ⟨g,0,none⟩),.int .i64 (wrap64 ((wrap64 (b3-b1))+1))] ?_
       with_reducible refine(spec_l21Rd_pick.calls i1 g s0_0 f0 (wrap64 ((wrap64 (b3-b1))+1)) y1 y2 w0 _ ?side1 ?side2 R7.out).mono ?_
       (case side1=>exact zI3 b0 a1 a2 a8);(case side2=>exact zB3 b0 HB b6 c0 e3);rintro e V8 ⟨rfl,hi,hb,hk⟩;refine⟨_,rfl,?_⟩;replace a4:=zbh hk a4 b9;replace a0:=zbh hk a0 b4;replace a3:=zbh hk a3 d4;replace f5:=zok (show IsS61 w0 _ g s0_0 f0 from zI3 b0 a1 a2 a8) (zr f5) hk;replace HK:=zKk (zK3 HK b2 b5 d8) hk;replace HB:=zA (hb);replace b0:=zA (hi);(try clear hb);(try clear hb2);(try clear hk);(try clear hi);refine hK.out _ _ ⟨zc0 a0,zc1 a0,zc2 a0,zc3 a0,zc4 a0⟩ (fun hHeld=>?_);clear hK K;refine zN ?_;refine zq HT_ 13 ?_;refine zq HT_ 14 ?_;refine done_ (done_of HT_.out (by kernel_rfl)) ?_
       go_upto_region 18 with(fail)
       go_cut [91] (fun S0 wc=> ∃(kq:Nat) (n7:Bool) (f6:Int),S0= .bool n7∧Aside0 (spec_l30Path.j3 kq d0 b7 b8 d9 d7 (wrap64 (b1+y1)) n7 s0_0 f6 b1 b3 e4 0 0 b7 b8 a9 (wrap64 (a9+d2)) a5 a6 (d3==0)=some (r1,r2,r3,r4,r5,r6))∧Aside0 (kq≤i1)∧Aside0 (Kd.R k52 52 wc w.heap.size (fun k_=>k_≠d1) (.slice Ao62 e4.length co62) e4)∧Aside0 (wc.heap[e8]?=some (.cells #[.int .i64 0,.int .i64 0,(.slice none 0 0),.int .i64 0,.int .i64 0] 27 (0,0)))∧Aside0 (wc.heap[d6]?=some (.cells #[.int .i64 b1,.int .i64 b3,(.slice Ao62 e4.length co62),.int .i64 0,.int .i64 0] 27 (0,0)))∧Aside0 (wc.heap[d1]?=some (.cells #[.int .i64 b7,.int .i64 b8,.int .i64 a9,.int .i64 (wrap64 (a9+d2)),.int .i64 a5,.int .i64 a6,.bool (d3==0)] 52 (0,0)))∧Aside0 (IsS61 w0 wc g s0_0 f6)∧Aside0 (KeepBut w wc g none)∧Aside0 (Below w0.heap.size w0 wc))
       case first=>
        have H:=D4.out;clear D4
        by_cases y3:(d3==0)=true
        rotate_left
        ·rw[if_neg y3]at H
         have i2:(d3==0)=false:=by simpa using y3
         (try(have z2:decide (d3=0)=false:=by simpa using y3));(try(have z3:(d3==0)=false:=by simpa using y3));(try(have O7: ¬(d3=0):=by simpa using y3));clear y3;(first|rw[i2]|(simp only[i64_w,i32_w];rw[i2])|skip);have H':=zA H;clear H;have O8:=f4.out;have O9:=e1.out;have P0:=e6.out;have P1:=e2.out;have P2:=d4.out;have P3:=a8.out;obtain⟨t5,t6,t7,t8,t9,v0,v1⟩:=zd7 a3;obtain⟨v2,v3,w1,w2,w3,w4,w5⟩:=zn7 a3
         go_wp2
         go_meet
         case rel=>exact⟨_,(false),(y2),zi,H',⟨by have:=z5.out;have:=z6.out;have:=o0.out;first|omega|exact Nat.le_refl _⟩,⟨zr f5⟩,⟨zh a4⟩,⟨zh a0⟩,⟨zh a3⟩,⟨zI3 b0 a1 a2 a8⟩,⟨zK3 HK b2 b5 d8⟩,⟨zB3 b0 HB b6 c0 e3⟩⟩
        rw[if_pos y3]at H;have i2:(d3==0)=true:=y3;(try(have z2:decide (d3=0)=true:=by simpa using y3));(try(have z3:(d3==0)=true:=by simpa using y3));clear y3;(first|rw[i2]|(simp only[i64_w,i32_w];rw[i2])|skip);replace H:=Option.bind_eq_some_iff.mp H;obtain⟨⟨D5,D6⟩,H6,H⟩:=H;replace H:(spec_l30Path.j3 i1 d0 b7 b8 d9 d7 (wrap64 (b1+y1)) (D5==0) s0_0 D6 b1 b3 e4 0 0 b7 b8 a9 (wrap64 (a9+d2)) a5 a6 (d3==0))=some (r1,r2,r3,r4,r5,r6):=H;have S1:=zA H6;clear H6;have H':=zA H;clear H;have P4:=f4.out;have P5:=e1.out;have P6:=e6.out;have P7:=e2.out;have P8:=d4.out;have P9:=a8.out;obtain⟨w6,w7,w8,w9,x0,x1,x2⟩:=zd7 a3;obtain⟨x3,x4,x5,x6,x7,x8,x9⟩:=zn7 a3
        go_wp2_with (first|(go_at_call 24;(with_reducible refine(spec_l21Rd_pick.calls i1 g s0_0 y2 2 D5 D6 w0 _ ?side1 ?side2 S1.out).mono ?_);(case side1=>exact zI3 b0 a1 a2 a8);(case side2=>exact zB3 b0 HB b6 c0 e3);rintro e V9 ⟨rfl,hi,hb,hk⟩;replace a4:=zbh hk a4 b9;replace a0:=zbh hk a0 b4;replace a3:=zbh hk a3 d4;replace f5:=zok (show IsS61 w0 _ g s0_0 y2 from zI3 b0 a1 a2 a8) (zr f5) hk;replace HK:=zKk (zK3 HK b2 b5 d8) hk;replace HB:=zA (hb);replace b0:=zA (hi);(try clear hb);(try clear hb2);(try clear hk);(try clear hi)))
        go_meet
        case rel=>exact⟨_,((D5==0)),(D6),zi,H',⟨by have:=z5.out;have:=z6.out;have:=o0.out;first|omega|exact Nat.le_refl _⟩,⟨zr f5⟩,⟨zh a4⟩,⟨zh a0⟩,⟨zh a3⟩,⟨zI3 b0 a1 a2 a8⟩,⟨zK3 HK b2 b5 d8⟩,⟨zB3 b0 HB b6 c0 e3⟩⟩
       case rest=>
        clear D4
        try clear c1
        try clear c2
        try clear p2
        try clear c3
        try clear c4
        try clear c5
        try clear c6
        try clear p6
        try clear c7
        try clear I4
        try clear I5
        try clear y6
        try clear g2
        try clear i5
        try clear I6
        try clear I7
        try clear z9
        try clear p0
        try clear M9
        try clear N0
        try clear N1
        try clear N2
        try clear N3
        try clear z7
        try clear h5
        try clear p1
        try clear N4
        try clear N5
        try clear N6
        try clear E1
        try clear S2
        try clear S3
        try clear S4
        try clear S5
        try clear S6
        try clear Q0
        try clear y3
        try clear i2
        try clear z2
        try clear z3
        try clear S7
        try clear S8
        try clear S9
        try clear T0
        try clear T1
        try clear T2
        try clear g4 g5 g6 g7 g8
        try clear i6 i7 i8 i9 j1 j5 j6
        try clear k5 k6 k7 k8 k9 l4 l5
        try clear m3 m4 m5 m6 m7 m8 m9
        try clear p4 p5 p7 p8 p9
        try clear q5 q6 q7 q8 q9 r0 r7
        try clear s5 s6 s7 s8 s9
        try clear w6 w7 w8 w9 x0 x1 x2
        try clear t5 t6 t7 t8 t9 v0 v1
        try clear g9 h0 h1 h2 h3
        try clear j7 j8 j9 k0 k1 k3 k4
        try clear l6 l7 l8 l9 m0 m1 m2
        try clear n0 n1 n2 n3 n4 n5 n6
        try clear q0 q1 q2 q3 q4
        try clear r8 r9 s0 s1 s2 s3 s4
        try clear t0 t1 t2 t3 t4
        try clear x3 x4 x5 x6 x7 x8 x9
        try clear v2 v3 w1 w2 w3 w4 w5
        try clear p2
        try clear p6
        obtain⟨kq,n7,f6,rfl,HA,y4,HO_125002,a4,a0,a3,b0,HK,HB⟩:=hcut
        cases kq with
        |zero=>exact absurd HA.out (by simp[spec_l30Path.j3])
        |succ D7=>
         have H:=HA.out;clear HA;simp only[spec_l30Path.j3]at H;have D8:=zA H;clear H
         go_upto_if 91 with(fail)
         go_cut [11] (fun T3 wc=> ∃(kq:Nat) (f8:Int) (f1:Int),T3= .int .i64 f8∧Aside0 (spec_l30Path.j4 kq d0 b7 b8 d9 d7 f8 s0_0 f1 b1 b3 e4 0 0 b7 b8 a9 (wrap64 (a9+d2)) a5 a6 (d3==0)=some (r1,r2,r3,r4,r5,r6))∧Aside0 (kq≤D7)∧Aside0 (Kd.R k52 52 wc w.heap.size (fun k_=>k_≠d1) (.slice Ao62 e4.length co62) e4)∧Aside0 (wc.heap[e8]?=some (.cells #[.int .i64 0,.int .i64 0,(.slice none 0 0),.int .i64 0,.int .i64 0] 27 (0,0)))∧Aside0 (wc.heap[d6]?=some (.cells #[.int .i64 b1,.int .i64 b3,(.slice Ao62 e4.length co62),.int .i64 0,.int .i64 0] 27 (0,0)))∧Aside0 (wc.heap[d1]?=some (.cells #[.int .i64 b7,.int .i64 b8,.int .i64 a9,.int .i64 (wrap64 (a9+d2)),.int .i64 a5,.int .i64 a6,.bool (d3==0)] 52 (0,0)))∧Aside0 (IsS61 w0 wc g s0_0 f1)∧Aside0 (KeepBut w wc g none)∧Aside0 (Below w0.heap.size w0 wc))
         case first=>
          have H:=D8.out;clear D8
          by_cases H7:n7=true
          rotate_left
          ·replace H7:=Bool.eq_false_iff.mpr H7
           subst H7;rw[if_neg zfn]at H;have H':=zA H;clear H
           go_wp2
           go_meet
           case rel=>exact⟨_,((wrap64 (b1+y1))),(f6),zi,H',⟨by have:=z5.out;have:=z6.out;have:=o0.out;have:=y4.out;first|omega|exact Nat.le_refl _⟩,⟨zr HO_125002⟩,⟨zh a4⟩,⟨zh a0⟩,⟨zh a3⟩,⟨zI3 b0 a1 a2 a8⟩,⟨zK3 HK b2 b5 d8⟩,⟨zB3 b0 HB b6 c0 e3⟩⟩
          subst H7;rw[if_pos rfl]at H;replace H:=Option.bind_eq_some_iff.mp H;obtain⟨⟨D9,E0⟩,H8,H⟩:=H;replace H:(spec_l30Path.j4 D7 d0 b7 b8 d9 d7 (wrap64 (b1+D9)) s0_0 E0 b1 b3 e4 0 0 b7 b8 a9 (wrap64 (a9+d2)) a5 a6 (d3==0))=some (r1,r2,r3,r4,r5,r6):=H;have I3:=zA H8;clear H8;have H':=zA H;clear H
          try go_wp2
          replace HO_125002:=zA (Kd.R_drew HO_125002.out);replace a4:=zA (blk_drew a4.out);replace a0:=zA (blk_drew a0.out);replace a3:=zA (blk_drew a3.out);replace b0:=zA (IsS61.drew b0.out);replace HK:=zA (keep_drew HK.out);replace HB:=zA (below_drew1 HB.out);refine start_ (n:=7) (S:=fun w'=>w'.cell? ⟨d6,0,none⟩=some (.int .i64 b1)∧w'.cell? ⟨d6,1,none⟩=some (.int .i64 b3)∧w'.cell? ⟨d6,2,none⟩=some (.slice Ao62 e4.length co62)∧w'.cell? ⟨d6,3,none⟩=some (.int .i64 0)∧w'.cell? ⟨d6,4,none⟩=some (.int .i64 0)) (ds:=[]) #[F,F,F,F,F,F,F] (by kernel_rfl) rfl rfl ⟨zc0 a0,zc1 a0,zc2 a0,zc3 a0,zc4 a0⟩ (fun hHeld=>?_);generalize wc.drew=W0 at HO_125002 a4 a0 a3 b0 HK HB hHeld⊢;refine zp 0 ?_;refine zp 1 ?_;refine zp 3 ?_;refine take_ (i:=2) (N:=some 94) (v:=?_) (a':=?_) #[T,T,T,T,F,F,F] rfl rfl (by kernel_rfl) (fun _ _ _ h=>h) (Or.inl ⟨by rfl,?_⟩) hHeld ?_ ?_;rotate_left;exact zt5;rotate_left;exact zput;refine one_ (i:=4) (N:=some 96) #[T,T,T,T,T,F,F] rfl rfl (by kernel_rfl) (by decide) (fun K hK=>?_);refine zgo Try.func24 #[.pointer (some ⟨g,0,none⟩),.int .i64 20] ?_
          with_reducible refine(spec_l21Rd_pick.calls D7 g s0_0 f6 20 D9 E0 w0 _ ?side1 ?side2 I3.out).mono ?_
          (case side1=>exact zI3 b0 a1 a2 a8);(case side2=>exact zB3 b0 HB b6 c0 e3);rintro e W1 ⟨rfl,hi,hb,hk⟩;refine⟨_,rfl,?_⟩;replace HO_125002:=zok (show IsS61 w0 _ g s0_0 f6 from zI3 b0 a1 a2 a8) (zr HO_125002) hk;replace a4:=zbh hk a4 b9;replace a0:=zbh hk a0 b4;replace a3:=zbh hk a3 d4;replace HK:=zKk (zK3 HK b2 b5 d8) hk;replace HB:=zA (hb);replace b0:=zA (hi);(try clear hb);(try clear hb2);(try clear hk);(try clear hi);refine hK.out _ _ ⟨zc0 a0,zc1 a0,zc2 a0,zc3 a0,zc4 a0⟩ (fun hHeld=>?_);clear hK K;refine zN ?_;refine zp 5 ?_;refine zp 6 ?_;refine done_ (by kernel_rfl) ?_
          try go_wp2
          go_meet
          case rel=>exact⟨_,(wrap64 (b1+D9)),(E0),zi,H',⟨by have:=z5.out;have:=z6.out;have:=o0.out;have:=y4.out;first|omega|exact Nat.le_refl _⟩,⟨zr HO_125002⟩,⟨zh a4⟩,⟨zh a0⟩,⟨zh a3⟩,⟨zI3 b0 a1 a2 a8⟩,⟨zK3 HK b2 b5 d8⟩,⟨zB3 b0 HB b6 c0 e3⟩⟩
         case rest=>
          clear D8
          try clear c1
          try clear c2
          try clear p2
          try clear c3
          try clear c4
          try clear c5
          try clear c6
          try clear p6
          try clear c7
          try clear I4
          try clear I5
          try clear y6
          try clear g2
          try clear i5
          try clear I6
          try clear I7
          try clear z9
          try clear p0
          try clear M9
          try clear N0
          try clear N1
          try clear N2
          try clear N3
          try clear z7
          try clear h5
          try clear p1
          try clear N4
          try clear N5
          try clear N6
          try clear E1
          try clear S2
          try clear S3
          try clear S4
          try clear S5
          try clear S6
          try clear Q0
          try clear y3
          try clear i2
          try clear z2
          try clear z3
          try clear S7
          try clear S8
          try clear S9
          try clear T0
          try clear T1
          try clear T2
          try clear H7
          try clear g4 g5 g6 g7 g8
          try clear i6 i7 i8 i9 j1 j5 j6
          try clear k5 k6 k7 k8 k9 l4 l5
          try clear m3 m4 m5 m6 m7 m8 m9
          try clear p4 p5 p7 p8 p9
          try clear q5 q6 q7 q8 q9 r0 r7
          try clear s5 s6 s7 s8 s9
          try clear w6 w7 w8 w9 x0 x1 x2
          try clear t5 t6 t7 t8 t9 v0 v1
          try clear g9 h0 h1 h2 h3
          try clear j7 j8 j9 k0 k1 k3 k4
          try clear l6 l7 l8 l9 m0 m1 m2
          try clear n0 n1 n2 n3 n4 n5 n6
          try clear q0 q1 q2 q3 q4
          try clear r8 r9 s0 s1 s2 s3 s4
          try clear t0 t1 t2 t3 t4
          try clear x3 x4 x5 x6 x7 x8 x9
          try clear v2 v3 w1 w2 w3 w4 w5
          try clear p2
          try clear p6
          try clear Q0
          obtain⟨kq,f8,f1,rfl,HA,C0,HO_125002,a4,a0,a3,b0,HK,HB⟩:=hcut
          cases kq with
          |zero=>exact absurd HA.out (by simp[spec_l30Path.j4])
          |succ i3=>
           have H:=HA.out;clear HA;simp only[spec_l30Path.j4]at H;replace H:=Option.bind_eq_some_iff.mp H;obtain⟨⟨o3,o4,o8⟩,H9,H⟩:=H;replace H:((spec_l21Rd_pick.f i3 s0_0 o8 2).bind fun z4=>((spec_l30Less.f (wrap64 (a9+d2)) z4.1).bind fun h7=>(if h7>3 then(spec_l30Path.l0 i3 (wrap64 (d0+f8)) o3 o4 3 d9 (wrap64 (d7+1)) s0_0 z4.2 b1 b3 e4 0 0)else(spec_l30Path.l0 i3 (wrap64 (d0+f8)) o3 o4 h7 d9 (wrap64 (d7+1)) s0_0 z4.2 b1 b3 e4 0 0))))=some (r1,r2,r3,r4,r5,r6):=H;have Q1:=zA H9;clear H9;replace H:=Option.bind_eq_some_iff.mp H;obtain⟨⟨o9,y5⟩,I0,H⟩:=H;replace H:((spec_l30Less.f (wrap64 (a9+d2)) o9).bind fun h7=>(if h7>3 then(spec_l30Path.l0 i3 (wrap64 (d0+f8)) o3 o4 3 d9 (wrap64 (d7+1)) s0_0 y5 b1 b3 e4 0 0)else(spec_l30Path.l0 i3 (wrap64 (d0+f8)) o3 o4 h7 d9 (wrap64 (d7+1)) s0_0 y5 b1 b3 e4 0 0)))=some (r1,r2,r3,r4,r5,r6):=H;have Q2:=zA I0;clear I0;replace H:=zbd H;obtain⟨h7,Q3,H⟩:=H
           by_cases E2:h7>3
           ·rw[if_pos E2]at H
            have I1:decide (3<h7)=true:=decide_eq_true E2;clear E2;have H':=zA H;clear H
            try go_wp2_with (first|((with_reducible refine gate_callee (f:=35) rfl ?_);refine zgl (N:=some 105) Try.func35 #[.pointer (some ⟨g,0,none⟩),.int .i64 b7,.int .i64 b8] ?_;(with_reducible refine(spec_l30Step.calls i3 g s0_0 f1 b7 b8 o3 o4 o8 w0 _ ?side1 ?side2 Q1.out).mono ?_);(case side1=>exact zI3 b0 a1 a2 a8);(case side2=>exact zB3 b0 HB b6 c0 e3);rintro e T5 ⟨rfl,hi,hb,hk⟩;refine⟨_,rfl,?_⟩;replace HO_125002:=zok (show IsS61 w0 _ g s0_0 f1 from zI3 b0 a1 a2 a8) (zr HO_125002) hk;replace a4:=zbh hk a4 b9;replace a0:=zbh hk a0 b4;replace a3:=zbh hk a3 d4;replace HK:=zKk (zK3 HK b2 b5 d8) hk;replace HB:=zA (hb);replace b0:=zA (hi);(try clear hb);(try clear hb2);(try clear hk);(try clear hi)))
            replace HO_125002:=zA (Kd.R_drew HO_125002.out);replace a4:=zA (blk_drew a4.out);replace a0:=zA (blk_drew a0.out);replace a3:=zA (blk_drew a3.out);replace b0:=zA (IsS61.drew b0.out);replace HK:=zA (keep_drew HK.out);replace HB:=zA (below_drew1 HB.out);refine start_ (n:=6) (S:=fun w'=>w'.cell? ⟨d1,0,none⟩=some (.int .i64 b7)∧w'.cell? ⟨d1,1,none⟩=some (.int .i64 b8)∧w'.cell? ⟨d1,2,none⟩=some (.int .i64 a9)∧w'.cell? ⟨d1,3,none⟩=some (.int .i64 (wrap64 (a9+d2)))∧w'.cell? ⟨d1,4,none⟩=some (.int .i64 a5)∧w'.cell? ⟨d1,5,none⟩=some (.int .i64 a6)∧w'.cell? ⟨d1,6,none⟩=some (.bool (d3==0))) (ds:=[]) #[F,F,F,F,F,F] (by kernel_rfl) rfl rfl ⟨zc0 a3,zc1 a3,zc2 a3,zc3 a3,zc4 a3,zc5 a3,zc6 a3⟩ (fun hHeld=>?_);generalize T5.drew=W2 at HO_125002 a4 a0 a3 b0 HK HB hHeld⊢;refine zp 0 ?_;refine zp 2 ?_;refine take_ (i:=1) (N:=some 109) (v:=?_) (a':=?_) #[T,T,T,F,F,F] rfl rfl (by kernel_rfl) (fun _ _ _ h=>h) (Or.inl ⟨by rfl,?_⟩) hHeld ?_ ?_;rotate_left;exact zt7;rotate_left;exact zput;refine one_ (i:=3) (N:=some 111) #[T,T,T,T,F,F] rfl rfl (by kernel_rfl) (by decide) (fun K hK=>?_);refine zgo Try.func24 #[.pointer (some ⟨g,0,none⟩),.int .i64 2] ?_
            with_reducible refine(spec_l21Rd_pick.calls i3 g s0_0 o8 2 o9 y5 w0 _ ?side1 ?side2 Q2.out).mono ?_
            (case side1=>exact zI3 b0 a1 a2 a8);(case side2=>exact zB3 b0 HB b6 c0 e3);rintro e W3 ⟨rfl,hi,hb,hk⟩;refine⟨_,rfl,?_⟩;replace HO_125002:=zok (show IsS61 w0 _ g s0_0 o8 from zI3 b0 a1 a2 a8) (zr HO_125002) hk;replace a4:=zbh hk a4 b9;replace a0:=zbh hk a0 b4;replace a3:=zbh hk a3 d4;replace HK:=zKk (zK3 HK b2 b5 d8) hk;replace HB:=zA (hb);replace b0:=zA (hi);(try clear hb);(try clear hb2);(try clear hk);(try clear hi);refine hK.out _ _ ⟨zc0 a3,zc1 a3,zc2 a3,zc3 a3,zc4 a3,zc5 a3,zc6 a3⟩ (fun hHeld=>?_);clear hK K;refine zN ?_;refine one_ (i:=4) (N:=some 112) #[T,T,T,T,T,F] rfl rfl (by kernel_rfl) (by decide) (fun K hK=>?_);refine zgo Try.func34 #[.int .i64 (wrap64 (a9+d2)),.int .i64 o9] ?_
            with_reducible refine(spec_l30Less.calls (wrap64 (a9+d2)) o9 h7 _ Q3.out).mono ?_
            rintro e w' ⟨rfl,⟨nd,rfl⟩⟩;refine⟨_,rfl,?_⟩;refine hK.out _ _ ⟨zc0 a3,zc1 a3,zc2 a3,zc3 a3,zc4 a3,zc5 a3,zc6 a3⟩ (fun hHeld=>?_);clear hK K;refine zN ?_;refine zp 5 ?_;refine done_ (by kernel_rfl) ?_
            try go_wp2
            go_roundg i3
            case measure=>have:=z5.out;have:=z6.out;have:=o0.out;have:=y4.out;have:=C0.out;omega
            case rel=>exact⟨(wrap64 (d0+f8)),(o3),(o4),(3),(wrap64 (d7+1)),(y5),(e4),(.slice Ao62 e4.length co62),zi,zi,zi,zi,zi,H',⟨by have:=z5.out;have:=z6.out;have:=o0.out;have:=y4.out;have:=C0.out;omega⟩,⟨by(with_reducible repeat(first|apply Kd.R_alloc|apply Kd.R_drewN|apply Kd.R_drew));exact Kd.R_mono HO_125002.out (fun _ hk=>trivial)⟩,⟨zh a4⟩,⟨zh a0⟩,⟨zI3 b0 a1 a2 a8⟩,⟨zK3 HK b2 b5 d8⟩,⟨zB3 b0 HB b6 c0 e3⟩⟩
           rw[if_neg E2]at H;have I1:decide (3<h7)=false:=decide_eq_false E2;clear E2;have H':=zA H;clear H
           try go_wp2_with (first|((with_reducible refine gate_callee (f:=35) rfl ?_);refine zgl (N:=some 105) Try.func35 #[.pointer (some ⟨g,0,none⟩),.int .i64 b7,.int .i64 b8] ?_;(with_reducible refine(spec_l30Step.calls i3 g s0_0 f1 b7 b8 o3 o4 o8 w0 _ ?side1 ?side2 Q1.out).mono ?_);(case side1=>exact zI3 b0 a1 a2 a8);(case side2=>exact zB3 b0 HB b6 c0 e3);rintro e U0 ⟨rfl,hi,hb,hk⟩;refine⟨_,rfl,?_⟩;replace HO_125002:=zok (show IsS61 w0 _ g s0_0 f1 from zI3 b0 a1 a2 a8) (zr HO_125002) hk;replace a4:=zbh hk a4 b9;replace a0:=zbh hk a0 b4;replace a3:=zbh hk a3 d4;replace HK:=zKk (zK3 HK b2 b5 d8) hk;replace HB:=zA (hb);replace b0:=zA (hi);(try clear hb);(try clear hb2);(try clear hk);(try clear hi)))
           replace HO_125002:=zA (Kd.R_drew HO_125002.out);replace a4:=zA (blk_drew a4.out);replace a0:=zA (blk_drew a0.out);replace a3:=zA (blk_drew a3.out);replace b0:=zA (IsS61.drew b0.out);replace HK:=zA (keep_drew HK.out);replace HB:=zA (below_drew1 HB.out);refine start_ (n:=6) (S:=fun w'=>w'.cell? ⟨d1,0,none⟩=some (.int .i64 b7)∧w'.cell? ⟨d1,1,none⟩=some (.int .i64 b8)∧w'.cell? ⟨d1,2,none⟩=some (.int .i64 a9)∧w'.cell? ⟨d1,3,none⟩=some (.int .i64 (wrap64 (a9+d2)))∧w'.cell? ⟨d1,4,none⟩=some (.int .i64 a5)∧w'.cell? ⟨d1,5,none⟩=some (.int .i64 a6)∧w'.cell? ⟨d1,6,none⟩=some (.bool (d3==0))) (ds:=[]) #[F,F,F,F,F,F] (by kernel_rfl) rfl rfl ⟨zc0 a3,zc1 a3,zc2 a3,zc3 a3,zc4 a3,zc5 a3,zc6 a3⟩ (fun hHeld=>?_);generalize U0.drew=W4 at HO_125002 a4 a0 a3 b0 HK HB hHeld⊢;refine zp 0 ?_;refine zp 2 ?_;refine take_ (i:=1) (N:=some 109) (v:=?_) (a':=?_) #[T,T,T,F,F,F] rfl rfl (by kernel_rfl) (fun _ _ _ h=>h) (Or.inl ⟨by rfl,?_⟩) hHeld ?_ ?_;rotate_left;exact zt7;rotate_left;exact zput;refine one_ (i:=3) (N:=some 111) #[T,T,T,T,F,F] rfl rfl (by kernel_rfl) (by decide) (fun K hK=>?_);refine zgo Try.func24 #[.pointer (some ⟨g,0,none⟩),.int .i64 2] ?_
           with_reducible refine(spec_l21Rd_pick.calls i3 g s0_0 o8 2 o9 y5 w0 _ ?side1 ?side2 Q2.out).mono ?_
           (case side1=>exact zI3 b0 a1 a2 a8);(case side2=>exact zB3 b0 HB b6 c0 e3);rintro e W5 ⟨rfl,hi,hb,hk⟩;refine⟨_,rfl,?_⟩;replace HO_125002:=zok (show IsS61 w0 _ g s0_0 o8 from zI3 b0 a1 a2 a8) (zr HO_125002) hk;replace a4:=zbh hk a4 b9;replace a0:=zbh hk a0 b4;replace a3:=zbh hk a3 d4;replace HK:=zKk (zK3 HK b2 b5 d8) hk;replace HB:=zA (hb);replace b0:=zA (hi);(try clear hb);(try clear hb2);(try clear hk);(try clear hi);refine hK.out _ _ ⟨zc0 a3,zc1 a3,zc2 a3,zc3 a3,zc4 a3,zc5 a3,zc6 a3⟩ (fun hHeld=>?_);clear hK K;refine zN ?_;refine one_ (i:=4) (N:=some 112) #[T,T,T,T,T,F] rfl rfl (by kernel_rfl) (by decide) (fun K hK=>?_);refine zgo Try.func34 #[.int .i64 (wrap64 (a9+d2)),.int .i64 o9] ?_
           with_reducible refine(spec_l30Less.calls (wrap64 (a9+d2)) o9 h7 _ Q3.out).mono ?_
           rintro e w' ⟨rfl,⟨nd,rfl⟩⟩;refine⟨_,rfl,?_⟩;refine hK.out _ _ ⟨zc0 a3,zc1 a3,zc2 a3,zc3 a3,zc4 a3,zc5 a3,zc6 a3⟩ (fun hHeld=>?_);clear hK K;refine zN ?_;refine zp 5 ?_;refine done_ (by kernel_rfl) ?_
           try go_wp2
           go_roundg i3
           case measure=>have:=z5.out;have:=z6.out;have:=o0.out;have:=y4.out;have:=C0.out;omega
           case rel=>exact⟨(wrap64 (d0+f8)),(o3),(o4),(h7),(wrap64 (d7+1)),(y5),(e4),(.slice Ao62 e4.length co62),zi,zi,zi,zi,zi,H',⟨by have:=z5.out;have:=z6.out;have:=o0.out;have:=y4.out;have:=C0.out;omega⟩,⟨by(with_reducible repeat(first|apply Kd.R_alloc|apply Kd.R_drewN|apply Kd.R_drew));exact Kd.R_mono HO_125002.out (fun _ hk=>trivial)⟩,⟨zh a4⟩,⟨zh a0⟩,⟨zI3 b0 a1 a2 a8⟩,⟨zK3 HK b2 b5 d8⟩,⟨zB3 b0 HB b6 c0 e3⟩⟩
end Go.Proofs.Ytidoahlbaeiemaa.QFnFlyTight
