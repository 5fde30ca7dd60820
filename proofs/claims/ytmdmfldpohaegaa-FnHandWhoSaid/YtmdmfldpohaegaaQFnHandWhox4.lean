/- The walk of what the law FnHandWho reaches: laid by a program of this session (ownprint.py). -/
import Derived.Test.YtmdmfldpohaegaaQFnHandWhox0
import Derived.Test.YtmdmfldpohaegaaQFnHandWhox2
import Derived.Test.YtmdmfldpohaegaaQFnHandWhox3
namespace Go.Proofs.Ytmdmfldpohaegaa.QFnHandWho
open Go.RowKit Go.Proofs.YtmdmfldpohaegaaW.PrintWords Go.Proofs.YtmdmfldpohaegaaW.PrintLast Go.Proofs.YtmdmfldpohaegaaW.PrintMore Go.Proofs.Ytmdmfldpohaegaa.Z
attribute [local go_sem] max2_int min2_int max_two min_two max_three min_three max_four min_four zdn   -- for this text's walks alone
set_option linter.unusedVariables false
set_option linter.unusedSimpArgs false
mutual
def spec_HandZonesOk.l0:Nat→List (S34)→Int→Option (Bool)
 |0,_,_=>none
 |k+1,x0,x3=>if x3<(x0.length:Int)then(if 0≤x3 then((spec_l31NameOk.f k ((rd_T34 x0 x3).f0)).bind fun a0=>(if a0=true then(if x3>0 then(if 0≤(wrap64 (x3-1))then(if(wrap64 (x3-1))<(x0.length:Int)then(if((Op.bytesLess (((rd_T34 x0 (wrap64 (x3-1))).f0).toList) (((rd_T34 x0 x3).f0).toList))=true)then((spec_l31In.f ((rd_T34 x0 x3).f1) 0 ((rd_T34 x0 x3).f3)).bind fun a1=>(if a1=true then(if((rd_T34 x0 x3).f3)≥16 then(spec_HandZonesOk.j1 k x0 x3 true ((rd_T34 x0 x3).f0) ((rd_T34 x0 x3).f1) ((rd_T34 x0 x3).f2) ((rd_T34 x0 x3).f3) ((rd_T34 x0 x3).f4))else((spec_l31In.f ((rd_T34 x0 x3).f2) 0 ((rd_T34 x0 x3).f4)).bind fun a2=>(if a2=true then(spec_HandZonesOk.j1 k x0 x3 (decide (((rd_T34 x0 x3).f4)≥16)) ((rd_T34 x0 x3).f0) ((rd_T34 x0 x3).f1) ((rd_T34 x0 x3).f2) ((rd_T34 x0 x3).f3) ((rd_T34 x0 x3).f4))else(spec_HandZonesOk.j1 k x0 x3 true ((rd_T34 x0 x3).f0) ((rd_T34 x0 x3).f1) ((rd_T34 x0 x3).f2) ((rd_T34 x0 x3).f3) ((rd_T34 x0 x3).f4)))))else(spec_HandZonesOk.j1 k x0 x3 true ((rd_T34 x0 x3).f0) ((rd_T34 x0 x3).f1) ((rd_T34 x0 x3).f2) ((rd_T34 x0 x3).f3) ((rd_T34 x0 x3).f4))))else(spec_HandZonesOk.j1 k x0 x3 true ((rd_T34 x0 x3).f0) ((rd_T34 x0 x3).f1) ((rd_T34 x0 x3).f2) ((rd_T34 x0 x3).f3) ((rd_T34 x0 x3).f4)))else(none))else(none))else((spec_l31In.f ((rd_T34 x0 x3).f1) 0 ((rd_T34 x0 x3).f3)).bind fun a3=>(if a3=true then(if((rd_T34 x0 x3).f3)≥16 then(spec_HandZonesOk.j1 k x0 x3 true ((rd_T34 x0 x3).f0) ((rd_T34 x0 x3).f1) ((rd_T34 x0 x3).f2) ((rd_T34 x0 x3).f3) ((rd_T34 x0 x3).f4))else((spec_l31In.f ((rd_T34 x0 x3).f2) 0 ((rd_T34 x0 x3).f4)).bind fun a4=>(if a4=true then(spec_HandZonesOk.j1 k x0 x3 (decide (((rd_T34 x0 x3).f4)≥16)) ((rd_T34 x0 x3).f0) ((rd_T34 x0 x3).f1) ((rd_T34 x0 x3).f2) ((rd_T34 x0 x3).f3) ((rd_T34 x0 x3).f4))else(spec_HandZonesOk.j1 k x0 x3 true ((rd_T34 x0 x3).f0) ((rd_T34 x0 x3).f1) ((rd_T34 x0 x3).f2) ((rd_T34 x0 x3).f3) ((rd_T34 x0 x3).f4)))))else(spec_HandZonesOk.j1 k x0 x3 true ((rd_T34 x0 x3).f0) ((rd_T34 x0 x3).f1) ((rd_T34 x0 x3).f2) ((rd_T34 x0 x3).f3) ((rd_T34 x0 x3).f4)))))else(spec_HandZonesOk.j1 k x0 x3 true ((rd_T34 x0 x3).f0) ((rd_T34 x0 x3).f1) ((rd_T34 x0 x3).f2) ((rd_T34 x0 x3).f3) ((rd_T34 x0 x3).f4))))else(none))else(some true)
def spec_HandZonesOk.j1:Nat→List (S34)→Int→Bool→ByteArray→Int→Int→Int→Int→Option (Bool)
 |0,_,_,_,_,_,_,_,_=>none
 |k+1,x0,x3,x65,a0,a1,a2,a3,a4=>if x65=true then(some false)else(spec_HandZonesOk.l1 k x0 x3 0 a0 a1 a2 a3 a4)
def spec_HandZonesOk.l1:Nat→List (S34)→Int→Int→ByteArray→Int→Int→Int→Int→Option (Bool)
 |0,_,_,_,_,_,_,_,_=>none
 |k+1,x0,x3,x5,a4,a0,a1,a2,a3=>if x5<x3 then(if 0≤x5 then(if x5<(x0.length:Int)then(if((rd_T34 x0 x5).f1)≤a2 then(if a0≤((rd_T34 x0 x5).f3)then(if((rd_T34 x0 x5).f2)≤a3 then(if a1≤((rd_T34 x0 x5).f4)then(some false)else(spec_HandZonesOk.l1 k x0 x3 (wrap64 (x5+1)) a4 a0 a1 a2 a3))else(spec_HandZonesOk.l1 k x0 x3 (wrap64 (x5+1)) a4 a0 a1 a2 a3))else(spec_HandZonesOk.l1 k x0 x3 (wrap64 (x5+1)) a4 a0 a1 a2 a3))else(spec_HandZonesOk.l1 k x0 x3 (wrap64 (x5+1)) a4 a0 a1 a2 a3))else(none))else(none))else(spec_HandZonesOk.l0 k x0 (wrap64 (x3+1)))
end
def spec_HandZonesOk.f (k:Nat) (l0:List (S34)):Option (Bool):=(spec_l31In.f (l0.length:Int) 1 4).bind fun a0=>(if a0=true then(spec_HandZonesOk.l0 k l0 0)else(some false))
def spec_HandZonesOk.T7:Bool×List (List Nat×List Nat):=(true,[([],[]),([0],[0]),([1],[1]),([2],[2]),([3,2],[3]),([4],[4]),([5,4],[4,5]),([6,4,4],[4,6]),([7],[7]),([7],[7]),([9,7],[7,9]),([8,10,7],[7,8,10]),([11,7],[7,11]),([12,7],[7,12]),([7],[7]),([14,7],[7,14]),([13,15,7],[7,13,15]),([7,16,4],[4,7,16]),([4,17],[4,17]),([18,7],[18]),([19],[19]),([20,19],[19,20]),([19],[19]),([22,19],[19,22]),([21,23,19,19],[19,21,23]),([24,19],[19,24]),([19,25],[19,25]),([26,24],[26]),([27],[27]),([28,27],[27,28]),([29,27],[27,29]),([27,30],[27,30]),([31,27],[31]),([32],[32]),([33,32],[32,33]),([32],[32]),([35,32],[32,35]),([34,36,32,32],[32,34,36]),([37,32],[32,37]),([32,38],[32,38]),([39,37],[39]),([40],[40]),([41,40],[40,41]),([42,40],[40,42]),([40,43],[40,43])])
def spec_HandZonesOk.B7:List Nat:=[0,1,3,7,15,31,63,127,255,255,767,2047,4095,8191,255,16639,65535,131071,262143,524287,1048575,2097151,1048575,5242879,16777215,33554431,67108863,134217727,268435455,536870911,1073741823,2147483647,4294967295,8589934591,17179869183,8589934591,42949672959,137438953471,274877906943,549755813887,1099511627775,2199023255551,4398046511103,8796093022207,17592186044415]
theorem spec_HandZonesOk.tab7:rtab .any (opsOf Try.f8 7)=spec_HandZonesOk.T7:=by kernel_rfl
theorem spec_HandZonesOk.bits7:waitsOk spec_HandZonesOk.T7.2 spec_HandZonesOk.B7=true:=by kernel_rfl
set_option maxHeartbeats 8000000 in
set_option maxRecDepth 100000 in
theorem spec_HandZonesOk.calls (k:Nat) (A0:Option Addr) (c0:Nat) (l0:List (S34)) (r:Bool) (w:World) (hr0:Kd.C k34 w A0 l0.length l0) (hc0:l0.length≤c0) (h:spec_HandZonesOk.f k l0=some r):
 Calls Try.prog 8 #[.slice A0 l0.length c0] w fun e w'=>e= .returned (.bool r)∧Below w.heap.size w w':=by
 have z7:=Try.underlying34;have f5:=zA hr0;have A4:=zA hc0;clear hr0 hc0;have HB:=zA (Below.refl w.heap.size w);have H:=h;clear h;unfold spec_HandZonesOk.f at H;replace H:=zbd H;obtain⟨t6,A2,H⟩:=H
 by_cases c3:t6=true
 rotate_left
 ·replace c3:=Bool.eq_false_iff.mpr c3
  subst c3;rw[if_neg zfn]at H;obtain rfl:=Option.some.inj H
  go_enter Try.func8,Try.ntmps8
  go_wp2_with (first|((with_reducible refine gate_callee (f:=24) rfl ?_);refine zgl (N:=some 9) Try.func24 #[.int .i64 (l0.length:Int),.int .i64 1,.int .i64 4] ?_;(with_reducible refine(spec_l31In.calls (l0.length:Int) 1 4 false _ A2.out).mono ?_);rintro e w' ⟨rfl,⟨nd,rfl⟩⟩;refine⟨_,rfl,?_⟩))
  go_ret;exact⟨ze,zs0 HB⟩
 subst c3;rw[if_pos rfl]at H;have H':=zA H;clear H
 go_enter Try.func8,Try.ntmps8
 go_wp2_with (first|((with_reducible refine gate_callee (f:=24) rfl ?_);refine zgl (N:=some 9) Try.func24 #[.int .i64 (l0.length:Int),.int .i64 1,.int .i64 4] ?_;(with_reducible refine(spec_l31In.calls (l0.length:Int) 1 4 true _ A2.out).mono ?_);rintro e w' ⟨rfl,⟨nd,rfl⟩⟩;refine⟨_,rfl,?_⟩))
 go_loopg [3] k (fun kq v3 w'=> ∃(a1:Int),v3= .int .i64 a1∧Aside0 (spec_HandZonesOk.l0 kq l0 a1=some r)∧Aside0 (kq≤k)∧Aside0 (Below w.heap.size w w'))
 case atStart=>exact⟨(0),zi,H',⟨Nat.le_refl _⟩,⟨zs0 HB⟩⟩
 case round=>
  clear H'
  try clear c2
  try clear p2
  try clear c3
  obtain⟨a1,rfl,HA,d7,HB⟩:=hrel
  cases gk with
  |zero=>exact absurd HA.out (by simp[spec_HandZonesOk.l0])
  |succ k1=>
   have H:=HA.out;clear HA;simp only[spec_HandZonesOk.l0]at H
   by_cases c4:a1<(l0.length:Int)
   rotate_left
   ·rw[if_neg c4]at H
    have t7:decide (a1<(l0.length:Int))=false:=decide_eq_false c4;clear c4;obtain rfl:=Option.some.inj H
    go_wp2
    go_ret;exact⟨ze,zs0 HB⟩
   rw[if_pos c4]at H;have t7:decide (a1<(l0.length:Int))=true:=decide_eq_true c4;clear c4;replace H:=zif H;obtain⟨z8,H⟩:=H;have t8:=zA H;clear H;have f8:0≤(a1:Int):=za;have f9:a1<(l0.length:Int):=za;obtain⟨a4,t9,e1,e2,e3,e4,e5⟩:=at_T34 f5.out a1 f8 f9;cases t9;replace e1:=zx HB e1;replace e2:=zx HB e2;replace e3:=zx HB e3;replace e4:=zx HB e4;replace e5:=zx HB e5;replace f8:=eq_true f8;replace f9:=eq_true f9
   go_upto_region 7 with(first|((with_reducible refine gate_dst (N:=4) rfl ?_);refine zbx 4 #[.string (⟨#[]⟩:ByteArray),.int .i64 0,.int .i64 0,.int .i64 0,.int .i64 0] 34 ?_;intro a2 hg w7 hbox hb;have a0:=zA hbox;have x9:=zgs hg (zs0 HB);have a5:=zgs hg (zs0 HB);replace HB:=zE (zs0 HB) hb;clear hb hbox hg;obtain⟨v0,v1,v2,v4,v6⟩:=zd5 a0;obtain⟨v7,v8,v9,w0,w1⟩:=zn5 a0))
   (try simp only[Act.put,List.setIfInBounds_toArray,List.set_cons_zero,List.set_cons_succ])
   go_cut [65] (fun z9 wc=> ∃(kq:Nat) (e6:Bool),z9= .bool e6∧Aside0 (spec_HandZonesOk.j1 kq l0 a1 e6 ((rd_T34 l0 a1).f0) ((rd_T34 l0 a1).f1) ((rd_T34 l0 a1).f2) ((rd_T34 l0 a1).f3) ((rd_T34 l0 a1).f4)=some r)∧Aside0 (kq≤k1)∧Aside0 (wc.heap[a2]?=some (.cells #[.string ((rd_T34 l0 a1).f0),.int .i64 ((rd_T34 l0 a1).f1),.int .i64 ((rd_T34 l0 a1).f2),.int .i64 ((rd_T34 l0 a1).f3),.int .i64 ((rd_T34 l0 a1).f4)] 34 (0,0)))∧Aside0 (Below w.heap.size w wc))
   case first=>
    have H:=t8.out;clear t8;replace H:=zbd H;obtain⟨w2,A9,H⟩:=H
    by_cases c10:w2=true
    rotate_left
    ·replace c10:=Bool.eq_false_iff.mpr c10
     subst c10;rw[if_neg zfn]at H;have H':=zA H;clear H
     try go_wp2
     obtain⟨w3,e_⟩: ∃x,x=(((((w7.setCell ⟨a2,0,none⟩ (.string ((rd_T34 l0 a1).f0))).setCell ⟨a2,1,none⟩ (.int .i64 ((rd_T34 l0 a1).f1))).setCell ⟨a2,2,none⟩ (.int .i64 ((rd_T34 l0 a1).f2))).setCell ⟨a2,3,none⟩ (.int .i64 ((rd_T34 l0 a1).f3))).setCell ⟨a2,4,none⟩ (.int .i64 ((rd_T34 l0 a1).f4))):=⟨_,rfl⟩
     have n0_:Aside0 (w3.heap[a2]?=some (.cells #[.string ((rd_T34 l0 a1).f0),.int .i64 ((rd_T34 l0 a1).f1),.int .i64 ((rd_T34 l0 a1).f2),.int .i64 ((rd_T34 l0 a1).f3),.int .i64 ((rd_T34 l0 a1).f4)] 34 (0,0))):=by rw[e_];exact⟨zpb a0⟩
     have n1_:Aside0 (Below w.heap.size w w3):=by rw[e_];exact⟨zs1 HB a5⟩
     (try clear a0);(try clear HB);rw[←e_];clear e_;have a0:=n0_;have HB:=n1_;clear n0_ n1_;replace a0:=zA (blk_drew a0.out);replace HB:=zA (below_drew1 HB.out);refine start_ (n:=45) (S:=fun w'=>w'.cell? ⟨a2,0,none⟩=some (.string ((rd_T34 l0 a1).f0))∧w'.cell? ⟨a2,1,none⟩=some (.int .i64 ((rd_T34 l0 a1).f1))∧w'.cell? ⟨a2,2,none⟩=some (.int .i64 ((rd_T34 l0 a1).f2))∧w'.cell? ⟨a2,3,none⟩=some (.int .i64 ((rd_T34 l0 a1).f3))∧w'.cell? ⟨a2,4,none⟩=some (.int .i64 ((rd_T34 l0 a1).f4))) (ds:=[]) #[F,F,F,F,F,F,F,F,F,F,F,F,F,F,F,F,F,F,F,F,F,F,F,F,F,F,F,F,F,F,F,F,F,F,F,F,F,F,F,F,F,F,F,F,F] (by kernel_rfl) rfl rfl ⟨zc0 a0,zc1 a0,zc2 a0,zc3 a0,zc4 a0⟩ (fun hHeld=>?_);refine with_tabW spec_HandZonesOk.tab7 spec_HandZonesOk.bits7 (fun HT_ HW_=>?_);generalize w3.drew=A5 at a0 HB hHeld⊢;refine zq HT_ 0 ?_;refine zk5 HT_ HW_ hHeld 1 ?_;refine zo HT_ 2 (fun K hK=>?_);refine zgo Try.func29 #[.string ((rd_T34 l0 a1).f0)] ?_
     with_reducible refine(spec_l31NameOk.calls k1 ((rd_T34 l0 a1).f0) false _ A9.out).mono ?_
     rintro e w' ⟨rfl,⟨nd,rfl⟩⟩;refine⟨_,rfl,?_⟩;refine hK.out _ _ ⟨zc0 a0,zc1 a0,zc2 a0,zc3 a0,zc4 a0⟩ (fun hHeld=>?_);clear hK K;refine zN ?_;refine zq HT_ 3 ?_;refine zq HT_ 4 ?_;refine zu HT_ 5 ?_;refine zu HT_ 6 ?_;refine zu HT_ 7 ?_;refine zu HT_ 8 ?_;refine zu HT_ 9 ?_;refine zu HT_ 10 ?_;refine zu HT_ 11 ?_;refine zu HT_ 12 ?_;refine zu HT_ 13 ?_;refine zu HT_ 14 ?_;refine zu HT_ 15 ?_;refine zu HT_ 16 ?_;refine zu HT_ 17 ?_;refine zq HT_ 18 ?_;refine zq HT_ 19 ?_;refine zu HT_ 20 ?_;refine zu HT_ 21 ?_;refine zu HT_ 22 ?_;refine zu HT_ 23 ?_;refine zu HT_ 24 ?_;refine zu HT_ 25 ?_;refine zq HT_ 26 ?_;refine zq HT_ 27 ?_;refine zu HT_ 28 ?_;refine zu HT_ 29 ?_;refine zu HT_ 30 ?_;refine zq HT_ 31 ?_;refine zq HT_ 32 ?_;refine zu HT_ 33 ?_;refine zu HT_ 34 ?_;refine zu HT_ 35 ?_;refine zu HT_ 36 ?_;refine zu HT_ 37 ?_;refine zu HT_ 38 ?_;refine zq HT_ 39 ?_;refine zq HT_ 40 ?_;refine zu HT_ 41 ?_;refine zu HT_ 42 ?_;refine zu HT_ 43 ?_;refine zq HT_ 44 ?_;refine done_ (done_of HT_.out (by kernel_rfl)) ?_
     try go_wp2
     go_meet
     case rel=>exact⟨_,(true),zi,H',⟨by have:=d7.out;first|omega|exact Nat.le_refl _⟩,⟨zh a0⟩,⟨zs1 HB a5⟩⟩
    subst c10;rw[if_pos rfl]at H
    by_cases g0:a1>0
    rotate_left
    ·rw[if_neg g0]at H
     have e0:decide (0<a1)=false:=decide_eq_false g0;clear g0;(first|rw[e0]|(simp only[i64_w,i32_w];rw[e0])|skip);replace H:=zbd H;obtain⟨w4,h9,H⟩:=H
     by_cases g1:w4=true
     rotate_left
     ·replace g1:=Bool.eq_false_iff.mpr g1
      subst g1;rw[if_neg zfn]at H;have H':=zA H;clear H
      try go_wp2
      obtain⟨w5,e_⟩: ∃x,x=(((((w7.setCell ⟨a2,0,none⟩ (.string ((rd_T34 l0 a1).f0))).setCell ⟨a2,1,none⟩ (.int .i64 ((rd_T34 l0 a1).f1))).setCell ⟨a2,2,none⟩ (.int .i64 ((rd_T34 l0 a1).f2))).setCell ⟨a2,3,none⟩ (.int .i64 ((rd_T34 l0 a1).f3))).setCell ⟨a2,4,none⟩ (.int .i64 ((rd_T34 l0 a1).f4))):=⟨_,rfl⟩
      have n0_:Aside0 (w5.heap[a2]?=some (.cells #[.string ((rd_T34 l0 a1).f0),.int .i64 ((rd_T34 l0 a1).f1),.int .i64 ((rd_T34 l0 a1).f2),.int .i64 ((rd_T34 l0 a1).f3),.int .i64 ((rd_T34 l0 a1).f4)] 34 (0,0))):=by rw[e_];exact⟨zpb a0⟩
      have n1_:Aside0 (Below w.heap.size w w5):=by rw[e_];exact⟨zs1 HB a5⟩
      (try clear a0);(try clear HB);rw[←e_];clear e_;have a0:=n0_;have HB:=n1_;clear n0_ n1_;replace a0:=zA (blk_drew a0.out);replace HB:=zA (below_drew1 HB.out);refine start_ (n:=45) (S:=fun w'=>w'.cell? ⟨a2,0,none⟩=some (.string ((rd_T34 l0 a1).f0))∧w'.cell? ⟨a2,1,none⟩=some (.int .i64 ((rd_T34 l0 a1).f1))∧w'.cell? ⟨a2,2,none⟩=some (.int .i64 ((rd_T34 l0 a1).f2))∧w'.cell? ⟨a2,3,none⟩=some (.int .i64 ((rd_T34 l0 a1).f3))∧w'.cell? ⟨a2,4,none⟩=some (.int .i64 ((rd_T34 l0 a1).f4))) (ds:=[]) #[F,F,F,F,F,F,F,F,F,F,F,F,F,F,F,F,F,F,F,F,F,F,F,F,F,F,F,F,F,F,F,F,F,F,F,F,F,F,F,F,F,F,F,F,F] (by kernel_rfl) rfl rfl ⟨zc0 a0,zc1 a0,zc2 a0,zc3 a0,zc4 a0⟩ (fun hHeld=>?_);refine with_tabW spec_HandZonesOk.tab7 spec_HandZonesOk.bits7 (fun HT_ HW_=>?_);generalize w5.drew=A6 at a0 HB hHeld⊢;refine zq HT_ 0 ?_;refine zk5 HT_ HW_ hHeld 1 ?_;refine zo HT_ 2 (fun K hK=>?_);refine zgo Try.func29 #[.string ((rd_T34 l0 a1).f0)] ?_
      with_reducible refine(spec_l31NameOk.calls k1 ((rd_T34 l0 a1).f0) true _ A9.out).mono ?_
      rintro e w' ⟨rfl,⟨nd,rfl⟩⟩;refine⟨_,rfl,?_⟩;refine hK.out _ _ ⟨zc0 a0,zc1 a0,zc2 a0,zc3 a0,zc4 a0⟩ (fun hHeld=>?_);clear hK K;refine zN ?_;refine zq HT_ 3 ?_;refine zq HT_ 4 ?_;refine zq HT_ 5 ?_;refine zq HT_ 6 ?_;refine zq HT_ 7 ?_;refine zu HT_ 8 ?_;refine zu HT_ 9 ?_;refine zu HT_ 10 ?_;refine zu HT_ 11 ?_;refine zu HT_ 12 ?_;refine zu HT_ 13 ?_;refine zu HT_ 14 ?_;refine zu HT_ 15 ?_;refine zu HT_ 16 ?_;refine zq HT_ 17 ?_;refine zq HT_ 18 ?_;refine zq HT_ 19 ?_;refine zq HT_ 20 ?_;refine zq HT_ 22 ?_;refine zk5 HT_ HW_ hHeld 21 ?_;refine zk5 HT_ HW_ hHeld 23 ?_;refine zo HT_ 24 (fun K hK=>?_);refine zgo Try.func24 #[.int .i64 ((rd_T34 l0 a1).f1),.int .i64 0,.int .i64 ((rd_T34 l0 a1).f3)] ?_
      with_reducible refine(spec_l31In.calls ((rd_T34 l0 a1).f1) 0 ((rd_T34 l0 a1).f3) false _ h9.out).mono ?_
      rintro e w' ⟨rfl,⟨nd,rfl⟩⟩;refine⟨_,rfl,?_⟩;refine hK.out _ _ ⟨zc0 a0,zc1 a0,zc2 a0,zc3 a0,zc4 a0⟩ (fun hHeld=>?_);clear hK K;refine zN ?_;refine zq HT_ 25 ?_;refine zq HT_ 26 ?_;refine zq HT_ 27 ?_;refine zu HT_ 28 ?_;refine zu HT_ 29 ?_;refine zu HT_ 30 ?_;refine zq HT_ 31 ?_;refine zq HT_ 32 ?_;refine zu HT_ 33 ?_;refine zu HT_ 34 ?_;refine zu HT_ 35 ?_;refine zu HT_ 36 ?_;refine zu HT_ 37 ?_;refine zu HT_ 38 ?_;refine zq HT_ 39 ?_;refine zq HT_ 40 ?_;refine zu HT_ 41 ?_;refine zu HT_ 42 ?_;refine zu HT_ 43 ?_;refine zq HT_ 44 ?_;refine done_ (done_of HT_.out (by kernel_rfl)) ?_
      try go_wp2
      go_meet
      case rel=>exact⟨_,(true),zi,H',⟨by have:=d7.out;first|omega|exact Nat.le_refl _⟩,⟨zh a0⟩,⟨zs1 HB a5⟩⟩
     subst g1;rw[if_pos rfl]at H
     by_cases g2:((rd_T34 l0 a1).f3)≥16
     ·rw[if_pos g2]at H
      have h0:decide (16≤((rd_T34 l0 a1).f3))=true:=decide_eq_true g2;clear g2;have H':=zA H;clear H
      try go_wp2
      obtain⟨w6,e_⟩: ∃x,x=(((((w7.setCell ⟨a2,0,none⟩ (.string ((rd_T34 l0 a1).f0))).setCell ⟨a2,1,none⟩ (.int .i64 ((rd_T34 l0 a1).f1))).setCell ⟨a2,2,none⟩ (.int .i64 ((rd_T34 l0 a1).f2))).setCell ⟨a2,3,none⟩ (.int .i64 ((rd_T34 l0 a1).f3))).setCell ⟨a2,4,none⟩ (.int .i64 ((rd_T34 l0 a1).f4))):=⟨_,rfl⟩
      have n0_:Aside0 (w6.heap[a2]?=some (.cells #[.string ((rd_T34 l0 a1).f0),.int .i64 ((rd_T34 l0 a1).f1),.int .i64 ((rd_T34 l0 a1).f2),.int .i64 ((rd_T34 l0 a1).f3),.int .i64 ((rd_T34 l0 a1).f4)] 34 (0,0))):=by rw[e_];exact⟨zpb a0⟩
      have n1_:Aside0 (Below w.heap.size w w6):=by rw[e_];exact⟨zs1 HB a5⟩
      (try clear a0);(try clear HB);rw[←e_];clear e_;have a0:=n0_;have HB:=n1_;clear n0_ n1_;replace a0:=zA (blk_drew a0.out);replace HB:=zA (below_drew1 HB.out);refine start_ (n:=45) (S:=fun w'=>w'.cell? ⟨a2,0,none⟩=some (.string ((rd_T34 l0 a1).f0))∧w'.cell? ⟨a2,1,none⟩=some (.int .i64 ((rd_T34 l0 a1).f1))∧w'.cell? ⟨a2,2,none⟩=some (.int .i64 ((rd_T34 l0 a1).f2))∧w'.cell? ⟨a2,3,none⟩=some (.int .i64 ((rd_T34 l0 a1).f3))∧w'.cell? ⟨a2,4,none⟩=some (.int .i64 ((rd_T34 l0 a1).f4))) (ds:=[]) #[F,F,F,F,F,F,F,F,F,F,F,F,F,F,F,F,F,F,F,F,F,F,F,F,F,F,F,F,F,F,F,F,F,F,F,F,F,F,F,F,F,F,F,F,F] (by kernel_rfl) rfl rfl ⟨zc0 a0,zc1 a0,zc2 a0,zc3 a0,zc4 a0⟩ (fun hHeld=>?_);refine with_tabW spec_HandZonesOk.tab7 spec_HandZonesOk.bits7 (fun HT_ HW_=>?_);generalize w6.drew=A7 at a0 HB hHeld⊢;refine zq HT_ 0 ?_;refine zk5 HT_ HW_ hHeld 1 ?_;refine zo HT_ 2 (fun K hK=>?_);refine zgo Try.func29 #[.string ((rd_T34 l0 a1).f0)] ?_
      with_reducible refine(spec_l31NameOk.calls k1 ((rd_T34 l0 a1).f0) true _ A9.out).mono ?_
      rintro e w' ⟨rfl,⟨nd,rfl⟩⟩;refine⟨_,rfl,?_⟩;refine hK.out _ _ ⟨zc0 a0,zc1 a0,zc2 a0,zc3 a0,zc4 a0⟩ (fun hHeld=>?_);clear hK K;refine zN ?_;refine zq HT_ 3 ?_;refine zq HT_ 4 ?_;refine zq HT_ 5 ?_;refine zq HT_ 6 ?_;refine zq HT_ 7 ?_;refine zu HT_ 8 ?_;refine zu HT_ 9 ?_;refine zu HT_ 10 ?_;refine zu HT_ 11 ?_;refine zu HT_ 12 ?_;refine zu HT_ 13 ?_;refine zu HT_ 14 ?_;refine zu HT_ 15 ?_;refine zu HT_ 16 ?_;refine zq HT_ 17 ?_;refine zq HT_ 18 ?_;refine zq HT_ 19 ?_;refine zq HT_ 20 ?_;refine zq HT_ 22 ?_;refine zk5 HT_ HW_ hHeld 21 ?_;refine zk5 HT_ HW_ hHeld 23 ?_;refine zo HT_ 24 (fun K hK=>?_);refine zgo Try.func24 #[.int .i64 ((rd_T34 l0 a1).f1),.int .i64 0,.int .i64 ((rd_T34 l0 a1).f3)] ?_
      with_reducible refine(spec_l31In.calls ((rd_T34 l0 a1).f1) 0 ((rd_T34 l0 a1).f3) true _ h9.out).mono ?_
      rintro e w' ⟨rfl,⟨nd,rfl⟩⟩;refine⟨_,rfl,?_⟩;refine hK.out _ _ ⟨zc0 a0,zc1 a0,zc2 a0,zc3 a0,zc4 a0⟩ (fun hHeld=>?_);clear hK K;refine zN ?_;refine zq HT_ 25 ?_;refine zq HT_ 26 ?_;refine zq HT_ 27 ?_;refine zq HT_ 28 ?_;refine zk5 HT_ HW_ hHeld 29 ?_;refine zq HT_ 30 ?_;refine zq HT_ 31 ?_;refine zq HT_ 32 ?_;refine zu HT_ 33 ?_;refine zu HT_ 34 ?_;refine zu HT_ 35 ?_;refine zu HT_ 36 ?_;refine zu HT_ 37 ?_;refine zu HT_ 38 ?_;refine zq HT_ 39 ?_;refine zq HT_ 40 ?_;refine zu HT_ 41 ?_;refine zu HT_ 42 ?_;refine zu HT_ 43 ?_;refine zq HT_ 44 ?_;refine done_ (done_of HT_.out (by kernel_rfl)) ?_
      try go_wp2
      go_meet
      case rel=>exact⟨_,(true),zi,H',⟨by have:=d7.out;first|omega|exact Nat.le_refl _⟩,⟨zh a0⟩,⟨zs1 HB a5⟩⟩
     rw[if_neg g2]at H;have h0:decide (16≤((rd_T34 l0 a1).f3))=false:=decide_eq_false g2;clear g2;replace H:=zbd H;obtain⟨w8,y0,H⟩:=H
     by_cases i0:w8=true
     rotate_left
     ·replace i0:=Bool.eq_false_iff.mpr i0
      subst i0;rw[if_neg zfn]at H;have H':=zA H;clear H
      try go_wp2
      obtain⟨w9,e_⟩: ∃x,x=(((((w7.setCell ⟨a2,0,none⟩ (.string ((rd_T34 l0 a1).f0))).setCell ⟨a2,1,none⟩ (.int .i64 ((rd_T34 l0 a1).f1))).setCell ⟨a2,2,none⟩ (.int .i64 ((rd_T34 l0 a1).f2))).setCell ⟨a2,3,none⟩ (.int .i64 ((rd_T34 l0 a1).f3))).setCell ⟨a2,4,none⟩ (.int .i64 ((rd_T34 l0 a1).f4))):=⟨_,rfl⟩
      have n0_:Aside0 (w9.heap[a2]?=some (.cells #[.string ((rd_T34 l0 a1).f0),.int .i64 ((rd_T34 l0 a1).f1),.int .i64 ((rd_T34 l0 a1).f2),.int .i64 ((rd_T34 l0 a1).f3),.int .i64 ((rd_T34 l0 a1).f4)] 34 (0,0))):=by rw[e_];exact⟨zpb a0⟩
      have n1_:Aside0 (Below w.heap.size w w9):=by rw[e_];exact⟨zs1 HB a5⟩
      (try clear a0);(try clear HB);rw[←e_];clear e_;have a0:=n0_;have HB:=n1_;clear n0_ n1_;replace a0:=zA (blk_drew a0.out);replace HB:=zA (below_drew1 HB.out);refine start_ (n:=45) (S:=fun w'=>w'.cell? ⟨a2,0,none⟩=some (.string ((rd_T34 l0 a1).f0))∧w'.cell? ⟨a2,1,none⟩=some (.int .i64 ((rd_T34 l0 a1).f1))∧w'.cell? ⟨a2,2,none⟩=some (.int .i64 ((rd_T34 l0 a1).f2))∧w'.cell? ⟨a2,3,none⟩=some (.int .i64 ((rd_T34 l0 a1).f3))∧w'.cell? ⟨a2,4,none⟩=some (.int .i64 ((rd_T34 l0 a1).f4))) (ds:=[]) #[F,F,F,F,F,F,F,F,F,F,F,F,F,F,F,F,F,F,F,F,F,F,F,F,F,F,F,F,F,F,F,F,F,F,F,F,F,F,F,F,F,F,F,F,F] (by kernel_rfl) rfl rfl ⟨zc0 a0,zc1 a0,zc2 a0,zc3 a0,zc4 a0⟩ (fun hHeld=>?_);refine with_tabW spec_HandZonesOk.tab7 spec_HandZonesOk.bits7 (fun HT_ HW_=>?_);generalize w9.drew=A8 at a0 HB hHeld⊢;refine zq HT_ 0 ?_;refine zk5 HT_ HW_ hHeld 1 ?_;refine zo HT_ 2 (fun K hK=>?_);refine zgo Try.func29 #[.string ((rd_T34 l0 a1).f0)] ?_
      with_reducible refine(spec_l31NameOk.calls k1 ((rd_T34 l0 a1).f0) true _ A9.out).mono ?_
      rintro e w' ⟨rfl,⟨nd,rfl⟩⟩;refine⟨_,rfl,?_⟩;refine hK.out _ _ ⟨zc0 a0,zc1 a0,zc2 a0,zc3 a0,zc4 a0⟩ (fun hHeld=>?_);clear hK K;refine zN ?_;refine zq HT_ 3 ?_;refine zq HT_ 4 ?_;refine zq HT_ 5 ?_;refine zq HT_ 6 ?_;refine zq HT_ 7 ?_;refine zu HT_ 8 ?_;refine zu HT_ 9 ?_;refine zu HT_ 10 ?_;refine zu HT_ 11 ?_;refine zu HT_ 12 ?_;refine zu HT_ 13 ?_;refine zu HT_ 14 ?_;refine zu HT_ 15 ?_;refine zu HT_ 16 ?_;refine zq HT_ 17 ?_;refine zq HT_ 18 ?_;refine zq HT_ 19 ?_;refine zq HT_ 20 ?_;refine zq HT_ 22 ?_;refine zk5 HT_ HW_ hHeld 21 ?_;refine zk5 HT_ HW_ hHeld 23 ?_;refine zo HT_ 24 (fun K hK=>?_);refine zgo Try.func24 #[.int .i64 ((rd_T34 l0 a1).f1),.int .i64 0,.int .i64 ((rd_T34 l0 a1).f3)] ?_
      with_reducible refine(spec_l31In.calls ((rd_T34 l0 a1).f1) 0 ((rd_T34 l0 a1).f3) true _ h9.out).mono ?_
      rintro e w' ⟨rfl,⟨nd,rfl⟩⟩;refine⟨_,rfl,?_⟩;refine hK.out _ _ ⟨zc0 a0,zc1 a0,zc2 a0,zc3 a0,zc4 a0⟩ (fun hHeld=>?_);clear hK K;refine zN ?_;refine zq HT_ 25 ?_;refine zq HT_ 26 ?_;refine zq HT_ 27 ?_;refine zq HT_ 28 ?_;refine zk5 HT_ HW_ hHeld 29 ?_;refine zq HT_ 30 ?_;refine zq HT_ 31 ?_;refine zq HT_ 32 ?_;refine zq HT_ 33 ?_;refine zq HT_ 35 ?_;refine zk5 HT_ HW_ hHeld 34 ?_;refine zk5 HT_ HW_ hHeld 36 ?_;refine zo HT_ 37 (fun K hK=>?_);refine zgo Try.func24 #[.int .i64 ((rd_T34 l0 a1).f2),.int .i64 0,.int .i64 ((rd_T34 l0 a1).f4)] ?_
      with_reducible refine(spec_l31In.calls ((rd_T34 l0 a1).f2) 0 ((rd_T34 l0 a1).f4) false _ y0.out).mono ?_
      rintro e w' ⟨rfl,⟨nd,rfl⟩⟩;refine⟨_,rfl,?_⟩;refine hK.out _ _ ⟨zc0 a0,zc1 a0,zc2 a0,zc3 a0,zc4 a0⟩ (fun hHeld=>?_);clear hK K;refine zN ?_;refine zq HT_ 38 ?_;refine zq HT_ 39 ?_;refine zq HT_ 40 ?_;refine zu HT_ 41 ?_;refine zu HT_ 42 ?_;refine zu HT_ 43 ?_;refine zq HT_ 44 ?_;refine done_ (done_of HT_.out (by kernel_rfl)) ?_
      try go_wp2
      go_meet
      case rel=>exact⟨_,(true),zi,H',⟨by have:=d7.out;first|omega|exact Nat.le_refl _⟩,⟨zh a0⟩,⟨zs1 HB a5⟩⟩
     subst i0;rw[if_pos rfl]at H;have H':=zA H;clear H
     try go_wp2
     obtain⟨x0,e_⟩: ∃x,x=(((((w7.setCell ⟨a2,0,none⟩ (.string ((rd_T34 l0 a1).f0))).setCell ⟨a2,1,none⟩ (.int .i64 ((rd_T34 l0 a1).f1))).setCell ⟨a2,2,none⟩ (.int .i64 ((rd_T34 l0 a1).f2))).setCell ⟨a2,3,none⟩ (.int .i64 ((rd_T34 l0 a1).f3))).setCell ⟨a2,4,none⟩ (.int .i64 ((rd_T34 l0 a1).f4))):=⟨_,rfl⟩
     have n0_:Aside0 (x0.heap[a2]?=some (.cells #[.string ((rd_T34 l0 a1).f0),.int .i64 ((rd_T34 l0 a1).f1),.int .i64 ((rd_T34 l0 a1).f2),.int .i64 ((rd_T34 l0 a1).f3),.int .i64 ((rd_T34 l0 a1).f4)] 34 (0,0))):=by rw[e_];exact⟨zpb a0⟩
     have n1_:Aside0 (Below w.heap.size w x0):=by rw[e_];exact⟨zs1 HB a5⟩
     (try clear a0);(try clear HB);rw[←e_];clear e_;have a0:=n0_;have HB:=n1_;clear n0_ n1_;replace a0:=zA (blk_drew a0.out);replace HB:=zA (below_drew1 HB.out);refine start_ (n:=45) (S:=fun w'=>w'.cell? ⟨a2,0,none⟩=some (.string ((rd_T34 l0 a1).f0))∧w'.cell? ⟨a2,1,none⟩=some (.int .i64 ((rd_T34 l0 a1).f1))∧w'.cell? ⟨a2,2,none⟩=some (.int .i64 ((rd_T34 l0 a1).f2))∧w'.cell? ⟨a2,3,none⟩=some (.int .i64 ((rd_T34 l0 a1).f3))∧w'.cell? ⟨a2,4,none⟩=some (.int .i64 ((rd_T34 l0 a1).f4))) (ds:=[]) #[F,F,F,F,F,F,F,F,F,F,F,F,F,F,F,F,F,F,F,F,F,F,F,F,F,F,F,F,F,F,F,F,F,F,F,F,F,F,F,F,F,F,F,F,F] (by kernel_rfl) rfl rfl ⟨zc0 a0,zc1 a0,zc2 a0,zc3 a0,zc4 a0⟩ (fun hHeld=>?_);refine with_tabW spec_HandZonesOk.tab7 spec_HandZonesOk.bits7 (fun HT_ HW_=>?_);generalize x0.drew=B0 at a0 HB hHeld⊢;refine zq HT_ 0 ?_;refine zk5 HT_ HW_ hHeld 1 ?_;refine zo HT_ 2 (fun K hK=>?_);refine zgo Try.func29 #[.string ((rd_T34 l0 a1).f0)] ?_
     with_reducible refine(spec_l31NameOk.calls k1 ((rd_T34 l0 a1).f0) true _ A9.out).mono ?_
     rintro e w' ⟨rfl,⟨nd,rfl⟩⟩;refine⟨_,rfl,?_⟩;refine hK.out _ _ ⟨zc0 a0,zc1 a0,zc2 a0,zc3 a0,zc4 a0⟩ (fun hHeld=>?_);clear hK K;refine zN ?_;refine zq HT_ 3 ?_;refine zq HT_ 4 ?_;refine zq HT_ 5 ?_;refine zq HT_ 6 ?_;refine zq HT_ 7 ?_;refine zu HT_ 8 ?_;refine zu HT_ 9 ?_;refine zu HT_ 10 ?_;refine zu HT_ 11 ?_;refine zu HT_ 12 ?_;refine zu HT_ 13 ?_;refine zu HT_ 14 ?_;refine zu HT_ 15 ?_;refine zu HT_ 16 ?_;refine zq HT_ 17 ?_;refine zq HT_ 18 ?_;refine zq HT_ 19 ?_;refine zq HT_ 20 ?_;refine zq HT_ 22 ?_;refine zk5 HT_ HW_ hHeld 21 ?_;refine zk5 HT_ HW_ hHeld 23 ?_;refine zo HT_ 24 (fun K hK=>?_);refine zgo Try.func24 #[.int .i64 ((rd_T34 l0 a1).f1),.int .i64 0,.int .i64 ((rd_T34 l0 a1).f3)] ?_
     with_reducible refine(spec_l31In.calls ((rd_T34 l0 a1).f1) 0 ((rd_T34 l0 a1).f3) true _ h9.out).mono ?_
     rintro e w' ⟨rfl,⟨nd,rfl⟩⟩;refine⟨_,rfl,?_⟩;refine hK.out _ _ ⟨zc0 a0,zc1 a0,zc2 a0,zc3 a0,zc4 a0⟩ (fun hHeld=>?_);clear hK K;refine zN ?_;refine zq HT_ 25 ?_;refine zq HT_ 26 ?_;refine zq HT_ 27 ?_;refine zq HT_ 28 ?_;refine zk5 HT_ HW_ hHeld 29 ?_;refine zq HT_ 30 ?_;refine zq HT_ 31 ?_;refine zq HT_ 32 ?_;refine zq HT_ 33 ?_;refine zq HT_ 35 ?_;refine zk5 HT_ HW_ hHeld 34 ?_;refine zk5 HT_ HW_ hHeld 36 ?_;refine zo HT_ 37 (fun K hK=>?_);refine zgo Try.func24 #[.int .i64 ((rd_T34 l0 a1).f2),.int .i64 0,.int .i64 ((rd_T34 l0 a1).f4)] ?_
     with_reducible refine(spec_l31In.calls ((rd_T34 l0 a1).f2) 0 ((rd_T34 l0 a1).f4) true _ y0.out).mono ?_
     rintro e w' ⟨rfl,⟨nd,rfl⟩⟩;refine⟨_,rfl,?_⟩;refine hK.out _ _ ⟨zc0 a0,zc1 a0,zc2 a0,zc3 a0,zc4 a0⟩ (fun hHeld=>?_);clear hK K;refine zN ?_;refine zq HT_ 38 ?_;refine zq HT_ 39 ?_;refine zq HT_ 40 ?_;refine zq HT_ 41 ?_;refine zk5 HT_ HW_ hHeld 42 ?_;refine zq HT_ 43 ?_;refine zq HT_ 44 ?_;refine done_ (done_of HT_.out (by kernel_rfl)) ?_
     try go_wp2
     go_meet
     case rel=>exact⟨_,(decide (((rd_T34 l0 a1).f4)≥16)),zi,H',⟨by have:=d7.out;first|omega|exact Nat.le_refl _⟩,⟨zh a0⟩,⟨zs1 HB a5⟩⟩
    rw[if_pos g0]at H;have e0:decide (0<a1)=true:=decide_eq_true g0;clear g0;(first|rw[e0]|(simp only[i64_w,i32_w];rw[e0])|skip);obtain⟨a3,e7⟩: ∃j_:Int,(wrap64 (a1-1))=j_:=⟨_,rfl⟩
    first|rw[e7]at H|simp only[e7]at H
    (try rw[e7]at A9);have x1:(IntKind.i64.wrap (a1-1))=a3:=(i64_w _).trans e7;replace H:=zif H;obtain⟨y1,H⟩:=H
    by_cases i1:(a3)<(l0.length:Int)
    rotate_left
    ·rw[if_neg i1]at H
     exact absurd H (by simp)
    rw[if_pos i1]at H;have y2:decide ((a3)<(l0.length:Int))=true:=decide_eq_true i1;clear i1
    by_cases g3:((Op.bytesLess (((rd_T34 l0 (a3)).f0).toList) (((rd_T34 l0 a1).f0).toList))=true)
    rotate_left
    ·rw[if_neg g3]at H
     have h1:(Op.bytesLess (((rd_T34 l0 (a3)).f0).toList) (((rd_T34 l0 a1).f0).toList))=false:=by simpa using g3
     clear g3;have H':=zA H;clear H
     try go_wp2
     obtain⟨x2,e_⟩: ∃x,x=(((((w7.setCell ⟨a2,0,none⟩ (.string ((rd_T34 l0 a1).f0))).setCell ⟨a2,1,none⟩ (.int .i64 ((rd_T34 l0 a1).f1))).setCell ⟨a2,2,none⟩ (.int .i64 ((rd_T34 l0 a1).f2))).setCell ⟨a2,3,none⟩ (.int .i64 ((rd_T34 l0 a1).f3))).setCell ⟨a2,4,none⟩ (.int .i64 ((rd_T34 l0 a1).f4))):=⟨_,rfl⟩
     have n0_:Aside0 (x2.heap[a2]?=some (.cells #[.string ((rd_T34 l0 a1).f0),.int .i64 ((rd_T34 l0 a1).f1),.int .i64 ((rd_T34 l0 a1).f2),.int .i64 ((rd_T34 l0 a1).f3),.int .i64 ((rd_T34 l0 a1).f4)] 34 (0,0))):=by rw[e_];exact⟨zpb a0⟩
     have n1_:Aside0 (Below w.heap.size w x2):=by rw[e_];exact⟨zs1 HB a5⟩
     (try clear a0);(try clear HB);rw[←e_];clear e_;have a0:=n0_;have HB:=n1_;clear n0_ n1_;replace a0:=zA (blk_drew a0.out);replace HB:=zA (below_drew1 HB.out);have d0:0≤((a3):Int):=za;have d1:(a3)<(l0.length:Int):=za;obtain⟨d4,d8,a6,a7,a8,a9,b0⟩:=at_T34 f5.out (a3) d0 d1;have hw128_4:=b0;have hw128_3:=a9;have hw128_2:=a8;have hw128_1:=a7;have hw128_0:=a6;obtain rfl:a4=d4:=(by injection d8);replace a6:=zx HB a6;replace a7:=zx HB a7;replace a8:=zx HB a8;replace a9:=zx HB a9;replace b0:=zx HB b0;replace d0:=eq_true d0;replace d1:=eq_true d1;refine start_ (n:=45) (S:=fun w'=>w'.cell? ⟨a2,0,none⟩=some (.string ((rd_T34 l0 a1).f0))∧w'.cell? ⟨a2,1,none⟩=some (.int .i64 ((rd_T34 l0 a1).f1))∧w'.cell? ⟨a2,2,none⟩=some (.int .i64 ((rd_T34 l0 a1).f2))∧w'.cell? ⟨a2,3,none⟩=some (.int .i64 ((rd_T34 l0 a1).f3))∧w'.cell? ⟨a2,4,none⟩=some (.int .i64 ((rd_T34 l0 a1).f4))∧w'.cell? (a4.add (((a3)).toNat*5))=some (.string ((rd_T34 l0 (a3)).f0))∧w'.cell? ⟨(a4.add (((a3)).toNat*5)).block,(a4.add (((a3)).toNat*5)).off+1,none⟩=some (.int .i64 ((rd_T34 l0 (a3)).f1))∧w'.cell? ⟨(a4.add (((a3)).toNat*5)).block,(a4.add (((a3)).toNat*5)).off+2,none⟩=some (.int .i64 ((rd_T34 l0 (a3)).f2))∧w'.cell? ⟨(a4.add (((a3)).toNat*5)).block,(a4.add (((a3)).toNat*5)).off+3,none⟩=some (.int .i64 ((rd_T34 l0 (a3)).f3))∧w'.cell? ⟨(a4.add (((a3)).toNat*5)).block,(a4.add (((a3)).toNat*5)).off+4,none⟩=some (.int .i64 ((rd_T34 l0 (a3)).f4))) (ds:=[]) #[F,F,F,F,F,F,F,F,F,F,F,F,F,F,F,F,F,F,F,F,F,F,F,F,F,F,F,F,F,F,F,F,F,F,F,F,F,F,F,F,F,F,F,F,F] (by kernel_rfl) rfl rfl ⟨zc0 a0,zc1 a0,zc2 a0,zc3 a0,zc4 a0,(zw HB hw128_0),(zw HB hw128_1),(zw HB hw128_2),(zw HB hw128_3),(zw HB hw128_4)⟩ (fun hHeld=>?_);refine with_tabW spec_HandZonesOk.tab7 spec_HandZonesOk.bits7 (fun HT_ HW_=>?_);generalize x2.drew=B1 at a0 HB a6 a7 a8 a9 b0 hHeld⊢;refine zq HT_ 0 ?_;refine zk10 HT_ HW_ hHeld 1 ?_;refine zo HT_ 2 (fun K hK=>?_);refine zgo Try.func29 #[.string ((rd_T34 l0 a1).f0)] ?_
     with_reducible refine(spec_l31NameOk.calls k1 ((rd_T34 l0 a1).f0) true _ A9.out).mono ?_
     rintro e w' ⟨rfl,⟨nd,rfl⟩⟩;refine⟨_,rfl,?_⟩;refine hK.out _ _ ⟨zc0 a0,zc1 a0,zc2 a0,zc3 a0,zc4 a0,(zw HB hw128_0),(zw HB hw128_1),(zw HB hw128_2),(zw HB hw128_3),(zw HB hw128_4)⟩ (fun hHeld=>?_);clear hK K;refine zN ?_;refine zq HT_ 3 ?_;refine zq HT_ 4 ?_;refine zq HT_ 5 ?_;refine zq HT_ 6 ?_;refine zq HT_ 7 ?_;refine zq HT_ 8 ?_;refine zq HT_ 9 ?_;refine zq HT_ 10 ?_;refine zq HT_ 11 ?_;refine zq HT_ 12 ?_;refine zq HT_ 14 ?_;refine zk10 HT_ HW_ hHeld 13 ?_;refine zk10 HT_ HW_ hHeld 15 ?_;refine zq HT_ 16 ?_;refine zq HT_ 17 ?_;refine zq HT_ 18 ?_;refine zq HT_ 19 ?_;refine zu HT_ 20 ?_;refine zu HT_ 21 ?_;refine zu HT_ 22 ?_;refine zu HT_ 23 ?_;refine zu HT_ 24 ?_;refine zu HT_ 25 ?_;refine zq HT_ 26 ?_;refine zq HT_ 27 ?_;refine zu HT_ 28 ?_;refine zu HT_ 29 ?_;refine zu HT_ 30 ?_;refine zq HT_ 31 ?_;refine zq HT_ 32 ?_;refine zu HT_ 33 ?_;refine zu HT_ 34 ?_;refine zu HT_ 35 ?_;refine zu HT_ 36 ?_;refine zu HT_ 37 ?_;refine zu HT_ 38 ?_;refine zq HT_ 39 ?_;refine zq HT_ 40 ?_;refine zu HT_ 41 ?_;refine zu HT_ 42 ?_;refine zu HT_ 43 ?_;refine zq HT_ 44 ?_;refine done_ (done_of HT_.out (by kernel_rfl)) ?_
     try go_wp2
     go_meet
     case rel=>exact⟨_,(true),zi,H',⟨by have:=d7.out;first|omega|exact Nat.le_refl _⟩,⟨zh a0⟩,⟨zs1 HB a5⟩⟩
    rw[if_pos g3]at H;have h1:(Op.bytesLess (((rd_T34 l0 (a3)).f0).toList) (((rd_T34 l0 a1).f0).toList))=true:=g3;clear g3;replace H:=zbd H;obtain⟨x3,i2,H⟩:=H
    by_cases i3:x3=true
    rotate_left
    ·replace i3:=Bool.eq_false_iff.mpr i3
     subst i3;rw[if_neg zfn]at H;have H':=zA H;clear H
     try go_wp2
     obtain⟨x4,e_⟩: ∃x,x=(((((w7.setCell ⟨a2,0,none⟩ (.string ((rd_T34 l0 a1).f0))).setCell ⟨a2,1,none⟩ (.int .i64 ((rd_T34 l0 a1).f1))).setCell ⟨a2,2,none⟩ (.int .i64 ((rd_T34 l0 a1).f2))).setCell ⟨a2,3,none⟩ (.int .i64 ((rd_T34 l0 a1).f3))).setCell ⟨a2,4,none⟩ (.int .i64 ((rd_T34 l0 a1).f4))):=⟨_,rfl⟩
     have n0_:Aside0 (x4.heap[a2]?=some (.cells #[.string ((rd_T34 l0 a1).f0),.int .i64 ((rd_T34 l0 a1).f1),.int .i64 ((rd_T34 l0 a1).f2),.int .i64 ((rd_T34 l0 a1).f3),.int .i64 ((rd_T34 l0 a1).f4)] 34 (0,0))):=by rw[e_];exact⟨zpb a0⟩
     have n1_:Aside0 (Below w.heap.size w x4):=by rw[e_];exact⟨zs1 HB a5⟩
     (try clear a0);(try clear HB);rw[←e_];clear e_;have a0:=n0_;have HB:=n1_;clear n0_ n1_;replace a0:=zA (blk_drew a0.out);replace HB:=zA (below_drew1 HB.out);have d0:0≤((a3):Int):=za;have d1:(a3)<(l0.length:Int):=za;obtain⟨d4,d8,a6,a7,a8,a9,b0⟩:=at_T34 f5.out (a3) d0 d1;have hw128_4:=b0;have hw128_3:=a9;have hw128_2:=a8;have hw128_1:=a7;have hw128_0:=a6;obtain rfl:a4=d4:=(by injection d8);replace a6:=zx HB a6;replace a7:=zx HB a7;replace a8:=zx HB a8;replace a9:=zx HB a9;replace b0:=zx HB b0;replace d0:=eq_true d0;replace d1:=eq_true d1;refine start_ (n:=45) (S:=fun w'=>w'.cell? ⟨a2,0,none⟩=some (.string ((rd_T34 l0 a1).f0))∧w'.cell? ⟨a2,1,none⟩=some (.int .i64 ((rd_T34 l0 a1).f1))∧w'.cell? ⟨a2,2,none⟩=some (.int .i64 ((rd_T34 l0 a1).f2))∧w'.cell? ⟨a2,3,none⟩=some (.int .i64 ((rd_T34 l0 a1).f3))∧w'.cell? ⟨a2,4,none⟩=some (.int .i64 ((rd_T34 l0 a1).f4))∧w'.cell? (a4.add (((a3)).toNat*5))=some (.string ((rd_T34 l0 (a3)).f0))∧w'.cell? ⟨(a4.add (((a3)).toNat*5)).block,(a4.add (((a3)).toNat*5)).off+1,none⟩=some (.int .i64 ((rd_T34 l0 (a3)).f1))∧w'.cell? ⟨(a4.add (((a3)).toNat*5)).block,(a4.add (((a3)).toNat*5)).off+2,none⟩=some (.int .i64 ((rd_T34 l0 (a3)).f2))∧w'.cell? ⟨(a4.add (((a3)).toNat*5)).block,(a4.add (((a3)).toNat*5)).off+3,none⟩=some (.int .i64 ((rd_T34 l0 (a3)).f3))∧w'.cell? ⟨(a4.add (((a3)).toNat*5)).block,(a4.add (((a3)).toNat*5)).off+4,none⟩=some (.int .i64 ((rd_T34 l0 (a3)).f4))) (ds:=[]) #[F,F,F,F,F,F,F,F,F,F,F,F,F,F,F,F,F,F,F,F,F,F,F,F,F,F,F,F,F,F,F,F,F,F,F,F,F,F,F,F,F,F,F,F,F] (by kernel_rfl) rfl rfl ⟨zc0 a0,zc1 a0,zc2 a0,zc3 a0,zc4 a0,(zw HB hw128_0),(zw HB hw128_1),(zw HB hw128_2),(zw HB hw128_3),(zw HB hw128_4)⟩ (fun hHeld=>?_);refine with_tabW spec_HandZonesOk.tab7 spec_HandZonesOk.bits7 (fun HT_ HW_=>?_);generalize x4.drew=B3 at a0 HB a6 a7 a8 a9 b0 hHeld⊢;refine zq HT_ 0 ?_;refine zk10 HT_ HW_ hHeld 1 ?_;refine zo HT_ 2 (fun K hK=>?_);refine zgo Try.func29 #[.string ((rd_T34 l0 a1).f0)] ?_
     with_reducible refine(spec_l31NameOk.calls k1 ((rd_T34 l0 a1).f0) true _ A9.out).mono ?_
     rintro e w' ⟨rfl,⟨nd,rfl⟩⟩;refine⟨_,rfl,?_⟩;refine hK.out _ _ ⟨zc0 a0,zc1 a0,zc2 a0,zc3 a0,zc4 a0,(zw HB hw128_0),(zw HB hw128_1),(zw HB hw128_2),(zw HB hw128_3),(zw HB hw128_4)⟩ (fun hHeld=>?_);clear hK K;refine zN ?_;refine zq HT_ 3 ?_;refine zq HT_ 4 ?_;refine zq HT_ 5 ?_;refine zq HT_ 6 ?_;refine zq HT_ 7 ?_;refine zq HT_ 8 ?_;refine zq HT_ 9 ?_;refine zq HT_ 10 ?_;refine zq HT_ 11 ?_;refine zq HT_ 12 ?_;refine zq HT_ 14 ?_;refine zk10 HT_ HW_ hHeld 13 ?_;refine zk10 HT_ HW_ hHeld 15 ?_;refine zq HT_ 16 ?_;refine zq HT_ 17 ?_;refine zq HT_ 18 ?_;refine zq HT_ 19 ?_;refine zq HT_ 20 ?_;refine zq HT_ 22 ?_;refine zk10 HT_ HW_ hHeld 21 ?_;refine zk10 HT_ HW_ hHeld 23 ?_;refine zo HT_ 24 (fun K hK=>?_);refine zgo Try.func24 #[.int .i64 ((rd_T34 l0 a1).f1),.int .i64 0,.int .i64 ((rd_T34 l0 a1).f3)] ?_
     with_reducible refine(spec_l31In.calls ((rd_T34 l0 a1).f1) 0 ((rd_T34 l0 a1).f3) false _ i2.out).mono ?_
     rintro e w' ⟨rfl,⟨nd,rfl⟩⟩;refine⟨_,rfl,?_⟩;refine hK.out _ _ ⟨zc0 a0,zc1 a0,zc2 a0,zc3 a0,zc4 a0,(zw HB hw128_0),(zw HB hw128_1),(zw HB hw128_2),(zw HB hw128_3),(zw HB hw128_4)⟩ (fun hHeld=>?_);clear hK K;refine zN ?_;refine zq HT_ 25 ?_;refine zq HT_ 26 ?_;refine zq HT_ 27 ?_;refine zu HT_ 28 ?_;refine zu HT_ 29 ?_;refine zu HT_ 30 ?_;refine zq HT_ 31 ?_;refine zq HT_ 32 ?_;refine zu HT_ 33 ?_;refine zu HT_ 34 ?_;refine zu HT_ 35 ?_;refine zu HT_ 36 ?_;refine zu HT_ 37 ?_;refine zu HT_ 38 ?_;refine zq HT_ 39 ?_;refine zq HT_ 40 ?_;refine zu HT_ 41 ?_;refine zu HT_ 42 ?_;refine zu HT_ 43 ?_;refine zq HT_ 44 ?_;refine done_ (done_of HT_.out (by kernel_rfl)) ?_
     try go_wp2
     go_meet
     case rel=>exact⟨_,(true),zi,H',⟨by have:=d7.out;first|omega|exact Nat.le_refl _⟩,⟨zh a0⟩,⟨zs1 HB a5⟩⟩
    subst i3;rw[if_pos rfl]at H
    by_cases g4:((rd_T34 l0 a1).f3)≥16
    ·rw[if_pos g4]at H
     have h2:decide (16≤((rd_T34 l0 a1).f3))=true:=decide_eq_true g4;clear g4;have H':=zA H;clear H
     try go_wp2
     obtain⟨x5,e_⟩: ∃x,x=(((((w7.setCell ⟨a2,0,none⟩ (.string ((rd_T34 l0 a1).f0))).setCell ⟨a2,1,none⟩ (.int .i64 ((rd_T34 l0 a1).f1))).setCell ⟨a2,2,none⟩ (.int .i64 ((rd_T34 l0 a1).f2))).setCell ⟨a2,3,none⟩ (.int .i64 ((rd_T34 l0 a1).f3))).setCell ⟨a2,4,none⟩ (.int .i64 ((rd_T34 l0 a1).f4))):=⟨_,rfl⟩
     have n0_:Aside0 (x5.heap[a2]?=some (.cells #[.string ((rd_T34 l0 a1).f0),.int .i64 ((rd_T34 l0 a1).f1),.int .i64 ((rd_T34 l0 a1).f2),.int .i64 ((rd_T34 l0 a1).f3),.int .i64 ((rd_T34 l0 a1).f4)] 34 (0,0))):=by rw[e_];exact⟨zpb a0⟩
     have n1_:Aside0 (Below w.heap.size w x5):=by rw[e_];exact⟨zs1 HB a5⟩
     (try clear a0);(try clear HB);rw[←e_];clear e_;have a0:=n0_;have HB:=n1_;clear n0_ n1_;replace a0:=zA (blk_drew a0.out);replace HB:=zA (below_drew1 HB.out);have d0:0≤((a3):Int):=za;have d1:(a3)<(l0.length:Int):=za;obtain⟨d4,d8,a6,a7,a8,a9,b0⟩:=at_T34 f5.out (a3) d0 d1;have hw128_4:=b0;have hw128_3:=a9;have hw128_2:=a8;have hw128_1:=a7;have hw128_0:=a6;obtain rfl:a4=d4:=(by injection d8);replace a6:=zx HB a6;replace a7:=zx HB a7;replace a8:=zx HB a8;replace a9:=zx HB a9;replace b0:=zx HB b0;replace d0:=eq_true d0;replace d1:=eq_true d1;refine start_ (n:=45) (S:=fun w'=>w'.cell? ⟨a2,0,none⟩=some (.string ((rd_T34 l0 a1).f0))∧w'.cell? ⟨a2,1,none⟩=some (.int .i64 ((rd_T34 l0 a1).f1))∧w'.cell? ⟨a2,2,none⟩=some (.int .i64 ((rd_T34 l0 a1).f2))∧w'.cell? ⟨a2,3,none⟩=some (.int .i64 ((rd_T34 l0 a1).f3))∧w'.cell? ⟨a2,4,none⟩=some (.int .i64 ((rd_T34 l0 a1).f4))∧w'.cell? (a4.add (((a3)).toNat*5))=some (.string ((rd_T34 l0 (a3)).f0))∧w'.cell? ⟨(a4.add (((a3)).toNat*5)).block,(a4.add (((a3)).toNat*5)).off+1,none⟩=some (.int .i64 ((rd_T34 l0 (a3)).f1))∧w'.cell? ⟨(a4.add (((a3)).toNat*5)).block,(a4.add (((a3)).toNat*5)).off+2,none⟩=some (.int .i64 ((rd_T34 l0 (a3)).f2))∧w'.cell? ⟨(a4.add (((a3)).toNat*5)).block,(a4.add (((a3)).toNat*5)).off+3,none⟩=some (.int .i64 ((rd_T34 l0 (a3)).f3))∧w'.cell? ⟨(a4.add (((a3)).toNat*5)).block,(a4.add (((a3)).toNat*5)).off+4,none⟩=some (.int .i64 ((rd_T34 l0 (a3)).f4))) (ds:=[]) #[F,F,F,F,F,F,F,F,F,F,F,F,F,F,F,F,F,F,F,F,F,F,F,F,F,F,F,F,F,F,F,F,F,F,F,F,F,F,F,F,F,F,F,F,F] (by kernel_rfl) rfl rfl ⟨zc0 a0,zc1 a0,zc2 a0,zc3 a0,zc4 a0,(zw HB hw128_0),(zw HB hw128_1),(zw HB hw128_2),(zw HB hw128_3),(zw HB hw128_4)⟩ (fun hHeld=>?_);refine with_tabW spec_HandZonesOk.tab7 spec_HandZonesOk.bits7 (fun HT_ HW_=>?_);generalize x5.drew=B4 at a0 HB a6 a7 a8 a9 b0 hHeld⊢;refine zq HT_ 0 ?_;refine zk10 HT_ HW_ hHeld 1 ?_;refine zo HT_ 2 (fun K hK=>?_);refine zgo Try.func29 #[.string ((rd_T34 l0 a1).f0)] ?_
     with_reducible refine(spec_l31NameOk.calls k1 ((rd_T34 l0 a1).f0) true _ A9.out).mono ?_
     rintro e w' ⟨rfl,⟨nd,rfl⟩⟩;refine⟨_,rfl,?_⟩;refine hK.out _ _ ⟨zc0 a0,zc1 a0,zc2 a0,zc3 a0,zc4 a0,(zw HB hw128_0),(zw HB hw128_1),(zw HB hw128_2),(zw HB hw128_3),(zw HB hw128_4)⟩ (fun hHeld=>?_);clear hK K;refine zN ?_;refine zq HT_ 3 ?_;refine zq HT_ 4 ?_;refine zq HT_ 5 ?_;refine zq HT_ 6 ?_;refine zq HT_ 7 ?_;refine zq HT_ 8 ?_;refine zq HT_ 9 ?_;refine zq HT_ 10 ?_;refine zq HT_ 11 ?_;refine zq HT_ 12 ?_;refine zq HT_ 14 ?_;refine zk10 HT_ HW_ hHeld 13 ?_;refine zk10 HT_ HW_ hHeld 15 ?_;refine zq HT_ 16 ?_;refine zq HT_ 17 ?_;refine zq HT_ 18 ?_;refine zq HT_ 19 ?_;refine zq HT_ 20 ?_;refine zq HT_ 22 ?_;refine zk10 HT_ HW_ hHeld 21 ?_;refine zk10 HT_ HW_ hHeld 23 ?_;refine zo HT_ 24 (fun K hK=>?_);refine zgo Try.func24 #[.int .i64 ((rd_T34 l0 a1).f1),.int .i64 0,.int .i64 ((rd_T34 l0 a1).f3)] ?_
     with_reducible refine(spec_l31In.calls ((rd_T34 l0 a1).f1) 0 ((rd_T34 l0 a1).f3) true _ i2.out).mono ?_
     rintro e w' ⟨rfl,⟨nd,rfl⟩⟩;refine⟨_,rfl,?_⟩;refine hK.out _ _ ⟨zc0 a0,zc1 a0,zc2 a0,zc3 a0,zc4 a0,(zw HB hw128_0),(zw HB hw128_1),(zw HB hw128_2),(zw HB hw128_3),(zw HB hw128_4)⟩ (fun hHeld=>?_);clear hK K;refine zN ?_;refine zq HT_ 25 ?_;refine zq HT_ 26 ?_;refine zq HT_ 27 ?_;refine zq HT_ 28 ?_;refine zk10 HT_ HW_ hHeld 29 ?_;refine zq HT_ 30 ?_;refine zq HT_ 31 ?_;refine zq HT_ 32 ?_;refine zu HT_ 33 ?_;refine zu HT_ 34 ?_;refine zu HT_ 35 ?_;refine zu HT_ 36 ?_;refine zu HT_ 37 ?_;refine zu HT_ 38 ?_;refine zq HT_ 39 ?_;refine zq HT_ 40 ?_;refine zu HT_ 41 ?_;refine zu HT_ 42 ?_;refine zu HT_ 43 ?_;refine zq HT_ 44 ?_;refine done_ (done_of HT_.out (by kernel_rfl)) ?_
     try go_wp2
     go_meet
     case rel=>exact⟨_,(true),zi,H',⟨by have:=d7.out;first|omega|exact Nat.le_refl _⟩,⟨zh a0⟩,⟨zs1 HB a5⟩⟩
    rw[if_neg g4]at H;have h2:decide (16≤((rd_T34 l0 a1).f3))=false:=decide_eq_false g4;clear g4;replace H:=zbd H;obtain⟨x6,y3,H⟩:=H
    by_cases i4:x6=true
    rotate_left
    ·replace i4:=Bool.eq_false_iff.mpr i4
     subst i4;rw[if_neg zfn]at H;have H':=zA H;clear H
     try go_wp2
     obtain⟨x7,e_⟩: ∃x,x=(((((w7.setCell ⟨a2,0,none⟩ (.string ((rd_T34 l0 a1).f0))).setCell ⟨a2,1,none⟩ (.int .i64 ((rd_T34 l0 a1).f1))).setCell ⟨a2,2,none⟩ (.int .i64 ((rd_T34 l0 a1).f2))).setCell ⟨a2,3,none⟩ (.int .i64 ((rd_T34 l0 a1).f3))).setCell ⟨a2,4,none⟩ (.int .i64 ((rd_T34 l0 a1).f4))):=⟨_,rfl⟩
     have n0_:Aside0 (x7.heap[a2]?=some (.cells #[.string ((rd_T34 l0 a1).f0),.int .i64 ((rd_T34 l0 a1).f1),.int .i64 ((rd_T34 l0 a1).f2),.int .i64 ((rd_T34 l0 a1).f3),.int .i64 ((rd_T34 l0 a1).f4)] 34 (0,0))):=by rw[e_];exact⟨zpb a0⟩
     have n1_:Aside0 (Below w.heap.size w x7):=by rw[e_];exact⟨zs1 HB a5⟩
     (try clear a0);(try clear HB);rw[←e_];clear e_;have a0:=n0_;have HB:=n1_;clear n0_ n1_;replace a0:=zA (blk_drew a0.out);replace HB:=zA (below_drew1 HB.out);have d0:0≤((a3):Int):=za;have d1:(a3)<(l0.length:Int):=za;obtain⟨d4,d8,a6,a7,a8,a9,b0⟩:=at_T34 f5.out (a3) d0 d1;have hw128_4:=b0;have hw128_3:=a9;have hw128_2:=a8;have hw128_1:=a7;have hw128_0:=a6;obtain rfl:a4=d4:=(by injection d8);replace a6:=zx HB a6;replace a7:=zx HB a7;replace a8:=zx HB a8;replace a9:=zx HB a9;replace b0:=zx HB b0;replace d0:=eq_true d0;replace d1:=eq_true d1;refine start_ (n:=45) (S:=fun w'=>w'.cell? ⟨a2,0,none⟩=some (.string ((rd_T34 l0 a1).f0))∧w'.cell? ⟨a2,1,none⟩=some (.int .i64 ((rd_T34 l0 a1).f1))∧w'.cell? ⟨a2,2,none⟩=some (.int .i64 ((rd_T34 l0 a1).f2))∧w'.cell? ⟨a2,3,none⟩=some (.int .i64 ((rd_T34 l0 a1).f3))∧w'.cell? ⟨a2,4,none⟩=some (.int .i64 ((rd_T34 l0 a1).f4))∧w'.cell? (a4.add (((a3)).toNat*5))=some (.string ((rd_T34 l0 (a3)).f0))∧w'.cell? ⟨(a4.add (((a3)).toNat*5)).block,(a4.add (((a3)).toNat*5)).off+1,none⟩=some (.int .i64 ((rd_T34 l0 (a3)).f1))∧w'.cell? ⟨(a4.add (((a3)).toNat*5)).block,(a4.add (((a3)).toNat*5)).off+2,none⟩=some (.int .i64 ((rd_T34 l0 (a3)).f2))∧w'.cell? ⟨(a4.add (((a3)).toNat*5)).block,(a4.add (((a3)).toNat*5)).off+3,none⟩=some (.int .i64 ((rd_T34 l0 (a3)).f3))∧w'.cell? ⟨(a4.add (((a3)).toNat*5)).block,(a4.add (((a3)).toNat*5)).off+4,none⟩=some (.int .i64 ((rd_T34 l0 (a3)).f4))) (ds:=[]) #[F,F,F,F,F,F,F,F,F,F,F,F,F,F,F,F,F,F,F,F,F,F,F,F,F,F,F,F,F,F,F,F,F,F,F,F,F,F,F,F,F,F,F,F,F] (by kernel_rfl) rfl rfl ⟨zc0 a0,zc1 a0,zc2 a0,zc3 a0,zc4 a0,(zw HB hw128_0),(zw HB hw128_1),(zw HB hw128_2),(zw HB hw128_3),(zw HB hw128_4)⟩ (fun hHeld=>?_);refine with_tabW spec_HandZonesOk.tab7 spec_HandZonesOk.bits7 (fun HT_ HW_=>?_);generalize x7.drew=B5 at a0 HB a6 a7 a8 a9 b0 hHeld⊢;refine zq HT_ 0 ?_;refine zk10 HT_ HW_ hHeld 1 ?_;refine zo HT_ 2 (fun K hK=>?_);refine zgo Try.func29 #[.string ((rd_T34 l0 a1).f0)] ?_
     with_reducible refine(spec_l31NameOk.calls k1 ((rd_T34 l0 a1).f0) true _ A9.out).mono ?_
     rintro e w' ⟨rfl,⟨nd,rfl⟩⟩;refine⟨_,rfl,?_⟩;refine hK.out _ _ ⟨zc0 a0,zc1 a0,zc2 a0,zc3 a0,zc4 a0,(zw HB hw128_0),(zw HB hw128_1),(zw HB hw128_2),(zw HB hw128_3),(zw HB hw128_4)⟩ (fun hHeld=>?_);clear hK K;refine zN ?_;refine zq HT_ 3 ?_;refine zq HT_ 4 ?_;refine zq HT_ 5 ?_;refine zq HT_ 6 ?_;refine zq HT_ 7 ?_;refine zq HT_ 8 ?_;refine zq HT_ 9 ?_;refine zq HT_ 10 ?_;refine zq HT_ 11 ?_;refine zq HT_ 12 ?_;refine zq HT_ 14 ?_;refine zk10 HT_ HW_ hHeld 13 ?_;refine zk10 HT_ HW_ hHeld 15 ?_;refine zq HT_ 16 ?_;refine zq HT_ 17 ?_;refine zq HT_ 18 ?_;refine zq HT_ 19 ?_;refine zq HT_ 20 ?_;refine zq HT_ 22 ?_;refine zk10 HT_ HW_ hHeld 21 ?_;refine zk10 HT_ HW_ hHeld 23 ?_;refine zo HT_ 24 (fun K hK=>?_);refine zgo Try.func24 #[.int .i64 ((rd_T34 l0 a1).f1),.int .i64 0,.int .i64 ((rd_T34 l0 a1).f3)] ?_
     with_reducible refine(spec_l31In.calls ((rd_T34 l0 a1).f1) 0 ((rd_T34 l0 a1).f3) true _ i2.out).mono ?_
     rintro e w' ⟨rfl,⟨nd,rfl⟩⟩;refine⟨_,rfl,?_⟩;refine hK.out _ _ ⟨zc0 a0,zc1 a0,zc2 a0,zc3 a0,zc4 a0,(zw HB hw128_0),(zw HB hw128_1),(zw HB hw128_2),(zw HB hw128_3),(zw HB hw128_4)⟩ (fun hHeld=>?_);clear hK K;refine zN ?_;refine zq HT_ 25 ?_;refine zq HT_ 26 ?_;refine zq HT_ 27 ?_;refine zq HT_ 28 ?_;refine zk10 HT_ HW_ hHeld 29 ?_;refine zq HT_ 30 ?_;refine zq HT_ 31 ?_;refine zq HT_ 32 ?_;refine zq HT_ 33 ?_;refine zq HT_ 35 ?_;refine zk10 HT_ HW_ hHeld 34 ?_;refine zk10 HT_ HW_ hHeld 36 ?_;refine zo HT_ 37 (fun K hK=>?_);refine zgo Try.func24 #[.int .i64 ((rd_T34 l0 a1).f2),.int .i64 0,.int .i64 ((rd_T34 l0 a1).f4)] ?_
     with_reducible refine(spec_l31In.calls ((rd_T34 l0 a1).f2) 0 ((rd_T34 l0 a1).f4) false _ y3.out).mono ?_
     rintro e w' ⟨rfl,⟨nd,rfl⟩⟩;refine⟨_,rfl,?_⟩;refine hK.out _ _ ⟨zc0 a0,zc1 a0,zc2 a0,zc3 a0,zc4 a0,(zw HB hw128_0),(zw HB hw128_1),(zw HB hw128_2),(zw HB hw128_3),(zw HB hw128_4)⟩ (fun hHeld=>?_);clear hK K;refine zN ?_;refine zq HT_ 38 ?_;refine zq HT_ 39 ?_;refine zq HT_ 40 ?_;refine zu HT_ 41 ?_;refine zu HT_ 42 ?_;refine zu HT_ 43 ?_;refine zq HT_ 44 ?_;refine done_ (done_of HT_.out (by kernel_rfl)) ?_
     try go_wp2
     go_meet
     case rel=>exact⟨_,(true),zi,H',⟨by have:=d7.out;first|omega|exact Nat.le_refl _⟩,⟨zh a0⟩,⟨zs1 HB a5⟩⟩
    subst i4;rw[if_pos rfl]at H;have H':=zA H;clear H
    try go_wp2
    obtain⟨x8,e_⟩: ∃x,x=(((((w7.setCell ⟨a2,0,none⟩ (.string ((rd_T34 l0 a1).f0))).setCell ⟨a2,1,none⟩ (.int .i64 ((rd_T34 l0 a1).f1))).setCell ⟨a2,2,none⟩ (.int .i64 ((rd_T34 l0 a1).f2))).setCell ⟨a2,3,none⟩ (.int .i64 ((rd_T34 l0 a1).f3))).setCell ⟨a2,4,none⟩ (.int .i64 ((rd_T34 l0 a1).f4))):=⟨_,rfl⟩
    have n0_:Aside0 (x8.heap[a2]?=some (.cells #[.string ((rd_T34 l0 a1).f0),.int .i64 ((rd_T34 l0 a1).f1),.int .i64 ((rd_T34 l0 a1).f2),.int .i64 ((rd_T34 l0 a1).f3),.int .i64 ((rd_T34 l0 a1).f4)] 34 (0,0))):=by rw[e_];exact⟨zpb a0⟩
    have n1_:Aside0 (Below w.heap.size w x8):=by rw[e_];exact⟨zs1 HB a5⟩
    (try clear a0);(try clear HB);rw[←e_];clear e_;have a0:=n0_;have HB:=n1_;clear n0_ n1_;replace a0:=zA (blk_drew a0.out);replace HB:=zA (below_drew1 HB.out);have d0:0≤((a3):Int):=za;have d1:(a3)<(l0.length:Int):=za;obtain⟨d4,d8,a6,a7,a8,a9,b0⟩:=at_T34 f5.out (a3) d0 d1;have hw128_4:=b0;have hw128_3:=a9;have hw128_2:=a8;have hw128_1:=a7;have hw128_0:=a6;obtain rfl:a4=d4:=(by injection d8);replace a6:=zx HB a6;replace a7:=zx HB a7;replace a8:=zx HB a8;replace a9:=zx HB a9;replace b0:=zx HB b0;replace d0:=eq_true d0;replace d1:=eq_true d1;refine start_ (n:=45) (S:=fun w'=>w'.cell? ⟨a2,0,none⟩=some (.string ((rd_T34 l0 a1).f0))∧w'.cell? ⟨a2,1,none⟩=some (.int .i64 ((rd_T34 l0 a1).f1))∧w'.cell? ⟨a2,2,none⟩=some (.int .i64 ((rd_T34 l0 a1).f2))∧w'.cell? ⟨a2,3,none⟩=some (.int .i64 ((rd_T34 l0 a1).f3))∧w'.cell? ⟨a2,4,none⟩=some (.int .i64 ((rd_T34 l0 a1).f4))∧w'.cell? (a4.add (((a3)).toNat*5))=some (.string ((rd_T34 l0 (a3)).f0))∧w'.cell? ⟨(a4.add (((a3)).toNat*5)).block,(a4.add (((a3)).toNat*5)).off+1,none⟩=some (.int .i64 ((rd_T34 l0 (a3)).f1))∧w'.cell? ⟨(a4.add (((a3)).toNat*5)).block,(a4.add (((a3)).toNat*5)).off+2,none⟩=some (.int .i64 ((rd_T34 l0 (a3)).f2))∧w'.cell? ⟨(a4.add (((a3)).toNat*5)).block,(a4.add (((a3)).toNat*5)).off+3,none⟩=some (.int .i64 ((rd_T34 l0 (a3)).f3))∧w'.cell? ⟨(a4.add (((a3)).toNat*5)).block,(a4.add (((a3)).toNat*5)).off+4,none⟩=some (.int .i64 ((rd_T34 l0 (a3)).f4))) (ds:=[]) #[F,F,F,F,F,F,F,F,F,F,F,F,F,F,F,F,F,F,F,F,F,F,F,F,F,F,F,F,F,F,F,F,F,F,F,F,F,F,F,F,F,F,F,F,F] (by kernel_rfl) rfl rfl ⟨zc0 a0,zc1 a0,zc2 a0,zc3 a0,zc4 a0,(zw HB hw128_0),(zw HB hw128_1),(zw HB hw128_2),(zw HB hw128_3),(zw HB hw128_4)⟩ (fun hHeld=>?_);refine with_tabW spec_HandZonesOk.tab7 spec_HandZonesOk.bits7 (fun HT_ HW_=>?_);generalize x8.drew=C0 at a0 HB a6 a7 a8 a9 b0 hHeld⊢;refine zq HT_ 0 ?_;refine zk10 HT_ HW_ hHeld 1 ?_;refine zo HT_ 2 (fun K hK=>?_);refine zgo Try.func29 #[.string ((rd_T34 l0 a1).f0)] ?_
    with_reducible refine(spec_l31NameOk.calls k1 ((rd_T34 l0 a1).f0) true _ A9.out).mono ?_
    rintro e w' ⟨rfl,⟨nd,rfl⟩⟩;refine⟨_,rfl,?_⟩;refine hK.out _ _ ⟨zc0 a0,zc1 a0,zc2 a0,zc3 a0,zc4 a0,(zw HB hw128_0),(zw HB hw128_1),(zw HB hw128_2),(zw HB hw128_3),(zw HB hw128_4)⟩ (fun hHeld=>?_);clear hK K;refine zN ?_;refine zq HT_ 3 ?_;refine zq HT_ 4 ?_;refine zq HT_ 5 ?_;refine zq HT_ 6 ?_;refine zq HT_ 7 ?_;refine zq HT_ 8 ?_;refine zq HT_ 9 ?_;refine zq HT_ 10 ?_;refine zq HT_ 11 ?_;refine zq HT_ 12 ?_;refine zq HT_ 14 ?_;refine zk10 HT_ HW_ hHeld 13 ?_;refine zk10 HT_ HW_ hHeld 15 ?_;refine zq HT_ 16 ?_;refine zq HT_ 17 ?_;refine zq HT_ 18 ?_;refine zq HT_ 19 ?_;refine zq HT_ 20 ?_;refine zq HT_ 22 ?_;refine zk10 HT_ HW_ hHeld 21 ?_;refine zk10 HT_ HW_ hHeld 23 ?_;refine zo HT_ 24 (fun K hK=>?_);refine zgo Try.func24 #[.int .i64 ((rd_T34 l0 a1).f1),.int .i64 0,.int .i64 ((rd_T34 l0 a1).f3)] ?_
    with_reducible refine(spec_l31In.calls ((rd_T34 l0 a1).f1) 0 ((rd_T34 l0 a1).f3) true _ i2.out).mono ?_
    rintro e w' ⟨rfl,⟨nd,rfl⟩⟩;refine⟨_,rfl,?_⟩;refine hK.out _ _ ⟨zc0 a0,zc1 a0,zc2 a0,zc3 a0,zc4 a0,(zw HB hw128_0),(zw HB hw128_1),(zw HB hw128_2),(zw HB hw128_3),(zw HB hw128_4)⟩ (fun hHeld=>?_);clear hK K;refine zN ?_;refine zq HT_ 25 ?_;refine zq HT_ 26 ?_;refine zq HT_ 27 ?_;refine zq HT_ 28 ?_;refine zk10 HT_ HW_ hHeld 29 ?_;refine zq HT_ 30 ?_;refine zq HT_ 31 ?_;refine zq HT_ 32 ?_;refine zq HT_ 33 ?_;refine zq HT_ 35 ?_;refine zk10 HT_ HW_ hHeld 34 ?_;refine zk10 HT_ HW_ hHeld 36 ?_;refine zo HT_ 37 (fun K hK=>?_);refine zgo Try.func24 #[.int .i64 ((rd_T34 l0 a1).f2),.int .i64 0,.int .i64 ((rd_T34 l0 a1).f4)] ?_
    with_reducible refine(spec_l31In.calls ((rd_T34 l0 a1).f2) 0 ((rd_T34 l0 a1).f4) true _ y3.out).mono ?_
    rintro e w' ⟨rfl,⟨nd,rfl⟩⟩;refine⟨_,rfl,?_⟩;refine hK.out _ _ ⟨zc0 a0,zc1 a0,zc2 a0,zc3 a0,zc4 a0,(zw HB hw128_0),(zw HB hw128_1),(zw HB hw128_2),(zw HB hw128_3),(zw HB hw128_4)⟩ (fun hHeld=>?_);clear hK K;refine zN ?_;refine zq HT_ 38 ?_;refine zq HT_ 39 ?_;refine zq HT_ 40 ?_;refine zq HT_ 41 ?_;refine zk10 HT_ HW_ hHeld 42 ?_;refine zq HT_ 43 ?_;refine zq HT_ 44 ?_;refine done_ (done_of HT_.out (by kernel_rfl)) ?_
    try go_wp2
    go_meet
    case rel=>exact⟨_,(decide (((rd_T34 l0 a1).f4)≥16)),zi,H',⟨by have:=d7.out;first|omega|exact Nat.le_refl _⟩,⟨zh a0⟩,⟨zs1 HB a5⟩⟩
   case rest=>
    clear t8
    try clear c1
    try clear c2
    try clear p2
    try clear c3
    try clear c10
    try clear A1
    try clear A3
    try clear g1
    obtain⟨kq,e6,rfl,HA,f6,a0,HB⟩:=hcut
    cases kq with
    |zero=>exact absurd HA.out (by simp[spec_HandZonesOk.j1])
    |succ y4=>
     have H:=HA.out;clear HA;simp only[spec_HandZonesOk.j1]at H
     by_cases h3:e6=true
     ·subst h3
      rw[if_pos rfl]at H;obtain rfl:=Option.some.inj H
      go_wp2
      go_ret;exact⟨ze,zs1 HB a5⟩
     replace h3:=Bool.eq_false_iff.mpr h3;subst h3;rw[if_neg zfn]at H;have H':=zA H;clear H
     go_wp2
     go_loopg [5] y4 (fun kq v5 w'=> ∃(b2:Int),v5= .int .i64 b2∧Aside0 (spec_HandZonesOk.l1 kq l0 a1 b2 ((rd_T34 l0 a1).f0) ((rd_T34 l0 a1).f1) ((rd_T34 l0 a1).f2) ((rd_T34 l0 a1).f3) ((rd_T34 l0 a1).f4)=some r)∧Aside0 (kq≤y4)∧Aside0 (w'.heap[a2]?=some (.cells #[.string ((rd_T34 l0 a1).f0),.int .i64 ((rd_T34 l0 a1).f1),.int .i64 ((rd_T34 l0 a1).f2),.int .i64 ((rd_T34 l0 a1).f3),.int .i64 ((rd_T34 l0 a1).f4)] 34 (0,0)))∧Aside0 (Below w.heap.size w w'))
     case atStart=>exact⟨(0),zi,H',⟨Nat.le_refl _⟩,⟨zh a0⟩,⟨zs1 HB a5⟩⟩
     case round=>
      clear H'
      try clear c1
      try clear c2
      try clear p2
      try clear c3
      try clear c4
      try clear c10
      try clear A1
      try clear A3
      try clear g1
      try clear h3
      try clear p2
      obtain⟨b2,rfl,HA,f7,a0,HB⟩:=hrel
      cases gk with
      |zero=>exact absurd HA.out (by simp[spec_HandZonesOk.l1])
      |succ k3=>
       have H:=HA.out;clear HA;simp only[spec_HandZonesOk.l1]at H
       by_cases g5:b2<a1
       rotate_left
       ·rw[if_neg g5]at H
        have h4:decide (b2<a1)=false:=decide_eq_false g5;clear g5;have H':=zA H;clear H
        go_wp2
        go_roundg k3
        case measure=>have:=d7.out;have:=f6.out;have:=f7.out;omega
        case rel=>exact⟨(wrap64 (a1+1)),zi,H',⟨by have:=d7.out;have:=f6.out;have:=f7.out;omega⟩,⟨zs1 HB a5⟩⟩
       rw[if_pos g5]at H;have h4:decide (b2<a1)=true:=decide_eq_true g5;clear g5;replace H:=zif H;obtain⟨y5,H⟩:=H
       by_cases i5:b2<(l0.length:Int)
       rotate_left
       ·rw[if_neg i5]at H
        exact absurd H (by simp)
       rw[if_pos i5]at H;have y6:decide (b2<(l0.length:Int))=true:=decide_eq_true i5;clear i5
       by_cases g6:((rd_T34 l0 b2).f1)≤((rd_T34 l0 a1).f3)
       rotate_left
       ·rw[if_neg g6]at H
        have h5:decide (((rd_T34 l0 b2).f1)≤((rd_T34 l0 a1).f3))=false:=decide_eq_false g6;clear g6;have H':=zA H;clear H;have d2:0≤(b2:Int):=za;have d3:b2<(l0.length:Int):=za;obtain⟨d5,d9,b3,b4,b5,b6,b7⟩:=at_T34 f5.out b2 d2 d3;obtain rfl:a4=d5:=(by injection d9);replace b3:=zx HB b3;replace b4:=zx HB b4;replace b5:=zx HB b5;replace b6:=zx HB b6;replace b7:=zx HB b7;replace d2:=eq_true d2;replace d3:=eq_true d3
        go_wp2_with (first|((with_reducible refine gate_dst (N:=6) rfl ?_);refine zbx 6 #[.string (⟨#[]⟩:ByteArray),.int .i64 0,.int .i64 0,.int .i64 0,.int .i64 0] 34 ?_;intro e8 hg C1 hbox hb;have b9:=zA hbox;have e9:=zgs hg (zs1 HB a5);have d6:=zgs hg (zs1 HB a5);have b1:=zne hg a0;have b8:=znf hg a0;replace a0:=zb a0 hb;replace HB:=zE (zs1 HB a5) hb;clear hb hbox hg;have y7:=b8.out;have y8:=b1.out;obtain⟨i6,i7,i8,i9,j4⟩:=zd5 b9;obtain⟨j6,j7,j8,j9,k0⟩:=zn5 b9;obtain⟨k2,k4,k5,k6,k7⟩:=zd5 a0;obtain⟨k8,k9,l2,l3,l4⟩:=zn5 a0))
        go_roundg k3
        case measure=>have:=d7.out;have:=f6.out;have:=f7.out;omega
        case rel=>exact⟨(wrap64 (b2+1)),zi,H',⟨by have:=d7.out;have:=f6.out;have:=f7.out;omega⟩,⟨zpf a0 b1⟩,⟨zs2 HB a5 d6⟩⟩
       rw[if_pos g6]at H;have h5:decide (((rd_T34 l0 b2).f1)≤((rd_T34 l0 a1).f3))=true:=decide_eq_true g6;clear g6
       by_cases g7:((rd_T34 l0 a1).f1)≤((rd_T34 l0 b2).f3)
       rotate_left
       ·rw[if_neg g7]at H
        have h6:decide (((rd_T34 l0 a1).f1)≤((rd_T34 l0 b2).f3))=false:=decide_eq_false g7;clear g7;have H':=zA H;clear H;have d2:0≤(b2:Int):=za;have d3:b2<(l0.length:Int):=za;obtain⟨d5,d9,b3,b4,b5,b6,b7⟩:=at_T34 f5.out b2 d2 d3;obtain rfl:a4=d5:=(by injection d9);replace b3:=zx HB b3;replace b4:=zx HB b4;replace b5:=zx HB b5;replace b6:=zx HB b6;replace b7:=zx HB b7;replace d2:=eq_true d2;replace d3:=eq_true d3
        go_wp2_with (first|((with_reducible refine gate_dst (N:=6) rfl ?_);refine zbx 6 #[.string (⟨#[]⟩:ByteArray),.int .i64 0,.int .i64 0,.int .i64 0,.int .i64 0] 34 ?_;intro e8 hg C2 hbox hb;have b9:=zA hbox;have e9:=zgs hg (zs1 HB a5);have d6:=zgs hg (zs1 HB a5);have b1:=zne hg a0;have b8:=znf hg a0;replace a0:=zb a0 hb;replace HB:=zE (zs1 HB a5) hb;clear hb hbox hg;have y9:=b8.out;have z0:=b1.out;obtain⟨l5,l6,l7,l8,l9⟩:=zd5 b9;obtain⟨m0,m1,m2,m3,m4⟩:=zn5 b9;obtain⟨m5,m6,m7,m8,m9⟩:=zd5 a0;obtain⟨n0,n1,n2,n3,n4⟩:=zn5 a0))
        go_roundg k3
        case measure=>have:=d7.out;have:=f6.out;have:=f7.out;omega
        case rel=>exact⟨(wrap64 (b2+1)),zi,H',⟨by have:=d7.out;have:=f6.out;have:=f7.out;omega⟩,⟨zpf a0 b1⟩,⟨zs2 HB a5 d6⟩⟩
       rw[if_pos g7]at H;have h6:decide (((rd_T34 l0 a1).f1)≤((rd_T34 l0 b2).f3))=true:=decide_eq_true g7;clear g7
       by_cases g8:((rd_T34 l0 b2).f2)≤((rd_T34 l0 a1).f4)
       rotate_left
       ·rw[if_neg g8]at H
        have h7:decide (((rd_T34 l0 b2).f2)≤((rd_T34 l0 a1).f4))=false:=decide_eq_false g8;clear g8;have H':=zA H;clear H;have d2:0≤(b2:Int):=za;have d3:b2<(l0.length:Int):=za;obtain⟨d5,d9,b3,b4,b5,b6,b7⟩:=at_T34 f5.out b2 d2 d3;obtain rfl:a4=d5:=(by injection d9);replace b3:=zx HB b3;replace b4:=zx HB b4;replace b5:=zx HB b5;replace b6:=zx HB b6;replace b7:=zx HB b7;replace d2:=eq_true d2;replace d3:=eq_true d3
        go_wp2_with (first|((with_reducible refine gate_dst (N:=6) rfl ?_);refine zbx 6 #[.string (⟨#[]⟩:ByteArray),.int .i64 0,.int .i64 0,.int .i64 0,.int .i64 0] 34 ?_;intro e8 hg C3 hbox hb;have b9:=zA hbox;have e9:=zgs hg (zs1 HB a5);have d6:=zgs hg (zs1 HB a5);have b1:=zne hg a0;have b8:=znf hg a0;replace a0:=zb a0 hb;replace HB:=zE (zs1 HB a5) hb;clear hb hbox hg;have z1:=b8.out;have z2:=b1.out;obtain⟨n5,n6,n7,n8,n9⟩:=zd5 b9;obtain⟨o0,o1,o2,o3,o4⟩:=zn5 b9;obtain⟨o5,o6,o7,o8,o9⟩:=zd5 a0;obtain⟨p0,p1,p3,p4,p5⟩:=zn5 a0))
        go_roundg k3
        case measure=>have:=d7.out;have:=f6.out;have:=f7.out;omega
        case rel=>exact⟨(wrap64 (b2+1)),zi,H',⟨by have:=d7.out;have:=f6.out;have:=f7.out;omega⟩,⟨zpf a0 b1⟩,⟨zs2 HB a5 d6⟩⟩
       rw[if_pos g8]at H;have h7:decide (((rd_T34 l0 b2).f2)≤((rd_T34 l0 a1).f4))=true:=decide_eq_true g8;clear g8
       by_cases g9:((rd_T34 l0 a1).f2)≤((rd_T34 l0 b2).f4)
       ·rw[if_pos g9]at H
        have h8:decide (((rd_T34 l0 a1).f2)≤((rd_T34 l0 b2).f4))=true:=decide_eq_true g9;clear g9;obtain rfl:=Option.some.inj H;have d2:0≤(b2:Int):=za;have d3:b2<(l0.length:Int):=za;obtain⟨d5,d9,b3,b4,b5,b6,b7⟩:=at_T34 f5.out b2 d2 d3;obtain rfl:a4=d5:=(by injection d9);replace b3:=zx HB b3;replace b4:=zx HB b4;replace b5:=zx HB b5;replace b6:=zx HB b6;replace b7:=zx HB b7;replace d2:=eq_true d2;replace d3:=eq_true d3
        go_wp2_with (first|((with_reducible refine gate_dst (N:=6) rfl ?_);refine zbx 6 #[.string (⟨#[]⟩:ByteArray),.int .i64 0,.int .i64 0,.int .i64 0,.int .i64 0] 34 ?_;intro e8 hg C4 hbox hb;have b9:=zA hbox;have e9:=zgs hg (zs1 HB a5);have d6:=zgs hg (zs1 HB a5);have b1:=zne hg a0;have b8:=znf hg a0;replace a0:=zb a0 hb;replace HB:=zE (zs1 HB a5) hb;clear hb hbox hg;have z3:=b8.out;have z4:=b1.out;obtain⟨p6,p7,p8,p9,q0⟩:=zd5 b9;obtain⟨q1,q2,q3,q4,q5⟩:=zn5 b9;obtain⟨q6,q7,q8,q9,r0⟩:=zd5 a0;obtain⟨r1,r2,r3,r4,r5⟩:=zn5 a0))
        go_ret;exact⟨ze,zs2 HB a5 d6⟩
       rw[if_neg g9]at H;have h8:decide (((rd_T34 l0 a1).f2)≤((rd_T34 l0 b2).f4))=false:=decide_eq_false g9;clear g9;have H':=zA H;clear H;have d2:0≤(b2:Int):=za;have d3:b2<(l0.length:Int):=za;obtain⟨d5,d9,b3,b4,b5,b6,b7⟩:=at_T34 f5.out b2 d2 d3;obtain rfl:a4=d5:=(by injection d9);replace b3:=zx HB b3;replace b4:=zx HB b4;replace b5:=zx HB b5;replace b6:=zx HB b6;replace b7:=zx HB b7;replace d2:=eq_true d2;replace d3:=eq_true d3
       go_wp2_with (first|((with_reducible refine gate_dst (N:=6) rfl ?_);refine zbx 6 #[.string (⟨#[]⟩:ByteArray),.int .i64 0,.int .i64 0,.int .i64 0,.int .i64 0] 34 ?_;intro e8 hg C5 hbox hb;have b9:=zA hbox;have e9:=zgs hg (zs1 HB a5);have d6:=zgs hg (zs1 HB a5);have b1:=zne hg a0;have b8:=znf hg a0;replace a0:=zb a0 hb;replace HB:=zE (zs1 HB a5) hb;clear hb hbox hg;have z5:=b8.out;have z6:=b1.out;obtain⟨r6,r7,r8,r9,s0⟩:=zd5 b9;obtain⟨s1,s2,s3,s4,s5⟩:=zn5 b9;obtain⟨s6,s7,s8,s9,t0⟩:=zd5 a0;obtain⟨t1,t2,t3,t4,t5⟩:=zn5 a0))
       go_roundg k3
       case measure=>have:=d7.out;have:=f6.out;have:=f7.out;omega
       case rel=>exact⟨(wrap64 (b2+1)),zi,H',⟨by have:=d7.out;have:=f6.out;have:=f7.out;omega⟩,⟨zpf a0 b1⟩,⟨zs2 HB a5 d6⟩⟩
end Go.Proofs.Ytmdmfldpohaegaa.QFnHandWho
