/- The walk of what the law FnHandWho reaches: laid by a program of this session (ownprint.py). -/
import Derived.Test.YtmdmfldpohaegaaQFnHandWhox0
import Derived.Test.YtmdmfldpohaegaaQFnHandWhox13
namespace Go.Proofs.Ytmdmfldpohaegaa.QFnHandWho
open Go.RowKit Go.Proofs.YtmdmfldpohaegaaW.PrintWords Go.Proofs.YtmdmfldpohaegaaW.PrintLast Go.Proofs.YtmdmfldpohaegaaW.PrintMore Go.Proofs.Ytmdmfldpohaegaa.Z
attribute [local go_sem] max2_int min2_int max_two min_two max_three min_three max_four min_four zdn   -- for this text's walks alone
set_option linter.unusedVariables false
set_option linter.unusedSimpArgs false
mutual
def impl_HandZonesOk.l0:Nat→List (S34)→List (S34)→Int→Int→Option (Bool)
 |0,_,_,_,_=>none
 |k+1,x0,x11,x12,x13=>if x13<x12 then(if 0≤x13 then(if x13<(x11.length:Int)then((impl_isName.f k ((rd_T34 x11 x13).f0)).bind fun a0=>(if a0=true then(if 0≤((rd_T34 x11 x13).f1)then(if((rd_T34 x11 x13).f1)≤((rd_T34 x11 x13).f3)then(if(((rd_T34 x11 x13).f3)<16)then(if 0≤((rd_T34 x11 x13).f2)then(if((rd_T34 x11 x13).f2)≤((rd_T34 x11 x13).f4)then(if(((rd_T34 x11 x13).f4)<16)then(if x13>0 then(if 0≤(wrap64 (x13-1))then(if(wrap64 (x13-1))<(x0.length:Int)then(impl_HandZonesOk.j1 k x0 x13 x11 x12 x13 (!(Op.bytesLess (((rd_T34 x0 (wrap64 (x13-1))).f0).toList) (((rd_T34 x11 x13).f0).toList))) ((rd_T34 x11 x13).f0) ((rd_T34 x11 x13).f1) ((rd_T34 x11 x13).f2) ((rd_T34 x11 x13).f3) ((rd_T34 x11 x13).f4))else(none))else(none))else(impl_HandZonesOk.j1 k x0 x13 x11 x12 x13 false ((rd_T34 x11 x13).f0) ((rd_T34 x11 x13).f1) ((rd_T34 x11 x13).f2) ((rd_T34 x11 x13).f3) ((rd_T34 x11 x13).f4)))else(impl_HandZonesOk.j1 k x0 x13 x11 x12 x13 true ((rd_T34 x11 x13).f0) ((rd_T34 x11 x13).f1) ((rd_T34 x11 x13).f2) ((rd_T34 x11 x13).f3) ((rd_T34 x11 x13).f4)))else(impl_HandZonesOk.j1 k x0 x13 x11 x12 x13 true ((rd_T34 x11 x13).f0) ((rd_T34 x11 x13).f1) ((rd_T34 x11 x13).f2) ((rd_T34 x11 x13).f3) ((rd_T34 x11 x13).f4)))else(impl_HandZonesOk.j1 k x0 x13 x11 x12 x13 true ((rd_T34 x11 x13).f0) ((rd_T34 x11 x13).f1) ((rd_T34 x11 x13).f2) ((rd_T34 x11 x13).f3) ((rd_T34 x11 x13).f4)))else(impl_HandZonesOk.j1 k x0 x13 x11 x12 x13 true ((rd_T34 x11 x13).f0) ((rd_T34 x11 x13).f1) ((rd_T34 x11 x13).f2) ((rd_T34 x11 x13).f3) ((rd_T34 x11 x13).f4)))else(impl_HandZonesOk.j1 k x0 x13 x11 x12 x13 true ((rd_T34 x11 x13).f0) ((rd_T34 x11 x13).f1) ((rd_T34 x11 x13).f2) ((rd_T34 x11 x13).f3) ((rd_T34 x11 x13).f4)))else(impl_HandZonesOk.j1 k x0 x13 x11 x12 x13 true ((rd_T34 x11 x13).f0) ((rd_T34 x11 x13).f1) ((rd_T34 x11 x13).f2) ((rd_T34 x11 x13).f3) ((rd_T34 x11 x13).f4)))else(impl_HandZonesOk.j1 k x0 x13 x11 x12 x13 true ((rd_T34 x11 x13).f0) ((rd_T34 x11 x13).f1) ((rd_T34 x11 x13).f2) ((rd_T34 x11 x13).f3) ((rd_T34 x11 x13).f4))))else(none))else(none))else(some true)
def impl_HandZonesOk.j1:Nat→List (S34)→Int→List (S34)→Int→Int→Bool→ByteArray→Int→Int→Int→Int→Option (Bool)
 |0,_,_,_,_,_,_,_,_,_,_,_=>none
 |k+1,x0,x3,x11,x12,x13,x72,a0,a1,a2,a3,a4=>if x72=true then(some false)else(if 0≤x3 then(if x3≤(x0.length:Int)then((some (x0.take (x3:Int).toNat:List (S34))).bind fun a5=>(impl_HandZonesOk.l1 k x0 x11 x12 x13 a5 (a5.length:Int) 0 a0 a1 a2 a3 a4))else(none))else(none))
def impl_HandZonesOk.l1:Nat→List (S34)→List (S34)→Int→Int→List (S34)→Int→Int→ByteArray→Int→Int→Int→Int→Option (Bool)
 |0,_,_,_,_,_,_,_,_,_,_,_,_=>none
 |k+1,x0,x11,x12,x13,x75,x76,x77,a4,a0,a1,a2,a3=>if x77<x76 then(if 0≤x77 then(if x77<(x75.length:Int)then(if((rd_T34 x75 x77).f1)≤a2 then(if a0≤((rd_T34 x75 x77).f3)then(if((rd_T34 x75 x77).f2)≤a3 then(if a1≤((rd_T34 x75 x77).f4)then(some false)else(impl_HandZonesOk.l1 k x0 x11 x12 x13 x75 x76 (wrap64 (x77+1)) a4 a0 a1 a2 a3))else(impl_HandZonesOk.l1 k x0 x11 x12 x13 x75 x76 (wrap64 (x77+1)) a4 a0 a1 a2 a3))else(impl_HandZonesOk.l1 k x0 x11 x12 x13 x75 x76 (wrap64 (x77+1)) a4 a0 a1 a2 a3))else(impl_HandZonesOk.l1 k x0 x11 x12 x13 x75 x76 (wrap64 (x77+1)) a4 a0 a1 a2 a3))else(none))else(none))else(impl_HandZonesOk.l0 k x0 x11 x12 (wrap64 (x13+1)))
end
def impl_HandZonesOk.f (k:Nat) (l0:List (S34)):Option (Bool):=(impl_within.f (l0.length:Int) 1 4).bind fun a0=>(if a0=true then(impl_HandZonesOk.l0 k l0 l0 (l0.length:Int) 0)else(some false))
def impl_HandZonesOk.T6:Bool×List (List Nat×List Nat):=(true,[([],[]),([0],[0]),([1],[1]),([2],[2]),([3,2],[3]),([4],[4]),([5,4],[4,5]),([6,4],[4,6]),([7,4,4],[4,7]),([8],[8]),([9,8],[8,9]),([8],[8]),([11,8],[8,11]),([10,12,8],[8,10,12]),([8,13,4],[4,8,13]),([14,8,4],[4,14]),([15],[15]),([16,15],[15,16]),([17,15],[15,17]),([15,18,4],[4,15,18]),([19,4],[4,19]),([4,20],[4,20]),([21,15],[21]),([22],[22]),([23,22],[22,23]),([24,22],[22,24]),([25,22,22],[22,25]),([26],[26]),([27,26],[26,27]),([26],[26]),([29,26],[26,29]),([28,30,26],[26,28,30]),([26,31,22],[22,26,31]),([32,26,22],[22,32]),([33],[33]),([34,33],[33,34]),([35,33],[33,35]),([33,36,22],[22,33,36]),([37,22],[22,37]),([22,38],[22,38]),([39,33],[39]),([40],[40]),([41,40],[40,41]),([42,40,40],[40,42]),([43],[43]),([44,43],[43,44]),([43],[43]),([43],[43]),([47,43],[43,47]),([46,48,43],[43,46,48]),([49,43],[43,49]),([50,43],[43,50]),([45,51,43],[43,45,51]),([43,52,40],[40,43,52]),([40,53],[40,53])])
def impl_HandZonesOk.B6:List Nat:=[0,1,3,7,15,31,63,127,255,511,1023,511,2559,8191,16383,32767,65535,131071,262143,524287,1048575,2097151,4194303,8388607,16777215,33554431,67108863,134217727,268435455,134217727,671088639,2147483647,4294967295,8589934591,17179869183,34359738367,68719476735,137438953471,274877906943,549755813887,1099511627775,2199023255551,4398046511103,8796093022207,17592186044415,35184372088831,17592186044415,17592186044415,158329674399743,510173395288063,1073123348709375,2199023255551999,4503599627370495,9007199254740991,18014398509481983]
theorem impl_HandZonesOk.tab6:rtab .any (opsOf Try.f7 6)=impl_HandZonesOk.T6:=by kernel_rfl
theorem impl_HandZonesOk.bits6:waitsOk impl_HandZonesOk.T6.2 impl_HandZonesOk.B6=true:=by kernel_rfl
set_option maxHeartbeats 8000000 in
set_option maxRecDepth 100000 in
theorem impl_HandZonesOk.calls (k:Nat) (A0:Option Addr) (c0:Nat) (l0:List (S34)) (r:Bool) (w:World) (hr0:Kd.C k34 w A0 l0.length l0) (hc0:l0.length≤c0) (h:impl_HandZonesOk.f k l0=some r):
 Calls Try.prog 7 #[.slice A0 l0.length c0] w fun e w'=>e= .returned (.bool r)∧Below w.heap.size w w':=by
 have A6:=Try.underlying34;have v9:=zA hr0;have A7:=zA hc0;clear hr0 hc0;have HB:=zA (Below.refl w.heap.size w);have H:=h;clear h;unfold impl_HandZonesOk.f at H;replace H:=zbd H;obtain⟨w0,A2,H⟩:=H
 by_cases c3:w0=true
 rotate_left
 ·replace c3:=Bool.eq_false_iff.mpr c3
  subst c3;rw[if_neg zfn]at H;obtain rfl:=Option.some.inj H
  go_enter Try.func7,Try.ntmps7
  go_wp2_with (first|((with_reducible refine gate_callee (f:=27) rfl ?_);refine zgl (N:=some 9) Try.func27 #[.int .i64 (l0.length:Int),.int .i64 1,.int .i64 4] ?_;(with_reducible refine(impl_within.calls (l0.length:Int) 1 4 false _ A2.out).mono ?_);rintro e w' ⟨rfl,⟨nd,rfl⟩⟩;refine⟨_,rfl,?_⟩))
  go_ret;exact⟨ze,zs0 HB⟩
 subst c3;rw[if_pos rfl]at H;have H':=zA H;clear H
 go_enter Try.func7,Try.ntmps7
 go_wp2_with (first|((with_reducible refine gate_callee (f:=27) rfl ?_);refine zgl (N:=some 9) Try.func27 #[.int .i64 (l0.length:Int),.int .i64 1,.int .i64 4] ?_;(with_reducible refine(impl_within.calls (l0.length:Int) 1 4 true _ A2.out).mono ?_);rintro e w' ⟨rfl,⟨nd,rfl⟩⟩;refine⟨_,rfl,?_⟩))
 go_loopg [13] k (fun kq A8 w'=> ∃(a0:Int),A8= .int .i64 a0∧Aside0 (impl_HandZonesOk.l0 kq l0 l0 (l0.length:Int) a0=some r)∧Aside0 (kq≤k)∧Aside0 (Below w.heap.size w w'))
 case atStart=>exact⟨(0),zi,H',⟨Nat.le_refl _⟩,⟨zs0 HB⟩⟩
 case round=>
  clear H'
  try clear c2
  try clear p2
  try clear c3
  obtain⟨a0,rfl,HA,d5,HB⟩:=hrel
  cases gk with
  |zero=>exact absurd HA.out (by simp[impl_HandZonesOk.l0])
  |succ k1=>
   have H:=HA.out;clear HA;simp only[impl_HandZonesOk.l0]at H
   by_cases c4:a0<(l0.length:Int)
   rotate_left
   ·rw[if_neg c4]at H
    have w1:decide (a0<(l0.length:Int))=false:=decide_eq_false c4;clear c4;obtain rfl:=Option.some.inj H
    go_wp2
    go_ret;exact⟨ze,zs0 HB⟩
   rw[if_pos c4]at H;have w1:decide (a0<(l0.length:Int))=true:=decide_eq_true c4;clear c4;replace H:=zif H;obtain⟨A9,H⟩:=H
   by_cases c6:a0<(l0.length:Int)
   rotate_left
   ·rw[if_neg c6]at H
    exact absurd H (by simp)
   rw[if_pos c6]at H;have B0:decide (a0<(l0.length:Int))=true:=decide_eq_true c6;clear c6;have w2:=zA H;clear H;have f8:0≤(a0:Int):=za;have f9:a0<(l0.length:Int):=za;obtain⟨b3,w3,e1,e2,e3,e4,e5⟩:=at_T34 v9.out a0 f8 f9;cases w3;replace e1:=zx HB e1;replace e2:=zx HB e2;replace e3:=zx HB e3;replace e4:=zx HB e4;replace e5:=zx HB e5;replace f8:=eq_true f8;replace f9:=eq_true f9
   go_upto_region 6 with(first|((with_reducible refine gate_dst (N:=4) rfl ?_);refine zbx 4 #[.string (⟨#[]⟩:ByteArray),.int .i64 0,.int .i64 0,.int .i64 0,.int .i64 0] 34 ?_;intro a2 hg w8 hbox hb;have a1:=zA hbox;have y8:=zgs hg (zs0 HB);have a3:=zgs hg (zs0 HB);replace HB:=zE (zs0 HB) hb;clear hb hbox hg;obtain⟨w4,w5,w6,w7,w9⟩:=zd5 a1;obtain⟨x0,x1,x2,x3,x4⟩:=zn5 a1))
   (try simp only[Act.put,List.setIfInBounds_toArray,List.set_cons_zero,List.set_cons_succ])
   go_cut [72] (fun B1 wc=> ∃(kq:Nat) (e6:Bool),B1= .bool e6∧Aside0 (impl_HandZonesOk.j1 kq l0 a0 l0 (l0.length:Int) a0 e6 ((rd_T34 l0 a0).f0) ((rd_T34 l0 a0).f1) ((rd_T34 l0 a0).f2) ((rd_T34 l0 a0).f3) ((rd_T34 l0 a0).f4)=some r)∧Aside0 (kq≤k1)∧Aside0 (wc.heap[a2]?=some (.cells #[.string ((rd_T34 l0 a0).f0),.int .i64 ((rd_T34 l0 a0).f1),.int .i64 ((rd_T34 l0 a0).f2),.int .i64 ((rd_T34 l0 a0).f3),.int .i64 ((rd_T34 l0 a0).f4)] 34 (0,0)))∧Aside0 (Below w.heap.size w wc))
   case first=>
    have H:=w2.out;clear w2;replace H:=zbd H;obtain⟨x5,e9,H⟩:=H
    by_cases g3:x5=true
    rotate_left
    ·replace g3:=Bool.eq_false_iff.mpr g3
     subst g3;rw[if_neg zfn]at H;have H':=zA H;clear H
     try go_wp2
     obtain⟨x6,e_⟩: ∃x,x=(((((w8.setCell ⟨a2,0,none⟩ (.string ((rd_T34 l0 a0).f0))).setCell ⟨a2,1,none⟩ (.int .i64 ((rd_T34 l0 a0).f1))).setCell ⟨a2,2,none⟩ (.int .i64 ((rd_T34 l0 a0).f2))).setCell ⟨a2,3,none⟩ (.int .i64 ((rd_T34 l0 a0).f3))).setCell ⟨a2,4,none⟩ (.int .i64 ((rd_T34 l0 a0).f4))):=⟨_,rfl⟩
     have n0_:Aside0 (x6.heap[a2]?=some (.cells #[.string ((rd_T34 l0 a0).f0),.int .i64 ((rd_T34 l0 a0).f1),.int .i64 ((rd_T34 l0 a0).f2),.int .i64 ((rd_T34 l0 a0).f3),.int .i64 ((rd_T34 l0 a0).f4)] 34 (0,0))):=by rw[e_];exact⟨zpb a1⟩
     have n1_:Aside0 (Below w.heap.size w x6):=by rw[e_];exact⟨zs1 HB a3⟩
     (try clear a1);(try clear HB);rw[←e_];clear e_;have a1:=n0_;have HB:=n1_;clear n0_ n1_;replace a1:=zA (blk_drew a1.out);replace HB:=zA (below_drew1 HB.out);refine start_ (n:=55) (S:=fun w'=>w'.cell? ⟨a2,0,none⟩=some (.string ((rd_T34 l0 a0).f0))∧w'.cell? ⟨a2,1,none⟩=some (.int .i64 ((rd_T34 l0 a0).f1))∧w'.cell? ⟨a2,2,none⟩=some (.int .i64 ((rd_T34 l0 a0).f2))∧w'.cell? ⟨a2,3,none⟩=some (.int .i64 ((rd_T34 l0 a0).f3))∧w'.cell? ⟨a2,4,none⟩=some (.int .i64 ((rd_T34 l0 a0).f4))) (ds:=[]) #[F,F,F,F,F,F,F,F,F,F,F,F,F,F,F,F,F,F,F,F,F,F,F,F,F,F,F,F,F,F,F,F,F,F,F,F,F,F,F,F,F,F,F,F,F,F,F,F,F,F,F,F,F,F,F] (by kernel_rfl) rfl rfl ⟨zc0 a1,zc1 a1,zc2 a1,zc3 a1,zc4 a1⟩ (fun hHeld=>?_);refine with_tabW impl_HandZonesOk.tab6 impl_HandZonesOk.bits6 (fun HT_ HW_=>?_);generalize x6.drew=B5 at a1 HB hHeld⊢;refine zq HT_ 0 ?_;refine zk5 HT_ HW_ hHeld 1 ?_;refine zo HT_ 2 (fun K hK=>?_);refine zgo Try.func28 #[.string ((rd_T34 l0 a0).f0)] ?_
     with_reducible refine(impl_isName.calls k1 ((rd_T34 l0 a0).f0) false _ e9.out).mono ?_
     rintro e w' ⟨rfl,⟨nd,rfl⟩⟩;refine⟨_,rfl,?_⟩;refine hK.out _ _ ⟨zc0 a1,zc1 a1,zc2 a1,zc3 a1,zc4 a1⟩ (fun hHeld=>?_);clear hK K;refine zN ?_;refine zq HT_ 3 ?_;refine zq HT_ 4 ?_;refine zu HT_ 5 ?_;refine zu HT_ 6 ?_;refine zu HT_ 7 ?_;refine zu HT_ 8 ?_;refine zu HT_ 9 ?_;refine zu HT_ 10 ?_;refine zu HT_ 11 ?_;refine zu HT_ 12 ?_;refine zu HT_ 13 ?_;refine zu HT_ 14 ?_;refine zu HT_ 15 ?_;refine zu HT_ 16 ?_;refine zu HT_ 17 ?_;refine zu HT_ 18 ?_;refine zu HT_ 19 ?_;refine zu HT_ 20 ?_;refine zq HT_ 21 ?_;refine zq HT_ 22 ?_;refine zu HT_ 23 ?_;refine zu HT_ 24 ?_;refine zu HT_ 25 ?_;refine zu HT_ 26 ?_;refine zu HT_ 27 ?_;refine zu HT_ 28 ?_;refine zu HT_ 29 ?_;refine zu HT_ 30 ?_;refine zu HT_ 31 ?_;refine zu HT_ 32 ?_;refine zu HT_ 33 ?_;refine zu HT_ 34 ?_;refine zu HT_ 35 ?_;refine zu HT_ 36 ?_;refine zu HT_ 37 ?_;refine zu HT_ 38 ?_;refine zq HT_ 39 ?_;refine zq HT_ 40 ?_;refine zu HT_ 41 ?_;refine zu HT_ 42 ?_;refine zu HT_ 43 ?_;refine zu HT_ 44 ?_;refine zu HT_ 45 ?_;refine zu HT_ 46 ?_;refine zu HT_ 47 ?_;refine zu HT_ 48 ?_;refine zu HT_ 49 ?_;refine zu HT_ 50 ?_;refine zu HT_ 51 ?_;refine zu HT_ 52 ?_;refine zu HT_ 53 ?_;refine zq HT_ 54 ?_;refine done_ (done_of HT_.out (by kernel_rfl)) ?_
     try go_wp2
     go_meet
     case rel=>exact⟨_,(true),zi,H',⟨by have:=d5.out;first|omega|exact Nat.le_refl _⟩,⟨zh a1⟩,⟨zs1 HB a3⟩⟩
    subst g3;rw[if_pos rfl]at H
    by_cases g4:0≤((rd_T34 l0 a0).f1)
    rotate_left
    ·rw[if_neg g4]at H
     have d7:decide (0≤((rd_T34 l0 a0).f1))=false:=decide_eq_false g4;clear g4;(first|rw[d7]|(simp only[i64_w,i32_w];rw[d7])|skip);have H':=zA H;clear H
     try go_wp2
     obtain⟨x7,e_⟩: ∃x,x=(((((w8.setCell ⟨a2,0,none⟩ (.string ((rd_T34 l0 a0).f0))).setCell ⟨a2,1,none⟩ (.int .i64 ((rd_T34 l0 a0).f1))).setCell ⟨a2,2,none⟩ (.int .i64 ((rd_T34 l0 a0).f2))).setCell ⟨a2,3,none⟩ (.int .i64 ((rd_T34 l0 a0).f3))).setCell ⟨a2,4,none⟩ (.int .i64 ((rd_T34 l0 a0).f4))):=⟨_,rfl⟩
     have n0_:Aside0 (x7.heap[a2]?=some (.cells #[.string ((rd_T34 l0 a0).f0),.int .i64 ((rd_T34 l0 a0).f1),.int .i64 ((rd_T34 l0 a0).f2),.int .i64 ((rd_T34 l0 a0).f3),.int .i64 ((rd_T34 l0 a0).f4)] 34 (0,0))):=by rw[e_];exact⟨zpb a1⟩
     have n1_:Aside0 (Below w.heap.size w x7):=by rw[e_];exact⟨zs1 HB a3⟩
     (try clear a1);(try clear HB);rw[←e_];clear e_;have a1:=n0_;have HB:=n1_;clear n0_ n1_;replace a1:=zA (blk_drew a1.out);replace HB:=zA (below_drew1 HB.out);refine start_ (n:=55) (S:=fun w'=>w'.cell? ⟨a2,0,none⟩=some (.string ((rd_T34 l0 a0).f0))∧w'.cell? ⟨a2,1,none⟩=some (.int .i64 ((rd_T34 l0 a0).f1))∧w'.cell? ⟨a2,2,none⟩=some (.int .i64 ((rd_T34 l0 a0).f2))∧w'.cell? ⟨a2,3,none⟩=some (.int .i64 ((rd_T34 l0 a0).f3))∧w'.cell? ⟨a2,4,none⟩=some (.int .i64 ((rd_T34 l0 a0).f4))) (ds:=[]) #[F,F,F,F,F,F,F,F,F,F,F,F,F,F,F,F,F,F,F,F,F,F,F,F,F,F,F,F,F,F,F,F,F,F,F,F,F,F,F,F,F,F,F,F,F,F,F,F,F,F,F,F,F,F,F] (by kernel_rfl) rfl rfl ⟨zc0 a1,zc1 a1,zc2 a1,zc3 a1,zc4 a1⟩ (fun hHeld=>?_);refine with_tabW impl_HandZonesOk.tab6 impl_HandZonesOk.bits6 (fun HT_ HW_=>?_);generalize x7.drew=C0 at a1 HB hHeld⊢;refine zq HT_ 0 ?_;refine zk5 HT_ HW_ hHeld 1 ?_;refine zo HT_ 2 (fun K hK=>?_);refine zgo Try.func28 #[.string ((rd_T34 l0 a0).f0)] ?_
     with_reducible refine(impl_isName.calls k1 ((rd_T34 l0 a0).f0) true _ e9.out).mono ?_
     rintro e w' ⟨rfl,⟨nd,rfl⟩⟩;refine⟨_,rfl,?_⟩;refine hK.out _ _ ⟨zc0 a1,zc1 a1,zc2 a1,zc3 a1,zc4 a1⟩ (fun hHeld=>?_);clear hK K;refine zN ?_;refine zq HT_ 3 ?_;refine zq HT_ 4 ?_;refine zq HT_ 5 ?_;refine zk5 HT_ HW_ hHeld 6 ?_;refine zq HT_ 7 ?_;refine zq HT_ 8 ?_;refine zu HT_ 9 ?_;refine zu HT_ 10 ?_;refine zu HT_ 11 ?_;refine zu HT_ 12 ?_;refine zu HT_ 13 ?_;refine zq HT_ 14 ?_;refine zq HT_ 15 ?_;refine zu HT_ 16 ?_;refine zu HT_ 17 ?_;refine zu HT_ 18 ?_;refine zq HT_ 19 ?_;refine zq HT_ 20 ?_;refine zq HT_ 21 ?_;refine zq HT_ 22 ?_;refine zu HT_ 23 ?_;refine zu HT_ 24 ?_;refine zu HT_ 25 ?_;refine zu HT_ 26 ?_;refine zu HT_ 27 ?_;refine zu HT_ 28 ?_;refine zu HT_ 29 ?_;refine zu HT_ 30 ?_;refine zu HT_ 31 ?_;refine zu HT_ 32 ?_;refine zu HT_ 33 ?_;refine zu HT_ 34 ?_;refine zu HT_ 35 ?_;refine zu HT_ 36 ?_;refine zu HT_ 37 ?_;refine zu HT_ 38 ?_;refine zq HT_ 39 ?_;refine zq HT_ 40 ?_;refine zu HT_ 41 ?_;refine zu HT_ 42 ?_;refine zu HT_ 43 ?_;refine zu HT_ 44 ?_;refine zu HT_ 45 ?_;refine zu HT_ 46 ?_;refine zu HT_ 47 ?_;refine zu HT_ 48 ?_;refine zu HT_ 49 ?_;refine zu HT_ 50 ?_;refine zu HT_ 51 ?_;refine zu HT_ 52 ?_;refine zu HT_ 53 ?_;refine zq HT_ 54 ?_;refine done_ (done_of HT_.out (by kernel_rfl)) ?_
     try go_wp2
     go_meet
     case rel=>exact⟨_,(true),zi,H',⟨by have:=d5.out;first|omega|exact Nat.le_refl _⟩,⟨zh a1⟩,⟨zs1 HB a3⟩⟩
    rw[if_pos g4]at H;have d7:decide (0≤((rd_T34 l0 a0).f1))=true:=decide_eq_true g4;clear g4;(first|rw[d7]|(simp only[i64_w,i32_w];rw[d7])|skip)
    by_cases g5:((rd_T34 l0 a0).f1)≤((rd_T34 l0 a0).f3)
    rotate_left
    ·rw[if_neg g5]at H
     have h8:decide (((rd_T34 l0 a0).f1)≤((rd_T34 l0 a0).f3))=false:=decide_eq_false g5;clear g5;have H':=zA H;clear H
     try go_wp2
     obtain⟨x8,e_⟩: ∃x,x=(((((w8.setCell ⟨a2,0,none⟩ (.string ((rd_T34 l0 a0).f0))).setCell ⟨a2,1,none⟩ (.int .i64 ((rd_T34 l0 a0).f1))).setCell ⟨a2,2,none⟩ (.int .i64 ((rd_T34 l0 a0).f2))).setCell ⟨a2,3,none⟩ (.int .i64 ((rd_T34 l0 a0).f3))).setCell ⟨a2,4,none⟩ (.int .i64 ((rd_T34 l0 a0).f4))):=⟨_,rfl⟩
     have n0_:Aside0 (x8.heap[a2]?=some (.cells #[.string ((rd_T34 l0 a0).f0),.int .i64 ((rd_T34 l0 a0).f1),.int .i64 ((rd_T34 l0 a0).f2),.int .i64 ((rd_T34 l0 a0).f3),.int .i64 ((rd_T34 l0 a0).f4)] 34 (0,0))):=by rw[e_];exact⟨zpb a1⟩
     have n1_:Aside0 (Below w.heap.size w x8):=by rw[e_];exact⟨zs1 HB a3⟩
     (try clear a1);(try clear HB);rw[←e_];clear e_;have a1:=n0_;have HB:=n1_;clear n0_ n1_;replace a1:=zA (blk_drew a1.out);replace HB:=zA (below_drew1 HB.out);refine start_ (n:=55) (S:=fun w'=>w'.cell? ⟨a2,0,none⟩=some (.string ((rd_T34 l0 a0).f0))∧w'.cell? ⟨a2,1,none⟩=some (.int .i64 ((rd_T34 l0 a0).f1))∧w'.cell? ⟨a2,2,none⟩=some (.int .i64 ((rd_T34 l0 a0).f2))∧w'.cell? ⟨a2,3,none⟩=some (.int .i64 ((rd_T34 l0 a0).f3))∧w'.cell? ⟨a2,4,none⟩=some (.int .i64 ((rd_T34 l0 a0).f4))) (ds:=[]) #[F,F,F,F,F,F,F,F,F,F,F,F,F,F,F,F,F,F,F,F,F,F,F,F,F,F,F,F,F,F,F,F,F,F,F,F,F,F,F,F,F,F,F,F,F,F,F,F,F,F,F,F,F,F,F] (by kernel_rfl) rfl rfl ⟨zc0 a1,zc1 a1,zc2 a1,zc3 a1,zc4 a1⟩ (fun hHeld=>?_);refine with_tabW impl_HandZonesOk.tab6 impl_HandZonesOk.bits6 (fun HT_ HW_=>?_);generalize x8.drew=C1 at a1 HB hHeld⊢;refine zq HT_ 0 ?_;refine zk5 HT_ HW_ hHeld 1 ?_;refine zo HT_ 2 (fun K hK=>?_);refine zgo Try.func28 #[.string ((rd_T34 l0 a0).f0)] ?_
     with_reducible refine(impl_isName.calls k1 ((rd_T34 l0 a0).f0) true _ e9.out).mono ?_
     rintro e w' ⟨rfl,⟨nd,rfl⟩⟩;refine⟨_,rfl,?_⟩;refine hK.out _ _ ⟨zc0 a1,zc1 a1,zc2 a1,zc3 a1,zc4 a1⟩ (fun hHeld=>?_);clear hK K;refine zN ?_;refine zq HT_ 3 ?_;refine zq HT_ 4 ?_;refine zq HT_ 5 ?_;refine zk5 HT_ HW_ hHeld 6 ?_;refine zq HT_ 7 ?_;refine zq HT_ 8 ?_;refine zq HT_ 9 ?_;refine zq HT_ 11 ?_;refine zk5 HT_ HW_ hHeld 10 ?_;refine zk5 HT_ HW_ hHeld 12 ?_;refine zq HT_ 13 ?_;refine zq HT_ 14 ?_;refine zq HT_ 15 ?_;refine zu HT_ 16 ?_;refine zu HT_ 17 ?_;refine zu HT_ 18 ?_;refine zq HT_ 19 ?_;refine zq HT_ 20 ?_;refine zq HT_ 21 ?_;refine zq HT_ 22 ?_;refine zu HT_ 23 ?_;refine zu HT_ 24 ?_;refine zu HT_ 25 ?_;refine zu HT_ 26 ?_;refine zu HT_ 27 ?_;refine zu HT_ 28 ?_;refine zu HT_ 29 ?_;refine zu HT_ 30 ?_;refine zu HT_ 31 ?_;refine zu HT_ 32 ?_;refine zu HT_ 33 ?_;refine zu HT_ 34 ?_;refine zu HT_ 35 ?_;refine zu HT_ 36 ?_;refine zu HT_ 37 ?_;refine zu HT_ 38 ?_;refine zq HT_ 39 ?_;refine zq HT_ 40 ?_;refine zu HT_ 41 ?_;refine zu HT_ 42 ?_;refine zu HT_ 43 ?_;refine zu HT_ 44 ?_;refine zu HT_ 45 ?_;refine zu HT_ 46 ?_;refine zu HT_ 47 ?_;refine zu HT_ 48 ?_;refine zu HT_ 49 ?_;refine zu HT_ 50 ?_;refine zu HT_ 51 ?_;refine zu HT_ 52 ?_;refine zu HT_ 53 ?_;refine zq HT_ 54 ?_;refine done_ (done_of HT_.out (by kernel_rfl)) ?_
     try go_wp2
     go_meet
     case rel=>exact⟨_,(true),zi,H',⟨by have:=d5.out;first|omega|exact Nat.le_refl _⟩,⟨zh a1⟩,⟨zs1 HB a3⟩⟩
    rw[if_pos g5]at H;have h8:decide (((rd_T34 l0 a0).f1)≤((rd_T34 l0 a0).f3))=true:=decide_eq_true g5;clear g5
    by_cases g6:(((rd_T34 l0 a0).f3)<16)
    rotate_left
    ·rw[if_neg g6]at H
     have h9:decide (((rd_T34 l0 a0).f3)<16)=false:=decide_eq_false g6;clear g6;have H':=zA H;clear H
     try go_wp2
     obtain⟨x9,e_⟩: ∃x,x=(((((w8.setCell ⟨a2,0,none⟩ (.string ((rd_T34 l0 a0).f0))).setCell ⟨a2,1,none⟩ (.int .i64 ((rd_T34 l0 a0).f1))).setCell ⟨a2,2,none⟩ (.int .i64 ((rd_T34 l0 a0).f2))).setCell ⟨a2,3,none⟩ (.int .i64 ((rd_T34 l0 a0).f3))).setCell ⟨a2,4,none⟩ (.int .i64 ((rd_T34 l0 a0).f4))):=⟨_,rfl⟩
     have n0_:Aside0 (x9.heap[a2]?=some (.cells #[.string ((rd_T34 l0 a0).f0),.int .i64 ((rd_T34 l0 a0).f1),.int .i64 ((rd_T34 l0 a0).f2),.int .i64 ((rd_T34 l0 a0).f3),.int .i64 ((rd_T34 l0 a0).f4)] 34 (0,0))):=by rw[e_];exact⟨zpb a1⟩
     have n1_:Aside0 (Below w.heap.size w x9):=by rw[e_];exact⟨zs1 HB a3⟩
     (try clear a1);(try clear HB);rw[←e_];clear e_;have a1:=n0_;have HB:=n1_;clear n0_ n1_;replace a1:=zA (blk_drew a1.out);replace HB:=zA (below_drew1 HB.out);refine start_ (n:=55) (S:=fun w'=>w'.cell? ⟨a2,0,none⟩=some (.string ((rd_T34 l0 a0).f0))∧w'.cell? ⟨a2,1,none⟩=some (.int .i64 ((rd_T34 l0 a0).f1))∧w'.cell? ⟨a2,2,none⟩=some (.int .i64 ((rd_T34 l0 a0).f2))∧w'.cell? ⟨a2,3,none⟩=some (.int .i64 ((rd_T34 l0 a0).f3))∧w'.cell? ⟨a2,4,none⟩=some (.int .i64 ((rd_T34 l0 a0).f4))) (ds:=[]) #[F,F,F,F,F,F,F,F,F,F,F,F,F,F,F,F,F,F,F,F,F,F,F,F,F,F,F,F,F,F,F,F,F,F,F,F,F,F,F,F,F,F,F,F,F,F,F,F,F,F,F,F,F,F,F] (by kernel_rfl) rfl rfl ⟨zc0 a1,zc1 a1,zc2 a1,zc3 a1,zc4 a1⟩ (fun hHeld=>?_);refine with_tabW impl_HandZonesOk.tab6 impl_HandZonesOk.bits6 (fun HT_ HW_=>?_);generalize x9.drew=C2 at a1 HB hHeld⊢;refine zq HT_ 0 ?_;refine zk5 HT_ HW_ hHeld 1 ?_;refine zo HT_ 2 (fun K hK=>?_);refine zgo Try.func28 #[.string ((rd_T34 l0 a0).f0)] ?_
     with_reducible refine(impl_isName.calls k1 ((rd_T34 l0 a0).f0) true _ e9.out).mono ?_
     rintro e w' ⟨rfl,⟨nd,rfl⟩⟩;refine⟨_,rfl,?_⟩;refine hK.out _ _ ⟨zc0 a1,zc1 a1,zc2 a1,zc3 a1,zc4 a1⟩ (fun hHeld=>?_);clear hK K;refine zN ?_;refine zq HT_ 3 ?_;refine zq HT_ 4 ?_;refine zq HT_ 5 ?_;refine zk5 HT_ HW_ hHeld 6 ?_;refine zq HT_ 7 ?_;refine zq HT_ 8 ?_;refine zq HT_ 9 ?_;refine zq HT_ 11 ?_;refine zk5 HT_ HW_ hHeld 10 ?_;refine zk5 HT_ HW_ hHeld 12 ?_;refine zq HT_ 13 ?_;refine zq HT_ 14 ?_;refine zq HT_ 15 ?_;refine zq HT_ 16 ?_;refine zk5 HT_ HW_ hHeld 17 ?_;refine zq HT_ 18 ?_;refine zq HT_ 19 ?_;refine zq HT_ 20 ?_;refine zq HT_ 21 ?_;refine zq HT_ 22 ?_;refine zu HT_ 23 ?_;refine zu HT_ 24 ?_;refine zu HT_ 25 ?_;refine zu HT_ 26 ?_;refine zu HT_ 27 ?_;refine zu HT_ 28 ?_;refine zu HT_ 29 ?_;refine zu HT_ 30 ?_;refine zu HT_ 31 ?_;refine zu HT_ 32 ?_;refine zu HT_ 33 ?_;refine zu HT_ 34 ?_;refine zu HT_ 35 ?_;refine zu HT_ 36 ?_;refine zu HT_ 37 ?_;refine zu HT_ 38 ?_;refine zq HT_ 39 ?_;refine zq HT_ 40 ?_;refine zu HT_ 41 ?_;refine zu HT_ 42 ?_;refine zu HT_ 43 ?_;refine zu HT_ 44 ?_;refine zu HT_ 45 ?_;refine zu HT_ 46 ?_;refine zu HT_ 47 ?_;refine zu HT_ 48 ?_;refine zu HT_ 49 ?_;refine zu HT_ 50 ?_;refine zu HT_ 51 ?_;refine zu HT_ 52 ?_;refine zu HT_ 53 ?_;refine zq HT_ 54 ?_;refine done_ (done_of HT_.out (by kernel_rfl)) ?_
     try go_wp2
     go_meet
     case rel=>exact⟨_,(true),zi,H',⟨by have:=d5.out;first|omega|exact Nat.le_refl _⟩,⟨zh a1⟩,⟨zs1 HB a3⟩⟩
    rw[if_pos g6]at H;have h9:decide (((rd_T34 l0 a0).f3)<16)=true:=decide_eq_true g6;clear g6
    by_cases g7:0≤((rd_T34 l0 a0).f2)
    rotate_left
    ·rw[if_neg g7]at H
     have i0:decide (0≤((rd_T34 l0 a0).f2))=false:=decide_eq_false g7;clear g7;have H':=zA H;clear H
     try go_wp2
     obtain⟨y0,e_⟩: ∃x,x=(((((w8.setCell ⟨a2,0,none⟩ (.string ((rd_T34 l0 a0).f0))).setCell ⟨a2,1,none⟩ (.int .i64 ((rd_T34 l0 a0).f1))).setCell ⟨a2,2,none⟩ (.int .i64 ((rd_T34 l0 a0).f2))).setCell ⟨a2,3,none⟩ (.int .i64 ((rd_T34 l0 a0).f3))).setCell ⟨a2,4,none⟩ (.int .i64 ((rd_T34 l0 a0).f4))):=⟨_,rfl⟩
     have n0_:Aside0 (y0.heap[a2]?=some (.cells #[.string ((rd_T34 l0 a0).f0),.int .i64 ((rd_T34 l0 a0).f1),.int .i64 ((rd_T34 l0 a0).f2),.int .i64 ((rd_T34 l0 a0).f3),.int .i64 ((rd_T34 l0 a0).f4)] 34 (0,0))):=by rw[e_];exact⟨zpb a1⟩
     have n1_:Aside0 (Below w.heap.size w y0):=by rw[e_];exact⟨zs1 HB a3⟩
     (try clear a1);(try clear HB);rw[←e_];clear e_;have a1:=n0_;have HB:=n1_;clear n0_ n1_;replace a1:=zA (blk_drew a1.out);replace HB:=zA (below_drew1 HB.out);refine start_ (n:=55) (S:=fun w'=>w'.cell? ⟨a2,0,none⟩=some (.string ((rd_T34 l0 a0).f0))∧w'.cell? ⟨a2,1,none⟩=some (.int .i64 ((rd_T34 l0 a0).f1))∧w'.cell? ⟨a2,2,none⟩=some (.int .i64 ((rd_T34 l0 a0).f2))∧w'.cell? ⟨a2,3,none⟩=some (.int .i64 ((rd_T34 l0 a0).f3))∧w'.cell? ⟨a2,4,none⟩=some (.int .i64 ((rd_T34 l0 a0).f4))) (ds:=[]) #[F,F,F,F,F,F,F,F,F,F,F,F,F,F,F,F,F,F,F,F,F,F,F,F,F,F,F,F,F,F,F,F,F,F,F,F,F,F,F,F,F,F,F,F,F,F,F,F,F,F,F,F,F,F,F] (by kernel_rfl) rfl rfl ⟨zc0 a1,zc1 a1,zc2 a1,zc3 a1,zc4 a1⟩ (fun hHeld=>?_);refine with_tabW impl_HandZonesOk.tab6 impl_HandZonesOk.bits6 (fun HT_ HW_=>?_);generalize y0.drew=C3 at a1 HB hHeld⊢;refine zq HT_ 0 ?_;refine zk5 HT_ HW_ hHeld 1 ?_;refine zo HT_ 2 (fun K hK=>?_);refine zgo Try.func28 #[.string ((rd_T34 l0 a0).f0)] ?_
     with_reducible refine(impl_isName.calls k1 ((rd_T34 l0 a0).f0) true _ e9.out).mono ?_
     rintro e w' ⟨rfl,⟨nd,rfl⟩⟩;refine⟨_,rfl,?_⟩;refine hK.out _ _ ⟨zc0 a1,zc1 a1,zc2 a1,zc3 a1,zc4 a1⟩ (fun hHeld=>?_);clear hK K;refine zN ?_;refine zq HT_ 3 ?_;refine zq HT_ 4 ?_;refine zq HT_ 5 ?_;refine zk5 HT_ HW_ hHeld 6 ?_;refine zq HT_ 7 ?_;refine zq HT_ 8 ?_;refine zq HT_ 9 ?_;refine zq HT_ 11 ?_;refine zk5 HT_ HW_ hHeld 10 ?_;refine zk5 HT_ HW_ hHeld 12 ?_;refine zq HT_ 13 ?_;refine zq HT_ 14 ?_;refine zq HT_ 15 ?_;refine zq HT_ 16 ?_;refine zk5 HT_ HW_ hHeld 17 ?_;refine zq HT_ 18 ?_;refine zq HT_ 19 ?_;refine zq HT_ 20 ?_;refine zq HT_ 21 ?_;refine zq HT_ 22 ?_;refine zq HT_ 23 ?_;refine zk5 HT_ HW_ hHeld 24 ?_;refine zq HT_ 25 ?_;refine zq HT_ 26 ?_;refine zu HT_ 27 ?_;refine zu HT_ 28 ?_;refine zu HT_ 29 ?_;refine zu HT_ 30 ?_;refine zu HT_ 31 ?_;refine zq HT_ 32 ?_;refine zq HT_ 33 ?_;refine zu HT_ 34 ?_;refine zu HT_ 35 ?_;refine zu HT_ 36 ?_;refine zq HT_ 37 ?_;refine zq HT_ 38 ?_;refine zq HT_ 39 ?_;refine zq HT_ 40 ?_;refine zu HT_ 41 ?_;refine zu HT_ 42 ?_;refine zu HT_ 43 ?_;refine zu HT_ 44 ?_;refine zu HT_ 45 ?_;refine zu HT_ 46 ?_;refine zu HT_ 47 ?_;refine zu HT_ 48 ?_;refine zu HT_ 49 ?_;refine zu HT_ 50 ?_;refine zu HT_ 51 ?_;refine zu HT_ 52 ?_;refine zu HT_ 53 ?_;refine zq HT_ 54 ?_;refine done_ (done_of HT_.out (by kernel_rfl)) ?_
     try go_wp2
     go_meet
     case rel=>exact⟨_,(true),zi,H',⟨by have:=d5.out;first|omega|exact Nat.le_refl _⟩,⟨zh a1⟩,⟨zs1 HB a3⟩⟩
    rw[if_pos g7]at H;have i0:decide (0≤((rd_T34 l0 a0).f2))=true:=decide_eq_true g7;clear g7
    by_cases g8:((rd_T34 l0 a0).f2)≤((rd_T34 l0 a0).f4)
    rotate_left
    ·rw[if_neg g8]at H
     have i1:decide (((rd_T34 l0 a0).f2)≤((rd_T34 l0 a0).f4))=false:=decide_eq_false g8;clear g8;have H':=zA H;clear H
     try go_wp2
     obtain⟨y1,e_⟩: ∃x,x=(((((w8.setCell ⟨a2,0,none⟩ (.string ((rd_T34 l0 a0).f0))).setCell ⟨a2,1,none⟩ (.int .i64 ((rd_T34 l0 a0).f1))).setCell ⟨a2,2,none⟩ (.int .i64 ((rd_T34 l0 a0).f2))).setCell ⟨a2,3,none⟩ (.int .i64 ((rd_T34 l0 a0).f3))).setCell ⟨a2,4,none⟩ (.int .i64 ((rd_T34 l0 a0).f4))):=⟨_,rfl⟩
     have n0_:Aside0 (y1.heap[a2]?=some (.cells #[.string ((rd_T34 l0 a0).f0),.int .i64 ((rd_T34 l0 a0).f1),.int .i64 ((rd_T34 l0 a0).f2),.int .i64 ((rd_T34 l0 a0).f3),.int .i64 ((rd_T34 l0 a0).f4)] 34 (0,0))):=by rw[e_];exact⟨zpb a1⟩
     have n1_:Aside0 (Below w.heap.size w y1):=by rw[e_];exact⟨zs1 HB a3⟩
     (try clear a1);(try clear HB);rw[←e_];clear e_;have a1:=n0_;have HB:=n1_;clear n0_ n1_;replace a1:=zA (blk_drew a1.out);replace HB:=zA (below_drew1 HB.out);refine start_ (n:=55) (S:=fun w'=>w'.cell? ⟨a2,0,none⟩=some (.string ((rd_T34 l0 a0).f0))∧w'.cell? ⟨a2,1,none⟩=some (.int .i64 ((rd_T34 l0 a0).f1))∧w'.cell? ⟨a2,2,none⟩=some (.int .i64 ((rd_T34 l0 a0).f2))∧w'.cell? ⟨a2,3,none⟩=some (.int .i64 ((rd_T34 l0 a0).f3))∧w'.cell? ⟨a2,4,none⟩=some (.int .i64 ((rd_T34 l0 a0).f4))) (ds:=[]) #[F,F,F,F,F,F,F,F,F,F,F,F,F,F,F,F,F,F,F,F,F,F,F,F,F,F,F,F,F,F,F,F,F,F,F,F,F,F,F,F,F,F,F,F,F,F,F,F,F,F,F,F,F,F,F] (by kernel_rfl) rfl rfl ⟨zc0 a1,zc1 a1,zc2 a1,zc3 a1,zc4 a1⟩ (fun hHeld=>?_);refine with_tabW impl_HandZonesOk.tab6 impl_HandZonesOk.bits6 (fun HT_ HW_=>?_);generalize y1.drew=C4 at a1 HB hHeld⊢;refine zq HT_ 0 ?_;refine zk5 HT_ HW_ hHeld 1 ?_;refine zo HT_ 2 (fun K hK=>?_);refine zgo Try.func28 #[.string ((rd_T34 l0 a0).f0)] ?_
     with_reducible refine(impl_isName.calls k1 ((rd_T34 l0 a0).f0) true _ e9.out).mono ?_
     rintro e w' ⟨rfl,⟨nd,rfl⟩⟩;refine⟨_,rfl,?_⟩;refine hK.out _ _ ⟨zc0 a1,zc1 a1,zc2 a1,zc3 a1,zc4 a1⟩ (fun hHeld=>?_);clear hK K;refine zN ?_;refine zq HT_ 3 ?_;refine zq HT_ 4 ?_;refine zq HT_ 5 ?_;refine zk5 HT_ HW_ hHeld 6 ?_;refine zq HT_ 7 ?_;refine zq HT_ 8 ?_;refine zq HT_ 9 ?_;refine zq HT_ 11 ?_;refine zk5 HT_ HW_ hHeld 10 ?_;refine zk5 HT_ HW_ hHeld 12 ?_;refine zq HT_ 13 ?_;refine zq HT_ 14 ?_;refine zq HT_ 15 ?_;refine zq HT_ 16 ?_;refine zk5 HT_ HW_ hHeld 17 ?_;refine zq HT_ 18 ?_;refine zq HT_ 19 ?_;refine zq HT_ 20 ?_;refine zq HT_ 21 ?_;refine zq HT_ 22 ?_;refine zq HT_ 23 ?_;refine zk5 HT_ HW_ hHeld 24 ?_;refine zq HT_ 25 ?_;refine zq HT_ 26 ?_;refine zq HT_ 27 ?_;refine zq HT_ 29 ?_;refine zk5 HT_ HW_ hHeld 28 ?_;refine zk5 HT_ HW_ hHeld 30 ?_;refine zq HT_ 31 ?_;refine zq HT_ 32 ?_;refine zq HT_ 33 ?_;refine zu HT_ 34 ?_;refine zu HT_ 35 ?_;refine zu HT_ 36 ?_;refine zq HT_ 37 ?_;refine zq HT_ 38 ?_;refine zq HT_ 39 ?_;refine zq HT_ 40 ?_;refine zu HT_ 41 ?_;refine zu HT_ 42 ?_;refine zu HT_ 43 ?_;refine zu HT_ 44 ?_;refine zu HT_ 45 ?_;refine zu HT_ 46 ?_;refine zu HT_ 47 ?_;refine zu HT_ 48 ?_;refine zu HT_ 49 ?_;refine zu HT_ 50 ?_;refine zu HT_ 51 ?_;refine zu HT_ 52 ?_;refine zu HT_ 53 ?_;refine zq HT_ 54 ?_;refine done_ (done_of HT_.out (by kernel_rfl)) ?_
     try go_wp2
     go_meet
     case rel=>exact⟨_,(true),zi,H',⟨by have:=d5.out;first|omega|exact Nat.le_refl _⟩,⟨zh a1⟩,⟨zs1 HB a3⟩⟩
    rw[if_pos g8]at H;have i1:decide (((rd_T34 l0 a0).f2)≤((rd_T34 l0 a0).f4))=true:=decide_eq_true g8;clear g8
    by_cases g9:(((rd_T34 l0 a0).f4)<16)
    rotate_left
    ·rw[if_neg g9]at H
     have i2:decide (((rd_T34 l0 a0).f4)<16)=false:=decide_eq_false g9;clear g9;have H':=zA H;clear H
     try go_wp2
     obtain⟨y2,e_⟩: ∃x,x=(((((w8.setCell ⟨a2,0,none⟩ (.string ((rd_T34 l0 a0).f0))).setCell ⟨a2,1,none⟩ (.int .i64 ((rd_T34 l0 a0).f1))).setCell ⟨a2,2,none⟩ (.int .i64 ((rd_T34 l0 a0).f2))).setCell ⟨a2,3,none⟩ (.int .i64 ((rd_T34 l0 a0).f3))).setCell ⟨a2,4,none⟩ (.int .i64 ((rd_T34 l0 a0).f4))):=⟨_,rfl⟩
     have n0_:Aside0 (y2.heap[a2]?=some (.cells #[.string ((rd_T34 l0 a0).f0),.int .i64 ((rd_T34 l0 a0).f1),.int .i64 ((rd_T34 l0 a0).f2),.int .i64 ((rd_T34 l0 a0).f3),.int .i64 ((rd_T34 l0 a0).f4)] 34 (0,0))):=by rw[e_];exact⟨zpb a1⟩
     have n1_:Aside0 (Below w.heap.size w y2):=by rw[e_];exact⟨zs1 HB a3⟩
     (try clear a1);(try clear HB);rw[←e_];clear e_;have a1:=n0_;have HB:=n1_;clear n0_ n1_;replace a1:=zA (blk_drew a1.out);replace HB:=zA (below_drew1 HB.out);refine start_ (n:=55) (S:=fun w'=>w'.cell? ⟨a2,0,none⟩=some (.string ((rd_T34 l0 a0).f0))∧w'.cell? ⟨a2,1,none⟩=some (.int .i64 ((rd_T34 l0 a0).f1))∧w'.cell? ⟨a2,2,none⟩=some (.int .i64 ((rd_T34 l0 a0).f2))∧w'.cell? ⟨a2,3,none⟩=some (.int .i64 ((rd_T34 l0 a0).f3))∧w'.cell? ⟨a2,4,none⟩=some (.int .i64 ((rd_T34 l0 a0).f4))) (ds:=[]) #[F,F,F,F,F,F,F,F,F,F,F,F,F,F,F,F,F,F,F,F,F,F,F,F,F,F,F,F,F,F,F,F,F,F,F,F,F,F,F,F,F,F,F,F,F,F,F,F,F,F,F,F,F,F,F] (by kernel_rfl) rfl rfl ⟨zc0 a1,zc1 a1,zc2 a1,zc3 a1,zc4 a1⟩ (fun hHeld=>?_);refine with_tabW impl_HandZonesOk.tab6 impl_HandZonesOk.bits6 (fun HT_ HW_=>?_);generalize y2.drew=C5 at a1 HB hHeld⊢;refine zq HT_ 0 ?_;refine zk5 HT_ HW_ hHeld 1 ?_;refine zo HT_ 2 (fun K hK=>?_);refine zgo Try.func28 #[.string ((rd_T34 l0 a0).f0)] ?_
     with_reducible refine(impl_isName.calls k1 ((rd_T34 l0 a0).f0) true _ e9.out).mono ?_
     rintro e w' ⟨rfl,⟨nd,rfl⟩⟩;refine⟨_,rfl,?_⟩;refine hK.out _ _ ⟨zc0 a1,zc1 a1,zc2 a1,zc3 a1,zc4 a1⟩ (fun hHeld=>?_);clear hK K;refine zN ?_;refine zq HT_ 3 ?_;refine zq HT_ 4 ?_;refine zq HT_ 5 ?_;refine zk5 HT_ HW_ hHeld 6 ?_;refine zq HT_ 7 ?_;refine zq HT_ 8 ?_;refine zq HT_ 9 ?_;refine zq HT_ 11 ?_;refine zk5 HT_ HW_ hHeld 10 ?_;refine zk5 HT_ HW_ hHeld 12 ?_;refine zq HT_ 13 ?_;refine zq HT_ 14 ?_;refine zq HT_ 15 ?_;refine zq HT_ 16 ?_;refine zk5 HT_ HW_ hHeld 17 ?_;refine zq HT_ 18 ?_;refine zq HT_ 19 ?_;refine zq HT_ 20 ?_;refine zq HT_ 21 ?_;refine zq HT_ 22 ?_;refine zq HT_ 23 ?_;refine zk5 HT_ HW_ hHeld 24 ?_;refine zq HT_ 25 ?_;refine zq HT_ 26 ?_;refine zq HT_ 27 ?_;refine zq HT_ 29 ?_;refine zk5 HT_ HW_ hHeld 28 ?_;refine zk5 HT_ HW_ hHeld 30 ?_;refine zq HT_ 31 ?_;refine zq HT_ 32 ?_;refine zq HT_ 33 ?_;refine zq HT_ 34 ?_;refine zk5 HT_ HW_ hHeld 35 ?_;refine zq HT_ 36 ?_;refine zq HT_ 37 ?_;refine zq HT_ 38 ?_;refine zq HT_ 39 ?_;refine zq HT_ 40 ?_;refine zu HT_ 41 ?_;refine zu HT_ 42 ?_;refine zu HT_ 43 ?_;refine zu HT_ 44 ?_;refine zu HT_ 45 ?_;refine zu HT_ 46 ?_;refine zu HT_ 47 ?_;refine zu HT_ 48 ?_;refine zu HT_ 49 ?_;refine zu HT_ 50 ?_;refine zu HT_ 51 ?_;refine zu HT_ 52 ?_;refine zu HT_ 53 ?_;refine zq HT_ 54 ?_;refine done_ (done_of HT_.out (by kernel_rfl)) ?_
     try go_wp2
     go_meet
     case rel=>exact⟨_,(true),zi,H',⟨by have:=d5.out;first|omega|exact Nat.le_refl _⟩,⟨zh a1⟩,⟨zs1 HB a3⟩⟩
    rw[if_pos g9]at H;have i2:decide (((rd_T34 l0 a0).f4)<16)=true:=decide_eq_true g9;clear g9
    by_cases h0:a0>0
    rotate_left
    ·rw[if_neg h0]at H
     have i3:decide (0<a0)=false:=decide_eq_false h0;clear h0;have H':=zA H;clear H
     try go_wp2
     obtain⟨y3,e_⟩: ∃x,x=(((((w8.setCell ⟨a2,0,none⟩ (.string ((rd_T34 l0 a0).f0))).setCell ⟨a2,1,none⟩ (.int .i64 ((rd_T34 l0 a0).f1))).setCell ⟨a2,2,none⟩ (.int .i64 ((rd_T34 l0 a0).f2))).setCell ⟨a2,3,none⟩ (.int .i64 ((rd_T34 l0 a0).f3))).setCell ⟨a2,4,none⟩ (.int .i64 ((rd_T34 l0 a0).f4))):=⟨_,rfl⟩
     have n0_:Aside0 (y3.heap[a2]?=some (.cells #[.string ((rd_T34 l0 a0).f0),.int .i64 ((rd_T34 l0 a0).f1),.int .i64 ((rd_T34 l0 a0).f2),.int .i64 ((rd_T34 l0 a0).f3),.int .i64 ((rd_T34 l0 a0).f4)] 34 (0,0))):=by rw[e_];exact⟨zpb a1⟩
     have n1_:Aside0 (Below w.heap.size w y3):=by rw[e_];exact⟨zs1 HB a3⟩
     (try clear a1);(try clear HB);rw[←e_];clear e_;have a1:=n0_;have HB:=n1_;clear n0_ n1_;replace a1:=zA (blk_drew a1.out);replace HB:=zA (below_drew1 HB.out);refine start_ (n:=55) (S:=fun w'=>w'.cell? ⟨a2,0,none⟩=some (.string ((rd_T34 l0 a0).f0))∧w'.cell? ⟨a2,1,none⟩=some (.int .i64 ((rd_T34 l0 a0).f1))∧w'.cell? ⟨a2,2,none⟩=some (.int .i64 ((rd_T34 l0 a0).f2))∧w'.cell? ⟨a2,3,none⟩=some (.int .i64 ((rd_T34 l0 a0).f3))∧w'.cell? ⟨a2,4,none⟩=some (.int .i64 ((rd_T34 l0 a0).f4))) (ds:=[]) #[F,F,F,F,F,F,F,F,F,F,F,F,F,F,F,F,F,F,F,F,F,F,F,F,F,F,F,F,F,F,F,F,F,F,F,F,F,F,F,F,F,F,F,F,F,F,F,F,F,F,F,F,F,F,F] (by kernel_rfl) rfl rfl ⟨zc0 a1,zc1 a1,zc2 a1,zc3 a1,zc4 a1⟩ (fun hHeld=>?_);refine with_tabW impl_HandZonesOk.tab6 impl_HandZonesOk.bits6 (fun HT_ HW_=>?_);generalize y3.drew=C6 at a1 HB hHeld⊢;refine zq HT_ 0 ?_;refine zk5 HT_ HW_ hHeld 1 ?_;refine zo HT_ 2 (fun K hK=>?_);refine zgo Try.func28 #[.string ((rd_T34 l0 a0).f0)] ?_
     with_reducible refine(impl_isName.calls k1 ((rd_T34 l0 a0).f0) true _ e9.out).mono ?_
     rintro e w' ⟨rfl,⟨nd,rfl⟩⟩;refine⟨_,rfl,?_⟩;refine hK.out _ _ ⟨zc0 a1,zc1 a1,zc2 a1,zc3 a1,zc4 a1⟩ (fun hHeld=>?_);clear hK K;refine zN ?_;refine zq HT_ 3 ?_;refine zq HT_ 4 ?_;refine zq HT_ 5 ?_;refine zk5 HT_ HW_ hHeld 6 ?_;refine zq HT_ 7 ?_;refine zq HT_ 8 ?_;refine zq HT_ 9 ?_;refine zq HT_ 11 ?_;refine zk5 HT_ HW_ hHeld 10 ?_;refine zk5 HT_ HW_ hHeld 12 ?_;refine zq HT_ 13 ?_;refine zq HT_ 14 ?_;refine zq HT_ 15 ?_;refine zq HT_ 16 ?_;refine zk5 HT_ HW_ hHeld 17 ?_;refine zq HT_ 18 ?_;refine zq HT_ 19 ?_;refine zq HT_ 20 ?_;refine zq HT_ 21 ?_;refine zq HT_ 22 ?_;refine zq HT_ 23 ?_;refine zk5 HT_ HW_ hHeld 24 ?_;refine zq HT_ 25 ?_;refine zq HT_ 26 ?_;refine zq HT_ 27 ?_;refine zq HT_ 29 ?_;refine zk5 HT_ HW_ hHeld 28 ?_;refine zk5 HT_ HW_ hHeld 30 ?_;refine zq HT_ 31 ?_;refine zq HT_ 32 ?_;refine zq HT_ 33 ?_;refine zq HT_ 34 ?_;refine zk5 HT_ HW_ hHeld 35 ?_;refine zq HT_ 36 ?_;refine zq HT_ 37 ?_;refine zq HT_ 38 ?_;refine zq HT_ 39 ?_;refine zq HT_ 40 ?_;refine zq HT_ 41 ?_;refine zq HT_ 42 ?_;refine zq HT_ 43 ?_;refine zu HT_ 44 ?_;refine zu HT_ 45 ?_;refine zu HT_ 46 ?_;refine zu HT_ 47 ?_;refine zu HT_ 48 ?_;refine zu HT_ 49 ?_;refine zu HT_ 50 ?_;refine zu HT_ 51 ?_;refine zu HT_ 52 ?_;refine zq HT_ 53 ?_;refine zq HT_ 54 ?_;refine done_ (done_of HT_.out (by kernel_rfl)) ?_
     try go_wp2
     go_meet
     case rel=>exact⟨_,(false),zi,H',⟨by have:=d5.out;first|omega|exact Nat.le_refl _⟩,⟨zh a1⟩,⟨zs1 HB a3⟩⟩
    rw[if_pos h0]at H;have i3:decide (0<a0)=true:=decide_eq_true h0;clear h0;obtain⟨b5,d8⟩: ∃j_:Int,(wrap64 (a0-1))=j_:=⟨_,rfl⟩
    first|rw[d8]at H|simp only[d8]at H
    (try rw[d8]at e9);have y4:(IntKind.i64.wrap (a0-1))=b5:=(i64_w _).trans d8;replace H:=zif H;obtain⟨y9,H⟩:=H
    by_cases k2:(b5)<(l0.length:Int)
    rotate_left
    ·rw[if_neg k2]at H
     exact absurd H (by simp)
    rw[if_pos k2]at H;have z0:decide ((b5)<(l0.length:Int))=true:=decide_eq_true k2;clear k2;have H':=zA H;clear H
    try go_wp2
    obtain⟨y5,e_⟩: ∃x,x=(((((w8.setCell ⟨a2,0,none⟩ (.string ((rd_T34 l0 a0).f0))).setCell ⟨a2,1,none⟩ (.int .i64 ((rd_T34 l0 a0).f1))).setCell ⟨a2,2,none⟩ (.int .i64 ((rd_T34 l0 a0).f2))).setCell ⟨a2,3,none⟩ (.int .i64 ((rd_T34 l0 a0).f3))).setCell ⟨a2,4,none⟩ (.int .i64 ((rd_T34 l0 a0).f4))):=⟨_,rfl⟩
    have n0_:Aside0 (y5.heap[a2]?=some (.cells #[.string ((rd_T34 l0 a0).f0),.int .i64 ((rd_T34 l0 a0).f1),.int .i64 ((rd_T34 l0 a0).f2),.int .i64 ((rd_T34 l0 a0).f3),.int .i64 ((rd_T34 l0 a0).f4)] 34 (0,0))):=by rw[e_];exact⟨zpb a1⟩
    have n1_:Aside0 (Below w.heap.size w y5):=by rw[e_];exact⟨zs1 HB a3⟩
    (try clear a1);(try clear HB);rw[←e_];clear e_;have a1:=n0_;have HB:=n1_;clear n0_ n1_;replace a1:=zA (blk_drew a1.out);replace HB:=zA (below_drew1 HB.out);have g0:0≤((b5):Int):=za;have g1:(b5)<(l0.length:Int):=za;obtain⟨i4,y6,d0,d1,d2,d3,d4⟩:=at_T34 v9.out (b5) g0 g1;have hw337_4:=d4;have hw337_3:=d3;have hw337_2:=d2;have hw337_1:=d1;have hw337_0:=d0;obtain rfl:b3=i4:=(by injection y6);replace d0:=zx HB d0;replace d1:=zx HB d1;replace d2:=zx HB d2;replace d3:=zx HB d3;replace d4:=zx HB d4;replace g0:=eq_true g0;replace g1:=eq_true g1;refine start_ (n:=55) (S:=fun w'=>w'.cell? ⟨a2,0,none⟩=some (.string ((rd_T34 l0 a0).f0))∧w'.cell? ⟨a2,1,none⟩=some (.int .i64 ((rd_T34 l0 a0).f1))∧w'.cell? ⟨a2,2,none⟩=some (.int .i64 ((rd_T34 l0 a0).f2))∧w'.cell? ⟨a2,3,none⟩=some (.int .i64 ((rd_T34 l0 a0).f3))∧w'.cell? ⟨a2,4,none⟩=some (.int .i64 ((rd_T34 l0 a0).f4))∧w'.cell? (b3.add (((b5)).toNat*5))=some (.string ((rd_T34 l0 (b5)).f0))∧w'.cell? ⟨(b3.add (((b5)).toNat*5)).block,(b3.add (((b5)).toNat*5)).off+1,none⟩=some (.int .i64 ((rd_T34 l0 (b5)).f1))∧w'.cell? ⟨(b3.add (((b5)).toNat*5)).block,(b3.add (((b5)).toNat*5)).off+2,none⟩=some (.int .i64 ((rd_T34 l0 (b5)).f2))∧w'.cell? ⟨(b3.add (((b5)).toNat*5)).block,(b3.add (((b5)).toNat*5)).off+3,none⟩=some (.int .i64 ((rd_T34 l0 (b5)).f3))∧w'.cell? ⟨(b3.add (((b5)).toNat*5)).block,(b3.add (((b5)).toNat*5)).off+4,none⟩=some (.int .i64 ((rd_T34 l0 (b5)).f4))) (ds:=[]) #[F,F,F,F,F,F,F,F,F,F,F,F,F,F,F,F,F,F,F,F,F,F,F,F,F,F,F,F,F,F,F,F,F,F,F,F,F,F,F,F,F,F,F,F,F,F,F,F,F,F,F,F,F,F,F] (by kernel_rfl) rfl rfl ⟨zc0 a1,zc1 a1,zc2 a1,zc3 a1,zc4 a1,(zw HB hw337_0),(zw HB hw337_1),(zw HB hw337_2),(zw HB hw337_3),(zw HB hw337_4)⟩ (fun hHeld=>?_);refine with_tabW impl_HandZonesOk.tab6 impl_HandZonesOk.bits6 (fun HT_ HW_=>?_);generalize y5.drew=C7 at a1 HB d0 d1 d2 d3 d4 hHeld⊢;refine zq HT_ 0 ?_;refine zk10 HT_ HW_ hHeld 1 ?_;refine zo HT_ 2 (fun K hK=>?_);refine zgo Try.func28 #[.string ((rd_T34 l0 a0).f0)] ?_
    with_reducible refine(impl_isName.calls k1 ((rd_T34 l0 a0).f0) true _ e9.out).mono ?_
    rintro e w' ⟨rfl,⟨nd,rfl⟩⟩;refine⟨_,rfl,?_⟩;refine hK.out _ _ ⟨zc0 a1,zc1 a1,zc2 a1,zc3 a1,zc4 a1,(zw HB hw337_0),(zw HB hw337_1),(zw HB hw337_2),(zw HB hw337_3),(zw HB hw337_4)⟩ (fun hHeld=>?_);clear hK K;refine zN ?_;refine zq HT_ 3 ?_;refine zq HT_ 4 ?_;refine zq HT_ 5 ?_;refine zk10 HT_ HW_ hHeld 6 ?_;refine zq HT_ 7 ?_;refine zq HT_ 8 ?_;refine zq HT_ 9 ?_;refine zq HT_ 11 ?_;refine zk10 HT_ HW_ hHeld 10 ?_;refine zk10 HT_ HW_ hHeld 12 ?_;refine zq HT_ 13 ?_;refine zq HT_ 14 ?_;refine zq HT_ 15 ?_;refine zq HT_ 16 ?_;refine zk10 HT_ HW_ hHeld 17 ?_;refine zq HT_ 18 ?_;refine zq HT_ 19 ?_;refine zq HT_ 20 ?_;refine zq HT_ 21 ?_;refine zq HT_ 22 ?_;refine zq HT_ 23 ?_;refine zk10 HT_ HW_ hHeld 24 ?_;refine zq HT_ 25 ?_;refine zq HT_ 26 ?_;refine zq HT_ 27 ?_;refine zq HT_ 29 ?_;refine zk10 HT_ HW_ hHeld 28 ?_;refine zk10 HT_ HW_ hHeld 30 ?_;refine zq HT_ 31 ?_;refine zq HT_ 32 ?_;refine zq HT_ 33 ?_;refine zq HT_ 34 ?_;refine zk10 HT_ HW_ hHeld 35 ?_;refine zq HT_ 36 ?_;refine zq HT_ 37 ?_;refine zq HT_ 38 ?_;refine zq HT_ 39 ?_;refine zq HT_ 40 ?_;refine zq HT_ 41 ?_;refine zq HT_ 42 ?_;refine zq HT_ 43 ?_;refine zq HT_ 44 ?_;refine zq HT_ 46 ?_;refine zq HT_ 47 ?_;refine zq HT_ 48 ?_;refine zq HT_ 49 ?_;refine zq HT_ 50 ?_;refine zk10 HT_ HW_ hHeld 45 ?_;refine zk10 HT_ HW_ hHeld 51 ?_;refine zq HT_ 52 ?_;refine zq HT_ 53 ?_;refine zq HT_ 54 ?_;refine done_ (done_of HT_.out (by kernel_rfl)) ?_
    try go_wp2
    go_meet
    case rel=>exact⟨_,(!(Op.bytesLess (((rd_T34 l0 (b5)).f0).toList) (((rd_T34 l0 a0).f0).toList))),(by first|rfl|(simp;done)|(simp only[←d8]<;>(first|rfl|exact congrArg Value.bool (leq_not _ _)|exact leq_not _ _|simp))|(simp[*];done)),H',⟨by have:=d5.out;first|omega|exact Nat.le_refl _⟩,⟨zh a1⟩,⟨zs1 HB a3⟩⟩
   case rest=>
    clear w2
    try clear c1
    try clear c2
    try clear p2
    try clear g3
    try clear B3
    obtain⟨kq,e6,rfl,HA,f5,a1,HB⟩:=hcut
    cases kq with
    |zero=>exact absurd HA.out (by simp[impl_HandZonesOk.j1])
    |succ y7=>
     have H:=HA.out;clear HA;simp only[impl_HandZonesOk.j1]at H
     by_cases i5:e6=true
     ·subst i5
      rw[if_pos rfl]at H;obtain rfl:=Option.some.inj H
      go_wp2
      go_ret;exact⟨ze,zs1 HB a3⟩
     replace i5:=Bool.eq_false_iff.mpr i5;subst i5;rw[if_neg zfn]at H
     by_cases h1:0≤a0
     rotate_left
     ·rw[if_neg h1]at H
      exact absurd H (by simp)
     rw[if_pos h1]at H;have i6:=eq_true h1;have i7:decide (0≤a0)=true:=decide_eq_true h1;clear h1
     by_cases h2:a0≤(l0.length:Int)
     rotate_left
     ·rw[if_neg h2]at H
      exact absurd H (by simp)
     rw[if_pos h2]at H;have i8:=eq_true h2;have i9:decide (a0≤(l0.length:Int))=true:=decide_eq_true h2;clear h2;obtain⟨b2,d9⟩: ∃y_:List (S34),y_=(l0.take (a0:Int).toNat):=⟨_,rfl⟩
     replace H:(impl_HandZonesOk.l1 y7 l0 l0 (l0.length:Int) a0 b2 (b2.length:Int) 0 ((rd_T34 l0 a0).f0) ((rd_T34 l0 a0).f1) ((rd_T34 l0 a0).f2) ((rd_T34 l0 a0).f3) ((rd_T34 l0 a0).f4))=some r:=by first|(rw[d9];with_reducible exact H)|(have H2_:=(Option.bind_some _ _).symm.trans H;rw[d9];with_reducible exact H2_)|(have H2_:=(Option.bind_some _ _).symm.trans H;with_reducible exact H2_)|with_reducible exact H|(rw[d9];exact H)|exact H
     have f7:=zA d9;clear d9;have H':=zA H;clear H;have j4:(a0:Int)≤((l0.length:Int):Int):=za;obtain⟨i043,hi043,_,hsz43,_⟩:=info_parts info34;have hroom43:l0.length≤c0:=A7.out;have hC43:Kd.C k34 _ (some b3) l0.length l0:=v9.out;have hcut43:=cut_to (P:=Try.prog) 23 34 .i64 Try.underlying23 hi043 (some b3) l0.length c0 a0 (za) j4 hroom43;have hr43:=Kd.C_take (m:=(a0:Int).toNat) hC43 (by omega);have g2:b2.length=(a0:Int).toNat:=(by rw[f7.out,List.length_take];omega);rw[←f7.out]at hr43;rw[←g2]at hcut43;have e0:=zA hr43;have z1:=zA (show b2.length≤c0 from by omega);clear hr43 hC43 hroom43 hi043 hsz43;have KY43:=zA g2;clear g2;replace j4:=eq_true j4
     go_wp2
     go_loopg [77] y7 (fun kq B4 w'=> ∃(a4:Int),B4= .int .i64 a4∧Aside0 (impl_HandZonesOk.l1 kq l0 l0 (l0.length:Int) a0 b2 (b2.length:Int) a4 ((rd_T34 l0 a0).f0) ((rd_T34 l0 a0).f1) ((rd_T34 l0 a0).f2) ((rd_T34 l0 a0).f3) ((rd_T34 l0 a0).f4)=some r)∧Aside0 (kq≤y7)∧Aside0 (w'.heap[a2]?=some (.cells #[.string ((rd_T34 l0 a0).f0),.int .i64 ((rd_T34 l0 a0).f1),.int .i64 ((rd_T34 l0 a0).f2),.int .i64 ((rd_T34 l0 a0).f3),.int .i64 ((rd_T34 l0 a0).f4)] 34 (0,0)))∧Aside0 (Below w.heap.size w w'))
     case atStart=>exact⟨(0),zi,H',⟨Nat.le_refl _⟩,⟨zh a1⟩,⟨zs1 HB a3⟩⟩
     case round=>
      clear H'
      try clear c1
      try clear c2
      try clear p2
      try clear c4
      try clear q4
      try clear g3
      try clear B3
      try clear i5
      try clear h1
      try clear i6
      try clear i7
      try clear h2
      try clear i8
      try clear i9
      try clear j4
      try clear p2
      try clear j4
      obtain⟨a4,rfl,HA,f6,a1,HB⟩:=hrel
      cases gk with
      |zero=>exact absurd HA.out (by simp[impl_HandZonesOk.l1])
      |succ k3=>
       have H:=HA.out;clear HA;simp only[impl_HandZonesOk.l1]at H
       by_cases h3:a4<(b2.length:Int)
       rotate_left
       ·rw[if_neg h3]at H
        have j6:decide (a4<(b2.length:Int))=false:=decide_eq_false h3;clear h3;have H':=zA H;clear H
        go_wp2
        go_roundg k3
        case measure=>have:=d5.out;have:=f5.out;have:=f6.out;omega
        case rel=>exact⟨(wrap64 (a0+1)),zi,H',⟨by have:=d5.out;have:=f5.out;have:=f6.out;omega⟩,⟨zs1 HB a3⟩⟩
       rw[if_pos h3]at H;have j6:decide (a4<(b2.length:Int))=true:=decide_eq_true h3;clear h3;replace H:=zif H;obtain⟨z2,H⟩:=H
       by_cases k4:a4<(b2.length:Int)
       rotate_left
       ·rw[if_neg k4]at H
        exact absurd H (by simp)
       rw[if_pos k4]at H;have z3:decide (a4<(b2.length:Int))=true:=decide_eq_true k4;clear k4
       by_cases h4:((rd_T34 b2 a4).f1)≤((rd_T34 l0 a0).f3)
       rotate_left
       ·rw[if_neg h4]at H
        have j7:decide (((rd_T34 b2 a4).f1)≤((rd_T34 l0 a0).f3))=false:=decide_eq_false h4;clear h4;have H':=zA H;clear H;have b6:0≤(a4:Int):=za;have b7:a4<(b2.length:Int):=za;obtain⟨b8,d6,a6,a7,a8,a9,b0⟩:=at_T34 e0.out a4 b6 b7;obtain rfl:b3=b8:=(by injection d6);replace a6:=zx HB a6;replace a7:=zx HB a7;replace a8:=zx HB a8;replace a9:=zx HB a9;replace b0:=zx HB b0;replace b6:=eq_true b6;replace b7:=eq_true b7
        go_wp2_with (first|((with_reducible refine gate_dst (N:=6) rfl ?_);refine zbx 6 #[.string (⟨#[]⟩:ByteArray),.int .i64 0,.int .i64 0,.int .i64 0,.int .i64 0] 34 ?_;intro e7 hg C8 hbox hb;have b4:=zA hbox;have e8:=zgs hg (zs1 HB a3);have b9:=zgs hg (zs1 HB a3);have a5:=zne hg a1;have b1:=znf hg a1;replace a1:=zb a1 hb;replace HB:=zE (zs1 HB a3) hb;clear hb hbox hg;have z4:=b1.out;have z5:=a5.out;obtain⟨k5,k6,k7,k8,k9⟩:=zd5 b4;obtain⟨l2,l3,l4,l5,l6⟩:=zn5 b4;obtain⟨l7,l8,l9,m0,m1⟩:=zd5 a1;obtain⟨m2,m3,m4,m5,m6⟩:=zn5 a1))
        go_roundg k3
        case measure=>have:=d5.out;have:=f5.out;have:=f6.out;omega
        case rel=>exact⟨(wrap64 (a4+1)),zi,H',⟨by have:=d5.out;have:=f5.out;have:=f6.out;omega⟩,⟨zpf a1 a5⟩,⟨zs2 HB a3 b9⟩⟩
       rw[if_pos h4]at H;have j7:decide (((rd_T34 b2 a4).f1)≤((rd_T34 l0 a0).f3))=true:=decide_eq_true h4;clear h4
       by_cases h5:((rd_T34 l0 a0).f1)≤((rd_T34 b2 a4).f3)
       rotate_left
       ·rw[if_neg h5]at H
        have j8:decide (((rd_T34 l0 a0).f1)≤((rd_T34 b2 a4).f3))=false:=decide_eq_false h5;clear h5;have H':=zA H;clear H;have b6:0≤(a4:Int):=za;have b7:a4<(b2.length:Int):=za;obtain⟨b8,d6,a6,a7,a8,a9,b0⟩:=at_T34 e0.out a4 b6 b7;obtain rfl:b3=b8:=(by injection d6);replace a6:=zx HB a6;replace a7:=zx HB a7;replace a8:=zx HB a8;replace a9:=zx HB a9;replace b0:=zx HB b0;replace b6:=eq_true b6;replace b7:=eq_true b7
        go_wp2_with (first|((with_reducible refine gate_dst (N:=6) rfl ?_);refine zbx 6 #[.string (⟨#[]⟩:ByteArray),.int .i64 0,.int .i64 0,.int .i64 0,.int .i64 0] 34 ?_;intro e7 hg C9 hbox hb;have b4:=zA hbox;have e8:=zgs hg (zs1 HB a3);have b9:=zgs hg (zs1 HB a3);have a5:=zne hg a1;have b1:=znf hg a1;replace a1:=zb a1 hb;replace HB:=zE (zs1 HB a3) hb;clear hb hbox hg;have z6:=b1.out;have z7:=a5.out;obtain⟨m7,m8,m9,n0,n1⟩:=zd5 b4;obtain⟨n2,n3,n4,n5,n6⟩:=zn5 b4;obtain⟨n7,n8,n9,o0,o1⟩:=zd5 a1;obtain⟨o2,o3,o4,o5,o6⟩:=zn5 a1))
        go_roundg k3
        case measure=>have:=d5.out;have:=f5.out;have:=f6.out;omega
        case rel=>exact⟨(wrap64 (a4+1)),zi,H',⟨by have:=d5.out;have:=f5.out;have:=f6.out;omega⟩,⟨zpf a1 a5⟩,⟨zs2 HB a3 b9⟩⟩
       rw[if_pos h5]at H;have j8:decide (((rd_T34 l0 a0).f1)≤((rd_T34 b2 a4).f3))=true:=decide_eq_true h5;clear h5
       by_cases h6:((rd_T34 b2 a4).f2)≤((rd_T34 l0 a0).f4)
       rotate_left
       ·rw[if_neg h6]at H
        have j9:decide (((rd_T34 b2 a4).f2)≤((rd_T34 l0 a0).f4))=false:=decide_eq_false h6;clear h6;have H':=zA H;clear H;have b6:0≤(a4:Int):=za;have b7:a4<(b2.length:Int):=za;obtain⟨b8,d6,a6,a7,a8,a9,b0⟩:=at_T34 e0.out a4 b6 b7;obtain rfl:b3=b8:=(by injection d6);replace a6:=zx HB a6;replace a7:=zx HB a7;replace a8:=zx HB a8;replace a9:=zx HB a9;replace b0:=zx HB b0;replace b6:=eq_true b6;replace b7:=eq_true b7
        go_wp2_with (first|((with_reducible refine gate_dst (N:=6) rfl ?_);refine zbx 6 #[.string (⟨#[]⟩:ByteArray),.int .i64 0,.int .i64 0,.int .i64 0,.int .i64 0] 34 ?_;intro e7 hg D0 hbox hb;have b4:=zA hbox;have e8:=zgs hg (zs1 HB a3);have b9:=zgs hg (zs1 HB a3);have a5:=zne hg a1;have b1:=znf hg a1;replace a1:=zb a1 hb;replace HB:=zE (zs1 HB a3) hb;clear hb hbox hg;have z8:=b1.out;have z9:=a5.out;obtain⟨o7,o8,o9,p0,p1⟩:=zd5 b4;obtain⟨p3,p4,p5,p6,p7⟩:=zn5 b4;obtain⟨p8,p9,q0,q1,q2⟩:=zd5 a1;obtain⟨q3,q5,q6,q7,q8⟩:=zn5 a1))
        go_roundg k3
        case measure=>have:=d5.out;have:=f5.out;have:=f6.out;omega
        case rel=>exact⟨(wrap64 (a4+1)),zi,H',⟨by have:=d5.out;have:=f5.out;have:=f6.out;omega⟩,⟨zpf a1 a5⟩,⟨zs2 HB a3 b9⟩⟩
       rw[if_pos h6]at H;have j9:decide (((rd_T34 b2 a4).f2)≤((rd_T34 l0 a0).f4))=true:=decide_eq_true h6;clear h6
       by_cases h7:((rd_T34 l0 a0).f2)≤((rd_T34 b2 a4).f4)
       ·rw[if_pos h7]at H
        have k0:decide (((rd_T34 l0 a0).f2)≤((rd_T34 b2 a4).f4))=true:=decide_eq_true h7;clear h7;obtain rfl:=Option.some.inj H;have b6:0≤(a4:Int):=za;have b7:a4<(b2.length:Int):=za;obtain⟨b8,d6,a6,a7,a8,a9,b0⟩:=at_T34 e0.out a4 b6 b7;obtain rfl:b3=b8:=(by injection d6);replace a6:=zx HB a6;replace a7:=zx HB a7;replace a8:=zx HB a8;replace a9:=zx HB a9;replace b0:=zx HB b0;replace b6:=eq_true b6;replace b7:=eq_true b7
        go_wp2_with (first|((with_reducible refine gate_dst (N:=6) rfl ?_);refine zbx 6 #[.string (⟨#[]⟩:ByteArray),.int .i64 0,.int .i64 0,.int .i64 0,.int .i64 0] 34 ?_;intro e7 hg D1 hbox hb;have b4:=zA hbox;have e8:=zgs hg (zs1 HB a3);have b9:=zgs hg (zs1 HB a3);have a5:=zne hg a1;have b1:=znf hg a1;replace a1:=zb a1 hb;replace HB:=zE (zs1 HB a3) hb;clear hb hbox hg;have A1:=b1.out;have A3:=a5.out;obtain⟨q9,r0,r1,r2,r3⟩:=zd5 b4;obtain⟨r4,r5,r6,r7,r8⟩:=zn5 b4;obtain⟨r9,s0,s1,s2,s3⟩:=zd5 a1;obtain⟨s4,s5,s6,s7,s8⟩:=zn5 a1))
        go_ret;exact⟨ze,zs2 HB a3 b9⟩
       rw[if_neg h7]at H;have k0:decide (((rd_T34 l0 a0).f2)≤((rd_T34 b2 a4).f4))=false:=decide_eq_false h7;clear h7;have H':=zA H;clear H;have b6:0≤(a4:Int):=za;have b7:a4<(b2.length:Int):=za;obtain⟨b8,d6,a6,a7,a8,a9,b0⟩:=at_T34 e0.out a4 b6 b7;obtain rfl:b3=b8:=(by injection d6);replace a6:=zx HB a6;replace a7:=zx HB a7;replace a8:=zx HB a8;replace a9:=zx HB a9;replace b0:=zx HB b0;replace b6:=eq_true b6;replace b7:=eq_true b7
       go_wp2_with (first|((with_reducible refine gate_dst (N:=6) rfl ?_);refine zbx 6 #[.string (⟨#[]⟩:ByteArray),.int .i64 0,.int .i64 0,.int .i64 0,.int .i64 0] 34 ?_;intro e7 hg D2 hbox hb;have b4:=zA hbox;have e8:=zgs hg (zs1 HB a3);have b9:=zgs hg (zs1 HB a3);have a5:=zne hg a1;have b1:=znf hg a1;replace a1:=zb a1 hb;replace HB:=zE (zs1 HB a3) hb;clear hb hbox hg;have A4:=b1.out;have A5:=a5.out;obtain⟨s9,t0,t1,t2,t3⟩:=zd5 b4;obtain⟨t4,t5,t6,t7,t8⟩:=zn5 b4;obtain⟨t9,v0,v1,v2,v3⟩:=zd5 a1;obtain⟨v4,v5,v6,v7,v8⟩:=zn5 a1))
       go_roundg k3
       case measure=>have:=d5.out;have:=f5.out;have:=f6.out;omega
       case rel=>exact⟨(wrap64 (a4+1)),zi,H',⟨by have:=d5.out;have:=f5.out;have:=f6.out;omega⟩,⟨zpf a1 a5⟩,⟨zs2 HB a3 b9⟩⟩
end Go.Proofs.Ytmdmfldpohaegaa.QFnHandWho
