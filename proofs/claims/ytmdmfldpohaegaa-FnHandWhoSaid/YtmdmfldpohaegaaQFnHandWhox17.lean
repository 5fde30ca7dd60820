/- The walk of what the law FnHandWho reaches: laid by a program of this session (ownprint.py). -/
import Derived.Test.YtmdmfldpohaegaaQFnHandWhox0
import Derived.Test.YtmdmfldpohaegaaQFnHandWhox16
namespace Go.Proofs.Ytmdmfldpohaegaa.QFnHandWho
open Go.RowKit Go.Proofs.YtmdmfldpohaegaaW.PrintWords Go.Proofs.YtmdmfldpohaegaaW.PrintLast Go.Proofs.YtmdmfldpohaegaaW.PrintMore Go.Proofs.Ytmdmfldpohaegaa.Z
attribute [local go_sem] max2_int min2_int max_two min_two max_three min_three max_four min_four zdn   -- for this text's walks alone
set_option linter.unusedVariables false
set_option linter.unusedSimpArgs false
mutual
def spec_HandNear.l0:Nat→List (S47)→List (S47)→Int→Option (Bool)
 |0,_,_,_=>none
 |k+1,x0,x1,x5=>if x5<(x0.length:Int)then(spec_HandNear.l1 k x0 x1 x5 0)else(some false)
def spec_HandNear.l1:Nat→List (S47)→List (S47)→Int→Int→Option (Bool)
 |0,_,_,_,_=>none
 |k+1,x0,x1,x5,x6=>if x6<(x1.length:Int)then(if 0≤x5 then(if x5<(x0.length:Int)then(if 0≤x6 then((spec_l31Close.f ((rd_T47 x0 x5).f0) ((rd_T47 x0 x5).f1) ((rd_T47 x0 x5).f2) ((rd_T47 x0 x5).f3) ((rd_T47 x0 x5).f4) ((rd_T47 x0 x5).f5) ((rd_T47 x1 x6).f0) ((rd_T47 x1 x6).f1) ((rd_T47 x1 x6).f2) ((rd_T47 x1 x6).f3) ((rd_T47 x1 x6).f4) ((rd_T47 x1 x6).f5)).bind fun a0=>(if a0=true then(some true)else(spec_HandNear.l1 k x0 x1 x5 (wrap64 (x6+1)))))else(none))else(none))else(none))else(spec_HandNear.l0 k x0 x1 (wrap64 (x5+1)))
end
def spec_HandNear.f (k:Nat) (l0:List (S47)) (l1:List (S47)):Option (Bool):=spec_HandNear.l0 k l0 l1 0
def spec_HandNear.T7:Bool×List (List Nat×List Nat):=(true,[([],[]),([],[]),([0,1],[0,1]),([2],[2]),([],[]),([],[]),([4,5],[4,5]),([6],[6]),([3,7],[3,7])])
def spec_HandNear.B7:List Nat:=[0,0,3,7,0,0,48,112,255]
theorem spec_HandNear.tab7:rtab .any (opsOf Try.f10 7)=spec_HandNear.T7:=by kernel_rfl
theorem spec_HandNear.bits7:waitsOk spec_HandNear.T7.2 spec_HandNear.B7=true:=by kernel_rfl
set_option maxHeartbeats 8000000 in
set_option maxRecDepth 100000 in
theorem spec_HandNear.calls (k:Nat) (A0:Option Addr) (c0:Nat) (l0:List (S47)) (A1:Option Addr) (c1:Nat) (l1:List (S47)) (r:Bool) (w:World) (hr0:Kd.C k47 w A0 l0.length l0) (hc0:l0.length≤c0) (hr1:Kd.C k47 w A1 l1.length l1) (hc1:l1.length≤c1) (h:spec_HandNear.f k l0 l1=some r):
 Calls Try.prog 10 #[.slice A0 l0.length c0,.slice A1 l1.length c1] w fun e w'=>e= .returned (.bool r)∧Below w.heap.size w w':=by
 have d9:=Try.underlying47;have d7:=zA hr0;have e3:=zA hc0;clear hr0 hc0;have d8:=zA hr1;have e4:=zA hc1;clear hr1 hc1;have HB:=zA (Below.refl w.heap.size w);have H:=h;clear h;unfold spec_HandNear.f at H;have H':=zA H;clear H
 go_enter Try.func10,Try.ntmps10
 go_wp2
 go_loopg [5] k (fun kq v5 w'=> ∃(a0:Int),v5= .int .i64 a0∧Aside0 (spec_HandNear.l0 kq l0 l1 a0=some r)∧Aside0 (kq≤k)∧Aside0 (Below w.heap.size w w'))
 case atStart=>exact⟨(0),zi,H',⟨Nat.le_refl _⟩,⟨zs0 HB⟩⟩
 case round=>
  clear H'
  try clear c1
  try clear p2
  obtain⟨a0,rfl,HA,d3,HB⟩:=hrel
  cases gk with
  |zero=>exact absurd HA.out (by simp[spec_HandNear.l0])
  |succ k1=>
   have H:=HA.out;clear HA;simp only[spec_HandNear.l0]at H
   by_cases c3:a0<(l0.length:Int)
   rotate_left
   ·rw[if_neg c3]at H
    have d2:decide (a0<(l0.length:Int))=false:=decide_eq_false c3;clear c3;obtain rfl:=Option.some.inj H
    go_wp2
    go_ret;exact⟨ze,zs0 HB⟩
   rw[if_pos c3]at H;have d2:decide (a0<(l0.length:Int))=true:=decide_eq_true c3;clear c3;have H':=zA H;clear H
   go_wp2
   go_loopg [6] k1 (fun kq v6 w'=> ∃(a1:Int),v6= .int .i64 a1∧Aside0 (spec_HandNear.l1 kq l0 l1 a0 a1=some r)∧Aside0 (kq≤k1)∧Aside0 (Below w.heap.size w w'))
   case atStart=>exact⟨(0),zi,H',⟨Nat.le_refl _⟩,⟨zs0 HB⟩⟩
   case round=>
    clear H'
    try clear c1
    try clear p2
    try clear c3
    try clear d2
    try clear p2
    obtain⟨a1,rfl,HA,d4,HB⟩:=hrel
    cases gk with
    |zero=>exact absurd HA.out (by simp[spec_HandNear.l1])
    |succ k2=>
     have H:=HA.out;clear HA;simp only[spec_HandNear.l1]at H
     by_cases c4:a1<(l1.length:Int)
     rotate_left
     ·rw[if_neg c4]at H
      have d5:decide (a1<(l1.length:Int))=false:=decide_eq_false c4;clear c4;have H':=zA H;clear H
      go_wp2
      go_roundg k2
      case measure=>have:=d3.out;have:=d4.out;omega
      case rel=>exact⟨(wrap64 (a0+1)),zi,H',⟨by have:=d3.out;have:=d4.out;omega⟩,⟨zs0 HB⟩⟩
     rw[if_pos c4]at H;have d5:decide (a1<(l1.length:Int))=true:=decide_eq_true c4;clear c4;replace H:=zif H;obtain⟨e0,H⟩:=H
     by_cases c6:a0<(l0.length:Int)
     rotate_left
     ·rw[if_neg c6]at H
      exact absurd H (by simp)
     rw[if_pos c6]at H;have e1:decide (a0<(l0.length:Int))=true:=decide_eq_true c6;clear c6;replace H:=zif H;obtain⟨e2,H⟩:=H;replace H:=zbd H;obtain⟨d6,A8,H⟩:=H
     by_cases c9:d6=true
     ·subst c9
      rw[if_pos rfl]at H;obtain rfl:=Option.some.inj H
      try go_wp2
      replace HB:=zA (below_drew1 HB.out);have b6:0≤(a0:Int):=za;have b7:a0<(l0.length:Int):=za;obtain⟨a2,d0,a4,a5,a6,a7,a8,a9⟩:=at_T47 d7.out a0 b6 b7;have hw374_5:=a9;have hw374_4:=a8;have hw374_3:=a7;have hw374_2:=a6;have hw374_1:=a5;have hw374_0:=a4;cases d0;replace a4:=zx HB a4;replace a5:=zx HB a5;replace a6:=zx HB a6;replace a7:=zx HB a7;replace a8:=zx HB a8;replace a9:=zx HB a9;replace b6:=eq_true b6;replace b7:=eq_true b7;have b8:0≤(a1:Int):=za;have b9:a1<(l1.length:Int):=za;obtain⟨a3,d1,b0,b1,b2,b3,b4,b5⟩:=at_T47 d8.out a1 b8 b9;have hw375_5:=b5;have hw375_4:=b4;have hw375_3:=b3;have hw375_2:=b2;have hw375_1:=b1;have hw375_0:=b0;cases d1;replace b0:=zx HB b0;replace b1:=zx HB b1;replace b2:=zx HB b2;replace b3:=zx HB b3;replace b4:=zx HB b4;replace b5:=zx HB b5;replace b8:=eq_true b8;replace b9:=eq_true b9;refine start_ (n:=9) (S:=fun w'=>w'.cell? (a2.add ((a0).toNat*6))=some (.int .i64 ((rd_T47 l0 a0).f0))∧w'.cell? ⟨(a2.add ((a0).toNat*6)).block,(a2.add ((a0).toNat*6)).off+1,none⟩=some (.int .i64 ((rd_T47 l0 a0).f1))∧w'.cell? ⟨(a2.add ((a0).toNat*6)).block,(a2.add ((a0).toNat*6)).off+2,none⟩=some (.int .i64 ((rd_T47 l0 a0).f2))∧w'.cell? ⟨(a2.add ((a0).toNat*6)).block,(a2.add ((a0).toNat*6)).off+3,none⟩=some (.int .i64 ((rd_T47 l0 a0).f3))∧w'.cell? ⟨(a2.add ((a0).toNat*6)).block,(a2.add ((a0).toNat*6)).off+4,none⟩=some (.int .i64 ((rd_T47 l0 a0).f4))∧w'.cell? ⟨(a2.add ((a0).toNat*6)).block,(a2.add ((a0).toNat*6)).off+5,none⟩=some (.int .i64 ((rd_T47 l0 a0).f5))∧w'.cell? (a3.add ((a1).toNat*6))=some (.int .i64 ((rd_T47 l1 a1).f0))∧w'.cell? ⟨(a3.add ((a1).toNat*6)).block,(a3.add ((a1).toNat*6)).off+1,none⟩=some (.int .i64 ((rd_T47 l1 a1).f1))∧w'.cell? ⟨(a3.add ((a1).toNat*6)).block,(a3.add ((a1).toNat*6)).off+2,none⟩=some (.int .i64 ((rd_T47 l1 a1).f2))∧w'.cell? ⟨(a3.add ((a1).toNat*6)).block,(a3.add ((a1).toNat*6)).off+3,none⟩=some (.int .i64 ((rd_T47 l1 a1).f3))∧w'.cell? ⟨(a3.add ((a1).toNat*6)).block,(a3.add ((a1).toNat*6)).off+4,none⟩=some (.int .i64 ((rd_T47 l1 a1).f4))∧w'.cell? ⟨(a3.add ((a1).toNat*6)).block,(a3.add ((a1).toNat*6)).off+5,none⟩=some (.int .i64 ((rd_T47 l1 a1).f5))) (ds:=[]) #[F,F,F,F,F,F,F,F,F] (by kernel_rfl) rfl rfl ⟨(zw HB hw374_0),(zw HB hw374_1),(zw HB hw374_2),(zw HB hw374_3),(zw HB hw374_4),(zw HB hw374_5),(zw HB hw375_0),(zw HB hw375_1),(zw HB hw375_2),(zw HB hw375_3),(zw HB hw375_4),(zw HB hw375_5)⟩ (fun hHeld=>?_);refine with_tabW spec_HandNear.tab7 spec_HandNear.bits7 (fun HT_ HW_=>?_);generalize wr.drew=e5 at HB a4 a5 a6 a7 a8 a9 b0 b1 b2 b3 b4 b5 hHeld⊢;refine zq HT_ 0 ?_;refine zq HT_ 1 ?_;refine zq HT_ 2 ?_;refine zq HT_ 4 ?_;refine zq HT_ 5 ?_;refine zq HT_ 6 ?_;refine zk12 HT_ HW_ hHeld 3 ?_;refine zk12 HT_ HW_ hHeld 7 ?_;refine zo HT_ 8 (fun K hK=>?_);refine zgo Try.func32 #[.agg #[.int .i64 ((rd_T47 l0 a0).f0),.int .i64 ((rd_T47 l0 a0).f1),.int .i64 ((rd_T47 l0 a0).f2),.int .i64 ((rd_T47 l0 a0).f3),.int .i64 ((rd_T47 l0 a0).f4),.int .i64 ((rd_T47 l0 a0).f5)],.agg #[.int .i64 ((rd_T47 l1 a1).f0),.int .i64 ((rd_T47 l1 a1).f1),.int .i64 ((rd_T47 l1 a1).f2),.int .i64 ((rd_T47 l1 a1).f3),.int .i64 ((rd_T47 l1 a1).f4),.int .i64 ((rd_T47 l1 a1).f5)]] ?_
      with_reducible refine(spec_l31Close.calls ((rd_T47 l0 a0).f0) ((rd_T47 l0 a0).f1) ((rd_T47 l0 a0).f2) ((rd_T47 l0 a0).f3) ((rd_T47 l0 a0).f4) ((rd_T47 l0 a0).f5) ((rd_T47 l1 a1).f0) ((rd_T47 l1 a1).f1) ((rd_T47 l1 a1).f2) ((rd_T47 l1 a1).f3) ((rd_T47 l1 a1).f4) ((rd_T47 l1 a1).f5) true _ A8.out).mono ?_
      rintro e e6 ⟨rfl,hb⟩;refine⟨_,rfl,?_⟩;replace HB:=zE (zs0 HB) hb;(try clear hb);(try clear hb2);(try clear hk);(try clear hi);refine hK.out _ _ ⟨(zw HB hw374_0),(zw HB hw374_1),(zw HB hw374_2),(zw HB hw374_3),(zw HB hw374_4),(zw HB hw374_5),(zw HB hw375_0),(zw HB hw375_1),(zw HB hw375_2),(zw HB hw375_3),(zw HB hw375_4),(zw HB hw375_5)⟩ (fun hHeld=>?_);clear hK K;refine zN ?_;refine done_ (done_of HT_.out (by kernel_rfl)) ?_
      try go_wp2
      go_ret;exact⟨ze,zs0 HB⟩
     replace c9:=Bool.eq_false_iff.mpr c9;subst c9;rw[if_neg zfn]at H;have H':=zA H;clear H
     try go_wp2
     replace HB:=zA (below_drew1 HB.out);have b6:0≤(a0:Int):=za;have b7:a0<(l0.length:Int):=za;obtain⟨a2,d0,a4,a5,a6,a7,a8,a9⟩:=at_T47 d7.out a0 b6 b7;have hw374_5:=a9;have hw374_4:=a8;have hw374_3:=a7;have hw374_2:=a6;have hw374_1:=a5;have hw374_0:=a4;cases d0;replace a4:=zx HB a4;replace a5:=zx HB a5;replace a6:=zx HB a6;replace a7:=zx HB a7;replace a8:=zx HB a8;replace a9:=zx HB a9;replace b6:=eq_true b6;replace b7:=eq_true b7;have b8:0≤(a1:Int):=za;have b9:a1<(l1.length:Int):=za;obtain⟨a3,d1,b0,b1,b2,b3,b4,b5⟩:=at_T47 d8.out a1 b8 b9;have hw375_5:=b5;have hw375_4:=b4;have hw375_3:=b3;have hw375_2:=b2;have hw375_1:=b1;have hw375_0:=b0;cases d1;replace b0:=zx HB b0;replace b1:=zx HB b1;replace b2:=zx HB b2;replace b3:=zx HB b3;replace b4:=zx HB b4;replace b5:=zx HB b5;replace b8:=eq_true b8;replace b9:=eq_true b9;refine start_ (n:=9) (S:=fun w'=>w'.cell? (a2.add ((a0).toNat*6))=some (.int .i64 ((rd_T47 l0 a0).f0))∧w'.cell? ⟨(a2.add ((a0).toNat*6)).block,(a2.add ((a0).toNat*6)).off+1,none⟩=some (.int .i64 ((rd_T47 l0 a0).f1))∧w'.cell? ⟨(a2.add ((a0).toNat*6)).block,(a2.add ((a0).toNat*6)).off+2,none⟩=some (.int .i64 ((rd_T47 l0 a0).f2))∧w'.cell? ⟨(a2.add ((a0).toNat*6)).block,(a2.add ((a0).toNat*6)).off+3,none⟩=some (.int .i64 ((rd_T47 l0 a0).f3))∧w'.cell? ⟨(a2.add ((a0).toNat*6)).block,(a2.add ((a0).toNat*6)).off+4,none⟩=some (.int .i64 ((rd_T47 l0 a0).f4))∧w'.cell? ⟨(a2.add ((a0).toNat*6)).block,(a2.add ((a0).toNat*6)).off+5,none⟩=some (.int .i64 ((rd_T47 l0 a0).f5))∧w'.cell? (a3.add ((a1).toNat*6))=some (.int .i64 ((rd_T47 l1 a1).f0))∧w'.cell? ⟨(a3.add ((a1).toNat*6)).block,(a3.add ((a1).toNat*6)).off+1,none⟩=some (.int .i64 ((rd_T47 l1 a1).f1))∧w'.cell? ⟨(a3.add ((a1).toNat*6)).block,(a3.add ((a1).toNat*6)).off+2,none⟩=some (.int .i64 ((rd_T47 l1 a1).f2))∧w'.cell? ⟨(a3.add ((a1).toNat*6)).block,(a3.add ((a1).toNat*6)).off+3,none⟩=some (.int .i64 ((rd_T47 l1 a1).f3))∧w'.cell? ⟨(a3.add ((a1).toNat*6)).block,(a3.add ((a1).toNat*6)).off+4,none⟩=some (.int .i64 ((rd_T47 l1 a1).f4))∧w'.cell? ⟨(a3.add ((a1).toNat*6)).block,(a3.add ((a1).toNat*6)).off+5,none⟩=some (.int .i64 ((rd_T47 l1 a1).f5))) (ds:=[]) #[F,F,F,F,F,F,F,F,F] (by kernel_rfl) rfl rfl ⟨(zw HB hw374_0),(zw HB hw374_1),(zw HB hw374_2),(zw HB hw374_3),(zw HB hw374_4),(zw HB hw374_5),(zw HB hw375_0),(zw HB hw375_1),(zw HB hw375_2),(zw HB hw375_3),(zw HB hw375_4),(zw HB hw375_5)⟩ (fun hHeld=>?_);refine with_tabW spec_HandNear.tab7 spec_HandNear.bits7 (fun HT_ HW_=>?_);generalize wr.drew=e7 at HB a4 a5 a6 a7 a8 a9 b0 b1 b2 b3 b4 b5 hHeld⊢;refine zq HT_ 0 ?_;refine zq HT_ 1 ?_;refine zq HT_ 2 ?_;refine zq HT_ 4 ?_;refine zq HT_ 5 ?_;refine zq HT_ 6 ?_;refine zk12 HT_ HW_ hHeld 3 ?_;refine zk12 HT_ HW_ hHeld 7 ?_;refine zo HT_ 8 (fun K hK=>?_);refine zgo Try.func32 #[.agg #[.int .i64 ((rd_T47 l0 a0).f0),.int .i64 ((rd_T47 l0 a0).f1),.int .i64 ((rd_T47 l0 a0).f2),.int .i64 ((rd_T47 l0 a0).f3),.int .i64 ((rd_T47 l0 a0).f4),.int .i64 ((rd_T47 l0 a0).f5)],.agg #[.int .i64 ((rd_T47 l1 a1).f0),.int .i64 ((rd_T47 l1 a1).f1),.int .i64 ((rd_T47 l1 a1).f2),.int .i64 ((rd_T47 l1 a1).f3),.int .i64 ((rd_T47 l1 a1).f4),.int .i64 ((rd_T47 l1 a1).f5)]] ?_
     with_reducible refine(spec_l31Close.calls ((rd_T47 l0 a0).f0) ((rd_T47 l0 a0).f1) ((rd_T47 l0 a0).f2) ((rd_T47 l0 a0).f3) ((rd_T47 l0 a0).f4) ((rd_T47 l0 a0).f5) ((rd_T47 l1 a1).f0) ((rd_T47 l1 a1).f1) ((rd_T47 l1 a1).f2) ((rd_T47 l1 a1).f3) ((rd_T47 l1 a1).f4) ((rd_T47 l1 a1).f5) false _ A8.out).mono ?_
     rintro e e8 ⟨rfl,hb⟩;refine⟨_,rfl,?_⟩;replace HB:=zE (zs0 HB) hb;(try clear hb);(try clear hb2);(try clear hk);(try clear hi);refine hK.out _ _ ⟨(zw HB hw374_0),(zw HB hw374_1),(zw HB hw374_2),(zw HB hw374_3),(zw HB hw374_4),(zw HB hw374_5),(zw HB hw375_0),(zw HB hw375_1),(zw HB hw375_2),(zw HB hw375_3),(zw HB hw375_4),(zw HB hw375_5)⟩ (fun hHeld=>?_);clear hK K;refine zN ?_;refine done_ (done_of HT_.out (by kernel_rfl)) ?_
     try go_wp2
     go_roundg k2
     case measure=>have:=d3.out;have:=d4.out;omega
     case rel=>exact⟨(wrap64 (a1+1)),zi,H',⟨by have:=d3.out;have:=d4.out;omega⟩,⟨zs0 HB⟩⟩
end Go.Proofs.Ytmdmfldpohaegaa.QFnHandWho
