/- The walk of what the law FnHandWho reaches: laid by a program of this session (ownprint.py). -/
import Derived.Test.YtmdmfldpohaegaaQFnHandWhox0
import Derived.Test.YtmdmfldpohaegaaQFnHandWhox2
import Derived.Test.YtmdmfldpohaegaaQFnHandWhox4
import Derived.Test.YtmdmfldpohaegaaQFnHandWhox5
namespace Go.Proofs.Ytmdmfldpohaegaa.QFnHandWho
open Go.RowKit Go.Proofs.YtmdmfldpohaegaaW.PrintWords Go.Proofs.YtmdmfldpohaegaaW.PrintLast Go.Proofs.YtmdmfldpohaegaaW.PrintMore Go.Proofs.Ytmdmfldpohaegaa.Z
attribute [local go_sem] max2_int min2_int max_two min_two max_three min_three max_four min_four zdn   -- for this text's walks alone
set_option linter.unusedVariables false
set_option linter.unusedSimpArgs false
mutual
def spec_HandTubeOk.j0:Nat→List (S34)→List (S47)→Bool→Option (Bool)
 |0,_,_,_=>none
 |k+1,x0,x1,x16=>if x16=true then(some false)else(spec_HandTubeOk.l0 k x0 x1 0)
def spec_HandTubeOk.l0:Nat→List (S34)→List (S47)→Int→Option (Bool)
 |0,_,_,_=>none
 |k+1,x0,x1,x5=>if x5<(x1.length:Int)then(spec_HandTubeOk.l1 k x0 x1 x5 false 0)else(some true)
def spec_HandTubeOk.l1:Nat→List (S34)→List (S47)→Int→Bool→Int→Option (Bool)
 |0,_,_,_,_,_=>none
 |k+1,x0,x1,x5,x6,x7=>if x7<(x0.length:Int)then(if x6=true then(spec_HandTubeOk.l1 k x0 x1 x5 true (wrap64 (x7+1)))else(if 0≤x7 then(if 0≤x5 then(if x5<(x1.length:Int)then((spec_l31Over.f ((rd_T34 x0 x7).f0) ((rd_T34 x0 x7).f1) ((rd_T34 x0 x7).f2) ((rd_T34 x0 x7).f3) ((rd_T34 x0 x7).f4) ((rd_T47 x1 x5).f0) ((rd_T47 x1 x5).f1) ((rd_T47 x1 x5).f2) ((rd_T47 x1 x5).f3) ((rd_T47 x1 x5).f4) ((rd_T47 x1 x5).f5)).bind fun a0=>(spec_HandTubeOk.l1 k x0 x1 x5 a0 (wrap64 (x7+1))))else(none))else(none))else(none)))else(if x6=true then(if 0≤x5 then(if x5<(x1.length:Int)then((spec_l31BoxOk.f ((rd_T47 x1 x5).f0) ((rd_T47 x1 x5).f1) ((rd_T47 x1 x5).f2) ((rd_T47 x1 x5).f3) ((rd_T47 x1 x5).f4) ((rd_T47 x1 x5).f5)).bind fun a1=>(if a1=true then(spec_HandTubeOk.l0 k x0 x1 (wrap64 (x5+1)))else(some false)))else(none))else(none))else(some false))
end
def spec_HandTubeOk.f (k:Nat) (l0:List (S34)) (l1:List (S47)):Option (Bool):=(spec_HandZonesOk.f k l0).bind fun a0=>(if a0=true then((spec_l31In.f (l1.length:Int) 1 20).bind fun a1=>(spec_HandTubeOk.j0 k l0 l1 (!a1)))else(spec_HandTubeOk.j0 k l0 l1 true))
def spec_HandTubeOk.T10:Bool×List (List Nat×List Nat):=(true,[([],[]),([0],[0]),([1],[1]),([1],[1]),([2,3,1],[1,2,3]),([4,1],[1,4]),([1],[1]),([1],[1]),([6,7,1],[1,6,7]),([8,1],[1,8]),([5,9,1,1],[1,5,9]),([1,10],[1,10]),([11,10,0,1,2,3,4,5,6,7,8,9,10,11],[0,11])])
def spec_HandTubeOk.B10:List Nat:=[0,1,3,3,15,31,3,3,195,451,1023,2047,4095]
theorem spec_HandTubeOk.tab10:rtab .any (opsOf Try.f6 10)=spec_HandTubeOk.T10:=by kernel_rfl
theorem spec_HandTubeOk.bits10:waitsOk spec_HandTubeOk.T10.2 spec_HandTubeOk.B10=true:=by kernel_rfl
set_option maxHeartbeats 8000000 in
set_option maxRecDepth 100000 in
theorem spec_HandTubeOk.calls (k:Nat) (A0:Option Addr) (c0:Nat) (l0:List (S34)) (A1:Option Addr) (c1:Nat) (l1:List (S47)) (r:Bool) (w:World) (hr0:Kd.C k34 w A0 l0.length l0) (hc0:l0.length≤c0) (hr1:Kd.C k47 w A1 l1.length l1) (hc1:l1.length≤c1) (h:spec_HandTubeOk.f k l0 l1=some r):
 Calls Try.prog 6 #[.slice A0 l0.length c0,.slice A1 l1.length c1] w fun e w'=>e= .returned (.bool r)∧Below w.heap.size w w':=by
 have h5:=Try.underlying34;have h6:=Try.underlying47;have g0:=zA hr0;have g7:=zA hc0;clear hr0 hc0;have g1:=zA hr1;have h9:=zA hc1;clear hr1 hc1;have HB:=zA (Below.refl w.heap.size w);have H:=h;clear h;unfold spec_HandTubeOk.f at H;have g2:=zA H;clear H
 go_enter Try.func6,Try.ntmps6
 go_upto_region 1 with(fail)
 go_cut [16] (fun h7 wc=> ∃(kq:Nat) (d3:Bool),h7= .bool d3∧Aside0 (spec_HandTubeOk.j0 kq l0 l1 d3=some r)∧Aside0 (kq≤k)∧Aside0 (Below w.heap.size w wc))
 case first=>
  have H:=g2.out;clear g2;replace H:=zbd H;obtain⟨g3,A4,H⟩:=H
  by_cases c5:g3=true
  rotate_left
  ·replace c5:=Bool.eq_false_iff.mpr c5
   subst c5;rw[if_neg zfn]at H;have H':=zA H;clear H
   go_wp2_with (first|((with_reducible refine gate_callee (f:=8) rfl ?_);refine zgl (N:=some 9) Try.func8 #[.slice A0 l0.length c0] ?_;(with_reducible refine(spec_HandZonesOk.calls k _ _ l0 false _ ?side1 ?side2 A4.out).mono ?_);(case side1=>exact zC g0 HB);(case side2=>exact g7.out);rintro e w8 ⟨rfl,hb⟩;refine⟨_,rfl,?_⟩;replace HB:=zE (zs0 HB) hb;(try clear hb);(try clear hb2);(try clear hk);(try clear hi)))
   go_meet
   case rel=>exact⟨_,(true),zi,H',⟨by first|omega|exact Nat.le_refl _⟩,⟨zs0 HB⟩⟩
  subst c5;rw[if_pos rfl]at H;replace H:=zbd H;obtain⟨e5,A6,H⟩:=H;have H':=zA H;clear H
  go_wp2_with (first|((with_reducible refine gate_callee (f:=8) rfl ?_);refine zgl (N:=some 9) Try.func8 #[.slice A0 l0.length c0] ?_;(with_reducible refine(spec_HandZonesOk.calls k _ _ l0 true _ ?side1 ?side2 A4.out).mono ?_);(case side1=>exact zC g0 HB);(case side2=>exact g7.out);rintro e w7 ⟨rfl,hb⟩;refine⟨_,rfl,?_⟩;replace HB:=zE (zs0 HB) hb;(try clear hb);(try clear hb2);(try clear hk);(try clear hi))|(go_at_call 24;(with_reducible refine(spec_l31In.calls (l1.length:Int) 1 20 e5 _ A6.out).mono ?_);rintro e w' ⟨rfl,⟨nd,rfl⟩⟩))
  go_meet
  case rel=>exact⟨_,(!e5),zi,H',⟨by first|omega|exact Nat.le_refl _⟩,⟨zs0 HB⟩⟩
 case rest=>
  clear g2
  try clear c1
  try clear p2
  try clear c5
  try clear c6
  try clear c8
  obtain⟨kq,d3,rfl,HA,e1,HB⟩:=hcut
  cases kq with
  |zero=>exact absurd HA.out (by simp[spec_HandTubeOk.j0])
  |succ g8=>
   have H:=HA.out;clear HA;simp only[spec_HandTubeOk.j0]at H
   by_cases c9:d3=true
   ·subst c9
    rw[if_pos rfl]at H;obtain rfl:=Option.some.inj H
    go_wp2
    go_ret;exact⟨ze,zs0 HB⟩
   replace c9:=Bool.eq_false_iff.mpr c9;subst c9;rw[if_neg zfn]at H;have H':=zA H;clear H
   go_wp2
   go_loopg [5] g8 (fun kq v5 w'=> ∃(a0:Int),v5= .int .i64 a0∧Aside0 (spec_HandTubeOk.l0 kq l0 l1 a0=some r)∧Aside0 (kq≤g8)∧Aside0 (Below w.heap.size w w'))
   case atStart=>exact⟨(0),zi,H',⟨Nat.le_refl _⟩,⟨zs0 HB⟩⟩
   case round=>
    clear H'
    try clear c1
    try clear p2
    try clear c5
    try clear c6
    try clear c8
    try clear c9
    try clear p2
    obtain⟨a0,rfl,HA,e2,HB⟩:=hrel
    cases gk with
    |zero=>exact absurd HA.out (by simp[spec_HandTubeOk.l0])
    |succ k2=>
     have H:=HA.out;clear HA;simp only[spec_HandTubeOk.l0]at H
     by_cases c10:a0<(l1.length:Int)
     rotate_left
     ·rw[if_neg c10]at H
      have d5:decide (a0<(l1.length:Int))=false:=decide_eq_false c10;clear c10;obtain rfl:=Option.some.inj H
      go_wp2
      go_ret;exact⟨ze,zs0 HB⟩
     rw[if_pos c10]at H;have d5:decide (a0<(l1.length:Int))=true:=decide_eq_true c10;clear c10;have H':=zA H;clear H
     go_wp2
     go_loopg [6,7] k2 (fun kq v6 v7 w'=> ∃(d4:Bool) (a1:Int),v6= .bool d4∧v7= .int .i64 a1∧Aside0 (spec_HandTubeOk.l1 kq l0 l1 a0 d4 a1=some r)∧Aside0 (kq≤k2)∧Aside0 (Below w.heap.size w w'))
     case atStart=>exact⟨(false),(0),zi,zi,H',⟨Nat.le_refl _⟩,⟨zs0 HB⟩⟩
     case round=>
      clear H'
      try clear c1
      try clear p2
      try clear c5
      try clear c6
      try clear c8
      try clear c9
      try clear c10
      try clear d5
      try clear p2
      obtain⟨d4,a1,rfl,rfl,HA,e3,HB⟩:=hrel
      cases gk with
      |zero=>exact absurd HA.out (by simp[spec_HandTubeOk.l1])
      |succ k3=>
       have H:=HA.out;clear HA;simp only[spec_HandTubeOk.l1]at H
       by_cases e4:a1<(l0.length:Int)
       rotate_left
       ·rw[if_neg e4]at H
        have e6:decide (a1<(l0.length:Int))=false:=decide_eq_false e4;clear e4
        by_cases e9:d4=true
        rotate_left
        ·replace e9:=Bool.eq_false_iff.mpr e9
         subst e9;rw[if_neg zfn]at H;obtain rfl:=Option.some.inj H
         go_wp2
         go_ret;exact⟨ze,zs0 HB⟩
        subst e9;rw[if_pos rfl]at H;replace H:=zif H;obtain⟨g9,H⟩:=H
        by_cases f6:a0<(l1.length:Int)
        rotate_left
        ·rw[if_neg f6]at H
         exact absurd H (by simp)
        rw[if_pos f6]at H;have h0:decide (a0<(l1.length:Int))=true:=decide_eq_true f6;clear f6;replace H:=zbd H;obtain⟨g4,h1,H⟩:=H
        by_cases f7:g4=true
        rotate_left
        ·replace f7:=Bool.eq_false_iff.mpr f7
         subst f7;rw[if_neg zfn]at H;obtain rfl:=Option.some.inj H;have d1:0≤(a0:Int):=za;have d2:a0<(l1.length:Int):=za;obtain⟨e7,d6,a3,a4,a5,a6,a7,a8⟩:=at_T47 g1.out a0 d1 d2;cases d6;replace a3:=zx HB a3;replace a4:=zx HB a4;replace a5:=zx HB a5;replace a6:=zx HB a6;replace a7:=zx HB a7;replace a8:=zx HB a8;replace d1:=eq_true d1;replace d2:=eq_true d2
         go_wp2_with (first|(go_at_call 26;(with_reducible refine(spec_l31BoxOk.calls ((rd_T47 l1 a0).f0) ((rd_T47 l1 a0).f1) ((rd_T47 l1 a0).f2) ((rd_T47 l1 a0).f3) ((rd_T47 l1 a0).f4) ((rd_T47 l1 a0).f5) false _ h1.out).mono ?_);rintro e i0 ⟨rfl,hb⟩;replace HB:=zE (zs0 HB) hb;(try clear hb);(try clear hb2);(try clear hk);(try clear hi)))
         go_ret;exact⟨ze,zs0 HB⟩
        subst f7;rw[if_pos rfl]at H;have H':=zA H;clear H;have d1:0≤(a0:Int):=za;have d2:a0<(l1.length:Int):=za;obtain⟨e7,d6,a3,a4,a5,a6,a7,a8⟩:=at_T47 g1.out a0 d1 d2;cases d6;replace a3:=zx HB a3;replace a4:=zx HB a4;replace a5:=zx HB a5;replace a6:=zx HB a6;replace a7:=zx HB a7;replace a8:=zx HB a8;replace d1:=eq_true d1;replace d2:=eq_true d2
        go_wp2_with (first|(go_at_call 26;(with_reducible refine(spec_l31BoxOk.calls ((rd_T47 l1 a0).f0) ((rd_T47 l1 a0).f1) ((rd_T47 l1 a0).f2) ((rd_T47 l1 a0).f3) ((rd_T47 l1 a0).f4) ((rd_T47 l1 a0).f5) true _ h1.out).mono ?_);rintro e i1 ⟨rfl,hb⟩;replace HB:=zE (zs0 HB) hb;(try clear hb);(try clear hb2);(try clear hk);(try clear hi)))
        go_roundg k3
        case measure=>have:=e1.out;have:=e2.out;have:=e3.out;omega
        case rel=>exact⟨(wrap64 (a0+1)),zi,H',⟨by have:=e1.out;have:=e2.out;have:=e3.out;omega⟩,⟨zs0 HB⟩⟩
       rw[if_pos e4]at H;have e6:decide (a1<(l0.length:Int))=true:=decide_eq_true e4;clear e4
       by_cases f8:d4=true
       ·subst f8
        rw[if_pos rfl]at H;have H':=zA H;clear H
        try go_wp2
        replace HB:=zA (below_drew1 HB.out);refine start_ (n:=13) (S:=fun w'=>True) (ds:=[]) #[F,F,F,F,F,F,F,F,F,F,F,F,F] (by kernel_rfl) rfl rfl trivial (fun hHeld=>?_);refine with_tabW spec_HandTubeOk.tab10 spec_HandTubeOk.bits10 (fun HT_ HW_=>?_);generalize wr.drew=i2 at HB hHeld⊢;refine zq HT_ 0 ?_;refine zq HT_ 1 ?_;refine zu HT_ 2 ?_;refine zu HT_ 3 ?_;refine zu HT_ 4 ?_;refine zu HT_ 5 ?_;refine zu HT_ 6 ?_;refine zu HT_ 7 ?_;refine zu HT_ 8 ?_;refine zu HT_ 9 ?_;refine zu HT_ 10 ?_;refine zq HT_ 11 ?_;refine zq HT_ 12 ?_;refine done_ (done_of HT_.out (by kernel_rfl)) ?_
        try go_wp2
        go_roundg k3
        case measure=>have:=e1.out;have:=e2.out;have:=e3.out;omega
        case rel=>exact⟨(true),(wrap64 (a1+1)),zi,zi,H',⟨by have:=e1.out;have:=e2.out;have:=e3.out;omega⟩,⟨zs0 HB⟩⟩
       replace f8:=Bool.eq_false_iff.mpr f8;subst f8;rw[if_neg zfn]at H;replace H:=zif H;obtain⟨h2,H⟩:=H
       by_cases f9:0≤a0
       rotate_left
       ·rw[if_neg f9]at H
        exact absurd H (by simp)
       rw[if_pos f9]at H;have h3:decide (0≤a0)=true:=decide_eq_true f9;clear f9;replace H:=zif H;obtain⟨h4,H⟩:=H;replace H:=zbd H;obtain⟨e8,h8,H⟩:=H;have H':=zA H;clear H
       try go_wp2
       replace HB:=zA (below_drew1 HB.out);have d7:0≤(a1:Int):=za;have d8:a1<(l0.length:Int):=za;obtain⟨a9,g5,b0,b1,b2,b3,b4⟩:=at_T34 g0.out a1 d7 d8;have hw146_4:=b4;have hw146_3:=b3;have hw146_2:=b2;have hw146_1:=b1;have hw146_0:=b0;cases g5;replace b0:=zx HB b0;replace b1:=zx HB b1;replace b2:=zx HB b2;replace b3:=zx HB b3;replace b4:=zx HB b4;replace d7:=eq_true d7;replace d8:=eq_true d8;have d9:0≤(a0:Int):=za;have e0:a0<(l1.length:Int):=za;obtain⟨a2,g6,b5,b6,b7,b8,b9,d0⟩:=at_T47 g1.out a0 d9 e0;have hw147_5:=d0;have hw147_4:=b9;have hw147_3:=b8;have hw147_2:=b7;have hw147_1:=b6;have hw147_0:=b5;cases g6;replace b5:=zx HB b5;replace b6:=zx HB b6;replace b7:=zx HB b7;replace b8:=zx HB b8;replace b9:=zx HB b9;replace d0:=zx HB d0;replace d9:=eq_true d9;replace e0:=eq_true e0;refine start_ (n:=13) (S:=fun w'=>w'.cell? (a9.add ((a1).toNat*5))=some (.string ((rd_T34 l0 a1).f0))∧w'.cell? ⟨(a9.add ((a1).toNat*5)).block,(a9.add ((a1).toNat*5)).off+1,none⟩=some (.int .i64 ((rd_T34 l0 a1).f1))∧w'.cell? ⟨(a9.add ((a1).toNat*5)).block,(a9.add ((a1).toNat*5)).off+2,none⟩=some (.int .i64 ((rd_T34 l0 a1).f2))∧w'.cell? ⟨(a9.add ((a1).toNat*5)).block,(a9.add ((a1).toNat*5)).off+3,none⟩=some (.int .i64 ((rd_T34 l0 a1).f3))∧w'.cell? ⟨(a9.add ((a1).toNat*5)).block,(a9.add ((a1).toNat*5)).off+4,none⟩=some (.int .i64 ((rd_T34 l0 a1).f4))∧w'.cell? (a2.add ((a0).toNat*6))=some (.int .i64 ((rd_T47 l1 a0).f0))∧w'.cell? ⟨(a2.add ((a0).toNat*6)).block,(a2.add ((a0).toNat*6)).off+1,none⟩=some (.int .i64 ((rd_T47 l1 a0).f1))∧w'.cell? ⟨(a2.add ((a0).toNat*6)).block,(a2.add ((a0).toNat*6)).off+2,none⟩=some (.int .i64 ((rd_T47 l1 a0).f2))∧w'.cell? ⟨(a2.add ((a0).toNat*6)).block,(a2.add ((a0).toNat*6)).off+3,none⟩=some (.int .i64 ((rd_T47 l1 a0).f3))∧w'.cell? ⟨(a2.add ((a0).toNat*6)).block,(a2.add ((a0).toNat*6)).off+4,none⟩=some (.int .i64 ((rd_T47 l1 a0).f4))∧w'.cell? ⟨(a2.add ((a0).toNat*6)).block,(a2.add ((a0).toNat*6)).off+5,none⟩=some (.int .i64 ((rd_T47 l1 a0).f5))) (ds:=[]) #[F,F,F,F,F,F,F,F,F,F,F,F,F] (by kernel_rfl) rfl rfl ⟨(zw HB hw146_0),(zw HB hw146_1),(zw HB hw146_2),(zw HB hw146_3),(zw HB hw146_4),(zw HB hw147_0),(zw HB hw147_1),(zw HB hw147_2),(zw HB hw147_3),(zw HB hw147_4),(zw HB hw147_5)⟩ (fun hHeld=>?_);refine with_tabW spec_HandTubeOk.tab10 spec_HandTubeOk.bits10 (fun HT_ HW_=>?_);generalize wr.drew=i3 at HB b0 b1 b2 b3 b4 b5 b6 b7 b8 b9 d0 hHeld⊢;refine zq HT_ 0 ?_;refine zq HT_ 1 ?_;refine zq HT_ 2 ?_;refine zq HT_ 3 ?_;refine zq HT_ 4 ?_;refine zq HT_ 6 ?_;refine zq HT_ 7 ?_;refine zq HT_ 8 ?_;refine zk11 HT_ HW_ hHeld 5 ?_;refine zk11 HT_ HW_ hHeld 9 ?_;refine zo HT_ 10 (fun K hK=>?_);refine zgo Try.func25 #[.agg #[.string ((rd_T34 l0 a1).f0),.int .i64 ((rd_T34 l0 a1).f1),.int .i64 ((rd_T34 l0 a1).f2),.int .i64 ((rd_T34 l0 a1).f3),.int .i64 ((rd_T34 l0 a1).f4)],.agg #[.int .i64 ((rd_T47 l1 a0).f0),.int .i64 ((rd_T47 l1 a0).f1),.int .i64 ((rd_T47 l1 a0).f2),.int .i64 ((rd_T47 l1 a0).f3),.int .i64 ((rd_T47 l1 a0).f4),.int .i64 ((rd_T47 l1 a0).f5)]] ?_
       with_reducible refine(spec_l31Over.calls ((rd_T34 l0 a1).f0) ((rd_T34 l0 a1).f1) ((rd_T34 l0 a1).f2) ((rd_T34 l0 a1).f3) ((rd_T34 l0 a1).f4) ((rd_T47 l1 a0).f0) ((rd_T47 l1 a0).f1) ((rd_T47 l1 a0).f2) ((rd_T47 l1 a0).f3) ((rd_T47 l1 a0).f4) ((rd_T47 l1 a0).f5) e8 _ h8.out).mono ?_
       rintro e i4 ⟨rfl,hb⟩;refine⟨_,rfl,?_⟩;replace HB:=zE (zs0 HB) hb;(try clear hb);(try clear hb2);(try clear hk);(try clear hi);refine hK.out _ _ ⟨(zw HB hw146_0),(zw HB hw146_1),(zw HB hw146_2),(zw HB hw146_3),(zw HB hw146_4),(zw HB hw147_0),(zw HB hw147_1),(zw HB hw147_2),(zw HB hw147_3),(zw HB hw147_4),(zw HB hw147_5)⟩ (fun hHeld=>?_);clear hK K;refine zN ?_;refine zq HT_ 11 ?_;refine zq HT_ 12 ?_;refine done_ (done_of HT_.out (by kernel_rfl)) ?_
       try go_wp2
       go_roundg k3
       case measure=>have:=e1.out;have:=e2.out;have:=e3.out;omega
       case rel=>exact⟨(e8),(wrap64 (a1+1)),zi,zi,H',⟨by have:=e1.out;have:=e2.out;have:=e3.out;omega⟩,⟨zs0 HB⟩⟩
end Go.Proofs.Ytmdmfldpohaegaa.QFnHandWho
