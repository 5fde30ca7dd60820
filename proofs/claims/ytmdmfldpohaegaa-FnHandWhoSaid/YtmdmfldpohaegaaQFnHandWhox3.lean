/- The walk of what the law FnHandWho reaches: laid by a program of this session (ownprint.py). -/
import Derived.Test.YtmdmfldpohaegaaQFnHandWhox0
import Derived.Test.YtmdmfldpohaegaaQFnHandWhox2
namespace Go.Proofs.Ytmdmfldpohaegaa.QFnHandWho
open Go.RowKit Go.Proofs.YtmdmfldpohaegaaW.PrintWords Go.Proofs.YtmdmfldpohaegaaW.PrintLast Go.Proofs.YtmdmfldpohaegaaW.PrintMore Go.Proofs.Ytmdmfldpohaegaa.Z
attribute [local go_sem] max2_int min2_int max_two min_two max_three min_three max_four min_four zdn   -- for this text's walks alone
set_option linter.unusedVariables false
set_option linter.unusedSimpArgs false
def spec_l31NameOk.l0:Nat→ByteArray→Int→Option (Bool)
 |0,_,_=>none
 |k+1,x0,x3=>if x3<(x0.size:Int)then(if 0≤x3 then(if(bt x0 x3)≥97 then(if(bt x0 x3)≤122 then(spec_l31NameOk.l0 k x0 (wrap64 (x3+1)))else(if(bt x0 x3)≥48 then(if(bt x0 x3)≤57 then(spec_l31NameOk.l0 k x0 (wrap64 (x3+1)))else(if((bt x0 x3)=45)then(spec_l31NameOk.l0 k x0 (wrap64 (x3+1)))else(some false)))else(if((bt x0 x3)=45)then(spec_l31NameOk.l0 k x0 (wrap64 (x3+1)))else(some false))))else(if(bt x0 x3)≥48 then(if(bt x0 x3)≤57 then(spec_l31NameOk.l0 k x0 (wrap64 (x3+1)))else(if((bt x0 x3)=45)then(spec_l31NameOk.l0 k x0 (wrap64 (x3+1)))else(some false)))else(if((bt x0 x3)=45)then(spec_l31NameOk.l0 k x0 (wrap64 (x3+1)))else(some false))))else(none))else(some true)
def spec_l31NameOk.f (k:Nat) (a0:ByteArray):Option (Bool):=(spec_l31In.f (a0.size:Int) 1 8).bind fun a1=>(if a1=true then(spec_l31NameOk.l0 k a0 0)else(some false))
set_option maxHeartbeats 8000000 in
set_option maxRecDepth 100000 in
theorem spec_l31NameOk.calls (k:Nat) (a0:ByteArray) (r:Bool) (w:World) (h:spec_l31NameOk.f k a0=some r):
 Calls Try.prog 29 #[.string a0] w fun e w'=>e= .returned (.bool r)∧Drawn0 w w':=by
 have H:=h;clear h;unfold spec_l31NameOk.f at H;replace H:=zbd H;obtain⟨c1,A2,H⟩:=H
 by_cases c3:c1=true
 rotate_left
 ·replace c3:=Bool.eq_false_iff.mpr c3
  subst c3;rw[if_neg zfn]at H;obtain rfl:=Option.some.inj H
  go_enter Try.func29,Try.ntmps29
  go_wp2_with (first|((with_reducible refine gate_callee (f:=24) rfl ?_);refine zgl (N:=some 7) Try.func24 #[.int .i64 (a0.size:Int),.int .i64 1,.int .i64 8] ?_;(with_reducible refine(spec_l31In.calls (a0.size:Int) 1 8 false _ A2.out).mono ?_);rintro e w' ⟨rfl,⟨nd,rfl⟩⟩;refine⟨_,rfl,?_⟩))
  go_ret;exact⟨by first|rfl|(simp;done)|(simp[*];done),by repeat(first|exact Drawn0.refl _|apply Drawn0.step)⟩
 subst c3;rw[if_pos rfl]at H;have H':=zA H;clear H
 go_enter Try.func29,Try.ntmps29
 go_wp2_with (first|((with_reducible refine gate_callee (f:=24) rfl ?_);refine zgl (N:=some 7) Try.func24 #[.int .i64 (a0.size:Int),.int .i64 1,.int .i64 8] ?_;(with_reducible refine(spec_l31In.calls (a0.size:Int) 1 8 true _ A2.out).mono ?_);rintro e w' ⟨rfl,⟨nd,rfl⟩⟩;refine⟨_,rfl,?_⟩))
 go_loopg [3] k (fun kq v3 w'=> ∃(a1:Int),v3= .int .i64 a1∧Aside0 (spec_l31NameOk.l0 kq a0 a1=some r)∧Aside0 (kq≤k)∧Drawn0 w w')
 case atStart=>exact⟨(0),zi,H',⟨Nat.le_refl _⟩,by repeat(first|exact Drawn0.refl _|apply Drawn0.step)⟩
 case round=>
  clear H'
  try clear c2
  try clear p2
  try clear c3
  obtain⟨a1,rfl,HA,a2,⟨m1,rfl⟩⟩:=hrel
  cases gk with
  |zero=>exact absurd HA.out (by simp[spec_l31NameOk.l0])
  |succ k1=>
   have H:=HA.out;clear HA;simp only[spec_l31NameOk.l0]at H
   by_cases c4:a1<(a0.size:Int)
   rotate_left
   ·rw[if_neg c4]at H
    have d0:decide (a1<(a0.size:Int))=false:=decide_eq_false c4;clear c4;obtain rfl:=Option.some.inj H
    go_wp2
    go_ret;exact⟨by first|rfl|(simp;done)|(simp[*];done),by repeat(first|exact Drawn0.refl _|apply Drawn0.step)⟩
   rw[if_pos c4]at H;have d0:decide (a1<(a0.size:Int))=true:=decide_eq_true c4;clear c4;replace H:=zif H;obtain⟨d4,H⟩:=H
   by_cases c7:(bt a0 a1)≥97
   rotate_left
   ·rw[if_neg c7]at H
    have d1:decide (97≤(bt a0 a1))=false:=decide_eq_false c7;clear c7
    by_cases a8:(bt a0 a1)≥48
    rotate_left
    ·rw[if_neg a8]at H
     have b0:decide (48≤(bt a0 a1))=false:=decide_eq_false a8;clear a8
     by_cases a4:((bt a0 a1)=45)
     rotate_left
     ·rw[if_neg a4]at H
      have b1:((bt a0 a1)==45)=false:=beq_eq_false_iff_ne.mpr a4;have b2:((bt a0 a1) !=45)=true:=bne_iff_ne.mpr a4;obtain rfl:=Option.some.inj H;have p6:0≤(a1:Int):=za;have q6:a1<(a0.size:Int):=za;have a3:=bt_at a0 a1;replace p6:=eq_true p6;replace q6:=eq_true q6
      go_wp2
      go_ret;exact⟨by first|rfl|(simp;done)|(simp[*];done),by repeat(first|exact Drawn0.refl _|apply Drawn0.step)⟩
     rw[if_pos a4]at H;have b1:((bt a0 a1)==45)=true:=beq_iff_eq.mpr a4;have b2:((bt a0 a1) !=45)=false:=bne_eq_false_iff_eq.mpr a4;clear a4;have H':=zA H;clear H;have p6:0≤(a1:Int):=za;have q6:a1<(a0.size:Int):=za;have a3:=bt_at a0 a1;replace p6:=eq_true p6;replace q6:=eq_true q6
     go_wp2
     go_roundg k1
     case measure=>have:=a2.out;omega
     case rel=>exact⟨(wrap64 (a1+1)),zi,H',⟨by have:=a2.out;omega⟩,by repeat(first|exact Drawn0.refl _|apply Drawn0.step)⟩
    rw[if_pos a8]at H;have b0:decide (48≤(bt a0 a1))=true:=decide_eq_true a8;clear a8
    by_cases a9:(bt a0 a1)≤57
    ·rw[if_pos a9]at H
     have b3:decide ((bt a0 a1)≤57)=true:=decide_eq_true a9;clear a9;have H':=zA H;clear H;have p6:0≤(a1:Int):=za;have q6:a1<(a0.size:Int):=za;have a3:=bt_at a0 a1;replace p6:=eq_true p6;replace q6:=eq_true q6
     go_wp2
     go_roundg k1
     case measure=>have:=a2.out;omega
     case rel=>exact⟨(wrap64 (a1+1)),zi,H',⟨by have:=a2.out;omega⟩,by repeat(first|exact Drawn0.refl _|apply Drawn0.step)⟩
    rw[if_neg a9]at H;have b3:decide ((bt a0 a1)≤57)=false:=decide_eq_false a9;clear a9
    by_cases a5:((bt a0 a1)=45)
    rotate_left
    ·rw[if_neg a5]at H
     have b4:((bt a0 a1)==45)=false:=beq_eq_false_iff_ne.mpr a5;have b5:((bt a0 a1) !=45)=true:=bne_iff_ne.mpr a5;obtain rfl:=Option.some.inj H;have p6:0≤(a1:Int):=za;have q6:a1<(a0.size:Int):=za;have a3:=bt_at a0 a1;replace p6:=eq_true p6;replace q6:=eq_true q6
     go_wp2
     go_ret;exact⟨by first|rfl|(simp;done)|(simp[*];done),by repeat(first|exact Drawn0.refl _|apply Drawn0.step)⟩
    rw[if_pos a5]at H;have b4:((bt a0 a1)==45)=true:=beq_iff_eq.mpr a5;have b5:((bt a0 a1) !=45)=false:=bne_eq_false_iff_eq.mpr a5;clear a5;have H':=zA H;clear H;have p6:0≤(a1:Int):=za;have q6:a1<(a0.size:Int):=za;have a3:=bt_at a0 a1;replace p6:=eq_true p6;replace q6:=eq_true q6
    go_wp2
    go_roundg k1
    case measure=>have:=a2.out;omega
    case rel=>exact⟨(wrap64 (a1+1)),zi,H',⟨by have:=a2.out;omega⟩,by repeat(first|exact Drawn0.refl _|apply Drawn0.step)⟩
   rw[if_pos c7]at H;have d1:decide (97≤(bt a0 a1))=true:=decide_eq_true c7;clear c7
   by_cases c8:(bt a0 a1)≤122
   ·rw[if_pos c8]at H
    have d2:decide ((bt a0 a1)≤122)=true:=decide_eq_true c8;clear c8;have H':=zA H;clear H;have p6:0≤(a1:Int):=za;have q6:a1<(a0.size:Int):=za;have a3:=bt_at a0 a1;replace p6:=eq_true p6;replace q6:=eq_true q6
    go_wp2
    go_roundg k1
    case measure=>have:=a2.out;omega
    case rel=>exact⟨(wrap64 (a1+1)),zi,H',⟨by have:=a2.out;omega⟩,by repeat(first|exact Drawn0.refl _|apply Drawn0.step)⟩
   rw[if_neg c8]at H;have d2:decide ((bt a0 a1)≤122)=false:=decide_eq_false c8;clear c8
   by_cases c9:(bt a0 a1)≥48
   rotate_left
   ·rw[if_neg c9]at H
    have d3:decide (48≤(bt a0 a1))=false:=decide_eq_false c9;clear c9
    by_cases a6:((bt a0 a1)=45)
    rotate_left
    ·rw[if_neg a6]at H
     have b6:((bt a0 a1)==45)=false:=beq_eq_false_iff_ne.mpr a6;have b7:((bt a0 a1) !=45)=true:=bne_iff_ne.mpr a6;obtain rfl:=Option.some.inj H;have p6:0≤(a1:Int):=za;have q6:a1<(a0.size:Int):=za;have a3:=bt_at a0 a1;replace p6:=eq_true p6;replace q6:=eq_true q6
     go_wp2
     go_ret;exact⟨by first|rfl|(simp;done)|(simp[*];done),by repeat(first|exact Drawn0.refl _|apply Drawn0.step)⟩
    rw[if_pos a6]at H;have b6:((bt a0 a1)==45)=true:=beq_iff_eq.mpr a6;have b7:((bt a0 a1) !=45)=false:=bne_eq_false_iff_eq.mpr a6;clear a6;have H':=zA H;clear H;have p6:0≤(a1:Int):=za;have q6:a1<(a0.size:Int):=za;have a3:=bt_at a0 a1;replace p6:=eq_true p6;replace q6:=eq_true q6
    go_wp2
    go_roundg k1
    case measure=>have:=a2.out;omega
    case rel=>exact⟨(wrap64 (a1+1)),zi,H',⟨by have:=a2.out;omega⟩,by repeat(first|exact Drawn0.refl _|apply Drawn0.step)⟩
   rw[if_pos c9]at H;have d3:decide (48≤(bt a0 a1))=true:=decide_eq_true c9;clear c9
   by_cases c10:(bt a0 a1)≤57
   ·rw[if_pos c10]at H
    have b8:decide ((bt a0 a1)≤57)=true:=decide_eq_true c10;clear c10;have H':=zA H;clear H;have p6:0≤(a1:Int):=za;have q6:a1<(a0.size:Int):=za;have a3:=bt_at a0 a1;replace p6:=eq_true p6;replace q6:=eq_true q6
    go_wp2
    go_roundg k1
    case measure=>have:=a2.out;omega
    case rel=>exact⟨(wrap64 (a1+1)),zi,H',⟨by have:=a2.out;omega⟩,by repeat(first|exact Drawn0.refl _|apply Drawn0.step)⟩
   rw[if_neg c10]at H;have b8:decide ((bt a0 a1)≤57)=false:=decide_eq_false c10;clear c10
   by_cases a7:((bt a0 a1)=45)
   rotate_left
   ·rw[if_neg a7]at H
    have b9:((bt a0 a1)==45)=false:=beq_eq_false_iff_ne.mpr a7;have c0:((bt a0 a1) !=45)=true:=bne_iff_ne.mpr a7;obtain rfl:=Option.some.inj H;have p6:0≤(a1:Int):=za;have q6:a1<(a0.size:Int):=za;have a3:=bt_at a0 a1;replace p6:=eq_true p6;replace q6:=eq_true q6
    go_wp2
    go_ret;exact⟨by first|rfl|(simp;done)|(simp[*];done),by repeat(first|exact Drawn0.refl _|apply Drawn0.step)⟩
   rw[if_pos a7]at H;have b9:((bt a0 a1)==45)=true:=beq_iff_eq.mpr a7;have c0:((bt a0 a1) !=45)=false:=bne_eq_false_iff_eq.mpr a7;clear a7;have H':=zA H;clear H;have p6:0≤(a1:Int):=za;have q6:a1<(a0.size:Int):=za;have a3:=bt_at a0 a1;replace p6:=eq_true p6;replace q6:=eq_true q6
   go_wp2
   go_roundg k1
   case measure=>have:=a2.out;omega
   case rel=>exact⟨(wrap64 (a1+1)),zi,H',⟨by have:=a2.out;omega⟩,by repeat(first|exact Drawn0.refl _|apply Drawn0.step)⟩
end Go.Proofs.Ytmdmfldpohaegaa.QFnHandWho
