/- The walk of what the law FnFlyNext reaches: laid by a program of this session (ownprint.py). -/
import Derived.Test.YtkecbmgdmkmfgaaQFnFlyNextx0
namespace Go.Proofs.Ytkecbmgdmkmfgaa.QFnFlyNext
open Go.RowKit Go.Proofs.YtkecbmgdmkmfgaaW.PrintWords Go.Proofs.YtkecbmgdmkmfgaaW.PrintLast Go.Proofs.YtkecbmgdmkmfgaaW.PrintMore Go.Proofs.Ytkecbmgdmkmfgaa.Z
attribute [local go_sem] max2_int min2_int max_two min_two max_three min_three max_four min_four zdn   -- for this text's walks alone
set_option linter.unusedVariables false
set_option linter.unusedSimpArgs false
/-- A state of type 56 at block g of W; what its slices lead to came in by w0. -/
def IsS56 (w0 W:World) (g:Nat) (f0:List Int) (f1:Int):Prop:= ∃A0 c0,W.heap[g]?=some (.cells #[.slice A0 f0.length c0,.int .i64 f1] 56 (0,0))∧w0.heap.size≤g∧Kd.C (Kd.int .u8) w0 A0 f0.length f0
theorem IsS56.grown {w0 W:World} {g:Nat} {f0:List Int} {f1:Int} {W1:World} {row:Option Nat} (h:IsS56 w0 W g f0 f1) (hw:W.grownBy W1 row) (hne:some g≠row):IsS56 w0 W1 g f0 f1:=by
 obtain⟨A0,c0,hb,hg,hr0⟩:=h;exact⟨A0,c0,blk_grown hb hw hne,hg,hr0⟩
theorem IsS56.own_neN {w0 W:World} {g:Nat} {f0:List Int} {f1:Int} {α:Type} {d:Kd α} {e:Nat} {base:Nat} {ok:Nat→Prop} {v:Value} {xs:List α} (h:IsS56 w0 W g f0 f1) (ho:Kd.N d e W base ok v xs) (ht:e≠56):some g≠v.ownBlock:=by
 obtain⟨A0,c0,hb,hg,hr0⟩:=h;exact Kd.N_ne ho hb ht
theorem IsS56.fresh {w0 W:World} {g:Nat} {f0:List Int} {f1:Int} (h:IsS56 w0 W g f0 f1): ∀k,W.heap.size≤k→k≠g:=by
 obtain⟨A0,c0,hb,hg,hr0⟩:=h;exact Kd.freshB hb
theorem IsS56.kept {w0 W:World} {g:Nat} {f0:List Int} {f1:Int} {W1:World} {S:Nat→Prop} (h:IsS56 w0 W g f0 f1) (hk:Kept W W1 S) (hne: ¬S g):IsS56 w0 W1 g f0 f1:=by
 obtain⟨A0,c0,hb,hg,hr0⟩:=h;exact⟨A0,c0,blk_kept hb hk hne,hg,hr0⟩
theorem IsS56.below {w0 W:World} {g:Nat} {f0:List Int} {f1:Int} {W1:World} (h:IsS56 w0 W g f0 f1) (hw:Below W.heap.size W W1):IsS56 w0 W1 g f0 f1:=h.grown (grown_of_below hw none) (by simp)
theorem IsS56.alloc {w0 W:World} {g:Nat} {f0:List Int} {f1:Int} (h:IsS56 w0 W g f0 f1) (o:Obj):IsS56 w0 (W.alloc o) g f0 f1:=h.below (below_alloc (Below.refl _ _) o)
theorem IsS56.drewN {w0 W:World} {g:Nat} {f0:List Int} {f1:Int} (h:IsS56 w0 W g f0 f1) (m:Nat):IsS56 w0 (W.drewN m) g f0 f1:=h
theorem IsS56.drew {w0 W:World} {g:Nat} {f0:List Int} {f1:Int} (h:IsS56 w0 W g f0 f1):IsS56 w0 W.drew g f0 f1:=h
theorem IsS56.at_ {w0 W:World} {g:Nat} {f0:List Int} {f1:Int} {w':World} {m:Nat} (hq:W.drewN m=w') (h:IsS56 w0 W g f0 f1):IsS56 w0 w' g f0 f1:=by subst hq;exact IsS56.drewN h m
theorem IsS56.apart {w0 W:World} {g:Nat} {f0:List Int} {f1:Int} {α:Type} {d:Kd α} {e:Nat} {base:Nat} {ok:Nat→Prop} {v:Value} {xs:List α} (h:IsS56 w0 W g f0 f1) (ho:d.R e W base ok v xs) (ht: ∀q,q∈e::d.E→q≠56):d.R e W base (fun k=>ok k∧k≠g) v xs:=by
 obtain⟨A0,c0,hb,hg,hr0⟩:=h;exact Kd.R_types ho hb ht
theorem IsS56.own_ne {w0 W:World} {g:Nat} {f0:List Int} {f1:Int} {α:Type} {d:Kd α} {e:Nat} {base:Nat} {ok:Nat→Prop} {v:Value} {xs:List α} (h:IsS56 w0 W g f0 f1) (ho:d.R e W base ok v xs) (ht:e≠56):some g≠v.ownBlock:=by
 obtain⟨A0,c0,hb,hg,hr0⟩:=h;exact Kd.R_ne ho hb ht
theorem IsS56.apartQ {w0 W:World} {g:Nat} {f0:List Int} {f1:Int} {α:Type} {d:Kd α} {e:Nat} {base:Nat} {ok:Nat→Prop} {v:Value} {xs:List α} (h:IsS56 w0 W g f0 f1) (ho:d.Q e W base ok v xs) (ht: ∀q,q∈e::d.E→q≠56):d.Q e W base (fun k=>ok k∧k≠g) v xs:=by
 obtain⟨A0,c0,hb,hg,hr0⟩:=h;exact Kd.Q_types ho hb ht
theorem IsS56.own_neQ {w0 W:World} {g:Nat} {f0:List Int} {f1:Int} {α:Type} {d:Kd α} {e:Nat} {base:Nat} {ok:Nat→Prop} {v:Value} {xs:List α} (h:IsS56 w0 W g f0 f1) (ho:d.Q e W base ok v xs) (ht:e≠56):some g≠v.ownBlock:=by
 obtain⟨A0,c0,hb,hg,hr0⟩:=h;exact Kd.Q_ne ho hb ht
theorem IsS56.apartS {w0 W:World} {g:Nat} {f0:List Int} {f1:Int} {α:Type} {d:Kd α} {e:Nat} {base:Nat} {ok:Nat→Prop} {v:Value} {xs:List α} (h:IsS56 w0 W g f0 f1) (ho:d.S e W base ok v xs) (ht: ∀q,q∈e::d.E→q≠56):d.S e W base (fun k=>ok k∧k≠g) v xs:=by
 obtain⟨A0,c0,hb,hg,hr0⟩:=h;exact Kd.S_types ho hb ht
theorem IsS56.own_neS {w0 W:World} {g:Nat} {f0:List Int} {f1:Int} {α:Type} {d:Kd α} {e:Nat} {base:Nat} {ok:Nat→Prop} {v:Value} {xs:List α} (h:IsS56 w0 W g f0 f1) (ho:d.S e W base ok v xs) (ht:e≠56):some g≠v.ownBlock:=by
 obtain⟨A0,c0,hb,hg,hr0⟩:=h;exact Kd.S_ne ho hb ht
theorem IsS56.lt {w0 W:World} {g:Nat} {f0:List Int} {f1:Int} (h:IsS56 w0 W g f0 f1):g<W.heap.size:=by
 obtain⟨A0,c0,hb,hg,hr0⟩:=h;exact blk_lt hb
theorem IsS56.ge {w0 W:World} {g:Nat} {f0:List Int} {f1:Int} (h:IsS56 w0 W g f0 f1):w0.heap.size≤g:=by
 obtain⟨A0,c0,hb,hg,hr0⟩:=h;exact hg
theorem IsS56.ne_blk {w0 W:World} {g:Nat} {f0:List Int} {f1:Int} {a:Nat} {cs:Array Value} {t:TypeId} {fr:Nat×Nat} (h:IsS56 w0 W g f0 f1) (hb2:W.heap[a]?=some (.cells cs t fr)) (ht:t≠56):g≠a:=by
 obtain⟨A0,c0,hb,hg,hr0⟩:=h;rintro rfl;rw[hb]at hb2
 injection hb2 with hb2
 injection hb2 with _ ht2
 exact ht ht2.symm
theorem IsS56.far {w0 W:World} {g:Nat} {f0:List Int} {f1:Int} {p:Addr} (h:IsS56 w0 W g f0 f1) (hne:g≠p.block) (u:Value):IsS56 w0 (W.setCell p u) g f0 f1:=by
 obtain⟨A0,c0,hb,hg,hr0⟩:=h;exact⟨A0,c0,blk_far hb hne u,hg,hr0⟩
theorem cellS56_0 {W:World} {g:Nat} {A0:Option Addr} {c0:Nat} {f0:List Int} {f1:Int} (h:W.heap[g]?=some (.cells #[.slice A0 f0.length c0,.int .i64 f1] 56 (0,0))):W.cell? ⟨g,0,none⟩=some (.slice A0 f0.length c0):=(blk_cell h 0).trans rfl
theorem cellS56_1 {W:World} {g:Nat} {A0:Option Addr} {c0:Nat} {f0:List Int} {f1:Int} (h:W.heap[g]?=some (.cells #[.slice A0 f0.length c0,.int .i64 f1] 56 (0,0))):W.cell? ⟨g,1,none⟩=some (.int .i64 f1):=(blk_cell h 1).trans rfl
theorem IsS56.set_1 {w0 W:World} {g:Nat} {f0:List Int} {f1:Int} (h:IsS56 w0 W g f0 f1) (x:Int):IsS56 w0 (W.setCell ⟨g,1,none⟩ (.int .i64 x)) g f0 x:=by
 obtain⟨A0,c0,hb,hg,hr0⟩:=h;exact⟨A0,c0,by simpa using blk_set hb 1 (.int .i64 x),hg,hr0⟩
theorem IsS56.new (w0 W:World) (A0:Option Addr) (c0:Nat) (f0:List Int) (f1:Int) (hB:Below w0.heap.size w0 W) (hr0:Kd.C (Kd.int .u8) w0 A0 f0.length f0):IsS56 w0 (W.alloc (.cells #[.slice A0 f0.length c0,.int .i64 f1] 56)) W.heap.size f0 f1:=⟨A0,c0,by simpa using heap_alloc_new W _,hB.size,hr0⟩
theorem zI0 {w0 W W':World} {g:Nat} {f0:List Int} {f1:Int} {f0':List Int} {f1':Int} (H:Aside0 (IsS56 w0 W g f0 f1)) (h:IsS56 w0 W g f0 f1→IsS56 w0 W' g f0' f1':=by intro zz;repeat(first|(with_reducible first|exact zz|apply IsS56.alloc|apply IsS56.drewN|apply IsS56.drew|apply IsS56.set_1)|exact zz)):IsS56 w0 W' g f0' f1':=h H.out
theorem zB0 {w0 V W W':World} {g:Nat} {f0:List Int} {f1:Int} (I:Aside0 (IsS56 w0 V g f0 f1)) (H:Aside0 (Below w0.heap.size w0 W)) (h:w0.heap.size≤g→Below w0.heap.size w0 W→Below w0.heap.size w0 W':=by intro zi zz;repeat(first|(with_reducible first|exact zz|apply below_alloc|apply pw_below_drewN|apply below_drew1|refine below_set ?_ zi)|exact zz)):Below w0.heap.size w0 W':=h (IsS56.ge I.out) H.out
theorem zI1 {w0 W W':World} {g a:Nat} {f0:List Int} {f1:Int} {f0':List Int} {f1':Int} (H:Aside0 (IsS56 w0 W g f0 f1)) (A:Aside0 (g≠a)) (h:IsS56 w0 W g f0 f1→g≠a→IsS56 w0 W' g f0' f1':=by intro zz za;repeat(first|(with_reducible first|exact zz|apply IsS56.alloc|apply IsS56.drewN|apply IsS56.drew|apply IsS56.set_1|refine IsS56.far ?_ za _)|exact zz)):IsS56 w0 W' g f0' f1':=h H.out A.out
theorem zB1 {w0 V W W':World} {g a:Nat} {f0:List Int} {f1:Int} (I:Aside0 (IsS56 w0 V g f0 f1)) (H:Aside0 (Below w0.heap.size w0 W)) (A:Aside0 (w0.heap.size≤a)) (h:w0.heap.size≤g→Below w0.heap.size w0 W→w0.heap.size≤a→Below w0.heap.size w0 W':=by intro zi zz za;repeat(first|(with_reducible first|exact zz|apply below_alloc|apply pw_below_drewN|apply below_drew1|refine below_set ?_ zi|refine below_set ?_ za)|exact zz)):Below w0.heap.size w0 W':=h (IsS56.ge I.out) H.out A.out
theorem zI2 {w0 W W':World} {g a b:Nat} {f0:List Int} {f1:Int} {f0':List Int} {f1':Int} (H:Aside0 (IsS56 w0 W g f0 f1)) (A:Aside0 (g≠a)) (B:Aside0 (g≠b)) (h:IsS56 w0 W g f0 f1→g≠a→g≠b→IsS56 w0 W' g f0' f1':=by intro zz za zb;repeat(first|(with_reducible first|exact zz|apply IsS56.alloc|apply IsS56.drewN|apply IsS56.drew|apply IsS56.set_1|refine IsS56.far ?_ za _|refine IsS56.far ?_ zb _)|exact zz)):IsS56 w0 W' g f0' f1':=h H.out A.out B.out
theorem zB2 {w0 V W W':World} {g a b:Nat} {f0:List Int} {f1:Int} (I:Aside0 (IsS56 w0 V g f0 f1)) (H:Aside0 (Below w0.heap.size w0 W)) (A:Aside0 (w0.heap.size≤a)) (B:Aside0 (w0.heap.size≤b)) (h:w0.heap.size≤g→Below w0.heap.size w0 W→w0.heap.size≤a→w0.heap.size≤b→Below w0.heap.size w0 W':=by intro zi zz za zb;repeat(first|(with_reducible first|exact zz|apply below_alloc|apply pw_below_drewN|apply below_drew1|refine below_set ?_ zi|refine below_set ?_ za|refine below_set ?_ zb)|exact zz)):Below w0.heap.size w0 W':=h (IsS56.ge I.out) H.out A.out B.out
theorem zI3 {w0 W W':World} {g a b c:Nat} {f0:List Int} {f1:Int} {f0':List Int} {f1':Int} (H:Aside0 (IsS56 w0 W g f0 f1)) (A:Aside0 (g≠a)) (B:Aside0 (g≠b)) (C:Aside0 (g≠c)) (h:IsS56 w0 W g f0 f1→g≠a→g≠b→g≠c→IsS56 w0 W' g f0' f1':=by intro zz za zb zc;repeat(first|(with_reducible first|exact zz|apply IsS56.alloc|apply IsS56.drewN|apply IsS56.drew|apply IsS56.set_1|refine IsS56.far ?_ za _|refine IsS56.far ?_ zb _|refine IsS56.far ?_ zc _)|exact zz)):IsS56 w0 W' g f0' f1':=h H.out A.out B.out C.out
theorem zB3 {w0 V W W':World} {g a b c:Nat} {f0:List Int} {f1:Int} (I:Aside0 (IsS56 w0 V g f0 f1)) (H:Aside0 (Below w0.heap.size w0 W)) (A:Aside0 (w0.heap.size≤a)) (B:Aside0 (w0.heap.size≤b)) (C:Aside0 (w0.heap.size≤c)) (h:w0.heap.size≤g→Below w0.heap.size w0 W→w0.heap.size≤a→w0.heap.size≤b→w0.heap.size≤c→Below w0.heap.size w0 W':=by intro zi zz za zb zc;repeat(first|(with_reducible first|exact zz|apply below_alloc|apply pw_below_drewN|apply below_drew1|refine below_set ?_ zi|refine below_set ?_ za|refine below_set ?_ zb|refine below_set ?_ zc)|exact zz)):Below w0.heap.size w0 W':=h (IsS56.ge I.out) H.out A.out B.out C.out
theorem zI4 {w0 W W':World} {g a b c d:Nat} {f0:List Int} {f1:Int} {f0':List Int} {f1':Int} (H:Aside0 (IsS56 w0 W g f0 f1)) (A:Aside0 (g≠a)) (B:Aside0 (g≠b)) (C:Aside0 (g≠c)) (D:Aside0 (g≠d)) (h:IsS56 w0 W g f0 f1→g≠a→g≠b→g≠c→g≠d→IsS56 w0 W' g f0' f1':=by intro zz za zb zc zd;repeat(first|(with_reducible first|exact zz|apply IsS56.alloc|apply IsS56.drewN|apply IsS56.drew|apply IsS56.set_1|refine IsS56.far ?_ za _|refine IsS56.far ?_ zb _|refine IsS56.far ?_ zc _|refine IsS56.far ?_ zd _)|exact zz)):IsS56 w0 W' g f0' f1':=h H.out A.out B.out C.out D.out
theorem zB4 {w0 V W W':World} {g a b c d:Nat} {f0:List Int} {f1:Int} (I:Aside0 (IsS56 w0 V g f0 f1)) (H:Aside0 (Below w0.heap.size w0 W)) (A:Aside0 (w0.heap.size≤a)) (B:Aside0 (w0.heap.size≤b)) (C:Aside0 (w0.heap.size≤c)) (D:Aside0 (w0.heap.size≤d)) (h:w0.heap.size≤g→Below w0.heap.size w0 W→w0.heap.size≤a→w0.heap.size≤b→w0.heap.size≤c→w0.heap.size≤d→Below w0.heap.size w0 W':=by intro zi zz za zb zc zd;repeat(first|(with_reducible first|exact zz|apply below_alloc|apply pw_below_drewN|apply below_drew1|refine below_set ?_ zi|refine below_set ?_ za|refine below_set ?_ zb|refine below_set ?_ zc|refine below_set ?_ zd)|exact zz)):Below w0.heap.size w0 W':=h (IsS56.ge I.out) H.out A.out B.out C.out D.out
theorem zI5 {w0 W W':World} {g a b c d e:Nat} {f0:List Int} {f1:Int} {f0':List Int} {f1':Int} (H:Aside0 (IsS56 w0 W g f0 f1)) (A:Aside0 (g≠a)) (B:Aside0 (g≠b)) (C:Aside0 (g≠c)) (D:Aside0 (g≠d)) (E:Aside0 (g≠e)) (h:IsS56 w0 W g f0 f1→g≠a→g≠b→g≠c→g≠d→g≠e→IsS56 w0 W' g f0' f1':=by intro zz za zb zc zd ze;repeat(first|(with_reducible first|exact zz|apply IsS56.alloc|apply IsS56.drewN|apply IsS56.drew|apply IsS56.set_1|refine IsS56.far ?_ za _|refine IsS56.far ?_ zb _|refine IsS56.far ?_ zc _|refine IsS56.far ?_ zd _|refine IsS56.far ?_ ze _)|exact zz)):IsS56 w0 W' g f0' f1':=h H.out A.out B.out C.out D.out E.out
theorem zB5 {w0 V W W':World} {g a b c d e:Nat} {f0:List Int} {f1:Int} (I:Aside0 (IsS56 w0 V g f0 f1)) (H:Aside0 (Below w0.heap.size w0 W)) (A:Aside0 (w0.heap.size≤a)) (B:Aside0 (w0.heap.size≤b)) (C:Aside0 (w0.heap.size≤c)) (D:Aside0 (w0.heap.size≤d)) (E:Aside0 (w0.heap.size≤e)) (h:w0.heap.size≤g→Below w0.heap.size w0 W→w0.heap.size≤a→w0.heap.size≤b→w0.heap.size≤c→w0.heap.size≤d→w0.heap.size≤e→Below w0.heap.size w0 W':=by intro zi zz za zb zc zd ze;repeat(first|(with_reducible first|exact zz|apply below_alloc|apply pw_below_drewN|apply below_drew1|refine below_set ?_ zi|refine below_set ?_ za|refine below_set ?_ zb|refine below_set ?_ zc|refine below_set ?_ zd|refine below_set ?_ ze)|exact zz)):Below w0.heap.size w0 W':=h (IsS56.ge I.out) H.out A.out B.out C.out D.out E.out
theorem zJ0 {w0 W W':World} {g:Nat} {f0:List Int} {f1:Int} (H:Aside0 (IsS56 w0 W g f0 f1)) (h:IsS56 w0 W g f0 f1→IsS56 w0 W' g f0 f1:=by intro zz;repeat(first|(with_reducible first|exact zz|apply IsS56.alloc|apply IsS56.drewN|apply IsS56.drew|apply IsS56.set_1)|exact zz)):IsS56 w0 W' g f0 f1:=h H.out
theorem zJ1 {w0 W W':World} {g a:Nat} {f0:List Int} {f1:Int} (H:Aside0 (IsS56 w0 W g f0 f1)) (A:Aside0 (g≠a)) (h:IsS56 w0 W g f0 f1→g≠a→IsS56 w0 W' g f0 f1:=by intro zz za;repeat(first|(with_reducible first|exact zz|apply IsS56.alloc|apply IsS56.drewN|apply IsS56.drew|apply IsS56.set_1|refine IsS56.far ?_ za _)|exact zz)):IsS56 w0 W' g f0 f1:=h H.out A.out
theorem zJ2 {w0 W W':World} {g a b:Nat} {f0:List Int} {f1:Int} (H:Aside0 (IsS56 w0 W g f0 f1)) (A:Aside0 (g≠a)) (B:Aside0 (g≠b)) (h:IsS56 w0 W g f0 f1→g≠a→g≠b→IsS56 w0 W' g f0 f1:=by intro zz za zb;repeat(first|(with_reducible first|exact zz|apply IsS56.alloc|apply IsS56.drewN|apply IsS56.drew|apply IsS56.set_1|refine IsS56.far ?_ za _|refine IsS56.far ?_ zb _)|exact zz)):IsS56 w0 W' g f0 f1:=h H.out A.out B.out
theorem zJ3 {w0 W W':World} {g a b c:Nat} {f0:List Int} {f1:Int} (H:Aside0 (IsS56 w0 W g f0 f1)) (A:Aside0 (g≠a)) (B:Aside0 (g≠b)) (C:Aside0 (g≠c)) (h:IsS56 w0 W g f0 f1→g≠a→g≠b→g≠c→IsS56 w0 W' g f0 f1:=by intro zz za zb zc;repeat(first|(with_reducible first|exact zz|apply IsS56.alloc|apply IsS56.drewN|apply IsS56.drew|apply IsS56.set_1|refine IsS56.far ?_ za _|refine IsS56.far ?_ zb _|refine IsS56.far ?_ zc _)|exact zz)):IsS56 w0 W' g f0 f1:=h H.out A.out B.out C.out
theorem zJ4 {w0 W W':World} {g a b c d:Nat} {f0:List Int} {f1:Int} (H:Aside0 (IsS56 w0 W g f0 f1)) (A:Aside0 (g≠a)) (B:Aside0 (g≠b)) (C:Aside0 (g≠c)) (D:Aside0 (g≠d)) (h:IsS56 w0 W g f0 f1→g≠a→g≠b→g≠c→g≠d→IsS56 w0 W' g f0 f1:=by intro zz za zb zc zd;repeat(first|(with_reducible first|exact zz|apply IsS56.alloc|apply IsS56.drewN|apply IsS56.drew|apply IsS56.set_1|refine IsS56.far ?_ za _|refine IsS56.far ?_ zb _|refine IsS56.far ?_ zc _|refine IsS56.far ?_ zd _)|exact zz)):IsS56 w0 W' g f0 f1:=h H.out A.out B.out C.out D.out
theorem zJ5 {w0 W W':World} {g a b c d e:Nat} {f0:List Int} {f1:Int} (H:Aside0 (IsS56 w0 W g f0 f1)) (A:Aside0 (g≠a)) (B:Aside0 (g≠b)) (C:Aside0 (g≠c)) (D:Aside0 (g≠d)) (E:Aside0 (g≠e)) (h:IsS56 w0 W g f0 f1→g≠a→g≠b→g≠c→g≠d→g≠e→IsS56 w0 W' g f0 f1:=by intro zz za zb zc zd ze;repeat(first|(with_reducible first|exact zz|apply IsS56.alloc|apply IsS56.drewN|apply IsS56.drew|apply IsS56.set_1|refine IsS56.far ?_ za _|refine IsS56.far ?_ zb _|refine IsS56.far ?_ zc _|refine IsS56.far ?_ zd _|refine IsS56.far ?_ ze _)|exact zz)):IsS56 w0 W' g f0 f1:=h H.out A.out B.out C.out D.out E.out
theorem zib {w0 W W1:World} {g:Nat} {f0:List Int} {f1:Int} (h:IsS56 w0 W g f0 f1) (hb:Below W.heap.size W W1):Aside0 (IsS56 w0 W1 g f0 f1):=⟨h.below hb⟩
theorem zok {α:Type} {d:Kd α} {e base g:Nat} {ok:Nat→Prop} {v:Value} {xs:List α} {w0 W W1:World} {f0:List Int} {f1:Int} (h:IsS56 w0 W g f0 f1) (R:d.R e W base ok v xs) (hk:KeepBut W W1 g none) (ht: ∀q,q∈e::d.E→q≠56:=by decide):Aside0 (d.R e W1 base ok v xs):=⟨Kd.R_mono (Kd.R_keep (h.apart R ht) hk (fun _ x=>x.2)) (fun _ x=>x.1)⟩
theorem zhk {α:Type} {d:Kd α} {e base g n c:Nat} {ok:Nat→Prop} {ad:Addr} {xs:List α} {w0 W W1 V:World} {a:Addr} {u:Value} {f0:List Int} {f1:Int} (hk:KeepBut W W1 g none) (hc:W.cell? a=some u) (I:Aside0 (IsS56 w0 V g f0 f1)) (O:Aside0 (d.R e V base ok (.slice (some ad) n c) xs)) (ht:e≠56:=by decide) (hn:ad.block≠g→a.block≠g:=by intro zz;first|(rw[add_block];exact zz)|(show(Addr.add _ _).block≠_;rw[add_block];exact zz)|exact zz):W1.cell? a=some u:=keep_cell hk hc (hn (Kd.own_blk (I.out.own_ne O.out ht)))
def spec_l21Open.f (l0:List Int):Option (List Int×Int):=if(l0.length:Int)>2000 then(if 2000≤(l0.length:Int)then(some (l0.take 2000,0))else(none))else(some (l0,0))
set_option maxHeartbeats 8000000 in
set_option maxRecDepth 100000 in
theorem spec_l21Open.calls (A0:Option Addr) (c0:Nat) (l0:List Int) (r1:List Int) (r2:Int) (w0 w:World) (hB:Below w0.heap.size w0 w) (hr0:Kd.C (Kd.int .u8) w0 A0 l0.length l0) (hc0:l0.length≤c0) (h:spec_l21Open.f l0=some (r1,r2)):
 Calls Try.prog 10 #[.slice A0 l0.length c0] w fun e w'=> ∃g_:Nat,e= .returned (.pointer (some ⟨g_,0,none⟩))∧IsS56 w0 w' g_ r1 r2∧Below w0.heap.size w0 w'∧Below w.heap.size w w':=by
 have b4:=Try.underlying56;have b1:=zA hr0;have b5:=zA hc0;clear hr0 hc0;have HBW:=zA (Below.refl w.heap.size w);have b2:=zA hB.size;have HB:=zA hB;clear hB;have H:=h;clear h;unfold spec_l21Open.f at H
 by_cases c2:(l0.length:Int)>2000
 rotate_left
 ·rw[if_neg c2]at H
  have a9:decide (2000<(l0.length:Int))=false:=decide_eq_false c2;have b0:decide (2000<l0.length)=false:=decide_eq_false (by omega);clear c2;simp only[Option.some.injEq,Prod.mk.injEq]at H;obtain⟨rfl,rfl⟩:=H
  go_enter Try.func10,Try.ntmps10
  go_wp2_with (first|((with_reducible refine gate_dst (N:=10) rfl ?_);refine zbx 10 #[.slice A0 l0.length c0,.int .i64 0] 56 ?_;intro a0 hg w6 hbox hb;have a4:=zA hbox;have a5:=zA ((by rw[hg];exact(below_size (by repeat(first|(with_reducible first|exact HBW.out|apply below_alloc|apply pw_below_drewN|apply below_drew1)|exact HBW.out))):w.heap.size≤a0));have a2:=zA ((Nat.le_trans b2.out (by rw[hg];exact(below_size (by repeat(first|(with_reducible first|exact HBW.out|apply below_alloc|apply pw_below_drewN|apply below_drew1)|exact HBW.out))):w.heap.size≤a0):w0.heap.size≤a0));replace HBW:=zA (below_step HBW.out hb);replace HB:=zE (zs0 HB) hb;clear hb hbox hg))
  go_ret;exact⟨_,rfl,(show IsS56 w0 _ a0 l0 0 from⟨_,_,zh a4,a2.out,b1.out⟩),zs1 HB a2,by repeat(first|(with_reducible first|exact HBW.out|apply below_alloc|apply pw_below_drewN|apply below_drew1|refine below_set ?_ a5.out)|exact HBW.out)⟩
 rw[if_pos c2]at H;have a9:decide (2000<(l0.length:Int))=true:=decide_eq_true c2;have b0:decide (2000<l0.length)=true:=decide_eq_true (by omega);clear c2
 by_cases c3:2000≤(l0.length:Int)
 rotate_left
 ·rw[if_neg c3]at H
  exact absurd H (by simp)
 rw[if_pos c3]at H;have b6:=eq_true c3;have b7:decide (2000≤(l0.length:Int))=true:=decide_eq_true c3;clear c3;simp only[Option.some.injEq,Prod.mk.injEq]at H;obtain⟨rfl,rfl⟩:=H;obtain⟨i04,hi04,_,hsz4,_⟩:=info_parts info5;obtain⟨hcut4,hA4,hC4⟩:=print_take_of (P:=Try.prog) (Value.int .u8) 0 22 5 .i64 Try.underlying22 hi04 hsz4 A0 c0 l0 2000 (by omega) (za) b5.out;have a6:=zA (Kd.C_of_reads (h1:=fun _=>rfl) (hA4 _ (Kd.reads_of_C b1.out)));have b3:=zA hC4;clear hA4 hC4 hi04 hsz4
 go_enter Try.func10,Try.ntmps10
 go_wp2_with (first|((with_reducible refine gate_dst (N:=10) rfl ?_);refine zbx 10 #[.slice A0 (l0.take 2000).length c0,.int .i64 0] 56 ?_;intro a1 hg w5 hbox hb;have a7:=zA hbox;have a8:=zA ((by rw[hg];exact(below_size (by repeat(first|(with_reducible first|exact HBW.out|apply below_alloc|apply pw_below_drewN|apply below_drew1)|exact HBW.out))):w.heap.size≤a1));have a3:=zA ((Nat.le_trans b2.out (by rw[hg];exact(below_size (by repeat(first|(with_reducible first|exact HBW.out|apply below_alloc|apply pw_below_drewN|apply below_drew1)|exact HBW.out))):w.heap.size≤a1):w0.heap.size≤a1));replace HBW:=zA (below_step HBW.out hb);replace HB:=zE (zs0 HB) hb;clear hb hbox hg))
 go_ret;exact⟨_,rfl,(show IsS56 w0 _ a1 (l0.take 2000) 0 from⟨_,_,zh a7,a3.out,a6.out⟩),zs1 HB a3,by repeat(first|(with_reducible first|exact HBW.out|apply below_alloc|apply pw_below_drewN|apply below_drew1|refine below_set ?_ a8.out)|exact HBW.out)⟩
def spec_l21Rd_pick.j0:Nat→Int→Bool→List Int→Int→Option (Int×Int)
 |0,_,_,_,_=>none
 |k+1,x1,x24,a0,a1=>if x24=true then(some (0,a1))else(if(wrap64 (a1-1))<(a0.length:Int)then(if 0≤(wrap64 (a1-1))then(if x1=0 then(none)else(some (Int.tmod (wrap64 (rd a0 (wrap64 (a1-1)))) x1,a1)))else(none))else(if(a0.length:Int)=0 then(none)else(if 0≤(Int.tmod (wrap64 (a1-1)) (a0.length:Int))then(if(Int.tmod (wrap64 (a1-1)) (a0.length:Int))<(a0.length:Int)then(if 0≤(Int.tmod (wrap64 ((wrap64 ((wrap64 (a1-1))*7))+3)) (a0.length:Int))then(if(Int.tmod (wrap64 ((wrap64 ((wrap64 (a1-1))*7))+3)) (a0.length:Int))<(a0.length:Int)then(if x1=0 then(none)else(some (Int.tmod (Go.bits .xor .i64 (wrap64 ((wrap64 ((wrap64 ((wrap64 ((wrap64 (rd a0 (Int.tmod (wrap64 (a1-1)) (a0.length:Int))))*131))+(wrap64 ((wrap64 (rd a0 (Int.tmod (wrap64 ((wrap64 ((wrap64 (a1-1))*7))+3)) (a0.length:Int))))*1117))))+(wrap64 ((wrap64 (a1-1))*29))))+(wrap64 ((wrap64 (Int.tdiv (wrap64 (a1-1)) (a0.length:Int)))*53)))) (wrap64 (Int.tdiv (wrap64 ((wrap64 ((wrap64 ((wrap64 ((wrap64 (rd a0 (Int.tmod (wrap64 (a1-1)) (a0.length:Int))))*131))+(wrap64 ((wrap64 (rd a0 (Int.tmod (wrap64 ((wrap64 ((wrap64 (a1-1))*7))+3)) (a0.length:Int))))*1117))))+(wrap64 ((wrap64 (a1-1))*29))))+(wrap64 ((wrap64 (Int.tdiv (wrap64 (a1-1)) (a0.length:Int)))*53)))) 64))) x1,a1)))else(none))else(none))else(none))else(none))))
def spec_l21Rd_pick.f (k:Nat) (s0_0:List Int) (s0_1:Int) (a1:Int):Option (Int×Int):=if a1<1 then(spec_l21Rd_pick.j0 k a1 true s0_0 (wrap64 (s0_1+1)))else(spec_l21Rd_pick.j0 k a1 ((s0_0.length:Int)==0) s0_0 (wrap64 (s0_1+1)))
set_option maxHeartbeats 8000000 in
set_option maxRecDepth 100000 in
theorem spec_l21Rd_pick.calls (k:Nat) (g:Nat) (s0_0:List Int) (s0_1:Int) (a1:Int) (r1:Int) (r2:Int) (w0 w:World) (hI:IsS56 w0 w g s0_0 s0_1) (hB:Below w0.heap.size w0 w) (h:spec_l21Rd_pick.f k s0_0 s0_1 a1=some (r1,r2)):
 Calls Try.prog 14 #[.pointer (some ⟨g,0,none⟩),.int .i64 a1] w fun e w'=>e= .returned (.int .i64 r1)∧IsS56 w0 w' g s0_0 r2∧Below w0.heap.size w0 w'∧KeepBut w w' g none:=by
 have a0:=zA hI;have HK:=zA (KeepBut.refl w g none);have HL:=zA hB.size;clear hI;have g7:=zA hB.size;have HB:=zA hB;clear hB;have H:=h;clear h;unfold spec_l21Rd_pick.f at H;have e8:=zA H;clear H;obtain⟨ASz4_0,cSz4_0,HGz4,hgz4,HSz4_0⟩:=a0.out;have b2:=cellS56_0 HGz4;have b3:=cellS56_1 HGz4;have b4:=blk_frozen HGz4 1;clear HGz4 hgz4
 go_enter Try.func14,Try.ntmps14
 go_upto_region 2 with(fail)
 repeat(go_quiet (fail);go_upto_region 2 with(fail))
 go_cut [24] (fun g6 wc=> ∃(kq:Nat) (a2:Bool),g6= .bool a2∧Aside0 (spec_l21Rd_pick.j0 kq a1 a2 s0_0 (wrap64 (s0_1+1))=some (r1,r2))∧Aside0 (kq≤k)∧Aside0 (IsS56 w0 wc g s0_0 (wrap64 (s0_1+1)))∧Aside0 (KeepBut w wc g none)∧Aside0 (Below w0.heap.size w0 wc))
 case first=>
  have H:=e8.out;clear e8
  by_cases c5:a1<1
  ·rw[if_pos c5]at H
   have a6:decide (a1<1)=true:=decide_eq_true c5;clear c5;(first|rw[a6]|(simp only[i64_w,i32_w];rw[a6])|skip);have H':=zA H;clear H
   go_wp2
   repeat(go_quiet (fail);try go_wp2)
   go_meet
   case rel=>exact⟨_,(true),zi,H',⟨by first|omega|exact Nat.le_refl _⟩,⟨zI0 a0⟩,⟨zK0 HK⟩,⟨zB0 a0 HB⟩⟩
  rw[if_neg c5]at H;have a6:decide (a1<1)=false:=decide_eq_false c5;clear c5;(first|rw[a6]|(simp only[i64_w,i32_w];rw[a6])|skip);have H':=zA H;clear H;obtain⟨ASz6_0,cSz6_0,HGz6,hgz6,HSz6_0⟩:=a0.out;have b5:=cellS56_0 HGz6;have b6:=cellS56_1 HGz6;have b7:=blk_frozen HGz6 1;clear HGz6 hgz6
  go_wp2
  repeat(go_quiet (fail);try go_wp2)
  go_meet
  case rel=>exact⟨_,(((s0_0.length:Int)==0)),zi,H',⟨by first|omega|exact Nat.le_refl _⟩,⟨zI0 a0⟩,⟨zK0 HK⟩,⟨zB0 a0 HB⟩⟩
 case rest=>
  clear e8
  try clear b2 b3
  try clear b4
  obtain⟨kq,a2,rfl,HA,g8,a0,HK,HB⟩:=hcut
  cases kq with
  |zero=>exact absurd HA.out (by simp[spec_l21Rd_pick.j0])
  |succ g9=>
   have H:=HA.out;clear HA;simp only[spec_l21Rd_pick.j0]at H
   by_cases c7:a2=true
   ·subst c7
    rw[if_pos rfl]at H;simp only[Option.some.injEq,Prod.mk.injEq]at H;obtain⟨rfl,rfl⟩:=H
    go_wp2
    repeat(go_quiet (fail);try go_wp2)
    go_ret;exact⟨ze,zI0 a0,zB0 a0 HB,zK0 HK⟩
   replace c7:=Bool.eq_false_iff.mpr c7;subst c7;rw[if_neg zfn]at H
   by_cases c8:(wrap64 ((wrap64 (s0_1+1))-1))<(s0_0.length:Int)
   ·rw[if_pos c8]at H
    have d3:decide ((wrap64 ((wrap64 (s0_1+1))-1))<(s0_0.length:Int))=true:=decide_eq_true c8;clear c8;obtain⟨d7,a7⟩: ∃j_:Int,(wrap64 ((wrap64 (s0_1+1))-1))=j_:=⟨_,rfl⟩
    first|rw[a7]at H|simp only[a7]at H
    (try rw[a7]at d3);have f2:(IntKind.i64.wrap ((wrap64 (s0_1+1))-1))=d7:=(i64_w _).trans a7;replace H:=zif H;obtain⟨f3,H⟩:=H
    by_cases d8:a1=0
    ·rw[if_pos d8]at H
     exact absurd H (by simp)
    rw[if_neg d8]at H;have f4:(a1==0)=false:=beq_eq_false_iff_ne.mpr d8;have f5:(a1 !=0)=true:=bne_iff_ne.mpr d8;simp only[Option.some.injEq,Prod.mk.injEq]at H;obtain⟨rfl,rfl⟩:=H;obtain⟨ASz12_0,cSz12_0,HGz12,hgz12,HSz12_0⟩:=a0.out;have d9:=cellS56_0 HGz12;have e0:=cellS56_1 HGz12;have e1:=blk_frozen HGz12 1;clear HGz12 hgz12;have b8:0≤((d7):Int):=za;have b9:(d7)<(s0_0.length:Int):=za;obtain⟨f6,e9,a3⟩:=Kd.at_int HSz12_0 (d7) b8 b9;cases e9;replace a3:=pw_cell_below HB.out a3;replace b8:=eq_true b8;replace b9:=eq_true b9
    go_wp2
    repeat(go_quiet (fail);try go_wp2)
    go_ret;exact⟨by first|rfl|(simp[errW_none,errW_some]<;>rfl)|(simp only[←a7];first|rfl|(simp[errW_none,errW_some]<;>rfl))|(simp[*,errW_none,errW_some]<;>rfl),zI0 a0,zB0 a0 HB,zK0 HK⟩
   rw[if_neg c8]at H;have d3:decide ((wrap64 ((wrap64 (s0_1+1))-1))<(s0_0.length:Int))=false:=decide_eq_false c8;clear c8
   by_cases d4:(s0_0.length:Int)=0
   ·rw[if_pos d4]at H
    exact absurd H (by simp)
   rw[if_neg d4]at H;have f7:((s0_0.length:Int)==0)=false:=beq_eq_false_iff_ne.mpr d4;have f8:((s0_0.length:Int) !=0)=true:=bne_iff_ne.mpr d4
   have f9: ¬(s0_0=[]):=fun h_=>d4 (by rw[h_];rfl)
   obtain⟨a8,a9⟩: ∃j_:Int,(Int.tmod (wrap64 ((wrap64 (s0_1+1))-1)) (s0_0.length:Int))=j_:=⟨_,rfl⟩
   first|rw[a9]at H|simp only[a9]at H
   replace H:=zif H;obtain⟨g0,H⟩:=H
   by_cases e2:(a8)<(s0_0.length:Int)
   rotate_left
   ·rw[if_neg e2]at H
    exact absurd H (by simp)
   rw[if_pos e2]at H;have g1:decide ((a8)<(s0_0.length:Int))=true:=decide_eq_true e2;clear e2;obtain⟨b0,b1⟩: ∃j_:Int,(Int.tmod (wrap64 ((wrap64 ((wrap64 ((wrap64 (s0_1+1))-1))*7))+3)) (s0_0.length:Int))=j_:=⟨_,rfl⟩
   first|rw[b1]at H|simp only[b1]at H
   replace H:=zif H;obtain⟨g2,H⟩:=H
   by_cases e3:(b0)<(s0_0.length:Int)
   rotate_left
   ·rw[if_neg e3]at H
    exact absurd H (by simp)
   rw[if_pos e3]at H;have g3:decide ((b0)<(s0_0.length:Int))=true:=decide_eq_true e3;clear e3
   by_cases e4:a1=0
   ·rw[if_pos e4]at H
    exact absurd H (by simp)
   rw[if_neg e4]at H;have g4:(a1==0)=false:=beq_eq_false_iff_ne.mpr e4;have g5:(a1 !=0)=true:=bne_iff_ne.mpr e4;simp only[Option.some.injEq,Prod.mk.injEq]at H;obtain⟨rfl,rfl⟩:=H;obtain⟨ASz21_0,cSz21_0,HGz21,hgz21,HSz21_0⟩:=a0.out;have e5:=cellS56_0 HGz21;have e6:=cellS56_1 HGz21;have e7:=blk_frozen HGz21 1;clear HGz21 hgz21;have c0:0≤((a8):Int):=za;have d0:(a8)<(s0_0.length:Int):=za;obtain⟨d5,f0,a4⟩:=Kd.at_int HSz21_0 (a8) c0 d0;cases f0;replace a4:=pw_cell_below HB.out a4;replace c0:=eq_true c0;replace d0:=eq_true d0;have d1:0≤((b0):Int):=za;have d2:(b0)<(s0_0.length:Int):=za;obtain⟨d6,f1,a5⟩:=Kd.at_int HSz21_0 (b0) d1 d2;obtain rfl:d5=d6:=(by injection f1);replace a5:=pw_cell_below HB.out a5;replace d1:=eq_true d1;replace d2:=eq_true d2
   go_wp2
   repeat(go_quiet (fail);try go_wp2)
   go_ret;exact⟨by first|rfl|(simp[errW_none,errW_some]<;>rfl)|(simp only[←a9,←b1];first|rfl|(simp[errW_none,errW_some]<;>rfl))|(simp[*,errW_none,errW_some]<;>rfl),zI0 a0,zB0 a0 HB,zK0 HK⟩
def spec_l30Kind.f (k:Nat) (s0_0:List Int) (s0_1:Int):Option (Int×Int×Int):=(spec_l21Rd_pick.f k s0_0 s0_1 3).bind fun a0=>((spec_l21Rd_pick.f k s0_0 a0.2 4).bind fun a2=>((spec_l21Rd_pick.f k s0_0 a2.2 16).bind fun a1=>(if a1.1=0 then(some (wrap64 (1+a0.1),50,a1.2))else(some (wrap64 (1+a0.1),wrap64 ((wrap64 (1+a0.1))+a2.1),a1.2)))))
set_option maxHeartbeats 8000000 in
set_option maxRecDepth 100000 in
theorem spec_l30Kind.calls (k:Nat) (g:Nat) (s0_0:List Int) (s0_1:Int) (r1:Int) (r2:Int) (r3:Int) (w0 w:World) (hI:IsS56 w0 w g s0_0 s0_1) (hB:Below w0.heap.size w0 w) (h:spec_l30Kind.f k s0_0 s0_1=some (r1,r2,r3)):
 Calls Try.prog 40 #[.pointer (some ⟨g,0,none⟩)] w fun e w'=>e= .returned (.agg #[.int .i64 r1,.int .i64 r2])∧IsS56 w0 w' g s0_0 r3∧Below w0.heap.size w0 w'∧KeepBut w w' g none:=by
 have h7:=Try.underlying24;have a6:=zA hI;have HK:=zA (KeepBut.refl w g none);have HL:=zA hB.size;clear hI;have d3:=zA hB.size;have HB:=zA hB;clear hB;have H:=h;clear h;unfold spec_l30Kind.f at H;replace H:=Option.bind_eq_some_iff.mp H;obtain⟨⟨a7,b8⟩,g4,H⟩:=H;replace H:((spec_l21Rd_pick.f k s0_0 b8 4).bind fun d0=>((spec_l21Rd_pick.f k s0_0 d0.2 16).bind fun b5=>(if b5.1=0 then(some (wrap64 (1+a7),50,b5.2))else(some (wrap64 (1+a7),wrap64 ((wrap64 (1+a7))+d0.1),b5.2)))))=some (r1,r2,r3):=H;have A2:=zA g4;clear g4;replace H:=Option.bind_eq_some_iff.mp H;obtain⟨⟨b9,c0⟩,g5,H⟩:=H;replace H:((spec_l21Rd_pick.f k s0_0 c0 16).bind fun b5=>(if b5.1=0 then(some (wrap64 (1+a7),50,b5.2))else(some (wrap64 (1+a7),wrap64 ((wrap64 (1+a7))+b9),b5.2))))=some (r1,r2,r3):=H;have A3:=zA g5;clear g5;replace H:=Option.bind_eq_some_iff.mp H;obtain⟨⟨b6,c1⟩,g6,H⟩:=H;replace H:(if b6=0 then(some (wrap64 (1+a7),50,c1))else(some (wrap64 (1+a7),wrap64 ((wrap64 (1+a7))+b9),c1)))=some (r1,r2,r3):=H;have A4:=zA g6;clear g6
 by_cases c5:b6=0
 rotate_left
 ·rw[if_neg c5]at H
  have g2:(b6==0)=false:=beq_eq_false_iff_ne.mpr c5;have g3:(b6 !=0)=true:=bne_iff_ne.mpr c5;simp only[Option.some.injEq,Prod.mk.injEq]at H;obtain⟨rfl,rfl,rfl⟩:=H
  go_enter Try.func40,Try.ntmps40
  try go_wp2_with (first|((with_reducible refine gate_dst (N:=2) rfl ?_);refine zbx 2 #[.int .i64 0,.int .i64 0] 24 ?_;intro b7 hg i5 hbox hb;have a1:=zA hbox;have a5:=zgw hg (zK0 HK);have a9:=zge d3 a5;have a2:=znl hg (IsS56.lt (zI0 a6));have a8:=zns a2;replace HK:=zKb (zK0 HK) hb;replace HB:=zE (zB0 a6 HB) hb;replace a6:=zib (zI0 a6) hb;clear hb hbox hg)|((with_reducible refine gate_callee (f:=14) rfl ?_);refine zgl (N:=some 5) Try.func14 #[.pointer (some ⟨g,0,none⟩),.int .i64 3] ?_;(with_reducible refine(spec_l21Rd_pick.calls k g s0_0 s0_1 3 a7 b8 w0 _ ?side1 ?side2 A2.out).mono ?_);(case side1=>exact zI1 a6 a2);(case side2=>exact zB1 a6 HB a9);rintro e i6 ⟨rfl,hi,hb,hk⟩;refine⟨_,rfl,?_⟩;replace a1:=zbh hk a1 a8;replace HK:=zKk (zK1 HK a5) hk;replace HB:=zA (hb);replace a6:=zA (hi);(try clear hb hk hi))|((with_reducible refine gate_dst (N:=3) rfl ?_);refine zbx 3 #[.int .i64 0,.int .i64 0] 24 ?_;intro b0 hg h8 hbox hb;have a0:=zA hbox;have b3:=zgw hg (zK1 HK a5);have b4:=zge d3 b3;have a3:=zne hg a1;have b1:=znf hg a1;have a4:=znl hg (IsS56.lt (zI1 a6 a2));have b2:=zns a4;replace a1:=zb a1 hb;replace HK:=zKb (zK1 HK a5) hb;replace HB:=zE (zB1 a6 HB a9) hb;replace a6:=zib (zI1 a6 a2) hb;clear hb hbox hg;have g7:=b1.out;have g8:=a3.out;have g9:=b2.out;have h0:=a4.out;obtain⟨d4,d5⟩:=zd2 a0;obtain⟨d6,d7⟩:=zn2 a0))
  obtain⟨d1,e_⟩: ∃x,x=((h8.setCell ⟨b0,0,none⟩ (.int .i64 (wrap64 (1+a7)))).setCell ⟨b0,1,none⟩ (.int .i64 0)):=⟨_,rfl⟩
  have n0_:Aside0 (d1.heap[b7]?=some (.cells #[.int .i64 0,.int .i64 0] 24 (0,0))):=by rw[e_];exact⟨zpf a1 a3⟩
  have n1_:Aside0 (d1.heap[b0]?=some (.cells #[.int .i64 (wrap64 (1+a7)),.int .i64 0] 24 (0,0))):=by rw[e_];exact⟨zpb a0⟩
  have n2_:Aside0 (IsS56 w0 d1 g s0_0 b8):=by rw[e_];exact⟨zI2 a6 a2 a4⟩
  have n3_:Aside0 (KeepBut w d1 g none):=by rw[e_];exact⟨zK2 HK a5 b3⟩
  have n4_:Aside0 (Below w0.heap.size w0 d1):=by rw[e_];exact⟨zB2 a6 HB a9 b4⟩
  (try clear a1 a0 a6 HK HB);rw[←e_];clear e_;have a1:=n0_;have a0:=n1_;have a6:=n2_;have HK:=n3_;have HB:=n4_;clear n0_ n1_ n2_ n3_ n4_;replace a1:=zA (blk_drew a1.out);replace a0:=zA (blk_drew a0.out);replace a6:=zA (IsS56.drew a6.out);replace HK:=zA (keep_drew HK.out);replace HB:=zA (below_drew1 HB.out);refine start_ (n:=7) (S:=fun w'=>w'.cell? ⟨b0,0,none⟩=some (.int .i64 (wrap64 (1+a7)))∧w'.cell? ⟨b0,1,none⟩=some (.int .i64 0)) (ds:=[6]) #[F,F,F,F,F,F,F] (by kernel_rfl) rfl rfl ⟨zc0 a0,zc1 a0⟩ (fun hHeld=>?_);generalize d1.drew=i7 at a1 a0 a6 HK HB hHeld⊢;refine zp 0 ?_;refine zp 2 ?_;refine take_ (i:=1) (N:=some 9) (v:=?_) (a':=?_) #[T,T,T,F,F,F,F] rfl rfl (by kernel_rfl) (fun _ _ _ h=>h) (Or.inl ⟨by rfl,?_⟩) hHeld ?_ ?_;rotate_left;exact zt2;rotate_left;exact zput;refine one_ (i:=3) (N:=some 11) #[T,T,T,T,F,F,F] rfl rfl (by kernel_rfl) (by decide) (fun K hK=>?_);refine zgo Try.func14 #[.pointer (some ⟨g,0,none⟩),.int .i64 4] ?_
  with_reducible refine(spec_l21Rd_pick.calls k g s0_0 b8 4 b9 c0 w0 _ ?side1 ?side2 A3.out).mono ?_
  (case side1=>exact zI2 a6 a2 a4);(case side2=>exact zB2 a6 HB a9 b4);rintro e h9 ⟨rfl,hi,hb,hk⟩;refine⟨_,rfl,?_⟩;replace a1:=zbh hk a1 a8;replace a0:=zbh hk a0 b2;replace HK:=zKk (zK2 HK a5 b3) hk;replace HB:=zA (hb);replace a6:=zA (hi);(try clear hb hk hi);refine hK.out _ _ ⟨zc0 a0,zc1 a0⟩ (fun hHeld=>?_);clear hK K;refine zN ?_;refine zp 4 ?_;refine zp 5 ?_;refine last_ (i:=6) (N:=none) #[T,T,T,T,T,T,T] rfl rfl (by kernel_rfl) (by decide) (fun K hK=>?_);have i0:h9.cell? ⟨b0,1,none⟩=some (.int .i64 0):=zc1 a0;have hfs29:=zf a0 1;have d8:=a3.out;have d9:=b1.out;refine skip_ (w1:=?_) (by rfl) rfl ?_ ?_;rotate_left
  ·go_simp
   rfl
  refine hK.out _ _ ?_;clear hK K;refine done_ (by kernel_rfl) ?_
  try go_wp2_with (first|((with_reducible refine gate_callee (f:=14) rfl ?_);refine zgl (N:=some 15) Try.func14 #[.pointer (some ⟨g,0,none⟩),.int .i64 16] ?_;(with_reducible refine(spec_l21Rd_pick.calls k g s0_0 c0 16 b6 c1 w0 _ ?side1 ?side2 A4.out).mono ?_);(case side1=>exact zI2 a6 a2 a4);(case side2=>exact zB2 a6 HB a9 b4);rintro e i8 ⟨rfl,hi,hb,hk⟩;refine⟨_,rfl,?_⟩;replace a1:=zbk hk (o:= .cells #[.int .i64 0,.int .i64 0] 24 (0,0)) (zpf a1 a3) a8;replace a0:=zbk hk (o:= .cells #[.int .i64 (wrap64 (1+a7)),.int .i64 (wrap64 ((wrap64 (1+a7))+b9))] 24 (0,0)) (zpb a0) b2;replace HK:=zKk (zK2 HK a5 b3) hk;replace HB:=zA (hb);replace a6:=zA (hi);(try clear hb hk hi);obtain⟨e0,e1⟩:=zd2 a0;obtain⟨e2,e3⟩:=zn2 a0;have h1:=a8.out;have h2:=a2.out;obtain⟨e4,e5⟩:=zd2 a1;obtain⟨e6,e7⟩:=zn2 a1))
  refine bodyPost_ret (results_cell_row rfl _ _ b7 24 #[.int .i64 (wrap64 (1+a7)),.int .i64 (wrap64 ((wrap64 (1+a7))+b9))] (0,0) _ rfl ?hz Try.underlying24 rfl (by kernel_rfl)) rfl ?_;(case hz=>exact zpb a1);exact⟨ze,zI2 a6 a2 a4,zB2 a6 HB a9 b4,zK2 HK a5 b3⟩
 rw[if_pos c5]at H;have g2:(b6==0)=true:=beq_iff_eq.mpr c5;have g3:(b6 !=0)=false:=bne_eq_false_iff_eq.mpr c5;clear c5;simp only[Option.some.injEq,Prod.mk.injEq]at H;obtain⟨rfl,rfl,rfl⟩:=H
 go_enter Try.func40,Try.ntmps40
 try go_wp2_with (first|((with_reducible refine gate_dst (N:=2) rfl ?_);refine zbx 2 #[.int .i64 0,.int .i64 0] 24 ?_;intro b7 hg w6 hbox hb;have a1:=zA hbox;have a5:=zgw hg (zK0 HK);have a9:=zge d3 a5;have a2:=znl hg (IsS56.lt (zI0 a6));have a8:=zns a2;replace HK:=zKb (zK0 HK) hb;replace HB:=zE (zB0 a6 HB) hb;replace a6:=zib (zI0 a6) hb;clear hb hbox hg)|((with_reducible refine gate_callee (f:=14) rfl ?_);refine zgl (N:=some 5) Try.func14 #[.pointer (some ⟨g,0,none⟩),.int .i64 3] ?_;(with_reducible refine(spec_l21Rd_pick.calls k g s0_0 s0_1 3 a7 b8 w0 _ ?side1 ?side2 A2.out).mono ?_);(case side1=>exact zI1 a6 a2);(case side2=>exact zB1 a6 HB a9);rintro e w7 ⟨rfl,hi,hb,hk⟩;refine⟨_,rfl,?_⟩;replace a1:=zbh hk a1 a8;replace HK:=zKk (zK1 HK a5) hk;replace HB:=zA (hb);replace a6:=zA (hi);(try clear hb hk hi))|((with_reducible refine gate_dst (N:=3) rfl ?_);refine zbx 3 #[.int .i64 0,.int .i64 0] 24 ?_;intro b0 hg w8 hbox hb;have a0:=zA hbox;have b3:=zgw hg (zK1 HK a5);have b4:=zge d3 b3;have a3:=zne hg a1;have b1:=znf hg a1;have a4:=znl hg (IsS56.lt (zI1 a6 a2));have b2:=zns a4;replace a1:=zb a1 hb;replace HK:=zKb (zK1 HK a5) hb;replace HB:=zE (zB1 a6 HB a9) hb;replace a6:=zib (zI1 a6 a2) hb;clear hb hbox hg;have i1:=b1.out;have i2:=a3.out;have h3:=b2.out;have h4:=a4.out;obtain⟨e8,e9⟩:=zd2 a0;obtain⟨f0,f1⟩:=zn2 a0))
 obtain⟨d2,e_⟩: ∃x,x=((w8.setCell ⟨b0,0,none⟩ (.int .i64 (wrap64 (1+a7)))).setCell ⟨b0,1,none⟩ (.int .i64 0)):=⟨_,rfl⟩
 have n0_:Aside0 (d2.heap[b7]?=some (.cells #[.int .i64 0,.int .i64 0] 24 (0,0))):=by rw[e_];exact⟨zpf a1 a3⟩
 have n1_:Aside0 (d2.heap[b0]?=some (.cells #[.int .i64 (wrap64 (1+a7)),.int .i64 0] 24 (0,0))):=by rw[e_];exact⟨zpb a0⟩
 have n2_:Aside0 (IsS56 w0 d2 g s0_0 b8):=by rw[e_];exact⟨zI2 a6 a2 a4⟩
 have n3_:Aside0 (KeepBut w d2 g none):=by rw[e_];exact⟨zK2 HK a5 b3⟩
 have n4_:Aside0 (Below w0.heap.size w0 d2):=by rw[e_];exact⟨zB2 a6 HB a9 b4⟩
 (try clear a1 a0 a6 HK HB);rw[←e_];clear e_;have a1:=n0_;have a0:=n1_;have a6:=n2_;have HK:=n3_;have HB:=n4_;clear n0_ n1_ n2_ n3_ n4_;replace a1:=zA (blk_drew a1.out);replace a0:=zA (blk_drew a0.out);replace a6:=zA (IsS56.drew a6.out);replace HK:=zA (keep_drew HK.out);replace HB:=zA (below_drew1 HB.out);refine start_ (n:=7) (S:=fun w'=>w'.cell? ⟨b0,0,none⟩=some (.int .i64 (wrap64 (1+a7)))∧w'.cell? ⟨b0,1,none⟩=some (.int .i64 0)) (ds:=[6]) #[F,F,F,F,F,F,F] (by kernel_rfl) rfl rfl ⟨zc0 a0,zc1 a0⟩ (fun hHeld=>?_);generalize d2.drew=i9 at a1 a0 a6 HK HB hHeld⊢;refine zp 0 ?_;refine zp 2 ?_;refine take_ (i:=1) (N:=some 9) (v:=?_) (a':=?_) #[T,T,T,F,F,F,F] rfl rfl (by kernel_rfl) (fun _ _ _ h=>h) (Or.inl ⟨by rfl,?_⟩) hHeld ?_ ?_;rotate_left;exact zt2;rotate_left;exact zput;refine one_ (i:=3) (N:=some 11) #[T,T,T,T,F,F,F] rfl rfl (by kernel_rfl) (by decide) (fun K hK=>?_);refine zgo Try.func14 #[.pointer (some ⟨g,0,none⟩),.int .i64 4] ?_
 with_reducible refine(spec_l21Rd_pick.calls k g s0_0 b8 4 b9 c0 w0 _ ?side1 ?side2 A3.out).mono ?_
 (case side1=>exact zI2 a6 a2 a4);(case side2=>exact zB2 a6 HB a9 b4);rintro e i3 ⟨rfl,hi,hb,hk⟩;refine⟨_,rfl,?_⟩;replace a1:=zbh hk a1 a8;replace a0:=zbh hk a0 b2;replace HK:=zKk (zK2 HK a5 b3) hk;replace HB:=zA (hb);replace a6:=zA (hi);(try clear hb hk hi);refine hK.out _ _ ⟨zc0 a0,zc1 a0⟩ (fun hHeld=>?_);clear hK K;refine zN ?_;refine zp 4 ?_;refine zp 5 ?_;refine last_ (i:=6) (N:=none) #[T,T,T,T,T,T,T] rfl rfl (by kernel_rfl) (by decide) (fun K hK=>?_);have i4:i3.cell? ⟨b0,1,none⟩=some (.int .i64 0):=zc1 a0;have hfs15:=zf a0 1;have f2:=a3.out;have f3:=b1.out;refine skip_ (w1:=?_) (by rfl) rfl ?_ ?_;rotate_left
 ·go_simp
  rfl
 refine hK.out _ _ ?_;clear hK K;refine done_ (by kernel_rfl) ?_
 try go_wp2_with (first|((with_reducible refine gate_callee (f:=14) rfl ?_);refine zgl (N:=some 15) Try.func14 #[.pointer (some ⟨g,0,none⟩),.int .i64 16] ?_;(with_reducible refine(spec_l21Rd_pick.calls k g s0_0 c0 16 b6 c1 w0 _ ?side1 ?side2 A4.out).mono ?_);(case side1=>exact zI2 a6 a2 a4);(case side2=>exact zB2 a6 HB a9 b4);rintro e j1 ⟨rfl,hi,hb,hk⟩;refine⟨_,rfl,?_⟩;replace a1:=zbk hk (o:= .cells #[.int .i64 0,.int .i64 0] 24 (0,0)) (zpf a1 a3) a8;replace a0:=zbk hk (o:= .cells #[.int .i64 (wrap64 (1+a7)),.int .i64 (wrap64 ((wrap64 (1+a7))+b9))] 24 (0,0)) (zpb a0) b2;replace HK:=zKk (zK2 HK a5 b3) hk;replace HB:=zA (hb);replace a6:=zA (hi);(try clear hb hk hi);obtain⟨f4,f5⟩:=zd2 a0;obtain⟨f6,f7⟩:=zn2 a0;have h5:=a8.out;have h6:=a2.out;obtain⟨f8,f9⟩:=zd2 a1;obtain⟨g0,g1⟩:=zn2 a1))
 refine bodyPost_ret (results_cell_row rfl _ _ b7 24 #[.int .i64 (wrap64 (1+a7)),.int .i64 50] (0,0) _ rfl ?hz Try.underlying24 rfl (by kernel_rfl)) rfl ?_;(case hz=>exact zpf a1 a3);exact⟨ze,zI2 a6 a2 a4,zB2 a6 HB a9 b4,zK2 HK a5 b3⟩
def spec_l30Less.f (a0:Int) (a1:Int):Option (Int):=if a1>a0 then(some 0)else(some (wrap64 (a0-a1)))
set_option maxHeartbeats 8000000 in
set_option maxRecDepth 100000 in
theorem spec_l30Less.calls (a0:Int) (a1:Int) (r:Int) (w:World) (h:spec_l30Less.f a0 a1=some r):
 Calls Try.prog 41 #[.int .i64 a0,.int .i64 a1] w fun e w'=>e= .returned (.int .i64 r)∧Drawn0 w w':=by
 have H:=h;clear h;unfold spec_l30Less.f at H
 by_cases c3:a1>a0
 ·rw[if_pos c3]at H
  have a2:decide (a0<a1)=true:=decide_eq_true c3;clear c3;obtain rfl:=Option.some.inj H
  go_enter Try.func41,Try.ntmps41
  go_wp2
  go_ret;exact⟨by first|rfl|(simp;done)|(simp[*];done),by repeat(first|exact Drawn0.refl _|apply Drawn0.step)⟩
 rw[if_neg c3]at H;have a2:decide (a0<a1)=false:=decide_eq_false c3;clear c3;obtain rfl:=Option.some.inj H
 go_enter Try.func41,Try.ntmps41
 go_wp2
 go_ret;exact⟨by first|rfl|(simp;done)|(simp[*];done),by repeat(first|exact Drawn0.refl _|apply Drawn0.step)⟩
def spec_l21In.f (a0:Int) (a1:Int) (a2:Int):Option (Bool):=if a0≥a1 then(some (decide (a0≤a2)))else(some false)
set_option maxHeartbeats 8000000 in
set_option maxRecDepth 100000 in
theorem spec_l21In.calls (a0:Int) (a1:Int) (a2:Int) (r:Bool) (w:World) (h:spec_l21In.f a0 a1 a2=some r):
 Calls Try.prog 33 #[.int .i64 a0,.int .i64 a1,.int .i64 a2] w fun e w'=>e= .returned (.bool r)∧Drawn0 w w':=by
 have H:=h;clear h;unfold spec_l21In.f at H
 by_cases c4:a0≥a1
 ·rw[if_pos c4]at H
  have a3:decide (a1≤a0)=true:=decide_eq_true c4;clear c4;obtain rfl:=Option.some.inj H
  go_enter Try.func33,Try.ntmps33
  go_wp2
  go_ret;exact⟨by first|rfl|(simp;done)|(simp[*];done),by repeat(first|exact Drawn0.refl _|apply Drawn0.step)⟩
 rw[if_neg c4]at H;have a3:decide (a1≤a0)=false:=decide_eq_false c4;clear c4;obtain rfl:=Option.some.inj H
 go_enter Try.func33,Try.ntmps33
 go_wp2
 go_ret;exact⟨by first|rfl|(simp;done)|(simp[*];done),by repeat(first|exact Drawn0.refl _|apply Drawn0.step)⟩
end Go.Proofs.Ytkecbmgdmkmfgaa.QFnFlyNext
