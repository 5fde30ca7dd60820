/- The walk of what the law FnHandWho reaches: laid by a program of this session (ownprint.py). -/
import Derived.Test.YtmdmfldpohaegaaQFnHandWhox0
namespace Go.Proofs.Ytmdmfldpohaegaa.QFnHandWho
open Go.RowKit Go.Proofs.YtmdmfldpohaegaaW.PrintWords Go.Proofs.YtmdmfldpohaegaaW.PrintLast Go.Proofs.YtmdmfldpohaegaaW.PrintMore Go.Proofs.Ytmdmfldpohaegaa.Z
attribute [local go_sem] max2_int min2_int max_two min_two max_three min_three max_four min_four zdn   -- for this text's walks alone
set_option linter.unusedVariables false
set_option linter.unusedSimpArgs false
/-- A state of type 54 at block g of W; what its slices lead to came in by w0. -/
def IsS54 (w0 W:World) (g:Nat) (f0:List Int) (f1:Int):Prop:= ∃A0 c0,W.heap[g]?=some (.cells #[.slice A0 f0.length c0,.int .i64 f1] 54 (0,0))∧w0.heap.size≤g∧Kd.C (Kd.int .u8) w0 A0 f0.length f0
theorem IsS54.grown {w0 W:World} {g:Nat} {f0:List Int} {f1:Int} {W1:World} {row:Option Nat} (h:IsS54 w0 W g f0 f1) (hw:W.grownBy W1 row) (hne:some g≠row):IsS54 w0 W1 g f0 f1:=by
 obtain⟨A0,c0,hb,hg,hr0⟩:=h;exact⟨A0,c0,blk_grown hb hw hne,hg,hr0⟩
theorem IsS54.own_neN {w0 W:World} {g:Nat} {f0:List Int} {f1:Int} {α:Type} {d:Kd α} {e:Nat} {base:Nat} {ok:Nat→Prop} {v:Value} {xs:List α} (h:IsS54 w0 W g f0 f1) (ho:Kd.N d e W base ok v xs) (ht:e≠54):some g≠v.ownBlock:=by
 obtain⟨A0,c0,hb,hg,hr0⟩:=h;exact Kd.N_ne ho hb ht
theorem IsS54.fresh {w0 W:World} {g:Nat} {f0:List Int} {f1:Int} (h:IsS54 w0 W g f0 f1): ∀k,W.heap.size≤k→k≠g:=by
 obtain⟨A0,c0,hb,hg,hr0⟩:=h;exact Kd.freshB hb
theorem IsS54.kept {w0 W:World} {g:Nat} {f0:List Int} {f1:Int} {W1:World} {S:Nat→Prop} (h:IsS54 w0 W g f0 f1) (hk:Kept W W1 S) (hne: ¬S g):IsS54 w0 W1 g f0 f1:=by
 obtain⟨A0,c0,hb,hg,hr0⟩:=h;exact⟨A0,c0,blk_kept hb hk hne,hg,hr0⟩
theorem IsS54.below {w0 W:World} {g:Nat} {f0:List Int} {f1:Int} {W1:World} (h:IsS54 w0 W g f0 f1) (hw:Below W.heap.size W W1):IsS54 w0 W1 g f0 f1:=h.grown (grown_of_below hw none) (by simp)
theorem IsS54.alloc {w0 W:World} {g:Nat} {f0:List Int} {f1:Int} (h:IsS54 w0 W g f0 f1) (o:Obj):IsS54 w0 (W.alloc o) g f0 f1:=h.below (below_alloc (Below.refl _ _) o)
theorem IsS54.drewN {w0 W:World} {g:Nat} {f0:List Int} {f1:Int} (h:IsS54 w0 W g f0 f1) (m:Nat):IsS54 w0 (W.drewN m) g f0 f1:=h
theorem IsS54.drew {w0 W:World} {g:Nat} {f0:List Int} {f1:Int} (h:IsS54 w0 W g f0 f1):IsS54 w0 W.drew g f0 f1:=h
theorem IsS54.at_ {w0 W:World} {g:Nat} {f0:List Int} {f1:Int} {w':World} {m:Nat} (hq:W.drewN m=w') (h:IsS54 w0 W g f0 f1):IsS54 w0 w' g f0 f1:=by subst hq;exact IsS54.drewN h m
theorem IsS54.apart {w0 W:World} {g:Nat} {f0:List Int} {f1:Int} {α:Type} {d:Kd α} {e:Nat} {base:Nat} {ok:Nat→Prop} {v:Value} {xs:List α} (h:IsS54 w0 W g f0 f1) (ho:d.R e W base ok v xs) (ht: ∀q,q∈e::d.E→q≠54):d.R e W base (fun k=>ok k∧k≠g) v xs:=by
 obtain⟨A0,c0,hb,hg,hr0⟩:=h;exact Kd.R_types ho hb ht
theorem IsS54.own_ne {w0 W:World} {g:Nat} {f0:List Int} {f1:Int} {α:Type} {d:Kd α} {e:Nat} {base:Nat} {ok:Nat→Prop} {v:Value} {xs:List α} (h:IsS54 w0 W g f0 f1) (ho:d.R e W base ok v xs) (ht:e≠54):some g≠v.ownBlock:=by
 obtain⟨A0,c0,hb,hg,hr0⟩:=h;exact Kd.R_ne ho hb ht
theorem IsS54.apartQ {w0 W:World} {g:Nat} {f0:List Int} {f1:Int} {α:Type} {d:Kd α} {e:Nat} {base:Nat} {ok:Nat→Prop} {v:Value} {xs:List α} (h:IsS54 w0 W g f0 f1) (ho:d.Q e W base ok v xs) (ht: ∀q,q∈e::d.E→q≠54):d.Q e W base (fun k=>ok k∧k≠g) v xs:=by
 obtain⟨A0,c0,hb,hg,hr0⟩:=h;exact Kd.Q_types ho hb ht
theorem IsS54.own_neQ {w0 W:World} {g:Nat} {f0:List Int} {f1:Int} {α:Type} {d:Kd α} {e:Nat} {base:Nat} {ok:Nat→Prop} {v:Value} {xs:List α} (h:IsS54 w0 W g f0 f1) (ho:d.Q e W base ok v xs) (ht:e≠54):some g≠v.ownBlock:=by
 obtain⟨A0,c0,hb,hg,hr0⟩:=h;exact Kd.Q_ne ho hb ht
theorem IsS54.apartS {w0 W:World} {g:Nat} {f0:List Int} {f1:Int} {α:Type} {d:Kd α} {e:Nat} {base:Nat} {ok:Nat→Prop} {v:Value} {xs:List α} (h:IsS54 w0 W g f0 f1) (ho:d.S e W base ok v xs) (ht: ∀q,q∈e::d.E→q≠54):d.S e W base (fun k=>ok k∧k≠g) v xs:=by
 obtain⟨A0,c0,hb,hg,hr0⟩:=h;exact Kd.S_types ho hb ht
theorem IsS54.own_neS {w0 W:World} {g:Nat} {f0:List Int} {f1:Int} {α:Type} {d:Kd α} {e:Nat} {base:Nat} {ok:Nat→Prop} {v:Value} {xs:List α} (h:IsS54 w0 W g f0 f1) (ho:d.S e W base ok v xs) (ht:e≠54):some g≠v.ownBlock:=by
 obtain⟨A0,c0,hb,hg,hr0⟩:=h;exact Kd.S_ne ho hb ht
theorem IsS54.lt {w0 W:World} {g:Nat} {f0:List Int} {f1:Int} (h:IsS54 w0 W g f0 f1):g<W.heap.size:=by
 obtain⟨A0,c0,hb,hg,hr0⟩:=h;exact blk_lt hb
theorem IsS54.ge {w0 W:World} {g:Nat} {f0:List Int} {f1:Int} (h:IsS54 w0 W g f0 f1):w0.heap.size≤g:=by
 obtain⟨A0,c0,hb,hg,hr0⟩:=h;exact hg
theorem IsS54.ne_blk {w0 W:World} {g:Nat} {f0:List Int} {f1:Int} {a:Nat} {cs:Array Value} {t:TypeId} {fr:Nat×Nat} (h:IsS54 w0 W g f0 f1) (hb2:W.heap[a]?=some (.cells cs t fr)) (ht:t≠54):g≠a:=by
 obtain⟨A0,c0,hb,hg,hr0⟩:=h;rintro rfl;rw[hb]at hb2
 injection hb2 with hb2
 injection hb2 with _ ht2
 exact ht ht2.symm
theorem IsS54.far {w0 W:World} {g:Nat} {f0:List Int} {f1:Int} {p:Addr} (h:IsS54 w0 W g f0 f1) (hne:g≠p.block) (u:Value):IsS54 w0 (W.setCell p u) g f0 f1:=by
 obtain⟨A0,c0,hb,hg,hr0⟩:=h;exact⟨A0,c0,blk_far hb hne u,hg,hr0⟩
theorem cellS54_0 {W:World} {g:Nat} {A0:Option Addr} {c0:Nat} {f0:List Int} {f1:Int} (h:W.heap[g]?=some (.cells #[.slice A0 f0.length c0,.int .i64 f1] 54 (0,0))):W.cell? ⟨g,0,none⟩=some (.slice A0 f0.length c0):=(blk_cell h 0).trans rfl
theorem cellS54_1 {W:World} {g:Nat} {A0:Option Addr} {c0:Nat} {f0:List Int} {f1:Int} (h:W.heap[g]?=some (.cells #[.slice A0 f0.length c0,.int .i64 f1] 54 (0,0))):W.cell? ⟨g,1,none⟩=some (.int .i64 f1):=(blk_cell h 1).trans rfl
theorem IsS54.set_1 {w0 W:World} {g:Nat} {f0:List Int} {f1:Int} (h:IsS54 w0 W g f0 f1) (x:Int):IsS54 w0 (W.setCell ⟨g,1,none⟩ (.int .i64 x)) g f0 x:=by
 obtain⟨A0,c0,hb,hg,hr0⟩:=h;exact⟨A0,c0,by simpa using blk_set hb 1 (.int .i64 x),hg,hr0⟩
theorem IsS54.new (w0 W:World) (A0:Option Addr) (c0:Nat) (f0:List Int) (f1:Int) (hB:Below w0.heap.size w0 W) (hr0:Kd.C (Kd.int .u8) w0 A0 f0.length f0):IsS54 w0 (W.alloc (.cells #[.slice A0 f0.length c0,.int .i64 f1] 54)) W.heap.size f0 f1:=⟨A0,c0,by simpa using heap_alloc_new W _,hB.size,hr0⟩
theorem zI0 {w0 W W':World} {g:Nat} {f0:List Int} {f1:Int} {f0':List Int} {f1':Int} (H:Aside0 (IsS54 w0 W g f0 f1)) (h:IsS54 w0 W g f0 f1→IsS54 w0 W' g f0' f1':=by intro zz;repeat(first|(with_reducible first|exact zz|apply IsS54.alloc|apply IsS54.drewN|apply IsS54.drew|apply IsS54.set_1)|exact zz)):IsS54 w0 W' g f0' f1':=h H.out
theorem zB0 {w0 V W W':World} {g:Nat} {f0:List Int} {f1:Int} (I:Aside0 (IsS54 w0 V g f0 f1)) (H:Aside0 (Below w0.heap.size w0 W)) (h:w0.heap.size≤g→Below w0.heap.size w0 W→Below w0.heap.size w0 W':=by intro zi zz;repeat(first|(with_reducible first|exact zz|apply below_alloc|apply pw_below_drewN|apply below_drew1|refine below_set ?_ zi)|exact zz)):Below w0.heap.size w0 W':=h (IsS54.ge I.out) H.out
theorem zI1 {w0 W W':World} {g a:Nat} {f0:List Int} {f1:Int} {f0':List Int} {f1':Int} (H:Aside0 (IsS54 w0 W g f0 f1)) (A:Aside0 (g≠a)) (h:IsS54 w0 W g f0 f1→g≠a→IsS54 w0 W' g f0' f1':=by intro zz za;repeat(first|(with_reducible first|exact zz|apply IsS54.alloc|apply IsS54.drewN|apply IsS54.drew|apply IsS54.set_1|refine IsS54.far ?_ za _)|exact zz)):IsS54 w0 W' g f0' f1':=h H.out A.out
theorem zB1 {w0 V W W':World} {g a:Nat} {f0:List Int} {f1:Int} (I:Aside0 (IsS54 w0 V g f0 f1)) (H:Aside0 (Below w0.heap.size w0 W)) (A:Aside0 (w0.heap.size≤a)) (h:w0.heap.size≤g→Below w0.heap.size w0 W→w0.heap.size≤a→Below w0.heap.size w0 W':=by intro zi zz za;repeat(first|(with_reducible first|exact zz|apply below_alloc|apply pw_below_drewN|apply below_drew1|refine below_set ?_ zi|refine below_set ?_ za)|exact zz)):Below w0.heap.size w0 W':=h (IsS54.ge I.out) H.out A.out
theorem zI2 {w0 W W':World} {g a b:Nat} {f0:List Int} {f1:Int} {f0':List Int} {f1':Int} (H:Aside0 (IsS54 w0 W g f0 f1)) (A:Aside0 (g≠a)) (B:Aside0 (g≠b)) (h:IsS54 w0 W g f0 f1→g≠a→g≠b→IsS54 w0 W' g f0' f1':=by intro zz za zb;repeat(first|(with_reducible first|exact zz|apply IsS54.alloc|apply IsS54.drewN|apply IsS54.drew|apply IsS54.set_1|refine IsS54.far ?_ za _|refine IsS54.far ?_ zb _)|exact zz)):IsS54 w0 W' g f0' f1':=h H.out A.out B.out
theorem zB2 {w0 V W W':World} {g a b:Nat} {f0:List Int} {f1:Int} (I:Aside0 (IsS54 w0 V g f0 f1)) (H:Aside0 (Below w0.heap.size w0 W)) (A:Aside0 (w0.heap.size≤a)) (B:Aside0 (w0.heap.size≤b)) (h:w0.heap.size≤g→Below w0.heap.size w0 W→w0.heap.size≤a→w0.heap.size≤b→Below w0.heap.size w0 W':=by intro zi zz za zb;repeat(first|(with_reducible first|exact zz|apply below_alloc|apply pw_below_drewN|apply below_drew1|refine below_set ?_ zi|refine below_set ?_ za|refine below_set ?_ zb)|exact zz)):Below w0.heap.size w0 W':=h (IsS54.ge I.out) H.out A.out B.out
theorem zI3 {w0 W W':World} {g a b c:Nat} {f0:List Int} {f1:Int} {f0':List Int} {f1':Int} (H:Aside0 (IsS54 w0 W g f0 f1)) (A:Aside0 (g≠a)) (B:Aside0 (g≠b)) (C:Aside0 (g≠c)) (h:IsS54 w0 W g f0 f1→g≠a→g≠b→g≠c→IsS54 w0 W' g f0' f1':=by intro zz za zb zc;repeat(first|(with_reducible first|exact zz|apply IsS54.alloc|apply IsS54.drewN|apply IsS54.drew|apply IsS54.set_1|refine IsS54.far ?_ za _|refine IsS54.far ?_ zb _|refine IsS54.far ?_ zc _)|exact zz)):IsS54 w0 W' g f0' f1':=h H.out A.out B.out C.out
theorem zB3 {w0 V W W':World} {g a b c:Nat} {f0:List Int} {f1:Int} (I:Aside0 (IsS54 w0 V g f0 f1)) (H:Aside0 (Below w0.heap.size w0 W)) (A:Aside0 (w0.heap.size≤a)) (B:Aside0 (w0.heap.size≤b)) (C:Aside0 (w0.heap.size≤c)) (h:w0.heap.size≤g→Below w0.heap.size w0 W→w0.heap.size≤a→w0.heap.size≤b→w0.heap.size≤c→Below w0.heap.size w0 W':=by intro zi zz za zb zc;repeat(first|(with_reducible first|exact zz|apply below_alloc|apply pw_below_drewN|apply below_drew1|refine below_set ?_ zi|refine below_set ?_ za|refine below_set ?_ zb|refine below_set ?_ zc)|exact zz)):Below w0.heap.size w0 W':=h (IsS54.ge I.out) H.out A.out B.out C.out
theorem zI4 {w0 W W':World} {g a b c d:Nat} {f0:List Int} {f1:Int} {f0':List Int} {f1':Int} (H:Aside0 (IsS54 w0 W g f0 f1)) (A:Aside0 (g≠a)) (B:Aside0 (g≠b)) (C:Aside0 (g≠c)) (D:Aside0 (g≠d)) (h:IsS54 w0 W g f0 f1→g≠a→g≠b→g≠c→g≠d→IsS54 w0 W' g f0' f1':=by intro zz za zb zc zd;repeat(first|(with_reducible first|exact zz|apply IsS54.alloc|apply IsS54.drewN|apply IsS54.drew|apply IsS54.set_1|refine IsS54.far ?_ za _|refine IsS54.far ?_ zb _|refine IsS54.far ?_ zc _|refine IsS54.far ?_ zd _)|exact zz)):IsS54 w0 W' g f0' f1':=h H.out A.out B.out C.out D.out
theorem zB4 {w0 V W W':World} {g a b c d:Nat} {f0:List Int} {f1:Int} (I:Aside0 (IsS54 w0 V g f0 f1)) (H:Aside0 (Below w0.heap.size w0 W)) (A:Aside0 (w0.heap.size≤a)) (B:Aside0 (w0.heap.size≤b)) (C:Aside0 (w0.heap.size≤c)) (D:Aside0 (w0.heap.size≤d)) (h:w0.heap.size≤g→Below w0.heap.size w0 W→w0.heap.size≤a→w0.heap.size≤b→w0.heap.size≤c→w0.heap.size≤d→Below w0.heap.size w0 W':=by intro zi zz za zb zc zd;repeat(first|(with_reducible first|exact zz|apply below_alloc|apply pw_below_drewN|apply below_drew1|refine below_set ?_ zi|refine below_set ?_ za|refine below_set ?_ zb|refine below_set ?_ zc|refine below_set ?_ zd)|exact zz)):Below w0.heap.size w0 W':=h (IsS54.ge I.out) H.out A.out B.out C.out D.out
theorem zI5 {w0 W W':World} {g a b c d e:Nat} {f0:List Int} {f1:Int} {f0':List Int} {f1':Int} (H:Aside0 (IsS54 w0 W g f0 f1)) (A:Aside0 (g≠a)) (B:Aside0 (g≠b)) (C:Aside0 (g≠c)) (D:Aside0 (g≠d)) (E:Aside0 (g≠e)) (h:IsS54 w0 W g f0 f1→g≠a→g≠b→g≠c→g≠d→g≠e→IsS54 w0 W' g f0' f1':=by intro zz za zb zc zd ze;repeat(first|(with_reducible first|exact zz|apply IsS54.alloc|apply IsS54.drewN|apply IsS54.drew|apply IsS54.set_1|refine IsS54.far ?_ za _|refine IsS54.far ?_ zb _|refine IsS54.far ?_ zc _|refine IsS54.far ?_ zd _|refine IsS54.far ?_ ze _)|exact zz)):IsS54 w0 W' g f0' f1':=h H.out A.out B.out C.out D.out E.out
theorem zB5 {w0 V W W':World} {g a b c d e:Nat} {f0:List Int} {f1:Int} (I:Aside0 (IsS54 w0 V g f0 f1)) (H:Aside0 (Below w0.heap.size w0 W)) (A:Aside0 (w0.heap.size≤a)) (B:Aside0 (w0.heap.size≤b)) (C:Aside0 (w0.heap.size≤c)) (D:Aside0 (w0.heap.size≤d)) (E:Aside0 (w0.heap.size≤e)) (h:w0.heap.size≤g→Below w0.heap.size w0 W→w0.heap.size≤a→w0.heap.size≤b→w0.heap.size≤c→w0.heap.size≤d→w0.heap.size≤e→Below w0.heap.size w0 W':=by intro zi zz za zb zc zd ze;repeat(first|(with_reducible first|exact zz|apply below_alloc|apply pw_below_drewN|apply below_drew1|refine below_set ?_ zi|refine below_set ?_ za|refine below_set ?_ zb|refine below_set ?_ zc|refine below_set ?_ zd|refine below_set ?_ ze)|exact zz)):Below w0.heap.size w0 W':=h (IsS54.ge I.out) H.out A.out B.out C.out D.out E.out
theorem zib {w0 W W1:World} {g:Nat} {f0:List Int} {f1:Int} (h:IsS54 w0 W g f0 f1) (hb:Below W.heap.size W W1):Aside0 (IsS54 w0 W1 g f0 f1):=⟨h.below hb⟩
theorem zok {α:Type} {d:Kd α} {e base g:Nat} {ok:Nat→Prop} {v:Value} {xs:List α} {w0 W W1:World} {f0:List Int} {f1:Int} (h:IsS54 w0 W g f0 f1) (R:d.R e W base ok v xs) (hk:KeepBut W W1 g none) (ht: ∀q,q∈e::d.E→q≠54:=by decide):Aside0 (d.R e W1 base ok v xs):=⟨Kd.R_mono (Kd.R_keep (h.apart R ht) hk (fun _ x=>x.2)) (fun _ x=>x.1)⟩
theorem zhk {α:Type} {d:Kd α} {e base g n c:Nat} {ok:Nat→Prop} {ad:Addr} {xs:List α} {w0 W W1 V:World} {a:Addr} {u:Value} {f0:List Int} {f1:Int} (hk:KeepBut W W1 g none) (hc:W.cell? a=some u) (I:Aside0 (IsS54 w0 V g f0 f1)) (O:Aside0 (d.R e V base ok (.slice (some ad) n c) xs)) (ht:e≠54:=by decide) (hn:ad.block≠g→a.block≠g:=by intro zz;first|(rw[add_block];exact zz)|(show(Addr.add _ _).block≠_;rw[add_block];exact zz)|exact zz):W1.cell? a=some u:=keep_cell hk hc (hn (Kd.own_blk (I.out.own_ne O.out ht)))
def spec_l31Open.f (l0:List Int):Option (List Int×Int):=if(l0.length:Int)>2000 then(if 2000≤(l0.length:Int)then(some (l0.take 2000,0))else(none))else(some (l0,0))
set_option maxHeartbeats 8000000 in
set_option maxRecDepth 100000 in
theorem spec_l31Open.calls (A0:Option Addr) (c0:Nat) (l0:List Int) (r1:List Int) (r2:Int) (w0 w:World) (hB:Below w0.heap.size w0 w) (hr0:Kd.C (Kd.int .u8) w0 A0 l0.length l0) (hc0:l0.length≤c0) (h:spec_l31Open.f l0=some (r1,r2)):
 Calls Try.prog 17 #[.slice A0 l0.length c0] w fun e w'=> ∃g_:Nat,e= .returned (.pointer (some ⟨g_,0,none⟩))∧IsS54 w0 w' g_ r1 r2∧Below w0.heap.size w0 w'∧Below w.heap.size w w':=by
 have b4:=Try.underlying54;have b1:=zA hr0;have b5:=zA hc0;clear hr0 hc0;have HBW:=zA (Below.refl w.heap.size w);have b2:=zA hB.size;have HB:=zA hB;clear hB;have H:=h;clear h;unfold spec_l31Open.f at H
 by_cases c2:(l0.length:Int)>2000
 rotate_left
 ·rw[if_neg c2]at H
  have a9:decide (2000<(l0.length:Int))=false:=decide_eq_false c2;have b0:decide (2000<l0.length)=false:=decide_eq_false (by omega);clear c2;simp only[Option.some.injEq,Prod.mk.injEq]at H;obtain⟨rfl,rfl⟩:=H
  go_enter Try.func17,Try.ntmps17
  go_wp2_with (first|((with_reducible refine gate_dst (N:=10) rfl ?_);refine zbx 10 #[.slice A0 l0.length c0,.int .i64 0] 54 ?_;intro a0 hg w6 hbox hb;have a4:=zA hbox;have a5:=zA ((by rw[hg];exact(below_size (by repeat(first|(with_reducible first|exact HBW.out|apply below_alloc|apply pw_below_drewN|apply below_drew1)|exact HBW.out))):w.heap.size≤a0));have a2:=zA ((Nat.le_trans b2.out (by rw[hg];exact(below_size (by repeat(first|(with_reducible first|exact HBW.out|apply below_alloc|apply pw_below_drewN|apply below_drew1)|exact HBW.out))):w.heap.size≤a0):w0.heap.size≤a0));replace HBW:=zA (below_step HBW.out hb);replace HB:=zE (zs0 HB) hb;clear hb hbox hg))
  go_ret;exact⟨_,rfl,(show IsS54 w0 _ a0 l0 0 from⟨_,_,zh a4,a2.out,b1.out⟩),zs1 HB a2,by repeat(first|(with_reducible first|exact HBW.out|apply below_alloc|apply pw_below_drewN|apply below_drew1|refine below_set ?_ a5.out)|exact HBW.out)⟩
 rw[if_pos c2]at H;have a9:decide (2000<(l0.length:Int))=true:=decide_eq_true c2;have b0:decide (2000<l0.length)=true:=decide_eq_true (by omega);clear c2
 by_cases c3:2000≤(l0.length:Int)
 rotate_left
 ·rw[if_neg c3]at H
  exact absurd H (by simp)
 rw[if_pos c3]at H;have b6:=eq_true c3;have b7:decide (2000≤(l0.length:Int))=true:=decide_eq_true c3;clear c3;simp only[Option.some.injEq,Prod.mk.injEq]at H;obtain⟨rfl,rfl⟩:=H;obtain⟨i04,hi04,_,hsz4,_⟩:=info_parts info5;obtain⟨hcut4,hA4,hC4⟩:=print_take_of (P:=Try.prog) (Value.int .u8) 0 22 5 .i64 Try.underlying22 hi04 hsz4 A0 c0 l0 2000 (by omega) (za) b5.out;have a6:=zA (Kd.C_of_reads (h1:=fun _=>rfl) (hA4 _ (Kd.reads_of_C b1.out)));have b3:=zA hC4;clear hA4 hC4 hi04 hsz4
 go_enter Try.func17,Try.ntmps17
 go_wp2_with (first|((with_reducible refine gate_dst (N:=10) rfl ?_);refine zbx 10 #[.slice A0 (l0.take 2000).length c0,.int .i64 0] 54 ?_;intro a1 hg w5 hbox hb;have a7:=zA hbox;have a8:=zA ((by rw[hg];exact(below_size (by repeat(first|(with_reducible first|exact HBW.out|apply below_alloc|apply pw_below_drewN|apply below_drew1)|exact HBW.out))):w.heap.size≤a1));have a3:=zA ((Nat.le_trans b2.out (by rw[hg];exact(below_size (by repeat(first|(with_reducible first|exact HBW.out|apply below_alloc|apply pw_below_drewN|apply below_drew1)|exact HBW.out))):w.heap.size≤a1):w0.heap.size≤a1));replace HBW:=zA (below_step HBW.out hb);replace HB:=zE (zs0 HB) hb;clear hb hbox hg))
 go_ret;exact⟨_,rfl,(show IsS54 w0 _ a1 (l0.take 2000) 0 from⟨_,_,zh a7,a3.out,a6.out⟩),zs1 HB a3,by repeat(first|(with_reducible first|exact HBW.out|apply below_alloc|apply pw_below_drewN|apply below_drew1|refine below_set ?_ a8.out)|exact HBW.out)⟩
def spec_l31Rd_pick.j0:Nat→Int→Bool→List Int→Int→Option (Int×Int)
 |0,_,_,_,_=>none
 |k+1,x1,x24,a0,a1=>if x24=true then(some (0,a1))else(if(wrap64 (a1-1))<(a0.length:Int)then(if 0≤(wrap64 (a1-1))then(if x1=0 then(none)else(some (Int.tmod (wrap64 (rd a0 (wrap64 (a1-1)))) x1,a1)))else(none))else(if(a0.length:Int)=0 then(none)else(if 0≤(Int.tmod (wrap64 (a1-1)) (a0.length:Int))then(if(Int.tmod (wrap64 (a1-1)) (a0.length:Int))<(a0.length:Int)then(if 0≤(Int.tmod (wrap64 ((wrap64 ((wrap64 (a1-1))*7))+3)) (a0.length:Int))then(if(Int.tmod (wrap64 ((wrap64 ((wrap64 (a1-1))*7))+3)) (a0.length:Int))<(a0.length:Int)then(if x1=0 then(none)else(some (Int.tmod (Go.bits .xor .i64 (wrap64 ((wrap64 ((wrap64 ((wrap64 ((wrap64 (rd a0 (Int.tmod (wrap64 (a1-1)) (a0.length:Int))))*131))+(wrap64 ((wrap64 (rd a0 (Int.tmod (wrap64 ((wrap64 ((wrap64 (a1-1))*7))+3)) (a0.length:Int))))*1117))))+(wrap64 ((wrap64 (a1-1))*29))))+(wrap64 ((wrap64 (Int.tdiv (wrap64 (a1-1)) (a0.length:Int)))*53)))) (wrap64 (Int.tdiv (wrap64 ((wrap64 ((wrap64 ((wrap64 ((wrap64 (rd a0 (Int.tmod (wrap64 (a1-1)) (a0.length:Int))))*131))+(wrap64 ((wrap64 (rd a0 (Int.tmod (wrap64 ((wrap64 ((wrap64 (a1-1))*7))+3)) (a0.length:Int))))*1117))))+(wrap64 ((wrap64 (a1-1))*29))))+(wrap64 ((wrap64 (Int.tdiv (wrap64 (a1-1)) (a0.length:Int)))*53)))) 64))) x1,a1)))else(none))else(none))else(none))else(none))))
def spec_l31Rd_pick.f (k:Nat) (s0_0:List Int) (s0_1:Int) (a1:Int):Option (Int×Int):=if a1<1 then(spec_l31Rd_pick.j0 k a1 true s0_0 (wrap64 (s0_1+1)))else(spec_l31Rd_pick.j0 k a1 ((s0_0.length:Int)==0) s0_0 (wrap64 (s0_1+1)))
set_option maxHeartbeats 8000000 in
set_option maxRecDepth 100000 in
theorem spec_l31Rd_pick.calls (k:Nat) (g:Nat) (s0_0:List Int) (s0_1:Int) (a1:Int) (r1:Int) (r2:Int) (w0 w:World) (hI:IsS54 w0 w g s0_0 s0_1) (hB:Below w0.heap.size w0 w) (h:spec_l31Rd_pick.f k s0_0 s0_1 a1=some (r1,r2)):
 Calls Try.prog 20 #[.pointer (some ⟨g,0,none⟩),.int .i64 a1] w fun e w'=>e= .returned (.int .i64 r1)∧IsS54 w0 w' g s0_0 r2∧Below w0.heap.size w0 w'∧KeepBut w w' g none:=by
 have a0:=zA hI;have HK:=zA (KeepBut.refl w g none);have HL:=zA hB.size;clear hI;have g6:=zA hB.size;have HB:=zA hB;clear hB;have H:=h;clear h;unfold spec_l31Rd_pick.f at H;have e7:=zA H;clear H;obtain⟨ASz4_0,cSz4_0,HGz4,hgz4,HSz4_0⟩:=a0.out;have b2:=cellS54_0 HGz4;have b3:=cellS54_1 HGz4;have b4:=blk_frozen HGz4 1;clear HGz4 hgz4
 go_enter Try.func20,Try.ntmps20
 go_upto_region 2 with(fail)
 repeat(go_quiet (fail);go_upto_region 2 with(fail))
 go_cut [24] (fun g5 wc=> ∃(kq:Nat) (a2:Bool),g5= .bool a2∧Aside0 (spec_l31Rd_pick.j0 kq a1 a2 s0_0 (wrap64 (s0_1+1))=some (r1,r2))∧Aside0 (kq≤k)∧Aside0 (IsS54 w0 wc g s0_0 (wrap64 (s0_1+1)))∧Aside0 (KeepBut w wc g none)∧Aside0 (Below w0.heap.size w0 wc))
 case first=>
  have H:=e7.out;clear e7
  by_cases c5:a1<1
  ·rw[if_pos c5]at H
   have a6:decide (a1<1)=true:=decide_eq_true c5;clear c5;(first|rw[a6]|(simp only[i64_w,i32_w];rw[a6])|skip);have H':=zA H;clear H
   go_wp2
   repeat(go_quiet (fail);try go_wp2)
   go_meet
   case rel=>exact⟨_,(true),zi,H',⟨by first|omega|exact Nat.le_refl _⟩,⟨zI0 a0⟩,⟨zK0 HK⟩,⟨zB0 a0 HB⟩⟩
  rw[if_neg c5]at H;have a6:decide (a1<1)=false:=decide_eq_false c5;clear c5;(first|rw[a6]|(simp only[i64_w,i32_w];rw[a6])|skip);have H':=zA H;clear H;obtain⟨ASz6_0,cSz6_0,HGz6,hgz6,HSz6_0⟩:=a0.out;have b5:=cellS54_0 HGz6;have b6:=cellS54_1 HGz6;have b7:=blk_frozen HGz6 1;clear HGz6 hgz6
  go_wp2
  repeat(go_quiet (fail);try go_wp2)
  go_meet
  case rel=>exact⟨_,(((s0_0.length:Int)==0)),zi,H',⟨by first|omega|exact Nat.le_refl _⟩,⟨zI0 a0⟩,⟨zK0 HK⟩,⟨zB0 a0 HB⟩⟩
 case rest=>
  clear e7
  try clear c2
  try clear p2
  try clear c5
  try clear a6
  try clear p6
  try clear b2 b3
  try clear b5 b6
  try clear b4
  try clear b7
  obtain⟨kq,a2,rfl,HA,g7,a0,HK,HB⟩:=hcut
  cases kq with
  |zero=>exact absurd HA.out (by simp[spec_l31Rd_pick.j0])
  |succ g8=>
   have H:=HA.out;clear HA;simp only[spec_l31Rd_pick.j0]at H
   by_cases c7:a2=true
   ·subst c7
    rw[if_pos rfl]at H;simp only[Option.some.injEq,Prod.mk.injEq]at H;obtain⟨rfl,rfl⟩:=H
    go_wp2
    repeat(go_quiet (fail);try go_wp2)
    go_ret;exact⟨ze,zI0 a0,zB0 a0 HB,zK0 HK⟩
   replace c7:=Bool.eq_false_iff.mpr c7;subst c7;rw[if_neg zfn]at H
   by_cases c8:(wrap64 ((wrap64 (s0_1+1))-1))<(s0_0.length:Int)
   ·rw[if_pos c8]at H
    have d2:decide ((wrap64 ((wrap64 (s0_1+1))-1))<(s0_0.length:Int))=true:=decide_eq_true c8;clear c8;obtain⟨d6,a7⟩: ∃j_:Int,(wrap64 ((wrap64 (s0_1+1))-1))=j_:=⟨_,rfl⟩
    first|rw[a7]at H|simp only[a7]at H
    (try rw[a7]at d2);have f1:(IntKind.i64.wrap ((wrap64 (s0_1+1))-1))=d6:=(i64_w _).trans a7;replace H:=zif H;obtain⟨f2,H⟩:=H
    by_cases d7:a1=0
    ·rw[if_pos d7]at H
     exact absurd H (by simp)
    rw[if_neg d7]at H;have f3:(a1==0)=false:=beq_eq_false_iff_ne.mpr d7;have f4:(a1 !=0)=true:=bne_iff_ne.mpr d7;simp only[Option.some.injEq,Prod.mk.injEq]at H;obtain⟨rfl,rfl⟩:=H;obtain⟨ASz12_0,cSz12_0,HGz12,hgz12,HSz12_0⟩:=a0.out;have d8:=cellS54_0 HGz12;have d9:=cellS54_1 HGz12;have e0:=blk_frozen HGz12 1;clear HGz12 hgz12;have b8:0≤((d6):Int):=za;have b9:(d6)<(s0_0.length:Int):=za;obtain⟨f5,e8,a3⟩:=Kd.at_int HSz12_0 (d6) b8 b9;cases e8;replace a3:=pw_cell_below HB.out a3;replace b8:=eq_true b8;replace b9:=eq_true b9
    go_wp2
    repeat(go_quiet (fail);try go_wp2)
    go_ret;exact⟨by first|rfl|(simp[errW_none,errW_some]<;>rfl)|(simp only[←a7];first|rfl|(simp[errW_none,errW_some]<;>rfl))|(simp[*,errW_none,errW_some]<;>rfl),zI0 a0,zB0 a0 HB,zK0 HK⟩
   rw[if_neg c8]at H;have d2:decide ((wrap64 ((wrap64 (s0_1+1))-1))<(s0_0.length:Int))=false:=decide_eq_false c8;clear c8
   by_cases d3:(s0_0.length:Int)=0
   ·rw[if_pos d3]at H
    exact absurd H (by simp)
   rw[if_neg d3]at H;have f6:((s0_0.length:Int)==0)=false:=beq_eq_false_iff_ne.mpr d3;have f7:((s0_0.length:Int) !=0)=true:=bne_iff_ne.mpr d3
   have f8: ¬(s0_0=[]):=fun h_=>d3 (by rw[h_];rfl)
   obtain⟨a8,a9⟩: ∃j_:Int,(Int.tmod (wrap64 ((wrap64 (s0_1+1))-1)) (s0_0.length:Int))=j_:=⟨_,rfl⟩
   first|rw[a9]at H|simp only[a9]at H
   replace H:=zif H;obtain⟨f9,H⟩:=H
   by_cases e1:(a8)<(s0_0.length:Int)
   rotate_left
   ·rw[if_neg e1]at H
    exact absurd H (by simp)
   rw[if_pos e1]at H;have g0:decide ((a8)<(s0_0.length:Int))=true:=decide_eq_true e1;clear e1;obtain⟨b0,b1⟩: ∃j_:Int,(Int.tmod (wrap64 ((wrap64 ((wrap64 ((wrap64 (s0_1+1))-1))*7))+3)) (s0_0.length:Int))=j_:=⟨_,rfl⟩
   first|rw[b1]at H|simp only[b1]at H
   replace H:=zif H;obtain⟨g1,H⟩:=H
   by_cases e2:(b0)<(s0_0.length:Int)
   rotate_left
   ·rw[if_neg e2]at H
    exact absurd H (by simp)
   rw[if_pos e2]at H;have g2:decide ((b0)<(s0_0.length:Int))=true:=decide_eq_true e2;clear e2
   by_cases e3:a1=0
   ·rw[if_pos e3]at H
    exact absurd H (by simp)
   rw[if_neg e3]at H;have g3:(a1==0)=false:=beq_eq_false_iff_ne.mpr e3;have g4:(a1 !=0)=true:=bne_iff_ne.mpr e3;simp only[Option.some.injEq,Prod.mk.injEq]at H;obtain⟨rfl,rfl⟩:=H;obtain⟨ASz21_0,cSz21_0,HGz21,hgz21,HSz21_0⟩:=a0.out;have e4:=cellS54_0 HGz21;have e5:=cellS54_1 HGz21;have e6:=blk_frozen HGz21 1;clear HGz21 hgz21;have c0:0≤((a8):Int):=za;have c1:(a8)<(s0_0.length:Int):=za;obtain⟨d4,e9,a4⟩:=Kd.at_int HSz21_0 (a8) c0 c1;cases e9;replace a4:=pw_cell_below HB.out a4;replace c0:=eq_true c0;replace c1:=eq_true c1;have d0:0≤((b0):Int):=za;have d1:(b0)<(s0_0.length:Int):=za;obtain⟨d5,f0,a5⟩:=Kd.at_int HSz21_0 (b0) d0 d1;obtain rfl:d4=d5:=(by injection f0);replace a5:=pw_cell_below HB.out a5;replace d0:=eq_true d0;replace d1:=eq_true d1
   go_wp2
   repeat(go_quiet (fail);try go_wp2)
   go_ret;exact⟨by first|rfl|(simp[errW_none,errW_some]<;>rfl)|(simp only[←a9,←b1];first|rfl|(simp[errW_none,errW_some]<;>rfl))|(simp[*,errW_none,errW_some]<;>rfl),zI0 a0,zB0 a0 HB,zK0 HK⟩
def spec_l37Zones.f (k:Nat) (s0_0:List Int) (s0_1:Int):Option ((List (S34))×Int):=(spec_l31Rd_pick.f k s0_0 s0_1 4).bind fun a0=>(if a0.1=0 then(some ((([(⟨(⟨#[101]⟩:ByteArray),4,0,8,6⟩:S34),(⟨(⟨#[119]⟩:ByteArray),0,0,3,6⟩:S34)]:List (S34))),a0.2))else(if a0.1=1 then(some ((([(⟨(⟨#[110,101]⟩:ByteArray),4,4,8,8⟩:S34),(⟨(⟨#[110,119]⟩:ByteArray),0,4,3,8⟩:S34),(⟨(⟨#[115,101]⟩:ByteArray),4,0,8,3⟩:S34),(⟨(⟨#[115,119]⟩:ByteArray),0,0,3,3⟩:S34)]:List (S34))),a0.2))else(if a0.1=2 then(some ((([(⟨(⟨#[97]⟩:ByteArray),0,0,1,6⟩:S34),(⟨(⟨#[98]⟩:ByteArray),2,0,3,6⟩:S34),(⟨(⟨#[99]⟩:ByteArray),4,0,8,6⟩:S34)]:List (S34))),a0.2))else((spec_l31Rd_pick.f k s0_0 a0.2 2).bind fun a1=>(some ((([(⟨(⟨#[101]⟩:ByteArray),wrap64 (4+a1.1),0,8,6⟩:S34),(⟨(⟨#[102,97,114]⟩:ByteArray),14,0,15,15⟩:S34),(⟨(⟨#[119]⟩:ByteArray),0,0,3,6⟩:S34)]:List (S34))),a1.2))))))
set_option maxHeartbeats 8000000 in
set_option maxRecDepth 100000 in
theorem spec_l37Zones.calls (k:Nat) (g:Nat) (s0_0:List Int) (s0_1:Int) (r1:List (S34)) (r2:Int) (w0 w:World) (hI:IsS54 w0 w g s0_0 s0_1) (hB:Below w0.heap.size w0 w) (h:spec_l37Zones.f k s0_0 s0_1=some (r1,r2)):
 Calls Try.prog 18 #[.pointer (some ⟨g,0,none⟩)] w fun e w'=> ∃v0_:Value,e= .returned (v0_)∧Kd.R k34 34 w' w.heap.size (fun _=>True) v0_ r1∧IsS54 w0 w' g s0_0 r2∧Below w0.heap.size w0 w'∧KeepBut w w' g none:=by
 have e3:=Try.underlying34;have a1:=zA hI;have HK:=zA (KeepBut.refl w g none);have HL:=zA hB.size;clear hI;have e9:=zA hB.size;have HB:=zA hB;clear hB;have H:=h;clear h;unfold spec_l37Zones.f at H;replace H:=Option.bind_eq_some_iff.mp H;obtain⟨⟨a0,a2⟩,e2,H⟩:=H;replace H:(if a0=0 then(some ((([(⟨(⟨#[101]⟩:ByteArray),4,0,8,6⟩:S34),(⟨(⟨#[119]⟩:ByteArray),0,0,3,6⟩:S34)]:List (S34))),a2))else(if a0=1 then(some ((([(⟨(⟨#[110,101]⟩:ByteArray),4,4,8,8⟩:S34),(⟨(⟨#[110,119]⟩:ByteArray),0,4,3,8⟩:S34),(⟨(⟨#[115,101]⟩:ByteArray),4,0,8,3⟩:S34),(⟨(⟨#[115,119]⟩:ByteArray),0,0,3,3⟩:S34)]:List (S34))),a2))else(if a0=2 then(some ((([(⟨(⟨#[97]⟩:ByteArray),0,0,1,6⟩:S34),(⟨(⟨#[98]⟩:ByteArray),2,0,3,6⟩:S34),(⟨(⟨#[99]⟩:ByteArray),4,0,8,6⟩:S34)]:List (S34))),a2))else((spec_l31Rd_pick.f k s0_0 a2 2).bind fun b1=>(some ((([(⟨(⟨#[101]⟩:ByteArray),wrap64 (4+b1.1),0,8,6⟩:S34),(⟨(⟨#[102,97,114]⟩:ByteArray),14,0,15,15⟩:S34),(⟨(⟨#[119]⟩:ByteArray),0,0,3,6⟩:S34)]:List (S34))),b1.2))))))=some (r1,r2):=H;have A2:=zA e2;clear e2
 by_cases c3:a0=0
 ·rw[if_pos c3]at H
  have d4:(a0==0)=true:=beq_iff_eq.mpr c3;have d5:(a0 !=0)=false:=bne_eq_false_iff_eq.mpr c3;clear c3;obtain⟨d6,a3⟩: ∃y_:List (S34),y_=(([(⟨(⟨#[101]⟩:ByteArray),4,0,8,6⟩:S34),(⟨(⟨#[119]⟩:ByteArray),0,0,3,6⟩:S34)]:List (S34))):=⟨_,rfl⟩
  replace H:(some (d6,a2))=some (r1,r2):=by first|(rw[a3];with_reducible exact H)|(have H2_:=(Option.bind_some _ _).symm.trans H;rw[a3];with_reducible exact H2_)|(have H2_:=(Option.bind_some _ _).symm.trans H;with_reducible exact H2_)|with_reducible exact H|(rw[a3];exact H)|exact H
  have b2:=zA a3;clear a3;simp only[Option.some.injEq,Prod.mk.injEq]at H;obtain⟨rfl,rfl⟩:=H
  go_enter Try.func18,Try.ntmps18
  go_wp2_with (first|((with_reducible refine gate_callee (f:=20) rfl ?_);refine zgl (N:=some 4) Try.func20 #[.pointer (some ⟨g,0,none⟩),.int .i64 4] ?_;(with_reducible refine(spec_l31Rd_pick.calls k g s0_0 s0_1 4 a0 a2 w0 _ ?side1 ?side2 A2.out).mono ?_);(case side1=>exact zI0 a1);(case side2=>exact zB0 a1 HB);rintro e w4 ⟨rfl,hi,hb,hk⟩;refine⟨_,rfl,?_⟩;replace HK:=zKk (zK0 HK) hk;replace HB:=zA (hb);replace a1:=zA (hi);(try clear hb);(try clear hb2);(try clear hk);(try clear hi))|((with_reducible refine gate_dst (N:=9) rfl ?_);refine Kd.R_lit k34 _ 34 ?hg (N:=9) ?hd (xs:=([(⟨(⟨#[101]⟩:ByteArray),4,0,8,6⟩:S34),(⟨(⟨#[119]⟩:ByteArray),0,0,3,6⟩:S34)]:List (S34))) (inner:=[.string (⟨#[101]⟩:ByteArray),.int .i64 4,.int .i64 0,.int .i64 8,.int .i64 6,.string (⟨#[119]⟩:ByteArray),.int .i64 0,.int .i64 0,.int .i64 3,.int .i64 6]) (ok:=fun _=>True) (okp:=fun _=>True) ?hr ?hp (fun _ hk=>hk) trivial (Below.refl _ _) (Nat.le_refl _) (by simp) ?_;(case hd=>rfl);(case hg=>rfl);(case hr=>first|(go_simp;done)|(go_simp;rfl));(case hp=>exact(Reps.c5 (show Kd.M k34 _ _ _ (⟨(⟨#[101]⟩:ByteArray),4,0,8,6⟩:S34) [.string (⟨#[101]⟩:ByteArray),.int .i64 4,.int .i64 0,.int .i64 8,.int .i64 6]from(k34_mkM _ _ _ (⟨(⟨#[101]⟩:ByteArray),4,0,8,6⟩:S34))) (Reps.c5 (show Kd.M k34 _ _ _ (⟨(⟨#[119]⟩:ByteArray),0,0,3,6⟩:S34) [.string (⟨#[119]⟩:ByteArray),.int .i64 0,.int .i64 0,.int .i64 3,.int .i64 6]from(k34_mkM _ _ _ (⟨(⟨#[119]⟩:ByteArray),0,0,3,6⟩:S34))) (Reps.none _ _))));intro e4 w5 b8 hb hg_ hnew_;clear hg_ hnew_;(first|rw[←b2.out]at b8|(simp only[Int.reduceToNat]at b8;rw[←b2.out]at b8));have b9:=zlo b8 (zK0 HK);replace HK:=zKb (zK0 HK) hb;replace HB:=zE (zB0 a1 HB) hb;replace a1:=zib (zI0 a1) hb;clear hb b8))
  go_ret;exact⟨_,ze,zr b9,zI0 a1,zB0 a1 HB,zK0 HK⟩
 rw[if_neg c3]at H;have d4:(a0==0)=false:=beq_eq_false_iff_ne.mpr c3;have d5:(a0 !=0)=true:=bne_iff_ne.mpr c3
 by_cases c7:a0=1
 ·rw[if_pos c7]at H
  have d7:(a0==1)=true:=beq_iff_eq.mpr c7;have d8:(a0 !=1)=false:=bne_eq_false_iff_eq.mpr c7;clear c7;obtain⟨d9,a4⟩: ∃y_:List (S34),y_=(([(⟨(⟨#[110,101]⟩:ByteArray),4,4,8,8⟩:S34),(⟨(⟨#[110,119]⟩:ByteArray),0,4,3,8⟩:S34),(⟨(⟨#[115,101]⟩:ByteArray),4,0,8,3⟩:S34),(⟨(⟨#[115,119]⟩:ByteArray),0,0,3,3⟩:S34)]:List (S34))):=⟨_,rfl⟩
  replace H:(some (d9,a2))=some (r1,r2):=by first|(rw[a4];with_reducible exact H)|(have H2_:=(Option.bind_some _ _).symm.trans H;rw[a4];with_reducible exact H2_)|(have H2_:=(Option.bind_some _ _).symm.trans H;with_reducible exact H2_)|with_reducible exact H|(rw[a4];exact H)|exact H
  have b3:=zA a4;clear a4;simp only[Option.some.injEq,Prod.mk.injEq]at H;obtain⟨rfl,rfl⟩:=H
  go_enter Try.func18,Try.ntmps18
  go_wp2_with (first|((with_reducible refine gate_callee (f:=20) rfl ?_);refine zgl (N:=some 4) Try.func20 #[.pointer (some ⟨g,0,none⟩),.int .i64 4] ?_;(with_reducible refine(spec_l31Rd_pick.calls k g s0_0 s0_1 4 a0 a2 w0 _ ?side1 ?side2 A2.out).mono ?_);(case side1=>exact zI0 a1);(case side2=>exact zB0 a1 HB);rintro e w8 ⟨rfl,hi,hb,hk⟩;refine⟨_,rfl,?_⟩;replace HK:=zKk (zK0 HK) hk;replace HB:=zA (hb);replace a1:=zA (hi);(try clear hb);(try clear hb2);(try clear hk);(try clear hi))|((with_reducible refine gate_dst (N:=16) rfl ?_);refine Kd.R_lit k34 _ 34 ?hg (N:=16) ?hd (xs:=([(⟨(⟨#[110,101]⟩:ByteArray),4,4,8,8⟩:S34),(⟨(⟨#[110,119]⟩:ByteArray),0,4,3,8⟩:S34),(⟨(⟨#[115,101]⟩:ByteArray),4,0,8,3⟩:S34),(⟨(⟨#[115,119]⟩:ByteArray),0,0,3,3⟩:S34)]:List (S34))) (inner:=[.string (⟨#[110,101]⟩:ByteArray),.int .i64 4,.int .i64 4,.int .i64 8,.int .i64 8,.string (⟨#[110,119]⟩:ByteArray),.int .i64 0,.int .i64 4,.int .i64 3,.int .i64 8,.string (⟨#[115,101]⟩:ByteArray),.int .i64 4,.int .i64 0,.int .i64 8,.int .i64 3,.string (⟨#[115,119]⟩:ByteArray),.int .i64 0,.int .i64 0,.int .i64 3,.int .i64 3]) (ok:=fun _=>True) (okp:=fun _=>True) ?hr ?hp (fun _ hk=>hk) trivial (Below.refl _ _) (Nat.le_refl _) (by simp) ?_;(case hd=>rfl);(case hg=>rfl);(case hr=>first|(go_simp;done)|(go_simp;rfl));(case hp=>exact(Reps.c5 (show Kd.M k34 _ _ _ (⟨(⟨#[110,101]⟩:ByteArray),4,4,8,8⟩:S34) [.string (⟨#[110,101]⟩:ByteArray),.int .i64 4,.int .i64 4,.int .i64 8,.int .i64 8]from(k34_mkM _ _ _ (⟨(⟨#[110,101]⟩:ByteArray),4,4,8,8⟩:S34))) (Reps.c5 (show Kd.M k34 _ _ _ (⟨(⟨#[110,119]⟩:ByteArray),0,4,3,8⟩:S34) [.string (⟨#[110,119]⟩:ByteArray),.int .i64 0,.int .i64 4,.int .i64 3,.int .i64 8]from(k34_mkM _ _ _ (⟨(⟨#[110,119]⟩:ByteArray),0,4,3,8⟩:S34))) (Reps.c5 (show Kd.M k34 _ _ _ (⟨(⟨#[115,101]⟩:ByteArray),4,0,8,3⟩:S34) [.string (⟨#[115,101]⟩:ByteArray),.int .i64 4,.int .i64 0,.int .i64 8,.int .i64 3]from(k34_mkM _ _ _ (⟨(⟨#[115,101]⟩:ByteArray),4,0,8,3⟩:S34))) (Reps.c5 (show Kd.M k34 _ _ _ (⟨(⟨#[115,119]⟩:ByteArray),0,0,3,3⟩:S34) [.string (⟨#[115,119]⟩:ByteArray),.int .i64 0,.int .i64 0,.int .i64 3,.int .i64 3]from(k34_mkM _ _ _ (⟨(⟨#[115,119]⟩:ByteArray),0,0,3,3⟩:S34))) (Reps.none _ _))))));intro e5 w9 a8 hb hg_ hnew_;clear hg_ hnew_;(first|rw[←b3.out]at a8|(simp only[Int.reduceToNat]at a8;rw[←b3.out]at a8));have c0:=zlo a8 (zK0 HK);replace HK:=zKb (zK0 HK) hb;replace HB:=zE (zB0 a1 HB) hb;replace a1:=zib (zI0 a1) hb;clear hb a8))
  go_ret;exact⟨_,ze,zr c0,zI0 a1,zB0 a1 HB,zK0 HK⟩
 rw[if_neg c7]at H;have d7:(a0==1)=false:=beq_eq_false_iff_ne.mpr c7;have d8:(a0 !=1)=true:=bne_iff_ne.mpr c7
 by_cases b6:a0=2
 ·rw[if_pos b6]at H
  have c1:(a0==2)=true:=beq_iff_eq.mpr b6;have d0:(a0 !=2)=false:=bne_eq_false_iff_eq.mpr b6;clear b6;obtain⟨e0,a5⟩: ∃y_:List (S34),y_=(([(⟨(⟨#[97]⟩:ByteArray),0,0,1,6⟩:S34),(⟨(⟨#[98]⟩:ByteArray),2,0,3,6⟩:S34),(⟨(⟨#[99]⟩:ByteArray),4,0,8,6⟩:S34)]:List (S34))):=⟨_,rfl⟩
  replace H:(some (e0,a2))=some (r1,r2):=by first|(rw[a5];with_reducible exact H)|(have H2_:=(Option.bind_some _ _).symm.trans H;rw[a5];with_reducible exact H2_)|(have H2_:=(Option.bind_some _ _).symm.trans H;with_reducible exact H2_)|with_reducible exact H|(rw[a5];exact H)|exact H
  have b4:=zA a5;clear a5;simp only[Option.some.injEq,Prod.mk.injEq]at H;obtain⟨rfl,rfl⟩:=H
  go_enter Try.func18,Try.ntmps18
  go_wp2_with (first|((with_reducible refine gate_callee (f:=20) rfl ?_);refine zgl (N:=some 4) Try.func20 #[.pointer (some ⟨g,0,none⟩),.int .i64 4] ?_;(with_reducible refine(spec_l31Rd_pick.calls k g s0_0 s0_1 4 a0 a2 w0 _ ?side1 ?side2 A2.out).mono ?_);(case side1=>exact zI0 a1);(case side2=>exact zB0 a1 HB);rintro e f0 ⟨rfl,hi,hb,hk⟩;refine⟨_,rfl,?_⟩;replace HK:=zKk (zK0 HK) hk;replace HB:=zA (hb);replace a1:=zA (hi);(try clear hb);(try clear hb2);(try clear hk);(try clear hi))|((with_reducible refine gate_dst (N:=22) rfl ?_);refine Kd.R_lit k34 _ 34 ?hg (N:=22) ?hd (xs:=([(⟨(⟨#[97]⟩:ByteArray),0,0,1,6⟩:S34),(⟨(⟨#[98]⟩:ByteArray),2,0,3,6⟩:S34),(⟨(⟨#[99]⟩:ByteArray),4,0,8,6⟩:S34)]:List (S34))) (inner:=[.string (⟨#[97]⟩:ByteArray),.int .i64 0,.int .i64 0,.int .i64 1,.int .i64 6,.string (⟨#[98]⟩:ByteArray),.int .i64 2,.int .i64 0,.int .i64 3,.int .i64 6,.string (⟨#[99]⟩:ByteArray),.int .i64 4,.int .i64 0,.int .i64 8,.int .i64 6]) (ok:=fun _=>True) (okp:=fun _=>True) ?hr ?hp (fun _ hk=>hk) trivial (Below.refl _ _) (Nat.le_refl _) (by simp) ?_;(case hd=>rfl);(case hg=>rfl);(case hr=>first|(go_simp;done)|(go_simp;rfl));(case hp=>exact(Reps.c5 (show Kd.M k34 _ _ _ (⟨(⟨#[97]⟩:ByteArray),0,0,1,6⟩:S34) [.string (⟨#[97]⟩:ByteArray),.int .i64 0,.int .i64 0,.int .i64 1,.int .i64 6]from(k34_mkM _ _ _ (⟨(⟨#[97]⟩:ByteArray),0,0,1,6⟩:S34))) (Reps.c5 (show Kd.M k34 _ _ _ (⟨(⟨#[98]⟩:ByteArray),2,0,3,6⟩:S34) [.string (⟨#[98]⟩:ByteArray),.int .i64 2,.int .i64 0,.int .i64 3,.int .i64 6]from(k34_mkM _ _ _ (⟨(⟨#[98]⟩:ByteArray),2,0,3,6⟩:S34))) (Reps.c5 (show Kd.M k34 _ _ _ (⟨(⟨#[99]⟩:ByteArray),4,0,8,6⟩:S34) [.string (⟨#[99]⟩:ByteArray),.int .i64 4,.int .i64 0,.int .i64 8,.int .i64 6]from(k34_mkM _ _ _ (⟨(⟨#[99]⟩:ByteArray),4,0,8,6⟩:S34))) (Reps.none _ _)))));intro e6 f1 a9 hb hg_ hnew_;clear hg_ hnew_;(first|rw[←b4.out]at a9|(simp only[Int.reduceToNat]at a9;rw[←b4.out]at a9));have d1:=zlo a9 (zK0 HK);replace HK:=zKb (zK0 HK) hb;replace HB:=zE (zB0 a1 HB) hb;replace a1:=zib (zI0 a1) hb;clear hb a9))
  go_ret;exact⟨_,ze,zr d1,zI0 a1,zB0 a1 HB,zK0 HK⟩
 rw[if_neg b6]at H;have c1:(a0==2)=false:=beq_eq_false_iff_ne.mpr b6;have d0:(a0 !=2)=true:=bne_iff_ne.mpr b6;replace H:=Option.bind_eq_some_iff.mp H;obtain⟨⟨a6,b7⟩,d2,H⟩:=H;replace H:(some ((([(⟨(⟨#[101]⟩:ByteArray),wrap64 (4+a6),0,8,6⟩:S34),(⟨(⟨#[102,97,114]⟩:ByteArray),14,0,15,15⟩:S34),(⟨(⟨#[119]⟩:ByteArray),0,0,3,6⟩:S34)]:List (S34))),b7))=some (r1,r2):=H;have e7:=zA d2;clear d2;obtain⟨e1,a7⟩: ∃y_:List (S34),y_=(([(⟨(⟨#[101]⟩:ByteArray),wrap64 (4+a6),0,8,6⟩:S34),(⟨(⟨#[102,97,114]⟩:ByteArray),14,0,15,15⟩:S34),(⟨(⟨#[119]⟩:ByteArray),0,0,3,6⟩:S34)]:List (S34))):=⟨_,rfl⟩
 replace H:(some (e1,b7))=some (r1,r2):=by first|(rw[a7];with_reducible exact H)|(have H2_:=(Option.bind_some _ _).symm.trans H;rw[a7];with_reducible exact H2_)|(have H2_:=(Option.bind_some _ _).symm.trans H;with_reducible exact H2_)|with_reducible exact H|(rw[a7];exact H)|exact H
 have b5:=zA a7;clear a7;simp only[Option.some.injEq,Prod.mk.injEq]at H;obtain⟨rfl,rfl⟩:=H
 go_enter Try.func18,Try.ntmps18
 go_wp2_with (first|((with_reducible refine gate_callee (f:=20) rfl ?_);refine zgl (N:=some 4) Try.func20 #[.pointer (some ⟨g,0,none⟩),.int .i64 4] ?_;(with_reducible refine(spec_l31Rd_pick.calls k g s0_0 s0_1 4 a0 a2 w0 _ ?side1 ?side2 A2.out).mono ?_);(case side1=>exact zI0 a1);(case side2=>exact zB0 a1 HB);rintro e f2 ⟨rfl,hi,hb,hk⟩;refine⟨_,rfl,?_⟩;replace HK:=zKk (zK0 HK) hk;replace HB:=zA (hb);replace a1:=zA (hi);(try clear hb);(try clear hb2);(try clear hk);(try clear hi))|((with_reducible refine gate_callee (f:=20) rfl ?_);refine zgl (N:=some 24) Try.func20 #[.pointer (some ⟨g,0,none⟩),.int .i64 2] ?_;(with_reducible refine(spec_l31Rd_pick.calls k g s0_0 a2 2 a6 b7 w0 _ ?side1 ?side2 e7.out).mono ?_);(case side1=>exact zI0 a1);(case side2=>exact zB0 a1 HB);rintro e f3 ⟨rfl,hi,hb,hk⟩;refine⟨_,rfl,?_⟩;replace HK:=zKk (zK0 HK) hk;replace HB:=zA (hb);replace a1:=zA (hi);(try clear hb);(try clear hb2);(try clear hk);(try clear hi))|((with_reducible refine gate_dst (N:=29) rfl ?_);refine Kd.R_lit k34 _ 34 ?hg (N:=29) ?hd (xs:=([(⟨(⟨#[101]⟩:ByteArray),wrap64 (4+a6),0,8,6⟩:S34),(⟨(⟨#[102,97,114]⟩:ByteArray),14,0,15,15⟩:S34),(⟨(⟨#[119]⟩:ByteArray),0,0,3,6⟩:S34)]:List (S34))) (inner:=[.string (⟨#[101]⟩:ByteArray),.int .i64 (wrap64 (4+a6)),.int .i64 0,.int .i64 8,.int .i64 6,.string (⟨#[102,97,114]⟩:ByteArray),.int .i64 14,.int .i64 0,.int .i64 15,.int .i64 15,.string (⟨#[119]⟩:ByteArray),.int .i64 0,.int .i64 0,.int .i64 3,.int .i64 6]) (ok:=fun _=>True) (okp:=fun _=>True) ?hr ?hp (fun _ hk=>hk) trivial (Below.refl _ _) (Nat.le_refl _) (by simp) ?_;(case hd=>rfl);(case hg=>rfl);(case hr=>first|(go_simp;done)|(go_simp;rfl));(case hp=>exact(Reps.c5 (show Kd.M k34 _ _ _ (⟨(⟨#[101]⟩:ByteArray),wrap64 (4+a6),0,8,6⟩:S34) [.string (⟨#[101]⟩:ByteArray),.int .i64 (wrap64 (4+a6)),.int .i64 0,.int .i64 8,.int .i64 6]from(k34_mkM _ _ _ (⟨(⟨#[101]⟩:ByteArray),wrap64 (4+a6),0,8,6⟩:S34))) (Reps.c5 (show Kd.M k34 _ _ _ (⟨(⟨#[102,97,114]⟩:ByteArray),14,0,15,15⟩:S34) [.string (⟨#[102,97,114]⟩:ByteArray),.int .i64 14,.int .i64 0,.int .i64 15,.int .i64 15]from(k34_mkM _ _ _ (⟨(⟨#[102,97,114]⟩:ByteArray),14,0,15,15⟩:S34))) (Reps.c5 (show Kd.M k34 _ _ _ (⟨(⟨#[119]⟩:ByteArray),0,0,3,6⟩:S34) [.string (⟨#[119]⟩:ByteArray),.int .i64 0,.int .i64 0,.int .i64 3,.int .i64 6]from(k34_mkM _ _ _ (⟨(⟨#[119]⟩:ByteArray),0,0,3,6⟩:S34))) (Reps.none _ _)))));intro e8 f4 b0 hb hg_ hnew_;clear hg_ hnew_;(first|rw[←b5.out]at b0|(simp only[Int.reduceToNat]at b0;rw[←b5.out]at b0));have d3:=zlo b0 (zK0 HK);replace HK:=zKb (zK0 HK) hb;replace HB:=zE (zB0 a1 HB) hb;replace a1:=zib (zI0 a1) hb;clear hb b0))
 go_ret;exact⟨_,ze,zr d3,zI0 a1,zB0 a1 HB,zK0 HK⟩
def spec_l31In.f (a0:Int) (a1:Int) (a2:Int):Option (Bool):=if a0≥a1 then(some (decide (a0≤a2)))else(some false)
set_option maxHeartbeats 8000000 in
set_option maxRecDepth 100000 in
theorem spec_l31In.calls (a0:Int) (a1:Int) (a2:Int) (r:Bool) (w:World) (h:spec_l31In.f a0 a1 a2=some r):
 Calls Try.prog 24 #[.int .i64 a0,.int .i64 a1,.int .i64 a2] w fun e w'=>e= .returned (.bool r)∧Drawn0 w w':=by
 have H:=h;clear h;unfold spec_l31In.f at H
 by_cases c4:a0≥a1
 ·rw[if_pos c4]at H
  have a3:decide (a1≤a0)=true:=decide_eq_true c4;clear c4;obtain rfl:=Option.some.inj H
  go_enter Try.func24,Try.ntmps24
  go_wp2
  go_ret;exact⟨by first|rfl|(simp;done)|(simp[*];done),by repeat(first|exact Drawn0.refl _|apply Drawn0.step)⟩
 rw[if_neg c4]at H;have a3:decide (a1≤a0)=false:=decide_eq_false c4;clear c4;obtain rfl:=Option.some.inj H
 go_enter Try.func24,Try.ntmps24
 go_wp2
 go_ret;exact⟨by first|rfl|(simp;done)|(simp[*];done),by repeat(first|exact Drawn0.refl _|apply Drawn0.step)⟩
end Go.Proofs.Ytmdmfldpohaegaa.QFnHandWho
