/-
  Short words for the walks: what is said again and again in them, said once (each looks for its facts by itself).
-/
import Derived.Test.YtkecbmgdmkmfgaaXw
namespace Go.Proofs.Ytkecbmgdmkmfgaa.Z
open Go.RowKit Go.Proofs.YtkecbmgdmkmfgaaW.PrintWords Go.Proofs.YtkecbmgdmkmfgaaW.PrintLast Go.Proofs.YtkecbmgdmkmfgaaW.PrintMore
set_option linter.unusedVariables false
theorem zdn (w:World) (n:Nat) (p:Addr) (v:Value):(w.drewN n).setCell p v=(w.setCell p v).drewN n:=rfl
theorem za {p:Prop} [Decidable p] (h:decide p=true:=by first|(with_reducible assumption)|assumption):p:=of_decide_eq_true h
theorem leq_not: ∀(a b:List UInt8),(Op.bytesLess a b||a==b)= !Op.bytesLess b a
  |[],[]=>by simp[Op.bytesLess]
  |_::_,[]=>by simp[Op.bytesLess]
  |[],_::_=>by simp[Op.bytesLess]
  |a::x,b::y=>by
    rw[Op.bytesLess,Op.bytesLess,Bool.eq_iff_iff];have ih:=leq_not x y;rw[Bool.eq_iff_iff]at ih;simp at ih;simp only[List.cons_beq_cons,Bool.or_eq_true,Bool.and_eq_true,decide_eq_true_eq,beq_iff_eq,Bool.not_eq_true']
    rcases Nat.lt_trichotomy a.toNat b.toNat with h|h|h
    · have h1:a<b:=UInt8.lt_iff_toNat_lt.mpr h
      have h2: ¬b<a:=fun e=>by have:=UInt8.lt_iff_toNat_lt.mp e;omega
      have h3:b≠a:=fun e=>by subst e;omega
      simp[h1,h2,h3]
    · have h1:a=b:=UInt8.toNat_inj.mp h
      subst h1;simp[ih]
    · have h1:b<a:=UInt8.lt_iff_toNat_lt.mpr h
      have h2: ¬a<b:=fun e=>by have:=UInt8.lt_iff_toNat_lt.mp e;omega
      have h3:a≠b:=fun e=>by subst e;omega
      simp[h1,h2,h3]
theorem zif {α:Type} {c:Prop} [Decidable c] {A:Option α} {r:α} (h:(if c then A else none)=some r):decide c=true∧A=some r:=by
  by_cases hc:c
  · rw[if_pos hc]at h;exact⟨decide_eq_true hc,h⟩
  · rw[if_neg hc]at h;cases h
theorem zfn: ¬(false=true):=by decide
theorem zA {p:Prop} (h:p):Aside0 p:=⟨h⟩
theorem zE {w W w2:World} (h:Below w.heap.size w W) (k:Below W.heap.size W w2):Aside0 (Below w.heap.size w w2):=⟨below_step h k⟩
theorem zgs {w W:World} {g:Nat} (hg:g=W.heap.size) (h:Below w.heap.size w W):Aside0 (w.heap.size≤g):=⟨by rw[hg];exact below_size h⟩
theorem zne {g g':Nat} {W w:World} {o:Obj} (hg:g'=W.heap.size) (H:Aside0 (w.heap[g]?=some o)) (h:w.heap[g]?=some o→W.heap[g]?=some o:=by intro hh;(with_reducible repeat(first|refine blk_drewN ?_ _|refine blk_drew ?_|refine blk_alloc ?_ _));exact hh):Aside0 (g≠g'):=⟨by rw[hg];exact Nat.ne_of_lt (blk_lt (h H.out))⟩
theorem znf {g g':Nat} {W w:World} {o:Obj} (hg:g'=W.heap.size) (H:Aside0 (w.heap[g]?=some o)) (h:w.heap[g]?=some o→W.heap[g]?=some o:=by intro hh;(with_reducible repeat(first|refine blk_drewN ?_ _|refine blk_drew ?_|refine blk_alloc ?_ _));exact hh):Aside0 (g'≠g):=⟨by rw[hg];exact Nat.ne_of_gt (blk_lt (h H.out))⟩
theorem zbf {w:World} {g g' i t:Nat} {cs:Array Value} (h:w.heap[g]?=some (.cells cs t (0,0))) (hp:g≠g') (u:Value):(w.setCell ⟨g',i,none⟩ u).heap[g]?=some (.cells cs t (0,0)):=blk_far h hp u
theorem zpb {w W:World} {g t:Nat} {cs cs':Array Value} (H:Aside0 (w.heap[g]?=some (.cells cs t (0,0)))) (h:w.heap[g]?=some (.cells cs t (0,0))→W.heap[g]?=some (.cells cs' t (0,0)):=by intro a;(repeat(first|with_reducible exact a|with_reducible refine blk_drewN ?_ _|with_reducible refine blk_drew ?_|with_reducible refine blk_alloc ?_ _|with_reducible apply blk_put));all_goals((try simp only[List.setIfInBounds_toArray,List.set_cons_zero,List.set_cons_succ]);try rfl)):W.heap[g]?=some (.cells cs' t (0,0)):=h H.out
theorem zpf {w W:World} {g g' t:Nat} {cs cs':Array Value} (H:Aside0 (w.heap[g]?=some (.cells cs t (0,0)))) (N:Aside0 (g≠g')) (h:w.heap[g]?=some (.cells cs t (0,0))→g≠g'→W.heap[g]?=some (.cells cs' t (0,0)):=by intro a b;(repeat(first|with_reducible exact a|with_reducible refine blk_drewN ?_ _|with_reducible refine blk_drew ?_|with_reducible refine blk_alloc ?_ _|with_reducible apply blk_put|with_reducible apply zbf (hp:=b)));all_goals((try simp only[List.setIfInBounds_toArray,List.set_cons_zero,List.set_cons_succ]);try rfl)):W.heap[g]?=some (.cells cs' t (0,0)):=h H.out N.out
theorem zRs {α:Type} {d:Kd α} {e base g:Nat} {w:World} {ok:Nat→Prop} {v:Value} {xs:List α} (h:d.R e w base (fun k=>ok k∧k≠g) v xs) (i:Nat) (u:Value):d.R e (w.setCell ⟨g,i,none⟩ u) base (fun k=>ok k∧k≠g) v xs:=Kd.R_far h (fun _ hk=>hk.2) u
theorem zRf {α:Type} {d:Kd α} {e base g t:Nat} {w W:World} {ok ok':Nat→Prop} {v:Value} {xs:List α} {cells:Array Value} (H:Aside0 (d.R e w base ok v xs)) (B:Aside0 (w.heap[g]?=some (.cells cells t (0,0)))) (m: ∀k,ok k∧k≠g→ok' k) (ht: ∀q,q∈e::d.E→q≠t:=by decide) (h:d.R e w base (fun k=>ok k∧k≠g) v xs→d.R e W base (fun k=>ok k∧k≠g) v xs:=by intro a;(repeat(first|with_reducible exact a|with_reducible apply Kd.R_alloc|with_reducible apply Kd.R_drewN|with_reducible apply Kd.R_drew|with_reducible refine zRs ?_ _ _))):d.R e W base ok' v xs:=Kd.R_mono (h (Kd.R_types H.out B.out ht)) m
theorem zcl {g g':Nat} (b:g≠g') (w:World) (i j:Nat) (v:Value):(w.setCell ⟨g',i,none⟩ v).cell? ⟨g,j,none⟩=w.cell? ⟨g,j,none⟩:=cell_far b v
theorem zcf {p q:Prop} {g g':Nat} (H:p) (N:Aside0 (g≠g')) (h:p→g≠g'→q:=by intro a b;simp only[zcl b];exact a):q:=h H N.out
theorem zca {g':Nat} {ad:Addr} (c:ad.block≠g') (w:World) (i:Nat) (v:Value):(w.setCell ⟨g',i,none⟩ v).cell? ad=w.cell? ad:=cell_far (p:=⟨g',i,none⟩) c v
section
variable {P : Program} {ops : Array Oper} {rest : List Oper} {o : Oper} {a : Act} {Q : Exit → Act → World → Prop} {K : Act → World → Prop} {W : World} {f : FuncId} {fn : Func} {as : Array Operand} {ts : Array TypeId} {N : Option Tmp}
theorem zbx (M:Tmp) (cs:Array Value) (t:TypeId) (h: ∀g,g=W.heap.size→ ∀w1,w1.heap[g]?=some (.cells cs t (0,0))→Below W.heap.size W w1→wpList P ops Q rest (a.put o.dst (.pointer (some ⟨g,0,none⟩))) w1) (hgd:o.guard=none:=by rfl) (hd:o.dst=some M:=by rfl) (hrun:(execOp a.eval o).run P W= .ok (.value (.pointer (some ⟨W.heap.size,0,none⟩))) (W.alloc (.cells cs t (0,0))):=by first|(go_simp;done)|(go_simp;rfl)):wpList P ops Q (o::rest) a W:=box_event hgd hd hrun h
theorem zgo (hf:P.funcs[f]?=some fn) (args:Array Value) (h:Calls P f args W fun e w'=> ∃v,e= .returned v∧K (a.put N v) w') (hname:(fn.name== "runtime.NumGoroutine")=false:=by rfl) (hb:fn.body.isSome=true:=by rfl) (hw:Region.wanted o (yielded ops a.tmps)=true:=by rfl) (hN:o.dst=N:=by rfl) (hop:o.op= .call { callee:= .value (.func f),args:=as,argTypes:=ts } :=by rfl) (hargs:as.map a.eval=args:=by(try simp only[List.map_toArray,List.map_cons,List.map_nil]);first|done|rfl|(simp only[List.length_drop,List.length_take];rfl)):if Region.wanted o (yielded ops a.tmps)=true then Oper.wp P o a W K Q else K (a.put N undef) W:=goes_ hf hname hb args hw hN hop hargs h
theorem zgl (hf:P.funcs[f]?=some fn) (args:Array Value) (h:Calls P f args W fun e w'=> ∃v,e= .returned v∧wpList P ops Q rest (a.put N v) w') (hname:(fn.name== "runtime.NumGoroutine")=false:=by kernel_rfl) (hb:fn.body.isSome=true:=by rfl) (hN:o.dst=N:=by rfl) (hg:o.guard=none:=by rfl) (hop:o.op= .call { callee:= .value (.func f),args:=as,argTypes:=ts } :=by rfl) (hargs:as.map a.eval=args:=by(try simp only[List.map_toArray,List.map_cons,List.map_nil]);first|done|rfl|(simp only[List.length_drop,List.length_take];rfl)):wpList P ops Q (o::rest) a W:=goesL_ N hN hg hf hname hb args hop hargs h
end
theorem zbd {α β:Type} {o:Option α} {f:α→Option β} {r:β} (h:o.bind f=some r): ∃t,Aside0 (o=some t)∧f t=some r:=by
  obtain⟨t,a,b⟩:=Option.bind_eq_some_iff.mp h;exact⟨t,⟨a⟩,b⟩
theorem ze {p:Prop} (h:p:=by first|rfl|exact congrArg Value.bool (leq_not _ _)|exact leq_not _ _|(simp[errW_none,errW_some]<;>rfl)|(simp[*,errW_none,errW_some]<;>rfl)|(simp only[*];exact leq_not _ _)):p:=h
theorem zg {p:Prop} (h:p:=by first|(go_simp;done)|(go_simp;rfl)):p:=h
theorem zi {p:Prop} (h:p:=by first|rfl|(simp;done)|(simp[*];done)):p:=h
theorem zCs {p q:Prop} (H:Aside0 p) (h:p→q:=by intro hh;repeat(first|exact(Kd.R_reads' hh).2.2|(with_reducible refine Kd.C_alloc ?_ _)|(with_reducible refine Kd.C_drewN ?_ _)|(with_reducible refine Kd.C_drew ?_))):q:=h H.out
theorem zRw {α:Type} {x y:α} {p q:Prop} (e:x=y) (H:p) (h:x=y→p→q:=by intro e_ H_;first|(rw[e_];with_reducible exact H_)|(have H2_:=(Option.bind_some _ _).symm.trans H_;rw[e_];with_reducible exact H2_)|(have H2_:=(Option.bind_some _ _).symm.trans H_;with_reducible exact H2_)|with_reducible exact H_|(rw[e_];exact H_)|exact H_):q:=h e H
theorem zh {p q:Prop} (H:Aside0 p) (h:p→q:=by intro hh;(with_reducible repeat(first|refine blk_drewN ?_ _|refine blk_drew ?_|refine blk_alloc ?_ _));exact hh):q:=h H.out
theorem zr {p q:Prop} (H:Aside0 p) (h:p→q:=by intro hh;(with_reducible repeat(first|apply Kd.R_alloc|apply Kd.R_drewN|apply Kd.R_drew));exact hh):q:=h H.out
theorem zb {w w1 w2:World} {g:Nat} {o:Obj} (H:Aside0 (w.heap[g]?=some o)) (hb:Below w1.heap.size w1 w2) (h:w.heap[g]?=some o→w1.heap[g]?=some o:=by intro hh;(with_reducible repeat(first|refine blk_drewN ?_ _|refine blk_drew ?_|refine blk_alloc ?_ _));exact hh):Aside0 (w2.heap[g]?=some o):=⟨blk_below (h H.out) hb⟩
theorem zs0 {p q:Prop} (H:Aside0 p) (h:p→q:=by intro hB;repeat(first|(with_reducible first|exact hB|apply below_alloc|apply pw_below_drewN|apply below_drew1)|exact hB)):q:=h H.out
theorem zs1 {p q p1:Prop} (H:Aside0 p) (G1:Aside0 p1) (h:p→p1→q:=by intro hB h1;repeat(first|(with_reducible first|exact hB|apply below_alloc|apply pw_below_drewN|apply below_drew1|refine below_set ?_ h1)|exact hB)):q:=h H.out G1.out
theorem zs2 {p q p1 p2:Prop} (H:Aside0 p) (G1:Aside0 p1) (G2:Aside0 p2) (h:p→p1→p2→q:=by intro hB h1 h2;repeat(first|(with_reducible first|exact hB|apply below_alloc|apply pw_below_drewN|apply below_drew1|refine below_set ?_ h1|refine below_set ?_ h2)|exact hB)):q:=h H.out G1.out G2.out
theorem zs3 {p q p1 p2 p3:Prop} (H:Aside0 p) (G1:Aside0 p1) (G2:Aside0 p2) (G3:Aside0 p3) (h:p→p1→p2→p3→q:=by intro hB h1 h2 h3;repeat(first|(with_reducible first|exact hB|apply below_alloc|apply pw_below_drewN|apply below_drew1|refine below_set ?_ h1|refine below_set ?_ h2|refine below_set ?_ h3)|exact hB)):q:=h H.out G1.out G2.out G3.out
theorem zx {w w1:World} {p:Addr} {v:Value} (HB:Aside0 (Below w.heap.size w w1)) (h:w.cell? p=some v):w1.cell? p=some v:=(HB.out.cell (World.block_lt_of_cell? w _ h)).trans h
theorem zw {w w1 w2:World} {p:Addr} {v:Value} (HB:Aside0 (Below w.heap.size w w1)) (h:w.cell? p=some v) (e:w2.cell? p=w1.cell? p:=by rfl):w2.cell? p=some v:=e.trans ((HB.out.cell (World.block_lt_of_cell? w _ h)).trans h)
theorem zf {w:World} {g t:Nat} {cs:Array Value} (H:Aside0 (w.heap[g]?=some (.cells cs t (0,0)))) (i:Nat):w.frozen? ⟨g,i,none⟩=false:=blk_frozen H.out i
theorem zput {p:Prop} (h:p:=by simp only[Act.put,List.setIfInBounds_toArray,List.set_cons_zero,List.set_cons_succ,i64_w,i32_w];rfl):p:=h
theorem zC {p q r:Prop} (H:Aside0 p) (G:Aside0 q) (h:p→q→r:=by intro a b;repeat(first|exact(Kd.C_below a b)|(with_reducible refine Kd.C_alloc ?_ _)|(with_reducible refine Kd.C_drewN ?_ _)|(with_reducible refine Kd.C_drew ?_))):r:=h H.out G.out
section
variable {P : Program} {ops : Array Oper} {Q : Exit → Act → World → Prop} {md : Region.Mode} {S : World → Prop} {ds : List Nat} {T : Bool × List (List Nat × List Nat)} {B : List Nat} {N : Option Tmp} {o1 : Op} {o2 : TypeId} {o3 : String} {o4 : Array Edge} {o5 : Option (Nat × Bool)} {v : Value} {fuel : Nat} {l l' : Array Bool} {a a' : Act} {w : World}
theorem zp (i:Nat) (h:wpAnyLast P md ops Q S ds fuel l' a' w) (x:ops[i]?=some (⟨N,o1,o2,o3,o4,o5⟩:Oper)∧l.setIfInBounds i true=l'∧anyB md ops l l' i=true∧Region.wanted (⟨N,o1,o2,o3,o4,o5⟩:Oper) (yielded ops a.tmps)=true∧(∀w,(execOp a.eval (⟨N,o1,o2,o3,o4,o5⟩:Oper)).run P w= .ok (.value v) w)∧a.put N v=a':=by
    refine⟨?_,?_,?_,?_,?_,?_⟩
    · rfl
    · (simp only[List.setIfInBounds_toArray,List.set_cons_zero,List.set_cons_succ];rfl)
    · kernel_rfl
    · rfl
    · (intro w';go_simp;with_reducible rfl)
    · (simp only[Act.put,List.setIfInBounds_toArray,List.set_cons_zero,List.set_cons_succ,i64_w,i32_w];rfl)) (hQ: ∀c a w,Q (.panic c) (a.put N v) w→Q (.panic c) a w:=by exact fun _ _ _ h=>h):wpAnyLast P md ops Q S ds (fuel+1) l a w:=pure_ l' x.1 rfl x.2.2.1 hQ (Or.inl ⟨x.2.2.2.1,x.2.2.2.2.1⟩) x.2.2.2.2.2 h
theorem zq (G:Aside0 (rtab md ops=T)) (i:Nat) (h:wpAnyLast P md ops Q S ds fuel l' a' w) (x:ops[i]?=some (⟨N,o1,o2,o3,o4,o5⟩:Oper)∧l.setIfInBounds i true=l'∧anyT T l.toList l'.toList i=true∧Region.wanted (⟨N,o1,o2,o3,o4,o5⟩:Oper) (yielded ops a.tmps)=true∧(∀w,(execOp a.eval (⟨N,o1,o2,o3,o4,o5⟩:Oper)).run P w= .ok (.value v) w)∧a.put N v=a':=by
    refine⟨?_,?_,?_,?_,?_,?_⟩
    · rfl
    · (simp only[List.setIfInBounds_toArray,List.set_cons_zero,List.set_cons_succ];rfl)
    · kernel_rfl
    · rfl
    · (intro w';go_simp;with_reducible rfl)
    · (simp only[Act.put,List.setIfInBounds_toArray,List.set_cons_zero,List.set_cons_succ,i64_w,i32_w];rfl)) (hQ: ∀c a w,Q (.panic c) (a.put N v) w→Q (.panic c) a w:=by exact fun _ _ _ h=>h):wpAnyLast P md ops Q S ds (fuel+1) l a w:=pure_ l' x.1 rfl (any_of G.out x.2.2.1) hQ (Or.inl ⟨x.2.2.2.1,x.2.2.2.2.1⟩) x.2.2.2.2.2 h
theorem zu (G:Aside0 (rtab md ops=T)) (i:Nat) (h:wpAnyLast P md ops Q S ds fuel l' a' w) (x:ops[i]?=some (⟨N,o1,o2,o3,o4,o5⟩:Oper)∧l.setIfInBounds i true=l'∧anyT T l.toList l'.toList i=true∧Region.wanted (⟨N,o1,o2,o3,o4,o5⟩:Oper) (yielded ops a.tmps)=false∧a.put N undef=a':=by
    refine⟨?_,?_,?_,?_,?_⟩
    · rfl
    · (simp only[List.setIfInBounds_toArray,List.set_cons_zero,List.set_cons_succ];rfl)
    · kernel_rfl
    · rfl
    · (simp only[Act.put,List.setIfInBounds_toArray,List.set_cons_zero,List.set_cons_succ,i64_w,i32_w];rfl)) (hQ: ∀c a w,Q (.panic c) (a.put N undef) w→Q (.panic c) a w:=by exact fun _ _ _ h=>h):wpAnyLast P md ops Q S ds (fuel+1) l a w:=pure_ l' x.1 rfl (any_of G.out x.2.2.1) hQ (Or.inr ⟨x.2.2.2.1,rfl⟩) x.2.2.2.2 h
theorem zo (G:Aside0 (rtab md ops=T)) (i:Nat) (h: ∀K:Act→World→Prop,Shut (∀a' w',S w'→(S w'→wpAnyLast P md ops Q S ds fuel l' a' w')→K a' w')→if Region.wanted (⟨N,o1,o2,o3,o4,o5⟩:Oper) (yielded ops a.tmps)=true then Oper.wp P (⟨N,o1,o2,o3,o4,o5⟩:Oper) a w K Q else K (a.put N undef) w) (x:ops[i]?=some (⟨N,o1,o2,o3,o4,o5⟩:Oper)∧l.setIfInBounds i true=l'∧(readyT T.2 l.toList==[i]&&l.toList.set i true==l'.toList)=true∧i∉ds:=by
    refine⟨?_,?_,?_,?_⟩
    · rfl
    · (simp only[List.setIfInBounds_toArray,List.set_cons_zero,List.set_cons_succ];rfl)
    · kernel_rfl
    · decide):wpAnyLast P md ops Q S ds (fuel+1) l a w:=one_ l' x.1 rfl (one_of G.out x.2.2.1) x.2.2.2 h
theorem zO (G:Aside0 (rtab md ops=T)) (i:Nat) (h: ∀K:Act→World→Prop,Shut (∀a' w',wpAnyLast P md ops Q S ds fuel l' a' w'→K a' w')→if Region.wanted (⟨N,o1,o2,o3,o4,o5⟩:Oper) (yielded ops a.tmps)=true then Oper.wp P (⟨N,o1,o2,o3,o4,o5⟩:Oper) a w K Q else K (a.put N undef) w) (x:ops[i]?=some (⟨N,o1,o2,o3,o4,o5⟩:Oper)∧l.setIfInBounds i true=l'∧(readyT T.2 l.toList==[i]&&l.toList.set i true==l'.toList)=true∧i∈ds:=by
    refine⟨?_,?_,?_,?_⟩
    · rfl
    · (simp only[List.setIfInBounds_toArray,List.set_cons_zero,List.set_cons_succ];rfl)
    · kernel_rfl
    · decide):wpAnyLast P md ops Q S ds (fuel+1) l a w:=last_ l' x.1 rfl (one_of G.out x.2.2.1) x.2.2.2 h
theorem zk1 (G:Aside0 (rtab md ops=T)) (V:Aside0 (waitsOk T.2 B=true)) (hS:S w) (i:Nat) (h:wpAnyLast P md ops Q S ds fuel l' a' w) (x:ops[i]?=some (⟨N,o1,o2,o3,o4,o5⟩:Oper)∧l.setIfInBounds i true=l'∧takeW T B ds l.toList l'.toList i=true∧Region.wanted (⟨N,o1,o2,o3,o4,o5⟩:Oper) (yielded ops a.tmps)=true∧(∀w,S w→(execOp a.eval (⟨N,o1,o2,o3,o4,o5⟩:Oper)).run P w= .ok (.value v) w)∧a.put N v=a':=by
    refine⟨?_,?_,?_,?_,?_,?_⟩
    · rfl
    · (simp only[List.setIfInBounds_toArray,List.set_cons_zero,List.set_cons_succ];rfl)
    · kernel_rfl
    · rfl
    · (rintro w' s0;go_simp;with_reducible rfl)
    · (simp only[Act.put,List.setIfInBounds_toArray,List.set_cons_zero,List.set_cons_succ,i64_w,i32_w];rfl)) (hQ: ∀c a w,Q (.panic c) (a.put N v) w→Q (.panic c) a w:=by exact fun _ _ _ h=>h):wpAnyLast P md ops Q S ds (fuel+1) l a w:=take_ l' x.1 rfl (take_ofW G.out V.out x.2.2.1) hQ (Or.inl ⟨x.2.2.2.1,x.2.2.2.2.1⟩) hS x.2.2.2.2.2 h
theorem zk2 (G:Aside0 (rtab md ops=T)) (V:Aside0 (waitsOk T.2 B=true)) (hS:S w) (i:Nat) (h:wpAnyLast P md ops Q S ds fuel l' a' w) (x:ops[i]?=some (⟨N,o1,o2,o3,o4,o5⟩:Oper)∧l.setIfInBounds i true=l'∧takeW T B ds l.toList l'.toList i=true∧Region.wanted (⟨N,o1,o2,o3,o4,o5⟩:Oper) (yielded ops a.tmps)=true∧(∀w,S w→(execOp a.eval (⟨N,o1,o2,o3,o4,o5⟩:Oper)).run P w= .ok (.value v) w)∧a.put N v=a':=by
    refine⟨?_,?_,?_,?_,?_,?_⟩
    · rfl
    · (simp only[List.setIfInBounds_toArray,List.set_cons_zero,List.set_cons_succ];rfl)
    · kernel_rfl
    · rfl
    · (rintro w' ⟨s0,s1⟩;go_simp;with_reducible rfl)
    · (simp only[Act.put,List.setIfInBounds_toArray,List.set_cons_zero,List.set_cons_succ,i64_w,i32_w];rfl)) (hQ: ∀c a w,Q (.panic c) (a.put N v) w→Q (.panic c) a w:=by exact fun _ _ _ h=>h):wpAnyLast P md ops Q S ds (fuel+1) l a w:=take_ l' x.1 rfl (take_ofW G.out V.out x.2.2.1) hQ (Or.inl ⟨x.2.2.2.1,x.2.2.2.2.1⟩) hS x.2.2.2.2.2 h
theorem zk4 (G:Aside0 (rtab md ops=T)) (V:Aside0 (waitsOk T.2 B=true)) (hS:S w) (i:Nat) (h:wpAnyLast P md ops Q S ds fuel l' a' w) (x:ops[i]?=some (⟨N,o1,o2,o3,o4,o5⟩:Oper)∧l.setIfInBounds i true=l'∧takeW T B ds l.toList l'.toList i=true∧Region.wanted (⟨N,o1,o2,o3,o4,o5⟩:Oper) (yielded ops a.tmps)=true∧(∀w,S w→(execOp a.eval (⟨N,o1,o2,o3,o4,o5⟩:Oper)).run P w= .ok (.value v) w)∧a.put N v=a':=by
    refine⟨?_,?_,?_,?_,?_,?_⟩
    · rfl
    · (simp only[List.setIfInBounds_toArray,List.set_cons_zero,List.set_cons_succ];rfl)
    · kernel_rfl
    · rfl
    · (rintro w' ⟨s0,s1,s2,s3⟩;go_simp;with_reducible rfl)
    · (simp only[Act.put,List.setIfInBounds_toArray,List.set_cons_zero,List.set_cons_succ,i64_w,i32_w];rfl)) (hQ: ∀c a w,Q (.panic c) (a.put N v) w→Q (.panic c) a w:=by exact fun _ _ _ h=>h):wpAnyLast P md ops Q S ds (fuel+1) l a w:=take_ l' x.1 rfl (take_ofW G.out V.out x.2.2.1) hQ (Or.inl ⟨x.2.2.2.1,x.2.2.2.2.1⟩) hS x.2.2.2.2.2 h
theorem zk5 (G:Aside0 (rtab md ops=T)) (V:Aside0 (waitsOk T.2 B=true)) (hS:S w) (i:Nat) (h:wpAnyLast P md ops Q S ds fuel l' a' w) (x:ops[i]?=some (⟨N,o1,o2,o3,o4,o5⟩:Oper)∧l.setIfInBounds i true=l'∧takeW T B ds l.toList l'.toList i=true∧Region.wanted (⟨N,o1,o2,o3,o4,o5⟩:Oper) (yielded ops a.tmps)=true∧(∀w,S w→(execOp a.eval (⟨N,o1,o2,o3,o4,o5⟩:Oper)).run P w= .ok (.value v) w)∧a.put N v=a':=by
    refine⟨?_,?_,?_,?_,?_,?_⟩
    · rfl
    · (simp only[List.setIfInBounds_toArray,List.set_cons_zero,List.set_cons_succ];rfl)
    · kernel_rfl
    · rfl
    · (rintro w' ⟨s0,s1,s2,s3,s4⟩;go_simp;with_reducible rfl)
    · (simp only[Act.put,List.setIfInBounds_toArray,List.set_cons_zero,List.set_cons_succ,i64_w,i32_w];rfl)) (hQ: ∀c a w,Q (.panic c) (a.put N v) w→Q (.panic c) a w:=by exact fun _ _ _ h=>h):wpAnyLast P md ops Q S ds (fuel+1) l a w:=take_ l' x.1 rfl (take_ofW G.out V.out x.2.2.1) hQ (Or.inl ⟨x.2.2.2.1,x.2.2.2.2.1⟩) hS x.2.2.2.2.2 h
theorem zk6 (G:Aside0 (rtab md ops=T)) (V:Aside0 (waitsOk T.2 B=true)) (hS:S w) (i:Nat) (h:wpAnyLast P md ops Q S ds fuel l' a' w) (x:ops[i]?=some (⟨N,o1,o2,o3,o4,o5⟩:Oper)∧l.setIfInBounds i true=l'∧takeW T B ds l.toList l'.toList i=true∧Region.wanted (⟨N,o1,o2,o3,o4,o5⟩:Oper) (yielded ops a.tmps)=true∧(∀w,S w→(execOp a.eval (⟨N,o1,o2,o3,o4,o5⟩:Oper)).run P w= .ok (.value v) w)∧a.put N v=a':=by
    refine⟨?_,?_,?_,?_,?_,?_⟩
    · rfl
    · (simp only[List.setIfInBounds_toArray,List.set_cons_zero,List.set_cons_succ];rfl)
    · kernel_rfl
    · rfl
    · (rintro w' ⟨s0,s1,s2,s3,s4,s5⟩;go_simp;with_reducible rfl)
    · (simp only[Act.put,List.setIfInBounds_toArray,List.set_cons_zero,List.set_cons_succ,i64_w,i32_w];rfl)) (hQ: ∀c a w,Q (.panic c) (a.put N v) w→Q (.panic c) a w:=by exact fun _ _ _ h=>h):wpAnyLast P md ops Q S ds (fuel+1) l a w:=take_ l' x.1 rfl (take_ofW G.out V.out x.2.2.1) hQ (Or.inl ⟨x.2.2.2.1,x.2.2.2.2.1⟩) hS x.2.2.2.2.2 h
theorem zk7 (G:Aside0 (rtab md ops=T)) (V:Aside0 (waitsOk T.2 B=true)) (hS:S w) (i:Nat) (h:wpAnyLast P md ops Q S ds fuel l' a' w) (x:ops[i]?=some (⟨N,o1,o2,o3,o4,o5⟩:Oper)∧l.setIfInBounds i true=l'∧takeW T B ds l.toList l'.toList i=true∧Region.wanted (⟨N,o1,o2,o3,o4,o5⟩:Oper) (yielded ops a.tmps)=true∧(∀w,S w→(execOp a.eval (⟨N,o1,o2,o3,o4,o5⟩:Oper)).run P w= .ok (.value v) w)∧a.put N v=a':=by
    refine⟨?_,?_,?_,?_,?_,?_⟩
    · rfl
    · (simp only[List.setIfInBounds_toArray,List.set_cons_zero,List.set_cons_succ];rfl)
    · kernel_rfl
    · rfl
    · (rintro w' ⟨s0,s1,s2,s3,s4,s5,s6⟩;go_simp;with_reducible rfl)
    · (simp only[Act.put,List.setIfInBounds_toArray,List.set_cons_zero,List.set_cons_succ,i64_w,i32_w];rfl)) (hQ: ∀c a w,Q (.panic c) (a.put N v) w→Q (.panic c) a w:=by exact fun _ _ _ h=>h):wpAnyLast P md ops Q S ds (fuel+1) l a w:=take_ l' x.1 rfl (take_ofW G.out V.out x.2.2.1) hQ (Or.inl ⟨x.2.2.2.1,x.2.2.2.2.1⟩) hS x.2.2.2.2.2 h
theorem zk9 (G:Aside0 (rtab md ops=T)) (V:Aside0 (waitsOk T.2 B=true)) (hS:S w) (i:Nat) (h:wpAnyLast P md ops Q S ds fuel l' a' w) (x:ops[i]?=some (⟨N,o1,o2,o3,o4,o5⟩:Oper)∧l.setIfInBounds i true=l'∧takeW T B ds l.toList l'.toList i=true∧Region.wanted (⟨N,o1,o2,o3,o4,o5⟩:Oper) (yielded ops a.tmps)=true∧(∀w,S w→(execOp a.eval (⟨N,o1,o2,o3,o4,o5⟩:Oper)).run P w= .ok (.value v) w)∧a.put N v=a':=by
    refine⟨?_,?_,?_,?_,?_,?_⟩
    · rfl
    · (simp only[List.setIfInBounds_toArray,List.set_cons_zero,List.set_cons_succ];rfl)
    · kernel_rfl
    · rfl
    · (rintro w' ⟨s0,s1,s2,s3,s4,s5,s6,s7,s8⟩;go_simp;with_reducible rfl)
    · (simp only[Act.put,List.setIfInBounds_toArray,List.set_cons_zero,List.set_cons_succ,i64_w,i32_w];rfl)) (hQ: ∀c a w,Q (.panic c) (a.put N v) w→Q (.panic c) a w:=by exact fun _ _ _ h=>h):wpAnyLast P md ops Q S ds (fuel+1) l a w:=take_ l' x.1 rfl (take_ofW G.out V.out x.2.2.1) hQ (Or.inl ⟨x.2.2.2.1,x.2.2.2.2.1⟩) hS x.2.2.2.2.2 h
theorem zk12 (G:Aside0 (rtab md ops=T)) (V:Aside0 (waitsOk T.2 B=true)) (hS:S w) (i:Nat) (h:wpAnyLast P md ops Q S ds fuel l' a' w) (x:ops[i]?=some (⟨N,o1,o2,o3,o4,o5⟩:Oper)∧l.setIfInBounds i true=l'∧takeW T B ds l.toList l'.toList i=true∧Region.wanted (⟨N,o1,o2,o3,o4,o5⟩:Oper) (yielded ops a.tmps)=true∧(∀w,S w→(execOp a.eval (⟨N,o1,o2,o3,o4,o5⟩:Oper)).run P w= .ok (.value v) w)∧a.put N v=a':=by
    refine⟨?_,?_,?_,?_,?_,?_⟩
    · rfl
    · (simp only[List.setIfInBounds_toArray,List.set_cons_zero,List.set_cons_succ];rfl)
    · kernel_rfl
    · rfl
    · (rintro w' ⟨s0,s1,s2,s3,s4,s5,s6,s7,s8,s9,s10,s11⟩;go_simp;with_reducible rfl)
    · (simp only[Act.put,List.setIfInBounds_toArray,List.set_cons_zero,List.set_cons_succ,i64_w,i32_w];rfl)) (hQ: ∀c a w,Q (.panic c) (a.put N v) w→Q (.panic c) a w:=by exact fun _ _ _ h=>h):wpAnyLast P md ops Q S ds (fuel+1) l a w:=take_ l' x.1 rfl (take_ofW G.out V.out x.2.2.1) hQ (Or.inl ⟨x.2.2.2.1,x.2.2.2.2.1⟩) hS x.2.2.2.2.2 h
theorem zk13 (G:Aside0 (rtab md ops=T)) (V:Aside0 (waitsOk T.2 B=true)) (hS:S w) (i:Nat) (h:wpAnyLast P md ops Q S ds fuel l' a' w) (x:ops[i]?=some (⟨N,o1,o2,o3,o4,o5⟩:Oper)∧l.setIfInBounds i true=l'∧takeW T B ds l.toList l'.toList i=true∧Region.wanted (⟨N,o1,o2,o3,o4,o5⟩:Oper) (yielded ops a.tmps)=true∧(∀w,S w→(execOp a.eval (⟨N,o1,o2,o3,o4,o5⟩:Oper)).run P w= .ok (.value v) w)∧a.put N v=a':=by
    refine⟨?_,?_,?_,?_,?_,?_⟩
    · rfl
    · (simp only[List.setIfInBounds_toArray,List.set_cons_zero,List.set_cons_succ];rfl)
    · kernel_rfl
    · rfl
    · (rintro w' ⟨s0,s1,s2,s3,s4,s5,s6,s7,s8,s9,s10,s11,s12⟩;go_simp;with_reducible rfl)
    · (simp only[Act.put,List.setIfInBounds_toArray,List.set_cons_zero,List.set_cons_succ,i64_w,i32_w];rfl)) (hQ: ∀c a w,Q (.panic c) (a.put N v) w→Q (.panic c) a w:=by exact fun _ _ _ h=>h):wpAnyLast P md ops Q S ds (fuel+1) l a w:=take_ l' x.1 rfl (take_ofW G.out V.out x.2.2.1) hQ (Or.inl ⟨x.2.2.2.1,x.2.2.2.2.1⟩) hS x.2.2.2.2.2 h
theorem zk19 (G:Aside0 (rtab md ops=T)) (V:Aside0 (waitsOk T.2 B=true)) (hS:S w) (i:Nat) (h:wpAnyLast P md ops Q S ds fuel l' a' w) (x:ops[i]?=some (⟨N,o1,o2,o3,o4,o5⟩:Oper)∧l.setIfInBounds i true=l'∧takeW T B ds l.toList l'.toList i=true∧Region.wanted (⟨N,o1,o2,o3,o4,o5⟩:Oper) (yielded ops a.tmps)=true∧(∀w,S w→(execOp a.eval (⟨N,o1,o2,o3,o4,o5⟩:Oper)).run P w= .ok (.value v) w)∧a.put N v=a':=by
    refine⟨?_,?_,?_,?_,?_,?_⟩
    · rfl
    · (simp only[List.setIfInBounds_toArray,List.set_cons_zero,List.set_cons_succ];rfl)
    · kernel_rfl
    · rfl
    · (rintro w' ⟨s0,s1,s2,s3,s4,s5,s6,s7,s8,s9,s10,s11,s12,s13,s14,s15,s16,s17,s18⟩;go_simp;with_reducible rfl)
    · (simp only[Act.put,List.setIfInBounds_toArray,List.set_cons_zero,List.set_cons_succ,i64_w,i32_w];rfl)) (hQ: ∀c a w,Q (.panic c) (a.put N v) w→Q (.panic c) a w:=by exact fun _ _ _ h=>h):wpAnyLast P md ops Q S ds (fuel+1) l a w:=take_ l' x.1 rfl (take_ofW G.out V.out x.2.2.1) hQ (Or.inl ⟨x.2.2.2.1,x.2.2.2.2.1⟩) hS x.2.2.2.2.2 h
theorem zk26 (G:Aside0 (rtab md ops=T)) (V:Aside0 (waitsOk T.2 B=true)) (hS:S w) (i:Nat) (h:wpAnyLast P md ops Q S ds fuel l' a' w) (x:ops[i]?=some (⟨N,o1,o2,o3,o4,o5⟩:Oper)∧l.setIfInBounds i true=l'∧takeW T B ds l.toList l'.toList i=true∧Region.wanted (⟨N,o1,o2,o3,o4,o5⟩:Oper) (yielded ops a.tmps)=true∧(∀w,S w→(execOp a.eval (⟨N,o1,o2,o3,o4,o5⟩:Oper)).run P w= .ok (.value v) w)∧a.put N v=a':=by
    refine⟨?_,?_,?_,?_,?_,?_⟩
    · rfl
    · (simp only[List.setIfInBounds_toArray,List.set_cons_zero,List.set_cons_succ];rfl)
    · kernel_rfl
    · rfl
    · (rintro w' ⟨s0,s1,s2,s3,s4,s5,s6,s7,s8,s9,s10,s11,s12,s13,s14,s15,s16,s17,s18,s19,s20,s21,s22,s23,s24,s25⟩;go_simp;with_reducible rfl)
    · (simp only[Act.put,List.setIfInBounds_toArray,List.set_cons_zero,List.set_cons_succ,i64_w,i32_w];rfl)) (hQ: ∀c a w,Q (.panic c) (a.put N v) w→Q (.panic c) a w:=by exact fun _ _ _ h=>h):wpAnyLast P md ops Q S ds (fuel+1) l a w:=take_ l' x.1 rfl (take_ofW G.out V.out x.2.2.1) hQ (Or.inl ⟨x.2.2.2.1,x.2.2.2.2.1⟩) hS x.2.2.2.2.2 h
theorem zN {P:Program} {ops:Array Oper} {Q:Exit→Act→World→Prop} {md:Region.Mode} {S:World→Prop} {ds:List Nat} {fuel:Nat} {l:Array Bool} {a a':Act} {w:World} {N:Nat} {v:Value} (h:wpAnyLast P md ops Q S ds fuel l a' w) (ha:a.put (some N) v=a':=by simp only[Act.put,List.setIfInBounds_toArray,List.set_cons_zero,List.set_cons_succ,i64_w,i32_w];rfl):wpAnyLast P md ops Q S ds fuel l (a.put (some N) v) w:=norm_ ha h
end
section
variable {w : World} {g t : Nat} {l : List Value}
theorem zc0 {x0:Value} (H:Aside0 (w.heap[g]?=some (.cells (List.toArray (x0::l)) t (0,0)))):w.cell? ⟨g,0,none⟩=some x0:=(blk_cell H.out 0).trans rfl
theorem zc1 {x0 x1:Value} (H:Aside0 (w.heap[g]?=some (.cells (List.toArray (x0::x1::l)) t (0,0)))):w.cell? ⟨g,1,none⟩=some x1:=(blk_cell H.out 1).trans rfl
theorem zc2 {x0 x1 x2:Value} (H:Aside0 (w.heap[g]?=some (.cells (List.toArray (x0::x1::x2::l)) t (0,0)))):w.cell? ⟨g,2,none⟩=some x2:=(blk_cell H.out 2).trans rfl
theorem zc3 {x0 x1 x2 x3:Value} (H:Aside0 (w.heap[g]?=some (.cells (List.toArray (x0::x1::x2::x3::l)) t (0,0)))):w.cell? ⟨g,3,none⟩=some x3:=(blk_cell H.out 3).trans rfl
theorem zc4 {x0 x1 x2 x3 x4:Value} (H:Aside0 (w.heap[g]?=some (.cells (List.toArray (x0::x1::x2::x3::x4::l)) t (0,0)))):w.cell? ⟨g,4,none⟩=some x4:=(blk_cell H.out 4).trans rfl
theorem zc5 {x0 x1 x2 x3 x4 x5:Value} (H:Aside0 (w.heap[g]?=some (.cells (List.toArray (x0::x1::x2::x3::x4::x5::l)) t (0,0)))):w.cell? ⟨g,5,none⟩=some x5:=(blk_cell H.out 5).trans rfl
theorem zc6 {x0 x1 x2 x3 x4 x5 x6:Value} (H:Aside0 (w.heap[g]?=some (.cells (List.toArray (x0::x1::x2::x3::x4::x5::x6::l)) t (0,0)))):w.cell? ⟨g,6,none⟩=some x6:=(blk_cell H.out 6).trans rfl
theorem zd2 {x0 x1:Value} (H:Aside0 (w.heap[g]?=some (.cells (List.toArray [x0,x1]) t (0,0)))):w.cell? ⟨g,0,none⟩=some x0∧w.cell? ⟨g,1,none⟩=some x1:=⟨zc0 H,zc1 H⟩
theorem zn2 {cs:Array Value} (H:Aside0 (w.heap[g]?=some (.cells cs t (0,0)))):w.frozen? ⟨g,0,none⟩=false∧w.frozen? ⟨g,1,none⟩=false:=⟨zf H 0,zf H 1⟩
theorem zd5 {x0 x1 x2 x3 x4:Value} (H:Aside0 (w.heap[g]?=some (.cells (List.toArray [x0,x1,x2,x3,x4]) t (0,0)))):w.cell? ⟨g,0,none⟩=some x0∧w.cell? ⟨g,1,none⟩=some x1∧w.cell? ⟨g,2,none⟩=some x2∧w.cell? ⟨g,3,none⟩=some x3∧w.cell? ⟨g,4,none⟩=some x4:=⟨zc0 H,zc1 H,zc2 H,zc3 H,zc4 H⟩
theorem zn5 {cs:Array Value} (H:Aside0 (w.heap[g]?=some (.cells cs t (0,0)))):w.frozen? ⟨g,0,none⟩=false∧w.frozen? ⟨g,1,none⟩=false∧w.frozen? ⟨g,2,none⟩=false∧w.frozen? ⟨g,3,none⟩=false∧w.frozen? ⟨g,4,none⟩=false:=⟨zf H 0,zf H 1,zf H 2,zf H 3,zf H 4⟩
theorem zd7 {x0 x1 x2 x3 x4 x5 x6:Value} (H:Aside0 (w.heap[g]?=some (.cells (List.toArray [x0,x1,x2,x3,x4,x5,x6]) t (0,0)))):w.cell? ⟨g,0,none⟩=some x0∧w.cell? ⟨g,1,none⟩=some x1∧w.cell? ⟨g,2,none⟩=some x2∧w.cell? ⟨g,3,none⟩=some x3∧w.cell? ⟨g,4,none⟩=some x4∧w.cell? ⟨g,5,none⟩=some x5∧w.cell? ⟨g,6,none⟩=some x6:=⟨zc0 H,zc1 H,zc2 H,zc3 H,zc4 H,zc5 H,zc6 H⟩
theorem zn7 {cs:Array Value} (H:Aside0 (w.heap[g]?=some (.cells cs t (0,0)))):w.frozen? ⟨g,0,none⟩=false∧w.frozen? ⟨g,1,none⟩=false∧w.frozen? ⟨g,2,none⟩=false∧w.frozen? ⟨g,3,none⟩=false∧w.frozen? ⟨g,4,none⟩=false∧w.frozen? ⟨g,5,none⟩=false∧w.frozen? ⟨g,6,none⟩=false:=⟨zf H 0,zf H 1,zf H 2,zf H 3,zf H 4,zf H 5,zf H 6⟩
theorem zt2 {p:Prop} (h:p:=by rintro w' ⟨s0,s1⟩;go_simp;with_reducible rfl):p:=h
theorem zt5 {p:Prop} (h:p:=by rintro w' ⟨s0,s1,s2,s3,s4⟩;go_simp;with_reducible rfl):p:=h
theorem zt7 {p:Prop} (h:p:=by rintro w' ⟨s0,s1,s2,s3,s4,s5,s6⟩;go_simp;with_reducible rfl):p:=h
theorem zK0 {w W W':World} {g:Nat} (H:Aside0 (KeepBut w W g none)) (h:KeepBut w W g none→KeepBut w W' g none:=by intro zz;repeat(first|(with_reducible first|exact zz|apply KeepBut.set_|apply keep_drewN|apply keep_drew|apply keep_alloc)|exact zz)):KeepBut w W' g none:=h H.out
theorem zK1 {w W W':World} {g a:Nat} (H:Aside0 (KeepBut w W g none)) (A:Aside0 (w.heap.size≤a)) (h:KeepBut w W g none→w.heap.size≤a→KeepBut w W' g none:=by intro zz za;repeat(first|(with_reducible first|exact zz|apply KeepBut.set_|apply keep_drewN|apply keep_drew|apply keep_alloc|refine keep_far ?_ za _)|exact zz)):KeepBut w W' g none:=h H.out A.out
theorem zK2 {w W W':World} {g a b:Nat} (H:Aside0 (KeepBut w W g none)) (A:Aside0 (w.heap.size≤a)) (B:Aside0 (w.heap.size≤b)) (h:KeepBut w W g none→w.heap.size≤a→w.heap.size≤b→KeepBut w W' g none:=by intro zz za zb;repeat(first|(with_reducible first|exact zz|apply KeepBut.set_|apply keep_drewN|apply keep_drew|apply keep_alloc|refine keep_far ?_ za _|refine keep_far ?_ zb _)|exact zz)):KeepBut w W' g none:=h H.out A.out B.out
theorem zK3 {w W W':World} {g a b c:Nat} (H:Aside0 (KeepBut w W g none)) (A:Aside0 (w.heap.size≤a)) (B:Aside0 (w.heap.size≤b)) (C:Aside0 (w.heap.size≤c)) (h:KeepBut w W g none→w.heap.size≤a→w.heap.size≤b→w.heap.size≤c→KeepBut w W' g none:=by intro zz za zb zc;repeat(first|(with_reducible first|exact zz|apply KeepBut.set_|apply keep_drewN|apply keep_drew|apply keep_alloc|refine keep_far ?_ za _|refine keep_far ?_ zb _|refine keep_far ?_ zc _)|exact zz)):KeepBut w W' g none:=h H.out A.out B.out C.out
theorem zK4 {w W W':World} {g a b c d:Nat} (H:Aside0 (KeepBut w W g none)) (A:Aside0 (w.heap.size≤a)) (B:Aside0 (w.heap.size≤b)) (C:Aside0 (w.heap.size≤c)) (D:Aside0 (w.heap.size≤d)) (h:KeepBut w W g none→w.heap.size≤a→w.heap.size≤b→w.heap.size≤c→w.heap.size≤d→KeepBut w W' g none:=by intro zz za zb zc zd;repeat(first|(with_reducible first|exact zz|apply KeepBut.set_|apply keep_drewN|apply keep_drew|apply keep_alloc|refine keep_far ?_ za _|refine keep_far ?_ zb _|refine keep_far ?_ zc _|refine keep_far ?_ zd _)|exact zz)):KeepBut w W' g none:=h H.out A.out B.out C.out D.out
theorem zs4 {w W W':World} {a b c d:Nat} (H:Aside0 (Below w.heap.size w W)) (A:Aside0 (w.heap.size≤a)) (B:Aside0 (w.heap.size≤b)) (C:Aside0 (w.heap.size≤c)) (D:Aside0 (w.heap.size≤d)) (h:Below w.heap.size w W→w.heap.size≤a→w.heap.size≤b→w.heap.size≤c→w.heap.size≤d→Below w.heap.size w W':=by intro zz za zb zc zd;repeat(first|(with_reducible first|exact zz|apply below_alloc|apply pw_below_drewN|apply below_drew1|refine below_set ?_ za|refine below_set ?_ zb|refine below_set ?_ zc|refine below_set ?_ zd)|exact zz)):Below w.heap.size w W':=h H.out A.out B.out C.out D.out
theorem zgw {w W:World} {g gb:Nat} (hg:gb=W.heap.size) (h:KeepBut w W g none):Aside0 (w.heap.size≤gb):=⟨by rw[hg];exact keep_size h⟩
theorem zge {a b c:Nat} (h:Aside0 (a≤b)) (k:Aside0 (b≤c)):Aside0 (a≤c):=⟨Nat.le_trans h.out k.out⟩
theorem znl {g gb n:Nat} (hg:gb=n) (h:g<n):Aside0 (g≠gb):=⟨by rw[hg];exact Nat.ne_of_lt h⟩
theorem zns {a b:Nat} (h:Aside0 (a≠b)):Aside0 (b≠a):=⟨fun e=>h.out e.symm⟩
theorem zKb {w W W1:World} {g:Nat} (h:KeepBut w W g none) (hb:Below W.heap.size W W1):Aside0 (KeepBut w W1 g none):=⟨h.trans (KeepBut.of_below hb g none) (.inl rfl)⟩
theorem zKk {w W W1:World} {g:Nat} (h:KeepBut w W g none) (hk:KeepBut W W1 g none):Aside0 (KeepBut w W1 g none):=⟨h.trans hk (.inl rfl)⟩
theorem zbk {w w1:World} {g g':Nat} {o:Obj} (h:KeepBut w w1 g none) (hb:w.heap[g']?=some o) (hg:Aside0 (g'≠g)):Aside0 (w1.heap[g']?=some o):=⟨h.blk hb hg.out (by simp)⟩
theorem zbh {w W w1:World} {g g':Nat} {o:Obj} (h:KeepBut W w1 g none) (B:Aside0 (w.heap[g']?=some o)) (hg:Aside0 (g'≠g)) (k:w.heap[g']?=some o→W.heap[g']?=some o:=by intro hh;(with_reducible repeat(first|refine blk_drewN ?_ _|refine blk_drew ?_|refine blk_alloc ?_ _));exact hh):Aside0 (w1.heap[g']?=some o):=⟨h.blk (k B.out) hg.out (by simp)⟩
theorem zlo {α:Type} {d:Kd α} {e:Nat} {w w1 W:World} {g:Nat} {ok:Nat→Prop} {v:Value} {xs:List α} (h:d.R e w1 W.heap.size ok v xs) (hk:KeepBut w W g none):Aside0 (d.R e w1 w.heap.size ok v xs):=⟨Kd.R_lower h (keep_size hk)⟩
theorem zhc {w w1:World} {a:Addr} {v:Value} (hb:Below w.heap.size w w1) (h:w.cell? a=some v):w1.cell? a=some v:=(hb.cell (World.block_lt_of_cell? _ _ h)).trans h
theorem zbn {w:World} {a:Addr} {v:Value} {g:Nat} (h:w.cell? a=some v) (G:Aside0 (w.heap.size≤g)):a.block≠g:=Nat.ne_of_lt (Nat.lt_of_lt_of_le (World.block_lt_of_cell? _ _ h) G.out)
end
end Go.Proofs.Ytkecbmgdmkmfgaa.Z

