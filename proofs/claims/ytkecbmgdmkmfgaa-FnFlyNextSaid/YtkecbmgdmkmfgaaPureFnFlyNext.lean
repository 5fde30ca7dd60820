/-
  The law FnFlyNext over numbers and lists: a begun flight can be gone on with at just the ticks of the span that is told.
-/
import Derived.Test.YtkecbmgdmkmfgaaStdFnFlyNext
namespace Go.Proofs.Ytkecbmgdmkmfgaa.Pure
open Go.RowKit Go.Proofs.Ytkecbmgdmkmfgaa.QFnFlyNext Go.Proofs.YtkecbmgdmkmfgaaW.PrintWords Go.Proofs.Ytkecbmgdmkmfgaa.Kit Go.Proofs.Ytkecbmgdmkmfgaa.StdFnFlyNext
set_option linter.unusedSimpArgs false
set_option linter.unusedVariables false
def Bv (q s:Int):Bool:=decide (1≤q∧q≤s∧s≤50)
def Br (f b:Int):Bool:=decide (0≤f∧f≤b∧b≤10000)
def Ai (x:S54):Bool:=decide ((0≤x.f0∧x.f0≤15)∧(0≤x.f1∧x.f1≤15)∧(0≤x.f2∧x.f2≤x.f3∧x.f3≤6)∧0≤x.f4∧x.f4≤x.f5∧x.f5≤10000)
def B6 (a x:S54):Bool:=decide ((-1≤a.f0-x.f0∧a.f0-x.f0≤1)∧(-1≤a.f1-x.f1∧a.f1-x.f1≤1)∧(a.f0=x.f0→a.f1≠x.f1)∧a.f2≤x.f3∧x.f2≤a.f3)
def Bu (l:List S54) (j:Nat):Bool:=Ai (rd_T54 l (j:Int))&&(decide (j=0)||B6 (rd_T54 l ((j:Int)-1)) (rd_T54 l (j:Int)))
def Af (q s:Int) (l:List S54) (f b:Int):Bool:=Bv q s&&(decide (1≤l.length∧l.length≤40)&&(Br f b&&allN (Bu l) l.length 0))
theorem Ba (x:S54):Ai x=true↔((0≤x.f0∧x.f0≤15)∧(0≤x.f1∧x.f1≤15)∧(0≤x.f2∧x.f2≤x.f3∧x.f3≤6)∧0≤x.f4∧x.f4≤x.f5∧x.f5≤10000):=decide_eq_true_iff
theorem Ag {q s:Int} {l:List S54} {f b:Int} (h:Af q s l f b=true):(1≤q∧q≤s∧s≤50)∧(1≤l.length∧l.length≤40)∧(0≤f∧f≤b∧b≤10000)∧ ∀j:Nat,j<l.length→Ai (rd_T54 l (j:Int))=true:=by
  unfold Af at h;rw[Bool.and_eq_true,Bool.and_eq_true,Bool.and_eq_true]at h;obtain⟨h1,h2,h3,h4⟩:=h;refine⟨of_decide_eq_true h1,of_decide_eq_true h2,of_decide_eq_true h3,fun j hj=>?_⟩;have:=(Bg _ _).1 h4 j (by omega) (by omega);unfold Bu at this;rw[Bool.and_eq_true]at this;exact this.1
def loAt (l:List S54) (f:Int) (i:Int):Int:=if i<(l.length:Int)then(rd_T54 l i).f4 else f
def hiAt (l:List S54) (b:Int) (i:Int):Int:=if i<(l.length:Int)then(rd_T54 l i).f5 else b
theorem Au {q s:Int} {l:List S54} {f b:Int} (h:Af q s l f b=true) (i:Nat):0≤loAt l f i∧loAt l f i≤hiAt l b i∧hiAt l b i≤10000:=by
  obtain⟨_,_,h3,h4⟩:=Ag h;unfold loAt hiAt
  by_cases hi:(i:Int)<(l.length:Int)
  · rw[if_pos hi,if_pos hi]
    have:=(Ba _).1 (h4 i (by omega))
    omega
  · rw[if_neg hi,if_neg hi]
    omega
theorem Ax (a b c:Int):spec_l21In.f a b c=some (decide (b≤a∧a≤c)):=by
  unfold spec_l21In.f
  by_cases h:a≥b<;>simp[h]
theorem Ea (q s:Int):spec_FlyKindOk.f q s=some (Bv q s):=by
  unfold spec_FlyKindOk.f Bv;rw[Ax];simp only[Option.bind_some]
  by_cases h1:1≤q<;>by_cases h2:q≤s<;>simp[h1,h2]
theorem Cw (x:S54):spec_l22StepOk.f x.f0 x.f1 x.f2 x.f3 x.f4 x.f5 x.f6=some (Ai x):=by
  unfold spec_l22StepOk.f Ai;simp only[Ax,Option.bind_some,decide_eq_true_eq]
  by_cases h0:0≤x.f0∧x.f0≤15
  · rw[if_pos h0]
    by_cases h1:0≤x.f1∧x.f1≤15
    · rw[if_pos h1]
      by_cases h2:0≤x.f2∧x.f2≤x.f3
      · rw[if_pos h2]
        by_cases h3:x.f3≤6
        · rw[if_pos h3]
          by_cases h4:0≤x.f4∧x.f4≤x.f5
          · rw[if_pos h4]
            congr 1
            apply decide_eq_decide.2
            omega
          · rw[if_neg h4]
            congr 1
            symm
            apply decide_eq_false
            omega
        · rw[if_neg h3]
          congr 1
          symm
          apply decide_eq_false
          omega
      · rw[if_neg h2]
        congr 1
        symm
        apply decide_eq_false
        omega
    · rw[if_neg h1]
      congr 1
      symm
      apply decide_eq_false
      omega
  · rw[if_neg h0]
    congr 1
    symm
    apply decide_eq_false
    omega
theorem Eb (a x:S54) (ha:Ai a=true) (hx:Ai x=true):spec_l22Next.f a.f0 a.f1 a.f2 a.f3 a.f4 a.f5 a.f6 x.f0 x.f1 x.f2 x.f3 x.f4 x.f5 x.f6=some (B6 a x):=by
  have ha:=(Ba a).1 ha;have hx:=(Ba x).1 hx;unfold spec_l22Next.f B6;rw[w6 (a.f0-x.f0),w6 (a.f1-x.f1)];simp only[Ax,Option.bind_some,decide_eq_true_eq]
  repeat' split
  all_goals first|(congr 1;apply decide_eq_decide.2;omega)|(congr 1;symm;apply decide_eq_false;omega)
def A5 (l:List S54) (j:Nat):Bool:=Ai (rd_T54 l (j:Int))&&(decide (j=0)||decide (spec_l22Next.f (rd_T54 l ((j:Int)-1)).f0 (rd_T54 l ((j:Int)-1)).f1 (rd_T54 l ((j:Int)-1)).f2 (rd_T54 l ((j:Int)-1)).f3 (rd_T54 l ((j:Int)-1)).f4 (rd_T54 l ((j:Int)-1)).f5 (rd_T54 l ((j:Int)-1)).f6 (rd_T54 l (j:Int)).f0 (rd_T54 l (j:Int)).f1 (rd_T54 l (j:Int)).f2 (rd_T54 l (j:Int)).f3 (rd_T54 l (j:Int)).f4 (rd_T54 l (j:Int)).f5 (rd_T54 l (j:Int)).f6=some true))
theorem Cx (a0 a1 a2 a3 a4 a5:Int) (a6:Bool) (x0 x1 x2 x3 x4 x5:Int) (x6:Bool): ∃t,spec_l22Next.f a0 a1 a2 a3 a4 a5 a6 x0 x1 x2 x3 x4 x5 x6=some t:=by
  unfold spec_l22Next.f;simp only[Ax,Option.bind_some]
  repeat' split
  all_goals exact⟨_,rfl⟩
theorem Dt (l:List S54):allN (A5 l) l.length 0=allN (Bu l) l.length 0:=by
  refine Bn _ _ (fun j _ _ hh=>?_);unfold A5 Bu
  by_cases hs:Ai (rd_T54 l (j:Int))=true
  · rw[hs]
    by_cases h0:j=0
    · simp[h0]
    · have hp:=hh (j-1) (by omega) (by omega)
      unfold A5 at hp;rw[Bool.and_eq_true]at hp;have hp:=hp.1;rw[show(((j-1:Nat):Int))=(j:Int)-1 by omega]at hp;rw[Eb _ _ hp hs];simp
  · rw[Bool.eq_false_iff.2 hs]
    simp
theorem Ay (q s:Int) (l:List S54) (f b:Int):Ev (fun k=>spec_FlyPathOk.f k q s l f b) (Af q s l f b):=by
  unfold spec_FlyPathOk.f Af;have bad:Ev (fun k=>spec_FlyPathOk.j0 k true q s l f b) false:=Ev.step (fun k=>(by simp only[spec_FlyPathOk.j0];exact if_pos trivial)) (Ev.v _);simp only[Ea,Ax,Option.bind_some]
  by_cases h1:Bv q s=true
  · rw[h1]
    refine Ev.p rfl ?_
    by_cases h2:1≤l.length∧l.length≤40
    · rw[decide_eq_true h2]
      refine Ev.p (by rw[decide_eq_true_eq];omega) ?_
      by_cases h3:0≤f∧f≤b
      · refine Ev.p (by rw[decide_eq_true_eq];exact h3) ?_
        refine Ev.s ?_;simp only[spec_FlyPathOk.j0]
        by_cases h4:b>10000
        · refine Ev.p (decide_eq_true h4) (Ev.c (Ev.v _) ?_)
          have:Br f b=false:=decide_eq_false (by omega);rw[this];rfl
        · refine Ev.n (by simpa using h4) ?_
          have:Br f b=true:=decide_eq_true (by omega);rw[this,←Dt];have key:=Bo (F:=fun k i=>spec_FlyPathOk.l0 k i q s l f b) l.length (fun j=> !A5 l j) (fun _=>false) true ?_ ?_ ?_ l.length 0 (by omega)
          · exact key
          · intro i hi hp
            refine Ev.step (fun k=>?_) (Ev.v _);simp only[spec_FlyPathOk.l0,if_pos (show(i:Int)<(l.length:Int) by omega),if_pos (show(0:Int)≤i by omega),Cw,Option.bind_some];unfold A5 at hp
            by_cases hs:Ai (rd_T54 l (i:Int))=true
            · rw[hs]at hp⊢
              rw[if_pos rfl]
              by_cases hi0:i=0
              · simp[hi0]at hp
              · rw[if_pos (show(i:Int)>0 by omega),w6 ((i:Int)-1),if_pos (by omega),if_pos (by omega)]
                obtain⟨t,ht⟩:=Cx (rd_T54 l ((i:Int)-1)).f0 (rd_T54 l ((i:Int)-1)).f1 (rd_T54 l ((i:Int)-1)).f2 (rd_T54 l ((i:Int)-1)).f3 (rd_T54 l ((i:Int)-1)).f4 (rd_T54 l ((i:Int)-1)).f5 (rd_T54 l ((i:Int)-1)).f6 (rd_T54 l (i:Int)).f0 (rd_T54 l (i:Int)).f1 (rd_T54 l (i:Int)).f2 (rd_T54 l (i:Int)).f3 (rd_T54 l (i:Int)).f4 (rd_T54 l (i:Int)).f5 (rd_T54 l (i:Int)).f6;rw[ht]at hp⊢;simp only[Option.bind_some]
                have:t=false:=by simpa [hi0]using hp
                rw[this]
                rfl
            · rw[if_neg hs]
          · intro i hi hp r' hr
            refine Ev.step (fun k=>?_) hr;simp only[spec_FlyPathOk.l0,if_pos (show(i:Int)<(l.length:Int) by omega),if_pos (show(0:Int)≤i by omega),Cw,Option.bind_some];unfold A5 at hp
            by_cases hs:Ai (rd_T54 l (i:Int))=true
            · rw[hs]at hp⊢
              rw[if_pos rfl]
              by_cases hi0:i=0
              · rw[if_neg (by omega),w64 (by omega) (by omega)]
              · rw[if_pos (show(i:Int)>0 by omega),w6 ((i:Int)-1),if_pos (by omega),if_pos (by omega)]
                obtain⟨t,ht⟩:=Cx (rd_T54 l ((i:Int)-1)).f0 (rd_T54 l ((i:Int)-1)).f1 (rd_T54 l ((i:Int)-1)).f2 (rd_T54 l ((i:Int)-1)).f3 (rd_T54 l ((i:Int)-1)).f4 (rd_T54 l ((i:Int)-1)).f5 (rd_T54 l ((i:Int)-1)).f6 (rd_T54 l (i:Int)).f0 (rd_T54 l (i:Int)).f1 (rd_T54 l (i:Int)).f2 (rd_T54 l (i:Int)).f3 (rd_T54 l (i:Int)).f4 (rd_T54 l (i:Int)).f5 (rd_T54 l (i:Int)).f6;rw[ht]at hp⊢;simp only[Option.bind_some]
                have:t=true:=by simpa [hi0]using hp
                rw[this,if_pos rfl,w64 (by omega) (by omega)]
            · simp[hs]at hp
          · refine Ev.step (fun k=>?_) (Ev.v _)
            simp only[spec_FlyPathOk.l0];rw[if_neg (by omega)]
      · refine Ev.n (by rw[decide_eq_true_eq];exact h3) (Ev.c bad ?_)
        have:Br f b=false:=decide_eq_false (by omega);rw[this];rfl
    · rw[decide_eq_false h2]
      exact Ev.n (by rw[decide_eq_true_eq];omega) bad
  · rw[Bool.eq_false_iff.2 h1]
    exact Ev.n (by decide) bad
theorem Cq (a b c:Int):impl_within.f a b c=some (decide (b≤a∧a≤c)):=by
  unfold impl_within.f
  by_cases h:a≥b<;>simp[h]
theorem Ec (q s:Int):impl_FlyKindOk.f q s=some (Bv q s):=by
  unfold impl_FlyKindOk.f Bv
  by_cases h1:1≤q<;>by_cases h2:q≤s<;>simp[h1,h2]
theorem Df (f b:Int):impl_window.f f b=some (Br f b):=by
  unfold impl_window.f Br
  by_cases h1:0≤f<;>by_cases h2:f≤b<;>simp[h1,h2]
def B7 (a b:Int):Int:=if a>b then wrap64 (a-b)else wrap64 (b-a)
theorem D3 (a b:Int):impl_dist.f a b=some (B7 a b):=by
  unfold impl_dist.f B7
  split<;>rfl
def Cf (a x:S54):Bool:=decide ((a.f0=x.f0→a.f1≠x.f1)∧B7 a.f0 x.f0≤1∧B7 a.f1 x.f1≤1∧a.f2≤x.f3∧x.f2≤a.f3)
theorem Ej (a x:S54) (ha:Ai a=true) (hx:Ai x=true):Cf a x=B6 a x:=by
  have ha:=(Ba a).1 ha;have hx:=(Ba x).1 hx;unfold Cf B6
  have d: ∀p r:Int,0≤p→p≤15→0≤r→r≤15→(B7 p r≤1↔ -1≤p-r∧p-r≤1):=by
    intro p r _ _ _ _;unfold B7
    by_cases h:p>r
    · rw[if_pos h,w64 (by omega) (by omega)];omega
    · rw[if_neg h,w64 (by omega) (by omega)];omega
  have d0:=d a.f0 x.f0 (by omega) (by omega) (by omega) (by omega);have d1:=d a.f1 x.f1 (by omega) (by omega) (by omega) (by omega);apply decide_eq_decide.2;rw[d0,d1]
  omega
def A6 (l:List S54) (j:Nat):Bool:=Ai (rd_T54 l (j:Int))&&(decide (j=0)||Cf (rd_T54 l ((j:Int)-1)) (rd_T54 l (j:Int)))
theorem Du (l:List S54):allN (A6 l) l.length 0=allN (Bu l) l.length 0:=by
  refine Bn _ _ (fun j _ _ hh=>?_);unfold A6 Bu
  by_cases hs:Ai (rd_T54 l (j:Int))=true
  · rw[hs]
    by_cases h0:j=0
    · simp[h0]
    · have hp:=hh (j-1) (by omega) (by omega)
      unfold A6 at hp;rw[Bool.and_eq_true]at hp;have hp:=hp.1;rw[show(((j-1:Nat):Int))=(j:Int)-1 by omega]at hp;rw[Ej _ _ hp hs]
  · rw[Bool.eq_false_iff.2 hs]
    simp
theorem Cg (q s:Int) (l:List S54) (f b:Int) (i:Nat) (hi:i<l.length) (k:Nat):impl_FlyPathOk.l0 (k+1) l (l.length:Int) i q s l f b=
    impl_FlyPathOk.j2 k i l (l.length:Int) i (!Ai (rd_T54 l (i:Int))) q s l f b (rd_T54 l (i:Int)).f0 (rd_T54 l (i:Int)).f1 (rd_T54 l (i:Int)).f2 (rd_T54 l (i:Int)).f3 (rd_T54 l (i:Int)).f4 (rd_T54 l (i:Int)).f5 (rd_T54 l (i:Int)).f6:=by
  simp only[impl_FlyPathOk.l0,if_pos (show(i:Int)<(l.length:Int) by omega),if_pos (show(0:Int)≤i by omega),Cq,Df,Option.bind_some,decide_eq_true_eq];generalize rd_T54 l (i:Int)=x
  have e: ∀c:Bool,c=Ai x→ ∀ {α:Type} (g:Bool→α),g (!c)=g (!Ai x):=fun c h α g=>by rw[h]
  by_cases h0:0≤x.f0∧x.f0≤15
  · rw[if_pos h0]
    by_cases h1:0≤x.f1∧x.f1≤15
    · rw[if_pos h1]
      by_cases h2:0≤x.f2
      · rw[if_pos h2]
        by_cases h3:x.f2≤x.f3
        · rw[if_pos h3]
          by_cases h4:x.f3≤6
          · rw[if_pos h4]
            have:Br x.f4 x.f5=Ai x:=by
              unfold Br Ai;apply decide_eq_decide.2
              omega
            rw[this]
          · rw[if_neg h4,show Ai x=false from decide_eq_false (by omega)];rfl
        · rw[if_neg h3,show Ai x=false from decide_eq_false (by omega)];rfl
      · rw[if_neg h2,show Ai x=false from decide_eq_false (by omega)];rfl
    · rw[if_neg h1,show Ai x=false from decide_eq_false (by omega)];rfl
  · rw[if_neg h0,show Ai x=false from decide_eq_false (by omega)];rfl
theorem B8 (q s:Int) (l:List S54) (f b:Int) (i:Nat) (hi:i<l.length) (h0:i≠0) (x:S54) (k:Nat) (hl:l.length≤40):impl_FlyPathOk.j2 (k+1) i l (l.length:Int) i false q s l f b x.f0 x.f1 x.f2 x.f3 x.f4 x.f5 x.f6=
    if Cf (rd_T54 l ((i:Int)-1)) x=true then impl_FlyPathOk.l0 k l (l.length:Int) ((i:Int)+1) q s l f b else some false:=by
  simp only[impl_FlyPathOk.j2,D3,Option.bind_some];rw[if_neg (show¬(false=true) by decide),if_neg (show¬(i:Int)=0 by omega),w6 ((i:Int)-1),if_pos (by omega),if_pos (by omega),w6 ((i:Int)+1)];generalize rd_T54 l ((i:Int)-1)=a;generalize impl_FlyPathOk.l0 k l (l.length:Int) ((i:Int)+1) q s l f b=r;unfold Cf;simp only[decide_eq_true_eq]
  by_cases c0:a.f0=x.f0
  · rw[if_pos c0]
    by_cases c1:a.f1=x.f1
    · rw[if_pos c1,if_neg (fun h=>h.1 c0 c1)]
    · rw[if_neg c1]
      repeat' split
      all_goals first|rfl|(exfalso;omega)
  · rw[if_neg c0]
    repeat' split
    all_goals first|rfl|(exfalso;omega)
theorem B9 (q s:Int) (l:List S54) (f b:Int):Ev (fun k=>impl_FlyPathOk.f k q s l f b) (Af q s l f b):=by
  unfold impl_FlyPathOk.f Af;have bad:Ev (fun k=>impl_FlyPathOk.j0 k true q s l f b) false:=Ev.step (fun k=>(by simp only[impl_FlyPathOk.j0];exact if_pos trivial)) (Ev.v _);simp only[Ec,Cq,Df,Option.bind_some]
  by_cases h1:Bv q s=true
  · rw[h1]
    refine Ev.p rfl ?_
    by_cases h2:1≤l.length∧l.length≤40
    · rw[decide_eq_true h2]
      refine Ev.p (by rw[decide_eq_true_eq];omega) ?_;refine Ev.s ?_;simp only[impl_FlyPathOk.j0]
      by_cases h3:Br f b=true
      · rw[h3,←Du]
        refine Ev.n (by decide) ?_;have key:=Bo (F:=fun k i=>impl_FlyPathOk.l0 k l (l.length:Int) i q s l f b) l.length (fun j=> !A6 l j) (fun _=>false) true ?_ ?_ ?_ l.length 0 (by omega)
        · exact key
        · intro i hi hp
          refine Ev.step (Cg q s l f b i hi) ?_;unfold A6 at hp;refine Ev.s ?_
          by_cases hs:Ai (rd_T54 l (i:Int))=true
          · rw[hs]at hp⊢
            by_cases hi0:i=0
            · simp[hi0]at hp
            · refine Ev.congr (fun k=>B8 q s l f b i hi hi0 _ k h2.2) ?_
              refine Ev.n ?_ (Ev.v _)
              simpa [hi0]using hp
          · rw[Bool.eq_false_iff.2 hs]
            simp only[impl_FlyPathOk.j2];exact Ev.p rfl (Ev.v _)
        · intro i hi hp r' hr
          refine Ev.step (Cg q s l f b i hi) ?_;unfold A6 at hp;refine Ev.s ?_
          by_cases hs:Ai (rd_T54 l (i:Int))=true
          · rw[hs]at hp⊢
            by_cases hi0:i=0
            · subst hi0
              simp only[impl_FlyPathOk.j2];refine Ev.n (by decide) (Ev.p rfl ?_);rw[w64 (by omega) (by omega)];exact hr
            · refine Ev.congr (fun k=>B8 q s l f b i hi hi0 _ k h2.2) ?_
              refine Ev.p ?_ hr
              simpa [hi0]using hp
          · simp[hs]at hp
        · refine Ev.step (fun k=>?_) (Ev.v _)
          simp only[impl_FlyPathOk.l0];rw[if_neg (by omega)]
      · rw[Bool.eq_false_iff.2 h3]
        exact Ev.p rfl (Ev.v _)
    · rw[decide_eq_false h2]
      exact Ev.n (by rw[decide_eq_true_eq];omega) bad
  · rw[Bool.eq_false_iff.2 h1]
    exact Ev.n (by decide) bad
theorem Dg (q s:Int) (l:List S54) (f b:Int) (i:Int) (h:0≤i):spec_l23Low.f q s l f b i=some (loAt l f i):=by
  unfold spec_l23Low.f loAt
  by_cases hi:i<(l.length:Int)
  · rw[if_pos hi,if_pos h,if_pos hi]
  · rw[if_neg hi,if_neg hi]
theorem Cy (q s:Int) (l:List S54) (f b:Int) (i:Int) (h:0≤i):spec_l23High.f q s l f b i=some (hiAt l b i):=by
  unfold spec_l23High.f hiAt
  by_cases hi:i<(l.length:Int)
  · rw[if_pos hi,if_pos h,if_pos hi]
  · rw[if_neg hi,if_neg hi]
def Ch (s:Int) (l:List S54) (i:Int):Int:=if(rd_T54 l i).f6=true then 10000 else s
theorem Cz (q s:Int) (l:List S54) (f b:Int) (i:Int) (h:0≤i) (hi:i<(l.length:Int)):spec_l23Most.f q s l f b i=some (Ch s l i):=by
  unfold spec_l23Most.f Ch;rw[if_pos h,if_pos hi]
  split<;>rfl
theorem Ci (q s:Int) (l:List S54) (f b:Int) (i:Int) (h:0≤i) (hi:i≤(l.length:Int)):impl_FlyPath_bound.f q s l f b i=some (loAt l f i,hiAt l b i):=by
  unfold impl_FlyPath_bound.f loAt hiAt
  by_cases e:i=(l.length:Int)
  · rw[if_pos e,if_neg (by omega),if_neg (by omega)]
  · rw[if_neg e,if_pos h,if_pos (by omega),if_pos (by omega),if_pos (by omega)]
section
variable (w : Int → Int) (A B : Nat → Int) (q s : Int) (h : Nat → Bool) (n : Nat)
def fwdL:Nat→Int
  |0=>A 0
  |k+1=>max (A (k+1)) (w (fwdL k+q))
def fwdH:Nat→Int
  |0=>B 0
  |k+1=>if h k=true then B (k+1)else min (B (k+1)) (w (fwdH k+s))
def bwdL:Nat→Int
  |0=>fwdL w A q n
  |d+1=>if h (n-(d+1))=true then fwdL w A q (n-(d+1))else max (fwdL w A q (n-(d+1))) (w (bwdL d-s))
def bwdH:Nat→Int
  |0=>fwdH w B s h n
  |d+1=>min (fwdH w B s h (n-(d+1))) (w (bwdH d-q))
def Ab (k:Nat):Int:=bwdL w A q s h n (n-k)
def Ac (k:Nat):Int:=bwdH w B q s h n (n-k)
theorem Bb:Ab w A q s h n n=fwdL w A q n:=by unfold Ab;rw[Nat.sub_self];rfl
theorem Bc:Ac w B q s h n n=fwdH w B s h n:=by unfold Ac;rw[Nat.sub_self];rfl
theorem Bd (k:Nat) (hk:k<n):Ab w A q s h n k=if h k=true then fwdL w A q k else max (fwdL w A q k) (w (Ab w A q s h n (k+1)-s)):=by
  unfold Ab;obtain⟨d,hd⟩: ∃d,n-(k+1)=d:=⟨_,rfl⟩;rw[hd,show n-k=d+1 by omega];simp only[bwdL];rw[show n-(d+1)=k by omega]
theorem Be (k:Nat) (hk:k<n):Ac w B q s h n k=min (fwdH w B s h k) (w (Ac w B q s h n (k+1)-q)):=by
  unfold Ac;obtain⟨d,hd⟩: ∃d,n-(k+1)=d:=⟨_,rfl⟩;rw[hd,show n-k=d+1 by omega];simp only[bwdH];rw[show n-(d+1)=k by omega]
theorem Bh (k:Nat):A k≤fwdL w A q k:=by
  cases k with
  |zero=>exact Int.le_refl _
  |succ k=>simp only[fwdL];omega
theorem Bi (k:Nat):fwdH w B s h k≤B k:=by
  cases k with
  |zero=>exact Int.le_refl _
  |succ k=>
    simp only[fwdH]
    split<;>omega
theorem A3 (k:Nat) (hk:k≤n):fwdL w A q k≤Ab w A q s h n k:=by
  rcases Nat.lt_or_ge k n with hlt|hge
  · rw[Bd w A q s h n k hlt]
    split<;>omega
  · rw[show k=n by omega,Bb]
    exact Int.le_refl _
theorem A4 (k:Nat) (hk:k≤n):Ac w B q s h n k≤fwdH w B s h k:=by
  rcases Nat.lt_or_ge k n with hlt|hge
  · rw[Be w B q s h n k hlt]
    omega
  · rw[show k=n by omega,Bc]
    exact Int.le_refl _
end
abbrev idw (x:Int):Int:=x
def tab {α:Type} (n:Nat) (g:Nat→α):List α:=(List.range n).map g
theorem Ad {α:Type} (n:Nat) (g:Nat→α):(tab n g).length=n:=by simp[tab]
theorem Aw {α:Type} (n:Nat) (g:Nat→α) (i:Nat) (hi:i<n):(tab n g)[i]?=some (g i):=by simp[tab,hi]
theorem Ao (n:Nat) (g:Nat→S32) (i:Nat) (hi:i<n):rd_T32 (tab n g) (i:Int)=g i:=by
  show(tab n g).getD ((i:Int)).toNat _=g i
  rw[Int.toNat_natCast,List.getD_eq_getElem?_getD,Aw n g i hi];rfl
theorem Aj {α:Type} (n:Nat) (g g':Nat→α) (hg: ∀j,j<n→g j=g' j):tab n g=tab n g':=by
  apply List.ext_getElem?;intro j
  rcases Nat.lt_or_ge j n with hj|hj
  · rw[Aw n g j hj,Aw n g' j hj,hg j hj]
  · rw[List.getElem?_eq_none (by rw[Ad];omega),List.getElem?_eq_none (by rw[Ad];omega)]
theorem Av {α:Type} (n:Nat) (g:Nat→α) (i:Nat) (v:α) (hi:i<n):(tab n g).set i v=tab n (fun j=>if j=i then v else g j):=by
  apply List.ext_getElem?;intro j
  rcases Nat.lt_or_ge j n with hj|hj
  · rw[Aw n _ j hj]
    by_cases e:j=i
    · subst e
      rw[List.getElem?_set_self (by rw[Ad];omega),if_pos rfl]
    · rw[List.getElem?_set_ne (Ne.symm e),Aw n g j hj,if_neg e]
  · rw[List.getElem?_eq_none (by rw[List.length_set,Ad];omega),List.getElem?_eq_none (by rw[Ad];omega)]
theorem Ek {α:Type} (n:Nat) (g:Nat→α):tab n g++[g n]=tab (n+1) g:=by simp[tab,List.range_succ]
def Al (w:Int→Int) (A B:Nat→Int) (q s:Int) (h:Nat→Bool) (n:Nat):Bool:=allN (fun k=>decide (Ab w A q s h n k≤Ac w B q s h n k)) (n+1) 0
def Ak (w:Int→Int) (A B:Nat→Int) (q s:Int) (h:Nat→Bool) (n:Nat):List S32×Bool:=
  if Al w A B q s h n=true then(tab (n+1) (fun k=>(⟨Ab w A q s h n k,Ac w B q s h n k⟩:S32)),true)else([],false)
theorem Am (w:Int→Int) (A B:Nat→Int) (q s:Int) (h:Nat→Bool) (n:Nat):Al w A B q s h n=true↔ ∀k,k≤n→Ab w A q s h n k≤Ac w B q s h n k:=by
  unfold Al;rw[Bg];exact⟨fun hh k hk=>of_decide_eq_true (hh k (by omega) (by omega)),fun hh k _ hk=>decide_eq_true (hh k (by omega))⟩
theorem D4 (A B:Nat→Int) (q s:Int) (h:Nat→Bool) (n:Nat) (hn:n≤40) (hq:1≤q∧q≤s∧s≤50) (hw: ∀k,k≤n→0≤A k∧A k≤B k∧B k≤10000):
    ∀k,k≤n→Ab wrap64 A q s h n k=Ab idw A q s h n k∧Ac wrap64 B q s h n k=Ac idw B q s h n k:=by
  have fL: ∀k,k≤n→fwdL wrap64 A q k=fwdL idw A q k∧0≤fwdL idw A q k∧fwdL idw A q k≤10000+50*(k:Int):=by
    intro k
    induction k with
    |zero=>intro hk;have:=hw 0 hk;simp only[fwdL];exact⟨by trivial,by omega,by omega⟩
    |succ k ih=>
      intro hk;obtain⟨h1,h2,h3⟩:=ih (by omega);have:=hw (k+1) hk;simp only[fwdL,h1,idw];rw[w64 (by omega) (by omega)];exact⟨rfl,by omega,by omega⟩
  have fH: ∀k,k≤n→fwdH wrap64 B s h k=fwdH idw B s h k∧0≤fwdH idw B s h k∧fwdH idw B s h k≤10000:=by
    intro k
    induction k with
    |zero=>intro hk;have:=hw 0 hk;simp only[fwdH];exact⟨by trivial,by omega,by omega⟩
    |succ k ih=>
      intro hk;obtain⟨h1,h2,h3⟩:=ih (by omega);have:=hw (k+1) hk;simp only[fwdH,h1,idw];rw[w64 (by omega) (by omega)];exact⟨rfl,by split<;>omega,by split<;>omega⟩
  have bL: ∀d,d≤n→bwdL wrap64 A q s h n d=bwdL idw A q s h n d∧0≤bwdL idw A q s h n d∧bwdL idw A q s h n d≤12000:=by
    intro d
    induction d with
    |zero=>intro hd;have:=fL n (Nat.le_refl _);simp only[bwdL];exact⟨this.1,this.2.1,by omega⟩
    |succ d ih=>
      intro hd;obtain⟨h1,h2,h3⟩:=ih (by omega);have:=fL (n-(d+1)) (by omega);simp only[bwdL,h1,this.1,idw];rw[w64 (by omega) (by omega)];exact⟨rfl,by split<;>omega,by split<;>omega⟩
  have bH: ∀d,d≤n→bwdH wrap64 B q s h n d=bwdH idw B q s h n d∧ -50*(d:Int)≤bwdH idw B q s h n d∧bwdH idw B q s h n d≤10000:=by
    intro d
    induction d with
    |zero=>intro hd;have:=fH n (Nat.le_refl _);simp only[bwdH];exact⟨this.1,by omega,by omega⟩
    |succ d ih=>
      intro hd;obtain⟨h1,h2,h3⟩:=ih (by omega);have:=fH (n-(d+1)) (by omega);simp only[bwdH,h1,this.1,idw];rw[w64 (by omega) (by omega)];exact⟨rfl,by omega,by omega⟩
  exact fun k hk=>⟨(bL (n-k) (by omega)).1,(bH (n-k) (by omega)).1⟩
theorem Dv (A B:Nat→Int) (q s:Int) (h:Nat→Bool) (n:Nat) (hn:n≤40) (hq:1≤q∧q≤s∧s≤50) (hA: ∀k,k≤n→0≤A k) (hB: ∀k,k≤n→B k≤10000):Ak wrap64 A B q s h n=Ak idw A B q s h n:=by
  by_cases hbad: ∃k,k≤n∧B k<A k
  · obtain⟨k,hk,hlt⟩:=hbad
    have no: ∀w:Int→Int,Al w A B q s h n=false:=by
      intro w;refine Bool.eq_false_iff.2 (fun hok=>?_);have:=(Am w A B q s h n).1 hok k hk;have h1:=Bh w A q k;have h2:=Bi w B s h k;have h3:=A3 w A q s h n k hk;have h4:=A4 w B q s h n k hk
      omega
    unfold Ak;rw[no wrap64,no idw];simp only[Bool.false_eq_true,if_false]
  · have hw: ∀k,k≤n→0≤A k∧A k≤B k∧B k≤10000:=fun k hk=>⟨hA k hk,Int.not_lt.1 (fun hlt=>hbad ⟨k,hk,hlt⟩),hB k hk⟩
    have e:=D4 A B q s h n hn hq hw
    have e2:Al wrap64 A B q s h n=Al idw A B q s h n:=by
      apply Bool.eq_iff_iff.2;rw[Am,Am];exact⟨fun hh k hk=>by rw[←(e k hk).1,←(e k hk).2];exact hh k hk,fun hh k hk=>by rw[(e k hk).1,(e k hk).2];exact hh k hk⟩
    unfold Ak;rw[e2,Aj (n+1) _ (fun k=>(⟨Ab idw A q s h n k,Ac idw B q s h n k⟩:S32)) (fun j hj=>by rw[(e j (by omega)).1,(e j (by omega)).2])]
def Ah (l:List S54) (k:Nat):Bool:=(rd_T54 l (k:Int)).f6
theorem Bj (a b:Int):spec_l21Max.f a b=some (max a b):=by
  unfold spec_l21Max.f
  by_cases h:a>b
  · rw[if_pos h];congr 1;omega
  · rw[if_neg h];congr 1;omega
theorem Bw (a b:Int):spec_l21Min.f a b=some (min a b):=by
  unfold spec_l21Min.f
  by_cases h:a<b
  · rw[if_pos h];congr 1;omega
  · rw[if_neg h];congr 1;omega
theorem Cj (q s:Int) (l:List S54) (f b:Int) (hq:1≤q∧q≤s∧s≤50) (hn:l.length≤40)
    (hA: ∀k:Nat,k≤l.length→0≤loAt l f k∧loAt l f k≤9223372036854775807) (hB: ∀k:Nat,k≤l.length→ -9223372036854775808≤hiAt l b k∧hiAt l b k≤10000):
    Ev (fun k=>spec_l24Spans.f k q s l f b) (Ak idw (fun k=>loAt l f k) (fun k=>hiAt l b k) q s (Ah l) l.length):=by
  obtain⟨n,hnl⟩: ∃n,n=l.length:=⟨_,rfl⟩;rw[←hnl]at hn hA hB⊢
  obtain⟨A,hAd⟩: ∃A:Nat→Int,A=fun k:Nat=>loAt l f (k:Int):=⟨_,rfl⟩
  obtain⟨B,hBd⟩: ∃B:Nat→Int,B=fun k:Nat=>hiAt l b (k:Int):=⟨_,rfl⟩
  have hA': ∀k,k≤n→0≤A k∧A k≤9223372036854775807:=fun k hk=>by rw[hAd];exact hA k hk
  have hB': ∀k,k≤n→ -9223372036854775808≤B k∧B k≤10000:=fun k hk=>by rw[hBd];exact hB k hk
  have hlo: ∀i:Nat,spec_l23Low.f q s l f b (i:Int)=some (A i):=fun i=>by rw[hAd];exact Dg q s l f b i (by omega)
  have hhi: ∀i:Nat,spec_l23High.f q s l f b (i:Int)=some (B i):=fun i=>by rw[hBd];exact Cy q s l f b i (by omega)
  rw[show(fun k:Nat=>loAt l f (k:Int))=A from hAd.symm,show(fun k:Nat=>hiAt l b (k:Int))=B from hBd.symm]
  have most: ∀i:Nat,i<n→spec_l23Most.f q s l f b (i:Int)=some (if Ah l i=true then 10000 else s):=fun i hi=>by rw[Cz q s l f b i (by omega) (by omega)];rfl
  clear hA hB hAd hBd;obtain⟨h,hh⟩: ∃h,h=Ah l:=⟨_,rfl⟩;rw[←hh]at most⊢
  have fail: ∀k,k≤n→Ac idw B q s h n k<Ab idw A q s h n k→Ak idw A B q s h n=([],false):=by
    intro k hk hlt;unfold Ak;rw[if_neg (fun hok=>by have:=(Am idw A B q s h n).1 hok k hk;omega)]
  have back:(∀k,k≤n→fwdL idw A q k≤fwdH idw B s h k)→ ∀i,i≤n→(∀k,i≤k→k≤n→Ab idw A q s h n k≤Ac idw B q s h n k)→
      Ev (fun k=>spec_l24Spans.l1 k (tab (n+1) (fun j=>if i≤j then(⟨Ab idw A q s h n j,Ac idw B q s h n j⟩:S32)else⟨fwdL idw A q j,fwdH idw B s h j⟩)) ((i:Int)-1) q s l f b) (Ak idw A B q s h n):=by
    intro hall i
    induction i with
    |zero=>
      intro hi hok;refine Ev.step (fun k=>?_) (Ev.v _);simp only[spec_l24Spans.l1];rw[if_neg (by omega)];unfold Ak;rw[if_pos ((Am idw A B q s h n).2 (fun k hk=>hok k (Nat.zero_le _) hk))]
      congr 2
    |succ i ih=>
      intro hi hok;have r1:=hok (i+1) (by omega) (by omega);have r2:=A3 idw A q s h n (i+1) (by omega);have r3:=A4 idw B q s h n (i+1) (by omega);have r4:=Bh idw A q (i+1);have r5:=Bi idw B s h (i+1);have r6:=hA' (i+1) (by omega);have r7:=hB' (i+1) (by omega);have r8:=Bh idw A q i;have r9:=Bi idw B s h i;have r10:=hA' i (by omega);have r11:=hB' i (by omega);have r12:=hall i (by omega)
      have eL:max (fwdL idw A q i) (Ab idw A q s h n (i+1)-(if h i=true then 10000 else s))=Ab idw A q s h n i:=by
        rw[Bd idw A q s h n i (by omega)];simp only[idw]
        split<;>omega
      have eH:min (fwdH idw B s h i) (Ac idw B q s h n (i+1)-q)=Ac idw B q s h n i:=by
        rw[Be idw B q s h n i (by omega)]
      refine Ev.s ?_;simp only[spec_l24Spans.l1,show(((i+1:Nat):Int))-1=(i:Int) by omega];rw[w6 ((i:Int)+1)];simp only[Ad,most i (by omega),Option.bind_some];rw[show((i:Int)+1)=(((i+1:Nat)):Int) by omega];rw[Ao (n+1) _ i (by omega),Ao (n+1) _ (i+1) (by omega),if_neg (show¬i+1≤i by omega),if_pos (Nat.le_refl (i+1))]
      have b1: -9223372036854775808≤Ab idw A q s h n (i+1)-(if h i=true then 10000 else s):=by split<;>omega
      have b2:Ab idw A q s h n (i+1)-(if h i=true then 10000 else s)≤9223372036854775807:=by split<;>omega
      rw[w64 b1 b2,Bj,eL];simp only[Option.bind_some,Int.toNat_natCast];rw[Av (n+1) _ i _ (by omega),Ao (n+1) _ i (by omega),Ao (n+1) _ (i+1) (by omega),if_pos rfl,if_neg (show¬i+1=i by omega),if_pos (Nat.le_refl (i+1))];simp only[Bw];rw[w6 (Ac idw B q s h n (i+1)-q),eH];simp only[Option.bind_some];rw[Av (n+1) _ i _ (by omega),Ao (n+1) _ i (by omega),if_pos rfl];refine Ev.P (Ev.P (Ev.P (Ev.P (Ev.p (by omega) ?_))))
      by_cases hlt:Ab idw A q s h n i>Ac idw B q s h n i
      · refine Ev.p hlt (Ev.c (Ev.v _) ?_)
        exact(fail i (by omega) hlt).symm
      · refine Ev.n hlt ?_
        rw[w64 (by omega) (by omega)]
        have:=ih (by omega) (fun k hk hkn=>by
          rcases Nat.lt_or_ge i k with h1|h1
          · exact hok k h1 hkn
          · rw[show k=i by omega];omega)
        rw[Aj (n+1) _ (fun j=>if i≤j then(⟨Ab idw A q s h n j,Ac idw B q s h n j⟩:S32)else⟨fwdL idw A q j,fwdH idw B s h j⟩) (fun j hj=>by
          by_cases e:j=i
          · rw[if_pos e,if_pos (by omega),e]
          · rw[if_neg e,if_neg e]
            by_cases e2:i+1≤j
            · rw[if_pos e2,if_pos (by omega)]
            · rw[if_neg e2,if_neg (by omega)])]
        exact this
  have forth: ∀(d i:Nat),i+d=n+1→(∀k,k<i→fwdL idw A q k≤fwdH idw B s h k)→Ev (fun k=>spec_l24Spans.l0 k (tab i (fun j=>(⟨fwdL idw A q j,fwdH idw B s h j⟩:S32))) (l.length:Int) i q s l f b) (Ak idw A B q s h n):=by
    intro d
    induction d with
    |zero=>
      intro i hi hall;refine Ev.s ?_;simp only[spec_l24Spans.l0];refine Ev.n (by omega) ?_
      by_cases hlast:Ab idw A q s h n n≤Ac idw B q s h n n
      · have:=back (fun k hk=>hall k (by omega)) n (Nat.le_refl _) (fun k h1 h2=>by rw[show k=n by omega];exact hlast)
        rw[w64 (by omega) (by omega),←hnl];rw[show i=n+1 by omega]
        rw[Aj (n+1) _ (fun j=>if n≤j then(⟨Ab idw A q s h n j,Ac idw B q s h n j⟩:S32)else⟨fwdL idw A q j,fwdH idw B s h j⟩) (fun j hj=>by
          by_cases e:n≤j
          · rw[if_pos e,show j=n by omega,Bb,Bc]
          · rw[if_neg e])]
        exact this
      · rw[Bb,Bc]at hlast
        exact absurd (hall n (by omega)) hlast
    |succ d ih=>
      intro i hi hall;refine Ev.s ?_;simp only[spec_l24Spans.l0,hlo,hhi,Option.bind_some,Ad];refine Ev.p (by omega) ?_
      have next: ∀(lo hi':Int),lo=fwdL idw A q i→hi'=fwdH idw B s h i→Ev (fun k=>if lo>hi' then(some (([]:List S32),false))else(if i<8796093022208 then(spec_l24Spans.l0 k (tab i (fun j=>(⟨fwdL idw A q j,fwdH idw B s h j⟩:S32))++[(⟨lo,hi'⟩:S32)]) (l.length:Int) (wrap64 ((i:Int)+1)) q s l f b)else none)) (Ak idw A B q s h n):=by
        rintro lo hi' rfl rfl
        by_cases hlt:fwdL idw A q i>fwdH idw B s h i
        · refine Ev.p hlt (Ev.c (Ev.v _) ?_)
          have r1:=A3 idw A q s h n i (by omega);have r2:=A4 idw B q s h n i (by omega);exact(fail i (by omega) (by omega)).symm
        · refine Ev.n hlt (Ev.p (by omega) ?_)
          have:=ih (i+1) (by omega) (fun k hk=>by
            rcases Nat.lt_or_ge k i with h1|h1
            · exact hall k h1
            · rw[show k=i by omega];omega)
          rw[←Ek]at this;rw[w64 (by omega) (by omega)];rw[show(((i+1:Nat)):Int)=(i:Int)+1 by omega]at this;exact this
      cases i with
      |zero=>
        refine Ev.n (by decide) ?_;exact next _ _ rfl rfl
      |succ i=>
        have r1:=hall i (by omega);have r2:=Bh idw A q i;have r3:=Bi idw B s h i;have r4:=hA' i (by omega);have r5:=hB' i (by omega);have r6:=hA' (i+1) (by omega);have r7:=hB' (i+1) (by omega);refine Ev.p (by omega) ?_;rw[show(((i+1:Nat)):Int)-1=(i:Int) by omega,w6 ((i:Int))];simp only[most i (by omega),Option.bind_some];rw[Ao (i+1) _ i (by omega)];rw[w6 (fwdL idw A q i+q),Bj]
        have b1: -9223372036854775808≤fwdH idw B s h i+(if h i=true then 10000 else s):=by split<;>omega
        have b2:fwdH idw B s h i+(if h i=true then 10000 else s)≤9223372036854775807:=by split<;>omega
        rw[w64 b1 b2];simp only[Bw,Option.bind_some];refine Ev.P (Ev.p (by omega) ?_);refine next _ _ ?_ ?_
        · simp only[fwdL,idw]
        · simp only[fwdH,idw]
          split<;>omega
  have:=forth (n+1) 0 (by omega) (fun k hk=>by omega);unfold spec_l24Spans.f;exact this
theorem Ck {ρ:Type} (P:Nat→Bool) (r0 r:ρ): ∀d i,allN P d i=false→A2 (fun j=> !P j) (fun _=>r0) r d i=r0
  |0,_,h=>by simp[allN,A2]at h
  |d+1,i,h=>by
    simp only[allN,A2]at h⊢
    by_cases hp:(!P i)=true
    · rw[if_pos hp]
    · rw[if_neg hp]at h⊢
      exact Ck P r0 r d (i+1) h
theorem Dc (a b:Int):mx a b=max a b:=by
  unfold mx
  split<;>omega
theorem Dd (a b:Int):mn a b=min a b:=by
  unfold mn
  split<;>omega
def begA (l:List S54) (f:Int) (b:List Int) (k:Nat):Int:=if k<b.length then max (loAt l f k) (rd b (k:Int))else loAt l f k
def begB (l:List S54) (f:Int) (b:List Int) (k:Nat):Int:=if k<b.length then min (hiAt l f k) (rd b (k:Int))else hiAt l f k
theorem zrep (n:Nat):List.replicate n z32=tab n (fun _=>z32):=by
  apply List.ext_getElem?;intro j
  rcases Nat.lt_or_ge j n with hj|hj
  · rw[Aw n _ j hj,List.getElem?_replicate,if_pos hj]
  · rw[List.getElem?_eq_none (by rw[List.length_replicate];omega),List.getElem?_eq_none (by rw[Ad];omega)]
theorem D5 (q s:Int) (l:List S54) (f b:Int) (beg:List Int) (hn:l.length≤40):
    Ev (fun k=>impl_FlyPath_spans.f k q s l f b beg) (Ak wrap64 (begA l f beg) (begB l b beg) q s (Ah l) l.length):=by
  obtain⟨n,hnl⟩: ∃n,n=l.length:=⟨_,rfl⟩;obtain⟨A,hA⟩: ∃A,A=begA l f beg:=⟨_,rfl⟩;obtain⟨B,hB⟩: ∃B,B=begB l b beg:=⟨_,rfl⟩;obtain⟨h,hh⟩: ∃h,h=Ah l:=⟨_,rfl⟩;rw[←hA,←hB,←hh,←hnl];rw[←hnl]at hn
  have check:Ev (fun k=>impl_FlyPath_spans.l3 k (tab (n+1) (fun j=>(⟨Ab wrap64 A q s h n j,Ac wrap64 B q s h n j⟩:S32))) (tab (n+1) (fun j=>(⟨Ab wrap64 A q s h n j,Ac wrap64 B q s h n j⟩:S32))) ((tab (n+1) (fun j=>(⟨Ab wrap64 A q s h n j,Ac wrap64 B q s h n j⟩:S32))).length:Int) 0) (Ak wrap64 A B q s h n):=by
    have round: ∀i:Nat,i<n+1→ ∀k,impl_FlyPath_spans.l3 (k+1) (tab (n+1) (fun j=>(⟨Ab wrap64 A q s h n j,Ac wrap64 B q s h n j⟩:S32))) (tab (n+1) (fun j=>(⟨Ab wrap64 A q s h n j,Ac wrap64 B q s h n j⟩:S32))) ((n+1:Nat):Int) (i:Int)=if Ab wrap64 A q s h n i>Ac wrap64 B q s h n i then(some (([]:List S32),false))else impl_FlyPath_spans.l3 k (tab (n+1) (fun j=>(⟨Ab wrap64 A q s h n j,Ac wrap64 B q s h n j⟩:S32))) (tab (n+1) (fun j=>(⟨Ab wrap64 A q s h n j,Ac wrap64 B q s h n j⟩:S32))) ((n+1:Nat):Int) ((i:Int)+1):=by
      intro i hi k;simp only[impl_FlyPath_spans.l3,Ad];rw[if_pos (show(i:Int)<((n+1:Nat):Int) by omega),if_pos (show(0:Int)≤i by omega),Ao (n+1) _ i hi,w6 ((i:Int)+1),if_pos (show(i:Int)<((n+1:Nat):Int) by omega)]
    rw[Ad]
    have:=Bo (F:=fun k i=>impl_FlyPath_spans.l3 k (tab (n+1) (fun j=>(⟨Ab wrap64 A q s h n j,Ac wrap64 B q s h n j⟩:S32))) (tab (n+1) (fun j=>(⟨Ab wrap64 A q s h n j,Ac wrap64 B q s h n j⟩:S32))) ((n+1:Nat):Int) i) (n+1) (fun j=> !decide (Ab wrap64 A q s h n j≤Ac wrap64 B q s h n j)) (fun _=>(([]:List S32),false)) (tab (n+1) (fun j=>(⟨Ab wrap64 A q s h n j,Ac wrap64 B q s h n j⟩:S32)),true) (fun i hi hp=>Ev.step (round i hi) (Ev.p (by have:=hp;simp at this;omega) (Ev.v _)))
      (fun i hi hp r' hr=>Ev.step (round i hi) (Ev.n (by have:=hp;simp at this;omega) hr)) (Ev.step (fun k=>by
        simp only[impl_FlyPath_spans.l3]
        rw[if_neg (by omega)]) (Ev.v _)) (n+1) 0 (by omega)
    refine Ev.c this ?_;unfold Ak Al
    by_cases hok:allN (fun k=>decide (Ab wrap64 A q s h n k≤Ac wrap64 B q s h n k)) (n+1) 0=true
    · rw[if_pos hok]
      refine Cd (n+1) 0 (fun j h1 h2=>?_);have:=(Bg (n+1) 0).1 hok j h1 h2;simp only[this,Bool.not_true]
    · rw[if_neg hok]
      have ne:=Bool.eq_false_iff.2 hok;generalize hP:(fun k=>decide (Ab wrap64 A q s h n k≤Ac wrap64 B q s h n k))=P at ne
      have e:(fun j=> !decide (Ab wrap64 A q s h n j≤Ac wrap64 B q s h n j))=fun j=> !P j:=by rw[←hP]
      rw[e];exact Ck P _ _ (n+1) 0 ne
  have back: ∀i,i≤n→Ev (fun k=>impl_FlyPath_spans.l2 k (tab (n+1) (fun j=>if i≤j then(⟨Ab wrap64 A q s h n j,Ac wrap64 B q s h n j⟩:S32)else⟨fwdL wrap64 A q j,fwdH wrap64 B s h j⟩)) ((i:Int)-1) q s l f b) (Ak wrap64 A B q s h n):=by
    intro i
    induction i with
    |zero=>
      intro hi;refine Ev.s ?_;simp only[impl_FlyPath_spans.l2];refine Ev.n (by omega) ?_;have:=check;rw[Aj (n+1) (fun j=>(⟨Ab wrap64 A q s h n j,Ac wrap64 B q s h n j⟩:S32)) (fun j=>if 0≤j then(⟨Ab wrap64 A q s h n j,Ac wrap64 B q s h n j⟩:S32)else⟨fwdL wrap64 A q j,fwdH wrap64 B s h j⟩) (fun j hj=>by rw[if_pos (Nat.zero_le j)])]at this;exact this
    |succ i ih=>
      intro hi;refine Ev.s ?_;simp only[impl_FlyPath_spans.l2,show(((i+1:Nat):Int))-1=(i:Int) by omega,Option.bind_some];rw[w6 ((i:Int)+1)];simp only[Ad];rw[show((i:Int)+1)=(((i+1:Nat)):Int) by omega];rw[Ao (n+1) _ i (by omega),Ao (n+1) _ (i+1) (by omega),if_neg (show¬i+1≤i by omega),if_pos (Nat.le_refl (i+1))];refine Ev.P (Ev.P (Ev.P (Ev.P (Ev.P (Ev.p (by omega) ?_)))));simp only[Int.toNat_natCast,Dd];rw[←Be wrap64 B q s h n i (by omega)];rw[Av (n+1) _ i _ (by omega),Ao (n+1) _ i (by omega),Ao (n+1) _ (i+1) (by omega),if_pos rfl,if_neg (show¬i+1=i by omega),if_pos (Nat.le_refl (i+1))];rw[w6 ((i:Int)-1)];have next:=ih (by omega);have eL:=Bd wrap64 A q s h n i (by omega)
      have hhi:((rd_T54 l (i:Int)).f6=true)=(h i=true):=by rw[hh];rfl
      simp only[hhi]
      by_cases hi6:h i=true
      · refine Ev.p hi6 ?_
        rw[if_pos hi6]at eL
        rw[Aj (n+1) _ (fun j=>if i≤j then(⟨Ab wrap64 A q s h n j,Ac wrap64 B q s h n j⟩:S32)else⟨fwdL wrap64 A q j,fwdH wrap64 B s h j⟩) (fun j hj=>by
          by_cases e:j=i
          · rw[if_pos e,if_pos (by omega),e,eL]
          · rw[if_neg e]
            by_cases e2:i+1≤j
            · rw[if_pos e2,if_pos (by omega)]
            · rw[if_neg e2,if_neg (by omega)])]
        exact next
      · refine Ev.n hi6 ?_
        rw[if_neg hi6]at eL;rw[Dc,←eL,Av (n+1) _ i _ (by omega)]
        rw[Aj (n+1) _ (fun j=>if i≤j then(⟨Ab wrap64 A q s h n j,Ac wrap64 B q s h n j⟩:S32)else⟨fwdL wrap64 A q j,fwdH wrap64 B s h j⟩) (fun j hj=>by
          by_cases e:j=i
          · rw[if_pos e,if_pos (by omega),e]
          · rw[if_neg e,if_neg e]
            by_cases e2:i+1≤j
            · rw[if_pos e2,if_pos (by omega)]
            · rw[if_neg e2,if_neg (by omega)])]
        exact next
  have forth: ∀(d i:Nat),i+d=n→Ev (fun k=>impl_FlyPath_spans.l1 k (n:Int) (tab (n+1) (fun j=>if j≤i then(⟨fwdL wrap64 A q j,fwdH wrap64 B s h j⟩:S32)else⟨A j,B j⟩)) ((i:Int)+1) q s l f b) (Ak wrap64 A B q s h n):=by
    intro d
    induction d with
    |zero=>
      intro i hi;refine Ev.s ?_;simp only[impl_FlyPath_spans.l1];refine Ev.n (by omega) ?_;rw[w6 ((n:Int)-1)];have:=back n (Nat.le_refl _)
      rw[Aj (n+1) _ (fun j=>if n≤j then(⟨Ab wrap64 A q s h n j,Ac wrap64 B q s h n j⟩:S32)else⟨fwdL wrap64 A q j,fwdH wrap64 B s h j⟩) (fun j hj=>by
        rw[if_pos (show j≤i by omega)]
        by_cases e:n≤j
        · rw[if_pos e,show j=n by omega,Bb,Bc]
        · rw[if_neg e])]
      exact this
    |succ d ih=>
      intro i hi;refine Ev.s ?_;simp only[impl_FlyPath_spans.l1,Option.bind_some,Ad];rw[show(i:Int)+1-1=(i:Int) by omega,w6 ((i:Int)),show((i:Int)+1)=(((i+1:Nat)):Int) by omega];rw[Ao (n+1) _ i (by omega),Ao (n+1) _ (i+1) (by omega),if_neg (show¬i+1≤i by omega),if_pos (Nat.le_refl i)];refine Ev.P (Ev.P (Ev.P (Ev.P (Ev.P (Ev.p (by omega) ?_)))));simp only[Int.toNat_natCast,Dc];rw[Av (n+1) _ (i+1) _ (by omega),Ao (n+1) _ i (by omega),Ao (n+1) _ (i+1) (by omega),if_pos rfl,if_neg (show¬i=i+1 by omega),if_pos (Nat.le_refl i)];rw[w64 (show-9223372036854775808≤(((i+1:Nat)):Int)+1 by omega) (by omega)];have next:=ih (i+1) (by omega)
      have hhi:((rd_T54 l (i:Int)).f6=true)=(h i=true):=by rw[hh];rfl
      simp only[hhi]
      by_cases hi6:h i=true
      · refine Ev.p hi6 ?_
        rw[Aj (n+1) _ (fun j=>if j≤i+1 then(⟨fwdL wrap64 A q j,fwdH wrap64 B s h j⟩:S32)else⟨A j,B j⟩) (fun j hj=>by
          by_cases e:j=i+1
          · rw[if_pos e,if_pos (by omega),e]
            simp only[fwdL,fwdH,if_pos hi6]
          · rw[if_neg e]
            by_cases e2:j≤i
            · rw[if_pos e2,if_pos (by omega)]
            · rw[if_neg e2,if_neg (by omega)])]
        exact next
      · refine Ev.n hi6 ?_
        rw[Dd,Av (n+1) _ (i+1) _ (by omega)]
        rw[Aj (n+1) _ (fun j=>if j≤i+1 then(⟨fwdL wrap64 A q j,fwdH wrap64 B s h j⟩:S32)else⟨A j,B j⟩) (fun j hj=>by
          by_cases e:j=i+1
          · rw[if_pos e,if_pos (by omega),e]
            simp only[fwdL,fwdH,if_neg hi6]
          · rw[if_neg e,if_neg e]
            by_cases e2:j≤i
            · rw[if_pos e2,if_pos (by omega)]
            · rw[if_neg e2,if_neg (by omega)])]
        exact next
  have wins: ∀(d i:Nat),i+d=n+1→Ev (fun k=>impl_FlyPath_spans.l0 k beg (n:Int) (tab (n+1) (fun j=>if j<i then(⟨A j,B j⟩:S32)else z32)) ((n+1:Nat):Int) (i:Int) q s l f b) (Ak wrap64 A B q s h n):=by
    intro d
    induction d with
    |zero=>
      intro i hi;refine Ev.s ?_;simp only[impl_FlyPath_spans.l0];refine Ev.n (by omega) ?_;have:=forth n 0 (by omega)
      rw[Aj (n+1) _ (fun j=>if j≤0 then(⟨fwdL wrap64 A q j,fwdH wrap64 B s h j⟩:S32)else⟨A j,B j⟩) (fun j hj=>by
        rw[if_pos (show j<i by omega)]
        by_cases e:j≤0
        · rw[if_pos e,show j=0 by omega];rfl
        · rw[if_neg e])]
      exact this
    |succ d ih=>
      intro i hi;refine Ev.s ?_;simp only[impl_FlyPath_spans.l0,Option.bind_some,Ad];refine Ev.p (by omega) ?_;rw[Ci q s l f b (i:Int) (by omega) (by omega)];simp only[Option.bind_some,Int.toNat_natCast];rw[Ao (n+1) _ i (by omega),if_neg (show¬i<i by omega),Av (n+1) _ i _ (by omega)];rw[Ao (n+1) _ i (by omega),if_pos rfl,Av (n+1) _ i _ (by omega)];rw[Ao (n+1) _ i (by omega),if_pos rfl,Av (n+1) _ i _ (by omega)];rw[Ao (n+1) _ i (by omega),if_pos rfl,Av (n+1) _ i _ (by omega)];rw[w6 ((i:Int)+1)];refine Ev.P (Ev.p (by omega) ?_);have next:=ih (i+1) (by omega);rw[show(((i+1:Nat)):Int)=(i:Int)+1 by omega]at next
      by_cases hb:i<beg.length
      · refine Ev.p (by omega) ?_
        rw[Dc,Dd]
        rw[Aj (n+1) _ (fun j=>if j<i+1 then(⟨A j,B j⟩:S32)else z32) (fun j hj=>by
          by_cases e:j=i
          · simp only[if_pos e]
            rw[if_pos (by omega),e,hA,hB];unfold begA begB;rw[if_pos hb,if_pos hb]
          · simp only[if_neg e]
            by_cases e2:j<i
            · rw[if_pos e2,if_pos (by omega)]
            · rw[if_neg e2,if_neg (by omega)])]
        exact next
      · refine Ev.n (by omega) ?_
        rw[Aj (n+1) _ (fun j=>if j<i+1 then(⟨A j,B j⟩:S32)else z32) (fun j hj=>by
          by_cases e:j=i
          · simp only[if_pos e]
            rw[if_pos (by omega),e,hA,hB];unfold begA begB;rw[if_neg hb,if_neg hb]
          · simp only[if_neg e]
            by_cases e2:j<i
            · rw[if_pos e2,if_pos (by omega)]
            · rw[if_neg e2,if_neg (by omega)])]
        exact next
  unfold impl_FlyPath_spans.f;rw[←hnl,w6 ((n:Int)+1),show((n:Int)+1).toNat=n+1 by omega,zrep];refine Ev.P (Ev.p (by omega) ?_);simp only[Option.bind_some,Ad];have:=wins (n+1) 0 (by omega);rw[Aj (n+1) (fun _=>z32) (fun j=>if j<0 then(⟨A j,B j⟩:S32)else z32) (fun j hj=>by rw[if_neg (by omega)])];exact this
def Bk (q s:Int) (l:List S54) (f b:Int):List S32×Bool:=if Af q s l f b=true then Ak idw (fun k=>loAt l f k) (fun k=>hiAt l b k) q s (Ah l) l.length else([],false)
theorem C8 (w:Int→Int) (A B:Nat→Int) (q s:Int) (h:Nat→Bool) (n:Nat):(Ak w A B q s h n).1.length≤n+1:=by
  unfold Ak
  split
  · rw[Ad];exact Nat.le_refl _
  · exact Nat.zero_le _
theorem Cr (q s:Int) (l:List S54) (f b:Int):(Bk q s l f b).1.length≤41:=by
  unfold Bk
  by_cases h:Af q s l f b=true
  · rw[if_pos h]
    have:=C8 idw (fun k=>loAt l f k) (fun k=>hiAt l b k) q s (Ah l) l.length;have:=(Ag h).2.1.2
    omega
  · rw[if_neg h];exact Nat.zero_le _
theorem C9 {q s:Int} {l:List S54} {f b:Int} (h:Af q s l f b=true):Ev (fun k=>spec_l24Spans.f k q s l f b) (Ak idw (fun k=>loAt l f k) (fun k=>hiAt l b k) q s (Ah l) l.length):=by
  have hf:=Ag h;exact Cj q s l f b hf.1 hf.2.1.2 (fun k _=>by have:=Au h k;omega) (fun k _=>by have:=Au h k;omega)
def Cb (x:S54) (t:Int):S54:=⟨x.f0,x.f1,x.f2,x.f3,max x.f4 t,min x.f5 t,x.f6⟩
def Aq (l:List S54) (beg:List Int) (i:Nat):List S54:=tab l.length (fun j=>if j<i then Cb (rd_T54 l (j:Int)) (rd beg (j:Int))else rd_T54 l (j:Int))
theorem Dw (l:List S54) (beg:List Int):Aq l beg 0=l:=by
  unfold Aq;apply List.ext_getElem?;intro j
  rcases Nat.lt_or_ge j l.length with hj|hj
  · rw[Aw _ _ j hj,if_neg (by omega),List.getElem?_eq_getElem hj]
    congr 1
    show l.getD ((j:Int)).toNat _=l[j]
    rw[Int.toNat_natCast,List.getD_eq_getElem?_getD,List.getElem?_eq_getElem hj];rfl
  · rw[List.getElem?_eq_none (by rw[Ad];omega),List.getElem?_eq_none (by omega)]
theorem Dy (n:Nat) (g:Nat→S54) (i:Nat) (hi:i<n):rd_T54 (tab n g) (i:Int)=g i:=by
  show(tab n g).getD ((i:Int)).toNat _=g i
  rw[Int.toNat_natCast,List.getD_eq_getElem?_getD,Aw n g i hi];rfl
theorem Ar (l:List S54) (beg:List Int) (i:Nat):(Aq l beg i).length=l.length:=Ad _ _
theorem Bx (l:List S54) (beg:List Int) (i j:Nat) (hj:j<l.length):rd_T54 (Aq l beg i) (j:Int)=if j<i then Cb (rd_T54 l (j:Int)) (rd beg (j:Int))else rd_T54 l (j:Int):=Dy _ _ j hj
theorem D6 (l:List S54) (beg:List Int) (i:Nat) (hi:i<l.length):(Aq l beg i).set i (Cb (rd_T54 l (i:Int)) (rd beg (i:Int)))=Aq l beg (i+1):=by
  unfold Aq;rw[Av _ _ i _ hi];refine Aj _ _ _ (fun j hj=>?_)
  by_cases e:j=i
  · rw[if_pos e,if_pos (by omega),e]
  · rw[if_neg e]
    by_cases e2:j<i
    · rw[if_pos e2,if_pos (by omega)]
    · rw[if_neg e2,if_neg (by omega)]
def B1 (l:List S54) (f:Int) (beg:List Int):Int:=if l.length<beg.length then max f (rd beg (l.length:Int))else f
def B2 (l:List S54) (b:Int) (beg:List Int):Int:=if l.length<beg.length then min b (rd beg (l.length:Int))else b
theorem Ed (q s:Int) (l:List S54) (f b:Int) (beg:List Int) (hl:l.length≤40) (hb:beg.length≤l.length+1):Ev (fun k=>spec_l26Held.f k q s l f b beg) (q,s,Aq l beg beg.length,B1 l f beg,B2 l b beg):=by
  have loop: ∀d i:Nat,i+d=beg.length→i≤l.length→Ev (fun k=>spec_l26Held.l0 k beg (i:Int) q s (Aq l beg i) f b) (q,s,Aq l beg beg.length,B1 l f beg,B2 l b beg):=by
    intro d
    induction d with
    |zero=>
      intro i hi hil;refine Ev.s ?_;simp only[spec_l26Held.l0];refine Ev.N (Ev.c (Ev.v _) ?_);unfold B1 B2;rw[if_neg (by omega),if_neg (by omega),show i=beg.length by omega]
    |succ d ih=>
      intro i hi hil;refine Ev.s ?_;simp only[spec_l26Held.l0,Ar];refine Ev.p (by omega) ?_;rw[w6 ((i:Int)+1)]
      by_cases hil':i<l.length
      · refine Ev.P (Ev.p (by omega) ?_)
        simp only[Bj,Bw,Option.bind_some,Int.toNat_natCast]
        have r1: ∀v:S54,rd_T54 ((Aq l beg i).set i v) (i:Int)=v:=fun v=>by
          show((Aq l beg i).set i v).getD ((i:Int)).toNat _=v
          rw[Int.toNat_natCast,List.getD_eq_getElem?_getD,List.getElem?_set_self (by rw[Ar];omega)];rfl
        simp only[r1,List.set_set,Bx l beg i i hil',if_neg (show¬i<i by omega)];have:=ih (i+1) (by omega) (by omega);rw[←D6 l beg i hil',show(((i+1:Nat)):Int)=(i:Int)+1 by omega]at this;exact this
      · refine Ev.N (Ev.p (by omega) ?_)
        simp only[Bj,Bw,Option.bind_some];refine Ev.s ?_;simp only[spec_l26Held.l0];refine Ev.N (Ev.c (Ev.v _) ?_)
        have e1:i=l.length:=by omega
        have e2:beg.length=l.length+1:=by omega
        unfold B1 B2;rw[if_pos (by omega),if_pos (by omega),e1,e2]
        have e3:Aq l beg l.length=Aq l beg (l.length+1):=by
          unfold Aq;refine Aj _ _ _ (fun j hj=>?_);rw[if_pos hj,if_pos (by omega)]
        rw[e3]
  unfold spec_l26Held.f spec_l22Copy.f;have:=loop beg.length 0 (by omega) (by omega);rw[Dw]at this;simp only[Option.bind_some,List.nil_append];rw[if_pos (by simp only[List.length_nil];omega)];exact this
theorem Dz (l:List S54) (f:Int) (beg:List Int) (k:Nat) (hk:k≤l.length):loAt (Aq l beg beg.length) (B1 l f beg) (k:Int)=begA l f beg k:=by
  unfold loAt begA B1;rw[Ar];unfold loAt
  by_cases h:k<l.length
  · rw[if_pos (by omega),Bx l beg _ k h,if_pos (show(k:Int)<(l.length:Int) by omega)]
    by_cases hb:k<beg.length
    · rw[if_pos hb,if_pos hb];rfl
    · rw[if_neg hb,if_neg hb]
  · have e:k=l.length:=by omega
    rw[if_neg (by omega),if_neg (show¬(k:Int)<(l.length:Int) by omega),e]
theorem D0 (l:List S54) (b:Int) (beg:List Int) (k:Nat) (hk:k≤l.length):hiAt (Aq l beg beg.length) (B2 l b beg) (k:Int)=begB l b beg k:=by
  unfold hiAt begB B2;rw[Ar];unfold hiAt
  by_cases h:k<l.length
  · rw[if_pos (by omega),Bx l beg _ k h,if_pos (show(k:Int)<(l.length:Int) by omega)]
    by_cases hb:k<beg.length
    · rw[if_pos hb,if_pos hb];rfl
    · rw[if_neg hb,if_neg hb]
  · have e:k=l.length:=by omega
    rw[if_neg (by omega),if_neg (show¬(k:Int)<(l.length:Int) by omega),e]
theorem Ee (l:List S54) (beg:List Int) (k:Nat) (hk:k<l.length):Ah (Aq l beg beg.length) k=Ah l k:=by
  unfold Ah;rw[Bx l beg _ k hk]
  split<;>rfl
theorem Dh (w:Int→Int) (A B A' B':Nat→Int) (q s:Int) (h h':Nat→Bool) (n:Nat) (hA: ∀k,k≤n→A k=A' k) (hB: ∀k,k≤n→B k=B' k) (hh: ∀k,k<n→h k=h' k):Ak w A B q s h n=Ak w A' B' q s h' n:=by
  have fL: ∀k,k≤n→fwdL w A q k=fwdL w A' q k:=by
    intro k
    induction k with
    |zero=>intro hk;simp only[fwdL];exact hA 0 hk
    |succ k ih=>intro hk;simp only[fwdL];rw[hA (k+1) hk,ih (by omega)]
  have fH: ∀k,k≤n→fwdH w B s h k=fwdH w B' s h' k:=by
    intro k
    induction k with
    |zero=>intro hk;simp only[fwdH];exact hB 0 hk
    |succ k ih=>intro hk;simp only[fwdH];rw[hB (k+1) hk,ih (by omega),hh k (by omega)]
  have bL: ∀d,d≤n→bwdL w A q s h n d=bwdL w A' q s h' n d:=by
    intro d
    induction d with
    |zero=>intro hd;simp only[bwdL];exact fL n (Nat.le_refl _)
    |succ d ih=>intro hd;simp only[bwdL];rw[fL _ (by omega),ih (by omega),hh _ (by omega)]
  have bH: ∀d,d≤n→bwdH w B q s h n d=bwdH w B' q s h' n d:=by
    intro d
    induction d with
    |zero=>intro hd;simp only[bwdH];exact fH n (Nat.le_refl _)
    |succ d ih=>intro hd;simp only[bwdH];rw[fH _ (by omega),ih (by omega)]
  have eL: ∀k,k≤n→Ab w A q s h n k=Ab w A' q s h' n k:=fun k hk=>bL _ (by omega)
  have eH: ∀k,k≤n→Ac w B q s h n k=Ac w B' q s h' n k:=fun k hk=>bH _ (by omega)
  have eo:Al w A B q s h n=Al w A' B' q s h' n:=by
    apply Bool.eq_iff_iff.2;rw[Am,Am];exact⟨fun hh k hk=>by rw[←eL k hk,←eH k hk];exact hh k hk,fun hh k hk=>by rw[eL k hk,eH k hk];exact hh k hk⟩
  unfold Ak;rw[eo,Aj (n+1) _ (fun k=>(⟨Ab w A' q s h' n k,Ac w B' q s h' n k⟩:S32)) (fun j hj=>by rw[eL j (by omega),eH j (by omega)])]
def Aa (q s:Int) (l:List S54) (f b:Int) (beg:List Int):Int×Int×Bool:=
  if Af q s l f b=true∧beg.length≤l.length then
    (if Al idw (begA l f beg) (begB l b beg) q s (Ah l) l.length=true then(Ab idw (begA l f beg) q s (Ah l) l.length beg.length,Ac idw (begB l b beg) q s (Ah l) l.length beg.length,true)else(0,0,false))
  else(0,0,false)
theorem Bp {q s:Int} {l:List S54} {f b:Int} (h:Af q s l f b=true) (beg:List Int) (hb: ∀x∈beg,I64 x) (k:Nat):(0≤begA l f beg k∧begA l f beg k≤9223372036854775807)∧(-9223372036854775808≤begB l b beg k∧begB l b beg k≤10000):=by
  have r:=Au h k;unfold begA begB
  by_cases hk:k<beg.length
  · have m:I64 (rd beg (k:Int)):=by
      have e:rd beg (k:Int)=beg[k]:=by
        show beg.getD ((k:Int)).toNat _=beg[k]
        rw[Int.toNat_natCast,List.getD_eq_getElem?_getD,List.getElem?_eq_getElem hk];rfl
      rw[e];exact hb _ (List.getElem_mem hk)
    obtain⟨m1,m2⟩:=m;rw[if_pos hk,if_pos hk]
    omega
  · rw[if_neg hk,if_neg hk]
    omega
theorem C0 (w:Int→Int) (A B:Nat→Int) (q s:Int) (h:Nat→Bool) (n m:Nat) (hm:m≤n) (hn:n≤40) {g:Nat→Option (List S32×Bool)} {F:Nat→Option (Int×Int×Bool)}
    (hg:Ev g (Ak w A B q s h n))
    (hF: ∀k,F k=(g k).bind fun bt=>(if bt.2=true then(if 0≤(m:Int)then(if(m:Int)<(bt.1.length:Int)then(some ((rd_T32 bt.1 (m:Int)).f0,(rd_T32 bt.1 (m:Int)).f1,true))else none)else none)else(some (0,0,false)))):
    Ev F (if Al w A B q s h n=true then(Ab w A q s h n m,Ac w B q s h n m,true)else(0,0,false)):=by
  refine Ev.congr hF (Ev.bind hg ?_);unfold Ak
  by_cases hok:Al w A B q s h n=true
  · rw[if_pos hok,if_pos hok]
    refine Ev.p rfl (Ev.P (Ev.p (by simp only[Ad];omega) (Ev.c (Ev.v _) ?_)));simp only[Ao (n+1) _ m (by omega)]
  · rw[if_neg hok,if_neg hok]
    exact Ev.n (by decide) (Ev.v _)
theorem B5 (q s:Int) (l:List S54) (f b:Int) (beg:List Int) (hb: ∀x∈beg,I64 x):Ev (fun k=>spec_FlyNext.f k q s l f b beg) (Aa q s l f b beg):=by
  unfold spec_FlyNext.f Aa;refine Ev.bind (Ay q s l f b) ?_
  by_cases h:Af q s l f b=true
  · refine Ev.p h ?_
    have hf:=Ag h;refine Ev.s ?_;simp only[spec_FlyNext.j0]
    by_cases hc:beg.length≤l.length
    · rw[if_pos ⟨h,hc⟩]
      refine Ev.n (by simp;omega) (Ev.bind (Ed q s l f b beg hf.2.1.2 (by omega)) ?_)
      have hs:=Cj q s (Aq l beg beg.length) (B1 l f beg) (B2 l b beg) hf.1 (by rw[Ar];exact hf.2.1.2) (fun k hk=>by
        rw[Ar]at hk;rw[Dz l f beg k hk]
        exact(Bp h beg hb k).1) (fun k hk=>by
        rw[Ar]at hk;rw[D0 l b beg k hk]
        exact(Bp h beg hb k).2)
      rw[Ar,Dh idw _ _ (begA l f beg) (begB l b beg) q s _ (Ah l) l.length (fun k hk=>Dz l f beg k hk) (fun k hk=>D0 l b beg k hk) (fun k hk=>Ee l beg k hk)]at hs;exact C0 idw (begA l f beg) (begB l b beg) q s (Ah l) l.length beg.length hc hf.2.1.2 hs (fun k=>rfl)
    · rw[if_neg (fun hh=>hc hh.2)]
      exact Ev.p (by simp;omega) (Ev.v _)
  · rw[if_neg (fun hh=>h hh.1)]
    refine Ev.n h (Ev.s ?_);simp only[spec_FlyNext.j0];exact Ev.p trivial (Ev.v _)
theorem Bq (q s:Int) (l:List S54) (f b:Int) (beg:List Int) (hb: ∀x∈beg,I64 x):Ev (fun k=>impl_FlyNext.f k q s l f b beg) (Aa q s l f b beg):=by
  unfold impl_FlyNext.f Aa;refine Ev.bind (B9 q s l f b) ?_
  by_cases h:Af q s l f b=true
  · refine Ev.p h ?_
    have hf:=Ag h;refine Ev.s ?_;simp only[impl_FlyNext.j0]
    by_cases hc:beg.length≤l.length
    · rw[if_pos ⟨h,hc⟩]
      refine Ev.n (by simp;omega) ?_;have hs:=D5 q s l f b beg hf.2.1.2;rw[Dv _ _ q s _ _ hf.2.1.2 hf.1 (fun k _=>(Bp h beg hb k).1.1) (fun k _=>(Bp h beg hb k).2.2)]at hs;exact C0 idw (begA l f beg) (begB l b beg) q s (Ah l) l.length beg.length hc hf.2.1.2 hs (fun k=>rfl)
    · rw[if_neg (fun hh=>hc hh.2)]
      exact Ev.p (by simp;omega) (Ev.v _)
  · rw[if_neg (fun hh=>h hh.1)]
    refine Ev.n h (Ev.s ?_);simp only[impl_FlyNext.j0];exact Ev.p trivial (Ev.v _)
theorem El (q s:Int) (l:List S54) (f b:Int):Ev (fun k=>spec_FlySpans.f k q s l f b) (Bk q s l f b):=by
  unfold spec_FlySpans.f Bk;refine Ev.bind (Ay q s l f b) ?_
  by_cases h:Af q s l f b=true
  · rw[if_pos h]
    exact Ev.p h (Ev.bind (C9 h) (Ev.v _))
  · rw[if_neg h]
    exact Ev.n h (Ev.v _)
def Bl (q s:Int) (l:List S54) (f b:Int) (t:List Int) (i:Nat):Bool:=decide (loAt l f i≤rd t (i:Int)∧rd t (i:Int)≤hiAt l b i)&&(decide (i=0)||decide (q≤rd t (i:Int)-rd t ((i:Int)-1)∧((rd_T54 l ((i:Int)-1)).f6=true∨rd t (i:Int)-rd t ((i:Int)-1)≤s)))
def Ap (q s:Int) (l:List S54) (f b:Int) (t:List Int):Bool:=Af q s l f b&&(decide (t.length=l.length+1)&&allN (Bl q s l f b t) t.length 0)
def A7 (q s:Int) (l:List S54) (f b:Int) (t:List Int) (i:Nat):Bool:=decide (loAt l f i≤rd t (i:Int)∧rd t (i:Int)≤hiAt l b i)&&(decide (i=0)||decide (q≤wrap64 (rd t (i:Int)-rd t ((i:Int)-1))∧wrap64 (rd t (i:Int)-rd t ((i:Int)-1))≤Ch s l ((i:Int)-1)))
theorem Da {q s:Int} {l:List S54} {f b:Int} (hok:Af q s l f b=true) (t:List Int):allN (A7 q s l f b t) t.length 0=allN (Bl q s l f b t) t.length 0:=by
  refine Bn _ _ (fun j _ _ hh=>?_);unfold A7 Bl
  by_cases hw:loAt l f j≤rd t (j:Int)∧rd t (j:Int)≤hiAt l b j
  · rw[decide_eq_true hw]
    by_cases h0:j=0
    · simp[h0]
    · have hp:=hh (j-1) (by omega) (by omega)
      unfold A7 at hp;rw[Bool.and_eq_true]at hp;have hp:=of_decide_eq_true hp.1;rw[show(((j-1:Nat):Int))=(j:Int)-1 by omega]at hp;have r1:=Au hok j;have r0:=Au hok (j-1);rw[show(((j-1:Nat):Int))=(j:Int)-1 by omega]at r0;rw[w64 (by omega) (by omega)]
      congr 2
      apply decide_eq_decide.2;unfold Ch
      by_cases hh6:(rd_T54 l ((j:Int)-1)).f6=true
      · rw[if_pos hh6];simp only[hh6,true_or,and_true];omega
      · rw[if_neg hh6];simp[hh6]
  · rw[decide_eq_false hw]
    simp
theorem Dx (q s:Int) (l:List S54) (f b:Int) (t:List Int) (ht:t.length≤9223372036854775807):Ev (fun k=>spec_FlyLawful.f k q s l f b t) (Ap q s l f b t):=by
  unfold spec_FlyLawful.f Ap;have bad:Ev (fun k=>spec_FlyLawful.j0 k t true q s l f b) false:=Ev.step (fun k=>(by simp only[spec_FlyLawful.j0];exact if_pos trivial)) (Ev.v _);refine Ev.bind (Ay q s l f b) ?_
  by_cases h1:Af q s l f b=true
  · rw[h1]
    refine Ev.p rfl ?_;have hf:=Ag h1;rw[w64 (by omega) (by omega)];refine Ev.s ?_;simp only[spec_FlyLawful.j0]
    by_cases h2:t.length=l.length+1
    · rw[decide_eq_true h2]
      refine Ev.n (by rw[bne_iff_ne];omega) ?_;rw[←Da h1]
      have round: ∀(i:Nat),i<t.length→ ∀k,spec_FlyLawful.l0 (k+1) t i q s l f b=if A7 q s l f b t i=true then spec_FlyLawful.l0 k t ((i:Int)+1) q s l f b else some false:=by
        intro i hi k;simp only[spec_FlyLawful.l0,if_pos (show(i:Int)<(t.length:Int) by omega),if_pos (show(0:Int)≤i by omega),Dg q s l f b i (by omega),Cy q s l f b i (by omega),Ax,Option.bind_some];rw[w6 ((i:Int)+1),w6 ((i:Int)-1)];unfold A7
        by_cases hw:loAt l f i≤rd t (i:Int)∧rd t (i:Int)≤hiAt l b i
        · rw[decide_eq_true hw,if_pos rfl]
          by_cases h0:i=0
          · rw[if_neg (by omega)]
            simp[h0]
          · rw[if_pos (show(i:Int)>0 by omega),if_pos (by omega),if_pos (by omega),Cz q s l f b ((i:Int)-1) (by omega) (by omega)]
            simp only[Option.bind_some,Bool.true_and];rw[decide_eq_false h0,Bool.false_or]
        · rw[decide_eq_false hw]
          rfl
      refine Bo (F:=fun k i=>spec_FlyLawful.l0 k t i q s l f b) t.length (fun j=> !A7 q s l f b t j) (fun _=>false) true ?_ ?_ ?_ t.length 0 (by omega)
      · intro i hi hp
        exact Ev.step (round i hi) (Ev.n (by simpa using hp) (Ev.v _))
      · intro i hi hp r' hr
        exact Ev.step (round i hi) (Ev.p (by simpa using hp) hr)
      · refine Ev.step (fun k=>?_) (Ev.v _)
        simp only[spec_FlyLawful.l0];rw[if_neg (by omega)]
    · rw[decide_eq_false h2]
      exact Ev.p (by rw[bne_iff_ne];omega) (Ev.v _)
  · rw[Bool.eq_false_iff.2 h1]
    exact Ev.n (by decide) bad
def A8 (q s:Int) (l:List S54) (f b:Int) (t:List Int) (i:Nat):Bool:=decide (loAt l f i≤rd t (i:Int)∧rd t (i:Int)≤hiAt l b i)&&(decide (i=0)||decide (wrap64 (rd t ((i:Int)-1)+q)≤rd t (i:Int)∧((rd_T54 l ((i:Int)-1)).f6=true∨rd t (i:Int)≤wrap64 (rd t ((i:Int)-1)+s))))
theorem Db {q s:Int} {l:List S54} {f b:Int} (hok:Af q s l f b=true) (t:List Int):allN (A8 q s l f b t) t.length 0=allN (Bl q s l f b t) t.length 0:=by
  refine Bn _ _ (fun j _ _ hh=>?_);unfold A8 Bl
  by_cases hw:loAt l f j≤rd t (j:Int)∧rd t (j:Int)≤hiAt l b j
  · rw[decide_eq_true hw]
    by_cases h0:j=0
    · simp[h0]
    · have hp:=hh (j-1) (by omega) (by omega)
      unfold A8 at hp;rw[Bool.and_eq_true]at hp;have hp:=of_decide_eq_true hp.1;rw[show(((j-1:Nat):Int))=(j:Int)-1 by omega]at hp;have r1:=Au hok j;have r0:=Au hok (j-1);have hf:=Ag hok;rw[show(((j-1:Nat):Int))=(j:Int)-1 by omega]at r0;rw[w64 (show-9223372036854775808≤rd t ((j:Int)-1)+q by omega) (by omega),w64 (show-9223372036854775808≤rd t ((j:Int)-1)+s by omega) (by omega)]
      congr 2
      apply decide_eq_decide.2;refine and_congr (by omega) (or_congr Iff.rfl (by omega))
  · rw[decide_eq_false hw]
    simp
theorem Bz (q s:Int) (l:List S54) (f b:Int) (t:List Int) (ht:t.length≤9223372036854775807):Ev (fun k=>impl_FlyLawful.f k q s l f b t) (Ap q s l f b t):=by
  unfold impl_FlyLawful.f Ap;have bad:Ev (fun k=>impl_FlyLawful.j0 k t true q s l f b) false:=Ev.step (fun k=>(by simp only[impl_FlyLawful.j0];exact if_pos trivial)) (Ev.v _);refine Ev.bind (B9 q s l f b) ?_
  by_cases h1:Af q s l f b=true
  · rw[h1]
    refine Ev.p rfl ?_;have hf:=Ag h1;rw[w64 (by omega) (by omega)];refine Ev.s ?_;simp only[impl_FlyLawful.j0]
    by_cases h2:t.length=l.length+1
    · rw[decide_eq_true h2]
      refine Ev.n (by rw[bne_iff_ne];omega) ?_;rw[←Db h1]
      have round: ∀(i:Nat),i<t.length→ ∀k,impl_FlyLawful.l0 (k+1) t t (t.length:Int) i q s l f b=if A8 q s l f b t i=true then impl_FlyLawful.l0 k t t (t.length:Int) ((i:Int)+1) q s l f b else some false:=by
        intro i hi k;simp only[impl_FlyLawful.l0,if_pos (show(i:Int)<(t.length:Int) by omega),if_pos (show(0:Int)≤i by omega),Ci q s l f b i (by omega) (by omega),Cq,Option.bind_some];rw[w6 ((i:Int)+1),w6 ((i:Int)-1)];unfold A8;generalize impl_FlyLawful.l0 k t t (t.length:Int) ((i:Int)+1) q s l f b=r
        by_cases hw:loAt l f i≤rd t (i:Int)∧rd t (i:Int)≤hiAt l b i
        · rw[decide_eq_true hw,if_pos rfl]
          by_cases h0:i=0
          · rw[if_neg (by omega)]
            simp[h0]
          · rw[if_pos (show(i:Int)>0 by omega),if_pos (by omega),if_pos (by omega),if_pos (show(i:Int)-1<(l.length:Int) by omega)]
            rw[decide_eq_false h0,Bool.false_or];simp only[Bool.true_and,decide_eq_true_eq]
            by_cases c1:rd t (i:Int)<wrap64 (rd t ((i:Int)-1)+q)
            · rw[if_pos c1,if_neg (by omega)]
            · rw[if_neg c1]
              by_cases c2:rd t (i:Int)>wrap64 (rd t ((i:Int)-1)+s)
              · rw[if_pos c2]
                by_cases c3:(rd_T54 l ((i:Int)-1)).f6=true
                · rw[if_pos c3,if_pos ⟨by omega,.inl c3⟩]
                · rw[if_neg c3,if_neg (fun h=>h.2.elim c3 (fun h3=>by omega))]
              · rw[if_neg c2,if_pos ⟨by omega,.inr (by omega)⟩]
        · rw[decide_eq_false hw]
          rfl
      refine Bo (F:=fun k i=>impl_FlyLawful.l0 k t t (t.length:Int) i q s l f b) t.length (fun j=> !A8 q s l f b t j) (fun _=>false) true ?_ ?_ ?_ t.length 0 (by omega)
      · intro i hi hp
        exact Ev.step (round i hi) (Ev.n (by simpa using hp) (Ev.v _))
      · intro i hi hp r' hr
        exact Ev.step (round i hi) (Ev.p (by simpa using hp) hr)
      · refine Ev.step (fun k=>?_) (Ev.v _)
        simp only[impl_FlyLawful.l0];rw[if_neg (by omega)]
    · rw[decide_eq_false h2]
      exact Ev.p (by rw[bne_iff_ne];omega) (Ev.v _)
  · rw[Bool.eq_false_iff.2 h1]
    exact Ev.n (by decide) bad
def Bf (asked:List Int) (i:Nat) (L H:Int):Int:=if i<asked.length then min (max L (rd asked (i:Int))) H else L
def As (q s:Int) (l:List S54) (f b:Int) (asked:List Int):Nat→Nat→List Int→Option (List Int)
  |0,_,out=>some out
  |d+1,i,out=>if(Aa q s l f b out).2.2=true then As q s l f b asked d (i+1) (out++[Bf asked i (Aa q s l f b out).1 (Aa q s l f b out).2.1])else none
def A1 (q s:Int) (l:List S54) (f b:Int):Option (List Int)→List Int×Bool
  |none=>([],false)
  |some out=>if Ap q s l f b out=true then(out,true)else([],false)
def goOf (q s:Int) (l:List S54) (f b:Int) (beg asked:List Int):List Int×Bool:=A1 q s l f b (As q s l f b asked (l.length+1-beg.length) 0 beg)
theorem Di (q s:Int) (l:List S54) (f b:Int) (o:Option (List Int)):(A1 q s l f b o).1.length≤41:=by
  cases o with
  |none=>exact Nat.zero_le _
  |some out=>
    unfold A1
    by_cases h:Ap q s l f b out=true
    · simp only[if_pos h]
      unfold Ap at h;rw[Bool.and_eq_true,Bool.and_eq_true]at h;have h1:=(Ag h.1).2.1;have h2:=of_decide_eq_true h.2.1
      omega
    · simp only[if_neg h]
      exact Nat.zero_le _
theorem Cc {q s:Int} {l:List S54} {f b:Int} {beg asked:List Int} (h: ¬(Af q s l f b=true∧beg.length≤l.length+1)):goOf q s l f b beg asked=([],false):=by
  unfold goOf
  have bad: ∀out,¬(Af q s l f b=true∧out.length≤l.length+1)→A1 q s l f b (some out)=([],false):=by
    intro out ho;unfold A1;refine if_neg (fun hl=>ho ?_);unfold Ap at hl;rw[Bool.and_eq_true,Bool.and_eq_true]at hl;exact⟨hl.1,by have:=of_decide_eq_true hl.2.1;omega⟩
  cases hd:l.length+1-beg.length with
  |zero=>exact bad beg h
  |succ d=>
    simp only[As];rw[if_neg]
    · rfl
    · unfold Aa
      rw[if_neg (fun hh=>h ⟨hh.1,by omega⟩)]
      decide
theorem B3 {q s:Int} {l:List S54} {f b:Int} {out:List Int} (hI: ∀x∈out,I64 x) (h:(Aa q s l f b out).2.2=true):0≤(Aa q s l f b out).1∧(Aa q s l f b out).1≤(Aa q s l f b out).2.1∧(Aa q s l f b out).2.1≤10000:=by
  unfold Aa at h⊢
  by_cases hc:Af q s l f b=true∧out.length≤l.length
  · rw[if_pos hc]at h⊢
    by_cases ho:Al idw (begA l f out) (begB l b out) q s (Ah l) l.length=true
    · rw[if_pos ho]
      have h0:=(Am _ _ _ _ _ _ _).1 ho out.length hc.2;have h1:=Bh idw (begA l f out) q out.length;have h2:=Bi idw (begB l b out) s (Ah l) out.length;have h3:=A3 idw (begA l f out) q s (Ah l) l.length out.length hc.2;have h4:=A4 idw (begB l b out) q s (Ah l) l.length out.length hc.2;have h5:=Bp hc.1 out hI out.length
      dsimp only
      omega
    · rw[if_neg ho]at h
      cases h
  · rw[if_neg hc]at h
    cases h
theorem D1 {q s:Int} {l:List S54} {f b:Int} {out asked:List Int} {i:Nat} (hI: ∀x∈out,I64 x) (h:(Aa q s l f b out).2.2=true): ∀x∈out++[Bf asked i (Aa q s l f b out).1 (Aa q s l f b out).2.1],I64 x:=by
  intro x hx
  rcases List.mem_append.1 hx with hx|hx
  · exact hI x hx
  · rw[List.mem_singleton.1 hx]
    have:=B3 hI h;unfold Bf I64
    split<;>omega
theorem Dj {q s:Int} {l:List S54} {f b:Int} (hl:l.length≤40) (asked:List Int) (hn:asked.length≤1048576):
    ∀(d i:Nat) (out:List Int),out.length+d=l.length+1→i+d≤41→(∀x∈out,I64 x)→Ev (fun k=>spec_FlyGo.l0 k asked out (i:Int) q s l f b) (A1 q s l f b (As q s l f b asked d i out)):=by
  intro d
  induction d with
  |zero=>
    intro i out ho hi hI;refine Ev.s ?_;simp only[spec_FlyGo.l0,As,A1];refine Ev.N (Ev.bind (Dx q s l f b out (by omega)) ?_)
    by_cases hw:Ap q s l f b out=true
    · exact Ev.p hw (Ev.c (Ev.v _) (if_pos hw).symm)
    · exact Ev.n hw (Ev.c (Ev.v _) (if_neg hw).symm)
  |succ d ih=>
    intro i out ho hi hI;refine Ev.s ?_;simp only[spec_FlyGo.l0,As];refine Ev.P (Ev.bind (B5 q s l f b out hI) ?_)
    by_cases hw:(Aa q s l f b out).2.2=true
    · rw[if_pos hw]
      refine Ev.p hw ?_;have h:=ih (i+1) (out++[Bf asked i (Aa q s l f b out).1 (Aa q s l f b out).2.1]) (by rw[List.length_append,List.length_singleton];omega) (by omega) (D1 hI hw);rw[show(((i+1:Nat):Int))=(i:Int)+1 by omega]at h;rw[w6 ((i:Int)+1)];simp only[Bj,Bw,Option.bind_some]
      by_cases ha:i<asked.length
      · rw[show Bf asked i (Aa q s l f b out).1 (Aa q s l f b out).2.1=min (max (Aa q s l f b out).1 (rd asked (i:Int))) (Aa q s l f b out).2.1 from if_pos ha]at h⊢
        exact Ev.P (Ev.P (Ev.p (by omega) h))
      · rw[show Bf asked i (Aa q s l f b out).1 (Aa q s l f b out).2.1=(Aa q s l f b out).1 from if_neg ha]at h⊢
        exact Ev.N (Ev.p (by omega) h)
    · rw[if_neg hw]
      exact Ev.n hw (Ev.v _)
theorem Dk {q s:Int} {l:List S54} {f b:Int} (hl:l.length≤40) (asked:List Int) (hn:asked.length≤1048576):
    ∀(d i:Nat) (out:List Int),out.length+d=l.length+1→i+d≤41→(∀x∈out,I64 x)→Ev (fun k=>impl_FlyGo.l0 k asked out (i:Int) q s l f b) (A1 q s l f b (As q s l f b asked d i out)):=by
  intro d
  induction d with
  |zero=>
    intro i out ho hi hI;refine Ev.s ?_;simp only[impl_FlyGo.l0,As,A1];refine Ev.N (Ev.bind (Bz q s l f b out (by omega)) ?_)
    by_cases hw:Ap q s l f b out=true
    · exact Ev.p hw (Ev.c (Ev.v _) (if_pos hw).symm)
    · exact Ev.n hw (Ev.c (Ev.v _) (if_neg hw).symm)
  |succ d ih=>
    intro i out ho hi hI;refine Ev.s ?_;simp only[impl_FlyGo.l0,As];refine Ev.P (Ev.bind (Bq q s l f b out hI) ?_)
    by_cases hw:(Aa q s l f b out).2.2=true
    · rw[if_pos hw]
      refine Ev.p hw ?_;have h:=ih (i+1) (out++[Bf asked i (Aa q s l f b out).1 (Aa q s l f b out).2.1]) (by rw[List.length_append,List.length_singleton];omega) (by omega) (D1 hI hw);rw[show(((i+1:Nat):Int))=(i:Int)+1 by omega]at h;rw[w6 ((i:Int)+1)]
      by_cases ha:i<asked.length
      · rw[show Bf asked i (Aa q s l f b out).1 (Aa q s l f b out).2.1=mn (mx (rd asked (i:Int)) (Aa q s l f b out).1) (Aa q s l f b out).2.1 from by rw[Dd,Dc,Int.max_comm];exact if_pos ha]at h⊢
        exact Ev.P (Ev.P (Ev.p (by omega) h))
      · rw[show Bf asked i (Aa q s l f b out).1 (Aa q s l f b out).2.1=(Aa q s l f b out).1 from if_neg ha]at h⊢
        exact Ev.N (Ev.p (by omega) h)
    · rw[if_neg hw]
      exact Ev.n hw (Ev.v _)
theorem Es (q s:Int) (l:List S54) (f b:Int) (beg asked:List Int) (hb:beg.length≤1048576) (hn:asked.length≤1048576) (hI: ∀x∈beg,I64 x) (hl:l.length≤1048576):Ev (fun k=>spec_FlyGo.f k q s l f b beg asked) (goOf q s l f b beg asked):=by
  unfold spec_FlyGo.f;simp only[Option.bind_some,List.nil_append];refine Ev.p (by simp only[List.length_nil];omega) (Ev.bind (Ay q s l f b) ?_)
  by_cases h:Af q s l f b=true
  · refine Ev.p h ?_
    have hf:=Ag h;rw[w6 ((l.length:Int)+1)];refine Ev.s ?_;simp only[spec_FlyGo.j0]
    by_cases hc:beg.length≤l.length+1
    · refine Ev.n (by simp only[decide_eq_true_eq];omega) ?_
      exact Dj hf.2.1.2 asked hn (l.length+1-beg.length) 0 beg (by omega) (by omega) hI
    · refine Ev.p (by simp only[decide_eq_true_eq];omega) (Ev.c (Ev.v _) ?_)
      exact(Cc (fun hh=>hc hh.2)).symm
  · refine Ev.n h (Ev.s ?_)
    simp only[spec_FlyGo.j0];exact Ev.p trivial (Ev.c (Ev.v _) (Cc (fun hh=>h hh.1)).symm)
theorem Cs (q s:Int) (l:List S54) (f b:Int) (beg asked:List Int) (hb:beg.length≤1048576) (hn:asked.length≤1048576) (hI: ∀x∈beg,I64 x) (hl:l.length≤1048576):Ev (fun k=>impl_FlyGo.f k q s l f b beg asked) (goOf q s l f b beg asked):=by
  unfold impl_FlyGo.f;refine Ev.p (by simp only[List.length_nil];omega) ?_;rw[List.nil_append]
  by_cases h:Af q s l f b=true∧beg.length≤l.length+1
  · exact Dk (Ag h.1).2.1.2 asked hn (l.length+1-beg.length) 0 beg (by omega) (by have:=(Ag h.1).2.1.2;omega) hI
  · refine Ev.c ?_ (Cc h).symm
    refine Ev.s ?_;simp only[impl_FlyGo.l0]
    by_cases hc:beg.length≤l.length
    · refine Ev.P (Ev.bind (Bq q s l f b beg hI) ?_)
      have e:Aa q s l f b beg=(0,0,false):=if_neg (fun hh=>h ⟨hh.1,by omega⟩);rw[e];exact Ev.n (by decide) (Ev.v _)
    · refine Ev.N (Ev.bind (Bz q s l f b beg (by omega)) ?_)
      have e: ¬Ap q s l f b beg=true:=by
        intro hw;unfold Ap at hw;rw[Bool.and_eq_true,Bool.and_eq_true]at hw;have:=of_decide_eq_true hw.2.1;exact h ⟨hw.1,by omega⟩
      exact Ev.n e (Ev.v _)
section
variable (A B : Nat → Int) (q s : Int) (h : Nat → Bool) (n : Nat)
def Cl (f:Nat→Int):Prop:= ∀k,k<n→f k+q≤f (k+1)∧(h k=false→f (k+1)≤f k+s)
def Bs (f:Nat→Int):Prop:=(∀k,k≤n→A k≤f k∧f k≤B k)∧Cl q s h n f
variable {A B q s h n}
theorem C1 {f:Nat→Int} (hf:Bs A B q s h n f): ∀k,k≤n→fwdL idw A q k≤f k∧f k≤fwdH idw B s h k:=by
  intro k
  induction k with
  |zero=>intro hk;simp only[fwdL,fwdH];exact hf.1 0 hk
  |succ k ih=>
    intro hk;have h1:=ih (by omega);have h2:=hf.1 (k+1) hk;have h3:=hf.2 k (by omega);simp only[fwdL,fwdH,idw]
    cases hh:h k with
    |true=>simp only[if_true];omega
    |false=>have h4:=h3.2 hh;simp only[Bool.false_eq_true,if_false];omega
theorem Dl {f:Nat→Int} (hf:Bs A B q s h n f): ∀k,k≤n→Ab idw A q s h n k≤f k∧f k≤Ac idw B q s h n k:=by
  have back: ∀d,d≤n→Ab idw A q s h n (n-d)≤f (n-d)∧f (n-d)≤Ac idw B q s h n (n-d):=by
    intro d
    induction d with
    |zero=>intro hd;rw[Nat.sub_zero,Bb,Bc];exact C1 hf n (Nat.le_refl _)
    |succ d ih=>
      intro hd;have h1:=ih (by omega);obtain⟨k,hk⟩: ∃k,k=n-(d+1):=⟨_,rfl⟩;rw[show n-d=k+1 by omega]at h1;rw[←hk,Bd idw A q s h n k (by omega),Be idw B q s h n k (by omega)];have h2:=C1 hf k (by omega);have h3:=hf.2 k (by omega);simp only[idw]
      cases hh:h k with
      |true=>simp only[if_true];omega
      |false=>have h4:=h3.2 hh;simp only[Bool.false_eq_true,if_false];omega
  intro k hk;have:=back (n-k) (by omega)
  rwa [show n-(n-k)=k by omega]at this
theorem Dm {f:Nat→Int} (hf:Bs A B q s h n f):Al idw A B q s h n=true:=
  (Am idw A B q s h n).2 fun k hk=>by have:=Dl hf k hk;omega
theorem C2 (hqs:q≤s):Cl q s h n (Ab idw A q s h n):=by
  intro k hk;have h1:=Bd idw A q s h n k hk;have h2:=A3 idw A q s h n (k+1) (by omega)
  have h3:fwdL idw A q k+q≤fwdL idw A q (k+1):=by simp only[fwdL,idw];omega
  simp only[idw]at h1
  cases hh:h k with
  |true=>rw[hh]at h1;simp only[if_true]at h1;exact⟨by omega,fun e=>by cases e⟩
  |false=>rw[hh]at h1;simp only[Bool.false_eq_true,if_false]at h1;exact⟨by omega,fun _=>by omega⟩
theorem D7 (hqs:q≤s):Cl q s h n (Ac idw B q s h n):=by
  intro k hk;have h1:=Be idw B q s h n k hk;have h2:=A4 idw B q s h n (k+1) (by omega);simp only[idw]at h1;refine⟨by omega,fun hh=>?_⟩
  have h3:fwdH idw B s h (k+1)≤fwdH idw B s h k+s:=by simp only[fwdH,idw,hh,Bool.false_eq_true,if_false];omega
  omega
theorem C3 (hqs:q≤s) (ok:Al idw A B q s h n=true):Bs A B q s h n (Ab idw A q s h n):=by
  refine⟨fun k hk=>?_,C2 hqs⟩;have h1:=(Am idw A B q s h n).1 ok k hk;have h2:=Bh idw A q k;have h3:=Bi idw B s h k;have h4:=A3 idw A q s h n k hk;have h5:=A4 idw B q s h n k hk
  omega
theorem Ca (hqs:q≤s) (ok:Al idw A B q s h n=true) {g:Nat→Int} (hg:Cl q s h n g):Bs A B q s h n (fun k=>min (Ac idw B q s h n k) (max (Ab idw A q s h n k) (g k))):=by
  refine⟨fun k hk=>?_,fun k hk=>?_⟩
  · have h1:=(Am idw A B q s h n).1 ok k hk
    have h2:=Bh idw A q k;have h3:=Bi idw B s h k;have h4:=A3 idw A q s h n k hk;have h5:=A4 idw B q s h n k hk
    show A k≤min _ _∧min _ _≤B k
    omega
  · have h1:=C2 (A:=A) (h:=h) (n:=n) hqs k hk
    have h2:=D7 (B:=B) (h:=h) (n:=n) hqs k hk;have h3:=hg k hk;refine⟨by show min _ _+q≤min _ _;omega,fun hh=>?_⟩;have h4:=h1.2 hh;have h5:=h2.2 hh;have h6:=h3.2 hh
    show min _ _≤min _ _+s
    omega
theorem Cm (hqs:q≤s) (t:Int) (k0:Int):Cl q s h n (fun k=>t+((k:Int)-k0)*q):=by
  intro k hk
  have e:(((k+1:Nat):Int)-k0)*q=((k:Int)-k0)*q+q:=by
    rw[show(((k+1:Nat):Int)-k0)=((k:Int)-k0)+1 by omega,Int.add_mul,Int.one_mul]
  refine⟨?_,fun _=>?_⟩
  · show t+((k:Int)-k0)*q+q≤t+(((k+1:Nat):Int)-k0)*q
    omega
  · show t+(((k+1:Nat):Int)-k0)*q≤t+((k:Int)-k0)*q+s
    omega
theorem Et (hqs:q≤s) (ok:Al idw A B q s h n=true) (k:Nat) (t:Int) (h1:Ab idw A q s h n k≤t) (h2:t≤Ac idw B q s h n k): ∃f,Bs A B q s h n f∧f k=t:=by
  refine⟨_,Ca hqs ok (Cm hqs t (k:Int)),?_⟩
  show min _ (max _ (t+((k:Int)-(k:Int))*q))=t
  rw[Int.sub_self,Int.zero_mul]
  omega
theorem Fa (hqs:q≤s) (hq:1≤q) (ok:Al idw A B q s h n=true) (k:Nat) (t:Int) (h1:Ab idw A q s h n k≤t) (h2:t<Ac idw B q s h n (k+1)): ∃f,Bs A B q s h n f∧f k≤t∧t<f (k+1):=by
  refine⟨_,Ca hqs ok (Cm hqs t (k:Int)),?_,?_⟩
  · show min _ (max _ (t+((k:Int)-(k:Int))*q))≤t
    rw[Int.sub_self,Int.zero_mul]
    omega
  · show t<min _ (max _ (t+(((k+1:Nat):Int)-(k:Int))*q))
    rw[show(((k+1:Nat):Int)-(k:Int))=1 by omega,Int.one_mul]
    omega
end
abbrev Fl (q s:Int) (l:List S54) (f b:Int) (g:Nat→Int):Prop:=Bs (fun k=>loAt l f (k:Int)) (fun k=>hiAt l b (k:Int)) q s (Ah l) l.length g
theorem B0 (n:Nat) (g:Nat→Int) (i:Nat) (hi:i<n):rd (tab n g) (i:Int)=g i:=by
  show(tab n g).getD ((i:Int)).toNat 0=g i
  rw[Int.toNat_natCast,List.getD_eq_getElem?_getD,Aw n g i hi];rfl
theorem Cn {q s:Int} {l:List S54} {f b:Int} (h:Af q s l f b=true) {g:Nat→Int} (hg:Fl q s l f b g):Ev (fun k=>laws_wfAllowed.f k q s l f b (tab (l.length+1) g)) true:=by
  have hf:=Ag h
  have hr: ∀k:Nat,k≤l.length→0≤g k∧g k≤10000:=fun k hk=>by have h1:=Au h k;have h2:=hg.1 k hk;simp only at h2;omega
  unfold laws_wfAllowed.f;rw[Ad,w6 ((l.length:Int)+1)];refine Ev.p (by omega) ?_
  have loop: ∀d i:Nat,i+d=l.length→Ev (fun k=>laws_wfAllowed.l0 k (tab (l.length+1) g) (l.length:Int) (i:Int) q s l f b) true:=by
    intro d
    induction d with
    |zero=>
      intro i hi
      have e:i=l.length:=by omega
      have hw:=hg.1 l.length (Nat.le_refl _);unfold loAt hiAt at hw;simp only[if_neg (Int.lt_irrefl (l.length:Int))]at hw;refine Ev.s ?_;simp only[laws_wfAllowed.l0,Ad];rw[B0 _ g l.length (by omega)];refine Ev.N (Ev.P (Ev.P (Ev.P (Ev.c (Ev.v _) (decide_eq_true (by omega))))))
    |succ d ih=>
      intro i hi;have hn:=ih (i+1) (by omega);rw[show(((i+1:Nat)):Int)=(i:Int)+1 by omega]at hn;have hw:=hg.1 i (by omega);unfold loAt hiAt at hw;simp only[if_pos (show(i:Int)<(l.length:Int) by omega)]at hw;have hd:=hg.2 i (by omega);have r1:=hr i (by omega);have r2:=hr (i+1) (by omega);refine Ev.s ?_;simp only[laws_wfAllowed.l0,Ad];rw[w6 ((i:Int)+1),B0 _ g i (by omega),show(i:Int)+1=((i+1:Nat):Int) by omega,B0 _ g (i+1) (by omega),w6 (g (i+1)-g i)];rw[show(((i+1:Nat)):Int)=(i:Int)+1 by omega];refine Ev.P (Ev.P (Ev.P (Ev.P (Ev.N (Ev.N (Ev.P (Ev.P (Ev.n (by omega) ?_))))))))
      by_cases c:(rd_T54 l (i:Int)).f6=true
      · exact Ev.p c hn
      · have:=hd.2 (by unfold Ah;exact Bool.eq_false_iff.2 c)
        exact Ev.n c (Ev.n (by omega) hn)
  exact loop l.length 0 (by omega)
abbrev BFl (q s:Int) (l:List S54) (f b:Int) (out:List Int) (g:Nat→Int):Prop:=Bs (begA l f out) (begB l b out) q s (Ah l) l.length g
theorem Ct {q s:Int} {l:List S54} {f b:Int} {out:List Int} {g:Nat→Int} (hg:BFl q s l f b out g):Fl q s l f b g:=by
  refine⟨fun k hk=>?_,hg.2⟩;have h:=hg.1 k hk;unfold begA begB at h
  show loAt l f (k:Int)≤g k∧g k≤hiAt l b (k:Int)
  by_cases c:k<out.length
  · rw[if_pos c,if_pos c]at h;omega
  · rw[if_neg c,if_neg c]at h;exact h
theorem Co {q s:Int} {l:List S54} {f b:Int} {out:List Int} {g:Nat→Int} (hg:BFl q s l f b out g) (k:Nat) (hk:k≤l.length) (c:k<out.length):g k=rd out (k:Int):=by
  have h:=hg.1 k hk;unfold begA begB at h;rw[if_pos c,if_pos c]at h
  omega
theorem Dn {q s:Int} {l:List S54} {f b:Int} {out:List Int} {g:Nat→Int} (hg:Fl q s l f b g) (he: ∀k:Nat,k≤l.length→k<out.length→g k=rd out (k:Int)):BFl q s l f b out g:=by
  refine⟨fun k hk=>?_,hg.2⟩;have h:loAt l f (k:Int)≤g k∧g k≤hiAt l b (k:Int):=hg.1 k hk;unfold begA begB
  by_cases c:k<out.length
  · rw[if_pos c,if_pos c,←he k hk c];omega
  · rw[if_neg c,if_neg c];exact h
theorem C4 (x:List Int) (t:Int) (k:Nat) (h:k<x.length):rd (x++[t]) (k:Int)=rd x (k:Int):=by
  show(x++[t]).getD ((k:Int)).toNat 0=x.getD ((k:Int)).toNat 0
  rw[Int.toNat_natCast,List.getD_eq_getElem?_getD,List.getD_eq_getElem?_getD,List.getElem?_append_left h]
theorem C5 (x:List Int) (t:Int):rd (x++[t]) (x.length:Int)=t:=by
  show(x++[t]).getD ((x.length:Int)).toNat 0=t
  rw[Int.toNat_natCast,List.getD_eq_getElem?_getD,List.getElem?_append_right (Nat.le_refl _),Nat.sub_self];rfl
theorem D2 (x:List Int) (k:Nat) (h:k<x.length):rd x (k:Int)=x[k]:=by
  show x.getD ((k:Int)).toNat 0=x[k]
  rw[Int.toNat_natCast,List.getD_eq_getElem?_getD,List.getElem?_eq_getElem h];rfl
theorem Eu (x:List Int) (n:Nat) (g:Nat→Int) (hn:x.length=n) (h: ∀k:Nat,k<n→g k=rd x (k:Int)):x=tab n g:=by
  apply List.ext_getElem?;intro k
  by_cases c:k<n
  · rw[Aw n g k c,List.getElem?_eq_getElem (by omega),h k c,D2 x k (by omega)]
  · rw[List.getElem?_eq_none (by omega),List.getElem?_eq_none (by rw[Ad];omega)]
theorem Dp {q s:Int} {l:List S54} {f b:Int} {out:List Int} {g:Nat→Int} {t:Int} (ho:out.length≤l.length) (hg:BFl q s l f b out g) (ht:g out.length=t):BFl q s l f b (out++[t]) g:=by
  refine Dn (Ct hg) (fun k hk c=>?_);rw[List.length_append,List.length_singleton]at c
  by_cases e:k=out.length
  · rw[e,C5,ht]
  · rw[C4 out t k (by omega)]
    exact Co hg k hk (by omega)
theorem Ew {q s:Int} {l:List S54} {f b:Int} (h:Af q s l f b=true) {out:List Int} (ho:out.length≤l.length) {g:Nat→Int} (hg:BFl q s l f b out g):
    Aa q s l f b out=(Ab idw (begA l f out) q s (Ah l) l.length out.length,Ac idw (begB l b out) q s (Ah l) l.length out.length,true):=by
  unfold Aa;rw[if_pos ⟨h,ho⟩,if_pos (Dm hg)]
theorem E9 {q s:Int} {l:List S54} {f b:Int} (h:Af q s l f b=true): ∀(d i:Nat) (out:List Int),out.length+d=l.length+1→(∃g,BFl q s l f b out g)→ ∃g,Fl q s l f b g∧As q s l f b [] d i out=some (tab (l.length+1) g):=by
  intro d
  induction d with
  |zero=>
    intro i out ho ⟨g,hg⟩;refine⟨g,Ct hg,?_⟩;simp only[As];rw[Eu out (l.length+1) g (by omega) (fun k hk=>Co hg k (by omega) (by omega))]
  |succ d ih=>
    intro i out ho ⟨g,hg⟩;have hn:=Ew h (show out.length≤l.length by omega) hg;have low:=C3 (Ag h).1.2.1 (Dm hg)
    have e:Bf [] i (Aa q s l f b out).1 (Aa q s l f b out).2.1=Ab idw (begA l f out) q s (Ah l) l.length out.length:=by
      rw[hn];unfold Bf;exact if_neg (by simp)
    obtain⟨g',h1,h2⟩:=ih (i+1) (out++[Ab idw (begA l f out) q s (Ah l) l.length out.length]) (by rw[List.length_append,List.length_singleton];omega) ⟨_,Dp (by omega) low rfl⟩;refine⟨g',h1,?_⟩;simp only[As];rw[e,if_pos (by rw[hn]),h2]
theorem C6 {q s:Int} {l:List S54} {f b:Int} {t:List Int} (h:Ap q s l f b t=true):t.length=l.length+1∧Fl q s l f b (fun k=>rd t (k:Int)):=by
  unfold Ap at h;rw[Bool.and_eq_true,Bool.and_eq_true,Bg]at h;have hl:=of_decide_eq_true h.2.1
  have hk: ∀k:Nat,k<t.length→(loAt l f (k:Int)≤rd t (k:Int)∧rd t (k:Int)≤hiAt l b (k:Int))∧(k=0∨(q≤rd t (k:Int)-rd t ((k:Int)-1)∧((rd_T54 l ((k:Int)-1)).f6=true∨rd t (k:Int)-rd t ((k:Int)-1)≤s))):=by
    intro k hk;have h1:=h.2.2 k (by omega) (by omega);unfold Bl at h1
    simpa only[Bool.and_eq_true,Bool.or_eq_true,decide_eq_true_eq]using h1
  refine⟨hl,fun k hk'=>(hk k (by omega)).1,fun k hk'=>?_⟩;have h2:=(hk (k+1) (by omega)).2;rw[show((k+1:Nat):Int)-1=(k:Int) by omega]at h2
  show rd t (k:Int)+q≤rd t ((k+1:Nat):Int)∧(Ah l k=false→rd t ((k+1:Nat):Int)≤rd t (k:Int)+s)
  unfold Ah;refine⟨by omega,fun hh=>?_⟩
  rcases h2 with h2|⟨h2,h3|h3⟩
  · omega
  · rw[hh]at h3;cases h3
  · omega
theorem Ef {q s:Int} {l:List S54} {f b:Int} (h:Af q s l f b=true) {g:Nat→Int} (hg:Fl q s l f b g):Ap q s l f b (tab (l.length+1) g)=true:=by
  unfold Ap;rw[h,Ad,decide_eq_true rfl,Bool.true_and,Bool.true_and,Bg];intro k _ hk;have h1:loAt l f (k:Int)≤g k∧g k≤hiAt l b (k:Int):=hg.1 k (by omega);unfold Bl;rw[B0 _ g k (by omega),decide_eq_true h1,Bool.true_and]
  rcases Nat.eq_zero_or_pos k with e|e
  · rw[decide_eq_true e];rfl
  · have h2:=hg.2 (k-1) (by omega)
    rw[show(k:Int)-1=((k-1:Nat):Int) by omega,B0 _ g (k-1) (by omega)];rw[show k-1+1=k by omega]at h2;rw[Bool.or_eq_true];refine Or.inr (decide_eq_true ⟨by omega,?_⟩)
    by_cases c:(rd_T54 l ((k-1:Nat):Int)).f6=true
    · exact Or.inl c
    · have:=h2.2 (by unfold Ah;exact Bool.eq_false_iff.2 c)
      exact Or.inr (by omega)
theorem E7 {q s:Int} {l:List S54} {f b:Int} (h:Af q s l f b=true) {out:List Int} (ho:out.length≤l.length+1) (hg: ∃g,BFl q s l f b out g): ∃g,Fl q s l f b g∧goOf q s l f b out []=(tab (l.length+1) g,true):=by
  obtain⟨g,h1,h2⟩:=E9 h (l.length+1-out.length) 0 out (by omega) hg;refine⟨g,h1,?_⟩;unfold goOf;rw[h2];exact if_pos (Ef h h1)
theorem Eg {q s:Int} {l:List S54} {f b:Int} {out:List Int} (hn: ¬ ∃g,BFl q s l f b out g):(Aa q s l f b out).2.2=false:=by
  unfold Aa
  by_cases c:Af q s l f b=true∧out.length≤l.length
  · rw[if_pos c]
    by_cases c2:Al idw (begA l f out) (begB l b out) q s (Ah l) l.length=true
    · exact absurd ⟨_,C3 (Ag c.1).1.2.1 c2⟩ hn
    · rw[if_neg c2]
  · rw[if_neg c]
theorem Ex {q s:Int} {l:List S54} {f b:Int} {out:List Int} (hn: ¬ ∃g,BFl q s l f b out g):goOf q s l f b out []=([],false):=by
  unfold goOf
  cases l.length+1-out.length with
  |zero=>
    simp only[As,A1];refine if_neg (fun hl=>hn ?_);exact⟨_,Dn (C6 hl).2 (fun k _ _=>rfl)⟩
  |succ d=>
    simp only[As];rw[Eg hn]
    rfl
theorem A9 {q s:Int} {l:List S54} {f b L H:Int} {beg:List Int} (hn:Aa q s l f b beg=(L,H,true)) (t:Int):
    (L≤t∧t≤H→ ∃g,Fl q s l f b g∧goOf q s l f b (beg++[t]) []=(tab (l.length+1) g,true))∧(¬(L≤t∧t≤H)→goOf q s l f b (beg++[t]) []=([],false)):=by
  unfold Aa at hn
  by_cases c:Af q s l f b=true∧beg.length≤l.length
  · rw[if_pos c]at hn
    by_cases c2:Al idw (begA l f beg) (begB l b beg) q s (Ah l) l.length=true
    · rw[if_pos c2]at hn
      have e1:Ab idw (begA l f beg) q s (Ah l) l.length beg.length=L:=congrArg (fun x=>x.1) hn;have e2:Ac idw (begB l b beg) q s (Ah l) l.length beg.length=H:=congrArg (fun x=>x.2.1) hn;refine⟨fun ht=>?_,fun ht=>Ex (fun⟨g,hg⟩=>ht ?_)⟩
      · obtain⟨g,h1,h2⟩:=Et (Ag c.1).1.2.1 c2 beg.length t (by omega) (by omega)
        exact E7 c.1 (by rw[List.length_append,List.length_singleton];omega) ⟨g,Dp c.2 h1 h2⟩
      · have h1:BFl q s l f b beg g:=Dn (Ct hg) (fun k hk hc=>by
          rw[Co hg k hk (by rw[List.length_append,List.length_singleton];omega)]
          exact C4 beg t k hc)
        have h2:=Dl h1 beg.length c.2;have h3:=Co hg beg.length c.2 (by rw[List.length_append,List.length_singleton];omega);rw[C5]at h3
        omega
    · rw[if_neg c2]at hn
      cases hn
  · rw[if_neg c]at hn
    cases hn
theorem Ey (x:List S54) (i:Nat) (h:i<x.length) (v:S54):rd_T54 (x.set i v) (i:Int)=v:=by
  show(x.set i v).getD ((i:Int)).toNat _=v
  rw[Int.toNat_natCast,List.getD_eq_getElem?_getD,List.getElem?_set_self h];rfl
def upTo (g:Nat→S54) (l:List S54) (i:Nat):List S54:=tab l.length (fun j=>if j<i then g j else rd_T54 l (j:Int))
theorem Bm (g:Nat→S54) (l:List S54) (i:Nat):(upTo g l i).length=l.length:=Ad _ _
theorem Ez (g:Nat→S54) (l:List S54) (i j:Nat) (hj:j<l.length):rd_T54 (upTo g l i) (j:Int)=if j<i then g j else rd_T54 l (j:Int):=Dy _ _ j hj
theorem Eh (g:Nat→S54) (l:List S54):upTo g l 0=l:=by
  unfold upTo;apply List.ext_getElem?;intro j
  rcases Nat.lt_or_ge j l.length with hj|hj
  · rw[Aw _ _ j hj,if_neg (by omega),List.getElem?_eq_getElem hj]
    congr 1
    show l.getD ((j:Int)).toNat _=l[j]
    rw[Int.toNat_natCast,List.getD_eq_getElem?_getD,List.getElem?_eq_getElem hj];rfl
  · rw[List.getElem?_eq_none (by rw[Ad];omega),List.getElem?_eq_none (by omega)]
theorem Em (g:Nat→S54) (l:List S54) (i:Nat) (hi:i<l.length):(upTo g l i).set i (g i)=upTo g l (i+1):=by
  unfold upTo;rw[Av _ _ i _ hi];refine Aj _ _ _ (fun j hj=>?_)
  by_cases e:j=i
  · rw[if_pos e,if_pos (by omega),e]
  · rw[if_neg e]
    by_cases e2:j<i
    · rw[if_pos e2,if_pos (by omega)]
    · rw[if_neg e2,if_neg (by omega)]
def C7 (d:Int) (x:S54):S54:=⟨x.f0,x.f1,x.f2,x.f3,wrap64 (x.f4+d),wrap64 (x.f5+d),x.f6⟩
def An (l:List S54) (d:Int) (i:Nat):List S54:=upTo (fun j=>C7 d (rd_T54 l (j:Int))) l i
def Az (q s:Int) (l:List S54) (f b d:Int):Int×Int×List S54×Int×Int×Bool:=
  if Af q s l f b=true∧ -10000≤d∧d≤10000 then
    (if Af q s (An l d l.length) (wrap64 (f+d)) (wrap64 (b+d))=true then(q,s,An l d l.length,wrap64 (f+d),wrap64 (b+d),true)else(0,0,[],0,0,false))
  else(0,0,[],0,0,false)
theorem Cu (q s:Int) (l:List S54) (f b d:Int):(Az q s l f b d).2.2.1.length≤l.length:=by
  unfold Az
  split
  · split
    · exact Nat.le_of_eq (Bm _ _ _)
    · exact Nat.zero_le _
  · exact Nat.zero_le _
theorem D8 (q s:Int) (l:List S54) (f b d:Int):Ev (fun k=>spec_FlyShift.f k q s l f b d) (Az q s l f b d):=by
  unfold spec_FlyShift.f Az;refine Ev.bind (Ay q s l f b) ?_
  by_cases h:Af q s l f b=true
  · refine Ev.p h ?_
    have hf:=Ag h;rw[Ax];refine Ev.s ?_;simp only[spec_FlyShift.j0,Option.bind_some]
    by_cases hc: -10000≤d∧d≤10000
    · rw[if_pos ⟨h,hc⟩]
      refine Ev.n (by simp;omega) ?_;unfold spec_l22Copy.f;simp only[Option.bind_some,List.nil_append];rw[if_pos (by simp only[List.length_nil];omega)];simp only[Option.bind_some]
      have loop: ∀m i:Nat,i+m=l.length→Ev (fun k=>spec_FlyShift.l0 k d (i:Int) q s (An l d i) f b) (if Af q s (An l d l.length) (wrap64 (f+d)) (wrap64 (b+d))=true then(q,s,An l d l.length,wrap64 (f+d),wrap64 (b+d),true)else(0,0,[],0,0,false)):=by
        intro m
        induction m with
        |zero=>
          intro i hi;refine Ev.s ?_;simp only[spec_FlyShift.l0];refine Ev.n (by unfold An;rw[Bm];omega) ?_;rw[show i=l.length by omega];refine Ev.bind (Ay q s _ _ _) ?_
          by_cases h2:Af q s (An l d l.length) (wrap64 (f+d)) (wrap64 (b+d))=true
          · exact Ev.c (Ev.p h2 (Ev.v _)) (if_pos h2).symm
          · exact Ev.c (Ev.n h2 (Ev.v _)) (if_neg h2).symm
        |succ m ih=>
          intro i hi;refine Ev.s ?_;simp only[spec_FlyShift.l0,Option.bind_some,Int.toNat_natCast];refine Ev.p (by unfold An;rw[Bm];omega) (Ev.p (by omega) ?_)
          have hl:i<(An l d i).length:=by unfold An;rw[Bm];omega
          have hr:rd_T54 (An l d i) (i:Int)=rd_T54 l (i:Int):=by unfold An;rw[Ez _ l i i (by omega),if_neg (by omega)]
          rw[w6 ((i:Int)+1)];simp only[Ey _ i hl,List.set_set,hr];have:=ih (i+1) (by omega);rw[show An l d (i+1)=(An l d i).set i (C7 d (rd_T54 l (i:Int)))from(Em _ l i (by omega)).symm]at this;exact this
      have:=loop l.length 0 (by omega);rw[show An l d 0=l from Eh _ l]at this;exact this
    · rw[if_neg (fun hh=>hc hh.2)]
      exact Ev.p (by simp;omega) (Ev.v _)
  · rw[if_neg (fun hh=>h hh.1)]
    refine Ev.n h (Ev.s ?_);simp only[spec_FlyShift.j0];exact Ev.p trivial (Ev.v _)
theorem Ei (a b:Nat) (ha:a<4611686018427387904) (hb:b<4611686018427387904): ∃m:Nat,m<4611686018427387904∧Go.bits .xor .i64 (a:Int) (b:Int)=(m:Int):=by
  have hx:a^^^b<2^62:=Nat.xor_lt_two_pow (by omega) (by omega)
  have h1:(BitVec.ofInt 64 (a:Int)).toNat=a:=by
    rw[BitVec.ofInt_natCast,BitVec.toNat_ofNat];exact Nat.mod_eq_of_lt (by omega)
  have h2:(BitVec.ofInt 64 (b:Int)).toNat=b:=by
    rw[BitVec.ofInt_natCast,BitVec.toNat_ofNat];exact Nat.mod_eq_of_lt (by omega)
  refine⟨a^^^b,by omega,?_⟩
  show IntKind.i64.wrap ((BitVec.ofInt 64 (a:Int)^^^BitVec.ofInt 64 (b:Int)).toNat:Int)=_
  rw[BitVec.toNat_xor,h1,h2];simp only[IntKind.wrap,IntKind.bits,IntKind.signed];simp
  omega
theorem B4 {l:List Int} (hl: ∀x∈l,(Lit.int .u8 x).wf=true) (i:Int):0≤rd l i∧rd l i≤255:=by
  by_cases h:i.toNat<l.length
  · have e:rd l i=l[i.toNat]:=by
      show l.getD i.toNat 0=_
      rw[List.getD_eq_getElem?_getD,List.getElem?_eq_getElem h];rfl
    have:=hl _ (List.getElem_mem h);rw[←e]at this;simp only[Lit.wf,Bool.and_eq_true,decide_eq_true_eq]at this;have h3:IntKind.u8.min=0:=rfl;have h4:IntKind.u8.max=255:=rfl
    omega
  · have e:rd l i=0:=by
      show l.getD i.toNat 0=_
      rw[List.getD_eq_getElem?_getD,List.getElem?_eq_none (by omega)];rfl
    omega
theorem Bt (x n:Int) (hx:0≤x) (hn:0<n):0≤Int.tmod x n∧Int.tmod x n<n:=⟨Int.tmod_nonneg n hx,Int.tmod_lt_of_pos x hn⟩
theorem Cp (x n:Int) (hx:0≤x) (hn:0<n):0≤Int.tdiv x n∧Int.tdiv x n≤x:=by
  rw[Int.tdiv_eq_ediv_of_nonneg hx];refine⟨Int.ediv_nonneg hx (by omega),Int.ediv_le_self n hx⟩
theorem Ae (l:List Int) (hl: ∀x∈l,(Lit.int .u8 x).wf=true) (hlen:l.length≤2000) (p n:Int) (hp:0≤p) (hp2:p≤1000000):
    ∃v,0≤v∧(1≤n→v<n)∧Ev (fun k=>spec_l21Rd_pick.f k l p n) (v,p+1):=by
  unfold spec_l21Rd_pick.f
  by_cases hn:n<1
  · refine⟨0,by omega,by omega,?_⟩
    refine Ev.p hn (Ev.s ?_);simp only[spec_l21Rd_pick.j0];rw[w6 (p+1)];exact Ev.p trivial (Ev.v _)
  simp only[w64 (show-9223372036854775808≤p+1 by omega) (show p+1≤9223372036854775807 by omega),if_neg (show¬n<1 by omega)]
  have hw: ∀v:Int,-1000000000000≤v→v≤1000000000000→wrap64 v=v:=fun v h1 h2=>w64 (by omega) (by omega)
  by_cases h0:l.length=0
  · refine⟨0,by omega,by omega,?_⟩
    rw[show((l.length:Int)==0)=true from by rw[h0];rfl];refine Ev.s ?_;simp only[spec_l21Rd_pick.j0];exact Ev.p trivial (Ev.v _)
  · rw[show((l.length:Int)==0)=false from by rw[beq_eq_false_iff_ne];omega]
    by_cases h1:p<(l.length:Int)
    · have hb:=B4 hl p
      have ht:=Bt (rd l p) n hb.1 (by omega);refine⟨Int.tmod (rd l p) n,ht.1,fun _=>ht.2,?_⟩;refine Ev.s ?_;simp only[spec_l21Rd_pick.j0];rw[hw (p+1-1) (by omega) (by omega),show p+1-1=p by omega,hw (rd l p) (by omega) (by omega)];exact Ev.n (by decide) (Ev.p h1 (Ev.p hp (Ev.N (Ev.v _))))
    · have t1:=Bt p (l.length:Int) hp (by omega)
      have t2:=Bt (p*7+3) (l.length:Int) (by omega) (by omega);have t3:=Cp p (l.length:Int) hp (by omega);have b1:=B4 hl (Int.tmod p (l.length:Int));have b2:=B4 hl (Int.tmod (p*7+3) (l.length:Int));obtain⟨X,hX⟩: ∃X:Int,X=rd l (Int.tmod p (l.length:Int))*131+rd l (Int.tmod (p*7+3) (l.length:Int))*1117+p*29+Int.tdiv p (l.length:Int)*53:=⟨_,rfl⟩
      have hX0:0≤X∧X≤1000000000:=by omega
      have d1:=Cp X 64 hX0.1 (by omega);obtain⟨m,hm,hme⟩:=Ei X.toNat (Int.tdiv X 64).toNat (by omega) (by omega);rw[show((X.toNat:Nat):Int)=X by omega,show(((Int.tdiv X 64).toNat:Nat):Int)=Int.tdiv X 64 by omega]at hme;have ht:=Bt (m:Int) n (by omega) (by omega);refine⟨Int.tmod (m:Int) n,ht.1,fun _=>ht.2,?_⟩;refine Ev.s ?_;simp only[spec_l21Rd_pick.j0];rw[hw (p+1-1) (by omega) (by omega),show p+1-1=p by omega,hw (p*7) (by omega) (by omega),hw (p*7+3) (by omega) (by omega),hw (Int.tdiv p (l.length:Int)) (by omega) (by omega),hw (p*29) (by omega) (by omega),hw (Int.tdiv p (l.length:Int)*53) (by omega) (by omega),hw (rd l (Int.tmod p (l.length:Int))) (by omega) (by omega),hw (rd l (Int.tmod (p*7+3) (l.length:Int))) (by omega) (by omega),hw (rd l (Int.tmod p (l.length:Int))*131) (by omega) (by omega),hw (rd l (Int.tmod (p*7+3) (l.length:Int))*1117) (by omega) (by omega),hw (rd l (Int.tmod p (l.length:Int))*131+rd l (Int.tmod (p*7+3) (l.length:Int))*1117) (by omega) (by omega),hw (rd l (Int.tmod p (l.length:Int))*131+rd l (Int.tmod (p*7+3) (l.length:Int))*1117+p*29) (by omega) (by omega),←hX,hw X (by omega) (by omega),hw (Int.tdiv X 64) (by omega) (by omega),hme];exact Ev.n (by decide) (Ev.n h1 (Ev.N (Ev.p t1.1 (Ev.p t1.2 (Ev.p t2.1 (Ev.p t2.2 (Ev.N (Ev.v _))))))))
theorem E0 (l:List Int) (hl: ∀x∈l,(Lit.int .u8 x).wf=true): ∃l',(∀x∈l',(Lit.int .u8 x).wf=true)∧l'.length≤2000∧spec_l21Open.f l=some (l',0):=by
  unfold spec_l21Open.f
  by_cases h:(l.length:Int)>2000
  · exact⟨l.take 2000,fun x hx=>hl x (List.mem_of_mem_take hx),by rw[List.length_take];omega,by rw[if_pos h,if_pos (by omega)]⟩
  · exact⟨l,hl,by omega,by rw[if_neg h]⟩
abbrev De (l:List Int):Prop:= ∀x∈l,(Lit.int .u8 x).wf=true
def A0 (q s:Int) (n:Nat) (p P:Int) (F:Nat→Option (Int×Int×List S54×Int×Int×Int)):Prop:= ∃st f b p',st.length=n∧p≤p'∧p'≤P∧Ev F (q,s,st,f,b,p')
theorem A0.widen {q s:Int} {n:Nat} {p p2 P P2:Int} {F:Nat→Option (Int×Int×List S54×Int×Int×Int)} (h:A0 q s n p2 P2 F) (h1:p≤p2) (h2:P2≤P):A0 q s n p P F:=by
  obtain⟨st,f,b,p',e,a1,a2,h⟩:=h;exact⟨st,f,b,p',e,by omega,by omega,h⟩
theorem Cv (a b:Int): ∃v,spec_l30Less.f a b=some v:=by
  unfold spec_l30Less.f
  by_cases h:b>a
  · exact⟨_,if_pos h⟩
  · exact⟨_,if_neg h⟩
section
variable (l : List Int) (hl : De l) (hlen : l.length ≤ 2000)
include hl hlen
theorem E1 (p:Int) (hp:0≤p) (hp2:p≤900000): ∃q s,Ev (fun k=>spec_l30Kind.f k l p) (q,s,p+1+1+1):=by
  unfold spec_l30Kind.f;obtain⟨v1,_,_,h1⟩:=Ae l hl hlen p 3 hp (by omega);obtain⟨v2,_,_,h2⟩:=Ae l hl hlen (p+1) 4 (by omega) (by omega);obtain⟨v3,_,_,h3⟩:=Ae l hl hlen (p+1+1) 16 (by omega) (by omega)
  by_cases c:v3=0
  · exact⟨_,_,Ev.bind h1 (Ev.bind h2 (Ev.bind h3 (Ev.p c (Ev.v _))))⟩
  · exact⟨_,_,Ev.bind h1 (Ev.bind h2 (Ev.bind h3 (Ev.n c (Ev.v _))))⟩
theorem Dq (x y:Int): ∀(d:Nat) (i p:Int),i+(d:Int)=20→0≤i→0≤p→p+2*(d:Int)≤900000→ ∃a b p',p≤p'∧p'≤p+2*(d:Int)∧Ev (fun k=>spec_l30Step.l0 k x y i l p) (a,b,p'):=by
  intro d
  induction d with
  |zero=>
    intro i p hi h0 hp hp2
    by_cases c:x>0
    · refine⟨wrap64 (x-1),y,p,by omega,by omega,Ev.s ?_⟩
      simp only[spec_l30Step.l0];exact Ev.N (Ev.p c (Ev.v _))
    · refine⟨wrap64 (x+1),y,p,by omega,by omega,Ev.s ?_⟩
      simp only[spec_l30Step.l0];exact Ev.N (Ev.n c (Ev.v _))
  |succ d ih=>
    intro i p hi h0 hp hp2;obtain⟨v1,_,_,h1⟩:=Ae l hl hlen p 3 hp (by omega);obtain⟨v2,_,_,h2⟩:=Ae l hl hlen (p+1) 3 (by omega) (by omega);obtain⟨A,hA⟩: ∃A,A=wrap64 (wrap64 (x+v1)-1):=⟨_,rfl⟩;obtain⟨B,hB⟩: ∃B,B=wrap64 (wrap64 (y+v2)-1):=⟨_,rfl⟩;obtain⟨a,b,p',q1,q2,hr⟩:=ih (i+1) (p+1+1) (by omega) (by omega) (by omega) (by omega)
    have inner: ∃a b p',p≤p'∧p'≤p+2*((d+1:Nat):Int)∧Ev (fun k=>if decide (0≤A∧A≤15)=true then(if decide (0≤B∧B≤15)=true then some (A,B,p+1+1)else spec_l30Step.l0 k x y (i+1) l (p+1+1))else spec_l30Step.l0 k x y (i+1) l (p+1+1)) (a,b,p'):=by
      by_cases c1:decide (0≤A∧A≤15)=true
      · by_cases c2:decide (0≤B∧B≤15)=true
        · exact⟨A,B,p+1+1,by omega,by omega,Ev.p c1 (Ev.p c2 (Ev.v _))⟩
        · exact⟨a,b,p',by omega,by omega,Ev.p c1 (Ev.n c2 hr)⟩
      · exact⟨a,b,p',by omega,by omega,Ev.n c1 hr⟩
    obtain⟨a2,b2,p2,r1,r2,hr2⟩:=inner;have e1:wrap64 (i+1)=i+1:=w64 (by omega) (by omega)
    by_cases c1:A=x
    · by_cases c2:B=y
      · refine⟨a,b,p',by omega,by omega,Ev.s ?_⟩
        simp only[spec_l30Step.l0,Ax,Option.bind_some,e1];refine Ev.P (Ev.bind h1 (Ev.bind h2 ?_));simp only[←hA,←hB];exact Ev.p c1 (Ev.p c2 hr)
      · refine⟨a2,b2,p2,r1,r2,Ev.s ?_⟩
        simp only[spec_l30Step.l0,Ax,Option.bind_some,e1];refine Ev.P (Ev.bind h1 (Ev.bind h2 ?_));simp only[←hA,←hB];exact Ev.p c1 (Ev.n c2 hr2)
    · refine⟨a2,b2,p2,r1,r2,Ev.s ?_⟩
      simp only[spec_l30Step.l0,Ax,Option.bind_some,e1];refine Ev.P (Ev.bind h1 (Ev.bind h2 ?_));simp only[←hA,←hB];exact Ev.n c1 hr2
theorem E2 (x y p:Int) (hp:0≤p) (hp2:p≤800000): ∃a b p',p≤p'∧p'≤p+40∧Ev (fun k=>spec_l30Step.f k l p x y) (a,b,p'):=by
  unfold spec_l30Step.f;obtain⟨a,b,p',h1,h2,h⟩:=Dq l hl hlen x y 20 0 p (by omega) (by omega) hp (by omega);exact⟨a,b,p',h1,by omega,h⟩
theorem Dr (q s n a3 a4:Int) (hn:n≤1000): ∀(d:Nat) (i x4 x5 x6 x7:Int) (st:List S54) (p:Int),i+(d:Int)=n→0≤i→st.length+d≤1000→0≤p→p+60*((d:Int)+1)≤800000→
    A0 q s (st.length+d) p (p+60*((d:Int)+1)) (fun k=>spec_l30Path.l0 k x4 x5 x6 x7 n i l p q s st a3 a4):=by
  intro d
  induction d with
  |zero=>
    intro i x4 x5 x6 x7 st p hi h0 hs hp hp2;obtain⟨v1,_,_,h1⟩:=Ae l hl hlen p 5 hp (by omega);obtain⟨t1,ht1⟩:=Cv x4 v1;obtain⟨v2,_,_,h2⟩:=Ae l hl hlen (p+1) 9 (by omega) (by omega);refine⟨st,t1,wrap64 (x4+v2),p+1+1,rfl,by omega,by omega,Ev.s ?_⟩;simp only[spec_l30Path.l0];exact Ev.N (Ev.bind h1 (Ev.bind (Ev.k ht1) (Ev.bind h2 (Ev.v _))))
  |succ d ih=>
    intro i x4 x5 x6 x7 st p hi h0 hs hp hp2;have e1:wrap64 (i+1)=i+1:=w64 (by omega) (by omega)
    have fin: ∀ {P Q:Int} {m:Nat} {F:Nat→Option (Int×Int×List S54×Int×Int×Int)},A0 q s m P Q F→m=st.length+(d+1)→p≤P→Q≤p+60*(((d+1:Nat):Int)+1)→A0 q s (st.length+(d+1)) p (p+60*(((d+1:Nat):Int)+1)) F:=by
      intro P Q m F h e1 e2 e3;rw[←e1];exact h.widen e2 e3
    have j4: ∀(y:List S54) (pp x11 z0 z1 z2 z3 z4 z5:Int) (z6:Bool),y.length=st.length+1→p≤pp→pp≤p+15→A0 q s (st.length+(d+1)) p (p+60*(((d+1:Nat):Int)+1)) (fun k=>spec_l30Path.j4 k x4 x5 x6 n i x11 l pp q s y a3 a4 z0 z1 z2 z3 z4 z5 z6):=by
      intro y pp x11 z0 z1 z2 z3 z4 z5 z6 hy h1 h2;obtain⟨a,b,p1,r1,r2,hst⟩:=E2 l hl hlen x5 x6 pp (by omega) (by omega);obtain⟨v,_,_,hv⟩:=Ae l hl hlen p1 2 (by omega) (by omega);obtain⟨t,ht⟩:=Cv z3 v
      have next: ∀x7':Int,A0 q s (st.length+(d+1)) p (p+60*(((d+1:Nat):Int)+1)) (fun k=>spec_l30Path.l0 k (wrap64 (x4+x11)) a b x7' n (i+1) l (p1+1) q s y a3 a4):=fun x7'=>
        fin (ih (i+1) (wrap64 (x4+x11)) a b x7' y (p1+1) (by omega) (by omega) (by omega) (by omega) (by omega)) (by omega) (by omega) (by omega)
      by_cases c:t>3
      · obtain⟨st',f,b',p',g1,g2,g3,hr⟩:=next 3
        refine⟨st',f,b',p',g1,g2,g3,Ev.s ?_⟩;simp only[spec_l30Path.j4,e1];exact Ev.bind hst (Ev.bind hv (Ev.bind (Ev.k ht) (Ev.p c hr)))
      · obtain⟨st',f,b',p',g1,g2,g3,hr⟩:=next t
        refine⟨st',f,b',p',g1,g2,g3,Ev.s ?_⟩;simp only[spec_l30Path.j4,e1];exact Ev.bind hst (Ev.bind hv (Ev.bind (Ev.k ht) (Ev.n c hr)))
    have j3: ∀(y:List S54) (pp x11 z0 z1 z2 z3 z4 z5:Int) (z6 c:Bool),y.length=st.length+1→p≤pp→pp≤p+14→A0 q s (st.length+(d+1)) p (p+60*(((d+1:Nat):Int)+1)) (fun k=>spec_l30Path.j3 k x4 x5 x6 n i x11 c l pp q s y a3 a4 z0 z1 z2 z3 z4 z5 z6):=by
      intro y pp x11 z0 z1 z2 z3 z4 z5 z6 c hy h1 h2
      cases c with
      |true=>
        obtain⟨v,_,_,hv⟩:=Ae l hl hlen pp 20 (by omega) (by omega);obtain⟨st',f,b',p',g1,g2,g3,hr⟩:=j4 y (pp+1) (wrap64 (q+v)) z0 z1 z2 z3 z4 z5 z6 hy (by omega) (by omega);refine⟨st',f,b',p',g1,g2,g3,Ev.s ?_⟩;simp only[spec_l30Path.j3];exact Ev.p (by first|rfl|trivial) (Ev.bind hv hr)
      |false=>
        obtain⟨st',f,b',p',g1,g2,g3,hr⟩:=j4 y pp x11 z0 z1 z2 z3 z4 z5 z6 hy (by omega) (by omega);refine⟨st',f,b',p',g1,g2,g3,Ev.s ?_⟩;simp only[spec_l30Path.j3];exact Ev.n (by decide) hr
    have j2: ∀(pp z0 z1 z2 z3 z4 z5:Int) (z6:Bool),p≤pp→pp≤p+10→A0 q s (st.length+(d+1)) p (p+60*(((d+1:Nat):Int)+1)) (fun k=>spec_l30Path.j2 k x4 x5 x6 n i l pp q s st a3 a4 z0 z1 z2 z3 z4 z5 z6):=by
      intro pp z0 z1 z2 z3 z4 z5 z6 h1 h2;obtain⟨v,_,_,hv⟩:=Ae l hl hlen pp (wrap64 ((wrap64 (s-q))+1)) (by omega) (by omega)
      have hy:(st++[(⟨z0,z1,z2,z3,z4,z5,z6⟩:S54)]).length=st.length+1:=by simp
      cases z6 with
      |true=>
        obtain⟨u,_,_,hu⟩:=Ae l hl hlen (pp+1) 2 (by omega) (by omega);obtain⟨st',f,b',p',g1,g2,g3,hr⟩:=j3 (st++[(⟨z0,z1,z2,z3,z4,z5,true⟩:S54)]) (pp+1+1) (wrap64 (q+v)) z0 z1 z2 z3 z4 z5 true (u==0) hy (by omega) (by omega);refine⟨st',f,b',p',g1,g2,g3,Ev.s ?_⟩;simp only[spec_l30Path.j2,Option.bind_some];exact Ev.P (Ev.bind hv (Ev.p (by first|rfl|trivial) (Ev.bind hu hr)))
      |false=>
        obtain⟨st',f,b',p',g1,g2,g3,hr⟩:=j3 (st++[(⟨z0,z1,z2,z3,z4,z5,false⟩:S54)]) (pp+1) (wrap64 (q+v)) z0 z1 z2 z3 z4 z5 false false hy (by omega) (by omega);refine⟨st',f,b',p',g1,g2,g3,Ev.s ?_⟩;simp only[spec_l30Path.j2,Option.bind_some];exact Ev.P (Ev.bind hv (Ev.n (by decide) hr))
    obtain⟨v1,_,_,h1⟩:=Ae l hl hlen p 3 hp (by omega);obtain⟨v2,_,_,h2⟩:=Ae l hl hlen (p+1) 6 (by omega) (by omega);obtain⟨t1,ht1⟩:=Cv x4 v2;obtain⟨v3,_,_,h3⟩:=Ae l hl hlen (p+1+1) 8 (by omega) (by omega);obtain⟨v4,_,_,h4⟩:=Ae l hl hlen (p+1+1+1) 6 (by omega) (by omega);obtain⟨v5,_,_,h5⟩:=Ae l hl hlen (p+1+1+1+1) 3 (by omega) (by omega)
    by_cases c:v5=0
    · obtain⟨v6,_,_,h6⟩:=Ae l hl hlen (p+1+1+1+1+1) 90 (by omega) (by omega)
      obtain⟨st',f,b',p',g1,g2,g3,hr⟩:=j2 (p+1+1+1+1+1+1) x5 x6 x7 (wrap64 (x7+v1)) 0 (wrap64 (x4+v6)) (v4==0) (by omega) (by omega);refine⟨st',f,b',p',g1,g2,g3,Ev.s ?_⟩;simp only[spec_l30Path.l0];exact Ev.P (Ev.bind h1 (Ev.bind h2 (Ev.bind (Ev.k ht1) (Ev.bind h3 (Ev.bind h4 (Ev.bind h5 (Ev.p c (Ev.bind h6 hr))))))))
    · obtain⟨st',f,b',p',g1,g2,g3,hr⟩:=j2 (p+1+1+1+1+1) x5 x6 x7 (wrap64 (x7+v1)) t1 (wrap64 (x4+v3)) (v4==0) (by omega) (by omega)
      refine⟨st',f,b',p',g1,g2,g3,Ev.s ?_⟩;simp only[spec_l30Path.l0];exact Ev.P (Ev.bind h1 (Ev.bind h2 (Ev.bind (Ev.k ht1) (Ev.bind h3 (Ev.bind h4 (Ev.bind h5 (Ev.n c hr)))))))
theorem E3 (p:Int) (hp:0≤p) (hp2:p≤100000): ∃q s st f b p',1≤st.length∧st.length≤40∧p≤p'∧p'≤p+3000∧Ev (fun k=>spec_l30Path.f k l p) (q,s,st,f,b,p'):=by
  unfold spec_l30Path.f;obtain⟨q,s,h0⟩:=E1 l hl hlen p hp (by omega);obtain⟨v1,_,_,h1⟩:=Ae l hl hlen (p+1+1+1) 30 (by omega) (by omega);obtain⟨v2,_,_,h2⟩:=Ae l hl hlen (p+1+1+1+1) 16 (by omega) (by omega);obtain⟨v3,_,_,h3⟩:=Ae l hl hlen (p+1+1+1+1+1) 16 (by omega) (by omega);obtain⟨v4,_,_,h4⟩:=Ae l hl hlen (p+1+1+1+1+1+1) 4 (by omega) (by omega);obtain⟨v5,a5,b5,h5⟩:=Ae l hl hlen (p+1+1+1+1+1+1+1) 8 (by omega) (by omega);obtain⟨v6,_,_,h6⟩:=Ae l hl hlen (p+1+1+1+1+1+1+1+1) 24 (by omega) (by omega)
  have go: ∀(n pp:Int),1≤n→n≤40→p≤pp→pp≤p+20→ ∃st f b p',1≤st.length∧st.length≤40∧p≤p'∧p'≤p+3000∧Ev (fun k=>spec_l30Path.j0 k v1 v2 v3 v4 n l pp q s 0 0) (q,s,st,f,b,p'):=by
    intro n pp hn1 hn2 hpp hpp2;obtain⟨d,hd⟩: ∃d:Nat,(d:Int)=n:=⟨n.toNat,by omega⟩;obtain⟨st,f,b,p',g1,g2,g3,hr⟩:=Dr l hl hlen q s n 0 0 (by omega) d 0 v1 v2 v3 v4 [] pp (by omega) (by omega) (by simp only[List.length_nil];omega) (by omega) (by omega);simp only[List.length_nil]at g1;refine⟨st,f,b,p',by omega,by omega,by omega,by omega,Ev.s ?_⟩;simp only[spec_l30Path.j0];exact hr
  by_cases c:v6=0
  · obtain⟨v7,a7,b7,h7⟩:=Ae l hl hlen (p+1+1+1+1+1+1+1+1+1) 2 (by omega) (by omega)
    have:=b7 (by omega);obtain⟨st,f,b,p',g1,g2,g3,g4,hr⟩:=go (40-v7) (p+1+1+1+1+1+1+1+1+1+1) (by omega) (by omega) (by omega) (by omega);refine⟨q,s,st,f,b,p',g1,g2,g3,g4,Ev.bind h0 (Ev.bind h1 (Ev.bind h2 (Ev.bind h3 (Ev.bind h4 (Ev.bind h5 (Ev.bind h6 (Ev.p c (Ev.bind h7 ?_))))))))⟩
    show Ev (fun k=>spec_l30Path.j0 k v1 v2 v3 v4 (wrap64 (40-v7)) l _ q s 0 0) _
    rw[w64 (by omega) (by omega)];exact hr
  · have:=b5 (by omega)
    obtain⟨st,f,b,p',g1,g2,g3,g4,hr⟩:=go (1+v5) (p+1+1+1+1+1+1+1+1+1) (by omega) (by omega) (by omega) (by omega);refine⟨q,s,st,f,b,p',g1,g2,g3,g4,Ev.bind h0 (Ev.bind h1 (Ev.bind h2 (Ev.bind h3 (Ev.bind h4 (Ev.bind h5 (Ev.bind h6 (Ev.n c ?_)))))))⟩
    show Ev (fun k=>spec_l30Path.j0 k v1 v2 v3 v4 (wrap64 (1+v5)) l _ q s 0 0) _
    rw[w64 (by omega) (by omega)];exact hr
theorem Ds (q s f b:Int): ∀(d:Nat) (st:List S54) (p:Int),1≤st.length→0≤p→p+(d:Int)≤800000→st.length+d=41→ ∃r p',r.length≤41∧p≤p'∧p'≤p+(d:Int)+1∧Ev (fun k=>spec_l30Spoil.l0 k l p q s st f b) (q,s,r,f,b,p'):=by
  intro d
  induction d with
  |zero=>
    intro st p h1 hp hp2 hd;obtain⟨v,_,c1,hv⟩:=Ae l hl hlen p 2 hp (by omega);have:=c1 (by omega);refine⟨st,p+1,by omega,by omega,by omega,Ev.s ?_⟩;simp only[spec_l30Spoil.l0];refine Ev.bind hv (Ev.n ?_ (Ev.v _))
    show¬(st.length:Int)<wrap64 (40+v)
    rw[w64 (by omega) (by omega)];omega
  |succ d ih=>
    intro st p h1 hp hp2 hd;obtain⟨v,v0,c1,hv⟩:=Ae l hl hlen p 2 hp (by omega);have:=c1 (by omega);have el:wrap64 ((st.length:Int)-1)=(st.length:Int)-1:=w64 (by omega) (by omega)
    by_cases hc:(st.length:Int)<40+v
    · have hc':(st.length:Int)<wrap64 (40+v):=by rw[w64 (by omega) (by omega)];exact hc
      by_cases cx:(rd_T54 st ((st.length:Int)-1)).f0>0
      · obtain⟨r,p',g1,g2,g3,hr⟩:=ih (st++[(⟨wrap64 (((rd_T54 st ((st.length:Int)-1)).f0)-1),(rd_T54 st ((st.length:Int)-1)).f1,(rd_T54 st ((st.length:Int)-1)).f2,(rd_T54 st ((st.length:Int)-1)).f3,(rd_T54 st ((st.length:Int)-1)).f4,(rd_T54 st ((st.length:Int)-1)).f5,(rd_T54 st ((st.length:Int)-1)).f6⟩:S54)]) (p+1) (by simp) (by omega) (by omega) (by simp;omega)
        refine⟨r,p',g1,by omega,by omega,Ev.s ?_⟩;simp only[spec_l30Spoil.l0,el];exact Ev.bind hv (Ev.p hc' (Ev.P (Ev.P (Ev.p cx (Ev.p (by omega) hr)))))
      · obtain⟨r,p',g1,g2,g3,hr⟩:=ih (st++[(⟨wrap64 (((rd_T54 st ((st.length:Int)-1)).f0)+1),(rd_T54 st ((st.length:Int)-1)).f1,(rd_T54 st ((st.length:Int)-1)).f2,(rd_T54 st ((st.length:Int)-1)).f3,(rd_T54 st ((st.length:Int)-1)).f4,(rd_T54 st ((st.length:Int)-1)).f5,(rd_T54 st ((st.length:Int)-1)).f6⟩:S54)]) (p+1) (by simp) (by omega) (by omega) (by simp;omega)
        refine⟨r,p',g1,by omega,by omega,Ev.s ?_⟩;simp only[spec_l30Spoil.l0,el];exact Ev.bind hv (Ev.p hc' (Ev.P (Ev.P (Ev.n cx (Ev.p (by omega) hr)))))
    · refine⟨st,p+1,by omega,by omega,by omega,Ev.s ?_⟩
      simp only[spec_l30Spoil.l0];refine Ev.bind hv (Ev.n ?_ (Ev.v _))
      show¬(st.length:Int)<wrap64 (40+v)
      rw[w64 (by omega) (by omega)];exact hc
theorem En (q s:Int) (st:List S54) (f b:Int) (hs1:1≤st.length) (hs2:st.length≤40) (p:Int) (hp:0≤p) (hp2:p≤100000): ∃q' s' st' f' b' p',st'.length≤41∧p≤p'∧p'≤p+100∧Ev (fun k=>spec_l30Spoil.f k l p q s st f b) (q',s',st',f',b',p'):=by
  unfold spec_l30Spoil.f spec_l22Copy.f;simp only[Option.bind_some,List.nil_append,if_pos (show([]:List S54).length+st.length<2513169434916 by simp only[List.length_nil];omega)];obtain⟨i,i0,i1,h1⟩:=Ae l hl hlen p (st.length:Int) hp (by omega);have hi:=i1 (by omega);obtain⟨v,_,_,h2⟩:=Ae l hl hlen (p+1) 12 (by omega) (by omega)
  have hset: ∀(n:Nat) (z:S54),(st.set n z).length≤41:=fun n z=>by rw[List.length_set];omega
  have el:wrap64 ((st.length:Int)-1)=(st.length:Int)-1:=w64 (by omega) (by omega)
  have pk:=fun n=>Ae l hl hlen (p+1+1) n (by omega) (by omega)
  obtain⟨w5,_,_,h5⟩:=pk 5;obtain⟨w3,a3,b3,h3⟩:=pk 3;obtain⟨w6,_,_,h6⟩:=pk 6;obtain⟨w9,_,_,h9⟩:=pk 9;obtain⟨w4,a4,b4,h4⟩:=pk 4;have b3:=b3 (by omega);have b4:=b4 (by omega)
  by_cases c0:v=0
  · exact⟨_,_,st,_,_,p+1+1+1,by omega,by omega,by omega,Ev.bind h1 (Ev.bind h2 (Ev.p c0 (Ev.bind h5 (Ev.v _))))⟩
  by_cases c1:v=1
  · exact⟨_,_,_,_,_,p+1+1+1,hset _ _,by omega,by omega,Ev.bind h1 (Ev.bind h2 (Ev.n c0 (Ev.p c1 (Ev.p i0 (Ev.p hi (Ev.bind h3 (Ev.p a3 (Ev.p (by simp only[List.length_cons,List.length_nil];omega) (Ev.v _)))))))))⟩
  by_cases c2:v=2
  · exact⟨_,_,_,_,_,p+1+1+1,hset _ _,by omega,by omega,Ev.bind h1 (Ev.bind h2 (Ev.n c0 (Ev.n c1 (Ev.p c2 (Ev.bind h6 (Ev.p i0 (Ev.p hi (Ev.v _))))))))⟩
  by_cases c3:v=3
  · exact⟨_,_,_,_,_,p+1+1+1,hset _ _,by omega,by omega,Ev.bind h1 (Ev.bind h2 (Ev.n c0 (Ev.n c1 (Ev.n c2 (Ev.p c3 (Ev.bind h9 (Ev.p i0 (Ev.p hi (Ev.v _)))))))))⟩
  by_cases c4:v=4
  · exact⟨_,_,_,_,_,p+1+1+1,hset _ _,by omega,by omega,Ev.bind h1 (Ev.bind h2 (Ev.n c0 (Ev.n c1 (Ev.n c2 (Ev.n c3 (Ev.p c4 (Ev.p i0 (Ev.p hi (Ev.bind h3 (Ev.p a3 (Ev.p (by simp only[List.length_cons,List.length_nil];omega) (Ev.v _))))))))))))⟩
  by_cases c5:v=5
  · exact⟨_,_,_,_,_,p+1+1+1,hset _ _,by omega,by omega,Ev.bind h1 (Ev.bind h2 (Ev.n c0 (Ev.n c1 (Ev.n c2 (Ev.n c3 (Ev.n c4 (Ev.p c5 (Ev.p i0 (Ev.p hi (Ev.bind h4 (Ev.p a4 (Ev.p (by simp only[List.length_cons,List.length_nil];omega) (Ev.v _)))))))))))))⟩
  by_cases c6:v=6
  · exact⟨_,_,st,_,_,p+1+1+1,by omega,by omega,by omega,Ev.bind h1 (Ev.bind h2 (Ev.n c0 (Ev.n c1 (Ev.n c2 (Ev.n c3 (Ev.n c4 (Ev.n c5 (Ev.p c6 (Ev.bind h3 (Ev.v _))))))))))⟩
  by_cases c7:v=7
  · exact⟨_,_,st,_,_,p+1+1+1,by omega,by omega,by omega,Ev.bind h1 (Ev.bind h2 (Ev.n c0 (Ev.n c1 (Ev.n c2 (Ev.n c3 (Ev.n c4 (Ev.n c5 (Ev.n c6 (Ev.p c7 (Ev.bind h4 (Ev.p a4 (Ev.p (by simp only[List.length_cons,List.length_nil];omega) (Ev.v _)))))))))))))⟩
  by_cases c8:v=8
  · exact⟨_,_,st.take i.toNat,_,_,p+1+1,by rw[List.length_take];omega,by omega,by omega,Ev.bind h1 (Ev.bind h2 (Ev.n c0 (Ev.n c1 (Ev.n c2 (Ev.n c3 (Ev.n c4 (Ev.n c5 (Ev.n c6 (Ev.n c7 (Ev.p c8 (Ev.p i0 (Ev.P (Ev.v _)))))))))))))⟩
  by_cases c9:v=9
  · obtain⟨r,p',g1,g2,g3,hr⟩:=Ds l hl hlen q s f b (41-st.length) st (p+1+1) hs1 (by omega) (by omega) (by omega)
    exact⟨_,_,r,_,_,p',g1,by omega,by omega,Ev.bind h1 (Ev.bind h2 (Ev.n c0 (Ev.n c1 (Ev.n c2 (Ev.n c3 (Ev.n c4 (Ev.n c5 (Ev.n c6 (Ev.n c7 (Ev.n c8 (Ev.p c9 hr)))))))))))⟩
  by_cases c10:v=10
  · exact⟨_,_,_,_,_,p+1+1,hset _ _,by omega,by omega,Ev.bind h1 (Ev.bind h2 (Ev.n c0 (Ev.n c1 (Ev.n c2 (Ev.n c3 (Ev.n c4 (Ev.n c5 (Ev.n c6 (Ev.n c7 (Ev.n c8 (Ev.n c9 (Ev.p c10 (Ev.p i0 (Ev.p hi (Ev.v _)))))))))))))))⟩
  · simp only[el]
    refine⟨_,_,st++[(⟨(rd_T54 st ((st.length:Int)-1)).f0,(rd_T54 st ((st.length:Int)-1)).f1,(rd_T54 st ((st.length:Int)-1)).f2,(rd_T54 st ((st.length:Int)-1)).f3,(rd_T54 st ((st.length:Int)-1)).f4,(rd_T54 st ((st.length:Int)-1)).f5,(rd_T54 st ((st.length:Int)-1)).f6⟩:S54)],_,_,p+1+1,by simp;omega,by omega,by omega,Ev.bind h1 (Ev.bind h2 (Ev.n c0 (Ev.n c1 (Ev.n c2 (Ev.n c3 (Ev.n c4 (Ev.n c5 (Ev.n c6 (Ev.n c7 (Ev.n c8 (Ev.n c9 (Ev.n c10 (Ev.P (Ev.P (Ev.P (Ev.v _))))))))))))))))⟩
end
theorem E4 (q s:Int) (st:List S54) (f b:Int) (hs:st.length≤40): ∃q' s' st' f' b',st'.length≤40∧Ev (fun k=>spec_l30Late.f k q s st f b) (q',s',st',f',b'):=by
  unfold spec_l30Late.f
  have loop: ∀(d i:Nat) (m:Int),i+d=st.length→ ∃q' s' st' f' b',st'.length≤40∧Ev (fun k=>spec_l30Late.l0 k m (i:Int) q s st f b) (q',s',st',f',b'):=by
    intro d
    induction d with
    |zero=>
      intro i m hi;have hsh:=D8 q s st f b (wrap64 (10000-m));have hle:=Cu q s st f b (wrap64 (10000-m))
      by_cases c:(Az q s st f b (wrap64 (10000-m))).2.2.2.2.2=true
      · refine⟨(Az q s st f b (wrap64 (10000-m))).1,(Az q s st f b (wrap64 (10000-m))).2.1,(Az q s st f b (wrap64 (10000-m))).2.2.1,(Az q s st f b (wrap64 (10000-m))).2.2.2.1,(Az q s st f b (wrap64 (10000-m))).2.2.2.2.1,by omega,Ev.s ?_⟩
        simp only[spec_l30Late.l0];exact Ev.N (Ev.bind hsh (Ev.p c (Ev.v _)))
      · refine⟨q,s,st,f,b,hs,Ev.s ?_⟩
        simp only[spec_l30Late.l0];exact Ev.N (Ev.bind hsh (Ev.n c (Ev.v _)))
    |succ d ih=>
      intro i m hi;obtain⟨q',s',st',f',b',g,hr⟩:=ih (i+1) (max m (rd_T54 st (i:Int)).f5) (by omega);refine⟨q',s',st',f',b',g,Ev.s ?_⟩;simp only[spec_l30Late.l0,Bj,Option.bind_some];rw[w64 (by omega) (by omega)];rw[show(((i+1:Nat)):Int)=(i:Int)+1 by omega]at hr;exact Ev.P (Ev.p (by omega) hr)
  exact loop st.length 0 b (by omega)
theorem E8 (l:List Int) (hl:De l) (hlen:l.length≤2000): ∃q s st f b p,st.length≤41∧0≤p∧p≤4000∧Ev (fun k=>spec_l30Any.f k l 0) (q,s,st,f,b,p):=by
  unfold spec_l30Any.f;obtain⟨q,s,st,f,b,p,g1,g2,g3,g4,h⟩:=E3 l hl hlen 0 (by omega) (by omega);obtain⟨v,_,_,h1⟩:=Ae l hl hlen p 12 (by omega) (by omega)
  by_cases c0:v=0
  · obtain⟨q',s',st',f',b',p',r1,r2,r3,hr⟩:=En l hl hlen q s st f b g1 g2 (p+1) (by omega) (by omega)
    exact⟨q',s',st',f',b',p',r1,by omega,by omega,Ev.bind h (Ev.bind h1 (Ev.p c0 (Ev.bind hr (Ev.v _))))⟩
  by_cases c1:v=1
  · obtain⟨q',s',st',f',b',r1,hr⟩:=E4 q s st f b g2
    exact⟨q',s',st',f',b',p+1,by omega,by omega,by omega,Ev.bind h (Ev.bind h1 (Ev.n c0 (Ev.p c1 (Ev.bind hr (Ev.v _)))))⟩
  · exact⟨q,s,st,f,b,p+1,by omega,by omega,by omega,Ev.bind h (Ev.bind h1 (Ev.n c0 (Ev.n c1 (Ev.v _))))⟩
theorem Eo (l0:List Int) (hl:De l0) (hlen:l0.length≤2000) (q s:Int) (l:List S54) (f b p:Int) (hp:0≤p) (hp2:p≤100000):
    ∃a p',a.length≤100∧0≤p'∧p'≤p+41∧Ev (fun k=>spec_l30Asked.f k l0 p q s l f b) (a,p'):=by
  have hL:(Bk q s l f b).1.length≤41:=Cr q s l f b;obtain⟨x,hx⟩: ∃x,x=(Bk q s l f b).1:=⟨_,rfl⟩;obtain⟨o,ho⟩: ∃o,o=(Bk q s l f b).2:=⟨_,rfl⟩;rw[←hx]at hL
  have loop: ∀(d i:Nat) (a:List Int) (p:Int),i+d=x.length→a.length=i→0≤p→p+(d:Int)≤900000→ ∃r p',r.length≤100∧0≤p'∧p'≤p+(d:Int)∧Ev (fun k=>spec_l30Asked.l0 k a x o (i:Int) l0 p) (r,p'):=by
    intro d
    induction d with
    |zero=>
      intro i a p hi ha h0 h1;refine⟨a,p,by omega,h0,by omega,Ev.s ?_⟩;simp only[spec_l30Asked.l0]
      by_cases c:o=true
      · exact Ev.p c (Ev.N (Ev.v _))
      · exact Ev.n c (Ev.v _)
    |succ d ih=>
      intro i a p hi ha h0 h1
      by_cases c:o=true
      · obtain⟨v,_,_,hv⟩:=Ae l0 hl hlen p (wrap64 ((wrap64 (1+((rd_T32 x (i:Int)).f1)))-((rd_T32 x (i:Int)).f0))) h0 (by omega)
        obtain⟨r,p',r1,r2,r3,hr⟩:=ih (i+1) (a++[wrap64 (((rd_T32 x (i:Int)).f0)+v)]) (p+1) (by omega) (by rw[List.length_append,List.length_singleton];omega) (by omega) (by omega);rw[show(((i+1:Nat)):Int)=(i:Int)+1 by omega]at hr;refine⟨r,p',r1,r2,by omega,Ev.s ?_⟩;simp only[spec_l30Asked.l0];rw[w6 ((i:Int)+1)];exact Ev.p c (Ev.P (Ev.P (Ev.bind hv (Ev.p (by omega) hr))))
      · refine⟨a,p,by omega,h0,by omega,Ev.s ?_⟩
        simp only[spec_l30Asked.l0];exact Ev.n c (Ev.v _)
  obtain⟨r,p',r1,r2,r3,hr⟩:=loop x.length 0 [] p (by omega) rfl hp (by omega);refine⟨r,p',r1,r2,by omega,?_⟩;unfold spec_l30Asked.f;refine Ev.bind (El q s l f b) ?_;rw[←hx,←ho];exact hr
theorem D9 (q s:Int) (l:List S54) (f b:Int) (asked:List Int) (hn:asked.length≤1048576): ∀x∈(goOf q s l f b [] asked).1,0≤x∧x≤10000:=by
  unfold goOf
  cases As q s l f b asked (l.length+1-([]:List Int).length) 0 []with
  |none=>intro x hx;cases hx
  |some out=>
    unfold A1
    by_cases h:Ap q s l f b out=true
    · simp only[if_pos h]
      have hp:Af q s l f b=true:=by unfold Ap at h;rw[Bool.and_eq_true]at h;exact h.1
      obtain⟨hl,hf⟩:=C6 h;intro x hx;obtain⟨k,hk,e⟩:=List.mem_iff_getElem.1 hx;have h1:loAt l f (k:Int)≤rd out (k:Int)∧rd out (k:Int)≤hiAt l b (k:Int):=hf.1 k (by omega);have h2:=Au hp k;rw[D2 out k hk,e]at h1
      omega
    · simp only[if_neg h]
      intro x hx;cases hx
theorem Ep (x:Int):I64 (wrap64 x):=by unfold I64 wrap64;omega
theorem E5 (l0:List Int) (hl0:De l0): ∃q s st f b beg,st.length≤41∧beg.length≤41∧(∀x∈beg,I64 x)∧Ev (fun k=>spec_DrawFlyNext.f k l0) (q,s,st,f,b,beg):=by
  unfold spec_DrawFlyNext.f;obtain⟨l,hl,hlen,ho⟩:=E0 l0 hl0;obtain⟨q,s,st,f,b,p,g1,g2,g3,h⟩:=E8 l hl hlen;obtain⟨a,p1,a1,a2,a3,ha⟩:=Eo l hl hlen q s st f b p g2 (by omega);have hg:=Es q s st f b [] a (by simp) (by omega) (fun x hx=>by cases hx) (by omega);have gl:(goOf q s st f b [] a).1.length≤41:=Di _ _ _ _ _ _;have gr:=D9 q s st f b a (by omega);obtain⟨y,hy⟩: ∃y,y=(goOf q s st f b [] a).1:=⟨_,rfl⟩;obtain⟨v,v1,v2,hv⟩:=Ae l hl hlen p1 ((y.length:Int)+1) a2 (by omega);rw[←hy]at gl gr;have v3:=v2 (by omega)
  have tl:(y.take v.toNat).length≤y.length:=by rw[List.length_take];omega
  have tm: ∀x∈y.take v.toNat,0≤x∧x≤10000:=fun x hx=>gr x (List.mem_of_mem_take hx)
  obtain⟨z,hz⟩: ∃z,z=y.take v.toNat:=⟨_,rfl⟩;rw[←hz]at tl tm
  have zI: ∀x∈z,I64 x:=fun x hx=>by have:=tm x hx;unfold I64;omega
  have last: ∀(c:Bool) (p:Int),0≤p→p≤100000→(c=true→0<z.length)→ ∃beg,beg.length≤41∧(∀x∈beg,I64 x)∧Ev (fun k=>spec_DrawFlyNext.j0 k z c l p q s st f b) (q,s,st,f,b,beg):=by
    intro c p h0 h1 hc
    by_cases e:c=true
    · obtain⟨i,i1,i2,hi⟩:=Ae l hl hlen p (z.length:Int) h0 (by omega)
      obtain⟨j,j1,j2,hj⟩:=Ae l hl hlen (p+1) 7 (by omega) (by omega);have i3:=i2 (by have:=hc e;omega);refine⟨z.set i.toNat (wrap64 (wrap64 (rd z i+j)-3)),by rw[List.length_set];omega,fun x hx=>?_,Ev.s ?_⟩
      · rcases List.mem_or_eq_of_mem_set hx with h|h
        · exact zI x h
        · rw[h];exact Ep _
      · simp only[spec_DrawFlyNext.j0]
        exact Ev.p e (Ev.bind hi (Ev.p i1 (Ev.p i3 (Ev.bind hj (Ev.v _)))))
    · refine⟨z,by omega,zI,Ev.s ?_⟩
      simp only[spec_DrawFlyNext.j0];exact Ev.n e (Ev.v _)
  by_cases hz0:(z.length:Int)>0
  · obtain⟨u,u1,u2,hu⟩:=Ae l hl hlen (p1+1) 4 (by omega) (by omega)
    obtain⟨beg,b1,b2,hb⟩:=last (u==0) (p1+1+1) (by omega) (by omega) (fun _=>by omega);refine⟨q,s,st,f,b,beg,g1,b1,b2,Ev.bind (Ev.k ho) (Ev.bind h (Ev.bind ha (Ev.bind hg (Ev.bind (Ev.v _) ?_))))⟩;rw[←hy,w6 ((y.length:Int)+1)];refine Ev.bind hv (Ev.p v1 (Ev.P (Ev.bind (Ev.v _) (Ev.p (by rw[←hz];simp only[List.length_nil];omega) (Ev.bind (Ev.v _) ?_)))));rw[List.nil_append,←hz];exact Ev.p hz0 (Ev.bind hu hb)
  · obtain⟨beg,b1,b2,hb⟩:=last false (p1+1) (by omega) (by omega) (fun e=>by cases e)
    refine⟨q,s,st,f,b,beg,g1,b1,b2,Ev.bind (Ev.k ho) (Ev.bind h (Ev.bind ha (Ev.bind hg (Ev.bind (Ev.v _) ?_))))⟩;rw[←hy,w6 ((y.length:Int)+1)];refine Ev.bind hv (Ev.p v1 (Ev.P (Ev.bind (Ev.v _) (Ev.p (by rw[←hz];simp only[List.length_nil];omega) (Ev.bind (Ev.v _) ?_)))));rw[List.nil_append,←hz];exact Ev.n hz0 hb
section
variable {q s : Int} {l : List S54} {f b L H : Int} {beg : List Int} (hl : l.length ≤ 41) (hb : beg.length ≤ 41) (hI : ∀ x ∈ beg, I64 x) (hn : Aa q s l f b beg = (L, H, true))
include hl hb hI hn
omit hl hb in
theorem E6 (d:Int) (hd:d= -1∨d=0∨d=1) {r:Nat→Option Bool} {v:Bool} (hr:Ev r v):
    Ev (fun k=>laws_FnFlyNext.cond k q s l f b (goOf q s l f b (beg++[L+d]) []).1 (goOf q s l f b (beg++[L+d]) []).2 (goOf q s l f b (beg++[H+d]) []).1 (goOf q s l f b (beg++[H+d]) []).2 d L H (r k)) v:=by
  have hrange:0≤L∧L≤H∧H≤10000:=by
    have:=B3 hI (show(Aa q s l f b beg).2.2=true by rw[hn]);rw[hn]at this;exact this
  have hp:Af q s l f b=true:=by
    unfold Aa at hn
    by_cases c:Af q s l f b=true∧beg.length≤l.length
    · exact c.1
    · rw[if_neg c]at hn;cases hn
  unfold laws_FnFlyNext.cond;rw[w6 (L+d),w6 (H+d)]
  have second:Ev (fun k=>laws_FnFlyNext.cond2 k q s l f b (goOf q s l f b (beg++[H+d]) []).1 (goOf q s l f b (beg++[H+d]) []).2 (r k)) v:=by
    unfold laws_FnFlyNext.cond2
    by_cases c:L≤H+d∧H+d≤H
    · obtain⟨g,hg,e⟩:=(A9 hn (H+d)).1 c
      rw[e];exact Ev.p (by first|rfl|trivial) (Ev.bind (Cn hp hg) (Ev.p (by first|rfl|trivial) hr))
    · rw[(A9 hn (H+d)).2 c]
      exact Ev.n (by decide) hr
  have late:(goOf q s l f b (beg++[H+d]) []).2=(decide (d≤0)&&decide (L≤H+d)):=by
    by_cases c:L≤H+d∧H+d≤H
    · obtain⟨g,hg,e⟩:=(A9 hn (H+d)).1 c
      rw[e,decide_eq_true (show d≤0 by omega),decide_eq_true c.1];rfl
    · rw[(A9 hn (H+d)).2 c]
      by_cases c1:d≤0
      · rw[decide_eq_true c1,decide_eq_false (show¬L≤H+d by omega)];rfl
      · rw[decide_eq_false c1];rfl
  have early:(goOf q s l f b (beg++[L+d]) []).2=(decide (0≤d)&&decide (L+d≤H)):=by
    by_cases c:L≤L+d∧L+d≤H
    · obtain⟨g,hg,e⟩:=(A9 hn (L+d)).1 c
      rw[e,decide_eq_true (show 0≤d by omega),decide_eq_true c.2];rfl
    · rw[(A9 hn (L+d)).2 c]
      by_cases c1:0≤d
      · rw[decide_eq_true c1,decide_eq_false (show¬L+d≤H by omega)];rfl
      · rw[decide_eq_false c1];rfl
  refine Ev.p early (Ev.p late ?_)
  by_cases c:L≤L+d∧L+d≤H
  · obtain⟨g,hg,e⟩:=(A9 hn (L+d)).1 c
    rw[e];exact Ev.p (by first|rfl|trivial) (Ev.bind (Cn hp hg) (Ev.p (by first|rfl|trivial) second))
  · rw[(A9 hn (L+d)).2 c]
    exact Ev.n (by decide) second
theorem Er: ∀(m:Nat) (d:Int),d+(m:Int)=2→ -1≤d→Ev (fun k=>laws_FnFlyNext.l0 k beg d q s l f b L H) true:=by
  have hrange:0≤L∧L≤H∧H≤10000:=by
    have:=B3 hI (show(Aa q s l f b beg).2.2=true by rw[hn]);rw[hn]at this;exact this
  have hII: ∀t:Int,-1≤t→t≤10001→ ∀x∈beg++[t],I64 x:=fun t h1 h2 x hx=>by
    rcases List.mem_append.1 hx with h|h
    · exact hI x h
    · rw[List.mem_singleton.1 h];unfold I64;omega
  have hlen: ∀t:Int,(beg++[t]).length≤1048576:=fun t=>by rw[List.length_append,List.length_singleton];omega
  intro m
  induction m with
  |zero=>
    intro d hd h1;refine Ev.s ?_;simp only[laws_FnFlyNext.l0];exact Ev.N (Ev.v _)
  |succ m ih=>
    intro d hd h1;have hnx:=ih (d+1) (by omega) (by omega);refine Ev.s ?_;simp only[laws_FnFlyNext.l0,Option.bind_some,List.nil_append];rw[w6 (L+d),w6 (H+d),w6 (d+1)];refine Ev.P (Ev.p (by simp only[List.length_nil];omega) (Ev.p (by simp only[List.length_singleton];omega) (Ev.p (by simp only[List.length_nil];omega) (Ev.p (by simp only[List.length_singleton];omega) ?_))));exact Ev.bind (Cs q s l f b (beg++[L+d]) [] (hlen _) (by simp) (hII _ (by omega) (by omega)) (by omega)) (Ev.bind (Cs q s l f b (beg++[H+d]) [] (hlen _) (by simp) (hII _ (by omega) (by omega)) (by omega)) (E6 hI hn d (by omega) hnx))
end
theorem FnFlyNext: ∀(l0:List Int),l0.length≤maxLen→l0.length*1≤140737488351232→(∀x∈l0,(Lit.int .u8 x).wf=true)→ ∃k,laws_FnFlyNext.f k l0=some true:=by
  intro l0 _ _ hl0;refine Ev.rounds (r:=true) ?_;unfold laws_FnFlyNext.f
  by_cases hlong:(l0.length:Int)>1048576
  · exact Ev.p hlong (Ev.v _)
  refine Ev.n hlong ?_;obtain⟨q,s,l,f,b,beg,hl,hb,hI,hdr⟩:=E5 l0 hl0;refine Ev.bind hdr (Ev.bind (Bq q s l f b beg hI) (Ev.bind (B5 q s l f b beg hI) ?_));obtain⟨L,H,o,hn⟩: ∃L H o,Aa q s l f b beg=(L,H,o):=⟨_,_,_,rfl⟩;rw[hn];simp only[beq_self_eq_true,Bool.not_true,Bool.or_false,bne_self_eq_false];refine Ev.n (by decide) (Ev.s ?_);simp only[laws_FnFlyNext.j0];refine Ev.n (by decide) ?_
  by_cases ho:o=true
  · subst ho
    exact Ev.p (by first|rfl|trivial) (Er hl hb hI hn 3 (-1) (by omega) (by omega))
  · refine Ev.n ho (Ev.bind (Cs q s l f b beg [] (by omega) (by simp) hI (by omega)) ?_)
    have hno:(Aa q s l f b beg).2.2=false:=by rw[hn];exact Bool.eq_false_iff.2 ho
    by_cases hc:beg.length≤l.length
    · have e:goOf q s l f b beg []=([],false):=by
        unfold goOf
        cases hd:l.length+1-beg.length with
        |zero=>omega
        |succ d=>
          simp only[As];rw[hno]
          rfl
      rw[e];exact Ev.n (by decide) (Ev.p (by simp) (Ev.v _))
    · by_cases hw:(goOf q s l f b beg []).2=true
      · refine Ev.p hw (Ev.P (Ev.bind (Bz q s l f b beg (by omega)) (Ev.c (Ev.v _) ?_)))
        unfold goOf at hw;rw[show l.length+1-beg.length=0 by omega]at hw;simp only[As,A1]at hw
        by_cases h:Ap q s l f b beg=true
        · exact h
        · rw[if_neg h]at hw;cases hw
      · refine Ev.n hw (Ev.p ?_ (Ev.v _))
        unfold goOf at hw⊢;rw[show l.length+1-beg.length=0 by omega]at hw⊢;simp only[As,A1]at hw⊢
        by_cases h:Ap q s l f b beg=true
        · rw[if_pos h]at hw;exact absurd rfl hw
        · rw[if_neg h];rfl
end Go.Proofs.Ytkecbmgdmkmfgaa.Pure
