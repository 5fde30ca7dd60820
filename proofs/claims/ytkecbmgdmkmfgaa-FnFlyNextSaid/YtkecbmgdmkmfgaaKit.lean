/-
  Plain laws of rounds: copying, comparing, marking and asking loops, each proved once of whatever element type.
-/
import Derived.Test.YtkecbmgdmkmfgaaXw
namespace Go.Proofs.Ytkecbmgdmkmfgaa.Kit
open Go.RowKit Go.Proofs.YtkecbmgdmkmfgaaW.PrintWords
def I64 (n:Int):Prop:= -9223372036854775808≤n∧n≤9223372036854775807
theorem w64 {n:Int} (h: -9223372036854775808≤n) (h':n≤9223372036854775807):wrap64 n=n:=by unfold wrap64;omega
theorem Ev.p {α:Type} {c:Prop} [Decidable c] {g f:Nat→Option α} {r:α} (h:c) (k:Ev g r):Ev (fun n=>if c then g n else f n) r:=Ev.congr (fun _=>if_pos h) k
theorem Ev.n {α:Type} {c:Prop} [Decidable c] {g f:Nat→Option α} {r:α} (h: ¬c) (k:Ev f r):Ev (fun n=>if c then g n else f n) r:=Ev.congr (fun _=>if_neg h) k
theorem Ev.s {α:Type} {g:Nat→Option α} {r:α} (h:Ev (fun k=>g (k+1)) r):Ev g r:=Ev.step (fun _=>rfl) h
theorem Ev.v {α:Type} (r:α):Ev (fun _=>some r) r:=Ev.now r
theorem Ev.k {α:Type} {o:Option α} {r:α} (h:o=some r):Ev (fun _=>o) r:=⟨0,fun _ _=>h⟩
theorem w6 (n:Int) (h:-9223372036854775808≤n:=by omega) (h':n≤9223372036854775807:=by omega):wrap64 n=n:=w64 h h'
theorem Ev.P {α:Type} {c:Prop} [Decidable c] {g f:Nat→Option α} {r:α} (k:Ev g r) (h:c:=by omega):Ev (fun n=>if c then g n else f n) r:=Ev.p h k
theorem Ev.N {α:Type} {c:Prop} [Decidable c] {g f:Nat→Option α} {r:α} (k:Ev f r) (h:¬c:=by omega):Ev (fun n=>if c then g n else f n) r:=Ev.n h k
theorem Ev.c {α:Type} {g:Nat→Option α} {r r':α} (h:Ev g r) (e:r=r'):Ev g r':=e▸h
section
variable {α β : Type}
/-- A search from i on, d places: R of the first place that P tells, r if there is none. -/
def A2 {ρ:Type} (P:Nat→Bool) (R:Nat→ρ) (r:ρ):Nat→Nat→ρ
  |0,_=>r
  |d+1,i=>if P i=true then R i else A2 P R r d (i+1)
theorem Cd {ρ:Type} {P:Nat→Bool} {R:Nat→ρ} {r:ρ} : ∀(d i:Nat),(∀j,i≤j→j<i+d→P j=false)→A2 P R r d i=r
  |0,_,_=>rfl
  |d+1,i,h=>by
    simp only[A2];rw[h i (Nat.le_refl _) (by omega),Cd d (i+1) (fun j h1 h2=>h j (by omega) (by omega))]
    rfl
abbrev allN (P:Nat→Bool) (d i:Nat):Bool:=A2 (fun j=> !P j) (fun _=>false) true d i
theorem Bg {P:Nat→Bool} : ∀(d i:Nat),allN P d i=true↔ ∀j,i≤j→j<i+d→P j=true
  |0,i=>⟨fun _ j h1 h2=>by omega,fun _=>rfl⟩
  |d+1,i=>by
    simp only[allN,A2]
    by_cases hp:P i=true
    · rw[if_neg (by simp[hp])]
      refine(Bg d (i+1)).trans ⟨fun h j h1 h2=>?_,fun h j h1 h2=>h j (by omega) (by omega)⟩
      rcases Nat.lt_or_ge i j with h3|h3
      · exact h j h3 (by omega)
      · rw[show j=i by omega];exact hp
    · rw[if_pos (by simp[hp])]
      exact⟨fun h=>(by cases h),fun h=>absurd (h i (Nat.le_refl _) (by omega)) hp⟩
/-- Two 'all's that differ only behind a place where the one falls. -/
theorem Bn {P P':Nat→Bool} : ∀(d i:Nat),(∀j,i≤j→j<i+d→(∀m,i≤m→m<j→P m=true)→P j=P' j)→allN P d i=allN P' d i
  |0,_,_=>rfl
  |d+1,i,h=>by
    have h0:=h i (Nat.le_refl _) (by omega) (fun m h1 h2=>by omega);simp only[allN,A2];rw[←h0]
    by_cases hp:P i=true
    · rw[if_neg (by simp[hp]),if_neg (by simp[hp])]
      exact Bn d (i+1) (fun j h1 h2 h3=>h j (by omega) (by omega) (fun m h4 h5=>by
        rcases Nat.lt_or_ge i m with h6|h6
        · exact h3 m h6 h5
        · rw[show m=i by omega];exact hp))
    · rw[if_pos (by simp[hp]),if_pos (by simp[hp])]
/-- A searching loop; its end is reached only where nothing is found. -/
theorem Ce {ρ:Type} {F:Nat→Int→Option ρ} (N:Nat) (P:Nat→Bool) (R:Nat→ρ) (r:ρ)
    (hp: ∀i:Nat,i<N→P i=true→Ev (fun k=>F k (i:Int)) (R i))
    (hn: ∀i:Nat,i<N→P i=false→ ∀r',Ev (fun k=>F k ((i:Int)+1)) r'→Ev (fun k=>F k (i:Int)) r'):
    ∀(d i:Nat),i+d=N→((∀j,i≤j→j<N→P j=false)→Ev (fun k=>F k (N:Int)) r)→Ev (fun k=>F k (i:Int)) (A2 P R r d i)
  |0,i,h,he=>by
    have:i=N:=by omega
    rw[this];exact he (fun j h1 h2=>by omega)
  |d+1,i,h,he=>by
    simp only[A2]
    by_cases hpi:P i=true
    · rw[if_pos hpi]
      exact hp i (by omega) hpi
    · rw[if_neg hpi]
      refine hn i (by omega) (by simpa using hpi) _ ?_
      have:=Ce N P R r hp hn d (i+1) (by omega) (fun hj=>he (fun j h1 h2=>by
        rcases Nat.lt_or_ge i j with h3|h3
        · exact hj j h3 h2
        · rw[show j=i by omega];simpa using hpi))
      rwa [show(((i+1:Nat):Int))=(i:Int)+1 by omega]at this
theorem Bo {ρ:Type} {F:Nat→Int→Option ρ} (N:Nat) (P:Nat→Bool) (R:Nat→ρ) (r:ρ)
    (hp: ∀i:Nat,i<N→P i=true→Ev (fun k=>F k (i:Int)) (R i))
    (hn: ∀i:Nat,i<N→P i=false→ ∀r',Ev (fun k=>F k ((i:Int)+1)) r'→Ev (fun k=>F k (i:Int)) r')
    (he:Ev (fun k=>F k (N:Int)) r) (d i:Nat) (h:i+d=N):Ev (fun k=>F k (i:Int)) (A2 P R r d i):=Ce N P R r hp hn d i h (fun _=>he)
end
end Go.Proofs.Ytkecbmgdmkmfgaa.Kit

