/- The walk of what the law FnExactFlyMayTurn reaches: laid by a program of this session (ownprint.py). -/
import Derived.Laws.Cover1
import Derived.Laws.Strings
import Derived.Test.YtbmplfpnhjhoiaaProg
import Derived.Below
import Derived.Deep.Draws
import Derived.Deep.AppendLies
import Derived.Maps.AppendAt
import Derived.OwnWalk
import Derived.Laws.BytesArg
import Derived.Laws.MakeOwn
import Derived.Laws.OwnMore
import Derived.Deep.OwnRows
import Derived.Tactics
import Derived.Lib.ConvBytes
import Derived.Laws.Slices
import Derived.WalkKit
import Derived.KernelRfl
import Derived.RowKit3
import Derived.Deep.LoopGhost
import Derived.Deep.QuietTactic
import Derived.BigQuiet
import Derived.WideLaws
import Derived.Deep.DeepCutAuto
import Derived.Deep.CutBlock
import Derived.Deep.RegionHeld3
import Derived.Laws.Rows
import Derived.Lib.AppendStr
import Derived.ArgAppend
import Derived.Laws.IdiomCopy
import Derived.OrdersHeld
import Derived.Laws.BitsLemmas
import Derived.RowKit
import Derived.Test.YtbmplfpnhjhoiaaXw
import Derived.Test.YtbmplfpnhjhoiaaXs
namespace Go.Proofs.Ytbmplfpnhjhoiaa.QFnExactFlyMayTurn
open Go.RowKit Go.Proofs.YtbmplfpnhjhoiaaW.PrintWords Go.Proofs.YtbmplfpnhjhoiaaW.PrintLast Go.Proofs.YtbmplfpnhjhoiaaW.PrintMore Go.Proofs.Ytbmplfpnhjhoiaa.Z
attribute [local go_sem] max2_int min2_int max_two min_two max_three min_three max_four min_four zdn   -- for this text's walks alone
set_option linter.unusedVariables false
set_option linter.unusedSimpArgs false
def errW:Option Int→Value
 |none=> .nilIface
 |some c=> .iface 0 (.int .i64 c)
theorem errW_none:errW none= .nilIface:=rfl
theorem errW_some (c:Int):errW (some c)= .iface 0 (.int .i64 c):=rfl
theorem info3:(Try.prog.info? 3).map (fun i=>(i.zero,i.size,i.bytes))=some (some (.int .i64 0),1,8):=by kernel_rfl
theorem info110:(Try.prog.info? 110).map (fun i=>(i.zero,i.size,i.bytes))=some (some (.agg #[(.int .i64 0),(.int .i64 0)]),2,16):=by kernel_rfl
theorem info132:(Try.prog.info? 132).map (fun i=>(i.zero,i.size,i.bytes))=some (some (.agg #[(.int .i64 0),(.int .i64 0),(.int .i64 0),(.int .i64 0),(.int .i64 0),(.int .i64 0),(.bool false)]),7,56):=by kernel_rfl
-- the values' own types
structure S132 where
 f0:Int
 f1:Int
 f2:Int
 f3:Int
 f4:Int
 f5:Int
 f6:Bool
def z132:S132:=⟨(0:Int),(0:Int),(0:Int),(0:Int),(0:Int),(0:Int),false⟩
def k132:Kd S132:=Kd.iso (Kd.pair (Kd.int .i64) (Kd.pair (Kd.int .i64) (Kd.pair (Kd.int .i64) (Kd.pair (Kd.int .i64) (Kd.pair (Kd.int .i64) (Kd.pair (Kd.int .i64) Kd.bool)))))) (fun x:S132=>(x.f0,x.f1,x.f2,x.f3,x.f4,x.f5,x.f6))
theorem k132_open {w:World} {x:S132} {cs:List Value} (h:k132.K w x cs):cs=[.int .i64 x.f0,.int .i64 x.f1,.int .i64 x.f2,.int .i64 x.f3,.int .i64 x.f4,.int .i64 x.f5,.bool x.f6]:=by
 obtain⟨_,_,rfl,rfl,⟨_,_,rfl,rfl,⟨_,_,rfl,rfl,⟨_,_,rfl,rfl,⟨_,_,rfl,rfl,⟨_,_,rfl,rfl,rfl⟩⟩⟩⟩⟩⟩:=h;exact rfl
theorem k132_openM {w:World} {base:Nat} {ok:Nat→Prop} {x:S132} {cs:List Value} (h:k132.M w base ok x cs):cs=[.int .i64 x.f0,.int .i64 x.f1,.int .i64 x.f2,.int .i64 x.f3,.int .i64 x.f4,.int .i64 x.f5,.bool x.f6]:=by
 obtain⟨_,_,rfl,rfl,⟨_,_,rfl,rfl,⟨_,_,rfl,rfl,⟨_,_,rfl,rfl,⟨_,_,rfl,rfl,⟨_,_,rfl,rfl,rfl⟩⟩⟩⟩⟩⟩:=h;exact rfl
theorem k132_mk (w:World) (x:S132):k132.K w x [.int .i64 x.f0,.int .i64 x.f1,.int .i64 x.f2,.int .i64 x.f3,.int .i64 x.f4,.int .i64 x.f5,.bool x.f6]:=⟨[.int .i64 x.f0],[.int .i64 x.f1,.int .i64 x.f2,.int .i64 x.f3,.int .i64 x.f4,.int .i64 x.f5,.bool x.f6],rfl,rfl,⟨[.int .i64 x.f1],[.int .i64 x.f2,.int .i64 x.f3,.int .i64 x.f4,.int .i64 x.f5,.bool x.f6],rfl,rfl,⟨[.int .i64 x.f2],[.int .i64 x.f3,.int .i64 x.f4,.int .i64 x.f5,.bool x.f6],rfl,rfl,⟨[.int .i64 x.f3],[.int .i64 x.f4,.int .i64 x.f5,.bool x.f6],rfl,rfl,⟨[.int .i64 x.f4],[.int .i64 x.f5,.bool x.f6],rfl,rfl,⟨[.int .i64 x.f5],[.bool x.f6],rfl,rfl,rfl⟩⟩⟩⟩⟩⟩
theorem k132_mkM (w:World) (base:Nat) (ok:Nat→Prop) (x:S132):k132.M w base ok x [.int .i64 x.f0,.int .i64 x.f1,.int .i64 x.f2,.int .i64 x.f3,.int .i64 x.f4,.int .i64 x.f5,.bool x.f6]:=⟨[.int .i64 x.f0],[.int .i64 x.f1,.int .i64 x.f2,.int .i64 x.f3,.int .i64 x.f4,.int .i64 x.f5,.bool x.f6],rfl,rfl,⟨[.int .i64 x.f1],[.int .i64 x.f2,.int .i64 x.f3,.int .i64 x.f4,.int .i64 x.f5,.bool x.f6],rfl,rfl,⟨[.int .i64 x.f2],[.int .i64 x.f3,.int .i64 x.f4,.int .i64 x.f5,.bool x.f6],rfl,rfl,⟨[.int .i64 x.f3],[.int .i64 x.f4,.int .i64 x.f5,.bool x.f6],rfl,rfl,⟨[.int .i64 x.f4],[.int .i64 x.f5,.bool x.f6],rfl,rfl,⟨[.int .i64 x.f5],[.bool x.f6],rfl,rfl,rfl⟩⟩⟩⟩⟩⟩
def rd_T132 (xs:List S132) (i:Int):S132:=xs.getD i.toNat z132
theorem at_T132 {w:World} {A:Option Addr} {n:Nat} {xs:List S132} (h:Kd.C k132 w A n xs) (i:Int) (h0:0≤i) (h1:i<n): ∃ad,A=some ad∧w.cell? (ad.add (i.toNat*7))=some (.int .i64 (rd_T132 xs i).f0)∧w.cell? ⟨(ad.add (i.toNat*7)).block,(ad.add (i.toNat*7)).off+1,none⟩=some (.int .i64 (rd_T132 xs i).f1)∧w.cell? ⟨(ad.add (i.toNat*7)).block,(ad.add (i.toNat*7)).off+2,none⟩=some (.int .i64 (rd_T132 xs i).f2)∧w.cell? ⟨(ad.add (i.toNat*7)).block,(ad.add (i.toNat*7)).off+3,none⟩=some (.int .i64 (rd_T132 xs i).f3)∧w.cell? ⟨(ad.add (i.toNat*7)).block,(ad.add (i.toNat*7)).off+4,none⟩=some (.int .i64 (rd_T132 xs i).f4)∧w.cell? ⟨(ad.add (i.toNat*7)).block,(ad.add (i.toNat*7)).off+5,none⟩=some (.int .i64 (rd_T132 xs i).f5)∧w.cell? ⟨(ad.add (i.toNat*7)).block,(ad.add (i.toNat*7)).off+6,none⟩=some (.bool (rd_T132 xs i).f6):=by
 obtain⟨ad,c,e,_,hK,hc0⟩:=Kd.C_get h z132 i h0 h1;have hc: ∀j u,c[j]?=some u→w.cell? (ad.add (i.toNat*7+j))=some u:=hc0;obtain rfl:=k132_open hK;exact⟨ad,e,hc 0 _ rfl,by rw[←add_field _ _ 1 (by omega)];exact hc 1 _ rfl,by rw[←add_field _ _ 2 (by omega)];exact hc 2 _ rfl,by rw[←add_field _ _ 3 (by omega)];exact hc 3 _ rfl,by rw[←add_field _ _ 4 (by omega)];exact hc 4 _ rfl,by rw[←add_field _ _ 5 (by omega)];exact hc 5 _ rfl,by rw[←add_field _ _ 6 (by omega)];exact hc 6 _ rfl⟩
structure S170 where
 f0:Int
 f1:Int
 f2:Int
 f3:Int
 f4:Int
 f5:Int
 f6:Bool
def z170:S170:=⟨(0:Int),(0:Int),(0:Int),(0:Int),(0:Int),(0:Int),false⟩
def k170:Kd S170:=Kd.iso (Kd.pair (Kd.int .i64) (Kd.pair (Kd.int .i64) (Kd.pair (Kd.int .i64) (Kd.pair (Kd.int .i64) (Kd.pair (Kd.int .i64) (Kd.pair (Kd.int .i64) Kd.bool)))))) (fun x:S170=>(x.f0,x.f1,x.f2,x.f3,x.f4,x.f5,x.f6))
theorem k170_open {w:World} {x:S170} {cs:List Value} (h:k170.K w x cs):cs=[.int .i64 x.f0,.int .i64 x.f1,.int .i64 x.f2,.int .i64 x.f3,.int .i64 x.f4,.int .i64 x.f5,.bool x.f6]:=by
 obtain⟨_,_,rfl,rfl,⟨_,_,rfl,rfl,⟨_,_,rfl,rfl,⟨_,_,rfl,rfl,⟨_,_,rfl,rfl,⟨_,_,rfl,rfl,rfl⟩⟩⟩⟩⟩⟩:=h;exact rfl
theorem k170_openM {w:World} {base:Nat} {ok:Nat→Prop} {x:S170} {cs:List Value} (h:k170.M w base ok x cs):cs=[.int .i64 x.f0,.int .i64 x.f1,.int .i64 x.f2,.int .i64 x.f3,.int .i64 x.f4,.int .i64 x.f5,.bool x.f6]:=by
 obtain⟨_,_,rfl,rfl,⟨_,_,rfl,rfl,⟨_,_,rfl,rfl,⟨_,_,rfl,rfl,⟨_,_,rfl,rfl,⟨_,_,rfl,rfl,rfl⟩⟩⟩⟩⟩⟩:=h;exact rfl
theorem k170_mk (w:World) (x:S170):k170.K w x [.int .i64 x.f0,.int .i64 x.f1,.int .i64 x.f2,.int .i64 x.f3,.int .i64 x.f4,.int .i64 x.f5,.bool x.f6]:=⟨[.int .i64 x.f0],[.int .i64 x.f1,.int .i64 x.f2,.int .i64 x.f3,.int .i64 x.f4,.int .i64 x.f5,.bool x.f6],rfl,rfl,⟨[.int .i64 x.f1],[.int .i64 x.f2,.int .i64 x.f3,.int .i64 x.f4,.int .i64 x.f5,.bool x.f6],rfl,rfl,⟨[.int .i64 x.f2],[.int .i64 x.f3,.int .i64 x.f4,.int .i64 x.f5,.bool x.f6],rfl,rfl,⟨[.int .i64 x.f3],[.int .i64 x.f4,.int .i64 x.f5,.bool x.f6],rfl,rfl,⟨[.int .i64 x.f4],[.int .i64 x.f5,.bool x.f6],rfl,rfl,⟨[.int .i64 x.f5],[.bool x.f6],rfl,rfl,rfl⟩⟩⟩⟩⟩⟩
theorem k170_mkM (w:World) (base:Nat) (ok:Nat→Prop) (x:S170):k170.M w base ok x [.int .i64 x.f0,.int .i64 x.f1,.int .i64 x.f2,.int .i64 x.f3,.int .i64 x.f4,.int .i64 x.f5,.bool x.f6]:=⟨[.int .i64 x.f0],[.int .i64 x.f1,.int .i64 x.f2,.int .i64 x.f3,.int .i64 x.f4,.int .i64 x.f5,.bool x.f6],rfl,rfl,⟨[.int .i64 x.f1],[.int .i64 x.f2,.int .i64 x.f3,.int .i64 x.f4,.int .i64 x.f5,.bool x.f6],rfl,rfl,⟨[.int .i64 x.f2],[.int .i64 x.f3,.int .i64 x.f4,.int .i64 x.f5,.bool x.f6],rfl,rfl,⟨[.int .i64 x.f3],[.int .i64 x.f4,.int .i64 x.f5,.bool x.f6],rfl,rfl,⟨[.int .i64 x.f4],[.int .i64 x.f5,.bool x.f6],rfl,rfl,⟨[.int .i64 x.f5],[.bool x.f6],rfl,rfl,rfl⟩⟩⟩⟩⟩⟩
def rd_T170 (xs:List S170) (i:Int):S170:=xs.getD i.toNat z170
theorem at_T170 {w:World} {A:Option Addr} {n:Nat} {xs:List S170} (h:Kd.C k170 w A n xs) (i:Int) (h0:0≤i) (h1:i<n): ∃ad,A=some ad∧w.cell? (ad.add (i.toNat*7))=some (.int .i64 (rd_T170 xs i).f0)∧w.cell? ⟨(ad.add (i.toNat*7)).block,(ad.add (i.toNat*7)).off+1,none⟩=some (.int .i64 (rd_T170 xs i).f1)∧w.cell? ⟨(ad.add (i.toNat*7)).block,(ad.add (i.toNat*7)).off+2,none⟩=some (.int .i64 (rd_T170 xs i).f2)∧w.cell? ⟨(ad.add (i.toNat*7)).block,(ad.add (i.toNat*7)).off+3,none⟩=some (.int .i64 (rd_T170 xs i).f3)∧w.cell? ⟨(ad.add (i.toNat*7)).block,(ad.add (i.toNat*7)).off+4,none⟩=some (.int .i64 (rd_T170 xs i).f4)∧w.cell? ⟨(ad.add (i.toNat*7)).block,(ad.add (i.toNat*7)).off+5,none⟩=some (.int .i64 (rd_T170 xs i).f5)∧w.cell? ⟨(ad.add (i.toNat*7)).block,(ad.add (i.toNat*7)).off+6,none⟩=some (.bool (rd_T170 xs i).f6):=by
 obtain⟨ad,c,e,_,hK,hc0⟩:=Kd.C_get h z170 i h0 h1;have hc: ∀j u,c[j]?=some u→w.cell? (ad.add (i.toNat*7+j))=some u:=hc0;obtain rfl:=k170_open hK;exact⟨ad,e,hc 0 _ rfl,by rw[←add_field _ _ 1 (by omega)];exact hc 1 _ rfl,by rw[←add_field _ _ 2 (by omega)];exact hc 2 _ rfl,by rw[←add_field _ _ 3 (by omega)];exact hc 3 _ rfl,by rw[←add_field _ _ 4 (by omega)];exact hc 4 _ rfl,by rw[←add_field _ _ 5 (by omega)];exact hc 5 _ rfl,by rw[←add_field _ _ 6 (by omega)];exact hc 6 _ rfl⟩
structure S110 where
 f0:Int
 f1:Int
def z110:S110:=⟨(0:Int),(0:Int)⟩
def k110:Kd S110:=Kd.iso (Kd.pair (Kd.int .i64) (Kd.int .i64)) (fun x:S110=>(x.f0,x.f1))
theorem k110_open {w:World} {x:S110} {cs:List Value} (h:k110.K w x cs):cs=[.int .i64 x.f0,.int .i64 x.f1]:=by
 obtain⟨_,_,rfl,rfl,rfl⟩:=h;exact rfl
theorem k110_openM {w:World} {base:Nat} {ok:Nat→Prop} {x:S110} {cs:List Value} (h:k110.M w base ok x cs):cs=[.int .i64 x.f0,.int .i64 x.f1]:=by
 obtain⟨_,_,rfl,rfl,rfl⟩:=h;exact rfl
theorem k110_mk (w:World) (x:S110):k110.K w x [.int .i64 x.f0,.int .i64 x.f1]:=⟨[.int .i64 x.f0],[.int .i64 x.f1],rfl,rfl,rfl⟩
theorem k110_mkM (w:World) (base:Nat) (ok:Nat→Prop) (x:S110):k110.M w base ok x [.int .i64 x.f0,.int .i64 x.f1]:=⟨[.int .i64 x.f0],[.int .i64 x.f1],rfl,rfl,rfl⟩
def rd_T110 (xs:List S110) (i:Int):S110:=xs.getD i.toNat z110
theorem at_T110 {w:World} {A:Option Addr} {n:Nat} {xs:List S110} (h:Kd.C k110 w A n xs) (i:Int) (h0:0≤i) (h1:i<n): ∃ad,A=some ad∧w.cell? (ad.add (i.toNat*2))=some (.int .i64 (rd_T110 xs i).f0)∧w.cell? ⟨(ad.add (i.toNat*2)).block,(ad.add (i.toNat*2)).off+1,none⟩=some (.int .i64 (rd_T110 xs i).f1):=by
 obtain⟨ad,c,e,_,hK,hc0⟩:=Kd.C_get h z110 i h0 h1;have hc: ∀j u,c[j]?=some u→w.cell? (ad.add (i.toNat*2+j))=some u:=hc0;obtain rfl:=k110_open hK;exact⟨ad,e,hc 0 _ rfl,by rw[←add_field _ _ 1 (by omega)];exact hc 1 _ rfl⟩
abbrev T:Bool:=true
abbrev F:Bool:=false
theorem zA {p:Prop} (h:p):Aside0 p:=Aside0.mk h
end Go.Proofs.Ytbmplfpnhjhoiaa.QFnExactFlyMayTurn
