-- Printed by this session's own program wip/tools/xprint.py, which widens the kit's print. Not trusted: Lean checks it.
import Derived.Test.YteiolcfgaklafaaProg
import Derived.Below
import Derived.Deep.Draws
import Derived.Deep.AppendLies
import Derived.Maps.AppendAt
import Derived.OwnWalk
import Derived.Laws.BytesArg
import Derived.Laws.MakeOwn
import Derived.Laws.OwnMore
import Derived.Deep.OwnRows
import Derived.Tactics
import Derived.Lib.ConvBytes
import Derived.Laws.Slices
import Derived.WalkKit
import Derived.KernelRfl
import Derived.RowKit3
import Derived.Deep.LoopGhost
import Derived.Deep.QuietTactic
import Derived.BigQuiet
import Derived.WideLaws
import Derived.Deep.DeepCutAuto
import Derived.Deep.CutBlock
import Derived.Deep.RegionHeld3
import Derived.Laws.Rows
import Derived.Lib.AppendStr
import Derived.ArgAppend
import Derived.Laws.IdiomCopy
import Derived.OrdersHeld
import Derived.Laws.BitsLemmas
import Derived.RowKit
import Derived.Test.YteiolcfgaklafaaWWords
import Derived.Test.YteiolcfgaklafaaWLast
import Derived.Test.YteiolcfgaklafaaWTab
import Derived.Test.YteiolcfgaklafaaWQPut
import Derived.Test.YteiolcfgaklafaaWApart
import Derived.Test.YteiolcfgaklafaaWArr
import Derived.Test.YteiolcfgaklafaaWZeros
import Derived.Test.YteiolcfgaklafaaWFoot
import Derived.Test.YteiolcfgaklafaaWKept
import Derived.Test.YteiolcfgaklafaaWShare
import Derived.Test.YteiolcfgaklafaaWN
import Derived.Test.YteiolcfgaklafaaWFootNe
import Derived.Test.YteiolcfgaklafaaWEqStruct
import Derived.Test.YteiolcfgaklafaaWRepsOne
import Derived.Test.YteiolcfgaklafaaWNEv
import Derived.Test.YteiolcfgaklafaaWMore
namespace Go.Proofs.Yteiolcfgaklafaa.XFnExactGiveBatch
open Go.RowKit Go.Proofs.YteiolcfgaklafaaW.PrintWords Go.Proofs.YteiolcfgaklafaaW.PrintLast Go.Proofs.YteiolcfgaklafaaW.PrintMore
attribute [local go_sem] max2_int min2_int max_two min_two max_three min_three max_four min_four   -- for this text's walks alone
set_option linter.unusedVariables false
set_option linter.unusedSimpArgs false



def errW : Option Int → Value
 | none => .nilIface
 | some c => .iface 0 (.int .i64 c)
theorem errW_none : errW none = .nilIface := rfl
theorem errW_some (c : Int) : errW (some c) = .iface 0 (.int .i64 c) := rfl


/-- What an interface{} holds here: a bool, an int or a string. -/
abbrev AnyV := Bool ⊕ (Int ⊕ ByteArray)
abbrev anyB (b : Bool) : AnyV := .inl b
abbrev anyI (n : Int) : AnyV := .inr (.inl n)
abbrev anyS (s : ByteArray) : AnyV := .inr (.inr s)
def anyZ : AnyV := .inl false
def anyW : AnyV → Value
 | .inl b => .iface 4 (.bool b)
 | .inr (.inl n) => .iface 3 (.int .i64 n)
 | .inr (.inr s) => .iface 9 (.string s)
def anyAsB : AnyV → Bool
 | .inl b => b
 | _ => false
def anyIsB : AnyV → Bool
 | .inl _ => true
 | _ => false
def anyAsI : AnyV → Int
 | .inr (.inl n) => n
 | _ => 0
def anyIsI : AnyV → Bool
 | .inr (.inl _) => true
 | _ => false
def anyAsS : AnyV → ByteArray
 | .inr (.inr s) => s
 | _ => ⟨#[]⟩
def anyIsS : AnyV → Bool
 | .inr (.inr _) => true
 | _ => false
theorem anyW_one : ∀ x,(anyW x).oneCell' = true := fun x => by rcases x with b | n | s <;> rfl
def kAny : Kd AnyV := Kd.scalar anyW anyW_one
theorem kAny_heap : Kd.Heap kAny := ⟨fun _ h => h⟩
theorem kAny_at {w : World} {A : Option Addr} {n : Nat} {xs : List AnyV} (h : kAny.C w A n xs) (i : Int) (h0 : 0 ≤ i) (h1 : i < n) : ∃ ad,A = some ad ∧ w.cell? (ad.add i.toNat) = some (anyW (rdOf anyZ xs i)) :=
 ReadsOf.at_ (Kd.reads_of_C (enc := anyW) (d:=anyZ) (h1 := anyW_one) h) i h0 h1
set_option maxRecDepth 100000 in
theorem htaB_ (x : AnyV) (W : World) : (Instr.typeAssert (anyW x) 20 4 true).run Try.prog W = .ok (.tuple #[.bool (anyAsB x),.bool (anyIsB x)]) W := by
 rcases x with b | n | s <;> kernel_rfl
set_option maxRecDepth 100000 in
theorem htaI_ (x : AnyV) (W : World) : (Instr.typeAssert (anyW x) 20 3 true).run Try.prog W = .ok (.tuple #[.int .i64 (anyAsI x),.bool (anyIsI x)]) W := by
 rcases x with b | n | s <;> kernel_rfl
set_option maxRecDepth 100000 in
theorem htaS_ (x : AnyV) (W : World) : (Instr.typeAssert (anyW x) 20 9 true).run Try.prog W = .ok (.tuple #[.string (anyAsS x),.bool (anyIsS x)]) W := by
 rcases x with b | n | s <;> kernel_rfl

theorem info20 : (Try.prog.info? 20).map (fun i => (i.zero,i.size,i.bytes)) = some (some .nilIface,1,16) := by kernel_rfl
theorem info94 : (Try.prog.info? 94).map (fun i => (i.zero,i.size,i.bytes)) = some (some (.agg #[(.int .i64 0),(.int .i64 0)]),2,16) := by kernel_rfl
-- the values' own types
/-! #### struct type 96 -/
structure S96 where
 f0 : Int
 f1 : Int
def z96 : S96 := ⟨(0 : Int),(0 : Int)⟩
def k96 : Kd S96 := Kd.iso (Kd.pair (Kd.int .i64) (Kd.int .i64)) (fun x : S96 => (x.f0,x.f1))
theorem k96_heap : Kd.Heap k96 := Kd.heap_iso _ (Kd.heap_pair (Kd.heap_int .i64) (Kd.heap_int .i64))
theorem k96_open {w : World} {x : S96} {cs : List Value} (h : k96.K w x cs) : cs = [.int .i64 x.f0,.int .i64 x.f1] := by
 obtain ⟨_,_,rfl,rfl,rfl⟩ := h
 exact rfl
theorem k96_openM {w : World} {base : Nat} {ok : Nat → Prop} {x : S96} {cs : List Value} (h : k96.M w base ok x cs) : cs = [.int .i64 x.f0,.int .i64 x.f1] := by
 obtain ⟨_,_,rfl,rfl,rfl⟩ := h
 exact rfl
theorem k96_mk (w : World) (x : S96)  : k96.K w x [.int .i64 x.f0,.int .i64 x.f1] := ⟨[.int .i64 x.f0],[.int .i64 x.f1],rfl,rfl,rfl⟩
theorem k96_mkM (w : World) (base : Nat) (ok : Nat → Prop) (x : S96)  : k96.M w base ok x [.int .i64 x.f0,.int .i64 x.f1] := ⟨[.int .i64 x.f0],[.int .i64 x.f1],rfl,rfl,rfl⟩
theorem k96_mkF (W : World) (ok : Nat → Prop) (x : S96) : Kd.FK k96 W ok x [.int .i64 x.f0,.int .i64 x.f1] := fun W2 _ => k96_mk W2 x
def rd_T96 (xs : List S96) (i : Int) : S96 := xs.getD i.toNat z96
theorem at_T96 {w : World} {A : Option Addr} {n : Nat} {xs : List S96} (h : Kd.C k96 w A n xs) (i : Int) (h0 : 0 ≤ i) (h1 : i < n) : ∃ ad ,A = some ad ∧ w.cell? (ad.add (i.toNat * 2)) = some (.int .i64 (rd_T96 xs i).f0) ∧ w.cell? ⟨(ad.add (i.toNat * 2)).block,(ad.add (i.toNat * 2)).off + 1,none⟩ = some (.int .i64 (rd_T96 xs i).f1) := by
 obtain ⟨ad,c,e,_,hK,hc0⟩ := Kd.C_get h z96 i h0 h1
 have hc : ∀ j u,c[j]? = some u → w.cell? (ad.add (i.toNat * 2 + j)) = some u := hc0
 obtain rfl := k96_open hK
 exact ⟨ad,e,hc 0 _ rfl,by rw [← add_field _ _ 1 (by omega)]; exact hc 1 _ rfl⟩

/-! #### struct type 94 -/
structure S94 where
 f0 : Int
 f1 : Int
def z94 : S94 := ⟨(0 : Int),(0 : Int)⟩
def k94 : Kd S94 := Kd.iso (Kd.pair (Kd.int .i64) (Kd.int .i64)) (fun x : S94 => (x.f0,x.f1))
theorem k94_heap : Kd.Heap k94 := Kd.heap_iso _ (Kd.heap_pair (Kd.heap_int .i64) (Kd.heap_int .i64))
theorem k94_open {w : World} {x : S94} {cs : List Value} (h : k94.K w x cs) : cs = [.int .i64 x.f0,.int .i64 x.f1] := by
 obtain ⟨_,_,rfl,rfl,rfl⟩ := h
 exact rfl
theorem k94_openM {w : World} {base : Nat} {ok : Nat → Prop} {x : S94} {cs : List Value} (h : k94.M w base ok x cs) : cs = [.int .i64 x.f0,.int .i64 x.f1] := by
 obtain ⟨_,_,rfl,rfl,rfl⟩ := h
 exact rfl
theorem k94_mk (w : World) (x : S94)  : k94.K w x [.int .i64 x.f0,.int .i64 x.f1] := ⟨[.int .i64 x.f0],[.int .i64 x.f1],rfl,rfl,rfl⟩
theorem k94_mkM (w : World) (base : Nat) (ok : Nat → Prop) (x : S94)  : k94.M w base ok x [.int .i64 x.f0,.int .i64 x.f1] := ⟨[.int .i64 x.f0],[.int .i64 x.f1],rfl,rfl,rfl⟩
theorem k94_mkF (W : World) (ok : Nat → Prop) (x : S94) : Kd.FK k94 W ok x [.int .i64 x.f0,.int .i64 x.f1] := fun W2 _ => k94_mk W2 x
def rd_T94 (xs : List S94) (i : Int) : S94 := xs.getD i.toNat z94
theorem at_T94 {w : World} {A : Option Addr} {n : Nat} {xs : List S94} (h : Kd.C k94 w A n xs) (i : Int) (h0 : 0 ≤ i) (h1 : i < n) : ∃ ad ,A = some ad ∧ w.cell? (ad.add (i.toNat * 2)) = some (.int .i64 (rd_T94 xs i).f0) ∧ w.cell? ⟨(ad.add (i.toNat * 2)).block,(ad.add (i.toNat * 2)).off + 1,none⟩ = some (.int .i64 (rd_T94 xs i).f1) := by
 obtain ⟨ad,c,e,_,hK,hc0⟩ := Kd.C_get h z94 i h0 h1
 have hc : ∀ j u,c[j]? = some u → w.cell? (ad.add (i.toNat * 2 + j)) = some u := hc0
 obtain rfl := k94_open hK
 exact ⟨ad,e,hc 0 _ rfl,by rw [← add_field _ _ 1 (by omega)]; exact hc 1 _ rfl⟩

end Go.Proofs.Yteiolcfgaklafaa.XFnExactGiveBatch
