-- Printed by this session's own program wip/tools/xprint.py, which widens the kit's print. Not trusted: Lean checks it.
import Derived.Test.YtbdhpmamlibmhaaDoorProg
import Derived.Below
import Derived.Deep.Draws
import Derived.Deep.AppendLies
import Derived.Maps.AppendAt
import Derived.OwnWalk
import Derived.Laws.BytesArg
import Derived.Laws.MakeOwn
import Derived.Laws.OwnMore
import Derived.Deep.OwnRows
import Derived.Tactics
import Derived.Lib.ConvBytes
import Derived.Laws.Slices
import Derived.WalkKit
import Derived.KernelRfl
import Derived.RowKit3
import Derived.Deep.LoopGhost
import Derived.Deep.QuietTactic
import Derived.BigQuiet
import Derived.WideLaws
import Derived.Deep.DeepCutAuto
import Derived.Deep.CutBlock
import Derived.Deep.RegionHeld3
import Derived.Laws.Rows
import Derived.Lib.AppendStr
import Derived.ArgAppend
import Derived.Laws.IdiomCopy
import Derived.OrdersHeld
import Derived.Laws.BitsLemmas
import Derived.RowKit
import Derived.Test.YtbdhpmamlibmhaaDoorShelf
import Derived.Test.YtbdhpmamlibmhaaDoorWWords
import Derived.Test.YtbdhpmamlibmhaaDoorWLast
import Derived.Test.YtbdhpmamlibmhaaDoorWTab
import Derived.Test.YtbdhpmamlibmhaaDoorWFour
import Derived.Test.YtbdhpmamlibmhaaDoorWQPut
import Derived.Test.YtbdhpmamlibmhaaDoorWApart
import Derived.Test.YtbdhpmamlibmhaaDoorWArr
import Derived.Test.YtbdhpmamlibmhaaDoorWZeros
import Derived.Test.YtbdhpmamlibmhaaDoorWFoot
import Derived.Test.YtbdhpmamlibmhaaDoorWKept
import Derived.Test.YtbdhpmamlibmhaaDoorWShare
import Derived.Test.YtbdhpmamlibmhaaDoorWN
import Derived.Test.YtbdhpmamlibmhaaDoorWFootNe
import Derived.Test.YtbdhpmamlibmhaaDoorWAt
import Derived.Test.YtbdhpmamlibmhaaDoorWEqStruct
import Derived.Test.YtbdhpmamlibmhaaDoorWRepsOne
import Derived.Test.YtbdhpmamlibmhaaDoorWInv
import Derived.Test.YtbdhpmamlibmhaaDoorWInvWords
import Derived.Test.YtbdhpmamlibmhaaDoorWGuard
import Derived.Test.YtbdhpmamlibmhaaDoorWNEv
import Derived.Test.YtbdhpmamlibmhaaDoorWMore
namespace Go.Proofs.YtbdhpmamlibmhaaDoor.XFnExactReadRecord
open Go.RowKit Go.Proofs.YtbdhpmamlibmhaaDoorW.PrintWords Go.Proofs.YtbdhpmamlibmhaaDoorW.PrintLast Go.Proofs.YtbdhpmamlibmhaaDoorW.PrintMore
attribute [local go_sem] max2_int min2_int max_two min_two max_three min_three max_four min_four   -- for this text's walks alone
set_option linter.unusedVariables false
set_option linter.unusedSimpArgs false



def errW : Option Int → Value
  | none => .nilIface
  | some c => .iface 0 (.int .i64 c)
theorem errW_none : errW none = .nilIface := rfl
theorem errW_some (c : Int) : errW (some c) = .iface 0 (.int .i64 c) := rfl

theorem bsz1 (a : UInt8) : (⟨#[a]⟩ : ByteArray).size = 1 := rfl
theorem bsz2 (a b : UInt8) : (⟨#[a, b]⟩ : ByteArray).size = 2 := rfl
theorem bsz3 (a b c : UInt8) : (⟨#[a, b, c]⟩ : ByteArray).size = 3 := rfl
theorem bsz4 (a b c d : UInt8) : (⟨#[a, b, c, d]⟩ : ByteArray).size = 4 := rfl
theorem var_below_ {P : Program} {w w' : World} {n : String} {cs : Array Value} (hb : Below w.heap.size w w') (h : w.var? P n = some cs) : w'.var? P n = some cs := by
  unfold World.var? at h ⊢
  cases hg : P.globalNamed n with
  | none => rw [hg] at h; simp at h
  | some g =>
    rw [hg] at h
    simp only [Option.bind_some] at h ⊢
    have hlt : g < w.heap.size := by
      by_cases hlt : g < w.heap.size
      · exact hlt
      · rw [Array.getElem?_eq_none (by omega)] at h; simp at h
    rw [hb.block g hlt]
    exact h
theorem cell_below_ {w w' : World} {a : Addr} {v : Value} (hb : Below w.heap.size w w') (h : w.cell? a = some v) : w'.cell? a = some v := (hb.cell (World.block_lt_of_cell? _ _ h)).trans h
theorem C_cells {w : World} {A : Option Addr} {n : Nat} {l : List ByteArray} (h : Kd.C Kd.string w A n l) : l = [] ∨ ∃ b o, A = some ⟨b, o, none⟩ ∧ ∀ (j : Nat) x, l[j]? = some x → w.cell? ⟨b, o + j, none⟩ = some (.string x) := by
  cases l with
  | nil => exact .inl rfl
  | cons a l =>
    have hr := Kd.reads_of_C (enc := Value.string) (d := ByteArray.empty) (h1 := fun _ => rfl) h
    obtain ⟨hl, _, hc_⟩ := hr
    have hn : 0 < n := by rw [← hl]; simp
    obtain ⟨⟨b, o, s⟩, rfl, hc⟩ := hc_ hn
    clear hc_
    have h0 := hc 0 hn
    have hs : s = none := by
      cases s with
      | none => rfl
      | some k => simp [Addr.add, World.cell?] at h0; split at h0 <;> simp at h0
    subst hs
    refine .inr ⟨b, o, rfl, fun j x hj => ?_⟩
    have hlt : j < n := by
      obtain ⟨hlt, _⟩ := List.getElem?_eq_some_iff.1 hj
      omega
    have := hc j hlt
    rw [show (⟨b, o, none⟩ : Addr).add j = ⟨b, o + j, none⟩ from by unfold Addr.add; split <;> simp_all] at this
    rw [this, List.getD_eq_getElem?_getD, hj]
    rfl
theorem below_grow_ (w : World) (k : Nat) (os : Array Obj) : Below w.heap.size w (Sort.grow (w.drewN k) os) :=
  ⟨rfl, rfl, rfl, by show w.heap.size ≤ (w.heap ++ os).size; rw [Array.size_append]; omega, fun _ hj => Sort.heap_grow_old (w.drewN k) os hj⟩
theorem Drawn0.below_trans_ {w w2 : World} (h : Below w.heap.size w w2) (n : Nat) : Below w.heap.size w (w2.drewN n) := h.trans ((Drawn0.step (Drawn0.refl w2) n).below.mono h.size)
/-- What the library's variables read as. -/
structure Vars (w : World) : Prop where
  tab : Lib.TabIs Tryd.prog w "internal/strconv.uint64pow10" .u64 Lib.pow10Tab
  syn : ∃ ev, w.cell? ⟨2, 0, none⟩ = some ev ∧ (ev = .nilIface ∨ ∃ te pe, ev = .iface te pe)
  rng : ∃ ev, w.cell? ⟨3, 0, none⟩ = some ev ∧ (ev = .nilIface ∨ ∃ te pe, ev = .iface te pe)
  max : ∃ m, w.cell? ⟨0, 0, none⟩ = some (.int .i64 m)
theorem Vars.below {w w' : World} (h : Vars w) (hb : Below w.heap.size w w') : Vars w' := ⟨var_below_ hb h.tab, (let ⟨ev, h1, h2⟩ := h.syn; ⟨ev, cell_below_ hb h1, h2⟩), (let ⟨ev, h1, h2⟩ := h.rng; ⟨ev, cell_below_ hb h1, h2⟩), (let ⟨m, h1⟩ := h.max; ⟨m, cell_below_ hb h1⟩)⟩


theorem info3 : (Tryd.prog.info? 3).map (fun i => (i.zero, i.size, i.bytes)) = some (some (.int .i64 0), 1, 8) := by kernel_rfl
theorem info5 : (Tryd.prog.info? 5).map (fun i => (i.zero, i.size, i.bytes)) = some (some (.int .u8 0), 1, 1) := by kernel_rfl
theorem info9 : (Tryd.prog.info? 9).map (fun i => (i.zero, i.size, i.bytes)) = some (some (.string ⟨#[]⟩), 1, 16) := by kernel_rfl
-- the values' own types
def rd_L3 (xs : List (List ByteArray)) (i : Int) : (List ByteArray) := xs.getD i.toNat ([] : List ByteArray)
theorem at_L3 {w : World} {A : Option Addr} {n : Nat} {xs : List (List ByteArray)} (h : Kd.C (Kd.slice 9 Kd.string) w A n xs) (i : Int) (h0 : 0 ≤ i) (h1 : i < n) : ∃ ad A0 c0, A = some ad ∧ w.cell? (ad.add i.toNat) = some (.slice A0 (rd_L3 xs i).length c0) ∧ (rd_L3 xs i).length ≤ c0 ∧ Kd.string.C w A0 (rd_L3 xs i).length (rd_L3 xs i) := by
  obtain ⟨ad, c, e, _, hK, hc0⟩ := Kd.C_get h ([] : List ByteArray) i h0 h1
  have hc : ∀ j u, c[j]? = some u → w.cell? (ad.add (i.toNat * 1 + j)) = some u := hc0
  obtain ⟨A0, c0, rfl, l0, g0⟩ := hK
  exact ⟨ad, A0, c0, e, by have hq := hc 0 _ rfl; rwa [Nat.mul_one, Nat.add_zero] at hq, l0, g0⟩

end Go.Proofs.YtbdhpmamlibmhaaDoor.XFnExactReadRecord
