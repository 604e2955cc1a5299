-- Printed by this session's own program wip/tools/xprint.py, which widens the kit's print. Not trusted: Lean checks it.
import Derived.Test.YtgkfemnfbkgeiaaXFnStorex0
namespace Go.Proofs.Ytgkfemnfbkgeiaa.XFnStore
open Go.RowKit Go.Proofs.YtgkfemnfbkgeiaaW.PrintWords Go.Proofs.YtgkfemnfbkgeiaaW.PrintLast Go.Proofs.YtgkfemnfbkgeiaaW.PrintMore
attribute [local go_sem] max2_int min2_int max_two min_two max_three min_three max_four min_four   -- for this text's walks alone
set_option linter.unusedVariables false
set_option linter.unusedSimpArgs false

/-- A state of type 68 at block g of W; what its slices lead to came in by w0. -/
def IsS68 (w0 W : World) (g : Nat) (f0 : List Int) (f1 : Int) (f2 : Int) : Prop := ∃ A0 c0,W.heap[g]? = some (.cells #[.slice A0 f0.length c0,.int .i64 f1,.int .i64 f2] 68 (0,0)) ∧ w0.heap.size ≤ g ∧ Kd.C (Kd.int .u8) w0 A0 f0.length f0
theorem IsS68.grown {w0 W : World} {g : Nat} {f0 : List Int} {f1 : Int} {f2 : Int} {W1 : World} {row : Option Nat} (h : IsS68 w0 W g f0 f1 f2) (hw : W.grownBy W1 row) (hne : some g ≠ row) : IsS68 w0 W1 g f0 f1 f2 := by
 obtain ⟨A0,c0,hb,hg,hr0⟩ := h
 exact ⟨A0,c0,blk_grown hb hw hne,hg,hr0⟩
theorem IsS68.own_neN {w0 W : World} {g : Nat} {f0 : List Int} {f1 : Int} {f2 : Int} {α : Type} {d : Kd α} {e : Nat} {base : Nat} {ok : Nat → Prop} {v : Value} {xs : List α} (h : IsS68 w0 W g f0 f1 f2) (ho : Kd.N d e W base ok v xs) (ht : e ≠ 68) : some g ≠ v.ownBlock := by
 obtain ⟨A0,c0,hb,hg,hr0⟩ := h
 exact Kd.N_ne ho hb ht
theorem IsS68.fresh {w0 W : World} {g : Nat} {f0 : List Int} {f1 : Int} {f2 : Int} (h : IsS68 w0 W g f0 f1 f2) : ∀ k,W.heap.size ≤ k → k ≠ g := by
 obtain ⟨A0,c0,hb,hg,hr0⟩ := h
 exact Kd.freshB hb
theorem IsS68.kept {w0 W : World} {g : Nat} {f0 : List Int} {f1 : Int} {f2 : Int} {W1 : World} {S : Nat → Prop} (h : IsS68 w0 W g f0 f1 f2) (hk : Kept W W1 S) (hne : ¬ S g) : IsS68 w0 W1 g f0 f1 f2 := by
 obtain ⟨A0,c0,hb,hg,hr0⟩ := h
 exact ⟨A0,c0,blk_kept hb hk hne,hg,hr0⟩
theorem IsS68.below {w0 W : World} {g : Nat} {f0 : List Int} {f1 : Int} {f2 : Int} {W1 : World} (h : IsS68 w0 W g f0 f1 f2) (hw : Below W.heap.size W W1) : IsS68 w0 W1 g f0 f1 f2 := h.grown (grown_of_below hw none) (by simp)
theorem IsS68.alloc {w0 W : World} {g : Nat} {f0 : List Int} {f1 : Int} {f2 : Int} (h : IsS68 w0 W g f0 f1 f2) (o : Obj) : IsS68 w0 (W.alloc o) g f0 f1 f2 := h.below (below_alloc (Below.refl _ _) o)
theorem IsS68.drewN {w0 W : World} {g : Nat} {f0 : List Int} {f1 : Int} {f2 : Int} (h : IsS68 w0 W g f0 f1 f2) (m : Nat) : IsS68 w0 (W.drewN m) g f0 f1 f2 := h
theorem IsS68.drew {w0 W : World} {g : Nat} {f0 : List Int} {f1 : Int} {f2 : Int} (h : IsS68 w0 W g f0 f1 f2) : IsS68 w0 W.drew g f0 f1 f2 := h
theorem IsS68.at_ {w0 W : World} {g : Nat} {f0 : List Int} {f1 : Int} {f2 : Int} {w' : World} {m : Nat} (hq : W.drewN m = w') (h : IsS68 w0 W g f0 f1 f2) : IsS68 w0 w' g f0 f1 f2 := by subst hq; exact IsS68.drewN h m
theorem IsS68.apart {w0 W : World} {g : Nat} {f0 : List Int} {f1 : Int} {f2 : Int} {α : Type} {d : Kd α} {e : Nat} {base : Nat} {ok : Nat → Prop} {v : Value} {xs : List α} (h : IsS68 w0 W g f0 f1 f2) (ho : d.R e W base ok v xs) (ht : ∀ q,q ∈ e :: d.E → q ≠ 68) : d.R e W base (fun k => ok k ∧ k ≠ g) v xs := by
 obtain ⟨A0,c0,hb,hg,hr0⟩ := h
 exact Kd.R_types ho hb ht
theorem IsS68.own_ne {w0 W : World} {g : Nat} {f0 : List Int} {f1 : Int} {f2 : Int} {α : Type} {d : Kd α} {e : Nat} {base : Nat} {ok : Nat → Prop} {v : Value} {xs : List α} (h : IsS68 w0 W g f0 f1 f2) (ho : d.R e W base ok v xs) (ht : e ≠ 68) : some g ≠ v.ownBlock := by
 obtain ⟨A0,c0,hb,hg,hr0⟩ := h
 exact Kd.R_ne ho hb ht
theorem IsS68.apartQ {w0 W : World} {g : Nat} {f0 : List Int} {f1 : Int} {f2 : Int} {α : Type} {d : Kd α} {e : Nat} {base : Nat} {ok : Nat → Prop} {v : Value} {xs : List α} (h : IsS68 w0 W g f0 f1 f2) (ho : d.Q e W base ok v xs) (ht : ∀ q,q ∈ e :: d.E → q ≠ 68) : d.Q e W base (fun k => ok k ∧ k ≠ g) v xs := by
 obtain ⟨A0,c0,hb,hg,hr0⟩ := h
 exact Kd.Q_types ho hb ht
theorem IsS68.own_neQ {w0 W : World} {g : Nat} {f0 : List Int} {f1 : Int} {f2 : Int} {α : Type} {d : Kd α} {e : Nat} {base : Nat} {ok : Nat → Prop} {v : Value} {xs : List α} (h : IsS68 w0 W g f0 f1 f2) (ho : d.Q e W base ok v xs) (ht : e ≠ 68) : some g ≠ v.ownBlock := by
 obtain ⟨A0,c0,hb,hg,hr0⟩ := h
 exact Kd.Q_ne ho hb ht
theorem IsS68.apartS {w0 W : World} {g : Nat} {f0 : List Int} {f1 : Int} {f2 : Int} {α : Type} {d : Kd α} {e : Nat} {base : Nat} {ok : Nat → Prop} {v : Value} {xs : List α} (h : IsS68 w0 W g f0 f1 f2) (ho : d.S e W base ok v xs) (ht : ∀ q,q ∈ e :: d.E → q ≠ 68) : d.S e W base (fun k => ok k ∧ k ≠ g) v xs := by
 obtain ⟨A0,c0,hb,hg,hr0⟩ := h
 exact Kd.S_types ho hb ht
theorem IsS68.own_neS {w0 W : World} {g : Nat} {f0 : List Int} {f1 : Int} {f2 : Int} {α : Type} {d : Kd α} {e : Nat} {base : Nat} {ok : Nat → Prop} {v : Value} {xs : List α} (h : IsS68 w0 W g f0 f1 f2) (ho : d.S e W base ok v xs) (ht : e ≠ 68) : some g ≠ v.ownBlock := by
 obtain ⟨A0,c0,hb,hg,hr0⟩ := h
 exact Kd.S_ne ho hb ht
theorem IsS68.lt {w0 W : World} {g : Nat} {f0 : List Int} {f1 : Int} {f2 : Int} (h : IsS68 w0 W g f0 f1 f2) : g < W.heap.size := by
 obtain ⟨A0,c0,hb,hg,hr0⟩ := h
 exact blk_lt hb
theorem IsS68.ge {w0 W : World} {g : Nat} {f0 : List Int} {f1 : Int} {f2 : Int} (h : IsS68 w0 W g f0 f1 f2) : w0.heap.size ≤ g := by
 obtain ⟨A0,c0,hb,hg,hr0⟩ := h
 exact hg
theorem IsS68.ne_blk {w0 W : World} {g : Nat} {f0 : List Int} {f1 : Int} {f2 : Int} {a : Nat} {cs : Array Value} {t : TypeId} {fr : Nat × Nat} (h : IsS68 w0 W g f0 f1 f2) (hb2 : W.heap[a]? = some (.cells cs t fr)) (ht : t ≠ 68) : g ≠ a := by
 obtain ⟨A0,c0,hb,hg,hr0⟩ := h
 rintro rfl
 rw [hb] at hb2
 injection hb2 with hb2
 injection hb2 with _ ht2
 exact ht ht2.symm
theorem IsS68.far {w0 W : World} {g : Nat} {f0 : List Int} {f1 : Int} {f2 : Int} {p : Addr} (h : IsS68 w0 W g f0 f1 f2) (hne : g ≠ p.block) (u : Value) : IsS68 w0 (W.setCell p u) g f0 f1 f2 := by
 obtain ⟨A0,c0,hb,hg,hr0⟩ := h
 exact ⟨A0,c0,blk_far hb hne u,hg,hr0⟩
theorem cellS68_0 {W : World} {g : Nat} {A0 : Option Addr} {c0 : Nat} {f0 : List Int} {f1 : Int} {f2 : Int} (h : W.heap[g]? = some (.cells #[.slice A0 f0.length c0,.int .i64 f1,.int .i64 f2] 68 (0,0))) : W.cell? ⟨g,0,none⟩ = some (.slice A0 f0.length c0) := (blk_cell h 0).trans rfl
theorem cellS68_1 {W : World} {g : Nat} {A0 : Option Addr} {c0 : Nat} {f0 : List Int} {f1 : Int} {f2 : Int} (h : W.heap[g]? = some (.cells #[.slice A0 f0.length c0,.int .i64 f1,.int .i64 f2] 68 (0,0))) : W.cell? ⟨g,1,none⟩ = some (.int .i64 f1) := (blk_cell h 1).trans rfl
theorem IsS68.set_1 {w0 W : World} {g : Nat} {f0 : List Int} {f1 : Int} {f2 : Int} (h : IsS68 w0 W g f0 f1 f2) (x : Int) : IsS68 w0 (W.setCell ⟨g,1,none⟩ (.int .i64 x)) g f0 x f2 := by
 obtain ⟨A0,c0,hb,hg,hr0⟩ := h
 exact ⟨A0,c0,by simpa using blk_set hb 1 (.int .i64 x),hg,hr0⟩
theorem cellS68_2 {W : World} {g : Nat} {A0 : Option Addr} {c0 : Nat} {f0 : List Int} {f1 : Int} {f2 : Int} (h : W.heap[g]? = some (.cells #[.slice A0 f0.length c0,.int .i64 f1,.int .i64 f2] 68 (0,0))) : W.cell? ⟨g,2,none⟩ = some (.int .i64 f2) := (blk_cell h 2).trans rfl
theorem IsS68.set_2 {w0 W : World} {g : Nat} {f0 : List Int} {f1 : Int} {f2 : Int} (h : IsS68 w0 W g f0 f1 f2) (x : Int) : IsS68 w0 (W.setCell ⟨g,2,none⟩ (.int .i64 x)) g f0 f1 x := by
 obtain ⟨A0,c0,hb,hg,hr0⟩ := h
 exact ⟨A0,c0,by simpa using blk_set hb 2 (.int .i64 x),hg,hr0⟩
theorem IsS68.new (w0 W : World) (A0 : Option Addr) (c0 : Nat) (f0 : List Int) (f1 : Int) (f2 : Int) (hB : Below w0.heap.size w0 W) (hr0 : Kd.C (Kd.int .u8) w0 A0 f0.length f0) : IsS68 w0 (W.alloc (.cells #[.slice A0 f0.length c0,.int .i64 f1,.int .i64 f2] 68)) W.heap.size f0 f1 f2 := ⟨A0,c0,by simpa using heap_alloc_new W _,hB.size,hr0⟩

theorem bI68 {p : Prop} (h : p := by repeat (first | (with_reducible first | exact HB.out | apply below_alloc | apply pw_below_drewN | apply below_drew1 | refine below_set ?_ (IsS68.ge HI0.out)) | refine below_set (w := w0) ?_ (Aside0.out (by first | with_reducible assumption | assumption)) | exact HB.out)) : p := h
theorem iS68 {p : Prop} (h : p := by repeat (first | (with_reducible first | exact HI0.out | apply IsS68.alloc | apply IsS68.drewN | apply IsS68.drew | apply IsS68.set_1 | apply IsS68.set_2) | refine IsS68.far (g := g) ?_ (Aside0.out (by first | with_reducible assumption | assumption)) _ | exact HI0.out)) : p := h
/-! ### spec_l00Source: function 21 -/
def spec_l00Source.f (l0 : List Int) : Option (List Int × Int × Int) := some (l0,0,(l0.length : Int) % 1000)
set_option maxHeartbeats 8000000 in
set_option maxRecDepth 100000 in
theorem spec_l00Source.calls (A0 : Option Addr) (c0 : Nat) (l0 : List Int) (r1 : List Int) (r2 : Int) (r3 : Int) (w0 w : World) (hB : Below w0.heap.size w0 w) (hr0 : Kd.C (Kd.int .u8) w0 A0 l0.length l0) (hc0 : l0.length ≤ c0) (h : spec_l00Source.f l0 = some (r1,r2,r3)) :
  Calls Try.prog 21 #[.slice A0 l0.length c0] w fun e w' => ∃ g_ : Nat,e = .returned (.pointer (some ⟨g_,0,none⟩)) ∧ IsS68 w0 w' g_ r1 r2 r3 ∧ Below w0.heap.size w0 w' ∧ Below w.heap.size w w' := by
 have hu68 := Try.underlying68
 have HR0 := Aside0.mk hr0
 have HC0 := Aside0.mk hc0
 clear hr0 hc0
 have HBW := Aside0.mk (Below.refl w.heap.size w)
 have HW0 := Aside0.mk hB.size
 have HB := Aside0.mk hB
 clear hB
 have H : (some (l0,0,(l0.length : Int) % 1000)) = some (r1,r2,r3) := h
 clear h
 simp only [Option.some.injEq,Prod.mk.injEq] at H
 obtain ⟨rfl,rfl,rfl⟩ := H
 go_enter Try.func21,Try.ntmps21
 go_wp2_with (first | ((with_reducible refine gate_dst (N:=8) rfl ?_); refine bxe (N:=8) (cs := #[.slice A0 l0.length c0,.int .i64 0,.int .i64 ((l0.length : Int) % 1000)]) (t:=68) ?_; intro gb101 hg w2 hbox hb; replace HB := bsA hb; have BK101 := Aside0.mk (hbox); have GW101 := Aside0.mk ((by rw [hg]; exact (below_size (by repeat (first | (with_reducible first | exact HBW.out | apply below_alloc | apply pw_below_drewN | apply below_drew1) | exact HBW.out))) : w.heap.size ≤ gb101)); have GE101 := Aside0.mk ((Nat.le_trans HW0.out (by rw [hg]; exact (below_size (by repeat (first | (with_reducible first | exact HBW.out | apply below_alloc | apply pw_below_drewN | apply below_drew1) | exact HBW.out))) : w.heap.size ≤ gb101) : w0.heap.size ≤ gb101)); replace HBW := Aside0.mk (below_step HBW.out hb); clear hb hbox hg))
 go_ret
 exact ⟨_,rfl,(show IsS68 w0 _ gb101 l0 0 ((l0.length : Int) % 1000) from ⟨_,_,kA BK101.out,GE101.out,HR0.out⟩),bA,by repeat (first | (with_reducible first | exact HBW.out | apply below_alloc | apply pw_below_drewN | apply below_drew1 | refine below_set ?_ GW101.out) | exact HBW.out)⟩

/-! ### spec_l00Src_byte: function 68 (by hand) -/
def spec_l00Src_byte.f (c : List Int) (p s : Int) : Option (Int × Int × Int) :=
 if 0 ≤ p ∧ p ≤ 140737488351232 then
  if p + 1 ≤ (c.length : Int) then some (wrap64 (rd c p),p + 1,Int.tmod (wrap64 (wrap64 (wrap64 (s * 31) + wrap64 (rd c p)) + 7)) 2147483648)
  else if p + 1 > 3000 then some (0,p + 1,s)
  else some (Int.tmod (wrap64 (Int.tdiv (Int.tmod (wrap64 (wrap64 (s * 1103515245) + 12345)) 2147483648) 65536)) 256,p + 1,Int.tmod (wrap64 (wrap64 (s * 1103515245) + 12345)) 2147483648)
 else none
set_option maxHeartbeats 8000000 in
set_option maxRecDepth 100000 in
theorem spec_l00Src_byte.calls (g : Nat) (s0 : List Int) (s1 s2 r1 r2 r3 : Int) (w0 w : World) (hI : IsS68 w0 w g s0 s1 s2) (hB : Below w0.heap.size w0 w) (h : spec_l00Src_byte.f s0 s1 s2 = some (r1,r2,r3)) :
  Calls Try.prog 68 #[.pointer (some ⟨g,0,none⟩)] w fun e w' => e = .returned (.int .i64 r1) ∧ IsS68 w0 w' g s0 r2 r3 ∧ Below w0.heap.size w0 w' ∧ KeepBut w w' g none := by
 have HK := Aside0.mk (KeepBut.refl w g none)
 have hu_ := Try.underlying68
 have HI := Aside0.mk hI
 have HBw := Aside0.mk hB
 obtain ⟨A0,c0,hb,hg,hr0⟩ := hI
 have hc0 := cellS68_0 hb
 have hc1 := cellS68_1 hb
 have hc2 := cellS68_2 hb
 have hf1 := blk_frozen hb 1
 have hf2 := blk_frozen hb 2
 have HG := Aside0.mk hg
 have HR := Aside0.mk hr0
 have HBK := Aside0.mk hb
 clear hg hr0 hb hB
 unfold spec_l00Src_byte.f at h
 by_cases hp : 0 ≤ s1 ∧ s1 ≤ 140737488351232
 ·rw [if_pos hp] at h
  obtain ⟨hp1,hp2⟩ := hp
  have hw1 : wrap64 (s1 + 1) = s1 + 1 := by unfold wrap64; omega
  by_cases hl : s1 + 1 ≤ (s0.length : Int)
  ·rw [if_pos hl] at h
   simp only [Option.some.injEq,Prod.mk.injEq] at h
   obtain ⟨rfl,rfl,rfl⟩ := h
   have hd : decide (wrap64 (s1 + 1) ≤ (s0.length : Int)) = true := by rw [hw1]; exact decide_eq_true hl
   go_enter Try.func68,Try.ntmps68
   go_upto_region 2 with fail
   generalize hW : w.setCell ⟨g,1,none⟩ (.int .i64 (s1 + 1)) = w1
   have HW : Aside0 (w.setCell ⟨g,1,none⟩ (.int .i64 (s1 + 1)) = w1) := ⟨hW⟩
   have hI1 : Aside0 (IsS68 w0 w1 g s0 (s1 + 1) s2) := ⟨by rw [← HW.out]; exact HI.out.set_1 _⟩
   have hBb : w1.heap[g]? = some (Obj.cells #[Value.slice A0 s0.length c0,Value.int IntKind.i64 (s1 + 1),Value.int IntKind.i64 s2] 68 (0,0)) := by rw [← hW]; exact blk_put HBK.out 1 _ rfl
   have hHB1 : Aside0 (Below w0.heap.size w0 w1) := ⟨by rw [← hW]; exact below_set HBw.out HG.out⟩
   have hHK1 : Aside0 (KeepBut w w1 g none) := ⟨by rw [← hW]; exact KeepBut.set_ HK.out _ _⟩
   clear hc0 hc1 hc2 hf1 hf2 hW HI HBK HBw HK
   have hc0 := cellS68_0 hBb
   have hc1 := cellS68_1 hBb
   have hc2 := cellS68_2 hBb
   have hf2 := blk_frozen hBb 2
   obtain ⟨ad,rfl,hx0⟩ := Kd.at_int (Kd.C_below HR.out hHB1.out) s1 hp1 (by omega)
   have hi0 : (0 : Int) ≤ s1 := hp1
   have hi1 : s1 < (s0.length : Int) := by omega
   have hw2 : wrap64 (s1 + 1 - 1) = s1 := by unfold wrap64; omega
   have hw3 : wrap64 s1 = s1 := by unfold wrap64; omega
   have hw4 : IntKind.i64.wrap s1 = s1 := by rw [i64_w]; exact hw3
   have hd2 : decide (s1 + 1 ≤ (s0.length : Int)) = true := decide_eq_true hl
   go_wp2_with fail
   go_quiet (fail)
   go_upto_region 3 with fail
   generalize hW2 : w1.drewN nq = w2
   have HW2 : Aside0 (w1.drewN nq = w2) := ⟨hW2⟩
   have hI2 : Aside0 (IsS68 w0 w2 g s0 (s1 + 1) s2) := ⟨by rw [← HW2.out]; exact hI1.out.drewN _⟩
   have hBb2 : w2.heap[g]? = some (Obj.cells #[Value.slice (some ad) s0.length c0,Value.int IntKind.i64 (s1 + 1),Value.int IntKind.i64 s2] 68 (0,0)) := by rw [← hW2]; exact hBb
   have hHB2 : Aside0 (Below w0.heap.size w0 w2) := ⟨by rw [← hW2]; exact pw_below_drewN hHB1.out _⟩
   have hHK2 : Aside0 (KeepBut w w2 g none) := ⟨by rw [← hW2]; exact keep_drewN hHK1.out _⟩
   have hx2 : w2.cell? (ad.add s1.toNat) = some (.int .u8 (rd s0 s1)) := by rw [← hW2]; exact hx0
   clear hc0 hc1 hc2 hf2 hW2 hI1 hHB1 hHK1 hBb hx0
   have hc0 := cellS68_0 hBb2
   have hc1 := cellS68_1 hBb2
   have hc2 := cellS68_2 hBb2
   have hf2 := blk_frozen hBb2 2
   go_wp2_with fail
   go_still_tail 21,(by kernel_rfl)
   change wpList _ _ _ _ _ (World.drew _)
   go_upto_region 4 with fail
   generalize hW3 : (w2.setCell ⟨g,2,none⟩ (.int .i64 (Int.tmod (wrap64 (wrap64 (wrap64 (s2 * 31) + wrap64 (rd s0 s1)) + 7)) 2147483648))).drew = w3
   have HW3 := Aside0.mk hW3
   have hI3 : Aside0 (IsS68 w0 w3 g s0 (s1 + 1) (Int.tmod (wrap64 (wrap64 (wrap64 (s2 * 31) + wrap64 (rd s0 s1)) + 7)) 2147483648)) := ⟨by rw [← HW3.out]; exact (hI2.out.set_2 _).drew⟩
   have hBb3 : w3.heap[g]? = some (Obj.cells #[Value.slice (some ad) s0.length c0,Value.int IntKind.i64 (s1 + 1),Value.int IntKind.i64 (Int.tmod (wrap64 (wrap64 (wrap64 (s2 * 31) + wrap64 (rd s0 s1)) + 7)) 2147483648)] 68 (0,0)) := by rw [← hW3]; exact blk_drew (blk_put hBb2 2 _ rfl)
   have hHB3 : Aside0 (Below w0.heap.size w0 w3) := ⟨by rw [← hW3]; exact below_drew1 (below_set hHB2.out HG.out)⟩
   have hHK3 : Aside0 (KeepBut w w3 g none) := ⟨by rw [← hW3]; exact keep_drew (KeepBut.set_ hHK2.out _ _)⟩
   clear hc0 hc1 hc2 hf2 hW3 hI2 hHB2 hHK2 hBb2 hx2
   have hc0 := cellS68_0 hBb3
   have hc1 := cellS68_1 hBb3
   have hc2 := cellS68_2 hBb3
   obtain ⟨ad',ead,hx3⟩ := Kd.at_int (Kd.C_below HR.out hHB3.out) s1 hp1 (by omega)
   obtain rfl : ad = ad' := by injection ead
   go_wp2_with fail
   go_quiet (fail)
   go_wp2_with fail
   go_ret
   exact ⟨rfl,hI3.out.drewN _,pw_below_drewN hHB3.out _,keep_drewN hHK3.out _⟩
  ·rw [if_neg hl] at h
   have hd2 : decide (s1 + 1 ≤ (s0.length : Int)) = false := decide_eq_false hl
   by_cases hl2 : s1 + 1 > 3000
   ·rw [if_pos hl2] at h
    simp only [Option.some.injEq,Prod.mk.injEq] at h
    obtain ⟨rfl,rfl,rfl⟩ := h
    have hd3 : decide (s1 + 1 > 3000) = true := decide_eq_true hl2
    go_enter Try.func68,Try.ntmps68
    go_upto_region 2 with fail
    generalize hW : w.setCell ⟨g,1,none⟩ (.int .i64 (s1 + 1)) = w1
    have HW : Aside0 (w.setCell ⟨g,1,none⟩ (.int .i64 (s1 + 1)) = w1) := ⟨hW⟩
    have hI1 : Aside0 (IsS68 w0 w1 g s0 (s1 + 1) s2) := ⟨by rw [← HW.out]; exact HI.out.set_1 _⟩
    have hBb : w1.heap[g]? = some (Obj.cells #[Value.slice A0 s0.length c0,Value.int IntKind.i64 (s1 + 1),Value.int IntKind.i64 s2] 68 (0,0)) := by rw [← hW]; exact blk_put HBK.out 1 _ rfl
    have hHB1 : Aside0 (Below w0.heap.size w0 w1) := ⟨by rw [← hW]; exact below_set HBw.out HG.out⟩
    have hHK1 : Aside0 (KeepBut w w1 g none) := ⟨by rw [← hW]; exact KeepBut.set_ HK.out _ _⟩
    clear hc0 hc1 hc2 hf1 hf2 hW HI HBK HBw HK
    have hc0 := cellS68_0 hBb
    have hc1 := cellS68_1 hBb
    have hc2 := cellS68_2 hBb
    go_wp2_with fail
    go_quiet (fail)
    go_wp2_with fail
    go_ret
    exact ⟨rfl,hI1.out.drewN _,pw_below_drewN hHB1.out _,keep_drewN hHK1.out _⟩
   ·rw [if_neg hl2] at h
    simp only [Option.some.injEq,Prod.mk.injEq] at h
    obtain ⟨rfl,rfl,rfl⟩ := h
    have hd3 : decide (s1 + 1 > 3000) = false := decide_eq_false hl2
    go_enter Try.func68,Try.ntmps68
    go_upto_region 2 with fail
    generalize hW : w.setCell ⟨g,1,none⟩ (.int .i64 (s1 + 1)) = w1
    have HW : Aside0 (w.setCell ⟨g,1,none⟩ (.int .i64 (s1 + 1)) = w1) := ⟨hW⟩
    have hI1 : Aside0 (IsS68 w0 w1 g s0 (s1 + 1) s2) := ⟨by rw [← HW.out]; exact HI.out.set_1 _⟩
    have hBb : w1.heap[g]? = some (Obj.cells #[Value.slice A0 s0.length c0,Value.int IntKind.i64 (s1 + 1),Value.int IntKind.i64 s2] 68 (0,0)) := by rw [← hW]; exact blk_put HBK.out 1 _ rfl
    have hHB1 : Aside0 (Below w0.heap.size w0 w1) := ⟨by rw [← hW]; exact below_set HBw.out HG.out⟩
    have hHK1 : Aside0 (KeepBut w w1 g none) := ⟨by rw [← hW]; exact KeepBut.set_ HK.out _ _⟩
    clear hc0 hc1 hc2 hf1 hf2 hW HI HBK HBw HK
    have hc0 := cellS68_0 hBb
    have hc1 := cellS68_1 hBb
    have hc2 := cellS68_2 hBb
    have hf2 := blk_frozen hBb 2
    go_wp2_with fail
    go_quiet (fail)
    go_upto_region 8 with fail
    generalize hW2 : (w1.drewN nq).setCell ⟨g,2,none⟩ (.int .i64 (Int.tmod (wrap64 (wrap64 (s2 * 1103515245) + 12345)) 2147483648)) = w2
    have HW2 := Aside0.mk hW2
    have hI2 : Aside0 (IsS68 w0 w2 g s0 (s1 + 1) (Int.tmod (wrap64 (wrap64 (s2 * 1103515245) + 12345)) 2147483648)) := ⟨by rw [← HW2.out]; exact (hI1.out.drewN _).set_2 _⟩
    have hBb2 : w2.heap[g]? = some (Obj.cells #[Value.slice A0 s0.length c0,Value.int IntKind.i64 (s1 + 1),Value.int IntKind.i64 (Int.tmod (wrap64 (wrap64 (s2 * 1103515245) + 12345)) 2147483648)] 68 (0,0)) := by rw [← hW2]; exact blk_put (blk_drewN hBb _) 2 _ rfl
    have hHB2 : Aside0 (Below w0.heap.size w0 w2) := ⟨by rw [← hW2]; exact below_set (pw_below_drewN hHB1.out _) HG.out⟩
    have hHK2 : Aside0 (KeepBut w w2 g none) := ⟨by rw [← hW2]; exact KeepBut.set_ (keep_drewN hHK1.out _) _ _⟩
    clear hc0 hc1 hc2 hf2 hW2 hI1 hHB1 hHK1 hBb
    have hc2 := cellS68_2 hBb2
    go_wp2_with fail
    go_ret
    exact ⟨rfl,hI2.out,hHB2.out,hHK2.out⟩
 ·rw [if_neg hp] at h
  cases h

/-! ### spec_l00Src_next: function 46 -/
def spec_l00Src_next.f (s0_0 : List Int) (s0_1 : Int) (s0_2 : Int) (a1 : Int) : Option (Int × Int × Int) := if a1 ≤ 1 then (some (0,s0_1,s0_2)) else (if a1 ≤ 256 then ((spec_l00Src_byte.f s0_0 s0_1 s0_2).bind fun bt102 => (if a1 = 0 then (none) else (some (Int.tmod bt102.1 a1,bt102.2.1,bt102.2.2)))) else ((spec_l00Src_byte.f s0_0 s0_1 s0_2).bind fun bt105 => ((spec_l00Src_byte.f s0_0 bt105.2.1 bt105.2.2).bind fun bt108 => ((spec_l00Src_byte.f s0_0 bt108.2.1 bt108.2.2).bind fun bt111 => (if a1 = 0 then (none) else (some (Int.tmod (wrap64 ((wrap64 ((wrap64 (bt105.1 * 65536)) + (wrap64 (bt108.1 * 256)))) + bt111.1)) a1,bt111.2.1,bt111.2.2)))))))
set_option maxHeartbeats 8000000 in
set_option maxRecDepth 100000 in
theorem spec_l00Src_next.calls (g : Nat) (s0_0 : List Int) (s0_1 : Int) (s0_2 : Int) (a1 : Int) (r1 : Int) (r2 : Int) (r3 : Int) (w0 w : World) (hI : IsS68 w0 w g s0_0 s0_1 s0_2) (hB : Below w0.heap.size w0 w) (h : spec_l00Src_next.f s0_0 s0_1 s0_2 a1 = some (r1,r2,r3)) :
  Calls Try.prog 46 #[.pointer (some ⟨g,0,none⟩),.int .i64 a1] w fun e w' => e = .returned (.int .i64 r1) ∧ IsS68 w0 w' g s0_0 r2 r3 ∧ Below w0.heap.size w0 w' ∧ KeepBut w w' g none := by
 have HI0 := Aside0.mk hI
 have HK := Aside0.mk (KeepBut.refl w g none)
 have HL := Aside0.mk hB.size
 clear hI
 have HW0 := Aside0.mk hB.size
 have HB := Aside0.mk hB
 clear hB
 have H : (if a1 ≤ 1 then (some (0,s0_1,s0_2)) else (if a1 ≤ 256 then ((spec_l00Src_byte.f s0_0 s0_1 s0_2).bind fun bt102 => (if a1 = 0 then (none) else (some (Int.tmod bt102.1 a1,bt102.2.1,bt102.2.2)))) else ((spec_l00Src_byte.f s0_0 s0_1 s0_2).bind fun bt105 => ((spec_l00Src_byte.f s0_0 bt105.2.1 bt105.2.2).bind fun bt108 => ((spec_l00Src_byte.f s0_0 bt108.2.1 bt108.2.2).bind fun bt111 => (if a1 = 0 then (none) else (some (Int.tmod (wrap64 ((wrap64 ((wrap64 (bt105.1 * 65536)) + (wrap64 (bt108.1 * 256)))) + bt111.1)) a1,bt111.2.1,bt111.2.2)))))))) = some (r1,r2,r3) := h
 clear h
 by_cases c3 : a1 ≤ 1
 ·rw [if_pos c3] at H
  have c3b0 : decide (a1 ≤ 1) = true := decide_eq_true c3
  clear c3
  simp only [Option.some.injEq,Prod.mk.injEq] at H
  obtain ⟨rfl,rfl,rfl⟩ := H
  go_enter Try.func46,Try.ntmps46
  go_wp2
  go_ret
  exact ⟨by first | rfl | (simp only [i64_w,i32_w] <;> rfl) | (simp [errW_none,errW_some] <;> rfl) | (simp [*,errW_none,errW_some] <;> rfl),by exact iS68,by exact bI68,by exact kK⟩
 ·rw [if_neg c3] at H
  have c3b0 : decide (a1 ≤ 1) = false := decide_eq_false c3
  clear c3
  by_cases c4 : a1 ≤ 256
  ·rw [if_pos c4] at H
   have c4b0 : decide (a1 ≤ 256) = true := decide_eq_true c4
   clear c4
   replace H := Option.bind_eq_some_iff.mp H
   obtain ⟨⟨t102,t103,t104⟩,A50,H⟩ := H
   try dsimp only at H
   have A5 := Aside0.mk A50
   clear A50
   by_cases c6 : a1 = 0
   ·rw [if_pos c6] at H
    exact absurd H (by simp)
   ·rw [if_neg c6] at H
    have c6b0 : (a1 == 0) = false := beq_eq_false_iff_ne.mpr c6
    have c6b1 : (a1 != 0) = true := bne_iff_ne.mpr c6
    simp only [Option.some.injEq,Prod.mk.injEq] at H
    obtain ⟨rfl,rfl,rfl⟩ := H
    go_enter Try.func46,Try.ntmps46
    go_wp2_with (first | ((with_reducible refine gate_callee (f:=68) rfl ?_); refine goesL_ (some 13) rfl rfl Try.func68 (by kernel_rfl) rfl #[.pointer (some ⟨g,0,none⟩)] rfl mA ?_; (with_reducible refine (spec_l00Src_byte.calls g s0_0 s0_1 s0_2 t102 t103 t104 w0 _ ?side1 ?side2 A5.out).mono ?_); (case side1 => exact iS68); (case side2 => exact bI68); rintro e w7 ⟨rfl,hi,hb,hk⟩; refine ⟨_,rfl,?_⟩; replace HK := Aside0.mk (KeepBut.trans kK hk (.inl rfl)); replace HB := Aside0.mk (hb); replace HI0 := Aside0.mk (hi); clear hb hi hk))
    go_ret
    exact ⟨by first | rfl | (simp only [i64_w,i32_w] <;> rfl) | (simp [errW_none,errW_some] <;> rfl) | (simp [*,errW_none,errW_some] <;> rfl),by exact iS68,by exact bI68,by exact kK⟩
  ·rw [if_neg c4] at H
   have c4b0 : decide (a1 ≤ 256) = false := decide_eq_false c4
   clear c4
   replace H := Option.bind_eq_some_iff.mp H
   obtain ⟨⟨t105,t106,t107⟩,A80,H⟩ := H
   try dsimp only at H
   have A8 := Aside0.mk A80
   clear A80
   replace H := Option.bind_eq_some_iff.mp H
   obtain ⟨⟨t108,t109,t110⟩,A90,H⟩ := H
   try dsimp only at H
   have A9 := Aside0.mk A90
   clear A90
   replace H := Option.bind_eq_some_iff.mp H
   obtain ⟨⟨t111,t112,t113⟩,A100,H⟩ := H
   try dsimp only at H
   have A10 := Aside0.mk A100
   clear A100
   by_cases c11 : a1 = 0
   ·rw [if_pos c11] at H
    exact absurd H (by simp)
   ·rw [if_neg c11] at H
    have c11b0 : (a1 == 0) = false := beq_eq_false_iff_ne.mpr c11
    have c11b1 : (a1 != 0) = true := bne_iff_ne.mpr c11
    simp only [Option.some.injEq,Prod.mk.injEq] at H
    obtain ⟨rfl,rfl,rfl⟩ := H
    go_enter Try.func46,Try.ntmps46
    go_wp2_with (first | ((with_reducible refine gate_callee (f:=68) rfl ?_); refine goesL_ (some 17) rfl rfl Try.func68 (by kernel_rfl) rfl #[.pointer (some ⟨g,0,none⟩)] rfl mA ?_; (with_reducible refine (spec_l00Src_byte.calls g s0_0 s0_1 s0_2 t105 t106 t107 w0 _ ?side1 ?side2 A8.out).mono ?_); (case side1 => exact iS68); (case side2 => exact bI68); rintro e w12 ⟨rfl,hi,hb,hk⟩; refine ⟨_,rfl,?_⟩; replace HK := Aside0.mk (KeepBut.trans kK hk (.inl rfl)); replace HB := Aside0.mk (hb); replace HI0 := Aside0.mk (hi); clear hb hi hk) | ((with_reducible refine gate_callee (f:=68) rfl ?_); refine goesL_ (some 19) rfl rfl Try.func68 (by kernel_rfl) rfl #[.pointer (some ⟨g,0,none⟩)] rfl mA ?_; (with_reducible refine (spec_l00Src_byte.calls g s0_0 t106 t107 t108 t109 t110 w0 _ ?side1 ?side2 A9.out).mono ?_); (case side1 => exact iS68); (case side2 => exact bI68); rintro e w13 ⟨rfl,hi,hb,hk⟩; refine ⟨_,rfl,?_⟩; replace HK := Aside0.mk (KeepBut.trans kK hk (.inl rfl)); replace HB := Aside0.mk (hb); replace HI0 := Aside0.mk (hi); clear hb hi hk) | ((with_reducible refine gate_callee (f:=68) rfl ?_); refine goesL_ (some 21) rfl rfl Try.func68 (by kernel_rfl) rfl #[.pointer (some ⟨g,0,none⟩)] rfl mA ?_; (with_reducible refine (spec_l00Src_byte.calls g s0_0 t109 t110 t111 t112 t113 w0 _ ?side1 ?side2 A10.out).mono ?_); (case side1 => exact iS68); (case side2 => exact bI68); rintro e w14 ⟨rfl,hi,hb,hk⟩; refine ⟨_,rfl,?_⟩; replace HK := Aside0.mk (KeepBut.trans kK hk (.inl rfl)); replace HB := Aside0.mk (hb); replace HI0 := Aside0.mk (hi); clear hb hi hk))
    go_ret
    exact ⟨by first | rfl | (simp only [i64_w,i32_w] <;> rfl) | (simp [errW_none,errW_some] <;> rfl) | (simp [*,errW_none,errW_some] <;> rfl),by exact iS68,by exact bI68,by exact kK⟩

/-! ### spec_l00Src_some: function 33 -/
def spec_l00Src_some.l0 : Nat → Int → List Int → Int → List Int → Int → Int → Option (ByteArray × Int × Int)
 | 0,_,_,_,_,_,_ => none
 | k + 1,x1,x5,x6,x1000,x1001,x1002 => if x6 < x1 then ((spec_l00Src_next.f x1000 x1001 x1002 26).bind fun bt117 => (if x5.length < 140737488355328 then (spec_l00Src_some.l0 k x1 (x5 ++ [(wrap64 (97 + bt117.1)) % 256]) (wrap64 (x6 + 1)) x1000 bt117.2.1 bt117.2.2) else (none))) else (some (strOfNums x5,x1001,x1002))
def spec_l00Src_some.f (k : Nat) (s0_0 : List Int) (s0_1 : Int) (s0_2 : Int) (a1 : Int) : Option (ByteArray × Int × Int) := spec_l00Src_some.l0 k a1 (([] : List Int)) 0 s0_0 s0_1 s0_2
theorem spec_l00Src_some.mono_l : ∀ k,(∀ y0 y1 y2 y3 y4 y5,LeO (spec_l00Src_some.l0 k y0 y1 y2 y3 y4 y5) (spec_l00Src_some.l0 (k + 1) y0 y1 y2 y3 y4 y5))
 | 0 => fun _ _ _ _ _ _ r h => by simp [spec_l00Src_some.l0] at h
 | k + 1 => by
  have ih0 := spec_l00Src_some.mono_l k
  ·intro y0 y1 y2 y3 y4 y5
   unfold spec_l00Src_some.l0
   repeat' first
   | (with_reducible first | exact ih0 .. | exact LeO.refl _ | exact LeO.none _ | refine LeO.ite ?_ ?_ | refine LeO.bind ?_ (fun _ => ?_))
   | exact LeO.none _ | refine LeO.ite ?_ ?_ | refine LeO.bind ?_ (fun _ => ?_)
theorem spec_l00Src_some.mono : ∀ a0 a1 a2 a3 k,LeO (spec_l00Src_some.f k a0 a1 a2 a3) (spec_l00Src_some.f (k + 1) a0 a1 a2 a3) := by
 intro a0 a1 a2 a3 k
 have ih0 := spec_l00Src_some.mono_l k
 unfold spec_l00Src_some.f
 repeat' first
 | (with_reducible first | exact ih0 .. | exact LeO.refl _ | exact LeO.none _ | refine LeO.ite ?_ ?_ | refine LeO.bind ?_ (fun _ => ?_))
 | exact LeO.none _ | refine LeO.ite ?_ ?_ | refine LeO.bind ?_ (fun _ => ?_)
set_option maxHeartbeats 8000000 in
set_option maxRecDepth 100000 in
theorem spec_l00Src_some.calls (k : Nat) (g : Nat) (s0_0 : List Int) (s0_1 : Int) (s0_2 : Int) (a1 : Int) (r1 : ByteArray) (r2 : Int) (r3 : Int) (w0 w : World) (hI : IsS68 w0 w g s0_0 s0_1 s0_2) (hB : Below w0.heap.size w0 w) (h : spec_l00Src_some.f k s0_0 s0_1 s0_2 a1 = some (r1,r2,r3)) :
  Calls Try.prog 33 #[.pointer (some ⟨g,0,none⟩),.int .i64 a1] w fun e w' => e = .returned (.string r1) ∧ IsS68 w0 w' g s0_0 r2 r3 ∧ Below w0.heap.size w0 w' ∧ KeepBut w w' g none := by
 have HI0 := Aside0.mk hI
 have HK := Aside0.mk (KeepBut.refl w g none)
 have HL := Aside0.mk hB.size
 clear hI
 have HW0 := Aside0.mk hB.size
 have HB := Aside0.mk hB
 clear hB
 have H : (spec_l00Src_some.l0 k a1 (([] : List Int)) 0 s0_0 s0_1 s0_2) = some (r1,r2,r3) := h
 clear h
 obtain ⟨y114,hy114⟩ : ∃ y_ : List Int,y_ = (([] : List Int)) := ⟨_,rfl⟩
 replace H : (spec_l00Src_some.l0 k a1 y114 0 s0_0 s0_1 s0_2) = some (r1,r2,r3) := by first | (rw [hy114]; with_reducible exact H) | (have H2_ := (Option.bind_some _ _).symm.trans H; rw [hy114]; with_reducible exact H2_) | (have H2_ := (Option.bind_some _ _).symm.trans H; with_reducible exact H2_) | with_reducible exact H | (rw [hy114]; exact H) | exact H
 have Ny114 := Aside0.mk hy114
 clear hy114
 have H' := Aside0.mk H
 clear H
 go_enter Try.func33,Try.ntmps33
 go_wp2_with (first | ((with_reducible refine gate_dst (N:=7) rfl ?_); refine Kd.R_lit (Kd.int .u8) _ 5 ?hg (N:=7) ?hd (xs := ([] : List Int)) (inner := []) (ok := fun _ => True) (okp := fun _ => True) ?hr ?hp (fun _ hk => hk) trivial (Below.refl _ _) (Nat.le_refl _) (by simp) ?_; (case hd => rfl); (case hg => rfl); (case hr => first | (go_simp; done) | (go_simp; rfl)); (case hp => exact (Reps.none _ _)); intro v115 w3 ho4 hb hg_ hnew_; clear hg_ hnew_; (first | rw [← Ny114.out] at ho4 | (simp only [Int.reduceToNat] at ho4; rw [← Ny114.out] at ho4)); have HO116 := Aside0.mk (Kd.R_lower ho4 (keep_size (w:=w) (g:=g) (row := none) kK)); replace HK := Aside0.mk (KeepBut.trans kK (KeepBut.of_below hb g none) (.inl rfl)); replace HB := Aside0.mk (below_step bI68 hb); replace HI0 := Aside0.mk (IsS68.below iS68 hb); clear hb ho4))
 go_loopg [5,6] k (fun kq v5 v6 w' => ∃ (x5_1 : List Int) (x6_1 : Int) (x1001_1 : Int) (x1002_1 : Int),v6 = .int .i64 x6_1 ∧ Aside0 (spec_l00Src_some.l0 kq a1 x5_1 x6_1 s0_0 x1001_1 x1002_1 = some (r1,r2,r3)) ∧ Aside0 (kq ≤ k) ∧ Aside0 (Kd.R (Kd.int .u8) 5 w' w.heap.size (fun _ => True) v5 x5_1) ∧ Aside0 (IsS68 w0 w' g s0_0 x1001_1 x1002_1) ∧ Aside0 (KeepBut w w' g none) ∧ Aside0 (Below w0.heap.size w0 w'))
 case atStart => exact ⟨(y114),(0),(s0_1),(s0_2),(by first | rfl | (simp; done) | (simp [*]; done)),H',⟨Nat.le_refl _⟩,⟨rA HO116.out⟩,⟨by exact iS68⟩,⟨by exact kK⟩,⟨by exact bI68⟩⟩
 case round =>
  clear H'
  try clear p2
  try clear c3
  obtain ⟨x5_1,x6_1,x1001_1,x1002_1,rfl,HA,HK1,HO_5,HI0,HK,HB⟩ := hrel
  cases gk with
  | zero => exact absurd HA.out (by simp [spec_l00Src_some.l0])
  | succ k1 =>
   have H := HA.out
   clear HA
   simp only [spec_l00Src_some.l0] at H
   by_cases c5 : x6_1 < a1
   ·rw [if_pos c5] at H
    have c5b0 : decide (x6_1 < a1) = true := decide_eq_true c5
    clear c5
    replace H := Option.bind_eq_some_iff.mp H
    obtain ⟨⟨t117,t118,t119⟩,A60,H⟩ := H
    try dsimp only at H
    have A6 := Aside0.mk A60
    clear A60
    by_cases c7 : x5_1.length < 140737488355328
    ·rw [if_pos c7] at H
     have LMc7 := Aside0.mk c7
     clear c7
     obtain ⟨y120,hy120⟩ : ∃ y_ : List Int,y_ = (x5_1 ++ [(wrap64 (97 + t117)) % 256]) := ⟨_,rfl⟩
     replace H : (spec_l00Src_some.l0 k1 a1 y120 (wrap64 (x6_1 + 1)) s0_0 t118 t119) = some (r1,r2,r3) := by first | (rw [hy120]; with_reducible exact H) | (have H2_ := (Option.bind_some _ _).symm.trans H; rw [hy120]; with_reducible exact H2_) | (have H2_ := (Option.bind_some _ _).symm.trans H; with_reducible exact H2_) | with_reducible exact H | (rw [hy120]; exact H) | exact H
     have Ny120 := Aside0.mk hy120
     clear hy120
     have H' := Aside0.mk H
     clear H
     go_wp2_with (first | ((with_reducible refine gate_callee (f:=46) rfl ?_); refine goesL_ (some 15) rfl rfl Try.func46 (by kernel_rfl) rfl #[.pointer (some ⟨g,0,none⟩),.int .i64 26] rfl mA ?_; (with_reducible refine (spec_l00Src_next.calls g s0_0 x1001_1 x1002_1 26 t117 t118 t119 w0 _ ?side1 ?side2 A6.out).mono ?_); (case side1 => exact iS68); (case side2 => exact bI68); rintro e w8 ⟨rfl,hi,hb,hk⟩; refine ⟨_,rfl,?_⟩; replace HO_5 := Aside0.mk (Kd.R_mono (Kd.R_keep (IsS68.apart (show IsS68 w0 _ g s0_0 x1001_1 x1002_1 from by exact iS68) (rA HO_5.out) (by decide)) hk (fun _ h => h.2)) (fun _ h => h.1)); replace HK := Aside0.mk (KeepBut.trans kK hk (.inl rfl)); replace HB := Aside0.mk (hb); replace HI0 := Aside0.mk (hi); clear hb hi hk) | ((with_reducible refine gate_builtin (b:=.append) (xs := #[.tmp 13,.tmp 18]) rfl ?_); at_builtin; refine Kd.R_append (Kd.int .u8) w.heap.size rfl (.tmp 13) (.tmp 18) 22 5 (.int .u8 0) 1 rfl Try.underlying22 info5 rfl (by decide) (by omega) u5 x5_1 ((wrap64 (97 + t117)) % 256) [.int .u8 ((wrap64 (97 + t117)) % 256)] (fun _ => True) (fun _ => False) rfl rfl ?aP (fun _ hk => hk.elim) ?aF ?aO (Below.refl _ _) ?aS ?aL ?_; (case aP => exact rfl); (case aF => exact (fun _ _ => trivial)); (case aO => exact (rA HO_5.out)); (case aS => exact (keep_size (w:=w) (g:=g) (row := none) kK)); (case aL => have := LMc7.out; omega); intro v121 w9 ho hb hg hat; rw [← Ny120.out] at ho; replace HB := Aside0.mk (below_weaken bI68 HL.out hb); replace HI0 := Aside0.mk (IsS68.grown iS68 hg (IsS68.own_ne HI0.out HO_5.out (by decide))); replace HK := Aside0.mk (KeepBut.trans kK (KeepBut.of_grown hg g) (Kd.R_base2 HO_5.out)); have HO122 := Aside0.mk (ho); clear HO_5; clear ho hb hg hat))
     go_roundg k1
     case measure => have := HK1.out; omega
     case rel => exact ⟨(y120),(wrap64 (x6_1 + 1)),(t118),(t119),(by first | rfl | (simp; done) | (simp [*]; done)),H',⟨by have := HK1.out; omega⟩,⟨rA HO122.out⟩,⟨by exact iS68⟩,⟨by exact kK⟩,⟨by exact bI68⟩⟩
    ·rw [if_neg c7] at H
     exact absurd H (by simp)
   ·rw [if_neg c5] at H
    have c5b0 : decide (x6_1 < a1) = false := decide_eq_false c5
    clear c5
    simp only [Option.some.injEq,Prod.mk.injEq] at H
    obtain ⟨rfl,rfl,rfl⟩ := H
    have hcv10 := own_string (P:=Try.prog) Try.underlying22 Try.underlying5 Try.underlying9 (Kd.own_of_R HO_5.out)
    go_wp2
    go_ret
    exact ⟨by first | rfl | (simp only [i64_w,i32_w] <;> rfl) | (simp [errW_none,errW_some] <;> rfl) | (simp [*,errW_none,errW_some] <;> rfl),by exact iS68,by exact bI68,by exact kK⟩

/-! ### spec_l01Find: function 59 -/
def spec_l01Find.l0 : Nat → ByteArray → Int → List (S32) → Int → Option (Int)
 | 0,_,_,_,_ => none
 | k + 1,x1,x5,x124000,x124001 => if x5 < (x124000.length : Int) then (if 0 ≤ x5 then (if ((rd_T32 x124000 x5).f0).toList = x1.toList then (some x5) else (spec_l01Find.l0 k x1 (wrap64 (x5 + 1)) x124000 x124001)) else (none)) else (some (-1))
def spec_l01Find.f (k : Nat) (l0_0 : List (S32)) (a0_1 : Int) (a1 : ByteArray) : Option (Int) := spec_l01Find.l0 k a1 0 l0_0 a0_1
theorem spec_l01Find.mono_l : ∀ k,(∀ y0 y1 y2 y3,LeO (spec_l01Find.l0 k y0 y1 y2 y3) (spec_l01Find.l0 (k + 1) y0 y1 y2 y3))
 | 0 => fun _ _ _ _ r h => by simp [spec_l01Find.l0] at h
 | k + 1 => by
  have ih0 := spec_l01Find.mono_l k
  ·intro y0 y1 y2 y3
   unfold spec_l01Find.l0
   repeat' first
   | (with_reducible first | exact ih0 .. | exact LeO.refl _ | exact LeO.none _ | refine LeO.ite ?_ ?_ | refine LeO.bind ?_ (fun _ => ?_))
   | exact LeO.none _ | refine LeO.ite ?_ ?_ | refine LeO.bind ?_ (fun _ => ?_)
theorem spec_l01Find.mono : ∀ a0 a1 a2 k,LeO (spec_l01Find.f k a0 a1 a2) (spec_l01Find.f (k + 1) a0 a1 a2) := by
 intro a0 a1 a2 k
 have ih0 := spec_l01Find.mono_l k
 unfold spec_l01Find.f
 repeat' first
 | (with_reducible first | exact ih0 .. | exact LeO.refl _ | exact LeO.none _ | refine LeO.ite ?_ ?_ | refine LeO.bind ?_ (fun _ => ?_))
 | exact LeO.none _ | refine LeO.ite ?_ ?_ | refine LeO.bind ?_ (fun _ => ?_)
set_option maxHeartbeats 8000000 in
set_option maxRecDepth 100000 in
theorem spec_l01Find.calls (k : Nat) (A0_0 : Option Addr) (c0_0 : Nat) (l0_0 : List (S32)) (a0_1 : Int) (a1 : ByteArray) (r : Int) (w : World) (hr0_0 : Kd.C k32 w A0_0 l0_0.length l0_0) (hc0_0 : l0_0.length ≤ c0_0) (h : spec_l01Find.f k l0_0 a0_1 a1 = some r) :
  Calls Try.prog 59 #[.agg #[.slice A0_0 l0_0.length c0_0,.int .i64 a0_1],.string a1] w fun e w' => e = .returned (.int .i64 r) ∧ Below w.heap.size w w' := by
 have hu25 := Try.underlying25
 have HR0_0 := Aside0.mk hr0_0
 have HC0_0 := Aside0.mk hc0_0
 clear hr0_0 hc0_0
 have HB := Aside0.mk (Below.refl w.heap.size w)
 have H : (spec_l01Find.l0 k a1 0 l0_0 a0_1) = some r := h
 clear h
 have H' := Aside0.mk H
 clear H
 go_enter Try.func59,Try.ntmps59
 go_wp2_with (first | ((with_reducible refine gate_dst (N:=2) rfl ?_); refine bxe (N:=2) (cs := #[.slice A0_0 l0_0.length c0_0,.int .i64 a0_1]) (t:=25) ?_; intro gb123 hg w3 hbox hb; have BK123 := Aside0.mk (hbox); have GW123 := Aside0.mk ((gw hg : w.heap.size ≤ gb123)); have GE123 := GW123; replace HB := bsA hb; clear hb hbox hg))
 go_loopg [5] k (fun kq v5 w' => ∃ (x5_1 : Int),v5 = .int .i64 x5_1 ∧ Aside0 (spec_l01Find.l0 kq a1 x5_1 l0_0 a0_1 = some r) ∧ Aside0 (kq ≤ k) ∧ Aside0 (w'.heap[gb123]? = some (.cells #[(.slice A0_0 l0_0.length c0_0),.int .i64 a0_1] 25 (0,0))) ∧ Aside0 (Below w.heap.size w w'))
 case atStart => exact ⟨(0),(by first | rfl | (simp; done) | (simp [*]; done)),H',⟨Nat.le_refl _⟩,⟨kA BK123.out⟩,⟨bA⟩⟩
 case round =>
  clear H'
  try clear p2
  obtain ⟨x5_1,rfl,HA,HK1,BK123,HB⟩ := hrel
  cases gk with
  | zero => exact absurd HA.out (by simp [spec_l01Find.l0])
  | succ k1 =>
   have H := HA.out
   clear HA
   simp only [spec_l01Find.l0] at H
   by_cases c4 : x5_1 < (l0_0.length : Int)
   ·rw [if_pos c4] at H
    have c4b0 : decide (x5_1 < (l0_0.length : Int)) = true := decide_eq_true c4
    clear c4
    by_cases c5 : 0 ≤ x5_1
    ·rw [if_pos c5] at H
     have c5b0 : decide (0 ≤ x5_1) = true := decide_eq_true c5
     clear c5
     by_cases c6 : ((rd_T32 l0_0 x5_1).f0).toList = a1.toList
     ·rw [if_pos c6] at H
      have c6b0 : (((rd_T32 l0_0 x5_1).f0).toList == a1.toList) = true := beq_iff_eq.mpr c6
      have c6b1 : (((rd_T32 l0_0 x5_1).f0).toList != a1.toList) = false := bne_eq_false_iff_eq.mpr c6
      clear c6
      obtain rfl := Option.some.inj H
      obtain ⟨hcz7_0,hcz7_1⟩ := cl2 BK123.out
      obtain ⟨hfz7_0,hfz7_1⟩ := fz2 BK123.out
      have p124 : 0 ≤ (x5_1 : Int) := od
      have q124 : x5_1 < (l0_0.length : Int) := od
      obtain ⟨ad124,e124,hx124_0,hx124_1,hx124_2⟩ := at_T32 HR0_0.out x5_1 p124 q124
      cases e124
      replace hx124_0 := cb HB.out hx124_0
      replace hx124_1 := cb HB.out hx124_1
      replace hx124_2 := cb HB.out hx124_2
      replace p124 := eq_true p124
      replace q124 := eq_true q124
      go_wp2
      go_ret
      exact ⟨by first | rfl | (simp only [i64_w,i32_w] <;> rfl) | (simp [errW_none,errW_some] <;> rfl) | (simp [*,errW_none,errW_some] <;> rfl),bA⟩
     ·rw [if_neg c6] at H
      have c6b0 : (((rd_T32 l0_0 x5_1).f0).toList == a1.toList) = false := beq_eq_false_iff_ne.mpr c6
      have c6b1 : (((rd_T32 l0_0 x5_1).f0).toList != a1.toList) = true := bne_iff_ne.mpr c6
      have H' := Aside0.mk H
      clear H
      obtain ⟨hcz8_0,hcz8_1⟩ := cl2 BK123.out
      obtain ⟨hfz8_0,hfz8_1⟩ := fz2 BK123.out
      have p124 : 0 ≤ (x5_1 : Int) := od
      have q124 : x5_1 < (l0_0.length : Int) := od
      obtain ⟨ad124,e124,hx124_0,hx124_1,hx124_2⟩ := at_T32 HR0_0.out x5_1 p124 q124
      cases e124
      replace hx124_0 := cb HB.out hx124_0
      replace hx124_1 := cb HB.out hx124_1
      replace hx124_2 := cb HB.out hx124_2
      replace p124 := eq_true p124
      replace q124 := eq_true q124
      go_wp2
      go_roundg k1
      case measure => have := HK1.out; omega
      case rel => exact ⟨(wrap64 (x5_1 + 1)),(by first | rfl | (simp; done) | (simp [*]; done)),H',⟨by have := HK1.out; omega⟩,⟨kA BK123.out⟩,⟨bA⟩⟩
    ·rw [if_neg c5] at H
     exact absurd H (by simp)
   ·rw [if_neg c4] at H
    have c4b0 : decide (x5_1 < (l0_0.length : Int)) = false := decide_eq_false c4
    clear c4
    obtain rfl := Option.some.inj H
    obtain ⟨hcz9_0,hcz9_1⟩ := cl2 BK123.out
    obtain ⟨hfz9_0,hfz9_1⟩ := fz2 BK123.out
    go_wp2
    go_ret
    exact ⟨by first | rfl | (simp only [i64_w,i32_w] <;> rfl) | (simp [errW_none,errW_some] <;> rfl) | (simp [*,errW_none,errW_some] <;> rfl),bA⟩

/-! ### spec_l01Room: function 60 -/
def spec_l01Room.f (k : Nat) (l0_0 : List (S32)) (a0_1 : Int) (a1 : ByteArray) (a2 : ByteArray) : Option (Int) := if (a2.size : Int) > 600 then (some 8) else ((spec_l01Find.f k l0_0 a0_1 a1).bind fun t126 => (if t126 < 0 then (if (l0_0.length : Int) = 300 then (some 7) else (if a0_1 = 1000000000 then (some 7) else (some 0))) else (if a0_1 = 1000000000 then (some 7) else (some 0))))
theorem spec_l01Room.mono : ∀ a0 a1 a2 a3 k,LeO (spec_l01Room.f k a0 a1 a2 a3) (spec_l01Room.f (k + 1) a0 a1 a2 a3) := by
 intro a0 a1 a2 a3 k
 unfold spec_l01Room.f
 repeat' first
 | (with_reducible first | exact spec_l01Find.mono .. | exact LeO.refl _ | exact LeO.none _ | refine LeO.ite ?_ ?_ | refine LeO.bind ?_ (fun _ => ?_))
 | exact LeO.none _ | refine LeO.ite ?_ ?_ | refine LeO.bind ?_ (fun _ => ?_)
set_option maxHeartbeats 8000000 in
set_option maxRecDepth 100000 in
theorem spec_l01Room.calls (k : Nat) (A0_0 : Option Addr) (c0_0 : Nat) (l0_0 : List (S32)) (a0_1 : Int) (a1 : ByteArray) (a2 : ByteArray) (r : Int) (w : World) (hr0_0 : Kd.C k32 w A0_0 l0_0.length l0_0) (hc0_0 : l0_0.length ≤ c0_0) (h : spec_l01Room.f k l0_0 a0_1 a1 a2 = some r) :
  Calls Try.prog 60 #[.agg #[.slice A0_0 l0_0.length c0_0,.int .i64 a0_1],.string a1,.string a2] w fun e w' => e = .returned (.int .i64 r) ∧ Below w.heap.size w w' := by
 have hu25 := Try.underlying25
 have HR0_0 := Aside0.mk hr0_0
 have HC0_0 := Aside0.mk hc0_0
 clear hr0_0 hc0_0
 have HB := Aside0.mk (Below.refl w.heap.size w)
 have H : (if (a2.size : Int) > 600 then (some 8) else ((spec_l01Find.f k l0_0 a0_1 a1).bind fun t126 => (if t126 < 0 then (if (l0_0.length : Int) = 300 then (some 7) else (if a0_1 = 1000000000 then (some 7) else (some 0))) else (if a0_1 = 1000000000 then (some 7) else (some 0))))) = some r := h
 clear h
 by_cases c4 : (a2.size : Int) > 600
 ·rw [if_pos c4] at H
  have c4b0 : decide (600 < (a2.size : Int)) = true := decide_eq_true c4
  have c4b1 : decide (600 < a2.size) = true := decide_eq_true (by omega)
  clear c4
  obtain rfl := Option.some.inj H
  go_enter Try.func60,Try.ntmps60
  go_wp2_with (first | ((with_reducible refine gate_dst (N:=3) rfl ?_); (try (refine gate_guard (by rfl) ?_; dsimp only)); refine bxe (N:=3) (cs := #[.slice A0_0 l0_0.length c0_0,.int .i64 a0_1]) (t:=25) ?_; intro gb125 hg w5 hbox hb; have BK125 := Aside0.mk (hbox); have GW125 := Aside0.mk ((gw hg : w.heap.size ≤ gb125)); have GE125 := GW125; replace HB := bsA hb; clear hb hbox hg))
  go_ret
  exact ⟨by first | rfl | (simp [errW_none,errW_some] <;> rfl) | (simp [*,errW_none,errW_some] <;> rfl),bA⟩
 ·rw [if_neg c4] at H
  have c4b0 : decide (600 < (a2.size : Int)) = false := decide_eq_false c4
  have c4b1 : decide (600 < a2.size) = false := decide_eq_false (by omega)
  clear c4
  replace H := Option.bind_eq_some_iff.mp H
  obtain ⟨t126,A60,H⟩ := H
  try dsimp only at H
  have A6 := Aside0.mk A60
  clear A60
  by_cases c7 : t126 < 0
  ·rw [if_pos c7] at H
   have c7b0 : decide (t126 < 0) = true := decide_eq_true c7
   clear c7
   by_cases c8 : (l0_0.length : Int) = 300
   ·rw [if_pos c8] at H
    have c8b0 : ((l0_0.length : Int) == 300) = true := beq_iff_eq.mpr c8
    have c8b1 : ((l0_0.length : Int) != 300) = false := bne_eq_false_iff_eq.mpr c8
    clear c8
    obtain rfl := Option.some.inj H
    go_enter Try.func60,Try.ntmps60
    go_wp2_with (first | ((with_reducible refine gate_dst (N:=3) rfl ?_); (try (refine gate_guard (by rfl) ?_; dsimp only)); refine bxe (N:=3) (cs := #[.slice A0_0 l0_0.length c0_0,.int .i64 a0_1]) (t:=25) ?_; intro gb125 hg w9 hbox hb; have BK125 := Aside0.mk (hbox); have GW125 := Aside0.mk ((gw hg : w.heap.size ≤ gb125)); have GE125 := GW125; replace HB := bsA hb; clear hb hbox hg; obtain ⟨hcz10_0,hcz10_1⟩ := cl2 BK125.out; obtain ⟨hfz10_0,hfz10_1⟩ := fz2 BK125.out) | ((with_reducible refine gate_callee (f:=59) rfl ?_); refine goesL_ (some 14) rfl rfl Try.func59 (by kernel_rfl) rfl #[.agg #[.slice A0_0 l0_0.length c0_0,.int .i64 a0_1],.string a1] rfl mA ?_; (with_reducible refine (spec_l01Find.calls k _ _ l0_0 a0_1 a1 t126 _ ?side1 ?side2 A6.out).mono ?_); (case side1 => exact sC HR0_0.out); (case side2 => exact HC0_0.out); rintro e w11 ⟨rfl,hb⟩; refine ⟨_,rfl,?_⟩; replace BK125 := bbA BK125 hb; replace HB := bsA hb; clear hb; obtain ⟨hcz12_0,hcz12_1⟩ := cl2 BK125.out; obtain ⟨hfz12_0,hfz12_1⟩ := fz2 BK125.out))
    go_ret
    exact ⟨by first | rfl | (simp [errW_none,errW_some] <;> rfl) | (simp [*,errW_none,errW_some] <;> rfl),bA⟩
   ·rw [if_neg c8] at H
    have c8b0 : ((l0_0.length : Int) == 300) = false := beq_eq_false_iff_ne.mpr c8
    have c8b1 : ((l0_0.length : Int) != 300) = true := bne_iff_ne.mpr c8
    by_cases c13 : a0_1 = 1000000000
    ·rw [if_pos c13] at H
     have c13b0 : (a0_1 == 1000000000) = true := beq_iff_eq.mpr c13
     have c13b1 : (a0_1 != 1000000000) = false := bne_eq_false_iff_eq.mpr c13
     clear c13
     obtain rfl := Option.some.inj H
     go_enter Try.func60,Try.ntmps60
     go_wp2_with (first | ((with_reducible refine gate_dst (N:=3) rfl ?_); (try (refine gate_guard (by rfl) ?_; dsimp only)); refine bxe (N:=3) (cs := #[.slice A0_0 l0_0.length c0_0,.int .i64 a0_1]) (t:=25) ?_; intro gb125 hg w14 hbox hb; have BK125 := Aside0.mk (hbox); have GW125 := Aside0.mk ((gw hg : w.heap.size ≤ gb125)); have GE125 := GW125; replace HB := bsA hb; clear hb hbox hg; obtain ⟨hcz15_0,hcz15_1⟩ := cl2 BK125.out; obtain ⟨hfz15_0,hfz15_1⟩ := fz2 BK125.out) | ((with_reducible refine gate_callee (f:=59) rfl ?_); refine goesL_ (some 14) rfl rfl Try.func59 (by kernel_rfl) rfl #[.agg #[.slice A0_0 l0_0.length c0_0,.int .i64 a0_1],.string a1] rfl mA ?_; (with_reducible refine (spec_l01Find.calls k _ _ l0_0 a0_1 a1 t126 _ ?side1 ?side2 A6.out).mono ?_); (case side1 => exact sC HR0_0.out); (case side2 => exact HC0_0.out); rintro e w16 ⟨rfl,hb⟩; refine ⟨_,rfl,?_⟩; replace BK125 := bbA BK125 hb; replace HB := bsA hb; clear hb; obtain ⟨hcz17_0,hcz17_1⟩ := cl2 BK125.out; obtain ⟨hfz17_0,hfz17_1⟩ := fz2 BK125.out))
     go_ret
     exact ⟨by first | rfl | (simp [errW_none,errW_some] <;> rfl) | (simp [*,errW_none,errW_some] <;> rfl),bA⟩
    ·rw [if_neg c13] at H
     have c13b0 : (a0_1 == 1000000000) = false := beq_eq_false_iff_ne.mpr c13
     have c13b1 : (a0_1 != 1000000000) = true := bne_iff_ne.mpr c13
     obtain rfl := Option.some.inj H
     go_enter Try.func60,Try.ntmps60
     go_wp2_with (first | ((with_reducible refine gate_dst (N:=3) rfl ?_); (try (refine gate_guard (by rfl) ?_; dsimp only)); refine bxe (N:=3) (cs := #[.slice A0_0 l0_0.length c0_0,.int .i64 a0_1]) (t:=25) ?_; intro gb125 hg w18 hbox hb; have BK125 := Aside0.mk (hbox); have GW125 := Aside0.mk ((gw hg : w.heap.size ≤ gb125)); have GE125 := GW125; replace HB := bsA hb; clear hb hbox hg; obtain ⟨hcz19_0,hcz19_1⟩ := cl2 BK125.out; obtain ⟨hfz19_0,hfz19_1⟩ := fz2 BK125.out) | ((with_reducible refine gate_callee (f:=59) rfl ?_); refine goesL_ (some 14) rfl rfl Try.func59 (by kernel_rfl) rfl #[.agg #[.slice A0_0 l0_0.length c0_0,.int .i64 a0_1],.string a1] rfl mA ?_; (with_reducible refine (spec_l01Find.calls k _ _ l0_0 a0_1 a1 t126 _ ?side1 ?side2 A6.out).mono ?_); (case side1 => exact sC HR0_0.out); (case side2 => exact HC0_0.out); rintro e w20 ⟨rfl,hb⟩; refine ⟨_,rfl,?_⟩; replace BK125 := bbA BK125 hb; replace HB := bsA hb; clear hb; obtain ⟨hcz21_0,hcz21_1⟩ := cl2 BK125.out; obtain ⟨hfz21_0,hfz21_1⟩ := fz2 BK125.out))
     go_ret
     exact ⟨by first | rfl | (simp [errW_none,errW_some] <;> rfl) | (simp [*,errW_none,errW_some] <;> rfl),bA⟩
  ·rw [if_neg c7] at H
   have c7b0 : decide (t126 < 0) = false := decide_eq_false c7
   clear c7
   by_cases c22 : a0_1 = 1000000000
   ·rw [if_pos c22] at H
    have c22b0 : (a0_1 == 1000000000) = true := beq_iff_eq.mpr c22
    have c22b1 : (a0_1 != 1000000000) = false := bne_eq_false_iff_eq.mpr c22
    clear c22
    obtain rfl := Option.some.inj H
    go_enter Try.func60,Try.ntmps60
    go_wp2_with (first | ((with_reducible refine gate_dst (N:=3) rfl ?_); (try (refine gate_guard (by rfl) ?_; dsimp only)); refine bxe (N:=3) (cs := #[.slice A0_0 l0_0.length c0_0,.int .i64 a0_1]) (t:=25) ?_; intro gb125 hg w23 hbox hb; have BK125 := Aside0.mk (hbox); have GW125 := Aside0.mk ((gw hg : w.heap.size ≤ gb125)); have GE125 := GW125; replace HB := bsA hb; clear hb hbox hg; obtain ⟨hcz24_0,hcz24_1⟩ := cl2 BK125.out; obtain ⟨hfz24_0,hfz24_1⟩ := fz2 BK125.out) | ((with_reducible refine gate_callee (f:=59) rfl ?_); refine goesL_ (some 14) rfl rfl Try.func59 (by kernel_rfl) rfl #[.agg #[.slice A0_0 l0_0.length c0_0,.int .i64 a0_1],.string a1] rfl mA ?_; (with_reducible refine (spec_l01Find.calls k _ _ l0_0 a0_1 a1 t126 _ ?side1 ?side2 A6.out).mono ?_); (case side1 => exact sC HR0_0.out); (case side2 => exact HC0_0.out); rintro e w25 ⟨rfl,hb⟩; refine ⟨_,rfl,?_⟩; replace BK125 := bbA BK125 hb; replace HB := bsA hb; clear hb; obtain ⟨hcz26_0,hcz26_1⟩ := cl2 BK125.out; obtain ⟨hfz26_0,hfz26_1⟩ := fz2 BK125.out))
    go_ret
    exact ⟨by first | rfl | (simp [errW_none,errW_some] <;> rfl) | (simp [*,errW_none,errW_some] <;> rfl),bA⟩
   ·rw [if_neg c22] at H
    have c22b0 : (a0_1 == 1000000000) = false := beq_eq_false_iff_ne.mpr c22
    have c22b1 : (a0_1 != 1000000000) = true := bne_iff_ne.mpr c22
    obtain rfl := Option.some.inj H
    go_enter Try.func60,Try.ntmps60
    go_wp2_with (first | ((with_reducible refine gate_dst (N:=3) rfl ?_); (try (refine gate_guard (by rfl) ?_; dsimp only)); refine bxe (N:=3) (cs := #[.slice A0_0 l0_0.length c0_0,.int .i64 a0_1]) (t:=25) ?_; intro gb125 hg w27 hbox hb; have BK125 := Aside0.mk (hbox); have GW125 := Aside0.mk ((gw hg : w.heap.size ≤ gb125)); have GE125 := GW125; replace HB := bsA hb; clear hb hbox hg; obtain ⟨hcz28_0,hcz28_1⟩ := cl2 BK125.out; obtain ⟨hfz28_0,hfz28_1⟩ := fz2 BK125.out) | ((with_reducible refine gate_callee (f:=59) rfl ?_); refine goesL_ (some 14) rfl rfl Try.func59 (by kernel_rfl) rfl #[.agg #[.slice A0_0 l0_0.length c0_0,.int .i64 a0_1],.string a1] rfl mA ?_; (with_reducible refine (spec_l01Find.calls k _ _ l0_0 a0_1 a1 t126 _ ?side1 ?side2 A6.out).mono ?_); (case side1 => exact sC HR0_0.out); (case side2 => exact HC0_0.out); rintro e w29 ⟨rfl,hb⟩; refine ⟨_,rfl,?_⟩; replace BK125 := bbA BK125 hb; replace HB := bsA hb; clear hb; obtain ⟨hcz30_0,hcz30_1⟩ := cl2 BK125.out; obtain ⟨hfz30_0,hfz30_1⟩ := fz2 BK125.out))
    go_ret
    exact ⟨by first | rfl | (simp [errW_none,errW_some] <;> rfl) | (simp [*,errW_none,errW_some] <;> rfl),bA⟩

end Go.Proofs.Ytgkfemnfbkgeiaa.XFnStore
