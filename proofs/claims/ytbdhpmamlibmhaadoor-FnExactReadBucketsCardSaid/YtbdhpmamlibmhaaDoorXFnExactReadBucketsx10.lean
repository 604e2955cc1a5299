-- Printed by this session's own program wip/tools/xprint.py, which widens the kit's print. Not trusted: Lean checks it.
import Derived.Test.YtbdhpmamlibmhaaDoorXFnExactReadBucketsx0
import Derived.Test.YtbdhpmamlibmhaaDoorXFnExactReadBucketsx6
import Derived.Test.YtbdhpmamlibmhaaDoorXFnExactReadBucketsx9
namespace Go.Proofs.YtbdhpmamlibmhaaDoor.XFnExactReadBuckets
open List (setIfInBounds_toArray set_cons_zero set_cons_succ)
open Go.RowKit Go.Proofs.YtbdhpmamlibmhaaDoorW.PrintWords Go.Proofs.YtbdhpmamlibmhaaDoorW.PrintLast Go.Proofs.YtbdhpmamlibmhaaDoorW.PrintMore
attribute [local go_sem] max2_int min2_int max_two min_two max_three min_three max_four min_four   -- for this text's walks alone
set_option linter.unusedVariables false
set_option linter.unusedSimpArgs false

/-! ### laws_markBucketS: function 37 -/
def laws_markBucketS.l0 : Nat → List (S88) → Int → Int → Option (Int × (List (S88)))
 | 0,_,_,_ => none
 | k + 1,x0,x1,x5 => if x5 < (x0.length : Int) then (if 0 ≤ x5 then ((some (x0.set (x5 : Int).toNat (⟨x1,(⟨(rd_T88 x0 x5).f1.f0,(rd_T88 x0 x5).f1.f1,(rd_T88 x0 x5).f1.f2,(rd_T88 x0 x5).f1.f3,(rd_T88 x0 x5).f1.f4,(rd_T88 x0 x5).f1.f5⟩ : S38)⟩ : S88) : List (S88))).bind fun y294 => ((some (y294.set (x5 : Int).toNat (⟨(rd_T88 y294 x5).f0,(⟨wrap64 (x1 + 1),(rd_T88 y294 x5).f1.f1,(rd_T88 y294 x5).f1.f2,(rd_T88 y294 x5).f1.f3,(rd_T88 y294 x5).f1.f4,(rd_T88 y294 x5).f1.f5⟩ : S38)⟩ : S88) : List (S88))).bind fun y295 => ((some (y295.set (x5 : Int).toNat (⟨(rd_T88 y295 x5).f0,(⟨(rd_T88 y295 x5).f1.f0,wrap64 ((wrap64 (x1 + 1)) + 1),(rd_T88 y295 x5).f1.f2,(rd_T88 y295 x5).f1.f3,(rd_T88 y295 x5).f1.f4,(rd_T88 y295 x5).f1.f5⟩ : S38)⟩ : S88) : List (S88))).bind fun y296 => ((some (y296.set (x5 : Int).toNat (⟨(rd_T88 y296 x5).f0,(⟨(rd_T88 y296 x5).f1.f0,(rd_T88 y296 x5).f1.f1,wrap64 ((wrap64 ((wrap64 (x1 + 1)) + 1)) + 1),(rd_T88 y296 x5).f1.f3,(rd_T88 y296 x5).f1.f4,(rd_T88 y296 x5).f1.f5⟩ : S38)⟩ : S88) : List (S88))).bind fun y297 => ((some (y297.set (x5 : Int).toNat (⟨(rd_T88 y297 x5).f0,(⟨(rd_T88 y297 x5).f1.f0,(rd_T88 y297 x5).f1.f1,(rd_T88 y297 x5).f1.f2,wrap64 ((wrap64 ((wrap64 ((wrap64 (x1 + 1)) + 1)) + 1)) + 1),(rd_T88 y297 x5).f1.f4,(rd_T88 y297 x5).f1.f5⟩ : S38)⟩ : S88) : List (S88))).bind fun y298 => ((some (y298.set (x5 : Int).toNat (⟨(rd_T88 y298 x5).f0,(⟨(rd_T88 y298 x5).f1.f0,(rd_T88 y298 x5).f1.f1,(rd_T88 y298 x5).f1.f2,(rd_T88 y298 x5).f1.f3,wrap64 ((wrap64 ((wrap64 ((wrap64 ((wrap64 (x1 + 1)) + 1)) + 1)) + 1)) + 1),(rd_T88 y298 x5).f1.f5⟩ : S38)⟩ : S88) : List (S88))).bind fun y299 => (laws_markBucketS.l0 k (y299.set (x5 : Int).toNat (⟨(rd_T88 y299 x5).f0,(⟨(rd_T88 y299 x5).f1.f0,(rd_T88 y299 x5).f1.f1,(rd_T88 y299 x5).f1.f2,(rd_T88 y299 x5).f1.f3,(rd_T88 y299 x5).f1.f4,wrap64 ((wrap64 ((wrap64 ((wrap64 ((wrap64 ((wrap64 (x1 + 1)) + 1)) + 1)) + 1)) + 1)) + 1)⟩ : S38)⟩ : S88)) (wrap64 ((wrap64 ((wrap64 ((wrap64 ((wrap64 ((wrap64 ((wrap64 (x1 + 1)) + 1)) + 1)) + 1)) + 1)) + 1)) + 1)) (wrap64 (x5 + 1))))))))) else (none)) else (some (x1,x0))
def laws_markBucketS.f (k : Nat) (l0 : List (S88)) (a1 : Int) : Option (Int × (List (S88))) := laws_markBucketS.l0 k l0 a1 0
theorem laws_markBucketS.mono_l : ∀ k,(∀ y0 y1 y2,LeO (laws_markBucketS.l0 k y0 y1 y2) (laws_markBucketS.l0 (k + 1) y0 y1 y2))
 | 0 => fun _ _ _ r h => by simp [laws_markBucketS.l0] at h
 | k + 1 => by
  have ih0 := laws_markBucketS.mono_l k
  ·intro y0 y1 y2
   unfold laws_markBucketS.l0
   repeat' first
   | (with_reducible exact ih0 _ _ _)
   | (with_reducible exact LeO.refl _)
   | (with_reducible exact LeO.none _)
   | (with_reducible refine LeO.ite ?_ ?_)
   | (with_reducible refine LeO.bind ?_ (fun _ => ?_))
   | exact ih0 _ _ _
   | exact LeO.none _
   | refine LeO.ite ?_ ?_
   | refine LeO.bind ?_ (fun _ => ?_)
theorem laws_markBucketS.mono : ∀ a0 a1 k,LeO (laws_markBucketS.f k a0 a1) (laws_markBucketS.f (k + 1) a0 a1) := by
 intro a0 a1 k
 have ih0 := laws_markBucketS.mono_l k
 unfold laws_markBucketS.f
 repeat' first
   | (with_reducible exact ih0 _ _ _)
   | (with_reducible exact LeO.refl _)
   | (with_reducible exact LeO.none _)
   | (with_reducible refine LeO.ite ?_ ?_)
   | (with_reducible refine LeO.bind ?_ (fun _ => ?_))
   | exact ih0 _ _ _
   | exact LeO.none _
   | refine LeO.ite ?_ ?_
   | refine LeO.bind ?_ (fun _ => ?_)
set_option maxHeartbeats 8000000 in
set_option maxRecDepth 100000 in
theorem laws_markBucketS.calls (k : Nat) (P0_ : Nat → Prop) (u9000_ : Value) (l0 : List (S88)) (a1 : Int) (r1 : Int) (r2 : List (S88)) (w0 w : World) (hB : Below w0.heap.size w0 w) (ho0 : Kd.R k88 88 w w0.heap.size P0_ u9000_ l0) (h : laws_markBucketS.f k l0 a1 = some (r1,r2)) :
  Calls Tryd.prog 37 #[u9000_,.int .i64 a1] w fun e w' => e = .returned (.int .i64 r1) ∧ Kd.R k88 88 w' w0.heap.size (fun k_ => (P0_ k_ ∨ w.heap.size ≤ k_)) u9000_ r2 ∧ Below w0.heap.size w0 w' ∧ Kept w w' (fun k_ => P0_ k_) := by
 have HO0 := Aside0.mk (show Kd.R k88 88 w w0.heap.size (fun k_ => (P0_ k_ ∨ w.heap.size ≤ k_)) u9000_ l0 from Kd.R_mono ho0 (fun k_ hk => (.inl hk)))
 have HK := Aside0.mk (Kept.refl w (fun k_ => P0_ k_))
 have HW0 := Aside0.mk hB.size
 have HB := Aside0.mk hB
 clear hB
 have H : (laws_markBucketS.l0 k l0 a1 0) = some (r1,r2) := h
 clear h
 have H' := Aside0.mk H
 clear H
 go_enter Tryd.func37,Tryd.ntmps37
 go_wp2
 go_loopg [1,5] k (fun kq v1 v5 w' => ∃ (x0_1 : List (S88)) (x1_1 : Int) (x5_1 : Int),v1 = .int .i64 x1_1 ∧ v5 = .int .i64 x5_1 ∧ Aside0 (laws_markBucketS.l0 kq x0_1 x1_1 x5_1 = some (r1,r2)) ∧ Aside0 (kq ≤ k) ∧ Aside0 (Kd.R k88 88 w' w0.heap.size (fun k_ => (P0_ k_ ∨ w.heap.size ≤ k_)) u9000_ x0_1) ∧ Aside0 (Kept w w' (fun k_ => P0_ k_)) ∧ Aside0 (Below w0.heap.size w0 w'))
 case atStart => exact ⟨(l0),(a1),(0),(by first | rfl | (simp; done) | (simp [*]; done)),(by first | rfl | (simp; done) | (simp [*]; done)),H',⟨Nat.le_refl _⟩,⟨by (with_reducible repeat (first | apply Kd.R_alloc | apply Kd.R_drewN | apply Kd.R_drew)); exact HO0.out⟩,⟨by repeat (first | (with_reducible first | exact HK.out | apply Kept.alloc | apply Kept.drewN | apply Kept.drew) | exact HK.out)⟩,⟨by repeat (first | (with_reducible first | exact HB.out | apply below_alloc | apply pw_below_drewN | apply below_drew1) | exact HB.out)⟩⟩
 case round =>
  clear H'
  try clear p2
  obtain ⟨x0_1,x1_1,x5_1,rfl,rfl,HA,HK1,HO_0,HK,HB⟩ := hrel
  cases gk with
  | zero => exact absurd HA.out (by simp [laws_markBucketS.l0])
  | succ k1 =>
   have H := HA.out
   clear HA
   simp only [laws_markBucketS.l0] at H
   by_cases c3 : x5_1 < (x0_1.length : Int)
   ·rw [if_pos c3] at H
    have c3b0 : decide (x5_1 < (x0_1.length : Int)) = true := decide_eq_true c3
    clear c3
    by_cases c4 : 0 ≤ x5_1
    ·rw [if_pos c4] at H
     have c4b0 : decide (0 ≤ x5_1) = true := decide_eq_true c4
     clear c4
     obtain ⟨y294,hy294⟩ : ∃ y_ : List (S88),y_ = (x0_1.set (x5_1 : Int).toNat (⟨x1_1,(⟨(rd_T88 x0_1 x5_1).f1.f0,(rd_T88 x0_1 x5_1).f1.f1,(rd_T88 x0_1 x5_1).f1.f2,(rd_T88 x0_1 x5_1).f1.f3,(rd_T88 x0_1 x5_1).f1.f4,(rd_T88 x0_1 x5_1).f1.f5⟩ : S38)⟩ : S88)) := ⟨_,rfl⟩
     replace H : ((some (y294.set (x5_1 : Int).toNat (⟨(rd_T88 y294 x5_1).f0,(⟨wrap64 (x1_1 + 1),(rd_T88 y294 x5_1).f1.f1,(rd_T88 y294 x5_1).f1.f2,(rd_T88 y294 x5_1).f1.f3,(rd_T88 y294 x5_1).f1.f4,(rd_T88 y294 x5_1).f1.f5⟩ : S38)⟩ : S88) : List (S88))).bind fun y295 => ((some (y295.set (x5_1 : Int).toNat (⟨(rd_T88 y295 x5_1).f0,(⟨(rd_T88 y295 x5_1).f1.f0,wrap64 ((wrap64 (x1_1 + 1)) + 1),(rd_T88 y295 x5_1).f1.f2,(rd_T88 y295 x5_1).f1.f3,(rd_T88 y295 x5_1).f1.f4,(rd_T88 y295 x5_1).f1.f5⟩ : S38)⟩ : S88) : List (S88))).bind fun y296 => ((some (y296.set (x5_1 : Int).toNat (⟨(rd_T88 y296 x5_1).f0,(⟨(rd_T88 y296 x5_1).f1.f0,(rd_T88 y296 x5_1).f1.f1,wrap64 ((wrap64 ((wrap64 (x1_1 + 1)) + 1)) + 1),(rd_T88 y296 x5_1).f1.f3,(rd_T88 y296 x5_1).f1.f4,(rd_T88 y296 x5_1).f1.f5⟩ : S38)⟩ : S88) : List (S88))).bind fun y297 => ((some (y297.set (x5_1 : Int).toNat (⟨(rd_T88 y297 x5_1).f0,(⟨(rd_T88 y297 x5_1).f1.f0,(rd_T88 y297 x5_1).f1.f1,(rd_T88 y297 x5_1).f1.f2,wrap64 ((wrap64 ((wrap64 ((wrap64 (x1_1 + 1)) + 1)) + 1)) + 1),(rd_T88 y297 x5_1).f1.f4,(rd_T88 y297 x5_1).f1.f5⟩ : S38)⟩ : S88) : List (S88))).bind fun y298 => ((some (y298.set (x5_1 : Int).toNat (⟨(rd_T88 y298 x5_1).f0,(⟨(rd_T88 y298 x5_1).f1.f0,(rd_T88 y298 x5_1).f1.f1,(rd_T88 y298 x5_1).f1.f2,(rd_T88 y298 x5_1).f1.f3,wrap64 ((wrap64 ((wrap64 ((wrap64 ((wrap64 (x1_1 + 1)) + 1)) + 1)) + 1)) + 1),(rd_T88 y298 x5_1).f1.f5⟩ : S38)⟩ : S88) : List (S88))).bind fun y299 => (laws_markBucketS.l0 k1 (y299.set (x5_1 : Int).toNat (⟨(rd_T88 y299 x5_1).f0,(⟨(rd_T88 y299 x5_1).f1.f0,(rd_T88 y299 x5_1).f1.f1,(rd_T88 y299 x5_1).f1.f2,(rd_T88 y299 x5_1).f1.f3,(rd_T88 y299 x5_1).f1.f4,wrap64 ((wrap64 ((wrap64 ((wrap64 ((wrap64 ((wrap64 (x1_1 + 1)) + 1)) + 1)) + 1)) + 1)) + 1)⟩ : S38)⟩ : S88)) (wrap64 ((wrap64 ((wrap64 ((wrap64 ((wrap64 ((wrap64 ((wrap64 (x1_1 + 1)) + 1)) + 1)) + 1)) + 1)) + 1)) + 1)) (wrap64 (x5_1 + 1)))))))) = some (r1,r2) := by first | (rw [hy294]; with_reducible exact H) | (have H2_ := (Option.bind_some _ _).symm.trans H; rw [hy294]; with_reducible exact H2_) | (have H2_ := (Option.bind_some _ _).symm.trans H; with_reducible exact H2_) | with_reducible exact H | (rw [hy294]; exact H) | exact H
     have Ny294 := Aside0.mk hy294
     clear hy294
     obtain ⟨y295,hy295⟩ : ∃ y_ : List (S88),y_ = (y294.set (x5_1 : Int).toNat (⟨(rd_T88 y294 x5_1).f0,(⟨wrap64 (x1_1 + 1),(rd_T88 y294 x5_1).f1.f1,(rd_T88 y294 x5_1).f1.f2,(rd_T88 y294 x5_1).f1.f3,(rd_T88 y294 x5_1).f1.f4,(rd_T88 y294 x5_1).f1.f5⟩ : S38)⟩ : S88)) := ⟨_,rfl⟩
     replace H : ((some (y295.set (x5_1 : Int).toNat (⟨(rd_T88 y295 x5_1).f0,(⟨(rd_T88 y295 x5_1).f1.f0,wrap64 ((wrap64 (x1_1 + 1)) + 1),(rd_T88 y295 x5_1).f1.f2,(rd_T88 y295 x5_1).f1.f3,(rd_T88 y295 x5_1).f1.f4,(rd_T88 y295 x5_1).f1.f5⟩ : S38)⟩ : S88) : List (S88))).bind fun y296 => ((some (y296.set (x5_1 : Int).toNat (⟨(rd_T88 y296 x5_1).f0,(⟨(rd_T88 y296 x5_1).f1.f0,(rd_T88 y296 x5_1).f1.f1,wrap64 ((wrap64 ((wrap64 (x1_1 + 1)) + 1)) + 1),(rd_T88 y296 x5_1).f1.f3,(rd_T88 y296 x5_1).f1.f4,(rd_T88 y296 x5_1).f1.f5⟩ : S38)⟩ : S88) : List (S88))).bind fun y297 => ((some (y297.set (x5_1 : Int).toNat (⟨(rd_T88 y297 x5_1).f0,(⟨(rd_T88 y297 x5_1).f1.f0,(rd_T88 y297 x5_1).f1.f1,(rd_T88 y297 x5_1).f1.f2,wrap64 ((wrap64 ((wrap64 ((wrap64 (x1_1 + 1)) + 1)) + 1)) + 1),(rd_T88 y297 x5_1).f1.f4,(rd_T88 y297 x5_1).f1.f5⟩ : S38)⟩ : S88) : List (S88))).bind fun y298 => ((some (y298.set (x5_1 : Int).toNat (⟨(rd_T88 y298 x5_1).f0,(⟨(rd_T88 y298 x5_1).f1.f0,(rd_T88 y298 x5_1).f1.f1,(rd_T88 y298 x5_1).f1.f2,(rd_T88 y298 x5_1).f1.f3,wrap64 ((wrap64 ((wrap64 ((wrap64 ((wrap64 (x1_1 + 1)) + 1)) + 1)) + 1)) + 1),(rd_T88 y298 x5_1).f1.f5⟩ : S38)⟩ : S88) : List (S88))).bind fun y299 => (laws_markBucketS.l0 k1 (y299.set (x5_1 : Int).toNat (⟨(rd_T88 y299 x5_1).f0,(⟨(rd_T88 y299 x5_1).f1.f0,(rd_T88 y299 x5_1).f1.f1,(rd_T88 y299 x5_1).f1.f2,(rd_T88 y299 x5_1).f1.f3,(rd_T88 y299 x5_1).f1.f4,wrap64 ((wrap64 ((wrap64 ((wrap64 ((wrap64 ((wrap64 (x1_1 + 1)) + 1)) + 1)) + 1)) + 1)) + 1)⟩ : S38)⟩ : S88)) (wrap64 ((wrap64 ((wrap64 ((wrap64 ((wrap64 ((wrap64 ((wrap64 (x1_1 + 1)) + 1)) + 1)) + 1)) + 1)) + 1)) + 1)) (wrap64 (x5_1 + 1))))))) = some (r1,r2) := by first | (rw [hy295]; with_reducible exact H) | (have H2_ := (Option.bind_some _ _).symm.trans H; rw [hy295]; with_reducible exact H2_) | (have H2_ := (Option.bind_some _ _).symm.trans H; with_reducible exact H2_) | with_reducible exact H | (rw [hy295]; exact H) | exact H
     have Ny295 := Aside0.mk hy295
     clear hy295
     obtain ⟨y296,hy296⟩ : ∃ y_ : List (S88),y_ = (y295.set (x5_1 : Int).toNat (⟨(rd_T88 y295 x5_1).f0,(⟨(rd_T88 y295 x5_1).f1.f0,wrap64 ((wrap64 (x1_1 + 1)) + 1),(rd_T88 y295 x5_1).f1.f2,(rd_T88 y295 x5_1).f1.f3,(rd_T88 y295 x5_1).f1.f4,(rd_T88 y295 x5_1).f1.f5⟩ : S38)⟩ : S88)) := ⟨_,rfl⟩
     replace H : ((some (y296.set (x5_1 : Int).toNat (⟨(rd_T88 y296 x5_1).f0,(⟨(rd_T88 y296 x5_1).f1.f0,(rd_T88 y296 x5_1).f1.f1,wrap64 ((wrap64 ((wrap64 (x1_1 + 1)) + 1)) + 1),(rd_T88 y296 x5_1).f1.f3,(rd_T88 y296 x5_1).f1.f4,(rd_T88 y296 x5_1).f1.f5⟩ : S38)⟩ : S88) : List (S88))).bind fun y297 => ((some (y297.set (x5_1 : Int).toNat (⟨(rd_T88 y297 x5_1).f0,(⟨(rd_T88 y297 x5_1).f1.f0,(rd_T88 y297 x5_1).f1.f1,(rd_T88 y297 x5_1).f1.f2,wrap64 ((wrap64 ((wrap64 ((wrap64 (x1_1 + 1)) + 1)) + 1)) + 1),(rd_T88 y297 x5_1).f1.f4,(rd_T88 y297 x5_1).f1.f5⟩ : S38)⟩ : S88) : List (S88))).bind fun y298 => ((some (y298.set (x5_1 : Int).toNat (⟨(rd_T88 y298 x5_1).f0,(⟨(rd_T88 y298 x5_1).f1.f0,(rd_T88 y298 x5_1).f1.f1,(rd_T88 y298 x5_1).f1.f2,(rd_T88 y298 x5_1).f1.f3,wrap64 ((wrap64 ((wrap64 ((wrap64 ((wrap64 (x1_1 + 1)) + 1)) + 1)) + 1)) + 1),(rd_T88 y298 x5_1).f1.f5⟩ : S38)⟩ : S88) : List (S88))).bind fun y299 => (laws_markBucketS.l0 k1 (y299.set (x5_1 : Int).toNat (⟨(rd_T88 y299 x5_1).f0,(⟨(rd_T88 y299 x5_1).f1.f0,(rd_T88 y299 x5_1).f1.f1,(rd_T88 y299 x5_1).f1.f2,(rd_T88 y299 x5_1).f1.f3,(rd_T88 y299 x5_1).f1.f4,wrap64 ((wrap64 ((wrap64 ((wrap64 ((wrap64 ((wrap64 (x1_1 + 1)) + 1)) + 1)) + 1)) + 1)) + 1)⟩ : S38)⟩ : S88)) (wrap64 ((wrap64 ((wrap64 ((wrap64 ((wrap64 ((wrap64 ((wrap64 (x1_1 + 1)) + 1)) + 1)) + 1)) + 1)) + 1)) + 1)) (wrap64 (x5_1 + 1)))))) = some (r1,r2) := by first | (rw [hy296]; with_reducible exact H) | (have H2_ := (Option.bind_some _ _).symm.trans H; rw [hy296]; with_reducible exact H2_) | (have H2_ := (Option.bind_some _ _).symm.trans H; with_reducible exact H2_) | with_reducible exact H | (rw [hy296]; exact H) | exact H
     have Ny296 := Aside0.mk hy296
     clear hy296
     obtain ⟨y297,hy297⟩ : ∃ y_ : List (S88),y_ = (y296.set (x5_1 : Int).toNat (⟨(rd_T88 y296 x5_1).f0,(⟨(rd_T88 y296 x5_1).f1.f0,(rd_T88 y296 x5_1).f1.f1,wrap64 ((wrap64 ((wrap64 (x1_1 + 1)) + 1)) + 1),(rd_T88 y296 x5_1).f1.f3,(rd_T88 y296 x5_1).f1.f4,(rd_T88 y296 x5_1).f1.f5⟩ : S38)⟩ : S88)) := ⟨_,rfl⟩
     replace H : ((some (y297.set (x5_1 : Int).toNat (⟨(rd_T88 y297 x5_1).f0,(⟨(rd_T88 y297 x5_1).f1.f0,(rd_T88 y297 x5_1).f1.f1,(rd_T88 y297 x5_1).f1.f2,wrap64 ((wrap64 ((wrap64 ((wrap64 (x1_1 + 1)) + 1)) + 1)) + 1),(rd_T88 y297 x5_1).f1.f4,(rd_T88 y297 x5_1).f1.f5⟩ : S38)⟩ : S88) : List (S88))).bind fun y298 => ((some (y298.set (x5_1 : Int).toNat (⟨(rd_T88 y298 x5_1).f0,(⟨(rd_T88 y298 x5_1).f1.f0,(rd_T88 y298 x5_1).f1.f1,(rd_T88 y298 x5_1).f1.f2,(rd_T88 y298 x5_1).f1.f3,wrap64 ((wrap64 ((wrap64 ((wrap64 ((wrap64 (x1_1 + 1)) + 1)) + 1)) + 1)) + 1),(rd_T88 y298 x5_1).f1.f5⟩ : S38)⟩ : S88) : List (S88))).bind fun y299 => (laws_markBucketS.l0 k1 (y299.set (x5_1 : Int).toNat (⟨(rd_T88 y299 x5_1).f0,(⟨(rd_T88 y299 x5_1).f1.f0,(rd_T88 y299 x5_1).f1.f1,(rd_T88 y299 x5_1).f1.f2,(rd_T88 y299 x5_1).f1.f3,(rd_T88 y299 x5_1).f1.f4,wrap64 ((wrap64 ((wrap64 ((wrap64 ((wrap64 ((wrap64 (x1_1 + 1)) + 1)) + 1)) + 1)) + 1)) + 1)⟩ : S38)⟩ : S88)) (wrap64 ((wrap64 ((wrap64 ((wrap64 ((wrap64 ((wrap64 ((wrap64 (x1_1 + 1)) + 1)) + 1)) + 1)) + 1)) + 1)) + 1)) (wrap64 (x5_1 + 1))))) = some (r1,r2) := by first | (rw [hy297]; with_reducible exact H) | (have H2_ := (Option.bind_some _ _).symm.trans H; rw [hy297]; with_reducible exact H2_) | (have H2_ := (Option.bind_some _ _).symm.trans H; with_reducible exact H2_) | with_reducible exact H | (rw [hy297]; exact H) | exact H
     have Ny297 := Aside0.mk hy297
     clear hy297
     obtain ⟨y298,hy298⟩ : ∃ y_ : List (S88),y_ = (y297.set (x5_1 : Int).toNat (⟨(rd_T88 y297 x5_1).f0,(⟨(rd_T88 y297 x5_1).f1.f0,(rd_T88 y297 x5_1).f1.f1,(rd_T88 y297 x5_1).f1.f2,wrap64 ((wrap64 ((wrap64 ((wrap64 (x1_1 + 1)) + 1)) + 1)) + 1),(rd_T88 y297 x5_1).f1.f4,(rd_T88 y297 x5_1).f1.f5⟩ : S38)⟩ : S88)) := ⟨_,rfl⟩
     replace H : ((some (y298.set (x5_1 : Int).toNat (⟨(rd_T88 y298 x5_1).f0,(⟨(rd_T88 y298 x5_1).f1.f0,(rd_T88 y298 x5_1).f1.f1,(rd_T88 y298 x5_1).f1.f2,(rd_T88 y298 x5_1).f1.f3,wrap64 ((wrap64 ((wrap64 ((wrap64 ((wrap64 (x1_1 + 1)) + 1)) + 1)) + 1)) + 1),(rd_T88 y298 x5_1).f1.f5⟩ : S38)⟩ : S88) : List (S88))).bind fun y299 => (laws_markBucketS.l0 k1 (y299.set (x5_1 : Int).toNat (⟨(rd_T88 y299 x5_1).f0,(⟨(rd_T88 y299 x5_1).f1.f0,(rd_T88 y299 x5_1).f1.f1,(rd_T88 y299 x5_1).f1.f2,(rd_T88 y299 x5_1).f1.f3,(rd_T88 y299 x5_1).f1.f4,wrap64 ((wrap64 ((wrap64 ((wrap64 ((wrap64 ((wrap64 (x1_1 + 1)) + 1)) + 1)) + 1)) + 1)) + 1)⟩ : S38)⟩ : S88)) (wrap64 ((wrap64 ((wrap64 ((wrap64 ((wrap64 ((wrap64 ((wrap64 (x1_1 + 1)) + 1)) + 1)) + 1)) + 1)) + 1)) + 1)) (wrap64 (x5_1 + 1)))) = some (r1,r2) := by first | (rw [hy298]; with_reducible exact H) | (have H2_ := (Option.bind_some _ _).symm.trans H; rw [hy298]; with_reducible exact H2_) | (have H2_ := (Option.bind_some _ _).symm.trans H; with_reducible exact H2_) | with_reducible exact H | (rw [hy298]; exact H) | exact H
     have Ny298 := Aside0.mk hy298
     clear hy298
     obtain ⟨y299,hy299⟩ : ∃ y_ : List (S88),y_ = (y298.set (x5_1 : Int).toNat (⟨(rd_T88 y298 x5_1).f0,(⟨(rd_T88 y298 x5_1).f1.f0,(rd_T88 y298 x5_1).f1.f1,(rd_T88 y298 x5_1).f1.f2,(rd_T88 y298 x5_1).f1.f3,wrap64 ((wrap64 ((wrap64 ((wrap64 ((wrap64 (x1_1 + 1)) + 1)) + 1)) + 1)) + 1),(rd_T88 y298 x5_1).f1.f5⟩ : S38)⟩ : S88)) := ⟨_,rfl⟩
     replace H : (laws_markBucketS.l0 k1 (y299.set (x5_1 : Int).toNat (⟨(rd_T88 y299 x5_1).f0,(⟨(rd_T88 y299 x5_1).f1.f0,(rd_T88 y299 x5_1).f1.f1,(rd_T88 y299 x5_1).f1.f2,(rd_T88 y299 x5_1).f1.f3,(rd_T88 y299 x5_1).f1.f4,wrap64 ((wrap64 ((wrap64 ((wrap64 ((wrap64 ((wrap64 (x1_1 + 1)) + 1)) + 1)) + 1)) + 1)) + 1)⟩ : S38)⟩ : S88)) (wrap64 ((wrap64 ((wrap64 ((wrap64 ((wrap64 ((wrap64 ((wrap64 (x1_1 + 1)) + 1)) + 1)) + 1)) + 1)) + 1)) + 1)) (wrap64 (x5_1 + 1))) = some (r1,r2) := by first | (rw [hy299]; with_reducible exact H) | (have H2_ := (Option.bind_some _ _).symm.trans H; rw [hy299]; with_reducible exact H2_) | (have H2_ := (Option.bind_some _ _).symm.trans H; with_reducible exact H2_) | with_reducible exact H | (rw [hy299]; exact H) | exact H
     have Ny299 := Aside0.mk hy299
     clear hy299
     obtain ⟨y300,hy300⟩ : ∃ y_ : List (S88),y_ = (y299.set (x5_1 : Int).toNat (⟨(rd_T88 y299 x5_1).f0,(⟨(rd_T88 y299 x5_1).f1.f0,(rd_T88 y299 x5_1).f1.f1,(rd_T88 y299 x5_1).f1.f2,(rd_T88 y299 x5_1).f1.f3,(rd_T88 y299 x5_1).f1.f4,wrap64 ((wrap64 ((wrap64 ((wrap64 ((wrap64 ((wrap64 (x1_1 + 1)) + 1)) + 1)) + 1)) + 1)) + 1)⟩ : S38)⟩ : S88)) := ⟨_,rfl⟩
     replace H : (laws_markBucketS.l0 k1 y300 (wrap64 ((wrap64 ((wrap64 ((wrap64 ((wrap64 ((wrap64 ((wrap64 (x1_1 + 1)) + 1)) + 1)) + 1)) + 1)) + 1)) + 1)) (wrap64 (x5_1 + 1))) = some (r1,r2) := by first | (rw [hy300]; with_reducible exact H) | (have H2_ := (Option.bind_some _ _).symm.trans H; rw [hy300]; with_reducible exact H2_) | (have H2_ := (Option.bind_some _ _).symm.trans H; with_reducible exact H2_) | with_reducible exact H | (rw [hy300]; exact H) | exact H
     have Ny300 := Aside0.mk hy300
     clear hy300
     have H' := Aside0.mk H
     clear H
     obtain ⟨Ao12,co12,eo12⟩ := Kd.R_slice HO_0.out
     subst eo12
     have p5 : 0 ≤ (x5_1 : Int) := of_decide_eq_true (by first | (with_reducible assumption) | assumption)
     have q5 : (x5_1 : Int) < ((x0_1.length : Int) : Int) := of_decide_eq_true (by first | (with_reducible assumption) | assumption)
     obtain ⟨go5,co5,eo5,gb5,gl5,cl5,HG5⟩ := Kd.R_form HO_0.out (by omega)
     (first | cases eo5 | (injection eo5 with ea_ en_ ec_; (first | subst ea_ | (injection ea_ with ea_; subst ea_)); subst ec_; clear en_))
     have GB5 := Aside0.mk gb5
     have GG5 := Aside0.mk HG5
     clear gb5 gl5 HG5
     have HMgo5 := Aside0.mk (show (P0_ go5 ∨ w.heap.size ≤ go5) from (HO_0.out.1 _ rfl))
     obtain ⟨ce5,hcl5,hM5,hcc5,hfr5⟩ := Kd.R_elem HO_0.out z88 (x5_1 : Int) p5 q5
     obtain rfl := k88_openM hM5
     have hx5_0 : wr.cell? ⟨go5,(x5_1 : Int).toNat * 7,none⟩ = some (.int .i64 ((rd_T88 x0_1 x5_1).f0)) := hcc5 0 _ rfl
     have hx5_1 : wr.cell? ⟨go5,(x5_1 : Int).toNat * 7 + 1,none⟩ = some (.int .i64 ((rd_T88 x0_1 x5_1).f1.f0)) := hcc5 1 _ rfl
     have hx5_2 : wr.cell? ⟨go5,(x5_1 : Int).toNat * 7 + 2,none⟩ = some (.int .i64 ((rd_T88 x0_1 x5_1).f1.f1)) := hcc5 2 _ rfl
     have hx5_3 : wr.cell? ⟨go5,(x5_1 : Int).toNat * 7 + 3,none⟩ = some (.int .i64 ((rd_T88 x0_1 x5_1).f1.f2)) := hcc5 3 _ rfl
     have hx5_4 : wr.cell? ⟨go5,(x5_1 : Int).toNat * 7 + 4,none⟩ = some (.int .i64 ((rd_T88 x0_1 x5_1).f1.f3)) := hcc5 4 _ rfl
     have hx5_5 : wr.cell? ⟨go5,(x5_1 : Int).toNat * 7 + 5,none⟩ = some (.int .i64 ((rd_T88 x0_1 x5_1).f1.f4)) := hcc5 5 _ rfl
     have hx5_6 : wr.cell? ⟨go5,(x5_1 : Int).toNat * 7 + 6,none⟩ = some (.int .i64 ((rd_T88 x0_1 x5_1).f1.f5)) := hcc5 6 _ rfl
     have hf5_0 : wr.frozen? ⟨go5,(x5_1 : Int).toNat * 7,none⟩ = false := hfr5 0
     have hf5_1 : wr.frozen? ⟨go5,(x5_1 : Int).toNat * 7 + 1,none⟩ = false := hfr5 1
     have hf5_2 : wr.frozen? ⟨go5,(x5_1 : Int).toNat * 7 + 2,none⟩ = false := hfr5 2
     have hf5_3 : wr.frozen? ⟨go5,(x5_1 : Int).toNat * 7 + 3,none⟩ = false := hfr5 3
     have hf5_4 : wr.frozen? ⟨go5,(x5_1 : Int).toNat * 7 + 4,none⟩ = false := hfr5 4
     have hf5_5 : wr.frozen? ⟨go5,(x5_1 : Int).toNat * 7 + 5,none⟩ = false := hfr5 5
     have hf5_6 : wr.frozen? ⟨go5,(x5_1 : Int).toNat * 7 + 6,none⟩ = false := hfr5 6
     clear hcl5 hcc5 hfr5 hM5
     replace p5 := eq_true p5
     replace q5 := eq_true q5
     have HX13 := Aside0.mk (show Kd.R k88 88 wr w0.heap.size (fun k_ => (P0_ k_ ∨ w.heap.size ≤ k_)) (.slice (some ⟨go5,0,none⟩) x0_1.length co12) x0_1 from (by (with_reducible repeat (first | apply Kd.R_alloc | apply Kd.R_drewN | apply Kd.R_drew)); exact HO_0.out))
     obtain ⟨ce13,hcl13,hM13,hcc13,hfr13⟩ := Kd.R_elem HX13.out z88 (x5_1 : Int) (of_decide_eq_true (by first | (with_reducible assumption) | assumption)) (by have h_ : (x5_1 : Int) < ((x0_1.length : Int) : Int) := of_decide_eq_true (by first | (with_reducible assumption) | assumption); first | exact h_ | (have e_ := (Kd.R_reads' HO_0.out).1; omega) | simpa using h_)
     obtain rfl := k88_openM hM13
     have HP13 := Kd.R_seg HX13.out (x5_1 : Int) (of_decide_eq_true (by first | (with_reducible assumption) | assumption)) (by have h_ : (x5_1 : Int) < ((x0_1.length : Int) : Int) := of_decide_eq_true (by first | (with_reducible assumption) | assumption); first | exact h_ | (have e_ := (Kd.R_reads' HO_0.out).1; omega) | simpa using h_) (seg := [.int .i64 x1_1]) (j:=0) hcl13 hcc13 (show 1 ≤ 7 from by decide) (x':=(⟨x1_1,(⟨(rd_T88 x0_1 x5_1).f1.f0,(rd_T88 x0_1 x5_1).f1.f1,(rd_T88 x0_1 x5_1).f1.f2,(rd_T88 x0_1 x5_1).f1.f3,(rd_T88 x0_1 x5_1).f1.f4,(rd_T88 x0_1 x5_1).f1.f5⟩ : S38)⟩ : S88)) (k88_mkM _ _ _ (⟨x1_1,(⟨(rd_T88 x0_1 x5_1).f1.f0,(rd_T88 x0_1 x5_1).f1.f1,(rd_T88 x0_1 x5_1).f1.f2,(rd_T88 x0_1 x5_1).f1.f3,(rd_T88 x0_1 x5_1).f1.f4,(rd_T88 x0_1 x5_1).f1.f5⟩ : S38)⟩ : S88) ) (fun _ hk => hk)
     have hx13_0 := hcc13 0 _ rfl
     (try simp only [show (k88).sz = 7 from rfl,Nat.mul_one,Nat.add_zero] at hx13_0)
     have hf13_0 := hfr13 0
     (try simp only [show (k88).sz = 7 from rfl,Nat.mul_one,Nat.add_zero] at hf13_0)
     clear hcl13 hcc13 hfr13 hM13
     go_wp2_with (first | ((with_reducible refine gate_store (t:=3) (p:=16) rfl ?_); refine store_event (t:=3) (p:=16) (v:=?vo_w14) (w1 := (wr.setCell ⟨go5,(x5_1 : Int).toNat * 7,none⟩ (.int .i64 x1_1))) ?hg ?ho ?hn ?hr ?_; (case ho => rfl); (case hg => rfl); (case hn => rfl); (case hr => first | (go_simp; done) | (go_simp; rfl)); intro w14 hw; have hg : wr.grownBy w14 (some go5) := (by rw [hw]; exact HP13.2); have hp_ : Kd.R k88 88 w14 w0.heap.size (fun k_ => (P0_ k_ ∨ w.heap.size ≤ k_)) (.slice (some ⟨go5,0,none⟩) x0_1.length co12) y294 := (by rw [hw,Ny294.out]; exact HP13.1); clear HP13; have n0_ := Aside0.mk (hp_); have n1_ := Aside0.mk ((by rw [hw]; exact below_set (HB.out) GB5.out : Below w0.heap.size w0 w14)); have n2_ := Aside0.mk (Kept.of_grown (S:=(fun k_ => P0_ k_)) hg (by repeat (first | (with_reducible first | exact HK.out | apply Kept.alloc | apply Kept.drewN | apply Kept.drew) | exact HK.out)) (fun k_ e_ => (HO_0.out.1 k_ e_))); clear HO_0; clear HB; clear HK; have HO_0 := n0_; have HB := n1_; have HK := n2_; clear n0_ n1_ n2_; clear hg hw hp_; have p6 : 0 ≤ (x5_1 : Int) := of_decide_eq_true (by first | (with_reducible assumption) | assumption); have q6 : (x5_1 : Int) < ((x0_1.length : Int) : Int) := of_decide_eq_true (by first | (with_reducible assumption) | assumption); obtain ⟨ce6,hcl6,hM6,hcc6,hfr6⟩ := Kd.R_elem HO_0.out z88 (x5_1 : Int) p6 q6; obtain rfl := k88_openM hM6; have hx6_0 : w14.cell? ⟨go5,(x5_1 : Int).toNat * 7,none⟩ = some (.int .i64 ((rd_T88 y294 x5_1).f0)) := hcc6 0 _ rfl; have hx6_1 : w14.cell? ⟨go5,(x5_1 : Int).toNat * 7 + 1,none⟩ = some (.int .i64 ((rd_T88 y294 x5_1).f1.f0)) := hcc6 1 _ rfl; have hx6_2 : w14.cell? ⟨go5,(x5_1 : Int).toNat * 7 + 2,none⟩ = some (.int .i64 ((rd_T88 y294 x5_1).f1.f1)) := hcc6 2 _ rfl; have hx6_3 : w14.cell? ⟨go5,(x5_1 : Int).toNat * 7 + 3,none⟩ = some (.int .i64 ((rd_T88 y294 x5_1).f1.f2)) := hcc6 3 _ rfl; have hx6_4 : w14.cell? ⟨go5,(x5_1 : Int).toNat * 7 + 4,none⟩ = some (.int .i64 ((rd_T88 y294 x5_1).f1.f3)) := hcc6 4 _ rfl; have hx6_5 : w14.cell? ⟨go5,(x5_1 : Int).toNat * 7 + 5,none⟩ = some (.int .i64 ((rd_T88 y294 x5_1).f1.f4)) := hcc6 5 _ rfl; have hx6_6 : w14.cell? ⟨go5,(x5_1 : Int).toNat * 7 + 6,none⟩ = some (.int .i64 ((rd_T88 y294 x5_1).f1.f5)) := hcc6 6 _ rfl; have hf6_0 : w14.frozen? ⟨go5,(x5_1 : Int).toNat * 7,none⟩ = false := hfr6 0; have hf6_1 : w14.frozen? ⟨go5,(x5_1 : Int).toNat * 7 + 1,none⟩ = false := hfr6 1; have hf6_2 : w14.frozen? ⟨go5,(x5_1 : Int).toNat * 7 + 2,none⟩ = false := hfr6 2; have hf6_3 : w14.frozen? ⟨go5,(x5_1 : Int).toNat * 7 + 3,none⟩ = false := hfr6 3; have hf6_4 : w14.frozen? ⟨go5,(x5_1 : Int).toNat * 7 + 4,none⟩ = false := hfr6 4; have hf6_5 : w14.frozen? ⟨go5,(x5_1 : Int).toNat * 7 + 5,none⟩ = false := hfr6 5; have hf6_6 : w14.frozen? ⟨go5,(x5_1 : Int).toNat * 7 + 6,none⟩ = false := hfr6 6; clear hcl6 hcc6 hfr6 hM6; replace p6 := eq_true p6; replace q6 := eq_true q6; have HX15 := Aside0.mk (show Kd.R k88 88 w14 w0.heap.size (fun k_ => (P0_ k_ ∨ w.heap.size ≤ k_)) (.slice (some ⟨go5,0,none⟩) x0_1.length co12) y294 from (by (with_reducible repeat (first | apply Kd.R_alloc | apply Kd.R_drewN | apply Kd.R_drew)); exact HO_0.out)); obtain ⟨ce15,hcl15,hM15,hcc15,hfr15⟩ := Kd.R_elem HX15.out z88 (x5_1 : Int) (of_decide_eq_true (by first | (with_reducible assumption) | assumption)) (by have h_ : (x5_1 : Int) < ((x0_1.length : Int) : Int) := of_decide_eq_true (by first | (with_reducible assumption) | assumption); first | exact h_ | (have e_ := (Kd.R_reads' HO_0.out).1; omega) | simpa using h_); obtain rfl := k88_openM hM15; have HP15 := Kd.R_seg HX15.out (x5_1 : Int) (of_decide_eq_true (by first | (with_reducible assumption) | assumption)) (by have h_ : (x5_1 : Int) < ((x0_1.length : Int) : Int) := of_decide_eq_true (by first | (with_reducible assumption) | assumption); first | exact h_ | (have e_ := (Kd.R_reads' HO_0.out).1; omega) | simpa using h_) (seg := [.int .i64 (wrap64 (x1_1 + 1))]) (j:=1) hcl15 hcc15 (show 2 ≤ 7 from by decide) (x':=(⟨(rd_T88 y294 x5_1).f0,(⟨wrap64 (x1_1 + 1),(rd_T88 y294 x5_1).f1.f1,(rd_T88 y294 x5_1).f1.f2,(rd_T88 y294 x5_1).f1.f3,(rd_T88 y294 x5_1).f1.f4,(rd_T88 y294 x5_1).f1.f5⟩ : S38)⟩ : S88)) (k88_mkM _ _ _ (⟨(rd_T88 y294 x5_1).f0,(⟨wrap64 (x1_1 + 1),(rd_T88 y294 x5_1).f1.f1,(rd_T88 y294 x5_1).f1.f2,(rd_T88 y294 x5_1).f1.f3,(rd_T88 y294 x5_1).f1.f4,(rd_T88 y294 x5_1).f1.f5⟩ : S38)⟩ : S88) ) (fun _ hk => hk); have hx15_1 := hcc15 1 _ rfl; (try simp only [show (k88).sz = 7 from rfl,Nat.mul_one,Nat.add_zero] at hx15_1); have hf15_1 := hfr15 1; (try simp only [show (k88).sz = 7 from rfl,Nat.mul_one,Nat.add_zero] at hf15_1); clear hcl15 hcc15 hfr15 hM15) | ((with_reducible refine gate_store (t:=3) (p:=24) rfl ?_); refine store_event (t:=3) (p:=24) (v:=?vo_w16) (w1 := (w14.setCell ⟨go5,(x5_1 : Int).toNat * 7 + 1,none⟩ (.int .i64 (wrap64 (x1_1 + 1))))) ?hg ?ho ?hn ?hr ?_; (case ho => rfl); (case hg => rfl); (case hn => rfl); (case hr => first | (go_simp; done) | (go_simp; rfl)); intro w16 hw; have hg : w14.grownBy w16 (some go5) := (by rw [hw]; exact HP15.2); have hp_ : Kd.R k88 88 w16 w0.heap.size (fun k_ => (P0_ k_ ∨ w.heap.size ≤ k_)) (.slice (some ⟨go5,0,none⟩) x0_1.length co12) y295 := (by rw [hw,Ny295.out]; exact HP15.1); clear HP15; have n0_ := Aside0.mk (hp_); have n1_ := Aside0.mk ((by rw [hw]; exact below_set (HB.out) GB5.out : Below w0.heap.size w0 w16)); have n2_ := Aside0.mk (Kept.of_grown (S:=(fun k_ => P0_ k_)) hg (by repeat (first | (with_reducible first | exact HK.out | apply Kept.alloc | apply Kept.drewN | apply Kept.drew) | exact HK.out)) (fun k_ e_ => (HO_0.out.1 k_ e_))); clear HO_0; clear HB; clear HK; have HO_0 := n0_; have HB := n1_; have HK := n2_; clear n0_ n1_ n2_; clear hg hw hp_; have p7 : 0 ≤ (x5_1 : Int) := of_decide_eq_true (by first | (with_reducible assumption) | assumption); have q7 : (x5_1 : Int) < ((x0_1.length : Int) : Int) := of_decide_eq_true (by first | (with_reducible assumption) | assumption); obtain ⟨ce7,hcl7,hM7,hcc7,hfr7⟩ := Kd.R_elem HO_0.out z88 (x5_1 : Int) p7 q7; obtain rfl := k88_openM hM7; have hx7_0 : w16.cell? ⟨go5,(x5_1 : Int).toNat * 7,none⟩ = some (.int .i64 ((rd_T88 y295 x5_1).f0)) := hcc7 0 _ rfl; have hx7_1 : w16.cell? ⟨go5,(x5_1 : Int).toNat * 7 + 1,none⟩ = some (.int .i64 ((rd_T88 y295 x5_1).f1.f0)) := hcc7 1 _ rfl; have hx7_2 : w16.cell? ⟨go5,(x5_1 : Int).toNat * 7 + 2,none⟩ = some (.int .i64 ((rd_T88 y295 x5_1).f1.f1)) := hcc7 2 _ rfl; have hx7_3 : w16.cell? ⟨go5,(x5_1 : Int).toNat * 7 + 3,none⟩ = some (.int .i64 ((rd_T88 y295 x5_1).f1.f2)) := hcc7 3 _ rfl; have hx7_4 : w16.cell? ⟨go5,(x5_1 : Int).toNat * 7 + 4,none⟩ = some (.int .i64 ((rd_T88 y295 x5_1).f1.f3)) := hcc7 4 _ rfl; have hx7_5 : w16.cell? ⟨go5,(x5_1 : Int).toNat * 7 + 5,none⟩ = some (.int .i64 ((rd_T88 y295 x5_1).f1.f4)) := hcc7 5 _ rfl; have hx7_6 : w16.cell? ⟨go5,(x5_1 : Int).toNat * 7 + 6,none⟩ = some (.int .i64 ((rd_T88 y295 x5_1).f1.f5)) := hcc7 6 _ rfl; have hf7_0 : w16.frozen? ⟨go5,(x5_1 : Int).toNat * 7,none⟩ = false := hfr7 0; have hf7_1 : w16.frozen? ⟨go5,(x5_1 : Int).toNat * 7 + 1,none⟩ = false := hfr7 1; have hf7_2 : w16.frozen? ⟨go5,(x5_1 : Int).toNat * 7 + 2,none⟩ = false := hfr7 2; have hf7_3 : w16.frozen? ⟨go5,(x5_1 : Int).toNat * 7 + 3,none⟩ = false := hfr7 3; have hf7_4 : w16.frozen? ⟨go5,(x5_1 : Int).toNat * 7 + 4,none⟩ = false := hfr7 4; have hf7_5 : w16.frozen? ⟨go5,(x5_1 : Int).toNat * 7 + 5,none⟩ = false := hfr7 5; have hf7_6 : w16.frozen? ⟨go5,(x5_1 : Int).toNat * 7 + 6,none⟩ = false := hfr7 6; clear hcl7 hcc7 hfr7 hM7; replace p7 := eq_true p7; replace q7 := eq_true q7; have HX17 := Aside0.mk (show Kd.R k88 88 w16 w0.heap.size (fun k_ => (P0_ k_ ∨ w.heap.size ≤ k_)) (.slice (some ⟨go5,0,none⟩) x0_1.length co12) y295 from (by (with_reducible repeat (first | apply Kd.R_alloc | apply Kd.R_drewN | apply Kd.R_drew)); exact HO_0.out)); obtain ⟨ce17,hcl17,hM17,hcc17,hfr17⟩ := Kd.R_elem HX17.out z88 (x5_1 : Int) (of_decide_eq_true (by first | (with_reducible assumption) | assumption)) (by have h_ : (x5_1 : Int) < ((x0_1.length : Int) : Int) := of_decide_eq_true (by first | (with_reducible assumption) | assumption); first | exact h_ | (have e_ := (Kd.R_reads' HO_0.out).1; omega) | simpa using h_); obtain rfl := k88_openM hM17; have HP17 := Kd.R_seg HX17.out (x5_1 : Int) (of_decide_eq_true (by first | (with_reducible assumption) | assumption)) (by have h_ : (x5_1 : Int) < ((x0_1.length : Int) : Int) := of_decide_eq_true (by first | (with_reducible assumption) | assumption); first | exact h_ | (have e_ := (Kd.R_reads' HO_0.out).1; omega) | simpa using h_) (seg := [.int .i64 (wrap64 ((wrap64 (x1_1 + 1)) + 1))]) (j:=2) hcl17 hcc17 (show 3 ≤ 7 from by decide) (x':=(⟨(rd_T88 y295 x5_1).f0,(⟨(rd_T88 y295 x5_1).f1.f0,wrap64 ((wrap64 (x1_1 + 1)) + 1),(rd_T88 y295 x5_1).f1.f2,(rd_T88 y295 x5_1).f1.f3,(rd_T88 y295 x5_1).f1.f4,(rd_T88 y295 x5_1).f1.f5⟩ : S38)⟩ : S88)) (k88_mkM _ _ _ (⟨(rd_T88 y295 x5_1).f0,(⟨(rd_T88 y295 x5_1).f1.f0,wrap64 ((wrap64 (x1_1 + 1)) + 1),(rd_T88 y295 x5_1).f1.f2,(rd_T88 y295 x5_1).f1.f3,(rd_T88 y295 x5_1).f1.f4,(rd_T88 y295 x5_1).f1.f5⟩ : S38)⟩ : S88) ) (fun _ hk => hk); have hx17_2 := hcc17 2 _ rfl; (try simp only [show (k88).sz = 7 from rfl,Nat.mul_one,Nat.add_zero] at hx17_2); have hf17_2 := hfr17 2; (try simp only [show (k88).sz = 7 from rfl,Nat.mul_one,Nat.add_zero] at hf17_2); clear hcl17 hcc17 hfr17 hM17) | ((with_reducible refine gate_store (t:=3) (p:=32) rfl ?_); refine store_event (t:=3) (p:=32) (v:=?vo_w18) (w1 := (w16.setCell ⟨go5,(x5_1 : Int).toNat * 7 + 2,none⟩ (.int .i64 (wrap64 ((wrap64 (x1_1 + 1)) + 1))))) ?hg ?ho ?hn ?hr ?_; (case ho => rfl); (case hg => rfl); (case hn => rfl); (case hr => first | (go_simp; done) | (go_simp; rfl)); intro w18 hw; have hg : w16.grownBy w18 (some go5) := (by rw [hw]; exact HP17.2); have hp_ : Kd.R k88 88 w18 w0.heap.size (fun k_ => (P0_ k_ ∨ w.heap.size ≤ k_)) (.slice (some ⟨go5,0,none⟩) x0_1.length co12) y296 := (by rw [hw,Ny296.out]; exact HP17.1); clear HP17; have n0_ := Aside0.mk (hp_); have n1_ := Aside0.mk ((by rw [hw]; exact below_set (HB.out) GB5.out : Below w0.heap.size w0 w18)); have n2_ := Aside0.mk (Kept.of_grown (S:=(fun k_ => P0_ k_)) hg (by repeat (first | (with_reducible first | exact HK.out | apply Kept.alloc | apply Kept.drewN | apply Kept.drew) | exact HK.out)) (fun k_ e_ => (HO_0.out.1 k_ e_))); clear HO_0; clear HB; clear HK; have HO_0 := n0_; have HB := n1_; have HK := n2_; clear n0_ n1_ n2_; clear hg hw hp_; have p8 : 0 ≤ (x5_1 : Int) := of_decide_eq_true (by first | (with_reducible assumption) | assumption); have q8 : (x5_1 : Int) < ((x0_1.length : Int) : Int) := of_decide_eq_true (by first | (with_reducible assumption) | assumption); obtain ⟨ce8,hcl8,hM8,hcc8,hfr8⟩ := Kd.R_elem HO_0.out z88 (x5_1 : Int) p8 q8; obtain rfl := k88_openM hM8; have hx8_0 : w18.cell? ⟨go5,(x5_1 : Int).toNat * 7,none⟩ = some (.int .i64 ((rd_T88 y296 x5_1).f0)) := hcc8 0 _ rfl; have hx8_1 : w18.cell? ⟨go5,(x5_1 : Int).toNat * 7 + 1,none⟩ = some (.int .i64 ((rd_T88 y296 x5_1).f1.f0)) := hcc8 1 _ rfl; have hx8_2 : w18.cell? ⟨go5,(x5_1 : Int).toNat * 7 + 2,none⟩ = some (.int .i64 ((rd_T88 y296 x5_1).f1.f1)) := hcc8 2 _ rfl; have hx8_3 : w18.cell? ⟨go5,(x5_1 : Int).toNat * 7 + 3,none⟩ = some (.int .i64 ((rd_T88 y296 x5_1).f1.f2)) := hcc8 3 _ rfl; have hx8_4 : w18.cell? ⟨go5,(x5_1 : Int).toNat * 7 + 4,none⟩ = some (.int .i64 ((rd_T88 y296 x5_1).f1.f3)) := hcc8 4 _ rfl; have hx8_5 : w18.cell? ⟨go5,(x5_1 : Int).toNat * 7 + 5,none⟩ = some (.int .i64 ((rd_T88 y296 x5_1).f1.f4)) := hcc8 5 _ rfl; have hx8_6 : w18.cell? ⟨go5,(x5_1 : Int).toNat * 7 + 6,none⟩ = some (.int .i64 ((rd_T88 y296 x5_1).f1.f5)) := hcc8 6 _ rfl; have hf8_0 : w18.frozen? ⟨go5,(x5_1 : Int).toNat * 7,none⟩ = false := hfr8 0; have hf8_1 : w18.frozen? ⟨go5,(x5_1 : Int).toNat * 7 + 1,none⟩ = false := hfr8 1; have hf8_2 : w18.frozen? ⟨go5,(x5_1 : Int).toNat * 7 + 2,none⟩ = false := hfr8 2; have hf8_3 : w18.frozen? ⟨go5,(x5_1 : Int).toNat * 7 + 3,none⟩ = false := hfr8 3; have hf8_4 : w18.frozen? ⟨go5,(x5_1 : Int).toNat * 7 + 4,none⟩ = false := hfr8 4; have hf8_5 : w18.frozen? ⟨go5,(x5_1 : Int).toNat * 7 + 5,none⟩ = false := hfr8 5; have hf8_6 : w18.frozen? ⟨go5,(x5_1 : Int).toNat * 7 + 6,none⟩ = false := hfr8 6; clear hcl8 hcc8 hfr8 hM8; replace p8 := eq_true p8; replace q8 := eq_true q8; have HX19 := Aside0.mk (show Kd.R k88 88 w18 w0.heap.size (fun k_ => (P0_ k_ ∨ w.heap.size ≤ k_)) (.slice (some ⟨go5,0,none⟩) x0_1.length co12) y296 from (by (with_reducible repeat (first | apply Kd.R_alloc | apply Kd.R_drewN | apply Kd.R_drew)); exact HO_0.out)); obtain ⟨ce19,hcl19,hM19,hcc19,hfr19⟩ := Kd.R_elem HX19.out z88 (x5_1 : Int) (of_decide_eq_true (by first | (with_reducible assumption) | assumption)) (by have h_ : (x5_1 : Int) < ((x0_1.length : Int) : Int) := of_decide_eq_true (by first | (with_reducible assumption) | assumption); first | exact h_ | (have e_ := (Kd.R_reads' HO_0.out).1; omega) | simpa using h_); obtain rfl := k88_openM hM19; have HP19 := Kd.R_seg HX19.out (x5_1 : Int) (of_decide_eq_true (by first | (with_reducible assumption) | assumption)) (by have h_ : (x5_1 : Int) < ((x0_1.length : Int) : Int) := of_decide_eq_true (by first | (with_reducible assumption) | assumption); first | exact h_ | (have e_ := (Kd.R_reads' HO_0.out).1; omega) | simpa using h_) (seg := [.int .i64 (wrap64 ((wrap64 ((wrap64 (x1_1 + 1)) + 1)) + 1))]) (j:=3) hcl19 hcc19 (show 4 ≤ 7 from by decide) (x':=(⟨(rd_T88 y296 x5_1).f0,(⟨(rd_T88 y296 x5_1).f1.f0,(rd_T88 y296 x5_1).f1.f1,wrap64 ((wrap64 ((wrap64 (x1_1 + 1)) + 1)) + 1),(rd_T88 y296 x5_1).f1.f3,(rd_T88 y296 x5_1).f1.f4,(rd_T88 y296 x5_1).f1.f5⟩ : S38)⟩ : S88)) (k88_mkM _ _ _ (⟨(rd_T88 y296 x5_1).f0,(⟨(rd_T88 y296 x5_1).f1.f0,(rd_T88 y296 x5_1).f1.f1,wrap64 ((wrap64 ((wrap64 (x1_1 + 1)) + 1)) + 1),(rd_T88 y296 x5_1).f1.f3,(rd_T88 y296 x5_1).f1.f4,(rd_T88 y296 x5_1).f1.f5⟩ : S38)⟩ : S88) ) (fun _ hk => hk); have hx19_3 := hcc19 3 _ rfl; (try simp only [show (k88).sz = 7 from rfl,Nat.mul_one,Nat.add_zero] at hx19_3); have hf19_3 := hfr19 3; (try simp only [show (k88).sz = 7 from rfl,Nat.mul_one,Nat.add_zero] at hf19_3); clear hcl19 hcc19 hfr19 hM19) | ((with_reducible refine gate_store (t:=3) (p:=40) rfl ?_); refine store_event (t:=3) (p:=40) (v:=?vo_w20) (w1 := (w18.setCell ⟨go5,(x5_1 : Int).toNat * 7 + 3,none⟩ (.int .i64 (wrap64 ((wrap64 ((wrap64 (x1_1 + 1)) + 1)) + 1))))) ?hg ?ho ?hn ?hr ?_; (case ho => rfl); (case hg => rfl); (case hn => rfl); (case hr => first | (go_simp; done) | (go_simp; rfl)); intro w20 hw; have hg : w18.grownBy w20 (some go5) := (by rw [hw]; exact HP19.2); have hp_ : Kd.R k88 88 w20 w0.heap.size (fun k_ => (P0_ k_ ∨ w.heap.size ≤ k_)) (.slice (some ⟨go5,0,none⟩) x0_1.length co12) y297 := (by rw [hw,Ny297.out]; exact HP19.1); clear HP19; have n0_ := Aside0.mk (hp_); have n1_ := Aside0.mk ((by rw [hw]; exact below_set (HB.out) GB5.out : Below w0.heap.size w0 w20)); have n2_ := Aside0.mk (Kept.of_grown (S:=(fun k_ => P0_ k_)) hg (by repeat (first | (with_reducible first | exact HK.out | apply Kept.alloc | apply Kept.drewN | apply Kept.drew) | exact HK.out)) (fun k_ e_ => (HO_0.out.1 k_ e_))); clear HO_0; clear HB; clear HK; have HO_0 := n0_; have HB := n1_; have HK := n2_; clear n0_ n1_ n2_; clear hg hw hp_; have p9 : 0 ≤ (x5_1 : Int) := of_decide_eq_true (by first | (with_reducible assumption) | assumption); have q9 : (x5_1 : Int) < ((x0_1.length : Int) : Int) := of_decide_eq_true (by first | (with_reducible assumption) | assumption); obtain ⟨ce9,hcl9,hM9,hcc9,hfr9⟩ := Kd.R_elem HO_0.out z88 (x5_1 : Int) p9 q9; obtain rfl := k88_openM hM9; have hx9_0 : w20.cell? ⟨go5,(x5_1 : Int).toNat * 7,none⟩ = some (.int .i64 ((rd_T88 y297 x5_1).f0)) := hcc9 0 _ rfl; have hx9_1 : w20.cell? ⟨go5,(x5_1 : Int).toNat * 7 + 1,none⟩ = some (.int .i64 ((rd_T88 y297 x5_1).f1.f0)) := hcc9 1 _ rfl; have hx9_2 : w20.cell? ⟨go5,(x5_1 : Int).toNat * 7 + 2,none⟩ = some (.int .i64 ((rd_T88 y297 x5_1).f1.f1)) := hcc9 2 _ rfl; have hx9_3 : w20.cell? ⟨go5,(x5_1 : Int).toNat * 7 + 3,none⟩ = some (.int .i64 ((rd_T88 y297 x5_1).f1.f2)) := hcc9 3 _ rfl; have hx9_4 : w20.cell? ⟨go5,(x5_1 : Int).toNat * 7 + 4,none⟩ = some (.int .i64 ((rd_T88 y297 x5_1).f1.f3)) := hcc9 4 _ rfl; have hx9_5 : w20.cell? ⟨go5,(x5_1 : Int).toNat * 7 + 5,none⟩ = some (.int .i64 ((rd_T88 y297 x5_1).f1.f4)) := hcc9 5 _ rfl; have hx9_6 : w20.cell? ⟨go5,(x5_1 : Int).toNat * 7 + 6,none⟩ = some (.int .i64 ((rd_T88 y297 x5_1).f1.f5)) := hcc9 6 _ rfl; have hf9_0 : w20.frozen? ⟨go5,(x5_1 : Int).toNat * 7,none⟩ = false := hfr9 0; have hf9_1 : w20.frozen? ⟨go5,(x5_1 : Int).toNat * 7 + 1,none⟩ = false := hfr9 1; have hf9_2 : w20.frozen? ⟨go5,(x5_1 : Int).toNat * 7 + 2,none⟩ = false := hfr9 2; have hf9_3 : w20.frozen? ⟨go5,(x5_1 : Int).toNat * 7 + 3,none⟩ = false := hfr9 3; have hf9_4 : w20.frozen? ⟨go5,(x5_1 : Int).toNat * 7 + 4,none⟩ = false := hfr9 4; have hf9_5 : w20.frozen? ⟨go5,(x5_1 : Int).toNat * 7 + 5,none⟩ = false := hfr9 5; have hf9_6 : w20.frozen? ⟨go5,(x5_1 : Int).toNat * 7 + 6,none⟩ = false := hfr9 6; clear hcl9 hcc9 hfr9 hM9; replace p9 := eq_true p9; replace q9 := eq_true q9; have HX21 := Aside0.mk (show Kd.R k88 88 w20 w0.heap.size (fun k_ => (P0_ k_ ∨ w.heap.size ≤ k_)) (.slice (some ⟨go5,0,none⟩) x0_1.length co12) y297 from (by (with_reducible repeat (first | apply Kd.R_alloc | apply Kd.R_drewN | apply Kd.R_drew)); exact HO_0.out)); obtain ⟨ce21,hcl21,hM21,hcc21,hfr21⟩ := Kd.R_elem HX21.out z88 (x5_1 : Int) (of_decide_eq_true (by first | (with_reducible assumption) | assumption)) (by have h_ : (x5_1 : Int) < ((x0_1.length : Int) : Int) := of_decide_eq_true (by first | (with_reducible assumption) | assumption); first | exact h_ | (have e_ := (Kd.R_reads' HO_0.out).1; omega) | simpa using h_); obtain rfl := k88_openM hM21; have HP21 := Kd.R_seg HX21.out (x5_1 : Int) (of_decide_eq_true (by first | (with_reducible assumption) | assumption)) (by have h_ : (x5_1 : Int) < ((x0_1.length : Int) : Int) := of_decide_eq_true (by first | (with_reducible assumption) | assumption); first | exact h_ | (have e_ := (Kd.R_reads' HO_0.out).1; omega) | simpa using h_) (seg := [.int .i64 (wrap64 ((wrap64 ((wrap64 ((wrap64 (x1_1 + 1)) + 1)) + 1)) + 1))]) (j:=4) hcl21 hcc21 (show 5 ≤ 7 from by decide) (x':=(⟨(rd_T88 y297 x5_1).f0,(⟨(rd_T88 y297 x5_1).f1.f0,(rd_T88 y297 x5_1).f1.f1,(rd_T88 y297 x5_1).f1.f2,wrap64 ((wrap64 ((wrap64 ((wrap64 (x1_1 + 1)) + 1)) + 1)) + 1),(rd_T88 y297 x5_1).f1.f4,(rd_T88 y297 x5_1).f1.f5⟩ : S38)⟩ : S88)) (k88_mkM _ _ _ (⟨(rd_T88 y297 x5_1).f0,(⟨(rd_T88 y297 x5_1).f1.f0,(rd_T88 y297 x5_1).f1.f1,(rd_T88 y297 x5_1).f1.f2,wrap64 ((wrap64 ((wrap64 ((wrap64 (x1_1 + 1)) + 1)) + 1)) + 1),(rd_T88 y297 x5_1).f1.f4,(rd_T88 y297 x5_1).f1.f5⟩ : S38)⟩ : S88) ) (fun _ hk => hk); have hx21_4 := hcc21 4 _ rfl; (try simp only [show (k88).sz = 7 from rfl,Nat.mul_one,Nat.add_zero] at hx21_4); have hf21_4 := hfr21 4; (try simp only [show (k88).sz = 7 from rfl,Nat.mul_one,Nat.add_zero] at hf21_4); clear hcl21 hcc21 hfr21 hM21) | ((with_reducible refine gate_store (t:=3) (p:=48) rfl ?_); refine store_event (t:=3) (p:=48) (v:=?vo_w22) (w1 := (w20.setCell ⟨go5,(x5_1 : Int).toNat * 7 + 4,none⟩ (.int .i64 (wrap64 ((wrap64 ((wrap64 ((wrap64 (x1_1 + 1)) + 1)) + 1)) + 1))))) ?hg ?ho ?hn ?hr ?_; (case ho => rfl); (case hg => rfl); (case hn => rfl); (case hr => first | (go_simp; done) | (go_simp; rfl)); intro w22 hw; have hg : w20.grownBy w22 (some go5) := (by rw [hw]; exact HP21.2); have hp_ : Kd.R k88 88 w22 w0.heap.size (fun k_ => (P0_ k_ ∨ w.heap.size ≤ k_)) (.slice (some ⟨go5,0,none⟩) x0_1.length co12) y298 := (by rw [hw,Ny298.out]; exact HP21.1); clear HP21; have n0_ := Aside0.mk (hp_); have n1_ := Aside0.mk ((by rw [hw]; exact below_set (HB.out) GB5.out : Below w0.heap.size w0 w22)); have n2_ := Aside0.mk (Kept.of_grown (S:=(fun k_ => P0_ k_)) hg (by repeat (first | (with_reducible first | exact HK.out | apply Kept.alloc | apply Kept.drewN | apply Kept.drew) | exact HK.out)) (fun k_ e_ => (HO_0.out.1 k_ e_))); clear HO_0; clear HB; clear HK; have HO_0 := n0_; have HB := n1_; have HK := n2_; clear n0_ n1_ n2_; clear hg hw hp_; have p10 : 0 ≤ (x5_1 : Int) := of_decide_eq_true (by first | (with_reducible assumption) | assumption); have q10 : (x5_1 : Int) < ((x0_1.length : Int) : Int) := of_decide_eq_true (by first | (with_reducible assumption) | assumption); obtain ⟨ce10,hcl10,hM10,hcc10,hfr10⟩ := Kd.R_elem HO_0.out z88 (x5_1 : Int) p10 q10; obtain rfl := k88_openM hM10; have hx10_0 : w22.cell? ⟨go5,(x5_1 : Int).toNat * 7,none⟩ = some (.int .i64 ((rd_T88 y298 x5_1).f0)) := hcc10 0 _ rfl; have hx10_1 : w22.cell? ⟨go5,(x5_1 : Int).toNat * 7 + 1,none⟩ = some (.int .i64 ((rd_T88 y298 x5_1).f1.f0)) := hcc10 1 _ rfl; have hx10_2 : w22.cell? ⟨go5,(x5_1 : Int).toNat * 7 + 2,none⟩ = some (.int .i64 ((rd_T88 y298 x5_1).f1.f1)) := hcc10 2 _ rfl; have hx10_3 : w22.cell? ⟨go5,(x5_1 : Int).toNat * 7 + 3,none⟩ = some (.int .i64 ((rd_T88 y298 x5_1).f1.f2)) := hcc10 3 _ rfl; have hx10_4 : w22.cell? ⟨go5,(x5_1 : Int).toNat * 7 + 4,none⟩ = some (.int .i64 ((rd_T88 y298 x5_1).f1.f3)) := hcc10 4 _ rfl; have hx10_5 : w22.cell? ⟨go5,(x5_1 : Int).toNat * 7 + 5,none⟩ = some (.int .i64 ((rd_T88 y298 x5_1).f1.f4)) := hcc10 5 _ rfl; have hx10_6 : w22.cell? ⟨go5,(x5_1 : Int).toNat * 7 + 6,none⟩ = some (.int .i64 ((rd_T88 y298 x5_1).f1.f5)) := hcc10 6 _ rfl; have hf10_0 : w22.frozen? ⟨go5,(x5_1 : Int).toNat * 7,none⟩ = false := hfr10 0; have hf10_1 : w22.frozen? ⟨go5,(x5_1 : Int).toNat * 7 + 1,none⟩ = false := hfr10 1; have hf10_2 : w22.frozen? ⟨go5,(x5_1 : Int).toNat * 7 + 2,none⟩ = false := hfr10 2; have hf10_3 : w22.frozen? ⟨go5,(x5_1 : Int).toNat * 7 + 3,none⟩ = false := hfr10 3; have hf10_4 : w22.frozen? ⟨go5,(x5_1 : Int).toNat * 7 + 4,none⟩ = false := hfr10 4; have hf10_5 : w22.frozen? ⟨go5,(x5_1 : Int).toNat * 7 + 5,none⟩ = false := hfr10 5; have hf10_6 : w22.frozen? ⟨go5,(x5_1 : Int).toNat * 7 + 6,none⟩ = false := hfr10 6; clear hcl10 hcc10 hfr10 hM10; replace p10 := eq_true p10; replace q10 := eq_true q10; have HX23 := Aside0.mk (show Kd.R k88 88 w22 w0.heap.size (fun k_ => (P0_ k_ ∨ w.heap.size ≤ k_)) (.slice (some ⟨go5,0,none⟩) x0_1.length co12) y298 from (by (with_reducible repeat (first | apply Kd.R_alloc | apply Kd.R_drewN | apply Kd.R_drew)); exact HO_0.out)); obtain ⟨ce23,hcl23,hM23,hcc23,hfr23⟩ := Kd.R_elem HX23.out z88 (x5_1 : Int) (of_decide_eq_true (by first | (with_reducible assumption) | assumption)) (by have h_ : (x5_1 : Int) < ((x0_1.length : Int) : Int) := of_decide_eq_true (by first | (with_reducible assumption) | assumption); first | exact h_ | (have e_ := (Kd.R_reads' HO_0.out).1; omega) | simpa using h_); obtain rfl := k88_openM hM23; have HP23 := Kd.R_seg HX23.out (x5_1 : Int) (of_decide_eq_true (by first | (with_reducible assumption) | assumption)) (by have h_ : (x5_1 : Int) < ((x0_1.length : Int) : Int) := of_decide_eq_true (by first | (with_reducible assumption) | assumption); first | exact h_ | (have e_ := (Kd.R_reads' HO_0.out).1; omega) | simpa using h_) (seg := [.int .i64 (wrap64 ((wrap64 ((wrap64 ((wrap64 ((wrap64 (x1_1 + 1)) + 1)) + 1)) + 1)) + 1))]) (j:=5) hcl23 hcc23 (show 6 ≤ 7 from by decide) (x':=(⟨(rd_T88 y298 x5_1).f0,(⟨(rd_T88 y298 x5_1).f1.f0,(rd_T88 y298 x5_1).f1.f1,(rd_T88 y298 x5_1).f1.f2,(rd_T88 y298 x5_1).f1.f3,wrap64 ((wrap64 ((wrap64 ((wrap64 ((wrap64 (x1_1 + 1)) + 1)) + 1)) + 1)) + 1),(rd_T88 y298 x5_1).f1.f5⟩ : S38)⟩ : S88)) (k88_mkM _ _ _ (⟨(rd_T88 y298 x5_1).f0,(⟨(rd_T88 y298 x5_1).f1.f0,(rd_T88 y298 x5_1).f1.f1,(rd_T88 y298 x5_1).f1.f2,(rd_T88 y298 x5_1).f1.f3,wrap64 ((wrap64 ((wrap64 ((wrap64 ((wrap64 (x1_1 + 1)) + 1)) + 1)) + 1)) + 1),(rd_T88 y298 x5_1).f1.f5⟩ : S38)⟩ : S88) ) (fun _ hk => hk); have hx23_5 := hcc23 5 _ rfl; (try simp only [show (k88).sz = 7 from rfl,Nat.mul_one,Nat.add_zero] at hx23_5); have hf23_5 := hfr23 5; (try simp only [show (k88).sz = 7 from rfl,Nat.mul_one,Nat.add_zero] at hf23_5); clear hcl23 hcc23 hfr23 hM23) | ((with_reducible refine gate_store (t:=3) (p:=56) rfl ?_); refine store_event (t:=3) (p:=56) (v:=?vo_w24) (w1 := (w22.setCell ⟨go5,(x5_1 : Int).toNat * 7 + 5,none⟩ (.int .i64 (wrap64 ((wrap64 ((wrap64 ((wrap64 ((wrap64 (x1_1 + 1)) + 1)) + 1)) + 1)) + 1))))) ?hg ?ho ?hn ?hr ?_; (case ho => rfl); (case hg => rfl); (case hn => rfl); (case hr => first | (go_simp; done) | (go_simp; rfl)); intro w24 hw; have hg : w22.grownBy w24 (some go5) := (by rw [hw]; exact HP23.2); have hp_ : Kd.R k88 88 w24 w0.heap.size (fun k_ => (P0_ k_ ∨ w.heap.size ≤ k_)) (.slice (some ⟨go5,0,none⟩) x0_1.length co12) y299 := (by rw [hw,Ny299.out]; exact HP23.1); clear HP23; have n0_ := Aside0.mk (hp_); have n1_ := Aside0.mk ((by rw [hw]; exact below_set (HB.out) GB5.out : Below w0.heap.size w0 w24)); have n2_ := Aside0.mk (Kept.of_grown (S:=(fun k_ => P0_ k_)) hg (by repeat (first | (with_reducible first | exact HK.out | apply Kept.alloc | apply Kept.drewN | apply Kept.drew) | exact HK.out)) (fun k_ e_ => (HO_0.out.1 k_ e_))); clear HO_0; clear HB; clear HK; have HO_0 := n0_; have HB := n1_; have HK := n2_; clear n0_ n1_ n2_; clear hg hw hp_; have p11 : 0 ≤ (x5_1 : Int) := of_decide_eq_true (by first | (with_reducible assumption) | assumption); have q11 : (x5_1 : Int) < ((x0_1.length : Int) : Int) := of_decide_eq_true (by first | (with_reducible assumption) | assumption); obtain ⟨ce11,hcl11,hM11,hcc11,hfr11⟩ := Kd.R_elem HO_0.out z88 (x5_1 : Int) p11 q11; obtain rfl := k88_openM hM11; have hx11_0 : w24.cell? ⟨go5,(x5_1 : Int).toNat * 7,none⟩ = some (.int .i64 ((rd_T88 y299 x5_1).f0)) := hcc11 0 _ rfl; have hx11_1 : w24.cell? ⟨go5,(x5_1 : Int).toNat * 7 + 1,none⟩ = some (.int .i64 ((rd_T88 y299 x5_1).f1.f0)) := hcc11 1 _ rfl; have hx11_2 : w24.cell? ⟨go5,(x5_1 : Int).toNat * 7 + 2,none⟩ = some (.int .i64 ((rd_T88 y299 x5_1).f1.f1)) := hcc11 2 _ rfl; have hx11_3 : w24.cell? ⟨go5,(x5_1 : Int).toNat * 7 + 3,none⟩ = some (.int .i64 ((rd_T88 y299 x5_1).f1.f2)) := hcc11 3 _ rfl; have hx11_4 : w24.cell? ⟨go5,(x5_1 : Int).toNat * 7 + 4,none⟩ = some (.int .i64 ((rd_T88 y299 x5_1).f1.f3)) := hcc11 4 _ rfl; have hx11_5 : w24.cell? ⟨go5,(x5_1 : Int).toNat * 7 + 5,none⟩ = some (.int .i64 ((rd_T88 y299 x5_1).f1.f4)) := hcc11 5 _ rfl; have hx11_6 : w24.cell? ⟨go5,(x5_1 : Int).toNat * 7 + 6,none⟩ = some (.int .i64 ((rd_T88 y299 x5_1).f1.f5)) := hcc11 6 _ rfl; have hf11_0 : w24.frozen? ⟨go5,(x5_1 : Int).toNat * 7,none⟩ = false := hfr11 0; have hf11_1 : w24.frozen? ⟨go5,(x5_1 : Int).toNat * 7 + 1,none⟩ = false := hfr11 1; have hf11_2 : w24.frozen? ⟨go5,(x5_1 : Int).toNat * 7 + 2,none⟩ = false := hfr11 2; have hf11_3 : w24.frozen? ⟨go5,(x5_1 : Int).toNat * 7 + 3,none⟩ = false := hfr11 3; have hf11_4 : w24.frozen? ⟨go5,(x5_1 : Int).toNat * 7 + 4,none⟩ = false := hfr11 4; have hf11_5 : w24.frozen? ⟨go5,(x5_1 : Int).toNat * 7 + 5,none⟩ = false := hfr11 5; have hf11_6 : w24.frozen? ⟨go5,(x5_1 : Int).toNat * 7 + 6,none⟩ = false := hfr11 6; clear hcl11 hcc11 hfr11 hM11; replace p11 := eq_true p11; replace q11 := eq_true q11; have HX25 := Aside0.mk (show Kd.R k88 88 w24 w0.heap.size (fun k_ => (P0_ k_ ∨ w.heap.size ≤ k_)) (.slice (some ⟨go5,0,none⟩) x0_1.length co12) y299 from (by (with_reducible repeat (first | apply Kd.R_alloc | apply Kd.R_drewN | apply Kd.R_drew)); exact HO_0.out)); obtain ⟨ce25,hcl25,hM25,hcc25,hfr25⟩ := Kd.R_elem HX25.out z88 (x5_1 : Int) (of_decide_eq_true (by first | (with_reducible assumption) | assumption)) (by have h_ : (x5_1 : Int) < ((x0_1.length : Int) : Int) := of_decide_eq_true (by first | (with_reducible assumption) | assumption); first | exact h_ | (have e_ := (Kd.R_reads' HO_0.out).1; omega) | simpa using h_); obtain rfl := k88_openM hM25; have HP25 := Kd.R_seg HX25.out (x5_1 : Int) (of_decide_eq_true (by first | (with_reducible assumption) | assumption)) (by have h_ : (x5_1 : Int) < ((x0_1.length : Int) : Int) := of_decide_eq_true (by first | (with_reducible assumption) | assumption); first | exact h_ | (have e_ := (Kd.R_reads' HO_0.out).1; omega) | simpa using h_) (seg := [.int .i64 (wrap64 ((wrap64 ((wrap64 ((wrap64 ((wrap64 ((wrap64 (x1_1 + 1)) + 1)) + 1)) + 1)) + 1)) + 1))]) (j:=6) hcl25 hcc25 (show 7 ≤ 7 from by decide) (x':=(⟨(rd_T88 y299 x5_1).f0,(⟨(rd_T88 y299 x5_1).f1.f0,(rd_T88 y299 x5_1).f1.f1,(rd_T88 y299 x5_1).f1.f2,(rd_T88 y299 x5_1).f1.f3,(rd_T88 y299 x5_1).f1.f4,wrap64 ((wrap64 ((wrap64 ((wrap64 ((wrap64 ((wrap64 (x1_1 + 1)) + 1)) + 1)) + 1)) + 1)) + 1)⟩ : S38)⟩ : S88)) (k88_mkM _ _ _ (⟨(rd_T88 y299 x5_1).f0,(⟨(rd_T88 y299 x5_1).f1.f0,(rd_T88 y299 x5_1).f1.f1,(rd_T88 y299 x5_1).f1.f2,(rd_T88 y299 x5_1).f1.f3,(rd_T88 y299 x5_1).f1.f4,wrap64 ((wrap64 ((wrap64 ((wrap64 ((wrap64 ((wrap64 (x1_1 + 1)) + 1)) + 1)) + 1)) + 1)) + 1)⟩ : S38)⟩ : S88) ) (fun _ hk => hk); have hx25_6 := hcc25 6 _ rfl; (try simp only [show (k88).sz = 7 from rfl,Nat.mul_one,Nat.add_zero] at hx25_6); have hf25_6 := hfr25 6; (try simp only [show (k88).sz = 7 from rfl,Nat.mul_one,Nat.add_zero] at hf25_6); clear hcl25 hcc25 hfr25 hM25) | ((with_reducible refine gate_store (t:=3) (p:=64) rfl ?_); refine store_event (t:=3) (p:=64) (v:=?vo_w26) (w1 := (w24.setCell ⟨go5,(x5_1 : Int).toNat * 7 + 6,none⟩ (.int .i64 (wrap64 ((wrap64 ((wrap64 ((wrap64 ((wrap64 ((wrap64 (x1_1 + 1)) + 1)) + 1)) + 1)) + 1)) + 1))))) ?hg ?ho ?hn ?hr ?_; (case ho => rfl); (case hg => rfl); (case hn => rfl); (case hr => first | (go_simp; done) | (go_simp; rfl)); intro w26 hw; have hg : w24.grownBy w26 (some go5) := (by rw [hw]; exact HP25.2); have hp_ : Kd.R k88 88 w26 w0.heap.size (fun k_ => (P0_ k_ ∨ w.heap.size ≤ k_)) (.slice (some ⟨go5,0,none⟩) x0_1.length co12) y300 := (by rw [hw,Ny300.out]; exact HP25.1); clear HP25; have n0_ := Aside0.mk (hp_); have n1_ := Aside0.mk ((by rw [hw]; exact below_set (HB.out) GB5.out : Below w0.heap.size w0 w26)); have n2_ := Aside0.mk (Kept.of_grown (S:=(fun k_ => P0_ k_)) hg (by repeat (first | (with_reducible first | exact HK.out | apply Kept.alloc | apply Kept.drewN | apply Kept.drew) | exact HK.out)) (fun k_ e_ => (HO_0.out.1 k_ e_))); clear HO_0; clear HB; clear HK; have HO_0 := n0_; have HB := n1_; have HK := n2_; clear n0_ n1_ n2_; clear hg hw hp_))
     go_roundg k1
     case measure => have := HK1.out; omega
     case rel => exact ⟨(y300),(wrap64 ((wrap64 ((wrap64 ((wrap64 ((wrap64 ((wrap64 ((wrap64 (x1_1 + 1)) + 1)) + 1)) + 1)) + 1)) + 1)) + 1)),(wrap64 (x5_1 + 1)),(by first | rfl | (simp; done) | (simp [*]; done)),(by first | rfl | (simp; done) | (simp [*]; done)),H',⟨by have := HK1.out; omega⟩,⟨by (with_reducible repeat (first | apply Kd.R_alloc | apply Kd.R_drewN | apply Kd.R_drew)); exact HO_0.out⟩,⟨by repeat (first | (with_reducible first | exact HK.out | apply Kept.alloc | apply Kept.drewN | apply Kept.drew) | exact HK.out)⟩,⟨by repeat (first | (with_reducible first | exact HB.out | apply below_alloc | apply pw_below_drewN | apply below_drew1) | exact HB.out)⟩⟩
    ·rw [if_neg c4] at H
     exact absurd H (by simp)
   ·rw [if_neg c3] at H
    have c3b0 : decide (x5_1 < (x0_1.length : Int)) = false := decide_eq_false c3
    clear c3
    simp only [Option.some.injEq,Prod.mk.injEq] at H
    obtain ⟨rfl,rfl⟩ := H
    obtain ⟨Ao27,co27,eo27⟩ := Kd.R_slice HO_0.out
    subst eo27
    go_wp2
    go_ret
    exact ⟨by first | rfl | (simp only [i64_w,i32_w] <;> rfl) | (simp [errW_none,errW_some] <;> rfl) | (simp [*,errW_none,errW_some] <;> rfl),by (with_reducible repeat (first | apply Kd.R_alloc | apply Kd.R_drewN | apply Kd.R_drew)); exact HO_0.out,by repeat (first | (with_reducible first | exact HB.out | apply below_alloc | apply pw_below_drewN | apply below_drew1) | exact HB.out),by repeat (first | (with_reducible first | exact HK.out | apply Kept.alloc | apply Kept.drewN | apply Kept.drew) | exact HK.out)⟩

/-! ### laws_heldBucketS: function 38 -/
def laws_heldBucketS.l0 : Nat → List (S88) → Int → Int → Option (Int)
 | 0,_,_,_ => none
 | k + 1,x0,x1,x5 => if x5 < (x0.length : Int) then (if 0 ≤ x5 then (if ((rd_T88 x0 x5).f0) = x1 then (if ((rd_T88 x0 x5).f1.f0) = (wrap64 (x1 + 1)) then (if ((rd_T88 x0 x5).f1.f1) = (wrap64 ((wrap64 (x1 + 1)) + 1)) then (if ((rd_T88 x0 x5).f1.f2) = (wrap64 ((wrap64 ((wrap64 (x1 + 1)) + 1)) + 1)) then (if ((rd_T88 x0 x5).f1.f3) = (wrap64 ((wrap64 ((wrap64 ((wrap64 (x1 + 1)) + 1)) + 1)) + 1)) then (if ((rd_T88 x0 x5).f1.f4) = (wrap64 ((wrap64 ((wrap64 ((wrap64 ((wrap64 (x1 + 1)) + 1)) + 1)) + 1)) + 1)) then (if ((rd_T88 x0 x5).f1.f5) = (wrap64 ((wrap64 ((wrap64 ((wrap64 ((wrap64 ((wrap64 (x1 + 1)) + 1)) + 1)) + 1)) + 1)) + 1)) then (laws_heldBucketS.l0 k x0 (wrap64 ((wrap64 ((wrap64 ((wrap64 ((wrap64 ((wrap64 ((wrap64 (x1 + 1)) + 1)) + 1)) + 1)) + 1)) + 1)) + 1)) (wrap64 (x5 + 1))) else (some (-1))) else (some (-1))) else (some (-1))) else (some (-1))) else (some (-1))) else (some (-1))) else (some (-1))) else (none)) else (some x1)
def laws_heldBucketS.f (k : Nat) (l0 : List (S88)) (a1 : Int) : Option (Int) := laws_heldBucketS.l0 k l0 a1 0
theorem laws_heldBucketS.mono_l : ∀ k,(∀ y0 y1 y2,LeO (laws_heldBucketS.l0 k y0 y1 y2) (laws_heldBucketS.l0 (k + 1) y0 y1 y2))
 | 0 => fun _ _ _ r h => by simp [laws_heldBucketS.l0] at h
 | k + 1 => by
  have ih0 := laws_heldBucketS.mono_l k
  ·intro y0 y1 y2
   unfold laws_heldBucketS.l0
   repeat' first
   | (with_reducible exact ih0 _ _ _)
   | (with_reducible exact LeO.refl _)
   | (with_reducible exact LeO.none _)
   | (with_reducible refine LeO.ite ?_ ?_)
   | (with_reducible refine LeO.bind ?_ (fun _ => ?_))
   | exact ih0 _ _ _
   | exact LeO.none _
   | refine LeO.ite ?_ ?_
   | refine LeO.bind ?_ (fun _ => ?_)
theorem laws_heldBucketS.mono : ∀ a0 a1 k,LeO (laws_heldBucketS.f k a0 a1) (laws_heldBucketS.f (k + 1) a0 a1) := by
 intro a0 a1 k
 have ih0 := laws_heldBucketS.mono_l k
 unfold laws_heldBucketS.f
 repeat' first
   | (with_reducible exact ih0 _ _ _)
   | (with_reducible exact LeO.refl _)
   | (with_reducible exact LeO.none _)
   | (with_reducible refine LeO.ite ?_ ?_)
   | (with_reducible refine LeO.bind ?_ (fun _ => ?_))
   | exact ih0 _ _ _
   | exact LeO.none _
   | refine LeO.ite ?_ ?_
   | refine LeO.bind ?_ (fun _ => ?_)
set_option maxHeartbeats 8000000 in
set_option maxRecDepth 100000 in
theorem laws_heldBucketS.calls (k : Nat) (A0 : Option Addr) (c0 : Nat) (l0 : List (S88)) (a1 : Int) (r : Int) (w : World) (hr0 : Kd.C k88 w A0 l0.length l0) (hc0 : l0.length ≤ c0) (h : laws_heldBucketS.f k l0 a1 = some r) :
  Calls Tryd.prog 38 #[.slice A0 l0.length c0,.int .i64 a1] w fun e w' => e = .returned (.int .i64 r) ∧ Drawn0 w w' := by
 have HR0 := Aside0.mk hr0
 have HC0 := Aside0.mk hc0
 clear hr0 hc0
 have H : (laws_heldBucketS.l0 k l0 a1 0) = some r := h
 clear h
 have H' := Aside0.mk H
 clear H
 go_enter Tryd.func38,Tryd.ntmps38
 go_wp2
 go_loopg [1,5] k (fun kq v1 v5 w' => ∃ (x1_1 : Int) (x5_1 : Int),v1 = .int .i64 x1_1 ∧ v5 = .int .i64 x5_1 ∧ Aside0 (laws_heldBucketS.l0 kq l0 x1_1 x5_1 = some r) ∧ Aside0 (kq ≤ k) ∧ Drawn0 w w')
 case atStart => exact ⟨(a1),(0),(by first | rfl | (simp; done) | (simp [*]; done)),(by first | rfl | (simp; done) | (simp [*]; done)),H',⟨Nat.le_refl _⟩,by repeat (first | exact Drawn0.refl _ | apply Drawn0.step)⟩
 case round =>
  clear H'
  try clear p2
  obtain ⟨x1_1,x5_1,rfl,rfl,HA,HK1,⟨m1,rfl⟩⟩ := hrel
  cases gk with
  | zero => exact absurd HA.out (by simp [laws_heldBucketS.l0])
  | succ k1 =>
   have H := HA.out
   clear HA
   simp only [laws_heldBucketS.l0] at H
   by_cases c3 : x5_1 < (l0.length : Int)
   ·rw [if_pos c3] at H
    have c3b0 : decide (x5_1 < (l0.length : Int)) = true := decide_eq_true c3
    clear c3
    by_cases c4 : 0 ≤ x5_1
    ·rw [if_pos c4] at H
     have c4b0 : decide (0 ≤ x5_1) = true := decide_eq_true c4
     clear c4
     by_cases c5 : ((rd_T88 l0 x5_1).f0) = x1_1
     ·rw [if_pos c5] at H
      have c5b0 : (((rd_T88 l0 x5_1).f0) == x1_1) = true := beq_iff_eq.mpr c5
      have c5b1 : (((rd_T88 l0 x5_1).f0) != x1_1) = false := bne_eq_false_iff_eq.mpr c5
      clear c5
      by_cases c6 : ((rd_T88 l0 x5_1).f1.f0) = (wrap64 (x1_1 + 1))
      ·rw [if_pos c6] at H
       have c6b0 : (((rd_T88 l0 x5_1).f1.f0) == (wrap64 (x1_1 + 1))) = true := beq_iff_eq.mpr c6
       have c6b1 : (((rd_T88 l0 x5_1).f1.f0) != (wrap64 (x1_1 + 1))) = false := bne_eq_false_iff_eq.mpr c6
       clear c6
       by_cases c7 : ((rd_T88 l0 x5_1).f1.f1) = (wrap64 ((wrap64 (x1_1 + 1)) + 1))
       ·rw [if_pos c7] at H
        have c7b0 : (((rd_T88 l0 x5_1).f1.f1) == (wrap64 ((wrap64 (x1_1 + 1)) + 1))) = true := beq_iff_eq.mpr c7
        have c7b1 : (((rd_T88 l0 x5_1).f1.f1) != (wrap64 ((wrap64 (x1_1 + 1)) + 1))) = false := bne_eq_false_iff_eq.mpr c7
        clear c7
        by_cases c8 : ((rd_T88 l0 x5_1).f1.f2) = (wrap64 ((wrap64 ((wrap64 (x1_1 + 1)) + 1)) + 1))
        ·rw [if_pos c8] at H
         have c8b0 : (((rd_T88 l0 x5_1).f1.f2) == (wrap64 ((wrap64 ((wrap64 (x1_1 + 1)) + 1)) + 1))) = true := beq_iff_eq.mpr c8
         have c8b1 : (((rd_T88 l0 x5_1).f1.f2) != (wrap64 ((wrap64 ((wrap64 (x1_1 + 1)) + 1)) + 1))) = false := bne_eq_false_iff_eq.mpr c8
         clear c8
         by_cases c9 : ((rd_T88 l0 x5_1).f1.f3) = (wrap64 ((wrap64 ((wrap64 ((wrap64 (x1_1 + 1)) + 1)) + 1)) + 1))
         ·rw [if_pos c9] at H
          have c9b0 : (((rd_T88 l0 x5_1).f1.f3) == (wrap64 ((wrap64 ((wrap64 ((wrap64 (x1_1 + 1)) + 1)) + 1)) + 1))) = true := beq_iff_eq.mpr c9
          have c9b1 : (((rd_T88 l0 x5_1).f1.f3) != (wrap64 ((wrap64 ((wrap64 ((wrap64 (x1_1 + 1)) + 1)) + 1)) + 1))) = false := bne_eq_false_iff_eq.mpr c9
          clear c9
          by_cases c10 : ((rd_T88 l0 x5_1).f1.f4) = (wrap64 ((wrap64 ((wrap64 ((wrap64 ((wrap64 (x1_1 + 1)) + 1)) + 1)) + 1)) + 1))
          ·rw [if_pos c10] at H
           have c10b0 : (((rd_T88 l0 x5_1).f1.f4) == (wrap64 ((wrap64 ((wrap64 ((wrap64 ((wrap64 (x1_1 + 1)) + 1)) + 1)) + 1)) + 1))) = true := beq_iff_eq.mpr c10
           have c10b1 : (((rd_T88 l0 x5_1).f1.f4) != (wrap64 ((wrap64 ((wrap64 ((wrap64 ((wrap64 (x1_1 + 1)) + 1)) + 1)) + 1)) + 1))) = false := bne_eq_false_iff_eq.mpr c10
           clear c10
           by_cases c11 : ((rd_T88 l0 x5_1).f1.f5) = (wrap64 ((wrap64 ((wrap64 ((wrap64 ((wrap64 ((wrap64 (x1_1 + 1)) + 1)) + 1)) + 1)) + 1)) + 1))
           ·rw [if_pos c11] at H
            have c11b0 : (((rd_T88 l0 x5_1).f1.f5) == (wrap64 ((wrap64 ((wrap64 ((wrap64 ((wrap64 ((wrap64 (x1_1 + 1)) + 1)) + 1)) + 1)) + 1)) + 1))) = true := beq_iff_eq.mpr c11
            have c11b1 : (((rd_T88 l0 x5_1).f1.f5) != (wrap64 ((wrap64 ((wrap64 ((wrap64 ((wrap64 ((wrap64 (x1_1 + 1)) + 1)) + 1)) + 1)) + 1)) + 1))) = false := bne_eq_false_iff_eq.mpr c11
            clear c11
            have H' := Aside0.mk H
            clear H
            have p301 : 0 ≤ (x5_1 : Int) := of_decide_eq_true (by first | (with_reducible assumption) | assumption)
            have q301 : x5_1 < (l0.length : Int) := of_decide_eq_true (by first | (with_reducible assumption) | assumption)
            obtain ⟨ad301,e301,hx301_0,hx301_1,hx301_2,hx301_3,hx301_4,hx301_5,hx301_6⟩ := at_T88 HR0.out x5_1 p301 q301
            cases e301
            replace p301 := eq_true p301
            replace q301 := eq_true q301
            have p302 : 0 ≤ (x5_1 : Int) := of_decide_eq_true (by first | (with_reducible assumption) | assumption)
            have q302 : x5_1 < (l0.length : Int) := of_decide_eq_true (by first | (with_reducible assumption) | assumption)
            obtain ⟨ad302,e302,hx302_0,hx302_1,hx302_2,hx302_3,hx302_4,hx302_5,hx302_6⟩ := at_T88 HR0.out x5_1 p302 q302
            obtain rfl : ad301 = ad302 := (by injection e302)
            replace p302 := eq_true p302
            replace q302 := eq_true q302
            have p303 : 0 ≤ (x5_1 : Int) := of_decide_eq_true (by first | (with_reducible assumption) | assumption)
            have q303 : x5_1 < (l0.length : Int) := of_decide_eq_true (by first | (with_reducible assumption) | assumption)
            obtain ⟨ad303,e303,hx303_0,hx303_1,hx303_2,hx303_3,hx303_4,hx303_5,hx303_6⟩ := at_T88 HR0.out x5_1 p303 q303
            obtain rfl : ad301 = ad303 := (by injection e303)
            replace p303 := eq_true p303
            replace q303 := eq_true q303
            have p304 : 0 ≤ (x5_1 : Int) := of_decide_eq_true (by first | (with_reducible assumption) | assumption)
            have q304 : x5_1 < (l0.length : Int) := of_decide_eq_true (by first | (with_reducible assumption) | assumption)
            obtain ⟨ad304,e304,hx304_0,hx304_1,hx304_2,hx304_3,hx304_4,hx304_5,hx304_6⟩ := at_T88 HR0.out x5_1 p304 q304
            obtain rfl : ad301 = ad304 := (by injection e304)
            replace p304 := eq_true p304
            replace q304 := eq_true q304
            have p305 : 0 ≤ (x5_1 : Int) := of_decide_eq_true (by first | (with_reducible assumption) | assumption)
            have q305 : x5_1 < (l0.length : Int) := of_decide_eq_true (by first | (with_reducible assumption) | assumption)
            obtain ⟨ad305,e305,hx305_0,hx305_1,hx305_2,hx305_3,hx305_4,hx305_5,hx305_6⟩ := at_T88 HR0.out x5_1 p305 q305
            obtain rfl : ad301 = ad305 := (by injection e305)
            replace p305 := eq_true p305
            replace q305 := eq_true q305
            have p306 : 0 ≤ (x5_1 : Int) := of_decide_eq_true (by first | (with_reducible assumption) | assumption)
            have q306 : x5_1 < (l0.length : Int) := of_decide_eq_true (by first | (with_reducible assumption) | assumption)
            obtain ⟨ad306,e306,hx306_0,hx306_1,hx306_2,hx306_3,hx306_4,hx306_5,hx306_6⟩ := at_T88 HR0.out x5_1 p306 q306
            obtain rfl : ad301 = ad306 := (by injection e306)
            replace p306 := eq_true p306
            replace q306 := eq_true q306
            have p307 : 0 ≤ (x5_1 : Int) := of_decide_eq_true (by first | (with_reducible assumption) | assumption)
            have q307 : x5_1 < (l0.length : Int) := of_decide_eq_true (by first | (with_reducible assumption) | assumption)
            obtain ⟨ad307,e307,hx307_0,hx307_1,hx307_2,hx307_3,hx307_4,hx307_5,hx307_6⟩ := at_T88 HR0.out x5_1 p307 q307
            obtain rfl : ad301 = ad307 := (by injection e307)
            replace p307 := eq_true p307
            replace q307 := eq_true q307
            go_wp2
            go_roundg k1
            case measure => have := HK1.out; omega
            case rel => exact ⟨(wrap64 ((wrap64 ((wrap64 ((wrap64 ((wrap64 ((wrap64 ((wrap64 (x1_1 + 1)) + 1)) + 1)) + 1)) + 1)) + 1)) + 1)),(wrap64 (x5_1 + 1)),(by first | rfl | (simp; done) | (simp [*]; done)),(by first | rfl | (simp; done) | (simp [*]; done)),H',⟨by have := HK1.out; omega⟩,by repeat (first | exact Drawn0.refl _ | apply Drawn0.step)⟩
           ·rw [if_neg c11] at H
            have c11b0 : (((rd_T88 l0 x5_1).f1.f5) == (wrap64 ((wrap64 ((wrap64 ((wrap64 ((wrap64 ((wrap64 (x1_1 + 1)) + 1)) + 1)) + 1)) + 1)) + 1))) = false := beq_eq_false_iff_ne.mpr c11
            have c11b1 : (((rd_T88 l0 x5_1).f1.f5) != (wrap64 ((wrap64 ((wrap64 ((wrap64 ((wrap64 ((wrap64 (x1_1 + 1)) + 1)) + 1)) + 1)) + 1)) + 1))) = true := bne_iff_ne.mpr c11
            obtain rfl := Option.some.inj H
            have p301 : 0 ≤ (x5_1 : Int) := of_decide_eq_true (by first | (with_reducible assumption) | assumption)
            have q301 : x5_1 < (l0.length : Int) := of_decide_eq_true (by first | (with_reducible assumption) | assumption)
            obtain ⟨ad301,e301,hx301_0,hx301_1,hx301_2,hx301_3,hx301_4,hx301_5,hx301_6⟩ := at_T88 HR0.out x5_1 p301 q301
            cases e301
            replace p301 := eq_true p301
            replace q301 := eq_true q301
            have p302 : 0 ≤ (x5_1 : Int) := of_decide_eq_true (by first | (with_reducible assumption) | assumption)
            have q302 : x5_1 < (l0.length : Int) := of_decide_eq_true (by first | (with_reducible assumption) | assumption)
            obtain ⟨ad302,e302,hx302_0,hx302_1,hx302_2,hx302_3,hx302_4,hx302_5,hx302_6⟩ := at_T88 HR0.out x5_1 p302 q302
            obtain rfl : ad301 = ad302 := (by injection e302)
            replace p302 := eq_true p302
            replace q302 := eq_true q302
            have p303 : 0 ≤ (x5_1 : Int) := of_decide_eq_true (by first | (with_reducible assumption) | assumption)
            have q303 : x5_1 < (l0.length : Int) := of_decide_eq_true (by first | (with_reducible assumption) | assumption)
            obtain ⟨ad303,e303,hx303_0,hx303_1,hx303_2,hx303_3,hx303_4,hx303_5,hx303_6⟩ := at_T88 HR0.out x5_1 p303 q303
            obtain rfl : ad301 = ad303 := (by injection e303)
            replace p303 := eq_true p303
            replace q303 := eq_true q303
            have p304 : 0 ≤ (x5_1 : Int) := of_decide_eq_true (by first | (with_reducible assumption) | assumption)
            have q304 : x5_1 < (l0.length : Int) := of_decide_eq_true (by first | (with_reducible assumption) | assumption)
            obtain ⟨ad304,e304,hx304_0,hx304_1,hx304_2,hx304_3,hx304_4,hx304_5,hx304_6⟩ := at_T88 HR0.out x5_1 p304 q304
            obtain rfl : ad301 = ad304 := (by injection e304)
            replace p304 := eq_true p304
            replace q304 := eq_true q304
            have p305 : 0 ≤ (x5_1 : Int) := of_decide_eq_true (by first | (with_reducible assumption) | assumption)
            have q305 : x5_1 < (l0.length : Int) := of_decide_eq_true (by first | (with_reducible assumption) | assumption)
            obtain ⟨ad305,e305,hx305_0,hx305_1,hx305_2,hx305_3,hx305_4,hx305_5,hx305_6⟩ := at_T88 HR0.out x5_1 p305 q305
            obtain rfl : ad301 = ad305 := (by injection e305)
            replace p305 := eq_true p305
            replace q305 := eq_true q305
            have p306 : 0 ≤ (x5_1 : Int) := of_decide_eq_true (by first | (with_reducible assumption) | assumption)
            have q306 : x5_1 < (l0.length : Int) := of_decide_eq_true (by first | (with_reducible assumption) | assumption)
            obtain ⟨ad306,e306,hx306_0,hx306_1,hx306_2,hx306_3,hx306_4,hx306_5,hx306_6⟩ := at_T88 HR0.out x5_1 p306 q306
            obtain rfl : ad301 = ad306 := (by injection e306)
            replace p306 := eq_true p306
            replace q306 := eq_true q306
            have p307 : 0 ≤ (x5_1 : Int) := of_decide_eq_true (by first | (with_reducible assumption) | assumption)
            have q307 : x5_1 < (l0.length : Int) := of_decide_eq_true (by first | (with_reducible assumption) | assumption)
            obtain ⟨ad307,e307,hx307_0,hx307_1,hx307_2,hx307_3,hx307_4,hx307_5,hx307_6⟩ := at_T88 HR0.out x5_1 p307 q307
            obtain rfl : ad301 = ad307 := (by injection e307)
            replace p307 := eq_true p307
            replace q307 := eq_true q307
            go_wp2
            go_ret
            exact ⟨by first | rfl | (simp; done) | (simp [*]; done),by repeat (first | exact Drawn0.refl _ | apply Drawn0.step)⟩
          ·rw [if_neg c10] at H
           have c10b0 : (((rd_T88 l0 x5_1).f1.f4) == (wrap64 ((wrap64 ((wrap64 ((wrap64 ((wrap64 (x1_1 + 1)) + 1)) + 1)) + 1)) + 1))) = false := beq_eq_false_iff_ne.mpr c10
           have c10b1 : (((rd_T88 l0 x5_1).f1.f4) != (wrap64 ((wrap64 ((wrap64 ((wrap64 ((wrap64 (x1_1 + 1)) + 1)) + 1)) + 1)) + 1))) = true := bne_iff_ne.mpr c10
           obtain rfl := Option.some.inj H
           have p301 : 0 ≤ (x5_1 : Int) := of_decide_eq_true (by first | (with_reducible assumption) | assumption)
           have q301 : x5_1 < (l0.length : Int) := of_decide_eq_true (by first | (with_reducible assumption) | assumption)
           obtain ⟨ad301,e301,hx301_0,hx301_1,hx301_2,hx301_3,hx301_4,hx301_5,hx301_6⟩ := at_T88 HR0.out x5_1 p301 q301
           cases e301
           replace p301 := eq_true p301
           replace q301 := eq_true q301
           have p302 : 0 ≤ (x5_1 : Int) := of_decide_eq_true (by first | (with_reducible assumption) | assumption)
           have q302 : x5_1 < (l0.length : Int) := of_decide_eq_true (by first | (with_reducible assumption) | assumption)
           obtain ⟨ad302,e302,hx302_0,hx302_1,hx302_2,hx302_3,hx302_4,hx302_5,hx302_6⟩ := at_T88 HR0.out x5_1 p302 q302
           obtain rfl : ad301 = ad302 := (by injection e302)
           replace p302 := eq_true p302
           replace q302 := eq_true q302
           have p303 : 0 ≤ (x5_1 : Int) := of_decide_eq_true (by first | (with_reducible assumption) | assumption)
           have q303 : x5_1 < (l0.length : Int) := of_decide_eq_true (by first | (with_reducible assumption) | assumption)
           obtain ⟨ad303,e303,hx303_0,hx303_1,hx303_2,hx303_3,hx303_4,hx303_5,hx303_6⟩ := at_T88 HR0.out x5_1 p303 q303
           obtain rfl : ad301 = ad303 := (by injection e303)
           replace p303 := eq_true p303
           replace q303 := eq_true q303
           have p304 : 0 ≤ (x5_1 : Int) := of_decide_eq_true (by first | (with_reducible assumption) | assumption)
           have q304 : x5_1 < (l0.length : Int) := of_decide_eq_true (by first | (with_reducible assumption) | assumption)
           obtain ⟨ad304,e304,hx304_0,hx304_1,hx304_2,hx304_3,hx304_4,hx304_5,hx304_6⟩ := at_T88 HR0.out x5_1 p304 q304
           obtain rfl : ad301 = ad304 := (by injection e304)
           replace p304 := eq_true p304
           replace q304 := eq_true q304
           have p305 : 0 ≤ (x5_1 : Int) := of_decide_eq_true (by first | (with_reducible assumption) | assumption)
           have q305 : x5_1 < (l0.length : Int) := of_decide_eq_true (by first | (with_reducible assumption) | assumption)
           obtain ⟨ad305,e305,hx305_0,hx305_1,hx305_2,hx305_3,hx305_4,hx305_5,hx305_6⟩ := at_T88 HR0.out x5_1 p305 q305
           obtain rfl : ad301 = ad305 := (by injection e305)
           replace p305 := eq_true p305
           replace q305 := eq_true q305
           have p306 : 0 ≤ (x5_1 : Int) := of_decide_eq_true (by first | (with_reducible assumption) | assumption)
           have q306 : x5_1 < (l0.length : Int) := of_decide_eq_true (by first | (with_reducible assumption) | assumption)
           obtain ⟨ad306,e306,hx306_0,hx306_1,hx306_2,hx306_3,hx306_4,hx306_5,hx306_6⟩ := at_T88 HR0.out x5_1 p306 q306
           obtain rfl : ad301 = ad306 := (by injection e306)
           replace p306 := eq_true p306
           replace q306 := eq_true q306
           go_wp2
           go_ret
           exact ⟨by first | rfl | (simp; done) | (simp [*]; done),by repeat (first | exact Drawn0.refl _ | apply Drawn0.step)⟩
         ·rw [if_neg c9] at H
          have c9b0 : (((rd_T88 l0 x5_1).f1.f3) == (wrap64 ((wrap64 ((wrap64 ((wrap64 (x1_1 + 1)) + 1)) + 1)) + 1))) = false := beq_eq_false_iff_ne.mpr c9
          have c9b1 : (((rd_T88 l0 x5_1).f1.f3) != (wrap64 ((wrap64 ((wrap64 ((wrap64 (x1_1 + 1)) + 1)) + 1)) + 1))) = true := bne_iff_ne.mpr c9
          obtain rfl := Option.some.inj H
          have p301 : 0 ≤ (x5_1 : Int) := of_decide_eq_true (by first | (with_reducible assumption) | assumption)
          have q301 : x5_1 < (l0.length : Int) := of_decide_eq_true (by first | (with_reducible assumption) | assumption)
          obtain ⟨ad301,e301,hx301_0,hx301_1,hx301_2,hx301_3,hx301_4,hx301_5,hx301_6⟩ := at_T88 HR0.out x5_1 p301 q301
          cases e301
          replace p301 := eq_true p301
          replace q301 := eq_true q301
          have p302 : 0 ≤ (x5_1 : Int) := of_decide_eq_true (by first | (with_reducible assumption) | assumption)
          have q302 : x5_1 < (l0.length : Int) := of_decide_eq_true (by first | (with_reducible assumption) | assumption)
          obtain ⟨ad302,e302,hx302_0,hx302_1,hx302_2,hx302_3,hx302_4,hx302_5,hx302_6⟩ := at_T88 HR0.out x5_1 p302 q302
          obtain rfl : ad301 = ad302 := (by injection e302)
          replace p302 := eq_true p302
          replace q302 := eq_true q302
          have p303 : 0 ≤ (x5_1 : Int) := of_decide_eq_true (by first | (with_reducible assumption) | assumption)
          have q303 : x5_1 < (l0.length : Int) := of_decide_eq_true (by first | (with_reducible assumption) | assumption)
          obtain ⟨ad303,e303,hx303_0,hx303_1,hx303_2,hx303_3,hx303_4,hx303_5,hx303_6⟩ := at_T88 HR0.out x5_1 p303 q303
          obtain rfl : ad301 = ad303 := (by injection e303)
          replace p303 := eq_true p303
          replace q303 := eq_true q303
          have p304 : 0 ≤ (x5_1 : Int) := of_decide_eq_true (by first | (with_reducible assumption) | assumption)
          have q304 : x5_1 < (l0.length : Int) := of_decide_eq_true (by first | (with_reducible assumption) | assumption)
          obtain ⟨ad304,e304,hx304_0,hx304_1,hx304_2,hx304_3,hx304_4,hx304_5,hx304_6⟩ := at_T88 HR0.out x5_1 p304 q304
          obtain rfl : ad301 = ad304 := (by injection e304)
          replace p304 := eq_true p304
          replace q304 := eq_true q304
          have p305 : 0 ≤ (x5_1 : Int) := of_decide_eq_true (by first | (with_reducible assumption) | assumption)
          have q305 : x5_1 < (l0.length : Int) := of_decide_eq_true (by first | (with_reducible assumption) | assumption)
          obtain ⟨ad305,e305,hx305_0,hx305_1,hx305_2,hx305_3,hx305_4,hx305_5,hx305_6⟩ := at_T88 HR0.out x5_1 p305 q305
          obtain rfl : ad301 = ad305 := (by injection e305)
          replace p305 := eq_true p305
          replace q305 := eq_true q305
          go_wp2
          go_ret
          exact ⟨by first | rfl | (simp; done) | (simp [*]; done),by repeat (first | exact Drawn0.refl _ | apply Drawn0.step)⟩
        ·rw [if_neg c8] at H
         have c8b0 : (((rd_T88 l0 x5_1).f1.f2) == (wrap64 ((wrap64 ((wrap64 (x1_1 + 1)) + 1)) + 1))) = false := beq_eq_false_iff_ne.mpr c8
         have c8b1 : (((rd_T88 l0 x5_1).f1.f2) != (wrap64 ((wrap64 ((wrap64 (x1_1 + 1)) + 1)) + 1))) = true := bne_iff_ne.mpr c8
         obtain rfl := Option.some.inj H
         have p301 : 0 ≤ (x5_1 : Int) := of_decide_eq_true (by first | (with_reducible assumption) | assumption)
         have q301 : x5_1 < (l0.length : Int) := of_decide_eq_true (by first | (with_reducible assumption) | assumption)
         obtain ⟨ad301,e301,hx301_0,hx301_1,hx301_2,hx301_3,hx301_4,hx301_5,hx301_6⟩ := at_T88 HR0.out x5_1 p301 q301
         cases e301
         replace p301 := eq_true p301
         replace q301 := eq_true q301
         have p302 : 0 ≤ (x5_1 : Int) := of_decide_eq_true (by first | (with_reducible assumption) | assumption)
         have q302 : x5_1 < (l0.length : Int) := of_decide_eq_true (by first | (with_reducible assumption) | assumption)
         obtain ⟨ad302,e302,hx302_0,hx302_1,hx302_2,hx302_3,hx302_4,hx302_5,hx302_6⟩ := at_T88 HR0.out x5_1 p302 q302
         obtain rfl : ad301 = ad302 := (by injection e302)
         replace p302 := eq_true p302
         replace q302 := eq_true q302
         have p303 : 0 ≤ (x5_1 : Int) := of_decide_eq_true (by first | (with_reducible assumption) | assumption)
         have q303 : x5_1 < (l0.length : Int) := of_decide_eq_true (by first | (with_reducible assumption) | assumption)
         obtain ⟨ad303,e303,hx303_0,hx303_1,hx303_2,hx303_3,hx303_4,hx303_5,hx303_6⟩ := at_T88 HR0.out x5_1 p303 q303
         obtain rfl : ad301 = ad303 := (by injection e303)
         replace p303 := eq_true p303
         replace q303 := eq_true q303
         have p304 : 0 ≤ (x5_1 : Int) := of_decide_eq_true (by first | (with_reducible assumption) | assumption)
         have q304 : x5_1 < (l0.length : Int) := of_decide_eq_true (by first | (with_reducible assumption) | assumption)
         obtain ⟨ad304,e304,hx304_0,hx304_1,hx304_2,hx304_3,hx304_4,hx304_5,hx304_6⟩ := at_T88 HR0.out x5_1 p304 q304
         obtain rfl : ad301 = ad304 := (by injection e304)
         replace p304 := eq_true p304
         replace q304 := eq_true q304
         go_wp2
         go_ret
         exact ⟨by first | rfl | (simp; done) | (simp [*]; done),by repeat (first | exact Drawn0.refl _ | apply Drawn0.step)⟩
       ·rw [if_neg c7] at H
        have c7b0 : (((rd_T88 l0 x5_1).f1.f1) == (wrap64 ((wrap64 (x1_1 + 1)) + 1))) = false := beq_eq_false_iff_ne.mpr c7
        have c7b1 : (((rd_T88 l0 x5_1).f1.f1) != (wrap64 ((wrap64 (x1_1 + 1)) + 1))) = true := bne_iff_ne.mpr c7
        obtain rfl := Option.some.inj H
        have p301 : 0 ≤ (x5_1 : Int) := of_decide_eq_true (by first | (with_reducible assumption) | assumption)
        have q301 : x5_1 < (l0.length : Int) := of_decide_eq_true (by first | (with_reducible assumption) | assumption)
        obtain ⟨ad301,e301,hx301_0,hx301_1,hx301_2,hx301_3,hx301_4,hx301_5,hx301_6⟩ := at_T88 HR0.out x5_1 p301 q301
        cases e301
        replace p301 := eq_true p301
        replace q301 := eq_true q301
        have p302 : 0 ≤ (x5_1 : Int) := of_decide_eq_true (by first | (with_reducible assumption) | assumption)
        have q302 : x5_1 < (l0.length : Int) := of_decide_eq_true (by first | (with_reducible assumption) | assumption)
        obtain ⟨ad302,e302,hx302_0,hx302_1,hx302_2,hx302_3,hx302_4,hx302_5,hx302_6⟩ := at_T88 HR0.out x5_1 p302 q302
        obtain rfl : ad301 = ad302 := (by injection e302)
        replace p302 := eq_true p302
        replace q302 := eq_true q302
        have p303 : 0 ≤ (x5_1 : Int) := of_decide_eq_true (by first | (with_reducible assumption) | assumption)
        have q303 : x5_1 < (l0.length : Int) := of_decide_eq_true (by first | (with_reducible assumption) | assumption)
        obtain ⟨ad303,e303,hx303_0,hx303_1,hx303_2,hx303_3,hx303_4,hx303_5,hx303_6⟩ := at_T88 HR0.out x5_1 p303 q303
        obtain rfl : ad301 = ad303 := (by injection e303)
        replace p303 := eq_true p303
        replace q303 := eq_true q303
        go_wp2
        go_ret
        exact ⟨by first | rfl | (simp; done) | (simp [*]; done),by repeat (first | exact Drawn0.refl _ | apply Drawn0.step)⟩
      ·rw [if_neg c6] at H
       have c6b0 : (((rd_T88 l0 x5_1).f1.f0) == (wrap64 (x1_1 + 1))) = false := beq_eq_false_iff_ne.mpr c6
       have c6b1 : (((rd_T88 l0 x5_1).f1.f0) != (wrap64 (x1_1 + 1))) = true := bne_iff_ne.mpr c6
       obtain rfl := Option.some.inj H
       have p301 : 0 ≤ (x5_1 : Int) := of_decide_eq_true (by first | (with_reducible assumption) | assumption)
       have q301 : x5_1 < (l0.length : Int) := of_decide_eq_true (by first | (with_reducible assumption) | assumption)
       obtain ⟨ad301,e301,hx301_0,hx301_1,hx301_2,hx301_3,hx301_4,hx301_5,hx301_6⟩ := at_T88 HR0.out x5_1 p301 q301
       cases e301
       replace p301 := eq_true p301
       replace q301 := eq_true q301
       have p302 : 0 ≤ (x5_1 : Int) := of_decide_eq_true (by first | (with_reducible assumption) | assumption)
       have q302 : x5_1 < (l0.length : Int) := of_decide_eq_true (by first | (with_reducible assumption) | assumption)
       obtain ⟨ad302,e302,hx302_0,hx302_1,hx302_2,hx302_3,hx302_4,hx302_5,hx302_6⟩ := at_T88 HR0.out x5_1 p302 q302
       obtain rfl : ad301 = ad302 := (by injection e302)
       replace p302 := eq_true p302
       replace q302 := eq_true q302
       go_wp2
       go_ret
       exact ⟨by first | rfl | (simp; done) | (simp [*]; done),by repeat (first | exact Drawn0.refl _ | apply Drawn0.step)⟩
     ·rw [if_neg c5] at H
      have c5b0 : (((rd_T88 l0 x5_1).f0) == x1_1) = false := beq_eq_false_iff_ne.mpr c5
      have c5b1 : (((rd_T88 l0 x5_1).f0) != x1_1) = true := bne_iff_ne.mpr c5
      obtain rfl := Option.some.inj H
      have p301 : 0 ≤ (x5_1 : Int) := of_decide_eq_true (by first | (with_reducible assumption) | assumption)
      have q301 : x5_1 < (l0.length : Int) := of_decide_eq_true (by first | (with_reducible assumption) | assumption)
      obtain ⟨ad301,e301,hx301_0,hx301_1,hx301_2,hx301_3,hx301_4,hx301_5,hx301_6⟩ := at_T88 HR0.out x5_1 p301 q301
      cases e301
      replace p301 := eq_true p301
      replace q301 := eq_true q301
      go_wp2
      go_ret
      exact ⟨by first | rfl | (simp; done) | (simp [*]; done),by repeat (first | exact Drawn0.refl _ | apply Drawn0.step)⟩
    ·rw [if_neg c4] at H
     exact absurd H (by simp)
   ·rw [if_neg c3] at H
    have c3b0 : decide (x5_1 < (l0.length : Int)) = false := decide_eq_false c3
    clear c3
    obtain rfl := Option.some.inj H
    go_wp2
    go_ret
    exact ⟨by first | rfl | (simp; done) | (simp [*]; done),by repeat (first | exact Drawn0.refl _ | apply Drawn0.step)⟩

/-! ### laws_FnExactReadBuckets: function 10 -/
mutual
def laws_FnExactReadBuckets.j0 : Nat → ByteArray → List (S88) → Int → List (S88) → Bool → Option (Bool)
 | 0,_,_,_,_,_ => none
 | k + 1,x0,x3,x4,x5,x32 => if x32 = true then (none) else ((laws_markBucketS.f k x5 1).bind fun bt317 => ((laws_heldBucketS.f k bt317.2 1).bind fun t319 => (if t319 < 0 then (none) else (if t319 = bt317.1 then ((impl_ReadBuckets.f k x0).bind fun bt320 => ((laws_eqBucketS.f k bt320.1 x3).bind fun t324 => (if t324 = true then (laws_FnExactReadBuckets.j1 k bt317.2 bt317.1 (bt320.2 != x4)) else (laws_FnExactReadBuckets.j1 k bt317.2 bt317.1 true)))) else (none)))))
def laws_FnExactReadBuckets.j1 : Nat → List (S88) → Int → Bool → Option (Bool)
 | 0,_,_,_ => none
 | k + 1,x5,x7,x57 => if x57 = true then (none) else ((laws_heldBucketS.f k x5 1).bind fun t325 => (if t325 < 0 then (none) else (if t325 = x7 then (some true) else (none))))
end
def laws_FnExactReadBuckets.f (k : Nat) (a0 : ByteArray) : Option (Bool) := if (a0.size : Int) > 1048576 then (some true) else ((spec_ReadBuckets.f k a0).bind fun bt308 => ((impl_ReadBuckets.f k a0).bind fun bt312 => ((laws_eqBucketS.f k bt312.1 bt308.1).bind fun t316 => (if t316 = true then (laws_FnExactReadBuckets.j0 k a0 bt308.1 bt308.2 bt312.1 (bt312.2 != bt308.2)) else (laws_FnExactReadBuckets.j0 k a0 bt308.1 bt308.2 bt312.1 true)))))
theorem laws_FnExactReadBuckets.mono_l : ∀ k,(∀ y0 y1 y2 y3 y4,LeO (laws_FnExactReadBuckets.j0 k y0 y1 y2 y3 y4) (laws_FnExactReadBuckets.j0 (k + 1) y0 y1 y2 y3 y4)) ∧ (∀ y0 y1 y2,LeO (laws_FnExactReadBuckets.j1 k y0 y1 y2) (laws_FnExactReadBuckets.j1 (k + 1) y0 y1 y2))
 | 0 => ⟨fun _ _ _ _ _ r h => by simp [laws_FnExactReadBuckets.j0] at h,fun _ _ _ r h => by simp [laws_FnExactReadBuckets.j1] at h⟩
 | k + 1 => by
  obtain ⟨ih0,ih1⟩ := laws_FnExactReadBuckets.mono_l k
  refine ⟨?_,?_⟩
  ·intro y0 y1 y2 y3 y4
   unfold laws_FnExactReadBuckets.j0
   repeat' first
   | (with_reducible exact ih0 _ _ _ _ _)
   | (with_reducible exact ih1 _ _ _)
   | (with_reducible exact impl_ReadBuckets.mono _ _)
   | (with_reducible exact laws_eqBucketS.mono _ _ _)
   | (with_reducible exact laws_heldBucketS.mono _ _ _)
   | (with_reducible exact laws_markBucketS.mono _ _ _)
   | (with_reducible exact spec_ReadBuckets.mono _ _)
   | (with_reducible exact LeO.refl _)
   | (with_reducible exact LeO.none _)
   | (with_reducible refine LeO.ite ?_ ?_)
   | (with_reducible refine LeO.bind ?_ (fun _ => ?_))
   | exact ih0 _ _ _ _ _
   | exact ih1 _ _ _
   | exact impl_ReadBuckets.mono _ _
   | exact laws_eqBucketS.mono _ _ _
   | exact laws_heldBucketS.mono _ _ _
   | exact laws_markBucketS.mono _ _ _
   | exact spec_ReadBuckets.mono _ _
   | exact LeO.none _
   | refine LeO.ite ?_ ?_
   | refine LeO.bind ?_ (fun _ => ?_)
  ·intro y0 y1 y2
   unfold laws_FnExactReadBuckets.j1
   repeat' first
   | (with_reducible exact ih0 _ _ _ _ _)
   | (with_reducible exact ih1 _ _ _)
   | (with_reducible exact impl_ReadBuckets.mono _ _)
   | (with_reducible exact laws_eqBucketS.mono _ _ _)
   | (with_reducible exact laws_heldBucketS.mono _ _ _)
   | (with_reducible exact laws_markBucketS.mono _ _ _)
   | (with_reducible exact spec_ReadBuckets.mono _ _)
   | (with_reducible exact LeO.refl _)
   | (with_reducible exact LeO.none _)
   | (with_reducible refine LeO.ite ?_ ?_)
   | (with_reducible refine LeO.bind ?_ (fun _ => ?_))
   | exact ih0 _ _ _ _ _
   | exact ih1 _ _ _
   | exact impl_ReadBuckets.mono _ _
   | exact laws_eqBucketS.mono _ _ _
   | exact laws_heldBucketS.mono _ _ _
   | exact laws_markBucketS.mono _ _ _
   | exact spec_ReadBuckets.mono _ _
   | exact LeO.none _
   | refine LeO.ite ?_ ?_
   | refine LeO.bind ?_ (fun _ => ?_)
theorem laws_FnExactReadBuckets.mono : ∀ a0 k,LeO (laws_FnExactReadBuckets.f k a0) (laws_FnExactReadBuckets.f (k + 1) a0) := by
 intro a0 k
 obtain ⟨ih0,ih1⟩ := laws_FnExactReadBuckets.mono_l k
 unfold laws_FnExactReadBuckets.f
 repeat' first
   | (with_reducible exact ih0 _ _ _ _ _)
   | (with_reducible exact ih1 _ _ _)
   | (with_reducible exact impl_ReadBuckets.mono _ _)
   | (with_reducible exact laws_eqBucketS.mono _ _ _)
   | (with_reducible exact laws_heldBucketS.mono _ _ _)
   | (with_reducible exact laws_markBucketS.mono _ _ _)
   | (with_reducible exact spec_ReadBuckets.mono _ _)
   | (with_reducible exact LeO.refl _)
   | (with_reducible exact LeO.none _)
   | (with_reducible refine LeO.ite ?_ ?_)
   | (with_reducible refine LeO.bind ?_ (fun _ => ?_))
   | exact ih0 _ _ _ _ _
   | exact ih1 _ _ _
   | exact impl_ReadBuckets.mono _ _
   | exact laws_eqBucketS.mono _ _ _
   | exact laws_heldBucketS.mono _ _ _
   | exact laws_markBucketS.mono _ _ _
   | exact spec_ReadBuckets.mono _ _
   | exact LeO.none _
   | refine LeO.ite ?_ ?_
   | refine LeO.bind ?_ (fun _ => ?_)
set_option maxHeartbeats 8000000 in
set_option maxRecDepth 100000 in
theorem laws_FnExactReadBuckets.calls (k : Nat) (a0 : ByteArray) (r : Bool) (w : World) (hV : Vars w) (h : laws_FnExactReadBuckets.f k a0 = some r) :
  Calls Tryd.prog 10 #[.string a0] w fun e w' => e = .returned (.bool r) ∧ Below w.heap.size w w' := by
 have HV := Aside0.mk hV
 clear hV
 have HB := Aside0.mk (Below.refl w.heap.size w)
 have H : (if (a0.size : Int) > 1048576 then (some true) else ((spec_ReadBuckets.f k a0).bind fun bt308 => ((impl_ReadBuckets.f k a0).bind fun bt312 => ((laws_eqBucketS.f k bt312.1 bt308.1).bind fun t316 => (if t316 = true then (laws_FnExactReadBuckets.j0 k a0 bt308.1 bt308.2 bt312.1 (bt312.2 != bt308.2)) else (laws_FnExactReadBuckets.j0 k a0 bt308.1 bt308.2 bt312.1 true)))))) = some r := h
 clear h
 by_cases c2 : (a0.size : Int) > 1048576
 ·rw [if_pos c2] at H
  have c2b0 : decide (1048576 < (a0.size : Int)) = true := decide_eq_true c2
  have c2b1 : decide (1048576 < a0.size) = true := decide_eq_true (by omega)
  clear c2
  obtain rfl := Option.some.inj H
  go_enter Tryd.func10,Tryd.ntmps10
  go_wp2
  go_ret
  exact ⟨by first | rfl | (simp [errW_none,errW_some] <;> rfl) | (simp [*,errW_none,errW_some] <;> rfl),by repeat (first | (with_reducible first | exact HB.out | apply below_alloc | apply pw_below_drewN | apply below_drew1) | exact HB.out)⟩
 ·rw [if_neg c2] at H
  have c2b0 : decide (1048576 < (a0.size : Int)) = false := decide_eq_false c2
  have c2b1 : decide (1048576 < a0.size) = false := decide_eq_false (by omega)
  clear c2
  replace H := Option.bind_eq_some_iff.mp H
  obtain ⟨⟨t308,t309⟩,A30,H⟩ := H
  replace H : ((impl_ReadBuckets.f k a0).bind fun bt312 => ((laws_eqBucketS.f k bt312.1 t308).bind fun t316 => (if t316 = true then (laws_FnExactReadBuckets.j0 k a0 t308 t309 bt312.1 (bt312.2 != t309)) else (laws_FnExactReadBuckets.j0 k a0 t308 t309 bt312.1 true)))) = some r := H
  have A3 := Aside0.mk A30
  clear A30
  replace H := Option.bind_eq_some_iff.mp H
  obtain ⟨⟨t312,t313⟩,A40,H⟩ := H
  replace H : ((laws_eqBucketS.f k t312 t308).bind fun t316 => (if t316 = true then (laws_FnExactReadBuckets.j0 k a0 t308 t309 t312 (t313 != t309)) else (laws_FnExactReadBuckets.j0 k a0 t308 t309 t312 true))) = some r := H
  have A4 := Aside0.mk A40
  clear A40
  have HC5 := Aside0.mk H
  clear H
  go_enter Tryd.func10,Tryd.ntmps10
  go_upto_region 5 with (first | ((with_reducible refine gate_callee (f:=34) rfl ?_); refine goesL_ (some 16) rfl rfl Tryd.func34 (by kernel_rfl) rfl #[.string a0] rfl (by (try simp only [List.map_toArray,List.map_cons,List.map_nil]); first | done | rfl | (simp only [List.length_drop,List.length_take]; rfl)) ?_; (with_reducible refine (spec_ReadBuckets.calls k a0 t308 t309 _ A3.out).mono ?_); rintro e w6 ⟨v310,rfl,ho0,hb⟩; refine ⟨_,rfl,?_⟩; have n0_ := Aside0.mk (Kd.R_lower ho0 (below_size (by repeat (first | (with_reducible first | exact HB.out | apply below_alloc | apply pw_below_drewN | apply below_drew1) | exact HB.out)))); have n1_ := Aside0.mk (below_step (by repeat (first | (with_reducible first | exact HB.out | apply below_alloc | apply pw_below_drewN | apply below_drew1) | exact HB.out)) hb); clear HB; have HO311 := n0_; have HB := n1_; clear n0_ n1_; (try clear hb); (try clear hb2); (try clear hk); (try clear hi); (try clear ho0)) | ((with_reducible refine gate_callee (f:=35) rfl ?_); refine goesL_ (some 21) rfl rfl Tryd.func35 (by kernel_rfl) rfl #[.string a0] rfl (by (try simp only [List.map_toArray,List.map_cons,List.map_nil]); first | done | rfl | (simp only [List.length_drop,List.length_take]; rfl)) ?_; (with_reducible refine (impl_ReadBuckets.calls k a0 t312 t313 _ ?side1 A4.out).mono ?_); (case side1 => exact HV.out.below (by repeat (first | (with_reducible first | exact HB.out | apply below_alloc | apply pw_below_drewN | apply below_drew1) | exact HB.out))); rintro e w7 ⟨v314,rfl,ho0,hb⟩; refine ⟨_,rfl,?_⟩; have n0_ := Aside0.mk (Kd.R_elder' (by (with_reducible repeat (first | apply Kd.R_alloc | apply Kd.R_drewN | apply Kd.R_drew)); exact HO311.out) (Kd.R_base ho0) hb); have n1_ := Aside0.mk (Kd.R_lower (Kd.R_new' ho0 (Kd.R_lt (by (with_reducible repeat (first | apply Kd.R_alloc | apply Kd.R_drewN | apply Kd.R_drew)); exact HO311.out))) (below_size (by repeat (first | (with_reducible first | exact HB.out | apply below_alloc | apply pw_below_drewN | apply below_drew1) | exact HB.out)))); have n2_ := Aside0.mk (below_step (by repeat (first | (with_reducible first | exact HB.out | apply below_alloc | apply pw_below_drewN | apply below_drew1) | exact HB.out)) hb); clear HO311; clear HB; have HO311 := n0_; have HO315 := n1_; have HB := n2_; clear n0_ n1_ n2_; (try clear hb); (try clear hb2); (try clear hk); (try clear hi); (try clear ho0)))
  (try simp only [Act.put,setIfInBounds_toArray,set_cons_zero,set_cons_succ])
  go_cut [32] (fun v32 wc => ∃ (kq : Nat) (x32_4 : Bool),v32 = .bool x32_4 ∧ Aside0 (laws_FnExactReadBuckets.j0 kq a0 t308 t309 t312 x32_4 = some r) ∧ Aside0 (kq ≤ k) ∧ Aside0 (Kd.R k88 88 wc w.heap.size (fun k_ => some k_ ≠ (v314 : Value).ownBlock) v310 t308) ∧ Aside0 (Kd.R k88 88 wc w.heap.size (fun k_ => some k_ ≠ (v310 : Value).ownBlock) v314 t312) ∧ Aside0 (Below w.heap.size w wc))
  case first =>
   have H := HC5.out
   clear HC5
   replace H := Option.bind_eq_some_iff.mp H
   obtain ⟨t316,A80,H⟩ := H
   replace H : (if t316 = true then (laws_FnExactReadBuckets.j0 k a0 t308 t309 t312 (t313 != t309)) else (laws_FnExactReadBuckets.j0 k a0 t308 t309 t312 true)) = some r := H
   have A8 := Aside0.mk A80
   clear A80
   by_cases c9 : t316 = true
   ·subst c9
    have H1 : (laws_FnExactReadBuckets.j0 k a0 t308 t309 t312 (t313 != t309)) = some r := by rw [if_pos rfl] at H; exact H
    clear H
    have H := H1
    clear H1
    have H' := Aside0.mk H
    clear H
    obtain ⟨Ao10,co10,eo10⟩ := Kd.R_slice HO315.out
    subst eo10
    obtain ⟨Ao11,co11,eo11⟩ := Kd.R_slice HO311.out
    subst eo11
    go_wp2_with (first | ((with_reducible refine gate_callee (f:=36) rfl ?_); refine goesL_ (some 26) rfl rfl Tryd.func36 (by kernel_rfl) rfl #[.slice Ao10 t312.length co10,.slice Ao11 t308.length co11] rfl (by (try simp only [List.map_toArray,List.map_cons,List.map_nil]); first | done | rfl | (simp only [List.length_drop,List.length_take]; rfl)) ?_; (with_reducible refine (laws_eqBucketS.calls k _ _ t312 _ _ t308 true _ ?side1 ?side2 ?side3 ?side4 A8.out).mono ?_); (case side1 => repeat (first | exact (Kd.R_reads' HO315.out).2.2 | (with_reducible refine Kd.C_alloc ?_ _) | (with_reducible refine Kd.C_drewN ?_ _) | (with_reducible refine Kd.C_drew ?_))); (case side2 => exact (Kd.R_reads' HO315.out).2.1); (case side3 => repeat (first | exact (Kd.R_reads' HO311.out).2.2 | (with_reducible refine Kd.C_alloc ?_ _) | (with_reducible refine Kd.C_drewN ?_ _) | (with_reducible refine Kd.C_drew ?_))); (case side4 => exact (Kd.R_reads' HO311.out).2.1); rintro e w12 ⟨rfl,hb⟩; refine ⟨_,rfl,?_⟩; have n0_ := Aside0.mk (Kd.R_below (by (with_reducible repeat (first | apply Kd.R_alloc | apply Kd.R_drewN | apply Kd.R_drew)); exact HO311.out) hb); have n1_ := Aside0.mk (Kd.R_below (by (with_reducible repeat (first | apply Kd.R_alloc | apply Kd.R_drewN | apply Kd.R_drew)); exact HO315.out) hb); have n2_ := Aside0.mk (below_step (by repeat (first | (with_reducible first | exact HB.out | apply below_alloc | apply pw_below_drewN | apply below_drew1) | exact HB.out)) hb); clear HO311; clear HO315; clear HB; have HO311 := n0_; have HO315 := n1_; have HB := n2_; clear n0_ n1_ n2_; (try clear hb); (try clear hb2); (try clear hk); (try clear hi)))
    go_meet
    case rel => exact ⟨_,((t313 != t309)),(by first | rfl | (simp; done) | (simp [*]; done)),H',⟨by first | omega | exact Nat.le_refl _⟩,⟨by (with_reducible repeat (first | apply Kd.R_alloc | apply Kd.R_drewN | apply Kd.R_drew)); exact Kd.R_mono HO311.out (fun _ hk => hk.2)⟩,⟨by (with_reducible repeat (first | apply Kd.R_alloc | apply Kd.R_drewN | apply Kd.R_drew)); exact Kd.R_mono HO315.out (fun _ hk => hk.2)⟩,⟨by repeat (first | (with_reducible first | exact HB.out | apply below_alloc | apply pw_below_drewN | apply below_drew1) | exact HB.out)⟩⟩
   ·replace c9 := Bool.eq_false_iff.mpr c9
    subst c9
    have H1 : (laws_FnExactReadBuckets.j0 k a0 t308 t309 t312 true) = some r := by rw [if_neg (show ¬ (false = true) by decide)] at H; exact H
    clear H
    have H := H1
    clear H1
    have H' := Aside0.mk H
    clear H
    obtain ⟨Ao13,co13,eo13⟩ := Kd.R_slice HO315.out
    subst eo13
    obtain ⟨Ao14,co14,eo14⟩ := Kd.R_slice HO311.out
    subst eo14
    go_wp2_with (first | ((with_reducible refine gate_callee (f:=36) rfl ?_); refine goesL_ (some 26) rfl rfl Tryd.func36 (by kernel_rfl) rfl #[.slice Ao13 t312.length co13,.slice Ao14 t308.length co14] rfl (by (try simp only [List.map_toArray,List.map_cons,List.map_nil]); first | done | rfl | (simp only [List.length_drop,List.length_take]; rfl)) ?_; (with_reducible refine (laws_eqBucketS.calls k _ _ t312 _ _ t308 false _ ?side1 ?side2 ?side3 ?side4 A8.out).mono ?_); (case side1 => repeat (first | exact (Kd.R_reads' HO315.out).2.2 | (with_reducible refine Kd.C_alloc ?_ _) | (with_reducible refine Kd.C_drewN ?_ _) | (with_reducible refine Kd.C_drew ?_))); (case side2 => exact (Kd.R_reads' HO315.out).2.1); (case side3 => repeat (first | exact (Kd.R_reads' HO311.out).2.2 | (with_reducible refine Kd.C_alloc ?_ _) | (with_reducible refine Kd.C_drewN ?_ _) | (with_reducible refine Kd.C_drew ?_))); (case side4 => exact (Kd.R_reads' HO311.out).2.1); rintro e w15 ⟨rfl,hb⟩; refine ⟨_,rfl,?_⟩; have n0_ := Aside0.mk (Kd.R_below (by (with_reducible repeat (first | apply Kd.R_alloc | apply Kd.R_drewN | apply Kd.R_drew)); exact HO311.out) hb); have n1_ := Aside0.mk (Kd.R_below (by (with_reducible repeat (first | apply Kd.R_alloc | apply Kd.R_drewN | apply Kd.R_drew)); exact HO315.out) hb); have n2_ := Aside0.mk (below_step (by repeat (first | (with_reducible first | exact HB.out | apply below_alloc | apply pw_below_drewN | apply below_drew1) | exact HB.out)) hb); clear HO311; clear HO315; clear HB; have HO311 := n0_; have HO315 := n1_; have HB := n2_; clear n0_ n1_ n2_; (try clear hb); (try clear hb2); (try clear hk); (try clear hi)))
    go_meet
    case rel => exact ⟨_,(true),(by first | rfl | (simp; done) | (simp [*]; done)),H',⟨by first | omega | exact Nat.le_refl _⟩,⟨by (with_reducible repeat (first | apply Kd.R_alloc | apply Kd.R_drewN | apply Kd.R_drew)); exact Kd.R_mono HO311.out (fun _ hk => hk.2)⟩,⟨by (with_reducible repeat (first | apply Kd.R_alloc | apply Kd.R_drewN | apply Kd.R_drew)); exact Kd.R_mono HO315.out (fun _ hk => hk.2)⟩,⟨by repeat (first | (with_reducible first | exact HB.out | apply below_alloc | apply pw_below_drewN | apply below_drew1) | exact HB.out)⟩⟩
  case rest =>
   clear HC5
   try clear c1
   try clear c2
   try clear c2b0
   try clear c2b1
   try clear p2
   try clear c3
   try clear c9
   try clear c10
   obtain ⟨kq,x32_4,rfl,HA,HJ4,HO_3,HO_5,HB⟩ := hcut
   cases kq with
   | zero => exact absurd HA.out (by simp [laws_FnExactReadBuckets.j0])
   | succ kj4 =>
    have H := HA.out
    clear HA
    simp only [laws_FnExactReadBuckets.j0] at H
    by_cases c16 : x32_4 = true
    ·subst c16
     have H1 : (none) = some r := by rw [if_pos rfl] at H; exact H
     clear H
     have H := H1
     clear H1
     exact absurd H (by simp)
    ·replace c16 := Bool.eq_false_iff.mpr c16
     subst c16
     have H1 : ((laws_markBucketS.f kj4 t312 1).bind fun bt317 => ((laws_heldBucketS.f kj4 bt317.2 1).bind fun t319 => (if t319 < 0 then (none) else (if t319 = bt317.1 then ((impl_ReadBuckets.f kj4 a0).bind fun bt320 => ((laws_eqBucketS.f kj4 bt320.1 t308).bind fun t324 => (if t324 = true then (laws_FnExactReadBuckets.j1 kj4 bt317.2 bt317.1 (bt320.2 != t309)) else (laws_FnExactReadBuckets.j1 kj4 bt317.2 bt317.1 true)))) else (none))))) = some r := by rw [if_neg (show ¬ (false = true) by decide)] at H; exact H
     clear H
     have H := H1
     clear H1
     replace H := Option.bind_eq_some_iff.mp H
     obtain ⟨⟨t317,t318⟩,A170,H⟩ := H
     replace H : ((laws_heldBucketS.f kj4 t318 1).bind fun t319 => (if t319 < 0 then (none) else (if t319 = t317 then ((impl_ReadBuckets.f kj4 a0).bind fun bt320 => ((laws_eqBucketS.f kj4 bt320.1 t308).bind fun t324 => (if t324 = true then (laws_FnExactReadBuckets.j1 kj4 t318 t317 (bt320.2 != t309)) else (laws_FnExactReadBuckets.j1 kj4 t318 t317 true)))) else (none)))) = some r := H
     have A17 := Aside0.mk A170
     clear A170
     replace H := Option.bind_eq_some_iff.mp H
     obtain ⟨t319,A180,H⟩ := H
     replace H : (if t319 < 0 then (none) else (if t319 = t317 then ((impl_ReadBuckets.f kj4 a0).bind fun bt320 => ((laws_eqBucketS.f kj4 bt320.1 t308).bind fun t324 => (if t324 = true then (laws_FnExactReadBuckets.j1 kj4 t318 t317 (bt320.2 != t309)) else (laws_FnExactReadBuckets.j1 kj4 t318 t317 true)))) else (none))) = some r := H
     have A18 := Aside0.mk A180
     clear A180
     by_cases c19 : t319 < 0
     ·rw [if_pos c19] at H
      exact absurd H (by simp)
     ·rw [if_neg c19] at H
      have c19b0 : decide (t319 < 0) = false := decide_eq_false c19
      clear c19
      by_cases c20 : t319 = t317
      ·rw [if_pos c20] at H
       have c20b0 : (t319 == t317) = true := beq_iff_eq.mpr c20
       have c20b1 : (t319 != t317) = false := bne_eq_false_iff_eq.mpr c20
       clear c20
       replace H := Option.bind_eq_some_iff.mp H
       obtain ⟨⟨t320,t321⟩,A210,H⟩ := H
       replace H : ((laws_eqBucketS.f kj4 t320 t308).bind fun t324 => (if t324 = true then (laws_FnExactReadBuckets.j1 kj4 t318 t317 (t321 != t309)) else (laws_FnExactReadBuckets.j1 kj4 t318 t317 true))) = some r := H
       have A21 := Aside0.mk A210
       clear A210
       have HC22 := Aside0.mk H
       clear H
       obtain ⟨Ao23,co23,eo23⟩ := Kd.R_slice HO_5.out
       subst eo23
       go_upto_region 16 with (first | ((with_reducible refine gate_callee (f:=37) rfl ?_); refine goesL_ (some 35) rfl rfl Tryd.func37 (by kernel_rfl) rfl #[.slice Ao23 t312.length co23,.int .i64 1] rfl (by (try simp only [List.map_toArray,List.map_cons,List.map_nil]); first | done | rfl | (simp only [List.length_drop,List.length_take]; rfl)) ?_; (with_reducible refine (laws_markBucketS.calls kj4 (fun k_ => some k_ = (.slice Ao23 t312.length co23 : Value).ownBlock) (.slice Ao23 t312.length co23) t312 1 t317 t318 w _ ?side1 ?side2 A17.out).mono ?_); (case side1 => repeat (first | (with_reducible first | exact HB.out | apply below_alloc | apply pw_below_drewN | apply below_drew1) | exact HB.out)); (case side2 => exact Kd.R_tight rfl HO_5.out); rintro e w24 ⟨rfl,hy0,hb,hkp⟩; refine ⟨_,rfl,?_⟩; have n0_ := Aside0.mk (Kd.R_mono (ok' := fun k_ => some k_ ≠ (.slice Ao23 t312.length co23 : Value).ownBlock) (Kd.R_keptB (HO_3.out) hkp (fun k_ hk_ hs_ => (hk_) hs_)) (fun k_ hk_ => hk_.1)); have n1_ := Aside0.mk (Kd.R_reok rfl hy0 (fun k_ e_ => HO_5.out.1 k_ e_)); have n2_ := Aside0.mk (hb); clear HO_3; clear HO_5; clear HB; have HO_3 := n0_; have HO_5 := n1_; have HB := n2_; clear n0_ n1_ n2_; (try clear hb); (try clear hkp); (try clear hy0)) | ((with_reducible refine gate_callee (f:=38) rfl ?_); refine goesL_ (some 38) rfl rfl Tryd.func38 (by kernel_rfl) rfl #[.slice Ao23 t318.length co23,.int .i64 1] rfl (by (try simp only [List.map_toArray,List.map_cons,List.map_nil]); first | done | (rw [show t318.length = t312.length from (Kd.R_reads' HO_5.out).1.symm] <;> rfl) | rfl | (simp only [List.length_drop,List.length_take]; rfl)) ?_; (with_reducible refine (laws_heldBucketS.calls kj4 _ _ t318 1 t319 _ ?side1 ?side2 A18.out).mono ?_); (case side1 => repeat (first | exact (Kd.R_reads' HO_5.out).2.2 | (with_reducible refine Kd.C_alloc ?_ _) | (with_reducible refine Kd.C_drewN ?_ _) | (with_reducible refine Kd.C_drew ?_))); (case side2 => rw [show t318.length = t312.length from (Kd.R_reads' HO_5.out).1.symm]; exact (Kd.R_reads' HO_5.out).2.1); rintro e w' ⟨rfl,⟨nd,rfl⟩⟩; refine ⟨_,rfl,?_⟩) | ((with_reducible refine gate_callee (f:=35) rfl ?_); refine goesL_ (some 46) rfl rfl Tryd.func35 (by kernel_rfl) rfl #[.string a0] rfl (by (try simp only [List.map_toArray,List.map_cons,List.map_nil]); first | done | rfl | (simp only [List.length_drop,List.length_take]; rfl)) ?_; (with_reducible refine (impl_ReadBuckets.calls kj4 a0 t320 t321 _ ?side1 A21.out).mono ?_); (case side1 => exact HV.out.below (by repeat (first | (with_reducible first | exact HB.out | apply below_alloc | apply pw_below_drewN | apply below_drew1) | exact HB.out))); rintro e w25 ⟨v322,rfl,ho0,hb⟩; refine ⟨_,rfl,?_⟩; have n0_ := Aside0.mk (Kd.R_elder' (by (with_reducible repeat (first | apply Kd.R_alloc | apply Kd.R_drewN | apply Kd.R_drew)); exact HO_3.out) (Kd.R_base ho0) hb); have n1_ := Aside0.mk (Kd.R_elder' (by (with_reducible repeat (first | apply Kd.R_alloc | apply Kd.R_drewN | apply Kd.R_drew)); exact HO_5.out) (Kd.R_base ho0) hb); have n2_ := Aside0.mk (Kd.R_lower (Kd.R_new' (Kd.R_new' ho0 (Kd.R_lt (by (with_reducible repeat (first | apply Kd.R_alloc | apply Kd.R_drewN | apply Kd.R_drew)); exact HO_3.out))) (Kd.R_lt (by (with_reducible repeat (first | apply Kd.R_alloc | apply Kd.R_drewN | apply Kd.R_drew)); exact HO_5.out))) (below_size (by repeat (first | (with_reducible first | exact HB.out | apply below_alloc | apply pw_below_drewN | apply below_drew1) | exact HB.out)))); have n3_ := Aside0.mk (below_step (by repeat (first | (with_reducible first | exact HB.out | apply below_alloc | apply pw_below_drewN | apply below_drew1) | exact HB.out)) hb); clear HO_3; clear HO_5; clear HB; have HO_3 := n0_; have HO_5 := n1_; have HO323 := n2_; have HB := n3_; clear n0_ n1_ n2_ n3_; (try clear hb); (try clear hb2); (try clear hk); (try clear hi); (try clear ho0)))
       (try simp only [Act.put,setIfInBounds_toArray,set_cons_zero,set_cons_succ])
       go_cut [57] (fun v57 wc => ∃ (kq : Nat) (x57_21 : Bool),v57 = .bool x57_21 ∧ Aside0 (laws_FnExactReadBuckets.j1 kq t318 t317 x57_21 = some r) ∧ Aside0 (kq ≤ kj4) ∧ Aside0 (Kd.R k88 88 wc w.heap.size (fun _ => True) (.slice Ao23 t312.length co23) t318) ∧ Aside0 (Below w.heap.size w wc))
       case first =>
        have H := HC22.out
        clear HC22
        replace H := Option.bind_eq_some_iff.mp H
        obtain ⟨t324,A260,H⟩ := H
        replace H : (if t324 = true then (laws_FnExactReadBuckets.j1 kj4 t318 t317 (t321 != t309)) else (laws_FnExactReadBuckets.j1 kj4 t318 t317 true)) = some r := H
        have A26 := Aside0.mk A260
        clear A260
        by_cases c27 : t324 = true
        ·subst c27
         have H1 : (laws_FnExactReadBuckets.j1 kj4 t318 t317 (t321 != t309)) = some r := by rw [if_pos rfl] at H; exact H
         clear H
         have H := H1
         clear H1
         have H' := Aside0.mk H
         clear H
         obtain ⟨Ao28,co28,eo28⟩ := Kd.R_slice HO323.out
         subst eo28
         obtain ⟨Ao29,co29,eo29⟩ := Kd.R_slice HO_3.out
         subst eo29
         go_wp2_with (first | ((with_reducible refine gate_callee (f:=36) rfl ?_); refine goesL_ (some 51) rfl rfl Tryd.func36 (by kernel_rfl) rfl #[.slice Ao28 t320.length co28,.slice Ao29 t308.length co29] rfl (by (try simp only [List.map_toArray,List.map_cons,List.map_nil]); first | done | rfl | (simp only [List.length_drop,List.length_take]; rfl)) ?_; (with_reducible refine (laws_eqBucketS.calls kj4 _ _ t320 _ _ t308 true _ ?side1 ?side2 ?side3 ?side4 A26.out).mono ?_); (case side1 => repeat (first | exact (Kd.R_reads' HO323.out).2.2 | (with_reducible refine Kd.C_alloc ?_ _) | (with_reducible refine Kd.C_drewN ?_ _) | (with_reducible refine Kd.C_drew ?_))); (case side2 => exact (Kd.R_reads' HO323.out).2.1); (case side3 => repeat (first | exact (Kd.R_reads' HO_3.out).2.2 | (with_reducible refine Kd.C_alloc ?_ _) | (with_reducible refine Kd.C_drewN ?_ _) | (with_reducible refine Kd.C_drew ?_))); (case side4 => exact (Kd.R_reads' HO_3.out).2.1); rintro e w30 ⟨rfl,hb⟩; refine ⟨_,rfl,?_⟩; have n0_ := Aside0.mk (Kd.R_below (by (with_reducible repeat (first | apply Kd.R_alloc | apply Kd.R_drewN | apply Kd.R_drew)); exact HO_3.out) hb); have n1_ := Aside0.mk (Kd.R_below (by (with_reducible repeat (first | apply Kd.R_alloc | apply Kd.R_drewN | apply Kd.R_drew)); exact HO_5.out) hb); have n2_ := Aside0.mk (Kd.R_below (by (with_reducible repeat (first | apply Kd.R_alloc | apply Kd.R_drewN | apply Kd.R_drew)); exact HO323.out) hb); have n3_ := Aside0.mk (below_step (by repeat (first | (with_reducible first | exact HB.out | apply below_alloc | apply pw_below_drewN | apply below_drew1) | exact HB.out)) hb); clear HO_3; clear HO_5; clear HO323; clear HB; have HO_3 := n0_; have HO_5 := n1_; have HO323 := n2_; have HB := n3_; clear n0_ n1_ n2_ n3_; (try clear hb); (try clear hb2); (try clear hk); (try clear hi)))
         go_meet
         case rel => exact ⟨_,((t321 != t309)),(by first | rfl | (simp; done) | (simp [*]; done)),H',⟨by have := HJ4.out; first | omega | exact Nat.le_refl _⟩,⟨by (with_reducible repeat (first | apply Kd.R_alloc | apply Kd.R_drewN | apply Kd.R_drew)); exact Kd.R_mono HO_5.out (fun _ hk => trivial)⟩,⟨by repeat (first | (with_reducible first | exact HB.out | apply below_alloc | apply pw_below_drewN | apply below_drew1) | exact HB.out)⟩⟩
        ·replace c27 := Bool.eq_false_iff.mpr c27
         subst c27
         have H1 : (laws_FnExactReadBuckets.j1 kj4 t318 t317 true) = some r := by rw [if_neg (show ¬ (false = true) by decide)] at H; exact H
         clear H
         have H := H1
         clear H1
         have H' := Aside0.mk H
         clear H
         obtain ⟨Ao31,co31,eo31⟩ := Kd.R_slice HO323.out
         subst eo31
         obtain ⟨Ao32,co32,eo32⟩ := Kd.R_slice HO_3.out
         subst eo32
         go_wp2_with (first | ((with_reducible refine gate_callee (f:=36) rfl ?_); refine goesL_ (some 51) rfl rfl Tryd.func36 (by kernel_rfl) rfl #[.slice Ao31 t320.length co31,.slice Ao32 t308.length co32] rfl (by (try simp only [List.map_toArray,List.map_cons,List.map_nil]); first | done | rfl | (simp only [List.length_drop,List.length_take]; rfl)) ?_; (with_reducible refine (laws_eqBucketS.calls kj4 _ _ t320 _ _ t308 false _ ?side1 ?side2 ?side3 ?side4 A26.out).mono ?_); (case side1 => repeat (first | exact (Kd.R_reads' HO323.out).2.2 | (with_reducible refine Kd.C_alloc ?_ _) | (with_reducible refine Kd.C_drewN ?_ _) | (with_reducible refine Kd.C_drew ?_))); (case side2 => exact (Kd.R_reads' HO323.out).2.1); (case side3 => repeat (first | exact (Kd.R_reads' HO_3.out).2.2 | (with_reducible refine Kd.C_alloc ?_ _) | (with_reducible refine Kd.C_drewN ?_ _) | (with_reducible refine Kd.C_drew ?_))); (case side4 => exact (Kd.R_reads' HO_3.out).2.1); rintro e w33 ⟨rfl,hb⟩; refine ⟨_,rfl,?_⟩; have n0_ := Aside0.mk (Kd.R_below (by (with_reducible repeat (first | apply Kd.R_alloc | apply Kd.R_drewN | apply Kd.R_drew)); exact HO_3.out) hb); have n1_ := Aside0.mk (Kd.R_below (by (with_reducible repeat (first | apply Kd.R_alloc | apply Kd.R_drewN | apply Kd.R_drew)); exact HO_5.out) hb); have n2_ := Aside0.mk (Kd.R_below (by (with_reducible repeat (first | apply Kd.R_alloc | apply Kd.R_drewN | apply Kd.R_drew)); exact HO323.out) hb); have n3_ := Aside0.mk (below_step (by repeat (first | (with_reducible first | exact HB.out | apply below_alloc | apply pw_below_drewN | apply below_drew1) | exact HB.out)) hb); clear HO_3; clear HO_5; clear HO323; clear HB; have HO_3 := n0_; have HO_5 := n1_; have HO323 := n2_; have HB := n3_; clear n0_ n1_ n2_ n3_; (try clear hb); (try clear hb2); (try clear hk); (try clear hi)))
         go_meet
         case rel => exact ⟨_,(true),(by first | rfl | (simp; done) | (simp [*]; done)),H',⟨by have := HJ4.out; first | omega | exact Nat.le_refl _⟩,⟨by (with_reducible repeat (first | apply Kd.R_alloc | apply Kd.R_drewN | apply Kd.R_drew)); exact Kd.R_mono HO_5.out (fun _ hk => trivial)⟩,⟨by repeat (first | (with_reducible first | exact HB.out | apply below_alloc | apply pw_below_drewN | apply below_drew1) | exact HB.out)⟩⟩
       case rest =>
        clear HC22
        try clear c1
        try clear c2
        try clear c2b0
        try clear c2b1
        try clear p2
        try clear c3
        try clear c9
        try clear c10
        try clear c16
        try clear c19
        try clear c19b0
        try clear c20
        try clear c20b0
        try clear c20b1
        try clear c27
        try clear p2
        obtain ⟨kq,x57_21,rfl,HA,HJ21,HO_5,HB⟩ := hcut
        have hl5_21 := (Kd.R_reads' HO_5.out).1
        rw [hl5_21] at HO_5
        (try simp only [hl5_21])
        cases kq with
        | zero => exact absurd HA.out (by simp [laws_FnExactReadBuckets.j1])
        | succ kj21 =>
         have H := HA.out
         clear HA
         simp only [laws_FnExactReadBuckets.j1] at H
         by_cases c34 : x57_21 = true
         ·subst c34
          have H1 : (none) = some r := by rw [if_pos rfl] at H; exact H
          clear H
          have H := H1
          clear H1
          exact absurd H (by simp)
         ·replace c34 := Bool.eq_false_iff.mpr c34
          subst c34
          have H1 : ((laws_heldBucketS.f kj21 t318 1).bind fun t325 => (if t325 < 0 then (none) else (if t325 = t317 then (some true) else (none)))) = some r := by rw [if_neg (show ¬ (false = true) by decide)] at H; exact H
          clear H
          have H := H1
          clear H1
          replace H := Option.bind_eq_some_iff.mp H
          obtain ⟨t325,A350,H⟩ := H
          replace H : (if t325 < 0 then (none) else (if t325 = t317 then (some true) else (none))) = some r := H
          have A35 := Aside0.mk A350
          clear A350
          by_cases c36 : t325 < 0
          ·rw [if_pos c36] at H
           exact absurd H (by simp)
          ·rw [if_neg c36] at H
           have c36b0 : decide (t325 < 0) = false := decide_eq_false c36
           clear c36
           by_cases c37 : t325 = t317
           ·rw [if_pos c37] at H
            have c37b0 : (t325 == t317) = true := beq_iff_eq.mpr c37
            have c37b1 : (t325 != t317) = false := bne_eq_false_iff_eq.mpr c37
            clear c37
            obtain rfl := Option.some.inj H
            go_wp2_with (first | ((with_reducible refine gate_callee (f:=38) rfl ?_); refine goesL_ (some 60) rfl rfl Tryd.func38 (by kernel_rfl) rfl #[.slice Ao23 t318.length co23,.int .i64 1] rfl (by (try simp only [List.map_toArray,List.map_cons,List.map_nil]); first | done | rfl | (simp only [List.length_drop,List.length_take]; rfl)) ?_; (with_reducible refine (laws_heldBucketS.calls kj21 _ _ t318 1 t325 _ ?side1 ?side2 A35.out).mono ?_); (case side1 => repeat (first | exact (Kd.R_reads' HO_5.out).2.2 | (with_reducible refine Kd.C_alloc ?_ _) | (with_reducible refine Kd.C_drewN ?_ _) | (with_reducible refine Kd.C_drew ?_))); (case side2 => exact (Kd.R_reads' HO_5.out).2.1); rintro e w' ⟨rfl,⟨nd,rfl⟩⟩; refine ⟨_,rfl,?_⟩))
            go_ret
            exact ⟨by first | rfl | (simp [errW_none,errW_some] <;> rfl) | (simp [*,errW_none,errW_some] <;> rfl),by repeat (first | (with_reducible first | exact HB.out | apply below_alloc | apply pw_below_drewN | apply below_drew1) | exact HB.out)⟩
           ·rw [if_neg c37] at H
            exact absurd H (by simp)
      ·rw [if_neg c20] at H
       exact absurd H (by simp)

end Go.Proofs.YtbdhpmamlibmhaaDoor.XFnExactReadBuckets
