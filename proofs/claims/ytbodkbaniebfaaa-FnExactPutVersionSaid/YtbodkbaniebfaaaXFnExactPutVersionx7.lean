-- Printed by this session's own program wip/tools/xprint.py, which widens the kit's print. Not trusted: Lean checks it.
import Derived.Test.YtbodkbaniebfaaaXFnExactPutVersionx0
namespace Go.Proofs.Ytbodkbaniebfaaa.XFnExactPutVersion
open List (setIfInBounds_toArray set_cons_zero set_cons_succ)
open Go.RowKit Go.Proofs.YtbodkbaniebfaaaW.PrintWords Go.Proofs.YtbodkbaniebfaaaW.PrintLast Go.Proofs.YtbodkbaniebfaaaW.PrintMore
attribute [local go_sem] max2_int min2_int max_two min_two max_three min_three max_four min_four   -- for this text's walks alone
set_option linter.unusedVariables false
set_option linter.unusedSimpArgs false

/-! ### spec_l01Set: function 67 -/
def spec_l01Set.l0 : Nat → ByteArray → ByteArray → Int → List (S71) → Int → Option ((List (S71)) × Int)
 | 0,_,_,_,_,_ => none
 | k + 1,x1,x2,x7,x175000,x175001 => if x7 < (x175000.length : Int) then (if 0 ≤ x7 then (if (Op.bytesLess (((rd_T71 x175000 x7).f0).toList) x1.toList) = true then (spec_l01Set.l0 k x1 x2 (wrap64 (x7 + 1)) x175000 x175001) else (if x7 ≤ (x175000.length : Int) then ((some (x175000.drop (x7 : Int).toNat : List (S71))).bind fun y177 => (if ((rd_T71 x175000 x7).f0).toList = x1.toList then (if 0 ≤ (wrap64 (x7 + 1)) then (if (wrap64 (x7 + 1)) ≤ (x175000.length : Int) then ((some (x175000.drop ((wrap64 (x7 + 1)) : Int).toNat : List (S71))).bind fun y182 => ((some (([] : List (S71)) : List (S71))).bind fun y186 => ((some (x175000.take (x7 : Int).toNat : List (S71))).bind fun y189 => (if y186.length + y189.length < 3518437208883 then ((some (y186 ++ y189 : List (S71))).bind fun y193 => ((some (([(⟨x1,x175001,x2⟩ : S71)] : List (S71)) : List (S71))).bind fun y196 => (if y193.length + y196.length < 3518437208883 then ((some (y193 ++ y196 : List (S71))).bind fun y199 => (if y199.length + y182.length < 3518437208883 then (some ((y199 ++ y182),wrap64 (x175001 + 1))) else (none))) else (none)))) else (none))))) else (none)) else (none)) else ((some (([] : List (S71)) : List (S71))).bind fun y205 => ((some (x175000.take (x7 : Int).toNat : List (S71))).bind fun y208 => (if y205.length + y208.length < 3518437208883 then ((some (y205 ++ y208 : List (S71))).bind fun y212 => ((some (([(⟨x1,x175001,x2⟩ : S71)] : List (S71)) : List (S71))).bind fun y215 => (if y212.length + y215.length < 3518437208883 then ((some (y212 ++ y215 : List (S71))).bind fun y218 => (if y218.length + y177.length < 3518437208883 then (some ((y218 ++ y177),wrap64 (x175001 + 1))) else (none))) else (none)))) else (none)))))) else (none))) else (none)) else (if 0 ≤ x7 then (if x7 ≤ (x175000.length : Int) then ((some (x175000.drop (x7 : Int).toNat : List (S71))).bind fun y224 => ((some (([] : List (S71)) : List (S71))).bind fun y228 => ((some (x175000.take (x7 : Int).toNat : List (S71))).bind fun y231 => (if y228.length + y231.length < 3518437208883 then ((some (y228 ++ y231 : List (S71))).bind fun y235 => ((some (([(⟨x1,x175001,x2⟩ : S71)] : List (S71)) : List (S71))).bind fun y238 => (if y235.length + y238.length < 3518437208883 then ((some (y235 ++ y238 : List (S71))).bind fun y241 => (if y241.length + y224.length < 3518437208883 then (some ((y241 ++ y224),wrap64 (x175001 + 1))) else (none))) else (none)))) else (none))))) else (none)) else (none))
def spec_l01Set.f (k : Nat) (l0_0 : List (S71)) (a0_1 : Int) (a1 : ByteArray) (a2 : ByteArray) : Option ((List (S71)) × Int) := spec_l01Set.l0 k a1 a2 0 l0_0 a0_1
theorem spec_l01Set.mono_l : ∀ k,(∀ y0 y1 y2 y3 y4,LeO (spec_l01Set.l0 k y0 y1 y2 y3 y4) (spec_l01Set.l0 (k + 1) y0 y1 y2 y3 y4))
 | 0 => fun _ _ _ _ _ r h => by simp [spec_l01Set.l0] at h
 | k + 1 => by
  have ih0 := spec_l01Set.mono_l k
  ·intro y0 y1 y2 y3 y4
   unfold spec_l01Set.l0
   repeat' first
   | (with_reducible exact ih0 _ _ _ _ _)
   | (with_reducible exact LeO.refl _)
   | (with_reducible exact LeO.none _)
   | (with_reducible refine LeO.ite ?_ ?_)
   | (with_reducible refine LeO.bind ?_ (fun _ => ?_))
   | exact ih0 _ _ _ _ _
   | exact LeO.none _
   | refine LeO.ite ?_ ?_
   | refine LeO.bind ?_ (fun _ => ?_)
theorem spec_l01Set.mono : ∀ a0 a1 a2 a3 k,LeO (spec_l01Set.f k a0 a1 a2 a3) (spec_l01Set.f (k + 1) a0 a1 a2 a3) := by
 intro a0 a1 a2 a3 k
 have ih0 := spec_l01Set.mono_l k
 unfold spec_l01Set.f
 repeat' first
   | (with_reducible exact ih0 _ _ _ _ _)
   | (with_reducible exact LeO.refl _)
   | (with_reducible exact LeO.none _)
   | (with_reducible refine LeO.ite ?_ ?_)
   | (with_reducible refine LeO.bind ?_ (fun _ => ?_))
   | exact ih0 _ _ _ _ _
   | exact LeO.none _
   | refine LeO.ite ?_ ?_
   | refine LeO.bind ?_ (fun _ => ?_)
def spec_l01Set.T7 : Bool × List (List Nat × List Nat) := (true,[([],[]),([],[]),([1],[1]),([],[]),([2,3],[2,3]),([0,4],[0,4]),([],[]),([],[]),([7],[7]),([],[]),([6,8,9],[6,8,9]),([10],[10]),([5,11,5],[5,11]),([],[]),([12,13,12],[12,13]),([0,1,2,3,4,5,6,7,8,9,10,11,12,13,14],[]),([15,14,14,0,1,2,3,4,5,6,7,8,9,10,11,12,13,14],[14,15])])
def spec_l01Set.B7 : List Nat := [0,0,2,0,14,31,0,0,128,0,960,1984,4095,0,16383,32767,65535]
theorem spec_l01Set.tab7 : rtab .any (opsOf Try.f67 7) = spec_l01Set.T7 := by kernel_rfl
theorem spec_l01Set.bits7 : waitsOk spec_l01Set.T7.2 spec_l01Set.B7 = true := by kernel_rfl
set_option maxHeartbeats 8000000 in
set_option maxRecDepth 100000 in
theorem spec_l01Set.calls (k : Nat) (A0_0 : Option Addr) (c0_0 : Nat) (l0_0 : List (S71)) (a0_1 : Int) (a1 : ByteArray) (a2 : ByteArray) (r1 : List (S71)) (r2 : Int) (w : World) (hr0_0 : Kd.C k71 w A0_0 l0_0.length l0_0) (hc0_0 : l0_0.length ≤ c0_0) (h : spec_l01Set.f k l0_0 a0_1 a1 a2 = some (r1,r2)) :
  Calls Try.prog 67 #[.agg #[.slice A0_0 l0_0.length c0_0,.int .i64 a0_1],.string a1,.string a2] w fun e w' => ∃ v0_ : Value,e = .returned (.agg #[v0_,.int .i64 r2]) ∧ Kd.R k71 71 w' w.heap.size (fun _ => True) v0_ r1 ∧ Below w.heap.size w w' := by
 have hu28 := Try.underlying28
 have hu71 := Try.underlying71
 have HR0_0 := Aside0.mk hr0_0
 have HC0_0 := Aside0.mk hc0_0
 clear hr0_0 hc0_0
 have HB := Aside0.mk (Below.refl w.heap.size w)
 have H : (spec_l01Set.l0 k a1 a2 0 l0_0 a0_1) = some (r1,r2) := h
 clear h
 have H' := Aside0.mk H
 clear H
 go_enter Try.func67,Try.ntmps67
 go_wp2_with (first | ((with_reducible refine gate_dst (N:=3) rfl ?_); refine box_event ?hg (N:=3) ?hd (cs := #[.slice A0_0 l0_0.length c0_0,.int .i64 a0_1]) (t:=28) ?hr ?_; (case hd => rfl); (case hg => rfl); (case hr => first | (go_simp; done) | (go_simp; rfl)); intro gb174 hg w4 hbox hb; have n0_ := Aside0.mk (below_step bA hb); have n1_ := Aside0.mk (hbox); have n2_ := Aside0.mk ((by rw [hg]; exact (below_size bA) : w.heap.size ≤ gb174)); have n3_ := Aside0.mk ((by rw [hg]; exact (below_size bA) : w.heap.size ≤ gb174)); clear HB; have HB := n0_; have BK174 := n1_; have GW174 := n2_; have GE174 := n3_; clear n0_ n1_ n2_ n3_; clear hb hbox hg) | ((with_reducible refine gate_dst (N:=6) rfl ?_); refine box_event ?hg (N:=6) ?hd (cs := #[.slice none 0 0,.int .i64 0]) (t:=28) ?hr ?_; (case hd => rfl); (case hg => rfl); (case hr => first | (go_simp; done) | (go_simp; rfl)); intro gb175 hg w5 hbox hb; have n0_ := Aside0.mk (blk_below (g:=gb174) (o:=.cells #[.slice A0_0 l0_0.length c0_0,.int .i64 a0_1] 28 (0,0)) (kA BK174.out) hb); have n1_ := Aside0.mk (below_step bA hb); have n2_ := Aside0.mk (hbox); have n3_ := Aside0.mk ((by rw [hg]; exact (below_size bA) : w.heap.size ≤ gb175)); have n4_ := Aside0.mk ((by rw [hg]; exact (below_size bA) : w.heap.size ≤ gb175)); have n5_ := Aside0.mk ((by rw [hg]; exact Nat.ne_of_lt (blk_lt (g:=gb174) (o:=.cells #[.slice A0_0 l0_0.length c0_0,.int .i64 a0_1] 28 (0,0)) (kA BK174.out)) : gb174 ≠ gb175)); have n6_ := Aside0.mk ((by rw [hg]; exact Nat.ne_of_gt (blk_lt (g:=gb174) (o:=.cells #[.slice A0_0 l0_0.length c0_0,.int .i64 a0_1] 28 (0,0)) (kA BK174.out)) : gb175 ≠ gb174)); clear BK174; clear HB; have BK174 := n0_; have HB := n1_; have BK175 := n2_; have GW175 := n3_; have GE175 := n4_; have NB174_175 := n5_; have NB175_174 := n6_; clear n0_ n1_ n2_ n3_ n4_ n5_ n6_; clear hb hbox hg))
 go_loopg [7] k (fun kq v7 w' => ∃ (x7_1 : Int),v7 = .int .i64 x7_1 ∧ Aside0 (spec_l01Set.l0 kq a1 a2 x7_1 l0_0 a0_1 = some (r1,r2)) ∧ Aside0 (kq ≤ k) ∧ Aside0 (w'.heap[gb174]? = some (.cells #[(.slice A0_0 l0_0.length c0_0),.int .i64 a0_1] 28 (0,0))) ∧ Aside0 (w'.heap[gb175]? = some (.cells #[(.slice none 0 0),.int .i64 0] 28 (0,0))) ∧ Aside0 (Below w.heap.size w w'))
 case atStart => exact ⟨(0),(by first | rfl | (simp; done) | (simp [*]; done)),H',⟨Nat.le_refl _⟩,⟨kA BK174.out⟩,⟨kA BK175.out⟩,⟨bA⟩⟩
 case round =>
  clear H'
  try clear p2
  obtain ⟨x7_1,rfl,HA,HK1,BK174,BK175,HB⟩ := hrel
  cases gk with
  | zero => exact absurd HA.out (by simp [spec_l01Set.l0])
  | succ k1 =>
   have H := HA.out
   clear HA
   simp only [spec_l01Set.l0] at H
   by_cases c6 : x7_1 < (l0_0.length : Int)
   ·rw [if_pos c6] at H
    have c6b0 : decide (x7_1 < (l0_0.length : Int)) = true := decide_eq_true c6
    clear c6
    by_cases c7 : 0 ≤ x7_1
    ·rw [if_pos c7] at H
     have c7b0 : decide (0 ≤ x7_1) = true := decide_eq_true c7
     clear c7
     by_cases c8 : (Op.bytesLess (((rd_T71 l0_0 x7_1).f0).toList) a1.toList) = true
     ·rw [if_pos c8] at H
      have c8b0 : (Op.bytesLess (((rd_T71 l0_0 x7_1).f0).toList) a1.toList) = true := c8
      clear c8
      have H' := Aside0.mk H
      clear H
      have hnb9 := NB174_175.out
      have hnc9 := NB175_174.out
      have hcz10_0 : wr.cell? ⟨gb174,0,none⟩ = some (.slice A0_0 l0_0.length c0_0) := (blk_cell BK174.out 0).trans rfl
      have hcz10_1 : wr.cell? ⟨gb174,1,none⟩ = some (.int .i64 a0_1) := (blk_cell BK174.out 1).trans rfl
      have hfz10_0 := blk_frozen BK174.out 0
      have hfz10_1 := blk_frozen BK174.out 1
      have p176 : 0 ≤ (x7_1 : Int) := of_decide_eq_true (by first | (with_reducible assumption) | assumption)
      have q176 : x7_1 < (l0_0.length : Int) := of_decide_eq_true (by first | (with_reducible assumption) | assumption)
      obtain ⟨ad176,e176,hx176_0,hx176_1,hx176_2⟩ := at_T71 HR0_0.out x7_1 p176 q176
      cases e176
      replace hx176_0 := (HB.out.cell (World.block_lt_of_cell? w _ hx176_0)).trans hx176_0
      replace hx176_1 := (HB.out.cell (World.block_lt_of_cell? w _ hx176_1)).trans hx176_1
      replace hx176_2 := (HB.out.cell (World.block_lt_of_cell? w _ hx176_2)).trans hx176_2
      replace p176 := eq_true p176
      replace q176 := eq_true q176
      go_wp2
      go_roundg k1
      case measure => have := HK1.out; omega
      case rel => exact ⟨(wrap64 (x7_1 + 1)),(by first | rfl | (simp; done) | (simp [*]; done)),H',⟨by have := HK1.out; omega⟩,⟨kA BK174.out⟩,⟨kA BK175.out⟩,⟨bA⟩⟩
     ·rw [if_neg c8] at H
      have c8b0 : (Op.bytesLess (((rd_T71 l0_0 x7_1).f0).toList) a1.toList) = false := by simpa using c8
      clear c8
      have c11b0 := eq_true (of_decide_eq_true (by first | (with_reducible assumption) | assumption) : 0 ≤ x7_1)
      by_cases c12 : x7_1 ≤ (l0_0.length : Int)
      ·rw [if_pos c12] at H
       have c12b0 := eq_true c12
       have c12b1 : decide (x7_1 ≤ (l0_0.length : Int)) = true := decide_eq_true c12
       clear c12
       obtain ⟨y177,hy177⟩ : ∃ y_ : List (S71),y_ = (l0_0.drop (x7_1 : Int).toNat) := ⟨_,rfl⟩
       replace H : (if ((rd_T71 l0_0 x7_1).f0).toList = a1.toList then (if 0 ≤ (wrap64 (x7_1 + 1)) then (if (wrap64 (x7_1 + 1)) ≤ (l0_0.length : Int) then ((some (l0_0.drop ((wrap64 (x7_1 + 1)) : Int).toNat : List (S71))).bind fun y182 => ((some (([] : List (S71)) : List (S71))).bind fun y186 => ((some (l0_0.take (x7_1 : Int).toNat : List (S71))).bind fun y189 => (if y186.length + y189.length < 3518437208883 then ((some (y186 ++ y189 : List (S71))).bind fun y193 => ((some (([(⟨a1,a0_1,a2⟩ : S71)] : List (S71)) : List (S71))).bind fun y196 => (if y193.length + y196.length < 3518437208883 then ((some (y193 ++ y196 : List (S71))).bind fun y199 => (if y199.length + y182.length < 3518437208883 then (some ((y199 ++ y182),wrap64 (a0_1 + 1))) else (none))) else (none)))) else (none))))) else (none)) else (none)) else ((some (([] : List (S71)) : List (S71))).bind fun y205 => ((some (l0_0.take (x7_1 : Int).toNat : List (S71))).bind fun y208 => (if y205.length + y208.length < 3518437208883 then ((some (y205 ++ y208 : List (S71))).bind fun y212 => ((some (([(⟨a1,a0_1,a2⟩ : S71)] : List (S71)) : List (S71))).bind fun y215 => (if y212.length + y215.length < 3518437208883 then ((some (y212 ++ y215 : List (S71))).bind fun y218 => (if y218.length + y177.length < 3518437208883 then (some ((y218 ++ y177),wrap64 (a0_1 + 1))) else (none))) else (none)))) else (none))))) = some (r1,r2) := by first | (rw [hy177]; with_reducible exact H) | (have H2_ := (Option.bind_some _ _).symm.trans H; rw [hy177]; with_reducible exact H2_) | (have H2_ := (Option.bind_some _ _).symm.trans H; with_reducible exact H2_) | with_reducible exact H | (rw [hy177]; exact H) | exact H
       have Ny177 := Aside0.mk hy177
       clear hy177
       by_cases c13 : ((rd_T71 l0_0 x7_1).f0).toList = a1.toList
       ·rw [if_pos c13] at H
        have c13b0 : (((rd_T71 l0_0 x7_1).f0).toList == a1.toList) = true := beq_iff_eq.mpr c13
        have c13b1 : (((rd_T71 l0_0 x7_1).f0).toList != a1.toList) = false := bne_eq_false_iff_eq.mpr c13
        clear c13
        obtain ⟨ji14,hji14⟩ : ∃ j_ : Int,(wrap64 (x7_1 + 1)) = j_ := ⟨_,rfl⟩
        replace H : (if 0 ≤ (ji14) then (if (ji14) ≤ (l0_0.length : Int) then ((some (l0_0.drop ((ji14) : Int).toNat : List (S71))).bind fun y182 => ((some (([] : List (S71)) : List (S71))).bind fun y186 => ((some (l0_0.take (x7_1 : Int).toNat : List (S71))).bind fun y189 => (if y186.length + y189.length < 3518437208883 then ((some (y186 ++ y189 : List (S71))).bind fun y193 => ((some (([(⟨a1,a0_1,a2⟩ : S71)] : List (S71)) : List (S71))).bind fun y196 => (if y193.length + y196.length < 3518437208883 then ((some (y193 ++ y196 : List (S71))).bind fun y199 => (if y199.length + y182.length < 3518437208883 then (some ((y199 ++ y182),wrap64 (a0_1 + 1))) else (none))) else (none)))) else (none))))) else (none)) else (none)) = some (r1,r2) := by first | (rw [hji14] at H; exact H) | (simp only [hji14] at H ⊢; exact H)
        have hji14w : (IntKind.i64.wrap (x7_1 + 1)) = ji14 := (i64_w _).trans hji14
        by_cases c15 : 0 ≤ (ji14)
        ·rw [if_pos c15] at H
         have c15b0 := eq_true c15
         have c15b1 : decide (0 ≤ (ji14)) = true := decide_eq_true c15
         clear c15
         by_cases c16 : (ji14) ≤ (l0_0.length : Int)
         ·rw [if_pos c16] at H
          have c16b0 := eq_true c16
          have c16b1 : decide ((ji14) ≤ (l0_0.length : Int)) = true := decide_eq_true c16
          clear c16
          obtain ⟨y182,hy182⟩ : ∃ y_ : List (S71),y_ = (l0_0.drop ((ji14) : Int).toNat) := ⟨_,rfl⟩
          replace H : ((some (([] : List (S71)) : List (S71))).bind fun y186 => ((some (l0_0.take (x7_1 : Int).toNat : List (S71))).bind fun y189 => (if y186.length + y189.length < 3518437208883 then ((some (y186 ++ y189 : List (S71))).bind fun y193 => ((some (([(⟨a1,a0_1,a2⟩ : S71)] : List (S71)) : List (S71))).bind fun y196 => (if y193.length + y196.length < 3518437208883 then ((some (y193 ++ y196 : List (S71))).bind fun y199 => (if y199.length + y182.length < 3518437208883 then (some ((y199 ++ y182),wrap64 (a0_1 + 1))) else (none))) else (none)))) else (none)))) = some (r1,r2) := by first | (rw [hy182]; with_reducible exact H) | (have H2_ := (Option.bind_some _ _).symm.trans H; rw [hy182]; with_reducible exact H2_) | (have H2_ := (Option.bind_some _ _).symm.trans H; with_reducible exact H2_) | with_reducible exact H | (rw [hy182]; exact H) | exact H
          have Ny182 := Aside0.mk hy182
          clear hy182
          obtain ⟨y186,hy186⟩ : ∃ y_ : List (S71),y_ = (([] : List (S71))) := ⟨_,rfl⟩
          replace H : ((some (l0_0.take (x7_1 : Int).toNat : List (S71))).bind fun y189 => (if y186.length + y189.length < 3518437208883 then ((some (y186 ++ y189 : List (S71))).bind fun y193 => ((some (([(⟨a1,a0_1,a2⟩ : S71)] : List (S71)) : List (S71))).bind fun y196 => (if y193.length + y196.length < 3518437208883 then ((some (y193 ++ y196 : List (S71))).bind fun y199 => (if y199.length + y182.length < 3518437208883 then (some ((y199 ++ y182),wrap64 (a0_1 + 1))) else (none))) else (none)))) else (none))) = some (r1,r2) := by first | (rw [hy186]; with_reducible exact H) | (have H2_ := (Option.bind_some _ _).symm.trans H; rw [hy186]; with_reducible exact H2_) | (have H2_ := (Option.bind_some _ _).symm.trans H; with_reducible exact H2_) | with_reducible exact H | (rw [hy186]; exact H) | exact H
          have Ny186 := Aside0.mk hy186
          clear hy186
          have c17b0 := eq_true (of_decide_eq_true (by first | (with_reducible assumption) | assumption) : 0 ≤ x7_1)
          have c18b0 := eq_true (of_decide_eq_true (by first | (with_reducible assumption) | assumption) : x7_1 ≤ (l0_0.length : Int))
          obtain ⟨y189,hy189⟩ : ∃ y_ : List (S71),y_ = (l0_0.take (x7_1 : Int).toNat) := ⟨_,rfl⟩
          replace H : (if y186.length + y189.length < 3518437208883 then ((some (y186 ++ y189 : List (S71))).bind fun y193 => ((some (([(⟨a1,a0_1,a2⟩ : S71)] : List (S71)) : List (S71))).bind fun y196 => (if y193.length + y196.length < 3518437208883 then ((some (y193 ++ y196 : List (S71))).bind fun y199 => (if y199.length + y182.length < 3518437208883 then (some ((y199 ++ y182),wrap64 (a0_1 + 1))) else (none))) else (none)))) else (none)) = some (r1,r2) := by first | (rw [hy189]; with_reducible exact H) | (have H2_ := (Option.bind_some _ _).symm.trans H; rw [hy189]; with_reducible exact H2_) | (have H2_ := (Option.bind_some _ _).symm.trans H; with_reducible exact H2_) | with_reducible exact H | (rw [hy189]; exact H) | exact H
          have Ny189 := Aside0.mk hy189
          clear hy189
          by_cases c19 : y186.length + y189.length < 3518437208883
          ·rw [if_pos c19] at H
           have LMc19 := Aside0.mk c19
           clear c19
           obtain ⟨y193,hy193⟩ : ∃ y_ : List (S71),y_ = (y186 ++ y189) := ⟨_,rfl⟩
           replace H : ((some (([(⟨a1,a0_1,a2⟩ : S71)] : List (S71)) : List (S71))).bind fun y196 => (if y193.length + y196.length < 3518437208883 then ((some (y193 ++ y196 : List (S71))).bind fun y199 => (if y199.length + y182.length < 3518437208883 then (some ((y199 ++ y182),wrap64 (a0_1 + 1))) else (none))) else (none))) = some (r1,r2) := by first | (rw [hy193]; with_reducible exact H) | (have H2_ := (Option.bind_some _ _).symm.trans H; rw [hy193]; with_reducible exact H2_) | (have H2_ := (Option.bind_some _ _).symm.trans H; with_reducible exact H2_) | with_reducible exact H | (rw [hy193]; exact H) | exact H
           have Ny193 := Aside0.mk hy193
           clear hy193
           obtain ⟨y196,hy196⟩ : ∃ y_ : List (S71),y_ = (([(⟨a1,a0_1,a2⟩ : S71)] : List (S71))) := ⟨_,rfl⟩
           replace H : (if y193.length + y196.length < 3518437208883 then ((some (y193 ++ y196 : List (S71))).bind fun y199 => (if y199.length + y182.length < 3518437208883 then (some ((y199 ++ y182),wrap64 (a0_1 + 1))) else (none))) else (none)) = some (r1,r2) := by first | (rw [hy196]; with_reducible exact H) | (have H2_ := (Option.bind_some _ _).symm.trans H; rw [hy196]; with_reducible exact H2_) | (have H2_ := (Option.bind_some _ _).symm.trans H; with_reducible exact H2_) | with_reducible exact H | (rw [hy196]; exact H) | exact H
           have Ny196 := Aside0.mk hy196
           clear hy196
           by_cases c20 : y193.length + y196.length < 3518437208883
           ·rw [if_pos c20] at H
            have LMc20 := Aside0.mk c20
            clear c20
            obtain ⟨y199,hy199⟩ : ∃ y_ : List (S71),y_ = (y193 ++ y196) := ⟨_,rfl⟩
            replace H : (if y199.length + y182.length < 3518437208883 then (some ((y199 ++ y182),wrap64 (a0_1 + 1))) else (none)) = some (r1,r2) := by first | (rw [hy199]; with_reducible exact H) | (have H2_ := (Option.bind_some _ _).symm.trans H; rw [hy199]; with_reducible exact H2_) | (have H2_ := (Option.bind_some _ _).symm.trans H; with_reducible exact H2_) | with_reducible exact H | (rw [hy199]; exact H) | exact H
            have Ny199 := Aside0.mk hy199
            clear hy199
            by_cases c21 : y199.length + y182.length < 3518437208883
            ·rw [if_pos c21] at H
             have LMc21 := Aside0.mk c21
             clear c21
             obtain ⟨y202,hy202⟩ : ∃ y_ : List (S71),y_ = (y199 ++ y182) := ⟨_,rfl⟩
             replace H : (some (y202,wrap64 (a0_1 + 1))) = some (r1,r2) := by first | (rw [hy202]; with_reducible exact H) | (have H2_ := (Option.bind_some _ _).symm.trans H; rw [hy202]; with_reducible exact H2_) | (have H2_ := (Option.bind_some _ _).symm.trans H; with_reducible exact H2_) | with_reducible exact H | (rw [hy202]; exact H) | exact H
             have Ny202 := Aside0.mk hy202
             clear hy202
             simp only [Option.some.injEq,Prod.mk.injEq] at H
             obtain ⟨rfl,rfl⟩ := H
             have hnb22 := NB174_175.out
             have hnc22 := NB175_174.out
             have hcz23_0 : wr.cell? ⟨gb174,0,none⟩ = some (.slice A0_0 l0_0.length c0_0) := (blk_cell BK174.out 0).trans rfl
             have hcz23_1 : wr.cell? ⟨gb174,1,none⟩ = some (.int .i64 a0_1) := (blk_cell BK174.out 1).trans rfl
             have hfz23_0 := blk_frozen BK174.out 0
             have hfz23_1 := blk_frozen BK174.out 1
             have p176 : 0 ≤ (x7_1 : Int) := of_decide_eq_true (by first | (with_reducible assumption) | assumption)
             have q176 : x7_1 < (l0_0.length : Int) := of_decide_eq_true (by first | (with_reducible assumption) | assumption)
             obtain ⟨ad176,e176,hx176_0,hx176_1,hx176_2⟩ := at_T71 HR0_0.out x7_1 p176 q176
             cases e176
             replace hx176_0 := (HB.out.cell (World.block_lt_of_cell? w _ hx176_0)).trans hx176_0
             replace hx176_1 := (HB.out.cell (World.block_lt_of_cell? w _ hx176_1)).trans hx176_1
             replace hx176_2 := (HB.out.cell (World.block_lt_of_cell? w _ hx176_2)).trans hx176_2
             replace p176 := eq_true p176
             replace q176 := eq_true q176
             have q24 : (x7_1 : Int) ≤ ((l0_0.length : Int) : Int) := of_decide_eq_true (by first | (with_reducible assumption) | assumption)
             obtain ⟨i024,hi024,_,hsz24,_⟩ := info_parts info71
             have hroom24 : l0_0.length ≤ c0_0 := HC0_0.out
             have hC24 : Kd.C k71 _ (some ad176) l0_0.length l0_0 := HR0_0.out
             have q024 : (0 : Int) ≤ (x7_1 : Int) := of_decide_eq_true (by first | (with_reducible assumption) | assumption)
             have hcut24 := cut_from (P:=Try.prog) 26 71 .i64 Try.underlying26 hi024 3 hsz24 (some ad176) l0_0.length c0_0 x7_1 q024 q24
             have hr24 := Kd.C_drop (m:=(x7_1 : Int).toNat) (c:=c0_0) hC24 (by omega) hroom24
             obtain ⟨A24,hA24⟩ : ∃ A1,A1 = (if c0_0 = (x7_1 : Int).toNat then (some ad176) else ((some ad176) : Option Addr).map (·.add ((x7_1 : Int).toNat * 3))) := ⟨_,rfl⟩
             obtain ⟨c24,hc24⟩ : ∃ c1,c1 = c0_0 - (x7_1 : Int).toNat := ⟨_,rfl⟩
             have hy24 : y177.length = l0_0.length - (x7_1 : Int).toNat := (by rw [Ny177.out,List.length_drop] <;> omega)
             rw [show (l0_0).drop (x7_1 : Int).toNat = y177 from Ny177.out.symm] at hr24
             replace hr24 : Kd.C k71 _ A24 y177.length y177 := (by rw [hA24]; exact hr24)
             rw [← hy24,← hA24,← hc24] at hcut24
             have HR180 := Aside0.mk hr24
             have HC180 := Aside0.mk (show y177.length ≤ c24 from by rw [hy24,hc24]; exact Nat.sub_le_sub_right hroom24 _)
             clear hr24 hC24 hroom24 hi024 hsz24 hc24
             have KY24 := Aside0.mk hy24
             have KA24 := Aside0.mk hA24
             clear hy24 hA24
             replace q24 := eq_true q24
             have p181 : 0 ≤ (x7_1 : Int) := of_decide_eq_true (by first | (with_reducible assumption) | assumption)
             have q181 : x7_1 < (l0_0.length : Int) := of_decide_eq_true (by first | (with_reducible assumption) | assumption)
             obtain ⟨ad181,e181,hx181_0,hx181_1,hx181_2⟩ := at_T71 HR0_0.out x7_1 p181 q181
             obtain rfl : ad176 = ad181 := (by injection e181)
             replace hx181_0 := (HB.out.cell (World.block_lt_of_cell? w _ hx181_0)).trans hx181_0
             replace hx181_1 := (HB.out.cell (World.block_lt_of_cell? w _ hx181_1)).trans hx181_1
             replace hx181_2 := (HB.out.cell (World.block_lt_of_cell? w _ hx181_2)).trans hx181_2
             replace p181 := eq_true p181
             replace q181 := eq_true q181
             have q25 : ((ji14) : Int) ≤ ((l0_0.length : Int) : Int) := of_decide_eq_true (by first | (with_reducible assumption) | assumption)
             obtain ⟨i025,hi025,_,hsz25,_⟩ := info_parts info71
             have hroom25 : l0_0.length ≤ c0_0 := HC0_0.out
             have hC25 : Kd.C k71 _ (some ad176) l0_0.length l0_0 := HR0_0.out
             have q025 : (0 : Int) ≤ ((ji14) : Int) := of_decide_eq_true (by first | (with_reducible assumption) | assumption)
             have hcut25 := cut_from (P:=Try.prog) 26 71 .i64 Try.underlying26 hi025 3 hsz25 (some ad176) l0_0.length c0_0 (ji14) q025 q25
             have hr25 := Kd.C_drop (m:=((ji14) : Int).toNat) (c:=c0_0) hC25 (by omega) hroom25
             obtain ⟨A25,hA25⟩ : ∃ A1,A1 = (if c0_0 = ((ji14) : Int).toNat then (some ad176) else ((some ad176) : Option Addr).map (·.add (((ji14) : Int).toNat * 3))) := ⟨_,rfl⟩
             obtain ⟨c25,hc25⟩ : ∃ c1,c1 = c0_0 - ((ji14) : Int).toNat := ⟨_,rfl⟩
             have hy25 : y182.length = l0_0.length - ((ji14) : Int).toNat := (by rw [Ny182.out,List.length_drop] <;> omega)
             rw [show (l0_0).drop ((ji14) : Int).toNat = y182 from Ny182.out.symm] at hr25
             replace hr25 : Kd.C k71 _ A25 y182.length y182 := (by rw [hA25]; exact hr25)
             rw [← hy25,← hA25,← hc25] at hcut25
             have HR185 := Aside0.mk hr25
             have HC185 := Aside0.mk (show y182.length ≤ c25 from by rw [hy25,hc25]; exact Nat.sub_le_sub_right hroom25 _)
             clear hr25 hC25 hroom25 hi025 hsz25 hc25
             have KY25 := Aside0.mk hy25
             have KA25 := Aside0.mk hA25
             clear hy25 hA25
             replace q25 := eq_true q25
             try go_wp2
             have n0_ := Aside0.mk (blk_drew BK174.out)
             have n1_ := Aside0.mk (blk_drew BK175.out)
             have n2_ := Aside0.mk (below_drew1 HB.out)
             clear BK174
             clear BK175
             clear HB
             have BK174 := n0_
             have BK175 := n1_
             have HB := n2_
             clear n0_ n1_ n2_
             have q27 : (x7_1 : Int) ≤ ((l0_0.length : Int) : Int) := of_decide_eq_true (by first | (with_reducible assumption) | assumption)
             obtain ⟨i027,hi027,_,hsz27,_⟩ := info_parts info71
             have hroom27 : l0_0.length ≤ c0_0 := HC0_0.out
             have hC27 : Kd.C k71 _ (some ad176) l0_0.length l0_0 := HR0_0.out
             have hcut27 := cut_to (P:=Try.prog) 26 71 .i64 Try.underlying26 hi027 (some ad176) l0_0.length c0_0 x7_1 (of_decide_eq_true (by first | (with_reducible assumption) | assumption)) q27 hroom27
             have hr27 := Kd.C_take (m:=(x7_1 : Int).toNat) hC27 (by omega)
             have hy27 : y189.length = (x7_1 : Int).toNat := (by rw [Ny189.out,List.length_take]; omega)
             rw [← Ny189.out] at hr27
             rw [← hy27] at hcut27
             have HR192 := Aside0.mk hr27
             have HC192 := Aside0.mk (show y189.length ≤ c0_0 from by omega)
             clear hr27 hC27 hroom27 hi027 hsz27
             have KY27 := Aside0.mk hy27
             clear hy27
             replace q27 := eq_true q27
             refine start_ (n:=17) (S:=fun w' => w'.cell? ⟨gb174,0,none⟩ = some (.slice (some ad176) l0_0.length c0_0) ∧ w'.cell? ⟨gb174,1,none⟩ = some (.int .i64 a0_1)) (ds := [16]) (bm 17 0) (by kernel_rfl) rfl rfl ⟨(blk_cell BK174.out 0).trans rfl,(blk_cell BK174.out 1).trans rfl⟩ (fun hHeld => ?_); refine with_tabW spec_l01Set.tab7 spec_l01Set.bits7 (fun HT_ HW_ => ?_)
             generalize wr.drew = w26 at BK174 BK175 HB HR192 hHeld ⊢
             refine pV_ 1 51 (bm 17 2) HT_.out ?_
             refine pV_ 3 53 (bm 17 10) HT_.out ?_
             refine pV_ 6 56 (bm 17 74) HT_.out ?_
             refine pV_ 7 57 (bm 17 202) HT_.out ?_
             refine pV_ 9 59 (bm 17 714) HT_.out ?_
             refine pV_ 13 63 (bm 17 8906) HT_.out ?_
             refine take_ (i:=2) (N:=some 52) (v:=?_) (a':=?_) (bm 17 8910) rfl rfl (take_ofW HT_.out HW_.out (by kernel_rfl)) (fun _ _ _ h => h) (Or.inl ⟨by rfl,?_⟩) hHeld ?_ ?_
             rotate_left
             ·rintro w' ⟨s0,s1⟩
              go_simp
              with_reducible rfl
             rotate_left
             ·simp only [Act.put,setIfInBounds_toArray,set_cons_zero,set_cons_succ,i64_w,i32_w]
              rfl
             refine pV_ 4 54 (bm 17 8926) HT_.out ?_
             refine take_ (i:=8) (N:=some 58) (v:=?_) (a':=?_) (bm 17 9182) rfl rfl (take_ofW HT_.out HW_.out (by kernel_rfl)) (fun _ _ _ h => h) (Or.inl ⟨by rfl,?_⟩) hHeld ?_ ?_
             rotate_left
             ·rintro w' ⟨s0,s1⟩
              go_simp
              with_reducible rfl
             rotate_left
             ·simp only [Act.put,setIfInBounds_toArray,set_cons_zero,set_cons_succ,i64_w,i32_w]
              rfl
             refine pV_ 10 60 (bm 17 10206) HT_.out ?_
             refine join_ (σ := Value × Value × Value) 4 (bm 17 12287) (fun s_ => [(50,s_.1),(55,s_.2.1),(61,s_.2.2)]) (fun s_ w' => (w'.cell? ⟨gb174,0,none⟩ = some (.slice (some ad176) l0_0.length c0_0) ∧ w'.cell? ⟨gb174,1,none⟩ = some (.int .i64 a0_1)) ∧ (Kd.R k71 71 w' w.heap.size (fun k_ => some k_ ≠ (s_.2.2 : Value).ownBlock) s_.2.1 y193) ∧ (Kd.R k71 71 w' w.heap.size (fun k_ => some k_ ≠ (s_.2.1 : Value).ownBlock) s_.2.2 y196) ∧ (w'.heap[gb174]? = some (.cells #[.slice (some ad176) l0_0.length c0_0,.int .i64 a0_1] 28 (0,0))) ∧ (w'.heap[gb175]? = some (.cells #[.slice none 0 0,.int .i64 0] 28 (0,0))) ∧ (Below w.heap.size w w')) ?_ ?_
             rotate_left
             ·intro hCont
              refine two_ (i:=0) (j:=11) (Ni := some 50) (Nj := some 61) (bm 17 10207) (bm 17 12254) rfl rfl rfl rfl (two_of HT_.out (by kernel_rfl)) (by decide) (by decide) (fun K hK => ?_) (fun K hK => ?_)
              ·skip
               refine Kd.R_lit_step k71 _ 71 ?hg (N:=50) ?hd (xs := ([] : List (S71))) (inner := []) (ok := fun _ => True) (okp := fun _ => True) ?hr ?hp (fun _ hk => hk) trivial (Below.refl _ _) (Nat.le_refl _) (by simp) ?_; (case hd => rfl); (case hg => rfl); (case hr => first | (go_simp; done) | (go_simp; rfl)); (case hp => exact (Reps.none _ _))
               intro v187 w28 ho29 hb hg_ hnew_
               clear hg_ hnew_
               (first | rw [← Ny186.out] at ho29 | (simp only [Int.reduceToNat] at ho29; rw [← Ny186.out] at ho29))
               have n0_ := Aside0.mk (Kd.R_lower ho29 (below_size bA))
               have n1_ := Aside0.mk (blk_below (g:=gb174) (o:=.cells #[.slice (some ad176) l0_0.length c0_0,.int .i64 a0_1] 28 (0,0)) (kA BK174.out) hb)
               have n2_ := Aside0.mk (blk_below (g:=gb175) (o:=.cells #[.slice none 0 0,.int .i64 0] 28 (0,0)) (kA BK175.out) hb)
               have n3_ := Aside0.mk (below_step bA hb)
               clear BK174
               clear BK175
               clear HB
               have HO188 := n0_
               have BK174 := n1_
               have BK175 := n2_
               have HB := n3_
               clear n0_ n1_ n2_ n3_
               clear hb ho29
               refine hK.out _ _ ⟨(blk_cell BK174.out 0).trans rfl,(blk_cell BK174.out 1).trans rfl⟩ (fun hHeld => ?_)
               clear hK K
               refine norm_ (a':=?_) ?_ ?_
               rotate_left
               ·show Act.put _ (some 50) _ = _
                simp only [Act.put,setIfInBounds_toArray,set_cons_zero,set_cons_succ,i64_w,i32_w]
                rfl
               refine two_ (i:=5) (j:=11) (Ni := some 55) (Nj := some 61) (bm 17 10239) (bm 17 12255) rfl rfl rfl rfl (two_of HT_.out (by kernel_rfl)) (by decide) (by decide) (fun K hK => ?_) (fun K hK => ?_)
               ·skip
                refine Kd.R_append_rows_step k71 (w0 := w) w.heap.size (by rfl) (.tmp 50) (.tmp 54) 26 71 (.agg #[(.string ⟨#[]⟩),(.int .i64 0),(.string ⟨#[]⟩)]) 40 rfl Try.underlying26 info71 rfl (by decide) (by omega) v187 y186 y189 _ _ _ (fun _ => True) (fun _ => False) rfl rfl ?aO ?aR (fun _ _ h => h) (fun _ h => h.elim) ?aF ?aB ?aS ?aL ?_
                (case aR => repeat (first | exact (Kd.C_below HR192.out HB.out) | (with_reducible refine Kd.C_alloc ?_ _) | (with_reducible refine Kd.C_drewN ?_ _) | (with_reducible refine Kd.C_drew ?_)))
                (case aB => exact bA)
                (case aF => exact (fun _ _ => trivial))
                (case aO => exact (rA HO188.out))
                (case aS => exact (below_size bA))
                (case aL => have := LMc19.out; omega)
                intro v194 w30 ho hb hg hat
                rw [← Ny193.out] at ho
                have n0_ := Aside0.mk (blk_grown (g:=gb174) (o:=.cells #[.slice (some ad176) l0_0.length c0_0,.int .i64 a0_1] 28 (0,0)) (kA BK174.out) hg (Kd.R_ne HO188.out BK174.out (by decide)))
                have n1_ := Aside0.mk (blk_grown (g:=gb175) (o:=.cells #[.slice none 0 0,.int .i64 0] 28 (0,0)) (kA BK175.out) hg (Kd.R_ne HO188.out BK175.out (by decide)))
                have n2_ := Aside0.mk (hb)
                have n3_ := Aside0.mk (ho)
                clear BK174
                clear BK175
                clear HB
                clear HO188
                have BK174 := n0_
                have BK175 := n1_
                have HB := n2_
                have HO195 := n3_
                clear n0_ n1_ n2_ n3_
                clear ho hb hg hat
                refine hK.out _ _ ⟨(blk_cell BK174.out 0).trans rfl,(blk_cell BK174.out 1).trans rfl⟩ (fun hHeld => ?_)
                clear hK K
                refine norm_ (a':=?_) ?_ ?_
                rotate_left
                ·show Act.put _ (some 55) _ = _
                 simp only [Act.put,setIfInBounds_toArray,set_cons_zero,set_cons_succ,i64_w,i32_w]
                 rfl
                refine one_ (i:=11) (N:=some 61) (bm 17 12287) rfl rfl (one_of HT_.out (by kernel_rfl)) (by decide) (fun K hK => ?_)
                refine Kd.R_lit_step k71 _ 71 ?hg (N:=61) ?hd (xs := ([(⟨a1,a0_1,a2⟩ : S71)] : List (S71))) (inner := [.string a1,.int .i64 a0_1,.string a2]) (ok := fun _ => True) (okp := fun _ => True) ?hr ?hp (fun _ hk => hk) trivial (Below.refl _ _) (Nat.le_refl _) (by simp) ?_; (case hd => rfl); (case hg => rfl); (case hr => first | (go_simp; done) | (go_simp; rfl)); (case hp => exact (Reps.c3 (show Kd.M k71 _ _ _ (⟨a1,a0_1,a2⟩ : S71) [.string a1,.int .i64 a0_1,.string a2] from (k71_mkM _ _ _ (⟨a1,a0_1,a2⟩ : S71) )) (Reps.none _ _)))
                intro v197 w31 ho32 hb hg_ hnew_
                clear hg_ hnew_
                (first | rw [← Ny196.out] at ho32 | (simp only [Int.reduceToNat] at ho32; rw [← Ny196.out] at ho32))
                have n0_ := Aside0.mk (Kd.R_elder' (rA HO195.out) (Kd.R_base ho32) hb)
                have n1_ := Aside0.mk (Kd.R_lower (Kd.R_new' ho32 (Kd.R_lt (rA HO195.out))) (below_size bA))
                have n2_ := Aside0.mk (blk_below (g:=gb174) (o:=.cells #[.slice (some ad176) l0_0.length c0_0,.int .i64 a0_1] 28 (0,0)) (kA BK174.out) hb)
                have n3_ := Aside0.mk (blk_below (g:=gb175) (o:=.cells #[.slice none 0 0,.int .i64 0] 28 (0,0)) (kA BK175.out) hb)
                have n4_ := Aside0.mk (below_step bA hb)
                clear HO195
                clear BK174
                clear BK175
                clear HB
                have HO195 := n0_
                have HO198 := n1_
                have BK174 := n2_
                have BK175 := n3_
                have HB := n4_
                clear n0_ n1_ n2_ n3_ n4_
                clear hb ho32
                refine hK.out _ _ ⟨(blk_cell BK174.out 0).trans rfl,(blk_cell BK174.out 1).trans rfl⟩ (fun hHeld => ?_)
                clear hK K
                refine norm_ (a':=?_) ?_ ?_
                rotate_left
                ·show Act.put _ (some 61) _ = _
                 simp only [Act.put,setIfInBounds_toArray,set_cons_zero,set_cons_succ,i64_w,i32_w]
                 rfl
                exact norm_ (by simp only [putAll,Act.put,setIfInBounds_toArray,set_cons_zero,set_cons_succ]) (hCont (v187,v194,v197) _ ⟨hHeld,(by (with_reducible repeat (first | apply Kd.R_alloc | apply Kd.R_drewN | apply Kd.R_drew)); exact Kd.R_mono HO195.out (fun _ hk => hk.2)),(by (with_reducible repeat (first | apply Kd.R_alloc | apply Kd.R_drewN | apply Kd.R_drew)); exact Kd.R_mono HO198.out (fun _ hk => hk.2)),(kA BK174.out),(kA BK175.out),bA⟩)
               ·skip
                refine Kd.R_lit_step k71 _ 71 ?hg (N:=61) ?hd (xs := ([(⟨a1,a0_1,a2⟩ : S71)] : List (S71))) (inner := [.string a1,.int .i64 a0_1,.string a2]) (ok := fun _ => True) (okp := fun _ => True) ?hr ?hp (fun _ hk => hk) trivial (Below.refl _ _) (Nat.le_refl _) (by simp) ?_; (case hd => rfl); (case hg => rfl); (case hr => first | (go_simp; done) | (go_simp; rfl)); (case hp => exact (Reps.c3 (show Kd.M k71 _ _ _ (⟨a1,a0_1,a2⟩ : S71) [.string a1,.int .i64 a0_1,.string a2] from (k71_mkM _ _ _ (⟨a1,a0_1,a2⟩ : S71) )) (Reps.none _ _)))
                intro v197 w30 ho31 hb hg_ hnew_
                clear hg_ hnew_
                (first | rw [← Ny196.out] at ho31 | (simp only [Int.reduceToNat] at ho31; rw [← Ny196.out] at ho31))
                have n0_ := Aside0.mk (Kd.R_elder' (rA HO188.out) (Kd.R_base ho31) hb)
                have n1_ := Aside0.mk (Kd.R_lower (Kd.R_new' ho31 (Kd.R_lt (rA HO188.out))) (below_size bA))
                have n2_ := Aside0.mk (blk_below (g:=gb174) (o:=.cells #[.slice (some ad176) l0_0.length c0_0,.int .i64 a0_1] 28 (0,0)) (kA BK174.out) hb)
                have n3_ := Aside0.mk (blk_below (g:=gb175) (o:=.cells #[.slice none 0 0,.int .i64 0] 28 (0,0)) (kA BK175.out) hb)
                have n4_ := Aside0.mk (below_step bA hb)
                clear HO188
                clear BK174
                clear BK175
                clear HB
                have HO188 := n0_
                have HO198 := n1_
                have BK174 := n2_
                have BK175 := n3_
                have HB := n4_
                clear n0_ n1_ n2_ n3_ n4_
                clear hb ho31
                refine hK.out _ _ ⟨(blk_cell BK174.out 0).trans rfl,(blk_cell BK174.out 1).trans rfl⟩ (fun hHeld => ?_)
                clear hK K
                refine norm_ (a':=?_) ?_ ?_
                rotate_left
                ·show Act.put _ (some 61) _ = _
                 simp only [Act.put,setIfInBounds_toArray,set_cons_zero,set_cons_succ,i64_w,i32_w]
                 rfl
                refine one_ (i:=5) (N:=some 55) (bm 17 12287) rfl rfl (one_of HT_.out (by kernel_rfl)) (by decide) (fun K hK => ?_)
                refine Kd.R_append_rows_step k71 (w0 := w) w.heap.size (by rfl) (.tmp 50) (.tmp 54) 26 71 (.agg #[(.string ⟨#[]⟩),(.int .i64 0),(.string ⟨#[]⟩)]) 40 rfl Try.underlying26 info71 rfl (by decide) (by omega) v187 y186 y189 _ _ _ (fun k_ => some k_ ≠ (v197 : Value).ownBlock) (fun _ => False) rfl rfl ?aO ?aR (fun _ _ h => h) (fun _ h => h.elim) ?aF ?aB ?aS ?aL ?_
                (case aR => repeat (first | exact (Kd.C_below HR192.out HB.out) | (with_reducible refine Kd.C_alloc ?_ _) | (with_reducible refine Kd.C_drewN ?_ _) | (with_reducible refine Kd.C_drew ?_)))
                (case aB => exact bA)
                (case aF => exact (fun k_ hk => Kd.fresh' (Kd.R_lt (rA HO198.out)) k_ hk))
                (case aO => exact (by (with_reducible repeat (first | apply Kd.R_alloc | apply Kd.R_drewN | apply Kd.R_drew)); exact Kd.R_mono HO188.out (fun _ hk => hk.2)))
                (case aS => exact (below_size bA))
                (case aL => have := LMc19.out; omega)
                intro v194 w32 ho hb hg hat
                rw [← Ny193.out] at ho
                have n0_ := Aside0.mk (blk_grown (g:=gb174) (o:=.cells #[.slice (some ad176) l0_0.length c0_0,.int .i64 a0_1] 28 (0,0)) (kA BK174.out) hg (Kd.R_ne HO188.out BK174.out (by decide)))
                have n1_ := Aside0.mk (blk_grown (g:=gb175) (o:=.cells #[.slice none 0 0,.int .i64 0] 28 (0,0)) (kA BK175.out) hg (Kd.R_ne HO188.out BK175.out (by decide)))
                have n2_ := Aside0.mk (Kd.R_after (ok := (fun _ => True)) (rA HO198.out) hg hat)
                have n3_ := Aside0.mk (hb)
                have n4_ := Aside0.mk (ho)
                clear BK174
                clear BK175
                clear HO198
                clear HB
                clear HO188
                have BK174 := n0_
                have BK175 := n1_
                have HO198 := n2_
                have HB := n3_
                have HO195 := n4_
                clear n0_ n1_ n2_ n3_ n4_
                clear ho hb hg hat
                refine hK.out _ _ ⟨(blk_cell BK174.out 0).trans rfl,(blk_cell BK174.out 1).trans rfl⟩ (fun hHeld => ?_)
                clear hK K
                refine norm_ (a':=?_) ?_ ?_
                rotate_left
                ·show Act.put _ (some 55) _ = _
                 simp only [Act.put,setIfInBounds_toArray,set_cons_zero,set_cons_succ,i64_w,i32_w]
                 rfl
                exact norm_ (by simp only [putAll,Act.put,setIfInBounds_toArray,set_cons_zero,set_cons_succ]) (hCont (v187,v194,v197) _ ⟨hHeld,(rA HO195.out),(by (with_reducible repeat (first | apply Kd.R_alloc | apply Kd.R_drewN | apply Kd.R_drew)); exact Kd.R_mono HO198.out (fun _ hk => hk.2)),(kA BK174.out),(kA BK175.out),bA⟩)
              ·skip
               refine Kd.R_lit_step k71 _ 71 ?hg (N:=61) ?hd (xs := ([(⟨a1,a0_1,a2⟩ : S71)] : List (S71))) (inner := [.string a1,.int .i64 a0_1,.string a2]) (ok := fun _ => True) (okp := fun _ => True) ?hr ?hp (fun _ hk => hk) trivial (Below.refl _ _) (Nat.le_refl _) (by simp) ?_; (case hd => rfl); (case hg => rfl); (case hr => first | (go_simp; done) | (go_simp; rfl)); (case hp => exact (Reps.c3 (show Kd.M k71 _ _ _ (⟨a1,a0_1,a2⟩ : S71) [.string a1,.int .i64 a0_1,.string a2] from (k71_mkM _ _ _ (⟨a1,a0_1,a2⟩ : S71) )) (Reps.none _ _)))
               intro v197 w28 ho29 hb hg_ hnew_
               clear hg_ hnew_
               (first | rw [← Ny196.out] at ho29 | (simp only [Int.reduceToNat] at ho29; rw [← Ny196.out] at ho29))
               have n0_ := Aside0.mk (Kd.R_lower ho29 (below_size bA))
               have n1_ := Aside0.mk (blk_below (g:=gb174) (o:=.cells #[.slice (some ad176) l0_0.length c0_0,.int .i64 a0_1] 28 (0,0)) (kA BK174.out) hb)
               have n2_ := Aside0.mk (blk_below (g:=gb175) (o:=.cells #[.slice none 0 0,.int .i64 0] 28 (0,0)) (kA BK175.out) hb)
               have n3_ := Aside0.mk (below_step bA hb)
               clear BK174
               clear BK175
               clear HB
               have HO198 := n0_
               have BK174 := n1_
               have BK175 := n2_
               have HB := n3_
               clear n0_ n1_ n2_ n3_
               clear hb ho29
               refine hK.out _ _ ⟨(blk_cell BK174.out 0).trans rfl,(blk_cell BK174.out 1).trans rfl⟩ (fun hHeld => ?_)
               clear hK K
               refine norm_ (a':=?_) ?_ ?_
               rotate_left
               ·show Act.put _ (some 61) _ = _
                simp only [Act.put,setIfInBounds_toArray,set_cons_zero,set_cons_succ,i64_w,i32_w]
                rfl
               refine one_ (i:=0) (N:=some 50) (bm 17 12255) rfl rfl (one_of HT_.out (by kernel_rfl)) (by decide) (fun K hK => ?_)
               refine Kd.R_lit_step k71 _ 71 ?hg (N:=50) ?hd (xs := ([] : List (S71))) (inner := []) (ok := fun _ => True) (okp := fun _ => True) ?hr ?hp (fun _ hk => hk) trivial (Below.refl _ _) (Nat.le_refl _) (by simp) ?_; (case hd => rfl); (case hg => rfl); (case hr => first | (go_simp; done) | (go_simp; rfl)); (case hp => exact (Reps.none _ _))
               intro v187 w30 ho31 hb hg_ hnew_
               clear hg_ hnew_
               (first | rw [← Ny186.out] at ho31 | (simp only [Int.reduceToNat] at ho31; rw [← Ny186.out] at ho31))
               have n0_ := Aside0.mk (Kd.R_elder' (rA HO198.out) (Kd.R_base ho31) hb)
               have n1_ := Aside0.mk (Kd.R_lower (Kd.R_new' ho31 (Kd.R_lt (rA HO198.out))) (below_size bA))
               have n2_ := Aside0.mk (blk_below (g:=gb174) (o:=.cells #[.slice (some ad176) l0_0.length c0_0,.int .i64 a0_1] 28 (0,0)) (kA BK174.out) hb)
               have n3_ := Aside0.mk (blk_below (g:=gb175) (o:=.cells #[.slice none 0 0,.int .i64 0] 28 (0,0)) (kA BK175.out) hb)
               have n4_ := Aside0.mk (below_step bA hb)
               clear HO198
               clear BK174
               clear BK175
               clear HB
               have HO198 := n0_
               have HO188 := n1_
               have BK174 := n2_
               have BK175 := n3_
               have HB := n4_
               clear n0_ n1_ n2_ n3_ n4_
               clear hb ho31
               refine hK.out _ _ ⟨(blk_cell BK174.out 0).trans rfl,(blk_cell BK174.out 1).trans rfl⟩ (fun hHeld => ?_)
               clear hK K
               refine norm_ (a':=?_) ?_ ?_
               rotate_left
               ·show Act.put _ (some 50) _ = _
                simp only [Act.put,setIfInBounds_toArray,set_cons_zero,set_cons_succ,i64_w,i32_w]
                rfl
               refine one_ (i:=5) (N:=some 55) (bm 17 12287) rfl rfl (one_of HT_.out (by kernel_rfl)) (by decide) (fun K hK => ?_)
               refine Kd.R_append_rows_step k71 (w0 := w) w.heap.size (by rfl) (.tmp 50) (.tmp 54) 26 71 (.agg #[(.string ⟨#[]⟩),(.int .i64 0),(.string ⟨#[]⟩)]) 40 rfl Try.underlying26 info71 rfl (by decide) (by omega) v187 y186 y189 _ _ _ (fun k_ => some k_ ≠ (v197 : Value).ownBlock) (fun _ => False) rfl rfl ?aO ?aR (fun _ _ h => h) (fun _ h => h.elim) ?aF ?aB ?aS ?aL ?_
               (case aR => repeat (first | exact (Kd.C_below HR192.out HB.out) | (with_reducible refine Kd.C_alloc ?_ _) | (with_reducible refine Kd.C_drewN ?_ _) | (with_reducible refine Kd.C_drew ?_)))
               (case aB => exact bA)
               (case aF => exact (fun k_ hk => Kd.fresh' (Kd.R_lt (rA HO198.out)) k_ hk))
               (case aO => exact (by (with_reducible repeat (first | apply Kd.R_alloc | apply Kd.R_drewN | apply Kd.R_drew)); exact Kd.R_mono HO188.out (fun _ hk => hk.2)))
               (case aS => exact (below_size bA))
               (case aL => have := LMc19.out; omega)
               intro v194 w32 ho hb hg hat
               rw [← Ny193.out] at ho
               have n0_ := Aside0.mk (blk_grown (g:=gb174) (o:=.cells #[.slice (some ad176) l0_0.length c0_0,.int .i64 a0_1] 28 (0,0)) (kA BK174.out) hg (Kd.R_ne HO188.out BK174.out (by decide)))
               have n1_ := Aside0.mk (blk_grown (g:=gb175) (o:=.cells #[.slice none 0 0,.int .i64 0] 28 (0,0)) (kA BK175.out) hg (Kd.R_ne HO188.out BK175.out (by decide)))
               have n2_ := Aside0.mk (Kd.R_after (ok := (fun _ => True)) (rA HO198.out) hg hat)
               have n3_ := Aside0.mk (hb)
               have n4_ := Aside0.mk (ho)
               clear BK174
               clear BK175
               clear HO198
               clear HB
               clear HO188
               have BK174 := n0_
               have BK175 := n1_
               have HO198 := n2_
               have HB := n3_
               have HO195 := n4_
               clear n0_ n1_ n2_ n3_ n4_
               clear ho hb hg hat
               refine hK.out _ _ ⟨(blk_cell BK174.out 0).trans rfl,(blk_cell BK174.out 1).trans rfl⟩ (fun hHeld => ?_)
               clear hK K
               refine norm_ (a':=?_) ?_ ?_
               rotate_left
               ·show Act.put _ (some 55) _ = _
                simp only [Act.put,setIfInBounds_toArray,set_cons_zero,set_cons_succ,i64_w,i32_w]
                rfl
               exact norm_ (by simp only [putAll,Act.put,setIfInBounds_toArray,set_cons_zero,set_cons_succ]) (hCont (v187,v194,v197) _ ⟨hHeld,(rA HO195.out),(by (with_reducible repeat (first | apply Kd.R_alloc | apply Kd.R_drewN | apply Kd.R_drew)); exact Kd.R_mono HO198.out (fun _ hk => hk.2)),(kA BK174.out),(kA BK175.out),bA⟩)
             rintro ⟨v187,v194,v197⟩ w33 ⟨hS_,h0_,h1_,h2_,h3_,h4_⟩
             have n0_ : Aside0 (Kd.R k71 71 w33 w.heap.size (fun k_ => some k_ ≠ (v197 : Value).ownBlock) v194 y193) := ⟨h0_⟩
             have n1_ : Aside0 (Kd.R k71 71 w33 w.heap.size (fun k_ => some k_ ≠ (v194 : Value).ownBlock) v197 y196) := ⟨h1_⟩
             have n2_ : Aside0 (w33.heap[gb174]? = some (.cells #[.slice (some ad176) l0_0.length c0_0,.int .i64 a0_1] 28 (0,0))) := ⟨h2_⟩
             have n3_ : Aside0 (w33.heap[gb175]? = some (.cells #[.slice none 0 0,.int .i64 0] 28 (0,0))) := ⟨h3_⟩
             have n4_ : Aside0 (Below w.heap.size w w33) := ⟨h4_⟩
             clear BK174
             clear BK175
             clear HB
             clear h0_ h1_ h2_ h3_ h4_
             have HO195 := n0_
             have HO198 := n1_
             have BK174 := n2_
             have BK175 := n3_
             have HB := n4_
             clear n0_ n1_ n2_ n3_ n4_
             have hHeld : w33.cell? ⟨gb174,0,none⟩ = some (.slice (some ad176) l0_0.length c0_0) ∧ w33.cell? ⟨gb174,1,none⟩ = some (.int .i64 a0_1) := hS_
             obtain ⟨Ao35,co35,eo35⟩ := Kd.R_slice HO198.out
             (first | subst eo35 | (injection eo35 with f1_ f2_ f3_; have f4_ := f1_.symm; have f5_ := f3_.symm; clear f1_ f2_ f3_; subst f4_; subst f5_))
             refine norm_ (a':=?_) ?_ ?_
             rotate_left
             ·simp only [putAll,Act.put,setIfInBounds_toArray,set_cons_zero,set_cons_succ]
              rfl
             refine one_ (i:=12) (N:=some 62) (bm 17 16383) rfl rfl (one_of HT_.out (by kernel_rfl)) (by decide) (fun K hK => ?_)
             refine Kd.R_append_rows_step k71 (w0 := w) w.heap.size (by rfl) (.tmp 55) (.tmp 61) 26 71 (.agg #[(.string ⟨#[]⟩),(.int .i64 0),(.string ⟨#[]⟩)]) 40 rfl Try.underlying26 info71 rfl (by decide) (by omega) v194 y193 y196 _ _ _ (fun k_ => some k_ ≠ (.slice Ao35 y196.length co35 : Value).ownBlock) (fun _ => False) rfl rfl ?aO ?aR (fun _ _ h => h) (fun _ h => h.elim) ?aF ?aB ?aS ?aL ?_
             (case aR => repeat (first | exact (Kd.R_reads' HO198.out).2.2 | (with_reducible refine Kd.C_alloc ?_ _) | (with_reducible refine Kd.C_drewN ?_ _) | (with_reducible refine Kd.C_drew ?_)))
             (case aB => exact bA)
             (case aF => exact (fun k_ hk => Kd.fresh' (Kd.R_lt (rA HO198.out)) k_ hk))
             (case aO => exact (rA HO195.out))
             (case aS => exact (below_size bA))
             (case aL => have := LMc20.out; omega)
             intro v200 w34 ho hb hg hat
             rw [← Ny199.out] at ho
             have n0_ := Aside0.mk (blk_grown (g:=gb174) (o:=.cells #[.slice (some ad176) l0_0.length c0_0,.int .i64 a0_1] 28 (0,0)) (kA BK174.out) hg (Kd.R_ne HO195.out BK174.out (by decide)))
             have n1_ := Aside0.mk (blk_grown (g:=gb175) (o:=.cells #[.slice none 0 0,.int .i64 0] 28 (0,0)) (kA BK175.out) hg (Kd.R_ne HO195.out BK175.out (by decide)))
             have n2_ := Aside0.mk (Kd.R_after (ok := (fun _ => True)) (by (with_reducible repeat (first | apply Kd.R_alloc | apply Kd.R_drewN | apply Kd.R_drew)); exact Kd.R_mono HO198.out (fun _ hk => ⟨trivial,hk⟩)) hg hat)
             have n3_ := Aside0.mk (hb)
             have n4_ := Aside0.mk (ho)
             clear BK174
             clear BK175
             clear HO198
             clear HB
             clear HO195
             have BK174 := n0_
             have BK175 := n1_
             have HO198 := n2_
             have HB := n3_
             have HO201 := n4_
             clear n0_ n1_ n2_ n3_ n4_
             clear ho hb hg hat
             refine hK.out _ _ ⟨(blk_cell BK174.out 0).trans rfl,(blk_cell BK174.out 1).trans rfl⟩ (fun hHeld => ?_)
             clear hK K
             refine norm_ (a':=?_) ?_ ?_
             rotate_left
             ·show Act.put _ (some 62) _ = _
              simp only [Act.put,setIfInBounds_toArray,set_cons_zero,set_cons_succ,i64_w,i32_w]
              rfl
             refine one_ (i:=14) (N:=some 64) (bm 17 32767) rfl rfl (one_of HT_.out (by kernel_rfl)) (by decide) (fun K hK => ?_)
             refine Kd.R_append_rows_step k71 (w0 := w) w.heap.size (by rfl) (.tmp 62) (.tmp 63) 26 71 (.agg #[(.string ⟨#[]⟩),(.int .i64 0),(.string ⟨#[]⟩)]) 40 rfl Try.underlying26 info71 rfl (by decide) (by omega) v200 y199 y182 _ _ _ (fun k_ => some k_ ≠ (.slice Ao35 y196.length co35 : Value).ownBlock) (fun _ => False) rfl rfl ?aO ?aR (fun _ _ h => h) (fun _ h => h.elim) ?aF ?aB ?aS ?aL ?_
             (case aR => repeat (first | exact (Kd.C_below HR185.out HB.out) | (with_reducible refine Kd.C_alloc ?_ _) | (with_reducible refine Kd.C_drewN ?_ _) | (with_reducible refine Kd.C_drew ?_)))
             (case aB => exact bA)
             (case aF => exact (fun k_ hk => Kd.fresh' (Kd.R_lt (rA HO198.out)) k_ hk))
             (case aO => exact (rA HO201.out))
             (case aS => exact (below_size bA))
             (case aL => have := LMc21.out; omega)
             intro v203 w36 ho hb hg hat
             rw [← Ny202.out] at ho
             have n0_ := Aside0.mk (blk_grown (g:=gb174) (o:=.cells #[.slice (some ad176) l0_0.length c0_0,.int .i64 a0_1] 28 (0,0)) (kA BK174.out) hg (Kd.R_ne HO201.out BK174.out (by decide)))
             have n1_ := Aside0.mk (blk_grown (g:=gb175) (o:=.cells #[.slice none 0 0,.int .i64 0] 28 (0,0)) (kA BK175.out) hg (Kd.R_ne HO201.out BK175.out (by decide)))
             have n2_ := Aside0.mk (Kd.R_after (ok := (fun _ => True)) (rA HO198.out) hg hat)
             have n3_ := Aside0.mk (hb)
             have n4_ := Aside0.mk (ho)
             clear BK174
             clear BK175
             clear HO198
             clear HB
             clear HO201
             have BK174 := n0_
             have BK175 := n1_
             have HO198 := n2_
             have HB := n3_
             have HO204 := n4_
             clear n0_ n1_ n2_ n3_ n4_
             clear ho hb hg hat
             obtain ⟨Ao37,co37,eo37⟩ := Kd.R_slice HO204.out
             (first | subst eo37 | (injection eo37 with f1_ f2_ f3_; have f4_ := f1_.symm; have f5_ := f3_.symm; clear f1_ f2_ f3_; subst f4_; subst f5_))
             refine hK.out _ _ ⟨(blk_cell BK174.out 0).trans rfl,(blk_cell BK174.out 1).trans rfl⟩ (fun hHeld => ?_)
             clear hK K
             refine norm_ (a':=?_) ?_ ?_
             rotate_left
             ·show Act.put _ (some 64) _ = _
              simp only [Act.put,setIfInBounds_toArray,set_cons_zero,set_cons_succ,i64_w,i32_w]
              rfl
             refine pV_ 15 65 (bm 17 65535) HT_.out ?_
             refine last_ (i:=16) (N:=none) (bm 17 131071) rfl rfl (one_of HT_.out (by kernel_rfl)) (by decide) (fun K hK => ?_)
             have hs38 : w36.cell? ⟨gb174,0,none⟩ = some (.slice (some ad176) l0_0.length c0_0) := (blk_cell BK174.out 0).trans rfl
             have hfs38 := blk_frozen BK174.out 0
             have hns38_1 := NB175_174.out
             have hms38_1 := NB174_175.out
             refine skip_ (w1 := ?_) (by rfl) rfl ?_ ?_
             rotate_left
             ·go_simp
              rfl
             refine hK.out _ _ ?_
             clear hK K
             refine done_ (done_of HT_.out (by kernel_rfl)) ?_
             have hcz39_0 : w36.cell? ⟨gb174,0,none⟩ = some (.slice (some ad176) l0_0.length c0_0) := (blk_cell BK174.out 0).trans rfl
             have hcz39_1 : w36.cell? ⟨gb174,1,none⟩ = some (.int .i64 a0_1) := (blk_cell BK174.out 1).trans rfl
             have hfz39_0 := blk_frozen BK174.out 0
             have hfz39_1 := blk_frozen BK174.out 1
             have hcz40_0 : w36.cell? ⟨gb175,0,none⟩ = some (.slice none 0 0) := (blk_cell BK175.out 0).trans rfl
             have hcz40_1 : w36.cell? ⟨gb175,1,none⟩ = some (.int .i64 0) := (blk_cell BK175.out 1).trans rfl
             have hfz40_0 := blk_frozen BK175.out 0
             have hfz40_1 := blk_frozen BK175.out 1
             try go_wp2
             refine bodyPost_ret (results_cell_row rfl _ _ gb175 28 #[.slice Ao37 y202.length co37,.int .i64 (wrap64 (a0_1 + 1))] (0,0) _ rfl (by (with_reducible repeat (first | refine blk_drewN ?_ _ | refine blk_drew ?_ | refine blk_alloc ?_ _)); refine blk_put (cs := #[.slice Ao37 y202.length co37,.int .i64 0]) ?_ 1 _ rfl; (with_reducible repeat (first | refine blk_drewN ?_ _ | refine blk_drew ?_ | refine blk_alloc ?_ _)); refine blk_put (cs := #[.slice none 0 0,.int .i64 0]) ?_ 0 _ rfl; (with_reducible repeat (first | refine blk_drewN ?_ _ | refine blk_drew ?_ | refine blk_alloc ?_ _)); refine blk_far ?_ NB175_174.out _; (with_reducible repeat (first | refine blk_drewN ?_ _ | refine blk_drew ?_ | refine blk_alloc ?_ _)); refine blk_far ?_ NB175_174.out _; (with_reducible repeat (first | refine blk_drewN ?_ _ | refine blk_drew ?_ | refine blk_alloc ?_ _)); exact BK175.out) Try.underlying28 rfl (by kernel_rfl)) rfl ?_
             exact ⟨_,by first | rfl | (simp only [i64_w,i32_w] <;> rfl) | (simp [errW_none,errW_some] <;> rfl) | (simp only [← hji14]; first | rfl | (simp [errW_none,errW_some] <;> rfl)) | (simp [*,errW_none,errW_some] <;> rfl),by (with_reducible repeat (first | apply Kd.R_alloc | apply Kd.R_drewN | apply Kd.R_drew)); exact Kd.R_mono (Kd.R_far (p:=⟨gb175,1,none⟩) (Kd.R_far (p:=⟨gb175,0,none⟩) (Kd.R_far (p:=⟨gb174,1,none⟩) (Kd.R_far (p:=⟨gb174,0,none⟩) (Kd.R_types (Kd.R_types HO204.out BK174.out (by decide)) BK175.out (by decide)) (fun _ hk => hk.1.2) (.slice Ao37 y202.length co37)) (fun _ hk => hk.1.2) (.int .i64 (wrap64 (a0_1 + 1)))) (fun _ hk => hk.2) (.slice Ao37 y202.length co37)) (fun _ hk => hk.2) (.int .i64 (wrap64 (a0_1 + 1)))) (fun _ hk => trivial),bA⟩
            ·rw [if_neg c21] at H
             exact absurd H (by simp)
           ·rw [if_neg c20] at H
            exact absurd H (by simp)
          ·rw [if_neg c19] at H
           exact absurd H (by simp)
         ·rw [if_neg c16] at H
          exact absurd H (by simp)
        ·rw [if_neg c15] at H
         exact absurd H (by simp)
       ·rw [if_neg c13] at H
        have c13b0 : (((rd_T71 l0_0 x7_1).f0).toList == a1.toList) = false := beq_eq_false_iff_ne.mpr c13
        have c13b1 : (((rd_T71 l0_0 x7_1).f0).toList != a1.toList) = true := bne_iff_ne.mpr c13
        obtain ⟨y205,hy205⟩ : ∃ y_ : List (S71),y_ = (([] : List (S71))) := ⟨_,rfl⟩
        replace H : ((some (l0_0.take (x7_1 : Int).toNat : List (S71))).bind fun y208 => (if y205.length + y208.length < 3518437208883 then ((some (y205 ++ y208 : List (S71))).bind fun y212 => ((some (([(⟨a1,a0_1,a2⟩ : S71)] : List (S71)) : List (S71))).bind fun y215 => (if y212.length + y215.length < 3518437208883 then ((some (y212 ++ y215 : List (S71))).bind fun y218 => (if y218.length + y177.length < 3518437208883 then (some ((y218 ++ y177),wrap64 (a0_1 + 1))) else (none))) else (none)))) else (none))) = some (r1,r2) := by first | (rw [hy205]; with_reducible exact H) | (have H2_ := (Option.bind_some _ _).symm.trans H; rw [hy205]; with_reducible exact H2_) | (have H2_ := (Option.bind_some _ _).symm.trans H; with_reducible exact H2_) | with_reducible exact H | (rw [hy205]; exact H) | exact H
        have Ny205 := Aside0.mk hy205
        clear hy205
        have c41b0 := eq_true (of_decide_eq_true (by first | (with_reducible assumption) | assumption) : 0 ≤ x7_1)
        have c42b0 := eq_true (of_decide_eq_true (by first | (with_reducible assumption) | assumption) : x7_1 ≤ (l0_0.length : Int))
        obtain ⟨y208,hy208⟩ : ∃ y_ : List (S71),y_ = (l0_0.take (x7_1 : Int).toNat) := ⟨_,rfl⟩
        replace H : (if y205.length + y208.length < 3518437208883 then ((some (y205 ++ y208 : List (S71))).bind fun y212 => ((some (([(⟨a1,a0_1,a2⟩ : S71)] : List (S71)) : List (S71))).bind fun y215 => (if y212.length + y215.length < 3518437208883 then ((some (y212 ++ y215 : List (S71))).bind fun y218 => (if y218.length + y177.length < 3518437208883 then (some ((y218 ++ y177),wrap64 (a0_1 + 1))) else (none))) else (none)))) else (none)) = some (r1,r2) := by first | (rw [hy208]; with_reducible exact H) | (have H2_ := (Option.bind_some _ _).symm.trans H; rw [hy208]; with_reducible exact H2_) | (have H2_ := (Option.bind_some _ _).symm.trans H; with_reducible exact H2_) | with_reducible exact H | (rw [hy208]; exact H) | exact H
        have Ny208 := Aside0.mk hy208
        clear hy208
        by_cases c43 : y205.length + y208.length < 3518437208883
        ·rw [if_pos c43] at H
         have LMc43 := Aside0.mk c43
         clear c43
         obtain ⟨y212,hy212⟩ : ∃ y_ : List (S71),y_ = (y205 ++ y208) := ⟨_,rfl⟩
         replace H : ((some (([(⟨a1,a0_1,a2⟩ : S71)] : List (S71)) : List (S71))).bind fun y215 => (if y212.length + y215.length < 3518437208883 then ((some (y212 ++ y215 : List (S71))).bind fun y218 => (if y218.length + y177.length < 3518437208883 then (some ((y218 ++ y177),wrap64 (a0_1 + 1))) else (none))) else (none))) = some (r1,r2) := by first | (rw [hy212]; with_reducible exact H) | (have H2_ := (Option.bind_some _ _).symm.trans H; rw [hy212]; with_reducible exact H2_) | (have H2_ := (Option.bind_some _ _).symm.trans H; with_reducible exact H2_) | with_reducible exact H | (rw [hy212]; exact H) | exact H
         have Ny212 := Aside0.mk hy212
         clear hy212
         obtain ⟨y215,hy215⟩ : ∃ y_ : List (S71),y_ = (([(⟨a1,a0_1,a2⟩ : S71)] : List (S71))) := ⟨_,rfl⟩
         replace H : (if y212.length + y215.length < 3518437208883 then ((some (y212 ++ y215 : List (S71))).bind fun y218 => (if y218.length + y177.length < 3518437208883 then (some ((y218 ++ y177),wrap64 (a0_1 + 1))) else (none))) else (none)) = some (r1,r2) := by first | (rw [hy215]; with_reducible exact H) | (have H2_ := (Option.bind_some _ _).symm.trans H; rw [hy215]; with_reducible exact H2_) | (have H2_ := (Option.bind_some _ _).symm.trans H; with_reducible exact H2_) | with_reducible exact H | (rw [hy215]; exact H) | exact H
         have Ny215 := Aside0.mk hy215
         clear hy215
         by_cases c44 : y212.length + y215.length < 3518437208883
         ·rw [if_pos c44] at H
          have LMc44 := Aside0.mk c44
          clear c44
          obtain ⟨y218,hy218⟩ : ∃ y_ : List (S71),y_ = (y212 ++ y215) := ⟨_,rfl⟩
          replace H : (if y218.length + y177.length < 3518437208883 then (some ((y218 ++ y177),wrap64 (a0_1 + 1))) else (none)) = some (r1,r2) := by first | (rw [hy218]; with_reducible exact H) | (have H2_ := (Option.bind_some _ _).symm.trans H; rw [hy218]; with_reducible exact H2_) | (have H2_ := (Option.bind_some _ _).symm.trans H; with_reducible exact H2_) | with_reducible exact H | (rw [hy218]; exact H) | exact H
          have Ny218 := Aside0.mk hy218
          clear hy218
          by_cases c45 : y218.length + y177.length < 3518437208883
          ·rw [if_pos c45] at H
           have LMc45 := Aside0.mk c45
           clear c45
           obtain ⟨y221,hy221⟩ : ∃ y_ : List (S71),y_ = (y218 ++ y177) := ⟨_,rfl⟩
           replace H : (some (y221,wrap64 (a0_1 + 1))) = some (r1,r2) := by first | (rw [hy221]; with_reducible exact H) | (have H2_ := (Option.bind_some _ _).symm.trans H; rw [hy221]; with_reducible exact H2_) | (have H2_ := (Option.bind_some _ _).symm.trans H; with_reducible exact H2_) | with_reducible exact H | (rw [hy221]; exact H) | exact H
           have Ny221 := Aside0.mk hy221
           clear hy221
           simp only [Option.some.injEq,Prod.mk.injEq] at H
           obtain ⟨rfl,rfl⟩ := H
           have hnb46 := NB174_175.out
           have hnc46 := NB175_174.out
           have hcz47_0 : wr.cell? ⟨gb174,0,none⟩ = some (.slice A0_0 l0_0.length c0_0) := (blk_cell BK174.out 0).trans rfl
           have hcz47_1 : wr.cell? ⟨gb174,1,none⟩ = some (.int .i64 a0_1) := (blk_cell BK174.out 1).trans rfl
           have hfz47_0 := blk_frozen BK174.out 0
           have hfz47_1 := blk_frozen BK174.out 1
           have p176 : 0 ≤ (x7_1 : Int) := of_decide_eq_true (by first | (with_reducible assumption) | assumption)
           have q176 : x7_1 < (l0_0.length : Int) := of_decide_eq_true (by first | (with_reducible assumption) | assumption)
           obtain ⟨ad176,e176,hx176_0,hx176_1,hx176_2⟩ := at_T71 HR0_0.out x7_1 p176 q176
           cases e176
           replace hx176_0 := (HB.out.cell (World.block_lt_of_cell? w _ hx176_0)).trans hx176_0
           replace hx176_1 := (HB.out.cell (World.block_lt_of_cell? w _ hx176_1)).trans hx176_1
           replace hx176_2 := (HB.out.cell (World.block_lt_of_cell? w _ hx176_2)).trans hx176_2
           replace p176 := eq_true p176
           replace q176 := eq_true q176
           have q48 : (x7_1 : Int) ≤ ((l0_0.length : Int) : Int) := of_decide_eq_true (by first | (with_reducible assumption) | assumption)
           obtain ⟨i048,hi048,_,hsz48,_⟩ := info_parts info71
           have hroom48 : l0_0.length ≤ c0_0 := HC0_0.out
           have hC48 : Kd.C k71 _ (some ad176) l0_0.length l0_0 := HR0_0.out
           have q048 : (0 : Int) ≤ (x7_1 : Int) := of_decide_eq_true (by first | (with_reducible assumption) | assumption)
           have hcut48 := cut_from (P:=Try.prog) 26 71 .i64 Try.underlying26 hi048 3 hsz48 (some ad176) l0_0.length c0_0 x7_1 q048 q48
           have hr48 := Kd.C_drop (m:=(x7_1 : Int).toNat) (c:=c0_0) hC48 (by omega) hroom48
           obtain ⟨A48,hA48⟩ : ∃ A1,A1 = (if c0_0 = (x7_1 : Int).toNat then (some ad176) else ((some ad176) : Option Addr).map (·.add ((x7_1 : Int).toNat * 3))) := ⟨_,rfl⟩
           obtain ⟨c48,hc48⟩ : ∃ c1,c1 = c0_0 - (x7_1 : Int).toNat := ⟨_,rfl⟩
           have hy48 : y177.length = l0_0.length - (x7_1 : Int).toNat := (by rw [Ny177.out,List.length_drop] <;> omega)
           rw [show (l0_0).drop (x7_1 : Int).toNat = y177 from Ny177.out.symm] at hr48
           replace hr48 : Kd.C k71 _ A48 y177.length y177 := (by rw [hA48]; exact hr48)
           rw [← hy48,← hA48,← hc48] at hcut48
           have HR180 := Aside0.mk hr48
           have HC180 := Aside0.mk (show y177.length ≤ c48 from by rw [hy48,hc48]; exact Nat.sub_le_sub_right hroom48 _)
           clear hr48 hC48 hroom48 hi048 hsz48 hc48
           have KY48 := Aside0.mk hy48
           have KA48 := Aside0.mk hA48
           clear hy48 hA48
           replace q48 := eq_true q48
           have p181 : 0 ≤ (x7_1 : Int) := of_decide_eq_true (by first | (with_reducible assumption) | assumption)
           have q181 : x7_1 < (l0_0.length : Int) := of_decide_eq_true (by first | (with_reducible assumption) | assumption)
           obtain ⟨ad181,e181,hx181_0,hx181_1,hx181_2⟩ := at_T71 HR0_0.out x7_1 p181 q181
           obtain rfl : ad176 = ad181 := (by injection e181)
           replace hx181_0 := (HB.out.cell (World.block_lt_of_cell? w _ hx181_0)).trans hx181_0
           replace hx181_1 := (HB.out.cell (World.block_lt_of_cell? w _ hx181_1)).trans hx181_1
           replace hx181_2 := (HB.out.cell (World.block_lt_of_cell? w _ hx181_2)).trans hx181_2
           replace p181 := eq_true p181
           replace q181 := eq_true q181
           try go_wp2
           have n0_ := Aside0.mk (blk_drew BK174.out)
           have n1_ := Aside0.mk (blk_drew BK175.out)
           have n2_ := Aside0.mk (below_drew1 HB.out)
           clear BK174
           clear BK175
           clear HB
           have BK174 := n0_
           have BK175 := n1_
           have HB := n2_
           clear n0_ n1_ n2_
           have q50 : (x7_1 : Int) ≤ ((l0_0.length : Int) : Int) := of_decide_eq_true (by first | (with_reducible assumption) | assumption)
           obtain ⟨i050,hi050,_,hsz50,_⟩ := info_parts info71
           have hroom50 : l0_0.length ≤ c0_0 := HC0_0.out
           have hC50 : Kd.C k71 _ (some ad176) l0_0.length l0_0 := HR0_0.out
           have hcut50 := cut_to (P:=Try.prog) 26 71 .i64 Try.underlying26 hi050 (some ad176) l0_0.length c0_0 x7_1 (of_decide_eq_true (by first | (with_reducible assumption) | assumption)) q50 hroom50
           have hr50 := Kd.C_take (m:=(x7_1 : Int).toNat) hC50 (by omega)
           have hy50 : y208.length = (x7_1 : Int).toNat := (by rw [Ny208.out,List.length_take]; omega)
           rw [← Ny208.out] at hr50
           rw [← hy50] at hcut50
           have HR211 := Aside0.mk hr50
           have HC211 := Aside0.mk (show y208.length ≤ c0_0 from by omega)
           clear hr50 hC50 hroom50 hi050 hsz50
           have KY50 := Aside0.mk hy50
           clear hy50
           replace q50 := eq_true q50
           refine start_ (n:=17) (S:=fun w' => w'.cell? ⟨gb174,0,none⟩ = some (.slice (some ad176) l0_0.length c0_0) ∧ w'.cell? ⟨gb174,1,none⟩ = some (.int .i64 a0_1)) (ds := [16]) (bm 17 0) (by kernel_rfl) rfl rfl ⟨(blk_cell BK174.out 0).trans rfl,(blk_cell BK174.out 1).trans rfl⟩ (fun hHeld => ?_); refine with_tabW spec_l01Set.tab7 spec_l01Set.bits7 (fun HT_ HW_ => ?_)
           generalize wr.drew = w49 at BK174 BK175 HB HR211 hHeld ⊢
           refine pV_ 1 51 (bm 17 2) HT_.out ?_
           refine pV_ 3 53 (bm 17 10) HT_.out ?_
           refine pV_ 6 56 (bm 17 74) HT_.out ?_
           refine pV_ 7 57 (bm 17 202) HT_.out ?_
           refine pV_ 9 59 (bm 17 714) HT_.out ?_
           refine pV_ 13 63 (bm 17 8906) HT_.out ?_
           refine take_ (i:=2) (N:=some 52) (v:=?_) (a':=?_) (bm 17 8910) rfl rfl (take_ofW HT_.out HW_.out (by kernel_rfl)) (fun _ _ _ h => h) (Or.inl ⟨by rfl,?_⟩) hHeld ?_ ?_
           rotate_left
           ·rintro w' ⟨s0,s1⟩
            go_simp
            with_reducible rfl
           rotate_left
           ·simp only [Act.put,setIfInBounds_toArray,set_cons_zero,set_cons_succ,i64_w,i32_w]
            rfl
           refine pV_ 4 54 (bm 17 8926) HT_.out ?_
           refine take_ (i:=8) (N:=some 58) (v:=?_) (a':=?_) (bm 17 9182) rfl rfl (take_ofW HT_.out HW_.out (by kernel_rfl)) (fun _ _ _ h => h) (Or.inl ⟨by rfl,?_⟩) hHeld ?_ ?_
           rotate_left
           ·rintro w' ⟨s0,s1⟩
            go_simp
            with_reducible rfl
           rotate_left
           ·simp only [Act.put,setIfInBounds_toArray,set_cons_zero,set_cons_succ,i64_w,i32_w]
            rfl
           refine pV_ 10 60 (bm 17 10206) HT_.out ?_
           refine join_ (σ := Value × Value × Value) 4 (bm 17 12287) (fun s_ => [(50,s_.1),(55,s_.2.1),(61,s_.2.2)]) (fun s_ w' => (w'.cell? ⟨gb174,0,none⟩ = some (.slice (some ad176) l0_0.length c0_0) ∧ w'.cell? ⟨gb174,1,none⟩ = some (.int .i64 a0_1)) ∧ (Kd.R k71 71 w' w.heap.size (fun k_ => some k_ ≠ (s_.2.2 : Value).ownBlock) s_.2.1 y212) ∧ (Kd.R k71 71 w' w.heap.size (fun k_ => some k_ ≠ (s_.2.1 : Value).ownBlock) s_.2.2 y215) ∧ (w'.heap[gb174]? = some (.cells #[.slice (some ad176) l0_0.length c0_0,.int .i64 a0_1] 28 (0,0))) ∧ (w'.heap[gb175]? = some (.cells #[.slice none 0 0,.int .i64 0] 28 (0,0))) ∧ (Below w.heap.size w w')) ?_ ?_
           rotate_left
           ·intro hCont
            refine two_ (i:=0) (j:=11) (Ni := some 50) (Nj := some 61) (bm 17 10207) (bm 17 12254) rfl rfl rfl rfl (two_of HT_.out (by kernel_rfl)) (by decide) (by decide) (fun K hK => ?_) (fun K hK => ?_)
            ·skip
             refine Kd.R_lit_step k71 _ 71 ?hg (N:=50) ?hd (xs := ([] : List (S71))) (inner := []) (ok := fun _ => True) (okp := fun _ => True) ?hr ?hp (fun _ hk => hk) trivial (Below.refl _ _) (Nat.le_refl _) (by simp) ?_; (case hd => rfl); (case hg => rfl); (case hr => first | (go_simp; done) | (go_simp; rfl)); (case hp => exact (Reps.none _ _))
             intro v206 w51 ho52 hb hg_ hnew_
             clear hg_ hnew_
             (first | rw [← Ny205.out] at ho52 | (simp only [Int.reduceToNat] at ho52; rw [← Ny205.out] at ho52))
             have n0_ := Aside0.mk (Kd.R_lower ho52 (below_size bA))
             have n1_ := Aside0.mk (blk_below (g:=gb174) (o:=.cells #[.slice (some ad176) l0_0.length c0_0,.int .i64 a0_1] 28 (0,0)) (kA BK174.out) hb)
             have n2_ := Aside0.mk (blk_below (g:=gb175) (o:=.cells #[.slice none 0 0,.int .i64 0] 28 (0,0)) (kA BK175.out) hb)
             have n3_ := Aside0.mk (below_step bA hb)
             clear BK174
             clear BK175
             clear HB
             have HO207 := n0_
             have BK174 := n1_
             have BK175 := n2_
             have HB := n3_
             clear n0_ n1_ n2_ n3_
             clear hb ho52
             refine hK.out _ _ ⟨(blk_cell BK174.out 0).trans rfl,(blk_cell BK174.out 1).trans rfl⟩ (fun hHeld => ?_)
             clear hK K
             refine norm_ (a':=?_) ?_ ?_
             rotate_left
             ·show Act.put _ (some 50) _ = _
              simp only [Act.put,setIfInBounds_toArray,set_cons_zero,set_cons_succ,i64_w,i32_w]
              rfl
             refine two_ (i:=5) (j:=11) (Ni := some 55) (Nj := some 61) (bm 17 10239) (bm 17 12255) rfl rfl rfl rfl (two_of HT_.out (by kernel_rfl)) (by decide) (by decide) (fun K hK => ?_) (fun K hK => ?_)
             ·skip
              refine Kd.R_append_rows_step k71 (w0 := w) w.heap.size (by rfl) (.tmp 50) (.tmp 54) 26 71 (.agg #[(.string ⟨#[]⟩),(.int .i64 0),(.string ⟨#[]⟩)]) 40 rfl Try.underlying26 info71 rfl (by decide) (by omega) v206 y205 y208 _ _ _ (fun _ => True) (fun _ => False) rfl rfl ?aO ?aR (fun _ _ h => h) (fun _ h => h.elim) ?aF ?aB ?aS ?aL ?_
              (case aR => repeat (first | exact (Kd.C_below HR211.out HB.out) | (with_reducible refine Kd.C_alloc ?_ _) | (with_reducible refine Kd.C_drewN ?_ _) | (with_reducible refine Kd.C_drew ?_)))
              (case aB => exact bA)
              (case aF => exact (fun _ _ => trivial))
              (case aO => exact (rA HO207.out))
              (case aS => exact (below_size bA))
              (case aL => have := LMc43.out; omega)
              intro v213 w53 ho hb hg hat
              rw [← Ny212.out] at ho
              have n0_ := Aside0.mk (blk_grown (g:=gb174) (o:=.cells #[.slice (some ad176) l0_0.length c0_0,.int .i64 a0_1] 28 (0,0)) (kA BK174.out) hg (Kd.R_ne HO207.out BK174.out (by decide)))
              have n1_ := Aside0.mk (blk_grown (g:=gb175) (o:=.cells #[.slice none 0 0,.int .i64 0] 28 (0,0)) (kA BK175.out) hg (Kd.R_ne HO207.out BK175.out (by decide)))
              have n2_ := Aside0.mk (hb)
              have n3_ := Aside0.mk (ho)
              clear BK174
              clear BK175
              clear HB
              clear HO207
              have BK174 := n0_
              have BK175 := n1_
              have HB := n2_
              have HO214 := n3_
              clear n0_ n1_ n2_ n3_
              clear ho hb hg hat
              refine hK.out _ _ ⟨(blk_cell BK174.out 0).trans rfl,(blk_cell BK174.out 1).trans rfl⟩ (fun hHeld => ?_)
              clear hK K
              refine norm_ (a':=?_) ?_ ?_
              rotate_left
              ·show Act.put _ (some 55) _ = _
               simp only [Act.put,setIfInBounds_toArray,set_cons_zero,set_cons_succ,i64_w,i32_w]
               rfl
              refine one_ (i:=11) (N:=some 61) (bm 17 12287) rfl rfl (one_of HT_.out (by kernel_rfl)) (by decide) (fun K hK => ?_)
              refine Kd.R_lit_step k71 _ 71 ?hg (N:=61) ?hd (xs := ([(⟨a1,a0_1,a2⟩ : S71)] : List (S71))) (inner := [.string a1,.int .i64 a0_1,.string a2]) (ok := fun _ => True) (okp := fun _ => True) ?hr ?hp (fun _ hk => hk) trivial (Below.refl _ _) (Nat.le_refl _) (by simp) ?_; (case hd => rfl); (case hg => rfl); (case hr => first | (go_simp; done) | (go_simp; rfl)); (case hp => exact (Reps.c3 (show Kd.M k71 _ _ _ (⟨a1,a0_1,a2⟩ : S71) [.string a1,.int .i64 a0_1,.string a2] from (k71_mkM _ _ _ (⟨a1,a0_1,a2⟩ : S71) )) (Reps.none _ _)))
              intro v216 w54 ho55 hb hg_ hnew_
              clear hg_ hnew_
              (first | rw [← Ny215.out] at ho55 | (simp only [Int.reduceToNat] at ho55; rw [← Ny215.out] at ho55))
              have n0_ := Aside0.mk (Kd.R_elder' (rA HO214.out) (Kd.R_base ho55) hb)
              have n1_ := Aside0.mk (Kd.R_lower (Kd.R_new' ho55 (Kd.R_lt (rA HO214.out))) (below_size bA))
              have n2_ := Aside0.mk (blk_below (g:=gb174) (o:=.cells #[.slice (some ad176) l0_0.length c0_0,.int .i64 a0_1] 28 (0,0)) (kA BK174.out) hb)
              have n3_ := Aside0.mk (blk_below (g:=gb175) (o:=.cells #[.slice none 0 0,.int .i64 0] 28 (0,0)) (kA BK175.out) hb)
              have n4_ := Aside0.mk (below_step bA hb)
              clear HO214
              clear BK174
              clear BK175
              clear HB
              have HO214 := n0_
              have HO217 := n1_
              have BK174 := n2_
              have BK175 := n3_
              have HB := n4_
              clear n0_ n1_ n2_ n3_ n4_
              clear hb ho55
              refine hK.out _ _ ⟨(blk_cell BK174.out 0).trans rfl,(blk_cell BK174.out 1).trans rfl⟩ (fun hHeld => ?_)
              clear hK K
              refine norm_ (a':=?_) ?_ ?_
              rotate_left
              ·show Act.put _ (some 61) _ = _
               simp only [Act.put,setIfInBounds_toArray,set_cons_zero,set_cons_succ,i64_w,i32_w]
               rfl
              exact norm_ (by simp only [putAll,Act.put,setIfInBounds_toArray,set_cons_zero,set_cons_succ]) (hCont (v206,v213,v216) _ ⟨hHeld,(by (with_reducible repeat (first | apply Kd.R_alloc | apply Kd.R_drewN | apply Kd.R_drew)); exact Kd.R_mono HO214.out (fun _ hk => hk.2)),(by (with_reducible repeat (first | apply Kd.R_alloc | apply Kd.R_drewN | apply Kd.R_drew)); exact Kd.R_mono HO217.out (fun _ hk => hk.2)),(kA BK174.out),(kA BK175.out),bA⟩)
             ·skip
              refine Kd.R_lit_step k71 _ 71 ?hg (N:=61) ?hd (xs := ([(⟨a1,a0_1,a2⟩ : S71)] : List (S71))) (inner := [.string a1,.int .i64 a0_1,.string a2]) (ok := fun _ => True) (okp := fun _ => True) ?hr ?hp (fun _ hk => hk) trivial (Below.refl _ _) (Nat.le_refl _) (by simp) ?_; (case hd => rfl); (case hg => rfl); (case hr => first | (go_simp; done) | (go_simp; rfl)); (case hp => exact (Reps.c3 (show Kd.M k71 _ _ _ (⟨a1,a0_1,a2⟩ : S71) [.string a1,.int .i64 a0_1,.string a2] from (k71_mkM _ _ _ (⟨a1,a0_1,a2⟩ : S71) )) (Reps.none _ _)))
              intro v216 w53 ho54 hb hg_ hnew_
              clear hg_ hnew_
              (first | rw [← Ny215.out] at ho54 | (simp only [Int.reduceToNat] at ho54; rw [← Ny215.out] at ho54))
              have n0_ := Aside0.mk (Kd.R_elder' (rA HO207.out) (Kd.R_base ho54) hb)
              have n1_ := Aside0.mk (Kd.R_lower (Kd.R_new' ho54 (Kd.R_lt (rA HO207.out))) (below_size bA))
              have n2_ := Aside0.mk (blk_below (g:=gb174) (o:=.cells #[.slice (some ad176) l0_0.length c0_0,.int .i64 a0_1] 28 (0,0)) (kA BK174.out) hb)
              have n3_ := Aside0.mk (blk_below (g:=gb175) (o:=.cells #[.slice none 0 0,.int .i64 0] 28 (0,0)) (kA BK175.out) hb)
              have n4_ := Aside0.mk (below_step bA hb)
              clear HO207
              clear BK174
              clear BK175
              clear HB
              have HO207 := n0_
              have HO217 := n1_
              have BK174 := n2_
              have BK175 := n3_
              have HB := n4_
              clear n0_ n1_ n2_ n3_ n4_
              clear hb ho54
              refine hK.out _ _ ⟨(blk_cell BK174.out 0).trans rfl,(blk_cell BK174.out 1).trans rfl⟩ (fun hHeld => ?_)
              clear hK K
              refine norm_ (a':=?_) ?_ ?_
              rotate_left
              ·show Act.put _ (some 61) _ = _
               simp only [Act.put,setIfInBounds_toArray,set_cons_zero,set_cons_succ,i64_w,i32_w]
               rfl
              refine one_ (i:=5) (N:=some 55) (bm 17 12287) rfl rfl (one_of HT_.out (by kernel_rfl)) (by decide) (fun K hK => ?_)
              refine Kd.R_append_rows_step k71 (w0 := w) w.heap.size (by rfl) (.tmp 50) (.tmp 54) 26 71 (.agg #[(.string ⟨#[]⟩),(.int .i64 0),(.string ⟨#[]⟩)]) 40 rfl Try.underlying26 info71 rfl (by decide) (by omega) v206 y205 y208 _ _ _ (fun k_ => some k_ ≠ (v216 : Value).ownBlock) (fun _ => False) rfl rfl ?aO ?aR (fun _ _ h => h) (fun _ h => h.elim) ?aF ?aB ?aS ?aL ?_
              (case aR => repeat (first | exact (Kd.C_below HR211.out HB.out) | (with_reducible refine Kd.C_alloc ?_ _) | (with_reducible refine Kd.C_drewN ?_ _) | (with_reducible refine Kd.C_drew ?_)))
              (case aB => exact bA)
              (case aF => exact (fun k_ hk => Kd.fresh' (Kd.R_lt (rA HO217.out)) k_ hk))
              (case aO => exact (by (with_reducible repeat (first | apply Kd.R_alloc | apply Kd.R_drewN | apply Kd.R_drew)); exact Kd.R_mono HO207.out (fun _ hk => hk.2)))
              (case aS => exact (below_size bA))
              (case aL => have := LMc43.out; omega)
              intro v213 w55 ho hb hg hat
              rw [← Ny212.out] at ho
              have n0_ := Aside0.mk (blk_grown (g:=gb174) (o:=.cells #[.slice (some ad176) l0_0.length c0_0,.int .i64 a0_1] 28 (0,0)) (kA BK174.out) hg (Kd.R_ne HO207.out BK174.out (by decide)))
              have n1_ := Aside0.mk (blk_grown (g:=gb175) (o:=.cells #[.slice none 0 0,.int .i64 0] 28 (0,0)) (kA BK175.out) hg (Kd.R_ne HO207.out BK175.out (by decide)))
              have n2_ := Aside0.mk (Kd.R_after (ok := (fun _ => True)) (rA HO217.out) hg hat)
              have n3_ := Aside0.mk (hb)
              have n4_ := Aside0.mk (ho)
              clear BK174
              clear BK175
              clear HO217
              clear HB
              clear HO207
              have BK174 := n0_
              have BK175 := n1_
              have HO217 := n2_
              have HB := n3_
              have HO214 := n4_
              clear n0_ n1_ n2_ n3_ n4_
              clear ho hb hg hat
              refine hK.out _ _ ⟨(blk_cell BK174.out 0).trans rfl,(blk_cell BK174.out 1).trans rfl⟩ (fun hHeld => ?_)
              clear hK K
              refine norm_ (a':=?_) ?_ ?_
              rotate_left
              ·show Act.put _ (some 55) _ = _
               simp only [Act.put,setIfInBounds_toArray,set_cons_zero,set_cons_succ,i64_w,i32_w]
               rfl
              exact norm_ (by simp only [putAll,Act.put,setIfInBounds_toArray,set_cons_zero,set_cons_succ]) (hCont (v206,v213,v216) _ ⟨hHeld,(rA HO214.out),(by (with_reducible repeat (first | apply Kd.R_alloc | apply Kd.R_drewN | apply Kd.R_drew)); exact Kd.R_mono HO217.out (fun _ hk => hk.2)),(kA BK174.out),(kA BK175.out),bA⟩)
            ·skip
             refine Kd.R_lit_step k71 _ 71 ?hg (N:=61) ?hd (xs := ([(⟨a1,a0_1,a2⟩ : S71)] : List (S71))) (inner := [.string a1,.int .i64 a0_1,.string a2]) (ok := fun _ => True) (okp := fun _ => True) ?hr ?hp (fun _ hk => hk) trivial (Below.refl _ _) (Nat.le_refl _) (by simp) ?_; (case hd => rfl); (case hg => rfl); (case hr => first | (go_simp; done) | (go_simp; rfl)); (case hp => exact (Reps.c3 (show Kd.M k71 _ _ _ (⟨a1,a0_1,a2⟩ : S71) [.string a1,.int .i64 a0_1,.string a2] from (k71_mkM _ _ _ (⟨a1,a0_1,a2⟩ : S71) )) (Reps.none _ _)))
             intro v216 w51 ho52 hb hg_ hnew_
             clear hg_ hnew_
             (first | rw [← Ny215.out] at ho52 | (simp only [Int.reduceToNat] at ho52; rw [← Ny215.out] at ho52))
             have n0_ := Aside0.mk (Kd.R_lower ho52 (below_size bA))
             have n1_ := Aside0.mk (blk_below (g:=gb174) (o:=.cells #[.slice (some ad176) l0_0.length c0_0,.int .i64 a0_1] 28 (0,0)) (kA BK174.out) hb)
             have n2_ := Aside0.mk (blk_below (g:=gb175) (o:=.cells #[.slice none 0 0,.int .i64 0] 28 (0,0)) (kA BK175.out) hb)
             have n3_ := Aside0.mk (below_step bA hb)
             clear BK174
             clear BK175
             clear HB
             have HO217 := n0_
             have BK174 := n1_
             have BK175 := n2_
             have HB := n3_
             clear n0_ n1_ n2_ n3_
             clear hb ho52
             refine hK.out _ _ ⟨(blk_cell BK174.out 0).trans rfl,(blk_cell BK174.out 1).trans rfl⟩ (fun hHeld => ?_)
             clear hK K
             refine norm_ (a':=?_) ?_ ?_
             rotate_left
             ·show Act.put _ (some 61) _ = _
              simp only [Act.put,setIfInBounds_toArray,set_cons_zero,set_cons_succ,i64_w,i32_w]
              rfl
             refine one_ (i:=0) (N:=some 50) (bm 17 12255) rfl rfl (one_of HT_.out (by kernel_rfl)) (by decide) (fun K hK => ?_)
             refine Kd.R_lit_step k71 _ 71 ?hg (N:=50) ?hd (xs := ([] : List (S71))) (inner := []) (ok := fun _ => True) (okp := fun _ => True) ?hr ?hp (fun _ hk => hk) trivial (Below.refl _ _) (Nat.le_refl _) (by simp) ?_; (case hd => rfl); (case hg => rfl); (case hr => first | (go_simp; done) | (go_simp; rfl)); (case hp => exact (Reps.none _ _))
             intro v206 w53 ho54 hb hg_ hnew_
             clear hg_ hnew_
             (first | rw [← Ny205.out] at ho54 | (simp only [Int.reduceToNat] at ho54; rw [← Ny205.out] at ho54))
             have n0_ := Aside0.mk (Kd.R_elder' (rA HO217.out) (Kd.R_base ho54) hb)
             have n1_ := Aside0.mk (Kd.R_lower (Kd.R_new' ho54 (Kd.R_lt (rA HO217.out))) (below_size bA))
             have n2_ := Aside0.mk (blk_below (g:=gb174) (o:=.cells #[.slice (some ad176) l0_0.length c0_0,.int .i64 a0_1] 28 (0,0)) (kA BK174.out) hb)
             have n3_ := Aside0.mk (blk_below (g:=gb175) (o:=.cells #[.slice none 0 0,.int .i64 0] 28 (0,0)) (kA BK175.out) hb)
             have n4_ := Aside0.mk (below_step bA hb)
             clear HO217
             clear BK174
             clear BK175
             clear HB
             have HO217 := n0_
             have HO207 := n1_
             have BK174 := n2_
             have BK175 := n3_
             have HB := n4_
             clear n0_ n1_ n2_ n3_ n4_
             clear hb ho54
             refine hK.out _ _ ⟨(blk_cell BK174.out 0).trans rfl,(blk_cell BK174.out 1).trans rfl⟩ (fun hHeld => ?_)
             clear hK K
             refine norm_ (a':=?_) ?_ ?_
             rotate_left
             ·show Act.put _ (some 50) _ = _
              simp only [Act.put,setIfInBounds_toArray,set_cons_zero,set_cons_succ,i64_w,i32_w]
              rfl
             refine one_ (i:=5) (N:=some 55) (bm 17 12287) rfl rfl (one_of HT_.out (by kernel_rfl)) (by decide) (fun K hK => ?_)
             refine Kd.R_append_rows_step k71 (w0 := w) w.heap.size (by rfl) (.tmp 50) (.tmp 54) 26 71 (.agg #[(.string ⟨#[]⟩),(.int .i64 0),(.string ⟨#[]⟩)]) 40 rfl Try.underlying26 info71 rfl (by decide) (by omega) v206 y205 y208 _ _ _ (fun k_ => some k_ ≠ (v216 : Value).ownBlock) (fun _ => False) rfl rfl ?aO ?aR (fun _ _ h => h) (fun _ h => h.elim) ?aF ?aB ?aS ?aL ?_
             (case aR => repeat (first | exact (Kd.C_below HR211.out HB.out) | (with_reducible refine Kd.C_alloc ?_ _) | (with_reducible refine Kd.C_drewN ?_ _) | (with_reducible refine Kd.C_drew ?_)))
             (case aB => exact bA)
             (case aF => exact (fun k_ hk => Kd.fresh' (Kd.R_lt (rA HO217.out)) k_ hk))
             (case aO => exact (by (with_reducible repeat (first | apply Kd.R_alloc | apply Kd.R_drewN | apply Kd.R_drew)); exact Kd.R_mono HO207.out (fun _ hk => hk.2)))
             (case aS => exact (below_size bA))
             (case aL => have := LMc43.out; omega)
             intro v213 w55 ho hb hg hat
             rw [← Ny212.out] at ho
             have n0_ := Aside0.mk (blk_grown (g:=gb174) (o:=.cells #[.slice (some ad176) l0_0.length c0_0,.int .i64 a0_1] 28 (0,0)) (kA BK174.out) hg (Kd.R_ne HO207.out BK174.out (by decide)))
             have n1_ := Aside0.mk (blk_grown (g:=gb175) (o:=.cells #[.slice none 0 0,.int .i64 0] 28 (0,0)) (kA BK175.out) hg (Kd.R_ne HO207.out BK175.out (by decide)))
             have n2_ := Aside0.mk (Kd.R_after (ok := (fun _ => True)) (rA HO217.out) hg hat)
             have n3_ := Aside0.mk (hb)
             have n4_ := Aside0.mk (ho)
             clear BK174
             clear BK175
             clear HO217
             clear HB
             clear HO207
             have BK174 := n0_
             have BK175 := n1_
             have HO217 := n2_
             have HB := n3_
             have HO214 := n4_
             clear n0_ n1_ n2_ n3_ n4_
             clear ho hb hg hat
             refine hK.out _ _ ⟨(blk_cell BK174.out 0).trans rfl,(blk_cell BK174.out 1).trans rfl⟩ (fun hHeld => ?_)
             clear hK K
             refine norm_ (a':=?_) ?_ ?_
             rotate_left
             ·show Act.put _ (some 55) _ = _
              simp only [Act.put,setIfInBounds_toArray,set_cons_zero,set_cons_succ,i64_w,i32_w]
              rfl
             exact norm_ (by simp only [putAll,Act.put,setIfInBounds_toArray,set_cons_zero,set_cons_succ]) (hCont (v206,v213,v216) _ ⟨hHeld,(rA HO214.out),(by (with_reducible repeat (first | apply Kd.R_alloc | apply Kd.R_drewN | apply Kd.R_drew)); exact Kd.R_mono HO217.out (fun _ hk => hk.2)),(kA BK174.out),(kA BK175.out),bA⟩)
           rintro ⟨v206,v213,v216⟩ w56 ⟨hS_,h0_,h1_,h2_,h3_,h4_⟩
           have n0_ : Aside0 (Kd.R k71 71 w56 w.heap.size (fun k_ => some k_ ≠ (v216 : Value).ownBlock) v213 y212) := ⟨h0_⟩
           have n1_ : Aside0 (Kd.R k71 71 w56 w.heap.size (fun k_ => some k_ ≠ (v213 : Value).ownBlock) v216 y215) := ⟨h1_⟩
           have n2_ : Aside0 (w56.heap[gb174]? = some (.cells #[.slice (some ad176) l0_0.length c0_0,.int .i64 a0_1] 28 (0,0))) := ⟨h2_⟩
           have n3_ : Aside0 (w56.heap[gb175]? = some (.cells #[.slice none 0 0,.int .i64 0] 28 (0,0))) := ⟨h3_⟩
           have n4_ : Aside0 (Below w.heap.size w w56) := ⟨h4_⟩
           clear BK174
           clear BK175
           clear HB
           clear h0_ h1_ h2_ h3_ h4_
           have HO214 := n0_
           have HO217 := n1_
           have BK174 := n2_
           have BK175 := n3_
           have HB := n4_
           clear n0_ n1_ n2_ n3_ n4_
           have hHeld : w56.cell? ⟨gb174,0,none⟩ = some (.slice (some ad176) l0_0.length c0_0) ∧ w56.cell? ⟨gb174,1,none⟩ = some (.int .i64 a0_1) := hS_
           obtain ⟨Ao58,co58,eo58⟩ := Kd.R_slice HO217.out
           (first | subst eo58 | (injection eo58 with f1_ f2_ f3_; have f4_ := f1_.symm; have f5_ := f3_.symm; clear f1_ f2_ f3_; subst f4_; subst f5_))
           refine norm_ (a':=?_) ?_ ?_
           rotate_left
           ·simp only [putAll,Act.put,setIfInBounds_toArray,set_cons_zero,set_cons_succ]
            rfl
           refine one_ (i:=12) (N:=some 62) (bm 17 16383) rfl rfl (one_of HT_.out (by kernel_rfl)) (by decide) (fun K hK => ?_)
           refine Kd.R_append_rows_step k71 (w0 := w) w.heap.size (by rfl) (.tmp 55) (.tmp 61) 26 71 (.agg #[(.string ⟨#[]⟩),(.int .i64 0),(.string ⟨#[]⟩)]) 40 rfl Try.underlying26 info71 rfl (by decide) (by omega) v213 y212 y215 _ _ _ (fun k_ => some k_ ≠ (.slice Ao58 y215.length co58 : Value).ownBlock) (fun _ => False) rfl rfl ?aO ?aR (fun _ _ h => h) (fun _ h => h.elim) ?aF ?aB ?aS ?aL ?_
           (case aR => repeat (first | exact (Kd.R_reads' HO217.out).2.2 | (with_reducible refine Kd.C_alloc ?_ _) | (with_reducible refine Kd.C_drewN ?_ _) | (with_reducible refine Kd.C_drew ?_)))
           (case aB => exact bA)
           (case aF => exact (fun k_ hk => Kd.fresh' (Kd.R_lt (rA HO217.out)) k_ hk))
           (case aO => exact (rA HO214.out))
           (case aS => exact (below_size bA))
           (case aL => have := LMc44.out; omega)
           intro v219 w57 ho hb hg hat
           rw [← Ny218.out] at ho
           have n0_ := Aside0.mk (blk_grown (g:=gb174) (o:=.cells #[.slice (some ad176) l0_0.length c0_0,.int .i64 a0_1] 28 (0,0)) (kA BK174.out) hg (Kd.R_ne HO214.out BK174.out (by decide)))
           have n1_ := Aside0.mk (blk_grown (g:=gb175) (o:=.cells #[.slice none 0 0,.int .i64 0] 28 (0,0)) (kA BK175.out) hg (Kd.R_ne HO214.out BK175.out (by decide)))
           have n2_ := Aside0.mk (Kd.R_after (ok := (fun _ => True)) (by (with_reducible repeat (first | apply Kd.R_alloc | apply Kd.R_drewN | apply Kd.R_drew)); exact Kd.R_mono HO217.out (fun _ hk => ⟨trivial,hk⟩)) hg hat)
           have n3_ := Aside0.mk (hb)
           have n4_ := Aside0.mk (ho)
           clear BK174
           clear BK175
           clear HO217
           clear HB
           clear HO214
           have BK174 := n0_
           have BK175 := n1_
           have HO217 := n2_
           have HB := n3_
           have HO220 := n4_
           clear n0_ n1_ n2_ n3_ n4_
           clear ho hb hg hat
           refine hK.out _ _ ⟨(blk_cell BK174.out 0).trans rfl,(blk_cell BK174.out 1).trans rfl⟩ (fun hHeld => ?_)
           clear hK K
           refine norm_ (a':=?_) ?_ ?_
           rotate_left
           ·show Act.put _ (some 62) _ = _
            simp only [Act.put,setIfInBounds_toArray,set_cons_zero,set_cons_succ,i64_w,i32_w]
            rfl
           refine one_ (i:=14) (N:=some 64) (bm 17 32767) rfl rfl (one_of HT_.out (by kernel_rfl)) (by decide) (fun K hK => ?_)
           refine Kd.R_append_rows_step k71 (w0 := w) w.heap.size (by rfl) (.tmp 62) (.tmp 63) 26 71 (.agg #[(.string ⟨#[]⟩),(.int .i64 0),(.string ⟨#[]⟩)]) 40 rfl Try.underlying26 info71 rfl (by decide) (by omega) v219 y218 y177 _ _ _ (fun k_ => some k_ ≠ (.slice Ao58 y215.length co58 : Value).ownBlock) (fun _ => False) rfl rfl ?aO ?aR (fun _ _ h => h) (fun _ h => h.elim) ?aF ?aB ?aS ?aL ?_
           (case aR => repeat (first | exact (Kd.C_below HR180.out HB.out) | (with_reducible refine Kd.C_alloc ?_ _) | (with_reducible refine Kd.C_drewN ?_ _) | (with_reducible refine Kd.C_drew ?_)))
           (case aB => exact bA)
           (case aF => exact (fun k_ hk => Kd.fresh' (Kd.R_lt (rA HO217.out)) k_ hk))
           (case aO => exact (rA HO220.out))
           (case aS => exact (below_size bA))
           (case aL => have := LMc45.out; omega)
           intro v222 w59 ho hb hg hat
           rw [← Ny221.out] at ho
           have n0_ := Aside0.mk (blk_grown (g:=gb174) (o:=.cells #[.slice (some ad176) l0_0.length c0_0,.int .i64 a0_1] 28 (0,0)) (kA BK174.out) hg (Kd.R_ne HO220.out BK174.out (by decide)))
           have n1_ := Aside0.mk (blk_grown (g:=gb175) (o:=.cells #[.slice none 0 0,.int .i64 0] 28 (0,0)) (kA BK175.out) hg (Kd.R_ne HO220.out BK175.out (by decide)))
           have n2_ := Aside0.mk (Kd.R_after (ok := (fun _ => True)) (rA HO217.out) hg hat)
           have n3_ := Aside0.mk (hb)
           have n4_ := Aside0.mk (ho)
           clear BK174
           clear BK175
           clear HO217
           clear HB
           clear HO220
           have BK174 := n0_
           have BK175 := n1_
           have HO217 := n2_
           have HB := n3_
           have HO223 := n4_
           clear n0_ n1_ n2_ n3_ n4_
           clear ho hb hg hat
           obtain ⟨Ao60,co60,eo60⟩ := Kd.R_slice HO223.out
           (first | subst eo60 | (injection eo60 with f1_ f2_ f3_; have f4_ := f1_.symm; have f5_ := f3_.symm; clear f1_ f2_ f3_; subst f4_; subst f5_))
           refine hK.out _ _ ⟨(blk_cell BK174.out 0).trans rfl,(blk_cell BK174.out 1).trans rfl⟩ (fun hHeld => ?_)
           clear hK K
           refine norm_ (a':=?_) ?_ ?_
           rotate_left
           ·show Act.put _ (some 64) _ = _
            simp only [Act.put,setIfInBounds_toArray,set_cons_zero,set_cons_succ,i64_w,i32_w]
            rfl
           refine pV_ 15 65 (bm 17 65535) HT_.out ?_
           refine last_ (i:=16) (N:=none) (bm 17 131071) rfl rfl (one_of HT_.out (by kernel_rfl)) (by decide) (fun K hK => ?_)
           have hs61 : w59.cell? ⟨gb174,0,none⟩ = some (.slice (some ad176) l0_0.length c0_0) := (blk_cell BK174.out 0).trans rfl
           have hfs61 := blk_frozen BK174.out 0
           have hns61_1 := NB175_174.out
           have hms61_1 := NB174_175.out
           refine skip_ (w1 := ?_) (by rfl) rfl ?_ ?_
           rotate_left
           ·go_simp
            rfl
           refine hK.out _ _ ?_
           clear hK K
           refine done_ (done_of HT_.out (by kernel_rfl)) ?_
           have hcz62_0 : w59.cell? ⟨gb174,0,none⟩ = some (.slice (some ad176) l0_0.length c0_0) := (blk_cell BK174.out 0).trans rfl
           have hcz62_1 : w59.cell? ⟨gb174,1,none⟩ = some (.int .i64 a0_1) := (blk_cell BK174.out 1).trans rfl
           have hfz62_0 := blk_frozen BK174.out 0
           have hfz62_1 := blk_frozen BK174.out 1
           have hcz63_0 : w59.cell? ⟨gb175,0,none⟩ = some (.slice none 0 0) := (blk_cell BK175.out 0).trans rfl
           have hcz63_1 : w59.cell? ⟨gb175,1,none⟩ = some (.int .i64 0) := (blk_cell BK175.out 1).trans rfl
           have hfz63_0 := blk_frozen BK175.out 0
           have hfz63_1 := blk_frozen BK175.out 1
           try go_wp2
           refine bodyPost_ret (results_cell_row rfl _ _ gb175 28 #[.slice Ao60 y221.length co60,.int .i64 (wrap64 (a0_1 + 1))] (0,0) _ rfl (by (with_reducible repeat (first | refine blk_drewN ?_ _ | refine blk_drew ?_ | refine blk_alloc ?_ _)); refine blk_put (cs := #[.slice Ao60 y221.length co60,.int .i64 0]) ?_ 1 _ rfl; (with_reducible repeat (first | refine blk_drewN ?_ _ | refine blk_drew ?_ | refine blk_alloc ?_ _)); refine blk_put (cs := #[.slice none 0 0,.int .i64 0]) ?_ 0 _ rfl; (with_reducible repeat (first | refine blk_drewN ?_ _ | refine blk_drew ?_ | refine blk_alloc ?_ _)); refine blk_far ?_ NB175_174.out _; (with_reducible repeat (first | refine blk_drewN ?_ _ | refine blk_drew ?_ | refine blk_alloc ?_ _)); refine blk_far ?_ NB175_174.out _; (with_reducible repeat (first | refine blk_drewN ?_ _ | refine blk_drew ?_ | refine blk_alloc ?_ _)); exact BK175.out) Try.underlying28 rfl (by kernel_rfl)) rfl ?_
           exact ⟨_,by first | rfl | (simp only [i64_w,i32_w] <;> rfl) | (simp [errW_none,errW_some] <;> rfl) | (simp [*,errW_none,errW_some] <;> rfl),by (with_reducible repeat (first | apply Kd.R_alloc | apply Kd.R_drewN | apply Kd.R_drew)); exact Kd.R_mono (Kd.R_far (p:=⟨gb175,1,none⟩) (Kd.R_far (p:=⟨gb175,0,none⟩) (Kd.R_far (p:=⟨gb174,1,none⟩) (Kd.R_far (p:=⟨gb174,0,none⟩) (Kd.R_types (Kd.R_types HO223.out BK174.out (by decide)) BK175.out (by decide)) (fun _ hk => hk.1.2) (.slice Ao60 y221.length co60)) (fun _ hk => hk.1.2) (.int .i64 (wrap64 (a0_1 + 1)))) (fun _ hk => hk.2) (.slice Ao60 y221.length co60)) (fun _ hk => hk.2) (.int .i64 (wrap64 (a0_1 + 1)))) (fun _ hk => trivial),bA⟩
          ·rw [if_neg c45] at H
           exact absurd H (by simp)
         ·rw [if_neg c44] at H
          exact absurd H (by simp)
        ·rw [if_neg c43] at H
         exact absurd H (by simp)
      ·rw [if_neg c12] at H
       exact absurd H (by simp)
    ·rw [if_neg c7] at H
     exact absurd H (by simp)
   ·rw [if_neg c6] at H
    have c6b0 : decide (x7_1 < (l0_0.length : Int)) = false := decide_eq_false c6
    clear c6
    by_cases c64 : 0 ≤ x7_1
    ·rw [if_pos c64] at H
     have c64b0 := eq_true c64
     have c64b1 : decide (0 ≤ x7_1) = true := decide_eq_true c64
     clear c64
     by_cases c65 : x7_1 ≤ (l0_0.length : Int)
     ·rw [if_pos c65] at H
      have c65b0 := eq_true c65
      have c65b1 : decide (x7_1 ≤ (l0_0.length : Int)) = true := decide_eq_true c65
      clear c65
      obtain ⟨y224,hy224⟩ : ∃ y_ : List (S71),y_ = (l0_0.drop (x7_1 : Int).toNat) := ⟨_,rfl⟩
      replace H : ((some (([] : List (S71)) : List (S71))).bind fun y228 => ((some (l0_0.take (x7_1 : Int).toNat : List (S71))).bind fun y231 => (if y228.length + y231.length < 3518437208883 then ((some (y228 ++ y231 : List (S71))).bind fun y235 => ((some (([(⟨a1,a0_1,a2⟩ : S71)] : List (S71)) : List (S71))).bind fun y238 => (if y235.length + y238.length < 3518437208883 then ((some (y235 ++ y238 : List (S71))).bind fun y241 => (if y241.length + y224.length < 3518437208883 then (some ((y241 ++ y224),wrap64 (a0_1 + 1))) else (none))) else (none)))) else (none)))) = some (r1,r2) := by first | (rw [hy224]; with_reducible exact H) | (have H2_ := (Option.bind_some _ _).symm.trans H; rw [hy224]; with_reducible exact H2_) | (have H2_ := (Option.bind_some _ _).symm.trans H; with_reducible exact H2_) | with_reducible exact H | (rw [hy224]; exact H) | exact H
      have Ny224 := Aside0.mk hy224
      clear hy224
      obtain ⟨y228,hy228⟩ : ∃ y_ : List (S71),y_ = (([] : List (S71))) := ⟨_,rfl⟩
      replace H : ((some (l0_0.take (x7_1 : Int).toNat : List (S71))).bind fun y231 => (if y228.length + y231.length < 3518437208883 then ((some (y228 ++ y231 : List (S71))).bind fun y235 => ((some (([(⟨a1,a0_1,a2⟩ : S71)] : List (S71)) : List (S71))).bind fun y238 => (if y235.length + y238.length < 3518437208883 then ((some (y235 ++ y238 : List (S71))).bind fun y241 => (if y241.length + y224.length < 3518437208883 then (some ((y241 ++ y224),wrap64 (a0_1 + 1))) else (none))) else (none)))) else (none))) = some (r1,r2) := by first | (rw [hy228]; with_reducible exact H) | (have H2_ := (Option.bind_some _ _).symm.trans H; rw [hy228]; with_reducible exact H2_) | (have H2_ := (Option.bind_some _ _).symm.trans H; with_reducible exact H2_) | with_reducible exact H | (rw [hy228]; exact H) | exact H
      have Ny228 := Aside0.mk hy228
      clear hy228
      have c66b0 := eq_true (of_decide_eq_true (by first | (with_reducible assumption) | assumption) : 0 ≤ x7_1)
      have c67b0 := eq_true (of_decide_eq_true (by first | (with_reducible assumption) | assumption) : x7_1 ≤ (l0_0.length : Int))
      obtain ⟨y231,hy231⟩ : ∃ y_ : List (S71),y_ = (l0_0.take (x7_1 : Int).toNat) := ⟨_,rfl⟩
      replace H : (if y228.length + y231.length < 3518437208883 then ((some (y228 ++ y231 : List (S71))).bind fun y235 => ((some (([(⟨a1,a0_1,a2⟩ : S71)] : List (S71)) : List (S71))).bind fun y238 => (if y235.length + y238.length < 3518437208883 then ((some (y235 ++ y238 : List (S71))).bind fun y241 => (if y241.length + y224.length < 3518437208883 then (some ((y241 ++ y224),wrap64 (a0_1 + 1))) else (none))) else (none)))) else (none)) = some (r1,r2) := by first | (rw [hy231]; with_reducible exact H) | (have H2_ := (Option.bind_some _ _).symm.trans H; rw [hy231]; with_reducible exact H2_) | (have H2_ := (Option.bind_some _ _).symm.trans H; with_reducible exact H2_) | with_reducible exact H | (rw [hy231]; exact H) | exact H
      have Ny231 := Aside0.mk hy231
      clear hy231
      by_cases c68 : y228.length + y231.length < 3518437208883
      ·rw [if_pos c68] at H
       have LMc68 := Aside0.mk c68
       clear c68
       obtain ⟨y235,hy235⟩ : ∃ y_ : List (S71),y_ = (y228 ++ y231) := ⟨_,rfl⟩
       replace H : ((some (([(⟨a1,a0_1,a2⟩ : S71)] : List (S71)) : List (S71))).bind fun y238 => (if y235.length + y238.length < 3518437208883 then ((some (y235 ++ y238 : List (S71))).bind fun y241 => (if y241.length + y224.length < 3518437208883 then (some ((y241 ++ y224),wrap64 (a0_1 + 1))) else (none))) else (none))) = some (r1,r2) := by first | (rw [hy235]; with_reducible exact H) | (have H2_ := (Option.bind_some _ _).symm.trans H; rw [hy235]; with_reducible exact H2_) | (have H2_ := (Option.bind_some _ _).symm.trans H; with_reducible exact H2_) | with_reducible exact H | (rw [hy235]; exact H) | exact H
       have Ny235 := Aside0.mk hy235
       clear hy235
       obtain ⟨y238,hy238⟩ : ∃ y_ : List (S71),y_ = (([(⟨a1,a0_1,a2⟩ : S71)] : List (S71))) := ⟨_,rfl⟩
       replace H : (if y235.length + y238.length < 3518437208883 then ((some (y235 ++ y238 : List (S71))).bind fun y241 => (if y241.length + y224.length < 3518437208883 then (some ((y241 ++ y224),wrap64 (a0_1 + 1))) else (none))) else (none)) = some (r1,r2) := by first | (rw [hy238]; with_reducible exact H) | (have H2_ := (Option.bind_some _ _).symm.trans H; rw [hy238]; with_reducible exact H2_) | (have H2_ := (Option.bind_some _ _).symm.trans H; with_reducible exact H2_) | with_reducible exact H | (rw [hy238]; exact H) | exact H
       have Ny238 := Aside0.mk hy238
       clear hy238
       by_cases c69 : y235.length + y238.length < 3518437208883
       ·rw [if_pos c69] at H
        have LMc69 := Aside0.mk c69
        clear c69
        obtain ⟨y241,hy241⟩ : ∃ y_ : List (S71),y_ = (y235 ++ y238) := ⟨_,rfl⟩
        replace H : (if y241.length + y224.length < 3518437208883 then (some ((y241 ++ y224),wrap64 (a0_1 + 1))) else (none)) = some (r1,r2) := by first | (rw [hy241]; with_reducible exact H) | (have H2_ := (Option.bind_some _ _).symm.trans H; rw [hy241]; with_reducible exact H2_) | (have H2_ := (Option.bind_some _ _).symm.trans H; with_reducible exact H2_) | with_reducible exact H | (rw [hy241]; exact H) | exact H
        have Ny241 := Aside0.mk hy241
        clear hy241
        by_cases c70 : y241.length + y224.length < 3518437208883
        ·rw [if_pos c70] at H
         have LMc70 := Aside0.mk c70
         clear c70
         obtain ⟨y244,hy244⟩ : ∃ y_ : List (S71),y_ = (y241 ++ y224) := ⟨_,rfl⟩
         replace H : (some (y244,wrap64 (a0_1 + 1))) = some (r1,r2) := by first | (rw [hy244]; with_reducible exact H) | (have H2_ := (Option.bind_some _ _).symm.trans H; rw [hy244]; with_reducible exact H2_) | (have H2_ := (Option.bind_some _ _).symm.trans H; with_reducible exact H2_) | with_reducible exact H | (rw [hy244]; exact H) | exact H
         have Ny244 := Aside0.mk hy244
         clear hy244
         simp only [Option.some.injEq,Prod.mk.injEq] at H
         obtain ⟨rfl,rfl⟩ := H
         have hnb71 := NB174_175.out
         have hnc71 := NB175_174.out
         have hcz72_0 : wr.cell? ⟨gb174,0,none⟩ = some (.slice A0_0 l0_0.length c0_0) := (blk_cell BK174.out 0).trans rfl
         have hcz72_1 : wr.cell? ⟨gb174,1,none⟩ = some (.int .i64 a0_1) := (blk_cell BK174.out 1).trans rfl
         have hfz72_0 := blk_frozen BK174.out 0
         have hfz72_1 := blk_frozen BK174.out 1
         have q73 : (x7_1 : Int) ≤ ((l0_0.length : Int) : Int) := of_decide_eq_true (by first | (with_reducible assumption) | assumption)
         obtain ⟨i073,hi073,_,hsz73,_⟩ := info_parts info71
         have hroom73 : l0_0.length ≤ c0_0 := HC0_0.out
         have hC73 : Kd.C k71 _ A0_0 l0_0.length l0_0 := HR0_0.out
         have q073 : (0 : Int) ≤ (x7_1 : Int) := of_decide_eq_true (by first | (with_reducible assumption) | assumption)
         have hcut73 := cut_from (P:=Try.prog) 26 71 .i64 Try.underlying26 hi073 3 hsz73 A0_0 l0_0.length c0_0 x7_1 q073 q73
         have hr73 := Kd.C_drop (m:=(x7_1 : Int).toNat) (c:=c0_0) hC73 (by omega) hroom73
         obtain ⟨A73,hA73⟩ : ∃ A1,A1 = (if c0_0 = (x7_1 : Int).toNat then A0_0 else (A0_0 : Option Addr).map (·.add ((x7_1 : Int).toNat * 3))) := ⟨_,rfl⟩
         obtain ⟨c73,hc73⟩ : ∃ c1,c1 = c0_0 - (x7_1 : Int).toNat := ⟨_,rfl⟩
         have hy73 : y224.length = l0_0.length - (x7_1 : Int).toNat := (by rw [Ny224.out,List.length_drop] <;> omega)
         rw [show (l0_0).drop (x7_1 : Int).toNat = y224 from Ny224.out.symm] at hr73
         replace hr73 : Kd.C k71 _ A73 y224.length y224 := (by rw [hA73]; exact hr73)
         rw [← hy73,← hA73,← hc73] at hcut73
         have HR227 := Aside0.mk hr73
         have HC227 := Aside0.mk (show y224.length ≤ c73 from by rw [hy73,hc73]; exact Nat.sub_le_sub_right hroom73 _)
         clear hr73 hC73 hroom73 hi073 hsz73 hc73
         have KY73 := Aside0.mk hy73
         have KA73 := Aside0.mk hA73
         clear hy73 hA73
         replace q73 := eq_true q73
         try go_wp2
         have n0_ := Aside0.mk (blk_drew BK174.out)
         have n1_ := Aside0.mk (blk_drew BK175.out)
         have n2_ := Aside0.mk (below_drew1 HB.out)
         clear BK174
         clear BK175
         clear HB
         have BK174 := n0_
         have BK175 := n1_
         have HB := n2_
         clear n0_ n1_ n2_
         have q75 : (x7_1 : Int) ≤ ((l0_0.length : Int) : Int) := of_decide_eq_true (by first | (with_reducible assumption) | assumption)
         obtain ⟨i075,hi075,_,hsz75,_⟩ := info_parts info71
         have hroom75 : l0_0.length ≤ c0_0 := HC0_0.out
         have hC75 : Kd.C k71 _ A0_0 l0_0.length l0_0 := HR0_0.out
         have hcut75 := cut_to (P:=Try.prog) 26 71 .i64 Try.underlying26 hi075 A0_0 l0_0.length c0_0 x7_1 (of_decide_eq_true (by first | (with_reducible assumption) | assumption)) q75 hroom75
         have hr75 := Kd.C_take (m:=(x7_1 : Int).toNat) hC75 (by omega)
         have hy75 : y231.length = (x7_1 : Int).toNat := (by rw [Ny231.out,List.length_take]; omega)
         rw [← Ny231.out] at hr75
         rw [← hy75] at hcut75
         have HR234 := Aside0.mk hr75
         have HC234 := Aside0.mk (show y231.length ≤ c0_0 from by omega)
         clear hr75 hC75 hroom75 hi075 hsz75
         have KY75 := Aside0.mk hy75
         clear hy75
         replace q75 := eq_true q75
         refine start_ (n:=17) (S:=fun w' => w'.cell? ⟨gb174,0,none⟩ = some (.slice A0_0 l0_0.length c0_0) ∧ w'.cell? ⟨gb174,1,none⟩ = some (.int .i64 a0_1)) (ds := [16]) (bm 17 0) (by kernel_rfl) rfl rfl ⟨(blk_cell BK174.out 0).trans rfl,(blk_cell BK174.out 1).trans rfl⟩ (fun hHeld => ?_); refine with_tabW spec_l01Set.tab7 spec_l01Set.bits7 (fun HT_ HW_ => ?_)
         generalize wr.drew = w74 at BK174 BK175 HB HR234 hHeld ⊢
         refine pV_ 1 51 (bm 17 2) HT_.out ?_
         refine pV_ 3 53 (bm 17 10) HT_.out ?_
         refine pV_ 6 56 (bm 17 74) HT_.out ?_
         refine pV_ 7 57 (bm 17 202) HT_.out ?_
         refine pV_ 9 59 (bm 17 714) HT_.out ?_
         refine pV_ 13 63 (bm 17 8906) HT_.out ?_
         refine take_ (i:=2) (N:=some 52) (v:=?_) (a':=?_) (bm 17 8910) rfl rfl (take_ofW HT_.out HW_.out (by kernel_rfl)) (fun _ _ _ h => h) (Or.inl ⟨by rfl,?_⟩) hHeld ?_ ?_
         rotate_left
         ·rintro w' ⟨s0,s1⟩
          go_simp
          with_reducible rfl
         rotate_left
         ·simp only [Act.put,setIfInBounds_toArray,set_cons_zero,set_cons_succ,i64_w,i32_w]
          rfl
         refine pV_ 4 54 (bm 17 8926) HT_.out ?_
         refine take_ (i:=8) (N:=some 58) (v:=?_) (a':=?_) (bm 17 9182) rfl rfl (take_ofW HT_.out HW_.out (by kernel_rfl)) (fun _ _ _ h => h) (Or.inl ⟨by rfl,?_⟩) hHeld ?_ ?_
         rotate_left
         ·rintro w' ⟨s0,s1⟩
          go_simp
          with_reducible rfl
         rotate_left
         ·simp only [Act.put,setIfInBounds_toArray,set_cons_zero,set_cons_succ,i64_w,i32_w]
          rfl
         refine pV_ 10 60 (bm 17 10206) HT_.out ?_
         refine join_ (σ := Value × Value × Value) 4 (bm 17 12287) (fun s_ => [(50,s_.1),(55,s_.2.1),(61,s_.2.2)]) (fun s_ w' => (w'.cell? ⟨gb174,0,none⟩ = some (.slice A0_0 l0_0.length c0_0) ∧ w'.cell? ⟨gb174,1,none⟩ = some (.int .i64 a0_1)) ∧ (Kd.R k71 71 w' w.heap.size (fun k_ => some k_ ≠ (s_.2.2 : Value).ownBlock) s_.2.1 y235) ∧ (Kd.R k71 71 w' w.heap.size (fun k_ => some k_ ≠ (s_.2.1 : Value).ownBlock) s_.2.2 y238) ∧ (w'.heap[gb174]? = some (.cells #[.slice A0_0 l0_0.length c0_0,.int .i64 a0_1] 28 (0,0))) ∧ (w'.heap[gb175]? = some (.cells #[.slice none 0 0,.int .i64 0] 28 (0,0))) ∧ (Below w.heap.size w w')) ?_ ?_
         rotate_left
         ·intro hCont
          refine two_ (i:=0) (j:=11) (Ni := some 50) (Nj := some 61) (bm 17 10207) (bm 17 12254) rfl rfl rfl rfl (two_of HT_.out (by kernel_rfl)) (by decide) (by decide) (fun K hK => ?_) (fun K hK => ?_)
          ·skip
           refine Kd.R_lit_step k71 _ 71 ?hg (N:=50) ?hd (xs := ([] : List (S71))) (inner := []) (ok := fun _ => True) (okp := fun _ => True) ?hr ?hp (fun _ hk => hk) trivial (Below.refl _ _) (Nat.le_refl _) (by simp) ?_; (case hd => rfl); (case hg => rfl); (case hr => first | (go_simp; done) | (go_simp; rfl)); (case hp => exact (Reps.none _ _))
           intro v229 w76 ho77 hb hg_ hnew_
           clear hg_ hnew_
           (first | rw [← Ny228.out] at ho77 | (simp only [Int.reduceToNat] at ho77; rw [← Ny228.out] at ho77))
           have n0_ := Aside0.mk (Kd.R_lower ho77 (below_size bA))
           have n1_ := Aside0.mk (blk_below (g:=gb174) (o:=.cells #[.slice A0_0 l0_0.length c0_0,.int .i64 a0_1] 28 (0,0)) (kA BK174.out) hb)
           have n2_ := Aside0.mk (blk_below (g:=gb175) (o:=.cells #[.slice none 0 0,.int .i64 0] 28 (0,0)) (kA BK175.out) hb)
           have n3_ := Aside0.mk (below_step bA hb)
           clear BK174
           clear BK175
           clear HB
           have HO230 := n0_
           have BK174 := n1_
           have BK175 := n2_
           have HB := n3_
           clear n0_ n1_ n2_ n3_
           clear hb ho77
           refine hK.out _ _ ⟨(blk_cell BK174.out 0).trans rfl,(blk_cell BK174.out 1).trans rfl⟩ (fun hHeld => ?_)
           clear hK K
           refine norm_ (a':=?_) ?_ ?_
           rotate_left
           ·show Act.put _ (some 50) _ = _
            simp only [Act.put,setIfInBounds_toArray,set_cons_zero,set_cons_succ,i64_w,i32_w]
            rfl
           refine two_ (i:=5) (j:=11) (Ni := some 55) (Nj := some 61) (bm 17 10239) (bm 17 12255) rfl rfl rfl rfl (two_of HT_.out (by kernel_rfl)) (by decide) (by decide) (fun K hK => ?_) (fun K hK => ?_)
           ·skip
            refine Kd.R_append_rows_step k71 (w0 := w) w.heap.size (by rfl) (.tmp 50) (.tmp 54) 26 71 (.agg #[(.string ⟨#[]⟩),(.int .i64 0),(.string ⟨#[]⟩)]) 40 rfl Try.underlying26 info71 rfl (by decide) (by omega) v229 y228 y231 _ _ _ (fun _ => True) (fun _ => False) rfl rfl ?aO ?aR (fun _ _ h => h) (fun _ h => h.elim) ?aF ?aB ?aS ?aL ?_
            (case aR => repeat (first | exact (Kd.C_below HR234.out HB.out) | (with_reducible refine Kd.C_alloc ?_ _) | (with_reducible refine Kd.C_drewN ?_ _) | (with_reducible refine Kd.C_drew ?_)))
            (case aB => exact bA)
            (case aF => exact (fun _ _ => trivial))
            (case aO => exact (rA HO230.out))
            (case aS => exact (below_size bA))
            (case aL => have := LMc68.out; omega)
            intro v236 w78 ho hb hg hat
            rw [← Ny235.out] at ho
            have n0_ := Aside0.mk (blk_grown (g:=gb174) (o:=.cells #[.slice A0_0 l0_0.length c0_0,.int .i64 a0_1] 28 (0,0)) (kA BK174.out) hg (Kd.R_ne HO230.out BK174.out (by decide)))
            have n1_ := Aside0.mk (blk_grown (g:=gb175) (o:=.cells #[.slice none 0 0,.int .i64 0] 28 (0,0)) (kA BK175.out) hg (Kd.R_ne HO230.out BK175.out (by decide)))
            have n2_ := Aside0.mk (hb)
            have n3_ := Aside0.mk (ho)
            clear BK174
            clear BK175
            clear HB
            clear HO230
            have BK174 := n0_
            have BK175 := n1_
            have HB := n2_
            have HO237 := n3_
            clear n0_ n1_ n2_ n3_
            clear ho hb hg hat
            refine hK.out _ _ ⟨(blk_cell BK174.out 0).trans rfl,(blk_cell BK174.out 1).trans rfl⟩ (fun hHeld => ?_)
            clear hK K
            refine norm_ (a':=?_) ?_ ?_
            rotate_left
            ·show Act.put _ (some 55) _ = _
             simp only [Act.put,setIfInBounds_toArray,set_cons_zero,set_cons_succ,i64_w,i32_w]
             rfl
            refine one_ (i:=11) (N:=some 61) (bm 17 12287) rfl rfl (one_of HT_.out (by kernel_rfl)) (by decide) (fun K hK => ?_)
            refine Kd.R_lit_step k71 _ 71 ?hg (N:=61) ?hd (xs := ([(⟨a1,a0_1,a2⟩ : S71)] : List (S71))) (inner := [.string a1,.int .i64 a0_1,.string a2]) (ok := fun _ => True) (okp := fun _ => True) ?hr ?hp (fun _ hk => hk) trivial (Below.refl _ _) (Nat.le_refl _) (by simp) ?_; (case hd => rfl); (case hg => rfl); (case hr => first | (go_simp; done) | (go_simp; rfl)); (case hp => exact (Reps.c3 (show Kd.M k71 _ _ _ (⟨a1,a0_1,a2⟩ : S71) [.string a1,.int .i64 a0_1,.string a2] from (k71_mkM _ _ _ (⟨a1,a0_1,a2⟩ : S71) )) (Reps.none _ _)))
            intro v239 w79 ho80 hb hg_ hnew_
            clear hg_ hnew_
            (first | rw [← Ny238.out] at ho80 | (simp only [Int.reduceToNat] at ho80; rw [← Ny238.out] at ho80))
            have n0_ := Aside0.mk (Kd.R_elder' (rA HO237.out) (Kd.R_base ho80) hb)
            have n1_ := Aside0.mk (Kd.R_lower (Kd.R_new' ho80 (Kd.R_lt (rA HO237.out))) (below_size bA))
            have n2_ := Aside0.mk (blk_below (g:=gb174) (o:=.cells #[.slice A0_0 l0_0.length c0_0,.int .i64 a0_1] 28 (0,0)) (kA BK174.out) hb)
            have n3_ := Aside0.mk (blk_below (g:=gb175) (o:=.cells #[.slice none 0 0,.int .i64 0] 28 (0,0)) (kA BK175.out) hb)
            have n4_ := Aside0.mk (below_step bA hb)
            clear HO237
            clear BK174
            clear BK175
            clear HB
            have HO237 := n0_
            have HO240 := n1_
            have BK174 := n2_
            have BK175 := n3_
            have HB := n4_
            clear n0_ n1_ n2_ n3_ n4_
            clear hb ho80
            refine hK.out _ _ ⟨(blk_cell BK174.out 0).trans rfl,(blk_cell BK174.out 1).trans rfl⟩ (fun hHeld => ?_)
            clear hK K
            refine norm_ (a':=?_) ?_ ?_
            rotate_left
            ·show Act.put _ (some 61) _ = _
             simp only [Act.put,setIfInBounds_toArray,set_cons_zero,set_cons_succ,i64_w,i32_w]
             rfl
            exact norm_ (by simp only [putAll,Act.put,setIfInBounds_toArray,set_cons_zero,set_cons_succ]) (hCont (v229,v236,v239) _ ⟨hHeld,(by (with_reducible repeat (first | apply Kd.R_alloc | apply Kd.R_drewN | apply Kd.R_drew)); exact Kd.R_mono HO237.out (fun _ hk => hk.2)),(by (with_reducible repeat (first | apply Kd.R_alloc | apply Kd.R_drewN | apply Kd.R_drew)); exact Kd.R_mono HO240.out (fun _ hk => hk.2)),(kA BK174.out),(kA BK175.out),bA⟩)
           ·skip
            refine Kd.R_lit_step k71 _ 71 ?hg (N:=61) ?hd (xs := ([(⟨a1,a0_1,a2⟩ : S71)] : List (S71))) (inner := [.string a1,.int .i64 a0_1,.string a2]) (ok := fun _ => True) (okp := fun _ => True) ?hr ?hp (fun _ hk => hk) trivial (Below.refl _ _) (Nat.le_refl _) (by simp) ?_; (case hd => rfl); (case hg => rfl); (case hr => first | (go_simp; done) | (go_simp; rfl)); (case hp => exact (Reps.c3 (show Kd.M k71 _ _ _ (⟨a1,a0_1,a2⟩ : S71) [.string a1,.int .i64 a0_1,.string a2] from (k71_mkM _ _ _ (⟨a1,a0_1,a2⟩ : S71) )) (Reps.none _ _)))
            intro v239 w78 ho79 hb hg_ hnew_
            clear hg_ hnew_
            (first | rw [← Ny238.out] at ho79 | (simp only [Int.reduceToNat] at ho79; rw [← Ny238.out] at ho79))
            have n0_ := Aside0.mk (Kd.R_elder' (rA HO230.out) (Kd.R_base ho79) hb)
            have n1_ := Aside0.mk (Kd.R_lower (Kd.R_new' ho79 (Kd.R_lt (rA HO230.out))) (below_size bA))
            have n2_ := Aside0.mk (blk_below (g:=gb174) (o:=.cells #[.slice A0_0 l0_0.length c0_0,.int .i64 a0_1] 28 (0,0)) (kA BK174.out) hb)
            have n3_ := Aside0.mk (blk_below (g:=gb175) (o:=.cells #[.slice none 0 0,.int .i64 0] 28 (0,0)) (kA BK175.out) hb)
            have n4_ := Aside0.mk (below_step bA hb)
            clear HO230
            clear BK174
            clear BK175
            clear HB
            have HO230 := n0_
            have HO240 := n1_
            have BK174 := n2_
            have BK175 := n3_
            have HB := n4_
            clear n0_ n1_ n2_ n3_ n4_
            clear hb ho79
            refine hK.out _ _ ⟨(blk_cell BK174.out 0).trans rfl,(blk_cell BK174.out 1).trans rfl⟩ (fun hHeld => ?_)
            clear hK K
            refine norm_ (a':=?_) ?_ ?_
            rotate_left
            ·show Act.put _ (some 61) _ = _
             simp only [Act.put,setIfInBounds_toArray,set_cons_zero,set_cons_succ,i64_w,i32_w]
             rfl
            refine one_ (i:=5) (N:=some 55) (bm 17 12287) rfl rfl (one_of HT_.out (by kernel_rfl)) (by decide) (fun K hK => ?_)
            refine Kd.R_append_rows_step k71 (w0 := w) w.heap.size (by rfl) (.tmp 50) (.tmp 54) 26 71 (.agg #[(.string ⟨#[]⟩),(.int .i64 0),(.string ⟨#[]⟩)]) 40 rfl Try.underlying26 info71 rfl (by decide) (by omega) v229 y228 y231 _ _ _ (fun k_ => some k_ ≠ (v239 : Value).ownBlock) (fun _ => False) rfl rfl ?aO ?aR (fun _ _ h => h) (fun _ h => h.elim) ?aF ?aB ?aS ?aL ?_
            (case aR => repeat (first | exact (Kd.C_below HR234.out HB.out) | (with_reducible refine Kd.C_alloc ?_ _) | (with_reducible refine Kd.C_drewN ?_ _) | (with_reducible refine Kd.C_drew ?_)))
            (case aB => exact bA)
            (case aF => exact (fun k_ hk => Kd.fresh' (Kd.R_lt (rA HO240.out)) k_ hk))
            (case aO => exact (by (with_reducible repeat (first | apply Kd.R_alloc | apply Kd.R_drewN | apply Kd.R_drew)); exact Kd.R_mono HO230.out (fun _ hk => hk.2)))
            (case aS => exact (below_size bA))
            (case aL => have := LMc68.out; omega)
            intro v236 w80 ho hb hg hat
            rw [← Ny235.out] at ho
            have n0_ := Aside0.mk (blk_grown (g:=gb174) (o:=.cells #[.slice A0_0 l0_0.length c0_0,.int .i64 a0_1] 28 (0,0)) (kA BK174.out) hg (Kd.R_ne HO230.out BK174.out (by decide)))
            have n1_ := Aside0.mk (blk_grown (g:=gb175) (o:=.cells #[.slice none 0 0,.int .i64 0] 28 (0,0)) (kA BK175.out) hg (Kd.R_ne HO230.out BK175.out (by decide)))
            have n2_ := Aside0.mk (Kd.R_after (ok := (fun _ => True)) (rA HO240.out) hg hat)
            have n3_ := Aside0.mk (hb)
            have n4_ := Aside0.mk (ho)
            clear BK174
            clear BK175
            clear HO240
            clear HB
            clear HO230
            have BK174 := n0_
            have BK175 := n1_
            have HO240 := n2_
            have HB := n3_
            have HO237 := n4_
            clear n0_ n1_ n2_ n3_ n4_
            clear ho hb hg hat
            refine hK.out _ _ ⟨(blk_cell BK174.out 0).trans rfl,(blk_cell BK174.out 1).trans rfl⟩ (fun hHeld => ?_)
            clear hK K
            refine norm_ (a':=?_) ?_ ?_
            rotate_left
            ·show Act.put _ (some 55) _ = _
             simp only [Act.put,setIfInBounds_toArray,set_cons_zero,set_cons_succ,i64_w,i32_w]
             rfl
            exact norm_ (by simp only [putAll,Act.put,setIfInBounds_toArray,set_cons_zero,set_cons_succ]) (hCont (v229,v236,v239) _ ⟨hHeld,(rA HO237.out),(by (with_reducible repeat (first | apply Kd.R_alloc | apply Kd.R_drewN | apply Kd.R_drew)); exact Kd.R_mono HO240.out (fun _ hk => hk.2)),(kA BK174.out),(kA BK175.out),bA⟩)
          ·skip
           refine Kd.R_lit_step k71 _ 71 ?hg (N:=61) ?hd (xs := ([(⟨a1,a0_1,a2⟩ : S71)] : List (S71))) (inner := [.string a1,.int .i64 a0_1,.string a2]) (ok := fun _ => True) (okp := fun _ => True) ?hr ?hp (fun _ hk => hk) trivial (Below.refl _ _) (Nat.le_refl _) (by simp) ?_; (case hd => rfl); (case hg => rfl); (case hr => first | (go_simp; done) | (go_simp; rfl)); (case hp => exact (Reps.c3 (show Kd.M k71 _ _ _ (⟨a1,a0_1,a2⟩ : S71) [.string a1,.int .i64 a0_1,.string a2] from (k71_mkM _ _ _ (⟨a1,a0_1,a2⟩ : S71) )) (Reps.none _ _)))
           intro v239 w76 ho77 hb hg_ hnew_
           clear hg_ hnew_
           (first | rw [← Ny238.out] at ho77 | (simp only [Int.reduceToNat] at ho77; rw [← Ny238.out] at ho77))
           have n0_ := Aside0.mk (Kd.R_lower ho77 (below_size bA))
           have n1_ := Aside0.mk (blk_below (g:=gb174) (o:=.cells #[.slice A0_0 l0_0.length c0_0,.int .i64 a0_1] 28 (0,0)) (kA BK174.out) hb)
           have n2_ := Aside0.mk (blk_below (g:=gb175) (o:=.cells #[.slice none 0 0,.int .i64 0] 28 (0,0)) (kA BK175.out) hb)
           have n3_ := Aside0.mk (below_step bA hb)
           clear BK174
           clear BK175
           clear HB
           have HO240 := n0_
           have BK174 := n1_
           have BK175 := n2_
           have HB := n3_
           clear n0_ n1_ n2_ n3_
           clear hb ho77
           refine hK.out _ _ ⟨(blk_cell BK174.out 0).trans rfl,(blk_cell BK174.out 1).trans rfl⟩ (fun hHeld => ?_)
           clear hK K
           refine norm_ (a':=?_) ?_ ?_
           rotate_left
           ·show Act.put _ (some 61) _ = _
            simp only [Act.put,setIfInBounds_toArray,set_cons_zero,set_cons_succ,i64_w,i32_w]
            rfl
           refine one_ (i:=0) (N:=some 50) (bm 17 12255) rfl rfl (one_of HT_.out (by kernel_rfl)) (by decide) (fun K hK => ?_)
           refine Kd.R_lit_step k71 _ 71 ?hg (N:=50) ?hd (xs := ([] : List (S71))) (inner := []) (ok := fun _ => True) (okp := fun _ => True) ?hr ?hp (fun _ hk => hk) trivial (Below.refl _ _) (Nat.le_refl _) (by simp) ?_; (case hd => rfl); (case hg => rfl); (case hr => first | (go_simp; done) | (go_simp; rfl)); (case hp => exact (Reps.none _ _))
           intro v229 w78 ho79 hb hg_ hnew_
           clear hg_ hnew_
           (first | rw [← Ny228.out] at ho79 | (simp only [Int.reduceToNat] at ho79; rw [← Ny228.out] at ho79))
           have n0_ := Aside0.mk (Kd.R_elder' (rA HO240.out) (Kd.R_base ho79) hb)
           have n1_ := Aside0.mk (Kd.R_lower (Kd.R_new' ho79 (Kd.R_lt (rA HO240.out))) (below_size bA))
           have n2_ := Aside0.mk (blk_below (g:=gb174) (o:=.cells #[.slice A0_0 l0_0.length c0_0,.int .i64 a0_1] 28 (0,0)) (kA BK174.out) hb)
           have n3_ := Aside0.mk (blk_below (g:=gb175) (o:=.cells #[.slice none 0 0,.int .i64 0] 28 (0,0)) (kA BK175.out) hb)
           have n4_ := Aside0.mk (below_step bA hb)
           clear HO240
           clear BK174
           clear BK175
           clear HB
           have HO240 := n0_
           have HO230 := n1_
           have BK174 := n2_
           have BK175 := n3_
           have HB := n4_
           clear n0_ n1_ n2_ n3_ n4_
           clear hb ho79
           refine hK.out _ _ ⟨(blk_cell BK174.out 0).trans rfl,(blk_cell BK174.out 1).trans rfl⟩ (fun hHeld => ?_)
           clear hK K
           refine norm_ (a':=?_) ?_ ?_
           rotate_left
           ·show Act.put _ (some 50) _ = _
            simp only [Act.put,setIfInBounds_toArray,set_cons_zero,set_cons_succ,i64_w,i32_w]
            rfl
           refine one_ (i:=5) (N:=some 55) (bm 17 12287) rfl rfl (one_of HT_.out (by kernel_rfl)) (by decide) (fun K hK => ?_)
           refine Kd.R_append_rows_step k71 (w0 := w) w.heap.size (by rfl) (.tmp 50) (.tmp 54) 26 71 (.agg #[(.string ⟨#[]⟩),(.int .i64 0),(.string ⟨#[]⟩)]) 40 rfl Try.underlying26 info71 rfl (by decide) (by omega) v229 y228 y231 _ _ _ (fun k_ => some k_ ≠ (v239 : Value).ownBlock) (fun _ => False) rfl rfl ?aO ?aR (fun _ _ h => h) (fun _ h => h.elim) ?aF ?aB ?aS ?aL ?_
           (case aR => repeat (first | exact (Kd.C_below HR234.out HB.out) | (with_reducible refine Kd.C_alloc ?_ _) | (with_reducible refine Kd.C_drewN ?_ _) | (with_reducible refine Kd.C_drew ?_)))
           (case aB => exact bA)
           (case aF => exact (fun k_ hk => Kd.fresh' (Kd.R_lt (rA HO240.out)) k_ hk))
           (case aO => exact (by (with_reducible repeat (first | apply Kd.R_alloc | apply Kd.R_drewN | apply Kd.R_drew)); exact Kd.R_mono HO230.out (fun _ hk => hk.2)))
           (case aS => exact (below_size bA))
           (case aL => have := LMc68.out; omega)
           intro v236 w80 ho hb hg hat
           rw [← Ny235.out] at ho
           have n0_ := Aside0.mk (blk_grown (g:=gb174) (o:=.cells #[.slice A0_0 l0_0.length c0_0,.int .i64 a0_1] 28 (0,0)) (kA BK174.out) hg (Kd.R_ne HO230.out BK174.out (by decide)))
           have n1_ := Aside0.mk (blk_grown (g:=gb175) (o:=.cells #[.slice none 0 0,.int .i64 0] 28 (0,0)) (kA BK175.out) hg (Kd.R_ne HO230.out BK175.out (by decide)))
           have n2_ := Aside0.mk (Kd.R_after (ok := (fun _ => True)) (rA HO240.out) hg hat)
           have n3_ := Aside0.mk (hb)
           have n4_ := Aside0.mk (ho)
           clear BK174
           clear BK175
           clear HO240
           clear HB
           clear HO230
           have BK174 := n0_
           have BK175 := n1_
           have HO240 := n2_
           have HB := n3_
           have HO237 := n4_
           clear n0_ n1_ n2_ n3_ n4_
           clear ho hb hg hat
           refine hK.out _ _ ⟨(blk_cell BK174.out 0).trans rfl,(blk_cell BK174.out 1).trans rfl⟩ (fun hHeld => ?_)
           clear hK K
           refine norm_ (a':=?_) ?_ ?_
           rotate_left
           ·show Act.put _ (some 55) _ = _
            simp only [Act.put,setIfInBounds_toArray,set_cons_zero,set_cons_succ,i64_w,i32_w]
            rfl
           exact norm_ (by simp only [putAll,Act.put,setIfInBounds_toArray,set_cons_zero,set_cons_succ]) (hCont (v229,v236,v239) _ ⟨hHeld,(rA HO237.out),(by (with_reducible repeat (first | apply Kd.R_alloc | apply Kd.R_drewN | apply Kd.R_drew)); exact Kd.R_mono HO240.out (fun _ hk => hk.2)),(kA BK174.out),(kA BK175.out),bA⟩)
         rintro ⟨v229,v236,v239⟩ w81 ⟨hS_,h0_,h1_,h2_,h3_,h4_⟩
         have n0_ : Aside0 (Kd.R k71 71 w81 w.heap.size (fun k_ => some k_ ≠ (v239 : Value).ownBlock) v236 y235) := ⟨h0_⟩
         have n1_ : Aside0 (Kd.R k71 71 w81 w.heap.size (fun k_ => some k_ ≠ (v236 : Value).ownBlock) v239 y238) := ⟨h1_⟩
         have n2_ : Aside0 (w81.heap[gb174]? = some (.cells #[.slice A0_0 l0_0.length c0_0,.int .i64 a0_1] 28 (0,0))) := ⟨h2_⟩
         have n3_ : Aside0 (w81.heap[gb175]? = some (.cells #[.slice none 0 0,.int .i64 0] 28 (0,0))) := ⟨h3_⟩
         have n4_ : Aside0 (Below w.heap.size w w81) := ⟨h4_⟩
         clear BK174
         clear BK175
         clear HB
         clear h0_ h1_ h2_ h3_ h4_
         have HO237 := n0_
         have HO240 := n1_
         have BK174 := n2_
         have BK175 := n3_
         have HB := n4_
         clear n0_ n1_ n2_ n3_ n4_
         have hHeld : w81.cell? ⟨gb174,0,none⟩ = some (.slice A0_0 l0_0.length c0_0) ∧ w81.cell? ⟨gb174,1,none⟩ = some (.int .i64 a0_1) := hS_
         obtain ⟨Ao83,co83,eo83⟩ := Kd.R_slice HO240.out
         (first | subst eo83 | (injection eo83 with f1_ f2_ f3_; have f4_ := f1_.symm; have f5_ := f3_.symm; clear f1_ f2_ f3_; subst f4_; subst f5_))
         refine norm_ (a':=?_) ?_ ?_
         rotate_left
         ·simp only [putAll,Act.put,setIfInBounds_toArray,set_cons_zero,set_cons_succ]
          rfl
         refine one_ (i:=12) (N:=some 62) (bm 17 16383) rfl rfl (one_of HT_.out (by kernel_rfl)) (by decide) (fun K hK => ?_)
         refine Kd.R_append_rows_step k71 (w0 := w) w.heap.size (by rfl) (.tmp 55) (.tmp 61) 26 71 (.agg #[(.string ⟨#[]⟩),(.int .i64 0),(.string ⟨#[]⟩)]) 40 rfl Try.underlying26 info71 rfl (by decide) (by omega) v236 y235 y238 _ _ _ (fun k_ => some k_ ≠ (.slice Ao83 y238.length co83 : Value).ownBlock) (fun _ => False) rfl rfl ?aO ?aR (fun _ _ h => h) (fun _ h => h.elim) ?aF ?aB ?aS ?aL ?_
         (case aR => repeat (first | exact (Kd.R_reads' HO240.out).2.2 | (with_reducible refine Kd.C_alloc ?_ _) | (with_reducible refine Kd.C_drewN ?_ _) | (with_reducible refine Kd.C_drew ?_)))
         (case aB => exact bA)
         (case aF => exact (fun k_ hk => Kd.fresh' (Kd.R_lt (rA HO240.out)) k_ hk))
         (case aO => exact (rA HO237.out))
         (case aS => exact (below_size bA))
         (case aL => have := LMc69.out; omega)
         intro v242 w82 ho hb hg hat
         rw [← Ny241.out] at ho
         have n0_ := Aside0.mk (blk_grown (g:=gb174) (o:=.cells #[.slice A0_0 l0_0.length c0_0,.int .i64 a0_1] 28 (0,0)) (kA BK174.out) hg (Kd.R_ne HO237.out BK174.out (by decide)))
         have n1_ := Aside0.mk (blk_grown (g:=gb175) (o:=.cells #[.slice none 0 0,.int .i64 0] 28 (0,0)) (kA BK175.out) hg (Kd.R_ne HO237.out BK175.out (by decide)))
         have n2_ := Aside0.mk (Kd.R_after (ok := (fun _ => True)) (by (with_reducible repeat (first | apply Kd.R_alloc | apply Kd.R_drewN | apply Kd.R_drew)); exact Kd.R_mono HO240.out (fun _ hk => ⟨trivial,hk⟩)) hg hat)
         have n3_ := Aside0.mk (hb)
         have n4_ := Aside0.mk (ho)
         clear BK174
         clear BK175
         clear HO240
         clear HB
         clear HO237
         have BK174 := n0_
         have BK175 := n1_
         have HO240 := n2_
         have HB := n3_
         have HO243 := n4_
         clear n0_ n1_ n2_ n3_ n4_
         clear ho hb hg hat
         refine hK.out _ _ ⟨(blk_cell BK174.out 0).trans rfl,(blk_cell BK174.out 1).trans rfl⟩ (fun hHeld => ?_)
         clear hK K
         refine norm_ (a':=?_) ?_ ?_
         rotate_left
         ·show Act.put _ (some 62) _ = _
          simp only [Act.put,setIfInBounds_toArray,set_cons_zero,set_cons_succ,i64_w,i32_w]
          rfl
         refine one_ (i:=14) (N:=some 64) (bm 17 32767) rfl rfl (one_of HT_.out (by kernel_rfl)) (by decide) (fun K hK => ?_)
         refine Kd.R_append_rows_step k71 (w0 := w) w.heap.size (by rfl) (.tmp 62) (.tmp 63) 26 71 (.agg #[(.string ⟨#[]⟩),(.int .i64 0),(.string ⟨#[]⟩)]) 40 rfl Try.underlying26 info71 rfl (by decide) (by omega) v242 y241 y224 _ _ _ (fun k_ => some k_ ≠ (.slice Ao83 y238.length co83 : Value).ownBlock) (fun _ => False) rfl rfl ?aO ?aR (fun _ _ h => h) (fun _ h => h.elim) ?aF ?aB ?aS ?aL ?_
         (case aR => repeat (first | exact (Kd.C_below HR227.out HB.out) | (with_reducible refine Kd.C_alloc ?_ _) | (with_reducible refine Kd.C_drewN ?_ _) | (with_reducible refine Kd.C_drew ?_)))
         (case aB => exact bA)
         (case aF => exact (fun k_ hk => Kd.fresh' (Kd.R_lt (rA HO240.out)) k_ hk))
         (case aO => exact (rA HO243.out))
         (case aS => exact (below_size bA))
         (case aL => have := LMc70.out; omega)
         intro v245 w84 ho hb hg hat
         rw [← Ny244.out] at ho
         have n0_ := Aside0.mk (blk_grown (g:=gb174) (o:=.cells #[.slice A0_0 l0_0.length c0_0,.int .i64 a0_1] 28 (0,0)) (kA BK174.out) hg (Kd.R_ne HO243.out BK174.out (by decide)))
         have n1_ := Aside0.mk (blk_grown (g:=gb175) (o:=.cells #[.slice none 0 0,.int .i64 0] 28 (0,0)) (kA BK175.out) hg (Kd.R_ne HO243.out BK175.out (by decide)))
         have n2_ := Aside0.mk (Kd.R_after (ok := (fun _ => True)) (rA HO240.out) hg hat)
         have n3_ := Aside0.mk (hb)
         have n4_ := Aside0.mk (ho)
         clear BK174
         clear BK175
         clear HO240
         clear HB
         clear HO243
         have BK174 := n0_
         have BK175 := n1_
         have HO240 := n2_
         have HB := n3_
         have HO246 := n4_
         clear n0_ n1_ n2_ n3_ n4_
         clear ho hb hg hat
         obtain ⟨Ao85,co85,eo85⟩ := Kd.R_slice HO246.out
         (first | subst eo85 | (injection eo85 with f1_ f2_ f3_; have f4_ := f1_.symm; have f5_ := f3_.symm; clear f1_ f2_ f3_; subst f4_; subst f5_))
         refine hK.out _ _ ⟨(blk_cell BK174.out 0).trans rfl,(blk_cell BK174.out 1).trans rfl⟩ (fun hHeld => ?_)
         clear hK K
         refine norm_ (a':=?_) ?_ ?_
         rotate_left
         ·show Act.put _ (some 64) _ = _
          simp only [Act.put,setIfInBounds_toArray,set_cons_zero,set_cons_succ,i64_w,i32_w]
          rfl
         refine pV_ 15 65 (bm 17 65535) HT_.out ?_
         refine last_ (i:=16) (N:=none) (bm 17 131071) rfl rfl (one_of HT_.out (by kernel_rfl)) (by decide) (fun K hK => ?_)
         have hs86 : w84.cell? ⟨gb174,0,none⟩ = some (.slice A0_0 l0_0.length c0_0) := (blk_cell BK174.out 0).trans rfl
         have hfs86 := blk_frozen BK174.out 0
         have hns86_1 := NB175_174.out
         have hms86_1 := NB174_175.out
         refine skip_ (w1 := ?_) (by rfl) rfl ?_ ?_
         rotate_left
         ·go_simp
          rfl
         refine hK.out _ _ ?_
         clear hK K
         refine done_ (done_of HT_.out (by kernel_rfl)) ?_
         have hcz87_0 : w84.cell? ⟨gb174,0,none⟩ = some (.slice A0_0 l0_0.length c0_0) := (blk_cell BK174.out 0).trans rfl
         have hcz87_1 : w84.cell? ⟨gb174,1,none⟩ = some (.int .i64 a0_1) := (blk_cell BK174.out 1).trans rfl
         have hfz87_0 := blk_frozen BK174.out 0
         have hfz87_1 := blk_frozen BK174.out 1
         have hcz88_0 : w84.cell? ⟨gb175,0,none⟩ = some (.slice none 0 0) := (blk_cell BK175.out 0).trans rfl
         have hcz88_1 : w84.cell? ⟨gb175,1,none⟩ = some (.int .i64 0) := (blk_cell BK175.out 1).trans rfl
         have hfz88_0 := blk_frozen BK175.out 0
         have hfz88_1 := blk_frozen BK175.out 1
         try go_wp2
         refine bodyPost_ret (results_cell_row rfl _ _ gb175 28 #[.slice Ao85 y244.length co85,.int .i64 (wrap64 (a0_1 + 1))] (0,0) _ rfl (by (with_reducible repeat (first | refine blk_drewN ?_ _ | refine blk_drew ?_ | refine blk_alloc ?_ _)); refine blk_put (cs := #[.slice Ao85 y244.length co85,.int .i64 0]) ?_ 1 _ rfl; (with_reducible repeat (first | refine blk_drewN ?_ _ | refine blk_drew ?_ | refine blk_alloc ?_ _)); refine blk_put (cs := #[.slice none 0 0,.int .i64 0]) ?_ 0 _ rfl; (with_reducible repeat (first | refine blk_drewN ?_ _ | refine blk_drew ?_ | refine blk_alloc ?_ _)); refine blk_far ?_ NB175_174.out _; (with_reducible repeat (first | refine blk_drewN ?_ _ | refine blk_drew ?_ | refine blk_alloc ?_ _)); refine blk_far ?_ NB175_174.out _; (with_reducible repeat (first | refine blk_drewN ?_ _ | refine blk_drew ?_ | refine blk_alloc ?_ _)); exact BK175.out) Try.underlying28 rfl (by kernel_rfl)) rfl ?_
         exact ⟨_,by first | rfl | (simp only [i64_w,i32_w] <;> rfl) | (simp [errW_none,errW_some] <;> rfl) | (simp [*,errW_none,errW_some] <;> rfl),by (with_reducible repeat (first | apply Kd.R_alloc | apply Kd.R_drewN | apply Kd.R_drew)); exact Kd.R_mono (Kd.R_far (p:=⟨gb175,1,none⟩) (Kd.R_far (p:=⟨gb175,0,none⟩) (Kd.R_far (p:=⟨gb174,1,none⟩) (Kd.R_far (p:=⟨gb174,0,none⟩) (Kd.R_types (Kd.R_types HO246.out BK174.out (by decide)) BK175.out (by decide)) (fun _ hk => hk.1.2) (.slice Ao85 y244.length co85)) (fun _ hk => hk.1.2) (.int .i64 (wrap64 (a0_1 + 1)))) (fun _ hk => hk.2) (.slice Ao85 y244.length co85)) (fun _ hk => hk.2) (.int .i64 (wrap64 (a0_1 + 1)))) (fun _ hk => trivial),bA⟩
        ·rw [if_neg c70] at H
         exact absurd H (by simp)
       ·rw [if_neg c69] at H
        exact absurd H (by simp)
      ·rw [if_neg c68] at H
       exact absurd H (by simp)
     ·rw [if_neg c65] at H
      exact absurd H (by simp)
    ·rw [if_neg c64] at H
     exact absurd H (by simp)

end Go.Proofs.Ytbodkbaniebfaaa.XFnExactPutVersion
