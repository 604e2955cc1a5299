-- Printed by this session's own program wip/tools/xprint.py, which widens the kit's print. Not trusted: Lean checks it.
import Derived.Test.YtgkfemnfbkgeiaaXFnCasx0
import Derived.Test.YtgkfemnfbkgeiaaXFnCasx1
namespace Go.Proofs.Ytgkfemnfbkgeiaa.XFnCas
open List (setIfInBounds_toArray set_cons_zero set_cons_succ)
open Go.RowKit Go.Proofs.YtgkfemnfbkgeiaaW.PrintWords Go.Proofs.YtgkfemnfbkgeiaaW.PrintLast Go.Proofs.YtgkfemnfbkgeiaaW.PrintMore
attribute [local go_sem] max2_int min2_int max_two min_two max_three min_three max_four min_four   -- for this text's walks alone
set_option linter.unusedVariables false
set_option linter.unusedSimpArgs false

attribute [local go_sem high] eqA32
/-! ### laws_sameStore: function 16 -/
mutual
def laws_sameStore.j0 : Nat → Bool → List (S32) → Int → List (S32) → Int → Option (Bool)
 | 0,_,_,_,_,_ => none
 | k + 1,x19,x466000,x466001,x467000,x467001 => if x19 = true then (some false) else (laws_sameStore.l0 k 0 x466000 x466001 x467000 x467001)
def laws_sameStore.l0 : Nat → Int → List (S32) → Int → List (S32) → Int → Option (Bool)
 | 0,_,_,_,_,_ => none
 | k + 1,x5,x466000,x466001,x467000,x467001 => if x5 < (x466000.length : Int) then (if 0 ≤ x5 then (if x5 < (x467000.length : Int) then (if (!((((rd_T32 x466000 x5).f0).toList) == (((rd_T32 x467000 x5).f0).toList)) || (!(((rd_T32 x466000 x5).f1) == ((rd_T32 x467000 x5).f1)) || (!((((rd_T32 x466000 x5).f2).toList) == (((rd_T32 x467000 x5).f2).toList))))) = true then (some false) else (laws_sameStore.l0 k (wrap64 (x5 + 1)) x466000 x466001 x467000 x467001)) else (none)) else (none)) else (some true)
end
def laws_sameStore.f (k : Nat) (l0_0 : List (S32)) (a0_1 : Int) (l1_0 : List (S32)) (a1_1 : Int) : Option (Bool) := if a0_1 = a1_1 then (laws_sameStore.j0 k ((l0_0.length : Int) != (l1_0.length : Int)) l0_0 a0_1 l1_0 a1_1) else (laws_sameStore.j0 k true l0_0 a0_1 l1_0 a1_1)
theorem laws_sameStore.mono_l : ∀ k,(∀ y0 y1 y2 y3 y4,LeO (laws_sameStore.j0 k y0 y1 y2 y3 y4) (laws_sameStore.j0 (k + 1) y0 y1 y2 y3 y4)) ∧ (∀ y0 y1 y2 y3 y4,LeO (laws_sameStore.l0 k y0 y1 y2 y3 y4) (laws_sameStore.l0 (k + 1) y0 y1 y2 y3 y4))
 | 0 => ⟨fun _ _ _ _ _ r h => by simp [laws_sameStore.j0] at h,fun _ _ _ _ _ r h => by simp [laws_sameStore.l0] at h⟩
 | k + 1 => by
  obtain ⟨ih0,ih1⟩ := laws_sameStore.mono_l k
  refine ⟨?_,?_⟩
  all_goals
   intros
   first | unfold laws_sameStore.j0 | unfold laws_sameStore.l0
   repeat' first
   | (with_reducible first | exact ih0 .. | exact ih1 .. | exact LeO.refl _ | exact LeO.none _ | refine LeO.ite ?_ ?_ | refine LeO.bind ?_ (fun _ => ?_))
   | exact LeO.none _ | refine LeO.ite ?_ ?_ | refine LeO.bind ?_ (fun _ => ?_)
theorem laws_sameStore.mono : ∀ a0 a1 a2 a3 k,LeO (laws_sameStore.f k a0 a1 a2 a3) (laws_sameStore.f (k + 1) a0 a1 a2 a3) := by
 intro a0 a1 a2 a3 k
 obtain ⟨ih0,ih1⟩ := laws_sameStore.mono_l k
 unfold laws_sameStore.f
 repeat' first
 | (with_reducible first | exact ih0 .. | exact ih1 .. | exact LeO.refl _ | exact LeO.none _ | refine LeO.ite ?_ ?_ | refine LeO.bind ?_ (fun _ => ?_))
 | exact LeO.none _ | refine LeO.ite ?_ ?_ | refine LeO.bind ?_ (fun _ => ?_)
set_option maxHeartbeats 8000000 in
set_option maxRecDepth 100000 in
theorem laws_sameStore.calls (k : Nat) (A0_0 : Option Addr) (c0_0 : Nat) (l0_0 : List (S32)) (a0_1 : Int) (A1_0 : Option Addr) (c1_0 : Nat) (l1_0 : List (S32)) (a1_1 : Int) (r : Bool) (w : World) (hr0_0 : Kd.C k32 w A0_0 l0_0.length l0_0) (hc0_0 : l0_0.length ≤ c0_0) (hr1_0 : Kd.C k32 w A1_0 l1_0.length l1_0) (hc1_0 : l1_0.length ≤ c1_0) (h : laws_sameStore.f k l0_0 a0_1 l1_0 a1_1 = some r) :
  Calls Try.prog 16 #[.agg #[.slice A0_0 l0_0.length c0_0,.int .i64 a0_1],.agg #[.slice A1_0 l1_0.length c1_0,.int .i64 a1_1]] w fun e w' => e = .returned (.bool r) ∧ Below w.heap.size w w' := by
 have hu25 := Try.underlying25
 have hu32 := Try.underlying32
 have HR0_0 := Aside0.mk hr0_0
 have HC0_0 := Aside0.mk hc0_0
 clear hr0_0 hc0_0
 have HR1_0 := Aside0.mk hr1_0
 have HC1_0 := Aside0.mk hc1_0
 clear hr1_0 hc1_0
 have HB := Aside0.mk (Below.refl w.heap.size w)
 have H : (if a0_1 = a1_1 then (laws_sameStore.j0 k ((l0_0.length : Int) != (l1_0.length : Int)) l0_0 a0_1 l1_0 a1_1) else (laws_sameStore.j0 k true l0_0 a0_1 l1_0 a1_1)) = some r := h
 clear h
 have HC3 := Aside0.mk H
 clear H
 go_enter Try.func16,Try.ntmps16
 go_upto_region 1 with (first | ((with_reducible refine gate_dst (N:=2) rfl ?_); (try (refine gate_guard (by rfl) ?_; dsimp only)); refine box_event ?hg (N:=2) ?hd (cs := #[.slice A0_0 l0_0.length c0_0,.int .i64 a0_1]) (t:=25) ?hr ?_; (case hd => rfl); (case hg => rfl); (case hr => first | (go_simp; done) | (go_simp; rfl)); intro gb465 hg w4 hbox hb; have BK465 := Aside0.mk (hbox); have GW465 := Aside0.mk ((gw hg : w.heap.size ≤ gb465)); have GE465 := Aside0.mk ((gw hg : w.heap.size ≤ gb465)); replace HB := Aside0.mk (below_step bA hb); clear hb hbox hg) | ((with_reducible refine gate_dst (N:=3) rfl ?_); (try (refine gate_guard (by rfl) ?_; dsimp only)); refine box_event ?hg (N:=3) ?hd (cs := #[.slice A1_0 l1_0.length c1_0,.int .i64 a1_1]) (t:=25) ?hr ?_; (case hd => rfl); (case hg => rfl); (case hr => first | (go_simp; done) | (go_simp; rfl)); intro gb466 hg w5 hbox hb; have BK466 := Aside0.mk (hbox); have GW466 := Aside0.mk ((gw hg : w.heap.size ≤ gb466)); have GE466 := Aside0.mk ((gw hg : w.heap.size ≤ gb466)); replace HB := Aside0.mk (below_step bA hb); have NB465_466 := Aside0.mk ((nl hg BK465.out)); have NB466_465 := Aside0.mk ((ng hg BK465.out)); replace BK465 := Aside0.mk (bb BK465.out hb); clear hb hbox hg))
 repeat (go_quiet (first | ((with_reducible refine gate_dst (N:=2) rfl ?_); (try (refine gate_guard (by rfl) ?_; dsimp only)); refine box_event ?hg (N:=2) ?hd (cs := #[.slice A0_0 l0_0.length c0_0,.int .i64 a0_1]) (t:=25) ?hr ?_; (case hd => rfl); (case hg => rfl); (case hr => first | (go_simp; done) | (go_simp; rfl)); intro gb465 hg w4 hbox hb; have BK465 := Aside0.mk (hbox); have GW465 := Aside0.mk ((gw hg : w.heap.size ≤ gb465)); have GE465 := Aside0.mk ((gw hg : w.heap.size ≤ gb465)); replace HB := Aside0.mk (below_step bA hb); clear hb hbox hg) | ((with_reducible refine gate_dst (N:=3) rfl ?_); (try (refine gate_guard (by rfl) ?_; dsimp only)); refine box_event ?hg (N:=3) ?hd (cs := #[.slice A1_0 l1_0.length c1_0,.int .i64 a1_1]) (t:=25) ?hr ?_; (case hd => rfl); (case hg => rfl); (case hr => first | (go_simp; done) | (go_simp; rfl)); intro gb466 hg w5 hbox hb; have BK466 := Aside0.mk (hbox); have GW466 := Aside0.mk ((gw hg : w.heap.size ≤ gb466)); have GE466 := Aside0.mk ((gw hg : w.heap.size ≤ gb466)); replace HB := Aside0.mk (below_step bA hb); have NB465_466 := Aside0.mk ((nl hg BK465.out)); have NB466_465 := Aside0.mk ((ng hg BK465.out)); replace BK465 := Aside0.mk (bb BK465.out hb); clear hb hbox hg)); go_upto_region 1 with (first | ((with_reducible refine gate_dst (N:=2) rfl ?_); (try (refine gate_guard (by rfl) ?_; dsimp only)); refine box_event ?hg (N:=2) ?hd (cs := #[.slice A0_0 l0_0.length c0_0,.int .i64 a0_1]) (t:=25) ?hr ?_; (case hd => rfl); (case hg => rfl); (case hr => first | (go_simp; done) | (go_simp; rfl)); intro gb465 hg w4 hbox hb; have BK465 := Aside0.mk (hbox); have GW465 := Aside0.mk ((gw hg : w.heap.size ≤ gb465)); have GE465 := Aside0.mk ((gw hg : w.heap.size ≤ gb465)); replace HB := Aside0.mk (below_step bA hb); clear hb hbox hg) | ((with_reducible refine gate_dst (N:=3) rfl ?_); (try (refine gate_guard (by rfl) ?_; dsimp only)); refine box_event ?hg (N:=3) ?hd (cs := #[.slice A1_0 l1_0.length c1_0,.int .i64 a1_1]) (t:=25) ?hr ?_; (case hd => rfl); (case hg => rfl); (case hr => first | (go_simp; done) | (go_simp; rfl)); intro gb466 hg w5 hbox hb; have BK466 := Aside0.mk (hbox); have GW466 := Aside0.mk ((gw hg : w.heap.size ≤ gb466)); have GE466 := Aside0.mk ((gw hg : w.heap.size ≤ gb466)); replace HB := Aside0.mk (below_step bA hb); have NB465_466 := Aside0.mk ((nl hg BK465.out)); have NB466_465 := Aside0.mk ((ng hg BK465.out)); replace BK465 := Aside0.mk (bb BK465.out hb); clear hb hbox hg)))
 (try simp only [Act.put,setIfInBounds_toArray,set_cons_zero,set_cons_succ])
 go_cut [19] (fun v19 wc => ∃ (kq : Nat) (x19_2 : Bool),v19 = .bool x19_2 ∧ Aside0 (laws_sameStore.j0 kq x19_2 l0_0 a0_1 l1_0 a1_1 = some r) ∧ Aside0 (kq ≤ k) ∧ Aside0 (wc.heap[gb465]? = some (.cells #[(.slice A0_0 l0_0.length c0_0),.int .i64 a0_1] 25 (0,0))) ∧ Aside0 (wc.heap[gb466]? = some (.cells #[(.slice A1_0 l1_0.length c1_0),.int .i64 a1_1] 25 (0,0))) ∧ Aside0 (Below w.heap.size w wc))
 case first =>
  have H := HC3.out
  clear HC3
  by_cases c6 : a0_1 = a1_1
  ·rw [if_pos c6] at H
   have c6b0 : (a0_1 == a1_1) = true := beq_iff_eq.mpr c6
   have c6b1 : (a0_1 != a1_1) = false := bne_eq_false_iff_eq.mpr c6
   clear c6
   (first | rw [c6b0] | (simp only [i64_w,i32_w]; rw [c6b0]) | skip)
   have H' := Aside0.mk H
   clear H
   have hnb7 := NB465_466.out
   have hnc7 := NB466_465.out
   obtain ⟨hcz8_0,hcz8_1⟩ := cl2 BK465.out
   obtain ⟨hfz8_0,hfz8_1⟩ := fz2 BK465.out
   obtain ⟨hcz9_0,hcz9_1⟩ := cl2 BK466.out
   obtain ⟨hfz9_0,hfz9_1⟩ := fz2 BK466.out
   go_wp2
   repeat (go_quiet (fail); try go_wp2)
   go_meet
   case rel => exact ⟨_,(((l0_0.length : Int) != (l1_0.length : Int))),(by first | rfl | (simp; done) | (simp [*]; done)),H',⟨by first | omega | exact Nat.le_refl _⟩,⟨kA BK465.out⟩,⟨kA BK466.out⟩,⟨bA⟩⟩
  ·rw [if_neg c6] at H
   have c6b0 : (a0_1 == a1_1) = false := beq_eq_false_iff_ne.mpr c6
   have c6b1 : (a0_1 != a1_1) = true := bne_iff_ne.mpr c6
   (first | rw [c6b0] | (simp only [i64_w,i32_w]; rw [c6b0]) | skip)
   have H' := Aside0.mk H
   clear H
   have hnb10 := NB465_466.out
   have hnc10 := NB466_465.out
   obtain ⟨hcz11_0,hcz11_1⟩ := cl2 BK465.out
   obtain ⟨hfz11_0,hfz11_1⟩ := fz2 BK465.out
   obtain ⟨hcz12_0,hcz12_1⟩ := cl2 BK466.out
   obtain ⟨hfz12_0,hfz12_1⟩ := fz2 BK466.out
   go_wp2
   repeat (go_quiet (fail); try go_wp2)
   go_meet
   case rel => exact ⟨_,(true),(by first | rfl | (simp; done) | (simp [*]; done)),H',⟨by first | omega | exact Nat.le_refl _⟩,⟨kA BK465.out⟩,⟨kA BK466.out⟩,⟨bA⟩⟩
 case rest =>
  clear HC3
  try clear c1
  try clear p2
  try clear c6
  try clear c6b0
  try clear c6b1
  try clear c7
  try clear c10
  try clear hcz11_0 hcz11_1
  try clear hcz12_0 hcz12_1
  try clear hcz8_0 hcz8_1
  try clear hcz9_0 hcz9_1
  try clear hfz11_0 hfz11_1
  try clear hfz12_0 hfz12_1
  try clear hfz8_0 hfz8_1
  try clear hfz9_0 hfz9_1
  obtain ⟨kq,x19_2,rfl,HA,HJ2,BK465,BK466,HB⟩ := hcut
  cases kq with
  | zero => exact absurd HA.out (by simp [laws_sameStore.j0])
  | succ kj2 =>
   have H := HA.out
   clear HA
   simp only [laws_sameStore.j0] at H
   by_cases c13 : x19_2 = true
   ·subst c13
    rw [if_pos rfl] at H
    obtain rfl := Option.some.inj H
    go_wp2
    repeat (go_quiet (fail); try go_wp2)
    go_ret
    exact ⟨by first | rfl | (simp only [i64_w,i32_w] <;> rfl) | (simp [errW_none,errW_some] <;> rfl) | (simp [*,errW_none,errW_some] <;> rfl),bA⟩
   ·replace c13 := Bool.eq_false_iff.mpr c13
    subst c13
    rw [if_neg (show ¬ (false = true) by decide)] at H
    have H' := Aside0.mk H
    clear H
    go_wp2
    repeat (go_quiet (fail); try go_wp2)
    go_loopg [5] kj2 (fun kq v5 w' => ∃ (x5_2 : Int),v5 = .int .i64 x5_2 ∧ Aside0 (laws_sameStore.l0 kq x5_2 l0_0 a0_1 l1_0 a1_1 = some r) ∧ Aside0 (kq ≤ kj2) ∧ Aside0 (w'.heap[gb465]? = some (.cells #[(.slice A0_0 l0_0.length c0_0),.int .i64 a0_1] 25 (0,0))) ∧ Aside0 (w'.heap[gb466]? = some (.cells #[(.slice A1_0 l1_0.length c1_0),.int .i64 a1_1] 25 (0,0))) ∧ Aside0 (Below w.heap.size w w'))
    case atStart => exact ⟨(0),(by first | rfl | (simp; done) | (simp [*]; done)),H',⟨Nat.le_refl _⟩,⟨kA BK465.out⟩,⟨kA BK466.out⟩,⟨bA⟩⟩
    case round =>
     clear H'
     try clear c1
     try clear p2
     try clear c6
     try clear c6b0
     try clear c6b1
     try clear c7
     try clear c10
     try clear c13
     try clear hcz11_0 hcz11_1
     try clear hcz12_0 hcz12_1
     try clear hcz8_0 hcz8_1
     try clear hcz9_0 hcz9_1
     try clear hfz11_0 hfz11_1
     try clear hfz12_0 hfz12_1
     try clear hfz8_0 hfz8_1
     try clear hfz9_0 hfz9_1
     try clear p2
     obtain ⟨x5_2,rfl,HA,HK2,BK465,BK466,HB⟩ := hrel
     cases gk with
     | zero => exact absurd HA.out (by simp [laws_sameStore.l0])
     | succ k2 =>
      have H := HA.out
      clear HA
      simp only [laws_sameStore.l0] at H
      by_cases c14 : x5_2 < (l0_0.length : Int)
      ·rw [if_pos c14] at H
       have c14b0 : decide (x5_2 < (l0_0.length : Int)) = true := decide_eq_true c14
       clear c14
       by_cases c15 : 0 ≤ x5_2
       ·rw [if_pos c15] at H
        have c15b0 : decide (0 ≤ x5_2) = true := decide_eq_true c15
        clear c15
        by_cases c16 : x5_2 < (l1_0.length : Int)
        ·rw [if_pos c16] at H
         have c16b0 : decide (x5_2 < (l1_0.length : Int)) = true := decide_eq_true c16
         clear c16
         by_cases c17 : (!((((rd_T32 l0_0 x5_2).f0).toList) == (((rd_T32 l1_0 x5_2).f0).toList)) || (!(((rd_T32 l0_0 x5_2).f1) == ((rd_T32 l1_0 x5_2).f1)) || (!((((rd_T32 l0_0 x5_2).f2).toList) == (((rd_T32 l1_0 x5_2).f2).toList))))) = true
         ·rw [if_pos c17] at H
          have c17b0 : (!((((rd_T32 l0_0 x5_2).f0).toList) == (((rd_T32 l1_0 x5_2).f0).toList)) || (!(((rd_T32 l0_0 x5_2).f1) == ((rd_T32 l1_0 x5_2).f1)) || (!((((rd_T32 l0_0 x5_2).f2).toList) == (((rd_T32 l1_0 x5_2).f2).toList))))) = true := c17
          clear c17
          obtain rfl := Option.some.inj H
          have hnb18 := NB465_466.out
          have hnc18 := NB466_465.out
          obtain ⟨hcz19_0,hcz19_1⟩ := cl2 BK465.out
          obtain ⟨hfz19_0,hfz19_1⟩ := fz2 BK465.out
          have p467 : 0 ≤ (x5_2 : Int) := od
          have q467 : x5_2 < (l0_0.length : Int) := od
          obtain ⟨ad467,e467,hx467_0,hx467_1,hx467_2⟩ := at_T32 HR0_0.out x5_2 p467 q467
          cases e467
          replace hx467_0 := cb HB.out hx467_0
          replace hx467_1 := cb HB.out hx467_1
          replace hx467_2 := cb HB.out hx467_2
          replace p467 := eq_true p467
          replace q467 := eq_true q467
          obtain ⟨hcz20_0,hcz20_1⟩ := cl2 BK466.out
          obtain ⟨hfz20_0,hfz20_1⟩ := fz2 BK466.out
          have p468 : 0 ≤ (x5_2 : Int) := od
          have q468 : x5_2 < (l1_0.length : Int) := od
          obtain ⟨ad468,e468,hx468_0,hx468_1,hx468_2⟩ := at_T32 HR1_0.out x5_2 p468 q468
          cases e468
          replace hx468_0 := cb HB.out hx468_0
          replace hx468_1 := cb HB.out hx468_1
          replace hx468_2 := cb HB.out hx468_2
          replace p468 := eq_true p468
          replace q468 := eq_true q468
          go_wp2
          repeat (go_quiet (fail); try go_wp2)
          go_ret
          exact ⟨by first | rfl | (simp only [i64_w,i32_w] <;> rfl) | (simp [errW_none,errW_some] <;> rfl) | (simp [*,errW_none,errW_some] <;> rfl),bA⟩
         ·rw [if_neg c17] at H
          have c17b0 : (!((((rd_T32 l0_0 x5_2).f0).toList) == (((rd_T32 l1_0 x5_2).f0).toList)) || (!(((rd_T32 l0_0 x5_2).f1) == ((rd_T32 l1_0 x5_2).f1)) || (!((((rd_T32 l0_0 x5_2).f2).toList) == (((rd_T32 l1_0 x5_2).f2).toList))))) = false := by simpa using c17
          clear c17
          have H' := Aside0.mk H
          clear H
          have hnb21 := NB465_466.out
          have hnc21 := NB466_465.out
          obtain ⟨hcz22_0,hcz22_1⟩ := cl2 BK465.out
          obtain ⟨hfz22_0,hfz22_1⟩ := fz2 BK465.out
          have p467 : 0 ≤ (x5_2 : Int) := od
          have q467 : x5_2 < (l0_0.length : Int) := od
          obtain ⟨ad467,e467,hx467_0,hx467_1,hx467_2⟩ := at_T32 HR0_0.out x5_2 p467 q467
          cases e467
          replace hx467_0 := cb HB.out hx467_0
          replace hx467_1 := cb HB.out hx467_1
          replace hx467_2 := cb HB.out hx467_2
          replace p467 := eq_true p467
          replace q467 := eq_true q467
          obtain ⟨hcz23_0,hcz23_1⟩ := cl2 BK466.out
          obtain ⟨hfz23_0,hfz23_1⟩ := fz2 BK466.out
          have p468 : 0 ≤ (x5_2 : Int) := od
          have q468 : x5_2 < (l1_0.length : Int) := od
          obtain ⟨ad468,e468,hx468_0,hx468_1,hx468_2⟩ := at_T32 HR1_0.out x5_2 p468 q468
          cases e468
          replace hx468_0 := cb HB.out hx468_0
          replace hx468_1 := cb HB.out hx468_1
          replace hx468_2 := cb HB.out hx468_2
          replace p468 := eq_true p468
          replace q468 := eq_true q468
          go_wp2
          repeat (go_quiet (fail); try go_wp2)
          go_roundg k2
          case measure => have := HJ2.out; have := HK2.out; omega
          case rel => exact ⟨(wrap64 (x5_2 + 1)),(by first | rfl | (simp; done) | (simp [*]; done)),H',⟨by have := HJ2.out; have := HK2.out; omega⟩,⟨kA BK465.out⟩,⟨kA BK466.out⟩,⟨bA⟩⟩
        ·rw [if_neg c16] at H
         exact absurd H (by simp)
       ·rw [if_neg c15] at H
        exact absurd H (by simp)
      ·rw [if_neg c14] at H
       have c14b0 : decide (x5_2 < (l0_0.length : Int)) = false := decide_eq_false c14
       clear c14
       obtain rfl := Option.some.inj H
       have hnb24 := NB465_466.out
       have hnc24 := NB466_465.out
       obtain ⟨hcz25_0,hcz25_1⟩ := cl2 BK465.out
       obtain ⟨hfz25_0,hfz25_1⟩ := fz2 BK465.out
       go_wp2
       repeat (go_quiet (fail); try go_wp2)
       go_ret
       exact ⟨by first | rfl | (simp only [i64_w,i32_w] <;> rfl) | (simp [errW_none,errW_some] <;> rfl) | (simp [*,errW_none,errW_some] <;> rfl),bA⟩

end Go.Proofs.Ytgkfemnfbkgeiaa.XFnCas
