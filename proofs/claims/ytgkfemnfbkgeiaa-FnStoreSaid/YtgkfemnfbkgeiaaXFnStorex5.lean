-- Printed by this session's own program wip/tools/xprint.py, which widens the kit's print. Not trusted: Lean checks it.
import Derived.Test.YtgkfemnfbkgeiaaXFnStorex0
import Derived.Test.YtgkfemnfbkgeiaaXFnStorex2
import Derived.Test.YtgkfemnfbkgeiaaXFnStorex4
namespace Go.Proofs.Ytgkfemnfbkgeiaa.XFnStore
open List (setIfInBounds_toArray set_cons_zero set_cons_succ)
open Go.RowKit Go.Proofs.YtgkfemnfbkgeiaaW.PrintWords Go.Proofs.YtgkfemnfbkgeiaaW.PrintLast Go.Proofs.YtgkfemnfbkgeiaaW.PrintMore
attribute [local go_sem] max2_int min2_int max_two min_two max_three min_three max_four min_four   -- for this text's walks alone
set_option linter.unusedVariables false
set_option linter.unusedSimpArgs false

/-! ### spec_l00Src_plainStore: function 22 -/
def spec_l00Src_plainStore.l0 : Nat → Int → List Int → Int → Int → List (S32) → Int → Option ((List (S32)) × Int × Int × Int)
 | 0,_,_,_,_,_,_ => none
 | k + 1,x4,x1000,x1001,x1002,x275000,x275001 => if x4 > 0 then ((spec_l00Src_shortKey.f x1000 x1001 x1002).bind fun bt282 => ((spec_l01Get.f k x275000 x275001 bt282.1).bind fun bt285 => ((spec_l00Src_next.f x1000 bt282.2.1 bt282.2.2 5).bind fun bt287 => ((spec_l00Src_some.f k x1000 bt287.2.1 bt287.2.2 bt287.1).bind fun bt290 => ((spec_l01Over.f k x275000 x275001 bt282.1 bt285.2 bt290.1).bind fun bt293 => (if bt285.2 = 0 then ((spec_l00Src_next.f x1000 bt290.2.1 bt290.2.2 5).bind fun bt299 => ((spec_l00Src_some.f k x1000 bt299.2.1 bt299.2.2 bt299.1).bind fun bt302 => ((spec_l01Absent.f k x275000 x275001 bt282.1 bt302.1).bind fun bt305 => (spec_l00Src_plainStore.l0 k (wrap64 (x4 - 1)) x1000 bt302.2.1 bt302.2.2 bt305.1 bt305.2.1)))) else ((spec_l00Src_chance.f x1000 bt290.2.1 bt290.2.2 4).bind fun bt310 => (if bt310.1 = true then ((spec_l01Delete.f k x275000 x275001 bt282.1 bt285.2).bind fun bt313 => (spec_l00Src_plainStore.l0 k (wrap64 (x4 - 1)) x1000 bt310.2.1 bt310.2.2 bt313.1 bt313.2.1)) else (spec_l00Src_plainStore.l0 k (wrap64 (x4 - 1)) x1000 bt310.2.1 bt310.2.2 bt293.1 bt293.2.1))))))))) else ((spec_l01Own.f x275000 x275001).bind fun bt278 => (some (bt278.1,bt278.2,x1001,x1002)))
def spec_l00Src_plainStore.f (k : Nat) (s0_0 : List Int) (s0_1 : Int) (s0_2 : Int) : Option ((List (S32)) × Int × Int × Int) := (spec_NewStore.f).bind fun bt270 => ((spec_l00Src_next.f s0_0 s0_1 s0_2 9).bind fun bt275 => (spec_l00Src_plainStore.l0 k bt275.1 s0_0 bt275.2.1 bt275.2.2 bt270.1 bt270.2))
theorem spec_l00Src_plainStore.mono_l : ∀ k,(∀ y0 y1 y2 y3 y4 y5,LeO (spec_l00Src_plainStore.l0 k y0 y1 y2 y3 y4 y5) (spec_l00Src_plainStore.l0 (k + 1) y0 y1 y2 y3 y4 y5))
 | 0 => fun _ _ _ _ _ _ r h => by simp [spec_l00Src_plainStore.l0] at h
 | k + 1 => by
  have ih0 := spec_l00Src_plainStore.mono_l k
  ·intro y0 y1 y2 y3 y4 y5
   unfold spec_l00Src_plainStore.l0
   repeat' first
   | (with_reducible first | exact ih0 .. | exact spec_l00Src_some.mono .. | exact spec_l01Absent.mono .. | exact spec_l01Delete.mono .. | exact spec_l01Get.mono .. | exact spec_l01Over.mono .. | exact LeO.refl _ | exact LeO.none _ | refine LeO.ite ?_ ?_ | refine LeO.bind ?_ (fun _ => ?_))
   | exact LeO.none _ | refine LeO.ite ?_ ?_ | refine LeO.bind ?_ (fun _ => ?_)
theorem spec_l00Src_plainStore.mono : ∀ a0 a1 a2 k,LeO (spec_l00Src_plainStore.f k a0 a1 a2) (spec_l00Src_plainStore.f (k + 1) a0 a1 a2) := by
 intro a0 a1 a2 k
 have ih0 := spec_l00Src_plainStore.mono_l k
 unfold spec_l00Src_plainStore.f
 repeat' first
 | (with_reducible first | exact ih0 .. | exact spec_l00Src_some.mono .. | exact spec_l01Absent.mono .. | exact spec_l01Delete.mono .. | exact spec_l01Get.mono .. | exact spec_l01Over.mono .. | exact LeO.refl _ | exact LeO.none _ | refine LeO.ite ?_ ?_ | refine LeO.bind ?_ (fun _ => ?_))
 | exact LeO.none _ | refine LeO.ite ?_ ?_ | refine LeO.bind ?_ (fun _ => ?_)
def spec_l00Src_plainStore.T7 : Bool × List (List Nat × List Nat) := (true,[([],[]),([],[]),([],[]),([],[]),([],[]),([4],[4]),([3,5,5],[3,5]),([0,1,2,6,6],[0,1,2,6]),([7],[7]),([8],[8]),([8],[8]),([],[]),([11,9,7,0,1,2,3,4,5,6,7,8,9,11],[9,11]),([10,12,0,1,2,3,4,5,6,7,8,9,10,11,12],[10])])
def spec_l00Src_plainStore.B7 : List Nat := [0,0,0,0,0,16,56,127,255,511,511,0,3071,8191]
theorem spec_l00Src_plainStore.tab7 : rtab .any (opsOf Try.f22 7) = spec_l00Src_plainStore.T7 := by kernel_rfl
theorem spec_l00Src_plainStore.bits7 : waitsOk spec_l00Src_plainStore.T7.2 spec_l00Src_plainStore.B7 = true := by kernel_rfl
def spec_l00Src_plainStore.T9 : Bool × List (List Nat × List Nat) := (true,[([],[]),([],[]),([],[]),([],[]),([3],[3]),([2,4,4],[2,4]),([0,1,5,5],[0,1,5]),([6],[6]),([7],[7]),([7],[7]),([8,6,0,1,2,3,4,5,6,7,8],[8])])
def spec_l00Src_plainStore.B9 : List Nat := [0,0,0,0,8,28,63,127,255,255,511]
theorem spec_l00Src_plainStore.tab9 : rtab .any (opsOf Try.f22 9) = spec_l00Src_plainStore.T9 := by kernel_rfl
theorem spec_l00Src_plainStore.bits9 : waitsOk spec_l00Src_plainStore.T9.2 spec_l00Src_plainStore.B9 = true := by kernel_rfl
set_option maxHeartbeats 8000000 in
set_option maxRecDepth 100000 in
theorem spec_l00Src_plainStore.calls (k : Nat) (g : Nat) (s0_0 : List Int) (s0_1 : Int) (s0_2 : Int) (r1 : List (S32)) (r2 : Int) (r3 : Int) (r4 : Int) (w0 w : World) (hI : IsS68 w0 w g s0_0 s0_1 s0_2) (hB : Below w0.heap.size w0 w) (h : spec_l00Src_plainStore.f k s0_0 s0_1 s0_2 = some (r1,r2,r3,r4)) :
  Calls Try.prog 22 #[.pointer (some ⟨g,0,none⟩)] w fun e w' => ∃ v0_ : Value,e = .returned (.agg #[v0_,.int .i64 r2]) ∧ Kd.R k32 32 w' w.heap.size (fun _ => True) v0_ r1 ∧ IsS68 w0 w' g s0_0 r3 r4 ∧ Below w0.heap.size w0 w' ∧ KeepBut w w' g none := by
 have hu25 := Try.underlying25
 have HI0 := Aside0.mk hI
 have HK := Aside0.mk (KeepBut.refl w g none)
 have HL := Aside0.mk hB.size
 clear hI
 have HW0 := Aside0.mk hB.size
 have HB := Aside0.mk hB
 clear hB
 have H : ((spec_NewStore.f).bind fun bt270 => ((spec_l00Src_next.f s0_0 s0_1 s0_2 9).bind fun bt275 => (spec_l00Src_plainStore.l0 k bt275.1 s0_0 bt275.2.1 bt275.2.2 bt270.1 bt270.2))) = some (r1,r2,r3,r4) := h
 clear h
 replace H := Option.bind_eq_some_iff.mp H
 obtain ⟨⟨t270,t273⟩,A20,H⟩ := H
 try dsimp only at H
 have A2 := Aside0.mk A20
 clear A20
 replace H := Option.bind_eq_some_iff.mp H
 obtain ⟨⟨t275,t276,t277⟩,A30,H⟩ := H
 try dsimp only at H
 have A3 := Aside0.mk A30
 clear A30
 have H' := Aside0.mk H
 clear H
 go_enter Try.func22,Try.ntmps22
 go_wp2_with (first | ((with_reducible refine gate_dst (N:=2) rfl ?_); refine bxe (N:=2) (cs := #[.slice none 0 0,.int .i64 0]) (t:=25) ?_; intro gb269 hg w4 hbox hb; replace HB := Aside0.mk (below_step bI68 hb); have BK269 := Aside0.mk (hbox); have GW269 := Aside0.mk ((gk (g:=g) hg kK : w.heap.size ≤ gb269)); have GE269 := Aside0.mk ((Nat.le_trans HW0.out (gk (g:=g) hg kK : w.heap.size ≤ gb269) : w0.heap.size ≤ gb269)); replace HK := Aside0.mk (KeepBut.trans kK (KeepBut.of_below hb g none) (.inl rfl)); have NB0_269 := Aside0.mk ((by rw [hg]; exact Nat.ne_of_lt (IsS68.lt (show IsS68 w0 _ g s0_0 s0_1 s0_2 from by exact iS68)) : g ≠ gb269)); have NB269_0 := Aside0.mk ((by rw [hg]; exact Nat.ne_of_gt (IsS68.lt (show IsS68 w0 _ g s0_0 s0_1 s0_2 from by exact iS68)) : gb269 ≠ g)); replace HI0 := Aside0.mk (IsS68.below iS68 hb); clear hb hbox hg) | ((with_reducible refine gate_callee (f:=45) rfl ?_); refine goesL_ (some 10) rfl rfl Try.func45 (by kernel_rfl) rfl #[] rfl mA ?_; (with_reducible refine (spec_NewStore.calls  t270 t273 _ A2.out).mono ?_); rintro e w5 ⟨v271,rfl,ho0,hb⟩; refine ⟨_,rfl,?_⟩; have HO272 := Aside0.mk (Kd.R_lower ho0 (keep_size (w:=w) (g:=g) (row := none) kK)); replace BK269 := bbA BK269 hb; replace HK := Aside0.mk (KeepBut.trans kK (KeepBut.of_below hb g none) (.inl rfl)); replace HB := Aside0.mk (below_step bI68 hb); replace HI0 := Aside0.mk (IsS68.below iS68 hb); clear hb; (try clear ho0)) | ((with_reducible refine gate_dst (N:=3) rfl ?_); refine bxe (N:=3) (cs := #[.slice none 0 0,.int .i64 0]) (t:=25) ?_; intro gb274 hg w6 hbox hb; replace HO272 := Aside0.mk (Kd.R_below (rA HO272.out) hb); replace HB := Aside0.mk (below_step bI68 hb); have BK274 := Aside0.mk (hbox); have GW274 := Aside0.mk ((gk (g:=g) hg kK : w.heap.size ≤ gb274)); have GE274 := Aside0.mk ((Nat.le_trans HW0.out (gk (g:=g) hg kK : w.heap.size ≤ gb274) : w0.heap.size ≤ gb274)); replace HK := Aside0.mk (KeepBut.trans kK (KeepBut.of_below hb g none) (.inl rfl)); have NB269_274 := Aside0.mk ((nl hg BK269.out)); have NB274_269 := Aside0.mk ((ng hg BK269.out)); replace BK269 := bbA BK269 hb; have NB0_274 := Aside0.mk ((by rw [hg]; exact Nat.ne_of_lt (IsS68.lt (show IsS68 w0 _ g s0_0 s0_1 s0_2 from by exact iS68)) : g ≠ gb274)); have NB274_0 := Aside0.mk ((by rw [hg]; exact Nat.ne_of_gt (IsS68.lt (show IsS68 w0 _ g s0_0 s0_1 s0_2 from by exact iS68)) : gb274 ≠ g)); replace HI0 := Aside0.mk (IsS68.below iS68 hb); clear hb hbox hg; obtain ⟨Ao7,co7,eo7⟩ := Kd.R_slice HO272.out; subst eo7; have hnb8 := NB274_269.out; have hnc8 := NB269_274.out; have hnb9 := NB274_0.out; have hnc9 := NB0_274.out; obtain ⟨hcz10_0,hcz10_1⟩ := cl2 BK274.out; obtain ⟨hfz10_0,hfz10_1⟩ := fz2 BK274.out) | ((with_reducible refine gate_callee (f:=46) rfl ?_); refine goesL_ (some 12) rfl rfl Try.func46 (by kernel_rfl) rfl #[.pointer (some ⟨g,0,none⟩),.int .i64 9] rfl mA ?_; (with_reducible refine (spec_l00Src_next.calls g s0_0 s0_1 s0_2 9 t275 t276 t277 w0 _ ?side1 ?side2 A3.out).mono ?_); (case side1 => exact iS68); (case side2 => exact bI68); rintro e w11 ⟨rfl,hi,hb,hk⟩; refine ⟨_,rfl,?_⟩; replace BK269 := Aside0.mk (KeepBut.blk hk (g':=gb269) (o:=.cells #[.slice none 0 0,.int .i64 0] 25 (0,0)) (kF BK269.out) NB269_0.out (by simp)); replace HO272 := Aside0.mk (Kd.R_mono (Kd.R_keep (IsS68.apart (show IsS68 w0 _ g s0_0 s0_1 s0_2 from by exact iS68) (by (with_reducible repeat (first | apply Kd.R_alloc | apply Kd.R_drewN | apply Kd.R_drew)); exact (Kd.R_mono (Kd.R_far (p:=⟨gb274,1,none⟩) (Kd.R_far (p:=⟨gb274,0,none⟩) (Kd.R_types HO272.out BK274.out (by decide)) (fun _ hk => hk.2) (.slice Ao7 t270.length co7)) (fun _ hk => hk.2) (.int .i64 t273)) (fun _ h_ => h_.1))) (by decide)) hk (fun _ h => h.2)) (fun _ h => h.1)); replace BK274 := Aside0.mk (KeepBut.blk hk (g':=gb274) (o:=.cells #[.slice Ao7 t270.length co7,.int .i64 t273] 25 (0,0)) (kP2 BK274.out) NB274_0.out (by simp)); replace HK := Aside0.mk (KeepBut.trans kK hk (.inl rfl)); replace HB := Aside0.mk (hb); replace HI0 := Aside0.mk (hi); clear hb hi hk))
 go_loopg [4] k (fun kq v4 w' => ∃ (x4_1 : Int) (x1001_1 : Int) (x1002_1 : Int) (x275000_1 : List (S32)) (x275001_1 : Int) (u275000 : Value),v4 = .int .i64 x4_1 ∧ Aside0 (spec_l00Src_plainStore.l0 kq x4_1 s0_0 x1001_1 x1002_1 x275000_1 x275001_1 = some (r1,r2,r3,r4)) ∧ Aside0 (kq ≤ k) ∧ Aside0 (Kd.V k32 32 w' w.heap.size (fun k_ => k_ ≠ gb269 ∧ k_ ≠ gb274 ∧ k_ ≠ g) u275000 x275000_1) ∧ Aside0 (w'.heap[gb269]? = some (.cells #[(.slice none 0 0),.int .i64 0] 25 (0,0))) ∧ Aside0 (w'.heap[gb274]? = some (.cells #[u275000,.int .i64 x275001_1] 25 (0,0))) ∧ Aside0 (IsS68 w0 w' g s0_0 x1001_1 x1002_1) ∧ Aside0 (KeepBut w w' g none) ∧ Aside0 (Below w0.heap.size w0 w'))
 case atStart => exact ⟨(t275),(t276),(t277),(t270),(t273),(.slice Ao7 t270.length co7),(by first | rfl | (simp; done) | (simp [*]; done)),H',⟨Nat.le_refl _⟩,⟨Kd.R_V (by (with_reducible repeat (first | apply Kd.R_alloc | apply Kd.R_drewN | apply Kd.R_drew)); exact Kd.R_mono (IsS68.apart HI0.out (Kd.R_types (Kd.R_types HO272.out BK269.out (by decide)) BK274.out (by decide)) (by decide)) (fun _ hk => ⟨hk.1.1.2,⟨hk.1.2,hk.2⟩⟩))⟩,⟨kA BK269.out⟩,⟨kA BK274.out⟩,⟨by exact iS68⟩,⟨by exact kK⟩,⟨by exact bI68⟩⟩
 case round =>
  clear H'
  try clear c2
  try clear p2
  try clear c4
  try clear c8
  try clear c9
  try clear hcz10_0 hcz10_1
  try clear hfz10_0 hfz10_1
  obtain ⟨x4_1,x1001_1,x1002_1,x275000_1,x275001_1,u275000,rfl,HA,HK1,HO_275000,BK269,BK274,HI0,HK,HB⟩ := hrel
  cases gk with
  | zero => exact absurd HA.out (by simp [spec_l00Src_plainStore.l0])
  | succ k1 =>
   have H := HA.out
   clear HA
   simp only [spec_l00Src_plainStore.l0] at H
   by_cases c12 : x4_1 > 0
   ·rw [if_pos c12] at H
    have c12b0 : decide (0 < x4_1) = true := decide_eq_true c12
    clear c12
    replace H := Option.bind_eq_some_iff.mp H
    obtain ⟨⟨t282,t283,t284⟩,A130,H⟩ := H
    try dsimp only at H
    have A13 := Aside0.mk A130
    clear A130
    replace H := Option.bind_eq_some_iff.mp H
    obtain ⟨⟨t285,t286⟩,A140,H⟩ := H
    try dsimp only at H
    have A14 := Aside0.mk A140
    clear A140
    replace H := Option.bind_eq_some_iff.mp H
    obtain ⟨⟨t287,t288,t289⟩,A150,H⟩ := H
    try dsimp only at H
    have A15 := Aside0.mk A150
    clear A150
    replace H := Option.bind_eq_some_iff.mp H
    obtain ⟨⟨t290,t291,t292⟩,A160,H⟩ := H
    try dsimp only at H
    have A16 := Aside0.mk A160
    clear A160
    replace H := Option.bind_eq_some_iff.mp H
    obtain ⟨⟨t293,t296,t297⟩,A170,H⟩ := H
    try dsimp only at H
    have A17 := Aside0.mk A170
    clear A170
    by_cases c18 : t286 = 0
    ·rw [if_pos c18] at H
     have c18b0 : (t286 == 0) = true := beq_iff_eq.mpr c18
     have c18b1 : (t286 != 0) = false := bne_eq_false_iff_eq.mpr c18
     clear c18
     replace H := Option.bind_eq_some_iff.mp H
     obtain ⟨⟨t299,t300,t301⟩,A190,H⟩ := H
     try dsimp only at H
     have A19 := Aside0.mk A190
     clear A190
     replace H := Option.bind_eq_some_iff.mp H
     obtain ⟨⟨t302,t303,t304⟩,A200,H⟩ := H
     try dsimp only at H
     have A20 := Aside0.mk A200
     clear A200
     replace H := Option.bind_eq_some_iff.mp H
     obtain ⟨⟨t305,t308,t309⟩,A210,H⟩ := H
     try dsimp only at H
     have A21 := Aside0.mk A210
     clear A210
     have H' := Aside0.mk H
     clear H
     try go_wp2_with (first | ((with_reducible refine gate_callee (f:=47) rfl ?_); refine goesL_ (some 18) rfl rfl Try.func47 (by kernel_rfl) rfl #[.pointer (some ⟨g,0,none⟩)] rfl mA ?_; (with_reducible refine (spec_l00Src_shortKey.calls g s0_0 x1001_1 x1002_1 t282 t283 t284 w0 _ ?side1 ?side2 A13.out).mono ?_); (case side1 => exact iS68); (case side2 => exact bI68); rintro e w22 ⟨rfl,hi,hb,hk⟩; refine ⟨_,rfl,?_⟩; replace HO_275000 := Aside0.mk (Kd.V_mono (Kd.V_keep (Kd.V_mono (ok := fun k_ => (k_ ≠ gb269 ∧ (k_ ≠ gb274 ∧ k_ ≠ g))) (vA HO_275000.out) (fun k_ hk_ => (⟨hk_,hk_.2.2⟩ : _ ∧ k_ ≠ g))) hk (fun _ h => h.2)) (fun _ h => h.1)); replace BK269 := Aside0.mk (kbk hk BK269.out NB269_0.out (by simp)); replace BK274 := Aside0.mk (kbk hk BK274.out NB274_0.out (by simp)); replace HK := Aside0.mk (KeepBut.trans kK hk (.inl rfl)); replace HB := Aside0.mk (hb); replace HI0 := Aside0.mk (hi); clear hb hi hk; have hnb23 := NB274_269.out; have hnc23 := NB269_274.out; have hnb24 := NB274_0.out; have hnc24 := NB0_274.out; obtain ⟨hcz25_0,hcz25_1⟩ := cl2 BK274.out; obtain ⟨hfz25_0,hfz25_1⟩ := fz2 BK274.out; obtain ⟨Ao26,co26,eo26⟩ := Kd.V_slice HO_275000.out; subst eo26) | ((with_reducible refine gate_callee (f:=48) rfl ?_); refine goesL_ (some 22) rfl rfl Try.func48 (by kernel_rfl) rfl #[.agg #[.slice Ao26 x275000_1.length co26,.int .i64 x275001_1],.string t282] rfl mA ?_; (with_reducible refine (spec_l01Get.calls k1 _ _ x275000_1 x275001_1 t282 t285 t286 _ ?side1 ?side2 A14.out).mono ?_); (case side1 => repeat (first | exact (Kd.V_reads' HO_275000.out).2.2 | (with_reducible refine Kd.C_alloc ?_ _) | (with_reducible refine Kd.C_drewN ?_ _) | (with_reducible refine Kd.C_drew ?_))); (case side2 => exact (Kd.V_reads' HO_275000.out).2.1); rintro e w27 ⟨rfl,hb⟩; refine ⟨_,rfl,?_⟩; replace HO_275000 := Aside0.mk (Kd.V_below (vA HO_275000.out) hb); replace BK269 := bbA BK269 hb; replace BK274 := bbA BK274 hb; replace HK := Aside0.mk (KeepBut.trans kK (KeepBut.of_below hb g none) (.inl rfl)); replace HB := Aside0.mk (below_step bI68 hb); replace HI0 := Aside0.mk (IsS68.below iS68 hb); clear hb))
     replace HO_275000 := Aside0.mk (Kd.V_drew HO_275000.out)
     replace BK269 := Aside0.mk (blk_drew BK269.out)
     replace BK274 := Aside0.mk (blk_drew BK274.out)
     replace HI0 := Aside0.mk (IsS68.drew HI0.out)
     replace HK := Aside0.mk (keep_drew HK.out)
     replace HB := Aside0.mk (below_drew1 HB.out)
     refine start_ (n:=14) (S:=fun w' => w'.cell? ⟨gb274,0,none⟩ = some (.slice Ao26 x275000_1.length co26) ∧ w'.cell? ⟨gb274,1,none⟩ = some (.int .i64 x275001_1)) (ds := []) (bm 14 0) (by kernel_rfl) rfl rfl ⟨bl BK274 0,bl BK274 1⟩ (fun hHeld => ?_); refine with_tabW spec_l00Src_plainStore.tab7 spec_l00Src_plainStore.bits7 (fun HT_ HW_ => ?_)
     generalize w27.drew = w28 at HO_275000 BK269 BK274 HI0 HK HB hHeld ⊢
     refine pV_ 1 27 (bm 14 2) HT_.out ?_
     refine pV_ 2 28 (bm 14 6) HT_.out ?_
     refine pV_ 3 29 (bm 14 14) HT_.out ?_
     refine pV_ 4 30 (bm 14 30) HT_.out ?_
     refine tk 0 26 (bm 14 31) HT_.out HW_.out hHeld ?_
     refine join_ (σ := Value × Nat) 2 (bm 14 4095) (fun s_ => [(31,.int .i64 t287),(32,.string t290),(33,.tuple #[.agg #[s_.1,.int .i64 t296],.int .i64 t297]),(8,.pointer (some ⟨s_.2,0,none⟩)),(25,.tuple #[.agg #[s_.1,.int .i64 t296],.int .i64 t297]),(34,.agg #[s_.1,.int .i64 t296]),(35,.int .i64 t297)]) (fun s_ w' => (w'.cell? ⟨gb274,0,none⟩ = some (.slice Ao26 x275000_1.length co26) ∧ w'.cell? ⟨gb274,1,none⟩ = some (.int .i64 x275001_1)) ∧ (Kd.V k32 32 w' w.heap.size (fun k_ => k_ ≠ g ∧ k_ ≠ gb269 ∧ k_ ≠ gb274 ∧ k_ ≠ s_.2) s_.1 t293) ∧ (Kd.V k32 32 w' w.heap.size (fun k_ => k_ ≠ g ∧ k_ ≠ gb269 ∧ k_ ≠ gb274 ∧ k_ ≠ s_.2) (.slice Ao26 x275000_1.length co26) x275000_1) ∧ (w'.heap[gb269]? = some (.cells #[.slice none 0 0,.int .i64 0] 25 (0,0))) ∧ (w'.heap[gb274]? = some (.cells #[.slice Ao26 x275000_1.length co26,.int .i64 x275001_1] 25 (0,0))) ∧ (w'.heap[s_.2]? = some (.cells #[.slice none 0 0,.int .i64 0] 25 (0,0))) ∧ (w.heap.size ≤ s_.2) ∧ (w0.heap.size ≤ s_.2) ∧ (g ≠ s_.2) ∧ (s_.2 ≠ g) ∧ (gb269 ≠ s_.2) ∧ (s_.2 ≠ gb269) ∧ (gb274 ≠ s_.2) ∧ (s_.2 ≠ gb274) ∧ (IsS68 w0 w' g s0_0 t291 t292) ∧ (KeepBut w w' g none) ∧ (Below w0.heap.size w0 w')) ?_ ?_
     rotate_left
     ·intro hCont
      refine two_ (i:=5) (j:=11) (Ni := some 31) (Nj := some 8) (bm 14 63) (bm 14 2079) rfl rfl rfl rfl (two_of HT_.out (by kernel_rfl)) (by decide) (by decide) (fun K hK => ?_) (fun K hK => ?_)
      ·skip
       refine goes_ Try.func46 (by kernel_rfl) rfl #[.pointer (some ⟨g,0,none⟩),.int .i64 5] (by rfl) rfl rfl mA ?_
       with_reducible refine (spec_l00Src_next.calls g s0_0 t283 t284 5 t287 t288 t289 w0 _ ?side1 ?side2 A15.out).mono ?_
       (case side1 => exact iS68)
       (case side2 => exact bI68)
       rintro e w29 ⟨rfl,hi,hb,hk⟩
       refine ⟨_,rfl,?_⟩
       replace HO_275000 := Aside0.mk (Kd.V_mono (Kd.V_keep (Kd.V_mono (ok := fun k_ => (k_ ≠ gb269 ∧ (k_ ≠ gb274 ∧ k_ ≠ g))) (vA HO_275000.out) (fun k_ hk_ => (⟨hk_,hk_.2.2⟩ : _ ∧ k_ ≠ g))) hk (fun _ h => h.2)) (fun _ h => h.1))
       replace BK269 := Aside0.mk (kbk hk BK269.out NB269_0.out (by simp))
       replace BK274 := Aside0.mk (kbk hk BK274.out NB274_0.out (by simp))
       replace HK := Aside0.mk (KeepBut.trans kK hk (.inl rfl))
       replace HB := Aside0.mk (hb)
       replace HI0 := Aside0.mk (hi)
       clear hb hi hk
       refine hK.out _ _ ⟨bl BK274 0,bl BK274 1⟩ (fun hHeld => ?_)
       clear hK K
       refine nw 31 ?_
       refine two_ (i:=6) (j:=11) (Ni := some 32) (Nj := some 8) (bm 14 127) (bm 14 2111) rfl rfl rfl rfl (two_of HT_.out (by kernel_rfl)) (by decide) (by decide) (fun K hK => ?_) (fun K hK => ?_)
       ·skip
        refine goes_ Try.func33 (by kernel_rfl) rfl #[.pointer (some ⟨g,0,none⟩),.int .i64 t287] (by rfl) rfl rfl mA ?_
        with_reducible refine (spec_l00Src_some.calls k1 g s0_0 t288 t289 t287 t290 t291 t292 w0 _ ?side1 ?side2 A16.out).mono ?_
        (case side1 => exact iS68)
        (case side2 => exact bI68)
        rintro e w30 ⟨rfl,hi,hb,hk⟩
        refine ⟨_,rfl,?_⟩
        replace HO_275000 := Aside0.mk (Kd.V_mono (Kd.V_keep (Kd.V_mono (ok := fun k_ => (k_ ≠ gb269 ∧ (k_ ≠ gb274 ∧ k_ ≠ g))) (vA HO_275000.out) (fun k_ hk_ => (⟨hk_,hk_.2.2⟩ : _ ∧ k_ ≠ g))) hk (fun _ h => h.2)) (fun _ h => h.1))
        replace BK269 := Aside0.mk (kbk hk BK269.out NB269_0.out (by simp))
        replace BK274 := Aside0.mk (kbk hk BK274.out NB274_0.out (by simp))
        replace HK := Aside0.mk (KeepBut.trans kK hk (.inl rfl))
        replace HB := Aside0.mk (hb)
        replace HI0 := Aside0.mk (hi)
        clear hb hi hk
        refine hK.out _ _ ⟨bl BK274 0,bl BK274 1⟩ (fun hHeld => ?_)
        clear hK K
        refine nw 32 ?_
        refine two_ (i:=7) (j:=11) (Ni := some 33) (Nj := some 8) (bm 14 255) (bm 14 2175) rfl rfl rfl rfl (two_of HT_.out (by kernel_rfl)) (by decide) (by decide) (fun K hK => ?_) (fun K hK => ?_)
        ·skip
         refine goes_ Try.func49 (by kernel_rfl) rfl #[.agg #[.slice Ao26 x275000_1.length co26,.int .i64 x275001_1],.string t282,.int .i64 t286,.string t290] (by rfl) rfl rfl mA ?_
         with_reducible refine (spec_l01Over.calls k1 (fun k_ => (k_ ≠ gb269 ∧ (k_ ≠ gb274 ∧ k_ ≠ g))) _ _ x275000_1 x275001_1 t282 t286 t290 t293 t296 t297 _ ?side1 A17.out).mono ?_
         (case side1 => exact HO_275000.out)
         rintro e w31 ⟨v294,rfl,ho0,hb⟩
         refine ⟨_,rfl,?_⟩
         replace HO_275000 := Aside0.mk (Kd.V_below (vA HO_275000.out) hb)
         have HO295 := Aside0.mk (Kd.V_lower (Kd.V_mono (ok' := fun k_ => k_ ≠ gb269 ∧ k_ ≠ gb274 ∧ k_ ≠ g) ho0 (fun k_ hk_ => ⟨Or.elim hk_ (fun hs_ => hs_.1) (fun hn_ => (fB BK269.out k_ hn_)),Or.elim hk_ (fun hs_ => hs_.2.1) (fun hn_ => (fB BK274.out k_ hn_)),Or.elim hk_ (fun hs_ => hs_.2.2) (fun hn_ => (IsS68.fresh iS68 k_ hn_))⟩)) (keep_size (w:=w) (g:=g) (row := none) kK))
         replace BK269 := bbA BK269 hb
         replace BK274 := bbA BK274 hb
         replace HK := Aside0.mk (KeepBut.trans kK (KeepBut.of_below hb g none) (.inl rfl))
         replace HB := Aside0.mk (below_step bI68 hb)
         replace HI0 := Aside0.mk (IsS68.below iS68 hb)
         clear hb
         (try clear ho0)
         refine hK.out _ _ ⟨bl BK274 0,bl BK274 1⟩ (fun hHeld => ?_)
         clear hK K
         refine nw 33 ?_
         refine pV_ 8 25 (bm 14 511) HT_.out ?_
         refine pV_ 9 34 (bm 14 1023) HT_.out ?_
         refine pV_ 10 35 (bm 14 2047) HT_.out ?_
         refine one_ (i:=11) (N:=some 8) (bm 14 4095) rfl rfl (one_of HT_.out (by kernel_rfl)) (by decide) (fun K hK => ?_)
         refine bxs (N:=8) (cs := #[.slice none 0 0,.int .i64 0]) (t:=25) ?_
         intro gb298 hg w32 hbox hb
         replace HO_275000 := Aside0.mk (Kd.V_below (Kd.V_elderB (vA HO_275000.out) gb298 (Nat.le_of_eq hg.symm)) hb)
         replace HO295 := Aside0.mk (Kd.V_below (Kd.V_elderB (vA HO295.out) gb298 (Nat.le_of_eq hg.symm)) hb)
         replace HB := Aside0.mk (below_step bI68 hb)
         have BK298 := Aside0.mk (hbox)
         have GW298 := Aside0.mk ((gk (g:=g) hg kK : w.heap.size ≤ gb298))
         have GE298 := Aside0.mk ((Nat.le_trans HW0.out (gk (g:=g) hg kK : w.heap.size ≤ gb298) : w0.heap.size ≤ gb298))
         replace HK := Aside0.mk (KeepBut.trans kK (KeepBut.of_below hb g none) (.inl rfl))
         have NB269_298 := Aside0.mk ((nl hg BK269.out))
         have NB298_269 := Aside0.mk ((ng hg BK269.out))
         replace BK269 := bbA BK269 hb
         have NB274_298 := Aside0.mk ((nl hg BK274.out))
         have NB298_274 := Aside0.mk ((ng hg BK274.out))
         replace BK274 := bbA BK274 hb
         have NB0_298 := Aside0.mk ((by rw [hg]; exact Nat.ne_of_lt (IsS68.lt (show IsS68 w0 _ g s0_0 t291 t292 from by exact iS68)) : g ≠ gb298))
         have NB298_0 := Aside0.mk ((by rw [hg]; exact Nat.ne_of_gt (IsS68.lt (show IsS68 w0 _ g s0_0 t291 t292 from by exact iS68)) : gb298 ≠ g))
         replace HI0 := Aside0.mk (IsS68.below iS68 hb)
         clear hb hbox hg
         refine hK.out _ _ ⟨bl BK274 0,bl BK274 1⟩ (fun hHeld => ?_)
         clear hK K
         refine nw 8 ?_
         exact norm_ (by simp only [putAll,Act.put,setIfInBounds_toArray,set_cons_zero,set_cons_succ]) (hCont (v294,gb298) _ ⟨hHeld,(vM HO295.out (fun _ hk => ⟨hk.1.2.2,⟨hk.1.1,⟨hk.1.2.1,hk.2⟩⟩⟩)),(vM HO_275000.out (fun _ hk => ⟨hk.1.2.2,⟨hk.1.1,⟨hk.1.2.1,hk.2⟩⟩⟩)),(kA BK269.out),(kA BK274.out),(kA BK298.out),GW298.out,GE298.out,NB0_298.out,NB298_0.out,NB269_298.out,NB298_269.out,NB274_298.out,NB298_274.out,iS68,kK,bI68⟩)
        ·skip
         refine bxs (N:=8) (cs := #[.slice none 0 0,.int .i64 0]) (t:=25) ?_
         intro gb298 hg w31 hbox hb
         replace HO_275000 := Aside0.mk (Kd.V_below (Kd.V_elderB (vA HO_275000.out) gb298 (Nat.le_of_eq hg.symm)) hb)
         replace HB := Aside0.mk (below_step bI68 hb)
         have BK298 := Aside0.mk (hbox)
         have GW298 := Aside0.mk ((gk (g:=g) hg kK : w.heap.size ≤ gb298))
         have GE298 := Aside0.mk ((Nat.le_trans HW0.out (gk (g:=g) hg kK : w.heap.size ≤ gb298) : w0.heap.size ≤ gb298))
         replace HK := Aside0.mk (KeepBut.trans kK (KeepBut.of_below hb g none) (.inl rfl))
         have NB269_298 := Aside0.mk ((nl hg BK269.out))
         have NB298_269 := Aside0.mk ((ng hg BK269.out))
         replace BK269 := bbA BK269 hb
         have NB274_298 := Aside0.mk ((nl hg BK274.out))
         have NB298_274 := Aside0.mk ((ng hg BK274.out))
         replace BK274 := bbA BK274 hb
         have NB0_298 := Aside0.mk ((by rw [hg]; exact Nat.ne_of_lt (IsS68.lt (show IsS68 w0 _ g s0_0 t291 t292 from by exact iS68)) : g ≠ gb298))
         have NB298_0 := Aside0.mk ((by rw [hg]; exact Nat.ne_of_gt (IsS68.lt (show IsS68 w0 _ g s0_0 t291 t292 from by exact iS68)) : gb298 ≠ g))
         replace HI0 := Aside0.mk (IsS68.below iS68 hb)
         clear hb hbox hg
         refine hK.out _ _ ⟨bl BK274 0,bl BK274 1⟩ (fun hHeld => ?_)
         clear hK K
         refine nw 8 ?_
         refine one_ (i:=7) (N:=some 33) (bm 14 2303) rfl rfl (one_of HT_.out (by kernel_rfl)) (by decide) (fun K hK => ?_)
         refine goes_ Try.func49 (by kernel_rfl) rfl #[.agg #[.slice Ao26 x275000_1.length co26,.int .i64 x275001_1],.string t282,.int .i64 t286,.string t290] (by rfl) rfl rfl mA ?_
         with_reducible refine (spec_l01Over.calls k1 (fun k_ => ((k_ ≠ gb269 ∧ (k_ ≠ gb274 ∧ k_ ≠ g)) ∧ k_ ≠ gb298)) _ _ x275000_1 x275001_1 t282 t286 t290 t293 t296 t297 _ ?side1 A17.out).mono ?_
         (case side1 => exact HO_275000.out)
         rintro e w32 ⟨v294,rfl,ho0,hb⟩
         refine ⟨_,rfl,?_⟩
         replace HO_275000 := Aside0.mk (Kd.V_below (vA HO_275000.out) hb)
         have HO295 := Aside0.mk (Kd.V_lower (Kd.V_mono (ok' := fun k_ => k_ ≠ gb269 ∧ k_ ≠ gb274 ∧ k_ ≠ gb298 ∧ k_ ≠ g) ho0 (fun k_ hk_ => ⟨Or.elim hk_ (fun hs_ => hs_.1.1) (fun hn_ => (fB BK269.out k_ hn_)),Or.elim hk_ (fun hs_ => hs_.1.2.1) (fun hn_ => (fB BK274.out k_ hn_)),Or.elim hk_ (fun hs_ => hs_.2) (fun hn_ => (fB BK298.out k_ hn_)),Or.elim hk_ (fun hs_ => hs_.1.2.2) (fun hn_ => (IsS68.fresh iS68 k_ hn_))⟩)) (keep_size (w:=w) (g:=g) (row := none) kK))
         replace BK269 := bbA BK269 hb
         replace BK274 := bbA BK274 hb
         replace BK298 := bbA BK298 hb
         replace HK := Aside0.mk (KeepBut.trans kK (KeepBut.of_below hb g none) (.inl rfl))
         replace HB := Aside0.mk (below_step bI68 hb)
         replace HI0 := Aside0.mk (IsS68.below iS68 hb)
         clear hb
         (try clear ho0)
         refine hK.out _ _ ⟨bl BK274 0,bl BK274 1⟩ (fun hHeld => ?_)
         clear hK K
         refine nw 33 ?_
         refine pV_ 8 25 (bm 14 2559) HT_.out ?_
         refine pV_ 9 34 (bm 14 3071) HT_.out ?_
         refine pV_ 10 35 (bm 14 4095) HT_.out ?_
         exact norm_ (by simp only [putAll,Act.put,setIfInBounds_toArray,set_cons_zero,set_cons_succ]) (hCont (v294,gb298) _ ⟨hHeld,(vM HO295.out (fun _ hk => ⟨hk.2.2.2,⟨hk.1,⟨hk.2.1,hk.2.2.1⟩⟩⟩)),(vM HO_275000.out (fun _ hk => ⟨hk.1.2.2,⟨hk.1.1,⟨hk.1.2.1,hk.2⟩⟩⟩)),(kA BK269.out),(kA BK274.out),(kA BK298.out),GW298.out,GE298.out,NB0_298.out,NB298_0.out,NB269_298.out,NB298_269.out,NB274_298.out,NB298_274.out,iS68,kK,bI68⟩)
       ·skip
        refine bxs (N:=8) (cs := #[.slice none 0 0,.int .i64 0]) (t:=25) ?_
        intro gb298 hg w30 hbox hb
        replace HO_275000 := Aside0.mk (Kd.V_below (Kd.V_elderB (vA HO_275000.out) gb298 (Nat.le_of_eq hg.symm)) hb)
        replace HB := Aside0.mk (below_step bI68 hb)
        have BK298 := Aside0.mk (hbox)
        have GW298 := Aside0.mk ((gk (g:=g) hg kK : w.heap.size ≤ gb298))
        have GE298 := Aside0.mk ((Nat.le_trans HW0.out (gk (g:=g) hg kK : w.heap.size ≤ gb298) : w0.heap.size ≤ gb298))
        replace HK := Aside0.mk (KeepBut.trans kK (KeepBut.of_below hb g none) (.inl rfl))
        have NB269_298 := Aside0.mk ((nl hg BK269.out))
        have NB298_269 := Aside0.mk ((ng hg BK269.out))
        replace BK269 := bbA BK269 hb
        have NB274_298 := Aside0.mk ((nl hg BK274.out))
        have NB298_274 := Aside0.mk ((ng hg BK274.out))
        replace BK274 := bbA BK274 hb
        have NB0_298 := Aside0.mk ((by rw [hg]; exact Nat.ne_of_lt (IsS68.lt (show IsS68 w0 _ g s0_0 t288 t289 from by exact iS68)) : g ≠ gb298))
        have NB298_0 := Aside0.mk ((by rw [hg]; exact Nat.ne_of_gt (IsS68.lt (show IsS68 w0 _ g s0_0 t288 t289 from by exact iS68)) : gb298 ≠ g))
        replace HI0 := Aside0.mk (IsS68.below iS68 hb)
        clear hb hbox hg
        refine hK.out _ _ ⟨bl BK274 0,bl BK274 1⟩ (fun hHeld => ?_)
        clear hK K
        refine nw 8 ?_
        refine one_ (i:=6) (N:=some 32) (bm 14 2175) rfl rfl (one_of HT_.out (by kernel_rfl)) (by decide) (fun K hK => ?_)
        refine goes_ Try.func33 (by kernel_rfl) rfl #[.pointer (some ⟨g,0,none⟩),.int .i64 t287] (by rfl) rfl rfl mA ?_
        with_reducible refine (spec_l00Src_some.calls k1 g s0_0 t288 t289 t287 t290 t291 t292 w0 _ ?side1 ?side2 A16.out).mono ?_
        (case side1 => exact iS68)
        (case side2 => exact bI68)
        rintro e w31 ⟨rfl,hi,hb,hk⟩
        refine ⟨_,rfl,?_⟩
        replace HO_275000 := Aside0.mk (Kd.V_mono (Kd.V_keep (Kd.V_mono (ok := fun k_ => ((k_ ≠ gb269 ∧ (k_ ≠ gb274 ∧ k_ ≠ g)) ∧ k_ ≠ gb298)) (vA HO_275000.out) (fun k_ hk_ => (⟨hk_,hk_.1.2.2⟩ : _ ∧ k_ ≠ g))) hk (fun _ h => h.2)) (fun _ h => h.1))
        replace BK269 := Aside0.mk (kbk hk BK269.out NB269_0.out (by simp))
        replace BK274 := Aside0.mk (kbk hk BK274.out NB274_0.out (by simp))
        replace BK298 := Aside0.mk (kbk hk BK298.out NB298_0.out (by simp))
        replace HK := Aside0.mk (KeepBut.trans kK hk (.inl rfl))
        replace HB := Aside0.mk (hb)
        replace HI0 := Aside0.mk (hi)
        clear hb hi hk
        refine hK.out _ _ ⟨bl BK274 0,bl BK274 1⟩ (fun hHeld => ?_)
        clear hK K
        refine nw 32 ?_
        refine one_ (i:=7) (N:=some 33) (bm 14 2303) rfl rfl (one_of HT_.out (by kernel_rfl)) (by decide) (fun K hK => ?_)
        refine goes_ Try.func49 (by kernel_rfl) rfl #[.agg #[.slice Ao26 x275000_1.length co26,.int .i64 x275001_1],.string t282,.int .i64 t286,.string t290] (by rfl) rfl rfl mA ?_
        with_reducible refine (spec_l01Over.calls k1 (fun k_ => ((k_ ≠ gb269 ∧ (k_ ≠ gb274 ∧ k_ ≠ g)) ∧ k_ ≠ gb298)) _ _ x275000_1 x275001_1 t282 t286 t290 t293 t296 t297 _ ?side1 A17.out).mono ?_
        (case side1 => exact HO_275000.out)
        rintro e w32 ⟨v294,rfl,ho0,hb⟩
        refine ⟨_,rfl,?_⟩
        replace HO_275000 := Aside0.mk (Kd.V_below (vA HO_275000.out) hb)
        have HO295 := Aside0.mk (Kd.V_lower (Kd.V_mono (ok' := fun k_ => k_ ≠ gb269 ∧ k_ ≠ gb274 ∧ k_ ≠ gb298 ∧ k_ ≠ g) ho0 (fun k_ hk_ => ⟨Or.elim hk_ (fun hs_ => hs_.1.1) (fun hn_ => (fB BK269.out k_ hn_)),Or.elim hk_ (fun hs_ => hs_.1.2.1) (fun hn_ => (fB BK274.out k_ hn_)),Or.elim hk_ (fun hs_ => hs_.2) (fun hn_ => (fB BK298.out k_ hn_)),Or.elim hk_ (fun hs_ => hs_.1.2.2) (fun hn_ => (IsS68.fresh iS68 k_ hn_))⟩)) (keep_size (w:=w) (g:=g) (row := none) kK))
        replace BK269 := bbA BK269 hb
        replace BK274 := bbA BK274 hb
        replace BK298 := bbA BK298 hb
        replace HK := Aside0.mk (KeepBut.trans kK (KeepBut.of_below hb g none) (.inl rfl))
        replace HB := Aside0.mk (below_step bI68 hb)
        replace HI0 := Aside0.mk (IsS68.below iS68 hb)
        clear hb
        (try clear ho0)
        refine hK.out _ _ ⟨bl BK274 0,bl BK274 1⟩ (fun hHeld => ?_)
        clear hK K
        refine nw 33 ?_
        refine pV_ 8 25 (bm 14 2559) HT_.out ?_
        refine pV_ 9 34 (bm 14 3071) HT_.out ?_
        refine pV_ 10 35 (bm 14 4095) HT_.out ?_
        exact norm_ (by simp only [putAll,Act.put,setIfInBounds_toArray,set_cons_zero,set_cons_succ]) (hCont (v294,gb298) _ ⟨hHeld,(vM HO295.out (fun _ hk => ⟨hk.2.2.2,⟨hk.1,⟨hk.2.1,hk.2.2.1⟩⟩⟩)),(vM HO_275000.out (fun _ hk => ⟨hk.1.2.2,⟨hk.1.1,⟨hk.1.2.1,hk.2⟩⟩⟩)),(kA BK269.out),(kA BK274.out),(kA BK298.out),GW298.out,GE298.out,NB0_298.out,NB298_0.out,NB269_298.out,NB298_269.out,NB274_298.out,NB298_274.out,iS68,kK,bI68⟩)
      ·skip
       refine bxs (N:=8) (cs := #[.slice none 0 0,.int .i64 0]) (t:=25) ?_
       intro gb298 hg w29 hbox hb
       replace HO_275000 := Aside0.mk (Kd.V_below (Kd.V_elderB (vA HO_275000.out) gb298 (Nat.le_of_eq hg.symm)) hb)
       replace HB := Aside0.mk (below_step bI68 hb)
       have BK298 := Aside0.mk (hbox)
       have GW298 := Aside0.mk ((gk (g:=g) hg kK : w.heap.size ≤ gb298))
       have GE298 := Aside0.mk ((Nat.le_trans HW0.out (gk (g:=g) hg kK : w.heap.size ≤ gb298) : w0.heap.size ≤ gb298))
       replace HK := Aside0.mk (KeepBut.trans kK (KeepBut.of_below hb g none) (.inl rfl))
       have NB269_298 := Aside0.mk ((nl hg BK269.out))
       have NB298_269 := Aside0.mk ((ng hg BK269.out))
       replace BK269 := bbA BK269 hb
       have NB274_298 := Aside0.mk ((nl hg BK274.out))
       have NB298_274 := Aside0.mk ((ng hg BK274.out))
       replace BK274 := bbA BK274 hb
       have NB0_298 := Aside0.mk ((by rw [hg]; exact Nat.ne_of_lt (IsS68.lt (show IsS68 w0 _ g s0_0 t283 t284 from by exact iS68)) : g ≠ gb298))
       have NB298_0 := Aside0.mk ((by rw [hg]; exact Nat.ne_of_gt (IsS68.lt (show IsS68 w0 _ g s0_0 t283 t284 from by exact iS68)) : gb298 ≠ g))
       replace HI0 := Aside0.mk (IsS68.below iS68 hb)
       clear hb hbox hg
       refine hK.out _ _ ⟨bl BK274 0,bl BK274 1⟩ (fun hHeld => ?_)
       clear hK K
       refine nw 8 ?_
       refine one_ (i:=5) (N:=some 31) (bm 14 2111) rfl rfl (one_of HT_.out (by kernel_rfl)) (by decide) (fun K hK => ?_)
       refine goes_ Try.func46 (by kernel_rfl) rfl #[.pointer (some ⟨g,0,none⟩),.int .i64 5] (by rfl) rfl rfl mA ?_
       with_reducible refine (spec_l00Src_next.calls g s0_0 t283 t284 5 t287 t288 t289 w0 _ ?side1 ?side2 A15.out).mono ?_
       (case side1 => exact iS68)
       (case side2 => exact bI68)
       rintro e w30 ⟨rfl,hi,hb,hk⟩
       refine ⟨_,rfl,?_⟩
       replace HO_275000 := Aside0.mk (Kd.V_mono (Kd.V_keep (Kd.V_mono (ok := fun k_ => ((k_ ≠ gb269 ∧ (k_ ≠ gb274 ∧ k_ ≠ g)) ∧ k_ ≠ gb298)) (vA HO_275000.out) (fun k_ hk_ => (⟨hk_,hk_.1.2.2⟩ : _ ∧ k_ ≠ g))) hk (fun _ h => h.2)) (fun _ h => h.1))
       replace BK269 := Aside0.mk (kbk hk BK269.out NB269_0.out (by simp))
       replace BK274 := Aside0.mk (kbk hk BK274.out NB274_0.out (by simp))
       replace BK298 := Aside0.mk (kbk hk BK298.out NB298_0.out (by simp))
       replace HK := Aside0.mk (KeepBut.trans kK hk (.inl rfl))
       replace HB := Aside0.mk (hb)
       replace HI0 := Aside0.mk (hi)
       clear hb hi hk
       refine hK.out _ _ ⟨bl BK274 0,bl BK274 1⟩ (fun hHeld => ?_)
       clear hK K
       refine nw 31 ?_
       refine one_ (i:=6) (N:=some 32) (bm 14 2175) rfl rfl (one_of HT_.out (by kernel_rfl)) (by decide) (fun K hK => ?_)
       refine goes_ Try.func33 (by kernel_rfl) rfl #[.pointer (some ⟨g,0,none⟩),.int .i64 t287] (by rfl) rfl rfl mA ?_
       with_reducible refine (spec_l00Src_some.calls k1 g s0_0 t288 t289 t287 t290 t291 t292 w0 _ ?side1 ?side2 A16.out).mono ?_
       (case side1 => exact iS68)
       (case side2 => exact bI68)
       rintro e w31 ⟨rfl,hi,hb,hk⟩
       refine ⟨_,rfl,?_⟩
       replace HO_275000 := Aside0.mk (Kd.V_mono (Kd.V_keep (Kd.V_mono (ok := fun k_ => ((k_ ≠ gb269 ∧ (k_ ≠ gb274 ∧ k_ ≠ g)) ∧ k_ ≠ gb298)) (vA HO_275000.out) (fun k_ hk_ => (⟨hk_,hk_.1.2.2⟩ : _ ∧ k_ ≠ g))) hk (fun _ h => h.2)) (fun _ h => h.1))
       replace BK269 := Aside0.mk (kbk hk BK269.out NB269_0.out (by simp))
       replace BK274 := Aside0.mk (kbk hk BK274.out NB274_0.out (by simp))
       replace BK298 := Aside0.mk (kbk hk BK298.out NB298_0.out (by simp))
       replace HK := Aside0.mk (KeepBut.trans kK hk (.inl rfl))
       replace HB := Aside0.mk (hb)
       replace HI0 := Aside0.mk (hi)
       clear hb hi hk
       refine hK.out _ _ ⟨bl BK274 0,bl BK274 1⟩ (fun hHeld => ?_)
       clear hK K
       refine nw 32 ?_
       refine one_ (i:=7) (N:=some 33) (bm 14 2303) rfl rfl (one_of HT_.out (by kernel_rfl)) (by decide) (fun K hK => ?_)
       refine goes_ Try.func49 (by kernel_rfl) rfl #[.agg #[.slice Ao26 x275000_1.length co26,.int .i64 x275001_1],.string t282,.int .i64 t286,.string t290] (by rfl) rfl rfl mA ?_
       with_reducible refine (spec_l01Over.calls k1 (fun k_ => ((k_ ≠ gb269 ∧ (k_ ≠ gb274 ∧ k_ ≠ g)) ∧ k_ ≠ gb298)) _ _ x275000_1 x275001_1 t282 t286 t290 t293 t296 t297 _ ?side1 A17.out).mono ?_
       (case side1 => exact HO_275000.out)
       rintro e w32 ⟨v294,rfl,ho0,hb⟩
       refine ⟨_,rfl,?_⟩
       replace HO_275000 := Aside0.mk (Kd.V_below (vA HO_275000.out) hb)
       have HO295 := Aside0.mk (Kd.V_lower (Kd.V_mono (ok' := fun k_ => k_ ≠ gb269 ∧ k_ ≠ gb274 ∧ k_ ≠ gb298 ∧ k_ ≠ g) ho0 (fun k_ hk_ => ⟨Or.elim hk_ (fun hs_ => hs_.1.1) (fun hn_ => (fB BK269.out k_ hn_)),Or.elim hk_ (fun hs_ => hs_.1.2.1) (fun hn_ => (fB BK274.out k_ hn_)),Or.elim hk_ (fun hs_ => hs_.2) (fun hn_ => (fB BK298.out k_ hn_)),Or.elim hk_ (fun hs_ => hs_.1.2.2) (fun hn_ => (IsS68.fresh iS68 k_ hn_))⟩)) (keep_size (w:=w) (g:=g) (row := none) kK))
       replace BK269 := bbA BK269 hb
       replace BK274 := bbA BK274 hb
       replace BK298 := bbA BK298 hb
       replace HK := Aside0.mk (KeepBut.trans kK (KeepBut.of_below hb g none) (.inl rfl))
       replace HB := Aside0.mk (below_step bI68 hb)
       replace HI0 := Aside0.mk (IsS68.below iS68 hb)
       clear hb
       (try clear ho0)
       refine hK.out _ _ ⟨bl BK274 0,bl BK274 1⟩ (fun hHeld => ?_)
       clear hK K
       refine nw 33 ?_
       refine pV_ 8 25 (bm 14 2559) HT_.out ?_
       refine pV_ 9 34 (bm 14 3071) HT_.out ?_
       refine pV_ 10 35 (bm 14 4095) HT_.out ?_
       exact norm_ (by simp only [putAll,Act.put,setIfInBounds_toArray,set_cons_zero,set_cons_succ]) (hCont (v294,gb298) _ ⟨hHeld,(vM HO295.out (fun _ hk => ⟨hk.2.2.2,⟨hk.1,⟨hk.2.1,hk.2.2.1⟩⟩⟩)),(vM HO_275000.out (fun _ hk => ⟨hk.1.2.2,⟨hk.1.1,⟨hk.1.2.1,hk.2⟩⟩⟩)),(kA BK269.out),(kA BK274.out),(kA BK298.out),GW298.out,GE298.out,NB0_298.out,NB298_0.out,NB269_298.out,NB298_269.out,NB274_298.out,NB298_274.out,iS68,kK,bI68⟩)
     rintro ⟨v294,gb298⟩ w33 ⟨hS_,h0_,h1_,h2_,h3_,h4_,h5_,h6_,h7_,h8_,h9_,h10_,h11_,h12_,h13_,h14_,h15_⟩
     have HO295 : Aside0 (Kd.V k32 32 w33 w.heap.size (fun k_ => k_ ≠ g ∧ k_ ≠ gb269 ∧ k_ ≠ gb274 ∧ k_ ≠ gb298) v294 t293) := ⟨h0_⟩
     replace HO_275000 : Aside0 (Kd.V k32 32 w33 w.heap.size (fun k_ => k_ ≠ g ∧ k_ ≠ gb269 ∧ k_ ≠ gb274 ∧ k_ ≠ gb298) (.slice Ao26 x275000_1.length co26) x275000_1) := ⟨h1_⟩
     replace BK269 : Aside0 (w33.heap[gb269]? = some (.cells #[.slice none 0 0,.int .i64 0] 25 (0,0))) := ⟨h2_⟩
     replace BK274 : Aside0 (w33.heap[gb274]? = some (.cells #[.slice Ao26 x275000_1.length co26,.int .i64 x275001_1] 25 (0,0))) := ⟨h3_⟩
     have BK298 : Aside0 (w33.heap[gb298]? = some (.cells #[.slice none 0 0,.int .i64 0] 25 (0,0))) := ⟨h4_⟩
     have GW298 : Aside0 (w.heap.size ≤ gb298) := ⟨h5_⟩
     have GE298 : Aside0 (w0.heap.size ≤ gb298) := ⟨h6_⟩
     have NB0_298 : Aside0 (g ≠ gb298) := ⟨h7_⟩
     have NB298_0 : Aside0 (gb298 ≠ g) := ⟨h8_⟩
     have NB269_298 : Aside0 (gb269 ≠ gb298) := ⟨h9_⟩
     have NB298_269 : Aside0 (gb298 ≠ gb269) := ⟨h10_⟩
     have NB274_298 : Aside0 (gb274 ≠ gb298) := ⟨h11_⟩
     have NB298_274 : Aside0 (gb298 ≠ gb274) := ⟨h12_⟩
     replace HI0 : Aside0 (IsS68 w0 w33 g s0_0 t291 t292) := ⟨h13_⟩
     replace HK : Aside0 (KeepBut w w33 g none) := ⟨h14_⟩
     replace HB : Aside0 (Below w0.heap.size w0 w33) := ⟨h15_⟩
     clear h0_ h1_ h2_ h3_ h4_ h5_ h6_ h7_ h8_ h9_ h10_ h11_ h12_ h13_ h14_ h15_
     have hHeld : w33.cell? ⟨gb274,0,none⟩ = some (.slice Ao26 x275000_1.length co26) ∧ w33.cell? ⟨gb274,1,none⟩ = some (.int .i64 x275001_1) := hS_
     obtain ⟨Ao34,co34,eo34⟩ := Kd.V_slice HO295.out
     (first | subst eo34 | (injection eo34 with f1_ f2_ f3_; have f4_ := f1_.symm; have f5_ := f3_.symm; clear f1_ f2_ f3_; subst f4_; subst f5_))
     refine norm_ (a':=?_) ?_ ?_
     rotate_left
     ·simp only [putAll,Act.put,setIfInBounds_toArray,set_cons_zero,set_cons_succ]
      rfl
     refine one_ (i:=12) (N:=none) (bm 14 8191) rfl rfl (one_of HT_.out (by kernel_rfl)) (by decide) (fun K hK => ?_)
     have hs35 : w33.cell? ⟨gb298,0,none⟩ = some (.slice none 0 0) := bl BK298 0
     have hfs35 := blk_frozen BK298.out 0
     have hns35_0 := NB269_298.out
     have hns35_1 := NB274_298.out
     have hms35_0 := NB298_269.out
     have hms35_1 := NB298_274.out
     have hs36 : w33.cell? ⟨gb298,1,none⟩ = some (.int .i64 0) := bl BK298 1
     have hfs36 := blk_frozen BK298.out 1
     have hns36_0 := NB269_298.out
     have hns36_1 := NB274_298.out
     have hms36_0 := NB298_269.out
     have hms36_1 := NB298_274.out
     refine skip_ (w1 := ?_) (by rfl) rfl ?_ ?_
     rotate_left
     ·go_simp
      rfl
     refine hK.out _ _ ⟨((cell_far (p:=⟨gb298,_,none⟩) NB274_298.out _).trans (((cell_far (p:=⟨gb298,_,none⟩) NB274_298.out _).trans (hHeld.1)))),((cell_far (p:=⟨gb298,_,none⟩) NB274_298.out _).trans (((cell_far (p:=⟨gb298,_,none⟩) NB274_298.out _).trans (hHeld.2))))⟩ (fun hHeld => ?_)
     clear hK K
     refine pV_ 13 9 (bm 14 16383) HT_.out ?_
     refine done_ (done_of HT_.out (by kernel_rfl)) ?_
     try go_wp2
     have n0_ : Aside0 (Kd.V k32 32 ((w33.setCell ⟨gb298,0,none⟩ (.slice Ao34 t293.length co34)).setCell ⟨gb298,1,none⟩ (.int .i64 t296)) w.heap.size (fun k_ => k_ ≠ g ∧ k_ ≠ gb269 ∧ k_ ≠ gb274 ∧ k_ ≠ gb298) (.slice Ao26 x275000_1.length co26) x275000_1) := ⟨by (with_reducible repeat (first | apply Kd.V_alloc | apply Kd.V_drewN | apply Kd.V_drew)); exact Kd.V_mono (Kd.V_far (p:=⟨gb298,1,none⟩) (Kd.V_far (p:=⟨gb298,0,none⟩) (Kd.V_mono HO_275000.out (fun k_ hk => (⟨hk,hk.2.2.2⟩ : _ ∧ k_ ≠ gb298))) (fun _ hk => hk.2) (.slice Ao34 t293.length co34)) (fun _ hk => hk.2) (.int .i64 t296)) (fun _ hk => ⟨hk.1.1,⟨hk.1.2.1,⟨hk.1.2.2.1,hk.1.2.2.2⟩⟩⟩)⟩
     have n1_ : Aside0 (Kd.V k32 32 ((w33.setCell ⟨gb298,0,none⟩ (.slice Ao34 t293.length co34)).setCell ⟨gb298,1,none⟩ (.int .i64 t296)) w.heap.size (fun k_ => k_ ≠ g ∧ k_ ≠ gb269 ∧ k_ ≠ gb274 ∧ k_ ≠ gb298) (.slice Ao34 t293.length co34) t293) := ⟨by (with_reducible repeat (first | apply Kd.V_alloc | apply Kd.V_drewN | apply Kd.V_drew)); exact Kd.V_mono (Kd.V_far (p:=⟨gb298,1,none⟩) (Kd.V_far (p:=⟨gb298,0,none⟩) (Kd.V_mono HO295.out (fun k_ hk => (⟨hk,hk.2.2.2⟩ : _ ∧ k_ ≠ gb298))) (fun _ hk => hk.2) (.slice Ao34 t293.length co34)) (fun _ hk => hk.2) (.int .i64 t296)) (fun _ hk => ⟨hk.1.1,⟨hk.1.2.1,⟨hk.1.2.2.1,hk.1.2.2.2⟩⟩⟩)⟩
     have n2_ : Aside0 (((w33.setCell ⟨gb298,0,none⟩ (.slice Ao34 t293.length co34)).setCell ⟨gb298,1,none⟩ (.int .i64 t296)).heap[gb269]? = some (.cells #[.slice none 0 0,.int .i64 0] 25 (0,0))) := ⟨kF BK269.out⟩
     have n3_ : Aside0 (((w33.setCell ⟨gb298,0,none⟩ (.slice Ao34 t293.length co34)).setCell ⟨gb298,1,none⟩ (.int .i64 t296)).heap[gb274]? = some (.cells #[.slice Ao26 x275000_1.length co26,.int .i64 x275001_1] 25 (0,0))) := ⟨kF BK274.out⟩
     have n4_ : Aside0 (((w33.setCell ⟨gb298,0,none⟩ (.slice Ao34 t293.length co34)).setCell ⟨gb298,1,none⟩ (.int .i64 t296)).heap[gb298]? = some (.cells #[.slice Ao34 t293.length co34,.int .i64 t296] 25 (0,0))) := ⟨by (with_reducible repeat (first | refine blk_drewN ?_ _ | refine blk_drew ?_ | refine blk_alloc ?_ _)); apply blkp2; (with_reducible repeat (first | refine blk_drewN ?_ _ | refine blk_drew ?_ | refine blk_alloc ?_ _)); exact BK298.out⟩
     have n5_ : Aside0 (IsS68 w0 ((w33.setCell ⟨gb298,0,none⟩ (.slice Ao34 t293.length co34)).setCell ⟨gb298,1,none⟩ (.int .i64 t296)) g s0_0 t291 t292) := ⟨by exact iS68⟩
     have n6_ : Aside0 (KeepBut w ((w33.setCell ⟨gb298,0,none⟩ (.slice Ao34 t293.length co34)).setCell ⟨gb298,1,none⟩ (.int .i64 t296)) g none) := ⟨by exact kK⟩
     have n7_ : Aside0 (Below w0.heap.size w0 ((w33.setCell ⟨gb298,0,none⟩ (.slice Ao34 t293.length co34)).setCell ⟨gb298,1,none⟩ (.int .i64 t296))) := ⟨by exact bI68⟩
     (try clear HO_275000)
     (try clear HO295)
     (try clear BK269)
     (try clear BK274)
     (try clear BK298)
     (try clear HI0)
     (try clear HK)
     (try clear HB)
     generalize ((w33.setCell ⟨gb298,0,none⟩ (.slice Ao34 t293.length co34)).setCell ⟨gb298,1,none⟩ (.int .i64 t296)) = w37 at n0_ n1_ n2_ n3_ n4_ n5_ n6_ n7_ ⊢
     have HO_275000 := n0_
     have HO295 := n1_
     have BK269 := n2_
     have BK274 := n3_
     have BK298 := n4_
     have HI0 := n5_
     have HK := n6_
     have HB := n7_
     clear n0_ n1_ n2_ n3_ n4_ n5_ n6_ n7_
     replace HO_275000 := Aside0.mk (Kd.V_drew HO_275000.out)
     replace HO295 := Aside0.mk (Kd.V_drew HO295.out)
     replace BK269 := Aside0.mk (blk_drew BK269.out)
     replace BK274 := Aside0.mk (blk_drew BK274.out)
     replace BK298 := Aside0.mk (blk_drew BK298.out)
     replace HI0 := Aside0.mk (IsS68.drew HI0.out)
     replace HK := Aside0.mk (keep_drew HK.out)
     replace HB := Aside0.mk (below_drew1 HB.out)
     refine start_ (n:=11) (S:=fun w' => w'.cell? ⟨gb274,0,none⟩ = some (.slice Ao26 x275000_1.length co26) ∧ w'.cell? ⟨gb274,1,none⟩ = some (.int .i64 x275001_1)) (ds := []) (bm 11 0) (by kernel_rfl) rfl rfl ⟨bl BK274 0,bl BK274 1⟩ (fun hHeld => ?_); refine with_tabW spec_l00Src_plainStore.tab9 spec_l00Src_plainStore.bits9 (fun HT_ HW_ => ?_)
     generalize w37.drew = w38 at HO_275000 HO295 BK269 BK274 BK298 HI0 HK HB hHeld ⊢
     refine pV_ 1 40 (bm 11 2) HT_.out ?_
     refine pV_ 2 41 (bm 11 6) HT_.out ?_
     refine pV_ 3 42 (bm 11 14) HT_.out ?_
     refine tk 0 39 (bm 11 15) HT_.out HW_.out hHeld ?_
     refine one_ (i:=4) (N:=some 43) (bm 11 31) rfl rfl (one_of HT_.out (by kernel_rfl)) (by decide) (fun K hK => ?_)
     refine goes_ Try.func46 (by kernel_rfl) rfl #[.pointer (some ⟨g,0,none⟩),.int .i64 5] (by rfl) rfl rfl mA ?_
     with_reducible refine (spec_l00Src_next.calls g s0_0 t291 t292 5 t299 t300 t301 w0 _ ?side1 ?side2 A19.out).mono ?_
     (case side1 => exact iS68)
     (case side2 => exact bI68)
     rintro e w39 ⟨rfl,hi,hb,hk⟩
     refine ⟨_,rfl,?_⟩
     replace HO_275000 := Aside0.mk (Kd.V_mono (Kd.V_keep (Kd.V_mono (ok := fun k_ => (k_ ≠ g ∧ (k_ ≠ gb269 ∧ (k_ ≠ gb274 ∧ k_ ≠ gb298)))) (vA HO_275000.out) (fun k_ hk_ => (⟨hk_,hk_.1⟩ : _ ∧ k_ ≠ g))) hk (fun _ h => h.2)) (fun _ h => h.1))
     replace BK269 := Aside0.mk (kbk hk BK269.out NB269_0.out (by simp))
     replace BK274 := Aside0.mk (kbk hk BK274.out NB274_0.out (by simp))
     replace HO295 := Aside0.mk (Kd.V_mono (Kd.V_keep (Kd.V_mono (ok := fun k_ => (k_ ≠ g ∧ (k_ ≠ gb269 ∧ (k_ ≠ gb274 ∧ k_ ≠ gb298)))) (vA HO295.out) (fun k_ hk_ => (⟨hk_,hk_.1⟩ : _ ∧ k_ ≠ g))) hk (fun _ h => h.2)) (fun _ h => h.1))
     replace BK298 := Aside0.mk (kbk hk BK298.out NB298_0.out (by simp))
     replace HK := Aside0.mk (KeepBut.trans kK hk (.inl rfl))
     replace HB := Aside0.mk (hb)
     replace HI0 := Aside0.mk (hi)
     clear hb hi hk
     refine hK.out _ _ ⟨bl BK274 0,bl BK274 1⟩ (fun hHeld => ?_)
     clear hK K
     refine nw 43 ?_
     refine one_ (i:=5) (N:=some 44) (bm 11 63) rfl rfl (one_of HT_.out (by kernel_rfl)) (by decide) (fun K hK => ?_)
     refine goes_ Try.func33 (by kernel_rfl) rfl #[.pointer (some ⟨g,0,none⟩),.int .i64 t299] (by rfl) rfl rfl mA ?_
     with_reducible refine (spec_l00Src_some.calls k1 g s0_0 t300 t301 t299 t302 t303 t304 w0 _ ?side1 ?side2 A20.out).mono ?_
     (case side1 => exact iS68)
     (case side2 => exact bI68)
     rintro e w40 ⟨rfl,hi,hb,hk⟩
     refine ⟨_,rfl,?_⟩
     replace HO_275000 := Aside0.mk (Kd.V_mono (Kd.V_keep (Kd.V_mono (ok := fun k_ => (k_ ≠ g ∧ (k_ ≠ gb269 ∧ (k_ ≠ gb274 ∧ k_ ≠ gb298)))) (vA HO_275000.out) (fun k_ hk_ => (⟨hk_,hk_.1⟩ : _ ∧ k_ ≠ g))) hk (fun _ h => h.2)) (fun _ h => h.1))
     replace BK269 := Aside0.mk (kbk hk BK269.out NB269_0.out (by simp))
     replace BK274 := Aside0.mk (kbk hk BK274.out NB274_0.out (by simp))
     replace HO295 := Aside0.mk (Kd.V_mono (Kd.V_keep (Kd.V_mono (ok := fun k_ => (k_ ≠ g ∧ (k_ ≠ gb269 ∧ (k_ ≠ gb274 ∧ k_ ≠ gb298)))) (vA HO295.out) (fun k_ hk_ => (⟨hk_,hk_.1⟩ : _ ∧ k_ ≠ g))) hk (fun _ h => h.2)) (fun _ h => h.1))
     replace BK298 := Aside0.mk (kbk hk BK298.out NB298_0.out (by simp))
     replace HK := Aside0.mk (KeepBut.trans kK hk (.inl rfl))
     replace HB := Aside0.mk (hb)
     replace HI0 := Aside0.mk (hi)
     clear hb hi hk
     refine hK.out _ _ ⟨bl BK274 0,bl BK274 1⟩ (fun hHeld => ?_)
     clear hK K
     refine nw 44 ?_
     refine one_ (i:=6) (N:=some 45) (bm 11 127) rfl rfl (one_of HT_.out (by kernel_rfl)) (by decide) (fun K hK => ?_)
     refine goes_ Try.func38 (by kernel_rfl) rfl #[.agg #[.slice Ao26 x275000_1.length co26,.int .i64 x275001_1],.string t282,.string t302] (by rfl) rfl rfl mA ?_
     with_reducible refine (spec_l01Absent.calls k1 (fun k_ => (k_ ≠ g ∧ (k_ ≠ gb269 ∧ (k_ ≠ gb274 ∧ k_ ≠ gb298)))) _ _ x275000_1 x275001_1 t282 t302 t305 t308 t309 _ ?side1 A21.out).mono ?_
     (case side1 => exact HO_275000.out)
     rintro e w41 ⟨v306,rfl,ho0,hb⟩
     refine ⟨_,rfl,?_⟩
     replace HO_275000 := Aside0.mk (Kd.V_below (vA HO_275000.out) hb)
     replace HO295 := Aside0.mk (Kd.V_below (vA HO295.out) hb)
     have HO307 := Aside0.mk (Kd.V_lower (Kd.V_mono (ok' := fun k_ => k_ ≠ gb269 ∧ k_ ≠ gb274 ∧ k_ ≠ gb298 ∧ k_ ≠ g) ho0 (fun k_ hk_ => ⟨Or.elim hk_ (fun hs_ => hs_.2.1) (fun hn_ => (fB BK269.out k_ hn_)),Or.elim hk_ (fun hs_ => hs_.2.2.1) (fun hn_ => (fB BK274.out k_ hn_)),Or.elim hk_ (fun hs_ => hs_.2.2.2) (fun hn_ => (fB BK298.out k_ hn_)),Or.elim hk_ (fun hs_ => hs_.1) (fun hn_ => (IsS68.fresh iS68 k_ hn_))⟩)) (keep_size (w:=w) (g:=g) (row := none) kK))
     replace BK269 := bbA BK269 hb
     replace BK274 := bbA BK274 hb
     replace BK298 := bbA BK298 hb
     replace HK := Aside0.mk (KeepBut.trans kK (KeepBut.of_below hb g none) (.inl rfl))
     replace HB := Aside0.mk (below_step bI68 hb)
     replace HI0 := Aside0.mk (IsS68.below iS68 hb)
     clear hb
     (try clear ho0)
     obtain ⟨Ao42,co42,eo42⟩ := Kd.V_slice HO307.out
     (first | subst eo42 | (injection eo42 with f1_ f2_ f3_; have f4_ := f1_.symm; have f5_ := f3_.symm; clear f1_ f2_ f3_; subst f4_; subst f5_))
     refine hK.out _ _ ⟨bl BK274 0,bl BK274 1⟩ (fun hHeld => ?_)
     clear hK K
     refine nw 45 ?_
     refine pV_ 7 38 (bm 11 255) HT_.out ?_
     refine pV_ 8 46 (bm 11 511) HT_.out ?_
     refine pV_ 9 47 (bm 11 1023) HT_.out ?_
     refine one_ (i:=10) (N:=none) (bm 11 2047) rfl rfl (one_of HT_.out (by kernel_rfl)) (by decide) (fun K hK => ?_)
     have hs43 : w41.cell? ⟨gb298,0,none⟩ = some (.slice Ao34 t293.length co34) := bl BK298 0
     have hfs43 := blk_frozen BK298.out 0
     have hns43_0 := NB269_298.out
     have hns43_1 := NB274_298.out
     have hms43_0 := NB298_269.out
     have hms43_1 := NB298_274.out
     have hs44 : w41.cell? ⟨gb298,1,none⟩ = some (.int .i64 t296) := bl BK298 1
     have hfs44 := blk_frozen BK298.out 1
     have hns44_0 := NB269_298.out
     have hns44_1 := NB274_298.out
     have hms44_0 := NB298_269.out
     have hms44_1 := NB298_274.out
     refine skip_ (w1 := ?_) (by rfl) rfl ?_ ?_
     rotate_left
     ·go_simp
      rfl
     refine hK.out _ _ ⟨((cell_far (p:=⟨gb298,_,none⟩) NB274_298.out _).trans (((cell_far (p:=⟨gb298,_,none⟩) NB274_298.out _).trans (hHeld.1)))),((cell_far (p:=⟨gb298,_,none⟩) NB274_298.out _).trans (((cell_far (p:=⟨gb298,_,none⟩) NB274_298.out _).trans (hHeld.2))))⟩ (fun hHeld => ?_)
     clear hK K
     refine done_ (done_of HT_.out (by kernel_rfl)) ?_
     have hnb45 := NB298_269.out
     have hnc45 := NB269_298.out
     have hnb46 := NB298_274.out
     have hnc46 := NB274_298.out
     have hnb47 := NB298_0.out
     have hnc47 := NB0_298.out
     obtain ⟨hcz48_0,hcz48_1⟩ := cl2 BK298.out
     obtain ⟨hfz48_0,hfz48_1⟩ := fz2 BK298.out
     obtain ⟨hcz49_0,hcz49_1⟩ := cl2 BK274.out
     obtain ⟨hfz49_0,hfz49_1⟩ := fz2 BK274.out
     try go_wp2
     go_roundg k1
     case measure => have := HK1.out; omega
     case rel => exact ⟨(wrap64 (x4_1 - 1)),(t303),(t304),(t305),(t308),(.slice Ao42 t305.length co42),(by first | rfl | (simp; done) | (simp [*]; done)),H',⟨by have := HK1.out; omega⟩,⟨by (with_reducible repeat (first | apply Kd.V_alloc | apply Kd.V_drewN | apply Kd.V_drew)); exact Kd.V_mono (Kd.V_far (p:=⟨gb274,1,none⟩) (Kd.V_far (p:=⟨gb274,0,none⟩) (Kd.V_far (p:=⟨gb298,1,none⟩) (Kd.V_far (p:=⟨gb298,0,none⟩) (Kd.V_mono (Kd.V_mono HO307.out (fun k_ hk => (⟨hk,hk.2.2.1⟩ : _ ∧ k_ ≠ gb298))) (fun k_ hk => (⟨hk,hk.1.2.1⟩ : _ ∧ k_ ≠ gb274))) (fun _ hk => hk.1.2) (.slice Ao42 t305.length co42)) (fun _ hk => hk.1.2) (.int .i64 t308)) (fun _ hk => hk.2) (.slice Ao42 t305.length co42)) (fun _ hk => hk.2) (.int .i64 t308)) (fun _ hk => ⟨hk.1.1.1,⟨hk.1.1.2.1,hk.1.1.2.2.2⟩⟩)⟩,⟨kF BK269.out⟩,⟨by (with_reducible repeat (first | refine blk_drewN ?_ _ | refine blk_drew ?_ | refine blk_alloc ?_ _)); apply blkp2; (with_reducible repeat (first | refine blk_drewN ?_ _ | refine blk_drew ?_ | refine blk_alloc ?_ _)); refine blk_far ?_ NB274_298.out _; (with_reducible repeat (first | refine blk_drewN ?_ _ | refine blk_drew ?_ | refine blk_alloc ?_ _)); refine blk_far ?_ NB274_298.out _; (with_reducible repeat (first | refine blk_drewN ?_ _ | refine blk_drew ?_ | refine blk_alloc ?_ _)); exact BK274.out⟩,⟨by exact iS68⟩,⟨by exact kK⟩,⟨by exact bI68⟩⟩
    ·rw [if_neg c18] at H
     have c18b0 : (t286 == 0) = false := beq_eq_false_iff_ne.mpr c18
     have c18b1 : (t286 != 0) = true := bne_iff_ne.mpr c18
     replace H := Option.bind_eq_some_iff.mp H
     obtain ⟨⟨t310,t311,t312⟩,A500,H⟩ := H
     try dsimp only at H
     have A50 := Aside0.mk A500
     clear A500
     by_cases c51 : t310 = true
     ·subst c51
      rw [if_pos rfl] at H
      replace H := Option.bind_eq_some_iff.mp H
      obtain ⟨⟨t313,t316,t317⟩,A520,H⟩ := H
      try dsimp only at H
      have A52 := Aside0.mk A520
      clear A520
      have H' := Aside0.mk H
      clear H
      try go_wp2_with (first | ((with_reducible refine gate_callee (f:=47) rfl ?_); refine goesL_ (some 18) rfl rfl Try.func47 (by kernel_rfl) rfl #[.pointer (some ⟨g,0,none⟩)] rfl mA ?_; (with_reducible refine (spec_l00Src_shortKey.calls g s0_0 x1001_1 x1002_1 t282 t283 t284 w0 _ ?side1 ?side2 A13.out).mono ?_); (case side1 => exact iS68); (case side2 => exact bI68); rintro e w53 ⟨rfl,hi,hb,hk⟩; refine ⟨_,rfl,?_⟩; replace HO_275000 := Aside0.mk (Kd.V_mono (Kd.V_keep (Kd.V_mono (ok := fun k_ => (k_ ≠ gb269 ∧ (k_ ≠ gb274 ∧ k_ ≠ g))) (vA HO_275000.out) (fun k_ hk_ => (⟨hk_,hk_.2.2⟩ : _ ∧ k_ ≠ g))) hk (fun _ h => h.2)) (fun _ h => h.1)); replace BK269 := Aside0.mk (kbk hk BK269.out NB269_0.out (by simp)); replace BK274 := Aside0.mk (kbk hk BK274.out NB274_0.out (by simp)); replace HK := Aside0.mk (KeepBut.trans kK hk (.inl rfl)); replace HB := Aside0.mk (hb); replace HI0 := Aside0.mk (hi); clear hb hi hk; have hnb54 := NB274_269.out; have hnc54 := NB269_274.out; have hnb55 := NB274_0.out; have hnc55 := NB0_274.out; obtain ⟨hcz56_0,hcz56_1⟩ := cl2 BK274.out; obtain ⟨hfz56_0,hfz56_1⟩ := fz2 BK274.out; obtain ⟨Ao57,co57,eo57⟩ := Kd.V_slice HO_275000.out; subst eo57) | ((with_reducible refine gate_callee (f:=48) rfl ?_); refine goesL_ (some 22) rfl rfl Try.func48 (by kernel_rfl) rfl #[.agg #[.slice Ao57 x275000_1.length co57,.int .i64 x275001_1],.string t282] rfl mA ?_; (with_reducible refine (spec_l01Get.calls k1 _ _ x275000_1 x275001_1 t282 t285 t286 _ ?side1 ?side2 A14.out).mono ?_); (case side1 => repeat (first | exact (Kd.V_reads' HO_275000.out).2.2 | (with_reducible refine Kd.C_alloc ?_ _) | (with_reducible refine Kd.C_drewN ?_ _) | (with_reducible refine Kd.C_drew ?_))); (case side2 => exact (Kd.V_reads' HO_275000.out).2.1); rintro e w58 ⟨rfl,hb⟩; refine ⟨_,rfl,?_⟩; replace HO_275000 := Aside0.mk (Kd.V_below (vA HO_275000.out) hb); replace BK269 := bbA BK269 hb; replace BK274 := bbA BK274 hb; replace HK := Aside0.mk (KeepBut.trans kK (KeepBut.of_below hb g none) (.inl rfl)); replace HB := Aside0.mk (below_step bI68 hb); replace HI0 := Aside0.mk (IsS68.below iS68 hb); clear hb))
      replace HO_275000 := Aside0.mk (Kd.V_drew HO_275000.out)
      replace BK269 := Aside0.mk (blk_drew BK269.out)
      replace BK274 := Aside0.mk (blk_drew BK274.out)
      replace HI0 := Aside0.mk (IsS68.drew HI0.out)
      replace HK := Aside0.mk (keep_drew HK.out)
      replace HB := Aside0.mk (below_drew1 HB.out)
      refine start_ (n:=14) (S:=fun w' => w'.cell? ⟨gb274,0,none⟩ = some (.slice Ao57 x275000_1.length co57) ∧ w'.cell? ⟨gb274,1,none⟩ = some (.int .i64 x275001_1)) (ds := []) (bm 14 0) (by kernel_rfl) rfl rfl ⟨bl BK274 0,bl BK274 1⟩ (fun hHeld => ?_); refine with_tabW spec_l00Src_plainStore.tab7 spec_l00Src_plainStore.bits7 (fun HT_ HW_ => ?_)
      generalize w58.drew = w59 at HO_275000 BK269 BK274 HI0 HK HB hHeld ⊢
      refine pV_ 1 27 (bm 14 2) HT_.out ?_
      refine pV_ 2 28 (bm 14 6) HT_.out ?_
      refine pV_ 3 29 (bm 14 14) HT_.out ?_
      refine pV_ 4 30 (bm 14 30) HT_.out ?_
      refine tk 0 26 (bm 14 31) HT_.out HW_.out hHeld ?_
      refine join_ (σ := Value × Nat) 2 (bm 14 4095) (fun s_ => [(31,.int .i64 t287),(32,.string t290),(33,.tuple #[.agg #[s_.1,.int .i64 t296],.int .i64 t297]),(8,.pointer (some ⟨s_.2,0,none⟩)),(25,.tuple #[.agg #[s_.1,.int .i64 t296],.int .i64 t297]),(34,.agg #[s_.1,.int .i64 t296]),(35,.int .i64 t297)]) (fun s_ w' => (w'.cell? ⟨gb274,0,none⟩ = some (.slice Ao57 x275000_1.length co57) ∧ w'.cell? ⟨gb274,1,none⟩ = some (.int .i64 x275001_1)) ∧ (Kd.V k32 32 w' w.heap.size (fun k_ => k_ ≠ g ∧ k_ ≠ gb269 ∧ k_ ≠ gb274 ∧ k_ ≠ s_.2) s_.1 t293) ∧ (Kd.V k32 32 w' w.heap.size (fun k_ => k_ ≠ g ∧ k_ ≠ gb269 ∧ k_ ≠ gb274 ∧ k_ ≠ s_.2) (.slice Ao57 x275000_1.length co57) x275000_1) ∧ (w'.heap[gb269]? = some (.cells #[.slice none 0 0,.int .i64 0] 25 (0,0))) ∧ (w'.heap[gb274]? = some (.cells #[.slice Ao57 x275000_1.length co57,.int .i64 x275001_1] 25 (0,0))) ∧ (w'.heap[s_.2]? = some (.cells #[.slice none 0 0,.int .i64 0] 25 (0,0))) ∧ (w.heap.size ≤ s_.2) ∧ (w0.heap.size ≤ s_.2) ∧ (g ≠ s_.2) ∧ (s_.2 ≠ g) ∧ (gb269 ≠ s_.2) ∧ (s_.2 ≠ gb269) ∧ (gb274 ≠ s_.2) ∧ (s_.2 ≠ gb274) ∧ (IsS68 w0 w' g s0_0 t291 t292) ∧ (KeepBut w w' g none) ∧ (Below w0.heap.size w0 w')) ?_ ?_
      rotate_left
      ·intro hCont
       refine two_ (i:=5) (j:=11) (Ni := some 31) (Nj := some 8) (bm 14 63) (bm 14 2079) rfl rfl rfl rfl (two_of HT_.out (by kernel_rfl)) (by decide) (by decide) (fun K hK => ?_) (fun K hK => ?_)
       ·skip
        refine goes_ Try.func46 (by kernel_rfl) rfl #[.pointer (some ⟨g,0,none⟩),.int .i64 5] (by rfl) rfl rfl mA ?_
        with_reducible refine (spec_l00Src_next.calls g s0_0 t283 t284 5 t287 t288 t289 w0 _ ?side1 ?side2 A15.out).mono ?_
        (case side1 => exact iS68)
        (case side2 => exact bI68)
        rintro e w60 ⟨rfl,hi,hb,hk⟩
        refine ⟨_,rfl,?_⟩
        replace HO_275000 := Aside0.mk (Kd.V_mono (Kd.V_keep (Kd.V_mono (ok := fun k_ => (k_ ≠ gb269 ∧ (k_ ≠ gb274 ∧ k_ ≠ g))) (vA HO_275000.out) (fun k_ hk_ => (⟨hk_,hk_.2.2⟩ : _ ∧ k_ ≠ g))) hk (fun _ h => h.2)) (fun _ h => h.1))
        replace BK269 := Aside0.mk (kbk hk BK269.out NB269_0.out (by simp))
        replace BK274 := Aside0.mk (kbk hk BK274.out NB274_0.out (by simp))
        replace HK := Aside0.mk (KeepBut.trans kK hk (.inl rfl))
        replace HB := Aside0.mk (hb)
        replace HI0 := Aside0.mk (hi)
        clear hb hi hk
        refine hK.out _ _ ⟨bl BK274 0,bl BK274 1⟩ (fun hHeld => ?_)
        clear hK K
        refine nw 31 ?_
        refine two_ (i:=6) (j:=11) (Ni := some 32) (Nj := some 8) (bm 14 127) (bm 14 2111) rfl rfl rfl rfl (two_of HT_.out (by kernel_rfl)) (by decide) (by decide) (fun K hK => ?_) (fun K hK => ?_)
        ·skip
         refine goes_ Try.func33 (by kernel_rfl) rfl #[.pointer (some ⟨g,0,none⟩),.int .i64 t287] (by rfl) rfl rfl mA ?_
         with_reducible refine (spec_l00Src_some.calls k1 g s0_0 t288 t289 t287 t290 t291 t292 w0 _ ?side1 ?side2 A16.out).mono ?_
         (case side1 => exact iS68)
         (case side2 => exact bI68)
         rintro e w61 ⟨rfl,hi,hb,hk⟩
         refine ⟨_,rfl,?_⟩
         replace HO_275000 := Aside0.mk (Kd.V_mono (Kd.V_keep (Kd.V_mono (ok := fun k_ => (k_ ≠ gb269 ∧ (k_ ≠ gb274 ∧ k_ ≠ g))) (vA HO_275000.out) (fun k_ hk_ => (⟨hk_,hk_.2.2⟩ : _ ∧ k_ ≠ g))) hk (fun _ h => h.2)) (fun _ h => h.1))
         replace BK269 := Aside0.mk (kbk hk BK269.out NB269_0.out (by simp))
         replace BK274 := Aside0.mk (kbk hk BK274.out NB274_0.out (by simp))
         replace HK := Aside0.mk (KeepBut.trans kK hk (.inl rfl))
         replace HB := Aside0.mk (hb)
         replace HI0 := Aside0.mk (hi)
         clear hb hi hk
         refine hK.out _ _ ⟨bl BK274 0,bl BK274 1⟩ (fun hHeld => ?_)
         clear hK K
         refine nw 32 ?_
         refine two_ (i:=7) (j:=11) (Ni := some 33) (Nj := some 8) (bm 14 255) (bm 14 2175) rfl rfl rfl rfl (two_of HT_.out (by kernel_rfl)) (by decide) (by decide) (fun K hK => ?_) (fun K hK => ?_)
         ·skip
          refine goes_ Try.func49 (by kernel_rfl) rfl #[.agg #[.slice Ao57 x275000_1.length co57,.int .i64 x275001_1],.string t282,.int .i64 t286,.string t290] (by rfl) rfl rfl mA ?_
          with_reducible refine (spec_l01Over.calls k1 (fun k_ => (k_ ≠ gb269 ∧ (k_ ≠ gb274 ∧ k_ ≠ g))) _ _ x275000_1 x275001_1 t282 t286 t290 t293 t296 t297 _ ?side1 A17.out).mono ?_
          (case side1 => exact HO_275000.out)
          rintro e w62 ⟨v294,rfl,ho0,hb⟩
          refine ⟨_,rfl,?_⟩
          replace HO_275000 := Aside0.mk (Kd.V_below (vA HO_275000.out) hb)
          have HO295 := Aside0.mk (Kd.V_lower (Kd.V_mono (ok' := fun k_ => k_ ≠ gb269 ∧ k_ ≠ gb274 ∧ k_ ≠ g) ho0 (fun k_ hk_ => ⟨Or.elim hk_ (fun hs_ => hs_.1) (fun hn_ => (fB BK269.out k_ hn_)),Or.elim hk_ (fun hs_ => hs_.2.1) (fun hn_ => (fB BK274.out k_ hn_)),Or.elim hk_ (fun hs_ => hs_.2.2) (fun hn_ => (IsS68.fresh iS68 k_ hn_))⟩)) (keep_size (w:=w) (g:=g) (row := none) kK))
          replace BK269 := bbA BK269 hb
          replace BK274 := bbA BK274 hb
          replace HK := Aside0.mk (KeepBut.trans kK (KeepBut.of_below hb g none) (.inl rfl))
          replace HB := Aside0.mk (below_step bI68 hb)
          replace HI0 := Aside0.mk (IsS68.below iS68 hb)
          clear hb
          (try clear ho0)
          refine hK.out _ _ ⟨bl BK274 0,bl BK274 1⟩ (fun hHeld => ?_)
          clear hK K
          refine nw 33 ?_
          refine pV_ 8 25 (bm 14 511) HT_.out ?_
          refine pV_ 9 34 (bm 14 1023) HT_.out ?_
          refine pV_ 10 35 (bm 14 2047) HT_.out ?_
          refine one_ (i:=11) (N:=some 8) (bm 14 4095) rfl rfl (one_of HT_.out (by kernel_rfl)) (by decide) (fun K hK => ?_)
          refine bxs (N:=8) (cs := #[.slice none 0 0,.int .i64 0]) (t:=25) ?_
          intro gb298 hg w63 hbox hb
          replace HO_275000 := Aside0.mk (Kd.V_below (Kd.V_elderB (vA HO_275000.out) gb298 (Nat.le_of_eq hg.symm)) hb)
          replace HO295 := Aside0.mk (Kd.V_below (Kd.V_elderB (vA HO295.out) gb298 (Nat.le_of_eq hg.symm)) hb)
          replace HB := Aside0.mk (below_step bI68 hb)
          have BK298 := Aside0.mk (hbox)
          have GW298 := Aside0.mk ((gk (g:=g) hg kK : w.heap.size ≤ gb298))
          have GE298 := Aside0.mk ((Nat.le_trans HW0.out (gk (g:=g) hg kK : w.heap.size ≤ gb298) : w0.heap.size ≤ gb298))
          replace HK := Aside0.mk (KeepBut.trans kK (KeepBut.of_below hb g none) (.inl rfl))
          have NB269_298 := Aside0.mk ((nl hg BK269.out))
          have NB298_269 := Aside0.mk ((ng hg BK269.out))
          replace BK269 := bbA BK269 hb
          have NB274_298 := Aside0.mk ((nl hg BK274.out))
          have NB298_274 := Aside0.mk ((ng hg BK274.out))
          replace BK274 := bbA BK274 hb
          have NB0_298 := Aside0.mk ((by rw [hg]; exact Nat.ne_of_lt (IsS68.lt (show IsS68 w0 _ g s0_0 t291 t292 from by exact iS68)) : g ≠ gb298))
          have NB298_0 := Aside0.mk ((by rw [hg]; exact Nat.ne_of_gt (IsS68.lt (show IsS68 w0 _ g s0_0 t291 t292 from by exact iS68)) : gb298 ≠ g))
          replace HI0 := Aside0.mk (IsS68.below iS68 hb)
          clear hb hbox hg
          refine hK.out _ _ ⟨bl BK274 0,bl BK274 1⟩ (fun hHeld => ?_)
          clear hK K
          refine nw 8 ?_
          exact norm_ (by simp only [putAll,Act.put,setIfInBounds_toArray,set_cons_zero,set_cons_succ]) (hCont (v294,gb298) _ ⟨hHeld,(vM HO295.out (fun _ hk => ⟨hk.1.2.2,⟨hk.1.1,⟨hk.1.2.1,hk.2⟩⟩⟩)),(vM HO_275000.out (fun _ hk => ⟨hk.1.2.2,⟨hk.1.1,⟨hk.1.2.1,hk.2⟩⟩⟩)),(kA BK269.out),(kA BK274.out),(kA BK298.out),GW298.out,GE298.out,NB0_298.out,NB298_0.out,NB269_298.out,NB298_269.out,NB274_298.out,NB298_274.out,iS68,kK,bI68⟩)
         ·skip
          refine bxs (N:=8) (cs := #[.slice none 0 0,.int .i64 0]) (t:=25) ?_
          intro gb298 hg w62 hbox hb
          replace HO_275000 := Aside0.mk (Kd.V_below (Kd.V_elderB (vA HO_275000.out) gb298 (Nat.le_of_eq hg.symm)) hb)
          replace HB := Aside0.mk (below_step bI68 hb)
          have BK298 := Aside0.mk (hbox)
          have GW298 := Aside0.mk ((gk (g:=g) hg kK : w.heap.size ≤ gb298))
          have GE298 := Aside0.mk ((Nat.le_trans HW0.out (gk (g:=g) hg kK : w.heap.size ≤ gb298) : w0.heap.size ≤ gb298))
          replace HK := Aside0.mk (KeepBut.trans kK (KeepBut.of_below hb g none) (.inl rfl))
          have NB269_298 := Aside0.mk ((nl hg BK269.out))
          have NB298_269 := Aside0.mk ((ng hg BK269.out))
          replace BK269 := bbA BK269 hb
          have NB274_298 := Aside0.mk ((nl hg BK274.out))
          have NB298_274 := Aside0.mk ((ng hg BK274.out))
          replace BK274 := bbA BK274 hb
          have NB0_298 := Aside0.mk ((by rw [hg]; exact Nat.ne_of_lt (IsS68.lt (show IsS68 w0 _ g s0_0 t291 t292 from by exact iS68)) : g ≠ gb298))
          have NB298_0 := Aside0.mk ((by rw [hg]; exact Nat.ne_of_gt (IsS68.lt (show IsS68 w0 _ g s0_0 t291 t292 from by exact iS68)) : gb298 ≠ g))
          replace HI0 := Aside0.mk (IsS68.below iS68 hb)
          clear hb hbox hg
          refine hK.out _ _ ⟨bl BK274 0,bl BK274 1⟩ (fun hHeld => ?_)
          clear hK K
          refine nw 8 ?_
          refine one_ (i:=7) (N:=some 33) (bm 14 2303) rfl rfl (one_of HT_.out (by kernel_rfl)) (by decide) (fun K hK => ?_)
          refine goes_ Try.func49 (by kernel_rfl) rfl #[.agg #[.slice Ao57 x275000_1.length co57,.int .i64 x275001_1],.string t282,.int .i64 t286,.string t290] (by rfl) rfl rfl mA ?_
          with_reducible refine (spec_l01Over.calls k1 (fun k_ => ((k_ ≠ gb269 ∧ (k_ ≠ gb274 ∧ k_ ≠ g)) ∧ k_ ≠ gb298)) _ _ x275000_1 x275001_1 t282 t286 t290 t293 t296 t297 _ ?side1 A17.out).mono ?_
          (case side1 => exact HO_275000.out)
          rintro e w63 ⟨v294,rfl,ho0,hb⟩
          refine ⟨_,rfl,?_⟩
          replace HO_275000 := Aside0.mk (Kd.V_below (vA HO_275000.out) hb)
          have HO295 := Aside0.mk (Kd.V_lower (Kd.V_mono (ok' := fun k_ => k_ ≠ gb269 ∧ k_ ≠ gb274 ∧ k_ ≠ gb298 ∧ k_ ≠ g) ho0 (fun k_ hk_ => ⟨Or.elim hk_ (fun hs_ => hs_.1.1) (fun hn_ => (fB BK269.out k_ hn_)),Or.elim hk_ (fun hs_ => hs_.1.2.1) (fun hn_ => (fB BK274.out k_ hn_)),Or.elim hk_ (fun hs_ => hs_.2) (fun hn_ => (fB BK298.out k_ hn_)),Or.elim hk_ (fun hs_ => hs_.1.2.2) (fun hn_ => (IsS68.fresh iS68 k_ hn_))⟩)) (keep_size (w:=w) (g:=g) (row := none) kK))
          replace BK269 := bbA BK269 hb
          replace BK274 := bbA BK274 hb
          replace BK298 := bbA BK298 hb
          replace HK := Aside0.mk (KeepBut.trans kK (KeepBut.of_below hb g none) (.inl rfl))
          replace HB := Aside0.mk (below_step bI68 hb)
          replace HI0 := Aside0.mk (IsS68.below iS68 hb)
          clear hb
          (try clear ho0)
          refine hK.out _ _ ⟨bl BK274 0,bl BK274 1⟩ (fun hHeld => ?_)
          clear hK K
          refine nw 33 ?_
          refine pV_ 8 25 (bm 14 2559) HT_.out ?_
          refine pV_ 9 34 (bm 14 3071) HT_.out ?_
          refine pV_ 10 35 (bm 14 4095) HT_.out ?_
          exact norm_ (by simp only [putAll,Act.put,setIfInBounds_toArray,set_cons_zero,set_cons_succ]) (hCont (v294,gb298) _ ⟨hHeld,(vM HO295.out (fun _ hk => ⟨hk.2.2.2,⟨hk.1,⟨hk.2.1,hk.2.2.1⟩⟩⟩)),(vM HO_275000.out (fun _ hk => ⟨hk.1.2.2,⟨hk.1.1,⟨hk.1.2.1,hk.2⟩⟩⟩)),(kA BK269.out),(kA BK274.out),(kA BK298.out),GW298.out,GE298.out,NB0_298.out,NB298_0.out,NB269_298.out,NB298_269.out,NB274_298.out,NB298_274.out,iS68,kK,bI68⟩)
        ·skip
         refine bxs (N:=8) (cs := #[.slice none 0 0,.int .i64 0]) (t:=25) ?_
         intro gb298 hg w61 hbox hb
         replace HO_275000 := Aside0.mk (Kd.V_below (Kd.V_elderB (vA HO_275000.out) gb298 (Nat.le_of_eq hg.symm)) hb)
         replace HB := Aside0.mk (below_step bI68 hb)
         have BK298 := Aside0.mk (hbox)
         have GW298 := Aside0.mk ((gk (g:=g) hg kK : w.heap.size ≤ gb298))
         have GE298 := Aside0.mk ((Nat.le_trans HW0.out (gk (g:=g) hg kK : w.heap.size ≤ gb298) : w0.heap.size ≤ gb298))
         replace HK := Aside0.mk (KeepBut.trans kK (KeepBut.of_below hb g none) (.inl rfl))
         have NB269_298 := Aside0.mk ((nl hg BK269.out))
         have NB298_269 := Aside0.mk ((ng hg BK269.out))
         replace BK269 := bbA BK269 hb
         have NB274_298 := Aside0.mk ((nl hg BK274.out))
         have NB298_274 := Aside0.mk ((ng hg BK274.out))
         replace BK274 := bbA BK274 hb
         have NB0_298 := Aside0.mk ((by rw [hg]; exact Nat.ne_of_lt (IsS68.lt (show IsS68 w0 _ g s0_0 t288 t289 from by exact iS68)) : g ≠ gb298))
         have NB298_0 := Aside0.mk ((by rw [hg]; exact Nat.ne_of_gt (IsS68.lt (show IsS68 w0 _ g s0_0 t288 t289 from by exact iS68)) : gb298 ≠ g))
         replace HI0 := Aside0.mk (IsS68.below iS68 hb)
         clear hb hbox hg
         refine hK.out _ _ ⟨bl BK274 0,bl BK274 1⟩ (fun hHeld => ?_)
         clear hK K
         refine nw 8 ?_
         refine one_ (i:=6) (N:=some 32) (bm 14 2175) rfl rfl (one_of HT_.out (by kernel_rfl)) (by decide) (fun K hK => ?_)
         refine goes_ Try.func33 (by kernel_rfl) rfl #[.pointer (some ⟨g,0,none⟩),.int .i64 t287] (by rfl) rfl rfl mA ?_
         with_reducible refine (spec_l00Src_some.calls k1 g s0_0 t288 t289 t287 t290 t291 t292 w0 _ ?side1 ?side2 A16.out).mono ?_
         (case side1 => exact iS68)
         (case side2 => exact bI68)
         rintro e w62 ⟨rfl,hi,hb,hk⟩
         refine ⟨_,rfl,?_⟩
         replace HO_275000 := Aside0.mk (Kd.V_mono (Kd.V_keep (Kd.V_mono (ok := fun k_ => ((k_ ≠ gb269 ∧ (k_ ≠ gb274 ∧ k_ ≠ g)) ∧ k_ ≠ gb298)) (vA HO_275000.out) (fun k_ hk_ => (⟨hk_,hk_.1.2.2⟩ : _ ∧ k_ ≠ g))) hk (fun _ h => h.2)) (fun _ h => h.1))
         replace BK269 := Aside0.mk (kbk hk BK269.out NB269_0.out (by simp))
         replace BK274 := Aside0.mk (kbk hk BK274.out NB274_0.out (by simp))
         replace BK298 := Aside0.mk (kbk hk BK298.out NB298_0.out (by simp))
         replace HK := Aside0.mk (KeepBut.trans kK hk (.inl rfl))
         replace HB := Aside0.mk (hb)
         replace HI0 := Aside0.mk (hi)
         clear hb hi hk
         refine hK.out _ _ ⟨bl BK274 0,bl BK274 1⟩ (fun hHeld => ?_)
         clear hK K
         refine nw 32 ?_
         refine one_ (i:=7) (N:=some 33) (bm 14 2303) rfl rfl (one_of HT_.out (by kernel_rfl)) (by decide) (fun K hK => ?_)
         refine goes_ Try.func49 (by kernel_rfl) rfl #[.agg #[.slice Ao57 x275000_1.length co57,.int .i64 x275001_1],.string t282,.int .i64 t286,.string t290] (by rfl) rfl rfl mA ?_
         with_reducible refine (spec_l01Over.calls k1 (fun k_ => ((k_ ≠ gb269 ∧ (k_ ≠ gb274 ∧ k_ ≠ g)) ∧ k_ ≠ gb298)) _ _ x275000_1 x275001_1 t282 t286 t290 t293 t296 t297 _ ?side1 A17.out).mono ?_
         (case side1 => exact HO_275000.out)
         rintro e w63 ⟨v294,rfl,ho0,hb⟩
         refine ⟨_,rfl,?_⟩
         replace HO_275000 := Aside0.mk (Kd.V_below (vA HO_275000.out) hb)
         have HO295 := Aside0.mk (Kd.V_lower (Kd.V_mono (ok' := fun k_ => k_ ≠ gb269 ∧ k_ ≠ gb274 ∧ k_ ≠ gb298 ∧ k_ ≠ g) ho0 (fun k_ hk_ => ⟨Or.elim hk_ (fun hs_ => hs_.1.1) (fun hn_ => (fB BK269.out k_ hn_)),Or.elim hk_ (fun hs_ => hs_.1.2.1) (fun hn_ => (fB BK274.out k_ hn_)),Or.elim hk_ (fun hs_ => hs_.2) (fun hn_ => (fB BK298.out k_ hn_)),Or.elim hk_ (fun hs_ => hs_.1.2.2) (fun hn_ => (IsS68.fresh iS68 k_ hn_))⟩)) (keep_size (w:=w) (g:=g) (row := none) kK))
         replace BK269 := bbA BK269 hb
         replace BK274 := bbA BK274 hb
         replace BK298 := bbA BK298 hb
         replace HK := Aside0.mk (KeepBut.trans kK (KeepBut.of_below hb g none) (.inl rfl))
         replace HB := Aside0.mk (below_step bI68 hb)
         replace HI0 := Aside0.mk (IsS68.below iS68 hb)
         clear hb
         (try clear ho0)
         refine hK.out _ _ ⟨bl BK274 0,bl BK274 1⟩ (fun hHeld => ?_)
         clear hK K
         refine nw 33 ?_
         refine pV_ 8 25 (bm 14 2559) HT_.out ?_
         refine pV_ 9 34 (bm 14 3071) HT_.out ?_
         refine pV_ 10 35 (bm 14 4095) HT_.out ?_
         exact norm_ (by simp only [putAll,Act.put,setIfInBounds_toArray,set_cons_zero,set_cons_succ]) (hCont (v294,gb298) _ ⟨hHeld,(vM HO295.out (fun _ hk => ⟨hk.2.2.2,⟨hk.1,⟨hk.2.1,hk.2.2.1⟩⟩⟩)),(vM HO_275000.out (fun _ hk => ⟨hk.1.2.2,⟨hk.1.1,⟨hk.1.2.1,hk.2⟩⟩⟩)),(kA BK269.out),(kA BK274.out),(kA BK298.out),GW298.out,GE298.out,NB0_298.out,NB298_0.out,NB269_298.out,NB298_269.out,NB274_298.out,NB298_274.out,iS68,kK,bI68⟩)
       ·skip
        refine bxs (N:=8) (cs := #[.slice none 0 0,.int .i64 0]) (t:=25) ?_
        intro gb298 hg w60 hbox hb
        replace HO_275000 := Aside0.mk (Kd.V_below (Kd.V_elderB (vA HO_275000.out) gb298 (Nat.le_of_eq hg.symm)) hb)
        replace HB := Aside0.mk (below_step bI68 hb)
        have BK298 := Aside0.mk (hbox)
        have GW298 := Aside0.mk ((gk (g:=g) hg kK : w.heap.size ≤ gb298))
        have GE298 := Aside0.mk ((Nat.le_trans HW0.out (gk (g:=g) hg kK : w.heap.size ≤ gb298) : w0.heap.size ≤ gb298))
        replace HK := Aside0.mk (KeepBut.trans kK (KeepBut.of_below hb g none) (.inl rfl))
        have NB269_298 := Aside0.mk ((nl hg BK269.out))
        have NB298_269 := Aside0.mk ((ng hg BK269.out))
        replace BK269 := bbA BK269 hb
        have NB274_298 := Aside0.mk ((nl hg BK274.out))
        have NB298_274 := Aside0.mk ((ng hg BK274.out))
        replace BK274 := bbA BK274 hb
        have NB0_298 := Aside0.mk ((by rw [hg]; exact Nat.ne_of_lt (IsS68.lt (show IsS68 w0 _ g s0_0 t283 t284 from by exact iS68)) : g ≠ gb298))
        have NB298_0 := Aside0.mk ((by rw [hg]; exact Nat.ne_of_gt (IsS68.lt (show IsS68 w0 _ g s0_0 t283 t284 from by exact iS68)) : gb298 ≠ g))
        replace HI0 := Aside0.mk (IsS68.below iS68 hb)
        clear hb hbox hg
        refine hK.out _ _ ⟨bl BK274 0,bl BK274 1⟩ (fun hHeld => ?_)
        clear hK K
        refine nw 8 ?_
        refine one_ (i:=5) (N:=some 31) (bm 14 2111) rfl rfl (one_of HT_.out (by kernel_rfl)) (by decide) (fun K hK => ?_)
        refine goes_ Try.func46 (by kernel_rfl) rfl #[.pointer (some ⟨g,0,none⟩),.int .i64 5] (by rfl) rfl rfl mA ?_
        with_reducible refine (spec_l00Src_next.calls g s0_0 t283 t284 5 t287 t288 t289 w0 _ ?side1 ?side2 A15.out).mono ?_
        (case side1 => exact iS68)
        (case side2 => exact bI68)
        rintro e w61 ⟨rfl,hi,hb,hk⟩
        refine ⟨_,rfl,?_⟩
        replace HO_275000 := Aside0.mk (Kd.V_mono (Kd.V_keep (Kd.V_mono (ok := fun k_ => ((k_ ≠ gb269 ∧ (k_ ≠ gb274 ∧ k_ ≠ g)) ∧ k_ ≠ gb298)) (vA HO_275000.out) (fun k_ hk_ => (⟨hk_,hk_.1.2.2⟩ : _ ∧ k_ ≠ g))) hk (fun _ h => h.2)) (fun _ h => h.1))
        replace BK269 := Aside0.mk (kbk hk BK269.out NB269_0.out (by simp))
        replace BK274 := Aside0.mk (kbk hk BK274.out NB274_0.out (by simp))
        replace BK298 := Aside0.mk (kbk hk BK298.out NB298_0.out (by simp))
        replace HK := Aside0.mk (KeepBut.trans kK hk (.inl rfl))
        replace HB := Aside0.mk (hb)
        replace HI0 := Aside0.mk (hi)
        clear hb hi hk
        refine hK.out _ _ ⟨bl BK274 0,bl BK274 1⟩ (fun hHeld => ?_)
        clear hK K
        refine nw 31 ?_
        refine one_ (i:=6) (N:=some 32) (bm 14 2175) rfl rfl (one_of HT_.out (by kernel_rfl)) (by decide) (fun K hK => ?_)
        refine goes_ Try.func33 (by kernel_rfl) rfl #[.pointer (some ⟨g,0,none⟩),.int .i64 t287] (by rfl) rfl rfl mA ?_
        with_reducible refine (spec_l00Src_some.calls k1 g s0_0 t288 t289 t287 t290 t291 t292 w0 _ ?side1 ?side2 A16.out).mono ?_
        (case side1 => exact iS68)
        (case side2 => exact bI68)
        rintro e w62 ⟨rfl,hi,hb,hk⟩
        refine ⟨_,rfl,?_⟩
        replace HO_275000 := Aside0.mk (Kd.V_mono (Kd.V_keep (Kd.V_mono (ok := fun k_ => ((k_ ≠ gb269 ∧ (k_ ≠ gb274 ∧ k_ ≠ g)) ∧ k_ ≠ gb298)) (vA HO_275000.out) (fun k_ hk_ => (⟨hk_,hk_.1.2.2⟩ : _ ∧ k_ ≠ g))) hk (fun _ h => h.2)) (fun _ h => h.1))
        replace BK269 := Aside0.mk (kbk hk BK269.out NB269_0.out (by simp))
        replace BK274 := Aside0.mk (kbk hk BK274.out NB274_0.out (by simp))
        replace BK298 := Aside0.mk (kbk hk BK298.out NB298_0.out (by simp))
        replace HK := Aside0.mk (KeepBut.trans kK hk (.inl rfl))
        replace HB := Aside0.mk (hb)
        replace HI0 := Aside0.mk (hi)
        clear hb hi hk
        refine hK.out _ _ ⟨bl BK274 0,bl BK274 1⟩ (fun hHeld => ?_)
        clear hK K
        refine nw 32 ?_
        refine one_ (i:=7) (N:=some 33) (bm 14 2303) rfl rfl (one_of HT_.out (by kernel_rfl)) (by decide) (fun K hK => ?_)
        refine goes_ Try.func49 (by kernel_rfl) rfl #[.agg #[.slice Ao57 x275000_1.length co57,.int .i64 x275001_1],.string t282,.int .i64 t286,.string t290] (by rfl) rfl rfl mA ?_
        with_reducible refine (spec_l01Over.calls k1 (fun k_ => ((k_ ≠ gb269 ∧ (k_ ≠ gb274 ∧ k_ ≠ g)) ∧ k_ ≠ gb298)) _ _ x275000_1 x275001_1 t282 t286 t290 t293 t296 t297 _ ?side1 A17.out).mono ?_
        (case side1 => exact HO_275000.out)
        rintro e w63 ⟨v294,rfl,ho0,hb⟩
        refine ⟨_,rfl,?_⟩
        replace HO_275000 := Aside0.mk (Kd.V_below (vA HO_275000.out) hb)
        have HO295 := Aside0.mk (Kd.V_lower (Kd.V_mono (ok' := fun k_ => k_ ≠ gb269 ∧ k_ ≠ gb274 ∧ k_ ≠ gb298 ∧ k_ ≠ g) ho0 (fun k_ hk_ => ⟨Or.elim hk_ (fun hs_ => hs_.1.1) (fun hn_ => (fB BK269.out k_ hn_)),Or.elim hk_ (fun hs_ => hs_.1.2.1) (fun hn_ => (fB BK274.out k_ hn_)),Or.elim hk_ (fun hs_ => hs_.2) (fun hn_ => (fB BK298.out k_ hn_)),Or.elim hk_ (fun hs_ => hs_.1.2.2) (fun hn_ => (IsS68.fresh iS68 k_ hn_))⟩)) (keep_size (w:=w) (g:=g) (row := none) kK))
        replace BK269 := bbA BK269 hb
        replace BK274 := bbA BK274 hb
        replace BK298 := bbA BK298 hb
        replace HK := Aside0.mk (KeepBut.trans kK (KeepBut.of_below hb g none) (.inl rfl))
        replace HB := Aside0.mk (below_step bI68 hb)
        replace HI0 := Aside0.mk (IsS68.below iS68 hb)
        clear hb
        (try clear ho0)
        refine hK.out _ _ ⟨bl BK274 0,bl BK274 1⟩ (fun hHeld => ?_)
        clear hK K
        refine nw 33 ?_
        refine pV_ 8 25 (bm 14 2559) HT_.out ?_
        refine pV_ 9 34 (bm 14 3071) HT_.out ?_
        refine pV_ 10 35 (bm 14 4095) HT_.out ?_
        exact norm_ (by simp only [putAll,Act.put,setIfInBounds_toArray,set_cons_zero,set_cons_succ]) (hCont (v294,gb298) _ ⟨hHeld,(vM HO295.out (fun _ hk => ⟨hk.2.2.2,⟨hk.1,⟨hk.2.1,hk.2.2.1⟩⟩⟩)),(vM HO_275000.out (fun _ hk => ⟨hk.1.2.2,⟨hk.1.1,⟨hk.1.2.1,hk.2⟩⟩⟩)),(kA BK269.out),(kA BK274.out),(kA BK298.out),GW298.out,GE298.out,NB0_298.out,NB298_0.out,NB269_298.out,NB298_269.out,NB274_298.out,NB298_274.out,iS68,kK,bI68⟩)
      rintro ⟨v294,gb298⟩ w64 ⟨hS_,h0_,h1_,h2_,h3_,h4_,h5_,h6_,h7_,h8_,h9_,h10_,h11_,h12_,h13_,h14_,h15_⟩
      have HO295 : Aside0 (Kd.V k32 32 w64 w.heap.size (fun k_ => k_ ≠ g ∧ k_ ≠ gb269 ∧ k_ ≠ gb274 ∧ k_ ≠ gb298) v294 t293) := ⟨h0_⟩
      replace HO_275000 : Aside0 (Kd.V k32 32 w64 w.heap.size (fun k_ => k_ ≠ g ∧ k_ ≠ gb269 ∧ k_ ≠ gb274 ∧ k_ ≠ gb298) (.slice Ao57 x275000_1.length co57) x275000_1) := ⟨h1_⟩
      replace BK269 : Aside0 (w64.heap[gb269]? = some (.cells #[.slice none 0 0,.int .i64 0] 25 (0,0))) := ⟨h2_⟩
      replace BK274 : Aside0 (w64.heap[gb274]? = some (.cells #[.slice Ao57 x275000_1.length co57,.int .i64 x275001_1] 25 (0,0))) := ⟨h3_⟩
      have BK298 : Aside0 (w64.heap[gb298]? = some (.cells #[.slice none 0 0,.int .i64 0] 25 (0,0))) := ⟨h4_⟩
      have GW298 : Aside0 (w.heap.size ≤ gb298) := ⟨h5_⟩
      have GE298 : Aside0 (w0.heap.size ≤ gb298) := ⟨h6_⟩
      have NB0_298 : Aside0 (g ≠ gb298) := ⟨h7_⟩
      have NB298_0 : Aside0 (gb298 ≠ g) := ⟨h8_⟩
      have NB269_298 : Aside0 (gb269 ≠ gb298) := ⟨h9_⟩
      have NB298_269 : Aside0 (gb298 ≠ gb269) := ⟨h10_⟩
      have NB274_298 : Aside0 (gb274 ≠ gb298) := ⟨h11_⟩
      have NB298_274 : Aside0 (gb298 ≠ gb274) := ⟨h12_⟩
      replace HI0 : Aside0 (IsS68 w0 w64 g s0_0 t291 t292) := ⟨h13_⟩
      replace HK : Aside0 (KeepBut w w64 g none) := ⟨h14_⟩
      replace HB : Aside0 (Below w0.heap.size w0 w64) := ⟨h15_⟩
      clear h0_ h1_ h2_ h3_ h4_ h5_ h6_ h7_ h8_ h9_ h10_ h11_ h12_ h13_ h14_ h15_
      have hHeld : w64.cell? ⟨gb274,0,none⟩ = some (.slice Ao57 x275000_1.length co57) ∧ w64.cell? ⟨gb274,1,none⟩ = some (.int .i64 x275001_1) := hS_
      obtain ⟨Ao65,co65,eo65⟩ := Kd.V_slice HO295.out
      (first | subst eo65 | (injection eo65 with f1_ f2_ f3_; have f4_ := f1_.symm; have f5_ := f3_.symm; clear f1_ f2_ f3_; subst f4_; subst f5_))
      refine norm_ (a':=?_) ?_ ?_
      rotate_left
      ·simp only [putAll,Act.put,setIfInBounds_toArray,set_cons_zero,set_cons_succ]
       rfl
      refine one_ (i:=12) (N:=none) (bm 14 8191) rfl rfl (one_of HT_.out (by kernel_rfl)) (by decide) (fun K hK => ?_)
      have hs66 : w64.cell? ⟨gb298,0,none⟩ = some (.slice none 0 0) := bl BK298 0
      have hfs66 := blk_frozen BK298.out 0
      have hns66_0 := NB269_298.out
      have hns66_1 := NB274_298.out
      have hms66_0 := NB298_269.out
      have hms66_1 := NB298_274.out
      have hs67 : w64.cell? ⟨gb298,1,none⟩ = some (.int .i64 0) := bl BK298 1
      have hfs67 := blk_frozen BK298.out 1
      have hns67_0 := NB269_298.out
      have hns67_1 := NB274_298.out
      have hms67_0 := NB298_269.out
      have hms67_1 := NB298_274.out
      refine skip_ (w1 := ?_) (by rfl) rfl ?_ ?_
      rotate_left
      ·go_simp
       rfl
      refine hK.out _ _ ⟨((cell_far (p:=⟨gb298,_,none⟩) NB274_298.out _).trans (((cell_far (p:=⟨gb298,_,none⟩) NB274_298.out _).trans (hHeld.1)))),((cell_far (p:=⟨gb298,_,none⟩) NB274_298.out _).trans (((cell_far (p:=⟨gb298,_,none⟩) NB274_298.out _).trans (hHeld.2))))⟩ (fun hHeld => ?_)
      clear hK K
      refine pV_ 13 9 (bm 14 16383) HT_.out ?_
      refine done_ (done_of HT_.out (by kernel_rfl)) ?_
      try go_wp2_with (first | ((with_reducible refine gate_callee (f:=50) rfl ?_); refine goesL_ (some 49) rfl rfl Try.func50 (by kernel_rfl) rfl #[.pointer (some ⟨g,0,none⟩),.int .i64 4] rfl mA ?_; (with_reducible refine (spec_l00Src_chance.calls g s0_0 t291 t292 4 true t311 t312 w0 _ ?side1 ?side2 A50.out).mono ?_); (case side1 => exact iS68); (case side2 => exact bI68); rintro e w68 ⟨rfl,hi,hb,hk⟩; refine ⟨_,rfl,?_⟩; replace HO_275000 := Aside0.mk (Kd.V_mono (Kd.V_keep (Kd.V_mono (ok := fun k_ => (k_ ≠ g ∧ (k_ ≠ gb269 ∧ (k_ ≠ gb274 ∧ k_ ≠ gb298)))) (by (with_reducible repeat (first | apply Kd.V_alloc | apply Kd.V_drewN | apply Kd.V_drew)); exact (Kd.V_mono (Kd.V_far (p:=⟨gb298,1,none⟩) (Kd.V_far (p:=⟨gb298,0,none⟩) (Kd.V_mono HO_275000.out (fun k_ hk => (⟨hk,hk.2.2.2⟩ : _ ∧ k_ ≠ gb298))) (fun _ hk => hk.2) (.slice Ao65 t293.length co65)) (fun _ hk => hk.2) (.int .i64 t296)) (fun _ h_ => h_.1))) (fun k_ hk_ => (⟨hk_,hk_.1⟩ : _ ∧ k_ ≠ g))) hk (fun _ h => h.2)) (fun _ h => h.1)); replace BK269 := Aside0.mk (KeepBut.blk hk (g':=gb269) (o:=.cells #[.slice none 0 0,.int .i64 0] 25 (0,0)) (kF BK269.out) NB269_0.out (by simp)); replace BK274 := Aside0.mk (KeepBut.blk hk (g':=gb274) (o:=.cells #[.slice Ao57 x275000_1.length co57,.int .i64 x275001_1] 25 (0,0)) (kF BK274.out) NB274_0.out (by simp)); replace HO295 := Aside0.mk (Kd.V_mono (Kd.V_keep (Kd.V_mono (ok := fun k_ => (k_ ≠ g ∧ (k_ ≠ gb269 ∧ (k_ ≠ gb274 ∧ k_ ≠ gb298)))) (by (with_reducible repeat (first | apply Kd.V_alloc | apply Kd.V_drewN | apply Kd.V_drew)); exact (Kd.V_mono (Kd.V_far (p:=⟨gb298,1,none⟩) (Kd.V_far (p:=⟨gb298,0,none⟩) (Kd.V_mono HO295.out (fun k_ hk => (⟨hk,hk.2.2.2⟩ : _ ∧ k_ ≠ gb298))) (fun _ hk => hk.2) (.slice Ao65 t293.length co65)) (fun _ hk => hk.2) (.int .i64 t296)) (fun _ h_ => h_.1))) (fun k_ hk_ => (⟨hk_,hk_.1⟩ : _ ∧ k_ ≠ g))) hk (fun _ h => h.2)) (fun _ h => h.1)); replace BK298 := Aside0.mk (KeepBut.blk hk (g':=gb298) (o:=.cells #[.slice Ao65 t293.length co65,.int .i64 t296] 25 (0,0)) (kP2 BK298.out) NB298_0.out (by simp)); replace HK := Aside0.mk (KeepBut.trans kK hk (.inl rfl)); replace HB := Aside0.mk (hb); replace HI0 := Aside0.mk (hi); clear hb hi hk; have hnb69 := NB274_298.out; have hnc69 := NB298_274.out; obtain ⟨hcz70_0,hcz70_1⟩ := cl2 BK274.out; obtain ⟨hfz70_0,hfz70_1⟩ := fz2 BK274.out) | ((with_reducible refine gate_callee (f:=51) rfl ?_); refine goesL_ (some 54) rfl rfl Try.func51 (by kernel_rfl) rfl #[.agg #[.slice Ao57 x275000_1.length co57,.int .i64 x275001_1],.string t282,.int .i64 t286] rfl mA ?_; (with_reducible refine (spec_l01Delete.calls k1 (fun k_ => (k_ ≠ g ∧ (k_ ≠ gb269 ∧ (k_ ≠ gb274 ∧ k_ ≠ gb298)))) _ _ x275000_1 x275001_1 t282 t286 t313 t316 t317 _ ?side1 A52.out).mono ?_); (case side1 => exact HO_275000.out); rintro e w71 ⟨v314,rfl,ho0,hb⟩; refine ⟨_,rfl,?_⟩; replace HO_275000 := Aside0.mk (Kd.V_below (vA HO_275000.out) hb); replace HO295 := Aside0.mk (Kd.V_below (vA HO295.out) hb); have HO315 := Aside0.mk (Kd.V_lower (Kd.V_mono (ok' := fun k_ => k_ ≠ gb269 ∧ k_ ≠ gb274 ∧ k_ ≠ gb298 ∧ k_ ≠ g) ho0 (fun k_ hk_ => ⟨Or.elim hk_ (fun hs_ => hs_.2.1) (fun hn_ => (fB BK269.out k_ hn_)),Or.elim hk_ (fun hs_ => hs_.2.2.1) (fun hn_ => (fB BK274.out k_ hn_)),Or.elim hk_ (fun hs_ => hs_.2.2.2) (fun hn_ => (fB BK298.out k_ hn_)),Or.elim hk_ (fun hs_ => hs_.1) (fun hn_ => (IsS68.fresh iS68 k_ hn_))⟩)) (keep_size (w:=w) (g:=g) (row := none) kK)); replace BK269 := bbA BK269 hb; replace BK274 := bbA BK274 hb; replace BK298 := bbA BK298 hb; replace HK := Aside0.mk (KeepBut.trans kK (KeepBut.of_below hb g none) (.inl rfl)); replace HB := Aside0.mk (below_step bI68 hb); replace HI0 := Aside0.mk (IsS68.below iS68 hb); clear hb; (try clear ho0); obtain ⟨Ao72,co72,eo72⟩ := Kd.V_slice HO315.out; subst eo72; have hnb73 := NB298_269.out; have hnc73 := NB269_298.out; have hnb74 := NB298_0.out; have hnc74 := NB0_298.out; obtain ⟨hcz75_0,hcz75_1⟩ := cl2 BK298.out; obtain ⟨hfz75_0,hfz75_1⟩ := fz2 BK298.out; obtain ⟨hcz76_0,hcz76_1⟩ := cl2 BK274.out; obtain ⟨hfz76_0,hfz76_1⟩ := fz2 BK274.out))
      go_roundg k1
      case measure => have := HK1.out; omega
      case rel => exact ⟨(wrap64 (x4_1 - 1)),(t311),(t312),(t313),(t316),(.slice Ao72 t313.length co72),(by first | rfl | (simp; done) | (simp [*]; done)),H',⟨by have := HK1.out; omega⟩,⟨by (with_reducible repeat (first | apply Kd.V_alloc | apply Kd.V_drewN | apply Kd.V_drew)); exact Kd.V_mono (Kd.V_far (p:=⟨gb274,1,none⟩) (Kd.V_far (p:=⟨gb274,0,none⟩) (Kd.V_far (p:=⟨gb298,1,none⟩) (Kd.V_far (p:=⟨gb298,0,none⟩) (Kd.V_mono (Kd.V_mono HO315.out (fun k_ hk => (⟨hk,hk.2.2.1⟩ : _ ∧ k_ ≠ gb298))) (fun k_ hk => (⟨hk,hk.1.2.1⟩ : _ ∧ k_ ≠ gb274))) (fun _ hk => hk.1.2) (.slice Ao72 t313.length co72)) (fun _ hk => hk.1.2) (.int .i64 t316)) (fun _ hk => hk.2) (.slice Ao72 t313.length co72)) (fun _ hk => hk.2) (.int .i64 t316)) (fun _ hk => ⟨hk.1.1.1,⟨hk.1.1.2.1,hk.1.1.2.2.2⟩⟩)⟩,⟨kF BK269.out⟩,⟨by (with_reducible repeat (first | refine blk_drewN ?_ _ | refine blk_drew ?_ | refine blk_alloc ?_ _)); apply blkp2; (with_reducible repeat (first | refine blk_drewN ?_ _ | refine blk_drew ?_ | refine blk_alloc ?_ _)); refine blk_far ?_ NB274_298.out _; (with_reducible repeat (first | refine blk_drewN ?_ _ | refine blk_drew ?_ | refine blk_alloc ?_ _)); refine blk_far ?_ NB274_298.out _; (with_reducible repeat (first | refine blk_drewN ?_ _ | refine blk_drew ?_ | refine blk_alloc ?_ _)); exact BK274.out⟩,⟨by exact iS68⟩,⟨by exact kK⟩,⟨by exact bI68⟩⟩
     ·replace c51 := Bool.eq_false_iff.mpr c51
      subst c51
      rw [if_neg (show ¬ (false = true) by decide)] at H
      have H' := Aside0.mk H
      clear H
      try go_wp2_with (first | ((with_reducible refine gate_callee (f:=47) rfl ?_); refine goesL_ (some 18) rfl rfl Try.func47 (by kernel_rfl) rfl #[.pointer (some ⟨g,0,none⟩)] rfl mA ?_; (with_reducible refine (spec_l00Src_shortKey.calls g s0_0 x1001_1 x1002_1 t282 t283 t284 w0 _ ?side1 ?side2 A13.out).mono ?_); (case side1 => exact iS68); (case side2 => exact bI68); rintro e w77 ⟨rfl,hi,hb,hk⟩; refine ⟨_,rfl,?_⟩; replace HO_275000 := Aside0.mk (Kd.V_mono (Kd.V_keep (Kd.V_mono (ok := fun k_ => (k_ ≠ gb269 ∧ (k_ ≠ gb274 ∧ k_ ≠ g))) (vA HO_275000.out) (fun k_ hk_ => (⟨hk_,hk_.2.2⟩ : _ ∧ k_ ≠ g))) hk (fun _ h => h.2)) (fun _ h => h.1)); replace BK269 := Aside0.mk (kbk hk BK269.out NB269_0.out (by simp)); replace BK274 := Aside0.mk (kbk hk BK274.out NB274_0.out (by simp)); replace HK := Aside0.mk (KeepBut.trans kK hk (.inl rfl)); replace HB := Aside0.mk (hb); replace HI0 := Aside0.mk (hi); clear hb hi hk; have hnb78 := NB274_269.out; have hnc78 := NB269_274.out; have hnb79 := NB274_0.out; have hnc79 := NB0_274.out; obtain ⟨hcz80_0,hcz80_1⟩ := cl2 BK274.out; obtain ⟨hfz80_0,hfz80_1⟩ := fz2 BK274.out; obtain ⟨Ao81,co81,eo81⟩ := Kd.V_slice HO_275000.out; subst eo81) | ((with_reducible refine gate_callee (f:=48) rfl ?_); refine goesL_ (some 22) rfl rfl Try.func48 (by kernel_rfl) rfl #[.agg #[.slice Ao81 x275000_1.length co81,.int .i64 x275001_1],.string t282] rfl mA ?_; (with_reducible refine (spec_l01Get.calls k1 _ _ x275000_1 x275001_1 t282 t285 t286 _ ?side1 ?side2 A14.out).mono ?_); (case side1 => repeat (first | exact (Kd.V_reads' HO_275000.out).2.2 | (with_reducible refine Kd.C_alloc ?_ _) | (with_reducible refine Kd.C_drewN ?_ _) | (with_reducible refine Kd.C_drew ?_))); (case side2 => exact (Kd.V_reads' HO_275000.out).2.1); rintro e w82 ⟨rfl,hb⟩; refine ⟨_,rfl,?_⟩; replace HO_275000 := Aside0.mk (Kd.V_below (vA HO_275000.out) hb); replace BK269 := bbA BK269 hb; replace BK274 := bbA BK274 hb; replace HK := Aside0.mk (KeepBut.trans kK (KeepBut.of_below hb g none) (.inl rfl)); replace HB := Aside0.mk (below_step bI68 hb); replace HI0 := Aside0.mk (IsS68.below iS68 hb); clear hb))
      replace HO_275000 := Aside0.mk (Kd.V_drew HO_275000.out)
      replace BK269 := Aside0.mk (blk_drew BK269.out)
      replace BK274 := Aside0.mk (blk_drew BK274.out)
      replace HI0 := Aside0.mk (IsS68.drew HI0.out)
      replace HK := Aside0.mk (keep_drew HK.out)
      replace HB := Aside0.mk (below_drew1 HB.out)
      refine start_ (n:=14) (S:=fun w' => w'.cell? ⟨gb274,0,none⟩ = some (.slice Ao81 x275000_1.length co81) ∧ w'.cell? ⟨gb274,1,none⟩ = some (.int .i64 x275001_1)) (ds := []) (bm 14 0) (by kernel_rfl) rfl rfl ⟨bl BK274 0,bl BK274 1⟩ (fun hHeld => ?_); refine with_tabW spec_l00Src_plainStore.tab7 spec_l00Src_plainStore.bits7 (fun HT_ HW_ => ?_)
      generalize w82.drew = w83 at HO_275000 BK269 BK274 HI0 HK HB hHeld ⊢
      refine pV_ 1 27 (bm 14 2) HT_.out ?_
      refine pV_ 2 28 (bm 14 6) HT_.out ?_
      refine pV_ 3 29 (bm 14 14) HT_.out ?_
      refine pV_ 4 30 (bm 14 30) HT_.out ?_
      refine tk 0 26 (bm 14 31) HT_.out HW_.out hHeld ?_
      refine join_ (σ := Value × Nat) 2 (bm 14 4095) (fun s_ => [(31,.int .i64 t287),(32,.string t290),(33,.tuple #[.agg #[s_.1,.int .i64 t296],.int .i64 t297]),(8,.pointer (some ⟨s_.2,0,none⟩)),(25,.tuple #[.agg #[s_.1,.int .i64 t296],.int .i64 t297]),(34,.agg #[s_.1,.int .i64 t296]),(35,.int .i64 t297)]) (fun s_ w' => (w'.cell? ⟨gb274,0,none⟩ = some (.slice Ao81 x275000_1.length co81) ∧ w'.cell? ⟨gb274,1,none⟩ = some (.int .i64 x275001_1)) ∧ (Kd.V k32 32 w' w.heap.size (fun k_ => k_ ≠ g ∧ k_ ≠ gb269 ∧ k_ ≠ gb274 ∧ k_ ≠ s_.2) s_.1 t293) ∧ (Kd.V k32 32 w' w.heap.size (fun k_ => k_ ≠ g ∧ k_ ≠ gb269 ∧ k_ ≠ gb274 ∧ k_ ≠ s_.2) (.slice Ao81 x275000_1.length co81) x275000_1) ∧ (w'.heap[gb269]? = some (.cells #[.slice none 0 0,.int .i64 0] 25 (0,0))) ∧ (w'.heap[gb274]? = some (.cells #[.slice Ao81 x275000_1.length co81,.int .i64 x275001_1] 25 (0,0))) ∧ (w'.heap[s_.2]? = some (.cells #[.slice none 0 0,.int .i64 0] 25 (0,0))) ∧ (w.heap.size ≤ s_.2) ∧ (w0.heap.size ≤ s_.2) ∧ (g ≠ s_.2) ∧ (s_.2 ≠ g) ∧ (gb269 ≠ s_.2) ∧ (s_.2 ≠ gb269) ∧ (gb274 ≠ s_.2) ∧ (s_.2 ≠ gb274) ∧ (IsS68 w0 w' g s0_0 t291 t292) ∧ (KeepBut w w' g none) ∧ (Below w0.heap.size w0 w')) ?_ ?_
      rotate_left
      ·intro hCont
       refine two_ (i:=5) (j:=11) (Ni := some 31) (Nj := some 8) (bm 14 63) (bm 14 2079) rfl rfl rfl rfl (two_of HT_.out (by kernel_rfl)) (by decide) (by decide) (fun K hK => ?_) (fun K hK => ?_)
       ·skip
        refine goes_ Try.func46 (by kernel_rfl) rfl #[.pointer (some ⟨g,0,none⟩),.int .i64 5] (by rfl) rfl rfl mA ?_
        with_reducible refine (spec_l00Src_next.calls g s0_0 t283 t284 5 t287 t288 t289 w0 _ ?side1 ?side2 A15.out).mono ?_
        (case side1 => exact iS68)
        (case side2 => exact bI68)
        rintro e w84 ⟨rfl,hi,hb,hk⟩
        refine ⟨_,rfl,?_⟩
        replace HO_275000 := Aside0.mk (Kd.V_mono (Kd.V_keep (Kd.V_mono (ok := fun k_ => (k_ ≠ gb269 ∧ (k_ ≠ gb274 ∧ k_ ≠ g))) (vA HO_275000.out) (fun k_ hk_ => (⟨hk_,hk_.2.2⟩ : _ ∧ k_ ≠ g))) hk (fun _ h => h.2)) (fun _ h => h.1))
        replace BK269 := Aside0.mk (kbk hk BK269.out NB269_0.out (by simp))
        replace BK274 := Aside0.mk (kbk hk BK274.out NB274_0.out (by simp))
        replace HK := Aside0.mk (KeepBut.trans kK hk (.inl rfl))
        replace HB := Aside0.mk (hb)
        replace HI0 := Aside0.mk (hi)
        clear hb hi hk
        refine hK.out _ _ ⟨bl BK274 0,bl BK274 1⟩ (fun hHeld => ?_)
        clear hK K
        refine nw 31 ?_
        refine two_ (i:=6) (j:=11) (Ni := some 32) (Nj := some 8) (bm 14 127) (bm 14 2111) rfl rfl rfl rfl (two_of HT_.out (by kernel_rfl)) (by decide) (by decide) (fun K hK => ?_) (fun K hK => ?_)
        ·skip
         refine goes_ Try.func33 (by kernel_rfl) rfl #[.pointer (some ⟨g,0,none⟩),.int .i64 t287] (by rfl) rfl rfl mA ?_
         with_reducible refine (spec_l00Src_some.calls k1 g s0_0 t288 t289 t287 t290 t291 t292 w0 _ ?side1 ?side2 A16.out).mono ?_
         (case side1 => exact iS68)
         (case side2 => exact bI68)
         rintro e w85 ⟨rfl,hi,hb,hk⟩
         refine ⟨_,rfl,?_⟩
         replace HO_275000 := Aside0.mk (Kd.V_mono (Kd.V_keep (Kd.V_mono (ok := fun k_ => (k_ ≠ gb269 ∧ (k_ ≠ gb274 ∧ k_ ≠ g))) (vA HO_275000.out) (fun k_ hk_ => (⟨hk_,hk_.2.2⟩ : _ ∧ k_ ≠ g))) hk (fun _ h => h.2)) (fun _ h => h.1))
         replace BK269 := Aside0.mk (kbk hk BK269.out NB269_0.out (by simp))
         replace BK274 := Aside0.mk (kbk hk BK274.out NB274_0.out (by simp))
         replace HK := Aside0.mk (KeepBut.trans kK hk (.inl rfl))
         replace HB := Aside0.mk (hb)
         replace HI0 := Aside0.mk (hi)
         clear hb hi hk
         refine hK.out _ _ ⟨bl BK274 0,bl BK274 1⟩ (fun hHeld => ?_)
         clear hK K
         refine nw 32 ?_
         refine two_ (i:=7) (j:=11) (Ni := some 33) (Nj := some 8) (bm 14 255) (bm 14 2175) rfl rfl rfl rfl (two_of HT_.out (by kernel_rfl)) (by decide) (by decide) (fun K hK => ?_) (fun K hK => ?_)
         ·skip
          refine goes_ Try.func49 (by kernel_rfl) rfl #[.agg #[.slice Ao81 x275000_1.length co81,.int .i64 x275001_1],.string t282,.int .i64 t286,.string t290] (by rfl) rfl rfl mA ?_
          with_reducible refine (spec_l01Over.calls k1 (fun k_ => (k_ ≠ gb269 ∧ (k_ ≠ gb274 ∧ k_ ≠ g))) _ _ x275000_1 x275001_1 t282 t286 t290 t293 t296 t297 _ ?side1 A17.out).mono ?_
          (case side1 => exact HO_275000.out)
          rintro e w86 ⟨v294,rfl,ho0,hb⟩
          refine ⟨_,rfl,?_⟩
          replace HO_275000 := Aside0.mk (Kd.V_below (vA HO_275000.out) hb)
          have HO295 := Aside0.mk (Kd.V_lower (Kd.V_mono (ok' := fun k_ => k_ ≠ gb269 ∧ k_ ≠ gb274 ∧ k_ ≠ g) ho0 (fun k_ hk_ => ⟨Or.elim hk_ (fun hs_ => hs_.1) (fun hn_ => (fB BK269.out k_ hn_)),Or.elim hk_ (fun hs_ => hs_.2.1) (fun hn_ => (fB BK274.out k_ hn_)),Or.elim hk_ (fun hs_ => hs_.2.2) (fun hn_ => (IsS68.fresh iS68 k_ hn_))⟩)) (keep_size (w:=w) (g:=g) (row := none) kK))
          replace BK269 := bbA BK269 hb
          replace BK274 := bbA BK274 hb
          replace HK := Aside0.mk (KeepBut.trans kK (KeepBut.of_below hb g none) (.inl rfl))
          replace HB := Aside0.mk (below_step bI68 hb)
          replace HI0 := Aside0.mk (IsS68.below iS68 hb)
          clear hb
          (try clear ho0)
          refine hK.out _ _ ⟨bl BK274 0,bl BK274 1⟩ (fun hHeld => ?_)
          clear hK K
          refine nw 33 ?_
          refine pV_ 8 25 (bm 14 511) HT_.out ?_
          refine pV_ 9 34 (bm 14 1023) HT_.out ?_
          refine pV_ 10 35 (bm 14 2047) HT_.out ?_
          refine one_ (i:=11) (N:=some 8) (bm 14 4095) rfl rfl (one_of HT_.out (by kernel_rfl)) (by decide) (fun K hK => ?_)
          refine bxs (N:=8) (cs := #[.slice none 0 0,.int .i64 0]) (t:=25) ?_
          intro gb298 hg w87 hbox hb
          replace HO_275000 := Aside0.mk (Kd.V_below (Kd.V_elderB (vA HO_275000.out) gb298 (Nat.le_of_eq hg.symm)) hb)
          replace HO295 := Aside0.mk (Kd.V_below (Kd.V_elderB (vA HO295.out) gb298 (Nat.le_of_eq hg.symm)) hb)
          replace HB := Aside0.mk (below_step bI68 hb)
          have BK298 := Aside0.mk (hbox)
          have GW298 := Aside0.mk ((gk (g:=g) hg kK : w.heap.size ≤ gb298))
          have GE298 := Aside0.mk ((Nat.le_trans HW0.out (gk (g:=g) hg kK : w.heap.size ≤ gb298) : w0.heap.size ≤ gb298))
          replace HK := Aside0.mk (KeepBut.trans kK (KeepBut.of_below hb g none) (.inl rfl))
          have NB269_298 := Aside0.mk ((nl hg BK269.out))
          have NB298_269 := Aside0.mk ((ng hg BK269.out))
          replace BK269 := bbA BK269 hb
          have NB274_298 := Aside0.mk ((nl hg BK274.out))
          have NB298_274 := Aside0.mk ((ng hg BK274.out))
          replace BK274 := bbA BK274 hb
          have NB0_298 := Aside0.mk ((by rw [hg]; exact Nat.ne_of_lt (IsS68.lt (show IsS68 w0 _ g s0_0 t291 t292 from by exact iS68)) : g ≠ gb298))
          have NB298_0 := Aside0.mk ((by rw [hg]; exact Nat.ne_of_gt (IsS68.lt (show IsS68 w0 _ g s0_0 t291 t292 from by exact iS68)) : gb298 ≠ g))
          replace HI0 := Aside0.mk (IsS68.below iS68 hb)
          clear hb hbox hg
          refine hK.out _ _ ⟨bl BK274 0,bl BK274 1⟩ (fun hHeld => ?_)
          clear hK K
          refine nw 8 ?_
          exact norm_ (by simp only [putAll,Act.put,setIfInBounds_toArray,set_cons_zero,set_cons_succ]) (hCont (v294,gb298) _ ⟨hHeld,(vM HO295.out (fun _ hk => ⟨hk.1.2.2,⟨hk.1.1,⟨hk.1.2.1,hk.2⟩⟩⟩)),(vM HO_275000.out (fun _ hk => ⟨hk.1.2.2,⟨hk.1.1,⟨hk.1.2.1,hk.2⟩⟩⟩)),(kA BK269.out),(kA BK274.out),(kA BK298.out),GW298.out,GE298.out,NB0_298.out,NB298_0.out,NB269_298.out,NB298_269.out,NB274_298.out,NB298_274.out,iS68,kK,bI68⟩)
         ·skip
          refine bxs (N:=8) (cs := #[.slice none 0 0,.int .i64 0]) (t:=25) ?_
          intro gb298 hg w86 hbox hb
          replace HO_275000 := Aside0.mk (Kd.V_below (Kd.V_elderB (vA HO_275000.out) gb298 (Nat.le_of_eq hg.symm)) hb)
          replace HB := Aside0.mk (below_step bI68 hb)
          have BK298 := Aside0.mk (hbox)
          have GW298 := Aside0.mk ((gk (g:=g) hg kK : w.heap.size ≤ gb298))
          have GE298 := Aside0.mk ((Nat.le_trans HW0.out (gk (g:=g) hg kK : w.heap.size ≤ gb298) : w0.heap.size ≤ gb298))
          replace HK := Aside0.mk (KeepBut.trans kK (KeepBut.of_below hb g none) (.inl rfl))
          have NB269_298 := Aside0.mk ((nl hg BK269.out))
          have NB298_269 := Aside0.mk ((ng hg BK269.out))
          replace BK269 := bbA BK269 hb
          have NB274_298 := Aside0.mk ((nl hg BK274.out))
          have NB298_274 := Aside0.mk ((ng hg BK274.out))
          replace BK274 := bbA BK274 hb
          have NB0_298 := Aside0.mk ((by rw [hg]; exact Nat.ne_of_lt (IsS68.lt (show IsS68 w0 _ g s0_0 t291 t292 from by exact iS68)) : g ≠ gb298))
          have NB298_0 := Aside0.mk ((by rw [hg]; exact Nat.ne_of_gt (IsS68.lt (show IsS68 w0 _ g s0_0 t291 t292 from by exact iS68)) : gb298 ≠ g))
          replace HI0 := Aside0.mk (IsS68.below iS68 hb)
          clear hb hbox hg
          refine hK.out _ _ ⟨bl BK274 0,bl BK274 1⟩ (fun hHeld => ?_)
          clear hK K
          refine nw 8 ?_
          refine one_ (i:=7) (N:=some 33) (bm 14 2303) rfl rfl (one_of HT_.out (by kernel_rfl)) (by decide) (fun K hK => ?_)
          refine goes_ Try.func49 (by kernel_rfl) rfl #[.agg #[.slice Ao81 x275000_1.length co81,.int .i64 x275001_1],.string t282,.int .i64 t286,.string t290] (by rfl) rfl rfl mA ?_
          with_reducible refine (spec_l01Over.calls k1 (fun k_ => ((k_ ≠ gb269 ∧ (k_ ≠ gb274 ∧ k_ ≠ g)) ∧ k_ ≠ gb298)) _ _ x275000_1 x275001_1 t282 t286 t290 t293 t296 t297 _ ?side1 A17.out).mono ?_
          (case side1 => exact HO_275000.out)
          rintro e w87 ⟨v294,rfl,ho0,hb⟩
          refine ⟨_,rfl,?_⟩
          replace HO_275000 := Aside0.mk (Kd.V_below (vA HO_275000.out) hb)
          have HO295 := Aside0.mk (Kd.V_lower (Kd.V_mono (ok' := fun k_ => k_ ≠ gb269 ∧ k_ ≠ gb274 ∧ k_ ≠ gb298 ∧ k_ ≠ g) ho0 (fun k_ hk_ => ⟨Or.elim hk_ (fun hs_ => hs_.1.1) (fun hn_ => (fB BK269.out k_ hn_)),Or.elim hk_ (fun hs_ => hs_.1.2.1) (fun hn_ => (fB BK274.out k_ hn_)),Or.elim hk_ (fun hs_ => hs_.2) (fun hn_ => (fB BK298.out k_ hn_)),Or.elim hk_ (fun hs_ => hs_.1.2.2) (fun hn_ => (IsS68.fresh iS68 k_ hn_))⟩)) (keep_size (w:=w) (g:=g) (row := none) kK))
          replace BK269 := bbA BK269 hb
          replace BK274 := bbA BK274 hb
          replace BK298 := bbA BK298 hb
          replace HK := Aside0.mk (KeepBut.trans kK (KeepBut.of_below hb g none) (.inl rfl))
          replace HB := Aside0.mk (below_step bI68 hb)
          replace HI0 := Aside0.mk (IsS68.below iS68 hb)
          clear hb
          (try clear ho0)
          refine hK.out _ _ ⟨bl BK274 0,bl BK274 1⟩ (fun hHeld => ?_)
          clear hK K
          refine nw 33 ?_
          refine pV_ 8 25 (bm 14 2559) HT_.out ?_
          refine pV_ 9 34 (bm 14 3071) HT_.out ?_
          refine pV_ 10 35 (bm 14 4095) HT_.out ?_
          exact norm_ (by simp only [putAll,Act.put,setIfInBounds_toArray,set_cons_zero,set_cons_succ]) (hCont (v294,gb298) _ ⟨hHeld,(vM HO295.out (fun _ hk => ⟨hk.2.2.2,⟨hk.1,⟨hk.2.1,hk.2.2.1⟩⟩⟩)),(vM HO_275000.out (fun _ hk => ⟨hk.1.2.2,⟨hk.1.1,⟨hk.1.2.1,hk.2⟩⟩⟩)),(kA BK269.out),(kA BK274.out),(kA BK298.out),GW298.out,GE298.out,NB0_298.out,NB298_0.out,NB269_298.out,NB298_269.out,NB274_298.out,NB298_274.out,iS68,kK,bI68⟩)
        ·skip
         refine bxs (N:=8) (cs := #[.slice none 0 0,.int .i64 0]) (t:=25) ?_
         intro gb298 hg w85 hbox hb
         replace HO_275000 := Aside0.mk (Kd.V_below (Kd.V_elderB (vA HO_275000.out) gb298 (Nat.le_of_eq hg.symm)) hb)
         replace HB := Aside0.mk (below_step bI68 hb)
         have BK298 := Aside0.mk (hbox)
         have GW298 := Aside0.mk ((gk (g:=g) hg kK : w.heap.size ≤ gb298))
         have GE298 := Aside0.mk ((Nat.le_trans HW0.out (gk (g:=g) hg kK : w.heap.size ≤ gb298) : w0.heap.size ≤ gb298))
         replace HK := Aside0.mk (KeepBut.trans kK (KeepBut.of_below hb g none) (.inl rfl))
         have NB269_298 := Aside0.mk ((nl hg BK269.out))
         have NB298_269 := Aside0.mk ((ng hg BK269.out))
         replace BK269 := bbA BK269 hb
         have NB274_298 := Aside0.mk ((nl hg BK274.out))
         have NB298_274 := Aside0.mk ((ng hg BK274.out))
         replace BK274 := bbA BK274 hb
         have NB0_298 := Aside0.mk ((by rw [hg]; exact Nat.ne_of_lt (IsS68.lt (show IsS68 w0 _ g s0_0 t288 t289 from by exact iS68)) : g ≠ gb298))
         have NB298_0 := Aside0.mk ((by rw [hg]; exact Nat.ne_of_gt (IsS68.lt (show IsS68 w0 _ g s0_0 t288 t289 from by exact iS68)) : gb298 ≠ g))
         replace HI0 := Aside0.mk (IsS68.below iS68 hb)
         clear hb hbox hg
         refine hK.out _ _ ⟨bl BK274 0,bl BK274 1⟩ (fun hHeld => ?_)
         clear hK K
         refine nw 8 ?_
         refine one_ (i:=6) (N:=some 32) (bm 14 2175) rfl rfl (one_of HT_.out (by kernel_rfl)) (by decide) (fun K hK => ?_)
         refine goes_ Try.func33 (by kernel_rfl) rfl #[.pointer (some ⟨g,0,none⟩),.int .i64 t287] (by rfl) rfl rfl mA ?_
         with_reducible refine (spec_l00Src_some.calls k1 g s0_0 t288 t289 t287 t290 t291 t292 w0 _ ?side1 ?side2 A16.out).mono ?_
         (case side1 => exact iS68)
         (case side2 => exact bI68)
         rintro e w86 ⟨rfl,hi,hb,hk⟩
         refine ⟨_,rfl,?_⟩
         replace HO_275000 := Aside0.mk (Kd.V_mono (Kd.V_keep (Kd.V_mono (ok := fun k_ => ((k_ ≠ gb269 ∧ (k_ ≠ gb274 ∧ k_ ≠ g)) ∧ k_ ≠ gb298)) (vA HO_275000.out) (fun k_ hk_ => (⟨hk_,hk_.1.2.2⟩ : _ ∧ k_ ≠ g))) hk (fun _ h => h.2)) (fun _ h => h.1))
         replace BK269 := Aside0.mk (kbk hk BK269.out NB269_0.out (by simp))
         replace BK274 := Aside0.mk (kbk hk BK274.out NB274_0.out (by simp))
         replace BK298 := Aside0.mk (kbk hk BK298.out NB298_0.out (by simp))
         replace HK := Aside0.mk (KeepBut.trans kK hk (.inl rfl))
         replace HB := Aside0.mk (hb)
         replace HI0 := Aside0.mk (hi)
         clear hb hi hk
         refine hK.out _ _ ⟨bl BK274 0,bl BK274 1⟩ (fun hHeld => ?_)
         clear hK K
         refine nw 32 ?_
         refine one_ (i:=7) (N:=some 33) (bm 14 2303) rfl rfl (one_of HT_.out (by kernel_rfl)) (by decide) (fun K hK => ?_)
         refine goes_ Try.func49 (by kernel_rfl) rfl #[.agg #[.slice Ao81 x275000_1.length co81,.int .i64 x275001_1],.string t282,.int .i64 t286,.string t290] (by rfl) rfl rfl mA ?_
         with_reducible refine (spec_l01Over.calls k1 (fun k_ => ((k_ ≠ gb269 ∧ (k_ ≠ gb274 ∧ k_ ≠ g)) ∧ k_ ≠ gb298)) _ _ x275000_1 x275001_1 t282 t286 t290 t293 t296 t297 _ ?side1 A17.out).mono ?_
         (case side1 => exact HO_275000.out)
         rintro e w87 ⟨v294,rfl,ho0,hb⟩
         refine ⟨_,rfl,?_⟩
         replace HO_275000 := Aside0.mk (Kd.V_below (vA HO_275000.out) hb)
         have HO295 := Aside0.mk (Kd.V_lower (Kd.V_mono (ok' := fun k_ => k_ ≠ gb269 ∧ k_ ≠ gb274 ∧ k_ ≠ gb298 ∧ k_ ≠ g) ho0 (fun k_ hk_ => ⟨Or.elim hk_ (fun hs_ => hs_.1.1) (fun hn_ => (fB BK269.out k_ hn_)),Or.elim hk_ (fun hs_ => hs_.1.2.1) (fun hn_ => (fB BK274.out k_ hn_)),Or.elim hk_ (fun hs_ => hs_.2) (fun hn_ => (fB BK298.out k_ hn_)),Or.elim hk_ (fun hs_ => hs_.1.2.2) (fun hn_ => (IsS68.fresh iS68 k_ hn_))⟩)) (keep_size (w:=w) (g:=g) (row := none) kK))
         replace BK269 := bbA BK269 hb
         replace BK274 := bbA BK274 hb
         replace BK298 := bbA BK298 hb
         replace HK := Aside0.mk (KeepBut.trans kK (KeepBut.of_below hb g none) (.inl rfl))
         replace HB := Aside0.mk (below_step bI68 hb)
         replace HI0 := Aside0.mk (IsS68.below iS68 hb)
         clear hb
         (try clear ho0)
         refine hK.out _ _ ⟨bl BK274 0,bl BK274 1⟩ (fun hHeld => ?_)
         clear hK K
         refine nw 33 ?_
         refine pV_ 8 25 (bm 14 2559) HT_.out ?_
         refine pV_ 9 34 (bm 14 3071) HT_.out ?_
         refine pV_ 10 35 (bm 14 4095) HT_.out ?_
         exact norm_ (by simp only [putAll,Act.put,setIfInBounds_toArray,set_cons_zero,set_cons_succ]) (hCont (v294,gb298) _ ⟨hHeld,(vM HO295.out (fun _ hk => ⟨hk.2.2.2,⟨hk.1,⟨hk.2.1,hk.2.2.1⟩⟩⟩)),(vM HO_275000.out (fun _ hk => ⟨hk.1.2.2,⟨hk.1.1,⟨hk.1.2.1,hk.2⟩⟩⟩)),(kA BK269.out),(kA BK274.out),(kA BK298.out),GW298.out,GE298.out,NB0_298.out,NB298_0.out,NB269_298.out,NB298_269.out,NB274_298.out,NB298_274.out,iS68,kK,bI68⟩)
       ·skip
        refine bxs (N:=8) (cs := #[.slice none 0 0,.int .i64 0]) (t:=25) ?_
        intro gb298 hg w84 hbox hb
        replace HO_275000 := Aside0.mk (Kd.V_below (Kd.V_elderB (vA HO_275000.out) gb298 (Nat.le_of_eq hg.symm)) hb)
        replace HB := Aside0.mk (below_step bI68 hb)
        have BK298 := Aside0.mk (hbox)
        have GW298 := Aside0.mk ((gk (g:=g) hg kK : w.heap.size ≤ gb298))
        have GE298 := Aside0.mk ((Nat.le_trans HW0.out (gk (g:=g) hg kK : w.heap.size ≤ gb298) : w0.heap.size ≤ gb298))
        replace HK := Aside0.mk (KeepBut.trans kK (KeepBut.of_below hb g none) (.inl rfl))
        have NB269_298 := Aside0.mk ((nl hg BK269.out))
        have NB298_269 := Aside0.mk ((ng hg BK269.out))
        replace BK269 := bbA BK269 hb
        have NB274_298 := Aside0.mk ((nl hg BK274.out))
        have NB298_274 := Aside0.mk ((ng hg BK274.out))
        replace BK274 := bbA BK274 hb
        have NB0_298 := Aside0.mk ((by rw [hg]; exact Nat.ne_of_lt (IsS68.lt (show IsS68 w0 _ g s0_0 t283 t284 from by exact iS68)) : g ≠ gb298))
        have NB298_0 := Aside0.mk ((by rw [hg]; exact Nat.ne_of_gt (IsS68.lt (show IsS68 w0 _ g s0_0 t283 t284 from by exact iS68)) : gb298 ≠ g))
        replace HI0 := Aside0.mk (IsS68.below iS68 hb)
        clear hb hbox hg
        refine hK.out _ _ ⟨bl BK274 0,bl BK274 1⟩ (fun hHeld => ?_)
        clear hK K
        refine nw 8 ?_
        refine one_ (i:=5) (N:=some 31) (bm 14 2111) rfl rfl (one_of HT_.out (by kernel_rfl)) (by decide) (fun K hK => ?_)
        refine goes_ Try.func46 (by kernel_rfl) rfl #[.pointer (some ⟨g,0,none⟩),.int .i64 5] (by rfl) rfl rfl mA ?_
        with_reducible refine (spec_l00Src_next.calls g s0_0 t283 t284 5 t287 t288 t289 w0 _ ?side1 ?side2 A15.out).mono ?_
        (case side1 => exact iS68)
        (case side2 => exact bI68)
        rintro e w85 ⟨rfl,hi,hb,hk⟩
        refine ⟨_,rfl,?_⟩
        replace HO_275000 := Aside0.mk (Kd.V_mono (Kd.V_keep (Kd.V_mono (ok := fun k_ => ((k_ ≠ gb269 ∧ (k_ ≠ gb274 ∧ k_ ≠ g)) ∧ k_ ≠ gb298)) (vA HO_275000.out) (fun k_ hk_ => (⟨hk_,hk_.1.2.2⟩ : _ ∧ k_ ≠ g))) hk (fun _ h => h.2)) (fun _ h => h.1))
        replace BK269 := Aside0.mk (kbk hk BK269.out NB269_0.out (by simp))
        replace BK274 := Aside0.mk (kbk hk BK274.out NB274_0.out (by simp))
        replace BK298 := Aside0.mk (kbk hk BK298.out NB298_0.out (by simp))
        replace HK := Aside0.mk (KeepBut.trans kK hk (.inl rfl))
        replace HB := Aside0.mk (hb)
        replace HI0 := Aside0.mk (hi)
        clear hb hi hk
        refine hK.out _ _ ⟨bl BK274 0,bl BK274 1⟩ (fun hHeld => ?_)
        clear hK K
        refine nw 31 ?_
        refine one_ (i:=6) (N:=some 32) (bm 14 2175) rfl rfl (one_of HT_.out (by kernel_rfl)) (by decide) (fun K hK => ?_)
        refine goes_ Try.func33 (by kernel_rfl) rfl #[.pointer (some ⟨g,0,none⟩),.int .i64 t287] (by rfl) rfl rfl mA ?_
        with_reducible refine (spec_l00Src_some.calls k1 g s0_0 t288 t289 t287 t290 t291 t292 w0 _ ?side1 ?side2 A16.out).mono ?_
        (case side1 => exact iS68)
        (case side2 => exact bI68)
        rintro e w86 ⟨rfl,hi,hb,hk⟩
        refine ⟨_,rfl,?_⟩
        replace HO_275000 := Aside0.mk (Kd.V_mono (Kd.V_keep (Kd.V_mono (ok := fun k_ => ((k_ ≠ gb269 ∧ (k_ ≠ gb274 ∧ k_ ≠ g)) ∧ k_ ≠ gb298)) (vA HO_275000.out) (fun k_ hk_ => (⟨hk_,hk_.1.2.2⟩ : _ ∧ k_ ≠ g))) hk (fun _ h => h.2)) (fun _ h => h.1))
        replace BK269 := Aside0.mk (kbk hk BK269.out NB269_0.out (by simp))
        replace BK274 := Aside0.mk (kbk hk BK274.out NB274_0.out (by simp))
        replace BK298 := Aside0.mk (kbk hk BK298.out NB298_0.out (by simp))
        replace HK := Aside0.mk (KeepBut.trans kK hk (.inl rfl))
        replace HB := Aside0.mk (hb)
        replace HI0 := Aside0.mk (hi)
        clear hb hi hk
        refine hK.out _ _ ⟨bl BK274 0,bl BK274 1⟩ (fun hHeld => ?_)
        clear hK K
        refine nw 32 ?_
        refine one_ (i:=7) (N:=some 33) (bm 14 2303) rfl rfl (one_of HT_.out (by kernel_rfl)) (by decide) (fun K hK => ?_)
        refine goes_ Try.func49 (by kernel_rfl) rfl #[.agg #[.slice Ao81 x275000_1.length co81,.int .i64 x275001_1],.string t282,.int .i64 t286,.string t290] (by rfl) rfl rfl mA ?_
        with_reducible refine (spec_l01Over.calls k1 (fun k_ => ((k_ ≠ gb269 ∧ (k_ ≠ gb274 ∧ k_ ≠ g)) ∧ k_ ≠ gb298)) _ _ x275000_1 x275001_1 t282 t286 t290 t293 t296 t297 _ ?side1 A17.out).mono ?_
        (case side1 => exact HO_275000.out)
        rintro e w87 ⟨v294,rfl,ho0,hb⟩
        refine ⟨_,rfl,?_⟩
        replace HO_275000 := Aside0.mk (Kd.V_below (vA HO_275000.out) hb)
        have HO295 := Aside0.mk (Kd.V_lower (Kd.V_mono (ok' := fun k_ => k_ ≠ gb269 ∧ k_ ≠ gb274 ∧ k_ ≠ gb298 ∧ k_ ≠ g) ho0 (fun k_ hk_ => ⟨Or.elim hk_ (fun hs_ => hs_.1.1) (fun hn_ => (fB BK269.out k_ hn_)),Or.elim hk_ (fun hs_ => hs_.1.2.1) (fun hn_ => (fB BK274.out k_ hn_)),Or.elim hk_ (fun hs_ => hs_.2) (fun hn_ => (fB BK298.out k_ hn_)),Or.elim hk_ (fun hs_ => hs_.1.2.2) (fun hn_ => (IsS68.fresh iS68 k_ hn_))⟩)) (keep_size (w:=w) (g:=g) (row := none) kK))
        replace BK269 := bbA BK269 hb
        replace BK274 := bbA BK274 hb
        replace BK298 := bbA BK298 hb
        replace HK := Aside0.mk (KeepBut.trans kK (KeepBut.of_below hb g none) (.inl rfl))
        replace HB := Aside0.mk (below_step bI68 hb)
        replace HI0 := Aside0.mk (IsS68.below iS68 hb)
        clear hb
        (try clear ho0)
        refine hK.out _ _ ⟨bl BK274 0,bl BK274 1⟩ (fun hHeld => ?_)
        clear hK K
        refine nw 33 ?_
        refine pV_ 8 25 (bm 14 2559) HT_.out ?_
        refine pV_ 9 34 (bm 14 3071) HT_.out ?_
        refine pV_ 10 35 (bm 14 4095) HT_.out ?_
        exact norm_ (by simp only [putAll,Act.put,setIfInBounds_toArray,set_cons_zero,set_cons_succ]) (hCont (v294,gb298) _ ⟨hHeld,(vM HO295.out (fun _ hk => ⟨hk.2.2.2,⟨hk.1,⟨hk.2.1,hk.2.2.1⟩⟩⟩)),(vM HO_275000.out (fun _ hk => ⟨hk.1.2.2,⟨hk.1.1,⟨hk.1.2.1,hk.2⟩⟩⟩)),(kA BK269.out),(kA BK274.out),(kA BK298.out),GW298.out,GE298.out,NB0_298.out,NB298_0.out,NB269_298.out,NB298_269.out,NB274_298.out,NB298_274.out,iS68,kK,bI68⟩)
      rintro ⟨v294,gb298⟩ w88 ⟨hS_,h0_,h1_,h2_,h3_,h4_,h5_,h6_,h7_,h8_,h9_,h10_,h11_,h12_,h13_,h14_,h15_⟩
      have HO295 : Aside0 (Kd.V k32 32 w88 w.heap.size (fun k_ => k_ ≠ g ∧ k_ ≠ gb269 ∧ k_ ≠ gb274 ∧ k_ ≠ gb298) v294 t293) := ⟨h0_⟩
      replace HO_275000 : Aside0 (Kd.V k32 32 w88 w.heap.size (fun k_ => k_ ≠ g ∧ k_ ≠ gb269 ∧ k_ ≠ gb274 ∧ k_ ≠ gb298) (.slice Ao81 x275000_1.length co81) x275000_1) := ⟨h1_⟩
      replace BK269 : Aside0 (w88.heap[gb269]? = some (.cells #[.slice none 0 0,.int .i64 0] 25 (0,0))) := ⟨h2_⟩
      replace BK274 : Aside0 (w88.heap[gb274]? = some (.cells #[.slice Ao81 x275000_1.length co81,.int .i64 x275001_1] 25 (0,0))) := ⟨h3_⟩
      have BK298 : Aside0 (w88.heap[gb298]? = some (.cells #[.slice none 0 0,.int .i64 0] 25 (0,0))) := ⟨h4_⟩
      have GW298 : Aside0 (w.heap.size ≤ gb298) := ⟨h5_⟩
      have GE298 : Aside0 (w0.heap.size ≤ gb298) := ⟨h6_⟩
      have NB0_298 : Aside0 (g ≠ gb298) := ⟨h7_⟩
      have NB298_0 : Aside0 (gb298 ≠ g) := ⟨h8_⟩
      have NB269_298 : Aside0 (gb269 ≠ gb298) := ⟨h9_⟩
      have NB298_269 : Aside0 (gb298 ≠ gb269) := ⟨h10_⟩
      have NB274_298 : Aside0 (gb274 ≠ gb298) := ⟨h11_⟩
      have NB298_274 : Aside0 (gb298 ≠ gb274) := ⟨h12_⟩
      replace HI0 : Aside0 (IsS68 w0 w88 g s0_0 t291 t292) := ⟨h13_⟩
      replace HK : Aside0 (KeepBut w w88 g none) := ⟨h14_⟩
      replace HB : Aside0 (Below w0.heap.size w0 w88) := ⟨h15_⟩
      clear h0_ h1_ h2_ h3_ h4_ h5_ h6_ h7_ h8_ h9_ h10_ h11_ h12_ h13_ h14_ h15_
      have hHeld : w88.cell? ⟨gb274,0,none⟩ = some (.slice Ao81 x275000_1.length co81) ∧ w88.cell? ⟨gb274,1,none⟩ = some (.int .i64 x275001_1) := hS_
      obtain ⟨Ao89,co89,eo89⟩ := Kd.V_slice HO295.out
      (first | subst eo89 | (injection eo89 with f1_ f2_ f3_; have f4_ := f1_.symm; have f5_ := f3_.symm; clear f1_ f2_ f3_; subst f4_; subst f5_))
      refine norm_ (a':=?_) ?_ ?_
      rotate_left
      ·simp only [putAll,Act.put,setIfInBounds_toArray,set_cons_zero,set_cons_succ]
       rfl
      refine one_ (i:=12) (N:=none) (bm 14 8191) rfl rfl (one_of HT_.out (by kernel_rfl)) (by decide) (fun K hK => ?_)
      have hs90 : w88.cell? ⟨gb298,0,none⟩ = some (.slice none 0 0) := bl BK298 0
      have hfs90 := blk_frozen BK298.out 0
      have hns90_0 := NB269_298.out
      have hns90_1 := NB274_298.out
      have hms90_0 := NB298_269.out
      have hms90_1 := NB298_274.out
      have hs91 : w88.cell? ⟨gb298,1,none⟩ = some (.int .i64 0) := bl BK298 1
      have hfs91 := blk_frozen BK298.out 1
      have hns91_0 := NB269_298.out
      have hns91_1 := NB274_298.out
      have hms91_0 := NB298_269.out
      have hms91_1 := NB298_274.out
      refine skip_ (w1 := ?_) (by rfl) rfl ?_ ?_
      rotate_left
      ·go_simp
       rfl
      refine hK.out _ _ ⟨((cell_far (p:=⟨gb298,_,none⟩) NB274_298.out _).trans (((cell_far (p:=⟨gb298,_,none⟩) NB274_298.out _).trans (hHeld.1)))),((cell_far (p:=⟨gb298,_,none⟩) NB274_298.out _).trans (((cell_far (p:=⟨gb298,_,none⟩) NB274_298.out _).trans (hHeld.2))))⟩ (fun hHeld => ?_)
      clear hK K
      refine pV_ 13 9 (bm 14 16383) HT_.out ?_
      refine done_ (done_of HT_.out (by kernel_rfl)) ?_
      try go_wp2_with (first | ((with_reducible refine gate_callee (f:=50) rfl ?_); refine goesL_ (some 49) rfl rfl Try.func50 (by kernel_rfl) rfl #[.pointer (some ⟨g,0,none⟩),.int .i64 4] rfl mA ?_; (with_reducible refine (spec_l00Src_chance.calls g s0_0 t291 t292 4 false t311 t312 w0 _ ?side1 ?side2 A50.out).mono ?_); (case side1 => exact iS68); (case side2 => exact bI68); rintro e w92 ⟨rfl,hi,hb,hk⟩; refine ⟨_,rfl,?_⟩; replace HO_275000 := Aside0.mk (Kd.V_mono (Kd.V_keep (Kd.V_mono (ok := fun k_ => (k_ ≠ g ∧ (k_ ≠ gb269 ∧ (k_ ≠ gb274 ∧ k_ ≠ gb298)))) (by (with_reducible repeat (first | apply Kd.V_alloc | apply Kd.V_drewN | apply Kd.V_drew)); exact (Kd.V_mono (Kd.V_far (p:=⟨gb298,1,none⟩) (Kd.V_far (p:=⟨gb298,0,none⟩) (Kd.V_mono HO_275000.out (fun k_ hk => (⟨hk,hk.2.2.2⟩ : _ ∧ k_ ≠ gb298))) (fun _ hk => hk.2) (.slice Ao89 t293.length co89)) (fun _ hk => hk.2) (.int .i64 t296)) (fun _ h_ => h_.1))) (fun k_ hk_ => (⟨hk_,hk_.1⟩ : _ ∧ k_ ≠ g))) hk (fun _ h => h.2)) (fun _ h => h.1)); replace BK269 := Aside0.mk (KeepBut.blk hk (g':=gb269) (o:=.cells #[.slice none 0 0,.int .i64 0] 25 (0,0)) (kF BK269.out) NB269_0.out (by simp)); replace BK274 := Aside0.mk (KeepBut.blk hk (g':=gb274) (o:=.cells #[.slice Ao81 x275000_1.length co81,.int .i64 x275001_1] 25 (0,0)) (kF BK274.out) NB274_0.out (by simp)); replace HO295 := Aside0.mk (Kd.V_mono (Kd.V_keep (Kd.V_mono (ok := fun k_ => (k_ ≠ g ∧ (k_ ≠ gb269 ∧ (k_ ≠ gb274 ∧ k_ ≠ gb298)))) (by (with_reducible repeat (first | apply Kd.V_alloc | apply Kd.V_drewN | apply Kd.V_drew)); exact (Kd.V_mono (Kd.V_far (p:=⟨gb298,1,none⟩) (Kd.V_far (p:=⟨gb298,0,none⟩) (Kd.V_mono HO295.out (fun k_ hk => (⟨hk,hk.2.2.2⟩ : _ ∧ k_ ≠ gb298))) (fun _ hk => hk.2) (.slice Ao89 t293.length co89)) (fun _ hk => hk.2) (.int .i64 t296)) (fun _ h_ => h_.1))) (fun k_ hk_ => (⟨hk_,hk_.1⟩ : _ ∧ k_ ≠ g))) hk (fun _ h => h.2)) (fun _ h => h.1)); replace BK298 := Aside0.mk (KeepBut.blk hk (g':=gb298) (o:=.cells #[.slice Ao89 t293.length co89,.int .i64 t296] 25 (0,0)) (kP2 BK298.out) NB298_0.out (by simp)); replace HK := Aside0.mk (KeepBut.trans kK hk (.inl rfl)); replace HB := Aside0.mk (hb); replace HI0 := Aside0.mk (hi); clear hb hi hk; have hnb93 := NB298_269.out; have hnc93 := NB269_298.out; have hnb94 := NB298_274.out; have hnc94 := NB274_298.out; have hnb95 := NB298_0.out; have hnc95 := NB0_298.out; obtain ⟨hcz96_0,hcz96_1⟩ := cl2 BK298.out; obtain ⟨hfz96_0,hfz96_1⟩ := fz2 BK298.out; obtain ⟨hcz97_0,hcz97_1⟩ := cl2 BK274.out; obtain ⟨hfz97_0,hfz97_1⟩ := fz2 BK274.out))
      go_roundg k1
      case measure => have := HK1.out; omega
      case rel => exact ⟨(wrap64 (x4_1 - 1)),(t311),(t312),(t293),(t296),(.slice Ao89 t293.length co89),(by first | rfl | (simp; done) | (simp [*]; done)),H',⟨by have := HK1.out; omega⟩,⟨by (with_reducible repeat (first | apply Kd.V_alloc | apply Kd.V_drewN | apply Kd.V_drew)); exact Kd.V_mono (Kd.V_far (p:=⟨gb274,1,none⟩) (Kd.V_far (p:=⟨gb274,0,none⟩) (Kd.V_mono HO295.out (fun k_ hk => (⟨hk,hk.2.2.1⟩ : _ ∧ k_ ≠ gb274))) (fun _ hk => hk.2) (.slice Ao89 t293.length co89)) (fun _ hk => hk.2) (.int .i64 t296)) (fun _ hk => ⟨hk.1.2.1,⟨hk.1.2.2.1,hk.1.1⟩⟩)⟩,⟨kF BK269.out⟩,⟨by (with_reducible repeat (first | refine blk_drewN ?_ _ | refine blk_drew ?_ | refine blk_alloc ?_ _)); apply blkp2; (with_reducible repeat (first | refine blk_drewN ?_ _ | refine blk_drew ?_ | refine blk_alloc ?_ _)); exact BK274.out⟩,⟨by exact iS68⟩,⟨by exact kK⟩,⟨by exact bI68⟩⟩
   ·rw [if_neg c12] at H
    have c12b0 : decide (0 < x4_1) = false := decide_eq_false c12
    clear c12
    replace H := Option.bind_eq_some_iff.mp H
    obtain ⟨⟨t278,t281⟩,A980,H⟩ := H
    try dsimp only at H
    have A98 := Aside0.mk A980
    clear A980
    simp only [Option.some.injEq,Prod.mk.injEq] at H
    obtain ⟨rfl,rfl,rfl,rfl⟩ := H
    have hnb99 := NB274_269.out
    have hnc99 := NB269_274.out
    have hnb100 := NB274_0.out
    have hnc100 := NB0_274.out
    obtain ⟨hcz101_0,hcz101_1⟩ := cl2 BK274.out
    obtain ⟨hfz101_0,hfz101_1⟩ := fz2 BK274.out
    obtain ⟨Ao102,co102,eo102⟩ := Kd.V_slice HO_275000.out
    subst eo102
    go_wp2_with (first | ((with_reducible refine gate_callee (f:=39) rfl ?_); refine goesL_ (some 59) rfl rfl Try.func39 (by kernel_rfl) rfl #[.agg #[.slice Ao102 x275000_1.length co102,.int .i64 x275001_1]] rfl mA ?_; (with_reducible refine (spec_l01Own.calls _ _ x275000_1 x275001_1 t278 t281 _ ?side1 ?side2 A98.out).mono ?_); (case side1 => repeat (first | exact (Kd.V_reads' HO_275000.out).2.2 | (with_reducible refine Kd.C_alloc ?_ _) | (with_reducible refine Kd.C_drewN ?_ _) | (with_reducible refine Kd.C_drew ?_))); (case side2 => exact (Kd.V_reads' HO_275000.out).2.1); rintro e w103 ⟨v279,rfl,ho0,hb⟩; refine ⟨_,rfl,?_⟩; replace HO_275000 := Aside0.mk (Kd.V_elder' (vA HO_275000.out) (Kd.R_base ho0) hb); have HO280 := Aside0.mk (Kd.R_lower ho0 (keep_size (w:=w) (g:=g) (row := none) kK)); replace BK269 := bbA BK269 hb; replace BK274 := bbA BK274 hb; replace HK := Aside0.mk (KeepBut.trans kK (KeepBut.of_below hb g none) (.inl rfl)); replace HB := Aside0.mk (below_step bI68 hb); replace HI0 := Aside0.mk (IsS68.below iS68 hb); clear hb; (try clear ho0); obtain ⟨Ao104,co104,eo104⟩ := Kd.R_slice HO280.out; subst eo104; have hnb105 := NB269_0.out; have hnc105 := NB0_269.out; obtain ⟨hcz106_0,hcz106_1⟩ := cl2 BK269.out; obtain ⟨hfz106_0,hfz106_1⟩ := fz2 BK269.out))
    refine bodyPost_ret (results_cell_row rfl _ _ gb269 25 #[.slice Ao104 t278.length co104,.int .i64 t281] (0,0) _ rfl (kP2 BK269.out) Try.underlying25 rfl (by kernel_rfl)) rfl ?_
    exact ⟨_,by first | rfl | (simp only [i64_w,i32_w] <;> rfl) | (simp [errW_none,errW_some] <;> rfl) | (simp [*,errW_none,errW_some] <;> rfl),by (with_reducible repeat (first | apply Kd.R_alloc | apply Kd.R_drewN | apply Kd.R_drew)); exact Kd.R_mono (Kd.R_far (p:=⟨gb269,1,none⟩) (Kd.R_far (p:=⟨gb269,0,none⟩) (Kd.R_types HO280.out BK269.out (by decide)) (fun _ hk => hk.2) (.slice Ao104 t278.length co104)) (fun _ hk => hk.2) (.int .i64 t281)) (fun _ hk => trivial),by exact iS68,by exact bI68,by exact kK⟩

end Go.Proofs.Ytgkfemnfbkgeiaa.XFnStore
