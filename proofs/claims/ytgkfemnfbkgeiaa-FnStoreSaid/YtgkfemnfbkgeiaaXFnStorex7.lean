-- Printed by this session's own program wip/tools/xprint.py, which widens the kit's print. Not trusted: Lean checks it.
import Derived.Test.YtgkfemnfbkgeiaaXFnStorex0
import Derived.Test.YtgkfemnfbkgeiaaXFnStorex6
namespace Go.Proofs.Ytgkfemnfbkgeiaa.XFnStore
open List (setIfInBounds_toArray set_cons_zero set_cons_succ)
open Go.RowKit Go.Proofs.YtgkfemnfbkgeiaaW.PrintWords Go.Proofs.YtgkfemnfbkgeiaaW.PrintLast Go.Proofs.YtgkfemnfbkgeiaaW.PrintMore
attribute [local go_sem] max2_int min2_int max_two min_two max_three min_three max_four min_four   -- for this text's walks alone
set_option linter.unusedVariables false
set_option linter.unusedSimpArgs false


/-- An object that is a map whose keys are just the numbers of l, each with 'true'. -/
def MapO (P : Program) (k e : TypeId) (o : Obj) (l : List Int) : Prop :=
 ∃ es clock,∃ D : DataW Unit,o = .map es clock ∧ Go.WideElems.Fit P k (plainElem (H:=Unit) P e) es clock ∧ es.size ≤ l.length ∧ D = .map ((es.toList.map (Go.WideElems.rg P k (plainElem (H:=Unit) P e))).foldr DataW.insert []) ∧ Maps.IsMap D ∧ ∀ n : Int,D.atKey (.int .i64 n) (.lit (.bool false)) = .lit (.bool (l.contains n))
theorem MapO.world {P : Program} {k e : TypeId} {o : Obj} {l : List Int} (h : MapO P k e o l) {w : World} {b : Nat} (hb : w.heap[b]? = some o) : ∃ D : DataW Unit,w.ownsMap P k (plainElem P e) b l.length D ∧ Maps.IsMap D ∧ ∀ n : Int,D.atKey (.int .i64 n) (.lit (.bool false)) = .lit (.bool (l.contains n)) := by
 obtain ⟨es,clock,D,rfl,hF,hs,hD,hm,ha⟩ := h
 exact ⟨D,⟨es,clock,hb,hF,hs,hD⟩,hm,ha⟩
theorem MapO.of {P : Program} {k e : TypeId} {w : World} {b n : Nat} {l : List Int} {D : DataW Unit} (h : w.ownsMap P k (plainElem P e) b n D) (hn : n ≤ l.length) (hm : Maps.IsMap D) (ha : ∀ n : Int,D.atKey (.int .i64 n) (.lit (.bool false)) = .lit (.bool (l.contains n))) : ∃ o,w.heap[b]? = some o ∧ MapO P k e o l := by
 obtain ⟨es,clock,hb,hF,hs,hD⟩ := h
 exact ⟨_,hb,es,clock,D,rfl,hF,Nat.le_trans hs hn,hD,hm,ha⟩
theorem MapO.made (P : Program) (k e : TypeId) : MapO P k e (.map #[] 0) [] := by
 obtain ⟨es,clock,hb,hF,hs,hD⟩ := World.ownsMap_made (H:=Unit) ⟨#[],default,default,default,default⟩ P k (plainElem P e)
 exact ⟨#[],0,.map [],rfl,⟨by simp,MapKept.stamped_empty 0,by simp⟩,Nat.le_refl _,rfl,⟨[],rfl⟩,fun n => rfl⟩
theorem plainElem_bool_inv {H : Type} {P : Program} {e : TypeId} (he : P.underlying e = some .bool) {v : Value} {c : Bool} {ps : List MemPlace} (h : plainElem (H:=H) P e v = some (.lit (.bool c),ps)) : v = .bool c := by
 unfold plainElem at h
 rw [he] at h
 cases v <;> simp at h
 obtain ⟨rfl,_⟩ := h
 rfl
/-- 'm[n]', as the walk meets it. -/
theorem MapO.look {P : Program} {t k e : TypeId} {w : World} {b : Nat} {o : Obj} {l : List Int} (h : MapO P k e o l) (hb : w.heap[b]? = some o) (ht : P.underlying t = some (.map k e)) (hk : P.underlying k = some (.int .i64)) (he : P.underlying e = some .bool)
  (hz : ∀ W : World,(zeroValue e).run P W = .ok (.bool false) W) (n : Int) (hw : (Lit.int .i64 n).wf = true) : (Instr.lookup t (.map (some b)) (.int .i64 n) false).run P w = .ok (.bool (l.contains n)) w := by
 obtain ⟨D,h,hm,ha⟩ := h.world hb
 obtain ⟨v,ps,hrun,hv⟩ := h.lookup (Maps.int_keyed hk) ht (hz _) (plainElem_bool he false) (Maps.keyOf_int_mk hk hw)
 rw [ha n] at hv
 rw [plainElem_bool_inv he hv] at hrun
 exact hrun
section
variable {P : Program} {ops : Array Oper} {rest : List Oper} {o : Oper} {a : Act} {Q : Exit → Act → World → Prop}
theorem map_event {W : World} (hgd : o.guard = none) {N : Tmp} (_hd : o.dst = some N)
  (hrun : (execOp a.eval o).run P W = .ok (.value (.map (some W.heap.size))) (W.alloc (.map #[] 0)))
  (h : ∀ g,g = W.heap.size → ∀ w1,w1.heap[g]? = some (.map #[] 0) → Below W.heap.size W w1 → wpList P ops Q rest (a.put o.dst (.map (some g))) w1) : wpList P ops Q (o :: rest) a W :=
 Kd.event_run hgd hrun (h _ rfl _ (blk_new W _) (below_alloc (Below.refl _ _) _))
/-- 'm[n] = true'. -/
theorem mapput_event {W : World} (hgd : o.guard = none) {m x v : Operand} {t k e : TypeId} (hop : o.op = Op.mapUpdate t m x v) {b : Nat} {om : Obj} {l : List Int} {n : Int} (ht : P.underlying t = some (.map k e)) (hk : P.underlying k = some (.int .i64)) (he : P.underlying e = some .bool)
  (hm : a.eval m = .map (some b)) (hx : a.eval x = .int .i64 n) (hv : a.eval v = .bool true) (hb : W.heap[b]? = some om) (hM : MapO P k e om l) (hw : (Lit.int .i64 n).wf = true) (hl : l.length < maxLen)
  (h : ∀ w' om',w'.heap[b]? = some om' → MapO P k e om' (n :: l) → W.grownBy w' (some b) → wpList P ops Q rest (a.put o.dst undef) w') : wpList P ops Q (o :: rest) a W := by
 obtain ⟨D,hown,hmp,ha⟩ := hM.world hb
 refine wpList_mapUpdate_own (H:=Unit) W hgd m x v t hop k e (Maps.int_keyed hk) ht _ b l.length D hm hown hl _ _ _ hx hv (Maps.keyOf_int_mk hk hw) _ _ (plainElem_bool he true) ?_
 intro w' ho hg
 obtain ⟨o',hb',hM'⟩ := MapO.of (l:=n :: l) ho (Nat.le_refl _) (by obtain ⟨es,rfl⟩ := hmp; exact ⟨_,rfl⟩) (fun y => by
  by_cases hy : y = n
  ·subst hy
   rw [Maps.atKey_put_same hmp (show WideAt.IsKeyLit (.int .i64 y) from trivial)]
   simp
  ·rw [Maps.atKey_put_other (fun h => hy (by injection h)),ha y]
   have : (n :: l).contains y = l.contains y := by
    rw [List.contains_cons]
    simp [hy]
   rw [this])
 exact h w' o' hb' hM' hg
end
theorem mblk_far {w : World} {g : Nat} {o : Obj} (h : w.heap[g]? = some o) {p : Addr} (hp : g ≠ p.block) (u : Value) : (w.setCell p u).heap[g]? = some o := (Below.heap_setCell w p u g hp).trans h
theorem wf_of_within {f : Int → Int → Int → Option Bool} (hf : ∀ a b c,f a b c = if b ≤ a then some (decide (a ≤ c)) else some false) {v c : Int} (h : f v 1 (wrap64 c) = some true) : (Lit.int .i64 v).wf = true := by
 rw [hf] at h
 have hw : wrap64 c ≤ 9223372036854775807 := by unfold wrap64; omega
 split at h
 ·have := of_decide_eq_true (Option.some.inj h)
  have h1 : IntKind.i64.min = -9223372036854775808 := by decide
  have h2 : IntKind.i64.max = 9223372036854775807 := by decide
  unfold Lit.wf
  rw [Bool.and_eq_true,decide_eq_true_eq,decide_eq_true_eq,h1,h2]
  omega
 ·cases h
/-! ### impl_StoreOK: function 17 -/
mutual
def impl_StoreOK.j0 : Nat → Bool → List (S32) → Int → Option (Bool)
 | 0,_,_,_ => none
 | k + 1,x15,x342000,x342001 => if x15 = true then (some false) else (impl_StoreOK.l0 k x342000 (x342000.length : Int) 0 x342000 x342001 [])
def impl_StoreOK.l0 : Nat → List (S32) → Int → Int → List (S32) → Int → List Int → Option (Bool)
 | 0,_,_,_,_,_,_ => none
 | k + 1,x18,x19,x20,x342000,x342001,x344000 => if x20 < x19 then (if 0 ≤ x20 then (if x20 < (x18.length : Int) then ((impl_KeyOK.f k ((rd_T32 x18 x20).f0)).bind fun t346 => (if t346 = true then ((impl_within.f ((rd_T32 x18 x20).f1) 1 (wrap64 (x342001 - 1))).bind fun t347 => (if t347 = true then (if (((rd_T32 x18 x20).f2).size : Int) > 600 then (some false) else (if x344000.contains ((rd_T32 x18 x20).f1) = true then (some false) else (if x20 > 0 then (if 0 ≤ (wrap64 (x20 - 1)) then (if (wrap64 (x20 - 1)) < (x342000.length : Int) then (if ((Op.bytesLess (((rd_T32 x342000 (wrap64 (x20 - 1))).f0).toList) (((rd_T32 x18 x20).f0).toList)) = true) then (if x344000.length < 4096 then (impl_StoreOK.l0 k x18 x19 (wrap64 (x20 + 1)) x342000 x342001 (((rd_T32 x18 x20).f1) :: x344000)) else (none)) else (some false)) else (none)) else (none)) else (if x344000.length < 4096 then (impl_StoreOK.l0 k x18 x19 (wrap64 (x20 + 1)) x342000 x342001 (((rd_T32 x18 x20).f1) :: x344000)) else (none))))) else (some false))) else (some false))) else (none)) else (none)) else (some true)
end
def impl_StoreOK.f (k : Nat) (l0_0 : List (S32)) (a0_1 : Int) : Option (Bool) := (impl_within.f a0_1 1 1000000000).bind fun t342 => (if t342 = true then (impl_StoreOK.j0 k (decide ((l0_0.length : Int) > 300)) l0_0 a0_1) else (impl_StoreOK.j0 k true l0_0 a0_1))
theorem impl_StoreOK.mono_l : ∀ k,(∀ y0 y1 y2,LeO (impl_StoreOK.j0 k y0 y1 y2) (impl_StoreOK.j0 (k + 1) y0 y1 y2)) ∧ (∀ y0 y1 y2 y3 y4 y5,LeO (impl_StoreOK.l0 k y0 y1 y2 y3 y4 y5) (impl_StoreOK.l0 (k + 1) y0 y1 y2 y3 y4 y5))
 | 0 => ⟨fun _ _ _ r h => by simp [impl_StoreOK.j0] at h,fun _ _ _ _ _ _ r h => by simp [impl_StoreOK.l0] at h⟩
 | k + 1 => by
  obtain ⟨ih0,ih1⟩ := impl_StoreOK.mono_l k
  refine ⟨?_,?_⟩
  all_goals
   intros
   first | unfold impl_StoreOK.j0 | unfold impl_StoreOK.l0
   repeat' first
   | (with_reducible first | exact ih0 .. | exact ih1 .. | exact impl_KeyOK.mono .. | exact LeO.refl _ | exact LeO.none _ | refine LeO.ite ?_ ?_ | refine LeO.bind ?_ (fun _ => ?_))
   | exact LeO.none _ | refine LeO.ite ?_ ?_ | refine LeO.bind ?_ (fun _ => ?_)
theorem impl_StoreOK.mono : ∀ a0 a1 k,LeO (impl_StoreOK.f k a0 a1) (impl_StoreOK.f (k + 1) a0 a1) := by
 intro a0 a1 k
 obtain ⟨ih0,ih1⟩ := impl_StoreOK.mono_l k
 unfold impl_StoreOK.f
 repeat' first
 | (with_reducible first | exact ih0 .. | exact ih1 .. | exact impl_KeyOK.mono .. | exact LeO.refl _ | exact LeO.none _ | refine LeO.ite ?_ ?_ | refine LeO.bind ?_ (fun _ => ?_))
 | exact LeO.none _ | refine LeO.ite ?_ ?_ | refine LeO.bind ?_ (fun _ => ?_)
def impl_StoreOK.T7 : Bool × List (List Nat × List Nat) := (true,[([],[]),([0],[0]),([1],[1]),([2],[2]),([3,2],[3]),([4],[4]),([5,4],[4,5]),([4],[4]),([7,4],[4,7]),([8,4],[4,8]),([6,9,4,4],[4,6,9]),([10,4],[4,10]),([4,11],[4,11]),([12,10],[12]),([13],[13]),([14,13],[13,14]),([15,13],[13,15]),([16,13],[13,16]),([13,17],[13,17]),([18,13],[18]),([19],[19]),([19],[19]),([21,19],[19,21]),([20,22,19],[19,20,22]),([19,23],[19,23]),([24,19],[24]),([25],[25]),([26,25],[25,26]),([27,25,25],[25,27]),([28],[28]),([29,28],[28,29]),([28],[28]),([31,28],[28,31]),([30,32,28],[28,30,32]),([33,28],[28,33]),([34,28],[28,34]),([28],[28]),([36,28],[28,36]),([35,37,28],[28,35,37]),([28,38,25],[25,28,38]),([25,39],[25,39])])
def impl_StoreOK.B7 : List Nat := [0,1,3,7,15,31,63,31,159,415,1023,2047,4095,8191,16383,32767,65535,131071,262143,524287,1048575,1048575,3145727,8388607,16777215,33554431,67108863,134217727,268435455,536870911,1073741823,536870911,2684354559,8589934591,17179869183,34359738367,536870911,69256347647,274877906943,549755813887,1099511627775]
theorem impl_StoreOK.tab7 : rtab .any (opsOf Try.f17 7) = impl_StoreOK.T7 := by kernel_rfl
theorem impl_StoreOK.bits7 : waitsOk impl_StoreOK.T7.2 impl_StoreOK.B7 = true := by kernel_rfl
set_option maxHeartbeats 8000000 in
set_option maxRecDepth 100000 in
theorem impl_StoreOK.calls (k : Nat) (A0_0 : Option Addr) (c0_0 : Nat) (l0_0 : List (S32)) (a0_1 : Int) (r : Bool) (w : World) (hr0_0 : Kd.C k32 w A0_0 l0_0.length l0_0) (hc0_0 : l0_0.length ≤ c0_0) (h : impl_StoreOK.f k l0_0 a0_1 = some r) :
  Calls Try.prog 17 #[.agg #[.slice A0_0 l0_0.length c0_0,.int .i64 a0_1]] w fun e w' => e = .returned (.bool r) ∧ Below w.heap.size w w' := by
 have hu25 := Try.underlying25
 have hu32 := Try.underlying32
 have HR0_0 := Aside0.mk hr0_0
 have HC0_0 := Aside0.mk hc0_0
 clear hr0_0 hc0_0
 have HB := Aside0.mk (Below.refl w.heap.size w)
 have H : ((impl_within.f a0_1 1 1000000000).bind fun t342 => (if t342 = true then (impl_StoreOK.j0 k (decide ((l0_0.length : Int) > 300)) l0_0 a0_1) else (impl_StoreOK.j0 k true l0_0 a0_1))) = some r := h
 clear h
 have HC2 := Aside0.mk H
 clear H
 go_enter Try.func17,Try.ntmps17
 go_upto_region 1 with (first | ((with_reducible refine gate_dst (N:=1) rfl ?_); (try (refine gate_guard (by rfl) ?_; dsimp only)); refine bxe (N:=1) (cs := #[.slice A0_0 l0_0.length c0_0,.int .i64 a0_1]) (t:=25) ?_; intro gb341 hg w3 hbox hb; have BK341 := Aside0.mk (hbox); have GW341 := Aside0.mk ((gw hg : w.heap.size ≤ gb341)); have GE341 := GW341; replace HB := bsA hb; clear hb hbox hg))
 (try simp only [Act.put,setIfInBounds_toArray,set_cons_zero,set_cons_succ])
 go_cut [15] (fun v15 wc => ∃ (kq : Nat) (x15_1 : Bool),v15 = .bool x15_1 ∧ Aside0 (impl_StoreOK.j0 kq x15_1 l0_0 a0_1 = some r) ∧ Aside0 (kq ≤ k) ∧ Aside0 (wc.heap[gb341]? = some (.cells #[(.slice A0_0 l0_0.length c0_0),.int .i64 a0_1] 25 (0,0))) ∧ Aside0 (Below w.heap.size w wc))
 case first =>
  have H := HC2.out
  clear HC2
  replace H := Option.bind_eq_some_iff.mp H
  obtain ⟨t342,A40,H⟩ := H
  try dsimp only at H
  have A4 := Aside0.mk A40
  clear A40
  by_cases c5 : t342 = true
  ·subst c5
   rw [if_pos rfl] at H
   have H' := Aside0.mk H
   clear H
   obtain ⟨hcz6_0,hcz6_1⟩ := cl2 BK341.out
   obtain ⟨hfz6_0,hfz6_1⟩ := fz2 BK341.out
   go_wp2_with (first | ((with_reducible refine gate_callee (f:=25) rfl ?_); refine goesL_ (some 8) rfl rfl Try.func25 (by kernel_rfl) rfl #[.int .i64 a0_1,.int .i64 1,.int .i64 1000000000] rfl mA ?_; (with_reducible refine (impl_within.calls a0_1 1 1000000000 true _ A4.out).mono ?_); rintro e w' ⟨rfl,⟨nd,rfl⟩⟩; refine ⟨_,rfl,?_⟩))
   go_meet
   case rel => exact ⟨_,(decide ((l0_0.length : Int) > 300)),(by first | rfl | (simp; done) | (simp [*]; done)),H',⟨by first | omega | exact Nat.le_refl _⟩,⟨kA BK341.out⟩,⟨bA⟩⟩
  ·replace c5 := Bool.eq_false_iff.mpr c5
   subst c5
   rw [if_neg (show ¬ (false = true) by decide)] at H
   have H' := Aside0.mk H
   clear H
   obtain ⟨hcz7_0,hcz7_1⟩ := cl2 BK341.out
   obtain ⟨hfz7_0,hfz7_1⟩ := fz2 BK341.out
   go_wp2_with (first | ((with_reducible refine gate_callee (f:=25) rfl ?_); refine goesL_ (some 8) rfl rfl Try.func25 (by kernel_rfl) rfl #[.int .i64 a0_1,.int .i64 1,.int .i64 1000000000] rfl mA ?_; (with_reducible refine (impl_within.calls a0_1 1 1000000000 false _ A4.out).mono ?_); rintro e w' ⟨rfl,⟨nd,rfl⟩⟩; refine ⟨_,rfl,?_⟩))
   go_meet
   case rel => exact ⟨_,(true),(by first | rfl | (simp; done) | (simp [*]; done)),H',⟨by first | omega | exact Nat.le_refl _⟩,⟨kA BK341.out⟩,⟨bA⟩⟩
 case rest =>
  clear HC2
  try clear c1
  try clear c2
  try clear p2
  try clear c5
  try clear hcz6_0 hcz6_1
  try clear hcz7_0 hcz7_1
  try clear hfz6_0 hfz6_1
  try clear hfz7_0 hfz7_1
  obtain ⟨kq,x15_1,rfl,HA,HJ1,BK341,HB⟩ := hcut
  cases kq with
  | zero => exact absurd HA.out (by simp [impl_StoreOK.j0])
  | succ kj1 =>
   have H := HA.out
   clear HA
   simp only [impl_StoreOK.j0] at H
   by_cases c8 : x15_1 = true
   ·subst c8
    rw [if_pos rfl] at H
    obtain rfl := Option.some.inj H
    go_wp2
    go_ret
    exact ⟨by first | rfl | (simp only [i64_w,i32_w] <;> rfl) | (simp [errW_none,errW_some] <;> rfl) | (simp [*,errW_none,errW_some] <;> rfl),bA⟩
   ·replace c8 := Bool.eq_false_iff.mpr c8
    subst c8
    rw [if_neg (show ¬ (false = true) by decide)] at H
    have H' := Aside0.mk H
    clear H
    go_wp2_with (first | ((with_reducible refine gate_dst (N:=16) rfl ?_); (try (refine gate_guard (by rfl) ?_; dsimp only)); refine map_event ?hg (N:=16) ?hd ?hr ?_; (case hd => rfl); (case hg => rfl); (case hr => first | (go_simp; done) | (go_simp; rfl)); intro gb343 hg w9 hbox hb; have BK343 := Aside0.mk (hbox); have GW343 := Aside0.mk ((gw hg : w.heap.size ≤ gb343)); have GE343 := GW343; replace HB := bsA hb; have NB341_343 := Aside0.mk ((nl hg BK341.out)); have NB343_341 := Aside0.mk ((ng hg BK341.out)); replace BK341 := bbA BK341 hb; clear hb hbox hg; have hnb10 := NB341_343.out; have hnc10 := NB343_341.out; obtain ⟨hcz11_0,hcz11_1⟩ := cl2 BK341.out; obtain ⟨hfz11_0,hfz11_1⟩ := fz2 BK341.out))
    go_loopg [20] kj1 (fun kq v20 w' => ∃ (x20_2 : Int) (x344000_2 : List Int) (om_ : Obj),v20 = .int .i64 x20_2 ∧ Aside0 (impl_StoreOK.l0 kq l0_0 (l0_0.length : Int) x20_2 l0_0 a0_1 x344000_2 = some r) ∧ Aside0 (kq ≤ kj1) ∧ Aside0 (w'.heap[gb341]? = some (.cells #[(.slice A0_0 l0_0.length c0_0),.int .i64 a0_1] 25 (0,0))) ∧ Aside0 (w'.heap[gb343]? = some om_) ∧ Aside0 (MapO Try.prog 3 4 om_ x344000_2) ∧ Aside0 (Below w.heap.size w w'))
    case atStart => exact ⟨(0),([]),(.map #[] 0),(by first | rfl | (simp; done) | (simp [*]; done)),H',⟨Nat.le_refl _⟩,⟨kA BK341.out⟩,⟨kA BK343.out⟩,⟨MapO.made _ _ _⟩,⟨bA⟩⟩
    case round =>
     clear H'
     try clear c1
     try clear c2
     try clear p2
     try clear c5
     try clear c8
     try clear c10
     try clear hcz11_0 hcz11_1
     try clear hcz6_0 hcz6_1
     try clear hcz7_0 hcz7_1
     try clear hfz11_0 hfz11_1
     try clear hfz6_0 hfz6_1
     try clear hfz7_0 hfz7_1
     try clear p2
     obtain ⟨x20_2,x344000_2,om_,rfl,HA,HK2,BK341,BK343,MO_,HB⟩ := hrel
     cases gk with
     | zero => exact absurd HA.out (by simp [impl_StoreOK.l0])
     | succ k2 =>
      have H := HA.out
      clear HA
      simp only [impl_StoreOK.l0] at H
      by_cases c12 : x20_2 < (l0_0.length : Int)
      ·rw [if_pos c12] at H
       have c12b0 : decide (x20_2 < (l0_0.length : Int)) = true := decide_eq_true c12
       clear c12
       by_cases c13 : 0 ≤ x20_2
       ·rw [if_pos c13] at H
        have c13b0 : decide (0 ≤ x20_2) = true := decide_eq_true c13
        clear c13
        by_cases c14 : x20_2 < (l0_0.length : Int)
        ·rw [if_pos c14] at H
         have c14b0 : decide (x20_2 < (l0_0.length : Int)) = true := decide_eq_true c14
         clear c14
         replace H := Option.bind_eq_some_iff.mp H
         obtain ⟨t346,A150,H⟩ := H
         try dsimp only at H
         have A15 := Aside0.mk A150
         clear A150
         by_cases c16 : t346 = true
         ·subst c16
          rw [if_pos rfl] at H
          replace H := Option.bind_eq_some_iff.mp H
          obtain ⟨t347,A170,H⟩ := H
          try dsimp only at H
          have A17 := Aside0.mk A170
          clear A170
          by_cases c18 : t347 = true
          ·subst c18
           rw [if_pos rfl] at H
           by_cases c19 : (((rd_T32 l0_0 x20_2).f2).size : Int) > 600
           ·rw [if_pos c19] at H
            have c19b0 : decide (600 < (((rd_T32 l0_0 x20_2).f2).size : Int)) = true := decide_eq_true c19
            have c19b1 : decide (600 < ((rd_T32 l0_0 x20_2).f2).size) = true := decide_eq_true (by omega)
            clear c19
            obtain rfl := Option.some.inj H
            have p344 : 0 ≤ (x20_2 : Int) := od
            have q344 : x20_2 < (l0_0.length : Int) := od
            obtain ⟨ad344,e344,hx344_0,hx344_1,hx344_2⟩ := at_T32 HR0_0.out x20_2 p344 q344
            cases e344
            replace hx344_0 := cb HB.out hx344_0
            replace hx344_1 := cb HB.out hx344_1
            replace hx344_2 := cb HB.out hx344_2
            replace p344 := eq_true p344
            replace q344 := eq_true q344
            try go_wp2_with (first | ((with_reducible refine gate_dst (N:=5) rfl ?_); (try (refine gate_guard (by rfl) ?_; dsimp only)); refine bxe (N:=5) (cs := #[.string (⟨#[]⟩ : ByteArray),.int .i64 0,.string (⟨#[]⟩ : ByteArray)]) (t:=32) ?_; intro gb345 hg w20 hbox hb; have BK345 := Aside0.mk (hbox); have GW345 := Aside0.mk ((gw hg : w.heap.size ≤ gb345)); have GE345 := GW345; replace HB := bsA hb; have NB341_345 := Aside0.mk ((nl hg BK341.out)); have NB345_341 := Aside0.mk ((ng hg BK341.out)); replace BK341 := bbA BK341 hb; have NB343_345 := Aside0.mk ((by rw [hg]; exact Nat.ne_of_lt (blk_lt (g:=gb343) (o:=om_) (kA BK343.out)) : gb343 ≠ gb345)); have NB345_343 := Aside0.mk ((by rw [hg]; exact Nat.ne_of_gt (blk_lt (g:=gb343) (o:=om_) (kA BK343.out)) : gb345 ≠ gb343)); replace BK343 := Aside0.mk (blk_below (g:=gb343) (o:=om_) (kA BK343.out) hb); clear hb hbox hg; have hnb21 := NB345_341.out; have hnc21 := NB341_345.out; have hnb22 := NB345_343.out; have hnc22 := NB343_345.out; obtain ⟨hcz23_0,hcz23_1,hcz23_2⟩ := cl3 BK345.out; obtain ⟨hfz23_0,hfz23_1,hfz23_2⟩ := fz3 BK345.out))
            have n0_ : Aside0 ((((w20.setCell ⟨gb345,0,none⟩ (.string ((rd_T32 l0_0 x20_2).f0))).setCell ⟨gb345,1,none⟩ (.int .i64 ((rd_T32 l0_0 x20_2).f1))).setCell ⟨gb345,2,none⟩ (.string ((rd_T32 l0_0 x20_2).f2))).heap[gb341]? = some (.cells #[.slice (some ad344) l0_0.length c0_0,.int .i64 a0_1] 25 (0,0))) := ⟨kF BK341.out⟩
            have n1_ : Aside0 ((((w20.setCell ⟨gb345,0,none⟩ (.string ((rd_T32 l0_0 x20_2).f0))).setCell ⟨gb345,1,none⟩ (.int .i64 ((rd_T32 l0_0 x20_2).f1))).setCell ⟨gb345,2,none⟩ (.string ((rd_T32 l0_0 x20_2).f2))).heap[gb343]? = some om_) := ⟨by (with_reducible repeat (first | refine blk_drewN ?_ _ | refine blk_drew ?_ | refine blk_alloc ?_ _)); refine mblk_far ?_ NB343_345.out _; (with_reducible repeat (first | refine blk_drewN ?_ _ | refine blk_drew ?_ | refine blk_alloc ?_ _)); refine mblk_far ?_ NB343_345.out _; (with_reducible repeat (first | refine blk_drewN ?_ _ | refine blk_drew ?_ | refine blk_alloc ?_ _)); refine mblk_far ?_ NB343_345.out _; (with_reducible repeat (first | refine blk_drewN ?_ _ | refine blk_drew ?_ | refine blk_alloc ?_ _)); exact BK343.out⟩
            have n2_ : Aside0 ((((w20.setCell ⟨gb345,0,none⟩ (.string ((rd_T32 l0_0 x20_2).f0))).setCell ⟨gb345,1,none⟩ (.int .i64 ((rd_T32 l0_0 x20_2).f1))).setCell ⟨gb345,2,none⟩ (.string ((rd_T32 l0_0 x20_2).f2))).heap[gb345]? = some (.cells #[.string ((rd_T32 l0_0 x20_2).f0),.int .i64 ((rd_T32 l0_0 x20_2).f1),.string ((rd_T32 l0_0 x20_2).f2)] 32 (0,0))) := ⟨by (with_reducible repeat (first | refine blk_drewN ?_ _ | refine blk_drew ?_ | refine blk_alloc ?_ _)); refine blk_put (cs := #[.string ((rd_T32 l0_0 x20_2).f0),.int .i64 ((rd_T32 l0_0 x20_2).f1),.string (⟨#[]⟩ : ByteArray)]) ?_ 2 _ rfl; (with_reducible repeat (first | refine blk_drewN ?_ _ | refine blk_drew ?_ | refine blk_alloc ?_ _)); refine blk_put (cs := #[.string ((rd_T32 l0_0 x20_2).f0),.int .i64 0,.string (⟨#[]⟩ : ByteArray)]) ?_ 1 _ rfl; (with_reducible repeat (first | refine blk_drewN ?_ _ | refine blk_drew ?_ | refine blk_alloc ?_ _)); refine blk_put (cs := #[.string (⟨#[]⟩ : ByteArray),.int .i64 0,.string (⟨#[]⟩ : ByteArray)]) ?_ 0 _ rfl; (with_reducible repeat (first | refine blk_drewN ?_ _ | refine blk_drew ?_ | refine blk_alloc ?_ _)); exact BK345.out⟩
            have n3_ : Aside0 (Below w.heap.size w (((w20.setCell ⟨gb345,0,none⟩ (.string ((rd_T32 l0_0 x20_2).f0))).setCell ⟨gb345,1,none⟩ (.int .i64 ((rd_T32 l0_0 x20_2).f1))).setCell ⟨gb345,2,none⟩ (.string ((rd_T32 l0_0 x20_2).f2)))) := ⟨bA⟩
            (try clear BK341)
            (try clear BK343)
            (try clear BK345)
            (try clear HB)
            generalize (((w20.setCell ⟨gb345,0,none⟩ (.string ((rd_T32 l0_0 x20_2).f0))).setCell ⟨gb345,1,none⟩ (.int .i64 ((rd_T32 l0_0 x20_2).f1))).setCell ⟨gb345,2,none⟩ (.string ((rd_T32 l0_0 x20_2).f2))) = w24 at n0_ n1_ n2_ n3_ ⊢
            have BK341 := n0_
            have BK343 := n1_
            have BK345 := n2_
            have HB := n3_
            clear n0_ n1_ n2_ n3_
            replace BK341 := Aside0.mk (blk_drew BK341.out)
            replace BK343 := Aside0.mk (blk_drew BK343.out)
            replace BK345 := Aside0.mk (blk_drew BK345.out)
            replace HB := Aside0.mk (below_drew1 HB.out)
            refine start_ (n:=41) (S:=fun w' => w'.cell? ⟨gb345,0,none⟩ = some (.string ((rd_T32 l0_0 x20_2).f0)) ∧ w'.cell? ⟨gb345,1,none⟩ = some (.int .i64 ((rd_T32 l0_0 x20_2).f1)) ∧ w'.cell? ⟨gb345,2,none⟩ = some (.string ((rd_T32 l0_0 x20_2).f2)) ∧ w'.cell? ⟨gb341,0,none⟩ = some (.slice (some ad344) l0_0.length c0_0) ∧ w'.cell? ⟨gb341,1,none⟩ = some (.int .i64 a0_1)) (ds := []) (bm 41 0) (by kernel_rfl) rfl rfl ⟨bl BK345 0,bl BK345 1,bl BK345 2,bl BK341 0,bl BK341 1⟩ (fun hHeld => ?_); refine with_tabW impl_StoreOK.tab7 impl_StoreOK.bits7 (fun HT_ HW_ => ?_)
            generalize w24.drew = w25 at BK341 BK343 BK345 HB hHeld ⊢
            refine pV_ 0 25 (bm 41 1) HT_.out ?_
            refine tk 1 26 (bm 41 3) HT_.out HW_.out hHeld ?_
            refine one_ (i:=2) (N:=some 27) (bm 41 7) rfl rfl (one_of HT_.out (by kernel_rfl)) (by decide) (fun K hK => ?_)
            refine goes_ Try.func18 (by kernel_rfl) rfl #[.string ((rd_T32 l0_0 x20_2).f0)] (by rfl) rfl rfl mA ?_
            with_reducible refine (impl_KeyOK.calls k2 ((rd_T32 l0_0 x20_2).f0) true _ A15.out).mono ?_
            rintro e w' ⟨rfl,⟨nd,rfl⟩⟩
            refine ⟨_,rfl,?_⟩
            refine hK.out _ _ ⟨bl BK345 0,bl BK345 1,bl BK345 2,bl BK341 0,bl BK341 1⟩ (fun hHeld => ?_)
            clear hK K
            refine nw 27 ?_
            refine pV_ 3 28 (bm 41 15) HT_.out ?_
            refine pV_ 4 29 (bm 41 31) HT_.out ?_
            refine pV_ 5 30 (bm 41 63) HT_.out ?_
            refine pV_ 7 32 (bm 41 191) HT_.out ?_
            refine tk 6 31 (bm 41 255) HT_.out HW_.out hHeld ?_
            refine tk 8 33 (bm 41 511) HT_.out HW_.out hHeld ?_
            refine pV_ 9 34 (bm 41 1023) HT_.out ?_
            refine one_ (i:=10) (N:=some 35) (bm 41 2047) rfl rfl (one_of HT_.out (by kernel_rfl)) (by decide) (fun K hK => ?_)
            refine goes_ Try.func25 (by kernel_rfl) rfl #[.int .i64 ((rd_T32 l0_0 x20_2).f1),.int .i64 1,.int .i64 (wrap64 (a0_1 - 1))] (by rfl) rfl rfl mA ?_
            with_reducible refine (impl_within.calls ((rd_T32 l0_0 x20_2).f1) 1 (wrap64 (a0_1 - 1)) true _ A17.out).mono ?_
            rintro e w' ⟨rfl,⟨nd,rfl⟩⟩
            refine ⟨_,rfl,?_⟩
            refine hK.out _ _ ⟨bl BK345 0,bl BK345 1,bl BK345 2,bl BK341 0,bl BK341 1⟩ (fun hHeld => ?_)
            clear hK K
            refine nw 35 ?_
            refine pV_ 11 36 (bm 41 4095) HT_.out ?_
            refine pV_ 12 37 (bm 41 8191) HT_.out ?_
            refine pV_ 13 38 (bm 41 16383) HT_.out ?_
            refine pV_ 14 39 (bm 41 32767) HT_.out ?_
            refine tk 15 40 (bm 41 65535) HT_.out HW_.out hHeld ?_
            refine pV_ 16 41 (bm 41 131071) HT_.out ?_
            refine pV_ 17 42 (bm 41 262143) HT_.out ?_
            refine pV_ 18 43 (bm 41 524287) HT_.out ?_
            refine pV_ 19 44 (bm 41 1048575) HT_.out ?_
            refine pU_ 20 45 (bm 41 2097151) HT_.out ?_
            refine pU_ 21 46 (bm 41 4194303) HT_.out ?_
            refine pU_ 22 47 (bm 41 8388607) HT_.out ?_
            refine pU_ 23 48 (bm 41 16777215) HT_.out ?_
            refine pV_ 24 49 (bm 41 33554431) HT_.out ?_
            refine pV_ 25 50 (bm 41 67108863) HT_.out ?_
            refine pU_ 26 51 (bm 41 134217727) HT_.out ?_
            refine pU_ 27 52 (bm 41 268435455) HT_.out ?_
            refine pU_ 28 53 (bm 41 536870911) HT_.out ?_
            refine pU_ 29 54 (bm 41 1073741823) HT_.out ?_
            refine pU_ 30 55 (bm 41 2147483647) HT_.out ?_
            refine pU_ 31 56 (bm 41 4294967295) HT_.out ?_
            refine pU_ 32 57 (bm 41 8589934591) HT_.out ?_
            refine pU_ 33 58 (bm 41 17179869183) HT_.out ?_
            refine pU_ 34 59 (bm 41 34359738367) HT_.out ?_
            refine pU_ 35 60 (bm 41 68719476735) HT_.out ?_
            refine pU_ 36 61 (bm 41 137438953471) HT_.out ?_
            refine pU_ 37 62 (bm 41 274877906943) HT_.out ?_
            refine pU_ 38 63 (bm 41 549755813887) HT_.out ?_
            refine pU_ 39 64 (bm 41 1099511627775) HT_.out ?_
            refine pV_ 40 65 (bm 41 2199023255551) HT_.out ?_
            refine done_ (done_of HT_.out (by kernel_rfl)) ?_
            try go_wp2
            go_ret
            exact ⟨by first | rfl | (simp only [i64_w,i32_w] <;> rfl) | (simp [errW_none,errW_some] <;> rfl) | (simp [*,errW_none,errW_some] <;> rfl),bA⟩
           ·rw [if_neg c19] at H
            have c19b0 : decide (600 < (((rd_T32 l0_0 x20_2).f2).size : Int)) = false := decide_eq_false c19
            have c19b1 : decide (600 < ((rd_T32 l0_0 x20_2).f2).size) = false := decide_eq_false (by omega)
            clear c19
            by_cases c26 : x344000_2.contains ((rd_T32 l0_0 x20_2).f1) = true
            ·have H1 : (some false) = some r := by rw [if_pos c26] at H; exact H
             clear H
             have H := H1
             clear H1
             obtain rfl := Option.some.inj H
             have p344 : 0 ≤ (x20_2 : Int) := od
             have q344 : x20_2 < (l0_0.length : Int) := od
             obtain ⟨ad344,e344,hx344_0,hx344_1,hx344_2⟩ := at_T32 HR0_0.out x20_2 p344 q344
             cases e344
             replace hx344_0 := cb HB.out hx344_0
             replace hx344_1 := cb HB.out hx344_1
             replace hx344_2 := cb HB.out hx344_2
             replace p344 := eq_true p344
             replace q344 := eq_true q344
             try go_wp2_with (first | ((with_reducible refine gate_dst (N:=5) rfl ?_); (try (refine gate_guard (by rfl) ?_; dsimp only)); refine bxe (N:=5) (cs := #[.string (⟨#[]⟩ : ByteArray),.int .i64 0,.string (⟨#[]⟩ : ByteArray)]) (t:=32) ?_; intro gb345 hg w27 hbox hb; have BK345 := Aside0.mk (hbox); have GW345 := Aside0.mk ((gw hg : w.heap.size ≤ gb345)); have GE345 := GW345; replace HB := bsA hb; have NB341_345 := Aside0.mk ((nl hg BK341.out)); have NB345_341 := Aside0.mk ((ng hg BK341.out)); replace BK341 := bbA BK341 hb; have NB343_345 := Aside0.mk ((by rw [hg]; exact Nat.ne_of_lt (blk_lt (g:=gb343) (o:=om_) (kA BK343.out)) : gb343 ≠ gb345)); have NB345_343 := Aside0.mk ((by rw [hg]; exact Nat.ne_of_gt (blk_lt (g:=gb343) (o:=om_) (kA BK343.out)) : gb345 ≠ gb343)); replace BK343 := Aside0.mk (blk_below (g:=gb343) (o:=om_) (kA BK343.out) hb); clear hb hbox hg; have hnb28 := NB345_341.out; have hnc28 := NB341_345.out; have hnb29 := NB345_343.out; have hnc29 := NB343_345.out; obtain ⟨hcz30_0,hcz30_1,hcz30_2⟩ := cl3 BK345.out; obtain ⟨hfz30_0,hfz30_1,hfz30_2⟩ := fz3 BK345.out))
             have n0_ : Aside0 ((((w27.setCell ⟨gb345,0,none⟩ (.string ((rd_T32 l0_0 x20_2).f0))).setCell ⟨gb345,1,none⟩ (.int .i64 ((rd_T32 l0_0 x20_2).f1))).setCell ⟨gb345,2,none⟩ (.string ((rd_T32 l0_0 x20_2).f2))).heap[gb341]? = some (.cells #[.slice (some ad344) l0_0.length c0_0,.int .i64 a0_1] 25 (0,0))) := ⟨kF BK341.out⟩
             have n1_ : Aside0 ((((w27.setCell ⟨gb345,0,none⟩ (.string ((rd_T32 l0_0 x20_2).f0))).setCell ⟨gb345,1,none⟩ (.int .i64 ((rd_T32 l0_0 x20_2).f1))).setCell ⟨gb345,2,none⟩ (.string ((rd_T32 l0_0 x20_2).f2))).heap[gb343]? = some om_) := ⟨by (with_reducible repeat (first | refine blk_drewN ?_ _ | refine blk_drew ?_ | refine blk_alloc ?_ _)); refine mblk_far ?_ NB343_345.out _; (with_reducible repeat (first | refine blk_drewN ?_ _ | refine blk_drew ?_ | refine blk_alloc ?_ _)); refine mblk_far ?_ NB343_345.out _; (with_reducible repeat (first | refine blk_drewN ?_ _ | refine blk_drew ?_ | refine blk_alloc ?_ _)); refine mblk_far ?_ NB343_345.out _; (with_reducible repeat (first | refine blk_drewN ?_ _ | refine blk_drew ?_ | refine blk_alloc ?_ _)); exact BK343.out⟩
             have n2_ : Aside0 ((((w27.setCell ⟨gb345,0,none⟩ (.string ((rd_T32 l0_0 x20_2).f0))).setCell ⟨gb345,1,none⟩ (.int .i64 ((rd_T32 l0_0 x20_2).f1))).setCell ⟨gb345,2,none⟩ (.string ((rd_T32 l0_0 x20_2).f2))).heap[gb345]? = some (.cells #[.string ((rd_T32 l0_0 x20_2).f0),.int .i64 ((rd_T32 l0_0 x20_2).f1),.string ((rd_T32 l0_0 x20_2).f2)] 32 (0,0))) := ⟨by (with_reducible repeat (first | refine blk_drewN ?_ _ | refine blk_drew ?_ | refine blk_alloc ?_ _)); refine blk_put (cs := #[.string ((rd_T32 l0_0 x20_2).f0),.int .i64 ((rd_T32 l0_0 x20_2).f1),.string (⟨#[]⟩ : ByteArray)]) ?_ 2 _ rfl; (with_reducible repeat (first | refine blk_drewN ?_ _ | refine blk_drew ?_ | refine blk_alloc ?_ _)); refine blk_put (cs := #[.string ((rd_T32 l0_0 x20_2).f0),.int .i64 0,.string (⟨#[]⟩ : ByteArray)]) ?_ 1 _ rfl; (with_reducible repeat (first | refine blk_drewN ?_ _ | refine blk_drew ?_ | refine blk_alloc ?_ _)); refine blk_put (cs := #[.string (⟨#[]⟩ : ByteArray),.int .i64 0,.string (⟨#[]⟩ : ByteArray)]) ?_ 0 _ rfl; (with_reducible repeat (first | refine blk_drewN ?_ _ | refine blk_drew ?_ | refine blk_alloc ?_ _)); exact BK345.out⟩
             have n3_ : Aside0 (Below w.heap.size w (((w27.setCell ⟨gb345,0,none⟩ (.string ((rd_T32 l0_0 x20_2).f0))).setCell ⟨gb345,1,none⟩ (.int .i64 ((rd_T32 l0_0 x20_2).f1))).setCell ⟨gb345,2,none⟩ (.string ((rd_T32 l0_0 x20_2).f2)))) := ⟨bA⟩
             (try clear BK341)
             (try clear BK343)
             (try clear BK345)
             (try clear HB)
             generalize (((w27.setCell ⟨gb345,0,none⟩ (.string ((rd_T32 l0_0 x20_2).f0))).setCell ⟨gb345,1,none⟩ (.int .i64 ((rd_T32 l0_0 x20_2).f1))).setCell ⟨gb345,2,none⟩ (.string ((rd_T32 l0_0 x20_2).f2))) = w31 at n0_ n1_ n2_ n3_ ⊢
             have BK341 := n0_
             have BK343 := n1_
             have BK345 := n2_
             have HB := n3_
             clear n0_ n1_ n2_ n3_
             replace BK341 := Aside0.mk (blk_drew BK341.out)
             replace BK343 := Aside0.mk (blk_drew BK343.out)
             replace BK345 := Aside0.mk (blk_drew BK345.out)
             replace HB := Aside0.mk (below_drew1 HB.out)
             refine start_ (n:=41) (S:=fun w' => w'.cell? ⟨gb345,0,none⟩ = some (.string ((rd_T32 l0_0 x20_2).f0)) ∧ w'.cell? ⟨gb345,1,none⟩ = some (.int .i64 ((rd_T32 l0_0 x20_2).f1)) ∧ w'.cell? ⟨gb345,2,none⟩ = some (.string ((rd_T32 l0_0 x20_2).f2)) ∧ w'.cell? ⟨gb341,0,none⟩ = some (.slice (some ad344) l0_0.length c0_0) ∧ w'.cell? ⟨gb341,1,none⟩ = some (.int .i64 a0_1) ∧ w'.heap[gb343]? = some om_) (ds := []) (bm 41 0) (by kernel_rfl) rfl rfl ⟨bl BK345 0,bl BK345 1,bl BK345 2,bl BK341 0,bl BK341 1,BK343.out⟩ (fun hHeld => ?_); refine with_tabW impl_StoreOK.tab7 impl_StoreOK.bits7 (fun HT_ HW_ => ?_)
             generalize w31.drew = w32 at BK341 BK343 BK345 HB hHeld ⊢
             refine pV_ 0 25 (bm 41 1) HT_.out ?_
             refine tk 1 26 (bm 41 3) HT_.out HW_.out hHeld ?_
             refine one_ (i:=2) (N:=some 27) (bm 41 7) rfl rfl (one_of HT_.out (by kernel_rfl)) (by decide) (fun K hK => ?_)
             refine goes_ Try.func18 (by kernel_rfl) rfl #[.string ((rd_T32 l0_0 x20_2).f0)] (by rfl) rfl rfl mA ?_
             with_reducible refine (impl_KeyOK.calls k2 ((rd_T32 l0_0 x20_2).f0) true _ A15.out).mono ?_
             rintro e w' ⟨rfl,⟨nd,rfl⟩⟩
             refine ⟨_,rfl,?_⟩
             refine hK.out _ _ ⟨bl BK345 0,bl BK345 1,bl BK345 2,bl BK341 0,bl BK341 1,BK343.out⟩ (fun hHeld => ?_)
             clear hK K
             refine nw 27 ?_
             refine pV_ 3 28 (bm 41 15) HT_.out ?_
             refine pV_ 4 29 (bm 41 31) HT_.out ?_
             refine pV_ 5 30 (bm 41 63) HT_.out ?_
             refine pV_ 7 32 (bm 41 191) HT_.out ?_
             refine tk 6 31 (bm 41 255) HT_.out HW_.out hHeld ?_
             refine tk 8 33 (bm 41 511) HT_.out HW_.out hHeld ?_
             refine pV_ 9 34 (bm 41 1023) HT_.out ?_
             refine one_ (i:=10) (N:=some 35) (bm 41 2047) rfl rfl (one_of HT_.out (by kernel_rfl)) (by decide) (fun K hK => ?_)
             refine goes_ Try.func25 (by kernel_rfl) rfl #[.int .i64 ((rd_T32 l0_0 x20_2).f1),.int .i64 1,.int .i64 (wrap64 (a0_1 - 1))] (by rfl) rfl rfl mA ?_
             with_reducible refine (impl_within.calls ((rd_T32 l0_0 x20_2).f1) 1 (wrap64 (a0_1 - 1)) true _ A17.out).mono ?_
             rintro e w' ⟨rfl,⟨nd,rfl⟩⟩
             refine ⟨_,rfl,?_⟩
             refine hK.out _ _ ⟨bl BK345 0,bl BK345 1,bl BK345 2,bl BK341 0,bl BK341 1,BK343.out⟩ (fun hHeld => ?_)
             clear hK K
             refine nw 35 ?_
             refine pV_ 11 36 (bm 41 4095) HT_.out ?_
             refine pV_ 12 37 (bm 41 8191) HT_.out ?_
             refine pV_ 13 38 (bm 41 16383) HT_.out ?_
             refine pV_ 14 39 (bm 41 32767) HT_.out ?_
             refine tk 15 40 (bm 41 65535) HT_.out HW_.out hHeld ?_
             refine pV_ 16 41 (bm 41 131071) HT_.out ?_
             refine pV_ 17 42 (bm 41 262143) HT_.out ?_
             refine pV_ 18 43 (bm 41 524287) HT_.out ?_
             refine pV_ 19 44 (bm 41 1048575) HT_.out ?_
             refine pV_ 20 45 (bm 41 2097151) HT_.out ?_
             refine pV_ 21 46 (bm 41 4194303) HT_.out ?_
             refine tk 22 47 (bm 41 8388607) HT_.out HW_.out hHeld ?_
             refine take_ (i:=23) (N:=some 48) (v:=?_) (a':=?_) (bm 41 16777215) rfl rfl (take_ofW HT_.out HW_.out (by kernel_rfl)) (fun _ _ _ h => h) (Or.inl ⟨by rfl,?_⟩) hHeld ?_ ?_
             rotate_left
             ·rintro w' ⟨s0,s1,s2,s3,s4,s5⟩
              have hlk_ := MO_.out.look (t:=65) (w:=w') ‹w'.heap[gb343]? = some om_› Try.underlying65 Try.underlying3 Try.underlying4 (fun W => by kernel_rfl) ((rd_T32 l0_0 x20_2).f1) (wf_of_within (fun _ _ _ => rfl) A17.out)
              rw [c26] at hlk_
              go_simp
              with_reducible rfl
             rotate_left
             ·simp only [Act.put,setIfInBounds_toArray,set_cons_zero,set_cons_succ,i64_w,i32_w]
              rfl
             refine pV_ 24 49 (bm 41 33554431) HT_.out ?_
             refine pV_ 25 50 (bm 41 67108863) HT_.out ?_
             refine pU_ 26 51 (bm 41 134217727) HT_.out ?_
             refine pU_ 27 52 (bm 41 268435455) HT_.out ?_
             refine pU_ 28 53 (bm 41 536870911) HT_.out ?_
             refine pU_ 29 54 (bm 41 1073741823) HT_.out ?_
             refine pU_ 30 55 (bm 41 2147483647) HT_.out ?_
             refine pU_ 31 56 (bm 41 4294967295) HT_.out ?_
             refine pU_ 32 57 (bm 41 8589934591) HT_.out ?_
             refine pU_ 33 58 (bm 41 17179869183) HT_.out ?_
             refine pU_ 34 59 (bm 41 34359738367) HT_.out ?_
             refine pU_ 35 60 (bm 41 68719476735) HT_.out ?_
             refine pU_ 36 61 (bm 41 137438953471) HT_.out ?_
             refine pU_ 37 62 (bm 41 274877906943) HT_.out ?_
             refine pU_ 38 63 (bm 41 549755813887) HT_.out ?_
             refine pU_ 39 64 (bm 41 1099511627775) HT_.out ?_
             refine pV_ 40 65 (bm 41 2199023255551) HT_.out ?_
             refine done_ (done_of HT_.out (by kernel_rfl)) ?_
             try go_wp2
             go_ret
             exact ⟨by first | rfl | (simp only [i64_w,i32_w] <;> rfl) | (simp [errW_none,errW_some] <;> rfl) | (simp [*,errW_none,errW_some] <;> rfl),bA⟩
            ·replace c26 := Bool.eq_false_iff.mpr c26
             have H1 : (if x20_2 > 0 then (if 0 ≤ (wrap64 (x20_2 - 1)) then (if (wrap64 (x20_2 - 1)) < (l0_0.length : Int) then (if ((Op.bytesLess (((rd_T32 l0_0 (wrap64 (x20_2 - 1))).f0).toList) (((rd_T32 l0_0 x20_2).f0).toList)) = true) then (if x344000_2.length < 4096 then (impl_StoreOK.l0 k2 l0_0 (l0_0.length : Int) (wrap64 (x20_2 + 1)) l0_0 a0_1 (((rd_T32 l0_0 x20_2).f1) :: x344000_2)) else (none)) else (some false)) else (none)) else (none)) else (if x344000_2.length < 4096 then (impl_StoreOK.l0 k2 l0_0 (l0_0.length : Int) (wrap64 (x20_2 + 1)) l0_0 a0_1 (((rd_T32 l0_0 x20_2).f1) :: x344000_2)) else (none))) = some r := by rw [if_neg (by rw [c26]; decide)] at H; exact H
             clear H
             have H := H1
             clear H1
             by_cases c33 : x20_2 > 0
             ·rw [if_pos c33] at H
              have c33b0 : decide (0 < x20_2) = true := decide_eq_true c33
              clear c33
              obtain ⟨ji34,hji34⟩ : ∃ j_ : Int,(wrap64 (x20_2 - 1)) = j_ := ⟨_,rfl⟩
              replace H : (if 0 ≤ (ji34) then (if (ji34) < (l0_0.length : Int) then (if ((Op.bytesLess (((rd_T32 l0_0 (ji34)).f0).toList) (((rd_T32 l0_0 x20_2).f0).toList)) = true) then (if x344000_2.length < 4096 then (impl_StoreOK.l0 k2 l0_0 (l0_0.length : Int) (wrap64 (x20_2 + 1)) l0_0 a0_1 (((rd_T32 l0_0 x20_2).f1) :: x344000_2)) else (none)) else (some false)) else (none)) else (none)) = some r := by first | (rw [hji34] at H; exact H) | (simp only [hji34] at H ⊢; exact H)
              (try rw [hji34] at A15)
              (try rw [hji34] at A17)
              have hji34w : (IntKind.i64.wrap (x20_2 - 1)) = ji34 := (i64_w _).trans hji34
              by_cases c35 : 0 ≤ (ji34)
              ·rw [if_pos c35] at H
               have c35b0 : decide (0 ≤ (ji34)) = true := decide_eq_true c35
               clear c35
               by_cases c36 : (ji34) < (l0_0.length : Int)
               ·rw [if_pos c36] at H
                have c36b0 : decide ((ji34) < (l0_0.length : Int)) = true := decide_eq_true c36
                clear c36
                by_cases c37 : ((Op.bytesLess (((rd_T32 l0_0 (ji34)).f0).toList) (((rd_T32 l0_0 x20_2).f0).toList)) = true)
                ·rw [if_pos c37] at H
                 have c37b0 : (Op.bytesLess (((rd_T32 l0_0 (ji34)).f0).toList) (((rd_T32 l0_0 x20_2).f0).toList)) = true := c37
                 clear c37
                 have hlen_ : x344000_2.length < 4096 := by
                  by_cases hq_ : x344000_2.length < 4096
                  ·exact hq_
                  ·rw [if_neg hq_] at H; cases H
                 rw [if_pos hlen_] at H
                 have HL_ := Aside0.mk hlen_
                 clear hlen_
                 have H' := Aside0.mk H
                 clear H
                 have p344 : 0 ≤ (x20_2 : Int) := od
                 have q344 : x20_2 < (l0_0.length : Int) := od
                 obtain ⟨ad344,e344,hx344_0,hx344_1,hx344_2⟩ := at_T32 HR0_0.out x20_2 p344 q344
                 cases e344
                 replace hx344_0 := cb HB.out hx344_0
                 replace hx344_1 := cb HB.out hx344_1
                 replace hx344_2 := cb HB.out hx344_2
                 replace p344 := eq_true p344
                 replace q344 := eq_true q344
                 try go_wp2_with (first | ((with_reducible refine gate_dst (N:=5) rfl ?_); (try (refine gate_guard (by rfl) ?_; dsimp only)); refine bxe (N:=5) (cs := #[.string (⟨#[]⟩ : ByteArray),.int .i64 0,.string (⟨#[]⟩ : ByteArray)]) (t:=32) ?_; intro gb345 hg w38 hbox hb; have BK345 := Aside0.mk (hbox); have GW345 := Aside0.mk ((gw hg : w.heap.size ≤ gb345)); have GE345 := GW345; replace HB := bsA hb; have NB341_345 := Aside0.mk ((nl hg BK341.out)); have NB345_341 := Aside0.mk ((ng hg BK341.out)); replace BK341 := bbA BK341 hb; have NB343_345 := Aside0.mk ((by rw [hg]; exact Nat.ne_of_lt (blk_lt (g:=gb343) (o:=om_) (kA BK343.out)) : gb343 ≠ gb345)); have NB345_343 := Aside0.mk ((by rw [hg]; exact Nat.ne_of_gt (blk_lt (g:=gb343) (o:=om_) (kA BK343.out)) : gb345 ≠ gb343)); replace BK343 := Aside0.mk (blk_below (g:=gb343) (o:=om_) (kA BK343.out) hb); clear hb hbox hg; have hnb39 := NB345_341.out; have hnc39 := NB341_345.out; have hnb40 := NB345_343.out; have hnc40 := NB343_345.out; obtain ⟨hcz41_0,hcz41_1,hcz41_2⟩ := cl3 BK345.out; obtain ⟨hfz41_0,hfz41_1,hfz41_2⟩ := fz3 BK345.out))
                 have n0_ : Aside0 ((((w38.setCell ⟨gb345,0,none⟩ (.string ((rd_T32 l0_0 x20_2).f0))).setCell ⟨gb345,1,none⟩ (.int .i64 ((rd_T32 l0_0 x20_2).f1))).setCell ⟨gb345,2,none⟩ (.string ((rd_T32 l0_0 x20_2).f2))).heap[gb341]? = some (.cells #[.slice (some ad344) l0_0.length c0_0,.int .i64 a0_1] 25 (0,0))) := ⟨kF BK341.out⟩
                 have n1_ : Aside0 ((((w38.setCell ⟨gb345,0,none⟩ (.string ((rd_T32 l0_0 x20_2).f0))).setCell ⟨gb345,1,none⟩ (.int .i64 ((rd_T32 l0_0 x20_2).f1))).setCell ⟨gb345,2,none⟩ (.string ((rd_T32 l0_0 x20_2).f2))).heap[gb343]? = some om_) := ⟨by (with_reducible repeat (first | refine blk_drewN ?_ _ | refine blk_drew ?_ | refine blk_alloc ?_ _)); refine mblk_far ?_ NB343_345.out _; (with_reducible repeat (first | refine blk_drewN ?_ _ | refine blk_drew ?_ | refine blk_alloc ?_ _)); refine mblk_far ?_ NB343_345.out _; (with_reducible repeat (first | refine blk_drewN ?_ _ | refine blk_drew ?_ | refine blk_alloc ?_ _)); refine mblk_far ?_ NB343_345.out _; (with_reducible repeat (first | refine blk_drewN ?_ _ | refine blk_drew ?_ | refine blk_alloc ?_ _)); exact BK343.out⟩
                 have n2_ : Aside0 ((((w38.setCell ⟨gb345,0,none⟩ (.string ((rd_T32 l0_0 x20_2).f0))).setCell ⟨gb345,1,none⟩ (.int .i64 ((rd_T32 l0_0 x20_2).f1))).setCell ⟨gb345,2,none⟩ (.string ((rd_T32 l0_0 x20_2).f2))).heap[gb345]? = some (.cells #[.string ((rd_T32 l0_0 x20_2).f0),.int .i64 ((rd_T32 l0_0 x20_2).f1),.string ((rd_T32 l0_0 x20_2).f2)] 32 (0,0))) := ⟨by (with_reducible repeat (first | refine blk_drewN ?_ _ | refine blk_drew ?_ | refine blk_alloc ?_ _)); refine blk_put (cs := #[.string ((rd_T32 l0_0 x20_2).f0),.int .i64 ((rd_T32 l0_0 x20_2).f1),.string (⟨#[]⟩ : ByteArray)]) ?_ 2 _ rfl; (with_reducible repeat (first | refine blk_drewN ?_ _ | refine blk_drew ?_ | refine blk_alloc ?_ _)); refine blk_put (cs := #[.string ((rd_T32 l0_0 x20_2).f0),.int .i64 0,.string (⟨#[]⟩ : ByteArray)]) ?_ 1 _ rfl; (with_reducible repeat (first | refine blk_drewN ?_ _ | refine blk_drew ?_ | refine blk_alloc ?_ _)); refine blk_put (cs := #[.string (⟨#[]⟩ : ByteArray),.int .i64 0,.string (⟨#[]⟩ : ByteArray)]) ?_ 0 _ rfl; (with_reducible repeat (first | refine blk_drewN ?_ _ | refine blk_drew ?_ | refine blk_alloc ?_ _)); exact BK345.out⟩
                 have n3_ : Aside0 (Below w.heap.size w (((w38.setCell ⟨gb345,0,none⟩ (.string ((rd_T32 l0_0 x20_2).f0))).setCell ⟨gb345,1,none⟩ (.int .i64 ((rd_T32 l0_0 x20_2).f1))).setCell ⟨gb345,2,none⟩ (.string ((rd_T32 l0_0 x20_2).f2)))) := ⟨bA⟩
                 (try clear BK341)
                 (try clear BK343)
                 (try clear BK345)
                 (try clear HB)
                 generalize (((w38.setCell ⟨gb345,0,none⟩ (.string ((rd_T32 l0_0 x20_2).f0))).setCell ⟨gb345,1,none⟩ (.int .i64 ((rd_T32 l0_0 x20_2).f1))).setCell ⟨gb345,2,none⟩ (.string ((rd_T32 l0_0 x20_2).f2))) = w42 at n0_ n1_ n2_ n3_ ⊢
                 have BK341 := n0_
                 have BK343 := n1_
                 have BK345 := n2_
                 have HB := n3_
                 clear n0_ n1_ n2_ n3_
                 replace BK341 := Aside0.mk (blk_drew BK341.out)
                 replace BK343 := Aside0.mk (blk_drew BK343.out)
                 replace BK345 := Aside0.mk (blk_drew BK345.out)
                 replace HB := Aside0.mk (below_drew1 HB.out)
                 have p348 : 0 ≤ ((ji34) : Int) := od
                 have q348 : (ji34) < (l0_0.length : Int) := od
                 obtain ⟨ad348,e348,hx348_0,hx348_1,hx348_2⟩ := at_T32 HR0_0.out (ji34) p348 q348
                 have hw348_2 := hx348_2
                 have hw348_1 := hx348_1
                 have hw348_0 := hx348_0
                 obtain rfl : ad344 = ad348 := (by injection e348)
                 replace hx348_0 := cb HB.out hx348_0
                 replace hx348_1 := cb HB.out hx348_1
                 replace hx348_2 := cb HB.out hx348_2
                 replace p348 := eq_true p348
                 replace q348 := eq_true q348
                 refine start_ (n:=41) (S:=fun w' => w'.cell? ⟨gb345,0,none⟩ = some (.string ((rd_T32 l0_0 x20_2).f0)) ∧ w'.cell? ⟨gb345,1,none⟩ = some (.int .i64 ((rd_T32 l0_0 x20_2).f1)) ∧ w'.cell? ⟨gb345,2,none⟩ = some (.string ((rd_T32 l0_0 x20_2).f2)) ∧ w'.cell? ⟨gb341,0,none⟩ = some (.slice (some ad344) l0_0.length c0_0) ∧ w'.cell? ⟨gb341,1,none⟩ = some (.int .i64 a0_1) ∧ w'.heap[gb343]? = some om_ ∧ w'.cell? (ad344.add (((ji34)).toNat * 3)) = some (.string ((rd_T32 l0_0 (ji34)).f0)) ∧ w'.cell? ⟨(ad344.add (((ji34)).toNat * 3)).block,(ad344.add (((ji34)).toNat * 3)).off + 1,none⟩ = some (.int .i64 ((rd_T32 l0_0 (ji34)).f1)) ∧ w'.cell? ⟨(ad344.add (((ji34)).toNat * 3)).block,(ad344.add (((ji34)).toNat * 3)).off + 2,none⟩ = some (.string ((rd_T32 l0_0 (ji34)).f2))) (ds := []) (bm 41 0) (by kernel_rfl) rfl rfl ⟨bl BK345 0,bl BK345 1,bl BK345 2,bl BK341 0,bl BK341 1,BK343.out,(cb HB.out hw348_0),(cb HB.out hw348_1),(cb HB.out hw348_2)⟩ (fun hHeld => ?_); refine with_tabW impl_StoreOK.tab7 impl_StoreOK.bits7 (fun HT_ HW_ => ?_)
                 generalize w42.drew = w43 at BK341 BK343 BK345 HB hx348_0 hx348_1 hx348_2 hHeld ⊢
                 refine pV_ 0 25 (bm 41 1) HT_.out ?_
                 refine tk 1 26 (bm 41 3) HT_.out HW_.out hHeld ?_
                 refine one_ (i:=2) (N:=some 27) (bm 41 7) rfl rfl (one_of HT_.out (by kernel_rfl)) (by decide) (fun K hK => ?_)
                 refine goes_ Try.func18 (by kernel_rfl) rfl #[.string ((rd_T32 l0_0 x20_2).f0)] (by rfl) rfl rfl mA ?_
                 with_reducible refine (impl_KeyOK.calls k2 ((rd_T32 l0_0 x20_2).f0) true _ A15.out).mono ?_
                 rintro e w' ⟨rfl,⟨nd,rfl⟩⟩
                 refine ⟨_,rfl,?_⟩
                 refine hK.out _ _ ⟨bl BK345 0,bl BK345 1,bl BK345 2,bl BK341 0,bl BK341 1,BK343.out,(cb HB.out hw348_0),(cb HB.out hw348_1),(cb HB.out hw348_2)⟩ (fun hHeld => ?_)
                 clear hK K
                 refine nw 27 ?_
                 refine pV_ 3 28 (bm 41 15) HT_.out ?_
                 refine pV_ 4 29 (bm 41 31) HT_.out ?_
                 refine pV_ 5 30 (bm 41 63) HT_.out ?_
                 refine pV_ 7 32 (bm 41 191) HT_.out ?_
                 refine tk 6 31 (bm 41 255) HT_.out HW_.out hHeld ?_
                 refine tk 8 33 (bm 41 511) HT_.out HW_.out hHeld ?_
                 refine pV_ 9 34 (bm 41 1023) HT_.out ?_
                 refine one_ (i:=10) (N:=some 35) (bm 41 2047) rfl rfl (one_of HT_.out (by kernel_rfl)) (by decide) (fun K hK => ?_)
                 refine goes_ Try.func25 (by kernel_rfl) rfl #[.int .i64 ((rd_T32 l0_0 x20_2).f1),.int .i64 1,.int .i64 (wrap64 (a0_1 - 1))] (by rfl) rfl rfl mA ?_
                 with_reducible refine (impl_within.calls ((rd_T32 l0_0 x20_2).f1) 1 (wrap64 (a0_1 - 1)) true _ A17.out).mono ?_
                 rintro e w' ⟨rfl,⟨nd,rfl⟩⟩
                 refine ⟨_,rfl,?_⟩
                 refine hK.out _ _ ⟨bl BK345 0,bl BK345 1,bl BK345 2,bl BK341 0,bl BK341 1,BK343.out,(cb HB.out hw348_0),(cb HB.out hw348_1),(cb HB.out hw348_2)⟩ (fun hHeld => ?_)
                 clear hK K
                 refine nw 35 ?_
                 refine pV_ 11 36 (bm 41 4095) HT_.out ?_
                 refine pV_ 12 37 (bm 41 8191) HT_.out ?_
                 refine pV_ 13 38 (bm 41 16383) HT_.out ?_
                 refine pV_ 14 39 (bm 41 32767) HT_.out ?_
                 refine tk 15 40 (bm 41 65535) HT_.out HW_.out hHeld ?_
                 refine pV_ 16 41 (bm 41 131071) HT_.out ?_
                 refine pV_ 17 42 (bm 41 262143) HT_.out ?_
                 refine pV_ 18 43 (bm 41 524287) HT_.out ?_
                 refine pV_ 19 44 (bm 41 1048575) HT_.out ?_
                 refine pV_ 20 45 (bm 41 2097151) HT_.out ?_
                 refine pV_ 21 46 (bm 41 4194303) HT_.out ?_
                 refine tk 22 47 (bm 41 8388607) HT_.out HW_.out hHeld ?_
                 refine take_ (i:=23) (N:=some 48) (v:=?_) (a':=?_) (bm 41 16777215) rfl rfl (take_ofW HT_.out HW_.out (by kernel_rfl)) (fun _ _ _ h => h) (Or.inl ⟨by rfl,?_⟩) hHeld ?_ ?_
                 rotate_left
                 ·rintro w' ⟨s0,s1,s2,s3,s4,s5,s6,s7,s8⟩
                  have hlk_ := MO_.out.look (t:=65) (w:=w') ‹w'.heap[gb343]? = some om_› Try.underlying65 Try.underlying3 Try.underlying4 (fun W => by kernel_rfl) ((rd_T32 l0_0 x20_2).f1) (wf_of_within (fun _ _ _ => rfl) A17.out)
                  rw [c26] at hlk_
                  go_simp
                  with_reducible rfl
                 rotate_left
                 ·simp only [Act.put,setIfInBounds_toArray,set_cons_zero,set_cons_succ,i64_w,i32_w]
                  rfl
                 refine pV_ 24 49 (bm 41 33554431) HT_.out ?_
                 refine pV_ 25 50 (bm 41 67108863) HT_.out ?_
                 refine pV_ 26 51 (bm 41 134217727) HT_.out ?_
                 refine pV_ 27 52 (bm 41 268435455) HT_.out ?_
                 refine pV_ 28 53 (bm 41 536870911) HT_.out ?_
                 refine pV_ 29 54 (bm 41 1073741823) HT_.out ?_
                 refine pV_ 31 56 (bm 41 3221225471) HT_.out ?_
                 refine pV_ 32 57 (bm 41 7516192767) HT_.out ?_
                 refine pV_ 36 61 (bm 41 76235669503) HT_.out ?_
                 refine tk 30 55 (bm 41 77309411327) HT_.out HW_.out hHeld ?_
                 refine pV_ 33 58 (bm 41 85899345919) HT_.out ?_
                 refine pV_ 34 59 (bm 41 103079215103) HT_.out ?_
                 refine tk 35 60 (bm 41 137438953471) HT_.out HW_.out hHeld ?_
                 refine tk 37 62 (bm 41 274877906943) HT_.out HW_.out hHeld ?_
                 refine pV_ 38 63 (bm 41 549755813887) HT_.out ?_
                 refine pV_ 39 64 (bm 41 1099511627775) HT_.out ?_
                 refine pV_ 40 65 (bm 41 2199023255551) HT_.out ?_
                 refine done_ (done_of HT_.out (by kernel_rfl)) ?_
                 obtain ⟨hcz44_0,hcz44_1,hcz44_2⟩ := cl3 BK345.out
                 obtain ⟨hfz44_0,hfz44_1,hfz44_2⟩ := fz3 BK345.out
                 have hnb45 := NB343_341.out
                 have hnc45 := NB341_343.out
                 go_wp2_with (at_mapUpdate; refine mapput_event rfl (t:=65) rfl (b:=gb343) (om := om_) (l:=x344000_2) (n:=((rd_T32 l0_0 x20_2).f1)) Try.underlying65 Try.underlying3 Try.underlying4 rfl (by rfl) rfl BK343.out MO_.out (wf_of_within (fun _ _ _ => rfl) A17.out) (Nat.lt_trans HL_.out (by decide)) ?_; intro wm_ om2_ hbm2_ hM2_ hg2_; have n341_ := Aside0.mk ((hg2_.block gb341 (blk_lt BK341.out) (by intro e_; cases e_; exact NB341_343.out rfl)).trans BK341.out); have nh_ := Aside0.mk (Below.grown (by repeat (first | (with_reducible exact HB.out) | apply pw_below_drewN | apply below_drew1)) hg2_ HB.out.size (fun _ e_ => by cases e_; exact GE343.out)); have nb_ := Aside0.mk hbm2_; have nm_ := Aside0.mk hM2_; clear HB MO_ BK343 BK341 hg2_ hbm2_ hM2_)
                 go_roundg k2
                 case measure => have := HJ1.out; have := HK2.out; omega
                 case rel => exact ⟨(wrap64 (x20_2 + 1)),(((rd_T32 l0_0 x20_2).f1) :: x344000_2),om2_,(by first | rfl | (simp; done) | (simp [*]; done)),H',⟨by have := HJ1.out; have := HK2.out; omega⟩,⟨by (with_reducible repeat (first | refine blk_drewN ?_ _ | refine blk_drew ?_ | refine blk_alloc ?_ _)); exact n341_.out⟩,⟨by (with_reducible repeat (first | refine blk_drewN ?_ _ | refine blk_drew ?_ | refine blk_alloc ?_ _)); exact nb_.out⟩,nm_,⟨by repeat (first | (with_reducible first | exact nh_.out | apply below_alloc | apply pw_below_drewN | apply below_drew1 | refine below_set ?_ GE341.out | refine below_set ?_ GE343.out | refine below_set ?_ GE345.out) | exact nh_.out)⟩⟩
                ·rw [if_neg c37] at H
                 have c37b0 : (Op.bytesLess (((rd_T32 l0_0 (ji34)).f0).toList) (((rd_T32 l0_0 x20_2).f0).toList)) = false := by simpa using c37
                 clear c37
                 obtain rfl := Option.some.inj H
                 have p344 : 0 ≤ (x20_2 : Int) := od
                 have q344 : x20_2 < (l0_0.length : Int) := od
                 obtain ⟨ad344,e344,hx344_0,hx344_1,hx344_2⟩ := at_T32 HR0_0.out x20_2 p344 q344
                 cases e344
                 replace hx344_0 := cb HB.out hx344_0
                 replace hx344_1 := cb HB.out hx344_1
                 replace hx344_2 := cb HB.out hx344_2
                 replace p344 := eq_true p344
                 replace q344 := eq_true q344
                 try go_wp2_with (first | ((with_reducible refine gate_dst (N:=5) rfl ?_); (try (refine gate_guard (by rfl) ?_; dsimp only)); refine bxe (N:=5) (cs := #[.string (⟨#[]⟩ : ByteArray),.int .i64 0,.string (⟨#[]⟩ : ByteArray)]) (t:=32) ?_; intro gb345 hg w47 hbox hb; have BK345 := Aside0.mk (hbox); have GW345 := Aside0.mk ((gw hg : w.heap.size ≤ gb345)); have GE345 := GW345; replace HB := bsA hb; have NB341_345 := Aside0.mk ((nl hg BK341.out)); have NB345_341 := Aside0.mk ((ng hg BK341.out)); replace BK341 := bbA BK341 hb; have NB343_345 := Aside0.mk ((by rw [hg]; exact Nat.ne_of_lt (blk_lt (g:=gb343) (o:=om_) (kA BK343.out)) : gb343 ≠ gb345)); have NB345_343 := Aside0.mk ((by rw [hg]; exact Nat.ne_of_gt (blk_lt (g:=gb343) (o:=om_) (kA BK343.out)) : gb345 ≠ gb343)); replace BK343 := Aside0.mk (blk_below (g:=gb343) (o:=om_) (kA BK343.out) hb); clear hb hbox hg; have hnb48 := NB345_341.out; have hnc48 := NB341_345.out; have hnb49 := NB345_343.out; have hnc49 := NB343_345.out; obtain ⟨hcz50_0,hcz50_1,hcz50_2⟩ := cl3 BK345.out; obtain ⟨hfz50_0,hfz50_1,hfz50_2⟩ := fz3 BK345.out))
                 have n0_ : Aside0 ((((w47.setCell ⟨gb345,0,none⟩ (.string ((rd_T32 l0_0 x20_2).f0))).setCell ⟨gb345,1,none⟩ (.int .i64 ((rd_T32 l0_0 x20_2).f1))).setCell ⟨gb345,2,none⟩ (.string ((rd_T32 l0_0 x20_2).f2))).heap[gb341]? = some (.cells #[.slice (some ad344) l0_0.length c0_0,.int .i64 a0_1] 25 (0,0))) := ⟨kF BK341.out⟩
                 have n1_ : Aside0 ((((w47.setCell ⟨gb345,0,none⟩ (.string ((rd_T32 l0_0 x20_2).f0))).setCell ⟨gb345,1,none⟩ (.int .i64 ((rd_T32 l0_0 x20_2).f1))).setCell ⟨gb345,2,none⟩ (.string ((rd_T32 l0_0 x20_2).f2))).heap[gb343]? = some om_) := ⟨by (with_reducible repeat (first | refine blk_drewN ?_ _ | refine blk_drew ?_ | refine blk_alloc ?_ _)); refine mblk_far ?_ NB343_345.out _; (with_reducible repeat (first | refine blk_drewN ?_ _ | refine blk_drew ?_ | refine blk_alloc ?_ _)); refine mblk_far ?_ NB343_345.out _; (with_reducible repeat (first | refine blk_drewN ?_ _ | refine blk_drew ?_ | refine blk_alloc ?_ _)); refine mblk_far ?_ NB343_345.out _; (with_reducible repeat (first | refine blk_drewN ?_ _ | refine blk_drew ?_ | refine blk_alloc ?_ _)); exact BK343.out⟩
                 have n2_ : Aside0 ((((w47.setCell ⟨gb345,0,none⟩ (.string ((rd_T32 l0_0 x20_2).f0))).setCell ⟨gb345,1,none⟩ (.int .i64 ((rd_T32 l0_0 x20_2).f1))).setCell ⟨gb345,2,none⟩ (.string ((rd_T32 l0_0 x20_2).f2))).heap[gb345]? = some (.cells #[.string ((rd_T32 l0_0 x20_2).f0),.int .i64 ((rd_T32 l0_0 x20_2).f1),.string ((rd_T32 l0_0 x20_2).f2)] 32 (0,0))) := ⟨by (with_reducible repeat (first | refine blk_drewN ?_ _ | refine blk_drew ?_ | refine blk_alloc ?_ _)); refine blk_put (cs := #[.string ((rd_T32 l0_0 x20_2).f0),.int .i64 ((rd_T32 l0_0 x20_2).f1),.string (⟨#[]⟩ : ByteArray)]) ?_ 2 _ rfl; (with_reducible repeat (first | refine blk_drewN ?_ _ | refine blk_drew ?_ | refine blk_alloc ?_ _)); refine blk_put (cs := #[.string ((rd_T32 l0_0 x20_2).f0),.int .i64 0,.string (⟨#[]⟩ : ByteArray)]) ?_ 1 _ rfl; (with_reducible repeat (first | refine blk_drewN ?_ _ | refine blk_drew ?_ | refine blk_alloc ?_ _)); refine blk_put (cs := #[.string (⟨#[]⟩ : ByteArray),.int .i64 0,.string (⟨#[]⟩ : ByteArray)]) ?_ 0 _ rfl; (with_reducible repeat (first | refine blk_drewN ?_ _ | refine blk_drew ?_ | refine blk_alloc ?_ _)); exact BK345.out⟩
                 have n3_ : Aside0 (Below w.heap.size w (((w47.setCell ⟨gb345,0,none⟩ (.string ((rd_T32 l0_0 x20_2).f0))).setCell ⟨gb345,1,none⟩ (.int .i64 ((rd_T32 l0_0 x20_2).f1))).setCell ⟨gb345,2,none⟩ (.string ((rd_T32 l0_0 x20_2).f2)))) := ⟨bA⟩
                 (try clear BK341)
                 (try clear BK343)
                 (try clear BK345)
                 (try clear HB)
                 generalize (((w47.setCell ⟨gb345,0,none⟩ (.string ((rd_T32 l0_0 x20_2).f0))).setCell ⟨gb345,1,none⟩ (.int .i64 ((rd_T32 l0_0 x20_2).f1))).setCell ⟨gb345,2,none⟩ (.string ((rd_T32 l0_0 x20_2).f2))) = w51 at n0_ n1_ n2_ n3_ ⊢
                 have BK341 := n0_
                 have BK343 := n1_
                 have BK345 := n2_
                 have HB := n3_
                 clear n0_ n1_ n2_ n3_
                 replace BK341 := Aside0.mk (blk_drew BK341.out)
                 replace BK343 := Aside0.mk (blk_drew BK343.out)
                 replace BK345 := Aside0.mk (blk_drew BK345.out)
                 replace HB := Aside0.mk (below_drew1 HB.out)
                 have p348 : 0 ≤ ((ji34) : Int) := od
                 have q348 : (ji34) < (l0_0.length : Int) := od
                 obtain ⟨ad348,e348,hx348_0,hx348_1,hx348_2⟩ := at_T32 HR0_0.out (ji34) p348 q348
                 have hw348_2 := hx348_2
                 have hw348_1 := hx348_1
                 have hw348_0 := hx348_0
                 obtain rfl : ad344 = ad348 := (by injection e348)
                 replace hx348_0 := cb HB.out hx348_0
                 replace hx348_1 := cb HB.out hx348_1
                 replace hx348_2 := cb HB.out hx348_2
                 replace p348 := eq_true p348
                 replace q348 := eq_true q348
                 refine start_ (n:=41) (S:=fun w' => w'.cell? ⟨gb345,0,none⟩ = some (.string ((rd_T32 l0_0 x20_2).f0)) ∧ w'.cell? ⟨gb345,1,none⟩ = some (.int .i64 ((rd_T32 l0_0 x20_2).f1)) ∧ w'.cell? ⟨gb345,2,none⟩ = some (.string ((rd_T32 l0_0 x20_2).f2)) ∧ w'.cell? ⟨gb341,0,none⟩ = some (.slice (some ad344) l0_0.length c0_0) ∧ w'.cell? ⟨gb341,1,none⟩ = some (.int .i64 a0_1) ∧ w'.heap[gb343]? = some om_ ∧ w'.cell? (ad344.add (((ji34)).toNat * 3)) = some (.string ((rd_T32 l0_0 (ji34)).f0)) ∧ w'.cell? ⟨(ad344.add (((ji34)).toNat * 3)).block,(ad344.add (((ji34)).toNat * 3)).off + 1,none⟩ = some (.int .i64 ((rd_T32 l0_0 (ji34)).f1)) ∧ w'.cell? ⟨(ad344.add (((ji34)).toNat * 3)).block,(ad344.add (((ji34)).toNat * 3)).off + 2,none⟩ = some (.string ((rd_T32 l0_0 (ji34)).f2))) (ds := []) (bm 41 0) (by kernel_rfl) rfl rfl ⟨bl BK345 0,bl BK345 1,bl BK345 2,bl BK341 0,bl BK341 1,BK343.out,(cb HB.out hw348_0),(cb HB.out hw348_1),(cb HB.out hw348_2)⟩ (fun hHeld => ?_); refine with_tabW impl_StoreOK.tab7 impl_StoreOK.bits7 (fun HT_ HW_ => ?_)
                 generalize w51.drew = w52 at BK341 BK343 BK345 HB hx348_0 hx348_1 hx348_2 hHeld ⊢
                 refine pV_ 0 25 (bm 41 1) HT_.out ?_
                 refine tk 1 26 (bm 41 3) HT_.out HW_.out hHeld ?_
                 refine one_ (i:=2) (N:=some 27) (bm 41 7) rfl rfl (one_of HT_.out (by kernel_rfl)) (by decide) (fun K hK => ?_)
                 refine goes_ Try.func18 (by kernel_rfl) rfl #[.string ((rd_T32 l0_0 x20_2).f0)] (by rfl) rfl rfl mA ?_
                 with_reducible refine (impl_KeyOK.calls k2 ((rd_T32 l0_0 x20_2).f0) true _ A15.out).mono ?_
                 rintro e w' ⟨rfl,⟨nd,rfl⟩⟩
                 refine ⟨_,rfl,?_⟩
                 refine hK.out _ _ ⟨bl BK345 0,bl BK345 1,bl BK345 2,bl BK341 0,bl BK341 1,BK343.out,(cb HB.out hw348_0),(cb HB.out hw348_1),(cb HB.out hw348_2)⟩ (fun hHeld => ?_)
                 clear hK K
                 refine nw 27 ?_
                 refine pV_ 3 28 (bm 41 15) HT_.out ?_
                 refine pV_ 4 29 (bm 41 31) HT_.out ?_
                 refine pV_ 5 30 (bm 41 63) HT_.out ?_
                 refine pV_ 7 32 (bm 41 191) HT_.out ?_
                 refine tk 6 31 (bm 41 255) HT_.out HW_.out hHeld ?_
                 refine tk 8 33 (bm 41 511) HT_.out HW_.out hHeld ?_
                 refine pV_ 9 34 (bm 41 1023) HT_.out ?_
                 refine one_ (i:=10) (N:=some 35) (bm 41 2047) rfl rfl (one_of HT_.out (by kernel_rfl)) (by decide) (fun K hK => ?_)
                 refine goes_ Try.func25 (by kernel_rfl) rfl #[.int .i64 ((rd_T32 l0_0 x20_2).f1),.int .i64 1,.int .i64 (wrap64 (a0_1 - 1))] (by rfl) rfl rfl mA ?_
                 with_reducible refine (impl_within.calls ((rd_T32 l0_0 x20_2).f1) 1 (wrap64 (a0_1 - 1)) true _ A17.out).mono ?_
                 rintro e w' ⟨rfl,⟨nd,rfl⟩⟩
                 refine ⟨_,rfl,?_⟩
                 refine hK.out _ _ ⟨bl BK345 0,bl BK345 1,bl BK345 2,bl BK341 0,bl BK341 1,BK343.out,(cb HB.out hw348_0),(cb HB.out hw348_1),(cb HB.out hw348_2)⟩ (fun hHeld => ?_)
                 clear hK K
                 refine nw 35 ?_
                 refine pV_ 11 36 (bm 41 4095) HT_.out ?_
                 refine pV_ 12 37 (bm 41 8191) HT_.out ?_
                 refine pV_ 13 38 (bm 41 16383) HT_.out ?_
                 refine pV_ 14 39 (bm 41 32767) HT_.out ?_
                 refine tk 15 40 (bm 41 65535) HT_.out HW_.out hHeld ?_
                 refine pV_ 16 41 (bm 41 131071) HT_.out ?_
                 refine pV_ 17 42 (bm 41 262143) HT_.out ?_
                 refine pV_ 18 43 (bm 41 524287) HT_.out ?_
                 refine pV_ 19 44 (bm 41 1048575) HT_.out ?_
                 refine pV_ 20 45 (bm 41 2097151) HT_.out ?_
                 refine pV_ 21 46 (bm 41 4194303) HT_.out ?_
                 refine tk 22 47 (bm 41 8388607) HT_.out HW_.out hHeld ?_
                 refine take_ (i:=23) (N:=some 48) (v:=?_) (a':=?_) (bm 41 16777215) rfl rfl (take_ofW HT_.out HW_.out (by kernel_rfl)) (fun _ _ _ h => h) (Or.inl ⟨by rfl,?_⟩) hHeld ?_ ?_
                 rotate_left
                 ·rintro w' ⟨s0,s1,s2,s3,s4,s5,s6,s7,s8⟩
                  have hlk_ := MO_.out.look (t:=65) (w:=w') ‹w'.heap[gb343]? = some om_› Try.underlying65 Try.underlying3 Try.underlying4 (fun W => by kernel_rfl) ((rd_T32 l0_0 x20_2).f1) (wf_of_within (fun _ _ _ => rfl) A17.out)
                  rw [c26] at hlk_
                  go_simp
                  with_reducible rfl
                 rotate_left
                 ·simp only [Act.put,setIfInBounds_toArray,set_cons_zero,set_cons_succ,i64_w,i32_w]
                  rfl
                 refine pV_ 24 49 (bm 41 33554431) HT_.out ?_
                 refine pV_ 25 50 (bm 41 67108863) HT_.out ?_
                 refine pV_ 26 51 (bm 41 134217727) HT_.out ?_
                 refine pV_ 27 52 (bm 41 268435455) HT_.out ?_
                 refine pV_ 28 53 (bm 41 536870911) HT_.out ?_
                 refine pV_ 29 54 (bm 41 1073741823) HT_.out ?_
                 refine pV_ 31 56 (bm 41 3221225471) HT_.out ?_
                 refine pV_ 32 57 (bm 41 7516192767) HT_.out ?_
                 refine pV_ 36 61 (bm 41 76235669503) HT_.out ?_
                 refine tk 30 55 (bm 41 77309411327) HT_.out HW_.out hHeld ?_
                 refine pV_ 33 58 (bm 41 85899345919) HT_.out ?_
                 refine pV_ 34 59 (bm 41 103079215103) HT_.out ?_
                 refine tk 35 60 (bm 41 137438953471) HT_.out HW_.out hHeld ?_
                 refine tk 37 62 (bm 41 274877906943) HT_.out HW_.out hHeld ?_
                 refine pV_ 38 63 (bm 41 549755813887) HT_.out ?_
                 refine pV_ 39 64 (bm 41 1099511627775) HT_.out ?_
                 refine pV_ 40 65 (bm 41 2199023255551) HT_.out ?_
                 refine done_ (done_of HT_.out (by kernel_rfl)) ?_
                 try go_wp2
                 go_ret
                 exact ⟨by first | rfl | (simp only [i64_w,i32_w] <;> rfl) | (simp [errW_none,errW_some] <;> rfl) | (simp only [← hji34]; first | rfl | (simp [errW_none,errW_some] <;> rfl)) | (simp [*,errW_none,errW_some] <;> rfl),bA⟩
               ·rw [if_neg c36] at H
                exact absurd H (by simp)
              ·rw [if_neg c35] at H
               exact absurd H (by simp)
             ·rw [if_neg c33] at H
              have c33b0 : decide (0 < x20_2) = false := decide_eq_false c33
              clear c33
              have hlen_ : x344000_2.length < 4096 := by
               by_cases hq_ : x344000_2.length < 4096
               ·exact hq_
               ·rw [if_neg hq_] at H; cases H
              rw [if_pos hlen_] at H
              have HL_ := Aside0.mk hlen_
              clear hlen_
              have H' := Aside0.mk H
              clear H
              have p344 : 0 ≤ (x20_2 : Int) := od
              have q344 : x20_2 < (l0_0.length : Int) := od
              obtain ⟨ad344,e344,hx344_0,hx344_1,hx344_2⟩ := at_T32 HR0_0.out x20_2 p344 q344
              cases e344
              replace hx344_0 := cb HB.out hx344_0
              replace hx344_1 := cb HB.out hx344_1
              replace hx344_2 := cb HB.out hx344_2
              replace p344 := eq_true p344
              replace q344 := eq_true q344
              try go_wp2_with (first | ((with_reducible refine gate_dst (N:=5) rfl ?_); (try (refine gate_guard (by rfl) ?_; dsimp only)); refine bxe (N:=5) (cs := #[.string (⟨#[]⟩ : ByteArray),.int .i64 0,.string (⟨#[]⟩ : ByteArray)]) (t:=32) ?_; intro gb345 hg w53 hbox hb; have BK345 := Aside0.mk (hbox); have GW345 := Aside0.mk ((gw hg : w.heap.size ≤ gb345)); have GE345 := GW345; replace HB := bsA hb; have NB341_345 := Aside0.mk ((nl hg BK341.out)); have NB345_341 := Aside0.mk ((ng hg BK341.out)); replace BK341 := bbA BK341 hb; have NB343_345 := Aside0.mk ((by rw [hg]; exact Nat.ne_of_lt (blk_lt (g:=gb343) (o:=om_) (kA BK343.out)) : gb343 ≠ gb345)); have NB345_343 := Aside0.mk ((by rw [hg]; exact Nat.ne_of_gt (blk_lt (g:=gb343) (o:=om_) (kA BK343.out)) : gb345 ≠ gb343)); replace BK343 := Aside0.mk (blk_below (g:=gb343) (o:=om_) (kA BK343.out) hb); clear hb hbox hg; have hnb54 := NB345_341.out; have hnc54 := NB341_345.out; have hnb55 := NB345_343.out; have hnc55 := NB343_345.out; obtain ⟨hcz56_0,hcz56_1,hcz56_2⟩ := cl3 BK345.out; obtain ⟨hfz56_0,hfz56_1,hfz56_2⟩ := fz3 BK345.out))
              have n0_ : Aside0 ((((w53.setCell ⟨gb345,0,none⟩ (.string ((rd_T32 l0_0 x20_2).f0))).setCell ⟨gb345,1,none⟩ (.int .i64 ((rd_T32 l0_0 x20_2).f1))).setCell ⟨gb345,2,none⟩ (.string ((rd_T32 l0_0 x20_2).f2))).heap[gb341]? = some (.cells #[.slice (some ad344) l0_0.length c0_0,.int .i64 a0_1] 25 (0,0))) := ⟨kF BK341.out⟩
              have n1_ : Aside0 ((((w53.setCell ⟨gb345,0,none⟩ (.string ((rd_T32 l0_0 x20_2).f0))).setCell ⟨gb345,1,none⟩ (.int .i64 ((rd_T32 l0_0 x20_2).f1))).setCell ⟨gb345,2,none⟩ (.string ((rd_T32 l0_0 x20_2).f2))).heap[gb343]? = some om_) := ⟨by (with_reducible repeat (first | refine blk_drewN ?_ _ | refine blk_drew ?_ | refine blk_alloc ?_ _)); refine mblk_far ?_ NB343_345.out _; (with_reducible repeat (first | refine blk_drewN ?_ _ | refine blk_drew ?_ | refine blk_alloc ?_ _)); refine mblk_far ?_ NB343_345.out _; (with_reducible repeat (first | refine blk_drewN ?_ _ | refine blk_drew ?_ | refine blk_alloc ?_ _)); refine mblk_far ?_ NB343_345.out _; (with_reducible repeat (first | refine blk_drewN ?_ _ | refine blk_drew ?_ | refine blk_alloc ?_ _)); exact BK343.out⟩
              have n2_ : Aside0 ((((w53.setCell ⟨gb345,0,none⟩ (.string ((rd_T32 l0_0 x20_2).f0))).setCell ⟨gb345,1,none⟩ (.int .i64 ((rd_T32 l0_0 x20_2).f1))).setCell ⟨gb345,2,none⟩ (.string ((rd_T32 l0_0 x20_2).f2))).heap[gb345]? = some (.cells #[.string ((rd_T32 l0_0 x20_2).f0),.int .i64 ((rd_T32 l0_0 x20_2).f1),.string ((rd_T32 l0_0 x20_2).f2)] 32 (0,0))) := ⟨by (with_reducible repeat (first | refine blk_drewN ?_ _ | refine blk_drew ?_ | refine blk_alloc ?_ _)); refine blk_put (cs := #[.string ((rd_T32 l0_0 x20_2).f0),.int .i64 ((rd_T32 l0_0 x20_2).f1),.string (⟨#[]⟩ : ByteArray)]) ?_ 2 _ rfl; (with_reducible repeat (first | refine blk_drewN ?_ _ | refine blk_drew ?_ | refine blk_alloc ?_ _)); refine blk_put (cs := #[.string ((rd_T32 l0_0 x20_2).f0),.int .i64 0,.string (⟨#[]⟩ : ByteArray)]) ?_ 1 _ rfl; (with_reducible repeat (first | refine blk_drewN ?_ _ | refine blk_drew ?_ | refine blk_alloc ?_ _)); refine blk_put (cs := #[.string (⟨#[]⟩ : ByteArray),.int .i64 0,.string (⟨#[]⟩ : ByteArray)]) ?_ 0 _ rfl; (with_reducible repeat (first | refine blk_drewN ?_ _ | refine blk_drew ?_ | refine blk_alloc ?_ _)); exact BK345.out⟩
              have n3_ : Aside0 (Below w.heap.size w (((w53.setCell ⟨gb345,0,none⟩ (.string ((rd_T32 l0_0 x20_2).f0))).setCell ⟨gb345,1,none⟩ (.int .i64 ((rd_T32 l0_0 x20_2).f1))).setCell ⟨gb345,2,none⟩ (.string ((rd_T32 l0_0 x20_2).f2)))) := ⟨bA⟩
              (try clear BK341)
              (try clear BK343)
              (try clear BK345)
              (try clear HB)
              generalize (((w53.setCell ⟨gb345,0,none⟩ (.string ((rd_T32 l0_0 x20_2).f0))).setCell ⟨gb345,1,none⟩ (.int .i64 ((rd_T32 l0_0 x20_2).f1))).setCell ⟨gb345,2,none⟩ (.string ((rd_T32 l0_0 x20_2).f2))) = w57 at n0_ n1_ n2_ n3_ ⊢
              have BK341 := n0_
              have BK343 := n1_
              have BK345 := n2_
              have HB := n3_
              clear n0_ n1_ n2_ n3_
              replace BK341 := Aside0.mk (blk_drew BK341.out)
              replace BK343 := Aside0.mk (blk_drew BK343.out)
              replace BK345 := Aside0.mk (blk_drew BK345.out)
              replace HB := Aside0.mk (below_drew1 HB.out)
              refine start_ (n:=41) (S:=fun w' => w'.cell? ⟨gb345,0,none⟩ = some (.string ((rd_T32 l0_0 x20_2).f0)) ∧ w'.cell? ⟨gb345,1,none⟩ = some (.int .i64 ((rd_T32 l0_0 x20_2).f1)) ∧ w'.cell? ⟨gb345,2,none⟩ = some (.string ((rd_T32 l0_0 x20_2).f2)) ∧ w'.cell? ⟨gb341,0,none⟩ = some (.slice (some ad344) l0_0.length c0_0) ∧ w'.cell? ⟨gb341,1,none⟩ = some (.int .i64 a0_1) ∧ w'.heap[gb343]? = some om_) (ds := []) (bm 41 0) (by kernel_rfl) rfl rfl ⟨bl BK345 0,bl BK345 1,bl BK345 2,bl BK341 0,bl BK341 1,BK343.out⟩ (fun hHeld => ?_); refine with_tabW impl_StoreOK.tab7 impl_StoreOK.bits7 (fun HT_ HW_ => ?_)
              generalize w57.drew = w58 at BK341 BK343 BK345 HB hHeld ⊢
              refine pV_ 0 25 (bm 41 1) HT_.out ?_
              refine tk 1 26 (bm 41 3) HT_.out HW_.out hHeld ?_
              refine one_ (i:=2) (N:=some 27) (bm 41 7) rfl rfl (one_of HT_.out (by kernel_rfl)) (by decide) (fun K hK => ?_)
              refine goes_ Try.func18 (by kernel_rfl) rfl #[.string ((rd_T32 l0_0 x20_2).f0)] (by rfl) rfl rfl mA ?_
              with_reducible refine (impl_KeyOK.calls k2 ((rd_T32 l0_0 x20_2).f0) true _ A15.out).mono ?_
              rintro e w' ⟨rfl,⟨nd,rfl⟩⟩
              refine ⟨_,rfl,?_⟩
              refine hK.out _ _ ⟨bl BK345 0,bl BK345 1,bl BK345 2,bl BK341 0,bl BK341 1,BK343.out⟩ (fun hHeld => ?_)
              clear hK K
              refine nw 27 ?_
              refine pV_ 3 28 (bm 41 15) HT_.out ?_
              refine pV_ 4 29 (bm 41 31) HT_.out ?_
              refine pV_ 5 30 (bm 41 63) HT_.out ?_
              refine pV_ 7 32 (bm 41 191) HT_.out ?_
              refine tk 6 31 (bm 41 255) HT_.out HW_.out hHeld ?_
              refine tk 8 33 (bm 41 511) HT_.out HW_.out hHeld ?_
              refine pV_ 9 34 (bm 41 1023) HT_.out ?_
              refine one_ (i:=10) (N:=some 35) (bm 41 2047) rfl rfl (one_of HT_.out (by kernel_rfl)) (by decide) (fun K hK => ?_)
              refine goes_ Try.func25 (by kernel_rfl) rfl #[.int .i64 ((rd_T32 l0_0 x20_2).f1),.int .i64 1,.int .i64 (wrap64 (a0_1 - 1))] (by rfl) rfl rfl mA ?_
              with_reducible refine (impl_within.calls ((rd_T32 l0_0 x20_2).f1) 1 (wrap64 (a0_1 - 1)) true _ A17.out).mono ?_
              rintro e w' ⟨rfl,⟨nd,rfl⟩⟩
              refine ⟨_,rfl,?_⟩
              refine hK.out _ _ ⟨bl BK345 0,bl BK345 1,bl BK345 2,bl BK341 0,bl BK341 1,BK343.out⟩ (fun hHeld => ?_)
              clear hK K
              refine nw 35 ?_
              refine pV_ 11 36 (bm 41 4095) HT_.out ?_
              refine pV_ 12 37 (bm 41 8191) HT_.out ?_
              refine pV_ 13 38 (bm 41 16383) HT_.out ?_
              refine pV_ 14 39 (bm 41 32767) HT_.out ?_
              refine tk 15 40 (bm 41 65535) HT_.out HW_.out hHeld ?_
              refine pV_ 16 41 (bm 41 131071) HT_.out ?_
              refine pV_ 17 42 (bm 41 262143) HT_.out ?_
              refine pV_ 18 43 (bm 41 524287) HT_.out ?_
              refine pV_ 19 44 (bm 41 1048575) HT_.out ?_
              refine pV_ 20 45 (bm 41 2097151) HT_.out ?_
              refine pV_ 21 46 (bm 41 4194303) HT_.out ?_
              refine tk 22 47 (bm 41 8388607) HT_.out HW_.out hHeld ?_
              refine take_ (i:=23) (N:=some 48) (v:=?_) (a':=?_) (bm 41 16777215) rfl rfl (take_ofW HT_.out HW_.out (by kernel_rfl)) (fun _ _ _ h => h) (Or.inl ⟨by rfl,?_⟩) hHeld ?_ ?_
              rotate_left
              ·rintro w' ⟨s0,s1,s2,s3,s4,s5⟩
               have hlk_ := MO_.out.look (t:=65) (w:=w') ‹w'.heap[gb343]? = some om_› Try.underlying65 Try.underlying3 Try.underlying4 (fun W => by kernel_rfl) ((rd_T32 l0_0 x20_2).f1) (wf_of_within (fun _ _ _ => rfl) A17.out)
               rw [c26] at hlk_
               go_simp
               with_reducible rfl
              rotate_left
              ·simp only [Act.put,setIfInBounds_toArray,set_cons_zero,set_cons_succ,i64_w,i32_w]
               rfl
              refine pV_ 24 49 (bm 41 33554431) HT_.out ?_
              refine pV_ 25 50 (bm 41 67108863) HT_.out ?_
              refine pV_ 26 51 (bm 41 134217727) HT_.out ?_
              refine pV_ 27 52 (bm 41 268435455) HT_.out ?_
              refine pV_ 28 53 (bm 41 536870911) HT_.out ?_
              refine pU_ 29 54 (bm 41 1073741823) HT_.out ?_
              refine pU_ 30 55 (bm 41 2147483647) HT_.out ?_
              refine pU_ 31 56 (bm 41 4294967295) HT_.out ?_
              refine pU_ 32 57 (bm 41 8589934591) HT_.out ?_
              refine pU_ 33 58 (bm 41 17179869183) HT_.out ?_
              refine pU_ 34 59 (bm 41 34359738367) HT_.out ?_
              refine pU_ 35 60 (bm 41 68719476735) HT_.out ?_
              refine pU_ 36 61 (bm 41 137438953471) HT_.out ?_
              refine pU_ 37 62 (bm 41 274877906943) HT_.out ?_
              refine pU_ 38 63 (bm 41 549755813887) HT_.out ?_
              refine pV_ 39 64 (bm 41 1099511627775) HT_.out ?_
              refine pV_ 40 65 (bm 41 2199023255551) HT_.out ?_
              refine done_ (done_of HT_.out (by kernel_rfl)) ?_
              obtain ⟨hcz59_0,hcz59_1,hcz59_2⟩ := cl3 BK345.out
              obtain ⟨hfz59_0,hfz59_1,hfz59_2⟩ := fz3 BK345.out
              have hnb60 := NB343_341.out
              have hnc60 := NB341_343.out
              go_wp2_with (at_mapUpdate; refine mapput_event rfl (t:=65) rfl (b:=gb343) (om := om_) (l:=x344000_2) (n:=((rd_T32 l0_0 x20_2).f1)) Try.underlying65 Try.underlying3 Try.underlying4 rfl (by rfl) rfl BK343.out MO_.out (wf_of_within (fun _ _ _ => rfl) A17.out) (Nat.lt_trans HL_.out (by decide)) ?_; intro wm_ om2_ hbm2_ hM2_ hg2_; have n341_ := Aside0.mk ((hg2_.block gb341 (blk_lt BK341.out) (by intro e_; cases e_; exact NB341_343.out rfl)).trans BK341.out); have nh_ := Aside0.mk (Below.grown (by repeat (first | (with_reducible exact HB.out) | apply pw_below_drewN | apply below_drew1)) hg2_ HB.out.size (fun _ e_ => by cases e_; exact GE343.out)); have nb_ := Aside0.mk hbm2_; have nm_ := Aside0.mk hM2_; clear HB MO_ BK343 BK341 hg2_ hbm2_ hM2_)
              go_roundg k2
              case measure => have := HJ1.out; have := HK2.out; omega
              case rel => exact ⟨(wrap64 (x20_2 + 1)),(((rd_T32 l0_0 x20_2).f1) :: x344000_2),om2_,(by first | rfl | (simp; done) | (simp [*]; done)),H',⟨by have := HJ1.out; have := HK2.out; omega⟩,⟨by (with_reducible repeat (first | refine blk_drewN ?_ _ | refine blk_drew ?_ | refine blk_alloc ?_ _)); exact n341_.out⟩,⟨by (with_reducible repeat (first | refine blk_drewN ?_ _ | refine blk_drew ?_ | refine blk_alloc ?_ _)); exact nb_.out⟩,nm_,⟨by repeat (first | (with_reducible first | exact nh_.out | apply below_alloc | apply pw_below_drewN | apply below_drew1 | refine below_set ?_ GE341.out | refine below_set ?_ GE343.out | refine below_set ?_ GE345.out) | exact nh_.out)⟩⟩
          ·replace c18 := Bool.eq_false_iff.mpr c18
           subst c18
           rw [if_neg (show ¬ (false = true) by decide)] at H
           obtain rfl := Option.some.inj H
           have p344 : 0 ≤ (x20_2 : Int) := od
           have q344 : x20_2 < (l0_0.length : Int) := od
           obtain ⟨ad344,e344,hx344_0,hx344_1,hx344_2⟩ := at_T32 HR0_0.out x20_2 p344 q344
           cases e344
           replace hx344_0 := cb HB.out hx344_0
           replace hx344_1 := cb HB.out hx344_1
           replace hx344_2 := cb HB.out hx344_2
           replace p344 := eq_true p344
           replace q344 := eq_true q344
           try go_wp2_with (first | ((with_reducible refine gate_dst (N:=5) rfl ?_); (try (refine gate_guard (by rfl) ?_; dsimp only)); refine bxe (N:=5) (cs := #[.string (⟨#[]⟩ : ByteArray),.int .i64 0,.string (⟨#[]⟩ : ByteArray)]) (t:=32) ?_; intro gb345 hg w62 hbox hb; have BK345 := Aside0.mk (hbox); have GW345 := Aside0.mk ((gw hg : w.heap.size ≤ gb345)); have GE345 := GW345; replace HB := bsA hb; have NB341_345 := Aside0.mk ((nl hg BK341.out)); have NB345_341 := Aside0.mk ((ng hg BK341.out)); replace BK341 := bbA BK341 hb; have NB343_345 := Aside0.mk ((by rw [hg]; exact Nat.ne_of_lt (blk_lt (g:=gb343) (o:=om_) (kA BK343.out)) : gb343 ≠ gb345)); have NB345_343 := Aside0.mk ((by rw [hg]; exact Nat.ne_of_gt (blk_lt (g:=gb343) (o:=om_) (kA BK343.out)) : gb345 ≠ gb343)); replace BK343 := Aside0.mk (blk_below (g:=gb343) (o:=om_) (kA BK343.out) hb); clear hb hbox hg; have hnb63 := NB345_341.out; have hnc63 := NB341_345.out; have hnb64 := NB345_343.out; have hnc64 := NB343_345.out; obtain ⟨hcz65_0,hcz65_1,hcz65_2⟩ := cl3 BK345.out; obtain ⟨hfz65_0,hfz65_1,hfz65_2⟩ := fz3 BK345.out))
           have n0_ : Aside0 ((((w62.setCell ⟨gb345,0,none⟩ (.string ((rd_T32 l0_0 x20_2).f0))).setCell ⟨gb345,1,none⟩ (.int .i64 ((rd_T32 l0_0 x20_2).f1))).setCell ⟨gb345,2,none⟩ (.string ((rd_T32 l0_0 x20_2).f2))).heap[gb341]? = some (.cells #[.slice (some ad344) l0_0.length c0_0,.int .i64 a0_1] 25 (0,0))) := ⟨kF BK341.out⟩
           have n1_ : Aside0 ((((w62.setCell ⟨gb345,0,none⟩ (.string ((rd_T32 l0_0 x20_2).f0))).setCell ⟨gb345,1,none⟩ (.int .i64 ((rd_T32 l0_0 x20_2).f1))).setCell ⟨gb345,2,none⟩ (.string ((rd_T32 l0_0 x20_2).f2))).heap[gb343]? = some om_) := ⟨by (with_reducible repeat (first | refine blk_drewN ?_ _ | refine blk_drew ?_ | refine blk_alloc ?_ _)); refine mblk_far ?_ NB343_345.out _; (with_reducible repeat (first | refine blk_drewN ?_ _ | refine blk_drew ?_ | refine blk_alloc ?_ _)); refine mblk_far ?_ NB343_345.out _; (with_reducible repeat (first | refine blk_drewN ?_ _ | refine blk_drew ?_ | refine blk_alloc ?_ _)); refine mblk_far ?_ NB343_345.out _; (with_reducible repeat (first | refine blk_drewN ?_ _ | refine blk_drew ?_ | refine blk_alloc ?_ _)); exact BK343.out⟩
           have n2_ : Aside0 ((((w62.setCell ⟨gb345,0,none⟩ (.string ((rd_T32 l0_0 x20_2).f0))).setCell ⟨gb345,1,none⟩ (.int .i64 ((rd_T32 l0_0 x20_2).f1))).setCell ⟨gb345,2,none⟩ (.string ((rd_T32 l0_0 x20_2).f2))).heap[gb345]? = some (.cells #[.string ((rd_T32 l0_0 x20_2).f0),.int .i64 ((rd_T32 l0_0 x20_2).f1),.string ((rd_T32 l0_0 x20_2).f2)] 32 (0,0))) := ⟨by (with_reducible repeat (first | refine blk_drewN ?_ _ | refine blk_drew ?_ | refine blk_alloc ?_ _)); refine blk_put (cs := #[.string ((rd_T32 l0_0 x20_2).f0),.int .i64 ((rd_T32 l0_0 x20_2).f1),.string (⟨#[]⟩ : ByteArray)]) ?_ 2 _ rfl; (with_reducible repeat (first | refine blk_drewN ?_ _ | refine blk_drew ?_ | refine blk_alloc ?_ _)); refine blk_put (cs := #[.string ((rd_T32 l0_0 x20_2).f0),.int .i64 0,.string (⟨#[]⟩ : ByteArray)]) ?_ 1 _ rfl; (with_reducible repeat (first | refine blk_drewN ?_ _ | refine blk_drew ?_ | refine blk_alloc ?_ _)); refine blk_put (cs := #[.string (⟨#[]⟩ : ByteArray),.int .i64 0,.string (⟨#[]⟩ : ByteArray)]) ?_ 0 _ rfl; (with_reducible repeat (first | refine blk_drewN ?_ _ | refine blk_drew ?_ | refine blk_alloc ?_ _)); exact BK345.out⟩
           have n3_ : Aside0 (Below w.heap.size w (((w62.setCell ⟨gb345,0,none⟩ (.string ((rd_T32 l0_0 x20_2).f0))).setCell ⟨gb345,1,none⟩ (.int .i64 ((rd_T32 l0_0 x20_2).f1))).setCell ⟨gb345,2,none⟩ (.string ((rd_T32 l0_0 x20_2).f2)))) := ⟨bA⟩
           (try clear BK341)
           (try clear BK343)
           (try clear BK345)
           (try clear HB)
           generalize (((w62.setCell ⟨gb345,0,none⟩ (.string ((rd_T32 l0_0 x20_2).f0))).setCell ⟨gb345,1,none⟩ (.int .i64 ((rd_T32 l0_0 x20_2).f1))).setCell ⟨gb345,2,none⟩ (.string ((rd_T32 l0_0 x20_2).f2))) = w66 at n0_ n1_ n2_ n3_ ⊢
           have BK341 := n0_
           have BK343 := n1_
           have BK345 := n2_
           have HB := n3_
           clear n0_ n1_ n2_ n3_
           replace BK341 := Aside0.mk (blk_drew BK341.out)
           replace BK343 := Aside0.mk (blk_drew BK343.out)
           replace BK345 := Aside0.mk (blk_drew BK345.out)
           replace HB := Aside0.mk (below_drew1 HB.out)
           refine start_ (n:=41) (S:=fun w' => w'.cell? ⟨gb345,0,none⟩ = some (.string ((rd_T32 l0_0 x20_2).f0)) ∧ w'.cell? ⟨gb345,1,none⟩ = some (.int .i64 ((rd_T32 l0_0 x20_2).f1)) ∧ w'.cell? ⟨gb345,2,none⟩ = some (.string ((rd_T32 l0_0 x20_2).f2)) ∧ w'.cell? ⟨gb341,0,none⟩ = some (.slice (some ad344) l0_0.length c0_0) ∧ w'.cell? ⟨gb341,1,none⟩ = some (.int .i64 a0_1)) (ds := []) (bm 41 0) (by kernel_rfl) rfl rfl ⟨bl BK345 0,bl BK345 1,bl BK345 2,bl BK341 0,bl BK341 1⟩ (fun hHeld => ?_); refine with_tabW impl_StoreOK.tab7 impl_StoreOK.bits7 (fun HT_ HW_ => ?_)
           generalize w66.drew = w67 at BK341 BK343 BK345 HB hHeld ⊢
           refine pV_ 0 25 (bm 41 1) HT_.out ?_
           refine tk 1 26 (bm 41 3) HT_.out HW_.out hHeld ?_
           refine one_ (i:=2) (N:=some 27) (bm 41 7) rfl rfl (one_of HT_.out (by kernel_rfl)) (by decide) (fun K hK => ?_)
           refine goes_ Try.func18 (by kernel_rfl) rfl #[.string ((rd_T32 l0_0 x20_2).f0)] (by rfl) rfl rfl mA ?_
           with_reducible refine (impl_KeyOK.calls k2 ((rd_T32 l0_0 x20_2).f0) true _ A15.out).mono ?_
           rintro e w' ⟨rfl,⟨nd,rfl⟩⟩
           refine ⟨_,rfl,?_⟩
           refine hK.out _ _ ⟨bl BK345 0,bl BK345 1,bl BK345 2,bl BK341 0,bl BK341 1⟩ (fun hHeld => ?_)
           clear hK K
           refine nw 27 ?_
           refine pV_ 3 28 (bm 41 15) HT_.out ?_
           refine pV_ 4 29 (bm 41 31) HT_.out ?_
           refine pV_ 5 30 (bm 41 63) HT_.out ?_
           refine pV_ 7 32 (bm 41 191) HT_.out ?_
           refine tk 6 31 (bm 41 255) HT_.out HW_.out hHeld ?_
           refine tk 8 33 (bm 41 511) HT_.out HW_.out hHeld ?_
           refine pV_ 9 34 (bm 41 1023) HT_.out ?_
           refine one_ (i:=10) (N:=some 35) (bm 41 2047) rfl rfl (one_of HT_.out (by kernel_rfl)) (by decide) (fun K hK => ?_)
           refine goes_ Try.func25 (by kernel_rfl) rfl #[.int .i64 ((rd_T32 l0_0 x20_2).f1),.int .i64 1,.int .i64 (wrap64 (a0_1 - 1))] (by rfl) rfl rfl mA ?_
           with_reducible refine (impl_within.calls ((rd_T32 l0_0 x20_2).f1) 1 (wrap64 (a0_1 - 1)) false _ A17.out).mono ?_
           rintro e w' ⟨rfl,⟨nd,rfl⟩⟩
           refine ⟨_,rfl,?_⟩
           refine hK.out _ _ ⟨bl BK345 0,bl BK345 1,bl BK345 2,bl BK341 0,bl BK341 1⟩ (fun hHeld => ?_)
           clear hK K
           refine nw 35 ?_
           refine pV_ 11 36 (bm 41 4095) HT_.out ?_
           refine pV_ 12 37 (bm 41 8191) HT_.out ?_
           refine pV_ 13 38 (bm 41 16383) HT_.out ?_
           refine pU_ 14 39 (bm 41 32767) HT_.out ?_
           refine pU_ 15 40 (bm 41 65535) HT_.out ?_
           refine pU_ 16 41 (bm 41 131071) HT_.out ?_
           refine pU_ 17 42 (bm 41 262143) HT_.out ?_
           refine pV_ 18 43 (bm 41 524287) HT_.out ?_
           refine pV_ 19 44 (bm 41 1048575) HT_.out ?_
           refine pU_ 20 45 (bm 41 2097151) HT_.out ?_
           refine pU_ 21 46 (bm 41 4194303) HT_.out ?_
           refine pU_ 22 47 (bm 41 8388607) HT_.out ?_
           refine pU_ 23 48 (bm 41 16777215) HT_.out ?_
           refine pV_ 24 49 (bm 41 33554431) HT_.out ?_
           refine pV_ 25 50 (bm 41 67108863) HT_.out ?_
           refine pU_ 26 51 (bm 41 134217727) HT_.out ?_
           refine pU_ 27 52 (bm 41 268435455) HT_.out ?_
           refine pU_ 28 53 (bm 41 536870911) HT_.out ?_
           refine pU_ 29 54 (bm 41 1073741823) HT_.out ?_
           refine pU_ 30 55 (bm 41 2147483647) HT_.out ?_
           refine pU_ 31 56 (bm 41 4294967295) HT_.out ?_
           refine pU_ 32 57 (bm 41 8589934591) HT_.out ?_
           refine pU_ 33 58 (bm 41 17179869183) HT_.out ?_
           refine pU_ 34 59 (bm 41 34359738367) HT_.out ?_
           refine pU_ 35 60 (bm 41 68719476735) HT_.out ?_
           refine pU_ 36 61 (bm 41 137438953471) HT_.out ?_
           refine pU_ 37 62 (bm 41 274877906943) HT_.out ?_
           refine pU_ 38 63 (bm 41 549755813887) HT_.out ?_
           refine pU_ 39 64 (bm 41 1099511627775) HT_.out ?_
           refine pV_ 40 65 (bm 41 2199023255551) HT_.out ?_
           refine done_ (done_of HT_.out (by kernel_rfl)) ?_
           try go_wp2
           go_ret
           exact ⟨by first | rfl | (simp only [i64_w,i32_w] <;> rfl) | (simp [errW_none,errW_some] <;> rfl) | (simp [*,errW_none,errW_some] <;> rfl),bA⟩
         ·replace c16 := Bool.eq_false_iff.mpr c16
          subst c16
          rw [if_neg (show ¬ (false = true) by decide)] at H
          obtain rfl := Option.some.inj H
          have p344 : 0 ≤ (x20_2 : Int) := od
          have q344 : x20_2 < (l0_0.length : Int) := od
          obtain ⟨ad344,e344,hx344_0,hx344_1,hx344_2⟩ := at_T32 HR0_0.out x20_2 p344 q344
          cases e344
          replace hx344_0 := cb HB.out hx344_0
          replace hx344_1 := cb HB.out hx344_1
          replace hx344_2 := cb HB.out hx344_2
          replace p344 := eq_true p344
          replace q344 := eq_true q344
          try go_wp2_with (first | ((with_reducible refine gate_dst (N:=5) rfl ?_); (try (refine gate_guard (by rfl) ?_; dsimp only)); refine bxe (N:=5) (cs := #[.string (⟨#[]⟩ : ByteArray),.int .i64 0,.string (⟨#[]⟩ : ByteArray)]) (t:=32) ?_; intro gb345 hg w68 hbox hb; have BK345 := Aside0.mk (hbox); have GW345 := Aside0.mk ((gw hg : w.heap.size ≤ gb345)); have GE345 := GW345; replace HB := bsA hb; have NB341_345 := Aside0.mk ((nl hg BK341.out)); have NB345_341 := Aside0.mk ((ng hg BK341.out)); replace BK341 := bbA BK341 hb; have NB343_345 := Aside0.mk ((by rw [hg]; exact Nat.ne_of_lt (blk_lt (g:=gb343) (o:=om_) (kA BK343.out)) : gb343 ≠ gb345)); have NB345_343 := Aside0.mk ((by rw [hg]; exact Nat.ne_of_gt (blk_lt (g:=gb343) (o:=om_) (kA BK343.out)) : gb345 ≠ gb343)); replace BK343 := Aside0.mk (blk_below (g:=gb343) (o:=om_) (kA BK343.out) hb); clear hb hbox hg; have hnb69 := NB345_341.out; have hnc69 := NB341_345.out; have hnb70 := NB345_343.out; have hnc70 := NB343_345.out; obtain ⟨hcz71_0,hcz71_1,hcz71_2⟩ := cl3 BK345.out; obtain ⟨hfz71_0,hfz71_1,hfz71_2⟩ := fz3 BK345.out))
          have n0_ : Aside0 ((((w68.setCell ⟨gb345,0,none⟩ (.string ((rd_T32 l0_0 x20_2).f0))).setCell ⟨gb345,1,none⟩ (.int .i64 ((rd_T32 l0_0 x20_2).f1))).setCell ⟨gb345,2,none⟩ (.string ((rd_T32 l0_0 x20_2).f2))).heap[gb341]? = some (.cells #[.slice (some ad344) l0_0.length c0_0,.int .i64 a0_1] 25 (0,0))) := ⟨kF BK341.out⟩
          have n1_ : Aside0 ((((w68.setCell ⟨gb345,0,none⟩ (.string ((rd_T32 l0_0 x20_2).f0))).setCell ⟨gb345,1,none⟩ (.int .i64 ((rd_T32 l0_0 x20_2).f1))).setCell ⟨gb345,2,none⟩ (.string ((rd_T32 l0_0 x20_2).f2))).heap[gb343]? = some om_) := ⟨by (with_reducible repeat (first | refine blk_drewN ?_ _ | refine blk_drew ?_ | refine blk_alloc ?_ _)); refine mblk_far ?_ NB343_345.out _; (with_reducible repeat (first | refine blk_drewN ?_ _ | refine blk_drew ?_ | refine blk_alloc ?_ _)); refine mblk_far ?_ NB343_345.out _; (with_reducible repeat (first | refine blk_drewN ?_ _ | refine blk_drew ?_ | refine blk_alloc ?_ _)); refine mblk_far ?_ NB343_345.out _; (with_reducible repeat (first | refine blk_drewN ?_ _ | refine blk_drew ?_ | refine blk_alloc ?_ _)); exact BK343.out⟩
          have n2_ : Aside0 ((((w68.setCell ⟨gb345,0,none⟩ (.string ((rd_T32 l0_0 x20_2).f0))).setCell ⟨gb345,1,none⟩ (.int .i64 ((rd_T32 l0_0 x20_2).f1))).setCell ⟨gb345,2,none⟩ (.string ((rd_T32 l0_0 x20_2).f2))).heap[gb345]? = some (.cells #[.string ((rd_T32 l0_0 x20_2).f0),.int .i64 ((rd_T32 l0_0 x20_2).f1),.string ((rd_T32 l0_0 x20_2).f2)] 32 (0,0))) := ⟨by (with_reducible repeat (first | refine blk_drewN ?_ _ | refine blk_drew ?_ | refine blk_alloc ?_ _)); refine blk_put (cs := #[.string ((rd_T32 l0_0 x20_2).f0),.int .i64 ((rd_T32 l0_0 x20_2).f1),.string (⟨#[]⟩ : ByteArray)]) ?_ 2 _ rfl; (with_reducible repeat (first | refine blk_drewN ?_ _ | refine blk_drew ?_ | refine blk_alloc ?_ _)); refine blk_put (cs := #[.string ((rd_T32 l0_0 x20_2).f0),.int .i64 0,.string (⟨#[]⟩ : ByteArray)]) ?_ 1 _ rfl; (with_reducible repeat (first | refine blk_drewN ?_ _ | refine blk_drew ?_ | refine blk_alloc ?_ _)); refine blk_put (cs := #[.string (⟨#[]⟩ : ByteArray),.int .i64 0,.string (⟨#[]⟩ : ByteArray)]) ?_ 0 _ rfl; (with_reducible repeat (first | refine blk_drewN ?_ _ | refine blk_drew ?_ | refine blk_alloc ?_ _)); exact BK345.out⟩
          have n3_ : Aside0 (Below w.heap.size w (((w68.setCell ⟨gb345,0,none⟩ (.string ((rd_T32 l0_0 x20_2).f0))).setCell ⟨gb345,1,none⟩ (.int .i64 ((rd_T32 l0_0 x20_2).f1))).setCell ⟨gb345,2,none⟩ (.string ((rd_T32 l0_0 x20_2).f2)))) := ⟨bA⟩
          (try clear BK341)
          (try clear BK343)
          (try clear BK345)
          (try clear HB)
          generalize (((w68.setCell ⟨gb345,0,none⟩ (.string ((rd_T32 l0_0 x20_2).f0))).setCell ⟨gb345,1,none⟩ (.int .i64 ((rd_T32 l0_0 x20_2).f1))).setCell ⟨gb345,2,none⟩ (.string ((rd_T32 l0_0 x20_2).f2))) = w72 at n0_ n1_ n2_ n3_ ⊢
          have BK341 := n0_
          have BK343 := n1_
          have BK345 := n2_
          have HB := n3_
          clear n0_ n1_ n2_ n3_
          replace BK341 := Aside0.mk (blk_drew BK341.out)
          replace BK343 := Aside0.mk (blk_drew BK343.out)
          replace BK345 := Aside0.mk (blk_drew BK345.out)
          replace HB := Aside0.mk (below_drew1 HB.out)
          refine start_ (n:=41) (S:=fun w' => w'.cell? ⟨gb345,0,none⟩ = some (.string ((rd_T32 l0_0 x20_2).f0)) ∧ w'.cell? ⟨gb345,1,none⟩ = some (.int .i64 ((rd_T32 l0_0 x20_2).f1)) ∧ w'.cell? ⟨gb345,2,none⟩ = some (.string ((rd_T32 l0_0 x20_2).f2))) (ds := []) (bm 41 0) (by kernel_rfl) rfl rfl ⟨bl BK345 0,bl BK345 1,bl BK345 2⟩ (fun hHeld => ?_); refine with_tabW impl_StoreOK.tab7 impl_StoreOK.bits7 (fun HT_ HW_ => ?_)
          generalize w72.drew = w73 at BK341 BK343 BK345 HB hHeld ⊢
          refine pV_ 0 25 (bm 41 1) HT_.out ?_
          refine tk 1 26 (bm 41 3) HT_.out HW_.out hHeld ?_
          refine one_ (i:=2) (N:=some 27) (bm 41 7) rfl rfl (one_of HT_.out (by kernel_rfl)) (by decide) (fun K hK => ?_)
          refine goes_ Try.func18 (by kernel_rfl) rfl #[.string ((rd_T32 l0_0 x20_2).f0)] (by rfl) rfl rfl mA ?_
          with_reducible refine (impl_KeyOK.calls k2 ((rd_T32 l0_0 x20_2).f0) false _ A15.out).mono ?_
          rintro e w' ⟨rfl,⟨nd,rfl⟩⟩
          refine ⟨_,rfl,?_⟩
          refine hK.out _ _ ⟨bl BK345 0,bl BK345 1,bl BK345 2⟩ (fun hHeld => ?_)
          clear hK K
          refine nw 27 ?_
          refine pV_ 3 28 (bm 41 15) HT_.out ?_
          refine pV_ 4 29 (bm 41 31) HT_.out ?_
          refine pU_ 5 30 (bm 41 63) HT_.out ?_
          refine pU_ 6 31 (bm 41 127) HT_.out ?_
          refine pU_ 7 32 (bm 41 255) HT_.out ?_
          refine pU_ 8 33 (bm 41 511) HT_.out ?_
          refine pU_ 9 34 (bm 41 1023) HT_.out ?_
          refine pU_ 10 35 (bm 41 2047) HT_.out ?_
          refine pU_ 11 36 (bm 41 4095) HT_.out ?_
          refine pV_ 12 37 (bm 41 8191) HT_.out ?_
          refine pV_ 13 38 (bm 41 16383) HT_.out ?_
          refine pU_ 14 39 (bm 41 32767) HT_.out ?_
          refine pU_ 15 40 (bm 41 65535) HT_.out ?_
          refine pU_ 16 41 (bm 41 131071) HT_.out ?_
          refine pU_ 17 42 (bm 41 262143) HT_.out ?_
          refine pV_ 18 43 (bm 41 524287) HT_.out ?_
          refine pV_ 19 44 (bm 41 1048575) HT_.out ?_
          refine pU_ 20 45 (bm 41 2097151) HT_.out ?_
          refine pU_ 21 46 (bm 41 4194303) HT_.out ?_
          refine pU_ 22 47 (bm 41 8388607) HT_.out ?_
          refine pU_ 23 48 (bm 41 16777215) HT_.out ?_
          refine pV_ 24 49 (bm 41 33554431) HT_.out ?_
          refine pV_ 25 50 (bm 41 67108863) HT_.out ?_
          refine pU_ 26 51 (bm 41 134217727) HT_.out ?_
          refine pU_ 27 52 (bm 41 268435455) HT_.out ?_
          refine pU_ 28 53 (bm 41 536870911) HT_.out ?_
          refine pU_ 29 54 (bm 41 1073741823) HT_.out ?_
          refine pU_ 30 55 (bm 41 2147483647) HT_.out ?_
          refine pU_ 31 56 (bm 41 4294967295) HT_.out ?_
          refine pU_ 32 57 (bm 41 8589934591) HT_.out ?_
          refine pU_ 33 58 (bm 41 17179869183) HT_.out ?_
          refine pU_ 34 59 (bm 41 34359738367) HT_.out ?_
          refine pU_ 35 60 (bm 41 68719476735) HT_.out ?_
          refine pU_ 36 61 (bm 41 137438953471) HT_.out ?_
          refine pU_ 37 62 (bm 41 274877906943) HT_.out ?_
          refine pU_ 38 63 (bm 41 549755813887) HT_.out ?_
          refine pU_ 39 64 (bm 41 1099511627775) HT_.out ?_
          refine pV_ 40 65 (bm 41 2199023255551) HT_.out ?_
          refine done_ (done_of HT_.out (by kernel_rfl)) ?_
          try go_wp2
          go_ret
          exact ⟨by first | rfl | (simp only [i64_w,i32_w] <;> rfl) | (simp [errW_none,errW_some] <;> rfl) | (simp [*,errW_none,errW_some] <;> rfl),bA⟩
        ·rw [if_neg c14] at H
         exact absurd H (by simp)
       ·rw [if_neg c13] at H
        exact absurd H (by simp)
      ·rw [if_neg c12] at H
       have c12b0 : decide (x20_2 < (l0_0.length : Int)) = false := decide_eq_false c12
       clear c12
       obtain rfl := Option.some.inj H
       go_wp2
       go_ret
       exact ⟨by first | rfl | (simp only [i64_w,i32_w] <;> rfl) | (simp [errW_none,errW_some] <;> rfl) | (simp [*,errW_none,errW_some] <;> rfl),bA⟩

end Go.Proofs.Ytgkfemnfbkgeiaa.XFnStore
