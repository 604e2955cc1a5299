-- Printed by this session's own program wip/tools/xprint.py, which widens the kit's print. Not trusted: Lean checks it.
import Derived.Test.YtfondhlknkhmmaaGreatDoorXFnExactOrphansOfx0
import Derived.Test.YtfondhlknkhmmaaGreatDoorXFnExactOrphansOfx7
import Derived.Test.YtfondhlknkhmmaaGreatDoorXFnExactOrphansOfx8
namespace Go.Proofs.YtfondhlknkhmmaaGreatDoor.XFnExactOrphansOf
open List (setIfInBounds_toArray set_cons_zero set_cons_succ)
open Go.RowKit Go.Proofs.YtfondhlknkhmmaaGreatDoorW.PrintWords Go.Proofs.YtfondhlknkhmmaaGreatDoorW.PrintLast Go.Proofs.YtfondhlknkhmmaaGreatDoorW.PrintMore
attribute [local go_sem] max2_int min2_int max_two min_two max_three min_three max_four min_four   -- for this text's walks alone
set_option linter.unusedVariables false
set_option linter.unusedSimpArgs false

/-! ### impl_StateOK: function 24 -/
/-- The keys of a map behind one that is put. -/
def memK (s : ByteArray) (l : List ByteArray) : Bool := l.any fun y => y.data.toList == s.data.toList
def insK (s : ByteArray) (l : List ByteArray) : List ByteArray := if memK s l = true then l else s :: l
/-- An object that is a map whose keys are just the texts of l, each once. -/
def MapS (P : Program) (k e : TypeId) (o : Obj) (l : List ByteArray) : Prop :=
 ∃ es clock,∃ D : DataW Unit,o = .map es clock ∧ Go.WideElems.Fit P k (plainElem (H:=Unit) P e) es clock ∧ es.size ≤ l.length ∧ D = .map ((es.toList.map (Go.WideElems.rg P k (plainElem (H:=Unit) P e))).foldr DataW.insert []) ∧ Maps.Tidy D ∧ Maps.size D = l.length ∧ ∀ s : ByteArray,Maps.has D (.string s.data.toList) = memK s l
theorem MapS.world {P : Program} {k e : TypeId} {o : Obj} {l : List ByteArray} (h : MapS P k e o l) {w : World} {b : Nat} (hb : w.heap[b]? = some o) : ∃ D : DataW Unit,w.ownsMap P k (plainElem P e) b l.length D ∧ Maps.Tidy D ∧ Maps.size D = l.length ∧ ∀ s : ByteArray,Maps.has D (.string s.data.toList) = memK s l := by
 obtain ⟨es,clock,D,rfl,hF,hs,hD,hm,hz,ha⟩ := h
 exact ⟨D,⟨es,clock,hb,hF,hs,hD⟩,hm,hz,ha⟩
theorem MapS.made (P : Program) (k e : TypeId) : MapS P k e (.map #[] 0) [] := by
 obtain ⟨es,clock,hb,hF,hs,hD⟩ := World.ownsMap_made (H:=Unit) ⟨#[],default,default,default,default⟩ P k (plainElem P e)
 exact ⟨#[],0,.map [],rfl,⟨by simp,MapKept.stamped_empty 0,by simp⟩,Nat.le_refl _,rfl,Maps.tidy_empty,rfl,fun n => rfl⟩
/-- 'len(m)', as the walk meets it. -/
theorem MapS.len {P : Program} {t k e : TypeId} {b : Nat} {o : Obj} {l : List ByteArray} (h : MapS P k e o l) (ht : P.underlying t = some (.map k e)) (ty : TypeId) {w : World} (hb : w.heap[b]? = some o) : (Builtin.len_ #[t] ty #[.map (some b)]).run P w = .ok (.int .i64 l.length) w := by
 obtain ⟨D,h,hm,hz,ha⟩ := h.world hb
 rw [h.len ht ty,hz]
theorem keyOf_str {P : Program} {k : TypeId} (hk : P.underlying k = some .string) (s : ByteArray) (hs : s.size ≤ maxLen) : keyOf P k (.string s) = some (.string s.data.toList) := by
 simp [keyOf,hk,mapKey,hs]
section
variable {P : Program} {ops : Array Oper} {rest : List Oper} {o : Oper} {a : Act} {Q : Exit → Act → World → Prop}
theorem map_event {W : World} (hgd : o.guard = none) {N : Tmp} (_hd : o.dst = some N)
  (hrun : (execOp a.eval o).run P W = .ok (.value (.map (some W.heap.size))) (W.alloc (.map #[] 0)))
  (h : ∀ g,g = W.heap.size → ∀ w1,w1.heap[g]? = some (.map #[] 0) → Below W.heap.size W w1 → wpList P ops Q rest (a.put o.dst (.map (some g))) w1) : wpList P ops Q (o :: rest) a W :=
 Kd.event_run hgd hrun (h _ rfl _ (blk_new W _) (below_alloc (Below.refl _ _) _))
/-- 'm[s] = true'. -/
theorem mapput_event {W : World} (hgd : o.guard = none) {m x v : Operand} {t k e : TypeId} (hop : o.op = Op.mapUpdate t m x v) {b : Nat} {om : Obj} {l : List ByteArray} {s : ByteArray} (ht : P.underlying t = some (.map k e)) (hk : P.underlying k = some .string) (he : P.underlying e = some .bool)
  (hm : a.eval m = .map (some b)) (hx : a.eval x = .string s) (hv : a.eval v = .bool true) (hb : W.heap[b]? = some om) (hM : MapS P k e om l) (hs : s.size ≤ maxLen) (hl : l.length < maxLen)
  (h : ∀ w' om',w'.heap[b]? = some om' → MapS P k e om' (insK s l) → W.grownBy w' (some b) → wpList P ops Q rest (a.put o.dst undef) w') : wpList P ops Q (o :: rest) a W := by
 obtain ⟨D,hown,hmp,hz,ha⟩ := hM.world hb
 refine wpList_mapUpdate_own (H:=Unit) W hgd m x v t hop k e (Maps.string_keyed hk) ht _ b l.length D hm hown hl _ _ _ hx hv (keyOf_str hk s hs) _ _ (plainElem_bool he true) ?_
 intro w' ho hg
 have hkl : WideAt.IsKeyLit (.string s.data.toList) := trivial
 have hz' : Maps.size (D.put (.string s.data.toList) (.lit (.bool true))) = (insK s l).length := by
  rw [Maps.size_put hmp,ha s,hz]
  unfold insK
  cases hc : memK s l <;> simp
 have hlen : ∀ {es : Array MapEntry},Maps.size (DataW.map ((es.toList.map (Go.WideElems.rg P k (plainElem (H:=Unit) P e))).foldr DataW.insert [])) = es.size := by
  intro es
  simp [Maps.size,length_sorted]
 obtain ⟨es,clock,hb',hF,_,hD⟩ := ho
 have hsz : es.size = (insK s l).length := by rw [← hz',hD,hlen]
 refine h w' _ hb' ⟨es,clock,_,rfl,hF,Nat.le_of_eq hsz,hD,hmp.put hkl _,hz',fun y => ?_⟩ hg
 by_cases hy : y.data.toList = s.data.toList
 ·rw [hy,Maps.has_put_same hmp.isMap hkl]
  unfold insK
  cases hc : memK s l
  ·simp [memK,hy]
  ·rw [if_pos rfl]
   unfold memK at hc ⊢
   rw [hy,hc]
 ·rw [Maps.has_put_other (fun he_ => hy (by injection he_)),ha y]
  unfold insK
  cases hc : memK s l
  ·have : (s.data.toList == y.data.toList) = false := by rw [beq_eq_false_iff_ne]; exact fun h_ => hy h_.symm
   show memK y l = memK y (s :: l)
   unfold memK
   rw [List.any_cons,this,Bool.false_or]
  ·rfl
end
theorem mblk_far {w : World} {g : Nat} {o : Obj} (h : w.heap[g]? = some o) {p : Addr} (hp : g ≠ p.block) (u : Value) : (w.setCell p u).heap[g]? = some o := (Below.heap_setCell w p u g hp).trans h
mutual
def impl_StateOK.j0 : Nat → Bool → Int → Int → List (S64) → List (S71) → Int → Int → Int → Int → Int → Int → Option (Bool)
 | 0,_,_,_,_,_,_,_,_,_,_,_ => none
 | k + 1,x41,x306000,x306001,x306002,x306003,x306004,x306005,x306006,x306007,x306008,x306009 => if x41 = true then (some false) else (impl_StateOK.l0 k x306002 (x306002.length : Int) 0 x306000 x306001 x306002 x306003 x306004 x306005 x306006 x306007 x306008 x306009 [])
def impl_StateOK.l0 : Nat → List (S64) → Int → Int → Int → Int → List (S64) → List (S71) → Int → Int → Int → Int → Int → Int → List ByteArray → Option (Bool)
 | 0,_,_,_,_,_,_,_,_,_,_,_,_,_,_ => none
 | k + 1,x44,x45,x46,x306000,x306001,x306002,x306003,x306004,x306005,x306006,x306007,x306008,x306009,x310000 => if x46 < x45 then (if 0 ≤ x46 then (if x46 < (x44.length : Int) then (if x310000.length < 100000 ∧ (((rd_T64 x44 x46).f3)).size ≤ 140737488351232 then (impl_StateOK.l0 k x44 x45 (wrap64 (x46 + 1)) x306000 x306001 x306002 x306003 x306004 x306005 x306006 x306007 x306008 x306009 (insK ((rd_T64 x44 x46).f3) x310000)) else (none)) else (none)) else (none)) else (impl_StateOK.l1 k x306003 (x306003.length : Int) 0 x306000 x306001 x306002 x306003 x306004 x306005 x306006 x306007 x306008 x306009 x310000)
def impl_StateOK.l1 : Nat → List (S71) → Int → Int → Int → Int → List (S64) → List (S71) → Int → Int → Int → Int → Int → Int → List ByteArray → Option (Bool)
 | 0,_,_,_,_,_,_,_,_,_,_,_,_,_,_ => none
 | k + 1,x55,x56,x57,x306000,x306001,x306002,x306003,x306004,x306005,x306006,x306007,x306008,x306009,x310000 => if x57 < x56 then (if 0 ≤ x57 then (if x57 < (x55.length : Int) then ((impl_readDataKey.f k ((rd_T71 x55 x57).f1)).bind fun bt314 => (if bt314.2.2.2 = true then ((impl_within.f ((rd_T71 x55 x57).f0) 1 x306000).bind fun t318 => (if t318 = true then (if x310000.length < 100000 ∧ (((rd_T71 x55 x57).f1)).size ≤ 140737488351232 then (impl_StateOK.l1 k x55 x56 (wrap64 (x57 + 1)) x306000 x306001 x306002 x306003 x306004 x306005 x306006 x306007 x306008 x306009 (insK ((rd_T71 x55 x57).f1) x310000)) else (none)) else (some false))) else (some false))) else (none)) else (none)) else (if (x310000.length : Int) = (wrap64 ((x306002.length : Int) + (x306003.length : Int))) then (impl_StateOK.l2 k 0 x306000 x306001 x306002 x306003 x306004 x306005 x306006 x306007 x306008 x306009) else (some false))
def impl_StateOK.l2 : Nat → Int → Int → Int → List (S64) → List (S71) → Int → Int → Int → Int → Int → Int → Option (Bool)
 | 0,_,_,_,_,_,_,_,_,_,_,_ => none
 | k + 1,x93,x306000,x306001,x306002,x306003,x306004,x306005,x306006,x306007,x306008,x306009 => if x93 < 3 then (if 0 ≤ x93 then ((impl_within.f (at3 x93 x306004 x306005 x306006) 0 100000).bind fun t319 => (if t319 = true then ((impl_State_of.f k x306000 x306001 x306002 x306003 x306004 x306005 x306006 x306007 x306008 x306009 x93).bind fun t320 => (impl_StateOK.l3 k x93 (at3 x93 x306004 x306005 x306006) x93 t320 (t320.length : Int) 0 x306000 x306001 x306002 x306003 x306004 x306005 x306006 x306007 x306008 x306009)) else (some false))) else (none)) else (some true)
def impl_StateOK.l3 : Nat → Int → Int → Int → List (S64) → Int → Int → Int → Int → List (S64) → List (S71) → Int → Int → Int → Int → Int → Int → Option (Bool)
 | 0,_,_,_,_,_,_,_,_,_,_,_,_,_,_,_,_ => none
 | k + 1,x12,x13,x93,x105,x106,x107,x306000,x306001,x306002,x306003,x306004,x306005,x306006,x306007,x306008,x306009 => if x107 < x106 then (if 0 ≤ x107 then (if x107 < (x105.length : Int) then (if ((rd_T64 x105 x107).f1) = x13 then (impl_StateOK.l3 k x12 ((rd_T64 x105 x107).f2) x93 x105 x106 (wrap64 (x107 + 1)) x306000 x306001 x306002 x306003 x306004 x306005 x306006 x306007 x306008 x306009) else (some false)) else (none)) else (none)) else (if 0 ≤ x12 then (if x12 < 3 then (if x13 = (at3 x12 x306007 x306008 x306009) then (impl_StateOK.l2 k (wrap64 (x93 + 1)) x306000 x306001 x306002 x306003 x306004 x306005 x306006 x306007 x306008 x306009) else (some false)) else (none)) else (none))
end
def impl_StateOK.f (k : Nat) (a0_0 : Int) (a0_1 : Int) (l0_2 : List (S64)) (l0_3 : List (S71)) (a0_4 : Int) (a0_5 : Int) (a0_6 : Int) (a0_7 : Int) (a0_8 : Int) (a0_9 : Int) : Option (Bool) := (impl_isSix.f a0_0).bind fun t306 => (if t306 = true then ((impl_within.f a0_1 0 999999).bind fun t307 => (if t307 = true then (if (wrap64 ((l0_2.length : Int) + (l0_3.length : Int))) > 4096 then (impl_StateOK.j0 k true a0_0 a0_1 l0_2 l0_3 a0_4 a0_5 a0_6 a0_7 a0_8 a0_9) else ((impl_Entry.f k l0_2).bind fun t308 => (impl_StateOK.j0 k (!t308) a0_0 a0_1 l0_2 l0_3 a0_4 a0_5 a0_6 a0_7 a0_8 a0_9))) else (impl_StateOK.j0 k true a0_0 a0_1 l0_2 l0_3 a0_4 a0_5 a0_6 a0_7 a0_8 a0_9))) else (impl_StateOK.j0 k true a0_0 a0_1 l0_2 l0_3 a0_4 a0_5 a0_6 a0_7 a0_8 a0_9))
theorem impl_StateOK.mono_l : ∀ k,(∀ y0 y1 y2 y3 y4 y5 y6 y7 y8 y9 y10,LeO (impl_StateOK.j0 k y0 y1 y2 y3 y4 y5 y6 y7 y8 y9 y10) (impl_StateOK.j0 (k + 1) y0 y1 y2 y3 y4 y5 y6 y7 y8 y9 y10)) ∧ (∀ y0 y1 y2 y3 y4 y5 y6 y7 y8 y9 y10 y11 y12 y13,LeO (impl_StateOK.l0 k y0 y1 y2 y3 y4 y5 y6 y7 y8 y9 y10 y11 y12 y13) (impl_StateOK.l0 (k + 1) y0 y1 y2 y3 y4 y5 y6 y7 y8 y9 y10 y11 y12 y13)) ∧ (∀ y0 y1 y2 y3 y4 y5 y6 y7 y8 y9 y10 y11 y12 y13,LeO (impl_StateOK.l1 k y0 y1 y2 y3 y4 y5 y6 y7 y8 y9 y10 y11 y12 y13) (impl_StateOK.l1 (k + 1) y0 y1 y2 y3 y4 y5 y6 y7 y8 y9 y10 y11 y12 y13)) ∧ (∀ y0 y1 y2 y3 y4 y5 y6 y7 y8 y9 y10,LeO (impl_StateOK.l2 k y0 y1 y2 y3 y4 y5 y6 y7 y8 y9 y10) (impl_StateOK.l2 (k + 1) y0 y1 y2 y3 y4 y5 y6 y7 y8 y9 y10)) ∧ (∀ y0 y1 y2 y3 y4 y5 y6 y7 y8 y9 y10 y11 y12 y13 y14 y15,LeO (impl_StateOK.l3 k y0 y1 y2 y3 y4 y5 y6 y7 y8 y9 y10 y11 y12 y13 y14 y15) (impl_StateOK.l3 (k + 1) y0 y1 y2 y3 y4 y5 y6 y7 y8 y9 y10 y11 y12 y13 y14 y15))
 | 0 => ⟨fun _ _ _ _ _ _ _ _ _ _ _ r h => by simp [impl_StateOK.j0] at h,fun _ _ _ _ _ _ _ _ _ _ _ _ _ _ r h => by simp [impl_StateOK.l0] at h,fun _ _ _ _ _ _ _ _ _ _ _ _ _ _ r h => by simp [impl_StateOK.l1] at h,fun _ _ _ _ _ _ _ _ _ _ _ r h => by simp [impl_StateOK.l2] at h,fun _ _ _ _ _ _ _ _ _ _ _ _ _ _ _ _ r h => by simp [impl_StateOK.l3] at h⟩
 | k + 1 => by
  obtain ⟨ih0,ih1,ih2,ih3,ih4⟩ := impl_StateOK.mono_l k
  refine ⟨?_,?_,?_,?_,?_⟩
  all_goals
   intros
   first | unfold impl_StateOK.j0 | unfold impl_StateOK.l0 | unfold impl_StateOK.l1 | unfold impl_StateOK.l2 | unfold impl_StateOK.l3
   repeat' first
   | (with_reducible first | exact ih0 .. | exact ih1 .. | exact ih2 .. | exact ih3 .. | exact ih4 .. | exact impl_Entry.mono .. | exact impl_State_of.mono .. | exact impl_readDataKey.mono .. | exact LeO.refl _ | exact LeO.none _ | refine LeO.ite ?_ ?_ | refine LeO.bind ?_ (fun _ => ?_))
   | exact LeO.none _ | refine LeO.ite ?_ ?_ | refine LeO.bind ?_ (fun _ => ?_)
theorem impl_StateOK.mono : ∀ a0 a1 a2 a3 a4 a5 a6 a7 a8 a9 k,LeO (impl_StateOK.f k a0 a1 a2 a3 a4 a5 a6 a7 a8 a9) (impl_StateOK.f (k + 1) a0 a1 a2 a3 a4 a5 a6 a7 a8 a9) := by
 intro a0 a1 a2 a3 a4 a5 a6 a7 a8 a9 k
 obtain ⟨ih0,ih1,ih2,ih3,ih4⟩ := impl_StateOK.mono_l k
 unfold impl_StateOK.f
 repeat' first
 | (with_reducible first | exact ih0 .. | exact ih1 .. | exact ih2 .. | exact ih3 .. | exact ih4 .. | exact impl_Entry.mono .. | exact impl_State_of.mono .. | exact impl_readDataKey.mono .. | exact LeO.refl _ | exact LeO.none _ | refine LeO.ite ?_ ?_ | refine LeO.bind ?_ (fun _ => ?_))
 | exact LeO.none _ | refine LeO.ite ?_ ?_ | refine LeO.bind ?_ (fun _ => ?_)
set_option maxHeartbeats 8000000 in
set_option maxRecDepth 100000 in
theorem impl_StateOK.calls (k : Nat) (a0_0 : Int) (a0_1 : Int) (A0_2 : Option Addr) (c0_2 : Nat) (l0_2 : List (S64)) (A0_3 : Option Addr) (c0_3 : Nat) (l0_3 : List (S71)) (a0_4 : Int) (a0_5 : Int) (a0_6 : Int) (a0_7 : Int) (a0_8 : Int) (a0_9 : Int) (r : Bool) (w : World) (hV : Vars w) (hr0_2 : Kd.C k64 w A0_2 l0_2.length l0_2) (hc0_2 : l0_2.length ≤ c0_2) (hr0_3 : Kd.C k71 w A0_3 l0_3.length l0_3) (hc0_3 : l0_3.length ≤ c0_3) (h : impl_StateOK.f k a0_0 a0_1 l0_2 l0_3 a0_4 a0_5 a0_6 a0_7 a0_8 a0_9 = some r) :
  Calls Tryz.prog 24 #[.agg #[.int .i64 a0_0,.int .i64 a0_1,.slice A0_2 l0_2.length c0_2,.slice A0_3 l0_3.length c0_3,.int .i64 a0_4,.int .i64 a0_5,.int .i64 a0_6,.int .i64 a0_7,.int .i64 a0_8,.int .i64 a0_9]] w fun e w' => e = .returned (.bool r) ∧ Below w.heap.size w w' := by
 have hu35 := Tryz.underlying35
 have hu64 := Tryz.underlying64
 have hu71 := Tryz.underlying71
 have HR0_2 := Aside0.mk hr0_2
 have HC0_2 := Aside0.mk hc0_2
 clear hr0_2 hc0_2
 have HR0_3 := Aside0.mk hr0_3
 have HC0_3 := Aside0.mk hc0_3
 clear hr0_3 hc0_3
 have HV := Aside0.mk hV
 clear hV
 have HB := Aside0.mk (Below.refl w.heap.size w)
 have H : ((impl_isSix.f a0_0).bind fun t306 => (if t306 = true then ((impl_within.f a0_1 0 999999).bind fun t307 => (if t307 = true then (if (wrap64 ((l0_2.length : Int) + (l0_3.length : Int))) > 4096 then (impl_StateOK.j0 k true a0_0 a0_1 l0_2 l0_3 a0_4 a0_5 a0_6 a0_7 a0_8 a0_9) else ((impl_Entry.f k l0_2).bind fun t308 => (impl_StateOK.j0 k (!t308) a0_0 a0_1 l0_2 l0_3 a0_4 a0_5 a0_6 a0_7 a0_8 a0_9))) else (impl_StateOK.j0 k true a0_0 a0_1 l0_2 l0_3 a0_4 a0_5 a0_6 a0_7 a0_8 a0_9))) else (impl_StateOK.j0 k true a0_0 a0_1 l0_2 l0_3 a0_4 a0_5 a0_6 a0_7 a0_8 a0_9))) = some r := h
 clear h
 have HC2 := Aside0.mk H
 clear H
 go_enter Tryz.func24,Tryz.ntmps24
 go_upto_region 1 with (first | ((with_reducible refine gate_dst (N:=1) rfl ?_); (try (refine gate_guard (by rfl) ?_; dsimp only)); refine box_event ?hg (N:=1) ?hd (cs := #[.int .i64 a0_0,.int .i64 a0_1,.slice A0_2 l0_2.length c0_2,.slice A0_3 l0_3.length c0_3,.int .i64 a0_4,.int .i64 a0_5,.int .i64 a0_6,.int .i64 a0_7,.int .i64 a0_8,.int .i64 a0_9]) (t:=35) ?hr ?_; (case hd => rfl); (case hg => rfl); (case hr => first | (go_simp; done) | (go_simp; rfl)); intro gb305 hg w3 hbox hb; have n0_ := Aside0.mk (below_step bA hb); have n1_ := Aside0.mk (hbox); have n2_ := Aside0.mk ((gw hg : w.heap.size ≤ gb305)); have n3_ := Aside0.mk ((gw hg : w.heap.size ≤ gb305)); clear HB; have HB := n0_; have BK305 := n1_; have GW305 := n2_; have GE305 := n3_; clear n0_ n1_ n2_ n3_; clear hb hbox hg))
 (try simp only [Act.put,setIfInBounds_toArray,set_cons_zero,set_cons_succ])
 go_cut [41] (fun v41 wc => ∃ (kq : Nat) (x41_1 : Bool),v41 = .bool x41_1 ∧ Aside0 (impl_StateOK.j0 kq x41_1 a0_0 a0_1 l0_2 l0_3 a0_4 a0_5 a0_6 a0_7 a0_8 a0_9 = some r) ∧ Aside0 (kq ≤ k) ∧ Aside0 (wc.heap[gb305]? = some (.cells #[.int .i64 a0_0,.int .i64 a0_1,(.slice A0_2 l0_2.length c0_2),(.slice A0_3 l0_3.length c0_3),.int .i64 a0_4,.int .i64 a0_5,.int .i64 a0_6,.int .i64 a0_7,.int .i64 a0_8,.int .i64 a0_9] 35 (0,0))) ∧ Aside0 (Below w.heap.size w wc))
 case first =>
  have H := HC2.out
  clear HC2
  replace H := Option.bind_eq_some_iff.mp H
  obtain ⟨t306,A40,H⟩ := H
  try dsimp only at H
  have A4 := Aside0.mk A40
  clear A40
  by_cases c5 : t306 = true
  ·subst c5
   rw [if_pos rfl] at H
   replace H := Option.bind_eq_some_iff.mp H
   obtain ⟨t307,A60,H⟩ := H
   try dsimp only at H
   have A6 := Aside0.mk A60
   clear A60
   by_cases c7 : t307 = true
   ·subst c7
    rw [if_pos rfl] at H
    by_cases c8 : (wrap64 ((l0_2.length : Int) + (l0_3.length : Int))) > 4096
    ·rw [if_pos c8] at H
     have c8b0 : decide (4096 < (wrap64 ((l0_2.length : Int) + (l0_3.length : Int)))) = true := decide_eq_true c8
     clear c8
     (first | rw [c8b0] | (simp only [i64_w,i32_w]; rw [c8b0]) | skip)
     have H' := Aside0.mk H
     clear H
     obtain ⟨hcz9_0,hcz9_1,hcz9_2,hcz9_3,hcz9_4,hcz9_5,hcz9_6,hcz9_7,hcz9_8,hcz9_9⟩ := cl10 BK305.out
     obtain ⟨hfz9_0,hfz9_1,hfz9_2,hfz9_3,hfz9_4,hfz9_5,hfz9_6,hfz9_7,hfz9_8,hfz9_9⟩ := fz10 BK305.out
     go_wp2_with (first | ((with_reducible refine gate_callee (f:=41) rfl ?_); refine goesL_ (some 18) rfl rfl Tryz.func41 (by kernel_rfl) rfl #[.int .i64 a0_0] rfl mA ?_; (with_reducible refine (impl_isSix.calls a0_0 true _ A4.out).mono ?_); rintro e w' ⟨rfl,⟨nd,rfl⟩⟩; refine ⟨_,rfl,?_⟩) | (go_at_call 42; (with_reducible refine (impl_within.calls a0_1 0 999999 true _ A6.out).mono ?_); rintro e w' ⟨rfl,⟨nd,rfl⟩⟩))
     go_meet
     case rel => exact ⟨_,(true),(by first | rfl | (simp; done) | (simp [*]; done)),H',⟨by first | omega | exact Nat.le_refl _⟩,⟨kA BK305.out⟩,⟨bA⟩⟩
    ·rw [if_neg c8] at H
     have c8b0 : decide (4096 < (wrap64 ((l0_2.length : Int) + (l0_3.length : Int)))) = false := decide_eq_false c8
     clear c8
     (first | rw [c8b0] | (simp only [i64_w,i32_w]; rw [c8b0]) | skip)
     replace H := Option.bind_eq_some_iff.mp H
     obtain ⟨t308,A100,H⟩ := H
     try dsimp only at H
     have A10 := Aside0.mk A100
     clear A100
     have H' := Aside0.mk H
     clear H
     obtain ⟨hcz11_0,hcz11_1,hcz11_2,hcz11_3,hcz11_4,hcz11_5,hcz11_6,hcz11_7,hcz11_8,hcz11_9⟩ := cl10 BK305.out
     obtain ⟨hfz11_0,hfz11_1,hfz11_2,hfz11_3,hfz11_4,hfz11_5,hfz11_6,hfz11_7,hfz11_8,hfz11_9⟩ := fz10 BK305.out
     go_wp2_with (first | ((with_reducible refine gate_callee (f:=41) rfl ?_); refine goesL_ (some 18) rfl rfl Tryz.func41 (by kernel_rfl) rfl #[.int .i64 a0_0] rfl mA ?_; (with_reducible refine (impl_isSix.calls a0_0 true _ A4.out).mono ?_); rintro e w' ⟨rfl,⟨nd,rfl⟩⟩; refine ⟨_,rfl,?_⟩) | (go_at_call 42; (with_reducible refine (impl_within.calls a0_1 0 999999 true _ A6.out).mono ?_); rintro e w' ⟨rfl,⟨nd,rfl⟩⟩) | (go_at_call 43; (with_reducible refine (impl_Entry.calls k _ _ l0_2 t308 _ ?side1 ?side2 ?side3 A10.out).mono ?_); (case side1 => exact HV.out.below bA); (case side2 => exact sD HR0_2.out); (case side3 => exact HC0_2.out); rintro e w12 ⟨rfl,hb⟩; have n0_ := Aside0.mk (bb BK305.out hb); have n1_ := Aside0.mk (below_step bA hb); clear BK305 HB; have BK305 := n0_; have HB := n1_; clear n0_ n1_; (try clear hb); (try clear hb2); (try clear hk); (try clear hi)))
     go_meet
     case rel => exact ⟨_,(!t308),(by first | rfl | (simp; done) | (simp [*]; done)),H',⟨by first | omega | exact Nat.le_refl _⟩,⟨kA BK305.out⟩,⟨bA⟩⟩
   ·replace c7 := Bool.eq_false_iff.mpr c7
    subst c7
    rw [if_neg (show ¬ (false = true) by decide)] at H
    have H' := Aside0.mk H
    clear H
    obtain ⟨hcz13_0,hcz13_1,hcz13_2,hcz13_3,hcz13_4,hcz13_5,hcz13_6,hcz13_7,hcz13_8,hcz13_9⟩ := cl10 BK305.out
    obtain ⟨hfz13_0,hfz13_1,hfz13_2,hfz13_3,hfz13_4,hfz13_5,hfz13_6,hfz13_7,hfz13_8,hfz13_9⟩ := fz10 BK305.out
    go_wp2_with (first | ((with_reducible refine gate_callee (f:=41) rfl ?_); refine goesL_ (some 18) rfl rfl Tryz.func41 (by kernel_rfl) rfl #[.int .i64 a0_0] rfl mA ?_; (with_reducible refine (impl_isSix.calls a0_0 true _ A4.out).mono ?_); rintro e w' ⟨rfl,⟨nd,rfl⟩⟩; refine ⟨_,rfl,?_⟩) | (go_at_call 42; (with_reducible refine (impl_within.calls a0_1 0 999999 false _ A6.out).mono ?_); rintro e w' ⟨rfl,⟨nd,rfl⟩⟩))
    go_meet
    case rel => exact ⟨_,(true),(by first | rfl | (simp; done) | (simp [*]; done)),H',⟨by first | omega | exact Nat.le_refl _⟩,⟨kA BK305.out⟩,⟨bA⟩⟩
  ·replace c5 := Bool.eq_false_iff.mpr c5
   subst c5
   rw [if_neg (show ¬ (false = true) by decide)] at H
   have H' := Aside0.mk H
   clear H
   obtain ⟨hcz14_0,hcz14_1,hcz14_2,hcz14_3,hcz14_4,hcz14_5,hcz14_6,hcz14_7,hcz14_8,hcz14_9⟩ := cl10 BK305.out
   obtain ⟨hfz14_0,hfz14_1,hfz14_2,hfz14_3,hfz14_4,hfz14_5,hfz14_6,hfz14_7,hfz14_8,hfz14_9⟩ := fz10 BK305.out
   go_wp2_with (first | ((with_reducible refine gate_callee (f:=41) rfl ?_); refine goesL_ (some 18) rfl rfl Tryz.func41 (by kernel_rfl) rfl #[.int .i64 a0_0] rfl mA ?_; (with_reducible refine (impl_isSix.calls a0_0 false _ A4.out).mono ?_); rintro e w' ⟨rfl,⟨nd,rfl⟩⟩; refine ⟨_,rfl,?_⟩))
   go_meet
   case rel => exact ⟨_,(true),(by first | rfl | (simp; done) | (simp [*]; done)),H',⟨by first | omega | exact Nat.le_refl _⟩,⟨kA BK305.out⟩,⟨bA⟩⟩
 case rest =>
  clear HC2
  try clear c2
  try clear p2
  try clear c4
  try clear c5
  try clear p6
  try clear c7
  try clear c8
  try clear c8b0
  try clear hcz11_0 hcz11_1 hcz11_2 hcz11_3 hcz11_4 hcz11_5 hcz11_6 hcz11_7 hcz11_8 hcz11_9
  try clear hcz13_0 hcz13_1 hcz13_2 hcz13_3 hcz13_4 hcz13_5 hcz13_6 hcz13_7 hcz13_8 hcz13_9
  try clear hcz14_0 hcz14_1 hcz14_2 hcz14_3 hcz14_4 hcz14_5 hcz14_6 hcz14_7 hcz14_8 hcz14_9
  try clear hcz9_0 hcz9_1 hcz9_2 hcz9_3 hcz9_4 hcz9_5 hcz9_6 hcz9_7 hcz9_8 hcz9_9
  try clear hfz11_0 hfz11_1 hfz11_2 hfz11_3 hfz11_4 hfz11_5 hfz11_6 hfz11_7 hfz11_8 hfz11_9
  try clear hfz13_0 hfz13_1 hfz13_2 hfz13_3 hfz13_4 hfz13_5 hfz13_6 hfz13_7 hfz13_8 hfz13_9
  try clear hfz14_0 hfz14_1 hfz14_2 hfz14_3 hfz14_4 hfz14_5 hfz14_6 hfz14_7 hfz14_8 hfz14_9
  try clear hfz9_0 hfz9_1 hfz9_2 hfz9_3 hfz9_4 hfz9_5 hfz9_6 hfz9_7 hfz9_8 hfz9_9
  obtain ⟨kq,x41_1,rfl,HA,HJ1,BK305,HB⟩ := hcut
  cases kq with
  | zero => exact absurd HA.out (by simp [impl_StateOK.j0])
  | succ kj1 =>
   have H := HA.out
   clear HA
   simp only [impl_StateOK.j0] at H
   by_cases c15 : x41_1 = true
   ·subst c15
    rw [if_pos rfl] at H
    obtain rfl := Option.some.inj H
    go_wp2
    go_ret
    exact ⟨by first | rfl | (simp only [i64_w,i32_w] <;> rfl) | (simp [errW_none,errW_some] <;> rfl) | (simp [*,errW_none,errW_some] <;> rfl),bA⟩
   ·replace c15 := Bool.eq_false_iff.mpr c15
    subst c15
    rw [if_neg (show ¬ (false = true) by decide)] at H
    have H' := Aside0.mk H
    clear H
    go_wp2_with (first | ((with_reducible refine gate_dst (N:=42) rfl ?_); (try (refine gate_guard (by rfl) ?_; dsimp only)); refine map_event ?hg (N:=42) ?hd ?hr ?_; (case hd => rfl); (case hg => rfl); (case hr => first | (go_simp; done) | (go_simp; rfl)); intro gb309 hg w16 hbox hb; have n0_ := Aside0.mk (bb BK305.out hb); have n1_ := Aside0.mk (below_step bA hb); have n2_ := Aside0.mk (hbox); have n3_ := Aside0.mk ((gw hg : w.heap.size ≤ gb309)); have n4_ := Aside0.mk ((gw hg : w.heap.size ≤ gb309)); have n5_ := Aside0.mk ((nl hg BK305.out)); have n6_ := Aside0.mk ((ng hg BK305.out)); clear BK305 HB; have BK305 := n0_; have HB := n1_; have BK309 := n2_; have GW309 := n3_; have GE309 := n4_; have NB305_309 := n5_; have NB309_305 := n6_; clear n0_ n1_ n2_ n3_ n4_ n5_ n6_; clear hb hbox hg; have hnb17 := NB305_309.out; have hnc17 := NB309_305.out; obtain ⟨hcz18_0,hcz18_1,hcz18_2,hcz18_3,hcz18_4,hcz18_5,hcz18_6,hcz18_7,hcz18_8,hcz18_9⟩ := cl10 BK305.out; obtain ⟨hfz18_0,hfz18_1,hfz18_2,hfz18_3,hfz18_4,hfz18_5,hfz18_6,hfz18_7,hfz18_8,hfz18_9⟩ := fz10 BK305.out))
    go_loopg [46] kj1 (fun kq v46 w' => ∃ (x46_2 : Int) (x310000_2 : List ByteArray) (om_ : Obj),v46 = .int .i64 x46_2 ∧ Aside0 (impl_StateOK.l0 kq l0_2 (l0_2.length : Int) x46_2 a0_0 a0_1 l0_2 l0_3 a0_4 a0_5 a0_6 a0_7 a0_8 a0_9 x310000_2 = some r) ∧ Aside0 (kq ≤ kj1) ∧ Aside0 (w'.heap[gb305]? = some (.cells #[.int .i64 a0_0,.int .i64 a0_1,(.slice A0_2 l0_2.length c0_2),(.slice A0_3 l0_3.length c0_3),.int .i64 a0_4,.int .i64 a0_5,.int .i64 a0_6,.int .i64 a0_7,.int .i64 a0_8,.int .i64 a0_9] 35 (0,0))) ∧ Aside0 (w'.heap[gb309]? = some om_) ∧ Aside0 (MapS Tryz.prog 9 4 om_ x310000_2) ∧ Aside0 (Below w.heap.size w w'))
    case atStart => exact ⟨(0),([]),(.map #[] 0),(by first | rfl | (simp; done) | (simp [*]; done)),H',⟨Nat.le_refl _⟩,⟨kA BK305.out⟩,⟨kA BK309.out⟩,⟨MapS.made _ _ _⟩,⟨bA⟩⟩
    case round =>
     clear H'
     try clear c1
     try clear c2
     try clear p2
     try clear c4
     try clear c5
     try clear p6
     try clear c7
     try clear c8
     try clear c8b0
     try clear c15
     try clear c17
     try clear hcz11_0 hcz11_1 hcz11_2 hcz11_3 hcz11_4 hcz11_5 hcz11_6 hcz11_7 hcz11_8 hcz11_9
     try clear hcz13_0 hcz13_1 hcz13_2 hcz13_3 hcz13_4 hcz13_5 hcz13_6 hcz13_7 hcz13_8 hcz13_9
     try clear hcz14_0 hcz14_1 hcz14_2 hcz14_3 hcz14_4 hcz14_5 hcz14_6 hcz14_7 hcz14_8 hcz14_9
     try clear hcz18_0 hcz18_1 hcz18_2 hcz18_3 hcz18_4 hcz18_5 hcz18_6 hcz18_7 hcz18_8 hcz18_9
     try clear hcz9_0 hcz9_1 hcz9_2 hcz9_3 hcz9_4 hcz9_5 hcz9_6 hcz9_7 hcz9_8 hcz9_9
     try clear hfz11_0 hfz11_1 hfz11_2 hfz11_3 hfz11_4 hfz11_5 hfz11_6 hfz11_7 hfz11_8 hfz11_9
     try clear hfz13_0 hfz13_1 hfz13_2 hfz13_3 hfz13_4 hfz13_5 hfz13_6 hfz13_7 hfz13_8 hfz13_9
     try clear hfz14_0 hfz14_1 hfz14_2 hfz14_3 hfz14_4 hfz14_5 hfz14_6 hfz14_7 hfz14_8 hfz14_9
     try clear hfz18_0 hfz18_1 hfz18_2 hfz18_3 hfz18_4 hfz18_5 hfz18_6 hfz18_7 hfz18_8 hfz18_9
     try clear hfz9_0 hfz9_1 hfz9_2 hfz9_3 hfz9_4 hfz9_5 hfz9_6 hfz9_7 hfz9_8 hfz9_9
     try clear p2
     try clear p6
     obtain ⟨x46_2,x310000_2,om_,rfl,HA,HK2,BK305,BK309,MO_,HB⟩ := hrel
     cases gk with
     | zero => exact absurd HA.out (by simp [impl_StateOK.l0])
     | succ k2 =>
      have H := HA.out
      clear HA
      simp only [impl_StateOK.l0] at H
      by_cases c19 : x46_2 < (l0_2.length : Int)
      ·rw [if_pos c19] at H
       have c19b0 : decide (x46_2 < (l0_2.length : Int)) = true := decide_eq_true c19
       clear c19
       by_cases c20 : 0 ≤ x46_2
       ·rw [if_pos c20] at H
        have c20b0 : decide (0 ≤ x46_2) = true := decide_eq_true c20
        clear c20
        by_cases c21 : x46_2 < (l0_2.length : Int)
        ·rw [if_pos c21] at H
         have c21b0 : decide (x46_2 < (l0_2.length : Int)) = true := decide_eq_true c21
         clear c21
         have hgd_ : x310000_2.length < 100000 ∧ (((rd_T64 l0_2 x46_2).f3)).size ≤ 140737488351232 := by
          by_cases hq_ : x310000_2.length < 100000 ∧ (((rd_T64 l0_2 x46_2).f3)).size ≤ 140737488351232
          ·exact hq_
          ·rw [if_neg hq_] at H; cases H
         rw [if_pos hgd_] at H
         have HG_ := Aside0.mk hgd_
         clear hgd_
         have H' := Aside0.mk H
         clear H
         have p310 : 0 ≤ (x46_2 : Int) := od
         have q310 : x46_2 < (l0_2.length : Int) := od
         obtain ⟨ad310,e310,hx310_0,hx310_1,hx310_2,hx310_3⟩ := at_T64 HR0_2.out x46_2 p310 q310
         cases e310
         replace hx310_0 := cb HB.out hx310_0
         replace hx310_1 := cb HB.out hx310_1
         replace hx310_2 := cb HB.out hx310_2
         replace hx310_3 := cb HB.out hx310_3
         replace p310 := eq_true p310
         replace q310 := eq_true q310
         go_wp2_with (first | ((with_reducible refine gate_dst (N:=5) rfl ?_); (try (refine gate_guard (by rfl) ?_; dsimp only)); refine box_event ?hg (N:=5) ?hd (cs := #[.int .i64 0,.int .i64 0,.int .i64 0,.string (⟨#[]⟩ : ByteArray)]) (t:=64) ?hr ?_; (case hd => rfl); (case hg => rfl); (case hr => first | (go_simp; done) | (go_simp; rfl)); intro gb311 hg w22 hbox hb; have n0_ := Aside0.mk (bb BK305.out hb); have n1_ := Aside0.mk (blk_below (g:=gb309) (o:=om_) (kA BK309.out) hb); have n2_ := Aside0.mk (below_step bA hb); have n3_ := Aside0.mk (hbox); have n4_ := Aside0.mk ((gw hg : w.heap.size ≤ gb311)); have n5_ := Aside0.mk ((gw hg : w.heap.size ≤ gb311)); have n6_ := Aside0.mk ((nl hg BK305.out)); have n7_ := Aside0.mk ((ng hg BK305.out)); have n8_ := Aside0.mk ((by rw [hg]; exact Nat.ne_of_lt (blk_lt (g:=gb309) (o:=om_) (kA BK309.out)) : gb309 ≠ gb311)); have n9_ := Aside0.mk ((by rw [hg]; exact Nat.ne_of_gt (blk_lt (g:=gb309) (o:=om_) (kA BK309.out)) : gb311 ≠ gb309)); clear BK305 BK309 HB; have BK305 := n0_; have BK309 := n1_; have HB := n2_; have BK311 := n3_; have GW311 := n4_; have GE311 := n5_; have NB305_311 := n6_; have NB311_305 := n7_; have NB309_311 := n8_; have NB311_309 := n9_; clear n0_ n1_ n2_ n3_ n4_ n5_ n6_ n7_ n8_ n9_; clear hb hbox hg; have hnb23 := NB311_305.out; have hnc23 := NB305_311.out; have hnb24 := NB311_309.out; have hnc24 := NB309_311.out; obtain ⟨hcz25_0,hcz25_1,hcz25_2,hcz25_3⟩ := cl4 BK311.out; obtain ⟨hfz25_0,hfz25_1,hfz25_2,hfz25_3⟩ := fz4 BK311.out; have hnb26 := NB309_305.out; have hnc26 := NB305_309.out) | (at_mapUpdate; refine mapput_event rfl (t:=81) rfl (b:=gb309) (om := om_) (l:=x310000_2) (s:=((rd_T64 l0_2 x46_2).f3)) Tryz.underlying81 Tryz.underlying9 Tryz.underlying4 rfl (by rfl) rfl (by (with_reducible repeat (first | refine blk_drewN ?_ _ | refine blk_drew ?_ | refine blk_alloc ?_ _ | refine mblk_far ?_ NB309_311.out _)); exact BK309.out) MO_.out (Nat.le_trans HG_.out.2 (by decide)) (Nat.lt_trans HG_.out.1 (by decide)) ?_; intro wm_ om2_ hbm2_ hM2_ hg2_; have ns_ : Aside0 (wm_.heap[gb305]? = some (.cells #[.int .i64 a0_0,.int .i64 a0_1,.slice (some ad310) l0_2.length c0_2,.slice A0_3 l0_3.length c0_3,.int .i64 a0_4,.int .i64 a0_5,.int .i64 a0_6,.int .i64 a0_7,.int .i64 a0_8,.int .i64 a0_9] 35 (0,0))) := ⟨(hg2_.block gb305 (blk_lt (g:=gb305) (o:=.cells #[.int .i64 a0_0,.int .i64 a0_1,.slice (some ad310) l0_2.length c0_2,.slice A0_3 l0_3.length c0_3,.int .i64 a0_4,.int .i64 a0_5,.int .i64 a0_6,.int .i64 a0_7,.int .i64 a0_8,.int .i64 a0_9] 35 (0,0)) (by (with_reducible repeat (first | refine blk_drewN ?_ _ | refine blk_drew ?_ | refine blk_alloc ?_ _ | refine mblk_far ?_ NB305_311.out _)); exact BK305.out)) (by intro e_; cases e_; exact NB305_309.out rfl)).trans (by (with_reducible repeat (first | refine blk_drewN ?_ _ | refine blk_drew ?_ | refine blk_alloc ?_ _ | refine mblk_far ?_ NB305_311.out _)); exact BK305.out)⟩; have nh_ := Aside0.mk (Below.grown bA hg2_ (below_size bA) (fun _ e_ => by cases e_; exact GE309.out)); have nb_ := Aside0.mk hbm2_; have nm_ := Aside0.mk hM2_; clear HB MO_ BK305 BK309 hg2_ hbm2_ hM2_))
         go_roundg k2
         case measure => have := HJ1.out; have := HK2.out; omega
         case rel => exact ⟨(wrap64 (x46_2 + 1)),(insK ((rd_T64 l0_2 x46_2).f3) x310000_2),om2_,(by first | rfl | (simp; done) | (simp [*]; done)),H',⟨by have := HJ1.out; have := HK2.out; omega⟩,⟨by (with_reducible repeat (first | refine blk_drewN ?_ _ | refine blk_drew ?_ | refine blk_alloc ?_ _)); exact ns_.out⟩,⟨by (with_reducible repeat (first | refine blk_drewN ?_ _ | refine blk_drew ?_ | refine blk_alloc ?_ _)); exact nb_.out⟩,nm_,⟨by repeat (first | (with_reducible first | exact nh_.out | apply below_alloc | apply pw_below_drewN | apply below_drew1 | refine below_set ?_ GE305.out | refine below_set ?_ GE309.out | refine below_set ?_ GE311.out) | exact nh_.out)⟩⟩
        ·rw [if_neg c21] at H
         exact absurd H (by simp)
       ·rw [if_neg c20] at H
        exact absurd H (by simp)
      ·rw [if_neg c19] at H
       have c19b0 : decide (x46_2 < (l0_2.length : Int)) = false := decide_eq_false c19
       clear c19
       have H' := Aside0.mk H
       clear H
       have hnb28 := NB305_309.out
       have hnc28 := NB309_305.out
       obtain ⟨hcz29_0,hcz29_1,hcz29_2,hcz29_3,hcz29_4,hcz29_5,hcz29_6,hcz29_7,hcz29_8,hcz29_9⟩ := cl10 BK305.out
       obtain ⟨hfz29_0,hfz29_1,hfz29_2,hfz29_3,hfz29_4,hfz29_5,hfz29_6,hfz29_7,hfz29_8,hfz29_9⟩ := fz10 BK305.out
       go_wp2
       go_loopg [57] k2 (fun kq v57 w' => ∃ (x57_3 : Int) (x310000_3 : List ByteArray) (om_ : Obj),v57 = .int .i64 x57_3 ∧ Aside0 (impl_StateOK.l1 kq l0_3 (l0_3.length : Int) x57_3 a0_0 a0_1 l0_2 l0_3 a0_4 a0_5 a0_6 a0_7 a0_8 a0_9 x310000_3 = some r) ∧ Aside0 (kq ≤ k2) ∧ Aside0 (w'.heap[gb305]? = some (.cells #[.int .i64 a0_0,.int .i64 a0_1,(.slice A0_2 l0_2.length c0_2),(.slice A0_3 l0_3.length c0_3),.int .i64 a0_4,.int .i64 a0_5,.int .i64 a0_6,.int .i64 a0_7,.int .i64 a0_8,.int .i64 a0_9] 35 (0,0))) ∧ Aside0 (w'.heap[gb309]? = some om_) ∧ Aside0 (MapS Tryz.prog 9 4 om_ x310000_3) ∧ Aside0 (Below w.heap.size w w'))
       case atStart => exact ⟨(0),(x310000_2),om_,(by first | rfl | (simp; done) | (simp [*]; done)),H',⟨Nat.le_refl _⟩,⟨kA BK305.out⟩,⟨kA BK309.out⟩,MO_,⟨bA⟩⟩
       case round =>
        clear H'
        try clear c1
        try clear c2
        try clear p2
        try clear p3
        try clear q3
        try clear hx3
        try clear c4
        try clear c5
        try clear p6
        try clear c7
        try clear c8
        try clear c8b0
        try clear c15
        try clear c17
        try clear c19
        try clear c19b0
        try clear c20
        try clear c20b0
        try clear c21
        try clear c21b0
        try clear c23
        try clear c24
        try clear c26
        try clear c28
        try clear hcz11_0 hcz11_1 hcz11_2 hcz11_3 hcz11_4 hcz11_5 hcz11_6 hcz11_7 hcz11_8 hcz11_9
        try clear hcz13_0 hcz13_1 hcz13_2 hcz13_3 hcz13_4 hcz13_5 hcz13_6 hcz13_7 hcz13_8 hcz13_9
        try clear hcz14_0 hcz14_1 hcz14_2 hcz14_3 hcz14_4 hcz14_5 hcz14_6 hcz14_7 hcz14_8 hcz14_9
        try clear hcz18_0 hcz18_1 hcz18_2 hcz18_3 hcz18_4 hcz18_5 hcz18_6 hcz18_7 hcz18_8 hcz18_9
        try clear hcz25_0 hcz25_1 hcz25_2 hcz25_3
        try clear hcz27_0
        try clear hcz29_0 hcz29_1 hcz29_2 hcz29_3 hcz29_4 hcz29_5 hcz29_6 hcz29_7 hcz29_8 hcz29_9
        try clear hcz9_0 hcz9_1 hcz9_2 hcz9_3 hcz9_4 hcz9_5 hcz9_6 hcz9_7 hcz9_8 hcz9_9
        try clear hfz11_0 hfz11_1 hfz11_2 hfz11_3 hfz11_4 hfz11_5 hfz11_6 hfz11_7 hfz11_8 hfz11_9
        try clear hfz13_0 hfz13_1 hfz13_2 hfz13_3 hfz13_4 hfz13_5 hfz13_6 hfz13_7 hfz13_8 hfz13_9
        try clear hfz14_0 hfz14_1 hfz14_2 hfz14_3 hfz14_4 hfz14_5 hfz14_6 hfz14_7 hfz14_8 hfz14_9
        try clear hfz18_0 hfz18_1 hfz18_2 hfz18_3 hfz18_4 hfz18_5 hfz18_6 hfz18_7 hfz18_8 hfz18_9
        try clear hfz25_0 hfz25_1 hfz25_2 hfz25_3
        try clear hfz27_0
        try clear hfz29_0 hfz29_1 hfz29_2 hfz29_3 hfz29_4 hfz29_5 hfz29_6 hfz29_7 hfz29_8 hfz29_9
        try clear hfz9_0 hfz9_1 hfz9_2 hfz9_3 hfz9_4 hfz9_5 hfz9_6 hfz9_7 hfz9_8 hfz9_9
        try clear hx310_0
        try clear hx310_1
        try clear hx310_2
        try clear hx310_3
        try clear p2
        try clear p310
        try clear p6
        try clear q310
        obtain ⟨x57_3,x310000_3,om_,rfl,HA,HK3,BK305,BK309,MO_,HB⟩ := hrel
        cases gk with
        | zero => exact absurd HA.out (by simp [impl_StateOK.l1])
        | succ k3 =>
         have H := HA.out
         clear HA
         simp only [impl_StateOK.l1] at H
         by_cases c30 : x57_3 < (l0_3.length : Int)
         ·rw [if_pos c30] at H
          have c30b0 : decide (x57_3 < (l0_3.length : Int)) = true := decide_eq_true c30
          clear c30
          by_cases c31 : 0 ≤ x57_3
          ·rw [if_pos c31] at H
           have c31b0 : decide (0 ≤ x57_3) = true := decide_eq_true c31
           clear c31
           by_cases c32 : x57_3 < (l0_3.length : Int)
           ·rw [if_pos c32] at H
            have c32b0 : decide (x57_3 < (l0_3.length : Int)) = true := decide_eq_true c32
            clear c32
            replace H := Option.bind_eq_some_iff.mp H
            obtain ⟨⟨t314,t315,t316,t317⟩,A330,H⟩ := H
            try dsimp only at H
            have A33 := Aside0.mk A330
            clear A330
            by_cases c34 : t317 = true
            ·subst c34
             rw [if_pos rfl] at H
             replace H := Option.bind_eq_some_iff.mp H
             obtain ⟨t318,A350,H⟩ := H
             try dsimp only at H
             have A35 := Aside0.mk A350
             clear A350
             by_cases c36 : t318 = true
             ·subst c36
              rw [if_pos rfl] at H
              have hgd_ : x310000_3.length < 100000 ∧ (((rd_T71 l0_3 x57_3).f1)).size ≤ 140737488351232 := by
               by_cases hq_ : x310000_3.length < 100000 ∧ (((rd_T71 l0_3 x57_3).f1)).size ≤ 140737488351232
               ·exact hq_
               ·rw [if_neg hq_] at H; cases H
              rw [if_pos hgd_] at H
              have HG_ := Aside0.mk hgd_
              clear hgd_
              have H' := Aside0.mk H
              clear H
              have p312 : 0 ≤ (x57_3 : Int) := od
              have q312 : x57_3 < (l0_3.length : Int) := od
              obtain ⟨ad312,e312,hx312_0,hx312_1⟩ := at_T71 HR0_3.out x57_3 p312 q312
              cases e312
              replace hx312_0 := cb HB.out hx312_0
              replace hx312_1 := cb HB.out hx312_1
              replace p312 := eq_true p312
              replace q312 := eq_true q312
              go_wp2_with (first | ((with_reducible refine gate_dst (N:=7) rfl ?_); (try (refine gate_guard (by rfl) ?_; dsimp only)); refine box_event ?hg (N:=7) ?hd (cs := #[.int .i64 0,.string (⟨#[]⟩ : ByteArray)]) (t:=71) ?hr ?_; (case hd => rfl); (case hg => rfl); (case hr => first | (go_simp; done) | (go_simp; rfl)); intro gb313 hg w37 hbox hb; have n0_ := Aside0.mk (bb BK305.out hb); have n1_ := Aside0.mk (blk_below (g:=gb309) (o:=om_) (kA BK309.out) hb); have n2_ := Aside0.mk (below_step bA hb); have n3_ := Aside0.mk (hbox); have n4_ := Aside0.mk ((gw hg : w.heap.size ≤ gb313)); have n5_ := Aside0.mk ((gw hg : w.heap.size ≤ gb313)); have n6_ := Aside0.mk ((nl hg BK305.out)); have n7_ := Aside0.mk ((ng hg BK305.out)); have n8_ := Aside0.mk ((by rw [hg]; exact Nat.ne_of_lt (blk_lt (g:=gb309) (o:=om_) (kA BK309.out)) : gb309 ≠ gb313)); have n9_ := Aside0.mk ((by rw [hg]; exact Nat.ne_of_gt (blk_lt (g:=gb309) (o:=om_) (kA BK309.out)) : gb313 ≠ gb309)); clear BK305 BK309 HB; have BK305 := n0_; have BK309 := n1_; have HB := n2_; have BK313 := n3_; have GW313 := n4_; have GE313 := n5_; have NB305_313 := n6_; have NB313_305 := n7_; have NB309_313 := n8_; have NB313_309 := n9_; clear n0_ n1_ n2_ n3_ n4_ n5_ n6_ n7_ n8_ n9_; clear hb hbox hg; have hnb38 := NB313_305.out; have hnc38 := NB305_313.out; have hnb39 := NB313_309.out; have hnc39 := NB309_313.out; obtain ⟨hcz40_0,hcz40_1⟩ := cl2 BK313.out; obtain ⟨hfz40_0,hfz40_1⟩ := fz2 BK313.out) | ((with_reducible refine gate_callee (f:=45) rfl ?_); refine goesL_ (some 64) rfl rfl Tryz.func45 (by kernel_rfl) rfl #[.string ((rd_T71 l0_3 x57_3).f1)] rfl mA ?_; (with_reducible refine (impl_readDataKey.calls k3 ((rd_T71 l0_3 x57_3).f1) t314 t315 t316 true _ ?side1 A33.out).mono ?_); (case side1 => exact HV.out.below bA); rintro e w41 ⟨rfl,hb⟩; refine ⟨_,rfl,?_⟩; have n0_ := Aside0.mk (bc BK305.out hb); have n1_ := Aside0.mk (blk_below (g:=gb309) (o:=om_) (by (with_reducible repeat (first | refine blk_drewN ?_ _ | refine blk_drew ?_ | refine blk_alloc ?_ _)); refine mblk_far ?_ NB309_313.out _; (with_reducible repeat (first | refine blk_drewN ?_ _ | refine blk_drew ?_ | refine blk_alloc ?_ _)); refine mblk_far ?_ NB309_313.out _; (with_reducible repeat (first | refine blk_drewN ?_ _ | refine blk_drew ?_ | refine blk_alloc ?_ _)); exact BK309.out) hb); have n2_ := Aside0.mk (blk_below (g:=gb313) (o:=.cells #[.int .i64 ((rd_T71 l0_3 x57_3).f0),.string ((rd_T71 l0_3 x57_3).f1)] 71 (0,0)) (by (with_reducible repeat (first | refine blk_drewN ?_ _ | refine blk_drew ?_ | refine blk_alloc ?_ _)); refine blk_put (cs := #[.int .i64 ((rd_T71 l0_3 x57_3).f0),.string (⟨#[]⟩ : ByteArray)]) ?_ 1 _ rfl; (with_reducible repeat (first | refine blk_drewN ?_ _ | refine blk_drew ?_ | refine blk_alloc ?_ _)); refine blk_put (cs := #[.int .i64 0,.string (⟨#[]⟩ : ByteArray)]) ?_ 0 _ rfl; (with_reducible repeat (first | refine blk_drewN ?_ _ | refine blk_drew ?_ | refine blk_alloc ?_ _)); exact BK313.out) hb); have n3_ := Aside0.mk (below_step bA hb); clear BK305 BK309 BK313 HB; have BK305 := n0_; have BK309 := n1_; have BK313 := n2_; have HB := n3_; clear n0_ n1_ n2_ n3_; (try clear hb); (try clear hb2); (try clear hk); (try clear hi); obtain ⟨hcz42_0,hcz42_1⟩ := cl2 BK313.out; obtain ⟨hfz42_0,hfz42_1⟩ := fz2 BK313.out; have hnb43 := NB305_309.out; have hnc43 := NB309_305.out; obtain ⟨hcz44_0,hcz44_1,hcz44_2,hcz44_3,hcz44_4,hcz44_5,hcz44_6,hcz44_7,hcz44_8,hcz44_9⟩ := cl10 BK305.out; obtain ⟨hfz44_0,hfz44_1,hfz44_2,hfz44_3,hfz44_4,hfz44_5,hfz44_6,hfz44_7,hfz44_8,hfz44_9⟩ := fz10 BK305.out) | (go_at_call 42; (with_reducible refine (impl_within.calls ((rd_T71 l0_3 x57_3).f0) 1 a0_0 true _ A35.out).mono ?_); rintro e w' ⟨rfl,⟨nd,rfl⟩⟩; (try (rw [drewN_self w41]; generalize hq_ : World.drewN w41 _ = w41; have n0_ : Aside0 (w41.heap[gb305]? = some (.cells #[.int .i64 a0_0,.int .i64 a0_1,.slice A0_2 l0_2.length c0_2,.slice (some ad312) l0_3.length c0_3,.int .i64 a0_4,.int .i64 a0_5,.int .i64 a0_6,.int .i64 a0_7,.int .i64 a0_8,.int .i64 a0_9] 35 (0,0))) := ⟨by rw [← hq_]; exact (kA BK305.out)⟩; have n1_ : Aside0 (w41.heap[gb309]? = some om_) := ⟨by rw [← hq_]; exact (kA BK309.out)⟩; have n2_ : Aside0 (w41.heap[gb313]? = some (.cells #[.int .i64 ((rd_T71 l0_3 x57_3).f0),.string ((rd_T71 l0_3 x57_3).f1)] 71 (0,0))) := ⟨by rw [← hq_]; exact (kA BK313.out)⟩; have n3_ : Aside0 (Below w.heap.size w w41) := ⟨by rw [← hq_]; exact bA⟩; clear BK305 BK309 BK313 HB hq_; have BK305 := n0_; have BK309 := n1_; have BK313 := n2_; have HB := n3_; clear n0_ n1_ n2_ n3_)); have hcy_0 : w41.cell? ⟨gb313,0,none⟩ = some (.int .i64 ((rd_T71 l0_3 x57_3).f0)) := bl BK313 0; have hcy_1 : w41.cell? ⟨gb313,1,none⟩ = some (.string ((rd_T71 l0_3 x57_3).f1)) := bl BK313 1) | (at_mapUpdate; refine mapput_event rfl (t:=81) rfl (b:=gb309) (om := om_) (l:=x310000_3) (s:=((rd_T71 l0_3 x57_3).f1)) Tryz.underlying81 Tryz.underlying9 Tryz.underlying4 rfl (by rfl) rfl (by (with_reducible repeat (first | refine blk_drewN ?_ _ | refine blk_drew ?_ | refine blk_alloc ?_ _ | refine mblk_far ?_ NB309_313.out _)); exact BK309.out) MO_.out (Nat.le_trans HG_.out.2 (by decide)) (Nat.lt_trans HG_.out.1 (by decide)) ?_; intro wm_ om2_ hbm2_ hM2_ hg2_; have ns_ : Aside0 (wm_.heap[gb305]? = some (.cells #[.int .i64 a0_0,.int .i64 a0_1,.slice A0_2 l0_2.length c0_2,.slice (some ad312) l0_3.length c0_3,.int .i64 a0_4,.int .i64 a0_5,.int .i64 a0_6,.int .i64 a0_7,.int .i64 a0_8,.int .i64 a0_9] 35 (0,0))) := ⟨(hg2_.block gb305 (blk_lt (g:=gb305) (o:=.cells #[.int .i64 a0_0,.int .i64 a0_1,.slice A0_2 l0_2.length c0_2,.slice (some ad312) l0_3.length c0_3,.int .i64 a0_4,.int .i64 a0_5,.int .i64 a0_6,.int .i64 a0_7,.int .i64 a0_8,.int .i64 a0_9] 35 (0,0)) (by (with_reducible repeat (first | refine blk_drewN ?_ _ | refine blk_drew ?_ | refine blk_alloc ?_ _ | refine mblk_far ?_ NB305_313.out _)); exact BK305.out)) (by intro e_; cases e_; exact NB305_309.out rfl)).trans (by (with_reducible repeat (first | refine blk_drewN ?_ _ | refine blk_drew ?_ | refine blk_alloc ?_ _ | refine mblk_far ?_ NB305_313.out _)); exact BK305.out)⟩; have nh_ := Aside0.mk (Below.grown bA hg2_ (below_size bA) (fun _ e_ => by cases e_; exact GE309.out)); have nb_ := Aside0.mk hbm2_; have nm_ := Aside0.mk hM2_; clear HB MO_ BK305 BK309 hg2_ hbm2_ hM2_))
              go_roundg k3
              case measure => have := HJ1.out; have := HK2.out; have := HK3.out; omega
              case rel => exact ⟨(wrap64 (x57_3 + 1)),(insK ((rd_T71 l0_3 x57_3).f1) x310000_3),om2_,(by first | rfl | (simp; done) | (simp [*]; done)),H',⟨by have := HJ1.out; have := HK2.out; have := HK3.out; omega⟩,⟨by (with_reducible repeat (first | refine blk_drewN ?_ _ | refine blk_drew ?_ | refine blk_alloc ?_ _)); exact ns_.out⟩,⟨by (with_reducible repeat (first | refine blk_drewN ?_ _ | refine blk_drew ?_ | refine blk_alloc ?_ _)); exact nb_.out⟩,nm_,⟨by repeat (first | (with_reducible first | exact nh_.out | apply below_alloc | apply pw_below_drewN | apply below_drew1 | refine below_set ?_ GE305.out | refine below_set ?_ GE309.out | refine below_set ?_ GE313.out) | exact nh_.out)⟩⟩
             ·replace c36 := Bool.eq_false_iff.mpr c36
              subst c36
              rw [if_neg (show ¬ (false = true) by decide)] at H
              obtain rfl := Option.some.inj H
              have p312 : 0 ≤ (x57_3 : Int) := od
              have q312 : x57_3 < (l0_3.length : Int) := od
              obtain ⟨ad312,e312,hx312_0,hx312_1⟩ := at_T71 HR0_3.out x57_3 p312 q312
              cases e312
              replace hx312_0 := cb HB.out hx312_0
              replace hx312_1 := cb HB.out hx312_1
              replace p312 := eq_true p312
              replace q312 := eq_true q312
              go_wp2_with (first | ((with_reducible refine gate_dst (N:=7) rfl ?_); (try (refine gate_guard (by rfl) ?_; dsimp only)); refine box_event ?hg (N:=7) ?hd (cs := #[.int .i64 0,.string (⟨#[]⟩ : ByteArray)]) (t:=71) ?hr ?_; (case hd => rfl); (case hg => rfl); (case hr => first | (go_simp; done) | (go_simp; rfl)); intro gb313 hg w46 hbox hb; have n0_ := Aside0.mk (bb BK305.out hb); have n1_ := Aside0.mk (blk_below (g:=gb309) (o:=om_) (kA BK309.out) hb); have n2_ := Aside0.mk (below_step bA hb); have n3_ := Aside0.mk (hbox); have n4_ := Aside0.mk ((gw hg : w.heap.size ≤ gb313)); have n5_ := Aside0.mk ((gw hg : w.heap.size ≤ gb313)); have n6_ := Aside0.mk ((nl hg BK305.out)); have n7_ := Aside0.mk ((ng hg BK305.out)); have n8_ := Aside0.mk ((by rw [hg]; exact Nat.ne_of_lt (blk_lt (g:=gb309) (o:=om_) (kA BK309.out)) : gb309 ≠ gb313)); have n9_ := Aside0.mk ((by rw [hg]; exact Nat.ne_of_gt (blk_lt (g:=gb309) (o:=om_) (kA BK309.out)) : gb313 ≠ gb309)); clear BK305 BK309 HB; have BK305 := n0_; have BK309 := n1_; have HB := n2_; have BK313 := n3_; have GW313 := n4_; have GE313 := n5_; have NB305_313 := n6_; have NB313_305 := n7_; have NB309_313 := n8_; have NB313_309 := n9_; clear n0_ n1_ n2_ n3_ n4_ n5_ n6_ n7_ n8_ n9_; clear hb hbox hg; have hnb47 := NB313_305.out; have hnc47 := NB305_313.out; have hnb48 := NB313_309.out; have hnc48 := NB309_313.out; obtain ⟨hcz49_0,hcz49_1⟩ := cl2 BK313.out; obtain ⟨hfz49_0,hfz49_1⟩ := fz2 BK313.out) | ((with_reducible refine gate_callee (f:=45) rfl ?_); refine goesL_ (some 64) rfl rfl Tryz.func45 (by kernel_rfl) rfl #[.string ((rd_T71 l0_3 x57_3).f1)] rfl mA ?_; (with_reducible refine (impl_readDataKey.calls k3 ((rd_T71 l0_3 x57_3).f1) t314 t315 t316 true _ ?side1 A33.out).mono ?_); (case side1 => exact HV.out.below bA); rintro e w50 ⟨rfl,hb⟩; refine ⟨_,rfl,?_⟩; have n0_ := Aside0.mk (bc BK305.out hb); have n1_ := Aside0.mk (blk_below (g:=gb309) (o:=om_) (by (with_reducible repeat (first | refine blk_drewN ?_ _ | refine blk_drew ?_ | refine blk_alloc ?_ _)); refine mblk_far ?_ NB309_313.out _; (with_reducible repeat (first | refine blk_drewN ?_ _ | refine blk_drew ?_ | refine blk_alloc ?_ _)); refine mblk_far ?_ NB309_313.out _; (with_reducible repeat (first | refine blk_drewN ?_ _ | refine blk_drew ?_ | refine blk_alloc ?_ _)); exact BK309.out) hb); have n2_ := Aside0.mk (blk_below (g:=gb313) (o:=.cells #[.int .i64 ((rd_T71 l0_3 x57_3).f0),.string ((rd_T71 l0_3 x57_3).f1)] 71 (0,0)) (by (with_reducible repeat (first | refine blk_drewN ?_ _ | refine blk_drew ?_ | refine blk_alloc ?_ _)); refine blk_put (cs := #[.int .i64 ((rd_T71 l0_3 x57_3).f0),.string (⟨#[]⟩ : ByteArray)]) ?_ 1 _ rfl; (with_reducible repeat (first | refine blk_drewN ?_ _ | refine blk_drew ?_ | refine blk_alloc ?_ _)); refine blk_put (cs := #[.int .i64 0,.string (⟨#[]⟩ : ByteArray)]) ?_ 0 _ rfl; (with_reducible repeat (first | refine blk_drewN ?_ _ | refine blk_drew ?_ | refine blk_alloc ?_ _)); exact BK313.out) hb); have n3_ := Aside0.mk (below_step bA hb); clear BK305 BK309 BK313 HB; have BK305 := n0_; have BK309 := n1_; have BK313 := n2_; have HB := n3_; clear n0_ n1_ n2_ n3_; (try clear hb); (try clear hb2); (try clear hk); (try clear hi); obtain ⟨hcz51_0,hcz51_1⟩ := cl2 BK313.out; obtain ⟨hfz51_0,hfz51_1⟩ := fz2 BK313.out; have hnb52 := NB305_309.out; have hnc52 := NB309_305.out; obtain ⟨hcz53_0,hcz53_1,hcz53_2,hcz53_3,hcz53_4,hcz53_5,hcz53_6,hcz53_7,hcz53_8,hcz53_9⟩ := cl10 BK305.out; obtain ⟨hfz53_0,hfz53_1,hfz53_2,hfz53_3,hfz53_4,hfz53_5,hfz53_6,hfz53_7,hfz53_8,hfz53_9⟩ := fz10 BK305.out) | (go_at_call 42; (with_reducible refine (impl_within.calls ((rd_T71 l0_3 x57_3).f0) 1 a0_0 false _ A35.out).mono ?_); rintro e w' ⟨rfl,⟨nd,rfl⟩⟩))
              go_ret
              exact ⟨by first | rfl | (simp only [i64_w,i32_w] <;> rfl) | (simp [errW_none,errW_some] <;> rfl) | (simp [*,errW_none,errW_some] <;> rfl),bA⟩
            ·replace c34 := Bool.eq_false_iff.mpr c34
             subst c34
             rw [if_neg (show ¬ (false = true) by decide)] at H
             obtain rfl := Option.some.inj H
             have p312 : 0 ≤ (x57_3 : Int) := od
             have q312 : x57_3 < (l0_3.length : Int) := od
             obtain ⟨ad312,e312,hx312_0,hx312_1⟩ := at_T71 HR0_3.out x57_3 p312 q312
             cases e312
             replace hx312_0 := cb HB.out hx312_0
             replace hx312_1 := cb HB.out hx312_1
             replace p312 := eq_true p312
             replace q312 := eq_true q312
             go_wp2_with (first | ((with_reducible refine gate_dst (N:=7) rfl ?_); (try (refine gate_guard (by rfl) ?_; dsimp only)); refine box_event ?hg (N:=7) ?hd (cs := #[.int .i64 0,.string (⟨#[]⟩ : ByteArray)]) (t:=71) ?hr ?_; (case hd => rfl); (case hg => rfl); (case hr => first | (go_simp; done) | (go_simp; rfl)); intro gb313 hg w54 hbox hb; have n0_ := Aside0.mk (bb BK305.out hb); have n1_ := Aside0.mk (blk_below (g:=gb309) (o:=om_) (kA BK309.out) hb); have n2_ := Aside0.mk (below_step bA hb); have n3_ := Aside0.mk (hbox); have n4_ := Aside0.mk ((gw hg : w.heap.size ≤ gb313)); have n5_ := Aside0.mk ((gw hg : w.heap.size ≤ gb313)); have n6_ := Aside0.mk ((nl hg BK305.out)); have n7_ := Aside0.mk ((ng hg BK305.out)); have n8_ := Aside0.mk ((by rw [hg]; exact Nat.ne_of_lt (blk_lt (g:=gb309) (o:=om_) (kA BK309.out)) : gb309 ≠ gb313)); have n9_ := Aside0.mk ((by rw [hg]; exact Nat.ne_of_gt (blk_lt (g:=gb309) (o:=om_) (kA BK309.out)) : gb313 ≠ gb309)); clear BK305 BK309 HB; have BK305 := n0_; have BK309 := n1_; have HB := n2_; have BK313 := n3_; have GW313 := n4_; have GE313 := n5_; have NB305_313 := n6_; have NB313_305 := n7_; have NB309_313 := n8_; have NB313_309 := n9_; clear n0_ n1_ n2_ n3_ n4_ n5_ n6_ n7_ n8_ n9_; clear hb hbox hg; have hnb55 := NB313_305.out; have hnc55 := NB305_313.out; have hnb56 := NB313_309.out; have hnc56 := NB309_313.out; obtain ⟨hcz57_0,hcz57_1⟩ := cl2 BK313.out; obtain ⟨hfz57_0,hfz57_1⟩ := fz2 BK313.out) | ((with_reducible refine gate_callee (f:=45) rfl ?_); refine goesL_ (some 64) rfl rfl Tryz.func45 (by kernel_rfl) rfl #[.string ((rd_T71 l0_3 x57_3).f1)] rfl mA ?_; (with_reducible refine (impl_readDataKey.calls k3 ((rd_T71 l0_3 x57_3).f1) t314 t315 t316 false _ ?side1 A33.out).mono ?_); (case side1 => exact HV.out.below bA); rintro e w58 ⟨rfl,hb⟩; refine ⟨_,rfl,?_⟩; have n0_ := Aside0.mk (bc BK305.out hb); have n1_ := Aside0.mk (blk_below (g:=gb309) (o:=om_) (by (with_reducible repeat (first | refine blk_drewN ?_ _ | refine blk_drew ?_ | refine blk_alloc ?_ _)); refine mblk_far ?_ NB309_313.out _; (with_reducible repeat (first | refine blk_drewN ?_ _ | refine blk_drew ?_ | refine blk_alloc ?_ _)); refine mblk_far ?_ NB309_313.out _; (with_reducible repeat (first | refine blk_drewN ?_ _ | refine blk_drew ?_ | refine blk_alloc ?_ _)); exact BK309.out) hb); have n2_ := Aside0.mk (blk_below (g:=gb313) (o:=.cells #[.int .i64 ((rd_T71 l0_3 x57_3).f0),.string ((rd_T71 l0_3 x57_3).f1)] 71 (0,0)) (by (with_reducible repeat (first | refine blk_drewN ?_ _ | refine blk_drew ?_ | refine blk_alloc ?_ _)); refine blk_put (cs := #[.int .i64 ((rd_T71 l0_3 x57_3).f0),.string (⟨#[]⟩ : ByteArray)]) ?_ 1 _ rfl; (with_reducible repeat (first | refine blk_drewN ?_ _ | refine blk_drew ?_ | refine blk_alloc ?_ _)); refine blk_put (cs := #[.int .i64 0,.string (⟨#[]⟩ : ByteArray)]) ?_ 0 _ rfl; (with_reducible repeat (first | refine blk_drewN ?_ _ | refine blk_drew ?_ | refine blk_alloc ?_ _)); exact BK313.out) hb); have n3_ := Aside0.mk (below_step bA hb); clear BK305 BK309 BK313 HB; have BK305 := n0_; have BK309 := n1_; have BK313 := n2_; have HB := n3_; clear n0_ n1_ n2_ n3_; (try clear hb); (try clear hb2); (try clear hk); (try clear hi)))
             go_ret
             exact ⟨by first | rfl | (simp only [i64_w,i32_w] <;> rfl) | (simp [errW_none,errW_some] <;> rfl) | (simp [*,errW_none,errW_some] <;> rfl),bA⟩
           ·rw [if_neg c32] at H
            exact absurd H (by simp)
          ·rw [if_neg c31] at H
           exact absurd H (by simp)
         ·rw [if_neg c30] at H
          have c30b0 : decide (x57_3 < (l0_3.length : Int)) = false := decide_eq_false c30
          clear c30
          by_cases c59 : (x310000_3.length : Int) = (wrap64 ((l0_2.length : Int) + (l0_3.length : Int)))
          ·rw [if_pos c59] at H
           have c59b0 : ((x310000_3.length : Int) == (wrap64 ((l0_2.length : Int) + (l0_3.length : Int)))) = true := beq_iff_eq.mpr c59
           have c59b1 : ((x310000_3.length : Int) != (wrap64 ((l0_2.length : Int) + (l0_3.length : Int)))) = false := bne_eq_false_iff_eq.mpr c59
           clear c59
           have H' := Aside0.mk H
           clear H
           have hnb60 := NB309_305.out
           have hnc60 := NB305_309.out
           have hlen_ := MO_.out.len Tryz.underlying81 3 BK309.out
           obtain ⟨hcz62_0,hcz62_1,hcz62_2,hcz62_3,hcz62_4,hcz62_5,hcz62_6,hcz62_7,hcz62_8,hcz62_9⟩ := cl10 BK305.out
           obtain ⟨hfz62_0,hfz62_1,hfz62_2,hfz62_3,hfz62_4,hfz62_5,hfz62_6,hfz62_7,hfz62_8,hfz62_9⟩ := fz10 BK305.out
           go_wp2
           go_loopg [93] k3 (fun kq v93 w' => ∃ (x93_4 : Int),v93 = .int .i64 x93_4 ∧ Aside0 (impl_StateOK.l2 kq x93_4 a0_0 a0_1 l0_2 l0_3 a0_4 a0_5 a0_6 a0_7 a0_8 a0_9 = some r) ∧ Aside0 (kq ≤ k3) ∧ Aside0 (w'.heap[gb305]? = some (.cells #[.int .i64 a0_0,.int .i64 a0_1,(.slice A0_2 l0_2.length c0_2),(.slice A0_3 l0_3.length c0_3),.int .i64 a0_4,.int .i64 a0_5,.int .i64 a0_6,.int .i64 a0_7,.int .i64 a0_8,.int .i64 a0_9] 35 (0,0))) ∧ Aside0 (w'.heap[gb309]? = some om_) ∧ Aside0 (Below w.heap.size w w'))
           case atStart => exact ⟨(0),(by first | rfl | (simp; done) | (simp [*]; done)),H',⟨Nat.le_refl _⟩,⟨kA BK305.out⟩,⟨kA BK309.out⟩,⟨bA⟩⟩
           case round =>
            clear H'
            try clear c1
            try clear c2
            try clear p2
            try clear c3
            try clear p3
            try clear q3
            try clear hx3
            try clear c4
            try clear c5
            try clear c6
            try clear p6
            try clear c7
            try clear c8
            try clear c8b0
            try clear c15
            try clear c17
            try clear c19
            try clear c19b0
            try clear c20
            try clear c20b0
            try clear c21
            try clear c21b0
            try clear c23
            try clear c24
            try clear c26
            try clear c28
            try clear c30
            try clear c30b0
            try clear c31
            try clear c31b0
            try clear p31
            try clear q31
            try clear hx31
            try clear c32
            try clear c32b0
            try clear c34
            try clear c36
            try clear c38
            try clear c39
            try clear c43
            try clear c45
            try clear c47
            try clear c48
            try clear c52
            try clear c55
            try clear c56
            try clear c59
            try clear c59b0
            try clear c59b1
            try clear c60
            try clear hcz11_0 hcz11_1 hcz11_2 hcz11_3 hcz11_4 hcz11_5 hcz11_6 hcz11_7 hcz11_8 hcz11_9
            try clear hcz13_0 hcz13_1 hcz13_2 hcz13_3 hcz13_4 hcz13_5 hcz13_6 hcz13_7 hcz13_8 hcz13_9
            try clear hcz14_0 hcz14_1 hcz14_2 hcz14_3 hcz14_4 hcz14_5 hcz14_6 hcz14_7 hcz14_8 hcz14_9
            try clear hcz18_0 hcz18_1 hcz18_2 hcz18_3 hcz18_4 hcz18_5 hcz18_6 hcz18_7 hcz18_8 hcz18_9
            try clear hcz25_0 hcz25_1 hcz25_2 hcz25_3
            try clear hcz27_0
            try clear hcz29_0 hcz29_1 hcz29_2 hcz29_3 hcz29_4 hcz29_5 hcz29_6 hcz29_7 hcz29_8 hcz29_9
            try clear hcz40_0 hcz40_1
            try clear hcz42_0 hcz42_1
            try clear hcz44_0 hcz44_1 hcz44_2 hcz44_3 hcz44_4 hcz44_5 hcz44_6 hcz44_7 hcz44_8 hcz44_9
            try clear hcz45_0
            try clear hcz49_0 hcz49_1
            try clear hcz51_0 hcz51_1
            try clear hcz53_0 hcz53_1 hcz53_2 hcz53_3 hcz53_4 hcz53_5 hcz53_6 hcz53_7 hcz53_8 hcz53_9
            try clear hcz57_0 hcz57_1
            try clear hcz61_0
            try clear hcz62_0 hcz62_1 hcz62_2 hcz62_3 hcz62_4 hcz62_5 hcz62_6 hcz62_7 hcz62_8 hcz62_9
            try clear hcz9_0 hcz9_1 hcz9_2 hcz9_3 hcz9_4 hcz9_5 hcz9_6 hcz9_7 hcz9_8 hcz9_9
            try clear hfz11_0 hfz11_1 hfz11_2 hfz11_3 hfz11_4 hfz11_5 hfz11_6 hfz11_7 hfz11_8 hfz11_9
            try clear hfz13_0 hfz13_1 hfz13_2 hfz13_3 hfz13_4 hfz13_5 hfz13_6 hfz13_7 hfz13_8 hfz13_9
            try clear hfz14_0 hfz14_1 hfz14_2 hfz14_3 hfz14_4 hfz14_5 hfz14_6 hfz14_7 hfz14_8 hfz14_9
            try clear hfz18_0 hfz18_1 hfz18_2 hfz18_3 hfz18_4 hfz18_5 hfz18_6 hfz18_7 hfz18_8 hfz18_9
            try clear hfz25_0 hfz25_1 hfz25_2 hfz25_3
            try clear hfz27_0
            try clear hfz29_0 hfz29_1 hfz29_2 hfz29_3 hfz29_4 hfz29_5 hfz29_6 hfz29_7 hfz29_8 hfz29_9
            try clear hfz40_0 hfz40_1
            try clear hfz42_0 hfz42_1
            try clear hfz44_0 hfz44_1 hfz44_2 hfz44_3 hfz44_4 hfz44_5 hfz44_6 hfz44_7 hfz44_8 hfz44_9
            try clear hfz45_0
            try clear hfz49_0 hfz49_1
            try clear hfz51_0 hfz51_1
            try clear hfz53_0 hfz53_1 hfz53_2 hfz53_3 hfz53_4 hfz53_5 hfz53_6 hfz53_7 hfz53_8 hfz53_9
            try clear hfz57_0 hfz57_1
            try clear hfz61_0
            try clear hfz62_0 hfz62_1 hfz62_2 hfz62_3 hfz62_4 hfz62_5 hfz62_6 hfz62_7 hfz62_8 hfz62_9
            try clear hfz9_0 hfz9_1 hfz9_2 hfz9_3 hfz9_4 hfz9_5 hfz9_6 hfz9_7 hfz9_8 hfz9_9
            try clear hx310_0
            try clear hx310_1
            try clear hx310_2
            try clear hx310_3
            try clear hx312_0
            try clear hx312_1
            try clear p2
            try clear p3
            try clear p310
            try clear p312
            try clear p6
            try clear q3
            try clear q310
            try clear q312
            obtain ⟨x93_4,rfl,HA,HK4,BK305,BK309,HB⟩ := hrel
            cases gk with
            | zero => exact absurd HA.out (by simp [impl_StateOK.l2])
            | succ k4 =>
             have H := HA.out
             clear HA
             simp only [impl_StateOK.l2] at H
             by_cases c63 : x93_4 < 3
             ·rw [if_pos c63] at H
              have c63b0 : decide (x93_4 < 3) = true := decide_eq_true c63
              clear c63
              by_cases c64 : 0 ≤ x93_4
              ·rw [if_pos c64] at H
               have c64b0 : decide (0 ≤ x93_4) = true := decide_eq_true c64
               clear c64
               replace H := Option.bind_eq_some_iff.mp H
               obtain ⟨t319,A650,H⟩ := H
               try dsimp only at H
               have A65 := Aside0.mk A650
               clear A650
               by_cases c66 : t319 = true
               ·subst c66
                rw [if_pos rfl] at H
                replace H := Option.bind_eq_some_iff.mp H
                obtain ⟨t320,A670,H⟩ := H
                try dsimp only at H
                have A67 := Aside0.mk A670
                clear A670
                have H' := Aside0.mk H
                clear H
                have hia68 := ia_dyn (P:=Tryz.prog) (t:=24) (e:=3) Tryz.underlying24 (by kernel_rfl) (by kernel_rfl) gb305 4 x93_4 (od) (od)
                have hnb69 := NB305_309.out
                have hnc69 := NB309_305.out
                obtain ⟨hcz70_0,hcz70_1,hcz70_2,hcz70_3,hcz70_4,hcz70_5,hcz70_6,hcz70_7,hcz70_8,hcz70_9⟩ := cl10 BK305.out
                obtain ⟨hfz70_0,hfz70_1,hfz70_2,hfz70_3,hfz70_4,hfz70_5,hfz70_6,hfz70_7,hfz70_8,hfz70_9⟩ := fz10 BK305.out
                have hca71 : wr.cell? ⟨gb305,4 + x93_4.toNat,none⟩ = some (.int .i64 (at3 x93_4 a0_4 a0_5 a0_6)) := at3_cell (od) (od) (bl BK305 4) (bl BK305 5) (bl BK305 6)
                go_wp2_with (first | ((with_reducible refine gate_callee (f:=42) rfl ?_); refine goesL_ (some 101) rfl rfl Tryz.func42 (by kernel_rfl) rfl #[.int .i64 (at3 x93_4 a0_4 a0_5 a0_6),.int .i64 0,.int .i64 100000] rfl mA ?_; (with_reducible refine (impl_within.calls (at3 x93_4 a0_4 a0_5 a0_6) 0 100000 true _ A65.out).mono ?_); rintro e w' ⟨rfl,⟨nd,rfl⟩⟩; refine ⟨_,rfl,?_⟩) | ((with_reducible refine gate_callee (f:=46) rfl ?_); refine goesL_ (some 105) rfl rfl Tryz.func46 (by kernel_rfl) rfl #[.agg #[.int .i64 a0_0,.int .i64 a0_1,.slice A0_2 l0_2.length c0_2,.slice A0_3 l0_3.length c0_3,.int .i64 a0_4,.int .i64 a0_5,.int .i64 a0_6,.int .i64 a0_7,.int .i64 a0_8,.int .i64 a0_9],.int .i64 x93_4] rfl mA ?_; (with_reducible refine (impl_State_of.calls k4 a0_0 a0_1 _ _ l0_2 _ _ l0_3 a0_4 a0_5 a0_6 a0_7 a0_8 a0_9 x93_4 t320 _ ?side1 ?side2 ?side3 ?side4 A67.out).mono ?_); (case side1 => exact sD HR0_2.out); (case side2 => exact HC0_2.out); (case side3 => exact sD HR0_3.out); (case side4 => exact HC0_3.out); rintro e w72 ⟨v321,rfl,ho0,hb⟩; refine ⟨_,rfl,?_⟩; have n0_ := Aside0.mk (Kd.R_lower ho0 (below_size bA)); have n1_ := Aside0.mk (bb BK305.out hb); have n2_ := Aside0.mk (blk_below (g:=gb309) (o:=om_) (kA BK309.out) hb); have n3_ := Aside0.mk (below_step bA hb); clear BK305 BK309 HB; have HO322 := n0_; have BK305 := n1_; have BK309 := n2_; have HB := n3_; clear n0_ n1_ n2_ n3_; (try clear hb); (try clear hb2); (try clear hk); (try clear hi); (try clear ho0); obtain ⟨Ao73,co73,eo73⟩ := Kd.R_slice HO322.out; subst eo73))
                go_loopg [13,107] k4 (fun kq v13 v107 w' => ∃ (x13_5 : Int) (x107_5 : Int),v13 = .int .i64 x13_5 ∧ v107 = .int .i64 x107_5 ∧ Aside0 (impl_StateOK.l3 kq x93_4 x13_5 x93_4 t320 (t320.length : Int) x107_5 a0_0 a0_1 l0_2 l0_3 a0_4 a0_5 a0_6 a0_7 a0_8 a0_9 = some r) ∧ Aside0 (kq ≤ k4) ∧ Aside0 (Kd.R k64 64 w' w.heap.size (fun _ => True) (.slice Ao73 t320.length co73) t320) ∧ Aside0 (w'.heap[gb305]? = some (.cells #[.int .i64 a0_0,.int .i64 a0_1,(.slice A0_2 l0_2.length c0_2),(.slice A0_3 l0_3.length c0_3),.int .i64 a0_4,.int .i64 a0_5,.int .i64 a0_6,.int .i64 a0_7,.int .i64 a0_8,.int .i64 a0_9] 35 (0,0))) ∧ Aside0 (w'.heap[gb309]? = some om_) ∧ Aside0 (Below w.heap.size w w'))
                case atStart => exact ⟨((at3 x93_4 a0_4 a0_5 a0_6)),(0),(by first | rfl | (simp; done) | (simp [*]; done)),(by first | rfl | (simp; done) | (simp [*]; done)),H',⟨Nat.le_refl _⟩,⟨rA HO322.out⟩,⟨kA BK305.out⟩,⟨kA BK309.out⟩,⟨bA⟩⟩
                case round =>
                 clear H'
                 try clear c1
                 try clear c2
                 try clear p2
                 try clear c3
                 try clear p3
                 try clear q3
                 try clear hx3
                 try clear c4
                 try clear c5
                 try clear c6
                 try clear p6
                 try clear c7
                 try clear c8
                 try clear c8b0
                 try clear c15
                 try clear c17
                 try clear c19
                 try clear c19b0
                 try clear c20
                 try clear c20b0
                 try clear c21
                 try clear c21b0
                 try clear c23
                 try clear c24
                 try clear c26
                 try clear c28
                 try clear c30
                 try clear c30b0
                 try clear c31
                 try clear c31b0
                 try clear p31
                 try clear q31
                 try clear hx31
                 try clear c32
                 try clear c32b0
                 try clear c34
                 try clear c36
                 try clear c38
                 try clear c39
                 try clear c42
                 try clear c43
                 try clear c45
                 try clear c46
                 try clear c47
                 try clear c48
                 try clear c52
                 try clear c55
                 try clear c56
                 try clear c59
                 try clear c59b0
                 try clear c59b1
                 try clear c60
                 try clear c63
                 try clear c63b0
                 try clear c64
                 try clear c64b0
                 try clear p64
                 try clear c66
                 try clear c69
                 try clear hcz11_0 hcz11_1 hcz11_2 hcz11_3 hcz11_4 hcz11_5 hcz11_6 hcz11_7 hcz11_8 hcz11_9
                 try clear hcz13_0 hcz13_1 hcz13_2 hcz13_3 hcz13_4 hcz13_5 hcz13_6 hcz13_7 hcz13_8 hcz13_9
                 try clear hcz14_0 hcz14_1 hcz14_2 hcz14_3 hcz14_4 hcz14_5 hcz14_6 hcz14_7 hcz14_8 hcz14_9
                 try clear hcz18_0 hcz18_1 hcz18_2 hcz18_3 hcz18_4 hcz18_5 hcz18_6 hcz18_7 hcz18_8 hcz18_9
                 try clear hcz25_0 hcz25_1 hcz25_2 hcz25_3
                 try clear hcz27_0
                 try clear hcz29_0 hcz29_1 hcz29_2 hcz29_3 hcz29_4 hcz29_5 hcz29_6 hcz29_7 hcz29_8 hcz29_9
                 try clear hcz40_0 hcz40_1
                 try clear hcz42_0 hcz42_1
                 try clear hcz44_0 hcz44_1 hcz44_2 hcz44_3 hcz44_4 hcz44_5 hcz44_6 hcz44_7 hcz44_8 hcz44_9
                 try clear hcz45_0
                 try clear hcz49_0 hcz49_1
                 try clear hcz51_0 hcz51_1
                 try clear hcz53_0 hcz53_1 hcz53_2 hcz53_3 hcz53_4 hcz53_5 hcz53_6 hcz53_7 hcz53_8 hcz53_9
                 try clear hcz57_0 hcz57_1
                 try clear hcz61_0
                 try clear hcz62_0 hcz62_1 hcz62_2 hcz62_3 hcz62_4 hcz62_5 hcz62_6 hcz62_7 hcz62_8 hcz62_9
                 try clear hcz70_0 hcz70_1 hcz70_2 hcz70_3 hcz70_4 hcz70_5 hcz70_6 hcz70_7 hcz70_8 hcz70_9
                 try clear hcz9_0 hcz9_1 hcz9_2 hcz9_3 hcz9_4 hcz9_5 hcz9_6 hcz9_7 hcz9_8 hcz9_9
                 try clear hfz11_0 hfz11_1 hfz11_2 hfz11_3 hfz11_4 hfz11_5 hfz11_6 hfz11_7 hfz11_8 hfz11_9
                 try clear hfz13_0 hfz13_1 hfz13_2 hfz13_3 hfz13_4 hfz13_5 hfz13_6 hfz13_7 hfz13_8 hfz13_9
                 try clear hfz14_0 hfz14_1 hfz14_2 hfz14_3 hfz14_4 hfz14_5 hfz14_6 hfz14_7 hfz14_8 hfz14_9
                 try clear hfz18_0 hfz18_1 hfz18_2 hfz18_3 hfz18_4 hfz18_5 hfz18_6 hfz18_7 hfz18_8 hfz18_9
                 try clear hfz25_0 hfz25_1 hfz25_2 hfz25_3
                 try clear hfz27_0
                 try clear hfz29_0 hfz29_1 hfz29_2 hfz29_3 hfz29_4 hfz29_5 hfz29_6 hfz29_7 hfz29_8 hfz29_9
                 try clear hfz40_0 hfz40_1
                 try clear hfz42_0 hfz42_1
                 try clear hfz44_0 hfz44_1 hfz44_2 hfz44_3 hfz44_4 hfz44_5 hfz44_6 hfz44_7 hfz44_8 hfz44_9
                 try clear hfz45_0
                 try clear hfz49_0 hfz49_1
                 try clear hfz51_0 hfz51_1
                 try clear hfz53_0 hfz53_1 hfz53_2 hfz53_3 hfz53_4 hfz53_5 hfz53_6 hfz53_7 hfz53_8 hfz53_9
                 try clear hfz57_0 hfz57_1
                 try clear hfz61_0
                 try clear hfz62_0 hfz62_1 hfz62_2 hfz62_3 hfz62_4 hfz62_5 hfz62_6 hfz62_7 hfz62_8 hfz62_9
                 try clear hfz70_0 hfz70_1 hfz70_2 hfz70_3 hfz70_4 hfz70_5 hfz70_6 hfz70_7 hfz70_8 hfz70_9
                 try clear hfz9_0 hfz9_1 hfz9_2 hfz9_3 hfz9_4 hfz9_5 hfz9_6 hfz9_7 hfz9_8 hfz9_9
                 try clear hx310_0
                 try clear hx310_1
                 try clear hx310_2
                 try clear hx310_3
                 try clear hx312_0
                 try clear hx312_1
                 try clear p2
                 try clear p3
                 try clear p31
                 try clear p310
                 try clear p312
                 try clear p6
                 try clear q3
                 try clear q31
                 try clear q310
                 try clear q312
                 obtain ⟨x13_5,x107_5,rfl,rfl,HA,HK5,HO_105,BK305,BK309,HB⟩ := hrel
                 cases gk with
                 | zero => exact absurd HA.out (by simp [impl_StateOK.l3])
                 | succ k5 =>
                  have H := HA.out
                  clear HA
                  simp only [impl_StateOK.l3] at H
                  by_cases c74 : x107_5 < (t320.length : Int)
                  ·rw [if_pos c74] at H
                   have c74b0 : decide (x107_5 < (t320.length : Int)) = true := decide_eq_true c74
                   clear c74
                   by_cases c75 : 0 ≤ x107_5
                   ·rw [if_pos c75] at H
                    have c75b0 : decide (0 ≤ x107_5) = true := decide_eq_true c75
                    clear c75
                    by_cases c76 : x107_5 < (t320.length : Int)
                    ·rw [if_pos c76] at H
                     have c76b0 : decide (x107_5 < (t320.length : Int)) = true := decide_eq_true c76
                     clear c76
                     by_cases c77 : ((rd_T64 t320 x107_5).f1) = x13_5
                     ·rw [if_pos c77] at H
                      have c77b0 : (((rd_T64 t320 x107_5).f1) == x13_5) = true := beq_iff_eq.mpr c77
                      have c77b1 : (((rd_T64 t320 x107_5).f1) != x13_5) = false := bne_eq_false_iff_eq.mpr c77
                      clear c77
                      have H' := Aside0.mk H
                      clear H
                      have p323 : 0 ≤ (x107_5 : Int) := od
                      have q323 : x107_5 < (t320.length : Int) := od
                      obtain ⟨ad323,e323,hx323_0,hx323_1,hx323_2,hx323_3⟩ := at_T64 (Kd.R_reads' HO_105.out).2.2 x107_5 p323 q323
                      cases e323
                      replace p323 := eq_true p323
                      replace q323 := eq_true q323
                      go_wp2_with (first | ((with_reducible refine gate_dst (N:=15) rfl ?_); (try (refine gate_guard (by rfl) ?_; dsimp only)); refine box_event ?hg (N:=15) ?hd (cs := #[.int .i64 0,.int .i64 0,.int .i64 0,.string (⟨#[]⟩ : ByteArray)]) (t:=64) ?hr ?_; (case hd => rfl); (case hg => rfl); (case hr => first | (go_simp; done) | (go_simp; rfl)); intro gb324 hg w78 hbox hb; have n0_ := Aside0.mk (Kd.R_below (Kd.R_elderB (rA HO_105.out) gb324 (Nat.le_of_eq hg.symm)) hb); have n1_ := Aside0.mk (bb BK305.out hb); have n2_ := Aside0.mk (blk_below (g:=gb309) (o:=om_) (kA BK309.out) hb); have n3_ := Aside0.mk (below_step bA hb); have n4_ := Aside0.mk (hbox); have n5_ := Aside0.mk ((gw hg : w.heap.size ≤ gb324)); have n6_ := Aside0.mk ((gw hg : w.heap.size ≤ gb324)); have n7_ := Aside0.mk ((nl hg BK305.out)); have n8_ := Aside0.mk ((ng hg BK305.out)); have n9_ := Aside0.mk ((by rw [hg]; exact Nat.ne_of_lt (blk_lt (g:=gb309) (o:=om_) (kA BK309.out)) : gb309 ≠ gb324)); have n10_ := Aside0.mk ((by rw [hg]; exact Nat.ne_of_gt (blk_lt (g:=gb309) (o:=om_) (kA BK309.out)) : gb324 ≠ gb309)); clear HO_105 BK305 BK309 HB; have HO_105 := n0_; have BK305 := n1_; have BK309 := n2_; have HB := n3_; have BK324 := n4_; have GW324 := n5_; have GE324 := n6_; have NB305_324 := n7_; have NB324_305 := n8_; have NB309_324 := n9_; have NB324_309 := n10_; clear n0_ n1_ n2_ n3_ n4_ n5_ n6_ n7_ n8_ n9_ n10_; clear hb hbox hg; have hnb79 := NB324_305.out; have hnc79 := NB305_324.out; have hnb80 := NB324_309.out; have hnc80 := NB309_324.out; obtain ⟨hcz81_0,hcz81_1,hcz81_2,hcz81_3⟩ := cl4 BK324.out; obtain ⟨hfz81_0,hfz81_1,hfz81_2,hfz81_3⟩ := fz4 BK324.out))
                      go_roundg k5
                      case measure => have := HJ1.out; have := HK2.out; have := HK3.out; have := HK4.out; have := HK5.out; omega
                      case rel => exact ⟨((rd_T64 t320 x107_5).f2),(wrap64 (x107_5 + 1)),(by first | rfl | (simp; done) | (simp [*]; done)),(by first | rfl | (simp; done) | (simp [*]; done)),H',⟨by have := HJ1.out; have := HK2.out; have := HK3.out; have := HK4.out; have := HK5.out; omega⟩,⟨by (with_reducible repeat (first | apply Kd.R_alloc | apply Kd.R_drewN | apply Kd.R_drew)); exact Kd.R_mono (Kd.R_far (p:=⟨gb324,3,none⟩) (Kd.R_far (p:=⟨gb324,2,none⟩) (Kd.R_far (p:=⟨gb324,1,none⟩) (Kd.R_far (p:=⟨gb324,0,none⟩) (Kd.R_mono HO_105.out (fun k_ hk => (⟨hk,hk.2⟩ : _ ∧ k_ ≠ gb324))) (fun _ hk => hk.2) (.int .i64 ((rd_T64 t320 x107_5).f0))) (fun _ hk => hk.2) (.int .i64 ((rd_T64 t320 x107_5).f1))) (fun _ hk => hk.2) (.int .i64 ((rd_T64 t320 x107_5).f2))) (fun _ hk => hk.2) (.string ((rd_T64 t320 x107_5).f3))) (fun _ hk => trivial)⟩,⟨kF BK305.out⟩,⟨by (with_reducible repeat (first | refine blk_drewN ?_ _ | refine blk_drew ?_ | refine blk_alloc ?_ _)); refine mblk_far ?_ NB309_324.out _; (with_reducible repeat (first | refine blk_drewN ?_ _ | refine blk_drew ?_ | refine blk_alloc ?_ _)); refine mblk_far ?_ NB309_324.out _; (with_reducible repeat (first | refine blk_drewN ?_ _ | refine blk_drew ?_ | refine blk_alloc ?_ _)); refine mblk_far ?_ NB309_324.out _; (with_reducible repeat (first | refine blk_drewN ?_ _ | refine blk_drew ?_ | refine blk_alloc ?_ _)); refine mblk_far ?_ NB309_324.out _; (with_reducible repeat (first | refine blk_drewN ?_ _ | refine blk_drew ?_ | refine blk_alloc ?_ _)); exact BK309.out⟩,⟨bA⟩⟩
                     ·rw [if_neg c77] at H
                      have c77b0 : (((rd_T64 t320 x107_5).f1) == x13_5) = false := beq_eq_false_iff_ne.mpr c77
                      have c77b1 : (((rd_T64 t320 x107_5).f1) != x13_5) = true := bne_iff_ne.mpr c77
                      obtain rfl := Option.some.inj H
                      have p323 : 0 ≤ (x107_5 : Int) := od
                      have q323 : x107_5 < (t320.length : Int) := od
                      obtain ⟨ad323,e323,hx323_0,hx323_1,hx323_2,hx323_3⟩ := at_T64 (Kd.R_reads' HO_105.out).2.2 x107_5 p323 q323
                      cases e323
                      replace p323 := eq_true p323
                      replace q323 := eq_true q323
                      go_wp2_with (first | ((with_reducible refine gate_dst (N:=15) rfl ?_); (try (refine gate_guard (by rfl) ?_; dsimp only)); refine box_event ?hg (N:=15) ?hd (cs := #[.int .i64 0,.int .i64 0,.int .i64 0,.string (⟨#[]⟩ : ByteArray)]) (t:=64) ?hr ?_; (case hd => rfl); (case hg => rfl); (case hr => first | (go_simp; done) | (go_simp; rfl)); intro gb324 hg w82 hbox hb; have n0_ := Aside0.mk (Kd.R_below (Kd.R_elderB (rA HO_105.out) gb324 (Nat.le_of_eq hg.symm)) hb); have n1_ := Aside0.mk (bb BK305.out hb); have n2_ := Aside0.mk (blk_below (g:=gb309) (o:=om_) (kA BK309.out) hb); have n3_ := Aside0.mk (below_step bA hb); have n4_ := Aside0.mk (hbox); have n5_ := Aside0.mk ((gw hg : w.heap.size ≤ gb324)); have n6_ := Aside0.mk ((gw hg : w.heap.size ≤ gb324)); have n7_ := Aside0.mk ((nl hg BK305.out)); have n8_ := Aside0.mk ((ng hg BK305.out)); have n9_ := Aside0.mk ((by rw [hg]; exact Nat.ne_of_lt (blk_lt (g:=gb309) (o:=om_) (kA BK309.out)) : gb309 ≠ gb324)); have n10_ := Aside0.mk ((by rw [hg]; exact Nat.ne_of_gt (blk_lt (g:=gb309) (o:=om_) (kA BK309.out)) : gb324 ≠ gb309)); clear HO_105 BK305 BK309 HB; have HO_105 := n0_; have BK305 := n1_; have BK309 := n2_; have HB := n3_; have BK324 := n4_; have GW324 := n5_; have GE324 := n6_; have NB305_324 := n7_; have NB324_305 := n8_; have NB309_324 := n9_; have NB324_309 := n10_; clear n0_ n1_ n2_ n3_ n4_ n5_ n6_ n7_ n8_ n9_ n10_; clear hb hbox hg; have hnb83 := NB324_305.out; have hnc83 := NB305_324.out; have hnb84 := NB324_309.out; have hnc84 := NB309_324.out; obtain ⟨hcz85_0,hcz85_1,hcz85_2,hcz85_3⟩ := cl4 BK324.out; obtain ⟨hfz85_0,hfz85_1,hfz85_2,hfz85_3⟩ := fz4 BK324.out))
                      go_ret
                      exact ⟨by first | rfl | (simp only [i64_w,i32_w] <;> rfl) | (simp [errW_none,errW_some] <;> rfl) | (simp [*,errW_none,errW_some] <;> rfl),bA⟩
                    ·rw [if_neg c76] at H
                     exact absurd H (by simp)
                   ·rw [if_neg c75] at H
                    exact absurd H (by simp)
                  ·rw [if_neg c74] at H
                   have c74b0 : decide (x107_5 < (t320.length : Int)) = false := decide_eq_false c74
                   clear c74
                   by_cases c86 : 0 ≤ x93_4
                   ·rw [if_pos c86] at H
                    have c86b0 : decide (0 ≤ x93_4) = true := decide_eq_true c86
                    clear c86
                    by_cases c87 : x93_4 < 3
                    ·rw [if_pos c87] at H
                     have c87b0 : decide (x93_4 < 3) = true := decide_eq_true c87
                     clear c87
                     by_cases c88 : x13_5 = (at3 x93_4 a0_7 a0_8 a0_9)
                     ·rw [if_pos c88] at H
                      have c88b0 : (x13_5 == (at3 x93_4 a0_7 a0_8 a0_9)) = true := beq_iff_eq.mpr c88
                      have c88b1 : (x13_5 != (at3 x93_4 a0_7 a0_8 a0_9)) = false := bne_eq_false_iff_eq.mpr c88
                      clear c88
                      have H' := Aside0.mk H
                      clear H
                      have hia89 := ia_dyn (P:=Tryz.prog) (t:=24) (e:=3) Tryz.underlying24 (by kernel_rfl) (by kernel_rfl) gb305 7 x93_4 (od) (od)
                      have hnb90 := NB305_309.out
                      have hnc90 := NB309_305.out
                      obtain ⟨hcz91_0,hcz91_1,hcz91_2,hcz91_3,hcz91_4,hcz91_5,hcz91_6,hcz91_7,hcz91_8,hcz91_9⟩ := cl10 BK305.out
                      obtain ⟨hfz91_0,hfz91_1,hfz91_2,hfz91_3,hfz91_4,hfz91_5,hfz91_6,hfz91_7,hfz91_8,hfz91_9⟩ := fz10 BK305.out
                      have hca92 : wr.cell? ⟨gb305,7 + x93_4.toNat,none⟩ = some (.int .i64 (at3 x93_4 a0_7 a0_8 a0_9)) := at3_cell (od) (od) (bl BK305 7) (bl BK305 8) (bl BK305 9)
                      go_wp2
                      go_roundg k5
                      case measure => have := HJ1.out; have := HK2.out; have := HK3.out; have := HK4.out; have := HK5.out; omega
                      case rel => exact ⟨(wrap64 (x93_4 + 1)),(by first | rfl | (simp; done) | (simp [*]; done)),H',⟨by have := HJ1.out; have := HK2.out; have := HK3.out; have := HK4.out; have := HK5.out; omega⟩,⟨kA BK305.out⟩,⟨kA BK309.out⟩,⟨bA⟩⟩
                     ·rw [if_neg c88] at H
                      have c88b0 : (x13_5 == (at3 x93_4 a0_7 a0_8 a0_9)) = false := beq_eq_false_iff_ne.mpr c88
                      have c88b1 : (x13_5 != (at3 x93_4 a0_7 a0_8 a0_9)) = true := bne_iff_ne.mpr c88
                      obtain rfl := Option.some.inj H
                      have hia93 := ia_dyn (P:=Tryz.prog) (t:=24) (e:=3) Tryz.underlying24 (by kernel_rfl) (by kernel_rfl) gb305 7 x93_4 (od) (od)
                      have hnb94 := NB305_309.out
                      have hnc94 := NB309_305.out
                      obtain ⟨hcz95_0,hcz95_1,hcz95_2,hcz95_3,hcz95_4,hcz95_5,hcz95_6,hcz95_7,hcz95_8,hcz95_9⟩ := cl10 BK305.out
                      obtain ⟨hfz95_0,hfz95_1,hfz95_2,hfz95_3,hfz95_4,hfz95_5,hfz95_6,hfz95_7,hfz95_8,hfz95_9⟩ := fz10 BK305.out
                      have hca96 : wr.cell? ⟨gb305,7 + x93_4.toNat,none⟩ = some (.int .i64 (at3 x93_4 a0_7 a0_8 a0_9)) := at3_cell (od) (od) (bl BK305 7) (bl BK305 8) (bl BK305 9)
                      go_wp2
                      go_ret
                      exact ⟨by first | rfl | (simp only [i64_w,i32_w] <;> rfl) | (simp [errW_none,errW_some] <;> rfl) | (simp [*,errW_none,errW_some] <;> rfl),bA⟩
                    ·rw [if_neg c87] at H
                     exact absurd H (by simp)
                   ·rw [if_neg c86] at H
                    exact absurd H (by simp)
               ·replace c66 := Bool.eq_false_iff.mpr c66
                subst c66
                rw [if_neg (show ¬ (false = true) by decide)] at H
                obtain rfl := Option.some.inj H
                have hia97 := ia_dyn (P:=Tryz.prog) (t:=24) (e:=3) Tryz.underlying24 (by kernel_rfl) (by kernel_rfl) gb305 4 x93_4 (od) (od)
                have hnb98 := NB305_309.out
                have hnc98 := NB309_305.out
                obtain ⟨hcz99_0,hcz99_1,hcz99_2,hcz99_3,hcz99_4,hcz99_5,hcz99_6,hcz99_7,hcz99_8,hcz99_9⟩ := cl10 BK305.out
                obtain ⟨hfz99_0,hfz99_1,hfz99_2,hfz99_3,hfz99_4,hfz99_5,hfz99_6,hfz99_7,hfz99_8,hfz99_9⟩ := fz10 BK305.out
                have hca100 : wr.cell? ⟨gb305,4 + x93_4.toNat,none⟩ = some (.int .i64 (at3 x93_4 a0_4 a0_5 a0_6)) := at3_cell (od) (od) (bl BK305 4) (bl BK305 5) (bl BK305 6)
                go_wp2_with (first | ((with_reducible refine gate_callee (f:=42) rfl ?_); refine goesL_ (some 101) rfl rfl Tryz.func42 (by kernel_rfl) rfl #[.int .i64 (at3 x93_4 a0_4 a0_5 a0_6),.int .i64 0,.int .i64 100000] rfl mA ?_; (with_reducible refine (impl_within.calls (at3 x93_4 a0_4 a0_5 a0_6) 0 100000 false _ A65.out).mono ?_); rintro e w' ⟨rfl,⟨nd,rfl⟩⟩; refine ⟨_,rfl,?_⟩))
                go_ret
                exact ⟨by first | rfl | (simp only [i64_w,i32_w] <;> rfl) | (simp [errW_none,errW_some] <;> rfl) | (simp [*,errW_none,errW_some] <;> rfl),bA⟩
              ·rw [if_neg c64] at H
               exact absurd H (by simp)
             ·rw [if_neg c63] at H
              have c63b0 : decide (x93_4 < 3) = false := decide_eq_false c63
              clear c63
              obtain rfl := Option.some.inj H
              go_wp2
              go_ret
              exact ⟨by first | rfl | (simp only [i64_w,i32_w] <;> rfl) | (simp [errW_none,errW_some] <;> rfl) | (simp [*,errW_none,errW_some] <;> rfl),bA⟩
          ·rw [if_neg c59] at H
           have c59b0 : ((x310000_3.length : Int) == (wrap64 ((l0_2.length : Int) + (l0_3.length : Int)))) = false := beq_eq_false_iff_ne.mpr c59
           have c59b1 : ((x310000_3.length : Int) != (wrap64 ((l0_2.length : Int) + (l0_3.length : Int)))) = true := bne_iff_ne.mpr c59
           obtain rfl := Option.some.inj H
           have hnb101 := NB309_305.out
           have hnc101 := NB305_309.out
           have hlen_ := MO_.out.len Tryz.underlying81 3 BK309.out
           obtain ⟨hcz103_0,hcz103_1,hcz103_2,hcz103_3,hcz103_4,hcz103_5,hcz103_6,hcz103_7,hcz103_8,hcz103_9⟩ := cl10 BK305.out
           obtain ⟨hfz103_0,hfz103_1,hfz103_2,hfz103_3,hfz103_4,hfz103_5,hfz103_6,hfz103_7,hfz103_8,hfz103_9⟩ := fz10 BK305.out
           go_wp2
           go_ret
           exact ⟨by first | rfl | (simp only [i64_w,i32_w] <;> rfl) | (simp [errW_none,errW_some] <;> rfl) | (simp [*,errW_none,errW_some] <;> rfl),bA⟩

end Go.Proofs.YtfondhlknkhmmaaGreatDoor.XFnExactOrphansOf
