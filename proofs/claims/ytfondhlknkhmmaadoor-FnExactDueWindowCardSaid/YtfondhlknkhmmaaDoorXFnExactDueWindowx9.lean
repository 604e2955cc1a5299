-- Printed by this session's own program wip/tools/xprint.py, which widens the kit's print. Not trusted: Lean checks it.
import Derived.Test.YtfondhlknkhmmaaDoorXFnExactDueWindowx0
import Derived.Test.YtfondhlknkhmmaaDoorXFnExactDueWindowx7
import Derived.Test.YtfondhlknkhmmaaDoorXFnExactDueWindowx8
namespace Go.Proofs.YtfondhlknkhmmaaDoor.XFnExactDueWindow
open List (setIfInBounds_toArray set_cons_zero set_cons_succ)
open Go.RowKit Go.Proofs.YtfondhlknkhmmaaDoorW.PrintWords Go.Proofs.YtfondhlknkhmmaaDoorW.PrintLast Go.Proofs.YtfondhlknkhmmaaDoorW.PrintMore
attribute [local go_sem] max2_int min2_int max_two min_two max_three min_three max_four min_four   -- for this text's walks alone
set_option linter.unusedVariables false
set_option linter.unusedSimpArgs false

/-! ### impl_StateOK: function 9 -/
/-- The keys of a map behind one that is put. -/
def memK (s : ByteArray) (l : List ByteArray) : Bool := l.any fun y => y.data.toList == s.data.toList
def insK (s : ByteArray) (l : List ByteArray) : List ByteArray := if memK s l = true then l else s :: l
/-- An object that is a map whose keys are just the texts of l, each once. -/
def MapS (P : Program) (k e : TypeId) (o : Obj) (l : List ByteArray) : Prop :=
 ∃ es clock,∃ D : DataW Unit,o = .map es clock ∧ Go.WideElems.Fit P k (plainElem (H:=Unit) P e) es clock ∧ es.size ≤ l.length ∧ D = .map ((es.toList.map (Go.WideElems.rg P k (plainElem (H:=Unit) P e))).foldr DataW.insert []) ∧ Maps.Tidy D ∧ Maps.size D = l.length ∧ ∀ s : ByteArray,Maps.has D (.string s.data.toList) = memK s l
theorem MapS.world {P : Program} {k e : TypeId} {o : Obj} {l : List ByteArray} (h : MapS P k e o l) {w : World} {b : Nat} (hb : w.heap[b]? = some o) : ∃ D : DataW Unit,w.ownsMap P k (plainElem P e) b l.length D ∧ Maps.Tidy D ∧ Maps.size D = l.length ∧ ∀ s : ByteArray,Maps.has D (.string s.data.toList) = memK s l := by
 obtain ⟨es,clock,D,rfl,hF,hs,hD,hm,hz,ha⟩ := h
 exact ⟨D,⟨es,clock,hb,hF,hs,hD⟩,hm,hz,ha⟩
theorem MapS.made (P : Program) (k e : TypeId) : MapS P k e (.map #[] 0) [] := by
 obtain ⟨es,clock,hb,hF,hs,hD⟩ := World.ownsMap_made (H:=Unit) ⟨#[],default,default,default,default⟩ P k (plainElem P e)
 exact ⟨#[],0,.map [],rfl,⟨by simp,MapKept.stamped_empty 0,by simp⟩,Nat.le_refl _,rfl,Maps.tidy_empty,rfl,fun n => rfl⟩
/-- 'len(m)', as the walk meets it. -/
theorem MapS.len {P : Program} {t k e : TypeId} {b : Nat} {o : Obj} {l : List ByteArray} (h : MapS P k e o l) (ht : P.underlying t = some (.map k e)) (ty : TypeId) {w : World} (hb : w.heap[b]? = some o) : (Builtin.len_ #[t] ty #[.map (some b)]).run P w = .ok (.int .i64 l.length) w := by
 obtain ⟨D,h,hm,hz,ha⟩ := h.world hb
 rw [h.len ht ty,hz]
theorem keyOf_str {P : Program} {k : TypeId} (hk : P.underlying k = some .string) (s : ByteArray) (hs : s.size ≤ maxLen) : keyOf P k (.string s) = some (.string s.data.toList) := by
 simp [keyOf,hk,mapKey,hs]
section
variable {P : Program} {ops : Array Oper} {rest : List Oper} {o : Oper} {a : Act} {Q : Exit → Act → World → Prop}
theorem map_event {W : World} (hgd : o.guard = none) {N : Tmp} (_hd : o.dst = some N)
  (hrun : (execOp a.eval o).run P W = .ok (.value (.map (some W.heap.size))) (W.alloc (.map #[] 0)))
  (h : ∀ g,g = W.heap.size → ∀ w1,w1.heap[g]? = some (.map #[] 0) → Below W.heap.size W w1 → wpList P ops Q rest (a.put o.dst (.map (some g))) w1) : wpList P ops Q (o :: rest) a W :=
 Kd.event_run hgd hrun (h _ rfl _ (blk_new W _) (below_alloc (Below.refl _ _) _))
/-- 'm[s] = true'. -/
theorem mapput_event {W : World} (hgd : o.guard = none) {m x v : Operand} {t k e : TypeId} (hop : o.op = Op.mapUpdate t m x v) {b : Nat} {om : Obj} {l : List ByteArray} {s : ByteArray} (ht : P.underlying t = some (.map k e)) (hk : P.underlying k = some .string) (he : P.underlying e = some .bool)
  (hm : a.eval m = .map (some b)) (hx : a.eval x = .string s) (hv : a.eval v = .bool true) (hb : W.heap[b]? = some om) (hM : MapS P k e om l) (hs : s.size ≤ maxLen) (hl : l.length < maxLen)
  (h : ∀ w' om',w'.heap[b]? = some om' → MapS P k e om' (insK s l) → W.grownBy w' (some b) → wpList P ops Q rest (a.put o.dst undef) w') : wpList P ops Q (o :: rest) a W := by
 obtain ⟨D,hown,hmp,hz,ha⟩ := hM.world hb
 refine wpList_mapUpdate_own (H:=Unit) W hgd m x v t hop k e (Maps.string_keyed hk) ht _ b l.length D hm hown hl _ _ _ hx hv (keyOf_str hk s hs) _ _ (plainElem_bool he true) ?_
 intro w' ho hg
 have hkl : WideAt.IsKeyLit (.string s.data.toList) := trivial
 have hz' : Maps.size (D.put (.string s.data.toList) (.lit (.bool true))) = (insK s l).length := by
  rw [Maps.size_put hmp,ha s,hz]
  unfold insK
  cases hc : memK s l <;> simp
 have hlen : ∀ {es : Array MapEntry},Maps.size (DataW.map ((es.toList.map (Go.WideElems.rg P k (plainElem (H:=Unit) P e))).foldr DataW.insert [])) = es.size := by
  intro es
  simp [Maps.size,length_sorted]
 obtain ⟨es,clock,hb',hF,_,hD⟩ := ho
 have hsz : es.size = (insK s l).length := by rw [← hz',hD,hlen]
 refine h w' _ hb' ⟨es,clock,_,rfl,hF,Nat.le_of_eq hsz,hD,hmp.put hkl _,hz',fun y => ?_⟩ hg
 by_cases hy : y.data.toList = s.data.toList
 ·rw [hy,Maps.has_put_same hmp.isMap hkl]
  unfold insK
  cases hc : memK s l
  ·simp [memK,hy]
  ·rw [if_pos rfl]
   unfold memK at hc ⊢
   rw [hy,hc]
 ·rw [Maps.has_put_other (fun he_ => hy (by injection he_)),ha y]
  unfold insK
  cases hc : memK s l
  ·have : (s.data.toList == y.data.toList) = false := by rw [beq_eq_false_iff_ne]; exact fun h_ => hy h_.symm
   show memK y l = memK y (s :: l)
   unfold memK
   rw [List.any_cons,this,Bool.false_or]
  ·rfl
end
theorem mblk_far {w : World} {g : Nat} {o : Obj} (h : w.heap[g]? = some o) {p : Addr} (hp : g ≠ p.block) (u : Value) : (w.setCell p u).heap[g]? = some o := (Below.heap_setCell w p u g hp).trans h
mutual
def impl_StateOK.j0 : Nat → Bool → Int → Int → List (S39) → List (S55) → Int → Int → Int → Int → Int → Int → Option (Bool)
 | 0,_,_,_,_,_,_,_,_,_,_,_ => none
 | k + 1,x41,x294000,x294001,x294002,x294003,x294004,x294005,x294006,x294007,x294008,x294009 => if x41 = true then (some false) else (impl_StateOK.l0 k x294002 (x294002.length : Int) 0 x294000 x294001 x294002 x294003 x294004 x294005 x294006 x294007 x294008 x294009 [])
def impl_StateOK.l0 : Nat → List (S39) → Int → Int → Int → Int → List (S39) → List (S55) → Int → Int → Int → Int → Int → Int → List ByteArray → Option (Bool)
 | 0,_,_,_,_,_,_,_,_,_,_,_,_,_,_ => none
 | k + 1,x44,x45,x46,x294000,x294001,x294002,x294003,x294004,x294005,x294006,x294007,x294008,x294009,x298000 => if x46 < x45 then (if 0 ≤ x46 then (if x46 < (x44.length : Int) then (if x298000.length < 100000 ∧ (((rd_T39 x44 x46).f3)).size ≤ 140737488351232 then (impl_StateOK.l0 k x44 x45 (wrap64 (x46 + 1)) x294000 x294001 x294002 x294003 x294004 x294005 x294006 x294007 x294008 x294009 (insK ((rd_T39 x44 x46).f3) x298000)) else (none)) else (none)) else (none)) else (impl_StateOK.l1 k x294003 (x294003.length : Int) 0 x294000 x294001 x294002 x294003 x294004 x294005 x294006 x294007 x294008 x294009 x298000)
def impl_StateOK.l1 : Nat → List (S55) → Int → Int → Int → Int → List (S39) → List (S55) → Int → Int → Int → Int → Int → Int → List ByteArray → Option (Bool)
 | 0,_,_,_,_,_,_,_,_,_,_,_,_,_,_ => none
 | k + 1,x55,x56,x57,x294000,x294001,x294002,x294003,x294004,x294005,x294006,x294007,x294008,x294009,x298000 => if x57 < x56 then (if 0 ≤ x57 then (if x57 < (x55.length : Int) then ((impl_readDataKey.f k ((rd_T55 x55 x57).f1)).bind fun bt302 => (if bt302.2.2.2 = true then ((impl_within.f ((rd_T55 x55 x57).f0) 1 x294000).bind fun t306 => (if t306 = true then (if x298000.length < 100000 ∧ (((rd_T55 x55 x57).f1)).size ≤ 140737488351232 then (impl_StateOK.l1 k x55 x56 (wrap64 (x57 + 1)) x294000 x294001 x294002 x294003 x294004 x294005 x294006 x294007 x294008 x294009 (insK ((rd_T55 x55 x57).f1) x298000)) else (none)) else (some false))) else (some false))) else (none)) else (none)) else (if (x298000.length : Int) = (wrap64 ((x294002.length : Int) + (x294003.length : Int))) then (impl_StateOK.l2 k 0 x294000 x294001 x294002 x294003 x294004 x294005 x294006 x294007 x294008 x294009) else (some false))
def impl_StateOK.l2 : Nat → Int → Int → Int → List (S39) → List (S55) → Int → Int → Int → Int → Int → Int → Option (Bool)
 | 0,_,_,_,_,_,_,_,_,_,_,_ => none
 | k + 1,x93,x294000,x294001,x294002,x294003,x294004,x294005,x294006,x294007,x294008,x294009 => if x93 < 3 then (if 0 ≤ x93 then ((impl_within.f (at3 x93 x294004 x294005 x294006) 0 100000).bind fun t307 => (if t307 = true then ((impl_State_of.f k x294000 x294001 x294002 x294003 x294004 x294005 x294006 x294007 x294008 x294009 x93).bind fun t308 => (impl_StateOK.l3 k x93 (at3 x93 x294004 x294005 x294006) x93 t308 (t308.length : Int) 0 x294000 x294001 x294002 x294003 x294004 x294005 x294006 x294007 x294008 x294009)) else (some false))) else (none)) else (some true)
def impl_StateOK.l3 : Nat → Int → Int → Int → List (S39) → Int → Int → Int → Int → List (S39) → List (S55) → Int → Int → Int → Int → Int → Int → Option (Bool)
 | 0,_,_,_,_,_,_,_,_,_,_,_,_,_,_,_,_ => none
 | k + 1,x12,x13,x93,x105,x106,x107,x294000,x294001,x294002,x294003,x294004,x294005,x294006,x294007,x294008,x294009 => if x107 < x106 then (if 0 ≤ x107 then (if x107 < (x105.length : Int) then (if ((rd_T39 x105 x107).f1) = x13 then (impl_StateOK.l3 k x12 ((rd_T39 x105 x107).f2) x93 x105 x106 (wrap64 (x107 + 1)) x294000 x294001 x294002 x294003 x294004 x294005 x294006 x294007 x294008 x294009) else (some false)) else (none)) else (none)) else (if 0 ≤ x12 then (if x12 < 3 then (if x13 = (at3 x12 x294007 x294008 x294009) then (impl_StateOK.l2 k (wrap64 (x93 + 1)) x294000 x294001 x294002 x294003 x294004 x294005 x294006 x294007 x294008 x294009) else (some false)) else (none)) else (none))
end
def impl_StateOK.f (k : Nat) (a0_0 : Int) (a0_1 : Int) (l0_2 : List (S39)) (l0_3 : List (S55)) (a0_4 : Int) (a0_5 : Int) (a0_6 : Int) (a0_7 : Int) (a0_8 : Int) (a0_9 : Int) : Option (Bool) := (impl_isSix.f a0_0).bind fun t294 => (if t294 = true then ((impl_within.f a0_1 0 999999).bind fun t295 => (if t295 = true then (if (wrap64 ((l0_2.length : Int) + (l0_3.length : Int))) > 4096 then (impl_StateOK.j0 k true a0_0 a0_1 l0_2 l0_3 a0_4 a0_5 a0_6 a0_7 a0_8 a0_9) else ((impl_Entry.f k l0_2).bind fun t296 => (impl_StateOK.j0 k (!t296) a0_0 a0_1 l0_2 l0_3 a0_4 a0_5 a0_6 a0_7 a0_8 a0_9))) else (impl_StateOK.j0 k true a0_0 a0_1 l0_2 l0_3 a0_4 a0_5 a0_6 a0_7 a0_8 a0_9))) else (impl_StateOK.j0 k true a0_0 a0_1 l0_2 l0_3 a0_4 a0_5 a0_6 a0_7 a0_8 a0_9))
theorem impl_StateOK.mono_l : ∀ k,(∀ y0 y1 y2 y3 y4 y5 y6 y7 y8 y9 y10,LeO (impl_StateOK.j0 k y0 y1 y2 y3 y4 y5 y6 y7 y8 y9 y10) (impl_StateOK.j0 (k + 1) y0 y1 y2 y3 y4 y5 y6 y7 y8 y9 y10)) ∧ (∀ y0 y1 y2 y3 y4 y5 y6 y7 y8 y9 y10 y11 y12 y13,LeO (impl_StateOK.l0 k y0 y1 y2 y3 y4 y5 y6 y7 y8 y9 y10 y11 y12 y13) (impl_StateOK.l0 (k + 1) y0 y1 y2 y3 y4 y5 y6 y7 y8 y9 y10 y11 y12 y13)) ∧ (∀ y0 y1 y2 y3 y4 y5 y6 y7 y8 y9 y10 y11 y12 y13,LeO (impl_StateOK.l1 k y0 y1 y2 y3 y4 y5 y6 y7 y8 y9 y10 y11 y12 y13) (impl_StateOK.l1 (k + 1) y0 y1 y2 y3 y4 y5 y6 y7 y8 y9 y10 y11 y12 y13)) ∧ (∀ y0 y1 y2 y3 y4 y5 y6 y7 y8 y9 y10,LeO (impl_StateOK.l2 k y0 y1 y2 y3 y4 y5 y6 y7 y8 y9 y10) (impl_StateOK.l2 (k + 1) y0 y1 y2 y3 y4 y5 y6 y7 y8 y9 y10)) ∧ (∀ y0 y1 y2 y3 y4 y5 y6 y7 y8 y9 y10 y11 y12 y13 y14 y15,LeO (impl_StateOK.l3 k y0 y1 y2 y3 y4 y5 y6 y7 y8 y9 y10 y11 y12 y13 y14 y15) (impl_StateOK.l3 (k + 1) y0 y1 y2 y3 y4 y5 y6 y7 y8 y9 y10 y11 y12 y13 y14 y15))
 | 0 => ⟨fun _ _ _ _ _ _ _ _ _ _ _ r h => by simp [impl_StateOK.j0] at h,fun _ _ _ _ _ _ _ _ _ _ _ _ _ _ r h => by simp [impl_StateOK.l0] at h,fun _ _ _ _ _ _ _ _ _ _ _ _ _ _ r h => by simp [impl_StateOK.l1] at h,fun _ _ _ _ _ _ _ _ _ _ _ r h => by simp [impl_StateOK.l2] at h,fun _ _ _ _ _ _ _ _ _ _ _ _ _ _ _ _ r h => by simp [impl_StateOK.l3] at h⟩
 | k + 1 => by
  obtain ⟨ih0,ih1,ih2,ih3,ih4⟩ := impl_StateOK.mono_l k
  refine ⟨?_,?_,?_,?_,?_⟩
  ·intro y0 y1 y2 y3 y4 y5 y6 y7 y8 y9 y10
   unfold impl_StateOK.j0
   repeat' first
   | (with_reducible exact ih0 _ _ _ _ _ _ _ _ _ _ _)
   | (with_reducible exact ih1 _ _ _ _ _ _ _ _ _ _ _ _ _ _)
   | (with_reducible exact ih2 _ _ _ _ _ _ _ _ _ _ _ _ _ _)
   | (with_reducible exact ih3 _ _ _ _ _ _ _ _ _ _ _)
   | (with_reducible exact ih4 _ _ _ _ _ _ _ _ _ _ _ _ _ _ _ _)
   | (with_reducible exact impl_Entry.mono _ _)
   | (with_reducible exact impl_State_of.mono _ _ _ _ _ _ _ _ _ _ _ _)
   | (with_reducible exact impl_readDataKey.mono _ _)
   | (with_reducible exact LeO.refl _)
   | (with_reducible exact LeO.none _)
   | (with_reducible refine LeO.ite ?_ ?_)
   | (with_reducible refine LeO.bind ?_ (fun _ => ?_))
   | exact ih0 _ _ _ _ _ _ _ _ _ _ _
   | exact ih1 _ _ _ _ _ _ _ _ _ _ _ _ _ _
   | exact ih2 _ _ _ _ _ _ _ _ _ _ _ _ _ _
   | exact ih3 _ _ _ _ _ _ _ _ _ _ _
   | exact ih4 _ _ _ _ _ _ _ _ _ _ _ _ _ _ _ _
   | exact impl_Entry.mono _ _
   | exact impl_State_of.mono _ _ _ _ _ _ _ _ _ _ _ _
   | exact impl_readDataKey.mono _ _
   | exact LeO.none _
   | refine LeO.ite ?_ ?_
   | refine LeO.bind ?_ (fun _ => ?_)
  ·intro y0 y1 y2 y3 y4 y5 y6 y7 y8 y9 y10 y11 y12 y13
   unfold impl_StateOK.l0
   repeat' first
   | (with_reducible exact ih0 _ _ _ _ _ _ _ _ _ _ _)
   | (with_reducible exact ih1 _ _ _ _ _ _ _ _ _ _ _ _ _ _)
   | (with_reducible exact ih2 _ _ _ _ _ _ _ _ _ _ _ _ _ _)
   | (with_reducible exact ih3 _ _ _ _ _ _ _ _ _ _ _)
   | (with_reducible exact ih4 _ _ _ _ _ _ _ _ _ _ _ _ _ _ _ _)
   | (with_reducible exact impl_Entry.mono _ _)
   | (with_reducible exact impl_State_of.mono _ _ _ _ _ _ _ _ _ _ _ _)
   | (with_reducible exact impl_readDataKey.mono _ _)
   | (with_reducible exact LeO.refl _)
   | (with_reducible exact LeO.none _)
   | (with_reducible refine LeO.ite ?_ ?_)
   | (with_reducible refine LeO.bind ?_ (fun _ => ?_))
   | exact ih0 _ _ _ _ _ _ _ _ _ _ _
   | exact ih1 _ _ _ _ _ _ _ _ _ _ _ _ _ _
   | exact ih2 _ _ _ _ _ _ _ _ _ _ _ _ _ _
   | exact ih3 _ _ _ _ _ _ _ _ _ _ _
   | exact ih4 _ _ _ _ _ _ _ _ _ _ _ _ _ _ _ _
   | exact impl_Entry.mono _ _
   | exact impl_State_of.mono _ _ _ _ _ _ _ _ _ _ _ _
   | exact impl_readDataKey.mono _ _
   | exact LeO.none _
   | refine LeO.ite ?_ ?_
   | refine LeO.bind ?_ (fun _ => ?_)
  ·intro y0 y1 y2 y3 y4 y5 y6 y7 y8 y9 y10 y11 y12 y13
   unfold impl_StateOK.l1
   repeat' first
   | (with_reducible exact ih0 _ _ _ _ _ _ _ _ _ _ _)
   | (with_reducible exact ih1 _ _ _ _ _ _ _ _ _ _ _ _ _ _)
   | (with_reducible exact ih2 _ _ _ _ _ _ _ _ _ _ _ _ _ _)
   | (with_reducible exact ih3 _ _ _ _ _ _ _ _ _ _ _)
   | (with_reducible exact ih4 _ _ _ _ _ _ _ _ _ _ _ _ _ _ _ _)
   | (with_reducible exact impl_Entry.mono _ _)
   | (with_reducible exact impl_State_of.mono _ _ _ _ _ _ _ _ _ _ _ _)
   | (with_reducible exact impl_readDataKey.mono _ _)
   | (with_reducible exact LeO.refl _)
   | (with_reducible exact LeO.none _)
   | (with_reducible refine LeO.ite ?_ ?_)
   | (with_reducible refine LeO.bind ?_ (fun _ => ?_))
   | exact ih0 _ _ _ _ _ _ _ _ _ _ _
   | exact ih1 _ _ _ _ _ _ _ _ _ _ _ _ _ _
   | exact ih2 _ _ _ _ _ _ _ _ _ _ _ _ _ _
   | exact ih3 _ _ _ _ _ _ _ _ _ _ _
   | exact ih4 _ _ _ _ _ _ _ _ _ _ _ _ _ _ _ _
   | exact impl_Entry.mono _ _
   | exact impl_State_of.mono _ _ _ _ _ _ _ _ _ _ _ _
   | exact impl_readDataKey.mono _ _
   | exact LeO.none _
   | refine LeO.ite ?_ ?_
   | refine LeO.bind ?_ (fun _ => ?_)
  ·intro y0 y1 y2 y3 y4 y5 y6 y7 y8 y9 y10
   unfold impl_StateOK.l2
   repeat' first
   | (with_reducible exact ih0 _ _ _ _ _ _ _ _ _ _ _)
   | (with_reducible exact ih1 _ _ _ _ _ _ _ _ _ _ _ _ _ _)
   | (with_reducible exact ih2 _ _ _ _ _ _ _ _ _ _ _ _ _ _)
   | (with_reducible exact ih3 _ _ _ _ _ _ _ _ _ _ _)
   | (with_reducible exact ih4 _ _ _ _ _ _ _ _ _ _ _ _ _ _ _ _)
   | (with_reducible exact impl_Entry.mono _ _)
   | (with_reducible exact impl_State_of.mono _ _ _ _ _ _ _ _ _ _ _ _)
   | (with_reducible exact impl_readDataKey.mono _ _)
   | (with_reducible exact LeO.refl _)
   | (with_reducible exact LeO.none _)
   | (with_reducible refine LeO.ite ?_ ?_)
   | (with_reducible refine LeO.bind ?_ (fun _ => ?_))
   | exact ih0 _ _ _ _ _ _ _ _ _ _ _
   | exact ih1 _ _ _ _ _ _ _ _ _ _ _ _ _ _
   | exact ih2 _ _ _ _ _ _ _ _ _ _ _ _ _ _
   | exact ih3 _ _ _ _ _ _ _ _ _ _ _
   | exact ih4 _ _ _ _ _ _ _ _ _ _ _ _ _ _ _ _
   | exact impl_Entry.mono _ _
   | exact impl_State_of.mono _ _ _ _ _ _ _ _ _ _ _ _
   | exact impl_readDataKey.mono _ _
   | exact LeO.none _
   | refine LeO.ite ?_ ?_
   | refine LeO.bind ?_ (fun _ => ?_)
  ·intro y0 y1 y2 y3 y4 y5 y6 y7 y8 y9 y10 y11 y12 y13 y14 y15
   unfold impl_StateOK.l3
   repeat' first
   | (with_reducible exact ih0 _ _ _ _ _ _ _ _ _ _ _)
   | (with_reducible exact ih1 _ _ _ _ _ _ _ _ _ _ _ _ _ _)
   | (with_reducible exact ih2 _ _ _ _ _ _ _ _ _ _ _ _ _ _)
   | (with_reducible exact ih3 _ _ _ _ _ _ _ _ _ _ _)
   | (with_reducible exact ih4 _ _ _ _ _ _ _ _ _ _ _ _ _ _ _ _)
   | (with_reducible exact impl_Entry.mono _ _)
   | (with_reducible exact impl_State_of.mono _ _ _ _ _ _ _ _ _ _ _ _)
   | (with_reducible exact impl_readDataKey.mono _ _)
   | (with_reducible exact LeO.refl _)
   | (with_reducible exact LeO.none _)
   | (with_reducible refine LeO.ite ?_ ?_)
   | (with_reducible refine LeO.bind ?_ (fun _ => ?_))
   | exact ih0 _ _ _ _ _ _ _ _ _ _ _
   | exact ih1 _ _ _ _ _ _ _ _ _ _ _ _ _ _
   | exact ih2 _ _ _ _ _ _ _ _ _ _ _ _ _ _
   | exact ih3 _ _ _ _ _ _ _ _ _ _ _
   | exact ih4 _ _ _ _ _ _ _ _ _ _ _ _ _ _ _ _
   | exact impl_Entry.mono _ _
   | exact impl_State_of.mono _ _ _ _ _ _ _ _ _ _ _ _
   | exact impl_readDataKey.mono _ _
   | exact LeO.none _
   | refine LeO.ite ?_ ?_
   | refine LeO.bind ?_ (fun _ => ?_)
theorem impl_StateOK.mono : ∀ a0 a1 a2 a3 a4 a5 a6 a7 a8 a9 k,LeO (impl_StateOK.f k a0 a1 a2 a3 a4 a5 a6 a7 a8 a9) (impl_StateOK.f (k + 1) a0 a1 a2 a3 a4 a5 a6 a7 a8 a9) := by
 intro a0 a1 a2 a3 a4 a5 a6 a7 a8 a9 k
 obtain ⟨ih0,ih1,ih2,ih3,ih4⟩ := impl_StateOK.mono_l k
 unfold impl_StateOK.f
 repeat' first
   | (with_reducible exact ih0 _ _ _ _ _ _ _ _ _ _ _)
   | (with_reducible exact ih1 _ _ _ _ _ _ _ _ _ _ _ _ _ _)
   | (with_reducible exact ih2 _ _ _ _ _ _ _ _ _ _ _ _ _ _)
   | (with_reducible exact ih3 _ _ _ _ _ _ _ _ _ _ _)
   | (with_reducible exact ih4 _ _ _ _ _ _ _ _ _ _ _ _ _ _ _ _)
   | (with_reducible exact impl_Entry.mono _ _)
   | (with_reducible exact impl_State_of.mono _ _ _ _ _ _ _ _ _ _ _ _)
   | (with_reducible exact impl_readDataKey.mono _ _)
   | (with_reducible exact LeO.refl _)
   | (with_reducible exact LeO.none _)
   | (with_reducible refine LeO.ite ?_ ?_)
   | (with_reducible refine LeO.bind ?_ (fun _ => ?_))
   | exact ih0 _ _ _ _ _ _ _ _ _ _ _
   | exact ih1 _ _ _ _ _ _ _ _ _ _ _ _ _ _
   | exact ih2 _ _ _ _ _ _ _ _ _ _ _ _ _ _
   | exact ih3 _ _ _ _ _ _ _ _ _ _ _
   | exact ih4 _ _ _ _ _ _ _ _ _ _ _ _ _ _ _ _
   | exact impl_Entry.mono _ _
   | exact impl_State_of.mono _ _ _ _ _ _ _ _ _ _ _ _
   | exact impl_readDataKey.mono _ _
   | exact LeO.none _
   | refine LeO.ite ?_ ?_
   | refine LeO.bind ?_ (fun _ => ?_)
set_option maxHeartbeats 8000000 in
set_option maxRecDepth 100000 in
theorem impl_StateOK.calls (k : Nat) (a0_0 : Int) (a0_1 : Int) (A0_2 : Option Addr) (c0_2 : Nat) (l0_2 : List (S39)) (A0_3 : Option Addr) (c0_3 : Nat) (l0_3 : List (S55)) (a0_4 : Int) (a0_5 : Int) (a0_6 : Int) (a0_7 : Int) (a0_8 : Int) (a0_9 : Int) (r : Bool) (w : World) (hV : Vars w) (hr0_2 : Kd.C k39 w A0_2 l0_2.length l0_2) (hc0_2 : l0_2.length ≤ c0_2) (hr0_3 : Kd.C k55 w A0_3 l0_3.length l0_3) (hc0_3 : l0_3.length ≤ c0_3) (h : impl_StateOK.f k a0_0 a0_1 l0_2 l0_3 a0_4 a0_5 a0_6 a0_7 a0_8 a0_9 = some r) :
  Calls Tryd.prog 9 #[.agg #[.int .i64 a0_0,.int .i64 a0_1,.slice A0_2 l0_2.length c0_2,.slice A0_3 l0_3.length c0_3,.int .i64 a0_4,.int .i64 a0_5,.int .i64 a0_6,.int .i64 a0_7,.int .i64 a0_8,.int .i64 a0_9]] w fun e w' => e = .returned (.bool r) ∧ Below w.heap.size w w' := by
 have hu32 := Tryd.underlying32
 have hu39 := Tryd.underlying39
 have hu55 := Tryd.underlying55
 have HR0_2 := Aside0.mk hr0_2
 have HC0_2 := Aside0.mk hc0_2
 clear hr0_2 hc0_2
 have HR0_3 := Aside0.mk hr0_3
 have HC0_3 := Aside0.mk hc0_3
 clear hr0_3 hc0_3
 have HV := Aside0.mk hV
 clear hV
 have HB := Aside0.mk (Below.refl w.heap.size w)
 have H : ((impl_isSix.f a0_0).bind fun t294 => (if t294 = true then ((impl_within.f a0_1 0 999999).bind fun t295 => (if t295 = true then (if (wrap64 ((l0_2.length : Int) + (l0_3.length : Int))) > 4096 then (impl_StateOK.j0 k true a0_0 a0_1 l0_2 l0_3 a0_4 a0_5 a0_6 a0_7 a0_8 a0_9) else ((impl_Entry.f k l0_2).bind fun t296 => (impl_StateOK.j0 k (!t296) a0_0 a0_1 l0_2 l0_3 a0_4 a0_5 a0_6 a0_7 a0_8 a0_9))) else (impl_StateOK.j0 k true a0_0 a0_1 l0_2 l0_3 a0_4 a0_5 a0_6 a0_7 a0_8 a0_9))) else (impl_StateOK.j0 k true a0_0 a0_1 l0_2 l0_3 a0_4 a0_5 a0_6 a0_7 a0_8 a0_9))) = some r := h
 clear h
 have HC2 := Aside0.mk H
 clear H
 go_enter Tryd.func9,Tryd.ntmps9
 go_upto_region 1 with (first | ((with_reducible refine gate_dst (N:=1) rfl ?_); (try (refine gate_guard (by rfl) ?_; dsimp only)); refine box_event ?hg (N:=1) ?hd (cs := #[.int .i64 a0_0,.int .i64 a0_1,.slice A0_2 l0_2.length c0_2,.slice A0_3 l0_3.length c0_3,.int .i64 a0_4,.int .i64 a0_5,.int .i64 a0_6,.int .i64 a0_7,.int .i64 a0_8,.int .i64 a0_9]) (t:=32) ?hr ?_; (case hd => rfl); (case hg => rfl); (case hr => first | (go_simp; done) | (go_simp; rfl)); intro gb293 hg w3 hbox hb; have n0_ := Aside0.mk (below_step bA hb); have n1_ := Aside0.mk (hbox); have n2_ := Aside0.mk ((by rw [hg]; exact (below_size bA) : w.heap.size ≤ gb293)); have n3_ := Aside0.mk ((by rw [hg]; exact (below_size bA) : w.heap.size ≤ gb293)); clear HB; have HB := n0_; have BK293 := n1_; have GW293 := n2_; have GE293 := n3_; clear n0_ n1_ n2_ n3_; clear hb hbox hg))
 (try simp only [Act.put,setIfInBounds_toArray,set_cons_zero,set_cons_succ])
 go_cut [41] (fun v41 wc => ∃ (kq : Nat) (x41_1 : Bool),v41 = .bool x41_1 ∧ Aside0 (impl_StateOK.j0 kq x41_1 a0_0 a0_1 l0_2 l0_3 a0_4 a0_5 a0_6 a0_7 a0_8 a0_9 = some r) ∧ Aside0 (kq ≤ k) ∧ Aside0 (wc.heap[gb293]? = some (.cells #[.int .i64 a0_0,.int .i64 a0_1,(.slice A0_2 l0_2.length c0_2),(.slice A0_3 l0_3.length c0_3),.int .i64 a0_4,.int .i64 a0_5,.int .i64 a0_6,.int .i64 a0_7,.int .i64 a0_8,.int .i64 a0_9] 32 (0,0))) ∧ Aside0 (Below w.heap.size w wc))
 case first =>
  have H := HC2.out
  clear HC2
  replace H := Option.bind_eq_some_iff.mp H
  obtain ⟨t294,A40,H⟩ := H
  try dsimp only at H
  have A4 := Aside0.mk A40
  clear A40
  by_cases c5 : t294 = true
  ·subst c5
   rw [if_pos rfl] at H
   replace H := Option.bind_eq_some_iff.mp H
   obtain ⟨t295,A60,H⟩ := H
   try dsimp only at H
   have A6 := Aside0.mk A60
   clear A60
   by_cases c7 : t295 = true
   ·subst c7
    rw [if_pos rfl] at H
    by_cases c8 : (wrap64 ((l0_2.length : Int) + (l0_3.length : Int))) > 4096
    ·rw [if_pos c8] at H
     have c8b0 : decide (4096 < (wrap64 ((l0_2.length : Int) + (l0_3.length : Int)))) = true := decide_eq_true c8
     clear c8
     (first | rw [c8b0] | (simp only [i64_w,i32_w]; rw [c8b0]) | skip)
     have H' := Aside0.mk H
     clear H
     have hcz9_0 : w3.cell? ⟨gb293,0,none⟩ = some (.int .i64 a0_0) := (blk_cell BK293.out 0).trans rfl
     have hcz9_1 : w3.cell? ⟨gb293,1,none⟩ = some (.int .i64 a0_1) := (blk_cell BK293.out 1).trans rfl
     have hcz9_2 : w3.cell? ⟨gb293,2,none⟩ = some (.slice A0_2 l0_2.length c0_2) := (blk_cell BK293.out 2).trans rfl
     have hcz9_3 : w3.cell? ⟨gb293,3,none⟩ = some (.slice A0_3 l0_3.length c0_3) := (blk_cell BK293.out 3).trans rfl
     have hcz9_4 : w3.cell? ⟨gb293,4,none⟩ = some (.int .i64 a0_4) := (blk_cell BK293.out 4).trans rfl
     have hcz9_5 : w3.cell? ⟨gb293,5,none⟩ = some (.int .i64 a0_5) := (blk_cell BK293.out 5).trans rfl
     have hcz9_6 : w3.cell? ⟨gb293,6,none⟩ = some (.int .i64 a0_6) := (blk_cell BK293.out 6).trans rfl
     have hcz9_7 : w3.cell? ⟨gb293,7,none⟩ = some (.int .i64 a0_7) := (blk_cell BK293.out 7).trans rfl
     have hcz9_8 : w3.cell? ⟨gb293,8,none⟩ = some (.int .i64 a0_8) := (blk_cell BK293.out 8).trans rfl
     have hcz9_9 : w3.cell? ⟨gb293,9,none⟩ = some (.int .i64 a0_9) := (blk_cell BK293.out 9).trans rfl
     have hfz9_0 := blk_frozen BK293.out 0
     have hfz9_1 := blk_frozen BK293.out 1
     have hfz9_2 := blk_frozen BK293.out 2
     have hfz9_3 := blk_frozen BK293.out 3
     have hfz9_4 := blk_frozen BK293.out 4
     have hfz9_5 := blk_frozen BK293.out 5
     have hfz9_6 := blk_frozen BK293.out 6
     have hfz9_7 := blk_frozen BK293.out 7
     have hfz9_8 := blk_frozen BK293.out 8
     have hfz9_9 := blk_frozen BK293.out 9
     go_wp2_with (first | ((with_reducible refine gate_callee (f:=25) rfl ?_); refine goesL_ (some 18) rfl rfl Tryd.func25 (by kernel_rfl) rfl #[.int .i64 a0_0] rfl mA ?_; (with_reducible refine (impl_isSix.calls a0_0 true _ A4.out).mono ?_); rintro e w' ⟨rfl,⟨nd,rfl⟩⟩; refine ⟨_,rfl,?_⟩) | (go_at_call 26; (with_reducible refine (impl_within.calls a0_1 0 999999 true _ A6.out).mono ?_); rintro e w' ⟨rfl,⟨nd,rfl⟩⟩))
     go_meet
     case rel => exact ⟨_,(true),(by first | rfl | (simp; done) | (simp [*]; done)),H',⟨by first | omega | exact Nat.le_refl _⟩,⟨kA BK293.out⟩,⟨bA⟩⟩
    ·rw [if_neg c8] at H
     have c8b0 : decide (4096 < (wrap64 ((l0_2.length : Int) + (l0_3.length : Int)))) = false := decide_eq_false c8
     clear c8
     (first | rw [c8b0] | (simp only [i64_w,i32_w]; rw [c8b0]) | skip)
     replace H := Option.bind_eq_some_iff.mp H
     obtain ⟨t296,A100,H⟩ := H
     try dsimp only at H
     have A10 := Aside0.mk A100
     clear A100
     have H' := Aside0.mk H
     clear H
     have hcz11_0 : w3.cell? ⟨gb293,0,none⟩ = some (.int .i64 a0_0) := (blk_cell BK293.out 0).trans rfl
     have hcz11_1 : w3.cell? ⟨gb293,1,none⟩ = some (.int .i64 a0_1) := (blk_cell BK293.out 1).trans rfl
     have hcz11_2 : w3.cell? ⟨gb293,2,none⟩ = some (.slice A0_2 l0_2.length c0_2) := (blk_cell BK293.out 2).trans rfl
     have hcz11_3 : w3.cell? ⟨gb293,3,none⟩ = some (.slice A0_3 l0_3.length c0_3) := (blk_cell BK293.out 3).trans rfl
     have hcz11_4 : w3.cell? ⟨gb293,4,none⟩ = some (.int .i64 a0_4) := (blk_cell BK293.out 4).trans rfl
     have hcz11_5 : w3.cell? ⟨gb293,5,none⟩ = some (.int .i64 a0_5) := (blk_cell BK293.out 5).trans rfl
     have hcz11_6 : w3.cell? ⟨gb293,6,none⟩ = some (.int .i64 a0_6) := (blk_cell BK293.out 6).trans rfl
     have hcz11_7 : w3.cell? ⟨gb293,7,none⟩ = some (.int .i64 a0_7) := (blk_cell BK293.out 7).trans rfl
     have hcz11_8 : w3.cell? ⟨gb293,8,none⟩ = some (.int .i64 a0_8) := (blk_cell BK293.out 8).trans rfl
     have hcz11_9 : w3.cell? ⟨gb293,9,none⟩ = some (.int .i64 a0_9) := (blk_cell BK293.out 9).trans rfl
     have hfz11_0 := blk_frozen BK293.out 0
     have hfz11_1 := blk_frozen BK293.out 1
     have hfz11_2 := blk_frozen BK293.out 2
     have hfz11_3 := blk_frozen BK293.out 3
     have hfz11_4 := blk_frozen BK293.out 4
     have hfz11_5 := blk_frozen BK293.out 5
     have hfz11_6 := blk_frozen BK293.out 6
     have hfz11_7 := blk_frozen BK293.out 7
     have hfz11_8 := blk_frozen BK293.out 8
     have hfz11_9 := blk_frozen BK293.out 9
     go_wp2_with (first | ((with_reducible refine gate_callee (f:=25) rfl ?_); refine goesL_ (some 18) rfl rfl Tryd.func25 (by kernel_rfl) rfl #[.int .i64 a0_0] rfl mA ?_; (with_reducible refine (impl_isSix.calls a0_0 true _ A4.out).mono ?_); rintro e w' ⟨rfl,⟨nd,rfl⟩⟩; refine ⟨_,rfl,?_⟩) | (go_at_call 26; (with_reducible refine (impl_within.calls a0_1 0 999999 true _ A6.out).mono ?_); rintro e w' ⟨rfl,⟨nd,rfl⟩⟩) | (go_at_call 27; (with_reducible refine (impl_Entry.calls k _ _ l0_2 t296 _ ?side1 ?side2 ?side3 A10.out).mono ?_); (case side1 => exact HV.out.below bA); (case side2 => repeat (first | exact (Kd.C_below HR0_2.out bA) | (with_reducible refine Kd.C_alloc ?_ _) | (with_reducible refine Kd.C_drewN ?_ _) | (with_reducible refine Kd.C_drew ?_))); (case side3 => exact HC0_2.out); rintro e w12 ⟨rfl,hb⟩; have n0_ := Aside0.mk (blk_below (g:=gb293) (o:=.cells #[.int .i64 a0_0,.int .i64 a0_1,.slice A0_2 l0_2.length c0_2,.slice A0_3 l0_3.length c0_3,.int .i64 a0_4,.int .i64 a0_5,.int .i64 a0_6,.int .i64 a0_7,.int .i64 a0_8,.int .i64 a0_9] 32 (0,0)) (kA BK293.out) hb); have n1_ := Aside0.mk (below_step bA hb); clear BK293; clear HB; have BK293 := n0_; have HB := n1_; clear n0_ n1_; (try clear hb); (try clear hb2); (try clear hk); (try clear hi)))
     go_meet
     case rel => exact ⟨_,(!t296),(by first | rfl | (simp; done) | (simp [*]; done)),H',⟨by first | omega | exact Nat.le_refl _⟩,⟨kA BK293.out⟩,⟨bA⟩⟩
   ·replace c7 := Bool.eq_false_iff.mpr c7
    subst c7
    rw [if_neg (show ¬ (false = true) by decide)] at H
    have H' := Aside0.mk H
    clear H
    have hcz13_0 : w3.cell? ⟨gb293,0,none⟩ = some (.int .i64 a0_0) := (blk_cell BK293.out 0).trans rfl
    have hcz13_1 : w3.cell? ⟨gb293,1,none⟩ = some (.int .i64 a0_1) := (blk_cell BK293.out 1).trans rfl
    have hcz13_2 : w3.cell? ⟨gb293,2,none⟩ = some (.slice A0_2 l0_2.length c0_2) := (blk_cell BK293.out 2).trans rfl
    have hcz13_3 : w3.cell? ⟨gb293,3,none⟩ = some (.slice A0_3 l0_3.length c0_3) := (blk_cell BK293.out 3).trans rfl
    have hcz13_4 : w3.cell? ⟨gb293,4,none⟩ = some (.int .i64 a0_4) := (blk_cell BK293.out 4).trans rfl
    have hcz13_5 : w3.cell? ⟨gb293,5,none⟩ = some (.int .i64 a0_5) := (blk_cell BK293.out 5).trans rfl
    have hcz13_6 : w3.cell? ⟨gb293,6,none⟩ = some (.int .i64 a0_6) := (blk_cell BK293.out 6).trans rfl
    have hcz13_7 : w3.cell? ⟨gb293,7,none⟩ = some (.int .i64 a0_7) := (blk_cell BK293.out 7).trans rfl
    have hcz13_8 : w3.cell? ⟨gb293,8,none⟩ = some (.int .i64 a0_8) := (blk_cell BK293.out 8).trans rfl
    have hcz13_9 : w3.cell? ⟨gb293,9,none⟩ = some (.int .i64 a0_9) := (blk_cell BK293.out 9).trans rfl
    have hfz13_0 := blk_frozen BK293.out 0
    have hfz13_1 := blk_frozen BK293.out 1
    have hfz13_2 := blk_frozen BK293.out 2
    have hfz13_3 := blk_frozen BK293.out 3
    have hfz13_4 := blk_frozen BK293.out 4
    have hfz13_5 := blk_frozen BK293.out 5
    have hfz13_6 := blk_frozen BK293.out 6
    have hfz13_7 := blk_frozen BK293.out 7
    have hfz13_8 := blk_frozen BK293.out 8
    have hfz13_9 := blk_frozen BK293.out 9
    go_wp2_with (first | ((with_reducible refine gate_callee (f:=25) rfl ?_); refine goesL_ (some 18) rfl rfl Tryd.func25 (by kernel_rfl) rfl #[.int .i64 a0_0] rfl mA ?_; (with_reducible refine (impl_isSix.calls a0_0 true _ A4.out).mono ?_); rintro e w' ⟨rfl,⟨nd,rfl⟩⟩; refine ⟨_,rfl,?_⟩) | (go_at_call 26; (with_reducible refine (impl_within.calls a0_1 0 999999 false _ A6.out).mono ?_); rintro e w' ⟨rfl,⟨nd,rfl⟩⟩))
    go_meet
    case rel => exact ⟨_,(true),(by first | rfl | (simp; done) | (simp [*]; done)),H',⟨by first | omega | exact Nat.le_refl _⟩,⟨kA BK293.out⟩,⟨bA⟩⟩
  ·replace c5 := Bool.eq_false_iff.mpr c5
   subst c5
   rw [if_neg (show ¬ (false = true) by decide)] at H
   have H' := Aside0.mk H
   clear H
   have hcz14_0 : w3.cell? ⟨gb293,0,none⟩ = some (.int .i64 a0_0) := (blk_cell BK293.out 0).trans rfl
   have hcz14_1 : w3.cell? ⟨gb293,1,none⟩ = some (.int .i64 a0_1) := (blk_cell BK293.out 1).trans rfl
   have hcz14_2 : w3.cell? ⟨gb293,2,none⟩ = some (.slice A0_2 l0_2.length c0_2) := (blk_cell BK293.out 2).trans rfl
   have hcz14_3 : w3.cell? ⟨gb293,3,none⟩ = some (.slice A0_3 l0_3.length c0_3) := (blk_cell BK293.out 3).trans rfl
   have hcz14_4 : w3.cell? ⟨gb293,4,none⟩ = some (.int .i64 a0_4) := (blk_cell BK293.out 4).trans rfl
   have hcz14_5 : w3.cell? ⟨gb293,5,none⟩ = some (.int .i64 a0_5) := (blk_cell BK293.out 5).trans rfl
   have hcz14_6 : w3.cell? ⟨gb293,6,none⟩ = some (.int .i64 a0_6) := (blk_cell BK293.out 6).trans rfl
   have hcz14_7 : w3.cell? ⟨gb293,7,none⟩ = some (.int .i64 a0_7) := (blk_cell BK293.out 7).trans rfl
   have hcz14_8 : w3.cell? ⟨gb293,8,none⟩ = some (.int .i64 a0_8) := (blk_cell BK293.out 8).trans rfl
   have hcz14_9 : w3.cell? ⟨gb293,9,none⟩ = some (.int .i64 a0_9) := (blk_cell BK293.out 9).trans rfl
   have hfz14_0 := blk_frozen BK293.out 0
   have hfz14_1 := blk_frozen BK293.out 1
   have hfz14_2 := blk_frozen BK293.out 2
   have hfz14_3 := blk_frozen BK293.out 3
   have hfz14_4 := blk_frozen BK293.out 4
   have hfz14_5 := blk_frozen BK293.out 5
   have hfz14_6 := blk_frozen BK293.out 6
   have hfz14_7 := blk_frozen BK293.out 7
   have hfz14_8 := blk_frozen BK293.out 8
   have hfz14_9 := blk_frozen BK293.out 9
   go_wp2_with (first | ((with_reducible refine gate_callee (f:=25) rfl ?_); refine goesL_ (some 18) rfl rfl Tryd.func25 (by kernel_rfl) rfl #[.int .i64 a0_0] rfl mA ?_; (with_reducible refine (impl_isSix.calls a0_0 false _ A4.out).mono ?_); rintro e w' ⟨rfl,⟨nd,rfl⟩⟩; refine ⟨_,rfl,?_⟩))
   go_meet
   case rel => exact ⟨_,(true),(by first | rfl | (simp; done) | (simp [*]; done)),H',⟨by first | omega | exact Nat.le_refl _⟩,⟨kA BK293.out⟩,⟨bA⟩⟩
 case rest =>
  clear HC2
  try clear c2
  try clear p2
  try clear c5
  try clear p6
  try clear c7
  try clear c8
  try clear c8b0
  try clear c9
  try clear hcz11_0
  try clear hcz11_1
  try clear hcz11_2
  try clear hcz11_3
  try clear hcz11_4
  try clear hcz11_5
  try clear hcz11_6
  try clear hcz11_7
  try clear hcz11_8
  try clear hcz11_9
  try clear hcz13_0
  try clear hcz13_1
  try clear hcz13_2
  try clear hcz13_3
  try clear hcz13_4
  try clear hcz13_5
  try clear hcz13_6
  try clear hcz13_7
  try clear hcz13_8
  try clear hcz13_9
  try clear hcz14_0
  try clear hcz14_1
  try clear hcz14_2
  try clear hcz14_3
  try clear hcz14_4
  try clear hcz14_5
  try clear hcz14_6
  try clear hcz14_7
  try clear hcz14_8
  try clear hcz14_9
  try clear hcz9_0
  try clear hcz9_1
  try clear hcz9_2
  try clear hcz9_3
  try clear hcz9_4
  try clear hcz9_5
  try clear hcz9_6
  try clear hcz9_7
  try clear hcz9_8
  try clear hcz9_9
  try clear hfz11_0
  try clear hfz11_1
  try clear hfz11_2
  try clear hfz11_3
  try clear hfz11_4
  try clear hfz11_5
  try clear hfz11_6
  try clear hfz11_7
  try clear hfz11_8
  try clear hfz11_9
  try clear hfz13_0
  try clear hfz13_1
  try clear hfz13_2
  try clear hfz13_3
  try clear hfz13_4
  try clear hfz13_5
  try clear hfz13_6
  try clear hfz13_7
  try clear hfz13_8
  try clear hfz13_9
  try clear hfz14_0
  try clear hfz14_1
  try clear hfz14_2
  try clear hfz14_3
  try clear hfz14_4
  try clear hfz14_5
  try clear hfz14_6
  try clear hfz14_7
  try clear hfz14_8
  try clear hfz14_9
  try clear hfz9_0
  try clear hfz9_1
  try clear hfz9_2
  try clear hfz9_3
  try clear hfz9_4
  try clear hfz9_5
  try clear hfz9_6
  try clear hfz9_7
  try clear hfz9_8
  try clear hfz9_9
  obtain ⟨kq,x41_1,rfl,HA,HJ1,BK293,HB⟩ := hcut
  cases kq with
  | zero => exact absurd HA.out (by simp [impl_StateOK.j0])
  | succ kj1 =>
   have H := HA.out
   clear HA
   simp only [impl_StateOK.j0] at H
   by_cases c15 : x41_1 = true
   ·subst c15
    rw [if_pos rfl] at H
    obtain rfl := Option.some.inj H
    go_wp2
    go_ret
    exact ⟨by first | rfl | (simp only [i64_w,i32_w] <;> rfl) | (simp [errW_none,errW_some] <;> rfl) | (simp [*,errW_none,errW_some] <;> rfl),bA⟩
   ·replace c15 := Bool.eq_false_iff.mpr c15
    subst c15
    rw [if_neg (show ¬ (false = true) by decide)] at H
    have H' := Aside0.mk H
    clear H
    go_wp2_with (first | ((with_reducible refine gate_dst (N:=42) rfl ?_); (try (refine gate_guard (by rfl) ?_; dsimp only)); refine map_event ?hg (N:=42) ?hd ?hr ?_; (case hd => rfl); (case hg => rfl); (case hr => first | (go_simp; done) | (go_simp; rfl)); intro gb297 hg w16 hbox hb; have n0_ := Aside0.mk (blk_below (g:=gb293) (o:=.cells #[.int .i64 a0_0,.int .i64 a0_1,.slice A0_2 l0_2.length c0_2,.slice A0_3 l0_3.length c0_3,.int .i64 a0_4,.int .i64 a0_5,.int .i64 a0_6,.int .i64 a0_7,.int .i64 a0_8,.int .i64 a0_9] 32 (0,0)) (kA BK293.out) hb); have n1_ := Aside0.mk (below_step bA hb); have n2_ := Aside0.mk (hbox); have n3_ := Aside0.mk ((by rw [hg]; exact (below_size bA) : w.heap.size ≤ gb297)); have n4_ := Aside0.mk ((by rw [hg]; exact (below_size bA) : w.heap.size ≤ gb297)); have n5_ := Aside0.mk ((by rw [hg]; exact Nat.ne_of_lt (blk_lt (g:=gb293) (o:=.cells #[.int .i64 a0_0,.int .i64 a0_1,.slice A0_2 l0_2.length c0_2,.slice A0_3 l0_3.length c0_3,.int .i64 a0_4,.int .i64 a0_5,.int .i64 a0_6,.int .i64 a0_7,.int .i64 a0_8,.int .i64 a0_9] 32 (0,0)) (kA BK293.out)) : gb293 ≠ gb297)); have n6_ := Aside0.mk ((by rw [hg]; exact Nat.ne_of_gt (blk_lt (g:=gb293) (o:=.cells #[.int .i64 a0_0,.int .i64 a0_1,.slice A0_2 l0_2.length c0_2,.slice A0_3 l0_3.length c0_3,.int .i64 a0_4,.int .i64 a0_5,.int .i64 a0_6,.int .i64 a0_7,.int .i64 a0_8,.int .i64 a0_9] 32 (0,0)) (kA BK293.out)) : gb297 ≠ gb293)); clear BK293; clear HB; have BK293 := n0_; have HB := n1_; have BK297 := n2_; have GW297 := n3_; have GE297 := n4_; have NB293_297 := n5_; have NB297_293 := n6_; clear n0_ n1_ n2_ n3_ n4_ n5_ n6_; clear hb hbox hg; have hnb17 := NB293_297.out; have hnc17 := NB297_293.out; have hcz18_0 : w16.cell? ⟨gb293,0,none⟩ = some (.int .i64 a0_0) := (blk_cell BK293.out 0).trans rfl; have hcz18_1 : w16.cell? ⟨gb293,1,none⟩ = some (.int .i64 a0_1) := (blk_cell BK293.out 1).trans rfl; have hcz18_2 : w16.cell? ⟨gb293,2,none⟩ = some (.slice A0_2 l0_2.length c0_2) := (blk_cell BK293.out 2).trans rfl; have hcz18_3 : w16.cell? ⟨gb293,3,none⟩ = some (.slice A0_3 l0_3.length c0_3) := (blk_cell BK293.out 3).trans rfl; have hcz18_4 : w16.cell? ⟨gb293,4,none⟩ = some (.int .i64 a0_4) := (blk_cell BK293.out 4).trans rfl; have hcz18_5 : w16.cell? ⟨gb293,5,none⟩ = some (.int .i64 a0_5) := (blk_cell BK293.out 5).trans rfl; have hcz18_6 : w16.cell? ⟨gb293,6,none⟩ = some (.int .i64 a0_6) := (blk_cell BK293.out 6).trans rfl; have hcz18_7 : w16.cell? ⟨gb293,7,none⟩ = some (.int .i64 a0_7) := (blk_cell BK293.out 7).trans rfl; have hcz18_8 : w16.cell? ⟨gb293,8,none⟩ = some (.int .i64 a0_8) := (blk_cell BK293.out 8).trans rfl; have hcz18_9 : w16.cell? ⟨gb293,9,none⟩ = some (.int .i64 a0_9) := (blk_cell BK293.out 9).trans rfl; have hfz18_0 := blk_frozen BK293.out 0; have hfz18_1 := blk_frozen BK293.out 1; have hfz18_2 := blk_frozen BK293.out 2; have hfz18_3 := blk_frozen BK293.out 3; have hfz18_4 := blk_frozen BK293.out 4; have hfz18_5 := blk_frozen BK293.out 5; have hfz18_6 := blk_frozen BK293.out 6; have hfz18_7 := blk_frozen BK293.out 7; have hfz18_8 := blk_frozen BK293.out 8; have hfz18_9 := blk_frozen BK293.out 9))
    go_loopg [46] kj1 (fun kq v46 w' => ∃ (x46_2 : Int) (x298000_2 : List ByteArray) (om_ : Obj),v46 = .int .i64 x46_2 ∧ Aside0 (impl_StateOK.l0 kq l0_2 (l0_2.length : Int) x46_2 a0_0 a0_1 l0_2 l0_3 a0_4 a0_5 a0_6 a0_7 a0_8 a0_9 x298000_2 = some r) ∧ Aside0 (kq ≤ kj1) ∧ Aside0 (w'.heap[gb293]? = some (.cells #[.int .i64 a0_0,.int .i64 a0_1,(.slice A0_2 l0_2.length c0_2),(.slice A0_3 l0_3.length c0_3),.int .i64 a0_4,.int .i64 a0_5,.int .i64 a0_6,.int .i64 a0_7,.int .i64 a0_8,.int .i64 a0_9] 32 (0,0))) ∧ Aside0 (w'.heap[gb297]? = some om_) ∧ Aside0 (MapS Tryd.prog 9 4 om_ x298000_2) ∧ Aside0 (Below w.heap.size w w'))
    case atStart => exact ⟨(0),([]),(.map #[] 0),(by first | rfl | (simp; done) | (simp [*]; done)),H',⟨Nat.le_refl _⟩,⟨kA BK293.out⟩,⟨kA BK297.out⟩,⟨MapS.made _ _ _⟩,⟨bA⟩⟩
    case round =>
     clear H'
     try clear c1
     try clear c2
     try clear p2
     try clear c5
     try clear p6
     try clear c7
     try clear c8
     try clear c8b0
     try clear c9
     try clear c15
     try clear c17
     try clear hcz11_0
     try clear hcz11_1
     try clear hcz11_2
     try clear hcz11_3
     try clear hcz11_4
     try clear hcz11_5
     try clear hcz11_6
     try clear hcz11_7
     try clear hcz11_8
     try clear hcz11_9
     try clear hcz13_0
     try clear hcz13_1
     try clear hcz13_2
     try clear hcz13_3
     try clear hcz13_4
     try clear hcz13_5
     try clear hcz13_6
     try clear hcz13_7
     try clear hcz13_8
     try clear hcz13_9
     try clear hcz14_0
     try clear hcz14_1
     try clear hcz14_2
     try clear hcz14_3
     try clear hcz14_4
     try clear hcz14_5
     try clear hcz14_6
     try clear hcz14_7
     try clear hcz14_8
     try clear hcz14_9
     try clear hcz18_0
     try clear hcz18_1
     try clear hcz18_2
     try clear hcz18_3
     try clear hcz18_4
     try clear hcz18_5
     try clear hcz18_6
     try clear hcz18_7
     try clear hcz18_8
     try clear hcz18_9
     try clear hcz9_0
     try clear hcz9_1
     try clear hcz9_2
     try clear hcz9_3
     try clear hcz9_4
     try clear hcz9_5
     try clear hcz9_6
     try clear hcz9_7
     try clear hcz9_8
     try clear hcz9_9
     try clear hfz11_0
     try clear hfz11_1
     try clear hfz11_2
     try clear hfz11_3
     try clear hfz11_4
     try clear hfz11_5
     try clear hfz11_6
     try clear hfz11_7
     try clear hfz11_8
     try clear hfz11_9
     try clear hfz13_0
     try clear hfz13_1
     try clear hfz13_2
     try clear hfz13_3
     try clear hfz13_4
     try clear hfz13_5
     try clear hfz13_6
     try clear hfz13_7
     try clear hfz13_8
     try clear hfz13_9
     try clear hfz14_0
     try clear hfz14_1
     try clear hfz14_2
     try clear hfz14_3
     try clear hfz14_4
     try clear hfz14_5
     try clear hfz14_6
     try clear hfz14_7
     try clear hfz14_8
     try clear hfz14_9
     try clear hfz18_0
     try clear hfz18_1
     try clear hfz18_2
     try clear hfz18_3
     try clear hfz18_4
     try clear hfz18_5
     try clear hfz18_6
     try clear hfz18_7
     try clear hfz18_8
     try clear hfz18_9
     try clear hfz9_0
     try clear hfz9_1
     try clear hfz9_2
     try clear hfz9_3
     try clear hfz9_4
     try clear hfz9_5
     try clear hfz9_6
     try clear hfz9_7
     try clear hfz9_8
     try clear hfz9_9
     try clear p2
     try clear p6
     obtain ⟨x46_2,x298000_2,om_,rfl,HA,HK2,BK293,BK297,MO_,HB⟩ := hrel
     cases gk with
     | zero => exact absurd HA.out (by simp [impl_StateOK.l0])
     | succ k2 =>
      have H := HA.out
      clear HA
      simp only [impl_StateOK.l0] at H
      by_cases c19 : x46_2 < (l0_2.length : Int)
      ·rw [if_pos c19] at H
       have c19b0 : decide (x46_2 < (l0_2.length : Int)) = true := decide_eq_true c19
       clear c19
       by_cases c20 : 0 ≤ x46_2
       ·rw [if_pos c20] at H
        have c20b0 : decide (0 ≤ x46_2) = true := decide_eq_true c20
        clear c20
        by_cases c21 : x46_2 < (l0_2.length : Int)
        ·rw [if_pos c21] at H
         have c21b0 : decide (x46_2 < (l0_2.length : Int)) = true := decide_eq_true c21
         clear c21
         have hgd_ : x298000_2.length < 100000 ∧ (((rd_T39 l0_2 x46_2).f3)).size ≤ 140737488351232 := by
          by_cases hq_ : x298000_2.length < 100000 ∧ (((rd_T39 l0_2 x46_2).f3)).size ≤ 140737488351232
          ·exact hq_
          ·rw [if_neg hq_] at H; cases H
         rw [if_pos hgd_] at H
         have HG_ := Aside0.mk hgd_
         clear hgd_
         have H' := Aside0.mk H
         clear H
         have p298 : 0 ≤ (x46_2 : Int) := of_decide_eq_true (by first | (with_reducible assumption) | assumption)
         have q298 : x46_2 < (l0_2.length : Int) := of_decide_eq_true (by first | (with_reducible assumption) | assumption)
         obtain ⟨ad298,e298,hx298_0,hx298_1,hx298_2,hx298_3⟩ := at_T39 HR0_2.out x46_2 p298 q298
         cases e298
         replace hx298_0 := (HB.out.cell (World.block_lt_of_cell? w _ hx298_0)).trans hx298_0
         replace hx298_1 := (HB.out.cell (World.block_lt_of_cell? w _ hx298_1)).trans hx298_1
         replace hx298_2 := (HB.out.cell (World.block_lt_of_cell? w _ hx298_2)).trans hx298_2
         replace hx298_3 := (HB.out.cell (World.block_lt_of_cell? w _ hx298_3)).trans hx298_3
         replace p298 := eq_true p298
         replace q298 := eq_true q298
         go_wp2_with (first | ((with_reducible refine gate_dst (N:=5) rfl ?_); (try (refine gate_guard (by rfl) ?_; dsimp only)); refine box_event ?hg (N:=5) ?hd (cs := #[.int .i64 0,.int .i64 0,.int .i64 0,.string (⟨#[]⟩ : ByteArray)]) (t:=39) ?hr ?_; (case hd => rfl); (case hg => rfl); (case hr => first | (go_simp; done) | (go_simp; rfl)); intro gb299 hg w22 hbox hb; have n0_ := Aside0.mk (blk_below (g:=gb293) (o:=.cells #[.int .i64 a0_0,.int .i64 a0_1,.slice (some ad298) l0_2.length c0_2,.slice A0_3 l0_3.length c0_3,.int .i64 a0_4,.int .i64 a0_5,.int .i64 a0_6,.int .i64 a0_7,.int .i64 a0_8,.int .i64 a0_9] 32 (0,0)) (kA BK293.out) hb); have n1_ := Aside0.mk (blk_below (g:=gb297) (o:=om_) (kA BK297.out) hb); have n2_ := Aside0.mk (below_step bA hb); have n3_ := Aside0.mk (hbox); have n4_ := Aside0.mk ((by rw [hg]; exact (below_size bA) : w.heap.size ≤ gb299)); have n5_ := Aside0.mk ((by rw [hg]; exact (below_size bA) : w.heap.size ≤ gb299)); have n6_ := Aside0.mk ((by rw [hg]; exact Nat.ne_of_lt (blk_lt (g:=gb293) (o:=.cells #[.int .i64 a0_0,.int .i64 a0_1,.slice (some ad298) l0_2.length c0_2,.slice A0_3 l0_3.length c0_3,.int .i64 a0_4,.int .i64 a0_5,.int .i64 a0_6,.int .i64 a0_7,.int .i64 a0_8,.int .i64 a0_9] 32 (0,0)) (kA BK293.out)) : gb293 ≠ gb299)); have n7_ := Aside0.mk ((by rw [hg]; exact Nat.ne_of_gt (blk_lt (g:=gb293) (o:=.cells #[.int .i64 a0_0,.int .i64 a0_1,.slice (some ad298) l0_2.length c0_2,.slice A0_3 l0_3.length c0_3,.int .i64 a0_4,.int .i64 a0_5,.int .i64 a0_6,.int .i64 a0_7,.int .i64 a0_8,.int .i64 a0_9] 32 (0,0)) (kA BK293.out)) : gb299 ≠ gb293)); have n8_ := Aside0.mk ((by rw [hg]; exact Nat.ne_of_lt (blk_lt (g:=gb297) (o:=om_) (kA BK297.out)) : gb297 ≠ gb299)); have n9_ := Aside0.mk ((by rw [hg]; exact Nat.ne_of_gt (blk_lt (g:=gb297) (o:=om_) (kA BK297.out)) : gb299 ≠ gb297)); clear BK293; clear BK297; clear HB; have BK293 := n0_; have BK297 := n1_; have HB := n2_; have BK299 := n3_; have GW299 := n4_; have GE299 := n5_; have NB293_299 := n6_; have NB299_293 := n7_; have NB297_299 := n8_; have NB299_297 := n9_; clear n0_ n1_ n2_ n3_ n4_ n5_ n6_ n7_ n8_ n9_; clear hb hbox hg; have hnb23 := NB299_293.out; have hnc23 := NB293_299.out; have hnb24 := NB299_297.out; have hnc24 := NB297_299.out; have hcz25_0 : w22.cell? ⟨gb299,0,none⟩ = some (.int .i64 0) := (blk_cell BK299.out 0).trans rfl; have hcz25_1 : w22.cell? ⟨gb299,1,none⟩ = some (.int .i64 0) := (blk_cell BK299.out 1).trans rfl; have hcz25_2 : w22.cell? ⟨gb299,2,none⟩ = some (.int .i64 0) := (blk_cell BK299.out 2).trans rfl; have hcz25_3 : w22.cell? ⟨gb299,3,none⟩ = some (.string (⟨#[]⟩ : ByteArray)) := (blk_cell BK299.out 3).trans rfl; have hfz25_0 := blk_frozen BK299.out 0; have hfz25_1 := blk_frozen BK299.out 1; have hfz25_2 := blk_frozen BK299.out 2; have hfz25_3 := blk_frozen BK299.out 3; have hnb26 := NB297_293.out; have hnc26 := NB293_297.out) | (at_mapUpdate; refine mapput_event rfl (t:=62) rfl (b:=gb297) (om := om_) (l:=x298000_2) (s:=((rd_T39 l0_2 x46_2).f3)) Tryd.underlying62 Tryd.underlying9 Tryd.underlying4 rfl (by rfl) rfl (by (with_reducible repeat (first | refine blk_drewN ?_ _ | refine blk_drew ?_ | refine blk_alloc ?_ _ | refine mblk_far ?_ NB297_299.out _)); exact BK297.out) MO_.out (Nat.le_trans HG_.out.2 (by decide)) (Nat.lt_trans HG_.out.1 (by decide)) ?_; intro wm_ om2_ hbm2_ hM2_ hg2_; have ns_ : Aside0 (wm_.heap[gb293]? = some (.cells #[.int .i64 a0_0,.int .i64 a0_1,.slice (some ad298) l0_2.length c0_2,.slice A0_3 l0_3.length c0_3,.int .i64 a0_4,.int .i64 a0_5,.int .i64 a0_6,.int .i64 a0_7,.int .i64 a0_8,.int .i64 a0_9] 32 (0,0))) := ⟨(hg2_.block gb293 (blk_lt (g:=gb293) (o:=.cells #[.int .i64 a0_0,.int .i64 a0_1,.slice (some ad298) l0_2.length c0_2,.slice A0_3 l0_3.length c0_3,.int .i64 a0_4,.int .i64 a0_5,.int .i64 a0_6,.int .i64 a0_7,.int .i64 a0_8,.int .i64 a0_9] 32 (0,0)) (by (with_reducible repeat (first | refine blk_drewN ?_ _ | refine blk_drew ?_ | refine blk_alloc ?_ _ | refine mblk_far ?_ NB293_299.out _)); exact BK293.out)) (by intro e_; cases e_; exact NB293_297.out rfl)).trans (by (with_reducible repeat (first | refine blk_drewN ?_ _ | refine blk_drew ?_ | refine blk_alloc ?_ _ | refine mblk_far ?_ NB293_299.out _)); exact BK293.out)⟩; have nh_ := Aside0.mk (Below.grown bA hg2_ (below_size bA) (fun _ e_ => by cases e_; exact GE297.out)); have nb_ := Aside0.mk hbm2_; have nm_ := Aside0.mk hM2_; clear HB MO_ BK293 BK297 hg2_ hbm2_ hM2_))
         go_roundg k2
         case measure => have := HJ1.out; have := HK2.out; omega
         case rel => exact ⟨(wrap64 (x46_2 + 1)),(insK ((rd_T39 l0_2 x46_2).f3) x298000_2),om2_,(by first | rfl | (simp; done) | (simp [*]; done)),H',⟨by have := HJ1.out; have := HK2.out; omega⟩,⟨by (with_reducible repeat (first | refine blk_drewN ?_ _ | refine blk_drew ?_ | refine blk_alloc ?_ _)); exact ns_.out⟩,⟨by (with_reducible repeat (first | refine blk_drewN ?_ _ | refine blk_drew ?_ | refine blk_alloc ?_ _)); exact nb_.out⟩,nm_,⟨by repeat (first | (with_reducible first | exact nh_.out | apply below_alloc | apply pw_below_drewN | apply below_drew1 | refine below_set ?_ GE293.out | refine below_set ?_ GE297.out | refine below_set ?_ GE299.out) | exact nh_.out)⟩⟩
        ·rw [if_neg c21] at H
         exact absurd H (by simp)
       ·rw [if_neg c20] at H
        exact absurd H (by simp)
      ·rw [if_neg c19] at H
       have c19b0 : decide (x46_2 < (l0_2.length : Int)) = false := decide_eq_false c19
       clear c19
       have H' := Aside0.mk H
       clear H
       have hnb28 := NB293_297.out
       have hnc28 := NB297_293.out
       have hcz29_0 : wr.cell? ⟨gb293,0,none⟩ = some (.int .i64 a0_0) := (blk_cell BK293.out 0).trans rfl
       have hcz29_1 : wr.cell? ⟨gb293,1,none⟩ = some (.int .i64 a0_1) := (blk_cell BK293.out 1).trans rfl
       have hcz29_2 : wr.cell? ⟨gb293,2,none⟩ = some (.slice A0_2 l0_2.length c0_2) := (blk_cell BK293.out 2).trans rfl
       have hcz29_3 : wr.cell? ⟨gb293,3,none⟩ = some (.slice A0_3 l0_3.length c0_3) := (blk_cell BK293.out 3).trans rfl
       have hcz29_4 : wr.cell? ⟨gb293,4,none⟩ = some (.int .i64 a0_4) := (blk_cell BK293.out 4).trans rfl
       have hcz29_5 : wr.cell? ⟨gb293,5,none⟩ = some (.int .i64 a0_5) := (blk_cell BK293.out 5).trans rfl
       have hcz29_6 : wr.cell? ⟨gb293,6,none⟩ = some (.int .i64 a0_6) := (blk_cell BK293.out 6).trans rfl
       have hcz29_7 : wr.cell? ⟨gb293,7,none⟩ = some (.int .i64 a0_7) := (blk_cell BK293.out 7).trans rfl
       have hcz29_8 : wr.cell? ⟨gb293,8,none⟩ = some (.int .i64 a0_8) := (blk_cell BK293.out 8).trans rfl
       have hcz29_9 : wr.cell? ⟨gb293,9,none⟩ = some (.int .i64 a0_9) := (blk_cell BK293.out 9).trans rfl
       have hfz29_0 := blk_frozen BK293.out 0
       have hfz29_1 := blk_frozen BK293.out 1
       have hfz29_2 := blk_frozen BK293.out 2
       have hfz29_3 := blk_frozen BK293.out 3
       have hfz29_4 := blk_frozen BK293.out 4
       have hfz29_5 := blk_frozen BK293.out 5
       have hfz29_6 := blk_frozen BK293.out 6
       have hfz29_7 := blk_frozen BK293.out 7
       have hfz29_8 := blk_frozen BK293.out 8
       have hfz29_9 := blk_frozen BK293.out 9
       go_wp2
       go_loopg [57] k2 (fun kq v57 w' => ∃ (x57_3 : Int) (x298000_3 : List ByteArray) (om_ : Obj),v57 = .int .i64 x57_3 ∧ Aside0 (impl_StateOK.l1 kq l0_3 (l0_3.length : Int) x57_3 a0_0 a0_1 l0_2 l0_3 a0_4 a0_5 a0_6 a0_7 a0_8 a0_9 x298000_3 = some r) ∧ Aside0 (kq ≤ k2) ∧ Aside0 (w'.heap[gb293]? = some (.cells #[.int .i64 a0_0,.int .i64 a0_1,(.slice A0_2 l0_2.length c0_2),(.slice A0_3 l0_3.length c0_3),.int .i64 a0_4,.int .i64 a0_5,.int .i64 a0_6,.int .i64 a0_7,.int .i64 a0_8,.int .i64 a0_9] 32 (0,0))) ∧ Aside0 (w'.heap[gb297]? = some om_) ∧ Aside0 (MapS Tryd.prog 9 4 om_ x298000_3) ∧ Aside0 (Below w.heap.size w w'))
       case atStart => exact ⟨(0),(x298000_2),om_,(by first | rfl | (simp; done) | (simp [*]; done)),H',⟨Nat.le_refl _⟩,⟨kA BK293.out⟩,⟨kA BK297.out⟩,MO_,⟨bA⟩⟩
       case round =>
        clear H'
        try clear c1
        try clear c2
        try clear p2
        try clear q2
        try clear hx2
        try clear c5
        try clear p6
        try clear c7
        try clear c8
        try clear c8b0
        try clear c9
        try clear c15
        try clear c17
        try clear c19
        try clear c19b0
        try clear c20
        try clear c20b0
        try clear c21
        try clear c21b0
        try clear c23
        try clear c24
        try clear c25
        try clear c26
        try clear c28
        try clear p29
        try clear q29
        try clear hx29
        try clear hcz11_0
        try clear hcz11_1
        try clear hcz11_2
        try clear hcz11_3
        try clear hcz11_4
        try clear hcz11_5
        try clear hcz11_6
        try clear hcz11_7
        try clear hcz11_8
        try clear hcz11_9
        try clear hcz13_0
        try clear hcz13_1
        try clear hcz13_2
        try clear hcz13_3
        try clear hcz13_4
        try clear hcz13_5
        try clear hcz13_6
        try clear hcz13_7
        try clear hcz13_8
        try clear hcz13_9
        try clear hcz14_0
        try clear hcz14_1
        try clear hcz14_2
        try clear hcz14_3
        try clear hcz14_4
        try clear hcz14_5
        try clear hcz14_6
        try clear hcz14_7
        try clear hcz14_8
        try clear hcz14_9
        try clear hcz18_0
        try clear hcz18_1
        try clear hcz18_2
        try clear hcz18_3
        try clear hcz18_4
        try clear hcz18_5
        try clear hcz18_6
        try clear hcz18_7
        try clear hcz18_8
        try clear hcz18_9
        try clear hcz25_0
        try clear hcz25_1
        try clear hcz25_2
        try clear hcz25_3
        try clear hcz27_0
        try clear hcz29_0
        try clear hcz29_1
        try clear hcz29_2
        try clear hcz29_3
        try clear hcz29_4
        try clear hcz29_5
        try clear hcz29_6
        try clear hcz29_7
        try clear hcz29_8
        try clear hcz29_9
        try clear hcz9_0
        try clear hcz9_1
        try clear hcz9_2
        try clear hcz9_3
        try clear hcz9_4
        try clear hcz9_5
        try clear hcz9_6
        try clear hcz9_7
        try clear hcz9_8
        try clear hcz9_9
        try clear hfz11_0
        try clear hfz11_1
        try clear hfz11_2
        try clear hfz11_3
        try clear hfz11_4
        try clear hfz11_5
        try clear hfz11_6
        try clear hfz11_7
        try clear hfz11_8
        try clear hfz11_9
        try clear hfz13_0
        try clear hfz13_1
        try clear hfz13_2
        try clear hfz13_3
        try clear hfz13_4
        try clear hfz13_5
        try clear hfz13_6
        try clear hfz13_7
        try clear hfz13_8
        try clear hfz13_9
        try clear hfz14_0
        try clear hfz14_1
        try clear hfz14_2
        try clear hfz14_3
        try clear hfz14_4
        try clear hfz14_5
        try clear hfz14_6
        try clear hfz14_7
        try clear hfz14_8
        try clear hfz14_9
        try clear hfz18_0
        try clear hfz18_1
        try clear hfz18_2
        try clear hfz18_3
        try clear hfz18_4
        try clear hfz18_5
        try clear hfz18_6
        try clear hfz18_7
        try clear hfz18_8
        try clear hfz18_9
        try clear hfz25_0
        try clear hfz25_1
        try clear hfz25_2
        try clear hfz25_3
        try clear hfz27_0
        try clear hfz29_0
        try clear hfz29_1
        try clear hfz29_2
        try clear hfz29_3
        try clear hfz29_4
        try clear hfz29_5
        try clear hfz29_6
        try clear hfz29_7
        try clear hfz29_8
        try clear hfz29_9
        try clear hfz9_0
        try clear hfz9_1
        try clear hfz9_2
        try clear hfz9_3
        try clear hfz9_4
        try clear hfz9_5
        try clear hfz9_6
        try clear hfz9_7
        try clear hfz9_8
        try clear hfz9_9
        try clear hx298_0
        try clear hx298_1
        try clear hx298_2
        try clear hx298_3
        try clear p2
        try clear p298
        try clear p6
        try clear q298
        obtain ⟨x57_3,x298000_3,om_,rfl,HA,HK3,BK293,BK297,MO_,HB⟩ := hrel
        cases gk with
        | zero => exact absurd HA.out (by simp [impl_StateOK.l1])
        | succ k3 =>
         have H := HA.out
         clear HA
         simp only [impl_StateOK.l1] at H
         by_cases c30 : x57_3 < (l0_3.length : Int)
         ·rw [if_pos c30] at H
          have c30b0 : decide (x57_3 < (l0_3.length : Int)) = true := decide_eq_true c30
          clear c30
          by_cases c31 : 0 ≤ x57_3
          ·rw [if_pos c31] at H
           have c31b0 : decide (0 ≤ x57_3) = true := decide_eq_true c31
           clear c31
           by_cases c32 : x57_3 < (l0_3.length : Int)
           ·rw [if_pos c32] at H
            have c32b0 : decide (x57_3 < (l0_3.length : Int)) = true := decide_eq_true c32
            clear c32
            replace H := Option.bind_eq_some_iff.mp H
            obtain ⟨⟨t302,t303,t304,t305⟩,A330,H⟩ := H
            try dsimp only at H
            have A33 := Aside0.mk A330
            clear A330
            by_cases c34 : t305 = true
            ·subst c34
             rw [if_pos rfl] at H
             replace H := Option.bind_eq_some_iff.mp H
             obtain ⟨t306,A350,H⟩ := H
             try dsimp only at H
             have A35 := Aside0.mk A350
             clear A350
             by_cases c36 : t306 = true
             ·subst c36
              rw [if_pos rfl] at H
              have hgd_ : x298000_3.length < 100000 ∧ (((rd_T55 l0_3 x57_3).f1)).size ≤ 140737488351232 := by
               by_cases hq_ : x298000_3.length < 100000 ∧ (((rd_T55 l0_3 x57_3).f1)).size ≤ 140737488351232
               ·exact hq_
               ·rw [if_neg hq_] at H; cases H
              rw [if_pos hgd_] at H
              have HG_ := Aside0.mk hgd_
              clear hgd_
              have H' := Aside0.mk H
              clear H
              have p300 : 0 ≤ (x57_3 : Int) := of_decide_eq_true (by first | (with_reducible assumption) | assumption)
              have q300 : x57_3 < (l0_3.length : Int) := of_decide_eq_true (by first | (with_reducible assumption) | assumption)
              obtain ⟨ad300,e300,hx300_0,hx300_1⟩ := at_T55 HR0_3.out x57_3 p300 q300
              cases e300
              replace hx300_0 := (HB.out.cell (World.block_lt_of_cell? w _ hx300_0)).trans hx300_0
              replace hx300_1 := (HB.out.cell (World.block_lt_of_cell? w _ hx300_1)).trans hx300_1
              replace p300 := eq_true p300
              replace q300 := eq_true q300
              go_wp2_with (first | ((with_reducible refine gate_dst (N:=7) rfl ?_); (try (refine gate_guard (by rfl) ?_; dsimp only)); refine box_event ?hg (N:=7) ?hd (cs := #[.int .i64 0,.string (⟨#[]⟩ : ByteArray)]) (t:=55) ?hr ?_; (case hd => rfl); (case hg => rfl); (case hr => first | (go_simp; done) | (go_simp; rfl)); intro gb301 hg w37 hbox hb; have n0_ := Aside0.mk (blk_below (g:=gb293) (o:=.cells #[.int .i64 a0_0,.int .i64 a0_1,.slice A0_2 l0_2.length c0_2,.slice (some ad300) l0_3.length c0_3,.int .i64 a0_4,.int .i64 a0_5,.int .i64 a0_6,.int .i64 a0_7,.int .i64 a0_8,.int .i64 a0_9] 32 (0,0)) (kA BK293.out) hb); have n1_ := Aside0.mk (blk_below (g:=gb297) (o:=om_) (kA BK297.out) hb); have n2_ := Aside0.mk (below_step bA hb); have n3_ := Aside0.mk (hbox); have n4_ := Aside0.mk ((by rw [hg]; exact (below_size bA) : w.heap.size ≤ gb301)); have n5_ := Aside0.mk ((by rw [hg]; exact (below_size bA) : w.heap.size ≤ gb301)); have n6_ := Aside0.mk ((by rw [hg]; exact Nat.ne_of_lt (blk_lt (g:=gb293) (o:=.cells #[.int .i64 a0_0,.int .i64 a0_1,.slice A0_2 l0_2.length c0_2,.slice (some ad300) l0_3.length c0_3,.int .i64 a0_4,.int .i64 a0_5,.int .i64 a0_6,.int .i64 a0_7,.int .i64 a0_8,.int .i64 a0_9] 32 (0,0)) (kA BK293.out)) : gb293 ≠ gb301)); have n7_ := Aside0.mk ((by rw [hg]; exact Nat.ne_of_gt (blk_lt (g:=gb293) (o:=.cells #[.int .i64 a0_0,.int .i64 a0_1,.slice A0_2 l0_2.length c0_2,.slice (some ad300) l0_3.length c0_3,.int .i64 a0_4,.int .i64 a0_5,.int .i64 a0_6,.int .i64 a0_7,.int .i64 a0_8,.int .i64 a0_9] 32 (0,0)) (kA BK293.out)) : gb301 ≠ gb293)); have n8_ := Aside0.mk ((by rw [hg]; exact Nat.ne_of_lt (blk_lt (g:=gb297) (o:=om_) (kA BK297.out)) : gb297 ≠ gb301)); have n9_ := Aside0.mk ((by rw [hg]; exact Nat.ne_of_gt (blk_lt (g:=gb297) (o:=om_) (kA BK297.out)) : gb301 ≠ gb297)); clear BK293; clear BK297; clear HB; have BK293 := n0_; have BK297 := n1_; have HB := n2_; have BK301 := n3_; have GW301 := n4_; have GE301 := n5_; have NB293_301 := n6_; have NB301_293 := n7_; have NB297_301 := n8_; have NB301_297 := n9_; clear n0_ n1_ n2_ n3_ n4_ n5_ n6_ n7_ n8_ n9_; clear hb hbox hg; have hnb38 := NB301_293.out; have hnc38 := NB293_301.out; have hnb39 := NB301_297.out; have hnc39 := NB297_301.out; have hcz40_0 : w37.cell? ⟨gb301,0,none⟩ = some (.int .i64 0) := (blk_cell BK301.out 0).trans rfl; have hcz40_1 : w37.cell? ⟨gb301,1,none⟩ = some (.string (⟨#[]⟩ : ByteArray)) := (blk_cell BK301.out 1).trans rfl; have hfz40_0 := blk_frozen BK301.out 0; have hfz40_1 := blk_frozen BK301.out 1) | ((with_reducible refine gate_callee (f:=29) rfl ?_); refine goesL_ (some 64) rfl rfl Tryd.func29 (by kernel_rfl) rfl #[.string ((rd_T55 l0_3 x57_3).f1)] rfl mA ?_; (with_reducible refine (impl_readDataKey.calls k3 ((rd_T55 l0_3 x57_3).f1) t302 t303 t304 true _ ?side1 A33.out).mono ?_); (case side1 => exact HV.out.below bA); rintro e w41 ⟨rfl,hb⟩; refine ⟨_,rfl,?_⟩; have n0_ := Aside0.mk (blk_below (g:=gb293) (o:=.cells #[.int .i64 a0_0,.int .i64 a0_1,.slice A0_2 l0_2.length c0_2,.slice (some ad300) l0_3.length c0_3,.int .i64 a0_4,.int .i64 a0_5,.int .i64 a0_6,.int .i64 a0_7,.int .i64 a0_8,.int .i64 a0_9] 32 (0,0)) (kF BK293.out) hb); have n1_ := Aside0.mk (blk_below (g:=gb297) (o:=om_) (by (with_reducible repeat (first | refine blk_drewN ?_ _ | refine blk_drew ?_ | refine blk_alloc ?_ _)); refine mblk_far ?_ NB297_301.out _; (with_reducible repeat (first | refine blk_drewN ?_ _ | refine blk_drew ?_ | refine blk_alloc ?_ _)); refine mblk_far ?_ NB297_301.out _; (with_reducible repeat (first | refine blk_drewN ?_ _ | refine blk_drew ?_ | refine blk_alloc ?_ _)); exact BK297.out) hb); have n2_ := Aside0.mk (blk_below (g:=gb301) (o:=.cells #[.int .i64 ((rd_T55 l0_3 x57_3).f0),.string ((rd_T55 l0_3 x57_3).f1)] 55 (0,0)) (by (with_reducible repeat (first | refine blk_drewN ?_ _ | refine blk_drew ?_ | refine blk_alloc ?_ _)); refine blk_put (cs := #[.int .i64 ((rd_T55 l0_3 x57_3).f0),.string (⟨#[]⟩ : ByteArray)]) ?_ 1 _ rfl; (with_reducible repeat (first | refine blk_drewN ?_ _ | refine blk_drew ?_ | refine blk_alloc ?_ _)); refine blk_put (cs := #[.int .i64 0,.string (⟨#[]⟩ : ByteArray)]) ?_ 0 _ rfl; (with_reducible repeat (first | refine blk_drewN ?_ _ | refine blk_drew ?_ | refine blk_alloc ?_ _)); exact BK301.out) hb); have n3_ := Aside0.mk (below_step bA hb); clear BK293; clear BK297; clear BK301; clear HB; have BK293 := n0_; have BK297 := n1_; have BK301 := n2_; have HB := n3_; clear n0_ n1_ n2_ n3_; (try clear hb); (try clear hb2); (try clear hk); (try clear hi); have hcz42_0 : w41.cell? ⟨gb301,0,none⟩ = some (.int .i64 ((rd_T55 l0_3 x57_3).f0)) := (blk_cell BK301.out 0).trans rfl; have hcz42_1 : w41.cell? ⟨gb301,1,none⟩ = some (.string ((rd_T55 l0_3 x57_3).f1)) := (blk_cell BK301.out 1).trans rfl; have hfz42_0 := blk_frozen BK301.out 0; have hfz42_1 := blk_frozen BK301.out 1; have hnb43 := NB293_297.out; have hnc43 := NB297_293.out; have hcz44_0 : w41.cell? ⟨gb293,0,none⟩ = some (.int .i64 a0_0) := (blk_cell BK293.out 0).trans rfl; have hcz44_1 : w41.cell? ⟨gb293,1,none⟩ = some (.int .i64 a0_1) := (blk_cell BK293.out 1).trans rfl; have hcz44_2 : w41.cell? ⟨gb293,2,none⟩ = some (.slice A0_2 l0_2.length c0_2) := (blk_cell BK293.out 2).trans rfl; have hcz44_3 : w41.cell? ⟨gb293,3,none⟩ = some (.slice (some ad300) l0_3.length c0_3) := (blk_cell BK293.out 3).trans rfl; have hcz44_4 : w41.cell? ⟨gb293,4,none⟩ = some (.int .i64 a0_4) := (blk_cell BK293.out 4).trans rfl; have hcz44_5 : w41.cell? ⟨gb293,5,none⟩ = some (.int .i64 a0_5) := (blk_cell BK293.out 5).trans rfl; have hcz44_6 : w41.cell? ⟨gb293,6,none⟩ = some (.int .i64 a0_6) := (blk_cell BK293.out 6).trans rfl; have hcz44_7 : w41.cell? ⟨gb293,7,none⟩ = some (.int .i64 a0_7) := (blk_cell BK293.out 7).trans rfl; have hcz44_8 : w41.cell? ⟨gb293,8,none⟩ = some (.int .i64 a0_8) := (blk_cell BK293.out 8).trans rfl; have hcz44_9 : w41.cell? ⟨gb293,9,none⟩ = some (.int .i64 a0_9) := (blk_cell BK293.out 9).trans rfl; have hfz44_0 := blk_frozen BK293.out 0; have hfz44_1 := blk_frozen BK293.out 1; have hfz44_2 := blk_frozen BK293.out 2; have hfz44_3 := blk_frozen BK293.out 3; have hfz44_4 := blk_frozen BK293.out 4; have hfz44_5 := blk_frozen BK293.out 5; have hfz44_6 := blk_frozen BK293.out 6; have hfz44_7 := blk_frozen BK293.out 7; have hfz44_8 := blk_frozen BK293.out 8; have hfz44_9 := blk_frozen BK293.out 9) | (go_at_call 26; (with_reducible refine (impl_within.calls ((rd_T55 l0_3 x57_3).f0) 1 a0_0 true _ A35.out).mono ?_); rintro e w' ⟨rfl,⟨nd,rfl⟩⟩; (try (rw [drewN_self w41]; generalize hq_ : World.drewN w41 _ = w41; have n0_ : Aside0 (w41.heap[gb293]? = some (.cells #[.int .i64 a0_0,.int .i64 a0_1,.slice A0_2 l0_2.length c0_2,.slice (some ad300) l0_3.length c0_3,.int .i64 a0_4,.int .i64 a0_5,.int .i64 a0_6,.int .i64 a0_7,.int .i64 a0_8,.int .i64 a0_9] 32 (0,0))) := ⟨by rw [← hq_]; exact (kA BK293.out)⟩; have n1_ : Aside0 (w41.heap[gb297]? = some om_) := ⟨by rw [← hq_]; exact (kA BK297.out)⟩; have n2_ : Aside0 (w41.heap[gb301]? = some (.cells #[.int .i64 ((rd_T55 l0_3 x57_3).f0),.string ((rd_T55 l0_3 x57_3).f1)] 55 (0,0))) := ⟨by rw [← hq_]; exact (kA BK301.out)⟩; have n3_ : Aside0 (Below w.heap.size w w41) := ⟨by rw [← hq_]; exact bA⟩; clear BK293 BK297 BK301 HB hq_; have BK293 := n0_; have BK297 := n1_; have BK301 := n2_; have HB := n3_; clear n0_ n1_ n2_ n3_)); have hcy_0 : w41.cell? ⟨gb301,0,none⟩ = some (.int .i64 ((rd_T55 l0_3 x57_3).f0)) := (blk_cell BK301.out 0).trans rfl; have hcy_1 : w41.cell? ⟨gb301,1,none⟩ = some (.string ((rd_T55 l0_3 x57_3).f1)) := (blk_cell BK301.out 1).trans rfl) | (at_mapUpdate; refine mapput_event rfl (t:=62) rfl (b:=gb297) (om := om_) (l:=x298000_3) (s:=((rd_T55 l0_3 x57_3).f1)) Tryd.underlying62 Tryd.underlying9 Tryd.underlying4 rfl (by rfl) rfl (by (with_reducible repeat (first | refine blk_drewN ?_ _ | refine blk_drew ?_ | refine blk_alloc ?_ _ | refine mblk_far ?_ NB297_301.out _)); exact BK297.out) MO_.out (Nat.le_trans HG_.out.2 (by decide)) (Nat.lt_trans HG_.out.1 (by decide)) ?_; intro wm_ om2_ hbm2_ hM2_ hg2_; have ns_ : Aside0 (wm_.heap[gb293]? = some (.cells #[.int .i64 a0_0,.int .i64 a0_1,.slice A0_2 l0_2.length c0_2,.slice (some ad300) l0_3.length c0_3,.int .i64 a0_4,.int .i64 a0_5,.int .i64 a0_6,.int .i64 a0_7,.int .i64 a0_8,.int .i64 a0_9] 32 (0,0))) := ⟨(hg2_.block gb293 (blk_lt (g:=gb293) (o:=.cells #[.int .i64 a0_0,.int .i64 a0_1,.slice A0_2 l0_2.length c0_2,.slice (some ad300) l0_3.length c0_3,.int .i64 a0_4,.int .i64 a0_5,.int .i64 a0_6,.int .i64 a0_7,.int .i64 a0_8,.int .i64 a0_9] 32 (0,0)) (by (with_reducible repeat (first | refine blk_drewN ?_ _ | refine blk_drew ?_ | refine blk_alloc ?_ _ | refine mblk_far ?_ NB293_301.out _)); exact BK293.out)) (by intro e_; cases e_; exact NB293_297.out rfl)).trans (by (with_reducible repeat (first | refine blk_drewN ?_ _ | refine blk_drew ?_ | refine blk_alloc ?_ _ | refine mblk_far ?_ NB293_301.out _)); exact BK293.out)⟩; have nh_ := Aside0.mk (Below.grown bA hg2_ (below_size bA) (fun _ e_ => by cases e_; exact GE297.out)); have nb_ := Aside0.mk hbm2_; have nm_ := Aside0.mk hM2_; clear HB MO_ BK293 BK297 hg2_ hbm2_ hM2_))
              go_roundg k3
              case measure => have := HJ1.out; have := HK2.out; have := HK3.out; omega
              case rel => exact ⟨(wrap64 (x57_3 + 1)),(insK ((rd_T55 l0_3 x57_3).f1) x298000_3),om2_,(by first | rfl | (simp; done) | (simp [*]; done)),H',⟨by have := HJ1.out; have := HK2.out; have := HK3.out; omega⟩,⟨by (with_reducible repeat (first | refine blk_drewN ?_ _ | refine blk_drew ?_ | refine blk_alloc ?_ _)); exact ns_.out⟩,⟨by (with_reducible repeat (first | refine blk_drewN ?_ _ | refine blk_drew ?_ | refine blk_alloc ?_ _)); exact nb_.out⟩,nm_,⟨by repeat (first | (with_reducible first | exact nh_.out | apply below_alloc | apply pw_below_drewN | apply below_drew1 | refine below_set ?_ GE293.out | refine below_set ?_ GE297.out | refine below_set ?_ GE301.out) | exact nh_.out)⟩⟩
             ·replace c36 := Bool.eq_false_iff.mpr c36
              subst c36
              rw [if_neg (show ¬ (false = true) by decide)] at H
              obtain rfl := Option.some.inj H
              have p300 : 0 ≤ (x57_3 : Int) := of_decide_eq_true (by first | (with_reducible assumption) | assumption)
              have q300 : x57_3 < (l0_3.length : Int) := of_decide_eq_true (by first | (with_reducible assumption) | assumption)
              obtain ⟨ad300,e300,hx300_0,hx300_1⟩ := at_T55 HR0_3.out x57_3 p300 q300
              cases e300
              replace hx300_0 := (HB.out.cell (World.block_lt_of_cell? w _ hx300_0)).trans hx300_0
              replace hx300_1 := (HB.out.cell (World.block_lt_of_cell? w _ hx300_1)).trans hx300_1
              replace p300 := eq_true p300
              replace q300 := eq_true q300
              go_wp2_with (first | ((with_reducible refine gate_dst (N:=7) rfl ?_); (try (refine gate_guard (by rfl) ?_; dsimp only)); refine box_event ?hg (N:=7) ?hd (cs := #[.int .i64 0,.string (⟨#[]⟩ : ByteArray)]) (t:=55) ?hr ?_; (case hd => rfl); (case hg => rfl); (case hr => first | (go_simp; done) | (go_simp; rfl)); intro gb301 hg w46 hbox hb; have n0_ := Aside0.mk (blk_below (g:=gb293) (o:=.cells #[.int .i64 a0_0,.int .i64 a0_1,.slice A0_2 l0_2.length c0_2,.slice (some ad300) l0_3.length c0_3,.int .i64 a0_4,.int .i64 a0_5,.int .i64 a0_6,.int .i64 a0_7,.int .i64 a0_8,.int .i64 a0_9] 32 (0,0)) (kA BK293.out) hb); have n1_ := Aside0.mk (blk_below (g:=gb297) (o:=om_) (kA BK297.out) hb); have n2_ := Aside0.mk (below_step bA hb); have n3_ := Aside0.mk (hbox); have n4_ := Aside0.mk ((by rw [hg]; exact (below_size bA) : w.heap.size ≤ gb301)); have n5_ := Aside0.mk ((by rw [hg]; exact (below_size bA) : w.heap.size ≤ gb301)); have n6_ := Aside0.mk ((by rw [hg]; exact Nat.ne_of_lt (blk_lt (g:=gb293) (o:=.cells #[.int .i64 a0_0,.int .i64 a0_1,.slice A0_2 l0_2.length c0_2,.slice (some ad300) l0_3.length c0_3,.int .i64 a0_4,.int .i64 a0_5,.int .i64 a0_6,.int .i64 a0_7,.int .i64 a0_8,.int .i64 a0_9] 32 (0,0)) (kA BK293.out)) : gb293 ≠ gb301)); have n7_ := Aside0.mk ((by rw [hg]; exact Nat.ne_of_gt (blk_lt (g:=gb293) (o:=.cells #[.int .i64 a0_0,.int .i64 a0_1,.slice A0_2 l0_2.length c0_2,.slice (some ad300) l0_3.length c0_3,.int .i64 a0_4,.int .i64 a0_5,.int .i64 a0_6,.int .i64 a0_7,.int .i64 a0_8,.int .i64 a0_9] 32 (0,0)) (kA BK293.out)) : gb301 ≠ gb293)); have n8_ := Aside0.mk ((by rw [hg]; exact Nat.ne_of_lt (blk_lt (g:=gb297) (o:=om_) (kA BK297.out)) : gb297 ≠ gb301)); have n9_ := Aside0.mk ((by rw [hg]; exact Nat.ne_of_gt (blk_lt (g:=gb297) (o:=om_) (kA BK297.out)) : gb301 ≠ gb297)); clear BK293; clear BK297; clear HB; have BK293 := n0_; have BK297 := n1_; have HB := n2_; have BK301 := n3_; have GW301 := n4_; have GE301 := n5_; have NB293_301 := n6_; have NB301_293 := n7_; have NB297_301 := n8_; have NB301_297 := n9_; clear n0_ n1_ n2_ n3_ n4_ n5_ n6_ n7_ n8_ n9_; clear hb hbox hg; have hnb47 := NB301_293.out; have hnc47 := NB293_301.out; have hnb48 := NB301_297.out; have hnc48 := NB297_301.out; have hcz49_0 : w46.cell? ⟨gb301,0,none⟩ = some (.int .i64 0) := (blk_cell BK301.out 0).trans rfl; have hcz49_1 : w46.cell? ⟨gb301,1,none⟩ = some (.string (⟨#[]⟩ : ByteArray)) := (blk_cell BK301.out 1).trans rfl; have hfz49_0 := blk_frozen BK301.out 0; have hfz49_1 := blk_frozen BK301.out 1) | ((with_reducible refine gate_callee (f:=29) rfl ?_); refine goesL_ (some 64) rfl rfl Tryd.func29 (by kernel_rfl) rfl #[.string ((rd_T55 l0_3 x57_3).f1)] rfl mA ?_; (with_reducible refine (impl_readDataKey.calls k3 ((rd_T55 l0_3 x57_3).f1) t302 t303 t304 true _ ?side1 A33.out).mono ?_); (case side1 => exact HV.out.below bA); rintro e w50 ⟨rfl,hb⟩; refine ⟨_,rfl,?_⟩; have n0_ := Aside0.mk (blk_below (g:=gb293) (o:=.cells #[.int .i64 a0_0,.int .i64 a0_1,.slice A0_2 l0_2.length c0_2,.slice (some ad300) l0_3.length c0_3,.int .i64 a0_4,.int .i64 a0_5,.int .i64 a0_6,.int .i64 a0_7,.int .i64 a0_8,.int .i64 a0_9] 32 (0,0)) (kF BK293.out) hb); have n1_ := Aside0.mk (blk_below (g:=gb297) (o:=om_) (by (with_reducible repeat (first | refine blk_drewN ?_ _ | refine blk_drew ?_ | refine blk_alloc ?_ _)); refine mblk_far ?_ NB297_301.out _; (with_reducible repeat (first | refine blk_drewN ?_ _ | refine blk_drew ?_ | refine blk_alloc ?_ _)); refine mblk_far ?_ NB297_301.out _; (with_reducible repeat (first | refine blk_drewN ?_ _ | refine blk_drew ?_ | refine blk_alloc ?_ _)); exact BK297.out) hb); have n2_ := Aside0.mk (blk_below (g:=gb301) (o:=.cells #[.int .i64 ((rd_T55 l0_3 x57_3).f0),.string ((rd_T55 l0_3 x57_3).f1)] 55 (0,0)) (by (with_reducible repeat (first | refine blk_drewN ?_ _ | refine blk_drew ?_ | refine blk_alloc ?_ _)); refine blk_put (cs := #[.int .i64 ((rd_T55 l0_3 x57_3).f0),.string (⟨#[]⟩ : ByteArray)]) ?_ 1 _ rfl; (with_reducible repeat (first | refine blk_drewN ?_ _ | refine blk_drew ?_ | refine blk_alloc ?_ _)); refine blk_put (cs := #[.int .i64 0,.string (⟨#[]⟩ : ByteArray)]) ?_ 0 _ rfl; (with_reducible repeat (first | refine blk_drewN ?_ _ | refine blk_drew ?_ | refine blk_alloc ?_ _)); exact BK301.out) hb); have n3_ := Aside0.mk (below_step bA hb); clear BK293; clear BK297; clear BK301; clear HB; have BK293 := n0_; have BK297 := n1_; have BK301 := n2_; have HB := n3_; clear n0_ n1_ n2_ n3_; (try clear hb); (try clear hb2); (try clear hk); (try clear hi); have hcz51_0 : w50.cell? ⟨gb301,0,none⟩ = some (.int .i64 ((rd_T55 l0_3 x57_3).f0)) := (blk_cell BK301.out 0).trans rfl; have hcz51_1 : w50.cell? ⟨gb301,1,none⟩ = some (.string ((rd_T55 l0_3 x57_3).f1)) := (blk_cell BK301.out 1).trans rfl; have hfz51_0 := blk_frozen BK301.out 0; have hfz51_1 := blk_frozen BK301.out 1; have hnb52 := NB293_297.out; have hnc52 := NB297_293.out; have hcz53_0 : w50.cell? ⟨gb293,0,none⟩ = some (.int .i64 a0_0) := (blk_cell BK293.out 0).trans rfl; have hcz53_1 : w50.cell? ⟨gb293,1,none⟩ = some (.int .i64 a0_1) := (blk_cell BK293.out 1).trans rfl; have hcz53_2 : w50.cell? ⟨gb293,2,none⟩ = some (.slice A0_2 l0_2.length c0_2) := (blk_cell BK293.out 2).trans rfl; have hcz53_3 : w50.cell? ⟨gb293,3,none⟩ = some (.slice (some ad300) l0_3.length c0_3) := (blk_cell BK293.out 3).trans rfl; have hcz53_4 : w50.cell? ⟨gb293,4,none⟩ = some (.int .i64 a0_4) := (blk_cell BK293.out 4).trans rfl; have hcz53_5 : w50.cell? ⟨gb293,5,none⟩ = some (.int .i64 a0_5) := (blk_cell BK293.out 5).trans rfl; have hcz53_6 : w50.cell? ⟨gb293,6,none⟩ = some (.int .i64 a0_6) := (blk_cell BK293.out 6).trans rfl; have hcz53_7 : w50.cell? ⟨gb293,7,none⟩ = some (.int .i64 a0_7) := (blk_cell BK293.out 7).trans rfl; have hcz53_8 : w50.cell? ⟨gb293,8,none⟩ = some (.int .i64 a0_8) := (blk_cell BK293.out 8).trans rfl; have hcz53_9 : w50.cell? ⟨gb293,9,none⟩ = some (.int .i64 a0_9) := (blk_cell BK293.out 9).trans rfl; have hfz53_0 := blk_frozen BK293.out 0; have hfz53_1 := blk_frozen BK293.out 1; have hfz53_2 := blk_frozen BK293.out 2; have hfz53_3 := blk_frozen BK293.out 3; have hfz53_4 := blk_frozen BK293.out 4; have hfz53_5 := blk_frozen BK293.out 5; have hfz53_6 := blk_frozen BK293.out 6; have hfz53_7 := blk_frozen BK293.out 7; have hfz53_8 := blk_frozen BK293.out 8; have hfz53_9 := blk_frozen BK293.out 9) | (go_at_call 26; (with_reducible refine (impl_within.calls ((rd_T55 l0_3 x57_3).f0) 1 a0_0 false _ A35.out).mono ?_); rintro e w' ⟨rfl,⟨nd,rfl⟩⟩))
              go_ret
              exact ⟨by first | rfl | (simp only [i64_w,i32_w] <;> rfl) | (simp [errW_none,errW_some] <;> rfl) | (simp [*,errW_none,errW_some] <;> rfl),bA⟩
            ·replace c34 := Bool.eq_false_iff.mpr c34
             subst c34
             rw [if_neg (show ¬ (false = true) by decide)] at H
             obtain rfl := Option.some.inj H
             have p300 : 0 ≤ (x57_3 : Int) := of_decide_eq_true (by first | (with_reducible assumption) | assumption)
             have q300 : x57_3 < (l0_3.length : Int) := of_decide_eq_true (by first | (with_reducible assumption) | assumption)
             obtain ⟨ad300,e300,hx300_0,hx300_1⟩ := at_T55 HR0_3.out x57_3 p300 q300
             cases e300
             replace hx300_0 := (HB.out.cell (World.block_lt_of_cell? w _ hx300_0)).trans hx300_0
             replace hx300_1 := (HB.out.cell (World.block_lt_of_cell? w _ hx300_1)).trans hx300_1
             replace p300 := eq_true p300
             replace q300 := eq_true q300
             go_wp2_with (first | ((with_reducible refine gate_dst (N:=7) rfl ?_); (try (refine gate_guard (by rfl) ?_; dsimp only)); refine box_event ?hg (N:=7) ?hd (cs := #[.int .i64 0,.string (⟨#[]⟩ : ByteArray)]) (t:=55) ?hr ?_; (case hd => rfl); (case hg => rfl); (case hr => first | (go_simp; done) | (go_simp; rfl)); intro gb301 hg w54 hbox hb; have n0_ := Aside0.mk (blk_below (g:=gb293) (o:=.cells #[.int .i64 a0_0,.int .i64 a0_1,.slice A0_2 l0_2.length c0_2,.slice (some ad300) l0_3.length c0_3,.int .i64 a0_4,.int .i64 a0_5,.int .i64 a0_6,.int .i64 a0_7,.int .i64 a0_8,.int .i64 a0_9] 32 (0,0)) (kA BK293.out) hb); have n1_ := Aside0.mk (blk_below (g:=gb297) (o:=om_) (kA BK297.out) hb); have n2_ := Aside0.mk (below_step bA hb); have n3_ := Aside0.mk (hbox); have n4_ := Aside0.mk ((by rw [hg]; exact (below_size bA) : w.heap.size ≤ gb301)); have n5_ := Aside0.mk ((by rw [hg]; exact (below_size bA) : w.heap.size ≤ gb301)); have n6_ := Aside0.mk ((by rw [hg]; exact Nat.ne_of_lt (blk_lt (g:=gb293) (o:=.cells #[.int .i64 a0_0,.int .i64 a0_1,.slice A0_2 l0_2.length c0_2,.slice (some ad300) l0_3.length c0_3,.int .i64 a0_4,.int .i64 a0_5,.int .i64 a0_6,.int .i64 a0_7,.int .i64 a0_8,.int .i64 a0_9] 32 (0,0)) (kA BK293.out)) : gb293 ≠ gb301)); have n7_ := Aside0.mk ((by rw [hg]; exact Nat.ne_of_gt (blk_lt (g:=gb293) (o:=.cells #[.int .i64 a0_0,.int .i64 a0_1,.slice A0_2 l0_2.length c0_2,.slice (some ad300) l0_3.length c0_3,.int .i64 a0_4,.int .i64 a0_5,.int .i64 a0_6,.int .i64 a0_7,.int .i64 a0_8,.int .i64 a0_9] 32 (0,0)) (kA BK293.out)) : gb301 ≠ gb293)); have n8_ := Aside0.mk ((by rw [hg]; exact Nat.ne_of_lt (blk_lt (g:=gb297) (o:=om_) (kA BK297.out)) : gb297 ≠ gb301)); have n9_ := Aside0.mk ((by rw [hg]; exact Nat.ne_of_gt (blk_lt (g:=gb297) (o:=om_) (kA BK297.out)) : gb301 ≠ gb297)); clear BK293; clear BK297; clear HB; have BK293 := n0_; have BK297 := n1_; have HB := n2_; have BK301 := n3_; have GW301 := n4_; have GE301 := n5_; have NB293_301 := n6_; have NB301_293 := n7_; have NB297_301 := n8_; have NB301_297 := n9_; clear n0_ n1_ n2_ n3_ n4_ n5_ n6_ n7_ n8_ n9_; clear hb hbox hg; have hnb55 := NB301_293.out; have hnc55 := NB293_301.out; have hnb56 := NB301_297.out; have hnc56 := NB297_301.out; have hcz57_0 : w54.cell? ⟨gb301,0,none⟩ = some (.int .i64 0) := (blk_cell BK301.out 0).trans rfl; have hcz57_1 : w54.cell? ⟨gb301,1,none⟩ = some (.string (⟨#[]⟩ : ByteArray)) := (blk_cell BK301.out 1).trans rfl; have hfz57_0 := blk_frozen BK301.out 0; have hfz57_1 := blk_frozen BK301.out 1) | ((with_reducible refine gate_callee (f:=29) rfl ?_); refine goesL_ (some 64) rfl rfl Tryd.func29 (by kernel_rfl) rfl #[.string ((rd_T55 l0_3 x57_3).f1)] rfl mA ?_; (with_reducible refine (impl_readDataKey.calls k3 ((rd_T55 l0_3 x57_3).f1) t302 t303 t304 false _ ?side1 A33.out).mono ?_); (case side1 => exact HV.out.below bA); rintro e w58 ⟨rfl,hb⟩; refine ⟨_,rfl,?_⟩; have n0_ := Aside0.mk (blk_below (g:=gb293) (o:=.cells #[.int .i64 a0_0,.int .i64 a0_1,.slice A0_2 l0_2.length c0_2,.slice (some ad300) l0_3.length c0_3,.int .i64 a0_4,.int .i64 a0_5,.int .i64 a0_6,.int .i64 a0_7,.int .i64 a0_8,.int .i64 a0_9] 32 (0,0)) (kF BK293.out) hb); have n1_ := Aside0.mk (blk_below (g:=gb297) (o:=om_) (by (with_reducible repeat (first | refine blk_drewN ?_ _ | refine blk_drew ?_ | refine blk_alloc ?_ _)); refine mblk_far ?_ NB297_301.out _; (with_reducible repeat (first | refine blk_drewN ?_ _ | refine blk_drew ?_ | refine blk_alloc ?_ _)); refine mblk_far ?_ NB297_301.out _; (with_reducible repeat (first | refine blk_drewN ?_ _ | refine blk_drew ?_ | refine blk_alloc ?_ _)); exact BK297.out) hb); have n2_ := Aside0.mk (blk_below (g:=gb301) (o:=.cells #[.int .i64 ((rd_T55 l0_3 x57_3).f0),.string ((rd_T55 l0_3 x57_3).f1)] 55 (0,0)) (by (with_reducible repeat (first | refine blk_drewN ?_ _ | refine blk_drew ?_ | refine blk_alloc ?_ _)); refine blk_put (cs := #[.int .i64 ((rd_T55 l0_3 x57_3).f0),.string (⟨#[]⟩ : ByteArray)]) ?_ 1 _ rfl; (with_reducible repeat (first | refine blk_drewN ?_ _ | refine blk_drew ?_ | refine blk_alloc ?_ _)); refine blk_put (cs := #[.int .i64 0,.string (⟨#[]⟩ : ByteArray)]) ?_ 0 _ rfl; (with_reducible repeat (first | refine blk_drewN ?_ _ | refine blk_drew ?_ | refine blk_alloc ?_ _)); exact BK301.out) hb); have n3_ := Aside0.mk (below_step bA hb); clear BK293; clear BK297; clear BK301; clear HB; have BK293 := n0_; have BK297 := n1_; have BK301 := n2_; have HB := n3_; clear n0_ n1_ n2_ n3_; (try clear hb); (try clear hb2); (try clear hk); (try clear hi)))
             go_ret
             exact ⟨by first | rfl | (simp only [i64_w,i32_w] <;> rfl) | (simp [errW_none,errW_some] <;> rfl) | (simp [*,errW_none,errW_some] <;> rfl),bA⟩
           ·rw [if_neg c32] at H
            exact absurd H (by simp)
          ·rw [if_neg c31] at H
           exact absurd H (by simp)
         ·rw [if_neg c30] at H
          have c30b0 : decide (x57_3 < (l0_3.length : Int)) = false := decide_eq_false c30
          clear c30
          by_cases c59 : (x298000_3.length : Int) = (wrap64 ((l0_2.length : Int) + (l0_3.length : Int)))
          ·rw [if_pos c59] at H
           have c59b0 : ((x298000_3.length : Int) == (wrap64 ((l0_2.length : Int) + (l0_3.length : Int)))) = true := beq_iff_eq.mpr c59
           have c59b1 : ((x298000_3.length : Int) != (wrap64 ((l0_2.length : Int) + (l0_3.length : Int)))) = false := bne_eq_false_iff_eq.mpr c59
           clear c59
           have H' := Aside0.mk H
           clear H
           have hnb60 := NB297_293.out
           have hnc60 := NB293_297.out
           have hlen_ := MO_.out.len Tryd.underlying62 3 BK297.out
           have hcz62_0 : wr.cell? ⟨gb293,0,none⟩ = some (.int .i64 a0_0) := (blk_cell BK293.out 0).trans rfl
           have hcz62_1 : wr.cell? ⟨gb293,1,none⟩ = some (.int .i64 a0_1) := (blk_cell BK293.out 1).trans rfl
           have hcz62_2 : wr.cell? ⟨gb293,2,none⟩ = some (.slice A0_2 l0_2.length c0_2) := (blk_cell BK293.out 2).trans rfl
           have hcz62_3 : wr.cell? ⟨gb293,3,none⟩ = some (.slice A0_3 l0_3.length c0_3) := (blk_cell BK293.out 3).trans rfl
           have hcz62_4 : wr.cell? ⟨gb293,4,none⟩ = some (.int .i64 a0_4) := (blk_cell BK293.out 4).trans rfl
           have hcz62_5 : wr.cell? ⟨gb293,5,none⟩ = some (.int .i64 a0_5) := (blk_cell BK293.out 5).trans rfl
           have hcz62_6 : wr.cell? ⟨gb293,6,none⟩ = some (.int .i64 a0_6) := (blk_cell BK293.out 6).trans rfl
           have hcz62_7 : wr.cell? ⟨gb293,7,none⟩ = some (.int .i64 a0_7) := (blk_cell BK293.out 7).trans rfl
           have hcz62_8 : wr.cell? ⟨gb293,8,none⟩ = some (.int .i64 a0_8) := (blk_cell BK293.out 8).trans rfl
           have hcz62_9 : wr.cell? ⟨gb293,9,none⟩ = some (.int .i64 a0_9) := (blk_cell BK293.out 9).trans rfl
           have hfz62_0 := blk_frozen BK293.out 0
           have hfz62_1 := blk_frozen BK293.out 1
           have hfz62_2 := blk_frozen BK293.out 2
           have hfz62_3 := blk_frozen BK293.out 3
           have hfz62_4 := blk_frozen BK293.out 4
           have hfz62_5 := blk_frozen BK293.out 5
           have hfz62_6 := blk_frozen BK293.out 6
           have hfz62_7 := blk_frozen BK293.out 7
           have hfz62_8 := blk_frozen BK293.out 8
           have hfz62_9 := blk_frozen BK293.out 9
           go_wp2
           go_loopg [93] k3 (fun kq v93 w' => ∃ (x93_4 : Int),v93 = .int .i64 x93_4 ∧ Aside0 (impl_StateOK.l2 kq x93_4 a0_0 a0_1 l0_2 l0_3 a0_4 a0_5 a0_6 a0_7 a0_8 a0_9 = some r) ∧ Aside0 (kq ≤ k3) ∧ Aside0 (w'.heap[gb293]? = some (.cells #[.int .i64 a0_0,.int .i64 a0_1,(.slice A0_2 l0_2.length c0_2),(.slice A0_3 l0_3.length c0_3),.int .i64 a0_4,.int .i64 a0_5,.int .i64 a0_6,.int .i64 a0_7,.int .i64 a0_8,.int .i64 a0_9] 32 (0,0))) ∧ Aside0 (w'.heap[gb297]? = some om_) ∧ Aside0 (Below w.heap.size w w'))
           case atStart => exact ⟨(0),(by first | rfl | (simp; done) | (simp [*]; done)),H',⟨Nat.le_refl _⟩,⟨kA BK293.out⟩,⟨kA BK297.out⟩,⟨bA⟩⟩
           case round =>
            clear H'
            try clear c1
            try clear c2
            try clear p2
            try clear q2
            try clear hx2
            try clear c3
            try clear p3
            try clear q3
            try clear hx3
            try clear c4
            try clear c5
            try clear c6
            try clear p6
            try clear c7
            try clear c8
            try clear c8b0
            try clear c9
            try clear c15
            try clear c17
            try clear c19
            try clear c19b0
            try clear c20
            try clear c20b0
            try clear c21
            try clear c21b0
            try clear c23
            try clear c24
            try clear c25
            try clear c26
            try clear c28
            try clear c29
            try clear p29
            try clear q29
            try clear hx29
            try clear c30
            try clear c30b0
            try clear p30
            try clear q30
            try clear hx30
            try clear c31
            try clear c31b0
            try clear c32
            try clear c32b0
            try clear c34
            try clear c36
            try clear c38
            try clear c39
            try clear c43
            try clear c47
            try clear c48
            try clear c52
            try clear c55
            try clear c56
            try clear c59
            try clear c59b0
            try clear c59b1
            try clear c60
            try clear hcz11_0
            try clear hcz11_1
            try clear hcz11_2
            try clear hcz11_3
            try clear hcz11_4
            try clear hcz11_5
            try clear hcz11_6
            try clear hcz11_7
            try clear hcz11_8
            try clear hcz11_9
            try clear hcz13_0
            try clear hcz13_1
            try clear hcz13_2
            try clear hcz13_3
            try clear hcz13_4
            try clear hcz13_5
            try clear hcz13_6
            try clear hcz13_7
            try clear hcz13_8
            try clear hcz13_9
            try clear hcz14_0
            try clear hcz14_1
            try clear hcz14_2
            try clear hcz14_3
            try clear hcz14_4
            try clear hcz14_5
            try clear hcz14_6
            try clear hcz14_7
            try clear hcz14_8
            try clear hcz14_9
            try clear hcz18_0
            try clear hcz18_1
            try clear hcz18_2
            try clear hcz18_3
            try clear hcz18_4
            try clear hcz18_5
            try clear hcz18_6
            try clear hcz18_7
            try clear hcz18_8
            try clear hcz18_9
            try clear hcz25_0
            try clear hcz25_1
            try clear hcz25_2
            try clear hcz25_3
            try clear hcz27_0
            try clear hcz29_0
            try clear hcz29_1
            try clear hcz29_2
            try clear hcz29_3
            try clear hcz29_4
            try clear hcz29_5
            try clear hcz29_6
            try clear hcz29_7
            try clear hcz29_8
            try clear hcz29_9
            try clear hcz40_0
            try clear hcz40_1
            try clear hcz42_0
            try clear hcz42_1
            try clear hcz44_0
            try clear hcz44_1
            try clear hcz44_2
            try clear hcz44_3
            try clear hcz44_4
            try clear hcz44_5
            try clear hcz44_6
            try clear hcz44_7
            try clear hcz44_8
            try clear hcz44_9
            try clear hcz45_0
            try clear hcz49_0
            try clear hcz49_1
            try clear hcz51_0
            try clear hcz51_1
            try clear hcz53_0
            try clear hcz53_1
            try clear hcz53_2
            try clear hcz53_3
            try clear hcz53_4
            try clear hcz53_5
            try clear hcz53_6
            try clear hcz53_7
            try clear hcz53_8
            try clear hcz53_9
            try clear hcz57_0
            try clear hcz57_1
            try clear hcz61_0
            try clear hcz62_0
            try clear hcz62_1
            try clear hcz62_2
            try clear hcz62_3
            try clear hcz62_4
            try clear hcz62_5
            try clear hcz62_6
            try clear hcz62_7
            try clear hcz62_8
            try clear hcz62_9
            try clear hcz9_0
            try clear hcz9_1
            try clear hcz9_2
            try clear hcz9_3
            try clear hcz9_4
            try clear hcz9_5
            try clear hcz9_6
            try clear hcz9_7
            try clear hcz9_8
            try clear hcz9_9
            try clear hfz11_0
            try clear hfz11_1
            try clear hfz11_2
            try clear hfz11_3
            try clear hfz11_4
            try clear hfz11_5
            try clear hfz11_6
            try clear hfz11_7
            try clear hfz11_8
            try clear hfz11_9
            try clear hfz13_0
            try clear hfz13_1
            try clear hfz13_2
            try clear hfz13_3
            try clear hfz13_4
            try clear hfz13_5
            try clear hfz13_6
            try clear hfz13_7
            try clear hfz13_8
            try clear hfz13_9
            try clear hfz14_0
            try clear hfz14_1
            try clear hfz14_2
            try clear hfz14_3
            try clear hfz14_4
            try clear hfz14_5
            try clear hfz14_6
            try clear hfz14_7
            try clear hfz14_8
            try clear hfz14_9
            try clear hfz18_0
            try clear hfz18_1
            try clear hfz18_2
            try clear hfz18_3
            try clear hfz18_4
            try clear hfz18_5
            try clear hfz18_6
            try clear hfz18_7
            try clear hfz18_8
            try clear hfz18_9
            try clear hfz25_0
            try clear hfz25_1
            try clear hfz25_2
            try clear hfz25_3
            try clear hfz27_0
            try clear hfz29_0
            try clear hfz29_1
            try clear hfz29_2
            try clear hfz29_3
            try clear hfz29_4
            try clear hfz29_5
            try clear hfz29_6
            try clear hfz29_7
            try clear hfz29_8
            try clear hfz29_9
            try clear hfz40_0
            try clear hfz40_1
            try clear hfz42_0
            try clear hfz42_1
            try clear hfz44_0
            try clear hfz44_1
            try clear hfz44_2
            try clear hfz44_3
            try clear hfz44_4
            try clear hfz44_5
            try clear hfz44_6
            try clear hfz44_7
            try clear hfz44_8
            try clear hfz44_9
            try clear hfz45_0
            try clear hfz49_0
            try clear hfz49_1
            try clear hfz51_0
            try clear hfz51_1
            try clear hfz53_0
            try clear hfz53_1
            try clear hfz53_2
            try clear hfz53_3
            try clear hfz53_4
            try clear hfz53_5
            try clear hfz53_6
            try clear hfz53_7
            try clear hfz53_8
            try clear hfz53_9
            try clear hfz57_0
            try clear hfz57_1
            try clear hfz61_0
            try clear hfz62_0
            try clear hfz62_1
            try clear hfz62_2
            try clear hfz62_3
            try clear hfz62_4
            try clear hfz62_5
            try clear hfz62_6
            try clear hfz62_7
            try clear hfz62_8
            try clear hfz62_9
            try clear hfz9_0
            try clear hfz9_1
            try clear hfz9_2
            try clear hfz9_3
            try clear hfz9_4
            try clear hfz9_5
            try clear hfz9_6
            try clear hfz9_7
            try clear hfz9_8
            try clear hfz9_9
            try clear hx298_0
            try clear hx298_1
            try clear hx298_2
            try clear hx298_3
            try clear hx300_0
            try clear hx300_1
            try clear p2
            try clear p29
            try clear p298
            try clear p300
            try clear p6
            try clear q2
            try clear q29
            try clear q298
            try clear q300
            obtain ⟨x93_4,rfl,HA,HK4,BK293,BK297,HB⟩ := hrel
            cases gk with
            | zero => exact absurd HA.out (by simp [impl_StateOK.l2])
            | succ k4 =>
             have H := HA.out
             clear HA
             simp only [impl_StateOK.l2] at H
             by_cases c63 : x93_4 < 3
             ·rw [if_pos c63] at H
              have c63b0 : decide (x93_4 < 3) = true := decide_eq_true c63
              clear c63
              by_cases c64 : 0 ≤ x93_4
              ·rw [if_pos c64] at H
               have c64b0 : decide (0 ≤ x93_4) = true := decide_eq_true c64
               clear c64
               replace H := Option.bind_eq_some_iff.mp H
               obtain ⟨t307,A650,H⟩ := H
               try dsimp only at H
               have A65 := Aside0.mk A650
               clear A650
               by_cases c66 : t307 = true
               ·subst c66
                rw [if_pos rfl] at H
                replace H := Option.bind_eq_some_iff.mp H
                obtain ⟨t308,A670,H⟩ := H
                try dsimp only at H
                have A67 := Aside0.mk A670
                clear A670
                have H' := Aside0.mk H
                clear H
                have hia68 := ia_dyn (P:=Tryd.prog) (t:=24) (e:=3) Tryd.underlying24 (by kernel_rfl) (by kernel_rfl) gb293 4 x93_4 (of_decide_eq_true (by first | (with_reducible assumption) | assumption)) (of_decide_eq_true (by first | (with_reducible assumption) | assumption))
                have hnb69 := NB293_297.out
                have hnc69 := NB297_293.out
                have hcz70_0 : wr.cell? ⟨gb293,0,none⟩ = some (.int .i64 a0_0) := (blk_cell BK293.out 0).trans rfl
                have hcz70_1 : wr.cell? ⟨gb293,1,none⟩ = some (.int .i64 a0_1) := (blk_cell BK293.out 1).trans rfl
                have hcz70_2 : wr.cell? ⟨gb293,2,none⟩ = some (.slice A0_2 l0_2.length c0_2) := (blk_cell BK293.out 2).trans rfl
                have hcz70_3 : wr.cell? ⟨gb293,3,none⟩ = some (.slice A0_3 l0_3.length c0_3) := (blk_cell BK293.out 3).trans rfl
                have hcz70_4 : wr.cell? ⟨gb293,4,none⟩ = some (.int .i64 a0_4) := (blk_cell BK293.out 4).trans rfl
                have hcz70_5 : wr.cell? ⟨gb293,5,none⟩ = some (.int .i64 a0_5) := (blk_cell BK293.out 5).trans rfl
                have hcz70_6 : wr.cell? ⟨gb293,6,none⟩ = some (.int .i64 a0_6) := (blk_cell BK293.out 6).trans rfl
                have hcz70_7 : wr.cell? ⟨gb293,7,none⟩ = some (.int .i64 a0_7) := (blk_cell BK293.out 7).trans rfl
                have hcz70_8 : wr.cell? ⟨gb293,8,none⟩ = some (.int .i64 a0_8) := (blk_cell BK293.out 8).trans rfl
                have hcz70_9 : wr.cell? ⟨gb293,9,none⟩ = some (.int .i64 a0_9) := (blk_cell BK293.out 9).trans rfl
                have hfz70_0 := blk_frozen BK293.out 0
                have hfz70_1 := blk_frozen BK293.out 1
                have hfz70_2 := blk_frozen BK293.out 2
                have hfz70_3 := blk_frozen BK293.out 3
                have hfz70_4 := blk_frozen BK293.out 4
                have hfz70_5 := blk_frozen BK293.out 5
                have hfz70_6 := blk_frozen BK293.out 6
                have hfz70_7 := blk_frozen BK293.out 7
                have hfz70_8 := blk_frozen BK293.out 8
                have hfz70_9 := blk_frozen BK293.out 9
                have hca71 : wr.cell? ⟨gb293,4 + x93_4.toNat,none⟩ = some (.int .i64 (at3 x93_4 a0_4 a0_5 a0_6)) := at3_cell (of_decide_eq_true (by first | (with_reducible assumption) | assumption)) (of_decide_eq_true (by first | (with_reducible assumption) | assumption)) ((blk_cell BK293.out 4).trans rfl) ((blk_cell BK293.out 5).trans rfl) ((blk_cell BK293.out 6).trans rfl)
                go_wp2_with (first | ((with_reducible refine gate_callee (f:=26) rfl ?_); refine goesL_ (some 101) rfl rfl Tryd.func26 (by kernel_rfl) rfl #[.int .i64 (at3 x93_4 a0_4 a0_5 a0_6),.int .i64 0,.int .i64 100000] rfl mA ?_; (with_reducible refine (impl_within.calls (at3 x93_4 a0_4 a0_5 a0_6) 0 100000 true _ A65.out).mono ?_); rintro e w' ⟨rfl,⟨nd,rfl⟩⟩; refine ⟨_,rfl,?_⟩) | ((with_reducible refine gate_callee (f:=30) rfl ?_); refine goesL_ (some 105) rfl rfl Tryd.func30 (by kernel_rfl) rfl #[.agg #[.int .i64 a0_0,.int .i64 a0_1,.slice A0_2 l0_2.length c0_2,.slice A0_3 l0_3.length c0_3,.int .i64 a0_4,.int .i64 a0_5,.int .i64 a0_6,.int .i64 a0_7,.int .i64 a0_8,.int .i64 a0_9],.int .i64 x93_4] rfl mA ?_; (with_reducible refine (impl_State_of.calls k4 a0_0 a0_1 _ _ l0_2 _ _ l0_3 a0_4 a0_5 a0_6 a0_7 a0_8 a0_9 x93_4 t308 _ ?side1 ?side2 ?side3 ?side4 A67.out).mono ?_); (case side1 => repeat (first | exact (Kd.C_below HR0_2.out bA) | (with_reducible refine Kd.C_alloc ?_ _) | (with_reducible refine Kd.C_drewN ?_ _) | (with_reducible refine Kd.C_drew ?_))); (case side2 => exact HC0_2.out); (case side3 => repeat (first | exact (Kd.C_below HR0_3.out bA) | (with_reducible refine Kd.C_alloc ?_ _) | (with_reducible refine Kd.C_drewN ?_ _) | (with_reducible refine Kd.C_drew ?_))); (case side4 => exact HC0_3.out); rintro e w72 ⟨v309,rfl,ho0,hb⟩; refine ⟨_,rfl,?_⟩; have n0_ := Aside0.mk (Kd.R_lower ho0 (below_size bA)); have n1_ := Aside0.mk (blk_below (g:=gb293) (o:=.cells #[.int .i64 a0_0,.int .i64 a0_1,.slice A0_2 l0_2.length c0_2,.slice A0_3 l0_3.length c0_3,.int .i64 a0_4,.int .i64 a0_5,.int .i64 a0_6,.int .i64 a0_7,.int .i64 a0_8,.int .i64 a0_9] 32 (0,0)) (kA BK293.out) hb); have n2_ := Aside0.mk (blk_below (g:=gb297) (o:=om_) (kA BK297.out) hb); have n3_ := Aside0.mk (below_step bA hb); clear BK293; clear BK297; clear HB; have HO310 := n0_; have BK293 := n1_; have BK297 := n2_; have HB := n3_; clear n0_ n1_ n2_ n3_; (try clear hb); (try clear hb2); (try clear hk); (try clear hi); (try clear ho0); obtain ⟨Ao73,co73,eo73⟩ := Kd.R_slice HO310.out; subst eo73))
                go_loopg [13,107] k4 (fun kq v13 v107 w' => ∃ (x13_5 : Int) (x107_5 : Int),v13 = .int .i64 x13_5 ∧ v107 = .int .i64 x107_5 ∧ Aside0 (impl_StateOK.l3 kq x93_4 x13_5 x93_4 t308 (t308.length : Int) x107_5 a0_0 a0_1 l0_2 l0_3 a0_4 a0_5 a0_6 a0_7 a0_8 a0_9 = some r) ∧ Aside0 (kq ≤ k4) ∧ Aside0 (Kd.R k39 39 w' w.heap.size (fun _ => True) (.slice Ao73 t308.length co73) t308) ∧ Aside0 (w'.heap[gb293]? = some (.cells #[.int .i64 a0_0,.int .i64 a0_1,(.slice A0_2 l0_2.length c0_2),(.slice A0_3 l0_3.length c0_3),.int .i64 a0_4,.int .i64 a0_5,.int .i64 a0_6,.int .i64 a0_7,.int .i64 a0_8,.int .i64 a0_9] 32 (0,0))) ∧ Aside0 (w'.heap[gb297]? = some om_) ∧ Aside0 (Below w.heap.size w w'))
                case atStart => exact ⟨((at3 x93_4 a0_4 a0_5 a0_6)),(0),(by first | rfl | (simp; done) | (simp [*]; done)),(by first | rfl | (simp; done) | (simp [*]; done)),H',⟨Nat.le_refl _⟩,⟨rA HO310.out⟩,⟨kA BK293.out⟩,⟨kA BK297.out⟩,⟨bA⟩⟩
                case round =>
                 clear H'
                 try clear c1
                 try clear c2
                 try clear p2
                 try clear q2
                 try clear hx2
                 try clear c3
                 try clear p3
                 try clear q3
                 try clear hx3
                 try clear c4
                 try clear c5
                 try clear c6
                 try clear p6
                 try clear c7
                 try clear c8
                 try clear c8b0
                 try clear c9
                 try clear c15
                 try clear c17
                 try clear c19
                 try clear c19b0
                 try clear c20
                 try clear c20b0
                 try clear c21
                 try clear c21b0
                 try clear c23
                 try clear c24
                 try clear c25
                 try clear c26
                 try clear c28
                 try clear c29
                 try clear p29
                 try clear q29
                 try clear hx29
                 try clear c30
                 try clear c30b0
                 try clear p30
                 try clear q30
                 try clear hx30
                 try clear c31
                 try clear c31b0
                 try clear c32
                 try clear c32b0
                 try clear c34
                 try clear c36
                 try clear c38
                 try clear c39
                 try clear c43
                 try clear c47
                 try clear c48
                 try clear c52
                 try clear c55
                 try clear c56
                 try clear c59
                 try clear c59b0
                 try clear c59b1
                 try clear c60
                 try clear c63
                 try clear c63b0
                 try clear c64
                 try clear c64b0
                 try clear p64
                 try clear c66
                 try clear c69
                 try clear hcz11_0
                 try clear hcz11_1
                 try clear hcz11_2
                 try clear hcz11_3
                 try clear hcz11_4
                 try clear hcz11_5
                 try clear hcz11_6
                 try clear hcz11_7
                 try clear hcz11_8
                 try clear hcz11_9
                 try clear hcz13_0
                 try clear hcz13_1
                 try clear hcz13_2
                 try clear hcz13_3
                 try clear hcz13_4
                 try clear hcz13_5
                 try clear hcz13_6
                 try clear hcz13_7
                 try clear hcz13_8
                 try clear hcz13_9
                 try clear hcz14_0
                 try clear hcz14_1
                 try clear hcz14_2
                 try clear hcz14_3
                 try clear hcz14_4
                 try clear hcz14_5
                 try clear hcz14_6
                 try clear hcz14_7
                 try clear hcz14_8
                 try clear hcz14_9
                 try clear hcz18_0
                 try clear hcz18_1
                 try clear hcz18_2
                 try clear hcz18_3
                 try clear hcz18_4
                 try clear hcz18_5
                 try clear hcz18_6
                 try clear hcz18_7
                 try clear hcz18_8
                 try clear hcz18_9
                 try clear hcz25_0
                 try clear hcz25_1
                 try clear hcz25_2
                 try clear hcz25_3
                 try clear hcz27_0
                 try clear hcz29_0
                 try clear hcz29_1
                 try clear hcz29_2
                 try clear hcz29_3
                 try clear hcz29_4
                 try clear hcz29_5
                 try clear hcz29_6
                 try clear hcz29_7
                 try clear hcz29_8
                 try clear hcz29_9
                 try clear hcz40_0
                 try clear hcz40_1
                 try clear hcz42_0
                 try clear hcz42_1
                 try clear hcz44_0
                 try clear hcz44_1
                 try clear hcz44_2
                 try clear hcz44_3
                 try clear hcz44_4
                 try clear hcz44_5
                 try clear hcz44_6
                 try clear hcz44_7
                 try clear hcz44_8
                 try clear hcz44_9
                 try clear hcz45_0
                 try clear hcz49_0
                 try clear hcz49_1
                 try clear hcz51_0
                 try clear hcz51_1
                 try clear hcz53_0
                 try clear hcz53_1
                 try clear hcz53_2
                 try clear hcz53_3
                 try clear hcz53_4
                 try clear hcz53_5
                 try clear hcz53_6
                 try clear hcz53_7
                 try clear hcz53_8
                 try clear hcz53_9
                 try clear hcz57_0
                 try clear hcz57_1
                 try clear hcz61_0
                 try clear hcz62_0
                 try clear hcz62_1
                 try clear hcz62_2
                 try clear hcz62_3
                 try clear hcz62_4
                 try clear hcz62_5
                 try clear hcz62_6
                 try clear hcz62_7
                 try clear hcz62_8
                 try clear hcz62_9
                 try clear hcz70_0
                 try clear hcz70_1
                 try clear hcz70_2
                 try clear hcz70_3
                 try clear hcz70_4
                 try clear hcz70_5
                 try clear hcz70_6
                 try clear hcz70_7
                 try clear hcz70_8
                 try clear hcz70_9
                 try clear hcz9_0
                 try clear hcz9_1
                 try clear hcz9_2
                 try clear hcz9_3
                 try clear hcz9_4
                 try clear hcz9_5
                 try clear hcz9_6
                 try clear hcz9_7
                 try clear hcz9_8
                 try clear hcz9_9
                 try clear hfz11_0
                 try clear hfz11_1
                 try clear hfz11_2
                 try clear hfz11_3
                 try clear hfz11_4
                 try clear hfz11_5
                 try clear hfz11_6
                 try clear hfz11_7
                 try clear hfz11_8
                 try clear hfz11_9
                 try clear hfz13_0
                 try clear hfz13_1
                 try clear hfz13_2
                 try clear hfz13_3
                 try clear hfz13_4
                 try clear hfz13_5
                 try clear hfz13_6
                 try clear hfz13_7
                 try clear hfz13_8
                 try clear hfz13_9
                 try clear hfz14_0
                 try clear hfz14_1
                 try clear hfz14_2
                 try clear hfz14_3
                 try clear hfz14_4
                 try clear hfz14_5
                 try clear hfz14_6
                 try clear hfz14_7
                 try clear hfz14_8
                 try clear hfz14_9
                 try clear hfz18_0
                 try clear hfz18_1
                 try clear hfz18_2
                 try clear hfz18_3
                 try clear hfz18_4
                 try clear hfz18_5
                 try clear hfz18_6
                 try clear hfz18_7
                 try clear hfz18_8
                 try clear hfz18_9
                 try clear hfz25_0
                 try clear hfz25_1
                 try clear hfz25_2
                 try clear hfz25_3
                 try clear hfz27_0
                 try clear hfz29_0
                 try clear hfz29_1
                 try clear hfz29_2
                 try clear hfz29_3
                 try clear hfz29_4
                 try clear hfz29_5
                 try clear hfz29_6
                 try clear hfz29_7
                 try clear hfz29_8
                 try clear hfz29_9
                 try clear hfz40_0
                 try clear hfz40_1
                 try clear hfz42_0
                 try clear hfz42_1
                 try clear hfz44_0
                 try clear hfz44_1
                 try clear hfz44_2
                 try clear hfz44_3
                 try clear hfz44_4
                 try clear hfz44_5
                 try clear hfz44_6
                 try clear hfz44_7
                 try clear hfz44_8
                 try clear hfz44_9
                 try clear hfz45_0
                 try clear hfz49_0
                 try clear hfz49_1
                 try clear hfz51_0
                 try clear hfz51_1
                 try clear hfz53_0
                 try clear hfz53_1
                 try clear hfz53_2
                 try clear hfz53_3
                 try clear hfz53_4
                 try clear hfz53_5
                 try clear hfz53_6
                 try clear hfz53_7
                 try clear hfz53_8
                 try clear hfz53_9
                 try clear hfz57_0
                 try clear hfz57_1
                 try clear hfz61_0
                 try clear hfz62_0
                 try clear hfz62_1
                 try clear hfz62_2
                 try clear hfz62_3
                 try clear hfz62_4
                 try clear hfz62_5
                 try clear hfz62_6
                 try clear hfz62_7
                 try clear hfz62_8
                 try clear hfz62_9
                 try clear hfz70_0
                 try clear hfz70_1
                 try clear hfz70_2
                 try clear hfz70_3
                 try clear hfz70_4
                 try clear hfz70_5
                 try clear hfz70_6
                 try clear hfz70_7
                 try clear hfz70_8
                 try clear hfz70_9
                 try clear hfz9_0
                 try clear hfz9_1
                 try clear hfz9_2
                 try clear hfz9_3
                 try clear hfz9_4
                 try clear hfz9_5
                 try clear hfz9_6
                 try clear hfz9_7
                 try clear hfz9_8
                 try clear hfz9_9
                 try clear hx298_0
                 try clear hx298_1
                 try clear hx298_2
                 try clear hx298_3
                 try clear hx300_0
                 try clear hx300_1
                 try clear p2
                 try clear p29
                 try clear p298
                 try clear p3
                 try clear p30
                 try clear p300
                 try clear p6
                 try clear q2
                 try clear q29
                 try clear q298
                 try clear q3
                 try clear q30
                 try clear q300
                 obtain ⟨x13_5,x107_5,rfl,rfl,HA,HK5,HO_105,BK293,BK297,HB⟩ := hrel
                 cases gk with
                 | zero => exact absurd HA.out (by simp [impl_StateOK.l3])
                 | succ k5 =>
                  have H := HA.out
                  clear HA
                  simp only [impl_StateOK.l3] at H
                  by_cases c74 : x107_5 < (t308.length : Int)
                  ·rw [if_pos c74] at H
                   have c74b0 : decide (x107_5 < (t308.length : Int)) = true := decide_eq_true c74
                   clear c74
                   by_cases c75 : 0 ≤ x107_5
                   ·rw [if_pos c75] at H
                    have c75b0 : decide (0 ≤ x107_5) = true := decide_eq_true c75
                    clear c75
                    by_cases c76 : x107_5 < (t308.length : Int)
                    ·rw [if_pos c76] at H
                     have c76b0 : decide (x107_5 < (t308.length : Int)) = true := decide_eq_true c76
                     clear c76
                     by_cases c77 : ((rd_T39 t308 x107_5).f1) = x13_5
                     ·rw [if_pos c77] at H
                      have c77b0 : (((rd_T39 t308 x107_5).f1) == x13_5) = true := beq_iff_eq.mpr c77
                      have c77b1 : (((rd_T39 t308 x107_5).f1) != x13_5) = false := bne_eq_false_iff_eq.mpr c77
                      clear c77
                      have H' := Aside0.mk H
                      clear H
                      have p311 : 0 ≤ (x107_5 : Int) := of_decide_eq_true (by first | (with_reducible assumption) | assumption)
                      have q311 : x107_5 < (t308.length : Int) := of_decide_eq_true (by first | (with_reducible assumption) | assumption)
                      obtain ⟨ad311,e311,hx311_0,hx311_1,hx311_2,hx311_3⟩ := at_T39 (Kd.R_reads' HO_105.out).2.2 x107_5 p311 q311
                      cases e311
                      replace p311 := eq_true p311
                      replace q311 := eq_true q311
                      go_wp2_with (first | ((with_reducible refine gate_dst (N:=15) rfl ?_); (try (refine gate_guard (by rfl) ?_; dsimp only)); refine box_event ?hg (N:=15) ?hd (cs := #[.int .i64 0,.int .i64 0,.int .i64 0,.string (⟨#[]⟩ : ByteArray)]) (t:=39) ?hr ?_; (case hd => rfl); (case hg => rfl); (case hr => first | (go_simp; done) | (go_simp; rfl)); intro gb312 hg w78 hbox hb; have n0_ := Aside0.mk (Kd.R_below (Kd.R_elderB (rA HO_105.out) gb312 (Nat.le_of_eq hg.symm)) hb); have n1_ := Aside0.mk (blk_below (g:=gb293) (o:=.cells #[.int .i64 a0_0,.int .i64 a0_1,.slice A0_2 l0_2.length c0_2,.slice A0_3 l0_3.length c0_3,.int .i64 a0_4,.int .i64 a0_5,.int .i64 a0_6,.int .i64 a0_7,.int .i64 a0_8,.int .i64 a0_9] 32 (0,0)) (kA BK293.out) hb); have n2_ := Aside0.mk (blk_below (g:=gb297) (o:=om_) (kA BK297.out) hb); have n3_ := Aside0.mk (below_step bA hb); have n4_ := Aside0.mk (hbox); have n5_ := Aside0.mk ((by rw [hg]; exact (below_size bA) : w.heap.size ≤ gb312)); have n6_ := Aside0.mk ((by rw [hg]; exact (below_size bA) : w.heap.size ≤ gb312)); have n7_ := Aside0.mk ((by rw [hg]; exact Nat.ne_of_lt (blk_lt (g:=gb293) (o:=.cells #[.int .i64 a0_0,.int .i64 a0_1,.slice A0_2 l0_2.length c0_2,.slice A0_3 l0_3.length c0_3,.int .i64 a0_4,.int .i64 a0_5,.int .i64 a0_6,.int .i64 a0_7,.int .i64 a0_8,.int .i64 a0_9] 32 (0,0)) (kA BK293.out)) : gb293 ≠ gb312)); have n8_ := Aside0.mk ((by rw [hg]; exact Nat.ne_of_gt (blk_lt (g:=gb293) (o:=.cells #[.int .i64 a0_0,.int .i64 a0_1,.slice A0_2 l0_2.length c0_2,.slice A0_3 l0_3.length c0_3,.int .i64 a0_4,.int .i64 a0_5,.int .i64 a0_6,.int .i64 a0_7,.int .i64 a0_8,.int .i64 a0_9] 32 (0,0)) (kA BK293.out)) : gb312 ≠ gb293)); have n9_ := Aside0.mk ((by rw [hg]; exact Nat.ne_of_lt (blk_lt (g:=gb297) (o:=om_) (kA BK297.out)) : gb297 ≠ gb312)); have n10_ := Aside0.mk ((by rw [hg]; exact Nat.ne_of_gt (blk_lt (g:=gb297) (o:=om_) (kA BK297.out)) : gb312 ≠ gb297)); clear HO_105; clear BK293; clear BK297; clear HB; have HO_105 := n0_; have BK293 := n1_; have BK297 := n2_; have HB := n3_; have BK312 := n4_; have GW312 := n5_; have GE312 := n6_; have NB293_312 := n7_; have NB312_293 := n8_; have NB297_312 := n9_; have NB312_297 := n10_; clear n0_ n1_ n2_ n3_ n4_ n5_ n6_ n7_ n8_ n9_ n10_; clear hb hbox hg; have hnb79 := NB312_293.out; have hnc79 := NB293_312.out; have hnb80 := NB312_297.out; have hnc80 := NB297_312.out; have hcz81_0 : w78.cell? ⟨gb312,0,none⟩ = some (.int .i64 0) := (blk_cell BK312.out 0).trans rfl; have hcz81_1 : w78.cell? ⟨gb312,1,none⟩ = some (.int .i64 0) := (blk_cell BK312.out 1).trans rfl; have hcz81_2 : w78.cell? ⟨gb312,2,none⟩ = some (.int .i64 0) := (blk_cell BK312.out 2).trans rfl; have hcz81_3 : w78.cell? ⟨gb312,3,none⟩ = some (.string (⟨#[]⟩ : ByteArray)) := (blk_cell BK312.out 3).trans rfl; have hfz81_0 := blk_frozen BK312.out 0; have hfz81_1 := blk_frozen BK312.out 1; have hfz81_2 := blk_frozen BK312.out 2; have hfz81_3 := blk_frozen BK312.out 3))
                      go_roundg k5
                      case measure => have := HJ1.out; have := HK2.out; have := HK3.out; have := HK4.out; have := HK5.out; omega
                      case rel => exact ⟨((rd_T39 t308 x107_5).f2),(wrap64 (x107_5 + 1)),(by first | rfl | (simp; done) | (simp [*]; done)),(by first | rfl | (simp; done) | (simp [*]; done)),H',⟨by have := HJ1.out; have := HK2.out; have := HK3.out; have := HK4.out; have := HK5.out; omega⟩,⟨by (with_reducible repeat (first | apply Kd.R_alloc | apply Kd.R_drewN | apply Kd.R_drew)); exact Kd.R_mono (Kd.R_far (p:=⟨gb312,3,none⟩) (Kd.R_far (p:=⟨gb312,2,none⟩) (Kd.R_far (p:=⟨gb312,1,none⟩) (Kd.R_far (p:=⟨gb312,0,none⟩) (Kd.R_mono HO_105.out (fun k_ hk => (⟨hk,hk.2⟩ : _ ∧ k_ ≠ gb312))) (fun _ hk => hk.2) (.int .i64 ((rd_T39 t308 x107_5).f0))) (fun _ hk => hk.2) (.int .i64 ((rd_T39 t308 x107_5).f1))) (fun _ hk => hk.2) (.int .i64 ((rd_T39 t308 x107_5).f2))) (fun _ hk => hk.2) (.string ((rd_T39 t308 x107_5).f3))) (fun _ hk => trivial)⟩,⟨kF BK293.out⟩,⟨by (with_reducible repeat (first | refine blk_drewN ?_ _ | refine blk_drew ?_ | refine blk_alloc ?_ _)); refine mblk_far ?_ NB297_312.out _; (with_reducible repeat (first | refine blk_drewN ?_ _ | refine blk_drew ?_ | refine blk_alloc ?_ _)); refine mblk_far ?_ NB297_312.out _; (with_reducible repeat (first | refine blk_drewN ?_ _ | refine blk_drew ?_ | refine blk_alloc ?_ _)); refine mblk_far ?_ NB297_312.out _; (with_reducible repeat (first | refine blk_drewN ?_ _ | refine blk_drew ?_ | refine blk_alloc ?_ _)); refine mblk_far ?_ NB297_312.out _; (with_reducible repeat (first | refine blk_drewN ?_ _ | refine blk_drew ?_ | refine blk_alloc ?_ _)); exact BK297.out⟩,⟨bA⟩⟩
                     ·rw [if_neg c77] at H
                      have c77b0 : (((rd_T39 t308 x107_5).f1) == x13_5) = false := beq_eq_false_iff_ne.mpr c77
                      have c77b1 : (((rd_T39 t308 x107_5).f1) != x13_5) = true := bne_iff_ne.mpr c77
                      obtain rfl := Option.some.inj H
                      have p311 : 0 ≤ (x107_5 : Int) := of_decide_eq_true (by first | (with_reducible assumption) | assumption)
                      have q311 : x107_5 < (t308.length : Int) := of_decide_eq_true (by first | (with_reducible assumption) | assumption)
                      obtain ⟨ad311,e311,hx311_0,hx311_1,hx311_2,hx311_3⟩ := at_T39 (Kd.R_reads' HO_105.out).2.2 x107_5 p311 q311
                      cases e311
                      replace p311 := eq_true p311
                      replace q311 := eq_true q311
                      go_wp2_with (first | ((with_reducible refine gate_dst (N:=15) rfl ?_); (try (refine gate_guard (by rfl) ?_; dsimp only)); refine box_event ?hg (N:=15) ?hd (cs := #[.int .i64 0,.int .i64 0,.int .i64 0,.string (⟨#[]⟩ : ByteArray)]) (t:=39) ?hr ?_; (case hd => rfl); (case hg => rfl); (case hr => first | (go_simp; done) | (go_simp; rfl)); intro gb312 hg w82 hbox hb; have n0_ := Aside0.mk (Kd.R_below (Kd.R_elderB (rA HO_105.out) gb312 (Nat.le_of_eq hg.symm)) hb); have n1_ := Aside0.mk (blk_below (g:=gb293) (o:=.cells #[.int .i64 a0_0,.int .i64 a0_1,.slice A0_2 l0_2.length c0_2,.slice A0_3 l0_3.length c0_3,.int .i64 a0_4,.int .i64 a0_5,.int .i64 a0_6,.int .i64 a0_7,.int .i64 a0_8,.int .i64 a0_9] 32 (0,0)) (kA BK293.out) hb); have n2_ := Aside0.mk (blk_below (g:=gb297) (o:=om_) (kA BK297.out) hb); have n3_ := Aside0.mk (below_step bA hb); have n4_ := Aside0.mk (hbox); have n5_ := Aside0.mk ((by rw [hg]; exact (below_size bA) : w.heap.size ≤ gb312)); have n6_ := Aside0.mk ((by rw [hg]; exact (below_size bA) : w.heap.size ≤ gb312)); have n7_ := Aside0.mk ((by rw [hg]; exact Nat.ne_of_lt (blk_lt (g:=gb293) (o:=.cells #[.int .i64 a0_0,.int .i64 a0_1,.slice A0_2 l0_2.length c0_2,.slice A0_3 l0_3.length c0_3,.int .i64 a0_4,.int .i64 a0_5,.int .i64 a0_6,.int .i64 a0_7,.int .i64 a0_8,.int .i64 a0_9] 32 (0,0)) (kA BK293.out)) : gb293 ≠ gb312)); have n8_ := Aside0.mk ((by rw [hg]; exact Nat.ne_of_gt (blk_lt (g:=gb293) (o:=.cells #[.int .i64 a0_0,.int .i64 a0_1,.slice A0_2 l0_2.length c0_2,.slice A0_3 l0_3.length c0_3,.int .i64 a0_4,.int .i64 a0_5,.int .i64 a0_6,.int .i64 a0_7,.int .i64 a0_8,.int .i64 a0_9] 32 (0,0)) (kA BK293.out)) : gb312 ≠ gb293)); have n9_ := Aside0.mk ((by rw [hg]; exact Nat.ne_of_lt (blk_lt (g:=gb297) (o:=om_) (kA BK297.out)) : gb297 ≠ gb312)); have n10_ := Aside0.mk ((by rw [hg]; exact Nat.ne_of_gt (blk_lt (g:=gb297) (o:=om_) (kA BK297.out)) : gb312 ≠ gb297)); clear HO_105; clear BK293; clear BK297; clear HB; have HO_105 := n0_; have BK293 := n1_; have BK297 := n2_; have HB := n3_; have BK312 := n4_; have GW312 := n5_; have GE312 := n6_; have NB293_312 := n7_; have NB312_293 := n8_; have NB297_312 := n9_; have NB312_297 := n10_; clear n0_ n1_ n2_ n3_ n4_ n5_ n6_ n7_ n8_ n9_ n10_; clear hb hbox hg; have hnb83 := NB312_293.out; have hnc83 := NB293_312.out; have hnb84 := NB312_297.out; have hnc84 := NB297_312.out; have hcz85_0 : w82.cell? ⟨gb312,0,none⟩ = some (.int .i64 0) := (blk_cell BK312.out 0).trans rfl; have hcz85_1 : w82.cell? ⟨gb312,1,none⟩ = some (.int .i64 0) := (blk_cell BK312.out 1).trans rfl; have hcz85_2 : w82.cell? ⟨gb312,2,none⟩ = some (.int .i64 0) := (blk_cell BK312.out 2).trans rfl; have hcz85_3 : w82.cell? ⟨gb312,3,none⟩ = some (.string (⟨#[]⟩ : ByteArray)) := (blk_cell BK312.out 3).trans rfl; have hfz85_0 := blk_frozen BK312.out 0; have hfz85_1 := blk_frozen BK312.out 1; have hfz85_2 := blk_frozen BK312.out 2; have hfz85_3 := blk_frozen BK312.out 3))
                      go_ret
                      exact ⟨by first | rfl | (simp only [i64_w,i32_w] <;> rfl) | (simp [errW_none,errW_some] <;> rfl) | (simp [*,errW_none,errW_some] <;> rfl),bA⟩
                    ·rw [if_neg c76] at H
                     exact absurd H (by simp)
                   ·rw [if_neg c75] at H
                    exact absurd H (by simp)
                  ·rw [if_neg c74] at H
                   have c74b0 : decide (x107_5 < (t308.length : Int)) = false := decide_eq_false c74
                   clear c74
                   by_cases c86 : 0 ≤ x93_4
                   ·rw [if_pos c86] at H
                    have c86b0 : decide (0 ≤ x93_4) = true := decide_eq_true c86
                    clear c86
                    by_cases c87 : x93_4 < 3
                    ·rw [if_pos c87] at H
                     have c87b0 : decide (x93_4 < 3) = true := decide_eq_true c87
                     clear c87
                     by_cases c88 : x13_5 = (at3 x93_4 a0_7 a0_8 a0_9)
                     ·rw [if_pos c88] at H
                      have c88b0 : (x13_5 == (at3 x93_4 a0_7 a0_8 a0_9)) = true := beq_iff_eq.mpr c88
                      have c88b1 : (x13_5 != (at3 x93_4 a0_7 a0_8 a0_9)) = false := bne_eq_false_iff_eq.mpr c88
                      clear c88
                      have H' := Aside0.mk H
                      clear H
                      have hia89 := ia_dyn (P:=Tryd.prog) (t:=24) (e:=3) Tryd.underlying24 (by kernel_rfl) (by kernel_rfl) gb293 7 x93_4 (of_decide_eq_true (by first | (with_reducible assumption) | assumption)) (of_decide_eq_true (by first | (with_reducible assumption) | assumption))
                      have hnb90 := NB293_297.out
                      have hnc90 := NB297_293.out
                      have hcz91_0 : wr.cell? ⟨gb293,0,none⟩ = some (.int .i64 a0_0) := (blk_cell BK293.out 0).trans rfl
                      have hcz91_1 : wr.cell? ⟨gb293,1,none⟩ = some (.int .i64 a0_1) := (blk_cell BK293.out 1).trans rfl
                      have hcz91_2 : wr.cell? ⟨gb293,2,none⟩ = some (.slice A0_2 l0_2.length c0_2) := (blk_cell BK293.out 2).trans rfl
                      have hcz91_3 : wr.cell? ⟨gb293,3,none⟩ = some (.slice A0_3 l0_3.length c0_3) := (blk_cell BK293.out 3).trans rfl
                      have hcz91_4 : wr.cell? ⟨gb293,4,none⟩ = some (.int .i64 a0_4) := (blk_cell BK293.out 4).trans rfl
                      have hcz91_5 : wr.cell? ⟨gb293,5,none⟩ = some (.int .i64 a0_5) := (blk_cell BK293.out 5).trans rfl
                      have hcz91_6 : wr.cell? ⟨gb293,6,none⟩ = some (.int .i64 a0_6) := (blk_cell BK293.out 6).trans rfl
                      have hcz91_7 : wr.cell? ⟨gb293,7,none⟩ = some (.int .i64 a0_7) := (blk_cell BK293.out 7).trans rfl
                      have hcz91_8 : wr.cell? ⟨gb293,8,none⟩ = some (.int .i64 a0_8) := (blk_cell BK293.out 8).trans rfl
                      have hcz91_9 : wr.cell? ⟨gb293,9,none⟩ = some (.int .i64 a0_9) := (blk_cell BK293.out 9).trans rfl
                      have hfz91_0 := blk_frozen BK293.out 0
                      have hfz91_1 := blk_frozen BK293.out 1
                      have hfz91_2 := blk_frozen BK293.out 2
                      have hfz91_3 := blk_frozen BK293.out 3
                      have hfz91_4 := blk_frozen BK293.out 4
                      have hfz91_5 := blk_frozen BK293.out 5
                      have hfz91_6 := blk_frozen BK293.out 6
                      have hfz91_7 := blk_frozen BK293.out 7
                      have hfz91_8 := blk_frozen BK293.out 8
                      have hfz91_9 := blk_frozen BK293.out 9
                      have hca92 : wr.cell? ⟨gb293,7 + x93_4.toNat,none⟩ = some (.int .i64 (at3 x93_4 a0_7 a0_8 a0_9)) := at3_cell (of_decide_eq_true (by first | (with_reducible assumption) | assumption)) (of_decide_eq_true (by first | (with_reducible assumption) | assumption)) ((blk_cell BK293.out 7).trans rfl) ((blk_cell BK293.out 8).trans rfl) ((blk_cell BK293.out 9).trans rfl)
                      go_wp2
                      go_roundg k5
                      case measure => have := HJ1.out; have := HK2.out; have := HK3.out; have := HK4.out; have := HK5.out; omega
                      case rel => exact ⟨(wrap64 (x93_4 + 1)),(by first | rfl | (simp; done) | (simp [*]; done)),H',⟨by have := HJ1.out; have := HK2.out; have := HK3.out; have := HK4.out; have := HK5.out; omega⟩,⟨kA BK293.out⟩,⟨kA BK297.out⟩,⟨bA⟩⟩
                     ·rw [if_neg c88] at H
                      have c88b0 : (x13_5 == (at3 x93_4 a0_7 a0_8 a0_9)) = false := beq_eq_false_iff_ne.mpr c88
                      have c88b1 : (x13_5 != (at3 x93_4 a0_7 a0_8 a0_9)) = true := bne_iff_ne.mpr c88
                      obtain rfl := Option.some.inj H
                      have hia93 := ia_dyn (P:=Tryd.prog) (t:=24) (e:=3) Tryd.underlying24 (by kernel_rfl) (by kernel_rfl) gb293 7 x93_4 (of_decide_eq_true (by first | (with_reducible assumption) | assumption)) (of_decide_eq_true (by first | (with_reducible assumption) | assumption))
                      have hnb94 := NB293_297.out
                      have hnc94 := NB297_293.out
                      have hcz95_0 : wr.cell? ⟨gb293,0,none⟩ = some (.int .i64 a0_0) := (blk_cell BK293.out 0).trans rfl
                      have hcz95_1 : wr.cell? ⟨gb293,1,none⟩ = some (.int .i64 a0_1) := (blk_cell BK293.out 1).trans rfl
                      have hcz95_2 : wr.cell? ⟨gb293,2,none⟩ = some (.slice A0_2 l0_2.length c0_2) := (blk_cell BK293.out 2).trans rfl
                      have hcz95_3 : wr.cell? ⟨gb293,3,none⟩ = some (.slice A0_3 l0_3.length c0_3) := (blk_cell BK293.out 3).trans rfl
                      have hcz95_4 : wr.cell? ⟨gb293,4,none⟩ = some (.int .i64 a0_4) := (blk_cell BK293.out 4).trans rfl
                      have hcz95_5 : wr.cell? ⟨gb293,5,none⟩ = some (.int .i64 a0_5) := (blk_cell BK293.out 5).trans rfl
                      have hcz95_6 : wr.cell? ⟨gb293,6,none⟩ = some (.int .i64 a0_6) := (blk_cell BK293.out 6).trans rfl
                      have hcz95_7 : wr.cell? ⟨gb293,7,none⟩ = some (.int .i64 a0_7) := (blk_cell BK293.out 7).trans rfl
                      have hcz95_8 : wr.cell? ⟨gb293,8,none⟩ = some (.int .i64 a0_8) := (blk_cell BK293.out 8).trans rfl
                      have hcz95_9 : wr.cell? ⟨gb293,9,none⟩ = some (.int .i64 a0_9) := (blk_cell BK293.out 9).trans rfl
                      have hfz95_0 := blk_frozen BK293.out 0
                      have hfz95_1 := blk_frozen BK293.out 1
                      have hfz95_2 := blk_frozen BK293.out 2
                      have hfz95_3 := blk_frozen BK293.out 3
                      have hfz95_4 := blk_frozen BK293.out 4
                      have hfz95_5 := blk_frozen BK293.out 5
                      have hfz95_6 := blk_frozen BK293.out 6
                      have hfz95_7 := blk_frozen BK293.out 7
                      have hfz95_8 := blk_frozen BK293.out 8
                      have hfz95_9 := blk_frozen BK293.out 9
                      have hca96 : wr.cell? ⟨gb293,7 + x93_4.toNat,none⟩ = some (.int .i64 (at3 x93_4 a0_7 a0_8 a0_9)) := at3_cell (of_decide_eq_true (by first | (with_reducible assumption) | assumption)) (of_decide_eq_true (by first | (with_reducible assumption) | assumption)) ((blk_cell BK293.out 7).trans rfl) ((blk_cell BK293.out 8).trans rfl) ((blk_cell BK293.out 9).trans rfl)
                      go_wp2
                      go_ret
                      exact ⟨by first | rfl | (simp only [i64_w,i32_w] <;> rfl) | (simp [errW_none,errW_some] <;> rfl) | (simp [*,errW_none,errW_some] <;> rfl),bA⟩
                    ·rw [if_neg c87] at H
                     exact absurd H (by simp)
                   ·rw [if_neg c86] at H
                    exact absurd H (by simp)
               ·replace c66 := Bool.eq_false_iff.mpr c66
                subst c66
                rw [if_neg (show ¬ (false = true) by decide)] at H
                obtain rfl := Option.some.inj H
                have hia97 := ia_dyn (P:=Tryd.prog) (t:=24) (e:=3) Tryd.underlying24 (by kernel_rfl) (by kernel_rfl) gb293 4 x93_4 (of_decide_eq_true (by first | (with_reducible assumption) | assumption)) (of_decide_eq_true (by first | (with_reducible assumption) | assumption))
                have hnb98 := NB293_297.out
                have hnc98 := NB297_293.out
                have hcz99_0 : wr.cell? ⟨gb293,0,none⟩ = some (.int .i64 a0_0) := (blk_cell BK293.out 0).trans rfl
                have hcz99_1 : wr.cell? ⟨gb293,1,none⟩ = some (.int .i64 a0_1) := (blk_cell BK293.out 1).trans rfl
                have hcz99_2 : wr.cell? ⟨gb293,2,none⟩ = some (.slice A0_2 l0_2.length c0_2) := (blk_cell BK293.out 2).trans rfl
                have hcz99_3 : wr.cell? ⟨gb293,3,none⟩ = some (.slice A0_3 l0_3.length c0_3) := (blk_cell BK293.out 3).trans rfl
                have hcz99_4 : wr.cell? ⟨gb293,4,none⟩ = some (.int .i64 a0_4) := (blk_cell BK293.out 4).trans rfl
                have hcz99_5 : wr.cell? ⟨gb293,5,none⟩ = some (.int .i64 a0_5) := (blk_cell BK293.out 5).trans rfl
                have hcz99_6 : wr.cell? ⟨gb293,6,none⟩ = some (.int .i64 a0_6) := (blk_cell BK293.out 6).trans rfl
                have hcz99_7 : wr.cell? ⟨gb293,7,none⟩ = some (.int .i64 a0_7) := (blk_cell BK293.out 7).trans rfl
                have hcz99_8 : wr.cell? ⟨gb293,8,none⟩ = some (.int .i64 a0_8) := (blk_cell BK293.out 8).trans rfl
                have hcz99_9 : wr.cell? ⟨gb293,9,none⟩ = some (.int .i64 a0_9) := (blk_cell BK293.out 9).trans rfl
                have hfz99_0 := blk_frozen BK293.out 0
                have hfz99_1 := blk_frozen BK293.out 1
                have hfz99_2 := blk_frozen BK293.out 2
                have hfz99_3 := blk_frozen BK293.out 3
                have hfz99_4 := blk_frozen BK293.out 4
                have hfz99_5 := blk_frozen BK293.out 5
                have hfz99_6 := blk_frozen BK293.out 6
                have hfz99_7 := blk_frozen BK293.out 7
                have hfz99_8 := blk_frozen BK293.out 8
                have hfz99_9 := blk_frozen BK293.out 9
                have hca100 : wr.cell? ⟨gb293,4 + x93_4.toNat,none⟩ = some (.int .i64 (at3 x93_4 a0_4 a0_5 a0_6)) := at3_cell (of_decide_eq_true (by first | (with_reducible assumption) | assumption)) (of_decide_eq_true (by first | (with_reducible assumption) | assumption)) ((blk_cell BK293.out 4).trans rfl) ((blk_cell BK293.out 5).trans rfl) ((blk_cell BK293.out 6).trans rfl)
                go_wp2_with (first | ((with_reducible refine gate_callee (f:=26) rfl ?_); refine goesL_ (some 101) rfl rfl Tryd.func26 (by kernel_rfl) rfl #[.int .i64 (at3 x93_4 a0_4 a0_5 a0_6),.int .i64 0,.int .i64 100000] rfl mA ?_; (with_reducible refine (impl_within.calls (at3 x93_4 a0_4 a0_5 a0_6) 0 100000 false _ A65.out).mono ?_); rintro e w' ⟨rfl,⟨nd,rfl⟩⟩; refine ⟨_,rfl,?_⟩))
                go_ret
                exact ⟨by first | rfl | (simp only [i64_w,i32_w] <;> rfl) | (simp [errW_none,errW_some] <;> rfl) | (simp [*,errW_none,errW_some] <;> rfl),bA⟩
              ·rw [if_neg c64] at H
               exact absurd H (by simp)
             ·rw [if_neg c63] at H
              have c63b0 : decide (x93_4 < 3) = false := decide_eq_false c63
              clear c63
              obtain rfl := Option.some.inj H
              go_wp2
              go_ret
              exact ⟨by first | rfl | (simp only [i64_w,i32_w] <;> rfl) | (simp [errW_none,errW_some] <;> rfl) | (simp [*,errW_none,errW_some] <;> rfl),bA⟩
          ·rw [if_neg c59] at H
           have c59b0 : ((x298000_3.length : Int) == (wrap64 ((l0_2.length : Int) + (l0_3.length : Int)))) = false := beq_eq_false_iff_ne.mpr c59
           have c59b1 : ((x298000_3.length : Int) != (wrap64 ((l0_2.length : Int) + (l0_3.length : Int)))) = true := bne_iff_ne.mpr c59
           obtain rfl := Option.some.inj H
           have hnb101 := NB297_293.out
           have hnc101 := NB293_297.out
           have hlen_ := MO_.out.len Tryd.underlying62 3 BK297.out
           have hcz103_0 : wr.cell? ⟨gb293,0,none⟩ = some (.int .i64 a0_0) := (blk_cell BK293.out 0).trans rfl
           have hcz103_1 : wr.cell? ⟨gb293,1,none⟩ = some (.int .i64 a0_1) := (blk_cell BK293.out 1).trans rfl
           have hcz103_2 : wr.cell? ⟨gb293,2,none⟩ = some (.slice A0_2 l0_2.length c0_2) := (blk_cell BK293.out 2).trans rfl
           have hcz103_3 : wr.cell? ⟨gb293,3,none⟩ = some (.slice A0_3 l0_3.length c0_3) := (blk_cell BK293.out 3).trans rfl
           have hcz103_4 : wr.cell? ⟨gb293,4,none⟩ = some (.int .i64 a0_4) := (blk_cell BK293.out 4).trans rfl
           have hcz103_5 : wr.cell? ⟨gb293,5,none⟩ = some (.int .i64 a0_5) := (blk_cell BK293.out 5).trans rfl
           have hcz103_6 : wr.cell? ⟨gb293,6,none⟩ = some (.int .i64 a0_6) := (blk_cell BK293.out 6).trans rfl
           have hcz103_7 : wr.cell? ⟨gb293,7,none⟩ = some (.int .i64 a0_7) := (blk_cell BK293.out 7).trans rfl
           have hcz103_8 : wr.cell? ⟨gb293,8,none⟩ = some (.int .i64 a0_8) := (blk_cell BK293.out 8).trans rfl
           have hcz103_9 : wr.cell? ⟨gb293,9,none⟩ = some (.int .i64 a0_9) := (blk_cell BK293.out 9).trans rfl
           have hfz103_0 := blk_frozen BK293.out 0
           have hfz103_1 := blk_frozen BK293.out 1
           have hfz103_2 := blk_frozen BK293.out 2
           have hfz103_3 := blk_frozen BK293.out 3
           have hfz103_4 := blk_frozen BK293.out 4
           have hfz103_5 := blk_frozen BK293.out 5
           have hfz103_6 := blk_frozen BK293.out 6
           have hfz103_7 := blk_frozen BK293.out 7
           have hfz103_8 := blk_frozen BK293.out 8
           have hfz103_9 := blk_frozen BK293.out 9
           go_wp2
           go_ret
           exact ⟨by first | rfl | (simp only [i64_w,i32_w] <;> rfl) | (simp [errW_none,errW_some] <;> rfl) | (simp [*,errW_none,errW_some] <;> rfl),bA⟩

end Go.Proofs.YtfondhlknkhmmaaDoor.XFnExactDueWindow
