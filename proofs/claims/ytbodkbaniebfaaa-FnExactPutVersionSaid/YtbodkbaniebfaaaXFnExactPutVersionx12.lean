-- Printed by this session's own program wip/tools/xprint.py, which widens the kit's print. Not trusted: Lean checks it.
import Derived.Test.YtbodkbaniebfaaaXFnExactPutVersionx0
namespace Go.Proofs.Ytbodkbaniebfaaa.XFnExactPutVersion
open Go.RowKit Go.Proofs.YtbodkbaniebfaaaW.PrintWords Go.Proofs.YtbodkbaniebfaaaW.PrintLast Go.Proofs.YtbodkbaniebfaaaW.PrintMore
attribute [local go_sem] max2_int min2_int max_two min_two max_three min_three max_four min_four   -- for this text's walks alone
set_option linter.unusedVariables false
set_option linter.unusedSimpArgs false

/-! ### impl_Object_69: function 69 (by hand) -/
/-! ### slices.Insert at Object: one object, into a row of the call's own -/
theorem heap_setCells (b : Nat) (t : TypeId) : ∀ (vs : List Value) (o : Nat) (w : World) (cs : Array Value),w.heap[b]? = some (.cells cs t (0,0)) → o + vs.length ≤ cs.size →
  ∃ cs' : Array Value,(w.setCells b o vs).heap[b]? = some (.cells cs' t (0,0)) ∧ cs'.size = cs.size ∧ ∀ k,cs'[k]? = if o ≤ k ∧ k < o + vs.length then vs[k - o]? else cs[k]?
 | [],o,w,cs,h,_ => ⟨cs,h,rfl,fun k => by rw [if_neg (fun hh => Nat.lt_irrefl k (Nat.lt_of_lt_of_le hh.2 hh.1))]⟩
 | v :: r,o,w,cs,h,hl => by
  have hl' : o + (r.length + 1) ≤ cs.size := hl
  have h1 : (w.setCell ⟨b,o,none⟩ v).heap[b]? = some (.cells (cs.setIfInBounds o v) t (0,0)) := heap_setCell_same w b o cs t v h
  obtain ⟨cs',e1,e2,e3⟩ := heap_setCells b t r (o + 1) _ _ h1 (by rw [Array.size_setIfInBounds]; omega)
  refine ⟨cs',e1,by rw [e2,Array.size_setIfInBounds],fun k => ?_⟩
  rw [e3 k,Array.getElem?_setIfInBounds]
  show _ = if o ≤ k ∧ k < o + (r.length + 1) then (v :: r)[k - o]? else cs[k]?
  by_cases hk : k = o
  ·subst hk
   rw [if_neg (by omega),if_pos rfl,if_pos (by omega),if_pos (by omega),Nat.sub_self]
   rfl
  ·rw [if_neg (by omega : ¬ o = k)]
   by_cases hin : o + 1 ≤ k ∧ k < o + 1 + r.length
   ·rw [if_pos hin,if_pos (by omega),show k - o = (k - (o + 1)) + 1 by omega,List.getElem?_cons_succ]
   ·rw [if_neg hin,if_neg (by omega)]
theorem heap_setCells_far (b : Nat) : ∀ (vs : List Value) (o : Nat) (w : World) (k : Nat),k ≠ b → (w.setCells b o vs).heap[k]? = w.heap[k]?
 | [],_,_,_,_ => rfl
 | v :: r,o,w,k,h => (heap_setCells_far b r (o + 1) _ k h).trans (heap_setCell_other w ⟨b,o,none⟩ k v h)
theorem grown_setCells (b : Nat) : ∀ (vs : List Value) (o : Nat) (w : World),w.grownBy (w.setCells b o vs) (some b)
 | [],_,w => World.grownBy.refl w _
 | v :: r,o,w => by
  have h := grown_setCells b r (o + 1) (w.setCell ⟨b,o,none⟩ v)
  exact ⟨h.os,h.tape,h.output,Nat.le_trans (by simp [World.setCell]) h.size,fun k hk hg => (h.block k (by simpa [World.setCell] using hk) hg).trans (heap_setCell_other w ⟨b,o,none⟩ k v (fun e => hg (by rw [e])))⟩
/-- 'copy' of elements of three cells, all of it read before anything is written. -/
theorem run_copy3 {P : Program} (w : World) (dT sT ty elem : TypeId) (b o dLen dCap : Nat) (a : Addr) (sLen sCap : Nat) (cs : List Value)
  (hu : P.underlying dT = some (.slice elem)) (hs : (P.info? elem).map (·.size) = some 3) (hn : cs.length = Nat.min sLen dLen * 3)
  (hsrc : ∀ j v,cs[j]? = some v → w.cell? (a.add j) = some v) (hc : ∀ j,j < cs.length → (w.cell? ⟨b,o + j,none⟩).isSome = true) (hf : ∀ j,j < cs.length → w.frozen? ⟨b,o + j,none⟩ = false) (h1 : ∀ v ∈ cs,v.oneCell' = true) :
  (Builtin.copy_ #[dT,sT] ty #[.slice (some ⟨b,o,none⟩) dLen dCap,.slice (some a) sLen sCap]).run P w = .ok (goInt (Nat.min sLen dLen)) (w.setCells b o cs) := by
 have hl := run_loadCells_list (P:=P) w a cs hsrc
 have hst := run_storeCells_cells (P:=P) b o cs 0 w (by simpa using hc) (by simpa using hf) h1
 cases hq : P.info? elem with
 | none => simp [hq] at hs
 | some i =>
  have hi : i.size = 3 := by simpa [hq] using hs
  simp [Builtin.copy_,run_underlying hu,Builtin.lenOf,Builtin.firstCells,sizeOf,typeInfo,hq,hi,← hn,hl,hst]
theorem cells_of_block {w : World} {g : Nat} {cur : Array Value} {t : TypeId} (h : w.heap[g]? = some (.cells cur t (0,0))) (k : Nat) : w.cell? ⟨g,k,none⟩ = cur[k]? := by
 simp [World.cell?,h]
theorem nofreeze_of_block {w : World} {g : Nat} {cur : Array Value} {t : TypeId} (h : w.heap[g]? = some (.cells cur t (0,0))) (k : Nat) : w.frozen? ⟨g,k,none⟩ = false := by
 simp [World.frozen?,h]
/-- the cells that an insertion in place leaves -/
theorem shifted_cells (w : World) (g i n cap : Nat) (cur : Array Value) (xs news : List Value) (hg : w.heap[g]? = some (.cells cur 71 (0,0))) (hcs : cur.size = cap * 3) (htake : cur.toList.take (n * 3) = xs) (hi : i < n) (hroom : n + 1 ≤ cap) (hnl : news.length = 3) :
  ∃ cs' : Array Value,((w.setCells g ((i + 1) * 3) (xs.drop (i * 3))).setCells g (i * 3) news).heap[g]? = some (.cells cs' 71 (0,0)) ∧ cs'.size = cap * 3 ∧ cs'.toList.take ((n + 1) * 3) = xs.take (i * 3) ++ news ++ xs.drop (i * 3) := by
 have hx : xs.length = n * 3 := by rw [← htake,List.length_take,Array.length_toList]; omega
 obtain ⟨c1,e1,e2,e3⟩ := heap_setCells g 71 (xs.drop (i * 3)) ((i + 1) * 3) w cur hg (by rw [List.length_drop]; omega)
 obtain ⟨c2,f1,f2,f3⟩ := heap_setCells g 71 news (i * 3) _ c1 e1 (by omega)
 refine ⟨c2,f1,by omega,?_⟩
 have hxk : ∀ k,k < n * 3 → cur[k]? = xs[k]? := fun k hk => by rw [← htake,List.getElem?_take,if_pos hk,Array.getElem?_toList]
 apply List.ext_getElem?
 intro k
 rw [List.getElem?_take,Array.getElem?_toList,f3 k,hnl]
 have hlt : (xs.take (i * 3) ++ news).length = i * 3 + 3 := by rw [List.length_append,List.length_take]; omega
 by_cases hk : k < (n + 1) * 3
 ·rw [if_pos hk]
  by_cases h1 : k < i * 3
  ·rw [if_neg (by omega),e3 k,if_neg (by omega),List.getElem?_append_left (by omega),List.getElem?_append_left (by rw [List.length_take]; omega),List.getElem?_take,if_pos h1]
   exact hxk k (by omega)
  ·by_cases h2 : k < i * 3 + 3
   ·rw [if_pos (by omega),List.getElem?_append_left (by omega),List.getElem?_append_right (by rw [List.length_take]; omega),List.length_take]
    congr 1
    omega
   ·rw [if_neg (by omega),e3 k,List.length_drop,if_pos (by omega),List.getElem?_append_right (by omega),List.getElem?_drop,List.getElem?_drop]
    congr 1
    omega
 ·rw [if_neg hk,List.getElem?_eq_none]
  rw [List.length_append,hlt,List.length_drop]
  omega
set_option maxHeartbeats 4000000 in
set_option maxRecDepth 100000 in
theorem ins_shift (base : Nat) (w : World) (g i n cap vb : Nat) (cur : Array Value) (xs : List Value) (c0 c1 c2 : Value) (hbg : base ≤ g) (hg : w.heap[g]? = some (.cells cur 71 (0,0))) (hcm : cap ≤ maxLen) (hcs : cur.size = cap * 3) (htake : cur.toList.take (n * 3) = xs)
  (cv : Array Value) (vc : Nat) (hv : w.heap[vb]? = some (.cells cv 71 (0,0))) (hv3 : ∀ (j : Nat) (u : Value),[c0,c1,c2][j]? = some u → cv[j]? = some u) (hne : vb ≠ g) (hi : i < n) (hroom : n + 1 ≤ cap) (h1 : ∀ u ∈ xs,u.oneCell' = true) (h1v : ∀ u ∈ [c0,c1,c2],u.oneCell' = true) :
  Calls Try.prog 69 #[.slice (some ⟨g,0,none⟩) n cap,.int .i64 i,.slice (some ⟨vb,0,none⟩) 1 vc] w fun e w' =>
   e = .returned (.slice (some ⟨g,0,none⟩) (n + 1) cap) ∧ w'.ownsRow base 71 3 (.slice (some ⟨g,0,none⟩) (n + 1) cap) (n + 1) (xs.take (i * 3) ++ [c0,c1,c2] ++ xs.drop (i * 3)) ∧ w.grownBy w' (some g) := by
 have hx : xs.length = n * 3 := by rw [← htake,List.length_take,Array.length_toList]; omega
 have hcm' : cap ≤ 9223372036854775807 := by simpa [maxLen] using hcm
 have hcur : ∀ k,k < n * 3 → cur[k]? = xs[k]? := fun k hk => by rw [← htake,List.getElem?_take,if_pos hk,Array.getElem?_toList]
 have hu26 := Try.underlying26
 have hu71 := Try.underlying71
 have hi71 : (Try.prog.info? 71).map (·.size) = some 3 := by have h := info71; rw [Option.map_eq_some_iff] at h ⊢; obtain ⟨a,ha,hb⟩ := h; exact ⟨a,ha,by simpa using congrArg (fun q => q.2.1) hb⟩
 have hz1 : ¬ ((1 : Int) = 0) := by omega
 have hz2 : ¬ ((i : Int) = (n : Int)) := by omega
 have hov : ∀ W : World,W.heap[vb]? = some (.cells cv 71 (0,0)) → W.heap[g]? = some (.cells cur 71 (0,0)) → ∀ o lb cb,(callFunc 78 #[.slice (some ⟨vb,0,none⟩) 1 vc,.slice (some ⟨g,o,none⟩) lb cb]).run Try.prog W = .ok (.value (.bool false)) W := fun W hWv hWg o lb cb => by
  rw [run_callFunc_extern Try.func78 (by kernel_rfl) (by kernel_rfl) (by kernel_rfl) (e:=Extern.SlicesOverlaps.overlaps #[26,26] #[4]) (by kernel_rfl),
   Lib.run_overlaps_apart W _ _ 71 hu26 3 (fun W' => by kernel_rfl) ⟨vb,0,none⟩ ⟨g,o,none⟩ 1 vc lb cb hne 71 71 cv.size cur.size (by simp [World.shape?,hWv]) (by simp [World.shape?,hWg]) (by omega) (nofreeze_of_block hWv 0) (nofreeze_of_block hWv _)]
  rfl
 have hw1 : IntKind.i64.wrap ((i : Int) + 1) = (i : Int) + 1 := by rw [IntKind.wrap_i64]; omega
 have hw2 : IntKind.i64.wrap ((n : Int) + 1) = (n : Int) + 1 := by rw [IntKind.wrap_i64]; omega
 have hb1 : (0 : Int) ≤ (i : Int) + 1 := by omega
 have hb0 : (0 : Int) ≤ (n : Int) + 1 := by omega
 have hin : i ≤ n := by omega
 have htn : ((i : Int) + 1).toNat = i + 1 := by omega
 have htm : ((n : Int) + 1).toNat = n + 1 := by omega
 have hb2 : ¬ (cap = i + 1) := by omega
 have hb3 : (i : Int) ≤ (n : Int) + 1 := by omega
 have hb4 : ¬ (cap = i) := by omega
 have hdl : (xs.drop (i * 3)).length = (n - i) * 3 := by rw [List.length_drop,hx]; omega
 have hvs : ∀ W : World,W.heap[vb]? = some (.cells cv 71 (0,0)) → ∀ j v,[c0,c1,c2][j]? = some v → W.cell? ((⟨vb,0,none⟩ : Addr).add j) = some v := fun W hW j v hj => by
  rw [Addr.add_lit,Nat.zero_add,cells_of_block hW]
  exact hv3 j v hj
 have hcp1 : ∀ W : World,W.heap[g]? = some (.cells cur 71 (0,0)) → ∀ ty dc sc,(Builtin.copy_ #[26,26] ty #[.slice (some ⟨g,(i + 1) * 3,none⟩) (n - i) dc,.slice (some ⟨g,i * 3,none⟩) (n + 1 - i) sc]).run Try.prog W = .ok (goInt (Nat.min (n + 1 - i) (n - i))) (W.setCells g ((i + 1) * 3) (xs.drop (i * 3))) := fun W hW ty dc sc =>
  run_copy3 W _ _ ty 71 g ((i + 1) * 3) (n - i) dc ⟨g,i * 3,none⟩ (n + 1 - i) sc (xs.drop (i * 3)) hu26 hi71 (by rw [hdl]; simp only [Nat.min_def]; split <;> omega)
   (fun j v hj => by
    rw [Addr.add_lit,cells_of_block hW]
    rw [List.getElem?_drop] at hj
    rw [hcur _ (by have := (List.getElem?_eq_some_iff.1 hj).1; omega)]
    exact hj)
   (fun j hj => by rw [cells_of_block hW,Array.getElem?_eq_getElem (by omega)]; rfl) (fun j hj => nofreeze_of_block hW _) (fun v hv => h1 v (List.mem_of_mem_drop hv))
 obtain ⟨c1_,e1,e2,e3⟩ := heap_setCells g 71 (xs.drop (i * 3)) ((i + 1) * 3) w.drew cur hg (by rw [List.length_drop]; omega)
 obtain ⟨W1,hW1⟩ : ∃ W1,W1 = w.drew.setCells g ((i + 1) * 3) (xs.drop (i * 3)) := ⟨_,rfl⟩
 have hvW1 : W1.heap[vb]? = some (.cells cv 71 (0,0)) := by rw [hW1,heap_setCells_far _ _ _ _ _ hne]; exact hv
 have hgW1 : W1.heap[g]? = some (.cells c1_ 71 (0,0)) := by rw [hW1]; exact e1
 have hcp2 : ∀ ty dc,(Builtin.copy_ #[26,26] ty #[.slice (some ⟨g,i * 3,none⟩) (n + 1 - i) dc,.slice (some ⟨vb,0,none⟩) 1 vc]).run Try.prog W1 = .ok (goInt (Nat.min 1 (n + 1 - i))) (W1.setCells g (i * 3) [c0,c1,c2]) := fun ty dc =>
  run_copy3 W1 _ _ ty 71 g (i * 3) (n + 1 - i) dc ⟨vb,0,none⟩ 1 vc [c0,c1,c2] hu26 hi71 (by simp only [Nat.min_def]; split <;> first | rfl | (exfalso; omega))
   (hvs W1 hvW1) (fun j hj => by rw [cells_of_block hgW1,Array.getElem?_eq_getElem (by simp at hj; omega)]; rfl) (fun j hj => nofreeze_of_block hgW1 _) h1v
 have hcp1 := hcp1 w.drew hg
 rw [← hW1] at hcp1
 have hov := hov w hv hg
 have mixed : Try.prog.follows Departure.mixedOrders = true := by kernel_rfl
 have HG := Aside0.mk hg
 have HV := Aside0.mk hv
 have HT := Aside0.mk htake
 have HS := Aside0.mk hcs
 have HX := Aside0.mk hx
 have HW1 := Aside0.mk hW1
 clear hg hv hv3 htake hcs hx hW1 hcur hvs hdl e1 e2 e3 hvW1 hgW1 h1 h1v hi71
 go_enter Try.func69,Try.ntmps69
 go_wp2_with (simp only [hov])
 go_region_law_o (refine step_copy_runI rfl _ _ 26 26 rfl _ _ (by simp [Act.eval,Act.put]) (by simp [Act.eval,Act.put]) (hcp1 _ _ _) ?_)
 go_wp2_with (at_builtin; refine wpList_copy_runI _ rfl _ _ 26 26 rfl _ _ rfl rfl (hcp2 _ _) ?_)
 go_ret
 obtain ⟨cs',q1,q2,q3⟩ := shifted_cells w.drew g i n cap cur xs [c0,c1,c2] HG.out HS.out HT.out hi hroom rfl
 refine ⟨rfl,⟨?_,.inr ⟨g,cap,cs',rfl,hbg,by rw [HW1.out]; exact q1,hroom,hcm,q2,q3⟩⟩,?_⟩
 ·have := HX.out
  simp
  omega
 ·rw [HW1.out]
  have k1 := grown_setCells g (xs.drop (i * 3)) ((i + 1) * 3) w.drew
  have k2 := grown_setCells g [c0,c1,c2] (i * 3) (w.drew.setCells g ((i + 1) * 3) (xs.drop (i * 3)))
  exact ⟨k2.os.trans k1.os,k2.tape.trans k1.tape,k2.output.trans k1.output,Nat.le_trans k1.size k2.size,fun k hk hgk => (k2.block k (Nat.lt_of_lt_of_le hk k1.size) hgk).trans (k1.block k hk hgk)⟩
set_option maxHeartbeats 4000000 in
set_option maxRecDepth 100000 in
theorem ins_end (base : Nat) (w : World) (v : Value) (n vb : Nat) (xs : List Value) (c0 c1 c2 : Value) (hown : w.ownsRow base 71 3 v n xs) (hbase : base ≤ w.heap.size)
  (cv : Array Value) (vc : Nat) (hv : w.heap[vb]? = some (.cells cv 71 (0,0))) (hv3 : ∀ (j : Nat) (u : Value),[c0,c1,c2][j]? = some u → cv[j]? = some u) (h1v : ∀ u ∈ [c0,c1,c2],u.oneCell' = true) (hn : n ≤ 3518437208000) :
  Calls Try.prog 69 #[v,.int .i64 n,.slice (some ⟨vb,0,none⟩) 1 vc] w fun e w' =>
   ∃ v',e = .returned v' ∧ w'.ownsRow base 71 3 v' (n + 1) (xs ++ [c0,c1,c2]) ∧ w.grownBy w' v.ownBlock ∧ (v'.ownBlock = v.ownBlock ∨ v'.ownBlock = some w.heap.size) := by
 have hu26 := Try.underlying26
 have hu71 := Try.underlying71
 obtain ⟨i0,hi0,hzz⟩ := Option.map_eq_some_iff.1 info71
 simp only [Prod.mk.injEq] at hzz
 obtain ⟨hz0,hz1,hz2⟩ := hzz
 obtain ⟨v',w',hr,ho,hg,_,hat⟩ := run_append_own_at (P:=Try.prog) w base 26 26 71 i0 _ 3 40 hu26 hi0 hz0 hz1 hz2 rfl (by omega) v n xs hown ⟨vb,0,none⟩ 1 vc [c0,c1,c2] rfl
  (fun j u hj => by
   rw [Addr.add_lit,Nat.zero_add,cells_of_block hv]
   exact hv3 j u hj) h1v (by simp only [maxLen]; omega) (by omega) hbase
 have HO := Aside0.mk ho
 have HG := Aside0.mk hg
 have HA := Aside0.mk hat
 rcases hown.2 with ⟨rfl,rfl⟩ | ⟨g,cap,cur,rfl,hbg,hgg,hnc,hcm,hcs,htake⟩
 ·clear ho hg hat hown hv hv3 hi0 hz0 hz1 hz2
  go_enter Try.func69,Try.ntmps69
  go_wp2_with (at_builtin; refine Lib.wpList_append_run _ rfl _ _ _ _ rfl _ _ rfl rfl _ _ hr ?_)
  go_ret
  exact ⟨_,rfl,HO.out,HG.out,HA.out⟩
 ·have hcm' : cap ≤ 9223372036854775807 := by simpa [maxLen] using hcm
  clear ho hg hat hown hv hv3 hi0 hz0 hz1 hz2 hgg hcs htake
  rcases Nat.eq_or_lt_of_le hnc with rfl | hlt
  ·go_enter Try.func69,Try.ntmps69
   go_wp2_with (at_builtin; refine Lib.wpList_append_run _ rfl _ _ _ _ rfl _ _ rfl rfl _ _ hr ?_)
   go_ret
   exact ⟨_,rfl,HO.out,HG.out,HA.out⟩
  ·have hb4 : ¬ (cap = n) := by omega
   go_enter Try.func69,Try.ntmps69
   go_wp2_with (at_builtin; refine Lib.wpList_append_run _ rfl _ _ _ _ rfl _ _ rfl rfl _ _ hr ?_)
   go_ret
   exact ⟨_,rfl,HO.out,HG.out,HA.out⟩
/-- the cells of the new row that an insertion with no room leaves -/
theorem grown_cells (w : World) (b i n G : Nat) (ROW : Array Value) (xs news : List Value) (hb : w.heap[b]? = some (.cells ROW 71 (0,0))) (hR : ROW.size = G * 3) (hx : xs.length = n * 3) (hi : i < n) (hG : n + 1 ≤ G) (hpre : ∀ k,k < i * 3 → ROW[k]? = xs[k]?) (hnl : news.length = 3) :
  ∃ cs' : Array Value,((w.setCells b (i * 3) news).setCells b ((i + 1) * 3) (xs.drop (i * 3))).heap[b]? = some (.cells cs' 71 (0,0)) ∧ cs'.size = G * 3 ∧ cs'.toList.take ((n + 1) * 3) = xs.take (i * 3) ++ news ++ xs.drop (i * 3) := by
 obtain ⟨c1,e1,e2,e3⟩ := heap_setCells b 71 news (i * 3) w ROW hb (by omega)
 obtain ⟨c2,f1,f2,f3⟩ := heap_setCells b 71 (xs.drop (i * 3)) ((i + 1) * 3) _ c1 e1 (by rw [List.length_drop]; omega)
 refine ⟨c2,f1,by omega,?_⟩
 apply List.ext_getElem?
 intro k
 rw [List.getElem?_take,Array.getElem?_toList,f3 k,List.length_drop]
 have hlt : (xs.take (i * 3) ++ news).length = i * 3 + 3 := by rw [List.length_append,List.length_take]; omega
 by_cases hk : k < (n + 1) * 3
 ·rw [if_pos hk]
  by_cases h1 : k < i * 3
  ·rw [if_neg (by omega),e3 k,if_neg (by omega),List.getElem?_append_left (by omega),List.getElem?_append_left (by rw [List.length_take]; omega),List.getElem?_take,if_pos h1]
   exact hpre k h1
  ·by_cases h2 : k < i * 3 + 3
   ·rw [if_neg (by omega),e3 k,if_pos (by omega),List.getElem?_append_left (by omega),List.getElem?_append_right (by rw [List.length_take]; omega),List.length_take]
    congr 1
    omega
   ·rw [if_pos (by omega),List.getElem?_append_right (by omega),List.getElem?_drop,List.getElem?_drop]
    congr 1
    omega
 ·rw [if_neg hk,List.getElem?_eq_none]
  rw [List.length_append,hlt,List.length_drop]
  omega
set_option maxHeartbeats 4000000 in
set_option maxRecDepth 100000 in
theorem ins_grow (base : Nat) (w : World) (g i n vb : Nat) (cur : Array Value) (xs : List Value) (c0 c1 c2 : Value) (hbase : base ≤ w.heap.size) (hg : w.heap[g]? = some (.cells cur 71 (0,0))) (hcs : cur.size = n * 3) (htake : cur.toList.take (n * 3) = xs)
  (cv : Array Value) (vc : Nat) (hv : w.heap[vb]? = some (.cells cv 71 (0,0))) (hv3 : ∀ (j : Nat) (u : Value),[c0,c1,c2][j]? = some u → cv[j]? = some u) (hi : i < n) (h1 : ∀ u ∈ xs,u.oneCell' = true) (h1v : ∀ u ∈ [c0,c1,c2],u.oneCell' = true) (hn : n ≤ 3518437208000) :
  Calls Try.prog 69 #[.slice (some ⟨g,0,none⟩) n n,.int .i64 i,.slice (some ⟨vb,0,none⟩) 1 vc] w fun e w' =>
   ∃ v',e = .returned v' ∧ w'.ownsRow base 71 3 v' (n + 1) (xs.take (i * 3) ++ [c0,c1,c2] ++ xs.drop (i * 3)) ∧ w.grownBy w' (some g) ∧ v'.ownBlock = some w.heap.size := by
 have hx : xs.length = n * 3 := by rw [← htake,List.length_take,Array.length_toList]; omega
 have hcur : ∀ k,k < n * 3 → cur[k]? = xs[k]? := fun k hk => by rw [← htake,List.getElem?_take,if_pos hk,Array.getElem?_toList]
 have hu26 := Try.underlying26
 have hu71 := Try.underlying71
 have hu3 := Try.underlying3
 obtain ⟨i0,hi0,hzz⟩ := Option.map_eq_some_iff.1 info71
 simp only [Prod.mk.injEq] at hzz
 obtain ⟨hz0,hzs,hzb⟩ := hzz
 have hi71 : (Try.prog.info? 71).map (·.size) = some 3 := by rw [hi0]; simp [hzs]
 have hbw : g < w.heap.size := blk_lt hg
 have hvw : vb < w.heap.size := blk_lt hv
 have hz2 : ¬ ((i : Int) = (n : Int)) := by omega
 have hz3 : (n : Int) < (n : Int) + 1 := by omega
 have hkk : (n : Int) + 1 - (i : Int) = ((n + 1 - i : Nat) : Int) := by omega
 have hik : i + (n + 1 - i) = n + 1 := by omega
 have hold : (Builtin.firstCells i0.size i (.slice (some ⟨g,0,none⟩) i n)).run Try.prog w.drew = .ok (xs.take (i * 3)).toArray w.drew := by
  rw [hzs]
  exact run_firstCells_some w.drew 3 i ⟨g,0,none⟩ i n (xs.take (i * 3)) (by rw [List.length_take]; omega) (fun j v hj => by
   rw [Addr.add_lit,Nat.zero_add,cells_of_block (w:=w.drew) hg]
   rw [List.getElem?_take] at hj
   split at hj
   ·rw [hcur j (by omega)]
    exact hj
   ·cases hj)
 have hrz : ∀ ty,(Builtin.append_ #[26,3] ty #[.slice (some ⟨g,0,none⟩) i n,.int .i64 ((n : Int) + 1 - (i : Int))]).run Try.prog w =
   .ok (.slice (some ⟨w.heap.size,0,none⟩) (n + 1) (grownCap w (n + 1) n 71)) (w.drew.alloc (.cells ((xs.take (i * 3)).toArray ++ Builtin.zeroCells (Value.agg #[(.string ⟨#[]⟩),(.int .i64 0),(.string ⟨#[]⟩)]).cells (n + 1 - i) ++ Builtin.zeroCells (Value.agg #[(.string ⟨#[]⟩),(.int .i64 0),(.string ⟨#[]⟩)]).cells (grownCap w (n + 1) n 71 - (n + 1))) 71)) := fun ty => by
  have h := Lib.run_append_grow_zeros w 26 3 ty 71 i0 _ .i64 .i64 hu26 hu3 hi0 hz0 (some ⟨g,0,none⟩) i n (xs.take (i * 3)) hold (n + 1 - i) (by omega) (by omega) (by omega) (by omega) (by rw [hzb]; omega) (by rw [hzb,hik]; exact growslice_fits (by omega) (by omega))
  rw [hik] at h
  rw [hkk]
  exact h
 obtain ⟨G,hG⟩ : ∃ G,G = grownCap w (n + 1) n 71 := ⟨_,rfl⟩
 have hGn : n + 1 ≤ G := by rw [hG]; exact grownCap_ge w _ _ _
 have hGm : G ≤ maxLen := by rw [hG]; exact grownCap_le_maxLen w (n + 1) n 71 (by unfold maxLen; omega)
 have hG63 : G ≤ 9223372036854775807 := by simpa [maxLen] using hGm
 obtain ⟨ROW,hROW⟩ : ∃ ROW : Array Value,ROW = (xs.take (i * 3)).toArray ++ Builtin.zeroCells (Value.agg #[(.string ⟨#[]⟩),(.int .i64 0),(.string ⟨#[]⟩)]).cells (n + 1 - i) ++ Builtin.zeroCells (Value.agg #[(.string ⟨#[]⟩),(.int .i64 0),(.string ⟨#[]⟩)]).cells (G - (n + 1)) := ⟨_,rfl⟩
 rw [← hG] at hrz
 rw [← hROW] at hrz
 have hc3 : (Value.agg #[(.string ⟨#[]⟩),(.int .i64 0),(.string ⟨#[]⟩)]).cells.size = 3 := rfl
 have hRl : ROW.size = G * 3 := by
  rw [hROW]
  simp only [Array.size_append,size_zeroCells,hc3,List.size_toArray,List.length_take]
  omega
 have hpre : ∀ k,k < i * 3 → ROW[k]? = xs[k]? := fun k hk => by
  rw [hROW,Array.append_assoc,Array.getElem?_append_left (by simp only [List.size_toArray,List.length_take]; omega),List.getElem?_toArray,List.getElem?_take,if_pos hk]
 obtain ⟨W1,hW1⟩ : ∃ W1,W1 = w.drew.alloc (.cells ROW 71) := ⟨_,rfl⟩
 rw [← hW1] at hrz
 have hNb : W1.heap[w.heap.size]? = some (.cells ROW 71 (0,0)) := by rw [hW1]; exact heap_alloc_new w.drew _
 have hOb : W1.heap[g]? = some (.cells cur 71 (0,0)) := by rw [hW1]; first | exact (heap_alloc_old w.drew _ g hbw).trans hg | exact (heap_alloc_old w.drew _ hbw).trans hg
 have hOv : W1.heap[vb]? = some (.cells cv 71 (0,0)) := by rw [hW1]; first | exact (heap_alloc_old w.drew _ vb hvw).trans hv | exact (heap_alloc_old w.drew _ hvw).trans hv
 have hgr1 : w.grownBy W1 (some g) := by rw [hW1]; exact ⟨rfl,rfl,rfl,by simp,fun k hk _ => by first | exact heap_alloc_old w.drew _ k hk | exact heap_alloc_old w.drew _ hk⟩
 have hNg : g ≠ w.heap.size := by omega
 obtain ⟨W2,hW2⟩ : ∃ W2,W2 = W1.setCells w.heap.size (i * 3) [c0,c1,c2] := ⟨_,rfl⟩
 obtain ⟨R2,r1,r2,_⟩ := heap_setCells w.heap.size 71 [c0,c1,c2] (i * 3) W1 ROW hNb (by simp; omega)
 rw [← hW2] at r1
 have hOb2 : W2.heap[g]? = some (.cells cur 71 (0,0)) := by rw [hW2,heap_setCells_far _ _ _ _ _ hNg]; exact hOb
 have hcpA : ∀ ty dc,(Builtin.copy_ #[26,26] ty #[.slice (some ⟨w.heap.size,i * 3,none⟩) (n + 1 - i) dc,.slice (some ⟨vb,0,none⟩) 1 vc]).run Try.prog W1 = .ok (goInt (Nat.min 1 (n + 1 - i))) W2 := fun ty dc => by
  rw [hW2]
  exact run_copy3 W1 _ _ ty 71 w.heap.size (i * 3) (n + 1 - i) dc ⟨vb,0,none⟩ 1 vc [c0,c1,c2] hu26 hi71 (by simp only [Nat.min_def]; split <;> first | rfl | (exfalso; omega))
   (fun j v hj => by
    rw [Addr.add_lit,Nat.zero_add,cells_of_block hOv]
    exact hv3 j v hj) (fun j hj => by rw [cells_of_block hNb,Array.getElem?_eq_getElem (by simp at hj; omega)]; rfl) (fun j hj => nofreeze_of_block hNb _) h1v
 have hdl : (xs.drop (i * 3)).length = (n - i) * 3 := by rw [List.length_drop,hx]; omega
 have hcpB : ∀ W : World,W.heap[w.heap.size]? = some (.cells R2 71 (0,0)) → W.heap[g]? = some (.cells cur 71 (0,0)) → ∀ ty dc sc,(Builtin.copy_ #[26,26] ty #[.slice (some ⟨w.heap.size,(i + 1) * 3,none⟩) (n - i) dc,.slice (some ⟨g,i * 3,none⟩) (n - i) sc]).run Try.prog W = .ok (goInt (Nat.min (n - i) (n - i))) (W.setCells w.heap.size ((i + 1) * 3) (xs.drop (i * 3))) := fun W hWn hWg ty dc sc =>
  run_copy3 W _ _ ty 71 w.heap.size ((i + 1) * 3) (n - i) dc ⟨g,i * 3,none⟩ (n - i) sc (xs.drop (i * 3)) hu26 hi71 (by rw [hdl]; simp only [Nat.min_def]; split <;> omega)
   (fun j v hj => by
    rw [Addr.add_lit,cells_of_block hWg]
    rw [List.getElem?_drop] at hj
    rw [hcur _ (by have := (List.getElem?_eq_some_iff.1 hj).1; omega)]
    exact hj)
   (fun j hj => by rw [cells_of_block hWn,Array.getElem?_eq_getElem (by omega)]; rfl) (fun j hj => nofreeze_of_block hWn _) (fun v hv => h1 v (List.mem_of_mem_drop hv))
 have hcpB := hcpB W2.drew r1 hOb2
 have HF := Aside0.mk (grown_cells W1 w.heap.size i n G ROW xs [c0,c1,c2] hNb hRl hx hi hGn hpre rfl)
 have HX := Aside0.mk hx
 have HGm := Aside0.mk hGm
 have HGR := Aside0.mk hgr1
 have HW2 := Aside0.mk hW2
 have HBB := Aside0.mk hbase
 have hw1 : IntKind.i64.wrap ((i : Int) + 1) = (i : Int) + 1 := by rw [IntKind.wrap_i64]; omega
 have hw2 : IntKind.i64.wrap ((n : Int) + 1) = (n : Int) + 1 := by rw [IntKind.wrap_i64]; omega
 have hw3 : IntKind.i64.wrap ((n : Int) + 1 - (i : Int)) = (n : Int) + 1 - (i : Int) := by rw [IntKind.wrap_i64]; omega
 have hb1 : (0 : Int) ≤ (i : Int) + 1 := by omega
 have hin : i ≤ n := by omega
 have htn : ((i : Int) + 1).toNat = i + 1 := by omega
 have hb3 : (i : Int) ≤ (n : Int) := by omega
 have hGi : ¬ (G = i) := by omega
 have hGim : ¬ (G = i + 1) := by omega
 have hci : ¬ (n = i) := by omega
 have mixed : Try.prog.follows Departure.mixedOrders = true := by kernel_rfl
 clear hg hcs htake hv hv3 h1 h1v hbase hx hcur hi0 hz0 hzs hzb hi71 hbw hvw hkk hik hold hG hGm hROW hc3 hRl hpre hW1 hNb hOb hOv hgr1 hNg hW2 r1 r2 hOb2 hdl
 go_enter Try.func69,Try.ntmps69
 go_wp2_with (first
  | (at_builtin; refine Lib.wpList_append_run _ rfl _ _ _ _ rfl _ _ rfl rfl _ _ (hrz _) ?_)
  | (at_builtin; refine wpList_copy_runI _ rfl _ _ 26 26 rfl _ _ rfl rfl (hcpA _ _) ?_))
 go_region_law_o (refine step_copy_runI rfl _ _ 26 26 rfl _ _ (by simp [Act.eval,Act.put]) (by simp [Act.eval,Act.put]) (hcpB _ _ _) ?_)
 go_wp2
 go_ret
 obtain ⟨cs',q1,q2,q3⟩ := HF.out
 have k2 := grown_setCells w.heap.size [c0,c1,c2] (i * 3) W1
 rw [← HW2.out] at k2 q1
 have k3 := grown_setCells w.heap.size (xs.drop (i * 3)) ((i + 1) * 3) W2.drew
 refine ⟨_,rfl,⟨?_,.inr ⟨w.heap.size,G,cs',rfl,HBB.out,by rw [← drew_setCells]; exact q1,hGn,HGm.out,q2,q3⟩⟩,?_,rfl⟩
 ·have := HX.out
  simp
  omega
 ·have k1 := HGR.out
  exact ⟨(k3.os.trans k2.os).trans k1.os,(k3.tape.trans k2.tape).trans k1.tape,(k3.output.trans k2.output).trans k1.output,Nat.le_trans k1.size (Nat.le_trans k2.size k3.size),fun k hk hgk =>
   ((k3.block k (Nat.lt_of_lt_of_le hk (Nat.le_trans k1.size k2.size)) (by intro e; injection e with e; omega)).trans (k2.block k (Nat.lt_of_lt_of_le hk k1.size) (by intro e; injection e with e; omega))).trans (k1.block k hk hgk)⟩
/-- slices.Insert of one object, at Kd.R. -/
theorem ins_obj (base : Nat) (ok ok2 : Nat → Prop) (w0 w : World) (v v2 : Value) (i : Nat) (l : List S71) (y : S71) (HO : Kd.R k71 71 w base ok v l) (H2 : Kd.R k71 71 w base ok2 v2 [y]) (hne : v2.ownBlock ≠ v.ownBlock) (hi : i ≤ l.length) (hl : l.length ≤ 3518437208000) (hfresh : ∀ k,w.heap.size ≤ k → ok k) (hbase : base ≤ w.heap.size) (HB : Below base w0 w) :
  Calls Try.prog 69 #[v,.int .i64 i,v2] w fun e w' => ∃ v1,e = .returned v1 ∧ Kd.R k71 71 w' base ok v1 (l.take i ++ y :: l.drop i) ∧ Below base w0 w' ∧ w.grownBy w' v.ownBlock ∧ (v1.ownBlock = v.ownBlock ∨ ∃ b,v1.ownBlock = some b ∧ w.heap.size ≤ b) := by
 obtain ⟨hok,inner,hown,hr⟩ := HO
 obtain ⟨hok2,inner2,hown2,hr2⟩ := H2
 have hil : inner.length = l.length * 3 := hr.1
 have hil2 : inner2.length = 3 := hr2.1
 obtain ⟨c0,c1,c2,rfl⟩ : ∃ c0 c1 c2,inner2 = [c0,c1,c2] := by
  match inner2,hil2 with
  | [a,b,c],_ => exact ⟨a,b,c,rfl⟩
 have hM2 : k71.M w base (fun k => ok2 k ∧ some k ≠ v2.ownBlock) y [c0,c1,c2] := hr2.2 0 y rfl
 have hone2 : ∀ u ∈ [c0,c1,c2],u.oneCell' = true := fun u hu => k71.K_one (k71.K_of_M hM2) u hu
 have hone : ∀ u ∈ inner,u.oneCell' = true := by
  intro u hu
  obtain ⟨q,hq,rfl⟩ := List.mem_iff_getElem.1 hu
  have hql : q / 3 < l.length := by omega
  have hc := hr.2 (q / 3) _ (List.getElem?_eq_getElem hql)
  refine k71.K_one (k71.K_of_M hc) _ ?_
  rw [List.mem_iff_getElem?]
  refine ⟨q % 3,?_⟩
  show ((inner.drop (q / 3 * 3)).take 3)[q % 3]? = _
  rw [List.getElem?_take,if_pos (Nat.mod_lt _ (by omega)),List.getElem?_drop,show q / 3 * 3 + q % 3 = q by omega,List.getElem?_eq_getElem hq]
 rcases hown2.2 with ⟨rfl,h0⟩ | ⟨vb,vc,cv,rfl,hbv,hv,hnv,hcv,hsv,htv⟩
 ·exact absurd h0 (by simp)
 have hv3 : ∀ (j : Nat) (u : Value),[c0,c1,c2][j]? = some u → cv[j]? = some u := fun j u hj => by
  rw [← htv,List.getElem?_take] at hj
  split at hj
  ·rwa [Array.getElem?_toList] at hj
  ·cases hj
 have key : Calls Try.prog 69 #[v,.int .i64 i,.slice (some ⟨vb,0,none⟩) 1 vc] w fun e w' => ∃ v',e = .returned v' ∧ w'.ownsRow base 71 3 v' (l.length + 1) (inner.take (i * 3) ++ [c0,c1,c2] ++ inner.drop (i * 3)) ∧ w.grownBy w' v.ownBlock ∧ (v'.ownBlock = v.ownBlock ∨ ∃ b,v'.ownBlock = some b ∧ w.heap.size ≤ b) := by
  by_cases hin : i = l.length
  ·subst hin
   refine (ins_end base w v l.length vb inner c0 c1 c2 hown hbase cv vc hv hv3 hone2 hl).mono ?_
   rintro e w' ⟨v',rfl,h1,h2,h3⟩
   refine ⟨v',rfl,?_,h2,h3.imp id (fun h => ⟨_,h,Nat.le_refl _⟩)⟩
   rw [← hil,List.take_length,List.drop_length,List.append_nil]
   exact h1
  ·have hlt : i < l.length := by omega
   rcases hown.2 with ⟨rfl,h0⟩ | ⟨g,cap,cur,rfl,hbg,hg,hnc,hcm,hcs,htake⟩
   ·omega
   ·have hvg : vb ≠ g := fun e => hne (by simp [Value.ownBlock,e])
    by_cases hroom : l.length + 1 ≤ cap
    ·refine (ins_shift base w g i l.length cap vb cur inner c0 c1 c2 hbg hg hcm hcs htake cv vc hv hv3 hvg hlt hroom hone hone2).mono ?_
     rintro e w' ⟨rfl,h1,h2⟩
     exact ⟨_,rfl,h1,h2,.inl rfl⟩
    ·obtain rfl : cap = l.length := by omega
     refine (ins_grow base w g i l.length vb cur inner c0 c1 c2 hbase hg hcs htake cv vc hv hv3 hlt hone hone2 hl).mono ?_
     rintro e w' ⟨v',rfl,h1,h2,h3⟩
     exact ⟨_,rfl,h1,h2,.inr ⟨_,h3,Nat.le_refl _⟩⟩
 refine key.mono ?_
 rintro e w' ⟨v',rfl,h1,h2,h3⟩
 refine ⟨v',rfl,⟨?_,inner.take (i * 3) ++ [c0,c1,c2] ++ inner.drop (i * 3),?_,?_⟩,?_,h2,h3⟩
 ·intro k hk
  rcases h3 with h3 | ⟨b,hb,hle⟩
  ·exact hok k (by rw [← h3]; exact hk)
  ·rw [hb] at hk
   injection hk with hk
   subst hk
   exact hfresh _ hle
 ·have e : (l.take i ++ y :: l.drop i).length = l.length + 1 := by simp; omega
  rw [e]
  exact h1
 ·refine ⟨?_,?_⟩
  ·have e : (l.take i ++ y :: l.drop i).length = l.length + 1 := by simp; omega
   rw [e]
   show (inner.take (i * 3) ++ [c0,c1,c2] ++ inner.drop (i * 3)).length = (l.length + 1) * 3
   simp only [List.length_append,List.length_take,List.length_drop,List.length_cons,List.length_nil]
   omega
  ·intro j p hj
   have hseg : ∀ (q : Nat) (x : S71),l[q]? = some x → (inner.drop (q * 3)).take 3 = [.string x.f0,.int .i64 x.f1,.string x.f2] := fun q x hq => k71_openM (hr.2 q x hq)
   have hcc := k71_openM hM2
   show k71.M w' base (fun k => ok k ∧ some k ≠ v'.ownBlock) p (((inner.take (i * 3) ++ [c0,c1,c2] ++ inner.drop (i * 3)).drop (j * 3)).take 3)
   have e : ((inner.take (i * 3) ++ [c0,c1,c2] ++ inner.drop (i * 3)).drop (j * 3)).take 3 = [.string p.f0,.int .i64 p.f1,.string p.f2] := by
    have hlt3 : (inner.take (i * 3)).length = i * 3 := by rw [List.length_take]; omega
    by_cases h1 : j < i
    ·rw [List.getElem?_append_left (by rw [List.length_take]; omega),List.getElem?_take,if_pos h1] at hj
     rw [← hseg j p hj,List.append_assoc,List.drop_append_of_le_length (by omega),List.take_append_of_le_length (by rw [List.length_drop]; omega)]
     apply List.ext_getElem?
     intro t
     rw [List.getElem?_take,List.getElem?_take,List.getElem?_drop,List.getElem?_drop,List.getElem?_take]
     by_cases ht : t < 3
     ·rw [if_pos ht,if_pos ht,if_pos (by omega)]
     ·rw [if_neg ht,if_neg ht]
    ·rw [List.getElem?_append_right (by rw [List.length_take]; omega),List.length_take] at hj
     by_cases h2 : j = i
     ·subst h2
      rw [show j - min j l.length = 0 by omega] at hj
      obtain rfl : y = p := Option.some.inj hj
      rw [List.append_assoc,List.drop_append,List.drop_eq_nil_of_le (by omega),hlt3,Nat.sub_self,List.drop_zero,List.nil_append,← hcc]
      rfl
     ·rw [show j - min i l.length = (j - i - 1) + 1 by omega,List.getElem?_cons_succ,List.getElem?_drop] at hj
      rw [← hseg _ p hj,List.drop_append,List.drop_eq_nil_of_le (by rw [List.length_append,hlt3]; show i * 3 + 3 ≤ j * 3; omega),List.nil_append,List.length_append,hlt3,List.drop_drop]
      show (inner.drop (i * 3 + (j * 3 - (i * 3 + 3)))).take 3 = _
      rw [show i * 3 + (j * 3 - (i * 3 + 3)) = (i + (j - i - 1)) * 3 by omega]
   rw [e]
   exact k71_mkM _ _ _ p
 ·exact HB.grown h2 hbase (own_base hown)
section
variable {ops : Array Oper} {rest : List Oper} {o : Oper} {a : Act} {Q : Exit → Act → World → Prop}
/-- The call slices.Insert(s, i, x), x a literal: shaped as the append's step is. -/
theorem ins_step {w0 W : World} (base : Nat) (hgd : o.guard = none) (s j x : Operand) (ho : o.op = .call { callee := .value (.func 69),args := #[s,j,x],argTypes := #[26,3,26] })
  (i : Int) (v : Value) (xs : List S71) (p : S71) (cs : List Value) (ok : Nat → Prop) (hs : a.eval s = v) (hj : a.eval j = .int .i64 i) (hi : 0 ≤ i ∧ i ≤ xs.length) (hx : a.eval x = .slice (some ⟨W.heap.size,0,none⟩) 1 1) (hp : k71.M W base (fun _ => False) p cs) (hfresh : ∀ k,W.heap.size ≤ k → ok k)
  (HO : Kd.R k71 71 W base ok v xs) (HB : Below base w0 W) (hbase : base ≤ W.heap.size) (hl : xs.length ≤ 3518437208000)
  (h : ∀ v1 w1,Kd.R k71 71 w1 base ok v1 (xs.take i.toNat ++ p :: xs.drop i.toNat) → Below base w0 w1 → W.grownBy w1 v.ownBlock → (v1.ownBlock = v.ownBlock ∨ ∃ b,v1.ownBlock = some b ∧ W.heap.size ≤ b) → wpList Try.prog ops Q rest (a.put o.dst v1) w1) :
  wpList Try.prog ops Q (o :: rest) a (W.alloc (.cells cs.toArray 71)) := by
 have hcs : cs = [.string p.f0,.int .i64 p.f1,.string p.f2] := k71_openM hp
 have hown := World.ownsRow_lit (base := base) (e:=71) (size := 3) W cs.toArray 1 hbase (by simp [maxLen]) (by rw [hcs]; rfl)
 have h2 : Kd.R k71 71 (W.alloc (.cells cs.toArray 71)) base (fun _ => True) (.slice (some ⟨W.heap.size,0,none⟩) 1 1) [p] := by
  refine ⟨fun _ _ => trivial,cs,(by show (W.alloc (.cells cs.toArray 71)).ownsRow base 71 3 _ 1 cs; simpa using hown),by rw [hcs]; rfl,fun j q hq => ?_⟩
  have hj0 : j = 0 := by have := (List.getElem?_eq_some_iff.1 hq).1; simpa using this
  subst hj0
  obtain rfl : p = q := Option.some.inj hq
  rw [hcs]
  exact k71_mkM _ _ _ p
 have hsz : (W.alloc (.cells cs.toArray 71)).heap.size = W.heap.size + 1 := by simp
 have hne : (Value.slice (some ⟨W.heap.size,0,none⟩) 1 1).ownBlock ≠ v.ownBlock := fun e => by
  have := Kd.R_lt HO W.heap.size (by rw [← e]; simp [Value.ownBlock])
  omega
 have hc := ins_obj base ok (fun _ => True) w0 (W.alloc (.cells cs.toArray 71)) v (.slice (some ⟨W.heap.size,0,none⟩) 1 1) i.toNat xs p (Kd.R_alloc HO _) h2 hne (by omega) hl (fun k hk => hfresh k (by omega)) (by omega) (HB.alloc hbase _)
 rw [Int.toNat_of_nonneg hi.1] at hc
 refine goesL_ o.dst rfl hgd Try.func69 (by kernel_rfl) rfl _ ho (by simp [hs,hj,hx]; rfl) ?_
 refine hc.mono ?_
 rintro e w' ⟨v1,rfl,q1,q2,q3,q4⟩
 refine ⟨v1,rfl,h v1 w' q1 q2 ⟨q3.os,q3.tape,q3.output,by have := q3.size; omega,fun k hk hkn => (q3.block k (by omega) hkn).trans ?_⟩ ?_⟩
 ·exact (below_alloc (Below.refl W.heap.size W) _).block k hk
 ·rcases q4 with q4 | ⟨b,hb,hle⟩
  ·exact .inl q4
  ·exact .inr ⟨b,hb,by omega⟩
end

end Go.Proofs.Ytbodkbaniebfaaa.XFnExactPutVersion
