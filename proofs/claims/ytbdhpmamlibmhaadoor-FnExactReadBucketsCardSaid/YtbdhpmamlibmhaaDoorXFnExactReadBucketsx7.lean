-- Printed by this session's own program wip/tools/xprint.py, which widens the kit's print. Not trusted: Lean checks it.
import Derived.Test.YtbdhpmamlibmhaaDoorXFnExactReadBucketsx0
import Derived.Test.YtbdhpmamlibmhaaDoorXFnExactReadBucketsx6
namespace Go.Proofs.YtbdhpmamlibmhaaDoor.XFnExactReadBuckets
open List (setIfInBounds_toArray set_cons_zero set_cons_succ)
open Go.RowKit Go.Proofs.YtbdhpmamlibmhaaDoorW.PrintWords Go.Proofs.YtbdhpmamlibmhaaDoorW.PrintLast Go.Proofs.YtbdhpmamlibmhaaDoorW.PrintMore
attribute [local go_sem] max2_int min2_int max_two min_two max_three min_three max_four min_four   -- for this text's walks alone
set_option linter.unusedVariables false
set_option linter.unusedSimpArgs false

/-! ### impl_readAgg: function 67 -/
def impl_readAgg.f (k : Nat) (a0 : ByteArray) : Option (Int × Int × Int × Int × Int × Int × Bool) := (impl_numbers.f k a0 (⟨#[44]⟩ : ByteArray) 6).bind fun bt233 => (if bt233.2 = true then (if 0 < (bt233.1.length : Int) then (if 1 < (bt233.1.length : Int) then (if 2 < (bt233.1.length : Int) then (if 3 < (bt233.1.length : Int) then (if 4 < (bt233.1.length : Int) then (if 5 < (bt233.1.length : Int) then ((impl_AggOK.f (rd bt233.1 0) (rd bt233.1 1) (rd bt233.1 2) (rd bt233.1 3) (rd bt233.1 4) (rd bt233.1 5)).bind fun t244 => (some (rd bt233.1 0,rd bt233.1 1,rd bt233.1 2,rd bt233.1 3,rd bt233.1 4,rd bt233.1 5,t244))) else (none)) else (none)) else (none)) else (none)) else (none)) else (none)) else (some (0,0,0,0,0,0,false)))
theorem impl_readAgg.mono : ∀ a0 k,LeO (impl_readAgg.f k a0) (impl_readAgg.f (k + 1) a0) := by
 intro a0 k
 unfold impl_readAgg.f
 repeat' first
   | (with_reducible exact impl_numbers.mono _ _ _ _)
   | (with_reducible exact LeO.refl _)
   | (with_reducible exact LeO.none _)
   | (with_reducible refine LeO.ite ?_ ?_)
   | (with_reducible refine LeO.bind ?_ (fun _ => ?_))
   | exact impl_numbers.mono _ _ _ _
   | exact LeO.none _
   | refine LeO.ite ?_ ?_
   | refine LeO.bind ?_ (fun _ => ?_)
def impl_readAgg.T4 : Bool × List (List Nat × List Nat) := (true,[([],[]),([0],[0]),([1],[1]),([],[]),([3],[3]),([4],[4]),([],[]),([6],[6]),([7],[7]),([],[]),([9],[9]),([10],[10]),([],[]),([12],[12]),([13],[13]),([],[]),([15],[15]),([16],[16]),([2,5,8,11,14,17],[2,5,8,11,14,17]),([],[]),([19,18,0,1,2,3,4,5,6,7,8,9,10,11,12,13,14,15,16,17,18,19],[18,19])])
def impl_readAgg.B4 : List Nat := [0,1,3,0,8,24,0,64,192,0,512,1536,0,4096,12288,0,32768,98304,262143,0,1048575]
theorem impl_readAgg.tab4 : rtab .any (opsOf Tryd.f67 4) = impl_readAgg.T4 := by kernel_rfl
theorem impl_readAgg.bits4 : waitsOk impl_readAgg.T4.2 impl_readAgg.B4 = true := by kernel_rfl
set_option maxHeartbeats 8000000 in
set_option maxRecDepth 100000 in
theorem impl_readAgg.calls (k : Nat) (a0 : ByteArray) (r1 : Int) (r2 : Int) (r3 : Int) (r4 : Int) (r5 : Int) (r6 : Int) (r7 : Bool) (w : World) (hV : Vars w) (h : impl_readAgg.f k a0 = some (r1,r2,r3,r4,r5,r6,r7)) :
  Calls Tryd.prog 67 #[.string a0] w fun e w' => e = .returned (.tuple #[.agg #[.int .i64 r1,.int .i64 r2,.int .i64 r3,.int .i64 r4,.int .i64 r5,.int .i64 r6],.bool r7]) ∧ Below w.heap.size w w' := by
 have hu38 := Tryd.underlying38
 have HV := Aside0.mk hV
 clear hV
 have HB := Aside0.mk (Below.refl w.heap.size w)
 have H : ((impl_numbers.f k a0 (⟨#[44]⟩ : ByteArray) 6).bind fun bt233 => (if bt233.2 = true then (if 0 < (bt233.1.length : Int) then (if 1 < (bt233.1.length : Int) then (if 2 < (bt233.1.length : Int) then (if 3 < (bt233.1.length : Int) then (if 4 < (bt233.1.length : Int) then (if 5 < (bt233.1.length : Int) then ((impl_AggOK.f (rd bt233.1 0) (rd bt233.1 1) (rd bt233.1 2) (rd bt233.1 3) (rd bt233.1 4) (rd bt233.1 5)).bind fun t244 => (some (rd bt233.1 0,rd bt233.1 1,rd bt233.1 2,rd bt233.1 3,rd bt233.1 4,rd bt233.1 5,t244))) else (none)) else (none)) else (none)) else (none)) else (none)) else (none)) else (some (0,0,0,0,0,0,false)))) = some (r1,r2,r3,r4,r5,r6,r7) := h
 clear h
 replace H := Option.bind_eq_some_iff.mp H
 obtain ⟨⟨t233,t234⟩,A20,H⟩ := H
 replace H : (if t234 = true then (if 0 < (t233.length : Int) then (if 1 < (t233.length : Int) then (if 2 < (t233.length : Int) then (if 3 < (t233.length : Int) then (if 4 < (t233.length : Int) then (if 5 < (t233.length : Int) then ((impl_AggOK.f (rd t233 0) (rd t233 1) (rd t233 2) (rd t233 3) (rd t233 4) (rd t233 5)).bind fun t244 => (some (rd t233 0,rd t233 1,rd t233 2,rd t233 3,rd t233 4,rd t233 5,t244))) else (none)) else (none)) else (none)) else (none)) else (none)) else (none)) else (some (0,0,0,0,0,0,false))) = some (r1,r2,r3,r4,r5,r6,r7) := H
 have A2 := Aside0.mk A20
 clear A20
 by_cases c3 : t234 = true
 ·subst c3
  have H1 : (if 0 < (t233.length : Int) then (if 1 < (t233.length : Int) then (if 2 < (t233.length : Int) then (if 3 < (t233.length : Int) then (if 4 < (t233.length : Int) then (if 5 < (t233.length : Int) then ((impl_AggOK.f (rd t233 0) (rd t233 1) (rd t233 2) (rd t233 3) (rd t233 4) (rd t233 5)).bind fun t244 => (some (rd t233 0,rd t233 1,rd t233 2,rd t233 3,rd t233 4,rd t233 5,t244))) else (none)) else (none)) else (none)) else (none)) else (none)) else (none)) = some (r1,r2,r3,r4,r5,r6,r7) := by rw [if_pos rfl] at H; exact H
  clear H
  have H := H1
  clear H1
  by_cases c4 : 0 < (t233.length : Int)
  ·rw [if_pos c4] at H
   have c4b0 : decide (0 < (t233.length : Int)) = true := decide_eq_true c4
   have c4b1 : decide (0 < t233.length) = true := decide_eq_true (by omega)
   clear c4
   by_cases c5 : 1 < (t233.length : Int)
   ·rw [if_pos c5] at H
    have c5b0 : decide (1 < (t233.length : Int)) = true := decide_eq_true c5
    have c5b1 : decide (1 < t233.length) = true := decide_eq_true (by omega)
    clear c5
    by_cases c6 : 2 < (t233.length : Int)
    ·rw [if_pos c6] at H
     have c6b0 : decide (2 < (t233.length : Int)) = true := decide_eq_true c6
     have c6b1 : decide (2 < t233.length) = true := decide_eq_true (by omega)
     clear c6
     by_cases c7 : 3 < (t233.length : Int)
     ·rw [if_pos c7] at H
      have c7b0 : decide (3 < (t233.length : Int)) = true := decide_eq_true c7
      have c7b1 : decide (3 < t233.length) = true := decide_eq_true (by omega)
      clear c7
      by_cases c8 : 4 < (t233.length : Int)
      ·rw [if_pos c8] at H
       have c8b0 : decide (4 < (t233.length : Int)) = true := decide_eq_true c8
       have c8b1 : decide (4 < t233.length) = true := decide_eq_true (by omega)
       clear c8
       by_cases c9 : 5 < (t233.length : Int)
       ·rw [if_pos c9] at H
        have c9b0 : decide (5 < (t233.length : Int)) = true := decide_eq_true c9
        have c9b1 : decide (5 < t233.length) = true := decide_eq_true (by omega)
        clear c9
        replace H := Option.bind_eq_some_iff.mp H
        obtain ⟨t244,A100,H⟩ := H
        replace H : (some (rd t233 0,rd t233 1,rd t233 2,rd t233 3,rd t233 4,rd t233 5,t244)) = some (r1,r2,r3,r4,r5,r6,r7) := H
        have A10 := Aside0.mk A100
        clear A100
        simp only [Option.some.injEq,Prod.mk.injEq] at H
        obtain ⟨rfl,rfl,rfl,rfl,rfl,rfl,rfl⟩ := H
        go_enter Tryd.func67,Tryd.ntmps67
        try go_wp2_with (first | ((with_reducible refine gate_dst (N:=2) rfl ?_); refine box_event ?hg (N:=2) ?hd (cs := #[.int .i64 0,.int .i64 0,.int .i64 0,.int .i64 0,.int .i64 0,.int .i64 0]) (t:=38) ?hr ?_; (case hd => rfl); (case hg => rfl); (case hr => first | (go_simp; done) | (go_simp; rfl)); intro gb232 hg w11 hbox hb; have n0_ := Aside0.mk (below_step (by repeat (first | (with_reducible first | exact HB.out | apply below_alloc | apply pw_below_drewN | apply below_drew1) | exact HB.out)) hb); have n1_ := Aside0.mk (hbox); have n2_ := Aside0.mk ((by rw [hg]; exact (below_size (by repeat (first | (with_reducible first | exact HB.out | apply below_alloc | apply pw_below_drewN | apply below_drew1) | exact HB.out))) : w.heap.size ≤ gb232)); have n3_ := Aside0.mk ((by rw [hg]; exact (below_size (by repeat (first | (with_reducible first | exact HB.out | apply below_alloc | apply pw_below_drewN | apply below_drew1) | exact HB.out))) : w.heap.size ≤ gb232)); clear HB; have HB := n0_; have BK232 := n1_; have GW232 := n2_; have GE232 := n3_; clear n0_ n1_ n2_ n3_; clear hb hbox hg) | ((with_reducible refine gate_callee (f:=102) rfl ?_); refine goesL_ (some 9) rfl rfl Tryd.func102 (by kernel_rfl) rfl #[.string a0,.string (⟨#[44]⟩ : ByteArray),.int .i64 6] rfl (by (try simp only [List.map_toArray,List.map_cons,List.map_nil]); first | done | rfl | (simp only [List.length_drop,List.length_take]; rfl)) ?_; (with_reducible refine (impl_numbers.calls k a0 (⟨#[44]⟩ : ByteArray) 6 t233 true _ ?side1 A2.out).mono ?_); (case side1 => exact HV.out.below (by repeat (first | (with_reducible first | exact HB.out | apply below_alloc | apply pw_below_drewN | apply below_drew1 | refine below_set ?_ GE232.out) | exact HB.out))); rintro e w12 ⟨v235,rfl,ho0,hb⟩; refine ⟨_,rfl,?_⟩; have n0_ := Aside0.mk (Kd.R_lower ho0 (below_size (by repeat (first | (with_reducible first | exact HB.out | apply below_alloc | apply pw_below_drewN | apply below_drew1 | refine below_set ?_ GE232.out) | exact HB.out)))); have n1_ := Aside0.mk (blk_below (g:=gb232) (o:=.cells #[.int .i64 0,.int .i64 0,.int .i64 0,.int .i64 0,.int .i64 0,.int .i64 0] 38 (0,0)) (by (with_reducible repeat (first | refine blk_drewN ?_ _ | refine blk_drew ?_ | refine blk_alloc ?_ _)); exact BK232.out) hb); have n2_ := Aside0.mk (below_step (by repeat (first | (with_reducible first | exact HB.out | apply below_alloc | apply pw_below_drewN | apply below_drew1 | refine below_set ?_ GE232.out) | exact HB.out)) hb); clear BK232; clear HB; have HO236 := n0_; have BK232 := n1_; have HB := n2_; clear n0_ n1_ n2_; (try clear hb); (try clear hb2); (try clear hk); (try clear hi); (try clear ho0)))
        have n0_ := Aside0.mk (Kd.R_drew HO236.out)
        have n1_ := Aside0.mk (blk_drew BK232.out)
        have n2_ := Aside0.mk (below_drew1 HB.out)
        clear HO236
        clear BK232
        clear HB
        have HO236 := n0_
        have BK232 := n1_
        have HB := n2_
        clear n0_ n1_ n2_
        obtain ⟨Ao14,co14,eo14⟩ := Kd.R_slice HO236.out
        (first | subst eo14 | (injection eo14 with f1_ f2_ f3_; have f4_ := f1_.symm; have f5_ := f3_.symm; clear f1_ f2_ f3_; subst f4_; subst f5_))
        have p237 : 0 ≤ (0 : Int) := (by omega)
        have q237 : 0 < (t233.length : Int) := of_decide_eq_true (by first | (with_reducible assumption) | assumption)
        obtain ⟨ad237,e237,hx237_0⟩ := Kd.at_int (Kd.R_reads' HO236.out).2.2 0 p237 q237
        cases e237
        have qi237 : (0 < t233.length) = True := eq_true (by omega)
        (try rw [show ((0 : Int)).toNat = 0 from rfl] at hx237_0)
        (try rw [Addr.add_zero'] at hx237_0)
        replace p237 := eq_true p237
        replace q237 := eq_true q237
        have p238 : 0 ≤ (1 : Int) := (by omega)
        have q238 : 1 < (t233.length : Int) := of_decide_eq_true (by first | (with_reducible assumption) | assumption)
        obtain ⟨ad238,e238,hx238_0⟩ := Kd.at_int (Kd.R_reads' HO236.out).2.2 1 p238 q238
        obtain rfl : ad237 = ad238 := (by injection e238)
        (try simp only [show (1 : Int).toNat = 1 from rfl,Nat.reduceMul,Nat.reduceEqDiff,Go.Addr.add,↓reduceIte] at hx238_0)
        have qi238 : (1 < t233.length) = True := eq_true (by omega)
        (try rw [show ((1 : Int)).toNat = 1 from rfl] at hx238_0)
        replace p238 := eq_true p238
        replace q238 := eq_true q238
        have p239 : 0 ≤ (2 : Int) := (by omega)
        have q239 : 2 < (t233.length : Int) := of_decide_eq_true (by first | (with_reducible assumption) | assumption)
        obtain ⟨ad239,e239,hx239_0⟩ := Kd.at_int (Kd.R_reads' HO236.out).2.2 2 p239 q239
        obtain rfl : ad237 = ad239 := (by injection e239)
        (try simp only [show (2 : Int).toNat = 2 from rfl,Nat.reduceMul,Nat.reduceEqDiff,Go.Addr.add,↓reduceIte] at hx239_0)
        have qi239 : (2 < t233.length) = True := eq_true (by omega)
        (try rw [show ((2 : Int)).toNat = 2 from rfl] at hx239_0)
        replace p239 := eq_true p239
        replace q239 := eq_true q239
        have p240 : 0 ≤ (3 : Int) := (by omega)
        have q240 : 3 < (t233.length : Int) := of_decide_eq_true (by first | (with_reducible assumption) | assumption)
        obtain ⟨ad240,e240,hx240_0⟩ := Kd.at_int (Kd.R_reads' HO236.out).2.2 3 p240 q240
        obtain rfl : ad237 = ad240 := (by injection e240)
        (try simp only [show (3 : Int).toNat = 3 from rfl,Nat.reduceMul,Nat.reduceEqDiff,Go.Addr.add,↓reduceIte] at hx240_0)
        have qi240 : (3 < t233.length) = True := eq_true (by omega)
        (try rw [show ((3 : Int)).toNat = 3 from rfl] at hx240_0)
        replace p240 := eq_true p240
        replace q240 := eq_true q240
        have p241 : 0 ≤ (4 : Int) := (by omega)
        have q241 : 4 < (t233.length : Int) := of_decide_eq_true (by first | (with_reducible assumption) | assumption)
        obtain ⟨ad241,e241,hx241_0⟩ := Kd.at_int (Kd.R_reads' HO236.out).2.2 4 p241 q241
        obtain rfl : ad237 = ad241 := (by injection e241)
        (try simp only [show (4 : Int).toNat = 4 from rfl,Nat.reduceMul,Nat.reduceEqDiff,Go.Addr.add,↓reduceIte] at hx241_0)
        have qi241 : (4 < t233.length) = True := eq_true (by omega)
        (try rw [show ((4 : Int)).toNat = 4 from rfl] at hx241_0)
        replace p241 := eq_true p241
        replace q241 := eq_true q241
        have p242 : 0 ≤ (5 : Int) := (by omega)
        have q242 : 5 < (t233.length : Int) := of_decide_eq_true (by first | (with_reducible assumption) | assumption)
        obtain ⟨ad242,e242,hx242_0⟩ := Kd.at_int (Kd.R_reads' HO236.out).2.2 5 p242 q242
        obtain rfl : ad237 = ad242 := (by injection e242)
        (try simp only [show (5 : Int).toNat = 5 from rfl,Nat.reduceMul,Nat.reduceEqDiff,Go.Addr.add,↓reduceIte] at hx242_0)
        have qi242 : (5 < t233.length) = True := eq_true (by omega)
        (try rw [show ((5 : Int)).toNat = 5 from rfl] at hx242_0)
        replace p242 := eq_true p242
        replace q242 := eq_true q242
        refine start_ (n:=21) (S:=fun w' => w'.cell? ad237 = some (.int .i64 (rd t233 0)) ∧ w'.cell? ⟨ad237.block,ad237.off + 1,none⟩ = some (.int .i64 (rd t233 1)) ∧ w'.cell? ⟨ad237.block,ad237.off + 2,none⟩ = some (.int .i64 (rd t233 2)) ∧ w'.cell? ⟨ad237.block,ad237.off + 3,none⟩ = some (.int .i64 (rd t233 3)) ∧ w'.cell? ⟨ad237.block,ad237.off + 4,none⟩ = some (.int .i64 (rd t233 4)) ∧ w'.cell? ⟨ad237.block,ad237.off + 5,none⟩ = some (.int .i64 (rd t233 5))) (ds := []) #[F,F,F,F,F,F,F,F,F,F,F,F,F,F,F,F,F,F,F,F,F] (by kernel_rfl) rfl rfl ⟨hx237_0,hx238_0,hx239_0,hx240_0,hx241_0,hx242_0⟩ (fun hHeld => ?_); refine with_tabW impl_readAgg.tab4 impl_readAgg.bits4 (fun HT_ HW_ => ?_)
        generalize w12.drew = w13 at HO236 BK232 HB hx237_0 hx238_0 hx239_0 hx240_0 hx241_0 hx242_0 hHeld ⊢
        refine pure_ (i:=0) (N:=some 15) (v:=?_) (a':=?_) #[T,F,F,F,F,F,F,F,F,F,F,F,F,F,F,F,F,F,F,F,F] rfl rfl (any_of HT_.out (by kernel_rfl)) (fun _ _ _ h => h) (Or.inl ⟨by rfl,?_⟩) ?_ ?_
        rotate_left
        ·intro w'
         go_simp
         with_reducible rfl
        rotate_left
        ·simp only [Act.put,setIfInBounds_toArray,set_cons_zero,set_cons_succ,i64_w,i32_w]
         rfl
        refine pure_ (i:=1) (N:=some 16) (v:=?_) (a':=?_) #[T,T,F,F,F,F,F,F,F,F,F,F,F,F,F,F,F,F,F,F,F] rfl rfl (any_of HT_.out (by kernel_rfl)) (fun _ _ _ h => h) (Or.inl ⟨by rfl,?_⟩) ?_ ?_
        rotate_left
        ·intro w'
         go_simp
         with_reducible rfl
        rotate_left
        ·simp only [Act.put,setIfInBounds_toArray,set_cons_zero,set_cons_succ,i64_w,i32_w]
         rfl
        refine pure_ (i:=3) (N:=some 18) (v:=?_) (a':=?_) #[T,T,F,T,F,F,F,F,F,F,F,F,F,F,F,F,F,F,F,F,F] rfl rfl (any_of HT_.out (by kernel_rfl)) (fun _ _ _ h => h) (Or.inl ⟨by rfl,?_⟩) ?_ ?_
        rotate_left
        ·intro w'
         go_simp
         with_reducible rfl
        rotate_left
        ·simp only [Act.put,setIfInBounds_toArray,set_cons_zero,set_cons_succ,i64_w,i32_w]
         rfl
        refine pure_ (i:=4) (N:=some 19) (v:=?_) (a':=?_) #[T,T,F,T,T,F,F,F,F,F,F,F,F,F,F,F,F,F,F,F,F] rfl rfl (any_of HT_.out (by kernel_rfl)) (fun _ _ _ h => h) (Or.inl ⟨by rfl,?_⟩) ?_ ?_
        rotate_left
        ·intro w'
         go_simp
         with_reducible rfl
        rotate_left
        ·simp only [Act.put,setIfInBounds_toArray,set_cons_zero,set_cons_succ,i64_w,i32_w]
         rfl
        refine pure_ (i:=6) (N:=some 21) (v:=?_) (a':=?_) #[T,T,F,T,T,F,T,F,F,F,F,F,F,F,F,F,F,F,F,F,F] rfl rfl (any_of HT_.out (by kernel_rfl)) (fun _ _ _ h => h) (Or.inl ⟨by rfl,?_⟩) ?_ ?_
        rotate_left
        ·intro w'
         go_simp
         with_reducible rfl
        rotate_left
        ·simp only [Act.put,setIfInBounds_toArray,set_cons_zero,set_cons_succ,i64_w,i32_w]
         rfl
        refine pure_ (i:=7) (N:=some 22) (v:=?_) (a':=?_) #[T,T,F,T,T,F,T,T,F,F,F,F,F,F,F,F,F,F,F,F,F] rfl rfl (any_of HT_.out (by kernel_rfl)) (fun _ _ _ h => h) (Or.inl ⟨by rfl,?_⟩) ?_ ?_
        rotate_left
        ·intro w'
         go_simp
         with_reducible rfl
        rotate_left
        ·simp only [Act.put,setIfInBounds_toArray,set_cons_zero,set_cons_succ,i64_w,i32_w]
         rfl
        refine pure_ (i:=9) (N:=some 24) (v:=?_) (a':=?_) #[T,T,F,T,T,F,T,T,F,T,F,F,F,F,F,F,F,F,F,F,F] rfl rfl (any_of HT_.out (by kernel_rfl)) (fun _ _ _ h => h) (Or.inl ⟨by rfl,?_⟩) ?_ ?_
        rotate_left
        ·intro w'
         go_simp
         with_reducible rfl
        rotate_left
        ·simp only [Act.put,setIfInBounds_toArray,set_cons_zero,set_cons_succ,i64_w,i32_w]
         rfl
        refine pure_ (i:=10) (N:=some 25) (v:=?_) (a':=?_) #[T,T,F,T,T,F,T,T,F,T,T,F,F,F,F,F,F,F,F,F,F] rfl rfl (any_of HT_.out (by kernel_rfl)) (fun _ _ _ h => h) (Or.inl ⟨by rfl,?_⟩) ?_ ?_
        rotate_left
        ·intro w'
         go_simp
         with_reducible rfl
        rotate_left
        ·simp only [Act.put,setIfInBounds_toArray,set_cons_zero,set_cons_succ,i64_w,i32_w]
         rfl
        refine pure_ (i:=12) (N:=some 27) (v:=?_) (a':=?_) #[T,T,F,T,T,F,T,T,F,T,T,F,T,F,F,F,F,F,F,F,F] rfl rfl (any_of HT_.out (by kernel_rfl)) (fun _ _ _ h => h) (Or.inl ⟨by rfl,?_⟩) ?_ ?_
        rotate_left
        ·intro w'
         go_simp
         with_reducible rfl
        rotate_left
        ·simp only [Act.put,setIfInBounds_toArray,set_cons_zero,set_cons_succ,i64_w,i32_w]
         rfl
        refine pure_ (i:=13) (N:=some 28) (v:=?_) (a':=?_) #[T,T,F,T,T,F,T,T,F,T,T,F,T,T,F,F,F,F,F,F,F] rfl rfl (any_of HT_.out (by kernel_rfl)) (fun _ _ _ h => h) (Or.inl ⟨by rfl,?_⟩) ?_ ?_
        rotate_left
        ·intro w'
         go_simp
         with_reducible rfl
        rotate_left
        ·simp only [Act.put,setIfInBounds_toArray,set_cons_zero,set_cons_succ,i64_w,i32_w]
         rfl
        refine pure_ (i:=15) (N:=some 30) (v:=?_) (a':=?_) #[T,T,F,T,T,F,T,T,F,T,T,F,T,T,F,T,F,F,F,F,F] rfl rfl (any_of HT_.out (by kernel_rfl)) (fun _ _ _ h => h) (Or.inl ⟨by rfl,?_⟩) ?_ ?_
        rotate_left
        ·intro w'
         go_simp
         with_reducible rfl
        rotate_left
        ·simp only [Act.put,setIfInBounds_toArray,set_cons_zero,set_cons_succ,i64_w,i32_w]
         rfl
        refine pure_ (i:=16) (N:=some 31) (v:=?_) (a':=?_) #[T,T,F,T,T,F,T,T,F,T,T,F,T,T,F,T,T,F,F,F,F] rfl rfl (any_of HT_.out (by kernel_rfl)) (fun _ _ _ h => h) (Or.inl ⟨by rfl,?_⟩) ?_ ?_
        rotate_left
        ·intro w'
         go_simp
         with_reducible rfl
        rotate_left
        ·simp only [Act.put,setIfInBounds_toArray,set_cons_zero,set_cons_succ,i64_w,i32_w]
         rfl
        refine take_ (i:=2) (N:=some 17) (v:=?_) (a':=?_) #[T,T,T,T,T,F,T,T,F,T,T,F,T,T,F,T,T,F,F,F,F] rfl rfl (take_ofW HT_.out HW_.out (by kernel_rfl)) (fun _ _ _ h => h) (Or.inl ⟨by rfl,?_⟩) hHeld ?_ ?_
        rotate_left
        ·rintro w' ⟨s0,s1,s2,s3,s4,s5⟩
         go_simp
         with_reducible rfl
        rotate_left
        ·simp only [Act.put,setIfInBounds_toArray,set_cons_zero,set_cons_succ,i64_w,i32_w]
         rfl
        refine take_ (i:=5) (N:=some 20) (v:=?_) (a':=?_) #[T,T,T,T,T,T,T,T,F,T,T,F,T,T,F,T,T,F,F,F,F] rfl rfl (take_ofW HT_.out HW_.out (by kernel_rfl)) (fun _ _ _ h => h) (Or.inl ⟨by rfl,?_⟩) hHeld ?_ ?_
        rotate_left
        ·rintro w' ⟨s0,s1,s2,s3,s4,s5⟩
         go_simp
         with_reducible rfl
        rotate_left
        ·simp only [Act.put,setIfInBounds_toArray,set_cons_zero,set_cons_succ,i64_w,i32_w]
         rfl
        refine take_ (i:=8) (N:=some 23) (v:=?_) (a':=?_) #[T,T,T,T,T,T,T,T,T,T,T,F,T,T,F,T,T,F,F,F,F] rfl rfl (take_ofW HT_.out HW_.out (by kernel_rfl)) (fun _ _ _ h => h) (Or.inl ⟨by rfl,?_⟩) hHeld ?_ ?_
        rotate_left
        ·rintro w' ⟨s0,s1,s2,s3,s4,s5⟩
         go_simp
         with_reducible rfl
        rotate_left
        ·simp only [Act.put,setIfInBounds_toArray,set_cons_zero,set_cons_succ,i64_w,i32_w]
         rfl
        refine take_ (i:=11) (N:=some 26) (v:=?_) (a':=?_) #[T,T,T,T,T,T,T,T,T,T,T,T,T,T,F,T,T,F,F,F,F] rfl rfl (take_ofW HT_.out HW_.out (by kernel_rfl)) (fun _ _ _ h => h) (Or.inl ⟨by rfl,?_⟩) hHeld ?_ ?_
        rotate_left
        ·rintro w' ⟨s0,s1,s2,s3,s4,s5⟩
         go_simp
         with_reducible rfl
        rotate_left
        ·simp only [Act.put,setIfInBounds_toArray,set_cons_zero,set_cons_succ,i64_w,i32_w]
         rfl
        refine take_ (i:=14) (N:=some 29) (v:=?_) (a':=?_) #[T,T,T,T,T,T,T,T,T,T,T,T,T,T,T,T,T,F,F,F,F] rfl rfl (take_ofW HT_.out HW_.out (by kernel_rfl)) (fun _ _ _ h => h) (Or.inl ⟨by rfl,?_⟩) hHeld ?_ ?_
        rotate_left
        ·rintro w' ⟨s0,s1,s2,s3,s4,s5⟩
         go_simp
         with_reducible rfl
        rotate_left
        ·simp only [Act.put,setIfInBounds_toArray,set_cons_zero,set_cons_succ,i64_w,i32_w]
         rfl
        refine take_ (i:=17) (N:=some 32) (v:=?_) (a':=?_) #[T,T,T,T,T,T,T,T,T,T,T,T,T,T,T,T,T,T,F,F,F] rfl rfl (take_ofW HT_.out HW_.out (by kernel_rfl)) (fun _ _ _ h => h) (Or.inl ⟨by rfl,?_⟩) hHeld ?_ ?_
        rotate_left
        ·rintro w' ⟨s0,s1,s2,s3,s4,s5⟩
         go_simp
         with_reducible rfl
        rotate_left
        ·simp only [Act.put,setIfInBounds_toArray,set_cons_zero,set_cons_succ,i64_w,i32_w]
         rfl
        refine pure_ (i:=18) (N:=some 33) (v:=?_) (a':=?_) #[T,T,T,T,T,T,T,T,T,T,T,T,T,T,T,T,T,T,T,F,F] rfl rfl (any_of HT_.out (by kernel_rfl)) (fun _ _ _ h => h) (Or.inl ⟨by rfl,?_⟩) ?_ ?_
        rotate_left
        ·intro w'
         go_simp
         with_reducible rfl
        rotate_left
        ·simp only [Act.put,setIfInBounds_toArray,set_cons_zero,set_cons_succ,i64_w,i32_w]
         rfl
        refine one_ (i:=19) (N:=some 6) #[T,T,T,T,T,T,T,T,T,T,T,T,T,T,T,T,T,T,T,T,F] rfl rfl (one_of HT_.out (by kernel_rfl)) (by decide) (fun K hK => ?_)
        refine box_step ?hg (N:=6) ?hd (cs := #[.int .i64 0,.int .i64 0,.int .i64 0,.int .i64 0,.int .i64 0,.int .i64 0]) (t:=38) ?hr ?_; (case hd => rfl); (case hg => rfl); (case hr => first | (go_simp; done) | (go_simp; rfl))
        intro gb243 hg w15 hbox hb
        have HS0_ := (hb.cell (bl_ _ _ (hHeld.1))).trans (hHeld.1)
        have HS1_ := (hb.cell (bl_ _ _ (hHeld.2.1))).trans (hHeld.2.1)
        have HS2_ := (hb.cell (bl_ _ _ (hHeld.2.2.1))).trans (hHeld.2.2.1)
        have HS3_ := (hb.cell (bl_ _ _ (hHeld.2.2.2.1))).trans (hHeld.2.2.2.1)
        have HS4_ := (hb.cell (bl_ _ _ (hHeld.2.2.2.2.1))).trans (hHeld.2.2.2.2.1)
        have HS5_ := (hb.cell (bl_ _ _ (hHeld.2.2.2.2.2))).trans (hHeld.2.2.2.2.2)
        have n0_ := Aside0.mk (Kd.R_below (by (with_reducible repeat (first | apply Kd.R_alloc | apply Kd.R_drewN | apply Kd.R_drew)); exact HO236.out) hb)
        have n1_ := Aside0.mk (blk_below (g:=gb232) (o:=.cells #[.int .i64 0,.int .i64 0,.int .i64 0,.int .i64 0,.int .i64 0,.int .i64 0] 38 (0,0)) (by (with_reducible repeat (first | refine blk_drewN ?_ _ | refine blk_drew ?_ | refine blk_alloc ?_ _)); exact BK232.out) hb)
        have n2_ := Aside0.mk (below_step (by repeat (first | (with_reducible first | exact HB.out | apply below_alloc | apply pw_below_drewN | apply below_drew1 | refine below_set ?_ GE232.out) | exact HB.out)) hb)
        have n3_ := Aside0.mk (hbox)
        have n4_ := Aside0.mk ((by rw [hg]; exact (below_size (by repeat (first | (with_reducible first | exact HB.out | apply below_alloc | apply pw_below_drewN | apply below_drew1 | refine below_set ?_ GE232.out) | exact HB.out))) : w.heap.size ≤ gb243))
        have n5_ := Aside0.mk ((by rw [hg]; exact (below_size (by repeat (first | (with_reducible first | exact HB.out | apply below_alloc | apply pw_below_drewN | apply below_drew1 | refine below_set ?_ GE232.out) | exact HB.out))) : w.heap.size ≤ gb243))
        have n6_ := Aside0.mk ((by rw [hg]; exact Nat.ne_of_lt (blk_lt (g:=gb232) (o:=.cells #[.int .i64 0,.int .i64 0,.int .i64 0,.int .i64 0,.int .i64 0,.int .i64 0] 38 (0,0)) (by (with_reducible repeat (first | refine blk_drewN ?_ _ | refine blk_drew ?_ | refine blk_alloc ?_ _)); exact BK232.out)) : gb232 ≠ gb243))
        have n7_ := Aside0.mk ((by rw [hg]; exact Nat.ne_of_gt (blk_lt (g:=gb232) (o:=.cells #[.int .i64 0,.int .i64 0,.int .i64 0,.int .i64 0,.int .i64 0,.int .i64 0] 38 (0,0)) (by (with_reducible repeat (first | refine blk_drewN ?_ _ | refine blk_drew ?_ | refine blk_alloc ?_ _)); exact BK232.out)) : gb243 ≠ gb232))
        clear HO236
        clear BK232
        clear HB
        have HO236 := n0_
        have BK232 := n1_
        have HB := n2_
        have BK243 := n3_
        have GW243 := n4_
        have GE243 := n5_
        have NB232_243 := n6_
        have NB243_232 := n7_
        clear n0_ n1_ n2_ n3_ n4_ n5_ n6_ n7_
        clear hb hbox hg
        refine hK.out _ _ ⟨HS0_,HS1_,HS2_,HS3_,HS4_,HS5_⟩ (fun hHeld => ?_)
        clear hK K
        refine norm_ (a':=?_) ?_ ?_
        rotate_left
        ·show Act.put _ (some 6) _ = _
         simp only [Act.put,setIfInBounds_toArray,set_cons_zero,set_cons_succ,i64_w,i32_w]
         rfl
        refine one_ (i:=20) (N:=none) #[T,T,T,T,T,T,T,T,T,T,T,T,T,T,T,T,T,T,T,T,T] rfl rfl (one_of HT_.out (by kernel_rfl)) (by decide) (fun K hK => ?_)
        have hs16 : w15.cell? ⟨gb243,0,none⟩ = some (.int .i64 0) := (blk_cell BK243.out 0).trans rfl
        have hfs16 := blk_frozen BK243.out 0
        have hns16_0 := NB232_243.out
        have hms16_0 := NB243_232.out
        have hs17 : w15.cell? ⟨gb243,1,none⟩ = some (.int .i64 0) := (blk_cell BK243.out 1).trans rfl
        have hfs17 := blk_frozen BK243.out 1
        have hns17_0 := NB232_243.out
        have hms17_0 := NB243_232.out
        have hs18 : w15.cell? ⟨gb243,2,none⟩ = some (.int .i64 0) := (blk_cell BK243.out 2).trans rfl
        have hfs18 := blk_frozen BK243.out 2
        have hns18_0 := NB232_243.out
        have hms18_0 := NB243_232.out
        have hs19 : w15.cell? ⟨gb243,3,none⟩ = some (.int .i64 0) := (blk_cell BK243.out 3).trans rfl
        have hfs19 := blk_frozen BK243.out 3
        have hns19_0 := NB232_243.out
        have hms19_0 := NB243_232.out
        have hs20 : w15.cell? ⟨gb243,4,none⟩ = some (.int .i64 0) := (blk_cell BK243.out 4).trans rfl
        have hfs20 := blk_frozen BK243.out 4
        have hns20_0 := NB232_243.out
        have hms20_0 := NB243_232.out
        have hs21 : w15.cell? ⟨gb243,5,none⟩ = some (.int .i64 0) := (blk_cell BK243.out 5).trans rfl
        have hfs21 := blk_frozen BK243.out 5
        have hns21_0 := NB232_243.out
        have hms21_0 := NB243_232.out
        refine skip_ (w1 := ?_) (by rfl) rfl ?_ ?_
        rotate_left
        ·go_simp
         rfl
        refine hK.out _ _ ⟨((cell_far (p:=⟨gb243,_,none⟩) (by first | exact Kd.own_blk (Kd.R_ne HO236.out BK243.out (by decide)) | (rw [add_block]; exact Kd.own_blk (Kd.R_ne HO236.out BK243.out (by decide))) | (show (Addr.add _ _).block ≠ _; rw [add_block]; exact Kd.own_blk (Kd.R_ne HO236.out BK243.out (by decide))) | (dsimp only; exact Kd.own_blk (Kd.R_ne HO236.out BK243.out (by decide)))) _).trans (((cell_far (p:=⟨gb243,_,none⟩) (by first | exact Kd.own_blk (Kd.R_ne HO236.out BK243.out (by decide)) | (rw [add_block]; exact Kd.own_blk (Kd.R_ne HO236.out BK243.out (by decide))) | (show (Addr.add _ _).block ≠ _; rw [add_block]; exact Kd.own_blk (Kd.R_ne HO236.out BK243.out (by decide))) | (dsimp only; exact Kd.own_blk (Kd.R_ne HO236.out BK243.out (by decide)))) _).trans (((cell_far (p:=⟨gb243,_,none⟩) (by first | exact Kd.own_blk (Kd.R_ne HO236.out BK243.out (by decide)) | (rw [add_block]; exact Kd.own_blk (Kd.R_ne HO236.out BK243.out (by decide))) | (show (Addr.add _ _).block ≠ _; rw [add_block]; exact Kd.own_blk (Kd.R_ne HO236.out BK243.out (by decide))) | (dsimp only; exact Kd.own_blk (Kd.R_ne HO236.out BK243.out (by decide)))) _).trans (((cell_far (p:=⟨gb243,_,none⟩) (by first | exact Kd.own_blk (Kd.R_ne HO236.out BK243.out (by decide)) | (rw [add_block]; exact Kd.own_blk (Kd.R_ne HO236.out BK243.out (by decide))) | (show (Addr.add _ _).block ≠ _; rw [add_block]; exact Kd.own_blk (Kd.R_ne HO236.out BK243.out (by decide))) | (dsimp only; exact Kd.own_blk (Kd.R_ne HO236.out BK243.out (by decide)))) _).trans (((cell_far (p:=⟨gb243,_,none⟩) (by first | exact Kd.own_blk (Kd.R_ne HO236.out BK243.out (by decide)) | (rw [add_block]; exact Kd.own_blk (Kd.R_ne HO236.out BK243.out (by decide))) | (show (Addr.add _ _).block ≠ _; rw [add_block]; exact Kd.own_blk (Kd.R_ne HO236.out BK243.out (by decide))) | (dsimp only; exact Kd.own_blk (Kd.R_ne HO236.out BK243.out (by decide)))) _).trans (((cell_far (p:=⟨gb243,_,none⟩) (by first | exact Kd.own_blk (Kd.R_ne HO236.out BK243.out (by decide)) | (rw [add_block]; exact Kd.own_blk (Kd.R_ne HO236.out BK243.out (by decide))) | (show (Addr.add _ _).block ≠ _; rw [add_block]; exact Kd.own_blk (Kd.R_ne HO236.out BK243.out (by decide))) | (dsimp only; exact Kd.own_blk (Kd.R_ne HO236.out BK243.out (by decide)))) _).trans (hHeld.1)))))))))))),((cell_far (p:=⟨gb243,_,none⟩) (by first | exact Kd.own_blk (Kd.R_ne HO236.out BK243.out (by decide)) | (rw [add_block]; exact Kd.own_blk (Kd.R_ne HO236.out BK243.out (by decide))) | (show (Addr.add _ _).block ≠ _; rw [add_block]; exact Kd.own_blk (Kd.R_ne HO236.out BK243.out (by decide))) | (dsimp only; exact Kd.own_blk (Kd.R_ne HO236.out BK243.out (by decide)))) _).trans (((cell_far (p:=⟨gb243,_,none⟩) (by first | exact Kd.own_blk (Kd.R_ne HO236.out BK243.out (by decide)) | (rw [add_block]; exact Kd.own_blk (Kd.R_ne HO236.out BK243.out (by decide))) | (show (Addr.add _ _).block ≠ _; rw [add_block]; exact Kd.own_blk (Kd.R_ne HO236.out BK243.out (by decide))) | (dsimp only; exact Kd.own_blk (Kd.R_ne HO236.out BK243.out (by decide)))) _).trans (((cell_far (p:=⟨gb243,_,none⟩) (by first | exact Kd.own_blk (Kd.R_ne HO236.out BK243.out (by decide)) | (rw [add_block]; exact Kd.own_blk (Kd.R_ne HO236.out BK243.out (by decide))) | (show (Addr.add _ _).block ≠ _; rw [add_block]; exact Kd.own_blk (Kd.R_ne HO236.out BK243.out (by decide))) | (dsimp only; exact Kd.own_blk (Kd.R_ne HO236.out BK243.out (by decide)))) _).trans (((cell_far (p:=⟨gb243,_,none⟩) (by first | exact Kd.own_blk (Kd.R_ne HO236.out BK243.out (by decide)) | (rw [add_block]; exact Kd.own_blk (Kd.R_ne HO236.out BK243.out (by decide))) | (show (Addr.add _ _).block ≠ _; rw [add_block]; exact Kd.own_blk (Kd.R_ne HO236.out BK243.out (by decide))) | (dsimp only; exact Kd.own_blk (Kd.R_ne HO236.out BK243.out (by decide)))) _).trans (((cell_far (p:=⟨gb243,_,none⟩) (by first | exact Kd.own_blk (Kd.R_ne HO236.out BK243.out (by decide)) | (rw [add_block]; exact Kd.own_blk (Kd.R_ne HO236.out BK243.out (by decide))) | (show (Addr.add _ _).block ≠ _; rw [add_block]; exact Kd.own_blk (Kd.R_ne HO236.out BK243.out (by decide))) | (dsimp only; exact Kd.own_blk (Kd.R_ne HO236.out BK243.out (by decide)))) _).trans (((cell_far (p:=⟨gb243,_,none⟩) (by first | exact Kd.own_blk (Kd.R_ne HO236.out BK243.out (by decide)) | (rw [add_block]; exact Kd.own_blk (Kd.R_ne HO236.out BK243.out (by decide))) | (show (Addr.add _ _).block ≠ _; rw [add_block]; exact Kd.own_blk (Kd.R_ne HO236.out BK243.out (by decide))) | (dsimp only; exact Kd.own_blk (Kd.R_ne HO236.out BK243.out (by decide)))) _).trans (hHeld.2.1)))))))))))),((cell_far (p:=⟨gb243,_,none⟩) (by first | exact Kd.own_blk (Kd.R_ne HO236.out BK243.out (by decide)) | (rw [add_block]; exact Kd.own_blk (Kd.R_ne HO236.out BK243.out (by decide))) | (show (Addr.add _ _).block ≠ _; rw [add_block]; exact Kd.own_blk (Kd.R_ne HO236.out BK243.out (by decide))) | (dsimp only; exact Kd.own_blk (Kd.R_ne HO236.out BK243.out (by decide)))) _).trans (((cell_far (p:=⟨gb243,_,none⟩) (by first | exact Kd.own_blk (Kd.R_ne HO236.out BK243.out (by decide)) | (rw [add_block]; exact Kd.own_blk (Kd.R_ne HO236.out BK243.out (by decide))) | (show (Addr.add _ _).block ≠ _; rw [add_block]; exact Kd.own_blk (Kd.R_ne HO236.out BK243.out (by decide))) | (dsimp only; exact Kd.own_blk (Kd.R_ne HO236.out BK243.out (by decide)))) _).trans (((cell_far (p:=⟨gb243,_,none⟩) (by first | exact Kd.own_blk (Kd.R_ne HO236.out BK243.out (by decide)) | (rw [add_block]; exact Kd.own_blk (Kd.R_ne HO236.out BK243.out (by decide))) | (show (Addr.add _ _).block ≠ _; rw [add_block]; exact Kd.own_blk (Kd.R_ne HO236.out BK243.out (by decide))) | (dsimp only; exact Kd.own_blk (Kd.R_ne HO236.out BK243.out (by decide)))) _).trans (((cell_far (p:=⟨gb243,_,none⟩) (by first | exact Kd.own_blk (Kd.R_ne HO236.out BK243.out (by decide)) | (rw [add_block]; exact Kd.own_blk (Kd.R_ne HO236.out BK243.out (by decide))) | (show (Addr.add _ _).block ≠ _; rw [add_block]; exact Kd.own_blk (Kd.R_ne HO236.out BK243.out (by decide))) | (dsimp only; exact Kd.own_blk (Kd.R_ne HO236.out BK243.out (by decide)))) _).trans (((cell_far (p:=⟨gb243,_,none⟩) (by first | exact Kd.own_blk (Kd.R_ne HO236.out BK243.out (by decide)) | (rw [add_block]; exact Kd.own_blk (Kd.R_ne HO236.out BK243.out (by decide))) | (show (Addr.add _ _).block ≠ _; rw [add_block]; exact Kd.own_blk (Kd.R_ne HO236.out BK243.out (by decide))) | (dsimp only; exact Kd.own_blk (Kd.R_ne HO236.out BK243.out (by decide)))) _).trans (((cell_far (p:=⟨gb243,_,none⟩) (by first | exact Kd.own_blk (Kd.R_ne HO236.out BK243.out (by decide)) | (rw [add_block]; exact Kd.own_blk (Kd.R_ne HO236.out BK243.out (by decide))) | (show (Addr.add _ _).block ≠ _; rw [add_block]; exact Kd.own_blk (Kd.R_ne HO236.out BK243.out (by decide))) | (dsimp only; exact Kd.own_blk (Kd.R_ne HO236.out BK243.out (by decide)))) _).trans (hHeld.2.2.1)))))))))))),((cell_far (p:=⟨gb243,_,none⟩) (by first | exact Kd.own_blk (Kd.R_ne HO236.out BK243.out (by decide)) | (rw [add_block]; exact Kd.own_blk (Kd.R_ne HO236.out BK243.out (by decide))) | (show (Addr.add _ _).block ≠ _; rw [add_block]; exact Kd.own_blk (Kd.R_ne HO236.out BK243.out (by decide))) | (dsimp only; exact Kd.own_blk (Kd.R_ne HO236.out BK243.out (by decide)))) _).trans (((cell_far (p:=⟨gb243,_,none⟩) (by first | exact Kd.own_blk (Kd.R_ne HO236.out BK243.out (by decide)) | (rw [add_block]; exact Kd.own_blk (Kd.R_ne HO236.out BK243.out (by decide))) | (show (Addr.add _ _).block ≠ _; rw [add_block]; exact Kd.own_blk (Kd.R_ne HO236.out BK243.out (by decide))) | (dsimp only; exact Kd.own_blk (Kd.R_ne HO236.out BK243.out (by decide)))) _).trans (((cell_far (p:=⟨gb243,_,none⟩) (by first | exact Kd.own_blk (Kd.R_ne HO236.out BK243.out (by decide)) | (rw [add_block]; exact Kd.own_blk (Kd.R_ne HO236.out BK243.out (by decide))) | (show (Addr.add _ _).block ≠ _; rw [add_block]; exact Kd.own_blk (Kd.R_ne HO236.out BK243.out (by decide))) | (dsimp only; exact Kd.own_blk (Kd.R_ne HO236.out BK243.out (by decide)))) _).trans (((cell_far (p:=⟨gb243,_,none⟩) (by first | exact Kd.own_blk (Kd.R_ne HO236.out BK243.out (by decide)) | (rw [add_block]; exact Kd.own_blk (Kd.R_ne HO236.out BK243.out (by decide))) | (show (Addr.add _ _).block ≠ _; rw [add_block]; exact Kd.own_blk (Kd.R_ne HO236.out BK243.out (by decide))) | (dsimp only; exact Kd.own_blk (Kd.R_ne HO236.out BK243.out (by decide)))) _).trans (((cell_far (p:=⟨gb243,_,none⟩) (by first | exact Kd.own_blk (Kd.R_ne HO236.out BK243.out (by decide)) | (rw [add_block]; exact Kd.own_blk (Kd.R_ne HO236.out BK243.out (by decide))) | (show (Addr.add _ _).block ≠ _; rw [add_block]; exact Kd.own_blk (Kd.R_ne HO236.out BK243.out (by decide))) | (dsimp only; exact Kd.own_blk (Kd.R_ne HO236.out BK243.out (by decide)))) _).trans (((cell_far (p:=⟨gb243,_,none⟩) (by first | exact Kd.own_blk (Kd.R_ne HO236.out BK243.out (by decide)) | (rw [add_block]; exact Kd.own_blk (Kd.R_ne HO236.out BK243.out (by decide))) | (show (Addr.add _ _).block ≠ _; rw [add_block]; exact Kd.own_blk (Kd.R_ne HO236.out BK243.out (by decide))) | (dsimp only; exact Kd.own_blk (Kd.R_ne HO236.out BK243.out (by decide)))) _).trans (hHeld.2.2.2.1)))))))))))),((cell_far (p:=⟨gb243,_,none⟩) (by first | exact Kd.own_blk (Kd.R_ne HO236.out BK243.out (by decide)) | (rw [add_block]; exact Kd.own_blk (Kd.R_ne HO236.out BK243.out (by decide))) | (show (Addr.add _ _).block ≠ _; rw [add_block]; exact Kd.own_blk (Kd.R_ne HO236.out BK243.out (by decide))) | (dsimp only; exact Kd.own_blk (Kd.R_ne HO236.out BK243.out (by decide)))) _).trans (((cell_far (p:=⟨gb243,_,none⟩) (by first | exact Kd.own_blk (Kd.R_ne HO236.out BK243.out (by decide)) | (rw [add_block]; exact Kd.own_blk (Kd.R_ne HO236.out BK243.out (by decide))) | (show (Addr.add _ _).block ≠ _; rw [add_block]; exact Kd.own_blk (Kd.R_ne HO236.out BK243.out (by decide))) | (dsimp only; exact Kd.own_blk (Kd.R_ne HO236.out BK243.out (by decide)))) _).trans (((cell_far (p:=⟨gb243,_,none⟩) (by first | exact Kd.own_blk (Kd.R_ne HO236.out BK243.out (by decide)) | (rw [add_block]; exact Kd.own_blk (Kd.R_ne HO236.out BK243.out (by decide))) | (show (Addr.add _ _).block ≠ _; rw [add_block]; exact Kd.own_blk (Kd.R_ne HO236.out BK243.out (by decide))) | (dsimp only; exact Kd.own_blk (Kd.R_ne HO236.out BK243.out (by decide)))) _).trans (((cell_far (p:=⟨gb243,_,none⟩) (by first | exact Kd.own_blk (Kd.R_ne HO236.out BK243.out (by decide)) | (rw [add_block]; exact Kd.own_blk (Kd.R_ne HO236.out BK243.out (by decide))) | (show (Addr.add _ _).block ≠ _; rw [add_block]; exact Kd.own_blk (Kd.R_ne HO236.out BK243.out (by decide))) | (dsimp only; exact Kd.own_blk (Kd.R_ne HO236.out BK243.out (by decide)))) _).trans (((cell_far (p:=⟨gb243,_,none⟩) (by first | exact Kd.own_blk (Kd.R_ne HO236.out BK243.out (by decide)) | (rw [add_block]; exact Kd.own_blk (Kd.R_ne HO236.out BK243.out (by decide))) | (show (Addr.add _ _).block ≠ _; rw [add_block]; exact Kd.own_blk (Kd.R_ne HO236.out BK243.out (by decide))) | (dsimp only; exact Kd.own_blk (Kd.R_ne HO236.out BK243.out (by decide)))) _).trans (((cell_far (p:=⟨gb243,_,none⟩) (by first | exact Kd.own_blk (Kd.R_ne HO236.out BK243.out (by decide)) | (rw [add_block]; exact Kd.own_blk (Kd.R_ne HO236.out BK243.out (by decide))) | (show (Addr.add _ _).block ≠ _; rw [add_block]; exact Kd.own_blk (Kd.R_ne HO236.out BK243.out (by decide))) | (dsimp only; exact Kd.own_blk (Kd.R_ne HO236.out BK243.out (by decide)))) _).trans (hHeld.2.2.2.2.1)))))))))))),((cell_far (p:=⟨gb243,_,none⟩) (by first | exact Kd.own_blk (Kd.R_ne HO236.out BK243.out (by decide)) | (rw [add_block]; exact Kd.own_blk (Kd.R_ne HO236.out BK243.out (by decide))) | (show (Addr.add _ _).block ≠ _; rw [add_block]; exact Kd.own_blk (Kd.R_ne HO236.out BK243.out (by decide))) | (dsimp only; exact Kd.own_blk (Kd.R_ne HO236.out BK243.out (by decide)))) _).trans (((cell_far (p:=⟨gb243,_,none⟩) (by first | exact Kd.own_blk (Kd.R_ne HO236.out BK243.out (by decide)) | (rw [add_block]; exact Kd.own_blk (Kd.R_ne HO236.out BK243.out (by decide))) | (show (Addr.add _ _).block ≠ _; rw [add_block]; exact Kd.own_blk (Kd.R_ne HO236.out BK243.out (by decide))) | (dsimp only; exact Kd.own_blk (Kd.R_ne HO236.out BK243.out (by decide)))) _).trans (((cell_far (p:=⟨gb243,_,none⟩) (by first | exact Kd.own_blk (Kd.R_ne HO236.out BK243.out (by decide)) | (rw [add_block]; exact Kd.own_blk (Kd.R_ne HO236.out BK243.out (by decide))) | (show (Addr.add _ _).block ≠ _; rw [add_block]; exact Kd.own_blk (Kd.R_ne HO236.out BK243.out (by decide))) | (dsimp only; exact Kd.own_blk (Kd.R_ne HO236.out BK243.out (by decide)))) _).trans (((cell_far (p:=⟨gb243,_,none⟩) (by first | exact Kd.own_blk (Kd.R_ne HO236.out BK243.out (by decide)) | (rw [add_block]; exact Kd.own_blk (Kd.R_ne HO236.out BK243.out (by decide))) | (show (Addr.add _ _).block ≠ _; rw [add_block]; exact Kd.own_blk (Kd.R_ne HO236.out BK243.out (by decide))) | (dsimp only; exact Kd.own_blk (Kd.R_ne HO236.out BK243.out (by decide)))) _).trans (((cell_far (p:=⟨gb243,_,none⟩) (by first | exact Kd.own_blk (Kd.R_ne HO236.out BK243.out (by decide)) | (rw [add_block]; exact Kd.own_blk (Kd.R_ne HO236.out BK243.out (by decide))) | (show (Addr.add _ _).block ≠ _; rw [add_block]; exact Kd.own_blk (Kd.R_ne HO236.out BK243.out (by decide))) | (dsimp only; exact Kd.own_blk (Kd.R_ne HO236.out BK243.out (by decide)))) _).trans (((cell_far (p:=⟨gb243,_,none⟩) (by first | exact Kd.own_blk (Kd.R_ne HO236.out BK243.out (by decide)) | (rw [add_block]; exact Kd.own_blk (Kd.R_ne HO236.out BK243.out (by decide))) | (show (Addr.add _ _).block ≠ _; rw [add_block]; exact Kd.own_blk (Kd.R_ne HO236.out BK243.out (by decide))) | (dsimp only; exact Kd.own_blk (Kd.R_ne HO236.out BK243.out (by decide)))) _).trans (hHeld.2.2.2.2.2))))))))))))⟩ (fun hHeld => ?_)
        clear hK K
        refine done_ (done_of HT_.out (by kernel_rfl)) ?_
        try go_wp2
        have n0_ : Aside0 (Kd.R (Kd.int .i64) 3 ((((((w15.setCell ⟨gb243,0,none⟩ (.int .i64 (rd t233 0))).setCell ⟨gb243,1,none⟩ (.int .i64 (rd t233 1))).setCell ⟨gb243,2,none⟩ (.int .i64 (rd t233 2))).setCell ⟨gb243,3,none⟩ (.int .i64 (rd t233 3))).setCell ⟨gb243,4,none⟩ (.int .i64 (rd t233 4))).setCell ⟨gb243,5,none⟩ (.int .i64 (rd t233 5))) w.heap.size (fun _ => True) (.slice (some ad237) t233.length co14) t233) := ⟨by (with_reducible repeat (first | apply Kd.R_alloc | apply Kd.R_drewN | apply Kd.R_drew)); exact Kd.R_mono (Kd.R_far (p:=⟨gb243,5,none⟩) (Kd.R_far (p:=⟨gb243,4,none⟩) (Kd.R_far (p:=⟨gb243,3,none⟩) (Kd.R_far (p:=⟨gb243,2,none⟩) (Kd.R_far (p:=⟨gb243,1,none⟩) (Kd.R_far (p:=⟨gb243,0,none⟩) (Kd.R_types HO236.out BK243.out (by decide)) (fun _ hk => hk.2) (.int .i64 (rd t233 0))) (fun _ hk => hk.2) (.int .i64 (rd t233 1))) (fun _ hk => hk.2) (.int .i64 (rd t233 2))) (fun _ hk => hk.2) (.int .i64 (rd t233 3))) (fun _ hk => hk.2) (.int .i64 (rd t233 4))) (fun _ hk => hk.2) (.int .i64 (rd t233 5))) (fun _ hk => trivial)⟩
        have n1_ : Aside0 (((((((w15.setCell ⟨gb243,0,none⟩ (.int .i64 (rd t233 0))).setCell ⟨gb243,1,none⟩ (.int .i64 (rd t233 1))).setCell ⟨gb243,2,none⟩ (.int .i64 (rd t233 2))).setCell ⟨gb243,3,none⟩ (.int .i64 (rd t233 3))).setCell ⟨gb243,4,none⟩ (.int .i64 (rd t233 4))).setCell ⟨gb243,5,none⟩ (.int .i64 (rd t233 5))).heap[gb232]? = some (.cells #[.int .i64 0,.int .i64 0,.int .i64 0,.int .i64 0,.int .i64 0,.int .i64 0] 38 (0,0))) := ⟨by (with_reducible repeat (first | refine blk_drewN ?_ _ | refine blk_drew ?_ | refine blk_alloc ?_ _)); refine blk_far ?_ NB232_243.out _; (with_reducible repeat (first | refine blk_drewN ?_ _ | refine blk_drew ?_ | refine blk_alloc ?_ _)); refine blk_far ?_ NB232_243.out _; (with_reducible repeat (first | refine blk_drewN ?_ _ | refine blk_drew ?_ | refine blk_alloc ?_ _)); refine blk_far ?_ NB232_243.out _; (with_reducible repeat (first | refine blk_drewN ?_ _ | refine blk_drew ?_ | refine blk_alloc ?_ _)); refine blk_far ?_ NB232_243.out _; (with_reducible repeat (first | refine blk_drewN ?_ _ | refine blk_drew ?_ | refine blk_alloc ?_ _)); refine blk_far ?_ NB232_243.out _; (with_reducible repeat (first | refine blk_drewN ?_ _ | refine blk_drew ?_ | refine blk_alloc ?_ _)); refine blk_far ?_ NB232_243.out _; (with_reducible repeat (first | refine blk_drewN ?_ _ | refine blk_drew ?_ | refine blk_alloc ?_ _)); exact BK232.out⟩
        have n2_ : Aside0 (((((((w15.setCell ⟨gb243,0,none⟩ (.int .i64 (rd t233 0))).setCell ⟨gb243,1,none⟩ (.int .i64 (rd t233 1))).setCell ⟨gb243,2,none⟩ (.int .i64 (rd t233 2))).setCell ⟨gb243,3,none⟩ (.int .i64 (rd t233 3))).setCell ⟨gb243,4,none⟩ (.int .i64 (rd t233 4))).setCell ⟨gb243,5,none⟩ (.int .i64 (rd t233 5))).heap[gb243]? = some (.cells #[.int .i64 (rd t233 0),.int .i64 (rd t233 1),.int .i64 (rd t233 2),.int .i64 (rd t233 3),.int .i64 (rd t233 4),.int .i64 (rd t233 5)] 38 (0,0))) := ⟨by (with_reducible repeat (first | refine blk_drewN ?_ _ | refine blk_drew ?_ | refine blk_alloc ?_ _)); refine blk_put (cs := #[.int .i64 (rd t233 0),.int .i64 (rd t233 1),.int .i64 (rd t233 2),.int .i64 (rd t233 3),.int .i64 (rd t233 4),.int .i64 0]) ?_ 5 _ rfl; (with_reducible repeat (first | refine blk_drewN ?_ _ | refine blk_drew ?_ | refine blk_alloc ?_ _)); refine blk_put (cs := #[.int .i64 (rd t233 0),.int .i64 (rd t233 1),.int .i64 (rd t233 2),.int .i64 (rd t233 3),.int .i64 0,.int .i64 0]) ?_ 4 _ rfl; (with_reducible repeat (first | refine blk_drewN ?_ _ | refine blk_drew ?_ | refine blk_alloc ?_ _)); refine blk_put (cs := #[.int .i64 (rd t233 0),.int .i64 (rd t233 1),.int .i64 (rd t233 2),.int .i64 0,.int .i64 0,.int .i64 0]) ?_ 3 _ rfl; (with_reducible repeat (first | refine blk_drewN ?_ _ | refine blk_drew ?_ | refine blk_alloc ?_ _)); refine blk_put (cs := #[.int .i64 (rd t233 0),.int .i64 (rd t233 1),.int .i64 0,.int .i64 0,.int .i64 0,.int .i64 0]) ?_ 2 _ rfl; (with_reducible repeat (first | refine blk_drewN ?_ _ | refine blk_drew ?_ | refine blk_alloc ?_ _)); refine blk_put (cs := #[.int .i64 (rd t233 0),.int .i64 0,.int .i64 0,.int .i64 0,.int .i64 0,.int .i64 0]) ?_ 1 _ rfl; (with_reducible repeat (first | refine blk_drewN ?_ _ | refine blk_drew ?_ | refine blk_alloc ?_ _)); refine blk_put (cs := #[.int .i64 0,.int .i64 0,.int .i64 0,.int .i64 0,.int .i64 0,.int .i64 0]) ?_ 0 _ rfl; (with_reducible repeat (first | refine blk_drewN ?_ _ | refine blk_drew ?_ | refine blk_alloc ?_ _)); exact BK243.out⟩
        have n3_ : Aside0 (Below w.heap.size w ((((((w15.setCell ⟨gb243,0,none⟩ (.int .i64 (rd t233 0))).setCell ⟨gb243,1,none⟩ (.int .i64 (rd t233 1))).setCell ⟨gb243,2,none⟩ (.int .i64 (rd t233 2))).setCell ⟨gb243,3,none⟩ (.int .i64 (rd t233 3))).setCell ⟨gb243,4,none⟩ (.int .i64 (rd t233 4))).setCell ⟨gb243,5,none⟩ (.int .i64 (rd t233 5)))) := ⟨by repeat (first | (with_reducible first | exact HB.out | apply below_alloc | apply pw_below_drewN | apply below_drew1 | refine below_set ?_ GE232.out | refine below_set ?_ GE243.out) | exact HB.out)⟩
        (try clear HO236)
        (try clear BK232)
        (try clear BK243)
        (try clear HB)
        generalize ((((((w15.setCell ⟨gb243,0,none⟩ (.int .i64 (rd t233 0))).setCell ⟨gb243,1,none⟩ (.int .i64 (rd t233 1))).setCell ⟨gb243,2,none⟩ (.int .i64 (rd t233 2))).setCell ⟨gb243,3,none⟩ (.int .i64 (rd t233 3))).setCell ⟨gb243,4,none⟩ (.int .i64 (rd t233 4))).setCell ⟨gb243,5,none⟩ (.int .i64 (rd t233 5))) = w22 at n0_ n1_ n2_ n3_ ⊢
        have HO236 := n0_
        have BK232 := n1_
        have BK243 := n2_
        have HB := n3_
        clear n0_ n1_ n2_ n3_
        have n0_ := Aside0.mk (Kd.R_drew HO236.out)
        have n1_ := Aside0.mk (blk_drew BK232.out)
        have n2_ := Aside0.mk (blk_drew BK243.out)
        have n3_ := Aside0.mk (below_drew1 HB.out)
        clear HO236
        clear BK232
        clear BK243
        clear HB
        have HO236 := n0_
        have BK232 := n1_
        have BK243 := n2_
        have HB := n3_
        clear n0_ n1_ n2_ n3_
        refine start_ (n:=5) (S:=fun w' => w'.cell? ⟨gb243,0,none⟩ = some (.int .i64 (rd t233 0)) ∧ w'.cell? ⟨gb243,1,none⟩ = some (.int .i64 (rd t233 1)) ∧ w'.cell? ⟨gb243,2,none⟩ = some (.int .i64 (rd t233 2)) ∧ w'.cell? ⟨gb243,3,none⟩ = some (.int .i64 (rd t233 3)) ∧ w'.cell? ⟨gb243,4,none⟩ = some (.int .i64 (rd t233 4)) ∧ w'.cell? ⟨gb243,5,none⟩ = some (.int .i64 (rd t233 5))) (ds := []) #[F,F,F,F,F] (by kernel_rfl) rfl rfl ⟨(blk_cell BK243.out 0).trans rfl,(blk_cell BK243.out 1).trans rfl,(blk_cell BK243.out 2).trans rfl,(blk_cell BK243.out 3).trans rfl,(blk_cell BK243.out 4).trans rfl,(blk_cell BK243.out 5).trans rfl⟩ (fun hHeld => ?_)
        generalize w22.drew = w23 at HO236 BK232 BK243 HB hHeld ⊢
        refine take_ (i:=0) (N:=some 34) (v:=?_) (a':=?_) #[T,F,F,F,F] rfl rfl (by kernel_rfl) (fun _ _ _ h => h) (Or.inl ⟨by rfl,?_⟩) hHeld ?_ ?_
        rotate_left
        ·rintro w' ⟨s0,s1,s2,s3,s4,s5⟩
         go_simp
         with_reducible rfl
        rotate_left
        ·simp only [Act.put,setIfInBounds_toArray,set_cons_zero,set_cons_succ,i64_w,i32_w]
         rfl
        refine take_ (i:=1) (N:=some 35) (v:=?_) (a':=?_) #[T,T,F,F,F] rfl rfl (by kernel_rfl) (fun _ _ _ h => h) (Or.inl ⟨by rfl,?_⟩) hHeld ?_ ?_
        rotate_left
        ·rintro w' ⟨s0,s1,s2,s3,s4,s5⟩
         go_simp
         with_reducible rfl
        rotate_left
        ·simp only [Act.put,setIfInBounds_toArray,set_cons_zero,set_cons_succ,i64_w,i32_w]
         rfl
        refine one_ (i:=2) (N:=some 36) #[T,T,T,F,F] rfl rfl (by kernel_rfl) (by decide) (fun K hK => ?_)
        refine goes_ Tryd.func103 (by kernel_rfl) rfl #[.agg #[.int .i64 (rd t233 0),.int .i64 (rd t233 1),.int .i64 (rd t233 2),.int .i64 (rd t233 3),.int .i64 (rd t233 4),.int .i64 (rd t233 5)]] (by rfl) rfl rfl (by (try simp only [List.map_toArray,List.map_cons,List.map_nil]); first | done | rfl | (simp only [List.length_drop,List.length_take]; rfl)) ?_
        with_reducible refine (impl_AggOK.calls (rd t233 0) (rd t233 1) (rd t233 2) (rd t233 3) (rd t233 4) (rd t233 5) t244 _ A10.out).mono ?_
        rintro e w24 ⟨rfl,hb⟩
        refine ⟨_,rfl,?_⟩
        have n0_ := Aside0.mk (Kd.R_below (by (with_reducible repeat (first | apply Kd.R_alloc | apply Kd.R_drewN | apply Kd.R_drew)); exact HO236.out) hb)
        have n1_ := Aside0.mk (blk_below (g:=gb232) (o:=.cells #[.int .i64 0,.int .i64 0,.int .i64 0,.int .i64 0,.int .i64 0,.int .i64 0] 38 (0,0)) (by (with_reducible repeat (first | refine blk_drewN ?_ _ | refine blk_drew ?_ | refine blk_alloc ?_ _)); exact BK232.out) hb)
        have n2_ := Aside0.mk (blk_below (g:=gb243) (o:=.cells #[.int .i64 (rd t233 0),.int .i64 (rd t233 1),.int .i64 (rd t233 2),.int .i64 (rd t233 3),.int .i64 (rd t233 4),.int .i64 (rd t233 5)] 38 (0,0)) (by (with_reducible repeat (first | refine blk_drewN ?_ _ | refine blk_drew ?_ | refine blk_alloc ?_ _)); exact BK243.out) hb)
        have n3_ := Aside0.mk (below_step (by repeat (first | (with_reducible first | exact HB.out | apply below_alloc | apply pw_below_drewN | apply below_drew1 | refine below_set ?_ GE232.out | refine below_set ?_ GE243.out) | exact HB.out)) hb)
        clear HO236
        clear BK232
        clear BK243
        clear HB
        have HO236 := n0_
        have BK232 := n1_
        have BK243 := n2_
        have HB := n3_
        clear n0_ n1_ n2_ n3_
        (try clear hb)
        (try clear hb2)
        (try clear hk)
        (try clear hi)
        refine hK.out _ _ ⟨(blk_cell BK243.out 0).trans rfl,(blk_cell BK243.out 1).trans rfl,(blk_cell BK243.out 2).trans rfl,(blk_cell BK243.out 3).trans rfl,(blk_cell BK243.out 4).trans rfl,(blk_cell BK243.out 5).trans rfl⟩ (fun hHeld => ?_)
        clear hK K
        refine norm_ (a':=?_) ?_ ?_
        rotate_left
        ·show Act.put _ (some 36) _ = _
         simp only [Act.put,setIfInBounds_toArray,set_cons_zero,set_cons_succ,i64_w,i32_w]
         rfl
        refine one_ (i:=3) (N:=none) #[T,T,T,T,F] rfl rfl (by kernel_rfl) (by decide) (fun K hK => ?_)
        have hs25 : w24.cell? ⟨gb232,0,none⟩ = some (.int .i64 0) := (blk_cell BK232.out 0).trans rfl
        have hfs25 := blk_frozen BK232.out 0
        have hns25_1 := NB243_232.out
        have hms25_1 := NB232_243.out
        have hs26 : w24.cell? ⟨gb232,1,none⟩ = some (.int .i64 0) := (blk_cell BK232.out 1).trans rfl
        have hfs26 := blk_frozen BK232.out 1
        have hns26_1 := NB243_232.out
        have hms26_1 := NB232_243.out
        have hs27 : w24.cell? ⟨gb232,2,none⟩ = some (.int .i64 0) := (blk_cell BK232.out 2).trans rfl
        have hfs27 := blk_frozen BK232.out 2
        have hns27_1 := NB243_232.out
        have hms27_1 := NB232_243.out
        have hs28 : w24.cell? ⟨gb232,3,none⟩ = some (.int .i64 0) := (blk_cell BK232.out 3).trans rfl
        have hfs28 := blk_frozen BK232.out 3
        have hns28_1 := NB243_232.out
        have hms28_1 := NB232_243.out
        have hs29 : w24.cell? ⟨gb232,4,none⟩ = some (.int .i64 0) := (blk_cell BK232.out 4).trans rfl
        have hfs29 := blk_frozen BK232.out 4
        have hns29_1 := NB243_232.out
        have hms29_1 := NB232_243.out
        have hs30 : w24.cell? ⟨gb232,5,none⟩ = some (.int .i64 0) := (blk_cell BK232.out 5).trans rfl
        have hfs30 := blk_frozen BK232.out 5
        have hns30_1 := NB243_232.out
        have hms30_1 := NB232_243.out
        refine skip_ (w1 := ?_) (by rfl) rfl ?_ ?_
        rotate_left
        ·go_simp
         rfl
        refine hK.out _ _ ⟨((cell_far (p:=⟨gb232,_,none⟩) NB243_232.out _).trans (((cell_far (p:=⟨gb232,_,none⟩) NB243_232.out _).trans (((cell_far (p:=⟨gb232,_,none⟩) NB243_232.out _).trans (((cell_far (p:=⟨gb232,_,none⟩) NB243_232.out _).trans (((cell_far (p:=⟨gb232,_,none⟩) NB243_232.out _).trans (((cell_far (p:=⟨gb232,_,none⟩) NB243_232.out _).trans (hHeld.1)))))))))))),((cell_far (p:=⟨gb232,_,none⟩) NB243_232.out _).trans (((cell_far (p:=⟨gb232,_,none⟩) NB243_232.out _).trans (((cell_far (p:=⟨gb232,_,none⟩) NB243_232.out _).trans (((cell_far (p:=⟨gb232,_,none⟩) NB243_232.out _).trans (((cell_far (p:=⟨gb232,_,none⟩) NB243_232.out _).trans (((cell_far (p:=⟨gb232,_,none⟩) NB243_232.out _).trans (hHeld.2.1)))))))))))),((cell_far (p:=⟨gb232,_,none⟩) NB243_232.out _).trans (((cell_far (p:=⟨gb232,_,none⟩) NB243_232.out _).trans (((cell_far (p:=⟨gb232,_,none⟩) NB243_232.out _).trans (((cell_far (p:=⟨gb232,_,none⟩) NB243_232.out _).trans (((cell_far (p:=⟨gb232,_,none⟩) NB243_232.out _).trans (((cell_far (p:=⟨gb232,_,none⟩) NB243_232.out _).trans (hHeld.2.2.1)))))))))))),((cell_far (p:=⟨gb232,_,none⟩) NB243_232.out _).trans (((cell_far (p:=⟨gb232,_,none⟩) NB243_232.out _).trans (((cell_far (p:=⟨gb232,_,none⟩) NB243_232.out _).trans (((cell_far (p:=⟨gb232,_,none⟩) NB243_232.out _).trans (((cell_far (p:=⟨gb232,_,none⟩) NB243_232.out _).trans (((cell_far (p:=⟨gb232,_,none⟩) NB243_232.out _).trans (hHeld.2.2.2.1)))))))))))),((cell_far (p:=⟨gb232,_,none⟩) NB243_232.out _).trans (((cell_far (p:=⟨gb232,_,none⟩) NB243_232.out _).trans (((cell_far (p:=⟨gb232,_,none⟩) NB243_232.out _).trans (((cell_far (p:=⟨gb232,_,none⟩) NB243_232.out _).trans (((cell_far (p:=⟨gb232,_,none⟩) NB243_232.out _).trans (((cell_far (p:=⟨gb232,_,none⟩) NB243_232.out _).trans (hHeld.2.2.2.2.1)))))))))))),((cell_far (p:=⟨gb232,_,none⟩) NB243_232.out _).trans (((cell_far (p:=⟨gb232,_,none⟩) NB243_232.out _).trans (((cell_far (p:=⟨gb232,_,none⟩) NB243_232.out _).trans (((cell_far (p:=⟨gb232,_,none⟩) NB243_232.out _).trans (((cell_far (p:=⟨gb232,_,none⟩) NB243_232.out _).trans (((cell_far (p:=⟨gb232,_,none⟩) NB243_232.out _).trans (hHeld.2.2.2.2.2))))))))))))⟩ (fun hHeld => ?_)
        clear hK K
        refine pure_ (i:=4) (N:=some 3) (v:=?_) (a':=?_) #[T,T,T,T,T] rfl rfl (by kernel_rfl) (fun _ _ _ h => h) (Or.inl ⟨by rfl,?_⟩) ?_ ?_
        rotate_left
        ·intro w'
         go_simp
         with_reducible rfl
        rotate_left
        ·simp only [Act.put,setIfInBounds_toArray,set_cons_zero,set_cons_succ,i64_w,i32_w]
         rfl
        refine done_ (by kernel_rfl) ?_
        try go_wp2
        refine bodyPost_ret (results_ct rfl _ _ gb232 38 #[.int .i64 (rd t233 0),.int .i64 (rd t233 1),.int .i64 (rd t233 2),.int .i64 (rd t233 3),.int .i64 (rd t233 4),.int .i64 (rd t233 5)] (0,0) _ rfl (by (with_reducible repeat (first | refine blk_drewN ?_ _ | refine blk_drew ?_ | refine blk_alloc ?_ _)); refine blk_put (cs := #[.int .i64 (rd t233 0),.int .i64 (rd t233 1),.int .i64 (rd t233 2),.int .i64 (rd t233 3),.int .i64 (rd t233 4),.int .i64 0]) ?_ 5 _ rfl; (with_reducible repeat (first | refine blk_drewN ?_ _ | refine blk_drew ?_ | refine blk_alloc ?_ _)); refine blk_put (cs := #[.int .i64 (rd t233 0),.int .i64 (rd t233 1),.int .i64 (rd t233 2),.int .i64 (rd t233 3),.int .i64 0,.int .i64 0]) ?_ 4 _ rfl; (with_reducible repeat (first | refine blk_drewN ?_ _ | refine blk_drew ?_ | refine blk_alloc ?_ _)); refine blk_put (cs := #[.int .i64 (rd t233 0),.int .i64 (rd t233 1),.int .i64 (rd t233 2),.int .i64 0,.int .i64 0,.int .i64 0]) ?_ 3 _ rfl; (with_reducible repeat (first | refine blk_drewN ?_ _ | refine blk_drew ?_ | refine blk_alloc ?_ _)); refine blk_put (cs := #[.int .i64 (rd t233 0),.int .i64 (rd t233 1),.int .i64 0,.int .i64 0,.int .i64 0,.int .i64 0]) ?_ 2 _ rfl; (with_reducible repeat (first | refine blk_drewN ?_ _ | refine blk_drew ?_ | refine blk_alloc ?_ _)); refine blk_put (cs := #[.int .i64 (rd t233 0),.int .i64 0,.int .i64 0,.int .i64 0,.int .i64 0,.int .i64 0]) ?_ 1 _ rfl; (with_reducible repeat (first | refine blk_drewN ?_ _ | refine blk_drew ?_ | refine blk_alloc ?_ _)); refine blk_put (cs := #[.int .i64 0,.int .i64 0,.int .i64 0,.int .i64 0,.int .i64 0,.int .i64 0]) ?_ 0 _ rfl; (with_reducible repeat (first | refine blk_drewN ?_ _ | refine blk_drew ?_ | refine blk_alloc ?_ _)); exact BK232.out) Tryd.underlying38 rfl (by kernel_rfl)) rfl ?_
        exact ⟨by first | rfl | (simp [errW_none,errW_some] <;> rfl) | (simp [*,errW_none,errW_some] <;> rfl),by repeat (first | (with_reducible first | exact HB.out | apply below_alloc | apply pw_below_drewN | apply below_drew1 | refine below_set ?_ GE232.out | refine below_set ?_ GE243.out) | exact HB.out)⟩
       ·rw [if_neg c9] at H
        exact absurd H (by simp)
      ·rw [if_neg c8] at H
       exact absurd H (by simp)
     ·rw [if_neg c7] at H
      exact absurd H (by simp)
    ·rw [if_neg c6] at H
     exact absurd H (by simp)
   ·rw [if_neg c5] at H
    exact absurd H (by simp)
  ·rw [if_neg c4] at H
   exact absurd H (by simp)
 ·replace c3 := Bool.eq_false_iff.mpr c3
  subst c3
  have H1 : (some (0,0,0,0,0,0,false)) = some (r1,r2,r3,r4,r5,r6,r7) := by rw [if_neg (show ¬ (false = true) by decide)] at H; exact H
  clear H
  have H := H1
  clear H1
  simp only [Option.some.injEq,Prod.mk.injEq] at H
  obtain ⟨rfl,rfl,rfl,rfl,rfl,rfl,rfl⟩ := H
  go_enter Tryd.func67,Tryd.ntmps67
  go_wp2_with (first | ((with_reducible refine gate_dst (N:=2) rfl ?_); refine box_event ?hg (N:=2) ?hd (cs := #[.int .i64 0,.int .i64 0,.int .i64 0,.int .i64 0,.int .i64 0,.int .i64 0]) (t:=38) ?hr ?_; (case hd => rfl); (case hg => rfl); (case hr => first | (go_simp; done) | (go_simp; rfl)); intro gb232 hg w31 hbox hb; have n0_ := Aside0.mk (below_step (by repeat (first | (with_reducible first | exact HB.out | apply below_alloc | apply pw_below_drewN | apply below_drew1) | exact HB.out)) hb); have n1_ := Aside0.mk (hbox); have n2_ := Aside0.mk ((by rw [hg]; exact (below_size (by repeat (first | (with_reducible first | exact HB.out | apply below_alloc | apply pw_below_drewN | apply below_drew1) | exact HB.out))) : w.heap.size ≤ gb232)); have n3_ := Aside0.mk ((by rw [hg]; exact (below_size (by repeat (first | (with_reducible first | exact HB.out | apply below_alloc | apply pw_below_drewN | apply below_drew1) | exact HB.out))) : w.heap.size ≤ gb232)); clear HB; have HB := n0_; have BK232 := n1_; have GW232 := n2_; have GE232 := n3_; clear n0_ n1_ n2_ n3_; clear hb hbox hg) | ((with_reducible refine gate_callee (f:=102) rfl ?_); refine goesL_ (some 9) rfl rfl Tryd.func102 (by kernel_rfl) rfl #[.string a0,.string (⟨#[44]⟩ : ByteArray),.int .i64 6] rfl (by (try simp only [List.map_toArray,List.map_cons,List.map_nil]); first | done | rfl | (simp only [List.length_drop,List.length_take]; rfl)) ?_; (with_reducible refine (impl_numbers.calls k a0 (⟨#[44]⟩ : ByteArray) 6 t233 false _ ?side1 A2.out).mono ?_); (case side1 => exact HV.out.below (by repeat (first | (with_reducible first | exact HB.out | apply below_alloc | apply pw_below_drewN | apply below_drew1 | refine below_set ?_ GE232.out) | exact HB.out))); rintro e w32 ⟨v235,rfl,ho0,hb⟩; refine ⟨_,rfl,?_⟩; have n0_ := Aside0.mk (Kd.R_lower ho0 (below_size (by repeat (first | (with_reducible first | exact HB.out | apply below_alloc | apply pw_below_drewN | apply below_drew1 | refine below_set ?_ GE232.out) | exact HB.out)))); have n1_ := Aside0.mk (blk_below (g:=gb232) (o:=.cells #[.int .i64 0,.int .i64 0,.int .i64 0,.int .i64 0,.int .i64 0,.int .i64 0] 38 (0,0)) (by (with_reducible repeat (first | refine blk_drewN ?_ _ | refine blk_drew ?_ | refine blk_alloc ?_ _)); exact BK232.out) hb); have n2_ := Aside0.mk (below_step (by repeat (first | (with_reducible first | exact HB.out | apply below_alloc | apply pw_below_drewN | apply below_drew1 | refine below_set ?_ GE232.out) | exact HB.out)) hb); clear BK232; clear HB; have HO236 := n0_; have BK232 := n1_; have HB := n2_; clear n0_ n1_ n2_; (try clear hb); (try clear hb2); (try clear hk); (try clear hi); (try clear ho0); have hcz33_0 : w32.cell? ⟨gb232,0,none⟩ = some (.int .i64 0) := (blk_cell BK232.out 0).trans rfl; have hcz33_1 : w32.cell? ⟨gb232,1,none⟩ = some (.int .i64 0) := (blk_cell BK232.out 1).trans rfl; have hcz33_2 : w32.cell? ⟨gb232,2,none⟩ = some (.int .i64 0) := (blk_cell BK232.out 2).trans rfl; have hcz33_3 : w32.cell? ⟨gb232,3,none⟩ = some (.int .i64 0) := (blk_cell BK232.out 3).trans rfl; have hcz33_4 : w32.cell? ⟨gb232,4,none⟩ = some (.int .i64 0) := (blk_cell BK232.out 4).trans rfl; have hcz33_5 : w32.cell? ⟨gb232,5,none⟩ = some (.int .i64 0) := (blk_cell BK232.out 5).trans rfl; have hfz33_0 := blk_frozen BK232.out 0; have hfz33_1 := blk_frozen BK232.out 1; have hfz33_2 := blk_frozen BK232.out 2; have hfz33_3 := blk_frozen BK232.out 3; have hfz33_4 := blk_frozen BK232.out 4; have hfz33_5 := blk_frozen BK232.out 5))
  refine bodyPost_ret (results_ct rfl _ _ gb232 38 #[.int .i64 0,.int .i64 0,.int .i64 0,.int .i64 0,.int .i64 0,.int .i64 0] (0,0) _ rfl (by (with_reducible repeat (first | refine blk_drewN ?_ _ | refine blk_drew ?_ | refine blk_alloc ?_ _)); refine blk_put (cs := #[.int .i64 0,.int .i64 0,.int .i64 0,.int .i64 0,.int .i64 0,.int .i64 0]) ?_ 5 _ rfl; (with_reducible repeat (first | refine blk_drewN ?_ _ | refine blk_drew ?_ | refine blk_alloc ?_ _)); refine blk_put (cs := #[.int .i64 0,.int .i64 0,.int .i64 0,.int .i64 0,.int .i64 0,.int .i64 0]) ?_ 4 _ rfl; (with_reducible repeat (first | refine blk_drewN ?_ _ | refine blk_drew ?_ | refine blk_alloc ?_ _)); refine blk_put (cs := #[.int .i64 0,.int .i64 0,.int .i64 0,.int .i64 0,.int .i64 0,.int .i64 0]) ?_ 3 _ rfl; (with_reducible repeat (first | refine blk_drewN ?_ _ | refine blk_drew ?_ | refine blk_alloc ?_ _)); refine blk_put (cs := #[.int .i64 0,.int .i64 0,.int .i64 0,.int .i64 0,.int .i64 0,.int .i64 0]) ?_ 2 _ rfl; (with_reducible repeat (first | refine blk_drewN ?_ _ | refine blk_drew ?_ | refine blk_alloc ?_ _)); refine blk_put (cs := #[.int .i64 0,.int .i64 0,.int .i64 0,.int .i64 0,.int .i64 0,.int .i64 0]) ?_ 1 _ rfl; (with_reducible repeat (first | refine blk_drewN ?_ _ | refine blk_drew ?_ | refine blk_alloc ?_ _)); refine blk_put (cs := #[.int .i64 0,.int .i64 0,.int .i64 0,.int .i64 0,.int .i64 0,.int .i64 0]) ?_ 0 _ rfl; (with_reducible repeat (first | refine blk_drewN ?_ _ | refine blk_drew ?_ | refine blk_alloc ?_ _)); exact BK232.out) Tryd.underlying38 rfl (by kernel_rfl)) rfl ?_
  exact ⟨by first | rfl | (simp [errW_none,errW_some] <;> rfl) | (simp [*,errW_none,errW_some] <;> rfl),by repeat (first | (with_reducible first | exact HB.out | apply below_alloc | apply pw_below_drewN | apply below_drew1 | refine below_set ?_ GE232.out) | exact HB.out)⟩

/-! ### impl_parts: function 106 -/
def impl_parts.f (a0 : ByteArray) : Option (List ByteArray) := if a0.toList = ([] : List UInt8) then (some ([] : List ByteArray)) else ((strings_SplitN.f a0 (⟨#[32]⟩ : ByteArray) 9).bind fun t245 => (some t245))
set_option maxHeartbeats 8000000 in
set_option maxRecDepth 100000 in
theorem impl_parts.calls (a0 : ByteArray) (r : List ByteArray) (w : World) (hV : Vars w) (h : impl_parts.f a0 = some r) :
  Calls Tryd.prog 106 #[.string a0] w fun e w' => ∃ v0_ : Value,e = .returned (v0_) ∧ Kd.R Kd.string 9 w' w.heap.size (fun _ => True) v0_ r ∧ Below w.heap.size w w' := by
 have HV := Aside0.mk hV
 clear hV
 have HB := Aside0.mk (Below.refl w.heap.size w)
 have H : (if a0.toList = ([] : List UInt8) then (some ([] : List ByteArray)) else ((strings_SplitN.f a0 (⟨#[32]⟩ : ByteArray) 9).bind fun t245 => (some t245))) = some r := h
 clear h
 by_cases c2 : a0.toList = ([] : List UInt8)
 ·rw [if_pos c2] at H
  have c2b0 : (a0.toList == ([] : List UInt8)) = true := beq_iff_eq.mpr c2
  have c2b1 : (a0.toList != ([] : List UInt8)) = false := bne_eq_false_iff_eq.mpr c2
  clear c2
  obtain rfl := Option.some.inj H
  go_enter Tryd.func106,Tryd.ntmps106
  go_wp2
  go_ret
  exact ⟨_,by first | rfl | (simp [errW_none,errW_some] <;> rfl) | (simp [*,errW_none,errW_some] <;> rfl),by first | exact Kd.R_nil _ _ _ _ _ | exact Kd.N_nil _ _ _ _ _ | exact Kd.V_nil _ _ _ _ _ | exact Kd.Q_nil _ _ _ _ _ | exact Kd.S_nil _ _ _ _ _,by repeat (first | (with_reducible first | exact HB.out | apply below_alloc | apply pw_below_drewN | apply below_drew1) | exact HB.out)⟩
 ·rw [if_neg c2] at H
  have c2b0 : (a0.toList == ([] : List UInt8)) = false := beq_eq_false_iff_ne.mpr c2
  have c2b1 : (a0.toList != ([] : List UInt8)) = true := bne_iff_ne.mpr c2
  replace H := Option.bind_eq_some_iff.mp H
  obtain ⟨t245,A30,H⟩ := H
  replace H : (some t245) = some r := H
  have A3 := Aside0.mk A30
  clear A30
  obtain rfl := Option.some.inj H
  go_enter Tryd.func106,Tryd.ntmps106
  go_wp2_with (first | ((with_reducible refine gate_callee (f:=122) rfl ?_); refine goesL_ (some 6) rfl rfl Tryd.func122 (by kernel_rfl) rfl #[.string a0,.string (⟨#[32]⟩ : ByteArray),.int .i64 9] rfl (by (try simp only [List.map_toArray,List.map_cons,List.map_nil]); first | done | rfl | (simp only [List.length_drop,List.length_take]; rfl)) ?_; (with_reducible refine (strings_SplitN.calls a0 (⟨#[32]⟩ : ByteArray) 9 t245 _ ?side1 A3.out).mono ?_); (case side1 => exact HV.out.below (by repeat (first | (with_reducible first | exact HB.out | apply below_alloc | apply pw_below_drewN | apply below_drew1) | exact HB.out))); rintro e w4 ⟨v246,rfl,ho0,hb⟩; refine ⟨_,rfl,?_⟩; have n0_ := Aside0.mk (Kd.R_lower ho0 (below_size (by repeat (first | (with_reducible first | exact HB.out | apply below_alloc | apply pw_below_drewN | apply below_drew1) | exact HB.out)))); have n1_ := Aside0.mk (below_step (by repeat (first | (with_reducible first | exact HB.out | apply below_alloc | apply pw_below_drewN | apply below_drew1) | exact HB.out)) hb); clear HB; have HO247 := n0_; have HB := n1_; clear n0_ n1_; (try clear hb); (try clear hb2); (try clear hk); (try clear hi); (try clear ho0)))
  go_ret
  exact ⟨_,by first | rfl | (simp [errW_none,errW_some] <;> rfl) | (simp [*,errW_none,errW_some] <;> rfl),by (with_reducible repeat (first | apply Kd.R_alloc | apply Kd.R_drewN | apply Kd.R_drew)); exact HO247.out,by repeat (first | (with_reducible first | exact HB.out | apply below_alloc | apply pw_below_drewN | apply below_drew1) | exact HB.out)⟩

/-! ### strings_Cut: function 109 (by hand) -/
def strings_Cut.f (a0 : ByteArray) (a1 : ByteArray) : Option (ByteArray × ByteArray × Bool) := if a0.size < 4294967281 then some (⟨(Lib.cut a0.data.toList a1.data.toList).1.toArray⟩,⟨(Lib.cut a0.data.toList a1.data.toList).2.1.toArray⟩,(Lib.cut a0.data.toList a1.data.toList).2.2) else none
theorem strings_Cut.calls (a0 : ByteArray) (a1 : ByteArray) (r1 : ByteArray) (r2 : ByteArray) (r3 : Bool) (w : World) (hV : Vars w) (h : strings_Cut.f a0 a1 = some (r1,r2,r3)) :
  Calls Tryd.prog 109 #[.string a0,.string a1] w fun e w' => e = .returned (.tuple #[.string r1,.string r2,.bool r3]) ∧ Below w.heap.size w w' := by
 unfold strings_Cut.f at h
 split at h
 ·rename_i hb
  obtain ⟨e1,e23⟩ := Prod.mk.inj (Option.some.inj h)
  obtain ⟨e2,e3⟩ := Prod.mk.inj e23
  subst e1 e2 e3
  clear h e23
  obtain ⟨m,hm⟩ := hV.max
  exact (Tryd.strings_Cut a0 a1 m w hb hm).mono fun e w' ⟨he,n,hw⟩ => ⟨he,by subst hw; exact (Drawn0.step (Drawn0.refl w) n).below⟩
 ·cases h

/-! ### impl_isMoment: function 89 -/
def impl_isMoment.f (a0 : Int) : Option (Bool) := (impl_within.f a0 0 99999).bind fun t248 => (some t248)
set_option maxHeartbeats 8000000 in
set_option maxRecDepth 100000 in
theorem impl_isMoment.calls (a0 : Int) (r : Bool) (w : World) (h : impl_isMoment.f a0 = some r) :
  Calls Tryd.prog 89 #[.int .i64 a0] w fun e w' => e = .returned (.bool r) ∧ Drawn0 w w' := by
 have H : ((impl_within.f a0 0 99999).bind fun t248 => (some t248)) = some r := h
 clear h
 replace H := Option.bind_eq_some_iff.mp H
 obtain ⟨t248,A20,H⟩ := H
 replace H : (some t248) = some r := H
 have A2 := Aside0.mk A20
 clear A20
 obtain rfl := Option.some.inj H
 go_enter Tryd.func89,Tryd.ntmps89
 go_wp2_with (first | ((with_reducible refine gate_callee (f:=82) rfl ?_); refine goesL_ (some 4) rfl rfl Tryd.func82 (by kernel_rfl) rfl #[.int .i64 a0,.int .i64 0,.int .i64 99999] rfl (by (try simp only [List.map_toArray,List.map_cons,List.map_nil]); first | done | rfl | (simp only [List.length_drop,List.length_take]; rfl)) ?_; (with_reducible refine (impl_within.calls a0 0 99999 t248 _ A2.out).mono ?_); rintro e w' ⟨rfl,⟨nd,rfl⟩⟩; refine ⟨_,rfl,?_⟩))
 go_ret
 exact ⟨by first | rfl | (simp; done) | (simp [*]; done),by repeat (first | exact Drawn0.refl _ | apply Drawn0.step)⟩

end Go.Proofs.YtbdhpmamlibmhaaDoor.XFnExactReadBuckets
