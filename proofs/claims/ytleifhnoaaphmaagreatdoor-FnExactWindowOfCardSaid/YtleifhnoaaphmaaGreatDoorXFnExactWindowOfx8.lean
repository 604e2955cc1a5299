-- Printed by this session's own program wip/tools/xprint.py, which widens the kit's print. Not trusted: Lean checks it.
import Derived.Test.YtleifhnoaaphmaaGreatDoorXFnExactWindowOfx0
import Derived.Test.YtleifhnoaaphmaaGreatDoorXFnExactWindowOfx5
import Derived.Test.YtleifhnoaaphmaaGreatDoorXFnExactWindowOfx7
namespace Go.Proofs.YtleifhnoaaphmaaGreatDoor.XFnExactWindowOf
open List (setIfInBounds_toArray set_cons_zero set_cons_succ)
open Go.RowKit Go.Proofs.YtleifhnoaaphmaaGreatDoorW.PrintWords Go.Proofs.YtleifhnoaaphmaaGreatDoorW.PrintLast Go.Proofs.YtleifhnoaaphmaaGreatDoorW.PrintMore
attribute [local go_sem] max2_int min2_int max_two min_two max_three min_three max_four min_four   -- for this text's walks alone
set_option linter.unusedVariables false
set_option linter.unusedSimpArgs false

/-! ### spec_l02Read: function 41 -/
def spec_l02Read.f (k : Nat) (a0 : ByteArray) : Option (Int × Int × Int × Int × Int × Int × Bool) := (spec_l02Numbers.f k a0 44 6).bind fun bt228 => (if bt228.2 = true then (if 0 < (bt228.1.length : Int) then (if 1 < (bt228.1.length : Int) then (if 2 < (bt228.1.length : Int) then (if 3 < (bt228.1.length : Int) then (if 4 < (bt228.1.length : Int) then (if 5 < (bt228.1.length : Int) then ((spec_AggOK.f (rd bt228.1 0) (rd bt228.1 1) (rd bt228.1 2) (rd bt228.1 3) (rd bt228.1 4) (rd bt228.1 5)).bind fun t239 => (if t239 = true then (some (rd bt228.1 0,rd bt228.1 1,rd bt228.1 2,rd bt228.1 3,rd bt228.1 4,rd bt228.1 5,true)) else (some (0,0,0,0,0,0,false)))) else (none)) else (none)) else (none)) else (none)) else (none)) else (none)) else (some (0,0,0,0,0,0,false)))
theorem spec_l02Read.mono : ∀ a0 k,LeO (spec_l02Read.f k a0) (spec_l02Read.f (k + 1) a0) := by
 intro a0 k
 unfold spec_l02Read.f
 repeat' first
   | (with_reducible exact spec_l02Numbers.mono _ _ _ _)
   | (with_reducible exact LeO.refl _)
   | (with_reducible exact LeO.none _)
   | (with_reducible refine LeO.ite ?_ ?_)
   | (with_reducible refine LeO.bind ?_ (fun _ => ?_))
   | exact spec_l02Numbers.mono _ _ _ _
   | exact LeO.none _
   | refine LeO.ite ?_ ?_
   | refine LeO.bind ?_ (fun _ => ?_)
def spec_l02Read.T4 : Bool × List (List Nat × List Nat) := (true,[([],[]),([0],[0]),([1],[1]),([],[]),([3],[3]),([4],[4]),([],[]),([6],[6]),([7],[7]),([],[]),([9],[9]),([10],[10]),([],[]),([12],[12]),([13],[13]),([],[]),([15],[15]),([16],[16]),([2,5,8,11,14,17],[2,5,8,11,14,17]),([],[]),([19,18,0,1,2,3,4,5,6,7,8,9,10,11,12,13,14,15,16,17,18,19],[18,19])])
def spec_l02Read.B4 : List Nat := [0,1,3,0,8,24,0,64,192,0,512,1536,0,4096,12288,0,32768,98304,262143,0,1048575]
theorem spec_l02Read.tab4 : rtab .any (opsOf Tryz.f41 4) = spec_l02Read.T4 := by kernel_rfl
theorem spec_l02Read.bits4 : waitsOk spec_l02Read.T4.2 spec_l02Read.B4 = true := by kernel_rfl
set_option maxHeartbeats 8000000 in
set_option maxRecDepth 100000 in
theorem spec_l02Read.calls (k : Nat) (a0 : ByteArray) (r1 : Int) (r2 : Int) (r3 : Int) (r4 : Int) (r5 : Int) (r6 : Int) (r7 : Bool) (w : World) (h : spec_l02Read.f k a0 = some (r1,r2,r3,r4,r5,r6,r7)) :
  Calls Tryz.prog 41 #[.string a0] w fun e w' => e = .returned (.tuple #[.agg #[.int .i64 r1,.int .i64 r2,.int .i64 r3,.int .i64 r4,.int .i64 r5,.int .i64 r6],.bool r7]) ∧ Below w.heap.size w w' := by
 have hu26 := Tryz.underlying26
 have HB := Aside0.mk (Below.refl w.heap.size w)
 have H : ((spec_l02Numbers.f k a0 44 6).bind fun bt228 => (if bt228.2 = true then (if 0 < (bt228.1.length : Int) then (if 1 < (bt228.1.length : Int) then (if 2 < (bt228.1.length : Int) then (if 3 < (bt228.1.length : Int) then (if 4 < (bt228.1.length : Int) then (if 5 < (bt228.1.length : Int) then ((spec_AggOK.f (rd bt228.1 0) (rd bt228.1 1) (rd bt228.1 2) (rd bt228.1 3) (rd bt228.1 4) (rd bt228.1 5)).bind fun t239 => (if t239 = true then (some (rd bt228.1 0,rd bt228.1 1,rd bt228.1 2,rd bt228.1 3,rd bt228.1 4,rd bt228.1 5,true)) else (some (0,0,0,0,0,0,false)))) else (none)) else (none)) else (none)) else (none)) else (none)) else (none)) else (some (0,0,0,0,0,0,false)))) = some (r1,r2,r3,r4,r5,r6,r7) := h
 clear h
 replace H := Option.bind_eq_some_iff.mp H
 obtain ⟨⟨t228,t229⟩,A20,H⟩ := H
 try dsimp only at H
 have A2 := Aside0.mk A20
 clear A20
 by_cases c3 : t229 = true
 ·subst c3
  rw [if_pos rfl] at H
  by_cases c4 : 0 < (t228.length : Int)
  ·rw [if_pos c4] at H
   have c4b0 : decide (0 < (t228.length : Int)) = true := decide_eq_true c4
   have c4b1 : decide (0 < t228.length) = true := decide_eq_true (by omega)
   clear c4
   by_cases c5 : 1 < (t228.length : Int)
   ·rw [if_pos c5] at H
    have c5b0 : decide (1 < (t228.length : Int)) = true := decide_eq_true c5
    have c5b1 : decide (1 < t228.length) = true := decide_eq_true (by omega)
    clear c5
    by_cases c6 : 2 < (t228.length : Int)
    ·rw [if_pos c6] at H
     have c6b0 : decide (2 < (t228.length : Int)) = true := decide_eq_true c6
     have c6b1 : decide (2 < t228.length) = true := decide_eq_true (by omega)
     clear c6
     by_cases c7 : 3 < (t228.length : Int)
     ·rw [if_pos c7] at H
      have c7b0 : decide (3 < (t228.length : Int)) = true := decide_eq_true c7
      have c7b1 : decide (3 < t228.length) = true := decide_eq_true (by omega)
      clear c7
      by_cases c8 : 4 < (t228.length : Int)
      ·rw [if_pos c8] at H
       have c8b0 : decide (4 < (t228.length : Int)) = true := decide_eq_true c8
       have c8b1 : decide (4 < t228.length) = true := decide_eq_true (by omega)
       clear c8
       by_cases c9 : 5 < (t228.length : Int)
       ·rw [if_pos c9] at H
        have c9b0 : decide (5 < (t228.length : Int)) = true := decide_eq_true c9
        have c9b1 : decide (5 < t228.length) = true := decide_eq_true (by omega)
        clear c9
        replace H := Option.bind_eq_some_iff.mp H
        obtain ⟨t239,A100,H⟩ := H
        try dsimp only at H
        have A10 := Aside0.mk A100
        clear A100
        by_cases c11 : t239 = true
        ·subst c11
         rw [if_pos rfl] at H
         simp only [Option.some.injEq,Prod.mk.injEq] at H
         obtain ⟨rfl,rfl,rfl,rfl,rfl,rfl,rfl⟩ := H
         go_enter Tryz.func41,Tryz.ntmps41
         try go_wp2_with (first | ((with_reducible refine gate_dst (N:=2) rfl ?_); refine box_event ?hg (N:=2) ?hd (cs := #[.int .i64 0,.int .i64 0,.int .i64 0,.int .i64 0,.int .i64 0,.int .i64 0]) (t:=26) ?hr ?_; (case hd => rfl); (case hg => rfl); (case hr => first | (go_simp; done) | (go_simp; rfl)); intro gb227 hg w12 hbox hb; have n0_ := Aside0.mk (below_step bA hb); have n1_ := Aside0.mk (hbox); have n2_ := Aside0.mk ((gw hg : w.heap.size ≤ gb227)); have n3_ := Aside0.mk ((gw hg : w.heap.size ≤ gb227)); clear HB; have HB := n0_; have BK227 := n1_; have GW227 := n2_; have GE227 := n3_; clear n0_ n1_ n2_ n3_; clear hb hbox hg) | ((with_reducible refine gate_callee (f:=37) rfl ?_); refine goesL_ (some 9) rfl rfl Tryz.func37 (by kernel_rfl) rfl #[.string a0,.int .u8 44,.int .i64 6] rfl mA ?_; (with_reducible refine (spec_l02Numbers.calls k a0 44 6 t228 true _ A2.out).mono ?_); rintro e w13 ⟨v230,rfl,ho0,hb⟩; refine ⟨_,rfl,?_⟩; have n0_ := Aside0.mk (Kd.R_lower ho0 (below_size bA)); have n1_ := Aside0.mk (blk_below (g:=gb227) (o:=.cells #[.int .i64 0,.int .i64 0,.int .i64 0,.int .i64 0,.int .i64 0,.int .i64 0] 26 (0,0)) (kA BK227.out) hb); have n2_ := Aside0.mk (below_step bA hb); clear BK227; clear HB; have HO231 := n0_; have BK227 := n1_; have HB := n2_; clear n0_ n1_ n2_; (try clear hb); (try clear hb2); (try clear hk); (try clear hi); (try clear ho0)))
         have n0_ := Aside0.mk (Kd.R_drew HO231.out)
         have n1_ := Aside0.mk (blk_drew BK227.out)
         have n2_ := Aside0.mk (below_drew1 HB.out)
         clear HO231
         clear BK227
         clear HB
         have HO231 := n0_
         have BK227 := n1_
         have HB := n2_
         clear n0_ n1_ n2_
         obtain ⟨Ao15,co15,eo15⟩ := Kd.R_slice HO231.out
         (first | subst eo15 | (injection eo15 with f1_ f2_ f3_; have f4_ := f1_.symm; have f5_ := f3_.symm; clear f1_ f2_ f3_; subst f4_; subst f5_))
         have p232 : 0 ≤ (0 : Int) := (by omega)
         have q232 : 0 < (t228.length : Int) := od
         obtain ⟨ad232,e232,hx232_0⟩ := Kd.at_int (Kd.R_reads' HO231.out).2.2 0 p232 q232
         cases e232
         have qi232 : (0 < t228.length) = True := eq_true (by omega)
         (try rw [show ((0 : Int)).toNat = 0 from rfl] at hx232_0)
         (try rw [Addr.add_zero'] at hx232_0)
         replace p232 := eq_true p232
         replace q232 := eq_true q232
         have p233 : 0 ≤ (1 : Int) := (by omega)
         have q233 : 1 < (t228.length : Int) := od
         obtain ⟨ad233,e233,hx233_0⟩ := Kd.at_int (Kd.R_reads' HO231.out).2.2 1 p233 q233
         obtain rfl : ad232 = ad233 := (by injection e233)
         (try simp only [show (1 : Int).toNat = 1 from rfl,Nat.reduceMul,Nat.reduceEqDiff,Go.Addr.add,↓reduceIte] at hx233_0)
         have qi233 : (1 < t228.length) = True := eq_true (by omega)
         (try rw [show ((1 : Int)).toNat = 1 from rfl] at hx233_0)
         replace p233 := eq_true p233
         replace q233 := eq_true q233
         have p234 : 0 ≤ (2 : Int) := (by omega)
         have q234 : 2 < (t228.length : Int) := od
         obtain ⟨ad234,e234,hx234_0⟩ := Kd.at_int (Kd.R_reads' HO231.out).2.2 2 p234 q234
         obtain rfl : ad232 = ad234 := (by injection e234)
         (try simp only [show (2 : Int).toNat = 2 from rfl,Nat.reduceMul,Nat.reduceEqDiff,Go.Addr.add,↓reduceIte] at hx234_0)
         have qi234 : (2 < t228.length) = True := eq_true (by omega)
         (try rw [show ((2 : Int)).toNat = 2 from rfl] at hx234_0)
         replace p234 := eq_true p234
         replace q234 := eq_true q234
         have p235 : 0 ≤ (3 : Int) := (by omega)
         have q235 : 3 < (t228.length : Int) := od
         obtain ⟨ad235,e235,hx235_0⟩ := Kd.at_int (Kd.R_reads' HO231.out).2.2 3 p235 q235
         obtain rfl : ad232 = ad235 := (by injection e235)
         (try simp only [show (3 : Int).toNat = 3 from rfl,Nat.reduceMul,Nat.reduceEqDiff,Go.Addr.add,↓reduceIte] at hx235_0)
         have qi235 : (3 < t228.length) = True := eq_true (by omega)
         (try rw [show ((3 : Int)).toNat = 3 from rfl] at hx235_0)
         replace p235 := eq_true p235
         replace q235 := eq_true q235
         have p236 : 0 ≤ (4 : Int) := (by omega)
         have q236 : 4 < (t228.length : Int) := od
         obtain ⟨ad236,e236,hx236_0⟩ := Kd.at_int (Kd.R_reads' HO231.out).2.2 4 p236 q236
         obtain rfl : ad232 = ad236 := (by injection e236)
         (try simp only [show (4 : Int).toNat = 4 from rfl,Nat.reduceMul,Nat.reduceEqDiff,Go.Addr.add,↓reduceIte] at hx236_0)
         have qi236 : (4 < t228.length) = True := eq_true (by omega)
         (try rw [show ((4 : Int)).toNat = 4 from rfl] at hx236_0)
         replace p236 := eq_true p236
         replace q236 := eq_true q236
         have p237 : 0 ≤ (5 : Int) := (by omega)
         have q237 : 5 < (t228.length : Int) := od
         obtain ⟨ad237,e237,hx237_0⟩ := Kd.at_int (Kd.R_reads' HO231.out).2.2 5 p237 q237
         obtain rfl : ad232 = ad237 := (by injection e237)
         (try simp only [show (5 : Int).toNat = 5 from rfl,Nat.reduceMul,Nat.reduceEqDiff,Go.Addr.add,↓reduceIte] at hx237_0)
         have qi237 : (5 < t228.length) = True := eq_true (by omega)
         (try rw [show ((5 : Int)).toNat = 5 from rfl] at hx237_0)
         replace p237 := eq_true p237
         replace q237 := eq_true q237
         refine start_ (n:=21) (S:=fun w' => w'.cell? ad232 = some (.int .i64 (rd t228 0)) ∧ w'.cell? ⟨ad232.block,ad232.off + 1,none⟩ = some (.int .i64 (rd t228 1)) ∧ w'.cell? ⟨ad232.block,ad232.off + 2,none⟩ = some (.int .i64 (rd t228 2)) ∧ w'.cell? ⟨ad232.block,ad232.off + 3,none⟩ = some (.int .i64 (rd t228 3)) ∧ w'.cell? ⟨ad232.block,ad232.off + 4,none⟩ = some (.int .i64 (rd t228 4)) ∧ w'.cell? ⟨ad232.block,ad232.off + 5,none⟩ = some (.int .i64 (rd t228 5))) (ds := []) (bm 21 0) (by kernel_rfl) rfl rfl ⟨hx232_0,hx233_0,hx234_0,hx235_0,hx236_0,hx237_0⟩ (fun hHeld => ?_); refine with_tabW spec_l02Read.tab4 spec_l02Read.bits4 (fun HT_ HW_ => ?_)
         generalize w13.drew = w14 at HO231 BK227 HB hx232_0 hx233_0 hx234_0 hx235_0 hx236_0 hx237_0 hHeld ⊢
         refine pV_ 0 15 (bm 21 1) HT_.out ?_
         refine pV_ 1 16 (bm 21 3) HT_.out ?_
         refine pV_ 3 18 (bm 21 11) HT_.out ?_
         refine pV_ 4 19 (bm 21 27) HT_.out ?_
         refine pV_ 6 21 (bm 21 91) HT_.out ?_
         refine pV_ 7 22 (bm 21 219) HT_.out ?_
         refine pV_ 9 24 (bm 21 731) HT_.out ?_
         refine pV_ 10 25 (bm 21 1755) HT_.out ?_
         refine pV_ 12 27 (bm 21 5851) HT_.out ?_
         refine pV_ 13 28 (bm 21 14043) HT_.out ?_
         refine pV_ 15 30 (bm 21 46811) HT_.out ?_
         refine pV_ 16 31 (bm 21 112347) HT_.out ?_
         refine take_ (i:=2) (N:=some 17) (v:=?_) (a':=?_) (bm 21 112351) rfl rfl (take_ofW HT_.out HW_.out (by kernel_rfl)) (fun _ _ _ h => h) (Or.inl ⟨by rfl,?_⟩) hHeld ?_ ?_
         rotate_left
         ·rintro w' ⟨s0,s1,s2,s3,s4,s5⟩
          go_simp
          with_reducible rfl
         rotate_left
         ·simp only [Act.put,setIfInBounds_toArray,set_cons_zero,set_cons_succ,i64_w,i32_w]
          rfl
         refine take_ (i:=5) (N:=some 20) (v:=?_) (a':=?_) (bm 21 112383) rfl rfl (take_ofW HT_.out HW_.out (by kernel_rfl)) (fun _ _ _ h => h) (Or.inl ⟨by rfl,?_⟩) hHeld ?_ ?_
         rotate_left
         ·rintro w' ⟨s0,s1,s2,s3,s4,s5⟩
          go_simp
          with_reducible rfl
         rotate_left
         ·simp only [Act.put,setIfInBounds_toArray,set_cons_zero,set_cons_succ,i64_w,i32_w]
          rfl
         refine take_ (i:=8) (N:=some 23) (v:=?_) (a':=?_) (bm 21 112639) rfl rfl (take_ofW HT_.out HW_.out (by kernel_rfl)) (fun _ _ _ h => h) (Or.inl ⟨by rfl,?_⟩) hHeld ?_ ?_
         rotate_left
         ·rintro w' ⟨s0,s1,s2,s3,s4,s5⟩
          go_simp
          with_reducible rfl
         rotate_left
         ·simp only [Act.put,setIfInBounds_toArray,set_cons_zero,set_cons_succ,i64_w,i32_w]
          rfl
         refine take_ (i:=11) (N:=some 26) (v:=?_) (a':=?_) (bm 21 114687) rfl rfl (take_ofW HT_.out HW_.out (by kernel_rfl)) (fun _ _ _ h => h) (Or.inl ⟨by rfl,?_⟩) hHeld ?_ ?_
         rotate_left
         ·rintro w' ⟨s0,s1,s2,s3,s4,s5⟩
          go_simp
          with_reducible rfl
         rotate_left
         ·simp only [Act.put,setIfInBounds_toArray,set_cons_zero,set_cons_succ,i64_w,i32_w]
          rfl
         refine take_ (i:=14) (N:=some 29) (v:=?_) (a':=?_) (bm 21 131071) rfl rfl (take_ofW HT_.out HW_.out (by kernel_rfl)) (fun _ _ _ h => h) (Or.inl ⟨by rfl,?_⟩) hHeld ?_ ?_
         rotate_left
         ·rintro w' ⟨s0,s1,s2,s3,s4,s5⟩
          go_simp
          with_reducible rfl
         rotate_left
         ·simp only [Act.put,setIfInBounds_toArray,set_cons_zero,set_cons_succ,i64_w,i32_w]
          rfl
         refine take_ (i:=17) (N:=some 32) (v:=?_) (a':=?_) (bm 21 262143) rfl rfl (take_ofW HT_.out HW_.out (by kernel_rfl)) (fun _ _ _ h => h) (Or.inl ⟨by rfl,?_⟩) hHeld ?_ ?_
         rotate_left
         ·rintro w' ⟨s0,s1,s2,s3,s4,s5⟩
          go_simp
          with_reducible rfl
         rotate_left
         ·simp only [Act.put,setIfInBounds_toArray,set_cons_zero,set_cons_succ,i64_w,i32_w]
          rfl
         refine pV_ 18 33 (bm 21 524287) HT_.out ?_
         refine one_ (i:=19) (N:=some 6) (bm 21 1048575) rfl rfl (one_of HT_.out (by kernel_rfl)) (by decide) (fun K hK => ?_)
         refine box_step ?hg (N:=6) ?hd (cs := #[.int .i64 0,.int .i64 0,.int .i64 0,.int .i64 0,.int .i64 0,.int .i64 0]) (t:=26) ?hr ?_; (case hd => rfl); (case hg => rfl); (case hr => first | (go_simp; done) | (go_simp; rfl))
         intro gb238 hg w16 hbox hb
         have HS0_ := (hb.cell (World.block_lt_of_cell? _ _ (hHeld.1))).trans (hHeld.1)
         have HS1_ := (hb.cell (World.block_lt_of_cell? _ _ (hHeld.2.1))).trans (hHeld.2.1)
         have HS2_ := (hb.cell (World.block_lt_of_cell? _ _ (hHeld.2.2.1))).trans (hHeld.2.2.1)
         have HS3_ := (hb.cell (World.block_lt_of_cell? _ _ (hHeld.2.2.2.1))).trans (hHeld.2.2.2.1)
         have HS4_ := (hb.cell (World.block_lt_of_cell? _ _ (hHeld.2.2.2.2.1))).trans (hHeld.2.2.2.2.1)
         have HS5_ := (hb.cell (World.block_lt_of_cell? _ _ (hHeld.2.2.2.2.2))).trans (hHeld.2.2.2.2.2)
         have n0_ := Aside0.mk (Kd.R_below (rA HO231.out) hb)
         have n1_ := Aside0.mk (blk_below (g:=gb227) (o:=.cells #[.int .i64 0,.int .i64 0,.int .i64 0,.int .i64 0,.int .i64 0,.int .i64 0] 26 (0,0)) (kA BK227.out) hb)
         have n2_ := Aside0.mk (below_step bA hb)
         have n3_ := Aside0.mk (hbox)
         have n4_ := Aside0.mk ((gw hg : w.heap.size ≤ gb238))
         have n5_ := Aside0.mk ((gw hg : w.heap.size ≤ gb238))
         have n6_ := Aside0.mk ((by rw [hg]; exact Nat.ne_of_lt (blk_lt (g:=gb227) (o:=.cells #[.int .i64 0,.int .i64 0,.int .i64 0,.int .i64 0,.int .i64 0,.int .i64 0] 26 (0,0)) (kA BK227.out)) : gb227 ≠ gb238))
         have n7_ := Aside0.mk ((by rw [hg]; exact Nat.ne_of_gt (blk_lt (g:=gb227) (o:=.cells #[.int .i64 0,.int .i64 0,.int .i64 0,.int .i64 0,.int .i64 0,.int .i64 0] 26 (0,0)) (kA BK227.out)) : gb238 ≠ gb227))
         clear HO231
         clear BK227
         clear HB
         have HO231 := n0_
         have BK227 := n1_
         have HB := n2_
         have BK238 := n3_
         have GW238 := n4_
         have GE238 := n5_
         have NB227_238 := n6_
         have NB238_227 := n7_
         clear n0_ n1_ n2_ n3_ n4_ n5_ n6_ n7_
         clear hb hbox hg
         refine hK.out _ _ ⟨HS0_,HS1_,HS2_,HS3_,HS4_,HS5_⟩ (fun hHeld => ?_)
         clear hK K
         refine norm_ (a':=?_) ?_ ?_
         rotate_left
         ·show Act.put _ (some 6) _ = _
          simp only [Act.put,setIfInBounds_toArray,set_cons_zero,set_cons_succ,i64_w,i32_w]
          rfl
         refine one_ (i:=20) (N:=none) (bm 21 2097151) rfl rfl (one_of HT_.out (by kernel_rfl)) (by decide) (fun K hK => ?_)
         have hs17 : w16.cell? ⟨gb238,0,none⟩ = some (.int .i64 0) := (blk_cell BK238.out 0).trans rfl
         have hfs17 := blk_frozen BK238.out 0
         have hns17_0 := NB227_238.out
         have hms17_0 := NB238_227.out
         have hs18 : w16.cell? ⟨gb238,1,none⟩ = some (.int .i64 0) := (blk_cell BK238.out 1).trans rfl
         have hfs18 := blk_frozen BK238.out 1
         have hns18_0 := NB227_238.out
         have hms18_0 := NB238_227.out
         have hs19 : w16.cell? ⟨gb238,2,none⟩ = some (.int .i64 0) := (blk_cell BK238.out 2).trans rfl
         have hfs19 := blk_frozen BK238.out 2
         have hns19_0 := NB227_238.out
         have hms19_0 := NB238_227.out
         have hs20 : w16.cell? ⟨gb238,3,none⟩ = some (.int .i64 0) := (blk_cell BK238.out 3).trans rfl
         have hfs20 := blk_frozen BK238.out 3
         have hns20_0 := NB227_238.out
         have hms20_0 := NB238_227.out
         have hs21 : w16.cell? ⟨gb238,4,none⟩ = some (.int .i64 0) := (blk_cell BK238.out 4).trans rfl
         have hfs21 := blk_frozen BK238.out 4
         have hns21_0 := NB227_238.out
         have hms21_0 := NB238_227.out
         have hs22 : w16.cell? ⟨gb238,5,none⟩ = some (.int .i64 0) := (blk_cell BK238.out 5).trans rfl
         have hfs22 := blk_frozen BK238.out 5
         have hns22_0 := NB227_238.out
         have hms22_0 := NB238_227.out
         refine skip_ (w1 := ?_) (by rfl) rfl ?_ ?_
         rotate_left
         ·go_simp
          rfl
         refine hK.out _ _ ⟨((cfA (p:=⟨gb238,_,none⟩) (Kd.own_blk (Kd.R_ne HO231.out BK238.out (by decide)))).trans (((cfA (p:=⟨gb238,_,none⟩) (Kd.own_blk (Kd.R_ne HO231.out BK238.out (by decide)))).trans (((cfA (p:=⟨gb238,_,none⟩) (Kd.own_blk (Kd.R_ne HO231.out BK238.out (by decide)))).trans (((cfA (p:=⟨gb238,_,none⟩) (Kd.own_blk (Kd.R_ne HO231.out BK238.out (by decide)))).trans (((cfA (p:=⟨gb238,_,none⟩) (Kd.own_blk (Kd.R_ne HO231.out BK238.out (by decide)))).trans (((cfA (p:=⟨gb238,_,none⟩) (Kd.own_blk (Kd.R_ne HO231.out BK238.out (by decide)))).trans (hHeld.1)))))))))))),((cfA (p:=⟨gb238,_,none⟩) (Kd.own_blk (Kd.R_ne HO231.out BK238.out (by decide)))).trans (((cfA (p:=⟨gb238,_,none⟩) (Kd.own_blk (Kd.R_ne HO231.out BK238.out (by decide)))).trans (((cfA (p:=⟨gb238,_,none⟩) (Kd.own_blk (Kd.R_ne HO231.out BK238.out (by decide)))).trans (((cfA (p:=⟨gb238,_,none⟩) (Kd.own_blk (Kd.R_ne HO231.out BK238.out (by decide)))).trans (((cfA (p:=⟨gb238,_,none⟩) (Kd.own_blk (Kd.R_ne HO231.out BK238.out (by decide)))).trans (((cfA (p:=⟨gb238,_,none⟩) (Kd.own_blk (Kd.R_ne HO231.out BK238.out (by decide)))).trans (hHeld.2.1)))))))))))),((cfA (p:=⟨gb238,_,none⟩) (Kd.own_blk (Kd.R_ne HO231.out BK238.out (by decide)))).trans (((cfA (p:=⟨gb238,_,none⟩) (Kd.own_blk (Kd.R_ne HO231.out BK238.out (by decide)))).trans (((cfA (p:=⟨gb238,_,none⟩) (Kd.own_blk (Kd.R_ne HO231.out BK238.out (by decide)))).trans (((cfA (p:=⟨gb238,_,none⟩) (Kd.own_blk (Kd.R_ne HO231.out BK238.out (by decide)))).trans (((cfA (p:=⟨gb238,_,none⟩) (Kd.own_blk (Kd.R_ne HO231.out BK238.out (by decide)))).trans (((cfA (p:=⟨gb238,_,none⟩) (Kd.own_blk (Kd.R_ne HO231.out BK238.out (by decide)))).trans (hHeld.2.2.1)))))))))))),((cfA (p:=⟨gb238,_,none⟩) (Kd.own_blk (Kd.R_ne HO231.out BK238.out (by decide)))).trans (((cfA (p:=⟨gb238,_,none⟩) (Kd.own_blk (Kd.R_ne HO231.out BK238.out (by decide)))).trans (((cfA (p:=⟨gb238,_,none⟩) (Kd.own_blk (Kd.R_ne HO231.out BK238.out (by decide)))).trans (((cfA (p:=⟨gb238,_,none⟩) (Kd.own_blk (Kd.R_ne HO231.out BK238.out (by decide)))).trans (((cfA (p:=⟨gb238,_,none⟩) (Kd.own_blk (Kd.R_ne HO231.out BK238.out (by decide)))).trans (((cfA (p:=⟨gb238,_,none⟩) (Kd.own_blk (Kd.R_ne HO231.out BK238.out (by decide)))).trans (hHeld.2.2.2.1)))))))))))),((cfA (p:=⟨gb238,_,none⟩) (Kd.own_blk (Kd.R_ne HO231.out BK238.out (by decide)))).trans (((cfA (p:=⟨gb238,_,none⟩) (Kd.own_blk (Kd.R_ne HO231.out BK238.out (by decide)))).trans (((cfA (p:=⟨gb238,_,none⟩) (Kd.own_blk (Kd.R_ne HO231.out BK238.out (by decide)))).trans (((cfA (p:=⟨gb238,_,none⟩) (Kd.own_blk (Kd.R_ne HO231.out BK238.out (by decide)))).trans (((cfA (p:=⟨gb238,_,none⟩) (Kd.own_blk (Kd.R_ne HO231.out BK238.out (by decide)))).trans (((cfA (p:=⟨gb238,_,none⟩) (Kd.own_blk (Kd.R_ne HO231.out BK238.out (by decide)))).trans (hHeld.2.2.2.2.1)))))))))))),((cfA (p:=⟨gb238,_,none⟩) (Kd.own_blk (Kd.R_ne HO231.out BK238.out (by decide)))).trans (((cfA (p:=⟨gb238,_,none⟩) (Kd.own_blk (Kd.R_ne HO231.out BK238.out (by decide)))).trans (((cfA (p:=⟨gb238,_,none⟩) (Kd.own_blk (Kd.R_ne HO231.out BK238.out (by decide)))).trans (((cfA (p:=⟨gb238,_,none⟩) (Kd.own_blk (Kd.R_ne HO231.out BK238.out (by decide)))).trans (((cfA (p:=⟨gb238,_,none⟩) (Kd.own_blk (Kd.R_ne HO231.out BK238.out (by decide)))).trans (((cfA (p:=⟨gb238,_,none⟩) (Kd.own_blk (Kd.R_ne HO231.out BK238.out (by decide)))).trans (hHeld.2.2.2.2.2))))))))))))⟩ (fun hHeld => ?_)
         clear hK K
         refine done_ (done_of HT_.out (by kernel_rfl)) ?_
         have hnb23 := NB238_227.out
         have hnc23 := NB227_238.out
         have hcz24_0 : w16.cell? ⟨gb238,0,none⟩ = some (.int .i64 0) := (blk_cell BK238.out 0).trans rfl
         have hcz24_1 : w16.cell? ⟨gb238,1,none⟩ = some (.int .i64 0) := (blk_cell BK238.out 1).trans rfl
         have hcz24_2 : w16.cell? ⟨gb238,2,none⟩ = some (.int .i64 0) := (blk_cell BK238.out 2).trans rfl
         have hcz24_3 : w16.cell? ⟨gb238,3,none⟩ = some (.int .i64 0) := (blk_cell BK238.out 3).trans rfl
         have hcz24_4 : w16.cell? ⟨gb238,4,none⟩ = some (.int .i64 0) := (blk_cell BK238.out 4).trans rfl
         have hcz24_5 : w16.cell? ⟨gb238,5,none⟩ = some (.int .i64 0) := (blk_cell BK238.out 5).trans rfl
         have hfz24_0 := blk_frozen BK238.out 0
         have hfz24_1 := blk_frozen BK238.out 1
         have hfz24_2 := blk_frozen BK238.out 2
         have hfz24_3 := blk_frozen BK238.out 3
         have hfz24_4 := blk_frozen BK238.out 4
         have hfz24_5 := blk_frozen BK238.out 5
         try go_wp2_with (first | ((with_reducible refine gate_callee (f:=62) rfl ?_); refine goesL_ (some 35) rfl rfl Tryz.func62 (by kernel_rfl) rfl #[.agg #[.int .i64 (rd t228 0),.int .i64 (rd t228 1),.int .i64 (rd t228 2),.int .i64 (rd t228 3),.int .i64 (rd t228 4),.int .i64 (rd t228 5)]] rfl mA ?_; (with_reducible refine (spec_AggOK.calls (rd t228 0) (rd t228 1) (rd t228 2) (rd t228 3) (rd t228 4) (rd t228 5) true _ A10.out).mono ?_); rintro e w25 ⟨rfl,hb⟩; refine ⟨_,rfl,?_⟩; have n0_ := Aside0.mk (Kd.R_below (by (with_reducible repeat (first | apply Kd.R_alloc | apply Kd.R_drewN | apply Kd.R_drew)); exact (Kd.R_mono (Kd.R_far (p:=⟨gb238,5,none⟩) (Kd.R_far (p:=⟨gb238,4,none⟩) (Kd.R_far (p:=⟨gb238,3,none⟩) (Kd.R_far (p:=⟨gb238,2,none⟩) (Kd.R_far (p:=⟨gb238,1,none⟩) (Kd.R_far (p:=⟨gb238,0,none⟩) (Kd.R_types HO231.out BK238.out (by decide)) (fun _ hk => hk.2) (.int .i64 (rd t228 0))) (fun _ hk => hk.2) (.int .i64 (rd t228 1))) (fun _ hk => hk.2) (.int .i64 (rd t228 2))) (fun _ hk => hk.2) (.int .i64 (rd t228 3))) (fun _ hk => hk.2) (.int .i64 (rd t228 4))) (fun _ hk => hk.2) (.int .i64 (rd t228 5))) (fun _ h_ => h_.1))) hb); have n1_ := Aside0.mk (blk_below (g:=gb227) (o:=.cells #[.int .i64 0,.int .i64 0,.int .i64 0,.int .i64 0,.int .i64 0,.int .i64 0] 26 (0,0)) (kF BK227.out) hb); have n2_ := Aside0.mk (blk_below (g:=gb238) (o:=.cells #[.int .i64 (rd t228 0),.int .i64 (rd t228 1),.int .i64 (rd t228 2),.int .i64 (rd t228 3),.int .i64 (rd t228 4),.int .i64 (rd t228 5)] 26 (0,0)) (by (with_reducible repeat (first | refine blk_drewN ?_ _ | refine blk_drew ?_ | refine blk_alloc ?_ _)); apply blkp6; (with_reducible repeat (first | refine blk_drewN ?_ _ | refine blk_drew ?_ | refine blk_alloc ?_ _)); exact BK238.out) hb); have n3_ := Aside0.mk (below_step bA hb); clear HO231; clear BK227; clear BK238; clear HB; have HO231 := n0_; have BK227 := n1_; have BK238 := n2_; have HB := n3_; clear n0_ n1_ n2_ n3_; (try clear hb); (try clear hb2); (try clear hk); (try clear hi); have hcz26_0 : w25.cell? ⟨gb238,0,none⟩ = some (.int .i64 (rd t228 0)) := (blk_cell BK238.out 0).trans rfl; have hcz26_1 : w25.cell? ⟨gb238,1,none⟩ = some (.int .i64 (rd t228 1)) := (blk_cell BK238.out 1).trans rfl; have hcz26_2 : w25.cell? ⟨gb238,2,none⟩ = some (.int .i64 (rd t228 2)) := (blk_cell BK238.out 2).trans rfl; have hcz26_3 : w25.cell? ⟨gb238,3,none⟩ = some (.int .i64 (rd t228 3)) := (blk_cell BK238.out 3).trans rfl; have hcz26_4 : w25.cell? ⟨gb238,4,none⟩ = some (.int .i64 (rd t228 4)) := (blk_cell BK238.out 4).trans rfl; have hcz26_5 : w25.cell? ⟨gb238,5,none⟩ = some (.int .i64 (rd t228 5)) := (blk_cell BK238.out 5).trans rfl; have hfz26_0 := blk_frozen BK238.out 0; have hfz26_1 := blk_frozen BK238.out 1; have hfz26_2 := blk_frozen BK238.out 2; have hfz26_3 := blk_frozen BK238.out 3; have hfz26_4 := blk_frozen BK238.out 4; have hfz26_5 := blk_frozen BK238.out 5; have hcz27_0 : w25.cell? ⟨gb227,0,none⟩ = some (.int .i64 0) := (blk_cell BK227.out 0).trans rfl; have hcz27_1 : w25.cell? ⟨gb227,1,none⟩ = some (.int .i64 0) := (blk_cell BK227.out 1).trans rfl; have hcz27_2 : w25.cell? ⟨gb227,2,none⟩ = some (.int .i64 0) := (blk_cell BK227.out 2).trans rfl; have hcz27_3 : w25.cell? ⟨gb227,3,none⟩ = some (.int .i64 0) := (blk_cell BK227.out 3).trans rfl; have hcz27_4 : w25.cell? ⟨gb227,4,none⟩ = some (.int .i64 0) := (blk_cell BK227.out 4).trans rfl; have hcz27_5 : w25.cell? ⟨gb227,5,none⟩ = some (.int .i64 0) := (blk_cell BK227.out 5).trans rfl; have hfz27_0 := blk_frozen BK227.out 0; have hfz27_1 := blk_frozen BK227.out 1; have hfz27_2 := blk_frozen BK227.out 2; have hfz27_3 := blk_frozen BK227.out 3; have hfz27_4 := blk_frozen BK227.out 4; have hfz27_5 := blk_frozen BK227.out 5))
         refine bodyPost_ret (results_ct rfl _ _ gb227 26 #[.int .i64 (rd t228 0),.int .i64 (rd t228 1),.int .i64 (rd t228 2),.int .i64 (rd t228 3),.int .i64 (rd t228 4),.int .i64 (rd t228 5)] (0,0) _ rfl (by (with_reducible repeat (first | refine blk_drewN ?_ _ | refine blk_drew ?_ | refine blk_alloc ?_ _)); apply blkp6; (with_reducible repeat (first | refine blk_drewN ?_ _ | refine blk_drew ?_ | refine blk_alloc ?_ _)); exact BK227.out) Tryz.underlying26 rfl (by kernel_rfl)) rfl ?_
         exact ⟨by first | rfl | (simp [errW_none,errW_some] <;> rfl) | (simp [*,errW_none,errW_some] <;> rfl),bA⟩
        ·replace c11 := Bool.eq_false_iff.mpr c11
         subst c11
         rw [if_neg (show ¬ (false = true) by decide)] at H
         simp only [Option.some.injEq,Prod.mk.injEq] at H
         obtain ⟨rfl,rfl,rfl,rfl,rfl,rfl,rfl⟩ := H
         go_enter Tryz.func41,Tryz.ntmps41
         try go_wp2_with (first | ((with_reducible refine gate_dst (N:=2) rfl ?_); refine box_event ?hg (N:=2) ?hd (cs := #[.int .i64 0,.int .i64 0,.int .i64 0,.int .i64 0,.int .i64 0,.int .i64 0]) (t:=26) ?hr ?_; (case hd => rfl); (case hg => rfl); (case hr => first | (go_simp; done) | (go_simp; rfl)); intro gb227 hg w28 hbox hb; have n0_ := Aside0.mk (below_step bA hb); have n1_ := Aside0.mk (hbox); have n2_ := Aside0.mk ((gw hg : w.heap.size ≤ gb227)); have n3_ := Aside0.mk ((gw hg : w.heap.size ≤ gb227)); clear HB; have HB := n0_; have BK227 := n1_; have GW227 := n2_; have GE227 := n3_; clear n0_ n1_ n2_ n3_; clear hb hbox hg) | ((with_reducible refine gate_callee (f:=37) rfl ?_); refine goesL_ (some 9) rfl rfl Tryz.func37 (by kernel_rfl) rfl #[.string a0,.int .u8 44,.int .i64 6] rfl mA ?_; (with_reducible refine (spec_l02Numbers.calls k a0 44 6 t228 true _ A2.out).mono ?_); rintro e w29 ⟨v230,rfl,ho0,hb⟩; refine ⟨_,rfl,?_⟩; have n0_ := Aside0.mk (Kd.R_lower ho0 (below_size bA)); have n1_ := Aside0.mk (blk_below (g:=gb227) (o:=.cells #[.int .i64 0,.int .i64 0,.int .i64 0,.int .i64 0,.int .i64 0,.int .i64 0] 26 (0,0)) (kA BK227.out) hb); have n2_ := Aside0.mk (below_step bA hb); clear BK227; clear HB; have HO231 := n0_; have BK227 := n1_; have HB := n2_; clear n0_ n1_ n2_; (try clear hb); (try clear hb2); (try clear hk); (try clear hi); (try clear ho0)))
         have n0_ := Aside0.mk (Kd.R_drew HO231.out)
         have n1_ := Aside0.mk (blk_drew BK227.out)
         have n2_ := Aside0.mk (below_drew1 HB.out)
         clear HO231
         clear BK227
         clear HB
         have HO231 := n0_
         have BK227 := n1_
         have HB := n2_
         clear n0_ n1_ n2_
         obtain ⟨Ao31,co31,eo31⟩ := Kd.R_slice HO231.out
         (first | subst eo31 | (injection eo31 with f1_ f2_ f3_; have f4_ := f1_.symm; have f5_ := f3_.symm; clear f1_ f2_ f3_; subst f4_; subst f5_))
         have p232 : 0 ≤ (0 : Int) := (by omega)
         have q232 : 0 < (t228.length : Int) := od
         obtain ⟨ad232,e232,hx232_0⟩ := Kd.at_int (Kd.R_reads' HO231.out).2.2 0 p232 q232
         cases e232
         have qi232 : (0 < t228.length) = True := eq_true (by omega)
         (try rw [show ((0 : Int)).toNat = 0 from rfl] at hx232_0)
         (try rw [Addr.add_zero'] at hx232_0)
         replace p232 := eq_true p232
         replace q232 := eq_true q232
         have p233 : 0 ≤ (1 : Int) := (by omega)
         have q233 : 1 < (t228.length : Int) := od
         obtain ⟨ad233,e233,hx233_0⟩ := Kd.at_int (Kd.R_reads' HO231.out).2.2 1 p233 q233
         obtain rfl : ad232 = ad233 := (by injection e233)
         (try simp only [show (1 : Int).toNat = 1 from rfl,Nat.reduceMul,Nat.reduceEqDiff,Go.Addr.add,↓reduceIte] at hx233_0)
         have qi233 : (1 < t228.length) = True := eq_true (by omega)
         (try rw [show ((1 : Int)).toNat = 1 from rfl] at hx233_0)
         replace p233 := eq_true p233
         replace q233 := eq_true q233
         have p234 : 0 ≤ (2 : Int) := (by omega)
         have q234 : 2 < (t228.length : Int) := od
         obtain ⟨ad234,e234,hx234_0⟩ := Kd.at_int (Kd.R_reads' HO231.out).2.2 2 p234 q234
         obtain rfl : ad232 = ad234 := (by injection e234)
         (try simp only [show (2 : Int).toNat = 2 from rfl,Nat.reduceMul,Nat.reduceEqDiff,Go.Addr.add,↓reduceIte] at hx234_0)
         have qi234 : (2 < t228.length) = True := eq_true (by omega)
         (try rw [show ((2 : Int)).toNat = 2 from rfl] at hx234_0)
         replace p234 := eq_true p234
         replace q234 := eq_true q234
         have p235 : 0 ≤ (3 : Int) := (by omega)
         have q235 : 3 < (t228.length : Int) := od
         obtain ⟨ad235,e235,hx235_0⟩ := Kd.at_int (Kd.R_reads' HO231.out).2.2 3 p235 q235
         obtain rfl : ad232 = ad235 := (by injection e235)
         (try simp only [show (3 : Int).toNat = 3 from rfl,Nat.reduceMul,Nat.reduceEqDiff,Go.Addr.add,↓reduceIte] at hx235_0)
         have qi235 : (3 < t228.length) = True := eq_true (by omega)
         (try rw [show ((3 : Int)).toNat = 3 from rfl] at hx235_0)
         replace p235 := eq_true p235
         replace q235 := eq_true q235
         have p236 : 0 ≤ (4 : Int) := (by omega)
         have q236 : 4 < (t228.length : Int) := od
         obtain ⟨ad236,e236,hx236_0⟩ := Kd.at_int (Kd.R_reads' HO231.out).2.2 4 p236 q236
         obtain rfl : ad232 = ad236 := (by injection e236)
         (try simp only [show (4 : Int).toNat = 4 from rfl,Nat.reduceMul,Nat.reduceEqDiff,Go.Addr.add,↓reduceIte] at hx236_0)
         have qi236 : (4 < t228.length) = True := eq_true (by omega)
         (try rw [show ((4 : Int)).toNat = 4 from rfl] at hx236_0)
         replace p236 := eq_true p236
         replace q236 := eq_true q236
         have p237 : 0 ≤ (5 : Int) := (by omega)
         have q237 : 5 < (t228.length : Int) := od
         obtain ⟨ad237,e237,hx237_0⟩ := Kd.at_int (Kd.R_reads' HO231.out).2.2 5 p237 q237
         obtain rfl : ad232 = ad237 := (by injection e237)
         (try simp only [show (5 : Int).toNat = 5 from rfl,Nat.reduceMul,Nat.reduceEqDiff,Go.Addr.add,↓reduceIte] at hx237_0)
         have qi237 : (5 < t228.length) = True := eq_true (by omega)
         (try rw [show ((5 : Int)).toNat = 5 from rfl] at hx237_0)
         replace p237 := eq_true p237
         replace q237 := eq_true q237
         refine start_ (n:=21) (S:=fun w' => w'.cell? ad232 = some (.int .i64 (rd t228 0)) ∧ w'.cell? ⟨ad232.block,ad232.off + 1,none⟩ = some (.int .i64 (rd t228 1)) ∧ w'.cell? ⟨ad232.block,ad232.off + 2,none⟩ = some (.int .i64 (rd t228 2)) ∧ w'.cell? ⟨ad232.block,ad232.off + 3,none⟩ = some (.int .i64 (rd t228 3)) ∧ w'.cell? ⟨ad232.block,ad232.off + 4,none⟩ = some (.int .i64 (rd t228 4)) ∧ w'.cell? ⟨ad232.block,ad232.off + 5,none⟩ = some (.int .i64 (rd t228 5))) (ds := []) (bm 21 0) (by kernel_rfl) rfl rfl ⟨hx232_0,hx233_0,hx234_0,hx235_0,hx236_0,hx237_0⟩ (fun hHeld => ?_); refine with_tabW spec_l02Read.tab4 spec_l02Read.bits4 (fun HT_ HW_ => ?_)
         generalize w29.drew = w30 at HO231 BK227 HB hx232_0 hx233_0 hx234_0 hx235_0 hx236_0 hx237_0 hHeld ⊢
         refine pV_ 0 15 (bm 21 1) HT_.out ?_
         refine pV_ 1 16 (bm 21 3) HT_.out ?_
         refine pV_ 3 18 (bm 21 11) HT_.out ?_
         refine pV_ 4 19 (bm 21 27) HT_.out ?_
         refine pV_ 6 21 (bm 21 91) HT_.out ?_
         refine pV_ 7 22 (bm 21 219) HT_.out ?_
         refine pV_ 9 24 (bm 21 731) HT_.out ?_
         refine pV_ 10 25 (bm 21 1755) HT_.out ?_
         refine pV_ 12 27 (bm 21 5851) HT_.out ?_
         refine pV_ 13 28 (bm 21 14043) HT_.out ?_
         refine pV_ 15 30 (bm 21 46811) HT_.out ?_
         refine pV_ 16 31 (bm 21 112347) HT_.out ?_
         refine take_ (i:=2) (N:=some 17) (v:=?_) (a':=?_) (bm 21 112351) rfl rfl (take_ofW HT_.out HW_.out (by kernel_rfl)) (fun _ _ _ h => h) (Or.inl ⟨by rfl,?_⟩) hHeld ?_ ?_
         rotate_left
         ·rintro w' ⟨s0,s1,s2,s3,s4,s5⟩
          go_simp
          with_reducible rfl
         rotate_left
         ·simp only [Act.put,setIfInBounds_toArray,set_cons_zero,set_cons_succ,i64_w,i32_w]
          rfl
         refine take_ (i:=5) (N:=some 20) (v:=?_) (a':=?_) (bm 21 112383) rfl rfl (take_ofW HT_.out HW_.out (by kernel_rfl)) (fun _ _ _ h => h) (Or.inl ⟨by rfl,?_⟩) hHeld ?_ ?_
         rotate_left
         ·rintro w' ⟨s0,s1,s2,s3,s4,s5⟩
          go_simp
          with_reducible rfl
         rotate_left
         ·simp only [Act.put,setIfInBounds_toArray,set_cons_zero,set_cons_succ,i64_w,i32_w]
          rfl
         refine take_ (i:=8) (N:=some 23) (v:=?_) (a':=?_) (bm 21 112639) rfl rfl (take_ofW HT_.out HW_.out (by kernel_rfl)) (fun _ _ _ h => h) (Or.inl ⟨by rfl,?_⟩) hHeld ?_ ?_
         rotate_left
         ·rintro w' ⟨s0,s1,s2,s3,s4,s5⟩
          go_simp
          with_reducible rfl
         rotate_left
         ·simp only [Act.put,setIfInBounds_toArray,set_cons_zero,set_cons_succ,i64_w,i32_w]
          rfl
         refine take_ (i:=11) (N:=some 26) (v:=?_) (a':=?_) (bm 21 114687) rfl rfl (take_ofW HT_.out HW_.out (by kernel_rfl)) (fun _ _ _ h => h) (Or.inl ⟨by rfl,?_⟩) hHeld ?_ ?_
         rotate_left
         ·rintro w' ⟨s0,s1,s2,s3,s4,s5⟩
          go_simp
          with_reducible rfl
         rotate_left
         ·simp only [Act.put,setIfInBounds_toArray,set_cons_zero,set_cons_succ,i64_w,i32_w]
          rfl
         refine take_ (i:=14) (N:=some 29) (v:=?_) (a':=?_) (bm 21 131071) rfl rfl (take_ofW HT_.out HW_.out (by kernel_rfl)) (fun _ _ _ h => h) (Or.inl ⟨by rfl,?_⟩) hHeld ?_ ?_
         rotate_left
         ·rintro w' ⟨s0,s1,s2,s3,s4,s5⟩
          go_simp
          with_reducible rfl
         rotate_left
         ·simp only [Act.put,setIfInBounds_toArray,set_cons_zero,set_cons_succ,i64_w,i32_w]
          rfl
         refine take_ (i:=17) (N:=some 32) (v:=?_) (a':=?_) (bm 21 262143) rfl rfl (take_ofW HT_.out HW_.out (by kernel_rfl)) (fun _ _ _ h => h) (Or.inl ⟨by rfl,?_⟩) hHeld ?_ ?_
         rotate_left
         ·rintro w' ⟨s0,s1,s2,s3,s4,s5⟩
          go_simp
          with_reducible rfl
         rotate_left
         ·simp only [Act.put,setIfInBounds_toArray,set_cons_zero,set_cons_succ,i64_w,i32_w]
          rfl
         refine pV_ 18 33 (bm 21 524287) HT_.out ?_
         refine one_ (i:=19) (N:=some 6) (bm 21 1048575) rfl rfl (one_of HT_.out (by kernel_rfl)) (by decide) (fun K hK => ?_)
         refine box_step ?hg (N:=6) ?hd (cs := #[.int .i64 0,.int .i64 0,.int .i64 0,.int .i64 0,.int .i64 0,.int .i64 0]) (t:=26) ?hr ?_; (case hd => rfl); (case hg => rfl); (case hr => first | (go_simp; done) | (go_simp; rfl))
         intro gb238 hg w32 hbox hb
         have HS0_ := (hb.cell (World.block_lt_of_cell? _ _ (hHeld.1))).trans (hHeld.1)
         have HS1_ := (hb.cell (World.block_lt_of_cell? _ _ (hHeld.2.1))).trans (hHeld.2.1)
         have HS2_ := (hb.cell (World.block_lt_of_cell? _ _ (hHeld.2.2.1))).trans (hHeld.2.2.1)
         have HS3_ := (hb.cell (World.block_lt_of_cell? _ _ (hHeld.2.2.2.1))).trans (hHeld.2.2.2.1)
         have HS4_ := (hb.cell (World.block_lt_of_cell? _ _ (hHeld.2.2.2.2.1))).trans (hHeld.2.2.2.2.1)
         have HS5_ := (hb.cell (World.block_lt_of_cell? _ _ (hHeld.2.2.2.2.2))).trans (hHeld.2.2.2.2.2)
         have n0_ := Aside0.mk (Kd.R_below (rA HO231.out) hb)
         have n1_ := Aside0.mk (blk_below (g:=gb227) (o:=.cells #[.int .i64 0,.int .i64 0,.int .i64 0,.int .i64 0,.int .i64 0,.int .i64 0] 26 (0,0)) (kA BK227.out) hb)
         have n2_ := Aside0.mk (below_step bA hb)
         have n3_ := Aside0.mk (hbox)
         have n4_ := Aside0.mk ((gw hg : w.heap.size ≤ gb238))
         have n5_ := Aside0.mk ((gw hg : w.heap.size ≤ gb238))
         have n6_ := Aside0.mk ((by rw [hg]; exact Nat.ne_of_lt (blk_lt (g:=gb227) (o:=.cells #[.int .i64 0,.int .i64 0,.int .i64 0,.int .i64 0,.int .i64 0,.int .i64 0] 26 (0,0)) (kA BK227.out)) : gb227 ≠ gb238))
         have n7_ := Aside0.mk ((by rw [hg]; exact Nat.ne_of_gt (blk_lt (g:=gb227) (o:=.cells #[.int .i64 0,.int .i64 0,.int .i64 0,.int .i64 0,.int .i64 0,.int .i64 0] 26 (0,0)) (kA BK227.out)) : gb238 ≠ gb227))
         clear HO231
         clear BK227
         clear HB
         have HO231 := n0_
         have BK227 := n1_
         have HB := n2_
         have BK238 := n3_
         have GW238 := n4_
         have GE238 := n5_
         have NB227_238 := n6_
         have NB238_227 := n7_
         clear n0_ n1_ n2_ n3_ n4_ n5_ n6_ n7_
         clear hb hbox hg
         refine hK.out _ _ ⟨HS0_,HS1_,HS2_,HS3_,HS4_,HS5_⟩ (fun hHeld => ?_)
         clear hK K
         refine norm_ (a':=?_) ?_ ?_
         rotate_left
         ·show Act.put _ (some 6) _ = _
          simp only [Act.put,setIfInBounds_toArray,set_cons_zero,set_cons_succ,i64_w,i32_w]
          rfl
         refine one_ (i:=20) (N:=none) (bm 21 2097151) rfl rfl (one_of HT_.out (by kernel_rfl)) (by decide) (fun K hK => ?_)
         have hs33 : w32.cell? ⟨gb238,0,none⟩ = some (.int .i64 0) := (blk_cell BK238.out 0).trans rfl
         have hfs33 := blk_frozen BK238.out 0
         have hns33_0 := NB227_238.out
         have hms33_0 := NB238_227.out
         have hs34 : w32.cell? ⟨gb238,1,none⟩ = some (.int .i64 0) := (blk_cell BK238.out 1).trans rfl
         have hfs34 := blk_frozen BK238.out 1
         have hns34_0 := NB227_238.out
         have hms34_0 := NB238_227.out
         have hs35 : w32.cell? ⟨gb238,2,none⟩ = some (.int .i64 0) := (blk_cell BK238.out 2).trans rfl
         have hfs35 := blk_frozen BK238.out 2
         have hns35_0 := NB227_238.out
         have hms35_0 := NB238_227.out
         have hs36 : w32.cell? ⟨gb238,3,none⟩ = some (.int .i64 0) := (blk_cell BK238.out 3).trans rfl
         have hfs36 := blk_frozen BK238.out 3
         have hns36_0 := NB227_238.out
         have hms36_0 := NB238_227.out
         have hs37 : w32.cell? ⟨gb238,4,none⟩ = some (.int .i64 0) := (blk_cell BK238.out 4).trans rfl
         have hfs37 := blk_frozen BK238.out 4
         have hns37_0 := NB227_238.out
         have hms37_0 := NB238_227.out
         have hs38 : w32.cell? ⟨gb238,5,none⟩ = some (.int .i64 0) := (blk_cell BK238.out 5).trans rfl
         have hfs38 := blk_frozen BK238.out 5
         have hns38_0 := NB227_238.out
         have hms38_0 := NB238_227.out
         refine skip_ (w1 := ?_) (by rfl) rfl ?_ ?_
         rotate_left
         ·go_simp
          rfl
         refine hK.out _ _ ⟨((cfA (p:=⟨gb238,_,none⟩) (Kd.own_blk (Kd.R_ne HO231.out BK238.out (by decide)))).trans (((cfA (p:=⟨gb238,_,none⟩) (Kd.own_blk (Kd.R_ne HO231.out BK238.out (by decide)))).trans (((cfA (p:=⟨gb238,_,none⟩) (Kd.own_blk (Kd.R_ne HO231.out BK238.out (by decide)))).trans (((cfA (p:=⟨gb238,_,none⟩) (Kd.own_blk (Kd.R_ne HO231.out BK238.out (by decide)))).trans (((cfA (p:=⟨gb238,_,none⟩) (Kd.own_blk (Kd.R_ne HO231.out BK238.out (by decide)))).trans (((cfA (p:=⟨gb238,_,none⟩) (Kd.own_blk (Kd.R_ne HO231.out BK238.out (by decide)))).trans (hHeld.1)))))))))))),((cfA (p:=⟨gb238,_,none⟩) (Kd.own_blk (Kd.R_ne HO231.out BK238.out (by decide)))).trans (((cfA (p:=⟨gb238,_,none⟩) (Kd.own_blk (Kd.R_ne HO231.out BK238.out (by decide)))).trans (((cfA (p:=⟨gb238,_,none⟩) (Kd.own_blk (Kd.R_ne HO231.out BK238.out (by decide)))).trans (((cfA (p:=⟨gb238,_,none⟩) (Kd.own_blk (Kd.R_ne HO231.out BK238.out (by decide)))).trans (((cfA (p:=⟨gb238,_,none⟩) (Kd.own_blk (Kd.R_ne HO231.out BK238.out (by decide)))).trans (((cfA (p:=⟨gb238,_,none⟩) (Kd.own_blk (Kd.R_ne HO231.out BK238.out (by decide)))).trans (hHeld.2.1)))))))))))),((cfA (p:=⟨gb238,_,none⟩) (Kd.own_blk (Kd.R_ne HO231.out BK238.out (by decide)))).trans (((cfA (p:=⟨gb238,_,none⟩) (Kd.own_blk (Kd.R_ne HO231.out BK238.out (by decide)))).trans (((cfA (p:=⟨gb238,_,none⟩) (Kd.own_blk (Kd.R_ne HO231.out BK238.out (by decide)))).trans (((cfA (p:=⟨gb238,_,none⟩) (Kd.own_blk (Kd.R_ne HO231.out BK238.out (by decide)))).trans (((cfA (p:=⟨gb238,_,none⟩) (Kd.own_blk (Kd.R_ne HO231.out BK238.out (by decide)))).trans (((cfA (p:=⟨gb238,_,none⟩) (Kd.own_blk (Kd.R_ne HO231.out BK238.out (by decide)))).trans (hHeld.2.2.1)))))))))))),((cfA (p:=⟨gb238,_,none⟩) (Kd.own_blk (Kd.R_ne HO231.out BK238.out (by decide)))).trans (((cfA (p:=⟨gb238,_,none⟩) (Kd.own_blk (Kd.R_ne HO231.out BK238.out (by decide)))).trans (((cfA (p:=⟨gb238,_,none⟩) (Kd.own_blk (Kd.R_ne HO231.out BK238.out (by decide)))).trans (((cfA (p:=⟨gb238,_,none⟩) (Kd.own_blk (Kd.R_ne HO231.out BK238.out (by decide)))).trans (((cfA (p:=⟨gb238,_,none⟩) (Kd.own_blk (Kd.R_ne HO231.out BK238.out (by decide)))).trans (((cfA (p:=⟨gb238,_,none⟩) (Kd.own_blk (Kd.R_ne HO231.out BK238.out (by decide)))).trans (hHeld.2.2.2.1)))))))))))),((cfA (p:=⟨gb238,_,none⟩) (Kd.own_blk (Kd.R_ne HO231.out BK238.out (by decide)))).trans (((cfA (p:=⟨gb238,_,none⟩) (Kd.own_blk (Kd.R_ne HO231.out BK238.out (by decide)))).trans (((cfA (p:=⟨gb238,_,none⟩) (Kd.own_blk (Kd.R_ne HO231.out BK238.out (by decide)))).trans (((cfA (p:=⟨gb238,_,none⟩) (Kd.own_blk (Kd.R_ne HO231.out BK238.out (by decide)))).trans (((cfA (p:=⟨gb238,_,none⟩) (Kd.own_blk (Kd.R_ne HO231.out BK238.out (by decide)))).trans (((cfA (p:=⟨gb238,_,none⟩) (Kd.own_blk (Kd.R_ne HO231.out BK238.out (by decide)))).trans (hHeld.2.2.2.2.1)))))))))))),((cfA (p:=⟨gb238,_,none⟩) (Kd.own_blk (Kd.R_ne HO231.out BK238.out (by decide)))).trans (((cfA (p:=⟨gb238,_,none⟩) (Kd.own_blk (Kd.R_ne HO231.out BK238.out (by decide)))).trans (((cfA (p:=⟨gb238,_,none⟩) (Kd.own_blk (Kd.R_ne HO231.out BK238.out (by decide)))).trans (((cfA (p:=⟨gb238,_,none⟩) (Kd.own_blk (Kd.R_ne HO231.out BK238.out (by decide)))).trans (((cfA (p:=⟨gb238,_,none⟩) (Kd.own_blk (Kd.R_ne HO231.out BK238.out (by decide)))).trans (((cfA (p:=⟨gb238,_,none⟩) (Kd.own_blk (Kd.R_ne HO231.out BK238.out (by decide)))).trans (hHeld.2.2.2.2.2))))))))))))⟩ (fun hHeld => ?_)
         clear hK K
         refine done_ (done_of HT_.out (by kernel_rfl)) ?_
         have hnb39 := NB238_227.out
         have hnc39 := NB227_238.out
         have hcz40_0 : w32.cell? ⟨gb238,0,none⟩ = some (.int .i64 0) := (blk_cell BK238.out 0).trans rfl
         have hcz40_1 : w32.cell? ⟨gb238,1,none⟩ = some (.int .i64 0) := (blk_cell BK238.out 1).trans rfl
         have hcz40_2 : w32.cell? ⟨gb238,2,none⟩ = some (.int .i64 0) := (blk_cell BK238.out 2).trans rfl
         have hcz40_3 : w32.cell? ⟨gb238,3,none⟩ = some (.int .i64 0) := (blk_cell BK238.out 3).trans rfl
         have hcz40_4 : w32.cell? ⟨gb238,4,none⟩ = some (.int .i64 0) := (blk_cell BK238.out 4).trans rfl
         have hcz40_5 : w32.cell? ⟨gb238,5,none⟩ = some (.int .i64 0) := (blk_cell BK238.out 5).trans rfl
         have hfz40_0 := blk_frozen BK238.out 0
         have hfz40_1 := blk_frozen BK238.out 1
         have hfz40_2 := blk_frozen BK238.out 2
         have hfz40_3 := blk_frozen BK238.out 3
         have hfz40_4 := blk_frozen BK238.out 4
         have hfz40_5 := blk_frozen BK238.out 5
         try go_wp2_with (first | ((with_reducible refine gate_callee (f:=62) rfl ?_); refine goesL_ (some 35) rfl rfl Tryz.func62 (by kernel_rfl) rfl #[.agg #[.int .i64 (rd t228 0),.int .i64 (rd t228 1),.int .i64 (rd t228 2),.int .i64 (rd t228 3),.int .i64 (rd t228 4),.int .i64 (rd t228 5)]] rfl mA ?_; (with_reducible refine (spec_AggOK.calls (rd t228 0) (rd t228 1) (rd t228 2) (rd t228 3) (rd t228 4) (rd t228 5) false _ A10.out).mono ?_); rintro e w41 ⟨rfl,hb⟩; refine ⟨_,rfl,?_⟩; have n0_ := Aside0.mk (Kd.R_below (by (with_reducible repeat (first | apply Kd.R_alloc | apply Kd.R_drewN | apply Kd.R_drew)); exact (Kd.R_mono (Kd.R_far (p:=⟨gb238,5,none⟩) (Kd.R_far (p:=⟨gb238,4,none⟩) (Kd.R_far (p:=⟨gb238,3,none⟩) (Kd.R_far (p:=⟨gb238,2,none⟩) (Kd.R_far (p:=⟨gb238,1,none⟩) (Kd.R_far (p:=⟨gb238,0,none⟩) (Kd.R_types HO231.out BK238.out (by decide)) (fun _ hk => hk.2) (.int .i64 (rd t228 0))) (fun _ hk => hk.2) (.int .i64 (rd t228 1))) (fun _ hk => hk.2) (.int .i64 (rd t228 2))) (fun _ hk => hk.2) (.int .i64 (rd t228 3))) (fun _ hk => hk.2) (.int .i64 (rd t228 4))) (fun _ hk => hk.2) (.int .i64 (rd t228 5))) (fun _ h_ => h_.1))) hb); have n1_ := Aside0.mk (blk_below (g:=gb227) (o:=.cells #[.int .i64 0,.int .i64 0,.int .i64 0,.int .i64 0,.int .i64 0,.int .i64 0] 26 (0,0)) (kF BK227.out) hb); have n2_ := Aside0.mk (blk_below (g:=gb238) (o:=.cells #[.int .i64 (rd t228 0),.int .i64 (rd t228 1),.int .i64 (rd t228 2),.int .i64 (rd t228 3),.int .i64 (rd t228 4),.int .i64 (rd t228 5)] 26 (0,0)) (by (with_reducible repeat (first | refine blk_drewN ?_ _ | refine blk_drew ?_ | refine blk_alloc ?_ _)); apply blkp6; (with_reducible repeat (first | refine blk_drewN ?_ _ | refine blk_drew ?_ | refine blk_alloc ?_ _)); exact BK238.out) hb); have n3_ := Aside0.mk (below_step bA hb); clear HO231; clear BK227; clear BK238; clear HB; have HO231 := n0_; have BK227 := n1_; have BK238 := n2_; have HB := n3_; clear n0_ n1_ n2_ n3_; (try clear hb); (try clear hb2); (try clear hk); (try clear hi); have hcz42_0 : w41.cell? ⟨gb227,0,none⟩ = some (.int .i64 0) := (blk_cell BK227.out 0).trans rfl; have hcz42_1 : w41.cell? ⟨gb227,1,none⟩ = some (.int .i64 0) := (blk_cell BK227.out 1).trans rfl; have hcz42_2 : w41.cell? ⟨gb227,2,none⟩ = some (.int .i64 0) := (blk_cell BK227.out 2).trans rfl; have hcz42_3 : w41.cell? ⟨gb227,3,none⟩ = some (.int .i64 0) := (blk_cell BK227.out 3).trans rfl; have hcz42_4 : w41.cell? ⟨gb227,4,none⟩ = some (.int .i64 0) := (blk_cell BK227.out 4).trans rfl; have hcz42_5 : w41.cell? ⟨gb227,5,none⟩ = some (.int .i64 0) := (blk_cell BK227.out 5).trans rfl; have hfz42_0 := blk_frozen BK227.out 0; have hfz42_1 := blk_frozen BK227.out 1; have hfz42_2 := blk_frozen BK227.out 2; have hfz42_3 := blk_frozen BK227.out 3; have hfz42_4 := blk_frozen BK227.out 4; have hfz42_5 := blk_frozen BK227.out 5))
         refine bodyPost_ret (results_ct rfl _ _ gb227 26 #[.int .i64 0,.int .i64 0,.int .i64 0,.int .i64 0,.int .i64 0,.int .i64 0] (0,0) _ rfl (by (with_reducible repeat (first | refine blk_drewN ?_ _ | refine blk_drew ?_ | refine blk_alloc ?_ _)); apply blkp6; (with_reducible repeat (first | refine blk_drewN ?_ _ | refine blk_drew ?_ | refine blk_alloc ?_ _)); exact BK227.out) Tryz.underlying26 rfl (by kernel_rfl)) rfl ?_
         exact ⟨by first | rfl | (simp [errW_none,errW_some] <;> rfl) | (simp [*,errW_none,errW_some] <;> rfl),bA⟩
       ·rw [if_neg c9] at H
        exact absurd H (by simp)
      ·rw [if_neg c8] at H
       exact absurd H (by simp)
     ·rw [if_neg c7] at H
      exact absurd H (by simp)
    ·rw [if_neg c6] at H
     exact absurd H (by simp)
   ·rw [if_neg c5] at H
    exact absurd H (by simp)
  ·rw [if_neg c4] at H
   exact absurd H (by simp)
 ·replace c3 := Bool.eq_false_iff.mpr c3
  subst c3
  rw [if_neg (show ¬ (false = true) by decide)] at H
  simp only [Option.some.injEq,Prod.mk.injEq] at H
  obtain ⟨rfl,rfl,rfl,rfl,rfl,rfl,rfl⟩ := H
  go_enter Tryz.func41,Tryz.ntmps41
  go_wp2_with (first | ((with_reducible refine gate_dst (N:=2) rfl ?_); refine box_event ?hg (N:=2) ?hd (cs := #[.int .i64 0,.int .i64 0,.int .i64 0,.int .i64 0,.int .i64 0,.int .i64 0]) (t:=26) ?hr ?_; (case hd => rfl); (case hg => rfl); (case hr => first | (go_simp; done) | (go_simp; rfl)); intro gb227 hg w43 hbox hb; have n0_ := Aside0.mk (below_step bA hb); have n1_ := Aside0.mk (hbox); have n2_ := Aside0.mk ((gw hg : w.heap.size ≤ gb227)); have n3_ := Aside0.mk ((gw hg : w.heap.size ≤ gb227)); clear HB; have HB := n0_; have BK227 := n1_; have GW227 := n2_; have GE227 := n3_; clear n0_ n1_ n2_ n3_; clear hb hbox hg) | ((with_reducible refine gate_callee (f:=37) rfl ?_); refine goesL_ (some 9) rfl rfl Tryz.func37 (by kernel_rfl) rfl #[.string a0,.int .u8 44,.int .i64 6] rfl mA ?_; (with_reducible refine (spec_l02Numbers.calls k a0 44 6 t228 false _ A2.out).mono ?_); rintro e w44 ⟨v230,rfl,ho0,hb⟩; refine ⟨_,rfl,?_⟩; have n0_ := Aside0.mk (Kd.R_lower ho0 (below_size bA)); have n1_ := Aside0.mk (blk_below (g:=gb227) (o:=.cells #[.int .i64 0,.int .i64 0,.int .i64 0,.int .i64 0,.int .i64 0,.int .i64 0] 26 (0,0)) (kA BK227.out) hb); have n2_ := Aside0.mk (below_step bA hb); clear BK227; clear HB; have HO231 := n0_; have BK227 := n1_; have HB := n2_; clear n0_ n1_ n2_; (try clear hb); (try clear hb2); (try clear hk); (try clear hi); (try clear ho0); have hcz45_0 : w44.cell? ⟨gb227,0,none⟩ = some (.int .i64 0) := (blk_cell BK227.out 0).trans rfl; have hcz45_1 : w44.cell? ⟨gb227,1,none⟩ = some (.int .i64 0) := (blk_cell BK227.out 1).trans rfl; have hcz45_2 : w44.cell? ⟨gb227,2,none⟩ = some (.int .i64 0) := (blk_cell BK227.out 2).trans rfl; have hcz45_3 : w44.cell? ⟨gb227,3,none⟩ = some (.int .i64 0) := (blk_cell BK227.out 3).trans rfl; have hcz45_4 : w44.cell? ⟨gb227,4,none⟩ = some (.int .i64 0) := (blk_cell BK227.out 4).trans rfl; have hcz45_5 : w44.cell? ⟨gb227,5,none⟩ = some (.int .i64 0) := (blk_cell BK227.out 5).trans rfl; have hfz45_0 := blk_frozen BK227.out 0; have hfz45_1 := blk_frozen BK227.out 1; have hfz45_2 := blk_frozen BK227.out 2; have hfz45_3 := blk_frozen BK227.out 3; have hfz45_4 := blk_frozen BK227.out 4; have hfz45_5 := blk_frozen BK227.out 5))
  refine bodyPost_ret (results_ct rfl _ _ gb227 26 #[.int .i64 0,.int .i64 0,.int .i64 0,.int .i64 0,.int .i64 0,.int .i64 0] (0,0) _ rfl (by (with_reducible repeat (first | refine blk_drewN ?_ _ | refine blk_drew ?_ | refine blk_alloc ?_ _)); apply blkp6; (with_reducible repeat (first | refine blk_drewN ?_ _ | refine blk_drew ?_ | refine blk_alloc ?_ _)); exact BK227.out) Tryz.underlying26 rfl (by kernel_rfl)) rfl ?_
  exact ⟨by first | rfl | (simp [errW_none,errW_some] <;> rfl) | (simp [*,errW_none,errW_some] <;> rfl),bA⟩

end Go.Proofs.YtleifhnoaaphmaaGreatDoor.XFnExactWindowOf
