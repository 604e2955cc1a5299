-- Printed by this session's own program wip/tools/xprint.py, which widens the kit's print. Not trusted: Lean checks it.
import Derived.Test.YtgkfemnfbkgeiaaXFnStorex0
namespace Go.Proofs.Ytgkfemnfbkgeiaa.XFnStore
open List (setIfInBounds_toArray set_cons_zero set_cons_succ)
open Go.RowKit Go.Proofs.YtgkfemnfbkgeiaaW.PrintWords Go.Proofs.YtgkfemnfbkgeiaaW.PrintLast Go.Proofs.YtgkfemnfbkgeiaaW.PrintMore
attribute [local go_sem] max2_int min2_int max_two min_two max_three min_three max_four min_four   -- for this text's walks alone
set_option linter.unusedVariables false
set_option linter.unusedSimpArgs false

/-! ### spec_l01Set: function 61 -/
def spec_l01Set.l0 : Nat → ByteArray → ByteArray → Int → List (S32) → Int → Option ((List (S32)) × Int)
 | 0,_,_,_,_,_ => none
 | k + 1,x1,x2,x7,x128000,x128001 => if x7 < (x128000.length : Int) then (if 0 ≤ x7 then (if (Op.bytesLess (((rd_T32 x128000 x7).f0).toList) x1.toList) = true then (spec_l01Set.l0 k x1 x2 (wrap64 (x7 + 1)) x128000 x128001) else (if x7 ≤ (x128000.length : Int) then ((some (x128000.drop (x7 : Int).toNat : List (S32))).bind fun y130 => (if ((rd_T32 x128000 x7).f0).toList = x1.toList then (if 0 ≤ (wrap64 (x7 + 1)) then (if (wrap64 (x7 + 1)) ≤ (x128000.length : Int) then ((some (x128000.drop ((wrap64 (x7 + 1)) : Int).toNat : List (S32))).bind fun y135 => ((some (([] : List (S32)) : List (S32))).bind fun y139 => ((some (x128000.take (x7 : Int).toNat : List (S32))).bind fun y142 => (if y139.length + y142.length < 3518437208883 then ((some (y139 ++ y142 : List (S32))).bind fun y146 => ((some (([(⟨x1,x128001,x2⟩ : S32)] : List (S32)) : List (S32))).bind fun y149 => (if y146.length + y149.length < 3518437208883 then ((some (y146 ++ y149 : List (S32))).bind fun y152 => (if y152.length + y135.length < 3518437208883 then (some ((y152 ++ y135),wrap64 (x128001 + 1))) else (none))) else (none)))) else (none))))) else (none)) else (none)) else ((some (([] : List (S32)) : List (S32))).bind fun y158 => ((some (x128000.take (x7 : Int).toNat : List (S32))).bind fun y161 => (if y158.length + y161.length < 3518437208883 then ((some (y158 ++ y161 : List (S32))).bind fun y165 => ((some (([(⟨x1,x128001,x2⟩ : S32)] : List (S32)) : List (S32))).bind fun y168 => (if y165.length + y168.length < 3518437208883 then ((some (y165 ++ y168 : List (S32))).bind fun y171 => (if y171.length + y130.length < 3518437208883 then (some ((y171 ++ y130),wrap64 (x128001 + 1))) else (none))) else (none)))) else (none)))))) else (none))) else (none)) else (if 0 ≤ x7 then (if x7 ≤ (x128000.length : Int) then ((some (x128000.drop (x7 : Int).toNat : List (S32))).bind fun y177 => ((some (([] : List (S32)) : List (S32))).bind fun y181 => ((some (x128000.take (x7 : Int).toNat : List (S32))).bind fun y184 => (if y181.length + y184.length < 3518437208883 then ((some (y181 ++ y184 : List (S32))).bind fun y188 => ((some (([(⟨x1,x128001,x2⟩ : S32)] : List (S32)) : List (S32))).bind fun y191 => (if y188.length + y191.length < 3518437208883 then ((some (y188 ++ y191 : List (S32))).bind fun y194 => (if y194.length + y177.length < 3518437208883 then (some ((y194 ++ y177),wrap64 (x128001 + 1))) else (none))) else (none)))) else (none))))) else (none)) else (none))
def spec_l01Set.f (k : Nat) (l0_0 : List (S32)) (a0_1 : Int) (a1 : ByteArray) (a2 : ByteArray) : Option ((List (S32)) × Int) := spec_l01Set.l0 k a1 a2 0 l0_0 a0_1
theorem spec_l01Set.mono_l : ∀ k,(∀ y0 y1 y2 y3 y4,LeO (spec_l01Set.l0 k y0 y1 y2 y3 y4) (spec_l01Set.l0 (k + 1) y0 y1 y2 y3 y4))
 | 0 => fun _ _ _ _ _ r h => by simp [spec_l01Set.l0] at h
 | k + 1 => by
  have ih0 := spec_l01Set.mono_l k
  ·intro y0 y1 y2 y3 y4
   unfold spec_l01Set.l0
   repeat' first
   | (with_reducible first | exact ih0 .. | exact LeO.refl _ | exact LeO.none _ | refine LeO.ite ?_ ?_ | refine LeO.bind ?_ (fun _ => ?_))
   | exact LeO.none _ | refine LeO.ite ?_ ?_ | refine LeO.bind ?_ (fun _ => ?_)
theorem spec_l01Set.mono : ∀ a0 a1 a2 a3 k,LeO (spec_l01Set.f k a0 a1 a2 a3) (spec_l01Set.f (k + 1) a0 a1 a2 a3) := by
 intro a0 a1 a2 a3 k
 have ih0 := spec_l01Set.mono_l k
 unfold spec_l01Set.f
 repeat' first
 | (with_reducible first | exact ih0 .. | exact LeO.refl _ | exact LeO.none _ | refine LeO.ite ?_ ?_ | refine LeO.bind ?_ (fun _ => ?_))
 | exact LeO.none _ | refine LeO.ite ?_ ?_ | refine LeO.bind ?_ (fun _ => ?_)
def spec_l01Set.T7 : Bool × List (List Nat × List Nat) := (true,[([],[]),([],[]),([1],[1]),([],[]),([2,3],[2,3]),([0,4],[0,4]),([],[]),([],[]),([7],[7]),([],[]),([6,8,9],[6,8,9]),([10],[10]),([5,11,5],[5,11]),([],[]),([12,13,12],[12,13]),([0,1,2,3,4,5,6,7,8,9,10,11,12,13,14],[]),([15,14,14,0,1,2,3,4,5,6,7,8,9,10,11,12,13,14],[14,15])])
def spec_l01Set.B7 : List Nat := [0,0,2,0,14,31,0,0,128,0,960,1984,4095,0,16383,32767,65535]
theorem spec_l01Set.tab7 : rtab .any (opsOf Try.f61 7) = spec_l01Set.T7 := by kernel_rfl
theorem spec_l01Set.bits7 : waitsOk spec_l01Set.T7.2 spec_l01Set.B7 = true := by kernel_rfl
set_option maxHeartbeats 8000000 in
set_option maxRecDepth 100000 in
theorem spec_l01Set.calls (k : Nat) (A0_0 : Option Addr) (c0_0 : Nat) (l0_0 : List (S32)) (a0_1 : Int) (a1 : ByteArray) (a2 : ByteArray) (r1 : List (S32)) (r2 : Int) (w : World) (hr0_0 : Kd.C k32 w A0_0 l0_0.length l0_0) (hc0_0 : l0_0.length ≤ c0_0) (h : spec_l01Set.f k l0_0 a0_1 a1 a2 = some (r1,r2)) :
  Calls Try.prog 61 #[.agg #[.slice A0_0 l0_0.length c0_0,.int .i64 a0_1],.string a1,.string a2] w fun e w' => ∃ v0_ : Value,e = .returned (.agg #[v0_,.int .i64 r2]) ∧ Kd.R k32 32 w' w.heap.size (fun _ => True) v0_ r1 ∧ Below w.heap.size w w' := by
 have hu25 := Try.underlying25
 have hu32 := Try.underlying32
 have HR0_0 := Aside0.mk hr0_0
 have HC0_0 := Aside0.mk hc0_0
 clear hr0_0 hc0_0
 have HB := Aside0.mk (Below.refl w.heap.size w)
 have H : (spec_l01Set.l0 k a1 a2 0 l0_0 a0_1) = some (r1,r2) := h
 clear h
 have H' := Aside0.mk H
 clear H
 go_enter Try.func61,Try.ntmps61
 go_wp2_with (first | ((with_reducible refine gate_dst (N:=3) rfl ?_); refine bxe (N:=3) (cs := #[.slice A0_0 l0_0.length c0_0,.int .i64 a0_1]) (t:=25) ?_; intro gb127 hg w4 hbox hb; have BK127 := Aside0.mk (hbox); have GW127 := Aside0.mk ((gw hg : w.heap.size ≤ gb127)); have GE127 := GW127; replace HB := bsA hb; clear hb hbox hg) | ((with_reducible refine gate_dst (N:=6) rfl ?_); refine bxe (N:=6) (cs := #[.slice none 0 0,.int .i64 0]) (t:=25) ?_; intro gb128 hg w5 hbox hb; have BK128 := Aside0.mk (hbox); have GW128 := Aside0.mk ((gw hg : w.heap.size ≤ gb128)); have GE128 := GW128; replace HB := bsA hb; have NB127_128 := Aside0.mk ((nl hg BK127.out)); have NB128_127 := Aside0.mk ((ng hg BK127.out)); replace BK127 := bbA BK127 hb; clear hb hbox hg))
 go_loopg [7] k (fun kq v7 w' => ∃ (x7_1 : Int),v7 = .int .i64 x7_1 ∧ Aside0 (spec_l01Set.l0 kq a1 a2 x7_1 l0_0 a0_1 = some (r1,r2)) ∧ Aside0 (kq ≤ k) ∧ Aside0 (w'.heap[gb127]? = some (.cells #[(.slice A0_0 l0_0.length c0_0),.int .i64 a0_1] 25 (0,0))) ∧ Aside0 (w'.heap[gb128]? = some (.cells #[(.slice none 0 0),.int .i64 0] 25 (0,0))) ∧ Aside0 (Below w.heap.size w w'))
 case atStart => exact ⟨(0),(by first | rfl | (simp; done) | (simp [*]; done)),H',⟨Nat.le_refl _⟩,⟨kA BK127.out⟩,⟨kA BK128.out⟩,⟨bA⟩⟩
 case round =>
  clear H'
  try clear p2
  obtain ⟨x7_1,rfl,HA,HK1,BK127,BK128,HB⟩ := hrel
  cases gk with
  | zero => exact absurd HA.out (by simp [spec_l01Set.l0])
  | succ k1 =>
   have H := HA.out
   clear HA
   simp only [spec_l01Set.l0] at H
   by_cases c6 : x7_1 < (l0_0.length : Int)
   ·rw [if_pos c6] at H
    have c6b0 : decide (x7_1 < (l0_0.length : Int)) = true := decide_eq_true c6
    clear c6
    by_cases c7 : 0 ≤ x7_1
    ·rw [if_pos c7] at H
     have c7b0 : decide (0 ≤ x7_1) = true := decide_eq_true c7
     clear c7
     by_cases c8 : (Op.bytesLess (((rd_T32 l0_0 x7_1).f0).toList) a1.toList) = true
     ·rw [if_pos c8] at H
      have c8b0 : (Op.bytesLess (((rd_T32 l0_0 x7_1).f0).toList) a1.toList) = true := c8
      clear c8
      have H' := Aside0.mk H
      clear H
      have hnb9 := NB127_128.out
      have hnc9 := NB128_127.out
      obtain ⟨hcz10_0,hcz10_1⟩ := cl2 BK127.out
      obtain ⟨hfz10_0,hfz10_1⟩ := fz2 BK127.out
      have p129 : 0 ≤ (x7_1 : Int) := od
      have q129 : x7_1 < (l0_0.length : Int) := od
      obtain ⟨ad129,e129,hx129_0,hx129_1,hx129_2⟩ := at_T32 HR0_0.out x7_1 p129 q129
      cases e129
      replace hx129_0 := cb HB.out hx129_0
      replace hx129_1 := cb HB.out hx129_1
      replace hx129_2 := cb HB.out hx129_2
      replace p129 := eq_true p129
      replace q129 := eq_true q129
      go_wp2
      go_roundg k1
      case measure => have := HK1.out; omega
      case rel => exact ⟨(wrap64 (x7_1 + 1)),(by first | rfl | (simp; done) | (simp [*]; done)),H',⟨by have := HK1.out; omega⟩,⟨kA BK127.out⟩,⟨kA BK128.out⟩,⟨bA⟩⟩
     ·rw [if_neg c8] at H
      have c8b0 : (Op.bytesLess (((rd_T32 l0_0 x7_1).f0).toList) a1.toList) = false := by simpa using c8
      clear c8
      have c11b0 := eq_true (od : 0 ≤ x7_1)
      by_cases c12 : x7_1 ≤ (l0_0.length : Int)
      ·rw [if_pos c12] at H
       have c12b0 := eq_true c12
       have c12b1 : decide (x7_1 ≤ (l0_0.length : Int)) = true := decide_eq_true c12
       clear c12
       obtain ⟨y130,hy130⟩ : ∃ y_ : List (S32),y_ = (l0_0.drop (x7_1 : Int).toNat) := ⟨_,rfl⟩
       replace H : (if ((rd_T32 l0_0 x7_1).f0).toList = a1.toList then (if 0 ≤ (wrap64 (x7_1 + 1)) then (if (wrap64 (x7_1 + 1)) ≤ (l0_0.length : Int) then ((some (l0_0.drop ((wrap64 (x7_1 + 1)) : Int).toNat : List (S32))).bind fun y135 => ((some (([] : List (S32)) : List (S32))).bind fun y139 => ((some (l0_0.take (x7_1 : Int).toNat : List (S32))).bind fun y142 => (if y139.length + y142.length < 3518437208883 then ((some (y139 ++ y142 : List (S32))).bind fun y146 => ((some (([(⟨a1,a0_1,a2⟩ : S32)] : List (S32)) : List (S32))).bind fun y149 => (if y146.length + y149.length < 3518437208883 then ((some (y146 ++ y149 : List (S32))).bind fun y152 => (if y152.length + y135.length < 3518437208883 then (some ((y152 ++ y135),wrap64 (a0_1 + 1))) else (none))) else (none)))) else (none))))) else (none)) else (none)) else ((some (([] : List (S32)) : List (S32))).bind fun y158 => ((some (l0_0.take (x7_1 : Int).toNat : List (S32))).bind fun y161 => (if y158.length + y161.length < 3518437208883 then ((some (y158 ++ y161 : List (S32))).bind fun y165 => ((some (([(⟨a1,a0_1,a2⟩ : S32)] : List (S32)) : List (S32))).bind fun y168 => (if y165.length + y168.length < 3518437208883 then ((some (y165 ++ y168 : List (S32))).bind fun y171 => (if y171.length + y130.length < 3518437208883 then (some ((y171 ++ y130),wrap64 (a0_1 + 1))) else (none))) else (none)))) else (none))))) = some (r1,r2) := by first | (rw [hy130]; with_reducible exact H) | (have H2_ := (Option.bind_some _ _).symm.trans H; rw [hy130]; with_reducible exact H2_) | (have H2_ := (Option.bind_some _ _).symm.trans H; with_reducible exact H2_) | with_reducible exact H | (rw [hy130]; exact H) | exact H
       have Ny130 := Aside0.mk hy130
       clear hy130
       by_cases c13 : ((rd_T32 l0_0 x7_1).f0).toList = a1.toList
       ·rw [if_pos c13] at H
        have c13b0 : (((rd_T32 l0_0 x7_1).f0).toList == a1.toList) = true := beq_iff_eq.mpr c13
        have c13b1 : (((rd_T32 l0_0 x7_1).f0).toList != a1.toList) = false := bne_eq_false_iff_eq.mpr c13
        clear c13
        obtain ⟨ji14,hji14⟩ : ∃ j_ : Int,(wrap64 (x7_1 + 1)) = j_ := ⟨_,rfl⟩
        replace H : (if 0 ≤ (ji14) then (if (ji14) ≤ (l0_0.length : Int) then ((some (l0_0.drop ((ji14) : Int).toNat : List (S32))).bind fun y135 => ((some (([] : List (S32)) : List (S32))).bind fun y139 => ((some (l0_0.take (x7_1 : Int).toNat : List (S32))).bind fun y142 => (if y139.length + y142.length < 3518437208883 then ((some (y139 ++ y142 : List (S32))).bind fun y146 => ((some (([(⟨a1,a0_1,a2⟩ : S32)] : List (S32)) : List (S32))).bind fun y149 => (if y146.length + y149.length < 3518437208883 then ((some (y146 ++ y149 : List (S32))).bind fun y152 => (if y152.length + y135.length < 3518437208883 then (some ((y152 ++ y135),wrap64 (a0_1 + 1))) else (none))) else (none)))) else (none))))) else (none)) else (none)) = some (r1,r2) := by first | (rw [hji14] at H; exact H) | (simp only [hji14] at H ⊢; exact H)
        have hji14w : (IntKind.i64.wrap (x7_1 + 1)) = ji14 := (i64_w _).trans hji14
        by_cases c15 : 0 ≤ (ji14)
        ·rw [if_pos c15] at H
         have c15b0 := eq_true c15
         have c15b1 : decide (0 ≤ (ji14)) = true := decide_eq_true c15
         clear c15
         by_cases c16 : (ji14) ≤ (l0_0.length : Int)
         ·rw [if_pos c16] at H
          have c16b0 := eq_true c16
          have c16b1 : decide ((ji14) ≤ (l0_0.length : Int)) = true := decide_eq_true c16
          clear c16
          obtain ⟨y135,hy135⟩ : ∃ y_ : List (S32),y_ = (l0_0.drop ((ji14) : Int).toNat) := ⟨_,rfl⟩
          replace H : ((some (([] : List (S32)) : List (S32))).bind fun y139 => ((some (l0_0.take (x7_1 : Int).toNat : List (S32))).bind fun y142 => (if y139.length + y142.length < 3518437208883 then ((some (y139 ++ y142 : List (S32))).bind fun y146 => ((some (([(⟨a1,a0_1,a2⟩ : S32)] : List (S32)) : List (S32))).bind fun y149 => (if y146.length + y149.length < 3518437208883 then ((some (y146 ++ y149 : List (S32))).bind fun y152 => (if y152.length + y135.length < 3518437208883 then (some ((y152 ++ y135),wrap64 (a0_1 + 1))) else (none))) else (none)))) else (none)))) = some (r1,r2) := by first | (rw [hy135]; with_reducible exact H) | (have H2_ := (Option.bind_some _ _).symm.trans H; rw [hy135]; with_reducible exact H2_) | (have H2_ := (Option.bind_some _ _).symm.trans H; with_reducible exact H2_) | with_reducible exact H | (rw [hy135]; exact H) | exact H
          have Ny135 := Aside0.mk hy135
          clear hy135
          obtain ⟨y139,hy139⟩ : ∃ y_ : List (S32),y_ = (([] : List (S32))) := ⟨_,rfl⟩
          replace H : ((some (l0_0.take (x7_1 : Int).toNat : List (S32))).bind fun y142 => (if y139.length + y142.length < 3518437208883 then ((some (y139 ++ y142 : List (S32))).bind fun y146 => ((some (([(⟨a1,a0_1,a2⟩ : S32)] : List (S32)) : List (S32))).bind fun y149 => (if y146.length + y149.length < 3518437208883 then ((some (y146 ++ y149 : List (S32))).bind fun y152 => (if y152.length + y135.length < 3518437208883 then (some ((y152 ++ y135),wrap64 (a0_1 + 1))) else (none))) else (none)))) else (none))) = some (r1,r2) := by first | (rw [hy139]; with_reducible exact H) | (have H2_ := (Option.bind_some _ _).symm.trans H; rw [hy139]; with_reducible exact H2_) | (have H2_ := (Option.bind_some _ _).symm.trans H; with_reducible exact H2_) | with_reducible exact H | (rw [hy139]; exact H) | exact H
          have Ny139 := Aside0.mk hy139
          clear hy139
          have c17b0 := eq_true (od : 0 ≤ x7_1)
          have c18b0 := eq_true (od : x7_1 ≤ (l0_0.length : Int))
          obtain ⟨y142,hy142⟩ : ∃ y_ : List (S32),y_ = (l0_0.take (x7_1 : Int).toNat) := ⟨_,rfl⟩
          replace H : (if y139.length + y142.length < 3518437208883 then ((some (y139 ++ y142 : List (S32))).bind fun y146 => ((some (([(⟨a1,a0_1,a2⟩ : S32)] : List (S32)) : List (S32))).bind fun y149 => (if y146.length + y149.length < 3518437208883 then ((some (y146 ++ y149 : List (S32))).bind fun y152 => (if y152.length + y135.length < 3518437208883 then (some ((y152 ++ y135),wrap64 (a0_1 + 1))) else (none))) else (none)))) else (none)) = some (r1,r2) := by first | (rw [hy142]; with_reducible exact H) | (have H2_ := (Option.bind_some _ _).symm.trans H; rw [hy142]; with_reducible exact H2_) | (have H2_ := (Option.bind_some _ _).symm.trans H; with_reducible exact H2_) | with_reducible exact H | (rw [hy142]; exact H) | exact H
          have Ny142 := Aside0.mk hy142
          clear hy142
          by_cases c19 : y139.length + y142.length < 3518437208883
          ·rw [if_pos c19] at H
           have LMc19 := Aside0.mk c19
           clear c19
           obtain ⟨y146,hy146⟩ : ∃ y_ : List (S32),y_ = (y139 ++ y142) := ⟨_,rfl⟩
           replace H : ((some (([(⟨a1,a0_1,a2⟩ : S32)] : List (S32)) : List (S32))).bind fun y149 => (if y146.length + y149.length < 3518437208883 then ((some (y146 ++ y149 : List (S32))).bind fun y152 => (if y152.length + y135.length < 3518437208883 then (some ((y152 ++ y135),wrap64 (a0_1 + 1))) else (none))) else (none))) = some (r1,r2) := by first | (rw [hy146]; with_reducible exact H) | (have H2_ := (Option.bind_some _ _).symm.trans H; rw [hy146]; with_reducible exact H2_) | (have H2_ := (Option.bind_some _ _).symm.trans H; with_reducible exact H2_) | with_reducible exact H | (rw [hy146]; exact H) | exact H
           have Ny146 := Aside0.mk hy146
           clear hy146
           obtain ⟨y149,hy149⟩ : ∃ y_ : List (S32),y_ = (([(⟨a1,a0_1,a2⟩ : S32)] : List (S32))) := ⟨_,rfl⟩
           replace H : (if y146.length + y149.length < 3518437208883 then ((some (y146 ++ y149 : List (S32))).bind fun y152 => (if y152.length + y135.length < 3518437208883 then (some ((y152 ++ y135),wrap64 (a0_1 + 1))) else (none))) else (none)) = some (r1,r2) := by first | (rw [hy149]; with_reducible exact H) | (have H2_ := (Option.bind_some _ _).symm.trans H; rw [hy149]; with_reducible exact H2_) | (have H2_ := (Option.bind_some _ _).symm.trans H; with_reducible exact H2_) | with_reducible exact H | (rw [hy149]; exact H) | exact H
           have Ny149 := Aside0.mk hy149
           clear hy149
           by_cases c20 : y146.length + y149.length < 3518437208883
           ·rw [if_pos c20] at H
            have LMc20 := Aside0.mk c20
            clear c20
            obtain ⟨y152,hy152⟩ : ∃ y_ : List (S32),y_ = (y146 ++ y149) := ⟨_,rfl⟩
            replace H : (if y152.length + y135.length < 3518437208883 then (some ((y152 ++ y135),wrap64 (a0_1 + 1))) else (none)) = some (r1,r2) := by first | (rw [hy152]; with_reducible exact H) | (have H2_ := (Option.bind_some _ _).symm.trans H; rw [hy152]; with_reducible exact H2_) | (have H2_ := (Option.bind_some _ _).symm.trans H; with_reducible exact H2_) | with_reducible exact H | (rw [hy152]; exact H) | exact H
            have Ny152 := Aside0.mk hy152
            clear hy152
            by_cases c21 : y152.length + y135.length < 3518437208883
            ·rw [if_pos c21] at H
             have LMc21 := Aside0.mk c21
             clear c21
             obtain ⟨y155,hy155⟩ : ∃ y_ : List (S32),y_ = (y152 ++ y135) := ⟨_,rfl⟩
             replace H : (some (y155,wrap64 (a0_1 + 1))) = some (r1,r2) := by first | (rw [hy155]; with_reducible exact H) | (have H2_ := (Option.bind_some _ _).symm.trans H; rw [hy155]; with_reducible exact H2_) | (have H2_ := (Option.bind_some _ _).symm.trans H; with_reducible exact H2_) | with_reducible exact H | (rw [hy155]; exact H) | exact H
             have Ny155 := Aside0.mk hy155
             clear hy155
             simp only [Option.some.injEq,Prod.mk.injEq] at H
             obtain ⟨rfl,rfl⟩ := H
             have hnb22 := NB127_128.out
             have hnc22 := NB128_127.out
             obtain ⟨hcz23_0,hcz23_1⟩ := cl2 BK127.out
             obtain ⟨hfz23_0,hfz23_1⟩ := fz2 BK127.out
             have p129 : 0 ≤ (x7_1 : Int) := od
             have q129 : x7_1 < (l0_0.length : Int) := od
             obtain ⟨ad129,e129,hx129_0,hx129_1,hx129_2⟩ := at_T32 HR0_0.out x7_1 p129 q129
             cases e129
             replace hx129_0 := cb HB.out hx129_0
             replace hx129_1 := cb HB.out hx129_1
             replace hx129_2 := cb HB.out hx129_2
             replace p129 := eq_true p129
             replace q129 := eq_true q129
             have q24 : (x7_1 : Int) ≤ ((l0_0.length : Int) : Int) := od
             obtain ⟨i024,hi024,_,hsz24,_⟩ := info_parts info32
             have hroom24 : l0_0.length ≤ c0_0 := HC0_0.out
             have hC24 : Kd.C k32 _ (some ad129) l0_0.length l0_0 := HR0_0.out
             have q024 : (0 : Int) ≤ (x7_1 : Int) := od
             have hcut24 := cut_from (P:=Try.prog) 23 32 .i64 Try.underlying23 hi024 3 hsz24 (some ad129) l0_0.length c0_0 x7_1 q024 q24
             have hr24 := Kd.C_drop (m:=(x7_1 : Int).toNat) (c:=c0_0) hC24 (by omega) hroom24
             obtain ⟨A24,hA24⟩ : ∃ A1,A1 = (if c0_0 = (x7_1 : Int).toNat then (some ad129) else ((some ad129) : Option Addr).map (·.add ((x7_1 : Int).toNat * 3))) := ⟨_,rfl⟩
             obtain ⟨c24,hc24⟩ : ∃ c1,c1 = c0_0 - (x7_1 : Int).toNat := ⟨_,rfl⟩
             have hy24 : y130.length = l0_0.length - (x7_1 : Int).toNat := (by rw [Ny130.out,List.length_drop] <;> omega)
             rw [show (l0_0).drop (x7_1 : Int).toNat = y130 from Ny130.out.symm] at hr24
             replace hr24 : Kd.C k32 _ A24 y130.length y130 := (by rw [hA24]; exact hr24)
             rw [← hy24,← hA24,← hc24] at hcut24
             have HR133 := Aside0.mk hr24
             have HC133 := Aside0.mk (show y130.length ≤ c24 from by rw [hy24,hc24]; exact Nat.sub_le_sub_right hroom24 _)
             clear hr24 hC24 hroom24 hi024 hsz24 hc24
             have KY24 := Aside0.mk hy24
             have KA24 := Aside0.mk hA24
             clear hy24 hA24
             replace q24 := eq_true q24
             have p134 : 0 ≤ (x7_1 : Int) := od
             have q134 : x7_1 < (l0_0.length : Int) := od
             obtain ⟨ad134,e134,hx134_0,hx134_1,hx134_2⟩ := at_T32 HR0_0.out x7_1 p134 q134
             obtain rfl : ad129 = ad134 := (by injection e134)
             replace hx134_0 := cb HB.out hx134_0
             replace hx134_1 := cb HB.out hx134_1
             replace hx134_2 := cb HB.out hx134_2
             replace p134 := eq_true p134
             replace q134 := eq_true q134
             have q25 : ((ji14) : Int) ≤ ((l0_0.length : Int) : Int) := od
             obtain ⟨i025,hi025,_,hsz25,_⟩ := info_parts info32
             have hroom25 : l0_0.length ≤ c0_0 := HC0_0.out
             have hC25 : Kd.C k32 _ (some ad129) l0_0.length l0_0 := HR0_0.out
             have q025 : (0 : Int) ≤ ((ji14) : Int) := od
             have hcut25 := cut_from (P:=Try.prog) 23 32 .i64 Try.underlying23 hi025 3 hsz25 (some ad129) l0_0.length c0_0 (ji14) q025 q25
             have hr25 := Kd.C_drop (m:=((ji14) : Int).toNat) (c:=c0_0) hC25 (by omega) hroom25
             obtain ⟨A25,hA25⟩ : ∃ A1,A1 = (if c0_0 = ((ji14) : Int).toNat then (some ad129) else ((some ad129) : Option Addr).map (·.add (((ji14) : Int).toNat * 3))) := ⟨_,rfl⟩
             obtain ⟨c25,hc25⟩ : ∃ c1,c1 = c0_0 - ((ji14) : Int).toNat := ⟨_,rfl⟩
             have hy25 : y135.length = l0_0.length - ((ji14) : Int).toNat := (by rw [Ny135.out,List.length_drop] <;> omega)
             rw [show (l0_0).drop ((ji14) : Int).toNat = y135 from Ny135.out.symm] at hr25
             replace hr25 : Kd.C k32 _ A25 y135.length y135 := (by rw [hA25]; exact hr25)
             rw [← hy25,← hA25,← hc25] at hcut25
             have HR138 := Aside0.mk hr25
             have HC138 := Aside0.mk (show y135.length ≤ c25 from by rw [hy25,hc25]; exact Nat.sub_le_sub_right hroom25 _)
             clear hr25 hC25 hroom25 hi025 hsz25 hc25
             have KY25 := Aside0.mk hy25
             have KA25 := Aside0.mk hA25
             clear hy25 hA25
             replace q25 := eq_true q25
             try go_wp2
             replace BK127 := Aside0.mk (blk_drew BK127.out)
             replace BK128 := Aside0.mk (blk_drew BK128.out)
             replace HB := Aside0.mk (below_drew1 HB.out)
             have q27 : (x7_1 : Int) ≤ ((l0_0.length : Int) : Int) := od
             obtain ⟨i027,hi027,_,hsz27,_⟩ := info_parts info32
             have hroom27 : l0_0.length ≤ c0_0 := HC0_0.out
             have hC27 : Kd.C k32 _ (some ad129) l0_0.length l0_0 := HR0_0.out
             have hcut27 := cut_to (P:=Try.prog) 23 32 .i64 Try.underlying23 hi027 (some ad129) l0_0.length c0_0 x7_1 (od) q27 hroom27
             have hr27 := Kd.C_take (m:=(x7_1 : Int).toNat) hC27 (by omega)
             have hy27 : y142.length = (x7_1 : Int).toNat := (by rw [Ny142.out,List.length_take]; omega)
             rw [← Ny142.out] at hr27
             rw [← hy27] at hcut27
             have HR145 := Aside0.mk hr27
             have HC145 := Aside0.mk (show y142.length ≤ c0_0 from by omega)
             clear hr27 hC27 hroom27 hi027 hsz27
             have KY27 := Aside0.mk hy27
             clear hy27
             replace q27 := eq_true q27
             refine start_ (n:=17) (S:=fun w' => w'.cell? ⟨gb127,0,none⟩ = some (.slice (some ad129) l0_0.length c0_0) ∧ w'.cell? ⟨gb127,1,none⟩ = some (.int .i64 a0_1)) (ds := [16]) (bm 17 0) (by kernel_rfl) rfl rfl ⟨bl BK127 0,bl BK127 1⟩ (fun hHeld => ?_); refine with_tabW spec_l01Set.tab7 spec_l01Set.bits7 (fun HT_ HW_ => ?_)
             generalize wr.drew = w26 at BK127 BK128 HB HR145 hHeld ⊢
             refine pV_ 1 51 (bm 17 2) HT_.out ?_
             refine pV_ 3 53 (bm 17 10) HT_.out ?_
             refine pV_ 6 56 (bm 17 74) HT_.out ?_
             refine pV_ 7 57 (bm 17 202) HT_.out ?_
             refine pV_ 9 59 (bm 17 714) HT_.out ?_
             refine pV_ 13 63 (bm 17 8906) HT_.out ?_
             refine tk 2 52 (bm 17 8910) HT_.out HW_.out hHeld ?_
             refine pV_ 4 54 (bm 17 8926) HT_.out ?_
             refine tk 8 58 (bm 17 9182) HT_.out HW_.out hHeld ?_
             refine pV_ 10 60 (bm 17 10206) HT_.out ?_
             refine join_ (σ := Value × Value × Value) 4 (bm 17 12287) (fun s_ => [(50,s_.1),(55,s_.2.1),(61,s_.2.2)]) (fun s_ w' => (w'.cell? ⟨gb127,0,none⟩ = some (.slice (some ad129) l0_0.length c0_0) ∧ w'.cell? ⟨gb127,1,none⟩ = some (.int .i64 a0_1)) ∧ (Kd.R k32 32 w' w.heap.size (fun k_ => some k_ ≠ (s_.2.2 : Value).ownBlock) s_.2.1 y146) ∧ (Kd.R k32 32 w' w.heap.size (fun k_ => some k_ ≠ (s_.2.1 : Value).ownBlock) s_.2.2 y149) ∧ (w'.heap[gb127]? = some (.cells #[.slice (some ad129) l0_0.length c0_0,.int .i64 a0_1] 25 (0,0))) ∧ (w'.heap[gb128]? = some (.cells #[.slice none 0 0,.int .i64 0] 25 (0,0))) ∧ (Below w.heap.size w w')) ?_ ?_
             rotate_left
             ·intro hCont
              refine two_ (i:=0) (j:=11) (Ni := some 50) (Nj := some 61) (bm 17 10207) (bm 17 12254) rfl rfl rfl rfl (two_of HT_.out (by kernel_rfl)) (by decide) (by decide) (fun K hK => ?_) (fun K hK => ?_)
              ·skip
               refine Kd.R_lit_step k32 _ 32 ?hg (N:=50) ?hd (xs := ([] : List (S32))) (inner := []) (ok := fun _ => True) (okp := fun _ => True) ?hr ?hp (fun _ hk => hk) trivial (Below.refl _ _) (Nat.le_refl _) (by simp) ?_; (case hd => rfl); (case hg => rfl); (case hr => first | (go_simp; done) | (go_simp; rfl)); (case hp => exact (Reps.none _ _))
               intro v140 w28 ho29 hb hg_ hnew_
               clear hg_ hnew_
               (first | rw [← Ny139.out] at ho29 | (simp only [Int.reduceToNat] at ho29; rw [← Ny139.out] at ho29))
               have HO141 := Aside0.mk (Kd.R_lower ho29 (below_size bA))
               replace BK127 := bbA BK127 hb
               replace BK128 := bbA BK128 hb
               replace HB := bsA hb
               clear hb ho29
               refine hK.out _ _ ⟨bl BK127 0,bl BK127 1⟩ (fun hHeld => ?_)
               clear hK K
               refine nw 50 ?_
               refine two_ (i:=5) (j:=11) (Ni := some 55) (Nj := some 61) (bm 17 10239) (bm 17 12255) rfl rfl rfl rfl (two_of HT_.out (by kernel_rfl)) (by decide) (by decide) (fun K hK => ?_) (fun K hK => ?_)
               ·skip
                refine Kd.R_append_rows_step k32 (w0 := w) w.heap.size (by rfl) (.tmp 50) (.tmp 54) 23 32 (.agg #[(.string ⟨#[]⟩),(.int .i64 0),(.string ⟨#[]⟩)]) 40 rfl Try.underlying23 info32 rfl (by decide) (by omega) v140 y139 y142 _ _ _ (fun _ => True) (fun _ => False) rfl rfl ?aO ?aR (fun _ _ h => h) (fun _ h => h.elim) ?aF ?aB ?aS ?aL ?_
                (case aR => exact sC HR145.out)
                (case aB => exact bA)
                (case aF => exact (fun _ _ => trivial))
                (case aO => exact (rA HO141.out))
                (case aS => exact (below_size bA))
                (case aL => have := LMc19.out; omega)
                intro v147 w30 ho hb hg hat
                rw [← Ny146.out] at ho
                replace BK127 := Aside0.mk (bg BK127.out hg (Kd.R_ne HO141.out BK127.out (by decide)))
                replace BK128 := Aside0.mk (bg BK128.out hg (Kd.R_ne HO141.out BK128.out (by decide)))
                replace HB := Aside0.mk (hb)
                have HO148 := Aside0.mk (ho)
                clear HO141 ho hb hg hat
                refine hK.out _ _ ⟨bl BK127 0,bl BK127 1⟩ (fun hHeld => ?_)
                clear hK K
                refine nw 55 ?_
                refine one_ (i:=11) (N:=some 61) (bm 17 12287) rfl rfl (one_of HT_.out (by kernel_rfl)) (by decide) (fun K hK => ?_)
                refine Kd.R_lit_step k32 _ 32 ?hg (N:=61) ?hd (xs := ([(⟨a1,a0_1,a2⟩ : S32)] : List (S32))) (inner := [.string a1,.int .i64 a0_1,.string a2]) (ok := fun _ => True) (okp := fun _ => True) ?hr ?hp (fun _ hk => hk) trivial (Below.refl _ _) (Nat.le_refl _) (by simp) ?_; (case hd => rfl); (case hg => rfl); (case hr => first | (go_simp; done) | (go_simp; rfl)); (case hp => exact (Reps.c3 (show Kd.M k32 _ _ _ (⟨a1,a0_1,a2⟩ : S32) [.string a1,.int .i64 a0_1,.string a2] from (k32_mkM _ _ _ (⟨a1,a0_1,a2⟩ : S32) )) (Reps.none _ _)))
                intro v150 w31 ho32 hb hg_ hnew_
                clear hg_ hnew_
                (first | rw [← Ny149.out] at ho32 | (simp only [Int.reduceToNat] at ho32; rw [← Ny149.out] at ho32))
                have HO151 := Aside0.mk (Kd.R_lower (Kd.R_new' ho32 (Kd.R_lt (rA HO148.out))) (below_size bA))
                replace HO148 := Aside0.mk (Kd.R_elder' (rA HO148.out) (Kd.R_base ho32) hb)
                replace BK127 := bbA BK127 hb
                replace BK128 := bbA BK128 hb
                replace HB := bsA hb
                clear hb ho32
                refine hK.out _ _ ⟨bl BK127 0,bl BK127 1⟩ (fun hHeld => ?_)
                clear hK K
                refine nw 61 ?_
                exact norm_ (by simp only [putAll,Act.put,setIfInBounds_toArray,set_cons_zero,set_cons_succ]) (hCont (v140,v147,v150) _ ⟨hHeld,(rM HO148.out (fun _ hk => hk.2)),(rM HO151.out (fun _ hk => hk.2)),(kA BK127.out),(kA BK128.out),bA⟩)
               ·skip
                refine Kd.R_lit_step k32 _ 32 ?hg (N:=61) ?hd (xs := ([(⟨a1,a0_1,a2⟩ : S32)] : List (S32))) (inner := [.string a1,.int .i64 a0_1,.string a2]) (ok := fun _ => True) (okp := fun _ => True) ?hr ?hp (fun _ hk => hk) trivial (Below.refl _ _) (Nat.le_refl _) (by simp) ?_; (case hd => rfl); (case hg => rfl); (case hr => first | (go_simp; done) | (go_simp; rfl)); (case hp => exact (Reps.c3 (show Kd.M k32 _ _ _ (⟨a1,a0_1,a2⟩ : S32) [.string a1,.int .i64 a0_1,.string a2] from (k32_mkM _ _ _ (⟨a1,a0_1,a2⟩ : S32) )) (Reps.none _ _)))
                intro v150 w30 ho31 hb hg_ hnew_
                clear hg_ hnew_
                (first | rw [← Ny149.out] at ho31 | (simp only [Int.reduceToNat] at ho31; rw [← Ny149.out] at ho31))
                have HO151 := Aside0.mk (Kd.R_lower (Kd.R_new' ho31 (Kd.R_lt (rA HO141.out))) (below_size bA))
                replace HO141 := Aside0.mk (Kd.R_elder' (rA HO141.out) (Kd.R_base ho31) hb)
                replace BK127 := bbA BK127 hb
                replace BK128 := bbA BK128 hb
                replace HB := bsA hb
                clear hb ho31
                refine hK.out _ _ ⟨bl BK127 0,bl BK127 1⟩ (fun hHeld => ?_)
                clear hK K
                refine nw 61 ?_
                refine one_ (i:=5) (N:=some 55) (bm 17 12287) rfl rfl (one_of HT_.out (by kernel_rfl)) (by decide) (fun K hK => ?_)
                refine Kd.R_append_rows_step k32 (w0 := w) w.heap.size (by rfl) (.tmp 50) (.tmp 54) 23 32 (.agg #[(.string ⟨#[]⟩),(.int .i64 0),(.string ⟨#[]⟩)]) 40 rfl Try.underlying23 info32 rfl (by decide) (by omega) v140 y139 y142 _ _ _ (fun k_ => some k_ ≠ (v150 : Value).ownBlock) (fun _ => False) rfl rfl ?aO ?aR (fun _ _ h => h) (fun _ h => h.elim) ?aF ?aB ?aS ?aL ?_
                (case aR => exact sC HR145.out)
                (case aB => exact bA)
                (case aF => exact (fun k_ hk => Kd.fresh' (Kd.R_lt (rA HO151.out)) k_ hk))
                (case aO => exact (rM HO141.out (fun _ hk => hk.2)))
                (case aS => exact (below_size bA))
                (case aL => have := LMc19.out; omega)
                intro v147 w32 ho hb hg hat
                rw [← Ny146.out] at ho
                replace BK127 := Aside0.mk (bg BK127.out hg (Kd.R_ne HO141.out BK127.out (by decide)))
                replace BK128 := Aside0.mk (bg BK128.out hg (Kd.R_ne HO141.out BK128.out (by decide)))
                replace HO151 := Aside0.mk (Kd.R_after (ok := (fun _ => True)) (rA HO151.out) hg hat)
                replace HB := Aside0.mk (hb)
                have HO148 := Aside0.mk (ho)
                clear HO141 ho hb hg hat
                refine hK.out _ _ ⟨bl BK127 0,bl BK127 1⟩ (fun hHeld => ?_)
                clear hK K
                refine nw 55 ?_
                exact norm_ (by simp only [putAll,Act.put,setIfInBounds_toArray,set_cons_zero,set_cons_succ]) (hCont (v140,v147,v150) _ ⟨hHeld,(rA HO148.out),(rM HO151.out (fun _ hk => hk.2)),(kA BK127.out),(kA BK128.out),bA⟩)
              ·skip
               refine Kd.R_lit_step k32 _ 32 ?hg (N:=61) ?hd (xs := ([(⟨a1,a0_1,a2⟩ : S32)] : List (S32))) (inner := [.string a1,.int .i64 a0_1,.string a2]) (ok := fun _ => True) (okp := fun _ => True) ?hr ?hp (fun _ hk => hk) trivial (Below.refl _ _) (Nat.le_refl _) (by simp) ?_; (case hd => rfl); (case hg => rfl); (case hr => first | (go_simp; done) | (go_simp; rfl)); (case hp => exact (Reps.c3 (show Kd.M k32 _ _ _ (⟨a1,a0_1,a2⟩ : S32) [.string a1,.int .i64 a0_1,.string a2] from (k32_mkM _ _ _ (⟨a1,a0_1,a2⟩ : S32) )) (Reps.none _ _)))
               intro v150 w28 ho29 hb hg_ hnew_
               clear hg_ hnew_
               (first | rw [← Ny149.out] at ho29 | (simp only [Int.reduceToNat] at ho29; rw [← Ny149.out] at ho29))
               have HO151 := Aside0.mk (Kd.R_lower ho29 (below_size bA))
               replace BK127 := bbA BK127 hb
               replace BK128 := bbA BK128 hb
               replace HB := bsA hb
               clear hb ho29
               refine hK.out _ _ ⟨bl BK127 0,bl BK127 1⟩ (fun hHeld => ?_)
               clear hK K
               refine nw 61 ?_
               refine one_ (i:=0) (N:=some 50) (bm 17 12255) rfl rfl (one_of HT_.out (by kernel_rfl)) (by decide) (fun K hK => ?_)
               refine Kd.R_lit_step k32 _ 32 ?hg (N:=50) ?hd (xs := ([] : List (S32))) (inner := []) (ok := fun _ => True) (okp := fun _ => True) ?hr ?hp (fun _ hk => hk) trivial (Below.refl _ _) (Nat.le_refl _) (by simp) ?_; (case hd => rfl); (case hg => rfl); (case hr => first | (go_simp; done) | (go_simp; rfl)); (case hp => exact (Reps.none _ _))
               intro v140 w30 ho31 hb hg_ hnew_
               clear hg_ hnew_
               (first | rw [← Ny139.out] at ho31 | (simp only [Int.reduceToNat] at ho31; rw [← Ny139.out] at ho31))
               have HO141 := Aside0.mk (Kd.R_lower (Kd.R_new' ho31 (Kd.R_lt (rA HO151.out))) (below_size bA))
               replace HO151 := Aside0.mk (Kd.R_elder' (rA HO151.out) (Kd.R_base ho31) hb)
               replace BK127 := bbA BK127 hb
               replace BK128 := bbA BK128 hb
               replace HB := bsA hb
               clear hb ho31
               refine hK.out _ _ ⟨bl BK127 0,bl BK127 1⟩ (fun hHeld => ?_)
               clear hK K
               refine nw 50 ?_
               refine one_ (i:=5) (N:=some 55) (bm 17 12287) rfl rfl (one_of HT_.out (by kernel_rfl)) (by decide) (fun K hK => ?_)
               refine Kd.R_append_rows_step k32 (w0 := w) w.heap.size (by rfl) (.tmp 50) (.tmp 54) 23 32 (.agg #[(.string ⟨#[]⟩),(.int .i64 0),(.string ⟨#[]⟩)]) 40 rfl Try.underlying23 info32 rfl (by decide) (by omega) v140 y139 y142 _ _ _ (fun k_ => some k_ ≠ (v150 : Value).ownBlock) (fun _ => False) rfl rfl ?aO ?aR (fun _ _ h => h) (fun _ h => h.elim) ?aF ?aB ?aS ?aL ?_
               (case aR => exact sC HR145.out)
               (case aB => exact bA)
               (case aF => exact (fun k_ hk => Kd.fresh' (Kd.R_lt (rA HO151.out)) k_ hk))
               (case aO => exact (rM HO141.out (fun _ hk => hk.2)))
               (case aS => exact (below_size bA))
               (case aL => have := LMc19.out; omega)
               intro v147 w32 ho hb hg hat
               rw [← Ny146.out] at ho
               replace BK127 := Aside0.mk (bg BK127.out hg (Kd.R_ne HO141.out BK127.out (by decide)))
               replace BK128 := Aside0.mk (bg BK128.out hg (Kd.R_ne HO141.out BK128.out (by decide)))
               replace HO151 := Aside0.mk (Kd.R_after (ok := (fun _ => True)) (rA HO151.out) hg hat)
               replace HB := Aside0.mk (hb)
               have HO148 := Aside0.mk (ho)
               clear HO141 ho hb hg hat
               refine hK.out _ _ ⟨bl BK127 0,bl BK127 1⟩ (fun hHeld => ?_)
               clear hK K
               refine nw 55 ?_
               exact norm_ (by simp only [putAll,Act.put,setIfInBounds_toArray,set_cons_zero,set_cons_succ]) (hCont (v140,v147,v150) _ ⟨hHeld,(rA HO148.out),(rM HO151.out (fun _ hk => hk.2)),(kA BK127.out),(kA BK128.out),bA⟩)
             rintro ⟨v140,v147,v150⟩ w33 ⟨hS_,h0_,h1_,h2_,h3_,h4_⟩
             have HO148 : Aside0 (Kd.R k32 32 w33 w.heap.size (fun k_ => some k_ ≠ (v150 : Value).ownBlock) v147 y146) := ⟨h0_⟩
             have HO151 : Aside0 (Kd.R k32 32 w33 w.heap.size (fun k_ => some k_ ≠ (v147 : Value).ownBlock) v150 y149) := ⟨h1_⟩
             replace BK127 : Aside0 (w33.heap[gb127]? = some (.cells #[.slice (some ad129) l0_0.length c0_0,.int .i64 a0_1] 25 (0,0))) := ⟨h2_⟩
             replace BK128 : Aside0 (w33.heap[gb128]? = some (.cells #[.slice none 0 0,.int .i64 0] 25 (0,0))) := ⟨h3_⟩
             replace HB : Aside0 (Below w.heap.size w w33) := ⟨h4_⟩
             clear h0_ h1_ h2_ h3_ h4_
             have hHeld : w33.cell? ⟨gb127,0,none⟩ = some (.slice (some ad129) l0_0.length c0_0) ∧ w33.cell? ⟨gb127,1,none⟩ = some (.int .i64 a0_1) := hS_
             obtain ⟨Ao35,co35,eo35⟩ := Kd.R_slice HO151.out
             (first | subst eo35 | (injection eo35 with f1_ f2_ f3_; have f4_ := f1_.symm; have f5_ := f3_.symm; clear f1_ f2_ f3_; subst f4_; subst f5_))
             refine norm_ (a':=?_) ?_ ?_
             rotate_left
             ·simp only [putAll,Act.put,setIfInBounds_toArray,set_cons_zero,set_cons_succ]
              rfl
             refine one_ (i:=12) (N:=some 62) (bm 17 16383) rfl rfl (one_of HT_.out (by kernel_rfl)) (by decide) (fun K hK => ?_)
             refine Kd.R_append_rows_step k32 (w0 := w) w.heap.size (by rfl) (.tmp 55) (.tmp 61) 23 32 (.agg #[(.string ⟨#[]⟩),(.int .i64 0),(.string ⟨#[]⟩)]) 40 rfl Try.underlying23 info32 rfl (by decide) (by omega) v147 y146 y149 _ _ _ (fun k_ => some k_ ≠ (.slice Ao35 y149.length co35 : Value).ownBlock) (fun _ => False) rfl rfl ?aO ?aR (fun _ _ h => h) (fun _ h => h.elim) ?aF ?aB ?aS ?aL ?_
             (case aR => repeat (first | exact (Kd.R_reads' HO151.out).2.2 | (with_reducible refine Kd.C_alloc ?_ _) | (with_reducible refine Kd.C_drewN ?_ _) | (with_reducible refine Kd.C_drew ?_)))
             (case aB => exact bA)
             (case aF => exact (fun k_ hk => Kd.fresh' (Kd.R_lt (rA HO151.out)) k_ hk))
             (case aO => exact (rA HO148.out))
             (case aS => exact (below_size bA))
             (case aL => have := LMc20.out; omega)
             intro v153 w34 ho hb hg hat
             rw [← Ny152.out] at ho
             replace BK127 := Aside0.mk (bg BK127.out hg (Kd.R_ne HO148.out BK127.out (by decide)))
             replace BK128 := Aside0.mk (bg BK128.out hg (Kd.R_ne HO148.out BK128.out (by decide)))
             replace HO151 := Aside0.mk (Kd.R_after (ok := (fun _ => True)) (rM HO151.out (fun _ hk => ⟨trivial,hk⟩)) hg hat)
             replace HB := Aside0.mk (hb)
             have HO154 := Aside0.mk (ho)
             clear HO148 ho hb hg hat
             refine hK.out _ _ ⟨bl BK127 0,bl BK127 1⟩ (fun hHeld => ?_)
             clear hK K
             refine nw 62 ?_
             refine one_ (i:=14) (N:=some 64) (bm 17 32767) rfl rfl (one_of HT_.out (by kernel_rfl)) (by decide) (fun K hK => ?_)
             refine Kd.R_append_rows_step k32 (w0 := w) w.heap.size (by rfl) (.tmp 62) (.tmp 63) 23 32 (.agg #[(.string ⟨#[]⟩),(.int .i64 0),(.string ⟨#[]⟩)]) 40 rfl Try.underlying23 info32 rfl (by decide) (by omega) v153 y152 y135 _ _ _ (fun k_ => some k_ ≠ (.slice Ao35 y149.length co35 : Value).ownBlock) (fun _ => False) rfl rfl ?aO ?aR (fun _ _ h => h) (fun _ h => h.elim) ?aF ?aB ?aS ?aL ?_
             (case aR => exact sC HR138.out)
             (case aB => exact bA)
             (case aF => exact (fun k_ hk => Kd.fresh' (Kd.R_lt (rA HO151.out)) k_ hk))
             (case aO => exact (rA HO154.out))
             (case aS => exact (below_size bA))
             (case aL => have := LMc21.out; omega)
             intro v156 w36 ho hb hg hat
             rw [← Ny155.out] at ho
             replace BK127 := Aside0.mk (bg BK127.out hg (Kd.R_ne HO154.out BK127.out (by decide)))
             replace BK128 := Aside0.mk (bg BK128.out hg (Kd.R_ne HO154.out BK128.out (by decide)))
             replace HO151 := Aside0.mk (Kd.R_after (ok := (fun _ => True)) (rA HO151.out) hg hat)
             replace HB := Aside0.mk (hb)
             have HO157 := Aside0.mk (ho)
             clear HO154 ho hb hg hat
             obtain ⟨Ao37,co37,eo37⟩ := Kd.R_slice HO157.out
             (first | subst eo37 | (injection eo37 with f1_ f2_ f3_; have f4_ := f1_.symm; have f5_ := f3_.symm; clear f1_ f2_ f3_; subst f4_; subst f5_))
             refine hK.out _ _ ⟨bl BK127 0,bl BK127 1⟩ (fun hHeld => ?_)
             clear hK K
             refine nw 64 ?_
             refine pV_ 15 65 (bm 17 65535) HT_.out ?_
             refine last_ (i:=16) (N:=none) (bm 17 131071) rfl rfl (one_of HT_.out (by kernel_rfl)) (by decide) (fun K hK => ?_)
             have hs38 : w36.cell? ⟨gb127,0,none⟩ = some (.slice (some ad129) l0_0.length c0_0) := bl BK127 0
             have hfs38 := blk_frozen BK127.out 0
             have hns38_1 := NB128_127.out
             have hms38_1 := NB127_128.out
             refine skip_ (w1 := ?_) (by rfl) rfl ?_ ?_
             rotate_left
             ·go_simp
              rfl
             refine hK.out _ _ ?_
             clear hK K
             refine done_ (done_of HT_.out (by kernel_rfl)) ?_
             obtain ⟨hcz39_0,hcz39_1⟩ := cl2 BK127.out
             obtain ⟨hfz39_0,hfz39_1⟩ := fz2 BK127.out
             obtain ⟨hcz40_0,hcz40_1⟩ := cl2 BK128.out
             obtain ⟨hfz40_0,hfz40_1⟩ := fz2 BK128.out
             try go_wp2
             refine bodyPost_ret (results_cell_row rfl _ _ gb128 25 #[.slice Ao37 y155.length co37,.int .i64 (wrap64 (a0_1 + 1))] (0,0) _ rfl (by (with_reducible repeat (first | refine blk_drewN ?_ _ | refine blk_drew ?_ | refine blk_alloc ?_ _)); apply blkp2; (with_reducible repeat (first | refine blk_drewN ?_ _ | refine blk_drew ?_ | refine blk_alloc ?_ _)); refine blk_far ?_ NB128_127.out _; (with_reducible repeat (first | refine blk_drewN ?_ _ | refine blk_drew ?_ | refine blk_alloc ?_ _)); refine blk_far ?_ NB128_127.out _; (with_reducible repeat (first | refine blk_drewN ?_ _ | refine blk_drew ?_ | refine blk_alloc ?_ _)); exact BK128.out) Try.underlying25 rfl (by kernel_rfl)) rfl ?_
             exact ⟨_,by first | rfl | (simp only [i64_w,i32_w] <;> rfl) | (simp [errW_none,errW_some] <;> rfl) | (simp only [← hji14]; first | rfl | (simp [errW_none,errW_some] <;> rfl)) | (simp [*,errW_none,errW_some] <;> rfl),by (with_reducible repeat (first | apply Kd.R_alloc | apply Kd.R_drewN | apply Kd.R_drew)); exact Kd.R_mono (Kd.R_far (p:=⟨gb128,1,none⟩) (Kd.R_far (p:=⟨gb128,0,none⟩) (Kd.R_far (p:=⟨gb127,1,none⟩) (Kd.R_far (p:=⟨gb127,0,none⟩) (Kd.R_types (Kd.R_types HO157.out BK127.out (by decide)) BK128.out (by decide)) (fun _ hk => hk.1.2) (.slice Ao37 y155.length co37)) (fun _ hk => hk.1.2) (.int .i64 (wrap64 (a0_1 + 1)))) (fun _ hk => hk.2) (.slice Ao37 y155.length co37)) (fun _ hk => hk.2) (.int .i64 (wrap64 (a0_1 + 1)))) (fun _ hk => trivial),bA⟩
            ·rw [if_neg c21] at H
             exact absurd H (by simp)
           ·rw [if_neg c20] at H
            exact absurd H (by simp)
          ·rw [if_neg c19] at H
           exact absurd H (by simp)
         ·rw [if_neg c16] at H
          exact absurd H (by simp)
        ·rw [if_neg c15] at H
         exact absurd H (by simp)
       ·rw [if_neg c13] at H
        have c13b0 : (((rd_T32 l0_0 x7_1).f0).toList == a1.toList) = false := beq_eq_false_iff_ne.mpr c13
        have c13b1 : (((rd_T32 l0_0 x7_1).f0).toList != a1.toList) = true := bne_iff_ne.mpr c13
        obtain ⟨y158,hy158⟩ : ∃ y_ : List (S32),y_ = (([] : List (S32))) := ⟨_,rfl⟩
        replace H : ((some (l0_0.take (x7_1 : Int).toNat : List (S32))).bind fun y161 => (if y158.length + y161.length < 3518437208883 then ((some (y158 ++ y161 : List (S32))).bind fun y165 => ((some (([(⟨a1,a0_1,a2⟩ : S32)] : List (S32)) : List (S32))).bind fun y168 => (if y165.length + y168.length < 3518437208883 then ((some (y165 ++ y168 : List (S32))).bind fun y171 => (if y171.length + y130.length < 3518437208883 then (some ((y171 ++ y130),wrap64 (a0_1 + 1))) else (none))) else (none)))) else (none))) = some (r1,r2) := by first | (rw [hy158]; with_reducible exact H) | (have H2_ := (Option.bind_some _ _).symm.trans H; rw [hy158]; with_reducible exact H2_) | (have H2_ := (Option.bind_some _ _).symm.trans H; with_reducible exact H2_) | with_reducible exact H | (rw [hy158]; exact H) | exact H
        have Ny158 := Aside0.mk hy158
        clear hy158
        have c41b0 := eq_true (od : 0 ≤ x7_1)
        have c42b0 := eq_true (od : x7_1 ≤ (l0_0.length : Int))
        obtain ⟨y161,hy161⟩ : ∃ y_ : List (S32),y_ = (l0_0.take (x7_1 : Int).toNat) := ⟨_,rfl⟩
        replace H : (if y158.length + y161.length < 3518437208883 then ((some (y158 ++ y161 : List (S32))).bind fun y165 => ((some (([(⟨a1,a0_1,a2⟩ : S32)] : List (S32)) : List (S32))).bind fun y168 => (if y165.length + y168.length < 3518437208883 then ((some (y165 ++ y168 : List (S32))).bind fun y171 => (if y171.length + y130.length < 3518437208883 then (some ((y171 ++ y130),wrap64 (a0_1 + 1))) else (none))) else (none)))) else (none)) = some (r1,r2) := by first | (rw [hy161]; with_reducible exact H) | (have H2_ := (Option.bind_some _ _).symm.trans H; rw [hy161]; with_reducible exact H2_) | (have H2_ := (Option.bind_some _ _).symm.trans H; with_reducible exact H2_) | with_reducible exact H | (rw [hy161]; exact H) | exact H
        have Ny161 := Aside0.mk hy161
        clear hy161
        by_cases c43 : y158.length + y161.length < 3518437208883
        ·rw [if_pos c43] at H
         have LMc43 := Aside0.mk c43
         clear c43
         obtain ⟨y165,hy165⟩ : ∃ y_ : List (S32),y_ = (y158 ++ y161) := ⟨_,rfl⟩
         replace H : ((some (([(⟨a1,a0_1,a2⟩ : S32)] : List (S32)) : List (S32))).bind fun y168 => (if y165.length + y168.length < 3518437208883 then ((some (y165 ++ y168 : List (S32))).bind fun y171 => (if y171.length + y130.length < 3518437208883 then (some ((y171 ++ y130),wrap64 (a0_1 + 1))) else (none))) else (none))) = some (r1,r2) := by first | (rw [hy165]; with_reducible exact H) | (have H2_ := (Option.bind_some _ _).symm.trans H; rw [hy165]; with_reducible exact H2_) | (have H2_ := (Option.bind_some _ _).symm.trans H; with_reducible exact H2_) | with_reducible exact H | (rw [hy165]; exact H) | exact H
         have Ny165 := Aside0.mk hy165
         clear hy165
         obtain ⟨y168,hy168⟩ : ∃ y_ : List (S32),y_ = (([(⟨a1,a0_1,a2⟩ : S32)] : List (S32))) := ⟨_,rfl⟩
         replace H : (if y165.length + y168.length < 3518437208883 then ((some (y165 ++ y168 : List (S32))).bind fun y171 => (if y171.length + y130.length < 3518437208883 then (some ((y171 ++ y130),wrap64 (a0_1 + 1))) else (none))) else (none)) = some (r1,r2) := by first | (rw [hy168]; with_reducible exact H) | (have H2_ := (Option.bind_some _ _).symm.trans H; rw [hy168]; with_reducible exact H2_) | (have H2_ := (Option.bind_some _ _).symm.trans H; with_reducible exact H2_) | with_reducible exact H | (rw [hy168]; exact H) | exact H
         have Ny168 := Aside0.mk hy168
         clear hy168
         by_cases c44 : y165.length + y168.length < 3518437208883
         ·rw [if_pos c44] at H
          have LMc44 := Aside0.mk c44
          clear c44
          obtain ⟨y171,hy171⟩ : ∃ y_ : List (S32),y_ = (y165 ++ y168) := ⟨_,rfl⟩
          replace H : (if y171.length + y130.length < 3518437208883 then (some ((y171 ++ y130),wrap64 (a0_1 + 1))) else (none)) = some (r1,r2) := by first | (rw [hy171]; with_reducible exact H) | (have H2_ := (Option.bind_some _ _).symm.trans H; rw [hy171]; with_reducible exact H2_) | (have H2_ := (Option.bind_some _ _).symm.trans H; with_reducible exact H2_) | with_reducible exact H | (rw [hy171]; exact H) | exact H
          have Ny171 := Aside0.mk hy171
          clear hy171
          by_cases c45 : y171.length + y130.length < 3518437208883
          ·rw [if_pos c45] at H
           have LMc45 := Aside0.mk c45
           clear c45
           obtain ⟨y174,hy174⟩ : ∃ y_ : List (S32),y_ = (y171 ++ y130) := ⟨_,rfl⟩
           replace H : (some (y174,wrap64 (a0_1 + 1))) = some (r1,r2) := by first | (rw [hy174]; with_reducible exact H) | (have H2_ := (Option.bind_some _ _).symm.trans H; rw [hy174]; with_reducible exact H2_) | (have H2_ := (Option.bind_some _ _).symm.trans H; with_reducible exact H2_) | with_reducible exact H | (rw [hy174]; exact H) | exact H
           have Ny174 := Aside0.mk hy174
           clear hy174
           simp only [Option.some.injEq,Prod.mk.injEq] at H
           obtain ⟨rfl,rfl⟩ := H
           have hnb46 := NB127_128.out
           have hnc46 := NB128_127.out
           obtain ⟨hcz47_0,hcz47_1⟩ := cl2 BK127.out
           obtain ⟨hfz47_0,hfz47_1⟩ := fz2 BK127.out
           have p129 : 0 ≤ (x7_1 : Int) := od
           have q129 : x7_1 < (l0_0.length : Int) := od
           obtain ⟨ad129,e129,hx129_0,hx129_1,hx129_2⟩ := at_T32 HR0_0.out x7_1 p129 q129
           cases e129
           replace hx129_0 := cb HB.out hx129_0
           replace hx129_1 := cb HB.out hx129_1
           replace hx129_2 := cb HB.out hx129_2
           replace p129 := eq_true p129
           replace q129 := eq_true q129
           have q48 : (x7_1 : Int) ≤ ((l0_0.length : Int) : Int) := od
           obtain ⟨i048,hi048,_,hsz48,_⟩ := info_parts info32
           have hroom48 : l0_0.length ≤ c0_0 := HC0_0.out
           have hC48 : Kd.C k32 _ (some ad129) l0_0.length l0_0 := HR0_0.out
           have q048 : (0 : Int) ≤ (x7_1 : Int) := od
           have hcut48 := cut_from (P:=Try.prog) 23 32 .i64 Try.underlying23 hi048 3 hsz48 (some ad129) l0_0.length c0_0 x7_1 q048 q48
           have hr48 := Kd.C_drop (m:=(x7_1 : Int).toNat) (c:=c0_0) hC48 (by omega) hroom48
           obtain ⟨A48,hA48⟩ : ∃ A1,A1 = (if c0_0 = (x7_1 : Int).toNat then (some ad129) else ((some ad129) : Option Addr).map (·.add ((x7_1 : Int).toNat * 3))) := ⟨_,rfl⟩
           obtain ⟨c48,hc48⟩ : ∃ c1,c1 = c0_0 - (x7_1 : Int).toNat := ⟨_,rfl⟩
           have hy48 : y130.length = l0_0.length - (x7_1 : Int).toNat := (by rw [Ny130.out,List.length_drop] <;> omega)
           rw [show (l0_0).drop (x7_1 : Int).toNat = y130 from Ny130.out.symm] at hr48
           replace hr48 : Kd.C k32 _ A48 y130.length y130 := (by rw [hA48]; exact hr48)
           rw [← hy48,← hA48,← hc48] at hcut48
           have HR133 := Aside0.mk hr48
           have HC133 := Aside0.mk (show y130.length ≤ c48 from by rw [hy48,hc48]; exact Nat.sub_le_sub_right hroom48 _)
           clear hr48 hC48 hroom48 hi048 hsz48 hc48
           have KY48 := Aside0.mk hy48
           have KA48 := Aside0.mk hA48
           clear hy48 hA48
           replace q48 := eq_true q48
           have p134 : 0 ≤ (x7_1 : Int) := od
           have q134 : x7_1 < (l0_0.length : Int) := od
           obtain ⟨ad134,e134,hx134_0,hx134_1,hx134_2⟩ := at_T32 HR0_0.out x7_1 p134 q134
           obtain rfl : ad129 = ad134 := (by injection e134)
           replace hx134_0 := cb HB.out hx134_0
           replace hx134_1 := cb HB.out hx134_1
           replace hx134_2 := cb HB.out hx134_2
           replace p134 := eq_true p134
           replace q134 := eq_true q134
           try go_wp2
           replace BK127 := Aside0.mk (blk_drew BK127.out)
           replace BK128 := Aside0.mk (blk_drew BK128.out)
           replace HB := Aside0.mk (below_drew1 HB.out)
           have q50 : (x7_1 : Int) ≤ ((l0_0.length : Int) : Int) := od
           obtain ⟨i050,hi050,_,hsz50,_⟩ := info_parts info32
           have hroom50 : l0_0.length ≤ c0_0 := HC0_0.out
           have hC50 : Kd.C k32 _ (some ad129) l0_0.length l0_0 := HR0_0.out
           have hcut50 := cut_to (P:=Try.prog) 23 32 .i64 Try.underlying23 hi050 (some ad129) l0_0.length c0_0 x7_1 (od) q50 hroom50
           have hr50 := Kd.C_take (m:=(x7_1 : Int).toNat) hC50 (by omega)
           have hy50 : y161.length = (x7_1 : Int).toNat := (by rw [Ny161.out,List.length_take]; omega)
           rw [← Ny161.out] at hr50
           rw [← hy50] at hcut50
           have HR164 := Aside0.mk hr50
           have HC164 := Aside0.mk (show y161.length ≤ c0_0 from by omega)
           clear hr50 hC50 hroom50 hi050 hsz50
           have KY50 := Aside0.mk hy50
           clear hy50
           replace q50 := eq_true q50
           refine start_ (n:=17) (S:=fun w' => w'.cell? ⟨gb127,0,none⟩ = some (.slice (some ad129) l0_0.length c0_0) ∧ w'.cell? ⟨gb127,1,none⟩ = some (.int .i64 a0_1)) (ds := [16]) (bm 17 0) (by kernel_rfl) rfl rfl ⟨bl BK127 0,bl BK127 1⟩ (fun hHeld => ?_); refine with_tabW spec_l01Set.tab7 spec_l01Set.bits7 (fun HT_ HW_ => ?_)
           generalize wr.drew = w49 at BK127 BK128 HB HR164 hHeld ⊢
           refine pV_ 1 51 (bm 17 2) HT_.out ?_
           refine pV_ 3 53 (bm 17 10) HT_.out ?_
           refine pV_ 6 56 (bm 17 74) HT_.out ?_
           refine pV_ 7 57 (bm 17 202) HT_.out ?_
           refine pV_ 9 59 (bm 17 714) HT_.out ?_
           refine pV_ 13 63 (bm 17 8906) HT_.out ?_
           refine tk 2 52 (bm 17 8910) HT_.out HW_.out hHeld ?_
           refine pV_ 4 54 (bm 17 8926) HT_.out ?_
           refine tk 8 58 (bm 17 9182) HT_.out HW_.out hHeld ?_
           refine pV_ 10 60 (bm 17 10206) HT_.out ?_
           refine join_ (σ := Value × Value × Value) 4 (bm 17 12287) (fun s_ => [(50,s_.1),(55,s_.2.1),(61,s_.2.2)]) (fun s_ w' => (w'.cell? ⟨gb127,0,none⟩ = some (.slice (some ad129) l0_0.length c0_0) ∧ w'.cell? ⟨gb127,1,none⟩ = some (.int .i64 a0_1)) ∧ (Kd.R k32 32 w' w.heap.size (fun k_ => some k_ ≠ (s_.2.2 : Value).ownBlock) s_.2.1 y165) ∧ (Kd.R k32 32 w' w.heap.size (fun k_ => some k_ ≠ (s_.2.1 : Value).ownBlock) s_.2.2 y168) ∧ (w'.heap[gb127]? = some (.cells #[.slice (some ad129) l0_0.length c0_0,.int .i64 a0_1] 25 (0,0))) ∧ (w'.heap[gb128]? = some (.cells #[.slice none 0 0,.int .i64 0] 25 (0,0))) ∧ (Below w.heap.size w w')) ?_ ?_
           rotate_left
           ·intro hCont
            refine two_ (i:=0) (j:=11) (Ni := some 50) (Nj := some 61) (bm 17 10207) (bm 17 12254) rfl rfl rfl rfl (two_of HT_.out (by kernel_rfl)) (by decide) (by decide) (fun K hK => ?_) (fun K hK => ?_)
            ·skip
             refine Kd.R_lit_step k32 _ 32 ?hg (N:=50) ?hd (xs := ([] : List (S32))) (inner := []) (ok := fun _ => True) (okp := fun _ => True) ?hr ?hp (fun _ hk => hk) trivial (Below.refl _ _) (Nat.le_refl _) (by simp) ?_; (case hd => rfl); (case hg => rfl); (case hr => first | (go_simp; done) | (go_simp; rfl)); (case hp => exact (Reps.none _ _))
             intro v159 w51 ho52 hb hg_ hnew_
             clear hg_ hnew_
             (first | rw [← Ny158.out] at ho52 | (simp only [Int.reduceToNat] at ho52; rw [← Ny158.out] at ho52))
             have HO160 := Aside0.mk (Kd.R_lower ho52 (below_size bA))
             replace BK127 := bbA BK127 hb
             replace BK128 := bbA BK128 hb
             replace HB := bsA hb
             clear hb ho52
             refine hK.out _ _ ⟨bl BK127 0,bl BK127 1⟩ (fun hHeld => ?_)
             clear hK K
             refine nw 50 ?_
             refine two_ (i:=5) (j:=11) (Ni := some 55) (Nj := some 61) (bm 17 10239) (bm 17 12255) rfl rfl rfl rfl (two_of HT_.out (by kernel_rfl)) (by decide) (by decide) (fun K hK => ?_) (fun K hK => ?_)
             ·skip
              refine Kd.R_append_rows_step k32 (w0 := w) w.heap.size (by rfl) (.tmp 50) (.tmp 54) 23 32 (.agg #[(.string ⟨#[]⟩),(.int .i64 0),(.string ⟨#[]⟩)]) 40 rfl Try.underlying23 info32 rfl (by decide) (by omega) v159 y158 y161 _ _ _ (fun _ => True) (fun _ => False) rfl rfl ?aO ?aR (fun _ _ h => h) (fun _ h => h.elim) ?aF ?aB ?aS ?aL ?_
              (case aR => exact sC HR164.out)
              (case aB => exact bA)
              (case aF => exact (fun _ _ => trivial))
              (case aO => exact (rA HO160.out))
              (case aS => exact (below_size bA))
              (case aL => have := LMc43.out; omega)
              intro v166 w53 ho hb hg hat
              rw [← Ny165.out] at ho
              replace BK127 := Aside0.mk (bg BK127.out hg (Kd.R_ne HO160.out BK127.out (by decide)))
              replace BK128 := Aside0.mk (bg BK128.out hg (Kd.R_ne HO160.out BK128.out (by decide)))
              replace HB := Aside0.mk (hb)
              have HO167 := Aside0.mk (ho)
              clear HO160 ho hb hg hat
              refine hK.out _ _ ⟨bl BK127 0,bl BK127 1⟩ (fun hHeld => ?_)
              clear hK K
              refine nw 55 ?_
              refine one_ (i:=11) (N:=some 61) (bm 17 12287) rfl rfl (one_of HT_.out (by kernel_rfl)) (by decide) (fun K hK => ?_)
              refine Kd.R_lit_step k32 _ 32 ?hg (N:=61) ?hd (xs := ([(⟨a1,a0_1,a2⟩ : S32)] : List (S32))) (inner := [.string a1,.int .i64 a0_1,.string a2]) (ok := fun _ => True) (okp := fun _ => True) ?hr ?hp (fun _ hk => hk) trivial (Below.refl _ _) (Nat.le_refl _) (by simp) ?_; (case hd => rfl); (case hg => rfl); (case hr => first | (go_simp; done) | (go_simp; rfl)); (case hp => exact (Reps.c3 (show Kd.M k32 _ _ _ (⟨a1,a0_1,a2⟩ : S32) [.string a1,.int .i64 a0_1,.string a2] from (k32_mkM _ _ _ (⟨a1,a0_1,a2⟩ : S32) )) (Reps.none _ _)))
              intro v169 w54 ho55 hb hg_ hnew_
              clear hg_ hnew_
              (first | rw [← Ny168.out] at ho55 | (simp only [Int.reduceToNat] at ho55; rw [← Ny168.out] at ho55))
              have HO170 := Aside0.mk (Kd.R_lower (Kd.R_new' ho55 (Kd.R_lt (rA HO167.out))) (below_size bA))
              replace HO167 := Aside0.mk (Kd.R_elder' (rA HO167.out) (Kd.R_base ho55) hb)
              replace BK127 := bbA BK127 hb
              replace BK128 := bbA BK128 hb
              replace HB := bsA hb
              clear hb ho55
              refine hK.out _ _ ⟨bl BK127 0,bl BK127 1⟩ (fun hHeld => ?_)
              clear hK K
              refine nw 61 ?_
              exact norm_ (by simp only [putAll,Act.put,setIfInBounds_toArray,set_cons_zero,set_cons_succ]) (hCont (v159,v166,v169) _ ⟨hHeld,(rM HO167.out (fun _ hk => hk.2)),(rM HO170.out (fun _ hk => hk.2)),(kA BK127.out),(kA BK128.out),bA⟩)
             ·skip
              refine Kd.R_lit_step k32 _ 32 ?hg (N:=61) ?hd (xs := ([(⟨a1,a0_1,a2⟩ : S32)] : List (S32))) (inner := [.string a1,.int .i64 a0_1,.string a2]) (ok := fun _ => True) (okp := fun _ => True) ?hr ?hp (fun _ hk => hk) trivial (Below.refl _ _) (Nat.le_refl _) (by simp) ?_; (case hd => rfl); (case hg => rfl); (case hr => first | (go_simp; done) | (go_simp; rfl)); (case hp => exact (Reps.c3 (show Kd.M k32 _ _ _ (⟨a1,a0_1,a2⟩ : S32) [.string a1,.int .i64 a0_1,.string a2] from (k32_mkM _ _ _ (⟨a1,a0_1,a2⟩ : S32) )) (Reps.none _ _)))
              intro v169 w53 ho54 hb hg_ hnew_
              clear hg_ hnew_
              (first | rw [← Ny168.out] at ho54 | (simp only [Int.reduceToNat] at ho54; rw [← Ny168.out] at ho54))
              have HO170 := Aside0.mk (Kd.R_lower (Kd.R_new' ho54 (Kd.R_lt (rA HO160.out))) (below_size bA))
              replace HO160 := Aside0.mk (Kd.R_elder' (rA HO160.out) (Kd.R_base ho54) hb)
              replace BK127 := bbA BK127 hb
              replace BK128 := bbA BK128 hb
              replace HB := bsA hb
              clear hb ho54
              refine hK.out _ _ ⟨bl BK127 0,bl BK127 1⟩ (fun hHeld => ?_)
              clear hK K
              refine nw 61 ?_
              refine one_ (i:=5) (N:=some 55) (bm 17 12287) rfl rfl (one_of HT_.out (by kernel_rfl)) (by decide) (fun K hK => ?_)
              refine Kd.R_append_rows_step k32 (w0 := w) w.heap.size (by rfl) (.tmp 50) (.tmp 54) 23 32 (.agg #[(.string ⟨#[]⟩),(.int .i64 0),(.string ⟨#[]⟩)]) 40 rfl Try.underlying23 info32 rfl (by decide) (by omega) v159 y158 y161 _ _ _ (fun k_ => some k_ ≠ (v169 : Value).ownBlock) (fun _ => False) rfl rfl ?aO ?aR (fun _ _ h => h) (fun _ h => h.elim) ?aF ?aB ?aS ?aL ?_
              (case aR => exact sC HR164.out)
              (case aB => exact bA)
              (case aF => exact (fun k_ hk => Kd.fresh' (Kd.R_lt (rA HO170.out)) k_ hk))
              (case aO => exact (rM HO160.out (fun _ hk => hk.2)))
              (case aS => exact (below_size bA))
              (case aL => have := LMc43.out; omega)
              intro v166 w55 ho hb hg hat
              rw [← Ny165.out] at ho
              replace BK127 := Aside0.mk (bg BK127.out hg (Kd.R_ne HO160.out BK127.out (by decide)))
              replace BK128 := Aside0.mk (bg BK128.out hg (Kd.R_ne HO160.out BK128.out (by decide)))
              replace HO170 := Aside0.mk (Kd.R_after (ok := (fun _ => True)) (rA HO170.out) hg hat)
              replace HB := Aside0.mk (hb)
              have HO167 := Aside0.mk (ho)
              clear HO160 ho hb hg hat
              refine hK.out _ _ ⟨bl BK127 0,bl BK127 1⟩ (fun hHeld => ?_)
              clear hK K
              refine nw 55 ?_
              exact norm_ (by simp only [putAll,Act.put,setIfInBounds_toArray,set_cons_zero,set_cons_succ]) (hCont (v159,v166,v169) _ ⟨hHeld,(rA HO167.out),(rM HO170.out (fun _ hk => hk.2)),(kA BK127.out),(kA BK128.out),bA⟩)
            ·skip
             refine Kd.R_lit_step k32 _ 32 ?hg (N:=61) ?hd (xs := ([(⟨a1,a0_1,a2⟩ : S32)] : List (S32))) (inner := [.string a1,.int .i64 a0_1,.string a2]) (ok := fun _ => True) (okp := fun _ => True) ?hr ?hp (fun _ hk => hk) trivial (Below.refl _ _) (Nat.le_refl _) (by simp) ?_; (case hd => rfl); (case hg => rfl); (case hr => first | (go_simp; done) | (go_simp; rfl)); (case hp => exact (Reps.c3 (show Kd.M k32 _ _ _ (⟨a1,a0_1,a2⟩ : S32) [.string a1,.int .i64 a0_1,.string a2] from (k32_mkM _ _ _ (⟨a1,a0_1,a2⟩ : S32) )) (Reps.none _ _)))
             intro v169 w51 ho52 hb hg_ hnew_
             clear hg_ hnew_
             (first | rw [← Ny168.out] at ho52 | (simp only [Int.reduceToNat] at ho52; rw [← Ny168.out] at ho52))
             have HO170 := Aside0.mk (Kd.R_lower ho52 (below_size bA))
             replace BK127 := bbA BK127 hb
             replace BK128 := bbA BK128 hb
             replace HB := bsA hb
             clear hb ho52
             refine hK.out _ _ ⟨bl BK127 0,bl BK127 1⟩ (fun hHeld => ?_)
             clear hK K
             refine nw 61 ?_
             refine one_ (i:=0) (N:=some 50) (bm 17 12255) rfl rfl (one_of HT_.out (by kernel_rfl)) (by decide) (fun K hK => ?_)
             refine Kd.R_lit_step k32 _ 32 ?hg (N:=50) ?hd (xs := ([] : List (S32))) (inner := []) (ok := fun _ => True) (okp := fun _ => True) ?hr ?hp (fun _ hk => hk) trivial (Below.refl _ _) (Nat.le_refl _) (by simp) ?_; (case hd => rfl); (case hg => rfl); (case hr => first | (go_simp; done) | (go_simp; rfl)); (case hp => exact (Reps.none _ _))
             intro v159 w53 ho54 hb hg_ hnew_
             clear hg_ hnew_
             (first | rw [← Ny158.out] at ho54 | (simp only [Int.reduceToNat] at ho54; rw [← Ny158.out] at ho54))
             have HO160 := Aside0.mk (Kd.R_lower (Kd.R_new' ho54 (Kd.R_lt (rA HO170.out))) (below_size bA))
             replace HO170 := Aside0.mk (Kd.R_elder' (rA HO170.out) (Kd.R_base ho54) hb)
             replace BK127 := bbA BK127 hb
             replace BK128 := bbA BK128 hb
             replace HB := bsA hb
             clear hb ho54
             refine hK.out _ _ ⟨bl BK127 0,bl BK127 1⟩ (fun hHeld => ?_)
             clear hK K
             refine nw 50 ?_
             refine one_ (i:=5) (N:=some 55) (bm 17 12287) rfl rfl (one_of HT_.out (by kernel_rfl)) (by decide) (fun K hK => ?_)
             refine Kd.R_append_rows_step k32 (w0 := w) w.heap.size (by rfl) (.tmp 50) (.tmp 54) 23 32 (.agg #[(.string ⟨#[]⟩),(.int .i64 0),(.string ⟨#[]⟩)]) 40 rfl Try.underlying23 info32 rfl (by decide) (by omega) v159 y158 y161 _ _ _ (fun k_ => some k_ ≠ (v169 : Value).ownBlock) (fun _ => False) rfl rfl ?aO ?aR (fun _ _ h => h) (fun _ h => h.elim) ?aF ?aB ?aS ?aL ?_
             (case aR => exact sC HR164.out)
             (case aB => exact bA)
             (case aF => exact (fun k_ hk => Kd.fresh' (Kd.R_lt (rA HO170.out)) k_ hk))
             (case aO => exact (rM HO160.out (fun _ hk => hk.2)))
             (case aS => exact (below_size bA))
             (case aL => have := LMc43.out; omega)
             intro v166 w55 ho hb hg hat
             rw [← Ny165.out] at ho
             replace BK127 := Aside0.mk (bg BK127.out hg (Kd.R_ne HO160.out BK127.out (by decide)))
             replace BK128 := Aside0.mk (bg BK128.out hg (Kd.R_ne HO160.out BK128.out (by decide)))
             replace HO170 := Aside0.mk (Kd.R_after (ok := (fun _ => True)) (rA HO170.out) hg hat)
             replace HB := Aside0.mk (hb)
             have HO167 := Aside0.mk (ho)
             clear HO160 ho hb hg hat
             refine hK.out _ _ ⟨bl BK127 0,bl BK127 1⟩ (fun hHeld => ?_)
             clear hK K
             refine nw 55 ?_
             exact norm_ (by simp only [putAll,Act.put,setIfInBounds_toArray,set_cons_zero,set_cons_succ]) (hCont (v159,v166,v169) _ ⟨hHeld,(rA HO167.out),(rM HO170.out (fun _ hk => hk.2)),(kA BK127.out),(kA BK128.out),bA⟩)
           rintro ⟨v159,v166,v169⟩ w56 ⟨hS_,h0_,h1_,h2_,h3_,h4_⟩
           have HO167 : Aside0 (Kd.R k32 32 w56 w.heap.size (fun k_ => some k_ ≠ (v169 : Value).ownBlock) v166 y165) := ⟨h0_⟩
           have HO170 : Aside0 (Kd.R k32 32 w56 w.heap.size (fun k_ => some k_ ≠ (v166 : Value).ownBlock) v169 y168) := ⟨h1_⟩
           replace BK127 : Aside0 (w56.heap[gb127]? = some (.cells #[.slice (some ad129) l0_0.length c0_0,.int .i64 a0_1] 25 (0,0))) := ⟨h2_⟩
           replace BK128 : Aside0 (w56.heap[gb128]? = some (.cells #[.slice none 0 0,.int .i64 0] 25 (0,0))) := ⟨h3_⟩
           replace HB : Aside0 (Below w.heap.size w w56) := ⟨h4_⟩
           clear h0_ h1_ h2_ h3_ h4_
           have hHeld : w56.cell? ⟨gb127,0,none⟩ = some (.slice (some ad129) l0_0.length c0_0) ∧ w56.cell? ⟨gb127,1,none⟩ = some (.int .i64 a0_1) := hS_
           obtain ⟨Ao58,co58,eo58⟩ := Kd.R_slice HO170.out
           (first | subst eo58 | (injection eo58 with f1_ f2_ f3_; have f4_ := f1_.symm; have f5_ := f3_.symm; clear f1_ f2_ f3_; subst f4_; subst f5_))
           refine norm_ (a':=?_) ?_ ?_
           rotate_left
           ·simp only [putAll,Act.put,setIfInBounds_toArray,set_cons_zero,set_cons_succ]
            rfl
           refine one_ (i:=12) (N:=some 62) (bm 17 16383) rfl rfl (one_of HT_.out (by kernel_rfl)) (by decide) (fun K hK => ?_)
           refine Kd.R_append_rows_step k32 (w0 := w) w.heap.size (by rfl) (.tmp 55) (.tmp 61) 23 32 (.agg #[(.string ⟨#[]⟩),(.int .i64 0),(.string ⟨#[]⟩)]) 40 rfl Try.underlying23 info32 rfl (by decide) (by omega) v166 y165 y168 _ _ _ (fun k_ => some k_ ≠ (.slice Ao58 y168.length co58 : Value).ownBlock) (fun _ => False) rfl rfl ?aO ?aR (fun _ _ h => h) (fun _ h => h.elim) ?aF ?aB ?aS ?aL ?_
           (case aR => repeat (first | exact (Kd.R_reads' HO170.out).2.2 | (with_reducible refine Kd.C_alloc ?_ _) | (with_reducible refine Kd.C_drewN ?_ _) | (with_reducible refine Kd.C_drew ?_)))
           (case aB => exact bA)
           (case aF => exact (fun k_ hk => Kd.fresh' (Kd.R_lt (rA HO170.out)) k_ hk))
           (case aO => exact (rA HO167.out))
           (case aS => exact (below_size bA))
           (case aL => have := LMc44.out; omega)
           intro v172 w57 ho hb hg hat
           rw [← Ny171.out] at ho
           replace BK127 := Aside0.mk (bg BK127.out hg (Kd.R_ne HO167.out BK127.out (by decide)))
           replace BK128 := Aside0.mk (bg BK128.out hg (Kd.R_ne HO167.out BK128.out (by decide)))
           replace HO170 := Aside0.mk (Kd.R_after (ok := (fun _ => True)) (rM HO170.out (fun _ hk => ⟨trivial,hk⟩)) hg hat)
           replace HB := Aside0.mk (hb)
           have HO173 := Aside0.mk (ho)
           clear HO167 ho hb hg hat
           refine hK.out _ _ ⟨bl BK127 0,bl BK127 1⟩ (fun hHeld => ?_)
           clear hK K
           refine nw 62 ?_
           refine one_ (i:=14) (N:=some 64) (bm 17 32767) rfl rfl (one_of HT_.out (by kernel_rfl)) (by decide) (fun K hK => ?_)
           refine Kd.R_append_rows_step k32 (w0 := w) w.heap.size (by rfl) (.tmp 62) (.tmp 63) 23 32 (.agg #[(.string ⟨#[]⟩),(.int .i64 0),(.string ⟨#[]⟩)]) 40 rfl Try.underlying23 info32 rfl (by decide) (by omega) v172 y171 y130 _ _ _ (fun k_ => some k_ ≠ (.slice Ao58 y168.length co58 : Value).ownBlock) (fun _ => False) rfl rfl ?aO ?aR (fun _ _ h => h) (fun _ h => h.elim) ?aF ?aB ?aS ?aL ?_
           (case aR => exact sC HR133.out)
           (case aB => exact bA)
           (case aF => exact (fun k_ hk => Kd.fresh' (Kd.R_lt (rA HO170.out)) k_ hk))
           (case aO => exact (rA HO173.out))
           (case aS => exact (below_size bA))
           (case aL => have := LMc45.out; omega)
           intro v175 w59 ho hb hg hat
           rw [← Ny174.out] at ho
           replace BK127 := Aside0.mk (bg BK127.out hg (Kd.R_ne HO173.out BK127.out (by decide)))
           replace BK128 := Aside0.mk (bg BK128.out hg (Kd.R_ne HO173.out BK128.out (by decide)))
           replace HO170 := Aside0.mk (Kd.R_after (ok := (fun _ => True)) (rA HO170.out) hg hat)
           replace HB := Aside0.mk (hb)
           have HO176 := Aside0.mk (ho)
           clear HO173 ho hb hg hat
           obtain ⟨Ao60,co60,eo60⟩ := Kd.R_slice HO176.out
           (first | subst eo60 | (injection eo60 with f1_ f2_ f3_; have f4_ := f1_.symm; have f5_ := f3_.symm; clear f1_ f2_ f3_; subst f4_; subst f5_))
           refine hK.out _ _ ⟨bl BK127 0,bl BK127 1⟩ (fun hHeld => ?_)
           clear hK K
           refine nw 64 ?_
           refine pV_ 15 65 (bm 17 65535) HT_.out ?_
           refine last_ (i:=16) (N:=none) (bm 17 131071) rfl rfl (one_of HT_.out (by kernel_rfl)) (by decide) (fun K hK => ?_)
           have hs61 : w59.cell? ⟨gb127,0,none⟩ = some (.slice (some ad129) l0_0.length c0_0) := bl BK127 0
           have hfs61 := blk_frozen BK127.out 0
           have hns61_1 := NB128_127.out
           have hms61_1 := NB127_128.out
           refine skip_ (w1 := ?_) (by rfl) rfl ?_ ?_
           rotate_left
           ·go_simp
            rfl
           refine hK.out _ _ ?_
           clear hK K
           refine done_ (done_of HT_.out (by kernel_rfl)) ?_
           obtain ⟨hcz62_0,hcz62_1⟩ := cl2 BK127.out
           obtain ⟨hfz62_0,hfz62_1⟩ := fz2 BK127.out
           obtain ⟨hcz63_0,hcz63_1⟩ := cl2 BK128.out
           obtain ⟨hfz63_0,hfz63_1⟩ := fz2 BK128.out
           try go_wp2
           refine bodyPost_ret (results_cell_row rfl _ _ gb128 25 #[.slice Ao60 y174.length co60,.int .i64 (wrap64 (a0_1 + 1))] (0,0) _ rfl (by (with_reducible repeat (first | refine blk_drewN ?_ _ | refine blk_drew ?_ | refine blk_alloc ?_ _)); apply blkp2; (with_reducible repeat (first | refine blk_drewN ?_ _ | refine blk_drew ?_ | refine blk_alloc ?_ _)); refine blk_far ?_ NB128_127.out _; (with_reducible repeat (first | refine blk_drewN ?_ _ | refine blk_drew ?_ | refine blk_alloc ?_ _)); refine blk_far ?_ NB128_127.out _; (with_reducible repeat (first | refine blk_drewN ?_ _ | refine blk_drew ?_ | refine blk_alloc ?_ _)); exact BK128.out) Try.underlying25 rfl (by kernel_rfl)) rfl ?_
           exact ⟨_,by first | rfl | (simp only [i64_w,i32_w] <;> rfl) | (simp [errW_none,errW_some] <;> rfl) | (simp [*,errW_none,errW_some] <;> rfl),by (with_reducible repeat (first | apply Kd.R_alloc | apply Kd.R_drewN | apply Kd.R_drew)); exact Kd.R_mono (Kd.R_far (p:=⟨gb128,1,none⟩) (Kd.R_far (p:=⟨gb128,0,none⟩) (Kd.R_far (p:=⟨gb127,1,none⟩) (Kd.R_far (p:=⟨gb127,0,none⟩) (Kd.R_types (Kd.R_types HO176.out BK127.out (by decide)) BK128.out (by decide)) (fun _ hk => hk.1.2) (.slice Ao60 y174.length co60)) (fun _ hk => hk.1.2) (.int .i64 (wrap64 (a0_1 + 1)))) (fun _ hk => hk.2) (.slice Ao60 y174.length co60)) (fun _ hk => hk.2) (.int .i64 (wrap64 (a0_1 + 1)))) (fun _ hk => trivial),bA⟩
          ·rw [if_neg c45] at H
           exact absurd H (by simp)
         ·rw [if_neg c44] at H
          exact absurd H (by simp)
        ·rw [if_neg c43] at H
         exact absurd H (by simp)
      ·rw [if_neg c12] at H
       exact absurd H (by simp)
    ·rw [if_neg c7] at H
     exact absurd H (by simp)
   ·rw [if_neg c6] at H
    have c6b0 : decide (x7_1 < (l0_0.length : Int)) = false := decide_eq_false c6
    clear c6
    by_cases c64 : 0 ≤ x7_1
    ·rw [if_pos c64] at H
     have c64b0 := eq_true c64
     have c64b1 : decide (0 ≤ x7_1) = true := decide_eq_true c64
     clear c64
     by_cases c65 : x7_1 ≤ (l0_0.length : Int)
     ·rw [if_pos c65] at H
      have c65b0 := eq_true c65
      have c65b1 : decide (x7_1 ≤ (l0_0.length : Int)) = true := decide_eq_true c65
      clear c65
      obtain ⟨y177,hy177⟩ : ∃ y_ : List (S32),y_ = (l0_0.drop (x7_1 : Int).toNat) := ⟨_,rfl⟩
      replace H : ((some (([] : List (S32)) : List (S32))).bind fun y181 => ((some (l0_0.take (x7_1 : Int).toNat : List (S32))).bind fun y184 => (if y181.length + y184.length < 3518437208883 then ((some (y181 ++ y184 : List (S32))).bind fun y188 => ((some (([(⟨a1,a0_1,a2⟩ : S32)] : List (S32)) : List (S32))).bind fun y191 => (if y188.length + y191.length < 3518437208883 then ((some (y188 ++ y191 : List (S32))).bind fun y194 => (if y194.length + y177.length < 3518437208883 then (some ((y194 ++ y177),wrap64 (a0_1 + 1))) else (none))) else (none)))) else (none)))) = some (r1,r2) := by first | (rw [hy177]; with_reducible exact H) | (have H2_ := (Option.bind_some _ _).symm.trans H; rw [hy177]; with_reducible exact H2_) | (have H2_ := (Option.bind_some _ _).symm.trans H; with_reducible exact H2_) | with_reducible exact H | (rw [hy177]; exact H) | exact H
      have Ny177 := Aside0.mk hy177
      clear hy177
      obtain ⟨y181,hy181⟩ : ∃ y_ : List (S32),y_ = (([] : List (S32))) := ⟨_,rfl⟩
      replace H : ((some (l0_0.take (x7_1 : Int).toNat : List (S32))).bind fun y184 => (if y181.length + y184.length < 3518437208883 then ((some (y181 ++ y184 : List (S32))).bind fun y188 => ((some (([(⟨a1,a0_1,a2⟩ : S32)] : List (S32)) : List (S32))).bind fun y191 => (if y188.length + y191.length < 3518437208883 then ((some (y188 ++ y191 : List (S32))).bind fun y194 => (if y194.length + y177.length < 3518437208883 then (some ((y194 ++ y177),wrap64 (a0_1 + 1))) else (none))) else (none)))) else (none))) = some (r1,r2) := by first | (rw [hy181]; with_reducible exact H) | (have H2_ := (Option.bind_some _ _).symm.trans H; rw [hy181]; with_reducible exact H2_) | (have H2_ := (Option.bind_some _ _).symm.trans H; with_reducible exact H2_) | with_reducible exact H | (rw [hy181]; exact H) | exact H
      have Ny181 := Aside0.mk hy181
      clear hy181
      have c66b0 := eq_true (od : 0 ≤ x7_1)
      have c67b0 := eq_true (od : x7_1 ≤ (l0_0.length : Int))
      obtain ⟨y184,hy184⟩ : ∃ y_ : List (S32),y_ = (l0_0.take (x7_1 : Int).toNat) := ⟨_,rfl⟩
      replace H : (if y181.length + y184.length < 3518437208883 then ((some (y181 ++ y184 : List (S32))).bind fun y188 => ((some (([(⟨a1,a0_1,a2⟩ : S32)] : List (S32)) : List (S32))).bind fun y191 => (if y188.length + y191.length < 3518437208883 then ((some (y188 ++ y191 : List (S32))).bind fun y194 => (if y194.length + y177.length < 3518437208883 then (some ((y194 ++ y177),wrap64 (a0_1 + 1))) else (none))) else (none)))) else (none)) = some (r1,r2) := by first | (rw [hy184]; with_reducible exact H) | (have H2_ := (Option.bind_some _ _).symm.trans H; rw [hy184]; with_reducible exact H2_) | (have H2_ := (Option.bind_some _ _).symm.trans H; with_reducible exact H2_) | with_reducible exact H | (rw [hy184]; exact H) | exact H
      have Ny184 := Aside0.mk hy184
      clear hy184
      by_cases c68 : y181.length + y184.length < 3518437208883
      ·rw [if_pos c68] at H
       have LMc68 := Aside0.mk c68
       clear c68
       obtain ⟨y188,hy188⟩ : ∃ y_ : List (S32),y_ = (y181 ++ y184) := ⟨_,rfl⟩
       replace H : ((some (([(⟨a1,a0_1,a2⟩ : S32)] : List (S32)) : List (S32))).bind fun y191 => (if y188.length + y191.length < 3518437208883 then ((some (y188 ++ y191 : List (S32))).bind fun y194 => (if y194.length + y177.length < 3518437208883 then (some ((y194 ++ y177),wrap64 (a0_1 + 1))) else (none))) else (none))) = some (r1,r2) := by first | (rw [hy188]; with_reducible exact H) | (have H2_ := (Option.bind_some _ _).symm.trans H; rw [hy188]; with_reducible exact H2_) | (have H2_ := (Option.bind_some _ _).symm.trans H; with_reducible exact H2_) | with_reducible exact H | (rw [hy188]; exact H) | exact H
       have Ny188 := Aside0.mk hy188
       clear hy188
       obtain ⟨y191,hy191⟩ : ∃ y_ : List (S32),y_ = (([(⟨a1,a0_1,a2⟩ : S32)] : List (S32))) := ⟨_,rfl⟩
       replace H : (if y188.length + y191.length < 3518437208883 then ((some (y188 ++ y191 : List (S32))).bind fun y194 => (if y194.length + y177.length < 3518437208883 then (some ((y194 ++ y177),wrap64 (a0_1 + 1))) else (none))) else (none)) = some (r1,r2) := by first | (rw [hy191]; with_reducible exact H) | (have H2_ := (Option.bind_some _ _).symm.trans H; rw [hy191]; with_reducible exact H2_) | (have H2_ := (Option.bind_some _ _).symm.trans H; with_reducible exact H2_) | with_reducible exact H | (rw [hy191]; exact H) | exact H
       have Ny191 := Aside0.mk hy191
       clear hy191
       by_cases c69 : y188.length + y191.length < 3518437208883
       ·rw [if_pos c69] at H
        have LMc69 := Aside0.mk c69
        clear c69
        obtain ⟨y194,hy194⟩ : ∃ y_ : List (S32),y_ = (y188 ++ y191) := ⟨_,rfl⟩
        replace H : (if y194.length + y177.length < 3518437208883 then (some ((y194 ++ y177),wrap64 (a0_1 + 1))) else (none)) = some (r1,r2) := by first | (rw [hy194]; with_reducible exact H) | (have H2_ := (Option.bind_some _ _).symm.trans H; rw [hy194]; with_reducible exact H2_) | (have H2_ := (Option.bind_some _ _).symm.trans H; with_reducible exact H2_) | with_reducible exact H | (rw [hy194]; exact H) | exact H
        have Ny194 := Aside0.mk hy194
        clear hy194
        by_cases c70 : y194.length + y177.length < 3518437208883
        ·rw [if_pos c70] at H
         have LMc70 := Aside0.mk c70
         clear c70
         obtain ⟨y197,hy197⟩ : ∃ y_ : List (S32),y_ = (y194 ++ y177) := ⟨_,rfl⟩
         replace H : (some (y197,wrap64 (a0_1 + 1))) = some (r1,r2) := by first | (rw [hy197]; with_reducible exact H) | (have H2_ := (Option.bind_some _ _).symm.trans H; rw [hy197]; with_reducible exact H2_) | (have H2_ := (Option.bind_some _ _).symm.trans H; with_reducible exact H2_) | with_reducible exact H | (rw [hy197]; exact H) | exact H
         have Ny197 := Aside0.mk hy197
         clear hy197
         simp only [Option.some.injEq,Prod.mk.injEq] at H
         obtain ⟨rfl,rfl⟩ := H
         have hnb71 := NB127_128.out
         have hnc71 := NB128_127.out
         obtain ⟨hcz72_0,hcz72_1⟩ := cl2 BK127.out
         obtain ⟨hfz72_0,hfz72_1⟩ := fz2 BK127.out
         have q73 : (x7_1 : Int) ≤ ((l0_0.length : Int) : Int) := od
         obtain ⟨i073,hi073,_,hsz73,_⟩ := info_parts info32
         have hroom73 : l0_0.length ≤ c0_0 := HC0_0.out
         have hC73 : Kd.C k32 _ A0_0 l0_0.length l0_0 := HR0_0.out
         have q073 : (0 : Int) ≤ (x7_1 : Int) := od
         have hcut73 := cut_from (P:=Try.prog) 23 32 .i64 Try.underlying23 hi073 3 hsz73 A0_0 l0_0.length c0_0 x7_1 q073 q73
         have hr73 := Kd.C_drop (m:=(x7_1 : Int).toNat) (c:=c0_0) hC73 (by omega) hroom73
         obtain ⟨A73,hA73⟩ : ∃ A1,A1 = (if c0_0 = (x7_1 : Int).toNat then A0_0 else (A0_0 : Option Addr).map (·.add ((x7_1 : Int).toNat * 3))) := ⟨_,rfl⟩
         obtain ⟨c73,hc73⟩ : ∃ c1,c1 = c0_0 - (x7_1 : Int).toNat := ⟨_,rfl⟩
         have hy73 : y177.length = l0_0.length - (x7_1 : Int).toNat := (by rw [Ny177.out,List.length_drop] <;> omega)
         rw [show (l0_0).drop (x7_1 : Int).toNat = y177 from Ny177.out.symm] at hr73
         replace hr73 : Kd.C k32 _ A73 y177.length y177 := (by rw [hA73]; exact hr73)
         rw [← hy73,← hA73,← hc73] at hcut73
         have HR180 := Aside0.mk hr73
         have HC180 := Aside0.mk (show y177.length ≤ c73 from by rw [hy73,hc73]; exact Nat.sub_le_sub_right hroom73 _)
         clear hr73 hC73 hroom73 hi073 hsz73 hc73
         have KY73 := Aside0.mk hy73
         have KA73 := Aside0.mk hA73
         clear hy73 hA73
         replace q73 := eq_true q73
         try go_wp2
         replace BK127 := Aside0.mk (blk_drew BK127.out)
         replace BK128 := Aside0.mk (blk_drew BK128.out)
         replace HB := Aside0.mk (below_drew1 HB.out)
         have q75 : (x7_1 : Int) ≤ ((l0_0.length : Int) : Int) := od
         obtain ⟨i075,hi075,_,hsz75,_⟩ := info_parts info32
         have hroom75 : l0_0.length ≤ c0_0 := HC0_0.out
         have hC75 : Kd.C k32 _ A0_0 l0_0.length l0_0 := HR0_0.out
         have hcut75 := cut_to (P:=Try.prog) 23 32 .i64 Try.underlying23 hi075 A0_0 l0_0.length c0_0 x7_1 (od) q75 hroom75
         have hr75 := Kd.C_take (m:=(x7_1 : Int).toNat) hC75 (by omega)
         have hy75 : y184.length = (x7_1 : Int).toNat := (by rw [Ny184.out,List.length_take]; omega)
         rw [← Ny184.out] at hr75
         rw [← hy75] at hcut75
         have HR187 := Aside0.mk hr75
         have HC187 := Aside0.mk (show y184.length ≤ c0_0 from by omega)
         clear hr75 hC75 hroom75 hi075 hsz75
         have KY75 := Aside0.mk hy75
         clear hy75
         replace q75 := eq_true q75
         refine start_ (n:=17) (S:=fun w' => w'.cell? ⟨gb127,0,none⟩ = some (.slice A0_0 l0_0.length c0_0) ∧ w'.cell? ⟨gb127,1,none⟩ = some (.int .i64 a0_1)) (ds := [16]) (bm 17 0) (by kernel_rfl) rfl rfl ⟨bl BK127 0,bl BK127 1⟩ (fun hHeld => ?_); refine with_tabW spec_l01Set.tab7 spec_l01Set.bits7 (fun HT_ HW_ => ?_)
         generalize wr.drew = w74 at BK127 BK128 HB HR187 hHeld ⊢
         refine pV_ 1 51 (bm 17 2) HT_.out ?_
         refine pV_ 3 53 (bm 17 10) HT_.out ?_
         refine pV_ 6 56 (bm 17 74) HT_.out ?_
         refine pV_ 7 57 (bm 17 202) HT_.out ?_
         refine pV_ 9 59 (bm 17 714) HT_.out ?_
         refine pV_ 13 63 (bm 17 8906) HT_.out ?_
         refine tk 2 52 (bm 17 8910) HT_.out HW_.out hHeld ?_
         refine pV_ 4 54 (bm 17 8926) HT_.out ?_
         refine tk 8 58 (bm 17 9182) HT_.out HW_.out hHeld ?_
         refine pV_ 10 60 (bm 17 10206) HT_.out ?_
         refine join_ (σ := Value × Value × Value) 4 (bm 17 12287) (fun s_ => [(50,s_.1),(55,s_.2.1),(61,s_.2.2)]) (fun s_ w' => (w'.cell? ⟨gb127,0,none⟩ = some (.slice A0_0 l0_0.length c0_0) ∧ w'.cell? ⟨gb127,1,none⟩ = some (.int .i64 a0_1)) ∧ (Kd.R k32 32 w' w.heap.size (fun k_ => some k_ ≠ (s_.2.2 : Value).ownBlock) s_.2.1 y188) ∧ (Kd.R k32 32 w' w.heap.size (fun k_ => some k_ ≠ (s_.2.1 : Value).ownBlock) s_.2.2 y191) ∧ (w'.heap[gb127]? = some (.cells #[.slice A0_0 l0_0.length c0_0,.int .i64 a0_1] 25 (0,0))) ∧ (w'.heap[gb128]? = some (.cells #[.slice none 0 0,.int .i64 0] 25 (0,0))) ∧ (Below w.heap.size w w')) ?_ ?_
         rotate_left
         ·intro hCont
          refine two_ (i:=0) (j:=11) (Ni := some 50) (Nj := some 61) (bm 17 10207) (bm 17 12254) rfl rfl rfl rfl (two_of HT_.out (by kernel_rfl)) (by decide) (by decide) (fun K hK => ?_) (fun K hK => ?_)
          ·skip
           refine Kd.R_lit_step k32 _ 32 ?hg (N:=50) ?hd (xs := ([] : List (S32))) (inner := []) (ok := fun _ => True) (okp := fun _ => True) ?hr ?hp (fun _ hk => hk) trivial (Below.refl _ _) (Nat.le_refl _) (by simp) ?_; (case hd => rfl); (case hg => rfl); (case hr => first | (go_simp; done) | (go_simp; rfl)); (case hp => exact (Reps.none _ _))
           intro v182 w76 ho77 hb hg_ hnew_
           clear hg_ hnew_
           (first | rw [← Ny181.out] at ho77 | (simp only [Int.reduceToNat] at ho77; rw [← Ny181.out] at ho77))
           have HO183 := Aside0.mk (Kd.R_lower ho77 (below_size bA))
           replace BK127 := bbA BK127 hb
           replace BK128 := bbA BK128 hb
           replace HB := bsA hb
           clear hb ho77
           refine hK.out _ _ ⟨bl BK127 0,bl BK127 1⟩ (fun hHeld => ?_)
           clear hK K
           refine nw 50 ?_
           refine two_ (i:=5) (j:=11) (Ni := some 55) (Nj := some 61) (bm 17 10239) (bm 17 12255) rfl rfl rfl rfl (two_of HT_.out (by kernel_rfl)) (by decide) (by decide) (fun K hK => ?_) (fun K hK => ?_)
           ·skip
            refine Kd.R_append_rows_step k32 (w0 := w) w.heap.size (by rfl) (.tmp 50) (.tmp 54) 23 32 (.agg #[(.string ⟨#[]⟩),(.int .i64 0),(.string ⟨#[]⟩)]) 40 rfl Try.underlying23 info32 rfl (by decide) (by omega) v182 y181 y184 _ _ _ (fun _ => True) (fun _ => False) rfl rfl ?aO ?aR (fun _ _ h => h) (fun _ h => h.elim) ?aF ?aB ?aS ?aL ?_
            (case aR => exact sC HR187.out)
            (case aB => exact bA)
            (case aF => exact (fun _ _ => trivial))
            (case aO => exact (rA HO183.out))
            (case aS => exact (below_size bA))
            (case aL => have := LMc68.out; omega)
            intro v189 w78 ho hb hg hat
            rw [← Ny188.out] at ho
            replace BK127 := Aside0.mk (bg BK127.out hg (Kd.R_ne HO183.out BK127.out (by decide)))
            replace BK128 := Aside0.mk (bg BK128.out hg (Kd.R_ne HO183.out BK128.out (by decide)))
            replace HB := Aside0.mk (hb)
            have HO190 := Aside0.mk (ho)
            clear HO183 ho hb hg hat
            refine hK.out _ _ ⟨bl BK127 0,bl BK127 1⟩ (fun hHeld => ?_)
            clear hK K
            refine nw 55 ?_
            refine one_ (i:=11) (N:=some 61) (bm 17 12287) rfl rfl (one_of HT_.out (by kernel_rfl)) (by decide) (fun K hK => ?_)
            refine Kd.R_lit_step k32 _ 32 ?hg (N:=61) ?hd (xs := ([(⟨a1,a0_1,a2⟩ : S32)] : List (S32))) (inner := [.string a1,.int .i64 a0_1,.string a2]) (ok := fun _ => True) (okp := fun _ => True) ?hr ?hp (fun _ hk => hk) trivial (Below.refl _ _) (Nat.le_refl _) (by simp) ?_; (case hd => rfl); (case hg => rfl); (case hr => first | (go_simp; done) | (go_simp; rfl)); (case hp => exact (Reps.c3 (show Kd.M k32 _ _ _ (⟨a1,a0_1,a2⟩ : S32) [.string a1,.int .i64 a0_1,.string a2] from (k32_mkM _ _ _ (⟨a1,a0_1,a2⟩ : S32) )) (Reps.none _ _)))
            intro v192 w79 ho80 hb hg_ hnew_
            clear hg_ hnew_
            (first | rw [← Ny191.out] at ho80 | (simp only [Int.reduceToNat] at ho80; rw [← Ny191.out] at ho80))
            have HO193 := Aside0.mk (Kd.R_lower (Kd.R_new' ho80 (Kd.R_lt (rA HO190.out))) (below_size bA))
            replace HO190 := Aside0.mk (Kd.R_elder' (rA HO190.out) (Kd.R_base ho80) hb)
            replace BK127 := bbA BK127 hb
            replace BK128 := bbA BK128 hb
            replace HB := bsA hb
            clear hb ho80
            refine hK.out _ _ ⟨bl BK127 0,bl BK127 1⟩ (fun hHeld => ?_)
            clear hK K
            refine nw 61 ?_
            exact norm_ (by simp only [putAll,Act.put,setIfInBounds_toArray,set_cons_zero,set_cons_succ]) (hCont (v182,v189,v192) _ ⟨hHeld,(rM HO190.out (fun _ hk => hk.2)),(rM HO193.out (fun _ hk => hk.2)),(kA BK127.out),(kA BK128.out),bA⟩)
           ·skip
            refine Kd.R_lit_step k32 _ 32 ?hg (N:=61) ?hd (xs := ([(⟨a1,a0_1,a2⟩ : S32)] : List (S32))) (inner := [.string a1,.int .i64 a0_1,.string a2]) (ok := fun _ => True) (okp := fun _ => True) ?hr ?hp (fun _ hk => hk) trivial (Below.refl _ _) (Nat.le_refl _) (by simp) ?_; (case hd => rfl); (case hg => rfl); (case hr => first | (go_simp; done) | (go_simp; rfl)); (case hp => exact (Reps.c3 (show Kd.M k32 _ _ _ (⟨a1,a0_1,a2⟩ : S32) [.string a1,.int .i64 a0_1,.string a2] from (k32_mkM _ _ _ (⟨a1,a0_1,a2⟩ : S32) )) (Reps.none _ _)))
            intro v192 w78 ho79 hb hg_ hnew_
            clear hg_ hnew_
            (first | rw [← Ny191.out] at ho79 | (simp only [Int.reduceToNat] at ho79; rw [← Ny191.out] at ho79))
            have HO193 := Aside0.mk (Kd.R_lower (Kd.R_new' ho79 (Kd.R_lt (rA HO183.out))) (below_size bA))
            replace HO183 := Aside0.mk (Kd.R_elder' (rA HO183.out) (Kd.R_base ho79) hb)
            replace BK127 := bbA BK127 hb
            replace BK128 := bbA BK128 hb
            replace HB := bsA hb
            clear hb ho79
            refine hK.out _ _ ⟨bl BK127 0,bl BK127 1⟩ (fun hHeld => ?_)
            clear hK K
            refine nw 61 ?_
            refine one_ (i:=5) (N:=some 55) (bm 17 12287) rfl rfl (one_of HT_.out (by kernel_rfl)) (by decide) (fun K hK => ?_)
            refine Kd.R_append_rows_step k32 (w0 := w) w.heap.size (by rfl) (.tmp 50) (.tmp 54) 23 32 (.agg #[(.string ⟨#[]⟩),(.int .i64 0),(.string ⟨#[]⟩)]) 40 rfl Try.underlying23 info32 rfl (by decide) (by omega) v182 y181 y184 _ _ _ (fun k_ => some k_ ≠ (v192 : Value).ownBlock) (fun _ => False) rfl rfl ?aO ?aR (fun _ _ h => h) (fun _ h => h.elim) ?aF ?aB ?aS ?aL ?_
            (case aR => exact sC HR187.out)
            (case aB => exact bA)
            (case aF => exact (fun k_ hk => Kd.fresh' (Kd.R_lt (rA HO193.out)) k_ hk))
            (case aO => exact (rM HO183.out (fun _ hk => hk.2)))
            (case aS => exact (below_size bA))
            (case aL => have := LMc68.out; omega)
            intro v189 w80 ho hb hg hat
            rw [← Ny188.out] at ho
            replace BK127 := Aside0.mk (bg BK127.out hg (Kd.R_ne HO183.out BK127.out (by decide)))
            replace BK128 := Aside0.mk (bg BK128.out hg (Kd.R_ne HO183.out BK128.out (by decide)))
            replace HO193 := Aside0.mk (Kd.R_after (ok := (fun _ => True)) (rA HO193.out) hg hat)
            replace HB := Aside0.mk (hb)
            have HO190 := Aside0.mk (ho)
            clear HO183 ho hb hg hat
            refine hK.out _ _ ⟨bl BK127 0,bl BK127 1⟩ (fun hHeld => ?_)
            clear hK K
            refine nw 55 ?_
            exact norm_ (by simp only [putAll,Act.put,setIfInBounds_toArray,set_cons_zero,set_cons_succ]) (hCont (v182,v189,v192) _ ⟨hHeld,(rA HO190.out),(rM HO193.out (fun _ hk => hk.2)),(kA BK127.out),(kA BK128.out),bA⟩)
          ·skip
           refine Kd.R_lit_step k32 _ 32 ?hg (N:=61) ?hd (xs := ([(⟨a1,a0_1,a2⟩ : S32)] : List (S32))) (inner := [.string a1,.int .i64 a0_1,.string a2]) (ok := fun _ => True) (okp := fun _ => True) ?hr ?hp (fun _ hk => hk) trivial (Below.refl _ _) (Nat.le_refl _) (by simp) ?_; (case hd => rfl); (case hg => rfl); (case hr => first | (go_simp; done) | (go_simp; rfl)); (case hp => exact (Reps.c3 (show Kd.M k32 _ _ _ (⟨a1,a0_1,a2⟩ : S32) [.string a1,.int .i64 a0_1,.string a2] from (k32_mkM _ _ _ (⟨a1,a0_1,a2⟩ : S32) )) (Reps.none _ _)))
           intro v192 w76 ho77 hb hg_ hnew_
           clear hg_ hnew_
           (first | rw [← Ny191.out] at ho77 | (simp only [Int.reduceToNat] at ho77; rw [← Ny191.out] at ho77))
           have HO193 := Aside0.mk (Kd.R_lower ho77 (below_size bA))
           replace BK127 := bbA BK127 hb
           replace BK128 := bbA BK128 hb
           replace HB := bsA hb
           clear hb ho77
           refine hK.out _ _ ⟨bl BK127 0,bl BK127 1⟩ (fun hHeld => ?_)
           clear hK K
           refine nw 61 ?_
           refine one_ (i:=0) (N:=some 50) (bm 17 12255) rfl rfl (one_of HT_.out (by kernel_rfl)) (by decide) (fun K hK => ?_)
           refine Kd.R_lit_step k32 _ 32 ?hg (N:=50) ?hd (xs := ([] : List (S32))) (inner := []) (ok := fun _ => True) (okp := fun _ => True) ?hr ?hp (fun _ hk => hk) trivial (Below.refl _ _) (Nat.le_refl _) (by simp) ?_; (case hd => rfl); (case hg => rfl); (case hr => first | (go_simp; done) | (go_simp; rfl)); (case hp => exact (Reps.none _ _))
           intro v182 w78 ho79 hb hg_ hnew_
           clear hg_ hnew_
           (first | rw [← Ny181.out] at ho79 | (simp only [Int.reduceToNat] at ho79; rw [← Ny181.out] at ho79))
           have HO183 := Aside0.mk (Kd.R_lower (Kd.R_new' ho79 (Kd.R_lt (rA HO193.out))) (below_size bA))
           replace HO193 := Aside0.mk (Kd.R_elder' (rA HO193.out) (Kd.R_base ho79) hb)
           replace BK127 := bbA BK127 hb
           replace BK128 := bbA BK128 hb
           replace HB := bsA hb
           clear hb ho79
           refine hK.out _ _ ⟨bl BK127 0,bl BK127 1⟩ (fun hHeld => ?_)
           clear hK K
           refine nw 50 ?_
           refine one_ (i:=5) (N:=some 55) (bm 17 12287) rfl rfl (one_of HT_.out (by kernel_rfl)) (by decide) (fun K hK => ?_)
           refine Kd.R_append_rows_step k32 (w0 := w) w.heap.size (by rfl) (.tmp 50) (.tmp 54) 23 32 (.agg #[(.string ⟨#[]⟩),(.int .i64 0),(.string ⟨#[]⟩)]) 40 rfl Try.underlying23 info32 rfl (by decide) (by omega) v182 y181 y184 _ _ _ (fun k_ => some k_ ≠ (v192 : Value).ownBlock) (fun _ => False) rfl rfl ?aO ?aR (fun _ _ h => h) (fun _ h => h.elim) ?aF ?aB ?aS ?aL ?_
           (case aR => exact sC HR187.out)
           (case aB => exact bA)
           (case aF => exact (fun k_ hk => Kd.fresh' (Kd.R_lt (rA HO193.out)) k_ hk))
           (case aO => exact (rM HO183.out (fun _ hk => hk.2)))
           (case aS => exact (below_size bA))
           (case aL => have := LMc68.out; omega)
           intro v189 w80 ho hb hg hat
           rw [← Ny188.out] at ho
           replace BK127 := Aside0.mk (bg BK127.out hg (Kd.R_ne HO183.out BK127.out (by decide)))
           replace BK128 := Aside0.mk (bg BK128.out hg (Kd.R_ne HO183.out BK128.out (by decide)))
           replace HO193 := Aside0.mk (Kd.R_after (ok := (fun _ => True)) (rA HO193.out) hg hat)
           replace HB := Aside0.mk (hb)
           have HO190 := Aside0.mk (ho)
           clear HO183 ho hb hg hat
           refine hK.out _ _ ⟨bl BK127 0,bl BK127 1⟩ (fun hHeld => ?_)
           clear hK K
           refine nw 55 ?_
           exact norm_ (by simp only [putAll,Act.put,setIfInBounds_toArray,set_cons_zero,set_cons_succ]) (hCont (v182,v189,v192) _ ⟨hHeld,(rA HO190.out),(rM HO193.out (fun _ hk => hk.2)),(kA BK127.out),(kA BK128.out),bA⟩)
         rintro ⟨v182,v189,v192⟩ w81 ⟨hS_,h0_,h1_,h2_,h3_,h4_⟩
         have HO190 : Aside0 (Kd.R k32 32 w81 w.heap.size (fun k_ => some k_ ≠ (v192 : Value).ownBlock) v189 y188) := ⟨h0_⟩
         have HO193 : Aside0 (Kd.R k32 32 w81 w.heap.size (fun k_ => some k_ ≠ (v189 : Value).ownBlock) v192 y191) := ⟨h1_⟩
         replace BK127 : Aside0 (w81.heap[gb127]? = some (.cells #[.slice A0_0 l0_0.length c0_0,.int .i64 a0_1] 25 (0,0))) := ⟨h2_⟩
         replace BK128 : Aside0 (w81.heap[gb128]? = some (.cells #[.slice none 0 0,.int .i64 0] 25 (0,0))) := ⟨h3_⟩
         replace HB : Aside0 (Below w.heap.size w w81) := ⟨h4_⟩
         clear h0_ h1_ h2_ h3_ h4_
         have hHeld : w81.cell? ⟨gb127,0,none⟩ = some (.slice A0_0 l0_0.length c0_0) ∧ w81.cell? ⟨gb127,1,none⟩ = some (.int .i64 a0_1) := hS_
         obtain ⟨Ao83,co83,eo83⟩ := Kd.R_slice HO193.out
         (first | subst eo83 | (injection eo83 with f1_ f2_ f3_; have f4_ := f1_.symm; have f5_ := f3_.symm; clear f1_ f2_ f3_; subst f4_; subst f5_))
         refine norm_ (a':=?_) ?_ ?_
         rotate_left
         ·simp only [putAll,Act.put,setIfInBounds_toArray,set_cons_zero,set_cons_succ]
          rfl
         refine one_ (i:=12) (N:=some 62) (bm 17 16383) rfl rfl (one_of HT_.out (by kernel_rfl)) (by decide) (fun K hK => ?_)
         refine Kd.R_append_rows_step k32 (w0 := w) w.heap.size (by rfl) (.tmp 55) (.tmp 61) 23 32 (.agg #[(.string ⟨#[]⟩),(.int .i64 0),(.string ⟨#[]⟩)]) 40 rfl Try.underlying23 info32 rfl (by decide) (by omega) v189 y188 y191 _ _ _ (fun k_ => some k_ ≠ (.slice Ao83 y191.length co83 : Value).ownBlock) (fun _ => False) rfl rfl ?aO ?aR (fun _ _ h => h) (fun _ h => h.elim) ?aF ?aB ?aS ?aL ?_
         (case aR => repeat (first | exact (Kd.R_reads' HO193.out).2.2 | (with_reducible refine Kd.C_alloc ?_ _) | (with_reducible refine Kd.C_drewN ?_ _) | (with_reducible refine Kd.C_drew ?_)))
         (case aB => exact bA)
         (case aF => exact (fun k_ hk => Kd.fresh' (Kd.R_lt (rA HO193.out)) k_ hk))
         (case aO => exact (rA HO190.out))
         (case aS => exact (below_size bA))
         (case aL => have := LMc69.out; omega)
         intro v195 w82 ho hb hg hat
         rw [← Ny194.out] at ho
         replace BK127 := Aside0.mk (bg BK127.out hg (Kd.R_ne HO190.out BK127.out (by decide)))
         replace BK128 := Aside0.mk (bg BK128.out hg (Kd.R_ne HO190.out BK128.out (by decide)))
         replace HO193 := Aside0.mk (Kd.R_after (ok := (fun _ => True)) (rM HO193.out (fun _ hk => ⟨trivial,hk⟩)) hg hat)
         replace HB := Aside0.mk (hb)
         have HO196 := Aside0.mk (ho)
         clear HO190 ho hb hg hat
         refine hK.out _ _ ⟨bl BK127 0,bl BK127 1⟩ (fun hHeld => ?_)
         clear hK K
         refine nw 62 ?_
         refine one_ (i:=14) (N:=some 64) (bm 17 32767) rfl rfl (one_of HT_.out (by kernel_rfl)) (by decide) (fun K hK => ?_)
         refine Kd.R_append_rows_step k32 (w0 := w) w.heap.size (by rfl) (.tmp 62) (.tmp 63) 23 32 (.agg #[(.string ⟨#[]⟩),(.int .i64 0),(.string ⟨#[]⟩)]) 40 rfl Try.underlying23 info32 rfl (by decide) (by omega) v195 y194 y177 _ _ _ (fun k_ => some k_ ≠ (.slice Ao83 y191.length co83 : Value).ownBlock) (fun _ => False) rfl rfl ?aO ?aR (fun _ _ h => h) (fun _ h => h.elim) ?aF ?aB ?aS ?aL ?_
         (case aR => exact sC HR180.out)
         (case aB => exact bA)
         (case aF => exact (fun k_ hk => Kd.fresh' (Kd.R_lt (rA HO193.out)) k_ hk))
         (case aO => exact (rA HO196.out))
         (case aS => exact (below_size bA))
         (case aL => have := LMc70.out; omega)
         intro v198 w84 ho hb hg hat
         rw [← Ny197.out] at ho
         replace BK127 := Aside0.mk (bg BK127.out hg (Kd.R_ne HO196.out BK127.out (by decide)))
         replace BK128 := Aside0.mk (bg BK128.out hg (Kd.R_ne HO196.out BK128.out (by decide)))
         replace HO193 := Aside0.mk (Kd.R_after (ok := (fun _ => True)) (rA HO193.out) hg hat)
         replace HB := Aside0.mk (hb)
         have HO199 := Aside0.mk (ho)
         clear HO196 ho hb hg hat
         obtain ⟨Ao85,co85,eo85⟩ := Kd.R_slice HO199.out
         (first | subst eo85 | (injection eo85 with f1_ f2_ f3_; have f4_ := f1_.symm; have f5_ := f3_.symm; clear f1_ f2_ f3_; subst f4_; subst f5_))
         refine hK.out _ _ ⟨bl BK127 0,bl BK127 1⟩ (fun hHeld => ?_)
         clear hK K
         refine nw 64 ?_
         refine pV_ 15 65 (bm 17 65535) HT_.out ?_
         refine last_ (i:=16) (N:=none) (bm 17 131071) rfl rfl (one_of HT_.out (by kernel_rfl)) (by decide) (fun K hK => ?_)
         have hs86 : w84.cell? ⟨gb127,0,none⟩ = some (.slice A0_0 l0_0.length c0_0) := bl BK127 0
         have hfs86 := blk_frozen BK127.out 0
         have hns86_1 := NB128_127.out
         have hms86_1 := NB127_128.out
         refine skip_ (w1 := ?_) (by rfl) rfl ?_ ?_
         rotate_left
         ·go_simp
          rfl
         refine hK.out _ _ ?_
         clear hK K
         refine done_ (done_of HT_.out (by kernel_rfl)) ?_
         obtain ⟨hcz87_0,hcz87_1⟩ := cl2 BK127.out
         obtain ⟨hfz87_0,hfz87_1⟩ := fz2 BK127.out
         obtain ⟨hcz88_0,hcz88_1⟩ := cl2 BK128.out
         obtain ⟨hfz88_0,hfz88_1⟩ := fz2 BK128.out
         try go_wp2
         refine bodyPost_ret (results_cell_row rfl _ _ gb128 25 #[.slice Ao85 y197.length co85,.int .i64 (wrap64 (a0_1 + 1))] (0,0) _ rfl (by (with_reducible repeat (first | refine blk_drewN ?_ _ | refine blk_drew ?_ | refine blk_alloc ?_ _)); apply blkp2; (with_reducible repeat (first | refine blk_drewN ?_ _ | refine blk_drew ?_ | refine blk_alloc ?_ _)); refine blk_far ?_ NB128_127.out _; (with_reducible repeat (first | refine blk_drewN ?_ _ | refine blk_drew ?_ | refine blk_alloc ?_ _)); refine blk_far ?_ NB128_127.out _; (with_reducible repeat (first | refine blk_drewN ?_ _ | refine blk_drew ?_ | refine blk_alloc ?_ _)); exact BK128.out) Try.underlying25 rfl (by kernel_rfl)) rfl ?_
         exact ⟨_,by first | rfl | (simp only [i64_w,i32_w] <;> rfl) | (simp [errW_none,errW_some] <;> rfl) | (simp [*,errW_none,errW_some] <;> rfl),by (with_reducible repeat (first | apply Kd.R_alloc | apply Kd.R_drewN | apply Kd.R_drew)); exact Kd.R_mono (Kd.R_far (p:=⟨gb128,1,none⟩) (Kd.R_far (p:=⟨gb128,0,none⟩) (Kd.R_far (p:=⟨gb127,1,none⟩) (Kd.R_far (p:=⟨gb127,0,none⟩) (Kd.R_types (Kd.R_types HO199.out BK127.out (by decide)) BK128.out (by decide)) (fun _ hk => hk.1.2) (.slice Ao85 y197.length co85)) (fun _ hk => hk.1.2) (.int .i64 (wrap64 (a0_1 + 1)))) (fun _ hk => hk.2) (.slice Ao85 y197.length co85)) (fun _ hk => hk.2) (.int .i64 (wrap64 (a0_1 + 1)))) (fun _ hk => trivial),bA⟩
        ·rw [if_neg c70] at H
         exact absurd H (by simp)
       ·rw [if_neg c69] at H
        exact absurd H (by simp)
      ·rw [if_neg c68] at H
       exact absurd H (by simp)
     ·rw [if_neg c65] at H
      exact absurd H (by simp)
    ·rw [if_neg c64] at H
     exact absurd H (by simp)

end Go.Proofs.Ytgkfemnfbkgeiaa.XFnStore
