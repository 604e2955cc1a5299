-- Printed by this session's own program wip/tools/xprint.py, which widens the kit's print. Not trusted: Lean checks it.
import Derived.Test.YtfondhlknkhmmaaGreatDoorXFnExactOrphansOfx0
import Derived.Test.YtfondhlknkhmmaaGreatDoorXFnExactOrphansOfx8
namespace Go.Proofs.YtfondhlknkhmmaaGreatDoor.XFnExactOrphansOf
open Go.RowKit Go.Proofs.YtfondhlknkhmmaaGreatDoorW.PrintWords Go.Proofs.YtfondhlknkhmmaaGreatDoorW.PrintLast Go.Proofs.YtfondhlknkhmmaaGreatDoorW.PrintMore
attribute [local go_sem] max2_int min2_int max_two min_two max_three min_three max_four min_four   -- for this text's walks alone
set_option linter.unusedVariables false
set_option linter.unusedSimpArgs false

/-! ### impl_State_hasKey: function 47 (by hand) -/
theorem any_range {α : Type} (z : α) (p : α → Bool) (l : List α) : ((List.range' 0 l.length).any fun i => p (l.getD i z)) = l.any p := by
 rw [Bool.eq_iff_iff,List.any_eq_true,List.any_eq_true]
 constructor
 ·rintro ⟨i,hi,h⟩
  have hi' : i < l.length := by simpa using hi
  refine ⟨l[i],List.getElem_mem hi',?_⟩
  rwa [List.getD_eq_getElem?_getD,List.getElem?_eq_getElem hi'] at h
 ·rintro ⟨x,hx,h⟩
  obtain ⟨i,hi,rfl⟩ := List.mem_iff_getElem.1 hx
  refine ⟨i,by simpa using hi,?_⟩
  rw [List.getD_eq_getElem?_getD,List.getElem?_eq_getElem hi]
  exact h
set_option maxHeartbeats 4000000 in
set_option maxRecDepth 100000 in
theorem idx_tomb (g : Nat) (lb : Array Value) (eg : ∀ args w,(callFunc g args).run Tryz.prog w = .ok (.enter g args) w) (p : Nat → Bool) (A0 : Option Addr) (c0 : Nat) (l0 : List S71) (w : World) (hr0 : Kd.C k71 w A0 l0.length l0) (hsz : l0.length ≤ 140737488351232)
  (hp : ∀ (W : World) (i : Nat),i < l0.length → Below w.heap.size w W → Calls Tryz.prog g (#[.agg #[.int .i64 (l0.getD i z71).f0,.string (l0.getD i z71).f1]] ++ lb) W fun e w' => e = .returned (.bool (p i)) ∧ Below w.heap.size w w') :
  Calls Tryz.prog 70 #[.slice A0 l0.length c0,.func (.func g) #[] lb] w fun e w' => e = .returned (.int .i64 (idxP p l0.length 0)) ∧ Below w.heap.size w w' := by
 -- behind impl_Entry
 have HR := Aside0.mk hr0
 have HP := Aside0.mk hp
 have S0 := Aside0.mk (Below.refl w.heap.size w)
 have u84 := Tryz.underlying71
 clear hr0 hp
 generalize hidx : idxP p l0.length 0 = idx
 have ID := Aside0.mk hidx
 clear hidx
 go_enter Tryz.func70,Tryz.ntmps70
 go_wp2
 go_loopg [5,8] l0.length (fun gg _ s8 wr => ∃ i : Nat,i ≤ l0.length ∧ l0.length - i ≤ gg ∧ s8 = .int .i64 i ∧ Aside0 (Below w.heap.size w wr) ∧ Aside0 (idxP p (l0.length - i) i = idx))
 case atStart => exact ⟨0,Nat.zero_le _,by omega,rfl,S0,ID⟩
 case round =>
  clear S0 ID
  obtain ⟨i,hi,hg,rfl,HB,I⟩ := hrel
  by_cases hlt : i < l0.length
  ·have hltz : (i : Int) < (l0.length : Int) := by omega
   have p0 : 0 ≤ (i : Int) := by omega
   obtain ⟨ad,ea,h0,h1⟩ := at_T71 HR.out (i : Int) p0 hltz
   cases ea
   replace h0 := cb HB.out h0
   replace h1 := cb HB.out h1
   rw [Int.toNat_natCast] at h0 h1
   have hcall := HP.out wr i hlt HB.out
   have hy : rd_T71 l0 (i : Int) = l0.getD i z71 := by unfold rd_T71; rw [Int.toNat_natCast]
   rw [hy] at h0 h1
   clear hy HP
   generalize l0.getD i z71 = y at h0 h1 hcall
   have hstep : idxP p (l0.length - i) i = if p i = true then (i : Int) else idxP p (l0.length - (i + 1)) (i + 1) := by
    rw [show l0.length - i = (l0.length - (i + 1)) + 1 by omega]
    rfl
   have I2 := Aside0.mk (hstep.symm.trans I.out)
   clear hstep I
   cases hq : p i with
   | true =>
    rw [hq] at hcall I2
    go_wp2_with (go_at_fn g; refine hcall.mono ?_; rintro e w' ⟨rfl,hb'⟩; have HB2 := Aside0.mk hb'; clear hb')
    go_ret
    exact ⟨by rw [← I2.out]; rfl,HB2.out⟩
   | false =>
    rw [hq] at hcall I2
    go_wp2_with (go_at_fn g; refine hcall.mono ?_; rintro e w' ⟨rfl,hb'⟩; have HB2 := Aside0.mk hb'; clear hb')
    go_roundg (l0.length - (i + 1))
    case measure => omega
    case rel => exact ⟨i + 1,by omega,Nat.le_refl _,by go_num,HB2,⟨I2.out⟩⟩
  ·obtain rfl : i = l0.length := by omega
   have hltz : ¬ (l0.length : Int) < (l0.length : Int) := by omega
   have I2 : Aside0 (idx = -1) := ⟨by rw [← I.out,Nat.sub_self]; rfl⟩
   clear I
   go_wp2
   go_ret
   exact ⟨by rw [I2.out]; rfl,HB.out⟩
set_option maxHeartbeats 2000000 in
set_option maxRecDepth 100000 in
theorem hk_one (x0 x1 x2 : Int) (x3 : ByteArray) (key : ByteArray) (B : Nat) (W : World) (hc : W.cell? ⟨B,0,none⟩ = some (.string key)) :
  Calls Tryz.prog 62 (#[.agg #[.int .i64 x0,.int .i64 x1,.int .i64 x2,.string x3]] ++ #[.pointer (some ⟨B,0,none⟩)]) W fun e w' => e = .returned (.bool (x3.toList == key.toList)) ∧ Below W.heap.size W w' := by
 have HB := Aside0.mk (Below.refl W.heap.size W)
 show Calls Tryz.prog 62 #[.agg #[.int .i64 x0,.int .i64 x1,.int .i64 x2,.string x3],.pointer (some ⟨B,0,none⟩)] W _
 go_enter Tryz.func62,Tryz.ntmps62
 go_wp2_with (first
  | ((with_reducible refine gate_dst (N:=2) rfl ?_); refine box_event ?hg (N:=2) ?hd (cs := #[.int .i64 x0,.int .i64 x1,.int .i64 x2,.string x3]) (t:=64) ?hr ?_; (case hd => rfl); (case hg => rfl); (case hr => first | (go_simp; done) | (go_simp; rfl)); intro gb hg w7 hbox hb; have HB1 := Aside0.mk (below_step HB.out hb); replace hc := cb hb hc; have hcE : w7.cell? ⟨gb,3,none⟩ = some (.string x3) := (blk_cell hbox 3).trans rfl; clear hb hbox hg))
 go_ret
 exact ⟨by simp,by repeat (first | (with_reducible exact HB1.out) | apply below_alloc | apply pw_below_drewN | apply below_drew1)⟩
set_option maxHeartbeats 2000000 in
set_option maxRecDepth 100000 in
theorem tb_one (x0 : Int) (x3 : ByteArray) (key : ByteArray) (B : Nat) (W : World) (hc : W.cell? ⟨B,0,none⟩ = some (.string key)) :
  Calls Tryz.prog 71 (#[.agg #[.int .i64 x0,.string x3]] ++ #[.pointer (some ⟨B,0,none⟩)]) W fun e w' => e = .returned (.bool (x3.toList == key.toList)) ∧ Below W.heap.size W w' := by
 have HB := Aside0.mk (Below.refl W.heap.size W)
 show Calls Tryz.prog 71 #[.agg #[.int .i64 x0,.string x3],.pointer (some ⟨B,0,none⟩)] W _
 go_enter Tryz.func71,Tryz.ntmps71
 go_wp2_with (first
  | ((with_reducible refine gate_dst (N:=2) rfl ?_); refine box_event ?hg (N:=2) ?hd (cs := #[.int .i64 x0,.string x3]) (t:=71) ?hr ?_; (case hd => rfl); (case hg => rfl); (case hr => first | (go_simp; done) | (go_simp; rfl)); intro gb hg w7 hbox hb; have HB1 := Aside0.mk (below_step HB.out hb); replace hc := cb hb hc; have hcE : w7.cell? ⟨gb,1,none⟩ = some (.string x3) := (blk_cell hbox 1).trans rfl; clear hb hbox hg))
 go_ret
 exact ⟨by simp,by repeat (first | (with_reducible exact HB1.out) | apply below_alloc | apply pw_below_drewN | apply below_drew1)⟩
theorem hk_cont (A0 : Option Addr) (c0 : Nat) (l0 : List S64) (key : ByteArray) (w W : World) (hr0 : Kd.C k64 w A0 l0.length l0) (hsz : l0.length ≤ 140737488351232) (B : Nat) (hW : Below w.heap.size w W) (hc : W.cell? ⟨B,0,none⟩ = some (.string key)) :
  Calls Tryz.prog 56 #[.slice A0 l0.length c0,.func (.func 62) #[] #[.pointer (some ⟨B,0,none⟩)]] W fun e w' => e = .returned (.bool (l0.any fun x => x.f3.toList == key.toList)) ∧ Below W.heap.size W w' := by
 rw [← any_range z64]
 exact cont_entry 62 #[.pointer (some ⟨B,0,none⟩)] (enters_of Tryz.func62 (by kernel_rfl) rfl) (fun i => (l0.getD i z64).f3.toList == key.toList) A0 c0 l0 W (Kd.C_below hr0 hW) hsz (fun W' i hi hb => by
  refine (hk_one _ _ _ _ key B W' (cb hb hc)).mono ?_
  rintro e w' ⟨he,hb'⟩
  exact ⟨he,hb.trans (hb'.mono hb.size)⟩)
theorem tb_idx (A0 : Option Addr) (c0 : Nat) (l0 : List S71) (key : ByteArray) (w W : World) (hr0 : Kd.C k71 w A0 l0.length l0) (hsz : l0.length ≤ 140737488351232) (B : Nat) (hW : Below w.heap.size w W) (hc : W.cell? ⟨B,0,none⟩ = some (.string key)) :
  Calls Tryz.prog 70 #[.slice A0 l0.length c0,.func (.func 71) #[] #[.pointer (some ⟨B,0,none⟩)]] W fun e w' => e = .returned (.int .i64 (idxP (fun i => (l0.getD i z71).f1.toList == key.toList) l0.length 0)) ∧ Below W.heap.size W w' :=
 idx_tomb 71 #[.pointer (some ⟨B,0,none⟩)] (enters_of Tryz.func71 (by kernel_rfl) rfl) (fun i => (l0.getD i z71).f1.toList == key.toList) A0 c0 l0 W (Kd.C_below hr0 hW) hsz (fun W' i hi hb => by
  refine (tb_one _ _ key B W' (cb hb hc)).mono ?_
  rintro e w' ⟨he,hb'⟩
  exact ⟨he,hb.trans (hb'.mono hb.size)⟩)
set_option maxHeartbeats 4000000 in
set_option maxRecDepth 100000 in
theorem tb_calls (a0_0 a0_1 : Int) (V2 : Value) (A0_3 : Option Addr) (c0_3 : Nat) (l0_3 : List S71) (a0_4 a0_5 a0_6 a0_7 a0_8 a0_9 : Int) (A2 : Option Addr) (n2 c2 : Nat) (hV2 : V2 = .slice A2 n2 c2) (a1 : ByteArray) (w0 w : World) (hr0_3 : Kd.C k71 w0 A0_3 l0_3.length l0_3) (hB : Below w0.heap.size w0 w) (hsz : l0_3.length ≤ 140737488351232) :
  Calls Tryz.prog 63 #[.agg #[.int .i64 a0_0,.int .i64 a0_1,V2,.slice A0_3 l0_3.length c0_3,.int .i64 a0_4,.int .i64 a0_5,.int .i64 a0_6,.int .i64 a0_7,.int .i64 a0_8,.int .i64 a0_9],.string a1] w fun e w' => e = .returned (.int .i64 (idxP (fun i => (l0_3.getD i z71).f1.toList == a1.toList) l0_3.length 0)) ∧ Below w.heap.size w w' := by
 subst hV2
 have HI := Aside0.mk (fun (W : World) (gk : Nat) (hW : Below w.heap.size w W) (hk : W.cell? ⟨gk,0,none⟩ = some (.string a1)) => tb_idx A0_3 c0_3 l0_3 a1 w W (Kd.C_below hr0_3 hB) hsz gk hW hk)
 have HB := Aside0.mk (Below.refl w.heap.size w)
 have hu35 := Tryz.underlying35
 clear hr0_3 hB
 generalize (idxP (fun i => (l0_3.getD i z71).f1.toList == a1.toList) l0_3.length 0) = n at HI ⊢
 generalize l0_3.length = m3 at HI ⊢
 go_enter Tryz.func63,Tryz.ntmps63
 go_wp2_with (first
  | ((with_reducible refine gate_dst (N:=2) rfl ?_); refine box_event ?hg (N:=2) ?hd (cs := #[.int .i64 a0_0,.int .i64 a0_1,.slice A2 n2 c2,.slice A0_3 m3 c0_3,.int .i64 a0_4,.int .i64 a0_5,.int .i64 a0_6,.int .i64 a0_7,.int .i64 a0_8,.int .i64 a0_9]) (t:=35) ?hr ?_; (case hd => rfl); (case hg => rfl); (case hr => first | (go_simp; done) | (go_simp; rfl)); intro gs hgs w2 hbox hb; have HB2 := Aside0.mk (below_step HB.out hb); have hcs3 : w2.cell? ⟨gs,3,none⟩ = some (.slice A0_3 m3 c0_3) := (blk_cell hbox 3).trans rfl; clear hb hbox hgs)
  | ((with_reducible refine gate_dst (N:=3) rfl ?_); refine box_event ?hg (N:=3) ?hd (cs := #[.string a1]) (t:=9) ?hr ?_; (case hd => rfl); (case hg => rfl); (case hr => first | (go_simp; done) | (go_simp; rfl)); intro gk hgk w3 hbox hb; have HB3 := Aside0.mk (below_step HB2.out hb); have hck : w3.cell? ⟨gk,0,none⟩ = some (.string a1) := (blk_cell hbox 0).trans rfl; replace hcs3 := cb hb hcs3; clear hb hbox hgk)
  | (go_at_call 70; refine (HI.out _ gk (by repeat (first | (with_reducible exact HB3.out) | apply below_alloc | apply pw_below_drewN | apply below_drew1)) (by exact hck)).mono ?_; rintro e w5 ⟨rfl,hb⟩; have HB5 := Aside0.mk (below_step (by repeat (first | (with_reducible exact HB3.out) | apply below_alloc | apply pw_below_drewN | apply below_drew1)) hb); clear hb))
 go_ret
 exact ⟨rfl,by repeat (first | (with_reducible exact HB5.out) | apply below_alloc | apply pw_below_drewN | apply below_drew1)⟩
def impl_State_hasKey.f (_a0_0 _a0_1 : Int) (l0_2 : List S64) (l0_3 : List S71) (_a0_4 _a0_5 _a0_6 _a0_7 _a0_8 _a0_9 : Int) (a1 : ByteArray) : Option Bool :=
 if l0_2.length ≤ 140737488351232 ∧ l0_3.length ≤ 140737488351232 then some ((l0_2.any fun x => x.f3.toList == a1.toList) || (l0_3.any fun x => x.f1.toList == a1.toList)) else none
set_option maxHeartbeats 4000000 in
set_option maxRecDepth 100000 in
theorem impl_State_hasKey.calls (a0_0 : Int) (a0_1 : Int) (A0_2 : Option Addr) (c0_2 : Nat) (l0_2 : List S64) (A0_3 : Option Addr) (c0_3 : Nat) (l0_3 : List S71) (a0_4 : Int) (a0_5 : Int) (a0_6 : Int) (a0_7 : Int) (a0_8 : Int) (a0_9 : Int) (a1 : ByteArray) (r : Bool) (w : World) (hV : Vars w) (hr0_2 : Kd.C k64 w A0_2 l0_2.length l0_2) (hc0_2 : l0_2.length ≤ c0_2) (hr0_3 : Kd.C k71 w A0_3 l0_3.length l0_3) (hc0_3 : l0_3.length ≤ c0_3) (h : impl_State_hasKey.f a0_0 a0_1 l0_2 l0_3 a0_4 a0_5 a0_6 a0_7 a0_8 a0_9 a1 = some r) :
  Calls Tryz.prog 47 #[.agg #[.int .i64 a0_0,.int .i64 a0_1,.slice A0_2 l0_2.length c0_2,.slice A0_3 l0_3.length c0_3,.int .i64 a0_4,.int .i64 a0_5,.int .i64 a0_6,.int .i64 a0_7,.int .i64 a0_8,.int .i64 a0_9],.string a1] w fun e w' => e = .returned (.bool r) ∧ Below w.heap.size w w' := by
 clear hV
 unfold impl_State_hasKey.f at h
 split at h
 ·rename_i hh
  obtain ⟨h1,h2⟩ := hh
  obtain rfl := Option.some.inj h
  clear h hc0_2 hc0_3
  rw [← any_range z71 (fun x => x.f1.toList == a1.toList) l0_3,← idxP_some (fun i => (l0_3.getD i z71).f1.toList == a1.toList)]
  have HE := Aside0.mk (fun (W : World) (gk : Nat) (hW : Below w.heap.size w W) (hk : W.cell? ⟨gk,0,none⟩ = some (.string a1)) => hk_cont A0_2 c0_2 l0_2 a1 w W hr0_2 h1 gk hW hk)
  have HT := Aside0.mk (fun (W : World) (hW : Below w.heap.size w W) => tb_calls a0_0 a0_1 (.slice A0_2 l0_2.length c0_2) A0_3 c0_3 l0_3 a0_4 a0_5 a0_6 a0_7 a0_8 a0_9 A0_2 l0_2.length c0_2 rfl a1 w W hr0_3 hW h2)
  have HB := Aside0.mk (Below.refl w.heap.size w)
  have hu35 := Tryz.underlying35
  clear hr0_2 hr0_3
  generalize (l0_2.any fun x => x.f3.toList == a1.toList) = b at HE ⊢
  generalize (idxP (fun i => (l0_3.getD i z71).f1.toList == a1.toList) l0_3.length 0) = n at HT ⊢
  generalize l0_2.length = m2 at HE HT ⊢
  generalize l0_3.length = m3 at HT ⊢
  cases b with
  | true =>
   go_enter Tryz.func47,Tryz.ntmps47
   go_wp2_with (first
    | ((with_reducible refine gate_dst (N:=2) rfl ?_); (try (refine gate_guard (by rfl) ?_; dsimp only)); refine box_event ?hg (N:=2) ?hd (cs := #[.int .i64 a0_0,.int .i64 a0_1,.slice A0_2 m2 c0_2,.slice A0_3 m3 c0_3,.int .i64 a0_4,.int .i64 a0_5,.int .i64 a0_6,.int .i64 a0_7,.int .i64 a0_8,.int .i64 a0_9]) (t:=35) ?hr ?_; (case hd => rfl); (case hg => rfl); (case hr => first | (go_simp; done) | (go_simp; rfl)); intro gs hgs w2 hbox hb; have HB2 := Aside0.mk (below_step HB.out hb); have BKs := Aside0.mk hbox; clear hb hbox hgs)
    | ((with_reducible refine gate_dst (N:=3) rfl ?_); (try (refine gate_guard (by rfl) ?_; dsimp only)); refine box_event ?hg (N:=3) ?hd (cs := #[.string a1]) (t:=9) ?hr ?_; (case hd => rfl); (case hg => rfl); (case hr => first | (go_simp; done) | (go_simp; rfl)); intro gk hgk w3 hbox hb; have HB3 := Aside0.mk (below_step HB2.out hb); have hck : w3.cell? ⟨gk,0,none⟩ = some (.string a1) := (blk_cell hbox 0).trans rfl; have BKs3 := Aside0.mk ((hb.block gs (blk_lt BKs.out)).trans BKs.out); have hcs2 : w3.cell? ⟨gs,2,none⟩ = some (.slice A0_2 m2 c0_2) := bl BKs3 2; clear hb hbox hgk)
    | (go_at_call 56; refine (HE.out _ gk (by repeat (first | (with_reducible exact HB3.out) | apply below_alloc | apply pw_below_drewN | apply below_drew1)) (by exact hck)).mono ?_; rintro e w5 ⟨rfl,hb⟩; have HB5 := Aside0.mk (below_step (by repeat (first | (with_reducible exact HB3.out) | apply below_alloc | apply pw_below_drewN | apply below_drew1)) hb); clear hb))
   go_ret
   exact ⟨by simp,by repeat (first | (with_reducible exact HB5.out) | apply below_alloc | apply pw_below_drewN | apply below_drew1)⟩
  | false =>
   go_enter Tryz.func47,Tryz.ntmps47
   go_wp2_with (first
    | ((with_reducible refine gate_dst (N:=2) rfl ?_); (try (refine gate_guard (by rfl) ?_; dsimp only)); refine box_event ?hg (N:=2) ?hd (cs := #[.int .i64 a0_0,.int .i64 a0_1,.slice A0_2 m2 c0_2,.slice A0_3 m3 c0_3,.int .i64 a0_4,.int .i64 a0_5,.int .i64 a0_6,.int .i64 a0_7,.int .i64 a0_8,.int .i64 a0_9]) (t:=35) ?hr ?_; (case hd => rfl); (case hg => rfl); (case hr => first | (go_simp; done) | (go_simp; rfl)); intro gs hgs w2 hbox hb; have HB2 := Aside0.mk (below_step HB.out hb); have BKs := Aside0.mk hbox; clear hb hbox hgs)
    | ((with_reducible refine gate_dst (N:=3) rfl ?_); (try (refine gate_guard (by rfl) ?_; dsimp only)); refine box_event ?hg (N:=3) ?hd (cs := #[.string a1]) (t:=9) ?hr ?_; (case hd => rfl); (case hg => rfl); (case hr => first | (go_simp; done) | (go_simp; rfl)); intro gk hgk w3 hbox hb; have HB3 := Aside0.mk (below_step HB2.out hb); have hck : w3.cell? ⟨gk,0,none⟩ = some (.string a1) := (blk_cell hbox 0).trans rfl; have BKs3 := Aside0.mk ((hb.block gs (blk_lt BKs.out)).trans BKs.out); have hcs2 : w3.cell? ⟨gs,2,none⟩ = some (.slice A0_2 m2 c0_2) := bl BKs3 2; clear hb hbox hgk)
    | (go_at_call 56; refine (HE.out _ gk (by repeat (first | (with_reducible exact HB3.out) | apply below_alloc | apply pw_below_drewN | apply below_drew1)) (by exact hck)).mono ?_; rintro e w5 ⟨rfl,hb⟩; have HB5 := Aside0.mk (below_step (by repeat (first | (with_reducible exact HB3.out) | apply below_alloc | apply pw_below_drewN | apply below_drew1)) hb); replace hck := cb hb hck; have BKs5 := Aside0.mk ((hb.block gs (blk_lt BKs3.out)).trans BKs3.out); clear hcs2; have hs0 : w5.cell? ⟨gs,0,none⟩ = some (.int .i64 a0_0) := bl BKs5 0; have hs1 : w5.cell? ⟨gs,1,none⟩ = some (.int .i64 a0_1) := bl BKs5 1; have hs2 : w5.cell? ⟨gs,2,none⟩ = some (.slice A0_2 m2 c0_2) := bl BKs5 2; have hs3 : w5.cell? ⟨gs,3,none⟩ = some (.slice A0_3 m3 c0_3) := bl BKs5 3; have hs4 : w5.cell? ⟨gs,4,none⟩ = some (.int .i64 a0_4) := bl BKs5 4; have hs5 : w5.cell? ⟨gs,5,none⟩ = some (.int .i64 a0_5) := bl BKs5 5; have hs6 : w5.cell? ⟨gs,6,none⟩ = some (.int .i64 a0_6) := bl BKs5 6; have hs7 : w5.cell? ⟨gs,7,none⟩ = some (.int .i64 a0_7) := bl BKs5 7; have hs8 : w5.cell? ⟨gs,8,none⟩ = some (.int .i64 a0_8) := bl BKs5 8; have hs9 : w5.cell? ⟨gs,9,none⟩ = some (.int .i64 a0_9) := bl BKs5 9; clear hb)
    | (go_at_call 63; refine (HT.out _ (by repeat (first | (with_reducible exact HB5.out) | apply below_alloc | apply pw_below_drewN | apply below_drew1))).mono ?_; rintro e w6 ⟨rfl,hb⟩; have HB6 := Aside0.mk (below_step (by repeat (first | (with_reducible exact HB5.out) | apply below_alloc | apply pw_below_drewN | apply below_drew1)) hb); clear hb))
   go_ret
   exact ⟨by simp,by repeat (first | (with_reducible exact HB6.out) | apply below_alloc | apply pw_below_drewN | apply below_drew1)⟩
 ·cases h

/-! ### impl_State_orphans: function 25 -/
def impl_State_orphans.l0 : Nat → List ByteArray → List ByteArray → Int → Int → Int → Int → List (S64) → List (S71) → Int → Int → Int → Int → Int → Int → Option (List ByteArray)
 | 0,_,_,_,_,_,_,_,_,_,_,_,_,_,_ => none
 | k + 1,x5,x13,x14,x15,x326000,x326001,x326002,x326003,x326004,x326005,x326006,x326007,x326008,x326009 => if x15 < x14 then (if 0 ≤ x15 then (if x15 < (x13.length : Int) then ((impl_readDataKey.f k (rdOf ByteArray.empty x13 x15)).bind fun bt330 => (if bt330.2.2.2 = true then ((impl_State_hasKey.f x326000 x326001 x326002 x326003 x326004 x326005 x326006 x326007 x326008 x326009 (rdOf ByteArray.empty x13 x15)).bind fun t334 => (if t334 = true then (impl_State_orphans.l0 k x5 x13 x14 (wrap64 (x15 + 1)) x326000 x326001 x326002 x326003 x326004 x326005 x326006 x326007 x326008 x326009) else (if bt330.1 = 0 then (if bt330.2.1 ≤ x326000 then (if x5.length < 8796093022208 then (impl_State_orphans.l0 k (x5 ++ [rdOf ByteArray.empty x13 x15]) x13 x14 (wrap64 (x15 + 1)) x326000 x326001 x326002 x326003 x326004 x326005 x326006 x326007 x326008 x326009) else (none)) else (if bt330.1 > 0 then (if bt330.2.2.1 < x326001 then (if x5.length < 8796093022208 then (impl_State_orphans.l0 k (x5 ++ [rdOf ByteArray.empty x13 x15]) x13 x14 (wrap64 (x15 + 1)) x326000 x326001 x326002 x326003 x326004 x326005 x326006 x326007 x326008 x326009) else (none)) else (impl_State_orphans.l0 k x5 x13 x14 (wrap64 (x15 + 1)) x326000 x326001 x326002 x326003 x326004 x326005 x326006 x326007 x326008 x326009)) else (impl_State_orphans.l0 k x5 x13 x14 (wrap64 (x15 + 1)) x326000 x326001 x326002 x326003 x326004 x326005 x326006 x326007 x326008 x326009))) else (if bt330.1 > 0 then (if bt330.2.2.1 < x326001 then (if x5.length < 8796093022208 then (impl_State_orphans.l0 k (x5 ++ [rdOf ByteArray.empty x13 x15]) x13 x14 (wrap64 (x15 + 1)) x326000 x326001 x326002 x326003 x326004 x326005 x326006 x326007 x326008 x326009) else (none)) else (impl_State_orphans.l0 k x5 x13 x14 (wrap64 (x15 + 1)) x326000 x326001 x326002 x326003 x326004 x326005 x326006 x326007 x326008 x326009)) else (impl_State_orphans.l0 k x5 x13 x14 (wrap64 (x15 + 1)) x326000 x326001 x326002 x326003 x326004 x326005 x326006 x326007 x326008 x326009))))) else (impl_State_orphans.l0 k x5 x13 x14 (wrap64 (x15 + 1)) x326000 x326001 x326002 x326003 x326004 x326005 x326006 x326007 x326008 x326009))) else (none)) else (none)) else (some x5)
def impl_State_orphans.f (k : Nat) (a0_0 : Int) (a0_1 : Int) (l0_2 : List (S64)) (l0_3 : List (S71)) (a0_4 : Int) (a0_5 : Int) (a0_6 : Int) (a0_7 : Int) (a0_8 : Int) (a0_9 : Int) (l1 : List ByteArray) : Option (List ByteArray) := impl_State_orphans.l0 k (([] : List ByteArray)) l1 (l1.length : Int) 0 a0_0 a0_1 l0_2 l0_3 a0_4 a0_5 a0_6 a0_7 a0_8 a0_9
theorem impl_State_orphans.mono_l : ∀ k,(∀ y0 y1 y2 y3 y4 y5 y6 y7 y8 y9 y10 y11 y12 y13,LeO (impl_State_orphans.l0 k y0 y1 y2 y3 y4 y5 y6 y7 y8 y9 y10 y11 y12 y13) (impl_State_orphans.l0 (k + 1) y0 y1 y2 y3 y4 y5 y6 y7 y8 y9 y10 y11 y12 y13))
 | 0 => fun _ _ _ _ _ _ _ _ _ _ _ _ _ _ r h => by simp [impl_State_orphans.l0] at h
 | k + 1 => by
  have ih0 := impl_State_orphans.mono_l k
  ·intro y0 y1 y2 y3 y4 y5 y6 y7 y8 y9 y10 y11 y12 y13
   unfold impl_State_orphans.l0
   repeat' first
   | (with_reducible first | exact ih0 .. | exact impl_readDataKey.mono .. | exact LeO.refl _ | exact LeO.none _ | refine LeO.ite ?_ ?_ | refine LeO.bind ?_ (fun _ => ?_))
   | exact LeO.none _ | refine LeO.ite ?_ ?_ | refine LeO.bind ?_ (fun _ => ?_)
theorem impl_State_orphans.mono : ∀ a0 a1 a2 a3 a4 a5 a6 a7 a8 a9 a10 k,LeO (impl_State_orphans.f k a0 a1 a2 a3 a4 a5 a6 a7 a8 a9 a10) (impl_State_orphans.f (k + 1) a0 a1 a2 a3 a4 a5 a6 a7 a8 a9 a10) := by
 intro a0 a1 a2 a3 a4 a5 a6 a7 a8 a9 a10 k
 have ih0 := impl_State_orphans.mono_l k
 unfold impl_State_orphans.f
 repeat' first
 | (with_reducible first | exact ih0 .. | exact impl_readDataKey.mono .. | exact LeO.refl _ | exact LeO.none _ | refine LeO.ite ?_ ?_ | refine LeO.bind ?_ (fun _ => ?_))
 | exact LeO.none _ | refine LeO.ite ?_ ?_ | refine LeO.bind ?_ (fun _ => ?_)
set_option maxHeartbeats 8000000 in
set_option maxRecDepth 100000 in
theorem impl_State_orphans.calls (k : Nat) (a0_0 : Int) (a0_1 : Int) (A0_2 : Option Addr) (c0_2 : Nat) (l0_2 : List (S64)) (A0_3 : Option Addr) (c0_3 : Nat) (l0_3 : List (S71)) (a0_4 : Int) (a0_5 : Int) (a0_6 : Int) (a0_7 : Int) (a0_8 : Int) (a0_9 : Int) (A1 : Option Addr) (c1 : Nat) (l1 : List ByteArray) (r : List ByteArray) (w : World) (hV : Vars w) (hr0_2 : Kd.C k64 w A0_2 l0_2.length l0_2) (hc0_2 : l0_2.length ≤ c0_2) (hr0_3 : Kd.C k71 w A0_3 l0_3.length l0_3) (hc0_3 : l0_3.length ≤ c0_3) (hr1 : Kd.C Kd.string w A1 l1.length l1) (hc1 : l1.length ≤ c1) (h : impl_State_orphans.f k a0_0 a0_1 l0_2 l0_3 a0_4 a0_5 a0_6 a0_7 a0_8 a0_9 l1 = some r) :
  Calls Tryz.prog 25 #[.agg #[.int .i64 a0_0,.int .i64 a0_1,.slice A0_2 l0_2.length c0_2,.slice A0_3 l0_3.length c0_3,.int .i64 a0_4,.int .i64 a0_5,.int .i64 a0_6,.int .i64 a0_7,.int .i64 a0_8,.int .i64 a0_9],.slice A1 l1.length c1] w fun e w' => ∃ v0_ : Value,e = .returned (v0_) ∧ Kd.R Kd.string 9 w' w.heap.size (fun _ => True) v0_ r ∧ Below w.heap.size w w' := by
 have hu35 := Tryz.underlying35
 have HR0_2 := Aside0.mk hr0_2
 have HC0_2 := Aside0.mk hc0_2
 clear hr0_2 hc0_2
 have HR0_3 := Aside0.mk hr0_3
 have HC0_3 := Aside0.mk hc0_3
 clear hr0_3 hc0_3
 have HR1 := Aside0.mk hr1
 have HC1 := Aside0.mk hc1
 clear hr1 hc1
 have HV := Aside0.mk hV
 clear hV
 have HB := Aside0.mk (Below.refl w.heap.size w)
 have H : (impl_State_orphans.l0 k (([] : List ByteArray)) l1 (l1.length : Int) 0 a0_0 a0_1 l0_2 l0_3 a0_4 a0_5 a0_6 a0_7 a0_8 a0_9) = some r := h
 clear h
 obtain ⟨y326,hy326⟩ : ∃ y_ : List ByteArray,y_ = (([] : List ByteArray)) := ⟨_,rfl⟩
 replace H : (impl_State_orphans.l0 k y326 l1 (l1.length : Int) 0 a0_0 a0_1 l0_2 l0_3 a0_4 a0_5 a0_6 a0_7 a0_8 a0_9) = some r := by first | (rw [hy326]; with_reducible exact H) | (have H2_ := (Option.bind_some _ _).symm.trans H; rw [hy326]; with_reducible exact H2_) | (have H2_ := (Option.bind_some _ _).symm.trans H; with_reducible exact H2_) | with_reducible exact H | (rw [hy326]; exact H) | exact H
 have Ny326 := Aside0.mk hy326
 clear hy326
 have H' := Aside0.mk H
 clear H
 go_enter Tryz.func25,Tryz.ntmps25
 go_wp2_with (first | ((with_reducible refine gate_dst (N:=2) rfl ?_); refine box_event ?hg (N:=2) ?hd (cs := #[.int .i64 a0_0,.int .i64 a0_1,.slice A0_2 l0_2.length c0_2,.slice A0_3 l0_3.length c0_3,.int .i64 a0_4,.int .i64 a0_5,.int .i64 a0_6,.int .i64 a0_7,.int .i64 a0_8,.int .i64 a0_9]) (t:=35) ?hr ?_; (case hd => rfl); (case hg => rfl); (case hr => first | (go_simp; done) | (go_simp; rfl)); intro gb325 hg w3 hbox hb; have n0_ := Aside0.mk (below_step bA hb); have n1_ := Aside0.mk (hbox); have n2_ := Aside0.mk ((gw hg : w.heap.size ≤ gb325)); have n3_ := Aside0.mk ((gw hg : w.heap.size ≤ gb325)); clear HB; have HB := n0_; have BK325 := n1_; have GW325 := n2_; have GE325 := n3_; clear n0_ n1_ n2_ n3_; clear hb hbox hg) | ((with_reducible refine gate_dst (N:=12) rfl ?_); refine Kd.R_lit Kd.string _ 9 ?hg (N:=12) ?hd (xs := ([] : List ByteArray)) (inner := []) (ok := fun _ => True) (okp := fun _ => True) ?hr ?hp (fun _ hk => hk) trivial (Below.refl _ _) (Nat.le_refl _) (by simp) ?_; (case hd => rfl); (case hg => rfl); (case hr => first | (go_simp; done) | (go_simp; rfl)); (case hp => exact (Reps.none _ _)); intro v327 w4 ho5 hb hg_ hnew_; clear hg_ hnew_; (first | rw [← Ny326.out] at ho5 | (simp only [Int.reduceToNat] at ho5; rw [← Ny326.out] at ho5)); have n0_ := Aside0.mk (Kd.R_lower ho5 (below_size bA)); have n1_ := Aside0.mk (bb BK325.out hb); have n2_ := Aside0.mk (below_step bA hb); clear BK325 HB; have HO328 := n0_; have BK325 := n1_; have HB := n2_; clear n0_ n1_ n2_; clear hb ho5))
 go_loopg [5,15] k (fun kq v5 v15 w' => ∃ (x5_1 : List ByteArray) (x15_1 : Int),v15 = .int .i64 x15_1 ∧ Aside0 (impl_State_orphans.l0 kq x5_1 l1 (l1.length : Int) x15_1 a0_0 a0_1 l0_2 l0_3 a0_4 a0_5 a0_6 a0_7 a0_8 a0_9 = some r) ∧ Aside0 (kq ≤ k) ∧ Aside0 (Kd.R Kd.string 9 w' w.heap.size (fun _ => True) v5 x5_1) ∧ Aside0 (w'.heap[gb325]? = some (.cells #[.int .i64 a0_0,.int .i64 a0_1,(.slice A0_2 l0_2.length c0_2),(.slice A0_3 l0_3.length c0_3),.int .i64 a0_4,.int .i64 a0_5,.int .i64 a0_6,.int .i64 a0_7,.int .i64 a0_8,.int .i64 a0_9] 35 (0,0))) ∧ Aside0 (Below w.heap.size w w'))
 case atStart => exact ⟨(y326),(0),(by first | rfl | (simp; done) | (simp [*]; done)),H',⟨Nat.le_refl _⟩,⟨rA HO328.out⟩,⟨kA BK325.out⟩,⟨bA⟩⟩
 case round =>
  clear H'
  try clear c1
  try clear c2
  try clear p2
  obtain ⟨x5_1,x15_1,rfl,HA,HK1,HO_5,BK325,HB⟩ := hrel
  cases gk with
  | zero => exact absurd HA.out (by simp [impl_State_orphans.l0])
  | succ k1 =>
   have H := HA.out
   clear HA
   simp only [impl_State_orphans.l0] at H
   by_cases c6 : x15_1 < (l1.length : Int)
   ·rw [if_pos c6] at H
    have c6b0 : decide (x15_1 < (l1.length : Int)) = true := decide_eq_true c6
    clear c6
    by_cases c7 : 0 ≤ x15_1
    ·rw [if_pos c7] at H
     have c7b0 : decide (0 ≤ x15_1) = true := decide_eq_true c7
     clear c7
     by_cases c8 : x15_1 < (l1.length : Int)
     ·rw [if_pos c8] at H
      have c8b0 : decide (x15_1 < (l1.length : Int)) = true := decide_eq_true c8
      clear c8
      replace H := Option.bind_eq_some_iff.mp H
      obtain ⟨⟨t330,t331,t332,t333⟩,A90,H⟩ := H
      try dsimp only at H
      have A9 := Aside0.mk A90
      clear A90
      by_cases c10 : t333 = true
      ·subst c10
       rw [if_pos rfl] at H
       replace H := Option.bind_eq_some_iff.mp H
       obtain ⟨t334,A110,H⟩ := H
       try dsimp only at H
       have A11 := Aside0.mk A110
       clear A110
       by_cases c12 : t334 = true
       ·subst c12
        rw [if_pos rfl] at H
        have H' := Aside0.mk H
        clear H
        have p329 : 0 ≤ (x15_1 : Int) := od
        have q329 : x15_1 < (l1.length : Int) := od
        obtain ⟨ad329,e329,hx329_0⟩ := Kd.at_string HR1.out x15_1 p329 q329
        cases e329
        replace hx329_0 := cb HB.out hx329_0
        replace p329 := eq_true p329
        replace q329 := eq_true q329
        go_wp2_with (first | ((with_reducible refine gate_callee (f:=45) rfl ?_); refine goesL_ (some 21) rfl rfl Tryz.func45 (by kernel_rfl) rfl #[.string (rdOf ByteArray.empty l1 x15_1)] rfl mA ?_; (with_reducible refine (impl_readDataKey.calls k1 (rdOf ByteArray.empty l1 x15_1) t330 t331 t332 true _ ?side1 A9.out).mono ?_); (case side1 => exact HV.out.below bA); rintro e w13 ⟨rfl,hb⟩; refine ⟨_,rfl,?_⟩; have n0_ := Aside0.mk (Kd.R_below (rA HO_5.out) hb); have n1_ := Aside0.mk (bb BK325.out hb); have n2_ := Aside0.mk (below_step bA hb); clear HO_5 BK325 HB; have HO_5 := n0_; have BK325 := n1_; have HB := n2_; clear n0_ n1_ n2_; (try clear hb); (try clear hb2); (try clear hk); (try clear hi); obtain ⟨hcz14_0,hcz14_1,hcz14_2,hcz14_3,hcz14_4,hcz14_5,hcz14_6,hcz14_7,hcz14_8,hcz14_9⟩ := cl10 BK325.out; obtain ⟨hfz14_0,hfz14_1,hfz14_2,hfz14_3,hfz14_4,hfz14_5,hfz14_6,hfz14_7,hfz14_8,hfz14_9⟩ := fz10 BK325.out) | (go_at_call 47; (with_reducible refine (impl_State_hasKey.calls a0_0 a0_1 _ _ l0_2 _ _ l0_3 a0_4 a0_5 a0_6 a0_7 a0_8 a0_9 (rdOf ByteArray.empty l1 x15_1) true _ ?side1 ?side2 ?side3 ?side4 ?side5 A11.out).mono ?_); (case side1 => exact HV.out.below bA); (case side2 => exact sC HR0_2.out); (case side3 => exact HC0_2.out); (case side4 => exact sC HR0_3.out); (case side5 => exact HC0_3.out); rintro e w15 ⟨rfl,hb⟩; have n0_ := Aside0.mk (Kd.R_below (rA HO_5.out) hb); have n1_ := Aside0.mk (bb BK325.out hb); have n2_ := Aside0.mk (below_step bA hb); clear HO_5 BK325 HB; have HO_5 := n0_; have BK325 := n1_; have HB := n2_; clear n0_ n1_ n2_; (try clear hb); (try clear hb2); (try clear hk); (try clear hi)))
        go_roundg k1
        case measure => have := HK1.out; omega
        case rel => exact ⟨(x5_1),(wrap64 (x15_1 + 1)),(by first | rfl | (simp; done) | (simp [*]; done)),H',⟨by have := HK1.out; omega⟩,⟨rA HO_5.out⟩,⟨kA BK325.out⟩,⟨bA⟩⟩
       ·replace c12 := Bool.eq_false_iff.mpr c12
        subst c12
        rw [if_neg (show ¬ (false = true) by decide)] at H
        by_cases c16 : t330 = 0
        ·rw [if_pos c16] at H
         have c16b0 : (t330 == 0) = true := beq_iff_eq.mpr c16
         have c16b1 : (t330 != 0) = false := bne_eq_false_iff_eq.mpr c16
         clear c16
         by_cases c17 : t331 ≤ a0_0
         ·rw [if_pos c17] at H
          have c17b0 : decide (t331 ≤ a0_0) = true := decide_eq_true c17
          clear c17
          by_cases c18 : x5_1.length < 8796093022208
          ·rw [if_pos c18] at H
           have LMc18 := Aside0.mk c18
           clear c18
           obtain ⟨y335,hy335⟩ : ∃ y_ : List ByteArray,y_ = (x5_1 ++ [rdOf ByteArray.empty l1 x15_1]) := ⟨_,rfl⟩
           replace H : (impl_State_orphans.l0 k1 y335 l1 (l1.length : Int) (wrap64 (x15_1 + 1)) a0_0 a0_1 l0_2 l0_3 a0_4 a0_5 a0_6 a0_7 a0_8 a0_9) = some r := by first | (rw [hy335]; with_reducible exact H) | (have H2_ := (Option.bind_some _ _).symm.trans H; rw [hy335]; with_reducible exact H2_) | (have H2_ := (Option.bind_some _ _).symm.trans H; with_reducible exact H2_) | with_reducible exact H | (rw [hy335]; exact H) | exact H
           have Ny335 := Aside0.mk hy335
           clear hy335
           have H' := Aside0.mk H
           clear H
           have p329 : 0 ≤ (x15_1 : Int) := od
           have q329 : x15_1 < (l1.length : Int) := od
           obtain ⟨ad329,e329,hx329_0⟩ := Kd.at_string HR1.out x15_1 p329 q329
           cases e329
           replace hx329_0 := cb HB.out hx329_0
           replace p329 := eq_true p329
           replace q329 := eq_true q329
           go_wp2_with (first | ((with_reducible refine gate_callee (f:=45) rfl ?_); refine goesL_ (some 21) rfl rfl Tryz.func45 (by kernel_rfl) rfl #[.string (rdOf ByteArray.empty l1 x15_1)] rfl mA ?_; (with_reducible refine (impl_readDataKey.calls k1 (rdOf ByteArray.empty l1 x15_1) t330 t331 t332 true _ ?side1 A9.out).mono ?_); (case side1 => exact HV.out.below bA); rintro e w19 ⟨rfl,hb⟩; refine ⟨_,rfl,?_⟩; have n0_ := Aside0.mk (Kd.R_below (rA HO_5.out) hb); have n1_ := Aside0.mk (bb BK325.out hb); have n2_ := Aside0.mk (below_step bA hb); clear HO_5 BK325 HB; have HO_5 := n0_; have BK325 := n1_; have HB := n2_; clear n0_ n1_ n2_; (try clear hb); (try clear hb2); (try clear hk); (try clear hi); obtain ⟨hcz20_0,hcz20_1,hcz20_2,hcz20_3,hcz20_4,hcz20_5,hcz20_6,hcz20_7,hcz20_8,hcz20_9⟩ := cl10 BK325.out; obtain ⟨hfz20_0,hfz20_1,hfz20_2,hfz20_3,hfz20_4,hfz20_5,hfz20_6,hfz20_7,hfz20_8,hfz20_9⟩ := fz10 BK325.out) | (go_at_call 47; (with_reducible refine (impl_State_hasKey.calls a0_0 a0_1 _ _ l0_2 _ _ l0_3 a0_4 a0_5 a0_6 a0_7 a0_8 a0_9 (rdOf ByteArray.empty l1 x15_1) false _ ?side1 ?side2 ?side3 ?side4 ?side5 A11.out).mono ?_); (case side1 => exact HV.out.below bA); (case side2 => exact sC HR0_2.out); (case side3 => exact HC0_2.out); (case side4 => exact sC HR0_3.out); (case side5 => exact HC0_3.out); rintro e w21 ⟨rfl,hb⟩; have n0_ := Aside0.mk (Kd.R_below (rA HO_5.out) hb); have n1_ := Aside0.mk (bb BK325.out hb); have n2_ := Aside0.mk (below_step bA hb); clear HO_5 BK325 HB; have HO_5 := n0_; have BK325 := n1_; have HB := n2_; clear n0_ n1_ n2_; (try clear hb); (try clear hb2); (try clear hk); (try clear hi); obtain ⟨hcz22_0,hcz22_1,hcz22_2,hcz22_3,hcz22_4,hcz22_5,hcz22_6,hcz22_7,hcz22_8,hcz22_9⟩ := cl10 BK325.out; obtain ⟨hfz22_0,hfz22_1,hfz22_2,hfz22_3,hfz22_4,hfz22_5,hfz22_6,hfz22_7,hfz22_8,hfz22_9⟩ := fz10 BK325.out) | ((with_reducible refine gate_builtin (b:=.append) (xs := #[.tmp 53,.tmp 55]) rfl ?_); at_builtin; refine Kd.R_append Kd.string (w0 := w) w.heap.size rfl (.tmp 53) (.tmp 55) 27 9 (.string ⟨#[]⟩) 16 rfl Tryz.underlying27 info9 rfl (by decide) (by omega) u5 x5_1 (rdOf ByteArray.empty l1 x15_1) [.string (rdOf ByteArray.empty l1 x15_1)] (fun _ => True) (fun _ => False) rfl rfl ?aP (fun _ hk => hk.elim) ?aF ?aO ?aB ?aS ?aL ?_; (case aP => exact rfl); (case aB => exact bA); (case aF => exact (fun _ _ => trivial)); (case aO => exact (rA HO_5.out)); (case aS => exact (below_size bA)); (case aL => have := LMc18.out; omega); intro v336 w23 ho hb hg hat; rw [← Ny335.out] at ho; have n0_ := Aside0.mk (bg BK325.out hg (Kd.R_ne HO_5.out BK325.out (by decide))); have n1_ := Aside0.mk (hb); have n2_ := Aside0.mk (ho); clear BK325 HB HO_5; have BK325 := n0_; have HB := n1_; have HO337 := n2_; clear n0_ n1_ n2_; clear ho hb hg hat))
           go_roundg k1
           case measure => have := HK1.out; omega
           case rel => exact ⟨(y335),(wrap64 (x15_1 + 1)),(by first | rfl | (simp; done) | (simp [*]; done)),H',⟨by have := HK1.out; omega⟩,⟨rA HO337.out⟩,⟨kA BK325.out⟩,⟨bA⟩⟩
          ·rw [if_neg c18] at H
           exact absurd H (by simp)
         ·rw [if_neg c17] at H
          have c17b0 : decide (t331 ≤ a0_0) = false := decide_eq_false c17
          clear c17
          by_cases c24 : t330 > 0
          ·rw [if_pos c24] at H
           have c24b0 : decide (0 < t330) = true := decide_eq_true c24
           clear c24
           by_cases c25 : t332 < a0_1
           ·rw [if_pos c25] at H
            have c25b0 : decide (t332 < a0_1) = true := decide_eq_true c25
            clear c25
            by_cases c26 : x5_1.length < 8796093022208
            ·rw [if_pos c26] at H
             have LMc26 := Aside0.mk c26
             clear c26
             obtain ⟨y338,hy338⟩ : ∃ y_ : List ByteArray,y_ = (x5_1 ++ [rdOf ByteArray.empty l1 x15_1]) := ⟨_,rfl⟩
             replace H : (impl_State_orphans.l0 k1 y338 l1 (l1.length : Int) (wrap64 (x15_1 + 1)) a0_0 a0_1 l0_2 l0_3 a0_4 a0_5 a0_6 a0_7 a0_8 a0_9) = some r := by first | (rw [hy338]; with_reducible exact H) | (have H2_ := (Option.bind_some _ _).symm.trans H; rw [hy338]; with_reducible exact H2_) | (have H2_ := (Option.bind_some _ _).symm.trans H; with_reducible exact H2_) | with_reducible exact H | (rw [hy338]; exact H) | exact H
             have Ny338 := Aside0.mk hy338
             clear hy338
             have H' := Aside0.mk H
             clear H
             have p329 : 0 ≤ (x15_1 : Int) := od
             have q329 : x15_1 < (l1.length : Int) := od
             obtain ⟨ad329,e329,hx329_0⟩ := Kd.at_string HR1.out x15_1 p329 q329
             cases e329
             replace hx329_0 := cb HB.out hx329_0
             replace p329 := eq_true p329
             replace q329 := eq_true q329
             go_wp2_with (first | ((with_reducible refine gate_callee (f:=45) rfl ?_); refine goesL_ (some 21) rfl rfl Tryz.func45 (by kernel_rfl) rfl #[.string (rdOf ByteArray.empty l1 x15_1)] rfl mA ?_; (with_reducible refine (impl_readDataKey.calls k1 (rdOf ByteArray.empty l1 x15_1) t330 t331 t332 true _ ?side1 A9.out).mono ?_); (case side1 => exact HV.out.below bA); rintro e w27 ⟨rfl,hb⟩; refine ⟨_,rfl,?_⟩; have n0_ := Aside0.mk (Kd.R_below (rA HO_5.out) hb); have n1_ := Aside0.mk (bb BK325.out hb); have n2_ := Aside0.mk (below_step bA hb); clear HO_5 BK325 HB; have HO_5 := n0_; have BK325 := n1_; have HB := n2_; clear n0_ n1_ n2_; (try clear hb); (try clear hb2); (try clear hk); (try clear hi); obtain ⟨hcz28_0,hcz28_1,hcz28_2,hcz28_3,hcz28_4,hcz28_5,hcz28_6,hcz28_7,hcz28_8,hcz28_9⟩ := cl10 BK325.out; obtain ⟨hfz28_0,hfz28_1,hfz28_2,hfz28_3,hfz28_4,hfz28_5,hfz28_6,hfz28_7,hfz28_8,hfz28_9⟩ := fz10 BK325.out) | (go_at_call 47; (with_reducible refine (impl_State_hasKey.calls a0_0 a0_1 _ _ l0_2 _ _ l0_3 a0_4 a0_5 a0_6 a0_7 a0_8 a0_9 (rdOf ByteArray.empty l1 x15_1) false _ ?side1 ?side2 ?side3 ?side4 ?side5 A11.out).mono ?_); (case side1 => exact HV.out.below bA); (case side2 => exact sC HR0_2.out); (case side3 => exact HC0_2.out); (case side4 => exact sC HR0_3.out); (case side5 => exact HC0_3.out); rintro e w29 ⟨rfl,hb⟩; have n0_ := Aside0.mk (Kd.R_below (rA HO_5.out) hb); have n1_ := Aside0.mk (bb BK325.out hb); have n2_ := Aside0.mk (below_step bA hb); clear HO_5 BK325 HB; have HO_5 := n0_; have BK325 := n1_; have HB := n2_; clear n0_ n1_ n2_; (try clear hb); (try clear hb2); (try clear hk); (try clear hi); obtain ⟨hcz30_0,hcz30_1,hcz30_2,hcz30_3,hcz30_4,hcz30_5,hcz30_6,hcz30_7,hcz30_8,hcz30_9⟩ := cl10 BK325.out; obtain ⟨hfz30_0,hfz30_1,hfz30_2,hfz30_3,hfz30_4,hfz30_5,hfz30_6,hfz30_7,hfz30_8,hfz30_9⟩ := fz10 BK325.out) | ((with_reducible refine gate_builtin (b:=.append) (xs := #[.tmp 53,.tmp 55]) rfl ?_); at_builtin; refine Kd.R_append Kd.string (w0 := w) w.heap.size rfl (.tmp 53) (.tmp 55) 27 9 (.string ⟨#[]⟩) 16 rfl Tryz.underlying27 info9 rfl (by decide) (by omega) u5 x5_1 (rdOf ByteArray.empty l1 x15_1) [.string (rdOf ByteArray.empty l1 x15_1)] (fun _ => True) (fun _ => False) rfl rfl ?aP (fun _ hk => hk.elim) ?aF ?aO ?aB ?aS ?aL ?_; (case aP => exact rfl); (case aB => exact bA); (case aF => exact (fun _ _ => trivial)); (case aO => exact (rA HO_5.out)); (case aS => exact (below_size bA)); (case aL => have := LMc26.out; omega); intro v339 w31 ho hb hg hat; rw [← Ny338.out] at ho; have n0_ := Aside0.mk (bg BK325.out hg (Kd.R_ne HO_5.out BK325.out (by decide))); have n1_ := Aside0.mk (hb); have n2_ := Aside0.mk (ho); clear BK325 HB HO_5; have BK325 := n0_; have HB := n1_; have HO340 := n2_; clear n0_ n1_ n2_; clear ho hb hg hat))
             go_roundg k1
             case measure => have := HK1.out; omega
             case rel => exact ⟨(y338),(wrap64 (x15_1 + 1)),(by first | rfl | (simp; done) | (simp [*]; done)),H',⟨by have := HK1.out; omega⟩,⟨rA HO340.out⟩,⟨kA BK325.out⟩,⟨bA⟩⟩
            ·rw [if_neg c26] at H
             exact absurd H (by simp)
           ·rw [if_neg c25] at H
            have c25b0 : decide (t332 < a0_1) = false := decide_eq_false c25
            clear c25
            have H' := Aside0.mk H
            clear H
            have p329 : 0 ≤ (x15_1 : Int) := od
            have q329 : x15_1 < (l1.length : Int) := od
            obtain ⟨ad329,e329,hx329_0⟩ := Kd.at_string HR1.out x15_1 p329 q329
            cases e329
            replace hx329_0 := cb HB.out hx329_0
            replace p329 := eq_true p329
            replace q329 := eq_true q329
            go_wp2_with (first | ((with_reducible refine gate_callee (f:=45) rfl ?_); refine goesL_ (some 21) rfl rfl Tryz.func45 (by kernel_rfl) rfl #[.string (rdOf ByteArray.empty l1 x15_1)] rfl mA ?_; (with_reducible refine (impl_readDataKey.calls k1 (rdOf ByteArray.empty l1 x15_1) t330 t331 t332 true _ ?side1 A9.out).mono ?_); (case side1 => exact HV.out.below bA); rintro e w32 ⟨rfl,hb⟩; refine ⟨_,rfl,?_⟩; have n0_ := Aside0.mk (Kd.R_below (rA HO_5.out) hb); have n1_ := Aside0.mk (bb BK325.out hb); have n2_ := Aside0.mk (below_step bA hb); clear HO_5 BK325 HB; have HO_5 := n0_; have BK325 := n1_; have HB := n2_; clear n0_ n1_ n2_; (try clear hb); (try clear hb2); (try clear hk); (try clear hi); obtain ⟨hcz33_0,hcz33_1,hcz33_2,hcz33_3,hcz33_4,hcz33_5,hcz33_6,hcz33_7,hcz33_8,hcz33_9⟩ := cl10 BK325.out; obtain ⟨hfz33_0,hfz33_1,hfz33_2,hfz33_3,hfz33_4,hfz33_5,hfz33_6,hfz33_7,hfz33_8,hfz33_9⟩ := fz10 BK325.out) | (go_at_call 47; (with_reducible refine (impl_State_hasKey.calls a0_0 a0_1 _ _ l0_2 _ _ l0_3 a0_4 a0_5 a0_6 a0_7 a0_8 a0_9 (rdOf ByteArray.empty l1 x15_1) false _ ?side1 ?side2 ?side3 ?side4 ?side5 A11.out).mono ?_); (case side1 => exact HV.out.below bA); (case side2 => exact sC HR0_2.out); (case side3 => exact HC0_2.out); (case side4 => exact sC HR0_3.out); (case side5 => exact HC0_3.out); rintro e w34 ⟨rfl,hb⟩; have n0_ := Aside0.mk (Kd.R_below (rA HO_5.out) hb); have n1_ := Aside0.mk (bb BK325.out hb); have n2_ := Aside0.mk (below_step bA hb); clear HO_5 BK325 HB; have HO_5 := n0_; have BK325 := n1_; have HB := n2_; clear n0_ n1_ n2_; (try clear hb); (try clear hb2); (try clear hk); (try clear hi); obtain ⟨hcz35_0,hcz35_1,hcz35_2,hcz35_3,hcz35_4,hcz35_5,hcz35_6,hcz35_7,hcz35_8,hcz35_9⟩ := cl10 BK325.out; obtain ⟨hfz35_0,hfz35_1,hfz35_2,hfz35_3,hfz35_4,hfz35_5,hfz35_6,hfz35_7,hfz35_8,hfz35_9⟩ := fz10 BK325.out))
            go_roundg k1
            case measure => have := HK1.out; omega
            case rel => exact ⟨(x5_1),(wrap64 (x15_1 + 1)),(by first | rfl | (simp; done) | (simp [*]; done)),H',⟨by have := HK1.out; omega⟩,⟨rA HO_5.out⟩,⟨kA BK325.out⟩,⟨bA⟩⟩
          ·rw [if_neg c24] at H
           have c24b0 : decide (0 < t330) = false := decide_eq_false c24
           clear c24
           have H' := Aside0.mk H
           clear H
           have p329 : 0 ≤ (x15_1 : Int) := od
           have q329 : x15_1 < (l1.length : Int) := od
           obtain ⟨ad329,e329,hx329_0⟩ := Kd.at_string HR1.out x15_1 p329 q329
           cases e329
           replace hx329_0 := cb HB.out hx329_0
           replace p329 := eq_true p329
           replace q329 := eq_true q329
           go_wp2_with (first | ((with_reducible refine gate_callee (f:=45) rfl ?_); refine goesL_ (some 21) rfl rfl Tryz.func45 (by kernel_rfl) rfl #[.string (rdOf ByteArray.empty l1 x15_1)] rfl mA ?_; (with_reducible refine (impl_readDataKey.calls k1 (rdOf ByteArray.empty l1 x15_1) t330 t331 t332 true _ ?side1 A9.out).mono ?_); (case side1 => exact HV.out.below bA); rintro e w36 ⟨rfl,hb⟩; refine ⟨_,rfl,?_⟩; have n0_ := Aside0.mk (Kd.R_below (rA HO_5.out) hb); have n1_ := Aside0.mk (bb BK325.out hb); have n2_ := Aside0.mk (below_step bA hb); clear HO_5 BK325 HB; have HO_5 := n0_; have BK325 := n1_; have HB := n2_; clear n0_ n1_ n2_; (try clear hb); (try clear hb2); (try clear hk); (try clear hi); obtain ⟨hcz37_0,hcz37_1,hcz37_2,hcz37_3,hcz37_4,hcz37_5,hcz37_6,hcz37_7,hcz37_8,hcz37_9⟩ := cl10 BK325.out; obtain ⟨hfz37_0,hfz37_1,hfz37_2,hfz37_3,hfz37_4,hfz37_5,hfz37_6,hfz37_7,hfz37_8,hfz37_9⟩ := fz10 BK325.out) | (go_at_call 47; (with_reducible refine (impl_State_hasKey.calls a0_0 a0_1 _ _ l0_2 _ _ l0_3 a0_4 a0_5 a0_6 a0_7 a0_8 a0_9 (rdOf ByteArray.empty l1 x15_1) false _ ?side1 ?side2 ?side3 ?side4 ?side5 A11.out).mono ?_); (case side1 => exact HV.out.below bA); (case side2 => exact sC HR0_2.out); (case side3 => exact HC0_2.out); (case side4 => exact sC HR0_3.out); (case side5 => exact HC0_3.out); rintro e w38 ⟨rfl,hb⟩; have n0_ := Aside0.mk (Kd.R_below (rA HO_5.out) hb); have n1_ := Aside0.mk (bb BK325.out hb); have n2_ := Aside0.mk (below_step bA hb); clear HO_5 BK325 HB; have HO_5 := n0_; have BK325 := n1_; have HB := n2_; clear n0_ n1_ n2_; (try clear hb); (try clear hb2); (try clear hk); (try clear hi); obtain ⟨hcz39_0,hcz39_1,hcz39_2,hcz39_3,hcz39_4,hcz39_5,hcz39_6,hcz39_7,hcz39_8,hcz39_9⟩ := cl10 BK325.out; obtain ⟨hfz39_0,hfz39_1,hfz39_2,hfz39_3,hfz39_4,hfz39_5,hfz39_6,hfz39_7,hfz39_8,hfz39_9⟩ := fz10 BK325.out))
           go_roundg k1
           case measure => have := HK1.out; omega
           case rel => exact ⟨(x5_1),(wrap64 (x15_1 + 1)),(by first | rfl | (simp; done) | (simp [*]; done)),H',⟨by have := HK1.out; omega⟩,⟨rA HO_5.out⟩,⟨kA BK325.out⟩,⟨bA⟩⟩
        ·rw [if_neg c16] at H
         have c16b0 : (t330 == 0) = false := beq_eq_false_iff_ne.mpr c16
         have c16b1 : (t330 != 0) = true := bne_iff_ne.mpr c16
         by_cases c40 : t330 > 0
         ·rw [if_pos c40] at H
          have c40b0 : decide (0 < t330) = true := decide_eq_true c40
          clear c40
          by_cases c41 : t332 < a0_1
          ·rw [if_pos c41] at H
           have c41b0 : decide (t332 < a0_1) = true := decide_eq_true c41
           clear c41
           by_cases c42 : x5_1.length < 8796093022208
           ·rw [if_pos c42] at H
            have LMc42 := Aside0.mk c42
            clear c42
            obtain ⟨y341,hy341⟩ : ∃ y_ : List ByteArray,y_ = (x5_1 ++ [rdOf ByteArray.empty l1 x15_1]) := ⟨_,rfl⟩
            replace H : (impl_State_orphans.l0 k1 y341 l1 (l1.length : Int) (wrap64 (x15_1 + 1)) a0_0 a0_1 l0_2 l0_3 a0_4 a0_5 a0_6 a0_7 a0_8 a0_9) = some r := by first | (rw [hy341]; with_reducible exact H) | (have H2_ := (Option.bind_some _ _).symm.trans H; rw [hy341]; with_reducible exact H2_) | (have H2_ := (Option.bind_some _ _).symm.trans H; with_reducible exact H2_) | with_reducible exact H | (rw [hy341]; exact H) | exact H
            have Ny341 := Aside0.mk hy341
            clear hy341
            have H' := Aside0.mk H
            clear H
            have p329 : 0 ≤ (x15_1 : Int) := od
            have q329 : x15_1 < (l1.length : Int) := od
            obtain ⟨ad329,e329,hx329_0⟩ := Kd.at_string HR1.out x15_1 p329 q329
            cases e329
            replace hx329_0 := cb HB.out hx329_0
            replace p329 := eq_true p329
            replace q329 := eq_true q329
            go_wp2_with (first | ((with_reducible refine gate_callee (f:=45) rfl ?_); refine goesL_ (some 21) rfl rfl Tryz.func45 (by kernel_rfl) rfl #[.string (rdOf ByteArray.empty l1 x15_1)] rfl mA ?_; (with_reducible refine (impl_readDataKey.calls k1 (rdOf ByteArray.empty l1 x15_1) t330 t331 t332 true _ ?side1 A9.out).mono ?_); (case side1 => exact HV.out.below bA); rintro e w43 ⟨rfl,hb⟩; refine ⟨_,rfl,?_⟩; have n0_ := Aside0.mk (Kd.R_below (rA HO_5.out) hb); have n1_ := Aside0.mk (bb BK325.out hb); have n2_ := Aside0.mk (below_step bA hb); clear HO_5 BK325 HB; have HO_5 := n0_; have BK325 := n1_; have HB := n2_; clear n0_ n1_ n2_; (try clear hb); (try clear hb2); (try clear hk); (try clear hi); obtain ⟨hcz44_0,hcz44_1,hcz44_2,hcz44_3,hcz44_4,hcz44_5,hcz44_6,hcz44_7,hcz44_8,hcz44_9⟩ := cl10 BK325.out; obtain ⟨hfz44_0,hfz44_1,hfz44_2,hfz44_3,hfz44_4,hfz44_5,hfz44_6,hfz44_7,hfz44_8,hfz44_9⟩ := fz10 BK325.out) | (go_at_call 47; (with_reducible refine (impl_State_hasKey.calls a0_0 a0_1 _ _ l0_2 _ _ l0_3 a0_4 a0_5 a0_6 a0_7 a0_8 a0_9 (rdOf ByteArray.empty l1 x15_1) false _ ?side1 ?side2 ?side3 ?side4 ?side5 A11.out).mono ?_); (case side1 => exact HV.out.below bA); (case side2 => exact sC HR0_2.out); (case side3 => exact HC0_2.out); (case side4 => exact sC HR0_3.out); (case side5 => exact HC0_3.out); rintro e w45 ⟨rfl,hb⟩; have n0_ := Aside0.mk (Kd.R_below (rA HO_5.out) hb); have n1_ := Aside0.mk (bb BK325.out hb); have n2_ := Aside0.mk (below_step bA hb); clear HO_5 BK325 HB; have HO_5 := n0_; have BK325 := n1_; have HB := n2_; clear n0_ n1_ n2_; (try clear hb); (try clear hb2); (try clear hk); (try clear hi); obtain ⟨hcz46_0,hcz46_1,hcz46_2,hcz46_3,hcz46_4,hcz46_5,hcz46_6,hcz46_7,hcz46_8,hcz46_9⟩ := cl10 BK325.out; obtain ⟨hfz46_0,hfz46_1,hfz46_2,hfz46_3,hfz46_4,hfz46_5,hfz46_6,hfz46_7,hfz46_8,hfz46_9⟩ := fz10 BK325.out) | ((with_reducible refine gate_builtin (b:=.append) (xs := #[.tmp 53,.tmp 55]) rfl ?_); at_builtin; refine Kd.R_append Kd.string (w0 := w) w.heap.size rfl (.tmp 53) (.tmp 55) 27 9 (.string ⟨#[]⟩) 16 rfl Tryz.underlying27 info9 rfl (by decide) (by omega) u5 x5_1 (rdOf ByteArray.empty l1 x15_1) [.string (rdOf ByteArray.empty l1 x15_1)] (fun _ => True) (fun _ => False) rfl rfl ?aP (fun _ hk => hk.elim) ?aF ?aO ?aB ?aS ?aL ?_; (case aP => exact rfl); (case aB => exact bA); (case aF => exact (fun _ _ => trivial)); (case aO => exact (rA HO_5.out)); (case aS => exact (below_size bA)); (case aL => have := LMc42.out; omega); intro v342 w47 ho hb hg hat; rw [← Ny341.out] at ho; have n0_ := Aside0.mk (bg BK325.out hg (Kd.R_ne HO_5.out BK325.out (by decide))); have n1_ := Aside0.mk (hb); have n2_ := Aside0.mk (ho); clear BK325 HB HO_5; have BK325 := n0_; have HB := n1_; have HO343 := n2_; clear n0_ n1_ n2_; clear ho hb hg hat))
            go_roundg k1
            case measure => have := HK1.out; omega
            case rel => exact ⟨(y341),(wrap64 (x15_1 + 1)),(by first | rfl | (simp; done) | (simp [*]; done)),H',⟨by have := HK1.out; omega⟩,⟨rA HO343.out⟩,⟨kA BK325.out⟩,⟨bA⟩⟩
           ·rw [if_neg c42] at H
            exact absurd H (by simp)
          ·rw [if_neg c41] at H
           have c41b0 : decide (t332 < a0_1) = false := decide_eq_false c41
           clear c41
           have H' := Aside0.mk H
           clear H
           have p329 : 0 ≤ (x15_1 : Int) := od
           have q329 : x15_1 < (l1.length : Int) := od
           obtain ⟨ad329,e329,hx329_0⟩ := Kd.at_string HR1.out x15_1 p329 q329
           cases e329
           replace hx329_0 := cb HB.out hx329_0
           replace p329 := eq_true p329
           replace q329 := eq_true q329
           go_wp2_with (first | ((with_reducible refine gate_callee (f:=45) rfl ?_); refine goesL_ (some 21) rfl rfl Tryz.func45 (by kernel_rfl) rfl #[.string (rdOf ByteArray.empty l1 x15_1)] rfl mA ?_; (with_reducible refine (impl_readDataKey.calls k1 (rdOf ByteArray.empty l1 x15_1) t330 t331 t332 true _ ?side1 A9.out).mono ?_); (case side1 => exact HV.out.below bA); rintro e w48 ⟨rfl,hb⟩; refine ⟨_,rfl,?_⟩; have n0_ := Aside0.mk (Kd.R_below (rA HO_5.out) hb); have n1_ := Aside0.mk (bb BK325.out hb); have n2_ := Aside0.mk (below_step bA hb); clear HO_5 BK325 HB; have HO_5 := n0_; have BK325 := n1_; have HB := n2_; clear n0_ n1_ n2_; (try clear hb); (try clear hb2); (try clear hk); (try clear hi); obtain ⟨hcz49_0,hcz49_1,hcz49_2,hcz49_3,hcz49_4,hcz49_5,hcz49_6,hcz49_7,hcz49_8,hcz49_9⟩ := cl10 BK325.out; obtain ⟨hfz49_0,hfz49_1,hfz49_2,hfz49_3,hfz49_4,hfz49_5,hfz49_6,hfz49_7,hfz49_8,hfz49_9⟩ := fz10 BK325.out) | (go_at_call 47; (with_reducible refine (impl_State_hasKey.calls a0_0 a0_1 _ _ l0_2 _ _ l0_3 a0_4 a0_5 a0_6 a0_7 a0_8 a0_9 (rdOf ByteArray.empty l1 x15_1) false _ ?side1 ?side2 ?side3 ?side4 ?side5 A11.out).mono ?_); (case side1 => exact HV.out.below bA); (case side2 => exact sC HR0_2.out); (case side3 => exact HC0_2.out); (case side4 => exact sC HR0_3.out); (case side5 => exact HC0_3.out); rintro e w50 ⟨rfl,hb⟩; have n0_ := Aside0.mk (Kd.R_below (rA HO_5.out) hb); have n1_ := Aside0.mk (bb BK325.out hb); have n2_ := Aside0.mk (below_step bA hb); clear HO_5 BK325 HB; have HO_5 := n0_; have BK325 := n1_; have HB := n2_; clear n0_ n1_ n2_; (try clear hb); (try clear hb2); (try clear hk); (try clear hi); obtain ⟨hcz51_0,hcz51_1,hcz51_2,hcz51_3,hcz51_4,hcz51_5,hcz51_6,hcz51_7,hcz51_8,hcz51_9⟩ := cl10 BK325.out; obtain ⟨hfz51_0,hfz51_1,hfz51_2,hfz51_3,hfz51_4,hfz51_5,hfz51_6,hfz51_7,hfz51_8,hfz51_9⟩ := fz10 BK325.out))
           go_roundg k1
           case measure => have := HK1.out; omega
           case rel => exact ⟨(x5_1),(wrap64 (x15_1 + 1)),(by first | rfl | (simp; done) | (simp [*]; done)),H',⟨by have := HK1.out; omega⟩,⟨rA HO_5.out⟩,⟨kA BK325.out⟩,⟨bA⟩⟩
         ·rw [if_neg c40] at H
          have c40b0 : decide (0 < t330) = false := decide_eq_false c40
          clear c40
          have H' := Aside0.mk H
          clear H
          have p329 : 0 ≤ (x15_1 : Int) := od
          have q329 : x15_1 < (l1.length : Int) := od
          obtain ⟨ad329,e329,hx329_0⟩ := Kd.at_string HR1.out x15_1 p329 q329
          cases e329
          replace hx329_0 := cb HB.out hx329_0
          replace p329 := eq_true p329
          replace q329 := eq_true q329
          go_wp2_with (first | ((with_reducible refine gate_callee (f:=45) rfl ?_); refine goesL_ (some 21) rfl rfl Tryz.func45 (by kernel_rfl) rfl #[.string (rdOf ByteArray.empty l1 x15_1)] rfl mA ?_; (with_reducible refine (impl_readDataKey.calls k1 (rdOf ByteArray.empty l1 x15_1) t330 t331 t332 true _ ?side1 A9.out).mono ?_); (case side1 => exact HV.out.below bA); rintro e w52 ⟨rfl,hb⟩; refine ⟨_,rfl,?_⟩; have n0_ := Aside0.mk (Kd.R_below (rA HO_5.out) hb); have n1_ := Aside0.mk (bb BK325.out hb); have n2_ := Aside0.mk (below_step bA hb); clear HO_5 BK325 HB; have HO_5 := n0_; have BK325 := n1_; have HB := n2_; clear n0_ n1_ n2_; (try clear hb); (try clear hb2); (try clear hk); (try clear hi); obtain ⟨hcz53_0,hcz53_1,hcz53_2,hcz53_3,hcz53_4,hcz53_5,hcz53_6,hcz53_7,hcz53_8,hcz53_9⟩ := cl10 BK325.out; obtain ⟨hfz53_0,hfz53_1,hfz53_2,hfz53_3,hfz53_4,hfz53_5,hfz53_6,hfz53_7,hfz53_8,hfz53_9⟩ := fz10 BK325.out) | (go_at_call 47; (with_reducible refine (impl_State_hasKey.calls a0_0 a0_1 _ _ l0_2 _ _ l0_3 a0_4 a0_5 a0_6 a0_7 a0_8 a0_9 (rdOf ByteArray.empty l1 x15_1) false _ ?side1 ?side2 ?side3 ?side4 ?side5 A11.out).mono ?_); (case side1 => exact HV.out.below bA); (case side2 => exact sC HR0_2.out); (case side3 => exact HC0_2.out); (case side4 => exact sC HR0_3.out); (case side5 => exact HC0_3.out); rintro e w54 ⟨rfl,hb⟩; have n0_ := Aside0.mk (Kd.R_below (rA HO_5.out) hb); have n1_ := Aside0.mk (bb BK325.out hb); have n2_ := Aside0.mk (below_step bA hb); clear HO_5 BK325 HB; have HO_5 := n0_; have BK325 := n1_; have HB := n2_; clear n0_ n1_ n2_; (try clear hb); (try clear hb2); (try clear hk); (try clear hi)))
          go_roundg k1
          case measure => have := HK1.out; omega
          case rel => exact ⟨(x5_1),(wrap64 (x15_1 + 1)),(by first | rfl | (simp; done) | (simp [*]; done)),H',⟨by have := HK1.out; omega⟩,⟨rA HO_5.out⟩,⟨kA BK325.out⟩,⟨bA⟩⟩
      ·replace c10 := Bool.eq_false_iff.mpr c10
       subst c10
       rw [if_neg (show ¬ (false = true) by decide)] at H
       have H' := Aside0.mk H
       clear H
       have p329 : 0 ≤ (x15_1 : Int) := od
       have q329 : x15_1 < (l1.length : Int) := od
       obtain ⟨ad329,e329,hx329_0⟩ := Kd.at_string HR1.out x15_1 p329 q329
       cases e329
       replace hx329_0 := cb HB.out hx329_0
       replace p329 := eq_true p329
       replace q329 := eq_true q329
       go_wp2_with (first | ((with_reducible refine gate_callee (f:=45) rfl ?_); refine goesL_ (some 21) rfl rfl Tryz.func45 (by kernel_rfl) rfl #[.string (rdOf ByteArray.empty l1 x15_1)] rfl mA ?_; (with_reducible refine (impl_readDataKey.calls k1 (rdOf ByteArray.empty l1 x15_1) t330 t331 t332 false _ ?side1 A9.out).mono ?_); (case side1 => exact HV.out.below bA); rintro e w55 ⟨rfl,hb⟩; refine ⟨_,rfl,?_⟩; have n0_ := Aside0.mk (Kd.R_below (rA HO_5.out) hb); have n1_ := Aside0.mk (bb BK325.out hb); have n2_ := Aside0.mk (below_step bA hb); clear HO_5 BK325 HB; have HO_5 := n0_; have BK325 := n1_; have HB := n2_; clear n0_ n1_ n2_; (try clear hb); (try clear hb2); (try clear hk); (try clear hi)))
       go_roundg k1
       case measure => have := HK1.out; omega
       case rel => exact ⟨(x5_1),(wrap64 (x15_1 + 1)),(by first | rfl | (simp; done) | (simp [*]; done)),H',⟨by have := HK1.out; omega⟩,⟨rA HO_5.out⟩,⟨kA BK325.out⟩,⟨bA⟩⟩
     ·rw [if_neg c8] at H
      exact absurd H (by simp)
    ·rw [if_neg c7] at H
     exact absurd H (by simp)
   ·rw [if_neg c6] at H
    have c6b0 : decide (x15_1 < (l1.length : Int)) = false := decide_eq_false c6
    clear c6
    obtain rfl := Option.some.inj H
    go_wp2
    go_ret
    exact ⟨_,by first | rfl | (simp only [i64_w,i32_w] <;> rfl) | (simp [errW_none,errW_some] <;> rfl) | (simp [*,errW_none,errW_some] <;> rfl),rA HO_5.out,bA⟩

end Go.Proofs.YtfondhlknkhmmaaGreatDoor.XFnExactOrphansOf
