/- What an argument of a row reads as: for each type whose kind the print tells, whatever reads as data of that type says a value of the kind, of bounded size. -/
import Derived.Test.YtmfichcgmofpkaaWMore
import Derived.ProofKit
import Derived.ShutString
import Derived.OpenShut
import Derived.SizedLaws
import Derived.Deep.Slices
namespace Go.Proofs.YtmfichcgmofpkaaO
open Go.RowKit Go.ChangeShapes Go.WideShapes Go.Proofs.YtmfichcgmofpkaaW.PrintWords

/-- The reader's and the row's own words. -/
def Opn {α : Type} (P : Program) (t : TypeId) (d : Kd α) (ok : α → Prop) : Prop :=
  ∀ (H : Type) (enc : TypeId × Value → H) (W : World) (n : Nat) (cs : List Value) (y : DataW H × List MemPlace),
    DataW.trod enc P W 0 (fun _ => true) true n t cs = some y → (DataW.weights P t y.1).all (· ≤ reachBytes) = true → ∃ x, d.K W x cs ∧ ok x

theorem reach_eq : reachBytes = 140737488351232 := by decide

theorem opn_int {P : Program} {t : TypeId} {k : IntKind} (ht : P.underlying t = some (.int k)) : Opn P t (Kd.int k) (fun n => (Lit.int k n).wf = true) := by
  intro H enc W n cs y h _
  obtain ⟨x, rfl, _, hx⟩ := DataW.trod_int ht h
  exact ⟨x, rfl, hx⟩
theorem opn_bool {P : Program} {t : TypeId} (ht : P.underlying t = some .bool) : Opn P t Kd.bool (fun _ => True) := by
  intro H enc W n cs y h _
  obtain ⟨x, rfl, _⟩ := DataW.trod_bool ht h
  exact ⟨x, rfl, trivial⟩
theorem opn_string {P : Program} {t : TypeId} (ht : P.underlying t = some .string) : Opn P t Kd.string (fun s => s.size ≤ 140737488351232) := by
  intro H enc W n cs y h hw
  obtain ⟨x, rfl, rfl, _⟩ := DataW.trod_string ht h
  refine ⟨x, rfl, ?_⟩
  simp only [DataW.weights, List.all_cons, List.all_nil, Bool.and_true, decide_eq_true_eq] at hw
  rw [Array.length_toList, reach_eq] at hw
  exact hw

theorem all_append_left {l r : List Nat} {p : Nat → Bool} (h : (l ++ r).all p = true) : l.all p = true := by
  rw [List.all_append] at h
  exact (Bool.and_eq_true_iff.1 h).1
theorem all_append_right {l r : List Nat} {p : Nat → Bool} (h : (l ++ r).all p = true) : r.all p = true := by
  rw [List.all_append] at h
  exact (Bool.and_eq_true_iff.1 h).2

/-- Fields in line (their types and places), the first at offset o. -/
def OpnF {α : Type} (P : Program) (o : Nat) (fs : List (TypeId × Nat)) (d : Kd α) (ok : α → Prop) : Prop :=
  ∀ (H : Type) (enc : TypeId × Value → H) (W : World) (n : Nat) (cs : List Value) (xs : List (DataW H × List MemPlace)),
    cs.length = (fs.map fun f => P.cellsOf f.1).sum → xs.length = fs.length →
    (∀ (i : Nat) (f : TypeId × Nat), fs[i]? = some f → DataW.trod enc P W 0 (fun _ => true) true n f.1 ((cs.drop (f.2 - o)).take (P.cellsOf f.1)) = xs[i]?) →
    (DataW.weightsEach P (fs.map (·.1)) (xs.map (·.1))).all (· ≤ reachBytes) = true → ∃ x, d.K W x cs ∧ ok x
theorem opn_one {α : Type} {P : Program} {t : TypeId} {o : Nat} {d : Kd α} {ok : α → Prop} (h : Opn P t d ok) : OpnF P o [(t, o)] d ok := by
  intro H enc W n cs xs hl hx hf hw
  obtain ⟨y, rfl⟩ : ∃ y, xs = [y] := by
    match xs, hx with
    | [y], _ => exact ⟨y, rfl⟩
  have h0 := hf 0 (t, o) rfl
  simp only [List.map_cons, List.map_nil, List.sum_cons, List.sum_nil, Nat.add_zero] at hl
  rw [Nat.sub_self, List.drop_zero, ← hl, List.take_length] at h0
  simp only [List.map_cons, List.map_nil, DataW.weightsEach, List.append_nil] at hw
  exact h H enc W n cs y h0 hw
theorem opn_more {α β : Type} {P : Program} {t : TypeId} {o c o' : Nat} {fs : List (TypeId × Nat)} {d : Kd α} {e : Kd β} {ok : α → Prop} {ok' : β → Prop} (hc : P.cellsOf t = c) (h : Opn P t d ok) (hr : OpnF P o' fs e ok') (ho' : o' = o + c)
    (ho : ∀ g ∈ fs, o' ≤ g.2) : OpnF P o ((t, o) :: fs) (Kd.pair d e) (fun x => ok x.1 ∧ ok' x.2) := by
  subst hc
  subst ho'
  intro H enc W n cs xs hl hx hf hw
  obtain ⟨y, ys, rfl⟩ : ∃ y ys, xs = y :: ys := by
    match xs, hx with
    | y :: ys, _ => exact ⟨y, ys, rfl⟩
  simp only [List.map_cons, List.sum_cons] at hl
  have h0 := hf 0 (t, o) rfl
  rw [Nat.sub_self, List.drop_zero] at h0
  simp only [List.map_cons, DataW.weightsEach] at hw
  obtain ⟨a, ha, oka⟩ := h H enc W n _ y h0 (all_append_left hw)
  obtain ⟨b, hb, okb⟩ := hr H enc W n (cs.drop (P.cellsOf t)) ys (by rw [List.length_drop]; omega) (by simpa using hx) (by
    intro i g hg
    have := hf (i + 1) g (by simpa using hg)
    have hm : o + P.cellsOf t ≤ g.2 := ho g (List.mem_of_getElem? hg)
    rw [List.drop_drop, show P.cellsOf t + (g.2 - (o + P.cellsOf t)) = g.2 - o by omega]
    simpa using this) (all_append_right hw)
  exact ⟨(a, b), ⟨_, _, (List.take_append_drop _ _).symm, ha, hb⟩, oka, okb⟩
theorem opn_struct {α : Type} {P : Program} {t : TypeId} {fs : Array Field} {l : List (TypeId × Nat)} {d : Kd α} {ok : α → Prop} (ht : P.underlying t = some (.struct fs)) (hl : fs.toList.map (fun f => (f.type, f.offset)) = l) (hc : P.cellsOf t = (l.map fun f => P.cellsOf f.1).sum)
    (h : OpnF P 0 l d ok) : Opn P t d ok := by
  subst hl
  intro H enc W n cs y hy hw
  obtain ⟨xs, m, rfl, rfl, hlen, hx, hf⟩ := DataW.trod_struct ht hy
  refine h H enc W m cs xs (hlen.trans hc) (by simpa using hx) (fun i f hi => ?_) ?_
  · rw [List.getElem?_map, Option.map_eq_some_iff] at hi
    obtain ⟨g, hg, rfl⟩ := hi
    have := hf i g (by simpa using hg)
    simpa using this
  · simpa [DataW.weights, ht, Function.comp_def] using hw
theorem opn_array {α : Type} {P : Program} {t e : TypeId} {n : Nat} {l : List (TypeId × Nat)} {d : Kd α} {ok : α → Prop} (ht : P.underlying t = some (.array n e)) (hn : l.length = n) (he : ∀ (i : Nat) (f : TypeId × Nat), l[i]? = some f → f.1 = e ∧ f.2 = i * P.cellsOf e)
    (hc : P.cellsOf t = (l.map fun f => P.cellsOf f.1).sum) (h : OpnF P 0 l d ok) : Opn P t d ok := by
  subst hn
  intro H enc W m0 cs y hy hw
  obtain ⟨xs, m, rfl, rfl, hlen, hx, hf⟩ := DataW.trod_array ht hy
  refine h H enc W m cs xs (hlen.trans hc) hx (fun i f hi => ?_) ?_
  · obtain ⟨e1, e2⟩ := he i f hi
    rw [e1, e2, Nat.sub_zero]
    exact hf i (List.getElem?_eq_some_iff.1 hi).1
  · have hall : ∀ (l : List (TypeId × Nat)) (zs : List (DataW H)), (∀ f ∈ l, f.1 = e) → l.length = zs.length → DataW.weightsEach P (l.map (·.1)) zs = DataW.weightsAll P e zs := by
      intro l
      induction l with
      | nil => intro zs _ hz; cases zs with
        | nil => rfl
        | cons _ _ => simp at hz
      | cons f l ih => intro zs hf hz; cases zs with
        | nil => simp at hz
        | cons z zs => simp only [List.map_cons, DataW.weightsEach, DataW.weightsAll]; rw [hf f (by simp), ih zs (fun g hg => hf g (by simp [hg])) (by simpa using hz)]
    rw [hall l (xs.map (·.1)) (fun f hf => by obtain ⟨i, hi⟩ := List.getElem?_of_mem hf; exact (he i f hi).1) (by rw [List.length_map]; exact hx.symm)]
    simpa [DataW.weights, ht] using hw
theorem opn_iso {α β : Type} {P : Program} {t : TypeId} {d : Kd α} {ok : α → Prop} (h : Opn P t d ok) (f : β → α) (g : α → β) (hg : ∀ a, f (g a) = a) : Opn P t (Kd.iso d f) (fun x => ok (f x)) := by
  intro H enc W n cs y hy hw
  obtain ⟨x, hx, okx⟩ := h H enc W n cs y hy hw
  refine ⟨g x, ?_, ?_⟩
  · show d.K W (f (g x)) cs
    rw [hg]
    exact hx
  · show ok (f (g x))
    rw [hg]
    exact okx
theorem opn_mono {α : Type} {P : Program} {t : TypeId} {d : Kd α} {ok ok' : α → Prop} (h : Opn P t d ok) (hm : ∀ x, ok x → ok' x) : Opn P t d ok' := by
  intro H enc W n cs y hy hw
  obtain ⟨x, hx, okx⟩ := h H enc W n cs y hy hw
  exact ⟨x, hx, hm x okx⟩

theorem weights_all {H : Type} {P : Program} {e : TypeId} {p : Nat → Bool} : ∀ {l : List (DataW H)}, (DataW.weightsAll P e l).all p = true → ∀ x ∈ l, (DataW.weights P e x).all p = true
  | [], _, x, hx => by cases hx
  | d :: r, h, x, hx => by
    simp only [DataW.weightsAll] at h
    rcases List.mem_cons.1 hx with rfl | hx
    · exact all_append_left h
    · exact weights_all (all_append_right h) x hx
theorem choose_list {β : Type} {p : Nat → β → Prop} : ∀ (n : Nat), (∀ i, i < n → ∃ v, p i v) → ∃ l : List β, l.length = n ∧ ∀ i v, l[i]? = some v → p i v
  | 0, _ => ⟨[], rfl, fun i v h => by simp at h⟩
  | n + 1, h => by
    obtain ⟨l, hl, hp⟩ := choose_list n (fun i hi => h i (by omega))
    obtain ⟨v, hv⟩ := h n (by omega)
    refine ⟨l ++ [v], by simp [hl], fun i u hu => ?_⟩
    rcases Nat.lt_or_ge i l.length with hi | hi
    · rw [List.getElem?_append_left hi] at hu
      exact hp i u hu
    · rw [List.getElem?_append_right hi] at hu
      have h0 : i - l.length = 0 := by
        rcases Nat.eq_zero_or_pos (i - l.length) with h0 | h0
        · exact h0
        · rw [List.getElem?_eq_none (by simp; omega)] at hu; cases hu
      rw [h0] at hu
      have e : u = v := by simpa using hu.symm
      have ei : i = n := by omega
      rw [e, ei]
      exact hv
theorem opn_slice {α : Type} {P : Program} {t e : TypeId} {d : Kd α} {ok : α → Prop} {B : Nat} (ht : P.underlying t = some (.slice e)) (hz : d.sz = P.cellsOf e) (hB : P.bytesOf e = B) (h : Opn P e d ok) :
    Opn P t (Kd.slice e d) (fun xs => xs.length ≤ maxLen ∧ xs.length * B ≤ 140737488351232 ∧ ∀ x ∈ xs, ok x) := by
  subst hB
  intro H enc W n cs y hy hw
  rcases Deep.open_slice ht hy with ⟨rfl, rfl⟩ | ⟨a, len, cap, m, n', D, Pl, rfl, _, hl, hm, hmm, rfl, hx⟩
  · exact ⟨[], ⟨none, 0, rfl, by simp, rfl, by simp, fun h => absurd h (by simp)⟩, by simp, by simp, fun x hx => by cases hx⟩
  · have hm' : m = cap := by simpa using hmm
    subst hm'
    simp only [DataW.weights, ht, List.all_cons, Bool.and_eq_true, decide_eq_true_eq, List.length_map, List.length_range] at hw
    obtain ⟨hw1, hw2⟩ := hw
    have hw3 := weights_all (all_append_left hw2)
    obtain ⟨xs, hxl, hxp⟩ := choose_list (p := fun i x => ∃ cs', W.cells? 0 (a.add (i * P.cellsOf e)) (P.cellsOf e) = some cs' ∧ d.K W x cs' ∧ ok x) len (fun i hi => by
      obtain ⟨cs', h1, h2⟩ := hx i (by omega)
      obtain ⟨x, hk, hok⟩ := h H enc W n' cs' _ h2 (hw3 (D i) (by simp only [List.mem_map, List.mem_range]; exact ⟨i, hi, rfl⟩))
      exact ⟨x, cs', h1, hk, hok⟩)
    have hlm : len ≤ 9223372036854775807 := by simp only [maxLen] at hm; omega
    refine ⟨xs, ⟨some a, m, by rw [hxl], by omega, rfl, by omega, fun _ => ⟨a, rfl, fun j p hj => ?_⟩⟩, by omega, ?_, fun x hx' => ?_⟩
    · obtain ⟨cs', h1, hk, _⟩ := hxp j p hj
      obtain ⟨_, hcl, hcell⟩ := World.cells?_some h1
      refine ⟨cs', d.K_len hk, hk, fun i u hu => ?_⟩
      have hi : i < P.cellsOf e := by rw [← hcl]; exact (List.getElem?_eq_some_iff.1 hu).1
      have hc := hcell i hi
      rw [hu] at hc
      rw [hz]
      rw [← hc]
      congr 1
      by_cases hz0 : j * P.cellsOf e = 0
      · simp [hz0, Addr.add]
      · unfold Addr.add
        by_cases hi0 : i = 0
        · subst hi0; simp
        · simp [hz0, hi0, Nat.add_assoc]
    · rw [reach_eq] at hw1
      refine Nat.le_trans (Nat.mul_le_mul_right _ ?_) hw1
      omega
    · obtain ⟨j, hj⟩ := List.getElem?_of_mem hx'
      obtain ⟨_, _, _, hok⟩ := hxp j x hj
      exact hok
/-- An argument: its weight out of the row's. -/
theorem opn_arg {α : Type} {P : Program} {t : TypeId} {d : Kd α} {ok : α → Prop} (h : Opn P t d ok) {H : Type} {enc : TypeId × Value → H} {W : World} {v : Value} {y : DataW H} {p : List MemPlace} {ts : List TypeId} {ds : List (DataW H)} {j : Nat}
    (hsz : (DataW.weightsEach P ts ds).all (· ≤ reachBytes) = true) (hj : ts[j]? = some t) (hd : ds[j]? = some y) (hv : DataW.Trod enc P W 0 (fun _ => true) true t v y p) : ∃ x, d.K W x v.cells.toList ∧ ok x := by
  obtain ⟨n, hn⟩ := hv
  refine h H enc W n _ (y, p) hn (List.all_eq_true.2 fun z hz => ?_)
  exact List.all_eq_true.1 hsz z (DataW.weights_mem_each hj hd z hz)
end Go.Proofs.YtmfichcgmofpkaaO
