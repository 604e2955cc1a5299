/- The pure law of FnExactCodeOf: what the printed functions compute answers true for every input of the kinds and sizes that the statement gives. -/
import Derived.Test.YtodmgklagfabaaaPFnExactCodeOfx1
namespace Go.Proofs.Ytodmgklagfabaaa.Pure
open Go.RowKit Go.Proofs.Ytodmgklagfabaaa.PFnExactCodeOf Go.Proofs.YtodmgklagfabaaaW.PrintWords Go.Proofs.YtodmgklagfabaaaW.PrintLast

-- BODY
/-- the words of all codes, as the program lays them -/
def ws : List ByteArray := (impl_codeWords.f).getD []
theorem cw (i : Int) (h0 : 0 ≤ i) (h1 : i ≤ 19) : spec_CodeWord.f i = some (rdOf ByteArray.empty ws i) := by
  have h2 : ¬ i < 0 := by omega
  have h3 : ¬ i ≥ 20 := by omega
  have h4 : i < 20 := by omega
  simp only [spec_CodeWord.f, Option.bind_some]
  rw [if_neg h2, if_neg (by simpa using h3), if_pos h0, if_pos (by simpa using h4)]
  rfl
theorem ws_len : (ws.length : Int) = 20 := rfl
theorem both (t : ByteArray) (d : Nat) : ∀ (k : Nat) (i : Int), 0 ≤ i → i ≤ 20 → 20 - i = d → d < k →
    ∃ r, spec_CodeOf.l0 k t i = some r ∧ slices_Index_string_string.l0 k ws t (ws.length : Int) i = some r := by
  induction d with
  | zero =>
    intro k i h0 h1 hd hk
    obtain ⟨k, rfl⟩ : ∃ m, k = m + 1 := ⟨k - 1, by omega⟩
    obtain rfl : i = 20 := by omega
    exact ⟨-1, by simp only [spec_CodeOf.l0]; rw [if_neg (by omega)], by simp only [slices_Index_string_string.l0]; rw [if_neg (by rw [ws_len]; omega)]⟩
  | succ d ih =>
    intro k i h0 h1 hd hk
    obtain ⟨k, rfl⟩ : ∃ m, k = m + 1 := ⟨k - 1, by omega⟩
    have hw : wrap64 (i + 1) = i + 1 := by unfold wrap64; omega
    obtain ⟨r, ha, hb⟩ := ih k (i + 1) (by omega) (by omega) (by omega) (by omega)
    have hl : i < (ws.length : Int) := by rw [ws_len]; omega
    by_cases he : (rdOf ByteArray.empty ws i).toList = t.toList
    · refine ⟨i, ?_, ?_⟩
      · simp only [spec_CodeOf.l0]; rw [if_pos (by omega), cw i h0 (by omega)]; simp only [Option.bind_some]; rw [if_pos he]
      · simp only [slices_Index_string_string.l0]; rw [if_pos hl, if_pos h0, if_pos hl, if_pos he.symm]
    · refine ⟨r, ?_, ?_⟩
      · simp only [spec_CodeOf.l0]; rw [if_pos (by omega), cw i h0 (by omega)]; simp only [Option.bind_some]; rw [if_neg he, hw]; exact ha
      · simp only [slices_Index_string_string.l0]; rw [if_pos hl, if_pos h0, if_pos hl, if_neg (fun h => he h.symm), hw]; exact hb
theorem FnExactCodeOf : laws_FnExactCodeOf.Pure := by
  intro t _
  refine ⟨21, ?_⟩
  obtain ⟨r, ha, hb⟩ := both t 20 21 0 (by omega) (by omega) (by omega) (by omega)
  have hc : impl_CodeOf.f 21 t = some r := by
    unfold impl_CodeOf.f
    show ((some ws).bind fun t110 => ((slices_Index_string_string.f 21 t110 t).bind fun t113 => some t113)) = some r
    simp only [Option.bind_some, slices_Index_string_string.f]
    rw [hb]; rfl
  unfold laws_FnExactCodeOf.f spec_CodeOf.f
  rw [ha, hc]
  simp

end Go.Proofs.Ytodmgklagfabaaa.Pure
