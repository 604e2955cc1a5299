-- Printed by this session's own program wip/tools/xprint.py, which widens the kit's print. Not trusted: Lean checks it.
import Derived.Test.YteiolcfgaklafaaXFnExactSameStatex0
import Derived.ChangeKeysEq
namespace Go.Proofs.Yteiolcfgaklafaa.XFnExactSameState
open Go.RowKit Go.Proofs.YteiolcfgaklafaaW.PrintWords Go.Proofs.YteiolcfgaklafaaW.PrintLast Go.Proofs.YteiolcfgaklafaaW.PrintMore
attribute [local go_sem] max2_int min2_int max_two min_two max_three min_three max_four min_four   -- for this text's walks alone
set_option linter.unusedVariables false
set_option linter.unusedSimpArgs false

theorem eqi_cons {P : Program} {d e c i : Nat} {is : List Nat} {xs ys : Array Value} {a b : Value} {r s : Bool} {w : World} (ha : (part e xs (i * c)).run P w = .ok a w) (hb : (part e ys (i * c)).run P w = .ok b w) (he : (Op.equalIn d e a b).run P w = .ok r w) (hr : (Op.eqItems d e c xs ys is).run P w = .ok s w) : (Op.eqItems d e c xs ys (i :: is)).run P w = .ok (r && s) w := by
  simp only [Op.eqItems, Sem.run_bind, ha, hb, he, Result.andThen_ok]
  cases r
  · simp
  · simpa using hr
set_option maxRecDepth 100000 in
theorem eqA80 (d : Nat) (w : World) (x0 y0 : Int) (x1 y1 : Int) (x2 y2 : Int) :
  (Op.equalIn (d + 2) 80 (.agg #[.int .i64 x0,.int .i64 x1,.int .i64 x2]) (.agg #[.int .i64 y0,.int .i64 y1,.int .i64 y2])).run Try.prog w = .ok (x0 == y0 && (x1 == y1 && (x2 == y2))) w := by
 obtain ⟨i, hi⟩ : ∃ i, Try.prog.info? 3 = some i := Option.isSome_iff_exists.1 (by kernel_rfl)
 have hc : Try.prog.cellsOf 3 = 1 := by kernel_rfl
 rw [run_equalIn_array (P := Try.prog) (w := w) (d := d + 1) (hu := Try.underlying80) (hi := hi), hc, show List.range 3 = [0,1,2] from rfl]
 have e : (x0 == y0 && (x1 == y1 && (x2 == y2))) = (x0 == y0 && (x1 == y1 && (x2 == y2 && true))) := by rw [Bool.and_true]
 rw [e]
 exact eqi_cons (by go_simp; rfl) (by go_simp; rfl) (by go_simp) (eqi_cons (by go_simp; rfl) (by go_simp; rfl) (by go_simp) (eqi_cons (by go_simp; rfl) (by go_simp; rfl) (by go_simp) (by simp [Op.eqItems])))
end Go.Proofs.Yteiolcfgaklafaa.XFnExactSameState
