/- Closed facts of the loaded program's head, in small steps: its words are told from the front. -/
import Derived.Test.YtmfichcgmofpkaaRows
import Derived.ProofKit
namespace Go.Proofs.YtmfichcgmofpkaaO
open Go.Proofs.Ytmfichcgmofpkaa
theorem words_front : ∀ (w r : List Char), (∀ c ∈ w, c ≠ Char.ofNat 32) → wordsSigns (w ++ Char.ofNat 32 :: r) = w :: wordsSigns r
  | [], r, _ => rfl
  | c :: w, r, h => by
    have ih := words_front w r (fun d hd => h d (List.mem_cons_of_mem _ hd))
    have hc : c ≠ Char.ofNat 32 := h c List.mem_cons_self
    show wordsSigns (c :: (w ++ Char.ofNat 32 :: r)) = _
    rw [wordsSigns.eq_3]
    · rw [ih]
    · exact hc
theorem head_text : Try.pinned.checked.prog.initOrder = String.ofList ((([104, 97, 114, 110, 101, 115, 115] : List Nat).map Char.ofNat) ++ Char.ofNat 32 :: ((([56, 50, 54, 48, 97, 97, 57, 54, 49, 55, 48, 57, 97, 97, 97, 48, 50, 52, 54, 56, 101, 102, 99, 52, 56, 99, 101, 48, 102, 100, 52, 48, 98, 51, 48, 100, 101, 99, 48, 48, 101, 101, 55, 48, 102, 55, 50, 55, 100, 99, 97, 97, 55, 50, 57, 102, 49, 49, 55, 48, 55, 53, 55, 51] : List Nat).map Char.ofNat) ++ Char.ofNat 32 :: ((([99, 117, 116] : List Nat).map Char.ofNat) ++ Char.ofNat 32 :: (([97, 116, 32, 108, 111, 111, 112, 46, 101, 120, 97, 109, 112, 108, 101, 47, 103, 48, 48, 54, 48, 49, 47, 108, 97, 119, 115, 46, 70, 110, 69, 120, 97, 99, 116, 78, 101, 119, 70, 108, 101, 101, 116] : List Nat).map Char.ofNat)))) := by kernel_rfl
theorem head_words : ∃ X, wordsSigns Try.pinned.checked.prog.initOrder.toList = (([104, 97, 114, 110, 101, 115, 115] : List Nat).map Char.ofNat) :: (([56, 50, 54, 48, 97, 97, 57, 54, 49, 55, 48, 57, 97, 97, 97, 48, 50, 52, 54, 56, 101, 102, 99, 52, 56, 99, 101, 48, 102, 100, 52, 48, 98, 51, 48, 100, 101, 99, 48, 48, 101, 101, 55, 48, 102, 55, 50, 55, 100, 99, 97, 97, 55, 50, 57, 102, 49, 49, 55, 48, 55, 53, 55, 51] : List Nat).map Char.ofNat) :: (([99, 117, 116] : List Nat).map Char.ofNat) :: X := by
  rw [head_text, String.toList_ofList, words_front _ _ (by decide +kernel), words_front _ _ (by decide +kernel), words_front _ _ (by decide +kernel)]
  exact ⟨_, rfl⟩
theorem bmw (X : List (List Char)) : behindMainWord ((([104, 97, 114, 110, 101, 115, 115] : List Nat).map Char.ofNat) :: (([56, 50, 54, 48, 97, 97, 57, 54, 49, 55, 48, 57, 97, 97, 97, 48, 50, 52, 54, 56, 101, 102, 99, 52, 56, 99, 101, 48, 102, 100, 52, 48, 98, 51, 48, 100, 101, 99, 48, 48, 101, 101, 55, 48, 102, 55, 50, 55, 100, 99, 97, 97, 55, 50, 57, 102, 49, 49, 55, 48, 55, 53, 55, 51] : List Nat).map Char.ofNat) :: (([99, 117, 116] : List Nat).map Char.ofNat) :: X) = (([99, 117, 116] : List Nat).map Char.ofNat) :: X := by kernel_rfl
theorem strip (X : List (List Char)) : stripLifts liftWords ((([99, 117, 116] : List Nat).map Char.ofNat) :: X) = ([], (([99, 117, 116] : List Nat).map Char.ofNat) :: X) := by kernel_rfl
theorem enter_of (P : Program) (X : List (List Char)) (h : behindMainWord (wordsSigns P.initOrder.toList) = (([99, 117, 116] : List Nat).map Char.ofNat) :: X) (e1 : P.laysLater = false) (e2 : P.bearsReflect = false) (e3 : P.doorFits [] = true) : P.mayEnter = true := by
  unfold Program.mayEnter
  rw [h]
  dsimp only
  rw [strip, e1, e2]
  dsimp only
  rw [e3]
  kernel_rfl
theorem lifts_of (P : Program) (X : List (List Char)) (h : behindMainWord (wordsSigns P.initOrder.toList) = (([99, 117, 116] : List Nat).map Char.ofNat) :: X) : P.headLifts = [] := by
  unfold Program.headLifts
  rw [h, strip]
  kernel_rfl
theorem final_of (P : Program) (X : List (List Char)) (h : behindMainWord (wordsSigns P.initOrder.toList) = (([99, 117, 116] : List Nat).map Char.ofNat) :: X) : P.liftsFinal = false := by
  unfold Program.liftsFinal
  rw [h, lifts_of P X h]
  kernel_rfl
theorem make_of (P : Program) (X : List (List Char)) (h : behindMainWord (wordsSigns P.initOrder.toList) = (([99, 117, 116] : List Nat).map Char.ofNat) :: X) : P.make = some .cut := by
  unfold Program.make
  rw [h, lifts_of P X h]
  kernel_rfl
theorem front_ : ∃ X, behindMainWord (wordsSigns Try.pinned.checked.prog.initOrder.toList) = (([99, 117, 116] : List Nat).map Char.ofNat) :: X := by
  obtain ⟨X, h⟩ := head_words
  exact ⟨X, by rw [h, bmw]⟩
theorem lays_ : Try.pinned.checked.prog.laysLater = false := by kernel_rfl
theorem bears_ : Try.pinned.checked.prog.bearsReflect = false := by kernel_rfl
theorem door_ : Try.pinned.checked.prog.doorFits [] = true := by kernel_rfl
theorem mayEnter : Try.pinned.checked.prog.mayEnter = true := by
  obtain ⟨X, h⟩ := front_
  exact enter_of _ X h lays_ bears_ door_
theorem liftsFinal : Try.pinned.checked.prog.liftsFinal = false := by
  obtain ⟨X, h⟩ := front_
  exact final_of _ X h
theorem make_ : Try.pinned.checked.prog.make = some .cut := by
  obtain ⟨X, h⟩ := front_
  exact make_of _ X h
end Go.Proofs.YtmfichcgmofpkaaO
