/- Facts on the head of the program's text, which all claims of this seat share. -/
import Derived.Test.YtnokeoejlfodkaaRows
import Derived.JoinedOf
namespace Go.Proofs.Ytnokeoejlfodkaa.QSeat
def signsH : List Char := ([104, 97, 114, 110, 101, 115, 115] : List Nat).map Char.ofNat
def signsM : List Char := ([55, 98, 98, 97, 53, 50, 100, 98, 97, 49, 98, 98, 53, 98, 57, 56, 100, 57, 54, 97, 100, 97, 97, 101, 99, 98, 101, 102, 50, 99, 98, 51, 52, 97, 101, 98, 56, 98, 52, 100, 97, 50, 99, 55, 55, 52, 50, 50, 52, 50, 54, 53, 48, 49, 100, 51, 97, 98, 55, 55, 102, 57, 99, 52] : List Nat).map Char.ofNat
def signsC : List Char := ([99, 117, 116] : List Nat).map Char.ofNat
def signsR : List Char := ([97, 116, 32, 108, 111, 111, 112, 46, 101, 120, 97, 109, 112, 108, 101, 47, 103, 48, 49, 48, 55, 57, 47, 108, 97, 119, 115, 46, 70, 110, 69, 120, 97, 99, 116, 74, 111, 105, 110, 80, 114, 111, 103, 114, 97, 109, 115, 32, 108, 111, 111, 112, 46, 101, 120, 97, 109, 112, 108, 101, 47, 103, 48, 49, 48, 55, 57, 47, 108, 97, 119, 115, 46, 70, 110, 69, 120, 97, 99, 116, 80, 114, 117, 110, 101, 80, 114, 111, 103, 114, 97, 109, 32, 108, 111, 111, 112, 46, 101, 120, 97, 109, 112, 108, 101, 47, 103, 48, 49, 48, 55, 57, 47, 108, 97, 119, 115, 46, 70, 110, 69, 120, 97, 99, 116, 79, 118, 101, 114, 108, 97, 112, 115, 79, 102, 32, 108, 111, 111, 112, 46, 101, 120, 97, 109, 112, 108, 101, 47, 103, 48, 49, 48, 55, 57, 47, 108, 97, 119, 115, 46, 70, 110, 69, 120, 97, 99, 116, 84, 114, 97, 99, 101, 80, 114, 111, 103, 114, 97, 109, 32, 108, 111, 111, 112, 46, 101, 120, 97, 109, 112, 108, 101, 47, 103, 48, 49, 48, 55, 57, 47, 108, 97, 119, 115, 46, 70, 110, 69, 120, 97, 99, 116, 80, 111, 119, 101, 114, 115, 83, 101, 101, 110, 32, 108, 111, 111, 112, 46, 101, 120, 97, 109, 112, 108, 101, 47, 103, 48, 49, 48, 55, 57, 47, 108, 97, 119, 115, 46, 70, 110, 69, 120, 97, 99, 116, 86, 97, 108, 105, 100, 77, 117, 108, 116, 105, 67, 111, 110, 102, 105, 103, 32, 108, 111, 111, 112, 46, 101, 120, 97, 109, 112, 108, 101, 47, 103, 48, 49, 48, 55, 57, 47, 108, 97, 119, 115, 46, 70, 110, 69, 120, 97, 99, 116, 72, 97, 108, 116, 105, 110, 103, 82, 101, 97, 100, 115, 32, 108, 111, 111, 112, 46, 101, 120, 97, 109, 112, 108, 101, 47, 103, 48, 49, 48, 55, 57, 47, 108, 97, 119, 115, 46, 70, 110, 69, 120, 97, 99, 116, 83, 116, 97, 114, 116, 77, 117, 108, 116, 105, 32, 108, 111, 111, 112, 46, 101, 120, 97, 109, 112, 108, 101, 47, 103, 48, 49, 48, 55, 57, 47, 108, 97, 119, 115, 46, 70, 110, 69, 120, 97, 99, 116, 82, 101, 103, 105, 115, 116, 101, 114, 115, 79, 102, 32, 108, 111, 111, 112, 46, 101, 120, 97, 109, 112, 108, 101, 47, 103, 48, 49, 48, 55, 57, 47, 108, 97, 119, 115, 46, 70, 110, 69, 120, 97, 99, 116, 77, 97, 112, 82, 101, 103, 105, 115, 116, 101, 114, 115, 32, 108, 111, 111, 112, 46, 101, 120, 97, 109, 112, 108, 101, 47, 103, 48, 49, 48, 55, 57, 47, 108, 97, 119, 115, 46, 70, 110, 69, 120, 97, 99, 116, 70, 114, 97, 99, 116, 105, 111, 110, 80, 114, 105, 109, 101, 115, 32, 108, 111, 111, 112, 46, 101, 120, 97, 109, 112, 108, 101, 47, 103, 48, 49, 48, 55, 57, 47, 108, 97, 119, 115, 46, 70, 110, 69, 120, 97, 99, 116, 80, 97, 108, 105, 110, 100, 114, 111, 109, 101, 77, 117, 108, 116, 105] : List Nat).map Char.ofNat
theorem words_word (r : List Char) : ∀ w : List Char, (∀ c ∈ w, c ≠ Char.ofNat 32) → wordsSigns (w ++ Char.ofNat 32 :: r) = w :: wordsSigns r
  | [], _ => rfl
  | c :: w, h => by
    have ih := words_word r w fun d hd => h d (List.mem_cons_of_mem _ hd)
    have hc := h c List.mem_cons_self
    rw [List.cons_append, wordsSigns, ih]
    exact hc
theorem order : Try.prog.initOrder = String.ofList (signsH ++ Char.ofNat 32 :: (signsM ++ Char.ofNat 32 :: (signsC ++ Char.ofNat 32 :: signsR))) := by kernel_rfl
theorem words : behindMainWord (wordsSigns Try.prog.initOrder.toList) = signsC :: wordsSigns signsR := by
  rw [order, String.toList_ofList, words_word _ _ (by decide), words_word _ _ (by decide), words_word _ _ (by decide)]
  kernel_rfl
theorem mayEnter : Try.prog.mayEnter = true := by
  unfold Program.mayEnter
  rw [words]
  kernel_rfl
theorem headLifts : Try.prog.headLifts = [] := by
  unfold Program.headLifts
  rw [words]
  kernel_rfl
theorem liftsFinal : Try.prog.liftsFinal = false := by
  unfold Program.liftsFinal
  rw [words, headLifts]
  kernel_rfl
theorem made : Try.prog.make = some .cut := by
  unfold Program.make
  rw [words, headLifts]
  kernel_rfl
end Go.Proofs.Ytnokeoejlfodkaa.QSeat
