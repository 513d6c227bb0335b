/- Facts on the head of the program's text, which all claims of this seat share. -/
import Derived.Test.YthknelhboibbnaaRows
import Derived.JoinedOf
namespace Go.Proofs.Ythknelhboibbnaa.QSeat
def signsH : List Char := ([104, 97, 114, 110, 101, 115, 115] : List Nat).map Char.ofNat
def signsM : List Char := ([51, 48, 101, 55, 101, 51, 101, 57, 53, 51, 100, 53, 98, 102, 49, 99, 101, 99, 50, 49, 49, 99, 53, 99, 97, 53, 49, 57, 55, 99, 98, 97, 52, 48, 50, 54, 50, 54, 98, 56, 102, 55, 48, 54, 49, 56, 48, 100, 97, 101, 97, 49, 49, 52, 50, 97, 102, 57, 53, 53, 57, 55, 56, 101] : List Nat).map Char.ofNat
def signsC : List Char := ([99, 117, 116] : List Nat).map Char.ofNat
def signsR : List Char := ([97, 116, 32, 108, 111, 111, 112, 46, 101, 120, 97, 109, 112, 108, 101, 47, 103, 48, 49, 48, 55, 57, 47, 108, 97, 119, 115, 46, 70, 110, 69, 120, 97, 99, 116, 72, 97, 108, 116, 105, 110, 103, 82, 101, 97, 100, 115, 32, 108, 111, 111, 112, 46, 101, 120, 97, 109, 112, 108, 101, 47, 103, 48, 49, 48, 55, 57, 47, 108, 97, 119, 115, 46, 70, 110, 69, 120, 97, 99, 116, 80, 97, 108, 105, 110, 100, 114, 111, 109, 101, 77, 117, 108, 116, 105, 32, 108, 111, 111, 112, 46, 101, 120, 97, 109, 112, 108, 101, 47, 103, 48, 49, 48, 55, 57, 47, 108, 97, 119, 115, 46, 70, 110, 69, 120, 97, 99, 116, 82, 101, 110, 97, 109, 101, 83, 116, 97, 116, 101, 115, 32, 108, 111, 111, 112, 46, 101, 120, 97, 109, 112, 108, 101, 47, 103, 48, 49, 48, 55, 57, 47, 108, 97, 119, 115, 46, 70, 110, 69, 120, 97, 99, 116, 83, 119, 97, 112, 83, 121, 109, 98, 111, 108, 115, 32, 108, 111, 111, 112, 46, 101, 120, 97, 109, 112, 108, 101, 47, 103, 48, 49, 48, 55, 57, 47, 108, 97, 119, 115, 46, 70, 110, 69, 120, 97, 99, 116, 83, 101, 113, 117, 101, 110, 99, 101, 77, 117, 108, 116, 105, 32, 108, 111, 111, 112, 46, 101, 120, 97, 109, 112, 108, 101, 47, 103, 48, 49, 48, 55, 57, 47, 108, 97, 119, 115, 46, 70, 110, 69, 120, 97, 99, 116, 80, 101, 114, 109, 117, 116, 101, 84, 97, 112, 101, 115] : List Nat).map Char.ofNat
theorem words_word (r : List Char) : ∀ w : List Char, (∀ c ∈ w, c ≠ Char.ofNat 32) → wordsSigns (w ++ Char.ofNat 32 :: r) = w :: wordsSigns r
  | [], _ => rfl
  | c :: w, h => by
    have ih := words_word r w fun d hd => h d (List.mem_cons_of_mem _ hd)
    have hc := h c List.mem_cons_self
    rw [List.cons_append, wordsSigns, ih]
    exact hc
theorem order : Try.prog.initOrder = String.ofList (signsH ++ Char.ofNat 32 :: (signsM ++ Char.ofNat 32 :: (signsC ++ Char.ofNat 32 :: signsR))) := by kernel_rfl
theorem words : behindMainWord (wordsSigns Try.prog.initOrder.toList) = signsC :: wordsSigns signsR := by
  rw [order, String.toList_ofList, words_word _ _ (by decide), words_word _ _ (by decide), words_word _ _ (by decide)]
  kernel_rfl
theorem mayEnter : Try.prog.mayEnter = true := by
  unfold Program.mayEnter
  rw [words]
  kernel_rfl
theorem headLifts : Try.prog.headLifts = [] := by
  unfold Program.headLifts
  rw [words]
  kernel_rfl
theorem liftsFinal : Try.prog.liftsFinal = false := by
  unfold Program.liftsFinal
  rw [words, headLifts]
  kernel_rfl
theorem made : Try.prog.make = some .cut := by
  unfold Program.make
  rw [words, headLifts]
  kernel_rfl
end Go.Proofs.Ythknelhboibbnaa.QSeat
