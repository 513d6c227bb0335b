/- Facts on the head of the program's text, which all claims of this seat share. -/
import Derived.Test.YthfihlfjphiihaaRows
import Derived.JoinedOf
namespace Go.Proofs.Ythfihlfjphiihaa.QSeat
def signsH : List Char := ([104, 97, 114, 110, 101, 115, 115] : List Nat).map Char.ofNat
def signsM : List Char := ([48, 98, 98, 97, 99, 50, 101, 101, 53, 48, 97, 98, 55, 52, 55, 53, 50, 51, 100, 99, 57, 55, 97, 98, 97, 57, 50, 101, 99, 48, 56, 102, 54, 98, 49, 101, 100, 56, 99, 53, 102, 53, 56, 99, 57, 51, 48, 50, 49, 99, 99, 48, 51, 55, 52, 56, 102, 53, 48, 98, 101, 98, 48, 57] : List Nat).map Char.ofNat
def signsC : List Char := ([99, 117, 116] : List Nat).map Char.ofNat
def signsR : List Char := ([97, 116, 32, 108, 111, 111, 112, 46, 101, 120, 97, 109, 112, 108, 101, 47, 103, 48, 49, 48, 55, 57, 47, 108, 97, 119, 115, 46, 70, 110, 69, 120, 97, 99, 116, 79, 118, 101, 114, 108, 97, 112, 115, 79, 102, 32, 108, 111, 111, 112, 46, 101, 120, 97, 109, 112, 108, 101, 47, 103, 48, 49, 48, 55, 57, 47, 108, 97, 119, 115, 46, 70, 110, 69, 120, 97, 99, 116, 80, 114, 117, 110, 101, 80, 114, 111, 103, 114, 97, 109, 32, 108, 111, 111, 112, 46, 101, 120, 97, 109, 112, 108, 101, 47, 103, 48, 49, 48, 55, 57, 47, 108, 97, 119, 115, 46, 70, 110, 69, 120, 97, 99, 116, 72, 97, 108, 116, 105, 110, 103, 82, 101, 97, 100, 115, 32, 108, 111, 111, 112, 46, 101, 120, 97, 109, 112, 108, 101, 47, 103, 48, 49, 48, 55, 57, 47, 108, 97, 119, 115, 46, 70, 110, 69, 120, 97, 99, 116, 83, 101, 113, 117, 101, 110, 99, 101, 77, 117, 108, 116, 105] : List Nat).map Char.ofNat
theorem words_word (r : List Char) : ∀ w : List Char, (∀ c ∈ w, c ≠ Char.ofNat 32) → wordsSigns (w ++ Char.ofNat 32 :: r) = w :: wordsSigns r
  | [], _ => rfl
  | c :: w, h => by
    have ih := words_word r w fun d hd => h d (List.mem_cons_of_mem _ hd)
    have hc := h c List.mem_cons_self
    rw [List.cons_append, wordsSigns, ih]
    exact hc
theorem order : Try.prog.initOrder = String.ofList (signsH ++ Char.ofNat 32 :: (signsM ++ Char.ofNat 32 :: (signsC ++ Char.ofNat 32 :: signsR))) := by kernel_rfl
theorem words : behindMainWord (wordsSigns Try.prog.initOrder.toList) = signsC :: wordsSigns signsR := by
  rw [order, String.toList_ofList, words_word _ _ (by decide), words_word _ _ (by decide), words_word _ _ (by decide)]
  kernel_rfl
theorem mayEnter : Try.prog.mayEnter = true := by
  unfold Program.mayEnter
  rw [words]
  kernel_rfl
theorem headLifts : Try.prog.headLifts = [] := by
  unfold Program.headLifts
  rw [words]
  kernel_rfl
theorem liftsFinal : Try.prog.liftsFinal = false := by
  unfold Program.liftsFinal
  rw [words, headLifts]
  kernel_rfl
theorem made : Try.prog.make = some .cut := by
  unfold Program.make
  rw [words, headLifts]
  kernel_rfl
end Go.Proofs.Ythfihlfjphiihaa.QSeat
