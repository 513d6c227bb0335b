/- Facts on the head of the program's text, which all claims of this seat share. -/
import Derived.Test.YtcfdkckchbdafaaDoorRows
import Derived.JoinedOf
namespace Go.Proofs.YtcfdkckchbdafaaDoor.QSeat
def signsH : List Char := ([104, 97, 114, 110, 101, 115, 115] : List Nat).map Char.ofNat
def signsM : List Char := ([98, 51, 99, 102, 56, 48, 53, 49, 56, 49, 102, 54, 55, 100, 54, 56, 57, 55, 50, 102, 56, 99, 102, 55, 55, 55, 100, 102, 48, 49, 49, 50, 54, 50, 48, 101, 98, 54, 97, 97, 101, 57, 102, 54, 55, 57, 100, 54, 51, 99, 54, 53, 98, 57, 98, 100, 97, 57, 56, 48, 102, 56, 56, 98] : List Nat).map Char.ofNat
def signsC : List Char := ([99, 117, 116] : List Nat).map Char.ofNat
def signsR : List Char := ([97, 116, 32, 108, 111, 111, 112, 46, 101, 120, 97, 109, 112, 108, 101, 47, 103, 48, 49, 48, 55, 57, 47, 108, 97, 119, 115, 46, 70, 110, 69, 120, 97, 99, 116, 82, 101, 97, 100, 67, 121, 99, 108, 105, 99] : List Nat).map Char.ofNat
theorem words_word (r : List Char) : ∀ w : List Char, (∀ c ∈ w, c ≠ Char.ofNat 32) → wordsSigns (w ++ Char.ofNat 32 :: r) = w :: wordsSigns r
  | [], _ => rfl
  | c :: w, h => by
    have ih := words_word r w fun d hd => h d (List.mem_cons_of_mem _ hd)
    have hc := h c List.mem_cons_self
    rw [List.cons_append, wordsSigns, ih]
    exact hc
theorem order : Tryd.prog.initOrder = String.ofList (signsH ++ Char.ofNat 32 :: (signsM ++ Char.ofNat 32 :: (signsC ++ Char.ofNat 32 :: signsR))) := by kernel_rfl
theorem words : behindMainWord (wordsSigns Tryd.prog.initOrder.toList) = signsC :: wordsSigns signsR := by
  rw [order, String.toList_ofList, words_word _ _ (by decide), words_word _ _ (by decide), words_word _ _ (by decide)]
  kernel_rfl
theorem mayEnter : Tryd.prog.mayEnter = true := by
  unfold Program.mayEnter
  rw [words]
  kernel_rfl
theorem headLifts : Tryd.prog.headLifts = [] := by
  unfold Program.headLifts
  rw [words]
  kernel_rfl
theorem liftsFinal : Tryd.prog.liftsFinal = false := by
  unfold Program.liftsFinal
  rw [words, headLifts]
  kernel_rfl
theorem made : Tryd.prog.make = some .cut := by
  unfold Program.make
  rw [words, headLifts]
  kernel_rfl
end Go.Proofs.YtcfdkckchbdafaaDoor.QSeat
