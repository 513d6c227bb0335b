/- Facts on the head of the program's text, which all claims of this seat share. -/
import Derived.Test.YthfihlfjphiihaaGreatDoorRows
import Derived.JoinedOf
namespace Go.Proofs.YthfihlfjphiihaaGreatDoor.QSeat
def signsH : List Char := ([104, 97, 114, 110, 101, 115, 115] : List Nat).map Char.ofNat
def signsM : List Char := ([102, 55, 49, 50, 57, 55, 52, 102, 101, 100, 55, 51, 51, 49, 100, 101, 50, 97, 100, 101, 99, 50, 51, 50, 101, 57, 97, 51, 48, 52, 48, 52, 101, 101, 99, 53, 49, 52, 55, 57, 102, 102, 50, 99, 57, 99, 54, 54, 99, 48, 53, 52, 53, 55, 57, 100, 52, 99, 99, 48, 101, 51, 101, 102] : List Nat).map Char.ofNat
def signsC : List Char := ([99, 117, 116] : List Nat).map Char.ofNat
def signsR : List Char := ([97, 116, 32, 108, 111, 111, 112, 46, 101, 120, 97, 109, 112, 108, 101, 47, 103, 48, 49, 48, 55, 57, 47, 108, 97, 119, 115, 46, 70, 110, 69, 120, 97, 99, 116, 82, 101, 97, 100, 77, 97, 99, 104, 105, 110, 101] : List Nat).map Char.ofNat
theorem words_word (r : List Char) : ∀ w : List Char, (∀ c ∈ w, c ≠ Char.ofNat 32) → wordsSigns (w ++ Char.ofNat 32 :: r) = w :: wordsSigns r
  | [], _ => rfl
  | c :: w, h => by
    have ih := words_word r w fun d hd => h d (List.mem_cons_of_mem _ hd)
    have hc := h c List.mem_cons_self
    rw [List.cons_append, wordsSigns, ih]
    exact hc
theorem order : Tryz.prog.initOrder = String.ofList (signsH ++ Char.ofNat 32 :: (signsM ++ Char.ofNat 32 :: (signsC ++ Char.ofNat 32 :: signsR))) := by kernel_rfl
theorem words : behindMainWord (wordsSigns Tryz.prog.initOrder.toList) = signsC :: wordsSigns signsR := by
  rw [order, String.toList_ofList, words_word _ _ (by decide), words_word _ _ (by decide), words_word _ _ (by decide)]
  kernel_rfl
theorem mayEnter : Tryz.prog.mayEnter = true := by
  unfold Program.mayEnter
  rw [words]
  kernel_rfl
theorem headLifts : Tryz.prog.headLifts = [] := by
  unfold Program.headLifts
  rw [words]
  kernel_rfl
theorem liftsFinal : Tryz.prog.liftsFinal = false := by
  unfold Program.liftsFinal
  rw [words, headLifts]
  kernel_rfl
theorem made : Tryz.prog.make = some .cut := by
  unfold Program.make
  rw [words, headLifts]
  kernel_rfl
end Go.Proofs.YthfihlfjphiihaaGreatDoor.QSeat
