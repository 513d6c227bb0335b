/- FnExactOverlapsOf: for every input the law returns true, and each argument reads afterwards as it read before. No conditions. -/
import Derived.Test.YthfihlfjphiihaaRows
import Derived.Test.YthfihlfjphiihaaLOverlapsOff
import Derived.Test.YthfihlfjphiihaaQOpen
import Derived.Test.YthfihlfjphiihaaQSeat
import Derived.ShutString
import Derived.ChangeOld
namespace Go.Proofs.Ythfihlfjphiihaa.POverlapsOf
open Go.ChangeShapes Go.WideShapes Go.ChangeAt Go.RowKit
open Go.ChangeMaps (open_string shut_string)

theorem own : ownKnob Try.prog.godebug = none := by kernel_rfl
theorem laidOut : laidOutB Try.prog = true := by kernel_rfl
theorem opens_Int64S : Opens Try.prog (eSl eInt) 37 := opens_sl Try.underlying37 (by kernel_rfl) (opens_int Try.underlying2) (by decide)
theorem opens_Rewrite : Opens Try.prog eRewrite 67 := opens_struct (fs := #[_, _]) Try.underlying67 (by kernel_rfl) (opensAt_cons opens_Int64S rfl (by kernel_rfl) (by decide) (opensAt_last opens_Int64S rfl (by kernel_rfl)))
theorem opens_RewriteS : Opens Try.prog (eSl eRewrite) 22 := opens_sl Try.underlying22 (by kernel_rfl) opens_Rewrite (by decide)

set_option maxRecDepth 100000 in
theorem lifted (os : Os) (started : os.Started) (H : Type) (enc : TypeId × Value → H) :
    ReturnsInHanded {} Try.checked os 3 .any (Rows.fnExactOverlapsOfSpec.pre6 enc Try.prog Try.f3 Rows.fnExactOverlapsOfRow.domain false) (Rows.fnExactOverlapsOfSpec.post enc Try.prog Try.f3 false true false false) := by
  refine returnsInHanded_of_change (C := Try.checked) own started (by kernel_rfl) Try.func3
    (ChangeSpec.witness6 (enc := enc) (C := Try.checked) false ⟨#[], #[.slice none 0 0], []⟩ 8 (by kernel_rfl) (by kernel_rfl) (by kernel_rfl) (by kernel_rfl)) ?_
  intro W base args ds gs before hval0 hW hcnd _
  have hval : ∀ (j : Nat) t v, Try.f3.params[j]? = some t → args[j]? = some v → Value.okWide Try.prog W .any base t v := hval0
  have hW' := hW
  obtain ⟨p, q, hA0, hV, rfl, hfz, hnd⟩ := hW
  have hA : DataW.TrodAll enc Try.prog W 0 (fun _ => true) true Try.f3.params.toList args.toList ds p := hA0
  rw [Try.params3] at hA hval
  obtain ⟨v0, vs0, d0, ds0, p0, q0, hargs, rfl, rfl, h0, r0⟩ := trodAll_cons hA
  obtain ⟨rfl, rfl, rfl⟩ := trodAll_nil r0
  obtain rfl : args = #[v0] := by cases args; simp_all
  obtain ⟨rfl, rfl⟩ := trodVars_none hV
  obtain ⟨A0, n0, c0, rfl⟩ := okWide_slice Try.underlying22 (hval 0 22 v0 rfl rfl)
  have k0 := h0
  have lt0 : ∀ x ∈ p0, x.block < W.heap.size := by obtain ⟨m, hm⟩ := k0; exact DataW.trod_lt m _ _ _ hm
  obtain ⟨y0, B0, b0, e0, s0⟩ : ∃ y, (eSl eRewrite).R W (Old W) [.slice A0 n0 c0] y := by obtain ⟨fuel, hf⟩ := h0; exact opens_RewriteS _ _ _ _ _ _ _ _ _ hf
  simp only [List.cons.injEq, and_true, Value.slice.injEq] at e0
  obtain ⟨rfl, rfl, rfl⟩ := e0
  clear hA0 hval0
  refine (law_OverlapsOf _ _ y0 W s0).mono fun e W' ⟨he, bel⟩ => ?_
  subst he
  exact ⟨_, rfl, _, _, _, [], _, [], hW', trodAll_mk1 (shut_bool Try.underlying4 _), (trodAll_cons_mk (Below.trod laidOut (by kernel_rfl) (of_decide_eq_true (by kernel_rfl)) k0 bel lt0) trodAll_mk0), rfl, bel.frame _, fun h => by cases h⟩

theorem closed : joinedFacts Try.prog 3 Try.f3 Rows.fnExactOverlapsOfSpec Rows.fnExactOverlapsOfRow = true := by
  unfold joinedFacts
  rw [QSeat.mayEnter, QSeat.liftsFinal, QSeat.made]
  kernel_rfl

theorem over : Rows.fnExactOverlapsOfRow.holds Try.pinned (OpenSpec.ofChange Rows.fnExactOverlapsOfSpec) :=
  OpenClaim.holds_of_wide 3 Try.f3 rfl rfl rfl rfl rfl rfl rfl ⟨rfl, rfl, rfl, rfl, rfl⟩ rfl rfl rfl rfl rfl (by kernel_rfl) Try.func3 closed
    (of_decide_eq_true (by kernel_rfl)) (by unfold Func.isWrapper; first | (rw [if_pos (by decide +kernel)]; kernel_rfl) | (rw [if_neg (by decide +kernel)]; exact ⟨rfl, rfl⟩))
    (fun os started H enc _ => lifted os started H enc)

end Go.Proofs.Ythfihlfjphiihaa.POverlapsOf
namespace Go.Proofs.Ythfihlfjphiihaa
theorem fnExactOverlapsOf_holds : Rows.FnExactOverlapsOfSaid := POverlapsOf.over
#print axioms fnExactOverlapsOf_holds
end Go.Proofs.Ythfihlfjphiihaa
