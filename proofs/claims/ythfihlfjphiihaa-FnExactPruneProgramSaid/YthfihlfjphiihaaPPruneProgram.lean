/- FnExactPruneProgram: for every input the law returns true, and each argument reads afterwards as it read before. No conditions. -/
import Derived.Test.YthfihlfjphiihaaRows
import Derived.Test.YthfihlfjphiihaaLPrunePrograme
import Derived.Test.YthfihlfjphiihaaQOpen
import Derived.Test.YthfihlfjphiihaaQSeat
import Derived.ShutString
import Derived.ChangeOld
namespace Go.Proofs.Ythfihlfjphiihaa.PPruneProgram
open Go.ChangeShapes Go.WideShapes Go.ChangeAt Go.RowKit
open Go.ChangeMaps (open_string shut_string)

theorem own : ownKnob Try.prog.godebug = none := by kernel_rfl
theorem laidOut : laidOutB Try.prog = true := by kernel_rfl
theorem opens_Instr : Opens Try.prog eInstr 83 := opens_struct (fs := #[_, _, _, _]) Try.underlying83 (by kernel_rfl) (opensAt_cons (opens_int Try.underlying2) rfl (by kernel_rfl) (by decide) (opensAt_cons (opens_int Try.underlying2) rfl (by kernel_rfl) (by decide) (opensAt_cons (opens_int Try.underlying2) rfl (by kernel_rfl) (by decide) (opensAt_last (opens_int Try.underlying2) rfl (by kernel_rfl)))))
theorem opens_InstrS : Opens Try.prog (eSl eInstr) 34 := opens_sl Try.underlying34 (by kernel_rfl) opens_Instr (by decide)

set_option maxRecDepth 100000 in
theorem lifted (os : Os) (started : os.Started) (H : Type) (enc : TypeId × Value → H) :
    ReturnsInHanded {} Try.checked os 4 .any (Rows.fnExactPruneProgramSpec.pre6 enc Try.prog Try.f4 Rows.fnExactPruneProgramRow.domain false) (Rows.fnExactPruneProgramSpec.post enc Try.prog Try.f4 false true false false) := by
  refine returnsInHanded_of_change (C := Try.checked) own started (by kernel_rfl) Try.func4
    (ChangeSpec.witness6 (enc := enc) (C := Try.checked) false ⟨#[], #[.slice none 0 0], []⟩ 8 (by kernel_rfl) (by kernel_rfl) (by kernel_rfl) (by kernel_rfl)) ?_
  intro W base args ds gs before hval0 hW hcnd _
  have hval : ∀ (j : Nat) t v, Try.f4.params[j]? = some t → args[j]? = some v → Value.okWide Try.prog W .any base t v := hval0
  have hW' := hW
  obtain ⟨p, q, hA0, hV, rfl, hfz, hnd⟩ := hW
  have hA : DataW.TrodAll enc Try.prog W 0 (fun _ => true) true Try.f4.params.toList args.toList ds p := hA0
  rw [Try.params4] at hA hval
  obtain ⟨v0, vs0, d0, ds0, p0, q0, hargs, rfl, rfl, h0, r0⟩ := trodAll_cons hA
  obtain ⟨rfl, rfl, rfl⟩ := trodAll_nil r0
  obtain rfl : args = #[v0] := by cases args; simp_all
  obtain ⟨rfl, rfl⟩ := trodVars_none hV
  obtain ⟨A0, n0, c0, rfl⟩ := okWide_slice Try.underlying34 (hval 0 34 v0 rfl rfl)
  have k0 := h0
  have lt0 : ∀ x ∈ p0, x.block < W.heap.size := by obtain ⟨m, hm⟩ := k0; exact DataW.trod_lt m _ _ _ hm
  obtain ⟨y0, B0, b0, e0, s0⟩ : ∃ y, (eSl eInstr).R W (Old W) [.slice A0 n0 c0] y := by obtain ⟨fuel, hf⟩ := h0; exact opens_InstrS _ _ _ _ _ _ _ _ _ hf
  simp only [List.cons.injEq, and_true, Value.slice.injEq] at e0
  obtain ⟨rfl, rfl, rfl⟩ := e0
  clear hA0 hval0
  refine (law_PruneProgram _ _ y0 W s0).mono fun e W' ⟨he, bel⟩ => ?_
  subst he
  exact ⟨_, rfl, _, _, _, [], _, [], hW', trodAll_mk1 (shut_bool Try.underlying4 _), (trodAll_cons_mk (Below.trod laidOut (by kernel_rfl) (of_decide_eq_true (by kernel_rfl)) k0 bel lt0) trodAll_mk0), rfl, bel.frame _, fun h => by cases h⟩

theorem closed : joinedFacts Try.prog 4 Try.f4 Rows.fnExactPruneProgramSpec Rows.fnExactPruneProgramRow = true := by
  unfold joinedFacts
  rw [QSeat.mayEnter, QSeat.liftsFinal, QSeat.made]
  kernel_rfl

theorem over : Rows.fnExactPruneProgramRow.holds Try.pinned (OpenSpec.ofChange Rows.fnExactPruneProgramSpec) :=
  OpenClaim.holds_of_wide 4 Try.f4 rfl rfl rfl rfl rfl rfl rfl ⟨rfl, rfl, rfl, rfl, rfl⟩ rfl rfl rfl rfl rfl (by kernel_rfl) Try.func4 closed
    (of_decide_eq_true (by kernel_rfl)) (by unfold Func.isWrapper; first | (rw [if_pos (by decide +kernel)]; kernel_rfl) | (rw [if_neg (by decide +kernel)]; exact ⟨rfl, rfl⟩))
    (fun os started H enc _ => lifted os started H enc)

end Go.Proofs.Ythfihlfjphiihaa.PPruneProgram
namespace Go.Proofs.Ythfihlfjphiihaa
theorem fnExactPruneProgram_holds : Rows.FnExactPruneProgramSaid := PPruneProgram.over
#print axioms fnExactPruneProgram_holds
end Go.Proofs.Ythfihlfjphiihaa
