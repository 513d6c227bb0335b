/- FnExactTraceProgram: for every input the law returns true, and each argument reads afterwards as it read before. No conditions. -/
import Derived.Test.YtnokeoejlfodkaaRows
import Derived.Test.YtnokeoejlfodkaaLTraceProgramb
import Derived.Test.YtnokeoejlfodkaaQOpen
import Derived.Test.YtnokeoejlfodkaaQSeat
import Derived.ShutString
import Derived.ChangeOld
namespace Go.Proofs.Ytnokeoejlfodkaa.PTraceProgram
open Go.ChangeShapes Go.WideShapes Go.ChangeAt Go.RowKit
open Go.ChangeMaps (open_string shut_string)

theorem own : ownKnob Try.prog.godebug = none := by kernel_rfl
theorem laidOut : laidOutB Try.prog = true := by kernel_rfl
theorem opens_Instr : Opens Try.prog eInstr 118 := opens_struct (fs := #[_, _, _, _]) Try.underlying118 (by kernel_rfl) (opensAt_cons (opens_int Try.underlying2) rfl (by kernel_rfl) (by decide) (opensAt_cons (opens_int Try.underlying2) rfl (by kernel_rfl) (by decide) (opensAt_cons (opens_int Try.underlying2) rfl (by kernel_rfl) (by decide) (opensAt_last (opens_int Try.underlying2) rfl (by kernel_rfl)))))
theorem opens_InstrS : Opens Try.prog (eSl eInstr) 22 := opens_sl Try.underlying22 (by kernel_rfl) opens_Instr (by decide)
theorem opens_Int64S : Opens Try.prog (eSl eInt) 31 := opens_sl Try.underlying31 (by kernel_rfl) (opens_int Try.underlying2) (by decide)
theorem opens_Store : Opens Try.prog eStore 50 := opens_struct (fs := #[_, _]) Try.underlying50 (by kernel_rfl) (opensAt_cons (opens_int Try.underlying2) rfl (by kernel_rfl) (by decide) (opensAt_last opens_Int64S rfl (by kernel_rfl)))

set_option maxRecDepth 100000 in
theorem lifted (os : Os) (started : os.Started) (H : Type) (enc : TypeId × Value → H) :
    ReturnsInHanded {} Try.checked os 6 .any (Rows.fnExactTraceProgramSpec.pre6 enc Try.prog Try.f6 Rows.fnExactTraceProgramRow.domain false) (Rows.fnExactTraceProgramSpec.post enc Try.prog Try.f6 false true false false) := by
  refine returnsInHanded_of_change (C := Try.checked) own started (by kernel_rfl) Try.func6
    (ChangeSpec.witness6 (enc := enc) (C := Try.checked) false ⟨#[], #[.slice none 0 0, .agg #[.int .i64 0, .slice none 0 0], .int .i64 0], []⟩ 8 (by kernel_rfl) (by kernel_rfl) (by kernel_rfl) (by kernel_rfl)) ?_
  intro W base args ds gs before hval0 hW hcnd _
  have hval : ∀ (j : Nat) t v, Try.f6.params[j]? = some t → args[j]? = some v → Value.okWide Try.prog W .any base t v := hval0
  have hW' := hW
  obtain ⟨p, q, hA0, hV, rfl, hfz, hnd⟩ := hW
  have hA : DataW.TrodAll enc Try.prog W 0 (fun _ => true) true Try.f6.params.toList args.toList ds p := hA0
  rw [Try.params6] at hA hval
  obtain ⟨v0, vs0, d0, ds0, p0, q0, hargs, rfl, rfl, h0, r0⟩ := trodAll_cons hA
  obtain ⟨v1, vs1, d1, ds1, p1, q1, rfl, rfl, rfl, h1, r1⟩ := trodAll_cons r0
  obtain ⟨v2, vs2, d2, ds2, p2, q2, rfl, rfl, rfl, h2, r2⟩ := trodAll_cons r1
  obtain ⟨rfl, rfl, rfl⟩ := trodAll_nil r2
  obtain rfl : args = #[v0, v1, v2] := by cases args; simp_all
  obtain ⟨rfl, rfl⟩ := trodVars_none hV
  obtain ⟨A0, n0, c0, rfl⟩ := okWide_slice Try.underlying22 (hval 0 22 v0 rfl rfl)
  have k0 := h0
  have lt0 : ∀ x ∈ p0, x.block < W.heap.size := by obtain ⟨m, hm⟩ := k0; exact DataW.trod_lt m _ _ _ hm
  obtain ⟨y0, B0, b0, e0, s0⟩ : ∃ y, (eSl eInstr).R W (Old W) [.slice A0 n0 c0] y := by obtain ⟨fuel, hf⟩ := h0; exact opens_InstrS _ _ _ _ _ _ _ _ _ hf
  simp only [List.cons.injEq, and_true, Value.slice.injEq] at e0
  obtain ⟨rfl, rfl, rfl⟩ := e0
  obtain ⟨es1, rfl, _⟩ := okWide_struct Try.underlying50 (hval 1 50 v1 rfl rfl)
  have k1 := h1
  have lt1 : ∀ x ∈ p1, x.block < W.heap.size := by obtain ⟨m, hm⟩ := k1; exact DataW.trod_lt m _ _ _ hm
  obtain ⟨y1, s1⟩ : ∃ y, eStore.R W (Old W) es1.toList y := by obtain ⟨fuel, hf⟩ := h1; exact opens_Store _ _ _ _ _ _ _ _ _ hf
  obtain ⟨a2, rfl, rfl, rfl, wf2⟩ := open_int Try.underlying2 (hval 2 2 v2 rfl rfl) h2
  clear hA0 hval0
  refine (law_TraceProgram _ _ y0 es1.toList y1 a2 W s0 s1 (i64_of_wf wf2)).mono fun e W' ⟨he, bel⟩ => ?_
  subst he
  exact ⟨_, rfl, _, _, _, [], _, [], hW', trodAll_mk1 (shut_bool Try.underlying4 _), (trodAll_cons_mk (Below.trod laidOut (by kernel_rfl) (of_decide_eq_true (by kernel_rfl)) k0 bel lt0) (trodAll_cons_mk (Below.trod laidOut (by kernel_rfl) (of_decide_eq_true (by kernel_rfl)) k1 bel lt1) (trodAll_cons_mk (shut_int Try.underlying2 wf2) trodAll_mk0))), rfl, bel.frame _, fun h => by cases h⟩

theorem closed : joinedFacts Try.prog 6 Try.f6 Rows.fnExactTraceProgramSpec Rows.fnExactTraceProgramRow = true := by
  unfold joinedFacts
  rw [QSeat.mayEnter, QSeat.liftsFinal, QSeat.made]
  kernel_rfl

theorem over : Rows.fnExactTraceProgramRow.holds Try.pinned (OpenSpec.ofChange Rows.fnExactTraceProgramSpec) :=
  OpenClaim.holds_of_wide 6 Try.f6 rfl rfl rfl rfl rfl rfl rfl ⟨rfl, rfl, rfl, rfl, rfl⟩ rfl rfl rfl rfl rfl (by kernel_rfl) Try.func6 closed
    (of_decide_eq_true (by kernel_rfl)) (by unfold Func.isWrapper; first | (rw [if_pos (by decide +kernel)]; kernel_rfl) | (rw [if_neg (by decide +kernel)]; exact ⟨rfl, rfl⟩))
    (fun os started H enc _ => lifted os started H enc)

end Go.Proofs.Ytnokeoejlfodkaa.PTraceProgram
namespace Go.Proofs.Ytnokeoejlfodkaa
theorem fnExactTraceProgram_holds : Rows.FnExactTraceProgramSaid := PTraceProgram.over
#print axioms fnExactTraceProgram_holds
end Go.Proofs.Ytnokeoejlfodkaa
