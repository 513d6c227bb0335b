/- FnExactMultiText: for every input the law returns true, and each argument reads afterwards as it read before; the listed tables of the library start as the program's text lays them (the card ties them). -/
import Derived.Test.YtjnnkmflpbildaaDoorCards
import Derived.Test.YtjnnkmflpbildaaDoorTie
import Derived.Test.YtjnnkmflpbildaaDoorLMultiTexte
import Derived.Test.YtjnnkmflpbildaaDoorQOpen
import Derived.Test.YtjnnkmflpbildaaDoorQSeat
import Derived.ShutString
import Derived.ChangeOld
import Derived.ProofKit
import Derived.LaidMore
import Derived.OpenShut
import Derived.Stop.LaidErr
import Derived.Stop.Joined
import Derived.Lib.LaidTab
import Derived.SevenTiedAt
namespace Go.Proofs.YtjnnkmflpbildaaDoor.PMultiText
open Go.ChangeShapes Go.WideShapes Go.ChangeAt Go.RowKit
open Go.ChangeMaps (open_string shut_string)

theorem own : ownKnob Tryd.prog.godebug = none := by kernel_rfl
theorem laidOut : laidOutB Tryd.prog = true := by kernel_rfl
theorem opens_Int64S : Opens Tryd.prog (eSl eInt) 51 := opens_sl Tryd.underlying51 (by kernel_rfl) (opens_int Tryd.underlying2) (by decide)
theorem opens_MultiRule : Opens Tryd.prog eMultiRule 188 := opens_struct (fs := #[_, _, _, _, _]) Tryd.underlying188 (by kernel_rfl) (opensAt_cons (opens_int Tryd.underlying2) rfl (by kernel_rfl) (by decide) (opensAt_cons opens_Int64S rfl (by kernel_rfl) (by decide) (opensAt_cons opens_Int64S rfl (by kernel_rfl) (by decide) (opensAt_cons opens_Int64S rfl (by kernel_rfl) (by decide) (opensAt_last (opens_int Tryd.underlying2) rfl (by kernel_rfl))))))
theorem opens_MultiRuleS : Opens Tryd.prog (eSl eMultiRule) 85 := opens_sl Tryd.underlying85 (by kernel_rfl) opens_MultiRule (by decide)
theorem opens_Multi : Opens Tryd.prog eMulti 87 := opens_struct (fs := #[_, _, _, _]) Tryd.underlying87 (by kernel_rfl) (opensAt_cons (opens_int Tryd.underlying2) rfl (by kernel_rfl) (by decide) (opensAt_cons (opens_int Tryd.underlying2) rfl (by kernel_rfl) (by decide) (opensAt_cons (opens_int Tryd.underlying2) rfl (by kernel_rfl) (by decide) (opensAt_last opens_MultiRuleS rfl (by kernel_rfl)))))

theorem glob_of {W : World} (h : laidMetH Tryd.prog Rows.fnExactMultiTextRow.laid W) : Glob W := by
  rw [MakeChecks.laidMetH_plain _ _ _ (by kernel_rfl)] at h
  exact Go.Lib.tabIs_of_head globNum (show (Tryd.prog.globals[0]?).map (·.type) = some 226 from by kernel_rfl) Tryd.underlying226 Tryd.underlying212 (by kernel_rfl) (by kernel_rfl) (h.tail.tail)

/-- The heap that the door's own run leaves meets the condition. -/
theorem door_met (os : Os) (args : Array Value) : laidMetH Tryd.prog Rows.fnExactMultiTextRow.laid ((World.doorLaid Tryd.prog 24 os).forCall (fun _ _ => 0) ⟨#[], args, []⟩).memory :=
  laidMetH_of_parts3 (fuel := 8) (laidMet_of_run' 8 (by kernel_rfl) (by kernel_rfl)) (by kernel_rfl) (by kernel_rfl)

set_option maxRecDepth 100000 in
theorem lifted (os : Os) (started : os.Started) (H : Type) (enc : TypeId × Value → H) :
    ReturnsInHanded {} Tryd.checked os 10 .any (fun w args => (Rows.fnExactMultiTextSpec.pre enc Tryd.prog Tryd.f10 [] false w args ∧ laidMetH Tryd.prog Rows.fnExactMultiTextRow.laid w) ∧ sizedMet enc Tryd.prog Tryd.f10 (OpenSpec.ofChange Rows.fnExactMultiTextSpec) false w args)
      (Rows.fnExactMultiTextSpec.post enc Tryd.prog Tryd.f10 false true false false) := by
  refine returnsInHanded_of_change_and (C := Tryd.checked) (X := fun w _ => laidMetH Tryd.prog Rows.fnExactMultiTextRow.laid w) (fun _ _ _ hh h => h.of_heap hh) own started (by kernel_rfl) Tryd.func10
    (ChangeSpec.witness_shaped (enc := enc) (C := Tryd.checked) (os := os) (X := fun w _ => laidMetH Tryd.prog Rows.fnExactMultiTextRow.laid w) false (World.doorLaid Tryd.prog 24 os) #[.agg #[.int .i64 0, .int .i64 0, .int .i64 0, .slice none 0 0]] 8 rfl (World.shaped_of_RefB (by kernel_rfl) (by kernel_rfl)) (by kernel_rfl) (by kernel_rfl) (by kernel_rfl) (door_met os _)) ?_
  intro W base args ds gs before hval0 hW _ _ hL _
  have hval : ∀ (j : Nat) t v, Tryd.f10.params[j]? = some t → args[j]? = some v → Value.okWide Tryd.prog W .any base t v := hval0
  have hW' := hW
  obtain ⟨p, q, hA0, hV, rfl, hfz, hnd⟩ := hW
  have hA : DataW.TrodAll enc Tryd.prog W 0 (fun _ => true) true Tryd.f10.params.toList args.toList ds p := hA0
  rw [Tryd.params10] at hA hval
  obtain ⟨v0, vs0, d0, ds0, p0, q0, hargs, rfl, rfl, h0, r0⟩ := trodAll_cons hA
  obtain ⟨rfl, rfl, rfl⟩ := trodAll_nil r0
  obtain rfl : args = #[v0] := by cases args; simp_all
  obtain ⟨rfl, rfl⟩ := trodVars_none hV
  obtain ⟨es0, rfl, _⟩ := okWide_struct Tryd.underlying87 (hval 0 87 v0 rfl rfl)
  have k0 := h0
  have lt0 : ∀ x ∈ p0, x.block < W.heap.size := by obtain ⟨m, hm⟩ := k0; exact DataW.trod_lt m _ _ _ hm
  obtain ⟨y0, s0⟩ : ∃ y, eMulti.R W (Old W) es0.toList y := by obtain ⟨fuel, hf⟩ := h0; exact opens_Multi _ _ _ _ _ _ _ _ _ hf
  clear hA0 hval0
  simp only [List.append_nil] at hW'
  refine (law_MultiText es0.toList y0 W s0 (glob_of hL)).mono fun e W' ⟨he, bel⟩ => ?_
  subst he
  exact ⟨_, rfl, _, _, _, [], _, [], hW', trodAll_mk1 (shut_bool Tryd.underlying4 _), (trodAll_cons_mk (Below.trod laidOut (by kernel_rfl) (of_decide_eq_true (by kernel_rfl)) k0 bel lt0) trodAll_mk0), rfl, bel.frame _, fun h => by cases h⟩

theorem closed : joinedFacts Tryd.prog 10 Tryd.f10 Rows.fnExactMultiTextSpec Rows.fnExactMultiTextRow = true := by
  unfold joinedFacts
  rw [QSeat.mayEnter, QSeat.liftsFinal, QSeat.made]
  kernel_rfl

theorem over : Rows.fnExactMultiTextRow.holds Tryd.pinned (OpenSpec.ofChange Rows.fnExactMultiTextSpec) :=
  OpenClaim.holds_of_wide 10 Tryd.f10 rfl rfl rfl rfl rfl rfl rfl ⟨rfl, rfl, rfl, rfl, rfl⟩ rfl rfl rfl rfl rfl (by kernel_rfl) Tryd.func10 closed
    (of_decide_eq_true (by kernel_rfl)) (by unfold Func.isWrapper; first | (rw [if_pos (by decide +kernel)]; kernel_rfl) | (rw [if_neg (by decide +kernel)]; exact ⟨rfl, rfl⟩))
    (fun os started H enc _ => lifted os started H enc)

theorem plain (f : FuncId) (fn : Func) (hf : Tryd.pinned.checked.prog.funcNamed "loop.example/g01079/laws.FnExactMultiText" = some f) (hfn : Tryd.pinned.checked.prog.funcs[f]? = some fn) :
    false = Tryd.pinned.checked.prog.looks [] ∧ ∀ (j : Nat) t, fn.params[j]? = some t → Tryd.pinned.checked.prog.wantsStandIn t = false := by
  obtain rfl : f = 10 := Option.some.inj ((show Tryd.prog.funcNamed "loop.example/g01079/laws.FnExactMultiText" = some 10 by kernel_rfl).symm.trans hf) |>.symm
  obtain rfl : fn = Tryd.f10 := (Option.some.inj (Tryd.func10.symm.trans hfn)).symm
  refine ⟨by kernel_rfl, fun j t ht => ?_⟩
  rw [Tryd.params10] at ht
  have hm : t ∈ [87] := by simpa using Array.mem_of_getElem? ht
  have hall : ([87].all fun u => !Tryd.prog.wantsStandIn u) = true := by kernel_rfl
  exact (show Tryd.prog.wantsStandIn t = false by simpa using List.all_eq_true.1 hall t hm)

end Go.Proofs.YtjnnkmflpbildaaDoor.PMultiText
namespace Go.Proofs.YtjnnkmflpbildaaDoor
theorem fnExactMultiText_holds : Rows.FnExactMultiTextCardSaid :=
  Claim7.holds_tied_plain_at .later [] _ _ _ _ PMultiText.over (fun _ h => by cases h) (by kernel_rfl) (fun _ h => by cases h) fnExactMultiText_row_tie rfl ⟨rfl, rfl⟩ (by kernel_rfl) rfl PMultiText.plain (by kernel_rfl)
#print axioms fnExactMultiText_holds
end Go.Proofs.YtjnnkmflpbildaaDoor
