/- FnExactReadStore: for every input the law returns true, and each argument reads afterwards as it read before; the listed tables of the library start as the program's text lays them (the card ties them). -/
import Derived.Test.YtcfdkckchbdafaaGreatDoorCards
import Derived.Test.YtcfdkckchbdafaaGreatDoorTie
import Derived.Test.YtcfdkckchbdafaaGreatDoorLReadStoree
import Derived.Test.YtcfdkckchbdafaaGreatDoorQOpen
import Derived.Test.YtcfdkckchbdafaaGreatDoorQSeat
import Derived.ShutString
import Derived.ChangeOld
import Derived.ProofKit
import Derived.LaidMore
import Derived.OpenShut
import Derived.Stop.LaidErr
import Derived.Stop.Joined
import Derived.Lib.LaidTab
import Derived.SevenTiedAt
import Derived.Deep.DeepHandedRow
import Derived.Deep.DeepWitnessRowRef
import Derived.Shelf.Vars
import Derived.JoinedCond
import Derived.Lay
namespace Go.Proofs.YtcfdkckchbdafaaGreatDoor.PReadStore
open Go.ChangeShapes Go.WideShapes Go.ChangeAt Go.RowKit
open Go.ChangeMaps (open_string shut_string)

theorem own : ownKnob Tryz.prog.godebug = none := by kernel_rfl
theorem laidOut : laidOutB Tryz.prog = true := by kernel_rfl
theorem opens_Instr : Opens Tryz.prog eInstr 102 := opens_struct (fs := #[_, _, _, _]) Tryz.underlying102 (by kernel_rfl) (opensAt_cons (opens_int Tryz.underlying2) rfl (by kernel_rfl) (by decide) (opensAt_cons (opens_int Tryz.underlying2) rfl (by kernel_rfl) (by decide) (opensAt_cons (opens_int Tryz.underlying2) rfl (by kernel_rfl) (by decide) (opensAt_last (opens_int Tryz.underlying2) rfl (by kernel_rfl)))))
theorem opens_InstrS : Opens Tryz.prog (eSl eInstr) 38 := opens_sl Tryz.underlying38 (by kernel_rfl) opens_Instr (by decide)

theorem glob_of {W : World} (h : laidMetH Tryz.prog Rows.fnExactReadStoreRow.laid W) : Glob W := by
  rw [MakeChecks.laidMetH_plain _ _ _ (by kernel_rfl)] at h
  exact Go.Lib.tabIs_of_head globNum (show (Tryz.prog.globals[3]?).map (·.type) = some 256 from by kernel_rfl) Tryz.underlying256 Tryz.underlying216 (by kernel_rfl) (by kernel_rfl) (h.tail.tail)

theorem starES : "*" ++ "errors.errorString" = "*errors.errorString" := by decide

theorem rowES (u : TypeId) (h : Tryz.prog.typeName? 3 u = some "*errors.errorString") : u = 252 :=
  typeName_ptr_named (nm := "errors.errorString") (by rw [starES]; kernel_rfl) (by kernel_rfl) (by decide) u (by rw [starES]; exact h)

theorem glob2_of {W : World} (h0 : laidMetH Tryz.prog Rows.fnExactReadStoreRow.laid W) (hSh : W.ShapedOpen Tryz.prog) : Glob2 W := by
  have h := h0
  rw [MakeChecks.laidMetH_plain _ _ _ (by kernel_rfl)] at h
  refine ⟨glob_of h0, ⟨?_, ?_⟩, cell_of_shapedOpen_int (zero := #[.int .i64 0]) (t := 3) hSh (of_decide_eq_true (by kernel_rfl)) (by kernel_rfl) rfl (by kernel_rfl) (by kernel_rfl) Tryz.underlying3⟩
  · obtain ⟨a, s, hv, _⟩ := laid_sentinel (h.tail.tail.tail.tail.tail) synNum (by kernel_rfl) Tryz.underlying144 rowES Tryz.underlying252 Tryz.underlying254 rfl rfl Tryz.underlying9 (by kernel_rfl) (by kernel_rfl)
    exact ⟨_, _, hv⟩
  · obtain ⟨a, s, hv, _⟩ := laid_sentinel (h.tail.tail.tail.tail) rngNum (by kernel_rfl) Tryz.underlying144 rowES Tryz.underlying252 Tryz.underlying254 rfl rfl Tryz.underlying9 (by kernel_rfl) (by kernel_rfl)
    exact ⟨_, _, hv⟩

/-- A heap that holds what the row lists. -/
theorem door_met (os : Os) (args : Array Value) : laidMetH Tryz.prog Rows.fnExactReadStoreRow.laid ((World.laidAll Tryz.prog os Rows.fnExactReadStoreRow.laid).forCall (fun _ _ => 0) ⟨#[], args, []⟩).memory := by
  rw [MakeChecks.laidMetH_plain _ _ _ (by kernel_rfl)]; exact laidMet_laidAll _ (by kernel_rfl) (by kernel_rfl)

set_option maxRecDepth 100000 in
theorem reads (os : Os) {H : Type} (enc : TypeId × Value → H) : (DataW.whole enc Tryz.prog ((World.laidAll Tryz.prog os Rows.fnExactReadStoreRow.laid).forCall (fun _ _ => 0) ⟨#[], #[.slice none 0 0, .string ByteArray.empty], []⟩).memory Tryz.f4.params.toList Rows.fnExactReadStoreSpec.vars false (#[.slice none 0 0, .string ByteArray.empty] : Array Value).toList 8).isSome = true := by kernel_rfl

set_option maxRecDepth 100000 in
theorem okB (os : Os) : Input.okWideB Tryz.prog ((World.laidAll Tryz.prog os Rows.fnExactReadStoreRow.laid).forCall (fun _ _ => 0) ⟨#[], #[.slice none 0 0, .string ByteArray.empty], []⟩) 4 ⟨#[], #[.slice none 0 0, .string ByteArray.empty], []⟩ = true := by kernel_rfl

set_option maxRecDepth 100000 in
theorem contract (H : Type) (enc : TypeId × Value → H) (W : World) (base : Nat) (args : Array Value) (ds gs : List (DataW H)) (before : List MemPlace)
    (hval0 : ∀ (j : Nat) t v, Tryz.f4.params[j]? = some t → args[j]? = some v → Value.okWide Tryz.prog W .any base t v)
    (hW : DataW.Whole enc Tryz.prog Tryz.f4.params.toList Rows.fnExactReadStoreSpec.vars false W args.toList ds gs before) (hL : laidMetH Tryz.prog Rows.fnExactReadStoreRow.laid W) (hSh : W.ShapedOpen Tryz.prog) :
    Calls Tryz.prog 4 args W fun e W' => ∃ v, e = .returned v ∧ Rows.fnExactReadStoreSpec.post enc Tryz.prog Tryz.f4 false true false false W args v W' := by
  have hval : ∀ (j : Nat) t v, Tryz.f4.params[j]? = some t → args[j]? = some v → Value.okWide Tryz.prog W .any base t v := hval0
  have hW' := hW
  obtain ⟨p, q, hA0, hV, rfl, hfz, hnd⟩ := hW
  have hA : DataW.TrodAll enc Tryz.prog W 0 (fun _ => true) true Tryz.f4.params.toList args.toList ds p := hA0
  rw [Tryz.params4] at hA hval
  obtain ⟨v0, vs0, d0, ds0, p0, q0, hargs, rfl, rfl, h0, r0⟩ := trodAll_cons hA
  obtain ⟨v1, vs1, d1, ds1, p1, q1, rfl, rfl, rfl, h1, r1⟩ := trodAll_cons r0
  obtain ⟨rfl, rfl, rfl⟩ := trodAll_nil r1
  obtain rfl : args = #[v0, v1] := by cases args; simp_all
  obtain ⟨rfl, rfl⟩ := trodVars_none hV
  obtain ⟨A0, n0, c0, rfl⟩ := okWide_slice Tryz.underlying38 (hval 0 38 v0 rfl rfl)
  have k0 := h0
  have lt0 : ∀ x ∈ p0, x.block < W.heap.size := by obtain ⟨m, hm⟩ := k0; exact DataW.trod_lt m _ _ _ hm
  obtain ⟨y0, B0, b0, e0, s0⟩ : ∃ y, (eSl eInstr).R W (Old W) [.slice A0 n0 c0] y := by obtain ⟨fuel, hf⟩ := h0; exact opens_InstrS _ _ _ _ _ _ _ _ _ hf
  simp only [List.cons.injEq, and_true, Value.slice.injEq] at e0
  obtain ⟨rfl, rfl, rfl⟩ := e0
  obtain ⟨a1, rfl, rfl, rfl, wf1⟩ := open_string Tryz.underlying9 (hval 1 9 v1 rfl rfl) h1
  obtain ⟨b1, rfl⟩ : ∃ l, a1 = bs l := ⟨a1.data.toList, (bs_eta a1).symm⟩
  have hl1 : b1.length ≤ 9223372036854775807 := by have := wf1; rw [bs_size] at this; unfold maxLen at this; omega
  clear hA0 hval0
  simp only [List.append_nil] at hW'
  refine (law_ReadStore _ _ y0 b1 W s0 hl1 (glob2_of hL hSh)).mono fun e W' ⟨he, bel⟩ => ?_
  subst he
  exact ⟨_, rfl, _, _, _, [], _, [], hW', trodAll_mk1 (shut_bool Tryz.underlying4 _), (trodAll_cons_mk (Below.trod laidOut (by kernel_rfl) (of_decide_eq_true (by kernel_rfl)) k0 bel lt0) (trodAll_cons_mk (shut_string Tryz.underlying9 wf1) trodAll_mk0)), rfl, bel.frame _, fun h => by cases h⟩

set_option maxRecDepth 100000 in
theorem lifted (os : Os) (started : os.Started) (H : Type) (enc : TypeId × Value → H) (F : Stop.Interp) :
    ReturnsInHanded {} Tryz.checked os 4 .any ((OpenSpec.ofChange Rows.fnExactReadStoreSpec).preRow enc Tryz.prog Tryz.f4 Rows.fnExactReadStoreRow.domain false Rows.fnExactReadStoreRow.laid) (((OpenSpec.ofChange Rows.fnExactReadStoreSpec).at F).post enc Tryz.prog Tryz.f4 false true false false) := by
  obtain ⟨x, hx⟩ := Option.isSome_iff_exists.1 (reads os enc)
  refine returnsInHanded_of_row (C := Tryz.checked) (s := OpenSpec.ofChange Rows.fnExactReadStoreSpec) own started (by kernel_rfl) Tryz.func4
    ⟨World.laidAll Tryz.prog os Rows.fnExactReadStoreRow.laid, fun _ _ => 0, ⟨#[], #[.slice none 0 0, .string ByteArray.empty], []⟩, World.laidAll_os _ _ _, World.shaped_of_ZipB (by kernel_rfl) (by kernel_rfl), (Input.okWide_of_okWideB (base := 0) (okB os)).1, (Input.okWide_of_okWideB (okB os)).2,
      OpenSpec.preRow_of_cond 8 hx (by kernel_rfl) (fun k hk => by cases hk) (by kernel_rfl) (door_met os _), by
      simp only [Assume.holds]
      exact ⟨by simp, by simp, fun _ => Modest.zero, by simp, by simp⟩⟩ ?_
  intro W base args ds gs before hval hW _ _ _ hL hSh _
  exact contract H enc W base args ds gs before hval hW hL hSh

theorem closed : joinedFacts Tryz.prog 4 Tryz.f4 Rows.fnExactReadStoreSpec Rows.fnExactReadStoreRow = true := by
  unfold joinedFacts
  rw [QSeat.mayEnter, QSeat.liftsFinal, QSeat.made]
  kernel_rfl

set_option maxRecDepth 100000 in
theorem over : Rows.fnExactReadStoreRow.holds Tryz.pinned (OpenSpec.ofChange Rows.fnExactReadStoreSpec) :=
  OpenClaim.holds_of_cond 4 Tryz.f4 rfl rfl rfl rfl rfl rfl rfl ⟨rfl, rfl, rfl, rfl, rfl⟩ rfl rfl rfl rfl rfl (by kernel_rfl) Tryz.func4 closed
    (of_decide_eq_true (by kernel_rfl)) (by unfold Func.isWrapper; first | (rw [if_pos (by decide +kernel)]; kernel_rfl) | (rw [if_neg (by decide +kernel)]; exact ⟨rfl, rfl⟩))
    (fun os started H enc _ F => by rw [OpenClaim.pre_eq_preRow]; exact lifted os started H enc F)

theorem plain (f : FuncId) (fn : Func) (hf : Tryz.pinned.checked.prog.funcNamed "loop.example/g01079/laws.FnExactReadStore" = some f) (hfn : Tryz.pinned.checked.prog.funcs[f]? = some fn) :
    true = Tryz.pinned.checked.prog.looks [] ∧ ∀ (j : Nat) t, fn.params[j]? = some t → Tryz.pinned.checked.prog.wantsStandIn t = false := by
  obtain rfl : f = 4 := Option.some.inj ((show Tryz.prog.funcNamed "loop.example/g01079/laws.FnExactReadStore" = some 4 by kernel_rfl).symm.trans hf) |>.symm
  obtain rfl : fn = Tryz.f4 := (Option.some.inj (Tryz.func4.symm.trans hfn)).symm
  refine ⟨by kernel_rfl, fun j t ht => ?_⟩
  rw [Tryz.params4] at ht
  have hm : t ∈ [38, 9] := by simpa using Array.mem_of_getElem? ht
  have hall : ([38, 9].all fun u => !Tryz.prog.wantsStandIn u) = true := by kernel_rfl
  exact (show Tryz.prog.wantsStandIn t = false by simpa using List.all_eq_true.1 hall t hm)

end Go.Proofs.YtcfdkckchbdafaaGreatDoor.PReadStore
namespace Go.Proofs.YtcfdkckchbdafaaGreatDoor
theorem fnExactReadStore_holds : Rows.FnExactReadStoreCardSaid :=
  Claim7.holds_tied_plain_at .later [] _ _ _ _ PReadStore.over (fun _ h => by cases h) (by kernel_rfl) (fun _ h => by cases h) fnExactReadStore_row_tie rfl ⟨rfl, rfl⟩ (by kernel_rfl) rfl PReadStore.plain (by kernel_rfl)
#print axioms fnExactReadStore_holds
end Go.Proofs.YtcfdkckchbdafaaGreatDoor
