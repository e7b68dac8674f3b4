/-
  Whatever the three calendars: fastilaw35.CalendarMoved returns true, and its arguments read behind the call as they read before it.
  Conditions: when the call begins, the package variables fasti/days.lengths, fasti/digest.start and fasti/digest.numbers hold what the program's text lays in them (tied to that text).
-/
import Derived.Test.YtlgeaeckpogacaaGreatDoorMvRow
set_option maxRecDepth 100000
namespace Go.Proofs.YtlgeaeckpogacaaGreatDoor.Mv

theorem wf8 : Rows.calendarMovedRow.wfByText (OpenSpec.ofChange Rows.calendarMovedSpec) = true := by kernel_rfl
theorem mainIs8 : Tryz.pinned.checked.prog.mainIs = some (true, "7efef3a7cfa1caf48847c5138001fd99dd596b5057b13c89155fbcd67e009163".toList) := by kernel_rfl
theorem looks8 : true = Tryz.prog.looks [] := by kernel_rfl
theorem stands8 : ([38].all fun u => !Tryz.prog.wantsStandIn u) = true := by kernel_rfl
theorem goes8 : false = Rows.calendarMovedRow.goesBy Tryz.pinned.checked.prog := by kernel_rfl

theorem asks (f : FuncId) (fn : Func) (hf : Tryz.pinned.checked.prog.funcNamed Rows.calendarMovedRow.func = some f) (hfn : Tryz.pinned.checked.prog.funcs[f]? = some fn) :
    true = Tryz.pinned.checked.prog.looks [] ∧ ∀ (j : Nat) t, fn.params[j]? = some t → Tryz.pinned.checked.prog.wantsStandIn t = false := by
  obtain rfl : 8 = f := Option.some.inj (named8.symm.trans hf)
  obtain rfl : fn = Tryz.f8 := (Option.some.inj (Tryz.func8.symm.trans hfn)).symm
  refine ⟨looks8, fun j t ht => ?_⟩
  rw [Tryz.params8] at ht
  have hm : t ∈ [38] := by
    have := Array.mem_of_getElem? ht
    simpa using this
  have := List.all_eq_true.1 stands8 t hm
  exact (show Tryz.prog.wantsStandIn t = false by simpa using this)

theorem card_holds : Rows.CalendarMovedCardSaid :=
  Claim7.holds_tied_plain_at .later [] [.widerDeep, .data, .data] true (true, "7efef3a7cfa1caf48847c5138001fd99dd596b5057b13c89155fbcd67e009163") true
    holds (fun _ h => by cases h) wf8 (fun _ h => by cases h) calendarMoved_row_tie rfl ⟨rfl, rfl⟩ mainIs8 rfl asks goes8

end Go.Proofs.YtlgeaeckpogacaaGreatDoor.Mv
