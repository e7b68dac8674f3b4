/-
  sane() of the Calendar's law, called in whatever world in which the package variables lie as the program lays them: it returns true; nothing that lay there before has turned.
-/
import Derived.Test.YtlgeaeckpogacaaGreatDoorRunC
import Derived.Test.YtlgeaeckpogacaaGreatDoorShelf
import Derived.Test.YtlgeaeckpogacaaGreatDoorRows
namespace DG
open Go Go.RowKit Go.Proofs Go.Proofs.YtlgeaeckpogacaaGreatDoor

theorem gStart : Tryz.prog.globalNamed "fasti/digest.start" = some 0 := by kernel_rfl
theorem gLengths : Tryz.prog.globalNamed "fasti/days.lengths" = some 1 := by kernel_rfl
theorem gNumbers : Tryz.prog.globalNamed "fasti/digest.numbers" = some 2 := by kernel_rfl

def zsOf {H : Type} : DataW H → List Int
  | .agg ds => ds.filterMap fun | .lit (.int _ z) => some z | _ => none
  | _ => []

noncomputable def startZ : List Int := zsOf (Rows.laid_fasti_digest_start (H := Unit))
noncomputable def lengthsZ : List Int := zsOf (Rows.laid_fasti_days_lengths (H := Unit))
noncomputable def numbersZ : List Int := zsOf (Rows.laid_fasti_digest_numbers (H := Unit))

theorem tabs_eq : tabs = [startZ.map fun z => .int .u32 z, lengthsZ.map fun z => .int .i64 z, numbersZ.map fun z => .int .u32 z, [.anyInt .i64]] := by kernel_rfl

theorem extC : ExtOk Tryz.prog envC := by
  intro f e he
  have he' : (bif Nat.beq f 249 then some Ext.contains else none) = some e := he
  obtain ⟨hf, rfl⟩ := cond_some he'
  have hf' : f = 249 := Nat.eq_of_beq_eq_true hf
  subst hf'
  refine ⟨⟨Tryz.f249, Tryz.f249.body.getD .skip, Tryz.func249, rfl, rfl⟩, fun vs v hv μ args w hvs hm => ?_⟩
  obtain ⟨m, hm⟩ := hm
  exact contains_ext hv hvs fun s p hs => Tryz.strings_Contains s p m w hs hm

theorem globC : ∀ g id, envC.glob g = some id → id = g ∧ g < tabs.length := by
  intro g id h
  match g, h with
  | 0, h => cases h; exact ⟨rfl, by decide⟩
  | 1, h => cases h; exact ⟨rfl, by decide⟩
  | 2, h => cases h; exact ⟨rfl, by decide⟩
  | 3, h => cases h; exact ⟨rfl, by decide⟩
  | n + 4, h => exact nomatch h

/-- The package variables lie as the program lays them. -/
structure LaidC (w : World) : Prop where
  start : Lib.TabIs Tryz.prog w "fasti/digest.start" .u32 startZ
  lengths : Lib.TabIs Tryz.prog w "fasti/days.lengths" .i64 lengthsZ
  numbers : Lib.TabIs Tryz.prog w "fasti/digest.numbers" .u32 numbersZ
  maxLen : ∃ m, w.cell? ⟨3, 0, none⟩ = some (.int .i64 m)

theorem sane_calls {w : World} (hl : LaidC w) : Calls Tryz.prog 10 #[] w fun e w' => e = .returned (.bool true) ∧ Below w.heap.size w w' := by
  refine true_calls tabC extC sane_run (fun i cs h => ?_) globC
  rw [tabs_eq] at h
  match i, h with
  | 0, h => cases h; exact lies_ints gStart hl.start
  | 1, h => cases h; exact lies_ints gLengths hl.lengths
  | 2, h => cases h; exact lies_ints gNumbers hl.numbers
  | 3, h => cases h; obtain ⟨m, hm⟩ := hl.maxLen; exact lies_any hm
  | n + 4, h => simp at h

theorem TabIs_below {w w' : World} {name : String} {k : IntKind} {zs : List Int} (hb : Below w.heap.size w w') (h : Lib.TabIs Tryz.prog w name k zs) : Lib.TabIs Tryz.prog w' name k zs := by
  unfold Lib.TabIs World.var? at h ⊢
  cases hg : Tryz.prog.globalNamed name with
  | none => rw [hg] at h; exact nomatch h
  | some g =>
    rw [hg] at h
    simp only [Option.bind_some] at h ⊢
    split at h
    · rename_i cs ty fz hc
      rw [hb.block g (Array.getElem?_eq_some_iff.1 hc).1, hc]
      exact h
    · exact nomatch h

theorem LaidC.below {w w' : World} (h : LaidC w) (hb : Below w.heap.size w w') : LaidC w' := by
  refine ⟨TabIs_below hb h.start, TabIs_below hb h.lengths, TabIs_below hb h.numbers, ?_⟩
  obtain ⟨m, hm⟩ := h.maxLen
  have hlt : 3 < w.heap.size := by
    unfold World.cell? at hm
    split at hm
    · rename_i hc
      exact (Array.getElem?_eq_some_iff.1 hc).1
    · exact nomatch hm
  exact ⟨m, by rw [hb.cell (p := ⟨3, 0, none⟩) hlt]; exact hm⟩

end DG
