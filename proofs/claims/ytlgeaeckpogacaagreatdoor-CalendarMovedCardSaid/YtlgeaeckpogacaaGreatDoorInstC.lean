/-
  The Calendar seat: what the interpreter says of it is true of its program.
-/
import Derived.Test.YtlgeaeckpogacaaGreatDoorTabC
namespace DG
open Go Go.Proofs

theorem eq54 {i : TI} (h : (tyT0.get 54).join = some i) : EqOk Tryz.prog 54 i := by
  have hi : (tyT0.get 54).join = some { k := TK.struct [(0, 3), (1, 3), (2, 3)], size := 3, bytes := 24, zero := [DV.int .i64 0, DV.int .i64 0, DV.int .i64 0], eqc := true } := by kernel_rfl
  rw [hi] at h
  cases h
  refine struct_eq Tryz.eqGuardType54 Tryz.underlying54 Tryz.stoodInHeld54 ?_
  exact .cons rfl (by decide) Tryz.underlying3 (.cons rfl (by decide) Tryz.underlying3 (.cons rfl (by decide) Tryz.underlying3 (.nil _)))

theorem eq49 {i : TI} (h : (tyT0.get 49).join = some i) : EqOk Tryz.prog 49 i := by
  have hi : (tyT0.get 49).join = some { k := TK.array 32 5, size := 32, bytes := 32, zero := List.replicate 32 (DV.int .u8 0), eqc := true } := by kernel_rfl
  rw [hi] at h
  cases h
  exact array_eq (inf := Tryz.t5) (z := DV.int .u8 0) Tryz.eqGuardType49 Tryz.underlying49 (by kernel_rfl) (by kernel_rfl) Tryz.underlying5 rfl

noncomputable def eqcOf (t : Nat) (i : TI) : Bool := match i.eqc with | true => Nat.beq t 54 || Nat.beq t 49 | false => true
theorem eqcAll : treeAll eqcOf 0 1 tyT0 = true := by kernel_rfl

noncomputable def envC : Env := { ty := fun t => (tyT0.get t).join, fn := fun f => (fnT0.get f).join, ext := fun f => bif Nat.beq f 249 then some .contains else none, glob := fun g => match g with | 0 => some 0 | 1 => some 1 | 2 => some 2 | 3 => some 3 | _ => none, maxLen := 3 }

theorem tabC : Tab Tryz.prog envC := by
  refine tab_of (fun t i h => ?_) (fun t i h hc => ?_) (fun f i h => ?_) (by kernel_rfl)
  · have := treeAll_ok tyAll t i h
    simpa using this
  · have h1 := treeAll_ok eqcAll t i h
    simp only [eqcOf, hc, Nat.zero_add, Nat.one_mul, beq_eq, Bool.or_eq_true, decide_eq_true_eq] at h1
    rcases h1 with rfl | rfl
    · exact eq54 h
    · exact eq49 h
  · have := TreeP_ok fnP0 f i h
    simpa using this

end DG
