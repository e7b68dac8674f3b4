/-
  fastilaw35.CalendarMoved returns true whatever its three arguments: the row.
  Conditions: the three listed package variables hold what the row lists.
-/
import Derived.Test.YtlgeaeckpogacaaGreatDoorPureMoved
import Derived.Test.YtlgeaeckpogacaaGreatDoorTie
import Derived.Test.YtlgeaeckpogacaaGreatDoorMvFacts
import Derived.Test.YtlgeaeckpogacaaGreatDoorCards
import Derived.WalkKit
import Derived.ProofKit
import Derived.Lib.SmallJoins
import Derived.Lib.LaidTab
import Derived.Deep.Slices
import Derived.Handy
import Derived.Lay
import Derived.LaidSub
import Derived.SevenTiedAt
set_option linter.unusedVariables false
set_option maxRecDepth 100000
namespace Go.Proofs.YtlgeaeckpogacaaGreatDoor.Mv
open Go.ChangeShapes Go.WideShapes Go.ChangeAt Go.RowKit
open Go.Proofs.YtlgeaeckpogacaaGreatDoorW.PrintWords Go.Proofs.YtlgeaeckpogacaaGreatDoor.MMoved

theorem own : ownKnob Tryz.prog.godebug = none := by kernel_rfl
theorem laidOut : laidOutB Tryz.prog = true := by kernel_rfl
theorem cells54 : Tryz.prog.cellsOf 54 = 3 := by kernel_rfl
theorem cells3 : Tryz.prog.cellsOf 3 = 1 := by kernel_rfl
theorem three {α : Type} {l : List α} (h : l.length = 3) : ∃ a b c, l = [a, b, c] := by
  match l, h with
  | [a, b, c], _ => exact ⟨a, b, c, rfl⟩

instance : Inhabited S54 := ⟨z54⟩

section
variable {H : Type} {enc : TypeId × Value → H}

/-- A fixture that reads as data: its three numbers, in its three cells. -/
theorem open_fixture {W : World} {n : Nat} {cs : List Value} {y : DataW H × List MemPlace} (hcl : cs.length = 3)
    (h : DataW.trod enc Tryz.prog W 0 (fun _ => true) true n 54 cs = some y) :
    ∃ x : S54, cs = [.int .i64 x.f0, .int .i64 x.f1, .int .i64 x.f2] := by
  obtain ⟨ys, n', _, _, _, _, hf⟩ := DataW.trod_struct Tryz.underlying54 h
  obtain ⟨u0, u1, u2, rfl⟩ := three hcl
  have b : ys.length = 3 := by assumption
  obtain ⟨y0, y1, y2, rfl⟩ := three b
  have g0 : DataW.trod enc Tryz.prog W 0 (fun _ => true) true n' 3 (List.take (Tryz.prog.cellsOf 3) [u0, u1, u2]) = some y0 := hf 0 _ rfl
  have g1 : DataW.trod enc Tryz.prog W 0 (fun _ => true) true n' 3 (List.take (Tryz.prog.cellsOf 3) [u1, u2]) = some y1 := hf 1 _ rfl
  have g2 : DataW.trod enc Tryz.prog W 0 (fun _ => true) true n' 3 (List.take (Tryz.prog.cellsOf 3) [u2]) = some y2 := hf 2 _ rfl
  rw [cells3] at g0 g1 g2
  obtain ⟨n0, e0, _, _⟩ := DataW.trod_int Tryz.underlying3 g0
  obtain ⟨n1, e1, _, _⟩ := DataW.trod_int Tryz.underlying3 g1
  obtain ⟨n2, e2, _, _⟩ := DataW.trod_int Tryz.underlying3 g2
  cases e0; cases e1; cases e2
  exact ⟨⟨n0, n1, n2⟩, rfl⟩

/-- A slice of fixtures that reads as data is a row that the walk can read. -/
theorem open_fixtures {W : World} {n : Nat} {v : Value} {y : DataW H × List MemPlace}
    (h : DataW.trod enc Tryz.prog W 0 (fun _ => true) true n 36 [v] = some y) :
    ∃ (A : Option Addr) (c : Nat) (l : List S54), v = .slice A l.length c ∧ l.length ≤ c ∧ Kd.C k54 W A l.length l := by
  rcases Go.Deep.open_slice Tryz.underlying36 h with ⟨hv, _⟩ | ⟨a, len, cap, m, n', D, Pl, hv, _, hl, hm, hmm, _, hi⟩
  · cases hv
    exact ⟨none, 0, [], rfl, Nat.le_refl _, rfl, Nat.zero_le _, fun h => absurd h (Nat.lt_irrefl _)⟩
  · cases hv
    rw [cells54] at hi
    have hm' : m = cap := by simpa using hmm
    obtain ⟨f, hf⟩ := Go.Deep.choose_lt (n := m) (p := fun i (x : S54) => ∀ (j : Nat) (u : Value), [Value.int .i64 x.f0, .int .i64 x.f1, .int .i64 x.f2][j]? = some u → W.cell? (a.add (i * 3 + j)) = some u) (fun i hlt => by
      obtain ⟨cs, hc, ht⟩ := hi i hlt
      obtain ⟨_, hcl, hat⟩ := World.cells?_some hc
      obtain ⟨x, rfl⟩ := open_fixture hcl ht
      refine ⟨x, fun j u hu => ?_⟩
      have hj : j < 3 := (List.getElem?_eq_some_iff.1 hu).1
      rw [← Go.Deep.add_add, hat j hj, hu])
    have hll : ((List.range len).map f).length = len := by simp
    refine ⟨some a, cap, (List.range len).map f, by rw [hll], by rw [hll]; exact hl, rfl, ?_, fun _ => ⟨a, rfl, fun j p hj => ?_⟩⟩
    · rw [hll]
      have : cap ≤ 2 ^ 63 - 1 := hm
      omega
    · have hjl : j < len := by
        have := (List.getElem?_eq_some_iff.1 hj).1
        simpa using this
      have hp : p = f j := by
        rw [List.getElem?_map, List.getElem?_range hjl] at hj
        exact (Option.some.inj hj).symm
      subst hp
      exact ⟨_, rfl, k54_mk W (f j), hf j (by omega)⟩

/-- A calendar that reads as data. -/
theorem open_calendar {W : World} {base : Nat} {v : Value} {d : DataW H} {p : List MemPlace} (hv : Value.okWide Tryz.prog W .any base 38 v)
    (h : DataW.Trod enc Tryz.prog W 0 (fun _ => true) true 38 v d p) :
    ∃ (a : Int) (A : Option Addr) (c : Nat) (l : List S54), v = .agg #[.int .i64 a, .slice A l.length c] ∧ l.length ≤ c ∧ Kd.C k54 W A l.length l := by
  obtain ⟨v0, v1, y0, y1, n, rfl, _, _, h0, h1⟩ := Go.Joins.open_agg2 Tryz.underlying38 (by kernel_rfl) (by kernel_rfl) hv h
  obtain ⟨a, e0, _, _⟩ := DataW.trod_int Tryz.underlying3 h0
  cases e0
  obtain ⟨A, c, l, rfl, hl, hC⟩ := open_fixtures h1
  exact ⟨a, A, c, l, rfl, hl, hC⟩
end

theorem ty0 : (Tryz.prog.globals[0]?).map (·.type) = some 179 := by kernel_rfl
theorem ty1 : (Tryz.prog.globals[1]?).map (·.type) = some 228 := by kernel_rfl
theorem ty2 : (Tryz.prog.globals[2]?).map (·.type) = some 256 := by kernel_rfl

noncomputable def laidOf : List (String × DataW Unit) := Rows.calendarMovedRow.laid

theorem pick {W : World} (h : laidMet Tryz.prog laidOf W) (name : String) (d : DataW Unit) (hp : (laidOf.filter fun x => x.1 == name) = [(name, d)]) : laidMet Tryz.prog [(name, d)] W := by
  rw [← hp]
  exact h.filter _

/-- What the row's condition gives the walk. -/
theorem laidC {W : World} (h : laidMetH Tryz.prog laidOf W) (hs : W.ShapedOpen Tryz.prog) : DG.LaidC W := by
  rw [MakeChecks.laidMetH_plain _ _ _ (by kernel_rfl)] at h
  have m := Tryz.laysM144.s1_3 W hs
  refine ⟨?_, ?_, ?_, m⟩
  · exact Lib.tabIs_of_head (rest := []) DG.gStart ty0 Tryz.underlying179 (by kernel_rfl) (by kernel_rfl) (by kernel_rfl) (pick h "fasti/digest.start" (Lib.tabData .u32 DG.startZ) (by kernel_rfl))
  · exact Lib.tabIs_of_head (rest := []) DG.gLengths ty1 Tryz.underlying228 (by kernel_rfl) (by kernel_rfl) (by kernel_rfl) (pick h "fasti/days.lengths" (Lib.tabData .i64 DG.lengthsZ) (by kernel_rfl))
  · exact Lib.tabIs_of_head (rest := []) DG.gNumbers ty2 Tryz.underlying256 (by kernel_rfl) (by kernel_rfl) (by kernel_rfl) (pick h "fasti/digest.numbers" (Lib.tabData .u32 DG.numbersZ) (by kernel_rfl))

/-- From the row's condition to the walk: the call's contract is given the world's shape too. -/
theorem handed {H : Type} {enc : TypeId × Value → H} {a : Assume} {C : Checked} {os : Os} {f : FuncId} {fn : Func} {s : ChangeSpec} {conds : List PathCond} {apart fresh handsOn again : Bool} {X : World → Prop}
    (hX : ∀ w w' : World, w.heap = w'.heap → X w → X w')
    (own : ownKnob C.prog.godebug = none) (started : os.Started) (noInit : C.prog.inits.idxOf? f = none) (hfn : C.prog.funcs[f]? = some fn)
    (witness : ∃ (w : World) (tape : Tape) (i : Input), w.os = os ∧ (w.forCall tape i).Shaped C.prog ∧ i.vars = [] ∧ Input.okWide C.prog (w.forCall tape i) .any w.heap.size f i ∧
      ((s.pre enc C.prog fn conds apart (w.forCall tape i).memory i.args ∧ X (w.forCall tape i).memory) ∧ sizedMet enc C.prog fn (OpenSpec.ofChange s) apart (w.forCall tape i).memory i.args) ∧ a.holds C.prog (lone (Frame.enter C.prog f i.args .normal) [] (w.forCall tape i)))
    (contract : ∀ (W : World) (base : Nat) (args : Array Value) (ds gs : List (DataW H)) (before : List MemPlace),
      (∀ (j : Nat) t v, fn.params[j]? = some t → args[j]? = some v → Value.okWide C.prog W .any base t v) →
      DataW.Whole enc C.prog fn.params.toList s.vars apart W args.toList ds gs before → X W → W.ShapedOpen C.prog →
      Calls C.prog f args W fun e W' => ∃ v, e = .returned v ∧ s.post enc C.prog fn apart fresh handsOn again W args v W') :
    ReturnsInHanded a C os f .any (fun w args => (s.pre enc C.prog fn conds apart w args ∧ X w) ∧ sizedMet enc C.prog fn (OpenSpec.ofChange s) apart w args) (s.post enc C.prog fn apart fresh handsOn again) := by
  refine returnsInHanded_of_calls own started noInit witness ?_
  intro w tape i _ hsh _ hok hpre _
  obtain ⟨_, _, _, fn', hfn', _, _, _, _, hval⟩ := hok
  obtain rfl : fn' = fn := Option.some.inj (hfn'.symm.trans hfn)
  obtain ⟨⟨⟨ds, gs, before, hw, _⟩, hx⟩, _⟩ := hpre
  refine (contract (w.forCall tape i) w.heap.size i.args ds gs before hval (DataW.Whole.of_heap (w' := w.forCall tape i) (by rfl) hw) (hX _ _ (by rfl) hx) hsh).mono fun e W' h => ?_
  obtain ⟨v, rfl, hp⟩ := h
  exact ChangeSpec.post_blind hp

theorem lifted (os : Os) (started : os.Started) (H : Type) (enc : TypeId × Value → H) :
    ReturnsInHanded {} Tryz.checked os 8 .any (fun w args => (Rows.calendarMovedSpec.pre enc Tryz.prog Tryz.f8 [] false w args ∧ laidMetH Tryz.prog laidOf w) ∧ sizedMet enc Tryz.prog Tryz.f8 (OpenSpec.ofChange Rows.calendarMovedSpec) false w args)
      (Rows.calendarMovedSpec.post enc Tryz.prog Tryz.f8 false true false false) := by
  refine handed (C := Tryz.checked) (X := fun w => laidMetH Tryz.prog laidOf w) (fun _ _ hh h => h.of_heap hh) own started (by kernel_rfl) Tryz.func8
    (ChangeSpec.witness_shaped (enc := enc) (C := Tryz.checked) (os := os) (X := fun w _ => laidMetH Tryz.prog laidOf w) false (World.laidAll Tryz.prog os laidOf) #[.agg #[.int .i64 0, .slice none 0 0], .agg #[.int .i64 0, .slice none 0 0], .agg #[.int .i64 0, .slice none 0 0]] 8 (World.laidAll_os _ _ _)
      (World.shaped_of_ZipB (by kernel_rfl) (by kernel_rfl)) (by kernel_rfl) (by kernel_rfl) (by kernel_rfl)
      (by rw [MakeChecks.laidMetH_plain _ _ _ (by kernel_rfl)]; exact laidMet_laidAll _ (by kernel_rfl) (by kernel_rfl))) ?_
  intro W base args ds gs before hval0 hW hX hsh
  have hval : ∀ (j : Nat) t v, Tryz.f8.params[j]? = some t → args[j]? = some v → Value.okWide Tryz.prog W .any base t v := hval0
  have hW' := hW
  obtain ⟨p, q, hA0, hV, rfl, hfz, hnd⟩ := hW
  have hA : DataW.TrodAll enc Tryz.prog W 0 (fun _ => true) true Tryz.f8.params.toList args.toList ds p := hA0
  rw [Tryz.params8] at hA hval
  obtain ⟨v0, v1, v2, d0, d1, d2, p0, p1, p2, rfl, rfl, rfl, h0, h1, h2⟩ := trodAll_three hA
  obtain ⟨rfl, rfl⟩ := trodVars_none hV
  have lt : ∀ {v d p}, DataW.Trod enc Tryz.prog W 0 (fun _ => true) true 38 v d p → ∀ x ∈ p, x.block < W.heap.size := fun h => by
    obtain ⟨m, hm⟩ := h
    exact DataW.trod_lt m _ _ _ hm
  obtain ⟨a0, A0, c0, l0, e0, hl0, hC0⟩ := open_calendar (hval 0 38 v0 rfl rfl) h0
  obtain ⟨a1, A1, c1, l1, e1, hl1, hC1⟩ := open_calendar (hval 1 38 v1 rfl rfl) h1
  obtain ⟨a2, A2, c2, l2, e2, hl2, hC2⟩ := open_calendar (hval 2 38 v2 rfl rfl) h2
  clear hA0 hval0
  have wk := MMoved.fastilaw35_CalendarMoved.calls 4000 a0 A0 c0 l0 a1 A1 c1 l1 a2 A2 c2 l2 true W hC0 hl0 hC1 hl1 hC2 hl2 (MMoved.law_true a0 a1 a2 l0 l1 l2) (laidC hX hsh)
  rw [← e0, ← e1, ← e2] at wk
  refine wk.mono fun e W' h => ?_
  obtain ⟨rfl, bel⟩ := h
  have back : ∀ {v d p}, DataW.Trod enc Tryz.prog W 0 (fun _ => true) true 38 v d p → DataW.Trod enc Tryz.prog W' 0 (fun b => decide (b < W.heap.size)) true 38 v d p := fun h =>
    Below.trod laidOut (by kernel_rfl) (of_decide_eq_true (by kernel_rfl)) h bel (lt h)
  exact ⟨_, rfl, _, _, _, [], _, [], hW', trodAll_mk1 (shut_bool Tryz.underlying4 _), trodAll_mk3 (back h0) (back h1) (back h2), rfl, bel.frame _, fun h => by cases h⟩

theorem named8 : Tryz.pinned.checked.prog.funcNamed Rows.calendarMovedRow.func = some 8 := by kernel_rfl

theorem holds : Rows.CalendarMovedSaid :=
  OpenClaim.holds_of_wide 8 Tryz.f8 rfl rfl rfl rfl rfl rfl rfl ⟨rfl, rfl, rfl, rfl, rfl⟩ rfl rfl rfl rfl rfl named8 Tryz.func8 MvF.closed
    (of_decide_eq_true (by kernel_rfl)) (by unfold Func.isWrapper; first | (rw [if_pos (by decide +kernel)]; kernel_rfl) | (rw [if_neg (by decide +kernel)]; exact ⟨rfl, rfl⟩))
    (fun os started H enc _ => lifted os started H enc)

end Go.Proofs.YtlgeaeckpogacaaGreatDoor.Mv
