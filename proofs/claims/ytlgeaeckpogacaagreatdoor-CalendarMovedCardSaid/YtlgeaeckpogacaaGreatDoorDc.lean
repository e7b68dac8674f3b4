/-
  Code, calls, deferred calls and ranges over functions are carried out as the interpreter says.
-/
import Derived.Test.YtlgeaeckpogacaaGreatDoorDb
import Derived.RangeFuncLeaves
import Derived.RecoverIn
import Derived.OrdersIn

set_option linter.unusedVariables false
set_option linter.unusedSimpArgs false

/-
  How calls end, what is deferred, and one operation inside code.
-/
namespace DG
open Go Go.RowKit

variable {P : Program} {E : Env}

def entryOf (x : Value) : PanicEntry := { v := x, recovered := false }

/-- How a call ends. -/
def EndRel (μ : Loc) : End → Ending → Prop
  | .ret v, e => ∃ x, e = .returned x ∧ V μ v x
  | .panic v, e => ∃ x, e = .panicked [entryOf x] ∧ V μ v x

def OutRel (μ : Loc) : Out → Exit → Prop
  | .norm, e => e = .normal
  | .exit id, e => e = .exit id
  | .ret, e => e = .ret
  | .panic v, e => ∃ x, e = .panic [entryOf x] ∧ V μ v x

theorem H.some {μ : Loc} {h : Heap} {w : World} (hh : H μ h w) {i : Nat} {p : Place} (hp : μ i = some p) : ∃ s, hrow h i = some s := by
  have hi := lt_of_some hh.out hp
  rw [hrow_eq, if_pos hi]
  have : h.n - 1 - i < h.l.length := by rw [hh.len]; omega
  exact ⟨_, List.getElem?_eq_getElem this⟩

/-- Where a block of deferred calls lies, no object lies. -/
theorem H.free {μ : Loc} {h : Heap} {w : World} (hh : H μ h w) {r : Nat} {x : Option (List Deferred)} (hr : w.heap[r]? = Option.some (.deferred x)) {i : Nat} {p : Place} (hp : μ i = Option.some p) : p.b ≠ r := by
  obtain ⟨s, hs⟩ := hh.some hp
  have ho := hh.obj i s hs p hp
  intro e
  cases hso : s.o with
  | cells cs ver ro => rw [hso] at ho; obtain ⟨_, _, _, h1, _⟩ := ho; rw [e, hr] at h1; exact nomatch h1
  | map es => rw [hso] at ho; obtain ⟨_, _, h1, _⟩ := ho; rw [e, hr] at h1; exact nomatch h1
  | iter m => rw [hso] at ho; obtain ⟨_, _, _, _, h1, _⟩ := ho; rw [e, hr] at h1; exact nomatch h1
  | loop st pend fn ts ps a b nt => rw [hso] at ho; obtain ⟨_, _, _, h1, _⟩ := ho; rw [e, hr] at h1; exact nomatch h1

/-- Blocks where no object lies may turn. -/
theorem H.other {μ : Loc} {h : Heap} {w w' : World} (hh : H μ h w) (hs : w.heap.size ≤ w'.heap.size) (hb : ∀ i p, μ i = Option.some p → w'.heap[p.b]? = w.heap[p.b]?) : H μ h w' :=
  ⟨hh.len, fun id s hs p hp => ObjRel.step hh.out (Grow.refl h.n μ) (hb id p hp) (hh.obj id s hs p hp), hh.bound, hh.refs, hh.out, hh.inj, fun i p hp => Nat.lt_of_lt_of_le (hh.lt i p hp) hs⟩

/-- The deferred calls; the marks of ranges over functions stand between, their blocks empty. -/
def DR (μ : Loc) (w : World) (base : Nat → Prop) : List (DV × List DV) → List Deferred → Prop
  | ds, [] => ds = []
  | ds, d :: dd =>
    (∃ r, d = { target := .collected r, args := #[] } ∧ base r ∧ r < w.heap.size ∧ w.heap[r]? = some (.deferred (some [])) ∧ (∀ d' ∈ dd, d'.target ≠ .collected r) ∧ DR μ w base ds dd) ∨
    (∃ g first cap vs ds' fs cs as, ds = (.func (.func g) first cap, vs) :: ds' ∧ d = { target := .fn (.func g) cs, args := fs ++ as } ∧ Vs μ first fs.toList ∧ Vs μ cap cs.toList ∧ Vs μ vs as.toList ∧ DR μ w base ds' dd)

theorem DR.step {μ μ' : Loc} {h : Heap} {w w' : World} {base : Nat → Prop} (hh : H μ h w) (st : Step h.n μ w μ' w') : ∀ {dd : List Deferred} {ds : List (DV × List DV)}, DR μ w base ds dd → DR μ' w' base ds dd
  | [], ds, hd => hd
  | d :: dd, ds, hd => by
    rcases hd with ⟨r, h1, h2, h3, h4, h5, h6⟩ | ⟨g, first, cap, vs, ds', fs, cs, as, h1, h2, h3, h4, h5, h6⟩
    · refine .inl ⟨r, h1, h2, Nat.lt_of_lt_of_le h3 st.size, ?_, h5, DR.step hh st h6⟩
      rw [st.block r h3 fun ⟨i, p, hp, e, _⟩ => hh.free h4 hp e]
      exact h4
    · exact .inr ⟨g, first, cap, vs, ds', fs, cs, as, h1, h2, Vs.step hh.out st.grow h3, Vs.step hh.out st.grow h4, Vs.step hh.out st.grow h5, DR.step hh st h6⟩

/-- A world that turns where no object lies and no block of deferred calls. -/
theorem DR.keep {μ μ' : Loc} {w w' : World} {base : Nat → Prop} (hsz : w.heap.size ≤ w'.heap.size) (hv : ∀ xs l, Vs μ xs l → Vs μ' xs l) : ∀ {dd : List Deferred} {ds : List (DV × List DV)},
    (∀ d ∈ dd, ∀ r, d.target = .collected r → w'.heap[r]? = w.heap[r]?) → DR μ w base ds dd → DR μ' w' base ds dd
  | [], ds, _, hd => hd
  | d :: dd, ds, hb, hd => by
    rcases hd with ⟨r, h1, h2, h3, h4, h5, h6⟩ | ⟨g, first, cap, vs, ds', fs, cs, as, h1, h2, h3, h4, h5, h6⟩
    · exact .inl ⟨r, h1, h2, Nat.lt_of_lt_of_le h3 hsz, (hb d (List.mem_cons_self ..) r (by rw [h1])).trans h4, h5, DR.keep hsz hv (fun d' hd' => hb d' (List.mem_cons_of_mem _ hd')) h6⟩
    · exact .inr ⟨g, first, cap, vs, ds', fs, cs, as, h1, h2, hv _ _ h3, hv _ _ h4, hv _ _ h5, DR.keep hsz hv (fun d' hd' => hb d' (List.mem_cons_of_mem _ hd')) h6⟩

theorem DR.nil {μ : Loc} {w : World} {base : Nat → Prop} {ds : List (DV × List DV)} : DR μ w base ds [] ↔ ds = [] := Iff.rfl

/-- A fence that lets all in. -/
structure WideF (F : Fence) : Prop where
  fn : ∀ f, F.fn f
  depth : F.depth = none
  alive : F.alive = false

theorem wideF_wide : WideF Fence.wide := ⟨fun _ => trivial, rfl, rfl⟩
theorem wideF_round (l : Nat) : WideF (Fence.wide.inRound l) := ⟨fun _ => trivial, rfl, rfl⟩

theorem WideF.fenced {F : Fence} (hW : WideF F) (m : Machine) : m.fenced P F := by
  intro g _
  refine ⟨fun h => ?_, Or.inl (hW.fn _), fun f _ => hW.fn f, fun d h => ?_⟩
  · rw [hW.alive] at h; exact nomatch h
  · rw [hW.depth] at h; exact nomatch h

theorem WideF.steps {F : Fence} (hW : WideF F) {m m' : Machine} (h : Steps P m m') : StepsIn (Machine.fenced P F) P m m' :=
  (StepsIn.of_steps h).mono fun m _ => hW.fenced m

theorem WideF.room {F : Fence} (hW : WideF F) (n : Nat) : F.room n := fun d h => by rw [hW.depth] at h; exact nomatch h
theorem WideF.deep {F : Fence} (hW : WideF F) {n : Nat} : F.depth.isSome = true → 1 ≤ n := fun h => by rw [hW.depth] at h; exact nomatch h

theorem WideF.comes {F : Fence} (hW : WideF F) {m m' : Machine} {e : Ending} (h : Comes P m m' e) : ComesIn (Machine.fenced P F) P m m' e := by
  cases e with
  | returned v => exact hW.steps h
  | panicked chain => exact hW.steps h
  | outgrown => exact h

theorem WideF.calls {F : Fence} (hW : WideF F) {n : Nat} {f : FuncId} {args : Array Value} {w : World} {R : Ending → World → Prop} (h : Calls P f args w R) : CallsIn F n P f args w R :=
  ⟨hW.fn f, fun cs _ => let ⟨e, w', fr, r, s, x⟩ := h cs; ⟨e, w', fr, r, hW.comes s, x⟩⟩

theorem WideF.round {F : Fence} (hW : WideF F) {n l : Nat} {f : FuncId} {tmps : Array Value} {a b : Code} {w : World} {R : Ending → World → Prop} (h : RoundIn Fence.wide 0 P l f tmps a b w R) : RoundIn F n P l f tmps a b w R :=
  ⟨hW.fn f, fun c cs _ => let ⟨e, w', r, s⟩ := h.2 c cs (room_wide _); ⟨e, w', r, by
    cases e with
    | returned v => exact hW.steps (StepsIn.steps s)
    | panicked chain => exact hW.steps (StepsIn.steps s)
    | outgrown => exact s⟩⟩

/-- How a call stands to what the interpreter says of it. -/
def CallPost (μ : Loc) (h : Heap) (w : World) (e : End) (h' : Heap) (e' : Ending) (w' : World) : Prop :=
  ∃ μ', EndRel μ' e e' ∧ H μ' h' w' ∧ Step h.n μ w μ' w' ∧ h.n ≤ h'.n

/-- A panic under way, before it is recovered or behind. -/
def PanRel (μ : Loc) : Option DV → FrameMode → Prop
  | some v, u => ∃ x, u = .panicking [entryOf x] ∧ V μ v x
  | none, u => u = .returning ∨ ∃ x, u = .panicking [{ v := x, recovered := true }]

def Entered (P : Program) (f : FuncId) : Prop := ∃ fn c, P.funcs[f]? = some fn ∧ fn.body = some c ∧ (fn.name == "runtime.NumGoroutine") = false

structure RecOk (P : Program) (E : Env) (rec : Rec) : Prop where
  call : ∀ f vs pan h e pan' h', rec.call false f vs pan h = .ok (.mk e pan' h') → Entered P f ∧ ∀ μ w (args : Array Value), Vs μ vs args.toList → H μ h w → Globs E μ →
    Calls P f args w (CallPost μ h w e h')
  defer : ∀ f vs pan h v pan' h', rec.call true f vs pan h = .ok (.mk (.ret v) pan' h') → Entered P f ∧ ∀ μ w (args : Array Value) u, Vs μ vs args.toList → H μ h w → Globs E μ → PanRel μ pan u →
    CallsDIn Fence.wide 0 P f args u w fun e u' w' => ∃ x μ', e = .returned x ∧ H μ' h' w' ∧ Step h.n μ w μ' w' ∧ h.n ≤ h'.n ∧ PanRel μ' pan' u'
  round : ∀ l vs h e pan' h', rec.round l vs h = .ok (.mk e pan' h') → ∀ μ w (args : Array Value) p, Vs μ vs args.toList → H μ h w → Globs E μ → μ l = some p →
    ∃ f tmps a b, (Instr.yield p.b args).run P w = .ok (.round p.b f tmps a b) w ∧ RoundIn Fence.wide 0 P p.b f tmps a b w (CallPost μ h w e h')

/-- Library functions that are not walked do as is said. -/
def ExtOk (P : Program) (E : Env) : Prop := ∀ f e, E.ext f = some e → Entered P f ∧ ∀ vs v, extCall e vs = .ok v → ∀ μ (args : Array Value) w, Vs μ vs args.toList → (∃ n, w.cell? ⟨E.maxLen, 0, none⟩ = some (.int .i64 n)) →
  Calls P f args w fun e' w' => ∃ x, e' = .returned x ∧ (∀ μ, V μ v x) ∧ Below w.heap.size w w'

/-! ### One operation -/

/-- What is asked behind an operation. -/
def OpPost (μ : Loc) (h : Heap) (w : World) (base : Nat → Prop) (a : Act) (o : Oper) (K : Act → World → Prop) (Q : Exit → Act → World → Prop) : OpRes → Prop
  | .val v ds' _ h' => ∀ x μ' w' dd, V μ' v x → H μ' h' w' → Step h.n μ w μ' w' → h.n ≤ h'.n → DR μ' w' base ds' dd → K ({ a with defers := dd }.put o.dst x) w'
  | .panic v h' => ∀ x μ' w', V μ' v x → H μ' h' w' → Step h.n μ w μ' w' → h.n ≤ h'.n → Q (.panic [entryOf x]) a w'

theorem callFunc_run {f : FuncId} {args : Array Value} {w : World} (h : Entered P f) : (callFunc f args).run P w = .ok (.enter f args) w := by
  obtain ⟨fn, c, h1, h2, h3⟩ := h
  have h3' : ¬ fn.name = "runtime.NumGoroutine" := by simpa using h3
  simp [callFunc, h1, h2, h3']

theorem about_any {F : Fence} (hW : WideF F) {o : Oper} {a : Act} {w : World} : ∀ f, o.about P w a.eval = some f → F.fn f := fun f _ => hW.fn f

/-- A call that ends as the interpreter says, taken in by the operation. -/
theorem upon_call {F : Fence} (hW : WideF F) {n : Nat} {o : Oper} {a : Act} {w : World} {K : Act → World → Prop} {Q : Exit → Act → World → Prop} {μ : Loc} {h h' : Heap} {base : Nat → Prop} {ds : List (DV × List DV)} {pan : Option DV} {e : End} {f : FuncId} {args : Array Value} {r : OpRes} {pan' : Option DV}
    (hh : H μ h w) (hD : DR μ w base ds a.defers) (hr : called ds pan (.mk e pan' h') = .ok r) (hp : OpPost μ h w base a o K Q r) (hc : Calls P f args w (CallPost μ h w e h')) :
    o.uponIn F n P a K Q (.ok (.enter f args) w) := by
  refine ⟨hW.deep, hW.calls (hc.mono ?_)⟩
  rintro e' w' ⟨μ', he, hh', st, hle⟩
  cases e with
  | ret v =>
    obtain ⟨x, rfl, hv⟩ := he
    have hr' : dvK v (fun v => (.ok (.val v ds pan h') : R OpRes)) = .ok r := hr
    rw [dvK_eq] at hr'
    cases hr'
    exact hp x μ' w' a.defers hv hh' st hle (hD.step hh st)
  | panic v =>
    obtain ⟨x, rfl, hv⟩ := he
    cases hr
    exact hp x μ' w' hv hh' st hle

theorem upon_round {F : Fence} (hW : WideF F) {n : Nat} {o : Oper} {a : Act} {w : World} {K : Act → World → Prop} {Q : Exit → Act → World → Prop} {μ : Loc} {h h' : Heap} {base : Nat → Prop} {ds : List (DV × List DV)} {pan : Option DV} {e : End} {l : Nat} {f : FuncId} {tmps : Array Value} {c b : Code} {r : OpRes} {pan' : Option DV}
    (hh : H μ h w) (hD : DR μ w base ds a.defers) (hr : called ds pan (.mk e pan' h') = .ok r) (hp : OpPost μ h w base a o K Q r) (hc : RoundIn Fence.wide 0 P l f tmps c b w (CallPost μ h w e h')) :
    o.uponIn F n P a K Q (.ok (.round l f tmps c b) w) := by
  refine ⟨hW.deep, hW.round (hc.mono ?_)⟩
  rintro e' w' ⟨μ', he, hh', st, hle⟩
  cases e with
  | ret v =>
    obtain ⟨x, rfl, hv⟩ := he
    have hr' : dvK v (fun v => (.ok (.val v ds pan h') : R OpRes)) = .ok r := hr
    rw [dvK_eq] at hr'
    cases hr'
    exact hp x μ' w' a.defers hv hh' st hle (hD.step hh st)
  | panic v =>
    obtain ⟨x, rfl, hv⟩ := he
    cases hr
    exact hp x μ' w' hv hh' st hle

theorem below_H {μ : Loc} {h : Heap} {w w' : World} (hh : H μ h w) (hb : Below w.heap.size w w') : H μ h w' ∧ Step h.n μ w μ w' := by
  have hbl : ∀ b, b < w.heap.size → w'.heap[b]? = w.heap[b]? := fun b hlt => hb.block b hlt
  exact ⟨hh.other hb.size fun i p hp => hbl p.b (hh.lt i p hp), ⟨hb.os, hb.tape, hb.output, hb.size, fun b hlt _ => hbl b hlt, fun b h => .inl h, Grow.refl _ _, fun _ _ h => h⟩⟩

theorem extThere_cell {h : Heap} {μ : Loc} {w : World} (ht : extThere E h = true) (hh : H μ h w) (hG : Globs E μ) : ∃ n, w.cell? ⟨E.maxLen, 0, none⟩ = some (.int .i64 n) := by
  unfold extThere at ht
  split at ht
  · exact nomatch ht
  · rename_i i hi
    split at ht
    · rename_i bd cs ver ro hrow
      split at ht
      · rename_i rest
        obtain ⟨p, hp, hb, _, _⟩ := hG _ _ hi
        obtain ⟨vals, ty, fz, h1, _, _, _, _, _, h2, h3, _⟩ := hh.obj i _ hrow p hp
        obtain ⟨y, ys, hy, ⟨n, rfl⟩, _⟩ := h3
        have h4 : vals[0]? = some (.int .i64 n) := by
          have := congrArg (·[0]?) hy
          simpa [List.getElem?_take] using this
        rw [hb] at h1
        exact ⟨n, by simp [World.cell?, h1, h4]⟩
      · exact nomatch ht
    · exact nomatch ht

/-- A function called. -/
theorem callFn_sound {rec : Rec} (ro : RecOk P E rec) (eo : ExtOk P E) {f : FuncId} {vs : List DV} {h h' : Heap} {e : End} {pan' : Option DV} (hr : callFn E rec f vs h = .ok (.mk e pan' h')) :
    Entered P f ∧ ∀ {μ : Loc} {w : World} {args : Array Value}, Vs μ vs args.toList → H μ h w → Globs E μ → Calls P f args w (CallPost μ h w e h') := by
  unfold callFn at hr
  split at hr
  · rename_i x hx
    obtain ⟨hth, hr⟩ := need_ok hr
    obtain ⟨v, hv, hr⟩ := andThen_ok hr
    cases hr
    obtain ⟨h1, h2⟩ := eo f x hx
    refine ⟨h1, fun {μ w args} hvs hh hG => (h2 vs v hv μ args w hvs (extThere_cell hth hh hG)).mono ?_⟩
    rintro e' w' ⟨y, rfl, hy, hb⟩
    obtain ⟨hh', st⟩ := below_H hh hb
    exact ⟨μ, ⟨y, rfl, hy μ⟩, hh', st, Nat.le_refl _⟩
  · obtain ⟨h1, h2⟩ := ro.call f vs none h e pan' h' hr
    exact ⟨h1, fun {μ w args} hvs hh hG => h2 μ w args hvs hh hG⟩

end DG

/-
  One operation inside code is carried out as the interpreter says.
-/
namespace DG
open Go Go.RowKit

variable {P : Program} {E : Env}

/-- No call: a value, or nothing. -/
theorem upon_does {F : Fence} {n : Nat} {o : Oper} {a : Act} {w : World} {K : Act → World → Prop} {Q : Exit → Act → World → Prop} {μ : Loc} {h h' : Heap} {base : Nat → Prop} {ds : List (DV × List DV)} {pan : Option DV} {s : Sem Next} {v : DV}
    (hh : H μ h w) (hD : DR μ w base ds a.defers) (hp : OpPost μ h w base a o K Q (.val v ds pan h')) (hd : Does P μ h w s v h') : o.uponIn F n P a K Q (s.run P w) := by
  obtain ⟨nx, x, w', μ', hr, hnv, hv, hh', st, hle⟩ := hd
  rw [hr]
  have h1 := hp x μ' w' a.defers hv hh' st hle (hD.step hh st)
  rcases hnv with rfl | ⟨rfl, rfl⟩
  · exact h1
  · exact h1

theorem args_toList {c : Call} {a : Act} : (c.args.toList.map a.eval).toArray = c.args.map a.eval := by
  apply Array.ext'
  simp

theorem Vs_args {μ : Loc} {c : Call} {a : Act} {vs : List DV} (h : Vs μ vs (c.args.toList.map a.eval)) : Vs μ vs (c.args.map a.eval).toList := by
  simpa using h

theorem run_receiver {μ : Loc} {h : Heap} {w : World} (tab : Tab P E) (hh : H μ h w) {t : TypeId} {ti : TI} (hi : E.ty t = some ti) {pointer : Bool} {x recv : DV} {y : Value} (hx : V μ x y)
    (e : (match ti.k, pointer with
          | .ptr _, true => (.ok x : R DV)
          | .ptr e, false => opt (E.ty e) "type" fun ei => load ei.size (DG.isAgg ei.k) x h
          | .other, _ => bad "via"
          | _, false => .ok x
          | _, true => bad "via") = .ok recv) : ∃ z, (receiverVia t y #[] pointer).run P w = .ok z w ∧ V μ recv z := by
  obtain ⟨d, hd, hk, hrun⟩ := kind_run tab hi w
  unfold receiverVia
  simp only [follow, receiverAt, Sem.run_bind, Sem.run_pure, Result.andThen_ok, hrun]
  split at e
  · rename_i e' hkk
    cases e
    rw [hkk] at hk; cases hk
    exact ⟨y, rfl, hx⟩
  · rename_i e' hkk
    obtain ⟨ei, hei, e⟩ := opt_ok e
    rw [hkk] at hk; cases hk
    obtain ⟨ad, u, rfl, h1, h2⟩ := run_loadVar tab hh hei hx e
    exact ⟨u, by simp [Go.Place.get, asAddr, h1], h2⟩
  · exact (bad_ok e).elim
  · rename_i hne hno
    cases e
    refine ⟨y, ?_, hx⟩
    cases hkk : ti.k <;> rw [hkk] at hk <;> simp only [KOk] at hk
    case ptr e => exact absurd hkk (hne e)
    case other => exact absurd hkk hno
    case struct => obtain ⟨_, rfl, _⟩ := hk; rfl
    case func => obtain ⟨_, _, _, rfl⟩ := hk; rfl
    case iface => obtain ⟨_, rfl⟩ := hk; rfl
    all_goals (subst hk; rfl)
  · exact (bad_ok e).elim

/-- A call of a value that is a function, once the value and the arguments are there. -/
theorem callVal_sound {F : Fence} (hW : WideF F) (tab : Tab P E) {rec : Rec} (ro : RecOk P E rec) (eo : ExtOk P E) {n : Nat} {o : Oper} {a : Act} {w : World} {K : Act → World → Prop} {Q : Exit → Act → World → Prop} {μ : Loc} {h h' : Heap} {base : Nat → Prop} {ds : List (DV × List DV)} {pan : Option DV}
    {f : DV} {vs : List DV} {e : End} {pan' : Option DV} {r : OpRes} {fv : Value} {args : Array Value}
    (hr : callVal E rec f vs h = .ok (.mk e pan' h')) (hcd : called ds pan (.mk e pan' h') = .ok r)
    (hf : V μ f fv) (hvs : Vs μ vs args.toList) (hh : H μ h w) (hG : Globs E μ) (hD : DR μ w base ds a.defers) (hp : OpPost μ h w base a o K Q r) :
    o.uponIn F n P a K Q ((do let d ← Deferred.ofValue fv args; invoke d.target d.args : Sem Next).run P w) := by
  unfold callVal at hr
  split at hr
  · rename_i fn first cap
    obtain ⟨g, A, B, rfl, hF, hA, hB⟩ := hf
    simp only [Deferred.ofValue, Sem.run_bind, Sem.run_pure, Result.andThen_ok]
    split at hr
    · rename_i f'
      cases hF
      rw [listK_eq] at hr
      obtain ⟨h1, h2⟩ := callFn_sound ro eo hr
      simp only [invoke]
      rw [callFunc_run h1]
      exact upon_call hW hh hD hcd hp (h2 (by simpa using (hA.append hvs).append hB) hh hG)
    · rename_i t path f' pointer
      cases hF
      split at hr
      · rename_i x vs' hx
        obtain ⟨hpath, hr⟩ := need_ok hr
        obtain ⟨ti, hti, hr⟩ := opt_ok hr
        obtain ⟨recv, hrecv, hr⟩ := andThen_ok hr
        obtain ⟨h1, h2⟩ := callFn_sound ro eo hr
        have hall : Vs μ (x :: vs') (A ++ args).toList := by rw [← hx]; simpa using hA.append hvs
        obtain ⟨y, ys, hy, hxy, hvs'⟩ := hall
        have hpe : path = #[] := by simpa using hpath
        subst hpe
        obtain ⟨z, hz, hrz⟩ := run_receiver tab hh hti hxy hrecv
        have h0 : (A ++ args)[0]? = some y := by rw [← Array.getElem?_toList, hy]; rfl
        have hrest : ((A ++ args).extract 1 (A ++ args).size).toList = ys := by
          rw [Array.toList_extract, hy]
          have : (A ++ args).size = ys.length + 1 := by rw [← Array.length_toList, hy]; rfl
          simp [List.extract, this]
        simp only [invoke, h0]
        simp only [Sem.run_bind, hz, Result.andThen_ok]
        rw [callFunc_run h1]
        refine upon_call hW hh hD hcd hp (h2 ?_ hh hG)
        rw [Array.toList_append, hrest]
        exact ⟨z, ys, rfl, hrz, hvs'⟩
      · exact (bad_ok hr).elim
    · rename_i l
      obtain ⟨p, hpl, hfix, rfl⟩ := hF
      obtain ⟨hfc, hr2⟩ := need_ok hr
      clear hr
      have hfe : first = [] := by
        cases first with
        | nil => rfl
        | cons _ _ => simp at hfc
      subst hfe
      have hA' : A = #[] := by simp only [Vs] at hA; exact Array.toList_eq_nil_iff.1 hA
      subst hA'
      obtain ⟨f', tmps, c, b, h1, h2⟩ := ro.round l vs h e pan' h' hr2 μ w args p hvs hh hG hpl
      simp only [invoke, Array.empty_append]
      rw [h1]
      exact upon_round hW hh hD hcd hp h2
    · exact (bad_ok hr).elim
  · exact (bad_ok hr).elim

theorem oper_sound {F : Fence} (hW : WideF F) (tab : Tab P E) {rec : Rec} (ro : RecOk P E rec) (eo : ExtOk P E) {n : Nat} {o : Oper} {a : Act} {w : World} {K : Act → World → Prop} {Q : Exit → Act → World → Prop} {μ : Loc} {h : Heap} {base : Nat → Prop} {ts : Tmps} {ds : List (DV × List DV)} {pan : Option DV} {r : OpRes}
    (hr : (opRun E rec F.round.isSome false o).f ts ds pan h = .ok r) (hT : T μ ts a.tmps) (hh : H μ h w) (hG : Globs E μ) (hD : DR μ w base ds a.defers) (hp : OpPost μ h w base a o K Q r) :
    o.wpIn F n P a w K Q ∧ (∀ v ds' pan' h', r = .val v ds' pan' h' → pan' = pan) := by
  have hab := about_any hW (P := P) (o := o) (a := a) (w := w)
  cases hop : o.op with
  | call c =>
    have hsem : o.semAt F.round a.eval = (do let d ← resolve a.eval c o.type; invoke d.target d.args) := by
      rw [Oper.semAt_eq _ _ _ (fun c' => by rw [hop]; simp)]
      simp [execOp, hop]
    unfold opRun at hr
    simp only [hop] at hr
    cases hcal : c.callee with
    | builtin b =>
      have hres : ∀ w, (do let d ← resolve a.eval c o.type; invoke d.target d.args : Sem Next).run P w = (Go.builtin b c.argTypes o.type (c.args.map fun | .const _ => true | _ => false) (c.args.map a.eval)).run P w := by
        intro w
        simp only [resolve, hcal, Sem.run_bind, Sem.run_pure, Result.andThen_ok, invoke]
        rfl
      simp only [hcal] at hr
      by_cases hb : b = .recover
      · subst hb
        have hr' : need false "recover" (match pan with | some v => (.ok (.val v ds none h) : R OpRes) | none => .ok (.val .niliface ds none h)) = .ok r := hr
        exact nomatch (need_ok hr').1
      by_cases hb2 : b = .panic
      · subst hb2
        have hr' : andThen ((args E c.args.toList).f ts) (fun vs => match vs with | [.iface t v] => (.ok (.panic (.iface t v) h) : R OpRes) | _ => bad "panic") = .ok r := hr
        obtain ⟨vs, hvs, hr⟩ := andThen_ok hr'
        have hV := (args_V hvs hT hG).1
        split at hr
        · rename_i t v
          cases hr
          obtain ⟨y, ys, hy, hyv, hnil⟩ := hV
          simp only [Vs] at hnil
          subst hnil
          obtain ⟨z, rfl, hz⟩ := hyv
          refine ⟨⟨hab, ?_⟩, fun _ _ _ _ h => nomatch h⟩
          rw [hsem, hres]
          have hargs : c.args.map a.eval = #[.iface t z] := by rw [← args_toList, hy]
          have hrun : (Go.builtin .panic c.argTypes o.type (c.args.map fun | .const _ => true | _ => false) (c.args.map a.eval)).run P w = .halt (.panic (.iface t z)) w := by
            rw [hargs]
            simp [Go.builtin, Instr.panic, goPanic, Result.andThen]
          rw [hrun]
          exact hp (.iface t z) μ w ⟨z, rfl, hz⟩ hh (Step.refl _ _ _) (Nat.le_refl _)
        · exact (bad_ok hr).elim
      have hr' : andThen ((builtinOp E b c.argTypes.toList c.args.toList).f ts h) (fun (v, h) => (.ok (.val v ds pan h) : R OpRes)) = .ok r := by
        cases b <;> first | exact hr | exact absurd rfl hb | exact absurd rfl hb2
      obtain ⟨⟨v, h'⟩, hv, hr'⟩ := andThen_ok hr'
      cases hr'
      refine ⟨⟨hab, ?_⟩, fun _ _ _ _ h => by cases h; rfl⟩
      rw [hsem, hres]
      have := builtin_sound tab b c.argTypes.toList c.args.toList ts h v h' hv μ w a o.type (c.args.map fun | .const _ => true | _ => false) hT hh hG
      rw [args_toList] at this
      exact upon_does hh hD hp this
    | value f =>
      have hres : ∀ w, (do let d ← resolve a.eval c o.type; invoke d.target d.args : Sem Next).run P w = (do let d ← Deferred.ofValue (a.eval f) (c.args.map a.eval); invoke d.target d.args : Sem Next).run P w := by
        intro w
        simp only [resolve, hcal]
      simp only [hcal] at hr
      by_cases hff : ∃ g, f = .func g
      · obtain ⟨g, rfl⟩ := hff
        obtain ⟨vs, hvs, hr⟩ := andThen_ok hr
        obtain ⟨⟨e, pan', h'⟩, hcall, hr⟩ := andThen_ok hr
        have hV := (args_V hvs hT hG).1
        obtain ⟨h1, h2⟩ := callFn_sound ro eo hcall
        refine ⟨⟨hab, ?_⟩, fun v ds' pan' h' hv => ?_⟩
        · rw [hsem, hres]
          have hrun : (do let d ← Deferred.ofValue (a.eval (.func g)) (c.args.map a.eval); invoke d.target d.args : Sem Next).run P w = .ok (.enter g (c.args.map a.eval)) w := by
            have : a.eval (.func g) = .func (.func g) #[] #[] := rfl
            rw [this]
            simp only [Deferred.ofValue, Sem.run_bind, Sem.run_pure, Result.andThen_ok, invoke, Array.empty_append, Array.append_empty]
            exact callFunc_run h1
          rw [hrun]
          exact upon_call hW hh hD hr hp (h2 (Vs_args hV) hh hG)
        · subst hv
          cases e with
          | ret u =>
            have hr' : dvK u (fun v => (.ok (.val v ds pan _) : R OpRes)) = .ok _ := hr
            rw [dvK_eq] at hr'
            cases hr'; rfl
          | panic u => cases hr
      · have hr' : andThen ((arg E f).f ts) (fun f => andThen ((args E c.args.toList).f ts) fun vs => andThen (callVal E rec f vs h) (called ds pan)) = .ok r := by
          cases f <;> first | exact hr | exact absurd ⟨_, rfl⟩ hff
        obtain ⟨fd, hfd, hr'⟩ := andThen_ok hr'
        obtain ⟨vs, hvs, hr'⟩ := andThen_ok hr'
        obtain ⟨⟨e, pan', h'⟩, hcall, hr'⟩ := andThen_ok hr'
        have hV := (args_V hvs hT hG).1
        refine ⟨⟨hab, ?_⟩, fun v ds' pan' h' hv => ?_⟩
        · rw [hsem, hres]
          exact callVal_sound hW tab ro eo hcall hr' (arg_V hfd hT hG).1 (Vs_args hV) hh hG hD hp
        · subst hv
          cases e with
          | ret u =>
            have hr2 : dvK u (fun v => (.ok (.val v ds pan _) : R OpRes)) = .ok _ := hr'
            rw [dvK_eq] at hr2
            cases hr2; rfl
          | panic u => cases hr'
    | invoke x m =>
      simp only [hcal] at hr
      exact (bad_ok hr).elim
  | panic x =>
    unfold opRun at hr
    simp only [hop] at hr
    obtain ⟨v, hv, hr⟩ := andThen_ok hr
    have hV := (arg_V hv hT hG).1
    split at hr
    · rename_i t v
      cases hr
      obtain ⟨z, hz, hzv⟩ := hV
      refine ⟨⟨hab, ?_⟩, fun _ _ _ _ h => nomatch h⟩
      rw [Oper.semAt_eq _ _ _ (fun c' => by rw [hop]; simp)]
      have hrun : (execOp a.eval o).run P w = .halt (.panic (.iface t z)) w := by
        simp [execOp, hop, hz, Instr.panic, goPanic, Result.andThen]
      rw [hrun]
      exact hp (.iface t z) μ w ⟨z, rfl, hzv⟩ hh (Step.refl _ _ _) (Nat.le_refl _)
    · exact (bad_ok hr).elim
  | defer c =>
    unfold opRun at hr
    simp only [hop] at hr
    cases hcal : c.callee with
    | value f =>
      simp only [hcal] at hr
      obtain ⟨hro, hr⟩ := need_ok hr
      obtain ⟨fd, hfd, hr⟩ := andThen_ok hr
      obtain ⟨vs, hvs, hr⟩ := andThen_ok hr
      have hV := (args_V hvs hT hG).1
      have hfV := (arg_V hfd hT hG).1
      have hno : F.round = none := by
        cases hF : F.round with
        | none => rfl
        | some l => rw [hF] at hro; exact nomatch hro
      split at hr
      · rename_i g first cap _
        cases hr
        obtain ⟨gv, A, B, hfe, hF, hA, hB⟩ := hfV
        cases hF
        refine ⟨⟨hab, ?_⟩, fun _ _ _ _ h => by cases h; rfl⟩
        rw [hno, Oper.semAt_none]
        have hrun : (execOp a.eval o).run P w = .ok (.defer { target := .fn (.func g) B, args := A ++ c.args.map a.eval }) w := by
          simp [execOp, hop, resolve, hcal, hfe, Deferred.ofValue]
        rw [hrun]
        exact hp Go.undef μ w (_ :: a.defers) ⟨#[], rfl, rfl⟩ hh (Step.refl _ _ _) (Nat.le_refl _) (.inr ⟨g, first, cap, vs, ds, A, B, c.args.map a.eval, rfl, rfl, hA, hB, Vs_args hV, hD⟩)
      · exact (bad_ok hr).elim
    | builtin b => simp only [hcal] at hr; exact (bad_ok hr).elim
    | invoke x m => simp only [hcal] at hr; exact (bad_ok hr).elim
  | _ =>
    have hr' : andThen ((pureOp E o.op).f ts h) (fun (v, h) => (.ok (.val v ds pan h) : R OpRes)) = .ok r := by
      unfold opRun at hr
      rw [hop] at hr ⊢
      exact hr
    obtain ⟨⟨v, h'⟩, hv, hr'⟩ := andThen_ok hr'
    cases hr'
    refine ⟨⟨hab, ?_⟩, fun _ _ _ _ h => by cases h; rfl⟩
    rw [Oper.semAt_eq _ _ _ (fun c' => by rw [hop]; simp)]
    exact upon_does hh hD hp (pure_sound tab o ts h v h' hv μ w a hT hh hG)

end DG

/-
  Regions in their own order; where code stands.
-/
namespace DG
open Go Go.RowKit

variable {P : Program} {E : Env}

/-- Of which loop this is a round. -/
def RoundRel (μ : Loc) : Option Nat → Option Nat → Prop
  | none, r => r = none
  | some i, r => ∃ p, μ i = some p ∧ p.fix = true ∧ r = some p.b

/-- From where a function is walked. -/
structure Base (E : Env) (n₀ : Nat) (μ₀ : Loc) (ro : Option Nat × Option Nat) : Prop where
  globs : Globs E μ₀
  out : ∀ id, n₀ ≤ id → μ₀ id = none
  r : RoundRel μ₀ ro.1 ro.2

/-- Where the interpreter and the model stand inside a function. -/
structure At (n₀ : Nat) (μ₀ : Loc) (w₀ : World) (base : Nat → Prop) (nt : Nat) (ts : Tmps) (ds : List (DV × List DV)) (h : Heap) (μ : Loc) (a : Act) (w : World) : Prop where
  t : T μ ts a.tmps
  sz : a.tmps.size = nt
  d : DR μ w base ds a.defers
  hh : H μ h w
  st : Step n₀ μ₀ w₀ μ w
  le : n₀ ≤ h.n

/-- What is asked behind code that ends so. -/
def Fin (n₀ : Nat) (μ₀ : Loc) (w₀ : World) (base : Nat → Prop) (nt : Nat) : St → Exit → Act → World → Prop
  | .mk o ts ds _ h, e, a, w => ∃ μ, OutRel μ o e ∧ At n₀ μ₀ w₀ base nt ts ds h μ a w

section
variable {n₀ : Nat} {μ₀ : Loc} {w₀ : World} {base : Nat → Prop} {nt : Nat} {ro : Option Nat × Option Nat} {ts : Tmps} {ds : List (DV × List DV)} {h : Heap} {μ : Loc} {a : Act} {w : World}

theorem At.globs (hB : Base E n₀ μ₀ ro) (h : At n₀ μ₀ w₀ base nt ts ds h μ a w) : Globs E μ := hB.globs.grow hB.out h.st.grow

theorem RoundRel.step {μ' : Loc} {n : Nat} (ho : ∀ id, n ≤ id → μ id = none) (hg : Grow n μ μ') {x y : Option Nat} (h : RoundRel μ x y) : RoundRel μ' x y := by
  cases x with
  | none => exact h
  | some i =>
    obtain ⟨p, hp, hf, e⟩ := h
    obtain ⟨q, hq, l⟩ := hg i (lt_of_some ho hp) p hp
    have := l.fix hf
    subst this
    exact ⟨q, hq, hf, e⟩

theorem T.put {x : Value} {v : DV} {dst : Option Tmp} {ts : Tmps} {a : Act} (hT : T μ ts a.tmps) (hv : V μ v x) (hd : ∀ d, dst = some d → d < a.tmps.size) : T μ (setTmp dst v ts) (a.put dst x).tmps := by
  cases dst with
  | none => exact hT
  | some d =>
    intro t
    have hd' := hd d rfl
    show V μ (tget ((d, v) :: ts) t) ((a.tmps.setIfInBounds d x).getD t Go.undef)
    rw [tget_cons]
    by_cases ht : d = t
    · subst ht
      simp [hd', hv]
    · simp only [ht, if_false]
      have := hT t
      simpa [Array.getElem?_setIfInBounds_ne ht] using this

theorem size_put {dst : Option Tmp} {x : Value} {a : Act} : (a.put dst x).tmps.size = a.tmps.size := by
  cases dst <;> simp [Act.put]
theorem defers_put {dst : Option Tmp} {x : Value} {a : Act} : (a.put dst x).defers = a.defers := by
  cases dst <;> rfl

/-- One step on. -/
theorem At.next (hA : At n₀ μ₀ w₀ base nt ts ds h μ a w) {v : DV} {x : Value} {μ' : Loc} {w' : World} {h' : Heap} {ds' : List (DV × List DV)} {dd : List Deferred} {dst : Option Tmp} (hd : ∀ d, dst = some d → d < nt)
    (hv : V μ' v x) (hh : H μ' h' w') (st : Step h.n μ w μ' w') (le : h.n ≤ h'.n) (hD : DR μ' w' base ds' dd) : At n₀ μ₀ w₀ base nt (setTmp dst v ts) ds' h' μ' ({ a with defers := dd }.put dst x) w' where
  t := T.put (T.step hA.hh.out st.grow hA.t) hv (fun d e => by rw [show ({ a with defers := dd } : Act).tmps.size = nt from hA.sz]; exact hd d e)
  sz := by rw [size_put]; exact hA.sz
  d := by rw [defers_put]; exact hD
  hh := hh
  st := hA.st.trans st hA.le
  le := Nat.le_trans hA.le le

theorem At.skip (hA : At n₀ μ₀ w₀ base nt ts ds h μ a w) {dst : Option Tmp} (hd : ∀ d, dst = some d → d < nt) : At n₀ μ₀ w₀ base nt (setTmp dst undef ts) ds h μ (a.put dst Go.undef) w where
  t := T.put hA.t ⟨#[], rfl, rfl⟩ (fun d e => by rw [hA.sz]; exact hd d e)
  sz := by rw [size_put]; exact hA.sz
  d := by rw [defers_put]; exact hA.d
  hh := hA.hh
  st := hA.st
  le := hA.le

/-- A panic out of an operation. -/
theorem At.panic (hA : At n₀ μ₀ w₀ base nt ts ds h μ a w) {μ' : Loc} {w' : World} {h' : Heap} (hh : H μ' h' w') (st : Step h.n μ w μ' w') (le : h.n ≤ h'.n) : At n₀ μ₀ w₀ base nt ts ds h' μ' a w' where
  t := T.step hA.hh.out st.grow hA.t
  sz := hA.sz
  d := hA.d.step hA.hh st
  hh := hh
  st := hA.st.trans st hA.le
  le := Nat.le_trans hA.le le

/-! ### Guards -/

theorem getD_some {t : Array Value} {i : Nat} {v : Value} (h : t.getD i Go.undef = v) (hv : v ≠ Go.undef) : t[i]? = some v := by
  rw [Array.getD_eq_getD_getElem?] at h
  cases e : t[i]? with
  | none => rw [e] at h; exact absurd h.symm hv
  | some u => rw [e] at h; simp only [Option.getD_some] at h; rw [h]

theorem guardO_wanted {ops : Array Oper} {o : Oper} {ts : Tmps} {t : Array Value} {b : Bool} (hT : T μ ts t) (h : guardO (ops.toList.map fun o : Oper => o.dst) o.guard ts = some b) : Region.wanted o (yielded ops t) = b := by
  unfold guardO at h
  unfold Region.wanted
  cases hg : o.guard with
  | none => rw [hg] at h; cases h; rfl
  | some g =>
    obtain ⟨j, want⟩ := g
    rw [hg] at h
    simp only [guardOf] at h
    split at h
    · rename_i d hd
      have hdst : (ops[j]?).bind (·.dst) = some d := by
        rw [List.getElem?_map, Array.getElem?_toList] at hd
        cases hoj : ops[j]? with
        | none => rw [hoj] at hd; exact nomatch hd
        | some oj => rw [hoj] at hd; simpa using hd
      have hv := hT d
      simp only [yielded, hdst, Option.bind_some]
      split at h
      · rename_i b' hb'
        rw [hb'] at hv
        have hv' : t.getD d Go.undef = .bool b' := hv
        rw [getD_some hv' (by simp [Go.undef])]
        cases h
        cases b' <;> cases want <;> rfl
      · rename_i l hb'
        rw [hb'] at hv
        obtain ⟨ar, hv', _⟩ := hv
        cases h
        cases ht : t[d]? with
        | none => rfl
        | some u =>
          rw [Array.getD_eq_getD_getElem?, ht] at hv'
          simp only [Option.getD_some] at hv'
          subst hv'
          rfl
      · exact nomatch h
    · exact nomatch h

/-! ### A region in its own order -/

theorem ops_sound {F : Fence} (hW : WideF F) (tab : Tab P E) {rec : Rec} (rk : RecOk P E rec) (eo : ExtOk P E) (hB : Base E n₀ μ₀ ro) {n : Nat} {ops : Array Oper} {Q : Exit → Act → World → Prop} {pan : Option DV} {st : St}
    (hQ : ∀ e a w, Fin n₀ μ₀ w₀ base nt st e a w → Q e a w) :
    ∀ (l : List Oper) (k : Nat) (ts : Tmps) (ds : List (DV × List DV)) (h : Heap) (μ : Loc) (a : Act) (w : World), ops.toList.drop k = l → (∀ t ∈ l.filterMap (·.dst), t < nt) → At n₀ μ₀ w₀ base nt ts ds h μ a w →
      (opsRun E rec F.round.isSome false (ops.toList.map fun o : Oper => o.dst) l).f ts ds pan h = .ok st → wpOpsIn F n P ops Q (List.range' k l.length) a w := by
  intro l
  induction l with
  | nil =>
    intro k ts ds h μ a w hl hd hA hr
    cases hr
    exact hQ _ _ _ ⟨μ, rfl, hA⟩
  | cons o l ih =>
    intro k ts ds h μ a w hl hd hA hr
    have hok : ops[k]? = some o := by
      rw [← Array.getElem?_toList]
      have := congrArg (·[0]?) hl
      simpa [List.getElem?_drop] using this
    have hl' : ops.toList.drop (k + 1) = l := by
      have := congrArg (·.drop 1) hl
      simpa [List.drop_drop] using this
    have hd1 : ∀ d, o.dst = some d → d < nt := fun d e => hd d (List.mem_filterMap.2 ⟨o, List.mem_cons_self .., e⟩)
    have hd2 : ∀ t ∈ l.filterMap (·.dst), t < nt := fun t ht => by
      obtain ⟨x, hx, e⟩ := List.mem_filterMap.1 ht
      exact hd t (List.mem_filterMap.2 ⟨x, List.mem_cons_of_mem _ hx, e⟩)
    simp only [List.length_cons, List.range'_succ, wpOpsIn, hok]
    have hr' : (match guardO (ops.toList.map fun o : Oper => o.dst) o.guard ts with
      | some true => andThen ((opRun E rec F.round.isSome false o).f ts ds pan h) fun r => match r with
        | .val v ds pan h => (opsRun E rec F.round.isSome false (ops.toList.map fun o : Oper => o.dst) l).f (setTmp o.dst v ts) ds pan h
        | .panic v h => .ok (.mk (.panic v) ts ds pan h)
      | some false => (opsRun E rec F.round.isSome false (ops.toList.map fun o : Oper => o.dst) l).f (setTmp o.dst undef ts) ds pan h
      | none => bad "guard") = .ok st := hr
    split at hr'
    · rename_i hg
      rw [guardO_wanted hA.t hg]
      obtain ⟨r, hop, hr'⟩ := andThen_ok hr'
      rw [if_pos rfl]
      cases r with
      | val v ds' pan' h' =>
        have hpan : pan' = pan := (oper_sound (n := n) (K := fun _ _ => True) (Q := fun _ _ _ => True) hW tab rk eo hop hA.t hA.hh (hA.globs hB) hA.d (fun _ _ _ _ _ _ _ _ _ => trivial)).2 v ds' pan' h' rfl
        subst hpan
        refine (oper_sound hW tab rk eo hop hA.t hA.hh (hA.globs hB) hA.d ?_).1
        intro x μ' w' dd hv hh st' le hD
        exact ih (k + 1) _ _ _ _ _ _ hl' hd2 (hA.next hd1 hv hh st' le hD) hr'
      | panic v h' =>
        cases hr'
        refine (oper_sound hW tab rk eo hop hA.t hA.hh (hA.globs hB) hA.d ?_).1
        intro x μ' w' hv hh st' le
        exact hQ _ _ _ ⟨μ', ⟨x, rfl, hv⟩, hA.panic hh st' le⟩
    · rename_i hg
      rw [guardO_wanted hA.t hg, if_neg (by simp)]
      exact ⟨about_any hW, ih (k + 1) _ _ _ _ _ _ hl' hd2 (hA.skip hd1) hr'⟩
    · exact (bad_ok hr').elim
end

/-! ### What code leaves alone -/

theorem opRun_pan {rec : Rec} {round : Bool} {o : Oper} {ts : Tmps} {ds : List (DV × List DV)} {pan : Option DV} {h : Heap} {v : DV} {ds' : List (DV × List DV)} {pan' : Option DV} {h' : Heap}
    (hr : (opRun E rec round false o).f ts ds pan h = .ok (.val v ds' pan' h')) : pan' = pan := by
  have hcalled : ∀ {r : CR}, called ds pan r = .ok (.val v ds' pan' h') → pan' = pan := by
    intro r hr
    obtain ⟨e, p, h2⟩ := r
    cases e with
    | ret u =>
      have hr2 : dvK u (fun v => (.ok (.val v ds pan h2) : R OpRes)) = .ok _ := hr
      rw [dvK_eq] at hr2
      cases hr2; rfl
    | panic u => cases hr
  cases hop : o.op with
  | call c =>
    unfold opRun at hr
    simp only [hop] at hr
    cases hcal : c.callee with
    | builtin b =>
      simp only [hcal] at hr
      by_cases hb : b = .recover
      · subst hb
        have hr' : need false "recover" (match pan with | some v => (.ok (.val v ds none h) : R OpRes) | none => .ok (.val .niliface ds none h)) = .ok _ := hr
        exact nomatch (need_ok hr').1
      by_cases hb2 : b = .panic
      · subst hb2
        have hr' : andThen ((args E c.args.toList).f ts) (fun vs => match vs with | [.iface t v] => (.ok (.panic (.iface t v) h) : R OpRes) | _ => bad "panic") = .ok _ := hr
        obtain ⟨vs, hvs, hr⟩ := andThen_ok hr'
        split at hr <;> cases hr
      have hr' : andThen ((builtinOp E b c.argTypes.toList c.args.toList).f ts h) (fun (v, h) => (.ok (.val v ds pan h) : R OpRes)) = .ok (.val v ds' pan' h') := by
        cases b <;> first | exact hr | exact absurd rfl hb | exact absurd rfl hb2
      obtain ⟨⟨v2, h2⟩, hv, hr'⟩ := andThen_ok hr'
      cases hr'; rfl
    | value f =>
      simp only [hcal] at hr
      by_cases hff : ∃ g, f = .func g
      · obtain ⟨g, rfl⟩ := hff
        obtain ⟨vs, hvs, hr⟩ := andThen_ok hr
        obtain ⟨r, hcall, hr⟩ := andThen_ok hr
        exact hcalled hr
      · have hr' : andThen ((arg E f).f ts) (fun f => andThen ((args E c.args.toList).f ts) fun vs => andThen (callVal E rec f vs h) (called ds pan)) = .ok (.val v ds' pan' h') := by
          cases f <;> first | exact hr | exact absurd ⟨_, rfl⟩ hff
        obtain ⟨fd, hfd, hr'⟩ := andThen_ok hr'
        obtain ⟨vs, hvs, hr'⟩ := andThen_ok hr'
        obtain ⟨r, hcall, hr'⟩ := andThen_ok hr'
        exact hcalled hr'
    | invoke x m =>
      simp only [hcal] at hr
      exact (bad_ok hr).elim
  | panic x =>
    unfold opRun at hr
    simp only [hop] at hr
    obtain ⟨v, hv, hr⟩ := andThen_ok hr
    split at hr <;> cases hr
  | defer c =>
    unfold opRun at hr
    simp only [hop] at hr
    cases hcal : c.callee with
    | value f =>
      simp only [hcal] at hr
      obtain ⟨hro, hr⟩ := need_ok hr
      obtain ⟨fd, hfd, hr⟩ := andThen_ok hr
      obtain ⟨vs, hvs, hr⟩ := andThen_ok hr
      split at hr
      · cases hr; rfl
      · exact (bad_ok hr).elim
    | builtin b => simp only [hcal] at hr; exact (bad_ok hr).elim
    | invoke x m => simp only [hcal] at hr; exact (bad_ok hr).elim
  | _ =>
    have hr' : andThen ((pureOp E o.op).f ts h) (fun (v, h) => (.ok (.val v ds pan h) : R OpRes)) = .ok (.val v ds' pan' h') := by
      unfold opRun at hr
      rw [hop] at hr ⊢
      exact hr
    obtain ⟨⟨v2, h2⟩, hv, hr'⟩ := andThen_ok hr'
    cases hr'; rfl

theorem tget_set {dst : Option Tmp} {v : DV} {ts : Tmps} {t : Nat} (h : dst ≠ some t) : tget (setTmp dst v ts) t = tget ts t := by
  cases dst with
  | none => rfl
  | some d =>
    show tget ((d, v) :: ts) t = _
    rw [tget_cons, if_neg (fun e => h (congrArg some e))]

def Norm : Out → Prop
  | .panic _ => False
  | _ => True

theorem opsRun_keeps {rec : Rec} {round rc : Bool} {dsts : List (Option Tmp)} : ∀ {l : List Oper} {ts : Tmps} {ds : List (DV × List DV)} {pan : Option DV} {h : Heap} {o : Out} {ts' : Tmps} {ds' : List (DV × List DV)} {pan' : Option DV} {h' : Heap},
    (opsRun E rec round rc dsts l).f ts ds pan h = .ok (.mk o ts' ds' pan' h') → (rc = false → pan' = pan) ∧ (∀ t, t ∉ l.filterMap (·.dst) → tget ts' t = tget ts t) := by
  intro l
  induction l with
  | nil => intro ts ds pan h o ts' ds' pan' h' hr; cases hr; exact ⟨fun _ => rfl, fun _ _ => rfl⟩
  | cons x l ih =>
    intro ts ds pan h o ts' ds' pan' h' hr
    have hr' : (match guardO dsts x.guard ts with
      | some true => andThen ((opRun E rec round rc x).f ts ds pan h) fun r => match r with
        | .val v ds pan h => (opsRun E rec round rc dsts l).f (setTmp x.dst v ts) ds pan h
        | .panic v h => .ok (.mk (.panic v) ts ds pan h)
      | some false => (opsRun E rec round rc dsts l).f (setTmp x.dst undef ts) ds pan h
      | none => bad "guard") = .ok (.mk o ts' ds' pan' h') := hr
    have key : ∀ t, t ∉ (x :: l).filterMap (·.dst) → x.dst ≠ some t ∧ t ∉ l.filterMap (·.dst) := fun t ht =>
      ⟨fun e => ht (List.mem_filterMap.2 ⟨x, List.mem_cons_self .., e⟩), fun h => ht (by obtain ⟨y, hy, e⟩ := List.mem_filterMap.1 h; exact List.mem_filterMap.2 ⟨y, List.mem_cons_of_mem _ hy, e⟩)⟩
    split at hr'
    · obtain ⟨r, hop, hr'⟩ := andThen_ok hr'
      cases r with
      | val v ds1 pan1 h1 =>
        obtain ⟨k1, k2⟩ := ih hr'
        refine ⟨fun e => ?_, fun t ht => ?_⟩
        · subst e; exact (k1 rfl).trans (opRun_pan hop)
        · exact (k2 t (key t ht).2).trans (tget_set (key t ht).1)
      | panic v h1 => cases hr'; exact ⟨fun _ => rfl, fun _ _ => rfl⟩
    · obtain ⟨k1, k2⟩ := ih hr'
      exact ⟨k1, fun t ht => (k2 t (key t ht).2).trans (tget_set (key t ht).1)⟩
    · exact (bad_ok hr').elim

end DG

/-
  What code leaves alone: the temporaries that it does not set, and the panic under way.
-/
namespace DG
open Go Go.RowKit

variable {P : Program} {E : Env}

theorem hasBit_eq (m i : Nat) : hasBit m i = m.testBit i := by
  show Nat.beq (Nat.land (Nat.shiftRight m i) 1) 1 = _
  rw [beq_eq, Nat.testBit]
  show decide ((m >>> i) &&& 1 = 1) = _
  rw [Nat.and_comm]
  have h : 1 &&& (m >>> i) = 0 ∨ 1 &&& (m >>> i) = 1 := by
    rw [Nat.and_comm, Nat.and_one_is_mod]
    omega
  rcases h with h | h <;> rw [h] <;> rfl

theorem bit_test (i j : Nat) : (bit i).testBit j = decide (i = j) := by
  show (1 <<< i).testBit j = _
  rw [Nat.one_shiftLeft, Nat.testBit_two_pow]

theorem inMask_eq (m i : Nat) : inMask m i = m.testBit i := hasBit_eq m i

theorem memN_eq (t : Nat) (l : List Nat) : memN t l = decide (t ∈ l) := by
  induction l with
  | nil => rfl
  | cons a l ih =>
    show (bif Nat.beq a t then true else memN t l) = _
    rw [ih, beq_eq]
    by_cases h : a = t
    · subst h; simp
    · have h' : ¬ t = a := fun e => h e.symm
      simp [h, h']

theorem mem_dedup (t : Nat) (l : List Nat) : t ∈ dedup l ↔ t ∈ l := by
  induction l with
  | nil => exact Iff.rfl
  | cons a l ih =>
    show t ∈ (bif memN a (dedup l) then dedup l else a :: dedup l) ↔ _
    rw [memN_eq]
    by_cases h : a ∈ dedup l
    · rw [decide_eq_true h, cond_true, ih, List.mem_cons]
      constructor
      · exact .inr
      · rintro (rfl | h')
        · exact ih.1 h
        · exact h'
    · rw [decide_eq_false h, cond_false, List.mem_cons, List.mem_cons, ih]

theorem maskOf_test (l : List Nat) (t : Nat) : (maskOf l).testBit t = decide (t ∈ l) := by
  induction l with
  | nil => simp [maskOf]
  | cons a l ih =>
    show (Nat.lor (Nat.shiftLeft 1 a) (maskOf l)).testBit t = _
    have : (Nat.lor (Nat.shiftLeft 1 a) (maskOf l)) = bit a ||| maskOf l := rfl
    rw [this, Nat.testBit_or, ih, bit_test]
    by_cases h : a = t
    · subst h; simp
    · have h' : ¬ t = a := fun e => h e.symm
      simp [h, h']

theorem tget_without (m : Nat) (l : Tmps) (t : Nat) : tget (without m l) t = if m.testBit t then .unk else tget l t := by
  induction l with
  | nil => show DV.unk = _; split <;> rfl
  | cons p l ih =>
    show tget (bif inMask m p.1 then without m l else p :: without m l) t = _
    rw [inMask_eq, tget_cons]
    cases hm : m.testBit p.1 with
    | true =>
      rw [cond_true, ih]
      by_cases ht : p.1 = t
      · subst ht; rw [if_pos hm, if_pos hm]
      · rw [if_neg ht]
    | false =>
      rw [cond_false, tget_cons]
      by_cases ht : p.1 = t
      · subst ht; rw [if_pos rfl, if_pos rfl, if_neg (by simp [hm])]
      · rw [if_neg ht, if_neg ht, ih]

theorem keep_eq {β : Type} (now : Tmps) (keys : List Nat) (f : Tmps → β) : keep now keys f = f (keys.map fun k => (k, tget now k)) := by
  unfold keep
  induction keys generalizing f with
  | nil => rfl
  | cons k keys ih =>
    show dvK (tget now k) (fun v => List.rec (motive := fun _ => (Tmps → β) → β) (fun f => f []) (fun k _ ih f => dvK (tget now k) fun v => ih fun l => f ((k, v) :: l)) keys fun l => f ((k, v) :: l)) = _
    rw [dvK_eq, ih]
    rfl

theorem tget_keys (now rest : Tmps) (keys : List Nat) (t : Nat) : tget (keys.map (fun k => (k, tget now k)) ++ rest) t = if t ∈ keys then tget now t else tget rest t := by
  induction keys with
  | nil => rfl
  | cons k keys ih =>
    rw [List.map_cons, List.cons_append, tget_cons, ih]
    by_cases h : k = t
    · subst h; simp
    · have h' : ¬ t = k := fun e => h e.symm
      simp [h, h']

theorem tget_hide (l : List Nat) (ts : Tmps) (t : Nat) : tget (hide l ts) t = if t ∈ l then .unk else tget ts t := by
  induction ts with
  | nil => show DV.unk = _; split <;> rfl
  | cons p ts ih =>
    show tget (bif memN p.1 l then hide l ts else p :: hide l ts) t = _
    rw [memN_eq, tget_cons]
    by_cases hm : p.1 ∈ l
    · rw [decide_eq_true hm, cond_true, ih]
      by_cases ht : p.1 = t
      · subst ht; rw [if_pos hm, if_pos hm]
      · rw [if_neg ht]
    · rw [decide_eq_false hm, cond_false, tget_cons]
      by_cases ht : p.1 = t
      · subst ht; rw [if_pos rfl, if_pos rfl, if_neg hm]
      · rw [if_neg ht, if_neg ht, ih]

theorem itemsRun_keeps {rec : Rec} {round : Bool} {dsts : List (Option Tmp)} {set : List Nat} : ∀ {l seen : List Item} {ts : Tmps} {ds : List (DV × List DV)} {pan : Option DV} {h : Heap} {o : Out} {ts' : Tmps} {ds' : List (DV × List DV)} {pan' : Option DV} {h' : Heap},
    (itemsRun E rec round dsts set seen l).f ts ds pan h = .ok (.mk o ts' ds' pan' h') → pan' = pan ∧ (Norm o → ∀ t, t ∉ l.filterMap (·.o.dst) → tget ts' t = tget ts t) := by
  intro l
  induction l with
  | nil => intro seen ts ds pan h o ts' ds' pan' h' hr; cases hr; exact ⟨rfl, fun _ _ _ => rfl⟩
  | cons x l ih =>
    intro seen ts ds pan h o ts' ds' pan' h' hr
    have key : ∀ t, t ∉ (x :: l).filterMap (·.o.dst) → x.o.dst ≠ some t ∧ t ∉ l.filterMap (·.o.dst) := fun t ht =>
      ⟨fun e => ht (List.mem_filterMap.2 ⟨x, List.mem_cons_self .., e⟩), fun h => ht (by obtain ⟨y, hy, e⟩ := List.mem_filterMap.1 h; exact List.mem_filterMap.2 ⟨y, List.mem_cons_of_mem _ hy, e⟩)⟩
    have step : ∀ {seen : List Item} {v : DV} {ds1 : List (DV × List DV)} {pan1 : Option DV} {h1 : Heap}, (itemsRun E rec round dsts set seen l).f (setTmp x.o.dst v ts) ds1 pan1 h1 = .ok (.mk o ts' ds' pan' h') →
        pan' = pan1 ∧ (Norm o → ∀ t, t ∉ (x :: l).filterMap (·.o.dst) → tget ts' t = tget ts t) := fun hr => by
      obtain ⟨k1, k2⟩ := ih hr
      exact ⟨k1, fun hn t ht => (k2 hn t (key t ht).2).trans (tget_set (key t ht).1)⟩
    unfold itemsRun at hr
    cases hq : quiet x.o.op with
    | true =>
      simp only [hq] at hr
      split at hr
      · obtain ⟨⟨v, h1⟩, _, hr⟩ := andThen_ok hr
        exact step (need_ok hr).2
      · exact step hr
      · exact (bad_ok hr).elim
    | false =>
      simp only [hq] at hr
      split at hr
      · obtain ⟨r, hop, hr⟩ := andThen_ok hr
        cases r with
        | val v ds1 pan1 h1 =>
          have hp := opRun_pan hop
          subst hp
          simp only at hr
          split at hr
          · exact step hr
          · exact step (need_ok hr).2
        | panic v h1 => cases hr; exact ⟨rfl, fun hn => hn.elim⟩
      · exact step hr
      · exact (bad_ok hr).elim

theorem early_mem : ∀ {n done : Nat} {l : List Item} {x : Item}, x ∈ early done n l → x ∈ l := by
  have pick_mem : ∀ {q : Bool} {done : Nat} {l : List Item} {x : Item} {r : List Item}, pick q done l = some (x, r) → x ∈ l ∧ ∀ y ∈ r, y ∈ l := by
    intro q done l
    induction l with
    | nil => intro x r h; exact nomatch h
    | cons z l ih =>
      intro x r h
      unfold pick at h
      split at h
      · cases h; exact ⟨List.mem_cons_self .., fun y hy => List.mem_cons_of_mem _ hy⟩
      · cases hp : pick q done l with
        | none => rw [hp] at h; exact nomatch h
        | some yr =>
          obtain ⟨y, ys⟩ := yr
          rw [hp] at h
          cases h
          obtain ⟨h1, h2⟩ := ih hp
          refine ⟨List.mem_cons_of_mem _ h1, fun u hu => ?_⟩
          rcases List.mem_cons.1 hu with rfl | hu
          · exact List.mem_cons_self ..
          · exact List.mem_cons_of_mem _ (h2 u hu)
  intro n
  induction n with
  | zero => intro done l x h; exact nomatch h
  | succ n ih =>
    intro done l x h
    unfold early at h
    split at h
    · rename_i y l' hp
      obtain ⟨h1, h2⟩ := pick_mem hp
      rcases List.mem_cons.1 h with rfl | h
      · exact h1
      · exact h2 x (ih h)
    · split at h
      · rename_i y l' hp
        obtain ⟨h1, h2⟩ := pick_mem hp
        rcases List.mem_cons.1 h with rfl | h
        · exact h1
        · exact h2 x (ih h)
      · exact nomatch h

theorem number_mem : ∀ {l : List Oper} {ps : List Nat} {i : Nat} {x : Item}, x ∈ number i l ps → i ≤ x.i ∧ l[x.i - i]? = some x.o ∧ ps[x.i - i]? = some x.pre
  | [], _, _, _, h => nomatch h
  | _ :: _, [], _, _, h => nomatch h
  | o :: os, p :: ps, i, x, h => by
    rcases List.mem_cons.1 h with rfl | h
    · simp
    · obtain ⟨h1, h2, h3⟩ := number_mem h
      have : x.i - i = (x.i - (i + 1)) + 1 := by omega
      refine ⟨by omega, ?_, ?_⟩ <;> rw [this] <;> assumption

theorem drawRun_keeps {rec : Rec} {round : Bool} {l : List Oper} {ts : Tmps} {ds : List (DV × List DV)} {pan : Option DV} {h : Heap} {o : Out} {ts' : Tmps} {ds' : List (DV × List DV)} {pan' : Option DV} {h' : Heap}
    (hr : (drawRun E rec round l).f ts ds pan h = .ok (.mk o ts' ds' pan' h')) : pan' = pan ∧ (Norm o → ∀ t, t ∉ l.filterMap (·.dst) → tget ts' t = tget ts t) := by
  unfold drawRun at hr
  simp only at hr
  split at hr
  · split at hr
    · obtain ⟨h1, h2⟩ := itemsRun_keeps hr
      refine ⟨h1, fun hn t ht => h2 hn t fun hm => ht ?_⟩
      obtain ⟨x, hx, e⟩ := List.mem_filterMap.1 hm
      have hx' := number_mem (early_mem hx)
      exact List.mem_filterMap.2 ⟨x.o, List.mem_of_getElem? hx'.2.1, e⟩
    · exact (bad_ok hr).elim
  · exact (bad_ok hr).elim

theorem plainRun_keeps {rec : Rec} {round rc : Bool} {l : List Oper} {ts : Tmps} {ds : List (DV × List DV)} {pan : Option DV} {h : Heap} {o : Out} {ts' : Tmps} {ds' : List (DV × List DV)} {pan' : Option DV} {h' : Heap}
    (hr : (plainRun E rec round rc l).f ts ds pan h = .ok (.mk o ts' ds' pan' h')) : (rc = false → pan' = pan) ∧ (∀ t, t ∉ l.filterMap (·.dst) → tget ts' t = tget ts t) := by
  unfold plainRun at hr
  simp only at hr
  split at hr
  · exact opsRun_keeps hr
  · split at hr
    · have := opsRun_keeps hr
      exact ⟨fun e => (nomatch e), this.2⟩
    · split at hr
      · have := opsRun_keeps hr
        exact ⟨fun e => (nomatch e), this.2⟩
      · exact (bad_ok hr).elim

/-- Rounds, as far as they leave things alone. -/
theorem rounds_keeps {body : K} {keys : Keys} {rest : Tmps} {bound : Nat} {S : Nat → Prop} (hkeys : ∀ t, ¬ S t → t ∉ keys.l)
    (hbody : ∀ ts ds pan h o ts' ds' pan' h', body.f ts ds pan h = .ok (.mk o ts' ds' pan' h') → pan' = pan ∧ (Norm o → ∀ t, ¬ S t → tget ts' t = tget ts t)) :
    ∀ (fuel : Nat) (ts : Tmps) (ds : List (DV × List DV)) (pan : Option DV) (h : Heap) (o : Out) (ts' : Tmps) (ds' : List (DV × List DV)) (pan' : Option DV) (h' : Heap), (∀ t, ¬ S t → tget ts t = tget rest t) →
      rounds body keys rest bound fuel ts ds pan h = .ok (.mk o ts' ds' pan' h') → pan' = pan ∧ (Norm o → ∀ t, ¬ S t → tget ts' t = tget rest t) := by
  intro fuel
  induction fuel with
  | zero => intro ts ds pan h o ts' ds' pan' h' _ hr; exact (bad_ok hr).elim
  | succ fuel ih =>
    intro ts ds pan h o ts' ds' pan' h' hts hr
    obtain ⟨⟨o1, ts1, ds1, pan1, h1⟩, hb, hr⟩ := andThen_ok hr
    obtain ⟨k1, k2⟩ := hbody _ _ _ _ _ _ _ _ _ hb
    subst k1
    cases o1 with
    | norm =>
      have hr' : keep ts1 keys.l (fun ks => match h with
        | ⟨n, _⟩ => rounds body keys rest bound fuel (ks ++ rest) ds1 pan1 (bif Nat.ble bound n then cutHeap n h1 (tmpVals ks ++ dferVals ds1 ++ pan1.toList) else h1)) = .ok (.mk o ts' ds' pan' h') := hr
      rw [keep_eq] at hr'
      exact ih _ _ _ _ _ _ _ _ _ (fun t ht => by rw [tget_keys, if_neg (hkeys t ht)]) hr'
    | exit id => cases hr; exact ⟨rfl, fun hn t ht => (k2 hn t ht).trans (hts t ht)⟩
    | ret => cases hr; exact ⟨rfl, fun hn t ht => (k2 hn t ht).trans (hts t ht)⟩
    | panic v => cases hr; exact ⟨rfl, fun hn => hn.elim⟩

theorem code_keeps {rec : Rec} {all : List Nat} {np nt : Nat} {round : Option Nat} {fn : FuncId} : ∀ (c : Code) (rc : Bool) (ts : Tmps) (ds : List (DV × List DV)) (pan : Option DV) (h : Heap) (o : Out) (ts' : Tmps) (ds' : List (DV × List DV)) (pan' : Option DV) (h' : Heap),
    (codeRun E rec all np nt round fn rc c).f ts ds pan h = .ok (.mk o ts' ds' pan' h') → (rc = false → pan' = pan) ∧ (Norm o → ∀ t, t ∉ sets c → tget ts' t = tget ts t) := by
  intro c
  induction c with
  | skip => intro rc ts ds pan h o ts' ds' pan' h' hr; cases hr; exact ⟨fun _ => rfl, fun _ _ _ => rfl⟩
  | exit id => intro rc ts ds pan h o ts' ds' pan' h' hr; cases hr; exact ⟨fun _ => rfl, fun _ _ _ => rfl⟩
  | ret => intro rc ts ds pan h o ts' ds' pan' h' hr; cases hr; exact ⟨fun _ => rfl, fun _ _ _ => rfl⟩
  | region id ops draw =>
    intro rc ts ds pan h o ts' ds' pan' h' hr
    cases draw with
    | false =>
      have hr' : (match (plainRun E rec (inRound round) rc ops.toList).f ts ds pan h with | .ok r => (.ok r : R St) | .error (s, l) => .error (s, (fn, id) :: l)) = .ok (.mk o ts' ds' pan' h') := hr
      split at hr'
      · rename_i r he
        cases hr'
        have := plainRun_keeps he
        exact ⟨this.1, fun _ => this.2⟩
      · exact nomatch hr'
    | true =>
      have hr' : (match (drawRun E rec (inRound round) ops.toList).f ts ds pan h with | .ok r => (.ok r : R St) | .error (s, l) => .error (s, (fn, id) :: l)) = .ok (.mk o ts' ds' pan' h') := hr
      split at hr'
      · rename_i r he
        cases hr'
        have := drawRun_keeps he
        exact ⟨fun _ => this.1, this.2⟩
      · exact nomatch hr'
  | seq a b iha ihb =>
    intro rc ts ds pan h o ts' ds' pan' h' hr
    obtain ⟨⟨o1, ts1, ds1, pan1, h1⟩, ha, hr⟩ := andThen_ok hr
    obtain ⟨k1, k2⟩ := iha _ _ _ _ _ _ _ _ _ _ ha
    cases o1 with
    | norm =>
      obtain ⟨k3, k4⟩ := ihb _ _ _ _ _ _ _ _ _ _ hr
      exact ⟨fun e => (k3 e).trans (k1 e), fun hn t ht => (k4 hn t fun h => ht (List.mem_append_right _ h)).trans (k2 trivial t fun h => ht (List.mem_append_left _ h))⟩
    | exit id => cases hr; exact ⟨k1, fun hn t ht => k2 hn t fun h => ht (List.mem_append_left _ h)⟩
    | ret => cases hr; exact ⟨k1, fun hn t ht => k2 hn t fun h => ht (List.mem_append_left _ h)⟩
    | panic v => cases hr; exact ⟨k1, fun hn => hn.elim⟩
  | cond c a b iha ihb =>
    intro rc ts ds pan h o ts' ds' pan' h' hr
    obtain ⟨v, _, hr⟩ := andThen_ok hr
    split at hr
    · split at hr
      · obtain ⟨k1, k2⟩ := iha _ _ _ _ _ _ _ _ _ _ hr
        exact ⟨k1, fun hn t ht => k2 hn t fun h => ht (List.mem_append_left _ h)⟩
      · obtain ⟨k1, k2⟩ := ihb _ _ _ _ _ _ _ _ _ _ hr
        exact ⟨k1, fun hn t ht => k2 hn t fun h => ht (List.mem_append_right _ h)⟩
    · exact (bad_ok hr).elim
  | block id body ih =>
    intro rc ts ds pan h o ts' ds' pan' h' hr
    obtain ⟨⟨o1, ts1, ds1, pan1, h1⟩, ha, hr⟩ := andThen_ok hr
    obtain ⟨k1, k2⟩ := ih _ _ _ _ _ _ _ _ _ _ ha
    cases o1 with
    | norm => cases hr; exact ⟨fun _ => k1 rfl, k2⟩
    | exit id' => cases hr; exact ⟨fun _ => k1 rfl, fun _ t ht => k2 trivial t ht⟩
    | ret => cases hr; exact ⟨fun _ => k1 rfl, k2⟩
    | panic v => cases hr; exact ⟨fun _ => k1 rfl, k2⟩
  | loop body ih =>
    intro rc ts ds pan h o ts' ds' pan' h' hr
    have hr' : natK (refsL (tmpVals ts)) (fun bound => listK (without (maskOf (dedup (sets body))) ts) fun rest =>
      rounds (codeRun E rec all np nt round fn false body) ⟨carried all np body, maskOf (dedup (sets body))⟩ rest bound 100000 ts ds pan h) = .ok (.mk o ts' ds' pan' h') := hr
    rw [natK_eq, listK_eq] at hr'
    have hrest : ∀ t, ¬ t ∈ sets body → tget ts t = tget (without (maskOf (dedup (sets body))) ts) t := fun t ht => by
      rw [tget_without, maskOf_test, if_neg (by simp [mem_dedup, ht])]
    obtain ⟨k1, k2⟩ := rounds_keeps (S := fun t => t ∈ sets body) (fun t ht hk => ht ((mem_dedup t _).1 (List.mem_filter.1 hk).1))
      (fun ts ds pan h o ts' ds' pan' h' hb => ⟨(ih false ts ds pan h o ts' ds' pan' h' hb).1 rfl, (ih false ts ds pan h o ts' ds' pan' h' hb).2⟩) _ _ _ _ _ _ _ _ _ _ hrest hr'
    exact ⟨fun _ => k1, fun hn t ht => (k2 hn t ht).trans (hrest t ht).symm⟩
  | rangeFunc f params assign body =>
    intro rc ts ds pan h o ts' ds' pan' h' hr
    obtain ⟨v, _, hr⟩ := andThen_ok hr
    obtain ⟨_, hr⟩ := need_ok hr
    obtain ⟨n, l⟩ := h
    obtain ⟨_, hr⟩ := need_ok hr
    rw [natK_eq, hnew_eq] at hr
    split at hr
    · rw [listK_eq] at hr
      obtain ⟨⟨e, p, h2⟩, _, hr⟩ := andThen_ok hr
      cases e with
      | panic u => cases hr; exact ⟨fun _ => rfl, fun _ _ _ => rfl⟩
      | ret u =>
        simp only at hr
        split at hr
        · obtain ⟨_, hr⟩ := need_ok hr
          rw [hset_eq] at hr
          split at hr
          · cases hr; exact ⟨fun _ => rfl, fun _ _ _ => rfl⟩
          · cases hr; exact ⟨fun _ => rfl, fun _ _ _ => rfl⟩
          · cases hr; exact ⟨fun _ => rfl, fun _ _ _ => rfl⟩
          · exact (bad_ok hr).elim
        · exact (bad_ok hr).elim
    · exact (bad_ok hr).elim
  | _ => intro rc ts ds pan h o ts' ds' pan' h' hr; exact (bad_ok hr).elim

end DG

/-
  Loops and ranges over functions.
-/
namespace DG
open Go Go.RowKit

variable {P : Program} {E : Env}

theorem least (p : Nat → Prop) : ∀ k, p k → ∃ m, p m ∧ ∀ j, p j → m ≤ j := by
  intro k
  induction k using Nat.strongRecOn with
  | _ k ih =>
    intro hk
    by_cases h : ∃ j, j < k ∧ p j
    · obtain ⟨j, hj, hp⟩ := h
      exact ih j hj hp
    · exact ⟨k, hk, fun j hp => by
        rcases Nat.lt_or_ge j k with hl | hl
        · exact absurd ⟨j, hl, hp⟩ h
        · exact hl⟩

theorem wpIn_loop_fuel {F : Fence} {n : Nat} {Q : Exit → Act → World → Prop} {a : Act} {w : World} {c : Code} (I : Nat → Act → World → Prop) (k : Nat) (h₀ : I k a w)
    (round : ∀ k a w, I k a w → c.wpIn F n P (Exit.then (fun a' w' => ∃ j, j < k ∧ I j a' w') Q) a w) : (Code.loop c).wpIn F n P Q a w := by
  have ex : ∀ a w, (∃ k, I k a w) → ∃ m, I m a w ∧ ∀ j, I j a w → m ≤ j := fun a w ⟨k, hk⟩ => least (fun k => I k a w) k hk
  refine wpIn_loop (fun a w => ∃ k, I k a w) (fun a w => open Classical in if h : ∃ k, I k a w then Classical.choose (ex a w h) else 0) ⟨k, h₀⟩ ?_
  intro a w hI
  have hm := Classical.choose_spec (ex a w hI)
  refine wpIn_mono (round _ a w hm.1) ?_
  intro e a' w' hq
  cases e <;> try exact hq
  obtain ⟨j, hj, hIj⟩ := hq
  refine ⟨⟨j, hIj⟩, ?_⟩
  have hex : ∃ k, I k a' w' := ⟨j, hIj⟩
  rw [dif_pos hex, dif_pos hI]
  exact Nat.lt_of_le_of_lt ((Classical.choose_spec (ex a' w' hex)).2 j hIj) hj

/-! ### Objects dropped at a round's end -/

theorem DR.grow {μ μ' : Loc} {w : World} {base : Nat → Prop} {n : Nat} (hg : Grow n μ μ') : ∀ {dd : List Deferred} {ds : List (DV × List DV)}, refsL (dferVals ds) ≤ n → DR μ w base ds dd → DR μ' w base ds dd
  | [], ds, _, hd => hd
  | d :: dd, ds, hr, hd => by
    rcases hd with ⟨r, h1, h2, h3, h4, h5, h6⟩ | ⟨g, first, cap, vs, ds', fs, cs, as, h1, h2, h3, h4, h5, h6⟩
    · exact .inl ⟨r, h1, h2, h3, h4, h5, DR.grow hg hr h6⟩
    · subst h1
      have e : dferVals ((DV.func (.func g) first cap, vs) :: ds') = DV.func (.func g) first cap :: vs ++ dferVals ds' := rfl
      rw [e, refsL_append] at hr
      simp only [refsL, refs] at hr
      exact .inr ⟨g, first, cap, vs, ds', fs, cs, as, rfl, h2, Vs.grow hg (by omega) h3, Vs.grow hg (by omega) h4, Vs.grow hg (by omega) h5, DR.grow hg (by omega) h6⟩

/-- 'cutHeap', and where the places are kept. -/
theorem H.cutHeap' {μ : Loc} {h : Heap} {w : World} (hh : H μ h w) (n : Nat) (vs : List DV) :
    ∃ μ', H μ' (DG.cutHeap n h vs) w ∧ (μ' = μ ∨ refsL vs ≤ n ∧ Grow n μ μ') ∧ (∀ b, Owned μ' b → Owned μ b) ∧ (n ≤ h.n → n ≤ (DG.cutHeap n h vs).n) ∧ (∀ id, μ id = none → μ' id = none) := by
  obtain ⟨m, l⟩ := h
  unfold DG.cutHeap
  simp only [ble_eq, listK_eq, drops_eq, alls_eq]
  by_cases h1 : m ≤ n
  · rw [decide_eq_true h1, cond_true]
    exact ⟨μ, hh, .inl rfl, fun _ h => h, fun h => h, fun _ h => h⟩
  · rw [decide_eq_false h1, cond_false]
    by_cases h2 : refsL vs ≤ n
    · rw [decide_eq_true h2]
      cases h3 : (l.drop (m - n)).all fun s => decide (s.bound ≤ n) with
      | false => exact ⟨μ, hh, .inl rfl, fun _ h => h, fun h => h, fun _ h => h⟩
      | true =>
        refine ⟨cutLoc n μ, hh.cut n (show n ≤ m by omega) fun s hs => ?_, .inr ⟨h2, grow_cut n μ⟩, fun b ⟨id, p, hp, e, r⟩ => ⟨id, p, (cutLoc_some hp).2, e, r⟩, fun _ => Nat.le_refl n, fun id e => by unfold cutLoc; split <;> first | exact e | rfl⟩
        have := List.all_eq_true.1 h3 s hs
        exact of_decide_eq_true this
    · rw [decide_eq_false h2]
      exact ⟨μ, hh, .inl rfl, fun _ h => h, fun h => h, fun _ h => h⟩

theorem Step.cut {n m : Nat} {μ μ' μ'' : Loc} {w w' : World} (st : Step n μ w μ' w') (hg : μ'' = μ' ∨ Grow m μ' μ'') (hm : n ≤ m) (ho : ∀ b, Owned μ'' b → Owned μ' b) (hk : ∀ id, μ' id = none → μ'' id = none) : Step n μ w μ'' w' where
  os := st.os
  tape := st.tape
  output := st.output
  size := st.size
  block := st.block
  own := fun b h => st.own b (ho b h)
  grow := by
    rcases hg with rfl | hg
    · exact st.grow
    · exact st.grow.trans hg hm
  keep := fun id hi e => hk id (st.keep id hi e)

section
variable {n₀ : Nat} {μ₀ : Loc} {w₀ : World} {base : Nat → Prop} {nt : Nat} {ro : Option Nat × Option Nat} {ts : Tmps} {ds : List (DV × List DV)} {h : Heap} {μ : Loc} {a : Act} {w : World}

/-- A round's end: some temporaries are forgotten, objects dropped. -/
theorem At.cut (hA : At n₀ μ₀ w₀ base nt ts ds h μ a w) {n bound : Nat} (hn : n₀ ≤ n) (hnh : n ≤ h.n) (keys : List Nat) (rest : Tmps) (hr : ∀ t, tget rest t = .unk ∨ tget rest t = tget ts t ∧ refs (tget rest t) ≤ bound) (pan : Option DV) :
    ∃ μ', At n₀ μ₀ w₀ base nt (keys.map (fun k => (k, tget ts k)) ++ rest) ds (bif Nat.ble bound n then cutHeap n h (tmpVals (keys.map fun k => (k, tget ts k)) ++ dferVals ds ++ pan.toList) else h) μ' a w := by
  have hT1 : T μ (keys.map (fun k => (k, tget ts k)) ++ rest) a.tmps := fun t => by
    rw [tget_keys]
    split
    · exact hA.t t
    · rcases hr t with e | ⟨e, _⟩
      · rw [e]; trivial
      · rw [e]; exact hA.t t
  rw [ble_eq]
  by_cases hb : bound ≤ n
  · rw [decide_eq_true hb, cond_true]
    obtain ⟨μ', h1, h2, h3, h4, h5⟩ := hA.hh.cutHeap' n (tmpVals (keys.map fun k => (k, tget ts k)) ++ dferVals ds ++ pan.toList)
    refine ⟨μ', ?_⟩
    rcases h2 with rfl | ⟨h2, hg⟩
    · exact ⟨hT1, hA.sz, hA.d, h1, hA.st, Nat.le_trans hn (h4 hnh)⟩
    · rw [refsL_append, refsL_append] at h2
      refine ⟨fun t => V.grow hg ?_ (hT1 t), hA.sz, hA.d.grow hg (by omega), h1, hA.st.cut (.inr hg) hn h3 h5, Nat.le_trans hn (h4 hnh)⟩
      have hks := tget_refs (keys.map fun k => (k, tget ts k)) t
      have h0 := tget_keys ts [] keys t
      rw [List.append_nil] at h0
      rw [tget_keys]
      split
      · rename_i hk
        rw [h0, if_pos hk] at hks
        omega
      · rcases hr t with e | ⟨_, e⟩
        · rw [e]; simp [refs]
        · omega
  · rw [decide_eq_false hb, cond_false]
    exact ⟨μ, hT1, hA.sz, hA.d, hA.hh, hA.st, hA.le⟩

/-- Another frame's deferred calls: those that a mark is pushed upon. -/
theorem At.defers (hA : At n₀ μ₀ w₀ base nt ts ds h μ a w) {w' : World} {dd : List Deferred} (hh : H μ h w') (st : Step h.n μ w μ w') (hD : DR μ w' base ds dd) : At n₀ μ₀ w₀ base nt ts ds h μ { a with defers := dd } w' where
  t := hA.t
  sz := hA.sz
  d := hD
  hh := hh
  st := hA.st.trans st hA.le
  le := hA.le

theorem Step.alloc {μ : Loc} {h : Heap} {w : World} (hh : H μ h w) (obj : Obj) : H μ h (w.alloc obj) ∧ Step h.n μ w μ (w.alloc obj) :=
  ⟨hh.other (by simp) fun i p hp => alloc_old _ _ _ (hh.lt i p hp), ⟨rfl, rfl, rfl, by simp, fun b hb _ => alloc_old _ _ _ hb, fun _ h => .inl h, Grow.refl _ _, fun _ _ h => h⟩⟩

theorem DR.lt {μ : Loc} {w : World} {base : Nat → Prop} : ∀ {dd : List Deferred} {ds : List (DV × List DV)}, DR μ w base ds dd → ∀ d ∈ dd, ∀ r, d.target = .collected r → r < w.heap.size ∧ base r
  | [], _, _, d, hd, _, _ => nomatch hd
  | d :: dd, ds, hD, d', hd', r, hr => by
    rcases hD with ⟨r', h1, h2, h3, h4, h5, h6⟩ | ⟨g, first, cap, vs, ds', fs, cs, as, h1, h2, h3, h4, h5, h6⟩
    · rcases List.mem_cons.1 hd' with rfl | hd'
      · rw [h1] at hr
        cases hr
        exact ⟨h3, h2⟩
      · exact DR.lt h6 d' hd' r hr
    · rcases List.mem_cons.1 hd' with rfl | hd'
      · rw [h2] at hr
        exact nomatch hr
      · exact DR.lt h6 d' hd' r hr

theorem newObj_run (o : Obj) (w : World) : (Go.newObj o).run P w = .ok w.heap.size (w.alloc o) := rfl

/-- A loop over a function is entered. -/
theorem enterLoop_run (hB : Base E n₀ μ₀ ro) (hle : ∀ r, w₀.heap.size ≤ r → base r) (hA : At n₀ μ₀ w₀ base nt ts ds h μ a w) (hth : roundThere ro.1 h = true) (fn' : FuncId) (tmps : Array Value) (ps : Array Tmp) (assign body : Code) :
    ∃ w1 mark d, (Instr.enterLoop fn' tmps ps assign body ro.2).run P w = .ok (w1.heap.size, mark) (w1.alloc (.loop { state := .ready, pending := none, fn := fn', tmps := tmps, params := ps, assign := assign, body := body, defers := d })) ∧
      At n₀ μ₀ w₀ base nt ts ds h μ { a with defers := mark ++ a.defers } w1 := by
  have hr := hB.r.step hB.out hA.st.grow
  cases h1 : ro.1 with
  | none =>
    rw [h1] at hr
    have h2 : ro.2 = none := hr
    rw [h2]
    obtain ⟨hh1, st1⟩ := Step.alloc hA.hh (.deferred (some []))
    refine ⟨w.alloc (.deferred (some [])), [{ target := .collected w.heap.size, args := #[] }], w.heap.size, ?_, hA.defers hh1 st1 ?_⟩
    · simp [Instr.enterLoop, newObj_run]
    · refine .inl ⟨w.heap.size, rfl, hle _ hA.st.size, by simp, alloc_new w _, fun d' hd' e => ?_, hA.d.step hA.hh st1⟩
      have := (hA.d.lt d' hd' _ e).1
      omega
  | some i =>
    rw [h1] at hr hth
    obtain ⟨p, hp, hf, h2⟩ := hr
    rw [h2]
    unfold roundThere at hth
    simp only at hth
    split at hth
    · rename_i bd st pend fn ts' ps' a' b' nt' hrow
      obtain ⟨tm, d, fn2, hb, _⟩ := hA.hh.obj i _ hrow p hp
      refine ⟨w, [], d, ?_, hA⟩
      have hget : (Instr.getLoop p.b).run P w = .ok { state := st, pending := pend, fn := fn2, tmps := tm, params := ps'.toArray, assign := a', body := b', defers := d } w := by
        simp [Instr.getLoop, getObj, Sem.run, hb]
      simp [Instr.enterLoop, hget, newObj_run]
    · exact nomatch hth
end
end DG

/-
  Code is carried out as the interpreter says.
-/
namespace DG
open Go Go.RowKit

variable {P : Program} {E : Env}

section
variable {n₀ : Nat} {μ₀ : Loc} {w₀ : World} {base : Nat → Prop} {nt : Nat} {ro : Option Nat × Option Nat}

/-- The record of a loop, turned. -/
theorem loop_put {μ : Loc} {h : Heap} {w : World} (hh : H μ h w) {l bd : Nat} {st : LoopState} {pend : Option Code} {fn : FuncId} {ts : Tmps} {ps : List Tmp} {a b : Code} {nt : Nat} (hrow : hrow h l = some ⟨bd, .loop st pend fn ts ps a b nt⟩) {p : Place} (hp : μ l = some p) :
    ∃ tm d fn', (Instr.getLoop p.b).run P w = .ok { state := st, pending := pend, fn := fn', tmps := tm, params := ps.toArray, assign := a, body := b, defers := d } w ∧ T μ ts tm ∧ tm.size = nt ∧
      ∀ st' pend', (setObj p.b (.loop { state := st', pending := pend', fn := fn', tmps := tm, params := ps.toArray, assign := a, body := b, defers := d })).run P w = .ok () (setBlk w p.b (.loop { state := st', pending := pend', fn := fn', tmps := tm, params := ps.toArray, assign := a, body := b, defers := d })) ∧
        H μ ⟨h.n, h.l.set (h.n - 1 - l) ⟨bd, .loop st' pend' fn ts ps a b nt⟩⟩ (setBlk w p.b (.loop { state := st', pending := pend', fn := fn', tmps := tm, params := ps.toArray, assign := a, body := b, defers := d })) ∧
        Step h.n μ w μ (setBlk w p.b (.loop { state := st', pending := pend', fn := fn', tmps := tm, params := ps.toArray, assign := a, body := b, defers := d })) := by
  obtain ⟨tm, d, fn', hb, h1, h2, h3, hT, hsz⟩ := hh.obj l _ hrow p hp
  have hbd : refsL (tmpVals ts) ≤ bd := hh.bound _ (hrow_mem hrow)
  have hbn : bd ≤ h.n := hh.refs l _ hrow
  have hlt := hh.lt l p hp
  refine ⟨tm, d, fn', by simp [Instr.getLoop, getObj, Sem.run, hb], hT, hsz, fun st' pend' => ⟨by simp [setObj, Sem.run, hb, setBlk], ?_⟩⟩
  exact hh.put l _ hrow p hp h1 (.loop st' pend' fn ts ps a b nt) bd hbd hbn _ ⟨tm, d, fn', setBlk_same hlt, h1, h2, h3, hT, hsz⟩

theorem range_sound {F : Fence} (hW : WideF F) (hF : F.round = ro.2) {rec : Rec} (rk : RecOk P E rec) (eo : ExtOk P E) (hB : Base E n₀ μ₀ ro) (hle : ∀ r, w₀.heap.size ≤ r → base r) {n : Nat} {all : List Nat} {np : Nat} {fn : FuncId} {g : Operand} {ps : Array Tmp} {assign body : Code}
    {ts : Tmps} {ds : List (DV × List DV)} {pan : Option DV} {h : Heap} {μ : Loc} {a : Act} {w : World} {st : St} {rc : Bool} (hr : (codeRun E rec all np nt ro.1 fn rc (.rangeFunc g ps assign body)).f ts ds pan h = .ok st) (hA : At n₀ μ₀ w₀ base nt ts ds h μ a w) :
    (Code.rangeFunc g ps assign body).wpIn F n P (Fin n₀ μ₀ w₀ base nt st) a w := by
  obtain ⟨fv, hfv, hr⟩ := andThen_ok hr
  obtain ⟨hth, hr⟩ := need_ok hr
  obtain ⟨hfV, _⟩ := arg_V hfv hA.t (hA.globs hB)
  obtain ⟨hbd, hr⟩ := need_ok hr
  rw [natK_eq, hnew_eq] at hr
  simp only at hr
  split at hr
  · rename_i g' first cap _ _ _
    rw [listK_eq] at hr
    obtain ⟨⟨e, pan', h2⟩, hcall, hr⟩ := andThen_ok hr
    obtain ⟨gf, A, B, hgv, hFn, hA1, hB1⟩ := hfV
    cases hFn
    refine wpIn_rangeFunc fun fn' _ => ?_
    rw [hF]
    obtain ⟨w1, mark, d, hent, hA'⟩ := enterLoop_run (P := P) hB hle hA hth fn' a.tmps ps assign body
    have hle : refsL (tmpVals ts) ≤ h.n + 1 := by
      have := Nat.le_of_ble_eq_true hbd
      exact this
    obtain ⟨hh1, st1⟩ := hA'.hh.new (.loop .ready none fn ts ps.toList assign body nt) (h.n + 1) (.loop { state := .ready, pending := none, fn := fn', tmps := a.tmps, params := ps, assign := assign, body := body, defers := d })
      ⟨w1.heap.size, 0, 0, 0, false, true⟩ rfl hle (Nat.le_refl _) ⟨a.tmps, d, fn', by rw [alloc_new], rfl, rfl, rfl, T.step hA'.hh.out (grow_upd (Nat.le_refl _)) hA'.t, hA'.sz⟩
    generalize w1.alloc (.loop { state := .ready, pending := none, fn := fn', tmps := a.tmps, params := ps, assign := assign, body := body, defers := d }) = W at hent hh1 st1
    obtain ⟨hent2, hcalls⟩ := callFn_sound rk eo hcall
    have hargs : Vs (upd μ h.n ⟨w1.heap.size, 0, 0, 0, false, true⟩) (first ++ [DV.func (.yield h.n) [] []] ++ cap) (A ++ #[Value.func (.yield w1.heap.size) #[] #[]] ++ B).toList := by
      have y : Vs (upd μ h.n ⟨w1.heap.size, 0, 0, 0, false, true⟩) [DV.func (.yield h.n) [] []] [Value.func (.yield w1.heap.size) #[] #[]] :=
        ⟨_, [], rfl, ⟨_, #[], #[], rfl, ⟨_, upd_same .., rfl, rfl⟩, rfl, rfl⟩, rfl⟩
      simpa using ((Vs.step hA.hh.out (grow_upd (Nat.le_refl _)) hA1).append y).append (Vs.step hA.hh.out (grow_upd (Nat.le_refl _)) hB1)
    have hGs : Globs E (upd μ h.n ⟨w1.heap.size, 0, 0, 0, false, true⟩) := (hA'.globs hB).grow hA'.hh.out st1.grow
    have hcp := hcalls hargs hh1 hGs
    have hres0 : (resolve a.eval (rangeCall g w1.heap.size) 0).run P W = .ok { target := .fn (.func g') B, args := A ++ #[Value.func (.yield w1.heap.size) #[] #[]] } W := by
      have hc : a.eval (.const (.func (.yield w1.heap.size) #[] #[])) = Value.func (.yield w1.heap.size) #[] #[] := rfl
      simp [resolve, hgv, hc, Deferred.ofValue]
    have hinv : (invoke (.fn (.func g') B) (A ++ #[Value.func (.yield w1.heap.size) #[] #[]])).run P W = .ok (.enter g' (A ++ #[Value.func (.yield w1.heap.size) #[] #[]] ++ B)) W := by
      simp only [invoke]
      exact callFunc_run hent2
    refine ⟨w1.heap.size, mark, W, { target := .fn (.func g') B, args := A ++ #[Value.func (.yield w1.heap.size) #[] #[]] }, W, g', A ++ #[Value.func (.yield w1.heap.size) #[] #[]] ++ B, W, hent, hres0, fun f' _ => hW.fn f', hinv, hW.deep, hW.calls (hcp.mono ?_)⟩
    · rintro e' w' ⟨μ', he, hh', st', hle'⟩
      clear hres0 hinv hcp hargs hent
      have stA : Step h.n μ w1 μ' w' := st1.trans st' (Nat.le_succ _)
      have hleA : h.n ≤ h2.n := Nat.le_trans (Nat.le_succ _) hle'
      cases e with
      | panic v =>
        obtain ⟨x, rfl, hv⟩ := he
        cases hr
        exact ⟨μ', ⟨x, rfl, hv⟩, hA'.panic hh' stA hleA⟩
      | ret v =>
        obtain ⟨x, rfl, hv⟩ := he
        simp only at hr
        split at hr
        · rename_i bd st pend fn2 ts2 ps2 a2 b2 nt2 hrow
          obtain ⟨hbusy, hr⟩ := need_ok hr
          rw [hset_eq] at hr
          obtain ⟨p, hp, lat⟩ := st'.grow h.n (Nat.lt_succ_self _) _ (upd_same ..)
          have hpe := lat.fix rfl
          subst hpe
          obtain ⟨tm, dd, fn3, hget, _, _, hput⟩ := loop_put (P := P) hh' hrow hp
          obtain ⟨hset, hh3, st3⟩ := hput .exhausted pend
          have hend : (Instr.endLoop w1.heap.size).run P w' = .ok pend (setBlk w' w1.heap.size (.loop { state := .exhausted, pending := pend, fn := fn3, tmps := tm, params := ps2.toArray, assign := a2, body := b2, defers := dd })) := by
            have hb : (st == LoopState.busy) = false := by cases st <;> first | rfl | exact nomatch hbusy
            simp only [Instr.endLoop, Sem.run_bind, hget, Result.andThen_ok, hb, Bool.false_eq_true, if_false, Sem.run_pure, hset]
          have hA3 := hA'.panic hh3 (stA.trans st3 hleA) hleA
          refine ⟨pend, _, hend, ?_⟩
          split at hr
          · cases hr; exact ⟨μ', rfl, hA3⟩
          · cases hr; exact wpIn_ret ⟨μ', rfl, hA3⟩
          · cases hr; exact wpIn_exit ⟨μ', rfl, hA3⟩
          · exact (bad_ok hr).elim
        · exact (bad_ok hr).elim
  · exact (bad_ok hr).elim

/-- A region that draws its order. (Proved further on.) -/
def DrawSound (P : Program) (E : Env) (rec : Rec) : Prop := ∀ {n₀ : Nat} {μ₀ : Loc} {w₀ : World} {base : Nat → Prop} {nt : Nat} {ro : Option Nat × Option Nat} {F : Fence} {n : Nat}, WideF F → F.round = ro.2 → Base E n₀ μ₀ ro →
  ∀ {id : Nat} {ops : Array Oper} {ts : Tmps} {ds : List (DV × List DV)} {pan : Option DV} {h : Heap} {μ : Loc} {a : Act} {w : World} {st : St}, (drawRun E rec F.round.isSome ops.toList).f ts ds pan h = .ok st →
    (∀ t ∈ ops.toList.filterMap (·.dst), t < nt) → At n₀ μ₀ w₀ base nt ts ds h μ a w → (Code.region id ops true).wpIn F n P (Fin n₀ μ₀ w₀ base nt st) a w

theorem inRound_eq {μ : Loc} (h : RoundRel μ ro.1 ro.2) : inRound ro.1 = ro.2.isSome := by
  cases h1 : ro.1 with
  | none => rw [h1] at h; rw [show ro.2 = none from h]; rfl
  | some i => rw [h1] at h; obtain ⟨p, _, _, e⟩ := h; rw [e]; rfl

theorem region_plain {F : Fence} (hW : WideF F) (hF : F.round = ro.2) (tab : Tab P E) {rec : Rec} (rk : RecOk P E rec) (eo : ExtOk P E) (hB : Base E n₀ μ₀ ro) {n : Nat} {id : Nat} {ops : Array Oper} {ts : Tmps} {ds : List (DV × List DV)} {pan : Option DV} {h : Heap} {μ : Loc} {a : Act} {w : World} {st : St}
    (hr : (opsRun E rec (inRound ro.1) false (ops.toList.map fun o : Oper => o.dst) ops.toList).f ts ds pan h = .ok st) (hs : ∀ t ∈ ops.toList.filterMap (·.dst), t < nt) (hA : At n₀ μ₀ w₀ base nt ts ds h μ a w) :
    (Code.region id ops false).wpIn F n P (Fin n₀ μ₀ w₀ base nt st) a w := by
  refine wpIn_region ?_
  rw [inRound_eq hB.r, ← hF] at hr
  have := ops_sound (n := n) hW tab rk eo hB (fun _ _ _ h => h) ops.toList 0 ts ds h μ a w rfl hs hA hr
  rw [List.range_eq_range']
  simpa using this

theorem noRange_two {a b : Bool} (h : (match a with | true => b | false => false) = true) : a = true ∧ b = true := by
  cases a <;> simp_all

theorem At.here {ts : Tmps} {ds : List (DV × List DV)} {h : Heap} {μ : Loc} {a : Act} {w : World} (hA : At n₀ μ₀ w₀ base nt ts ds h μ a w) : At h.n μ w base nt ts ds h μ a w :=
  ⟨hA.t, hA.sz, hA.d, hA.hh, Step.refl _ _ _, Nat.le_refl _⟩

theorem Base.at {ts : Tmps} {ds : List (DV × List DV)} {h : Heap} {μ : Loc} {a : Act} {w : World} (hB : Base E n₀ μ₀ ro) (hA : At n₀ μ₀ w₀ base nt ts ds h μ a w) : Base E h.n μ ro :=
  ⟨hA.globs hB, hA.hh.out, hB.r.step hB.out hA.st.grow⟩

theorem At.on {ts ts' : Tmps} {ds ds' : List (DV × List DV)} {h h' : Heap} {μ μ' : Loc} {a a' : Act} {w w' : World} (hA : At n₀ μ₀ w₀ base nt ts ds h μ a w) (hA' : At h.n μ w base nt ts' ds' h' μ' a' w') : At n₀ μ₀ w₀ base nt ts' ds' h' μ' a' w' :=
  ⟨hA'.t, hA'.sz, hA'.d, hA'.hh, hA.st.trans hA'.st hA.le, Nat.le_trans hA.le hA'.le⟩

theorem code_sound {F : Fence} (hW : WideF F) (hF : F.round = ro.2) (tab : Tab P E) {rec : Rec} (rk : RecOk P E rec) (eo : ExtOk P E) (dr : DrawSound P E rec) {n : Nat} {all : List Nat} {np : Nat} {fn : FuncId} :
    ∀ (c : Code) (n₀ : Nat) (μ₀ : Loc) (w₀ : World), Base E n₀ μ₀ ro → (noRange c = true ∨ ∀ r, w₀.heap.size ≤ r → base r) → ∀ (ts : Tmps) (ds : List (DV × List DV)) (pan : Option DV) (h : Heap) (μ : Loc) (a : Act) (w : World) (st : St), (codeRun E rec all np nt ro.1 fn false c).f ts ds pan h = .ok st → (∀ t ∈ sets c, t < nt) →
      At n₀ μ₀ w₀ base nt ts ds h μ a w → c.wpIn F n P (Fin n₀ μ₀ w₀ base nt st) a w := by
  intro c
  induction c with
  | skip => intro n₀ μ₀ w₀ hB hm ts ds pan h μ a w st hr _ hA; cases hr; exact wpIn_skip ⟨μ, rfl, hA⟩
  | exit id => intro n₀ μ₀ w₀ hB hm ts ds pan h μ a w st hr _ hA; cases hr; exact wpIn_exit ⟨μ, rfl, hA⟩
  | ret => intro n₀ μ₀ w₀ hB hm ts ds pan h μ a w st hr _ hA; cases hr; exact wpIn_ret ⟨μ, rfl, hA⟩
  | region id ops draw =>
    intro n₀ μ₀ w₀ hB hm ts ds pan h μ a w st hr hs hA
    cases draw with
    | false =>
      have hr' : (match (opsRun E rec (inRound ro.1) false (ops.toList.map fun o : Oper => o.dst) ops.toList).f ts ds pan h with | .ok r => (.ok r : R St) | .error (s, l) => .error (s, (fn, id) :: l)) = .ok st := hr
      split at hr'
      · rename_i r he
        cases hr'
        exact region_plain hW hF tab rk eo hB he hs hA
      · exact nomatch hr'
    | true =>
      have hr' : (match (drawRun E rec (inRound ro.1) ops.toList).f ts ds pan h with | .ok r => (.ok r : R St) | .error (s, l) => .error (s, (fn, id) :: l)) = .ok st := hr
      split at hr'
      · rename_i r he
        cases hr'
        rw [inRound_eq hB.r, ← hF] at he
        exact dr hW hF hB he hs hA
      · exact nomatch hr'
  | seq x y ihx ihy =>
    intro n₀ μ₀ w₀ hB hm ts ds pan h μ a w st hr hs hA
    obtain ⟨⟨o1, ts1, ds1, pan1, h1⟩, hx, hr⟩ := andThen_ok hr
    refine wpIn_seq (wpIn_mono (ihx _ _ _ hB (hm.imp (fun h => (noRange_two h).1) id) _ _ _ _ _ _ _ _ hx (fun t ht => hs t (List.mem_append_left _ ht)) hA) ?_)
    rintro e a' w' ⟨μ', ho, hA'⟩
    cases o1 with
    | norm =>
      cases ho
      exact ihy _ _ _ hB (hm.imp (fun h => (noRange_two h).2) id) _ _ _ _ _ _ _ _ hr (fun t ht => hs t (List.mem_append_right _ ht)) hA'
    | exit id => cases ho; cases hr; exact ⟨μ', rfl, hA'⟩
    | ret => cases ho; cases hr; exact ⟨μ', rfl, hA'⟩
    | panic v => obtain ⟨x, rfl, hv⟩ := ho; cases hr; exact ⟨μ', ⟨x, rfl, hv⟩, hA'⟩
  | cond c x y ihx ihy =>
    intro n₀ μ₀ w₀ hB hm ts ds pan h μ a w st hr hs hA
    obtain ⟨v, hv, hr⟩ := andThen_ok hr
    obtain ⟨hvV, _⟩ := arg_V hv hA.t (hA.globs hB)
    split at hr
    · split at hr
      · exact wpIn_cond_true hvV (ihx _ _ _ hB (hm.imp (fun h => (noRange_two h).1) id) _ _ _ _ _ _ _ _ hr (fun t ht => hs t (List.mem_append_left _ ht)) hA)
      · exact wpIn_cond_false hvV (ihy _ _ _ hB (hm.imp (fun h => (noRange_two h).2) id) _ _ _ _ _ _ _ _ hr (fun t ht => hs t (List.mem_append_right _ ht)) hA)
    · exact (bad_ok hr).elim
  | block id body ih =>
    intro n₀ μ₀ w₀ hB hm ts ds pan h μ a w st hr hs hA
    obtain ⟨⟨o1, ts1, ds1, pan1, h1⟩, hx, hr⟩ := andThen_ok hr
    refine wpIn_block (wpIn_mono (ih _ _ _ hB hm _ _ _ _ _ _ _ _ hx hs hA) ?_)
    rintro e a' w' ⟨μ', ho, hA'⟩
    cases o1 with
    | norm => cases ho; cases hr; exact ⟨μ', rfl, hA'⟩
    | exit i =>
      cases ho
      cases hr
      unfold Exit.inBlock
      simp only
      by_cases hi : i = id
      · rw [if_pos hi]
        refine ⟨μ', ?_, hA'⟩
        rw [beq_eq, decide_eq_true hi]
        rfl
      · rw [if_neg hi]
        refine ⟨μ', ?_, hA'⟩
        rw [beq_eq, decide_eq_false hi]
        rfl
    | ret => cases ho; cases hr; exact ⟨μ', rfl, hA'⟩
    | panic v => obtain ⟨x, rfl, hv⟩ := ho; cases hr; exact ⟨μ', ⟨x, rfl, hv⟩, hA'⟩
  | loop body ih =>
    intro n₀ μ₀ w₀ hB hm ts ds pan h μ a w st hr hs hA
    have hr' : natK (refsL (tmpVals ts)) (fun bound => listK (without (maskOf (dedup (sets body))) ts) fun rest =>
      rounds (codeRun E rec all np nt ro.1 fn false body) ⟨carried all np body, maskOf (dedup (sets body))⟩ rest bound 100000 ts ds pan h) = .ok st := hr
    rw [natK_eq, listK_eq] at hr'
    have hrest : ∀ t, tget (without (maskOf (dedup (sets body))) ts) t = if t ∈ sets body then .unk else tget ts t := fun t => by
      rw [tget_without, maskOf_test]
      by_cases ht : t ∈ sets body
      · rw [if_pos ht, if_pos (by simp [mem_dedup, ht])]
      · rw [if_neg ht, if_neg (by simp [mem_dedup, ht])]
    generalize hR : without (maskOf (dedup (sets body))) ts = rest at hr' hrest
    generalize hBd : refsL (tmpVals ts) = bound at hr'
    refine wpIn_loop_fuel (fun k a w => ∃ ts1 ds1 pan1 h1 μ1, rounds (codeRun E rec all np nt ro.1 fn false body) ⟨carried all np body, maskOf (dedup (sets body))⟩ rest bound k ts1 ds1 pan1 h1 = .ok st ∧
      At n₀ μ₀ w₀ base nt ts1 ds1 h1 μ1 a w ∧ ∀ t, t ∉ sets body → tget ts1 t = tget ts t) 100000 ⟨ts, ds, pan, h, μ, hr', hA, fun _ _ => rfl⟩ ?_
    rintro k a w ⟨ts1, ds1, pan1, h1, μ1, hk, hA1, hts1⟩
    cases k with
    | zero => exact (bad_ok hk).elim
    | succ k =>
      obtain ⟨⟨o2, ts2, ds2, pan2, h2⟩, hb, hk⟩ := andThen_ok hk
      refine wpIn_mono (ih _ _ _ (hB.at hA1) (hm.imp id fun h r hr => h r (Nat.le_trans hA1.st.size hr)) _ _ _ _ _ _ _ _ hb hs hA1.here) ?_
      rintro e a' w' ⟨μ', ho, hA2'⟩
      have hA' := hA1.on hA2'
      cases o2 with
      | norm =>
        cases ho
        have hk' : keep ts2 (carried all np body) (fun ks => match h1 with
          | ⟨n, _⟩ => rounds (codeRun E rec all np nt ro.1 fn false body) ⟨carried all np body, maskOf (dedup (sets body))⟩ rest bound k (ks ++ rest) ds2 pan2 (bif Nat.ble bound n then cutHeap n h2 (tmpVals ks ++ dferVals ds2 ++ pan2.toList) else h2)) = .ok st := hk
        rw [keep_eq] at hk'
        have hk2 : rounds (codeRun E rec all np nt ro.1 fn false body) ⟨carried all np body, maskOf (dedup (sets body))⟩ rest bound k ((carried all np body).map (fun k => (k, tget ts2 k)) ++ rest) ds2 pan2
            (bif Nat.ble bound h1.n then cutHeap h1.n h2 (tmpVals ((carried all np body).map fun k => (k, tget ts2 k)) ++ dferVals ds2 ++ pan2.toList) else h2) = .ok st := hk'
        have keeps := (code_keeps body false ts1 ds1 pan1 h1 .norm ts2 ds2 pan2 h2 hb).2 trivial
        have hcut : h1.n ≤ h2.n := hA2'.le
        obtain ⟨μ2, hA2⟩ := hA'.cut (n := h1.n) (bound := bound) hA1.le hcut (carried all np body) rest (fun t => by
          rw [hrest t]
          by_cases ht : t ∈ sets body
          · rw [if_pos ht]; exact .inl rfl
          · rw [if_neg ht]
            refine .inr ⟨?_, ?_⟩
            · rw [keeps t ht, hts1 t ht]
            · rw [← hBd]; exact tget_refs ts t) pan2
        exact ⟨k, Nat.lt_succ_self k, _, _, _, _, _, hk2, hA2, fun t ht => by
          rw [tget_keys, if_neg (fun hc : t ∈ carried all np body => ht ((mem_dedup t _).1 (List.mem_filter.1 hc).1)), hrest t, if_neg ht]⟩
      | exit id => cases ho; cases hk; exact ⟨μ', rfl, hA'⟩
      | ret => cases ho; cases hk; exact ⟨μ', rfl, hA'⟩
      | panic v => obtain ⟨x, rfl, hv⟩ := ho; cases hk; exact ⟨μ', ⟨x, rfl, hv⟩, hA'⟩
  | rangeFunc g ps assign body _ _ =>
    intro n₀ μ₀ w₀ hB hm ts ds pan h μ a w st hr hs hA
    exact range_sound hW hF rk eo hB (hm.resolve_left (by simp [noRange])) hr hA
  | _ => intro n₀ μ₀ w₀ hB hm ts ds pan h μ a w st hr _ hA; exact (bad_ok hr).elim
end
end DG

/-
  How a call is left; deferred functions; the whole.
-/
namespace DG
open Go Go.RowKit

variable {P : Program} {E : Env}

/-! ### Results -/

def resSem (tmps : Array Value) : ResultVar → Sem Value
  | .tmp t => pure (tmps.getD t Go.undef)
  | .cell a t => do loadVar t (← asAddr (tmps.getD a Go.undef))

theorem results_run (tab : Tab P E) {μ : Loc} {h : Heap} {w : World} (hh : H μ h w) {ts : Tmps} {tmps : Array Value} (hT : T μ ts tmps) : ∀ (rs : List ResultVar) (vs : List DV), resultsOf E rs ts h = .ok vs →
    ∃ l, (rs.mapM (resSem tmps)).run P w = .ok l w ∧ Vs μ vs l := by
  intro rs
  induction rs with
  | nil => intro vs e; cases e; exact ⟨[], rfl, rfl⟩
  | cons r rs ih =>
    intro vs e
    cases r with
    | tmp t =>
      have e' : dvK (tget ts t) (fun v => andThen (resultsOf E rs ts h) fun vs => (.ok (v :: vs) : R (List DV))) = .ok vs := e
      rw [dvK_eq] at e'
      obtain ⟨vs', h1, e'⟩ := andThen_ok e'
      cases e'
      obtain ⟨l, h2, h3⟩ := ih vs' h1
      exact ⟨_ :: l, by simp [List.mapM_cons, resSem, h2], ⟨_, _, rfl, hT t, h3⟩⟩
    | cell ca t =>
      obtain ⟨ti, hti, e⟩ := opt_ok e
      obtain ⟨v, hv, e⟩ := andThen_ok e
      obtain ⟨vs', h1, e⟩ := andThen_ok e
      cases e
      obtain ⟨l, h2, h3⟩ := ih vs' h1
      obtain ⟨ad, u, h4, h5, h6⟩ := run_loadVar tab hh hti (hT ca) hv
      refine ⟨u :: l, ?_, ⟨_, _, rfl, h6, h3⟩⟩
      rw [Array.getD_eq_getD_getElem?] at h4
      simp [List.mapM_cons, resSem, h2, h4, asAddr, h5]

theorem results_one (tab : Tab P E) {μ : Loc} {h : Heap} {w : World} (hh : H μ h w) {ts : Tmps} {tmps : Array Value} (hT : T μ ts tmps) {fn : Func} {vs : List DV} (e : resultsOf E fn.results.toList ts h = .ok vs) :
    ∃ v, (results fn tmps).run P w = .ok v w ∧ V μ (one vs) v := by
  obtain ⟨l, h1, h2⟩ := results_run tab hh hT _ _ e
  have hl := h2.length
  have hr : (fn.results.mapM (resSem tmps)).run P w = .ok l.toArray w := by
    rw [Array.mapM_eq_mapM_toList]
    simp [h1]
  have hres : results fn tmps = (do let vs ← fn.results.mapM (resSem tmps); pure (if h : vs.size = 1 then vs[0] else .tuple vs)) := by
    have hf : (fun | .tmp t => pure (tmps.getD t Go.undef) | .cell a t => do loadVar t (← asAddr (tmps.getD a Go.undef)) : ResultVar → Sem Value) = resSem tmps := by
      funext r
      cases r <;> rfl
    rw [← hf]
    rfl
  by_cases h3 : l.length = 1
  · obtain ⟨x, rfl⟩ : ∃ x, l = [x] := by
      match l, h3 with
      | [x], _ => exact ⟨x, rfl⟩
    obtain ⟨v, rfl⟩ : ∃ v, vs = [v] := by
      match vs, hl with
      | [v], _ => exact ⟨v, rfl⟩
    obtain ⟨y, ys, hy, hv, _⟩ := h2
    cases hy
    exact ⟨x, by rw [hres]; simp [hr], hv⟩
  · refine ⟨.tuple l.toArray, by rw [hres]; simp [hr, h3], ?_⟩
    have : one vs = .tup vs := by
      match vs, hl, h3 with
      | [], _, _ => rfl
      | [v], hl, h3 => exact absurd hl.symm h3
      | _ :: _ :: _, _, _ => rfl
    rw [this]
    exact ⟨_, rfl, h2⟩

/-! ### Leaving -/

section
variable {n₀ : Nat} {μ₀ : Loc} {w₀ : World}

def Ended (n₀ : Nat) (μ₀ : Loc) (w₀ : World) (e : End) (h' : Heap) (e' : Ending) (w' : World) : Prop :=
  ∃ μ', EndRel μ' e e' ∧ H μ' h' w' ∧ Step n₀ μ₀ w₀ μ' w' ∧ n₀ ≤ h'.n

/-- What is done behind the deferred calls. -/
noncomputable def finish (E : Env) (rs : List ResultVar) (n : Nat) (pan : Option DV) (ts : Tmps) (p : Option DV) (h : Heap) : R CR := match p with
  | some v => .ok (.mk (.panic v) pan (cutHeap n h (v :: pan.toList)))
  | none => andThen (resultsOf E rs ts h) fun vs => .ok (.mk (.ret (one vs)) pan (cutHeap n h (vs ++ pan.toList)))

theorem refs_one {vs : List DV} {n : Nat} (h : refsL vs ≤ n) : refs (one vs) ≤ n := by
  match vs, h with
  | [], _ => simp [one, refs, refsL]
  | [v], h => simp only [refsL] at h; simp only [one]; omega
  | _ :: _ :: _, h => simpa only [one, refs] using h

theorem finish_ret {μ : Loc} {h h' : Heap} {w : World} (tab : Tab P E) (hh : H μ h w) (st : Step n₀ μ₀ w₀ μ w) (hle : n₀ ≤ h.n) {fn : Func} {ts : Tmps} {tmps : Array Value} (hT : T μ ts tmps) {pan pan' : Option DV} {e : End}
    (hr : finish E fn.results.toList n₀ pan ts none h = .ok (.mk e pan' h')) : ∃ v, (results fn tmps).run P w = .ok v w ∧ Ended n₀ μ₀ w₀ e h' (.returned v) w ∧ pan' = pan ∧ ∃ d, e = .ret d := by
  obtain ⟨vs, hvs, hr⟩ := andThen_ok hr
  cases hr
  obtain ⟨v, h1, h2⟩ := results_one tab hh hT hvs
  obtain ⟨μ', k1, k2, k3, k4, k5⟩ := hh.cutHeap' n₀ (vs ++ pan.toList)
  refine ⟨v, h1, ⟨μ', ⟨v, rfl, ?_⟩, k1, st.cut (k2.imp id fun h => h.2) (Nat.le_refl _) k3 k5, k4 hle⟩, rfl, _, rfl⟩
  rcases k2 with rfl | ⟨k2, hg⟩
  · exact h2
  · rw [refsL_append] at k2
    exact V.grow hg (refs_one (by omega)) h2

theorem finish_panic {μ : Loc} {h h' : Heap} {w : World} (hh : H μ h w) (st : Step n₀ μ₀ w₀ μ w) (hle : n₀ ≤ h.n) {rs : List ResultVar} {ts : Tmps} {pan pan' : Option DV} {e : End} {v : DV} {x : Value} (hv : V μ v x)
    (hr : finish E rs n₀ pan ts (some v) h = .ok (.mk e pan' h')) : Ended n₀ μ₀ w₀ e h' (.panicked [entryOf x]) w := by
  cases hr
  obtain ⟨μ', k1, k2, k3, k4, k5⟩ := hh.cutHeap' n₀ (v :: pan.toList)
  refine ⟨μ', ⟨x, rfl, ?_⟩, k1, st.cut (k2.imp id fun h => h.2) (Nat.le_refl _) k3 k5, k4 hle⟩
  rcases k2 with rfl | ⟨k2, hg⟩
  · exact hv
  · simp only [refsL] at k2
    exact V.grow hg (by omega) hv

/-- A panic under way, settled. -/
def SetRel (μ : Loc) : Option DV → FrameMode → Prop
  | some v, u => ∃ x, u = .panicking [entryOf x] ∧ V μ v x
  | none, u => u = .returning

theorem PanRel.settle {μ : Loc} {p : Option DV} {u : FrameMode} (h : PanRel μ p u) : SetRel μ p (settle u) := by
  cases p with
  | some v => obtain ⟨x, rfl, hv⟩ := h; exact ⟨x, rfl, hv⟩
  | none =>
    rcases h with rfl | ⟨x, rfl⟩
    · rfl
    · rfl

theorem SetRel.pan {μ : Loc} {p : Option DV} {u : FrameMode} (h : SetRel μ p u) : PanRel μ p u := by
  cases p with
  | some v => exact h
  | none => exact .inl h

theorem take_run {r : Nat} {w : World} (hb : w.heap[r]? = some (.deferred (some []))) : (Instr.takeDeferred r).run P w = .ok [] (setBlk w r (.deferred none)) := by
  simp [Instr.takeDeferred, getObj, setObj, Sem.run, hb, setBlk]

theorem leaves_sound (tab : Tab P E) {rec : Rec} (rk : RecOk P E rec) (hG₀ : Globs E μ₀) (hout : ∀ id, n₀ ≤ id → μ₀ id = none) {fn : Func} {ts : Tmps} {tmps : Array Value} {pan₀ pan' : Option DV} {e : End} {h' : Heap} :
    ∀ (dd : List Deferred) (ds : List (DV × List DV)) (p : Option DV) (h : Heap) (μ : Loc) (w : World) (u : FrameMode), DR μ w (fun r => w₀.heap.size ≤ r) ds dd → H μ h w → T μ ts tmps → Step n₀ μ₀ w₀ μ w → n₀ ≤ h.n → SetRel μ p u →
      defersRun E rec ds p h (finish E fn.results.toList n₀ pan₀ ts) = .ok (.mk e pan' h') → LeavesInM Fence.wide 1 P fn tmps (Ended n₀ μ₀ w₀ e h') dd u w := by
  intro dd
  induction dd with
  | nil =>
    intro ds p h μ w u hD hh hT st hle hu hr
    have : ds = [] := hD
    subst this
    have hr' : finish E fn.results.toList n₀ pan₀ ts p h = .ok (.mk e pan' h') := hr
    cases p with
    | none =>
      have hu' : u = .returning := hu
      subst hu'
      obtain ⟨v, h1, h2, _⟩ := finish_ret tab hh st hle hT hr'
      exact ⟨v, h1, h2⟩
    | some v =>
      obtain ⟨x, rfl, hv⟩ := hu
      exact finish_panic hh st hle hv hr'
  | cons d dd ih =>
    intro ds p h μ w u hD hh hT st hle hu hr
    have hrun : u ≠ .run := by
      cases p with
      | none => have hu' : u = .returning := hu; rw [hu']; exact fun h => nomatch h
      | some v => obtain ⟨x, rfl, hv⟩ := hu; exact fun h => nomatch h
    refine ⟨hrun, ?_⟩
    rcases hD with ⟨r, h1, h2, h3, h4, h5, h6⟩ | ⟨g, first, cap, vs, ds', fs, cs, as, h1, h2, h3, h4, h5, h6⟩
    · refine .inl ⟨r, setBlk w r (.deferred none), by rw [h1], take_run h4, ?_⟩
      refine ih ds p h μ _ u (h6.keep (by rw [size_setBlk]; exact Nat.le_refl _) (fun _ _ h => h) fun d' hd' r' hr' => setBlk_other fun e => h5 d' hd' (by rw [hr', e])) (hh.other (by rw [size_setBlk]; exact Nat.le_refl _) fun i q hq => setBlk_other (hh.free h4 hq)) hT ?_ hle hu hr
      exact ⟨st.os, st.tape, st.output, by rw [size_setBlk]; exact st.size, fun b hb ho => (setBlk_other (by omega)).trans (st.block b hb ho), st.own, st.grow, st.keep⟩
    · subst h1
      have hr' : need ((E.ext g).isNone) "defer" (andThen (rec.call true g (first ++ vs ++ cap) p h) fun r => match r with
        | .mk e pan h => match e with
          | .ret _ => defersRun E rec ds' pan h (finish E fn.results.toList n₀ pan₀ ts)
          | .panic _ => bad "a panic in a deferred call") = .ok (.mk e pan' h') := by
        unfold defersRun at hr
        exact hr
      obtain ⟨_, hr'⟩ := need_ok hr'
      obtain ⟨⟨e1, p1, h1⟩, hcall, hr'⟩ := andThen_ok hr'
      cases e1 with
      | panic v => exact (bad_ok hr').elim
      | ret v =>
        obtain ⟨hent, hcd⟩ := rk.defer g _ p h v p1 h1 hcall
        have hargs : Vs μ (first ++ vs ++ cap) (fs ++ as ++ cs).toList := by simpa using (h3.append h5).append h4
        have hc := hcd μ w (fs ++ as ++ cs) u hargs hh (hG₀.grow hout st.grow) hu.pan
        refine .inr ⟨fun h => (nomatch h), .func g, cs, g, fs ++ as ++ cs, by rw [h2], ?_, fun _ _ => trivial, hc.mono ?_⟩
        · rw [h2]
          simp only [invoke]
          exact callFunc_run hent
        · rintro e' u' w' ⟨x, μ', rfl, hh', st', hle', hu'⟩
          exact ih ds' p1 h1 μ' w' (settle u') (h6.step hh st') hh' (T.step hh.out st'.grow hT) (st.trans st' hle) (Nat.le_trans hle hle') hu'.settle hr'
end
end DG

/-
  Calls, deferred calls, rounds: each as the interpreter says, if those one deeper are.
-/
namespace DG
open Go Go.RowKit

variable {P : Program} {E : Env}

theorem tget_params (vs : List DV) : ∀ (i t : Nat), tget (params i vs) t = if i ≤ t then (vs[t - i]?).getD .unk else .unk := by
  induction vs with
  | nil => intro i t; show DV.unk = _; split <;> rfl
  | cons v vs ih =>
    intro i t
    show tget ((i, v) :: params (i + 1) vs) t = _
    rw [tget_cons, ih]
    by_cases h : i = t
    · subst h; simp
    · rw [if_neg (show ¬ (i, v).1 = t from h)]
      by_cases h2 : i ≤ t
      · rw [if_pos h2, if_pos (by omega)]
        have : t - i = (t - (i + 1)) + 1 := by omega
        rw [this, List.getElem?_cons_succ]
      · rw [if_neg h2, if_neg (by omega)]

theorem T_params {μ : Loc} {vs : List DV} {args : Array Value} (h : Vs μ vs args.toList) (k : Nat) : T μ (params 0 vs) (args ++ Array.replicate k Go.undef) := by
  intro t
  rw [tget_params, if_pos (Nat.zero_le _), Nat.sub_zero]
  cases hv : vs[t]? with
  | none => trivial
  | some v =>
    obtain ⟨x, hx, hvx⟩ := h.get hv
    have hx' : args[t]? = some x := by rw [← Array.getElem?_toList]; exact hx
    have hlt : t < args.size := (Array.getElem?_eq_some_iff.1 hx').1
    rw [Array.getD_eq_getD_getElem?, Array.getElem?_append_left hlt, hx']
    exact hvx

theorem all_lt {l : List Nat} {n : Nat} (h : alls (fun t => Nat.blt t n) l = true) : ∀ t ∈ l, t < n := by
  rw [alls_eq] at h
  intro t ht
  have := List.all_eq_true.1 h t ht
  rw [blt_eq] at this
  exact of_decide_eq_true this

theorem base_none {h : Heap} {μ : Loc} {w : World} (hh : H μ h w) (hG : Globs E μ) : Base E h.n μ (none, none) := ⟨hG, hh.out, rfl⟩

theorem call_sound (tab : Tab P E) {rec : Rec} (rk : RecOk P E rec) (eo : ExtOk P E) (dr : DrawSound P E rec) {f : FuncId} {vs : List DV} {pan pan' : Option DV} {h h' : Heap} {e : End} (hr : callRun E rec false f vs pan h = .ok (.mk e pan' h')) :
    Entered P f ∧ ∀ μ w (args : Array Value), Vs μ vs args.toList → H μ h w → Globs E μ → Calls P f args w (CallPost μ h w e h') := by
  unfold callRun at hr
  cases hfi : E.fn f with
  | none => rw [hfi] at hr; exact (bad_ok hr).elim
  | some fi =>
    rw [hfi] at hr
    obtain ⟨fn, hf, hb, hnt, hres, hname⟩ := tab.fn f fi hfi
    refine ⟨⟨fn, _, hf, hb, hname⟩, fun μ w args hvs hh hG => ?_⟩
    simp only at hr
    obtain ⟨hchk, hr⟩ := need_ok hr
    simp only [Bool.and_eq_true] at hchk
    obtain ⟨⟨hsets, hlen⟩, _⟩ := hchk
    have hlen' : vs.length ≤ fi.ntmps := Nat.le_of_ble_eq_true hlen
    have hsz : args.size = vs.length := by rw [hvs.length]; simp
    obtain ⟨⟨o, ts, ds, pan1, h1⟩, hcode, hr⟩ := andThen_ok hr
    refine callsIn_wide.1 (callsIn_of_wp_marks (n := 1) hf hb trivial ?_)
    have hA : At h.n μ w (fun r => w.heap.size ≤ r) fi.ntmps (params 0 vs) [] h μ { tmps := args ++ Array.replicate (fn.ntmps - args.size) Go.undef, defers := [] } w :=
      ⟨T_params hvs _, by simp; omega, rfl, hh, Step.refl _ _ _, Nat.le_refl _⟩
    refine wpIn_mono (code_sound (ro := (none, none)) wideF_wide rfl tab rk eo dr fi.body h.n μ w (base_none hh hG) (.inr fun r hr => hr) _ _ _ _ _ _ _ _ hcode (all_lt hsets) hA) ?_
    rintro ex a' w' ⟨μ', ho, hA'⟩
    have leave : ∀ (p : Option DV) (u : FrameMode), SetRel μ' p u → callEnd E rec false fi.results h.n pan1 ts ds p h1 = .ok (.mk e pan' h') → LeavesInM Fence.wide 1 P fn a'.tmps (CallPost μ h w e h') a'.defers u w' := by
      intro p u hu hr
      obtain ⟨_, hr⟩ := need_ok hr
      have hr' : defersRun E rec ds p h1 (finish E fn.results.toList h.n pan1 ts) = .ok (.mk e pan' h') := by
        rw [hres]; exact hr
      exact leaves_sound tab rk hG hh.out a'.defers ds p h1 μ' w' u hA'.d hA'.hh hA'.t hA'.st hA'.le hu hr'
    cases o with
    | norm => cases ho; exact leave none .returning rfl hr
    | ret => cases ho; exact leave none .returning rfl hr
    | panic v => obtain ⟨x, rfl, hv⟩ := ho; exact leave (some v) (.panicking [entryOf x]) ⟨x, rfl, hv⟩ hr
    | exit id => exact (bad_ok hr).elim

/-! ### Deferred functions -/

theorem opRun_rc {rec : Rec} {round : Bool} {o : Oper} (h : isRecover o = false) : opRun E rec round true o = opRun E rec round false o := by
  unfold isRecover at h
  unfold opRun
  cases hop : o.op with
  | call c =>
    rw [hop] at h
    simp only at h ⊢
    cases hcal : c.callee with
    | builtin b =>
      rw [hcal] at h
      simp only at h ⊢
      cases b <;> first | rfl | exact nomatch h
    | value f => rfl
    | invoke x m => rfl
  | _ => rfl

/-- What may stand beside recover, but recover. -/
theorem beside_sound (tab : Tab P E) {rec : Rec} {round : Bool} {o : Oper} {ts : Tmps} {ds : List (DV × List DV)} {pan : Option DV} {h : Heap} {r : OpRes} {μ : Loc} {w : World} {a : Act} (hb : besideRecover o = true) (hn : isRecover o = false)
    (hr : (opRun E rec round false o).f ts ds pan h = .ok r) (hT : T μ ts a.tmps) (hh : H μ h w) (hG : Globs E μ) :
    match r with
    | .val v ds' pan' h' => ds' = ds ∧ pan' = pan ∧ Does P μ h w (execOp a.eval o) v h'
    | .panic v h' => h' = h ∧ ∃ x, (execOp a.eval o).run P w = .halt (.panic x) w ∧ V μ v x := by
  cases hop : o.op with
  | call c =>
    unfold opRun at hr
    simp only [hop] at hr
    cases hcal : c.callee with
    | builtin b =>
      have hex : ∀ w, (execOp a.eval o).run P w = (Go.builtin b c.argTypes o.type (c.args.map fun | .const _ => true | _ => false) (c.args.map a.eval)).run P w := by
        intro w
        simp only [execOp, hop, resolve, hcal, Sem.run_bind, Sem.run_pure, Result.andThen_ok, invoke]
        rfl
      simp only [hcal] at hr
      by_cases hb1 : b = .recover
      · subst hb1
        simp [isRecover, hop, hcal] at hn
      by_cases hb2 : b = .panic
      · subst hb2
        have hr' : andThen ((args E c.args.toList).f ts) (fun vs => match vs with | [.iface t v] => (.ok (.panic (.iface t v) h) : R OpRes) | _ => bad "panic") = .ok r := hr
        obtain ⟨vs, hvs, hr⟩ := andThen_ok hr'
        have hV := (args_V hvs hT hG).1
        split at hr
        · rename_i t v
          cases hr
          obtain ⟨y, ys, hy, hyv, hnil⟩ := hV
          simp only [Vs] at hnil
          subst hnil
          obtain ⟨z, rfl, hz⟩ := hyv
          refine ⟨rfl, .iface t z, ?_, ⟨z, rfl, hz⟩⟩
          rw [hex]
          have hargs : c.args.map a.eval = #[.iface t z] := by rw [← args_toList, hy]
          rw [hargs]
          simp [Go.builtin, Instr.panic, goPanic, Result.andThen]
        · exact (bad_ok hr).elim
      have hr' : andThen ((builtinOp E b c.argTypes.toList c.args.toList).f ts h) (fun (v, h) => (.ok (.val v ds pan h) : R OpRes)) = .ok r := by
        cases b <;> first | exact hr | exact absurd rfl hb1 | exact absurd rfl hb2
      obtain ⟨⟨v, h'⟩, hv, hr'⟩ := andThen_ok hr'
      cases hr'
      have := builtin_sound tab b c.argTypes.toList c.args.toList ts h v h' hv μ w a o.type (c.args.map fun | .const _ => true | _ => false) hT hh hG
      rw [args_toList] at this
      obtain ⟨nx, x, w', μ', h1, h2⟩ := this
      exact ⟨rfl, rfl, nx, x, w', μ', by rw [hex]; exact h1, h2⟩
    | value f => simp [besideRecover, hop, hcal] at hb
    | invoke x m => simp [besideRecover, hop, hcal] at hb
  | panic x =>
    unfold opRun at hr
    simp only [hop] at hr
    obtain ⟨v, hv, hr⟩ := andThen_ok hr
    have hV := (arg_V hv hT hG).1
    split at hr
    · rename_i t v
      cases hr
      obtain ⟨z, hz, hzv⟩ := hV
      exact ⟨rfl, .iface t z, by simp [execOp, hop, hz, Instr.panic, goPanic, Result.andThen], ⟨z, rfl, hzv⟩⟩
    · exact (bad_ok hr).elim
  | defer c => simp [besideRecover, hop] at hb
  | _ =>
    have hr' : andThen ((pureOp E o.op).f ts h) (fun (v, h) => (.ok (.val v ds pan h) : R OpRes)) = .ok r := by
      unfold opRun at hr
      rw [hop] at hr ⊢
      exact hr
    obtain ⟨⟨v, h'⟩, hv, hr'⟩ := andThen_ok hr'
    cases hr'
    exact ⟨rfl, rfl, pure_sound tab o ts h v h' hv μ w a hT hh hG⟩

section
variable {n₀ : Nat} {μ₀ : Loc} {w₀ : World} {base : Nat → Prop} {nt : Nat}

def FinS (n₀ : Nat) (μ₀ : Loc) (w₀ : World) (base : Nat → Prop) (nt : Nat) (c₀ : Frame) (cs₀ : List Frame) : St → Exit → Act → List Frame → World → Prop
  | .mk o ts ds pan h, e, a, cs, w => ∃ u, cs = { c₀ with mode := u } :: cs₀ ∧ ∃ μ, OutRel μ o e ∧ At n₀ μ₀ w₀ base nt ts ds h μ a w ∧ PanRel μ pan u

theorem PanRel.step {μ μ' : Loc} {n : Nat} (ho : ∀ id, n ≤ id → μ id = none) (hg : Grow n μ μ') {p : Option DV} {u : FrameMode} (h : PanRel μ p u) : PanRel μ' p u := by
  cases p with
  | none => exact h
  | some v => obtain ⟨x, h1, h2⟩ := h; exact ⟨x, h1, V.step ho hg h2⟩

theorem recover_run {o : Oper} {a : Act} {w : World} (h : isRecover o = true) : (execOp a.eval o).run P w = .ok .recover w := by
  unfold isRecover at h
  split at h
  · rename_i c hop
    split at h
    · rename_i hcal
      simp [execOp, hop, resolve, hcal, invoke, Go.builtin]
    · exact nomatch h
  · exact nomatch h

theorem opRun_recover {rec : Rec} {round : Bool} {o : Oper} {ts : Tmps} {ds : List (DV × List DV)} {pan : Option DV} {h : Heap} {r : OpRes} (hrec : isRecover o = true) (hr : (opRun E rec round true o).f ts ds pan h = .ok r) :
    r = (match pan with | some v => .val v ds none h | none => .val .niliface ds none h) := by
  unfold isRecover at hrec
  split at hrec
  · rename_i c hop
    split at hrec
    · rename_i hcal
      unfold opRun at hr
      simp only [hop, hcal] at hr
      obtain ⟨_, hr⟩ := need_ok hr
      cases pan <;> (cases hr; rfl)
    · exact nomatch hrec
  · exact nomatch hrec

theorem opsS_sound (tab : Tab P E) {rec : Rec} (hB : Base E n₀ μ₀ (none, none)) {ops : Array Oper} {c₀ : Frame} {cs₀ : List Frame} {st : St} :
    ∀ (l : List Oper) (k : Nat) (ts : Tmps) (ds : List (DV × List DV)) (pan : Option DV) (h : Heap) (μ : Loc) (a : Act) (w : World) (u : FrameMode), ops.toList.drop k = l → (∀ t ∈ l.filterMap (·.dst), t < nt) → (∀ o ∈ l, besideRecover o = true) → At n₀ μ₀ w₀ base nt ts ds h μ a w → PanRel μ pan u →
      (opsRun E rec false true (ops.toList.map fun o : Oper => o.dst) l).f ts ds pan h = .ok st → wpOpsSIn Fence.wide 0 P ops (FinS n₀ μ₀ w₀ base nt c₀ cs₀ st) (List.range' k l.length) a ({ c₀ with mode := u } :: cs₀) w := by
  intro l
  induction l with
  | nil =>
    intro k ts ds pan h μ a w u hl hd hbs hA hu hr
    cases hr
    exact ⟨u, rfl, μ, rfl, hA, hu⟩
  | cons o l ih =>
    intro k ts ds pan h μ a w u hl hd hbs hA hu hr
    have hok : ops[k]? = some o := by
      rw [← Array.getElem?_toList]
      have := congrArg (·[0]?) hl
      simpa [List.getElem?_drop] using this
    have hl' : ops.toList.drop (k + 1) = l := by
      have := congrArg (·.drop 1) hl
      simpa [List.drop_drop] using this
    have hd1 : ∀ d, o.dst = some d → d < nt := fun d e => hd d (List.mem_filterMap.2 ⟨o, List.mem_cons_self .., e⟩)
    have hd2 : ∀ t ∈ l.filterMap (·.dst), t < nt := fun t ht => by
      obtain ⟨x, hx, e⟩ := List.mem_filterMap.1 ht
      exact hd t (List.mem_filterMap.2 ⟨x, List.mem_cons_of_mem _ hx, e⟩)
    have hb1 := hbs o (List.mem_cons_self ..)
    have hb2 : ∀ o ∈ l, besideRecover o = true := fun x hx => hbs x (List.mem_cons_of_mem _ hx)
    simp only [List.length_cons, List.range'_succ, wpOpsSIn, hok]
    refine ⟨fun _ _ => trivial, ?_⟩
    have hr' : (match guardO (ops.toList.map fun o : Oper => o.dst) o.guard ts with
      | some true => andThen ((opRun E rec false true o).f ts ds pan h) fun r => match r with
        | .val v ds pan h => (opsRun E rec false true (ops.toList.map fun o : Oper => o.dst) l).f (setTmp o.dst v ts) ds pan h
        | .panic v h => .ok (.mk (.panic v) ts ds pan h)
      | some false => (opsRun E rec false true (ops.toList.map fun o : Oper => o.dst) l).f (setTmp o.dst undef ts) ds pan h
      | none => bad "guard") = .ok st := hr
    split at hr'
    · rename_i hg
      rw [guardO_wanted hA.t hg]
      obtain ⟨r, hop, hr2⟩ := andThen_ok hr'
      clear hr' hr
      rw [if_pos rfl]
      cases hrec : isRecover o with
      | true =>
        have hrr := opRun_recover hrec hop
        rw [recover_run hrec]
        simp only
        cases pan with
        | some v =>
          simp only at hrr
          subst hrr
          obtain ⟨x, rfl, hv⟩ := hu
          have : recoverD ({ c₀ with mode := .panicking [entryOf x] } :: cs₀) = some (x, { c₀ with mode := .panicking [{ v := x, recovered := true }] } :: cs₀) := rfl
          rw [this]
          exact ih (k + 1) _ _ _ _ _ _ _ _ hl' hd2 hb2 (hA.next hd1 hv hA.hh (Step.refl _ _ _) (Nat.le_refl _) hA.d) (show PanRel μ none _ from .inr ⟨x, rfl⟩) hr2
        | none =>
          simp only at hrr
          subst hrr
          have : recoverD ({ c₀ with mode := u } :: cs₀) = none := by
            rcases hu with rfl | ⟨x, rfl⟩ <;> rfl
          rw [this]
          exact ih (k + 1) _ _ _ _ _ _ _ _ hl' hd2 hb2 (hA.next (v := .niliface) (x := .nilIface) hd1 rfl hA.hh (Step.refl _ _ _) (Nat.le_refl _) hA.d) hu hr2
      | false =>
        rw [opRun_rc hrec] at hop
        have hbs := beside_sound tab hb1 hrec hop hA.t hA.hh (hA.globs hB)
        cases r with
        | val v ds' pan' h' =>
          obtain ⟨rfl, rfl, nx, x, w', μ', h1, h2, h3, h4, h5, h6⟩ := hbs
          rw [h1]
          have hnext := ih (k + 1) _ _ _ _ _ _ _ u hl' hd2 hb2 (hA.next hd1 h3 h4 h5 h6 (hA.d.step hA.hh h5)) (hu.step hA.hh.out h5.grow) hr2
          rcases h2 with rfl | ⟨rfl, rfl⟩
          · exact hnext
          · exact hnext
        | panic v h' =>
          obtain ⟨rfl, x, h1, h2⟩ := hbs
          rw [h1]
          cases hr2
          exact ⟨u, rfl, μ, ⟨x, rfl, h2⟩, hA, hu⟩
    · rename_i hg
      rw [guardO_wanted hA.t hg, if_neg (by simp)]
      exact ih (k + 1) _ _ _ _ _ _ _ u hl' hd2 hb2 (hA.skip hd1) hu hr'
    · exact (bad_ok hr').elim

/-- Code that does not recover, in a deferred function. -/
theorem still {c : Code} {c₀ : Frame} {cs₀ : List Frame} {o : Out} {ts : Tmps} {ds : List (DV × List DV)} {pan pan₀ : Option DV} {h : Heap} {a : Act} {w : World} {u : FrameMode} (hB : Base E n₀ μ₀ (none, none)) (hu : PanRel μ₀ pan₀ u) (hp : pan = pan₀)
    (hw : c.wpIn Fence.wide 0 P (Fin n₀ μ₀ w₀ base nt (.mk o ts ds pan h)) a w) : c.wpSIn Fence.wide 0 P (FinS n₀ μ₀ w₀ base nt c₀ cs₀ (.mk o ts ds pan h)) a ({ c₀ with mode := u } :: cs₀) w := by
  subst hp
  refine wpSIn_of_wpIn rfl (wpIn_mono hw ?_)
  rintro e a' w' ⟨μ', ho, hA'⟩
  exact ⟨u, rfl, μ', ho, hA', hu.step hB.out hA'.st.grow⟩

end
end DG

/-
  Deferred calls, rounds of a range over a function, and the whole.
-/
namespace DG
open Go Go.RowKit

variable {P : Program} {E : Env}

section
variable {n₀ : Nat} {μ₀ : Loc} {w₀ : World} {base : Nat → Prop} {nt : Nat}

theorem wpSIn_mono {F : Fence} {n : Nat} {c : Code} {Q Q' : Exit → Act → List Frame → World → Prop} {a : Act} {cs : List Frame} {w : World} (h : c.wpSIn F n P Q a cs w) (hq : ∀ e a cs w, Q e a cs w → Q' e a cs w) : c.wpSIn F n P Q' a cs w :=
  fun b k hb hr hF hroom => let ⟨e, a', cs', w', l, q, r⟩ := h b k hb hr hF hroom; ⟨e, a', cs', w', l, hq _ _ _ _ q, r⟩

theorem codeS_sound (tab : Tab P E) {rec : Rec} (rk : RecOk P E rec) (eo : ExtOk P E) (dr : DrawSound P E rec) (hB : Base E n₀ μ₀ (none, none)) {all : List Nat} {np : Nat} {fn : FuncId} {c₀ : Frame} {cs₀ : List Frame} :
    ∀ (c : Code), (noRange c = true ∨ ∀ r, w₀.heap.size ≤ r → base r) → ∀ (ts : Tmps) (ds : List (DV × List DV)) (pan : Option DV) (h : Heap) (μ : Loc) (a : Act) (w : World) (u : FrameMode) (st : St), (codeRun E rec all np nt none fn true c).f ts ds pan h = .ok st → (∀ t ∈ sets c, t < nt) →
      At n₀ μ₀ w₀ base nt ts ds h μ a w → PanRel μ pan u → PanRel μ₀ pan u ∨ True → c.wpSIn Fence.wide 0 P (FinS n₀ μ₀ w₀ base nt c₀ cs₀ st) a ({ c₀ with mode := u } :: cs₀) w := by
  -- code that does not recover: the panic under way lies still
  have calm : ∀ (c : Code), (noRange c = true ∨ ∀ r, w₀.heap.size ≤ r → base r) → ∀ (ts : Tmps) (ds : List (DV × List DV)) (pan : Option DV) (h : Heap) (μ : Loc) (a : Act) (w : World) (u : FrameMode) (st : St), (codeRun E rec all np nt none fn false c).f ts ds pan h = .ok st → (∀ t ∈ sets c, t < nt) →
      At n₀ μ₀ w₀ base nt ts ds h μ a w → PanRel μ pan u → c.wpSIn Fence.wide 0 P (FinS n₀ μ₀ w₀ base nt c₀ cs₀ st) a ({ c₀ with mode := u } :: cs₀) w := by
    intro c hm ts ds pan h μ a w u st hr hs hA hu
    obtain ⟨o, ts', ds', pan', h'⟩ := st
    have hp := (code_keeps c false ts ds pan h o ts' ds' pan' h' hr).1 rfl
    have hw := code_sound (n := 0) (base := base) (ro := (none, none)) wideF_wide rfl tab rk eo dr c h.n μ w (hB.at hA) (hm.imp id fun h r hr => h r (Nat.le_trans hA.st.size hr)) _ _ _ _ _ _ _ _ hr hs hA.here
    refine wpSIn_mono (still (hB.at hA) hu hp hw) ?_
    rintro e a' cs' w' ⟨u', hc, μ', ho, hA', hu'⟩
    exact ⟨u', hc, μ', ho, hA.on hA', hu'⟩
  intro c
  induction c with
  | region id ops draw =>
    intro hm ts ds pan h μ a w u st hr hs hA hu _
    cases draw with
    | true => exact calm (.region id ops true) hm ts ds pan h μ a w u st hr hs hA hu
    | false =>
      have hr' : (match (plainRun E rec false true ops.toList).f ts ds pan h with | .ok r => (.ok r : R St) | .error (s, l) => .error (s, (fn, id) :: l)) = .ok st := hr
      split at hr'
      · rename_i r he
        cases hr'
        unfold plainRun at he
        simp only at he
        split at he
        · have hr2 : (codeRun E rec all np nt none fn false (.region id ops false)).f ts ds pan h = .ok st := by
            show (match (plainRun E rec false false ops.toList).f ts ds pan h with | .ok r => (.ok r : R St) | .error (s, l) => .error (s, (fn, id) :: l)) = .ok st
            unfold plainRun
            simp only
            rw [he]
          exact calm (.region id ops false) hm ts ds pan h μ a w u st hr2 hs hA hu
        · split at he
          · rename_i hbs
            rw [alls_eq] at hbs
            refine wpSIn_region ?_
            have := opsS_sound (c₀ := c₀) (cs₀ := cs₀) tab hB ops.toList 0 ts ds pan h μ a w u rfl hs (fun o ho => List.all_eq_true.1 hbs o ho) hA hu he
            rw [List.range_eq_range']
            simpa using this
          · exact (bad_ok he).elim
      · exact nomatch hr'
  | seq x y ihx ihy =>
    intro hm ts ds pan h μ a w u st hr hs hA hu hh0
    obtain ⟨⟨o1, ts1, ds1, pan1, h1⟩, hx, hr⟩ := andThen_ok hr
    refine wpSIn_seq (wpSIn_mono (ihx (hm.imp (fun h => (noRange_two h).1) id) _ _ _ _ _ _ _ _ _ hx (fun t ht => hs t (List.mem_append_left _ ht)) hA hu (.inr trivial)) ?_)
    rintro e a' cs' w' ⟨u', rfl, μ', ho, hA', hu'⟩
    cases o1 with
    | norm =>
      cases ho
      exact ihy (hm.imp (fun h => (noRange_two h).2) id) _ _ _ _ _ _ _ _ _ hr (fun t ht => hs t (List.mem_append_right _ ht)) hA' hu' (.inr trivial)
    | exit id => cases ho; cases hr; exact ⟨u', rfl, μ', rfl, hA', hu'⟩
    | ret => cases ho; cases hr; exact ⟨u', rfl, μ', rfl, hA', hu'⟩
    | panic v => obtain ⟨x, rfl, hv⟩ := ho; cases hr; exact ⟨u', rfl, μ', ⟨x, rfl, hv⟩, hA', hu'⟩
  | cond c x y ihx ihy =>
    intro hm ts ds pan h μ a w u st hr hs hA hu hh0
    obtain ⟨v, hv, hr⟩ := andThen_ok hr
    obtain ⟨hvV, _⟩ := arg_V hv hA.t (hA.globs hB)
    split at hr
    · split at hr
      · exact wpSIn_cond (t := true) hvV (ihx (hm.imp (fun h => (noRange_two h).1) id) _ _ _ _ _ _ _ _ _ hr (fun t ht => hs t (List.mem_append_left _ ht)) hA hu (.inr trivial))
      · exact wpSIn_cond (t := false) hvV (ihy (hm.imp (fun h => (noRange_two h).2) id) _ _ _ _ _ _ _ _ _ hr (fun t ht => hs t (List.mem_append_right _ ht)) hA hu (.inr trivial))
    · exact (bad_ok hr).elim
  | skip => intro hm ts ds pan h μ a w u st hr hs hA hu _; exact calm .skip hm ts ds pan h μ a w u st hr hs hA hu
  | exit id => intro hm ts ds pan h μ a w u st hr hs hA hu _; exact calm (.exit id) hm ts ds pan h μ a w u st hr hs hA hu
  | ret => intro hm ts ds pan h μ a w u st hr hs hA hu _; exact calm .ret hm ts ds pan h μ a w u st hr hs hA hu
  | block id b _ => intro hm ts ds pan h μ a w u st hr hs hA hu _; exact calm (.block id b) hm ts ds pan h μ a w u st hr hs hA hu
  | loop b _ => intro hm ts ds pan h μ a w u st hr hs hA hu _; exact calm (.loop b) hm ts ds pan h μ a w u st hr hs hA hu
  | rangeFunc g ps x y _ _ => intro hm ts ds pan h μ a w u st hr hs hA hu _; exact calm (.rangeFunc g ps x y) hm ts ds pan h μ a w u st hr hs hA hu
  | _ => intro hm ts ds pan h μ a w u st hr hs hA hu _; exact (bad_ok hr).elim

theorem DR_none {μ : Loc} {w : World} : ∀ {dd : List Deferred}, DR μ w (fun _ => False) [] dd → dd = []
  | [], _ => rfl
  | d :: dd, h => by
    rcases h with ⟨r, h1, h2, _⟩ | ⟨g, first, cap, vs, ds', fs, cs, as, h1, _⟩
    · exact h2.elim
    · exact nomatch h1

theorem defer_sound (tab : Tab P E) {rec : Rec} (rk : RecOk P E rec) (eo : ExtOk P E) (dr : DrawSound P E rec) {f : FuncId} {vs : List DV} {pan pan' : Option DV} {h h' : Heap} {v : DV} (hr : callRun E rec true f vs pan h = .ok (.mk (.ret v) pan' h')) :
    Entered P f ∧ ∀ μ w (args : Array Value) u, Vs μ vs args.toList → H μ h w → Globs E μ → PanRel μ pan u →
      CallsDIn Fence.wide 0 P f args u w fun e u' w' => ∃ x μ', e = .returned x ∧ H μ' h' w' ∧ Step h.n μ w μ' w' ∧ h.n ≤ h'.n ∧ PanRel μ' pan' u' := by
  unfold callRun at hr
  cases hfi : E.fn f with
  | none => rw [hfi] at hr; exact (bad_ok hr).elim
  | some fi =>
    rw [hfi] at hr
    obtain ⟨fn, hf, hb, hnt, hres, hname⟩ := tab.fn f fi hfi
    refine ⟨⟨fn, _, hf, hb, hname⟩, fun μ w args u hvs hh hG hu => ?_⟩
    simp only at hr
    obtain ⟨hchk, hr⟩ := need_ok hr
    simp only [Bool.and_eq_true] at hchk
    obtain ⟨⟨hsets, hlen⟩, hnr⟩ := hchk
    have hlen' : vs.length ≤ fi.ntmps := Nat.le_of_ble_eq_true hlen
    have hsz : args.size = vs.length := by rw [hvs.length]; simp
    obtain ⟨⟨o, ts, ds, pan1, h1⟩, hcode, hr⟩ := andThen_ok hr
    refine callsDIn_of_wpSIn (n := 0) hf hb trivial fun c₀ cs hc => ?_
    have hA : At h.n μ w (fun _ => False) fi.ntmps (params 0 vs) [] h μ { tmps := args ++ Array.replicate (fn.ntmps - args.size) Go.undef, defers := [] } w :=
      ⟨T_params hvs _, by simp; omega, rfl, hh, Step.refl _ _ _, Nat.le_refl _⟩
    have hc0 : (c₀ :: cs) = { c₀ with mode := u } :: cs := by subst hc; rfl
    rw [hc0]
    refine wpSIn_mono (codeS_sound tab rk eo dr (base_none hh hG) fi.body (.inl hnr) _ _ _ _ _ _ _ _ _ hcode (all_lt hsets) hA hu (.inr trivial)) ?_
    rintro ex a' cs' w' ⟨u', rfl, μ', ho, hA', hu'⟩
    have leave : callEnd E rec true fi.results h.n pan1 ts ds none h1 = .ok (.mk (.ret v) pan' h') → a'.defers = [] ∧ ∃ u'', { c₀ with mode := u' } :: cs = { c₀ with mode := u'' } :: cs ∧ ∃ x, (results fn a'.tmps).run P w' = .ok x w' ∧
        (∃ y μ'', Ending.returned x = .returned y ∧ H μ'' h' w' ∧ Step h.n μ w μ'' w' ∧ h.n ≤ h'.n ∧ PanRel μ'' pan' u'') := by
      intro hr
      obtain ⟨hds, hr⟩ := need_ok hr
      have hde : ds = [] := by cases ds with
        | nil => rfl
        | cons _ _ => exact nomatch hds
      subst hde
      have hr' : finish E fn.results.toList h.n pan1 ts none h1 = .ok (.mk (.ret v) pan' h') := by
        rw [hres]; exact hr
      refine ⟨DR_none hA'.d, u', rfl, ?_⟩
      obtain ⟨ws, hws, hr'⟩ := andThen_ok hr'
      cases hr'
      obtain ⟨x, k1, k2⟩ := results_one tab hA'.hh hA'.t hws
      obtain ⟨μ'', j1, j2, j3, j4, j5⟩ := hA'.hh.cutHeap' h.n (ws ++ pan'.toList)
      refine ⟨x, k1, x, μ'', rfl, j1, hA'.st.cut (j2.imp id fun h => h.2) (Nat.le_refl _) j3 j5, j4 hA'.le, ?_⟩
      rcases j2 with rfl | ⟨j2, hg⟩
      · exact hu'
      · cases hp : pan' with
        | none => rw [hp] at hu'; exact hu'
        | some q =>
          rw [hp] at hu' j2
          obtain ⟨y, e1, e2⟩ := hu'
          rw [refsL_append] at j2
          simp only [Option.toList_some, refsL] at j2
          exact ⟨y, e1, V.grow hg (by omega) e2⟩
    cases o with
    | norm => cases ho; exact leave hr
    | ret => cases ho; exact leave hr
    | panic q =>
      obtain ⟨hds, hr⟩ := need_ok hr
      have hde : ds = [] := by cases ds with
        | nil => rfl
        | cons _ _ => exact nomatch hds
      subst hde
      have hr' : finish E fi.results h.n pan1 ts (some q) h1 = .ok (.mk (.ret v) pan' h') := hr
      exact nomatch hr'
    | exit id => exact (bad_ok hr).elim

/-! ### Rounds -/

theorem loopAt_ok {β : Type} {h : Heap} {l : Nat} {f : Nat → LoopState → Option Code → FuncId → Tmps → List Tmp → Code → Code → Nat → R β} {r : β} (e : loopAt h l f = .ok r) :
    ∃ bd st pend fn ts ps a b nt, hrow h l = some ⟨bd, .loop st pend fn ts ps a b nt⟩ ∧ f bd st pend fn ts ps a b nt = .ok r := by
  unfold loopAt at e
  split at e
  · rename_i hr
    exact ⟨_, _, _, _, _, _, _, _, _, hr, e⟩
  · exact (bad_ok e).elim

theorem T_setParams {μ : Loc} : ∀ {ps : List Tmp} {vs : List DV} {l : List Value} {ts : Tmps} {tm : Array Value}, T μ ts tm → Vs μ vs l → (∀ p ∈ ps, p < tm.size) →
    T μ (setParams ps vs ts) ((ps.zip l).foldl (fun tm (t, x) => tm.setIfInBounds t x) tm) ∧ ((ps.zip l).foldl (fun tm (t, x) => tm.setIfInBounds t x) tm).size = tm.size
  | [], _, _, _, _, hT, _, _ => ⟨hT, rfl⟩
  | p :: ps, [], l, ts, tm, hT, hv, _ => by simp only [Vs] at hv; subst hv; exact ⟨hT, rfl⟩
  | p :: ps, v :: vs, l, ts, tm, hT, hv, hp => by
    obtain ⟨x, l', rfl, h1, h2⟩ := hv
    have hT' : T μ ((p, v) :: ts) (tm.setIfInBounds p x) :=
      T.put (a := { tmps := tm, defers := [] }) (dst := some p) hT h1 (fun d e => by cases e; exact hp p (List.mem_cons_self ..))
    obtain ⟨k1, k2⟩ := T_setParams (ps := ps) hT' h2 (fun q hq => by simpa using hp q (List.mem_cons_of_mem _ hq))
    exact ⟨k1, k2.trans (by simp)⟩

theorem endRound_sound {μ : Loc} {h h' : Heap} {w : World} (hh : H μ h w) {l : Nat} {p : Place} (hp : μ l = some p) {jump : Option Code} {e : End} {pan : Option DV} (hr : endRound l jump h = .ok (.mk e pan h')) :
    ∃ v w', (Instr.endRound p.b jump).run P w = .ok v w' ∧ (∃ d, e = .ret d ∧ V μ d v) ∧ H μ h' w' ∧ Step h.n μ w μ w' ∧ h.n ≤ h'.n := by
  obtain ⟨bd, st, pend, fn, ts, ps, a, b, nt, hrow, hr⟩ := loopAt_ok hr
  rw [hset_eq] at hr
  obtain ⟨tm, d, fn', hget, _, _, hput⟩ := loop_put (P := P) hh hrow hp
  cases jump with
  | none =>
    cases hr
    obtain ⟨h1, h2, h3⟩ := hput .ready none
    exact ⟨.bool true, _, by simp [Instr.endRound, hget, h1], ⟨_, rfl, rfl⟩, h2, h3, Nat.le_refl _⟩
  | some c =>
    cases hr
    obtain ⟨h1, h2, h3⟩ := hput .done (some c)
    exact ⟨.bool false, _, by simp [Instr.endRound, hget, h1], ⟨_, rfl, rfl⟩, h2, h3, Nat.le_refl _⟩

theorem round_sound (tab : Tab P E) {rec : Rec} (rk : RecOk P E rec) (eo : ExtOk P E) (dr : DrawSound P E rec) {l : Nat} {vs : List DV} {h h' : Heap} {e : End} {pan' : Option DV} (hr : roundRun E rec l vs h = .ok (.mk e pan' h')) :
    ∀ μ w (args : Array Value) p, Vs μ vs args.toList → H μ h w → Globs E μ → μ l = some p →
      ∃ f tmps a b, (Instr.yield p.b args).run P w = .ok (.round p.b f tmps a b) w ∧ RoundIn Fence.wide 0 P p.b f tmps a b w (CallPost μ h w e h') := by
  intro μ w args p hvs hh hG hp
  unfold roundRun at hr
  obtain ⟨bd, st, pend, fn, ts, ps, a, b, nt, hrow, hr⟩ := loopAt_ok hr
  obtain ⟨hchk, hr⟩ := need_ok hr
  simp only [Bool.and_eq_true] at hchk
  obtain ⟨hlen, hsets⟩ := hchk
  have hlen' : vs.length = ps.length := Nat.eq_of_beq_eq_true hlen
  have hall := all_lt hsets
  obtain ⟨tm, d, fn', hget, hT, hsz, hput⟩ := loop_put (P := P) hh hrow hp
  obtain ⟨hT2, hsz2⟩ := T_setParams (ps := ps) hT hvs (fun q hq => by rw [hsz]; exact hall q (by simp [hq]))
  obtain ⟨⟨o1, ts1, ds1, pan1, h1⟩, hcode, hr⟩ := andThen_ok hr
  have hasz : args.size = ps.length := by
    have := hvs.length
    simp at this
    omega
  refine ⟨fn', (ps.zip args.toList).foldl (fun tm (t, x) => tm.setIfInBounds t x) tm, a, b, ?_, ?_⟩
  · have hz : (ps.toArray.zip args).foldl (fun tm (t, x) => tm.setIfInBounds t x) tm = (ps.zip args.toList).foldl (fun tm (t, x) => tm.setIfInBounds t x) tm := by
      rw [← Array.foldl_toList]
      simp
    simp only [Instr.yield, Sem.run_bind, hget, Result.andThen_ok]
    rw [if_neg (by simp [hasz])]
    simp only [Sem.run_pure]
    rw [hz]
  · have hfix : p.fix = true := by
      obtain ⟨_, _, _, _, _, h2, _⟩ := hh.obj l _ hrow p hp
      exact h2
    have hB : Base E h.n μ (some l, some p.b) := ⟨hG, hh.out, p, hp, hfix, rfl⟩
    have hA : At h.n μ w (fun _ => True) nt (setParams ps vs ts) [] h μ { tmps := (ps.zip args.toList).foldl (fun tm (t, x) => tm.setIfInBounds t x) tm, defers := [] } w :=
      ⟨hT2, hsz2.trans hsz, rfl, hh, Step.refl _ _ _, Nat.le_refl _⟩
    refine roundIn_of_wpIn (n := 0) trivial (wpIn_mono (code_sound (ro := (some l, some p.b)) (wideF_round p.b) rfl tab rk eo dr a h.n μ w hB (.inr fun _ _ => trivial) _ _ _ _ _ _ _ _ hcode (fun t ht => hall t (by simp [ht])) hA) ?_)
    rintro ex a1 w1 ⟨μ1, ho, hA1⟩
    cases o1 with
    | norm =>
      cases ho
      simp only at hr
      obtain ⟨bd, st, pend, fn, ts, ps, a, b0, nt0, hrow, hr⟩ := loopAt_ok hr
      obtain ⟨hst, hr⟩ := need_ok hr
      rw [hset_eq] at hr
      obtain ⟨q, hq, lat⟩ := hA1.st.grow l (hh.hrow_lt (by assumption)) p hp
      have hqe := lat.fix hfix
      subst hqe
      obtain ⟨tm, d, fn', hget, _, _, hput⟩ := loop_put (P := P) hA1.hh hrow hq
      obtain ⟨k1, k2, k3⟩ := hput .busy pend
      obtain ⟨⟨o2, ts2, ds2, pan2, h2⟩, hcode2, hr⟩ := andThen_ok hr
      have hready : st = .ready := by cases st <;> first | rfl | exact nomatch hst
      subst hready
      refine ⟨_, ?_, wpIn_mono (code_sound (ro := (some l, some q.b)) (wideF_round q.b) rfl tab rk eo dr b h.n μ w hB (.inr fun _ _ => trivial) _ _ _ _ _ _ _ _ hcode2 (fun t ht => hall t (by simp [ht])) (hA1.panic k2 k3 (Nat.le_refl _))) ?_⟩
      · simp [Instr.beginRound, hget, k1]
      · rintro ex2 a2 w2 ⟨μ2, ho2, hA2⟩
        obtain ⟨q2, hq2, lat2⟩ := hA2.st.grow l (hh.hrow_lt (by assumption)) q hp
        have hqe2 := lat2.fix hfix
        subst hqe2
        have fin : ∀ jump, endRound l jump h2 = .ok (.mk e pan' h') → ∃ v w', (Instr.endRound q2.b jump).run P w2 = .ok v w' ∧ CallPost μ h w e h' (.returned v) w' := by
          intro jump hr
          obtain ⟨v, w', j1, ⟨dv, rfl, hv⟩, j2, j3, j4⟩ := endRound_sound (P := P) hA2.hh hq2 hr
          exact ⟨v, w', j1, μ2, ⟨v, rfl, hv⟩, j2, hA2.st.trans j3 hA2.le, Nat.le_trans hA2.le j4⟩
        cases o2 with
        | norm => cases ho2; exact fin none hr
        | ret => cases ho2; exact fin (some .ret) hr
        | exit id => cases ho2; exact fin (some (.exit id)) hr
        | panic x => exact (bad_ok hr).elim
    | exit id => exact (bad_ok hr).elim
    | ret => exact (bad_ok hr).elim
    | panic x => exact (bad_ok hr).elim
end

theorem run_ok (tab : Tab P E) (eo : ExtOk P E) (dr : ∀ rec, RecOk P E rec → DrawSound P E rec) : ∀ n, RecOk P E (run E n) := by
  intro n
  induction n with
  | zero => exact ⟨fun _ _ _ _ _ _ _ h => (bad_ok h).elim, fun _ _ _ _ _ _ _ h => (bad_ok h).elim, fun _ _ _ _ _ _ h => (bad_ok h).elim⟩
  | succ n ih =>
    exact ⟨fun _ _ _ _ _ _ _ h => call_sound tab ih eo (dr _ ih) h, fun _ _ _ _ _ _ _ h => defer_sound tab ih eo (dr _ ih) h, fun _ _ _ _ _ _ h => round_sound tab ih eo (dr _ ih) h⟩

end DG
