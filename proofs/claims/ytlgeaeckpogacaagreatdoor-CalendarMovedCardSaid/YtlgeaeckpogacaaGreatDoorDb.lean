/-
  Each operation is carried out as the interpreter says.
-/
import Derived.Test.YtlgeaeckpogacaaGreatDoorDa
import Derived.MapKept
import Derived.Laws.Tables
import Derived.DataReads
import Derived.Laws.IdiomStrings
import Derived.Laws.MakeOwn

set_option linter.unusedVariables false
set_option linter.unusedSimpArgs false

/-
  Operation by operation, sixth part: parts by index, slices, conversions, interfaces.
-/
namespace DG
open Go Go.RowKit

variable {P : Program} {E : Env}

theorem sound_index (tab : Tab P E) {o : Oper} {t : TypeId} {x y : Operand} (ho : o.op = .index t x y) : OpSound P E o := fun ts h v h' e μ w a hT hh hG => by
  rw [ho] at e
  obtain ⟨ti, hi, e⟩ := withTy_ok e
  obtain ⟨d, hd, hk, hrun⟩ := kind_run tab hi w
  split at e
  · rename_i n el hkk
    rw [hkk] at hk
    cases hk
    obtain ⟨ei, hei, e⟩ := withTy_ok e
    obtain ⟨u, h1, e⟩ := andThen_ok e
    obtain ⟨u', h2, e⟩ := andThen_ok e
    have hx := (arg_V h1 hT hG).1
    have hy := (arg_V h2 hT hG).1
    split at e
    · obtain ⟨k, m, rfl, hm, e⟩ := idx_ok e
      obtain ⟨z, hz, e⟩ := andThen_ok e
      injection e with e; injection e with e1 e2; subst e1; subst e2
      obtain ⟨b, hb, hbs⟩ := hx
      obtain ⟨q, hq, hqv⟩ := run_part (P := P) tab hei hbs hz w
      have hy' : a.eval y = .int k (.ofNat m) := hy
      exact Does.value hh (x := q) (by simp [execOp, ho, hb, hy', Instr.index, asIntOf, hrun, run_sizeOf tab hei, hm, hq]) hqv
    · exact (bad_ok e).elim
  · rename_i hkk
    rw [hkk] at hk
    cases hk
    obtain ⟨u, h1, e⟩ := andThen_ok e
    obtain ⟨u', h2, e⟩ := andThen_ok e
    have hx := (arg_V h1 hT hG).1
    have hy := (arg_V h2 hT hG).1
    split at e
    · rename_i s _
      obtain ⟨k, m, rfl, hm, e⟩ := idx_ok e
      split at e
      · rename_i b r hd'
        injection e with e; injection e with e1 e2; subst e1; subst e2
        have hx' : a.eval x = .string s := hx
        have hy' : a.eval y = .int k (.ofNat m) := hy
        rw [drops_eq] at hd'
        have hb : s[m]? = some b := by
          have h3 : (s.data.toList.drop m)[0]? = some b := by rw [hd']; rfl
          rw [List.getElem?_drop] at h3
          have h4 : s.data[m]? = some b := by rw [← Array.getElem?_toList]; simpa using h3
          have h5 : m < s.size := hm
          rw [Array.getElem?_eq_some_iff] at h4
          obtain ⟨h6, h4⟩ := h4
          simp [h5]
          exact h4
        refine Does.value hh (x := .int .u8 b.toNat) (by simp [execOp, ho, hx', hy', Instr.index, asIntOf, hrun, hb]) ?_
        unfold byteDV
        rw [natK_eq]
        rfl
      · exact (bad_ok e).elim
    · exact (bad_ok e).elim
  · exact (bad_ok e).elim

theorem sound_makeInterface (tab : Tab P E) {o : Oper} {t : TypeId} {x : Operand} (ho : o.op = .makeInterface t x) : OpSound P E o := fun ts h v h' e μ w a hT hh hG => by
  rw [ho] at e
  obtain ⟨ti, hi, e⟩ := withTy_ok e
  obtain ⟨d, hd, hk, hrun⟩ := kind_run tab hi w
  have key : ∀ d' : TypeDesc, (∀ m, d' ≠ .interface m) → (underlying t).run P w = .ok d' w → (pv (arg E x) fun v => .ok (.iface t v)).f ts h = .ok (v, h') → Does P μ h w (execOp a.eval o) v h' := by
    intro d' hd' hr e
    obtain ⟨u, u', h1, h2, h3⟩ := pv_ok e
    cases h3
    injection h2 with h2; subst h2
    have hx := (arg_V h1 hT hG).1
    refine Does.value hh (x := .iface t (a.eval x)) ?_ ⟨_, rfl, hx⟩
    cases d' <;> first | (exact absurd rfl (hd' _)) | simp [execOp, ho, Instr.makeInterface, hr]
  split at e
  · exact (bad_ok e).elim
  · exact (bad_ok e).elim
  · rename_i n1 n2
    refine key d ?_ hrun e
    intro m hm
    subst hm
    cases hkk : ti.k <;> rw [hkk] at hk n1 n2 <;> simp [KOk] at hk <;> first | exact (n1 rfl) | exact (n2 rfl)

theorem sound_convert_int (tab : Tab P E) {o : Oper} {s d : TypeId} {x : Operand} {ti : TI} {k' : IntKind} (ho : o.op = .convert s d x) (hi : E.ty d = some ti) (hk : ti.k = .int k')
    {ts : Tmps} {h h' : Heap} {v : DV} (e : (pv (arg E x) fun v => match v with | .int _ n => mkInt k' (wrapF k' n) | _ => bad "convert").f ts h = .ok (v, h'))
    {si : TI} (his : E.ty s = some si)
    {μ : Loc} {w : World} {a : Act} (hT : T μ ts a.tmps) (hh : H μ h w) (hG : Globs E μ) : Does P μ h w (execOp a.eval o) v h' := by
  obtain ⟨dd, hd, hkk, hrun⟩ := kind_run tab hi w
  obtain ⟨_, _, _, hrun2⟩ := kind_run tab his w
  rw [hk] at hkk
  cases hkk
  obtain ⟨u, u', h1, h2, h3⟩ := pv_ok e
  cases h3
  have hx := (arg_V h1 hT hG).1
  split at h2
  · rename_i k n
    rw [mkInt_eq, wrapF_eq] at h2
    injection h2 with h2; subst h2
    have hx' : a.eval x = .int k n := hx
    exact Does.value hh (x := .int k' (k'.wrap n)) (by simp [execOp, ho, convert, hrun, hrun2, hx', Conv.intToInt]) rfl
  · exact (bad_ok h2).elim

theorem zero_V (tab : Tab P E) {t : TypeId} {i : TI} (hi : E.ty t = some i) {v : DV} (h : mkVal (DG.isAgg i.k) i.zero = .ok v) (w : World) : ∃ z, (zeroValue t).run P w = .ok z w ∧ ∀ μ, V μ v z := by
  obtain ⟨inf, z, h1, h2, h3, h4, h5, h6, h7, h8⟩ := (tab.ty t i hi).info
  refine ⟨z, by simp [zeroValue, typeInfo, h1, h4], fun μ => ?_⟩
  have hv := h5 μ
  cases hagg : DG.isAgg i.k with
  | true =>
    rw [hagg] at h
    obtain ⟨b, rfl⟩ := h7 hagg
    injection h with h; subst h
    exact ⟨b, rfl, hv⟩
  | false =>
    rw [hagg] at h
    have ho := h8 hagg
    have hc : z.cells = #[z] := by cases z <;> first | rfl | (simp [Value.oneCell'] at ho; done)
    rw [hc] at hv
    obtain ⟨k1, _⟩ := mkVal_V (agg := false) h hv
    simpa using k1

theorem sound_typeAssert (tab : Tab P E) {o : Oper} {x : Operand} {t t' : TypeId} {ok : Bool} (ho : o.op = .typeAssert x t' t ok) : OpSound P E o := fun ts h v h' e μ w a hT hh hG => by
  rw [ho] at e
  obtain ⟨ti, hi, e⟩ := withTy_ok e
  obtain ⟨d, hd, hk, hrun⟩ := kind_run tab hi w
  split at e
  · exact (bad_ok e).elim
  · exact (bad_ok e).elim
  · rename_i n1 n2
    have hd' : ∀ m, d ≠ .interface m := by
      intro m hm
      subst hm
      cases hkk : ti.k <;> rw [hkk] at hk n1 n2 <;> simp [KOk] at hk <;> first | exact (n1 rfl) | exact (n2 rfl)
    obtain ⟨u, u', h1, h2, h3⟩ := pv_ok e
    cases h3
    have hx := (arg_V h1 hT hG).1
    split at h2
    · have hx' : a.eval x = .nilIface := hx
      cases ok with
      | false => exact (bad_ok h2).elim
      | true =>
        rw [cond_true] at h2
        obtain ⟨z, hz, h2⟩ := andThen_ok h2
        injection h2 with h2; subst h2
        obtain ⟨zz, hz1, hz2⟩ := zero_V (P := P) tab hi hz w
        refine Does.value hh (x := .tuple #[zz, .bool false]) ?_ ⟨_, rfl, ⟨_, _, rfl, hz2 μ, ⟨_, _, rfl, rfl, rfl⟩⟩⟩
        cases d <;> first | (exact absurd rfl (hd' _)) | simp [execOp, ho, Instr.typeAssert, hrun, hx', hz1]
    · rename_i t1 v1
      obtain ⟨y, hx', hy⟩ := hx
      rw [beq_eq] at h2
      by_cases ht : t1 = t
      · subst ht
        rw [decide_eq_true rfl, cond_true] at h2
        injection h2 with h2
        cases ok with
        | false =>
          rw [cond_false] at h2; subst h2
          refine Does.value hh (x := y) ?_ hy
          cases d <;> first | (exact absurd rfl (hd' _)) | simp [execOp, ho, Instr.typeAssert, hrun, hx']
        | true =>
          rw [cond_true] at h2; subst h2
          refine Does.value hh (x := .tuple #[y, .bool true]) ?_ ⟨_, rfl, ⟨_, _, rfl, hy, ⟨_, _, rfl, rfl, rfl⟩⟩⟩
          cases d <;> first | (exact absurd rfl (hd' _)) | simp [execOp, ho, Instr.typeAssert, hrun, hx']
      · rw [decide_eq_false ht, cond_false] at h2
        cases ok with
        | false => exact (bad_ok h2).elim
        | true =>
          rw [cond_true] at h2
          obtain ⟨z, hz, h2⟩ := andThen_ok h2
          injection h2 with h2; subst h2
          obtain ⟨zz, hz1, hz2⟩ := zero_V (P := P) tab hi hz w
          refine Does.value hh (x := .tuple #[zz, .bool false]) ?_ ⟨_, rfl, ⟨_, _, rfl, hz2 μ, ⟨_, _, rfl, rfl, rfl⟩⟩⟩
          cases d <;> first | (exact absurd rfl (hd' _)) | simp [execOp, ho, Instr.typeAssert, hrun, hx', hz1, ht]
    · exact (bad_ok h2).elim

end DG

/-
  Operation by operation, seventh part: slices.
-/
namespace DG
open Go Go.RowKit

variable {P : Program} {E : Env}

theorem bounds_run {isSlice : Bool} {len cap l h m : Nat} {lo hi mx : Option Value} (hm : (mx = none ∧ m = cap) ∨ ∃ k, mx = some (.int k (.ofNat m)) ∧ m ≤ cap)
    (hhi : (hi = none ∧ mx = none ∧ h = len) ∨ ∃ k, hi = some (.int k (.ofNat h)) ∧ h ≤ m) (hl : (lo = none ∧ l = 0) ∨ ∃ k, lo = some (.int k (.ofNat l)) ∧ l ≤ h) (w : World) :
    (Instr.sliceBounds isSlice len cap lo hi mx).run P w = .ok (l, h, m) w := by
  rcases hm with ⟨rfl, rfl⟩ | ⟨k1, rfl, h1⟩ <;> rcases hhi with ⟨rfl, h2, rfl⟩ | ⟨k2, rfl, h2⟩ <;> rcases hl with ⟨rfl, rfl⟩ | ⟨k3, rfl, h3⟩ <;>
    first
    | (cases h2; done)
    | simp [Instr.sliceBounds, Instr.sliceBound, asIntOf, *]

theorem bnd_ok {β : Type} {v : Option DV} {dflt most : Nat} {f : Nat → R β} {r : β} (h : bnd v dflt most f = .ok r) :
    (v = none ∧ f dflt = .ok r) ∨ ∃ k n, v = some (.int k (.ofNat n)) ∧ n ≤ most ∧ f n = .ok r := by
  unfold bnd at h
  split at h
  · exact .inl ⟨rfl, h⟩
  · rename_i k n
    rw [ble_eq] at h
    by_cases hn : n ≤ most
    · rw [decide_eq_true hn, cond_true] at h; exact .inr ⟨k, n, rfl, hn, h⟩
    · rw [decide_eq_false hn] at h; exact (bad_ok h).elim
  · exact (bad_ok h).elim

theorem mkSl_eq (id ver off len es : Nat) (cap : Option Nat) : mkSl id ver off len es cap = .ok (.sl id ver off len es cap) := by
  unfold mkSl
  simp only [natK_eq]
  cases cap <;> rfl

theorem argO_none {x : Option Operand} {ts : Tmps} {μ : Loc} {a : Act} (h : argO E x ts = .ok none) (hT : T μ ts a.tmps) (hG : Globs E μ) : x.map a.eval = none := by
  have := argO_V h hT hG
  simp only at this
  subst this; rfl

theorem argO_int {x : Option Operand} {ts : Tmps} {k : IntKind} {n : Int} {μ : Loc} {a : Act} (h : argO E x ts = .ok (some (.int k n))) (hT : T μ ts a.tmps) (hG : Globs E μ) : x.map a.eval = some (.int k n) := by
  have := argO_V h hT hG
  simp only at this
  obtain ⟨y, rfl, hy⟩ := this
  show some (a.eval y) = _
  rw [show a.eval y = .int k n from hy]

/-- A bound as it is told, of the model's side. -/
theorem bnd_val {x : Option Operand} {ts : Tmps} {v : Option DV} {μ : Loc} {a : Act} (hx : argO E x ts = .ok v) (hT : T μ ts a.tmps) (hG : Globs E μ) {β : Type} {dflt most : Nat} {f : Nat → R β} {r : β} (h : bnd v dflt most f = .ok r) :
    (x.map a.eval = none ∧ f dflt = .ok r) ∨ ∃ k n, x.map a.eval = some (.int k (.ofNat n)) ∧ n ≤ most ∧ f n = .ok r := by
  rcases bnd_ok h with ⟨rfl, h⟩ | ⟨k, n, rfl, hn, h⟩
  · exact .inl ⟨argO_none hx hT hG, h⟩
  · exact .inr ⟨k, n, argO_int hx hT hG, hn, h⟩

/-- A slice cut out of a slice. -/
theorem V_cut {μ : Loc} {id ver off es : Nat} {cap : Option Nat} {ad : Addr} {p : Place} {c l h m : Nat} {cap' : Option Nat} (hp : μ id = some p) (hle : ver ≤ p.ver)
    (he : ver = p.ver → (c ≠ 0 → ad = ⟨p.b, off, none⟩) ∧ CapRel p off es c cap) (hl : l ≤ h) (hh : h ≤ m) (hm : m ≤ c) (hc : CapIs (m - l) cap') (hcap : cap' = none → cap = none ∧ m = c) :
    V μ (.sl id ver (off + l * es) (h - l) es cap') (.slice (some (if m = l then ad else ad.add (l * es))) (h - l) (m - l)) := by
  refine ⟨p, _, m - l, hp, rfl, by omega, hc, hle, fun hv => ?_⟩
  obtain ⟨h1, h2⟩ := he hv
  refine ⟨fun h3 => ?_, ?_⟩
  · rw [if_neg (by omega), h1 (by omega), addr_add]
  · cases cap' with
    | some k => exact hc k rfl
    | none =>
      obtain ⟨rfl, rfl⟩ := hcap rfl
      obtain ⟨h4, h5⟩ := h2
      have h6 : m * es = l * es + (m - l) * es := by rw [← Nat.add_mul]; congr 1; omega
      refine ⟨by omega, fun h7 => ?_⟩
      have := h5 (by omega)
      omega

theorem sound_slice (tab : Tab P E) {o : Oper} {t : TypeId} {x : Operand} {lo hi mx : Option Operand} (ho : o.op = .slice t x lo hi mx) : OpSound P E o := fun ts h v h' e μ w a hT hh hG => by
  rw [ho] at e
  obtain ⟨ti, hit, e⟩ := withTy_ok e
  obtain ⟨d, hd, hk, hrun⟩ := kind_run tab hit w
  simp only at e
  split at e
  · rename_i hkk
    rw [hkk] at hk
    cases hk
    obtain ⟨u, h1, e⟩ := andThen_ok e
    obtain ⟨vlo, h2, e⟩ := andThen_ok e
    obtain ⟨vhi, h3, e⟩ := andThen_ok e
    obtain ⟨vmx, h4, e⟩ := andThen_ok e
    obtain ⟨r, h5, e⟩ := andThen_ok e
    injection e with e; injection e with e1 e2; subst e1; subst e2
    have hx := (arg_V h1 hT hG).1
    split at h5
    · unfold sliceStr at h5
      split at h5
      · rename_i s _ _ _
        have hx' : a.eval x = .string s := hx
        have hmx : mx.map a.eval = none := argO_none h4 hT hG
        have key : ∀ hv lv : Nat, ((hi.map a.eval = none ∧ hv = s.size) ∨ ∃ k, hi.map a.eval = some (.int k (.ofNat hv)) ∧ hv ≤ s.size) → ((lo.map a.eval = none ∧ lv = 0) ∨ ∃ k, lo.map a.eval = some (.int k (.ofNat lv)) ∧ lv ≤ hv) →
            r = .str (s.extract lv hv) → Does P μ h w (execOp a.eval o) r h := by
          intro hv lv g1 g2 g3
          have hb := bounds_run (P := P) (isSlice := false) (len := s.size) (cap := s.size) (l := lv) (h := hv) (m := s.size) (mx := none) (.inl ⟨rfl, rfl⟩) (g1.imp (fun g => ⟨g.1, rfl, g.2⟩) id) g2 w
          refine Does.value hh (x := .string (s.extract lv hv)) ?_ (by rw [g3]; exact rfl)
          simp [execOp, ho, Instr.sliceAt, Instr.slice, hrun, hx', hmx, hb]
        rcases bnd_val h3 hT hG h5 with ⟨g1, h5⟩ | ⟨k1, hv, g1, g1', h5⟩ <;> rcases bnd_val h2 hT hG h5 with ⟨g2, h5⟩ | ⟨k2, lv, g2, g2', h5⟩ <;> injection h5 with h5
        · exact key _ _ (.inl ⟨g1, rfl⟩) (.inl ⟨g2, rfl⟩) h5.symm
        · exact key _ _ (.inl ⟨g1, rfl⟩) (.inr ⟨k2, g2, g2'⟩) h5.symm
        · exact key _ _ (.inr ⟨k1, g1, g1'⟩) (.inl ⟨g2, rfl⟩) h5.symm
        · exact key _ _ (.inr ⟨k1, g1, g1'⟩) (.inr ⟨k2, g2, g2'⟩) h5.symm
      · exact (bad_ok h5).elim
    · exact (bad_ok h5).elim
  · rename_i el hkk
    rw [hkk] at hk
    cases hk
    obtain ⟨ei, hei, e⟩ := withTy_ok e
    obtain ⟨u, h1, e⟩ := andThen_ok e
    obtain ⟨vlo, h2, e⟩ := andThen_ok e
    obtain ⟨vhi, h3, e⟩ := andThen_ok e
    obtain ⟨vmx, h4, e⟩ := andThen_ok e
    obtain ⟨r, h5, e⟩ := andThen_ok e
    injection e with e; injection e with e1 e2; subst e1; subst e2
    have hx := (arg_V h1 hT hG).1
    unfold sliceSl at h5
    split at h5
    · rename_i id ver off len es cap _ _ _
      obtain ⟨hes, h6⟩ := need_ok h5
      clear h5
      have h5 := h6
      clear h6
      have hes : es = ei.size := Nat.eq_of_beq_eq_true hes
      subst hes
      obtain ⟨p, ad, c, hp, hv, hlc, hck, hle, he⟩ := hx
      have hcg : cap.getD len ≤ c := by
        cases cap with
        | none => exact hlc
        | some k => exact Nat.le_of_eq (hck k rfl).symm
      have fin : ∀ (m hv' lv : Nat) (cap' : Option Nat), ((mx.map a.eval = none ∧ m = c) ∨ ∃ k, mx.map a.eval = some (.int k (.ofNat m)) ∧ m ≤ c) →
          ((hi.map a.eval = none ∧ mx.map a.eval = none ∧ hv' = len) ∨ ∃ k, hi.map a.eval = some (.int k (.ofNat hv')) ∧ hv' ≤ m) →
          ((lo.map a.eval = none ∧ lv = 0) ∨ ∃ k, lo.map a.eval = some (.int k (.ofNat lv)) ∧ lv ≤ hv') → lv ≤ hv' → hv' ≤ m → m ≤ c → CapIs (m - lv) cap' → (cap' = none → cap = none ∧ m = c) →
          r = .sl id ver (off + lv * ei.size) (hv' - lv) ei.size cap' → Does P μ h w (execOp a.eval o) r h := by
        intro m hv' lv cap' g1 g2 g3 g4 g5 g6 g7 g8 g9
        have hb := bounds_run (P := P) (isSlice := true) (len := len) (cap := c) g1 g2 g3 w
        refine Does.value hh (x := .slice (some (if m = lv then ad else ad.add (lv * ei.size))) (hv' - lv) (m - lv)) ?_ (by rw [g9]; exact V_cut hp hle he g4 g5 g6 g7 g8)
        simp [execOp, ho, Instr.sliceAt, Instr.slice, hrun, hv, hb, run_sizeOf tab hei]
        split <;> rfl
      split at h5
      · split at h5
        · exact (bad_ok h5).elim
        · rename_i mv _ _ hv0
          rcases bnd_val h4 hT hG h5 with ⟨g1, h5⟩ | ⟨k1, m, g1, g1', h5⟩
          · have := argO_V h4 hT hG
            simp only at this
            obtain ⟨y, rfl, _⟩ := this
            exact nomatch g1
          rcases bnd_val h3 hT hG h5 with ⟨g2, h5⟩ | ⟨k2, hv', g2, g2', h5⟩
          · have := argO_V h3 hT hG
            simp only at this
            obtain ⟨y, rfl, _⟩ := this
            exact nomatch g2
          rcases bnd_val h2 hT hG h5 with ⟨g3, h5⟩ | ⟨k3, lv, g3, g3', h5⟩ <;> rw [mkSl_eq] at h5 <;> injection h5 with h5
          · exact fin m hv' 0 (some (m - 0)) (.inr ⟨k1, g1, by omega⟩) (.inr ⟨k2, g2, g2'⟩) (.inl ⟨g3, rfl⟩) (Nat.zero_le _) g2' (by omega) (fun k hk => by cases hk; rfl) (fun hk => nomatch hk) h5.symm
          · exact fin m hv' lv (some (m - lv)) (.inr ⟨k1, g1, by omega⟩) (.inr ⟨k2, g2, g2'⟩) (.inr ⟨k3, g3, g3'⟩) g3' g2' (by omega) (fun k hk => by cases hk; rfl) (fun hk => nomatch hk) h5.symm
      · have hmx := argO_none h4 hT hG
        have hcm : ∀ l, CapIs (c - l) (cap.map (· - l)) := by
          intro l k hk
          obtain ⟨k', hk', rfl⟩ := Option.map_eq_some_iff.1 hk
          rw [hck k' hk']
        have hcn : ∀ l, cap.map (· - l) = none → cap = none ∧ c = c := by
          intro l hk
          exact ⟨Option.map_eq_none_iff.1 hk, rfl⟩
        rcases bnd_val h3 hT hG h5 with ⟨g2, h5⟩ | ⟨k2, hv', g2, g2', h5⟩ <;> rcases bnd_val h2 hT hG h5 with ⟨g3, h5⟩ | ⟨k3, lv, g3, g3', h5⟩ <;> rw [mkSl_eq] at h5 <;> injection h5 with h5
        · exact fin c len 0 _ (.inl ⟨hmx, rfl⟩) (.inl ⟨g2, hmx, rfl⟩) (.inl ⟨g3, rfl⟩) (Nat.zero_le _) hlc (Nat.le_refl _) (hcm 0) (hcn 0) h5.symm
        · exact fin c len lv _ (.inl ⟨hmx, rfl⟩) (.inl ⟨g2, hmx, rfl⟩) (.inr ⟨k3, g3, g3'⟩) g3' hlc (Nat.le_refl _) (hcm lv) (hcn lv) h5.symm
        · exact fin c hv' 0 _ (.inl ⟨hmx, rfl⟩) (.inr ⟨k2, g2, by omega⟩) (.inl ⟨g3, rfl⟩) (Nat.zero_le _) (by omega) (Nat.le_refl _) (hcm 0) (hcn 0) h5.symm
        · exact fin c hv' lv _ (.inl ⟨hmx, rfl⟩) (.inr ⟨k2, g2, by omega⟩) (.inr ⟨k3, g3, g3'⟩) g3' (by omega) (Nat.le_refl _) (hcm lv) (hcn lv) h5.symm
    · have hv : a.eval x = .slice none 0 0 := hx
      split at h5
      · have hmx := argO_none h4 hT hG
        have fin : ∀ (hv' lv : Nat), ((hi.map a.eval = none ∧ hv' = 0) ∨ ∃ k, hi.map a.eval = some (.int k (.ofNat hv')) ∧ hv' ≤ 0) →
            ((lo.map a.eval = none ∧ lv = 0) ∨ ∃ k, lo.map a.eval = some (.int k (.ofNat lv)) ∧ lv ≤ hv') → lv = 0 → hv' = 0 → r = .nsl → Does P μ h w (execOp a.eval o) r h := by
          intro hv' lv g2 g3 g4 g5 g6
          have hb := bounds_run (P := P) (isSlice := true) (len := 0) (cap := 0) (m := 0) (mx := none) (.inl ⟨rfl, rfl⟩) (g2.imp (fun g => ⟨g.1, rfl, g.2⟩) id) g3 w
          subst g4; subst g5; subst g6
          refine Does.value hh (x := .slice none 0 0) ?_ rfl
          simp [execOp, ho, Instr.sliceAt, Instr.slice, hrun, hv, hmx, hb, run_sizeOf tab hei]
        rcases bnd_val h3 hT hG h5 with ⟨g2, h5⟩ | ⟨k2, hv', g2, g2', h5⟩ <;> rcases bnd_val h2 hT hG h5 with ⟨g3, h5⟩ | ⟨k3, lv, g3, g3', h5⟩ <;> injection h5 with h5
        · exact fin 0 0 (.inl ⟨g2, rfl⟩) (.inl ⟨g3, rfl⟩) rfl rfl h5.symm
        · exact fin 0 lv (.inl ⟨g2, rfl⟩) (.inr ⟨k3, g3, g3'⟩) (by omega) rfl h5.symm
        · exact fin hv' 0 (.inr ⟨k2, g2, g2'⟩) (.inl ⟨g3, rfl⟩) rfl (by omega) h5.symm
        · exact fin hv' lv (.inr ⟨k2, g2, g2'⟩) (.inr ⟨k3, g3, by omega⟩) (by omega) (by omega) h5.symm
      · exact (bad_ok h5).elim
    · exact (bad_ok h5).elim
  · rename_i n el hkk
    rw [hkk] at hk
    cases hk
    obtain ⟨ei, hei, e⟩ := withTy_ok e
    obtain ⟨u, h1, e⟩ := andThen_ok e
    obtain ⟨vlo, h2, e⟩ := andThen_ok e
    obtain ⟨vhi, h3, e⟩ := andThen_ok e
    obtain ⟨vmx, h4, e⟩ := andThen_ok e
    obtain ⟨r, h5, e⟩ := andThen_ok e
    injection e with e; injection e with e1 e2; subst e1; subst e2
    have hx := (arg_V h1 hT hG).1
    unfold sliceArr at h5
    split at h5
    · rename_i id ver off _ _ _
      split at h5
      · obtain ⟨p, ad, hp, hv, hle, he⟩ := hx
        have hmx := argO_none h4 hT hG
        have fin : ∀ (hv' lv : Nat), ((hi.map a.eval = none ∧ hv' = n) ∨ ∃ k, hi.map a.eval = some (.int k (.ofNat hv')) ∧ hv' ≤ n) →
            ((lo.map a.eval = none ∧ lv = 0) ∨ ∃ k, lo.map a.eval = some (.int k (.ofNat lv)) ∧ lv ≤ hv') → lv ≤ hv' → hv' ≤ n →
            r = .sl id ver (off + lv * ei.size) (hv' - lv) ei.size (some (n - lv)) → Does P μ h w (execOp a.eval o) r h := by
          intro hv' lv g2 g3 g4 g5 g9
          have hb := bounds_run (P := P) (isSlice := false) (len := n) (cap := n) (m := n) (mx := none) (.inl ⟨rfl, rfl⟩) (g2.imp (fun g => ⟨g.1, rfl, g.2⟩) fun g => g) g3 w
          refine Does.value hh (x := .slice (some (if n = lv then ad else ad.add (lv * ei.size))) (hv' - lv) (n - lv)) ?_ (by
            rw [g9]
            exact V_cut (cap := some n) hp hle (fun h => ⟨fun _ => he h, rfl⟩) g4 g5 (Nat.le_refl _) (fun k hk => by cases hk; rfl) (fun hk => nomatch hk))
          simp [execOp, ho, Instr.sliceAt, hrun, hv, hmx, hb, run_sizeOf tab hei, Instr.sureAddr]
        rcases bnd_val h3 hT hG h5 with ⟨g2, h5⟩ | ⟨k2, hv', g2, g2', h5⟩ <;> rcases bnd_val h2 hT hG h5 with ⟨g3, h5⟩ | ⟨k3, lv, g3, g3', h5⟩ <;> rw [mkSl_eq] at h5 <;> injection h5 with h5
        · exact fin n 0 (.inl ⟨g2, rfl⟩) (.inl ⟨g3, rfl⟩) (Nat.zero_le _) (Nat.le_refl _) h5.symm
        · exact fin n lv (.inl ⟨g2, rfl⟩) (.inr ⟨k3, g3, g3'⟩) g3' (Nat.le_refl _) h5.symm
        · exact fin hv' 0 (.inr ⟨k2, g2, g2'⟩) (.inl ⟨g3, rfl⟩) (Nat.zero_le _) g2' h5.symm
        · exact fin hv' lv (.inr ⟨k2, g2, g2'⟩) (.inr ⟨k3, g3, g3'⟩) g3' g2' h5.symm
      · exact (bad_ok h5).elim
    · exact (bad_ok h5).elim
  · exact (bad_ok e).elim

end DG

/-
  Operation by operation, eighth part: maps.
-/
namespace DG
open Go Go.RowKit

variable {P : Program} {E : Env}

theorem V.ofInt {μ : Loc} {k : IntKind} {n : Int} {v : Value} (h : V μ (.int k n) v) : v = .int k n := h
theorem V.ofStr {μ : Loc} {s : ByteArray} {v : Value} (h : V μ (.str s) v) : v = .string s := h

def KeyDesc (d : TypeDesc) : Prop := (∃ k, d = .int k) ∨ d = .string

theorem equal_same {μ : Loc} {x y : DV} {b : Bool} {a c : Value} (h : equal x y = .ok b) (hx : V μ x a) (hy : V μ y c) {d : TypeDesc} (hd : KeyDesc d) (hk : ∀ (u : IntKind × Int), d = .string → a ≠ .int u.1 u.2) (hk' : ∀ k s, d = .int k → a ≠ .string s) :
    Instr.sameNow d a c = some b ∧ (b = true → a = c ∧ Instr.sameBits 10000 c a = true) := by
  unfold equal at h
  split at h
  · rename_i k n k' n'
    simp only [kindEq_eq] at h
    by_cases hkk : k = k'
    · subst hkk
      simp only [decide_true, cond_true, intEq_eq] at h
      injection h with h; subst h
      cases hx; cases hy
      rcases hd with ⟨kk, rfl⟩ | rfl
      · refine ⟨by simp [Instr.sameNow], fun hb => ?_⟩
        have : n = n' := by simpa using hb
        subst this
        exact ⟨rfl, by simp [Instr.sameBits]⟩
      · exact absurd rfl (hk (k, n) rfl)
    · simp only [decide_eq_false hkk] at h; exact (bad_ok h).elim
  · rename_i s s'
    simp only [bytesEq_toList] at h
    injection h with h; subst h
    cases hx; cases hy
    have hb : (s == s') = (s.toList == s'.toList) := by
      rw [ByteArray.toList_eq, ByteArray.toList_eq, Bool.eq_iff_iff, MapKept.bytes_beq]
      constructor
      · rintro rfl; simp
      · intro h
        have : s.data.toList = s'.data.toList := by simpa using h
        cases s; cases s'
        simp at this
        simp [this]
    rcases hd with ⟨kk, rfl⟩ | rfl
    · exact absurd rfl (hk' kk s rfl)
    · refine ⟨by simp [Instr.sameNow, hb], fun hb' => ?_⟩
      rw [← hb] at hb'
      have := (MapKept.bytes_beq s s').1 hb'
      subst this
      exact ⟨rfl, by simpa [Instr.sameBits] using hb'⟩
  · exact (bad_ok h).elim

/-- A key as it may be asked for. -/
def Fits (d : TypeDesc) (a : Value) : Prop := (∀ u : IntKind × Int, d = .string → a ≠ .int u.1 u.2) ∧ (∀ k s, d = .int k → a ≠ .string s)

theorem find_run {μ : Loc} {d : TypeDesc} (hd : KeyDesc d) {k : DV} {a : Value} (hk : V μ k a) (hf : Fits d a) : ∀ {es : List (DV × DV)} {l : List MapEntry} {r : Option DV} (i : Nat), find k es = .ok r → Ents μ es l →
    match r with
    | none => Instr.findNow d a l i = some none
    | some x => ∃ j v, Instr.findNow d a l i = some (some (j, v)) ∧ V μ x v
  | [], l, r, i, h, hE => by
    simp only [Ents] at hE
    subst hE
    injection h with h; subst h
    rfl
  | (y, x) :: es, l, r, i, h, hE => by
    obtain ⟨e, l', rfl, h1, h2, h3⟩ := hE
    obtain ⟨b, hb, h⟩ := andThen_ok h
    obtain ⟨g1, g2⟩ := equal_same hb hk h1 hd hf.1 hf.2
    cases b with
    | true =>
      injection h with h; subst h
      exact ⟨i, e.val, by simp [Instr.findNow, g1], h2⟩
    | false =>
      have := find_run hd hk hf (i + 1) h h3
      cases r with
      | none => simpa [Instr.findNow, g1] using this
      | some x => simpa [Instr.findNow, g1] using this

theorem put_run {μ : Loc} {d : TypeDesc} (hd : KeyDesc d) {k x : DV} {a v : Value} (hk : V μ k a) (hx : V μ x v) (hf : Fits d a) : ∀ {es : List (DV × DV)} {l : List MapEntry} {r : List (DV × DV)} (i : Nat), put k x es = .ok r → Ents μ es l →
    (Instr.findNow d a l i = some none ∧ ∀ c, Ents μ r (l ++ [⟨a, v, c⟩])) ∨
    ∃ j u e, Instr.findNow d a l i = some (some (i + j, u)) ∧ l[j]? = some e ∧ e.key = a ∧ Instr.sameBits 10000 e.key a = true ∧ Ents μ r (l.modify j fun e => { e with key := a, val := v })
  | [], l, r, i, h, hE => by
    simp only [Ents] at hE
    subst hE
    injection h with h; subst h
    exact .inl ⟨rfl, fun c => ⟨_, _, rfl, hk, hx, rfl⟩⟩
  | (y, z) :: es, l, r, i, h, hE => by
    obtain ⟨e, l', rfl, h1, h2, h3⟩ := hE
    obtain ⟨b, hb, h⟩ := andThen_ok h
    obtain ⟨g1, g2⟩ := equal_same hb hk h1 hd hf.1 hf.2
    cases b with
    | true =>
      injection h with h; subst h
      obtain ⟨g3, g4⟩ := g2 rfl
      exact .inr ⟨0, e.val, e, by simp [Instr.findNow, g1], rfl, g3.symm, g4, ⟨_, _, rfl, hk, hx, h3⟩⟩
    | false =>
      obtain ⟨r', hr, h⟩ := andThen_ok h
      injection h with h; subst h
      rcases put_run hd hk hx hf (i + 1) hr h3 with ⟨g3, g4⟩ | ⟨j, u, e', g3, g4, g5, g6, g7⟩
      · exact .inl ⟨by simp [Instr.findNow, g1, g3], fun c => ⟨_, _, rfl, h1, h2, g4 c⟩⟩
      · exact .inr ⟨j + 1, u, e', by simp [Instr.findNow, g1, g3]; omega, by simpa using g4, g5, g6, ⟨_, _, by simp, h1, h2, g7⟩⟩

theorem fits_of {μ : Loc} {t : TK} {k : DV} {a : Value} {d : TypeDesc} (h : fitsKey t k = true) (hk : V μ k a) (hd : KOk d t) : KeyDesc d ∧ Fits d a := by
  unfold fitsKey at h
  split at h
  · cases hd
    cases hk
    exact ⟨.inl ⟨_, rfl⟩, (fun _ h => (nomatch h)), fun _ _ _ h => (nomatch h)⟩
  · cases hd
    cases hk
    exact ⟨.inr rfl, (fun _ _ h => (nomatch h)), fun _ _ h => (nomatch h)⟩
  · exact nomatch h

theorem run_checkKey {d : TypeDesc} (hd : KeyDesc d) {kt : TypeId} {w : World} (hr : (underlying kt).run P w = .ok d w) (b : Bool) (a : Value) : (Instr.checkKey b 10000 kt a).run P w = .ok () w := by
  have h1 : Instr.checkKey b 10000 kt a = Instr.checkKey b (9999 + 1) kt a := rfl
  rw [h1]
  unfold Instr.checkKey
  simp only [Sem.run_bind, hr, Result.andThen_ok]
  rcases hd with ⟨k, rfl⟩ | rfl <;> rfl

theorem mapOf_ok {β : Type} {h : Heap} {m : DV} {f : List (DV × DV) → R β} {r : β} (e : mapOf h m f = .ok r) : (m = .nilmap ∧ f [] = .ok r) ∨ ∃ id b es, m = .map id ∧ hrow h id = some ⟨b, .map es⟩ ∧ f es = .ok r := by
  unfold mapOf at e
  split at e
  · exact .inl ⟨rfl, e⟩
  · rename_i id
    split at e
    · rename_i b es he
      exact .inr ⟨id, b, es, rfl, he, e⟩
    · exact (bad_ok e).elim
  · exact (bad_ok e).elim

theorem sound_lookup (tab : Tab P E) {o : Oper} {t : TypeId} {m k : Operand} {ok : Bool} (ho : o.op = .lookup t m k ok) : OpSound P E o := fun ts h v h' e μ w a hT hh hG => by
  rw [ho] at e
  obtain ⟨ti, hi, e⟩ := withTy_ok e
  obtain ⟨d, hd, hk, hrun⟩ := kind_run tab hi w
  split at e
  · rename_i kt el hkk
    rw [hkk] at hk
    cases hk
    obtain ⟨ki, hki, e⟩ := withTy_ok e
    obtain ⟨dk, _, hdk, hrunk⟩ := kind_run tab hki w
    obtain ⟨ei, hei, e⟩ := withTy_ok e
    obtain ⟨um, h1, e⟩ := andThen_ok e
    obtain ⟨uk, h2, e⟩ := andThen_ok e
    obtain ⟨h3, e⟩ := need_ok e
    have hm := (arg_V h1 hT hG).1
    have hkv := (arg_V h2 hT hG).1
    obtain ⟨hkd, hfit⟩ := fits_of h3 hkv hdk
    have main : ∀ (es : List (DV × DV)) (l : Array MapEntry), Ents μ es l.toList → (a.eval m = .map none ∧ l = #[]) ∨ (∃ r c, a.eval m = .map (some r) ∧ w.heap[r]? = some (.map l c)) →
        (andThen (find uk es) fun r => match r with
          | some x => .ok (bif ok then .tup [x, .bool true] else x, h)
          | none => andThen (mkVal (DG.isAgg ei.k) ei.zero) fun z => .ok (bif ok then .tup [z, .bool false] else z, h)) = (.ok (v, h') : R (DV × Heap)) → Does P μ h w (execOp a.eval o) v h' := by
      intro es l hE hl e
      obtain ⟨r, hr, e⟩ := andThen_ok e
      have hf := find_run hkd hkv hfit 0 hr hE
      cases r with
      | some x =>
        injection e with e; injection e with e1 e2; subst e1; subst e2
        obtain ⟨j, u, g1, g2⟩ := hf
        have hfk : (Instr.findKey kt (a.eval k) l.toList).run P w = .ok (some (j, u)) w := by
          simp [Instr.findKey, hrunk, g1]
        have hex : (execOp a.eval o).run P w = .ok (.value (if ok then .tuple #[u, .bool true] else u)) w := by
          rcases hl with ⟨hv, rfl⟩ | ⟨q, c, hv, g⟩
          · simp only [execOp, ho, Instr.lookup, Sem.run_bind, hrun, Result.andThen_ok, hv, Sem.run_pure, run_checkKey hkd hrunk, hfk]
          · simp only [execOp, ho, Instr.lookup, Sem.run_bind, hrun, Result.andThen_ok, hv, MapKept.run_getObj_map g, Sem.run_pure, run_checkKey hkd hrunk, hfk]
        refine Does.value hh hex ?_
        cases ok with
        | true => exact ⟨_, rfl, ⟨_, _, rfl, g2, ⟨_, _, rfl, rfl, rfl⟩⟩⟩
        | false => exact g2
      | none =>
        obtain ⟨z, hz, e⟩ := andThen_ok e
        injection e with e; injection e with e1 e2; subst e1; subst e2
        obtain ⟨zz, hz1, hz2⟩ := zero_V (P := P) tab hei hz w
        have hfk : (Instr.findKey kt (a.eval k) l.toList).run P w = .ok none w := by
          simp only at hf
          simp [Instr.findKey, hrunk, hf]
        have hex : (execOp a.eval o).run P w = .ok (.value (if ok then .tuple #[zz, .bool false] else zz)) w := by
          rcases hl with ⟨hv, rfl⟩ | ⟨q, c, hv, g⟩
          · simp only [execOp, ho, Instr.lookup, Sem.run_bind, hrun, Result.andThen_ok, hv, Sem.run_pure, run_checkKey hkd hrunk, hfk, hz1]
          · simp only [execOp, ho, Instr.lookup, Sem.run_bind, hrun, Result.andThen_ok, hv, MapKept.run_getObj_map g, Sem.run_pure, run_checkKey hkd hrunk, hfk, hz1]
        refine Does.value hh hex ?_
        cases ok with
        | true => exact ⟨_, rfl, ⟨_, _, rfl, hz2 μ, ⟨_, _, rfl, rfl, rfl⟩⟩⟩
        | false => exact hz2 μ
    rcases mapOf_ok e with ⟨rfl, e⟩ | ⟨id, b, es, rfl, hr, e⟩
    · exact main [] #[] rfl (.inl ⟨hm, rfl⟩) e
    · obtain ⟨p, hp, hpf, hv⟩ := hm
      obtain ⟨l, clock, g1, _, _, _, g5, _, _⟩ := hh.obj id _ hr p hp
      exact main es l g5 (.inr ⟨p.b, clock, hv, g1⟩) e
  · exact (bad_ok e).elim

theorem modify_born (a v : Value) : ∀ (l : List MapEntry) (j : Nat), (l.modify j fun e => { e with key := a, val := v }).map (·.born) = l.map (·.born)
  | [], j => by cases j <;> simp
  | e :: l, 0 => by simp
  | e :: l, j + 1 => by simp [modify_born a v l j]

theorem refsE_put {k x : DV} : ∀ {es r : List (DV × DV)}, put k x es = .ok r → refsE r ≤ max (refsE es) (max (refs k) (refs x))
  | [], r, h => by
    injection h with h; subst h
    simp [refsE]
  | (y, z) :: es, r, h => by
    obtain ⟨b, _, h⟩ := andThen_ok h
    cases b with
    | true =>
      injection h with h; subst h
      simp only [refsE]; omega
    | false =>
      obtain ⟨r', hr, h⟩ := andThen_ok h
      injection h with h; subst h
      have := refsE_put hr
      simp only [refsE]; omega

theorem sound_mapUpdate (tab : Tab P E) {o : Oper} {t : TypeId} {m k x : Operand} (ho : o.op = .mapUpdate t m k x) : OpSound P E o := fun ts h v h' e μ w a hT hh hG => by
  rw [ho] at e
  obtain ⟨ti, hi, e⟩ := withTy_ok e
  obtain ⟨d, hd, hk, hrun⟩ := kind_run tab hi w
  split at e
  · rename_i kt el hkk
    rw [hkk] at hk
    cases hk
    obtain ⟨ki, hki, e⟩ := withTy_ok e
    obtain ⟨dk, _, hdk, hrunk⟩ := kind_run tab hki w
    obtain ⟨um, h1, e⟩ := andThen_ok e
    obtain ⟨uk, h2, e⟩ := andThen_ok e
    obtain ⟨ux, h2', e⟩ := andThen_ok e
    obtain ⟨h3, e⟩ := need_ok e
    have hm := (arg_V h1 hT hG).1
    have hkv := (arg_V h2 hT hG).1
    have hxv := (arg_V h2' hT hG).1
    obtain ⟨hkd, hfit⟩ := fits_of h3 hkv hdk
    cases um with
    | map id =>
      have e' : (match hrow h id with
          | some ⟨b, .map es⟩ => andThen (put uk ux es) fun es => natK (max b (max (refs uk) (refs ux))) fun b => listK es fun es => hset h id ⟨b, .map es⟩ fun h => .ok (undef, h)
          | _ => bad "mapUpdate") = (.ok (v, h') : R (DV × Heap)) := e
      split at e'
      · rename_i b es hr
        obtain ⟨es', hp', e'⟩ := andThen_ok e'
        rw [natK_eq, listK_eq, hset_eq] at e'
        injection e' with e'; injection e' with e1 e2; subst e1; subst e2
        obtain ⟨p, hp, hpf, hv⟩ := hm
        obtain ⟨l, clock, g1, g2, g3, g4, g5, g6, g7⟩ := hh.obj id _ hr p hp
        have hlt := hh.lt id p hp
        have hb1 := hh.bound _ (hrow_mem hr)
        have hb2 := hh.refs _ _ hr
        have hrb : refsE es' ≤ max b (max (refs uk) (refs ux)) := by
          have := refsE_put hp'
          have hb1' : refsE es ≤ b := hb1
          omega
        have hrn : max b (max (refs uk) (refs ux)) ≤ h.n := by
          have h5 := V.refs hh.out hkv
          have h6 := V.refs hh.out hxv
          have hb2' : b ≤ h.n := hb2
          omega
        have fin : ∀ (l' : Array MapEntry) (clock' : Nat), Ents μ es' l'.toList → (∀ e ∈ l'.toList, e.born < clock') → (l'.toList.Pairwise fun x y => x.born < y.born) →
            (execOp a.eval o).run P w = .ok .skip (setBlk w p.b (.map l' clock')) → Does P μ h w (execOp a.eval o) undef ⟨h.n, h.l.set (h.n - 1 - id) ⟨max b (max (refs uk) (refs ux)), .map es'⟩⟩ := by
          intro l' clock' q1 q2 q3 q4
          obtain ⟨k1, k2⟩ := hh.put id _ hr p hp g2 (.map es') _ hrb hrn (.map l' clock') ⟨l', clock', setBlk_same hlt, g2, g3, g4, q1, q2, q3⟩
          exact ⟨.skip, Go.undef, _, μ, q4, .inr ⟨rfl, rfl⟩, ⟨#[], rfl, rfl⟩, k1, k2, Nat.le_refl _⟩
        rcases put_run hkd hkv hxv hfit 0 hp' g5 with ⟨q1, q2⟩ | ⟨j, u, en, q1, q2, q3, q4, q5⟩
        · have hfk : (Instr.findKey kt (a.eval k) l.toList).run P w = .ok none w := by simp [Instr.findKey, hrunk, q1]
          refine fin (l.push ⟨a.eval k, a.eval x, clock⟩) (clock + 1) (by simpa using q2 clock) ?_ ?_ ?_
          · intro y hy
            simp only [Array.toList_push, List.mem_append, List.mem_singleton] at hy
            rcases hy with hy | rfl
            · have := g6 y hy; omega
            · exact Nat.lt_succ_self _
          · simp only [Array.toList_push]
            rw [List.pairwise_append]
            exact ⟨g7, by simp, fun y hy z hz => by simp at hz; subst hz; exact g6 y hy⟩
          · simp only [execOp, ho, Instr.mapUpdate, Sem.run_bind, hrun, Result.andThen_ok, hv, MapKept.run_getObj_map g1, run_checkKey hkd hrunk, hfk]
            rw [MapKept.run_setObj_map _ g1]
            rfl
        · have hfk : (Instr.findKey kt (a.eval k) l.toList).run P w = .ok (some (j, u)) w := by
            have q1' : Instr.findNow dk (a.eval k) l.toList 0 = some (some (j, u)) := by simpa using q1
            simp [Instr.findKey, hrunk, q1']
          have hj : l[j]? = some en := by rw [← Array.getElem?_toList]; exact q2
          refine fin (l.modify j fun e => { e with key := a.eval k, val := a.eval x }) clock (by simpa using q5) ?_ ?_ ?_
          · intro y hy
            have h8 : y.born ∈ (l.toList.modify j fun e => { e with key := a.eval k, val := a.eval x }).map (·.born) := List.mem_map_of_mem (by simpa using hy)
            rw [modify_born] at h8
            obtain ⟨z, hz, h9⟩ := List.mem_map.1 h8
            have := g6 z hz
            omega
          · have h8 : ((l.toList.modify j fun e => { e with key := a.eval k, val := a.eval x }).map (·.born)).Pairwise (· < ·) := by
              rw [modify_born]
              exact List.pairwise_map.2 g7
            simpa using List.pairwise_map.1 h8
          · simp only [execOp, ho, Instr.mapUpdate, Sem.run_bind, hrun, Result.andThen_ok, hv, MapKept.run_getObj_map g1, run_checkKey hkd hrunk, hfk, hj]
            rw [q3] at q4
            simp [Instr.keyThatStays, q4, q3]
            rw [MapKept.run_setObj_map _ g1]
            rfl
      · exact (bad_ok e').elim
    | _ => exact (bad_ok e).elim
  · exact (bad_ok e).elim

end DG

/-
  Operation by operation, ninth part: structs, arrays and slices that are built, slices and maps that are made, strings converted.
-/
namespace DG
open Go Go.RowKit

variable {P : Program} {E : Env}

theorem foldl_splice (off : Nat) : ∀ (l : List Value) (k : Nat) (cells : Array Value), off + k + l.length ≤ cells.size →
    (l.zipIdx k).foldl (fun cs (c, j) => cs.setIfInBounds (off + j) c) cells = (cells.toList.take (off + k) ++ l ++ cells.toList.drop (off + k + l.length)).toArray
  | [], k, cells, _ => by simp
  | v :: l, k, cells, h => by
    simp only [List.length_cons] at h
    rw [List.zipIdx_cons, List.foldl_cons, foldl_splice off l (k + 1) _ (by simp; omega)]
    congr 1
    have := splice_step cells.toList (off + k) v l (by simp; omega)
    rw [Array.toList_setIfInBounds]
    have h5 : off + (k + 1) = off + k + 1 := by omega
    rw [h5, this]

/-- Parts laid into a row. -/
theorem fill_run {μ : Loc} {a : Act} {place place' : Nat → Option (Nat × Nat)} (hp : ∀ i q, place i = some q → place' i = some q) : ∀ {parts : List (Nat × Operand)} {vs : List DV} {ps : List (Nat × Nat × DV)} {cs r : List DV} {L : Array Value},
    sized parts place vs = .ok ps → Vs μ vs (parts.map fun p => a.eval p.2) → fill cs ps = .ok r → Vs μ cs L.toList → ∃ L', Instr.fill place' L (parts.map fun p => (p.1, a.eval p.2)) = some L' ∧ Vs μ r L'.toList ∧ L'.size = L.size
  | [], vs, ps, cs, r, L, h1, _, h3, h4 => by
    have h1' : (Except.ok [] : R (List (Nat × Nat × DV))) = .ok ps := h1
    injection h1' with h1'
    subst h1'
    injection h3 with h3; subst h3
    exact ⟨L, rfl, h4, rfl⟩
  | p :: parts, vs, ps, cs, r, L, h1, h2, h3, h4 => by
    obtain ⟨y, ys⟩ := p
    cases vs with
    | nil => exact (bad_ok h1).elim
    | cons v vs =>
      have h1' : (opt (place y) "no place" fun q => andThen (sized parts place vs) fun r => .ok ((q.1, q.2, v) :: r)) = (.ok ps : R _) := h1
      obtain ⟨q, hq, h1'⟩ := opt_ok h1'
      obtain ⟨ps', hps, h1'⟩ := andThen_ok h1'
      injection h1' with h1'
      subst h1'
      obtain ⟨u, us, hu, hv, hvs⟩ := h2
      simp only [List.map_cons, List.cons.injEq] at hu
      obtain ⟨rfl, rfl⟩ := hu
      obtain ⟨h5, h6⟩ := need_ok h3
      simp only [Bool.and_eq_true, beq_eq, decide_eq_true_eq, Bool.not_eq_true', decide_eq_false_iff_not, hasLen_eq, drops_eq, alls_eq, List.length_drop] at h5
      obtain ⟨⟨⟨g1, g2⟩, g3⟩, g4⟩ := h5
      obtain ⟨hc, _⟩ := cells_V hv g4
      have hcl := hc.length
      have hLl := h4.length
      have hfit : q.1 + v.cells.length ≤ cs.length := by omega
      rw [splice_eq _ _ _ _ hfit] at h6
      have hsz : (a.eval ys).cells.size = q.2 := by rw [← g1, hcl]; simp
      have hLs : cs.length = L.size := by rw [hLl]; simp
      have hfold := foldl_splice q.1 (a.eval ys).cells.toList 0 L (by simp; omega)
      have hV : Vs μ (cs.take q.1 ++ v.cells ++ cs.drop (q.1 + v.cells.length)) (L.toList.take q.1 ++ (a.eval ys).cells.toList ++ L.toList.drop (q.1 + (a.eval ys).cells.toList.length)) := by
        rw [← hcl]
        exact ((h4.take _).append hc).append (h4.drop _)
      obtain ⟨L', k1, k2, k3⟩ := fill_run hp (L := (L.toList.take q.1 ++ (a.eval ys).cells.toList ++ L.toList.drop (q.1 + (a.eval ys).cells.toList.length)).toArray) hps hvs h6 (by simpa using hV)
      refine ⟨L', ?_, k2, ?_⟩
      · simp only [List.map_cons, Instr.fill, hp _ _ hq]
        rw [if_neg (by simp [hsz]; omega)]
        rw [← k1]
        congr 1
        rw [← Array.foldl_toList, Array.toList_zipIdx, hfold]
        simp
      · rw [k3]
        simp
        omega

theorem buildOp_ok {z : List DV} {parts : List (Nat × Operand)} {place : Nat → Option (Nat × Nat)} {f : List DV → Heap → R (DV × Heap)} {ts : Tmps} {h : Heap} {r : DV × Heap} (e : (buildOp E z parts place f).f ts h = .ok r) :
    ∃ vs ps c, (args E (parts.map (·.2))).f ts = .ok vs ∧ sized parts place vs = .ok ps ∧ fill z ps = .ok c ∧ f c h = .ok r := by
  obtain ⟨vs, h1, e⟩ := andThen_ok e
  obtain ⟨ps, h2, e⟩ := andThen_ok e
  obtain ⟨c, h3, e⟩ := andThen_ok e
  rw [listK_eq] at e
  exact ⟨vs, ps, c, h1, h2, h3, e⟩

theorem sound_build (tab : Tab P E) {o : Oper} {t : TypeId} {parts : Array (Nat × Operand)} (ho : o.op = .build t parts) : OpSound P E o := fun ts h v h' e μ w a hT hh hG => by
  rw [ho] at e
  obtain ⟨ti, hi, e⟩ := withTy_ok e
  obtain ⟨d, hd, hk, hrun⟩ := kind_run tab hi w
  obtain ⟨inf, z, g1, g2, g3, g4, g5, g6, g7, g8⟩ := (tab.ty t ti hi).info
  have hmap : (parts.map fun (i, x) => (i, a.eval x)).toList = parts.toList.map fun p => (p.1, a.eval p.2) := by simp
  split at e
  · rename_i fs hkk
    rw [hkk] at hk
    obtain ⟨flds, rfl, hfs⟩ := hk
    obtain ⟨vs, ps, c, h1, h2, h3, e⟩ := buildOp_ok e
    injection e with e; injection e with e1 e2; subst e1; subst e2
    obtain ⟨pl, hpl⟩ := (tab.ty t ti hi).places flds hd
    have hp : ∀ i q, fieldPlace E fs i = some q → pl[i]? = some q := by
      intro i q hq
      unfold fieldPlace at hq
      split at hq
      · rename_i off ft hf
        obtain ⟨fi, hfi, hq2⟩ := Option.map_eq_some_iff.1 hq
        rw [← hfs, List.getElem?_map] at hf
        obtain ⟨fld, hfld, hf⟩ := Option.map_eq_some_iff.1 hf
        cases hf
        rw [← mapM_some_get hpl i fld hfld]
        obtain ⟨inf', _, k1, k2, _⟩ := (tab.ty _ fi hfi).info
        rw [k1]
        simp [k2, ← hq2]
      · exact nomatch hq
    have hvs := (args_V h1 hT hG).1
    rw [List.map_map] at hvs
    obtain ⟨L, k1, k2, _⟩ := fill_run (L := z.cells) hp h2 hvs h3 (g5 μ)
    have hb : P.built t (parts.map fun (i, x) => (i, a.eval x)).toList = some L := by
      rw [hmap]
      simp [Program.built, g1, hd, g4, hpl, k1]
    exact Does.value hh (x := .agg L) (by simp only [execOp, ho, Sem.run_bind, run_build w t _ L hb, Result.andThen_ok]; rfl) ⟨L, rfl, k2⟩
  · rename_i n el hkk
    rw [hkk] at hk
    cases hk
    obtain ⟨ei, hei, e⟩ := withTy_ok e
    obtain ⟨vs, ps, c, h1, h2, h3, e⟩ := buildOp_ok e
    injection e with e; injection e with e1 e2; subst e1; subst e2
    have hvs := (args_V h1 hT hG).1
    rw [List.map_map] at hvs
    obtain ⟨inf', _, q1, q2, _⟩ := (tab.ty _ ei hei).info
    obtain ⟨L, k1, k2, _⟩ := fill_run (L := z.cells) (fun i q hq => hq) h2 hvs h3 (g5 μ)
    have hb : P.built t (parts.map fun (i, x) => (i, a.eval x)).toList = some L := by
      rw [hmap]
      simp [Program.built, g1, hd, g4, q1, q2, k1]
    exact Does.value hh (x := .agg L) (by simp only [execOp, ho, Sem.run_bind, run_build w t _ L hb, Result.andThen_ok]; rfl) ⟨L, rfl, k2⟩
  · exact (bad_ok e).elim

end DG

/-
  Operation by operation, tenth part: slices and maps that are made, strings converted.
-/
namespace DG
open Go Go.RowKit

variable {P : Program} {E : Env}

theorem H.rowAny {μ : Loc} {h : Heap} {w : World} (hh : H μ h w) (cs : List DV) (vals : Array Value) (ty : TypeId) (fz : Nat × Nat) (hv : Vs μ cs (vals.toList.take cs.length)) (hl : cs.length ≤ vals.size)
    (hf : ∀ off, off < vals.size → ¬ (fz.1 ≤ off ∧ off < fz.2)) {s : Sem Next} {len c es : Nat} {cap : Option Nat} (hlen : len ≤ c) (hck : CapIs c cap) (hcap : cap = none → cs.length ≤ c * es ∧ (c ≠ 0 → c * es ≤ vals.size))
    {w1 : World} (hw : w1 = w ∨ w1 = w.drew) (hr : s.run P w = .ok (.value (.slice (some ⟨w.heap.size, 0, none⟩) len c)) (w1.alloc (.cells vals ty fz))) :
    Does P μ h w s (.sl h.n 0 0 len es cap) ⟨h.n + 1, ⟨refsL cs, .cells cs 0 false⟩ :: h.l⟩ := by
  have key : ∀ w1 : World, H μ h w1 → Step h.n μ w μ w1 → w1.heap.size = w.heap.size → s.run P w = .ok (.value (.slice (some ⟨w.heap.size, 0, none⟩) len c)) (w1.alloc (.cells vals ty fz)) →
      Does P μ h w s (.sl h.n 0 0 len es cap) ⟨h.n + 1, ⟨refsL cs, .cells cs 0 false⟩ :: h.l⟩ := by
    intro w1 hh1 hs1 hsz hr
    obtain ⟨h1, h2⟩ := hh1.row cs vals ty fz hv hl hf
    refine ⟨_, _, _, _, hr, .inl rfl, ⟨_, _, c, upd_same .., rfl, hlen, hck, Nat.le_refl _, fun _ => ⟨fun _ => by rw [hsz], ?_⟩⟩, h1, hs1.trans h2 (Nat.le_refl _), Nat.le_succ _⟩
    cases cap with
    | some k => exact hck k rfl
    | none =>
      obtain ⟨g1, g2⟩ := hcap rfl
      exact ⟨by simpa using g1, fun hc => by simpa using g2 hc⟩
  rcases hw with rfl | rfl
  · exact key _ hh (Step.refl _ _ _) rfl hr
  · exact key _ hh.drew (Step.refl _ _ _).drew rfl hr

theorem zeros_zero (z : List DV) : zeros z 0 = [] := rfl
theorem zeros_succ (z : List DV) (n : Nat) : zeros z (n + 1) = z ++ zeros z n := rfl
theorem zeros_length (z : List DV) (n : Nat) : (zeros z n).length = n * z.length := by
  induction n with
  | zero => simp [zeros_zero]
  | succ n ih => rw [zeros_succ, List.length_append, ih, Nat.add_mul]; omega

theorem range_zeros (z : Array Value) (n : Nat) : (List.range ((n + 1) * z.size)).map (fun i => z[i % z.size]!) = z.toList ++ (List.range (n * z.size)).map (fun i => z[i % z.size]!) := by
  have h1 : (n + 1) * z.size = z.size + n * z.size := by rw [Nat.add_mul]; omega
  rw [h1, List.range_add, List.map_append, List.map_map]
  congr 1
  · apply List.ext_getElem
    · simp
    · intro i h2 h3
      have h4 : i < z.size := by simpa using h2
      simp [Nat.mod_eq_of_lt h4, getElem!_pos z i h4]
  · apply List.map_congr_left
    intro i _
    simp

theorem zeros_V {μ : Loc} {z : List DV} {zv : Array Value} (hz : Vs μ z zv.toList) : ∀ n, Vs μ (zeros z n) ((List.range (n * zv.size)).map fun i => zv[i % zv.size]!)
  | 0 => by simp [zeros_zero, Vs]
  | n + 1 => by
    rw [range_zeros, zeros_succ]
    exact hz.append (zeros_V hz n)

theorem sound_buildSlice (tab : Tab P E) {o : Oper} {t : TypeId} {n : Nat} {parts : Array (Nat × Operand)} (ho : o.op = .buildSlice t n parts) : OpSound P E o := fun ts h v h' e μ w a hT hh hG => by
  rw [ho] at e
  obtain ⟨ti, hi, e⟩ := withTy_ok e
  obtain ⟨d, hd, hk, hrun⟩ := kind_run tab hi w
  split at e
  · rename_i el hkk
    rw [hkk] at hk
    cases hk
    obtain ⟨ei, hei, e⟩ := withTy_ok e
    obtain ⟨inf, z, g1, g2, g3, g4, g5, g6, g7, g8⟩ := (tab.ty el ei hei).info
    cases hc : (Nat.ble (n * ei.size) 100000 && !Nat.beq ei.size 0) with
    | false => rw [hc] at e; exact (bad_ok e).elim
    | true =>
      rw [hc, cond_true] at e
      simp only [Bool.and_eq_true, ble_eq, beq_eq, decide_eq_true_eq, Bool.not_eq_true', decide_eq_false_iff_not] at hc
      obtain ⟨vs, ps, c, h1, h2, h3, e⟩ := buildOp_ok e
      rw [newRow_eq] at e
      injection e with e; injection e with e1 e2; subst e1; subst e2
      have hvs := (args_V h1 hT hG).1
      rw [List.map_map] at hvs
      have hzs : z.cells.size = ei.size := by have := (g5 μ).length; rw [g6] at this; simpa using this.symm
      have hzV := zeros_V (g5 μ) n
      rw [hzs] at hzV
      obtain ⟨L, k1, k2, k3⟩ := fill_run (L := (Array.range (n * ei.size)).map (z.cells[· % z.cells.size]!)) (fun i q hq => hq) h2 hvs h3 (by simpa [hzs] using hzV)
      have hcl := k2.length
      have hLs : L.size = n * ei.size := by rw [k3]; simp
      have hcn : c.length = n * ei.size := by rw [hcl]; simpa using hLs
      have hmap : (parts.map fun (i, x) => (i, a.eval x)).toList = parts.toList.map fun p => (p.1, a.eval p.2) := by simp
      refine hh.rowAny (P := P) (w1 := w) (fz := (0, 0)) (ty := el) c L (cap := some n) (by rw [hcl, List.take_of_length_le (Nat.le_refl _)]; exact k2) (by omega) (by intro off _; simp) (Nat.le_refl n) (fun k hk => by cases hk; rfl) (fun hk => nomatch hk) (.inl rfl) ?_
      simp only [execOp, ho, Sem.run_bind, Instr.buildSlice, hrun, Result.andThen_ok, run_sizeOf tab hei]
      have hlim : ¬ (n * ei.size > 2 ^ 24) := by omega
      simp only [hlim, if_false]
      by_cases hz0 : n * ei.size = 0
      · have hr0 : (Array.range (n * ei.size)).map (z.cells[· % z.cells.size]!) = #[] := Array.eq_empty_of_size_eq_zero (by simp [hz0])
        have k1' : Instr.fill (fun i => some (i * ei.size, ei.size)) #[] (parts.map fun (i, x) => (i, a.eval x)).toList = some L := by
          rw [hmap, ← k1, hr0]
        have hr1 : (Array.range 0).map ((#[] : Array Value)[· % (#[] : Array Value).size]!) = #[] := Array.eq_empty_of_size_eq_zero (by simp)
        have k1'' : Instr.fill (fun i => some (i * ei.size, ei.size)) #[] (Array.map (fun x => (x.fst, a.eval x.snd)) parts).toList = some L := k1'
        simp only [hz0, if_true, Sem.run_bind, Sem.run_pure, Result.andThen_ok, hr1, k1'']
        simp [Go.newRow]
      · have k1' : Instr.fill (fun i => some (i * ei.size, ei.size)) ((Array.range (n * ei.size)).map (z.cells[· % z.cells.size]!)) (parts.map fun (i, x) => (i, a.eval x)).toList = some L := by
          rw [hmap]; exact k1
        have k1'' : Instr.fill (fun i => some (i * ei.size, ei.size)) ((Array.range (n * ei.size)).map (z.cells[· % z.cells.size]!)) (Array.map (fun x => (x.fst, a.eval x.snd)) parts).toList = some L := k1'
        have hzv : (zeroValue el).run P w = .ok z w := by simp [zeroValue, typeInfo, g1, g4]
        simp only [if_neg hz0, Sem.run_bind, Sem.run_pure, Result.andThen_ok, hzv, k1'']
        simp [Go.newRow]
  · exact (bad_ok e).elim

theorem sound_makeSlice (tab : Tab P E) {o : Oper} {t : TypeId} {x y : Operand} (ho : o.op = .makeSlice t x y) : OpSound P E o := fun ts h v h' e μ w a hT hh hG => by
  rw [ho] at e
  obtain ⟨ti, hi, e⟩ := withTy_ok e
  obtain ⟨d, hd, hk, hrun⟩ := kind_run tab hi w
  split at e
  · rename_i el hkk
    rw [hkk] at hk
    cases hk
    obtain ⟨ei, hei, e⟩ := withTy_ok e
    obtain ⟨inf, z, g1, g2, g3, g4, g5, g6, g7, g8⟩ := (tab.ty el ei hei).info
    obtain ⟨ul, h1, e⟩ := andThen_ok e
    obtain ⟨uc, h2, e⟩ := andThen_ok e
    have hx := (arg_V h1 hT hG).1
    have hy := (arg_V h2 hT hG).1
    split at e
    · rename_i l c _
      obtain ⟨hc, e⟩ := need_ok e
      rw [listK_eq, newRow_eq] at e
      injection e with e; injection e with e1 e2; subst e1; subst e2
      simp only [Bool.and_eq_true, ble_eq, beq_eq, decide_eq_true_eq, Bool.not_eq_true', decide_eq_false_iff_not] at hc
      obtain ⟨⟨⟨q1, q2⟩, q3⟩, q4⟩ := hc
      have hx' : a.eval x = .int .i64 (.ofNat l) := hx
      have hy' : a.eval y = .int .i64 (.ofNat c) := hy
      have hzs : z.cells.size = ei.size := by have := (g5 μ).length; rw [g6] at this; simpa using this.symm
      have hzV := zeros_V (g5 μ) c
      rw [hzs] at hzV
      have hcn : (zeros ei.zero c).length = c * ei.size := by rw [zeros_length, g6]
      have hc7 : c ≤ 10000000 := by
        have : c * 1 ≤ c * ei.size := Nat.mul_le_mul_left _ (by omega)
        omega
      have hm := run_make (P := P) w t el inf z hd g1 g4 .i64 .i64 (.ofNat l) (.ofNat c) (by simp) (by simpa using q1) (by
        rw [g3]
        have : (ei.bytes : Int) * (c : Int) = ((c * ei.bytes : Nat) : Int) := by rw [Nat.mul_comm]; simp
        show (ei.bytes : Int) * (c : Int) ≤ _
        rw [this]; omega) (by show (c : Int) ≤ _; omega)
      have hmc : (madeCells z.cells (c * ei.size)).toList = (List.range (c * ei.size)).map (fun i => z.cells[i % ei.size]!) := by
        simp [madeCells, hzs]
      have hms : (madeCells z.cells (c * ei.size)).size = c * ei.size := by simp [madeCells]
      refine hh.rowAny (P := P) (w1 := w) (fz := (0, 0)) (ty := el) (zeros ei.zero c) (madeCells z.cells (c * ei.size)) (cap := some c) (by rw [hcn, List.take_of_length_le (by simp [hms]), hmc]; exact hzV) (by rw [hms, hcn]; exact Nat.le_refl _) (by intro off _; simp) q1 (fun k hk => by cases hk; rfl) (fun hk => nomatch hk) (.inl rfl) ?_
      simp only [execOp, ho, Sem.run_bind, hx', hy', hm, Result.andThen_ok]
      simp [g2]
    · exact (bad_ok e).elim
  · exact (bad_ok e).elim

theorem sound_makeMap {o : Oper} {t : TypeId} (ho : o.op = .makeMap t none) : OpSound P E o := fun ts h v h' e μ w a hT hh hG => by
  rw [ho] at e
  have e' : hnew h ⟨0, .map []⟩ (fun h' => (.ok (.map h.n, h') : R (DV × Heap))) = .ok (v, h') := e
  rw [hnew_eq] at e'
  injection e' with e'; injection e' with e1 e2; subst e1; subst e2
  obtain ⟨h1, h2⟩ := hh.new (.map []) 0 (.map #[] 0) ⟨w.heap.size, 0, 0, 0, false, true⟩ rfl (Nat.le_refl _) (Nat.zero_le _) ⟨#[], 0, alloc_new w _, rfl, rfl, rfl, rfl, by simp, by simp⟩
  exact ⟨_, _, _, _, by simp [execOp, ho, Instr.makeMap, newObj]; rfl, .inl rfl, ⟨_, upd_same .., rfl, rfl⟩, h1, h2, Nat.le_succ _⟩

/-! ### Strings and bytes -/

theorem bytesOf_V (μ : Loc) : ∀ (l : List UInt8), Vs μ (List.rec (motive := fun _ => List DV) [] (fun x _ ih => byteDV x :: ih) l) (l.map fun b => Value.int .u8 b.toNat)
  | [] => rfl
  | b :: l => ⟨_, _, rfl, by unfold byteDV; rw [natK_eq]; rfl, bytesOf_V μ l⟩

/-- A slice's cells. -/
theorem slCells_run {μ : Loc} {h : Heap} {w : World} (hh : H μ h w) {size : Nat} {x : DV} {y : Value} {β : Type} {f : List DV → R β} {r : β} (hx : V μ x y) (e : slCells h size x f = .ok r) :
    ∃ cs l base n c, f cs = .ok r ∧ y = .slice base n c ∧ Vs μ cs l ∧ l.length = n * size ∧ ((base = none ∧ n = 0) ∨ ∃ ad, base = some ad ∧ ∀ j u, l[j]? = some u → w.cell? (ad.add j) = some u) := by
  unfold slCells at e
  split at e
  · cases hx
    exact ⟨[], [], none, 0, 0, e, rfl, rfl, by simp, .inl ⟨rfl, rfl⟩⟩
  · rename_i id ver off len es cap
    obtain ⟨p, ad, c, hp, rfl, hlc, hck, hle, he⟩ := hx
    rw [beq_eq] at e
    by_cases hz : len = 0
    · subst hz
      rw [decide_eq_true rfl, cond_true] at e
      exact ⟨[], [], some ad, 0, c, e, rfl, rfl, by simp, .inr ⟨ad, rfl, by simp⟩⟩
    · rw [decide_eq_false hz, cond_false] at e
      obtain ⟨_, e⟩ := need_ok e
      obtain ⟨bd, cs, ro, hr, e⟩ := row_ok e
      obtain ⟨vals, ty, fz, h1, h2, h3, h4, h5, h5', h6, h7, h8⟩ := hh.obj id _ hr p hp
      have ha := (he h2.symm).1 (by omega)
      subst ha
      have hc := cut_ok e
      have e := cut_run e
      have hlen : ((vals.toList.drop off).take (len * size)).length = len * size := by
        rcases hc with hc | hc
        · simp; omega
        · simp [hc]
      refine ⟨(cs.drop off).take (len * size), (vals.toList.drop off).take (len * size), some ⟨p.b, off, none⟩, len, c, e, rfl, ?_, hlen, .inr ⟨_, rfl, fun j u hj => ?_⟩⟩
      · have k1 := (h7.drop off).take (len * size)
        rcases hc with hc | hc
        · rwa [drop_take_take _ _ _ _ hc] at k1
        · rw [hc] at k1 ⊢; simpa using k1
      · rw [cell_add h1]
        rw [List.getElem?_take] at hj
        split at hj
        · rw [List.getElem?_drop] at hj; simpa using hj
        · exact nomatch hj
  · exact (bad_ok e).elim

/-- Cells that are bytes. -/
theorem bytes_run {μ : Loc} : ∀ {cs : List DV} {l : List Value} {bs : List UInt8}, (List.rec (motive := fun _ => R (List UInt8)) (.ok []) (fun c _ ih => match c with
            | .int .u8 n => andThen ih fun r => .ok (UInt8.ofNat n.toNat :: r)
            | _ => bad "convert: no byte") cs) = .ok bs → Vs μ cs l → ∃ ns : List Int, l = ns.map (Value.int .u8) ∧ bs = ns.map fun n => UInt8.ofNat n.toNat
  | [], l, bs, h, hv => by
    injection h with h; subst h
    simp only [Vs] at hv
    subst hv
    exact ⟨[], rfl, rfl⟩
  | c :: cs, l, bs, h, hv => by
    obtain ⟨y, ys, rfl, h1, h2⟩ := hv
    simp only at h
    split at h
    · rename_i n
      obtain ⟨r, hr, h⟩ := andThen_ok h
      injection h with h; subst h
      obtain ⟨ns, rfl, rfl⟩ := bytes_run hr h2
      cases h1
      exact ⟨n :: ns, rfl, rfl⟩
    · exact (bad_ok h).elim

theorem foldl_push_ns : ∀ (ns : List Int) (r : ByteArray), ns.foldl (fun r n => r.push (UInt8.ofNat n.toNat)) r = ⟨r.data ++ (ns.map fun n => UInt8.ofNat n.toNat).toArray⟩
  | [], r => by simp
  | n :: ns, r => by
    simp only [List.foldl_cons, List.map_cons]
    rw [foldl_push_ns ns]
    simp [ByteArray.push]

theorem sound_convert (tab : Tab P E) {o : Oper} {s d : TypeId} {x : Operand} (ho : o.op = .convert s d x) : OpSound P E o := fun ts h v h' e μ w a hT hh hG => by
  rw [ho] at e
  obtain ⟨si, hsi, e⟩ := withTy_ok e
  obtain ⟨di, hdi, e⟩ := withTy_ok e
  obtain ⟨ds, hds, hks, hruns⟩ := kind_run tab hsi w
  obtain ⟨dd, hdd, hkd, hrund⟩ := kind_run tab hdi w
  split at e
  · rename_i k hkk1 hkk2
    exact sound_convert_int tab ho hdi hkk2 e hsi hT hh hG
  · rename_i hkk1 hkk2
    rw [hkk1] at hks; rw [hkk2] at hkd
    cases hks; cases hkd
    obtain ⟨u, u', h1, h2, h3⟩ := pv_ok e
    cases h3
    have hx := (arg_V h1 hT hG).1
    split at h2
    · rename_i b
      injection h2 with h2; subst h2
      have hx' : a.eval x = .string b := hx
      exact Does.value hh (x := .string b) (by simp [execOp, ho, convert, hruns, hrund, hx']) rfl
    · exact (bad_ok h2).elim
  · rename_i el hkk1 hkk2
    rw [hkk1] at hks; rw [hkk2] at hkd
    cases hks; cases hkd
    obtain ⟨ei, hei, e⟩ := withTy_ok e
    obtain ⟨de, hde, hke, hrune⟩ := kind_run tab hei w
    split at e
    · rename_i hkk3
      rw [hkk3] at hke
      cases hke
      obtain ⟨u, h1, e⟩ := andThen_ok e
      have hx := (arg_V h1 hT hG).1
      split at e
      · rename_i b
        rw [natK_eq, listK_eq, newRow_eq] at e
        injection e with e; injection e with e1 e2; subst e1; subst e2
        have hx' : a.eval x = .string b := hx
        have hb := bytesOf_V μ b.data.toList
        have hbl := hb.length
        have hr := run_bytes_of_string (P := P) w s d el b hds hdd hde
        have hc := grownCap_ge w b.size 0 el
        have hsz : (bytesRow b (grownCap w b.size 0 el)).size = grownCap w b.size 0 el := by
          simp only [bytesRow, Array.size_append, Array.size_map, Array.size_replicate]
          have : b.data.size = b.size := rfl
          omega
        have hlen : (bytesOf b).length = b.size := by
          show (List.rec _ _ b.data.toList : List DV).length = _
          rw [hbl]
          simp
        refine hh.rowAny (P := P) (w1 := w.drew) (bytesOf b) (bytesRow b (grownCap w b.size 0 el)) el ((bytesRow b (grownCap w b.size 0 el)).size, (bytesRow b (grownCap w b.size 0 el)).size + 1) (cap := none) ?_ (by rw [hlen, hsz]; exact hc) ?_ hc (fun k hk => (nomatch hk)) (fun _ => ⟨by rw [hlen]; omega, fun _ => by rw [hsz]; omega⟩) (.inr rfl)
          (by simp only [execOp, ho, Sem.run_bind, hx', hr, Result.andThen_ok]; rfl)
        · have : (bytesRow b (grownCap w b.size 0 el)).toList.take (bytesOf b).length = b.data.toList.map fun b => Value.int .u8 b.toNat := by
            rw [hlen]
            simp only [bytesRow, Array.toList_append, Array.toList_map]
            rw [List.take_append_of_le_length (by simp), List.take_of_length_le (by simp)]
          rw [this]
          exact hb
        · intro off ho'
          omega
      · exact (bad_ok e).elim
    · exact (bad_ok e).elim
  · rename_i el hkk1 hkk2
    rw [hkk1] at hks; rw [hkk2] at hkd
    cases hks; cases hkd
    obtain ⟨ei, hei, e⟩ := withTy_ok e
    obtain ⟨de, hde, hke, hrune⟩ := kind_run tab hei w
    split at e
    · rename_i hkk3
      rw [hkk3] at hke
      cases hke
      obtain ⟨u, h1, e⟩ := andThen_ok e
      have hx := (arg_V h1 hT hG).1
      obtain ⟨cs, l, base, n, c, e, hy, hV, hl, hb⟩ := slCells_run hh hx e
      obtain ⟨bs, hbs, e⟩ := andThen_ok e
      injection e with e; injection e with e1 e2; subst e1; subst e2
      obtain ⟨ns, rfl, rfl⟩ := bytes_run hbs hV
      refine Does.value hh (x := .string ⟨(ns.map fun n : Int => UInt8.ofNat n.toNat).toArray⟩) ?_ rfl
      have hrc := run_convert_bytes_string (P := P) w s d el base n c hds hde hdd
      have hcv : (Conv.bytesToString (.slice base n c)).run P w = .ok (.string ⟨(ns.map fun n => UInt8.ofNat n.toNat).toArray⟩) w := by
        rcases hb with ⟨rfl, rfl⟩ | ⟨ad, rfl, hb⟩
        · have : ns = [] := by simpa using hl
          subst this
          rfl
        · have hlc := run_loadCells_list (P := P) (w := w) ad (ns.map (Value.int .u8)) hb
          rw [hl, Nat.mul_one] at hlc
          rw [run_bytesToString (P := P) w ad n c ns hlc, foldl_push_ns]
          have he0 : ByteArray.empty.data = #[] := rfl
          rw [he0]
          simp
      simp only [execOp, ho, Sem.run_bind, hy, hrc, hcv, Result.andThen_ok]
      rfl
    · exact (bad_ok e).elim
  · exact (bad_ok e).elim

end DG

/-
  Operation by operation, eleventh part: iterators over maps, and the builtins that leave the heap alone.
-/
namespace DG
open Go Go.RowKit

variable {P : Program} {E : Env}

theorem sound_range (tab : Tab P E) {o : Oper} {t : TypeId} {x : Operand} (ho : o.op = .range t x) : OpSound P E o := fun ts h v h' e μ w a hT hh hG => by
  rw [ho] at e
  obtain ⟨ti, hi, e⟩ := withTy_ok e
  obtain ⟨d, hd, hk, hrun⟩ := kind_run tab hi w
  split at e
  · rename_i kt el hkk
    rw [hkk] at hk
    cases hk
    obtain ⟨u, h1, e⟩ := andThen_ok e
    have hx := (arg_V h1 hT hG).1
    split at e
    · rw [hnew_eq] at e
      injection e with e; injection e with e1 e2; subst e1; subst e2
      have hx' : a.eval x = .map none := hx
      obtain ⟨k1, k2⟩ := hh.new (.iter none) 0 (.mapIter none 0 #[] 0) ⟨w.heap.size, 0, 0, 0, false, true⟩ rfl (Nat.le_refl _) (Nat.zero_le _) ⟨none, 0, #[], 0, alloc_new w _, rfl, rfl, rfl, rfl⟩
      exact ⟨_, _, _, _, by simp [execOp, ho, Instr.range, hrun, hx', newObj]; rfl, .inl rfl, ⟨_, _, upd_same .., rfl, Nat.le_refl _, fun _ => rfl⟩, k1, k2, Nat.le_succ _⟩
    · rename_i m
      split at e
      · rename_i b es hr
        rw [natK_eq, hnew_eq] at e
        injection e with e; injection e with e1 e2; subst e1; subst e2
        obtain ⟨p, hp, hpf, hv⟩ := hx
        obtain ⟨l, clock, g1, g2, g3, g4, g5, g6, g7⟩ := hh.obj m _ hr p hp
        have hm := hh.hrow_lt hr
        obtain ⟨k1, k2⟩ := hh.new (.iter (some m)) (m + 1) (.mapIter (some p.b) clock #[] clock) ⟨w.heap.size, 0, 0, 0, false, true⟩ rfl (Nat.le_refl _) (by omega)
          ⟨some p.b, clock, #[], clock, alloc_new w _, rfl, rfl, rfl, ⟨p, by rw [upd_other (by omega)]; exact hp, hpf, rfl⟩⟩
        exact ⟨_, _, _, _, by simp [execOp, ho, Instr.range, hrun, hv, MapKept.run_getObj_map g1, newObj]; rfl, .inl rfl, ⟨_, _, upd_same .., rfl, Nat.le_refl _, fun _ => rfl⟩, k1, k2, Nat.le_succ _⟩
      · exact (bad_ok e).elim
    · exact (bad_ok e).elim
  · exact (bad_ok e).elim

theorem run_getObj_other {w : World} {r : Nat} {o : Obj} (hb : w.heap[r]? = some o) (ho : ∀ v t f, o ≠ .cells v t f) : (getObj r).run P w = .ok o w := by
  cases o <;> first | exact absurd rfl (ho _ _ _) | simp only [getObj, Sem.run, hb]

theorem sound_next {o : Oper} {x : Operand} (ho : o.op = .next x false) : OpSound P E o := fun ts h v h' e μ w a hT hh hG => by
  rw [ho] at e
  obtain ⟨u, h1, e⟩ := andThen_ok e
  have hx := (arg_V h1 hT hG).1
  split at e
  · rename_i r ver off
    obtain ⟨hoff, e⟩ := need_ok e
    have hoff : off = 0 := Nat.eq_of_beq_eq_true hoff
    subst hoff
    obtain ⟨p, ad, hp, hv, hle, he⟩ := hx
    split at e
    · rename_i b hr
      injection e with e; injection e with e1 e2; subst e1; subst e2
      obtain ⟨q, since, seen, last, g1, g2, g3, g4, rfl⟩ := hh.obj r _ hr p hp
      have had := he (by omega)
      subst had
      have hg := run_getObj_other (P := P) g1 (by intro _ _ _ h; exact nomatch h)
      exact Does.value hh (x := .tuple #[.bool false]) (by simp [execOp, ho, hv, Instr.next, hg]) ⟨_, rfl, ⟨_, _, rfl, rfl, rfl⟩⟩
    · rename_i b m hr
      split at e
      · rename_i b' hrm
        injection e with e; injection e with e1 e2; subst e1; subst e2
        obtain ⟨q, since, seen, last, g1, g2, g3, g4, pm, g5, g6, rfl⟩ := hh.obj r _ hr p hp
        have had := he (by omega)
        subst had
        obtain ⟨l, clock, k1, k2, k3, k4, k5, k6, k7⟩ := hh.obj m _ hrm pm g5
        have hl : l = #[] := by
          apply Array.toList_inj.1
          exact k5
        subst hl
        have hg := run_getObj_other (P := P) g1 (by intro _ _ _ h; exact nomatch h)
        have hg2 := run_getObj_other (P := P) k1 (by intro _ _ _ h; exact nomatch h)
        exact Does.value hh (x := .tuple #[.bool false]) (by simp [execOp, ho, hv, Instr.next, hg, hg2, Question.forced]) ⟨_, rfl, ⟨_, _, rfl, rfl, rfl⟩⟩
      · exact (bad_ok e).elim
    · exact (bad_ok e).elim
  · exact (bad_ok e).elim

/-! ### Builtins -/

/-- A builtin is carried out as the interpreter says. -/
def BSound (P : Program) (E : Env) (b : Builtin) (tys : List TypeId) (xs : List Operand) : Prop := ∀ ts h v h', (builtinOp E b tys xs).f ts h = .ok (v, h') → ∀ μ w (a : Act) ty cs, T μ ts a.tmps → H μ h w → Globs E μ →
  Does P μ h w (builtin b tys.toArray ty cs (xs.map a.eval).toArray) v h'

theorem sound_len (tab : Tab P E) (t : TypeId) (x : Operand) : BSound P E .len [t] [x] := fun ts h v h' e μ w a ty cs hT hh hG => by
  obtain ⟨ti, hi, e⟩ := withTy_ok e
  obtain ⟨d, hd, hk, hrun⟩ := kind_run tab hi w
  split at e
  · rename_i kt el hkk
    rw [hkk] at hk
    cases hk
    obtain ⟨u, h1, e⟩ := andThen_ok e
    have hx := (arg_V h1 hT hG).1
    rcases mapOf_ok e with ⟨rfl, e9⟩ | ⟨id, b, es, rfl, hr, e9⟩
    · rw [natK_eq] at e9
      injection e9 with e9; injection e9 with e1 e2; subst e1; subst e2
      have hx' : a.eval x = .map none := hx
      exact Does.value hh (x := goInt 0) (by simp [builtin, Builtin.len_, hrun, hx']) rfl
    · rw [natK_eq] at e9
      injection e9 with e9; injection e9 with e1 e2; subst e1; subst e2
      obtain ⟨p, hp, hpf, hv⟩ := hx
      obtain ⟨l, clock, g1, g2, g3, g4, g5, g6, g7⟩ := hh.obj id _ hr p hp
      have hE : ∀ {es : List (DV × DV)} {l : List MapEntry}, Ents μ es l → es.length = l.length := by
        intro es
        induction es with
        | nil => intro l h; simp only [Ents] at h; subst h; rfl
        | cons y es ih => intro l h; obtain ⟨k, x⟩ := y; obtain ⟨e, l', rfl, _, _, h⟩ := h; simp [ih h]
      exact Does.value hh (x := goInt l.size) (by simp [builtin, Builtin.len_, hrun, hv, MapKept.run_getObj_map g1]) (by rw [hE g5]; rfl)
  · rename_i n el hkk
    rw [hkk] at hk
    cases hk
    injection e with e; injection e with e1 e2; subst e1; subst e2
    exact Does.value hh (x := goInt n) (by simp [builtin, Builtin.len_, hrun]) rfl
  · rename_i hkk
    rw [hkk] at hk
    cases hk
    obtain ⟨u, u', h1, h2, h3⟩ := pv_ok e
    cases h3
    have hx := (arg_V h1 hT hG).1
    split at h2
    · rename_i s
      rw [natK_eq] at h2
      injection h2 with h2; subst h2
      have hx' : a.eval x = .string s := hx
      exact Does.value hh (x := goInt s.size) (by simp [builtin, Builtin.len_, hrun, hx']) rfl
    · exact (bad_ok h2).elim
  · rename_i el hkk
    rw [hkk] at hk
    cases hk
    obtain ⟨u, u', h1, h2, h3⟩ := pv_ok e
    cases h3
    have hx := (arg_V h1 hT hG).1
    split at h2
    · injection h2 with h2; subst h2
      have hx' : a.eval x = .slice none 0 0 := hx
      exact Does.value hh (x := goInt 0) (by simp [builtin, Builtin.len_, hrun, hx']) rfl
    · injection h2 with h2; subst h2
      obtain ⟨p, ad, c, hp, hv, _⟩ := hx
      exact Does.value hh (x := goInt _) (by simp [builtin, Builtin.len_, hrun, hv]) rfl
    · exact (bad_ok h2).elim
  · rename_i el hkk
    rw [hkk] at hk
    cases hk
    obtain ⟨ai, hai, e⟩ := withTy_ok e
    obtain ⟨d', hd', hk', hrun'⟩ := kind_run tab hai w
    split at e
    · rename_i n el' hkk'
      rw [hkk'] at hk'
      cases hk'
      injection e with e; injection e with e1 e2; subst e1; subst e2
      exact Does.value hh (x := goInt n) (by simp [builtin, Builtin.len_, hrun, hrun']) rfl
    · exact (bad_ok e).elim
  · exact (bad_ok e).elim

theorem sound_cap (tab : Tab P E) (t : TypeId) (x : Operand) : BSound P E .cap [t] [x] := fun ts h v h' e μ w a ty cs hT hh hG => by
  obtain ⟨ti, hi, e⟩ := withTy_ok e
  obtain ⟨d, hd, hk, hrun⟩ := kind_run tab hi w
  split at e
  · rename_i el hkk
    rw [hkk] at hk
    cases hk
    obtain ⟨u, u', h1, h2, h3⟩ := pv_ok e
    cases h3
    have hx := (arg_V h1 hT hG).1
    split at h2
    · injection h2 with h2; subst h2
      have hx' : a.eval x = .slice none 0 0 := hx
      exact Does.value hh (x := goInt 0) (by simp [builtin, Builtin.cap_, hrun, hx']) rfl
    · rename_i c
      injection h2 with h2; subst h2
      obtain ⟨p, ad, c', hp, hv, hlc, hck, _⟩ := hx
      have hc : c' = c := hck c rfl
      subst hc
      exact Does.value hh (x := goInt c') (by simp [builtin, Builtin.cap_, hrun, hv]) rfl
    · exact (bad_ok h2).elim
  · exact (bad_ok e).elim

theorem minmax_run {less : Bool} {μ : Loc} {w : World} : ∀ {vs : List DV} {l : List Value} {k : IntKind} {n : Int} {r : DV}, minmaxFrom less k n vs = .ok r → Vs μ vs l →
    ∃ z, (l.foldlM (if less then Builtin.min2 else Builtin.max2) (.int k n) : Sem Value).run P w = .ok z w ∧ V μ r z
  | [], l, k, n, r, h, hv => by
    injection h with h; subst h
    simp only [Vs] at hv
    subst hv
    exact ⟨.int k n, rfl, rfl⟩
  | y :: vs, l, k, n, r, h, hv => by
    obtain ⟨u, us, rfl, h1, h2⟩ := hv
    cases y with
    | int k' m =>
      cases h1
      have h' : (bif kindEq k k' then minmaxFrom less k (bif less then (bif intLt m n then m else n) else (bif intLt n m then m else n)) vs else bad "min") = (.ok r : R DV) := h
      rw [kindEq_eq] at h'
      by_cases hk : k = k'
      · rw [decide_eq_true hk, cond_true, intLt_eq, intLt_eq] at h'
        obtain ⟨z, hz, hV⟩ := minmax_run h' h2
        refine ⟨z, ?_, hV⟩
        rw [List.foldlM_cons, Sem.run_bind]
        cases less with
        | true =>
          simp only [if_true, Builtin.min2, Sem.run_pure, Result.andThen_ok, cond_true] at hz ⊢
          rw [← hz]
          by_cases hm : m < n <;> simp [hm]
        | false =>
          simp only [Builtin.max2, Sem.run_pure, Result.andThen_ok, cond_false, Bool.false_eq_true, if_false] at hz ⊢
          rw [← hz]
          by_cases hm : n < m <;> simp [hm]
      · rw [decide_eq_false hk] at h'; exact (bad_ok h').elim
    | _ => exact (bad_ok h).elim

theorem sound_minmax (less : Bool) (tys : List TypeId) (xs : List Operand) : BSound P E (if less then .min else .max) tys xs := fun ts h v h' e μ w a ty cs hT hh hG => by
  have e' : (andThen ((args E xs).f ts) fun vs => andThen (minmax less vs) fun v => .ok (v, h)) = (.ok (v, h') : R (DV × Heap)) := by
    cases less <;> exact e
  obtain ⟨vs, h1, e'⟩ := andThen_ok e'
  obtain ⟨r, h2, e'⟩ := andThen_ok e'
  injection e' with e'; injection e' with e1 e2; subst e1; subst e2
  have hv := (args_V h1 hT hG).1
  unfold minmax at h2
  split at h2
  · obtain ⟨u, us, hl, k1, k2⟩ := hv
    cases k1
    obtain ⟨z, hz, hV⟩ := minmax_run (P := P) (w := w) h2 k2
    refine Does.value hh (x := z) ?_ hV
    cases less with
    | true =>
      simp only [if_true] at hz ⊢
      simp [builtin, Builtin.min_, hl, hz]
    | false =>
      simp only [Bool.false_eq_true, if_false] at hz ⊢
      simp [builtin, Builtin.max_, hl, hz]
  · exact (bad_ok h2).elim

end DG

/-
  Operation by operation, twelfth part: append and copy, on the model's side.
-/
namespace DG
open Go Go.RowKit

variable {P : Program} {E : Env}

/-- What is appended. -/
inductive App (P : Program) (w : World) (tx : TypeId) (x : Value) (size : Nat) (z : Value) : Nat → List Value → Prop
  | slice {e' : TypeId} {base : Option Addr} {n c : Nat} {l : List Value} (ht : P.underlying tx = some (.slice e')) (hx : x = .slice base n c) (hl : l.length = n * size)
      (hb : (base = none ∧ n = 0) ∨ ∃ ad, base = some ad ∧ ∀ j u, l[j]? = some u → w.cell? (ad.add j) = some u) : App P w tx x size z n l
  | str {b : ByteArray} (ht : P.underlying tx = some .string) (hx : x = .string b) (hs : size = 1) : App P w tx x size z b.size (b.data.toList.map fun b => Value.int .u8 b.toNat)
  | zeros {k k' : IntKind} {n : Nat} (ht : P.underlying tx = some (.int k')) (hx : x = .int k (.ofNat n)) (hn : n ≤ 10000000) (h0 : n ≠ 0) (hs : z.cells.size = size) (hp : 0 < size) : App P w tx x size z n ((List.range (n * size)).map fun i => z.cells[i % size]!)

theorem App.length {w : World} {tx : TypeId} {x : Value} {size : Nat} {z : Value} {n : Nat} {l : List Value} (h : App P w tx x size z n l) : l.length = n * size := by
  cases h with
  | slice ht hx hl hb => exact hl
  | str ht hx hs => subst hs; simp
  | zeros ht hx hn h0 hs hp => simp

theorem run_firstCells_any {w : World} {size n c : Nat} {base : Option Addr} {l : List Value} (hl : l.length = n * size)
    (hb : (base = none ∧ n = 0) ∨ ∃ ad, base = some ad ∧ ∀ j u, l[j]? = some u → w.cell? (ad.add j) = some u) : (Builtin.firstCells size n (.slice base n c)).run P w = .ok l.toArray w := by
  rcases hb with ⟨rfl, rfl⟩ | ⟨ad, rfl, hb⟩
  · have : l = [] := by simpa using hl
    subst this
    rfl
  · have := run_loadCells_list (P := P) (w := w) ad l hb
    rw [hl] at this
    simp only [Builtin.firstCells, this]

theorem size_run {e : TypeId} {i : TypeInfo} (hi : P.info? e = some i) (w : World) : (Go.sizeOf e).run P w = .ok i.size w := by simp [Go.sizeOf, typeInfo, hi]

theorem append_room {w : World} {t tx e ty : TypeId} {x : Value} {base : Option Addr} {sLen sCap n : Nat} {news : List Value} {i : TypeInfo} {z : Value} (ht : P.underlying t = some (.slice e)) (hi : P.info? e = some i) (hz : i.zero = some z)
    (hb : (sLen + n) * i.bytes ≤ 1099511627776) (ha : App P w tx x i.size z n news) (hroom : sLen + n ≤ sCap) :
    (Builtin.append_ #[t, tx] ty #[.slice base sLen sCap, x]).run P w =
      (((match base with | some a => storeCells (a.add (sLen * i.size)) news | none => pure ()) : Sem Unit).run P w).andThen fun _ w' => .ok (.slice base (sLen + n) sCap) w' := by
  have hsz := size_run (P := P) hi
  cases ha with
  | slice ht' hx hl hb' =>
    subst hx
    have hf' := fun c => run_firstCells_any (P := P) (w := w) (c := c) hl hb'
    cases base <;> simp [Builtin.append_, run_underlying ht, run_underlying ht', hsz, Builtin.lenOf, hroom, hf']
  | str ht' hx hs =>
    subst hx
    have htk : ∀ b : ByteArray, List.take b.size (List.map (fun b => Value.int .u8 (b.toNat : Int)) b.data.toList) = b.data.toList.map fun b => Value.int .u8 b.toNat := fun b => List.take_of_length_le (by simp)
    cases base <;> simp [Builtin.append_, run_underlying ht, run_underlying ht', hsz, Builtin.lenOf, hroom, Builtin.firstCells, htk]
  | @zeros k k' m ht' hx hn h0 hs hp =>
    subst hx
    have wn : IntKind.i64.wrap (n : Int) = (n : Int) := by rw [IntKind.wrap_i64]; omega
    have n1 : ¬ ((n : Int) < 0) := by omega
    have n2 : ¬ (281474976710656 < (n : Int) * (i.bytes : Int)) := by
      have h1 : n * i.bytes ≤ (sLen + n) * i.bytes := Nat.mul_le_mul_right _ (by omega)
      have h2 : (n : Int) * (i.bytes : Int) = ((n * i.bytes : Nat) : Int) := by simp
      rw [h2]; omega
    have hzc : Builtin.zeroCells z.cells n = ((List.range (n * i.size)).map fun j => z.cells[j % i.size]!).toArray := by
      simp only [Builtin.zeroCells, hs]
      apply Array.toList_inj.1
      simp
    have hzv : ∀ w : World, (zeroValue e).run P w = .ok z w := fun w => by simp [zeroValue, typeInfo, hi, hz]
    have h0' : ¬ (n * i.size = 0) := Nat.mul_ne_zero h0 (by omega)
    cases base <;> simp [Builtin.append_, run_underlying ht, run_underlying ht', hsz, asInt, asIntOf, typeInfo, hi, wn, n1, n2, hroom, h0', hzv, hzc]

theorem append_grow {w : World} {t tx e ty : TypeId} {x : Value} {base : Option Addr} {sLen sCap n : Nat} {olds news : List Value} {i : TypeInfo} {z : Value} (ht : P.underlying t = some (.slice e)) (hi : P.info? e = some i) (hz : i.zero = some z)
    (hb : (sLen + n) * i.bytes ≤ 1099511627776) (hb0 : i.bytes ≠ 0) (ha : App P w.drew tx x i.size z n news) (hgrow : ¬ sLen + n ≤ sCap)
    (hlo : olds.length = sLen * i.size) (hold : (base = none ∧ sLen = 0) ∨ ∃ ad, base = some ad ∧ ∀ j u, olds[j]? = some u → w.drew.cell? (ad.add j) = some u) :
    (Builtin.append_ #[t, tx] ty #[.slice base sLen sCap, x]).run P w = .ok (.slice (some ⟨w.heap.size, 0, none⟩) (sLen + n) (grownCap w (sLen + n) sCap e))
        (w.drew.alloc (.cells (olds.toArray ++ news.toArray ++ Builtin.zeroCells z.cells (grownCap w (sLen + n) sCap e - (sLen + n))) e)) := by
  have hsz := size_run (P := P) hi
  have hzv : ∀ w : World, (zeroValue e).run P w = .ok z w := fun w => by simp [zeroValue, typeInfo, hi, hz]
  have hfit : Builtin.nextslicecap (sLen + n) sCap * i.bytes ≤ 281474976710656 := growslice_fits (by omega) (by omega)
  have h48 : ¬ (281474976710656 < Builtin.nextslicecap (sLen + n) sCap * i.bytes) := by omega
  have hle : sLen + n ≤ (sLen + n) * i.bytes := Nat.le_mul_of_pos_right _ (by omega)
  have h63 : ¬ (9223372036854775807 < ((sLen : Int) + (n : Int))) := by omega
  have hfo := run_firstCells_any (P := P) (w := w.drew) (c := sCap) hlo hold
  cases ha with
  | slice ht' hx hl hb' =>
    subst hx
    have hf' := fun c => run_firstCells_any (P := P) (w := w.drew) (c := c) hl hb'
    simp [Builtin.append_, run_underlying ht, run_underlying ht', hsz, typeInfo, hi, Builtin.lenOf, hgrow, hf', h63, h48, Question.forced, hfo, hzv, Go.newRow, grownCap]
    congr 2
    apply Array.ext'
    simp [List.append_assoc]
  | str ht' hx hs =>
    subst hx
    have hfs : ∀ (b : ByteArray) (w : World), (Builtin.firstCells i.size b.size (.string b)).run P w = .ok (b.data.toList.map fun b => Value.int .u8 b.toNat).toArray w := fun b w => by
      have : (b.extract 0 b.size).data.map (fun b => Value.int .u8 b.toNat) = (b.data.toList.map fun b => Value.int .u8 b.toNat).toArray := by
        apply Array.ext'
        simp
      simp only [Builtin.firstCells, this]
      rfl
    simp [Builtin.append_, run_underlying ht, run_underlying ht', hsz, typeInfo, hi, Builtin.lenOf, hgrow, h63, h48, Question.forced, hfo, hzv, Go.newRow, grownCap, hfs]
    congr 2
    apply Array.ext'
    simp [List.append_assoc]
  | @zeros k k' m ht' hx hn h0 hs hp =>
    subst hx
    have wn : IntKind.i64.wrap (n : Int) = (n : Int) := by rw [IntKind.wrap_i64]; omega
    have n1 : ¬ ((n : Int) < 0) := by omega
    have n2 : ¬ (281474976710656 < (n : Int) * (i.bytes : Int)) := by
      have h1 : n * i.bytes ≤ (sLen + n) * i.bytes := Nat.mul_le_mul_right _ (by omega)
      have h2 : (n : Int) * (i.bytes : Int) = ((n * i.bytes : Nat) : Int) := by simp
      rw [h2]; omega
    have hzc : Builtin.zeroCells z.cells n = ((List.range (n * i.size)).map fun j => z.cells[j % i.size]!).toArray := by
      simp only [Builtin.zeroCells, hs]
      apply Array.toList_inj.1
      simp
    have h0' : ¬ (n * i.size = 0) := Nat.mul_ne_zero h0 (by omega)
    simp [Builtin.append_, run_underlying ht, run_underlying ht', hsz, asInt, asIntOf, typeInfo, hi, wn, n1, n2, hgrow, h0', hzv, hzc, h63, h48, Question.forced, hfo, Go.newRow, grownCap]
    congr 2
    apply Array.ext'
    simp [List.append_assoc]

end DG

/-
  Operation by operation, thirteenth part: append and copy.
-/
namespace DG
open Go Go.RowKit

variable {P : Program} {E : Env}

theorem App.drew {w : World} {tx : TypeId} {x : Value} {size : Nat} {z : Value} {n : Nat} {l : List Value} (h : App P w tx x size z n l) : App P w.drew tx x size z n l := by
  cases h with
  | slice ht hx hl hb => exact .slice ht hx hl hb
  | str ht hx hs => exact .str ht hx hs
  | zeros ht hx hn h0 hs hp => exact .zeros ht hx hn h0 hs hp

theorem refsL_append : ∀ (xs ys : List DV), refsL (xs ++ ys) = max (refsL xs) (refsL ys)
  | [], ys => by simp [refsL]
  | x :: xs, ys => by simp only [List.cons_append, refsL, refsL_append xs ys]; omega

theorem slLen_ok {β : Type} {x : DV} {f : Nat → R β} {r : β} {μ : Loc} {y : Value} (hx : V μ x y) (e : slLen x f = .ok r) : ∃ n, f n = .ok r ∧ ((∃ base c, y = .slice base n c) ∨ ∃ b, y = .string b ∧ n = b.size) := by
  unfold slLen at e
  split at e
  · cases hx; exact ⟨0, e, .inl ⟨_, _, rfl⟩⟩
  · obtain ⟨p, a, c, _, rfl, _⟩ := hx; exact ⟨_, e, .inl ⟨_, _, rfl⟩⟩
  · rename_i b
    rw [natK_eq] at e
    cases hx; exact ⟨_, e, .inr ⟨b, rfl, rfl⟩⟩
  · exact (bad_ok e).elim

theorem zeroCells_size (z : Array Value) (n : Nat) : (Builtin.zeroCells z n).size = n * z.size := by simp [Builtin.zeroCells]

/-- A new row behind an append that grows. -/
theorem grown_V {μ : Loc} {cs : List DV} {olds news : List Value} {z : Array Value} {size len n c : Nat} (hv : Vs μ cs (olds ++ news)) (ho : olds.length = len * size) (hn : news.length = n * size) (hz : z.size = size) (hc : len + n ≤ c) :
    Vs μ cs (((olds.toArray ++ news.toArray ++ Builtin.zeroCells z (c - (len + n))) : Array Value).toList.take cs.length) ∧ cs.length = (len + n) * size ∧ ((olds.toArray ++ news.toArray ++ Builtin.zeroCells z (c - (len + n))) : Array Value).size = c * size := by
  have h1 : cs.length = (len + n) * size := by rw [hv.length, List.length_append, ho, hn, Nat.add_mul]
  refine ⟨?_, h1, ?_⟩
  · simp only [Array.toList_append]
    rw [List.take_append_of_le_length (by simp [h1, ho, hn, Nat.add_mul]), List.take_of_length_le (by simp [h1, ho, hn, Nat.add_mul])]
    exact hv
  · simp only [Array.size_append, List.size_toArray, zeroCells_size, ho, hn, hz]
    rw [← Nat.add_mul, ← Nat.add_mul]
    congr 1
    omega

/-- What an append comes to. -/
def Appends (P : Program) (μ : Loc) (h : Heap) (w : World) (t tx ty : TypeId) (sv x : Value) (v : DV) (h' : Heap) : Prop :=
  ∃ u w' μ', (Builtin.append_ #[t, tx] ty #[sv, x]).run P w = .ok u w' ∧ V μ' v u ∧ H μ' h' w' ∧ Step h.n μ w μ' w' ∧ h.n ≤ h'.n

section
variable {μ : Loc} {h h' : Heap} {w : World} {t tx e ty : TypeId} {i : TypeInfo} {z : Value} {sv x : Value} {n : Nat} {news : List DV} {l : List Value} {v : DV}

/-- It grows into a new row. -/
theorem append_new (hh : H μ h w) (ht : P.underlying t = some (.slice e)) (hi : P.info? e = some i) (hz : i.zero = some z) (hzs : z.cells.size = i.size) (hb0 : i.bytes ≠ 0)
    {base : Option Addr} {len c : Nat} (hb : (len + n) * i.bytes ≤ 1099511627776) (hl : Vs μ news l) (ha : App P w tx x i.size z n l) (hgrow : ¬ len + n ≤ c) {olds : List DV} {lo : List Value} (ho : Vs μ olds lo)
    (hlo : lo.length = len * i.size) (hold : (base = none ∧ len = 0) ∨ ∃ ad, base = some ad ∧ ∀ j u, lo[j]? = some u → w.cell? (ad.add j) = some u) :
    Appends P μ h w t tx ty (.slice base len c) x (.sl h.n 0 0 (len + n) i.size none) ⟨h.n + 1, ⟨refsL (olds ++ news), .cells (olds ++ news) 0 false⟩ :: h.l⟩ := by
  have hr := append_grow (P := P) (ty := ty) (base := base) ht hi hz hb hb0 ha.drew hgrow hlo (by simpa using hold)
  have hge := grownCap_ge w (len + n) c e
  obtain ⟨g1, g2, g3⟩ := grown_V (size := i.size) (ho.append hl) hlo ha.length hzs hge
  obtain ⟨k1, k2⟩ := hh.drew.row (olds ++ news) _ e (0, 0) g1 (by rw [g2, g3]; exact Nat.mul_le_mul_right _ hge) (by intro off _; simp)
  refine ⟨_, _, _, hr, ⟨_, _, _, upd_same .., rfl, hge, fun k hk => (nomatch hk), Nat.le_refl _, fun _ => ⟨fun _ => rfl, ?_, fun _ => ?_⟩⟩, k1, (Step.refl _ _ _).drew.trans k2 (Nat.le_refl _), Nat.le_succ _⟩
  · show (olds ++ news).length ≤ _
    rw [g2, Nat.zero_add]
    exact Nat.mul_le_mul_right _ hge
  · show 0 + _ ≤ _
    rw [g3, Nat.zero_add]
    exact Nat.le_refl _

/-- It stays in its row. -/
theorem append_stays (hh : H μ h w) (ht : P.underlying t = some (.slice e)) (hi : P.info? e = some i) (hz : i.zero = some z)
    {id ver off len c : Nat} {cap : Option Nat} {ad : Addr} {p : Place} (hp : μ id = some p) (hck : CapIs c cap) (hle : ver ≤ p.ver) (he : ver = p.ver → (c ≠ 0 → ad = ⟨p.b, off, none⟩) ∧ CapRel p off i.size c cap)
    (hn0 : n ≠ 0) (hb : (len + n) * i.bytes ≤ 1099511627776) (hl : Vs μ news l) (hl1 : ∀ u ∈ l, u.oneCell' = true) (ha : App P w tx x i.size z n l) (hroom : len + n ≤ c)
    (hs : storeAt h id ver (off + len * i.size) news = .ok h') :
    Appends P μ h w t tx ty (.slice (some ad) len c) x (.sl id ver off (len + n) i.size cap) h' := by
  have hr := append_room (P := P) (ty := ty) (base := some ad) (sLen := len) (sCap := c) ht hi hz hb ha hroom
  have hver : ver = p.ver := by
    obtain ⟨bd, cs, ro, hrw, _⟩ := row_ok hs
    obtain ⟨vals, ty', fz, h1, h2, _⟩ := hh.obj id _ hrw p hp
    exact h2.symm
  have had := (he hver).1 (by omega)
  obtain ⟨ad', w', h1, h2, h3, h4, h5⟩ := run_storeAt (P := P) hh hs (y := .pointer (some (ad.add (len * i.size)))) ⟨p, _, hp, rfl, hle, fun _ => by rw [had, addr_add]⟩ hl hl1
  injection h1 with h1; injection h1 with h1
  subst h1
  refine ⟨_, w', μ, ?_, ⟨p, ad, c, hp, rfl, hroom, hck, hle, he⟩, h3, h4, by omega⟩
  rw [hr]
  simp only [h2, Result.andThen_ok]

/-- The newest slice of its row is made longer: in its row, or in a new one. -/
theorem append_longer (hh : H μ h w) (ht : P.underlying t = some (.slice e)) (hi : P.info? e = some i) (hz : i.zero = some z) (hzs : z.cells.size = i.size) (hb0 : i.bytes ≠ 0)
    {id ver len c bd : Nat} {ad : Addr} {p : Place} {cs : List DV} (hr : hrow h id = some ⟨bd, .cells cs ver false⟩) (hp : μ id = some p) (he : ver = p.ver → (c ≠ 0 → ad = ⟨p.b, 0, none⟩) ∧ CapRel p 0 i.size c none) (hlc : len ≤ c)
    (hn0 : n ≠ 0) (hb : (len + n) * i.bytes ≤ 1099511627776) (hl : Vs μ news l) (hl1 : ∀ u ∈ l, u.oneCell' = true) (ha : App P w tx x i.size z n l) (hcs : cs.length = len * i.size) :
    Appends P μ h w t tx ty (.slice (some ad) len c) x (.sl id (ver + 1) 0 (len + n) i.size none) ⟨h.n, h.l.set (h.n - 1 - id) ⟨max bd (refsL news), .cells (cs ++ news) (ver + 1) false⟩⟩ := by
  obtain ⟨vals, ty', fz, g1, g2, g3, g4, g5, g5', g6, g7, g8⟩ := hh.obj id _ hr p hp
  have g8 := g8 rfl
  obtain ⟨had, hcr⟩ := he g2.symm
  have hcr1 : p.len ≤ 0 + c * i.size := hcr.1
  have hcr2 : c ≠ 0 → 0 + c * i.size ≤ p.room := hcr.2
  have hbd : refsL cs ≤ bd := hh.bound _ (hrow_mem hr)
  have hbn : bd ≤ h.n := hh.refs _ _ hr
  have hrn := Vs.refs hh.out hl
  have hbb : refsL (cs ++ news) ≤ max bd (refsL news) := by rw [refsL_append]; omega
  have hbbn : max bd (refsL news) ≤ h.n := Nat.max_le.2 ⟨hbn, hrn⟩
  have hnl := ha.length
  have hnn : news.length = n * i.size := by rw [hl.length, hnl]
  have hcells : (cs ++ news).length = (len + n) * i.size := by rw [List.length_append, hcs, hnn, Nat.add_mul]
  have hpt := hh.lt id p hp
  -- the place behind the append
  have fin : ∀ (q : Place) (w' : World) (vals' : Array Value) (ty2 : TypeId) (fz' : Nat × Nat) (c' : Nat), q.ver = ver + 1 → q.len = (len + n) * i.size → q.room = vals'.size → q.ro = false → q.fix = false →
      (q.b = p.b ∨ w.heap.size ≤ q.b) → w'.heap[q.b]? = some (.cells vals' ty2 fz') → w'.os = w.os → w'.tape = w.tape → w'.output = w.output → w.heap.size ≤ w'.heap.size → (∀ b, b < w.heap.size → b ≠ p.b → w'.heap[b]? = w.heap[b]?) →
      Vs μ (cs ++ news) (vals'.toList.take (cs ++ news).length) → (len + n) * i.size ≤ vals'.size → (∀ off, off < vals'.size → ¬ (fz'.1 ≤ off ∧ off < fz'.2)) → len + n ≤ c' → c' * i.size ≤ vals'.size →
      (Builtin.append_ #[t, tx] ty #[.slice (some ad) len c, x]).run P w = .ok (.slice (some ⟨q.b, 0, none⟩) (len + n) c') w' →
      Appends P μ h w t tx ty (.slice (some ad) len c) x (.sl id (ver + 1) 0 (len + n) i.size none) ⟨h.n, h.l.set (h.n - 1 - id) ⟨max bd (refsL news), .cells (cs ++ news) (ver + 1) false⟩⟩ := by
    intro q w' vals' ty2 fz' c' q1 q2 q3 q4 q5 q6 q7 q8 q9 q10 q11 q12 q13 q14 q15 q16 q17 q18
    have hlat : Later p q := ⟨by omega, fun e => by omega, fun e => absurd (g5'.symm.trans e) (by simp), by rw [q4, g5]⟩
    have hqs : q.b < w'.heap.size := (Array.getElem?_eq_some_iff.1 q7).1
    have hgr : Grow h.n μ (upd μ id q) := fun j _ r hr' => by
      by_cases hj : j = id
      · subst hj
        rw [hp] at hr'; cases hr'
        exact ⟨q, upd_same .., hlat⟩
      · exact ⟨r, by rw [upd_other hj]; exact hr', Later.refl r⟩
    obtain ⟨k1, k2⟩ := hh.turn (w' := w') id _ hr p q hp hlat (by rw [g5]) q6 hqs q8 q9 q10 q11 q12 (.cells (cs ++ news) (ver + 1) false) (max bd (refsL news)) hbb hbbn
      ⟨vals', ty2, fz', q7, q1, by rw [q2, hcells], q3, q4, q5, by rw [hcells]; exact q14, Vs.step hh.out hgr q13, fun _ => q15⟩
    exact ⟨_, w', _, q18, ⟨q, _, c', upd_same .., rfl, q16, fun k hk => (nomatch hk), by omega, fun _ => ⟨fun _ => rfl, by rw [q2, Nat.zero_add]; exact Nat.mul_le_mul_right _ q16, fun _ => by rw [q3, Nat.zero_add]; exact q17⟩⟩, k1, k2, Nat.le_refl _⟩
  by_cases hroom : len + n ≤ c
  · have hr' := append_room (P := P) (ty := ty) (base := some ad) (sLen := len) (sCap := c) ht hi hz hb ha hroom
    have had' := had (by omega)
    have hcv : c * i.size ≤ vals.size := by have := hcr2 (by omega); omega
    have hnc : (len + n) * i.size ≤ c * i.size := Nat.mul_le_mul_right _ hroom
    have hmul : (len + n) * i.size = len * i.size + n * i.size := Nat.add_mul ..
    have hst := run_storeCells (P := P) p.b (len * i.size) ty' fz l 0 vals w g1 (by omega) hl1 g8
    simp only [Nat.add_zero] at hst
    have hsz : (vals.toList.take (len * i.size) ++ l ++ vals.toList.drop (len * i.size + l.length)).length = vals.size := by simp; omega
    refine fin ⟨p.b, ver + 1, (len + n) * i.size, vals.size, false, false⟩ (setBlk w p.b (.cells (vals.toList.take (len * i.size) ++ l ++ vals.toList.drop (len * i.size + l.length)).toArray ty' fz)) _ ty' fz c rfl rfl ?_ rfl rfl (.inl rfl) (setBlk_same hpt)
      rfl rfl rfl (by rw [size_setBlk]; exact Nat.le_refl _) (fun b _ hb => setBlk_other hb) ?_ ?_ ?_ hroom ?_ ?_
    · simp only [List.size_toArray, hsz]
    · have h1 : (vals.toList.take (len * i.size) ++ l).length = (cs ++ news).length := by
        rw [hcells, List.length_append, List.length_take, hnl]; simp; omega
      have h2 : ((vals.toList.take (len * i.size) ++ l ++ vals.toList.drop (len * i.size + l.length)).toArray).toList.take (cs ++ news).length = vals.toList.take cs.length ++ l := by
        rw [← h1, hcs]
        exact List.take_left
      rw [h2]
      exact g7.append hl
    · simp only [List.size_toArray, hsz]; omega
    · simp only [List.size_toArray, hsz]; exact g8
    · simp only [List.size_toArray, hsz]; exact hcv
    · rw [hr']
      have : (storeCells (ad.add (len * i.size)) l).run P w = .ok () (setBlk w p.b (.cells (vals.toList.take (len * i.size) ++ l ++ vals.toList.drop (len * i.size + l.length)).toArray ty' fz)) := by
        rw [had', addr_add, Nat.zero_add]
        exact hst
      show ((storeCells (ad.add (len * i.size)) l).run P w).andThen _ = _
      rw [this, had']
      rfl
  · have holds : ∀ j u, (vals.toList.take cs.length)[j]? = some u → w.drew.cell? (ad.add j) = some u := by
      intro j u hj
      rw [List.getElem?_take] at hj
      split at hj
      · rename_i hjl
        have hc0 : c ≠ 0 := by
          rintro rfl
          have : len = 0 := by omega
          subst this
          simp [hcs] at hjl
        rw [had hc0]
        have hcell := cell_add (w := w) (off := 0) g1 j
        show w.cell? (Addr.add ⟨p.b, 0, none⟩ j) = _
        rw [hcell]
        simpa using hj
      · exact nomatch hj
    have hlo : (vals.toList.take cs.length).length = len * i.size := by rw [← g7.length, hcs]
    have hr' := append_grow (P := P) (ty := ty) (base := some ad) ht hi hz hb hb0 ha.drew hroom hlo (.inr ⟨ad, rfl, holds⟩)
    have hge := grownCap_ge w (len + n) c e
    obtain ⟨k1, k2, k3⟩ := grown_V (size := i.size) (g7.append hl) hlo ha.length hzs hge
    refine fin ⟨w.heap.size, ver + 1, (len + n) * i.size, grownCap w (len + n) c e * i.size, false, false⟩ _ _ e (0, 0) (grownCap w (len + n) c e) rfl rfl ?_ rfl rfl (.inr (Nat.le_refl _)) (alloc_new w.drew _) rfl rfl rfl (by simp) (fun b hb _ => (alloc_old w.drew _ _ (by simpa using hb)).trans rfl) k1 ?_ ?_ hge ?_ hr'
    · exact k3.symm
    · rw [k3]; exact Nat.mul_le_mul_right _ hge
    · intro off _; simp
    · rw [k3]; exact Nat.le_refl _

end

end DG

/-
  Operation by operation, fourteenth part: append and copy as the interpreter has them.
-/
namespace DG
open Go Go.RowKit

variable {P : Program} {E : Env}

theorem ones_V {μ : Loc} {cs : List DV} {l : List Value} (h : Vs μ cs l) (ho : alls oneCell cs = true) : ∀ u ∈ l, u.oneCell' = true := by
  rw [alls_eq] at ho
  have := (cells_V (x := .agg cs) (v := .agg l.toArray) (μ := μ) ⟨_, rfl, h⟩ ho).2
  exact fun u hu => this u (by simpa [Value.cells] using hu)

theorem storeAt_ones {h h' : Heap} {id ver off : Nat} {vs : List DV} (e : storeAt h id ver off vs = .ok h') : alls oneCell vs = true := by
  obtain ⟨bd, cs, ro, hr, e⟩ := row_ok e
  obtain ⟨_, e⟩ := need_ok e
  obtain ⟨_, e⟩ := need_ok e
  exact (need_ok e).1

theorem append_does {μ : Loc} {h h' : Heap} {w : World} {t tx e ty : TypeId} {i : TypeInfo} {z : Value} {sv x : Value} {n : Nat} {news : List DV} {l : List Value} {v s : DV}
    (hh : H μ h w) (ht : P.underlying t = some (.slice e)) (hi : P.info? e = some i) (hz : i.zero = some z) (hzs : z.cells.size = i.size) (hsz0 : i.size ≠ 0) (hb0 : i.bytes ≠ 0)
    (hs : V μ s sv) (hl : Vs μ news l) (ha : App P w tx x i.size z n l) (er : appendCells i.size i.bytes s n news h = .ok (v, h')) : Appends P μ h w t tx ty sv x v h' := by
  unfold appendCells at er
  split at er
  · obtain ⟨hb, er⟩ := need_ok er
    rw [ble_eq] at hb
    have hb : n * i.bytes ≤ 1099511627776 := of_decide_eq_true hb
    cases hs
    rw [beq_eq] at er
    by_cases hn0 : n = 0
    · subst hn0
      rw [decide_eq_true rfl, cond_true] at er
      injection er with er; injection er with e1 e2; subst e1; subst e2
      have hr := append_room (P := P) (ty := ty) (base := none) (sLen := 0) (sCap := 0) ht hi hz (by simp) ha (Nat.le_refl _)
      exact ⟨_, w, μ, hr, rfl, hh, Step.refl _ _ _, Nat.le_refl _⟩
    · rw [decide_eq_false hn0, cond_false, newRow_eq] at er
      injection er with er; injection er with e1 e2; subst e1; subst e2
      have := append_new (P := P) (ty := ty) (base := none) (len := 0) (c := 0) hh ht hi hz hzs hb0 (by simp; exact hb) hl ha (by omega) (olds := []) (lo := []) rfl (by simp) (.inl ⟨rfl, rfl⟩)
      rw [Nat.zero_add] at this
      exact this
  · rename_i id ver off len es cap
    obtain ⟨hb, er⟩ := need_ok er
    simp only [Bool.and_eq_true, ble_eq, beq_eq, decide_eq_true_eq] at hb
    obtain ⟨hes, hb⟩ := hb
    have hb : (len + n) * i.bytes ≤ 1099511627776 := hb
    subst hes
    have hs' := hs
    obtain ⟨p, ad, c, hp, rfl, hlc, hck, hle, he⟩ := hs
    rw [beq_eq] at er
    by_cases hn0 : n = 0
    · subst hn0
      rw [decide_eq_true rfl, cond_true] at er
      injection er with er; injection er with e1 e2; subst e1; subst e2
      have hr := append_room (P := P) (ty := ty) (base := some ad) (sLen := len) (sCap := c) ht hi hz hb ha hlc
      have hl0 : l = [] := by have := ha.length; simpa using this
      subst hl0
      exact ⟨_, w, μ, hr, hs', hh, Step.refl _ _ _, Nat.le_refl _⟩
    · rw [decide_eq_false hn0, cond_false] at er
      cases cap with
      | some k =>
        have hkc := hck k rfl
        simp only [ble_eq] at er
        by_cases hroom : len + n ≤ k
        · rw [decide_eq_true hroom, cond_true] at er
          obtain ⟨h1, hst, er⟩ := andThen_ok er
          rw [mkSl_eq] at er
          have er' : (Except.ok (.sl id ver off (len + n) i.size (some k), h1) : R (DV × Heap)) = .ok (v, h') := er
          injection er' with er'; injection er' with e1 e2; subst e1; subst e2
          exact append_stays hh ht hi hz hp hck hle he hn0 hb hl (ones_V hl (storeAt_ones hst)) ha (by omega) hst
        · rw [decide_eq_false hroom, cond_false] at er
          obtain ⟨olds, lo, base, m, c', er, hsv, hV, hlo, hold⟩ := slCells_run hh hs' er
          injection hsv with q1 q2 q3
          subst q1; subst q2; subst q3
          rw [mkSl_eq] at er
          have er' : (listK (olds ++ news) fun cs => newRow h cs fun h1 => .ok (.sl h.n 0 0 (len + n) i.size none, h1)) = (.ok (v, h') : R (DV × Heap)) := er
          rw [listK_eq, newRow_eq] at er'
          injection er' with er'; injection er' with e1 e2; subst e1; subst e2
          exact append_new hh ht hi hz hzs hb0 hb hl ha (by omega) hV hlo hold
      | none =>
        obtain ⟨bd, cs, ro, hr, er⟩ := row_ok er
        rw [ble_eq] at er
        obtain ⟨vals, ty', fz, g1, g2, g3, _⟩ := hh.obj id _ hr p hp
        obtain ⟨he1, he2⟩ := he g2.symm
        have he2' : p.len ≤ off + c * i.size := he2.1
        by_cases hroom : off + (len + n) * i.size ≤ cs.length
        · rw [decide_eq_true hroom, cond_true] at er
          obtain ⟨h1, hst, er⟩ := andThen_ok er
          rw [mkSl_eq] at er
          have er' : (Except.ok (.sl id ver off (len + n) i.size none, h1) : R (DV × Heap)) = .ok (v, h') := er
          injection er' with er'; injection er' with e1 e2; subst e1; subst e2
          have hln : len + n ≤ c := by
            have : (len + n) * i.size ≤ c * i.size := by omega
            exact Nat.le_of_mul_le_mul_right this (by omega)
          exact append_stays hh ht hi hz hp hck hle he hn0 hb hl (ones_V hl (storeAt_ones hst)) ha hln hst
        · rw [decide_eq_false hroom, cond_false] at er
          obtain ⟨hq, er9⟩ := need_ok er
          clear er
          simp only [Bool.and_eq_true, beq_eq, decide_eq_true_eq, Bool.not_eq_true'] at hq
          obtain ⟨⟨⟨q1, q2⟩, q3⟩, q4⟩ := hq
          subst q1; subst q2
          rw [mkSl_eq] at er9
          have er' : (natK (max bd (refsL news)) fun b => natK (ver + 1) fun ver' => listK (cs ++ news) fun cs => hset h id ⟨b, .cells cs ver' false⟩ fun h => .ok (.sl id (ver + 1) 0 (len + n) i.size none, h)) = (.ok (v, h') : R (DV × Heap)) := er9
          rw [natK_eq, natK_eq, listK_eq, hset_eq] at er'
          injection er' with er'; injection er' with e1 e2; subst e1; subst e2
          exact append_longer hh ht hi hz hzs hb0 hr hp he hlc hn0 hb hl (ones_V hl q4) ha q3
  · exact (bad_ok er).elim

theorem Appends.does {μ : Loc} {h h' : Heap} {w : World} {t tx ty : TypeId} {sv x : Value} {v : DV} {cs : Array Bool} (e : Appends P μ h w t tx ty sv x v h') : Does P μ h w (builtin .append #[t, tx] ty cs #[sv, x]) v h' := by
  obtain ⟨u, w', μ', h1, h2, h3, h4, h5⟩ := e
  exact ⟨.value u, u, w', μ', by simp [builtin, h1], .inl rfl, h2, h3, h4, h5⟩

theorem sound_append (tab : Tab P E) (t tx : TypeId) (s x : Operand) : BSound P E .append [t, tx] [s, x] := fun ts h v h' e μ w a ty cs hT hh hG => by
  obtain ⟨ti, hi, e⟩ := withTy_ok e
  obtain ⟨d, hd, hk, hrun⟩ := kind_run tab hi w
  split at e
  · rename_i el hkk
    rw [hkk] at hk
    cases hk
    obtain ⟨ei, hei, e⟩ := withTy_ok e
    obtain ⟨xi, hxi, e⟩ := withTy_ok e
    obtain ⟨dx, hdx, hkx, hrunx⟩ := kind_run tab hxi w
    obtain ⟨inf, z, g1, g2, g3, g4, g5, g6, g7, g8⟩ := (tab.ty el ei hei).info
    have hzs : z.cells.size = ei.size := by have := (g5 μ).length; rw [g6] at this; simpa using this.symm
    cases hc : (Nat.beq ei.size 0 || Nat.beq ei.bytes 0) with
    | true => rw [hc] at e; exact (bad_ok e).elim
    | false =>
      rw [hc, cond_false] at e
      simp only [Bool.or_eq_false_iff, beq_eq, decide_eq_false_iff_not] at hc
      obtain ⟨hc1, hc2⟩ := hc
      split at e
      · rename_i el' hkk'
        rw [hkk'] at hkx
        cases hkx
        obtain ⟨us, h1, e⟩ := andThen_ok e
        obtain ⟨ux, h2, e⟩ := andThen_ok e
        have hs := (arg_V h1 hT hG).1
        have hx := (arg_V h2 hT hG).1
        obtain ⟨m, e, hm⟩ := slLen_ok hx e
        obtain ⟨news, l, base, n, c, e, hy, hV, hl, hb⟩ := slCells_run hh hx e
        have hmn : m = n := by
          rcases hm with ⟨b', c', hm⟩ | ⟨b', hm, _⟩
          · rw [hy] at hm; injection hm with _ q _; exact q.symm
          · rw [hy] at hm; exact nomatch hm
        subst hmn
        rw [← g2, ← g3] at e
        rw [← g2] at hl
        exact (append_does (P := P) (ty := ty) (e := el) hh hd g1 g4 (by rw [hzs, g2]) (by omega) (by omega) hs hV (.slice hdx hy hl hb) e).does
      · rename_i hkk'
        rw [hkk'] at hkx
        cases hkx
        rw [beq_eq] at e
        by_cases h1' : ei.size = 1
        · rw [decide_eq_true h1', cond_true] at e
          obtain ⟨us, h1, e⟩ := andThen_ok e
          obtain ⟨ux, h2, e⟩ := andThen_ok e
          have hs := (arg_V h1 hT hG).1
          have hx := (arg_V h2 hT hG).1
          unfold appendStr at e
          split at e
          · rename_i b
            rw [natK_eq, listK_eq] at e
            have hx' : a.eval x = .string b := hx
            have e' : appendCells inf.size inf.bytes us b.size (bytesOf b) h = .ok (v, h') := by rw [g2, g3, h1']; exact e
            exact (append_does (P := P) (ty := ty) (e := el) hh hd g1 g4 (by rw [hzs, g2]) (by omega) (by omega) hs (bytesOf_V μ b.data.toList) (.str hdx hx' (by omega)) e').does
          · exact (bad_ok e).elim
        · rw [decide_eq_false h1'] at e; exact (bad_ok e).elim
      · rename_i k' hkk'
        rw [hkk'] at hkx
        cases hkx
        obtain ⟨us, h1, e⟩ := andThen_ok e
        obtain ⟨ux, h2, e⟩ := andThen_ok e
        have hs := (arg_V h1 hT hG).1
        have hx := (arg_V h2 hT hG).1
        unfold appendZeros at e
        split at e
        · rename_i k n
          obtain ⟨hn, e⟩ := need_ok e
          simp only [Bool.and_eq_true, ble_eq, beq_eq, decide_eq_true_eq, Bool.not_eq_true', decide_eq_false_iff_not] at hn
          obtain ⟨⟨n1, n2⟩, n3⟩ := hn
          rw [listK_eq] at e
          have hx' : a.eval x = .int k (.ofNat n) := hx
          have hzV := zeros_V (g5 μ) n
          rw [hzs, ← g2] at hzV
          rw [← g2, ← g3] at e
          exact (append_does (P := P) (ty := ty) (e := el) hh hd g1 g4 (by rw [hzs, g2]) (by omega) (by omega) hs hzV (.zeros hdx hx' n2 n3 (by rw [hzs, g2]) (by omega)) e).does
        · exact (bad_ok e).elim
      · exact (bad_ok e).elim
  · exact (bad_ok e).elim

end DG

/-
  Operation by operation, fifteenth part: copy; all builtins.
-/
namespace DG
open Go Go.RowKit

variable {P : Program} {E : Env}

theorem lenOf_run {w : World} {y : Value} {n : Nat} (h : (∃ base c, y = .slice base n c) ∨ ∃ b, y = .string b ∧ n = b.size) : (Builtin.lenOf y).run P w = .ok n w := by
  rcases h with ⟨b, c, rfl⟩ | ⟨b, rfl, rfl⟩ <;> simp [Builtin.lenOf]

theorem copy_run {t tx ty e : TypeId} {i : TypeInfo} {w w' : World} {dst src : Value} {base : Option Addr} {dl c sn n : Nat} {l : List Value} (ht : P.underlying t = some (.slice e)) (hi : P.info? e = some i) (hd : dst = .slice base dl c)
    (hl : (Builtin.lenOf src).run P w = .ok sn w) (hn : n = Nat.min sn dl) (hf : (Builtin.firstCells i.size n src).run P w = .ok l.toArray w)
    (hst : ((match base with | some a => storeCells a l | none => pure ()) : Sem Unit).run P w = .ok () w') : (Builtin.copy_ #[t, tx] ty #[dst, src]).run P w = .ok (goInt n) w' := by
  subst hn; subst hd
  cases base with
  | none =>
    simp only [Sem.run_pure, Result.ok.injEq, true_and] at hst
    subst hst
    simp [Builtin.copy_, run_underlying ht, hl, size_run hi, hf]
  | some ad => simp [Builtin.copy_, run_underlying ht, hl, size_run hi, hf, hst]

theorem sound_copy (tab : Tab P E) (t tx : TypeId) (d s : Operand) : BSound P E .copy [t, tx] [d, s] := fun ts h v h' e μ w a ty cs hT hh hG => by
  obtain ⟨ti, hi, e⟩ := withTy_ok e
  obtain ⟨dd, hd, hk, hrun⟩ := kind_run tab hi w
  split at e
  · rename_i el hkk
    rw [hkk] at hk
    cases hk
    obtain ⟨ei, hei, e⟩ := withTy_ok e
    obtain ⟨inf, z, g1, g2, _⟩ := (tab.ty el ei hei).info
    obtain ⟨ud, h1, e⟩ := andThen_ok e
    obtain ⟨us, h2, e⟩ := andThen_ok e
    have hdv := (arg_V h1 hT hG).1
    have hsv := (arg_V h2 hT hG).1
    unfold copyOp at e
    split at e
    · obtain ⟨sn, e, hs⟩ := slLen_ok hsv e
      injection e with e; injection e with e1 e2; subst e1; subst e2
      have hdv' : a.eval d = .slice none 0 0 := hdv
      have hf : (Builtin.firstCells inf.size 0 (a.eval s)).run P w = .ok ([] : List Value).toArray w := by
        rcases hs with ⟨b, c, hs⟩ | ⟨b, hs, _⟩
        · rw [hs]; cases b <;> simp [Builtin.firstCells, loadCells, loadCellsFrom]
        · rw [hs]; simp [Builtin.firstCells]
      have := copy_run (P := P) (tx := tx) (ty := ty) (n := 0) hd g1 hdv' (lenOf_run hs) (by simp) hf (w' := w) rfl
      exact Does.value hh (x := goInt 0) (by simp [builtin, this]) rfl
    · rename_i id ver off dl es cap _
      obtain ⟨sn, e, hs⟩ := slLen_ok hsv e
      rw [natK_eq] at e
      obtain ⟨p, ad, c, hp, hv, hlc, hck, hle, he⟩ := hdv
      -- the cells known
      have fin : ∀ (cs' : List DV) (l : List Value), Vs μ cs' l → (need (Nat.beq es ei.size && Nat.beq cs'.length (Nat.min sn dl * ei.size)) "copy: cells" <|
          bif Nat.beq (Nat.min sn dl) 0 then .ok (.int .i64 0, h) else andThen (storeAt h id ver off cs') fun h => .ok (.int .i64 (.ofNat (Nat.min sn dl)), h)) = (.ok (v, h') : R (DV × Heap)) →
          (Builtin.firstCells inf.size (Nat.min sn dl) (a.eval s)).run P w = .ok l.toArray w → Does P μ h w (builtin .copy #[t, tx] ty cs #[a.eval d, a.eval s]) v h' := by
        intro cs' l hV e hf
        obtain ⟨hq, e9⟩ := need_ok e
        clear e
        simp only [Bool.and_eq_true, beq_eq, decide_eq_true_eq] at hq
        obtain ⟨q1, q2⟩ := hq
        subst q1
        rw [beq_eq] at e9
        by_cases hn0 : Nat.min sn dl = 0
        · rw [hn0, decide_eq_true rfl, cond_true] at e9
          injection e9 with e9; injection e9 with e1 e2; subst e1; subst e2
          have hl0 : l = [] := by
            have := hV.length
            rw [q2, hn0, Nat.zero_mul] at this
            exact List.length_eq_zero_iff.1 this.symm
          subst hl0
          have := copy_run (P := P) (tx := tx) (ty := ty) (n := Nat.min sn dl) hd g1 hv (lenOf_run hs) rfl hf (w' := w) rfl
          exact Does.value hh (x := goInt (Nat.min sn dl)) (by simp [builtin, this]) (by rw [hn0]; rfl)
        · rw [decide_eq_false hn0, cond_false] at e9
          obtain ⟨h1, hst, e9⟩ := andThen_ok e9
          injection e9 with e9; injection e9 with e1 e2; subst e1; subst e2
          have hver : ver = p.ver := by
            obtain ⟨bd, cs2, ro, hrw, _⟩ := row_ok hst
            obtain ⟨vals, ty', fz, k1, k2, _⟩ := hh.obj id _ hrw p hp
            exact k2.symm
          have hdl : dl ≠ 0 := by
            rintro rfl
            exact hn0 (Nat.min_eq_right (Nat.zero_le _))
          have had := (he hver).1 (by omega)
          obtain ⟨ad', w', k1, k2, k3, k4, k5⟩ := run_storeAt (P := P) hh hst (y := .pointer (some ad)) ⟨p, _, hp, rfl, hle, fun _ => had⟩ hV (ones_V hV (storeAt_ones hst))
          injection k1 with k1; injection k1 with k1
          subst k1
          have := copy_run (P := P) (tx := tx) (ty := ty) (n := Nat.min sn dl) hd g1 hv (lenOf_run hs) rfl hf (w' := w') k2
          exact ⟨.value (goInt (Nat.min sn dl)), goInt (Nat.min sn dl), w', μ, by simp [builtin, this], .inl rfl, rfl, k3, k4, by omega⟩
      split at e
      · rename_i b _
        have hsv' : a.eval s = .string b := hsv
        rw [listK_eq, takes_eq] at e
        have hV := (bytesOf_V μ b.data.toList).take (Nat.min sn dl)
        refine fin _ _ hV e ?_
        rw [hsv']
        have : (b.extract 0 (Nat.min sn dl)).data.map (fun b => Value.int .u8 b.toNat) = ((b.data.toList.map fun b => Value.int .u8 b.toNat).take (Nat.min sn dl)).toArray := by
          apply Array.ext'
          simp
        simp only [Builtin.firstCells, this]
        rfl
      · obtain ⟨c', l, base, m, c2, e, hy, hV, hl, hb⟩ := slCells_run hh hsv e
        rw [listK_eq, takes_eq] at e
        have hV' := hV.take (Nat.min sn dl * ei.size)
        refine fin _ _ hV' e ?_
        have hms : sn = m := by
          rcases hs with ⟨b, c3, hs⟩ | ⟨b, hs, _⟩
          · rw [hy] at hs; injection hs with _ q _; exact q.symm
          · rw [hy] at hs; exact nomatch hs
        subst hms
        rw [hy]
        have hle' : Nat.min sn dl * ei.size ≤ sn * ei.size := Nat.mul_le_mul_right _ (Nat.min_le_left _ _)
        have hlt : (l.take (Nat.min sn dl * ei.size)).length = Nat.min sn dl * inf.size := by rw [List.length_take, hl, g2]; exact Nat.min_eq_left hle'
        have hsame : Builtin.firstCells inf.size (Nat.min sn dl) (.slice base sn c2) = Builtin.firstCells inf.size (Nat.min sn dl) (.slice base (Nat.min sn dl) c2) := by cases base <;> rfl
        rw [hsame]
        refine run_firstCells_any hlt ?_
        rcases hb with ⟨rfl, h0⟩ | ⟨ad2, rfl, hb⟩
        · exact .inl ⟨rfl, by rw [h0]; exact Nat.min_eq_left (Nat.zero_le _)⟩
        · refine .inr ⟨ad2, rfl, fun j u hj => hb j u ?_⟩
          rw [List.getElem?_take] at hj
          split at hj
          · exact hj
          · exact nomatch hj
    · exact (bad_ok e).elim
  · exact (bad_ok e).elim

end DG

/-
  Operation by operation: all of them.
-/
namespace DG
open Go Go.RowKit

variable {P : Program} {E : Env}

theorem pure_sound (tab : Tab P E) (o : Oper) : OpSound P E o := fun ts h v h' e μ w a hT hh hG => by
  cases ho : o.op with
  | move x => exact sound_move ho ts h v h' e μ w a hT hh hG
  | assign x => exact sound_assign ho ts h v h' e μ w a hT hh hG
  | pick c x y => exact sound_pick ho ts h v h' e μ w a hT hh hG
  | alloc t => exact sound_alloc tab ho ts h v h' e μ w a hT hh hG
  | box t x => exact sound_box ho ts h v h' e μ w a hT hh hG
  | build t parts => exact sound_build tab ho ts h v h' e μ w a hT hh hG
  | buildSlice t n parts => exact sound_buildSlice tab ho ts h v h' e μ w a hT hh hG
  | load t x => exact sound_load tab ho ts h v h' e μ w a hT hh hG
  | store t x y => exact sound_store tab ho ts h v h' e μ w a hT hh hG
  | nilCheck x => exact sound_nilCheck ho ts h v h' e μ w a hT hh hG
  | binOp op t x y t' => exact sound_binOp tab ho ts h v h' e μ w a hT hh hG
  | unOp op t x => exact sound_unOp ho ts h v h' e μ w a hT hh hG
  | convert s d x => exact sound_convert tab ho ts h v h' e μ w a hT hh hG
  | makeInterface t x => exact sound_makeInterface tab ho ts h v h' e μ w a hT hh hG
  | makeFunc fn first cap => exact sound_makeFunc ho ts h v h' e μ w a hT hh hG
  | makeMap t r => cases r with
    | none => exact sound_makeMap ho ts h v h' e μ w a hT hh hG
    | some r => rw [ho] at e; exact (bad_ok e).elim
  | makeSlice t l c => exact sound_makeSlice tab ho ts h v h' e μ w a hT hh hG
  | slice t x lo hi mx => exact sound_slice tab ho ts h v h' e μ w a hT hh hG
  | fieldAddr t x f => exact sound_fieldAddr tab ho ts h v h' e μ w a hT hh hG
  | field t x f => exact sound_field tab ho ts h v h' e μ w a hT hh hG
  | indexAddr t x y => exact sound_indexAddr tab ho ts h v h' e μ w a hT hh hG
  | index t x y => exact sound_index tab ho ts h v h' e μ w a hT hh hG
  | lookup t m k ok => exact sound_lookup tab ho ts h v h' e μ w a hT hh hG
  | mapUpdate t m k x => exact sound_mapUpdate tab ho ts h v h' e μ w a hT hh hG
  | range t x => exact sound_range tab ho ts h v h' e μ w a hT hh hG
  | next x s => cases s with
    | false => exact sound_next ho ts h v h' e μ w a hT hh hG
    | true => rw [ho] at e; exact (bad_ok e).elim
  | typeAssert x t t' ok => exact sound_typeAssert tab ho ts h v h' e μ w a hT hh hG
  | extract x i => exact sound_extract ho ts h v h' e μ w a hT hh hG
  | _ => rw [ho] at e; exact (bad_ok e).elim

theorem builtin_sound (tab : Tab P E) (b : Builtin) (tys : List TypeId) (xs : List Operand) : BSound P E b tys xs := fun ts h v h' e μ w a ty cs hT hh hG => by
  unfold builtinOp at e
  split at e
  · exact sound_len tab _ _ ts h v h' e μ w a ty cs hT hh hG
  · exact sound_append tab _ _ _ _ ts h v h' e μ w a ty cs hT hh hG
  · exact sound_cap tab _ _ ts h v h' e μ w a ty cs hT hh hG
  · exact sound_copy tab _ _ _ _ ts h v h' e μ w a ty cs hT hh hG
  · exact sound_minmax true _ _ ts h v h' e μ w a ty cs hT hh hG
  · exact sound_minmax false _ _ ts h v h' e μ w a ty cs hT hh hG
  · exact (bad_ok e).elim

end DG
