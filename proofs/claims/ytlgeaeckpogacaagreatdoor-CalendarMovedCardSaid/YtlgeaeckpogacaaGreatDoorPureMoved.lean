/-
  The plain law of CalendarMoved: over lists and numbers alone, it answers true.
-/
import Derived.Test.YtlgeaeckpogacaaGreatDoorMMovedx3
namespace Go.Proofs.YtlgeaeckpogacaaGreatDoor.MMoved
open Go.RowKit Go.Proofs.YtlgeaeckpogacaaGreatDoorW.PrintWords

/-- Two fixtures that differ. -/
def dif (a b : S54) : Bool := !(a.f0 == b.f0) || (!(a.f1 == b.f1) || (!(a.f2 == b.f2)))

theorem dif_iff (a b : S54) : dif a b = true ↔ ¬ (a.f0 = b.f0 ∧ a.f1 = b.f1 ∧ a.f2 = b.f2) := by
  unfold dif
  by_cases h0 : a.f0 = b.f0 <;> by_cases h1 : a.f1 = b.f1 <;> by_cases h2 : a.f2 = b.f2 <;> simp [h0, h1, h2]

theorem dif_comm (a b : S54) : dif a b = dif b a := by
  rw [Bool.eq_iff_iff, dif_iff, dif_iff]
  constructor <;> (rintro h ⟨h0, h1, h2⟩; exact h ⟨h0.symm, h1.symm, h2.symm⟩)

theorem dif_trans {a b c : S54} (h : dif a c = true) : dif a b = true ∨ dif b c = true := by
  rw [dif_iff] at h
  rw [dif_iff, dif_iff]
  by_cases h1 : a.f0 = b.f0 ∧ a.f1 = b.f1 ∧ a.f2 = b.f2
  · by_cases h2 : b.f0 = c.f0 ∧ b.f1 = c.f1 ∧ b.f2 = c.f2
    · exact (h ⟨h1.1.trans h2.1, h1.2.1.trans h2.2.1, h1.2.2.trans h2.2.2⟩).elim
    · exact .inr h2
  · exact .inl h1

/-- The places, from i on, at which two lists differ. -/
def D (l m : List S54) : Nat → Nat → List Int
  | 0, _ => []
  | d + 1, i => if dif (rd_T54 l i) (rd_T54 m i) = true then (i : Int) :: D l m d (i + 1) else D l m d (i + 1)

theorem D_comm (l m : List S54) : ∀ d i, D l m d i = D m l d i
  | 0, _ => rfl
  | d + 1, i => by simp only [D, dif_comm (rd_T54 l i), D_comm l m d (i + 1)]

theorem D_length (l m : List S54) : ∀ d i, (D l m d i).length ≤ d
  | 0, _ => Nat.le_refl _
  | d + 1, i => by
    have := D_length l m d (i + 1)
    simp only [D]
    split <;> simp <;> omega

theorem mem_D (l m : List S54) : ∀ d i (v : Int), v ∈ D l m d i ↔ ∃ j : Nat, v = j ∧ i ≤ j ∧ j < i + d ∧ dif (rd_T54 l j) (rd_T54 m j) = true
  | 0, i, v => by simp [D]; omega
  | d + 1, i, v => by
    have ih := mem_D l m d (i + 1) v
    simp only [D]
    split
    · rename_i h
      rw [List.mem_cons, ih]
      constructor
      · rintro (rfl | ⟨j, h1, h2, h3, h4⟩)
        · exact ⟨i, rfl, Nat.le_refl _, by omega, h⟩
        · exact ⟨j, h1, by omega, by omega, h4⟩
      · rintro ⟨j, h1, h2, h3, h4⟩
        by_cases hj : j = i
        · subst hj; exact .inl h1
        · exact .inr ⟨j, h1, by omega, by omega, h4⟩
    · rename_i h
      rw [ih]
      constructor
      · rintro ⟨j, h1, h2, h3, h4⟩; exact ⟨j, h1, by omega, by omega, h4⟩
      · rintro ⟨j, h1, h2, h3, h4⟩
        by_cases hj : j = i
        · subst hj; exact (h h4).elim
        · exact ⟨j, h1, by omega, by omega, h4⟩

theorem wrap_next {i n : Nat} (h : i < n) (hn : n ≤ 1024) : wrap64 ((i : Int) + 1) = ((i + 1 : Nat) : Int) := by
  unfold wrap64
  omega

theorem moved_l0 (l m : List S54) (hlm : l.length = m.length) (hl : l.length ≤ 1024) (no : Int) : ∀ (d i : Nat) (x : List Int) (k : Nat), i + d = l.length → x.length + d ≤ 1024 → d < k → calendar_Moved.l0 k x l (l.length : Int) i no m = some (x ++ D l m d i, 0)
  | 0, i, x, k, hi, _, hk => by
    obtain ⟨k, rfl⟩ : ∃ q, k = q + 1 := ⟨k - 1, by omega⟩
    simp only [calendar_Moved.l0]
    rw [if_neg (by omega)]
    simp [D]
  | d + 1, i, x, k, hi, hx, hk => by
    obtain ⟨k, rfl⟩ : ∃ q, k = q + 1 := ⟨k - 1, by omega⟩
    simp only [calendar_Moved.l0]
    rw [if_pos (by omega), if_pos (by omega), if_pos (by omega), if_pos (by omega), wrap_next (n := l.length) (by omega) hl]
    show (if dif (rd_T54 l i) (rd_T54 m i) = true then _ else _) = _
    simp only [D]
    split
    · rw [if_pos (by omega), moved_l0 l m hlm hl no d (i + 1) _ k (by omega) (by simp; omega) (by omega)]
      simp
    · exact moved_l0 l m hlm hl no d (i + 1) x k (by omega) (by omega) (by omega)

theorem moved_f (l m : List S54) (a b : Int) (k : Nat) (hk : 1026 < k) : calendar_Moved.f k a l b m = if l.length = m.length ∧ l.length ≤ 1024 then some (D l m l.length 0, 0) else some ([], 350) := by
  obtain ⟨k, rfl⟩ : ∃ q, k = q + 1 := ⟨k - 1, by omega⟩
  unfold calendar_Moved.f
  by_cases h : l.length = m.length
  · rw [if_pos (by omega)]
    simp only [calendar_Moved.j0]
    by_cases h2 : l.length ≤ 1024
    · rw [if_neg (by simp; omega), if_pos ⟨h, h2⟩]
      have := moved_l0 l m h h2 b l.length 0 [] k (by omega) (by simpa using h2) (by omega)
      simpa using this
    · rw [if_pos (by simp; omega), if_neg (by omega)]
  · rw [if_neg (by omega), if_neg (by omega)]
    simp only [calendar_Moved.j0]
    rw [if_pos trivial]

theorem same_l0 (l m : List S54) (hlm : l.length = m.length) (hl : l.length ≤ 1024) : ∀ (d i k : Nat), i + d = l.length → d < k → fastiref35_Same.l0 k l m i = some (D l m d i).isEmpty
  | 0, i, k, hi, hk => by
    obtain ⟨k, rfl⟩ : ∃ q, k = q + 1 := ⟨k - 1, by omega⟩
    simp only [fastiref35_Same.l0]
    rw [if_neg (by omega)]
    simp [D]
  | d + 1, i, k, hi, hk => by
    obtain ⟨k, rfl⟩ : ∃ q, k = q + 1 := ⟨k - 1, by omega⟩
    simp only [fastiref35_Same.l0]
    rw [if_pos (by omega), if_pos (by omega), if_pos (by omega), wrap_next (n := l.length) (by omega) hl]
    show (if dif (rd_T54 l i) (rd_T54 m i) = true then _ else _) = _
    simp only [D]
    split
    · simp
    · exact same_l0 l m hlm hl d (i + 1) k (by omega) (by omega)

theorem ints_l0 (x : List Int) (hx : x.length ≤ 1024) : ∀ (d i k : Nat), i + d = x.length → d < k → fastiref35_SameInts.l0 k x x i = some true
  | 0, i, k, hi, hk => by
    obtain ⟨k, rfl⟩ : ∃ q, k = q + 1 := ⟨k - 1, by omega⟩
    simp only [fastiref35_SameInts.l0]
    rw [if_neg (by omega)]
  | d + 1, i, k, hi, hk => by
    obtain ⟨k, rfl⟩ : ∃ q, k = q + 1 := ⟨k - 1, by omega⟩
    simp only [fastiref35_SameInts.l0]
    rw [if_pos (by omega), if_pos (by omega), if_pos (by omega), wrap_next (n := x.length) (by omega) hx]
    exact ints_l0 x hx d (i + 1) k (by omega) (by omega)

theorem has_l0 (x : List Int) (v : Int) (hx : x.length ≤ 1024) : ∀ (d i k : Nat), i + d = x.length → d < k → fastilaw35_has.l0 k x v i = some (decide (v ∈ x.drop i))
  | 0, i, k, hi, hk => by
    obtain ⟨k, rfl⟩ : ∃ q, k = q + 1 := ⟨k - 1, by omega⟩
    simp only [fastilaw35_has.l0]
    rw [if_neg (by omega)]
    simp [List.drop_eq_nil_of_le (show x.length ≤ i by omega)]
  | d + 1, i, k, hi, hk => by
    obtain ⟨k, rfl⟩ : ∃ q, k = q + 1 := ⟨k - 1, by omega⟩
    have hlt : i < x.length := by omega
    have hrd : rd x (i : Int) = x[i] := by simp [rd, hlt]
    have hdrop : x.drop i = x[i] :: x.drop (i + 1) := List.drop_eq_getElem_cons hlt
    simp only [fastilaw35_has.l0]
    rw [if_pos (by omega), if_pos (by omega), wrap_next (n := x.length) (by omega) hx, hrd, hdrop]
    by_cases h : x[i] = v
    · rw [if_pos h]; simp [h]
    · rw [if_neg h, has_l0 x v hx d (i + 1) k (by omega) (by omega)]
      congr 1
      rw [Bool.eq_iff_iff]
      simp only [decide_eq_true_eq, List.mem_cons]
      constructor
      · exact .inr
      · rintro (e | e)
        · exact (h e.symm).elim
        · exact e

theorem has_f (x : List Int) (v : Int) (hx : x.length ≤ 1024) (k : Nat) (hk : 1024 < k) : fastilaw35_has.f k x v = some (decide (v ∈ x)) := by
  have := has_l0 x v hx x.length 0 k (by omega) (by omega)
  simpa [fastilaw35_has.f] using this

theorem law_l0 (x z u : List Int) (hx : x.length ≤ 1024) (hz : z.length ≤ 1024) (hu : u.length ≤ 1024) (hall : ∀ v ∈ u, v ∈ x ∨ v ∈ z) : ∀ (d i k : Nat), i + d = u.length → d + 1025 < k → fastilaw35_CalendarMoved.l0 k x z u i = some true
  | 0, i, k, hi, hk => by
    obtain ⟨k, rfl⟩ : ∃ q, k = q + 1 := ⟨k - 1, by omega⟩
    simp only [fastilaw35_CalendarMoved.l0]
    rw [if_neg (by omega)]
  | d + 1, i, k, hi, hk => by
    obtain ⟨k, rfl⟩ : ∃ q, k = q + 1 := ⟨k - 1, by omega⟩
    have hlt : i < u.length := by omega
    have hrd : rd u (i : Int) = u[i] := by simp [rd, hlt]
    have ih := law_l0 x z u hx hz hu hall d (i + 1) k (by omega) (by omega)
    simp only [fastilaw35_CalendarMoved.l0]
    rw [if_pos (by omega), if_pos (by omega), hrd, has_f x _ hx k (by omega), has_f z _ hz k (by omega), wrap_next (n := u.length) (by omega) hu]
    simp only [Option.bind_some]
    rcases hall _ (List.getElem_mem hlt) with h | h
    · rw [if_pos (decide_eq_true h)]; exact ih
    · split
      · exact ih
      · rw [if_pos (decide_eq_true h)]; exact ih

theorem law_true (a b c : Int) (l m n : List S54) : fastilaw35_CalendarMoved.f 4000 a l b m c n = some true := by
  unfold fastilaw35_CalendarMoved.f
  simp only [fastilaw35_sane.f, Option.bind_some, if_true]
  rw [moved_f l m a b 4000 (by omega), moved_f m l b a 4000 (by omega)]
  by_cases h : l.length = m.length ∧ l.length ≤ 1024
  · have h' : m.length = l.length ∧ m.length ≤ 1024 := by omega
    have hD : D m l m.length 0 = D l m l.length 0 := by rw [← h.1, D_comm]
    have hlen := D_length l m l.length 0
    have hs : fastiref35_SameInts.f 4000 (D l m l.length 0) (D l m l.length 0) = some true := by
      unfold fastiref35_SameInts.f
      rw [if_pos rfl]
      exact ints_l0 _ (by omega) (D l m l.length 0).length 0 4000 (Nat.zero_add _) (by omega)
    have hsm : fastiref35_Same.f 4000 l m = some (D l m l.length 0).isEmpty := by
      unfold fastiref35_Same.f
      rw [if_pos (by omega)]
      exact same_l0 l m h.1 h.2 l.length 0 4000 (by omega) (by omega)
    rw [if_pos h, if_pos h', hD]
    simp only [Option.bind_some, if_true, hs, hsm]
    have ht : ((((D l m l.length 0).length : Int) == 0) != (D l m l.length 0).isEmpty) = false := by
      cases D l m l.length 0 with
      | nil => rfl
      | cons v r =>
        simp only [List.length_cons, List.isEmpty_cons, bne_eq_false_iff_eq, beq_eq_false_iff_ne]
        omega
    rw [ht]
    show fastilaw35_CalendarMoved.j0 (3999 + 1) _ _ _ _ _ _ _ _ = _
    simp only [fastilaw35_CalendarMoved.j0, Bool.false_eq_true, if_false]
    rw [moved_f m n b c 3999 (by omega), moved_f l n a c 3999 (by omega)]
    by_cases h2 : l.length = n.length
    · have h3 : m.length = n.length ∧ m.length ≤ 1024 := by omega
      have h4 : l.length = n.length ∧ l.length ≤ 1024 := by omega
      rw [if_pos h3, if_pos h4]
      simp only [Option.bind_some, if_true]
      have k1 := D_length m n m.length 0
      have k2 := D_length l n l.length 0
      refine law_l0 _ _ _ (by omega) (by omega) (by omega) (fun v hv => ?_) _ 0 3999 (Nat.zero_add _) (by omega)
      obtain ⟨j, rfl, j1, j2, j3⟩ := (mem_D l n l.length 0 v).1 hv
      rcases dif_trans (b := rd_T54 m j) j3 with j4 | j4
      · exact .inl ((mem_D l m l.length 0 _).2 ⟨j, rfl, j1, j2, j4⟩)
      · exact .inr ((mem_D m n m.length 0 _).2 ⟨j, rfl, j1, by omega, j4⟩)
    · have h3 : ¬ (m.length = n.length ∧ m.length ≤ 1024) := by omega
      have h4 : ¬ (l.length = n.length ∧ l.length ≤ 1024) := by omega
      rw [if_neg h3, if_neg h4]
      simp only [Option.bind_some, if_true]
      exact law_l0 _ [] [] (by omega) (by simp) (by simp) (fun v hv => nomatch hv) 0 0 3999 rfl (by omega)
  · have h' : ¬ (m.length = l.length ∧ m.length ≤ 1024) := by omega
    rw [if_neg h, if_neg h']
    simp only [Option.bind_some]
    rw [if_neg (by omega), if_pos trivial, if_pos (by simp), if_pos (by simp)]
    by_cases h2 : l.length = m.length
    · rw [if_pos (by omega)]
      congr 1
      exact decide_eq_true (by omega)
    · rw [if_neg (by omega)]

end Go.Proofs.YtlgeaeckpogacaaGreatDoor.MMoved
