import PyProof.Rows.All
import Wide.All
import KE.KDictOf
import Open.Line
import Wide.FinOn
import PySem.Challenge.RW_sx_zweave_6o
set_option Elab.async false
namespace Mine
set_option linter.unusedSectionVars false
section lcs
variable {α : Type} [DecidableEq α]

noncomputable def lcs : List α → List α → Nat
  | [], _ => 0
  | _ :: _, [] => 0
  | x :: xs, y :: ys => if x = y then lcs xs ys + 1 else max (lcs xs (y :: ys)) (lcs (x :: xs) ys)
termination_by a b => a.length + b.length

noncomputable def gm (i j : Nat) : List α → List α → List (Nat × Nat)
  | [], _ => []
  | _ :: _, [] => []
  | x :: xs, y :: ys => if x = y then (i, j) :: gm (i + 1) (j + 1) xs ys
      else if lcs (x :: xs) ys ≤ lcs xs (y :: ys) then gm (i + 1) j xs (y :: ys) else gm i (j + 1) (x :: xs) ys
termination_by a b => a.length + b.length

noncomputable def Val (a b : List α) : Nat → Nat → List (Nat × Nat) → Prop
  | _, _, [] => True
  | i, j, (p, q) :: r => i ≤ p ∧ j ≤ q ∧ (∃ x, a[p]? = some x ∧ b[q]? = some x) ∧ Val a b (p + 1) (q + 1) r

noncomputable def wd (n k : Nat) : Nat → Nat → List (Nat × Nat) → List Nat
  | i, j, [] => List.replicate (n - i) 49 ++ (List.replicate (k - j) 50 ++ [48])
  | i, j, (p, q) :: r => List.replicate (p - i) 49 ++ (List.replicate (q - j) 50 ++ 48 :: wd n k (p + 1) (q + 1) r)

theorem Val.weaken {a b : List α} {m : List (Nat × Nat)} {i j i' j' : Nat} (h : Val a b i j m) (hi : i' ≤ i) (hj : j' ≤ j) : Val a b i' j' m := by
  cases m with
  | nil => exact trivial
  | cons r m => exact ⟨Nat.le_trans hi h.1, Nat.le_trans hj h.2.1, h.2.2.1, h.2.2.2⟩

theorem some_lt {l : List α} {p : Nat} {x : α} (h : l[p]? = some x) : p < l.length := (List.getElem?_eq_some_iff.mp h).1
theorem val_end_left {a b : List α} {i j : Nat} (hi : a.length ≤ i) {m : List (Nat × Nat)} (h : Val a b i j m) : m = [] := by
  cases m with
  | nil => rfl
  | cons r m => obtain ⟨h1, _, ⟨x, hx, _⟩, _⟩ := h; exact absurd (some_lt hx) (Nat.not_lt.mpr (Nat.le_trans hi h1))
theorem val_end_right {a b : List α} {i j : Nat} (hj : b.length ≤ j) {m : List (Nat × Nat)} (h : Val a b i j m) : m = [] := by
  cases m with
  | nil => rfl
  | cons r m => obtain ⟨_, h1, ⟨x, _, hx⟩, _⟩ := h; exact absurd (some_lt hx) (Nat.not_lt.mpr (Nat.le_trans hj h1))

theorem repl_sub {p i : Nat} (h : i + 1 ≤ p) {α : Type} (x : α) (l : List α) : List.replicate (p - i) x ++ l = x :: (List.replicate (p - (i + 1)) x ++ l) := by
  obtain ⟨k, rfl⟩ := Nat.exists_eq_add_of_le h
  rw [Nat.add_sub_cancel_left, Nat.add_assoc, Nat.add_sub_cancel_left, Nat.add_comm 1 k]
  rfl
theorem wd_strike {n k i j : Nat} {m : List (Nat × Nat)} (h : ∀ p q r, m = (p, q) :: r → i + 1 ≤ p) (hi : i < n) : wd n k i j m = 49 :: wd n k (i + 1) j m := by
  cases m with
  | nil => exact repl_sub hi _ _
  | cons pq r => exact repl_sub (h pq.1 pq.2 r rfl) _ _
theorem repl_self {i : Nat} {α : Type} (x : α) (l : List α) : List.replicate (i - i) x ++ l = l := by rw [Nat.sub_self]; rfl
theorem wd_add {n k i j q : Nat} {r : List (Nat × Nat)} (h : j + 1 ≤ q) : wd n k i j ((i, q) :: r) = 50 :: wd n k i (j + 1) ((i, q) :: r) := by
  show List.replicate (i - i) 49 ++ _ = 50 :: (List.replicate (i - i) 49 ++ _)
  rw [repl_self, repl_self]; exact repl_sub h _ _
theorem wd_keep {n k i j : Nat} {r : List (Nat × Nat)} : wd n k i j ((i, j) :: r) = 48 :: wd n k (i + 1) (j + 1) r := (repl_self _ _).trans (repl_self _ _)
theorem lt_tail {x : Nat} {l l' : List Nat} (h : l < l') : x :: l < x :: l' := List.cons_lt_cons_iff.mpr (.inr ⟨rfl, h⟩)
theorem lt_head {x y : Nat} {l l' : List Nat} (h : x < y) : x :: l < y :: l' := List.cons_lt_cons_iff.mpr (.inl h)
theorem not_lt_le {i p : Nat} (h : i ≤ p) (hn : ¬ p = i) : i + 1 ≤ p := Nat.lt_of_le_of_ne h fun e => hn e.symm
theorem not_le_eq {i p : Nat} (h : i ≤ p) (hn : ¬ i + 1 ≤ p) : p = i := Nat.le_antisymm (Nat.not_lt.mp hn) h

/-- what gm_main says at a place -/
abbrev GM (a b : List α) (i j : Nat) (g : List (Nat × Nat)) (l : Nat) : Prop :=
  Val a b i j g ∧ g.length = l ∧ ∀ m, Val a b i j m → m.length ≤ l ∧ (m.length = l → m = g ∨ wd a.length b.length i j g < wd a.length b.length i j m)

theorem gm_end {a b : List α} {i j : Nat} (h : ∀ m, Val a b i j m → m = []) : GM a b i j [] 0 :=
  ⟨trivial, rfl, fun m hm => by cases h m hm; exact ⟨Nat.le_refl _, fun _ => .inl rfl⟩⟩
theorem gm_k {a b : List α} {i j : Nat} {x : α} (hx : a[i]? = some x) (hy : b[j]? = some x) {g : List (Nat × Nat)} {l : Nat} (H : GM a b (i + 1) (j + 1) g l) : GM a b i j ((i, j) :: g) (l + 1) := by
  obtain ⟨v, hl, best⟩ := H
  refine ⟨⟨Nat.le_refl _, Nat.le_refl _, ⟨x, hx, hy⟩, v⟩, congrArg (· + 1) hl, fun m hm => ?_⟩
  cases m with
  | nil => exact ⟨Nat.zero_le _, fun h => nomatch h⟩
  | cons pq r =>
    obtain ⟨p, q⟩ := pq
    obtain ⟨h1, h2, h3, h4⟩ := hm
    have hr := best r (h4.weaken (Nat.succ_le_succ h1) (Nat.succ_le_succ h2))
    refine ⟨Nat.succ_le_succ hr.1, fun h => ?_⟩
    by_cases hpi : p = i
    · subst hpi
      by_cases hqj : q = j
      · subst hqj
        refine (hr.2 (Nat.succ.inj h)).imp (fun e => by rw [e]) fun e => ?_
        rw [wd_keep, wd_keep]
        exact lt_tail e
      · right
        rw [wd_keep, wd_add (not_lt_le h2 hqj)]
        exact lt_head (by decide)
    · right
      rw [wd_keep, wd_strike (fun p' q' r' e => by cases e; exact not_lt_le h1 hpi) (some_lt hx)]
      exact lt_head (by decide)
theorem gm_s {a b : List α} {i j : Nat} (hia : i < a.length) (hno : ∀ x, a[i]? = some x → b[j]? = some x → False) {g g' : List (Nat × Nat)} {l l' : Nat} (H : GM a b (i + 1) j g l) (H' : GM a b i (j + 1) g' l') (hle : l' ≤ l) : GM a b i j g l := by
  obtain ⟨v, hl, best⟩ := H
  refine ⟨v.weaken (Nat.le_succ _) (Nat.le_refl _), hl, fun m hm => ?_⟩
  have hgs : ∀ p q r, g = (p, q) :: r → i + 1 ≤ p := fun p q r e => by cases e; exact v.1
  by_cases hm' : Val a b (i + 1) j m
  · have hr := best m hm'
    refine ⟨hr.1, fun h => (hr.2 h).imp id fun e => ?_⟩
    rw [wd_strike hgs hia, wd_strike (fun p q r e => by cases e; exact hm'.1) hia]
    exact lt_tail e
  · cases m with
    | nil => exact absurd trivial hm'
    | cons pq r =>
      obtain ⟨p, q⟩ := pq
      obtain ⟨h1, h2, h3, h4⟩ := hm
      have hpi : p = i := not_le_eq h1 fun h => hm' ⟨h, h2, h3, h4⟩
      subst hpi
      have hqj : j + 1 ≤ q := not_lt_le h2 fun e => by subst e; exact h3.elim fun x hx => hno x hx.1 hx.2
      have hr := H'.2.2 ((p, q) :: r) ⟨Nat.le_refl _, hqj, h3, h4⟩
      refine ⟨Nat.le_trans hr.1 hle, fun _ => .inr ?_⟩
      rw [wd_strike hgs hia, wd_add hqj]
      exact lt_head (by decide)
theorem gm_a {a b : List α} {i j : Nat} (hno : ∀ x, a[i]? = some x → b[j]? = some x → False) {g g' : List (Nat × Nat)} {l l' : Nat} (H : GM a b i (j + 1) g l) (H' : GM a b (i + 1) j g' l') (hle : l' < l) : GM a b i j g l := by
  obtain ⟨v, hl, best⟩ := H
  have first : ∀ m, Val a b i j m → m.length = l → ∃ q r, m = (i, q) :: r ∧ j + 1 ≤ q := fun m hm hl => by
    by_cases hm' : Val a b (i + 1) j m
    · exact absurd (H'.2.2 m hm').1 (Nat.not_le.mpr (hl ▸ hle))
    · cases m with
      | nil => exact absurd trivial hm'
      | cons pq r =>
        obtain ⟨p, q⟩ := pq
        obtain ⟨h1, h2, h3, h4⟩ := hm
        have hpi : p = i := not_le_eq h1 fun h => hm' ⟨h, h2, h3, h4⟩
        subst hpi
        exact ⟨q, r, rfl, not_lt_le h2 fun e => by subst e; exact h3.elim fun x hx => hno x hx.1 hx.2⟩
  refine ⟨v.weaken (Nat.le_refl _) (Nat.le_succ _), hl, fun m hm => ?_⟩
  by_cases hm' : Val a b i (j + 1) m
  · have hr := best m hm'
    refine ⟨hr.1, fun h => (hr.2 h).imp id fun e => ?_⟩
    obtain ⟨q, r, rfl, hq⟩ := first m hm h
    obtain ⟨q', r', rfl, hq'⟩ := first _ (v.weaken (Nat.le_refl _) (Nat.le_succ _)) hl
    rw [wd_add hq', wd_add hq]
    exact lt_tail e
  · cases m with
    | nil => exact absurd trivial hm'
    | cons pq r =>
      obtain ⟨p, q⟩ := pq
      have hm0 := hm
      obtain ⟨h1, h2, h3, h4⟩ := hm
      have hqj : q = j := not_le_eq h2 fun h => hm' ⟨h1, h, h3, h4⟩
      subst hqj
      have hpi : i + 1 ≤ p := not_lt_le h1 fun e => by subst e; exact h3.elim fun x hx => hno x hx.1 hx.2
      have hlt := Nat.lt_of_le_of_lt (H'.2.2 ((p, q) :: r) ⟨hpi, h2, h3, h4⟩).1 hle
      exact ⟨Nat.le_of_lt hlt, fun h => absurd h (Nat.ne_of_lt hlt)⟩
theorem gm_nil {i j : Nat} {a : List α} : gm i j a ([] : List α) = [] := by cases a <;> simp only [gm]
theorem lcs_nil {a : List α} : lcs a ([] : List α) = 0 := by cases a <;> simp only [lcs]

theorem gm_main (a b : List α) (N : Nat) : ∀ (i j : Nat), a.length + b.length ≤ N + i + j → i ≤ a.length → j ≤ b.length →
    GM a b i j (gm i j (a.drop i) (b.drop j)) (lcs (a.drop i) (b.drop j)) := by
  induction N with
  | zero =>
    intro i j hN hi hj
    have hi : a.length ≤ i := by omega
    rw [List.drop_eq_nil_of_le hi, gm, lcs]
    exact gm_end fun m => val_end_left hi
  | succ N ih =>
    intro i j hN hi hj
    rcases Nat.lt_or_ge i a.length with hia | hia
    case inr =>
      rw [List.drop_eq_nil_of_le hia, gm, lcs]
      exact gm_end fun m => val_end_left hia
    rcases Nat.lt_or_ge j b.length with hjb | hjb
    case inr =>
      rw [List.drop_eq_nil_of_le hjb, gm_nil, lcs_nil]
      exact gm_end fun m => val_end_right hjb
    have hx : a[i]? = some a[i] := List.getElem?_eq_getElem hia
    have hy : b[j]? = some b[j] := List.getElem?_eq_getElem hjb
    have ea : a.drop i = a[i] :: a.drop (i + 1) := List.drop_eq_getElem_cons hia
    have eb : b.drop j = b[j] :: b.drop (j + 1) := List.drop_eq_getElem_cons hjb
    have i10 := ih (i + 1) j (by clear ih hx hy ea eb; omega) hia hj
    have i01 := ih i (j + 1) (by clear ih hx hy ea eb i10; omega) hi hjb
    by_cases hxy : a[i] = b[j]
    · have i11 := ih (i + 1) (j + 1) (by clear ih hx hy ea eb i10 i01; omega) hia hjb
      rw [ea, eb, gm, lcs, if_pos hxy, if_pos hxy]
      exact gm_k hx (hxy ▸ hy) i11
    · have hno : ∀ x, a[i]? = some x → b[j]? = some x → False := fun x h1 h2 => hxy (Option.some.inj (hx.symm.trans (h1.trans (h2.symm.trans hy))))
      rw [eb] at i10
      rw [ea] at i01
      rw [ea, eb, gm, lcs, if_neg hxy, if_neg hxy]
      split
      next hle => rw [Nat.max_eq_left hle]; exact gm_s hia hno i10 i01 hle
      next hle => rw [Nat.max_eq_right (Nat.le_of_not_le hle)]; exact gm_a hno i01 i10 (Nat.not_le.mp hle)

theorem gm_all (a b : List α) : GM a b 0 0 (gm 0 0 a b) (lcs a b) := gm_main a b _ 0 0 (Nat.le_refl _) (Nat.zero_le _) (Nat.zero_le _)
theorem gm_val (a b : List α) : Val a b 0 0 (gm 0 0 a b) := (gm_all a b).1
theorem gm_len (a b : List α) : (gm 0 0 a b).length = lcs a b := (gm_all a b).2.1

/-- m is the better of the two, by the law's order -/
abbrev Better (n k : Nat) (m best : List (Nat × Nat)) : Prop := best.length < m.length ∨ (m.length = best.length ∧ wd n k 0 0 m < wd n k 0 0 best)

theorem gm_best (a b : List α) (m : List (Nat × Nat)) (h : Val a b 0 0 m) : m = gm 0 0 a b ∨ Better a.length b.length (gm 0 0 a b) m := by
  obtain ⟨h1, h2⟩ := (gm_all a b).2.2 m h
  have hl := gm_len a b
  rcases Nat.lt_or_eq_of_le h1 with e | e
  · exact .inr (.inl (hl ▸ e))
  · exact (h2 e).imp id fun h' => .inr ⟨hl.trans e.symm, h'⟩
theorem gm_notBetter (a b : List α) (m : List (Nat × Nat)) (h : Val a b 0 0 m) : ¬ Better a.length b.length m (gm 0 0 a b) := by
  intro hb
  have hl := gm_len a b
  obtain ⟨h1, h2⟩ := (gm_all a b).2.2 m h
  rcases hb with hb | hb
  · exact absurd hb (Nat.not_lt.mpr (hl ▸ h1))
  · rcases h2 (hb.1.trans hl) with e | e
    · subst e; exact absurd hb.2 (List.lt_irrefl _)
    · exact absurd (List.lt_trans hb.2 e) (List.lt_irrefl _)

noncomputable def pickBest (n k : Nat) (best : List (Nat × Nat)) (front : List (List (Nat × Nat))) : List (Nat × Nat) :=
  front.foldl (fun best m => if Better n k m best then m else best) best

theorem pickBest_gm (a b : List α) (front : List (List (Nat × Nat))) : ∀ (best : List (Nat × Nat)), (∀ m ∈ front, Val a b 0 0 m) → Val a b 0 0 best → (best = gm 0 0 a b ∨ gm 0 0 a b ∈ front) →
    pickBest a.length b.length best front = gm 0 0 a b := by
  induction front with
  | nil => intro best _ _ h; exact h.elim id fun h => nomatch h
  | cons m front ih =>
    intro best hf hb h
    have hm := hf m (List.mem_cons_self ..)
    refine ih (if Better a.length b.length m best then m else best) (fun x hx => hf x (List.mem_cons_of_mem _ hx)) (by split <;> assumption) ?_
    rcases h with h | h
    · subst h
      rw [if_neg (gm_notBetter a b m hm)]
      exact .inl rfl
    · rcases List.mem_cons.mp h with h | h
      · left
        rcases gm_best a b best hb with e | e
        · rw [← h, if_neg (by rw [e]; exact gm_notBetter a b _ (gm_val a b)), e]
        · rw [← h, if_pos e]
      · exact .inr h

/-- the matchings that the law lists -/
noncomputable def moreOf (a b : List α) (i : Nat) (m : List (Nat × Nat)) : List (List (Nat × Nat)) :=
  ((List.range b.length).filter fun j => decide (a[i]? = b[j]?) && (decide (m = []) || m.getLast?.any fun p => decide (p.2 < j))).map fun j => m ++ [(i, j)]
noncomputable def frontAt (a b : List α) : Nat → List (List (Nat × Nat))
  | 0 => [[]]
  | i + 1 => frontAt a b i ++ (frontAt a b i).flatMap (moreOf a b i)

theorem val_last {a b : List α} {l : List (Nat × Nat)} : ∀ {i j : Nat}, Val a b i j l → ∀ z, l.getLast? = some z → i ≤ z.1 ∧ j ≤ z.2 ∧ ∀ r ∈ l, r.1 ≤ z.1 := by
  induction l with
  | nil => intro _ _ _ z hz; cases hz
  | cons w l ih =>
    intro i j hv z hz
    obtain ⟨k1, k2, _, k4⟩ := hv
    cases l with
    | nil => cases hz; exact ⟨k1, k2, fun r hr => by cases hr with | head => exact Nat.le_refl _ | tail _ h => cases h⟩
    | cons w' l =>
      obtain ⟨h1, h2, h3⟩ := ih k4 z (by rw [← hz, List.getLast?_cons_cons])
      have h1' := Nat.le_of_succ_le h1
      exact ⟨Nat.le_trans k1 h1', Nat.le_trans k2 (Nat.le_of_succ_le h2), fun r hr => by cases hr with | head => exact h1' | tail _ h => exact h3 r h⟩
theorem val_snoc {a b : List α} {p q : Nat} {m : List (Nat × Nat)} : ∀ {i j : Nat}, Val a b i j (m ++ [(p, q)]) ↔
    Val a b i j m ∧ i ≤ p ∧ j ≤ q ∧ (∀ r, m.getLast? = some r → r.1 < p ∧ r.2 < q) ∧ ∃ x, a[p]? = some x ∧ b[q]? = some x := by
  induction m with
  | nil => intro i j; exact ⟨fun h => ⟨trivial, h.1, h.2.1, (fun r hr => nomatch hr), h.2.2.1⟩, fun h => ⟨h.2.1, h.2.2.1, h.2.2.2.2, trivial⟩⟩
  | cons w m ih =>
    intro i j
    obtain ⟨u, v⟩ := w
    constructor
    · rintro ⟨h1, h2, h3, h4⟩
      obtain ⟨h5, h6, h7, h8, h9⟩ := ih.mp h4
      refine ⟨⟨h1, h2, h3, h5⟩, Nat.le_trans h1 (Nat.le_of_succ_le h6), Nat.le_trans h2 (Nat.le_of_succ_le h7), fun r hr => ?_, h9⟩
      cases m with
      | nil => cases hr; exact ⟨h6, h7⟩
      | cons y m => exact h8 r (by rw [← hr, List.getLast?_cons_cons])
    · rintro ⟨⟨h1, h2, h3, h4⟩, h5, h6, h7, h8⟩
      refine ⟨h1, h2, h3, ih.mpr ⟨h4, ?_, ?_, fun r hr => ?_, h8⟩⟩
      all_goals cases m with
        | nil => first | exact (h7 _ rfl).1 | exact (h7 _ rfl).2 | cases hr
        | cons y m =>
          rw [List.getLast?_cons_cons] at h7
          first
          | exact h7 r hr
          | obtain ⟨z, hz⟩ : ∃ z, (y :: m).getLast? = some z := ⟨_, List.getLast?_cons⟩
            have h9 := h7 z hz
            obtain ⟨g1, g2, _⟩ := val_last h4 z hz
            first | exact Nat.le_trans g1 (Nat.le_of_lt h9.1) | exact Nat.le_trans g2 (Nat.le_of_lt h9.2)

theorem val_lt {a b : List α} {m : List (Nat × Nat)} : ∀ {i j : Nat}, Val a b i j m → ∀ r ∈ m, r.1 < a.length ∧ r.2 < b.length ∧ i ≤ r.1 ∧ j ≤ r.2 := by
  induction m with
  | nil => intro _ _ _ r hr; cases hr
  | cons w m ih =>
    rintro i j ⟨h1, h2, ⟨x, hx, hy⟩, h4⟩ r hr
    cases hr with
    | head => exact ⟨some_lt hx, some_lt hy, h1, h2⟩
    | tail _ h =>
      obtain ⟨g1, g2, g3, g4⟩ := ih h4 r h
      exact ⟨g1, g2, Nat.le_trans h1 (Nat.le_of_succ_le g3), Nat.le_trans h2 (Nat.le_of_succ_le g4)⟩

theorem mem_more {a b : List α} {i : Nat} {m m' : List (Nat × Nat)} : m' ∈ moreOf a b i m ↔ ∃ j, (j < b.length ∧ a[i]? = b[j]? ∧ (m = [] ∨ (m.getLast?.any fun p => decide (p.2 < j)) = true)) ∧ m ++ [(i, j)] = m' := by
  simp only [moreOf, List.mem_map, List.mem_filter, List.mem_range, Bool.and_eq_true, decide_eq_true_eq, Bool.or_eq_true]

theorem front_sound (a b : List α) (n : Nat) : n ≤ a.length → ∀ m ∈ frontAt a b n, Val a b 0 0 m ∧ ∀ r ∈ m, r.1 < n := by
  induction n with
  | zero => intro _ m hm; cases List.mem_singleton.mp hm; exact ⟨trivial, fun r hr => nomatch hr⟩
  | succ n ih =>
    intro hn m hm
    rcases List.mem_append.mp hm with hm | hm
    · obtain ⟨h1, h2⟩ := ih (Nat.le_of_lt hn) m hm
      exact ⟨h1, fun r hr => Nat.lt_succ_of_lt (h2 r hr)⟩
    · obtain ⟨m', hm', hx⟩ := List.mem_flatMap.mp hm
      obtain ⟨h1, h2⟩ := ih (Nat.le_of_lt hn) m' hm'
      obtain ⟨j, ⟨hj, he, hl⟩, rfl⟩ := mem_more.mp hx
      have hg := List.getElem?_eq_getElem hn
      refine ⟨val_snoc.mpr ⟨h1, Nat.zero_le _, Nat.zero_le _, fun r hr => ⟨h2 r (List.mem_of_getLast? hr), ?_⟩, a[n], hg, he ▸ hg⟩, fun r hr => ?_⟩
      · rcases hl with hl | hl
        · subst hl; cases hr
        · rw [hr] at hl; exact of_decide_eq_true hl
      · rcases List.mem_append.mp hr with hr | hr
        · exact Nat.lt_succ_of_lt (h2 r hr)
        · cases List.mem_singleton.mp hr; exact Nat.lt_succ_self _

theorem front_complete (a b : List α) (n : Nat) : n ≤ a.length → ∀ m, Val a b 0 0 m → (∀ r ∈ m, r.1 < n) → m ∈ frontAt a b n := by
  induction n with
  | zero =>
    intro _ m _ h
    cases m with
    | nil => exact List.mem_singleton.mpr rfl
    | cons r m => exact absurd (h r (List.mem_cons_self ..)) (Nat.not_lt_zero _)
  | succ n ih =>
    intro hn m hv h
    refine List.mem_append.mpr ?_
    rcases List.eq_nil_or_concat m with rfl | ⟨m', r, rfl⟩
    · exact .inl (ih (Nat.le_of_lt hn) [] trivial fun r hr => nomatch hr)
    · obtain ⟨p, q⟩ := r
      rw [List.concat_eq_append] at hv h ⊢
      obtain ⟨h1, _, _, h4, x, hx, hy⟩ := val_snoc.mp hv
      have hlow : ∀ r ∈ m', r.1 < p := by
        intro r hr
        cases hl : m'.getLast? with
        | none => rw [List.getLast?_eq_none_iff] at hl; subst hl; cases hr
        | some z => exact Nat.lt_of_le_of_lt ((val_last h1 z hl).2.2 r hr) (h4 z hl).1
      have hp : p < n + 1 := h (p, q) (List.mem_append_right _ (List.mem_singleton.mpr rfl))
      rcases Nat.lt_or_eq_of_le (Nat.le_of_lt_succ hp) with hpn | hpn
      · left
        refine ih (Nat.le_of_lt hn) _ hv fun r hr => ?_
        rcases List.mem_append.mp hr with hr | hr
        · exact Nat.lt_trans (hlow r hr) hpn
        · cases List.mem_singleton.mp hr; exact hpn
      · subst hpn
        right
        refine List.mem_flatMap.mpr ⟨m', ih (Nat.le_of_lt hn) m' h1 hlow, mem_more.mpr ⟨q, ⟨some_lt hy, hx.trans hy.symm, ?_⟩, rfl⟩⟩
        cases hl : m'.getLast? with
        | none => left; exact List.getLast?_eq_none_iff.mp hl
        | some z => right; exact decide_eq_true (h4 z hl).2

theorem first_longest (a b : List α) : pickBest a.length b.length [] (frontAt a b a.length) = gm 0 0 a b :=
  pickBest_gm a b _ _ (fun m hm => (front_sound a b _ (Nat.le_refl _) m hm).1) trivial
    (.inr (front_complete a b _ (Nat.le_refl _) _ (gm_val a b) fun r hr => (val_lt (gm_val a b) r hr).1))

theorem moreOf_length (a b : List α) (i : Nat) (m : List (Nat × Nat)) : (moreOf a b i m).length ≤ b.length := by
  unfold moreOf
  rw [List.length_map]
  exact Nat.le_trans (List.length_filter_le ..) (by simp)
theorem front_length (a b : List α) : ∀ n, (frontAt a b n).length ≤ (b.length + 1) ^ n
  | 0 => by simp [frontAt]
  | n + 1 => by
    have ih := front_length a b n
    rw [frontAt, List.length_append, List.length_flatMap]
    have : ((frontAt a b n).map fun m => (moreOf a b n m).length).sum ≤ (frontAt a b n).length * b.length := by
      generalize frontAt a b n = l
      induction l with
      | nil => simp
      | cons x l ih =>
        simp only [List.map_cons, List.sum_cons, List.length_cons, Nat.add_mul, Nat.one_mul]
        have := moreOf_length a b n x
        omega
    calc _ ≤ (frontAt a b n).length + (frontAt a b n).length * b.length := by omega
      _ = (frontAt a b n).length * (b.length + 1) := by rw [Nat.mul_add, Nat.mul_one, Nat.add_comm]
      _ ≤ (b.length + 1) ^ n * (b.length + 1) := Nat.mul_le_mul_right _ ih
      _ = _ := (Nat.pow_succ ..).symm
end lcs
end Mine
namespace Mine
set_option linter.unusedSectionVars false
set_option linter.unusedVariables false
inductive Kind where
  | same | ours | theirs | both | conflict
section chunks
variable {α : Type} [DecidableEq α]

abbrev Chunk (α : Type) := Kind × List α × List α × List α
noncomputable def lk (b o t : List α) : Kind := if o = t then .both else if t = b then .ours else if o = b then .theirs else .conflict
noncomputable def ck (b o t : List α) : Kind := if o = b then .theirs else if t = b then .ours else if o = t then .both else .conflict
theorem ck_eq_lk {b o t : List α} (h : ¬ (b = o ∧ o = t)) : ck b o t = lk b o t := by
  unfold ck lk
  by_cases h1 : o = t
  · subst h1
    by_cases h2 : o = b
    · subst h2; exact absurd ⟨rfl, rfl⟩ h
    · simp [h2]
  · by_cases h2 : t = b
    · subst h2
      simp [h1]
    · simp [h1, h2]

/-- the cut [i:j] -/
noncomputable def sl (xs : List α) (i j : Nat) : List α := (xs.drop i).take (j - i)
theorem sl_self (xs : List α) (i : Nat) : sl xs i i = [] := by rw [sl, Nat.sub_self, List.take_zero]
theorem sl_get {xs : List α} {i j : Nat} {x : α} {l : List α} (h : sl xs i j = x :: l) : xs[i]? = some x := by
  have h := congrArg List.head? h
  rw [sl, List.head?_take] at h
  split at h
  · cases h
  · rw [List.head?_drop] at h; exact h
theorem sl_one {xs : List α} {i : Nat} {x : α} (h : xs[i]? = some x) : sl xs i (i + 1) = [x] := by
  obtain ⟨h, e⟩ := List.getElem?_eq_some_iff.mp h
  rw [sl, Nat.add_sub_cancel_left, List.drop_eq_getElem_cons h, e]; rfl
theorem sl_out {xs : List α} {i j : Nat} (h : xs.length ≤ i) : sl xs i j = [] := by rw [sl, List.drop_eq_nil_of_le h, List.take_nil]
theorem sl_add (xs : List α) {i j k : Nat} (h1 : i ≤ j) (h2 : j ≤ k) : sl xs i k = sl xs i j ++ sl xs j k := by
  obtain ⟨d, rfl⟩ := Nat.exists_eq_add_of_le h1
  obtain ⟨e, rfl⟩ := Nat.exists_eq_add_of_le h2
  unfold sl
  rw [Nat.add_sub_cancel_left, Nat.add_sub_cancel_left, Nat.add_assoc, Nat.add_sub_cancel_left, List.take_add, List.drop_drop]
theorem sl_length (xs : List α) {i j : Nat} (h : i ≤ j) (hj : j ≤ xs.length) : (sl xs i j).length = j - i := by
  rw [sl, List.length_take, List.length_drop, Nat.min_eq_left (Nat.sub_le_sub_right hj i)]
theorem sl_all (xs : List α) : sl xs 0 xs.length = xs := by simp [sl]
theorem sl_nil_iff (xs : List α) {i j : Nat} (h : i ≤ j) (hj : j ≤ xs.length) : sl xs i j = [] ↔ i = j := by
  rw [← List.length_eq_zero_iff, sl_length xs h hj]
  exact ⟨fun e => Nat.le_antisymm h (Nat.sub_eq_zero_iff_le.mp e), fun e => e ▸ Nat.sub_self _⟩

noncomputable def flush (run : List α) : List (Chunk α) := if run = [] then [] else [(.same, run, run, run)]

/-- the law's cut, stop by stop -/
noncomputable def LC (base ours theirs : List α) : List α → Nat → Nat → Nat → List (Nat × Nat × Nat) → List (Chunk α)
  | run, _, _, _, [] => flush run
  | run, i, o, t, (p, q, r) :: rest =>
    if sl base i p = [] ∧ sl ours o q = [] ∧ sl theirs t r = [] then LC base ours theirs (run ++ sl base p (p + 1)) (p + 1) (q + 1) (r + 1) rest
    else flush run ++ (lk (sl base i p) (sl ours o q) (sl theirs t r), sl base i p, sl ours o q, sl theirs t r) :: LC base ours theirs (sl base p (p + 1)) (p + 1) (q + 1) (r + 1) rest

noncomputable def stopsFrom (mo mt : Nat → Option Nat) (nb i : Nat) : List (Nat × Nat × Nat) :=
  (List.range' i (nb - i)).filterMap fun p => match mo p, mt p with | some q, some r => some (p, q, r) | _, _ => none
theorem stopsFrom_end {mo mt : Nat → Option Nat} {nb i : Nat} (h : nb ≤ i) : stopsFrom mo mt nb i = [] := by
  rw [stopsFrom, Nat.sub_eq_zero_of_le h]; rfl
theorem range_sub {nb i : Nat} (h : i < nb) : List.range' i (nb - i) = i :: List.range' (i + 1) (nb - (i + 1)) := by
  obtain ⟨d, rfl⟩ := Nat.exists_eq_add_of_le h
  rw [Nat.add_sub_cancel_left, Nat.succ_add, Nat.succ_sub (Nat.le_add_right i d), Nat.add_sub_cancel_left]; rfl
theorem stopsFrom_some {mo mt : Nat → Option Nat} {nb i q r : Nat} (h : i < nb) (h1 : mo i = some q) (h2 : mt i = some r) : stopsFrom mo mt nb i = (i, q, r) :: stopsFrom mo mt nb (i + 1) := by
  rw [stopsFrom, range_sub h, List.filterMap_cons]
  simp only [h1, h2]; rfl
theorem stopsFrom_none {mo mt : Nat → Option Nat} {nb i : Nat} (h : i < nb) (h1 : ∀ q r, mo i = some q → mt i = some r → False) : stopsFrom mo mt nb i = stopsFrom mo mt nb (i + 1) := by
  rw [stopsFrom, range_sub h, List.filterMap_cons]
  split
  · rfl
  · next x e =>
    split at e
    · next q r e1 e2 => exact (h1 q r e1 e2).elim
    · cases e

/-- a matching as a map: what the cut needs of it -/
structure MP (a b : List α) (mo : Nat → Option Nat) : Prop where
  rng : ∀ {p q}, mo p = some q → ∃ x, a[p]? = some x ∧ b[q]? = some x
  mono : ∀ {p q p' q'}, mo p = some q → mo p' = some q' → p < p' → q < q'
  start : ∀ {x}, a[0]? = some x → b[0]? = some x → mo 0 = some 0
  nxt : ∀ {p q x}, mo p = some q → a[p + 1]? = some x → b[q + 1]? = some x → mo (p + 1) = some (q + 1)

theorem mem_lookup {l : List (Nat × Nat)} {p q : Nat} (h : l.lookup p = some q) : (p, q) ∈ l := by
  induction l with
  | nil => cases h
  | cons x l ih =>
    obtain ⟨u, v⟩ := x
    rw [List.lookup_cons] at h
    by_cases e : p = u
    · subst e; simp at h; subst h; exact List.mem_cons_self ..
    · have : (p == u) = false := by simpa using e
      rw [this] at h; exact List.mem_cons_of_mem _ (ih h)
theorem val_pairs {a b : List α} {m : List (Nat × Nat)} {p q p' q' : Nat} : ∀ {i j : Nat}, Val a b i j m → (p, q) ∈ m → (p', q') ∈ m → (p < p' → q < q') ∧ (p = p' → q = q') := by
  induction m with
  | nil => intro _ _ _ h; cases h
  | cons w m ih =>
    rintro i j ⟨h1, h2, h3, h4⟩ hp hp'
    cases hp with
    | head =>
      cases hp' with
      | head => exact ⟨fun h => absurd h (Nat.lt_irrefl _), fun _ => rfl⟩
      | tail _ hp' => obtain ⟨_, _, g1, g2⟩ := val_lt h4 _ hp'; exact ⟨fun _ => g2, fun e => absurd g1 (e ▸ Nat.lt_irrefl _)⟩
    | tail _ hp =>
      cases hp' with
      | head => obtain ⟨_, _, g1, g2⟩ := val_lt h4 _ hp; exact ⟨fun h => absurd h (Nat.not_lt_of_gt g1), fun e => absurd g1 (e ▸ Nat.lt_irrefl _)⟩
      | tail _ hp' => exact ih h4 hp hp'
theorem lookup_mem {a b : List α} {m : List (Nat × Nat)} {i j : Nat} (h : Val a b i j m) {p q : Nat} (hm : (p, q) ∈ m) : m.lookup p = some q := by
  cases e : m.lookup p with
  | none =>
    rw [List.lookup_eq_none_iff] at e
    have := e _ hm; simp at this
  | some q' => rw [(val_pairs h (mem_lookup e) hm).2 rfl]
theorem gm_suffix (a b : List α) (p q N : Nat) : ∀ (i j : Nat), a.length + b.length ≤ N + i + j → (p, q) ∈ gm i j (a.drop i) (b.drop j) →
    ∃ pre, gm i j (a.drop i) (b.drop j) = pre ++ (p, q) :: gm (p + 1) (q + 1) (a.drop (p + 1)) (b.drop (q + 1)) := by
  induction N with
  | zero =>
    intro i j hN hm
    rcases Nat.lt_or_ge i a.length with hia | hia
    · rw [List.drop_eq_nil_of_le (as := b) (by omega), gm_nil] at hm; cases hm
    · rw [List.drop_eq_nil_of_le hia, gm] at hm; cases hm
  | succ N ih =>
    intro i j hN
    rcases Nat.lt_or_ge i a.length with hia | hia
    case inr => intro hm; rw [List.drop_eq_nil_of_le hia, gm] at hm; cases hm
    rcases Nat.lt_or_ge j b.length with hjb | hjb
    case inr => intro hm; rw [List.drop_eq_nil_of_le hjb, gm_nil] at hm; cases hm
    have ea : a.drop i = a[i] :: a.drop (i + 1) := List.drop_eq_getElem_cons hia
    have eb : b.drop j = b[j] :: b.drop (j + 1) := List.drop_eq_getElem_cons hjb
    have i10 := ih (i + 1) j (by clear ih ea eb hia hjb; omega)
    have i01 := ih i (j + 1) (by clear ih ea eb hia hjb i10; omega)
    have i11 := ih (i + 1) (j + 1) (by clear ih ea eb hia hjb i10 i01; omega)
    rw [eb] at i10
    rw [ea] at i01
    rw [ea, eb, gm]
    by_cases hxy : a[i] = b[j]
    · rw [if_pos hxy]
      intro hm
      rcases List.mem_cons.mp hm with e | hm
      · cases e; exact ⟨[], rfl⟩
      · obtain ⟨pre, e⟩ := i11 hm
        exact ⟨(i, j) :: pre, congrArg _ e⟩
    · rw [if_neg hxy]
      split
      · exact i10
      · exact i01
theorem gm_head {a b : List α} {i j : Nat} {x : α} (h1 : a[i]? = some x) (h2 : b[j]? = some x) : (i, j) ∈ gm i j (a.drop i) (b.drop j) := by
  obtain ⟨hi, e1⟩ := List.getElem?_eq_some_iff.mp h1
  obtain ⟨hj, e2⟩ := List.getElem?_eq_some_iff.mp h2
  rw [List.drop_eq_getElem_cons hi, List.drop_eq_getElem_cons hj, gm, if_pos (e1.trans e2.symm)]
  exact List.mem_cons_self ..
theorem val_get {a b : List α} {m : List (Nat × Nat)} {p q : Nat} : ∀ {i j : Nat}, Val a b i j m → (p, q) ∈ m → ∃ x, a[p]? = some x ∧ b[q]? = some x := by
  induction m with
  | nil => intro _ _ _ h; cases h
  | cons w m ih =>
    rintro i j ⟨h1, h2, h3, h4⟩ hp
    cases hp with
    | head => exact h3
    | tail _ h => exact ih h4 h
theorem gm_MP (a b : List α) : MP a b (fun p => (gm 0 0 a b).lookup p) where
  rng h := val_get (gm_val a b) (mem_lookup h)
  mono h h' hlt := (val_pairs (gm_val a b) (mem_lookup h) (mem_lookup h')).1 hlt
  start h1 h2 := lookup_mem (gm_val a b) (gm_head h1 h2)
  nxt {p q x} h h1 h2 := by
    refine lookup_mem (gm_val a b) ?_
    obtain ⟨pre, e⟩ := gm_suffix a b p q _ 0 0 (Nat.le_refl _) (mem_lookup h)
    rw [List.drop_zero, List.drop_zero] at e
    rw [e]
    exact List.mem_append_right _ (List.mem_cons_of_mem _ (gm_head h1 h2))

variable {base ours theirs : List α} {mo mt : Nat → Option Nat}

noncomputable def Pass (mo mt : Nat → Option Nat) (i o t : Nat) : Prop := (i = 0 ∧ o = 0 ∧ t = 0) ∨ ∃ i' o' t', i = i' + 1 ∧ o = o' + 1 ∧ t = t' + 1 ∧ mo i' = some o' ∧ mt i' = some t'

structure InvS (base ours theirs : List α) (mo mt : Nat → Option Nat) (i o t : Nat) : Prop where
  hi : i ≤ base.length
  ho : o ≤ ours.length
  ht : t ≤ theirs.length
  lo : ∀ {p q}, i ≤ p → mo p = some q → o ≤ q
  lt : ∀ {p r}, i ≤ p → mt p = some r → t ≤ r
  pass : Pass mo mt i o t ∨ (mo i = some o ∧ mt i = some t) ∨ (i = base.length ∧ o = ours.length ∧ t = theirs.length)

noncomputable abbrev stopsEnd (base ours theirs : List α) (mo mt : Nat → Option Nat) (i : Nat) : List (Nat × Nat × Nat) := stopsFrom mo mt base.length i ++ [(base.length, ours.length, theirs.length)]

theorem InvS.zero : InvS base ours theirs mo mt 0 0 0 := ⟨Nat.zero_le _, Nat.zero_le _, Nat.zero_le _, fun _ _ => Nat.zero_le _, fun _ _ => Nat.zero_le _, .inl (.inl ⟨rfl, rfl, rfl⟩)⟩

theorem LC_end (i o t : Nat) (hi : base.length = i) (ho : ours.length = o) (ht : theirs.length = t) (run : List α) : LC base ours theirs run i o t (stopsEnd base ours theirs mo mt i) = flush run := by
  subst hi ho ht
  rw [stopsEnd, stopsFrom_end (Nat.le_refl _), List.nil_append, LC, if_pos ⟨sl_self .., sl_self .., sl_self ..⟩, sl_out (Nat.le_refl _), List.append_nil, LC]

theorem scan (mo mt : Nat → Option Nat) (nb N : Nat) : ∀ k, nb ≤ k + N → (∃ p q r rest, stopsFrom mo mt nb k = (p, q, r) :: rest ∧ k ≤ p ∧ p < nb ∧ mo p = some q ∧ mt p = some r) ∨ stopsFrom mo mt nb k = [] := by
  induction N with
  | zero => intro k hk; exact .inr (stopsFrom_end hk)
  | succ N ih =>
    intro k hk
    rcases Nat.lt_or_ge k nb with hlt | hlt
    case inr => exact .inr (stopsFrom_end hlt)
    by_cases hb : ∃ q r, mo k = some q ∧ mt k = some r
    · obtain ⟨q, r, hq, hr⟩ := hb
      exact .inl ⟨k, q, r, _, stopsFrom_some hlt hq hr, Nat.le_refl _, hlt, hq, hr⟩
    · rw [stopsFrom_none hlt fun q r h1 h2 => hb ⟨q, r, h1, h2⟩]
      exact (ih (k + 1) (by rw [Nat.add_assoc, Nat.add_comm 1]; exact hk)).imp (fun ⟨p, q, r, rest, e, h1, h2⟩ => ⟨p, q, r, rest, e, Nat.le_of_succ_le h1, h2⟩) id
theorem flush_nil : flush ([] : List α) = [] := if_pos rfl
/-- a run that does not go on is put out -/
theorem LC_flush (H1 : MP base ours mo) (H2 : MP base theirs mt) {i o t : Nat} (I : InvS base ours theirs mo mt i o t) (run : List α) (hn : ¬ (i < base.length ∧ mo i = some o ∧ mt i = some t)) :
    LC base ours theirs run i o t (stopsEnd base ours theirs mo mt i) = flush run ++ LC base ours theirs [] i o t (stopsEnd base ours theirs mo mt i) := by
  by_cases hend : i = base.length ∧ o = ours.length ∧ t = theirs.length
  · obtain ⟨rfl, rfl, rfl⟩ := hend
    rw [LC_end _ _ _ rfl rfl rfl, LC_end _ _ _ rfl rfl rfl, flush_nil, List.append_nil]
  · -- the next stop does not stand here
    have key : ∀ p q r rest, stopsEnd base ours theirs mo mt i = (p, q, r) :: rest → ¬ (sl base i p = [] ∧ sl ours o q = [] ∧ sl theirs t r = []) →
        LC base ours theirs run i o t (stopsEnd base ours theirs mo mt i) = flush run ++ LC base ours theirs [] i o t (stopsEnd base ours theirs mo mt i) := by
      intro p q r rest e hg
      rw [e, LC, if_neg hg, LC, if_neg hg, flush_nil, List.nil_append]
    rcases scan mo mt base.length base.length i (Nat.le_add_left _ _) with ⟨p, q, r, rest, e, h1, h2, h3, h4⟩ | e
    · refine key p q r (rest ++ [(base.length, ours.length, theirs.length)]) (by rw [stopsEnd, e]; rfl) ?_
      obtain ⟨x, hx1, hx2⟩ := H1.rng h3
      obtain ⟨y, hy1, hy2⟩ := H2.rng h4
      rw [sl_nil_iff _ h1 (Nat.le_of_lt h2), sl_nil_iff _ (I.lo h1 h3) (Nat.le_of_lt (some_lt hx2)), sl_nil_iff _ (I.lt h1 h4) (Nat.le_of_lt (some_lt hy2))]
      rintro ⟨rfl, rfl, rfl⟩
      exact hn ⟨h2, h3, h4⟩
    · refine key _ _ _ [] (by rw [stopsEnd, e]; rfl) ?_
      rw [sl_nil_iff _ I.hi (Nat.le_refl _), sl_nil_iff _ I.ho (Nat.le_refl _), sl_nil_iff _ I.ht (Nat.le_refl _)]
      exact hend

/-- one stop that stands here -/
theorem LC_step {i o t : Nat} (run : List α) (hi : i < base.length) (h1 : mo i = some o) (h2 : mt i = some t) :
    LC base ours theirs run i o t (stopsEnd base ours theirs mo mt i) = LC base ours theirs (run ++ sl base i (i + 1)) (i + 1) (o + 1) (t + 1) (stopsEnd base ours theirs mo mt (i + 1)) := by
  rw [stopsEnd, stopsFrom_some hi h1 h2, List.cons_append, LC, if_pos ⟨sl_self .., sl_self .., sl_self ..⟩]
theorem InvS.step (H1 : MP base ours mo) (H2 : MP base theirs mt) {i o t : Nat} (h1 : mo i = some o) (h2 : mt i = some t) : InvS base ours theirs mo mt (i + 1) (o + 1) (t + 1) := by
  obtain ⟨x, hx1, hx2⟩ := H1.rng h1
  obtain ⟨y, hy1, hy2⟩ := H2.rng h2
  exact ⟨some_lt hx1, some_lt hx2, some_lt hy2, fun hp hq => H1.mono h1 hq hp, fun hp hr => H2.mono h2 hr hp, .inl (.inr ⟨i, o, t, rfl, rfl, rfl, h1, h2⟩)⟩
theorem sl_grow {xs : List α} {i n : Nat} {x : α} (h : xs[i]? = some x) : sl xs i (i + (n + 1)) = x :: sl xs (i + 1) (i + 1 + n) := by
  rw [Nat.add_comm n 1, ← Nat.add_assoc, sl_add xs (Nat.le_succ i) (Nat.le_add_right _ n), sl_one h]; rfl

theorem LC_run (H1 : MP base ours mo) (H2 : MP base theirs mt) (n : Nat) : ∀ (i o t : Nat) (run : List α), (∀ k, k < n → i + k < base.length ∧ mo (i + k) = some (o + k) ∧ mt (i + k) = some (t + k)) →
    LC base ours theirs run i o t (stopsEnd base ours theirs mo mt i) = LC base ours theirs (run ++ sl base i (i + n)) (i + n) (o + n) (t + n) (stopsEnd base ours theirs mo mt (i + n)) ∧
    sl ours o (o + n) = sl base i (i + n) ∧ sl theirs t (t + n) = sl base i (i + n) := by
  induction n with
  | zero => intro i o t run _; simp only [Nat.add_zero, sl_self, List.append_nil, and_self]
  | succ n ih =>
    intro i o t run h
    obtain ⟨(h0 : i < base.length), (h1 : mo i = some o), (h2 : mt i = some t)⟩ := h 0 (Nat.succ_pos _)
    have ad : ∀ x k : Nat, x + (k + 1) = x + 1 + k := fun x k => by rw [Nat.add_comm k 1, Nat.add_assoc]
    obtain ⟨e1, e2, e3⟩ := ih (i + 1) (o + 1) (t + 1) (run ++ sl base i (i + 1)) (fun k hk => by
      have := h (k + 1) (Nat.succ_lt_succ hk)
      rw [ad i, ad o, ad t] at this; exact this)
    obtain ⟨x, hx1, hx2⟩ := H1.rng h1
    obtain ⟨y, hy1, hy2⟩ := H2.rng h2
    have hxy : x = y := Option.some.inj (hx1.symm.trans hy1)
    refine ⟨?_, ?_, ?_⟩
    · rw [LC_step run h0 h1 h2, e1, List.append_assoc, ← sl_add base (Nat.le_succ i) (Nat.le_add_right _ n), ← ad, ← ad, ← ad]
    · rw [sl_grow (x := x) hx2, sl_grow (x := x) hx1, e2]
    · rw [sl_grow (x := y) hy2, sl_grow (x := y) hy1, e3]

/-- the loop's turn that puts out a run -/
theorem turn_run (H1 : MP base ours mo) (H2 : MP base theirs mt) {i o t n : Nat} (hn : 0 < n) (I : InvS base ours theirs mo mt i o t)
    (h : ∀ k, k < n → i + k < base.length ∧ mo (i + k) = some (o + k) ∧ mt (i + k) = some (t + k)) (hstop : ¬ (i + n < base.length ∧ mo (i + n) = some (o + n) ∧ mt (i + n) = some (t + n))) :
    LC base ours theirs [] i o t (stopsEnd base ours theirs mo mt i) =
      (.same, sl base i (i + n), sl ours o (o + n), sl theirs t (t + n)) :: LC base ours theirs [] (i + n) (o + n) (t + n) (stopsEnd base ours theirs mo mt (i + n)) ∧
    InvS base ours theirs mo mt (i + n) (o + n) (t + n) := by
  obtain ⟨e1, e2, e3⟩ := LC_run H1 H2 n i o t [] h
  obtain ⟨k, rfl⟩ : ∃ k, n = k + 1 := Nat.exists_eq_succ_of_ne_zero (Nat.ne_of_gt hn)
  have hk := h k (Nat.lt_succ_self k)
  have I' : InvS base ours theirs mo mt (i + (k + 1)) (o + (k + 1)) (t + (k + 1)) := InvS.step H1 H2 hk.2.1 hk.2.2
  refine ⟨?_, I'⟩
  obtain ⟨x, hx, _⟩ := H1.rng (h 0 hn).2.1
  have hne : sl base i (i + (k + 1)) ≠ [] := by rw [sl_grow (i := i) hx]; exact List.cons_ne_nil _ _
  rw [e1, List.nil_append, LC_flush H1 H2 I' _ hstop, e2, e3, flush, if_neg hne]; rfl

/-- the loop's turn that puts out a gap -/
theorem turn_gap (H1 : MP base ours mo) (H2 : MP base theirs mt) {i o t ie oe te : Nat} (I : InvS base ours theirs mo mt i o t) (hn : ¬ (i < base.length ∧ mo i = some o ∧ mt i = some t))
    (hgo : i < base.length ∨ o < ours.length ∨ t < theirs.length) (hie : i ≤ ie) (hskip : ∀ p, i ≤ p → p < ie → ∀ q r, mo p = some q → mt p = some r → False)
    (hend : (ie < base.length ∧ mo ie = some oe ∧ mt ie = some te) ∨ (ie = base.length ∧ oe = ours.length ∧ te = theirs.length)) :
    LC base ours theirs [] i o t (stopsEnd base ours theirs mo mt i) =
      (ck (sl base i ie) (sl ours o oe) (sl theirs t te), sl base i ie, sl ours o oe, sl theirs t te) :: LC base ours theirs [] ie oe te (stopsEnd base ours theirs mo mt ie) ∧
    InvS base ours theirs mo mt ie oe te ∧ o ≤ oe ∧ t ≤ te ∧ (i < ie ∨ o < oe ∨ t < te) := by
  have hb : ie ≤ base.length := hend.elim (fun h => Nat.le_of_lt h.1) fun h => Nat.le_of_eq h.1
  have hsk : stopsFrom mo mt base.length i = stopsFrom mo mt base.length ie := by
    obtain ⟨d, rfl⟩ := Nat.exists_eq_add_of_le hie
    clear hend hie hn hgo I
    induction d generalizing i with
    | zero => rfl
    | succ d ih =>
      have ad : i + (d + 1) = i + 1 + d := by rw [Nat.add_comm d 1, Nat.add_assoc]
      have hlt : i < i + (d + 1) := Nat.lt_add_of_pos_right (Nat.succ_pos d)
      rw [stopsFrom_none (Nat.lt_of_lt_of_le hlt hb) (hskip i (Nat.le_refl _) hlt)]
      rw [ad] at hskip hb ⊢
      exact ih (fun p h1 h2 => hskip p (Nat.le_of_succ_le h1) h2) hb
  have hoe : o ≤ oe ∧ oe ≤ ours.length ∧ t ≤ te ∧ te ≤ theirs.length := by
    rcases hend with ⟨h0, h1, h2⟩ | ⟨h0, h1, h2⟩
    · obtain ⟨x, hx1, hx2⟩ := H1.rng h1
      obtain ⟨y, hy1, hy2⟩ := H2.rng h2
      exact ⟨I.lo hie h1, Nat.le_of_lt (some_lt hx2), I.lt hie h2, Nat.le_of_lt (some_lt hy2)⟩
    · subst h1 h2; exact ⟨I.ho, Nat.le_refl _, I.ht, Nat.le_refl _⟩
  obtain ⟨ho1, ho2, ht1, ht2⟩ := hoe
  have hno : ¬ (i = ie ∧ o = oe ∧ t = te) := by
    rintro ⟨rfl, rfl, rfl⟩
    rcases hend with h | ⟨rfl, rfl, rfl⟩
    · exact hn h
    · exact hgo.elim (Nat.lt_irrefl _) fun h => h.elim (Nat.lt_irrefl _) (Nat.lt_irrefl _)
  have hprog : i < ie ∨ o < oe ∨ t < te := by
    rcases Nat.lt_or_eq_of_le hie with h | h1
    · exact .inl h
    rcases Nat.lt_or_eq_of_le ho1 with h | h2
    · exact .inr (.inl h)
    rcases Nat.lt_or_eq_of_le ht1 with h | h3
    · exact .inr (.inr h)
    exact absurd ⟨h1, h2, h3⟩ hno
  have hg : ¬ (sl base i ie = [] ∧ sl ours o oe = [] ∧ sl theirs t te = []) := by
    rw [sl_nil_iff _ hie hb, sl_nil_iff _ ho1 ho2, sl_nil_iff _ ht1 ht2]; exact hno
  -- the three sides do not all agree
  have hkind : ck (sl base i ie) (sl ours o oe) (sl theirs t te) = lk (sl base i ie) (sl ours o oe) (sl theirs t te) := by
    refine ck_eq_lk ?_
    rintro ⟨e1, e2⟩
    cases hc : sl base i ie with
    | nil => exact hg ⟨hc, e1.symm.trans hc, e2.symm.trans (e1.symm.trans hc)⟩
    | cons x l =>
      have g1 := sl_get hc
      have g2 := sl_get (e1.symm.trans hc)
      have g3 := sl_get (e2.symm.trans (e1.symm.trans hc))
      refine hn ⟨some_lt g1, ?_⟩
      rcases I.pass with (⟨rfl, rfl, rfl⟩ | ⟨i', o', t', rfl, rfl, rfl, m1, m2⟩) | h | h
      · exact ⟨H1.start g1 g2, H2.start g1 g3⟩
      · exact ⟨H1.nxt m1 g1 g2, H2.nxt m2 g1 g3⟩
      · exact h
      · exact absurd (some_lt g1) (h.1 ▸ Nat.lt_irrefl _)
  have hlast : ∀ {ys : List α} {mo : Nat → Option Nat} (H : MP base ys mo) {oe : Nat}, ((ie < base.length ∧ mo ie = some oe) ∨ ie = base.length) → ∀ {p q}, ie ≤ p → mo p = some q → oe ≤ q := by
    intro ys mo H oe hend p q hp hq
    rcases hend with ⟨h0, h1⟩ | h0
    · rcases Nat.lt_or_eq_of_le hp with e | e
      · exact Nat.le_of_lt (H.mono h1 hq e)
      · subst e; exact Nat.le_of_eq (Option.some.inj (h1.symm.trans hq))
    · obtain ⟨x, hx, _⟩ := H.rng hq
      exact absurd (some_lt hx) (Nat.not_lt.mpr (h0 ▸ hp))
  refine ⟨?_, ⟨hb, ho2, ht2, hlast H1 (hend.imp (fun h => ⟨h.1, h.2.1⟩) (·.1)), hlast H2 (hend.imp (fun h => ⟨h.1, h.2.2⟩) (·.1)), ?_⟩, ho1, ht1, hprog⟩
  · rw [hkind]
    rcases hend with ⟨h0, h1, h2⟩ | ⟨h0, h1, h2⟩
    · rw [stopsEnd, hsk, stopsFrom_some h0 h1 h2, List.cons_append, LC, if_neg hg, LC_step [] h0 h1 h2, flush_nil]; rfl
    · subst h0 h1 h2
      rw [LC_end _ _ _ rfl rfl rfl, stopsEnd, hsk, stopsFrom_end (Nat.le_refl _), List.nil_append, LC, if_neg hg, sl_out (Nat.le_refl _), LC]; rfl
  · rcases hend with ⟨h0, h1, h2⟩ | ⟨h0, h1, h2⟩
    · exact .inr (.inl ⟨h1, h2⟩)
    · exact .inr (.inr ⟨h0, h1, h2⟩)
end chunks
end Mine
namespace Mine
set_option linter.unusedSectionVars false
set_option linter.unusedVariables false
section merge
variable {α : Type} [DecidableEq α]

/-- what holds of a chunk -/
noncomputable def ChOk : Chunk α → Prop
  | (.same, b, o, t) => o = b ∧ t = b
  | (.both, _, o, t) => o = t
  | (.ours, b, _, t) => t = b
  | (.theirs, b, o, _) => o = b
  | (.conflict, _, _, _) => True
theorem lk_ok (b o t : List α) : ChOk (lk b o t, b, o, t) := by
  by_cases h1 : o = t
  · rw [show lk b o t = .both from if_pos h1]; exact h1
  · by_cases h2 : t = b
    · rw [show lk b o t = .ours from (if_neg h1).trans (if_pos h2)]; exact h2
    · by_cases h3 : o = b
      · rw [show lk b o t = .theirs from (if_neg h1).trans ((if_neg h2).trans (if_pos h3))]; exact h3
      · rw [show lk b o t = .conflict from (if_neg h1).trans ((if_neg h2).trans (if_neg h3))]; trivial
theorem flush_ok (run : List α) : ∀ c ∈ flush run, ChOk c := by
  intro c hc
  unfold flush at hc
  split at hc
  · cases hc
  · simp at hc; subst hc; exact ⟨rfl, rfl⟩
theorem LC_ok (base ours theirs : List α) (st : List (Nat × Nat × Nat)) : ∀ (run : List α) (i o t : Nat), ∀ c ∈ LC base ours theirs run i o t st, ChOk c := by
  induction st with
  | nil => intro run _ _ _ c hc; exact flush_ok run c hc
  | cons w rest ih =>
    obtain ⟨p, q, r⟩ := w
    intro run i o t c hc
    rw [LC] at hc
    split at hc
    · exact ih _ _ _ _ c hc
    · rcases List.mem_append.mp hc with hc | hc
      · exact flush_ok run c hc
      · rcases List.mem_cons.mp hc with rfl | hc
        · exact lk_ok _ _ _
        · exact ih _ _ _ _ c hc

/-- the stops lie in order and match -/
noncomputable def Cons3 (base ours theirs : List α) : Nat → Nat → Nat → List (Nat × Nat × Nat) → Prop
  | i, o, t, [] => base.length ≤ i ∧ ours.length ≤ o ∧ theirs.length ≤ t
  | i, o, t, (p, q, r) :: rest => i ≤ p ∧ o ≤ q ∧ t ≤ r ∧ sl ours q (q + 1) = sl base p (p + 1) ∧ sl theirs r (r + 1) = sl base p (p + 1) ∧ Cons3 base ours theirs (p + 1) (q + 1) (r + 1) rest

theorem sl_drop (xs : List α) {i j : Nat} (h : i ≤ j) : xs.drop i = sl xs i j ++ xs.drop j := by
  obtain ⟨d, rfl⟩ := Nat.exists_eq_add_of_le h
  rw [sl, Nat.add_sub_cancel_left, ← List.drop_drop, List.take_append_drop]

theorem flush_b (run : List α) : (flush run).flatMap (fun c => c.2.1) = run ∧ (flush run).flatMap (fun c => c.2.2.1) = run ∧ (flush run).flatMap (fun c => c.2.2.2) = run := by
  unfold flush; split <;> simp_all
theorem LC_parts (base ours theirs : List α) (st : List (Nat × Nat × Nat)) : ∀ (run : List α) (i o t : Nat), Cons3 base ours theirs i o t st →
    (LC base ours theirs run i o t st).flatMap (fun c => c.2.1) = run ++ base.drop i ∧ (LC base ours theirs run i o t st).flatMap (fun c => c.2.2.1) = run ++ ours.drop o ∧
    (LC base ours theirs run i o t st).flatMap (fun c => c.2.2.2) = run ++ theirs.drop t := by
  induction st with
  | nil =>
    rintro run i o t ⟨h1, h2, h3⟩
    rw [LC, List.drop_eq_nil_of_le h1, List.drop_eq_nil_of_le h2, List.drop_eq_nil_of_le h3, List.append_nil]
    exact flush_b run
  | cons w rest ih =>
    obtain ⟨p, q, r⟩ := w
    rintro run i o t ⟨h1, h2, h3, h4, h5, h6⟩
    rw [LC, sl_drop base h1, sl_drop base (Nat.le_succ p), sl_drop ours h2, sl_drop ours (Nat.le_succ q), sl_drop theirs h3, sl_drop theirs (Nat.le_succ r), h4, h5]
    split
    · rename_i hg
      obtain ⟨g1, g2, g3⟩ := hg
      obtain ⟨k1, k2, k3⟩ := ih (run ++ sl base p (p + 1)) _ _ _ h6
      rw [k1, k2, k3, g1, g2, g3]
      simp only [List.nil_append, List.append_assoc, and_self]
    · obtain ⟨k1, k2, k3⟩ := ih (sl base p (p + 1)) _ _ _ h6
      obtain ⟨f1, f2, f3⟩ := flush_b run
      simp only [List.flatMap_append, List.flatMap_cons, k1, k2, k3, f1, f2, f3, and_self]

theorem stops_cons3 {base ours theirs : List α} {mo mt : Nat → Option Nat} (H1 : MP base ours mo) (H2 : MP base theirs mt) (N : Nat) : ∀ (i o t : Nat), base.length ≤ i + N → i ≤ base.length → o ≤ ours.length → t ≤ theirs.length →
    (∀ p q, i ≤ p → mo p = some q → o ≤ q) → (∀ p r, i ≤ p → mt p = some r → t ≤ r) → Cons3 base ours theirs i o t (stopsEnd base ours theirs mo mt i) := by
  have fin : ∀ i o t, base.length ≤ i → i ≤ base.length → o ≤ ours.length → t ≤ theirs.length → Cons3 base ours theirs i o t (stopsEnd base ours theirs mo mt i) := by
    intro i o t e hi ho ht
    rw [stopsEnd, stopsFrom_end e, List.nil_append]
    refine ⟨hi, ho, ht, ?_, ?_, Nat.le_succ _, Nat.le_succ _, Nat.le_succ _⟩
    · rw [sl_out (Nat.le_refl _), sl_out (Nat.le_refl _)]
    · rw [sl_out (Nat.le_refl _), sl_out (Nat.le_refl _)]
  -- a later start is an earlier start
  have back : ∀ st i o t x, Cons3 base ours theirs (i + 1) o t (st ++ [x]) → Cons3 base ours theirs i o t (st ++ [x]) := by
    intro st i o t x h
    cases st with
    | nil => exact ⟨Nat.le_of_succ_le h.1, h.2⟩
    | cons x st => exact ⟨Nat.le_of_succ_le h.1, h.2⟩
  induction N with
  | zero => intro i o t hN hi ho ht _ _; exact fin i o t hN hi ho ht
  | succ N ih =>
    intro i o t hN hi ho ht h1 h2
    have hN : base.length ≤ i + 1 + N := by rw [Nat.add_assoc, Nat.add_comm 1]; exact hN
    rcases Nat.lt_or_ge i base.length with hlt | hlt
    case inr => exact fin i o t hlt hi ho ht
    by_cases hb : ∃ q r, mo i = some q ∧ mt i = some r
    · obtain ⟨q, r, hq, hr⟩ := hb
      obtain ⟨x, hx1, hx2⟩ := H1.rng hq
      obtain ⟨y, hy1, hy2⟩ := H2.rng hr
      rw [stopsEnd, stopsFrom_some hlt hq hr]
      refine ⟨Nat.le_refl _, h1 i q (Nat.le_refl _) hq, h2 i r (Nat.le_refl _) hr, ?_, ?_, ?_⟩
      · rw [sl_one hx2, sl_one hx1]
      · rw [sl_one hy2, sl_one hy1]
      · exact ih (i + 1) (q + 1) (r + 1) hN hlt (some_lt hx2) (some_lt hy2) (fun p q' hp hq' => H1.mono hq hq' hp) (fun p r' hp hr' => H2.mono hr hr' hp)
    · have := ih (i + 1) o t hN hlt ho ht (fun p q hp hq => h1 p q (Nat.le_of_succ_le hp) hq) (fun p r hp hr => h2 p r (Nat.le_of_succ_le hp) hr)
      rw [stopsEnd, stopsFrom_none hlt fun q r h1 h2 => hb ⟨q, r, h1, h2⟩]
      exact back _ _ _ _ _ this

/-- the lines of one merged chunk, as the law puts them -/
noncomputable def mergeL (m1 m2 m3 : α) : Chunk α → List α
  | (.conflict, _, o, t) => m1 :: (o ++ m2 :: (t ++ [m3]))
  | (.theirs, _, _, t) => t
  | (_, _, o, _) => o
/-- what the law adds to the balance for one chunk -/
noncomputable def corr (x : α) : Chunk α → Int
  | (.conflict, b, _, _) => b.count x
  | (.both, b, o, _) => (b.count x : Int) - o.count x
  | _ => 0
theorem count_ne {m x : α} (h : x ≠ m) (l : List α) : (m :: l).count x = l.count x := List.count_cons_of_ne (fun e => h e.symm)
theorem balance (m1 m2 m3 x : α) (h1 : x ≠ m1) (h2 : x ≠ m2) (h3 : x ≠ m3) (cs : List (Chunk α)) : (∀ c ∈ cs, ChOk c) →
    ((cs.flatMap (mergeL m1 m2 m3)).count x : Int) = ((cs.flatMap (fun c => c.2.2.1)).count x : Int) + ((cs.flatMap (fun c => c.2.2.2)).count x : Int) - ((cs.flatMap (fun c => c.2.1)).count x : Int) + (cs.map (corr x)).sum := by
  induction cs with
  | nil => intro _; rfl
  | cons c cs ih =>
    intro h
    have ih := ih fun c hc => h c (List.mem_cons_of_mem _ hc)
    have hc := h c (List.mem_cons_self ..)
    clear h
    rw [List.flatMap_cons, List.flatMap_cons, List.flatMap_cons, List.flatMap_cons, List.count_append, List.count_append, List.count_append, List.count_append, List.map_cons, List.sum_cons, Int.natCast_add, Int.natCast_add, Int.natCast_add, Int.natCast_add]
    have key : ∀ {A B C D S a b c d e : Int}, A = B + C - D + S → a = b + c - d + e → a + A = b + B + (c + C) - (d + D) + (e + S) := by intros; omega
    refine key ih ?_
    obtain ⟨k, b, o, t⟩ := c
    clear ih key
    cases k with
    | same => obtain ⟨rfl, rfl⟩ := hc; show (_ : Int) = _ + _ - _ + 0; rw [Int.add_zero, Int.add_sub_cancel]; rfl
    | ours => cases (show t = b from hc); show (_ : Int) = _ + _ - _ + 0; rw [Int.add_zero, Int.add_sub_cancel]; rfl
    | theirs => cases (show o = b from hc); show (_ : Int) = _ + _ - _ + 0; rw [Int.add_zero, Int.add_comm, Int.add_sub_cancel]; rfl
    | both => cases (show o = t from hc); simp only [mergeL, corr]; omega
    | conflict => simp only [mergeL, corr, count_ne h1, count_ne h2, count_ne h3, List.count_append, List.count_nil]; omega
end merge
end Mine
namespace Mine
open PySem PyProof.Rows
set_option linter.unusedVariables false
set_option linter.unusedSectionVars false

/-! ### data and how a heap bears it -/

/-- an int-keyed table -/
noncomputable def imap (es : List (Int × Int)) : PyData := .dict (es.map fun p => (.int p.1, .int p.2))

noncomputable def IVals : List (Int × Value) → List (Int × Int) → Prop
  | [], [] => True
  | (k, v) :: kvs, (k', i) :: es => k = k' ∧ (∃ t, v = .int i t) ∧ IVals kvs es
  | [], _ :: _ => False
  | _ :: _, [] => False
noncomputable def IMapAt (prog : Program) (w : World) (h : Heap) (a : Addr) (es : List (Int × Int)) : Prop :=
  (a == sysModules) = false ∧ ∃ kvs, h.DictOf (intKind prog w) a kvs ∧ IVals kvs es
theorem IVals.ind {motive : List (Int × Value) → List (Int × Int) → Prop} (nil : motive [] []) (cons : ∀ k t i kvs es, IVals kvs es → motive kvs es → motive ((k, .int i t) :: kvs) ((k, i) :: es)) {kvs : List (Int × Value)} : ∀ {es : List (Int × Int)}, IVals kvs es → motive kvs es := by
  induction kvs with
  | nil =>
    intro es x
    cases es with
    | nil => exact nil
    | cons _ _ => cases x
  | cons q kvs ih =>
    intro es x
    cases es with
    | nil => cases x
    | cons p es =>
      obtain ⟨k, v⟩ := q
      obtain ⟨k', i⟩ := p
      obtain ⟨e, ⟨t, ht⟩, r⟩ := x
      subst e ht
      exact cons _ _ _ _ _ r (ih r)
theorem IVals.snoc {kvs : List (Int × Value)} {es : List (Int × Int)} {k i : Int} {t : Tok} (x : IVals kvs es) : IVals (kvs ++ [(k, .int i t)]) (es ++ [(k, i)]) :=
  x.ind (motive := fun kvs es => IVals (kvs ++ [(k, Value.int i t)]) (es ++ [(k, i)])) ⟨rfl, ⟨t, rfl⟩, trivial⟩ fun _ t _ _ _ _ ih => ⟨rfl, ⟨t, rfl⟩, ih⟩
theorem IVals.length {kvs : List (Int × Value)} {es : List (Int × Int)} (x : IVals kvs es) : kvs.length = es.length :=
  x.ind (motive := fun kvs es => kvs.length = es.length) rfl fun _ _ _ _ _ _ ih => congrArg (· + 1) ih
theorem IVals.keys {kvs : List (Int × Value)} {es : List (Int × Int)} (x : IVals kvs es) : kvs.map (·.1) = es.map (·.1) :=
  x.ind (motive := fun kvs es => kvs.map (·.1) = es.map (·.1)) rfl fun k _ _ _ _ _ ih => congrArg (k :: ·) ih
theorem IVals.look {kvs : List (Int × Value)} {es : List (Int × Int)} (x : IVals kvs es) : (∀ k, es.lookup k = none → valueAt kvs k = none) ∧ ∀ k v, es.lookup k = some v → ∃ t, valueAt kvs k = some (.int v t) := by
  refine x.ind (motive := fun kvs es => (∀ k, es.lookup k = none → valueAt kvs k = none) ∧ ∀ k v, es.lookup k = some v → ∃ t, valueAt kvs k = some (.int v t)) ⟨fun _ _ => rfl, fun k v e => by cases e⟩ fun k t i kvs es _ ih => ?_
  have neg : ∀ x, ¬ x = k → valueAt ((k, .int i t) :: kvs) x = valueAt kvs x ∧ List.lookup x ((k, i) :: es) = es.lookup x := fun x e => by
    have : (x == k) = false := by simpa using e
    exact ⟨by unfold valueAt; rw [List.find?_cons_of_neg (by simpa using fun h : k = x => e h.symm)], by rw [List.lookup_cons, this]⟩
  have pos : valueAt ((k, .int i t) :: kvs) k = some (.int i t) ∧ List.lookup k ((k, i) :: es) = some i :=
    ⟨by unfold valueAt; rw [List.find?_cons_of_pos (by simp)]; rfl, by rw [List.lookup_cons, beq_self_eq_true]⟩
  constructor
  · intro x hx
    by_cases e : x = k
    · subst e; rw [pos.2] at hx; cases hx
    · rw [(neg x e).2] at hx; rw [(neg x e).1]; exact ih.1 x hx
  · intro x y hx
    by_cases e : x = k
    · subst e; rw [pos.2] at hx; cases hx; exact ⟨t, pos.1⟩
    · rw [(neg x e).2] at hx; rw [(neg x e).1]; exact ih.2 x y hx
theorem IMapAt.look {prog : Program} {w : World} {h : Heap} {a : Addr} {es : List (Int × Int)} (x : IMapAt prog w h a es) :
    (a == sysModules) = false ∧ ∃ f, h.MapOf (intKind prog w) a f ∧ (∀ k, es.lookup k = none → f k = none) ∧ ∀ k v, es.lookup k = some v → ∃ t, f k = some (.int v t) := by
  obtain ⟨h1, kvs, hd, hv⟩ := x
  exact ⟨h1, _, hd.mapOf, hv.look⟩

noncomputable abbrev listObj (vs : Array Value) (n : Nat) : Obj := { cls := .type "list", data := .seq vs n }
noncomputable abbrev tupObj (vs : Array Value) (n : Nat) : Obj := { cls := .type "tuple", data := .seq vs n }

mutual
inductive Rep (prog : Program) (w : World) (mu : Addr → Prop) (h : Heap) : Value → PyData → Prop
  | none : Rep prog w mu h .none .none
  | bool (b : Bool) : Rep prog w mu h (.bool b) (.bool b)
  | int (i : Int) (t : Tok) : Rep prog w mu h (.int i t) (.int i)
  | str (x : Str) (t : Tok) : Rep prog w mu h (.str x t) (.str x)
  | list {a : Addr} {vs : Array Value} {n : Nat} {xs : List PyData} : ¬ mu a → h.get? a = some (listObj vs n) → Reps prog w mu h vs.toList xs → Rep prog w mu h (.ref a) (.list xs)
  | tuple {a : Addr} {vs : Array Value} {n : Nat} {xs : List PyData} : ¬ mu a → h.get? a = some (tupObj vs n) → Reps prog w mu h vs.toList xs → Rep prog w mu h (.ref a) (.tuple xs)
  | imap {a : Addr} (es : List (Int × Int)) : ¬ mu a → IMapAt prog w h a es → Rep prog w mu h (.ref a) (imap es)
inductive Reps (prog : Program) (w : World) (mu : Addr → Prop) (h : Heap) : List Value → List PyData → Prop
  | nil : Reps prog w mu h [] []
  | cons {v : Value} {vs : List Value} {d : PyData} {ds : List PyData} : Rep prog w mu h v d → Reps prog w mu h vs ds → Reps prog w mu h (v :: vs) (d :: ds)
end

section
variable {prog : Program} {w : World} {mu mu' : Addr → Prop} {h h' : Heap}

theorem IMapAt.keep {a : Addr} {es : List (Int × Int)} (x : IMapAt prog w h a es) (hk : ∀ o, h.get? a = some o → h'.get? a = some o) : IMapAt prog w h' a es := by
  obtain ⟨h1, f, ⟨o, es', ep, ho, r⟩, h3⟩ := x
  exact ⟨h1, f, ⟨o, es', ep, hk o ho, r⟩, h3⟩
theorem IMapAt.live {a : Addr} {es : List (Int × Int)} (x : IMapAt prog w h a es) : ∃ o, h.get? a = some o := by
  obtain ⟨_, _, ⟨o, _, _, ho, _⟩, _⟩ := x; exact ⟨o, ho⟩

theorem Rep.mono (hk : ∀ b o, ¬ mu b → h.get? b = some o → h'.get? b = some o ∧ ¬ mu' b) {v : Value} {d : PyData} (x : Rep prog w mu h v d) : Rep prog w mu' h' v d :=
  Rep.rec (motive_1 := fun v d _ => Rep prog w mu' h' v d) (motive_2 := fun vs ds _ => Reps prog w mu' h' vs ds) .none .bool .int .str
    (fun hm hg _ r => .list (hk _ _ hm hg).2 (hk _ _ hm hg).1 r) (fun hm hg _ r => .tuple (hk _ _ hm hg).2 (hk _ _ hm hg).1 r)
    (fun es hm hg => hg.live.elim fun _ ho => .imap es (hk _ _ hm ho).2 (hg.keep fun _ ho => (hk _ _ hm ho).1)) .nil (fun _ _ r rs => .cons r rs) x
theorem Reps.ind {motive : List Value → List PyData → Prop} (nil : motive [] []) (cons : ∀ {v : Value} {vs : List Value} {d : PyData} {ds : List PyData}, Rep prog w mu h v d → Reps prog w mu h vs ds → motive vs ds → motive (v :: vs) (d :: ds))
    {vs : List Value} {ds : List PyData} (x : Reps prog w mu h vs ds) : motive vs ds :=
  Reps.rec (motive_1 := fun _ _ _ => True) (motive_2 := fun vs ds _ => motive vs ds) trivial (fun _ => trivial) (fun _ _ => trivial) (fun _ _ => trivial)
    (fun _ _ _ _ => trivial) (fun _ _ _ _ => trivial) (fun _ _ _ => trivial) nil (fun hr hs _ ih => cons hr hs ih) x
theorem Reps.mono (hk : ∀ b o, ¬ mu b → h.get? b = some o → h'.get? b = some o ∧ ¬ mu' b) {vs : List Value} {ds : List PyData} (x : Reps prog w mu h vs ds) : Reps prog w mu' h' vs ds :=
  x.ind .nil fun hr _ ih => .cons (hr.mono hk) ih
theorem Rep.keep (hk : ∀ b o, h.get? b = some o → h'.get? b = some o) {v : Value} {d : PyData} (x : Rep prog w mu h v d) : Rep prog w mu h' v d := x.mono fun b o hm e => ⟨hk b o e, hm⟩
theorem Reps.keep (hk : ∀ b o, h.get? b = some o → h'.get? b = some o) {vs : List Value} {ds : List PyData} (x : Reps prog w mu h vs ds) : Reps prog w mu h' vs ds := x.mono fun b o hm e => ⟨hk b o e, hm⟩

theorem Reps.length {vs : List Value} {ds : List PyData} (x : Reps prog w mu h vs ds) : vs.length = ds.length := x.ind (motive := fun vs ds => vs.length = ds.length) rfl fun _ _ ih => congrArg (· + 1) ih
theorem Reps.get {vs : List Value} {ds : List PyData} (x : Reps prog w mu h vs ds) {i : Nat} {d : PyData} (e : ds[i]? = some d) : ∃ v, vs[i]? = some v ∧ Rep prog w mu h v d := by
  revert i
  refine x.ind (motive := fun vs ds => ∀ {i : Nat}, ds[i]? = some d → ∃ v, vs[i]? = some v ∧ Rep prog w mu h v d) (fun e => by cases e) fun {v vs d' ds} hr _ ih i e => ?_
  cases i with
  | zero => cases e; exact ⟨v, rfl, hr⟩
  | succ i => exact ih e
theorem Reps.get' {vs : List Value} {ds : List PyData} (x : Reps prog w mu h vs ds) {i : Nat} {v : Value} (e : vs[i]? = some v) : ∃ d, ds[i]? = some d ∧ Rep prog w mu h v d := by
  revert i
  refine x.ind (motive := fun vs ds => ∀ {i : Nat}, vs[i]? = some v → ∃ d, ds[i]? = some d ∧ Rep prog w mu h v d) (fun e => by cases e) fun {v' vs d' ds} hr _ ih i e => ?_
  cases i with
  | zero => cases e; exact ⟨d', rfl, hr⟩
  | succ i => exact ih e
theorem Reps.append {vs us : List Value} {ds es : List PyData} (x : Reps prog w mu h vs ds) (y : Reps prog w mu h us es) : Reps prog w mu h (vs ++ us) (ds ++ es) := x.ind (motive := fun vs ds => Reps prog w mu h (vs ++ us) (ds ++ es)) y fun hr _ ih => .cons hr ih
theorem Reps.drop {vs : List Value} {ds : List PyData} (x : Reps prog w mu h vs ds) (k : Nat) : Reps prog w mu h (vs.drop k) (ds.drop k) := by
  revert k
  refine x.ind (motive := fun vs ds => ∀ k, Reps prog w mu h (vs.drop k) (ds.drop k)) (fun k => by rw [List.drop_nil, List.drop_nil]; exact .nil) fun hr hs ih k => ?_
  cases k with
  | zero => exact .cons hr hs
  | succ k => exact ih k
theorem Reps.take {vs : List Value} {ds : List PyData} (x : Reps prog w mu h vs ds) (k : Nat) : Reps prog w mu h (vs.take k) (ds.take k) := by
  revert k
  refine x.ind (motive := fun vs ds => ∀ k, Reps prog w mu h (vs.take k) (ds.take k)) (fun k => by rw [List.take_nil, List.take_nil]; exact .nil) fun hr hs ih k => ?_
  cases k with
  | zero => exact .nil
  | succ k => exact .cons hr (ih k)
theorem Reps.replicate {v : Value} {d : PyData} (x : Rep prog w mu h v d) (k : Nat) : Reps prog w mu h (List.replicate k v) (List.replicate k d) := by
  induction k with
  | zero => exact .nil
  | succ k ih => exact .cons x ih

mutual
/-- data that can be compared -/
noncomputable def plainD : PyData → Bool
  | .none | .bool _ | .int _ | .str _ => true
  | .list xs | .tuple xs => plainDs xs
  | .dict _ => false
noncomputable def plainDs : List PyData → Bool
  | [] => true
  | x :: xs => plainD x && plainDs xs
end
theorem Rep.reads {v : Value} {d : PyData} (x : Rep prog w mu h v d) : plainD d = true → ∃ as, Reads h v d as :=
  Rep.rec (motive_1 := fun v d _ => plainD d = true → ∃ as, Reads h v d as) (motive_2 := fun vs ds _ => plainDs ds = true → ∃ as, ReadsAll h vs ds as)
    (fun _ => ⟨_, .none⟩) (fun b _ => ⟨_, .bool b⟩) (fun i t _ => ⟨_, .int i t⟩) (fun x t _ => ⟨_, .str x t⟩)
    (fun _ hg _ ih hp => (ih (by rw [plainD] at hp; exact hp)).elim fun _ ha => ⟨_, .list hg rfl rfl ha⟩) (fun _ hg _ ih hp => (ih (by rw [plainD] at hp; exact hp)).elim fun _ ha => ⟨_, .tuple hg rfl rfl ha⟩)
    (fun _ _ _ hp => by rw [Mine.imap, plainD] at hp; cases hp) (fun _ => ⟨_, .nil⟩)
    (fun _ _ r rs hp => by
      rw [plainDs, Bool.and_eq_true] at hp
      obtain ⟨as, ha⟩ := r hp.1
      obtain ⟨bs, hb⟩ := rs hp.2
      exact ⟨_, .cons ha hb⟩) x
theorem Reps.reads {vs : List Value} {ds : List PyData} (x : Reps prog w mu h vs ds) : plainDs ds = true → ∃ as, ReadsAll h vs ds as :=
  x.ind (motive := fun vs ds => plainDs ds = true → ∃ as, ReadsAll h vs ds as) (fun _ => ⟨_, .nil⟩) fun r _ rs hp => by
    rw [plainDs, Bool.and_eq_true] at hp
    obtain ⟨as, ha⟩ := r.reads hp.1
    obtain ⟨bs, hb⟩ := rs hp.2
    exact ⟨_, .cons ha hb⟩
end

/-! ### a function's frame -/

inductive AV where
  | dat (d : PyData)
  | own (d : PyData)
  | tab (rows : List (List Int))
noncomputable def noTab : List (Option AV) → Bool
  | [] => true
  | some (.tab _) :: _ => false
  | _ :: r => noTab r
noncomputable def noOwn : List (Option AV) → Bool
  | [] => true
  | some (.tab _) :: _ => false
  | some (.own _) :: _ => false
  | _ :: r => noOwn r
theorem noTab_get {ρ : List (Option AV)} {i : Nat} {rows : List (List Int)} (h' : noTab ρ = true) (h : ρ[i]? = some (some (.tab rows))) : False := by
  induction ρ generalizing i with
  | nil => cases h
  | cons a r ih =>
    cases i with
    | zero => cases h; cases h'
    | succ i => exact ih (by cases a with | none => exact h' | some a => cases a with | tab _ => cases h' | _ => exact h') h
theorem noOwn_get {ρ : List (Option AV)} {i : Nat} {av : AV} (h' : noOwn ρ = true) (h : ρ[i]? = some (some av)) : ∃ d, av = .dat d := by
  induction ρ generalizing i with
  | nil => cases h
  | cons a r ih =>
    cases i with
    | zero => cases h; cases av with | dat d => exact ⟨d, rfl⟩ | _ => cases h'
    | succ i => exact ih (by cases a with | none => exact h' | some a => cases a with | dat _ => exact h' | _ => cases h') h

noncomputable def biTable : List (Str × Value) := [("len", .builtin "len"), ("range", .type "range"), ("zip", .type "zip"), ("max", .builtin "max"), ("dict", .type "dict"), ("type", .type "type"), ("int", .type "int")]

/-- what is known of the text's top -/
structure TopF (hT : Heap) (mg mb : Str → Option Value) : Prop where
  g : hT.Ns mainGlobals mg
  b : hT.Ns builtinsNs mb
  lim : hT.NoLimit
  bi : ∀ p ∈ biTable, mg p.1 = none ∧ mb p.1 = some p.2

structure Tx where
  prog : Program
  w : World
  hT : Heap
  mg : Str → Option Value
  mb : Str → Option Value

structure Fx extends Tx where
  A : Around
  env : Env
  ns : List Str
  cl : List (Str × Addr × Value × PyData)
  os : OsState
  lvl : Nat

structure OkF (F : Fx) : Prop where
  kind : F.env.scope.kind = .function
  nodup : F.ns.Nodup
  loc : ∀ x ∈ F.ns, F.env.kindOf x = some .local
  nodbg : ∀ x ∈ F.ns, (x == ("__debug__" : Str)) = false
  handled : F.A.handled = none
  units : F.A.units + 3 * F.lvl + 70 < cLine
  depth : F.A.depth + F.lvl < recursionLimit
  globals : F.env.globals = mainGlobals
  builtins : F.env.builtins = builtinsNs
  T : TopF F.hT F.mg F.mb

structure Prot where
  pin : Addr → Option Obj
  mu0 : Addr → Prop
  gh : List (Value × PyData)

noncomputable def OwnR (F : Fx) (mu : Addr → Prop) (h : Heap) (a : Addr) : PyData → Prop
  | .list xs => ∃ vs n, h.get? a = some (listObj vs n) ∧ Reps F.prog F.w mu h vs.toList xs
  | .dict kvs => ∃ es, kvs = es.map (fun p => (PyData.int p.1, PyData.int p.2)) ∧ IMapAt F.prog F.w h a es
  | _ => False

/-- the row of ints at b -/
noncomputable def RowAt (h : Heap) (b : Addr) (r : List Int) : Prop := ∃ us n, h.get? b = some (listObj us n) ∧ us.size = r.length ∧ ∀ (j : Nat) (i : Int), r[j]? = some i → ∃ t, us[j]? = some (.int i t)
/-- a list of rows, all its own -/
noncomputable def TabR (F : Fx) (P : Prot) (mu : Addr → Prop) (h : Heap) (a : Addr) (rows : List (List Int)) : Prop :=
  ∃ (as : List Addr) (vs : Array Value) (n : Nat), h.get? a = some (listObj vs n) ∧ vs.toList = as.map Value.ref ∧ (a :: as).Nodup ∧ (∀ b ∈ a :: as, mu b ∧ ¬ P.mu0 b ∧ P.pin b = none ∧ b ≠ F.env.locals) ∧
    as.length = rows.length ∧ ∀ (k : Nat) (r : List Int), rows[k]? = some r → ∃ b, as[k]? = some b ∧ RowAt h b r
theorem TabR.mono {F : Fx} {P P' : Prot} {mu mu' : Addr → Prop} {h h' : Heap} {a : Addr} {rows : List (List Int)} (x : TabR F P mu h a rows)
    (hk : ∀ b, mu b → ¬ P.mu0 b → P.pin b = none → b ≠ F.env.locals → (∀ o, h.get? b = some o → h'.get? b = some o) ∧ mu' b ∧ ¬ P'.mu0 b ∧ P'.pin b = none) : TabR F P' mu' h' a rows := by
  obtain ⟨as, vs, n, h1, h2, h3, h4, h5, h6⟩ := x
  have hg : ∀ b ∈ a :: as, (∀ o, h.get? b = some o → h'.get? b = some o) ∧ mu' b ∧ ¬ P'.mu0 b ∧ P'.pin b = none := fun b hb => by
    obtain ⟨k1, k2, k3, k4⟩ := h4 b hb; exact hk b k1 k2 k3 k4
  refine ⟨as, vs, n, (hg a (List.Mem.head _)).1 _ h1, h2, h3, fun b hb => ⟨(hg b hb).2.1, (hg b hb).2.2.1, (hg b hb).2.2.2, (h4 b hb).2.2.2⟩, h5, fun k r e => ?_⟩
  obtain ⟨b, hb, us, m, e1, e2⟩ := h6 k r e
  exact ⟨b, hb, us, m, (hg b (List.Mem.tail _ (List.mem_of_getElem? hb))).1 _ e1, e2⟩

noncomputable def AVR (F : Fx) (P : Prot) (mu : Addr → Prop) (h : Heap) (v : Value) : AV → Prop
  | .dat d => Rep F.prog F.w mu h v d
  | .own d => ∃ a, v = .ref a ∧ mu a ∧ ¬ P.mu0 a ∧ P.pin a = none ∧ a ≠ F.env.locals ∧ OwnR F mu h a d
  | .tab rows => ∃ a, v = .ref a ∧ TabR F P mu h a rows

structure St (F : Fx) (P : Prot) (ρ : List (Option AV)) (mu : Addr → Prop) (m : Str → Option Value) (s : Shared) : Prop where
  ok : OkF F
  ns : s.heap.Ns F.env.locals m
  muL : mu F.env.locals
  mu0 : ∀ a, P.mu0 a → mu a
  muT : ∀ a, mu a → F.hT.get? a = none
  alive : ∀ a, mu a → ∃ o, s.heap.get? a = some o
  keep : ∀ b o, P.pin b = some o → s.heap.get? b = some o
  top : ∀ b o, F.hT.get? b = some o → P.pin b = some o
  pinL : P.pin F.env.locals = none
  vars : ∀ (i : Nat) (x : Str) (av : AV), F.ns[i]? = some x → ρ[i]? = some (some av) → ∃ v, m x = some v ∧ AVR F P mu s.heap v av
  apart : ∀ (i j : Nat) (x y : Str) (d d' : PyData), F.ns[i]? = some x → F.ns[j]? = some y → ρ[i]? = some (some (.own d)) → ρ[j]? = some (some (.own d')) → m x = m y → i = j
  ghost : ∀ p ∈ P.gh, Rep F.prog F.w mu s.heap p.1 p.2
  cells : ∀ c ∈ F.cl, F.env.cells.lookup c.1 = some c.2.1 ∧ (∃ o, P.pin c.2.1 = some o ∧ o.data = .cell (some c.2.2.1)) ∧ Rep F.prog F.w mu s.heap c.2.2.1 c.2.2.2
  gens : s.gens = #[]
  os : s.os = F.os

section
variable {F : Fx} {P : Prot} {ρ : List (Option AV)} {mu : Addr → Prop} {m : Str → Option Value} {s s' : Shared}

/-- from s to s' all that was there stands -/
structure Go (s s' : Shared) : Prop where
  heap : ∀ b o, s.heap.get? b = some o → s'.heap.get? b = some o
  gens : s'.gens = s.gens
  os : s'.os = s.os
theorem Go.refl (s : Shared) : Go s s := ⟨fun _ _ e => e, rfl, rfl⟩
theorem Go.trans {s₁ s₂ s₃ : Shared} (x : Go s₁ s₂) (y : Go s₂ s₃) : Go s₁ s₃ := ⟨fun b o e => y.heap b o (x.heap b o e), y.gens.trans x.gens, y.os.trans x.os⟩
theorem Go.push (s : Shared) (o : Obj) {t : Nat} : Go s { s with heap := s.heap.push o, toks := t } := ⟨fun b _ e => Heap.get?_push_of_some _ e, rfl, rfl⟩
theorem Go.toks (s : Shared) (t : Nat) : Go s { s with toks := t } := ⟨fun _ _ e => e, rfl, rfl⟩

theorem OwnR.mono {mu mu' : Addr → Prop} {h h' : Heap} {a : Addr} {d : PyData} (x : OwnR F mu h a d) (hk : ∀ b o, ¬ mu b → h.get? b = some o → h'.get? b = some o ∧ ¬ mu' b) (ha : ∀ o, h.get? a = some o → h'.get? a = some o) : OwnR F mu' h' a d := by
  cases d with
  | list xs => obtain ⟨vs, n, e, r⟩ := x; exact ⟨vs, n, ha _ e, r.mono hk⟩
  | dict kvs =>
    obtain ⟨es, e, r⟩ := x
    exact ⟨es, e, r.keep ha⟩
  | _ => exact x.elim

theorem St.keeps (x : St F P ρ mu m s) (k : Go s s') : St F P ρ mu m s' where
  ok := x.ok
  ns := x.ns.keeps k.heap
  muL := x.muL
  mu0 := x.mu0
  muT := x.muT
  alive a ha := let ⟨o, ho⟩ := x.alive a ha; ⟨o, k.heap _ _ ho⟩
  keep b o e := k.heap _ _ (x.keep b o e)
  top := x.top
  pinL := x.pinL
  vars i y av h1 h2 := by
    obtain ⟨v, hv, hr⟩ := x.vars i y av h1 h2
    refine ⟨v, hv, ?_⟩
    cases av with
    | dat d => exact Rep.keep k.heap hr
    | own d =>
      obtain ⟨a, e, h1, h0, h2, h3, h4⟩ := hr
      exact ⟨a, e, h1, h0, h2, h3, h4.mono (fun b o hm e => ⟨k.heap b o e, hm⟩) fun o e => k.heap _ _ e⟩
    | tab rows =>
      obtain ⟨a, e, h1⟩ := hr
      exact ⟨a, e, h1.mono fun b g1 g2 g3 g4 => ⟨fun o e => k.heap b o e, g1, g2, g3⟩⟩
  apart := x.apart
  ghost p hp := Rep.keep k.heap (x.ghost p hp)
  cells c hc := let ⟨h1, h2, h3⟩ := x.cells c hc; ⟨h1, h2, Rep.keep k.heap h3⟩
  gens := k.gens.trans x.gens
  os := k.os.trans x.os

end
end Mine
namespace Mine
open PySem PyProof.Rows
set_option linter.unusedVariables false
set_option linter.unusedSectionVars false

section
variable {F : Fx} {P : Prot} {ρ : List (Option AV)} {mu : Addr → Prop} {m : Str → Option Value} {s s' : Shared}

theorem set_get {ρ : List (Option AV)} {i j : Nat} {a : Option AV} {av : AV} (h : (ρ.set i a)[j]? = some (some av)) : (j = i ∧ a = some av) ∨ (j ≠ i ∧ ρ[j]? = some (some av)) := by
  rw [List.getElem?_set] at h
  by_cases e : i = j
  · subst e
    simp only [if_true] at h
    split at h
    · left; exact ⟨rfl, by simpa using h⟩
    · cases h
  · rw [if_neg e] at h
    exact .inr ⟨fun h' => e h'.symm, h⟩
theorem ns_inj (x : OkF F) {i j : Nat} {y : Str} (h1 : F.ns[i]? = some y) (h2 : F.ns[j]? = some y) : i = j := by
  obtain ⟨a1, e1⟩ := List.getElem?_eq_some_iff.mp h1
  obtain ⟨a2, e2⟩ := List.getElem?_eq_some_iff.mp h2
  have hp := List.pairwise_iff_getElem.mp x.nodup
  rcases Nat.lt_trichotomy i j with h | h | h
  · exact absurd (e1.trans e2.symm) (hp i j a1 a2 h)
  · exact h
  · exact absurd (e2.trans e1.symm) (hp j i a2 a1 h)

theorem St.local (x : St F P ρ mu m s) {i : Nat} {y : Str} (h : F.ns[i]? = some y) : F.env.kindOf y = some .local := x.ok.loc y (List.mem_of_getElem? h)
theorem St.plainEnv (x : St F P ρ mu m s) : (F.env.scope.kind == .class || (F.env.scope.kind == .module && F.env.locals != F.env.globals)) = false := by rw [x.ok.kind]; rfl

theorem St.topNone (x : St F P ρ mu m s) {a : Addr} (h : s.heap.get? a = none) : F.hT.get? a = none := by
  cases q : F.hT.get? a with
  | none => rfl
  | some o =>
    have := x.keep _ _ (x.top _ _ q)
    rw [h] at this
    cases this

/-- a name is bound to data -/
theorem St.store (x : St F P ρ mu m s) {i : Nat} {y : Str} {v : Value} {d : PyData} {h' : Heap} {t : Nat} (hi : F.ns[i]? = some y) (hr : Rep F.prog F.w mu s.heap v d)
    (hn : h'.Ns F.env.locals (fun z => if z = y then some v else m z)) (hs : Heap.SameBut F.env.locals s.heap h') :
    St F P (ρ.set i (some (.dat d))) mu (fun z => if z = y then some v else m z) { s with heap := h', toks := t } := by
  have hk : ∀ b o, ¬ mu b → s.heap.get? b = some o → h'.get? b = some o ∧ ¬ mu b := fun b o hm e => ⟨(hs.2 b (fun hb => hm (hb ▸ x.muL))).trans e, hm⟩
  refine ⟨x.ok, hn, x.muL, x.mu0, x.muT, fun a ha => ?_, fun b o e => ?_, x.top, x.pinL, fun j z av h1 h2 => ?_, fun j k z z' d1 d2 h1 h2 h3 h4 h5 => ?_, fun p hp => (x.ghost p hp).mono hk, fun c hc => ?_, x.gens, x.os⟩
  · by_cases e : a = F.env.locals
    · subst e; obtain ⟨o, _, _, ho, _⟩ := hn; exact ⟨o, ho⟩
    · obtain ⟨o, ho⟩ := x.alive a ha; exact ⟨o, (hs.2 a e).trans ho⟩
  · exact (hs.2 b (fun hb => by rw [hb, x.pinL] at e; cases e)).trans (x.keep b o e)
  · rcases set_get h2 with ⟨rfl, e⟩ | ⟨hne, h2⟩
    · rw [hi] at h1; cases h1; cases e
      exact ⟨v, by simp, hr.mono hk⟩
    · have hzy : z ≠ y := fun e => hne (ns_inj x.ok h1 (e ▸ hi))
      obtain ⟨u, hu, hav⟩ := x.vars j z av h1 h2
      refine ⟨u, by simp [hzy, hu], ?_⟩
      cases av with
      | dat d' => exact Rep.mono hk hav
      | own d' =>
        obtain ⟨a, e, g1, g0, g2, g3, g4⟩ := hav
        exact ⟨a, e, g1, g0, g2, g3, g4.mono hk fun o e => (hs.2 a g3).trans e⟩
      | tab rows =>
        obtain ⟨a, e, h1⟩ := hav
        exact ⟨a, e, h1.mono fun b g1 g2 g3 g4 => ⟨fun o e => (hs.2 b g4).trans e, g1, g2, g3⟩⟩
  · rcases set_get h3 with ⟨rfl, e⟩ | ⟨hne, h3⟩
    · cases e
    · rcases set_get h4 with ⟨rfl, e⟩ | ⟨hne', h4⟩
      · cases e
      · have hzy : z ≠ y := fun e => hne (ns_inj x.ok h1 (e ▸ hi))
        have hzy' : z' ≠ y := fun e => hne' (ns_inj x.ok h2 (e ▸ hi))
        simp only [hzy, hzy', if_false] at h5
        exact x.apart j k z z' d1 d2 h1 h2 h3 h4 h5
  · obtain ⟨g1, g2, g3⟩ := x.cells c hc
    exact ⟨g1, g2, g3.mono hk⟩

/-- a name is bound to a new list or table of its own -/
theorem St.storeOwn' {s₂ : Shared} (x : St F P ρ mu m s) {i : Nat} {y : Str} {a : Addr} {d : PyData} (hkp : ∀ b o, b ≠ F.env.locals → s.heap.get? b = some o → s₂.heap.get? b = some o) (hgens : s₂.gens = s.gens) (hos : s₂.os = s.os) (hi : F.ns[i]? = some y) (ha : s.heap.get? a = none)
    (hown : OwnR F (fun b => mu b ∨ b = a) s₂.heap a d) (hn : s₂.heap.Ns F.env.locals (fun z => if z = y then some (.ref a) else m z)) :
    St F P (ρ.set i (some (.own d))) (fun b => mu b ∨ b = a) (fun z => if z = y then some (.ref a) else m z) s₂ := by
  have haL : a ≠ F.env.locals := fun e => by obtain ⟨o, ho⟩ := x.alive _ x.muL; rw [← e, ha] at ho; cases ho
  have hamu : ¬ mu a := fun e => by obtain ⟨o, ho⟩ := x.alive _ e; rw [ha] at ho; cases ho
  have hk : ∀ b o, ¬ mu b → s.heap.get? b = some o → s₂.heap.get? b = some o ∧ ¬ (mu b ∨ b = a) := fun b o hm e =>
    ⟨hkp b o (fun hb => hm (hb ▸ x.muL)) e, fun h => h.elim hm fun e' => by rw [e', ha] at e; cases e⟩
  have hout : ∀ (j : Nat) (z : Str) (d' : PyData), F.ns[j]? = some z → ρ[j]? = some (some (AV.own d')) → ∃ b, m z = some (.ref b) ∧ b ≠ a := fun j z d' h1 h2 => by
    obtain ⟨u, hu, b, e, g1, _⟩ := x.vars j z _ h1 h2
    exact ⟨b, by rw [hu, e], fun e => hamu (e ▸ g1)⟩
  have halive' : ∃ o, s₂.heap.get? a = some o := by
    cases d with
    | list xs => obtain ⟨vs, n, e, _⟩ := hown; exact ⟨_, e⟩
    | dict kvs => obtain ⟨es, _, e⟩ := hown; exact e.live
    | none => exact hown.elim
    | bool b => exact hown.elim
    | int b => exact hown.elim
    | str b => exact hown.elim
    | tuple b => exact hown.elim
  refine ⟨x.ok, hn, .inl x.muL, fun b hb => .inl (x.mu0 b hb), fun b hb => hb.elim (x.muT b) (fun e => e ▸ x.topNone ha), fun b hb => ?_, fun b o e => ?_, x.top, x.pinL, fun j z av h1 h2 => ?_, fun j l z z' d1 d2 h1 h2 h3 h4 h5 => ?_, fun p hp => (x.ghost p hp).mono hk, fun c hc => ?_, hgens.trans x.gens, hos.trans x.os⟩
  · by_cases e : b = F.env.locals
    · subst e; obtain ⟨o, _, _, ho, _⟩ := hn; exact ⟨o, ho⟩
    · rcases hb with hb | rfl
      · obtain ⟨o, ho⟩ := x.alive b hb; exact ⟨o, hkp b o e ho⟩
      · exact halive'
  · exact hkp b o (fun hb => by rw [hb, x.pinL] at e; cases e) (x.keep b o e)
  · rcases set_get h2 with ⟨rfl, e⟩ | ⟨hne, h2⟩
    · rw [hi] at h1; cases h1; cases e
      refine ⟨.ref a, by simp, a, rfl, .inr rfl, fun e => hamu (x.mu0 a e), ?_, haL, hown⟩
      cases hp : P.pin a with
      | none => rfl
      | some o => have := x.keep _ _ hp; rw [ha] at this; cases this
    · have hzy : z ≠ y := fun e => hne (ns_inj x.ok h1 (e ▸ hi))
      obtain ⟨u, hu, hav⟩ := x.vars j z av h1 h2
      refine ⟨u, by simp [hzy, hu], ?_⟩
      cases av with
      | dat d' => exact Rep.mono hk hav
      | own d' =>
        obtain ⟨b, e, g1, g0, g2, g3, g4⟩ := hav
        exact ⟨b, e, .inl g1, g0, g2, g3, g4.mono hk fun o e => hkp b o g3 e⟩
      | tab rows =>
        obtain ⟨a, e, h1⟩ := hav
        exact ⟨a, e, h1.mono fun b g1 g2 g3 g4 => ⟨fun o e => hkp b o g4 e, .inl g1, g2, g3⟩⟩
  · rcases set_get h3 with ⟨rfl, e⟩ | ⟨hne, k3⟩
    · rw [hi] at h1; cases h1
      rcases set_get h4 with ⟨rfl, e'⟩ | ⟨hne', h4⟩
      · rfl
      · have hzy' : z' ≠ y := fun e => hne' (ns_inj x.ok h2 (e ▸ hi))
        simp only [hzy', if_true, if_false] at h5
        obtain ⟨b, hb, hba⟩ := hout _ _ _ h2 h4
        rw [hb] at h5; cases h5; exact absurd rfl hba
    · have hzy : z ≠ y := fun e => hne (ns_inj x.ok h1 (e ▸ hi))
      rcases set_get h4 with ⟨rfl, e⟩ | ⟨hne', k4⟩
      · rw [hi] at h2; cases h2
        simp only [hzy, if_true, if_false] at h5
        obtain ⟨b, hb, hba⟩ := hout _ _ _ h1 k3
        rw [hb] at h5; cases h5; exact absurd rfl hba
      · have hzy' : z' ≠ y := fun e => hne' (ns_inj x.ok h2 (e ▸ hi))
        simp only [hzy, hzy', if_false] at h5
        exact x.apart j l z z' d1 d2 h1 h2 k3 k4 h5
  · obtain ⟨g1, g2, g3⟩ := x.cells c hc
    exact ⟨g1, g2, g3.mono hk⟩

theorem St.storeOwn {s₁ : Shared} (x : St F P ρ mu m s) (k : Go s s₁) {i : Nat} {y : Str} {a : Addr} {d : PyData} {h' : Heap} {t : Nat} (hi : F.ns[i]? = some y) (ha : s.heap.get? a = none)
    (hr : OwnR F (fun b => mu b ∨ b = a) s₁.heap a d)
    (hn : h'.Ns F.env.locals (fun z => if z = y then some (.ref a) else m z)) (hs : Heap.SameBut F.env.locals s₁.heap h') :
    St F P (ρ.set i (some (.own d))) (fun b => mu b ∨ b = a) (fun z => if z = y then some (.ref a) else m z) { s₁ with heap := h', toks := t } := by
  have haL : a ≠ F.env.locals := fun e => by obtain ⟨o, ho⟩ := x.alive _ x.muL; rw [← e, ha] at ho; cases ho
  refine x.storeOwn' (fun b o hb e => (hs.2 b hb).trans (k.heap b o e)) k.gens k.os hi ha ?_ hn
  exact hr.mono (fun b o hm e => ⟨(hs.2 b (fun hb => hm (.inl (hb ▸ x.muL)))).trans e, hm⟩) fun o e => (hs.2 a haL).trans e

/-- what a name owns is changed in place -/
theorem St.change (x : St F P ρ mu m s) {i : Nat} {y : Str} {a : Addr} {d d' : PyData} {h' : Heap} {t : Nat} (hi : F.ns[i]? = some y) (hρ : ρ[i]? = some (some (.own d))) (hm : m y = some (.ref a))
    (hs : Heap.SameBut a s.heap h') (hr : OwnR F mu h' a d') (hnt : noTab ρ = true) : St F P (ρ.set i (some (.own d'))) mu m { s with heap := h', toks := t } := by
  obtain ⟨u, hu, a', e, g1, g0, g2, g3, g4⟩ := x.vars i y _ hi hρ
  rw [hm] at hu; cases hu; cases e
  have hk : ∀ b o, ¬ mu b → s.heap.get? b = some o → h'.get? b = some o ∧ ¬ mu b := fun b o hm e => ⟨(hs.2 b (fun hb => hm (hb ▸ g1))).trans e, hm⟩
  have halive' : ∃ o, h'.get? a = some o := by
    cases d' with
    | list xs => obtain ⟨vs, n, e, _⟩ := hr; exact ⟨_, e⟩
    | dict kvs => obtain ⟨es, _, e⟩ := hr; exact e.live
    | none => exact hr.elim
    | bool b => exact hr.elim
    | int b => exact hr.elim
    | str b => exact hr.elim
    | tuple b => exact hr.elim
  refine ⟨x.ok, x.ns.sameBut hs (Ne.symm g3), x.muL, x.mu0, x.muT, fun b hb => ?_, fun b o e => ?_, x.top, x.pinL, fun j z av h1 h2 => ?_, fun j l z z' d1 d2 h1 h2 h3 h4 h5 => ?_, fun p hp => (x.ghost p hp).mono hk, fun c hc => ?_, x.gens, x.os⟩
  · by_cases e : b = a
    · subst e; exact halive'
    · obtain ⟨o, ho⟩ := x.alive b hb; exact ⟨o, (hs.2 b e).trans ho⟩
  · exact (hs.2 b (fun hb => by rw [hb, g2] at e; cases e)).trans (x.keep b o e)
  · rcases set_get h2 with ⟨rfl, e⟩ | ⟨hne, h2⟩
    · rw [hi] at h1; cases h1; cases e
      exact ⟨_, hm, a, rfl, g1, g0, g2, g3, hr⟩
    · obtain ⟨u, hu, hav⟩ := x.vars j z av h1 h2
      refine ⟨u, hu, ?_⟩
      cases av with
      | dat d' => exact Rep.mono hk hav
      | own d'' =>
        obtain ⟨b, e, k1, k0, k2, k3, k4⟩ := hav
        have hba : b ≠ a := fun e' => hne (x.apart j i z y _ _ h1 hi h2 hρ (by rw [hu, hm, e, e']))
        exact ⟨b, e, k1, k0, k2, k3, k4.mono hk fun o e => (hs.2 b hba).trans e⟩
      | tab rows => exact (noTab_get hnt h2).elim
  · have f3 : ∃ d, ρ[j]? = some (some (.own d)) := by
      rcases set_get h3 with ⟨rfl, e⟩ | ⟨_, h3⟩
      · exact ⟨_, hρ⟩
      · exact ⟨_, h3⟩
    have f4 : ∃ d, ρ[l]? = some (some (.own d)) := by
      rcases set_get h4 with ⟨rfl, e⟩ | ⟨_, h4⟩
      · exact ⟨_, hρ⟩
      · exact ⟨_, h4⟩
    obtain ⟨_, f3⟩ := f3
    obtain ⟨_, f4⟩ := f4
    exact x.apart j l z z' _ _ h1 h2 f3 f4 h5
  · obtain ⟨k1, k2, k3⟩ := x.cells c hc
    exact ⟨k1, k2, k3.mono hk⟩

theorem Rep.ofOwn {mu mu' : Addr → Prop} {h : Heap} {a : Addr} {d : PyData} (ha : ¬ mu' a) (hsub : ∀ b, mu' b → mu b) (x : OwnR F mu h a d) : Rep F.prog F.w mu' h (.ref a) d := by
  have hk : ∀ b o, ¬ mu b → h.get? b = some o → h.get? b = some o ∧ ¬ mu' b := fun b o hm e => ⟨e, fun h => hm (hsub b h)⟩
  cases d with
  | list xs => obtain ⟨vs, n, e, r⟩ := x; exact .list ha e (r.mono hk)
  | dict kvs =>
    obtain ⟨es, e, r⟩ := x
    subst e
    exact Rep.imap es ha r
  | none => exact x.elim
  | bool b => exact x.elim
  | int b => exact x.elim
  | str b => exact x.elim
  | tuple b => exact x.elim

/-- what a name owns is given up: from now on it stands -/
theorem St.freeze (x : St F P ρ mu m s) {i : Nat} {y : Str} {d : PyData} (hi : F.ns[i]? = some y) (hρ : ρ[i]? = some (some (.own d))) (hnt : noTab ρ = true) :
    ∃ mu', St F P (ρ.set i (some (.dat d))) mu' m s := by
  obtain ⟨u, hu, a, e, g1, g0, g2, g3, g4⟩ := x.vars i y _ hi hρ
  subst e
  refine ⟨fun b => mu b ∧ b ≠ a, ?_⟩
  have hk : ∀ b o, ¬ mu b → s.heap.get? b = some o → s.heap.get? b = some o ∧ ¬ (mu b ∧ b ≠ a) := fun b o hm e => ⟨e, fun h => hm h.1⟩
  refine ⟨x.ok, x.ns, ⟨x.muL, Ne.symm g3⟩, fun b hb => ⟨x.mu0 b hb, fun e => g0 (e ▸ hb)⟩, fun b hb => x.muT b hb.1, fun b hb => x.alive b hb.1, x.keep, x.top, x.pinL, fun j z av h1 h2 => ?_, fun j l z z' d1 d2 h1 h2 h3 h4 h5 => ?_, fun p hp => (x.ghost p hp).mono hk, fun c hc => ?_, x.gens, x.os⟩
  · rcases set_get h2 with ⟨rfl, e⟩ | ⟨hne, h2⟩
    · rw [hi] at h1; cases h1; cases e
      exact ⟨_, hu, Rep.ofOwn (fun h => h.2 rfl) (fun b h => h.1) g4⟩
    · obtain ⟨u', hu', hav⟩ := x.vars j z av h1 h2
      refine ⟨u', hu', ?_⟩
      cases av with
      | dat d' => exact Rep.mono hk hav
      | own d'' =>
        obtain ⟨b, e, k1, k0, k2, k3, k4⟩ := hav
        have hba : b ≠ a := fun e' => hne (x.apart j i z y _ _ h1 hi h2 hρ (by rw [hu, hu', e, e']))
        exact ⟨b, e, ⟨k1, hba⟩, k0, k2, k3, k4.mono hk fun o e => e⟩
      | tab rows => exact (noTab_get hnt h2).elim
  · rcases set_get h3 with ⟨rfl, e⟩ | ⟨_, h3⟩
    · cases e
    · rcases set_get h4 with ⟨rfl, e⟩ | ⟨_, h4⟩
      · cases e
      · exact x.apart j l z z' _ _ h1 h2 h3 h4 h5
  · obtain ⟨k1, k2, k3⟩ := x.cells c hc
    exact ⟨k1, k2, k3.mono hk⟩

/-- fewer names known -/
noncomputable def Wk (ρ ρ' : List (Option AV)) : Prop := ∀ (i : Nat) (av : AV), ρ'[i]? = some (some av) → ρ[i]? = some (some av)
theorem Wk.refl (ρ : List (Option AV)) : Wk ρ ρ := fun _ _ h => h
theorem Wk.nil : Wk [] [] := Wk.refl _
theorem Wk.keep {a b : Option AV} {ρ ρ' : List (Option AV)} (e : a = b) (h : Wk ρ ρ') : Wk (a :: ρ) (b :: ρ') := fun i av hi => by
  subst e
  cases i with
  | zero => exact hi
  | succ i => exact h i av hi
theorem Wk.drop {a : Option AV} {ρ ρ' : List (Option AV)} (h : Wk ρ ρ') : Wk (a :: ρ) (none :: ρ') := fun i av hi => by
  cases i with
  | zero => simp at hi
  | succ i => exact h i av hi
theorem St.weaken {ρ' : List (Option AV)} (x : St F P ρ mu m s) (h : Wk ρ ρ') : St F P ρ' mu m s :=
  ⟨x.ok, x.ns, x.muL, x.mu0, x.muT, x.alive, x.keep, x.top, x.pinL, fun i y av h1 h2 => x.vars i y av h1 (h i av h2), fun i j y z d d' h1 h2 h3 h4 h5 => x.apart i j y z d d' h1 h2 (h _ _ h3) (h _ _ h4) h5, x.ghost, x.cells, x.gens, x.os⟩

/-! ### the judgements -/

/-- the expression e gives d -/
structure Ev (F : Fx) (ρ : List (Option AV)) (e : Expr) (d : PyData) : Prop where
  of ::
  run : ∀ P mu m s, St F P ρ mu m s →
  wpAny (model F.prog F.w) F.A (eval e F.env) (fun v s' => Go s s' ∧ Rep F.prog F.w mu s'.heap v d) (fun _ _ => False) s
/-- the expression e gives a new list or table -/
structure EvNew (F : Fx) (ρ : List (Option AV)) (e : Expr) (d : PyData) : Prop where
  of ::
  run : ∀ P mu m s, St F P ρ mu m s →
  wpAny (model F.prog F.w) F.A (eval e F.env) (fun v s' => Go s s' ∧ ∃ a, v = .ref a ∧ s.heap.get? a = none ∧ OwnR F (fun b => mu b ∨ b = a) s'.heap a d) (fun _ _ => False) s
/-- the test e comes out as b -/
structure Tr (F : Fx) (ρ : List (Option AV)) (e : Expr) (b : Bool) : Prop where
  of ::
  run : ∀ P mu m s, St F P ρ mu m s →
  wpAny (model F.prog F.w) F.A (isTrue e F.env (eval e F.env)) (fun b' s' => Go s s' ∧ b' = b) (fun _ _ => False) s
/-- the expressions give the data, one by one -/
structure EvL (F : Fx) (ρ : List (Option AV)) (es : List Expr) (ds : List PyData) : Prop where
  of ::
  run : ∀ P mu m s pos, St F P ρ mu m s →
  wpAny (model F.prog F.w) F.A (spliced (backTo pos (starEach es F.env))) (fun vs s' => Go s s' ∧ Reps F.prog F.w mu s'.heap vs ds) (fun _ _ => False) s

inductive Out where
  | next (ρ : List (Option AV))
  | ret (d : PyData)

noncomputable def OutR (F : Fx) (P : Prot) : Out → Flow → Shared → Prop
  | .next ρ, f, s' => f = .next ∧ ∃ mu m, St F P ρ mu m s'
  | .ret d, f, s' => ∃ v, f = .ret v ∧ Rep F.prog F.w P.mu0 s'.heap v d ∧ (∀ b o, P.pin b = some o → s'.heap.get? b = some o) ∧ s'.gens = #[] ∧ s'.os = F.os

structure Ex1 (F : Fx) (ρ : List (Option AV)) (st : Stmt) (out : Out) : Prop where
  of ::
  run : ∀ P mu m s, St F P ρ mu m s →
  wpAny (model F.prog F.w) F.A (exec st F.env) (OutR F P out) (fun _ _ => False) s
structure Ex (F : Fx) (ρ : List (Option AV)) (ss : List Stmt) (out : Out) : Prop where
  of ::
  run : ∀ P mu m s, St F P ρ mu m s →
  wpAny (model F.prog F.w) F.A (execs ss F.env) (OutR F P out) (fun _ _ => False) s

theorem Ev.ofNew {e : Expr} {d : PyData} (h : EvNew F ρ e d) : Ev F ρ e d := .of fun P mu m s x =>
  wpAny_mono (h.run P mu m s x) (fun v s' ⟨g, a, e, ha, hr⟩ => ⟨g, by
    subst e
    exact Rep.ofOwn (fun h => by obtain ⟨o, ho⟩ := x.alive a h; rw [ha] at ho; cases ho) (fun b h => .inl h) hr⟩) fun _ _ h => h

theorem Ex.nil : Ex F ρ [] (.next ρ) := .of fun P mu m s x => wpAny_execs_nil ⟨rfl, mu, m, x⟩
theorem Ex.cons {st : Stmt} {rest : List Stmt} {ρ₁ : List (Option AV)} {out : Out} (h1 : Ex1 F ρ st (.next ρ₁)) (h2 : Ex F ρ₁ rest out) : Ex F ρ (st :: rest) out := .of fun P mu m s x =>
  wpAny_execs_cons (wpAny_mono (h1.run P mu m s x) (fun f s' ⟨e, mu', m', x'⟩ => by subst e; exact h2.run P mu' m' s' x') fun _ _ h => h)
theorem Ex.consRet {st : Stmt} {rest : List Stmt} {d : PyData} (h1 : Ex1 F ρ st (.ret d)) : Ex F ρ (st :: rest) (.ret d) := .of fun P mu m s x =>
  wpAny_execs_cons (wpAny_mono (h1.run P mu m s x) (fun f s' ⟨v, e, r⟩ => by subst e; exact ⟨v, rfl, r⟩) fun _ _ h => h)
theorem Ex.weaken {ρ' : List (Option AV)} {ss : List Stmt} {out : Out} (h : Wk ρ ρ') (hx : Ex F ρ' ss out) : Ex F ρ ss out := .of fun P mu m s x => hx.run P mu m s (x.weaken h)
theorem Ex.weakenNext {ρ₁ ρ₂ : List (Option AV)} {ss : List Stmt} (hx : Ex F ρ ss (.next ρ₁)) (h : Wk ρ₁ ρ₂) : Ex F ρ ss (.next ρ₂) := .of fun P mu m s x =>
  wpAny_mono (hx.run P mu m s x) (fun f s' ⟨e, mu', m', x'⟩ => ⟨e, mu', m', x'.weaken h⟩) fun _ _ h => h
theorem Ex1.weaken {ρ' : List (Option AV)} {st : Stmt} {out : Out} (h : Wk ρ ρ') (hx : Ex1 F ρ' st out) : Ex1 F ρ st out := .of fun P mu m s x => hx.run P mu m s (x.weaken h)
theorem Ex.freeze {i : Nat} {y : Str} {d : PyData} {ss : List Stmt} {out : Out} (hi : F.ns[i]? = some y) (hρ : ρ[i]? = some (some (.own d))) (hx : Ex F (ρ.set i (some (.dat d))) ss out) (hnt : noTab ρ = true := by rfl) : Ex F ρ ss out := .of fun P mu m s x => by
  obtain ⟨mu', x'⟩ := x.freeze hi hρ hnt
  exact hx.run P mu' m s x'
theorem Ex1.freeze {i : Nat} {y : Str} {d : PyData} {st : Stmt} {out : Out} (hi : F.ns[i]? = some y) (hρ : ρ[i]? = some (some (.own d))) (hx : Ex1 F (ρ.set i (some (.dat d))) st out) (hnt : noTab ρ = true := by rfl) : Ex1 F ρ st out := .of fun P mu m s x => by
  obtain ⟨mu', x'⟩ := x.freeze hi hρ hnt
  exact hx.run P mu' m s x'

/-- a statement that binds a name to data -/
theorem Ex1.assign {i : Nat} {y : Str} {p pos : Pos} {e : Expr} {d : PyData} (hi : F.ns[i]? = some y) (h : Ev F ρ e d) (hs : swapsWith e (some (.Name y p)) pos.line F.env = pure false) :
    Ex1 F ρ (.Assign [.Name y p] e pos) (.next (ρ.set i (some (.dat d)))) := .of fun P mu m s x =>
  wpAny_Assign_Name (wpAny_mono (h.run P mu m s x) (fun v s₁ ⟨g, hr⟩ =>
    wpAny_storeName_local (x.local hi) (x.keeps g).ns (fun h' hn hsb => ⟨rfl, mu, _, (x.keeps g).store hi hr hn hsb⟩) x.plainEnv) fun _ _ h => h) hs
theorem Ex1.assignNew {i : Nat} {y : Str} {p pos : Pos} {e : Expr} {d : PyData} (hi : F.ns[i]? = some y) (h : EvNew F ρ e d) (hs : swapsWith e (some (.Name y p)) pos.line F.env = pure false) :
    Ex1 F ρ (.Assign [.Name y p] e pos) (.next (ρ.set i (some (.own d)))) := .of fun P mu m s x =>
  wpAny_Assign_Name (wpAny_mono (h.run P mu m s x) (fun v s₁ ⟨g, a, e, ha, hr⟩ => by
    subst e
    exact wpAny_storeName_local (x.local hi) (x.keeps g).ns (fun h' hn hsb => ⟨rfl, _, _, x.storeOwn g hi ha hr hn hsb⟩) x.plainEnv) fun _ _ h => h) hs
theorem Ex1.ret {e : Expr} {pos : Pos} {d : PyData} (h : Ev F ρ e d) : Ex1 F ρ (.Return (some e) pos) (.ret d) := .of fun P mu m s x =>
  wpAny_Return_some (wpAny_mono (h.run P mu m s x) (fun v s₁ ⟨g, hr⟩ => ⟨v, rfl, hr.mono fun b o hm e => ⟨e, fun h => hm (x.mu0 b h)⟩, (x.keeps g).keep, (x.keeps g).gens, (x.keeps g).os⟩) fun _ _ h => h)
theorem Ex1.ite {test : Expr} {body orelse : List Stmt} {pos : Pos} {b : Bool} {out : Out} (ht : Tr F ρ test b) (h1 : b = true → Ex F ρ body out) (h2 : b = false → Ex F ρ orelse out) :
    Ex1 F ρ (.If test body orelse pos) out := .of fun P mu m s x =>
  wpAny_If (wpAny_mono (ht.run P mu m s x) (fun b' s₁ ⟨g, e⟩ => by
    subst e
    cases b' with
    | true => exact (h1 rfl).run P mu m s₁ (x.keeps g)
    | false => exact (h2 rfl).run P mu m s₁ (x.keeps g)) fun _ _ h => h)
theorem Ex1.ifT {test : Expr} {body orelse : List Stmt} {pos : Pos} {out : Out} (ht : Tr F ρ test true) (h1 : Ex F ρ body out) : Ex1 F ρ (.If test body orelse pos) out := Ex1.ite ht (fun _ => h1) (fun h => nomatch h)
theorem Ex1.ifF {test : Expr} {body orelse : List Stmt} {pos : Pos} {out : Out} (ht : Tr F ρ test false) (h1 : Ex F ρ orelse out) : Ex1 F ρ (.If test body orelse pos) out := Ex1.ite ht (fun h => nomatch h) (fun _ => h1)
end
end Mine
namespace Mine
open PySem PyProof.Rows
set_option linter.unusedVariables false
set_option linter.unusedSectionVars false

section
variable {F : Fx} {P : Prot} {ρ : List (Option AV)} {mu : Addr → Prop} {m : Str → Option Value} {s s' : Shared}

theorem Ev.int {i : Int} {k : Nat} {pos : Pos} : Ev F ρ (.Constant (.int i) k pos) (.int i) := .of fun P mu m s x => wpAny_Constant_int ⟨Go.toks s _, .int i _⟩
theorem Ev.str {x : Str} {k : Nat} {pos : Pos} : Ev F ρ (.Constant (.str x) k pos) (.str x) := .of fun P mu m s _ => wpAny_Constant_str ⟨Go.toks s _, .str x _⟩
theorem Ev.bool {b : Bool} {k : Nat} {pos : Pos} : Ev F ρ (.Constant (.bool b) k pos) (.bool b) := .of fun P mu m s _ => wpAny_Constant_bool ⟨Go.refl s, .bool b⟩

theorem Ev.name (i : Nat) {y : Str} {pos : Pos} {d : PyData} (hi : F.ns[i]? = some y) (hρ : ρ[i]? = some (some (.dat d))) : Ev F ρ (.Name y pos) d := .of fun P mu m s x => by
  obtain ⟨v, hv, hr⟩ := x.vars i y _ hi hρ
  exact wpAny_Name (wpAny_loadName_local x.ok.kind (x.local hi) x.ns hv ⟨Go.refl s, hr⟩) (x.ok.nodbg y (List.mem_of_getElem? hi))

/-- what a binary operation gives -/
inductive BinR : Operator → PyData → PyData → PyData → Prop
  | addInt {a b : Int} : BinR .Add (.int a) (.int b) (.int (a + b))
  | subInt {a b : Int} : BinR .Sub (.int a) (.int b) (.int (a - b))
  | modInt {a b : Int} (hb : b ≠ 0) : BinR .Mod (.int a) (.int b) (.int (a.fmod b))
  | addStr {x y : Str} (h : x.length + y.length ≤ sizeLine) : BinR .Add (.str x) (.str y) (.str (x ++ y))
  | addTup {xs ys : List PyData} (h : xs.length + ys.length ≤ sizeLine) : BinR .Add (.tuple xs) (.tuple ys) (.tuple (xs ++ ys))
  | addList {xs ys : List PyData} (h : xs.length + ys.length ≤ sizeLine) : BinR .Add (.list xs) (.list ys) (.list (xs ++ ys))
  | mulStr {x : Str} {n : Int} (h : MulOk x n) : BinR .Mult (.str x) (.int n) (.str (Txt.mul x n))

theorem Rep.int_inv {prog : Program} {w : World} {mu : Addr → Prop} {h : Heap} {v : Value} {i : Int} (x : Rep prog w mu h v (.int i)) : ∃ t, v = .int i t := by cases x; exact ⟨_, rfl⟩
theorem Rep.str_inv {prog : Program} {w : World} {mu : Addr → Prop} {h : Heap} {v : Value} {i : Str} (x : Rep prog w mu h v (.str i)) : ∃ t, v = .str i t := by cases x; exact ⟨_, rfl⟩
theorem Rep.bool_inv {prog : Program} {w : World} {mu : Addr → Prop} {h : Heap} {v : Value} {i : Bool} (x : Rep prog w mu h v (.bool i)) : v = .bool i := by cases x; rfl
theorem Rep.list_inv {prog : Program} {w : World} {mu : Addr → Prop} {h : Heap} {v : Value} {xs : List PyData} (x : Rep prog w mu h v (.list xs)) : ∃ a vs n, v = .ref a ∧ ¬ mu a ∧ h.get? a = some (listObj vs n) ∧ Reps prog w mu h vs.toList xs := by
  cases x; exact ⟨_, _, _, rfl, by assumption, by assumption, by assumption⟩
theorem Rep.tuple_inv {prog : Program} {w : World} {mu : Addr → Prop} {h : Heap} {v : Value} {xs : List PyData} (x : Rep prog w mu h v (.tuple xs)) : ∃ a vs n, v = .ref a ∧ ¬ mu a ∧ h.get? a = some (tupObj vs n) ∧ Reps prog w mu h vs.toList xs := by
  cases x; exact ⟨_, _, _, rfl, by assumption, by assumption, by assumption⟩

theorem St.fresh_mu (x : St F P ρ mu m s) {a : Addr} (h : s.heap.get? a = none) : ¬ mu a := fun hm => by obtain ⟨o, ho⟩ := x.alive a hm; rw [h] at ho; cases ho
theorem fresh_size (h : Heap) : h.get? h.objs.size = none := by
  cases e : h.get? h.objs.size with
  | none => rfl
  | some o => exact absurd (Heap.lt_size e) (Nat.lt_irrefl _)

theorem tuple_add (l b : Addr) {vs us : Array Value} {n n2 : Nat} {Q : Value → Shared → Prop} {prog : Program} {w : World} {A : Around} {E : Value → Shared → Prop}
    (h1 : s.heap.get? l = some (tupObj vs n)) (h2 : s.heap.get? b = some (tupObj us n2)) (hsz : vs.size + us.size ≤ sizeLine)
    (h0 : vs.toList = [] → Q (.ref b) s) (h01 : us.toList = [] → Q (.ref l) s) (h : Q (.ref s.heap.objs.size) { s with heap := s.heap.push (tupObj (vs ++ us) 0) }) :
    wpAny (model prog w) A (binaryOp .Add (.ref l) (.ref b)) Q E s := by
  by_cases hv : vs.isEmpty = true
  · exact concat_meets ⟨_, h1, rfl⟩ ⟨_, h2, rfl⟩ noFill_tuple_add seq_tuple_add PySem.F.slot_tuple_add PySem.F.entry_tuple_add (PySem.F.args_tuple_add_2 _ _)
      (tuple_addW0 l b vs us n n2 none none #[] #[] hv) ⟨h1, h2, h0 (by simpa using hv)⟩
  · by_cases hw : us.isEmpty = true
    · exact concat_meets ⟨_, h1, rfl⟩ ⟨_, h2, rfl⟩ noFill_tuple_add seq_tuple_add PySem.F.slot_tuple_add PySem.F.entry_tuple_add (PySem.F.args_tuple_add_2 _ _)
        (tuple_addW1 l b vs us n n2 none none #[] #[] hv hw) ⟨h1, h2, h01 (by simpa using hw)⟩
    · exact concat_meets ⟨_, h1, rfl⟩ ⟨_, h2, rfl⟩ noFill_tuple_add seq_tuple_add PySem.F.slot_tuple_add PySem.F.entry_tuple_add (PySem.F.args_tuple_add_2 _ _)
        (tuple_addW2 l b vs us n n2 none none #[] #[] hv hw hsz) ⟨h1, h2, h⟩

theorem list_add' (l b : Addr) {vs us : Array Value} {n n2 : Nat} {Q : Value → Shared → Prop} {prog : Program} {w : World} {A : Around} {E : Value → Shared → Prop}
    (h1 : s.heap.get? l = some (listObj vs n)) (h2 : s.heap.get? b = some (listObj us n2)) (hsz : vs.size + us.size ≤ sizeLine)
    (h : Q (.ref s.heap.objs.size) { s with heap := s.heap.push (listObj (vs ++ us) 0) }) :
    wpAny (model prog w) A (binaryOp .Add (.ref l) (.ref b)) Q E s :=
  concat_meets ⟨_, h1, rfl⟩ ⟨_, h2, rfl⟩ noFill_list_add seq_list_add PySem.F.slot_list_add PySem.F.entry_list_add (PySem.F.args_list_add_2 _ _) (list_addW l b vs us n n2 none none #[] #[] hsz) ⟨h1, h2, h⟩

theorem binR_sound {op : Operator} {d1 d2 d : PyData} (h : BinR op d1 d2 d) (x : St F P ρ mu m s) {v1 v2 : Value} (r1 : Rep F.prog F.w mu s.heap v1 d1) (r2 : Rep F.prog F.w mu s.heap v2 d2) :
    wpAny (model F.prog F.w) F.A (binaryOp op v1 v2) (fun v s' => Go s s' ∧ Rep F.prog F.w mu s'.heap v d) (fun _ _ => False) s := by
  cases h with
  | addInt =>
    obtain ⟨t, rfl⟩ := r1.int_inv; obtain ⟨u, rfl⟩ := r2.int_inv
    exact PyProof.Rows.add_int ⟨Go.toks s _, .int _ _⟩
  | subInt =>
    obtain ⟨t, rfl⟩ := r1.int_inv; obtain ⟨u, rfl⟩ := r2.int_inv
    exact PyProof.Rows.sub_int ⟨Go.toks s _, .int _ _⟩
  | modInt hb =>
    obtain ⟨t, rfl⟩ := r1.int_inv; obtain ⟨u, rfl⟩ := r2.int_inv
    exact PyProof.Rows.mod_int hb ⟨Go.toks s _, .int _ _⟩
  | addStr hsz =>
    obtain ⟨t, rfl⟩ := r1.str_inv; obtain ⟨u, rfl⟩ := r2.str_inv
    exact SB.add (fun t' k => ⟨Go.toks s _, .str _ _⟩) hsz
  | mulStr hok =>
    obtain ⟨t, rfl⟩ := r1.str_inv; obtain ⟨u, rfl⟩ := r2.int_inv
    exact SB.mul hok (fun t' k => ⟨Go.toks s _, .str _ _⟩)
  | addList hsz =>
    obtain ⟨a, vs, n, rfl, ha, ga, ra⟩ := r1.list_inv
    obtain ⟨b, us, n2, rfl, hb, gb, rb⟩ := r2.list_inv
    have e1 := ra.length
    have e2 := rb.length
    simp only [Array.length_toList] at e1 e2
    refine list_add' a b ga gb (by omega) ⟨Go.push s _, ?_⟩
    refine .list (x.fresh_mu (fresh_size _)) (Heap.get?_push_size _ rfl) ?_
    rw [Array.toList_append]
    exact (ra.append rb).keep fun b o e => Heap.get?_push_of_some _ e
  | addTup hsz =>
    obtain ⟨a, vs, n, rfl, ha, ga, ra⟩ := r1.tuple_inv
    obtain ⟨b, us, n2, rfl, hb, gb, rb⟩ := r2.tuple_inv
    have e1 := ra.length
    have e2 := rb.length
    simp only [Array.length_toList] at e1 e2
    refine tuple_add a b ga gb (by omega) (fun hv => ⟨Go.refl s, ?_⟩) (fun hu => ⟨Go.refl s, ?_⟩) ⟨Go.push s _, ?_⟩
    · rw [hv] at ra; cases ra; exact .tuple hb gb rb
    · rw [hu] at rb; cases rb; rw [List.append_nil]; exact .tuple ha ga ra
    · refine .tuple (x.fresh_mu (fresh_size _)) (Heap.get?_push_size _ rfl) ?_
      rw [Array.toList_append]
      exact (ra.append rb).keep fun b o e => Heap.get?_push_of_some _ e

theorem Ev.bin {l r : Expr} {op : Operator} {pos : Pos} {d1 d2 d : PyData} (h1 : Ev F ρ l d1) (h2 : Ev F ρ r d2) (h : BinR op d1 d2 d) : Ev F ρ (.BinOp l op r pos) d := .of fun P mu m s x =>
  wpAny_BinOp (wpAny_mono (h1.run P mu m s x) (fun v1 s₁ ⟨g1, r1⟩ => wpAny_mono (h2.run P mu m s₁ (x.keeps g1)) (fun v2 s₂ ⟨g2, r2⟩ =>
    wpAny_mono (binR_sound h ((x.keeps g1).keeps g2) (r1.keep g2.heap) r2) (fun v s₃ ⟨g3, r3⟩ => ⟨(g1.trans g2).trans g3, r3⟩) fun _ _ h => h) fun _ _ h => h) fun _ _ h => h)

/-- a list out of two -/
theorem list_add (l b : Addr) {vs us : Array Value} {n n2 : Nat} {Q : Value → Shared → Prop} {prog : Program} {w : World} {A : Around} {E : Value → Shared → Prop}
    (h1 : s.heap.get? l = some (listObj vs n)) (h2 : s.heap.get? b = some (listObj us n2)) (hsz : vs.size + us.size ≤ sizeLine)
    (h : Q (.ref s.heap.objs.size) { s with heap := s.heap.push (listObj (vs ++ us) 0) }) :
    wpAny (model prog w) A (binaryOp .Add (.ref l) (.ref b)) Q E s :=
  concat_meets ⟨_, h1, rfl⟩ ⟨_, h2, rfl⟩ noFill_list_add seq_list_add PySem.F.slot_list_add PySem.F.entry_list_add (PySem.F.args_list_add_2 _ _) (list_addW l b vs us n n2 none none #[] #[] hsz) ⟨h1, h2, h⟩

/-- a list pushed onto the heap is new -/
theorem newList_own (x : St F P ρ mu m s) {vs : Array Value} {ds : List PyData} {n t : Nat} (r : Reps F.prog F.w mu s.heap vs.toList ds) :
    OwnR F (fun b => mu b ∨ b = s.heap.objs.size) (s.heap.push (listObj vs n)) s.heap.objs.size (.list ds) :=
  ⟨vs, n, Heap.get?_push_size _ rfl, r.mono fun b o hm e => ⟨Heap.get?_push_of_some _ e, fun h => h.elim hm fun e' => by rw [e', fresh_size] at e; cases e⟩⟩

theorem OwnR.shift {mu : Addr → Prop} {a : Addr} {h : Heap} {d : PyData} {mu' : Addr → Prop} (x : OwnR F mu' h a d) (e : ∀ b, mu' b ↔ (mu b ∨ b = a)) : OwnR F (fun b => mu b ∨ b = a) h a d := by
  have : mu' = fun b => mu b ∨ b = a := funext fun b => propext (e b)
  rw [← this]; exact x
theorem Go.fresh {s s' : Shared} (g : Go s s') {a : Addr} (h : s'.heap.get? a = none) : s.heap.get? a = none := by
  cases q : s.heap.get? a with
  | none => rfl
  | some o =>
    have := g.heap _ _ q
    rw [h] at this
    cases this
theorem EvNew.ofGo {e : Expr} {d : PyData} (h : ∀ P mu m s, St F P ρ mu m s → wpAny (model F.prog F.w) F.A (eval e F.env) (fun v s' => ∃ s₁, Go s s₁ ∧ Go s₁ s' ∧ ∃ a, v = .ref a ∧ s₁.heap.get? a = none ∧ OwnR F (fun b => mu b ∨ b = a) s'.heap a d) (fun _ _ => False) s) : EvNew F ρ e d := .of fun P mu m s x =>
  wpAny_mono (h P mu m s x) (fun v s' ⟨s₁, g1, g2, a, e, ha, r⟩ => ⟨g1.trans g2, a, e, g1.fresh ha, r⟩) fun _ _ h => h

theorem EvNew.addList {l r : Expr} {pos : Pos} {xs ys : List PyData} (h1 : Ev F ρ l (.list xs)) (h2 : Ev F ρ r (.list ys)) (hsz : xs.length + ys.length ≤ sizeLine) : EvNew F ρ (.BinOp l .Add r pos) (.list (xs ++ ys)) :=
  EvNew.ofGo fun P mu m s x => wpAny_BinOp (wpAny_mono (h1.run P mu m s x) (fun v1 s₁ ⟨g1, r1⟩ => wpAny_mono (h2.run P mu m s₁ (x.keeps g1)) (fun v2 s₂ ⟨g2, r2⟩ => by
    obtain ⟨a, vs, n, rfl, ha, ga, ra⟩ := (r1.keep g2.heap).list_inv
    obtain ⟨b, us, n2, rfl, hb, gb, rb⟩ := r2.list_inv
    have e1 := ra.length
    have e2 := rb.length
    simp only [Array.length_toList] at e1 e2
    refine list_add a b ga gb (by omega) ⟨s₂, g1.trans g2, Go.push s₂ _, _, rfl, fresh_size _, ?_⟩
    refine newList_own (t := 0) ((x.keeps g1).keeps g2) ?_
    rw [Array.toList_append]
    exact ra.append rb) fun _ _ h => h) fun _ _ h => h)

theorem EvL.nil : EvL F ρ [] [] := .of fun P mu m s pos x => wpAny_items_nil ⟨Go.refl s, .nil⟩
theorem EvL.cons {e : Expr} {es : List Expr} {d : PyData} {ds : List PyData} (h : Ev F ρ e d) (hs : EvL F ρ es ds) (he : starEach (e :: es) F.env = (false, eval e F.env) :: starEach es F.env) : EvL F ρ (e :: es) (d :: ds) := .of fun P mu m s pos x =>
  wpAny_items_cons (wpAny_mono (h.run P mu m s x) (fun v s₁ ⟨g1, r1⟩ => wpAny_mono (hs.run P mu m s₁ pos (x.keeps g1)) (fun vs s₂ ⟨g2, r2⟩ => ⟨g1.trans g2, .cons (r1.keep g2.heap) r2⟩) fun _ _ h => h) fun _ _ h => h) he

theorem EvNew.list {es : List Expr} {pos : Pos} {ds : List PyData} (h : EvL F ρ es ds) (hsz : ds.length ≤ sizeLine) : EvNew F ρ (.List es pos) (.list ds) :=
  EvNew.ofGo fun P mu m s x => wpAny_List (wpAny_mono (h.run P mu m s pos x) (fun vs s₁ ⟨g1, r1⟩ => by
    refine ⟨by rw [r1.length]; exact hsz, s₁, g1, Go.push s₁ _, _, rfl, fresh_size _, newList_own (t := 0) (x.keeps g1) (by simpa using r1)⟩) fun _ _ h => h)
theorem Ev.tuple {es : List Expr} {k : Nat} {pos : Pos} {ds : List PyData} (h : EvL F ρ es ds) (hsz : ds.length ≤ sizeLine) : Ev F ρ (.Tuple es k pos) (.tuple ds) := .of fun P mu m s x =>
  wpAny_Tuple (wpAny_mono (h.run P mu m s pos x) (fun vs s₁ ⟨g1, r1⟩ => ⟨by rw [r1.length]; exact hsz, g1.trans (Go.push s₁ _),
    .tuple ((x.keeps g1).fresh_mu (fresh_size _)) (Heap.get?_push_size _ rfl) (by simpa using r1.keep fun b o e => Heap.get?_push_of_some _ e)⟩) fun _ _ h => h)

/-! ### comparisons and tests -/

inductive CmpR : CmpOp → PyData → PyData → Bool → Prop
  | eq {d1 d2 : PyData} (h1 : SeqAt.shaped d1 = true) (h2 : SeqAt.shaped d2 = true) : CmpR .Eq d1 d2 (PyData.eqv d1 d2)
  | ne {d1 d2 : PyData} (h1 : SeqAt.shaped d1 = true) (h2 : SeqAt.shaped d2 = true) : CmpR .NotEq d1 d2 (!PyData.eqv d1 d2)
  | eqStr {x y : Str} : CmpR .Eq (.str x) (.str y) (decide (x = y))
  | neStr {x y : Str} : CmpR .NotEq (.str x) (.str y) (!decide (x = y))
  | eqInt {x y : Int} : CmpR .Eq (.int x) (.int y) (decide (x = y))
  | neInt {x y : Int} : CmpR .NotEq (.int x) (.int y) (!decide (x = y))
  | ltInt {x y : Int} : CmpR .Lt (.int x) (.int y) (decide (x < y))
  | leInt {x y : Int} : CmpR .LtE (.int x) (.int y) (decide (x ≤ y))
  | gtInt {x y : Int} : CmpR .Gt (.int x) (.int y) (decide (x > y))
  | geInt {x y : Int} : CmpR .GtE (.int x) (.int y) (decide (x ≥ y))
  | ltStr {x y : Str} : CmpR .Lt (.str x) (.str y) (decide (x.cps.toList < y.cps.toList))
  | inMap {k : Int} {es : List (Int × Int)} : CmpR .In (.int k) (imap es) (es.lookup k).isSome

theorem canLay0_plain_aux : (∀ d : PyData, d.canLay0 = true → plainD d = true) ∧ (∀ ds : List PyData, PyData.canLayAll0 ds = true → plainDs ds = true) := by
  constructor
  · intro d
    exact PyData.rec (motive_1 := fun d => d.canLay0 = true → plainD d = true) (motive_2 := fun ds => PyData.canLayAll0 ds = true → plainDs ds = true) (motive_3 := fun _ => True) (motive_4 := fun _ => True)
      (fun _ => rfl) (fun _ _ => rfl) (fun _ _ => rfl) (fun _ _ => rfl) (fun xs ih h => by simpa [plainD] using ih (by simpa [PyData.canLay0] using h)) (fun xs ih h => by simpa [plainD] using ih (by simpa [PyData.canLay0] using h))
      (fun _ _ h => by simp [PyData.canLay0] at h) (fun _ => rfl) (fun x xs h1 h2 h => by simp only [PyData.canLayAll0, Bool.and_eq_true] at h; simp [plainDs, h1 h.1, h2 h.2]) trivial (fun _ _ _ _ => trivial) (fun _ _ _ _ => trivial) d
  · intro ds
    induction ds with
    | nil => intro _; rfl
    | cons x xs ih =>
      intro h
      simp only [PyData.canLayAll0, Bool.and_eq_true] at h
      have h1 : plainD x = true := by
        exact PyData.rec (motive_1 := fun d => d.canLay0 = true → plainD d = true) (motive_2 := fun ds => PyData.canLayAll0 ds = true → plainDs ds = true) (motive_3 := fun _ => True) (motive_4 := fun _ => True)
          (fun _ => rfl) (fun _ _ => rfl) (fun _ _ => rfl) (fun _ _ => rfl) (fun xs ih h => by simpa [plainD] using ih (by simpa [PyData.canLay0] using h)) (fun xs ih h => by simpa [plainD] using ih (by simpa [PyData.canLay0] using h))
          (fun _ _ h => by simp [PyData.canLay0] at h) (fun _ => rfl) (fun x xs h1 h2 h => by simp only [PyData.canLayAll0, Bool.and_eq_true] at h; simp [plainDs, h1 h.1, h2 h.2]) trivial (fun _ _ _ _ => trivial) (fun _ _ _ _ => trivial) x h.1
      simp [plainDs, h1, ih h.2]
theorem plain_of_shaped {d : PyData} (h : SeqAt.shaped d = true) : plainD d = true := canLay0_plain_aux.1 d (SeqAt.canLay_of_shaped h)

theorem cmpR_sound {op : CmpOp} {d1 d2 : PyData} {b : Bool} (h : CmpR op d1 d2 b) (x : St F P ρ mu m s) {v1 v2 : Value} (r1 : Rep F.prog F.w mu s.heap v1 d1) (r2 : Rep F.prog F.w mu s.heap v2 d2) :
    wpAny (model F.prog F.w) F.A (compareOp op v1 v2) (fun v s' => Go s s' ∧ v = .bool b) (fun _ _ => False) s := by
  have hu : F.A.units + 64 < cLine := by have := x.ok.units; omega
  cases h with
  | eq h1 h2 =>
    obtain ⟨as, q1⟩ := r1.reads (plain_of_shaped h1); obtain ⟨bs, q2⟩ := r2.reads (plain_of_shaped h2)
    exact SeqAt.compareEq_shaped q1 q2 h1 h2 hu ⟨Go.refl s, rfl⟩
  | ne h1 h2 =>
    obtain ⟨as, q1⟩ := r1.reads (plain_of_shaped h1); obtain ⟨bs, q2⟩ := r2.reads (plain_of_shaped h2)
    exact SeqAt.compareNe_shaped q1 q2 h1 h2 hu ⟨Go.refl s, rfl⟩
  | @eqStr a b =>
    obtain ⟨t, rfl⟩ := r1.str_inv; obtain ⟨u, rfl⟩ := r2.str_inv
    refine PySem.P.eq_str ⟨Go.refl s, ?_⟩
    congr 1
    rw [Bool.eq_iff_iff]
    simp only [beq_iff_eq, decide_eq_true_eq]
    exact ⟨fun h => by cases a; cases b; simp only [Str.mk.injEq]; exact Array.toList_inj.mp h, fun h => by rw [h]⟩
  | @neStr a b =>
    obtain ⟨t, rfl⟩ := r1.str_inv; obtain ⟨u, rfl⟩ := r2.str_inv
    refine PySem.P.ne_str ⟨Go.refl s, ?_⟩
    congr 1
    rw [Bool.eq_iff_iff]
    simp only [bne_iff_ne, Bool.not_eq_true', decide_eq_false_iff_not]
    exact ⟨fun h h' => h (by rw [h']), fun h h' => h (by cases a; cases b; simp only [Str.mk.injEq]; exact Array.toList_inj.mp h')⟩
  | @eqInt a b =>
    obtain ⟨t, rfl⟩ := r1.int_inv; obtain ⟨u, rfl⟩ := r2.int_inv
    refine PyProof.Rows.eq_int ⟨Go.refl s, ?_⟩
    congr 1
  | @neInt a b =>
    obtain ⟨t, rfl⟩ := r1.int_inv; obtain ⟨u, rfl⟩ := r2.int_inv
    refine PyProof.Rows.ne_int ⟨Go.refl s, ?_⟩
    congr 1
  | ltInt =>
    obtain ⟨t, rfl⟩ := r1.int_inv; obtain ⟨u, rfl⟩ := r2.int_inv
    exact PySem.P.lt_int ⟨Go.refl s, rfl⟩
  | leInt =>
    obtain ⟨t, rfl⟩ := r1.int_inv; obtain ⟨u, rfl⟩ := r2.int_inv
    exact PySem.P.le_int ⟨Go.refl s, rfl⟩
  | gtInt =>
    obtain ⟨t, rfl⟩ := r1.int_inv; obtain ⟨u, rfl⟩ := r2.int_inv
    exact PySem.P.gt_int ⟨Go.refl s, rfl⟩
  | geInt =>
    obtain ⟨t, rfl⟩ := r1.int_inv; obtain ⟨u, rfl⟩ := r2.int_inv
    exact PySem.P.ge_int ⟨Go.refl s, rfl⟩
  | ltStr =>
    obtain ⟨t, rfl⟩ := r1.str_inv; obtain ⟨u, rfl⟩ := r2.str_inv
    exact PySem.P.lt_str ⟨Go.refl s, rfl⟩
  | @inMap k es =>
    obtain ⟨t, rfl⟩ := r1.int_inv
    have : ∃ a, v2 = .ref a ∧ IMapAt F.prog F.w s.heap a es := by
      generalize hd : imap es = d at r2
      cases r2 with
      | @imap a es' hm hg =>
        refine ⟨a, rfl, ?_⟩
        have : es = es' := by
          simp only [imap, PyData.dict.injEq] at hd
          have hinj : Function.Injective (fun p : Int × Int => (PyData.int p.1, PyData.int p.2)) := fun p q h => by
            obtain ⟨p1, p2⟩ := p; obtain ⟨q1, q2⟩ := q
            simp only [Prod.mk.injEq, PyData.int.injEq] at h
            rw [h.1, h.2]
          exact (List.map_inj_right (fun _ _ h => hinj h)).mp hd
        rw [this]; exact hg
      | _ => simp [imap] at hd
    obtain ⟨a, rfl, this⟩ := this
    obtain ⟨hs, f, hm, h1, h2⟩ := this.look
    refine wpAny_in_of (intKind_is F.prog F.w k t) hs hm ⟨Go.toks s _, ?_⟩
    congr 1
    cases e : es.lookup k with
    | none => rw [h1 k e]; rfl
    | some v => obtain ⟨t, ht⟩ := h2 k v e; rw [ht]; rfl

theorem Tr.cmp {l r : Expr} {op : CmpOp} {pos : Pos} {d1 d2 : PyData} {b : Bool} (h1 : Ev F ρ l d1) (h2 : Ev F ρ r d2) (h : CmpR op d1 d2 b) (hm : behindInMarks op r = false) : Tr F ρ (.Compare l [op] [r] pos) b := .of fun P mu m s x =>
  wpAny_isTrue_Compare1 (wpAny_mono (h1.run P mu m s x) (fun v1 s₁ ⟨g1, r1⟩ => wpAny_mono (h2.run P mu m s₁ (x.keeps g1)) (fun v2 s₂ ⟨g2, r2⟩ =>
    wpAny_mono (cmpR_sound h ((x.keeps g1).keeps g2) (r1.keep g2.heap) r2) (fun v s₃ ⟨g3, e⟩ => by
      subst e; exact wpAny_truthy_bool ⟨(g1.trans g2).trans g3, rfl⟩) fun _ _ h => h) fun _ _ h => h) fun _ _ h => h) hm

theorem Tr.not {e : Expr} {pos : Pos} {b : Bool} (h : Tr F ρ e b) : Tr F ρ (.UnaryOp .Not e pos) (!b) := .of fun P mu m s x =>
  wpAny_isTrue_Not (wpAny_mono (h.run P mu m s x) (fun b' s₁ ⟨g, e⟩ => ⟨g, by rw [e]⟩) fun _ _ h => h)

/-- a row of tests joined by and, or -/
structure TrA (F : Fx) (ρ : List (Option AV)) (op : BoolOp) (es : List Expr) (b : Bool) : Prop where
  of ::
  run : ∀ P mu m s, St F P ρ mu m s →
  wpAny (model F.prog F.w) F.A (allTrue op es F.env) (fun b' s' => Go s s' ∧ b' = b) (fun _ _ => False) s
theorem Tr.bool {op : BoolOp} {es : List Expr} {pos : Pos} {b : Bool} (h : TrA F ρ op es b) : Tr F ρ (.BoolOp op es pos) b := .of fun P mu m s x => wpAny_isTrue_BoolOp (h.run P mu m s x)
theorem TrA.andNil : TrA F ρ .And [] true := .of fun P mu m s x => wpAny_allTrue_And_nil ⟨Go.refl s, rfl⟩
theorem TrA.orNil : TrA F ρ .Or [] false := .of fun P mu m s x => wpAny_allTrue_Or_nil ⟨Go.refl s, rfl⟩
theorem TrA.andF {e : Expr} {es : List Expr} (h : Tr F ρ e false) : TrA F ρ .And (e :: es) false := .of fun P mu m s x =>
  wpAny_allTrue_And_cons (wpAny_mono (h.run P mu m s x) (fun b' s₁ ⟨g, e⟩ => by subst e; exact ⟨g, rfl⟩) fun _ _ h => h)
theorem TrA.andT {e : Expr} {es : List Expr} {b : Bool} (h : Tr F ρ e true) (hs : TrA F ρ .And es b) : TrA F ρ .And (e :: es) b := .of fun P mu m s x =>
  wpAny_allTrue_And_cons (wpAny_mono (h.run P mu m s x) (fun b' s₁ ⟨g, e⟩ => by subst e; exact wpAny_mono (hs.run P mu m s₁ (x.keeps g)) (fun b' s₂ ⟨g2, e⟩ => ⟨g.trans g2, e⟩) fun _ _ h => h) fun _ _ h => h)
theorem TrA.orT {e : Expr} {es : List Expr} (h : Tr F ρ e true) : TrA F ρ .Or (e :: es) true := .of fun P mu m s x =>
  wpAny_allTrue_Or_cons (wpAny_mono (h.run P mu m s x) (fun b' s₁ ⟨g, e⟩ => by subst e; exact ⟨g, rfl⟩) fun _ _ h => h)
theorem TrA.orF {e : Expr} {es : List Expr} {b : Bool} (h : Tr F ρ e false) (hs : TrA F ρ .Or es b) : TrA F ρ .Or (e :: es) b := .of fun P mu m s x =>
  wpAny_allTrue_Or_cons (wpAny_mono (h.run P mu m s x) (fun b' s₁ ⟨g, e⟩ => by subst e; exact wpAny_mono (hs.run P mu m s₁ (x.keeps g)) (fun b' s₂ ⟨g2, e⟩ => ⟨g.trans g2, e⟩) fun _ _ h => h) fun _ _ h => h)
theorem Tr.eq {e : Expr} {b b' : Bool} (h : Tr F ρ e b) (hb : b = b') : Tr F ρ e b' := hb ▸ h
theorem Ev.eq {e : Expr} {d d' : PyData} (h : Ev F ρ e d) (hd : d = d') : Ev F ρ e d' := hd ▸ h
end
end Mine
namespace Mine
open PySem PyProof.Rows
set_option linter.unusedVariables false
set_option linter.unusedSectionVars false

section
variable {F : Fx} {P : Prot} {ρ : List (Option AV)} {mu : Addr → Prop} {m : Str → Option Value} {s s' : Shared}

theorem Ev.neg {e : Expr} {i : Int} {pos : Pos} (h : Ev F ρ e (.int i)) : Ev F ρ (.UnaryOp .USub e pos) (.int (-i)) := .of fun P mu m s x =>
  wpAny_UnaryOp (wpAny_mono (h.run P mu m s x) (fun v s₁ ⟨g, r⟩ => by obtain ⟨t, rfl⟩ := r.int_inv; exact PySem.P.neg_int ⟨g.trans (Go.toks s₁ _), .int _ _⟩) fun _ _ h => h)

/-! ### items -/
inductive SubR : PyData → PyData → PyData → Prop
  | list {xs : List PyData} {i : Int} {d : PyData} (h0 : 0 ≤ i) (hf : i < 2 ^ 63) (h : xs[i.toNat]? = some d) : SubR (.list xs) (.int i) d
  | listNeg {xs : List PyData} {i : Int} {d : PyData} (h0 : i < 0) (hf : -(2 ^ 63) ≤ i) (h1 : -(xs.length : Int) ≤ i) (h : xs[(i + xs.length).toNat]? = some d) : SubR (.list xs) (.int i) d
  | tuple {xs : List PyData} {i : Int} {j : Nat} {d : PyData} (h0 : -(2 ^ 63) ≤ i) (hf : i < 2 ^ 63) (hj : seqIndex? i xs.length = some j) (h : xs[j]? = some d) : SubR (.tuple xs) (.int i) d
  | map {es : List (Int × Int)} {k v : Int} (h : es.lookup k = some v) : SubR (imap es) (.int k) (.int v)
  | str {x : Str} {i : Int} (hr : fitsSsize i = true) (hin : (Txt.charAt x i).isSome = true) : SubR (.str x) (.int i) (.str (Txt.item x i))

theorem imap_inj {es es' : List (Int × Int)} (hd : imap es = imap es') : es = es' := by
  simp only [imap, PyData.dict.injEq] at hd
  exact (List.map_inj_right (fun p q h => by
    obtain ⟨p1, p2⟩ := p; obtain ⟨q1, q2⟩ := q
    simp only [Prod.mk.injEq, PyData.int.injEq] at h
    rw [h.1, h.2])).mp hd
theorem Rep.imap_inv {prog : Program} {w : World} {mu : Addr → Prop} {h : Heap} {v : Value} {es : List (Int × Int)} (x : Rep prog w mu h v (Mine.imap es)) : ∃ a, v = .ref a ∧ ¬ mu a ∧ IMapAt prog w h a es := by
  generalize hd : Mine.imap es = d at x
  cases x with
  | @imap a es' hm hg => rw [imap_inj hd]; exact ⟨a, rfl, hm, hg⟩
  | _ => simp [Mine.imap] at hd

theorem subR_sound {value slice : Expr} {d1 d2 d : PyData} (h : SubR d1 d2 d) (x : St F P ρ mu m s) {v1 v2 : Value} (r1 : Rep F.prog F.w mu s.heap v1 d1) (r2 : Rep F.prog F.w mu s.heap v2 d2)
    (hs : ∀ o i, subscripted slice false o i = operate [o, i] (getItem o i)) :
    wpAny (model F.prog F.w) F.A (subscriptTail value slice v1 v2) (fun v s' => Go s s' ∧ Rep F.prog F.w mu s'.heap v d) (fun _ _ => False) s := by
  cases h with
  | @list xs i d h0 hf h =>
    obtain ⟨t, rfl⟩ := r2.int_inv
    obtain ⟨a, vs, n, rfl, ha, ga, ra⟩ := r1.list_inv
    obtain ⟨v, hv, rv⟩ := ra.get h
    have hl : s.heap.IsList a vs := ⟨_, ga, rfl, n, rfl⟩
    exact tail_any hl.typeIs slot_list_getitem.lookup (wpAny_getItem_list hl h0 hf (by simpa using hv) ⟨Go.refl s, rv⟩) (hs _ _)
  | @listNeg xs i d h0 hf h1 h =>
    obtain ⟨t, rfl⟩ := r2.int_inv
    obtain ⟨a, vs, n, rfl, ha, ga, ra⟩ := r1.list_inv
    have e1 := ra.length
    simp only [Array.length_toList] at e1
    obtain ⟨v, hv, rv⟩ := ra.get h
    have hl : s.heap.IsList a vs := ⟨_, ga, rfl, n, rfl⟩
    exact tail_any hl.typeIs slot_list_getitem.lookup (wpAny_getItem_list_neg hl h0 (by rw [e1]; exact h1) hf (by rw [e1]; simpa using hv) ⟨Go.refl s, rv⟩) (hs _ _)
  | @tuple xs i j d h0 hf hj h =>
    obtain ⟨t, rfl⟩ := r2.int_inv
    obtain ⟨a, vs, n, rfl, ha, ga, ra⟩ := r1.tuple_inv
    have e1 := ra.length
    obtain ⟨v, hv, rv⟩ := ra.get h
    exact item_tupleT (l := vs.toList) ⟨_, ga, rfl, n, by simp⟩ h0 hf (by rw [e1]; exact hj) hv ⟨Go.refl s, rv⟩ (hs _ _)
  | @map es k v h =>
    obtain ⟨t, rfl⟩ := r2.int_inv
    obtain ⟨a, rfl, ha, hat⟩ := r1.imap_inv
    obtain ⟨hsm, f, hm, h1, h2⟩ := hat.look
    obtain ⟨u, hu⟩ := h2 k v h
    exact tail_any hm.typeIs slot_dict_getitem.lookup (wpAny_getItem_of (intKind_is F.prog F.w k t) hm hu ⟨Go.toks s _, .int _ _⟩) (hs _ _)
  | @str y i hr hin =>
    obtain ⟨t, rfl⟩ := r1.str_inv
    obtain ⟨u, rfl⟩ := r2.int_inv
    exact tail_any (typeIs_str s y t) PySem.F.slot_str_getitem.lookup (SB.getItem hr hin ⟨Go.toks s _, .str _ _⟩) (hs _ _)

theorem Ev.sub {l r : Expr} {pos : Pos} {d1 d2 d : PyData} (h1 : Ev F ρ l d1) (h2 : Ev F ρ r d2) (h : SubR d1 d2 d) (hs : ∀ o i, subscripted r false o i = operate [o, i] (getItem o i)) : Ev F ρ (.Subscript l r pos) d := .of fun P mu m s x =>
  Subscript_ (wpAny_mono (h1.run P mu m s x) (fun v1 s₁ ⟨g1, r1⟩ => wpAny_mono (h2.run P mu m s₁ (x.keeps g1)) (fun v2 s₂ ⟨g2, r2⟩ =>
    wpAny_mono (subR_sound h ((x.keeps g1).keeps g2) (r1.keep g2.heap) r2 hs) (fun v s₃ ⟨g3, r3⟩ => ⟨(g1.trans g2).trans g3, r3⟩) fun _ _ h => h) fun _ _ h => h) fun _ _ h => h)

/-- an end of a cut -/
noncomputable def EvP (F : Fx) (ρ : List (Option AV)) : Option Expr → Option Int → Prop
  | none, none => True
  | some e, some i => Ev F ρ e (.int i)
  | _, _ => False
theorem evP_wp {lo : Option Expr} {i : Option Int} (h : EvP F ρ lo i) (x : St F P ρ mu m s) : wpAny (model F.prog F.w) F.A (evalPart lo F.env) (fun v s' => Go s s' ∧ IsPart v i) (fun _ _ => False) s := by
  cases lo with
  | none =>
    cases i with
    | none => exact wpAny_pure ⟨Go.refl s, .none⟩
    | some i => exact h.elim
  | some e =>
    cases i with
    | none => exact h.elim
    | some i => exact wpAny_mono (h.run P mu m s x) (fun v s₁ ⟨g, r⟩ => ⟨g, by obtain ⟨t, rfl⟩ := r.int_inv; exact .int i t⟩) fun _ _ h => h

/-- the cut of any list as the cut of the values is made -/
noncomputable def pick {α : Type} (xs : List α) (lo hi : Option Int) : List α :=
  (sliceRange (sliceBounds lo hi none xs.length).1 (sliceBounds lo hi none xs.length).2.1 (sliceBounds lo hi none xs.length).2.2).filterMap (xs[·]?)
theorem reps_filterMap {prog : Program} {w : World} {mu : Addr → Prop} {h : Heap} {vs : List Value} {ds : List PyData} (r : Reps prog w mu h vs ds) : ∀ l : List Nat, Reps prog w mu h (l.filterMap (vs[·]?)) (l.filterMap (ds[·]?))
  | [] => .nil
  | k :: l => by
    have ih := reps_filterMap r l
    cases e : ds[k]? with
    | none =>
      have : vs[k]? = none := by
        have h1 := r.length
        rw [List.getElem?_eq_none_iff] at e ⊢; omega
      simp only [List.filterMap_cons, e, this]; exact ih
    | some d =>
      obtain ⟨v, hv, rv⟩ := r.get e
      simp only [List.filterMap_cons, e, hv]
      exact .cons rv ih

theorem EvNew.slice {value : Expr} {lo hi : Option Expr} {p pos : Pos} {xs : List PyData} {i j : Option Int} (h : Ev F ρ value (.list xs)) (h1 : EvP F ρ lo i) (h2 : EvP F ρ hi j) (hsz : xs.length ≤ sizeLine)
    (ht : ∀ o r, letTemporaryGo value o r = pure ()) : EvNew F ρ (.Subscript value (.Slice lo hi none p) pos) (.list (pick xs i j)) :=
  EvNew.ofGo fun P mu m s x => wpAny_Subscript_list_slice (wpAny_mono (h.run P mu m s x) (fun o s₁ ⟨g1, r1⟩ => wpAny_mono (evP_wp h1 (x.keeps g1)) (fun vl s₂ ⟨g2, p1⟩ =>
    wpAny_mono (evP_wp h2 ((x.keeps g1).keeps g2)) (fun vu s₃ ⟨g3, p2⟩ => by
      obtain ⟨a, vs, n, rfl, ha, ga, ra⟩ := (r1.keep (fun b o e => g3.heap b o (g2.heap b o e))).list_inv
      have e1 := ra.length
      simp only [Array.length_toList] at e1
      refine ⟨a, vs, i, j, rfl, ⟨_, ga, rfl, n, rfl⟩, by omega, p1, p2, ?_⟩
      have x3 := ((x.keeps g1).keeps g2).keeps g3
      have gp : Go s₃ { s₃ with heap := s₃.heap.push { cls := .type "slice", data := .fields #[vl, vu, .none] } } := Go.push s₃ _ (t := s₃.toks)
      refine ⟨_, ((g1.trans g2).trans g3).trans gp, Go.push _ _ (t := s₃.toks), s₃.heap.objs.size + 1, rfl, ?_, ?_⟩
      · have := fresh_size (s₃.heap.push { cls := .type "slice", data := .fields #[vl, vu, .none] })
        rwa [Heap.size_push] at this
      · have := newList_own (t := 0) (n := 0) (x3.keeps gp) (vs := slicePick vs i j none) (ds := pick xs i j) (by
          unfold slicePick pick
          rw [e1]
          have := reps_filterMap (ra.keep gp.heap) (sliceRange (sliceBounds i j none xs.length).1 (sliceBounds i j none xs.length).2.1 (sliceBounds i j none xs.length).2.2)
          simpa using this)
        dsimp only at this
        rw [Heap.size_push] at this
        exact this) fun _ _ h => h) fun _ _ h => h) fun _ _ h => h) ht

theorem Ev.sliceStr {value : Expr} {lo hi : Option Expr} {p pos : Pos} {y z : Str} {i j : Option Int} (h : Ev F ρ value (.str y)) (h1 : EvP F ρ lo i) (h2 : EvP F ρ hi j)
    (hz : ∀ (l u : Option (Int × Tok)) (t : Tok), l.map (·.1) = i → u.map (·.1) = j → sliceMade y t l u none = .val (.str y t) ∧ z = y ∨ (sliceMade y t l u none = .str z ∧ z.length ≤ sizeLine))
    (ht : ∀ o r, letTemporaryGo value o r = pure ()) : Ev F ρ (.Subscript value (.Slice lo hi none p) pos) (.str z) := .of fun P mu m s x =>
  wpAny_Subscript_str_slice (wpAny_mono (h.run P mu m s x) (fun o s₁ ⟨g1, r1⟩ => wpAny_mono (evP_wp h1 (x.keeps g1)) (fun vl s₂ ⟨g2, p1⟩ =>
    wpAny_mono (evP_wp h2 ((x.keeps g1).keeps g2)) (fun vu s₃ ⟨g3, p2⟩ => by
      obtain ⟨t, rfl⟩ := r1.str_inv
      have part : ∀ {v : Value} {k : Option Int}, IsPart v k → ∃ l : Option (Int × Tok), v = partValue l ∧ l.map (·.1) = k := fun h => by
        cases h with
        | none => exact ⟨none, rfl, rfl⟩
        | int i t => exact ⟨some (i, t), rfl, rfl⟩
      obtain ⟨l, e1, e2⟩ := part p1
      obtain ⟨u, e3, e4⟩ := part p2
      refine ⟨y, t, l, u, rfl, e1, e3, ?_⟩
      have gp := ((g1.trans g2).trans g3).trans (Go.push s₃ { cls := .type "slice", data := .fields #[vl, vu, .none] } (t := s₃.toks))
      rcases hz l u t e2 e4 with ⟨q, rfl⟩ | ⟨q, hsz⟩
      · rw [q]; exact ⟨gp, .str _ _⟩
      · rw [q]; exact ⟨hsz, gp.trans (Go.toks _ _), .str _ _⟩) fun _ _ h => h) fun _ _ h => h) fun _ _ h => h) ht
end
end Mine
namespace Mine
open PySem PyProof.Rows
set_option linter.unusedVariables false
set_option linter.unusedSectionVars false

/-- a def as it stands on the heap -/
noncomputable def fdOf (nm q : Str) (params : Arguments) (body : List Stmt) (scope : Scope) (pm cd doc ct : Value) (an : Option Addr) : FuncData :=
  { name := nm, qualname := q, params := params, body := .stmts body, scope := scope, globals := mainGlobals, closure := [], defaults := .none, kwdefaults := .none, doc := doc, pyModule := pm, annotations := an, code := cd, closureTuple := ct, builtins := builtinsNs }

noncomputable def DefAt (T : Tx) (f : Str) (params : Arguments) (body : List Stmt) (scope : Scope) : Prop :=
  ∃ a o nm q pm cd doc ct an, T.mg f = some (.ref a) ∧ T.hT.get? a = some o ∧ o.data = .func (fdOf nm q params body scope pm cd doc ct an) ∧ T.hT.CodeRec cd q

/-- called with args, the text's function f gives d -/
noncomputable def Fn (T : Tx) (lvl : Nat) (f : Str) (args : List PyData) (d : PyData) : Prop :=
  ∃ a o fd, T.mg f = some (.ref a) ∧ T.hT.get? a = some o ∧ o.data = .func fd ∧ ∀ (A : Around) (mu : Addr → Prop) (s : Shared) (vs : List Value), A.handled = none → A.units + 3 * lvl + 70 < cLine → A.depth + lvl < recursionLimit →
    (∀ b o, T.hT.get? b = some o → s.heap.get? b = some o) → (∀ a, mu a → ∃ o, s.heap.get? a = some o) → (∀ a, mu a → T.hT.get? a = none) → s.gens = #[] → Reps T.prog T.w mu s.heap vs args →
    wpAny (model T.prog T.w) A (call (.ref a) vs) (fun v s' => Go s s' ∧ Rep T.prog T.w mu s'.heap v d) (fun _ _ => False) s

theorem lookup_zip_rev : ∀ (ns : List Str) (vs : List Value), ns.Nodup → ns.length = vs.length → ∀ (i : Nat) (x : Str), ns[i]? = some x → (ns.zip vs).reverse.lookup x = vs[i]? := by
  intro ns
  induction ns with
  | nil => intro vs _ _ i x h; simp at h
  | cons n ns ih =>
    intro vs hn hl i x h
    cases vs with
    | nil => simp at hl
    | cons v vs =>
      obtain ⟨hn1, hn2⟩ := List.nodup_cons.mp hn
      have hl' : ns.length = vs.length := by simpa using hl
      simp only [List.zip_cons_cons, List.reverse_cons, List.lookup_append]
      cases i with
      | zero =>
        simp at h; subst h
        have : (ns.zip vs).reverse.lookup n = none := by
          rw [List.lookup_eq_none_iff]
          intro p hp
          have := (List.of_mem_zip (List.mem_reverse.mp hp)).1
          simp only [bne_iff_ne, ne_eq]
          intro e
          have e : n = p.1 := by simpa using e
          exact hn1 (e ▸ this)
        rw [this]; simp
      | succ i =>
        simp only [List.getElem?_cons_succ] at h ⊢
        rw [ih vs hn2 hl' i x h]
        have hi : i < vs.length := by have := (List.getElem?_eq_some_iff.mp h).1; omega
        rw [List.getElem?_eq_getElem hi]; rfl

theorem Fn.intro {T : Tx} {lvl : Nat} {f : Str} {params : Arguments} {body : List Stmt} {scope : Scope} {args : List PyData} {d : PyData} (D : DefAt T f params body scope) (hT : TopF T.hT T.mg T.mb) (ns : List Str) (pn : List Str) (rest : List Str)
    (hns : ns = pn ++ rest) (hlen : pn.length = args.length) (hnd : ns.Nodup) (hloc : ∀ x ∈ ns, scope.names.lookup x = some .local) (hdbg : ∀ x ∈ ns, (x == ("__debug__" : Str)) = false)
    (hbind : ∀ (nm q : Str) (pm cd doc ct : Value) (an : Option Addr) (vs : List Value), vs.length = args.length → bindArgs (fdOf nm q params body scope pm cd doc ct an) ⟨vs, []⟩ = pure (pn.zip vs))
    (hcell : ∀ x ∈ scope.names, x.2 ≠ .cell) (hco : scope.isCoroutine = false) (hgen : scope.isGenerator = false) (hk : scope.kind = .function)
    (h : ∀ F : Fx, F.toTx = T → F.env.scope = scope → F.ns = ns → F.cl = [] → F.lvl = lvl → Ex F (args.map (fun d => some (.dat d)) ++ List.replicate rest.length none) body (.ret d)) : Fn T (lvl + 1) f args d := by
  obtain ⟨a, o, nm, q, pm, cd, doc, ct, an, hmg, ho, hdata, hcd⟩ := D
  refine ⟨a, o, _, hmg, ho, hdata, fun A mu s vs hh hu hd htop halive hmuT hg hr => ?_⟩
  have hvl := hr.length
  refine wpAny_call (codeAny_call_def (binds := pn.zip vs) (by omega) (htop _ _ ho) hdata (by obtain ⟨mc, h1, h2⟩ := hT.lim; exact ⟨mc, h1.keeps htop, h2⟩) (hcd.keeps htop) rfl (BindsTo.of_eq (hbind nm q pm cd doc ct an vs hvl)) hcell
    (fun x hx => hloc x.1 (by rw [hns]; exact List.mem_append_left _ (List.of_mem_zip hx).1)) (fun h₀ hn hkeep => ?_) hco hgen hk)
  let L := s.heap.objs.size
  let env := callEnv (fdOf nm q params body scope pm cd doc ct an) L a
  let F : Fx := { T with A := A.deeper env, env := env, ns := ns, cl := [], os := s.os, lvl := lvl }
  let P : Prot := { pin := fun b => s.heap.get? b, mu0 := mu, gh := [] }
  have hL : s.heap.get? L = none := fresh_size _
  have hkm : ∀ b o, ¬ mu b → s.heap.get? b = some o → h₀.get? b = some o ∧ ¬ (mu b ∨ b = L) := fun b o hm e =>
    ⟨hkeep b o e, fun h => h.elim hm fun e' => by rw [e', hL] at e; cases e⟩
  have hpn : pn.Nodup := by rw [hns] at hnd; exact (List.nodup_append.mp hnd).1
  have x : St F P (args.map (fun d => some (.dat d)) ++ List.replicate rest.length none) (fun b => mu b ∨ b = L) (fun x => (pn.zip vs).reverse.lookup x) { s with heap := h₀, toks := s.toks + (pn.zip vs).length } := by
    refine ⟨⟨hk, hnd, fun x hx => hloc x hx, hdbg, hh, ?_, ?_, rfl, rfl, hT⟩, hn, .inr rfl, fun b hb => .inl hb, fun b hb => ?_, fun b hb => ?_, hkeep, htop, hL, fun i x av h1 h2 => ?_, fun i j x y d1 d2 h1 h2 h3 h4 h5 => ?_, fun p hp => (by cases hp), fun c hc => (by cases hc), hg, rfl⟩
    · show (A.deeper env).units + 3 * lvl + 70 < cLine
      rw [Around.deeper_units]; omega
    · show (A.deeper env).depth + lvl < recursionLimit
      show A.depth + 1 + lvl < recursionLimit
      omega
    · rcases hb with hb | rfl
      · exact hmuT b hb
      · cases q : T.hT.get? s.heap.objs.size with
        | none => rfl
        | some o => have := htop _ _ q; rw [fresh_size] at this; cases this
    · rcases hb with hb | rfl
      · obtain ⟨o, ho⟩ := halive b hb; exact ⟨o, hkeep _ _ ho⟩
      · obtain ⟨o, _, _, ho, _⟩ := hn; exact ⟨o, ho⟩
    · have hi : i < args.length := by
        apply Classical.byContradiction
        intro hi
        rw [List.getElem?_append_right (by simp; omega), List.getElem?_replicate] at h2
        split at h2 <;> cases h2
      rw [List.getElem?_append_left (by simpa using hi), List.getElem?_map, List.getElem?_eq_getElem hi] at h2
      simp only [Option.map_some, Option.some.injEq] at h2
      subst h2
      obtain ⟨v, hv, rv⟩ := hr.get (List.getElem?_eq_getElem hi)
      refine ⟨v, ?_, rv.mono hkm⟩
      have h1' : pn[i]? = some x := by
        have : ns[i]? = some x := h1
        rw [hns, List.getElem?_append_left (by omega)] at this; exact this
      show (pn.zip vs).reverse.lookup x = some v
      rw [lookup_zip_rev pn vs hpn (by omega) i x h1', hv]
    · exfalso
      have hi : i < args.length := by
        apply Classical.byContradiction
        intro hi
        rw [List.getElem?_append_right (by simp; omega), List.getElem?_replicate] at h3
        split at h3 <;> cases h3
      rw [List.getElem?_append_left (by simpa using hi), List.getElem?_map, List.getElem?_eq_getElem hi] at h3
      simp at h3
  refine wpAny_mono ((h F rfl rfl rfl rfl rfl).run P _ _ _ x) (fun fl s' ⟨v, e, rv, hkp, hg', hos⟩ => ?_) fun _ _ h => h.elim
  subst e
  exact ⟨⟨hkp, hg'.trans hg.symm, hos⟩, rv⟩

section
variable {F : Fx} {P : Prot} {ρ : List (Option AV)} {mu : Addr → Prop} {m : Str → Option Value} {s s' : Shared}

theorem St.topK (x : St F P ρ mu m s) : ∀ b o, F.hT.get? b = some o → s.heap.get? b = some o := fun b o e => x.keep b o (x.top b o e)

noncomputable def PlainArgs (env : Env) (args : List Expr) : Prop := ∀ pos, ∃ t rest, backTo pos (starEach args env) = (false, t) :: rest ∧ ((false, t) :: rest : List (Bool × Sem Value)).any (·.1) = false

theorem Ev.call {lvl : Nat} {f : Str} {args : List Expr} {np pos : Pos} {ds : List PyData} {d : PyData} (hf : Fn F.toTx lvl f ds d) (hl : lvl ≤ F.lvl) (ha : EvL F ρ args ds) (hp : PlainArgs F.env args)
    (hx : F.env.kindOf f = some .globalImplicit) (hd : (f == ("__debug__" : Str)) = false) : Ev F ρ (.Call (.Name f np) args [] pos) d := .of fun P mu m s x => by
  obtain ⟨a, o, fd, hmg, ho, hdata, hc⟩ := hf
  refine wpAny_Call_NameR (Calls.Name_function_global x.ok.kind hx (Calls.loadGlobal_global (by rw [x.ok.globals]; exact x.ok.T.g.keeps x.topK) hmg ?_) hd)
  obtain ⟨t, rest, e, hany⟩ := hp pos
  have hargs := ha.run P mu m s pos x
  rw [e] at hargs ⊢
  refine Calls.callWith_function (o := o) (fd := fd) (Calls.evalArgs_plain (wpAny_mono hargs (fun vs s₁ ⟨g, r⟩ => ⟨⟨(x.keeps g).topK _ _ ho, hdata⟩, ?_⟩) fun _ _ h => h))
  have hu := x.ok.units
  have hdp := x.ok.depth
  exact wpAny_mono (hc F.A mu s₁ vs x.ok.handled (by omega) (by omega) (x.keeps g).topK (x.keeps g).alive x.muT (x.keeps g).gens r) (fun v s₂ ⟨g2, r2⟩ => ⟨g.trans g2, r2⟩) fun _ _ h => h

/-- a built-in function called by its name -/
theorem Ev.callB {n : Str} {id : String} {args : List Expr} {np pos : Pos} {ds : List PyData} {d : PyData} (hb : (n, Value.builtin id) ∈ biTable) (ha : EvL F ρ args ds) (hp : PlainArgs F.env args)
    (hx : F.env.kindOf n = some .globalImplicit) (hd : (n == ("__debug__" : Str)) = false)
    (hc : ∀ P mu m s vs, St F P ρ mu m s → Reps F.prog F.w mu s.heap vs ds → wpAny (model F.prog F.w) F.A (PySem.call (.builtin id) vs) (fun v s' => Go s s' ∧ Rep F.prog F.w mu s'.heap v d) (fun _ _ => False) s) :
    Ev F ρ (.Call (.Name n np) args [] pos) d := .of fun P mu m s x => by
  obtain ⟨h1, h2⟩ := x.ok.T.bi _ hb
  refine wpAny_Call_NameR (Calls.Name_function_global x.ok.kind hx (Calls.loadGlobal_builtin (by rw [x.ok.globals]; exact x.ok.T.g.keeps x.topK) h1 (by rw [x.ok.builtins]; exact x.ok.T.b.keeps x.topK) h2 ?_) hd)
  obtain ⟨t, rest, e, hany⟩ := hp pos
  have hargs := ha.run P mu m s pos x
  rw [e] at hargs ⊢
  exact Calls.callWith_builtin hany (Calls.evalArgs_plain (wpAny_mono hargs (fun vs s₁ ⟨g, r⟩ => wpAny_mono (hc P mu m s₁ vs (x.keeps g) r) (fun v s₂ ⟨g2, r2⟩ => ⟨g.trans g2, r2⟩) fun _ _ h => h) fun _ _ h => h))

noncomputable def lenD : PyData → Option Nat
  | .list xs => some xs.length
  | .tuple xs => some xs.length
  | .str x => some x.length
  | _ => none
theorem Ev.len {e : Expr} {np pos : Pos} {d : PyData} {n : Nat} (h : Ev F ρ e d) (hn : lenD d = some n) (hsz : n < 2 ^ 63) (hs : starEach [e] F.env = [(false, eval e F.env)]) (hx : F.env.kindOf "len" = some .globalImplicit) :
    Ev F ρ (.Call (.Name "len" np) [e] [] pos) (.int n) :=
  Ev.callB (id := "len") (List.Mem.head _) (EvL.cons h EvL.nil (by rw [hs]; rfl)) (fun pos => ⟨_, [], by rw [hs]; rfl, rfl⟩) hx (by decide) fun P mu m s vs x r => by
    cases r with
    | cons r1 rn =>
      cases rn
      cases d with
      | list xs =>
        cases hn
        obtain ⟨a, vs, k, rfl, ha, ga, ra⟩ := r1.list_inv
        have e1 := ra.length
        simp only [Array.length_toList] at e1
        rw [← e1]
        exact PyProof.Rows.len_list ⟨_, ga, rfl, k, rfl⟩ (by omega) ⟨Go.toks s _, .int _ _⟩
      | tuple xs =>
        cases hn
        obtain ⟨a, vs, k, rfl, ha, ga, ra⟩ := r1.tuple_inv
        have e1 := ra.length
        simp only [Array.length_toList] at e1
        rw [← e1]
        exact PyProof.Rows.len_tuple ⟨_, ga, rfl, k, rfl⟩ (by omega) ⟨Go.toks s _, .int _ _⟩
      | str y =>
        cases hn
        obtain ⟨t, rfl⟩ := r1.str_inv
        exact PySem.P.len_str (by omega) ⟨Go.toks s _, .int _ _⟩
      | none => cases hn
      | bool b => cases hn
      | int b => cases hn
      | dict b => cases hn
theorem Ev.max {e1 e2 : Expr} {np pos : Pos} {i j : Int} (h1 : Ev F ρ e1 (.int i)) (h2 : Ev F ρ e2 (.int j)) (hs : starEach [e1, e2] F.env = [(false, eval e1 F.env), (false, eval e2 F.env)]) (hx : F.env.kindOf "max" = some .globalImplicit) :
    Ev F ρ (.Call (.Name "max" np) [e1, e2] [] pos) (.int (if j > i then j else i)) :=
  Ev.callB (id := "max") (List.Mem.tail _ (List.Mem.tail _ (List.Mem.tail _ (List.Mem.head _)))) (EvL.cons h1 (EvL.cons h2 EvL.nil (by
      have := hs; cases e2 <;> first | rfl | (cases e1 <;> simp [starEach] at hs))) (by rw [hs]; have := hs; cases e2 <;> first | rfl | (cases e1 <;> simp [starEach] at hs))) (fun pos => ⟨_, _, by rw [hs]; rfl, rfl⟩) hx (by decide) fun P mu m s vs x r => by
    cases r with
    | cons r1 rn =>
      cases rn with
      | cons r2 rn =>
        cases rn
        obtain ⟨t, rfl⟩ := r1.int_inv
        obtain ⟨u, rfl⟩ := r2.int_inv
        refine max_two_ints x.ok.handled fun h' tk hk => ⟨⟨hk, rfl, rfl⟩, ?_⟩
        split
        · exact .int _ _
        · exact .int _ _
end
end Mine
namespace Mine
open PySem PyProof.Rows
set_option linter.unusedVariables false
set_option linter.unusedSectionVars false

section
variable {F : Fx} {P : Prot} {ρ : List (Option AV)} {mu : Addr → Prop} {m : Str → Option Value} {s s' : Shared}

/-! ### while -/
structure Lp (F : Fx) (ρ : List (Option AV)) (test : Expr) (body : List Stmt) (out : Out) : Prop where
  of ::
  run : ∀ P mu m s, St F P ρ mu m s →
  codeAny (model F.prog F.w) F.A (.whileLoop test body [] F.env) (fun r s' => match r with | .ok f => OutR F P out f s' | .error e => False) s

theorem Lp.fin {test : Expr} {body : List Stmt} (ht : Tr F ρ test false) : Lp F ρ test body (.next ρ) := .of fun P mu m s x => by
  refine codeAny_of_tree ?_
  show wpAny _ F.A ((whileTurn test body [] F.env).onRaise (fun x => do noteFrame x F.env; theTreesLotGoes x)) _ _ s
  refine wpAny_noted ?_
  simp only [whileTurn]
  refine wpAny_bind (wpAny_mono (ht.run P mu m s x) (fun b s₂ ⟨g, e⟩ => ?_) fun _ _ h => h.elim)
  subst e
  simp only [Bool.false_eq_true, if_false]
  exact wpAny_bind (wpAny_execs_nil (wpAny_pure ⟨rfl, mu, m, x.keeps g⟩))
theorem Lp.step {test : Expr} {body : List Stmt} {ρ₁ : List (Option AV)} {out : Out} (ht : Tr F ρ test true) (hb : Ex F ρ body (.next ρ₁)) (hl : Lp F ρ₁ test body out) : Lp F ρ test body out := .of fun P mu m s x => by
  refine codeAny_of_tree ?_
  show wpAny _ F.A ((whileTurn test body [] F.env).onRaise (fun x => do noteFrame x F.env; theTreesLotGoes x)) _ _ s
  refine wpAny_noted ?_
  simp only [whileTurn]
  refine wpAny_bind (wpAny_mono (ht.run P mu m s x) (fun b s₂ ⟨g, e⟩ => ?_) fun _ _ h => h.elim)
  subst e
  simp only [if_true]
  refine wpAny_bind (wpAny_mono (hb.run P mu m s₂ (x.keeps g)) (fun f s₃ ⟨e, mu', m', x'⟩ => ?_) fun _ _ h => h.elim)
  subst e
  exact wpAny_pure ⟨rfl, hl.run P mu' m' s₃ x'⟩
theorem Ex1.while {test : Expr} {body : List Stmt} {pos : Pos} {out : Out} (h : Lp F ρ test body out) : Ex1 F ρ (.While test body [] pos) out := .of fun P mu m s x =>
  wpAny_While (codeAny_mono (h.run P mu m s x) fun r s' hr => by
    cases r with
    | ok f => exact hr
    | error e => exact hr.elim)
theorem Lp.weaken {ρ' : List (Option AV)} {test : Expr} {body : List Stmt} {out : Out} (h : Wk ρ ρ') (hx : Lp F ρ' test body out) : Lp F ρ test body out := .of fun P mu m s x => hx.run P mu m s (x.weaken h)

/-! ### for -/

/-- all but wr stands -/
structure GoBut (wr : List Addr) (s s' : Shared) : Prop where
  heap : ∀ b o, b ∉ wr → s.heap.get? b = some o → s'.heap.get? b = some o
  gens : s'.gens = s.gens
  os : s'.os = s.os
theorem Go.but {wr : List Addr} (g : Go s s') : GoBut wr s s' := ⟨fun b o _ e => g.heap b o e, g.gens, g.os⟩

/-- the target is bound to d -/
structure Bd (F : Fx) (target : Expr) (ρ : List (Option AV)) (d : PyData) (ρ' : List (Option AV)) : Prop where
  of ::
  run : ∀ P mu m s v, St F P ρ mu m s → Rep F.prog F.w mu s.heap v d →
  wpAny (model F.prog F.w) F.A (assign target F.env v) (fun _ s' => ∃ mu' m', St F P ρ' mu' m' s') (fun _ _ => False) s
theorem Bd.name (i : Nat) {y : Str} {pos : Pos} {d : PyData} (hi : F.ns[i]? = some y) : Bd F (.Name y pos) ρ d (ρ.set i (some (.dat d))) := .of fun P mu m s v x r =>
  wpAny_assign_Name (wpAny_storeName_local (x.local hi) x.ns (fun h' hn hs => ⟨mu, _, x.store hi r hn hs⟩) x.plainEnv)

structure Iter (F : Fx) (target : Expr) (I : Addr) (fp wr : List Addr) (ds : List PyData) (gh : List (Value × PyData)) (Sti : Nat → Heap → Prop) : Prop where
  sub : ∀ b ∈ wr, b ∈ fp
  frame : ∀ k h h', Sti k h → (∀ b ∈ fp, ∀ o, h.get? b = some o → h'.get? b = some o) → Sti k h'
  live : ∀ k h, Sti k h → ∀ b ∈ fp, ∃ o, h.get? b = some o
  item : ∀ k d s (mu : Addr → Prop), ds[k]? = some d → Sti k s.heap → (∀ p ∈ gh, Rep F.prog F.w mu s.heap p.1 p.2) → (∀ b ∈ wr, mu b) → (∀ a, mu a → ∃ o, s.heap.get? a = some o) →
    wpAny (model F.prog F.w) F.A (pyNext (.ref I)) (fun r s₁ => ∃ v, r = some v ∧ wpAny (model F.prog F.w) F.A (letOwnedTupleGo target (.ref I) v) (fun _ s₂ => GoBut wr s s₂ ∧ Sti (k + 1) s₂.heap ∧ Rep F.prog F.w mu s₂.heap v d) (fun _ _ => False) s₁) (fun _ _ => False) s
  self : ∀ k s (Q : Value → Shared → Prop) (E : Value → Shared → Prop), Sti k s.heap → Q (.ref I) s → wpAny (model F.prog F.w) F.A (pyIter (.ref I)) Q E s
  done : ∀ s, Sti ds.length s.heap → wpAny (model F.prog F.w) F.A (pyNext (.ref I)) (fun r s₁ => r = none ∧ GoBut wr s s₁) (fun _ _ => False) s

inductive ForT (F : Fx) (target : Expr) (body : List Stmt) : List (Option AV) → List PyData → Out → Prop
  | nil {ρ : List (Option AV)} : ForT F target body ρ [] (.next ρ)
  | cons {ρ ρ₁ ρ₂ : List (Option AV)} {d : PyData} {ds : List PyData} {out : Out} : Bd F target ρ d ρ₁ → Ex F ρ₁ body (.next ρ₂) → ForT F target body ρ₂ ds out → ForT F target body ρ (d :: ds) out

/-- protected besides: an iterator -/
noncomputable def Prot.with (P : Prot) (fp wr : List Addr) (gh : List (Value × PyData)) (h : Heap) : Prot where
  pin := fun b => if b ∈ fp then h.get? b else P.pin b
  mu0 := fun b => P.mu0 b ∨ b ∈ wr
  gh := gh ++ P.gh

theorem St.rePin {fp wr : List Addr} {gh : List (Value × PyData)} {s₁ : Shared} (x : St F (P.with fp wr gh s.heap) ρ mu m s) (g : GoBut wr s s₁) (hsub : ∀ b ∈ wr, b ∈ fp) (hlive : ∀ b ∈ fp, ∃ o, s.heap.get? b = some o) (hlive₁ : ∀ b ∈ fp, ∃ o, s₁.heap.get? b = some o)
    (htop : ∀ b ∈ wr, F.hT.get? b = none) (hcl : ∀ c ∈ F.cl, c.2.1 ∉ wr) : St F (P.with fp wr gh s₁.heap) ρ mu m s₁ := by
  have hwr : ∀ b ∈ wr, mu b := fun b hb => x.mu0 b (.inr hb)
  have hk : ∀ b o, ¬ mu b → s.heap.get? b = some o → s₁.heap.get? b = some o ∧ ¬ mu b := fun b o hm e => ⟨g.heap b o (fun hb => hm (hwr b hb)) e, hm⟩
  have hLf : F.env.locals ∉ fp := fun hb => by
    obtain ⟨o, ho⟩ := hlive _ hb
    have := x.pinL
    simp only [Prot.with, if_pos hb, ho] at this
    cases this
  have hpn : ∀ a, (P.with fp wr gh s.heap).pin a = none → a ∉ fp ∧ (P.with fp wr gh s₁.heap).pin a = none := fun a ha => by
    have haf : a ∉ fp := fun hb => by
      obtain ⟨o, ho⟩ := hlive _ hb
      simp only [Prot.with, if_pos hb, ho] at ha
      cases ha
    refine ⟨haf, ?_⟩
    simp only [Prot.with, if_neg haf] at ha ⊢; exact ha
  refine ⟨x.ok, x.ns.at' fun o e => g.heap _ o (fun hb => hLf (hsub _ hb)) e, x.muL, x.mu0, x.muT, fun a ha => ?_, fun b o e => ?_, fun b o e => ?_, (hpn _ x.pinL).2, fun i y av h1 h2 => ?_, x.apart, fun p hp => (x.ghost p hp).mono hk, fun c hc => ?_, g.gens.trans x.gens, g.os.trans x.os⟩
  · by_cases hb : a ∈ wr
    · exact hlive₁ a (hsub a hb)
    · obtain ⟨o, ho⟩ := x.alive a ha; exact ⟨o, g.heap _ _ hb ho⟩
  · by_cases hb : b ∈ fp
    · simp only [Prot.with, if_pos hb] at e; exact e
    · simp only [Prot.with, if_neg hb] at e
      exact g.heap _ _ (fun h => hb (hsub _ h)) (x.keep b o (by simp only [Prot.with, if_neg hb]; exact e))
  · have := x.top b o e
    have hbw : b ∉ wr := fun h => by rw [htop b h] at e; cases e
    by_cases hb : b ∈ fp
    · simp only [Prot.with, if_pos hb] at this ⊢; exact g.heap _ _ hbw this
    · simp only [Prot.with, if_neg hb] at this ⊢; exact this
  · obtain ⟨v, hv, hr⟩ := x.vars i y av h1 h2
    refine ⟨v, hv, ?_⟩
    cases av with
    | dat d => exact Rep.mono hk hr
    | own d =>
      obtain ⟨a, e, k1, k0, k2, k3, k4⟩ := hr
      obtain ⟨haf, k2'⟩ := hpn a k2
      exact ⟨a, e, k1, k0, k2', k3, k4.mono hk fun o e => g.heap _ _ (fun h => haf (hsub _ h)) e⟩
    | tab rows =>
      obtain ⟨a, e, h1⟩ := hr
      exact ⟨a, e, h1.mono fun b g1 g2 g3 g4 => ⟨fun o e => g.heap b o (fun h => (hpn b g3).1 (hsub _ h)) e, g1, g2, (hpn b g3).2⟩⟩
  · obtain ⟨k1, ⟨o, k2, kd⟩, k3⟩ := x.cells c hc
    refine ⟨k1, ⟨o, ?_, kd⟩, k3.mono hk⟩
    by_cases hb : c.2.1 ∈ fp
    · simp only [Prot.with, if_pos hb] at k2 ⊢; exact g.heap _ _ (hcl c hc) k2
    · simp only [Prot.with, if_neg hb] at k2 ⊢; exact k2

/-- an iterator is let go -/
theorem St.unPin {fp wr : List Addr} {gh : List (Value × PyData)} {s₁ : Shared} (x : St F (P.with fp wr gh s.heap) ρ mu m s) (g : GoBut wr s s₁) (hsub : ∀ b ∈ wr, b ∈ fp) (hlive : ∀ b ∈ fp, ∃ o, s.heap.get? b = some o)
    (hP : ∀ b ∈ fp, ∀ o, P.pin b = some o → s.heap.get? b = some o) (hwr : ∀ b ∈ wr, P.pin b = none ∧ ¬ P.mu0 b) (hPt : ∀ b o, F.hT.get? b = some o → P.pin b = some o)
    (hcl : ∀ c ∈ F.cl, ∃ o, P.pin c.2.1 = some o ∧ o.data = .cell (some c.2.2.1)) : ∃ mu', St F P ρ mu' m s₁ := by
  refine ⟨fun b => mu b ∧ b ∉ wr, ?_⟩
  have hwm : ∀ b ∈ wr, mu b := fun b hb => x.mu0 b (.inr hb)
  have hk : ∀ b o, ¬ mu b → s.heap.get? b = some o → s₁.heap.get? b = some o ∧ ¬ (mu b ∧ b ∉ wr) := fun b o hm e => ⟨g.heap b o (fun hb => hm (hwm b hb)) e, fun h => hm h.1⟩
  have hpn : ∀ a, (P.with fp wr gh s.heap).pin a = none → a ∉ fp ∧ P.pin a = none := fun a ha => by
    have haf : a ∉ fp := fun hb => by
      obtain ⟨o, ho⟩ := hlive _ hb
      simp only [Prot.with, if_pos hb, ho] at ha
      cases ha
    refine ⟨haf, ?_⟩
    simp only [Prot.with, if_neg haf] at ha; exact ha
  have hpin : ∀ b o, P.pin b = some o → (P.with fp wr gh s.heap).pin b = some o := fun b o e => by
    by_cases hb : b ∈ fp
    · simp only [Prot.with, if_pos hb]; exact hP b hb o e
    · simp only [Prot.with, if_neg hb]; exact e
  obtain ⟨hLf, hpL⟩ := hpn _ x.pinL
  have hLw : F.env.locals ∉ wr := fun hb => hLf (hsub _ hb)
  refine ⟨x.ok, x.ns.at' fun o e => g.heap _ o hLw e, ⟨x.muL, hLw⟩, fun b hb => ⟨x.mu0 b (.inl hb), fun h => (hwr b h).2 hb⟩, fun b hb => x.muT b hb.1, fun a ha => ?_, fun b o e => ?_, hPt, hpL, fun i y av h1 h2 => ?_, x.apart, fun p hp => (x.ghost p (List.mem_append_right _ hp)).mono hk, fun c hc => ?_, g.gens.trans x.gens, g.os.trans x.os⟩
  · obtain ⟨o, ho⟩ := x.alive a ha.1; exact ⟨o, g.heap _ _ ha.2 ho⟩
  · exact g.heap _ _ (fun h => by rw [(hwr b h).1] at e; cases e) (x.keep b o (hpin b o e))
  · obtain ⟨v, hv, hr⟩ := x.vars i y av h1 h2
    refine ⟨v, hv, ?_⟩
    cases av with
    | dat d => exact Rep.mono hk hr
    | own d =>
      obtain ⟨a, e, k1, k0, k2, k3, k4⟩ := hr
      obtain ⟨haf, k2'⟩ := hpn a k2
      have haw : a ∉ wr := fun h => haf (hsub _ h)
      exact ⟨a, e, ⟨k1, haw⟩, fun h => k0 (.inl h), k2', k3, k4.mono hk fun o e => g.heap _ _ haw e⟩
    | tab rows =>
      obtain ⟨a, e, h1⟩ := hr
      exact ⟨a, e, h1.mono fun b g1 g2 g3 g4 => ⟨fun o e => g.heap b o (fun h => (hpn b g3).1 (hsub _ h)) e, ⟨g1, fun h => (hpn b g3).1 (hsub _ h)⟩, fun h => g2 (.inl h), (hpn b g3).2⟩⟩
  · obtain ⟨k1, k2, k3⟩ := x.cells c hc
    exact ⟨k1, hcl c hc, k3.mono hk⟩

/-- an iterator is made -/
theorem St.pinIt {fp wr : List Addr} {gh : List (Value × PyData)} {s₁ : Shared} (x : St F P ρ mu m s) (g : Go s s₁) (hsub : ∀ b ∈ wr, b ∈ fp) (hlive : ∀ b ∈ fp, ∃ o, s₁.heap.get? b = some o) (hnew : ∀ b ∈ wr, s.heap.get? b = none)
    (hfm : ∀ b ∈ fp, b ∉ wr → ¬ mu b) (hgh : ∀ p ∈ gh, Rep F.prog F.w mu s.heap p.1 p.2) :
    St F (P.with fp wr gh s₁.heap) ρ (fun b => mu b ∨ b ∈ wr) m s₁ := by
  have hk : ∀ b o, ¬ mu b → s.heap.get? b = some o → s₁.heap.get? b = some o ∧ ¬ (mu b ∨ b ∈ wr) := fun b o hm e => ⟨g.heap b o e, fun h => h.elim hm fun hb => by rw [hnew b hb] at e; cases e⟩
  have hwr : ∀ b ∈ wr, ¬ mu b := fun b hb hm => by obtain ⟨o, ho⟩ := x.alive b hm; rw [hnew b hb] at ho; cases ho
  have hfp : ∀ b ∈ fp, ¬ mu b := fun b hb hm => by
    by_cases h : b ∈ wr
    · exact hwr b h hm
    · exact hfm b hb h hm
  refine ⟨x.ok, x.ns.keeps g.heap, .inl x.muL, fun b hb => hb.elim (fun h => .inl (x.mu0 b h)) .inr, fun b hb => hb.elim (x.muT b) (fun h => x.topNone (hnew b h)), fun a ha => ?_, fun b o e => ?_, fun b o e => ?_, ?_, fun i y av h1 h2 => ?_, x.apart, fun p hp => ?_, fun c hc => ?_, g.gens.trans x.gens, g.os.trans x.os⟩
  · rcases ha with ha | ha
    · obtain ⟨o, ho⟩ := x.alive a ha; exact ⟨o, g.heap _ _ ho⟩
    · exact hlive a (hsub a ha)
  · by_cases hb : b ∈ fp
    · simp only [Prot.with, if_pos hb] at e; exact e
    · simp only [Prot.with, if_neg hb] at e; exact g.heap _ _ (x.keep b o e)
  · have := x.top b o e
    by_cases hb : b ∈ fp
    · simp only [Prot.with, if_pos hb]; exact g.heap _ _ (x.keep b o this)
    · simp only [Prot.with, if_neg hb]; exact this
  · have : F.env.locals ∉ fp := fun hb => hfp _ hb x.muL
    simp only [Prot.with, if_neg this]; exact x.pinL
  · obtain ⟨v, hv, hr⟩ := x.vars i y av h1 h2
    refine ⟨v, hv, ?_⟩
    cases av with
    | dat d => exact Rep.mono hk hr
    | own d =>
      obtain ⟨a, e, k1, k0, k2, k3, k4⟩ := hr
      have haf : a ∉ fp := fun hb => hfp _ hb k1
      refine ⟨a, e, .inl k1, fun h => h.elim k0 fun h => haf (hsub _ h), ?_, k3, k4.mono hk fun o e => g.heap _ _ e⟩
      simp only [Prot.with, if_neg haf]; exact k2
    | tab rows =>
      obtain ⟨a, e, h1⟩ := hr
      refine ⟨a, e, h1.mono fun b g1 g2 g3 g4 => ?_⟩
      have haf : b ∉ fp := fun hb => hfp _ hb g1
      refine ⟨fun o e => g.heap b o e, .inl g1, fun h => h.elim g2 fun h => haf (hsub _ h), ?_⟩
      simp only [Prot.with, if_neg haf]; exact g3
  · rcases List.mem_append.mp hp with hp | hp
    · exact (hgh p hp).mono hk
    · exact (x.ghost p hp).mono hk
  · obtain ⟨k1, ⟨o, k2, kd⟩, k3⟩ := x.cells c hc
    refine ⟨k1, ⟨o, ?_, kd⟩, k3.mono hk⟩
    by_cases hb : c.2.1 ∈ fp
    · simp only [Prot.with, if_pos hb]; exact g.heap _ _ (x.keep _ _ k2)
    · simp only [Prot.with, if_neg hb]; exact k2

/-- the loop over an iterator -/
theorem forT_code {target : Expr} {body : List Stmt} {I : Addr} {fp wr : List Addr} {ds : List PyData} {gh : List (Value × PyData)} {Sti : Nat → Heap → Prop} (W : Iter F target I fp wr ds gh Sti)
    (htop : ∀ b ∈ wr, F.hT.get? b = none) (hwr : ∀ b ∈ wr, P.pin b = none ∧ ¬ P.mu0 b) (hPt : ∀ b o, F.hT.get? b = some o → P.pin b = some o)
    (hcl : ∀ c ∈ F.cl, ∃ o, P.pin c.2.1 = some o ∧ o.data = .cell (some c.2.2.1)) (hP : ∀ b ∈ fp, ∀ o, P.pin b = some o → b ∉ wr)
    {ρ : List (Option AV)} {rest : List PyData} {out : Out} (T : ForT F target body ρ rest out) :
    ∀ (k : Nat) (mu : Addr → Prop) (m : Str → Option Value) (s : Shared), ds.drop k = rest → k ≤ ds.length → St F (P.with fp wr gh s.heap) ρ mu m s → Sti k s.heap → (∀ b ∈ fp, ∀ o, P.pin b = some o → s.heap.get? b = some o) →
    codeAny (model F.prog F.w) F.A (.forLoop target (.ref I) body [] F.env) (fun r s' => match r with | .ok f => OutR F P out f s' | .error e => False) s := by
  have hcw : ∀ c ∈ F.cl, c.2.1 ∉ wr := fun c hc h => by obtain ⟨o, ho, _⟩ := hcl c hc; rw [(hwr _ h).1] at ho; cases ho
  induction T with
  | @nil ρ =>
    intro k mu m s hk hkl x hst hPh
    have hke : k = ds.length := by have := List.drop_eq_nil_iff.mp hk; omega
    subst hke
    refine codeAny_of_tree ?_
    show wpAny _ F.A ((forTurn target (.ref I) body [] F.env).onRaise (fun x => do noteFrame x F.env; theTreesLotGoes x)) _ _ s
    refine wpAny_noted ?_
    simp only [forTurn]
    refine wpAny_bind (wpAny_standAt (wpAny_bind (wpAny_onRaise (wpAny_mono (W.done s hst) (fun r s₁ ⟨e, g⟩ => ?_) fun _ _ h => h.elim))))
    subst e
    refine wpAny_pure ⟨rfl, codeAny_block (wpAny_execs_nil ?_)⟩
    obtain ⟨mu', x'⟩ := x.unPin g W.sub (W.live _ _ hst) hPh hwr hPt hcl
    exact ⟨rfl, mu', m, x'⟩
  | @cons ρ ρ₁ ρ₂ d rest out hb hx T ih =>
    intro k mu m s hk hkl x hst hPh
    have hkd : ds[k]? = some d := by
      have : (ds.drop k)[0]? = some d := by rw [hk]; rfl
      simpa using this
    have hkl' : k < ds.length := (List.getElem?_eq_some_iff.mp hkd).1
    refine codeAny_of_tree ?_
    show wpAny _ F.A ((forTurn target (.ref I) body [] F.env).onRaise (fun x => do noteFrame x F.env; theTreesLotGoes x)) _ _ s
    refine wpAny_noted ?_
    simp only [forTurn]
    have hgh : ∀ p ∈ gh, Rep F.prog F.w mu s.heap p.1 p.2 := fun p hp => x.ghost p (List.mem_append_left _ hp)
    refine wpAny_bind (wpAny_standAt (wpAny_bind (wpAny_onRaise (wpAny_mono (W.item k d s mu hkd hst hgh (fun b hb => x.mu0 b (.inr hb)) x.alive) (fun r s₁ ⟨v, e, hlet⟩ => ?_) fun _ _ h => h.elim))))
    subst e
    refine wpAny_bind (wpAny_mono hlet (fun _ s₂ ⟨g, hst₂, r⟩ => ?_) fun _ _ h => h.elim)
    have x₂ := x.rePin g W.sub (W.live _ _ hst) (W.live _ _ hst₂) htop hcw
    refine wpAny_bind (wpAny_mono (hb.run _ _ _ _ v x₂ r) (fun _ s₃ ⟨mu₃, m₃, x₃⟩ => ?_) fun _ _ h => h.elim)
    refine wpAny_bind (wpAny_mono (hx.run _ _ _ _ x₃) (fun f s₄ ⟨e, mu₄, m₄, x₄⟩ => ?_) fun _ _ h => h.elim)
    subst e
    have hsame : ∀ b ∈ fp, ∀ o, s₂.heap.get? b = some o → s₄.heap.get? b = some o := fun b hb o e => x₄.keep b o (by simp only [Prot.with, if_pos hb]; exact e)
    have hlv := W.live _ _ hst₂
    have x₄' : St F (P.with fp wr gh s₄.heap) ρ₂ mu₄ m₄ s₄ := by
      have : P.with fp wr gh s₂.heap = P.with fp wr gh s₄.heap := by
        simp only [Prot.with, Prot.mk.injEq, and_true]
        funext b
        by_cases hb : b ∈ fp
        · simp only [if_pos hb]
          obtain ⟨o, ho⟩ := hlv b hb
          rw [ho, hsame b hb o ho]
        · simp only [if_neg hb]
      rw [← this]; exact x₄
    refine wpAny_pure ⟨rfl, ih (k + 1) mu₄ m₄ s₄ ?_ (by omega) x₄' (W.frame _ _ _ hst₂ hsame) fun b hb o e => hsame b hb o (g.heap b o (hP b hb o e) (hPh b hb o e))⟩
    rw [List.drop_eq_getElem_cons hkl'] at hk
    exact (List.cons.inj hk).2

/-- what can be looped over: from the value an iterator is made -/
noncomputable def ItV (F : Fx) (target : Expr) (v : Value) (d : PyData) (ds : List PyData) : Prop := ∀ P ρ mu m s, St F P ρ mu m s → Rep F.prog F.w mu s.heap v d →
  wpAny (model F.prog F.w) F.A (pyIter v) (fun it s₁ => ∃ I fp wr gh Sti, it = .ref I ∧ Iter F target I fp wr ds gh Sti ∧ Go s s₁ ∧ (∀ b ∈ wr, s.heap.get? b = none) ∧ (∀ b ∈ fp, b ∉ wr → ¬ mu b) ∧ (∀ p ∈ gh, Rep F.prog F.w mu s.heap p.1 p.2) ∧ Sti 0 s₁.heap) (fun _ _ => False) s

/-- the expression e gives something to loop over -/
structure It (F : Fx) (ρ : List (Option AV)) (target e : Expr) (ds : List PyData) : Prop where
  of ::
  run : ∀ P mu m s, St F P ρ mu m s →
  wpAny (model F.prog F.w) F.A (eval e F.env) (fun v s₀ => wpAny (model F.prog F.w) F.A (pyIter v) (fun it s₁ => ∃ s' I fp wr gh Sti, it = .ref I ∧ Iter F target I fp wr ds gh Sti ∧ Go s s' ∧ Go s' s₁ ∧ (∀ b ∈ wr, s'.heap.get? b = none) ∧ (∀ b ∈ fp, b ∉ wr → ¬ mu b) ∧
    (∀ p ∈ gh, Rep F.prog F.w mu s'.heap p.1 p.2) ∧ Sti 0 s₁.heap) (fun _ _ => False) s₀) (fun _ _ => False) s

theorem Ex1.for {target iter : Expr} {body : List Stmt} {pos : Pos} {ds : List PyData} {out : Out} (hi : It F ρ target iter ds) (T : ForT F target body ρ ds out) (hs : ∀ x, foldedSetIterable iter F.env x = pure x) :
    Ex1 F ρ (.For target iter body [] pos) out := .of fun P mu m s x => by
  refine wpAny_For (wpAny_mono (hi.run P mu m s x) (fun v s₀ h => wpAny_mono h (fun it s₁ ⟨s', I, fp, wr, gh, Sti, e, W, g, g', hnew, hfm, hgh, hst⟩ => ?_) fun _ _ h => h) fun _ _ h => h) hs
  subst e
  have x' := x.keeps g
  have x₁ := x'.pinIt g' W.sub (W.live _ _ hst) hnew hfm hgh
  have hpn : ∀ b ∈ wr, P.pin b = none ∧ ¬ P.mu0 b := fun b hb => by
    refine ⟨?_, fun h => ?_⟩
    · cases q : P.pin b with
      | none => rfl
      | some o => have := x'.keep _ _ q; rw [hnew b hb] at this; cases this
    · obtain ⟨o, ho⟩ := x'.alive b (x'.mu0 b h); rw [hnew b hb] at ho; cases ho
  refine codeAny_mono (forT_code (P := P) W (fun b hb => ?_) hpn x.top (fun c hc => (x.cells c hc).2.1) (fun b hb o e h => by rw [(hpn b h).1] at e; cases e) T 0 _ _ _ rfl (Nat.zero_le _) x₁ hst (fun b _ o e => g'.heap _ _ (x'.keep b o e))) fun r s' hr => by
    cases r with
    | ok f => exact hr
    | error e => exact hr.elim
  cases q : F.hT.get? b with
  | none => rfl
  | some o => have := x'.topK _ _ q; rw [hnew b hb] at this; cases this
end
end Mine
namespace Mine
open PySem PyProof.Rows
set_option linter.unusedVariables false
set_option linter.unusedSectionVars false

section
variable {F : Fx} {P : Prot} {ρ : List (Option AV)} {mu : Addr → Prop} {m : Str → Option Value} {s s' : Shared}

/-- nothing is let go when an item of a list is handed to the target -/
noncomputable def Lets (F : Fx) (target : Expr) (ds : List PyData) : Prop := ∀ (I l : Addr) (k : Nat) (d : PyData) (mu : Addr → Prop) (s : Shared) (v : Value), s.heap.IsListIter I l k → d ∈ ds → Rep F.prog F.w mu s.heap v d →
  wpAny (model F.prog F.w) F.A (letOwnedTupleGo target (.ref I) v) (fun _ s' => s' = s) (fun _ _ => False) s
theorem Lets.name {y : Str} {pos : Pos} {ds : List PyData} : Lets F (.Name y pos) ds := fun I l k d mu s v _ _ _ => wpAny_pure rfl
theorem Lets.tuple {es : List Expr} {c : Nat} {pos : Pos} {ds : List PyData} (h : ∀ d ∈ ds, ∃ xs, d = .tuple xs) : Lets F (.Tuple es c pos) ds := fun I l k d mu s v hit hd r => by
  obtain ⟨xs, rfl⟩ := h d hd
  obtain ⟨a, vs, n, rfl, _⟩ := r.tuple_inv
  exact wpAny_letOwnedTupleGo_listiter hit rfl

theorem reps_zip {prog : Program} {w : World} {mu : Addr → Prop} {h : Heap} : ∀ {vs : List Value} {ds : List PyData}, Reps prog w mu h vs ds → ∀ p ∈ vs.zip ds, Rep prog w mu h p.1 p.2
  | _, _, .nil, p, hp => by simp at hp
  | _, _, .cons hr hs, p, hp => by
    rcases List.mem_cons.mp hp with rfl | hp
    · exact hr
    · exact reps_zip hs p hp

theorem Iter.list {target : Expr} {I l : Addr} {vs : Array Value} {n : Nat} {ds : List PyData} (hh : F.A.handled = none) (hne : l ≠ I) (hlen : vs.size = ds.length) (hlet : Lets F target ds) :
    Iter F target I [I, l] [I] ds (vs.toList.zip ds) (fun k h => h.IsListIter I l k ∧ h.get? l = some (listObj vs n)) where
  sub b hb := by simp at hb; simp [hb]
  frame k h h' st hk := ⟨st.1.at fun o e => hk I (by simp) o e, hk l (by simp) _ st.2⟩
  live k h st b hb := by
    simp at hb
    rcases hb with rfl | rfl
    · obtain ⟨o, ho, _⟩ := st.1; exact ⟨o, ho⟩
    · exact ⟨_, st.2⟩
  item k d s mu hd st hgh hmu halive := by
    have hk : k < ds.length := (List.getElem?_eq_some_iff.mp hd).1
    have hkv : k < vs.size := by omega
    have hkv' : k < vs.toList.length := by simpa using hkv
    refine wpAny_pyNext_list_item st.1 ⟨_, st.2, rfl, n, rfl⟩ (x := vs[k]) (by simp [hkv]) fun h' hit' hs' => ⟨_, rfl, ?_⟩
    have hr : Rep F.prog F.w mu s.heap vs[k] d := hgh (vs[k], d) (by
      have e : (vs.toList.zip ds)[k]? = some (vs[k], d) := by
        rw [List.getElem?_zip_eq_some]
        exact ⟨by simp [hkv], hd⟩
      exact List.mem_of_getElem? e)
    have hr' : Rep F.prog F.w mu h' vs[k] d := hr.mono fun b o hm e => ⟨hs'.extBut b o (fun hb => hm (hb ▸ hmu I (by simp))) e, hm⟩
    refine wpAny_mono (hlet I l (k + 1) d mu { s with heap := h' } vs[k] hit' (List.mem_of_getElem? hd) hr') (fun _ s₂ e => ?_) fun _ _ h => h
    subst e
    exact ⟨⟨fun b o hb e => hs'.extBut b o (fun h => hb (by simp [h])) e, rfl, rfl⟩, ⟨hit', hs'.extBut _ _ hne st.2⟩, hr'⟩
  self k s Q E st h := wpAny_pyIter_listiter st.1 h
  done s st := wpAny_pyNext_list_end hh st.1 ⟨_, st.2, rfl, n, rfl⟩ (by rw [← hlen]; simp) fun h' he => ⟨rfl, ⟨fun b o hb e => he b o (fun h => hb (by simp [h])) e, rfl, rfl⟩⟩

theorem It.list {target e : Expr} {ds : List PyData} (h : Ev F ρ e (.list ds)) (hlet : Lets F target ds) : It F ρ target e ds := .of fun P mu m s x =>
  wpAny_mono (h.run P mu m s x) (fun v s₁ ⟨g, r⟩ => by
    obtain ⟨a, vs, n, rfl, ha, ga, ra⟩ := r.list_inv
    have e1 := ra.length
    simp only [Array.length_toList] at e1
    have hne : a ≠ s₁.heap.objs.size := fun e => by rw [e, fresh_size] at ga; cases ga
    refine wpAny_pyIter_list ⟨_, ga, rfl, n, rfl⟩ ⟨s₁, _, _, _, _, _, rfl, Iter.list (n := n) x.ok.handled hne e1 hlet, g, Go.push s₁ _ (t := s₁.toks), fun b hb => ?_, fun b hb hbw => ?_, reps_zip ra, ⟨⟨_, Heap.get?_push_size _ rfl, rfl, rfl⟩, Heap.get?_push_of_some _ ga⟩⟩
    · simp at hb; subst hb; exact fresh_size _
    · simp at hb hbw
      rcases hb with rfl | rfl
      · exact absurd rfl hbw
      · exact ha) fun _ _ h => h

theorem Iter.tuple {y : Str} {pos : Pos} {I l : Addr} {vs : Array Value} {n : Nat} {ds : List PyData} (hh : F.A.handled = none) (hne : l ≠ I) (hlen : vs.size = ds.length) :
    Iter F (.Name y pos) I [I, l] [I] ds (vs.toList.zip ds) (fun k h => h.IsTupleIter I l k ∧ h.get? l = some (tupObj vs n)) where
  sub b hb := by simp at hb; simp [hb]
  frame k h h' st hk := ⟨let ⟨o, ho, r⟩ := st.1; ⟨o, hk I (by simp) o ho, r⟩, hk l (by simp) _ st.2⟩
  live k h st b hb := by
    simp at hb
    rcases hb with rfl | rfl
    · obtain ⟨o, ho, _⟩ := st.1; exact ⟨o, ho⟩
    · exact ⟨_, st.2⟩
  item k d s mu hd st hgh hmu halive := by
    have hk : k < ds.length := (List.getElem?_eq_some_iff.mp hd).1
    have hkv : k < vs.size := by omega
    refine wpAny_pyNext_tuple_item st.1 ⟨_, st.2, rfl, n, rfl⟩ (x := vs[k]) (by simp [hkv]) fun h' hit' hs' => ⟨_, rfl, wpAny_pure ?_⟩
    have hr : Rep F.prog F.w mu s.heap vs[k] d := hgh (vs[k], d) (by
      have e : (vs.toList.zip ds)[k]? = some (vs[k], d) := by
        rw [List.getElem?_zip_eq_some]
        exact ⟨by simp [hkv], hd⟩
      exact List.mem_of_getElem? e)
    have hr' : Rep F.prog F.w mu h' vs[k] d := hr.mono fun b o hm e => ⟨hs'.extBut b o (fun hb => hm (hb ▸ hmu I (by simp))) e, hm⟩
    exact ⟨⟨fun b o hb e => hs'.extBut b o (fun h => hb (by simp [h])) e, rfl, rfl⟩, ⟨hit', hs'.extBut _ _ hne st.2⟩, hr'⟩
  self k s Q E st h := wpAny_pyIter_tupleiter st.1 h
  done s st := wpAny_pyNext_tuple_end hh st.1 ⟨_, st.2, rfl, n, rfl⟩ (by rw [← hlen]; simp) fun h' he => ⟨rfl, ⟨fun b o hb e => he b o (fun h => hb (by simp [h])) e, rfl, rfl⟩⟩

theorem It.tuple {y : Str} {pos : Pos} {e : Expr} {ds : List PyData} (h : Ev F ρ e (.tuple ds)) : It F ρ (.Name y pos) e ds := .of fun P mu m s x =>
  wpAny_mono (h.run P mu m s x) (fun v s₁ ⟨g, r⟩ => by
    obtain ⟨a, vs, n, rfl, ha, ga, ra⟩ := r.tuple_inv
    have e1 := ra.length
    simp only [Array.length_toList] at e1
    have hne : a ≠ s₁.heap.objs.size := fun e => by rw [e, fresh_size] at ga; cases ga
    refine wpAny_pyIter_tuple ⟨_, ga, rfl, n, rfl⟩ ⟨s₁, _, _, _, _, _, rfl, Iter.tuple (n := n) x.ok.handled hne e1, g, Go.push s₁ _ (t := s₁.toks), fun b hb => ?_, fun b hb hbw => ?_, reps_zip ra, ⟨⟨_, Heap.get?_push_size _ rfl, rfl, rfl⟩, Heap.get?_push_of_some _ ga⟩⟩
    · simp at hb; subst hb; exact fresh_size _
    · simp at hb hbw
      rcases hb with rfl | rfl
      · exact absurd rfl hbw
      · exact ha) fun _ _ h => h

/-- the ints of a range -/
noncomputable def rangeD (a c : Int) (n : Nat) : List PyData := (List.range n).map fun (k : Nat) => PyData.int (a + (k : Int) * c)
theorem Iter.range {y : Str} {pos : Pos} {I : Addr} {a c : Int} {n : Nat} (hh : F.A.handled = none) :
    Iter F (.Name y pos) I [I] [I] (rangeD a c n) [] (fun k h => IsRangeIter h I (a + k * c) ((n : Int) - k) c) where
  sub b hb := hb
  frame k h h' st hk := hk I (by simp) _ st
  live k h st b hb := by simp at hb; subst hb; exact ⟨_, st⟩
  item k d s mu hd st hgh hmu halive := by
    have hk : k < n := by have := (List.getElem?_eq_some_iff.mp hd).1; simpa [rangeD] using this
    have hd' : d = .int (a + k * c) := by
      simp only [rangeD, List.getElem?_map, List.getElem?_range hk, Option.map_some, Option.some.injEq] at hd
      exact hd.symm
    subst hd'
    refine wpAny_pyNext_range_item st (by omega) fun h' hit' hs' => ⟨_, rfl, wpAny_pure ⟨⟨fun b o hb e => hs'.extBut b o (fun h => hb (by simp [h])) e, rfl, rfl⟩, ?_, .int _ _⟩⟩
    have e1 : a + ((k + 1 : Nat) : Int) * c = a + (k : Int) * c + c := by push_cast; rw [Int.add_mul, Int.one_mul, Int.add_assoc]
    have e2 : (n : Int) - ((k + 1 : Nat) : Int) = (n : Int) - (k : Int) - 1 := by push_cast; omega
    rw [e1, e2]; exact hit'
  self k s Q E st h := wpAny_pyIter_rangeiter st h
  done s st := by
    have e : (rangeD a c n).length = n := by simp [rangeD]
    rw [e] at st
    exact wpAny_pyNext_range_end hh st (by omega) fun h' he => ⟨rfl, ⟨fun b o hb e => he b o (fun h => hb (by simp [h])) e, rfl, rfl⟩⟩

theorem It.range1 {y : Str} {p np pos : Pos} {e : Expr} {n : Nat} (h : Ev F ρ e (.int n)) (hn : n < 2 ^ 62) (hs : starEach [e] F.env = [(false, eval e F.env)]) (hx : F.env.kindOf "range" = some .globalImplicit) :
    It F ρ (.Name y p) (.Call (.Name "range" np) [e] [] pos) (rangeD 0 1 n) := .of fun P mu m s x => by
  obtain ⟨h1, h2⟩ := x.ok.T.bi ("range", .type "range") (List.Mem.tail _ (List.Mem.head _))
  refine wpAny_Call_NameR (Calls.Name_function_global x.ok.kind hx (Calls.loadGlobal_builtin (by rw [x.ok.globals]; exact x.ok.T.g.keeps x.topK) h1 (by rw [x.ok.builtins]; exact x.ok.T.b.keeps x.topK) h2 ?_))
  rw [hs]
  refine PySem.callWith_type rfl (Calls.evalArgs_plain (Calls.spliced_cons (wpAny_mono (h.run P mu m s x) (fun v s₁ ⟨g, r⟩ => Calls.spliced_nil ?_) fun _ _ h => h)))
  obtain ⟨t, rfl⟩ := r.int_inv
  refine call_range_1 (wpAny_pyIter_range (IsRange.new ..) (small_one (by decide) (by decide) (by omega) (by omega)) ?_)
  have hsz : Builtin.Range.rangeSize 0 (n : Int) 1 = (n : Int) := by rw [rangeSize_one]; split <;> omega
  refine ⟨_, _, _, _, _, _, rfl, Iter.range (a := 0) (c := 1) (n := n) x.ok.handled, g.trans (Go.push s₁ _ (t := s₁.toks + 1 + 1)), Go.push _ _ (t := s₁.toks + 1 + 1), fun b hb => ?_, fun b hb hbw => ?_, fun p hp => (by cases hp), ?_⟩
  · simp at hb; subst hb
    have := fresh_size (s₁.heap.push { cls := .type "range", data := .fields #[.int 0 s₁.toks, .int n t, .int 1 (s₁.toks + 1)] })
    rw [Heap.size_push] at this; exact this
  · exact absurd hb hbw
  · have e1 : (0 + ((0 : Nat) : Int) * 1) = 0 := by simp
    have e2 : ((n : Int) - ((0 : Nat) : Int)) = Builtin.Range.rangeSize 0 n 1 := by rw [hsz]; simp
    rw [e1, e2]
    exact Heap.get?_push_size _ rfl

theorem small_down {a : Int} (ha : -1 ≤ a) (ha' : a < 2 ^ 62) : Builtin.Range.small a (-1) (-1) = true ∧ Builtin.Range.rangeSize a (-1) (-1) = a + 1 := by
  have e : Builtin.Range.rangeSize a (-1) (-1) = a + 1 := by
    unfold Builtin.Range.rangeSize
    simp only [show ¬ ((-1 : Int) > 0) by decide, if_false, Int.neg_neg, Int.ediv_one]
    split <;> omega
  refine ⟨?_, e⟩
  unfold Builtin.Range.small
  rw [e]
  simp only [Builtin.Range.rangeFitsLong, Bool.and_eq_true, Bool.or_eq_true, decide_eq_true_eq, beq_iff_eq, show ¬ ((-1 : Int) > 0) by decide, if_false]
  omega

/-- range(n - 1, -1, -1) -/
theorem It.rangeDown {y : Str} {p np pos : Pos} {e1 e2 e3 : Expr} {n : Nat} (h1 : Ev F ρ e1 (.int ((n : Int) - 1))) (h2 : Ev F ρ e2 (.int (-1))) (h3 : Ev F ρ e3 (.int (-1))) (hn : n < 2 ^ 60)
    (hs : ∀ pos, backTo pos (starEach [e1, e2, e3] F.env) = [(false, eval e1 F.env), (false, eval e2 F.env), (false, eval e3 F.env)]) (hx : F.env.kindOf "range" = some .globalImplicit) :
    It F ρ (.Name y p) (.Call (.Name "range" np) [e1, e2, e3] [] pos) (rangeD ((n : Int) - 1) (-1) n) := .of fun P mu m s x => by
  obtain ⟨k1, k2⟩ := x.ok.T.bi ("range", .type "range") (List.Mem.tail _ (List.Mem.head _))
  refine wpAny_Call_NameR (Calls.Name_function_global x.ok.kind hx (Calls.loadGlobal_builtin (by rw [x.ok.globals]; exact x.ok.T.g.keeps x.topK) k1 (by rw [x.ok.builtins]; exact x.ok.T.b.keeps x.topK) k2 ?_))
  rw [hs]
  refine PySem.callWith_type rfl (Calls.evalArgs_plain (Calls.spliced_cons (wpAny_mono (h1.run P mu m s x) (fun v1 s₁ ⟨g1, r1⟩ => Calls.spliced_cons (wpAny_mono (h2.run P mu m s₁ (x.keeps g1)) (fun v2 s₂ ⟨g2, r2⟩ =>
    Calls.spliced_cons (wpAny_mono (h3.run P mu m s₂ ((x.keeps g1).keeps g2)) (fun v3 s₃ ⟨g3, r3⟩ => Calls.spliced_nil ?_) fun _ _ h => h)) fun _ _ h => h)) fun _ _ h => h)))
  obtain ⟨t1, rfl⟩ := r1.int_inv
  obtain ⟨t2, rfl⟩ := r2.int_inv
  obtain ⟨t3, rfl⟩ := r3.int_inv
  have g := (g1.trans g2).trans g3
  obtain ⟨q1, q2⟩ := small_down (a := (n : Int) - 1) (by omega) (by omega)
  refine PySem.call_range_3 (by decide) (wpAny_pyIter_range (IsRange.new ..) q1 ?_) (Or.inl (PyProof.noPylong_small (by omega)))
  refine ⟨_, _, _, _, _, _, rfl, Iter.range (a := (n : Int) - 1) (c := -1) (n := n) x.ok.handled, g.trans (Go.push s₃ _ (t := s₃.toks)), Go.push _ _ (t := s₃.toks), fun b hb => ?_, fun b hb hbw => ?_, fun p hp => (by cases hp), ?_⟩
  · simp at hb; subst hb
    have := fresh_size (s₃.heap.push { cls := .type "range", data := .fields #[.int ((n : Int) - 1) t1, .int (-1) t2, .int (-1) t3] })
    rw [Heap.size_push] at this; exact this
  · exact absurd hb hbw
  · have e1 : ((n : Int) - 1 + ((0 : Nat) : Int) * (-1)) = (n : Int) - 1 := by simp
    have e2 : ((n : Int) - ((0 : Nat) : Int)) = Builtin.Range.rangeSize ((n : Int) - 1) (-1) (-1) := by rw [q2]; simp
    rw [e1, e2]
    exact Heap.get?_push_size _ rfl

/-! ### small statements -/
/-- x.append(e) -/
theorem wpAny_Expr' {M : Model} {A : Around} {E : Value → Shared → Prop} {s : Shared} {env : Env} {e : Expr} {pos : Pos} {Q : Flow → Shared → Prop} (h : wpAny M A (eval e env) (fun v s' => v = .none ∧ Q .next s') E s)
    (hi : interactive env = false) (hs : swapsWith e none pos.line env = pure false) : wpAny M A (exec (.Expr e pos) env) Q E s :=
  wpAny_Expr (wpAny_mono h (fun v s' ⟨e, q⟩ => by subst e; exact q) fun _ _ h => h) hi hs

theorem list_append_exact {prog : Program} {w : World} {A : Around} {E : Value → Shared → Prop} {l : Addr} {vs : Array Value} {n : Nat} {v : Value} {Q : Value → Shared → Prop} (hl : s.heap.get? l = some (listObj vs n)) (hsz : vs.size ≤ sizeLine)
    (hQ : ∀ h' n', h'.get? l = some (listObj (vs.push v) n') → Heap.SameBut l s.heap h' → Q .none { s with heap := h' }) : wpAny (model prog w) A (call (.builtin "list.append") [.ref l, v]) Q E s := by
  refine wpAny_list_append_plain (hsz := hsz) ⟨n, hl⟩ fun h' hl' hs' => ?_
  obtain ⟨n', hn'⟩ := hl'
  exact hQ h' n' hn' hs'

theorem Ex1.append (i : Nat) {y : Str} {p apos cpos pos : Pos} {e : Expr} {xs : List PyData} {d : PyData} (hi : F.ns[i]? = some y) (hρ : ρ[i]? = some (some (.own (.list xs)))) (h : Ev F ρ e d) (hsz : xs.length ≤ sizeLine)
    (hs : starEach [e] F.env = [(false, eval e F.env)]) (hline : (apos.endLine == cpos.line) = true) (hnt : noTab ρ = true := by rfl) :
    Ex1 F ρ (.Expr (.Call (.Attribute (.Name y p) "append" apos) [e] [] cpos) pos) (.next (ρ.set i (some (.own (.list (xs ++ [d])))))) := .of fun P mu m s x => by
  obtain ⟨u, hu, a, e', g1, g0, g2, g3, vs, n, ga, ra⟩ := x.vars i y _ hi hρ
  subst e'
  refine wpAny_Expr' ?_ (by unfold interactive; rw [x.ok.kind]; rfl) rfl
  refine wpAny_Call_method (T := "list") (id := "list.append") rfl (by rw [hs]; rfl) hline PySem.F.plainAttrs_list slot_list_append PySem.F.type_list_append ?_
  refine wpAny_Name (wpAny_loadName_local x.ok.kind (x.local hi) x.ns hu ⟨⟨_, ga, rfl⟩, fun b hb => ?_, ?_⟩) (x.ok.nodbg y (List.mem_of_getElem? hi))
  · cases hb; exact ⟨_, ga, rfl⟩
  · rw [hs]
    refine Calls.callWith_builtin rfl (Calls.evalArgs_plain (Calls.spliced_cons (wpAny_mono (h.run P mu m s x) (fun v s₁ ⟨g, r⟩ => Calls.spliced_nil ?_) fun _ _ h => h)))
    have x₁ := x.keeps g
    have e1 := ra.length
    simp only [Array.length_toList] at e1
    refine list_append_exact (g.heap _ _ ga) (by omega) fun h' n' hl' hs' => ⟨rfl, rfl, mu, m, ?_⟩
    refine x₁.change (t := s₁.toks) hi hρ hu hs' ⟨_, n', hl', ?_⟩ hnt
    rw [Array.toList_push]
    have hk : ∀ b o, ¬ mu b → s₁.heap.get? b = some o → h'.get? b = some o ∧ ¬ mu b := fun b o hm e => ⟨hs'.extBut b o (fun hb => hm (hb ▸ g1)) e, hm⟩
    exact ((ra.keep g.heap).mono hk).append (.cons (r.mono hk) .nil)

theorem Ex1.augAdd (i : Nat) {y : Str} {p pos : Pos} {e : Expr} {a b : Int} (hi : F.ns[i]? = some y) (hρ : ρ[i]? = some (some (.dat (.int a)))) (h : Ev F ρ e (.int b)) :
    Ex1 F ρ (.AugAssign (.Name y p) .Add e pos) (.next (ρ.set i (some (.dat (.int (a + b)))))) := .of fun P mu m s x => by
  obtain ⟨v, hv, hr⟩ := x.vars i y _ hi hρ
  obtain ⟨t, rfl⟩ := Rep.int_inv hr
  refine wpAny_AugAssign_Name (wpAny_loadName_local x.ok.kind (x.local hi) x.ns hv (wpAny_mono (h.run P mu m s x) (fun v s₁ ⟨g, r⟩ => ?_) fun _ _ h => h))
  obtain ⟨u, rfl⟩ := r.int_inv
  refine PyProof.Rows.iadd_int (wpAny_storeName_local (x.local hi) ((x.keeps g).keeps (Go.toks s₁ _)).ns (fun h' hn hs => ⟨rfl, mu, _, ((x.keeps g).keeps (Go.toks s₁ _)).store hi (.int _ _) hn hs⟩) x.plainEnv)
end
end Mine
namespace Mine
open PySem PyProof.Rows
set_option linter.unusedVariables false
set_option linter.unusedSectionVars false

/-- a list of texts -/
noncomputable abbrev ls (xs : List Str) : PyData := .list (xs.map PyData.str)

section
variable {F : Fx} {P : Prot} {ρ : List (Option AV)} {mu : Addr → Prop} {m : Str → Option Value} {s s' : Shared}

theorem reps_strs {prog : Program} {w : World} {mu : Addr → Prop} {h : Heap} : ∀ {vs : List Value} {xs : List Str}, Reps prog w mu h vs (xs.map PyData.str) → ∃ l, vs = strValues l ∧ l.map (·.1) = xs
  | _, [], r => by cases r; exact ⟨[], rfl, rfl⟩
  | _, x :: xs, r => by
    cases r with
    | cons r1 rs =>
      obtain ⟨t, rfl⟩ := r1.str_inv
      obtain ⟨l, rfl, rfl⟩ := reps_strs rs
      exact ⟨(x, t) :: l, rfl, rfl⟩
theorem strs_reps {prog : Program} {w : World} {mu : Addr → Prop} {h : Heap} : ∀ (l : List (Str × Tok)), Reps prog w mu h (strValues l) ((l.map (·.1)).map PyData.str)
  | [] => .nil
  | (x, t) :: l => .cons (.str x t) (strs_reps l)

theorem Ev.join {o e : Expr} {apos pos : Pos} {sep : Str} {xs : List Str} (ho : Ev F ρ o (.str sep)) (he : Ev F ρ e (ls xs)) (hok : JoinOk sep xs = true)
    (hb : attributeBase o "join" F.env (eval o F.env) = eval o F.env) (hs : starEach [e] F.env = [(false, eval e F.env)]) (hline : (apos.endLine == pos.line) = true) :
    Ev F ρ (.Call (.Attribute o "join" apos) [e] [] pos) (.str (Txt.join sep xs)) := .of fun P mu m s x => by
  refine wpAny_Call_method (T := "str") (id := "str.join") hb (by rw [hs]; rfl) hline PySem.F.plainAttrs_str PySem.F.slot_str_join PySem.F.type_str_join ?_
  refine wpAny_mono (ho.run P mu m s x) (fun v s₁ ⟨g, r⟩ => ?_) fun _ _ h => h
  obtain ⟨t, rfl⟩ := r.str_inv
  refine ⟨typeIs_str _ _ _, fun a e => (by cases e), ?_⟩
  rw [hs]
  refine Calls.callWith_builtin rfl (Calls.evalArgs_plain (Calls.spliced_cons (wpAny_mono (he.run P mu m s₁ (x.keeps g)) (fun v s₂ ⟨g2, r2⟩ => Calls.spliced_nil ?_) fun _ _ h => h)))
  obtain ⟨a, vs, n, rfl, ha, ga, ra⟩ := r2.list_inv
  obtain ⟨l, e1, e2⟩ := reps_strs ra
  refine SC.join (l := l) ⟨_, ga, rfl, n, by rw [← e1]⟩ e2 hok fun t' k => ⟨(g.trans g2).trans (Go.toks s₂ _), .str _ _⟩

theorem str_split {prog : Program} {w : World} {A : Around} {E : Value → Shared → Prop} {x y : Str} {t u : Tok} {Q : Value → Shared → Prop} (hy : (y.length == 0) = false)
    (hq : ∀ (l : List (Str × Tok)) k, l.map (·.1) = Txt.split x y → Q (.ref s.heap.objs.size) { s with heap := s.heap.push (listObj (strValues l).toArray 0), toks := k })
    (hsz : x.length ≤ sizeLine) (hsz2 : (Builtin.Str.partsBetween x (Builtin.Str.occurrences x y 0 x.length (x.length + 1)) y.length).length ≤ sizeLine) :
    wpAny (model prog w) A (call (.builtin "str.split") [.str x t, .str y u]) Q E s := by
  have by_meets : ∀ {pre : Around → (Result → Shared → Prop) → Shared → Prop}, Meets (Builtin.«str.split» ⟨[.str x t, .str y u], []⟩) pre → _ → wpAny (model prog w) A (call (.builtin "str.split") [.str x t, .str y u]) Q E s :=
    fun M => call_meets PySem.F.slot_str_split (typeIs_str _ _ _) PySem.F.entry_str_split (PySem.F.args_str_split_2 _ _) M
  by_cases h1 : (decide (x.length < y.length) || decide (Builtin.Str.strKind x < Builtin.Str.strKind y)) = true
  · exact by_meets (meets_str_split_cannot_occur x y t u h1) (hq [(x, t)] _ (if_pos h1).symm)
  by_cases hf : (Builtin.Str.occurrences x y 0 x.length (x.length + 1)).isEmpty = true
  · exact by_meets (meets_str_split_not_found x y t u (eq_false_of_ne_true h1) hy hf) (hq [(x, t)] _ (by rw [Txt.split, if_neg h1, if_pos hf]; rfl))
  · refine by_meets (meets_str_split_sep x y t u (eq_false_of_ne_true h1) hy (eq_false_of_ne_true hf) hsz hsz2) ?_
    have e := hq (numbered s.toks (Builtin.Str.partsBetween x (Builtin.Str.occurrences x y 0 x.length (x.length + 1)) y.length)) (s.toks + (Builtin.Str.partsBetween x (Builtin.Str.occurrences x y 0 x.length (x.length + 1)) y.length).length) (by rw [numbered_texts, Txt.split, if_neg h1, if_neg hf])
    rw [← strsFrom_eq] at e
    exact e

theorem EvNew.split {o e : Expr} {apos pos : Pos} {x y : Str} (ho : Ev F ρ o (.str x)) (he : Ev F ρ e (.str y)) (hy : (y.length == 0) = false) (hsz : x.length ≤ sizeLine)
    (hsz2 : (Builtin.Str.partsBetween x (Builtin.Str.occurrences x y 0 x.length (x.length + 1)) y.length).length ≤ sizeLine)
    (hb : attributeBase o "split" F.env (eval o F.env) = eval o F.env) (hs : starEach [e] F.env = [(false, eval e F.env)]) (hline : (apos.endLine == pos.line) = true) :
    EvNew F ρ (.Call (.Attribute o "split" apos) [e] [] pos) (ls (Txt.split x y)) := EvNew.ofGo fun P mu m s st => by
  refine wpAny_Call_method (T := "str") (id := "str.split") hb (by rw [hs]; rfl) hline PySem.F.plainAttrs_str PySem.F.slot_str_split PySem.F.type_str_split ?_
  refine wpAny_mono (ho.run P mu m s st) (fun v s₁ ⟨g, r⟩ => ?_) fun _ _ h => h
  obtain ⟨t, rfl⟩ := r.str_inv
  refine ⟨typeIs_str _ _ _, fun a e => (by cases e), ?_⟩
  rw [hs]
  refine Calls.callWith_builtin rfl (Calls.evalArgs_plain (Calls.spliced_cons (wpAny_mono (he.run P mu m s₁ (st.keeps g)) (fun v s₂ ⟨g2, r2⟩ => Calls.spliced_nil ?_) fun _ _ h => h)))
  obtain ⟨u, rfl⟩ := r2.str_inv
  refine str_split hy (fun l k hl => ?_) hsz hsz2
  refine ⟨s₂, g.trans g2, Go.push s₂ _ (t := k), _, rfl, fresh_size _, newList_own (t := 0) ((st.keeps g).keeps g2) ?_⟩
  have := strs_reps (prog := F.prog) (w := F.w) (mu := mu) (h := s₂.heap) l
  rw [hl] at this
  simpa using this

theorem Ev.count {o e : Expr} {apos pos : Pos} {x : Str} {xs : List Str} (ho : Ev F ρ o (ls xs)) (he : Ev F ρ e (.str x))
    (hb : attributeBase o "count" F.env (eval o F.env) = eval o F.env) (hs : starEach [e] F.env = [(false, eval e F.env)]) (hline : (apos.endLine == pos.line) = true) :
    Ev F ρ (.Call (.Attribute o "count" apos) [e] [] pos) (.int (xs.count x : Nat)) := .of fun P mu m s st => by
  refine wpAny_Call_method (T := "list") (id := "list.count") hb (by rw [hs]; rfl) hline PySem.F.plainAttrs_list PySem.F.slot_list_count PySem.F.type_list_count ?_
  refine wpAny_mono (ho.run P mu m s st) (fun v s₁ ⟨g, r⟩ => ?_) fun _ _ h => h
  obtain ⟨a, vs, n, rfl, ha, ga, ra⟩ := r.list_inv
  refine ⟨⟨_, ga, rfl⟩, fun b e => (by cases e; exact ⟨_, ga, rfl⟩), ?_⟩
  rw [hs]
  refine Calls.callWith_builtin rfl (Calls.evalArgs_plain (Calls.spliced_cons (wpAny_mono (he.run P mu m s₁ (st.keeps g)) (fun v s₂ ⟨g2, r2⟩ => Calls.spliced_nil ?_) fun _ _ h => h)))
  obtain ⟨t, rfl⟩ := r2.str_inv
  obtain ⟨l, e1, e2⟩ := reps_strs ra
  refine call_meets PySem.F.slot_list_count ⟨_, g2.heap _ _ ga, rfl⟩ PySem.F.entry_list_count (PySem.F.args_list_count_2 _ _)
    (SeqAt.list_countAt a vs n none #[] (.str x t) (fun v => match v with | .str y _ => y == x | _ => false)) ⟨g2.heap _ _ ga, fun y hy => ?_, ?_⟩
  · have hy' : y ∈ strValues l := by rw [← e1]; simpa using hy
    obtain ⟨p, hp, rfl⟩ := List.mem_map.mp hy'
    exact SeqAt.EqAt.str_str p.1 p.2 x t
  · refine ⟨(g.trans g2).trans (Go.toks s₂ _), ?_⟩
    have : vs.toList.countP (fun v => match v with | .str y _ => y == x | _ => false) = xs.count x := by
      rw [e1, ← e2, List.count, strValues, List.countP_map, List.countP_map]
      rfl
    rw [this]
    exact .int _ _

/-! ### unpacking -/
theorem extBut_go {h' : Heap} (he : Heap.ExtBut s.heap.objs.size s.heap h') : Go s { s with heap := h' } := ⟨fun b o e => he b o (fun hb => by rw [hb, fresh_size] at e; cases e) e, rfl, rfl⟩

/-- targets bound one by one -/
structure BdL (F : Fx) (elts : List Expr) (ρ : List (Option AV)) (ds : List PyData) (ρ' : List (Option AV)) : Prop where
  of ::
  run : ∀ P mu m s vs, St F P ρ mu m s → Reps F.prog F.w mu s.heap vs ds →
  wpAny (model F.prog F.w) F.A (assignInOrder ((assignEach elts F.env).map (·.2)) vs) (fun _ s' => ∃ m', St F P ρ' mu m' s') (fun _ _ => False) s
theorem BdL.nil : BdL F [] ρ [] ρ := .of fun P mu m s vs x r => by cases r; exact wpAny_pure ⟨m, x⟩
theorem BdL.cons (i : Nat) {y : Str} {pos : Pos} {elts : List Expr} {d : PyData} {ds : List PyData} {ρ' : List (Option AV)} (hi : F.ns[i]? = some y) (h : BdL F elts (ρ.set i (some (.dat d))) ds ρ') : BdL F (.Name y pos :: elts) ρ (d :: ds) ρ' := .of fun P mu m s vs x r => by
  cases r with
  | @cons v vs _ _ r1 rs =>
    show wpAny _ _ (do holding vs (assign (.Name y pos) F.env v); assignInOrder ((assignEach elts F.env).map (·.2)) vs) _ _ s
    refine wpAny_bind (wpAny_holding (wpAny_assign_Name (wpAny_storeName_local (x.local hi) x.ns (fun h' hn hs => ?_) x.plainEnv)))
    have hk : ∀ b o, ¬ mu b → s.heap.get? b = some o → h'.get? b = some o ∧ ¬ mu b := fun b o hm e => ⟨(hs.2 b (fun hb => hm (hb ▸ x.muL))).trans e, hm⟩
    exact h.run P mu _ _ vs (x.store hi r1 hn hs) (rs.mono hk)
theorem Bd.tuple {elts : List Expr} {k : Nat} {pos : Pos} {ds : List PyData} {ρ' : List (Option AV)} (h : BdL F elts ρ ds ρ') (hn : (assignEach elts F.env).length = ds.length) (hstar : (assignEach elts F.env).findIdx? (·.1) = none) :
    Bd F (.Tuple elts k pos) ρ (.tuple ds) ρ' := .of fun P mu m s v x r => by
  obtain ⟨a, vs, n, rfl, ha, ga, ra⟩ := r.tuple_inv
  have e1 := ra.length
  simp only [Array.length_toList] at e1
  refine assign_Tuple_tuple x.ok.handled (items := vs) ⟨_, ga, rfl, n, rfl⟩ (by omega) hstar fun h' he => ?_
  have g := extBut_go he
  exact wpAny_mono (h.run P mu m _ vs.toList (x.keeps g) (ra.keep g.heap)) (fun _ s' ⟨m', x'⟩ => ⟨mu, m', x'⟩) fun _ _ h => h
theorem Ex1.assignTuple {elts : List Expr} {k : Nat} {tpos pos : Pos} {e : Expr} {ds : List PyData} {ρ' : List (Option AV)} (he : Ev F ρ e (.tuple ds)) (h : BdL F elts ρ ds ρ') (hn : (assignEach elts F.env).length = ds.length) (hstar : (assignEach elts F.env).findIdx? (·.1) = none)
    (hs : swapsWithSole [.Tuple elts k tpos] e pos.line F.env = pure false) (hw : swappedStores [.Tuple elts k tpos] e F.env = pure none) : Ex1 F ρ (.Assign [.Tuple elts k tpos] e pos) (.next ρ') := .of fun P mu m s x =>
  Assign_Tuple (wpAny_mono (he.run P mu m s x) (fun v s₁ ⟨g, r⟩ => wpAny_mono ((Bd.tuple h hn hstar).run P mu m s₁ v (x.keeps g) r) (fun _ s₂ ⟨mu', m', x'⟩ => ⟨rfl, mu', m', x'⟩) fun _ _ h => h) fun _ _ h => h) hs hw

/-! ### type(e) is not int -/
theorem Tr.typeIsNotInt {e : Expr} {i : Int} {np cpos ip pos : Pos} (h : Ev F ρ e (.int i)) (hs : starEach [e] F.env = [(false, eval e F.env)]) (hx : F.env.kindOf "type" = some .globalImplicit) (hx2 : F.env.kindOf "int" = some .globalImplicit) :
    Tr F ρ (.Compare (.Call (.Name "type" np) [e] [] cpos) [.IsNot] [.Name "int" ip] pos) false := .of fun P mu m s x => by
  obtain ⟨k1, k2⟩ := x.ok.T.bi ("type", .type "type") (by simp [biTable])
  obtain ⟨j1, j2⟩ := x.ok.T.bi ("int", .type "int") (by simp [biTable])
  refine wpAny_isTrue_Compare1 (wpAny_Call_NameR (Calls.Name_function_global x.ok.kind hx (Calls.loadGlobal_builtin (by rw [x.ok.globals]; exact x.ok.T.g.keeps x.topK) k1 (by rw [x.ok.builtins]; exact x.ok.T.b.keeps x.topK) k2 ?_)))
  rw [hs]
  refine PySem.callWith_type rfl (Calls.evalArgs_plain (Calls.spliced_cons (wpAny_mono (h.run P mu m s x) (fun v s₁ ⟨g, r⟩ => Calls.spliced_nil ?_) fun _ _ h => h)))
  obtain ⟨t, rfl⟩ := r.int_inv
  refine call_type_of (typeIs_int s₁ i t) (by decide) ?_
  have x₁ := x.keeps g
  refine Calls.Name_function_global x.ok.kind hx2 (Calls.loadGlobal_builtin (by rw [x.ok.globals]; exact x.ok.T.g.keeps x₁.topK) j1 (by rw [x.ok.builtins]; exact x.ok.T.b.keeps x₁.topK) j2 ?_)
  exact isnot_type_same (wpAny_truthy_bool ⟨g, rfl⟩)

/-! ### tables -/
theorem St.notModules (x : St F P ρ mu m s) : (s.heap.objs.size == sysModules) = false := by
  obtain ⟨mc, ⟨o, _, _, ho, _⟩, _⟩ := x.ok.T.lim
  have : (2 : Nat) < s.heap.objs.size := Heap.lt_size (x.topK _ _ ho)
  simp only [beq_eq_false_iff_ne, ne_eq, sysModules]
  omega
theorem EvNew.dictNil {pos : Pos} : EvNew F ρ (.Dict [] [] pos) (imap []) := EvNew.ofGo fun P mu m s x =>
  wpAny_Dict_empty ⟨s, Go.refl s, Go.push s _ (t := s.toks), _, rfl, fresh_size _, [], rfl, x.notModules, [], Heap.DictOf.new s.heap, trivial⟩

theorem stored_new {kvs : List (Int × Value)} {es : List (Int × Int)} (h : IVals kvs es) {k : Int} {v : Value} (hk : k ∉ es.map (·.1)) : stored kvs k v = kvs ++ [(k, v)] := by
  unfold stored
  rw [if_neg]
  intro hany
  obtain ⟨p, hp, e⟩ := List.any_eq_true.mp hany
  have e : p.1 = k := by simpa using e
  rw [← h.keys] at hk
  exact hk (e ▸ List.mem_map_of_mem hp)

/-- x[k] = v for a table of its own -/
theorem Ex1.setDict (i : Nat) {y : Str} {np spos pos : Pos} {ek ev : Expr} {es : List (Int × Int)} {k v : Int} (hi : F.ns[i]? = some y) (hρ : ρ[i]? = some (some (.own (imap es)))) (hv : Ev F ρ ev (.int v)) (hk : Ev F ρ ek (.int k)) (hnew : k ∉ es.map (·.1)) (hsz : es.length ≤ sizeLine)
    (hs : swapsWith ev (some (.Subscript (.Name y np) ek spos)) pos.line F.env = pure false) (hnt : noTab ρ = true := by rfl) :
    Ex1 F ρ (.Assign [.Subscript (.Name y np) ek spos] ev pos) (.next (ρ.set i (some (.own (imap (es ++ [(k, v)])))))) := .of fun P mu m s x => by
  refine wpAny_Assign_Subscript (wpAny_mono (hv.run P mu m s x) (fun v' s₁ ⟨g1, r1⟩ => ?_) fun _ _ h => h) hs
  obtain ⟨t, rfl⟩ := r1.int_inv
  have x₁ := x.keeps g1
  obtain ⟨u, hu, a, e', k1, k0, k2, k3, es', hes, hat⟩ := x₁.vars i y _ hi hρ
  subst e'
  have hes : es' = es := (imap_inj (by rw [imap, hes, imap])).symm
  subst hes
  refine wpAny_Name (wpAny_loadName_local x.ok.kind (x.local hi) x₁.ns hu (wpAny_mono (hk.run P mu m s₁ x₁) (fun kv s₂ ⟨g2, r2⟩ => ?_) fun _ _ h => h)) (x.ok.nodbg y (List.mem_of_getElem? hi))
  obtain ⟨tk, rfl⟩ := r2.int_inv
  obtain ⟨hsm, kvs, hdo, hiv⟩ := hat.keep (fun o e => g2.heap _ o e)
  have x₂ := x₁.keeps g2
  refine wpAny_setItem_pairs (intKind_is F.prog F.w k tk) hdo (fun h' hd' hs' => ⟨rfl, mu, m, ?_⟩) (by rw [hiv.length]; exact hsz)
  rw [stored_new hiv hnew] at hd'
  exact x₂.change (t := s₂.toks + 1) hi hρ hu hs' ⟨_, rfl, hsm, _, hd', hiv.snoc⟩ hnt
end
end Mine
namespace Mine
open PySem PyProof.Rows
set_option linter.unusedVariables false
set_option linter.unusedSectionVars false

section
variable {prog : Program} {w : World} {A : Around} {E : Value → Shared → Prop} {s : Shared}
set_option maxRecDepth 8000 in
theorem getAttrQ_keys {a : Addr} {xs : Array Value} {k : Nat} {Q : Option Value → Shared → Prop} (hx : s.heap.get? a = some (tupObj xs k)) (hA : A.handled = none)
    (h : ∀ h' tk, (∀ b o, s.heap.get? b = some o → h'.get? b = some o) → Q none { s with heap := h', toks := tk }) : wpAny (model prog w) A (getAttr? (.ref a) "keys") Q E s := by
  have hmiss : typeLookup (.type "tuple") "keys" = pure none := am_miss_of_fast (by decide +kernel)
  obtain ⟨hp, g, d, tk, os⟩ := s
  have hT : ∀ tk', (⟨hp, g, d, tk', os⟩ : Shared).TypeIs (.ref a) "tuple" := fun _ => ⟨_, hx, rfl⟩
  have f1 := sub_AttributeError
  have f3 := PySem.F.slot_tuple_getattribute.lookup
  have f4 := PySem.F.slot_tuple_getattribute.bind (.ref a)
  have f5 := am_tuple_getattr_none
  unfold getAttr? getAttrBy? getAttrBy
  repeat (any_goals (first | assumption | exact hT _ | ((with_reducible show wpAny _ _ (call (Value.builtin "tuple.__getattribute__") _ _) _ _ _); refine call_meets PySem.F.slot_tuple_getattribute (hT _) am_entry_tuple_getattribute (PySem.F.args_tuple_getattribute_2 _ _) (meets_getattribute_miss_tuple a xs k #[] "keys" _ hmiss (by decide +kernel) (by decide +kernel)) ⟨hx, hA, fun h' tk' e hx' => ?_⟩) | wp_step))
  obtain ⟨t', u', he⟩ := hx'.there
  show wpAny _ _ (getattributeRaised _ _ _ _ _ _ _) _ _ _
  unfold getattributeRaised
  repeat (any_goals (first | assumption | wp_step))
  exact h _ _ hx'.keeps

theorem dict_pairs_head {o : Addr} {xs : Array Value} {k : Nat} {Q : Value → Shared → Prop} (hA : A.handled = none) (ho : s.heap.get? o = some (tupObj xs k))
    (h : ∀ (h' : Heap) (tk : Nat), (∀ b ob, (s.heap.push { cls := .type "dict", data := .dict #[] }).get? b = some ob → h'.get? b = some ob) →
      codeAny (model prog w) A.in1 (.builtin "dict.update.loop" ⟨[.ref s.heap.objs.size, .ref h'.objs.size, rawInt 0, .none], []⟩) (fun r s' => r = .ok (.ret .none) ∧ Q (.ref s.heap.objs.size) s')
        { s with heap := h'.push { cls := .type "tuple_iterator", data := .fields #[.ref o, .int 0 0] }, toks := tk }) :
    wpAny (model prog w) A (call (.type "dict") [.ref o]) Q E s := by
  refine callType_codes (Q₁ := fun obj s₁ => obj = .ref s.heap.objs.size ∧ s₁ = { s with heap := s.heap.push { cls := .type "dict", data := .dict #[] } }) F.kt_called_dict (F.kt_typeCall_dict_1 _) F.entry_dict_init (kt_code_dict_new _ ⟨rfl, rfl⟩) ?_
  rintro obj s₁ ⟨rfl, rfl⟩
  have hnew : (s.heap.push { cls := .type "dict", data := .dict #[] }).DictOf (intKind prog w) s.heap.objs.size [] := Heap.DictOf.new s.heap
  have ho' : (s.heap.push { cls := .type "dict", data := .dict #[] }).get? o = some (tupObj xs k) := Heap.get?_push_of_some _ ho
  refine ⟨hnew.typeIs, F.args_dict_init_2 _ _, wpAny_bind (wpAny_bind (wpAny_notOrdered_dict hnew.typeIs (wpAny_pure ?_)))⟩
  refine show wpAny _ _ (Builtin.Dict.updateFrom _ _ _ _ _) _ _ _ from wpAny_bind (wpAny_typeOf (T := "tuple") ⟨_, ho', rfl⟩ ?_)
  refine wpAny_ite_true rfl (wpAny_bind (getAttrQ_keys (s := { s with heap := s.heap.push { cls := .type "dict", data := .dict #[] } }) ho' hA fun h' tk hk => ?_))
  exact wpAny_ite_true rfl (wpAny_bind (wpAny_rule (wpAny_bind (wpAny_pyIter_tuple ⟨_, hk _ _ ho', rfl, k, rfl⟩ (wpAny_pure ⟨Code.quiet_builtin _ (by decide +kernel), codeAny_mono (h h' tk hk) (fun r s' ⟨e, q⟩ => by subst e; exact ⟨rfl, q⟩)⟩)))))

theorem entry_dict_update_loop : entryFor table "dict.update.loop" = some Builtin.«dict.update.loop» := entryFor_of_tree (by kernel_rfl)
theorem plain_dict_update_loop : plainId "dict.update.loop" = true := by decide +kernel

theorem dict_update_loop {d it t : Addr} {vs : Array Value} {n : Nat} {R : Result → Shared → Prop} (hA : A.handled = none) (hdt : t ≠ d) (hid : it ≠ d) (hit : it ≠ t) :
    ∀ (r k : Nat) (ps : List (Int × Int)) (kvs : List (Int × Value)) (es : List (Int × Int)) (s : Shared), vs.size - k = r → k ≤ vs.size → s.heap.IsTupleIter it t k → s.heap.get? t = some (tupObj vs n) →
      (∀ j, k ≤ j → j < vs.size → ∃ q pv pn i1 t1 i2 t2, vs[j]? = some (.ref q) ∧ q ≠ d ∧ q ≠ it ∧ s.heap.get? q = some (tupObj pv pn) ∧ pv = #[.int i1 t1, .int i2 t2] ∧ ps[j - k]? = some (i1, i2)) → ps.length = vs.size - k →
      s.heap.DictOf (intKind prog w) d kvs → IVals kvs es → ((es ++ ps).map (·.1)).Nodup → (es ++ ps).length ≤ sizeLine →
      (∀ h' tk kvs', h'.DictOf (intKind prog w) d kvs' → IVals kvs' (es ++ ps) → (∀ b o, b ≠ d → b ≠ it → s.heap.get? b = some o → h'.get? b = some o) → R (.ok (.ret .none)) { s with heap := h', toks := tk }) →
      codeAny (model prog w) A (.builtin "dict.update.loop" ⟨[.ref d, .ref it, rawInt k, .none], []⟩) R s := by
  intro r
  induction r with
  | zero =>
    intro k ps kvs es s hr hk hiter ht hps hpl hd hiv hnd hsz hR
    refine codeAny_builtin entry_dict_update_loop ?_
    rw [Around.under_plainId plain_dict_update_loop _]
    unfold Builtin.«dict.update.loop»
    refine wpAny_bind (wpAny_pyNext_tuple_end (A := A.in1) hA hiter ⟨_, ht, rfl, n, rfl⟩ (by simp; omega) fun h' he => ?_)
    have hps0 : ps = [] := List.length_eq_zero_iff.mp (by omega)
    subst hps0
    rw [List.append_nil] at hR
    show wpAny _ _ (Builtin.Dict.addKeywords d [] >>= fun _ => ret .none) _ _ _
    refine wpAny_bind ?_
    show wpAny _ _ (pure ()) _ _ _
    exact wpAny_pure (wpAny_pure (hR h' s.toks kvs (hd.at fun o e => he d o (fun h => hid h.symm) e) hiv fun b o _ hb e => he b o hb e))
  | succ r ih =>
    intro k ps kvs es s hr hk hiter ht hps hpl hd hiv hnd hsz hR
    refine codeAny_builtin entry_dict_update_loop ?_
    rw [Around.under_plainId plain_dict_update_loop _]
    unfold Builtin.«dict.update.loop»
    obtain ⟨q, pv, pn, i1, t1, i2, t2, hv, hqd, hqi, hq, hpv, hp⟩ := hps k (Nat.le_refl _) (by omega)
    subst hpv
    rw [Nat.sub_self] at hp
    obtain ⟨ps', rfl⟩ : ∃ ps', ps = (i1, i2) :: ps' := by
      cases ps with
      | nil => simp at hp
      | cons x ps' => simp at hp; exact ⟨ps', by rw [hp]⟩
    refine wpAny_bind (wpAny_pyNext_tuple_item hiter ⟨_, ht, rfl, n, rfl⟩ hv fun h' hit' hs' => ?_)
    have hq' : h'.get? q = some (tupObj #[.int i1 t1, .int i2 t2] pn) := hs'.extBut _ _ hqi hq
    refine wpAny_bind (wpAny_holding (wpAny_bind (wpAny_tryCatch ?_)))
    unfold Builtin.Dict.pairItems
    refine wpAny_bind (wpAny_typeOf (T := "tuple") ⟨_, hq', rfl⟩ ?_)
    rw [if_pos (by decide)]
    refine wpAny_bind (wpAny_seqItems hq' rfl (wpAny_pure ?_))
    show wpAny _ _ (holding [Value.int i1 t1, Value.int i2 t2] (dictSet d (.int i1 t1) (.int i2 t2))) _ _ _
    have hd' : h'.DictOf (intKind prog w) d kvs := hd.at fun o e => hs'.extBut d o (fun h => hid h.symm) e
    have hkn : i1 ∉ es.map (·.1) := by
      rw [List.map_append, List.map_cons] at hnd
      have := (List.nodup_append.mp hnd).2.2
      exact fun hm => this i1 hm i1 (List.mem_cons_self ..) rfl
    refine wpAny_holding (wpAny_dictSet_pairs (intKind_is prog w i1 t1) hd' (fun h'' hd'' hs'' => wpAny_pure ?_) (by have := hiv.length; rw [List.length_append] at hsz; omega))
    rw [stored_new hiv hkn] at hd''
    refine ⟨Code.quiet_builtin _ (by decide +kernel), ?_⟩
    have up : ∀ b o, b ≠ d → b ≠ it → s.heap.get? b = some o → h''.get? b = some o := fun b o h1 h2 e => hs''.extBut b o h1 (hs'.extBut b o h2 e)
    have hc : ((k : Int) + 1) = ((k + 1 : Nat) : Int) := by push_cast; rfl
    rw [hc]
    have hes : es ++ (i1, i2) :: ps' = (es ++ [(i1, i2)]) ++ ps' := by simp
    rw [hes] at hnd hsz hR
    refine ih (k + 1) ps' _ _ _ (by omega) (by omega) (let ⟨o, ho, r⟩ := hit'; ⟨o, hs''.extBut _ _ hid ho, r⟩) (up _ _ hdt (fun h => hit h.symm) ht) (fun j hj1 hj2 => ?_) (by simp at hpl; omega) hd'' hiv.snoc hnd hsz fun h₃ tk kvs' a1 a2 a3 => hR h₃ tk kvs' a1 a2 fun b o h1 h2 e => a3 b o h1 h2 (up b o h1 h2 e)
    obtain ⟨q, pv, pn, j1, u1, j2, u2, hv, hqd, hqi, hq, hpv, hp⟩ := hps j (by omega) hj2
    refine ⟨q, pv, pn, j1, u1, j2, u2, hv, hqd, hqi, up _ _ hqd hqi hq, hpv, ?_⟩
    rw [show j - k = (j - (k + 1)) + 1 by omega, List.getElem?_cons_succ] at hp
    exact hp
end

/-- a pair of ints -/
noncomputable abbrev pairD (p : Int × Int) : PyData := .tuple [.int p.1, .int p.2]

section
variable {F : Fx} {P : Prot} {ρ : List (Option AV)} {mu : Addr → Prop} {m : Str → Option Value} {s s' : Shared}

/-- dict(pairs) -/
theorem EvNew.dictOf {e : Expr} {np pos : Pos} {ps : List (Int × Int)} (h : Ev F ρ e (.tuple (ps.map pairD))) (hnd : (ps.map (·.1)).Nodup) (hsz : ps.length ≤ sizeLine) (hs : starEach [e] F.env = [(false, eval e F.env)]) (hx : F.env.kindOf "dict" = some .globalImplicit) :
    EvNew F ρ (.Call (.Name "dict" np) [e] [] pos) (imap ps) := EvNew.ofGo fun P mu m s x => by
  obtain ⟨k1, k2⟩ := x.ok.T.bi ("dict", .type "dict") (by simp [biTable])
  refine wpAny_Call_NameR (Calls.Name_function_global x.ok.kind hx (Calls.loadGlobal_builtin (by rw [x.ok.globals]; exact x.ok.T.g.keeps x.topK) k1 (by rw [x.ok.builtins]; exact x.ok.T.b.keeps x.topK) k2 ?_))
  rw [hs]
  refine PySem.callWith_type rfl (Calls.evalArgs_plain (Calls.spliced_cons (wpAny_mono (h.run P mu m s x) (fun v s₁ ⟨g, r⟩ => Calls.spliced_nil ?_) fun _ _ h => h)))
  have x₁ := x.keeps g
  obtain ⟨a, vs, n, rfl, ha, ga, ra⟩ := r.tuple_inv
  have e1 := ra.length
  simp only [Array.length_toList, List.length_map] at e1
  have hne : a ≠ s₁.heap.objs.size := fun e => by rw [e, fresh_size] at ga; cases ga
  refine dict_pairs_head x.ok.handled ga fun h' tk hk => ?_
  have hk' : ∀ b o, s₁.heap.get? b = some o → h'.get? b = some o := fun b o e => hk b o (Heap.get?_push_of_some _ e)
  have hd0 : h'.get? s₁.heap.objs.size = some { cls := .type "dict", data := .dict #[] } := hk _ _ (Heap.get?_push_size _ rfl)
  have hlt : ∀ b o, h'.get? b = some o → b ≠ h'.objs.size := fun b o e => Nat.ne_of_lt (Heap.lt_size e)
  refine dict_update_loop (A := F.A.in1) (vs := vs) (n := n) (t := a) (it := h'.objs.size) (d := s₁.heap.objs.size) x.ok.handled hne (fun e => hlt _ _ hd0 e.symm) (fun e => hlt _ _ (hk' _ _ ga) e.symm) vs.size 0 ps [] [] _ (by simp) (Nat.zero_le _)
    ⟨_, Heap.get?_push_size _ rfl, rfl, rfl⟩ (Heap.get?_push_of_some _ (hk' _ _ ga)) (fun j _ hj => ?_) (by omega) ?_ trivial (by simpa using hnd) (by simpa using hsz) (fun h₂ tk₂ kvs' hd₂ hiv hk₂ => ⟨rfl, s₁, g, ?_, _, rfl, fresh_size _, ps, rfl, x₁.notModules, kvs', hd₂, by simpa using hiv⟩)
  · have hj' : j < ps.length := by omega
    obtain ⟨v, hv, rv⟩ := ra.get (i := j) (d := pairD ps[j]) (by rw [List.getElem?_map, List.getElem?_eq_getElem hj']; rfl)
    obtain ⟨q, pv, pn, rfl, hq, gq, rq⟩ := rv.tuple_inv
    cases hpl : pv.toList with
    | nil => rw [hpl] at rq; cases rq
    | cons v1 l1 =>
      rw [hpl] at rq
      cases rq with
      | cons r1 rq =>
        cases rq with
        | cons r2 rq =>
          cases rq
          obtain ⟨t1, rfl⟩ := r1.int_inv
          obtain ⟨t2, rfl⟩ := r2.int_inv
          refine ⟨q, pv, pn, (ps[j]).1, t1, (ps[j]).2, t2, by simpa using hv, fun e => ?_, fun e => hlt _ _ (hk' _ _ gq) e, Heap.get?_push_of_some _ (hk' _ _ gq), ?_, ?_⟩
          · rw [e, fresh_size] at gq; cases gq
          · exact Array.toList_inj.mp hpl
          · rw [Nat.sub_zero, List.getElem?_eq_getElem hj']
  · exact Heap.DictOf.at (Heap.DictOf.new s₁.heap) fun o e => Heap.get?_push_of_some _ (hk _ _ e)
  · exact ⟨fun b o e => hk₂ b o (fun h => by rw [h, fresh_size] at e; cases e) (hlt _ _ (hk' _ _ e)) (Heap.get?_push_of_some _ (hk' _ _ e)), rfl, rfl⟩
end
end Mine
namespace Mine
open PySem PyProof.Rows
set_option linter.unusedVariables false
set_option linter.unusedSectionVars false

section
variable {prog : Program} {w : World} {A : Around} {E : Value → Shared → Prop} {s : Shared}

/-- one item of a tuple's iterator -/
theorem draw_tuple {it t : Addr} {i : Nat} {items : Array Value} {x : Value} {Q : Value → Shared → Prop} (hit : s.heap.IsTupleIter it t i) (ht : s.heap.IsTuple t items) (hx : items[i]? = some x)
    (hQ : ∀ h', h'.IsTupleIter it t (i + 1) → Heap.SameBut it s.heap h' → Q x { s with heap := h' }) : wpAny (model prog w) A (Builtin.SmallTypes.nextOf (.ref it)) Q E s := by
  obtain ⟨hp, g, d, tk, os⟩ := s
  obtain ⟨⟨_, _, _, _⟩, ho, rfl, rfl⟩ := id hit
  obtain ⟨⟨_, _, _, _⟩, hol, rfl, n, rfl⟩ := ht
  unfold Builtin.SmallTypes.nextOf
  refine wpAny_bind (wpAny_callSpecial?_slot (name := Str.ofString "__next__") hit.typeIs F.slot_tuple_iterator_next (wpAny_call_entry F.slot_tuple_iterator_next hit.typeIs F.entry_tuple_iterator_next ?_ (F.args_tuple_iterator_next_1 _)))
  unfold Builtin.«tuple_iterator.__next__»
  wp_walk
  rw [Int.toNat_natCast, hx]
  wp_walk
  exact ⟨x, rfl, wpAny_pure (hQ _ ⟨_, Heap.get?_update_self _ ho rfl, rfl, by simp [Obj.mapFields, rawInt]⟩ (Heap.SameBut.update ..))⟩
end

section
variable {z TI TO i1 i2 l1 l2 : Addr}
/-- a zip over a list and a tuple, amid its turn: its mark f, its own pair (a, b), its iterators' places; h0 is the heap at the turn's start -/
structure ZS (z TI TO i1 i2 l1 l2 : Addr) (h0 : Heap) (f a b : Value) (k1 k2 : Nat) (h : Heap) : Prop where
  zip : IsZip h z TI TO f
  out : IsPair h TO a b
  it1 : h.IsListIter i1 l1 k1
  it2 : h.IsTupleIter i2 l2 k2
  rest : ∀ c o, c ≠ z → c ≠ TO → c ≠ i1 → c ≠ i2 → h0.get? c = some o → h.get? c = some o

variable {h0 h h' : Heap} {f f' a b a' b' : Value} {k1 k2 : Nat}
theorem ZS.onZ (D : ZipApart z TI TO i1 i2 l1 l2) (x : ZS z TI TO i1 i2 l1 l2 h0 f a b k1 k2 h) (hk : Heap.ExtBut z h h') (hz : IsZip h' z TI TO f') : ZS z TI TO i1 i2 l1 l2 h0 f' a b k1 k2 h' :=
  ⟨hz, hk _ _ D.TOz x.out, x.it1.extBut hk D.i1z, x.it2.extBut hk D.i2z, fun c o c1 c2 c3 c4 e => hk _ _ c1 (x.rest c o c1 c2 c3 c4 e)⟩
theorem ZS.onT (D : ZipApart z TI TO i1 i2 l1 l2) (x : ZS z TI TO i1 i2 l1 l2 h0 f a b k1 k2 h) (hk : Heap.ExtBut TO h h') (ho : IsPair h' TO a' b') : ZS z TI TO i1 i2 l1 l2 h0 f a' b' k1 k2 h' :=
  ⟨hk _ _ D.TOz.symm x.zip, ho, x.it1.extBut hk D.TOi1.symm, x.it2.extBut hk D.TOi2.symm, fun c o c1 c2 c3 c4 e => hk _ _ c2 (x.rest c o c1 c2 c3 c4 e)⟩
theorem ZS.on1 (D : ZipApart z TI TO i1 i2 l1 l2) (x : ZS z TI TO i1 i2 l1 l2 h0 f a b k1 k2 h) (hk : Heap.ExtBut i1 h h') (hi : h'.IsListIter i1 l1 (k1 + 1)) : ZS z TI TO i1 i2 l1 l2 h0 f a b (k1 + 1) k2 h' :=
  ⟨hk _ _ D.i1z.symm x.zip, hk _ _ D.TOi1 x.out, hi, x.it2.extBut hk D.i12.symm, fun c o c1 c2 c3 c4 e => hk _ _ c3 (x.rest c o c1 c2 c3 c4 e)⟩
theorem ZS.on2 (D : ZipApart z TI TO i1 i2 l1 l2) (x : ZS z TI TO i1 i2 l1 l2 h0 f a b k1 k2 h) (hk : Heap.ExtBut i2 h h') (hi : h'.IsTupleIter i2 l2 (k2 + 1)) : ZS z TI TO i1 i2 l1 l2 h0 f a b k1 (k2 + 1) h' :=
  ⟨hk _ _ D.i2z.symm x.zip, hk _ _ D.TOi2 x.out, x.it1.extBut hk D.i12, hi, fun c o c1 c2 c3 c4 e => hk _ _ c4 (x.rest c o c1 c2 c3 c4 e)⟩
theorem ZS.list (D : ZipApart z TI TO i1 i2 l1 l2) (x : ZS z TI TO i1 i2 l1 l2 h0 f a b k1 k2 h) {xs : Array Value} (hl : h0.IsList l1 xs) : h.IsList l1 xs := hl.at fun o e => x.rest _ o D.l1z D.l1TO D.l1i1 D.l1i2 e
theorem ZS.tuple (D : ZipApart z TI TO i1 i2 l1 l2) (x : ZS z TI TO i1 i2 l1 l2 h0 f a b k1 k2 h) {xs : Array Value} (hl : h0.IsTuple l2 xs) : h.IsTuple l2 xs := let ⟨o, ho, r⟩ := hl; ⟨o, x.rest _ o D.l2z D.l2TO D.l2i1 D.l2i2 ho, r⟩

theorem ZS.push (x : ZS z TI TO i1 i2 l1 l2 h0 f a b k1 k2 h) (o : Obj) : ZS z TI TO i1 i2 l1 l2 h0 f a b k1 k2 (h.push o) :=
  have hk : ∀ c o', h.get? c = some o' → (h.push o).get? c = some o' := fun _ _ e => Heap.get?_push_of_some _ e
  ⟨hk _ _ x.zip, hk _ _ x.out, x.it1.at fun _ e => hk _ _ e, let ⟨_, e, r⟩ := x.it2; ⟨_, hk _ _ e, r⟩, fun c o c1 c2 c3 c4 e => hk _ _ (x.rest c o c1 c2 c3 c4 e)⟩
theorem ZS.new (x : ZS z TI TO i1 i2 l1 l2 h0 f a b k1 k2 h) : h0.get? h.objs.size = none := by
  have hn : ∀ o, h.get? h.objs.size = some o → False := fun o e => absurd (Heap.lt_size e) (Nat.lt_irrefl _)
  cases q : h0.get? h.objs.size with
  | none => rfl
  | some o =>
    obtain ⟨_, j1, _⟩ := x.it1
    obtain ⟨_, j2, _⟩ := x.it2
    exact (hn o (x.rest _ o (fun e => hn _ (e ▸ x.zip)) (fun e => hn _ (e ▸ x.out)) (fun e => hn _ (e ▸ j1)) (fun e => hn _ (e ▸ j2)) q)).elim

variable {prog : Program} {w : World} {A : Around} {E : Value → Shared → Prop} {s : Shared}
/-- a turn with an item -/
theorem zip_item {Q : Option Value → Shared → Prop} (D : ZipApart z TI TO i1 i2 l1 l2) (x : ZS z TI TO i1 i2 l1 l2 s.heap .none a b k1 k2 s.heap) (hTI : IsPair s.heap TI (.ref i1) (.ref i2)) {xs ys : Array Value} {u v : Value}
    (hl1 : s.heap.IsList l1 xs) (hl2 : s.heap.IsTuple l2 ys) (hx : xs[k1]? = some u) (hy : ys[k2]? = some v)
    (hQ : ∀ h' T, s.heap.get? T = none → ZS z TI TO i1 i2 l1 l2 s.heap (rawInt T) u v (k1 + 1) (k2 + 1) h' → IsPair h' T u v → Q (some (.ref T)) { s with heap := h' }) :
    wpAny (model prog w) A (pyNext (.ref z)) Q E s := by
  have hT : s.TypeIs (.ref z) "zip" := ⟨_, x.zip, rfl⟩
  refine wpAny_bind (wpAny_attempt (wpAny_callSpecial?_slot (name := Str.ofString "__next__") hT F.slot_zip_next (wpAny_call_entry F.slot_zip_next hT F.entry_zip_next ?_ (F.args_zip_next_1 _))))
  refine wpAny_bind (wpAny_pure (wpAny_bind (wpAny_field x.zip rfl rfl (wpAny_bind (wpAny_field x.zip rfl rfl (wpAny_bind (wpAny_seqItems hTI rfl ?_)))))))
  refine wpAny_bind (wpAny_bind (wpAny_field x.zip rfl rfl (wpAny_pure (wpAny_bind (wpAny_rule (wpAny_bind (wpAny_field x.zip rfl rfl (wpAny_bind (wpAny_setField_rec x.zip (by simp) fun h₁ z₁ s₁ => ?_)))))))))
  have x₁ := x.onZ D s₁.extBut z₁
  refine wpAny_bind (wpAny_bind (wpAny_bind (wpAny_onRaise (wpAny_bind (wpAny_nextOf_list_item x₁.it1 (x₁.list D hl1) hx fun h₂ i₂ s₂ => wpAny_pure ?_)))))
  have x₂ := x₁.on1 D s₂.extBut i₂
  refine wpAny_bind (wpAny_seqItems x₂.out rfl (wpAny_bind (wpAny_updateSeq_pair x₂.out fun h₃ o₃ s₃ => wpAny_bind (wpAny_letGo (wpAny_pure ?_)))))
  have x₃ := x₂.onT D s₃.extBut (a' := u) (b' := b) o₃
  refine wpAny_bind (wpAny_bind (wpAny_onRaise (wpAny_bind (draw_tuple x₃.it2 (x₃.tuple D hl2) hy fun h₄ i₄ s₄ => wpAny_pure ?_))))
  have x₄ := x₃.on2 D s₄.extBut i₄
  refine wpAny_bind (wpAny_seqItems x₄.out rfl (wpAny_bind (wpAny_updateSeq_pair x₄.out fun h₅ o₅ s₅ => wpAny_bind (wpAny_letGo (wpAny_pure (wpAny_pure ?_))))))
  have x₅ := x₄.onT D s₅.extBut (a' := u) (b' := v) o₅
  have x₆ := x₅.push { cls := .type "tuple", data := .seq #[u, v] }
  refine wpAny_bind (wpAny_seqItems x₅.out rfl (wpAny_bind (wpAny_newTuple (wpAny_bind (wpAny_bind (wpAny_setField_rec x₆.zip (by simp) fun h₇ z₇ s₇ => wpAny_setField_rec z₇ (by simp) fun h₈ z₈ s₈ => wpAny_pure ⟨_, rfl, wpAny_pure ?_⟩))))))
  have hne : h₅.objs.size ≠ z := Nat.ne_of_gt (Heap.lt_size x₅.zip)
  exact hQ h₈ h₅.objs.size x₅.new ((x₆.onZ D s₇.extBut z₇).onZ D s₈.extBut z₈) (s₈.extBut _ _ hne (s₇.extBut _ _ hne (Heap.get?_push_size _ rfl)))
/-- the zip ends with its list -/
theorem zip_done {Q : Option Value → Shared → Prop} (hh : A.handled = none) (D : ZipApart z TI TO i1 i2 l1 l2) (x : ZS z TI TO i1 i2 l1 l2 s.heap .none a b k1 k2 s.heap) (hTI : IsPair s.heap TI (.ref i1) (.ref i2)) {xs : Array Value}
    (hl1 : s.heap.IsList l1 xs) (hx : xs[k1]? = none)
    (hQ : ∀ h', (∀ c o, c ≠ z → c ≠ TO → c ≠ i1 → c ≠ i2 → s.heap.get? c = some o → h'.get? c = some o) → Q none { s with heap := h' }) : wpAny (model prog w) A (pyNext (.ref z)) Q E s := by
  have hT : s.TypeIs (.ref z) "zip" := ⟨_, x.zip, rfl⟩
  refine wpAny_bind (wpAny_attempt (wpAny_callSpecial?_slot (name := Str.ofString "__next__") hT F.slot_zip_next (wpAny_call_entry F.slot_zip_next hT F.entry_zip_next ?_ (F.args_zip_next_1 _))))
  refine wpAny_bind (wpAny_pure (wpAny_bind (wpAny_field x.zip rfl rfl (wpAny_bind (wpAny_field x.zip rfl rfl (wpAny_bind (wpAny_seqItems hTI rfl ?_)))))))
  refine wpAny_bind (wpAny_bind (wpAny_field x.zip rfl rfl (wpAny_pure (wpAny_bind (wpAny_rule (wpAny_bind (wpAny_field x.zip rfl rfl (wpAny_bind (wpAny_setField_rec x.zip (by simp) fun h₁ z₁ s₁ => ?_)))))))))
  have x₁ := x.onZ D s₁.extBut z₁
  refine wpAny_bind (wpAny_bind (wpAny_bind (wpAny_onRaise (wpAny_bind (wpAny_nextOf_list_end (A := A.in1) hh x₁.it1 (x₁.list D hl1) hx fun h₂ e s₂ he => ?_)))))
  obtain ⟨oe, ge, ce⟩ := he
  have z₂ := s₂ _ _ D.i1z.symm x₁.zip
  have hez : e ≠ z := fun h => by subst h; cases z₂.symm.trans ge; simp at ce
  refine wpAny_setField_rec z₂ (by simp) fun h₃ _ s₃ => wpAny_bind (wpAny_isInstance (T := "StopIteration") (b := true) ⟨oe, s₃.extBut _ _ hez ge, ce⟩ isSubtype_stop (wpAny_pure (hQ _ fun c o c1 c2 c3 c4 g => s₃.extBut _ _ c1 (s₂ _ _ c3 (x₁.rest c o c1 c2 c3 c4 g)))))
end
end Mine
namespace Mine
open PySem PyProof.Rows
set_option linter.unusedVariables false
set_option linter.unusedSectionVars false

/-- what a new zip over a list and a tuple leaves: five new objects, at n and on -/
structure ZNew (l1 l2 : Addr) (h : Heap) (n : Nat) (h' : Heap) : Prop where
  zip : IsZip h' (n + 4) (n + 2) (n + 3) .none
  src : IsPair h' (n + 2) (.ref n) (.ref (n + 1))
  out : IsPair h' (n + 3) .none .none
  it1 : h'.IsListIter n l1 0
  it2 : h'.IsTupleIter (n + 1) l2 0
  keep : ∀ c o, h.get? c = some o → h'.get? c = some o
theorem zip_made (l1 l2 : Addr) (xs ys : Array Value) :
    Meets (Builtin.«zip.__new__» ⟨[.type "zip", .ref l1, .ref l2], []⟩) (fun _ R s => s.heap.IsList l1 xs ∧ s.heap.IsTuple l2 ys ∧
      ∀ h', ZNew l1 l2 s.heap s.heap.objs.size h' → R (.ok (.ret (.ref (s.heap.objs.size + 4)))) { s with heap := h' }) :=
  .of_wp fun prog w A R s ⟨hl1, hl2, h⟩ => by
    obtain ⟨hp, g, d, tk, os⟩ := s
    have hsub := sub_zip
    have p1 := fun (A : Around) (Q E : Value → Shared → Prop) h => wpAny_pyIter_list (prog := prog) (w := w) (A := A) (s := ⟨hp, g, d, tk, os⟩) (Q := Q) (E := E) hl1 h
    have p2 := fun (A : Around) (o : Obj) (Q E : Value → Shared → Prop) h => wpAny_pyIter_tuple (prog := prog) (w := w) (A := A) (s := ⟨hp.push o, g, d, tk, os⟩) (Q := Q) (E := E) (Heap.IsTuple.push hl2 o) h
    wp_walk using p1, p2
    have dn : ∀ {h : Heap} {o o' : Obj} {c : Addr}, h.get? c = some o → (h.push o').get? c = some o := fun e => Heap.get?_push_of_some _ e
    have top : ∀ {h : Heap} {o : Obj} {n : Addr}, h.objs.size = n → o.isFreed = false → (h.push o).get? n = some o := fun e hf => by subst e; exact Heap.get?_push_size _ hf
    simp only [Heap.size_push]
    refine ⟨_, rfl, h _ ⟨top ?_ rfl, dn (dn (top ?_ rfl)), dn (top ?_ rfl), ⟨_, dn (dn (dn (dn (top rfl rfl)))), rfl, rfl⟩, ⟨_, dn (dn (dn (top ?_ rfl))), rfl, rfl⟩, fun c o e => dn (dn (dn (dn (dn e))))⟩⟩
    all_goals simp only [Heap.size_push]
section
variable {prog : Program} {w : World} {A : Around} {E : Value → Shared → Prop} {s : Shared}
theorem call_zip_lt {l1 l2 : Addr} {xs ys : Array Value} {Q : Value → Shared → Prop} (hl1 : s.heap.IsList l1 xs) (hl2 : s.heap.IsTuple l2 ys)
    (h : ∀ h', ZNew l1 l2 s.heap s.heap.objs.size h' → Q (.ref (s.heap.objs.size + 4)) { s with heap := h' }) : wpAny (model prog w) A (call (.type "zip") [.ref l1, .ref l2]) Q E s :=
  callType_new F.called_zip (by decide) (F.typeCall_zip_2 _ _) (F.newCall_zip_2 _ _) (fun obj => F.args_object_init_3 obj _ _) F.entry_zip_new (zip_made l1 l2 xs ys) ⟨hl1, hl2, fun h' x => ⟨⟨_, x.zip, rfl⟩, h h' x⟩⟩
end

section
variable {F : Fx} {P : Prot} {ρ : List (Option AV)} {mu : Addr → Prop} {m : Str → Option Value} {s s' : Shared}

theorem ne_up {a n : Nat} (h : a < n) (k : Nat) : a ≠ n + k := by omega
theorem zapart {n l1 l2 : Nat} (h1 : l1 < n) (h2 : l2 < n) : ZipApart (n + 4) (n + 2) (n + 3) n (n + 1) l1 l2 where
  TIz := by simp
  TOz := by simp
  i1z := by simp
  i2z := by simp
  TITO := by simp
  TIi1 := by simp
  TIi2 := by simp
  TOi1 := by simp
  TOi2 := by simp
  i12 := by simp
  l1z := ne_up h1 4
  l1TO := ne_up h1 3
  l1i1 := ne_up h1 0
  l1i2 := ne_up h1 1
  l2z := ne_up h2 4
  l2TO := ne_up h2 3
  l2i1 := ne_up h2 0
  l2i2 := ne_up h2 1
noncomputable def zipD (ds1 ds2 : List PyData) : List PyData := (ds1.zip ds2).map fun p => .tuple [p.1, p.2]

theorem Iter.zip {es : List Expr} {c : Nat} {pos : Pos} {z TI TO i1 i2 l1 l2 : Addr} {vs1 vs2 : Array Value} {n1 n2 : Nat} {ds1 ds2 : List PyData} (hh : F.A.handled = none) (D : ZipApart z TI TO i1 i2 l1 l2)
    (hTIl1 : TI ≠ l1) (hTIl2 : TI ≠ l2) (hlen1 : vs1.size = ds1.length) (hlen2 : vs2.size = ds2.length) (hle : ds1.length ≤ ds2.length) :
    Iter F (.Tuple es c pos) z [z, TO, i1, i2, TI, l1, l2] [z, TO, i1, i2] (zipD ds1 ds2) (vs1.toList.zip ds1 ++ vs2.toList.zip ds2)
      (fun k h => IsZip h z TI TO .none ∧ IsPair h TI (.ref i1) (.ref i2) ∧ (∃ a b, IsPair h TO a b) ∧ h.IsListIter i1 l1 k ∧ h.IsTupleIter i2 l2 k ∧ h.get? l1 = some (listObj vs1 n1) ∧ h.get? l2 = some (tupObj vs2 n2)) where
  sub b hb := by simp at hb; rcases hb with rfl | rfl | rfl | rfl <;> simp
  frame k h h' st hk := by
    obtain ⟨a1, a2, ⟨a, b, a3⟩, a4, a5, a6, a7⟩ := st
    exact ⟨hk _ (by simp) _ a1, hk _ (by simp) _ a2, ⟨a, b, hk _ (by simp) _ a3⟩, a4.at fun o e => hk _ (by simp) o e, let ⟨o, ho, r⟩ := a5; ⟨o, hk _ (by simp) o ho, r⟩, hk _ (by simp) _ a6, hk _ (by simp) _ a7⟩
  live k h st b hb := by
    obtain ⟨a1, a2, ⟨a, b, a3⟩, ⟨o4, a4, _⟩, ⟨o5, a5, _⟩, a6, a7⟩ := st
    simp at hb
    rcases hb with rfl | rfl | rfl | rfl | rfl | rfl | rfl
    · exact ⟨_, a1⟩
    · exact ⟨_, a3⟩
    · exact ⟨_, a4⟩
    · exact ⟨_, a5⟩
    · exact ⟨_, a2⟩
    · exact ⟨_, a6⟩
    · exact ⟨_, a7⟩
  item k d s mu hd st hgh hmu halive := by
    obtain ⟨a1, a2, ⟨a, b, a3⟩, a4, a5, a6, a7⟩ := st
    simp only [zipD, List.getElem?_map, Option.map_eq_some_iff] at hd
    obtain ⟨⟨d1, d2⟩, hz, rfl⟩ := hd
    obtain ⟨hd1, hd2⟩ := List.getElem?_zip_eq_some.mp hz
    have hk1 : k < vs1.size := by have := (List.getElem?_eq_some_iff.mp hd1).1; omega
    have hk2 : k < vs2.size := by have := (List.getElem?_eq_some_iff.mp hd2).1; omega
    have r1 : Rep F.prog F.w mu s.heap vs1[k] d1 := hgh (vs1[k], d1) (List.mem_append_left _ (by
      have e : (vs1.toList.zip ds1)[k]? = some (vs1[k], d1) := by rw [List.getElem?_zip_eq_some]; exact ⟨by simp [hk1], hd1⟩
      exact List.mem_of_getElem? e))
    have r2 : Rep F.prog F.w mu s.heap vs2[k] d2 := hgh (vs2[k], d2) (List.mem_append_right _ (by
      have e : (vs2.toList.zip ds2)[k]? = some (vs2[k], d2) := by rw [List.getElem?_zip_eq_some]; exact ⟨by simp [hk2], hd2⟩
      exact List.mem_of_getElem? e))
    refine zip_item D ⟨a1, a3, a4, a5, fun _ _ _ _ _ _ e => e⟩ a2 ⟨_, a6, rfl, n1, rfl⟩ ⟨_, a7, rfl, n2, rfl⟩ (u := vs1[k]) (v := vs2[k]) (by simp [hk1]) (by simp [hk2]) fun h' T hT0 X hT' => ⟨_, rfl, ?_⟩
    obtain ⟨hz', hTO', h1', h2', hk'⟩ := X
    refine wpAny_letOwnedTupleGo_zip hz' fun h'' hz'' hs'' => ?_
    have hTz : T ≠ z := fun e => by have := a1; rw [IsZip, ← e, hT0] at this; cases this
    have up : ∀ c o, c ≠ z → c ≠ TO → c ≠ i1 → c ≠ i2 → s.heap.get? c = some o → h''.get? c = some o := fun c o c1 c2 c3 c4 e => hs''.extBut _ _ c1 (hk' c o c1 c2 c3 c4 e)
    have hkm : ∀ b o, ¬ mu b → s.heap.get? b = some o → h''.get? b = some o ∧ ¬ mu b := fun b o hm e =>
      ⟨up b o (fun h => hm (h ▸ hmu z (by simp))) (fun h => hm (h ▸ hmu TO (by simp))) (fun h => hm (h ▸ hmu i1 (by simp))) (fun h => hm (h ▸ hmu i2 (by simp))) e, hm⟩
    refine ⟨⟨fun b o hb e => ?_, rfl, rfl⟩, ⟨hz'', up _ _ D.TIz D.TITO D.TIi1 D.TIi2 a2, ⟨_, _, hs''.extBut _ _ D.TOz hTO'⟩, h1'.extBut hs''.extBut D.i1z, h2'.extBut hs''.extBut D.i2z, up _ _ D.l1z D.l1TO D.l1i1 D.l1i2 a6, up _ _ D.l2z D.l2TO D.l2i1 D.l2i2 a7⟩, ?_⟩
    · simp at hb; exact up b o hb.1 hb.2.1 hb.2.2.1 hb.2.2.2 e
    · refine .tuple (fun hm => ?_) (hs''.extBut _ _ hTz hT') (.cons (r1.mono hkm) (.cons (r2.mono hkm) .nil))
      obtain ⟨o, ho⟩ := halive _ hm; rw [hT0] at ho; cases ho
  self k s Q E st h := wpAny_pyIter_zip st.1 h
  done s st := by
    obtain ⟨a1, a2, ⟨a, b, a3⟩, a4, a5, a6, a7⟩ := st
    have e : (zipD ds1 ds2).length = ds1.length := by simp [zipD]; omega
    rw [e] at a4
    refine zip_done hh D ⟨a1, a3, a4, a5, fun _ _ _ _ _ _ e => e⟩ a2 ⟨_, a6, rfl, n1, rfl⟩ (by rw [← hlen1]; simp) fun h' hk => ⟨rfl, ⟨fun b o hb e => ?_, rfl, rfl⟩⟩
    simp at hb; exact hk b o hb.1 hb.2.1 hb.2.2.1 hb.2.2.2 e

theorem It.zip {es : List Expr} {c : Nat} {p np pos : Pos} {e1 e2 : Expr} {ds1 ds2 : List PyData} (h1 : Ev F ρ e1 (.list ds1)) (h2 : Ev F ρ e2 (.tuple ds2)) (hle : ds1.length ≤ ds2.length)
    (hs : ∀ pos, backTo pos (starEach [e1, e2] F.env) = [(false, eval e1 F.env), (false, eval e2 F.env)]) (hx : F.env.kindOf "zip" = some .globalImplicit) :
    It F ρ (.Tuple es c p) (.Call (.Name "zip" np) [e1, e2] [] pos) (zipD ds1 ds2) := .of fun P mu m s x => by
  obtain ⟨k1, k2⟩ := x.ok.T.bi ("zip", .type "zip") (by simp [biTable])
  refine wpAny_Call_NameR (Calls.Name_function_global x.ok.kind hx (Calls.loadGlobal_builtin (by rw [x.ok.globals]; exact x.ok.T.g.keeps x.topK) k1 (by rw [x.ok.builtins]; exact x.ok.T.b.keeps x.topK) k2 ?_))
  rw [hs]
  refine PySem.callWith_type rfl (Calls.evalArgs_plain (Calls.spliced_cons (wpAny_mono (h1.run P mu m s x) (fun v1 s₁ ⟨g1, r1⟩ => Calls.spliced_cons (wpAny_mono (h2.run P mu m s₁ (x.keeps g1)) (fun v2 s₂ ⟨g2, r2⟩ => Calls.spliced_nil ?_) fun _ _ h => h)) fun _ _ h => h)))
  obtain ⟨l1, vs1, n1, rfl, ha1, ga1, ra1⟩ := (r1.keep g2.heap).list_inv
  obtain ⟨l2, vs2, n2, rfl, ha2, ga2, ra2⟩ := r2.tuple_inv
  have e1' := ra1.length
  have e2' := ra2.length
  simp only [Array.length_toList] at e1' e2'
  refine call_zip_lt (s := s₂) ⟨_, ga1, rfl, n1, rfl⟩ ⟨_, ga2, rfl, n2, rfl⟩ fun h' ⟨hz, hTI, hTO, hi1, hi2, hk⟩ => ?_
  have lt1 : (l1 : Nat) < s₂.heap.objs.size := Heap.lt_size ga1
  have lt2 : (l2 : Nat) < s₂.heap.objs.size := Heap.lt_size ga2
  refine wpAny_pyIter_zip hz ?_
  have new : ∀ j : Nat, s₂.heap.get? (s₂.heap.objs.size + j) = none := fun j => by
    cases q : s₂.heap.get? (s₂.heap.objs.size + j) with
    | none => rfl
    | some o =>
      have : s₂.heap.objs.size + j < s₂.heap.objs.size := Heap.lt_size q
      omega
  have g' : Go s₂ { s₂ with heap := h' } := ⟨hk, rfl, rfl⟩
  refine ⟨s₂, _, _, _, _, _, rfl, Iter.zip (n1 := n1) (n2 := n2) x.ok.handled (zapart lt1 lt2) (l1 := l1) (l2 := l2) (Ne.symm (ne_up lt1 2)) (Ne.symm (ne_up lt2 2)) e1' e2' hle, g1.trans g2, g', fun b hb => ?_, fun b hb hbw => ?_, fun pr hp => ?_, ⟨hz, hTI, ⟨_, _, hTO⟩, hi1, hi2, hk _ _ ga1, hk _ _ ga2⟩⟩
  · simp at hb
    rcases hb with rfl | rfl | rfl | rfl
    · exact new 4
    · exact new 3
    · exact new 0
    · exact new 1
  · simp at hb hbw
    rcases hb with rfl | rfl | rfl | rfl | rfl | rfl | rfl
    · exact absurd rfl hbw.1
    · exact absurd rfl hbw.2.1
    · exact absurd rfl hbw.2.2.1
    · exact absurd rfl hbw.2.2.2
    · exact ((x.keeps g1).keeps g2).fresh_mu (new 2)
    · exact ha1
    · exact ha2
  · rcases List.mem_append.mp hp with hp | hp
    · exact reps_zip ra1 pr hp
    · exact reps_zip ra2 pr hp

/-- a name of the top that holds data -/
noncomputable def GlobAt (T : Tx) (n : Str) (d : PyData) : Prop := ∃ v, T.mg n = some v ∧ ∀ (mu : Addr → Prop) (h : Heap), (∀ a, mu a → T.hT.get? a = none) → (∀ b o, T.hT.get? b = some o → h.get? b = some o) → Rep T.prog T.w mu h v d
theorem Ev.glob {n : Str} {pos : Pos} {d : PyData} (h : GlobAt F.toTx n d) (hx : F.env.kindOf n = some .globalImplicit) (hd : (n == ("__debug__" : Str)) = false) : Ev F ρ (.Name n pos) d := .of fun P mu m s x => by
  obtain ⟨v, hv, hr⟩ := h
  exact Calls.Name_function_global x.ok.kind hx (Calls.loadGlobal_global (by rw [x.ok.globals]; exact x.ok.T.g.keeps x.topK) hv ⟨Go.refl s, hr mu s.heap x.muT x.topK⟩) hd
end
end Mine
namespace Mine
open PySem PyProof.Rows
set_option linter.unusedVariables false
set_option linter.unusedSectionVars false

/-- the frame of a comprehension -/
noncomputable def Fx.comp (F : Fx) (scope : Scope) (cl : List (Str × Addr)) (x : Str) (C : Addr) : Fx := { F with env := compEnvC scope cl C F.env, ns := [x] }

section
variable {F : Fx} {P : Prot} {ρ : List (Option AV)} {mu : Addr → Prop} {m : Str → Option Value} {s s' : Shared}

theorem Ev.cell {n : Str} {pos : Pos} {d : PyData} {ca : Addr} {v : Value} (hc : (n, ca, v, d) ∈ F.cl) (hx : F.env.kindOf n = some .cell) (hd : (n == ("__debug__" : Str)) = false) : Ev F ρ (.Name n pos) d := .of fun P mu m s x => by
  obtain ⟨h1, ⟨o, h2, h3⟩, h4⟩ := x.cells _ hc
  exact wpAny_Name (wpAny_loadName_cell x.ok.kind hx h1 ⟨o, x.keep _ _ h2, h3⟩ ⟨Go.refl s, h4⟩) hd

/-- the tests of a comprehension -/
noncomputable def TrI (F : Fx) (ρ : List (Option AV)) : List Expr → Bool → Prop
  | [], b => b = true
  | [e], b => Tr F ρ e b
  | _, _ => False

theorem trI_wp {ifs : List Expr} {b : Bool} (h : TrI F ρ ifs b) (x : St F P ρ mu m s) {E : Value → Shared → Prop} :
    wpAny (model F.prog F.w) F.A (forIn ifs true fun c r => if r = true then do let ok ← isTrue c F.env (eval c F.env); pure (ForInStep.yield ok) else pure (ForInStep.yield r)) (fun ok s' => Go s s' ∧ ok = b) E s := by
  cases ifs with
  | nil => cases h; exact wpAny_pure ⟨Go.refl s, rfl⟩
  | cons e r =>
    cases r with
    | nil =>
      simp only [List.forIn_cons, List.forIn_nil, if_true]
      exact wpAny_bind (wpAny_bind (wpAny_mono (h.run P mu m s x) (fun b' s₁ ⟨g, e⟩ => wpAny_pure (wpAny_pure ⟨g, e⟩)) fun _ _ h => h.elim))
    | cons => exact h.elim

inductive CompT (F : Fx) (scope : Scope) (cl : List (Str × Addr)) (x : Str) (ifs : List Expr) (elt : Expr) : List PyData → List PyData → Prop
  | nil : CompT F scope cl x ifs elt [] []
  | yes {d r : PyData} {ds rs : List PyData} : (∀ C, TrI (F.comp scope cl x C) [some (.dat d)] ifs true) → (∀ C, Ev (F.comp scope cl x C) [some (.dat d)] elt r) → CompT F scope cl x ifs elt ds rs → CompT F scope cl x ifs elt (d :: ds) (r :: rs)
  | no {d : PyData} {ds rs : List PyData} : (∀ C, TrI (F.comp scope cl x C) [some (.dat d)] ifs false) → CompT F scope cl x ifs elt ds rs → CompT F scope cl x ifs elt (d :: ds) rs
theorem CompT.length {scope : Scope} {cl : List (Str × Addr)} {x : Str} {ifs : List Expr} {elt : Expr} {ds rs : List PyData} (h : CompT F scope cl x ifs elt ds rs) : rs.length ≤ ds.length := by
  induction h with
  | nil => exact Nat.le_refl _
  | yes _ _ _ ih => simpa using ih
  | no _ _ ih => exact Nat.le_succ_of_le ih

/-- the addresses that a comprehension turns -/
noncomputable abbrev compMu (mu : Addr → Prop) (wr : List Addr) (C D : Addr) : Addr → Prop := fun b => ((mu b ∨ b ∈ wr) ∨ b = C) ∨ b = D

theorem comp_loop {elt iter : Expr} {y : Str} {py : Pos} {ifs : List Expr} {scope : Scope} {cl : List (Str × Addr)} {pos : Pos} {I C D : Addr} {fp wr : List Addr} {ds total : List PyData} {gh : List (Value × PyData)} {Sti : Nat → Heap → Prop}
    (W : Iter F (.Name y py) I fp wr ds gh Sti) (x : St F P ρ mu m s) (hnew : ∀ b ∈ wr, s.heap.get? b = none) (hC : s.heap.get? C = none) (hD : s.heap.get? D = none) (hCD : C ≠ D) (hCf : C ∉ fp) (hDf : D ∉ fp)
    (hgh : ∀ p ∈ gh, Rep F.prog F.w mu s.heap p.1 p.2) (hkind : scope.kind = .function) (hy : scope.names.lookup y = some .local) (hyd : (y == ("__debug__" : Str)) = false) (hsz : ds.length ≤ sizeLine)
    (hcl : ∀ c ∈ F.cl, cl.lookup c.1 = some c.2.1) {R : Result → Shared → Prop}
    (hR : ∀ s' m' ys n, Go s s' → s'.heap.Ns C m' → s'.heap.get? D = some (listObj ys n) → Reps F.prog F.w (compMu mu wr C D) s'.heap ys.toList total → R (.ok .next) s') :
    ∀ (rest : List PyData) (rs : List PyData), CompT F scope cl y ifs elt rest rs → ∀ (k : Nat) (done : List PyData) (m₁ : Str → Option Value) (ys : Array Value) (n : Nat) (s₁ : Shared), ds.drop k = rest → k ≤ ds.length → total = done ++ rs → ys.size ≤ k →
      Go s s₁ → s₁.heap.Ns C m₁ → s₁.heap.get? D = some (listObj ys n) → Reps F.prog F.w (compMu mu wr C D) s₁.heap ys.toList done → Sti k s₁.heap →
      codeAny (model F.prog F.w) F.A (.compLoop (.ListComp elt [⟨.Name y py, iter, ifs, 0⟩] scope pos) 0 (.ref I) (.ref D) (compEnvC scope cl C F.env)) R s₁ := by
  have hmuC : compMu mu wr C D C := .inl (.inr rfl)
  have hfrC : ∀ b o, s.heap.get? b = some o → b ≠ C ∧ b ≠ D ∧ b ∉ wr := fun b o e => ⟨fun h => (by rw [h, hC] at e; cases e), fun h => (by rw [h, hD] at e; cases e), fun h => (by rw [hnew b h] at e; cases e)⟩
  -- the state in which an element is reckoned
  have mk : ∀ (s₂ : Shared) (m₂ : Str → Option Value) (v : Value) (d : PyData), Go s s₂ → s₂.heap.Ns C m₂ → m₂ y = some v → Rep F.prog F.w (compMu mu wr C D) s₂.heap v d → (∀ b ∈ wr, ∃ o, s₂.heap.get? b = some o) → (∃ o, s₂.heap.get? D = some o) →
      St (F.comp scope cl y C) { pin := P.pin, mu0 := fun _ => False, gh := [] } [some (.dat d)] (compMu mu wr C D) m₂ s₂ := by
    intro s₂ m₂ v d g hn hm hr hlw hlD
    have hk : ∀ b o, ¬ mu b → s.heap.get? b = some o → s₂.heap.get? b = some o ∧ ¬ compMu mu wr C D b := fun b o hmb e => by
      obtain ⟨h1, h2, h3⟩ := hfrC b o e
      exact ⟨g.heap b o e, fun h => by rcases h with ((h | h) | h) | h <;> first | exact hmb h | exact h3 h | exact h1 h | exact h2 h⟩
    have hok : OkF (F.comp scope cl y C) := ⟨hkind, by simp [Fx.comp], fun z hz => by
        simp [Fx.comp] at hz; subst hz
        exact lookup_relabel_local hy, fun z hz => (by simp [Fx.comp] at hz; subst hz; exact hyd), x.ok.handled, x.ok.units, x.ok.depth, x.ok.globals, x.ok.builtins, x.ok.T⟩
    refine ⟨hok, hn, hmuC, fun a ha => ha.elim, fun a ha => ?_, fun a ha => ?_, fun b o e => g.heap _ _ (x.keep b o e), x.top, ?_, fun i z av h1 h2 => ?_, fun i j z z' d1 d2 h1 h2 h3 h4 h5 => ?_, fun p hp => (by cases hp), fun c hc => ?_, g.gens.trans x.gens, g.os.trans x.os⟩
    · rcases ha with ((ha | ha) | rfl) | rfl
      · exact x.muT a ha
      · exact x.topNone (hnew a ha)
      · exact x.topNone hC
      · exact x.topNone hD
    · rcases ha with ((ha | ha) | rfl) | rfl
      · obtain ⟨o, ho⟩ := x.alive a ha; exact ⟨o, g.heap _ _ ho⟩
      · exact hlw a ha
      · obtain ⟨o, _, _, ho, _⟩ := hn; exact ⟨o, ho⟩
      · exact hlD
    · show P.pin C = none
      cases q : P.pin C with
      | none => rfl
      | some o => have := x.keep _ _ q; rw [hC] at this; cases this
    · cases i with
      | zero =>
        have h1' : z = y := by simpa [Fx.comp] using h1.symm
        subst h1'
        simp at h2; subst h2
        exact ⟨v, hm, hr⟩
      | succ i => simp [Fx.comp] at h1
    · cases i with
      | zero => simp at h3
      | succ i => simp [Fx.comp] at h1
    · obtain ⟨k1, k2, k3⟩ := x.cells c hc
      exact ⟨hcl c hc, k2, k3.mono hk⟩
  intro rest rs T
  induction T with
  | nil =>
    intro k done m₁ ys n s₁ hk hkl htot hyk g hn hDl hr hst
    have hke : k = ds.length := by have := List.drop_eq_nil_iff.mp hk; omega
    subst hke
    rw [List.append_nil] at htot
    subst htot
    refine codeAny_of_tree ?_
    show wpAny _ F.A ((compTurn (.ListComp elt [⟨.Name y py, iter, ifs, 0⟩] scope pos) 0 (.ref I) (.ref D) (compEnvC scope cl C F.env)).onRaise (fun x => do noteFrame x (compEnvC scope cl C F.env); theTreesLotGoes x)) _ _ s₁
    refine wpAny_noted ?_
    rw [compTurn_list]
    refine wpAny_bind (wpAny_standAt (wpAny_bind (wpAny_mono (W.done s₁ hst) (fun r s₂ ⟨e, g2⟩ => ?_) fun _ _ h => h.elim)))
    subst e
    refine wpAny_pure ?_
    have hCw : C ∉ wr := fun h => hCf (W.sub _ h)
    have hDw : D ∉ wr := fun h => hDf (W.sub _ h)
    refine hR s₂ m₁ ys n ⟨fun b o e => g2.heap b o (hfrC b o e).2.2 (g.heap b o e), g2.gens.trans g.gens, g2.os.trans g.os⟩ (hn.at' fun o e => g2.heap _ o hCw e) (g2.heap _ _ hDw hDl) (hr.mono fun b o hm e => ⟨g2.heap b o (fun hb => hm (.inl (.inl (.inr hb)))) e, hm⟩)
  | @yes d r rest rs ht he T ih =>
    intro k done m₁ ys n s₁ hk hkl htot hyk g hn hDl hr hst
    have hkd : ds[k]? = some d := by
      have : (ds.drop k)[0]? = some d := by rw [hk]; rfl
      simpa using this
    have hkl' : k < ds.length := (List.getElem?_eq_some_iff.mp hkd).1
    have hrest : ds.drop (k + 1) = rest := by
      rw [List.drop_eq_getElem_cons hkl'] at hk
      exact (List.cons.inj hk).2
    have hCw : C ∉ wr := fun h => hCf (W.sub _ h)
    have hDw : D ∉ wr := fun h => hDf (W.sub _ h)
    have hk0 : ∀ b o, ¬ mu b → s.heap.get? b = some o → s₁.heap.get? b = some o ∧ ¬ compMu mu wr C D b := fun b o hmb e => by
      obtain ⟨h1, h2, h3⟩ := hfrC b o e
      exact ⟨g.heap b o e, fun h => by rcases h with ((h | h) | h) | h <;> first | exact hmb h | exact h3 h | exact h1 h | exact h2 h⟩
    have hal : ∀ a, compMu mu wr C D a → ∃ o, s₁.heap.get? a = some o := fun a ha => by
      rcases ha with ((ha | ha) | rfl) | rfl
      · obtain ⟨o, ho⟩ := x.alive a ha; exact ⟨o, g.heap _ _ ho⟩
      · exact W.live _ _ hst a (W.sub a ha)
      · obtain ⟨o, _, _, ho, _⟩ := hn; exact ⟨o, ho⟩
      · exact ⟨_, hDl⟩
    refine codeAny_of_tree ?_
    show wpAny _ F.A ((compTurn (.ListComp elt [⟨.Name y py, iter, ifs, 0⟩] scope pos) 0 (.ref I) (.ref D) (compEnvC scope cl C F.env)).onRaise (fun x => do noteFrame x (compEnvC scope cl C F.env); theTreesLotGoes x)) _ _ s₁
    refine wpAny_noted ?_
    rw [compTurn_list]
    refine wpAny_bind (wpAny_standAt (wpAny_bind (wpAny_mono (W.item k d s₁ (compMu mu wr C D) hkd hst (fun p hp => (hgh p hp).mono hk0) (fun b hb => .inl (.inl (.inr hb))) hal) (fun q s₂ ⟨v, e, hlet⟩ => ?_) fun _ _ h => h.elim)))
    subst e
    refine wpAny_bind (wpAny_mono hlet (fun _ s₃ ⟨g3, hst₃, rv⟩ => ?_) fun _ _ h => h.elim)
    have g3' : Go s s₃ := ⟨fun b o e => g3.heap b o (hfrC b o e).2.2 (g.heap b o e), g3.gens.trans g.gens, g3.os.trans g.os⟩
    have hk3 : ∀ b o, ¬ compMu mu wr C D b → s₁.heap.get? b = some o → s₃.heap.get? b = some o ∧ ¬ compMu mu wr C D b := fun b o hm e => ⟨g3.heap b o (fun hb => hm (.inl (.inl (.inr hb)))) e, hm⟩
    refine wpAny_bind (wpAny_assign_Name (wpAny_storeName_local (env := compEnvC scope cl C F.env) (lookup_relabel_local hy) (hn.at' fun o e => g3.heap _ o hCw e) (fun h₄ hn₄ hs₄ => ?_) (by simp [compEnvC, relabel, hkind])))
    have hfr4 : ∀ b o, b ≠ C → s₃.heap.get? b = some o → h₄.get? b = some o := fun b o hb e => (hs₄.2 b hb).trans e
    have g4 : Go s { s₃ with heap := h₄, toks := s₃.toks + 1 } := ⟨fun b o e => hfr4 b o (hfrC b o e).1 (g3'.heap b o e), g3'.gens, g3'.os⟩
    have hk4 : ∀ b o, ¬ compMu mu wr C D b → s₃.heap.get? b = some o → h₄.get? b = some o ∧ ¬ compMu mu wr C D b := fun b o hm e => ⟨hfr4 b o (fun h => hm (h ▸ hmuC)) e, hm⟩
    have hst₄ : Sti (k + 1) h₄ := W.frame _ _ _ hst₃ fun b hb o e => hfr4 b o (fun h => hCf (h ▸ hb)) e
    have hD4 : h₄.get? D = some (listObj ys n) := hfr4 _ _ (Ne.symm hCD) (g3.heap _ _ hDw hDl)
    have x₄ := mk _ _ v d g4 hn₄ (by simp) (rv.mono hk4) (fun b hb => W.live _ _ hst₄ b (W.sub b hb)) ⟨_, hD4⟩
    refine wpAny_bind (wpAny_mono (trI_wp (ht C) x₄) (fun ok s₅ ⟨g5, e⟩ => ?_) fun _ _ h => h)
    subst e
    simp only [if_true]
    refine wpAny_bind (wpAny_bind (wpAny_mono ((he C).run _ _ _ _ (x₄.keeps g5)) (fun rv s₆ ⟨g6, rr⟩ => ?_) fun _ _ h => h.elim))
    have g56 := g5.trans g6
    refine wpAny_bind (list_append_exact (g56.heap _ _ hD4) (by omega) fun h₇ n' hl₇ hs₇ => wpAny_pure (wpAny_pure ⟨rfl, ?_⟩))
    have hk7 : ∀ b o, ¬ compMu mu wr C D b → s₆.heap.get? b = some o → h₇.get? b = some o ∧ ¬ compMu mu wr C D b := fun b o hm e => ⟨hs₇.extBut b o (fun h => hm (.inr h)) e, hm⟩
    have g7 : Go s { s₆ with heap := h₇ } := ⟨fun b o e => hs₇.extBut b o (hfrC b o e).2.1 (g56.heap b o (g4.heap b o e)), g56.gens.trans g4.gens, g56.os.trans g4.os⟩
    refine ih (k + 1) (done ++ [r]) _ (ys.push rv) n' { s₆ with heap := h₇ } hrest hkl' (by rw [htot]; simp) (by rw [Array.size_push]; omega) g7 ((hn₄.keeps g56.heap).sameBut hs₇ hCD) hl₇ ?_ (W.frame _ _ _ hst₄ fun b hb o e => hs₇.extBut b o (fun h => hDf (h ▸ hb)) (g56.heap b o e))
    rw [Array.toList_push]
    exact ((((hr.mono hk3).mono hk4).keep g56.heap).mono hk7).append (.cons (rr.mono hk7) .nil)
  | @no d rest rs ht T ih =>
    intro k done m₁ ys n s₁ hk hkl htot hyk g hn hDl hr hst
    have hkd : ds[k]? = some d := by
      have : (ds.drop k)[0]? = some d := by rw [hk]; rfl
      simpa using this
    have hkl' : k < ds.length := (List.getElem?_eq_some_iff.mp hkd).1
    have hrest : ds.drop (k + 1) = rest := by
      rw [List.drop_eq_getElem_cons hkl'] at hk
      exact (List.cons.inj hk).2
    have hCw : C ∉ wr := fun h => hCf (W.sub _ h)
    have hDw : D ∉ wr := fun h => hDf (W.sub _ h)
    have hk0 : ∀ b o, ¬ mu b → s.heap.get? b = some o → s₁.heap.get? b = some o ∧ ¬ compMu mu wr C D b := fun b o hmb e => by
      obtain ⟨h1, h2, h3⟩ := hfrC b o e
      exact ⟨g.heap b o e, fun h => by rcases h with ((h | h) | h) | h <;> first | exact hmb h | exact h3 h | exact h1 h | exact h2 h⟩
    have hal : ∀ a, compMu mu wr C D a → ∃ o, s₁.heap.get? a = some o := fun a ha => by
      rcases ha with ((ha | ha) | rfl) | rfl
      · obtain ⟨o, ho⟩ := x.alive a ha; exact ⟨o, g.heap _ _ ho⟩
      · exact W.live _ _ hst a (W.sub a ha)
      · obtain ⟨o, _, _, ho, _⟩ := hn; exact ⟨o, ho⟩
      · exact ⟨_, hDl⟩
    refine codeAny_of_tree ?_
    show wpAny _ F.A ((compTurn (.ListComp elt [⟨.Name y py, iter, ifs, 0⟩] scope pos) 0 (.ref I) (.ref D) (compEnvC scope cl C F.env)).onRaise (fun x => do noteFrame x (compEnvC scope cl C F.env); theTreesLotGoes x)) _ _ s₁
    refine wpAny_noted ?_
    rw [compTurn_list]
    refine wpAny_bind (wpAny_standAt (wpAny_bind (wpAny_mono (W.item k d s₁ (compMu mu wr C D) hkd hst (fun p hp => (hgh p hp).mono hk0) (fun b hb => .inl (.inl (.inr hb))) hal) (fun q s₂ ⟨v, e, hlet⟩ => ?_) fun _ _ h => h.elim)))
    subst e
    refine wpAny_bind (wpAny_mono hlet (fun _ s₃ ⟨g3, hst₃, rv⟩ => ?_) fun _ _ h => h.elim)
    have g3' : Go s s₃ := ⟨fun b o e => g3.heap b o (hfrC b o e).2.2 (g.heap b o e), g3.gens.trans g.gens, g3.os.trans g.os⟩
    have hk3 : ∀ b o, ¬ compMu mu wr C D b → s₁.heap.get? b = some o → s₃.heap.get? b = some o ∧ ¬ compMu mu wr C D b := fun b o hm e => ⟨g3.heap b o (fun hb => hm (.inl (.inl (.inr hb)))) e, hm⟩
    refine wpAny_bind (wpAny_assign_Name (wpAny_storeName_local (env := compEnvC scope cl C F.env) (lookup_relabel_local hy) (hn.at' fun o e => g3.heap _ o hCw e) (fun h₄ hn₄ hs₄ => ?_) (by simp [compEnvC, relabel, hkind])))
    have hfr4 : ∀ b o, b ≠ C → s₃.heap.get? b = some o → h₄.get? b = some o := fun b o hb e => (hs₄.2 b hb).trans e
    have g4 : Go s { s₃ with heap := h₄, toks := s₃.toks + 1 } := ⟨fun b o e => hfr4 b o (hfrC b o e).1 (g3'.heap b o e), g3'.gens, g3'.os⟩
    have hk4 : ∀ b o, ¬ compMu mu wr C D b → s₃.heap.get? b = some o → h₄.get? b = some o ∧ ¬ compMu mu wr C D b := fun b o hm e => ⟨hfr4 b o (fun h => hm (h ▸ hmuC)) e, hm⟩
    have hst₄ : Sti (k + 1) h₄ := W.frame _ _ _ hst₃ fun b hb o e => hfr4 b o (fun h => hCf (h ▸ hb)) e
    have hD4 : h₄.get? D = some (listObj ys n) := hfr4 _ _ (Ne.symm hCD) (g3.heap _ _ hDw hDl)
    have x₄ := mk _ _ v d g4 hn₄ (by simp) (rv.mono hk4) (fun b hb => W.live _ _ hst₄ b (W.sub b hb)) ⟨_, hD4⟩
    refine wpAny_bind (wpAny_mono (trI_wp (ht C) x₄) (fun ok s₅ ⟨g5, e⟩ => ?_) fun _ _ h => h)
    subst e
    simp only [Bool.false_eq_true, if_false]
    refine wpAny_pure ⟨rfl, ?_⟩
    exact ih (k + 1) done _ ys n s₅ hrest hkl' htot (by omega) (g4.trans g5) (hn₄.keeps g5.heap) (g5.heap _ _ hD4) (((hr.mono hk3).mono hk4).keep g5.heap) (W.frame _ _ _ hst₄ fun b hb o e => g5.heap b o e)
end
end Mine
namespace Mine
open PySem PyProof.Rows
set_option linter.unusedVariables false
set_option linter.unusedSectionVars false

section
variable {F : Fx} {P : Prot} {ρ : List (Option AV)} {mu : Addr → Prop} {m : Str → Option Value} {s s' : Shared}

theorem comp_block {elt iter : Expr} {y : Str} {py : Pos} {ifs : List Expr} {scope : Scope} {cl : List (Str × Addr)} {pos : Pos} {I : Addr} {fp wr : List Addr} {ds rs : List PyData} {gh : List (Value × PyData)} {Sti : Nat → Heap → Prop} {s₁ : Shared} {E : Value → Shared → Prop}
    (W : Iter F (.Name y py) I fp wr ds gh Sti) (x : St F P ρ mu m s) (g : Go s s₁) (hnew : ∀ b ∈ wr, s.heap.get? b = none) (hst : Sti 0 s₁.heap)
    (hgh : ∀ p ∈ gh, Rep F.prog F.w mu s.heap p.1 p.2) (hcell : ∀ z ∈ scope.names, z.2 ≠ .cell) (hkind : scope.kind = .function) (hy : scope.names.lookup y = some .local) (hyd : (y == ("__debug__" : Str)) = false) (hsz : ds.length ≤ sizeLine)
    (hcl : ∀ c ∈ F.cl, cl.lookup c.1 = some c.2.1) (T : CompT F scope cl y ifs elt ds rs) {RR : Value → Addr → Result → Shared → Prop}
    (hRR : ∀ C D s' m' ys n, s.heap.get? C = none → s.heap.get? D = none → C ≠ D → Go s s' → s'.heap.Ns C m' → s'.heap.get? D = some (listObj ys n) → Reps F.prog F.w (compMu mu wr C D) s'.heap ys.toList rs → RR (.ref D) C (.ok .next) s') :
    wpAny (model F.prog F.w) F.A (newList []) (fun acc s₃ => wpAny (model F.prog F.w) F.A (newFunctionEnv scope F.env.globals cl [] F.env.qual none .none (some F.env)) (fun cenv s₄ =>
      codeAny (model F.prog F.w) F.A (.compStart (.ListComp elt [⟨.Name y py, iter, ifs, 0⟩] scope pos) 0 (.ref I) acc { cenv with scope := relabel scope F.env }) (RR acc cenv.locals) s₄) E s₃) E s₁ := by
  refine wpAny_newObj_type (wpAny_newFunctionEnv hcell (by intro z hz; simp at hz) (fun h₁ hns₁ hsb₁ => ?_) hkind)
  dsimp only at hns₁ hsb₁ ⊢
  generalize hH2 : s₁.heap.push { cls := .type "list", dict := none, data := .seq ([] : List Value).toArray } = H2 at hns₁ hsb₁ ⊢
  have hCsz : H2.objs.size = s₁.heap.objs.size + 1 := by rw [← hH2, Heap.size_push]
  have hDC : s₁.heap.objs.size ≠ H2.objs.size := by rw [hCsz]; exact Nat.ne_of_lt (Nat.lt_succ_self _)
  have fr1 : ∀ a, s₁.heap.objs.size ≤ a → s₁.heap.get? a = none := fun a ha => by
    cases e : s₁.heap.get? a with
    | none => rfl
    | some o => exact absurd (Heap.lt_size e) (Nat.not_lt.mpr ha)
  have old : ∀ b o, s₁.heap.get? b = some o → h₁.get? b = some o := fun b o e => hsb₁.extBut b o (by rw [hCsz]; exact Nat.ne_of_lt (Nat.lt_succ_of_lt (Heap.lt_size e))) (Heap.get?_push_of_some _ (hH2 ▸ Heap.get?_push_of_some _ e))
  have hD₁ : h₁.get? s₁.heap.objs.size = some (listObj #[] 0) := hsb₁.extBut _ _ hDC (Heap.get?_push_of_some _ (hH2 ▸ Heap.get?_push_size _ rfl))
  have hst₁ : Sti 0 h₁ := W.frame _ _ _ hst fun b _ o e => old b o e
  have hDn : s.heap.get? s₁.heap.objs.size = none := g.fresh (fr1 _ (Nat.le_refl _))
  have hCn : s.heap.get? H2.objs.size = none := g.fresh (fr1 _ (by rw [hCsz]; exact Nat.le_succ _))
  have hlv := W.live _ _ hst
  have hDf : s₁.heap.objs.size ∉ fp := fun h => by obtain ⟨o, ho⟩ := hlv _ h; rw [fr1 _ (Nat.le_refl _)] at ho; cases ho
  have hCf : H2.objs.size ∉ fp := fun h => by obtain ⟨o, ho⟩ := hlv _ h; rw [fr1 _ (by rw [hCsz]; exact Nat.le_succ _)] at ho; cases ho
  have loop : ∀ s₄ : Shared, s₄ = { s₁ with heap := h₁, toks := s₁.toks + ([] : List (Str × Value)).length } →
      codeAny (model F.prog F.w) F.A (.compLoop (.ListComp elt [⟨.Name y py, iter, ifs, 0⟩] scope pos) 0 (.ref I) (.ref s₁.heap.objs.size) (compEnvC scope cl H2.objs.size F.env)) (RR (.ref s₁.heap.objs.size) H2.objs.size) s₄ := by
    rintro s₄ rfl
    refine comp_loop W x hnew hCn hDn (Ne.symm hDC) hCf hDf hgh hkind hy hyd hsz hcl (total := rs) (fun s' m' ys n g' hn' hD' hr' => hRR _ _ s' m' ys n hCn hDn (Ne.symm hDC) g' hn' hD' hr') ds rs T 0 [] _ #[] 0 _ rfl (Nat.zero_le _) rfl (Nat.zero_le _) ⟨fun b o e => old b o (g.heap b o e), g.gens, g.os⟩ hns₁ hD₁ .nil hst₁
  exact codeAny_compStart_list (loop _ rfl) (W.self 0 _ _ _ hst₁ (loop _ rfl))

theorem EvNew.comp {elt iter : Expr} {y : Str} {py : Pos} {ifs : List Expr} {scope : Scope} {cl : List (Str × Addr)} {pos : Pos} {ds rs : List PyData} (hi : It F ρ (.Name y py) iter ds) (T : CompT F scope cl y ifs elt ds rs)
    (hclos : closureFor scope F.env = pure cl) (hcell : ∀ z ∈ scope.names, z.2 ≠ .cell) (hkind : scope.kind = .function) (hnames : ∀ z ∈ scope.names, z.2 = .local → scope.names.lookup z.1 = some .local) (hy : scope.names.lookup y = some .local) (hyd : (y == ("__debug__" : Str)) = false)
    (hsz : ds.length ≤ sizeLine) (hcl : ∀ c ∈ F.cl, cl.lookup c.1 = some c.2.1) (hs : ∀ x, foldedSetIterable iter F.env x = pure x) : EvNew F ρ (.ListComp elt [⟨.Name y py, iter, ifs, 0⟩] scope pos) (.list rs) := EvNew.ofGo fun P mu m s x => by
  rw [eval_ListComp]
  refine wpAny_comprehension_free (use := none) rfl hs hclos hkind hnames (wpAny_mono (hi.run P mu m s x) (fun v s₀ h => wpAny_mono h (fun it s₁ ⟨s', I, fp, wr, gh, Sti, e, W, g, g', hnew, hfm, hgh, hst⟩ => ?_) fun _ _ h => h) fun _ _ h => h)
  subst e
  refine comp_block W (x.keeps g) g' hnew hst hgh hcell hkind hy hyd hsz hcl T fun C D s₅ m' ys n hC hD hCD g5 hn5 hD5 hr5 => ?_
  refine ⟨m', hn5, fun h' hs' => ⟨s', g, ?_, D, rfl, hD, ys, n, (hs'.2 D (Ne.symm hCD)).trans hD5, ?_⟩⟩
  · exact ⟨fun b o e => hs'.extBut b o (fun h => by rw [h, hC] at e; cases e) (g5.heap b o e), g5.gens, g5.os⟩
  · exact hr5.mono fun b o hm e => ⟨hs'.extBut b o (fun h => hm (.inl (.inr h))) e, fun h => hm (h.elim (fun h => .inl (.inl (.inl h))) .inr)⟩

theorem Ex1.assignComp (i : Nat) {elt iter : Expr} {y z : Str} {py pz : Pos} {ifs : List Expr} {scope : Scope} {cl : List (Str × Addr)} {pos spos : Pos} {ds rs : List PyData} (hzi : F.ns[i]? = some z) (hi : It F ρ (.Name y py) iter ds) (T : CompT F scope cl y ifs elt ds rs)
    (hsw : swapsWith (.ListComp elt [⟨.Name y py, iter, ifs, 0⟩] scope pos) (some (.Name z pz)) spos.line F.env = pure true)
    (hclos : closureFor scope F.env = pure cl) (hcell : ∀ z ∈ scope.names, z.2 ≠ .cell) (hkind : scope.kind = .function) (hnames : ∀ z ∈ scope.names, z.2 = .local → scope.names.lookup z.1 = some .local) (hy : scope.names.lookup y = some .local) (hyd : (y == ("__debug__" : Str)) = false)
    (hsz : ds.length ≤ sizeLine) (hcl : ∀ c ∈ F.cl, cl.lookup c.1 = some c.2.1) (hs : ∀ x, foldedSetIterable iter F.env x = pure x) :
    Ex1 F ρ (.Assign [.Name z pz] (.ListComp elt [⟨.Name y py, iter, ifs, 0⟩] scope pos) spos) (.next (ρ.set i (some (.own (.list rs))))) := .of fun P mu m s x => by
  rw [exec_Assign_Name_used _ _ _ _ hsw]
  refine wpAny_bind (wpAny_standAt (wpAny_bind ?_))
  show wpAny _ F.A (do let _ ← comprehension (.ListComp elt [⟨.Name y py, iter, ifs, 0⟩] scope pos) scope F.env _ (newList []) false (eval iter F.env) (some (PySem.assign (.Name z pz) F.env))) _ _ s
  refine wpAny_bind (wpAny_mono (wpAny_comprehension_free (use := some (PySem.assign (.Name z pz) F.env)) (Q := fun _ s' => OutR F P (.next (ρ.set i (some (.own (.list rs))))) .next s') rfl hs hclos hkind hnames
    (wpAny_mono (hi.run P mu m s x) (fun v s₀ h => wpAny_mono h (fun it s₁ ⟨s', I, fp, wr, gh, Sti, e, W, g, g', hnew, hfm, hgh, hst⟩ => ?_) fun _ _ h => h) fun _ _ h => h)) (fun _ s' hq => wpAny_pure (wpAny_pure hq)) fun _ _ h => h)
  subst e
  have x' := x.keeps g
  refine comp_block (RR := fun acc C => compPost (model F.prog F.w) F.A (fun _ _ => False) (some (PySem.assign (.Name z pz) F.env)) (fun _ s' => OutR F P (.next (ρ.set i (some (.own (.list rs))))) .next s') acc C) W x' g' hnew hst hgh hcell hkind hy hyd hsz hcl T fun C D s₅ m' ys n hC hD hCD g5 hn5 hD5 hr5 => ?_
  have x5 := x'.keeps g5
  have hLC : F.env.locals ≠ C := fun e => by obtain ⟨o, ho⟩ := x'.alive _ x'.muL; rw [e, hC] at ho; cases ho
  have hLD : F.env.locals ≠ D := fun e => by obtain ⟨o, ho⟩ := x'.alive _ x'.muL; rw [e, hD] at ho; cases ho
  show wpAny _ F.A (PySem.assign (.Name z pz) F.env (.ref D)) _ _ _
  refine wpAny_assign_Name (wpAny_storeName_local (x.local hzi) x5.ns (fun h₆ hn₆ hs₆ => ?_) x.plainEnv)
  refine ⟨m', hn5.sameBut hs₆ (Ne.symm hLC), fun h₇ hs₇ => ?_⟩
  refine (show OutR F P (.next (ρ.set i (some (.own (.list rs))))) .next _ from ⟨rfl, fun b => mu b ∨ b = D, fun x => if x = z then some (.ref D) else m x, ?_⟩)
  have key : ∀ b o, b ≠ C → b ≠ F.env.locals → s₅.heap.get? b = some o → h₇.get? b = some o := fun b o h1 h2 e => hs₇.extBut b o h1 (hs₆.extBut b o h2 e)
  refine x'.storeOwn' (fun b o hb e => key b o (fun h => by rw [h, hC] at e; cases e) hb (g5.heap b o e)) g5.gens g5.os hzi hD ⟨ys, n, key _ _ (Ne.symm hCD) (Ne.symm hLD) hD5, ?_⟩ (hn₆.sameBut hs₇ hLC)
  exact hr5.mono fun b o hm e => ⟨key b o (fun h => hm (.inl (.inr h))) (fun h => hm (.inl (.inl (.inl (h ▸ x'.muL))))) e, fun h => hm (h.elim (fun h => .inl (.inl (.inl h))) .inr)⟩
end
end Mine
namespace Mine
open PySem PyProof.Rows
set_option linter.unusedVariables false
set_option linter.unusedSectionVars false

section
variable {F : Fx} {P : Prot} {ρ : List (Option AV)} {mu : Addr → Prop} {m : Str → Option Value} {s s' : Shared}

/-- len of a list of its own -/
theorem Ev.lenOwn (i : Nat) {y : Str} {p np pos : Pos} {xs : List PyData} (hi : F.ns[i]? = some y) (hρ : ρ[i]? = some (some (.own (.list xs)))) (hsz : xs.length < 2 ^ 63) (hx : F.env.kindOf "len" = some .globalImplicit) :
    Ev F ρ (.Call (.Name "len" np) [.Name y p] [] pos) (.int xs.length) := .of fun P mu m s x => by
  obtain ⟨h1, h2⟩ := x.ok.T.bi ("len", .builtin "len") (List.Mem.head _)
  refine wpAny_Call_NameR (Calls.Name_function_global x.ok.kind hx (Calls.loadGlobal_builtin (by rw [x.ok.globals]; exact x.ok.T.g.keeps x.topK) h1 (by rw [x.ok.builtins]; exact x.ok.T.b.keeps x.topK) h2 ?_))
  show wpAny _ _ (callWith pos (.builtin "len") [] [(false, eval (.Name y p) F.env)] []) _ _ _
  obtain ⟨u, hu, a, e', g1, g0, g2, g3, vs, n, ga, ra⟩ := x.vars i y _ hi hρ
  subst e'
  have e1 := ra.length
  simp only [Array.length_toList] at e1
  refine Calls.callWith_builtin rfl (Calls.evalArgs_plain (Calls.spliced_cons (wpAny_Name (wpAny_loadName_local x.ok.kind (x.local hi) x.ns hu (Calls.spliced_nil ?_)) (x.ok.nodbg y (List.mem_of_getElem? hi)))))
  rw [← e1]
  exact PyProof.Rows.len_list ⟨_, ga, rfl, n, rfl⟩ (by omega) ⟨Go.toks s _, .int _ _⟩

/-- [d] * n and the like -/
theorem list_mul {prog : Program} {w : World} {A : Around} {E : Value → Shared → Prop} {l : Addr} {vs : Array Value} {k : Nat} {x : Int} {u : Tok} {Q : Value → Shared → Prop} (hl : s.heap.get? l = some (listObj vs k)) (hne : vs.isEmpty = false)
    (hlo : 0 ≤ x) (hsz : vs.size * x.toNat ≤ 2 ^ 24) (hhi : x < 2 ^ 63)
    (h : Q (.ref s.heap.objs.size) { s with heap := s.heap.push (listObj (List.replicate x.toNat vs.toList).flatten.toArray 0) }) : wpAny (model prog w) A (binaryOp .Mult (.ref l) (.int x u)) Q E s := by
  have tl : s.TypeIs (.ref l) "list" := ⟨_, hl, rfl⟩
  have body := AutoListH.list___mul___list_int_3 l vs k x u (by rw [fitsIndex_of hlo hhi]; decide) (Nat.not_lt.mpr (by omega)) (by simp [Builtin.List.listTooLong, sizeLine]; omega)
  refine wpAny_binaryOp_repeat_ref (by decide) tl (typeIs_int · x u) noFill_list_mul F.fills_int_mul F.slot_int_rmul repeat_list F.slot_int_index.lookup (call_meets F.slot_int_rmul (typeIs_int s x u) F.entry_int_rmul (F.args_int_rmul_2 _ _) (int___rmul___int_list x u l vs k) ⟨hl, rfl, tl, ?_⟩)
  refine call_meets F.slot_list_mul tl F.entry_list_mul (F.args_list_mul_2 _ _) body ⟨hl, ?_⟩
  rw [hne]
  simp only [Bool.false_eq_true, if_false, listMul_foldl]
  exact h

theorem flatten_one {α : Type} (d : α) : ∀ k : Nat, (List.replicate k [d]).flatten = List.replicate k d
  | 0 => rfl
  | k + 1 => by simp [List.replicate_succ, flatten_one d k]

theorem EvNew.mulOne {l r : Expr} {pos : Pos} {d : PyData} {n : Nat} (h1 : Ev F ρ l (.list [d])) (h2 : Ev F ρ r (.int n)) (hsz : n ≤ 2 ^ 24) : EvNew F ρ (.BinOp l .Mult r pos) (.list (List.replicate n d)) :=
  EvNew.ofGo fun P mu m s x => wpAny_BinOp (wpAny_mono (h1.run P mu m s x) (fun v1 s₁ ⟨g1, r1⟩ => wpAny_mono (h2.run P mu m s₁ (x.keeps g1)) (fun v2 s₂ ⟨g2, r2⟩ => by
    obtain ⟨a, vs, k, rfl, ha, ga, ra⟩ := (r1.keep g2.heap).list_inv
    obtain ⟨t, rfl⟩ := r2.int_inv
    have e1 := ra.length
    simp only [Array.length_toList, List.length_cons, List.length_nil] at e1
    cases hv : vs.toList with
    | nil => rw [hv] at ra; cases ra
    | cons v0 vr =>
      rw [hv] at ra
      cases ra with
      | cons r0 rr =>
        cases rr
        refine list_mul ga (by simp; intro h; rw [h] at e1; simp at e1) (by omega) (by rw [e1]; simp; omega) (by omega) ⟨s₂, g1.trans g2, Go.push s₂ _ (t := s₂.toks), _, rfl, fresh_size _, ?_⟩
        refine newList_own (t := 0) ((x.keeps g1).keeps g2) ?_
        rw [hv, Int.toNat_natCast, flatten_one]
        simpa using Reps.replicate r0 n) fun _ _ h => h) fun _ _ h => h)
end
end Mine
namespace Mine
open PySem PyProof.Rows
set_option linter.unusedVariables false

noncomputable def stBody : Stmt → List Stmt
  | .FunctionDef _ _ b _ _ _ _ _ _ _ => b
  | _ => []
noncomputable def stArgs : Stmt → Arguments
  | .FunctionDef _ a _ _ _ _ _ _ _ _ => a
  | _ => default
noncomputable def stScope : Stmt → Scope
  | .FunctionDef _ _ _ _ _ _ s _ _ _ => s
  | _ => default
noncomputable def stAt : List Stmt → Nat → Stmt
  | [], _ => default
  | s :: _, 0 => s
  | _ :: r, n + 1 => stAt r n
noncomputable abbrev theText : List Stmt := PySem.Challenge.pw_sx_zweave_6o.main.body
end Mine
namespace Mine
open PySem PyProof.Rows
set_option linter.unusedVariables false

noncomputable def seven : List Str := ["a\n", "b\n", "c\n", "d\n", "\n", "a", "b"]
theorem seven_ok : ∀ x ∈ seven, PyData.strOk x = true ∧ x.length ≤ 2 := by decide +kernel
/-- lines as the law builds them -/
structure Good (xs : List Str) : Prop where
  mem : ∀ x ∈ xs, x ∈ seven
  len : xs.length ≤ 100
theorem canLayAll_ls : ∀ {xs : List Str}, (∀ x ∈ xs, PyData.strOk x = true) → PyData.canLayAll0 (xs.map PyData.str) = true
  | [], _ => rfl
  | x :: xs, h => by
    simp only [List.map_cons, PyData.canLayAll0, PyData.canLay0, Bool.and_eq_true]
    exact ⟨h x (List.mem_cons_self ..), canLayAll_ls fun y hy => h y (List.mem_cons_of_mem _ hy)⟩
theorem depthAll_ls : ∀ (xs : List Str), PyData.depthAll (xs.map PyData.str) = 0
  | [] => rfl
  | x :: xs => by simp only [List.map_cons, PyData.depthAll, PyData.depth, depthAll_ls xs, Nat.max_self]
theorem shaped_ls' {xs : List Str} (h : ∀ x ∈ xs, PyData.strOk x = true) : SeqAt.shaped (ls xs) = true := by
  simp only [SeqAt.shaped, PyData.canLay0, canLayAll_ls h, PyData.depth, depthAll_ls]
  rfl
theorem Good.ok {xs : List Str} (h : Good xs) : ∀ x ∈ xs, PyData.strOk x = true := fun x hx => (seven_ok x (h.mem x hx)).1
theorem shaped_ls {xs : List Str} (h : Good xs) : SeqAt.shaped (ls xs) = true := shaped_ls' h.ok
theorem eqvAll_ls : ∀ a b : List Str, PyData.eqvAll (a.map PyData.str) (b.map PyData.str) = decide (a = b)
  | [], [] => rfl
  | x :: a, [] => rfl
  | [], y :: b => rfl
  | x :: a, y :: b => by
    simp only [List.map_cons, PyData.eqvAll, PyData.eqv, eqvAll_ls a b]
    rw [Bool.eq_iff_iff]
    simp
theorem eqv_ls (a b : List Str) : PyData.eqv (ls a) (ls b) = decide (a = b) := by rw [ls, ls, PyData.eqv, eqvAll_ls]
theorem CmpR.eqLs {a b : List Str} (ha : Good a) (hb : Good b) : CmpR .Eq (ls a) (ls b) (decide (a = b)) := by
  rw [← eqv_ls]; exact .eq (shaped_ls ha) (shaped_ls hb)
theorem CmpR.neLs {a b : List Str} (ha : Good a) (hb : Good b) : CmpR .NotEq (ls a) (ls b) (!decide (a = b)) := by
  rw [← eqv_ls]; exact .ne (shaped_ls ha) (shaped_ls hb)

noncomputable def kstr : Kind → Str
  | .same => "same"
  | .ours => "ours"
  | .theirs => "theirs"
  | .both => "both"
  | .conflict => "conflict"
end Mine
namespace Mine
open PySem PyProof.Rows
set_option linter.unusedVariables false
noncomputable def d_lcstable : Stmt := stAt theText 1
noncomputable def b_lcstable : List Stmt := stBody d_lcstable
noncomputable def a_lcstable : Arguments := stArgs d_lcstable
noncomputable def s_lcstable : Scope := stScope d_lcstable
noncomputable def n_lcstable : List Str := ["a", "table", "i", "j"]
noncomputable def d_matchesof : Stmt := stAt theText 2
noncomputable def b_matchesof : List Stmt := stBody d_matchesof
noncomputable def a_matchesof : Arguments := stArgs d_matchesof
noncomputable def s_matchesof : Scope := stScope d_matchesof
noncomputable def n_matchesof : List Str := ["a", "b", "table", "matches", "i", "j"]
inductive X_matchesof (F : Fx) : Prop
  | mk : (F.env.scope = s_matchesof) → (F.ns[0]? = some ("a" : Str)) → (F.ns[1]? = some ("b" : Str)) → (F.ns[2]? = some ("table" : Str)) → (F.ns[3]? = some ("matches" : Str)) → (F.ns[4]? = some ("i" : Str)) → (F.ns[5]? = some ("j" : Str)) → (F.env.kindOf "lcs_table" = some .globalImplicit) → (F.env.kindOf "len" = some .globalImplicit) → X_matchesof F
theorem X_matchesof.sc {F : Fx} (X : X_matchesof F) : F.env.scope = s_matchesof := by cases X; assumption
theorem X_matchesof.mk' {F : Fx} (hs : F.env.scope = s_matchesof) (hn : F.ns = n_matchesof) : X_matchesof F := by
  refine ⟨hs, ?_, ?_, ?_, ?_, ?_, ?_, ?_, ?_⟩
  all_goals first | (rw [hn]; rfl) | (rw [Env.kindOf, hs]; decide +kernel)
noncomputable def d_chunkkind : Stmt := stAt theText 3
noncomputable def b_chunkkind : List Stmt := stBody d_chunkkind
noncomputable def a_chunkkind : Arguments := stArgs d_chunkkind
noncomputable def s_chunkkind : Scope := stScope d_chunkkind
noncomputable def n_chunkkind : List Str := ["base", "ours", "theirs"]
inductive X_chunkkind (F : Fx) : Prop
  | mk : (F.env.scope = s_chunkkind) → (F.ns[0]? = some ("base" : Str)) → (F.ns[1]? = some ("ours" : Str)) → (F.ns[2]? = some ("theirs" : Str)) → X_chunkkind F
theorem X_chunkkind.sc {F : Fx} (X : X_chunkkind F) : F.env.scope = s_chunkkind := by cases X; assumption
theorem X_chunkkind.mk' {F : Fx} (hs : F.env.scope = s_chunkkind) (hn : F.ns = n_chunkkind) : X_chunkkind F := by
  refine ⟨hs, ?_, ?_, ?_⟩
  all_goals first | (rw [hn]; rfl) | (rw [Env.kindOf, hs]; decide +kernel)
noncomputable def d_chunksof : Stmt := stAt theText 4
noncomputable def b_chunksof : List Stmt := stBody d_chunksof
noncomputable def a_chunksof : Arguments := stArgs d_chunksof
noncomputable def s_chunksof : Scope := stScope d_chunksof
noncomputable def n_chunksof : List Str := ["base", "ours", "theirs", "to_ours", "pair", "to_theirs", "chunks", "i", "o", "t", "n", "i_end", "o_end", "t_end", "kind"]
inductive X_chunksof (F : Fx) : Prop
  | mk : (F.env.scope = s_chunksof) → (F.ns[0]? = some ("base" : Str)) → (F.ns[1]? = some ("ours" : Str)) → (F.ns[2]? = some ("theirs" : Str)) → (F.ns[3]? = some ("to_ours" : Str)) → (F.ns[4]? = some ("pair" : Str)) → (F.ns[5]? = some ("to_theirs" : Str)) → (F.ns[6]? = some ("chunks" : Str)) → (F.ns[7]? = some ("i" : Str)) → (F.ns[8]? = some ("o" : Str)) → (F.ns[9]? = some ("t" : Str)) → (F.ns[10]? = some ("n" : Str)) → (F.ns[11]? = some ("i_end" : Str)) → (F.ns[12]? = some ("o_end" : Str)) → (F.ns[13]? = some ("t_end" : Str)) → (F.ns[14]? = some ("kind" : Str)) → (F.env.kindOf "matches_of" = some .globalImplicit) → (F.env.kindOf "len" = some .globalImplicit) → (F.env.kindOf "chunk_kind" = some .globalImplicit) → X_chunksof F
theorem X_chunksof.sc {F : Fx} (X : X_chunksof F) : F.env.scope = s_chunksof := by cases X; assumption
theorem X_chunksof.mk' {F : Fx} (hs : F.env.scope = s_chunksof) (hn : F.ns = n_chunksof) : X_chunksof F := by
  refine ⟨hs, ?_, ?_, ?_, ?_, ?_, ?_, ?_, ?_, ?_, ?_, ?_, ?_, ?_, ?_, ?_, ?_, ?_, ?_⟩
  all_goals first | (rw [hn]; rfl) | (rw [Env.kindOf, hs]; decide +kernel)
noncomputable def d_mergedof : Stmt := stAt theText 5
noncomputable def b_mergedof : List Stmt := stBody d_mergedof
noncomputable def a_mergedof : Arguments := stArgs d_mergedof
noncomputable def s_mergedof : Scope := stScope d_mergedof
noncomputable def n_mergedof : List Str := ["chunks", "lines", "chunk"]
inductive X_mergedof (F : Fx) : Prop
  | mk : (F.env.scope = s_mergedof) → (F.ns[0]? = some ("chunks" : Str)) → (F.ns[1]? = some ("lines" : Str)) → (F.ns[2]? = some ("chunk" : Str)) → X_mergedof F
theorem X_mergedof.sc {F : Fx} (X : X_mergedof F) : F.env.scope = s_mergedof := by cases X; assumption
theorem X_mergedof.mk' {F : Fx} (hs : F.env.scope = s_mergedof) (hn : F.ns = n_mergedof) : X_mergedof F := by
  refine ⟨hs, ?_, ?_, ?_⟩
  all_goals first | (rw [hn]; rfl) | (rw [Env.kindOf, hs]; decide +kernel)
noncomputable def d_conflictsin : Stmt := stAt theText 6
noncomputable def b_conflictsin : List Stmt := stBody d_conflictsin
noncomputable def a_conflictsin : Arguments := stArgs d_conflictsin
noncomputable def s_conflictsin : Scope := stScope d_conflictsin
noncomputable def n_conflictsin : List Str := ["chunks"]
inductive X_conflictsin (F : Fx) : Prop
  | mk : (F.env.scope = s_conflictsin) → (F.ns[0]? = some ("chunks" : Str)) → (F.env.kindOf "len" = some .globalImplicit) → X_conflictsin F
theorem X_conflictsin.sc {F : Fx} (X : X_conflictsin F) : F.env.scope = s_conflictsin := by cases X; assumption
theorem X_conflictsin.mk' {F : Fx} (hs : F.env.scope = s_conflictsin) (hn : F.ns = n_conflictsin) : X_conflictsin F := by
  refine ⟨hs, ?_, ?_⟩
  all_goals first | (rw [hn]; rfl) | (rw [Env.kindOf, hs]; decide +kernel)
noncomputable def d_linesof : Stmt := stAt theText 8
noncomputable def b_linesof : List Stmt := stBody d_linesof
noncomputable def a_linesof : Arguments := stArgs d_linesof
noncomputable def s_linesof : Scope := stScope d_linesof
noncomputable def n_linesof : List Str := ["content", "parts", "lines"]
inductive X_linesof (F : Fx) : Prop
  | mk : (F.env.scope = s_linesof) → (F.ns[0]? = some ("content" : Str)) → (F.ns[1]? = some ("parts" : Str)) → (F.ns[2]? = some ("lines" : Str)) → X_linesof F
theorem X_linesof.sc {F : Fx} (X : X_linesof F) : F.env.scope = s_linesof := by cases X; assumption
theorem X_linesof.mk' {F : Fx} (hs : F.env.scope = s_linesof) (hn : F.ns = n_linesof) : X_linesof F := by
  refine ⟨hs, ?_, ?_, ?_⟩
  all_goals first | (rw [hn]; rfl) | (rw [Env.kindOf, hs]; decide +kernel)
noncomputable def d_closed : Stmt := stAt theText 9
noncomputable def b_closed : List Stmt := stBody d_closed
noncomputable def a_closed : Arguments := stArgs d_closed
noncomputable def s_closed : Scope := stScope d_closed
noncomputable def n_closed : List Str := ["lines", "content"]
inductive X_closed (F : Fx) : Prop
  | mk : (F.env.scope = s_closed) → (F.ns[0]? = some ("lines" : Str)) → (F.ns[1]? = some ("content" : Str)) → X_closed F
theorem X_closed.sc {F : Fx} (X : X_closed F) : F.env.scope = s_closed := by cases X; assumption
theorem X_closed.mk' {F : Fx} (hs : F.env.scope = s_closed) (hn : F.ns = n_closed) : X_closed F := by
  refine ⟨hs, ?_, ?_⟩
  all_goals first | (rw [hn]; rfl) | (rw [Env.kindOf, hs]; decide +kernel)
noncomputable def d_mergedcontent : Stmt := stAt theText 10
noncomputable def b_mergedcontent : List Stmt := stBody d_mergedcontent
noncomputable def a_mergedcontent : Arguments := stArgs d_mergedcontent
noncomputable def s_mergedcontent : Scope := stScope d_mergedcontent
noncomputable def n_mergedcontent : List Str := ["chunks", "pieces", "chunk"]
inductive X_mergedcontent (F : Fx) : Prop
  | mk : (F.env.scope = s_mergedcontent) → (F.ns[0]? = some ("chunks" : Str)) → (F.ns[1]? = some ("pieces" : Str)) → (F.ns[2]? = some ("chunk" : Str)) → (F.env.kindOf "merged_of" = some .globalImplicit) → (F.env.kindOf "closed" = some .globalImplicit) → X_mergedcontent F
theorem X_mergedcontent.sc {F : Fx} (X : X_mergedcontent F) : F.env.scope = s_mergedcontent := by cases X; assumption
theorem X_mergedcontent.mk' {F : Fx} (hs : F.env.scope = s_mergedcontent) (hn : F.ns = n_mergedcontent) : X_mergedcontent F := by
  refine ⟨hs, ?_, ?_, ?_, ?_, ?_⟩
  all_goals first | (rw [hn]; rfl) | (rw [Env.kindOf, hs]; decide +kernel)
noncomputable def d_Lstem : Stmt := stAt theText 15
noncomputable def b_Lstem : List Stmt := stBody d_Lstem
noncomputable def a_Lstem : Arguments := stArgs d_Lstem
noncomputable def s_Lstem : Scope := stScope d_Lstem
noncomputable def n_Lstem : List Str := ["size", "cells", "items", "cell"]
inductive X_Lstem (F : Fx) : Prop
  | mk : (F.env.scope = s_Lstem) → (F.ns[0]? = some ("size" : Str)) → (F.ns[1]? = some ("cells" : Str)) → (F.ns[2]? = some ("items" : Str)) → (F.ns[3]? = some ("cell" : Str)) → (F.env.kindOf "len" = some .globalImplicit) → (F.env.kindOf "_law_words" = some .globalImplicit) → X_Lstem F
theorem X_Lstem.sc {F : Fx} (X : X_Lstem F) : F.env.scope = s_Lstem := by cases X; assumption
theorem X_Lstem.mk' {F : Fx} (hs : F.env.scope = s_Lstem) (hn : F.ns = n_Lstem) : X_Lstem F := by
  refine ⟨hs, ?_, ?_, ?_, ?_, ?_, ?_⟩
  all_goals first | (rw [hn]; rfl) | (rw [Env.kindOf, hs]; decide +kernel)
noncomputable def d_Lside : Stmt := stAt theText 16
noncomputable def b_Lside : List Stmt := stBody d_Lside
noncomputable def a_Lside : Arguments := stArgs d_Lside
noncomputable def s_Lside : Scope := stScope d_Lside
noncomputable def n_Lside : List Str := ["stem", "cells", "items", "item", "cell", "pick"]
inductive X_Lside (F : Fx) : Prop
  | mk : (F.env.scope = s_Lside) → (F.ns[0]? = some ("stem" : Str)) → (F.ns[1]? = some ("cells" : Str)) → (F.ns[2]? = some ("items" : Str)) → (F.ns[3]? = some ("item" : Str)) → (F.ns[4]? = some ("cell" : Str)) → (F.ns[5]? = some ("pick" : Str)) → (F.env.kindOf "zip" = some .globalImplicit) → X_Lside F
theorem X_Lside.sc {F : Fx} (X : X_Lside F) : F.env.scope = s_Lside := by cases X; assumption
theorem X_Lside.mk' {F : Fx} (hs : F.env.scope = s_Lside) (hn : F.ns = n_Lside) : X_Lside F := by
  refine ⟨hs, ?_, ?_, ?_, ?_, ?_, ?_, ?_⟩
  all_goals first | (rw [hn]; rfl) | (rw [Env.kindOf, hs]; decide +kernel)
noncomputable def d_Llines : Stmt := stAt theText 17
noncomputable def b_Llines : List Stmt := stBody d_Llines
noncomputable def a_Llines : Arguments := stArgs d_Llines
noncomputable def s_Llines : Scope := stScope d_Llines
noncomputable def n_Llines : List Str := ["items", "tail", "lines"]
inductive X_Llines (F : Fx) : Prop
  | mk : (F.env.scope = s_Llines) → (F.ns[0]? = some ("items" : Str)) → (F.ns[1]? = some ("tail" : Str)) → (F.ns[2]? = some ("lines" : Str)) → X_Llines F
theorem X_Llines.sc {F : Fx} (X : X_Llines F) : F.env.scope = s_Llines := by cases X; assumption
theorem X_Llines.mk' {F : Fx} (hs : F.env.scope = s_Llines) (hn : F.ns = n_Llines) : X_Llines F := by
  refine ⟨hs, ?_, ?_, ?_⟩
  all_goals first | (rw [hn]; rfl) | (rw [Env.kindOf, hs]; decide +kernel)
noncomputable def d_Lword : Stmt := stAt theText 18
noncomputable def b_Lword : List Stmt := stBody d_Lword
noncomputable def a_Lword : Arguments := stArgs d_Lword
noncomputable def s_Lword : Scope := stScope d_Lword
noncomputable def n_Lword : List Str := ["matching", "n", "k", "word", "i", "j", "pair"]
inductive X_Lword (F : Fx) : Prop
  | mk : (F.env.scope = s_Lword) → (F.ns[0]? = some ("matching" : Str)) → (F.ns[1]? = some ("n" : Str)) → (F.ns[2]? = some ("k" : Str)) → (F.ns[3]? = some ("word" : Str)) → (F.ns[4]? = some ("i" : Str)) → (F.ns[5]? = some ("j" : Str)) → (F.ns[6]? = some ("pair" : Str)) → X_Lword F
theorem X_Lword.sc {F : Fx} (X : X_Lword F) : F.env.scope = s_Lword := by cases X; assumption
theorem X_Lword.mk' {F : Fx} (hs : F.env.scope = s_Lword) (hn : F.ns = n_Lword) : X_Lword F := by
  refine ⟨hs, ?_, ?_, ?_, ?_, ?_, ?_, ?_⟩
  all_goals first | (rw [hn]; rfl) | (rw [Env.kindOf, hs]; decide +kernel)
noncomputable def d_Lfirstlongest : Stmt := stAt theText 19
noncomputable def b_Lfirstlongest : List Stmt := stBody d_Lfirstlongest
noncomputable def a_Lfirstlongest : Arguments := stArgs d_Lfirstlongest
noncomputable def s_Lfirstlongest : Scope := stScope d_Lfirstlongest
noncomputable def n_Lfirstlongest : List Str := ["a", "b", "front", "i", "more", "m", "j", "best", "least", "word"]
inductive X_Lfirstlongest (F : Fx) : Prop
  | mk : (F.env.scope = s_Lfirstlongest) → (F.ns[0]? = some ("a" : Str)) → (F.ns[1]? = some ("b" : Str)) → (F.ns[2]? = some ("front" : Str)) → (F.ns[3]? = some ("i" : Str)) → (F.ns[4]? = some ("more" : Str)) → (F.ns[5]? = some ("m" : Str)) → (F.ns[6]? = some ("j" : Str)) → (F.ns[7]? = some ("best" : Str)) → (F.ns[8]? = some ("least" : Str)) → (F.ns[9]? = some ("word" : Str)) → (F.env.kindOf "range" = some .globalImplicit) → (F.env.kindOf "_law_word" = some .globalImplicit) → (F.env.kindOf "len" = some .globalImplicit) → X_Lfirstlongest F
theorem X_Lfirstlongest.sc {F : Fx} (X : X_Lfirstlongest F) : F.env.scope = s_Lfirstlongest := by cases X; assumption
theorem X_Lfirstlongest.mk' {F : Fx} (hs : F.env.scope = s_Lfirstlongest) (hn : F.ns = n_Lfirstlongest) : X_Lfirstlongest F := by
  refine ⟨hs, ?_, ?_, ?_, ?_, ?_, ?_, ?_, ?_, ?_, ?_, ?_, ?_, ?_⟩
  all_goals first | (rw [hn]; rfl) | (rw [Env.kindOf, hs]; decide +kernel)
noncomputable def d_Lkind : Stmt := stAt theText 20
noncomputable def b_Lkind : List Stmt := stBody d_Lkind
noncomputable def a_Lkind : Arguments := stArgs d_Lkind
noncomputable def s_Lkind : Scope := stScope d_Lkind
noncomputable def n_Lkind : List Str := ["b", "o", "t"]
inductive X_Lkind (F : Fx) : Prop
  | mk : (F.env.scope = s_Lkind) → (F.ns[0]? = some ("b" : Str)) → (F.ns[1]? = some ("o" : Str)) → (F.ns[2]? = some ("t" : Str)) → X_Lkind F
theorem X_Lkind.sc {F : Fx} (X : X_Lkind F) : F.env.scope = s_Lkind := by cases X; assumption
theorem X_Lkind.mk' {F : Fx} (hs : F.env.scope = s_Lkind) (hn : F.ns = n_Lkind) : X_Lkind F := by
  refine ⟨hs, ?_, ?_, ?_⟩
  all_goals first | (rw [hn]; rfl) | (rw [Env.kindOf, hs]; decide +kernel)
noncomputable def d_Lchunks : Stmt := stAt theText 21
noncomputable def b_Lchunks : List Stmt := stBody d_Lchunks
noncomputable def a_Lchunks : Arguments := stArgs d_Lchunks
noncomputable def s_Lchunks : Scope := stScope d_Lchunks
noncomputable def n_Lchunks : List Str := ["base", "ours", "theirs", "stops", "chunks", "run", "i", "o", "t", "stop", "gap"]
noncomputable def d_Lfull : Stmt := stAt theText 22
noncomputable def b_Lfull : List Stmt := stBody d_Lfull
noncomputable def a_Lfull : Arguments := stArgs d_Lfull
noncomputable def s_Lfull : Scope := stScope d_Lfull
noncomputable def n_Lfull : List Str := ["side", "out", "line"]
inductive X_Lfull (F : Fx) : Prop
  | mk : (F.env.scope = s_Lfull) → (F.ns[0]? = some ("side" : Str)) → (F.ns[1]? = some ("out" : Str)) → (F.ns[2]? = some ("line" : Str)) → X_Lfull F
theorem X_Lfull.sc {F : Fx} (X : X_Lfull F) : F.env.scope = s_Lfull := by cases X; assumption
theorem X_Lfull.mk' {F : Fx} (hs : F.env.scope = s_Lfull) (hn : F.ns = n_Lfull) : X_Lfull F := by
  refine ⟨hs, ?_, ?_, ?_⟩
  all_goals first | (rw [hn]; rfl) | (rw [Env.kindOf, hs]; decide +kernel)
noncomputable def d_Lmerge : Stmt := stAt theText 23
noncomputable def b_Lmerge : List Stmt := stBody d_Lmerge
noncomputable def a_Lmerge : Arguments := stArgs d_Lmerge
noncomputable def s_Lmerge : Scope := stScope d_Lmerge
noncomputable def n_Lmerge : List Str := ["chunks", "lines", "content", "clashes", "kind", "b", "o", "t", "side"]
inductive X_Lmerge (F : Fx) : Prop
  | mk : (F.env.scope = s_Lmerge) → (F.ns[0]? = some ("chunks" : Str)) → (F.ns[1]? = some ("lines" : Str)) → (F.ns[2]? = some ("content" : Str)) → (F.ns[3]? = some ("clashes" : Str)) → (F.ns[4]? = some ("kind" : Str)) → (F.ns[5]? = some ("b" : Str)) → (F.ns[6]? = some ("o" : Str)) → (F.ns[7]? = some ("t" : Str)) → (F.ns[8]? = some ("side" : Str)) → (F.env.kindOf "_law_full" = some .globalImplicit) → X_Lmerge F
theorem X_Lmerge.sc {F : Fx} (X : X_Lmerge F) : F.env.scope = s_Lmerge := by cases X; assumption
theorem X_Lmerge.mk' {F : Fx} (hs : F.env.scope = s_Lmerge) (hn : F.ns = n_Lmerge) : X_Lmerge F := by
  refine ⟨hs, ?_, ?_, ?_, ?_, ?_, ?_, ?_, ?_, ?_, ?_⟩
  all_goals first | (rw [hn]; rfl) | (rw [Env.kindOf, hs]; decide +kernel)
noncomputable def d_Lbalance : Stmt := stAt theText 24
noncomputable def b_Lbalance : List Stmt := stBody d_Lbalance
noncomputable def a_Lbalance : Arguments := stArgs d_Lbalance
noncomputable def s_Lbalance : Scope := stScope d_Lbalance
noncomputable def n_Lbalance : List Str := ["line", "chunks", "base", "ours", "theirs", "due", "chunk"]
inductive X_Lbalance (F : Fx) : Prop
  | mk : (F.env.scope = s_Lbalance) → (F.ns[0]? = some ("line" : Str)) → (F.ns[1]? = some ("chunks" : Str)) → (F.ns[2]? = some ("base" : Str)) → (F.ns[3]? = some ("ours" : Str)) → (F.ns[4]? = some ("theirs" : Str)) → (F.ns[5]? = some ("due" : Str)) → (F.ns[6]? = some ("chunk" : Str)) → X_Lbalance F
theorem X_Lbalance.sc {F : Fx} (X : X_Lbalance F) : F.env.scope = s_Lbalance := by cases X; assumption
theorem X_Lbalance.mk' {F : Fx} (hs : F.env.scope = s_Lbalance) (hn : F.ns = n_Lbalance) : X_Lbalance F := by
  refine ⟨hs, ?_, ?_, ?_, ?_, ?_, ?_, ?_⟩
  all_goals first | (rw [hn]; rfl) | (rw [Env.kindOf, hs]; decide +kernel)
noncomputable def d_law : Stmt := stAt theText 25
noncomputable def b_law : List Stmt := stBody d_law
noncomputable def a_law : Arguments := stArgs d_law
noncomputable def s_law : Scope := stScope d_law
noncomputable def n_law : List Str := ["script", "stem", "left", "right", "due_base", "due_ours", "due_theirs", "base", "ours", "theirs", "pairs", "others", "table", "want", "due_lines", "due_content", "due_clashes", "chunks", "content", "merged", "line", "clashes"]
inductive X_law (F : Fx) : Prop
  | mk : (F.env.scope = s_law) → (F.ns[0]? = some ("script" : Str)) → (F.ns[1]? = some ("stem" : Str)) → (F.ns[2]? = some ("left" : Str)) → (F.ns[3]? = some ("right" : Str)) → (F.ns[4]? = some ("due_base" : Str)) → (F.ns[5]? = some ("due_ours" : Str)) → (F.ns[6]? = some ("due_theirs" : Str)) → (F.ns[7]? = some ("base" : Str)) → (F.ns[8]? = some ("ours" : Str)) → (F.ns[9]? = some ("theirs" : Str)) → (F.ns[10]? = some ("pairs" : Str)) → (F.ns[11]? = some ("others" : Str)) → (F.ns[12]? = some ("table" : Str)) → (F.ns[13]? = some ("want" : Str)) → (F.ns[14]? = some ("due_lines" : Str)) → (F.ns[15]? = some ("due_content" : Str)) → (F.ns[16]? = some ("due_clashes" : Str)) → (F.ns[17]? = some ("chunks" : Str)) → (F.ns[18]? = some ("content" : Str)) → (F.ns[19]? = some ("merged" : Str)) → (F.ns[20]? = some ("line" : Str)) → (F.ns[21]? = some ("clashes" : Str)) → (F.env.kindOf "_law_every" = some .globalImplicit) → (F.env.kindOf "_law_stem" = some .globalImplicit) → (F.env.kindOf "_law_side" = some .globalImplicit) → (F.env.kindOf "_law_lines" = some .globalImplicit) → (F.env.kindOf "lines_of" = some .globalImplicit) → (F.env.kindOf "_law_first_longest" = some .globalImplicit) → (F.env.kindOf "lcs_table" = some .globalImplicit) → (F.env.kindOf "_law_chunks" = some .globalImplicit) → (F.env.kindOf "_law_merge" = some .globalImplicit) → (F.env.kindOf "chunks_of" = some .globalImplicit) → (F.env.kindOf "merged_content" = some .globalImplicit) → (F.env.kindOf "merged_of" = some .globalImplicit) → (F.env.kindOf "conflicts_in" = some .globalImplicit) → (F.env.kindOf "len" = some .globalImplicit) → (F.env.kindOf "_law_tails" = some .globalImplicit) → (F.env.kindOf "dict" = some .globalImplicit) → (F.env.kindOf "int" = some .globalImplicit) → (F.env.kindOf "_law_balance" = some .globalImplicit) → (F.env.kindOf "type" = some .globalImplicit) → X_law F
theorem X_law.sc {F : Fx} (X : X_law F) : F.env.scope = s_law := by cases X; assumption
theorem X_law.mk' {F : Fx} (hs : F.env.scope = s_law) (hn : F.ns = n_law) : X_law F := by
  refine ⟨hs, ?_, ?_, ?_, ?_, ?_, ?_, ?_, ?_, ?_, ?_, ?_, ?_, ?_, ?_, ?_, ?_, ?_, ?_, ?_, ?_, ?_, ?_, ?_, ?_, ?_, ?_, ?_, ?_, ?_, ?_, ?_, ?_, ?_, ?_, ?_, ?_, ?_, ?_, ?_, ?_, ?_⟩
  all_goals first | (rw [hn]; rfl) | (rw [Env.kindOf, hs]; decide +kernel)
end Mine
namespace Mine
open PySem PyProof.Rows
set_option linter.all false
set_option maxRecDepth 20000
noncomputable abbrev cd (x : Str) : List Nat := x.cps.toList
theorem cd_inj {x y : Str} (h : cd x = cd y) : x = y := by cases x; cases y; simp only [Str.mk.injEq]; exact Array.toList_inj.mp h
theorem cd_append (x y : Str) : cd (x ++ y) = cd x ++ cd y := by simp [cd, Str.cps_append]
theorem e_empty : (("" : String) : Str) = Str.empty := by decide +kernel
theorem len_cd (x : Str) : x.length = (cd x).length := by simp [Str.length, cd]
noncomputable def jn (xs : List Str) : Str := Txt.join "" xs
theorem jn_nil : jn [] = "" := by rw [jn, Txt.join, StrLaws.glued_eq_join]; decide +kernel
theorem jn_one (x : Str) : jn [x] = x := by rw [jn, Txt.join, StrLaws.glued_eq_join]; rfl
theorem jn_cons (x : Str) (xs : List Str) : jn (x :: xs) = x ++ jn xs := by
  cases xs with
  | nil => rw [jn_one, jn_nil, e_empty, Str.append_empty]
  | cons y r =>
    rw [jn, jn, Txt.join, Txt.join, StrLaws.glued_eq_join, StrLaws.glued_eq_join]
    show x ++ ("" : Str) ++ Str.join "" (y :: r) = _
    rw [e_empty, Str.append_empty]
theorem jn_append : ∀ xs ys : List Str, jn (xs ++ ys) = jn xs ++ jn ys
  | [], ys => by rw [List.nil_append, jn_nil, e_empty, Str.empty_append]
  | x :: xs, ys => by rw [List.cons_append, jn_cons, jn_cons, jn_append xs ys, Str.append_assoc]
theorem cd_jn : ∀ xs : List Str, cd (jn xs) = xs.flatMap cd
  | [] => by rw [jn_nil]; decide +kernel
  | x :: xs => by rw [jn_cons, cd_append, cd_jn xs]; rfl
theorem jn_len {B : Nat} : ∀ {xs : List Str}, (∀ x ∈ xs, x.length ≤ B) → (jn xs).length ≤ xs.length * B
  | [], _ => by rw [jn_nil]; exact Nat.le_of_eq (by simp; decide +kernel)
  | x :: xs, h => by
    rw [jn_cons, Str.length_append, List.length_cons, Nat.succ_mul]
    have h1 := h x (List.mem_cons_self ..)
    have h2 := jn_len fun y hy => h y (List.mem_cons_of_mem x hy)
    omega
theorem joinOk_of {xs : List Str} {B : Nat} (h : ∀ x ∈ xs, x.length ≤ B) (hb : xs.length * B ≤ 16777216) : JoinOk "" xs = true := by
  unfold JoinOk
  rw [StrLaws.joinFits h (by have : (("" : String) : Str).length = 0 := by decide +kernel
                             rw [this]; omega)]
  rfl
theorem Good.le2 {xs : List Str} (h : Good xs) : ∀ x ∈ xs, x.length ≤ 2 := fun x hx => (seven_ok x (h.mem x hx)).2
theorem Good.join {xs : List Str} (h : Good xs) : JoinOk "" xs = true := joinOk_of h.le2 (by have := h.len; omega)
theorem Good.jnLen {xs : List Str} (h : Good xs) : (jn xs).length ≤ 200 := by
  have h1 := jn_len h.le2
  have := h.len
  omega

/-- the line with its line feed -/
noncomputable def nlEnd (x : Str) : Bool := decide (x ∈ (["a\n", "b\n", "c\n", "d\n", "\n"] : List Str))
noncomputable def nl (x : Str) : Str := if nlEnd x = true then x else x ++ "\n"
noncomputable def full : List Str → Str
  | [] => ""
  | x :: r => nl x ++ full r
theorem full_snoc : ∀ (xs : List Str) (x : Str), full (xs ++ [x]) = full xs ++ nl x
  | [], x => by simp only [List.nil_append, full, e_empty, Str.empty_append, Str.append_empty]
  | y :: xs, x => by simp only [List.cons_append, full, full_snoc xs x, Str.append_assoc]
theorem nl_len : ∀ x ∈ seven, (nl x).length ≤ 2 := by decide +kernel
theorem full_len : ∀ {xs : List Str}, (∀ x ∈ xs, x ∈ seven) → (full xs).length ≤ xs.length * 2
  | [], _ => by decide +kernel
  | x :: xs, h => by
    rw [full, Str.length_append, List.length_cons, Nat.succ_mul]
    have h1 := nl_len x (h x (List.mem_cons_self ..))
    have h2 := full_len fun y hy => h y (List.mem_cons_of_mem x hy)
    omega
noncomputable def lastOf (x : Str) : Str := if nlEnd x = true then "\n" else x
theorem slice_seven : ∀ x ∈ seven, ∀ (l u : Option (Int × Tok)) (t : Tok), l.map (·.1) = some (-1) → u.map (·.1) = none →
    sliceMade x t l u none = .val (.str x t) ∧ lastOf x = x ∨ (sliceMade x t l u none = .str (lastOf x) ∧ (lastOf x).length ≤ sizeLine) := by
  intro x hx l u t hl hu
  obtain ⟨⟨i, tk⟩, rfl, e⟩ := Option.map_eq_some_iff.mp hl
  have e : i = -1 := e
  subst e
  have hu := Option.map_eq_none_iff.mp hu
  subst hu
  have key : ∀ y ∈ seven, (((slicePicked y (some (-1, 0)) none none).length == y.length) = true ∧ lastOf y = y) ∨ (((slicePicked y (some (-1, 0)) none none).length == y.length) = false ∧ (⟨((slicePicked y (some (-1, 0)) none none).filterMap (y.cps[·]?)).toArray⟩ : Str) = lastOf y) := by decide +kernel
  have hle : ∀ y ∈ seven, (lastOf y).length ≤ 2 := by decide +kernel
  have he : slicePicked x (some (-1, tk)) none none = slicePicked x (some (-1, 0)) none none := rfl
  rcases key x hx with ⟨k1, k2⟩ | ⟨k1, k2⟩
  · left
    refine ⟨?_, k2⟩
    unfold sliceMade
    rw [he, k1]; rfl
  · right
    refine ⟨?_, by have := hle x hx; have e : sizeLine = 16777216 := by decide
                   omega⟩
    unfold sliceMade
    rw [he, k1, k2]; rfl
theorem lastOf_nl : ∀ x ∈ seven, decide (lastOf x = "\n") = nlEnd x := by decide +kernel
section
variable {F : Fx} {P : Prot} {ρ : List (Option AV)} {mu : Addr → Prop} {m : Str → Option Value} {s s' : Shared}
theorem pick_plain {α : Type} (xs : List α) (lo hi : Option Int) :
    pick xs lo hi = (xs.drop (lo.elim 0 (clipAt xs.length))).take (hi.elim xs.length (clipAt xs.length) - lo.elim 0 (clipAt xs.length)) := by
  unfold pick
  rw [sliceBounds_plain]
  have := pick_run xs.toArray (lo.elim 0 (clipAt xs.length)) (hi.elim xs.length (clipAt xs.length) - lo.elim 0 (clipAt xs.length))
  simp only [sliceRange_one]
  simpa using this
theorem pick_sl {α : Type} (xs : List α) (i j : Nat) : pick xs (some i) (some j) = sl xs i j := by
  rw [pick_plain]
  simp only [Option.elim, clipAt_nat, sl]
  rcases Nat.le_total i xs.length with h | h
  · rw [Nat.min_eq_left h]
    rcases Nat.le_total j xs.length with h' | h'
    · rw [Nat.min_eq_left h']
    · rw [Nat.min_eq_right h', List.take_of_length_le (by simp), List.take_of_length_le (by simp; omega)]
  · rw [Nat.min_eq_right h, List.drop_of_length_le (Nat.le_refl _), List.drop_of_length_le h]; simp
theorem sl_map {α β : Type} (f : α → β) (xs : List α) (i j : Nat) : sl (xs.map f) i j = (sl xs i j).map f := by simp [sl, List.map_take, List.map_drop]
theorem EvNew.sliceLs {value e1 e2 : Expr} {p pos : Pos} {xs : List Str} {a b : Int} (i j : Nat) (h : Ev F ρ value (ls xs)) (h1 : Ev F ρ e1 (.int a)) (h2 : Ev F ρ e2 (.int b)) (ha : a = (i : Int)) (hb : b = (j : Int)) (hsz : xs.length ≤ sizeLine)
    (ht : ∀ o r, letTemporaryGo value o r = pure ()) : EvNew F ρ (.Subscript value (.Slice (some e1) (some e2) none p) pos) (ls (sl xs i j)) := by
  subst ha hb
  have := EvNew.slice (i := some (i : Int)) (j := some (j : Int)) (lo := some e1) (hi := some e2) (p := p) (pos := pos) h h1 h2 (by simpa using hsz) ht
  rw [pick_sl, sl_map] at this
  exact this
theorem EvNew.butLast {value e2 : Expr} {p pos : Pos} {xs : List Str} (h : Ev F ρ value (ls xs)) (h2 : Ev F ρ e2 (.int (-1))) (hsz : xs.length ≤ sizeLine)
    (ht : ∀ o r, letTemporaryGo value o r = pure ()) : EvNew F ρ (.Subscript value (.Slice none (some e2) none p) pos) (ls xs.dropLast) := by
  have := EvNew.slice (i := none) (j := some (-1)) (lo := none) (hi := some e2) (p := p) (pos := pos) h trivial h2 (by simpa using hsz) ht
  rw [pick_plain, show (-1 : Int) = -((1 : Nat) : Int) by rfl] at this
  simp only [Option.elim, clipAt_neg _ _ (Nat.le_refl 1), List.drop_zero, Nat.sub_zero] at this
  rw [← List.map_take, List.length_map, ← List.dropLast_eq_take] at this
  exact this
theorem Ev.call' {lvl : Nat} {f : Str} {args : List Expr} {np pos : Pos} {ds : List PyData} {d : PyData} (ha : EvL F ρ args ds) (hf : Fn F.toTx lvl f ds d) (hl : lvl ≤ F.lvl) (hx : F.env.kindOf f = some .globalImplicit) (hp : PlainArgs F.env args)
    (hd : (f == ("__debug__" : Str)) = false) : Ev F ρ (.Call (.Name f np) args [] pos) d := Ev.call hf hl ha hp hx hd
theorem Fn.eq {T : Tx} {lvl : Nat} {f : Str} {ds : List PyData} {d d' : PyData} (h : Fn T lvl f ds d) (e : d = d') : Fn T lvl f ds d' := e ▸ h
theorem sl_good {xs : List Str} (h : Good xs) (i j : Nat) : Good (sl xs i j) :=
  ⟨fun x hx => h.mem x (List.mem_of_mem_drop (List.mem_of_mem_take hx)), by have := h.len; simp only [sl, List.length_take, List.length_drop]; omega⟩
theorem Good.nil : Good [] := ⟨fun x hx => (by cases hx), Nat.zero_le _⟩
theorem Good.le {xs : List Str} (h : Good xs) : xs.length ≤ sizeLine := by have := h.len; have e : sizeLine = 16777216 := by decide
                                                                           omega
theorem Good.lt63 {xs : List Str} (h : Good xs) : xs.length < 2 ^ 63 := by have := h.len; omega
/-- xs[i] -/
theorem SubR.ls {xs : List Str} {a : Int} (i : Nat) {x : Str} (ha : a = (i : Int)) (h : xs[i]? = some x) (hi : i < 2 ^ 63) : SubR (Mine.ls xs) (.int a) (.str x) := by
  subst ha
  refine .list (by omega) (by omega) ?_
  rw [Int.toNat_natCast, List.getElem?_map, h]; rfl
theorem lenD_ls (xs : List Str) : lenD (ls xs) = some xs.length := by simp [lenD, ls]
end
section
variable {F : Fx} {ρ : List (Option AV)}
theorem sizeLine_eq : sizeLine = 16777216 := by rfl
theorem ForT.fold' {target : Expr} {body : List Stmt} {α : Type} (enc : α → PyData) (inv : List α → List (Option AV)) :
    ∀ (rest done : List α), (∀ d x r, done ++ rest = d ++ x :: r → ∃ ρ₁, Bd F target (inv d) (enc x) ρ₁ ∧ Ex F ρ₁ body (.next (inv (d ++ [x])))) → ForT F target body (inv done) (rest.map enc) (.next (inv (done ++ rest)))
  | [], done, _ => by rw [List.append_nil]; exact .nil
  | x :: rest, done, h => by
    obtain ⟨ρ₁, h1, h2⟩ := h done x rest rfl
    have e : done ++ x :: rest = (done ++ [x]) ++ rest := by simp
    rw [e] at h ⊢
    exact .cons h1 h2 (ForT.fold' enc inv rest (done ++ [x]) h)
/-- a loop over what was laid out by a list -/
theorem Ex.forFold (i : Nat) {y : Str} {p pos : Pos} {iter : Expr} {body rest : List Stmt} {out : Out} {α : Type} (enc : α → PyData) (inv : List α → List (Option AV)) (xs : List α) (hi : F.ns[i]? = some y)
    (hit : It F (inv []) (.Name y p) iter (xs.map enc)) (hs : ∀ x, foldedSetIterable iter F.env x = pure x)
    (step : ∀ d x r, xs = d ++ x :: r → Ex F ((inv d).set i (some (.dat (enc x)))) body (.next (inv (d ++ [x])))) (k : Ex F (inv xs) rest out) : Ex F (inv []) (.For (.Name y p) iter body [] pos :: rest) out :=
  Ex.cons (Ex1.for hit (ForT.fold' enc inv xs [] fun d x r e => ⟨_, Bd.name i hi, step d x r e⟩) hs) k
theorem Ex.forFoldB {target : Expr} {pos : Pos} {iter : Expr} {body rest : List Stmt} {out : Out} {α : Type} (enc : α → PyData) (inv : List α → List (Option AV)) (xs : List α)
    (hit : It F (inv []) target iter (xs.map enc)) (hs : ∀ x, foldedSetIterable iter F.env x = pure x)
    (step : ∀ d x r, xs = d ++ x :: r → ∃ ρ₁, Bd F target (inv d) (enc x) ρ₁ ∧ Ex F ρ₁ body (.next (inv (d ++ [x])))) (k : Ex F (inv xs) rest out) : Ex F (inv []) (.For target iter body [] pos :: rest) out :=
  Ex.cons (Ex1.for hit (ForT.fold' enc inv xs [] fun d x r e => step d x r e) hs) k
theorem Ex.forNil {target : Expr} {pos : Pos} {iter : Expr} {body rest : List Stmt} {out : Out} (hit : It F ρ target iter []) (hs : ∀ x, foldedSetIterable iter F.env x = pure x) (k : Ex F ρ rest out) : Ex F ρ (.For target iter body [] pos :: rest) out :=
  Ex.cons (Ex1.for hit .nil hs) k
/-- a while -/
theorem Ex.whileRun {test : Expr} {pos : Pos} {body rest : List Stmt} {out : Out} {σ : Type} (inv : σ → List (Option AV)) (R Stop : σ → Prop) (μ : σ → Nat) (s0 : σ) (h0 : R s0)
    (h : ∀ s, R s → (Stop s ∧ Tr F (inv s) test false) ∨ (Tr F (inv s) test true ∧ ∃ s', R s' ∧ μ s' < μ s ∧ Ex F (inv s) body (.next (inv s'))))
    (k : ∀ f, R f → Stop f → Ex F (inv f) rest out) : Ex F (inv s0) (.While test body [] pos :: rest) out := by
  have : ∀ n s, μ s < n → R s → ∃ f, R f ∧ Stop f ∧ Lp F (inv s) test body (.next (inv f)) := by
    intro n
    induction n with
    | zero => intro s hs; exact absurd hs (Nat.not_lt_zero _)
    | succ n ih =>
      intro s hs hR
      rcases h s hR with ⟨h1, h2⟩ | ⟨h1, s', hR', hm, hx⟩
      · exact ⟨s, hR, h1, Lp.fin h2⟩
      · obtain ⟨f, hf, hst, L⟩ := ih s' (by omega) hR'
        exact ⟨f, hf, hst, Lp.step h1 hx L⟩
  obtain ⟨f, hf, hst, L⟩ := this (μ s0 + 1) s0 (by omega) h0
  exact Ex.cons (Ex1.while L) (k f hf hst)
/-- an if, both ways to the same place -/
theorem Ex.ite' {test : Expr} {b : Bool} {body orelse rest : List Stmt} {pos : Pos} {ρ₁ : List (Option AV)} {out : Out} (ht : Tr F ρ test b) (h1 : b = true → Ex F ρ body (.next ρ₁)) (h2 : b = false → Ex F ρ orelse (.next ρ₁)) (k : Ex F ρ₁ rest out) :
    Ex F ρ (.If test body orelse pos :: rest) out := Ex.cons (Ex1.ite ht h1 h2) k
theorem Ex.set {i : Nat} {y : Str} {p pos : Pos} {e : Expr} {d : PyData} {rest : List Stmt} {out : Out} (h : Ev F ρ e d) (hi : F.ns[i]? = some y) (hs : swapsWith e (some (.Name y p)) pos.line F.env = pure false) (k : Ex F (ρ.set i (some (.dat d))) rest out) :
    Ex F ρ (.Assign [.Name y p] e pos :: rest) out := Ex.cons (Ex1.assign hi h hs) k
theorem Ex.setNew {i : Nat} {y : Str} {p pos : Pos} {e : Expr} {d : PyData} {rest : List Stmt} {out : Out} (h : EvNew F ρ e d) (hi : F.ns[i]? = some y) (hs : swapsWith e (some (.Name y p)) pos.line F.env = pure false) (k : Ex F (ρ.set i (some (.own d))) rest out) :
    Ex F ρ (.Assign [.Name y p] e pos :: rest) out := Ex.cons (Ex1.assignNew hi h hs) k
end
section
variable {F : Fx} {ρ : List (Option AV)}
theorem comp_ns (F : Fx) (scope : Scope) (cl : List (Str × Addr)) (y : Str) (C : Addr) : (F.comp scope cl y C).ns[0]? = some y := rfl
theorem comp_kind {scope : Scope} {cl : List (Str × Addr)} {y x : Str} {C : Addr} {k : NameKind} (hk : k ≠ .free) (h : scope.names.lookup x = some k) : (F.comp scope cl y C).env.kindOf x = some k := by
  show (scope.names.map fun (n, k) => if (k == NameKind.free && F.env.scope.kind == .function && F.env.kindOf n == some .cell) then (n, NameKind.cell) else (n, k)).lookup x = some k
  generalize scope.names = names at h
  induction names with
  | nil => cases h
  | cons p r ih =>
    obtain ⟨n, k'⟩ := p
    rw [List.lookup_cons] at h
    simp only [List.map_cons]
    by_cases e : x == n
    · rw [e] at h
      simp only [Option.some.injEq] at h
      subst h
      have : (k' == NameKind.free) = false := by simpa using hk
      simp only [this, Bool.false_and, Bool.false_eq_true, if_false, List.lookup_cons, e]
    · have e : (x == n) = false := by simpa using e
      rw [e] at h
      split
      · rw [List.lookup_cons, e]; exact ih h
      · rw [List.lookup_cons, e]; exact ih h
theorem CompT.ofMap {scope : Scope} {cl : List (Str × Addr)} {y : Str} {elt : Expr} {α : Type} (enc res : α → PyData) (xs : List α) (h : ∀ x ∈ xs, ∀ C, (F.comp scope cl y C).ns[0]? = some y → Ev (F.comp scope cl y C) [some (.dat (enc x))] elt (res x)) :
    CompT F scope cl y [] elt (xs.map enc) (xs.map res) := by
  induction xs with
  | nil => exact .nil
  | cons x xs ih => exact .yes (fun C => rfl) (fun C => h x (List.mem_cons_self ..) C (comp_ns ..)) (ih fun z hz => h z (List.mem_cons_of_mem _ hz))
theorem CompT.ofFilter {scope : Scope} {cl : List (Str × Addr)} {y : Str} {c elt : Expr} {α : Type} (enc res : α → PyData) (t : α → Bool) (xs : List α) (h1 : ∀ x ∈ xs, ∀ C, (F.comp scope cl y C).ns[0]? = some y → Tr (F.comp scope cl y C) [some (.dat (enc x))] c (t x))
    (h2 : ∀ x ∈ xs, t x = true → ∀ C, (F.comp scope cl y C).ns[0]? = some y → Ev (F.comp scope cl y C) [some (.dat (enc x))] elt (res x)) :
    CompT F scope cl y [c] elt (xs.map enc) ((xs.filter t).map res) := by
  induction xs with
  | nil => exact .nil
  | cons x xs ih =>
    have ih := ih (fun z hz => h1 z (List.mem_cons_of_mem _ hz)) (fun z hz => h2 z (List.mem_cons_of_mem _ hz))
    cases e : t x with
    | true =>
      rw [List.filter_cons_of_pos e]
      exact .yes (fun C => by have := h1 x (List.mem_cons_self ..) C (comp_ns ..); rw [e] at this; exact this) (fun C => h2 x (List.mem_cons_self ..) e C (comp_ns ..)) ih
    | false =>
      rw [List.filter_cons_of_neg (by rw [e]; decide)]
      exact .no (fun C => by have := h1 x (List.mem_cons_self ..) C (comp_ns ..); rw [e] at this; exact this) ih
theorem closure_plain {scope : Scope} {env : Env} (hsc : (scope.names.all fun (n, k) => k != .cell && k != .free && (k != .local || decide (scope.names.lookup n = some .local))) = true) : closureFor scope env = pure [] := by
  have hall := List.all_eq_true.mp hsc
  have : ∀ (l : List (Str × NameKind)), (∀ p ∈ l, p.2 ≠ .free) → (forIn l ([] : List (Str × Addr)) fun (x : Str × NameKind) r => (if (x.2 == NameKind.free) = true then do let a ← cellOf env x.1; pure (ForInStep.yield ((x.1, a) :: r)) else pure (ForInStep.yield r) : Sem (ForInStep (List (Str × Addr))))) = (pure [] : Sem (List (Str × Addr))) := by
    intro l
    induction l with
    | nil => intro _; rfl
    | cons p l ih =>
      intro h
      have hp : (p.2 == NameKind.free) = false := by simpa using h p (List.mem_cons_self ..)
      rw [List.forIn_cons, if_neg (by rw [hp]; decide)]
      exact ih fun q hq => h q (List.mem_cons_of_mem _ hq)
  have h0 := this scope.names fun p hp e => by
    have := hall p hp
    simp [e] at this
  unfold closureFor
  exact (congrArg (fun x => x >>= fun cs => pure cs) h0)
/-- [elt for y in ..] where nothing is caught -/
theorem EvNew.comp' {elt iter : Expr} {y : Str} {py : Pos} {ifs : List Expr} {scope : Scope} {pos : Pos} {ds rs : List PyData} (hi : It F ρ (.Name y py) iter ds) (T : CompT F scope [] y ifs elt ds rs) (hcl : F.cl = [])
    (hsc : (scope.names.all fun (n, k) => k != .cell && k != .free && (k != .local || decide (scope.names.lookup n = some .local))) = true) (hkind : scope.kind = .function) (hy : scope.names.lookup y = some .local) (hyd : (y == ("__debug__" : Str)) = false)
    (hsz : ds.length ≤ sizeLine) (hs : ∀ x, foldedSetIterable iter F.env x = pure x) : EvNew F ρ (.ListComp elt [⟨.Name y py, iter, ifs, 0⟩] scope pos) (.list rs) := by
  have hall := List.all_eq_true.mp hsc
  refine EvNew.comp hi T (closure_plain hsc) (fun x hx e => ?_) hkind (fun x hx e => ?_) hy hyd hsz (by rw [hcl]; intro c hc; cases hc) hs
  · have := hall x hx
    simp [e] at this
  · have := hall x hx
    simp only [e, Bool.and_eq_true, Bool.or_eq_true, decide_eq_true_eq] at this
    rcases this.2 with h | h
    · exact absurd h (by decide)
    · exact h
/-- z = [elt for y in ..] where nothing is caught -/
theorem Ex.setComp (i : Nat) {elt iter : Expr} {y z : Str} {py pz : Pos} {ifs : List Expr} {scope : Scope} {pos spos : Pos} {ds rs : List PyData} {rest : List Stmt} {out : Out} (hzi : F.ns[i]? = some z) (hi : It F ρ (.Name y py) iter ds) (T : CompT F scope [] y ifs elt ds rs)
    (hcl : F.cl = []) (hsw : (F.env.blockKind == .function && F.env.kindOf z == some .local && pz.line == pos.line && !(scope.names.any fun (n, k) => n == z && (k == .local || k == .cell))) = true)
    (hpl : (Expr.ListComp elt [⟨.Name y py, iter, ifs, 0⟩] scope pos).pos.line = pos.line)
    (hsc : (scope.names.all fun (n, k) => k != .cell && k != .free && (k != .local || decide (scope.names.lookup n = some .local))) = true) (hkind : scope.kind = .function) (hy : scope.names.lookup y = some .local) (hyd : (y == ("__debug__" : Str)) = false)
    (hsz : ds.length ≤ sizeLine) (hs : ∀ x, foldedSetIterable iter F.env x = pure x) (k : Ex F (ρ.set i (some (.own (.list rs)))) rest out) :
    Ex F ρ (.Assign [.Name z pz] (.ListComp elt [⟨.Name y py, iter, ifs, 0⟩] scope pos) spos :: rest) out := by
  have hall := List.all_eq_true.mp hsc
  refine Ex.cons (Ex1.assignComp i hzi hi T ?_ ?_ (fun x hx e => ?_) hkind (fun x hx e => ?_) hy hyd hsz (by rw [hcl]; intro c hc; cases hc) hs) k
  · show (pure (F.env.blockKind == .function && F.env.kindOf z == some .local && pz.line == (Expr.ListComp elt [⟨.Name y py, iter, ifs, 0⟩] scope pos).pos.line && !(scope.names.any fun (n, k) => n == z && (k == .local || k == .cell))) : Sem Bool) = pure true
    rw [hpl, hsw]
  · exact closure_plain hsc
  · have := hall x hx
    simp [e] at this
  · have := hall x hx
    simp only [e, Bool.and_eq_true, Bool.or_eq_true, decide_eq_true_eq] at this
    rcases this.2 with h | h
    · exact absurd h (by decide)
    · exact h
end
/-- a name of the text's top that holds a tuple of texts -/
noncomputable def GlobT (T : Tx) (n : Str) (ss : List Str) : Prop := ∃ a vs, T.mg n = some (.ref a) ∧ IsTup T.hT a vs.toArray ∧ StrsAre vs ss
section
variable {F : Fx} {ρ : List (Option AV)}
theorem strsAre_reps {prog : Program} {w : World} {mu : Addr → Prop} {h : Heap} {vs : List Value} {ss : List Str} (x : StrsAre vs ss) : Reps prog w mu h vs (ss.map .str) := by
  induction x with
  | nil => exact .nil
  | cons y t _ ih => exact .cons (.str y t) ih
theorem Ev.subG {n : Str} {np pos : Pos} {e : Expr} {ss : List Str} {a : Int} (i : Nat) {x : Str} (hg : GlobT F.toTx n ss) (hx : F.env.kindOf n = some .globalImplicit) (hd : (n == ("__debug__" : Str)) = false) (he : Ev F ρ e (.int a)) (ha : a = (i : Int)) (hi : ss[i]? = some x) (hi2 : i < 2 ^ 62)
    (hs : ∀ o i, subscripted e false o i = operate [o, i] (getItem o i)) : Ev F ρ (.Subscript (.Name n np) e pos) (.str x) := .of fun P mu m s st => by
  subst ha
  obtain ⟨t, vs, h1, h2, h3⟩ := hg
  refine Subscript_ (Calls.Name_function_global st.ok.kind hx (Calls.loadGlobal_global (by rw [st.ok.globals]; exact st.ok.T.g.keeps st.topK) h1 (wpAny_mono (he.run P mu m s st) (fun v s₁ ⟨g, r⟩ => ?_) fun _ _ h => h)) hd)
  obtain ⟨tk, rfl⟩ := r.int_inv
  obtain ⟨tv, hv⟩ := h3.at hi
  have hlt := (List.getElem?_eq_some_iff.mp hv).1
  refine item_tupleT (l := vs) (h2.keeps (st.keeps g).topK) (by omega) (by omega) (j := i) ?_ hv ⟨g, .str _ _⟩ (hs _ _)
  unfold seqIndex?
  simp only [show ¬ ((i : Int) < 0) by omega, if_false]
  rw [if_pos (by simp; omega), Int.toNat_natCast]
theorem Iter.tupleI {y : Str} {pos : Pos} {I l : Addr} {vs : Array Value} {ds : List PyData} (hh : F.A.handled = none) (hne : l ≠ I) (hlen : vs.size = ds.length) :
    Iter F (.Name y pos) I [I, l] [I] ds (vs.toList.zip ds) (fun k h => h.IsTupleIter I l k ∧ h.IsTuple l vs) where
  sub b hb := by simp at hb; simp [hb]
  frame k h h' st hk := ⟨let ⟨o, ho, r⟩ := st.1; ⟨o, hk I (by simp) o ho, r⟩, let ⟨o, ho, r⟩ := st.2; ⟨o, hk l (by simp) o ho, r⟩⟩
  live k h st b hb := by
    simp at hb
    rcases hb with rfl | rfl
    · obtain ⟨o, ho, _⟩ := st.1; exact ⟨o, ho⟩
    · obtain ⟨o, ho, _⟩ := st.2; exact ⟨o, ho⟩
  item k d s mu hd st hgh hmu halive := by
    have hk : k < ds.length := (List.getElem?_eq_some_iff.mp hd).1
    have hkv : k < vs.size := by omega
    refine wpAny_pyNext_tuple_item st.1 st.2 (x := vs[k]) (by simp [hkv]) fun h' hit' hs' => ⟨_, rfl, wpAny_pure ?_⟩
    have hr : Rep F.prog F.w mu s.heap vs[k] d := hgh (vs[k], d) (by
      have e : (vs.toList.zip ds)[k]? = some (vs[k], d) := by
        rw [List.getElem?_zip_eq_some]
        exact ⟨by simp [hkv], hd⟩
      exact List.mem_of_getElem? e)
    have hr' : Rep F.prog F.w mu h' vs[k] d := hr.mono fun b o hm e => ⟨hs'.extBut b o (fun hb => hm (hb ▸ hmu I (by simp))) e, hm⟩
    exact ⟨⟨fun b o hb e => hs'.extBut b o (fun h => hb (by simp [h])) e, rfl, rfl⟩, ⟨hit', let ⟨o, ho, r⟩ := st.2; ⟨o, hs'.extBut _ _ hne ho, r⟩⟩, hr'⟩
  self k s Q E st h := wpAny_pyIter_tupleiter st.1 h
  done s st := wpAny_pyNext_tuple_end hh st.1 st.2 (by rw [← hlen]; simp) fun h' he => ⟨rfl, ⟨fun b o hb e => he b o (fun h => hb (by simp [h])) e, rfl, rfl⟩⟩
theorem It.tupG {y n : Str} {pos np : Pos} {ss : List Str} (hg : GlobT F.toTx n ss) (hx : F.env.kindOf n = some .globalImplicit) (hd : (n == ("__debug__" : Str)) = false) : It F ρ (.Name y pos) (.Name n np) (ss.map .str) := .of fun P mu m s x => by
  obtain ⟨t, vs, h1, h2, h3⟩ := hg
  refine Calls.Name_function_global x.ok.kind hx (Calls.loadGlobal_global (by rw [x.ok.globals]; exact x.ok.T.g.keeps x.topK) h1 ?_) hd
  have h2' : s.heap.IsTuple t vs.toArray := h2.keeps x.topK
  obtain ⟨o0, ho0, _⟩ := h2
  obtain ⟨o, ho, hc, nn, hdt⟩ := id h2'
  have hmu : ¬ mu t := fun h => by have := x.muT t h; rw [show F.hT.get? t = some o0 from ho0] at this; cases this
  have hne : t ≠ s.heap.objs.size := fun e => by rw [e, fresh_size] at ho; cases ho
  have hl := h3.len_eq
  refine wpAny_pyIter_tuple h2' ⟨s, _, _, _, _, _, rfl, Iter.tupleI (vs := vs.toArray) x.ok.handled hne (by simp [hl]), Go.refl s, Go.push s _ (t := s.toks), fun b hb => ?_, fun b hb hbw => ?_, reps_zip (strsAre_reps h3), ⟨⟨_, Heap.get?_push_size _ rfl, rfl, rfl⟩, ⟨o, Heap.get?_push_of_some _ ho, hc, nn, hdt⟩⟩⟩
  · simp at hb; subst hb; exact fresh_size _
  · simp at hb hbw
    rcases hb with rfl | rfl
    · exact absurd rfl hbw
    · exact hmu
end
theorem bindL_out {kindOf : Str → Option NameKind} {x : Str} : ∀ (binds : List (Str × Value)) (m : Str → Option Value), x ∉ binds.map (·.1) → bindL kindOf binds m x = m x
  | [], m, _ => rfl
  | (n, v) :: r, m, h => by
    simp only [List.map_cons, List.mem_cons, not_or] at h
    unfold bindL
    rw [bindL_out r _ h.2]
    split
    · exact if_neg h.1
    · rfl
theorem bindC_out {kindOf : Str → Option NameKind} {x : Str} : ∀ (binds : List (Str × Value)) (m : Str → Option Value), x ∉ binds.map (·.1) → bindC kindOf binds m x = m x
  | [], m, _ => rfl
  | (n, v) :: r, m, h => by
    simp only [List.map_cons, List.mem_cons, not_or] at h
    unfold bindC
    rw [bindC_out r _ h.2]
    split
    · rfl
    · exact if_neg h.1
theorem zip_keys {pn : List Str} {vs : List Value} (h : pn.length = vs.length) : (pn.zip vs).map (·.1) = pn := by
  rw [List.map_fst_zip (by omega)]
theorem bindL_get {kindOf : Str → Option NameKind} {x : Str} {v : Value} (hx : kindOf x = some .local) : ∀ (pn : List Str) (vs : List Value) (m : Str → Option Value) (k : Nat), pn.Nodup → pn.length = vs.length → pn[k]? = some x → vs[k]? = some v → bindL kindOf (pn.zip vs) m x = some v
  | [], _, _, k, _, _, h, _ => by simp at h
  | n :: pn, [], _, k, _, hl, _, _ => by simp at hl
  | n :: pn, u :: vs, m, 0, hn, hl, h1, h2 => by
    simp at h1 h2; subst h1 h2
    obtain ⟨hn1, _⟩ := List.nodup_cons.mp hn
    simp only [List.zip_cons_cons]
    unfold bindL
    rw [if_pos hx, bindL_out _ _ (by rw [zip_keys (by simpa using hl)]; exact hn1)]
    simp
  | n :: pn, u :: vs, m, k + 1, hn, hl, h1, h2 => by
    simp only [List.getElem?_cons_succ] at h1 h2
    simp only [List.zip_cons_cons]
    unfold bindL
    exact bindL_get hx pn vs _ k (List.nodup_cons.mp hn).2 (by simpa using hl) h1 h2
theorem bindC_get {kindOf : Str → Option NameKind} {x : Str} {v : Value} (hx : kindOf x = some .cell) : ∀ (pn : List Str) (vs : List Value) (m : Str → Option Value) (k : Nat), pn.Nodup → pn.length = vs.length → pn[k]? = some x → vs[k]? = some v → bindC kindOf (pn.zip vs) m x = some v
  | [], _, _, k, _, _, h, _ => by simp at h
  | n :: pn, [], _, k, _, hl, _, _ => by simp at hl
  | n :: pn, u :: vs, m, 0, hn, hl, h1, h2 => by
    simp at h1 h2; subst h1 h2
    obtain ⟨hn1, _⟩ := List.nodup_cons.mp hn
    simp only [List.zip_cons_cons]
    unfold bindC
    rw [if_neg (by rw [hx]; decide), bindC_out _ _ (by rw [zip_keys (by simpa using hl)]; exact hn1)]
    simp
  | n :: pn, u :: vs, m, k + 1, hn, hl, h1, h2 => by
    simp only [List.getElem?_cons_succ] at h1 h2
    simp only [List.zip_cons_cons]
    unfold bindC
    exact bindC_get hx pn vs _ k (List.nodup_cons.mp hn).2 (by simpa using hl) h1 h2

theorem cells_keep : ∀ (names : List (Str × NameKind)) (n : Nat) (acc : List (Str × Addr)) (q : Str × Addr), q ∈ acc → q ∈ cellsFrom n names acc
  | [], _, _, _, h => h
  | (y, k) :: r, n, acc, q, h => by
    unfold cellsFrom
    split
    · exact cells_keep r _ _ q (List.mem_cons_of_mem _ h)
    · exact cells_keep r _ _ q h
theorem cells_mem : ∀ (names : List (Str × NameKind)) (n : Nat) (acc : List (Str × Addr)) (x : Str), (x, NameKind.cell) ∈ names → ∃ c, (x, c) ∈ cellsFrom n names acc
  | [], _, _, _, h => by cases h
  | (y, k) :: r, n, acc, x, h => by
    unfold cellsFrom
    rcases List.mem_cons.mp h with e | h
    · cases e
      exact ⟨n, by rw [if_pos (by rfl)]; exact cells_keep r _ _ _ (List.mem_cons_self ..)⟩
    · split
      · exact cells_mem r _ _ x h
      · exact cells_mem r _ _ x h
theorem lookup_of_mem {α : Type} : ∀ {l : List (Str × α)} {x : Str} {c : α}, (x, c) ∈ l → ∃ d, l.lookup x = some d
  | [], _, _, h => by cases h
  | (y, d) :: l, x, c, h => by
    rw [List.lookup_cons]
    by_cases e : x = y
    · exact ⟨d, by rw [show (x == y) = true by simpa using e]⟩
    · rw [show (x == y) = false by simpa using e]
      rcases List.mem_cons.mp h with h | h
      · cases h; exact absurd rfl e
      · exact lookup_of_mem h
/-- a function of which some parameters are caught by a comprehension -/
theorem Fn.introC {T : Tx} {lvl : Nat} {f : Str} {params : Arguments} {body : List Stmt} {scope : Scope} {args : List PyData} {d : PyData} (D : DefAt T f params body scope) (hT : TopF T.hT T.mg T.mb) (ns : List Str) (pn : List Str) (cn : List (Str × Nat)) (ρ : List (Option AV))
    (hlen : pn.length = args.length) (hpn : pn.Nodup) (hnd : ns.Nodup) (hloc : ∀ x ∈ ns, scope.names.lookup x = some .local) (hdbg : ∀ x ∈ ns, (x == ("__debug__" : Str)) = false)
    (hρ : ∀ (i : Nat) (x : Str) (av : AV), ns[i]? = some x → ρ[i]? = some (some av) → ∃ (k : Nat) (d : PyData), pn[k]? = some x ∧ args[k]? = some d ∧ av = .dat d)
    (hcn : ∀ c ∈ cn, pn[c.2]? = some c.1 ∧ scope.names.lookup c.1 = some .cell)
    (hkinds : ∀ x ∈ pn, scope.names.lookup x = some .local ∨ scope.names.lookup x = some .cell)
    (hbind : ∀ (nm q : Str) (pm cd doc ct : Value) (an : Option Addr) (vs : List Value), vs.length = args.length → bindArgs (fdOf nm q params body scope pm cd doc ct an) ⟨vs, []⟩ = pure (pn.zip vs))
    (hco : scope.isCoroutine = false) (hgen : scope.isGenerator = false) (hk : scope.kind = .function)
    (h : ∀ F : Fx, F.toTx = T → F.env.scope = scope → F.ns = ns → F.cl.map (fun c => (c.1, some c.2.2.2)) = cn.map (fun c => (c.1, args[c.2]?)) → (∀ c ∈ F.cl, F.env.cells.lookup c.1 = some c.2.1) → F.lvl = lvl → Ex F ρ body (.ret d)) : Fn T (lvl + 1) f args d := by
  obtain ⟨a, o, nm, q, pm, cd, doc, ct, an, hmg, ho, hdata, hcd⟩ := D
  refine ⟨a, o, _, hmg, ho, hdata, fun A mu s vs hh hu hd htop halive hmuT hg hr => ?_⟩
  have hvl := hr.length
  have hcs : ∀ x, scope.names.lookup x = some .cell → ∃ c, (cellsFrom (s.heap.objs.size + 1) scope.names []).lookup x = some c := fun x hx => let ⟨_, h⟩ := cells_mem scope.names (s.heap.objs.size + 1) [] x (PySem.mem_of_lookup hx); lookup_of_mem h
  refine wpAny_call (codeAny_call_cells (binds := pn.zip vs) (by omega) (htop _ _ ho) hdata (by obtain ⟨mc, h1, h2⟩ := hT.lim; exact ⟨mc, h1.keeps htop, h2⟩) (hcd.keeps htop) rfl (hbind nm q pm cd doc ct an vs hvl) rfl
    (fun x hx => ?_) (fun s₁ x => ?_) hco hgen hk)
  · rcases hkinds x.1 (List.of_mem_zip hx).1 with h1 | h1
    · exact .inl h1
    · obtain ⟨c, hc⟩ := hcs _ h1
      exact .inr ⟨h1, by rw [show (fdOf nm q params body scope pm cd doc ct an).scope = scope from rfl, hc]; rfl⟩
  let L := s.heap.objs.size
  let env := callEnvC (fdOf nm q params body scope pm cd doc ct an) L a
  -- the cells
  have hcl : ∃ cl : List (Str × Addr × Value × PyData), cl.map (fun c => (c.1, some c.2.2.2)) = cn.map (fun c => (c.1, args[c.2]?)) ∧ ∀ c ∈ cl, env.cells.lookup c.1 = some c.2.1 ∧ s₁.heap.IsCell c.2.1 (some c.2.2.1) ∧ Rep T.prog T.w mu s.heap c.2.2.1 c.2.2.2 := by
    clear h
    induction cn with
    | nil => exact ⟨[], rfl, fun c hc => by cases hc⟩
    | cons c cn ih =>
      obtain ⟨cl, e1, e2⟩ := ih fun c hc => hcn c (List.mem_cons_of_mem _ hc)
      obtain ⟨h1, h2⟩ := hcn c (List.mem_cons_self ..)
      obtain ⟨ca, hca⟩ := hcs _ h2
      have hk' : c.2 < args.length := by rw [← hlen]; exact (List.getElem?_eq_some_iff.mp h1).1
      obtain ⟨v, hv, rv⟩ := hr.get (List.getElem?_eq_getElem hk')
      refine ⟨(c.1, ca, v, args[c.2]) :: cl, by simp [e1, hk'], fun c' hc' => ?_⟩
      rcases List.mem_cons.mp hc' with rfl | hc'
      · refine ⟨hca, ?_, rv⟩
        have hx := x.cell c.1 ca hca
        rw [bindC_get (kindOf := env.kindOf) h2 pn vs _ c.2 hpn (by omega) h1 hv] at hx
        exact hx
      · exact e2 c' hc'
  obtain ⟨cl, hcl1, hcl2⟩ := hcl
  let F : Fx := { T with A := A.deeper env, env := env, ns := ns, cl := cl, os := s.os, lvl := lvl }
  let P : Prot := { pin := fun b => if b < L then s.heap.get? b else if b = L then none else s₁.heap.get? b, mu0 := mu, gh := [] }
  have hL : s.heap.get? L = none := fresh_size _
  have hkeep := x.toInCall.keep
  have hkm : ∀ b o, ¬ mu b → s.heap.get? b = some o → s₁.heap.get? b = some o ∧ ¬ (mu b ∨ b = L) := fun b o hm e =>
    ⟨hkeep b o e, fun h => h.elim hm fun e' => by rw [e', hL] at e; cases e⟩
  have hpl : ∀ b o, s.heap.get? b = some o → P.pin b = some o := fun b o e => by
    show (if b < L then s.heap.get? b else _) = some o
    rw [if_pos (Heap.lt_size e)]; exact e
  obtain ⟨h₁, tk, hs₁⟩ := x.toInCall.same
  have st : St F P ρ (fun b => mu b ∨ b = L) (bindL env.kindOf (pn.zip vs) fun _ => none) s₁ := by
    refine ⟨⟨hk, hnd, fun x hx => hloc x hx, hdbg, hh, ?_, ?_, rfl, rfl, hT⟩, x.toInCall.ns, .inr rfl, fun b hb => .inl hb, fun b hb => ?_, fun b hb => ?_, fun b o e => ?_, fun b o e => hpl b o (htop b o e), ?_, fun i y av h1 h2 => ?_, fun i j y z d1 d2 h1 h2 h3 h4 h5 => ?_, fun p hp => (by cases hp), fun c hc => ?_, ?_, ?_⟩
    · show (A.deeper env).units + 3 * lvl + 70 < cLine
      rw [Around.deeper_units]; omega
    · show (A.deeper env).depth + lvl < recursionLimit
      show A.depth + 1 + lvl < recursionLimit
      omega
    · rcases hb with hb | rfl
      · exact hmuT b hb
      · cases q : T.hT.get? s.heap.objs.size with
        | none => rfl
        | some o => have := htop _ _ q; rw [fresh_size] at this; cases this
    · rcases hb with hb | rfl
      · obtain ⟨o, ho⟩ := halive b hb; exact ⟨o, hkeep _ _ ho⟩
      · obtain ⟨o, _, _, ho, _⟩ := x.toInCall.ns; exact ⟨o, ho⟩
    · have e : (if b < L then s.heap.get? b else if b = L then none else s₁.heap.get? b) = some o := e
      split at e
      · exact hkeep b o e
      · split at e
        · cases e
        · exact e
    · show (if L < L then s.heap.get? L else if L = L then none else s₁.heap.get? L) = none
      rw [if_neg (Nat.lt_irrefl _), if_pos rfl]
    · obtain ⟨k, d', g1, g2, rfl⟩ := hρ i y av h1 h2
      obtain ⟨v, hv, rv⟩ := hr.get g2
      refine ⟨v, ?_, rv.mono hkm⟩
      exact bindL_get (kindOf := env.kindOf) (hloc y (List.mem_of_getElem? h1)) pn vs _ k hpn (by omega) g1 hv
    · obtain ⟨_, _, _, _, e⟩ := hρ i y _ h1 h3
      cases e
    · obtain ⟨g1, ⟨oc, g2, g3⟩, g4⟩ := hcl2 c hc
      refine ⟨g1, ⟨oc, ?_, g3⟩, g4.mono hkm⟩
      have hab : L < c.2.1 := x.above c.1 c.2.1 (PySem.mem_of_lookup g1)
      show (if c.2.1 < L then s.heap.get? c.2.1 else if c.2.1 = L then none else s₁.heap.get? c.2.1) = some oc
      rw [if_neg (Nat.lt_asymm hab), if_neg (Nat.ne_of_gt hab)]
      exact g2
    · rw [hs₁]; exact hg
    · rw [hs₁]
  refine wpAny_mono ((h F rfl rfl rfl hcl1 (fun c hc => (hcl2 c hc).1) rfl).run P _ _ _ st) (fun fl s' ⟨v, e, rv, hkp, hg', hos⟩ => ?_) fun _ _ h => h.elim
  subst e
  exact ⟨⟨fun b o e => hkp b o (hpl b o e), hg'.trans hg.symm, hos⟩, rv⟩
section
variable {F : Fx} {ρ : List (Option AV)}
noncomputable def closureOf (f : Str → Addr) : List (Str × NameKind) → List (Str × Addr) → List (Str × Addr)
  | [], acc => acc
  | (n, k) :: r, acc => if k == .free then closureOf f r ((n, f n) :: acc) else closureOf f r acc
theorem closureOf_all (f : Str → Addr) : ∀ (l : List (Str × NameKind)) (acc : List (Str × Addr)), (∀ p ∈ acc, p.2 = f p.1) → ∀ p ∈ closureOf f l acc, p.2 = f p.1
  | [], acc, h => h
  | (n, k) :: r, acc, h => by
    unfold closureOf
    split
    · exact closureOf_all f r _ fun p hp => by
        rcases List.mem_cons.mp hp with rfl | hp
        · rfl
        · exact h p hp
    · exact closureOf_all f r acc h
theorem closureOf_keep (f : Str → Addr) : ∀ (l : List (Str × NameKind)) (acc : List (Str × Addr)) (p : Str × Addr), p ∈ acc → p ∈ closureOf f l acc
  | [], acc, p, h => h
  | (n, k) :: r, acc, p, h => by
    unfold closureOf
    split
    · exact closureOf_keep f r _ p (List.mem_cons_of_mem _ h)
    · exact closureOf_keep f r acc p h
theorem closureOf_mem (f : Str → Addr) : ∀ (l : List (Str × NameKind)) (acc : List (Str × Addr)) (n : Str), (n, .free) ∈ l → (n, f n) ∈ closureOf f l acc
  | [], acc, n, h => by cases h
  | (n', k) :: r, acc, n, h => by
    unfold closureOf
    rcases List.mem_cons.mp h with e | h
    · cases e
      rw [if_pos (by rfl)]
      exact closureOf_keep f r _ _ (List.mem_cons_self ..)
    · split
      · exact closureOf_mem f r _ n h
      · exact closureOf_mem f r acc n h
theorem closureOf_lookup (f : Str → Addr) (l : List (Str × NameKind)) (n : Str) (h : (n, .free) ∈ l) : (closureOf f l []).lookup n = some (f n) := by
  have hm := closureOf_mem f l [] n h
  have ha := closureOf_all f l [] (by intro p hp; cases hp)
  generalize closureOf f l [] = L at hm ha
  induction L with
  | nil => cases hm
  | cons p L ih =>
    rw [List.lookup_cons]
    by_cases e : n = p.1
    · have := ha p (List.mem_cons_self ..)
      rw [show (n == p.1) = true by simpa using e]
      rw [e, ← this]
    · rw [show (n == p.1) = false by simpa using e]
      rcases List.mem_cons.mp hm with rfl | hm
      · exact absurd rfl e
      · exact ih hm fun q hq => ha q (List.mem_cons_of_mem _ hq)
theorem closure_cells {scope : Scope} {env : Env} (f : Str → Addr) (hf : ∀ p ∈ scope.names, p.2 = .free → env.cells.lookup p.1 = some (f p.1)) : closureFor scope env = pure (closureOf f scope.names []) := by
  have : ∀ (l : List (Str × NameKind)) (acc : List (Str × Addr)), (∀ p ∈ l, p.2 = .free → env.cells.lookup p.1 = some (f p.1)) → (forIn l acc fun (x : Str × NameKind) r => (if (x.2 == NameKind.free) = true then do let a ← cellOf env x.1; pure (ForInStep.yield ((x.1, a) :: r)) else pure (ForInStep.yield r) : Sem (ForInStep (List (Str × Addr))))) = (pure (closureOf f l acc) : Sem (List (Str × Addr))) := by
    intro l
    induction l with
    | nil => intro acc _; rfl
    | cons p l ih =>
      intro acc h
      obtain ⟨n, k⟩ := p
      unfold closureOf
      by_cases hk : k = .free
      · have hc := h (n, k) (List.mem_cons_self ..) hk
        have hp : (k == NameKind.free) = true := by simpa using hk
        rw [List.forIn_cons]
        simp only [hp, if_true]
        have e : cellOf env n = pure (f n) := by
          unfold cellOf
          simp only at hc
          rw [hc]
        rw [e]
        exact ih _ fun q hq => h q (List.mem_cons_of_mem _ hq)
      · have hp : (k == NameKind.free) = false := by simpa using hk
        rw [List.forIn_cons]
        simp only [hp, Bool.false_eq_true, if_false]
        exact ih _ fun q hq => h q (List.mem_cons_of_mem _ hq)
  unfold closureFor
  exact (congrArg (fun x => x >>= fun cs => pure cs) (this scope.names [] hf))
theorem comp_cell {scope : Scope} {cl : List (Str × Addr)} {y x : Str} {C : Addr} (h : scope.names.lookup x = some .free) (hk : F.env.scope.kind = .function) (hx : F.env.kindOf x = some .cell) : (F.comp scope cl y C).env.kindOf x = some .cell := by
  show (scope.names.map fun (n, k) => if (k == NameKind.free && F.env.scope.kind == .function && F.env.kindOf n == some .cell) then (n, NameKind.cell) else (n, k)).lookup x = some .cell
  generalize scope.names = names at h
  induction names with
  | nil => cases h
  | cons p r ih =>
    obtain ⟨n, k'⟩ := p
    rw [List.lookup_cons] at h
    simp only [List.map_cons]
    by_cases e : x = n
    · subst e
      simp only [beq_self_eq_true, Option.some.injEq] at h
      subst h
      simp [hk, hx]
    · have e' : (x == n) = false := by simpa using e
      rw [e'] at h
      split
      · rw [List.lookup_cons, e']; exact ih h
      · rw [List.lookup_cons, e']; exact ih h
/-- z = [elt for y in ..] where cells are caught -/
theorem Ex.setCompC (i : Nat) {elt iter : Expr} {y z : Str} {py pz : Pos} {ifs : List Expr} {scope : Scope} {pos spos : Pos} {ds rs : List PyData} {rest : List Stmt} {out : Out} (f : Str → Addr) (hzi : F.ns[i]? = some z) (hi : It F ρ (.Name y py) iter ds) (T : CompT F scope (closureOf f scope.names []) y ifs elt ds rs)
    (hf : ∀ p ∈ scope.names, p.2 = .free → F.env.cells.lookup p.1 = some (f p.1)) (hcl : ∀ c ∈ F.cl, (c.1, NameKind.free) ∈ scope.names ∧ f c.1 = c.2.1)
    (hsw : (F.env.blockKind == .function && F.env.kindOf z == some .local && pz.line == pos.line && !(scope.names.any fun (n, k) => n == z && (k == .local || k == .cell))) = true)
    (hpl : (Expr.ListComp elt [⟨.Name y py, iter, ifs, 0⟩] scope pos).pos.line = pos.line)
    (hsc : (scope.names.all fun (n, k) => k != .cell && (k != .local || decide (scope.names.lookup n = some .local))) = true) (hkind : scope.kind = .function) (hy : scope.names.lookup y = some .local) (hyd : (y == ("__debug__" : Str)) = false)
    (hsz : ds.length ≤ sizeLine) (hs : ∀ x, foldedSetIterable iter F.env x = pure x) (k : Ex F (ρ.set i (some (.own (.list rs)))) rest out) :
    Ex F ρ (.Assign [.Name z pz] (.ListComp elt [⟨.Name y py, iter, ifs, 0⟩] scope pos) spos :: rest) out := by
  have hall := List.all_eq_true.mp hsc
  refine Ex.cons (Ex1.assignComp i hzi hi T ?_ (closure_cells f hf) (fun x hx e => ?_) hkind (fun x hx e => ?_) hy hyd hsz (fun c hc => ?_) hs) k
  · show (pure (F.env.blockKind == .function && F.env.kindOf z == some .local && pz.line == (Expr.ListComp elt [⟨.Name y py, iter, ifs, 0⟩] scope pos).pos.line && !(scope.names.any fun (n, k) => n == z && (k == .local || k == .cell))) : Sem Bool) = pure true
    rw [hpl, hsw]
  · have := hall x hx
    simp [e] at this
  · have := hall x hx
    simp only [e, Bool.and_eq_true, Bool.or_eq_true, decide_eq_true_eq] at this
    rcases this.2 with h | h
    · exact absurd h (by decide)
    · exact h
  · obtain ⟨h1, h2⟩ := hcl c hc
    rw [closureOf_lookup f _ _ h1, h2]
end
/-- rows laid one after the other, all new -/
noncomputable def NewRows (h0 : Heap) (C D : Addr) (wr : List Addr) (h : Heap) (ys : Array Value) (rows : List (List Int)) : Prop :=
  ∃ as : List Addr, ys.toList = as.map Value.ref ∧ as.Nodup ∧ (∀ a ∈ as, h0.get? a = none ∧ a ≠ C ∧ a ≠ D ∧ a ∉ wr) ∧ as.length = rows.length ∧ ∀ (k : Nat) (r : List Int), rows[k]? = some r → ∃ b, as[k]? = some b ∧ RowAt h b r
theorem RowAt.keep {h h' : Heap} {b : Addr} {r : List Int} (x : RowAt h b r) (hk : ∀ o, h.get? b = some o → h'.get? b = some o) : RowAt h' b r := by
  obtain ⟨us, n, e, e2⟩ := x
  exact ⟨us, n, hk _ e, e2⟩
theorem NewRows.mono {h0 h h' : Heap} {C D : Addr} {wr : List Addr} {ys : Array Value} {rows : List (List Int)} (x : NewRows h0 C D wr h ys rows) (hk : ∀ a, h0.get? a = none → a ≠ C → a ≠ D → a ∉ wr → ∀ o, h.get? a = some o → h'.get? a = some o) : NewRows h0 C D wr h' ys rows := by
  obtain ⟨as, h1, h2, h3, h4, h5⟩ := x
  refine ⟨as, h1, h2, h3, h4, fun k r e => ?_⟩
  obtain ⟨b, hb, hr⟩ := h5 k r e
  obtain ⟨k1, k2, k3, k4⟩ := h3 b (List.mem_of_getElem? hb)
  exact ⟨b, hb, hr.keep (hk b k1 k2 k3 k4)⟩
theorem NewRows.live {h0 h : Heap} {C D : Addr} {wr : List Addr} {ys : Array Value} {rows : List (List Int)} (x : NewRows h0 C D wr h ys rows) {a : Addr} (ha : Value.ref a ∈ ys.toList) : ∃ o, h.get? a = some o := by
  obtain ⟨as, h1, h2, h3, h4, h5⟩ := x
  rw [h1] at ha
  obtain ⟨b, hb, e⟩ := List.mem_map.mp ha
  cases e
  obtain ⟨k, hk, e⟩ := List.mem_iff_getElem.mp hb
  obtain ⟨b', hb', us, n, e1, _⟩ := h5 k _ (List.getElem?_eq_getElem (by omega))
  rw [List.getElem?_eq_getElem hk, e] at hb'
  cases hb'
  exact ⟨_, e1⟩
theorem NewRows.push {h0 h : Heap} {C D : Addr} {wr : List Addr} {ys : Array Value} {rows : List (List Int)} {r : List Int} (x : NewRows h0 C D wr h ys rows) {a : Addr} (ha : Value.ref a ∉ ys.toList) (h1 : h0.get? a = none) (h2 : a ≠ C) (h3 : a ≠ D) (h4 : a ∉ wr) (hr : RowAt h a r) :
    NewRows h0 C D wr h (ys.push (.ref a)) (rows ++ [r]) := by
  obtain ⟨as, g1, g2, g3, g4, g5⟩ := x
  refine ⟨as ++ [a], by rw [Array.toList_push, g1, List.map_append]; rfl, ?_, fun b hb => ?_, by simp [g4], fun k r' e => ?_⟩
  · rw [List.nodup_append]
    refine ⟨g2, by simp, fun b hb c hc e => ?_⟩
    simp at hc; subst hc
    exact ha (by rw [g1]; exact List.mem_map.mpr ⟨b, hb, by rw [e]⟩)
  · rcases List.mem_append.mp hb with hb | hb
    · exact g3 b hb
    · simp at hb; subst hb; exact ⟨h1, h2, h3, h4⟩
  · by_cases hk : k < rows.length
    · rw [List.getElem?_append_left hk] at e
      obtain ⟨b, hb, hr'⟩ := g5 k r' e
      exact ⟨b, by rw [List.getElem?_append_left (by omega)]; exact hb, hr'⟩
    · have hk' : k = rows.length := by
        have := (List.getElem?_eq_some_iff.mp e).1
        simp at this; omega
      subst hk'
      simp at e; subst e
      exact ⟨a, by rw [← g4]; simp, hr⟩
theorem rowAt_own {F : Fx} {mu : Addr → Prop} {h : Heap} {a : Addr} {r : List Int} (x : OwnR F mu h a (.list (r.map .int))) : RowAt h a r := by
  obtain ⟨us, n, e, hr⟩ := x
  have hl := hr.length
  simp only [Array.length_toList, List.length_map] at hl
  refine ⟨us, n, e, hl, fun j i hj => ?_⟩
  obtain ⟨v, hv, rv⟩ := hr.get (i := j) (d := .int i) (by rw [List.getElem?_map, hj]; rfl)
  obtain ⟨t, rfl⟩ := rv.int_inv
  exact ⟨t, by simpa using hv⟩

section
variable {F : Fx} {P : Prot} {ρ : List (Option AV)} {mu : Addr → Prop} {m : Str → Option Value} {s s' : Shared}
theorem comp_loopN {elt iter : Expr} {y : Str} {py : Pos} {scope : Scope} {cl : List (Str × Addr)} {pos : Pos} {I C D : Addr} {fp wr : List Addr} {ds : List PyData} {r : List Int} {gh : List (Value × PyData)} {Sti : Nat → Heap → Prop}
    (W : Iter F (.Name y py) I fp wr ds gh Sti) (x : St F P ρ mu m s) (hnew : ∀ b ∈ wr, s.heap.get? b = none) (hC : s.heap.get? C = none) (hD : s.heap.get? D = none) (hCD : C ≠ D) (hCf : C ∉ fp) (hDf : D ∉ fp)
    (hgh : ∀ p ∈ gh, Rep F.prog F.w mu s.heap p.1 p.2) (hkind : scope.kind = .function) (hy : scope.names.lookup y = some .local) (hyd : (y == ("__debug__" : Str)) = false) (hsz : ds.length ≤ sizeLine)
    (hcl : ∀ c ∈ F.cl, cl.lookup c.1 = some c.2.1) {R : Result → Shared → Prop}
    (hT : ∀ d ∈ ds, ∀ C, EvNew (F.comp scope cl y C) [some (.dat d)] elt (.list (r.map .int)))
    (hR : ∀ s' m' ys n, Go s s' → s'.heap.Ns C m' → s'.heap.get? D = some (listObj ys n) → NewRows s.heap C D wr s'.heap ys (List.replicate ds.length r) → R (.ok .next) s') :
    ∀ (j k : Nat) (m₁ : Str → Option Value) (ys : Array Value) (n : Nat) (s₁ : Shared), k + j = ds.length → ys.size = k →
      Go s s₁ → s₁.heap.Ns C m₁ → s₁.heap.get? D = some (listObj ys n) → NewRows s.heap C D wr s₁.heap ys (List.replicate k r) → Sti k s₁.heap →
      codeAny (model F.prog F.w) F.A (.compLoop (.ListComp elt [⟨.Name y py, iter, [], 0⟩] scope pos) 0 (.ref I) (.ref D) (compEnvC scope cl C F.env)) R s₁ := by
  have hmuC : compMu mu wr C D C := .inl (.inr rfl)
  have hfrC : ∀ b o, s.heap.get? b = some o → b ≠ C ∧ b ≠ D ∧ b ∉ wr := fun b o e => ⟨fun h => (by rw [h, hC] at e; cases e), fun h => (by rw [h, hD] at e; cases e), fun h => (by rw [hnew b h] at e; cases e)⟩
  -- the state in which an element is reckoned
  have mk : ∀ (s₂ : Shared) (m₂ : Str → Option Value) (v : Value) (d : PyData), Go s s₂ → s₂.heap.Ns C m₂ → m₂ y = some v → Rep F.prog F.w (compMu mu wr C D) s₂.heap v d → (∀ b ∈ wr, ∃ o, s₂.heap.get? b = some o) → (∃ o, s₂.heap.get? D = some o) →
      St (F.comp scope cl y C) { pin := P.pin, mu0 := fun _ => False, gh := [] } [some (.dat d)] (compMu mu wr C D) m₂ s₂ := by
    intro s₂ m₂ v d g hn hm hr hlw hlD
    have hk : ∀ b o, ¬ mu b → s.heap.get? b = some o → s₂.heap.get? b = some o ∧ ¬ compMu mu wr C D b := fun b o hmb e => by
      obtain ⟨h1, h2, h3⟩ := hfrC b o e
      exact ⟨g.heap b o e, fun h => by rcases h with ((h | h) | h) | h <;> first | exact hmb h | exact h3 h | exact h1 h | exact h2 h⟩
    have hok : OkF (F.comp scope cl y C) := ⟨hkind, by simp [Fx.comp], fun z hz => by
        simp [Fx.comp] at hz; subst hz
        exact lookup_relabel_local hy, fun z hz => (by simp [Fx.comp] at hz; subst hz; exact hyd), x.ok.handled, x.ok.units, x.ok.depth, x.ok.globals, x.ok.builtins, x.ok.T⟩
    refine ⟨hok, hn, hmuC, fun a ha => ha.elim, fun a ha => ?_, fun a ha => ?_, fun b o e => g.heap _ _ (x.keep b o e), x.top, ?_, fun i z av h1 h2 => ?_, fun i j z z' d1 d2 h1 h2 h3 h4 h5 => ?_, fun p hp => (by cases hp), fun c hc => ?_, g.gens.trans x.gens, g.os.trans x.os⟩
    · rcases ha with ((ha | ha) | rfl) | rfl
      · exact x.muT a ha
      · exact x.topNone (hnew a ha)
      · exact x.topNone hC
      · exact x.topNone hD
    · rcases ha with ((ha | ha) | rfl) | rfl
      · obtain ⟨o, ho⟩ := x.alive a ha; exact ⟨o, g.heap _ _ ho⟩
      · exact hlw a ha
      · obtain ⟨o, _, _, ho, _⟩ := hn; exact ⟨o, ho⟩
      · exact hlD
    · show P.pin C = none
      cases q : P.pin C with
      | none => rfl
      | some o => have := x.keep _ _ q; rw [hC] at this; cases this
    · cases i with
      | zero =>
        have h1' : z = y := by simpa [Fx.comp] using h1.symm
        subst h1'
        simp at h2; subst h2
        exact ⟨v, hm, hr⟩
      | succ i => simp [Fx.comp] at h1
    · cases i with
      | zero => simp at h3
      | succ i => simp [Fx.comp] at h1
    · obtain ⟨k1, k2, k3⟩ := x.cells c hc
      exact ⟨hcl c hc, k2, k3.mono hk⟩
  intro j
  induction j with
  | zero =>
    intro k m₁ ys n s₁ hk hyk g hn hDl hr hst
    have hke : k = ds.length := by omega
    subst hke
    refine codeAny_of_tree ?_
    show wpAny _ F.A ((compTurn (.ListComp elt [⟨.Name y py, iter, [], 0⟩] scope pos) 0 (.ref I) (.ref D) (compEnvC scope cl C F.env)).onRaise (fun x => do noteFrame x (compEnvC scope cl C F.env); theTreesLotGoes x)) _ _ s₁
    refine wpAny_noted ?_
    rw [compTurn_list]
    refine wpAny_bind (wpAny_standAt (wpAny_bind (wpAny_mono (W.done s₁ hst) (fun r s₂ ⟨e, g2⟩ => ?_) fun _ _ h => h.elim)))
    subst e
    refine wpAny_pure ?_
    have hCw : C ∉ wr := fun h => hCf (W.sub _ h)
    have hDw : D ∉ wr := fun h => hDf (W.sub _ h)
    refine hR s₂ m₁ ys n ⟨fun b o e => g2.heap b o (hfrC b o e).2.2 (g.heap b o e), g2.gens.trans g.gens, g2.os.trans g.os⟩ (hn.at' fun o e => g2.heap _ o hCw e) (g2.heap _ _ hDw hDl) ?_
    exact hr.mono fun a _ _ _ ha o e => g2.heap a o ha e
  | succ j ih =>
    intro k m₁ ys n s₁ hk hyk g hn hDl hr hst
    have hkl' : k < ds.length := by omega
    obtain ⟨d, hkd⟩ : ∃ d, ds[k]? = some d := ⟨_, List.getElem?_eq_getElem hkl'⟩
    have hCw : C ∉ wr := fun h => hCf (W.sub _ h)
    have hDw : D ∉ wr := fun h => hDf (W.sub _ h)
    have hk0 : ∀ b o, ¬ mu b → s.heap.get? b = some o → s₁.heap.get? b = some o ∧ ¬ compMu mu wr C D b := fun b o hmb e => by
      obtain ⟨h1, h2, h3⟩ := hfrC b o e
      exact ⟨g.heap b o e, fun h => by rcases h with ((h | h) | h) | h <;> first | exact hmb h | exact h3 h | exact h1 h | exact h2 h⟩
    have hal : ∀ a, compMu mu wr C D a → ∃ o, s₁.heap.get? a = some o := fun a ha => by
      rcases ha with ((ha | ha) | rfl) | rfl
      · obtain ⟨o, ho⟩ := x.alive a ha; exact ⟨o, g.heap _ _ ho⟩
      · exact W.live _ _ hst a (W.sub a ha)
      · obtain ⟨o, _, _, ho, _⟩ := hn; exact ⟨o, ho⟩
      · exact ⟨_, hDl⟩
    refine codeAny_of_tree ?_
    show wpAny _ F.A ((compTurn (.ListComp elt [⟨.Name y py, iter, [], 0⟩] scope pos) 0 (.ref I) (.ref D) (compEnvC scope cl C F.env)).onRaise (fun x => do noteFrame x (compEnvC scope cl C F.env); theTreesLotGoes x)) _ _ s₁
    refine wpAny_noted ?_
    rw [compTurn_list]
    refine wpAny_bind (wpAny_standAt (wpAny_bind (wpAny_mono (W.item k d s₁ (compMu mu wr C D) hkd hst (fun p hp => (hgh p hp).mono hk0) (fun b hb => .inl (.inl (.inr hb))) hal) (fun q s₂ ⟨v, e, hlet⟩ => ?_) fun _ _ h => h.elim)))
    subst e
    refine wpAny_bind (wpAny_mono hlet (fun _ s₃ ⟨g3, hst₃, rv⟩ => ?_) fun _ _ h => h.elim)
    have g3' : Go s s₃ := ⟨fun b o e => g3.heap b o (hfrC b o e).2.2 (g.heap b o e), g3.gens.trans g.gens, g3.os.trans g.os⟩
    have hk3 : ∀ b o, ¬ compMu mu wr C D b → s₁.heap.get? b = some o → s₃.heap.get? b = some o ∧ ¬ compMu mu wr C D b := fun b o hm e => ⟨g3.heap b o (fun hb => hm (.inl (.inl (.inr hb)))) e, hm⟩
    refine wpAny_bind (wpAny_assign_Name (wpAny_storeName_local (env := compEnvC scope cl C F.env) (lookup_relabel_local hy) (hn.at' fun o e => g3.heap _ o hCw e) (fun h₄ hn₄ hs₄ => ?_) (by simp [compEnvC, relabel, hkind])))
    have hfr4 : ∀ b o, b ≠ C → s₃.heap.get? b = some o → h₄.get? b = some o := fun b o hb e => (hs₄.2 b hb).trans e
    have g4 : Go s { s₃ with heap := h₄, toks := s₃.toks + 1 } := ⟨fun b o e => hfr4 b o (hfrC b o e).1 (g3'.heap b o e), g3'.gens, g3'.os⟩
    have hk4 : ∀ b o, ¬ compMu mu wr C D b → s₃.heap.get? b = some o → h₄.get? b = some o ∧ ¬ compMu mu wr C D b := fun b o hm e => ⟨hfr4 b o (fun h => hm (h ▸ hmuC)) e, hm⟩
    have hst₄ : Sti (k + 1) h₄ := W.frame _ _ _ hst₃ fun b hb o e => hfr4 b o (fun h => hCf (h ▸ hb)) e
    have hD4 : h₄.get? D = some (listObj ys n) := hfr4 _ _ (Ne.symm hCD) (g3.heap _ _ hDw hDl)
    have x₄ := mk _ _ v d g4 hn₄ (by simp) (rv.mono hk4) (fun b hb => W.live _ _ hst₄ b (W.sub b hb)) ⟨_, hD4⟩
    refine wpAny_bind (wpAny_mono (trI_wp (ifs := []) (b := true) rfl x₄) (fun ok s₅ ⟨g5, e⟩ => ?_) fun _ _ h => h)
    subst e
    simp only [if_true]
    refine wpAny_bind (wpAny_bind (wpAny_mono ((hT d (List.mem_of_getElem? hkd) C).run _ _ _ _ (x₄.keeps g5)) (fun rv s₆ ⟨g6, a, ea, ha, hown⟩ => ?_) fun _ _ h => h.elim))
    subst ea
    have g56 := g5.trans g6
    have hD5 := g5.heap _ _ hD4
    have haD : a ≠ D := fun e => by rw [e] at ha; rw [show s₅.heap.get? D = none from ha] at hD5; cases hD5
    have haC : a ≠ C := fun e => by obtain ⟨o, _, _, ho, _⟩ := hn₄; have h5 : s₅.heap.get? C = some o := g5.heap _ _ ho; rw [e, h5] at ha; cases ha
    have haw : a ∉ wr := fun hb => by obtain ⟨o, ho⟩ := W.live _ _ hst₄ a (W.sub a hb); rw [g5.heap _ _ ho] at ha; cases ha
    have has : s.heap.get? a = none := (g4.trans g5).fresh ha
    have hr4 : NewRows s.heap C D wr s₅.heap ys (List.replicate k r) := hr.mono fun b k1 k2 k3 k4 o e => g5.heap b o (hfr4 b o k2 (g3.heap b o k4 e))
    have hay : Value.ref a ∉ ys.toList := fun h => by obtain ⟨o, ho⟩ := hr4.live h; rw [ha] at ho; cases ho
    refine wpAny_bind (list_append_exact (g56.heap _ _ hD4) (by omega) fun h₇ n' hl₇ hs₇ => wpAny_pure (wpAny_pure ⟨rfl, ?_⟩))
    have g7 : Go s { s₆ with heap := h₇ } := ⟨fun b o e => hs₇.extBut b o (hfrC b o e).2.1 (g56.heap b o (g4.heap b o e)), g56.gens.trans g4.gens, g56.os.trans g4.os⟩
    refine ih (k + 1) _ (ys.push (.ref a)) n' { s₆ with heap := h₇ } (by omega) (by rw [Array.size_push]; omega) g7 ((hn₄.keeps g56.heap).sameBut hs₇ hCD) hl₇ ?_ (W.frame _ _ _ hst₄ fun b hb o e => hs₇.extBut b o (fun h => hDf (h ▸ hb)) (g56.heap b o e))
    rw [List.replicate_succ']
    exact (hr4.mono fun b k1 k2 k3 k4 o e => hs₇.extBut b o k3 (g6.heap b o e)).push hay has haC haD haw ((rowAt_own hown).keep fun o e => hs₇.extBut a o haD e)
theorem comp_blockN {elt iter : Expr} {y : Str} {py : Pos} {scope : Scope} {cl : List (Str × Addr)} {pos : Pos} {I : Addr} {fp wr : List Addr} {ds : List PyData} {r : List Int} {gh : List (Value × PyData)} {Sti : Nat → Heap → Prop} {s₁ : Shared} {E : Value → Shared → Prop}
    (W : Iter F (.Name y py) I fp wr ds gh Sti) (x : St F P ρ mu m s) (g : Go s s₁) (hnew : ∀ b ∈ wr, s.heap.get? b = none) (hst : Sti 0 s₁.heap)
    (hgh : ∀ p ∈ gh, Rep F.prog F.w mu s.heap p.1 p.2) (hcell : ∀ z ∈ scope.names, z.2 ≠ .cell) (hkind : scope.kind = .function) (hy : scope.names.lookup y = some .local) (hyd : (y == ("__debug__" : Str)) = false) (hsz : ds.length ≤ sizeLine)
    (hcl : ∀ c ∈ F.cl, cl.lookup c.1 = some c.2.1) (hT : ∀ d ∈ ds, ∀ C, EvNew (F.comp scope cl y C) [some (.dat d)] elt (.list (r.map .int))) {RR : Value → Addr → Result → Shared → Prop}
    (hRR : ∀ C D s' m' ys n, s.heap.get? C = none → s.heap.get? D = none → C ≠ D → Go s s' → s'.heap.Ns C m' → s'.heap.get? D = some (listObj ys n) → NewRows s.heap C D wr s'.heap ys (List.replicate ds.length r) → RR (.ref D) C (.ok .next) s') :
    wpAny (model F.prog F.w) F.A (newList []) (fun acc s₃ => wpAny (model F.prog F.w) F.A (newFunctionEnv scope F.env.globals cl [] F.env.qual none .none (some F.env)) (fun cenv s₄ =>
      codeAny (model F.prog F.w) F.A (.compStart (.ListComp elt [⟨.Name y py, iter, [], 0⟩] scope pos) 0 (.ref I) acc { cenv with scope := relabel scope F.env }) (RR acc cenv.locals) s₄) E s₃) E s₁ := by
  refine wpAny_newObj_type (wpAny_newFunctionEnv hcell (by intro z hz; simp at hz) (fun h₁ hns₁ hsb₁ => ?_) hkind)
  dsimp only at hns₁ hsb₁ ⊢
  generalize hH2 : s₁.heap.push { cls := .type "list", dict := none, data := .seq ([] : List Value).toArray } = H2 at hns₁ hsb₁ ⊢
  have hCsz : H2.objs.size = s₁.heap.objs.size + 1 := by rw [← hH2, Heap.size_push]
  have hDC : s₁.heap.objs.size ≠ H2.objs.size := by rw [hCsz]; exact Nat.ne_of_lt (Nat.lt_succ_self _)
  have fr1 : ∀ a, s₁.heap.objs.size ≤ a → s₁.heap.get? a = none := fun a ha => by
    cases e : s₁.heap.get? a with
    | none => rfl
    | some o => exact absurd (Heap.lt_size e) (Nat.not_lt.mpr ha)
  have old : ∀ b o, s₁.heap.get? b = some o → h₁.get? b = some o := fun b o e => hsb₁.extBut b o (by rw [hCsz]; exact Nat.ne_of_lt (Nat.lt_succ_of_lt (Heap.lt_size e))) (Heap.get?_push_of_some _ (hH2 ▸ Heap.get?_push_of_some _ e))
  have hD₁ : h₁.get? s₁.heap.objs.size = some (listObj #[] 0) := hsb₁.extBut _ _ hDC (Heap.get?_push_of_some _ (hH2 ▸ Heap.get?_push_size _ rfl))
  have hst₁ : Sti 0 h₁ := W.frame _ _ _ hst fun b _ o e => old b o e
  have hDn : s.heap.get? s₁.heap.objs.size = none := g.fresh (fr1 _ (Nat.le_refl _))
  have hCn : s.heap.get? H2.objs.size = none := g.fresh (fr1 _ (by rw [hCsz]; exact Nat.le_succ _))
  have hlv := W.live _ _ hst
  have hDf : s₁.heap.objs.size ∉ fp := fun h => by obtain ⟨o, ho⟩ := hlv _ h; rw [fr1 _ (Nat.le_refl _)] at ho; cases ho
  have hCf : H2.objs.size ∉ fp := fun h => by obtain ⟨o, ho⟩ := hlv _ h; rw [fr1 _ (by rw [hCsz]; exact Nat.le_succ _)] at ho; cases ho
  have loop : ∀ s₄ : Shared, s₄ = { s₁ with heap := h₁, toks := s₁.toks + ([] : List (Str × Value)).length } →
      codeAny (model F.prog F.w) F.A (.compLoop (.ListComp elt [⟨.Name y py, iter, [], 0⟩] scope pos) 0 (.ref I) (.ref s₁.heap.objs.size) (compEnvC scope cl H2.objs.size F.env)) (RR (.ref s₁.heap.objs.size) H2.objs.size) s₄ := by
    rintro s₄ rfl
    refine comp_loopN W x hnew hCn hDn (Ne.symm hDC) hCf hDf hgh hkind hy hyd hsz hcl hT (fun s' m' ys n g' hn' hD' hr' => hRR _ _ s' m' ys n hCn hDn (Ne.symm hDC) g' hn' hD' hr') ds.length 0 _ #[] 0 _ (Nat.zero_add _) rfl ⟨fun b o e => old b o (g.heap b o e), g.gens, g.os⟩ hns₁ hD₁ ⟨[], rfl, List.nodup_nil, fun a ha => (by cases ha), rfl, fun k r e => (by simp at e)⟩ hst₁
  exact codeAny_compStart_list (loop _ rfl) (W.self 0 _ _ _ hst₁ (loop _ rfl))

/-- a name is bound to a new table -/
theorem St.storeTab {s₂ : Shared} (x : St F P ρ mu m s) {i : Nat} {y : Str} {D : Addr} {as : List Addr} {vs : Array Value} {n : Nat} {rows : List (List Int)} (hkp : ∀ b o, b ≠ F.env.locals → s.heap.get? b = some o → s₂.heap.get? b = some o) (hgens : s₂.gens = s.gens) (hos : s₂.os = s.os) (hi : F.ns[i]? = some y)
    (hnew : ∀ a ∈ D :: as, s.heap.get? a = none) (hnd : (D :: as).Nodup) (hD : s₂.heap.get? D = some (listObj vs n)) (hvs : vs.toList = as.map Value.ref) (hlive : ∀ a ∈ D :: as, ∃ o, s₂.heap.get? a = some o) (hlen : as.length = rows.length) (hrows : ∀ (k : Nat) (r : List Int), rows[k]? = some r → ∃ b, as[k]? = some b ∧ RowAt s₂.heap b r)
    (hn : s₂.heap.Ns F.env.locals (fun z => if z = y then some (.ref D) else m z)) :
    St F P (ρ.set i (some (.tab rows))) (fun b => mu b ∨ b ∈ D :: as) (fun z => if z = y then some (.ref D) else m z) s₂ := by
  have hnl : ∀ a ∈ D :: as, a ≠ F.env.locals ∧ ¬ mu a ∧ P.pin a = none := fun a ha => by
    have h0 := hnew a ha
    refine ⟨fun e => (by obtain ⟨o, ho⟩ := x.alive _ x.muL; rw [← e, h0] at ho; cases ho), fun e => (by obtain ⟨o, ho⟩ := x.alive _ e; rw [h0] at ho; cases ho), ?_⟩
    cases hp : P.pin a with
    | none => rfl
    | some o => have := x.keep _ _ hp; rw [h0] at this; cases this
  have hk : ∀ b o, ¬ mu b → s.heap.get? b = some o → s₂.heap.get? b = some o ∧ ¬ (mu b ∨ b ∈ D :: as) := fun b o hm e =>
    ⟨hkp b o (fun hb => hm (hb ▸ x.muL)) e, fun h => h.elim hm fun e' => by rw [hnew b e'] at e; cases e⟩
  refine ⟨x.ok, hn, .inl x.muL, fun b hb => .inl (x.mu0 b hb), fun b hb => hb.elim (x.muT b) (fun e => x.topNone (hnew b e)), fun b hb => ?_, fun b o e => ?_, x.top, x.pinL, fun j z av h1 h2 => ?_, fun j l z z' d1 d2 h1 h2 h3 h4 h5 => ?_, fun p hp => (x.ghost p hp).mono hk, fun c hc => ?_, hgens.trans x.gens, hos.trans x.os⟩
  · by_cases e : b = F.env.locals
    · subst e; obtain ⟨o, _, _, ho, _⟩ := hn; exact ⟨o, ho⟩
    · rcases hb with hb | hb
      · obtain ⟨o, ho⟩ := x.alive b hb; exact ⟨o, hkp b o e ho⟩
      · exact hlive b hb
  · exact hkp b o (fun hb => by rw [hb, x.pinL] at e; cases e) (x.keep b o e)
  · rcases set_get h2 with ⟨rfl, e⟩ | ⟨hne, h2⟩
    · rw [hi] at h1; cases h1; cases e
      exact ⟨.ref D, by simp, D, rfl, as, vs, n, hD, hvs, hnd, fun b hb => ⟨.inr hb, fun e => (hnl b hb).2.1 (x.mu0 b e), (hnl b hb).2.2, (hnl b hb).1⟩, hlen, hrows⟩
    · have hzy : z ≠ y := fun e => hne (ns_inj x.ok h1 (e ▸ hi))
      obtain ⟨u, hu, hav⟩ := x.vars j z av h1 h2
      refine ⟨u, by simp [hzy, hu], ?_⟩
      cases av with
      | dat d' => exact Rep.mono hk hav
      | own d' =>
        obtain ⟨b, e, g1, g0, g2, g3, g4⟩ := hav
        exact ⟨b, e, .inl g1, g0, g2, g3, g4.mono hk fun o e => hkp b o g3 e⟩
      | tab rows =>
        obtain ⟨a, e, h1⟩ := hav
        exact ⟨a, e, h1.mono fun b g1 g2 g3 g4 => ⟨fun o e => hkp b o g4 e, .inl g1, g2, g3⟩⟩
  · rcases set_get h3 with ⟨rfl, e⟩ | ⟨hne, k3⟩
    · cases e
    · rcases set_get h4 with ⟨rfl, e⟩ | ⟨hne', k4⟩
      · cases e
      · have hzy : z ≠ y := fun e => hne (ns_inj x.ok h1 (e ▸ hi))
        have hzy' : z' ≠ y := fun e => hne' (ns_inj x.ok h2 (e ▸ hi))
        simp only [hzy, hzy', if_false] at h5
        exact x.apart j l z z' d1 d2 h1 h2 k3 k4 h5
  · obtain ⟨g1, g2, g3⟩ := x.cells c hc
    exact ⟨g1, g2, g3.mono hk⟩

theorem Ex1.assignTab (i : Nat) {elt iter : Expr} {y z : Str} {py pz : Pos} {scope : Scope} {cl : List (Str × Addr)} {pos spos : Pos} {ds : List PyData} {r : List Int} (hzi : F.ns[i]? = some z) (hi : It F ρ (.Name y py) iter ds) (hT : ∀ d ∈ ds, ∀ C, EvNew (F.comp scope cl y C) [some (.dat d)] elt (.list (r.map .int)))
    (hsw : swapsWith (.ListComp elt [⟨.Name y py, iter, [], 0⟩] scope pos) (some (.Name z pz)) spos.line F.env = pure true)
    (hclos : closureFor scope F.env = pure cl) (hcell : ∀ z ∈ scope.names, z.2 ≠ .cell) (hkind : scope.kind = .function) (hnames : ∀ z ∈ scope.names, z.2 = .local → scope.names.lookup z.1 = some .local) (hy : scope.names.lookup y = some .local) (hyd : (y == ("__debug__" : Str)) = false)
    (hsz : ds.length ≤ sizeLine) (hcl : ∀ c ∈ F.cl, cl.lookup c.1 = some c.2.1) (hs : ∀ x, foldedSetIterable iter F.env x = pure x) :
    Ex1 F ρ (.Assign [.Name z pz] (.ListComp elt [⟨.Name y py, iter, [], 0⟩] scope pos) spos) (.next (ρ.set i (some (.tab (List.replicate ds.length r))))) := .of fun P mu m s x => by
  rw [exec_Assign_Name_used _ _ _ _ hsw]
  refine wpAny_bind (wpAny_standAt (wpAny_bind ?_))
  show wpAny _ F.A (do let _ ← comprehension (.ListComp elt [⟨.Name y py, iter, [], 0⟩] scope pos) scope F.env _ (newList []) false (eval iter F.env) (some (PySem.assign (.Name z pz) F.env))) _ _ s
  refine wpAny_bind (wpAny_mono (wpAny_comprehension_free (use := some (PySem.assign (.Name z pz) F.env)) (Q := fun _ s' => OutR F P (.next (ρ.set i (some (.tab (List.replicate ds.length r))))) .next s') rfl hs hclos hkind hnames
    (wpAny_mono (hi.run P mu m s x) (fun v s₀ h => wpAny_mono h (fun it s₁ ⟨s', I, fp, wr, gh, Sti, e, W, g, g', hnew, hfm, hgh, hst⟩ => ?_) fun _ _ h => h) fun _ _ h => h)) (fun _ s' hq => wpAny_pure (wpAny_pure hq)) fun _ _ h => h)
  subst e
  have x' := x.keeps g
  refine comp_blockN (RR := fun acc C => compPost (model F.prog F.w) F.A (fun _ _ => False) (some (PySem.assign (.Name z pz) F.env)) (fun _ s' => OutR F P (.next (ρ.set i (some (.tab (List.replicate ds.length r))))) .next s') acc C) W x' g' hnew hst hgh hcell hkind hy hyd hsz hcl hT fun C D s₅ m' ys n hC hD hCD g5 hn5 hD5 hr5 => ?_
  have x5 := x'.keeps g5
  have hLC : F.env.locals ≠ C := fun e => by obtain ⟨o, ho⟩ := x'.alive _ x'.muL; rw [e, hC] at ho; cases ho
  have hLD : F.env.locals ≠ D := fun e => by obtain ⟨o, ho⟩ := x'.alive _ x'.muL; rw [e, hD] at ho; cases ho
  show wpAny _ F.A (PySem.assign (.Name z pz) F.env (.ref D)) _ _ _
  refine wpAny_assign_Name (wpAny_storeName_local (x.local hzi) x5.ns (fun h₆ hn₆ hs₆ => ?_) x.plainEnv)
  refine ⟨m', hn5.sameBut hs₆ (Ne.symm hLC), fun h₇ hs₇ => ?_⟩
  have key : ∀ b o, b ≠ C → b ≠ F.env.locals → s₅.heap.get? b = some o → h₇.get? b = some o := fun b o h1 h2 e => hs₇.extBut b o h1 (hs₆.extBut b o h2 e)
  obtain ⟨as, r1, r2, r3, r4, r5⟩ := hr5
  refine ⟨rfl, fun b => mu b ∨ b ∈ D :: as, fun x => if x = z then some (.ref D) else m x, ?_⟩
  have hasL : ∀ a ∈ D :: as, s'.heap.get? a = none ∧ a ≠ C := fun a ha => by
    rcases List.mem_cons.mp ha with rfl | ha
    · exact ⟨hD, Ne.symm hCD⟩
    · exact ⟨(r3 a ha).1, (r3 a ha).2.1⟩
  refine x'.storeTab (as := as) (fun b o hb e => key b o (fun h => by rw [h, hC] at e; cases e) hb (g5.heap b o e)) g5.gens g5.os hzi (fun a ha => (hasL a ha).1) ?_ (key _ _ (Ne.symm hCD) (Ne.symm hLD) hD5) r1 ?_ r4 (fun k r' e => ?_) (hn₆.sameBut hs₇ hLC)
  · exact List.nodup_cons.mpr ⟨fun h => (r3 D h).2.2.1 rfl, r2⟩
  · intro a ha
    rcases List.mem_cons.mp ha with rfl | ha
    · exact ⟨_, key _ _ (Ne.symm hCD) (Ne.symm hLD) hD5⟩
    · obtain ⟨k, hk, e⟩ := List.mem_iff_getElem.mp ha
      obtain ⟨b, hb, us, n', e1, _⟩ := r5 k _ (List.getElem?_eq_getElem (by omega))
      rw [List.getElem?_eq_getElem hk, e] at hb
      cases hb
      exact ⟨_, key _ _ (r3 a ha).2.1 (fun h => by obtain ⟨o, ho⟩ := x'.alive _ x'.muL; rw [← h, (r3 a ha).1] at ho; cases ho) e1⟩
  · obtain ⟨b, hb, hr⟩ := r5 k r' e
    have hbm := List.mem_of_getElem? hb
    exact ⟨b, hb, hr.keep fun o e => key _ _ (r3 b hbm).2.1 (fun h => by obtain ⟨o, ho⟩ := x'.alive _ x'.muL; rw [← h, (r3 b hbm).1] at ho; cases ho) e⟩
end
section
variable {F : Fx} {P : Prot} {ρ : List (Option AV)} {mu : Addr → Prop} {m : Str → Option Value} {s s' : Shared}
theorem set_exact {h : Heap} {l : Addr} {items : Array Value} {n j : Nat} {v : Value} (ho : h.get? l = some (listObj items n)) : ∃ n', (h.update l (Obj.mapSeq (·.setIfInBounds j v))).get? l = some (listObj (items.setIfInBounds j v) n') :=
  ⟨_, Heap.get?_update_self _ ho rfl⟩
theorem set_run {prog : Program} {w : World} {A : Around} {E : Value → Shared → Prop} {l : Addr} {items : Array Value} {n : Nat} {j : Nat} {t : Tok} {v : Value} {R : PySem.Fin → Shared → Prop} (ho : s.heap.get? l = some (listObj items n)) (hj : j < items.size) {k : Int} (hk : k = j) (fit : Builtin.List.listFitsIndex k = true)
    (hR : R (.done (.ret .none)) { s with heap := s.heap.update l (Obj.mapSeq (·.setIfInBounds j v)) }) : wpAny (model prog w) A (Builtin.«list.__setitem__» ⟨[.ref l, .int k t, v], []⟩) R E s := by
  refine show wpAny _ _ (Builtin.List.listSubscript? (.int k t) >>= _) _ _ _ from wpAny_bind (wpAny_listSubscript_int fit ?_)
  subst hk
  refine show wpAny _ _ ((seqItemAt l j >>= _) >>= _) _ _ _ from wpAny_bind (wpAny_bind (wpAny_seqItemAt ho rfl (wpAny_pure ?_)))
  rw [Array.getElem?_eq_getElem hj]
  exact wpAny_bind (wpAny_setSeqItemAt ho rfl (wpAny_pure hR))
theorem list_set_exact {prog : Program} {w : World} {A : Around} {E : Value → Shared → Prop} {l : Addr} {items : Array Value} {n : Nat} {j : Nat} {t : Tok} {v : Value} {Q : Unit → Shared → Prop} (ho : s.heap.get? l = some (listObj items n)) (hj : j < items.size) (hfit : j < 2 ^ 62)
    (hQ : ∀ h' n', h'.get? l = some (listObj (items.setIfInBounds j v) n') → Heap.SameBut l s.heap h' → Q () { s with heap := h' }) : wpAny (model prog w) A (setItem (.ref l) (.int (j : Int) t) v) Q E s := by
  have hT : s.TypeIs (.ref l) "list" := ⟨_, ho, rfl⟩
  obtain ⟨n', hn'⟩ := set_exact (j := j) (v := v) ho
  have fit : Builtin.List.listFitsIndex (j : Int) = true := fitsIndex_of (Int.natCast_nonneg j) (by omega)
  clear hfit
  generalize hk : (j : Int) = k at fit ⊢
  unfold setItem
  refine wpAny_holding (wpAny_bind (wpAny_sequenceKey hT (by decide) ?_))
  refine wpAny_bind (wpAny_callSpecial?_slot (name := Str.ofString "__setitem__") hT slot_list_setitem (wpAny_call_entry slot_list_setitem hT entry_list_setitem ?_ (args_list_setitem _ _ _)))
  exact set_run ho hj hk.symm fit ⟨.none, rfl, wpAny_pure (hQ _ _ hn' (Heap.SameBut.update ..))⟩

/-- the row k of a table, as an address -/
theorem evRow (i : Nat) {y : Str} {np p1 : Pos} {e1 : Expr} {rows : List (List Int)} {r : List Int} {a : Int} (k : Nat) (hi : F.ns[i]? = some y) (hρ : ρ[i]? = some (some (.tab rows))) (h1 : Ev F ρ e1 (.int a)) (ha : a = (k : Int)) (hr : rows[k]? = some r) (hk : k < 2 ^ 62)
    (hs1 : ∀ o i, subscripted e1 false o i = operate [o, i] (getItem o i)) (x : St F P ρ mu m s) {E : Value → Shared → Prop} :
    wpAny (model F.prog F.w) F.A (eval (.Subscript (.Name y np) e1 p1) F.env) (fun v s' => Go s s' ∧ ∃ t as vs n b, m y = some (.ref t) ∧ v = .ref b ∧ s'.heap.get? t = some (listObj vs n) ∧ vs.toList = as.map Value.ref ∧ (t :: as).Nodup ∧ (∀ b ∈ t :: as, mu b ∧ ¬ P.mu0 b ∧ P.pin b = none ∧ b ≠ F.env.locals) ∧ as.length = rows.length ∧
      (∀ (k : Nat) (r : List Int), rows[k]? = some r → ∃ b, as[k]? = some b ∧ RowAt s'.heap b r) ∧ as[k]? = some b) E s := by
  subst ha
  obtain ⟨u, hu, t, rfl, as, vs, n, g1, g2, g3, g4, g5, g6⟩ := x.vars i y _ hi hρ
  refine Subscript_ (wpAny_Name (wpAny_loadName_local x.ok.kind (x.local hi) x.ns hu (wpAny_mono (h1.run P mu m s x) (fun iv s₁ ⟨ga, ra⟩ => ?_) fun _ _ h => h.elim)) (x.ok.nodbg y (List.mem_of_getElem? hi)))
  obtain ⟨tk, rfl⟩ := ra.int_inv
  obtain ⟨b, hb, hrow⟩ := g6 k r hr
  have hl : s₁.heap.IsList t vs := ⟨_, ga.heap _ _ g1, rfl, n, rfl⟩
  have hv : vs[(k : Int).toNat]? = some (.ref b) := by
    rw [Int.toNat_natCast, ← Array.getElem?_toList, g2, List.getElem?_map, hb]; rfl
  refine tail_any hl.typeIs slot_list_getitem.lookup (wpAny_getItem_list hl (by omega) (by omega) hv ⟨ga, t, as, vs, n, b, hu, rfl, ga.heap _ _ g1, g2, g3, g4, g5, fun k r e => ?_, hb⟩) (hs1 _ _)
  obtain ⟨b', hb', hr'⟩ := g6 k r e
  exact ⟨b', hb', hr'.keep fun o e => ga.heap _ _ e⟩

/-- table[e1][e2] -/
theorem Ev.tabGet (i : Nat) {y : Str} {np p1 p2 : Pos} {e1 e2 : Expr} {rows : List (List Int)} {r : List Int} {a b v : Int} (k j : Nat) (hi : F.ns[i]? = some y) (hρ : ρ[i]? = some (some (.tab rows))) (h1 : Ev F ρ e1 (.int a)) (h2 : Ev F ρ e2 (.int b)) (ha : a = (k : Int)) (hb : b = (j : Int)) (hr : rows[k]? = some r) (hv : r[j]? = some v) (hk : k < 2 ^ 62) (hj : j < 2 ^ 62)
    (hs1 : ∀ o i, subscripted e1 false o i = operate [o, i] (getItem o i)) (hs2 : ∀ o i, subscripted e2 false o i = operate [o, i] (getItem o i)) :
    Ev F ρ (.Subscript (.Subscript (.Name y np) e1 p1) e2 p2) (.int v) := .of fun P mu m s x => by
  subst hb
  refine Subscript_ (wpAny_mono (evRow i k hi hρ h1 ha hr hk hs1 x) (fun o s₁ ⟨g1, t, as, vs, n, b, hm, e, ht, hvs, hnd, hgood, hlen, hrows, hb⟩ => ?_) fun _ _ h => h)
  subst e
  refine wpAny_mono (h2.run P mu m s₁ (x.keeps g1)) (fun iv s₂ ⟨g2, r2⟩ => ?_) fun _ _ h => h
  obtain ⟨tk, rfl⟩ := r2.int_inv
  obtain ⟨b', hb', us, n', hus, hsz, hget⟩ := hrows k r hr
  rw [hb] at hb'; cases hb'
  obtain ⟨tv, htv⟩ := hget j v hv
  have hl : s₂.heap.IsList b us := ⟨_, g2.heap _ _ hus, rfl, n', rfl⟩
  exact tail_any hl.typeIs slot_list_getitem.lookup (wpAny_getItem_list hl (by omega) (by omega) (by rw [Int.toNat_natCast]; exact htv) ⟨g1.trans g2, .int _ _⟩) (hs2 _ _)

theorem noOwn_set : ∀ {ρ : List (Option AV)} {i : Nat}, noOwn (ρ.set i none) = true → ∀ {j : Nat} {av : AV}, j ≠ i → ρ[j]? = some (some av) → ∃ d, av = .dat d := fun {ρ i} h {j av} hj e =>
  noOwn_get h (i := j) (by rw [List.getElem?_set_ne (Ne.symm hj)]; exact e)

/-- table[e1][e2] = v -/
theorem Ex1.tabSet (i : Nat) {y : Str} {np p1 p2 pos : Pos} {e1 e2 ev : Expr} {rows : List (List Int)} {r : List Int} {a b v : Int} (k j : Nat) (hi : F.ns[i]? = some y) (hρ : ρ[i]? = some (some (.tab rows))) (h0 : Ev F ρ ev (.int v)) (h1 : Ev F ρ e1 (.int a)) (h2 : Ev F ρ e2 (.int b)) (ha : a = (k : Int)) (hb : b = (j : Int)) (hr : rows[k]? = some r) (hj : j < r.length) (hk : k < 2 ^ 62) (hj' : j < 2 ^ 62)
    (hs1 : ∀ o i, subscripted e1 false o i = operate [o, i] (getItem o i)) (hs : swapsWith ev (some (.Subscript (.Subscript (.Name y np) e1 p1) e2 p2)) pos.line F.env = pure false) (hno : noOwn (ρ.set i none) = true) :
    Ex1 F ρ (.Assign [.Subscript (.Subscript (.Name y np) e1 p1) e2 p2] ev pos) (.next (ρ.set i (some (.tab (rows.set k (r.set j v)))))) := .of fun P mu m s x => by
  subst hb
  refine wpAny_Assign_Subscript (wpAny_mono (h0.run P mu m s x) (fun v' s₀ ⟨g0, r0⟩ => ?_) fun _ _ h => h) hs
  obtain ⟨t0, rfl⟩ := r0.int_inv
  have x₀ := x.keeps g0
  refine wpAny_mono (evRow i k hi hρ h1 ha hr hk hs1 x₀) (fun o s₁ ⟨g1, t, as, vs, n, b, hm, e, ht, hvs, hnd, hgood, hlen, hrows, hb⟩ => ?_) fun _ _ h => h
  subst e
  have x₁ := x₀.keeps g1
  refine wpAny_mono (h2.run P mu m s₁ x₁) (fun iv s₂ ⟨g2, r2⟩ => ?_) fun _ _ h => h
  obtain ⟨tk, rfl⟩ := r2.int_inv
  have x₂ := x₁.keeps g2
  obtain ⟨b', hb', us, n', hus, hsz, hget⟩ := hrows k r hr
  rw [hb] at hb'; cases hb'
  have hbm : b ∈ as := List.mem_of_getElem? hb
  obtain ⟨q1, q2, q3, q4⟩ := hgood b (List.mem_cons_of_mem _ hbm)
  refine list_set_exact (g2.heap _ _ hus) (by omega) hj' fun h' n'' hl' hs' => ⟨rfl, mu, m, ?_⟩
  have hk' : ∀ c o, ¬ mu c → s₂.heap.get? c = some o → h'.get? c = some o ∧ ¬ mu c := fun c o hmc e => ⟨(hs'.2 c (fun hc => hmc (hc ▸ q1))).trans e, hmc⟩
  have htb : t ≠ b := fun e => (List.nodup_cons.mp hnd).1 (e ▸ hbm)
  refine ⟨x.ok, x₂.ns.sameBut hs' (Ne.symm q4), x.muL, x.mu0, x.muT, fun c hc => ?_, fun c o e => ?_, x.top, x.pinL, fun l z av k1 k2 => ?_, fun l l' z z' d1 d2 k1 k2 k3 k4 k5 => ?_, fun p hp => (x₂.ghost p hp).mono hk', fun c hc => ?_, x₂.gens, x₂.os⟩
  · by_cases e : c = b
    · subst e; exact ⟨_, hl'⟩
    · obtain ⟨o, ho⟩ := x₂.alive c hc; exact ⟨o, (hs'.2 c e).trans ho⟩
  · exact (hs'.2 c (fun hc => by rw [hc, q3] at e; cases e)).trans (x₂.keep c o e)
  · rcases set_get k2 with ⟨rfl, e⟩ | ⟨hne, k2⟩
    · rw [hi] at k1; cases k1; cases e
      refine ⟨_, hm, t, rfl, as, vs, n, (hs'.2 t htb).trans (g2.heap _ _ ht), hvs, hnd, hgood, by rw [List.length_set]; exact hlen, fun k' r' e' => ?_⟩
      by_cases ek : k' = k
      · subst ek
        rw [List.getElem?_set_self (List.getElem?_eq_some_iff.mp hr).1] at e'
        cases e'
        refine ⟨b, hb, _, n'', hl', by simp [hsz], fun j' i' hj'' => ?_⟩
        by_cases ej : j' = j
        · subst ej
          rw [List.getElem?_set_self hj] at hj''
          cases hj''
          exact ⟨t0, by rw [Array.getElem?_setIfInBounds_self_of_lt (by omega)]⟩
        · rw [List.getElem?_set_ne (Ne.symm ej)] at hj''
          obtain ⟨tv, htv⟩ := hget j' i' hj''
          exact ⟨tv, by rw [Array.getElem?_setIfInBounds_ne (Ne.symm ej)]; exact htv⟩
      · rw [List.getElem?_set_ne (Ne.symm ek)] at e'
        obtain ⟨c, hc, us', n3, hus', hr'⟩ := hrows k' r' e'
        refine ⟨c, hc, us', n3, (hs'.2 c fun ecb => ek ?_).trans (g2.heap _ _ hus'), hr'⟩
        subst ecb
        have hnd' := (List.nodup_cons.mp hnd).2
        obtain ⟨l1, e1'⟩ := List.getElem?_eq_some_iff.mp hc
        obtain ⟨l2, e2'⟩ := List.getElem?_eq_some_iff.mp hb
        have hp := List.pairwise_iff_getElem.mp hnd'
        rcases Nat.lt_trichotomy k' k with h | h | h
        · exact absurd (e1'.trans e2'.symm) (hp k' k l1 l2 h)
        · exact h
        · exact absurd (e2'.trans e1'.symm) (hp k k' l2 l1 h)
    · obtain ⟨d', rfl⟩ := noOwn_set hno hne k2
      obtain ⟨u, hu, hav⟩ := x₂.vars l z _ k1 k2
      exact ⟨u, hu, Rep.mono hk' hav⟩
  · rcases set_get k3 with ⟨rfl, e⟩ | ⟨hne, k3⟩
    · cases e
    · obtain ⟨d', e⟩ := noOwn_set hno hne k3
      cases e
  · obtain ⟨k1, k2, k3⟩ := x₂.cells c hc
    exact ⟨k1, k2, k3.mono hk'⟩

/-- a table is given up: from now on it stands -/
theorem St.freezeTab (x : St F P ρ mu m s) {i : Nat} {y : Str} {rows : List (List Int)} (hi : F.ns[i]? = some y) (hρ : ρ[i]? = some (some (.tab rows))) (hno : noOwn (ρ.set i none) = true) :
    ∃ mu', St F P (ρ.set i (some (.dat (.list (rows.map fun r => .list (r.map .int)))))) mu' m s := by
  obtain ⟨u, hu, t, rfl, as, vs, n, g1, g2, g3, g4, g5, g6⟩ := x.vars i y _ hi hρ
  refine ⟨fun b => mu b ∧ b ∉ t :: as, ?_⟩
  have hk : ∀ b o, ¬ mu b → s.heap.get? b = some o → s.heap.get? b = some o ∧ ¬ (mu b ∧ b ∉ t :: as) := fun b o hm e => ⟨e, fun h => hm h.1⟩
  refine ⟨x.ok, x.ns, ⟨x.muL, fun h => (g4 _ h).2.2.2 rfl⟩, fun b hb => ⟨x.mu0 b hb, fun h => (g4 b h).2.1 hb⟩, fun b hb => x.muT b hb.1, fun b hb => x.alive b hb.1, x.keep, x.top, x.pinL, fun l z av k1 k2 => ?_, fun l l' z z' d1 d2 k1 k2 k3 k4 k5 => ?_, fun p hp => (x.ghost p hp).mono hk, fun c hc => ?_, x.gens, x.os⟩
  · rcases set_get k2 with ⟨rfl, e⟩ | ⟨hne, k2⟩
    · rw [hi] at k1; cases k1; cases e
      refine ⟨_, hu, Rep.list (fun h => h.2 (List.mem_cons_self ..)) g1 ?_⟩
      rw [g2]
      have : ∀ (as' : List Addr) (rows' : List (List Int)), (∀ b ∈ as', b ∈ as) → as'.length = rows'.length → (∀ (k : Nat) (r : List Int), rows'[k]? = some r → ∃ b, as'[k]? = some b ∧ RowAt s.heap b r) →
          Reps F.prog F.w (fun b => mu b ∧ b ∉ t :: as) s.heap (as'.map Value.ref) (rows'.map fun r => .list (r.map .int)) := by
        intro as'
        induction as' with
        | nil =>
          intro rows' _ hl _
          cases rows' with
          | nil => exact .nil
          | cons r rs => simp at hl
        | cons c as' ih =>
          intro rows' hsub hl hr
          cases rows' with
          | nil => simp at hl
          | cons r rs =>
            obtain ⟨b, hb, us, n', e1, e2, e3⟩ := hr 0 r rfl
            simp at hb; subst hb
            refine .cons (.list (fun h => h.2 (List.mem_cons_of_mem _ (hsub c (List.mem_cons_self ..)))) e1 ?_) (ih rs (fun b hb => hsub b (List.mem_cons_of_mem _ hb)) (by simpa using hl) fun k r' e => by simpa using hr (k + 1) r' (by simpa using e))
            have : ∀ (l : List Value) (is : List Int), l.length = is.length → (∀ (j : Nat) (i : Int), is[j]? = some i → ∃ t, l[j]? = some (.int i t)) → Reps F.prog F.w (fun b => mu b ∧ b ∉ t :: as) s.heap l (is.map .int) := by
              intro l
              induction l with
              | nil =>
                intro is hl _
                cases is with
                | nil => exact .nil
                | cons _ _ => simp at hl
              | cons v l ihl =>
                intro is hl h
                cases is with
                | nil => simp at hl
                | cons q is =>
                  obtain ⟨tq, htq⟩ := h 0 q rfl
                  simp at htq; subst htq
                  exact .cons (.int q tq) (ihl is (by simpa using hl) fun j i e => by simpa using h (j + 1) i (by simpa using e))
            exact this us.toList r (by simpa using e2) fun j i e => by
              obtain ⟨tt, htt⟩ := e3 j i e
              exact ⟨tt, by simpa using htt⟩
      exact this as rows (fun b hb => hb) g5 g6
    · obtain ⟨d', rfl⟩ := noOwn_set hno hne k2
      obtain ⟨u', hu', hav⟩ := x.vars l z _ k1 k2
      exact ⟨u', hu', Rep.mono hk hav⟩
  · rcases set_get k3 with ⟨rfl, e⟩ | ⟨hne, k3⟩
    · cases e
    · obtain ⟨d', e⟩ := noOwn_set hno hne k3
      cases e
  · obtain ⟨k1, k2, k3⟩ := x.cells c hc
    exact ⟨k1, k2, k3.mono hk⟩
theorem Ex.freezeTab {i : Nat} {y : Str} {rows : List (List Int)} {ss : List Stmt} {out : Out} (hi : F.ns[i]? = some y) (hρ : ρ[i]? = some (some (.tab rows))) (hno : noOwn (ρ.set i none) = true) (hx : Ex F (ρ.set i (some (.dat (.list (rows.map fun r => .list (r.map .int)))))) ss out) : Ex F ρ ss out := .of fun P mu m s x => by
  obtain ⟨mu', x'⟩ := x.freezeTab hi hρ hno
  exact hx.run P mu' m s x'
/-- z = [row for y in ..] -/
theorem Ex.setTab (i : Nat) {elt iter : Expr} {y z : Str} {py pz : Pos} {scope : Scope} {pos spos : Pos} {ds : List PyData} {r : List Int} {rest : List Stmt} {out : Out} (f : Str → Addr) (hzi : F.ns[i]? = some z) (hi : It F ρ (.Name y py) iter ds) (hT : ∀ d ∈ ds, ∀ C, (F.comp scope (closureOf f scope.names []) y C).ns[0]? = some y → EvNew (F.comp scope (closureOf f scope.names []) y C) [some (.dat d)] elt (.list (r.map .int)))
    (hf : ∀ p ∈ scope.names, p.2 = .free → F.env.cells.lookup p.1 = some (f p.1)) (hcl : ∀ c ∈ F.cl, (c.1, NameKind.free) ∈ scope.names ∧ f c.1 = c.2.1)
    (hsw : (F.env.blockKind == .function && F.env.kindOf z == some .local && pz.line == pos.line && !(scope.names.any fun (n, k) => n == z && (k == .local || k == .cell))) = true)
    (hpl : (Expr.ListComp elt [⟨.Name y py, iter, [], 0⟩] scope pos).pos.line = pos.line)
    (hsc : (scope.names.all fun (n, k) => k != .cell && (k != .local || decide (scope.names.lookup n = some .local))) = true) (hkind : scope.kind = .function) (hy : scope.names.lookup y = some .local) (hyd : (y == ("__debug__" : Str)) = false)
    (hsz : ds.length ≤ sizeLine) (hs : ∀ x, foldedSetIterable iter F.env x = pure x) (k : Ex F (ρ.set i (some (.tab (List.replicate ds.length r)))) rest out) :
    Ex F ρ (.Assign [.Name z pz] (.ListComp elt [⟨.Name y py, iter, [], 0⟩] scope pos) spos :: rest) out := by
  have hall := List.all_eq_true.mp hsc
  refine Ex.cons (Ex1.assignTab i hzi hi (fun d hd C => hT d hd C (comp_ns ..)) ?_ (closure_cells f hf) (fun x hx e => ?_) hkind (fun x hx e => ?_) hy hyd hsz (fun c hc => ?_) hs) k
  · show (pure (F.env.blockKind == .function && F.env.kindOf z == some .local && pz.line == (Expr.ListComp elt [⟨.Name y py, iter, [], 0⟩] scope pos).pos.line && !(scope.names.any fun (n, k) => n == z && (k == .local || k == .cell))) : Sem Bool) = pure true
    rw [hpl, hsw]
  · have := hall x hx
    simp [e] at this
  · have := hall x hx
    simp only [e, Bool.and_eq_true, Bool.or_eq_true, decide_eq_true_eq] at this
    rcases this.2 with h | h
    · exact absurd h (by decide)
    · exact h
  · obtain ⟨h1, h2⟩ := hcl c hc
    rw [closureOf_lookup f _ _ h1, h2]
end
end Mine
namespace Mine
open PySem PyProof.Rows
set_option linter.all false
set_option maxRecDepth 20000
local macro_rules | `(tactic| walk_at "side") => `(tactic| first | rfl | with_reducible assumption | decide | omega)
local macro_rules | `(tactic| walk_at "wk") => `(tactic| first | exact Wk.nil | (refine Wk.keep rfl ?_; walk_at "wk") | (refine Wk.drop ?_; walk_at "wk"))
local macro_rules | `(tactic| walk_at "go") => `(tactic| first
  | with_reducible exact Ev.int | with_reducible exact Ev.str | with_reducible exact Ev.bool
  | ((with_reducible apply Ev.name); (with_reducible assumption); rfl)
  | ((with_reducible apply Ev.glob); (with_reducible assumption); (with_reducible assumption); decide)
  | ((with_reducible apply Ev.lenOwn); (with_reducible assumption); rfl; walk_at "side"; (with_reducible assumption))
  | ((with_reducible apply Ev.len) <;> walk_at "go")
  | ((with_reducible apply Ev.join) <;> walk_at "go")
  | ((with_reducible apply Ev.count) <;> walk_at "go")
  | ((with_reducible apply Ev.neg) <;> walk_at "go")
  | with_reducible exact EvL.nil
  | ((with_reducible apply EvL.cons) <;> walk_at "go")
  | ((with_reducible apply Ev.tuple) <;> walk_at "go")
  | ((with_reducible apply Ev.sub) <;> walk_at "go")
  | ((with_reducible apply Ev.bin) <;> walk_at "go")
  | ((with_reducible apply Tr.cmp) <;> walk_at "go")
  | ((with_reducible apply Tr.not) <;> walk_at "go")
  | ((with_reducible apply EvNew.list) <;> walk_at "go")
  | ((with_reducible apply EvNew.addList) <;> walk_at "go")
  | ((with_reducible apply EvNew.sliceLs) <;> walk_at "go")
  | ((with_reducible apply Ev.ofNew); ((with_reducible apply EvNew.list) <;> walk_at "go"))
  | with_reducible exact BinR.addInt | with_reducible exact BinR.subInt | ((with_reducible apply BinR.modInt); decide)
  | with_reducible refine BinR.addStr ?_ | with_reducible refine BinR.addTup ?_ | with_reducible refine BinR.addList ?_ | with_reducible refine BinR.mulStr ?_
  | with_reducible exact CmpR.eqStr | with_reducible exact CmpR.neStr | with_reducible exact CmpR.eqInt | with_reducible exact CmpR.neInt | with_reducible exact CmpR.ltInt | with_reducible exact CmpR.leInt | with_reducible exact CmpR.gtInt
  | with_reducible exact CmpR.geInt | with_reducible exact CmpR.ltStr | with_reducible exact CmpR.inMap
  | ((with_reducible apply CmpR.eqLs) <;> with_reducible assumption)
  | ((with_reducible apply CmpR.neLs) <;> with_reducible assumption)
  | ((with_reducible apply Good.join); with_reducible assumption)
  | exact SubR.tup 0 rfl rfl (by decide) | exact SubR.tup 1 rfl rfl (by decide) | exact SubR.tup 2 rfl rfl (by decide) | exact SubR.tup 3 rfl rfl (by decide)
  | (intros; rfl)
  | with_reducible assumption
  | omega
  | (simp only [List.length_cons, List.length_nil, List.length_map, List.length_append, sizeLine_eq]; omega)
  | skip)
theorem x_chunkkind {F : Fx} (X : X_chunkkind F) {b o t : List Str} (hb : Good b) (ho : Good o) (ht : Good t) :
    Ex F [some (.dat (ls b)), some (.dat (ls o)), some (.dat (ls t))] b_chunkkind (.ret (.str (kstr (ck b o t)))) := by
  cases X
  by_cases h1 : o = b
  · refine Ex.consRet (Ex1.ifT (Tr.eq (b := _) (by walk_at "go") (by simpa using h1)) (Ex.consRet (Ex1.ret ?_)))
    simp only [ck, h1, if_true, kstr]
    walk_at "go"
  refine Ex.cons (Ex1.ifF (Tr.eq (b := _) (by walk_at "go") (by simpa using h1)) Ex.nil) ?_
  by_cases h2 : t = b
  · refine Ex.consRet (Ex1.ifT (Tr.eq (b := _) (by walk_at "go") (by simpa using h2)) (Ex.consRet (Ex1.ret ?_)))
    simp only [ck, h1, h2, if_true, if_false, kstr]
    walk_at "go"
  refine Ex.cons (Ex1.ifF (Tr.eq (b := _) (by walk_at "go") (by simpa using h2)) Ex.nil) ?_
  by_cases h3 : o = t
  · refine Ex.consRet (Ex1.ifT (Tr.eq (b := _) (by walk_at "go") (by simpa using h3)) (Ex.consRet (Ex1.ret ?_)))
    simp only [ck, h1, h2, if_neg, if_pos h3, if_false, kstr]
    walk_at "go"
  refine Ex.cons (Ex1.ifF (Tr.eq (b := _) (by walk_at "go") (by simpa using h3)) Ex.nil) ?_
  refine Ex.consRet (Ex1.ret ?_)
  simp only [ck, h1, h2, h3, if_false, kstr]
  walk_at "go"
theorem x_Lkind {F : Fx} (X : X_Lkind F) {b o t : List Str} (hb : Good b) (ho : Good o) (ht : Good t) :
    Ex F [some (.dat (ls b)), some (.dat (ls o)), some (.dat (ls t))] b_Lkind (.ret (.str (kstr (lk b o t)))) := by
  cases X
  by_cases h1 : o = t
  · refine Ex.consRet (Ex1.ifT (Tr.eq (b := _) (by walk_at "go") (by simpa using h1)) (Ex.consRet (Ex1.ret ?_)))
    simp only [lk, if_pos h1, kstr]
    walk_at "go"
  refine Ex.cons (Ex1.ifF (Tr.eq (b := _) (by walk_at "go") (by simpa using h1)) Ex.nil) ?_
  by_cases h2 : t = b
  · refine Ex.consRet (Ex1.ifT (Tr.eq (b := _) (by walk_at "go") (by simpa using h2)) (Ex.consRet (Ex1.ret ?_)))
    simp only [lk, if_neg h1, if_pos h2, kstr]
    walk_at "go"
  refine Ex.cons (Ex1.ifF (Tr.eq (b := _) (by walk_at "go") (by simpa using h2)) Ex.nil) ?_
  by_cases h3 : o = b
  · refine Ex.consRet (Ex1.ifT (Tr.eq (b := _) (by walk_at "go") (by simpa using h3)) (Ex.consRet (Ex1.ret ?_)))
    simp only [lk, if_neg h1, if_neg h2, if_pos h3, kstr]
    walk_at "go"
  refine Ex.cons (Ex1.ifF (Tr.eq (b := _) (by walk_at "go") (by simpa using h3)) Ex.nil) ?_
  refine Ex.consRet (Ex1.ret ?_)
  simp only [lk, if_neg h1, if_neg h2, if_neg h3, kstr]
  walk_at "go"
/-- what closed gives -/
noncomputable def closedS (xs : List Str) : Str := if jn xs = "" then jn xs else if Txt.item (jn xs) (-1) = "\n" then jn xs else jn xs ++ "\n"
theorem x_closed {F : Fx} (X : X_closed F) {xs : List Str} (h : Good xs) : Ex F [some (.dat (ls xs)), none] b_closed (.ret (.str (closedS xs))) := by
  cases X
  have e0 := sizeLine_eq
  refine Ex.set (i := 1) (by walk_at "go") (by assumption) rfl ?_
  show Ex F [some (.dat (ls xs)), some (.dat (.str (jn xs)))] _ _
  have hl := h.jnLen
  by_cases h1 : jn xs = ""
  · refine Ex.cons (Ex1.ifF (Tr.bool (TrA.andF (Tr.eq (b := _) (by walk_at "go") (by simpa using h1)))) Ex.nil) (Ex.consRet (Ex1.ret ?_))
    rw [closedS, if_pos h1]
    walk_at "go"
  have hne : cd (jn xs) ≠ [] := fun e => h1 (cd_inj (e.trans (by decide +kernel)))
  have hlen : 0 < (jn xs).length := by rw [len_cd]; exact List.length_pos_iff.mpr hne
  have hsub : SubR (.str (jn xs)) (.int (-1)) (.str (Txt.item (jn xs) (-1))) := by
    refine .str (by decide) ?_
    unfold Txt.charAt
    have : seqIndex? (-1) (jn xs).length = some ((jn xs).length - 1) := by
      unfold seqIndex?
      simp only
      split
      · simp; try omega
      · rename_i hx; exfalso; apply hx; simp; try omega
    rw [this]
    simp only [Option.bind_some]
    rw [Array.getElem?_eq_getElem (by show _ < (jn xs).cps.size; have : (jn xs).length = (jn xs).cps.size := rfl; omega)]; rfl
  by_cases h2 : Txt.item (jn xs) (-1) = "\n"
  · refine Ex.cons (Ex1.ifF (Tr.bool (TrA.andT (Tr.eq (b := _) (by walk_at "go") (by simpa using h1)) (TrA.andF (Tr.eq (b := _) (by walk_at "go") (by simpa using h2))))) Ex.nil) (Ex.consRet (Ex1.ret ?_))
    rw [closedS, if_neg h1, if_pos h2]
    walk_at "go"
  · refine Ex.consRet (Ex1.ifT (Tr.bool (TrA.andT (Tr.eq (b := _) (by walk_at "go") (by simpa using h1)) (TrA.andT (Tr.eq (b := _) (by walk_at "go") (by simpa using h2)) TrA.andNil))) (Ex.consRet (Ex1.ret ?_)))
    rw [closedS, if_neg h1, if_neg h2]
    walk_at "go"
    have : (("\n" : String) : Str).length = 1 := by decide +kernel
    omega


theorem x_Lfull {F : Fx} (X : X_Lfull F) {xs : List Str} (h : Good xs) : Ex F [some (.dat (ls xs)), none, none] b_Lfull (.ret (.str (full xs))) := by
  cases X
  have e0 := sizeLine_eq
  have e1 : (("\n" : String) : Str).length = 1 := by decide +kernel
  refine Ex.set (i := 1) (d := .str (full [])) Ev.str (by assumption) rfl ?_
  refine Ex.forFold 2 PyData.str (fun done => [some (.dat (ls xs)), some (.dat (.str (full done))), none]) xs (by assumption) (It.list (by walk_at "go") Lets.name) (fun _ => rfl) (fun d x r e => ?_) (Ex.consRet (Ex1.ret (by walk_at "go")))
  have hx : x ∈ seven := h.mem x (by rw [e]; simp)
  have hd : (full d).length ≤ 200 := by
    have h1 := full_len (xs := d) fun y hy => h.mem y (by rw [e]; simp [hy])
    have h2 := h.len
    rw [e] at h2
    simp at h2
    omega
  have hxl := (seven_ok x hx).2
  refine Ex.weakenNext (Ex.ite' (b := nlEnd x) (Tr.eq (Tr.cmp (Ev.sliceStr (i := some (-1)) (j := none) (by walk_at "go") (show Ev F _ _ _ by walk_at "go") trivial (slice_seven x hx) (fun _ _ => rfl)) (by walk_at "go") (by walk_at "go") rfl) (lastOf_nl x hx))
    (ρ₁ := [some (.dat (ls xs)), some (.dat (.str (full (d ++ [x])))), some (.dat (.str x))]) (fun hb => ?_) (fun hb => ?_) Ex.nil) (by walk_at "wk")
  · rw [full_snoc, nl, if_pos hb]
    exact Ex.set (i := 1) (Ev.bin (by walk_at "go") (by walk_at "go") (.addStr (by omega))) (by assumption) rfl Ex.nil
  · rw [full_snoc, nl, if_neg (by rw [hb]; decide), ← Str.append_assoc]
    exact Ex.set (i := 1) (Ev.bin (Ev.bin (by walk_at "go") (by walk_at "go") (.addStr (by omega))) (by walk_at "go") (.addStr (by rw [Str.length_append]; omega))) (by assumption) rfl Ex.nil
noncomputable def five : List Str := ["a", "b", "c", "d", ""]
structure Items (xs : List Str) : Prop where
  mem : ∀ x ∈ xs, x ∈ five
  len : xs.length ≤ 50
theorem five_ok : ∀ x ∈ five, x.length ≤ 1 ∧ x ++ "\n" ∈ seven ∧ 10 ∉ cd x := by decide +kernel
noncomputable def tails : List Str := ["", "a", "b"]
theorem tails_ok : ∀ x ∈ tails, (x = "" ∨ x ∈ seven) ∧ 10 ∉ cd x := by decide +kernel
theorem nl_length : (("\n" : String) : Str).length = 1 := by decide +kernel
noncomputable def linesS (items : List Str) (tail : Str) : List Str := items.map (fun x : Str => x ++ ("\n" : Str)) ++ (if tail = "" then [] else [tail])
theorem linesS_good {items : List Str} {tail : Str} (hi : Items items) (ht : tail ∈ tails) : Good (linesS items tail) := by
  refine ⟨fun x hx => ?_, ?_⟩
  · rcases List.mem_append.mp hx with hx | hx
    · obtain ⟨y, hy, rfl⟩ := List.mem_map.mp hx
      exact (five_ok y (hi.mem y hy)).2.1
    · split at hx
      · cases hx
      · rename_i hne
        simp at hx; subst hx
        exact (tails_ok x ht).1.resolve_left hne
  · have := hi.len
    simp only [linesS, List.length_append, List.length_map]
    split
    · simp; omega
    · simp; omega
theorem x_Llines {F : Fx} (X : X_Llines F) (hcl : F.cl = []) {items : List Str} {tail : Str} (hi : Items items) : Ex F [some (.dat (ls items)), some (.dat (.str tail)), none] b_Llines (.ret (ls (linesS items tail))) := by
  have sc := X.sc
  cases X
  have e0 := sizeLine_eq
  have hl := hi.len
  refine Ex.setComp 2 (by assumption) (It.list (by walk_at "go") Lets.name) (CompT.ofMap PyData.str (fun x => .str (x ++ "\n")) items fun x hx C hn => Ev.bin (by walk_at "go") (by walk_at "go") (.addStr (by
      have := (five_ok x (hi.mem x hx)).1
      rw [nl_length]; omega))) hcl (by rw [Env.blockKind, Env.kindOf, sc]; decide +kernel) rfl (by decide +kernel) rfl (by decide +kernel) (by decide +kernel) (by simp; omega) (fun _ => rfl) ?_
  rw [show items.map (fun x => PyData.str (x ++ "\n")) = (items.map (fun x : Str => x ++ ("\n" : Str))).map PyData.str by simp]
  by_cases h : tail = ""
  · refine Ex.cons (Ex1.ifF (Tr.eq (b := _) (by walk_at "go") (by simpa using h)) Ex.nil) (Ex.freeze (i := 2) (by assumption) rfl (Ex.consRet (Ex1.ret ?_)))
    rw [linesS, if_pos h, List.append_nil]
    walk_at "go"
  · refine Ex.cons (Ex1.ifT (Tr.eq (b := _) (by walk_at "go") (by simpa using h)) (Ex.cons (Ex1.append 2 (by assumption) rfl (by walk_at "go") (by simp; omega) rfl rfl) Ex.nil)) (Ex.freeze (i := 2) (by assumption) rfl (Ex.consRet (Ex1.ret ?_)))
    rw [linesS, if_neg h]
    exact Ev.eq (by walk_at "go") (by simp)
theorem x_linesof {F : Fx} (X : X_linesof F) (hcl : F.cl = []) {c : Str} {init : List Str} {last : Str} (hc : c.length ≤ 1000) (hsp : Txt.split c "\n" = init ++ [last]) (hi : Items init) :
    Ex F [some (.dat (.str c)), none, none] b_linesof (.ret (ls (linesS init last))) := by
  have sc := X.sc
  cases X
  have e0 := sizeLine_eq
  have hl := hi.len
  refine Ex.setNew (i := 1) (d := ls (Txt.split c "\n")) (EvNew.split (by walk_at "go") (by walk_at "go") (by decide +kernel) (by omega) (by
    rw [len_partsBetween]
    have := StrLaws.occ_length_le c "\n" 0 c.length (c.length + 1)
    omega) rfl rfl rfl) (by assumption) rfl ?_
  rw [hsp]
  refine Ex.freeze (i := 1) (by assumption) rfl ?_
  refine Ex.setComp 2 (by assumption) (It.list (Ev.ofNew (EvNew.butLast (xs := init ++ [last]) (by walk_at "go") (by walk_at "go") (by simp; omega) (fun _ _ => rfl))) Lets.name) (CompT.ofMap PyData.str (fun x => .str (x ++ "\n")) (init ++ [last]).dropLast fun x hx C hn => Ev.bin (by walk_at "go") (by walk_at "go") (.addStr (by
      have := (five_ok x (hi.mem x (by simpa using hx))).1
      rw [nl_length]; omega))) hcl (by rw [Env.blockKind, Env.kindOf, sc]; decide +kernel) rfl (by decide +kernel) rfl (by decide +kernel) (by decide +kernel) (by simp; omega) (fun _ => rfl) ?_
  rw [show (init ++ [last]).dropLast.map (fun x => PyData.str (x ++ "\n")) = (init.map (fun x : Str => x ++ ("\n" : Str))).map PyData.str by simp]
  have hsub : SubR (ls (init ++ [last])) (.int (-1)) (.str last) := .listNeg (by decide) (by decide) (by simp; omega) (by
    simp only [List.length_map, List.length_append, List.length_cons, List.length_nil, List.map_append]
    rw [show ((-1 : Int) + ((init.length + (0 + 1) : Nat) : Int)).toNat = init.length by omega, List.getElem?_append_right (by simp)]
    simp)
  by_cases h : last = ""
  · refine Ex.cons (Ex1.ifF (Tr.eq (b := _) (by walk_at "go") (by simpa using h)) Ex.nil) (Ex.freeze (i := 2) (by assumption) rfl (Ex.consRet (Ex1.ret ?_)))
    rw [linesS, if_pos h, List.append_nil]
    walk_at "go"
  · refine Ex.cons (Ex1.ifT (Tr.eq (b := _) (by walk_at "go") (by simpa using h)) (Ex.cons (Ex1.append 2 (by assumption) rfl (by walk_at "go") (by simp; omega) rfl rfl) Ex.nil)) (Ex.freeze (i := 2) (by assumption) rfl (Ex.consRet (Ex1.ret ?_)))
    rw [linesS, if_neg h]
    exact Ev.eq (by walk_at "go") (by simp)

noncomputable def wordOf (i : Int) : Str := if i = 0 then "a" else if i = 1 then "b" else if i = 2 then "d" else ""
theorem fmod_lt {c k : Int} (hk : 0 < k) : 0 ≤ c.fmod k ∧ c.fmod k < k := ⟨Int.fmod_nonneg_of_pos c hk, Int.fmod_lt_of_pos c hk⟩
theorem wordOf_five (i : Int) : wordOf i ∈ five := by
  unfold wordOf
  split
  · decide +kernel
  · split
    · decide +kernel
    · split <;> decide +kernel
noncomputable def wordsL : List Str := ["a", "b", "d", ""]
noncomputable def tailsL : List Str := ["", "a", "b"]
theorem seqIndex_nat {i n : Nat} (h : i < n) : seqIndex? (i : Int) n = some i := by
  unfold seqIndex?
  simp only [show ¬ ((i : Int) < 0) by omega, if_false]
  rw [if_pos (by simp; omega), Int.toNat_natCast]
theorem SubR.tup {xs : List PyData} {a : Int} (i : Nat) {d : PyData} (ha : a = (i : Int)) (h : xs[i]? = some d) (hi : i < 2 ^ 62) : SubR (.tuple xs) (.int a) d := by
  subst ha
  exact .tuple (by omega) (by omega) (seqIndex_nat (List.getElem?_eq_some_iff.mp h).1) h
theorem words_get (c : Int) : ∃ i : Nat, c.fmod 4 = (i : Int) ∧ wordsL[i]? = some (wordOf (c.fmod 4)) ∧ i < 4 := by
  obtain ⟨h1, h2⟩ := fmod_lt (c := c) (k := 4) (by decide)
  generalize c.fmod 4 = i at h1 h2
  obtain ⟨k, rfl⟩ := Int.eq_ofNat_of_zero_le h1
  have : k = 0 ∨ k = 1 ∨ k = 2 ∨ k = 3 := by omega
  rcases this with rfl | rfl | rfl | rfl <;> exact ⟨_, rfl, rfl, by decide⟩
noncomputable def tailOf (i : Int) : Str := if i = 0 then "" else if i = 1 then "a" else "b"
theorem tailOf_mem (i : Int) : tailOf i ∈ tails := by
  unfold tailOf
  split
  · decide +kernel
  · split <;> decide +kernel
theorem tails_get (c : Int) : ∃ i : Nat, c.fmod 3 = (i : Int) ∧ tailsL[i]? = some (tailOf (c.fmod 3)) ∧ i < 3 := by
  obtain ⟨h1, h2⟩ := fmod_lt (c := c) (k := 3) (by decide)
  generalize c.fmod 3 = i at h1 h2
  obtain ⟨k, rfl⟩ := Int.eq_ofNat_of_zero_le h1
  have : k = 0 ∨ k = 1 ∨ k = 2 := by omega
  rcases this with rfl | rfl | rfl <;> exact ⟨_, rfl, rfl, by decide⟩
/-- what _law_stem gives -/
noncomputable def stemS (size : Int) (cs : List Int) : List Str := cs.foldl (fun items c => if (items.length : Int) < size then items ++ [wordOf (c.fmod 4)] else items) []
theorem stemS_snoc (size : Int) (cs : List Int) (c : Int) : stemS size (cs ++ [c]) = if ((stemS size cs).length : Int) < size then stemS size cs ++ [wordOf (c.fmod 4)] else stemS size cs := by rw [stemS, List.foldl_append]; rfl
theorem foldl_ind {α β : Type} (P : List α → β → Prop) (f : β → α → β) (b : β) (h0 : P [] b) (h1 : ∀ d x a, P d a → P (d ++ [x]) (f a x)) (xs : List α) : P xs (xs.foldl f b) := by
  have : ∀ (rest done : List α) (a : β), P done a → P (done ++ rest) (rest.foldl f a) := by
    intro rest
    induction rest with
    | nil => intro done a h; simpa using h
    | cons x r ih => intro done a h; have := ih (done ++ [x]) (f a x) (h1 _ _ _ h); simpa using this
  simpa using this xs [] b h0
theorem stemS_ok (size : Int) (cs : List Int) : (stemS size cs).length ≤ cs.length ∧ ∀ x ∈ stemS size cs, x ∈ five := by
  refine foldl_ind (P := fun (cs : List Int) (r : List Str) => r.length ≤ cs.length ∧ ∀ x ∈ r, x ∈ five) _ _ ⟨Nat.le_refl _, by intro x hx; cases hx⟩ (fun d x a ⟨h1, h2⟩ => ?_) cs
  split
  · refine ⟨by simp; omega, fun y hy => ?_⟩
    rcases List.mem_append.mp hy with hy | hy
    · exact h2 y hy
    · simp at hy; subst hy; exact wordOf_five _
  · exact ⟨by simp; omega, h2⟩
theorem x_Lstem {F : Fx} (X : X_Lstem F) (G : GlobT F.toTx "_law_words" wordsL) {size : Int} {cs : List Int} (hc : cs.length ≤ 10) :
    Ex F [some (.dat (.int size)), some (.dat (.tuple (cs.map .int))), none, none] b_Lstem (.ret (ls (stemS size cs))) := by
  cases X
  have e0 := sizeLine_eq
  refine Ex.setNew (i := 2) (d := ls []) (EvNew.list EvL.nil (Nat.zero_le _)) (by assumption) rfl ?_
  refine Ex.forFold 3 PyData.int (fun done => [some (.dat (.int size)), some (.dat (.tuple (cs.map .int))), some (.own (ls (stemS size done))), none]) cs (by assumption) (It.tuple (by walk_at "go")) (fun _ => rfl) (fun d x r e => ?_)
    (Ex.freeze (i := 2) (by assumption) rfl (Ex.consRet (Ex1.ret (by walk_at "go"))))
  have hd : (stemS size d).length ≤ 10 := by
    have h1 := (stemS_ok size d).1
    have h2 : d.length ≤ cs.length := by rw [e]; simp
    omega
  obtain ⟨wi, w1, w2, w3⟩ := words_get x
  rw [stemS_snoc]
  by_cases h : ((stemS size d).length : Int) < size
  · rw [if_pos h]
    refine Ex.weakenNext (Ex.cons (Ex1.ifT (Tr.eq (Tr.cmp (Ev.lenOwn 2 (by assumption) rfl (by simp; omega) (by assumption)) (by walk_at "go") .ltInt rfl) (by simpa using h)) (Ex.cons (Ex1.append 2 (by assumption) rfl (Ev.subG wi G (by assumption) (by decide) (by walk_at "go") w1 w2 (by omega) (fun _ _ => rfl)) (by simp; omega) rfl rfl) Ex.nil)) Ex.nil) ?_
    rw [show List.map PyData.str (stemS size d) ++ [PyData.str (wordOf (x.fmod 4))] = List.map PyData.str (stemS size d ++ [wordOf (x.fmod 4)]) by simp]
    walk_at "wk"
  · rw [if_neg h]
    exact Ex.weakenNext (Ex.cons (Ex1.ifF (Tr.eq (Tr.cmp (Ev.lenOwn 2 (by assumption) rfl (by simp; omega) (by assumption)) (by walk_at "go") .ltInt rfl) (by simpa using h)) Ex.nil) Ex.nil) (by walk_at "wk")
end Mine
namespace Mine
open PySem PyProof.Rows
set_option linter.all false
set_option maxRecDepth 20000
local macro_rules | `(tactic| walk_at "side") => `(tactic| first | rfl | with_reducible assumption | decide | omega)
local macro_rules | `(tactic| walk_at "wk") => `(tactic| first | exact Wk.nil | (refine Wk.keep rfl ?_; walk_at "wk") | (refine Wk.drop ?_; walk_at "wk"))
local macro_rules | `(tactic| walk_at "go") => `(tactic| first
  | with_reducible exact Ev.int | with_reducible exact Ev.str | with_reducible exact Ev.bool
  | ((with_reducible apply Ev.name); (with_reducible assumption); rfl)
  | ((with_reducible apply Ev.glob); (with_reducible assumption); (with_reducible assumption); decide)
  | ((with_reducible apply Ev.lenOwn); (with_reducible assumption); rfl; walk_at "side"; (with_reducible assumption))
  | ((with_reducible apply Ev.len) <;> walk_at "go")
  | ((with_reducible apply Ev.join) <;> walk_at "go")
  | ((with_reducible apply Ev.count) <;> walk_at "go")
  | ((with_reducible apply Ev.neg) <;> walk_at "go")
  | with_reducible exact EvL.nil
  | ((with_reducible apply EvL.cons) <;> walk_at "go")
  | ((with_reducible apply Ev.tuple) <;> walk_at "go")
  | ((with_reducible apply Ev.sub) <;> walk_at "go")
  | ((with_reducible apply Ev.bin) <;> walk_at "go")
  | ((with_reducible apply Tr.cmp) <;> walk_at "go")
  | ((with_reducible apply Tr.not) <;> walk_at "go")
  | ((with_reducible apply EvNew.list) <;> walk_at "go")
  | ((with_reducible apply EvNew.addList) <;> walk_at "go")
  | ((with_reducible apply EvNew.sliceLs) <;> walk_at "go")
  | ((with_reducible apply Ev.ofNew); ((with_reducible apply EvNew.list) <;> walk_at "go"))
  | with_reducible exact BinR.addInt | with_reducible exact BinR.subInt | ((with_reducible apply BinR.modInt); decide)
  | with_reducible refine BinR.addStr ?_ | with_reducible refine BinR.addTup ?_ | with_reducible refine BinR.addList ?_ | with_reducible refine BinR.mulStr ?_
  | with_reducible exact CmpR.eqStr | with_reducible exact CmpR.neStr | with_reducible exact CmpR.eqInt | with_reducible exact CmpR.neInt | with_reducible exact CmpR.ltInt | with_reducible exact CmpR.leInt | with_reducible exact CmpR.gtInt
  | with_reducible exact CmpR.geInt | with_reducible exact CmpR.ltStr | with_reducible exact CmpR.inMap
  | ((with_reducible apply CmpR.eqLs) <;> with_reducible assumption)
  | ((with_reducible apply CmpR.neLs) <;> with_reducible assumption)
  | ((with_reducible apply Good.join); with_reducible assumption)
  | exact SubR.tup 0 rfl rfl (by decide) | exact SubR.tup 1 rfl rfl (by decide) | exact SubR.tup 2 rfl rfl (by decide) | exact SubR.tup 3 rfl rfl (by decide)
  | (intros; rfl)
  | with_reducible assumption
  | omega
  | (simp only [List.length_cons, List.length_nil, List.length_map, List.length_append, sizeLine_eq]; omega)
  | skip)
noncomputable def sideF (items : List Str) (p : Str × Int) : List Str :=
  if p.2.fmod 8 < 4 then items ++ [p.1] else if p.2.fmod 8 = 4 then items ++ [("a" : Str)] else if p.2.fmod 8 = 5 then items ++ [("b" : Str)] else if p.2.fmod 8 = 6 then items ++ [("c" : Str), p.1] else items
noncomputable def sideS (stem : List Str) (cells : List Int) : List Str := (stem.zip cells).foldl sideF []
theorem sideF_ok {items : List Str} {p : Str × Int} (h1 : ∀ x ∈ items, x ∈ five) (h2 : p.1 ∈ five) : (sideF items p).length ≤ items.length + 2 ∧ ∀ x ∈ sideF items p, x ∈ five := by
  have ha : ("a" : Str) ∈ five := by decide +kernel
  have hb : ("b" : Str) ∈ five := by decide +kernel
  have hc : ("c" : Str) ∈ five := by decide +kernel
  have add : ∀ (l : List Str), l.length ≤ 2 → (∀ x ∈ l, x ∈ five) → (items ++ l).length ≤ items.length + 2 ∧ ∀ x ∈ items ++ l, x ∈ five := fun l h3 h4 =>
    ⟨by simp; omega, fun x hx => (List.mem_append.mp hx).elim (h1 x) (h4 x)⟩
  unfold sideF
  split
  · exact add _ (by simp) (by simp [h2])
  · split
    · exact add _ (by simp) (by intro x hx; simp at hx; subst hx; exact ha)
    · split
      · exact add _ (by simp) (by intro x hx; simp at hx; subst hx; exact hb)
      · split
        · exact add _ (by simp) (by intro x hx; simp at hx; rcases hx with rfl | rfl; exact hc; exact h2)
        · exact ⟨by omega, h1⟩
theorem foldl_side : ∀ (ps : List (Str × Int)) (items : List Str), (∀ x ∈ items, x ∈ five) → (∀ p ∈ ps, p.1 ∈ five) → (ps.foldl sideF items).length ≤ items.length + 2 * ps.length ∧ ∀ x ∈ ps.foldl sideF items, x ∈ five
  | [], items, h, _ => ⟨by simp, h⟩
  | p :: ps, items, h, hp => by
    obtain ⟨h1, h2⟩ := sideF_ok h (hp p (List.mem_cons_self ..))
    obtain ⟨h3, h4⟩ := foldl_side ps _ h2 fun q hq => hp q (List.mem_cons_of_mem _ hq)
    refine ⟨?_, h4⟩
    simp only [List.foldl_cons, List.length_cons] at *
    omega
theorem zip_enc (stem : List Str) (cells : List Int) : zipD (stem.map .str) (cells.map .int) = (stem.zip cells).map (fun p => PyData.tuple [.str p.1, .int p.2]) := by
  simp only [zipD, List.zip_map, List.map_map]
  rfl
theorem x_Lside {F : Fx} (X : X_Lside F) {stem : List Str} {cs : List Int} (hs : ∀ x ∈ stem, x ∈ five) (hl : stem.length ≤ cs.length) (hc : cs.length ≤ 10) :
    Ex F [some (.dat (ls stem)), some (.dat (.tuple (cs.map .int))), none, none, none, none] b_Lside (.ret (ls (sideS stem cs))) := by
  cases X
  have e0 := sizeLine_eq
  refine Ex.setNew (i := 2) (d := ls []) (EvNew.list EvL.nil (Nat.zero_le _)) (by assumption) rfl ?_
  refine Ex.forFoldB (fun p : Str × Int => PyData.tuple [.str p.1, .int p.2]) (fun done => [some (.dat (ls stem)), some (.dat (.tuple (cs.map .int))), some (.own (ls (done.foldl sideF []))), none, none, none]) (stem.zip cs)
    (by rw [← zip_enc]; exact It.zip (by walk_at "go") (by walk_at "go") (by simpa using hl) (fun _ => rfl) (by assumption)) (fun _ => rfl) (fun d p r e => ?_)
    (Ex.freeze (i := 2) (by assumption) rfl (Ex.consRet (Ex1.ret (by rw [sideS]; walk_at "go"))))
  have hmem : ∀ q ∈ d ++ p :: r, q.1 ∈ five := fun q hq => hs q.1 (List.of_mem_zip (by rw [e]; exact hq)).1
  have hlen : (d ++ p :: r).length ≤ 10 := by rw [← e, List.length_zip]; omega
  have hd : (d.foldl sideF []).length ≤ 20 := by
    have h1 := (foldl_side d [] (by intro x hx; cases hx) fun q hq => hmem q (List.mem_append_left _ hq)).1
    simp at hlen h1
    omega
  refine ⟨_, Bd.tuple (BdL.cons 3 (by assumption) (BdL.cons 4 (by assumption) BdL.nil)) rfl rfl, ?_⟩
  obtain ⟨item, c⟩ := p
  rw [List.foldl_append]
  generalize hI : d.foldl sideF [] = I at hd ⊢
  refine Ex.set (i := 5) (by walk_at "go") (by assumption) rfl ?_
  show Ex F [some (.dat (ls stem)), some (.dat (.tuple (cs.map .int))), some (.own (ls I)), some (.dat (.str item)), some (.dat (.int c)), some (.dat (.int (c.fmod 8)))] _ (.next [some (.dat (ls stem)), some (.dat (.tuple (cs.map .int))), some (.own (ls (sideF I (item, c)))), none, none, none])
  unfold sideF
  simp only []
  generalize c.fmod 8 = k
  have app : ∀ x : Str, List.map PyData.str I ++ [PyData.str x] = List.map PyData.str (I ++ [x]) := fun x => by simp
  by_cases h1 : k < 4
  · rw [if_pos h1]
    refine Ex.weakenNext (Ex.cons (Ex1.ifT (Tr.eq (b := _) (by walk_at "go") (by simpa using h1)) (Ex.cons (Ex1.append 2 (by assumption) rfl (by walk_at "go") (by simp; omega) rfl rfl) Ex.nil)) Ex.nil) ?_
    rw [app]; walk_at "wk"
  rw [if_neg h1]
  refine Ex.cons (Ex1.ifF (Tr.eq (b := _) (by walk_at "go") (by simpa using h1)) ?_) Ex.nil
  by_cases h2 : k = 4
  · rw [if_pos h2]
    refine Ex.weakenNext (Ex.cons (Ex1.ifT (Tr.eq (b := _) (by walk_at "go") (by simpa using h2)) (Ex.cons (Ex1.append 2 (by assumption) rfl (by walk_at "go") (by simp; omega) rfl rfl) Ex.nil)) Ex.nil) ?_
    rw [app]; walk_at "wk"
  rw [if_neg h2]
  refine Ex.cons (Ex1.ifF (Tr.eq (b := _) (by walk_at "go") (by simpa using h2)) ?_) Ex.nil
  by_cases h3 : k = 5
  · rw [if_pos h3]
    refine Ex.weakenNext (Ex.cons (Ex1.ifT (Tr.eq (b := _) (by walk_at "go") (by simpa using h3)) (Ex.cons (Ex1.append 2 (by assumption) rfl (by walk_at "go") (by simp; omega) rfl rfl) Ex.nil)) Ex.nil) ?_
    rw [app]; walk_at "wk"
  rw [if_neg h3]
  refine Ex.cons (Ex1.ifF (Tr.eq (b := _) (by walk_at "go") (by simpa using h3)) ?_) Ex.nil
  by_cases h4 : k = 6
  · rw [if_pos h4]
    refine Ex.weakenNext (Ex.freeze (i := 2) (by assumption) rfl (Ex.cons (Ex1.ifT (Tr.eq (b := _) (by walk_at "go") (by simpa using h4)) (Ex.setNew (i := 2) (EvNew.addList (by walk_at "go") (by walk_at "go") (by simp; omega)) (by assumption) rfl Ex.nil)) Ex.nil)) ?_
    rw [show List.map PyData.str I ++ [PyData.str "c", PyData.str item] = List.map PyData.str (I ++ [("c" : Str), item]) by simp]
    walk_at "wk"
  rw [if_neg h4]
  exact Ex.weakenNext (Ex.cons (Ex1.ifF (Tr.eq (b := _) (by walk_at "go") (by simpa using h4)) Ex.nil) Ex.nil) (by walk_at "wk")
noncomputable abbrev pn (p : Nat × Nat) : PyData := .tuple [.int p.1, .int p.2]
noncomputable abbrev mD (m : List (Nat × Nat)) : PyData := .tuple (m.map pn)
noncomputable def w1 (c k : Nat) : Str := ⟨(List.replicate k c).toArray⟩
theorem cd_w1 (c k : Nat) : cd (w1 c k) = List.replicate k c := by simp [cd, w1]
theorem w1_len (c k : Nat) : (w1 c k).length = k := by rw [len_cd, cd_w1, List.length_replicate]
theorem foldl_rep (c : Nat) : ∀ (k : Nat) (acc : Array Nat), ((List.replicate k (#[c] : Array Nat)).foldl (· ++ ·) acc).toList = acc.toList ++ List.replicate k c
  | 0, acc => by simp
  | k + 1, acc => by
    rw [List.replicate_succ, List.foldl_cons, foldl_rep c k]
    simp [List.replicate_succ]
theorem mul_w1 (c a b : Nat) : Txt.mul ⟨#[c]⟩ ((a : Int) - b) = w1 c (a - b) := by
  apply cd_inj
  rw [cd_w1]
  unfold Txt.mul
  have e : ((a : Int) - b).toNat = a - b := by omega
  split
  · have : a - b = 0 := by omega
    rw [this]; rfl
  · split
    · rename_i h1 h2
      have : a - b = 1 := by simp [Str.length] at h2; omega
      rw [this]; rfl
    · rw [e]; exact foldl_rep c (a - b) #[]
theorem mulOk_w1 {c a b : Nat} (ha : a ≤ 1000) (hb : b ≤ 1000) : MulOk ⟨#[c]⟩ ((a : Int) - b) := by
  have hl : (⟨#[c]⟩ : Str).length = 1 := rfl
  refine ⟨by simp; omega, fun h1 h2 => ?_, fun h1 h2 => ?_⟩
  · rw [hl]
    intro h
    have : (9223372036854775807 : Int) / ((a : Int) - b) ≥ 1 := by
      apply Int.le_ediv_of_mul_le (by omega)
      omega
    simp at h
    omega
  · rw [hl]
    unfold Builtin.Str.tooLong
    simp [sizeLine_eq]
    omega
noncomputable def wordF (w : Str × Nat × Nat) (p : Nat × Nat) : Str × Nat × Nat := (w.1 ++ w1 49 (p.1 - w.2.1) ++ w1 50 (p.2 - w.2.2) ++ "0", p.1 + 1, p.2 + 1)
noncomputable def wordM (n k : Nat) (m : List (Nat × Nat)) : Str := ((m ++ [(n, k)]).foldl wordF ("", 0, 0)).1
theorem cd_0 : cd (("0" : String) : Str) = [48] := by decide +kernel
theorem cd_e : cd (("" : String) : Str) = [] := by decide +kernel
theorem cd_fold (n k : Nat) : ∀ (m : List (Nat × Nat)) (w : Str) (i j : Nat), cd ((m ++ [(n, k)]).foldl wordF (w, i, j)).1 = cd w ++ wd n k i j m
  | [], w, i, j => by simp [wordF, wd, cd_append, cd_w1, cd_0]
  | (p, q) :: m, w, i, j => by
    rw [List.cons_append, List.foldl_cons]
    show cd ((m ++ [(n, k)]).foldl wordF (w ++ w1 49 (p - i) ++ w1 50 (q - j) ++ "0", p + 1, q + 1)).1 = _
    rw [cd_fold n k m]
    simp [wd, cd_append, cd_w1, cd_0]
theorem cd_wordM (n k : Nat) (m : List (Nat × Nat)) : cd (wordM n k m) = wd n k 0 0 m := by
  rw [wordM, cd_fold, cd_e]; rfl
theorem fold_len : ∀ (ps : List (Nat × Nat)) (w : Str × Nat × Nat), (∀ p ∈ ps, p.1 ≤ 100 ∧ p.2 ≤ 100) → (ps.foldl wordF w).1.length ≤ w.1.length + 201 * ps.length
  | [], w, _ => by simp
  | p :: ps, w, h => by
    have h1 := fold_len ps (wordF w p) fun q hq => h q (List.mem_cons_of_mem _ hq)
    have h2 := h p (List.mem_cons_self ..)
    have h3 : (wordF w p).1.length ≤ w.1.length + 201 := by
      have e : (("0" : String) : Str).length = 1 := by decide +kernel
      simp only [wordF, Str.length_append, w1_len, e]
      omega
    rw [List.foldl_cons, List.length_cons]
    omega
theorem fold_ij : ∀ (ps : List (Nat × Nat)) (w : Str × Nat × Nat), (∀ p ∈ ps, p.1 ≤ 100 ∧ p.2 ≤ 100) → w.2.1 ≤ 101 ∧ w.2.2 ≤ 101 → (ps.foldl wordF w).2.1 ≤ 101 ∧ (ps.foldl wordF w).2.2 ≤ 101
  | [], w, _, h => h
  | p :: ps, w, h, hw => by
    have h2 := h p (List.mem_cons_self ..)
    exact fold_ij ps (wordF w p) (fun q hq => h q (List.mem_cons_of_mem _ hq)) ⟨by simp only [wordF]; omega, by simp only [wordF]; omega⟩
theorem x_Lword {F : Fx} (X : X_Lword F) {m : List (Nat × Nat)} {n k : Nat} (hm : ∀ p ∈ m, p.1 ≤ 100 ∧ p.2 ≤ 100) (hl : m.length ≤ 100) (hn : n ≤ 100) (hk : k ≤ 100) :
    Ex F [some (.dat (mD m)), some (.dat (.int n)), some (.dat (.int k)), none, none, none, none] b_Lword (.ret (.str (wordM n k m))) := by
  cases X
  have e0 := sizeLine_eq
  have e1 : (("1" : String) : Str) = ⟨#[49]⟩ := by decide +kernel
  have e2 : (("2" : String) : Str) = ⟨#[50]⟩ := by decide +kernel
  have el : (("0" : String) : Str).length = 1 := by decide +kernel
  refine Ex.set (i := 3) (by walk_at "go") (by assumption) rfl ?_
  refine Ex.set (i := 4) (by walk_at "go") (by assumption) rfl ?_
  refine Ex.set (i := 5) (by walk_at "go") (by assumption) rfl ?_
  have hall : ∀ p ∈ m ++ [(n, k)], p.1 ≤ 100 ∧ p.2 ≤ 100 := fun p hp => by
    rcases List.mem_append.mp hp with hp | hp
    · exact hm p hp
    · simp at hp; subst hp; exact ⟨hn, hk⟩
  refine Ex.forFold 6 pn (fun done => [some (.dat (mD m)), some (.dat (.int n)), some (.dat (.int k)), some (.dat (.str (done.foldl wordF ("", 0, 0)).1)), some (.dat (.int (done.foldl wordF ("", 0, 0)).2.1)), some (.dat (.int (done.foldl wordF ("", 0, 0)).2.2)), none]) (m ++ [(n, k)]) (by assumption)
    (It.tuple (Ev.eq (Ev.bin (by walk_at "go") (by walk_at "go") (.addTup (by simp; omega))) (by simp))) (fun _ => rfl) (fun d p r e => ?_) (Ex.consRet (Ex1.ret (by rw [wordM]; walk_at "go")))
  have hd : ∀ q ∈ d, q.1 ≤ 100 ∧ q.2 ≤ 100 := fun q hq => hall q (by rw [e]; simp [hq])
  have hp := hall p (by rw [e]; simp)
  have hdl : d.length ≤ 101 := by
    have := congrArg List.length e
    simp at this; omega
  have hwl := fold_len d ("", 0, 0) hd
  have hij := fold_ij d ("", 0, 0) hd ⟨by decide, by decide⟩
  have el0 : (("" : String) : Str).length = 0 := by decide +kernel
  rw [List.foldl_append]
  generalize d.foldl wordF ("", 0, 0) = W at hwl hij ⊢
  obtain ⟨w, i, j⟩ := W
  obtain ⟨p, q⟩ := p
  simp only [List.foldl_cons, List.foldl_nil, wordF]
  simp only [el0] at hwl
  simp only at hp hij
  have b1 : BinR .Mult (.str "1") (.int ((p : Int) - i)) (.str (w1 49 (p - i))) := by rw [e1, ← mul_w1]; exact .mulStr (mulOk_w1 (by omega) (by omega))
  have b2 : BinR .Mult (.str "2") (.int ((q : Int) - j)) (.str (w1 50 (q - j))) := by rw [e2, ← mul_w1]; exact .mulStr (mulOk_w1 (by omega) (by omega))
  refine Ex.weakenNext (Ex.set (i := 3) (Ev.bin (Ev.bin (Ev.bin (by walk_at "go") (Ev.bin (by walk_at "go") (by walk_at "go") b1) (.addStr (by rw [w1_len]; omega))) (Ev.bin (by walk_at "go") (by walk_at "go") b2) (.addStr (by simp only [Str.length_append, w1_len]; omega))) (by walk_at "go") (.addStr (by simp only [Str.length_append, w1_len, el]; omega))) (by assumption) rfl
    (Ex.set (i := 4) (Ev.eq (d' := .int ((p + 1 : Nat) : Int)) (by walk_at "go") (by simp)) (by assumption) rfl (Ex.set (i := 5) (Ev.eq (d' := .int ((q + 1 : Nat) : Int)) (by walk_at "go") (by simp)) (by assumption) rfl Ex.nil))) (by walk_at "wk")
theorem rangeD_up (n : Nat) : rangeD 0 1 n = (List.range n).map (fun k : Nat => PyData.int (k : Int)) := by
  unfold rangeD
  apply List.map_congr_left
  intro k _
  simp
theorem range_split {n : Nat} {d r : List Nat} {x : Nat} (e : List.range n = d ++ x :: r) : x = d.length ∧ d = List.range d.length ∧ d.length < n := by
  have hl := congrArg List.length e
  simp at hl
  have hlt : d.length < n := by omega
  have h1 : (List.range n)[d.length]? = some x := by rw [e, List.getElem?_append_right (Nat.le_refl _)]; simp
  rw [List.getElem?_range hlt] at h1
  cases h1
  refine ⟨rfl, ?_, hlt⟩
  have h2 : (List.range n).take d.length = d := by rw [e]; simp
  rw [← h2, List.take_range]
  congr 1
  simp
section
variable (a b : List Str)
noncomputable def moreTo (i : Nat) (m : List (Nat × Nat)) (k : Nat) : List (List (Nat × Nat)) :=
  ((List.range k).filter fun j => decide (a[i]? = b[j]?) && (decide (m = []) || m.getLast?.any fun p => decide (p.2 < j))).map fun j => m ++ [(i, j)]
theorem moreTo_all (i : Nat) (m : List (Nat × Nat)) : moreTo a b i m b.length = moreOf a b i m := rfl
theorem moreTo_succ (i : Nat) (m : List (Nat × Nat)) (k : Nat) : moreTo a b i m (k + 1) = moreTo a b i m k ++ (if (decide (a[i]? = b[k]?) && (decide (m = []) || m.getLast?.any fun p => decide (p.2 < k))) = true then [m ++ [(i, k)]] else []) := by
  unfold moreTo
  rw [List.range_succ, List.filter_append, List.map_append]
  congr 1
  rw [List.filter_cons]
  split <;> simp
theorem moreTo_length (i : Nat) (m : List (Nat × Nat)) (k : Nat) : (moreTo a b i m k).length ≤ k := by
  unfold moreTo
  rw [List.length_map]
  exact Nat.le_trans (List.length_filter_le ..) (by simp)
theorem flat_length (i : Nat) : ∀ ms : List (List (Nat × Nat)), (ms.flatMap (moreOf a b i)).length ≤ ms.length * b.length
  | [] => by simp
  | m :: ms => by
    rw [List.flatMap_cons, List.length_append, List.length_cons, Nat.succ_mul]
    have := flat_length i ms
    have := moreOf_length a b i m
    omega
theorem front_len : ∀ n, ∀ m ∈ frontAt a b n, m.length ≤ n
  | 0, m, h => by simp [frontAt] at h; subst h; simp
  | n + 1, m, h => by
    rw [frontAt, List.mem_append] at h
    rcases h with h | h
    · have := front_len n m h; omega
    · obtain ⟨m', h1, h2⟩ := List.mem_flatMap.mp h
      have := front_len n m' h1
      obtain ⟨j, _, rfl⟩ := List.mem_map.mp h2
      simp; omega
end
theorem canLayAll_pn : ∀ m : List (Nat × Nat), PyData.canLayAll0 (m.map pn) = true
  | [] => rfl
  | p :: m => by simp [PyData.canLayAll0, PyData.canLay0, canLayAll_pn m]
theorem depthAll_pn : ∀ m : List (Nat × Nat), PyData.depthAll (m.map pn) ≤ 1
  | [] => by simp [PyData.depthAll]
  | p :: m => by
    have := depthAll_pn m
    simp only [List.map_cons, PyData.depthAll, PyData.depth]
    omega
theorem shaped_mD (m : List (Nat × Nat)) : SeqAt.shaped (mD m) = true := by
  have := depthAll_pn m
  simp only [SeqAt.shaped, PyData.canLay0, canLayAll_pn, PyData.depth, Bool.true_and, decide_eq_true_eq]
  exact decide_eq_true (by omega)
theorem eqv_mD_nil (m : List (Nat × Nat)) : PyData.eqv (mD m) (.tuple []) = decide (m = []) := by
  cases m with
  | nil => rfl
  | cons p m => rfl
theorem seqIndex_last {n : Nat} (h : 0 < n) : seqIndex? (-1) n = some (n - 1) := by
  unfold seqIndex?
  simp only [show ((-1 : Int) < 0) by decide, if_true]
  rw [if_pos (by simp; omega)]
  congr 1
  omega
theorem SubR.lastM {m : List (Nat × Nat)} {p : Nat × Nat} (h : m.getLast? = some p) : SubR (mD m) (.int (-1)) (pn p) := by
  have hne : m ≠ [] := fun e => by rw [e] at h; cases h
  have hl : 0 < m.length := List.length_pos_iff.mpr hne
  refine .tuple (j := m.length - 1) (by decide) (by decide) (by rw [List.length_map]; exact seqIndex_last hl) ?_
  rw [List.getElem?_map]
  rw [List.getLast?_eq_getElem?] at h
  rw [h]; rfl
theorem x_Lfirstlongest {F : Fx} (X : X_Lfirstlongest F) (hlv : 1 ≤ F.lvl)
    (HW : ∀ (m : List (Nat × Nat)) (n k : Nat), (∀ p ∈ m, p.1 ≤ 100 ∧ p.2 ≤ 100) → m.length ≤ 100 → n ≤ 100 → k ≤ 100 → Fn F.toTx 1 "_law_word" [mD m, .int n, .int k] (.str (wordM n k m)))
    {a b : List Str} (ha : a.length ≤ 5) (hb : b.length ≤ 9) :
    Ex F [some (.dat (ls a)), some (.dat (ls b)), none, none, none, none, none, none, none, none] b_Lfirstlongest (.ret (mD (gm 0 0 a b))) := by
  cases X
  have e0 := sizeLine_eq
  have hpow : ∀ i, i ≤ a.length → (frontAt a b i).length ≤ 100000 := fun i hi => by
    refine Nat.le_trans (front_length a b i) (Nat.le_trans (Nat.pow_le_pow_left (show b.length + 1 ≤ 10 by omega) i) ?_)
    exact Nat.le_trans (Nat.pow_le_pow_right (by decide) (show i ≤ 5 by omega)) (by decide)
  refine Ex.set (i := 2) (d := .list ((frontAt a b 0).map mD)) (Ev.ofNew (EvNew.list (EvL.cons (Ev.tuple EvL.nil (Nat.zero_le _)) EvL.nil rfl) (by simp [frontAt, sizeLine_eq]))) (by assumption) rfl ?_
  refine Ex.forFold 3 (fun k : Nat => PyData.int (k : Int)) (fun done => [some (.dat (ls a)), some (.dat (ls b)), some (.dat (.list ((frontAt a b done.length).map mD))), none, none, none, none, none, none, none]) (List.range a.length) (by assumption)
    (by rw [← rangeD_up]; exact It.range1 (Ev.len (by walk_at "go") (lenD_ls a) (by omega) rfl (by assumption)) (by omega) rfl (by assumption)) (fun _ => rfl) (fun d i r e => ?_) ?_
  · obtain ⟨rfl, -, hi⟩ := range_split e
    rw [List.length_append]
    show Ex F [some (.dat (ls a)), some (.dat (ls b)), some (.dat (.list ((frontAt a b d.length).map mD))), some (.dat (.int d.length)), none, none, none, none, none, none] _ (.next [some (.dat (ls a)), some (.dat (ls b)), some (.dat (.list ((frontAt a b (d.length + 1)).map mD))), none, none, none, none, none, none, none])
    have hf := hpow d.length (by omega)
    have hf1 := hpow (d.length + 1) (by omega)
    generalize d.length = i at hi hf hf1 ⊢
    obtain ⟨x, hx⟩ : ∃ x, a[i]? = some x := ⟨_, List.getElem?_eq_getElem hi⟩
    refine Ex.setNew (i := 4) (d := .list []) (EvNew.list EvL.nil (Nat.zero_le _)) (by assumption) rfl ?_
    refine Ex.forFold 5 mD (fun ms => [some (.dat (ls a)), some (.dat (ls b)), some (.dat (.list ((frontAt a b i).map mD))), some (.dat (.int i)), some (.own (.list ((ms.flatMap (moreOf a b i)).map mD))), none, none, none, none, none]) (frontAt a b i) (by assumption)
      (It.list (by walk_at "go") Lets.name) (fun _ => rfl) (fun ms m rest em => ?_) ?_
    · have hms : ms.length ≤ 100000 := by
        have := congrArg List.length em
        simp at this; omega
      have hfl := flat_length a b i ms
      have hfl' : ms.length * b.length ≤ 900000 := Nat.le_trans (Nat.mul_le_mul hms hb) (by decide)
      rw [List.flatMap_append, List.flatMap_cons, List.flatMap_nil, List.append_nil, ← moreTo_all]
      generalize ms.flatMap (moreOf a b i) = prev at hfl ⊢
      have hml : m.length ≤ 5 := by have := front_len a b i m (by rw [em]; simp); omega
      rw [show List.map mD prev = List.map mD (prev ++ moreTo a b i m 0) by simp [moreTo]]
      refine Ex.forFold 6 (fun k : Nat => PyData.int (k : Int)) (fun js => [some (.dat (ls a)), some (.dat (ls b)), some (.dat (.list ((frontAt a b i).map mD))), some (.dat (.int i)), some (.own (.list ((prev ++ moreTo a b i m js.length).map mD))), some (.dat (mD m)), none, none, none, none]) (List.range b.length) (by assumption)
        (by rw [← rangeD_up]; exact It.range1 (Ev.len (by walk_at "go") (lenD_ls b) (by omega) rfl (by assumption)) (by omega) rfl (by assumption)) (fun _ => rfl) (fun js j rj ej => ?_) ?_
      · obtain ⟨rfl, -, hj⟩ := range_split ej
        rw [List.length_append]
        show Ex F [some (.dat (ls a)), some (.dat (ls b)), some (.dat (.list ((frontAt a b i).map mD))), some (.dat (.int i)), some (.own (.list ((prev ++ moreTo a b i m js.length).map mD))), some (.dat (mD m)), some (.dat (.int js.length)), none, none, none] _
          (.next [some (.dat (ls a)), some (.dat (ls b)), some (.dat (.list ((frontAt a b i).map mD))), some (.dat (.int i)), some (.own (.list ((prev ++ moreTo a b i m (js.length + 1)).map mD))), some (.dat (mD m)), none, none, none, none])
        generalize js.length = j at hj ⊢
        obtain ⟨y, hy⟩ : ∃ y, b[j]? = some y := ⟨_, List.getElem?_eq_getElem hj⟩
        have hmt := moreTo_length a b i m j
        rw [moreTo_succ, hx, hy]
        have sx : SubR (ls a) (.int (i : Int)) (.str x) := .ls i rfl hx (by omega)
        have sy : SubR (ls b) (.int (j : Int)) (.str y) := .ls j rfl hy (by omega)
        by_cases h1 : x = y
        · have t1 := h1
          cases hm : m.getLast? with
          | none =>
            have hm : m = [] := List.getLast?_eq_none_iff.mp hm
            subst hm
            rw [if_pos (by simp [h1])]
            refine Ex.weakenNext (Ex.cons (Ex1.ifT (Tr.bool (TrA.andT (Tr.eq (b := _) (by walk_at "go") (by simpa using h1)) (TrA.andT (Tr.bool (TrA.orT (Tr.eq (Tr.cmp (by walk_at "go") (by walk_at "go") (.eq (shaped_mD []) (by decide)) rfl) (by rw [eqv_mD_nil]; rfl)))) TrA.andNil))) (Ex.cons (Ex1.append 4 (by assumption) rfl (Ev.bin (by walk_at "go") (by walk_at "go") (.addTup (by simp; omega))) (by simp; omega) rfl rfl) Ex.nil)) Ex.nil) ?_
            rw [show List.map mD (prev ++ moreTo a b i [] j) ++ [PyData.tuple (List.map pn [] ++ [pn (i, j)])] = List.map mD (prev ++ (moreTo a b i [] j ++ [[] ++ [(i, j)]])) by simp]
            walk_at "wk"
          | some p =>
            have hne : m ≠ [] := fun e => by rw [e] at hm; cases hm
            have sl := SubR.lastM hm
            by_cases h2 : p.2 < j
            · rw [if_pos (by simp [h1, h2])]
              refine Ex.weakenNext (Ex.cons (Ex1.ifT (Tr.bool (TrA.andT (Tr.eq (b := _) (by walk_at "go") (by simpa using h1)) (TrA.andT (Tr.bool (TrA.orF (Tr.eq (Tr.cmp (by walk_at "go") (by walk_at "go") (.eq (shaped_mD m) (by decide)) rfl) (by rw [eqv_mD_nil]; simpa using hne)) (TrA.orT (Tr.eq (b := _) (by walk_at "go") (by simpa using h2))))) TrA.andNil))) (Ex.cons (Ex1.append 4 (by assumption) rfl (Ev.bin (by walk_at "go") (by walk_at "go") (.addTup (by simp; omega))) (by simp; omega) rfl rfl) Ex.nil)) Ex.nil) ?_
              rw [show List.map mD (prev ++ moreTo a b i m j) ++ [PyData.tuple (List.map pn m ++ [pn (i, j)])] = List.map mD (prev ++ (moreTo a b i m j ++ [m ++ [(i, j)]])) by simp]
              walk_at "wk"
            · rw [if_neg (by simp [h1, h2, hne]), List.append_nil]
              exact Ex.weakenNext (Ex.cons (Ex1.ifF (Tr.bool (TrA.andT (Tr.eq (b := _) (by walk_at "go") (by simpa using h1)) (TrA.andF (Tr.bool (TrA.orF (Tr.eq (Tr.cmp (by walk_at "go") (by walk_at "go") (.eq (shaped_mD m) (by decide)) rfl) (by rw [eqv_mD_nil]; simpa using hne)) (TrA.orF (Tr.eq (b := _) (by walk_at "go") (by simpa using h2)) TrA.orNil)))))) Ex.nil) Ex.nil) (by walk_at "wk")
        · rw [if_neg (by simp [h1]), List.append_nil]
          exact Ex.weakenNext (Ex.cons (Ex1.ifF (Tr.bool (TrA.andF (Tr.eq (b := _) (by walk_at "go") (by simpa using h1)))) Ex.nil) Ex.nil) (by walk_at "wk")
      · rw [List.length_range]
        exact Ex.weakenNext Ex.nil (by walk_at "wk")
    · refine Ex.weakenNext (Ex.freeze (i := 4) (by assumption) rfl (Ex.set (i := 2) (d := .list ((frontAt a b (i + 1)).map mD)) (Ev.eq (Ev.bin (by walk_at "go") (by walk_at "go") (.addList (by
        rw [List.length_map, List.length_map]
        rw [frontAt, List.length_append] at hf1
        omega))) (by rw [frontAt, List.map_append])) (by assumption) rfl Ex.nil)) (by walk_at "wk")
  · rw [List.length_range]
    have hsound := front_sound a b a.length (Nat.le_refl _)
    have hflen := front_len a b a.length
    rw [← first_longest]
    generalize frontAt a b a.length = fr at hsound hflen ⊢
    have hwok : ∀ m ∈ fr, (∀ p ∈ m, p.1 ≤ 100 ∧ p.2 ≤ 100) ∧ m.length ≤ 100 := fun m hm => ⟨fun p hp => by
      have := val_lt (hsound m hm).1 p hp
      omega, by have := hflen m hm; omega⟩
    refine Ex.set (i := 7) (d := mD []) (Ev.tuple EvL.nil (Nat.zero_le _)) (by assumption) rfl ?_
    refine Ex.set (i := 8) (d := .str (wordM a.length b.length [])) (Ev.call' (EvL.cons (by walk_at "go") (EvL.cons (Ev.len (by walk_at "go") (lenD_ls a) (by omega) rfl (by assumption)) (EvL.cons (Ev.len (by walk_at "go") (lenD_ls b) (by omega) rfl (by assumption)) EvL.nil rfl) rfl) rfl)
      (HW [] a.length b.length (by simp) (by simp) (by omega) (by omega)) hlv (by assumption) (fun _ => ⟨_, _, rfl, rfl⟩) (by decide)) (by assumption) rfl ?_
    refine Ex.forFold 5 mD (fun done => [some (.dat (ls a)), some (.dat (ls b)), some (.dat (.list (fr.map mD))), none, none, none, none, some (.dat (mD (pickBest a.length b.length [] done))), some (.dat (.str (wordM a.length b.length (pickBest a.length b.length [] done)))), none]) fr (by assumption)
      (It.list (by walk_at "go") Lets.name) (fun _ => rfl) (fun d m r e => ?_) (Ex.consRet (Ex1.ret (by walk_at "go")))
    obtain ⟨h1, h2⟩ := hwok m (by rw [e]; simp)
    have hpb : (pickBest a.length b.length [] d).length ≤ 100 := by
      unfold pickBest
      have : ∀ (d : List (List (Nat × Nat))) (best : List (Nat × Nat)), best.length ≤ 100 → (∀ m ∈ d, m.length ≤ 100) → (d.foldl (fun best m => if Better a.length b.length m best then m else best) best).length ≤ 100 := by
        intro d
        induction d with
        | nil => intro best h _; exact h
        | cons x d ih =>
          intro best h hd
          rw [List.foldl_cons]
          refine ih _ ?_ fun m hm => hd m (List.mem_cons_of_mem _ hm)
          split
          · exact hd x (List.mem_cons_self ..)
          · exact h
      exact this d [] (by simp) fun m hm => (hwok m (by rw [e]; simp [hm])).2
    have hstep : pickBest a.length b.length [] (d ++ [m]) = if Better a.length b.length m (pickBest a.length b.length [] d) then m else pickBest a.length b.length [] d := by
      unfold pickBest
      rw [List.foldl_append]; rfl
    rw [hstep]
    generalize pickBest a.length b.length [] d = best at hpb ⊢
    refine Ex.set (i := 9) (d := .str (wordM a.length b.length m)) (Ev.call' (EvL.cons (by walk_at "go") (EvL.cons (Ev.len (by walk_at "go") (lenD_ls a) (by omega) rfl (by assumption)) (EvL.cons (Ev.len (by walk_at "go") (lenD_ls b) (by omega) rfl (by assumption)) EvL.nil rfl) rfl) rfl)
      (HW m a.length b.length h1 h2 (by omega) (by omega)) hlv (by assumption) (fun _ => ⟨_, _, rfl, rfl⟩) (by decide)) (by assumption) rfl ?_
    have lenM : ∀ m : List (Nat × Nat), lenD (mD m) = some m.length := fun m => by simp [lenD]
    by_cases g1 : best.length < m.length
    · rw [if_pos (show Better a.length b.length m best from Or.inl g1)]
      exact Ex.weakenNext (Ex.cons (Ex1.ifT (Tr.bool (TrA.orT (Tr.eq (Tr.cmp (Ev.len (by walk_at "go") (lenM m) (by omega) rfl (by assumption)) (Ev.len (by walk_at "go") (lenM best) (by omega) rfl (by assumption)) .gtInt rfl) (by simpa using g1)))) (Ex.set (i := 7) (by walk_at "go") (by assumption) rfl (Ex.set (i := 8) (by walk_at "go") (by assumption) rfl Ex.nil))) Ex.nil) (by walk_at "wk")
    · by_cases g2 : m.length = best.length
      · by_cases g3 : wd a.length b.length 0 0 m < wd a.length b.length 0 0 best
        · rw [if_pos (show Better a.length b.length m best from Or.inr ⟨g2, g3⟩)]
          exact Ex.weakenNext (Ex.cons (Ex1.ifT (Tr.bool (TrA.orF (Tr.eq (Tr.cmp (Ev.len (by walk_at "go") (lenM m) (by omega) rfl (by assumption)) (Ev.len (by walk_at "go") (lenM best) (by omega) rfl (by assumption)) .gtInt rfl) (by simpa using g1)) (TrA.orT (Tr.bool (TrA.andT (Tr.eq (Tr.cmp (Ev.len (by walk_at "go") (lenM m) (by omega) rfl (by assumption)) (Ev.len (by walk_at "go") (lenM best) (by omega) rfl (by assumption)) .eqInt rfl) (by simp only [decide_eq_true_eq, decide_eq_false_iff_not]; omega)) (TrA.andT (Tr.eq (Tr.cmp (by walk_at "go") (by walk_at "go") .ltStr rfl) (by rw [← cd_wordM, ← cd_wordM] at g3; simpa using g3)) TrA.andNil)))))) (Ex.set (i := 7) (by walk_at "go") (by assumption) rfl (Ex.set (i := 8) (by walk_at "go") (by assumption) rfl Ex.nil))) Ex.nil) (by walk_at "wk")
        · rw [if_neg (show ¬ Better a.length b.length m best from fun h => h.elim g1 fun h => g3 h.2)]
          exact Ex.weakenNext (Ex.cons (Ex1.ifF (Tr.bool (TrA.orF (Tr.eq (Tr.cmp (Ev.len (by walk_at "go") (lenM m) (by omega) rfl (by assumption)) (Ev.len (by walk_at "go") (lenM best) (by omega) rfl (by assumption)) .gtInt rfl) (by simpa using g1)) (TrA.orF (Tr.bool (TrA.andT (Tr.eq (Tr.cmp (Ev.len (by walk_at "go") (lenM m) (by omega) rfl (by assumption)) (Ev.len (by walk_at "go") (lenM best) (by omega) rfl (by assumption)) .eqInt rfl) (by simp only [decide_eq_true_eq, decide_eq_false_iff_not]; omega)) (TrA.andF (Tr.eq (Tr.cmp (by walk_at "go") (by walk_at "go") .ltStr rfl) (by rw [← cd_wordM, ← cd_wordM] at g3; simpa using g3))))) TrA.orNil))) Ex.nil) Ex.nil) (by walk_at "wk")
      · rw [if_neg (show ¬ Better a.length b.length m best from fun h => h.elim g1 fun h => g2 h.1)]
        exact Ex.weakenNext (Ex.cons (Ex1.ifF (Tr.bool (TrA.orF (Tr.eq (Tr.cmp (Ev.len (by walk_at "go") (lenM m) (by omega) rfl (by assumption)) (Ev.len (by walk_at "go") (lenM best) (by omega) rfl (by assumption)) .gtInt rfl) (by simpa using g1)) (TrA.orF (Tr.bool (TrA.andF (Tr.eq (Tr.cmp (Ev.len (by walk_at "go") (lenM m) (by omega) rfl (by assumption)) (Ev.len (by walk_at "go") (lenM best) (by omega) rfl (by assumption)) .eqInt rfl) (by simp only [decide_eq_true_eq, decide_eq_false_iff_not]; omega)))) TrA.orNil))) Ex.nil) Ex.nil) (by walk_at "wk")
noncomputable def rowL (a b : List Str) (i : Nat) : List Int := (List.range (b.length + 1)).map fun j : Nat => ((lcs (a.drop i) (b.drop j) : Nat) : Int)
noncomputable def rowsL (a b : List Str) : List (List Int) := (List.range (a.length + 1)).map (rowL a b)
noncomputable abbrev rowD (r : List Int) : PyData := .list (r.map .int)
noncomputable abbrev tabD (rows : List (List Int)) : PyData := .list (rows.map rowD)
theorem rowL_get (a b : List Str) {i j : Nat} (h : j ≤ b.length) : (rowL a b i)[j]? = some ((lcs (a.drop i) (b.drop j) : Nat) : Int) := by
  unfold rowL
  rw [List.getElem?_map, List.getElem?_range (by omega)]; rfl
theorem rowsL_get (a b : List Str) {i : Nat} (h : i ≤ a.length) : (rowsL a b)[i]? = some (rowL a b i) := by
  unfold rowsL
  rw [List.getElem?_map, List.getElem?_range (by omega)]; rfl
theorem SubR.tab {rows : List (List Int)} {x : Int} (i : Nat) {r : List Int} (hx : x = (i : Int)) (h : rows[i]? = some r) (hi : i < 2 ^ 63) : SubR (tabD rows) (.int x) (rowD r) := by
  subst hx
  refine .list (by omega) (by omega) ?_
  rw [Int.toNat_natCast, List.getElem?_map, h]; rfl
theorem SubR.row {r : List Int} {x : Int} (i : Nat) {v : Int} (hx : x = (i : Int)) (h : r[i]? = some v) (hi : i < 2 ^ 63) : SubR (rowD r) (.int x) (.int v) := by
  subst hx
  refine .list (by omega) (by omega) ?_
  rw [Int.toNat_natCast, List.getElem?_map, h]; rfl
theorem val_length {a b : List Str} : ∀ {m : List (Nat × Nat)} {i j : Nat}, Val a b i j m → i ≤ a.length → m.length + i ≤ a.length
  | [], _, _, _, h => by simpa using h
  | (p, q) :: r, i, j, ⟨h1, h2, ⟨x, hx, _⟩, h4⟩, hi => by
    have := (List.getElem?_eq_some_iff.mp hx).1
    have := val_length h4 (by omega)
    simp; omega
theorem gm_length (a b : List Str) : (gm 0 0 a b).length ≤ a.length := by simpa using val_length (gm_val a b) (Nat.zero_le _)
theorem x_matchesof {F : Fx} (X : X_matchesof F) (hlv : 1 ≤ F.lvl) {a b : List Str} (ha : Good a) (hb : Good b) (HT : Fn F.toTx 1 "lcs_table" [ls a, ls b] (tabD (rowsL a b))) :
    Ex F [some (.dat (ls a)), some (.dat (ls b)), none, none, none, none] b_matchesof (.ret (.list ((gm 0 0 a b).map pn))) := by
  cases X
  have e0 := sizeLine_eq
  have hal := ha.len
  have hbl := hb.len
  have hgl := gm_length a b
  refine Ex.set (i := 2) (Ev.call' (EvL.cons (by walk_at "go") (EvL.cons (by walk_at "go") EvL.nil rfl) rfl) HT hlv (by assumption) (fun _ => ⟨_, _, rfl, rfl⟩) (by decide)) (by assumption) rfl ?_
  refine Ex.setNew (i := 3) (d := .list (([] : List (Nat × Nat)).map pn)) (EvNew.list EvL.nil (Nat.zero_le _)) (by assumption) rfl ?_
  refine Ex.set (i := 4) (d := .int ((0 : Nat) : Int)) Ev.int (by assumption) rfl ?_
  refine Ex.set (i := 5) (d := .int ((0 : Nat) : Int)) Ev.int (by assumption) rfl ?_
  refine Ex.whileRun (σ := Nat × Nat × List (Nat × Nat)) (fun s => [some (.dat (ls a)), some (.dat (ls b)), some (.dat (tabD (rowsL a b))), some (.own (.list (s.2.2.map pn))), some (.dat (.int s.1)), some (.dat (.int s.2.1))])
    (fun s => s.1 ≤ a.length ∧ s.2.1 ≤ b.length ∧ s.2.2 ++ gm s.1 s.2.1 (a.drop s.1) (b.drop s.2.1) = gm 0 0 a b) (fun s => s.2.2 = gm 0 0 a b) (fun s => (a.length - s.1) + (b.length - s.2.1)) (0, 0, []) ⟨Nat.zero_le _, Nat.zero_le _, by simp⟩
    (fun ⟨i, j, acc⟩ ⟨h1, h2, h3⟩ => ?_) (fun ⟨i, j, acc⟩ _ hf => ?_)
  · simp only at h1 h2 h3 ⊢
    have hacc : acc.length ≤ 100 := by
      have := congrArg List.length h3
      simp at this; omega
    have lenA : lenD (ls a) = some a.length := lenD_ls a
    have lenB : lenD (ls b) = some b.length := lenD_ls b
    by_cases hi : i < a.length
    · by_cases hj : j < b.length
      · right
        refine ⟨Tr.bool (TrA.andT (Tr.eq (Tr.cmp (by walk_at "go") (Ev.len (by walk_at "go") lenA (by omega) rfl (by assumption)) .ltInt rfl) (by simpa using hi)) (TrA.andT (Tr.eq (Tr.cmp (by walk_at "go") (Ev.len (by walk_at "go") lenB (by omega) rfl (by assumption)) .ltInt rfl) (by simpa using hj)) TrA.andNil)), ?_⟩
        obtain ⟨x, hx⟩ : ∃ x, a[i]? = some x := ⟨_, List.getElem?_eq_getElem hi⟩
        obtain ⟨y, hy⟩ : ∃ y, b[j]? = some y := ⟨_, List.getElem?_eq_getElem hj⟩
        have da : a.drop i = x :: a.drop (i + 1) := by rw [List.drop_eq_getElem_cons hi]; congr 1; exact (List.getElem?_eq_some_iff.mp hx).2
        have db : b.drop j = y :: b.drop (j + 1) := by rw [List.drop_eq_getElem_cons hj]; congr 1; exact (List.getElem?_eq_some_iff.mp hy).2
        have sx : SubR (ls a) (.int (i : Int)) (.str x) := .ls i rfl hx (by omega)
        have sy : SubR (ls b) (.int (j : Int)) (.str y) := .ls j rfl hy (by omega)
        rw [da, db, gm] at h3
        by_cases h : x = y
        · rw [if_pos h] at h3
          refine ⟨(i + 1, j + 1, acc ++ [(i, j)]), ⟨by simp only; omega, by simp only; omega, by simpa using h3⟩, by simp only; omega, ?_⟩
          refine Ex.weakenNext (Ex.cons (Ex1.ifT (Tr.eq (b := _) (by walk_at "go") (by simpa using h)) (Ex.cons (Ex1.append 3 (by assumption) rfl (by walk_at "go") (by simp; omega) rfl rfl) (Ex.cons (Ex1.augAdd 4 (by assumption) rfl (by walk_at "go")) (Ex.cons (Ex1.augAdd 5 (by assumption) rfl (by walk_at "go")) Ex.nil)))) Ex.nil) ?_
          rw [show List.map pn acc ++ [pn (i, j)] = List.map pn (acc ++ [(i, j)]) by simp]
          walk_at "wk"
        · rw [if_neg h, ← da, ← db] at h3
          have s1 : SubR (tabD (rowsL a b)) (.int ((i : Int) + 1)) (rowD (rowL a b (i + 1))) := .tab (i + 1) (by simp) (rowsL_get a b (by omega)) (by omega)
          have s2 : SubR (rowD (rowL a b (i + 1))) (.int (j : Int)) (.int ((lcs (a.drop (i + 1)) (b.drop j) : Nat) : Int)) := .row j rfl (rowL_get a b (by omega)) (by omega)
          have s3 : SubR (tabD (rowsL a b)) (.int (i : Int)) (rowD (rowL a b i)) := .tab i rfl (rowsL_get a b (by omega)) (by omega)
          have s4 : SubR (rowD (rowL a b i)) (.int ((j : Int) + 1)) (.int ((lcs (a.drop i) (b.drop (j + 1)) : Nat) : Int)) := .row (j + 1) (by simp) (rowL_get a b (by omega)) (by omega)
          by_cases hc : lcs (a.drop i) (b.drop (j + 1)) ≤ lcs (a.drop (i + 1)) (b.drop j)
          · rw [if_pos hc] at h3
            refine ⟨(i + 1, j, acc), ⟨by simp only; omega, by simp only; omega, h3⟩, by simp only; omega, ?_⟩
            exact Ex.weakenNext (Ex.cons (Ex1.ifF (Tr.eq (b := _) (by walk_at "go") (by simpa using h)) (Ex.cons (Ex1.ifT (Tr.eq (Tr.cmp (Ev.sub (Ev.sub (by walk_at "go") (by walk_at "go") s1 (fun _ _ => rfl)) (by walk_at "go") s2 (fun _ _ => rfl)) (Ev.sub (Ev.sub (by walk_at "go") (by walk_at "go") s3 (fun _ _ => rfl)) (by walk_at "go") s4 (fun _ _ => rfl)) .geInt rfl) (by simp only [decide_eq_true_eq]; omega)) (Ex.cons (Ex1.augAdd 4 (by assumption) rfl (by walk_at "go")) Ex.nil)) Ex.nil)) Ex.nil) (by walk_at "wk")
          · rw [if_neg hc] at h3
            refine ⟨(i, j + 1, acc), ⟨by simp only; omega, by simp only; omega, h3⟩, by simp only; omega, ?_⟩
            exact Ex.weakenNext (Ex.cons (Ex1.ifF (Tr.eq (b := _) (by walk_at "go") (by simpa using h)) (Ex.cons (Ex1.ifF (Tr.eq (Tr.cmp (Ev.sub (Ev.sub (by walk_at "go") (by walk_at "go") s1 (fun _ _ => rfl)) (by walk_at "go") s2 (fun _ _ => rfl)) (Ev.sub (Ev.sub (by walk_at "go") (by walk_at "go") s3 (fun _ _ => rfl)) (by walk_at "go") s4 (fun _ _ => rfl)) .geInt rfl) (by simp only [decide_eq_false_iff_not]; omega)) (Ex.cons (Ex1.augAdd 5 (by assumption) rfl (by walk_at "go")) Ex.nil)) Ex.nil)) Ex.nil) (by walk_at "wk")
      · left
        refine ⟨?_, Tr.bool (TrA.andT (Tr.eq (Tr.cmp (by walk_at "go") (Ev.len (by walk_at "go") lenA (by omega) rfl (by assumption)) .ltInt rfl) (by simpa using hi)) (TrA.andF (Tr.eq (Tr.cmp (by walk_at "go") (Ev.len (by walk_at "go") lenB (by omega) rfl (by assumption)) .ltInt rfl) (by simpa using hj))))⟩
        rw [List.drop_eq_nil_of_le (show b.length ≤ j by omega)] at h3
        have : gm i j (a.drop i) ([] : List Str) = [] := by cases a.drop i <;> simp [gm]
        rw [this, List.append_nil] at h3
        exact h3
    · left
      refine ⟨?_, Tr.bool (TrA.andF (Tr.eq (Tr.cmp (by walk_at "go") (Ev.len (by walk_at "go") lenA (by omega) rfl (by assumption)) .ltInt rfl) (by simpa using hi)))⟩
      rw [List.drop_eq_nil_of_le (show a.length ≤ i by omega)] at h3
      simpa [gm] using h3
  · simp only at hf
    subst hf
    exact Ex.freeze (i := 3) (by assumption) rfl (Ex.consRet (Ex1.ret (by walk_at "go")))
section
variable {F : Fx} {ρ : List (Option AV)}
theorem TrA.andB {e : Expr} {es : List Expr} {b b' : Bool} (h : Tr F ρ e b) (hs : b = true → TrA F ρ .And es b') : TrA F ρ .And (e :: es) (b && b') := by
  cases b with
  | true => exact TrA.andT h (hs rfl)
  | false => exact TrA.andF h
theorem TrA.orB {e : Expr} {es : List Expr} {b b' : Bool} (h : Tr F ρ e b) (hs : b = false → TrA F ρ .Or es b') : TrA F ρ .Or (e :: es) (b || b') := by
  cases b with
  | true => exact TrA.orT h
  | false => exact TrA.orF h (hs rfl)
end
noncomputable abbrev chD (c : Chunk Str) : PyData := .tuple [.str (kstr c.1), ls c.2.1, ls c.2.2.1, ls c.2.2.2]
noncomputable def ip (p : Nat × Nat) : Int × Int := ((p.1 : Int), (p.2 : Int))
theorem lookup_ip (p : Nat) : ∀ m : List (Nat × Nat), (m.map ip).lookup (p : Int) = (m.lookup p).map (fun q : Nat => (q : Int))
  | [] => rfl
  | (u, v) :: m => by
    simp only [List.map_cons, ip, List.lookup_cons]
    by_cases e : p = u
    · subst e; simp
    · have h1 : (p == u) = false := by simpa using e
      have h2 : ((p : Int) == (u : Int)) = false := by simp; omega
      rw [h1, h2]; exact lookup_ip p m
theorem val_keys {a b : List Str} : ∀ {m : List (Nat × Nat)} {i j : Nat}, Val a b i j m → (m.map (·.1)).Pairwise (· < ·)
  | [], _, _, _ => .nil
  | (p, q) :: r, i, j, ⟨h1, h2, h3, h4⟩ => by
    simp only [List.map_cons, List.pairwise_cons]
    refine ⟨fun x hx => ?_, val_keys h4⟩
    obtain ⟨y, hy, rfl⟩ := List.mem_map.mp hx
    have := (val_lt h4 y hy).2.2.1
    omega
theorem gm_new {a b : List Str} {d r : List (Nat × Nat)} {p : Nat × Nat} (e : gm 0 0 a b = d ++ p :: r) : (p.1 : Int) ∉ (d.map ip).map (·.1) := by
  intro h
  obtain ⟨y, hy, e1⟩ := List.mem_map.mp h
  obtain ⟨z, hz, rfl⟩ := List.mem_map.mp hy
  have e1 : (z.1 : Int) = p.1 := e1
  have hk := val_keys (gm_val a b)
  rw [e, List.map_append, List.map_cons, List.pairwise_append] at hk
  have := hk.2.2 z.1 (List.mem_map_of_mem hz) p.1 (List.mem_cons_self ..)
  omega
theorem gm_nodup (a b : List Str) : (((gm 0 0 a b).map ip).map (·.1)).Nodup := by
  rw [List.map_map]
  have hk := val_keys (gm_val a b)
  have : ((gm 0 0 a b).map ((fun p : Int × Int => p.1) ∘ ip)) = ((gm 0 0 a b).map (·.1)).map (fun n : Nat => (n : Int)) := by
    rw [List.map_map]; rfl
  rw [this, List.Nodup, List.pairwise_map]
  exact hk.imp fun h => by omega
theorem LC_length (base ours theirs : List Str) : ∀ (st : List (Nat × Nat × Nat)) (run : List Str) (i o t : Nat), (LC base ours theirs run i o t st).length ≤ 2 * st.length + 1
  | [], run, _, _, _ => by rw [LC]; unfold flush; split <;> simp
  | (p, q, r) :: rest, run, i, o, t => by
    rw [LC]
    split
    · have := LC_length base ours theirs rest (run ++ sl base p (p + 1)) (p + 1) (q + 1) (r + 1)
      simp only [List.length_cons]; omega
    · have := LC_length base ours theirs rest (sl base p (p + 1)) (p + 1) (q + 1) (r + 1)
      have hf : (flush run).length ≤ 1 := by unfold flush; split <;> simp
      simp only [List.length_cons, List.length_append]; omega
theorem stopsFrom_length (mo mt : Nat → Option Nat) (nb i : Nat) : (stopsFrom mo mt nb i).length ≤ nb := by
  unfold stopsFrom
  refine Nat.le_trans (List.length_filterMap_le ..) ?_
  simp
theorem first_not (P : Nat → Prop) [DecidablePred P] : ∀ B, ¬ P B → ∃ n, n ≤ B ∧ (∀ k, k < n → P k) ∧ ¬ P n := by
  intro B
  induction B using Nat.strongRecOn with
  | _ B ih =>
    intro hB
    by_cases h : ∀ k, k < B → P k
    · exact ⟨B, Nat.le_refl _, h, hB⟩
    · have : ∃ k, k < B ∧ ¬ P k := by
        apply Classical.byContradiction
        intro hn
        exact h fun k hk => Classical.byContradiction fun hp => hn ⟨k, hk, hp⟩
      obtain ⟨k, hk, hp⟩ := this
      obtain ⟨n, h1, h2, h3⟩ := ih k hk hp
      exact ⟨n, by omega, h2, h3⟩
theorem first_uniq {P : Nat → Prop} {n f : Nat} (h1 : ∀ k, k < n → P k) (h2 : ¬ P n) (h3 : ∀ k, k < f → P k) (h4 : ¬ P f) : f = n := by
  rcases Nat.lt_trichotomy f n with h | h | h
  · exact absurd (h1 f h) h4
  · exact h
  · exact absurd (h3 n h) h2
noncomputable abbrev cV (base ours theirs : List Str) (e1 e2 : List (Int × Int)) (acc : List (Chunk Str)) (i o t : Nat) (n ie oe te kd : Option AV) : List (Option AV) :=
  [some (.dat (ls base)), some (.dat (ls ours)), some (.dat (ls theirs)), some (.dat (imap e1)), none, some (.dat (imap e2)), some (.own (.list (acc.map chD))), some (.dat (.int i)), some (.dat (.int o)), some (.dat (.int t)), n, ie, oe, te, kd]
noncomputable def theChunks (base ours theirs : List Str) : List (Chunk Str) := LC base ours theirs [] 0 0 0 (stopsEnd base ours theirs (fun p => (gm 0 0 base ours).lookup p) (fun p => (gm 0 0 base theirs).lookup p) 0)
theorem theChunks_length {base ours theirs : List Str} (h : base.length ≤ 100) : (theChunks base ours theirs).length ≤ 203 := by
  unfold theChunks
  refine Nat.le_trans (LC_length ..) ?_
  have := stopsFrom_length (fun p => (gm 0 0 base ours).lookup p) (fun p => (gm 0 0 base theirs).lookup p) base.length 0
  simp only [stopsEnd, List.length_append, List.length_cons, List.length_nil]
  omega
theorem x_chunksof {F : Fx} (X : X_chunksof F) (hlv : 2 ≤ F.lvl) {base ours theirs : List Str} (hb : Good base) (ho : Good ours) (ht : Good theirs)
    (HM1 : Fn F.toTx 2 "matches_of" [ls base, ls ours] (.list ((gm 0 0 base ours).map pn))) (HM2 : Fn F.toTx 2 "matches_of" [ls base, ls theirs] (.list ((gm 0 0 base theirs).map pn)))
    (HK : ∀ b o t : List Str, Good b → Good o → Good t → Fn F.toTx 1 "chunk_kind" [ls b, ls o, ls t] (.str (kstr (ck b o t)))) :
    Ex F [some (.dat (ls base)), some (.dat (ls ours)), some (.dat (ls theirs)), none, none, none, none, none, none, none, none, none, none, none, none] b_chunksof (.ret (.list ((theChunks base ours theirs).map chD))) := by
  cases X
  have e0 := sizeLine_eq
  have hbl := hb.len
  have hol := ho.len
  have htl := ht.len
  have hg1 := gm_length base ours
  have hg2 := gm_length base theirs
  have htot := theChunks_length (ours := ours) (theirs := theirs) hbl
  refine Ex.setNew (i := 3) (d := imap (([] : List (Nat × Nat)).map ip)) EvNew.dictNil (by assumption) rfl ?_
  refine Ex.forFold 4 pn (fun done => [some (.dat (ls base)), some (.dat (ls ours)), some (.dat (ls theirs)), some (.own (imap (done.map ip))), none, none, none, none, none, none, none, none, none, none, none]) (gm 0 0 base ours) (by assumption)
    (It.list (Ev.call' (EvL.cons (by walk_at "go") (EvL.cons (by walk_at "go") EvL.nil rfl) rfl) HM1 hlv (by assumption) (fun _ => ⟨_, _, rfl, rfl⟩) (by decide)) Lets.name) (fun _ => rfl) (fun d p r e => ?_) ?_
  · refine Ex.weakenNext (Ex.cons (Ex1.setDict 3 (by assumption) rfl (by walk_at "go") (by walk_at "go") (gm_new e) (by have := congrArg List.length e; simp at this ⊢; omega) rfl) Ex.nil) ?_
    rw [show d.map ip ++ [((p.1 : Int), (p.2 : Int))] = (d ++ [p]).map ip by simp [ip]]
    walk_at "wk"
  refine Ex.freeze (i := 3) (by assumption) rfl ?_
  refine Ex.setNew (i := 5) (d := imap (([] : List (Nat × Nat)).map ip)) EvNew.dictNil (by assumption) rfl ?_
  refine Ex.forFold 4 pn (fun done => [some (.dat (ls base)), some (.dat (ls ours)), some (.dat (ls theirs)), some (.dat (imap ((gm 0 0 base ours).map ip))), none, some (.own (imap (done.map ip))), none, none, none, none, none, none, none, none, none]) (gm 0 0 base theirs) (by assumption)
    (It.list (Ev.call' (EvL.cons (by walk_at "go") (EvL.cons (by walk_at "go") EvL.nil rfl) rfl) HM2 hlv (by assumption) (fun _ => ⟨_, _, rfl, rfl⟩) (by decide)) Lets.name) (fun _ => rfl) (fun d p r e => ?_) ?_
  · refine Ex.weakenNext (Ex.cons (Ex1.setDict 5 (by assumption) rfl (by walk_at "go") (by walk_at "go") (gm_new e) (by have := congrArg List.length e; simp at this ⊢; omega) rfl) Ex.nil) ?_
    rw [show d.map ip ++ [((p.1 : Int), (p.2 : Int))] = (d ++ [p]).map ip by simp [ip]]
    walk_at "wk"
  refine Ex.freeze (i := 5) (by assumption) rfl ?_
  have H1 := gm_MP base ours
  have H2 := gm_MP base theirs
  have L1 : ∀ p : Nat, ((gm 0 0 base ours).map ip).lookup (p : Int) = ((gm 0 0 base ours).lookup p).map (fun q : Nat => (q : Int)) := fun p => lookup_ip p _
  have L2 : ∀ p : Nat, ((gm 0 0 base theirs).map ip).lookup (p : Int) = ((gm 0 0 base theirs).lookup p).map (fun q : Nat => (q : Int)) := fun p => lookup_ip p _
  have Htc : theChunks base ours theirs = LC base ours theirs [] 0 0 0 (stopsEnd base ours theirs (fun p => (gm 0 0 base ours).lookup p) (fun p => (gm 0 0 base theirs).lookup p) 0) := rfl
  generalize theChunks base ours theirs = total at Htc htot ⊢
  refine Ex.setNew (i := 6) (d := .list (([] : List (Chunk Str)).map chD)) (EvNew.list EvL.nil (Nat.zero_le _)) (by assumption) rfl ?_
  refine Ex.set (i := 7) (d := .int ((0 : Nat) : Int)) Ev.int (by assumption) rfl ?_
  refine Ex.set (i := 8) (d := .int ((0 : Nat) : Int)) Ev.int (by assumption) rfl ?_
  refine Ex.set (i := 9) (d := .int ((0 : Nat) : Int)) Ev.int (by assumption) rfl ?_
  generalize (gm 0 0 base ours).map ip = e1 at L1 ⊢
  generalize (gm 0 0 base theirs).map ip = e2 at L2 ⊢
  generalize hmo : (fun p => (gm 0 0 base ours).lookup p) = mo at H1 Htc
  generalize hmt : (fun p => (gm 0 0 base theirs).lookup p) = mt at H2 Htc
  have L1 : ∀ p : Nat, e1.lookup (p : Int) = (mo p).map (fun q : Nat => (q : Int)) := fun p => by rw [L1, ← hmo]
  have L2 : ∀ p : Nat, e2.lookup (p : Int) = (mt p).map (fun q : Nat => (q : Int)) := fun p => by rw [L2, ← hmt]
  have lenB : lenD (ls base) = some base.length := lenD_ls _
  have lenO : lenD (ls ours) = some ours.length := lenD_ls _
  have lenT : lenD (ls theirs) = some theirs.length := lenD_ls _
  clear hmo hmt HM1 HM2
  refine Ex.whileRun (σ := Nat × Nat × Nat × List (Chunk Str)) (fun s => cV base ours theirs e1 e2 s.2.2.2 s.1 s.2.1 s.2.2.1 none none none none none)
    (fun s => InvS base ours theirs mo mt s.1 s.2.1 s.2.2.1 ∧ s.2.2.2 ++ LC base ours theirs [] s.1 s.2.1 s.2.2.1 (stopsEnd base ours theirs mo mt s.1) = total)
    (fun s => s.2.2.2 = total) (fun s => (base.length - s.1) + (ours.length - s.2.1) + (theirs.length - s.2.2.1)) (0, 0, 0, []) ⟨InvS.zero, Htc.symm⟩ (fun ⟨i, o, t, acc⟩ ⟨I, hacc⟩ => ?_) (fun ⟨i, o, t, acc⟩ _ hf => ?_)
  · simp only at I hacc ⊢
    have hi := I.hi
    have ho' := I.ho
    have ht' := I.ht
    have haccl : acc.length ≤ 203 := by
      have := congrArg List.length hacc
      simp at this; omega
    by_cases hgo : i < base.length ∨ o < ours.length ∨ t < theirs.length
    · right
      refine ⟨Tr.eq (Tr.bool (TrA.orB (Tr.cmp (by walk_at "go") (Ev.len (by walk_at "go") lenB (by omega) rfl (by assumption)) .ltInt rfl) fun _ => TrA.orB (Tr.cmp (by walk_at "go") (Ev.len (by walk_at "go") lenO (by omega) rfl (by assumption)) .ltInt rfl) fun _ => TrA.orB (Tr.cmp (by walk_at "go") (Ev.len (by walk_at "go") lenT (by omega) rfl (by assumption)) .ltInt rfl) fun _ => TrA.orNil)) (by simpa using hgo), ?_⟩
      obtain ⟨n, hnB, hn1, hn2⟩ := first_not (fun k => i + k < base.length ∧ mo (i + k) = some (o + k) ∧ mt (i + k) = some (t + k)) (base.length - i) (by intro h; omega)
      -- the run
      have stepN : ∀ {test : Expr} {body : List Stmt}, (∀ f : Nat, Tr F (cV base ours theirs e1 e2 acc i o t (some (.dat (.int f))) none none none none) test (decide (i + f < base.length) && ((mo (i + f)).isSome && ((mt (i + f)).isSome && (decide (mo (i + f) = some (o + f)) && (decide (mt (i + f) = some (t + f)) && true)))))) →
          (∀ f : Nat, Ex F (cV base ours theirs e1 e2 acc i o t (some (.dat (.int f))) none none none none) body (.next (cV base ours theirs e1 e2 acc i o t (some (.dat (.int ((f + 1 : Nat) : Int)))) none none none none))) →
          ∀ f : Nat, (∀ k, k < f → i + k < base.length ∧ mo (i + k) = some (o + k) ∧ mt (i + k) = some (t + k)) →
            (¬ (i + f < base.length ∧ mo (i + f) = some (o + f) ∧ mt (i + f) = some (t + f)) ∧ Tr F (cV base ours theirs e1 e2 acc i o t (some (.dat (.int f))) none none none none) test false) ∨
            (Tr F (cV base ours theirs e1 e2 acc i o t (some (.dat (.int f))) none none none none) test true ∧ ∃ f' : Nat, (∀ k, k < f' → i + k < base.length ∧ mo (i + k) = some (o + k) ∧ mt (i + k) = some (t + k)) ∧ base.length - (i + f') < base.length - (i + f) ∧
              Ex F (cV base ours theirs e1 e2 acc i o t (some (.dat (.int f))) none none none none) body (.next (cV base ours theirs e1 e2 acc i o t (some (.dat (.int f'))) none none none none))) := by
        intro test body ht hb f hR
        have hT := ht f
        by_cases hc : i + f < base.length ∧ mo (i + f) = some (o + f) ∧ mt (i + f) = some (t + f)
        · right
          refine ⟨Tr.eq hT (by simp [hc.1, hc.2.1, hc.2.2]), f + 1, fun k hk => ?_, by omega, hb f⟩
          by_cases e : k = f
          · rw [e]; exact hc
          · exact hR k (by omega)
        · left
          refine ⟨hc, Tr.eq hT ?_⟩
          cases hv : (decide (i + f < base.length) && ((mo (i + f)).isSome && ((mt (i + f)).isSome && (decide (mo (i + f) = some (o + f)) && (decide (mt (i + f) = some (t + f)) && true))))) with
          | false => rfl
          | true =>
            simp only [Bool.and_eq_true, decide_eq_true_eq] at hv
            exact absurd ⟨hv.1, hv.2.2.2.1, hv.2.2.2.2.1⟩ hc
      have c1' : ∀ f : Nat, ((i : Int) + (f : Int)) = ((i + f : Nat) : Int) := fun f => by simp
      by_cases hn : 0 < n
      · obtain ⟨eLC, I'⟩ := turn_run H1 H2 hn I hn1 hn2
        have hI' := I'.hi
        have hnn := hn1 (n - 1) (by omega)
        refine ⟨(i + n, o + n, t + n, acc ++ [(.same, sl base i (i + n), sl ours o (o + n), sl theirs t (t + n))]), ⟨I', by rw [eLC] at hacc; simpa using hacc⟩, by simp only; omega, ?_⟩
        refine Ex.set (i := 10) (d := .int ((0 : Nat) : Int)) Ev.int (by assumption) rfl ?_
        refine Ex.whileRun (σ := Nat) (fun k => cV base ours theirs e1 e2 acc i o t (some (.dat (.int k))) none none none none) (fun f => ∀ k, k < f → i + k < base.length ∧ mo (i + k) = some (o + k) ∧ mt (i + k) = some (t + k))
          (fun f => ¬ (i + f < base.length ∧ mo (i + f) = some (o + f) ∧ mt (i + f) = some (t + f))) (fun f => base.length - (i + f)) 0 (fun k hk => absurd hk (Nat.not_lt_zero _)) (stepN (fun f => by
            have c1 := c1' f
            exact Tr.bool (TrA.andB (Tr.eq (Tr.cmp (by walk_at "go") (Ev.len (by walk_at "go") lenB (by omega) rfl (by assumption)) .ltInt rfl) (show _ = decide (i + f < base.length) by apply decide_eq_decide.mpr; omega)) fun h1 => TrA.andB (Tr.eq (Tr.cmp (by walk_at "go") (by walk_at "go") .inMap rfl) (show _ = (mo (i + f)).isSome by rw [c1, L1]; simp)) fun h2 => TrA.andB (Tr.eq (Tr.cmp (by walk_at "go") (by walk_at "go") .inMap rfl) (show _ = (mt (i + f)).isSome by rw [c1, L2]; simp)) fun h3 => by
            obtain ⟨q, hq⟩ := Option.isSome_iff_exists.mp h2
            obtain ⟨r, hr⟩ := Option.isSome_iff_exists.mp h3
            have sq : SubR (imap e1) (.int ((i : Int) + (f : Int))) (.int (q : Int)) := .map (by rw [c1, L1, hq]; rfl)
            have sr : SubR (imap e2) (.int ((i : Int) + (f : Int))) (.int (r : Int)) := .map (by rw [c1, L2, hr]; rfl)
            exact TrA.andB (Tr.eq (Tr.cmp (Ev.sub (by walk_at "go") (by walk_at "go") sq (fun _ _ => rfl)) (by walk_at "go") .eqInt rfl) (show _ = decide (mo (i + f) = some (o + f)) by rw [hq]; simp only [Option.some.injEq]; apply decide_eq_decide.mpr; omega)) fun _ => TrA.andB (Tr.eq (Tr.cmp (Ev.sub (by walk_at "go") (by walk_at "go") sr (fun _ _ => rfl)) (by walk_at "go") .eqInt rfl) (show _ = decide (mt (i + f) = some (t + f)) by rw [hr]; simp only [Option.some.injEq]; apply decide_eq_decide.mpr; omega)) fun _ => TrA.andNil)) (fun f => Ex.weakenNext (Ex.cons (Ex1.augAdd 10 (by assumption) rfl (by walk_at "go")) Ex.nil) (by walk_at "wk"))) (fun f hR hS => ?_)
        have := first_uniq (P := fun k => i + k < base.length ∧ mo (i + k) = some (o + k) ∧ mt (i + k) = some (t + k)) hn1 hn2 hR hS
        subst this
        refine Ex.weakenNext (Ex.cons (Ex1.ifT (Tr.eq (b := _) (by walk_at "go") (by simpa using hn)) (Ex.cons (Ex1.append 6 (d := chD (.same, sl base i (i + f), sl ours o (o + f), sl theirs t (t + f))) (by assumption) rfl (Ev.tuple (EvL.cons Ev.str (EvL.cons (Ev.ofNew (EvNew.sliceLs i (i + f) (by walk_at "go") (by walk_at "go") (by walk_at "go") rfl (by simp) hb.le (fun _ _ => rfl))) (EvL.cons (Ev.ofNew (EvNew.sliceLs o (o + f) (by walk_at "go") (by walk_at "go") (by walk_at "go") rfl (by simp) ho.le (fun _ _ => rfl))) (EvL.cons (Ev.ofNew (EvNew.sliceLs t (t + f) (by walk_at "go") (by walk_at "go") (by walk_at "go") rfl (by simp) ht.le (fun _ _ => rfl))) EvL.nil rfl) rfl) rfl) rfl) (by rw [e0]; simp)) (by simp; omega) rfl rfl)
          (Ex.cons (Ex1.augAdd 7 (by assumption) rfl (by walk_at "go")) (Ex.cons (Ex1.augAdd 8 (by assumption) rfl (by walk_at "go")) (Ex.cons (Ex1.augAdd 9 (by assumption) rfl (by walk_at "go")) Ex.nil))))) Ex.nil) ?_
        rw [show List.map chD acc ++ [chD (.same, sl base i (i + f), sl ours o (o + f), sl theirs t (t + f))] = List.map chD (acc ++ [(.same, sl base i (i + f), sl ours o (o + f), sl theirs t (t + f))]) by simp]
        walk_at "wk"
      · have hn0 : n = 0 := by omega
        subst hn0
        have hnot : ¬ (i < base.length ∧ mo i = some o ∧ mt i = some t) := by simpa using hn2
        obtain ⟨m, hmB, hm1, hm2⟩ := first_not (fun k => i + k < base.length ∧ ¬ ((mo (i + k)).isSome = true ∧ (mt (i + k)).isSome = true)) (base.length - i) (by intro h; omega)
        have hskip : ∀ p, i ≤ p → p < i + m → ¬ ((mo p).isSome = true ∧ (mt p).isSome = true) := fun p h1 h2 => by
          have := (hm1 (p - i) (by omega)).2
          rwa [show i + (p - i) = p by omega] at this
        obtain ⟨oe, te, hend⟩ : ∃ oe te, (i + m < base.length ∧ mo (i + m) = some oe ∧ mt (i + m) = some te) ∨ (i + m = base.length ∧ oe = ours.length ∧ te = theirs.length) := by
          by_cases hlt : i + m < base.length
          · have : (mo (i + m)).isSome = true ∧ (mt (i + m)).isSome = true := Classical.byContradiction fun h => hm2 ⟨hlt, h⟩
            obtain ⟨q, hq⟩ := Option.isSome_iff_exists.mp this.1
            obtain ⟨r, hr⟩ := Option.isSome_iff_exists.mp this.2
            exact ⟨q, r, .inl ⟨hlt, hq, hr⟩⟩
          · exact ⟨_, _, .inr ⟨by omega, rfl, rfl⟩⟩
        obtain ⟨eLC, I', hoe, hte, hprog⟩ := turn_gap H1 H2 I hnot hgo (Nat.le_add_right i m) (fun p h1 h2 q r hq hr => hskip p h1 h2 ⟨by rw [hq]; rfl, by rw [hr]; rfl⟩) hend
        have hI1 := I'.hi
        have hI2 := I'.ho
        have hI3 := I'.ht
        refine ⟨(i + m, oe, te, acc ++ [(ck (sl base i (i + m)) (sl ours o oe) (sl theirs t te), sl base i (i + m), sl ours o oe, sl theirs t te)]), ⟨I', by rw [eLC] at hacc; simpa using hacc⟩, by simp only; omega, ?_⟩
        refine Ex.set (i := 10) (d := .int ((0 : Nat) : Int)) Ev.int (by assumption) rfl ?_
        refine Ex.whileRun (σ := Nat) (fun k => cV base ours theirs e1 e2 acc i o t (some (.dat (.int k))) none none none none) (fun f => ∀ k, k < f → i + k < base.length ∧ mo (i + k) = some (o + k) ∧ mt (i + k) = some (t + k))
          (fun f => ¬ (i + f < base.length ∧ mo (i + f) = some (o + f) ∧ mt (i + f) = some (t + f))) (fun f => base.length - (i + f)) 0 (fun k hk => absurd hk (Nat.not_lt_zero _)) (stepN (fun f => by
            have c1 := c1' f
            exact Tr.bool (TrA.andB (Tr.eq (Tr.cmp (by walk_at "go") (Ev.len (by walk_at "go") lenB (by omega) rfl (by assumption)) .ltInt rfl) (show _ = decide (i + f < base.length) by apply decide_eq_decide.mpr; omega)) fun h1 => TrA.andB (Tr.eq (Tr.cmp (by walk_at "go") (by walk_at "go") .inMap rfl) (show _ = (mo (i + f)).isSome by rw [c1, L1]; simp)) fun h2 => TrA.andB (Tr.eq (Tr.cmp (by walk_at "go") (by walk_at "go") .inMap rfl) (show _ = (mt (i + f)).isSome by rw [c1, L2]; simp)) fun h3 => by
            obtain ⟨q, hq⟩ := Option.isSome_iff_exists.mp h2
            obtain ⟨r, hr⟩ := Option.isSome_iff_exists.mp h3
            have sq : SubR (imap e1) (.int ((i : Int) + (f : Int))) (.int (q : Int)) := .map (by rw [c1, L1, hq]; rfl)
            have sr : SubR (imap e2) (.int ((i : Int) + (f : Int))) (.int (r : Int)) := .map (by rw [c1, L2, hr]; rfl)
            exact TrA.andB (Tr.eq (Tr.cmp (Ev.sub (by walk_at "go") (by walk_at "go") sq (fun _ _ => rfl)) (by walk_at "go") .eqInt rfl) (show _ = decide (mo (i + f) = some (o + f)) by rw [hq]; simp only [Option.some.injEq]; apply decide_eq_decide.mpr; omega)) fun _ => TrA.andB (Tr.eq (Tr.cmp (Ev.sub (by walk_at "go") (by walk_at "go") sr (fun _ _ => rfl)) (by walk_at "go") .eqInt rfl) (show _ = decide (mt (i + f) = some (t + f)) by rw [hr]; simp only [Option.some.injEq]; apply decide_eq_decide.mpr; omega)) fun _ => TrA.andNil)) (fun f => Ex.weakenNext (Ex.cons (Ex1.augAdd 10 (by assumption) rfl (by walk_at "go")) Ex.nil) (by walk_at "wk"))) (fun f hR hS => ?_)
        have := first_uniq (P := fun k => i + k < base.length ∧ mo (i + k) = some (o + k) ∧ mt (i + k) = some (t + k)) hn1 hn2 hR hS
        subst this
        refine Ex.cons (Ex1.ifF (Tr.eq (b := _) (by walk_at "go") (by simp)) ?_) Ex.nil
        refine Ex.set (i := 11) (d := .int ((i + 0 : Nat) : Int)) (by walk_at "go") (by assumption) rfl ?_
        refine Ex.whileRun (σ := Nat) (fun k => cV base ours theirs e1 e2 acc i o t (some (.dat (.int ((0 : Nat) : Int)))) (some (.dat (.int ((i + k : Nat) : Int)))) none none none) (fun f => ∀ k, k < f → i + k < base.length ∧ ¬ ((mo (i + k)).isSome = true ∧ (mt (i + k)).isSome = true))
          (fun f => ¬ (i + f < base.length ∧ ¬ ((mo (i + f)).isSome = true ∧ (mt (i + f)).isSome = true))) (fun f => base.length - (i + f)) 0 (fun k hk => absurd hk (Nat.not_lt_zero _)) (fun f hR => ?_) (fun f hR hS => ?_)
        · by_cases hc : i + f < base.length ∧ ¬ ((mo (i + f)).isSome = true ∧ (mt (i + f)).isSome = true)
          · right
            refine ⟨Tr.eq (Tr.bool (TrA.andB (Tr.eq (Tr.cmp (by walk_at "go") (Ev.len (by walk_at "go") lenB (by omega) rfl (by assumption)) .ltInt rfl) (show _ = decide (i + f < base.length) by apply decide_eq_decide.mpr; omega)) fun _ => TrA.andB (Tr.not (Tr.bool (TrA.andB (Tr.eq (Tr.cmp (by walk_at "go") (by walk_at "go") .inMap rfl) (show _ = (mo (i + f)).isSome by rw [L1]; simp)) fun _ => TrA.andB (Tr.eq (Tr.cmp (by walk_at "go") (by walk_at "go") .inMap rfl) (show _ = (mt (i + f)).isSome by rw [L2]; simp)) fun _ => TrA.andNil))) fun _ => TrA.andNil)) (by
                have h1 := hc.1
                have h2 := hc.2
                cases ha : (mo (i + f)).isSome <;> cases hb : (mt (i + f)).isSome <;> simp_all), f + 1, fun k hk => ?_, by omega, Ex.weakenNext (Ex.cons (Ex1.augAdd 11 (by assumption) rfl (by walk_at "go")) Ex.nil) (by walk_at "wk")⟩
            by_cases e : k = f
            · rw [e]; exact hc
            · exact hR k (by omega)
          · left
            refine ⟨hc, Tr.eq (Tr.bool (TrA.andB (Tr.eq (Tr.cmp (by walk_at "go") (Ev.len (by walk_at "go") lenB (by omega) rfl (by assumption)) .ltInt rfl) (show _ = decide (i + f < base.length) by apply decide_eq_decide.mpr; omega)) fun _ => TrA.andB (Tr.not (Tr.bool (TrA.andB (Tr.eq (Tr.cmp (by walk_at "go") (by walk_at "go") .inMap rfl) (show _ = (mo (i + f)).isSome by rw [L1]; simp)) fun _ => TrA.andB (Tr.eq (Tr.cmp (by walk_at "go") (by walk_at "go") .inMap rfl) (show _ = (mt (i + f)).isSome by rw [L2]; simp)) fun _ => TrA.andNil))) fun _ => TrA.andNil)) ?_⟩
            cases ha : (mo (i + f)).isSome <;> cases hb : (mt (i + f)).isSome <;> simp_all
        have := first_uniq (P := fun k => i + k < base.length ∧ ¬ ((mo (i + k)).isSome = true ∧ (mt (i + k)).isSome = true)) hm1 hm2 hR hS
        subst this
        refine Ex.set (i := 12) (Ev.len (by walk_at "go") lenO (by omega) rfl (by assumption)) (by assumption) rfl ?_
        refine Ex.set (i := 13) (Ev.len (by walk_at "go") lenT (by omega) rfl (by assumption)) (by assumption) rfl ?_
        have fin : ∀ {rest : List Stmt} {out : Out}, Ex F (cV base ours theirs e1 e2 acc i o t (some (.dat (.int ((0 : Nat) : Int)))) (some (.dat (.int ((i + f : Nat) : Int)))) (some (.dat (.int (oe : Int)))) (some (.dat (.int (te : Int)))) none) rest out → ∀ {test : Expr} {body : List Stmt} {pos : Pos},
            (i + f < base.length → ∀ {q r : Nat}, mo (i + f) = some q → mt (i + f) = some r → Ex F (cV base ours theirs e1 e2 acc i o t (some (.dat (.int ((0 : Nat) : Int)))) (some (.dat (.int ((i + f : Nat) : Int)))) (some (.dat (.int ours.length))) (some (.dat (.int theirs.length))) none) body (.next (cV base ours theirs e1 e2 acc i o t (some (.dat (.int ((0 : Nat) : Int)))) (some (.dat (.int ((i + f : Nat) : Int)))) (some (.dat (.int (q : Int)))) (some (.dat (.int (r : Int)))) none))) →
            Tr F (cV base ours theirs e1 e2 acc i o t (some (.dat (.int ((0 : Nat) : Int)))) (some (.dat (.int ((i + f : Nat) : Int)))) (some (.dat (.int ours.length))) (some (.dat (.int theirs.length))) none) test (decide (i + f < base.length)) →
            Ex F (cV base ours theirs e1 e2 acc i o t (some (.dat (.int ((0 : Nat) : Int)))) (some (.dat (.int ((i + f : Nat) : Int)))) (some (.dat (.int ours.length))) (some (.dat (.int theirs.length))) none) (.If test body [] pos :: rest) out := by
          intro rest out hk test body pos hb ht
          rcases hend with ⟨h1, h2, h3⟩ | ⟨h1, h2, h3⟩
          · exact Ex.cons (Ex1.ifT (Tr.eq ht (by simpa using h1)) (hb h1 h2 h3)) hk
          · subst h2 h3
            exact Ex.cons (Ex1.ifF (Tr.eq ht (by simp; omega)) Ex.nil) hk
        refine fin ?_ (fun hlt q r hq hr => ?_) (Tr.eq (Tr.cmp (by walk_at "go") (Ev.len (by walk_at "go") lenB (by omega) rfl (by assumption)) .ltInt rfl) (by apply decide_eq_decide.mpr; omega))
        · have s1 : ∀ {value : Expr} {p pos : Pos}, Ev F (cV base ours theirs e1 e2 acc i o t (some (.dat (.int ((0 : Nat) : Int)))) (some (.dat (.int ((i + f : Nat) : Int)))) (some (.dat (.int (oe : Int)))) (some (.dat (.int (te : Int)))) none) value (ls base) → True := fun _ => trivial
          refine Ex.set (i := 14) (Ev.call' (EvL.cons (Ev.ofNew (EvNew.sliceLs i (i + f) (by walk_at "go") (by walk_at "go") (by walk_at "go") rfl rfl hb.le (fun _ _ => rfl))) (EvL.cons (Ev.ofNew (EvNew.sliceLs o oe (by walk_at "go") (by walk_at "go") (by walk_at "go") rfl rfl ho.le (fun _ _ => rfl))) (EvL.cons (Ev.ofNew (EvNew.sliceLs t te (by walk_at "go") (by walk_at "go") (by walk_at "go") rfl rfl ht.le (fun _ _ => rfl))) EvL.nil rfl) rfl) rfl)
            (HK _ _ _ (sl_good hb _ _) (sl_good ho _ _) (sl_good ht _ _)) (by omega) (by assumption) (fun _ => ⟨_, _, rfl, rfl⟩) (by decide)) (by assumption) rfl ?_
          refine Ex.weakenNext (Ex.cons (Ex1.append 6 (d := chD (ck (sl base i (i + f)) (sl ours o oe) (sl theirs t te), sl base i (i + f), sl ours o oe, sl theirs t te)) (by assumption) rfl (Ev.tuple (EvL.cons (by walk_at "go") (EvL.cons (Ev.ofNew (EvNew.sliceLs i (i + f) (by walk_at "go") (by walk_at "go") (by walk_at "go") rfl rfl hb.le (fun _ _ => rfl))) (EvL.cons (Ev.ofNew (EvNew.sliceLs o oe (by walk_at "go") (by walk_at "go") (by walk_at "go") rfl rfl ho.le (fun _ _ => rfl))) (EvL.cons (Ev.ofNew (EvNew.sliceLs t te (by walk_at "go") (by walk_at "go") (by walk_at "go") rfl rfl ht.le (fun _ _ => rfl))) EvL.nil rfl) rfl) rfl) rfl) (by rw [e0]; simp)) (by simp; omega) rfl rfl)
            (Ex.set (i := 7) (by walk_at "go") (by assumption) rfl (Ex.set (i := 8) (by walk_at "go") (by assumption) rfl (Ex.set (i := 9) (by walk_at "go") (by assumption) rfl Ex.nil)))) ?_
          rw [show List.map chD acc ++ [chD (ck (sl base i (i + f)) (sl ours o oe) (sl theirs t te), sl base i (i + f), sl ours o oe, sl theirs t te)] = List.map chD (acc ++ [(ck (sl base i (i + f)) (sl ours o oe) (sl theirs t te), sl base i (i + f), sl ours o oe, sl theirs t te)]) by simp]
          walk_at "wk"
        · have sq : SubR (imap e1) (.int ((i + f : Nat) : Int)) (.int (q : Int)) := .map (by rw [L1, hq]; rfl)
          have sr : SubR (imap e2) (.int ((i + f : Nat) : Int)) (.int (r : Int)) := .map (by rw [L2, hr]; rfl)
          exact Ex.set (i := 12) (Ev.sub (by walk_at "go") (by walk_at "go") sq (fun _ _ => rfl)) (by assumption) rfl (Ex.set (i := 13) (Ev.sub (by walk_at "go") (by walk_at "go") sr (fun _ _ => rfl)) (by assumption) rfl Ex.nil)
    · left
      refine ⟨?_, Tr.eq (Tr.bool (TrA.orB (Tr.cmp (by walk_at "go") (Ev.len (by walk_at "go") lenB (by omega) rfl (by assumption)) .ltInt rfl) fun _ => TrA.orB (Tr.cmp (by walk_at "go") (Ev.len (by walk_at "go") lenO (by omega) rfl (by assumption)) .ltInt rfl) fun _ => TrA.orB (Tr.cmp (by walk_at "go") (Ev.len (by walk_at "go") lenT (by omega) rfl (by assumption)) .ltInt rfl) fun _ => TrA.orNil)) (by simp; omega)⟩
      rw [LC_end i o t (by omega) (by omega) (by omega)] at hacc
      simpa [flush] using hacc
  · simp only at hf
    subst hf
    exact Ex.freeze (i := 6) (by assumption) rfl (Ex.consRet (Ex1.ret (by walk_at "go")))
theorem ks1 (k : Kind) : (kstr k = "conflict") = (k = .conflict) := propext ⟨fun h => by cases k <;> first | rfl | exact absurd h (by decide +kernel), fun h => by subst h; rfl⟩
theorem ks2 (k : Kind) : (kstr k = "theirs") = (k = .theirs) := propext ⟨fun h => by cases k <;> first | rfl | exact absurd h (by decide +kernel), fun h => by subst h; rfl⟩
theorem ks3 (k : Kind) : (kstr k = "ours") = (k = .ours) := propext ⟨fun h => by cases k <;> first | rfl | exact absurd h (by decide +kernel), fun h => by subst h; rfl⟩
theorem ks4 (k : Kind) : (kstr k = "both") = (k = .both) := propext ⟨fun h => by cases k <;> first | rfl | exact absurd h (by decide +kernel), fun h => by subst h; rfl⟩
structure GoodC (c : Chunk Str) : Prop where
  b : Good c.2.1
  o : Good c.2.2.1
  t : Good c.2.2.2
noncomputable def mk1 : Str := "<<<<<<<"
noncomputable def mk2 : Str := "======="
noncomputable def mk3 : Str := ">>>>>>>"
noncomputable def mergeC : Chunk Str → List Str
  | (.conflict, _, o, t) => mk1 :: (o ++ mk2 :: (t ++ [mk3]))
  | (.theirs, _, _, t) => t
  | (.ours, _, o, _) => o
  | (.both, _, o, _) => o
  | (.same, b, _, _) => b
theorem mergeC_len {c : Chunk Str} (h : GoodC c) : (mergeC c).length ≤ 203 := by
  obtain ⟨k, b, o, t⟩ := c
  have h1 := h.b.len
  have h2 := h.o.len
  have h3 := h.t.len
  simp only at h1 h2 h3
  cases k <;> simp [mergeC] <;> omega
theorem flat_len {α : Type} (f : α → List Str) (B : Nat) : ∀ cs : List α, (∀ c ∈ cs, (f c).length ≤ B) → (cs.flatMap f).length ≤ B * cs.length
  | [], _ => by simp
  | c :: cs, h => by
    have h1 := h c (List.mem_cons_self ..)
    have h2 := flat_len f B cs fun d hd => h d (List.mem_cons_of_mem _ hd)
    simp only [List.flatMap_cons, List.length_append, List.length_cons, Nat.mul_succ]
    omega
theorem x_mergedof {F : Fx} (X : X_mergedof F) {cs : List (Chunk Str)} (hc : ∀ c ∈ cs, GoodC c) (hl : cs.length ≤ 300) : Ex F [some (.dat (.list (cs.map chD))), none, none] b_mergedof (.ret (ls (cs.flatMap mergeC))) := by
  cases X
  have e0 := sizeLine_eq
  refine Ex.set (i := 1) (d := ls (([] : List (Chunk Str)).flatMap mergeC)) (Ev.ofNew (EvNew.list EvL.nil (Nat.zero_le _))) (by assumption) rfl ?_
  refine Ex.forFold 2 chD (fun done => [some (.dat (.list (cs.map chD))), some (.dat (ls (done.flatMap mergeC))), none]) cs (by assumption) (It.list (by walk_at "go") Lets.name) (fun _ => rfl) (fun d c r e => ?_) (Ex.consRet (Ex1.ret (by walk_at "go")))
  have hg := hc c (by rw [e]; simp)
  have hdl : (d.flatMap mergeC).length ≤ 60900 := by
    have h1 := flat_len mergeC 203 d fun c hcd => mergeC_len (hc c (by rw [e]; simp [hcd]))
    have := congrArg List.length e
    simp at this
    omega
  rw [List.flatMap_append, List.flatMap_cons, List.flatMap_nil, List.append_nil]
  generalize d.flatMap mergeC = L at hdl ⊢
  obtain ⟨k, b, o, t⟩ := c
  have h1 := hg.b.len
  have h2 := hg.o.len
  have h3 := hg.t.len
  simp only at h1 h2 h3
  cases k with
  | conflict =>
    refine Ex.weakenNext (Ex.cons (Ex1.ifT (Tr.eq (b := _) (by walk_at "go") (by simp [ks1, ks2, ks3, ks4])) (Ex.set (i := 1) (d := ls (L ++ mergeC (.conflict, b, o, t))) (Ev.eq (Ev.bin (Ev.bin (Ev.bin (Ev.bin (Ev.bin (by walk_at "go") (by walk_at "go") (.addList (by simp; omega))) (by walk_at "go") (.addList (by simp; omega))) (by walk_at "go") (.addList (by simp; omega))) (by walk_at "go") (.addList (by simp; omega))) (by walk_at "go") (.addList (by simp; omega))) (by simp [mergeC, mk1, mk2, mk3])) (by assumption) rfl Ex.nil)) Ex.nil) (by walk_at "wk")
  | theirs =>
    refine Ex.weakenNext (Ex.cons (Ex1.ifF (Tr.eq (b := _) (by walk_at "go") (by simp [ks1, ks2, ks3, ks4])) (Ex.cons (Ex1.ifT (Tr.eq (b := _) (by walk_at "go") (by simp [ks1, ks2, ks3, ks4])) (Ex.set (i := 1) (d := ls (L ++ mergeC (.theirs, b, o, t))) (Ev.eq (Ev.bin (by walk_at "go") (by walk_at "go") (.addList (by simp; omega))) (by simp [mergeC])) (by assumption) rfl Ex.nil)) Ex.nil)) Ex.nil) (by walk_at "wk")
  | ours =>
    refine Ex.weakenNext (Ex.cons (Ex1.ifF (Tr.eq (b := _) (by walk_at "go") (by simp [ks1, ks2, ks3, ks4])) (Ex.cons (Ex1.ifF (Tr.eq (b := _) (by walk_at "go") (by simp [ks1, ks2, ks3, ks4])) (Ex.cons (Ex1.ifT (Tr.bool (TrA.orT (Tr.eq (b := _) (by walk_at "go") (by simp [ks1, ks2, ks3, ks4])))) (Ex.set (i := 1) (d := ls (L ++ mergeC (.ours, b, o, t))) (Ev.eq (Ev.bin (by walk_at "go") (by walk_at "go") (.addList (by simp; omega))) (by simp [mergeC])) (by assumption) rfl Ex.nil)) Ex.nil)) Ex.nil)) Ex.nil) (by walk_at "wk")
  | both =>
    refine Ex.weakenNext (Ex.cons (Ex1.ifF (Tr.eq (b := _) (by walk_at "go") (by simp [ks1, ks2, ks3, ks4])) (Ex.cons (Ex1.ifF (Tr.eq (b := _) (by walk_at "go") (by simp [ks1, ks2, ks3, ks4])) (Ex.cons (Ex1.ifT (Tr.bool (TrA.orF (Tr.eq (b := _) (by walk_at "go") (by simp [ks1, ks2, ks3, ks4])) (TrA.orT (Tr.eq (b := _) (by walk_at "go") (by simp [ks1, ks2, ks3, ks4]))))) (Ex.set (i := 1) (d := ls (L ++ mergeC (.both, b, o, t))) (Ev.eq (Ev.bin (by walk_at "go") (by walk_at "go") (.addList (by simp; omega))) (by simp [mergeC])) (by assumption) rfl Ex.nil)) Ex.nil)) Ex.nil)) Ex.nil) (by walk_at "wk")
  | same =>
    refine Ex.weakenNext (Ex.cons (Ex1.ifF (Tr.eq (b := _) (by walk_at "go") (by simp [ks1, ks2, ks3, ks4])) (Ex.cons (Ex1.ifF (Tr.eq (b := _) (by walk_at "go") (by simp [ks1, ks2, ks3, ks4])) (Ex.cons (Ex1.ifF (Tr.bool (TrA.orF (Tr.eq (b := _) (by walk_at "go") (by simp [ks1, ks2, ks3, ks4])) (TrA.orF (Tr.eq (b := _) (by walk_at "go") (by simp [ks1, ks2, ks3, ks4])) TrA.orNil))) (Ex.set (i := 1) (d := ls (L ++ mergeC (.same, b, o, t))) (Ev.eq (Ev.bin (by walk_at "go") (by walk_at "go") (.addList (by simp; omega))) (by simp [mergeC])) (by assumption) rfl Ex.nil)) Ex.nil)) Ex.nil)) Ex.nil) (by walk_at "wk")
noncomputable def isCon : Chunk Str → Bool
  | (.conflict, _, _, _) => true
  | _ => false
theorem isCon_eq (c : Chunk Str) : decide (kstr c.1 = "conflict") = isCon c := by
  obtain ⟨k, b, o, t⟩ := c
  cases k with
  | same => show decide (kstr .same = "conflict") = false; decide +kernel
  | ours => show decide (kstr .ours = "conflict") = false; decide +kernel
  | theirs => show decide (kstr .theirs = "conflict") = false; decide +kernel
  | both => show decide (kstr .both = "conflict") = false; decide +kernel
  | conflict => show decide (kstr .conflict = "conflict") = true; decide +kernel
theorem x_conflictsin {F : Fx} (X : X_conflictsin F) (hcl : F.cl = []) {cs : List (Chunk Str)} (hl : cs.length ≤ 300) : Ex F [some (.dat (.list (cs.map chD)))] b_conflictsin (.ret (.int (cs.filter isCon).length)) := by
  cases X
  have e0 := sizeLine_eq
  refine Ex.consRet (Ex1.ret (Ev.len (Ev.ofNew (EvNew.comp' (It.list (by walk_at "go") Lets.name) (CompT.ofFilter chD chD isCon cs (fun c hc C hn => Tr.eq (Tr.cmp (by walk_at "go") (by walk_at "go") .eqStr rfl) (by
    exact isCon_eq c)) (fun c hc _ C hn => by walk_at "go")) hcl (by decide +kernel) rfl (by decide +kernel) (by decide +kernel) (by simp; omega) (fun _ => rfl))) (by simp [lenD]) (by
      have := List.length_filter_le isCon cs
      omega) rfl (by assumption)))
noncomputable def pieceC : Chunk Str → Str
  | (.conflict, _, o, t) => ("<<<<<<<\n" : Str) ++ closedS o ++ ("=======\n" : Str) ++ closedS t ++ (">>>>>>>\n" : Str)
  | c => jn (mergeC c)
theorem closedS_len {xs : List Str} (h : Good xs) : (closedS xs).length ≤ 201 := by
  have := h.jnLen
  unfold closedS
  split
  · omega
  · split
    · omega
    · rw [Str.length_append, nl_length]; omega
theorem mergeC_good {k : Kind} {b o t : List Str} (h : GoodC (k, b, o, t)) (hk : k ≠ .conflict) : Good (mergeC (k, b, o, t)) := by
  cases k with
  | conflict => exact absurd rfl hk
  | theirs => exact h.t
  | ours => exact h.o
  | both => exact h.o
  | same => exact h.b
theorem pieceC_jn {k : Kind} {b o t : List Str} (hk : k ≠ .conflict) : pieceC (k, b, o, t) = jn (mergeC (k, b, o, t)) := by
  cases k with
  | conflict => exact absurd rfl hk
  | _ => rfl
theorem mark_len : (("<<<<<<<\n" : String) : Str).length = 8 ∧ (("=======\n" : String) : Str).length = 8 ∧ ((">>>>>>>\n" : String) : Str).length = 8 := by decide +kernel
theorem pieceC_len {c : Chunk Str} (h : GoodC c) : (pieceC c).length ≤ 500 := by
  obtain ⟨k, b, o, t⟩ := c
  by_cases hk : k = .conflict
  · subst hk
    obtain ⟨m1, m2, m3⟩ := mark_len
    have h1 := closedS_len h.o
    have h2 := closedS_len h.t
    simp only at h1 h2
    simp only [pieceC, Str.length_append, m1, m2, m3]
    omega
  · rw [pieceC_jn hk]
    have := (mergeC_good h hk).jnLen
    omega
theorem x_mergedcontent {F : Fx} (X : X_mergedcontent F) (hlv : 1 ≤ F.lvl) {cs : List (Chunk Str)} (hc : ∀ c ∈ cs, GoodC c) (hl : cs.length ≤ 300)
    (HC : ∀ xs : List Str, Good xs → Fn F.toTx 1 "closed" [ls xs] (.str (closedS xs))) (HM : ∀ c : Chunk Str, GoodC c → Fn F.toTx 1 "merged_of" [.list [chD c]] (ls (mergeC c))) :
    Ex F [some (.dat (.list (cs.map chD))), none, none] b_mergedcontent (.ret (.str (jn (cs.map pieceC)))) := by
  cases X
  have e0 := sizeLine_eq
  refine Ex.setNew (i := 1) (d := ls (([] : List (Chunk Str)).map pieceC)) (EvNew.list EvL.nil (Nat.zero_le _)) (by assumption) rfl ?_
  refine Ex.forFold 2 chD (fun done => [some (.dat (.list (cs.map chD))), some (.own (ls (done.map pieceC))), none]) cs (by assumption) (It.list (by walk_at "go") Lets.name) (fun _ => rfl) (fun d c r e => ?_)
    (Ex.freeze (i := 1) (by assumption) rfl (Ex.consRet (Ex1.ret (Ev.join (by walk_at "go") (by walk_at "go") (joinOk_of (B := 500) (fun x hx => by
      obtain ⟨c, hc', rfl⟩ := List.mem_map.mp hx
      exact pieceC_len (hc c hc')) (by rw [List.length_map]; omega)) rfl rfl rfl))))
  have hg := hc c (by rw [e]; simp)
  have hdl : d.length ≤ 300 := by
    have := congrArg List.length e
    simp at this
    omega
  rw [show (d ++ [c]).map pieceC = d.map pieceC ++ [pieceC c] by simp]
  generalize hL : d.map pieceC = L
  have hLl : L.length ≤ 300 := by rw [← hL, List.length_map]; exact hdl
  obtain ⟨k, b, o, t⟩ := c
  have app : ∀ x : Str, List.map PyData.str L ++ [PyData.str x] = List.map PyData.str (L ++ [x]) := fun x => by simp
  by_cases hk : k = .conflict
  · subst hk
    obtain ⟨m1, m2, m3⟩ := mark_len
    have h1 := closedS_len hg.o
    have h2 := closedS_len hg.t
    simp only at h1 h2
    refine Ex.weakenNext (Ex.cons (Ex1.ifT (Tr.eq (b := _) (by walk_at "go") (by simp [ks1, ks2, ks3, ks4])) (Ex.cons (Ex1.append 1 (by assumption) rfl (Ev.bin (Ev.bin (Ev.bin (Ev.bin (by walk_at "go") (Ev.call' (EvL.cons (by walk_at "go") EvL.nil rfl) (HC o hg.o) hlv (by assumption) (fun _ => ⟨_, _, rfl, rfl⟩) (by decide)) (.addStr (by rw [m1]; omega))) (by walk_at "go") (.addStr (by simp only [Str.length_append, m1, m2]; omega))) (Ev.call' (EvL.cons (by walk_at "go") EvL.nil rfl) (HC t hg.t) hlv (by assumption) (fun _ => ⟨_, _, rfl, rfl⟩) (by decide)) (.addStr (by simp only [Str.length_append, m1, m2]; omega))) (by walk_at "go") (.addStr (by simp only [Str.length_append, m1, m2, m3]; omega))) (by simp; omega) rfl rfl) Ex.nil)) Ex.nil) ?_
    rw [app]; walk_at "wk"
  · have hj := (mergeC_good hg hk).join
    refine Ex.weakenNext (Ex.cons (Ex1.ifF (Tr.eq (b := _) (by walk_at "go") (by simp [ks1, hk])) (Ex.cons (Ex1.append 1 (d := .str (pieceC (k, b, o, t))) (by assumption) rfl (Ev.eq (Ev.join (by walk_at "go") (Ev.call' (EvL.cons (by walk_at "go") EvL.nil rfl) (HM _ hg) hlv (by assumption) (fun _ => ⟨_, _, rfl, rfl⟩) (by decide)) hj rfl rfl rfl) (by rw [pieceC_jn hk]; rfl)) (by simp; omega) rfl rfl) Ex.nil)) Ex.nil) ?_
    rw [app]; walk_at "wk"
noncomputable def contL : Chunk Str → Str
  | (.conflict, _, o, t) => ("<<<<<<<\n" : Str) ++ full o ++ ("=======\n" : Str) ++ full t ++ (">>>>>>>\n" : Str)
  | (.theirs, _, _, t) => jn t
  | (_, _, o, _) => jn o
noncomputable abbrev mergeK : Chunk Str → List Str := mergeL mk1 mk2 mk3
theorem full_len' {xs : List Str} (h : Good xs) : (full xs).length ≤ 200 := by
  have := full_len h.mem
  have := h.len
  omega
theorem contL_len {c : Chunk Str} (h : GoodC c) : (contL c).length ≤ 500 := by
  obtain ⟨k, b, o, t⟩ := c
  obtain ⟨m1, m2, m3⟩ := mark_len
  have h1 := full_len' h.o
  have h2 := full_len' h.t
  have h3 := h.o.jnLen
  have h4 := h.t.jnLen
  simp only at h1 h2 h3 h4
  cases k <;> simp only [contL, Str.length_append, m1, m2, m3] <;> omega
theorem mergeK_len {c : Chunk Str} (h : GoodC c) : (mergeK c).length ≤ 203 := by
  obtain ⟨k, b, o, t⟩ := c
  have h1 := h.b.len
  have h2 := h.o.len
  have h3 := h.t.len
  simp only at h1 h2 h3
  cases k <;> simp [mergeK, mergeL] <;> omega
theorem x_Lmerge {F : Fx} (X : X_Lmerge F) (hlv : 1 ≤ F.lvl) {cs : List (Chunk Str)} (hc : ∀ c ∈ cs, GoodC c) (hl : cs.length ≤ 300) (HF : ∀ xs : List Str, Good xs → Fn F.toTx 1 "_law_full" [ls xs] (.str (full xs))) :
    Ex F [some (.dat (.list (cs.map chD))), none, none, none, none, none, none, none, none] b_Lmerge (.ret (.tuple [ls (cs.flatMap mergeK), .str (jn (cs.map contL)), .int (cs.filter isCon).length])) := by
  cases X
  have e0 := sizeLine_eq
  refine Ex.set (i := 1) (d := ls (([] : List (Chunk Str)).flatMap mergeK)) (Ev.ofNew (EvNew.list EvL.nil (Nat.zero_le _))) (by assumption) rfl ?_
  refine Ex.set (i := 2) (d := .str (jn (([] : List (Chunk Str)).map contL))) (by rw [List.map_nil, jn_nil]; exact Ev.str) (by assumption) rfl ?_
  refine Ex.set (i := 3) (d := .int ((([] : List (Chunk Str)).filter isCon).length : Nat)) Ev.int (by assumption) rfl ?_
  refine Ex.forFoldB chD (fun done => [some (.dat (.list (cs.map chD))), some (.dat (ls (done.flatMap mergeK))), some (.dat (.str (jn (done.map contL)))), some (.dat (.int ((done.filter isCon).length : Nat))), none, none, none, none, none]) cs
    (It.list (by walk_at "go") (Lets.tuple (fun d hd => by obtain ⟨c, _, rfl⟩ := List.mem_map.mp hd; exact ⟨_, rfl⟩))) (fun _ => rfl) (fun d c r e => ?_) (Ex.consRet (Ex1.ret (by walk_at "go")))
  have hg := hc c (by rw [e]; simp)
  have hdn : d.length ≤ 300 := by have := congrArg List.length e; simp at this; omega
  have hdl : (d.flatMap mergeK).length ≤ 60900 := by
    have h1 := flat_len mergeK 203 d fun c hcd => mergeK_len (hc c (by rw [e]; simp [hcd]))
    omega
  have hjl : (jn (d.map contL)).length ≤ 150000 := by
    have h1 := jn_len (B := 500) (xs := d.map contL) fun x hx => by
      obtain ⟨c, hc', rfl⟩ := List.mem_map.mp hx
      exact contL_len (hc c (by rw [e]; simp [hc']))
    rw [List.length_map] at h1
    omega
  rw [List.flatMap_append, List.flatMap_cons, List.flatMap_nil, List.append_nil, List.map_append, jn_append, List.filter_append, List.length_append, List.map_cons, List.map_nil, jn_one]
  generalize d.flatMap mergeK = L at hdl ⊢
  generalize jn (d.map contL) = J at hjl ⊢
  generalize (d.filter isCon).length = N
  obtain ⟨k, b, o, t⟩ := c
  obtain ⟨m1, m2, m3⟩ := mark_len
  have h1 := hg.b.len
  have h2 := hg.o.len
  have h3 := hg.t.len
  have f1 := full_len' hg.o
  have f2 := full_len' hg.t
  have j1 := hg.o.jnLen
  have j2 := hg.t.jnLen
  have g1 := hg.o.join
  have g2 := hg.t.join
  simp only at h1 h2 h3 f1 f2 j1 j2 g1 g2
  refine ⟨_, Bd.tuple (BdL.cons 4 (by assumption) (BdL.cons 5 (by assumption) (BdL.cons 6 (by assumption) (BdL.cons 7 (by assumption) BdL.nil)))) rfl rfl, ?_⟩
  by_cases hk : k = .conflict
  · subst hk
    refine Ex.weakenNext (Ex.cons (Ex1.ifT (Tr.eq (b := _) (by walk_at "go") (by simp [ks1])) (Ex.set (i := 1) (d := ls (L ++ mergeK (.conflict, b, o, t))) (Ev.eq (Ev.bin (Ev.bin (Ev.bin (Ev.bin (Ev.bin (by walk_at "go") (by walk_at "go") (.addList (by simp; omega))) (by walk_at "go") (.addList (by simp; omega))) (by walk_at "go") (.addList (by simp; omega))) (by walk_at "go") (.addList (by simp; omega))) (by walk_at "go") (.addList (by simp; omega))) (by simp [mergeL, mk1, mk2, mk3])) (by assumption) rfl
      (Ex.set (i := 2) (d := .str (J ++ contL (.conflict, b, o, t))) (Ev.eq (Ev.bin (Ev.bin (Ev.bin (Ev.bin (Ev.bin (by walk_at "go") (by walk_at "go") (.addStr (by rw [m1]; omega))) (Ev.call' (EvL.cons (by walk_at "go") EvL.nil rfl) (HF o hg.o) hlv (by assumption) (fun _ => ⟨_, _, rfl, rfl⟩) (by decide)) (.addStr (by simp only [Str.length_append, m1]; omega))) (by walk_at "go") (.addStr (by simp only [Str.length_append, m1, m2]; omega))) (Ev.call' (EvL.cons (by walk_at "go") EvL.nil rfl) (HF t hg.t) hlv (by assumption) (fun _ => ⟨_, _, rfl, rfl⟩) (by decide)) (.addStr (by simp only [Str.length_append, m1, m2]; omega))) (by walk_at "go") (.addStr (by simp only [Str.length_append, m1, m2, m3]; omega))) (by simp only [contL, Str.append_assoc])) (by assumption) rfl
      (Ex.set (i := 3) (d := .int ((N + ([((.conflict, b, o, t) : Chunk Str)].filter isCon).length : Nat) : Int)) (Ev.eq (by walk_at "go") (by rw [show ([((.conflict, b, o, t) : Chunk Str)].filter isCon).length = 1 from rfl]; simp)) (by assumption) rfl Ex.nil)))) Ex.nil) (by walk_at "wk")
  · have hcount : ([((k, b, o, t) : Chunk Str)].filter isCon).length = 0 := by cases k <;> first | exact absurd rfl hk | rfl
    rw [hcount, Nat.add_zero]
    by_cases hk2 : k = .theirs
    · subst hk2
      exact Ex.weakenNext (Ex.cons (Ex1.ifF (Tr.eq (b := _) (by walk_at "go") (by simp [ks1])) (Ex.set (i := 8) (by walk_at "go") (by assumption) rfl (Ex.cons (Ex1.ifT (Tr.eq (b := _) (by walk_at "go") (by simp [ks2])) (Ex.set (i := 8) (by walk_at "go") (by assumption) rfl Ex.nil)) (Ex.set (i := 1) (d := ls (L ++ mergeK (.theirs, b, o, t))) (Ev.eq (Ev.bin (by walk_at "go") (by walk_at "go") (.addList (by simp; omega))) (by simp [mergeL])) (by assumption) rfl
        (Ex.set (i := 2) (d := .str (J ++ contL (.theirs, b, o, t))) (Ev.bin (by walk_at "go") (Ev.join (by walk_at "go") (by walk_at "go") g2 rfl rfl rfl) (.addStr (show J.length + (jn t).length ≤ _ by omega))) (by assumption) rfl Ex.nil))))) Ex.nil) (by walk_at "wk")
    · have em : mergeK (k, b, o, t) = o := by cases k <;> first | rfl | exact absurd rfl hk | exact absurd rfl hk2
      have ec : contL (k, b, o, t) = jn o := by cases k <;> first | rfl | exact absurd rfl hk | exact absurd rfl hk2
      rw [em, ec]
      exact Ex.weakenNext (Ex.cons (Ex1.ifF (Tr.eq (b := _) (by walk_at "go") (by simp [ks1, hk])) (Ex.set (i := 8) (by walk_at "go") (by assumption) rfl (Ex.cons (Ex1.ifF (Tr.eq (b := _) (by walk_at "go") (by simp [ks2, hk2])) Ex.nil) (Ex.set (i := 1) (d := ls (L ++ o)) (Ev.eq (Ev.bin (by walk_at "go") (by walk_at "go") (.addList (by simp; omega))) (by simp)) (by assumption) rfl
        (Ex.set (i := 2) (d := .str (J ++ jn o)) (Ev.bin (by walk_at "go") (Ev.join (by walk_at "go") (by walk_at "go") g1 rfl rfl rfl) (.addStr (show J.length + (jn o).length ≤ _ by omega))) (by assumption) rfl Ex.nil))))) Ex.nil) (by walk_at "wk")
theorem x_Lbalance {F : Fx} (X : X_Lbalance F) {x : Str} {cs : List (Chunk Str)} {base ours theirs : List Str} :
    Ex F [some (.dat (.str x)), some (.dat (.list (cs.map chD))), some (.dat (ls base)), some (.dat (ls ours)), some (.dat (ls theirs)), none, none] b_Lbalance
      (.ret (.int ((ours.count x : Int) + (theirs.count x : Int) - (base.count x : Int) + (cs.map (corr x)).sum))) := by
  cases X
  refine Ex.set (i := 5) (d := .int ((ours.count x : Int) + (theirs.count x : Int) - (base.count x : Int) + (([] : List (Chunk Str)).map (corr x)).sum)) (Ev.eq (by walk_at "go") (by simp)) (by assumption) rfl ?_
  refine Ex.forFold 6 chD (fun done => [some (.dat (.str x)), some (.dat (.list (cs.map chD))), some (.dat (ls base)), some (.dat (ls ours)), some (.dat (ls theirs)), some (.dat (.int ((ours.count x : Int) + (theirs.count x : Int) - (base.count x : Int) + (done.map (corr x)).sum))), none]) cs (by assumption)
    (It.list (by walk_at "go") Lets.name) (fun _ => rfl) (fun d c r e => ?_) (Ex.consRet (Ex1.ret (by walk_at "go")))
  rw [List.map_append, List.sum_append, List.map_cons, List.map_nil, List.sum_cons, List.sum_nil, Int.add_zero]
  rw [← Int.add_assoc]
  generalize (ours.count x : Int) + (theirs.count x : Int) - (base.count x : Int) + (d.map (corr x)).sum = D
  obtain ⟨k, b, o, t⟩ := c
  by_cases hk : k = .conflict
  · subst hk
    exact Ex.weakenNext (Ex.cons (Ex1.ifT (Tr.eq (b := _) (by walk_at "go") (by simp [ks1])) (Ex.set (i := 5) (d := .int (D + corr x (.conflict, b, o, t))) (Ev.eq (by walk_at "go") (by simp [corr])) (by assumption) rfl Ex.nil)) Ex.nil) (by walk_at "wk")
  · by_cases hk2 : k = .both
    · subst hk2
      exact Ex.weakenNext (Ex.cons (Ex1.ifF (Tr.eq (b := _) (by walk_at "go") (by simp [ks1])) (Ex.cons (Ex1.ifT (Tr.eq (b := _) (by walk_at "go") (by simp [ks4])) (Ex.set (i := 5) (d := .int (D + corr x (.both, b, o, t))) (Ev.eq (by walk_at "go") (by simp only [corr, PyData.int.injEq]; omega)) (by assumption) rfl Ex.nil)) Ex.nil)) Ex.nil) (by walk_at "wk")
    · have : corr x (k, b, o, t) = 0 := by cases k <;> first | rfl | exact absurd rfl hk | exact absurd rfl hk2
      rw [this, Int.add_zero]
      exact Ex.weakenNext (Ex.cons (Ex1.ifF (Tr.eq (b := _) (by walk_at "go") (by simp [ks1, hk])) (Ex.cons (Ex1.ifF (Tr.eq (b := _) (by walk_at "go") (by simp [ks4, hk2])) Ex.nil) Ex.nil)) Ex.nil) (by walk_at "wk")
theorem It.up {F : Fx} {ρ : List (Option AV)} {y : Str} {p np pos : Pos} {e : Expr} {n : Nat} (h : Ev F ρ e (.int n)) (hn : n < 2 ^ 62) (hs : starEach [e] F.env = [(false, eval e F.env)]) (hx : F.env.kindOf "range" = some .globalImplicit) :
    It F ρ (.Name y p) (.Call (.Name "range" np) [e] [] pos) ((List.range n).map (fun k : Nat => PyData.int (k : Int))) := by
  rw [← rangeD_up]; exact It.range1 h hn hs hx
noncomputable abbrev sD (p : Nat × Nat × Nat) : PyData := .tuple [.int p.1, .int p.2.1, .int p.2.2]
abbrev LSt := List (Chunk Str) × List Str × Nat × Nat × Nat
noncomputable def stepL (base ours theirs : List Str) (st : LSt) (p : Nat × Nat × Nat) : LSt :=
  if sl base st.2.2.1 p.1 = [] ∧ sl ours st.2.2.2.1 p.2.1 = [] ∧ sl theirs st.2.2.2.2 p.2.2 = [] then (st.1, st.2.1 ++ sl base p.1 (p.1 + 1), p.1 + 1, p.2.1 + 1, p.2.2 + 1)
  else (st.1 ++ flush st.2.1 ++ [(lk (sl base st.2.2.1 p.1) (sl ours st.2.2.2.1 p.2.1) (sl theirs st.2.2.2.2 p.2.2), sl base st.2.2.1 p.1, sl ours st.2.2.2.1 p.2.1, sl theirs st.2.2.2.2 p.2.2)], sl base p.1 (p.1 + 1), p.1 + 1, p.2.1 + 1, p.2.2 + 1)
theorem stepL_LC (base ours theirs : List Str) : ∀ (ps : List (Nat × Nat × Nat)) (st : LSt), (ps.foldl (stepL base ours theirs) st).1 ++ flush (ps.foldl (stepL base ours theirs) st).2.1 = st.1 ++ LC base ours theirs st.2.1 st.2.2.1 st.2.2.2.1 st.2.2.2.2 ps
  | [], st => by rw [LC]; rfl
  | (p, q, r) :: ps, (acc, run, i, o, t) => by
    rw [List.foldl_cons, stepL_LC base ours theirs ps]
    unfold stepL
    simp only
    rw [LC]
    split
    · rfl
    · simp
structure LOk (base : List Str) (n : Nat) (st : LSt) : Prop where
  acc : st.1.length ≤ 2 * n
  run : st.2.1.length ≤ n
  mem : ∀ x ∈ st.2.1, x ∈ seven
theorem sl_one_len (base : List Str) (p : Nat) : (sl base p (p + 1)).length ≤ 1 := by simp only [sl, List.length_take]; omega
theorem stepL_ok {base ours theirs : List Str} (hb : Good base) {n : Nat} {st : LSt} {p : Nat × Nat × Nat} (h : LOk base n st) : LOk base (n + 1) (stepL base ours theirs st p) := by
  have h1 := h.acc
  have h2 := h.run
  have h3 := sl_one_len base p.1
  have hf : (flush st.2.1).length ≤ 1 := by unfold flush; split <;> simp
  have hm := (sl_good hb p.1 (p.1 + 1)).mem
  unfold stepL
  split
  · exact ⟨by simp only; omega, by simp only [List.length_append]; omega, fun x hx => (List.mem_append.mp hx).elim (h.mem x) (hm x)⟩
  · exact ⟨by simp only [List.length_append, List.length_cons, List.length_nil]; omega, by simp only; omega, hm⟩
theorem foldL_ok {base ours theirs : List Str} (hb : Good base) : ∀ (ps : List (Nat × Nat × Nat)) (n : Nat) (st : LSt), LOk base n st → LOk base (n + ps.length) (ps.foldl (stepL base ours theirs) st)
  | [], n, st, h => h
  | p :: ps, n, st, h => by
    have := foldL_ok (ours := ours) (theirs := theirs) hb ps (n + 1) _ (stepL_ok (ours := ours) (theirs := theirs) (p := p) hb h)
    rw [List.length_cons, show n + (ps.length + 1) = n + 1 + ps.length by omega]
    exact this
theorem canLayAll3 {a b c : List Str} (ha : ∀ x ∈ a, PyData.strOk x = true) (hb : ∀ x ∈ b, PyData.strOk x = true) (hc : ∀ x ∈ c, PyData.strOk x = true) : SeqAt.shaped (.tuple [ls a, ls b, ls c]) = true := by
  simp only [SeqAt.shaped, PyData.canLay0, PyData.canLayAll0, canLayAll_ls ha, canLayAll_ls hb, canLayAll_ls hc, PyData.depth, PyData.depthAll, depthAll_ls]
  rfl
theorem eqv3 (a b c : List Str) : PyData.eqv (.tuple [ls a, ls b, ls c]) (.tuple [ls [], ls [], ls []]) = decide (a = [] ∧ b = [] ∧ c = []) := by
  rw [PyData.eqv, PyData.eqvAll, PyData.eqvAll, PyData.eqvAll, PyData.eqvAll, eqv_ls, eqv_ls, eqv_ls, Bool.eq_iff_iff]
  simp
theorem stops_eq (mo mt : Nat → Option Nat) (nb : Nat) (res : Nat → PyData) (hres : ∀ p q r, mo p = some q → mt p = some r → res p = sD (p, q, r)) :
    ((List.range nb).filter fun p => (mo p).isSome && (mt p).isSome).map res = (stopsFrom mo mt nb 0).map sD := by
  unfold stopsFrom
  rw [Nat.sub_zero, ← List.range_eq_range']
  generalize List.range nb = l
  induction l with
  | nil => rfl
  | cons p l ih =>
    rw [List.filter_cons, List.filterMap_cons]
    cases h1 : mo p with
    | none => simpa [h1] using ih
    | some q =>
      cases h2 : mt p with
      | none => simpa [h1, h2] using ih
      | some r =>
        simp only [h1, h2, Option.isSome_some, Bool.and_self, if_true, List.map_cons, ih, hres p q r h1 h2]
inductive X_Lchunks (F : Fx) : Prop
  | mk : (F.env.scope = s_Lchunks) → (F.ns[0]? = some ("base" : Str)) → (F.ns[1]? = some ("ours" : Str)) → (F.ns[2]? = some ("theirs" : Str)) → (F.ns[3]? = some ("stops" : Str)) → (F.ns[4]? = some ("chunks" : Str)) → (F.ns[5]? = some ("run" : Str)) → (F.ns[6]? = some ("i" : Str)) → (F.ns[7]? = some ("o" : Str)) → (F.ns[8]? = some ("t" : Str)) → (F.ns[9]? = some ("stop" : Str)) → (F.ns[10]? = some ("gap" : Str)) → (F.env.kindOf "range" = some .globalImplicit) → (F.env.kindOf "len" = some .globalImplicit) → (F.env.kindOf "_law_kind" = some .globalImplicit) → (F.env.kindOf "to_o" = some .cell) → (F.env.kindOf "to_t" = some .cell) → X_Lchunks F
theorem X_Lchunks.sc {F : Fx} (X : X_Lchunks F) : F.env.scope = s_Lchunks := by cases X; assumption
theorem X_Lchunks.mk' {F : Fx} (hs : F.env.scope = s_Lchunks) (hn : F.ns = n_Lchunks) : X_Lchunks F := by
  refine ⟨hs, ?_, ?_, ?_, ?_, ?_, ?_, ?_, ?_, ?_, ?_, ?_, ?_, ?_, ?_, ?_, ?_⟩
  all_goals first | (rw [hn]; rfl) | (rw [Env.kindOf, hs]; decide +kernel)
noncomputable abbrev lV (base ours theirs : List Str) (stops : List (Nat × Nat × Nat)) (st : LSt) (stop gap : Option AV) : List (Option AV) :=
  [some (.dat (ls base)), some (.dat (ls ours)), some (.dat (ls theirs)), some (.dat (.list (stops.map sD))), some (.own (.list (st.1.map chD))), some (.dat (ls st.2.1)), some (.dat (.int st.2.2.1)), some (.dat (.int st.2.2.2.1)), some (.dat (.int st.2.2.2.2)), stop, gap]
theorem x_Lchunks {F : Fx} (X : X_Lchunks F) (hlv : 1 ≤ F.lvl) {base ours theirs : List Str} (hb : Good base) (ho : Good ours) (ht : Good theirs) {m1 m2 : List (Nat × Nat)}
    {a1 a2 : Addr} {v1 v2 : Value} (hcl : F.cl = [(("to_o" : Str), a1, v1, imap (m1.map ip)), (("to_t" : Str), a2, v2, imap (m2.map ip))]) (hk1 : F.env.cells.lookup ("to_o" : Str) = some a1) (hk2 : F.env.cells.lookup ("to_t" : Str) = some a2)
    (HK : ∀ b o t : List Str, Good b → Good o → Good t → Fn F.toTx 1 "_law_kind" [ls b, ls o, ls t] (.str (kstr (lk b o t)))) :
    Ex F [some (.dat (ls base)), some (.dat (ls ours)), some (.dat (ls theirs)), none, none, none, none, none, none, none, none] b_Lchunks
      (.ret (.list ((LC base ours theirs [] 0 0 0 (stopsEnd base ours theirs (fun p => m1.lookup p) (fun p => m2.lookup p) 0)).map chD))) := by
  have sc := X.sc
  cases X with
  | mk _ n0 n1 n2 n3 n4 n5 n6 n7 n8 n9 n10 k_range k_len k__law_kind c1 c2 =>
  have e0 := sizeLine_eq
  have hbl := hb.len
  have hol := ho.len
  have htl := ht.len
  have lenB : lenD (ls base) = some base.length := lenD_ls _
  have lenO : lenD (ls ours) = some ours.length := lenD_ls _
  have lenT : lenD (ls theirs) = some theirs.length := lenD_ls _
  have hfk : F.env.scope.kind = .function := by rw [sc]; decide +kernel
  have hne : (("to_o" : String) : Str) ≠ "to_t" := by decide +kernel
  refine Ex.setCompC 3 (rs := (stopsFrom (fun p => m1.lookup p) (fun p => m2.lookup p) base.length 0).map sD) (fun n => if n = "to_o" then a1 else a2) (by assumption)
    (It.up (Ev.len (by walk_at "go") lenB (by omega) rfl (by assumption)) (by omega) rfl (by assumption)) ?_ ?_ ?_ (by rw [Env.blockKind, Env.kindOf, sc]; decide +kernel) rfl (by decide +kernel) rfl (by decide +kernel) (by decide +kernel) (by simp; omega) (fun _ => rfl) ?_
  · rw [← stops_eq (fun p => m1.lookup p) (fun p => m2.lookup p) base.length (fun p : Nat => .tuple [.int p, .int ((m1.lookup p).getD 0 : Nat), .int ((m2.lookup p).getD 0 : Nat)]) (fun p q r h1 h2 => by simp [h1, h2])]
    refine CompT.ofFilter (fun k : Nat => PyData.int (k : Int)) _ _ (List.range base.length) (fun p hp C hn => ?_) (fun p hp ht C hn => ?_)
    · exact Tr.eq (Tr.bool (TrA.andB (Tr.eq (Tr.cmp (by walk_at "go") (Ev.cell (by show _ ∈ F.cl; rw [hcl]; exact List.mem_cons_self ..) (comp_cell (by decide +kernel) hfk c1) (by decide)) .inMap rfl) (show _ = (m1.lookup p).isSome by rw [lookup_ip]; simp)) fun _ => TrA.andB (Tr.eq (Tr.cmp (by walk_at "go") (Ev.cell (by show _ ∈ F.cl; rw [hcl]; exact List.mem_cons_of_mem _ (List.mem_cons_self ..)) (comp_cell (by decide +kernel) hfk c2) (by decide)) .inMap rfl) (show _ = (m2.lookup p).isSome by rw [lookup_ip]; simp)) fun _ => TrA.andNil)) (by simp)
    · simp only [Bool.and_eq_true] at ht
      obtain ⟨q, hq⟩ := Option.isSome_iff_exists.mp ht.1
      obtain ⟨r, hr⟩ := Option.isSome_iff_exists.mp ht.2
      rw [hq, hr]
      have sq : SubR (imap (m1.map ip)) (.int (p : Int)) (.int ((q : Nat) : Int)) := .map (by rw [lookup_ip, hq]; rfl)
      have sr : SubR (imap (m2.map ip)) (.int (p : Int)) (.int ((r : Nat) : Int)) := .map (by rw [lookup_ip, hr]; rfl)
      exact Ev.tuple (EvL.cons (by walk_at "go") (EvL.cons (Ev.sub (Ev.cell (by show _ ∈ F.cl; rw [hcl]; exact List.mem_cons_self ..) (comp_cell (by decide +kernel) hfk c1) (by decide)) (by walk_at "go") sq (fun _ _ => rfl)) (EvL.cons (Ev.sub (Ev.cell (by show _ ∈ F.cl; rw [hcl]; exact List.mem_cons_of_mem _ (List.mem_cons_self ..)) (comp_cell (by decide +kernel) hfk c2) (by decide)) (by walk_at "go") sr (fun _ _ => rfl)) EvL.nil rfl) rfl) rfl) (by rw [e0]; simp)
  · intro p hp he
    have : p.1 = "to_o" ∨ p.1 = "to_t" := by
      clear hcl hk1 hk2
      revert p
      decide +kernel
    rcases this with e | e
    · rw [e, if_pos rfl]; exact hk1
    · rw [e, if_neg (Ne.symm hne)]; exact hk2
  · rw [hcl]
    intro c hc
    simp only [List.mem_cons, List.not_mem_nil, or_false] at hc
    rcases hc with rfl | rfl
    · exact ⟨by simp only; decide +kernel, if_pos rfl⟩
    · exact ⟨by simp only; decide +kernel, if_neg (Ne.symm hne)⟩
  have hsl := stopsFrom_length (fun p => m1.lookup p) (fun p => m2.lookup p) base.length 0
  rw [stopsEnd]
  generalize stopsFrom (fun p => m1.lookup p) (fun p => m2.lookup p) base.length 0 = stops at hsl ⊢
  refine Ex.freeze (i := 3) (by assumption) rfl ?_
  refine Ex.setNew (i := 4) (d := .list (([] : List (Chunk Str)).map chD)) (EvNew.list EvL.nil (Nat.zero_le _)) (by assumption) rfl ?_
  refine Ex.set (i := 5) (d := ls []) (Ev.ofNew (EvNew.list EvL.nil (Nat.zero_le _))) (by assumption) rfl ?_
  refine Ex.set (i := 6) (d := .int ((0 : Nat) : Int)) Ev.int (by assumption) rfl ?_
  refine Ex.set (i := 7) (d := .int ((0 : Nat) : Int)) Ev.int (by assumption) rfl ?_
  refine Ex.set (i := 8) (d := .int ((0 : Nat) : Int)) Ev.int (by assumption) rfl ?_
  have hfin := stepL_LC base ours theirs (stops ++ [(base.length, ours.length, theirs.length)]) ([], [], 0, 0, 0)
  simp only [List.nil_append] at hfin
  rw [← hfin]
  have hok := foldL_ok (ours := ours) (theirs := theirs) hb (stops ++ [(base.length, ours.length, theirs.length)]) 0 ([], [], 0, 0, 0) ⟨by simp, by simp, by simp⟩
  have app : ∀ (l : List (Chunk Str)) (c : Chunk Str), List.map chD l ++ [chD c] = List.map chD (l ++ [c]) := fun l c => by simp
  have shr : ∀ {l : List Str}, (∀ x ∈ l, x ∈ seven) → CmpR .NotEq (ls l) (.list []) (!decide (l = [])) := fun {l} h => by
    have h1 := CmpR.ne (d1 := ls l) (d2 := ls []) (shaped_ls' fun x hx => (seven_ok x (h x hx)).1) (shaped_ls Good.nil)
    rw [eqv_ls] at h1
    exact h1
  refine Ex.forFold 9 sD (fun done => lV base ours theirs stops (done.foldl (stepL base ours theirs) ([], [], 0, 0, 0)) none none) (stops ++ [(base.length, ours.length, theirs.length)]) (by assumption)
    (It.list (Ev.eq (Ev.bin (by walk_at "go") (Ev.ofNew (EvNew.list (EvL.cons (Ev.tuple (EvL.cons (Ev.len (by walk_at "go") lenB (by omega) rfl (by assumption)) (EvL.cons (Ev.len (by walk_at "go") lenO (by omega) rfl (by assumption)) (EvL.cons (Ev.len (by walk_at "go") lenT (by omega) rfl (by assumption)) EvL.nil rfl) rfl) rfl) (by rw [e0]; simp)) EvL.nil rfl) (by rw [e0]; simp))) (.addList (by simp; omega))) (by simp)) Lets.name) (fun _ => rfl) (fun d s r e => ?_) ?_
  · have hd := foldL_ok (ours := ours) (theirs := theirs) hb d 0 ([], [], 0, 0, 0) ⟨by simp, by simp, by simp⟩
    have hdl : d.length ≤ 101 := by have := congrArg List.length e; simp at this; omega
    rw [List.foldl_append]
    generalize d.foldl (stepL base ours theirs) ([], [], 0, 0, 0) = st at hd ⊢
    obtain ⟨acc, run, i, o, t⟩ := st
    obtain ⟨p, q, r'⟩ := s
    have h1 := hd.acc
    have h2 := hd.run
    have h3 := hd.mem
    simp only at h1 h2 h3
    have hrun := shr h3
    have g1 := sl_good hb i p
    have g2 := sl_good ho o q
    have g3 := sl_good ht t r'
    have hso := sl_one_len base p
    refine Ex.set (i := 10) (d := .tuple [ls (sl base i p), ls (sl ours o q), ls (sl theirs t r')]) (Ev.tuple (EvL.cons (Ev.ofNew (EvNew.sliceLs i p (by walk_at "go") (by walk_at "go") (by walk_at "go") rfl rfl hb.le (fun _ _ => rfl))) (EvL.cons (Ev.ofNew (EvNew.sliceLs o q (by walk_at "go") (by walk_at "go") (by walk_at "go") rfl rfl ho.le (fun _ _ => rfl))) (EvL.cons (Ev.ofNew (EvNew.sliceLs t r' (by walk_at "go") (by walk_at "go") (by walk_at "go") rfl rfl ht.le (fun _ _ => rfl))) EvL.nil rfl) rfl) rfl) (by rw [e0]; simp)) (by assumption) rfl ?_
    have hgap : CmpR .NotEq (.tuple [ls (sl base i p), ls (sl ours o q), ls (sl theirs t r')]) (.tuple [.list [], .list [], .list []]) (!decide (sl base i p = [] ∧ sl ours o q = [] ∧ sl theirs t r' = [])) := by
      rw [← eqv3]
      exact .ne (canLayAll3 g1.ok g2.ok g3.ok) (by decide)
    have hnil3 : ∀ {ρ : List (Option AV)} {k : Nat} {p1 p2 p3 p4 : Pos}, Ev F ρ (.Tuple [.List [] p1, .List [] p2, .List [] p3] k p4) (.tuple [.list [], .list [], .list []]) := fun {ρ k p1 p2 p3 p4} =>
      Ev.tuple (EvL.cons (Ev.ofNew (EvNew.list EvL.nil (Nat.zero_le _))) (EvL.cons (Ev.ofNew (EvNew.list EvL.nil (Nat.zero_le _))) (EvL.cons (Ev.ofNew (EvNew.list EvL.nil (Nat.zero_le _))) EvL.nil rfl) rfl) rfl) (by rw [e0]; simp)
    simp only [List.foldl_cons, List.foldl_nil]
    unfold stepL
    simp only
    by_cases hg : sl base i p = [] ∧ sl ours o q = [] ∧ sl theirs t r' = []
    · rw [if_pos hg]
      exact Ex.weakenNext (Ex.cons (Ex1.ifF (Tr.eq (Tr.cmp (by walk_at "go") hnil3 hgap rfl) (by simpa using hg)) Ex.nil) (Ex.set (i := 5) (d := ls (run ++ sl base p (p + 1))) (Ev.eq (Ev.bin (by walk_at "go") (Ev.ofNew (EvNew.sliceLs p (p + 1) (by walk_at "go") (by walk_at "go") (by walk_at "go") rfl (by simp) hb.le (fun _ _ => rfl))) (.addList (by simp; omega))) (by simp)) (by assumption) rfl
        (Ex.set (i := 6) (d := .int ((p + 1 : Nat) : Int)) (Ev.eq (by walk_at "go") (by simp)) (by assumption) rfl (Ex.set (i := 7) (d := .int ((q + 1 : Nat) : Int)) (Ev.eq (by walk_at "go") (by simp)) (by assumption) rfl (Ex.set (i := 8) (d := .int ((r' + 1 : Nat) : Int)) (Ev.eq (by walk_at "go") (by simp)) (by assumption) rfl Ex.nil))))) (by walk_at "wk")
    · rw [if_neg hg]
      refine Ex.weakenNext (Ex.cons (Ex1.ifT (Tr.eq (Tr.cmp (by walk_at "go") hnil3 hgap rfl) (by rw [decide_eq_false hg]; rfl)) (Ex.ite' (b := !decide (run = [])) (Tr.cmp (by walk_at "go") (Ev.ofNew (EvNew.list EvL.nil (Nat.zero_le _))) hrun rfl) (ρ₁ := lV base ours theirs stops (acc ++ flush run, run, i, o, t) (some (.dat (sD (p, q, r')))) (some (.dat (.tuple [ls (sl base i p), ls (sl ours o q), ls (sl theirs t r')])))) (fun hb' => ?_) (fun hb' => ?_)
        (Ex.set (i := 5) (d := ls []) (Ev.ofNew (EvNew.list EvL.nil (Nat.zero_le _))) (by assumption) rfl
        (Ex.cons (Ex1.append 4 (d := chD (lk (sl base i p) (sl ours o q) (sl theirs t r'), sl base i p, sl ours o q, sl theirs t r')) (by assumption) rfl (Ev.bin (Ev.tuple (EvL.cons (Ev.call' (EvL.cons (by walk_at "go") (EvL.cons (by walk_at "go") (EvL.cons (by walk_at "go") EvL.nil rfl) rfl) rfl) (HK _ _ _ g1 g2 g3) hlv (by assumption) (fun _ => ⟨_, _, rfl, rfl⟩) (by decide)) EvL.nil rfl) (by rw [e0]; simp)) (by walk_at "go") (.addTup (by simp; omega))) (by
          have hf : (flush run).length ≤ 1 := by unfold flush; split <;> simp
          simp; omega) rfl rfl) Ex.nil)))) (Ex.set (i := 5) (d := ls (sl base p (p + 1))) (Ev.eq (Ev.bin (by walk_at "go") (Ev.ofNew (EvNew.sliceLs p (p + 1) (by walk_at "go") (by walk_at "go") (by walk_at "go") rfl (by simp) hb.le (fun _ _ => rfl))) (.addList (by simp; omega))) (by simp)) (by assumption) rfl
        (Ex.set (i := 6) (d := .int ((p + 1 : Nat) : Int)) (Ev.eq (by walk_at "go") (by simp)) (by assumption) rfl (Ex.set (i := 7) (d := .int ((q + 1 : Nat) : Int)) (Ev.eq (by walk_at "go") (by simp)) (by assumption) rfl (Ex.set (i := 8) (d := .int ((r' + 1 : Nat) : Int)) (Ev.eq (by walk_at "go") (by simp)) (by assumption) rfl Ex.nil))))) ?_
      · have hne : run ≠ [] := by simpa using hb'
        rw [flush, if_neg hne]
        refine Ex.weakenNext (Ex.cons (Ex1.append 4 (d := chD (.same, run, run, run)) (by assumption) rfl (Ev.tuple (EvL.cons Ev.str (EvL.cons (by walk_at "go") (EvL.cons (by walk_at "go") (EvL.cons (by walk_at "go") EvL.nil rfl) rfl) rfl) rfl) (by rw [e0]; simp)) (by simp; omega) rfl rfl) Ex.nil) ?_
        rw [app]
        walk_at "wk"
      · have he : run = [] := by simpa using hb'
        rw [flush, if_pos he, List.append_nil]
        exact Ex.nil
      · rw [app]
        walk_at "wk"
  · simp only [Nat.zero_add] at hok
    have hlen : (stops ++ [(base.length, ours.length, theirs.length)]).length ≤ 101 := by simp; omega
    generalize (stops ++ [(base.length, ours.length, theirs.length)]).foldl (stepL base ours theirs) ([], [], 0, 0, 0) = st at hok ⊢
    obtain ⟨acc, run, i, o, t⟩ := st
    have h1 := hok.acc
    have h2 := hok.run
    have h3 := hok.mem
    simp only at h1 h2 h3
    have hrun := shr h3
    refine Ex.ite' (b := !decide (run = [])) (Tr.cmp (by walk_at "go") (Ev.ofNew (EvNew.list EvL.nil (Nat.zero_le _))) hrun rfl) (ρ₁ := lV base ours theirs stops (acc ++ flush run, run, i, o, t) none none) (fun hb' => ?_) (fun hb' => ?_) (Ex.freeze (i := 4) (by assumption) rfl (Ex.consRet (Ex1.ret (by walk_at "go"))))
    · have hne : run ≠ [] := by simpa using hb'
      rw [flush, if_neg hne]
      refine Ex.weakenNext (Ex.cons (Ex1.append 4 (d := chD (.same, run, run, run)) (by assumption) rfl (Ev.tuple (EvL.cons Ev.str (EvL.cons (by walk_at "go") (EvL.cons (by walk_at "go") (EvL.cons (by walk_at "go") EvL.nil rfl) rfl) rfl) rfl) (by rw [e0]; simp)) (by simp; omega) rfl rfl) Ex.nil) ?_
      rw [app]
      walk_at "wk"
    · have he : run = [] := by simpa using hb'
      rw [flush, if_pos he, List.append_nil]
      exact Ex.nil
section
variable (a b : List Str)
noncomputable def ent (i0 c0 r c : Nat) : Int := if i0 < r ∨ (r = i0 ∧ c0 ≤ c) then ((lcs (a.drop r) (b.drop c) : Nat) : Int) else 0
noncomputable def rowS (i0 c0 r : Nat) : List Int := (List.range (b.length + 1)).map (ent a b i0 c0 r)
noncomputable def tabS (i0 c0 : Nat) : List (List Int) := (List.range (a.length + 1)).map (rowS a b i0 c0)
theorem rowS_get {i0 c0 r c : Nat} (h : c ≤ b.length) : (rowS a b i0 c0 r)[c]? = some (ent a b i0 c0 r c) := by
  unfold rowS; rw [List.getElem?_map, List.getElem?_range (by omega)]; rfl
theorem tabS_get {i0 c0 r : Nat} (h : r ≤ a.length) : (tabS a b i0 c0)[r]? = some (rowS a b i0 c0 r) := by
  unfold tabS; rw [List.getElem?_map, List.getElem?_range (by omega)]; rfl
theorem lcs_nil_right (xs : List Str) : lcs xs ([] : List Str) = 0 := by cases xs <;> simp [lcs]
theorem tabS_ext {i0 c0 i1 c1 : Nat} (h : ∀ r c, r ≤ a.length → c ≤ b.length → ent a b i0 c0 r c = ent a b i1 c1 r c) : tabS a b i0 c0 = tabS a b i1 c1 := by
  unfold tabS
  apply List.map_congr_left
  intro r hr
  simp at hr
  unfold rowS
  apply List.map_congr_left
  intro c hc
  simp at hc
  exact h r c (by omega) (by omega)
theorem tabS_start : tabS a b a.length 0 = List.replicate (a.length + 1) (List.replicate (b.length + 1) 0) := by
  unfold tabS
  apply List.ext_getElem
  · simp
  · intro r h1 h2
    simp only [List.getElem_map, List.getElem_range, List.getElem_replicate]
    unfold rowS
    apply List.ext_getElem
    · simp
    · intro c h3 h4
      simp only [List.getElem_map, List.getElem_range, List.getElem_replicate]
      unfold ent
      split
      · have : a.drop r = [] := List.drop_eq_nil_of_le (by omega)
        rw [this]; simp [lcs]
      · rfl
theorem tabS_next {i : Nat} (hi : i < a.length) : tabS a b (i + 1) 0 = tabS a b i b.length := by
  apply tabS_ext
  intro r c hr hc
  unfold ent
  by_cases h : i < r
  · rw [if_pos (by omega), if_pos (.inl h)]
  · rw [if_neg (by omega)]
    split
    · have hc' : c = b.length := by omega
      rw [List.drop_eq_nil_of_le (show b.length ≤ c by omega), lcs_nil_right]; rfl
    · rfl
theorem tabS_done : tabS a b 0 0 = rowsL a b := by
  unfold tabS rowsL
  apply List.map_congr_left
  intro r _
  unfold rowS rowL
  apply List.map_congr_left
  intro c _
  unfold ent
  rw [if_pos (by omega)]
theorem tabS_set {i j : Nat} (hi : i < a.length) (hj : j < b.length) : (tabS a b i (j + 1)).set i ((rowS a b i (j + 1) i).set j ((lcs (a.drop i) (b.drop j) : Nat) : Int)) = tabS a b i j := by
  apply List.ext_getElem?
  intro r
  by_cases hr : r = i
  · subst hr
    rw [List.getElem?_set_self (by simp [tabS]; omega), tabS_get a b (by omega)]
    congr 1
    apply List.ext_getElem?
    intro c
    by_cases hc : c = j
    · subst hc
      rw [List.getElem?_set_self (by simp [rowS]; omega), rowS_get a b (by omega)]
      unfold ent
      rw [if_pos (by omega)]
    · rw [List.getElem?_set_ne (Ne.symm hc)]
      by_cases hc2 : c ≤ b.length
      · rw [rowS_get a b hc2, rowS_get a b hc2]
        congr 1
        unfold ent
        by_cases h : j + 1 ≤ c
        · rw [if_pos (by omega), if_pos (by omega)]
        · rw [if_neg (by omega), if_neg (by omega)]
      · rw [List.getElem?_eq_none (by simp [rowS]; omega), List.getElem?_eq_none (by simp [rowS]; omega)]
  · rw [List.getElem?_set_ne (Ne.symm hr)]
    by_cases hr2 : r ≤ a.length
    · rw [tabS_get a b hr2, tabS_get a b hr2]
      congr 1
      unfold rowS
      apply List.map_congr_left
      intro c _
      unfold ent
      by_cases h : i < r
      · rw [if_pos (by omega), if_pos (by omega)]
      · rw [if_neg (by omega), if_neg (by omega)]
    · rw [List.getElem?_eq_none (by simp [tabS]; omega), List.getElem?_eq_none (by simp [tabS]; omega)]
end
theorem rangeD_down (n : Nat) : rangeD ((n : Int) - 1) (-1) n = (List.range n).map (fun k : Nat => PyData.int ((n : Int) - 1 - k)) := by
  unfold rangeD
  apply List.map_congr_left
  intro k _
  congr 1
  omega
theorem It.down {F : Fx} {ρ : List (Option AV)} {y : Str} {p np pos : Pos} {e1 e2 e3 : Expr} {n : Nat} (h1 : Ev F ρ e1 (.int ((n : Int) - 1))) (h2 : Ev F ρ e2 (.int (-1))) (h3 : Ev F ρ e3 (.int (-1))) (hn : n < 2 ^ 60)
    (hs : ∀ pos, backTo pos (starEach [e1, e2, e3] F.env) = [(false, eval e1 F.env), (false, eval e2 F.env), (false, eval e3 F.env)]) (hx : F.env.kindOf "range" = some .globalImplicit) :
    It F ρ (.Name y p) (.Call (.Name "range" np) [e1, e2, e3] [] pos) ((List.range n).map (fun k : Nat => PyData.int ((n : Int) - 1 - k))) := by
  rw [← rangeD_down]; exact It.rangeDown h1 h2 h3 hn hs hx
inductive X_lcstable (F : Fx) : Prop
  | mk : (F.env.scope = s_lcstable) → (F.ns[0]? = some ("a" : Str)) → (F.ns[1]? = some ("table" : Str)) → (F.ns[2]? = some ("i" : Str)) → (F.ns[3]? = some ("j" : Str)) → (F.env.kindOf "range" = some .globalImplicit) → (F.env.kindOf "len" = some .globalImplicit) → (F.env.kindOf "max" = some .globalImplicit) → (F.env.kindOf "b" = some .cell) → X_lcstable F
theorem X_lcstable.sc {F : Fx} (X : X_lcstable F) : F.env.scope = s_lcstable := by cases X; assumption
theorem X_lcstable.mk' {F : Fx} (hs : F.env.scope = s_lcstable) (hn : F.ns = n_lcstable) : X_lcstable F := by
  refine ⟨hs, ?_, ?_, ?_, ?_, ?_, ?_, ?_, ?_⟩
  all_goals first | (rw [hn]; rfl) | (rw [Env.kindOf, hs]; decide +kernel)
theorem x_lcstable {F : Fx} (X : X_lcstable F) {a b : List Str} (ha : Good a) (hb : Good b) {a1 : Addr} {v1 : Value} (hcl : F.cl = [(("b" : Str), a1, v1, ls b)]) (hk1 : F.env.cells.lookup ("b" : Str) = some a1) :
    Ex F [some (.dat (ls a)), none, none, none] b_lcstable (.ret (tabD (rowsL a b))) := by
  have sc := X.sc
  cases X with
  | mk _ n0 n1 n2 n3 k_range k_len k_max c1 =>
  have e0 := sizeLine_eq
  have hal := ha.len
  have hbl := hb.len
  have lenA : lenD (ls a) = some a.length := lenD_ls _
  have lenB : lenD (ls b) = some b.length := lenD_ls _
  have hfk : F.env.scope.kind = .function := by rw [sc]; decide +kernel
  have cb : ∀ {ρ : List (Option AV)} {p : Pos}, Ev F ρ (.Name "b" p) (ls b) := fun {ρ p} => Ev.cell (by rw [hcl]; exact List.mem_cons_self ..) c1 (by decide)
  refine Ex.setTab 1 (r := List.replicate (b.length + 1) 0) (fun n => a1) (by assumption) (It.up (n := a.length + 1) (Ev.eq (Ev.bin (Ev.len (by walk_at "go") lenA (by omega) rfl (by assumption)) (by walk_at "go") .addInt) (by simp)) (by omega) rfl (by assumption)) (fun d hd C hn => ?_) ?_ ?_ (by rw [Env.blockKind, Env.kindOf, sc]; decide +kernel) rfl (by decide +kernel) rfl (by decide +kernel) (by decide +kernel) (by simp; omega) (fun _ => rfl) ?_
  · rw [List.map_replicate]
    exact EvNew.mulOne (Ev.ofNew (EvNew.list (EvL.cons Ev.int EvL.nil rfl) (by rw [e0]; simp))) (Ev.eq (Ev.bin (Ev.len (Ev.cell (by show _ ∈ F.cl; rw [hcl]; exact List.mem_cons_self ..) (comp_cell (by decide +kernel) hfk c1) (by decide)) lenB (by omega) rfl (comp_kind (by decide) (by decide +kernel))) Ev.int .addInt) (by simp)) (by omega)
  · intro p hp he
    have : p.1 = "b" := by
      clear hcl hk1
      revert p
      decide +kernel
    rw [this]; exact hk1
  · rw [hcl]
    intro c hc
    simp only [List.mem_cons, List.not_mem_nil, or_false] at hc
    subst hc
    exact ⟨by simp only; decide +kernel, rfl⟩
  rw [List.length_map, List.length_range, ← tabS_start]
  refine Ex.forFold 2 (fun k : Nat => PyData.int ((a.length : Int) - 1 - k)) (fun done => [some (.dat (ls a)), some (.tab (tabS a b (a.length - done.length) 0)), none, none]) (List.range a.length) (by assumption)
    (It.down (n := a.length) (Ev.bin (Ev.len (by walk_at "go") lenA (by omega) rfl (by assumption)) (by walk_at "go") .subInt) (by walk_at "go") (by walk_at "go") (by omega) (fun _ => rfl) (by assumption)) (fun _ => rfl) (fun d k r e => ?_) ?_
  · obtain ⟨rfl, -, hi⟩ := range_split e
    rw [List.length_append]
    obtain ⟨i, hi1, hi2, hi3⟩ : ∃ i : Nat, a.length - d.length = i + 1 ∧ a.length - (d.length + [d.length].length) = i ∧ ((a.length : Int) - 1 - (d.length : Nat)) = (i : Int) := ⟨a.length - 1 - d.length, by omega, by simp; omega, by omega⟩
    have hia : i < a.length := by omega
    rw [hi1, hi2]
    show Ex F [some (.dat (ls a)), some (.tab (tabS a b (i + 1) 0)), some (.dat (.int ((a.length : Int) - 1 - (d.length : Nat)))), none] _ (.next [some (.dat (ls a)), some (.tab (tabS a b i 0)), none, none])
    rw [hi3, tabS_next a b hia]
    obtain ⟨x, hx⟩ : ∃ x, a[i]? = some x := ⟨_, List.getElem?_eq_getElem hia⟩
    have sx : SubR (ls a) (.int (i : Int)) (.str x) := .ls i rfl hx (by omega)
    refine Ex.forFold 3 (fun k : Nat => PyData.int ((b.length : Int) - 1 - k)) (fun done => [some (.dat (ls a)), some (.tab (tabS a b i (b.length - done.length))), some (.dat (.int (i : Int))), none]) (List.range b.length) (by assumption)
      (It.down (n := b.length) (Ev.bin (Ev.len cb lenB (by omega) rfl (by assumption)) (by walk_at "go") .subInt) (by walk_at "go") (by walk_at "go") (by omega) (fun _ => rfl) (by assumption)) (fun _ => rfl) (fun d' k' r' e' => ?_) ?_
    · obtain ⟨rfl, -, hj⟩ := range_split e'
      rw [List.length_append]
      obtain ⟨j, hj1, hj2, hj3⟩ : ∃ j : Nat, b.length - d'.length = j + 1 ∧ b.length - (d'.length + [d'.length].length) = j ∧ ((b.length : Int) - 1 - (d'.length : Nat)) = (j : Int) := ⟨b.length - 1 - d'.length, by omega, by simp; omega, by omega⟩
      have hjb : j < b.length := by omega
      rw [hj1, hj2]
      show Ex F [some (.dat (ls a)), some (.tab (tabS a b i (j + 1))), some (.dat (.int (i : Int))), some (.dat (.int ((b.length : Int) - 1 - (d'.length : Nat))))] _ (.next [some (.dat (ls a)), some (.tab (tabS a b i j)), some (.dat (.int (i : Int))), none])
      rw [hj3]
      obtain ⟨y, hy⟩ : ∃ y, b[j]? = some y := ⟨_, List.getElem?_eq_getElem hjb⟩
      have sy : SubR (ls b) (.int (j : Int)) (.str y) := .ls j rfl hy (by omega)
      have da : a.drop i = x :: a.drop (i + 1) := by rw [List.drop_eq_getElem_cons hia]; congr 1; exact (List.getElem?_eq_some_iff.mp hx).2
      have db : b.drop j = y :: b.drop (j + 1) := by rw [List.drop_eq_getElem_cons hjb]; congr 1; exact (List.getElem?_eq_some_iff.mp hy).2
      have hrl : j < (rowS a b i (j + 1) i).length := by simp [rowS]; omega
      have E1 : ent a b i (j + 1) (i + 1) (j + 1) = ((lcs (a.drop (i + 1)) (b.drop (j + 1)) : Nat) : Int) := by unfold ent; rw [if_pos (by omega)]
      have E2 : ent a b i (j + 1) (i + 1) j = ((lcs (a.drop (i + 1)) (b.drop j) : Nat) : Int) := by unfold ent; rw [if_pos (by omega)]
      have E3 : ent a b i (j + 1) i (j + 1) = ((lcs (a.drop i) (b.drop (j + 1)) : Nat) : Int) := by unfold ent; rw [if_pos (by omega)]
      have R1 := tabS_get a b (i0 := i) (c0 := j + 1) (r := i + 1) (by omega)
      have R0 := tabS_get a b (i0 := i) (c0 := j + 1) (r := i) (by omega)
      have G1 := rowS_get a b (i0 := i) (c0 := j + 1) (r := i + 1) (c := j + 1) (by omega)
      have G2 := rowS_get a b (i0 := i) (c0 := j + 1) (r := i + 1) (c := j) (by omega)
      have G3 := rowS_get a b (i0 := i) (c0 := j + 1) (r := i) (c := j + 1) (by omega)
      rw [E1] at G1
      rw [E2] at G2
      rw [E3] at G3
      rw [← tabS_set a b hia hjb]
      by_cases h : x = y
      · refine Ex.weakenNext (Ex.cons (Ex1.ifT (Tr.eq (Tr.cmp (by walk_at "go") (Ev.sub cb (by walk_at "go") sy (fun _ _ => rfl)) .eqStr rfl) (by simpa using h)) (Ex.cons (Ex1.tabSet 1 i j (v := ((lcs (a.drop i) (b.drop j) : Nat) : Int)) (by assumption) rfl (Ev.eq (Ev.bin (Ev.tabGet 1 (i + 1) (j + 1) (by assumption) rfl (by walk_at "go") (by walk_at "go") (by simp) (by simp) R1 G1 (by omega) (by omega) (fun _ _ => rfl) (fun _ _ => rfl)) (by walk_at "go") .addInt) (by
          rw [da, db, lcs, if_pos h]; simp)) (by walk_at "go") (by walk_at "go") rfl rfl R0 hrl (by omega) (by omega) (fun _ _ => rfl) rfl rfl) Ex.nil)) Ex.nil) (by walk_at "wk")
      · refine Ex.weakenNext (Ex.cons (Ex1.ifF (Tr.eq (Tr.cmp (by walk_at "go") (Ev.sub cb (by walk_at "go") sy (fun _ _ => rfl)) .eqStr rfl) (by simpa using h)) (Ex.cons (Ex1.tabSet 1 i j (v := ((lcs (a.drop i) (b.drop j) : Nat) : Int)) (by assumption) rfl (Ev.eq (Ev.max (Ev.tabGet 1 (i + 1) j (by assumption) rfl (by walk_at "go") (by walk_at "go") (by simp) rfl R1 G2 (by omega) (by omega) (fun _ _ => rfl) (fun _ _ => rfl)) (Ev.tabGet 1 i (j + 1) (by assumption) rfl (by walk_at "go") (by walk_at "go") rfl (by simp) R0 G3 (by omega) (by omega) (fun _ _ => rfl) (fun _ _ => rfl)) rfl (by assumption)) (by
          have hl : lcs (a.drop i) (b.drop j) = max (lcs (a.drop (i + 1)) (b.drop j)) (lcs (a.drop i) (b.drop (j + 1))) := by
            rw [da, db, lcs, if_neg h]
          rw [hl]
          congr 1
          split <;> omega)) (by walk_at "go") (by walk_at "go") rfl rfl R0 hrl (by omega) (by omega) (fun _ _ => rfl) rfl rfl) Ex.nil)) Ex.nil) (by walk_at "wk")
    · rw [List.length_range, Nat.sub_self]
      exact Ex.weakenNext Ex.nil (by walk_at "wk")
  · rw [List.length_range, Nat.sub_self, tabS_done]
    exact Ex.freezeTab (i := 1) (by assumption) rfl rfl (Ex.consRet (Ex1.ret (by walk_at "go")))
noncomputable def cdJoin : List (List Nat) → List Nat
  | [] => []
  | [x] => x
  | x :: y :: r => x ++ 10 :: cdJoin (y :: r)
theorem nl_cd : cd (("\n" : String) : Str) = [10] := by decide +kernel
theorem nl_mk : (("\n" : String) : Str) = ⟨#[10]⟩ := by decide +kernel
theorem cd_join : ∀ ps : List Str, cd (Str.join "\n" ps) = cdJoin (ps.map cd)
  | [] => rfl
  | [x] => rfl
  | x :: y :: r => by
    show cd (x ++ ("\n" : Str) ++ Str.join "\n" (y :: r)) = _
    rw [cd_append, cd_append, cd_join (y :: r), nl_cd]
    simp [cdJoin]
theorem app10 : ∀ {x y A B : List Nat}, 10 ∉ x → 10 ∉ y → x ++ 10 :: A = y ++ 10 :: B → x = y ∧ A = B
  | [], [], A, B, _, _, h => by simpa using h
  | [], u :: y, A, B, _, hy, h => by
    simp only [List.nil_append, List.cons_append, List.cons.injEq] at h
    exact absurd (by rw [← h.1]; simp) hy
  | v :: x, [], A, B, hx, _, h => by
    simp only [List.nil_append, List.cons_append, List.cons.injEq] at h
    exact absurd (by rw [h.1]; simp) hx
  | v :: x, u :: y, A, B, hx, hy, h => by
    simp only [List.cons_append, List.cons.injEq] at h
    simp only [List.mem_cons, not_or] at hx hy
    obtain ⟨h1, h2⟩ := app10 hx.2 hy.2 h.2
    exact ⟨by rw [h.1, h1], h2⟩
theorem cdJoin_inj : ∀ {ps qs : List (List Nat)}, ps ≠ [] → qs ≠ [] → (∀ p ∈ ps, 10 ∉ p) → (∀ q ∈ qs, 10 ∉ q) → cdJoin ps = cdJoin qs → ps = qs
  | [], _, h, _, _, _, _ => absurd rfl h
  | _, [], _, h, _, _, _ => absurd rfl h
  | [x], [y], _, _, _, _, h => by rw [show x = y from h]
  | [x], y :: z :: r, _, _, hp, _, h => by
    exfalso
    have h : x = y ++ 10 :: cdJoin (z :: r) := h
    exact hp x (by simp) (by rw [h]; simp)
  | x :: z :: r, [y], _, _, _, hq, h => by
    exfalso
    have h : x ++ 10 :: cdJoin (z :: r) = y := h
    exact hq y (by simp) (by rw [← h]; simp)
  | x :: x2 :: r, y :: y2 :: r', _, _, hp, hq, h => by
    have h : x ++ 10 :: cdJoin (x2 :: r) = y ++ 10 :: cdJoin (y2 :: r') := h
    obtain ⟨h1, h2⟩ := app10 (hp x (by simp)) (hq y (by simp)) h
    rw [h1, cdJoin_inj (by simp) (by simp) (fun p hp' => hp p (List.mem_cons_of_mem _ hp')) (fun q hq' => hq q (List.mem_cons_of_mem _ hq')) h2]
theorem cd_lines (tail : Str) : ∀ items : List Str, cd (jn (linesS items tail)) = cdJoin (items.map cd ++ [cd tail])
  | [] => by
    unfold linesS
    by_cases h : tail = ""
    · rw [if_pos h, h]; simp only [List.map_nil, List.nil_append, List.append_nil, jn_nil]; rfl
    · rw [if_neg h]; simp only [List.map_nil, List.nil_append, jn_one]; rfl
  | x :: items => by
    have ih := cd_lines tail items
    have e : linesS (x :: items) tail = (x ++ ("\n" : Str)) :: linesS items tail := rfl
    rw [e, jn_cons, cd_append, cd_append, ih, nl_cd, List.map_cons, List.cons_append]
    cases items with
    | nil => simp [cdJoin]
    | cons y r => simp [cdJoin]
theorem split_lines {items : List Str} {tail : Str} (h1 : ∀ x ∈ items, 10 ∉ cd x) (h2 : 10 ∉ cd tail) : Txt.split (jn (linesS items tail)) "\n" = items ++ [tail] := by
  have hj := StrLaws.join_split (jn (linesS items tail)) "\n"
  have hf := StrLaws.split_free (jn (linesS items tail)) 10
  rw [← nl_mk] at hf
  have hpos := split_pos (jn (linesS items tail)) "\n"
  generalize Txt.split (jn (linesS items tail)) "\n" = ps at hj hf hpos
  have hc := congrArg cd hj
  rw [cd_join, cd_lines] at hc
  have := cdJoin_inj (ps := ps.map cd) (qs := items.map cd ++ [cd tail]) (by intro h; rw [List.map_eq_nil_iff] at h; rw [h] at hpos; simp at hpos) (by simp) (fun p hp => by
    obtain ⟨q, hq, rfl⟩ := List.mem_map.mp hp
    exact hf q hq) (fun q hq => by
    rcases List.mem_append.mp hq with hq | hq
    · obtain ⟨p, hp, rfl⟩ := List.mem_map.mp hq; exact h1 p hp
    · simp at hq; subst hq; exact h2) hc
  have e : items.map cd ++ [cd tail] = (items ++ [tail]).map cd := by simp
  rw [e] at this
  exact (List.map_inj_right (fun x y h => cd_inj h)).mp this
/-- all but the last line end with the line feed -/
noncomputable def Fit (xs : List Str) : Prop := ∀ (i : Nat) (x : Str), xs[i]? = some x → i + 1 < xs.length → nlEnd x = true
theorem sl_fit {xs : List Str} (h : Fit xs) (i j : Nat) : Fit (sl xs i j) := by
  intro k x hk hl
  have hlen : (sl xs i j).length ≤ xs.length - i := by simp only [sl, List.length_take, List.length_drop]; omega
  have : xs[i + k]? = some x := by
    unfold sl at hk
    rw [List.getElem?_take] at hk
    split at hk
    · rw [List.getElem?_drop] at hk; exact hk
    · cases hk
  exact h (i + k) x this (by omega)
theorem five_nl : ∀ x ∈ five, nlEnd (x ++ "\n") = true := by decide +kernel
theorem linesS_fit {items : List Str} {tail : Str} (hi : ∀ x ∈ items, x ∈ five) : Fit (linesS items tail) := by
  intro k x hk hl
  have hlt : k < items.length := by
    unfold linesS at hl
    simp only [List.length_append, List.length_map] at hl
    split at hl <;> simp at hl <;> omega
  unfold linesS at hk
  rw [List.getElem?_append_left (by simpa using hlt), List.getElem?_map, List.getElem?_eq_getElem hlt] at hk
  simp at hk
  subst hk
  exact five_nl _ (hi _ (List.getElem_mem hlt))
theorem full_jn : ∀ {xs : List Str}, (∀ x ∈ xs, nlEnd x = true) → full xs = jn xs
  | [], _ => by rw [full, jn_nil]
  | x :: xs, h => by rw [full, jn_cons, full_jn fun y hy => h y (List.mem_cons_of_mem _ hy), nl, if_pos (h x (List.mem_cons_self ..))]
theorem seven_last : ∀ x ∈ seven, nlEnd x = decide ((cd x).getLast? = some 10) ∧ cd x ≠ [] := by decide +kernel
theorem item_last {x : Str} (h : cd x ≠ []) : (Txt.item x (-1) = "\n") ↔ (cd x).getLast? = some 10 := by
  have hl : 0 < x.length := by rw [len_cd]; exact List.length_pos_iff.mpr h
  have hs : seqIndex? (-1) x.length = some (x.length - 1) := seqIndex_last hl
  have hc : Txt.charAt x (-1) = (cd x).getLast? := by
    unfold Txt.charAt
    rw [hs, List.getLast?_eq_getElem?, ← len_cd]
    simp [cd]
  unfold Txt.item
  rw [hc, nl_mk]
  cases hv : (cd x).getLast? with
  | none => exact absurd (List.getLast?_eq_none_iff.mp hv) h
  | some c => simp
theorem closed_full {xs : List Str} (hg : Good xs) (hf : Fit xs) : closedS xs = full xs := by
  by_cases hne : xs = []
  · subst hne
    unfold closedS
    rw [jn_nil, if_pos rfl]; rfl
  · obtain ⟨init, last, rfl⟩ : ∃ init last, xs = init ++ [last] := ⟨xs.dropLast, xs.getLast hne, (List.dropLast_concat_getLast hne).symm⟩
    have hinit : ∀ x ∈ init, nlEnd x = true := fun x hx => by
      obtain ⟨k, hk, e⟩ := List.mem_iff_getElem.mp hx
      exact hf k x (by rw [List.getElem?_append_left hk, List.getElem?_eq_getElem hk, e]) (by simp; omega)
    obtain ⟨h1, h2⟩ := seven_last last (hg.mem last (by simp))
    have hcd : cd (jn (init ++ [last])) = cd (jn init) ++ cd last := by rw [jn_append, jn_one, cd_append]
    have hne' : cd (jn (init ++ [last])) ≠ [] := by rw [hcd]; simp [h2]
    have hlast : (cd (jn (init ++ [last]))).getLast? = (cd last).getLast? := by rw [hcd, List.getLast?_append]; cases hv : (cd last).getLast? with | none => exact absurd (List.getLast?_eq_none_iff.mp hv) h2 | some c => rfl
    have hno : jn (init ++ [last]) ≠ "" := fun e => hne' (by rw [e]; decide +kernel)
    unfold closedS
    rw [if_neg hno, full_snoc, full_jn hinit, nl]
    by_cases h3 : nlEnd last = true
    · rw [if_pos ((item_last hne').mpr (by rw [hlast]; rw [h1] at h3; simpa using h3)), if_pos h3, jn_append, jn_one]
    · rw [if_neg (fun e => h3 (by rw [h1]; have := (item_last hne').mp e; rw [hlast] at this; simpa using this)), if_neg h3, jn_append, jn_one, Str.append_assoc]
theorem LC_goodC {base ours theirs : List Str} (hb : Good base) (ho : Good ours) (ht : Good theirs) (fo : Fit ours) (ft : Fit theirs) : ∀ (st : List (Nat × Nat × Nat)) (run : List Str) (i o t : Nat), (∀ x ∈ run, x ∈ seven) → run.length + st.length ≤ 100 →
    ∀ c ∈ LC base ours theirs run i o t st, GoodC c ∧ (c.1 = .conflict → Fit c.2.2.1 ∧ Fit c.2.2.2)
  | [], run, _, _, _, h1, h2, c, hc => by
    rw [LC] at hc
    unfold flush at hc
    split at hc
    · cases hc
    · simp at hc; subst hc
      have g : Good run := ⟨h1, by simp at h2; omega⟩
      exact ⟨⟨g, g, g⟩, fun h => by simp at h⟩
  | (p, q, r) :: rest, run, i, o, t, h1, h2, c, hc => by
    have hm := (sl_good hb p (p + 1)).mem
    have hl := sl_one_len base p
    simp only [List.length_cons] at h2
    rw [LC] at hc
    split at hc
    · exact LC_goodC hb ho ht fo ft rest _ _ _ _ (fun x hx => (List.mem_append.mp hx).elim (h1 x) (hm x)) (by rw [List.length_append]; omega) c hc
    · rcases List.mem_append.mp hc with hc | hc
      · unfold flush at hc
        split at hc
        · cases hc
        · simp at hc; subst hc
          have g : Good run := ⟨h1, by omega⟩
          exact ⟨⟨g, g, g⟩, fun h => by simp at h⟩
      · rcases List.mem_cons.mp hc with rfl | hc
        · exact ⟨⟨sl_good hb _ _, sl_good ho _ _, sl_good ht _ _⟩, fun _ => ⟨sl_fit fo _ _, sl_fit ft _ _⟩⟩
        · exact LC_goodC hb ho ht fo ft rest _ _ _ _ hm (by omega) c hc
theorem merge_eq {c : Chunk Str} (h : ChOk c) : mergeC c = mergeK c := by
  obtain ⟨k, b, o, t⟩ := c
  cases k with
  | same => exact h.1.symm
  | _ => rfl
theorem piece_eq {c : Chunk Str} (h : ChOk c) (hg : GoodC c) (hf : c.1 = .conflict → Fit c.2.2.1 ∧ Fit c.2.2.2) : pieceC c = contL c := by
  obtain ⟨k, b, o, t⟩ := c
  cases k with
  | conflict =>
    obtain ⟨f1, f2⟩ := hf rfl
    simp only [pieceC, contL, closed_full hg.o f1, closed_full hg.t f2]
  | same =>
    show jn b = jn o
    rw [h.1]
  | _ => rfl
/-- the text's defs -/
noncomputable def stName : Stmt → Str
  | .FunctionDef n _ _ _ _ _ _ _ _ _ => n
  | _ => default
noncomputable def stPos : Stmt → Pos
  | .FunctionDef _ _ _ _ _ _ _ _ _ p => p
  | _ => default
noncomputable def recAt (i : Nat) : DefRec := ⟨stName (stAt theText i), stArgs (stAt theText i), stBody (stAt theText i), stScope (stAt theText i), stPos (stAt theText i)⟩
noncomputable def theIdx : List Nat := [1, 2, 3, 4, 5, 6, 8, 9, 10, 15, 16, 17, 18, 19, 20, 21, 22, 23, 24, 25]
noncomputable def theRecs : List DefRec := theIdx.map recAt
section
variable {p : Program} {loose : List Str} {mean : ExcName → Option Value} {mg mb : Str → Option Value} {h : Heap} {prog : Program} {w : World}
theorem defAt_of (T : Top p loose mean mg mb h) (hp : recsOf p = theRecs) (i : Nat) (hi : i ∈ theIdx) : DefAt ⟨prog, w, h, mg, mb⟩ (stName (stAt theText i)) (stArgs (stAt theText i)) (stBody (stAt theText i)) (stScope (stAt theText i)) := by
  obtain ⟨a, o, pm, code, doc, h1, h2, h3, h4⟩ := T.fn (recAt i) (by rw [hp]; exact List.mem_map_of_mem hi)
  exact ⟨a, o, _, _, pm, code, doc, _, _, h1, h2, h3, h4⟩
theorem globT_of (B : Tables p w mg h) {n : Str} {ss : List Str} (e : tupStrsOf p n = some ss) : GlobT ⟨prog, w, h, mg, mb⟩ n ss := B.tupS n ss e
theorem topF_of (T : Top p loose mean mg mb h) (hf : ∀ q ∈ biTable, mg q.1 = none ∧ bootBuiltins q.1 = some q.2 ∧ q.1 ≠ "__name__") : TopF h mg mb :=
  ⟨T.g, T.b, T.nolimit, fun q hq => by
    obtain ⟨h1, h2, h3⟩ := hf q hq
    exact ⟨h1, by rw [T.builtins q.1 h3, h2]⟩⟩
theorem biBoot : ∀ q ∈ biTable, bootBuiltins q.1 = some q.2 ∧ q.1 ≠ "__name__" := by decide +kernel
theorem rep_script {P : Params} {a : Addr} {ns : List Int} (x : PySem.W.Well P h (.ref a) (PySem.W.ofPy (.list (ns.map .int)))) {mu : Addr → Prop} {h' : Heap} (hm : ∀ b o, h.get? b = some o → ¬ mu b ∧ h'.get? b = some o) : Rep prog w mu h' (.ref a) (.list (ns.map .int)) := by
  have e : PySem.W.ofPy (.list (ns.map .int)) = .list (ns.map .int) := by
    clear x
    simp only [PySem.W.ofPy]
    congr 1
    induction ns with
    | nil => rfl
    | cons i ns ih => simp [PySem.W.ofPys, PySem.W.ofPy, ih]
  rw [e] at x
  cases x with
  | @list _ vs _ hg hw =>
    refine .list (hm _ _ hg).1 (hm _ _ hg).2 ?_
    have : ∀ (vs : List Value) (ns : List Int), PySem.W.WellAll P h vs (ns.map .int) → Reps prog w mu h' vs (ns.map .int) := by
      intro vs
      induction vs with
      | nil =>
        intro ns hw
        cases ns with
        | nil => exact .nil
        | cons i ns => cases hw
      | cons v vs ih =>
        intro ns hw
        cases ns with
        | nil => cases hw
        | cons i ns =>
          cases hw with
          | cons h1 h2 =>
            cases h1
            exact .cons (.int i _) (ih ns h2)
    exact this vs ns hw
end
theorem vlen1 {vs : List Value} (h : vs.length = 1) : ∃ a, vs = [a] := List.length_eq_one_iff.mp h
theorem vcons {vs : List Value} {n : Nat} (h : vs.length = n + 1) : ∃ a r, vs = a :: r ∧ r.length = n := by
  cases vs with
  | nil => simp at h
  | cons a r => exact ⟨a, r, rfl, by simpa using h⟩
theorem vlen2 {vs : List Value} (h : vs.length = 2) : ∃ a b, vs = [a, b] := by
  obtain ⟨a, r, rfl, h2⟩ := vcons h; obtain ⟨b, rfl⟩ := vlen1 h2; exact ⟨a, b, rfl⟩
theorem vlen3 {vs : List Value} (h : vs.length = 3) : ∃ a b c, vs = [a, b, c] := by
  obtain ⟨a, r, rfl, h2⟩ := vcons h; obtain ⟨b, c, rfl⟩ := vlen2 h2; exact ⟨a, b, c, rfl⟩
theorem vlen4 {vs : List Value} (h : vs.length = 4) : ∃ a b c d, vs = [a, b, c, d] := by
  obtain ⟨a, r, rfl, h2⟩ := vcons h; obtain ⟨b, c, d, rfl⟩ := vlen3 h2; exact ⟨a, b, c, d, rfl⟩
theorem vlen5 {vs : List Value} (h : vs.length = 5) : ∃ a b c d e, vs = [a, b, c, d, e] := by
  obtain ⟨a, r, rfl, h2⟩ := vcons h; obtain ⟨b, c, d, e, rfl⟩ := vlen4 h2; exact ⟨a, b, c, d, e, rfl⟩
theorem hrho {ns pn : List Str} {args : List PyData} (m n : Nat) (hm : m ≤ args.length) (h1 : ∀ k, k < m → ns[k]? = pn[k]?) : ∀ (i : Nat) (x : Str) (av : AV), ns[i]? = some x → ((args.take m).map (fun d => some (AV.dat d)) ++ List.replicate n none)[i]? = some (some av) → ∃ (k : Nat) (d : PyData), pn[k]? = some x ∧ args[k]? = some d ∧ av = .dat d := by
  intro i x av hx h
  by_cases hi : i < m
  · rw [List.getElem?_append_left (by simp; omega), List.getElem?_map, List.getElem?_take, if_pos hi] at h
    cases ha : args[i]? with
    | none => rw [ha] at h; cases h
    | some d =>
      rw [ha] at h
      cases h
      exact ⟨i, d, by rw [← h1 i hi]; exact hx, ha, rfl⟩
  · rw [List.getElem?_append_right (by simp; omega), List.getElem?_replicate] at h
    split at h <;> cases h
abbrev Defs (T : Tx) : Prop := ∀ i ∈ theIdx, DefAt T (stName (stAt theText i)) (stArgs (stAt theText i)) (stBody (stAt theText i)) (stScope (stAt theText i))
section
variable {T : Tx} (hT : TopF T.hT T.mg T.mb) (D : Defs T)
include hT D
theorem f_chunkkind {b o t : List Str} (hb : Good b) (ho : Good o) (ht : Good t) : Fn T 1 "chunk_kind" [ls b, ls o, ls t] (.str (kstr (ck b o t))) :=
  Fn.intro (lvl := 0) (D 3 (by decide) : DefAt T "chunk_kind" a_chunkkind b_chunkkind s_chunkkind) hT n_chunkkind ["base", "ours", "theirs"] (n_chunkkind.drop 3) (by decide +kernel) rfl (by decide +kernel) (by decide +kernel) (by decide +kernel)
    (fun nm q pm cd doc ct an vs hl => by obtain ⟨_, _, _, rfl⟩ := vlen3 hl; rfl) (by decide +kernel) (by decide +kernel) (by decide +kernel) (by decide +kernel) (fun F h1 h2 h3 h4 h5 => x_chunkkind (X_chunkkind.mk' h2 h3) hb ho ht)
theorem f_Lkind {b o t : List Str} (hb : Good b) (ho : Good o) (ht : Good t) : Fn T 1 "_law_kind" [ls b, ls o, ls t] (.str (kstr (lk b o t))) :=
  Fn.intro (lvl := 0) (D 20 (by decide) : DefAt T "_law_kind" a_Lkind b_Lkind s_Lkind) hT n_Lkind ["b", "o", "t"] (n_Lkind.drop 3) (by decide +kernel) rfl (by decide +kernel) (by decide +kernel) (by decide +kernel)
    (fun nm q pm cd doc ct an vs hl => by obtain ⟨_, _, _, rfl⟩ := vlen3 hl; rfl) (by decide +kernel) (by decide +kernel) (by decide +kernel) (by decide +kernel) (fun F h1 h2 h3 h4 h5 => x_Lkind (X_Lkind.mk' h2 h3) hb ho ht)
theorem f_closed {xs : List Str} (h : Good xs) : Fn T 1 "closed" [ls xs] (.str (closedS xs)) :=
  Fn.intro (lvl := 0) (D 9 (by decide) : DefAt T "closed" a_closed b_closed s_closed) hT n_closed ["lines"] (n_closed.drop 1) (by decide +kernel) rfl (by decide +kernel) (by decide +kernel) (by decide +kernel)
    (fun nm q pm cd doc ct an vs hl => by obtain ⟨_, rfl⟩ := vlen1 hl; rfl) (by decide +kernel) (by decide +kernel) (by decide +kernel) (by decide +kernel) (fun F h1 h2 h3 h4 h5 => x_closed (X_closed.mk' h2 h3) h)
theorem f_Lfull {xs : List Str} (h : Good xs) : Fn T 1 "_law_full" [ls xs] (.str (full xs)) :=
  Fn.intro (lvl := 0) (D 22 (by decide) : DefAt T "_law_full" a_Lfull b_Lfull s_Lfull) hT n_Lfull ["side"] (n_Lfull.drop 1) (by decide +kernel) rfl (by decide +kernel) (by decide +kernel) (by decide +kernel)
    (fun nm q pm cd doc ct an vs hl => by obtain ⟨_, rfl⟩ := vlen1 hl; rfl) (by decide +kernel) (by decide +kernel) (by decide +kernel) (by decide +kernel) (fun F h1 h2 h3 h4 h5 => x_Lfull (X_Lfull.mk' h2 h3) h)
theorem f_Llines {items : List Str} {tail : Str} (hi : Items items) : Fn T 1 "_law_lines" [ls items, .str tail] (ls (linesS items tail)) :=
  Fn.intro (lvl := 0) (D 17 (by decide) : DefAt T "_law_lines" a_Llines b_Llines s_Llines) hT n_Llines ["items", "tail"] (n_Llines.drop 2) (by decide +kernel) rfl (by decide +kernel) (by decide +kernel) (by decide +kernel)
    (fun nm q pm cd doc ct an vs hl => by obtain ⟨_, _, rfl⟩ := vlen2 hl; rfl) (by decide +kernel) (by decide +kernel) (by decide +kernel) (by decide +kernel) (fun F h1 h2 h3 h4 h5 => x_Llines (X_Llines.mk' h2 h3) h4 hi)
theorem f_linesof {c : Str} {init : List Str} {last : Str} (hc : c.length ≤ 1000) (hsp : Txt.split c "\n" = init ++ [last]) (hi : Items init) : Fn T 1 "lines_of" [.str c] (ls (linesS init last)) :=
  Fn.intro (lvl := 0) (D 8 (by decide) : DefAt T "lines_of" a_linesof b_linesof s_linesof) hT n_linesof ["content"] (n_linesof.drop 1) (by decide +kernel) rfl (by decide +kernel) (by decide +kernel) (by decide +kernel)
    (fun nm q pm cd doc ct an vs hl => by obtain ⟨_, rfl⟩ := vlen1 hl; rfl) (by decide +kernel) (by decide +kernel) (by decide +kernel) (by decide +kernel) (fun F h1 h2 h3 h4 h5 => x_linesof (X_linesof.mk' h2 h3) h4 hc hsp hi)
theorem f_Lstem (G : GlobT T "_law_words" wordsL) {size : Int} {cs : List Int} (hc : cs.length ≤ 10) : Fn T 1 "_law_stem" [.int size, .tuple (cs.map .int)] (ls (stemS size cs)) :=
  Fn.intro (lvl := 0) (D 15 (by decide) : DefAt T "_law_stem" a_Lstem b_Lstem s_Lstem) hT n_Lstem ["size", "cells"] (n_Lstem.drop 2) (by decide +kernel) rfl (by decide +kernel) (by decide +kernel) (by decide +kernel)
    (fun nm q pm cd doc ct an vs hl => by obtain ⟨_, _, rfl⟩ := vlen2 hl; rfl) (by decide +kernel) (by decide +kernel) (by decide +kernel) (by decide +kernel) (fun F h1 h2 h3 h4 h5 => x_Lstem (X_Lstem.mk' h2 h3) (by rw [h1]; exact G) hc)
theorem f_Lside {stem : List Str} {cs : List Int} (hs : ∀ x ∈ stem, x ∈ five) (hl : stem.length ≤ cs.length) (hc : cs.length ≤ 10) : Fn T 1 "_law_side" [ls stem, .tuple (cs.map .int)] (ls (sideS stem cs)) :=
  Fn.intro (lvl := 0) (D 16 (by decide) : DefAt T "_law_side" a_Lside b_Lside s_Lside) hT n_Lside ["stem", "cells"] (n_Lside.drop 2) (by decide +kernel) rfl (by decide +kernel) (by decide +kernel) (by decide +kernel)
    (fun nm q pm cd doc ct an vs hl => by obtain ⟨_, _, rfl⟩ := vlen2 hl; rfl) (by decide +kernel) (by decide +kernel) (by decide +kernel) (by decide +kernel) (fun F h1 h2 h3 h4 h5 => x_Lside (X_Lside.mk' h2 h3) hs hl hc)
theorem f_Lword {m : List (Nat × Nat)} {n k : Nat} (hm : ∀ p ∈ m, p.1 ≤ 100 ∧ p.2 ≤ 100) (hl : m.length ≤ 100) (hn : n ≤ 100) (hk : k ≤ 100) : Fn T 1 "_law_word" [mD m, .int n, .int k] (.str (wordM n k m)) :=
  Fn.intro (lvl := 0) (D 18 (by decide) : DefAt T "_law_word" a_Lword b_Lword s_Lword) hT n_Lword ["matching", "n", "k"] (n_Lword.drop 3) (by decide +kernel) rfl (by decide +kernel) (by decide +kernel) (by decide +kernel)
    (fun nm q pm cd doc ct an vs hl => by obtain ⟨_, _, _, rfl⟩ := vlen3 hl; rfl) (by decide +kernel) (by decide +kernel) (by decide +kernel) (by decide +kernel) (fun F h1 h2 h3 h4 h5 => x_Lword (X_Lword.mk' h2 h3) hm hl hn hk)
theorem f_mergedof {cs : List (Chunk Str)} (hc : ∀ c ∈ cs, GoodC c) (hl : cs.length ≤ 300) : Fn T 1 "merged_of" [.list (cs.map chD)] (ls (cs.flatMap mergeC)) :=
  Fn.intro (lvl := 0) (D 5 (by decide) : DefAt T "merged_of" a_mergedof b_mergedof s_mergedof) hT n_mergedof ["chunks"] (n_mergedof.drop 1) (by decide +kernel) rfl (by decide +kernel) (by decide +kernel) (by decide +kernel)
    (fun nm q pm cd doc ct an vs hl => by obtain ⟨_, rfl⟩ := vlen1 hl; rfl) (by decide +kernel) (by decide +kernel) (by decide +kernel) (by decide +kernel) (fun F h1 h2 h3 h4 h5 => x_mergedof (X_mergedof.mk' h2 h3) hc hl)
theorem f_conflictsin {cs : List (Chunk Str)} (hl : cs.length ≤ 300) : Fn T 1 "conflicts_in" [.list (cs.map chD)] (.int (cs.filter isCon).length) :=
  Fn.intro (lvl := 0) (D 6 (by decide) : DefAt T "conflicts_in" a_conflictsin b_conflictsin s_conflictsin) hT n_conflictsin ["chunks"] (n_conflictsin.drop 1) (by decide +kernel) rfl (by decide +kernel) (by decide +kernel) (by decide +kernel)
    (fun nm q pm cd doc ct an vs hl => by obtain ⟨_, rfl⟩ := vlen1 hl; rfl) (by decide +kernel) (by decide +kernel) (by decide +kernel) (by decide +kernel) (fun F h1 h2 h3 h4 h5 => x_conflictsin (X_conflictsin.mk' h2 h3) h4 hl)
theorem f_Lbalance {x : Str} {cs : List (Chunk Str)} {base ours theirs : List Str} : Fn T 1 "_law_balance" [.str x, .list (cs.map chD), ls base, ls ours, ls theirs] (.int ((ours.count x : Int) + (theirs.count x : Int) - (base.count x : Int) + (cs.map (corr x)).sum)) :=
  Fn.intro (lvl := 0) (D 24 (by decide) : DefAt T "_law_balance" a_Lbalance b_Lbalance s_Lbalance) hT n_Lbalance ["line", "chunks", "base", "ours", "theirs"] (n_Lbalance.drop 5) (by decide +kernel) rfl (by decide +kernel) (by decide +kernel) (by decide +kernel)
    (fun nm q pm cd doc ct an vs hl => by obtain ⟨_, _, _, _, _, rfl⟩ := vlen5 hl; rfl) (by decide +kernel) (by decide +kernel) (by decide +kernel) (by decide +kernel) (fun F h1 h2 h3 h4 h5 => x_Lbalance (X_Lbalance.mk' h2 h3))
theorem f_lcstable {a b : List Str} (ha : Good a) (hb : Good b) : Fn T 1 "lcs_table" [ls a, ls b] (tabD (rowsL a b)) :=
  Fn.introC (lvl := 0) (D 1 (by decide) : DefAt T "lcs_table" a_lcstable b_lcstable s_lcstable) hT n_lcstable ["a", "b"] [("b", 1)] [some (.dat (ls a)), none, none, none] rfl (by decide +kernel) (by decide +kernel) (by decide +kernel) (by decide +kernel)
    (hrho (args := [ls a, ls b]) 1 3 (by simp) (by decide +kernel))
    (by decide +kernel) (by decide +kernel)
    (fun nm q pm cd doc ct an vs hl => by obtain ⟨_, _, rfl⟩ := vlen2 hl; rfl) (by decide +kernel) (by decide +kernel) (by decide +kernel) (fun F h1 h2 h3 h4 h5 h6 => by
      match hF : F.cl, h4 with
      | [(n, a1, v1, d)], h4 =>
        simp only [List.map_cons, List.map_nil, List.cons.injEq, Prod.mk.injEq, and_true] at h4
        obtain ⟨e1, e2⟩ := h4
        have e2 : d = ls b := by simpa using e2
        subst e1 e2
        exact x_lcstable (X_lcstable.mk' h2 h3) ha hb hF (h5 _ (by rw [hF]; exact List.mem_cons_self ..)))
theorem f_matchesof {a b : List Str} (ha : Good a) (hb : Good b) : Fn T 2 "matches_of" [ls a, ls b] (.list ((gm 0 0 a b).map pn)) :=
  Fn.intro (lvl := 1) (D 2 (by decide) : DefAt T "matches_of" a_matchesof b_matchesof s_matchesof) hT n_matchesof ["a", "b"] (n_matchesof.drop 2) (by decide +kernel) rfl (by decide +kernel) (by decide +kernel) (by decide +kernel)
    (fun nm q pm cd doc ct an vs hl => by obtain ⟨_, _, rfl⟩ := vlen2 hl; rfl) (by decide +kernel) (by decide +kernel) (by decide +kernel) (by decide +kernel) (fun F h1 h2 h3 h4 h5 => x_matchesof (X_matchesof.mk' h2 h3) (by omega) ha hb (by rw [h1]; exact f_lcstable hT D ha hb))
theorem f_chunksof {base ours theirs : List Str} (hb : Good base) (ho : Good ours) (ht : Good theirs) : Fn T 3 "chunks_of" [ls base, ls ours, ls theirs] (.list ((theChunks base ours theirs).map chD)) :=
  Fn.intro (lvl := 2) (D 4 (by decide) : DefAt T "chunks_of" a_chunksof b_chunksof s_chunksof) hT n_chunksof ["base", "ours", "theirs"] (n_chunksof.drop 3) (by decide +kernel) rfl (by decide +kernel) (by decide +kernel) (by decide +kernel)
    (fun nm q pm cd doc ct an vs hl => by obtain ⟨_, _, _, rfl⟩ := vlen3 hl; rfl) (by decide +kernel) (by decide +kernel) (by decide +kernel) (by decide +kernel) (fun F h1 h2 h3 h4 h5 => x_chunksof (X_chunksof.mk' h2 h3) (by omega) hb ho ht (by rw [h1]; exact f_matchesof hT D hb ho) (by rw [h1]; exact f_matchesof hT D hb ht) (by rw [h1]; exact fun b o t hb ho ht => f_chunkkind hT D hb ho ht))
theorem f_mergedcontent {cs : List (Chunk Str)} (hc : ∀ c ∈ cs, GoodC c) (hl : cs.length ≤ 300) : Fn T 2 "merged_content" [.list (cs.map chD)] (.str (jn (cs.map pieceC))) :=
  Fn.intro (lvl := 1) (D 10 (by decide) : DefAt T "merged_content" a_mergedcontent b_mergedcontent s_mergedcontent) hT n_mergedcontent ["chunks"] (n_mergedcontent.drop 1) (by decide +kernel) rfl (by decide +kernel) (by decide +kernel) (by decide +kernel)
    (fun nm q pm cd doc ct an vs hl => by obtain ⟨_, rfl⟩ := vlen1 hl; rfl) (by decide +kernel) (by decide +kernel) (by decide +kernel) (by decide +kernel) (fun F h1 h2 h3 h4 h5 => x_mergedcontent (X_mergedcontent.mk' h2 h3) (by omega) hc hl (by rw [h1]; exact fun xs h => f_closed hT D h) (by rw [h1]; exact fun c h => Fn.eq (f_mergedof hT D (cs := [c]) (by simpa using h) (by simp)) (by simp)))
theorem f_Lfirstlongest {a b : List Str} (ha : a.length ≤ 5) (hb : b.length ≤ 9) : Fn T 2 "_law_first_longest" [ls a, ls b] (mD (gm 0 0 a b)) :=
  Fn.intro (lvl := 1) (D 19 (by decide) : DefAt T "_law_first_longest" a_Lfirstlongest b_Lfirstlongest s_Lfirstlongest) hT n_Lfirstlongest ["a", "b"] (n_Lfirstlongest.drop 2) (by decide +kernel) rfl (by decide +kernel) (by decide +kernel) (by decide +kernel)
    (fun nm q pm cd doc ct an vs hl => by obtain ⟨_, _, rfl⟩ := vlen2 hl; rfl) (by decide +kernel) (by decide +kernel) (by decide +kernel) (by decide +kernel) (fun F h1 h2 h3 h4 h5 => x_Lfirstlongest (X_Lfirstlongest.mk' h2 h3) (by omega) (by rw [h1]; exact fun m n k hm hl hn hk => f_Lword hT D hm hl hn hk) ha hb)
theorem f_Lmerge {cs : List (Chunk Str)} (hc : ∀ c ∈ cs, GoodC c) (hl : cs.length ≤ 300) : Fn T 2 "_law_merge" [.list (cs.map chD)] (.tuple [ls (cs.flatMap mergeK), .str (jn (cs.map contL)), .int (cs.filter isCon).length]) :=
  Fn.intro (lvl := 1) (D 23 (by decide) : DefAt T "_law_merge" a_Lmerge b_Lmerge s_Lmerge) hT n_Lmerge ["chunks"] (n_Lmerge.drop 1) (by decide +kernel) rfl (by decide +kernel) (by decide +kernel) (by decide +kernel)
    (fun nm q pm cd doc ct an vs hl => by obtain ⟨_, rfl⟩ := vlen1 hl; rfl) (by decide +kernel) (by decide +kernel) (by decide +kernel) (by decide +kernel) (fun F h1 h2 h3 h4 h5 => x_Lmerge (X_Lmerge.mk' h2 h3) (by omega) hc hl (by rw [h1]; exact fun xs h => f_Lfull hT D h))
theorem f_Lchunks {base ours theirs : List Str} (hb : Good base) (ho : Good ours) (ht : Good theirs) {m1 m2 : List (Nat × Nat)} : Fn T 2 "_law_chunks" [ls base, ls ours, ls theirs, imap (m1.map ip), imap (m2.map ip)]
    (.list ((LC base ours theirs [] 0 0 0 (stopsEnd base ours theirs (fun p => m1.lookup p) (fun p => m2.lookup p) 0)).map chD)) :=
  Fn.introC (lvl := 1) (D 21 (by decide) : DefAt T "_law_chunks" a_Lchunks b_Lchunks s_Lchunks) hT n_Lchunks ["base", "ours", "theirs", "to_o", "to_t"] [("to_o", 3), ("to_t", 4)] [some (.dat (ls base)), some (.dat (ls ours)), some (.dat (ls theirs)), none, none, none, none, none, none, none, none] rfl (by decide +kernel) (by decide +kernel) (by decide +kernel) (by decide +kernel)
    (hrho (args := [ls base, ls ours, ls theirs, imap (m1.map ip), imap (m2.map ip)]) 3 8 (by simp) (by decide +kernel))
    (by decide +kernel) (by decide +kernel)
    (fun nm q pm cd doc ct an vs hl => by obtain ⟨_, _, _, _, _, rfl⟩ := vlen5 hl; rfl) (by decide +kernel) (by decide +kernel) (by decide +kernel) (fun F h1 h2 h3 h4 h5 h6 => by
      match hF : F.cl, h4 with
      | [(n, a1, v1, d), (n', a2, v2, d')], h4 =>
        simp only [List.map_cons, List.map_nil, List.cons.injEq, Prod.mk.injEq, and_true] at h4
        obtain ⟨⟨e1, e2⟩, e3, e4⟩ := h4
        have e2 : d = imap (m1.map ip) := by simpa using e2
        have e4 : d' = imap (m2.map ip) := by simpa using e4
        subst e1 e2 e3 e4
        exact x_Lchunks (X_Lchunks.mk' h2 h3) (by omega) hb ho ht hF (h5 _ (by rw [hF]; exact List.mem_cons_self ..)) (h5 _ (by rw [hF]; exact List.mem_cons_of_mem _ (List.mem_cons_self ..))) (by rw [h1]; exact fun b o t hb ho ht => f_Lkind hT D hb ho ht))
end
theorem kstr_ok (k : Kind) : PyData.strOk (kstr k) = true := by cases k <;> decide +kernel
theorem shaped_chs {cs : List (Chunk Str)} (h : ∀ c ∈ cs, GoodC c) : SeqAt.shaped (.list (cs.map chD)) = true := by
  have h1 : PyData.canLayAll0 (cs.map chD) = true ∧ PyData.depthAll (cs.map chD) ≤ 2 := by
    induction cs with
    | nil => exact ⟨rfl, by simp [PyData.depthAll]⟩
    | cons c cs ih =>
      obtain ⟨i1, i2⟩ := ih fun c hc => h c (List.mem_cons_of_mem _ hc)
      have g := h c (List.mem_cons_self ..)
      constructor
      · simp only [List.map_cons, PyData.canLayAll0, PyData.canLay0, kstr_ok, canLayAll_ls g.b.ok, canLayAll_ls g.o.ok, canLayAll_ls g.t.ok, i1, Bool.and_self]
      · simp only [List.map_cons, PyData.depthAll, PyData.depth, depthAll_ls]
        omega
  simp only [SeqAt.shaped, PyData.canLay0, h1.1, PyData.depth, Bool.true_and]
  exact decide_eq_true (by omega)
theorem neRefl {d : PyData} (h : SeqAt.shaped d = true) : CmpR .NotEq d d false := by
  have h1 := CmpR.ne h h
  rw [PySem.SeqAt.eqv_refl d (SeqAt.canLay_of_shaped h)] at h1
  exact h1
theorem marks_ok : PyData.strOk mk1 = true ∧ PyData.strOk mk2 = true ∧ PyData.strOk mk3 = true := by decide +kernel
theorem mergeC_ok {c : Chunk Str} (h : GoodC c) : ∀ x ∈ mergeC c, PyData.strOk x = true := by
  obtain ⟨k, b, o, t⟩ := c
  obtain ⟨m1, m2, m3⟩ := marks_ok
  intro x hx
  cases k with
  | conflict =>
    simp only [mergeC, List.mem_cons, List.mem_append, List.not_mem_nil, or_false] at hx
    rcases hx with rfl | hx | rfl | hx | rfl
    · exact m1
    · exact h.o.ok x hx
    · exact m2
    · exact h.t.ok x hx
    · exact m3
  | theirs => exact h.t.ok x hx
  | ours => exact h.o.ok x hx
  | both => exact h.o.ok x hx
  | same => exact h.b.ok x hx
theorem shaped_ints (n : Nat) (v : Int) : SeqAt.shaped (.list (List.replicate n (.int v))) = true := by
  have h1 : PyData.canLayAll0 (List.replicate n (.int v)) = true ∧ PyData.depthAll (List.replicate n (.int v)) = 0 := by
    induction n with
    | zero => exact ⟨rfl, rfl⟩
    | succ n ih => simp [List.replicate_succ, PyData.canLayAll0, PyData.canLay0, PyData.depthAll, PyData.depth, ih.1, ih.2]
  simp only [SeqAt.shaped, PyData.canLay0, h1.1, PyData.depth, h1.2, Bool.true_and]
  rfl
theorem rows_len (a b : List Str) : (rowsL a b).map (fun r => PyData.int (r.length : Int)) = List.replicate (a.length + 1) (.int ((b.length : Int) + 1)) := by
  unfold rowsL
  rw [List.map_map]
  apply List.ext_getElem
  · simp
  · intro i h1 h2
    simp [rowL]
theorem mD_pairs (m : List (Nat × Nat)) : mD m = .tuple ((m.map ip).map pairD) := by
  simp only [List.map_map]
  rfl
theorem marks_ne : ∀ x ∈ seven, x ≠ mk1 ∧ x ≠ mk2 ∧ x ≠ mk3 := by decide +kernel
theorem chunks_facts {base ours theirs : List Str} (hb : Good base) (ho : Good ours) (ht : Good theirs) (fo : Fit ours) (ft : Fit theirs) (hl : base.length ≤ 50) :
    (∀ c ∈ theChunks base ours theirs, GoodC c) ∧ (∀ c ∈ theChunks base ours theirs, pieceC c = contL c ∧ mergeC c = mergeK c) ∧
    ∀ x ∈ seven, ((((theChunks base ours theirs).flatMap mergeK).count x : Nat) : Int) = (ours.count x : Int) + (theirs.count x : Int) - (base.count x : Int) + ((theChunks base ours theirs).map (corr x)).sum := by
  have hst := stopsFrom_length (fun p => (gm 0 0 base ours).lookup p) (fun p => (gm 0 0 base theirs).lookup p) base.length 0
  have hg := LC_goodC hb ho ht fo ft (stopsEnd base ours theirs (fun p => (gm 0 0 base ours).lookup p) (fun p => (gm 0 0 base theirs).lookup p) 0) [] 0 0 0 (by simp) (by simp only [stopsEnd, List.length_append, List.length_cons, List.length_nil]; omega)
  have hok := LC_ok base ours theirs (stopsEnd base ours theirs (fun p => (gm 0 0 base ours).lookup p) (fun p => (gm 0 0 base theirs).lookup p) 0) [] 0 0 0
  have hc3 := stops_cons3 (gm_MP base ours) (gm_MP base theirs) base.length 0 0 0 (Nat.le_add_left _ _) (Nat.zero_le _) (Nat.zero_le _) (Nat.zero_le _) (fun _ _ _ _ => Nat.zero_le _) (fun _ _ _ _ => Nat.zero_le _)
  obtain ⟨p1, p2, p3⟩ := LC_parts base ours theirs _ [] 0 0 0 hc3
  refine ⟨fun c hc => (hg c hc).1, fun c hc => ⟨piece_eq (hok c hc) (hg c hc).1 (hg c hc).2, merge_eq (hok c hc)⟩, fun x hx => ?_⟩
  obtain ⟨n1, n2, n3⟩ := marks_ne x hx
  have hbal := balance mk1 mk2 mk3 x n1 n2 n3 (theChunks base ours theirs) hok
  have e1 : (theChunks base ours theirs).flatMap (fun c => c.2.1) = base := by unfold theChunks; simpa using p1
  have e2 : (theChunks base ours theirs).flatMap (fun c => c.2.2.1) = ours := by unfold theChunks; simpa using p2
  have e3 : (theChunks base ours theirs).flatMap (fun c => c.2.2.2) = theirs := by unfold theChunks; simpa using p3
  rw [e1, e2, e3] at hbal
  exact hbal
theorem x_law {F : Fx} (X : X_law F) (hcl : F.cl = []) (hlv : 3 ≤ F.lvl) (hT : TopF F.hT F.mg F.mb) (D : Defs F.toTx) (G1 : GlobT F.toTx "_law_words" wordsL) (G2 : GlobT F.toTx "_law_tails" tailsL) (G3 : GlobT F.toTx "_law_every" seven) {ns : List Int} (hn : ns.length ≤ 63) :
    Ex F [some (.dat (.list (ns.map .int))), none, none, none, none, none, none, none, none, none, none, none, none, none, none, none, none, none, none, none, none, none] b_law (.ret (.bool true)) := by
  have sc := X.sc
  cases X
  have e0 := sizeLine_eq
  have lenS : lenD (.list (ns.map .int)) = some ns.length := by simp [lenD]
  by_cases h16 : ns.length < 16
  · exact Ex.consRet (Ex1.ifT (Tr.eq (Tr.cmp (Ev.len (by walk_at "go") lenS (by omega) rfl (by assumption)) (by walk_at "go") .ltInt rfl) (by simp only [decide_eq_true_eq]; omega)) (Ex.consRet (Ex1.ret (by walk_at "go"))))
  refine Ex.cons (Ex1.ifF (Tr.eq (Tr.cmp (Ev.len (by walk_at "go") lenS (by omega) rfl (by assumption)) (by walk_at "go") .ltInt rfl) (by simp only [decide_eq_false_iff_not]; omega)) Ex.nil) ?_
  obtain ⟨c, hc⟩ : ∃ c : Nat → Int, ∀ k, k < 16 → ns[k]? = some (c k) := ⟨fun k => (ns[k]?).getD 0, fun k hk => by simp [List.getElem?_eq_getElem (show k < ns.length by omega)]⟩
  have sk : ∀ (k : Nat), k < 16 → SubR (.list (ns.map .int)) (.int (k : Int)) (.int (c k)) := fun k hk => .list (by omega) (by omega) (by rw [Int.toNat_natCast, List.getElem?_map, hc k hk]; rfl)
  have s0 : SubR (.list (ns.map .int)) (.int 0) (.int (c 0)) := sk 0 (by decide)
  have s1 : SubR (.list (ns.map .int)) (.int 1) (.int (c 1)) := sk 1 (by decide)
  have s2 : SubR (.list (ns.map .int)) (.int 2) (.int (c 2)) := sk 2 (by decide)
  have s3 : SubR (.list (ns.map .int)) (.int 3) (.int (c 3)) := sk 3 (by decide)
  have s4 : SubR (.list (ns.map .int)) (.int 4) (.int (c 4)) := sk 4 (by decide)
  have s5 : SubR (.list (ns.map .int)) (.int 5) (.int (c 5)) := sk 5 (by decide)
  have s6 : SubR (.list (ns.map .int)) (.int 6) (.int (c 6)) := sk 6 (by decide)
  have s7 : SubR (.list (ns.map .int)) (.int 7) (.int (c 7)) := sk 7 (by decide)
  have s8 : SubR (.list (ns.map .int)) (.int 8) (.int (c 8)) := sk 8 (by decide)
  have s9 : SubR (.list (ns.map .int)) (.int 9) (.int (c 9)) := sk 9 (by decide)
  have s10 : SubR (.list (ns.map .int)) (.int 10) (.int (c 10)) := sk 10 (by decide)
  have s11 : SubR (.list (ns.map .int)) (.int 11) (.int (c 11)) := sk 11 (by decide)
  have s12 : SubR (.list (ns.map .int)) (.int 12) (.int (c 12)) := sk 12 (by decide)
  have s13 : SubR (.list (ns.map .int)) (.int 13) (.int (c 13)) := sk 13 (by decide)
  have s14 : SubR (.list (ns.map .int)) (.int 14) (.int (c 14)) := sk 14 (by decide)
  have s15 : SubR (.list (ns.map .int)) (.int 15) (.int (c 15)) := sk 15 (by decide)
  obtain ⟨u13, v13, y13, z13⟩ := tails_get (c 13)
  obtain ⟨u14, v14, y14, z14⟩ := tails_get (c 14)
  obtain ⟨u15, v15, y15, z15⟩ := tails_get (c 15)
  refine Ex.set (i := 1) (Ev.call' (EvL.cons (by walk_at "go") (EvL.cons (by walk_at "go") EvL.nil rfl) rfl) (show Fn F.toTx 1 "_law_stem" [.int ((c 0).fmod 5), .tuple [.int (c 1), .int (c 2), .int (c 3), .int (c 4)]] (ls (stemS ((c 0).fmod 5) [c 1, c 2, c 3, c 4])) from f_Lstem hT D G1 (cs := [c 1, c 2, c 3, c 4]) (by simp)) (by omega) (by assumption) (fun _ => ⟨_, _, rfl, rfl⟩) (by decide)) (by assumption) rfl ?_
  obtain ⟨hs1, hs2⟩ := stemS_ok ((c 0).fmod 5) [c 1, c 2, c 3, c 4]
  generalize stemS ((c 0).fmod 5) [c 1, c 2, c 3, c 4] = S at hs1 hs2 ⊢
  simp only [List.length_cons, List.length_nil] at hs1
  refine Ex.set (i := 2) (Ev.call' (EvL.cons (by walk_at "go") (EvL.cons (by walk_at "go") EvL.nil rfl) rfl) (show Fn F.toTx 1 "_law_side" [ls S, .tuple [.int (c 5), .int (c 6), .int (c 7), .int (c 8)]] (ls (sideS S [c 5, c 6, c 7, c 8])) from f_Lside hT D (stem := S) (cs := [c 5, c 6, c 7, c 8]) hs2 (by simp; omega) (by simp)) (by omega) (by assumption) (fun _ => ⟨_, _, rfl, rfl⟩) (by decide)) (by assumption) rfl ?_
  refine Ex.set (i := 3) (Ev.call' (EvL.cons (by walk_at "go") (EvL.cons (by walk_at "go") EvL.nil rfl) rfl) (show Fn F.toTx 1 "_law_side" [ls S, .tuple [.int (c 9), .int (c 10), .int (c 11), .int (c 12)]] (ls (sideS S [c 9, c 10, c 11, c 12])) from f_Lside hT D (stem := S) (cs := [c 9, c 10, c 11, c 12]) hs2 (by simp; omega) (by simp)) (by omega) (by assumption) (fun _ => ⟨_, _, rfl, rfl⟩) (by decide)) (by assumption) rfl ?_
  have hside : ∀ cs : List Int, (sideS S cs).length ≤ 8 ∧ ∀ x ∈ sideS S cs, x ∈ five := fun cs => by
    obtain ⟨h1, h2⟩ := foldl_side (S.zip cs) [] (by intro x hx; cases hx) fun p hp => hs2 p.1 (List.of_mem_zip hp).1
    refine ⟨?_, h2⟩
    unfold sideS
    simp only [List.length_nil, List.length_zip] at h1
    omega
  obtain ⟨hl1, hl2⟩ := hside [c 5, c 6, c 7, c 8]
  obtain ⟨hr1, hr2⟩ := hside [c 9, c 10, c 11, c 12]
  generalize sideS S [c 5, c 6, c 7, c 8] = L at hl1 hl2 ⊢
  generalize sideS S [c 9, c 10, c 11, c 12] = R at hr1 hr2 ⊢
  have iS : Items S := ⟨hs2, by omega⟩
  have iL : Items L := ⟨hl2, by omega⟩
  have iR : Items R := ⟨hr2, by omega⟩
  refine Ex.set (i := 4) (Ev.call' (EvL.cons (by walk_at "go") (EvL.cons (Ev.subG u13 G2 (by assumption) (by decide) (by walk_at "go") v13 y13 (by omega) (fun _ _ => rfl)) EvL.nil rfl) rfl) (f_Llines hT D iS) (by omega) (by assumption) (fun _ => ⟨_, _, rfl, rfl⟩) (by decide)) (by assumption) rfl ?_
  refine Ex.set (i := 5) (Ev.call' (EvL.cons (by walk_at "go") (EvL.cons (Ev.subG u14 G2 (by assumption) (by decide) (by walk_at "go") v14 y14 (by omega) (fun _ _ => rfl)) EvL.nil rfl) rfl) (f_Llines hT D iL) (by omega) (by assumption) (fun _ => ⟨_, _, rfl, rfl⟩) (by decide)) (by assumption) rfl ?_
  refine Ex.set (i := 6) (Ev.call' (EvL.cons (by walk_at "go") (EvL.cons (Ev.subG u15 G2 (by assumption) (by decide) (by walk_at "go") v15 y15 (by omega) (fun _ _ => rfl)) EvL.nil rfl) rfl) (f_Llines hT D iR) (by omega) (by assumption) (fun _ => ⟨_, _, rfl, rfl⟩) (by decide)) (by assumption) rfl ?_
  have mB := tailOf_mem ((c 13).fmod 3)
  have mO := tailOf_mem ((c 14).fmod 3)
  have mT := tailOf_mem ((c 15).fmod 3)
  generalize tailOf ((c 13).fmod 3) = tb at y13 mB ⊢
  generalize tailOf ((c 14).fmod 3) = to at y14 mO ⊢
  generalize tailOf ((c 15).fmod 3) = tt at y15 mT ⊢
  have gB := linesS_good iS mB
  have gO := linesS_good iL mO
  have gT := linesS_good iR mT
  have fB : Fit (linesS S tb) := linesS_fit hs2
  have fO : Fit (linesS L to) := linesS_fit hl2
  have fT : Fit (linesS R tt) := linesS_fit hr2
  have spB := split_lines (items := S) (tail := tb) (fun x hx => (five_ok x (hs2 x hx)).2.2) (tails_ok tb mB).2
  have spO := split_lines (items := L) (tail := to) (fun x hx => (five_ok x (hl2 x hx)).2.2) (tails_ok to mO).2
  have spT := split_lines (items := R) (tail := tt) (fun x hx => (five_ok x (hr2 x hx)).2.2) (tails_ok tt mT).2
  have lenL : ∀ (xs : List Str) (t : Str), (linesS xs t).length ≤ xs.length + 1 := fun xs t => by
    unfold linesS
    simp only [List.length_append, List.length_map]
    split <;> simp
  have lB := lenL S tb
  have lO := lenL L to
  have lU := lenL R tt
  refine Ex.set (i := 7) (Ev.call' (EvL.cons (Ev.join (by walk_at "go") (by walk_at "go") gB.join rfl rfl rfl) EvL.nil rfl) (f_linesof hT D (c := jn (linesS S tb)) (init := S) (last := tb) (by have := gB.jnLen; omega) spB iS) (by omega) (by assumption) (fun _ => ⟨_, _, rfl, rfl⟩) (by decide)) (by assumption) rfl ?_
  refine Ex.set (i := 8) (Ev.call' (EvL.cons (Ev.join (by walk_at "go") (by walk_at "go") gO.join rfl rfl rfl) EvL.nil rfl) (f_linesof hT D (c := jn (linesS L to)) (init := L) (last := to) (by have := gO.jnLen; omega) spO iL) (by omega) (by assumption) (fun _ => ⟨_, _, rfl, rfl⟩) (by decide)) (by assumption) rfl ?_
  refine Ex.set (i := 9) (Ev.call' (EvL.cons (Ev.join (by walk_at "go") (by walk_at "go") gT.join rfl rfl rfl) EvL.nil rfl) (f_linesof hT D (c := jn (linesS R tt)) (init := R) (last := tt) (by have := gT.jnLen; omega) spT iR) (by omega) (by assumption) (fun _ => ⟨_, _, rfl, rfl⟩) (by decide)) (by assumption) rfl ?_
  generalize linesS S tb = B at gB fB lB ⊢
  generalize linesS L to = O at gO fO lO ⊢
  generalize linesS R tt = U at gT fT lU ⊢
  refine Ex.weaken (ρ' := [none, none, none, none, some (.dat (ls B)), some (.dat (ls O)), some (.dat (ls U)), some (.dat (ls B)), some (.dat (ls O)), some (.dat (ls U)), none, none, none, none, none, none, none, none, none, none, none, none]) (by walk_at "wk") ?_
  refine Ex.cons (Ex1.ifF (Tr.bool (TrA.orF (Tr.eq (b := _) (by walk_at "go") (by simp)) (TrA.orF (Tr.eq (b := _) (by walk_at "go") (by simp)) (TrA.orF (Tr.eq (b := _) (by walk_at "go") (by simp)) TrA.orNil)))) Ex.nil) ?_
  refine Ex.set (i := 10) (Ev.call' (EvL.cons (by walk_at "go") (EvL.cons (by walk_at "go") EvL.nil rfl) rfl) (f_Lfirstlongest hT D (a := B) (b := O) (by omega) (by omega)) (by omega) (by assumption) (fun _ => ⟨_, _, rfl, rfl⟩) (by decide)) (by assumption) rfl ?_
  refine Ex.set (i := 11) (Ev.call' (EvL.cons (by walk_at "go") (EvL.cons (by walk_at "go") EvL.nil rfl) rfl) (f_Lfirstlongest hT D (a := B) (b := U) (by omega) (by omega)) (by omega) (by assumption) (fun _ => ⟨_, _, rfl, rfl⟩) (by decide)) (by assumption) rfl ?_
  refine Ex.set (i := 12) (Ev.call' (EvL.cons (by walk_at "go") (EvL.cons (by walk_at "go") EvL.nil rfl) rfl) (f_lcstable hT D gB gO) (by omega) (by assumption) (fun _ => ⟨_, _, rfl, rfl⟩) (by decide)) (by assumption) rfl ?_
  have lenB : lenD (ls B) = some B.length := lenD_ls _
  have lenO : lenD (ls O) = some O.length := lenD_ls _
  have hrows : (rowsL B O).length ≤ 100 := by simp [rowsL]; omega
  have hrowl : ∀ r ∈ rowsL B O, r.length = O.length + 1 := fun r hr => by
    unfold rowsL at hr
    obtain ⟨i, _, rfl⟩ := List.mem_map.mp hr
    simp [rowL]
  refine Ex.cons (Ex1.ifF (Tr.cmp (d1 := .list (List.replicate (B.length + 1) (.int ((O.length : Int) + 1)))) (Ev.eq (Ev.ofNew (EvNew.comp' (It.list (by walk_at "go") Lets.name) (CompT.ofMap rowD (fun r => .int (r.length : Int)) (rowsL B O) fun r hr C hn' => Ev.len (by walk_at "go") (by simp [lenD]) (by have := hrowl r hr; omega) rfl (comp_kind (by decide) (by decide +kernel))) hcl (by decide +kernel) rfl (by decide +kernel) (by decide +kernel) (by rw [List.length_map]; omega) (fun _ => rfl))) (by rw [rows_len]))
    (Ev.ofNew (EvNew.mulOne (n := B.length + 1) (Ev.ofNew (EvNew.list (EvL.cons (Ev.bin (Ev.len (by walk_at "go") lenO (by omega) rfl (by assumption)) (by walk_at "go") .addInt) EvL.nil rfl) (by rw [e0]; simp))) (Ev.eq (Ev.bin (Ev.len (by walk_at "go") lenB (by omega) rfl (by assumption)) (by walk_at "go") .addInt) (by simp)) (by omega))) (neRefl (shaped_ints _ _)) rfl) Ex.nil) ?_
  have r0 : SubR (tabD (rowsL B O)) (.int 0) (rowD (rowL B O 0)) := .tab 0 rfl (rowsL_get B O (Nat.zero_le _)) (by decide)
  have r1 : SubR (rowD (rowL B O 0)) (.int 0) (.int ((lcs B O : Nat) : Int)) := .row 0 rfl (by have := rowL_get B O (i := 0) (j := 0) (Nat.zero_le _); simpa using this) (by decide)
  have hgl := gm_length B O
  have hgl2 := gm_length B U
  refine Ex.cons (Ex1.ifF (Tr.eq (Tr.cmp (Ev.sub (Ev.sub (by walk_at "go") (by walk_at "go") r0 (fun _ _ => rfl)) (by walk_at "go") r1 (fun _ _ => rfl)) (Ev.len (n := (gm 0 0 B O).length) (by walk_at "go") (by simp [lenD]) (by omega) rfl (by assumption)) .neInt rfl) (by rw [gm_len]; simp)) Ex.nil) ?_
  refine Ex.set (i := 13) (Ev.call' (EvL.cons (by walk_at "go") (EvL.cons (by walk_at "go") (EvL.cons (by walk_at "go") (EvL.cons (Ev.ofNew (EvNew.dictOf (ps := (gm 0 0 B O).map ip) (by rw [← mD_pairs]; walk_at "go") (gm_nodup B O) (by rw [List.length_map]; omega) rfl (by assumption))) (EvL.cons (Ev.ofNew (EvNew.dictOf (ps := (gm 0 0 B U).map ip) (by rw [← mD_pairs]; walk_at "go") (gm_nodup B U) (by rw [List.length_map]; omega) rfl (by assumption))) EvL.nil rfl) rfl) rfl) rfl) rfl)
    (show Fn F.toTx 2 "_law_chunks" [ls B, ls O, ls U, imap ((gm 0 0 B O).map ip), imap ((gm 0 0 B U).map ip)] (.list ((theChunks B O U).map chD)) from f_Lchunks hT D gB gO gT) (by omega) (by assumption) (fun _ => ⟨_, _, rfl, rfl⟩) (by decide)) (by assumption) rfl ?_
  obtain ⟨hgc, hpc, hbal⟩ := chunks_facts gB gO gT fO fT (by omega)
  have hcl2 := theChunks_length (base := B) (ours := O) (theirs := U) gB.len
  have hch := f_chunksof hT D gB gO gT
  generalize theChunks B O U = cs at hgc hpc hbal hcl2 hch ⊢
  have hsh := neRefl (shaped_chs hgc)
  refine Ex.cons (Ex1.assignTuple (Ev.call' (EvL.cons (by walk_at "go") EvL.nil rfl) (f_Lmerge hT D hgc (by omega)) (by omega) (by assumption) (fun _ => ⟨_, _, rfl, rfl⟩) (by decide)) (BdL.cons 14 (by assumption) (BdL.cons 15 (by assumption) (BdL.cons 16 (by assumption) BdL.nil))) rfl rfl rfl rfl) ?_
  refine Ex.set (i := 17) (Ev.call' (EvL.cons (by walk_at "go") (EvL.cons (by walk_at "go") (EvL.cons (by walk_at "go") EvL.nil rfl) rfl) rfl) hch (by omega) (by assumption) (fun _ => ⟨_, _, rfl, rfl⟩) (by decide)) (by assumption) rfl ?_
  refine Ex.weaken (ρ' := [none, none, none, none, some (.dat (ls B)), some (.dat (ls O)), some (.dat (ls U)), some (.dat (ls B)), some (.dat (ls O)), some (.dat (ls U)), none, none, none, some (.dat (.list (cs.map chD))), some (.dat (ls (cs.flatMap mergeK))), some (.dat (.str (jn (cs.map contL)))), some (.dat (.int (cs.filter isCon).length)), some (.dat (.list (cs.map chD))), none, none, none, none]) (by walk_at "wk") ?_
  refine Ex.cons (Ex1.ifF (Tr.cmp (by walk_at "go") (by walk_at "go") hsh rfl) Ex.nil) ?_
  have hpieces : cs.map pieceC = cs.map contL := List.map_congr_left fun c hc => (hpc c hc).1
  have hmerge : cs.flatMap mergeC = cs.flatMap mergeK := by
    have : ∀ l : List (Chunk Str), (∀ c ∈ l, c ∈ cs) → l.flatMap mergeC = l.flatMap mergeK := by
      intro l
      induction l with
      | nil => intro _; rfl
      | cons c l ih => intro h; rw [List.flatMap_cons, List.flatMap_cons, (hpc c (h c (List.mem_cons_self ..))).2, ih fun d hd => h d (List.mem_cons_of_mem _ hd)]
    exact this cs fun c h => h
  refine Ex.set (i := 18) (d := .str (jn (cs.map contL))) (Ev.call' (EvL.cons (by walk_at "go") EvL.nil rfl) (by rw [← hpieces]; exact f_mergedcontent hT D hgc (by omega)) (show 2 ≤ F.lvl by omega) (by assumption) (fun _ => ⟨_, _, rfl, rfl⟩) (by decide)) (by assumption) rfl ?_
  refine Ex.cons (Ex1.ifF (Tr.eq (b := _) (by walk_at "go") (by simp)) Ex.nil) ?_
  refine Ex.set (i := 19) (d := ls (cs.flatMap mergeK)) (Ev.call' (EvL.cons (by walk_at "go") EvL.nil rfl) (by rw [← hmerge]; exact f_mergedof hT D hgc (by omega)) (show 1 ≤ F.lvl by omega) (by assumption) (fun _ => ⟨_, _, rfl, rfl⟩) (by decide)) (by assumption) rfl ?_
  have hsm := neRefl (shaped_ls' (xs := cs.flatMap mergeK) fun x hx => by
    rw [← hmerge] at hx
    obtain ⟨c, hc', hx'⟩ := List.mem_flatMap.mp hx
    exact mergeC_ok (hgc c hc') x hx')
  refine Ex.cons (Ex1.ifF (Tr.cmp (by walk_at "go") (by walk_at "go") hsm rfl) Ex.nil) ?_
  refine Ex.forFold 20 PyData.str (fun _ => [none, none, none, none, some (.dat (ls B)), some (.dat (ls O)), some (.dat (ls U)), some (.dat (ls B)), some (.dat (ls O)), some (.dat (ls U)), none, none, none, some (.dat (.list (cs.map chD))), some (.dat (ls (cs.flatMap mergeK))), some (.dat (.str (jn (cs.map contL)))), some (.dat (.int (cs.filter isCon).length)), some (.dat (.list (cs.map chD))), some (.dat (.str (jn (cs.map contL)))), some (.dat (ls (cs.flatMap mergeK))), none, none]) seven (by assumption)
    (It.tupG G3 (by assumption) (by decide)) (fun _ => rfl) (fun d x r e => ?_) ?_
  · have hx : x ∈ seven := by rw [e]; simp
    exact Ex.weakenNext (Ex.cons (Ex1.ifF (Tr.eq (Tr.cmp (by walk_at "go") (Ev.call' (EvL.cons (by walk_at "go") (EvL.cons (by walk_at "go") (EvL.cons (by walk_at "go") (EvL.cons (by walk_at "go") (EvL.cons (by walk_at "go") EvL.nil rfl) rfl) rfl) rfl) rfl) (f_Lbalance hT D (x := x) (cs := cs) (base := B) (ours := O) (theirs := U)) (by omega) (by assumption) (fun _ => ⟨_, _, rfl, rfl⟩) (by decide)) .neInt rfl) (by rw [hbal x hx]; simp)) Ex.nil) Ex.nil) (by walk_at "wk")
  refine Ex.set (i := 21) (Ev.call' (EvL.cons (by walk_at "go") EvL.nil rfl) (f_conflictsin hT D (cs := cs) (by omega)) (by omega) (by assumption) (fun _ => ⟨_, _, rfl, rfl⟩) (by decide)) (by assumption) rfl ?_
  refine Ex.cons (Ex1.ifF (Tr.bool (TrA.orF (Tr.typeIsNotInt (by walk_at "go") rfl (by assumption) (by assumption)) (TrA.orF (Tr.eq (b := _) (by walk_at "go") (by simp)) TrA.orNil))) Ex.nil) ?_
  refine Ex.cons (Ex1.ifF (Tr.cmp (by walk_at "go") (by walk_at "go") hsh rfl) Ex.nil) ?_
  refine Ex.cons (Ex1.ifF (Tr.bool (TrA.orF (Tr.eq (b := _) (by walk_at "go") (by simp)) (TrA.orF (Tr.eq (b := _) (by walk_at "go") (by simp)) (TrA.orF (Tr.eq (b := _) (by walk_at "go") (by simp)) TrA.orNil)))) Ex.nil) ?_
  exact Ex.consRet (Ex1.ret (by walk_at "go"))
theorem law_end {p : Program} {loose : List Str} {mean : ExcName → Option Value} {mg mb : Str → Option Value} {s₁ : Shared} {prog : Program} {w : World} (T : Top p loose mean mg mb s₁.heap) (hp : recsOf p = theRecs)
    (hbi : ∀ q ∈ biTable, q.1 ∉ startupNames ∧ q.1 ∉ loose ∧ q.1 ∉ (recsOf p).map (·.name) ∧ q.1 ∉ (litsOf p).map (·.1) ∧ q.1 ∉ (clssOf p loose).map (·.name))
    (G1 : GlobT ⟨prog, w, s₁.heap, mg, mb⟩ "_law_words" wordsL) (G2 : GlobT ⟨prog, w, s₁.heap, mg, mb⟩ "_law_tails" tailsL) (G3 : GlobT ⟨prog, w, s₁.heap, mg, mb⟩ "_law_every" seven)
    {nm : Str} {fa : Addr} {code : Value} {ns : List Int} {a : Addr} {Pm : Params} (w1 : PySem.W.Well Pm s₁.heap (.ref a) (PySem.W.ofPy (.list (ns.map .int)))) (hn : ns.length ≤ 63) (hg : s₁.gens = #[])
    {h₁ : Heap} {tk : Nat} {m : Str → Option Value} (Fr1 : Fr s₁.heap s₁.heap.objs.size h₁ m) (hm : m "script" = some (.ref a)) {Q : Flow → Shared → Prop} {E : Value → Shared → Prop}
    (hQ : ∀ s', (∀ b o, s₁.heap.get? b = some o → s'.heap.get? b = some o) → s'.os = s₁.os → s'.gens = #[] → Q (.ret (.bool true)) s') :
    wpAny (model prog w) (callerA.deeper (envOf nm s_law s₁.heap.objs.size fa code)) (execs b_law (envOf nm s_law s₁.heap.objs.size fa code)) Q E { s₁ with heap := h₁, toks := tk } := by
  have hT : TopF s₁.heap mg mb := topF_of T fun q hq => by
    obtain ⟨b1, b2⟩ := biBoot q hq
    obtain ⟨c1, c2, c3, c4, c5⟩ := hbi q hq
    exact ⟨T.free q.1 c1 c2 c3 c4 c5, b1, b2⟩
  let env := envOf nm s_law s₁.heap.objs.size fa code
  let F : Fx := { prog := prog, w := w, hT := s₁.heap, mg := mg, mb := mb, A := callerA.deeper env, env := env, ns := n_law, cl := [], os := s₁.os, lvl := 3 }
  let P : Prot := { pin := fun b => s₁.heap.get? b, mu0 := fun _ => False, gh := [] }
  have hL : s₁.heap.get? s₁.heap.objs.size = none := fresh_size _
  have hD : Defs F.toTx := fun i hi => defAt_of T hp i hi
  have st : St F P [some (.dat (.list (ns.map .int))), none, none, none, none, none, none, none, none, none, none, none, none, none, none, none, none, none, none, none, none, none] (fun b => b = s₁.heap.objs.size) m { s₁ with heap := h₁, toks := tk } := by
    refine ⟨⟨show s_law.kind = .function by decide +kernel, show n_law.Nodup by decide +kernel, ?_, show ∀ x ∈ n_law, (x == ("__debug__" : Str)) = false by decide +kernel, rfl, ?_, ?_, rfl, rfl, hT⟩, Fr1.ns, rfl, fun b hb => hb.elim, fun b hb => by rw [hb]; exact hL, fun b hb => ?_, Fr1.keep, fun b o e => e, hL, fun i y av h1 h2 => ?_, fun i j y z d1 d2 h1 h2 h3 h4 h5 => ?_, fun q hq => (by cases hq), fun c hc => (by cases hc), hg, rfl⟩
    · have : ∀ x ∈ n_law, s_law.names.lookup x = some .local := by decide +kernel
      exact this
    · show (callerA.deeper env).units + 3 * 3 + 70 < cLine
      rw [Around.deeper_units]
      decide +kernel
    · show (callerA.deeper env).depth + 3 < recursionLimit
      show callerA.depth + 1 + 3 < recursionLimit
      decide +kernel
    · rw [hb]; obtain ⟨o, _, _, ho, _⟩ := Fr1.ns; exact ⟨o, ho⟩
    · match i, h1, h2 with
      | 0, h1, h2 =>
        have e1 : y = "script" := by
          have : n_law[0]? = some y := h1
          simpa [n_law] using this.symm
        have e2 : av = .dat (.list (ns.map .int)) := by simpa using h2.symm
        subst e1 e2
        exact ⟨_, hm, rep_script w1 fun b o e => ⟨fun hb => (by rw [hb, hL] at e; cases e), Fr1.keep b o e⟩⟩
      | i + 1, h1, h2 =>
        exfalso
        have : i + 1 < 22 := by
          have := (List.getElem?_eq_some_iff.mp h2).1
          simpa using this
        have hall : ∀ i, i < 21 → ([none, none, none, none, none, none, none, none, none, none, none, none, none, none, none, none, none, none, none, none, none] : List (Option AV))[i]? = some none := by
          intro i hi
          have : ([none, none, none, none, none, none, none, none, none, none, none, none, none, none, none, none, none, none, none, none, none] : List (Option AV)) = List.replicate 21 none := rfl
          rw [this, List.getElem?_replicate, if_pos hi]
        rw [List.getElem?_cons_succ, hall i (by omega)] at h2
        cases h2
    · exfalso
      match i, h3 with
      | 0, h3 => simp at h3
      | i + 1, h3 =>
        have hall : ∀ i, i < 21 → ([none, none, none, none, none, none, none, none, none, none, none, none, none, none, none, none, none, none, none, none, none] : List (Option AV))[i]? = some none := by
          intro i hi
          have : ([none, none, none, none, none, none, none, none, none, none, none, none, none, none, none, none, none, none, none, none, none] : List (Option AV)) = List.replicate 21 none := rfl
          rw [this, List.getElem?_replicate, if_pos hi]
        have : i + 1 < 22 := by
          have := (List.getElem?_eq_some_iff.mp h3).1
          simpa using this
        rw [List.getElem?_cons_succ, hall i (by omega)] at h3
        cases h3
  refine wpAny_mono ((x_law (F := F) (X_law.mk' rfl rfl) rfl (Nat.le_refl _) hT hD G1 G2 G3 hn).run P _ _ _ st) (fun f s' ⟨v, e, rv, hk, hg', hos⟩ => ?_) fun _ _ h => h.elim
  subst e
  have : v = .bool true := rv.bool_inv
  subst this
  exact hQ s' hk hos hg'
end Mine
open PySem PySem.W PyProof.Rows
set_option maxRecDepth 100000 in
set_option maxHeartbeats 8000000 in
theorem PySem.Challenge.cw_sx_zweave_6o_holds : PySem.Challenge.rw_sx_zweave_6o.Holds := by
  w_on; o_law; o_head Hook.none; (case hw => w_witness2)
  w_strict (
    intro w s₀ s₁ mg mb G Y fa o pm cd doc dV kV ho hd hcd hD hmg hg args vals as hpre hlay hrd hwl hlo
    refine Ground.open G ?_
    intro T B D TE TW
    try (refine guard_noD D (by decide +kernel) ?_; clear D)
    clear hmg
    wrow_args hpre hlay hrd hwl hlo
    refine enter_call ?_
    w_top on
    try refine codeAny_mono ?_ (fun _ _ g => GoodW.toG g)
    w_call any ho hd hcd hD T F
    rename_i ns hs hlay0 hL1 hr1 hl2 q1 q2 a vs as hL ra w1 r0 hI hr hc1 hc2 h1 N0
    refine Mine.law_end T (by kernel_rfl) (by decide +kernel) (Mine.globT_of B (by kernel_rfl)) (Mine.globT_of B (by kernel_rfl)) (Mine.globT_of B (by kernel_rfl))
      w1 (by omega) hg F rfl (fun s' hk hos hg' => ?_)
    refine ⟨.inl ⟨_, .bool true, [], rfl, fun _ => rfl, .bool true, ?_, fun _ => ⟨List.nodup_nil, fun a ha => by cases ha⟩⟩, hk, hos, hg'⟩
    wrow_post)
