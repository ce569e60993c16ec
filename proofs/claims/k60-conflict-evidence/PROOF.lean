import PyProof.Rows.All
import PyProof.P3Statements
import PyProof.EqLayable
import HandS.ForMost
import HandS.Evl
import HandS.TupAny
import HandS.TupMul
import HandS.IsInst
import HandS.Deep
import HandS.Zip
import HandS.Rev
import HandS.DictComp
import HandS.Conv
import HandS.SortInts
import HandS.More
import HandS.Walk
import HandS.Codes
import HandS.Wide
import HandS.Style
import KE.GoesEnum
import KE.DataMinMax
import KE.KIndexOf
import HandS.Flow
import HandS.Defaults
import HandS.Exc
import HandS.ExcInit
import HandS.ExcField
import HandS.ExcIs
import HandS.ExcOwn
import HandS.WordsExc
import PySem.Challenge.RW_rankswithin_k60_whole_evidence_of_confli
import HandS.Head0
import HandS.Head1
import HandS.Head2
import HandS.HeadEnd
import HandS.HeadHook1
import HandS.HeadHook2
import KE.KStateDown
set_option Elab.async false
set_option linter.all false
set_option maxRecDepth 100000
section -- M1
set_option linter.all false
/-! The plain mathematics: windows, earliest deadline first, cycles, chains. Core Lean alone. -/
namespace R60

/-! ### lists without twins -/
theorem nodup_len {α : Type} [DecidableEq α] : ∀ {l m : List α}, l.Nodup → (∀ x ∈ l, x ∈ m) → l.length ≤ m.length
  | [], _, _, _ => Nat.zero_le _
  | a :: l, m, hn, hs => by
    rw [List.nodup_cons] at hn
    have ha : a ∈ m := hs a List.mem_cons_self
    have h2 : l.length ≤ (m.erase a).length := nodup_len hn.2 fun x hx => by
      have hne : x ≠ a := fun e => hn.1 (e ▸ hx)
      exact (List.mem_erase_of_ne hne).mpr (hs x (List.mem_cons_of_mem _ hx))
    rw [List.length_erase_of_mem ha] at h2
    have : 0 < m.length := List.length_pos_of_mem ha
    simp only [List.length_cons]
    omega
theorem nodup_bound {l : List Nat} {n : Nat} (h : l.Nodup) (hl : ∀ x ∈ l, x < n) : l.length ≤ n := by
  have := nodup_len (m := List.range n) h fun x hx => List.mem_range.mpr (hl x hx)
  simpa using this
theorem nodup_all {l : List Nat} {n : Nat} (h : l.Nodup) (hl : ∀ x ∈ l, x < n) (hn : n ≤ l.length) {x : Nat} (hx : x < n) : x ∈ l := by
  by_cases hm : x ∈ l
  · exact hm
  · have h2 : (x :: l).Nodup := List.nodup_cons.mpr ⟨hm, h⟩
    have := nodup_bound (n := n) h2 fun y hy => by
      rcases List.mem_cons.mp hy with rfl | hy
      · exact hx
      · exact hl y hy
    simp only [List.length_cons] at this
    omega
theorem nodup_filter {α : Type} {p : α → Bool} {l : List α} (h : l.Nodup) : (l.filter p).Nodup := h.sublist List.filter_sublist
theorem nodup_map_of {α β : Type} {f : α → β} {l : List α} (h : l.Nodup) (hf : ∀ x ∈ l, ∀ y ∈ l, f x = f y → x = y) : (l.map f).Nodup := by
  induction l with
  | nil => exact List.nodup_nil
  | cons a l ih =>
    rw [List.nodup_cons] at h
    rw [List.map_cons, List.nodup_cons]
    refine ⟨fun hm => ?_, ih h.2 fun x hx y hy => hf x (List.mem_cons_of_mem _ hx) y (List.mem_cons_of_mem _ hy)⟩
    obtain ⟨b, hb, e⟩ := List.mem_map.mp hm
    have := hf b (List.mem_cons_of_mem _ hb) a List.mem_cons_self e
    exact h.1 (this ▸ hb)
theorem nodup_rev {α : Type} {l : List α} (h : l.Nodup) : l.reverse.Nodup := (List.reverse_perm l).nodup_iff.mpr h
/-- different numbers within an interval are no more than its places -/
theorem count_between {l : List Nat} {lo hi : Int} (h : l.Nodup) (hl : ∀ x ∈ l, lo ≤ (x : Int) ∧ (x : Int) ≤ hi) : (l.length : Int) ≤ max 0 (hi - lo + 1) := by
  have h2 : (l.map fun x : Nat => ((x : Int) - lo).toNat).Nodup := nodup_map_of h fun x hx y hy e => by
    have := hl x hx
    have := hl y hy
    omega
  have h3 := nodup_bound (n := (hi - lo + 1).toNat) h2 fun z hz => by
    obtain ⟨x, hx, rfl⟩ := List.mem_map.mp hz
    have := hl x hx
    omega
  rw [List.length_map] at h3
  omega
theorem exists_least {p : Nat → Prop} (h : ∃ n, p n) : ∃ n, p n ∧ ∀ k, k < n → ¬ p k := by
  obtain ⟨n, hn⟩ := h
  induction n using Nat.strongRecOn with
  | ind n ih =>
    by_cases hq : ∃ k, k < n ∧ p k
    · obtain ⟨k, hk, hp⟩ := hq
      exact ih k hk hp
    · exact ⟨n, hn, fun k hk hp => hq ⟨k, hk, hp⟩⟩
theorem exists_twin {α : Type} [DecidableEq α] : ∀ {l : List α}, ¬ l.Nodup → ∃ u x v w, l = u ++ x :: (v ++ x :: w)
  | [], h => absurd List.nodup_nil h
  | a :: l, h => by
    by_cases ha : a ∈ l
    · obtain ⟨v, w, rfl⟩ := List.append_of_mem ha
      exact ⟨[], a, v, w, rfl⟩
    · have h2 : ¬ l.Nodup := fun z => h (List.nodup_cons.mpr ⟨ha, z⟩)
      obtain ⟨u, x, v, w, e⟩ := exists_twin h2
      exact ⟨a :: u, x, v, w, by rw [e]; rfl⟩

/-! ### problems -/
inductive Con where
  | within (i lo hi : Nat)
  | ahead (a b : Nat)
  deriving DecidableEq
structure Prob where
  n : Nat
  cs : List Con
def Con.ok (n : Nat) : Con → Prop
  | .within i lo hi => i < n ∧ 1 ≤ lo ∧ lo ≤ hi ∧ hi ≤ n
  | .ahead a b => a < n ∧ b < n ∧ a ≠ b
structure Prob.Ok (P : Prob) : Prop where
  n1 : 1 ≤ P.n
  n7 : P.n ≤ 7
  m12 : P.cs.length ≤ 12
  cok : ∀ c ∈ P.cs, c.ok P.n
structure IsRk (n : Nat) (r : List Nat) : Prop where
  len : r.length = n
  nd : r.Nodup
  lt : ∀ x ∈ r, x < n
def holds : Con → List Nat → Bool
  | .within i lo hi, r => decide (lo ≤ r.idxOf i + 1) && decide (r.idxOf i + 1 ≤ hi)
  | .ahead a b, r => decide (r.idxOf a < r.idxOf b)
def good (P : Prob) (r : List Nat) : Bool := P.cs.all fun c => holds c r
def Feas (P : Prob) : Prop := ∃ r, IsRk P.n r ∧ good P r = true

theorem IsRk.mem {n : Nat} {r : List Nat} (h : IsRk n r) {x : Nat} (hx : x < n) : x ∈ r := nodup_all h.nd h.lt (by rw [h.len]; exact Nat.le_refl _) hx
theorem IsRk.idx {n : Nat} {r : List Nat} (h : IsRk n r) {x : Nat} (hx : x < n) : r.idxOf x < n := by
  have := List.idxOf_lt_length_iff.mpr (h.mem hx)
  rw [h.len] at this
  exact this
theorem idx_inj {r : List Nat} {x y : Nat} (hx : x ∈ r) (hy : y ∈ r) (e : r.idxOf x = r.idxOf y) : x = y := by
  have h1 := List.getElem_idxOf (List.idxOf_lt_length_iff.mpr hx)
  have h2 := List.getElem_idxOf (List.idxOf_lt_length_iff.mpr hy)
  rw [← h1, ← h2]
  simp only [e]
theorem good_mem {P : Prob} {r : List Nat} (h : good P r = true) {c : Con} (hc : c ∈ P.cs) : holds c r = true := List.all_eq_true.mp h c hc
theorem good_ahead {P : Prob} {r : List Nat} (h : good P r = true) {a b : Nat} (hc : Con.ahead a b ∈ P.cs) : r.idxOf a < r.idxOf b := of_decide_eq_true (good_mem h hc)

/-! ### who is ahead of whom -/
def before (P : Prob) (i : Nat) : List Nat := (List.range P.n).filter fun a => decide (Con.ahead a i ∈ P.cs)
def behind (P : Prob) (i : Nat) : List Nat := (List.range P.n).filter fun b => decide (Con.ahead i b ∈ P.cs)
theorem mem_before {P : Prob} {i a : Nat} : a ∈ before P i ↔ a < P.n ∧ Con.ahead a i ∈ P.cs := by
  unfold before
  rw [List.mem_filter, List.mem_range, decide_eq_true_eq]
theorem mem_behind {P : Prob} {i b : Nat} : b ∈ behind P i ↔ b < P.n ∧ Con.ahead i b ∈ P.cs := by
  unfold behind
  rw [List.mem_filter, List.mem_range, decide_eq_true_eq]
def freeOf (P : Prob) (left : List Nat) : List Nat := left.filter fun i => !((before P i).any fun o => decide (o ∈ left))
def ordGo (P : Prob) : Nat → List Nat → List Nat → List Nat
  | 0, _, found => found
  | k + 1, left, found => if left = [] then found else if freeOf P left = [] then found else ordGo P k (left.filter fun i => !decide (i ∈ freeOf P left)) (found ++ freeOf P left)
def ordered (P : Prob) : List Nat := ordGo P (P.n + 1) (List.range P.n) []
def cyc (P : Prob) : Bool := decide ((ordered P).length < P.n)

structure Topo (P : Prob) (found left : List Nat) : Prop where
  nf : found.Nodup
  nl : left.Nodup
  dis : ∀ x ∈ found, x ∉ left
  cov : ∀ x, x < P.n → x ∈ found ∨ x ∈ left
  lf : ∀ x ∈ found, x < P.n
  ll : ∀ x ∈ left, x < P.n
  top : ∀ pre x post, found = pre ++ x :: post → ∀ a ∈ before P x, a ∈ pre
theorem mem_free {P : Prob} {left : List Nat} {x : Nat} : x ∈ freeOf P left ↔ x ∈ left ∧ ∀ a ∈ before P x, a ∉ left := by
  unfold freeOf
  rw [List.mem_filter]
  refine and_congr_right fun _ => ?_
  rw [Bool.not_eq_true', List.any_eq_false]
  constructor
  · intro h a ha hl
    exact h a ha (decide_eq_true hl)
  · intro h a ha e
    exact h a ha (of_decide_eq_true e)
theorem Topo.step {P : Prob} {found left : List Nat} (t : Topo P found left) : Topo P (found ++ freeOf P left) (left.filter fun i => !decide (i ∈ freeOf P left)) where
  nf := by
    rw [List.nodup_append]
    refine ⟨t.nf, nodup_filter t.nl, fun a ha b hb e => ?_⟩
    subst e
    exact t.dis a ha (mem_free.mp hb).1
  nl := nodup_filter t.nl
  dis := fun x hx hl => by
    rw [List.mem_filter, Bool.not_eq_true', decide_eq_false_iff_not] at hl
    rcases List.mem_append.mp hx with h | h
    · exact t.dis x h hl.1
    · exact hl.2 h
  cov := fun x hx => by
    by_cases hf : x ∈ freeOf P left
    · exact .inl (List.mem_append_right _ hf)
    · rcases t.cov x hx with h | h
      · exact .inl (List.mem_append_left _ h)
      · refine .inr ?_
        rw [List.mem_filter, Bool.not_eq_true', decide_eq_false_iff_not]
        exact ⟨h, hf⟩
  lf := fun x hx => by
    rcases List.mem_append.mp hx with h | h
    · exact t.lf x h
    · exact t.ll x (mem_free.mp h).1
  ll := fun x hx => t.ll x (List.mem_filter.mp hx).1
  top := fun pre x post e a ha => by
    rcases List.append_eq_append_iff.mp e with ⟨as, h1, h2⟩ | ⟨bs, h1, h2⟩
    · -- pre = found ++ as, free = as ++ x :: post
      subst h1
      have hx : x ∈ freeOf P left := by rw [h2]; exact List.mem_append_right _ List.mem_cons_self
      have hn := (mem_free.mp hx).2 a ha
      rcases t.cov a (mem_before.mp ha).1 with h | h
      · exact List.mem_append_left _ h
      · exact absurd h hn
    · -- found = pre ++ bs, x :: post = bs ++ free
      cases bs with
      | nil =>
        rw [List.append_nil] at h1
        subst h1
        have h2' : x :: post = freeOf P left := h2
        have hx : x ∈ freeOf P left := by rw [← h2']; exact List.mem_cons_self
        have hn := (mem_free.mp hx).2 a ha
        rcases t.cov a (mem_before.mp ha).1 with h | h
        · exact h
        · exact absurd h hn
      | cons y bs =>
        have h3 : x = y ∧ post = bs ++ freeOf P left := by simpa using h2
        obtain ⟨rfl, h4⟩ := h3
        exact t.top pre x bs h1 a ha
theorem Topo.init (P : Prob) : Topo P [] (List.range P.n) where
  nf := List.nodup_nil
  nl := List.nodup_range
  dis := fun x hx => by cases hx
  cov := fun x hx => .inr (List.mem_range.mpr hx)
  lf := fun x hx => by cases hx
  ll := fun x hx => List.mem_range.mp hx
  top := fun pre x post e => by cases pre <;> cases e
theorem left_less {P : Prob} {left : List Nat} (h : freeOf P left ≠ []) : (left.filter fun i => !decide (i ∈ freeOf P left)).length < left.length := by
  obtain ⟨x, hx⟩ := List.exists_mem_of_ne_nil _ h
  have hl := (mem_free.mp hx).1
  refine List.length_filter_lt_length_iff_exists.mpr ⟨x, hl, ?_⟩
  simp [hx]
theorem ord_end {P : Prob} : ∀ (k : Nat) (left found : List Nat), left.length < k → Topo P found left → ∃ left', Topo P (ordGo P k left found) left' ∧ (left' = [] ∨ (left' ≠ [] ∧ freeOf P left' = []))
  | 0, left, found, h, _ => absurd h (Nat.not_lt_zero _)
  | k + 1, left, found, h, t => by
    unfold ordGo
    by_cases h1 : left = []
    · rw [if_pos h1]
      exact ⟨left, t, .inl h1⟩
    · rw [if_neg h1]
      by_cases h2 : freeOf P left = []
      · rw [if_pos h2]
        exact ⟨left, t, .inr ⟨h1, h2⟩⟩
      · rw [if_neg h2]
        exact ord_end k _ _ (by have := left_less h2; omega) t.step
theorem Topo.count {P : Prob} {found left : List Nat} (t : Topo P found left) : found.length + left.length = P.n := by
  have h1 : (found ++ left).Nodup := List.nodup_append.mpr ⟨t.nf, t.nl, fun a ha b hb e => t.dis a ha (e ▸ hb)⟩
  have h2 := nodup_bound (n := P.n) h1 fun x hx => (List.mem_append.mp hx).elim (t.lf x) (t.ll x)
  have h3 := nodup_len (l := List.range P.n) (m := found ++ left) List.nodup_range fun x hx => List.mem_append.mpr (t.cov x (List.mem_range.mp hx))
  rw [List.length_range] at h3
  rw [List.length_append] at h2 h3
  omega
theorem ordered_end (P : Prob) : ∃ left, Topo P (ordered P) left ∧ (left = [] ∨ (left ≠ [] ∧ freeOf P left = [])) := ord_end _ _ _ (by simp) (Topo.init P)
theorem straight_topo {P : Prob} (h : cyc P = false) : Topo P (ordered P) [] := by
  obtain ⟨left, t, _⟩ := ordered_end P
  have h1 := t.count
  have h2 : ¬ (ordered P).length < P.n := of_decide_eq_false h
  have h3 : left = [] := List.length_eq_zero_iff.mp (by omega)
  subst h3
  exact t
theorem cyc_set {P : Prob} (h : cyc P = true) : ∃ left : List Nat, left ≠ [] ∧ (∀ x ∈ left, x < P.n) ∧ ∀ x ∈ left, ∃ a ∈ before P x, a ∈ left := by
  obtain ⟨left, t, e⟩ := ordered_end P
  have h1 := t.count
  have h2 : (ordered P).length < P.n := of_decide_eq_true h
  have h3 : left ≠ [] := fun z => by rw [z] at h1; simp at h1; omega
  rcases e with e | ⟨_, e⟩
  · exact absurd e h3
  · refine ⟨left, h3, t.ll, fun x hx => ?_⟩
    by_cases hc : ∃ a ∈ before P x, a ∈ left
    · exact hc
    · have : x ∈ freeOf P left := mem_free.mpr ⟨hx, fun a ha hl => hc ⟨a, ha, hl⟩⟩
      rw [e] at this
      cases this
/-- a good ranking: not cyclic -/
theorem feas_straight {P : Prob} (h : Feas P) : cyc P = false := by
  cases hc : cyc P with
  | false => rfl
  | true =>
    obtain ⟨r, hr, hg⟩ := h
    obtain ⟨left, hne, hlt, hb⟩ := cyc_set hc
    obtain ⟨x0, hx0⟩ := List.exists_mem_of_ne_nil _ hne
    obtain ⟨k, ⟨x, hx, hk⟩, hmin⟩ := exists_least (p := fun k => ∃ x ∈ left, r.idxOf x = k) ⟨_, x0, hx0, rfl⟩
    obtain ⟨a, ha, hal⟩ := hb x hx
    have := good_ahead hg (mem_before.mp ha).2
    exact (hmin (r.idxOf a) (by omega) ⟨a, hal, rfl⟩).elim

/-! ### windows -/
def lows (P : Prob) (i : Nat) : List Nat := P.cs.filterMap fun c => match c with
  | .within j lo _ => if j = i then some lo else none
  | .ahead _ _ => none
def highs (P : Prob) (i : Nat) : List Nat := P.cs.filterMap fun c => match c with
  | .within j _ hi => if j = i then some hi else none
  | .ahead _ _ => none
def gl (P : Prob) (i : Nat) : Nat := (lows P i).foldl max 1
def gh (P : Prob) (i : Nat) : Nat := (highs P i).foldl min P.n
theorem fmax_ge : ∀ (l : List Nat) (x : Nat), x ≤ l.foldl max x ∧ ∀ y ∈ l, y ≤ l.foldl max x
  | [], x => ⟨Nat.le_refl _, fun y hy => by cases hy⟩
  | a :: l, x => by
    obtain ⟨h1, h2⟩ := fmax_ge l (max x a)
    refine ⟨by simp only [List.foldl_cons]; omega, fun y hy => ?_⟩
    rcases List.mem_cons.mp hy with rfl | hy
    · simp only [List.foldl_cons]; omega
    · exact h2 y hy
theorem fmax_mem : ∀ (l : List Nat) (x : Nat), l.foldl max x = x ∨ l.foldl max x ∈ l
  | [], x => .inl rfl
  | a :: l, x => by
    simp only [List.foldl_cons]
    rcases fmax_mem l (max x a) with h | h
    · rw [h]
      by_cases c : a ≤ x
      · exact .inl (by omega)
      · refine .inr ?_
        have e : max x a = a := by omega
        rw [e]
        exact List.mem_cons_self
    · exact .inr (List.mem_cons_of_mem _ h)
theorem fmin_le : ∀ (l : List Nat) (x : Nat), l.foldl min x ≤ x ∧ ∀ y ∈ l, l.foldl min x ≤ y
  | [], x => ⟨Nat.le_refl _, fun y hy => by cases hy⟩
  | a :: l, x => by
    obtain ⟨h1, h2⟩ := fmin_le l (min x a)
    refine ⟨by simp only [List.foldl_cons]; omega, fun y hy => ?_⟩
    rcases List.mem_cons.mp hy with rfl | hy
    · simp only [List.foldl_cons]; omega
    · exact h2 y hy
theorem fmin_mem : ∀ (l : List Nat) (x : Nat), l.foldl min x = x ∨ l.foldl min x ∈ l
  | [], x => .inl rfl
  | a :: l, x => by
    simp only [List.foldl_cons]
    rcases fmin_mem l (min x a) with h | h
    · rw [h]
      by_cases c : x ≤ a
      · exact .inl (by omega)
      · refine .inr ?_
        have e : min x a = a := by omega
        rw [e]
        exact List.mem_cons_self
    · exact .inr (List.mem_cons_of_mem _ h)
theorem mem_lows {P : Prob} {i lo : Nat} : lo ∈ lows P i ↔ ∃ hi, Con.within i lo hi ∈ P.cs := by
  unfold lows
  rw [List.mem_filterMap]
  constructor
  · rintro ⟨c, hc, e⟩
    cases c with
    | within j l h =>
      simp only at e
      by_cases c : j = i
      · rw [if_pos c] at e
        cases e
        exact ⟨h, c ▸ hc⟩
      · rw [if_neg c] at e
        cases e
    | ahead a b => cases e
  · rintro ⟨hi, hc⟩
    exact ⟨_, hc, by simp⟩
theorem mem_highs {P : Prob} {i hi : Nat} : hi ∈ highs P i ↔ ∃ lo, Con.within i lo hi ∈ P.cs := by
  unfold highs
  rw [List.mem_filterMap]
  constructor
  · rintro ⟨c, hc, e⟩
    cases c with
    | within j l h =>
      simp only at e
      by_cases c : j = i
      · rw [if_pos c] at e
        cases e
        exact ⟨l, c ▸ hc⟩
      · rw [if_neg c] at e
        cases e
    | ahead a b => cases e
  · rintro ⟨lo, hc⟩
    exact ⟨_, hc, by simp⟩
theorem gl_pos (P : Prob) (i : Nat) : 1 ≤ gl P i := (fmax_ge (lows P i) 1).1
theorem gh_le (P : Prob) (i : Nat) : gh P i ≤ P.n := (fmin_le (highs P i) P.n).1
/-- in a good ranking each item keeps to its given bounds -/
theorem place_gl {P : Prob} {r : List Nat} (hg : good P r = true) (i : Nat) : gl P i ≤ r.idxOf i + 1 := by
  rcases fmax_mem (lows P i) 1 with h | h
  · have : gl P i = 1 := h
    omega
  · obtain ⟨hi, hc⟩ := mem_lows.mp h
    have h2 := good_mem hg hc
    unfold holds at h2
    rw [Bool.and_eq_true, decide_eq_true_eq, decide_eq_true_eq] at h2
    exact h2.1
theorem place_gh {P : Prob} {r : List Nat} (hr : IsRk P.n r) (hg : good P r = true) {i : Nat} (hi : i < P.n) : r.idxOf i + 1 ≤ gh P i := by
  rcases fmin_mem (highs P i) P.n with h | h
  · have : gh P i = P.n := h
    have := hr.idx hi
    omega
  · obtain ⟨lo, hc⟩ := mem_highs.mp h
    have h2 := good_mem hg hc
    unfold holds at h2
    rw [Bool.and_eq_true, decide_eq_true_eq, decide_eq_true_eq] at h2
    exact h2.2

/-! ### tables filled in a sequence -/
section
variable (dep : Nat → List Nat) (F : Nat → Int → List Int → Int)
def tStep (A : List Int) (i : Nat) : List Int := A.set i (F i (A.getD i 0) ((dep i).map fun o => A.getD o 0))
theorem tFold_len : ∀ (ord : List Nat) (A : List Int), (ord.foldl (tStep dep F) A).length = A.length
  | [], A => rfl
  | i :: ord, A => by
    rw [List.foldl_cons, tFold_len ord]
    unfold tStep
    rw [List.length_set]
theorem getD_set_ne {A : List Int} {i j : Nat} {v : Int} (h : i ≠ j) : (A.set i v).getD j 0 = A.getD j 0 := by
  rw [List.getD_eq_getElem?_getD, List.getD_eq_getElem?_getD, List.getElem?_set_ne h]
theorem getD_set_eq {A : List Int} {i : Nat} {v : Int} (h : i < A.length) : (A.set i v).getD i 0 = v := by
  rw [List.getD_eq_getElem?_getD, List.getElem?_set_self h]
  rfl
theorem tFold_other : ∀ (ord : List Nat) (A : List Int) (j : Nat), j ∉ ord → (ord.foldl (tStep dep F) A).getD j 0 = A.getD j 0
  | [], A, j, _ => rfl
  | i :: ord, A, j, h => by
    rw [List.mem_cons, not_or] at h
    rw [List.foldl_cons, tFold_other ord _ j h.2]
    unfold tStep
    exact getD_set_ne (fun e => h.1 e.symm)
theorem tFold_at {ord : List Nat} {A : List Int} (hn : ord.Nodup) (hl : ∀ x ∈ ord, x < A.length) (ht : ∀ pre x post, ord = pre ++ x :: post → ∀ a ∈ dep x, a ∈ pre) {i : Nat} (hi : i ∈ ord) :
    (ord.foldl (tStep dep F) A).getD i 0 = F i (A.getD i 0) ((dep i).map fun o => (ord.foldl (tStep dep F) A).getD o 0) := by
  obtain ⟨pre, post, e⟩ := List.append_of_mem hi
  have ht' := ht pre i post e
  subst e
  rw [List.nodup_append] at hn
  obtain ⟨n1, n2, n3⟩ := hn
  rw [List.nodup_cons] at n2
  have hip : i ∉ pre := fun h => n3 i h i List.mem_cons_self rfl
  have hil : i < (pre.foldl (tStep dep F) A).length := by rw [tFold_len]; exact hl i hi
  have e1 : ((pre ++ i :: post).foldl (tStep dep F) A) = (post.foldl (tStep dep F) (tStep dep F (pre.foldl (tStep dep F) A) i)) := by
    rw [List.foldl_append, List.foldl_cons]
  rw [e1, tFold_other dep F post _ i n2.1]
  have e2 : (tStep dep F (pre.foldl (tStep dep F) A) i).getD i 0 = F i ((pre.foldl (tStep dep F) A).getD i 0) ((dep i).map fun o => (pre.foldl (tStep dep F) A).getD o 0) := by
    unfold tStep
    exact getD_set_eq hil
  rw [e2, tFold_other dep F pre A i hip]
  congr 1
  apply List.map_congr_left
  intro o ho
  have hop := ht' o ho
  have h1 : o ∉ post := fun h => n3 o hop o (List.mem_cons_of_mem _ h) rfl
  have h2 : i ≠ o := fun h => hip (h ▸ hop)
  rw [tFold_other dep F post _ o h1]
  unfold tStep
  rw [getD_set_ne h2]
end
def maxI (x : Int) (l : List Int) : Int := l.foldl max x
def minI (x : Int) (l : List Int) : Int := l.foldl min x
theorem maxI_ge : ∀ (l : List Int) (x : Int), x ≤ maxI x l ∧ ∀ y ∈ l, y ≤ maxI x l
  | [], x => ⟨Int.le_refl _, fun y hy => by cases hy⟩
  | a :: l, x => by
    obtain ⟨h1, h2⟩ := maxI_ge l (max x a)
    have e : maxI x (a :: l) = maxI (max x a) l := rfl
    rw [e]
    refine ⟨by omega, fun y hy => ?_⟩
    rcases List.mem_cons.mp hy with rfl | hy
    · omega
    · exact h2 y hy
theorem maxI_mem : ∀ (l : List Int) (x : Int), maxI x l = x ∨ maxI x l ∈ l
  | [], x => .inl rfl
  | a :: l, x => by
    have e : maxI x (a :: l) = maxI (max x a) l := rfl
    rw [e]
    rcases maxI_mem l (max x a) with h | h
    · rw [h]
      by_cases c : a ≤ x
      · exact .inl (by omega)
      · refine .inr ?_
        have e : max x a = a := by omega
        rw [e]
        exact List.mem_cons_self
    · exact .inr (List.mem_cons_of_mem _ h)
theorem minI_le : ∀ (l : List Int) (x : Int), minI x l ≤ x ∧ ∀ y ∈ l, minI x l ≤ y
  | [], x => ⟨Int.le_refl _, fun y hy => by cases hy⟩
  | a :: l, x => by
    obtain ⟨h1, h2⟩ := minI_le l (min x a)
    have e : minI x (a :: l) = minI (min x a) l := rfl
    rw [e]
    refine ⟨by omega, fun y hy => ?_⟩
    rcases List.mem_cons.mp hy with rfl | hy
    · omega
    · exact h2 y hy
theorem minI_mem : ∀ (l : List Int) (x : Int), minI x l = x ∨ minI x l ∈ l
  | [], x => .inl rfl
  | a :: l, x => by
    have e : minI x (a :: l) = minI (min x a) l := rfl
    rw [e]
    rcases minI_mem l (min x a) with h | h
    · rw [h]
      by_cases c : x ≤ a
      · exact .inl (by omega)
      · refine .inr ?_
        have e : min x a = a := by omega
        rw [e]
        exact List.mem_cons_self
    · exact .inr (List.mem_cons_of_mem _ h)
/-- the greatest of a list is told by what is so of it -/
theorem maxI_unique {x m : Int} {l : List Int} (h1 : m ∈ x :: l) (h2 : ∀ y ∈ x :: l, y ≤ m) : m = maxI x l := by
  obtain ⟨g1, g2⟩ := maxI_ge l x
  have h3 : m ≤ maxI x l := by
    rcases List.mem_cons.mp h1 with rfl | h
    · exact g1
    · exact g2 m h
  have h4 : maxI x l ≤ m := by
    rcases maxI_mem l x with h | h
    · rw [h]; exact h2 x List.mem_cons_self
    · exact h2 _ (List.mem_cons_of_mem _ h)
  omega
theorem minI_unique {x m : Int} {l : List Int} (h1 : m ∈ x :: l) (h2 : ∀ y ∈ x :: l, m ≤ y) : m = minI x l := by
  obtain ⟨g1, g2⟩ := minI_le l x
  have h3 : minI x l ≤ m := by
    rcases List.mem_cons.mp h1 with rfl | h
    · exact g1
    · exact g2 m h
  have h4 : m ≤ minI x l := by
    rcases minI_mem l x with h | h
    · rw [h]; exact h2 x List.mem_cons_self
    · exact h2 _ (List.mem_cons_of_mem _ h)
  omega
theorem maxI_cast (l : List Nat) : ∀ x : Nat, maxI (x : Int) (l.map fun y : Nat => (y : Int)) = ((l.foldl max x : Nat) : Int) := by
    induction l with
    | nil => intro x; rfl
    | cons a l ih =>
      intro x
      have e : maxI (x : Int) ((a :: l).map fun y : Nat => (y : Int)) = maxI (max (x : Int) (a : Int)) (l.map fun y : Nat => (y : Int)) := rfl
      rw [e]
      have e2 : max (x : Int) (a : Int) = ((max x a : Nat) : Int) := by omega
      rw [e2, ih]
      rfl
theorem minI_cast (l : List Nat) : ∀ x : Nat, minI (x : Int) (l.map fun y : Nat => (y : Int)) = ((l.foldl min x : Nat) : Int) := by
    induction l with
    | nil => intro x; rfl
    | cons a l ih =>
      intro x
      have e : minI (x : Int) ((a :: l).map fun y : Nat => (y : Int)) = minI (min (x : Int) (a : Int)) (l.map fun y : Nat => (y : Int)) := rfl
      rw [e]
      have e2 : min (x : Int) (a : Int) = ((min x a : Nat) : Int) := by omega
      rw [e2, ih]
      rfl
def eF (_ : Nat) (x : Int) (l : List Int) : Int := maxI x (l.map (· + 1))
def lF (_ : Nat) (x : Int) (l : List Int) : Int := minI x (l.map (· - 1))
def early0 (P : Prob) : List Int := (List.range P.n).map fun i => (gl P i : Int)
def late0 (P : Prob) : List Int := (List.range P.n).map fun i => (gh P i : Int)
def early (P : Prob) : List Int := (ordered P).foldl (tStep (before P) eF) (early0 P)
def late (P : Prob) : List Int := (ordered P).reverse.foldl (tStep (behind P) lF) (late0 P)
abbrev Et (P : Prob) (i : Nat) : Int := (early P).getD i 0
abbrev Lt (P : Prob) (i : Nat) : Int := (late P).getD i 0
theorem early_len (P : Prob) : (early P).length = P.n := by
  unfold early
  rw [tFold_len]
  simp [early0]
theorem late_len (P : Prob) : (late P).length = P.n := by
  unfold late
  rw [tFold_len]
  simp [late0]
theorem getD_map_range {n i : Nat} {f : Nat → Int} (h : i < n) : ((List.range n).map f).getD i 0 = f i := by
  rw [List.getD_eq_getElem?_getD, List.getElem?_map, List.getElem?_range h]
  rfl
theorem early_eq {P : Prob} (hc : cyc P = false) {i : Nat} (hi : i < P.n) : Et P i = maxI (gl P i) ((before P i).map fun o => Et P o + 1) := by
  have t := straight_topo hc
  have hm : i ∈ ordered P := (t.cov i hi).elim id fun z => by cases z
  have h := tFold_at (before P) eF (ord := ordered P) (A := early0 P) t.nf (fun x hx => by simp [early0]; exact t.lf x hx) t.top hm
  rw [show Et P i = ((ordered P).foldl (tStep (before P) eF) (early0 P)).getD i 0 from rfl, h]
  unfold eF
  rw [show (early0 P).getD i 0 = (gl P i : Int) from getD_map_range hi, List.map_map]
  rfl
theorem late_eq {P : Prob} (hc : cyc P = false) {i : Nat} (hi : i < P.n) : Lt P i = minI (gh P i) ((behind P i).map fun o => Lt P o - 1) := by
  have t := straight_topo hc
  have hm : i ∈ ordered P := (t.cov i hi).elim id fun z => by cases z
  have h := tFold_at (behind P) lF (ord := (ordered P).reverse) (A := late0 P) (nodup_rev t.nf) (fun x hx => by simp [late0]; exact t.lf x (List.mem_reverse.mp hx)) (fun pre x post e b hb => ?_) (List.mem_reverse.mpr hm)
  · rw [show Lt P i = ((ordered P).reverse.foldl (tStep (behind P) lF) (late0 P)).getD i 0 from rfl, h]
    unfold lF
    rw [show (late0 P).getD i 0 = (gh P i : Int) from getD_map_range hi, List.map_map]
    rfl
  · have e2 : ordered P = post.reverse ++ x :: pre.reverse := by
      have := congrArg List.reverse e
      simpa using this
    obtain ⟨hbn, hbc⟩ := mem_behind.mp hb
    have hxo : x ∈ ordered P := by rw [e2]; simp
    have hbo : b ∈ ordered P := (t.cov b hbn).elim id fun z => by cases z
    have hxb : x ∈ before P b := mem_before.mpr ⟨t.lf x hxo, hbc⟩
    rw [e2] at hbo
    rcases List.mem_append.mp hbo with h | h
    · -- b comes ahead of x: then x stands ahead of b
      obtain ⟨p1, p2, e3⟩ := List.append_of_mem h
      have h4 := t.top p1 b (p2 ++ x :: pre.reverse) (by rw [e2, e3]; simp) x hxb
      have nd := t.nf
      rw [e2, e3] at nd
      have : (p1 ++ (b :: p2 ++ x :: pre.reverse)).Nodup := by simpa using nd
      exact ((List.nodup_append.mp this).2.2 x h4 x (by simp) rfl).elim
    · rcases List.mem_cons.mp h with rfl | h
      · have h4 := t.top _ _ _ e2 b hxb
        have nd := t.nf
        rw [e2] at nd
        exact ((List.nodup_append.mp nd).2.2 b h4 b List.mem_cons_self rfl).elim
      · exact List.mem_reverse.mp h

structure Win (P : Prob) (E L : Nat → Int) : Prop where
  e1 : ∀ i, i < P.n → (gl P i : Int) ≤ E i
  e2 : ∀ i, i < P.n → ∀ a ∈ before P i, E a + 1 ≤ E i
  e3 : ∀ i, i < P.n → E i = gl P i ∨ ∃ a ∈ before P i, E a + 1 = E i
  l1 : ∀ i, i < P.n → L i ≤ gh P i
  l2 : ∀ i, i < P.n → ∀ b ∈ behind P i, L i ≤ L b - 1
  l3 : ∀ i, i < P.n → L i = gh P i ∨ ∃ b ∈ behind P i, L b - 1 = L i
theorem win_of {P : Prob} (hc : cyc P = false) : Win P (Et P) (Lt P) where
  e1 := fun i hi => by rw [early_eq hc hi]; exact (maxI_ge _ _).1
  e2 := fun i hi a ha => by rw [early_eq hc hi]; exact (maxI_ge _ _).2 _ (List.mem_map.mpr ⟨a, ha, rfl⟩)
  e3 := fun i hi => by
    rcases maxI_mem ((before P i).map fun o => Et P o + 1) (gl P i) with h | h
    · exact .inl ((early_eq hc hi).trans h)
    · obtain ⟨a, ha, e⟩ := List.mem_map.mp h
      exact .inr ⟨a, ha, e.trans (early_eq hc hi).symm⟩
  l1 := fun i hi => by rw [late_eq hc hi]; exact (minI_le _ _).1
  l2 := fun i hi b hb => by rw [late_eq hc hi]; exact (minI_le _ _).2 _ (List.mem_map.mpr ⟨b, hb, rfl⟩)
  l3 := fun i hi => by
    rcases minI_mem ((behind P i).map fun o => Lt P o - 1) (gh P i) with h | h
    · exact .inl ((late_eq hc hi).trans h)
    · obtain ⟨b, hb, e⟩ := List.mem_map.mp h
      exact .inr ⟨b, hb, e.trans (late_eq hc hi).symm⟩
theorem Win.pos {P : Prob} {E L : Nat → Int} (w : Win P E L) {i : Nat} (hi : i < P.n) : 1 ≤ E i := by
  have h1 := w.e1 i hi
  have h2 := gl_pos P i
  omega
theorem Win.top {P : Prob} {E L : Nat → Int} (w : Win P E L) {i : Nat} (hi : i < P.n) : L i ≤ P.n := by
  have h1 := w.l1 i hi
  have h2 := gh_le P i
  omega
/-- in a good ranking each item has a place within its window -/
theorem Win.early_le {P : Prob} {E L : Nat → Int} (w : Win P E L) {r : List Nat} (hg : good P r = true) : ∀ (k : Nat) (i : Nat), i < P.n → (E i).toNat = k → E i ≤ (r.idxOf i : Int) + 1 := by
  intro k
  induction k using Nat.strongRecOn with
  | ind k ih =>
    intro i hi hk
    rcases w.e3 i hi with h | ⟨a, ha, h⟩
    · have := place_gl hg i
      omega
    · obtain ⟨han, hac⟩ := mem_before.mp ha
      have hp := w.pos han
      have := ih (E a).toNat (by omega) a han rfl
      have := good_ahead hg hac
      omega
theorem Win.late_ge {P : Prob} {E L : Nat → Int} (w : Win P E L) {r : List Nat} (hr : IsRk P.n r) (hg : good P r = true) : ∀ (k : Nat) (i : Nat), i < P.n → ((P.n : Int) - L i).toNat = k → (r.idxOf i : Int) + 1 ≤ L i := by
  intro k
  induction k using Nat.strongRecOn with
  | ind k ih =>
    intro i hi hk
    rcases w.l3 i hi with h | ⟨b, hb, h⟩
    · have := place_gh hr hg hi
      omega
    · obtain ⟨hbn, hbc⟩ := mem_behind.mp hb
      have hp := w.top hbn
      have := ih ((P.n : Int) - L b).toNat (by omega) b hbn rfl
      have := good_ahead hg hbc
      omega
def due (P : Prob) (E L : Nat → Int) (lo hi : Int) : List Nat := (List.range P.n).filter fun i => decide (lo ≤ E i) && decide (L i ≤ hi)
theorem mem_due {P : Prob} {E L : Nat → Int} {lo hi : Int} {i : Nat} : i ∈ due P E L lo hi ↔ i < P.n ∧ lo ≤ E i ∧ L i ≤ hi := by
  unfold due
  rw [List.mem_filter, List.mem_range, Bool.and_eq_true, decide_eq_true_eq, decide_eq_true_eq]
theorem due_nodup {P : Prob} {E L : Nat → Int} {lo hi : Int} : (due P E L lo hi).Nodup := nodup_filter List.nodup_range
def NoOver (P : Prob) (E L : Nat → Int) : Prop := ∀ lo hi : Int, 1 ≤ lo → lo ≤ P.n + 1 → 0 ≤ hi → hi ≤ P.n → ((due P E L lo hi).length : Int) ≤ max 0 (hi - lo + 1)
theorem feas_noOver {P : Prob} {E L : Nat → Int} (w : Win P E L) (h : Feas P) : NoOver P E L := by
  intro lo hi _ _ _ _
  obtain ⟨r, hr, hg⟩ := h
  have h2 : ((due P E L lo hi).map fun i => r.idxOf i + 1).Nodup := nodup_map_of due_nodup fun x hx y hy e =>
    idx_inj (hr.mem (mem_due.mp hx).1) (hr.mem (mem_due.mp hy).1) (by omega)
  have h3 := count_between (lo := lo) (hi := hi) h2 fun z hz => by
    obtain ⟨i, hi', rfl⟩ := List.mem_map.mp hz
    obtain ⟨h1, h4, h5⟩ := mem_due.mp hi'
    have := w.early_le hg _ i h1 rfl
    have := w.late_ge hr hg _ i h1 rfl
    omega
  rwa [List.length_map] at h3

/-! ### earliest deadline first -/
inductive Run (P : Prob) (E L : Nat → Int) : List Nat → Prop where
  | nil : Run P E L []
  | snoc {f : List Nat} {m : Nat} : Run P E L f → m < P.n → m ∉ f → E m ≤ (f.length : Int) + 1 → (∀ y, y < P.n → y ∉ f → E y ≤ (f.length : Int) + 1 → L m ≤ L y) → Run P E L (f ++ [m])
section
variable {P : Prob} {E L : Nat → Int} {f : List Nat}
theorem Run.nodup (h : Run P E L f) : f.Nodup := by
  induction h with
  | nil => exact List.nodup_nil
  | @snoc f m _ _ hm _ _ ih => exact List.nodup_append.mpr ⟨ih, by simp, fun a ha b hb e => by
      have : b = m := by simpa using hb
      rw [e, this] at ha
      exact hm ha⟩
theorem Run.lt (h : Run P E L f) : ∀ x ∈ f, x < P.n := by
  induction h with
  | nil => intro x hx; cases hx
  | @snoc f m _ hm _ _ _ ih =>
    intro x hx
    rcases List.mem_append.mp hx with h | h
    · exact ih x h
    · have : x = m := by simpa using h
      rw [this]; exact hm
theorem Run.at (h : Run P E L f) : ∀ (k : Nat) x, f[k]? = some x → E x ≤ (k : Int) + 1 ∧ ∀ y, y < P.n → y ∉ f.take k → E y ≤ (k : Int) + 1 → L x ≤ L y := by
  induction h with
  | nil => intro k x hx; simp at hx
  | @snoc f m _ _ _ h1 h2 ih =>
    intro k x hx
    by_cases hk : k < f.length
    · rw [List.getElem?_append_left hk] at hx
      have := ih k x hx
      rw [List.take_append_of_le_length (Nat.le_of_lt hk)]
      exact this
    · have hk2 : k = f.length := by
        have := (List.getElem?_eq_some_iff.mp hx).1
        simp at this
        omega
      subst hk2
      rw [List.getElem?_append_right (Nat.le_refl _), Nat.sub_self] at hx
      have e : m = x := by simpa using hx
      subst e
      refine ⟨h1, fun y hy hn => ?_⟩
      rw [List.take_left] at hn
      exact h2 y hy hn
/-- at each place there is one, if no interval is overfull -/
theorem Run.ready (w : Win P E L) (no : NoOver P E L) (h : Run P E L f) (hl : f.length < P.n) : ∃ m, m < P.n ∧ m ∉ f ∧ E m ≤ (f.length : Int) + 1 := by
  by_cases c : ∃ m, m < P.n ∧ m ∉ f ∧ E m ≤ (f.length : Int) + 1
  · exact c
  · have h1 : ∀ x ∈ (List.range P.n).filter (fun i => !decide (i ∈ f)), x ∈ due P E L ((f.length : Int) + 2) P.n := fun x hx => by
      rw [List.mem_filter, List.mem_range, Bool.not_eq_true', decide_eq_false_iff_not] at hx
      refine mem_due.mpr ⟨hx.1, ?_, w.top hx.1⟩
      by_cases c2 : E x ≤ (f.length : Int) + 1
      · exact (c ⟨x, hx.1, hx.2, c2⟩).elim
      · omega
    have h2 := nodup_len (nodup_filter List.nodup_range) h1
    have h3 := nodup_len (l := List.range P.n) (m := f ++ (List.range P.n).filter (fun i => !decide (i ∈ f))) List.nodup_range fun x hx => by
      by_cases hf : x ∈ f
      · exact List.mem_append_left _ hf
      · refine List.mem_append_right _ ?_
        rw [List.mem_filter, Bool.not_eq_true', decide_eq_false_iff_not]
        exact ⟨hx, hf⟩
    rw [List.length_range, List.length_append] at h3
    have h4 := no ((f.length : Int) + 2) P.n (by omega) (by omega) (by omega) (by omega)
    omega
theorem last_above {f : List Nat} {d : Int} : ∀ (k : Nat) x, f[k]? = some x → L x ≤ d → ∃ s0, s0 ≤ k ∧ (∀ j y, s0 ≤ j → j ≤ k → f[j]? = some y → L y ≤ d) ∧ (s0 = 0 ∨ ∃ y, f[s0 - 1]? = some y ∧ d < L y)
  | 0, x, hx, hd => ⟨0, Nat.le_refl _, fun j y _ h2 hy => by
      have : j = 0 := by omega
      subst this
      rw [hx] at hy; cases hy; exact hd, .inl rfl⟩
  | k + 1, x, hx, hd => by
    have hk : k < f.length := by have := (List.getElem?_eq_some_iff.mp hx).1; omega
    have hg : f[k]? = some f[k] := List.getElem?_eq_getElem hk
    by_cases c : L f[k] ≤ d
    · obtain ⟨s0, h1, h2, h3⟩ := last_above k f[k] hg c
      refine ⟨s0, by omega, fun j y hj1 hj2 hy => ?_, h3⟩
      by_cases e : j = k + 1
      · subst e
        rw [hx] at hy; cases hy; exact hd
      · exact h2 j y hj1 (by omega) hy
    · refine ⟨k + 1, Nat.le_refl _, fun j y hj1 hj2 hy => ?_, .inr ⟨f[k], by simpa using hg, by omega⟩⟩
      have : j = k + 1 := by omega
      subst this
      rw [hx] at hy; cases hy; exact hd
/-- none comes too late -/
theorem Run.intime (w : Win P E L) (no : NoOver P E L) (h : Run P E L f) : ∀ (k : Nat) x, f[k]? = some x → (k : Int) + 1 ≤ L x := by
  intro k x hx
  by_cases c : (k : Int) + 1 ≤ L x
  · exact c
  · exfalso
    have hxm : x ∈ f := List.mem_of_getElem? hx
    have hxn := h.lt x hxm
    have hkl : k < f.length := (List.getElem?_eq_some_iff.mp hx).1
    have hfn := nodup_bound h.nodup h.lt
    by_cases c0 : L x ≤ 0
    · have h1 := no 1 0 (by omega) (by omega) (by omega) (by omega)
      have h2 : x ∈ due P E L 1 0 := mem_due.mpr ⟨hxn, w.pos hxn, c0⟩
      have := List.length_pos_of_mem h2
      omega
    · obtain ⟨s0, hs, hall, hs1⟩ := last_above (L := L) (d := L x) k x hx (Int.le_refl _)
      have hsub : ∀ y ∈ (f.drop s0).take (k + 1 - s0), y ∈ due P E L ((s0 : Int) + 1) (L x) := fun y hy => by
        obtain ⟨j, hj⟩ := List.mem_iff_getElem?.mp hy
        rw [List.getElem?_take] at hj
        split at hj
        · rename_i hjl
          rw [List.getElem?_drop] at hj
          have hym : y ∈ f := List.mem_of_getElem? hj
          have hyn := h.lt y hym
          refine mem_due.mpr ⟨hyn, ?_, hall (s0 + j) y (by omega) (by omega) hj⟩
          rcases hs1 with e | ⟨z, hz, hzd⟩
          · subst e
            have := w.pos hyn
            omega
          · by_cases c3 : (s0 : Int) + 1 ≤ E y
            · exact c3
            · have hs0 : 0 < s0 := by
                by_cases q : 0 < s0
                · exact q
                · have q0 : s0 = 0 := by omega
                  subst q0
                  have := w.pos hyn
                  omega
              have hnot : y ∉ f.take (s0 - 1) := fun hm => by
                obtain ⟨i, hi⟩ := List.mem_iff_getElem?.mp hm
                rw [List.getElem?_take] at hi
                split at hi
                · rename_i hil
                  have e : i = s0 + j := by
                    have hl1 := (List.getElem?_eq_some_iff.mp hi).1
                    have hl2 := (List.getElem?_eq_some_iff.mp hj).1
                    refine (List.getElem_inj (h₀ := hl1) (h₁ := hl2) h.nodup).mp ?_
                    rw [List.getElem?_eq_getElem hl1] at hi
                    rw [List.getElem?_eq_getElem hl2] at hj
                    exact (Option.some.inj hi).trans (Option.some.inj hj).symm
                  omega
                · cases hi
              have := (h.at (s0 - 1) z hz).2 y hyn hnot (by omega)
              have := hall (s0 + j) y (by omega) (by omega) hj
              omega
        · cases hj
      have hnd : ((f.drop s0).take (k + 1 - s0)).Nodup := (h.nodup.sublist (List.drop_sublist _ _)).sublist (List.take_sublist _ _)
      have h1 := nodup_len hnd hsub
      rw [List.length_take, List.length_drop] at h1
      have htop := w.top hxn
      have h2 := no ((s0 : Int) + 1) (L x) (by omega) (by omega) (by omega) htop
      omega
theorem Run.isRk (h : Run P E L f) (hl : f.length = P.n) : IsRk P.n f := ⟨hl, h.nodup, h.lt⟩
theorem idx_at {f : List Nat} {x : Nat} (h : x ∈ f) : f[f.idxOf x]? = some x := by
  have hl := List.idxOf_lt_length_iff.mpr h
  rw [List.getElem?_eq_getElem hl, List.getElem_idxOf hl]
/-- a whole run is good -/
theorem Run.good (ok : P.Ok) (w : Win P E L) (no : NoOver P E L) (h : Run P E L f) (hl : f.length = P.n) : good P f = true := by
  have hr := h.isRk hl
  refine List.all_eq_true.mpr fun c hc => ?_
  have hok := ok.cok c hc
  cases c with
  | within i lo hi =>
    obtain ⟨hi1, _, _, _⟩ := hok
    have hm := hr.mem hi1
    have ha := idx_at hm
    have h1 := (h.at _ i ha).1
    have h2 := h.intime w no _ i ha
    have h3 := w.e1 i hi1
    have h4 := w.l1 i hi1
    have h5 := (fmax_ge (lows P i) 1).2 lo (mem_lows.mpr ⟨hi, hc⟩)
    have h6 := (fmin_le (highs P i) P.n).2 hi (mem_highs.mpr ⟨lo, hc⟩)
    have h7 : lo ≤ gl P i := h5
    have h8 : gh P i ≤ hi := h6
    unfold holds
    rw [Bool.and_eq_true, decide_eq_true_eq, decide_eq_true_eq]
    omega
  | ahead a b =>
    obtain ⟨ha, hb, hab⟩ := hok
    have hma := hr.mem ha
    have hmb := hr.mem hb
    unfold holds
    rw [decide_eq_true_eq]
    by_cases c : f.idxOf a < f.idxOf b
    · exact c
    · exfalso
      have hne : f.idxOf a ≠ f.idxOf b := fun e => hab (idx_inj hma hmb e)
      have h1 := w.e2 b hb a (mem_before.mpr ⟨ha, hc⟩)
      have h2 := w.l2 a ha b (mem_behind.mpr ⟨hb, hc⟩)
      have h3 := h.at _ b (idx_at hmb)
      have hnot : a ∉ f.take (f.idxOf b) := fun hm => by
        obtain ⟨i, hi⟩ := List.mem_iff_getElem?.mp hm
        rw [List.getElem?_take] at hi
        split at hi
        · rename_i hil
          have hl1 := (List.getElem?_eq_some_iff.mp hi).1
          have hl2 := List.idxOf_lt_length_iff.mpr hma
          have e : i = f.idxOf a := by
            refine (List.getElem_inj (h₀ := hl1) (h₁ := hl2) h.nodup).mp ?_
            rw [List.getElem?_eq_getElem hl1] at hi
            rw [List.getElem_idxOf hl2]
            exact Option.some.inj hi
          omega
        · cases hi
      have := h3.2 a ha hnot (by omega)
      omega
theorem run_whole (w : Win P E L) (no : NoOver P E L) : ∀ k, k ≤ P.n → ∃ f, Run P E L f ∧ f.length = k
  | 0, _ => ⟨[], .nil, rfl⟩
  | k + 1, hk => by
    obtain ⟨f, h, hl⟩ := run_whole w no k (by omega)
    obtain ⟨m, h1, h2, h3⟩ := h.ready w no (by omega)
    -- the least latest place among the ready ones
    obtain ⟨d, ⟨m', hm1, hm2, hm3, hd⟩, hmin⟩ := exists_least (p := fun d => ∃ m, m < P.n ∧ m ∉ f ∧ E m ≤ (f.length : Int) + 1 ∧ ((L m) + (((List.range P.n).map fun i => (L i).natAbs).foldl max 0 : Nat)).toNat = d) ⟨_, m, h1, h2, h3, rfl⟩
    refine ⟨f ++ [m'], .snoc h hm1 hm2 hm3 fun y hy1 hy2 hy3 => ?_, by simp [hl]⟩
    by_cases c : L m' ≤ L y
    · exact c
    · exfalso
      have b : ∀ i, i < P.n → -((((List.range P.n).map fun i => (L i).natAbs).foldl max 0 : Nat) : Int) ≤ L i := fun i hi => by
        have := (fmax_ge ((List.range P.n).map fun i => (L i).natAbs) 0).2 (L i).natAbs (List.mem_map.mpr ⟨i, List.mem_range.mpr hi, rfl⟩)
        omega
      have b1 := b y hy1
      have b2 := b m' hm1
      exact hmin _ (by omega) ⟨y, hy1, hy2, hy3, rfl⟩
theorem feas_of (ok : P.Ok) (w : Win P E L) (no : NoOver P E L) : Feas P := by
  obtain ⟨f, h, hl⟩ := run_whole w no P.n (Nat.le_refl _)
  exact ⟨f, h.isRk hl, h.good ok w no hl⟩
end

/-! ### chains, cycles -/
def path (P : Prob) : List Nat → Prop
  | [] => True
  | [_] => True
  | x :: y :: l => Con.ahead x y ∈ P.cs ∧ path P (y :: l)
theorem path_cons {P : Prob} {x y : Nat} {l : List Nat} : path P (x :: y :: l) ↔ Con.ahead x y ∈ P.cs ∧ path P (y :: l) := Iff.rfl
theorem path_split {P : Prob} : ∀ (l1 : List Nat) (x : Nat) (l2 : List Nat), path P (l1 ++ x :: l2) ↔ path P (l1 ++ [x]) ∧ path P (x :: l2)
  | [], x, l2 => ⟨fun h => ⟨trivial, h⟩, fun h => h.2⟩
  | [a], x, l2 => by
    show path P (a :: x :: l2) ↔ path P (a :: x :: []) ∧ _
    rw [path_cons, path_cons]
    exact ⟨fun h => ⟨⟨h.1, trivial⟩, h.2⟩, fun h => ⟨h.1.1, h.2⟩⟩
  | a :: b :: l1, x, l2 => by
    show path P (a :: b :: (l1 ++ x :: l2)) ↔ path P (a :: b :: (l1 ++ [x])) ∧ _
    rw [path_cons, path_cons]
    have ih := path_split (P := P) (b :: l1) x l2
    have ih' : path P (b :: (l1 ++ x :: l2)) ↔ path P (b :: (l1 ++ [x])) ∧ path P (x :: l2) := ih
    rw [ih', and_assoc]
theorem path_snoc {P : Prob} {l : List Nat} {x y : Nat} : path P (l ++ [x, y]) ↔ path P (l ++ [x]) ∧ Con.ahead x y ∈ P.cs := by
  have := path_split (P := P) l x [y]
  rw [this]
  refine and_congr_right fun _ => ?_
  rw [path_cons]
  exact ⟨fun h => h.1, fun h => ⟨h, trivial⟩⟩
/-- along a chain places grow -/
theorem path_place {P : Prob} {r : List Nat} (hg : good P r = true) : ∀ (c : List Nat) (x : Nat), path P (x :: c) → r.idxOf x + c.length ≤ r.idxOf ((x :: c).getLast (by simp))
  | [], x, _ => by simp
  | y :: c, x, h => by
    obtain ⟨h1, h2⟩ := path_cons.mp h
    have h3 := good_ahead hg h1
    have h4 := path_place hg c y h2
    have e : (x :: y :: c).getLast (by simp) = (y :: c).getLast (by simp) := List.getLast_cons (by simp)
    rw [e]
    simp only [List.length_cons]
    omega
/-- a cycle: no good ranking -/
theorem cycle_bad {P : Prob} {x : Nat} {c : List Nat} (h : path P (x :: (c ++ [x]))) : ¬ Feas P := by
  rintro ⟨r, hr, hg⟩
  have := path_place hg (c ++ [x]) x h
  have e : ∀ h : (x :: (c ++ [x])) ≠ [], (x :: (c ++ [x])).getLast h = x := fun h => List.getLast_concat (l := x :: c) (a := x)
  rw [e, List.length_append, List.length_singleton] at this
  omega
def closed (P : Prob) (x : Nat) (v : List Nat) : Prop := path P (x :: (v ++ [x]))
theorem cyc_closed {P : Prob} (h : cyc P = true) : ∃ x v, closed P x v := by
  obtain ⟨left, hne, hlt, hb⟩ := cyc_set h
  have long : ∀ k, ∃ c : List Nat, c.length = k + 1 ∧ path P c ∧ ∀ x ∈ c, x ∈ left := by
    intro k
    induction k with
    | zero =>
      obtain ⟨x, hx⟩ := List.exists_mem_of_ne_nil _ hne
      exact ⟨[x], rfl, trivial, fun y hy => by have : y = x := by simpa using hy
                                               rw [this]; exact hx⟩
    | succ k ih =>
      obtain ⟨c, h1, h2, h3⟩ := ih
      cases c with
      | nil => simp at h1
      | cons y c =>
        obtain ⟨a, ha, hal⟩ := hb y (h3 y List.mem_cons_self)
        refine ⟨a :: y :: c, by simp at h1 ⊢; omega, path_cons.mpr ⟨(mem_before.mp ha).2, h2⟩, fun z hz => ?_⟩
        rcases List.mem_cons.mp hz with rfl | hz
        · exact hal
        · exact h3 z hz
  obtain ⟨c, h1, h2, h3⟩ := long P.n
  have h4 : ¬ c.Nodup := fun hn => by
    have := nodup_bound hn fun x hx => hlt x (h3 x hx)
    omega
  obtain ⟨u, x, v, w, e⟩ := exists_twin h4
  subst e
  have h5 := ((path_split u x (v ++ x :: w)).mp h2).2
  have h6 : path P ((x :: v) ++ x :: w) := h5
  exact ⟨x, v, ((path_split (x :: v) x w).mp h6).1⟩
theorem ahead_lt {P : Prob} (ok : P.Ok) {a b : Nat} (h : Con.ahead a b ∈ P.cs) : a < P.n ∧ b < P.n := ⟨(ok.cok _ h).1, (ok.cok _ h).2.1⟩
theorem closed_turn {P : Prob} {m y : Nat} {v1 v2 : List Nat} (h : closed P m (v1 ++ y :: v2)) : closed P y (v2 ++ m :: v1) := by
  unfold closed at h ⊢
  have h1 : path P ((m :: v1) ++ y :: (v2 ++ [m])) := by simpa using h
  obtain ⟨a, b⟩ := (path_split _ _ _).mp h1
  have h2 : path P ((y :: v2) ++ m :: (v1 ++ [y])) := (path_split (y :: v2) m (v1 ++ [y])).mpr ⟨by simpa using b, by simpa using a⟩
  simpa using h2
/-- a cycle that begins with its least item, which comes once, and has no other item twice -/
theorem least_cycle {P : Prob} (h : cyc P = true) : ∃ m v, closed P m v ∧ (∀ y ∈ v, m < y) ∧ v.Nodup := by
  obtain ⟨x0, v0, h0⟩ := cyc_closed h
  obtain ⟨m, ⟨v1, hv1⟩, hmin⟩ := exists_least (p := fun m => ∃ v, closed P m v) ⟨x0, v0, h0⟩
  obtain ⟨k, ⟨v, hv, hk⟩, hk2⟩ := exists_least (p := fun k => ∃ v, closed P m v ∧ v.length = k) ⟨_, v1, hv1, rfl⟩
  refine ⟨m, v, hv, fun y hy => ?_, ?_⟩
  · obtain ⟨a, b, e⟩ := List.append_of_mem hy
    subst e
    have h1 : ¬ y < m := fun hlt => hmin y hlt ⟨_, closed_turn hv⟩
    have h2 : y ≠ m := fun e => by
      subst e
      have h3 : path P ((y :: a) ++ y :: (b ++ [y])) := by unfold closed at hv; simpa using hv
      exact hk2 a.length (by rw [← hk]; simp) ⟨a, ((path_split _ _ _).mp h3).1, rfl⟩
    omega
  · by_cases hn : v.Nodup
    · exact hn
    · exfalso
      obtain ⟨a, y, b, c, e⟩ := exists_twin hn
      subst e
      have h3 : path P ((m :: a) ++ y :: (b ++ y :: (c ++ [m]))) := by unfold closed at hv; simpa using hv
      obtain ⟨g1, g2⟩ := (path_split _ _ _).mp h3
      have g3 : path P ((y :: b) ++ y :: (c ++ [m])) := by simpa using g2
      have g4 := ((path_split _ _ _).mp g3).2
      have g5 := (path_split (m :: a) y (c ++ [m])).mpr ⟨g1, g4⟩
      refine hk2 (a ++ y :: c).length (by rw [← hk]; simp; omega) ⟨a ++ y :: c, ?_, rfl⟩
      unfold closed
      simpa using g5
/-! ### the search of cycles, level by level -/
def closers (P : Prob) (item : Nat) (rows : List (List Nat)) : List (List Nat) := (rows.filter fun row => decide (item ∈ behind P (row.getLastD 0))).map fun row => row ++ [item]
def longer1 (P : Prob) (item : Nat) (row : List Nat) : List (List Nat) := ((behind P (row.getLastD 0)).filter fun o => decide (item < o) && !decide (o ∈ row)).map fun o => row ++ [o]
def longer (P : Prob) (item : Nat) (rows : List (List Nat)) : List (List Nat) := rows.flatMap (longer1 P item)
def cycGo (P : Prob) (item : Nat) : Nat → List (List Nat) → List (List Nat)
  | 0, _ => []
  | k + 1, rows => if rows = [] then [] else if closers P item rows ≠ [] then closers P item rows else cycGo P item k (longer P item rows)
structure RowOk (P : Prob) (item k : Nat) (row : List Nat) : Prop where
  len : row.length = k
  nd : row.Nodup
  lt : ∀ x ∈ row, x < P.n
  hd : ∃ t, row = item :: t
  pa : path P row
theorem RowOk.ne {P : Prob} {item k : Nat} {row : List Nat} (h : RowOk P item k row) : ∃ u y, row = u ++ [y] ∧ row.getLastD 0 = y := by
  obtain ⟨t, e⟩ := h.hd
  have hne : row ≠ [] := by rw [e]; simp
  refine ⟨row.dropLast, row.getLast hne, (List.dropLast_concat_getLast hne).symm, ?_⟩
  rw [List.getLastD_eq_getLast?, List.getLast?_eq_getLast hne]
  rfl
theorem RowOk.long {P : Prob} {item k : Nat} {row : List Nat} (h : RowOk P item k row) {z : List Nat} (hz : z ∈ longer1 P item row) : RowOk P item (k + 1) z := by
  unfold longer1 at hz
  obtain ⟨o, ho, e⟩ := List.mem_map.mp hz
  rw [List.mem_filter, Bool.and_eq_true, Bool.not_eq_true', decide_eq_true_eq, decide_eq_false_iff_not] at ho
  obtain ⟨h1, h2, h3⟩ := ho
  obtain ⟨hon, hoc⟩ := mem_behind.mp h1
  obtain ⟨u, y, e1, e2⟩ := h.ne
  subst e
  refine ⟨by simp [h.len], List.nodup_append.mpr ⟨h.nd, by simp, fun a ha b hb e => ?_⟩, fun x hx => ?_, ?_, ?_⟩
  · have : b = o := by simpa using hb
    rw [e, this] at ha
    exact h3 ha
  · rcases List.mem_append.mp hx with hx | hx
    · exact h.lt x hx
    · have : x = o := by simpa using hx
      rw [this]; exact hon
  · obtain ⟨t, e⟩ := h.hd
    exact ⟨t ++ [o], by rw [e]; rfl⟩
  · rw [e2] at hoc
    have hp := h.pa
    rw [e1] at hp ⊢
    rw [List.append_assoc]
    exact path_snoc.mpr ⟨hp, hoc⟩
theorem cycGo_ok {P : Prob} {item : Nat} : ∀ (f k : Nat) (rows : List (List Nat)), (∀ row ∈ rows, RowOk P item k row) → ∀ c ∈ cycGo P item f rows, ∃ v, c = item :: (v ++ [item]) ∧ path P c ∧ ∀ x ∈ c, x < P.n
  | 0, k, rows, _, c, hc => by cases hc
  | f + 1, k, rows, h, c, hc => by
    unfold cycGo at hc
    by_cases h1 : rows = []
    · rw [if_pos h1] at hc
      cases hc
    · rw [if_neg h1] at hc
      by_cases h2 : closers P item rows ≠ []
      · rw [if_pos h2] at hc
        unfold closers at hc
        obtain ⟨row, hr, e⟩ := List.mem_map.mp hc
        rw [List.mem_filter, decide_eq_true_eq] at hr
        have ok := h row hr.1
        obtain ⟨u, y, e1, e2⟩ := ok.ne
        obtain ⟨hin, hb⟩ := mem_behind.mp hr.2
        obtain ⟨t, et⟩ := ok.hd
        refine ⟨t, by rw [← e, et]; rfl, ?_, fun x hx => ?_⟩
        · rw [e2] at hb
          have hp := ok.pa
          rw [← e, e1, List.append_assoc]
          rw [e1] at hp
          exact path_snoc.mpr ⟨hp, hb⟩
        · rw [← e] at hx
          rcases List.mem_append.mp hx with hx | hx
          · exact ok.lt x hx
          · have : x = item := by simpa using hx
            rw [this]; exact hin
      · rw [if_neg h2] at hc
        refine cycGo_ok f (k + 1) _ (fun row hr => ?_) c hc
        obtain ⟨r0, hr0, hz⟩ := List.mem_flatMap.mp hr
        exact (h r0 hr0).long hz
/-- from the least item of a least cycle the search finds one -/
theorem cycGo_finds {P : Prob} (ok : P.Ok) {m : Nat} {v : List Nat} (hc : closed P m v) (hm : ∀ y ∈ v, m < y) (hn : v.Nodup) : ∀ (f L : Nat) (rows : List (List Nat)), L ≤ v.length → v.length - L < f → (m :: v.take L) ∈ rows → cycGo P m f rows ≠ []
  | 0, L, rows, _, h, _ => absurd h (Nat.not_lt_zero _)
  | f + 1, L, rows, hL, hf, hr => by
    unfold cycGo
    have h1 : rows ≠ [] := fun e => by rw [e] at hr; cases hr
    rw [if_neg h1]
    by_cases h2 : closers P m rows ≠ []
    · rw [if_pos h2]
      exact h2
    · rw [if_neg h2]
      have hlast : ∀ z rest, v ++ [m] = v.take L ++ z :: rest → Con.ahead ((m :: v.take L).getLastD 0) z ∈ P.cs := fun z rest e => by
        unfold closed at hc
        rw [e] at hc
        have hne : (m :: v.take L) ≠ [] := by simp
        have hp : path P ((m :: v.take L) ++ z :: rest) := hc
        have h5 := ((path_split _ _ _).mp hp).1
        rw [← List.dropLast_concat_getLast hne, List.append_assoc] at h5
        have := (path_snoc.mp h5).2
        rw [List.getLastD_eq_getLast?, List.getLast?_eq_getLast hne]
        exact this
      by_cases h3 : L = v.length
      · exfalso
        apply h2
        have e : v.take L = v := by rw [h3]; exact List.take_length
        have h4 := hlast m [] (by rw [e])
        have : (m :: v.take L) ++ [m] ∈ closers P m rows := by
          unfold closers
          refine List.mem_map.mpr ⟨_, List.mem_filter.mpr ⟨hr, decide_eq_true (mem_behind.mpr ⟨(ahead_lt ok h4).2, h4⟩)⟩, rfl⟩
        intro z
        rw [z] at this
        cases this
      · have hLlt : L < v.length := by omega
        have e : v ++ [m] = v.take L ++ v[L] :: (v.drop (L + 1) ++ [m]) := by
          rw [← List.cons_append, ← List.append_assoc]
          congr 1
          rw [← List.drop_eq_getElem_cons hLlt, List.take_append_drop]
        have h4 := hlast _ _ e
        have hmem : v[L] ∈ v := List.getElem_mem hLlt
        have hnot : v[L] ∉ m :: v.take L := fun hz => by
          rcases List.mem_cons.mp hz with hz | hz
          · have := hm _ hmem
            omega
          · obtain ⟨i, hi⟩ := List.mem_iff_getElem?.mp hz
            rw [List.getElem?_take] at hi
            split at hi
            · rename_i hil
              have hl1 := (List.getElem?_eq_some_iff.mp hi).1
              rw [List.getElem?_eq_getElem hl1] at hi
              have := (List.getElem_inj (h₀ := hl1) (h₁ := hLlt) hn).mp (Option.some.inj hi)
              omega
            · cases hi
        have hin : (m :: v.take (L + 1)) ∈ longer P m rows := by
          unfold longer
          refine List.mem_flatMap.mpr ⟨_, hr, ?_⟩
          unfold longer1
          refine List.mem_map.mpr ⟨v[L], ?_, ?_⟩
          · rw [List.mem_filter, Bool.and_eq_true, Bool.not_eq_true', decide_eq_true_eq, decide_eq_false_iff_not]
            exact ⟨mem_behind.mpr ⟨(ahead_lt ok h4).2, h4⟩, hm _ hmem, hnot⟩
          · rw [List.take_succ_eq_append_getElem hLlt]
            rfl
        exact cycGo_finds ok hc hm hn f (L + 1) _ hLlt (by omega) hin
theorem row_first {P : Prob} {item : Nat} (h : item < P.n) : RowOk P item 1 [item] := ⟨rfl, by simp, fun x hx => by have : x = item := by simpa using hx
                                                                                                                    rw [this]; exact h, ⟨[], rfl⟩, trivial⟩
def cycFrom (P : Prob) (item : Nat) : List (List Nat) := cycGo P item (P.n + 1) [[item]]
theorem cycFrom_ok {P : Prob} {item : Nat} (h : item < P.n) {c : List Nat} (hc : c ∈ cycFrom P item) : ∃ v, c = item :: (v ++ [item]) ∧ path P c ∧ ∀ x ∈ c, x < P.n :=
  cycGo_ok _ 1 _ (fun row hr => by have : row = [item] := by simpa using hr
                                   rw [this]; exact row_first h) c hc
theorem cyc_found {P : Prob} (ok : P.Ok) (h : cyc P = true) : ∃ item, item < P.n ∧ cycFrom P item ≠ [] := by
  obtain ⟨m, v, hc, hm, hn⟩ := least_cycle h
  have hlt : ∀ y ∈ v, y < P.n := fun y hy => by
    obtain ⟨a, b, e⟩ := List.append_of_mem hy
    have hc' := closed_turn (e ▸ hc)
    unfold closed at hc'
    cases b with
    | nil => exact (ahead_lt ok (path_cons.mp hc').1).1
    | cons z b => exact (ahead_lt ok (path_cons.mp hc').1).1
  have hmn : m < P.n := by
    unfold closed at hc
    cases v with
    | nil => exact (ahead_lt ok (path_cons.mp hc).1).1
    | cons z b => exact (ahead_lt ok (path_cons.mp hc).1).1
  have hvn := nodup_bound hn hlt
  exact ⟨m, hmn, cycGo_finds ok hc hm hn _ 0 _ (Nat.zero_le _) (by omega) (by simp)⟩
end R60

end -- M1
section -- M2
set_option linter.all false
/-! What the judge of contradictions says of any datum; that it is right; that the told ones pass. -/
namespace R60
open PySem

def Con.D : Con → PyData
  | .within i lo hi => .tuple [.str "within", .int i, .int lo, .int hi]
  | .ahead a b => .tuple [.str "ahead", .int a, .int b]
def natsD (l : List Nat) : List PyData := l.map fun x : Nat => .int x
abbrev tupN (l : List Nat) : PyData := .tuple (natsD l)
def Prob.D (P : Prob) : PyData := .tuple [.int P.n, .tuple (P.cs.map Con.D)]

def natOf : PyData → Nat
  | .int i => i.toNat
  | _ => 0
def isWholeD (d : PyData) (lo hi : Int) : Bool := match d with
  | .int i => decide (lo ≤ i) && decide (i ≤ hi)
  | _ => false
def isItemD (P : Prob) (d : PyData) : Bool := isWholeD d 0 ((P.n : Int) - 1)
def aheadD (a b : PyData) : PyData := .tuple [.str "ahead", a, b]
def aheadIn (P : Prob) (a b : PyData) : Bool := (P.cs.map Con.D).any fun z => PyData.eqv z (aheadD a b)
def isChainD (P : Prob) (d : PyData) : Bool := match d with
  | .tuple ds => !ds.isEmpty && ds.all (isItemD P) && (ds.zip (ds.drop 1)).all fun p => aheadIn P p.1 p.2
  | _ => false
def showsLowD (P : Prob) (item : PyData) (low : Int) (d : PyData) : Bool := match d with
  | .tuple ds => isChainD P d && (PyData.eqv (ds.getLastD .none) item && decide (low ≤ (gl P (natOf (ds.headD .none)) : Int) + ds.length - 1))
  | _ => false
def showsHighD (P : Prob) (item : PyData) (high : Int) (d : PyData) : Bool := match d with
  | .tuple ds => isChainD P d && (PyData.eqv (ds.headD .none) item && decide ((gh P (natOf (ds.getLastD .none)) : Int) - ds.length + 1 ≤ high))
  | _ => false
def isRowD (P : Prob) (low high : Int) (d : PyData) : Bool := match d with
  | .tuple [a, b, c] => isItemD P a && (showsLowD P a low b && showsHighD P a high c)
  | _ => false
/-- the first one of a tuple, as an int -/
def key0 : PyData → Int
  | .tuple (.int i :: _) => i
  | _ => 0
def placesOf (lo hi : Int) : Int := max 0 (hi - lo + 1)
def ascB (ks : List Int) : Bool := (List.range (ks.length - 1)).all fun k => decide (ks.getD k 0 < ks.getD (k + 1) 0)
def intOf : PyData → Int
  | .int i => i
  | _ => 0
def isOverD (P : Prob) (low high rows : PyData) : Bool := isWholeD low (-20) 20 && isWholeD high (-20) 20 && match rows with
  | .tuple rs => rs.all (isRowD P (intOf low) (intOf high)) && ascB (rs.map key0) && decide (placesOf (intOf low) (intOf high) < rs.length)
  | _ => false
def cycArm (P : Prob) (rest : List PyData) : Bool := match rest with
  | [.tuple c] => isChainD P (.tuple c) && decide (1 < c.length) && PyData.eqv (c.headD .none) (c.getLastD .none)
  | _ => false
def overArm (P : Prob) (rest : List PyData) : Bool := match rest with
  | [lo, hi, rows] => isOverD P lo hi rows
  | _ => false
def isContrD (P : Prob) (d : PyData) : Bool := match d with
  | .tuple (.str z :: rest) => if z = "cycle" then cycArm P rest else if z = "overfull" then overArm P rest else false
  | _ => false
theorem contr_cyc {P : Prob} {rest : List PyData} : isContrD P (.tuple (.str "cycle" :: rest)) = cycArm P rest := by
  show (if ("cycle" : Str) = "cycle" then cycArm P rest else if ("cycle" : Str) = "overfull" then overArm P rest else false) = _
  rw [if_pos rfl]
theorem contr_over {P : Prob} {rest : List PyData} : isContrD P (.tuple (.str "overfull" :: rest)) = overArm P rest := by
  have ne : ¬ (("overfull" : Str) = ("cycle" : Str)) := by decide +kernel
  show (if ("overfull" : Str) = "cycle" then cycArm P rest else if ("overfull" : Str) = "overfull" then overArm P rest else false) = _
  rw [if_neg ne, if_pos rfl]

/-! ### what it says of ints -/
theorem item_shape {P : Prob} {d : PyData} (h : isItemD P d = true) : ∃ k : Nat, d = .int k ∧ k < P.n := by
  cases d with
  | int i =>
    have h1 : (decide (0 ≤ i) && decide (i ≤ (P.n : Int) - 1)) = true := h
    rw [Bool.and_eq_true, decide_eq_true_eq, decide_eq_true_eq] at h1
    exact ⟨i.toNat, by congr 1; omega, by omega⟩
  | _ => cases h
theorem isItemD_nat {P : Prob} {k : Nat} : isItemD P (.int k) = decide (k < P.n) := by
  show (decide ((0 : Int) ≤ k) && decide ((k : Int) ≤ (P.n : Int) - 1)) = decide (k < P.n)
  rw [decide_eq_true (by omega : (0 : Int) ≤ k), Bool.true_and]
  exact decide_eq_decide.mpr (by omega)
theorem items_shape {P : Prob} : ∀ {ds : List PyData}, ds.all (isItemD P) = true → ∃ c : List Nat, ds = natsD c ∧ ∀ x ∈ c, x < P.n
  | [], _ => ⟨[], rfl, fun x hx => by cases hx⟩
  | d :: ds, h => by
    rw [List.all_cons, Bool.and_eq_true] at h
    obtain ⟨k, rfl, hk⟩ := item_shape h.1
    obtain ⟨c, rfl, hc⟩ := items_shape h.2
    exact ⟨k :: c, rfl, fun x hx => by
      rcases List.mem_cons.mp hx with rfl | hx
      · exact hk
      · exact hc x hx⟩
theorem natsD_items {P : Prob} {c : List Nat} (h : ∀ x ∈ c, x < P.n) : (natsD c).all (isItemD P) = true := by
  refine List.all_eq_true.mpr fun d hd => ?_
  obtain ⟨x, hx, rfl⟩ := List.mem_map.mp hd
  rw [isItemD_nat]
  exact decide_eq_true (h x hx)
theorem eqv_ahead {c : Con} {a b : Nat} : PyData.eqv c.D (aheadD (.int a) (.int b)) = decide (c = .ahead a b) := by
  cases c with
  | within i lo hi =>
    have e : PyData.eqv (Con.within i lo hi).D (aheadD (.int a) (.int b)) = false := by
      unfold Con.D aheadD
      simp only [PyData.eqv, PyData.eqvAll]
      have : ((("within" : Str) == ("ahead" : Str))) = false := by decide +kernel
      rw [this]
      rfl
    rw [e]
    exact (decide_eq_false (by simp)).symm
  | ahead x y =>
    have e : PyData.eqv (Con.ahead x y).D (aheadD (.int a) (.int b)) = ((x : Int) == (a : Int) && ((y : Int) == (b : Int))) := by
      unfold Con.D aheadD
      simp only [PyData.eqv, PyData.eqvAll]
      have : ((("ahead" : Str) == ("ahead" : Str))) = true := by decide +kernel
      rw [this, Bool.true_and, Bool.and_true]
    rw [e]
    by_cases h : x = a ∧ y = b
    · obtain ⟨rfl, rfl⟩ := h
      simp
    · have h2 : ¬ Con.ahead x y = Con.ahead a b := fun z => by injection z with z1 z2; exact h ⟨z1, z2⟩
      rw [decide_eq_false h2]
      rw [Bool.and_eq_false_iff]
      by_cases h3 : x = a
      · refine .inr (beq_eq_false_iff_ne.mpr fun z => h ⟨h3, by omega⟩)
      · exact .inl (beq_eq_false_iff_ne.mpr fun z => h3 (by omega))
theorem aheadIn_nat {P : Prob} {a b : Nat} : aheadIn P (.int a) (.int b) = decide (Con.ahead a b ∈ P.cs) := by
  unfold aheadIn
  rw [List.any_map]
  by_cases h : Con.ahead a b ∈ P.cs
  · rw [decide_eq_true h]
    exact List.any_eq_true.mpr ⟨_, h, by show PyData.eqv _ _ = true; rw [eqv_ahead]; exact decide_eq_true rfl⟩
  · rw [decide_eq_false h]
    refine List.any_eq_false.mpr fun c hc => ?_
    show ¬ PyData.eqv c.D (aheadD (.int a) (.int b)) = true
    rw [eqv_ahead, decide_eq_true_eq]
    intro e
    exact h (e ▸ hc)
theorem path_zip {P : Prob} : ∀ c : List Nat, ((natsD c).zip ((natsD c).drop 1)).all (fun p => aheadIn P p.1 p.2) = true ↔ path P c
  | [] => by simp [natsD, path]
  | [x] => by simp [natsD, path]
  | x :: y :: c => by
    have ih := path_zip (P := P) (y :: c)
    have e : ((natsD (x :: y :: c)).zip ((natsD (x :: y :: c)).drop 1)).all (fun p => aheadIn P p.1 p.2) = (aheadIn P (.int x) (.int y) && ((natsD (y :: c)).zip ((natsD (y :: c)).drop 1)).all (fun p => aheadIn P p.1 p.2)) := rfl
    rw [e, Bool.and_eq_true, ih, aheadIn_nat, decide_eq_true_eq, path_cons]
theorem chain_iff {P : Prob} {c : List Nat} : isChainD P (tupN c) = true ↔ c ≠ [] ∧ (∀ x ∈ c, x < P.n) ∧ path P c := by
  show (!(natsD c).isEmpty && (natsD c).all (isItemD P) && ((natsD c).zip ((natsD c).drop 1)).all fun p => aheadIn P p.1 p.2) = true ↔ _
  rw [Bool.and_eq_true, Bool.and_eq_true, path_zip]
  constructor
  · rintro ⟨⟨h1, h2⟩, h3⟩
    refine ⟨fun e => by subst e; simp [natsD] at h1, fun x hx => ?_, h3⟩
    have := List.all_eq_true.mp h2 (.int x) (List.mem_map.mpr ⟨x, hx, rfl⟩)
    rw [isItemD_nat, decide_eq_true_eq] at this
    exact this
  · rintro ⟨h1, h2, h3⟩
    refine ⟨⟨?_, natsD_items h2⟩, h3⟩
    cases c with
    | nil => exact absurd rfl h1
    | cons x c => rfl
theorem chain_shape {P : Prob} {d : PyData} (h : isChainD P d = true) : ∃ x c, d = tupN (x :: c) ∧ (∀ y ∈ x :: c, y < P.n) ∧ path P (x :: c) := by
  cases d with
  | tuple ds =>
    have h0 : (!ds.isEmpty && ds.all (isItemD P) && (ds.zip (ds.drop 1)).all fun p => aheadIn P p.1 p.2) = true := h
    rw [Bool.and_eq_true, Bool.and_eq_true] at h0
    obtain ⟨c, rfl, hc⟩ := items_shape h0.1.2
    obtain ⟨h1, h2, h3⟩ := chain_iff.mp h
    cases c with
    | nil => exact absurd rfl h1
    | cons x c => exact ⟨x, c, rfl, h2, h3⟩
  | _ => cases h
theorem natsD_last {x : Nat} : ∀ c : List Nat, (natsD (x :: c)).getLastD .none = .int ((x :: c).getLast (by simp) : Nat)
  | c => by
    rw [List.getLastD_eq_getLast?]
    unfold natsD
    rw [List.getLast?_map, List.getLast?_eq_some_getLast (by simp)]
    rfl
theorem eqv_int {i j : Int} : PyData.eqv (.int i) (.int j) = decide (i = j) := by
  simp only [PyData.eqv]
  by_cases h : i = j
  · simp [h]
  · rw [decide_eq_false h]; exact beq_eq_false_iff_ne.mpr h
theorem low_right {P : Prob} {r : List Nat} (hg : good P r = true) {k : Nat} {low : Int} {d : PyData} (h : showsLowD P (.int k) low d = true) : low ≤ (r.idxOf k : Int) + 1 := by
  cases d with
  | tuple ds =>
    have h0 : (isChainD P (.tuple ds) && (PyData.eqv (ds.getLastD .none) (.int k) && decide (low ≤ (gl P (natOf (ds.headD .none)) : Int) + ds.length - 1))) = true := h
    rw [Bool.and_eq_true, Bool.and_eq_true, decide_eq_true_eq] at h0
    obtain ⟨h1, h2, h3⟩ := h0
    obtain ⟨x, c, e, hl, hp⟩ := chain_shape h1
    injection e with e
    subst e
    rw [natsD_last, eqv_int, decide_eq_true_eq] at h2
    have h4 := path_place hg c x hp
    have h5 := place_gl hg x
    have e1 : natOf ((natsD (x :: c)).headD .none) = x := by show natOf (.int (x : Int)) = x; simp [natOf]
    have e2 : (natsD (x :: c)).length = c.length + 1 := by simp [natsD]
    rw [e1, e2] at h3
    have h6 : (x :: c).getLast (by simp) = k := by omega
    rw [h6] at h4
    omega
  | _ => cases h
theorem high_right {P : Prob} {r : List Nat} (hr : IsRk P.n r) (hg : good P r = true) {k : Nat} {high : Int} {d : PyData} (h : showsHighD P (.int k) high d = true) : (r.idxOf k : Int) + 1 ≤ high := by
  cases d with
  | tuple ds =>
    have h0 : (isChainD P (.tuple ds) && (PyData.eqv (ds.headD .none) (.int k) && decide ((gh P (natOf (ds.getLastD .none)) : Int) - ds.length + 1 ≤ high))) = true := h
    rw [Bool.and_eq_true, Bool.and_eq_true, decide_eq_true_eq] at h0
    obtain ⟨h1, h2, h3⟩ := h0
    obtain ⟨x, c, e, hl, hp⟩ := chain_shape h1
    injection e with e
    subst e
    have h2' : PyData.eqv (.int (x : Int)) (.int (k : Int)) = true := h2
    rw [eqv_int, decide_eq_true_eq] at h2'
    have h4 := path_place hg c x hp
    rw [natsD_last] at h3
    have e1 : natOf (.int (((x :: c).getLast (by simp) : Nat) : Int)) = (x :: c).getLast (by simp) := by simp [natOf]
    have e2 : (natsD (x :: c)).length = c.length + 1 := by simp [natsD]
    rw [e1, e2] at h3
    have h5 := place_gh hr hg (hl _ (List.getLast_mem (l := x :: c) (by simp)))
    have h6 : x = k := by omega
    rw [h6] at h4
    subst h6
    omega
  | _ => cases h
theorem row_shape {P : Prob} {low high : Int} {d : PyData} (h : isRowD P low high d = true) : ∃ (k : Nat) (b c : PyData), d = .tuple [.int k, b, c] ∧ k < P.n ∧ showsLowD P (.int k) low b = true ∧ showsHighD P (.int k) high c = true := by
  unfold isRowD at h
  split at h
  · rename_i a b c
    rw [Bool.and_eq_true, Bool.and_eq_true] at h
    obtain ⟨k, rfl, hk⟩ := item_shape h.1
    exact ⟨k, b, c, rfl, hk, h.2.1, h.2.2⟩
  · cases h
theorem asc_nodup {ks : List Int} (h : ascB ks = true) : ks.Pairwise (· < ·) := by
  have step : ∀ k, k + 1 < ks.length → ks.getD k 0 < ks.getD (k + 1) 0 := fun k hk =>
    of_decide_eq_true (List.all_eq_true.mp h k (List.mem_range.mpr (by omega)))
  have all : ∀ d k, k + d + 1 < ks.length → ks.getD k 0 < ks.getD (k + d + 1) 0 := by
    intro d
    induction d with
    | zero => intro k hk; exact step k hk
    | succ d ih =>
      intro k hk
      have h1 := ih k (by omega)
      have h2 := step (k + d + 1) (by omega)
      have e : k + (d + 1) + 1 = k + d + 1 + 1 := by omega
      rw [e]
      omega
  rw [List.pairwise_iff_getElem]
  intro i j hi hj hij
  have := all (j - i - 1) i (by omega)
  have e : i + (j - i - 1) + 1 = j := by omega
  rw [e, List.getD_eq_getElem?_getD, List.getD_eq_getElem?_getD, List.getElem?_eq_getElem hi, List.getElem?_eq_getElem hj] at this
  exact this
/-- THE JUDGE IS RIGHT -/
theorem contr_sound {P : Prob} {d : PyData} (h : isContrD P d = true) : ¬ Feas P := by
  rintro ⟨r, hr, hg⟩
  unfold isContrD at h
  split at h
  · rename_i z rest
    by_cases h1 : z = "cycle"
    · rw [if_pos h1] at h
      unfold cycArm at h
      split at h
      · rename_i c
        rw [Bool.and_eq_true, Bool.and_eq_true, decide_eq_true_eq] at h
        obtain ⟨⟨h2, h3⟩, h4⟩ := h
        obtain ⟨x, c', e, hl, hp⟩ := chain_shape h2
        injection e with e
        subst e
        rw [natsD_last] at h4
        have h4' : PyData.eqv (.int (x : Int)) (.int (((x :: c').getLast (by simp) : Nat) : Int)) = true := h4
        rw [eqv_int, decide_eq_true_eq] at h4'
        have h5 := path_place hg c' x hp
        have e2 : (natsD (x :: c')).length = c'.length + 1 := by simp [natsD]
        rw [e2] at h3
        have h6 : (x :: c').getLast (by simp) = x := by omega
        rw [h6] at h5
        omega
      · cases h
    · rw [if_neg h1] at h
      by_cases h2 : z = "overfull"
      · rw [if_pos h2] at h
        unfold overArm at h
        split at h
        · rename_i lo hi rows
          unfold isOverD at h
          rw [Bool.and_eq_true, Bool.and_eq_true] at h
          obtain ⟨⟨h3, h4⟩, h5⟩ := h
          split at h5
          · rename_i rs
            rw [Bool.and_eq_true, Bool.and_eq_true, decide_eq_true_eq] at h5
            obtain ⟨⟨h6, h7⟩, h8⟩ := h5
            have hrow : ∀ d ∈ rs, ∃ k : Nat, key0 d = k ∧ k < P.n ∧ intOf lo ≤ (r.idxOf k : Int) + 1 ∧ (r.idxOf k : Int) + 1 ≤ intOf hi := fun d hd => by
              obtain ⟨k, b, c, rfl, hk, hb, hc⟩ := row_shape (List.all_eq_true.mp h6 d hd)
              exact ⟨k, rfl, hk, low_right hg hb, high_right hr hg hc⟩
            have h9 := asc_nodup h7
            -- the places of the rows' items
            have h10 : (rs.map fun d => r.idxOf (key0 d).toNat + 1).Nodup := by
              have nd : (rs.map key0).Nodup := h9.imp fun {a b} h => by omega
              have e : (rs.map fun d => r.idxOf (key0 d).toNat + 1) = (rs.map key0).map fun k => r.idxOf k.toNat + 1 := by rw [List.map_map]; rfl
              rw [e]
              refine nodup_map_of nd fun a ha b hb e => ?_
              obtain ⟨da, hda, rfl⟩ := List.mem_map.mp ha
              obtain ⟨db, hdb, rfl⟩ := List.mem_map.mp hb
              obtain ⟨ka, ea, hka, _⟩ := hrow da hda
              obtain ⟨kb, eb, hkb, _⟩ := hrow db hdb
              rw [ea, eb] at e ⊢
              have := idx_inj (hr.mem hka) (hr.mem hkb) (by simpa using e)
              rw [this]
            have h11 := count_between (lo := intOf lo) (hi := intOf hi) h10 fun z hz => by
              obtain ⟨d, hd, rfl⟩ := List.mem_map.mp hz
              obtain ⟨k, ek, _, hk1, hk2⟩ := hrow d hd
              rw [ek]
              simp only [Int.toNat_natCast]
              omega
            rw [List.length_map] at h11
            unfold placesOf at h8
            omega
          · cases h5
        · cases h
      · rw [if_neg h2] at h
        cases h
  · cases h

/-! ### the told ones pass -/
structure LowCh (P : Prob) (i : Nat) (c : List Nat) : Prop where
  pa : path P c
  lt : ∀ x ∈ c, x < P.n
  ne : c ≠ []
  la : c.getLastD 0 = i
  su : (gl P (c.headD 0) : Int) + c.length - 1 = Et P i
structure UpCh (P : Prob) (i : Nat) (c : List Nat) : Prop where
  pa : path P c
  lt : ∀ x ∈ c, x < P.n
  ne : c ≠ []
  hd : c.headD 0 = i
  su : (gh P (c.getLastD 0) : Int) - c.length + 1 = Lt P i
theorem natsD_lastD {c : List Nat} (h : c ≠ []) : (natsD c).getLastD .none = .int (c.getLastD 0 : Nat) := by
  unfold natsD
  rw [List.getLastD_eq_getLast?, List.getLast?_map, List.getLastD_eq_getLast?, List.getLast?_eq_some_getLast h]
  rfl
theorem natsD_headD {c : List Nat} (h : c ≠ []) : (natsD c).headD .none = .int (c.headD 0 : Nat) := by
  cases c with
  | nil => exact absurd rfl h
  | cons x c => rfl
theorem natsD_len {c : List Nat} : (natsD c).length = c.length := by simp [natsD]
theorem LowCh.shows {P : Prob} {i : Nat} {c : List Nat} (h : LowCh P i c) {low : Int} (hl : low ≤ Et P i) : showsLowD P (.int i) low (tupN c) = true := by
  show (isChainD P (tupN c) && (PyData.eqv ((natsD c).getLastD .none) (.int i) && decide (low ≤ (gl P (natOf ((natsD c).headD .none)) : Int) + (natsD c).length - 1))) = true
  rw [Bool.and_eq_true, Bool.and_eq_true, chain_iff, natsD_lastD h.ne, natsD_headD h.ne, natsD_len, eqv_int, decide_eq_true_eq, decide_eq_true_eq, h.la]
  refine ⟨⟨h.ne, h.lt, h.pa⟩, rfl, ?_⟩
  have := h.su
  simp only [natOf, Int.toNat_natCast]
  omega
theorem UpCh.shows {P : Prob} {i : Nat} {c : List Nat} (h : UpCh P i c) {high : Int} (hl : Lt P i ≤ high) : showsHighD P (.int i) high (tupN c) = true := by
  show (isChainD P (tupN c) && (PyData.eqv ((natsD c).headD .none) (.int i) && decide ((gh P (natOf ((natsD c).getLastD .none)) : Int) - (natsD c).length + 1 ≤ high))) = true
  rw [Bool.and_eq_true, Bool.and_eq_true, chain_iff, natsD_lastD h.ne, natsD_headD h.ne, natsD_len, eqv_int, decide_eq_true_eq, decide_eq_true_eq, h.hd]
  refine ⟨⟨h.ne, h.lt, h.pa⟩, rfl, ?_⟩
  have := h.su
  simp only [natOf, Int.toNat_natCast]
  omega
theorem cycle_passes {P : Prob} {c : List Nat} (hp : path P c) (hl : ∀ x ∈ c, x < P.n) (h1 : 1 < c.length) (h2 : c.headD 0 = c.getLastD 0) : isContrD P (.tuple [.str "cycle", tupN c]) = true := by
  have hne : c ≠ [] := fun e => by subst e; simp at h1
  rw [contr_cyc]
  show (isChainD P (tupN c) && decide (1 < (natsD c).length) && PyData.eqv ((natsD c).headD .none) ((natsD c).getLastD .none)) = true
  rw [Bool.and_eq_true, Bool.and_eq_true, chain_iff, natsD_len, natsD_lastD hne, natsD_headD hne, eqv_int, decide_eq_true_eq, decide_eq_true_eq, h2]
  exact ⟨⟨⟨hne, hl, hp⟩, h1⟩, rfl⟩
def rowD (i : Nat) (lc uc : List Nat) : PyData := .tuple [.int i, tupN lc, tupN uc]
theorem ascB_of : ∀ {ks : List Int}, ks.Pairwise (· < ·) → ascB ks = true := fun {ks} h => by
  refine List.all_eq_true.mpr fun k hk => decide_eq_true ?_
  have hk' := List.mem_range.mp hk
  rw [List.pairwise_iff_getElem] at h
  have := h k (k + 1) (by omega) (by omega) (by omega)
  rw [List.getD_eq_getElem?_getD, List.getD_eq_getElem?_getD, List.getElem?_eq_getElem (by omega : k < ks.length), List.getElem?_eq_getElem (by omega : k + 1 < ks.length)]
  exact this
theorem over_passes {P : Prob} (ok : P.Ok) {lo hi : Int} {rows : List PyData} (h1 : 1 ≤ lo) (h2 : lo ≤ P.n + 1) (h3 : 0 ≤ hi) (h4 : hi ≤ P.n)
    (hl : rows.length = (due P (Et P) (Lt P) lo hi).length) (hr : ∀ (k : Nat) (i : Nat), (due P (Et P) (Lt P) lo hi)[k]? = some i → ∃ lc uc, rows[k]? = some (rowD i lc uc) ∧ LowCh P i lc ∧ UpCh P i uc)
    (ho : placesOf lo hi < (due P (Et P) (Lt P) lo hi).length) : isContrD P (.tuple [.str "overfull", .int lo, .int hi, .tuple rows]) = true := by
  have n7 := ok.n7
  rw [contr_over]
  show isOverD P (.int lo) (.int hi) (.tuple rows) = true
  unfold isOverD isWholeD
  simp only [intOf]
  rw [Bool.and_eq_true, Bool.and_eq_true, Bool.and_eq_true, Bool.and_eq_true, Bool.and_eq_true, Bool.and_eq_true]
  simp only [decide_eq_true_eq]
  have hkeys : rows.map key0 = (due P (Et P) (Lt P) lo hi).map fun i : Nat => (i : Int) := by
    apply List.ext_getElem?
    intro k
    rw [List.getElem?_map, List.getElem?_map]
    cases e : (due P (Et P) (Lt P) lo hi)[k]? with
    | none =>
      have : rows.length ≤ k := by rw [hl]; exact List.getElem?_eq_none_iff.mp e
      rw [List.getElem?_eq_none_iff.mpr this]
      rfl
    | some i =>
      obtain ⟨lc, uc, e2, _⟩ := hr k i e
      rw [e2]
      rfl
  refine ⟨⟨⟨by omega, by omega⟩, by omega, by omega⟩, ⟨List.all_eq_true.mpr fun d hd => ?_, ?_⟩, by rw [hl]; exact decide_eq_true ho⟩
  · obtain ⟨k, hk⟩ := List.mem_iff_getElem?.mp hd
    have hkl : k < (due P (Et P) (Lt P) lo hi).length := by rw [← hl]; exact (List.getElem?_eq_some_iff.mp hk).1
    obtain ⟨lc, uc, e2, hlc, huc⟩ := hr k _ (List.getElem?_eq_getElem hkl)
    rw [hk] at e2
    have e3 := Option.some.inj e2
    subst e3
    obtain ⟨g1, g2, g3⟩ := mem_due.mp (List.getElem_mem hkl)
    show (isItemD P (.int _) && (showsLowD P (.int _) lo (tupN lc) && showsHighD P (.int _) hi (tupN uc))) = true
    rw [Bool.and_eq_true, Bool.and_eq_true, isItemD_nat, decide_eq_true_eq]
    exact ⟨g1, hlc.shows g2, huc.shows g3⟩
  · rw [hkeys]
    refine ascB_of ?_
    rw [List.pairwise_map]
    have : (due P (Et P) (Lt P) lo hi).Pairwise (· < ·) := List.pairwise_lt_range.sublist List.filter_sublist
    exact this.imp fun {a b} h => by omega
end R60

end -- M2
section -- D0
set_option Elab.async false
set_option linter.all false
set_option maxRecDepth 100000
set_option maxHeartbeats 4000000
/-! Tuples that are known to have no dict of their own (tracked as .frz o (.tup ..), o.dict = none), so that their methods may be called; the rules that make tuples, told so. -/
namespace PySem
open Sem (wp)
open AutoSeq1 (wpAny_loadPart')
/-- enumerate's making, over a tuple -/
theorem enumNewT (l : Addr) (items : Array Value) :
    Meets (Builtin.«enumerate.__new__» ⟨[.type "enumerate", .ref l], []⟩) (fun _ R s => s.heap.IsTuple l items ∧
      R (.ok (.ret (.ref (s.heap.push { cls := .type "tuple_iterator", data := .fields #[.ref l, .int 0 0] }).objs.size)))
        { s with heap := (s.heap.push { cls := .type "tuple_iterator", data := .fields #[.ref l, .int 0 0] }).push { cls := .type "enumerate", data := .fields #[.none, .bool false, .ref s.heap.objs.size, rawInt 0, .none, .none] } }) :=
  .of_wp fun prog w A R s h => by
    obtain ⟨hp, g, d, tk, os⟩ := s; obtain ⟨hl, h⟩ := h
    have subE := sub_enumerate
    have hT : Heap.IsTuple (Shared.heap ⟨hp, g, d, tk, os⟩) l items := hl
    wp_walk
    refine wpAny_stack_any fun st => wpAny_pure ?_
    split
    · rename_i c _ _ _ _ _
      cases (c == Value.type "enumerate") <;> (wp_walk using wpAny_pyIter_tuple hT; exact ⟨_, rfl, h⟩)
    · wp_walk using wpAny_pyIter_tuple hT
      exact ⟨_, rfl, h⟩
section
variable {prog : Program} {w : World} {A : Around} {E : Value → Shared → Prop} {s : Shared}
theorem enumCallT {l : Addr} {items : Array Value} {Q : Value → Shared → Prop} (hT : s.heap.IsTuple l items)
    (h : ∀ h', IsEnum h' (s.heap.objs.size + 1) s.heap.objs.size 0 .none → h'.IsTupleIter s.heap.objs.size l 0 → h'.objs.size = s.heap.objs.size + 2 →
      (∀ b o, s.heap.get? b = some o → h'.get? b = some o) → Q (.ref (s.heap.objs.size + 1)) { s with heap := h' }) :
    wpAny (model prog w) A (call (.type "enumerate") [.ref l]) Q E s := by
  refine callType_new F.called_enumerate (by decide) (F.typeCall_enumerate_1 _) (F.newCall_enumerate_1 _) (fun obj => F.args_object_init_2 obj _) F.entry_enumerate_new (enumNewT l items) ⟨hT, ?_⟩
  generalize ho : ({ cls := .type "tuple_iterator", data := .fields #[.ref l, .int 0 0] } : Obj) = ob
  have hfree : ob.isFreed = false := by rw [← ho]; rfl
  have hz : (s.heap.push ob).objs.size = s.heap.objs.size + 1 := Heap.size_push ..
  show _ ∧ _
  rw [hz]
  have he : IsEnum ((s.heap.push ob).push { cls := .type "enumerate", data := .fields #[.none, .bool false, .ref s.heap.objs.size, rawInt 0, .none, .none] }) (s.heap.objs.size + 1) s.heap.objs.size 0 .none := by
    have := Heap.get?_push_size (s.heap.push ob) (o := { cls := .type "enumerate", data := .fields #[.none, .bool false, .ref s.heap.objs.size, rawInt 0, .none, .none] }) rfl
    rw [hz] at this; exact this
  refine ⟨⟨_, he, rfl⟩, h _ he ⟨ob, Heap.get?_push_of_some _ (Heap.get?_push_size _ hfree), by rw [← ho], by rw [← ho]; rfl⟩ (by rw [Heap.size_push, hz]) fun b o x => Heap.get?_push_of_some _ (Heap.get?_push_of_some _ x)⟩
end
end PySem
namespace R60
open PySem PySem.Spec PyProof.Rows L2 RZ
open Evl (Ex)
/-- at a: a tuple of xs that has no dict -/
def TupAt (H : Hp) (a : Addr) (xs : List V) : Prop := ∃ o : Obj, H a = some (.frz o (.tup xs)) ∧ o.dict = none
theorem TupAt.up {H H' : Hp} {a : Addr} {xs : List V} (h : TupAt H a xs) (e : Ex H H') : TupAt H' a xs := let ⟨o, h1, h2⟩ := h; ⟨o, e _ _ h1, h2⟩
theorem TupAt.sq {K : PySem.W.Frag} {H : Hp} {a : Addr} {xs : List V} (h : TupAt H a xs) : SqT K H a xs := let ⟨o, h1, _⟩ := h; .inl (.inr ⟨o, h1⟩)
/-- what is asked of a new tuple -/
def NewT (H : Hp) (xs : List V) (Q : VK) : Prop := ∀ (p : Addr) (o : Obj), H p = none → o.dict = none → Q (.ref p) (upd H p (.frz o (.tup xs)))
section
variable {X : Cx} {pins : List (Addr × Obj)} {σ : L2.St} {H : Hp} {s : Shared}
theorem laidT {its : List Value} {xs : List V} {tk : Nat} {Q : VK} (I : Inv X pins σ H s) (r : Vals xs its) (hz : xs.length ≤ sizeLine) (q : NewT H xs Q) :
    EP X pins σ Q (.ref s.heap.objs.size) { s with heap := s.heap.push { cls := .type "tuple", data := .seq its.toArray }, toks := tk } := by
  have hg : (s.heap.push { cls := .type "tuple", data := .seq its.toArray }).get? s.heap.objs.size = some { cls := .type "tuple", data := .seq its.toArray } := Heap.get?_push_size _ rfl
  exact ⟨.ref s.heap.objs.size, _, I.laid (t' := tk) (o := .frz { cls := .type "tuple", data := .seq its.toArray } (.tup xs)) (fun b ob q => Heap.get?_push_of_some _ q) (Nat.le_refl _) ⟨hg, hz, its, r, IsTup.new _ _⟩, rfl, q _ _ (I.hok.fresh (Nat.le_refl _)) rfl⟩
/-- (a, b, ..) -/
def fTup (t : TA) : TE := fun σ H Q => t σ H fun xs H1 => xs.length ≤ sizeLine ∧ NewT H1 xs Q
theorem pf_tup {es : List Expr} {t : TA} {x1 : Nat} {pos : Pos} (h : PA X es t) : PE X (.Tuple es x1 pos) (fTup t) := by
  refine ⟨fun pins s σ H Q I hq => ?_⟩
  exact wpAny_Tuple_spliced (thn (h.run pos pins s σ H _ I hq) fun us s1 ⟨xs, H1, I1, r, z, q⟩ => ⟨by rw [← r.length]; exact z, laidT (tk := s1.toks) I1 r z q⟩)
/-- t + u -/
def fCat (K : PySem.W.Frag) : R2 := fun x y H Q => ∃ a b xs ys, x = .ref a ∧ y = .ref b ∧ SqT K H a xs ∧ SqT K H b ys ∧ xs.length + ys.length ≤ sizeLine ∧
  (xs = [] → Q (.ref b) H) ∧ (xs ≠ [] → ys = [] → Q (.ref a) H) ∧ (xs ≠ [] → ys ≠ [] → NewT H (xs ++ ys) Q)
theorem of_cat : OpR X (binaryOp .Add) (fCat X.K) := by
  intro pins s σ H x y v u Q I rx ry h
  obtain ⟨a, b, xs, ys, rfl, rfl, ha, hb, hz, q0, q1, q2⟩ := h
  cases rx
  cases ry
  obtain ⟨its, r1, p1, _⟩ := I.tuple ha
  obtain ⟨its2, r2, p2, _⟩ := I.tuple hb
  by_cases hx : xs = []
  · subst hx
    cases r1
    exact cat_tup0 p1 p2 ⟨.ref b, H, I, rfl, q0 rfl⟩
  · exact HT.cat_tup p1 p2 (fun z => hx (r1.nil_iff.mp z)) (fun z => ⟨.ref a, H, I, rfl, q1 hx (r2.nil_iff.mp z)⟩)
      (fun z => laidT (tk := s.toks) I (r1.append r2) (by rw [List.length_append]; exact hz) (q2 hx fun w => z (r2.nil_iff.mpr w))) (by rw [← r1.length, ← r2.length]; exact hz)
/-- t[lo:hi] -/
def fSl (K : PySem.W.Frag) : V → Option Int → Option Int → Hp → VK → Prop := fun x lo hi H Q => ∃ a xs, x = .ref a ∧ SqT K H a xs ∧
  (HT.sIx xs.length 0 lo = 0 ∧ HT.sIx xs.length xs.length hi = xs.length → Q (.ref a) H) ∧ (¬ (HT.sIx xs.length 0 lo = 0 ∧ HT.sIx xs.length xs.length hi = xs.length) → NewT H (cutV xs lo hi) Q)
theorem sf_tup : SlR X (fSl X.K) := by
  intro pins s σ H x v vl vu lo hi sl Q I rx hs pl pu h
  obtain ⟨a, xs, rfl, hx, q1, q2⟩ := h
  cases rx
  obtain ⟨its, r, ht, hz⟩ := I.tuple hx
  have hlen : its.toArray.size = xs.length := by rw [List.size_toArray]; exact r.length.symm
  refine ⟨"tuple", _, PyProof.Rows.slot_tuple_getitem.lookup, ht.typeIs, ?_⟩
  by_cases hw : HT.sIx xs.length 0 lo = 0 ∧ HT.sIx xs.length xs.length hi = xs.length
  · exact getItem_tuple_whole ht hs pl pu (by rw [hlen]; exact hw) ⟨.ref a, H, I, rfl, q1 hw⟩
  · refine HT.getItem_tuple_cut ht hs pl pu (by rw [hlen]; exact hw) ?_ (by rw [hlen]; exact hz)
    rw [hlen]
    exact laidT (tk := s.toks) I ((r.drop (HT.sIx xs.length 0 lo)).take (HT.sIx xs.length xs.length hi - HT.sIx xs.length 0 lo)) (Nat.le_trans (cutV_length xs lo hi) hz) (q2 hw)
/-- tuple(list) -/
def fTupOf (K : PySem.W.Frag) (ta : TE) : TE := fun σ H Q => ta σ H fun x H1 => ∃ p xs, x = .ref p ∧ SqL K H1 p xs ∧ NewT H1 xs Q
theorem pf_tupleOf {a : Expr} {ta : TE} {p pos : Pos} (hg : Gl X "tuple") (hm : X.mg "tuple" = none) (ha : PE X a ta) (na : starEach [a] X.env = (false, eval a X.env) :: starEach [] X.env := by rfl) :
    PE X (.Call (.Name "tuple" p) [a] [] pos) (fTupOf X.K ta) := by
  refine ⟨fun pins s σ H Q I h => ?_⟩
  refine Call_ (ld_blt I hg hm boot_tuple (PyProof.Rows.callWith_type1 (one_arg ha I h (fun v s2 x H2 I2 r q => ?_) na) na))
  obtain ⟨p, xs, rfl, hs, q⟩ := q
  obtain rfl : v = .ref p := r
  obtain ⟨its, rv, pl, hz⟩ := I2.list hs
  refine call_tuple_list pl.isList (fun h' hk => ?_) (by rw [List.size_toArray, ← rv.length]; exact hz)
  exact laidT (tk := s2.toks) (I2.kept (t' := s2.toks) hk) rv hz q
/-- tuple(range(..)) -/
def fTupRg (te : L2.St → Hp → (Int → Int → Hp → Prop) → Prop) : TE := fun σ H Q => te σ H fun a b H1 => RgOk a b ∧ NewT H1 (rgV a b) Q
theorem pf_tupRg {e : Expr} {te : L2.St → Hp → (Int → Int → Hp → Prop) → Prop} {p pos : Pos} (hc : X.calm = true) (hg : Gl X "tuple") (hm : X.mg "tuple" = none) (he : PRg X e te) (na : starEach [e] X.env = (false, eval e X.env) :: starEach [] X.env := by rfl) : PE X (.Call (.Name "tuple" p) [e] [] pos) (fTupRg te) := by
  refine ⟨fun pins s σ H Q I h => ?_⟩
  refine Call_ (ld_blt I hg hm boot_tuple (PyProof.Rows.callWith_type1 (args_cons (thn (he pins s σ H _ I h) fun x s1 ⟨r, a, b, t, u, v, H1, ex, hr, I1, ok, q⟩ => args_nil ?_) na) na))
  subst ex
  obtain ⟨b1, b2, b3, b4, b5⟩ := ok
  refine call_tuple_range (n := (b - a).toNat) (I1.ok.hd hc) hr (small_one b1 b2 b3 b4) (rangeSize_nat a b) b5 fun h' tk acc hk hi => ?_
  have I2 : Inv X pins σ H1 { s1 with heap := h', toks := tk } := I1.kept hk
  have := laidT (tk := tk) I2 (vals_rg hi) (by rw [rgV_length, sizeLine_eq]; omega) q
  rwa [Array.toArray_toList] at this
/-- t * k -/
def fRep (K : PySem.W.Frag) : R2 := fun x y H Q => ∃ l k xs, x = .ref l ∧ y = .int k ∧ SqT K H l xs ∧ xs ≠ [] ∧ 1 ≤ k ∧ k ≤ 1000 ∧ xs.length ≤ 1000 ∧ (k = 1 → Q (.ref l) H) ∧ (k ≠ 1 → NewT H (List.replicate k.toNat xs).flatten Q)
/-- t * 1 is t -/
theorem tuple_mul1 (l : Addr) (items : Array Value) (n : Nat) (dd : Option Addr) (sl : Array (Option Value)) (u : Tok) :
    Meets (Builtin.«tuple.__mul__» ⟨[.ref l, .int 1 u], []⟩) (fun _ R s => s.heap.get? l = some { cls := .type "tuple", dict := dd, data := .seq items n, slots := sl } ∧ R (.ok (.ret (Value.ref l))) s) :=
  .of_wp fun prog w A R s h => by
    obtain ⟨hp, g, d, tk, os⟩ := s
    obtain ⟨hl, h⟩ := h
    have c0 : (decide ((1 : Int) < -(2 ^ 63)) || decide ((1 : Int) ≥ 2 ^ 63)) = false := by decide
    have c1 : (items.isEmpty || (1 : Int) == 1) = true := by simp
    have f1 := AutoSeq1.idx_int
    wp_walk using AutoSeq1.wpAny_loadPart' hl
    repeat (first
      | (refine wpAny_ite_false (decide_eq_false (by rw [c0]; exact Bool.false_ne_true)) ?_; wp_walk using AutoSeq1.wpAny_loadPart' hl)
      | (refine wpAny_ite_true (decide_eq_true c1) ?_; wp_walk using AutoSeq1.wpAny_loadPart' hl))
    exact ⟨_, rfl, h⟩
theorem of_rep : OpR X (binaryOp .Mult) (fRep X.K) := by
  intro pins s σ H x y v u Q I rx ry h
  obtain ⟨l, k, xs, rfl, rfl, hT, hne, h1, h2, hz, q1, q2⟩ := h
  cases rx
  obtain ⟨t, rfl⟩ := ry
  obtain ⟨its, r, ⟨⟨cls, dd, data, sl⟩, ho, hc, n, hd⟩, hs⟩ := I.tuple hT
  simp only at hc hd
  subst hc hd
  have hle : its.length = xs.length := r.length.symm
  have hi : its.toArray.isEmpty = false := by
    cases its with
    | nil => exact absurd (List.eq_nil_of_length_eq_zero hle.symm) hne
    | cons a b => rfl
  by_cases hk : k = 1
  · subst hk
    exact wpAny_binaryOp_repeat_ref (T := "tuple") (U := "int") (by decide) ⟨_, ho, rfl⟩ (fun s' => typeIs_int s' 1 t) noFill_tuple_mul F.fills_int_mul F.slot_int_rmul repeat_tuple F.slot_int_index.lookup
      (call_meets F.slot_int_rmul (typeIs_int s 1 t) F.entry_int_rmul (F.args_int_rmul_2 _ _) (int_rmul_tuple 1 t l its.toArray n dd sl)
        ⟨ho, rfl, ⟨_, ho, rfl⟩, call_meets F.slot_tuple_mul ⟨_, ho, rfl⟩ F.entry_tuple_mul (F.args_tuple_mul_2 _ _) (tuple_mul1 l its.toArray n dd sl t) ⟨ho, ⟨.ref l, H, I, rfl, q1 rfl⟩⟩⟩)
  · have hsz0 : its.toArray.size = xs.length := by rw [List.size_toArray, hle]
    have hm : ((its.toArray.size : Nat) : Int) * k ≤ 1000000 := by
      rw [hsz0]
      have a1 : ((xs.length : Nat) : Int) * k ≤ 1000 * k := Int.mul_le_mul_of_nonneg_right (by omega) (by omega)
      omega
    have hfl : (List.replicate k.toNat its).flatten.length ≤ 1000000 := by
      rw [PyProof.Rows.lm_len_rep_flat, hle]
      have a1 : k.toNat * xs.length ≤ 1000 * 1000 := Nat.mul_le_mul (by omega) hz
      omega
    have flen : (List.replicate k.toNat its).flatten.length ≤ sizeLine := by rw [sizeLine_eq]; omega
    have c0 : (decide (k < -(2 ^ 63)) || decide (k ≥ 2 ^ 63)) = false := by
      rw [decide_eq_false (by omega), decide_eq_false (by omega)] <;> rfl
    have c1 : (its.toArray.isEmpty || k == 1) = false := by
      rw [hi, Bool.false_or]
      exact beq_eq_false_iff_ne.mpr hk
    have c2 : (decide (k ≤ 0) || its.toArray.isEmpty) = false := by
      rw [hi, Bool.or_false]
      exact decide_eq_false (by omega)
    have c4 : Builtin.Tuple.tupleTooMany (((its.toArray.size : Nat) : Int) * k) = false := by
      unfold Builtin.Tuple.tupleTooMany
      rw [sizeLine_eq]
      exact decide_eq_false (by omega)
    refine wpAny_binaryOp_repeat_ref (T := "tuple") (U := "int") (by decide) ⟨_, ho, rfl⟩ (fun s' => typeIs_int s' k t) noFill_tuple_mul F.fills_int_mul F.slot_int_rmul repeat_tuple F.slot_int_index.lookup
      (call_meets F.slot_int_rmul (typeIs_int s k t) F.entry_int_rmul (F.args_int_rmul_2 _ _) (int_rmul_tuple k t l its.toArray n dd sl)
        ⟨ho, rfl, ⟨_, ho, rfl⟩, call_meets F.slot_tuple_mul ⟨_, ho, rfl⟩ F.entry_tuple_mul (F.args_tuple_mul_2 _ _) (tuple_mulW l its.toArray n dd sl k t c0 c1 c2 (by omega) c4 (by rw [size_rep, List.size_toArray]; exact flen)) ⟨ho, ?_⟩⟩)
    rw [size_rep]
    refine laidT (tk := s.toks) I (r.rep k.toNat) ?_ (q2 hk)
    have := (r.rep k.toNat).length
    rw [this]
    exact flen
end
theorem fm_congr {α β : Type} {f g : α → Option β} : ∀ {l : List α}, (∀ x ∈ l, f x = g x) → l.filterMap f = l.filterMap g
  | [], _ => rfl
  | a :: l, h => by
    rw [List.filterMap_cons, List.filterMap_cons, h a List.mem_cons_self, fm_congr fun x hx => h x (List.mem_cons_of_mem _ hx)]
end R60

end -- D0
section -- D1
set_option Elab.async false
set_option linter.all false
set_option maxRecDepth 100000
set_option maxHeartbeats 4000000
/-! The data layer: values that stand for data, the heap without the cells that change, what expressions are worth over data, what statements do. -/
namespace R60
open PySem PySem.Spec PyProof.Rows L2 RZ
open Evl (Ex)

/-! ### the heap without some cells -/
def hide (M : List Addr) (H : Hp) : Hp := fun a => if a ∈ M then none else H a
theorem hide_ex {M : List Addr} {H : Hp} : Ex (hide M H) H := fun a o h => by
  unfold hide at h
  by_cases c : a ∈ M
  · rw [if_pos c] at h; cases h
  · rw [if_neg c] at h; exact h
theorem hide_out {M : List Addr} {H : Hp} {a : Addr} (h : a ∉ M) : hide M H a = H a := if_neg h
theorem hide_in {M : List Addr} {H : Hp} {a : Addr} (h : a ∈ M) : hide M H a = none := if_pos h
theorem hide_mono {M : List Addr} {H H' : Hp} (e : Ex H H') : Ex (hide M H) (hide M H') := fun a o h => by
  by_cases c : a ∈ M
  · rw [hide_in c] at h; cases h
  · rw [hide_out c] at h ⊢; exact e a o h
theorem hide_sub {M N : List Addr} {H : Hp} (h : ∀ a ∈ M, a ∈ N) : Ex (hide N H) (hide M H) := fun a o e => by
  by_cases c : a ∈ N
  · rw [hide_in c] at e; cases e
  · rw [hide_out c] at e
    rw [hide_out fun z => c (h a z)]
    exact e
theorem hide_upd {M : List Addr} {H : Hp} {p : Addr} {o : HO} (h : p ∈ M) : hide M (upd H p o) = hide M H := by
  funext a
  by_cases c : a ∈ M
  · rw [hide_in c, hide_in c]
  · rw [hide_out c, hide_out c, upd_ne fun z => c (by rw [z]; exact h)]
theorem hide_nil {H : Hp} : hide [] H = H := by
  funext a
  exact if_neg (by simp)
/-- what came new is not among them -/
theorem hide_new {M : List Addr} {H H' : Hp} {p : Addr} (e : Ex H H') (h : H p = none) : Ex (hide M H) (hide (p :: M) H') := fun a o q => by
  have ha := hide_ex a o q
  have hne : a ≠ p := ne_of_none ha h
  by_cases c : a ∈ M
  · rw [hide_in c] at q; cases q
  · rw [hide_out (by simp [hne, c])]
    exact e a o ha
def Al (M : List Addr) (H : Hp) : Prop := ∀ m ∈ M, H m ≠ none
theorem Al.up {M : List Addr} {H H' : Hp} (h : Al M H) (e : Ex H H') : Al M H' := fun m hm => by
  cases q : H m with
  | none => exact absurd q (h m hm)
  | some o => rw [e m o q]; simp
theorem Al.ne {M : List Addr} {H : Hp} (h : Al M H) {p : Addr} (hp : H p = none) : p ∉ M := fun z => h p z hp
theorem Al.cons {M : List Addr} {H : Hp} {p : Addr} {o : HO} (h : Al M H) (hp : H p = some o) : Al (p :: M) H := fun m hm => by
  rcases List.mem_cons.mp hm with rfl | hm
  · rw [hp]; simp
  · exact h m hm

/-! ### values that stand for data -/
mutual
inductive Rp (H : Hp) : V → PyData → Prop
  | non : Rp H .non .none
  | bl (b : Bool) : Rp H (.bl b) (.bool b)
  | int (i : Int) : Rp H (.int i) (.int i)
  | str (x : Str) : Rp H (.str x) (.str x)
  | lst {a : Addr} {xs : List V} {ds : List PyData} : H a = some (.lst xs) → RpAll H xs ds → Rp H (.ref a) (.list ds)
  | tup {a : Addr} {xs : List V} {ds : List PyData} : TupAt H a xs → RpAll H xs ds → Rp H (.ref a) (.tuple ds)
inductive RpAll (H : Hp) : List V → List PyData → Prop
  | nil : RpAll H [] []
  | cons {v : V} {vs : List V} {d : PyData} {ds : List PyData} : Rp H v d → RpAll H vs ds → RpAll H (v :: vs) (d :: ds)
end
mutual
theorem Rp.up {H H' : Hp} (e : Ex H H') : ∀ {d : PyData} {v : V}, Rp H v d → Rp H' v d
  | .none, _, .non => .non
  | .bool b, _, .bl _ => .bl b
  | .int i, _, .int _ => .int i
  | .str x, _, .str _ => .str x
  | .list ds, _, .lst h r => .lst (e _ _ h) (RpAll.up e r)
  | .tuple ds, _, .tup h r => .tup (h.up e) (RpAll.up e r)
theorem RpAll.up {H H' : Hp} (e : Ex H H') : ∀ {ds : List PyData} {vs : List V}, RpAll H vs ds → RpAll H' vs ds
  | [], _, .nil => .nil
  | _ :: _, _, .cons r t => .cons (Rp.up e r) (RpAll.up e t)
end
mutual
theorem Rp.dp {K : PySem.W.Frag} {H : Hp} : ∀ {d : PyData} {v : V}, Rp H v d → Dp K H v d
  | .none, _, .non => .non
  | .bool b, _, .bl _ => .bl b
  | .int i, _, .int _ => .int i
  | .str x, _, .str _ => .str x
  | .list ds, _, .lst h r => .lst (SqL.of h) (RpAll.dp r)
  | .tuple ds, _, .tup h r => .tup h.sq (RpAll.dp r)
theorem RpAll.dp {K : PySem.W.Frag} {H : Hp} : ∀ {ds : List PyData} {vs : List V}, RpAll H vs ds → DpAll K H vs ds
  | [], _, .nil => .nil
  | _ :: _, _, .cons r t => .cons (Rp.dp r) (RpAll.dp t)
end
section
variable {H : Hp} {v : V} {vs ws : List V} {ds es : List PyData}
theorem Rp.is_int {i : Int} (h : Rp H v (.int i)) : v = .int i := by cases h; rfl
theorem Rp.is_bl {b : Bool} (h : Rp H v (.bool b)) : v = .bl b := by cases h; rfl
theorem Rp.is_str {x : Str} (h : Rp H v (.str x)) : v = .str x := by cases h; rfl
theorem Rp.is_non (h : Rp H v .none) : v = .non := by cases h; rfl
theorem Rp.is_tup (h : Rp H v (.tuple ds)) : ∃ a xs, v = .ref a ∧ TupAt H a xs ∧ RpAll H xs ds := by
  cases h with
  | tup h r => exact ⟨_, _, rfl, h, r⟩
theorem Rp.is_lst (h : Rp H v (.list ds)) : ∃ a xs, v = .ref a ∧ H a = some (.lst xs) ∧ RpAll H xs ds := by
  cases h with
  | lst h r => exact ⟨_, _, rfl, h, r⟩
theorem RpAll.len : ∀ {vs : List V} {ds : List PyData}, RpAll H vs ds → vs.length = ds.length
  | _, _, .nil => rfl
  | _, _, .cons _ t => congrArg (· + 1) (RpAll.len t)
theorem RpAll.get : ∀ {vs : List V} {ds : List PyData} {i : Nat} {d : PyData}, RpAll H vs ds → ds[i]? = some d → ∃ v, vs[i]? = some v ∧ Rp H v d
  | _, _, _, _, .nil, h => by simp at h
  | _, _, 0, _, .cons r _, h => by simp at h; subst h; exact ⟨_, rfl, r⟩
  | _, _, i + 1, d, .cons _ t, h => by
    obtain ⟨v, h1, h2⟩ := RpAll.get (i := i) (d := d) t (by simpa using h)
    exact ⟨v, by simpa using h1, h2⟩
theorem RpAll.get' : ∀ {vs : List V} {ds : List PyData} {i : Nat} {v : V}, RpAll H vs ds → vs[i]? = some v → ∃ d, ds[i]? = some d ∧ Rp H v d
  | _, _, _, _, .nil, h => by simp at h
  | _, _, 0, _, .cons r _, h => by simp at h; subst h; exact ⟨_, rfl, r⟩
  | _, _, i + 1, d, .cons _ t, h => by
    obtain ⟨v, h1, h2⟩ := RpAll.get' (i := i) t (by simpa using h)
    exact ⟨v, by simpa using h1, h2⟩
theorem RpAll.append : ∀ {vs ws : List V} {ds es : List PyData}, RpAll H vs ds → RpAll H ws es → RpAll H (vs ++ ws) (ds ++ es)
  | _, _, _, _, .nil, s => s
  | _, _, _, _, .cons r t, s => .cons r (RpAll.append t s)
theorem RpAll.take : ∀ {vs : List V} {ds : List PyData} (n : Nat), RpAll H vs ds → RpAll H (vs.take n) (ds.take n)
  | _, _, 0, _ => .nil
  | _, _, _ + 1, .nil => .nil
  | _, _, n + 1, .cons r t => .cons r (RpAll.take n t)
theorem RpAll.drop : ∀ {vs : List V} {ds : List PyData} (n : Nat), RpAll H vs ds → RpAll H (vs.drop n) (ds.drop n)
  | _, _, 0, r => r
  | _, _, _ + 1, .nil => .nil
  | _, _, n + 1, .cons _ t => RpAll.drop n t
theorem RpAll.reverse : ∀ {vs : List V} {ds : List PyData}, RpAll H vs ds → RpAll H vs.reverse ds.reverse
  | _, _, .nil => .nil
  | _, _, .cons r t => by
    rw [List.reverse_cons, List.reverse_cons]
    exact (RpAll.reverse t).append (.cons r .nil)
theorem RpAll.set : ∀ {vs : List V} {ds : List PyData} (i : Nat) {v : V} {d : PyData}, RpAll H vs ds → Rp H v d → RpAll H (vs.set i v) (ds.set i d)
  | _, _, _, _, _, .nil, _ => .nil
  | _, _, 0, _, _, .cons _ t, q => .cons q t
  | _, _, i + 1, _, _, .cons r t, q => .cons r (RpAll.set i t q)
theorem RpAll.erase : ∀ {vs : List V} {ds : List PyData} (i : Nat), RpAll H vs ds → RpAll H (vs.eraseIdx i) (ds.eraseIdx i)
  | _, _, _, .nil => .nil
  | _, _, 0, .cons _ t => t
  | _, _, i + 1, .cons r t => .cons r (RpAll.erase i t)
theorem RpAll.ints : ∀ {ns : List Int} {vs : List V}, RpAll H vs (ns.map PyData.int) → vs = ns.map V.int
  | [], _, .nil => rfl
  | n :: ns, _, .cons r t => by rw [r.is_int, RpAll.ints t]; rfl
theorem RpAll.bools : ∀ {bs : List Bool} {vs : List V}, RpAll H vs (bs.map PyData.bool) → vs = bs.map V.bl
  | [], _, .nil => rfl
  | b :: bs, _, .cons r t => by rw [r.is_bl, RpAll.bools t]; rfl
theorem RpAll.of_ints : ∀ ns : List Int, RpAll H (ns.map V.int) (ns.map PyData.int)
  | [] => .nil
  | n :: ns => .cons (.int n) (RpAll.of_ints ns)
theorem RpAll.two {d1 d2 : PyData} (h : RpAll H vs [d1, d2]) : ∃ v1 v2, vs = [v1, v2] ∧ Rp H v1 d1 ∧ Rp H v2 d2 := by
  cases h with
  | cons r t => cases t with
    | cons r2 t => cases t; exact ⟨_, _, rfl, r, r2⟩
theorem RpAll.one {d1 : PyData} (h : RpAll H vs [d1]) : ∃ v1, vs = [v1] ∧ Rp H v1 d1 := by
  cases h with
  | cons r t => cases t; exact ⟨_, rfl, r⟩
theorem atI_rp {i : Int} {d : PyData} (r : RpAll H vs ds) (h : atI ds i = some d) : ∃ v, atI vs i = some v ∧ Rp H v d := by
  unfold atI at h ⊢
  rw [r.len]
  cases e : ixN ds.length i with
  | none => rw [e] at h; cases h
  | some j =>
    rw [e] at h
    obtain ⟨v, h1, h2⟩ := r.get (i := j) (d := d) h
    exact ⟨v, h1, h2⟩
end

/-! ### what a slot holds -/
inductive Sl where
  | no
  | dat (d : PyData)
  /-- a list of the def's own that changes -/
  | mut (ds : List PyData)
  /-- this very value -/
  | fix (v : V)
def SlOk (own M : List Addr) (H : Hp) : Option V → Sl → Prop
  | _, .no => True
  | some v, .dat d => Rp (hide M H) v d
  | some (.ref p), .mut ds => p ∈ own ∧ ∃ vs, H p = some (.lst vs) ∧ RpAll (hide M H) vs ds
  | some v, .fix w => v = w
  | _, _ => False
structure SE (own M : List Addr) (σ : L2.St) (H : Hp) (ρ : List Sl) : Prop where
  len : σ.length = ρ.length
  at_ : ∀ (i : Nat) (s : Sl), ρ[i]? = some s → ∃ x, σ[i]? = some x ∧ SlOk own M H x s
theorem SlOk.fixE {own M : List Addr} {H : Hp} {v w : V} (h : SlOk own M H (some v) (.fix w)) : v = w := by
  cases v <;> exact h
theorem SlOk.fixI {own M : List Addr} {H : Hp} {v w : V} (h : v = w) : SlOk own M H (some v) (.fix w) := by
  cases v <;> exact h
theorem SlOk.up {own M : List Addr} {H H' : Hp} (e : Ex H H') : ∀ {x : Option V} {s : Sl}, SlOk own M H x s → SlOk own M H' x s
  | _, .no, _ => by unfold SlOk; trivial
  | some v, .dat d, h => Rp.up (hide_mono e) h
  | none, .dat d, h => h.elim
  | some (.ref p), .mut ds, h => by
    obtain ⟨h1, vs, h2, h3⟩ := (show p ∈ own ∧ ∃ vs, H p = some (.lst vs) ∧ RpAll (hide M H) vs ds from h)
    exact ⟨h1, vs, e _ _ h2, h3.up (hide_mono e)⟩
  | none, .mut ds, h => h.elim
  | some .non, .mut ds, h => h.elim
  | some (.bl _), .mut ds, h => h.elim
  | some (.int _), .mut ds, h => h.elim
  | some (.str _), .mut ds, h => h.elim
  | some (.byt _), .mut ds, h => h.elim
  | some (.flt _), .mut ds, h => h.elim
  | some (.ty _), .mut ds, h => h.elim
  | none, .fix w, h => h.elim
  | some v, .fix w, h => SlOk.fixI (SlOk.fixE h)
section
variable {own M : List Addr} {σ : L2.St} {H H' : Hp} {ρ : List Sl}
theorem SE.up (h : SE own M σ H ρ) (e : Ex H H') : SE own M σ H' ρ := ⟨h.len, fun i s hs => by
  obtain ⟨x, h1, h2⟩ := h.at_ i s hs
  exact ⟨x, h1, h2.up e⟩⟩
theorem SE.dat (h : SE own M σ H ρ) {i : Nat} {d : PyData} (hi : ρ[i]? = some (.dat d)) : ∃ v, σ[i]? = some (some v) ∧ Rp (hide M H) v d := by
  obtain ⟨x, h1, h2⟩ := h.at_ i _ hi
  cases x with
  | none => exact h2.elim
  | some v => exact ⟨v, h1, h2⟩
theorem SE.mut (h : SE own M σ H ρ) {i : Nat} {ds : List PyData} (hi : ρ[i]? = some (.mut ds)) : ∃ p vs, σ[i]? = some (some (.ref p)) ∧ p ∈ own ∧ H p = some (.lst vs) ∧ RpAll (hide M H) vs ds := by
  obtain ⟨x, h1, h2⟩ := h.at_ i _ hi
  cases x with
  | none => exact h2.elim
  | some v =>
    cases v with
    | ref p => obtain ⟨h3, vs, h4, h5⟩ := h2; exact ⟨p, vs, h1, h3, h4, h5⟩
    | _ => exact h2.elim
theorem SE.setS (h : SE own M σ H ρ) {i : Nat} {x : Option V} {s : Sl} (hx : SlOk own M H x s) : SE own M (σ.set i x) H (ρ.set i s) := ⟨by simp [h.len], fun j t hj => by
  by_cases c : i = j
  · subst c
    have hl : i < ρ.length := by
      have := (List.getElem?_eq_some_iff.mp hj).1
      simpa using this
    rw [List.getElem?_set_self hl] at hj
    cases hj
    exact ⟨x, by rw [List.getElem?_set_self (by rw [h.len]; exact hl)], hx⟩
  · rw [List.getElem?_set_ne c] at hj ⊢
    exact h.at_ j t hj⟩
theorem SE.set (h : SE own M σ H ρ) (i : Nat) {v : V} {d : PyData} (hv : Rp (hide M H) v d) : SE own M (σ.set i (some v)) H (ρ.set i (.dat d)) := h.setS hv
def wipeS (ρ : List Sl) : List Nat → List Sl
  | [] => ρ
  | v :: vs => (wipeS ρ vs).set v .no
theorem SE.wipe (h : SE own M σ H ρ) : ∀ vs : List Nat, SE own M (wipe σ vs) H (wipeS ρ vs)
  | [] => h
  | v :: vs => (SE.wipe h vs).setS (x := none) (s := .no) (by unfold SlOk; trivial)
end
theorem se_start {N : List Str} {vs : List V} {ds : List PyData} {M : List Addr} {H : Hp} (r : RpAll (hide M H) vs ds) (hl : vs.length ≤ N.length) : SE [] M (L2.start N vs) H (ds.map Sl.dat ++ List.replicate (N.length - ds.length) Sl.no) := by
  have e := r.len
  refine ⟨by unfold L2.start; simp [e], fun i s hs => ?_⟩
  unfold L2.start
  by_cases c : i < ds.length
  · rw [List.getElem?_append_left (by simpa using c), List.getElem?_map] at hs
    rw [List.getElem?_append_left (by simp [e]; exact c), List.getElem?_map]
    rw [List.getElem?_eq_getElem c] at hs
    have hs' : Sl.dat ds[i] = s := Option.some.inj hs
    subst hs'
    obtain ⟨v, h1, h2⟩ := r.get (List.getElem?_eq_getElem c)
    exact ⟨some v, by rw [h1]; rfl, h2⟩
  · rw [List.getElem?_append_right (by simpa using c)] at hs
    have hs2 := List.mem_of_getElem? hs
    have hs3 := List.eq_of_mem_replicate hs2
    subst hs3
    have hl2 := (List.getElem?_eq_some_iff.mp hs).1
    rw [List.length_map, List.length_replicate] at hl2
    refine ⟨none, ?_, by unfold SlOk; trivial⟩
    rw [List.getElem?_append_right (by simp [e]; omega), List.getElem?_replicate, if_pos (by simp [e]; omega)]

/-! ### what an expression is worth -/
/-- te is worth d over ρ: nothing that stands is changed -/
def EE (te : TE) (ρ : List Sl) (d : PyData) : Prop := ∀ (own M : List Addr) (σ : L2.St) (H : Hp), SE own M σ H ρ → Al M H → ∀ Q : VK, (∀ v H2, Ex H H2 → Rp (hide M H2) v d → Q v H2) → te σ H Q
def ET (tt : TT) (ρ : List Sl) (b : Bool) : Prop := ∀ (own M : List Addr) (σ : L2.St) (H : Hp), SE own M σ H ρ → Al M H → ∀ Q : Bool → Hp → Prop, (∀ H2, Ex H H2 → Q b H2) → tt σ H Q
def EA (ta : TA) (ρ : List Sl) (ds : List PyData) : Prop := ∀ (own M : List Addr) (σ : L2.St) (H : Hp), SE own M σ H ρ → Al M H → ∀ Q : List V → Hp → Prop, (∀ vs H2, Ex H H2 → RpAll (hide M H2) vs ds → Q vs H2) → ta σ H Q
/-- .. a new list -/
def EL (te : TE) (ρ : List Sl) (ds : List PyData) : Prop := ∀ (own M : List Addr) (σ : L2.St) (H : Hp), SE own M σ H ρ → Al M H → ∀ Q : VK, (∀ p vs H2, H p = none → Ex H H2 → H2 p = some (.lst vs) → RpAll (hide (p :: M) H2) vs ds → Q (.ref p) H2) → te σ H Q
def EO (to : TO) (ρ : List Sl) (o : Option Int) : Prop := ∀ (own M : List Addr) (σ : L2.St) (H : Hp), SE own M σ H ρ → Al M H → ∀ Q : Option Int → Hp → Prop, (∀ H2, Ex H H2 → Q o H2) → to σ H Q
theorem new_free {M : List Addr} {H H2 : Hp} {p : Addr} {o : HO} (hp : H p = none) (a : Al M H) (h2 : H2 p = some o) : hide M H2 p = some o := by rw [hide_out (a.ne hp)]; exact h2
/-- a new tuple stands for data -/
theorem rp_newT {M : List Addr} {H : Hp} {p : Addr} {o : Obj} {xs : List V} {ds : List PyData} (hp : H p = none) (ho : o.dict = none) (a : Al M H) (r : RpAll (hide M H) xs ds) : Rp (hide M (upd H p (.frz o (.tup xs)))) (.ref p) (.tuple ds) :=
  .tup ⟨o, new_free hp a upd_same, ho⟩ (r.up (hide_mono (Ex.new hp)))
section
variable {ρ : List Sl} {ta tb tc te : TE} {tt tu : TT} {d e : PyData} {ds es : List PyData} {i j : Int} {b c : Bool} {K : PySem.W.Frag}
theorem EL.ee (h : EL te ρ ds) : EE te ρ (.list ds) := fun own M σ H s a Q q => h own M σ H s a Q fun p vs H2 hp e h2 r =>
  q _ H2 e (.lst (new_free hp a h2) (r.up (hide_sub fun x hx => List.mem_cons_of_mem _ hx)))
theorem EE.is (h : EE te ρ d) (q : d = e) : EE te ρ e := q ▸ h
theorem ET.is (h : ET tt ρ b) (q : b = c) : ET tt ρ c := q ▸ h
theorem EL.is (h : EL te ρ ds) (q : ds = es) : EL te ρ es := q ▸ h
theorem ee_var {n : Nat} (h : ρ[n]? = some (.dat d)) : EE (tVar n) ρ d := fun own M σ H s a Q q => by
  obtain ⟨v, h1, h2⟩ := s.dat h
  exact ⟨v, h1, q v H (Evl.Ex.refl H) h2⟩
theorem ee_int : EE (tC (.int i)) ρ (.int i) := fun own M σ H s a Q q => q _ H (Evl.Ex.refl H) (.int i)
theorem ee_bl : EE (tC (.bl b)) ρ (.bool b) := fun own M σ H s a Q q => q _ H (Evl.Ex.refl H) (.bl b)
theorem ee_non : EE (tC .non) ρ .none := fun own M σ H s a Q q => q _ H (Evl.Ex.refl H) .non
theorem ee_str {x : Str} : EE (tC (.str x)) ρ (.str x) := fun own M σ H s a Q q => q _ H (Evl.Ex.refl H) (.str x)
/-- two operands, then what the rule asks of values -/
theorem ee_op {r : R2} {dr : PyData} (ha : EE ta ρ d) (hb : EE tb ρ e) (hr : ∀ (M : List Addr) (H : Hp) (x y : V), Al M H → Rp (hide M H) x d → Rp (hide M H) y e → ∀ Q : VK, (∀ v H2, Ex H H2 → Rp (hide M H2) v dr → Q v H2) → r x y H Q) : EE (tOp r ta tb) ρ dr :=
  fun own M σ H s a Q q => ha own M σ H s a _ fun x H1 e1 r1 => hb own M σ H1 (s.up e1) (a.up e1) _ fun y H2 e2 r2 =>
    hr M H2 x y ((a.up e1).up e2) (r1.up (hide_mono e2)) r2 Q fun v H3 e3 r3 => q v H3 ((e1.trans e2).trans e3) r3
theorem ee_opI {g : Int → Int → V} {dr : PyData} (ha : EE ta ρ (.int i)) (hb : EE tb ρ (.int j)) (hg : ∀ H, Rp H (g i j) dr) : EE (tOp (rI0 g) ta tb) ρ dr := ee_op ha hb fun M H x y a r1 r2 Q q => by
  rw [r1.is_int, r2.is_int]
  exact ⟨i, j, rfl, rfl, q _ H (Evl.Ex.refl H) (hg _)⟩
theorem ee_opC {C : Int → Int → Prop} {g : Int → Int → V} {dr : PyData} (ha : EE ta ρ (.int i)) (hb : EE tb ρ (.int j)) (hc : C i j) (hg : ∀ H, Rp H (g i j) dr) : EE (tOp (rI C g) ta tb) ρ dr := ee_op ha hb fun M H x y a r1 r2 Q q => by
  rw [r1.is_int, r2.is_int]
  exact ⟨i, j, rfl, rfl, hc, q _ H (Evl.Ex.refl H) (hg _)⟩
end
def rAddI : R2 := rI0 fun i j => .int (i + j)
def rSubI : R2 := rI0 fun i j => .int (i - j)
def rLtI : R2 := rI0 fun i j => .bl (decide (i < j))
def rLeI : R2 := rI0 fun i j => .bl (decide (i ≤ j))
def rGtI : R2 := rI0 fun i j => .bl (decide (j < i))
def rGeI : R2 := rI0 fun i j => .bl (decide (j ≤ i))
def rIsNo : R2 := fun x y H Q => y = .non ∧ Q (.bl (decide (x = .non))) H
def rNegI : V → Hp → VK → Prop := rU fun i => .int (-i)
section
variable {X : Cx}
theorem dAdd : OpR X (binaryOp .Add) rAddI := op_add
theorem dSub : OpR X (binaryOp .Sub) rSubI := op_sub
theorem dLt : OpR X (compareOp .Lt) rLtI := op_lt
theorem dLe : OpR X (compareOp .LtE) rLeI := op_le
theorem dGt : OpR X (compareOp .Gt) rGtI := op_gt
theorem dGe : OpR X (compareOp .GtE) rGeI := op_ge
theorem dIsN : OpR X (compareOp .Is) rIsNo := op_isN
theorem dNeg : UnR X (unaryOp .USub) rNegI := un_neg
def rInT (K : PySem.W.Frag) : R2 := fun x y H Q => ∃ d ds, Dp K H x d ∧ Dp K H y (.tuple ds) ∧ SeqAt.shaped d = true ∧ SeqAt.shaped (.tuple ds) = true ∧ Q (.bl (ds.any fun z => PyData.eqv z d)) H
def rNotInT (K : PySem.W.Frag) : R2 := fun x y H Q => ∃ d ds, Dp K H x d ∧ Dp K H y (.tuple ds) ∧ SeqAt.shaped d = true ∧ SeqAt.shaped (.tuple ds) = true ∧ Q (.bl (!ds.any fun z => PyData.eqv z d)) H
theorem op_inT (hu : X.A.units + 65 < cLine) : OpR X (compareOp .In) (rInT X.K) := by
  intro pins s σ H x y v u Q I rx ry h
  obtain ⟨d, ds, hd, he, sd, se, q⟩ := h
  obtain ⟨as, r1⟩ := Dp.reads I d x v hd rx
  obtain ⟨bs, r2⟩ := Dp.reads I (.tuple ds) y u he ry
  have h1 := SeqAt.depth_of_shaped sd
  have hr : X.A.units + 1 + min (PyData.depthAll ds) d.depth < cLine := by omega
  exact SeqAt.in_tuple_reads r2 r1 (SeqAt.canLay_of_shaped se) (SeqAt.canLay_of_shaped sd) hr ⟨.bl _, H, I, rfl, q⟩
theorem op_notInT (hu : X.A.units + 65 < cLine) : OpR X (compareOp .NotIn) (rNotInT X.K) := by
  intro pins s σ H x y v u Q I rx ry h
  obtain ⟨d, ds, hd, he, sd, se, q⟩ := h
  obtain ⟨as, r1⟩ := Dp.reads I d x v hd rx
  obtain ⟨bs, r2⟩ := Dp.reads I (.tuple ds) y u he ry
  have h1 := SeqAt.depth_of_shaped sd
  have hr : X.A.units + 1 + min (PyData.depthAll ds) d.depth < cLine := by omega
  exact SeqAt.notIn_tuple_reads r2 r1 (SeqAt.canLay_of_shaped se) (SeqAt.canLay_of_shaped sd) hr ⟨.bl _, H, I, rfl, q⟩
theorem OpR.or {f : Value → Value → Sem Value} {r r' : R2} (h : OpR X f r) (h' : OpR X f r') : OpR X f (fun x y H Q => r x y H Q ∨ r' x y H Q) := by
  intro pins s σ H x y v u Q I rx ry q
  rcases q with q | q
  · exact h pins s σ H x y v u Q I rx ry q
  · exact h' pins s σ H x y v u Q I rx ry q
/-- in, not in: a list or a tuple -/
def rInA (K : PySem.W.Frag) : R2 := fun x y H Q => rInD K x y H Q ∨ rInT K x y H Q
def rNotInA (K : PySem.W.Frag) : R2 := fun x y H Q => rNotInD K x y H Q ∨ rNotInT K x y H Q
theorem dIn {k : Nat} (hr : Room k X.A) : OpR X (compareOp .In) (rInA X.K) := OpR.or (op_inD (by have := hr.un; omega)) (op_inT (by have := hr.un; omega))
theorem dNotIn {k : Nat} (hr : Room k X.A) : OpR X (compareOp .NotIn) (rNotInA X.K) := OpR.or (op_notInD (by have := hr.un; omega)) (op_notInT (by have := hr.un; omega))
theorem dEq {k : Nat} (hr : Room k X.A) : OpR X (compareOp .Eq) (rEqD X.K) := op_eqD (by have := hr.un; omega)
theorem dNe {k : Nat} (hr : Room k X.A) : OpR X (compareOp .NotEq) (rNeD X.K) := op_neD (by have := hr.un; omega)
end
end R60

end -- D1
section -- D2
set_option Elab.async false
set_option linter.all false
set_option maxRecDepth 100000
set_option maxHeartbeats 4000000
/-! What expressions are worth over data: the rules. -/
namespace R60
open PySem PySem.Spec PyProof.Rows L2 RZ
open Evl (Ex)
section
variable {ρ : List Sl} {ta tb tc te : TE} {tt tu : TT} {d e : PyData} {ds es : List PyData} {i j : Int} {b c : Bool} {K : PySem.W.Frag}
theorem ee_addI (ha : EE ta ρ (.int i)) (hb : EE tb ρ (.int j)) : EE (tOp rAddI ta tb) ρ (.int (i + j)) := ee_opI ha hb fun _ => .int _
theorem ee_subI (ha : EE ta ρ (.int i)) (hb : EE tb ρ (.int j)) : EE (tOp rSubI ta tb) ρ (.int (i - j)) := ee_opI ha hb fun _ => .int _
theorem ee_ltI (ha : EE ta ρ (.int i)) (hb : EE tb ρ (.int j)) : EE (tOp rLtI ta tb) ρ (.bool (decide (i < j))) := ee_opI ha hb fun _ => .bl _
theorem ee_leI (ha : EE ta ρ (.int i)) (hb : EE tb ρ (.int j)) : EE (tOp rLeI ta tb) ρ (.bool (decide (i ≤ j))) := ee_opI ha hb fun _ => .bl _
theorem ee_gtI (ha : EE ta ρ (.int i)) (hb : EE tb ρ (.int j)) : EE (tOp rGtI ta tb) ρ (.bool (decide (j < i))) := ee_opI ha hb fun _ => .bl _
theorem ee_geI (ha : EE ta ρ (.int i)) (hb : EE tb ρ (.int j)) : EE (tOp rGeI ta tb) ρ (.bool (decide (j ≤ i))) := ee_opI ha hb fun _ => .bl _
theorem ee_negI (ha : EE ta ρ (.int i)) : EE (tUn rNegI ta) ρ (.int (-i)) := fun own M σ H s a Q q => ha own M σ H s a _ fun v H1 e1 r1 => by
  rw [r1.is_int]
  exact ⟨i, rfl, q _ H1 e1 (.int _)⟩
theorem ee_eq (ha : EE ta ρ d) (hb : EE tb ρ e) (sd : SeqAt.shaped d = true) (se : SeqAt.shaped e = true) : EE (tOp (rEqD K) ta tb) ρ (.bool (PyData.eqv d e)) := ee_op ha hb fun M H x y a r1 r2 Q q =>
  ⟨d, e, (r1.up hide_ex).dp, (r2.up hide_ex).dp, sd, se, q _ H (Evl.Ex.refl H) (.bl _)⟩
theorem ee_ne (ha : EE ta ρ d) (hb : EE tb ρ e) (sd : SeqAt.shaped d = true) (se : SeqAt.shaped e = true) : EE (tOp (rNeD K) ta tb) ρ (.bool (!PyData.eqv d e)) := ee_op ha hb fun M H x y a r1 r2 Q q =>
  ⟨d, e, (r1.up hide_ex).dp, (r2.up hide_ex).dp, sd, se, q _ H (Evl.Ex.refl H) (.bl _)⟩
theorem eqv_ii : PyData.eqv (.int i) (.int j) = decide (i = j) := by
  simp only [PyData.eqv]
  by_cases h : i = j
  · simp [h]
  · rw [decide_eq_false h]; exact beq_eq_false_iff_ne.mpr h
theorem eqv_ss {x y : Str} : PyData.eqv (.str x) (.str y) = decide (x = y) := by
  simp only [PyData.eqv]
  by_cases h : x = y
  · simp [h]
  · rw [decide_eq_false h]; exact beq_eq_false_iff_ne.mpr h
theorem shaped_int : SeqAt.shaped (.int i) = true := rfl
theorem ee_eqI (ha : EE ta ρ (.int i)) (hb : EE tb ρ (.int j)) : EE (tOp (rEqD K) ta tb) ρ (.bool (decide (i = j))) := (ee_eq ha hb rfl rfl).is (by rw [eqv_ii])
theorem ee_neI (ha : EE ta ρ (.int i)) (hb : EE tb ρ (.int j)) : EE (tOp (rNeD K) ta tb) ρ (.bool (!decide (i = j))) := (ee_ne ha hb rfl rfl).is (by rw [eqv_ii])
theorem ee_eqS {x y : Str} (ha : EE ta ρ (.str x)) (hb : EE tb ρ (.str y)) (sd : SeqAt.shaped (.str x) = true) (se : SeqAt.shaped (.str y) = true) : EE (tOp (rEqD K) ta tb) ρ (.bool (decide (x = y))) := (ee_eq ha hb sd se).is (by rw [eqv_ss])
theorem ee_neS {x y : Str} (ha : EE ta ρ (.str x)) (hb : EE tb ρ (.str y)) (sd : SeqAt.shaped (.str x) = true) (se : SeqAt.shaped (.str y) = true) : EE (tOp (rNeD K) ta tb) ρ (.bool (!decide (x = y))) := (ee_ne ha hb sd se).is (by rw [eqv_ss])
theorem ee_inL (ha : EE ta ρ d) (hb : EE tb ρ (.list es)) (sd : SeqAt.shaped d = true) (se : SeqAt.shaped (.list es) = true) : EE (tOp (rInA K) ta tb) ρ (.bool (es.any fun z => PyData.eqv z d)) := ee_op ha hb fun M H x y a r1 r2 Q q =>
  .inl ⟨d, es, (r1.up hide_ex).dp, (r2.up hide_ex).dp, sd, se, q _ H (Evl.Ex.refl H) (.bl _)⟩
theorem ee_inT (ha : EE ta ρ d) (hb : EE tb ρ (.tuple es)) (sd : SeqAt.shaped d = true) (se : SeqAt.shaped (.tuple es) = true) : EE (tOp (rInA K) ta tb) ρ (.bool (es.any fun z => PyData.eqv z d)) := ee_op ha hb fun M H x y a r1 r2 Q q =>
  .inr ⟨d, es, (r1.up hide_ex).dp, (r2.up hide_ex).dp, sd, se, q _ H (Evl.Ex.refl H) (.bl _)⟩
theorem ee_niL (ha : EE ta ρ d) (hb : EE tb ρ (.list es)) (sd : SeqAt.shaped d = true) (se : SeqAt.shaped (.list es) = true) : EE (tOp (rNotInA K) ta tb) ρ (.bool (!es.any fun z => PyData.eqv z d)) := ee_op ha hb fun M H x y a r1 r2 Q q =>
  .inl ⟨d, es, (r1.up hide_ex).dp, (r2.up hide_ex).dp, sd, se, q _ H (Evl.Ex.refl H) (.bl _)⟩
theorem ee_niT (ha : EE ta ρ d) (hb : EE tb ρ (.tuple es)) (sd : SeqAt.shaped d = true) (se : SeqAt.shaped (.tuple es) = true) : EE (tOp (rNotInA K) ta tb) ρ (.bool (!es.any fun z => PyData.eqv z d)) := ee_op ha hb fun M H x y a r1 r2 Q q =>
  .inr ⟨d, es, (r1.up hide_ex).dp, (r2.up hide_ex).dp, sd, se, q _ H (Evl.Ex.refl H) (.bl _)⟩
def isNoneB : PyData → Bool
  | .none => true
  | _ => false
theorem Rp.none_iff {H : Hp} {v : V} : ∀ {d : PyData}, Rp H v d → decide (v = .non) = isNoneB d
  | _, .non => rfl
  | _, .bl _ => rfl
  | _, .int _ => rfl
  | _, .str _ => rfl
  | _, .lst _ _ => rfl
  | _, .tup _ _ => rfl
theorem ee_isN (ha : EE ta ρ d) : EE (tOp rIsNo ta (tC .non)) ρ (.bool (isNoneB d)) := ee_op ha ee_non fun M H x y a r1 r2 Q q => by
  rw [r2.is_non]
  exact ⟨rfl, q _ H (Evl.Ex.refl H) (by rw [r1.none_iff]; exact .bl _)⟩
/-! ### places -/
theorem ee_ixT (ha : EE ta ρ (.tuple ds)) (hb : EE tb ρ (.int i)) (h : atI ds i = some d) : EE (tOp (rIx K) ta tb) ρ d := ee_op ha hb fun M H x y a r1 r2 Q q => by
  obtain ⟨p, xs, rfl, hp, r⟩ := r1.is_tup
  rw [r2.is_int]
  obtain ⟨v, hv, rv⟩ := atI_rp r h
  exact .inr (.inl ⟨p, xs, i, v, rfl, rfl, (hp.up hide_ex).sq, hv, q _ H (Evl.Ex.refl H) rv⟩)
theorem ee_ixL (ha : EE ta ρ (.list ds)) (hb : EE tb ρ (.int i)) (h : atI ds i = some d) : EE (tOp (rIx K) ta tb) ρ d := ee_op ha hb fun M H x y a r1 r2 Q q => by
  obtain ⟨p, xs, rfl, hp, r⟩ := r1.is_lst
  rw [r2.is_int]
  obtain ⟨v, hv, rv⟩ := atI_rp r h
  exact .inl ⟨p, xs, i, v, rfl, rfl, SqL.of (hide_ex _ _ hp), hv, q _ H (Evl.Ex.refl H) rv⟩
/-- an item of a list that changes -/
theorem ee_ixM {n : Nat} (hn : ρ[n]? = some (.mut ds)) (hb : EE tb ρ (.int i)) (h : atI ds i = some d) : EE (tOp (rIx K) (tVar n) tb) ρ d := fun own M σ H s a Q q => by
  obtain ⟨p, vs, h1, hp, h2, h3⟩ := s.mut hn
  refine ⟨.ref p, h1, hb own M σ H s a _ fun y H2 e2 r2 => ?_⟩
  rw [r2.is_int]
  obtain ⟨v, hv, rv⟩ := atI_rp h3 h
  exact .inl ⟨p, vs, i, v, rfl, rfl, SqL.of (e2 _ _ h2), hv, q v H2 e2 (rv.up (hide_mono e2))⟩
theorem eo_none : EO tNoPart ρ none := fun own M σ H s a Q q => q H (Evl.Ex.refl H)
theorem eo_some (h : EE ta ρ (.int i)) : EO (tPart ta) ρ (some i) := fun own M σ H s a Q q => h own M σ H s a _ fun v H2 e r => by
  rw [r.is_int]
  exact ⟨i, rfl, q H2 e⟩
def cutD (xs : List PyData) (lo hi : Option Int) : List PyData := (xs.drop (HT.sIx xs.length 0 lo)).take (HT.sIx xs.length xs.length hi - HT.sIx xs.length 0 lo)
theorem RpAll.cut {H : Hp} {vs : List V} {ds : List PyData} (r : RpAll H vs ds) (lo hi : Option Int) : RpAll H (cutV vs lo hi) (cutD ds lo hi) := by
  unfold cutV cutD
  rw [r.len]
  exact (r.drop _).take _
theorem ee_slT {tl th : TO} {lo hi : Option Int} (ha : EE ta ρ (.tuple ds)) (hl : EO tl ρ lo) (hh : EO th ρ hi) : EE (tSl (fSl K) ta tl th) ρ (.tuple (cutD ds lo hi)) := fun own M σ H s a Q q =>
  ha own M σ H s a _ fun v H1 e1 r1 => hl own M σ H1 (s.up e1) (a.up e1) _ fun H2 e2 => hh own M σ H2 (s.up (e1.trans e2)) (a.up (e1.trans e2)) _ fun H3 e3 => by
    have e13 := e2.trans e3
    obtain ⟨p, xs, rfl, hp, r⟩ := (r1.up (hide_mono e13)).is_tup
    have e := e1.trans e13
    refine ⟨p, xs, rfl, (hp.up hide_ex).sq, fun hw => ?_, fun _ t o ht ho => ?_⟩
    · have e0 : cutV xs lo hi = xs := by
        unfold cutV
        rw [hw.1, hw.2, List.drop_zero, Nat.sub_zero, List.take_length]
      refine q _ H3 e (.tup hp ?_)
      have := r.cut lo hi
      rw [e0] at this
      exact this
    · exact q _ _ (e.trans (Ex.new ht)) (rp_newT ht ho (a.up e) (r.cut lo hi))
theorem ee_slL {tl th : TO} {lo hi : Option Int} (ha : EE ta ρ (.list ds)) (hl : EO tl ρ lo) (hh : EO th ρ hi) : EE (tSl (rSlL K) ta tl th) ρ (.list (cutD ds lo hi)) := fun own M σ H s a Q q =>
  ha own M σ H s a _ fun v H1 e1 r1 => hl own M σ H1 (s.up e1) (a.up e1) _ fun H2 e2 => hh own M σ H2 (s.up (e1.trans e2)) (a.up (e1.trans e2)) _ fun H3 e3 => by
    have e13 := e2.trans e3
    obtain ⟨p, xs, rfl, hp, r⟩ := (r1.up (hide_mono e13)).is_lst
    have e := e1.trans e13
    refine ⟨p, xs, rfl, SqL.of (hide_ex _ _ hp), fun t ht => ?_⟩
    exact q _ _ (e.trans (Ex.new ht)) (.lst (new_free ht (a.up e) upd_same) ((r.cut lo hi).up (hide_mono (Ex.new ht))))
/-! ### made anew -/
theorem ea_nil : EA tNil ρ [] := fun own M σ H s a Q q => q [] H (Evl.Ex.refl H) .nil
theorem ea_cons {tr : TA} (h : EE ta ρ d) (hr : EA tr ρ ds) : EA (tCons ta tr) ρ (d :: ds) := fun own M σ H s a Q q =>
  h own M σ H s a _ fun v H1 e1 r1 => hr own M σ H1 (s.up e1) (a.up e1) _ fun vs H2 e2 r2 => q (v :: vs) H2 (e1.trans e2) (.cons (r1.up (hide_mono e2)) r2)
theorem ee_tup {tr : TA} (h : EA tr ρ ds) (hl : ds.length ≤ 100000 := by decide) : EE (fTup tr) ρ (.tuple ds) := fun own M σ H s a Q q => h own M σ H s a _ fun vs H1 e1 r1 =>
  ⟨by rw [r1.len]; exact Evl.sz_of hl, fun p o hp ho => q _ _ (e1.trans (Ex.new hp)) (rp_newT hp ho (a.up e1) r1)⟩
theorem el_lst {tr : TA} (h : EA tr ρ ds) (hl : ds.length ≤ 100000 := by decide) : EL (tLst tr) ρ ds := fun own M σ H s a Q q => h own M σ H s a _ fun vs H1 e1 r1 =>
  ⟨by rw [r1.len]; exact Evl.sz_of hl, fun p hp => q p vs _ (Evl.fresh_back e1 hp) (e1.trans (Ex.new hp)) upd_same (r1.up (hide_new (Ex.new hp) hp))⟩
theorem ee_catT (ha : EE ta ρ (.tuple ds)) (hb : EE tb ρ (.tuple es)) (hl : ds.length + es.length ≤ 100000) : EE (tOp (fCat K) ta tb) ρ (.tuple (ds ++ es)) := ee_op ha hb fun M H x y a r1 r2 Q q => by
  obtain ⟨p, xs, rfl, hp, rx⟩ := r1.is_tup
  obtain ⟨t, ys, rfl, ht, ry⟩ := r2.is_tup
  refine ⟨p, t, xs, ys, rfl, rfl, (hp.up hide_ex).sq, (ht.up hide_ex).sq, by rw [rx.len, ry.len]; exact Evl.sz_of hl, fun e => ?_, fun _ e => ?_, fun _ _ u o hu ho => ?_⟩
  · subst e
    cases rx
    exact q _ H (Evl.Ex.refl H) (.tup ht ry)
  · subst e
    cases ry
    refine q _ H (Evl.Ex.refl H) ?_
    rw [List.append_nil]
    exact .tup hp rx
  · exact q _ _ (Ex.new hu) (rp_newT hu ho a (rx.append ry))
theorem ee_catL (ha : EL ta ρ ds) (hb : EE tb ρ (.list es)) (hl : ds.length + es.length ≤ 100000) : EL (tOp rCat ta tb) ρ (ds ++ es) := fun own M σ H s a Q q => ha own M σ H s a _ fun p vs H1 hp e1 h1 r1 =>
  hb own M σ H1 (s.up e1) (a.up e1) _ fun y H2 e2 r2 => by
    obtain ⟨t, ys, rfl, ht, ry⟩ := r2.is_lst
    have r1' : RpAll (hide M H2) vs ds := r1.up ((hide_mono e2).trans (hide_sub fun x hx => List.mem_cons_of_mem _ hx))
    exact ⟨p, t, vs, ys, rfl, rfl, e2 _ _ h1, hide_ex _ _ ht, by rw [r1.len, ry.len]; exact Evl.sz_of hl, fun u hu =>
      q u _ _ (Evl.fresh_back (e1.trans e2) hu) ((e1.trans e2).trans (Ex.new hu)) upd_same ((r1'.append ry).up (hide_new (Ex.new hu) hu))⟩
theorem replicate_rp {H : Hp} {x : V} {d : PyData} (r : Rp H x d) : ∀ n : Nat, RpAll H (List.replicate n [x]).flatten (List.replicate n d)
  | 0 => .nil
  | n + 1 => .cons r (replicate_rp r n)
theorem ee_repT (ha : EE ta ρ (.tuple [d])) (hb : EE tb ρ (.int i)) (h2 : 1 ≤ i) (h3 : i ≤ 1000) : EE (tOp (fRep K) ta tb) ρ (.tuple (List.replicate i.toNat d)) := ee_op ha hb fun M H x y a r1 r2 Q q => by
  obtain ⟨p, xs, rfl, hp, rx⟩ := r1.is_tup
  rw [r2.is_int]
  obtain ⟨v, rfl, rv⟩ := rx.one
  refine ⟨p, i, [v], rfl, rfl, (hp.up hide_ex).sq, by simp, h2, h3, by simp, fun e => ?_, fun _ u o hu ho => q _ _ (Ex.new hu) (rp_newT hu ho a (replicate_rp rv _))⟩
  subst e
  exact q _ H (Evl.Ex.refl H) (.tup hp rx)
/-! ### and, or, not, if -/
theorem ee_and {a b : Bool} (h1 : EE ta ρ (.bool a)) (h2 : a = true → EE tb ρ (.bool b)) : EE (tAndV ta tb) ρ (.bool (a && b)) := fun own M σ H s al Q q => h1 own M σ H s al _ fun v H1 e1 r1 => by
  rw [r1.is_bl]
  refine ⟨a, rfl, ?_⟩
  cases a with
  | true => exact h2 rfl own M σ H1 (s.up e1) (al.up e1) Q fun v H2 e2 r => q v H2 (e1.trans e2) r
  | false => exact q _ H1 e1 (.bl false)
theorem ee_or {a b : Bool} (h1 : EE ta ρ (.bool a)) (h2 : a = false → EE tb ρ (.bool b)) : EE (tOrV ta tb) ρ (.bool (a || b)) := fun own M σ H s al Q q => h1 own M σ H s al _ fun v H1 e1 r1 => by
  rw [r1.is_bl]
  refine ⟨a, rfl, ?_⟩
  cases a with
  | false => exact h2 rfl own M σ H1 (s.up e1) (al.up e1) Q fun v H2 e2 r => q v H2 (e1.trans e2) r
  | true => exact q _ H1 e1 (.bl true)
theorem ee_not {a : Bool} (h1 : EE ta ρ (.bool a)) : EE (tNotV ta) ρ (.bool (!a)) := fun own M σ H s al Q q => h1 own M σ H s al _ fun v H1 e1 r1 => by
  rw [r1.is_bl]
  exact ⟨a, rfl, q _ H1 e1 (.bl _)⟩
theorem ee_if {a : Bool} (h : ET tt ρ a) (h1 : a = true → EE ta ρ d) (h2 : a = false → EE tb ρ d) : EE (tIf tt ta tb) ρ d := fun own M σ H s al Q q => h own M σ H s al _ fun H1 e1 => by
  cases a with
  | true => exact h1 rfl own M σ H1 (s.up e1) (al.up e1) Q fun v H2 e2 r => q v H2 (e1.trans e2) r
  | false => exact h2 rfl own M σ H1 (s.up e1) (al.up e1) Q fun v H2 e2 r => q v H2 (e1.trans e2) r
theorem ee_ifB {a : Bool} {d' : PyData} (h : ET tt ρ a) (h1 : a = true → EE ta ρ d) (h2 : a = false → EE tb ρ d') : EE (tIf tt ta tb) ρ (if a then d else d') := ee_if h (fun e => by subst e; exact h1 rfl) (fun e => by subst e; exact h2 rfl)
/-- low <= value <= high, ints -/
theorem ee_chain {k : Int} (ha : EE ta ρ (.int i)) (hb : EE tb ρ (.int j)) (hc : EE tc ρ (.int k)) : EE (tChain rLeI rLeI ta tb tc) ρ (.bool (decide (i ≤ j) && decide (j ≤ k))) := fun own M σ H s al Q q =>
  ha own M σ H s al _ fun v H1 e1 r1 => hb own M σ H1 (s.up e1) (al.up e1) _ fun u H2 e2 r2 => by
    rw [r1.is_int, r2.is_int]
    refine ⟨i, j, rfl, rfl, decide (i ≤ j), rfl, ?_⟩
    have e12 := e1.trans e2
    by_cases h : i ≤ j
    · rw [decide_eq_true h, if_pos rfl]
      refine hc own M σ H2 (s.up e12) (al.up e12) _ fun w H3 e3 r3 => ?_
      rw [r3.is_int]
      refine ⟨j, k, rfl, rfl, q _ H3 (e12.trans e3) ?_⟩
      rw [decide_eq_true h, Bool.true_and]
      exact .bl _
    · rw [decide_eq_false h, if_neg Bool.false_ne_true]
      refine q _ H2 e12 ?_
      rw [decide_eq_false h, Bool.false_and]
      exact .bl _
theorem et_test (h : EE te ρ (.bool b)) : ET (tTest te) ρ b := fun own M σ H s a Q q => h own M σ H s a _ fun v H1 e1 r1 => by
  rw [r1.is_bl]
  exact ⟨b, rfl, q H1 e1⟩
theorem et_B (h : EE te ρ (.bool b)) : ET (tB te) ρ b := fun own M σ H s a Q q => h own M σ H s a _ fun v H1 e1 r1 => by
  rw [r1.is_bl]
  exact ⟨b, rfl, q H1 e1⟩
theorem et_and {a b : Bool} (h1 : ET tt ρ a) (h2 : a = true → ET tu ρ b) : ET (tAnd tt tu) ρ (a && b) := fun own M σ H s al Q q => h1 own M σ H s al _ fun H1 e1 => by
  cases a with
  | true => exact h2 rfl own M σ H1 (s.up e1) (al.up e1) Q fun H2 e2 => q H2 (e1.trans e2)
  | false => exact q H1 e1
theorem et_or {a b : Bool} (h1 : ET tt ρ a) (h2 : a = false → ET tu ρ b) : ET (tOr tt tu) ρ (a || b) := fun own M σ H s al Q q => h1 own M σ H s al _ fun H1 e1 => by
  cases a with
  | false => exact h2 rfl own M σ H1 (s.up e1) (al.up e1) Q fun H2 e2 => q H2 (e1.trans e2)
  | true => exact q H1 e1
theorem et_not {a : Bool} (h1 : ET tt ρ a) : ET (tNot tt) ρ (!a) := fun own M σ H s al Q q => h1 own M σ H s al _ fun H1 e1 => q H1 e1
theorem et_yes : ET tYes ρ true := fun own M σ H s al Q q => q H (Evl.Ex.refl H)
/-- the truth of a list -/
def tTru (K : PySem.W.Frag) (ta : TE) : TT := fun σ H Q => ta σ H fun x H' => ∃ k, TruV K x H' k ∧ Q k H'
theorem et_trL (h : EE ta ρ (.list ds)) : ET (tTru K ta) ρ (!ds.isEmpty) := fun own M σ H s a Q q => h own M σ H s a _ fun v H1 e1 r1 => by
  obtain ⟨p, xs, rfl, hp, rx⟩ := r1.is_lst
  refine ⟨!ds.isEmpty, .inl ⟨xs, SqL.of (hide_ex _ _ hp), ?_⟩, q H1 e1⟩
  cases rx <;> rfl
theorem et_trT (h : EE ta ρ (.tuple ds)) : ET (tTru K ta) ρ (!ds.isEmpty) := fun own M σ H s a Q q => h own M σ H s a _ fun v H1 e1 r1 => by
  obtain ⟨p, xs, rfl, hp, rx⟩ := r1.is_tup
  refine ⟨!ds.isEmpty, .inr (.inl ⟨xs, (hp.up hide_ex).sq, ?_⟩), q H1 e1⟩
  cases rx <;> rfl
theorem et_trM {n : Nat} (hn : ρ[n]? = some (.mut ds)) : ET (tTru K (tVar n)) ρ (!ds.isEmpty) := fun own M σ H s a Q q => by
  obtain ⟨p, vs, h1, hp, h2, h3⟩ := s.mut hn
  refine ⟨.ref p, h1, !ds.isEmpty, .inl ⟨vs, SqL.of h2, ?_⟩, q H (Evl.Ex.refl H)⟩
  cases h3 <;> rfl
/-! ### built-in functions -/
def rLenS (K : PySem.W.Frag) : List V → Hp → VK → Prop := fun xs H Q => ∃ p ys, xs = [.ref p] ∧ (SqL K H p ys ∨ SqT K H p ys) ∧ Q (.int ys.length) H
theorem dLen {X : Cx} : CallR X (.builtin "len") (rLenS X.K) := call_len_seq
theorem ee_lenT (h : EE ta ρ (.tuple ds)) : EE (tCB (rLenS K) (tCons ta tNil)) ρ (.int (ds.length : Int)) := fun own M σ H s a Q q => h own M σ H s a _ fun v H1 e1 r1 => by
  obtain ⟨p, xs, rfl, hp, rx⟩ := r1.is_tup
  refine ⟨p, xs, rfl, .inr ((hp.up hide_ex).sq), ?_⟩
  rw [rx.len]
  exact q _ H1 e1 (.int _)
theorem ee_lenL (h : EE ta ρ (.list ds)) : EE (tCB (rLenS K) (tCons ta tNil)) ρ (.int (ds.length : Int)) := fun own M σ H s a Q q => h own M σ H s a _ fun v H1 e1 r1 => by
  obtain ⟨p, xs, rfl, hp, rx⟩ := r1.is_lst
  refine ⟨p, xs, rfl, .inl (SqL.of (hide_ex _ _ hp)), ?_⟩
  rw [rx.len]
  exact q _ H1 e1 (.int _)
def tyD : PyData → String
  | .none => "NoneType"
  | .bool _ => "bool"
  | .int _ => "int"
  | .str _ => "str"
  | .list _ => "list"
  | .tuple _ => "tuple"
  | .dict _ => "dict"
theorem Rp.tyX {H : Hp} {v : V} : ∀ {d : PyData}, Rp H v d → TyX K H v (.type (tyD d))
  | _, .non => .base .non
  | _, .bl b => .base (.bl b)
  | _, .int i => .base (.int i)
  | _, .str x => .base (.str x)
  | _, .lst h _ => .base (.lst h)
  | _, .tup h _ => let ⟨_, h1, _⟩ := h; .fTuple h1
def isIntD : PyData → Bool
  | .bool _ => true
  | .int _ => true
  | _ => false
def isBoolD : PyData → Bool
  | .bool _ => true
  | _ => false
def isStrD : PyData → Bool
  | .str _ => true
  | _ => false
def isLstD : PyData → Bool
  | .list _ => true
  | _ => false
def isTupD : PyData → Bool
  | .tuple _ => true
  | _ => false
def tyNames : List String := ["NoneType", "bool", "int", "str", "list", "tuple", "dict"]
theorem tyD_mem : ∀ d : PyData, tyD d ∈ tyNames
  | .none => by simp [tyD, tyNames]
  | .bool _ => by simp [tyD, tyNames]
  | .int _ => by simp [tyD, tyNames]
  | .str _ => by simp [tyD, tyNames]
  | .list _ => by simp [tyD, tyNames]
  | .tuple _ => by simp [tyD, tyNames]
  | .dict _ => by simp [tyD, tyNames]
theorem kit_all {T : String} {f : String → Bool} (h : (tyNames.all fun n => decide (kitB n T = some (f n))) = true) (d : PyData) : PySem.W.kitOne K (.type (tyD d)) (.type T) = some (f (tyD d)) :=
  kit_ty (of_decide_eq_true (List.all_eq_true.mp h _ (tyD_mem d)))
theorem kInt (d : PyData) : PySem.W.kitOne K (.type (tyD d)) (.type "int") = some (isIntD d) := by
  rw [kit_all (f := fun n => n == "int" || n == "bool") (by decide +kernel)]
  cases d <;> rfl
theorem kBool (d : PyData) : PySem.W.kitOne K (.type (tyD d)) (.type "bool") = some (isBoolD d) := by
  rw [kit_all (f := fun n => n == "bool") (by decide +kernel)]
  cases d <;> rfl
theorem kStr (d : PyData) : PySem.W.kitOne K (.type (tyD d)) (.type "str") = some (isStrD d) := by
  rw [kit_all (f := fun n => n == "str") (by decide +kernel)]
  cases d <;> rfl
theorem kLst (d : PyData) : PySem.W.kitOne K (.type (tyD d)) (.type "list") = some (isLstD d) := by
  rw [kit_all (f := fun n => n == "list") (by decide +kernel)]
  cases d <;> rfl
theorem kTupl (d : PyData) : PySem.W.kitOne K (.type (tyD d)) (.type "tuple") = some (isTupD d) := by
  rw [kit_all (f := fun n => n == "tuple") (by decide +kernel)]
  cases d <;> rfl
theorem ee_isi {T : String} (h : EE ta ρ d) (k : PySem.W.kitOne K (.type (tyD d)) (.type T) = some b) : EE (tCB (rIsi K) (tCons ta (tCons (tC (.ty T)) tNil))) ρ (.bool b) := fun own M σ H s a Q q => h own M σ H s a _ fun v H1 e1 r1 =>
  ⟨v, .ty T, _, _, b, rfl, .ty T, (r1.up hide_ex).tyX, k, q _ H1 e1 (.bl b)⟩
theorem ee_isiInt (h : EE ta ρ d) : EE (tCB (rIsi K) (tCons ta (tCons (tC (.ty "int")) tNil))) ρ (.bool (isIntD d)) := ee_isi h (kInt d)
theorem ee_isiBool (h : EE ta ρ d) : EE (tCB (rIsi K) (tCons ta (tCons (tC (.ty "bool")) tNil))) ρ (.bool (isBoolD d)) := ee_isi h (kBool d)
theorem ee_isiStr (h : EE ta ρ d) : EE (tCB (rIsi K) (tCons ta (tCons (tC (.ty "str")) tNil))) ρ (.bool (isStrD d)) := ee_isi h (kStr d)
theorem ee_isiLst (h : EE ta ρ d) : EE (tCB (rIsi K) (tCons ta (tCons (tC (.ty "list")) tNil))) ρ (.bool (isLstD d)) := ee_isi h (kLst d)
theorem ee_isiTup (h : EE ta ρ d) : EE (tCB (rIsi K) (tCons ta (tCons (tC (.ty "tuple")) tNil))) ρ (.bool (isTupD d)) := ee_isi h (kTupl d)
theorem ee_all {bs : List Bool} (h : EE ta ρ (.list (bs.map PyData.bool))) : EE (tCB (rAll K) (tCons ta tNil)) ρ (.bool (bs.all id)) := fun own M σ H s a Q q => h own M σ H s a _ fun v H1 e1 r1 => by
  obtain ⟨p, xs, rfl, hp, rx⟩ := r1.is_lst
  rw [rx.bools] at hp
  exact ⟨p, bs, rfl, SqL.of (hide_ex _ _ hp), q _ H1 e1 (.bl _)⟩
theorem ee_any {bs : List Bool} (h : EE ta ρ (.list (bs.map PyData.bool))) : EE (tCB (rAny K) (tCons ta tNil)) ρ (.bool (bs.any id)) := fun own M σ H s a Q q => h own M σ H s a _ fun v H1 e1 r1 => by
  obtain ⟨p, xs, rfl, hp, rx⟩ := r1.is_lst
  rw [rx.bools] at hp
  exact ⟨p, bs, rfl, SqL.of (hide_ex _ _ hp), q _ H1 e1 (.bl _)⟩
theorem ee_maxL {n : Int} {ns : List Int} (h : EE ta ρ (.list ((n :: ns).map PyData.int))) : EE (tCB (rMax K) (tCons ta tNil)) ρ (.int (maxI n ns)) := fun own M σ H s a Q q => h own M σ H s a _ fun v H1 e1 r1 => by
  obtain ⟨p, xs, rfl, hp, rx⟩ := r1.is_lst
  rw [rx.ints] at hp
  exact ⟨p, n :: ns, rfl, SqL.of (hide_ex _ _ hp), by simp, fun m h1 h2 => by rw [maxI_unique h1 h2]; exact q _ H1 e1 (.int _)⟩
theorem ee_minL {n : Int} {ns : List Int} (h : EE ta ρ (.list ((n :: ns).map PyData.int))) : EE (tCB (rMin K) (tCons ta tNil)) ρ (.int (minI n ns)) := fun own M σ H s a Q q => h own M σ H s a _ fun v H1 e1 r1 => by
  obtain ⟨p, xs, rfl, hp, rx⟩ := r1.is_lst
  rw [rx.ints] at hp
  exact ⟨p, n :: ns, rfl, SqL.of (hide_ex _ _ hp), by simp, fun m h1 h2 => by rw [minI_unique h1 h2]; exact q _ H1 e1 (.int _)⟩
def rMax2 : List V → Hp → VK → Prop := fun xs H Q => ∃ i j, xs = [.int i, .int j] ∧ Q (.int (if j > i then j else i)) H
theorem dMax2 {X : Cx} (hc : X.calm = true) : CallR X (.builtin "max") rMax2 := call_max2 hc
theorem ee_max2 (ha : EE ta ρ (.int i)) (hb : EE tb ρ (.int j)) : EE (tCB rMax2 (tCons ta (tCons tb tNil))) ρ (.int (max i j)) := fun own M σ H s a Q q =>
  ha own M σ H s a _ fun v H1 e1 r1 => hb own M σ H1 (s.up e1) (a.up e1) _ fun u H2 e2 r2 => by
    rw [r1.is_int, r2.is_int]
    refine ⟨i, j, rfl, ?_⟩
    have e : (if j > i then j else i) = max i j := by split <;> omega
    rw [e]
    exact q _ H2 (e1.trans e2) (.int _)
/-- sorted(xs), ints -/
def sortI (ns : List Int) : List Int := ns.mergeSort (fun a b => decide (a ≤ b))
theorem sorted_one {ns ms : List Int} (h1 : ms.Perm ns) (h2 : ms.Pairwise (· ≤ ·)) : ms = sortI ns := by
  have h3 : (sortI ns).Perm ns := List.mergeSort_perm ns _
  have h4 : (sortI ns).Pairwise (· ≤ ·) := by
    have := List.pairwise_mergeSort (le := fun a b : Int => decide (a ≤ b)) (fun a b c h1 h2 => by simp at h1 h2 ⊢; omega) (fun a b => by simp; omega) ns
    exact this.imp fun {a b} h => of_decide_eq_true h
  exact (h1.trans h3.symm).eq_of_pairwise (fun a b _ _ h1 h2 => by omega) h2 h4
theorem el_sortedL {ns : List Int} (h : EE ta ρ (.list (ns.map PyData.int))) : EL (tCB (rSortedI K) (tCons ta tNil)) ρ ((sortI ns).map PyData.int) := fun own M σ H s a Q q => h own M σ H s a _ fun v H1 e1 r1 => by
  obtain ⟨p, xs, rfl, hp, rx⟩ := r1.is_lst
  rw [rx.ints] at hp
  exact ⟨p, ns, rfl, SqL.of (hide_ex _ _ hp), fun ms u h1 h2 hu => by
    rw [sorted_one h1 h2]
    exact q u _ _ (Evl.fresh_back e1 hu) (e1.trans (Ex.new hu)) upd_same (RpAll.of_ints (sortI ns))⟩
theorem el_listOf {ys : List PyData} (h : EE ta ρ (.tuple ys)) : EL (tCB (Evl.rListS K) (tCons ta tNil)) ρ ys := fun own M σ H s a Q q => h own M σ H s a _ fun v H1 e1 r1 => by
  obtain ⟨p, xs, rfl, hp, rx⟩ := r1.is_tup
  exact ⟨p, xs, rfl, .inr ((hp.up hide_ex).sq), fun u hu => q u xs _ (Evl.fresh_back e1 hu) (e1.trans (Ex.new hu)) upd_same (rx.up (hide_new (Ex.new hu) hu))⟩
theorem dList {X : Cx} : CallR X (.type "list") (Evl.rListS X.K) := call_list_of
theorem ee_tupleOf (h : EE ta ρ (.list ds)) : EE (fTupOf K ta) ρ (.tuple ds) := fun own M σ H s a Q q => h own M σ H s a _ fun v H1 e1 r1 => by
  obtain ⟨p, xs, rfl, hp, rx⟩ := r1.is_lst
  exact ⟨p, xs, rfl, SqL.of (hide_ex _ _ hp), fun u o hu ho => q _ _ (e1.trans (Ex.new hu)) (rp_newT hu ho (a.up e1) rx)⟩
def rgD (a b : Int) : List PyData := (List.range (b - a).toNat).map fun i => PyData.int (a + (i : Nat))
theorem rg_rp {H : Hp} {a b : Int} : RpAll H (rgV a b) (rgD a b) := by
  unfold rgV rgD
  have := RpAll.of_ints (H := H) ((List.range (b - a).toNat).map fun i => a + (i : Nat))
  rw [List.map_map, List.map_map] at this
  exact this
theorem el_listRg1 {n : Int} (h : EE ta ρ (.int n)) (h0 : 0 ≤ n) (h1 : n ≤ 100000) : EL (tLstRg (tRg1 ta)) ρ (rgD 0 n) := fun own M σ H s a Q q => h own M σ H s a _ fun v H1 e1 r1 => by
  rw [r1.is_int]
  exact ⟨n, rfl, ⟨by omega, by omega, by omega, by omega, by omega⟩, fun u hu => q u _ _ (Evl.fresh_back e1 hu) (e1.trans (Ex.new hu)) upd_same rg_rp⟩
theorem ee_tupRg1 {n : Int} (h : EE ta ρ (.int n)) (h0 : 0 ≤ n) (h1 : n ≤ 100000) : EE (fTupRg (tRg1 ta)) ρ (.tuple (rgD 0 n)) := fun own M σ H s a Q q => h own M σ H s a _ fun v H1 e1 r1 => by
  rw [r1.is_int]
  exact ⟨n, rfl, ⟨by omega, by omega, by omega, by omega, by omega⟩, fun u o hu ho => q _ _ (e1.trans (Ex.new hu)) (rp_newT hu ho (a.up e1) rg_rp)⟩
end
end R60

end -- D2
section -- D3
set_option Elab.async false
set_option linter.all false
set_option maxRecDepth 100000
set_option maxHeartbeats 4000000
/-! Comprehensions over data. -/
namespace R60
open PySem PySem.Spec PyProof.Rows L2 RZ
open Evl (Ex)
/-! ### a list or a tuple, walked -/
def iSeq (K : PySem.W.Frag) (tl : TE) : TI := fun σ H R => tl σ H fun x H1 => ∃ a, x = .ref a ∧ (((∃ xs, SqL K H1 a xs) ∧ R (Itl K a) H1) ∨ ((∃ xs, SqT K H1 a xs) ∧ R (Itt K a) H1))
theorem pi_seq {X : Cx} {tg l : Expr} {tl : TE} (hl : PE X l tl) : PI X tg l (iSeq X.K tl) := by
  refine ⟨fun pins s σ H R I h => ?_⟩
  refine thn (hl.run pins s σ H _ I h) fun v s1 ⟨x, H1, I1, r1, q1⟩ => ?_
  obtain ⟨a, e, q⟩ := q1
  subst e
  cases r1
  rcases q with ⟨⟨xs, hq⟩, q⟩ | ⟨⟨xs, hq⟩, q⟩
  · obtain ⟨its, rv, p, hz⟩ := I1.list hq
    refine wpAny_pyIter_list p.isList ?_
    refine ⟨s1.heap.objs.size, [s1.heap.objs.size], _, _, H1, rfl, I1.kept (t' := s1.toks) fun b o e => Heap.get?_push_of_some _ e, turn_list a _, ⟨_, Heap.get?_push_size _ rfl, rfl, rfl⟩, fun b hb => ?_, q⟩
    have e : b = s1.heap.objs.size := by simpa using hb
    subst e
    exact I1.fpOk (Nat.le_refl _) (I1.hok.fresh (Nat.le_refl _))
  · obtain ⟨its, rv, p, hz⟩ := I1.tuple hq
    refine wpAny_pyIter_tuple (show s1.heap.IsTuple a its.toArray from p) ?_
    refine ⟨s1.heap.objs.size, [s1.heap.objs.size], _, _, H1, rfl, I1.kept (t' := s1.toks) fun b o e => Heap.get?_push_of_some _ e, turn_tuple a _, ⟨_, Heap.get?_push_size _ rfl, rfl, rfl⟩, fun b hb => ?_, q⟩
    have e : b = s1.heap.objs.size := by simpa using hb
    subst e
    exact I1.fpOk (Nat.le_refl _) (I1.hok.fresh (Nat.le_refl _))

section
variable {own M : List Addr} {σ : L2.St} {H H' : Hp} {ρ : List Sl}
theorem SlOk.new {D : Addr} (e : Ex H H') (hD : H D = none) : ∀ {x : Option V} {s : Sl}, SlOk own M H x s → SlOk own (D :: M) H' x s
  | _, .no, _ => by unfold SlOk; trivial
  | some v, .dat d, h => Rp.up (hide_new e hD) h
  | none, .dat d, h => h.elim
  | some (.ref p), .mut ds, h => by
    obtain ⟨h1, vs, h2, h3⟩ := (show p ∈ own ∧ ∃ vs, H p = some (.lst vs) ∧ RpAll (hide M H) vs ds from h)
    exact ⟨h1, vs, e _ _ h2, h3.up (hide_new e hD)⟩
  | none, .mut ds, h => h.elim
  | some .non, .mut ds, h => h.elim
  | some (.bl _), .mut ds, h => h.elim
  | some (.int _), .mut ds, h => h.elim
  | some (.str _), .mut ds, h => h.elim
  | some (.byt _), .mut ds, h => h.elim
  | some (.flt _), .mut ds, h => h.elim
  | some (.ty _), .mut ds, h => h.elim
  | none, .fix w, h => h.elim
  | some v, .fix w, h => SlOk.fixI (SlOk.fixE h)
theorem SE.new {D : Addr} (h : SE own M σ H ρ) (e : Ex H H') (hD : H D = none) : SE own (D :: M) σ H' ρ := ⟨h.len, fun i s hs => by
  obtain ⟨x, h1, h2⟩ := h.at_ i s hs
  exact ⟨x, h1, h2.new e hD⟩⟩
end
/-! ### one turn of a comprehension: the new list at D holds out -/
def Cv (H1 : Hp) (D : Addr) (M : List Addr) (out : List PyData) (H' : Hp) : Prop := H1 D = none ∧ Ex H1 H' ∧ ∃ acc, H' D = some (.lst acc) ∧ RpAll (hide (D :: M) H') acc out
theorem cv_first {H1 : Hp} {D : Addr} {M : List Addr} (hD : H1 D = none) : Cv H1 D M [] (upd H1 D (.lst [])) := ⟨hD, Ex.new hD, [], upd_same, .nil⟩
theorem Cv.se {H H1 H' : Hp} {D : Addr} {own M : List Addr} {out : List PyData} {σ : L2.St} {ρ : List Sl} (p : Cv H1 D M out H') (s : SE own M σ H1 ρ) : SE own (D :: M) σ H' ρ := s.new p.2.1 p.1
theorem Cv.al {H1 H' : Hp} {D : Addr} {M : List Addr} {out : List PyData} (p : Cv H1 D M out H') (a : Al M H1) : Al (D :: M) H' := by
  obtain ⟨_, e, acc, h, _⟩ := p
  exact (a.up e).cons h
theorem cv_turn {H1 H' : Hp} {D : Addr} {own M : List Addr} {out out' : List PyData} {σ2 : L2.St} {ρ' : List Sl} {tt : TT} {te : TE} {b : Bool} {d : PyData} {Pn : Hp → Prop} (p : Cv H1 D M out H') (s : SE own (D :: M) σ2 H' ρ') (a : Al M H1)
    (ht : ET tt ρ' b) (he : b = true → EE te ρ' d) (hl : out.length < 100000) (ho : out' = if b then out ++ [d] else out) (hn : ∀ H2, Cv H1 D M out' H2 → Pn H2) :
    tt σ2 H' fun b H3 => if b = true then te σ2 H3 fun y H4 => ∃ acc, H4 D = some (.lst acc) ∧ acc.length < sizeLine ∧ Pn (upd H4 D (.lst (acc ++ [y]))) else Pn H3 := by
  have al := p.al a
  obtain ⟨p1, p2, acc, p3, p4⟩ := p
  refine ht own (D :: M) σ2 H' s al _ fun H3 e3 => ?_
  cases b with
  | true =>
    show te σ2 H3 fun y H4 => ∃ acc, H4 D = some (.lst acc) ∧ acc.length < sizeLine ∧ Pn (upd H4 D (.lst (acc ++ [y])))
    refine he rfl own (D :: M) σ2 H3 (s.up e3) (al.up e3) _ fun y H4 e4 r4 => ⟨acc, e4 D _ (e3 D _ p3), by rw [p4.len]; exact Evl.sz_lt hl, hn _ ⟨p1, Ex.mut (p2.trans (e3.trans e4)) p1, acc ++ [y], upd_same, ?_⟩⟩
    rw [hide_upd List.mem_cons_self, ho]
    exact (p4.up (hide_mono (e3.trans e4))).append (.cons r4 .nil)
  | false =>
    show Pn H3
    refine hn _ ⟨p1, p2.trans e3, acc, e3 D _ p3, ?_⟩
    rw [ho]
    exact p4.up (hide_mono e3)
theorem wipe1 {σ : L2.St} {j : Nat} (x : Option V) : wipe ((wipe σ [j]).set j x) [j] = wipe σ [j] := by
  show (((σ.set j none).set j x).set j none) = σ.set j none
  rw [List.set_set, List.set_set]
section
variable {ρ : List Sl} {tl te : TE} {tt : TT} {K : PySem.W.Frag} {j : Nat} {α : Type}
theorem take_snoc {l : List α} {i : Nat} {a : α} (h : l[i]? = some a) : l.take (i + 1) = l.take i ++ [a] := by
  obtain ⟨hl, e⟩ := List.getElem?_eq_some_iff.mp h
  rw [List.take_succ_eq_append_getElem hl, e]
theorem fm_snoc {l : List α} {i : Nat} {a : α} (c : α → Bool) (f : α → PyData) (h : l[i]? = some a) : ((l.take (i + 1)).filter c).map f = if c a then ((l.take i).filter c).map f ++ [f a] else ((l.take i).filter c).map f := by
  rw [take_snoc h, List.filter_append, List.map_append, List.filter_cons, List.filter_nil]
  cases c a with
  | true => rfl
  | false => simp
theorem fm_len {l : List α} {i : Nat} (c : α → Bool) (f : α → PyData) : (((l.take i).filter c).map f).length ≤ l.length := by
  rw [List.length_map]
  have h1 := List.length_filter_le c (l.take i)
  rw [List.length_take] at h1
  omega
/-- [elt for x in seq if test], over a tuple or a list of data -/
theorem el_lc {l : List α} {enc : α → PyData} (c : α → Bool) (f : α → PyData) (h : EE tl ρ (.tuple (l.map enc)) ∨ EE tl ρ (.list (l.map enc))) (hz : l.length ≤ 50000)
    (ht : ∀ a ∈ l, ET tt ((wipeS ρ [j]).set j (.dat (enc a))) (c a)) (he : ∀ a ∈ l, c a = true → EE te ((wipeS ρ [j]).set j (.dat (enc a))) (f a)) : EL (tLc (iSeq K tl) (gName j) tt te [j]) ρ ((l.filter c).map f) := by
  intro own M σ H s al Q q
  have go : ∀ (a : Addr) (xs : List V) (H1 : Hp) (J : It) (G : Hp → Prop), Ex H H1 → RpAll (hide M H1) xs (l.map enc) → Walk J xs.length G (YAt xs) → (∀ H', Ex H1 H' → G H') → (∀ D : Addr, H1 D = none → ∃ W : Nat → Nat → Hp → Prop, (∃ m, W 0 m (upd H1 D (.lst []))) ∧ ∀ i m H, W i m H →
      (J.stop i H ∧ Q (.ref D) H) ∨ (J.go i H ∧ ∃ Nx : Hp → Prop, (∀ H', Nx H' → ∃ m', m' < m ∧ W (i + 1) m' H') ∧ ∀ x H', J.yld i H x H' → (gName j) x (wipe σ [j]) H' fun σ2 H2 => wipe σ2 [j] = wipe σ [j] ∧ tt σ2 H2 fun b H3 =>
        if b = true then te σ2 H3 fun y H4 => ∃ acc, H4 D = some (.lst acc) ∧ acc.length < sizeLine ∧ Nx (upd H4 D (.lst (acc ++ [y]))) else Nx H3)) := by
    intro a xs H1 J G e1 r w hG D hD
    have hlen : xs.length = l.length := by rw [r.len, List.length_map]
    refine lc_it w (fun i H' => Cv H1 D M (((l.take i).filter c).map f) H') (cv_first hD) (fun i H' hi p => hG H' p.2.1) (fun i x H' H'' hi p y => ?_) (fun H' p => ?_)
    · obtain ⟨rfl, hx⟩ := y
      have hil : i < l.length := by omega
      have hla : l[i]? = some l[i] := List.getElem?_eq_getElem hil
      obtain ⟨v, hv, rv⟩ := r.get (i := i) (d := enc l[i]) (by rw [List.getElem?_map, hla]; rfl)
      rw [hx] at hv
      cases hv
      refine ⟨wipe1 _, ?_⟩
      have se : SE own (D :: M) ((wipe σ [j]).set j (some x)) H'' ((wipeS ρ [j]).set j (.dat (enc l[i]))) := ((p.se (H := H) (s.up e1)).wipe [j]).set j (rv.up (hide_new p.2.1 hD))
      exact cv_turn p se (al.up e1) (ht _ (List.getElem_mem hil)) (he _ (List.getElem_mem hil)) (by have := fm_len (l := l) (i := i) c f; omega) (fm_snoc c f hla) fun _ z => z
    · rw [hlen, List.take_length] at p
      obtain ⟨p1, p2, acc, p3, p4⟩ := p
      exact q D acc H' (Evl.fresh_back e1 hD) (e1.trans p2) p3 p4
  rcases h with h | h
  · refine h own M σ H s al _ fun v H1 e1 r1 => ?_
    obtain ⟨a, xs, rfl, hp, rx⟩ := r1.is_tup
    exact ⟨a, rfl, .inr ⟨⟨xs, (hp.up hide_ex).sq⟩, go a xs H1 _ _ e1 rx walk_tup fun H' e => ((hp.up hide_ex).up e).sq⟩⟩
  · refine h own M σ H s al _ fun v H1 e1 r1 => ?_
    obtain ⟨a, xs, rfl, hp, rx⟩ := r1.is_lst
    exact ⟨a, rfl, .inl ⟨⟨xs, SqL.of (hide_ex _ _ hp)⟩, go a xs H1 _ _ e1 rx walk_list fun H' e => SqL.of (e _ _ (hide_ex _ _ hp))⟩⟩
/-- over range(n) -/
theorem el_lcR {n : Nat} (c : Nat → Bool) (f : Nat → PyData) (h : EA ta ρ [.int (n : Int)]) (hz : n ≤ 50000)
    (ht : ∀ k, k < n → ET tt ((wipeS ρ [j]).set j (.dat (.int (k : Int)))) (c k)) (he : ∀ k, k < n → c k = true → EE te ((wipeS ρ [j]).set j (.dat (.int (k : Int)))) (f k)) : EL (tLc (iRng1 ta) (gName j) tt te [j]) ρ (((List.range n).filter c).map f) := by
  intro own M σ H s al Q q
  refine h own M σ H s al _ fun vs H1 e1 r1 => ?_
  obtain ⟨v, rfl, rv⟩ := r1.one
  rw [rv.is_int]
  refine ⟨n, rfl, by omega, by omega, fun D hD => ?_⟩
  have en : ((n : Int)).toNat = n := by omega
  rw [en]
  refine lc_it walk_range (fun i H' => Cv H1 D M ((((List.range n).take i).filter c).map f) H') (cv_first hD) (fun i H' hi p => trivial) (fun i x H' H'' hi p y => ?_) (fun H' p => ?_)
  · obtain ⟨rfl, hx⟩ := y
    have hla : (List.range n)[i]? = some i := List.getElem?_range hi
    have hx' : x = .int (i : Int) := by rw [hx]; show V.int ((0 : Int) + (i : Int)) = _; rw [Int.zero_add]
    subst hx'
    refine ⟨wipe1 _, ?_⟩
    have se : SE own (D :: M) ((wipe σ [j]).set j (some (.int (i : Int)))) H'' ((wipeS ρ [j]).set j (.dat (.int (i : Int)))) := ((p.se (H := H) (s.up e1)).wipe [j]).set j (.int _)
    exact cv_turn p se (al.up e1) (ht _ hi) (he _ hi) (by have := fm_len (l := List.range n) (i := i) c f; rw [List.length_range] at this; omega) (fm_snoc c f hla) fun _ z => z
  · have e : (List.range n).take n = List.range n := by
      have := List.take_length (l := List.range n)
      rwa [List.length_range] at this
    rw [e] at p
    obtain ⟨p1, p2, acc, p3, p4⟩ := p
    exact q D acc H' (Evl.fresh_back e1 hD) (e1.trans p2) p3 p4
end
end R60

end -- D3
section -- D4
set_option Elab.async false
set_option linter.all false
set_option maxRecDepth 100000
set_option maxHeartbeats 4000000
/-! Rules of our own: enumerate of a tuple, a tuple read backwards, index in a tuple of ints, the least of data. -/
namespace R60
open PySem PySem.Spec PyProof.Rows L2 RZ
open Evl (Ex)
/-! ### enumerate over a tuple -/
def ItN (K : PySem.W.Frag) (a : Addr) : It :=
  ⟨fun i H => ∃ (xs : List V) (x : V), SqT K H a xs ∧ xs[i]? = some x, fun i H v H' => ∃ T x, v = .ref T ∧ H T = none ∧ H' = upd H T (.tup [.int (i : Nat), x]) ∧ ∀ xs, SqT K H a xs → xs[i]? = some x, fun i H => ∃ xs : List V, SqT K H a xs ∧ xs.length = i⟩
theorem turnN {P : Program} {w : World} {K : PySem.W.Frag} {elts : List Expr} {kk : Nat} {tpos : Pos} (a e it : Addr) (hai : a ≠ it) (hae : e ≠ a) :
    Turn P w K (.Tuple elts kk tpos) (ItN K a) [e, it] e (fun i h => (∃ old, IsEnum h e it ((i : Nat) : Int) old) ∧ h.IsTupleIter it a i ∧ e ≠ it) where
  mem := by simp
  obj := fun i h st b hb => by
    obtain ⟨⟨old, he⟩, ⟨o, ho, hc, hd⟩, _⟩ := st
    rcases (show b = e ∨ b = it by simpa using hb) with z | z
    · rw [z]; exact ⟨_, he, fun v q => nomatch q⟩
    · rw [z]; exact ⟨o, ho, fun v q => by rw [hd] at q; cases q⟩
  keep := fun i h h' st k => let ⟨⟨old, he⟩, hi, hne⟩ := st; ⟨⟨old, k e (by simp) _ he⟩, hi.at fun o q => k it (by simp) o q, hne⟩
  item := by
    intro X hP hw hK hc i pins s σ H E I hf st hg
    subst hP hw hK
    obtain ⟨⟨old, he⟩, hit, hne⟩ := st
    obtain ⟨xs, x, hq, hx⟩ := hg
    obtain ⟨its, rv, p, hz⟩ := I.tuple hq
    obtain ⟨u, hu, ru⟩ := rv.get hx
    have hel : e < s.heap.objs.size := Heap.lt_size he
    have hil : it < s.heap.objs.size := by obtain ⟨_, q, _⟩ := hit; exact Heap.lt_size q
    have hin : i < its.toArray.size := by
      have := (List.getElem?_eq_some_iff.mp hu).1
      simpa using this
    have hef : e ∉ [it, a] := by
      intro z
      rcases (show e = it ∨ e = a by simpa using z) with z | z
      · exact hne z
      · exact hae z
    refine wpAny_pyNext_enum_itemC (Draws.tuple (A := X.A.in1) (by exact I.ok.hd hc) it a hai its.toArray) he ⟨hit, p⟩ hin hne hef fun y h' tk hy ho hst hT hsz hk => ?_
    obtain ⟨hit', _⟩ := hst
    have hyu : y = u := by
      have : its.toArray[i]? = some u := by simpa using hu
      rw [this] at hy
      exact (Option.some.inj hy).symm
    subst hyu
    refine ⟨_, rfl, wpAny_letOwnedTupleGo_enum (s := { s with heap := h', toks := tk + 1 }) ho fun h'' he' sb => ?_⟩
    have hT2 : h''.get? s.heap.objs.size = some { cls := .type "tuple", data := .seq #[.int i tk, y] } := (sb.2 _ (Nat.ne_of_gt hel)).trans hT
    have new : ObjOk X.prog X.w (upd H s.heap.objs.size (.tup [.int (i : Nat), x])) h'' s.heap.objs.size (.tup [.int (i : Nat), x]) :=
      ⟨by show 2 ≤ sizeLine; decide, [.int i tk, y], .cons ⟨_, rfl⟩ (.cons ru .nil), ⟨_, hT2, rfl, _, rfl⟩⟩
    have I1 : Inv X pins σ (upd H s.heap.objs.size (.tup [.int (i : Nat), x])) { s with heap := h'', toks := tk + 1 } :=
      I.turnedNew (ch := [e, it]) (fun b ob hb q => (sb.2 b (fun z => hb (by simp [z]))).trans (hk b ob (fun z => hb (by simp [z])) (fun z => hb (by simp [z])) q)) hf (Nat.le_refl _) new
    refine ⟨.ref s.heap.objs.size, _, I1, rfl, ⟨_, x, rfl, I.hok.fresh (Nat.le_refl _), rfl, fun ys hy => by rw [I.tuple_inj hy hq]; exact hx⟩, ⟨⟨y, ?_⟩, hit'.at fun o q => (sb.2 it (Ne.symm hne)).trans q, hne⟩, fun b hb => ?_⟩
    · rw [show ((i + 1 : Nat) : Int) = (i : Int) + 1 by omega]; exact he'
    · have hb' : b < s.heap.objs.size := by
        rcases (show b = e ∨ b = it by simpa using hb) with z | z
        · rw [z]; exact hel
        · rw [z]; exact hil
      rw [upd_ne (Nat.ne_of_lt hb')]
      exact (hf b hb).1
  done := by
    intro X hP hw hK hc i pins s σ H E I hf st hg
    subst hP hw hK
    obtain ⟨⟨old, he⟩, hit, hne⟩ := st
    obtain ⟨xs, hq, hx⟩ := hg
    obtain ⟨its, rv, p, hz⟩ := I.tuple hq
    obtain ⟨f0, f1, f2, f3, f4, f5⟩ := hf it (by simp)
    have hl := rv.length
    have hsz : its.toArray.size = i := by simp; omega
    exact wpAny_pyNext_enum_endD (Draws.tuple (A := X.A.in1) (by exact I.ok.hd hc) it a hai its.toArray) he ⟨by rw [hsz]; exact hit, p⟩ fun h' eb => ⟨rfl, I.turned (t' := s.toks) (fun b o hb q => eb b o hb q) f0 f1 f3 f4 f5⟩
  self := fun A i s Q E st h => let ⟨⟨_, he⟩, _⟩ := st; wpAny_pyIter_enum he h
def iEnumT (K : PySem.W.Frag) (ta : TA) : TI := fun σ H R => ta σ H fun vs H1 => ∃ a xs, vs = [.ref a] ∧ SqT K H1 a xs ∧ R (ItN K a) H1
theorem pi_enumT {X : Cx} {e : Expr} {ta : TA} {p pos tpos : Pos} {elts : List Expr} {kk : Nat} (hg : Gl X "enumerate") (hm : X.mg "enumerate" = none) (ha : PA X [e] ta) (hs : starEach [e] X.env = [(false, eval e X.env)] := by rfl) :
    PI X (.Tuple elts kk tpos) (.Call (.Name "enumerate" p) [e] [] pos) (iEnumT X.K ta) := by
  refine ⟨fun pins s σ H R I h => ?_⟩
  refine Call_ (ld_blt I hg hm boot_enumerate (PyProof.Rows.callWith_type1 (thn (ha.run pos pins s σ H _ I h) fun us s1 ⟨vs, H1, I1, r1, q1⟩ => ?_) hs rfl))
  obtain ⟨a, xs, rfl, hq, q⟩ := q1
  cases r1 with
  | cons r rr =>
    cases rr
    cases r
    obtain ⟨its, rv, p', hz⟩ := I1.tuple hq
    have hal : a < s1.heap.objs.size := by obtain ⟨o, ho, _⟩ := p'; exact Heap.lt_size ho
    refine enumCallT p' fun h' he hit hsz hk => wpAny_pyIter_enum he ?_
    have I2 : Inv X pins σ H1 { s1 with heap := h' } := I1.kept (t' := s1.toks) hk
    refine ⟨s1.heap.objs.size + 1, [s1.heap.objs.size + 1, s1.heap.objs.size], _, _, H1, rfl, I2, turnN a (s1.heap.objs.size + 1) s1.heap.objs.size (Nat.ne_of_lt hal) (Nat.ne_of_gt (Nat.lt_succ_of_lt hal)), ⟨⟨.none, he⟩, hit, Nat.succ_ne_self _⟩, fun b hb => ?_, q⟩
    have hle : s1.heap.objs.size ≤ b := by
      rcases (show b = s1.heap.objs.size + 1 ∨ b = s1.heap.objs.size by simpa using hb) with z | z
      · rw [z]; exact Nat.le_add_right _ _
      · rw [z]; exact Nat.le_refl _
    exact I1.fpOk hle (I1.hok.fresh hle)
theorem walkN {K : PySem.W.Frag} {a : Addr} {xs : List V} : Walk (ItN K a) xs.length (fun H => SqT K H a xs) (YPair (fun i => some (.int (i : Nat))) (fun i => xs[i]?)) := by
  refine ⟨fun i _ hi q => ⟨xs, xs[i], q, by simp [hi]⟩, fun _ q => ⟨xs, q, rfl⟩, fun i H v H' _ q y => ?_⟩
  obtain ⟨T, x, h1, h2, h3, h4⟩ := y
  exact ⟨T, .int (i : Nat), x, h1, h2, h3, rfl, h4 xs q⟩
theorem walkZT {K : PySem.W.Frag} {a b : Addr} {xs ys : List V} {n : Nat} (hn : n = min xs.length ys.length) : Walk (ItzT K a b) n (fun H => SqT K H a xs ∧ SqT K H b ys) (YPair (fun i => xs[i]?) (fun i => ys[i]?)) := by
  subst hn
  refine ⟨fun i _ hi q => ?_, fun _ q => ⟨xs, ys, q.1, q.2, by omega⟩, fun i H v H' _ q y => ?_⟩
  · have h1 : i < xs.length := by omega
    have h2 : i < ys.length := by omega
    exact ⟨xs, ys, xs[i], ys[i], q.1, q.2, by simp [h1], by simp [h2]⟩
  · obtain ⟨T, x, z, h1, h2, h3, h4, h5⟩ := y
    exact ⟨T, x, z, h1, h2, h3, h4 xs q.1, h5 ys q.2⟩
/-! ### a tuple read backwards -/
theorem back_places (n : Nat) : Builtin.Slice.slicePlaces ((n : Int) - 1) (-1) (-1) = n := by
  unfold Builtin.Slice.slicePlaces
  have h1 : ¬ ((-1 : Int) > 0) := by decide
  rw [if_neg h1]
  by_cases h : (n : Int) - 1 > -1
  · rw [if_pos h, show (- -1 : Int) = 1 by decide, Int.ediv_one]
    omega
  · rw [if_neg h]
    omega
theorem back_adjust (n : Nat) : Builtin.Slice.sliceAdjust none none (-1) (n : Int) = ((n : Int) - 1, -1) := by
  unfold Builtin.Slice.sliceAdjust
  simp
theorem back_items (xs : List Value) : (List.range xs.length).filterMap (fun k : Nat => xs[(((xs.length : Nat) : Int) - 1 + (k : Int) * -1).toNat]?) = xs.reverse := by
  have e : (List.range xs.length).filterMap (fun k : Nat => xs[(((xs.length : Nat) : Int) - 1 + (k : Int) * -1).toNat]?) = (List.range xs.length).filterMap fun k : Nat => some (xs.reverse.getD k .none) := by
    apply fm_congr
    intro k hk
    have hk' := List.mem_range.mp hk
    have e1 : (((xs.length : Nat) : Int) - 1 + (k : Int) * -1).toNat = xs.length - 1 - k := by omega
    rw [e1, List.getElem?_eq_getElem (by omega), List.getD_eq_getElem?_getD, List.getElem?_reverse hk', List.getElem?_eq_getElem (by omega)]
    rfl
  have e2 : ∀ l : List Nat, l.filterMap (fun k => some (xs.reverse.getD k .none)) = l.map fun k => xs.reverse.getD k .none := fun l => by
    induction l with
    | nil => rfl
    | cons a l ih => rw [List.filterMap_cons, List.map_cons, ih]
  rw [e, e2]
  apply List.ext_getElem?
  intro k
  rw [List.getElem?_map]
  by_cases h : k < xs.length
  · rw [List.getElem?_range h, List.getElem?_reverse h]
    show some (xs.reverse.getD k .none) = _
    rw [List.getD_eq_getElem?_getD, List.getElem?_reverse h, List.getElem?_eq_getElem (by omega)]
    rfl
  · rw [List.getElem?_eq_none_iff.mpr (by simpa using h), List.getElem?_eq_none_iff.mpr (by simpa using h)]
    rfl
section
variable {prog : Program} {w : World} {A : Around} {E : Value → Shared → Prop} {s : Shared}
theorem back_applied {sl : Addr} {vl vu vs : Value} {n : Nat} {Q : Int × Int × Nat → Shared → Prop} (hs : s.heap.IsSliceOf sl vl vu vs) (pl : IsPart vl none) (pu : IsPart vu none) (ps : IsPart vs (some (-1)))
    (h : Q ((n : Int) - 1, -1, n) s) : wpAny (model prog w) A (Builtin.Slice.sliceApplied (.ref sl) (pure (n : Int))) Q E s := by
  obtain ⟨os, hos, hcs, hds⟩ := id hs
  unfold Builtin.Slice.sliceApplied Builtin.Slice.sliceFields
  refine wpAny_bind (wpAny_bind (wpAny_field hos hds (x := vl) rfl (wpAny_bind (wpAny_field hos hds (x := vu) rfl (wpAny_bind (wpAny_field hos hds (x := vs) rfl (wpAny_pure ?_)))))))
  refine wpAny_bind (HT.slicePart_ ps ?_)
  show wpAny _ _ (if ((-1 : Int) == 0) = true then _ else _) _ _ s
  rw [if_neg (by decide)]
  refine wpAny_bind (HT.slicePart_ pl (wpAny_bind (HT.slicePart_ pu (wpAny_bind (wpAny_pure ?_)))))
  show wpAny _ _ (match Builtin.Slice.sliceAdjust none none (-1) (n : Int) with | (lo, hi) => pure (lo, (-1 : Int), Builtin.Slice.slicePlaces lo hi (-1))) _ _ s
  rw [back_adjust]
  show wpAny _ _ (pure ((n : Int) - 1, (-1 : Int), Builtin.Slice.slicePlaces ((n : Int) - 1) (-1) (-1))) _ _ s
  rw [back_places]
  exact wpAny_pure h
theorem getItem_back {t sl : Addr} {items : Array Value} {vl vu vs : Value} {Q : Value → Shared → Prop} (ht : IsTup s.heap t items) (hs : s.heap.IsSliceOf sl vl vu vs) (pl : IsPart vl none) (pu : IsPart vu none) (ps : IsPart vs (some (-1)))
    (h : Q (.ref s.heap.objs.size) { s with heap := s.heap.push { cls := .type "tuple", data := .seq items.toList.reverse.toArray } }) (hsz : items.size ≤ sizeLine) : wpAny (model prog w) A (getItem (.ref t) (.ref sl)) Q E s := by
  have hmade : sizeOk (.seq items.toList.reverse.toArray) := by
    show items.toList.reverse.toArray.size ≤ sizeLine
    simpa using hsz
  obtain ⟨os, hos, hcs, hds⟩ := id hs
  have hTs : s.TypeIs (.ref sl) "slice" := ⟨os, hos, hcs⟩
  unfold getItem
  try with_reducible refine wpAny_holding ?_
  first | refine wpAny_bind (wpAny_pure ?_) | skip
  refine wpAny_bind (wpAny_sequenceKey ht.typeIs (by decide) ?_)
  refine wpAny_bind (wpAny_callSpecial?_slot (name := Str.ofString "__getitem__") ht.typeIs PyProof.Rows.slot_tuple_getitem
    (wpAny_call_entry PyProof.Rows.slot_tuple_getitem ht.typeIs entry_tuple_getitem ?_ (args_tuple_getitem _ _)))
  show wpAny _ _ (Builtin.Tuple.tupleItemsOf (.ref t) >>= _) _ _ s
  refine wpAny_bind (tupleItemsOf_ ht ?_)
  refine wpAny_bind (wpAny_typeOf hTs ?_)
  rw [if_pos (by decide)]
  refine wpAny_bind (back_applied (n := items.size) hs pl pu ps ?_)
  have hno : ¬ ((((items.size : Int) - 1) == 0 && (-1 : Int) == 1 && items.size == items.size) = true) := by
    intro q
    rw [Bool.and_eq_true, Bool.and_eq_true] at q
    exact absurd q.1.2 (by decide)
  show wpAny _ _ (if (((items.size : Int) - 1) == 0 && (-1 : Int) == 1 && items.size == items.size) = true then _ else _) _ _ s
  have he : ((List.range items.size).filterMap fun (k : Nat) => items[((items.size : Int) - 1 + (k : Int) * -1).toNat]?) = items.toList.reverse := by
    have := back_items items.toList
    rw [Array.length_toList] at this
    rw [← this]
    apply fm_congr
    intro k _
    rw [Array.getElem?_toList]
  rw [if_neg hno, he]
  first
    | exact wpAny_bind (m := Builtin.Tuple.tupleExact _) (wpAny_newObj_type (wpAny_pure ⟨_, rfl, wpAny_pure h⟩) hmade)
    | exact wpAny_bind (m := Builtin.Tuple.tupleExact _) (wpAny_newObj_type (wpAny_bind (wpAny_pure (wpAny_pure ⟨_, rfl, wpAny_pure h⟩))) hmade)
    | exact wpAny_bind (wpAny_bind (m := Builtin.Tuple.tupleExact _) (wpAny_newObj_type (wpAny_pure (wpAny_pure ⟨_, rfl, wpAny_pure h⟩)) hmade))
    | exact wpAny_bind (wpAny_bind (m := Builtin.Tuple.tupleExact _) (wpAny_newObj_type (wpAny_pure ⟨_, rfl, wpAny_pure h⟩) hmade))
end
def tRevT (K : PySem.W.Frag) (te : TE) : TE := fun σ H Q => te σ H fun x H1 => ∃ a xs, x = .ref a ∧ SqT K H1 a xs ∧ NewT H1 xs.reverse Q
theorem pe_revT {X : Cx} {e : Expr} {te : TE} {k : Nat} {p1 p2 p3 pos : Pos} (he : PE X e te) : PE X (.Subscript e (.Slice none none (some (.UnaryOp .USub (.Constant (.int 1) k p1) p2)) p3) pos) (tRevT X.K te) := by
  refine ⟨fun pins s σ H Q I h => ?_⟩
  refine Subscript_ (thn (he.run pins s σ H _ I h) fun v s1 ⟨x, H1, I1, r1, q1⟩ => ?_)
  obtain ⟨a, xs, rfl, hx, q⟩ := q1
  cases r1
  have hst : PO X (some (.UnaryOp .USub (.Constant (.int 1) k p1) p2)) (tPart (tUn (rU fun i => .int (-i)) (tC (.int 1)))) := po_some (pe_un un_neg pe_int)
  refine wpAny_Slice (thn (po_none.run pins s1 σ H1 (fun o H2 => o = none ∧ H2 = H1) I1 ⟨rfl, rfl⟩) fun vl s2 ⟨l, H2, I2, pl, el, e2⟩ => ?_)
  subst el e2
  refine thn (po_none.run pins s2 σ H2 (fun o H3 => o = none ∧ H3 = H2) I2 ⟨rfl, rfl⟩) fun vu s3 ⟨u, H3, I3, pu, eu, e3⟩ => ?_
  subst eu e3
  refine thn (hst.run pins s3 σ H3 (fun o H4 => o = some (-1) ∧ H4 = H3) I3 ⟨1, rfl, -1, rfl, rfl, rfl⟩) fun vs s4 ⟨o, H4, I4, ps, eo, e4⟩ => ?_
  subst eo e4
  have I5 : Inv X pins σ H4 { s4 with heap := s4.heap.push { cls := .type "slice", data := .fields #[vl, vu, vs] } } := I4.kept (t' := s4.toks) fun b ob q => Heap.get?_push_of_some _ q
  obtain ⟨its, r, ht, hz⟩ := I5.tuple hx
  have hlen := r.length
  show wpAny (model X.prog X.w) X.A (subscriptTail e (.Slice none none (some (.UnaryOp .USub (.Constant (.int 1) k p1) p2)) p3) (.ref a) (.ref s4.heap.objs.size)) (EP X pins σ Q) X.xe { s4 with heap := s4.heap.push { cls := .type "slice", data := .fields #[vl, vu, vs] } }
  refine tail_any (ops := [.ref a, .ref s4.heap.objs.size]) ht.typeIs (PyProof.Rows.slot_tuple_getitem.lookup) ?_ (by with_unfolding_all rfl)
  refine getItem_back ht (Heap.IsSliceOf.new _ vl vu vs) pl pu ps ?_ (by rw [List.size_toArray]; omega)
  exact laidT (tk := s4.toks) I5 r.reverse (by rw [List.length_reverse]; exact hz) q
end R60

end -- D4
section -- D5
set_option Elab.async false
set_option linter.all false
set_option maxRecDepth 100000
set_option maxHeartbeats 4000000
/-! More rules of our own: a tuple read backwards, index in a tuple of ints, the least of data, sorted of a tuple of ints; comprehensions over pairs. -/
namespace R60
open PySem PySem.Spec PyProof.Rows L2 RZ
open Evl (Ex)
section
variable {ρ : List Sl} {ta tb tc te : TE} {tt tu : TT} {d e : PyData} {ds es : List PyData} {i j : Int} {b c : Bool} {K : PySem.W.Frag}
theorem ee_revT (ha : EE ta ρ (.tuple ds)) : EE (tRevT K ta) ρ (.tuple ds.reverse) := fun own M σ H s a Q q => ha own M σ H s a _ fun v H1 e1 r1 => by
  obtain ⟨p, xs, rfl, hp, r⟩ := r1.is_tup
  exact ⟨p, xs, rfl, (hp.up hide_ex).sq, fun u o hu ho => q _ _ (e1.trans (Ex.new hu)) (rp_newT hu ho (a.up e1) r.reverse)⟩
end
/-! ### t.index(x) -/
def rIndexT (K : PySem.W.Frag) : V → List V → Hp → VK → Prop := fun x vs H Q => ∃ (a : Addr) (ns : List Int) (k : Int), x = .ref a ∧ vs = [.int k] ∧ TupAt H a (ns.map V.int) ∧ k ∈ ns ∧ Q (.int (ns.idxOf k : Nat)) H
def tIdx (to : TE) (t : TA) : TE := fun σ H Q => to σ H fun x H1 => (∃ (a : Addr) (xs : List V), x = .ref a ∧ TupAt H1 a xs) ∧ t σ H1 fun vs H2 => ∃ (a : Addr) (ns : List Int) (k : Int), x = .ref a ∧ vs = [.int k] ∧ TupAt H2 a (ns.map V.int) ∧ k ∈ ns ∧ Q (.int (ns.idxOf k : Nat)) H2
section
variable {X : Cx} {o e : Expr} {es : List Expr} {to : TE} {t : TA} {apos cpos : Pos}
theorem pe_idx (ho : PE X o to) (ha : PA X [e] t)
    (hbase : attributeBase o "index" X.env (eval o X.env) = eval o X.env := by rfl)
    (hfew : ((backTo cpos (starEach [e] X.env)).all (fun x => !x.1) && (backToKw cpos (keywordEach [] X.env)).all (fun x => x.1.isSome)
      && decide ([e].length + ([] : List Keyword).length + (if ([] : List Keyword).isEmpty then 0 else 1) < 30)) = true := by rfl)
    (hline : (apos.endLine == cpos.line) = true := by rfl) (hs : starEach [e] X.env = (false, eval e X.env) :: starEach [] X.env := by rfl) :
    PE X (.Call (.Attribute o "index" apos) [e] [] cpos) (tIdx to t) := by
  refine ⟨fun pins s σ H Q I h => ?_⟩
  refine wpAny_Call_method_late hbase hfew hline rfl (thn (ho.run pins s σ H _ I h) fun v s1 ⟨x, H1, I1, r1, ty, q1⟩ => ?_)
  obtain ⟨a, xs, rfl, o0, h1, h2⟩ := ty
  cases r1
  obtain ⟨its0, rv0, ht0, hz0⟩ := I1.tuple (TupAt.sq ⟨o0, h1, h2⟩)
  have hd : ∃ ob, s1.heap.get? a = some ob ∧ ob.dict = none := ⟨o0, (I1.hok a _ h1).1, h2⟩
  refine ⟨"tuple", "tuple.index", PySem.F.plainAttrs_tuple, PySem.F.slot_tuple_index, PySem.F.type_tuple_index, ht0.typeIs, (fun a' e' => by cases e'; exact hd), ?_⟩
  have hA := ha.run cpos pins s1 σ H1 _ I1 q1
  rw [hs] at hA ⊢
  refine Calls.callWith_builtin (by show (false || (backTo cpos (starEach [] X.env)).any (·.1)) = false; rfl) (Calls.evalArgs_plain ?_)
  refine thn hA fun us s2 ⟨vs, H2, I2, r2, q2⟩ => ?_
  obtain ⟨a', ns, k, e1, rfl, ht2, hk, q⟩ := q2
  cases e1
  obtain ⟨u, rfl, ru⟩ := r2.one
  obtain ⟨tk, rfl⟩ := ru
  obtain ⟨its, rv, p, hz⟩ := I2.tuple ht2.sq
  exact PySem.SeqAt.tuple_index_ints (show s2.heap.IsTuple a its.toArray from p) rv.ints hk ⟨.int _, H2, I2.tok _, ⟨_, rfl⟩, q⟩
end
section
variable {ρ : List Sl} {ta tb tc te : TE} {k : Int} {ns : List Int} {K : PySem.W.Frag}
theorem ee_idx (ha : EE ta ρ (.tuple (ns.map PyData.int))) (hb : EE tb ρ (.int k)) (hk : k ∈ ns) : EE (tIdx ta (tCons tb tNil)) ρ (.int (ns.idxOf k : Nat)) := fun own M σ H s a Q q =>
  ha own M σ H s a _ fun v H1 e1 r1 => by
    obtain ⟨p, xs, rfl, hp, r⟩ := r1.is_tup
    refine ⟨⟨p, xs, rfl, hp.up hide_ex⟩, hb own M σ H1 (s.up e1) (a.up e1) _ fun y H2 e2 r2 => ?_⟩
    rw [r2.is_int]
    rw [r.ints] at hp
    exact ⟨p, ns, k, rfl, rfl, (hp.up hide_ex).up e2, hk, q _ H2 (e1.trans e2) (.int _)⟩
end
/-! ### min of a list of data -/
section
open PySem.W (dataLt alike AlikeAll minD argBest_fold readsAll_len cmpIn_lt iter_listW moved_old)
variable {prog : Program} {w : World} {A : Around} {E : Value → Shared → Prop} {s : Shared}
/-- min of a list of alike data: which one it is -/
theorem min_list_at {l : Addr} {vs : Array Value} {x : PyData} {xs : List PyData} {as : List Addr} {Q : Value → Shared → Prop} (hh : A.handled = none) (hl : s.heap.IsList l vs) (hr : ReadsAll s.heap vs.toList (x :: xs) as) (ha : AlikeAll (x :: xs)) (hu : A.units + 1 + PyData.depthAll (x :: xs) < cLine)
    (h : ∀ (i : Nat) v h' tk, vs[i]? = some v → (x :: xs)[i]? = some (minD x xs) → (∀ b o, s.heap.get? b = some o → h'.get? b = some o) → Q v { s with heap := h', toks := tk }) :
    wpAny (model prog w) A (call (.builtin "min") [.ref l]) Q E s := by
  have hn : vs.size = xs.length + 1 := readsAll_len hr
  refine call_min_walkH (iter_listW (A := A.in1) hh hl fun s₂ e W st hfp hw hk => ?_)
  refine ⟨_, _, _, _, _, _, _, s.heap, _, rfl, W, st, hfp, by omega, hw, hk, cmpIn_lt (A := A.in1) hr ha (by show A.units + 1 + _ < _; exact hu), fun v s' hP m => ?_⟩
  obtain ⟨h', tk, rfl, hk'⟩ := moved_old e rfl m
  have e1 : vs.size - 1 = xs.length := by omega
  obtain ⟨e0, e2⟩ := argBest_fold dataLt PyData.none x xs xs.length (Nat.le_refl _)
  rw [List.take_length] at e2
  rw [e1] at hP
  refine h _ v h' tk hP ?_ hk'
  have hlt : argBest (fun i j => dataLt ((x :: xs).getD i PyData.none) ((x :: xs).getD j PyData.none)) xs.length < (x :: xs).length := by
    rw [List.length_cons]; omega
  rw [List.getElem?_eq_getElem hlt]
  rw [List.getD_eq_getElem?_getD, List.getElem?_eq_getElem hlt] at e2
  exact congrArg some e2
end
open PySem.W (dataLt alike AlikeAll minD) in
def rMinD (K : PySem.W.Frag) : List V → Hp → VK → Prop := fun vs H Q => ∃ (a : Addr) (xs : List V) (d : PyData) (ds : List PyData), vs = [.ref a] ∧ SqL K H a xs ∧ DpAll K H xs (d :: ds) ∧ AlikeAll (d :: ds) ∧ PyData.depthAll (d :: ds) ≤ 32 ∧
  ∀ (i : Nat) (v : V), xs[i]? = some v → (d :: ds)[i]? = some (minD d ds) → Q v H
theorem cr_minD {X : Cx} (hc : X.calm = true) (hu : X.A.units + 65 < cLine) : CallR X (.builtin "min") (rMinD X.K) := by
  intro pins s σ H vs us Q I r h
  obtain ⟨a, xs, d, ds, rfl, hs, hd, ha, hdp, q⟩ := h
  obtain ⟨its, rv, hl, hz⟩ := I.list hs
  rw [Vals.ref1 r]
  obtain ⟨as, hr⟩ := Dp.readsAll I (d :: ds) xs its hd rv
  refine min_list_at (I.ok.hd hc) hl.isList (by simpa using hr) ha (by omega) fun i v h' tk hv hi hk => ?_
  have hv' : its[i]? = some v := by simpa using hv
  have hxl : i < xs.length := by
    have := (List.getElem?_eq_some_iff.mp hv').1
    rw [← rv.length] at this
    exact this
  obtain ⟨u, hu', ru⟩ := rv.get (List.getElem?_eq_getElem hxl)
  rw [hv'] at hu'
  cases hu'
  exact ⟨xs[i], H, I.kept hk, ru, q i _ (List.getElem?_eq_getElem hxl) hi⟩
def rMinA (K : PySem.W.Frag) : List V → Hp → VK → Prop := fun vs H Q => rMin K vs H Q ∨ rMinD K vs H Q
theorem dMin {X : Cx} {k : Nat} (hc : X.calm = true) (hr : Room k X.A) : CallR X (.builtin "min") (rMinA X.K) := by
  intro pins s σ H vs us Q I r h
  rcases h with h | h
  · exact cr_min hc pins s σ H vs us Q I r h
  · exact cr_minD hc (by have := hr.un; omega) pins s σ H vs us Q I r h
section
open PySem.W (dataLt alike AlikeAll minD)
variable {ρ : List Sl} {ta : TE} {d : PyData} {ds : List PyData} {K : PySem.W.Frag}
theorem ee_minI {n : Int} {ns : List Int} (h : EE ta ρ (.list ((n :: ns).map PyData.int))) : EE (tCB (rMinA K) (tCons ta tNil)) ρ (.int (minI n ns)) := fun own M σ H s a Q q => h own M σ H s a _ fun v H1 e1 r1 => by
  obtain ⟨p, xs, rfl, hp, rx⟩ := r1.is_lst
  rw [rx.ints] at hp
  exact .inl ⟨p, n :: ns, rfl, SqL.of (hide_ex _ _ hp), by simp, fun m h1 h2 => by rw [minI_unique h1 h2]; exact q _ H1 e1 (.int _)⟩
theorem ee_minD (h : EE ta ρ (.list (d :: ds))) (ha : AlikeAll (d :: ds)) (hd : PyData.depthAll (d :: ds) ≤ 32) : EE (tCB (rMinA K) (tCons ta tNil)) ρ (minD d ds) := fun own M σ H s a Q q => h own M σ H s a _ fun v H1 e1 r1 => by
  obtain ⟨p, xs, rfl, hp, rx⟩ := r1.is_lst
  refine .inr ⟨p, xs, d, ds, rfl, SqL.of (hide_ex _ _ hp), RpAll.dp (rx.up hide_ex), ha, hd, fun i v hv hi => ?_⟩
  obtain ⟨d', h1, h2⟩ := rx.get' hv
  rw [hi] at h1
  cases h1
  exact q v H1 e1 h2
end
/-! ### sorted of a tuple of ints -/
def rSortedT (K : PySem.W.Frag) : List V → Hp → VK → Prop := fun vs H Q => ∃ (a : Addr) (ns : List Int), vs = [V.ref a] ∧ SqT K H a (ns.map V.int) ∧ ns.length < 64 ∧
  ∀ (ns' : List Int) (p : Addr), ns'.Perm ns → ns'.Pairwise (· ≤ ·) → H p = none → Q (.ref p) (upd H p (.lst (ns'.map V.int)))
theorem cr_sortedT {X : Cx} : CallR X (.builtin "sorted") (rSortedT X.K) := by
  intro pins s σ H xs us Q I r q
  obtain ⟨a, ns, rfl, hs, h64, q⟩ := q
  obtain ⟨its, rv, ⟨o, ho, hcl, n, hdt⟩, hz⟩ := I.tuple hs
  rw [Vals.ref1 r]
  have hi := rv.ints
  have hln : its.length = ns.length := by rw [← rv.length, List.length_map]
  have h16 : its.toArray.size ≤ sizeLine := by rw [List.size_toArray, hln, sizeLine_eq]; omega
  refine Calls.call_function_entry PyProof.Rows.kind_sorted PyProof.Rows.plain_sorted PyProof.Rows.entry_sorted (PyProof.Rows.args_sorted1 _) ?_
  unfold Builtin.«sorted»
  refine wpAny_bind (m := checkCount "sorted" 1 1 _) (wpAny_pure ?_)
  refine wpAny_bind (wpAny_collect_seq (A := X.A.in1) a (.inr rfl) ho hcl hdt (fun h' hk => ?_) h16)
  have I1 : Inv X pins σ H { s with heap := h' } := I.kept (t' := s.toks) hk
  refine wpAny_bind (wpAny_newList ?_ (by simpa using h16))
  have hoL : (h'.push (seqObj "list" its.toArray.toList.toArray 0)).get? h'.objs.size = some (seqObj "list" its.toArray.toList.toArray 0) := Heap.get?_push_size _ rfl
  show wpAny _ _ _ _ _ { s with heap := h'.push (seqObj "list" its.toArray.toList.toArray 0) }
  refine wpAny_bind (wpAny_holding (wpAny_call_entry PyProof.Rows.slot_list_sort ⟨_, hoL, rfl⟩ PyProof.Rows.entry_list_sort
    (PyProof.Rows.list_sort_tree (s := { s with heap := h'.push (seqObj "list" its.toArray.toList.toArray 0) }) hoL (by simpa using hi) (by simpa [hln] using h64) fun out ys g1 g2 g3 => ⟨_, rfl, ?_⟩) (PyProof.Rows.args_list_sort _)))
  obtain ⟨e', he'⟩ := PyProof.Rows.sortedHeap_at (vs := its.toArray.toList) (out := out) hoL
  have hlen : (ys.map V.int).length ≤ sizeLine := by
    rw [List.length_map, g2.length_eq]
    exact Nat.le_trans (Nat.le_of_lt h64) (by decide)
  refine wpAny_pure ⟨_, rfl, .ref h'.objs.size, upd H h'.objs.size (.lst (ys.map V.int)), I1.laid (t' := s.toks) (fun b u e => ?_) (Nat.le_refl _)
    (show ObjOk X.prog X.w _ _ _ (.lst (ys.map V.int)) from ⟨hlen, out.toList, e', vals_of_ints g1, by rw [Array.toArray_toList]; exact he'⟩), rfl, q ys _ g2 g3 (I1.hok.fresh (Nat.le_refl _))⟩
  have hb : b < h'.objs.size := Heap.lt_size e
  rw [PyProof.Rows.sortedHeap_old (Nat.ne_of_lt hb) (by rw [size_push']; exact Nat.lt_succ_of_lt hb)]
  exact Heap.get?_push_of_some _ e
def rSortedA (K : PySem.W.Frag) : List V → Hp → VK → Prop := fun vs H Q => rSortedI K vs H Q ∨ rSortedT K vs H Q
theorem dSorted {X : Cx} : CallR X (.builtin "sorted") (rSortedA X.K) := by
  intro pins s σ H vs us Q I r h
  rcases h with h | h
  · exact cr_sortedI pins s σ H vs us Q I r h
  · exact cr_sortedT pins s σ H vs us Q I r h
section
variable {ρ : List Sl} {ta : TE} {ns : List Int} {K : PySem.W.Frag}
theorem el_sortL (h : EE ta ρ (.list (ns.map PyData.int))) : EL (tCB (rSortedA K) (tCons ta tNil)) ρ ((sortI ns).map PyData.int) := fun own M σ H s a Q q => h own M σ H s a _ fun v H1 e1 r1 => by
  obtain ⟨p, xs, rfl, hp, rx⟩ := r1.is_lst
  rw [rx.ints] at hp
  exact .inl ⟨p, ns, rfl, SqL.of (hide_ex _ _ hp), fun ms u h1 h2 hu => by
    rw [sorted_one h1 h2]
    exact q u _ _ (Evl.fresh_back e1 hu) (e1.trans (Ex.new hu)) upd_same (RpAll.of_ints (sortI ns))⟩
theorem el_sortT (h : EE ta ρ (.tuple (ns.map PyData.int))) (hl : ns.length < 64) : EL (tCB (rSortedA K) (tCons ta tNil)) ρ ((sortI ns).map PyData.int) := fun own M σ H s a Q q => h own M σ H s a _ fun v H1 e1 r1 => by
  obtain ⟨p, xs, rfl, hp, rx⟩ := r1.is_tup
  rw [rx.ints] at hp
  exact .inr ⟨p, ns, rfl, (hp.up hide_ex).sq, hl, fun ms u h1 h2 hu => by
    rw [sorted_one h1 h2]
    exact q u _ _ (Evl.fresh_back e1 hu) (e1.trans (Ex.new hu)) upd_same (RpAll.of_ints (sortI ns))⟩
end
end R60

end -- D5
section -- D6
set_option Elab.async false
set_option linter.all false
set_option maxRecDepth 100000
set_option maxHeartbeats 4000000
/-! Anything that is walked, told by its items' data; targets; comprehensions in general. -/
namespace R60
open PySem PySem.Spec PyProof.Rows L2 RZ
open Evl (Ex)
/-! ### targets -/
def gNames : List Nat → TGs
  | [] => gNil
  | j :: js => gCons (gName j) (gNames js)
def gT (K : PySem.W.Frag) : List Nat → TG
  | [j] => gName j
  | js => gTup K js.length (gNames js)
def setsV (σ : L2.St) : List Nat → List V → L2.St
  | j :: js, v :: vs => setsV (σ.set j (some v)) js vs
  | _, _ => σ
def setsD (ρ : List Sl) : List Nat → List PyData → List Sl
  | j :: js, d :: ds => setsD (ρ.set j (.dat d)) js ds
  | _, _ => ρ
def bindT (tg : List Nat) (ρ : List Sl) (d : PyData) : Option (List Sl) :=
  match tg with
  | [j] => some (ρ.set j (.dat d))
  | js => match d with
    | .tuple ds => if ds.length = js.length then some (setsD ρ js ds) else none
    | _ => none
theorem gNames_run : ∀ (js : List Nat) (vs : List V) (σ : L2.St) (H : Hp) (Q : L2.St → Hp → Prop), vs.length = js.length → Q (setsV σ js vs) H → gNames js vs σ H Q
  | [], [], _, _, _, _, q => ⟨rfl, q⟩
  | j :: js, v :: vs, σ, H, Q, hl, q => ⟨v, vs, rfl, gNames_run js vs (σ.set j (some v)) H Q (by simpa using hl) q⟩
  | [], _ :: _, _, _, _, hl, _ => by simp at hl
  | _ :: _, [], _, _, _, hl, _ => by simp at hl
theorem se_sets {own M : List Addr} {H : Hp} : ∀ (js : List Nat) (vs : List V) (ds : List PyData) (σ : L2.St) (ρ : List Sl), SE own M σ H ρ → RpAll (hide M H) vs ds → SE own M (setsV σ js vs) H (setsD ρ js ds)
  | [], vs, ds, σ, ρ, s, r => by cases r <;> exact s
  | j :: js, _, _, σ, ρ, s, .nil => s
  | j :: js, _, _, σ, ρ, s, .cons r t => se_sets js _ _ _ _ (s.set j r) t
/-! ### wipe, place by place -/
theorem wipe_get (σ : L2.St) : ∀ (vs : List Nat) (i : Nat), (wipe σ vs)[i]? = if i ∈ vs then (σ[i]?).map (fun _ => none) else σ[i]?
  | [], i => by simp [wipe]
  | v :: vs, i => by
    show ((wipe σ vs).set v none)[i]? = _
    have ih := wipe_get σ vs i
    by_cases h : v = i
    · subst h
      rw [if_pos (by simp)]
      have hl := wipe_length σ vs
      by_cases c : v < σ.length
      · rw [List.getElem?_set_self (by omega), List.getElem?_eq_getElem c]; rfl
      · rw [List.getElem?_eq_none (by rw [List.length_set]; omega), List.getElem?_eq_none (by omega)]; rfl
    · rw [List.getElem?_set_ne h, ih]
      by_cases c : i ∈ vs
      · rw [if_pos c, if_pos (List.mem_cons_of_mem _ c)]
      · rw [if_neg c, if_neg (by simp [c]; exact fun e => h e.symm)]
theorem wipe_ext {σ τ : L2.St} {vs : List Nat} (hl : σ.length = τ.length) (h : ∀ i, i ∉ vs → σ[i]? = τ[i]?) : wipe σ vs = wipe τ vs := by
  apply List.ext_getElem?
  intro i
  rw [wipe_get, wipe_get]
  by_cases c : i ∈ vs
  · rw [if_pos c, if_pos c]
    by_cases d : i < σ.length
    · rw [List.getElem?_eq_getElem d, List.getElem?_eq_getElem (hl ▸ d)]; rfl
    · rw [List.getElem?_eq_none (by omega), List.getElem?_eq_none (by omega)]
  · rw [if_neg c, if_neg c]; exact h i c
theorem sets_out : ∀ (js : List Nat) (vs : List V) (σ : L2.St), (setsV σ js vs).length = σ.length ∧ ∀ i, i ∉ js → (setsV σ js vs)[i]? = σ[i]?
  | [], vs, σ => by cases vs <;> exact ⟨rfl, fun _ _ => rfl⟩
  | j :: js, [], σ => ⟨rfl, fun _ _ => rfl⟩
  | j :: js, v :: vs, σ => by
    obtain ⟨h1, h2⟩ := sets_out js vs (σ.set j (some v))
    refine ⟨by rw [setsV, h1, List.length_set], fun i hi => ?_⟩
    rw [List.mem_cons, not_or] at hi
    rw [setsV, h2 i hi.2, List.getElem?_set_ne (fun e => hi.1 e.symm)]
theorem wipe_idem (σ : L2.St) (vs : List Nat) : wipe (wipe σ vs) vs = wipe σ vs := wipe_ext (wipe_length σ vs) fun i hi => by rw [wipe_get, if_neg hi]
/-! ### what a turn yields -/
/-- v stands for d; or it is a new pair of two that do -/
def Yd (K : PySem.W.Frag) (M : List Addr) (H1 : Hp) (pr : Bool) (v : V) (H' : Hp) (d : PyData) : Prop :=
  (pr = false ∧ Rp (hide M H1) v d) ∨ (pr = true ∧ ∃ T x y dx dy, v = .ref T ∧ SqT K H' T [x, y] ∧ d = .tuple [dx, dy] ∧ Rp (hide M H1) x dx ∧ Rp (hide M H1) y dy)
structure Wk (K : PySem.W.Frag) (M : List Addr) (H1 : Hp) (pr : Bool) (items : List PyData) (J : It) : Prop where
  ex : ∃ (n : Nat) (G : Hp → Prop) (Y : Nat → Hp → V → Hp → Prop), Walk J n G Y ∧ n = items.length ∧ (∀ H', Ex (hide M H1) (hide M H') → G H') ∧
    ∀ i H v H', i < n → Ex (hide M H1) (hide M H) → Y i H v H' → Ex H H' ∧ ∃ d, items[i]? = some d ∧ Yd K M H1 pr v H' d
/-- what is walked has these items -/
def EI (K : PySem.W.Frag) (ti : TI) (ρ : List Sl) (pr : Bool) (items : List PyData) : Prop := ∀ (own M : List Addr) (σ : L2.St) (H : Hp), SE own M σ H ρ → Al M H → ∀ R : It → Hp → Prop, (∀ J H1, Ex H H1 → Wk K M H1 pr items J → R J H1) → ti σ H R
def okT (pr : Bool) (tg : List Nat) : Bool := !pr || decide (tg.length = 2)
theorem bind_ok {K : PySem.W.Frag} {own M N : List Addr} {H1 H : Hp} {pr : Bool} {tg : List Nat} {ρ ρ' : List Sl} {d : PyData} {v : V} {σ : L2.St} {Q : L2.St → Hp → Prop} (hok : okT pr tg = true) (hb : bindT tg ρ d = some ρ') (y : Yd K M H1 pr v H d) (s : SE own N σ H ρ) (hu : Ex (hide M H1) (hide N H))
    (q : ∀ σ' : L2.St, σ'.length = σ.length → (∀ i, i ∉ tg → σ'[i]? = σ[i]?) → SE own N σ' H ρ' → Q σ' H) : gT K tg v σ H Q := by
  have tup : ∀ (js : List Nat) (ds : List PyData) (xs : List V) (T : Addr), js ≠ [] → js.length ≠ 1 → bindT js ρ d = some ρ' → d = .tuple ds → SqT K H T xs → RpAll (hide N H) xs ds → v = .ref T → tg = js → gT K tg v σ H Q := by
    intro js ds xs T h0 h1 hb hd hq rx hv ht
    subst hd hv ht
    have hbb : (if ds.length = tg.length then some (setsD ρ tg ds) else none) = some ρ' := by
      unfold bindT at hb
      split at hb
      · simp at h1
      · exact hb
    have hlen : ds.length = tg.length := by
      by_cases c : ds.length = tg.length
      · exact c
      · rw [if_neg c] at hbb; cases hbb
    rw [if_pos hlen] at hbb
    cases hbb
    have hx := rx.len
    have hg : gT K tg = gTup K tg.length (gNames tg) := by
      unfold gT
      split
      · simp at h1
      · rfl
    rw [hg]
    refine ⟨T, xs, rfl, hq, by omega, gNames_run tg xs σ H Q (by omega) (q _ ?_ ?_ (se_sets tg xs ds σ ρ s rx))⟩
    · exact (sets_out tg xs σ).1
    · exact (sets_out tg xs σ).2
  rcases y with ⟨hp, r⟩ | ⟨hp, T, x, z, dx, dz, rfl, hq, rfl, r1, r2⟩
  · have r' := r.up hu
    match tg, hb, tup, q with
    | [j], hb, tup, q =>
      have hb' : some (ρ.set j (.dat d)) = some ρ' := hb
      cases hb'
      exact q _ (by rw [List.length_set]) (fun i hi => List.getElem?_set_ne (fun e => hi (by simp [e]))) (s.set j r')
    | [], hb, tup, q =>
      unfold bindT at hb
      cases d with
      | tuple ds =>
        obtain ⟨p, xs, rfl, h1, h2⟩ := r'.is_tup
        have hb2 : (if ds.length = 0 then some (setsD ρ [] ds) else none) = some ρ' := hb
        have hlen : ds.length = 0 := by
          by_cases c : ds.length = 0
          · exact c
          · rw [if_neg c] at hb2; cases hb2
        rw [if_pos hlen] at hb2
        have e : setsD ρ [] ds = ρ := by cases ds <;> rfl
        rw [e] at hb2
        cases hb2
        have hx := h2.len
        refine ⟨p, xs, rfl, (h1.up hide_ex).sq, by rw [hx, hlen]; rfl, ?_⟩
        exact ⟨List.eq_nil_of_length_eq_zero (by omega), q σ rfl (fun _ _ => rfl) s⟩
      | _ => cases hb
    | a :: b :: rr, hb, tup, q =>
      cases d with
      | tuple ds =>
        obtain ⟨p, xs, e, h1, h2⟩ := r'.is_tup
        exact tup (a :: b :: rr) ds xs p (by simp) (by simp) hb rfl ((h1.up hide_ex).sq) h2 e rfl
      | _ => cases hb
  · have h2 : tg.length = 2 := by
      rw [hp] at hok
      simpa [okT] using hok
    exact tup tg [dx, dz] [x, z] T (by intro e; rw [e] at h2; cases h2) (by omega) hb rfl hq (.cons (r1.up hu) (.cons (r2.up hu) .nil)) rfl rfl
/-! ### comprehensions in general -/
/-- the items that pass the test, what they give; none: a step that is not known -/
def lcGo (bind : PyData → Option (List Sl)) (t : List Sl → Option Bool) (e : List Sl → Option PyData) : List PyData → Option (List PyData)
  | [] => some []
  | d :: ds => (bind d).bind fun ρ => (t ρ).bind fun b => if b then (e ρ).bind fun y => (lcGo bind t e ds).map (y :: ·) else lcGo bind t e ds
section
variable {bind : PyData → Option (List Sl)} {t : List Sl → Option Bool} {e : List Sl → Option PyData}
theorem lcGo_len : ∀ {ds out : List PyData}, lcGo bind t e ds = some out → out.length ≤ ds.length
  | [], out, h => by cases h; exact Nat.le_refl _
  | d :: ds, out, h => by
    unfold lcGo at h
    cases h1 : bind d with
    | none => rw [h1] at h; cases h
    | some ρ =>
      rw [h1] at h
      simp only [Option.bind_some] at h
      cases h2 : t ρ with
      | none => rw [h2] at h; cases h
      | some b =>
        rw [h2] at h
        simp only [Option.bind_some] at h
        cases b with
        | false =>
          have := lcGo_len (ds := ds) h
          simp; omega
        | true =>
          simp only [if_true] at h
          cases h3 : e ρ with
          | none => rw [h3] at h; cases h
          | some y =>
            rw [h3] at h
            simp only [Option.bind_some] at h
            cases h4 : lcGo bind t e ds with
            | none => rw [h4] at h; cases h
            | some r =>
              rw [h4] at h
              cases h
              have := lcGo_len (ds := ds) h4
              simp; omega
theorem lcGo_step : ∀ {ds out : List PyData} {i : Nat} {d : PyData}, lcGo bind t e ds = some out → ds[i]? = some d →
    ∃ ρ b, bind d = some ρ ∧ t ρ = some b ∧ ∃ o, lcGo bind t e (ds.take i) = some o ∧ (b = true → ∃ y, e ρ = some y ∧ lcGo bind t e (ds.take (i + 1)) = some (o ++ [y])) ∧ (b = false → lcGo bind t e (ds.take (i + 1)) = some o)
  | [], out, i, d, h, hi => by simp at hi
  | d :: ds, out, i, d', h, hi => by
    unfold lcGo at h
    cases h1 : bind d with
    | none => rw [h1] at h; cases h
    | some ρ =>
      rw [h1] at h
      simp only [Option.bind_some] at h
      cases h2 : t ρ with
      | none => rw [h2] at h; cases h
      | some b =>
        rw [h2] at h
        simp only [Option.bind_some] at h
        cases b with
        | false =>
          simp only [Bool.false_eq_true, if_false] at h
          cases i with
          | zero =>
            have e' : d = d' := by simpa using hi
            subst e'
            refine ⟨ρ, false, h1, h2, [], rfl, fun q => (nomatch q), fun _ => ?_⟩
            simp [lcGo, h1, h2]
          | succ i =>
            obtain ⟨ρ', b', g1, g2, o, g3, g4, g5⟩ := lcGo_step (i := i) (d := d') h (by simpa using hi)
            refine ⟨ρ', b', g1, g2, o, by simp [lcGo, h1, h2, g3], fun q => ?_, fun q => by simp [lcGo, h1, h2, g5 q]⟩
            obtain ⟨y, k1, k2⟩ := g4 q
            exact ⟨y, k1, by simp [lcGo, h1, h2, k2]⟩
        | true =>
          simp only [if_true] at h
          cases h3 : e ρ with
          | none => rw [h3] at h; cases h
          | some y =>
            rw [h3] at h
            simp only [Option.bind_some] at h
            cases h4 : lcGo bind t e ds with
            | none => rw [h4] at h; cases h
            | some r =>
              rw [h4] at h
              cases i with
              | zero =>
                have e' : d = d' := by simpa using hi
                subst e'
                exact ⟨ρ, true, h1, h2, [], rfl, fun _ => ⟨y, h3, by simp [lcGo, h1, h2, h3]⟩, fun q => (nomatch q)⟩
              | succ i =>
                obtain ⟨ρ', b', g1, g2, o, g3, g4, g5⟩ := lcGo_step (i := i) (d := d') h4 (by simpa using hi)
                refine ⟨ρ', b', g1, g2, y :: o, by simp [lcGo, h1, h2, h3, g3], fun q => ?_, fun q => by simp [lcGo, h1, h2, h3, g5 q]⟩
                obtain ⟨z, k1, k2⟩ := g4 q
                exact ⟨z, k1, by simp [lcGo, h1, h2, h3, k2]⟩
end
section
variable {ρ : List Sl} {ti : TI} {te : TE} {tt : TT} {K : PySem.W.Frag} {tg : List Nat} {pr : Bool} {items out : List PyData} {t : List Sl → Option Bool} {e : List Sl → Option PyData}
theorem el_lcG (h : EI K ti ρ pr items) (hz : items.length ≤ 50000) (hok : okT pr tg = true) (hgo : lcGo (bindT tg (wipeS ρ tg)) t e items = some out)
    (ht : ∀ ρ' b, t ρ' = some b → ET tt ρ' b) (he : ∀ ρ' d, e ρ' = some d → EE te ρ' d) : EL (tLc ti (gT K tg) tt te tg) ρ out := by
  intro own M σ H s al Q q
  refine h own M σ H s al _ fun J H1 e1 w D hD => ?_
  obtain ⟨n, G, Y, wk, hn, hG, hY⟩ := w.ex
  refine lc_it wk (fun i H' => ∃ o, lcGo (bindT tg (wipeS ρ tg)) t e (items.take i) = some o ∧ Cv H1 D M o H') ⟨[], rfl, cv_first hD⟩ (fun i H' hi p => ?_) (fun i x H' H'' hi p y => ?_) (fun H' p => ?_)
  · obtain ⟨o, _, p⟩ := p
    exact hG H' (hide_mono p.2.1)
  · obtain ⟨o, ho, p⟩ := p
    obtain ⟨e2, d, hd, yd⟩ := hY i H' x H'' hi (hide_mono p.2.1) y
    obtain ⟨ρ', b, g1, g2, o', g3, g4, g5⟩ := lcGo_step hgo hd
    rw [ho] at g3
    cases g3
    have p' : Cv H1 D M o H'' := by
      obtain ⟨p1, p2, acc, p3, p4⟩ := p
      exact ⟨p1, p2.trans e2, acc, e2 D _ p3, p4.up (hide_mono e2)⟩
    have se : SE own (D :: M) (wipe σ tg) H'' (wipeS ρ tg) := (p'.se (H := H) (s.up e1)).wipe tg
    refine bind_ok hok g1 yd se (hide_new p'.2.1 hD) fun σ' l1 l2 se' => ?_
    refine ⟨by rw [← wipe_idem σ tg]; exact wipe_ext l1 l2, ?_⟩
    have hl : o.length < 100000 := by
      have := lcGo_len ho
      rw [List.length_take] at this
      omega
    cases b with
    | true =>
      obtain ⟨y', k1, k2⟩ := g4 rfl
      exact cv_turn p' se' (al.up e1) (ht ρ' true g2) (fun _ => he ρ' y' k1) hl (out' := o ++ [y']) rfl fun H2 c => ⟨_, k2, c⟩
    | false =>
      exact cv_turn (d := PyData.none) p' se' (al.up e1) (ht ρ' false g2) (fun q => nomatch q) hl (out' := o) rfl fun H2 c => ⟨_, g5 rfl, c⟩
  · obtain ⟨o, ho, p1, p2, acc, p3, p4⟩ := p
    rw [hn, List.take_length, hgo] at ho
    cases ho
    exact q D acc H' (Evl.fresh_back e1 hD) (e1.trans p2) p3 p4
end
/-! ### the walked things -/
section
variable {ρ : List Sl} {ta tb tl : TE} {K : PySem.W.Frag} {ds es : List PyData}
theorem Yd.at {M : List Addr} {H1 H' : Hp} {v : V} {d : PyData} (h : Rp (hide M H1) v d) : Yd K M H1 false v H' d := .inl ⟨rfl, h⟩
theorem ei_seqT (h : EE tl ρ (.tuple ds)) : EI K (iSeq K tl) ρ false ds := fun own M σ H s a R q => h own M σ H s a _ fun v H1 e1 r1 => by
  obtain ⟨p, xs, rfl, hp, rx⟩ := r1.is_tup
  refine ⟨p, rfl, .inr ⟨⟨xs, (hp.up hide_ex).sq⟩, q _ H1 e1 ⟨_, _, _, walk_tup (xs := xs), rx.len, fun H' e => ((hp.up e).up hide_ex).sq, fun i H v H' hi e y => ?_⟩⟩⟩
  obtain ⟨rfl, hx⟩ := y
  obtain ⟨d, h1, h2⟩ := rx.get' hx
  exact ⟨Evl.Ex.refl _, d, h1, .at h2⟩
theorem ei_seqL (h : EE tl ρ (.list ds)) : EI K (iSeq K tl) ρ false ds := fun own M σ H s a R q => h own M σ H s a _ fun v H1 e1 r1 => by
  obtain ⟨p, xs, rfl, hp, rx⟩ := r1.is_lst
  refine ⟨p, rfl, .inl ⟨⟨xs, SqL.of (hide_ex _ _ hp)⟩, q _ H1 e1 ⟨_, _, _, walk_list (xs := xs), rx.len, fun H' e => SqL.of (hide_ex _ _ (e _ _ hp)), fun i H v H' hi e y => ?_⟩⟩⟩
  obtain ⟨rfl, hx⟩ := y
  obtain ⟨d, h1, h2⟩ := rx.get' hx
  exact ⟨Evl.Ex.refl _, d, h1, .at h2⟩
theorem rgD_get {a b : Int} {i : Nat} (hi : i < (b - a).toNat) : (rgD a b)[i]? = some (.int (a + (i : Nat))) := by
  unfold rgD
  rw [List.getElem?_map, List.getElem?_range hi]
  rfl
theorem rgD_len {a b : Int} : (rgD a b).length = (b - a).toNat := by unfold rgD; simp
theorem ei_rg1 {n : Int} (h : EE ta ρ (.int n)) (h1 : n ≤ 100000) (h0 : -100000 ≤ n) : EI K (iRng1 (tCons ta tNil)) ρ false (rgD 0 n) := fun own M σ H s a R q => h own M σ H s a _ fun v H1 e1 r1 => by
  rw [r1.is_int]
  refine ⟨n, rfl, by omega, by omega, q _ H1 e1 ⟨_, _, _, walk_range (lo := 0) (n := n.toNat), by rw [rgD_len]; congr 1; omega, fun H' e => trivial, fun i H v H' hi e y => ?_⟩⟩
  obtain ⟨rfl, rfl⟩ := y
  exact ⟨Evl.Ex.refl _, _, rgD_get (by omega), .at (.int _)⟩
theorem ei_rg2 {m n : Int} (ha : EE ta ρ (.int m)) (hb : EE tb ρ (.int n)) (h1 : n ≤ 100000) (h0 : -100000 ≤ n) (h2 : m ≤ 100000) (h3 : -100000 ≤ m) : EI K (iRng2 (tCons ta (tCons tb tNil))) ρ false (rgD m n) := fun own M σ H s a R q => ha own M σ H s a _ fun v H1 e1 r1 => hb own M σ H1 (s.up e1) (a.up e1) _ fun u H2 e2 r2 => by
  rw [r1.is_int, r2.is_int]
  refine ⟨m, n, rfl, ⟨by omega, by omega, by omega, by omega⟩, q _ H2 (e1.trans e2) ⟨_, _, _, walk_range (lo := m) (n := (n - m).toNat), by rw [rgD_len], fun H' e => trivial, fun i H v H' hi e y => ?_⟩⟩
  obtain ⟨rfl, rfl⟩ := y
  exact ⟨Evl.Ex.refl _, _, rgD_get hi, .at (.int _)⟩
theorem ei_rev (h : EE ta ρ (.list ds)) : EI K (iRev K (tCons ta tNil)) ρ false ds.reverse := fun own M σ H s a R q => h own M σ H s a _ fun v H1 e1 r1 => by
  obtain ⟨p, xs, rfl, hp, rx⟩ := r1.is_lst
  refine ⟨p, xs, rfl, SqL.of (hide_ex _ _ hp), q _ H1 e1 ⟨_, _, _, walk_rev (xs := xs), by rw [List.length_reverse]; exact rx.len, fun H' e => SqL.of (hide_ex _ _ (e _ _ hp)), fun i H v H' hi e y => ?_⟩⟩
  obtain ⟨rfl, hx⟩ := y
  obtain ⟨d, h1, h2⟩ := rx.get' hx
  have hl := rx.len
  refine ⟨Evl.Ex.refl _, d, ?_, .at h2⟩
  rw [List.getElem?_reverse (by omega), ← hl]
  exact h1
theorem pair_of {M : List Addr} {H1 H H' : Hp} {xs ys : Nat → Option V} {v : V} {i : Nat} {dx dy : PyData} (y : YPair xs ys i H v H') (h1 : ∀ x, xs i = some x → Rp (hide M H1) x dx) (h2 : ∀ x, ys i = some x → Rp (hide M H1) x dy) : Ex H H' ∧ Yd K M H1 true v H' (.tuple [dx, dy]) := by
  obtain ⟨T, x, z, rfl, hT, rfl, hx, hz⟩ := y
  exact ⟨Ex.new hT, .inr ⟨rfl, T, x, z, dx, dy, rfl, .inl (.inl upd_same), rfl, h1 x hx, h2 z hz⟩⟩
def enD (ds : List PyData) : List PyData := (List.range ds.length).zipWith (fun i d => PyData.tuple [.int (i : Nat), d]) ds
theorem ei_enum (h : EE ta ρ (.tuple ds)) : EI K (iEnumT K (tCons ta tNil)) ρ true (enD ds) := fun own M σ H s a R q => h own M σ H s a _ fun v H1 e1 r1 => by
  obtain ⟨p, xs, rfl, hp, rx⟩ := r1.is_tup
  have hl := rx.len
  refine ⟨p, xs, rfl, (hp.up hide_ex).sq, q _ H1 e1 ⟨_, _, _, walkN (xs := xs), by unfold enD; simp [hl], fun H' e => ((hp.up e).up hide_ex).sq, fun i H v H' hi e y => ?_⟩⟩
  obtain ⟨d, h1, h2⟩ := rx.get' (List.getElem?_eq_getElem hi)
  obtain ⟨k1, k2⟩ := pair_of (K := K) (M := M) (H1 := H1) (dx := .int (i : Nat)) (dy := d) y (fun x hx => by cases hx; exact .int _) (fun x hx => by rw [List.getElem?_eq_getElem hi] at hx; cases hx; exact h2)
  refine ⟨k1, _, ?_, k2⟩
  unfold enD
  rw [List.getElem?_zipWith, h1, List.getElem?_range (by omega)]
def zipD (ds es : List PyData) : List PyData := ds.zipWith (fun d e => PyData.tuple [d, e]) es
theorem ei_zip (ha : EE ta ρ (.tuple ds)) (hb : EE tb ρ (.tuple es)) : EI K (iZipA K (tCons ta (tCons tb tNil))) ρ true (zipD ds es) := fun own M σ H s a R q => ha own M σ H s a _ fun v H1 e1 r1 => hb own M σ H1 (s.up e1) (a.up e1) _ fun u H2 e2 r2 => by
  obtain ⟨p, xs, rfl, hp, rx⟩ := (r1.up (hide_mono e2)).is_tup
  obtain ⟨p', ys, rfl, hp', ry⟩ := r2.is_tup
  refine ⟨p, p', xs, ys, rfl, .inr ⟨(hp.up hide_ex).sq, (hp'.up hide_ex).sq, q _ H2 (e1.trans e2) ⟨_, _, _, walkZT (xs := xs) (ys := ys) rfl, by unfold zipD; simp [rx.len, ry.len], fun H' e => ⟨((hp.up e).up hide_ex).sq, ((hp'.up e).up hide_ex).sq⟩, fun i H v H' hi e y => ?_⟩⟩⟩
  have i1 : i < xs.length := by omega
  have i2 : i < ys.length := by omega
  obtain ⟨d, h1, h2⟩ := rx.get' (List.getElem?_eq_getElem i1)
  obtain ⟨d', h1', h2'⟩ := ry.get' (List.getElem?_eq_getElem i2)
  obtain ⟨k1, k2⟩ := pair_of (K := K) (M := M) (H1 := H2) (dx := d) (dy := d') y (fun x hx => by rw [List.getElem?_eq_getElem i1] at hx; cases hx; exact h2) (fun x hx => by rw [List.getElem?_eq_getElem i2] at hx; cases hx; exact h2')
  refine ⟨k1, _, ?_, k2⟩
  unfold zipD
  rw [List.getElem?_zipWith, h1, h1']
end
end R60

end -- D6
section -- D7
set_option Elab.async false
set_option linter.all false
set_option maxRecDepth 100000
set_option maxHeartbeats 4000000
/-! A small syntax of pure expressions, what they are worth, and the readings that say so. -/
namespace R60
open PySem PySem.Spec PyProof.Rows L2 RZ
open Evl (Ex)
open PySem.W (dataLt alike AlikeAll minD)
open SeqAt (shaped)
inductive Ty where
  | int | bool | str | tup | lst
  deriving DecidableEq
inductive Xp where
  | var (i : Nat) | int (i : Int) | bl (b : Bool) | non | str (x : Str)
  | nil | cons (a b : Xp)
  | tup (a : Xp) | lst (a : Xp)
  | add (a b : Xp) | sub (a b : Xp) | rep (a b : Xp) | neg (a : Xp)
  | mul (a b : Xp) | md (a b : Xp) | fdv (a b : Xp) | pw (a b : Xp) | abs (a : Xp) | toI (a : Xp)
  | lt (a b : Xp) | le (a b : Xp) | gt (a b : Xp) | ge (a b : Xp) | eq (a b : Xp) | ne (a b : Xp) | mem (a b : Xp) | nmem (a b : Xp) | isN (a : Xp)
  | chain (a b c : Xp)
  | and (a b : Xp) | or (a b : Xp) | not (a : Xp) | ite (t a b : Xp)
  | ix (a b : Xp) | ixM (i : Nat) (b : Xp) | part (a : Xp) | sl (a lo hi : Xp) | rev (a : Xp)
  | len (a : Xp) | isi (k : Ty) (a : Xp) | all (a : Xp) | any (a : Xp) | mx (a : Xp) | mn (a : Xp) | mx2 (a b : Xp) | sort (a : Xp) | lstOf (a : Xp) | tupOf (a : Xp) | lstRg (a : Xp) | tupRg (a : Xp)
  | idx (a b : Xp)
  | call (f : Nat) (a : Xp)
  | lc (pr : Bool) (tg : List Nat) (it t e : Xp)
  | itS (a : Xp) | itR (a : Xp) | itRg (a b : Xp) | itV (a : Xp) | itN (a : Xp) | itZ (a b : Xp)
/-! ### what the operations give -/
def truD : PyData → Option Bool
  | .bool b => some b
  | .int i => some (i != 0)
  | .list xs => some (!xs.isEmpty)
  | .tuple xs => some (!xs.isEmpty)
  | .none => some false
  | _ => none
def addD : PyData → PyData → Option PyData
  | .int i, .int j => some (.int (i + j))
  | .tuple xs, .tuple ys => if xs.length + ys.length ≤ 100000 then some (.tuple (xs ++ ys)) else none
  | .list xs, .list ys => if xs.length + ys.length ≤ 100000 then some (.list (xs ++ ys)) else none
  | _, _ => none
def intD2 (g : Int → Int → PyData) : PyData → PyData → Option PyData
  | .int i, .int j => some (g i j)
  | _, _ => none
def repD : PyData → PyData → Option PyData
  | .tuple [d], .int i => if 1 ≤ i ∧ i ≤ 1000 then some (.tuple (List.replicate i.toNat d)) else none
  | _, _ => none
def negD : PyData → Option PyData
  | .int i => some (.int (-i))
  | _ => none
def mulD : PyData → PyData → Option PyData
  | .int i, .int j => if -(2 ^ 64) < j ∧ j < 2 ^ 64 then some (.int (i * j)) else none
  | _, _ => none
def mdD : PyData → PyData → Option PyData
  | .int i, .int j => if 0 < j then some (.int (i % j)) else none
  | _, _ => none
def fdvD : PyData → PyData → Option PyData
  | .int i, .int j => if 0 < j ∧ j < 1073741824 then some (.int (i / j)) else none
  | _, _ => none
def pwD : PyData → PyData → Option PyData
  | .int i, .int j => if 0 ≤ j ∧ j ≤ 1000000 ∧ i.natAbs < 2 ^ 64 then some (.int (i ^ j.toNat)) else none
  | _, _ => none
def absD : PyData → Option PyData
  | .int i => some (.int (if i < 0 then -i else i))
  | _ => none
def toID : PyData → Option PyData
  | .int i => some (.int i)
  | .bool b => some (.int (if b then 1 else 0))
  | _ => none
def eqD (x y : PyData) : Option Bool := if shaped x && shaped y then some (PyData.eqv x y) else none
def memD (x : PyData) : PyData → Option Bool
  | .tuple ys => if shaped x && shaped (.tuple ys) then some (ys.any fun z => PyData.eqv z x) else none
  | .list ys => if shaped x && shaped (.list ys) then some (ys.any fun z => PyData.eqv z x) else none
  | _ => none
def boolD : PyData → Option Bool
  | .bool b => some b
  | _ => none
def intOfD : PyData → Option Int
  | .int i => some i
  | _ => none
def ixD (x : PyData) (i : Int) : Option PyData :=
  match x with
  | .tuple ds => atI ds i
  | .list ds => atI ds i
  | _ => none
def slD (x : PyData) (lo hi : Option Int) : Option PyData :=
  match x with
  | .tuple ds => some (.tuple (cutD ds lo hi))
  | .list ds => some (.list (cutD ds lo hi))
  | _ => none
def lenD : PyData → Option PyData
  | .tuple ds => some (.int (ds.length : Int))
  | .list ds => some (.int (ds.length : Int))
  | _ => none
def isiD : Ty → PyData → Bool
  | .int => isIntD
  | .bool => isBoolD
  | .str => isStrD
  | .tup => isTupD
  | .lst => isLstD
def allM {α : Type} (f : PyData → Option α) : List PyData → Option (List α)
  | [] => some []
  | d :: ds => (f d).bind fun a => (allM f ds).map (a :: ·)
def lstD : PyData → Option (List PyData)
  | .list ds => some ds
  | _ => none
def tupD : PyData → Option (List PyData)
  | .tuple ds => some ds
  | _ => none
def maxD : List Int → Option PyData
  | [] => none
  | n :: ns => some (.int (maxI n ns))
def alikeB (ds : List PyData) : Bool := (ds.all fun x => ds.all fun y => alike x y) && ds.all fun x => !isNoneB x
def minLD (ds : List PyData) : Option PyData :=
  match allM intOfD ds with
  | some (n :: ns) => some (.int (minI n ns))
  | _ => match ds with
    | [] => none
    | d :: ds => if alikeB (d :: ds) && decide (PyData.depthAll (d :: ds) ≤ 32) then some (minD d ds) else none
def sortD : PyData → Option PyData
  | .list ds => (allM intOfD ds).map fun ns => .list ((sortI ns).map PyData.int)
  | .tuple ds => (allM intOfD ds).bind fun ns => if ns.length < 64 then some (.list ((sortI ns).map PyData.int)) else none
  | _ => none
def idxD (x y : PyData) : Option PyData :=
  match x, y with
  | .tuple ds, .int k => (allM intOfD ds).bind fun ns => if k ∈ ns then some (.int (ns.idxOf k : Nat)) else none
  | _, _ => none
def rg1D : PyData → Option (List PyData)
  | .int n => if 0 ≤ n ∧ n ≤ 100000 then some (rgD 0 n) else none
  | _ => none
def itR1D : PyData → Option (List PyData)
  | .int n => if -100000 ≤ n ∧ n ≤ 100000 then some (rgD 0 n) else none
  | _ => none
def itR2D : PyData → PyData → Option (List PyData)
  | .int m, .int n => if (n ≤ 100000 ∧ -100000 ≤ n) ∧ m ≤ 100000 ∧ -100000 ≤ m then some (rgD m n) else none
  | _, _ => none
def seqD : PyData → Option (List PyData)
  | .list ds => some ds
  | .tuple ds => some ds
  | _ => none
def mutD : Option Sl → Option (List PyData)
  | some (.mut ds) => some ds
  | _ => none
def varD : Option Sl → Option PyData
  | some (.dat d) => some d
  | _ => none
def lcD (tg : List Nat) (t : List Sl → Option Bool) (e : List Sl → Option PyData) (ρ : List Sl) (items : List PyData) : Option (List PyData) :=
  if items.length ≤ 50000 then lcGo (bindT tg (wipeS ρ tg)) t e items else none
/-- the answers of the defs, by their numbers -/
abbrev Fs := Nat → List PyData → Option PyData
def ev (F : Fs) : Xp → List Sl → Option PyData
  | .var i, ρ => varD ρ[i]?
  | .int i, _ => some (.int i)
  | .bl b, _ => some (.bool b)
  | .non, _ => some .none
  | .str x, _ => some (.str x)
  | .nil, _ => some (.tuple [])
  | .cons a b, ρ => (ev F a ρ).bind fun x => ((ev F b ρ).bind tupD).map fun xs => .tuple (x :: xs)
  | .tup a, ρ => ((ev F a ρ).bind tupD).bind fun xs => if xs.length ≤ 100000 then some (.tuple xs) else none
  | .lst a, ρ => ((ev F a ρ).bind tupD).bind fun xs => if xs.length ≤ 100000 then some (.list xs) else none
  | .add a b, ρ => (ev F a ρ).bind fun x => (ev F b ρ).bind fun y => addD x y
  | .sub a b, ρ => (ev F a ρ).bind fun x => (ev F b ρ).bind fun y => intD2 (fun i j => .int (i - j)) x y
  | .rep a b, ρ => (ev F a ρ).bind fun x => (ev F b ρ).bind fun y => repD x y
  | .neg a, ρ => (ev F a ρ).bind negD
  | .mul a b, ρ => (ev F a ρ).bind fun x => (ev F b ρ).bind fun y => mulD x y
  | .md a b, ρ => (ev F a ρ).bind fun x => (ev F b ρ).bind fun y => mdD x y
  | .fdv a b, ρ => (ev F a ρ).bind fun x => (ev F b ρ).bind fun y => fdvD x y
  | .pw a b, ρ => (ev F a ρ).bind fun x => (ev F b ρ).bind fun y => pwD x y
  | .abs a, ρ => (ev F a ρ).bind absD
  | .toI a, ρ => (ev F a ρ).bind toID
  | .lt a b, ρ => (ev F a ρ).bind fun x => (ev F b ρ).bind fun y => intD2 (fun i j => .bool (decide (i < j))) x y
  | .le a b, ρ => (ev F a ρ).bind fun x => (ev F b ρ).bind fun y => intD2 (fun i j => .bool (decide (i ≤ j))) x y
  | .gt a b, ρ => (ev F a ρ).bind fun x => (ev F b ρ).bind fun y => intD2 (fun i j => .bool (decide (j < i))) x y
  | .ge a b, ρ => (ev F a ρ).bind fun x => (ev F b ρ).bind fun y => intD2 (fun i j => .bool (decide (j ≤ i))) x y
  | .eq a b, ρ => (ev F a ρ).bind fun x => (ev F b ρ).bind fun y => (eqD x y).map .bool
  | .ne a b, ρ => (ev F a ρ).bind fun x => (ev F b ρ).bind fun y => (eqD x y).map fun c => .bool (!c)
  | .mem a b, ρ => (ev F a ρ).bind fun x => (ev F b ρ).bind fun y => (memD x y).map .bool
  | .nmem a b, ρ => (ev F a ρ).bind fun x => (ev F b ρ).bind fun y => (memD x y).map fun c => .bool (!c)
  | .isN a, ρ => (ev F a ρ).map fun x => .bool (isNoneB x)
  | .chain a b c, ρ => ((ev F a ρ).bind intOfD).bind fun i => ((ev F b ρ).bind intOfD).bind fun j => ((ev F c ρ).bind intOfD).map fun k => .bool (decide (i ≤ j) && decide (j ≤ k))
  | .and a b, ρ => ((ev F a ρ).bind boolD).bind fun c => if c then ((ev F b ρ).bind boolD).map .bool else some (.bool false)
  | .or a b, ρ => ((ev F a ρ).bind boolD).bind fun c => if c then some (.bool true) else ((ev F b ρ).bind boolD).map .bool
  | .not a, ρ => ((ev F a ρ).bind truD).map fun c => .bool (!c)
  | .ite t a b, ρ => ((ev F t ρ).bind truD).bind fun c => if c then ev F a ρ else ev F b ρ
  | .ix a b, ρ => (ev F a ρ).bind fun x => ((ev F b ρ).bind intOfD).bind fun i => ixD x i
  | .ixM n b, ρ => (mutD ρ[n]?).bind fun ds => ((ev F b ρ).bind intOfD).bind fun i => atI ds i
  | .part a, ρ => ((ev F a ρ).bind intOfD).map .int
  | .sl a lo hi, ρ => (ev F a ρ).bind fun x => ((ev F lo ρ).bind fun l => ((ev F hi ρ).bind fun h => slD x (intOfD l) (intOfD h)))
  | .rev a, ρ => ((ev F a ρ).bind tupD).map fun xs => .tuple xs.reverse
  | .len a, ρ => (ev F a ρ).bind lenD
  | .isi k a, ρ => (ev F a ρ).map fun x => .bool (isiD k x)
  | .all a, ρ => (((ev F a ρ).bind lstD).bind (allM boolD)).map fun bs => .bool (bs.all id)
  | .any a, ρ => (((ev F a ρ).bind lstD).bind (allM boolD)).map fun bs => .bool (bs.any id)
  | .mx a, ρ => (((ev F a ρ).bind lstD).bind (allM intOfD)).bind maxD
  | .mn a, ρ => ((ev F a ρ).bind lstD).bind minLD
  | .mx2 a b, ρ => ((ev F a ρ).bind intOfD).bind fun i => ((ev F b ρ).bind intOfD).map fun j => .int (max i j)
  | .sort a, ρ => (ev F a ρ).bind sortD
  | .lstOf a, ρ => ((ev F a ρ).bind tupD).map .list
  | .tupOf a, ρ => ((ev F a ρ).bind lstD).map .tuple
  | .lstRg a, ρ => ((ev F a ρ).bind rg1D).map .list
  | .tupRg a, ρ => ((ev F a ρ).bind rg1D).map .tuple
  | .idx a b, ρ => (ev F a ρ).bind fun x => (ev F b ρ).bind fun y => idxD x y
  | .call f a, ρ => ((ev F a ρ).bind tupD).bind (F f)
  | .lc _ tg it t e, ρ => ((ev F it ρ).bind tupD).bind fun items => (lcD tg (fun ρ' => (ev F t ρ').bind truD) (ev F e) ρ items).map .list
  | .itS a, ρ => ((ev F a ρ).bind seqD).map .tuple
  | .itR a, ρ => ((ev F a ρ).bind itR1D).map .tuple
  | .itRg a b, ρ => (ev F a ρ).bind fun x => (ev F b ρ).bind fun y => (itR2D x y).map .tuple
  | .itV a, ρ => ((ev F a ρ).bind lstD).map fun xs => .tuple xs.reverse
  | .itN a, ρ => ((ev F a ρ).bind tupD).map fun xs => .tuple (enD xs)
  | .itZ a b, ρ => ((ev F a ρ).bind tupD).bind fun xs => ((ev F b ρ).bind tupD).map fun ys => .tuple (zipD xs ys)
def evT (F : Fs) (x : Xp) (ρ : List Sl) : Option Bool := (ev F x ρ).bind truD
def evA (F : Fs) (x : Xp) (ρ : List Sl) : Option (List PyData) := (ev F x ρ).bind tupD
/-! ### the readings that say what ev says -/
def cE (F : Fs) (x : Xp) : TE := fun σ H Q => ∃ (own M : List Addr) (ρ : List Sl) (d : PyData), SE own M σ H ρ ∧ Al M H ∧ ev F x ρ = some d ∧ ∀ v H2, Ex H H2 → Rp (hide M H2) v d → Q v H2
def cT (F : Fs) (x : Xp) : TT := fun σ H Q => ∃ (own M : List Addr) (ρ : List Sl) (b : Bool), SE own M σ H ρ ∧ Al M H ∧ evT F x ρ = some b ∧ ∀ H2, Ex H H2 → Q b H2
def cA (F : Fs) (x : Xp) : TA := fun σ H Q => ∃ (own M : List Addr) (ρ : List Sl) (ds : List PyData), SE own M σ H ρ ∧ Al M H ∧ evA F x ρ = some ds ∧ ∀ vs H2, Ex H H2 → RpAll (hide M H2) vs ds → Q vs H2
def cO (F : Fs) (x : Xp) : TO := fun σ H Q => ∃ (own M : List Addr) (ρ : List Sl) (d : PyData), SE own M σ H ρ ∧ Al M H ∧ ev F x ρ = some d ∧ ∀ H2, Ex H H2 → Q (intOfD d) H2
def cI (F : Fs) (K : PySem.W.Frag) (pr : Bool) (x : Xp) : TI := fun σ H R => ∃ (own M : List Addr) (ρ : List Sl) (items : List PyData), SE own M σ H ρ ∧ Al M H ∧ evA F x ρ = some items ∧ ∀ J H1, Ex H H1 → Wk K M H1 pr items J → R J H1
section
variable {F : Fs} {K : PySem.W.Frag} {X : Cx} {x : Xp} {e : Expr} {es : List Expr} {te : TE} {tt : TT} {ta : TA} {ti : TI} {ρ : List Sl} {d : PyData} {b pr : Bool} {ds : List PyData}
theorem ce (h : ev F x ρ = some d) : EE (cE F x) ρ d := fun own M σ H s a Q q => ⟨own, M, ρ, d, s, a, h, q⟩
theorem ct (h : evT F x ρ = some b) : ET (cT F x) ρ b := fun own M σ H s a Q q => ⟨own, M, ρ, b, s, a, h, q⟩
theorem ca (h : evA F x ρ = some ds) : EA (cA F x) ρ ds := fun own M σ H s a Q q => ⟨own, M, ρ, ds, s, a, h, q⟩
theorem ci (h : evA F x ρ = some ds) : EI K (cI F K pr x) ρ pr ds := fun own M σ H s a R q => ⟨own, M, ρ, ds, s, a, h, q⟩
theorem PE.can (h : PE X e te) (hs : ∀ ρ d, ev F x ρ = some d → EE te ρ d) : PE X e (cE F x) := ⟨fun pins s σ H Q I ⟨own, M, ρ, d, se, al, h1, q⟩ => h.run pins s σ H Q I (hs ρ d h1 own M σ H se al Q q)⟩
theorem PT.can (h : PT X e tt) (hs : ∀ ρ b, evT F x ρ = some b → ET tt ρ b) : PT X e (cT F x) := ⟨fun pins s σ H Q I ⟨own, M, ρ, b, se, al, h1, q⟩ => h.run pins s σ H Q I (hs ρ b h1 own M σ H se al Q q)⟩
theorem PA.can (h : PA X es ta) (hs : ∀ ρ ds, evA F x ρ = some ds → EA ta ρ ds) : PA X es (cA F x) := ⟨fun pos pins s σ H Q I ⟨own, M, ρ, ds, se, al, h1, q⟩ => h.run pos pins s σ H Q I (hs ρ ds h1 own M σ H se al Q q)⟩
theorem PI.can {tg : Expr} (h : PI X tg e ti) (hs : ∀ ρ ds, evA F x ρ = some ds → EI X.K ti ρ pr ds) : PI X tg e (cI F X.K pr x) := ⟨fun pins s σ H R I ⟨own, M, ρ, ds, se, al, h1, q⟩ => h.run pins s σ H R I (hs ρ ds h1 own M σ H se al R q)⟩
end
/-! ### rules by values over data -/
/-- what a two-place rule gives on data -/
def RR (r : R2) (x y d : PyData) : Prop := ∀ (M : List Addr) (H : Hp) (v u : V), Al M H → Rp (hide M H) v x → Rp (hide M H) u y → ∀ Q : VK, (∀ w H2, Ex H H2 → Rp (hide M H2) w d → Q w H2) → r v u H Q
section
variable {r r' : R2} {x y d : PyData} {ρ : List Sl} {ta tb : TE} {K : PySem.W.Frag} {i j : Int} {ds es : List PyData}
theorem RR.ee (h : RR r x y d) (ha : EE ta ρ x) (hb : EE tb ρ y) : EE (tOp r ta tb) ρ d := ee_op ha hb h
theorem RR.inl (h : RR r x y d) : RR (fun v u H Q => r v u H Q ∨ r' v u H Q) x y d := fun M H v u a r1 r2 Q q => .inl (h M H v u a r1 r2 Q q)
theorem RR.inr (h : RR r' x y d) : RR (fun v u H Q => r v u H Q ∨ r' v u H Q) x y d := fun M H v u a r1 r2 Q q => .inr (h M H v u a r1 r2 Q q)
theorem rr_int {g : Int → Int → V} (hg : ∀ H, Rp H (g i j) d) : RR (rI0 g) (.int i) (.int j) d := fun M H v u a r1 r2 Q q => by
  rw [r1.is_int, r2.is_int]
  exact ⟨i, j, rfl, rfl, q _ H (Evl.Ex.refl H) (hg _)⟩
theorem rr_catT (hl : ds.length + es.length ≤ 100000) : RR (fCat K) (.tuple ds) (.tuple es) (.tuple (ds ++ es)) := fun M H v u a r1 r2 Q q => by
  obtain ⟨p, xs, rfl, hp, rx⟩ := r1.is_tup
  obtain ⟨t, ys, rfl, ht, ry⟩ := r2.is_tup
  refine ⟨p, t, xs, ys, rfl, rfl, (hp.up hide_ex).sq, (ht.up hide_ex).sq, by rw [rx.len, ry.len]; exact Evl.sz_of hl, fun e => ?_, fun _ e => ?_, fun _ _ u o hu ho => ?_⟩
  · subst e
    cases rx
    exact q _ H (Evl.Ex.refl H) (.tup ht ry)
  · subst e
    cases ry
    refine q _ H (Evl.Ex.refl H) ?_
    rw [List.append_nil]
    exact .tup hp rx
  · exact q _ _ (Ex.new hu) (rp_newT hu ho a (rx.append ry))
theorem rr_catL (hl : ds.length + es.length ≤ 100000) : RR rCat (.list ds) (.list es) (.list (ds ++ es)) := fun M H v u a r1 r2 Q q => by
  obtain ⟨p, xs, rfl, hp, rx⟩ := r1.is_lst
  obtain ⟨t, ys, rfl, ht, ry⟩ := r2.is_lst
  exact ⟨p, t, xs, ys, rfl, rfl, hide_ex _ _ hp, hide_ex _ _ ht, by rw [rx.len, ry.len]; exact Evl.sz_of hl, fun u hu =>
    q _ _ (Ex.new hu) (.lst (new_free hu a upd_same) ((rx.append ry).up (hide_mono (Ex.new hu))))⟩
def rAddA (K : PySem.W.Frag) : R2 := fun v u H Q => rAddI v u H Q ∨ (fCat K v u H Q ∨ rCat v u H Q)
theorem dAddA {X : Cx} : OpR X (binaryOp .Add) (rAddA X.K) := OpR.or dAdd (OpR.or of_cat op_cat)
theorem rr_add (h : addD x y = some d) : RR (rAddA K) x y d := by
  unfold addD at h
  split at h
  · cases h
    exact RR.inl (r := rAddI) (rr_int fun _ => .int _)
  · split at h
    · cases h
      exact RR.inr (RR.inl (rr_catT (by assumption)))
    · cases h
  · split at h
    · cases h
      exact RR.inr (RR.inr (rr_catL (by assumption)))
    · cases h
  · cases h
theorem rr_intD {g : Int → Int → PyData} {gv : Int → Int → V} (hg : ∀ i j H, Rp H (gv i j) (g i j)) (h : intD2 g x y = some d) : RR (rI0 gv) x y d := by
  unfold intD2 at h
  split at h
  · cases h
    exact rr_int (hg _ _)
  · cases h
theorem ee_repD (h : repD x y = some d) (ha : EE ta ρ x) (hb : EE tb ρ y) : EE (tOp (fRep K) ta tb) ρ d := by
  unfold repD at h
  split at h
  · rename_i i
    by_cases c : 1 ≤ i ∧ i ≤ 1000
    · rw [if_pos c] at h
      cases h
      exact ee_repT ha hb c.1 c.2
    · rw [if_neg c] at h
      cases h
  · cases h
theorem rr_intC {C : Int → Int → Prop} {g : Int → Int → V} (hc : C i j) (hg : ∀ H, Rp H (g i j) d) : RR (rI C g) (.int i) (.int j) d := fun M H v u a r1 r2 Q q => by
  rw [r1.is_int, r2.is_int]
  exact ⟨i, j, rfl, rfl, hc, q _ H (Evl.Ex.refl H) (hg _)⟩
theorem rr_mul (h : mulD x y = some d) : RR (rI CMul fun i j => .int (i * j)) x y d := by
  unfold mulD at h
  split at h
  · split at h
    · rename_i c
      cases h
      exact rr_intC (.inr c) fun _ => .int _
    · cases h
  · cases h
theorem rr_md (h : mdD x y = some d) : RR (rI (fun _ j => 0 < j) fun i j => .int (i % j)) x y d := by
  unfold mdD at h
  split at h
  · split at h
    · rename_i c
      cases h
      exact rr_intC (C := fun _ j => 0 < j) c fun _ => .int _
    · cases h
  · cases h
theorem rr_fdv (h : fdvD x y = some d) : RR (rI CDiv fun i j => .int (i / j)) x y d := by
  unfold fdvD at h
  split at h
  · split at h
    · rename_i c
      cases h
      exact rr_intC (C := CDiv) c fun _ => .int _
    · cases h
  · cases h
theorem rr_pw (h : pwD x y = some d) : RR (rI CPow fun i j => .int (i ^ j.toNat)) x y d := by
  unfold pwD at h
  split at h
  · split at h
    · rename_i c
      cases h
      exact rr_intC (C := CPow) c fun _ => .int _
    · cases h
  · cases h
def rAbs : List V → Hp → VK → Prop := fun xs H Q => ∃ i, xs = [.int i] ∧ Q (.int (if i < 0 then -i else i)) H
theorem ee_absD (h : absD x = some d) (ha : EE ta ρ x) : EE (tCB rAbs (tCons ta tNil)) ρ d := fun own M σ H s a Q q => ha own M σ H s a _ fun v H1 e1 r1 => by
  unfold absD at h
  split at h
  · cases h
    rw [r1.is_int]
    exact ⟨_, rfl, q _ H1 e1 (.int _)⟩
  · cases h
def rToI : List V → Hp → VK → Prop := fun xs H Q => (∃ i, xs = [.int i] ∧ Q (.int i) H) ∨ ∃ k, xs = [.bl k] ∧ Q (.int (if k then 1 else 0)) H
theorem ee_toID (h : toID x = some d) (ha : EE ta ρ x) : EE (tCB rToI (tCons ta tNil)) ρ d := fun own M σ H s a Q q => ha own M σ H s a _ fun v H1 e1 r1 => by
  unfold toID at h
  split at h
  · cases h
    rw [r1.is_int]
    exact .inl ⟨_, rfl, q _ H1 e1 (.int _)⟩
  · cases h
    rw [r1.is_bl]
    exact .inr ⟨_, rfl, q _ H1 e1 (.int _)⟩
  · cases h
theorem ee_negD (h : negD x = some d) (ha : EE ta ρ x) : EE (tUn rNegI ta) ρ d := by
  unfold negD at h
  split at h
  · cases h
    exact ee_negI ha
  · cases h
theorem and_tt {a b : Bool} (h : (a && b) = true) : a = true ∧ b = true := by
  cases a <;> cases b <;> first | exact ⟨rfl, rfl⟩ | cases h
theorem ee_eqD {b : Bool} (h : eqD x y = some b) (ha : EE ta ρ x) (hb : EE tb ρ y) : EE (tOp (rEqD K) ta tb) ρ (.bool b) := by
  unfold eqD at h
  split at h
  · rename_i c
    cases h
    exact ee_eq ha hb (and_tt c).1 (and_tt c).2
  · cases h
theorem ee_neD {b : Bool} (h : eqD x y = some b) (ha : EE ta ρ x) (hb : EE tb ρ y) : EE (tOp (rNeD K) ta tb) ρ (.bool (!b)) := by
  unfold eqD at h
  split at h
  · rename_i c
    cases h
    exact ee_ne ha hb (and_tt c).1 (and_tt c).2
  · cases h
theorem ee_memD {b : Bool} (h : memD x y = some b) (ha : EE ta ρ x) (hb : EE tb ρ y) : EE (tOp (rInA K) ta tb) ρ (.bool b) := by
  unfold memD at h
  split at h
  · split at h
    · rename_i c
      cases h
      exact ee_inT ha hb (and_tt c).1 (and_tt c).2
    · cases h
  · split at h
    · rename_i c
      cases h
      exact ee_inL ha hb (and_tt c).1 (and_tt c).2
    · cases h
  · cases h
theorem ee_nmemD {b : Bool} (h : memD x y = some b) (ha : EE ta ρ x) (hb : EE tb ρ y) : EE (tOp (rNotInA K) ta tb) ρ (.bool (!b)) := by
  unfold memD at h
  split at h
  · split at h
    · rename_i c
      cases h
      exact ee_niT ha hb (and_tt c).1 (and_tt c).2
    · cases h
  · split at h
    · rename_i c
      cases h
      exact ee_niL ha hb (and_tt c).1 (and_tt c).2
    · cases h
  · cases h
theorem ee_ixD (h : ixD x i = some d) (ha : EE ta ρ x) (hb : EE tb ρ (.int i)) : EE (tOp (rIx K) ta tb) ρ d := by
  unfold ixD at h
  split at h
  · exact ee_ixT ha hb h
  · exact ee_ixL ha hb h
  · cases h
def rSlA (K : PySem.W.Frag) : V → Option Int → Option Int → Hp → VK → Prop := fun v lo hi H Q => fSl K v lo hi H Q ∨ rSlL K v lo hi H Q
theorem sl_any {X : Cx} : SlR X (rSlA X.K) := SlR.or sf_tup sl_list
theorem ee_slD {tl th : TO} {lo hi : Option Int} (h : slD x lo hi = some d) (ha : EE ta ρ x) (hl : EO tl ρ lo) (hh : EO th ρ hi) : EE (tSl (rSlA K) ta tl th) ρ d := by
  unfold slD at h
  split at h
  · rename_i ds
    cases h
    exact fun own M σ H s a Q q => ha own M σ H s a _ fun v H1 e1 r1 => hl own M σ H1 (s.up e1) (a.up e1) _ fun H2 e2 => hh own M σ H2 (s.up (e1.trans e2)) (a.up (e1.trans e2)) _ fun H3 e3 => by
      have e13 := e2.trans e3
      obtain ⟨p, xs, rfl, hp, r⟩ := (r1.up (hide_mono e13)).is_tup
      have e := e1.trans e13
      refine .inl ⟨p, xs, rfl, (hp.up hide_ex).sq, fun hw => ?_, fun _ t o ht ho => ?_⟩
      · have e0 : cutV xs lo hi = xs := by
          unfold cutV
          rw [hw.1, hw.2, List.drop_zero, Nat.sub_zero, List.take_length]
        refine q _ H3 e (.tup hp ?_)
        have := r.cut lo hi
        rw [e0] at this
        exact this
      · exact q _ _ (e.trans (Ex.new ht)) (rp_newT ht ho (a.up e) (r.cut lo hi))
  · rename_i ds
    cases h
    exact fun own M σ H s a Q q => ha own M σ H s a _ fun v H1 e1 r1 => hl own M σ H1 (s.up e1) (a.up e1) _ fun H2 e2 => hh own M σ H2 (s.up (e1.trans e2)) (a.up (e1.trans e2)) _ fun H3 e3 => by
      have e13 := e2.trans e3
      obtain ⟨p, xs, rfl, hp, r⟩ := (r1.up (hide_mono e13)).is_lst
      have e := e1.trans e13
      refine .inr ⟨p, xs, rfl, SqL.of (hide_ex _ _ hp), fun t ht => ?_⟩
      exact q _ _ (e.trans (Ex.new ht)) (.lst (new_free ht (a.up e) upd_same) ((r.cut lo hi).up (hide_mono (Ex.new ht))))
  · cases h
theorem ee_lenD (h : lenD x = some d) (ha : EE ta ρ x) : EE (tCB (rLenS K) (tCons ta tNil)) ρ d := by
  unfold lenD at h
  split at h
  · cases h; exact ee_lenT ha
  · cases h; exact ee_lenL ha
  · cases h
def tyS : Ty → String
  | .int => "int"
  | .bool => "bool"
  | .str => "str"
  | .tup => "tuple"
  | .lst => "list"
theorem ee_isiD (k : Ty) (ha : EE ta ρ x) : EE (tCB (rIsi K) (tCons ta (tCons (tC (.ty (tyS k))) tNil))) ρ (.bool (isiD k x)) := by
  cases k
  · exact ee_isiInt ha
  · exact ee_isiBool ha
  · exact ee_isiStr ha
  · exact ee_isiTup ha
  · exact ee_isiLst ha
theorem allM_bools : ∀ {ds : List PyData} {bs : List Bool}, allM boolD ds = some bs → ds = bs.map PyData.bool
  | [], bs, h => by cases h; rfl
  | d :: ds, bs, h => by
    unfold allM at h
    cases d with
    | bool b =>
      cases h2 : allM boolD ds with
      | none => simp [boolD, h2] at h
      | some cs =>
        simp [boolD, h2] at h
        rw [← h, allM_bools h2]
        rfl
    | _ => simp [boolD] at h
theorem allM_ints : ∀ {ds : List PyData} {ns : List Int}, allM intOfD ds = some ns → ds = ns.map PyData.int
  | [], bs, h => by cases h; rfl
  | d :: ds, bs, h => by
    unfold allM at h
    cases d with
    | int b =>
      cases h2 : allM intOfD ds with
      | none => simp [intOfD, h2] at h
      | some cs =>
        simp [intOfD, h2] at h
        rw [← h, allM_ints h2]
        rfl
    | _ => simp [intOfD] at h
theorem lstD_eq {z : List PyData} (h : lstD x = some z) : x = .list z := by
  unfold lstD at h
  split at h
  · cases h; rfl
  · cases h
theorem tupD_eq {z : List PyData} (h : tupD x = some z) : x = .tuple z := by
  unfold tupD at h
  split at h
  · cases h; rfl
  · cases h
theorem intOfD_eq {z : Int} (h : intOfD x = some z) : x = .int z := by
  unfold intOfD at h
  split at h
  · cases h; rfl
  · cases h
theorem boolD_eq {z : Bool} (h : boolD x = some z) : x = .bool z := by
  unfold boolD at h
  split at h
  · cases h; rfl
  · cases h
theorem alikeB_all (h : alikeB ds = true) : AlikeAll ds := by
  obtain ⟨h1, h2⟩ := and_tt h
  refine ⟨fun x hx y hy => List.all_eq_true.mp (List.all_eq_true.mp h1 x hx) y hy, fun x hx e => ?_⟩
  have := List.all_eq_true.mp h2 x hx
  rw [e] at this
  cases this
theorem ee_minLD (h : minLD ds = some d) (ha : EE ta ρ (.list ds)) : EE (tCB (rMinA K) (tCons ta tNil)) ρ d := by
  unfold minLD at h
  split at h
  · rename_i n ns e
    cases h
    rw [allM_ints e] at ha
    exact ee_minI ha
  · split at h
    · cases h
    · split at h
      · rename_i c
        cases h
        exact ee_minD ha (alikeB_all (and_tt c).1) (of_decide_eq_true (and_tt c).2)
      · cases h
theorem ee_sortD (h : sortD x = some d) (ha : EE ta ρ x) : EE (tCB (rSortedA K) (tCons ta tNil)) ρ d := by
  unfold sortD at h
  split at h
  · rename_i ds
    cases e : allM intOfD ds with
    | none => rw [e] at h; cases h
    | some ns =>
      rw [e] at h
      cases h
      rw [allM_ints e] at ha
      exact (el_sortL ha).ee
  · rename_i ds
    cases e : allM intOfD ds with
    | none => rw [e] at h; cases h
    | some ns =>
      rw [e] at h
      simp only [Option.bind_some] at h
      split at h
      · cases h
        rw [allM_ints e] at ha
        exact (el_sortT ha (by assumption)).ee
      · cases h
  · cases h
theorem ee_idxD (h : idxD x y = some d) (ha : EE ta ρ x) (hb : EE tb ρ y) : EE (tIdx ta (tCons tb tNil)) ρ d := by
  unfold idxD at h
  split at h
  · rename_i ds k
    cases e : allM intOfD ds with
    | none => rw [e] at h; cases h
    | some ns =>
      rw [e] at h
      simp only [Option.bind_some] at h
      split at h
      · cases h
        rw [allM_ints e] at ha
        exact ee_idx ha hb (by assumption)
      · cases h
  · cases h
theorem rg1D_eq (h : rg1D x = some ds) : ∃ n : Int, x = .int n ∧ 0 ≤ n ∧ n ≤ 100000 ∧ ds = rgD 0 n := by
  unfold rg1D at h
  split at h
  · split at h
    · rename_i c
      cases h
      exact ⟨_, rfl, c.1, c.2, rfl⟩
    · cases h
  · cases h
theorem itR1D_eq (h : itR1D x = some ds) : ∃ n : Int, x = .int n ∧ -100000 ≤ n ∧ n ≤ 100000 ∧ ds = rgD 0 n := by
  unfold itR1D at h
  split at h
  · split at h
    · rename_i c
      cases h
      exact ⟨_, rfl, c.1, c.2, rfl⟩
    · cases h
  · cases h
theorem et_tru {b : Bool} (h : truD x = some b) (ha : EE ta ρ x) : ET (tTru K ta) ρ b := fun own M σ H s a Q q => ha own M σ H s a _ fun v H1 e1 r1 => by
  cases r1 with
  | non => cases h; exact ⟨false, rfl, q H1 e1⟩
  | bl c => cases h; exact ⟨_, rfl, q H1 e1⟩
  | int i => cases h; exact ⟨_, rfl, q H1 e1⟩
  | str z => cases h
  | lst hp rx =>
    refine ⟨b, .inl ⟨_, SqL.of (hide_ex _ _ hp), ?_⟩, q H1 e1⟩
    cases h
    cases rx <;> rfl
  | tup hp rx =>
    refine ⟨b, .inr (.inl ⟨_, (hp.up hide_ex).sq, ?_⟩), q H1 e1⟩
    cases h
    cases rx <;> rfl
theorem ee_notT {b : Bool} (h : truD x = some b) (ha : EE ta ρ x) : EE (tNotT K ta) ρ (.bool (!b)) := fun own M σ H s a Q q => by
  have := et_tru (K := K) h ha own M σ H s a (fun k H' => Q (.bl (!k)) H') fun H2 e => q _ H2 e (.bl _)
  exact this
end
end R60

end -- D7
section -- D8
set_option Elab.async false
set_option linter.all false
set_option maxRecDepth 100000
set_option maxHeartbeats 4000000
/-! A certified reader: the program's expression e is the small expression x. -/
namespace R60
open PySem PySem.Spec PyProof.Rows L2 RZ
open Evl (Ex)
/-- the place where an expression stands: the def's names, the scope's kinds -/
structure Sc where
  N : List Str
  sc : Scope
  fn : Str → Bool
/-- the promise of a def by its answers -/
def spF (F : Fs) (f : Nat) : Sp := fun vs H Q _ => ∃ (M : List Addr) (ds : List PyData) (d : PyData), Al M H ∧ RpAll (hide M H) vs ds ∧ F f ds = some d ∧ ∀ v H2, Ex H H2 → Rp (hide M H2) v d → Q v H2
def bltNames : List Str := ["isinstance", "len", "all", "any", "max", "min", "sorted", "list", "tuple", "range", "enumerate", "zip", "reversed", "int", "abs", "bool", "str"]
def conNames : List (Str × Int) := [("MOST_ITEMS", 7), ("MOST_CONSTRAINTS", 12), ("MOST_NUMBER", 20)]
structure Fits (F : Fs) (NM : List Str) (S : Sc) (X : Cx) : Prop where
  calm : X.calm = true
  nd : X.N.Nodup
  N : X.N = S.N
  sc : X.env.scope = S.sc
  fn : X.fn = S.fn
  room : ∃ k, Room k X.A
  blt : ∀ b ∈ bltNames, X.mg b = none
  con : ∀ p ∈ conNames, ∃ t, X.mg p.1 = some (.int p.2 t)
  call : ∀ f x, NM[f]? = some x → ∃ k, Room k X.A ∧ C8.Cal X.prog X.w X.K X.mg X.base k x (spF F f) []
section
variable (F : Fs) (NM : List Str)
def SndE (S : Sc) (e : Expr) (x : Xp) : Prop := ∀ X, Fits F NM S X → PE X e (cE F x)
def SndT (S : Sc) (e : Expr) (x : Xp) : Prop := ∀ X, Fits F NM S X → PT X e (cT F x)
def SndA (S : Sc) (es : List Expr) (x : Xp) : Prop := ∀ X, Fits F NM S X → PA X es (cA F x)
def SndI (S : Sc) (tg : Expr) (pr : Bool) (e : Expr) (x : Xp) : Prop := ∀ X, Fits F NM S X → PI X tg e (cI F X.K pr x)
def SndO (S : Sc) (e : Option Expr) (x : Xp) : Prop := ∀ X, Fits F NM S X → PO X e (cO F x)
abbrev Tr (p : Prop) := Option (PLift p)
structure Chk (x : Xp) where
  e : ∀ (S : Sc) (e : Expr), Tr (SndE F NM S e x) := fun _ _ => none
  t : ∀ (S : Sc) (e : Expr), Tr (SndT F NM S e x) := fun _ _ => none
  a : ∀ (S : Sc) (es : List Expr), Tr (SndA F NM S es x) := fun _ _ => none
  i : ∀ (S : Sc) (tg : Expr) (pr : Bool) (e : Expr), Tr (SndI F NM S tg pr e x) := fun _ _ _ _ => none
  o : ∀ (S : Sc) (e : Option Expr), Tr (SndO F NM S e x) := fun _ _ => none
end
def must (b : Bool) : Tr (b = true) := if h : b = true then some ⟨h⟩ else none
def bothT {p q r : Prop} (a : Tr p) (b : Tr q) (f : p → q → r) : Tr r := match a, b with
  | some ⟨x⟩, some ⟨y⟩ => some ⟨f x y⟩
  | _, _ => none
def oneT {p r : Prop} (a : Tr p) (f : p → r) : Tr r := match a with
  | some ⟨x⟩ => some ⟨f x⟩
  | none => none
/-! ### forms of expressions -/
def notStar : Expr → Bool
  | .Starred _ _ => false
  | _ => true
theorem star_ok {e : Expr} (h : notStar e = true) (es : List Expr) (env : Env) : starEach (e :: es) env = (false, eval e env) :: starEach es env := by
  cases e <;> first | rfl | cases h
def notSet : Expr → Bool
  | .Set _ _ _ => false
  | _ => true
theorem set_ok {e : Expr} (h : notSet e = true) (env : Env) (x : Value) : foldedSetIterable e env x = pure x := by
  cases e <;> first | rfl | cases h
def plainB : Expr → Bool
  | .Slice _ _ _ _ => false
  | _ => true
theorem plain_ok {e : Expr} (h : plainB e = true) : PlainIx e := by
  cases e <;> first | (intro _ _; rfl) | cases h
def plainT : Expr → Bool
  | .UnaryOp _ _ _ => false
  | .BoolOp _ _ _ => false
  | .IfExp _ _ _ _ => false
  | .Compare _ _ _ _ => false
  | _ => true
theorem truth_ok {e : Expr} (h : plainT e = true) (env : Env) : ∀ whole, isTrue e env whole = (do let v ← whole; standAt e.pos; holding [v] (truthy v)) := by
  cases e <;> first | (intro _; rfl) | cases h
def visB (S : Sc) (y : Str) : Bool := match S.sc.names.lookup y with
  | some .local => true
  | some .cell => true
  | some .free => true
  | _ => false
def locB (S : Sc) (y : Str) : Bool := match S.sc.names.lookup y with
  | some .local => true
  | some .cell => true
  | _ => false
def glB (S : Sc) (y : Str) : Bool := match S.sc.names.lookup y with
  | some .globalImplicit => true
  | _ => false
def dbg (y : Str) : Bool := (y == ("__debug__" : Str))
def cdc (y : Str) : Bool := (y == ("__classdict__" : Str))
section
variable {F : Fs} {NM : List Str} {S : Sc} {X : Cx} {y : Str}
theorem vis_ok (h : visB S y = true) (f : Fits F NM S X) : Vis X.env.scope y := by
  unfold visB at h
  rw [← f.sc] at h
  unfold Vis
  split at h <;> first | (rename_i e; exact .inl e) | (rename_i e; exact .inr (.inl e)) | (rename_i e; exact .inr (.inr e)) | cases h
theorem loc_ok (h : locB S y = true) (f : Fits F NM S X) : L2.Loc X.env.scope y := by
  unfold locB at h
  rw [← f.sc] at h
  unfold L2.Loc
  split at h <;> first | (rename_i e; exact .inl e) | (rename_i e; exact .inr e) | cases h
theorem gl_ok (h : glB S y = true) (f : Fits F NM S X) : Gl X y := by
  unfold glB at h
  rw [← f.sc] at h
  unfold Gl Env.kindOf
  split at h <;> first | (rename_i e; exact e) | cases h
theorem notT {b : Bool} (h : (!b) = true) : b = false := by cases b <;> first | rfl | cases h
theorem eq_of_dec {y z : Str} (h : decide (y = z) = true) : y = z := of_decide_eq_true h
/-! ### the ways to get at a test -/
theorem tOfE {x : Xp} {e : Expr} (h : SndE F NM S e x) (hp : plainT e = true) : SndT F NM S e x := fun X f =>
  PT.can (pt_truth (h X f) (truth_ok hp X.env)) fun ρ b hb => by
    unfold evT at hb
    cases hd : ev F x ρ with
    | none => rw [hd] at hb; cases hb
    | some d =>
      rw [hd] at hb
      exact et_tru (x := d) hb (ce hd)
theorem eoOf {x : Xp} {ρ : List Sl} {d : PyData} {i : Int} (h : ev F x ρ = some d) (hi : intOfD d = some i) : EO (tPart (cE F x)) ρ (some i) := by
  rw [intOfD_eq hi] at h
  exact eo_some (ce h)
end
/-! ### pieces -/
section
variable {F : Fs} {NM : List Str} {S : Sc}
theorem pa1 {X : Cx} {e : Expr} {te : TE} (h : PE X e te) (hs : notStar e = true) : PA X [e] (tCons te tNil) := pa_cons h pa_nil (star_ok hs _ _)
theorem pa2 {X : Cx} {e e2 : Expr} {te te2 : TE} (h : PE X e te) (hs : notStar e = true) (h2 : PE X e2 te2) (hs2 : notStar e2 = true) : PA X [e, e2] (tCons te (tCons te2 tNil)) := pa_cons h (pa1 h2 hs2) (star_ok hs _ _)
theorem back_ok : ∀ {es : List Expr} (pos : Pos) (env : Env), es.all notStar = true → (backTo pos (starEach es env)).any (·.1) = false
  | [], _, _, _ => rfl
  | e :: es, pos, env, h => by
    rw [List.all_cons] at h
    obtain ⟨h1, h2⟩ := and_tt h
    rw [star_ok h1]
    have := back_ok (es := es) pos env h2
    unfold backTo at this ⊢
    rw [List.map_cons, List.any_cons, this]
    rfl
/-- a built-in function's call with one argument -/
theorem sndB1 {r : PySem.W.Frag → List V → Hp → VK → Prop} {n : Str} {id : String} {a x : Xp} {e1 : Expr} {p pos : Pos} (hr : ∀ X, Fits F NM S X → CallR X (.builtin id) (r X.K)) (hv : bootBuiltins n = some (.builtin id)) (hn : n ∈ bltNames) (n1 : n ≠ "__name__") (n2 : (n == ("__debug__" : Str)) = false)
    (hg : glB S n = true) (hs : notStar e1 = true) (h1 : SndE F NM S e1 a) (hs2 : ∀ (K : PySem.W.Frag) ρ d, ev F x ρ = some d → EE (tCB (r K) (tCons (cE F a) tNil)) ρ d) : SndE F NM S (.Call (.Name n p) [e1] [] pos) x := fun X f =>
  PE.can (pe_callB (hr X f) (gl_ok hg f) (f.blt n hn) hv (pa1 (h1 X f) hs) n1 n2 (star_ok hs _ _) rfl) (hs2 X.K)
end
section
variable (F : Fs) (NM : List Str)
/-- the names of a target and their places -/
def ownOf : List Nat → Expr → Option (List (Str × Nat))
  | [j], .Name y _ => some [(y, j)]
  | js, .Tuple es _ _ => let ys := es.filterMap fun | .Name y _ => some y | _ => none
      if ys.length = js.length ∧ es.length = js.length then some (ys.zip js) else none
  | _, _ => none
def SndG (S : Sc) (tg : Expr) (js : List Nat) : Prop := ∀ X, Fits F NM S X → PG X tg (gT X.K js)
def SndGs (S : Sc) (tg : List Expr) (js : List Nat) : Prop := ∀ X, Fits F NM S X → PGs X tg (gNames js)
def chkN (S : Sc) (j : Nat) (y : Str) : Bool := decide (S.N[j]? = some y) && locB S y && (S.fn y || decide (S.sc.names.lookup y = some .local))
end
section
variable {F : Fs} {NM : List Str} {S : Sc}
theorem pgN {X : Cx} {j : Nat} {y : Str} {p : Pos} (h : chkN S j y = true) (f : Fits F NM S X) : PG X (.Name y p) (gName j) := by
  obtain ⟨h1, h3⟩ := and_tt h
  obtain ⟨h1, h2⟩ := and_tt h1
  refine pg_name f.nd (by rw [f.N]; exact of_decide_eq_true h1) (loc_ok h2 f) ?_
  rw [f.fn, f.sc]
  cases e : S.fn y with
  | true => exact .inl rfl
  | false =>
    rw [e] at h3
    exact .inr (of_decide_eq_true h3)
end
section
variable (F : Fs) (NM : List Str)
def chkGs (S : Sc) : ∀ (es : List Expr) (js : List Nat), Tr (SndGs F NM S es js)
  | [], [] => some ⟨fun X f => pgs_nil⟩
  | .Name y p :: es, j :: js => bothT (must (chkN S j y)) (chkGs S es js) fun h1 h2 => fun X f => pgs_cons (pgN h1 f) (h2 X f)
  | _, _ => none
theorem asg_len {env : Env} : ∀ {es : List Expr} , (es.all fun | .Name _ _ => true | _ => false) = true → (assignEach es env).length = es.length ∧ (assignEach es env).findIdx? (·.1) = none
  | [], _ => ⟨rfl, rfl⟩
  | e :: es, h => by
    rw [List.all_cons] at h
    obtain ⟨h1, h2⟩ := and_tt h
    obtain ⟨i1, i2⟩ := asg_len (env := env) (es := es) h2
    cases e with
    | Name y p =>
      refine ⟨?_, ?_⟩
      · show (assignEach es env).length + 1 = es.length + 1
        rw [i1]
      · show List.findIdx? (·.1) ((false, assign (.Name y p) env) :: assignEach es env) = none
        rw [List.findIdx?_cons]
        simp [i2]
    | _ => cases h1
def chkG (S : Sc) : ∀ (tg : Expr) (js : List Nat), Tr (SndG F NM S tg js)
  | .Name y p, [j] => oneT (must (chkN S j y)) fun h => fun X f => pgN h f
  | .Tuple es k p, js => bothT (must (decide (2 ≤ js.length) && decide (es.length = js.length) && es.all fun | .Name _ _ => true | _ => false)) (chkGs F NM S es js) fun h h2 => fun X f => by
      obtain ⟨h1, h3⟩ := and_tt h
      obtain ⟨h0, h1⟩ := and_tt h1
      have l0 := of_decide_eq_true h0
      have l1 := of_decide_eq_true h1
      obtain ⟨k1, k2⟩ := asg_len (env := X.env) h3
      have hg : gT X.K js = gTup X.K js.length (gNames js) := by
        unfold gT
        split
        · simp at l0
        · rfl
      rw [hg]
      exact pg_tup f.calm (h2 X f) (by rw [k1]; exact l1) k2
  | _, _ => none
def Sc.blk (S : Sc) (scope : Scope) : Sc := ⟨S.N, relS scope S.sc, fun x => scope.names.lookup x == some .cell⟩
end
theorem Fits.blk {F : Fs} {NM : List Str} {S : Sc} {X : Cx} (f : Fits F NM S X) (scope : Scope) (s : Shared) (H : Hp) (C : Addr) (cl : List (Str × Addr)) (fp : List Addr) : Fits F NM (S.blk scope) (X.blk s H scope (compEnvC scope cl C X.env) fp) where
  calm := f.calm
  nd := f.nd
  N := f.N
  sc := by
    show relabel scope X.env = relS scope S.sc
    rw [← f.sc]
    rfl
  fn := rfl
  room := f.room
  blt := f.blt
  con := f.con
  call := f.call
/-- a comprehension's tests -/
def SndTs (F : Fs) (NM : List Str) (S : Sc) (ifs : List Expr) (x : Xp) : Prop := ∀ X, Fits F NM S X → PTs X ifs (cT F x)
theorem pts_yes {F : Fs} {X : Cx} : PTs X [] (cT F (.bl true)) := ⟨fun pins s σ H Q I ⟨own, M, ρ, b, se, al, h1, q⟩ => by
  have e : b = true := by
    have : some true = some b := h1
    exact (Option.some.inj this).symm
  subst e
  exact pts_nil.run pins s σ H Q I (q H (Evl.Ex.refl H))⟩
end R60

end -- D8
section -- D9
set_option Elab.async false
set_option linter.all false
set_option maxRecDepth 100000
set_option maxHeartbeats 4000000
/-! The certified reader of expressions, construct by construct. -/
namespace R60
open PySem PySem.Spec PyProof.Rows L2 RZ
open Evl (Ex)
section
variable {F : Fs} {NM : List Str} {S : Sc} {a b c x : Xp} {ρ : List Sl} {d : PyData}
/-! ### what ev says of the parts -/
theorem bind_some {α β : Type} {o : Option α} {f : α → Option β} {r : β} (h : o.bind f = some r) : ∃ z, o = some z ∧ f z = some r := by
  cases o with
  | none => cases h
  | some z => exact ⟨z, rfl, h⟩
theorem map_some {α β : Type} {o : Option α} {f : α → β} {r : β} (h : o.map f = some r) : ∃ z, o = some z ∧ f z = r := by
  cases o with
  | none => cases h
  | some z => cases h; exact ⟨z, rfl, rfl⟩
theorem bind_int {o : Option PyData} {i : Int} (h : o.bind intOfD = some i) : o = some (.int i) := by
  obtain ⟨z, rfl, h⟩ := bind_some h
  rw [intOfD_eq h]
theorem bind_bool {o : Option PyData} {i : Bool} (h : o.bind boolD = some i) : o = some (.bool i) := by
  obtain ⟨z, rfl, h⟩ := bind_some h
  rw [boolD_eq h]
theorem bind_lst {o : Option PyData} {i : List PyData} (h : o.bind lstD = some i) : o = some (.list i) := by
  obtain ⟨z, rfl, h⟩ := bind_some h
  rw [lstD_eq h]
theorem bind_tup {o : Option PyData} {i : List PyData} (h : o.bind tupD = some i) : o = some (.tuple i) := by
  obtain ⟨z, rfl, h⟩ := bind_some h
  rw [tupD_eq h]
/-! ### a comparison of two -/
theorem sndCmp {op : CmpOp} {r : PySem.W.Frag → R2} {e1 e2 : Expr} {pos : Pos} (ho : ∀ X, Fits F NM S X → OpR X (compareOp op) (r X.K)) (hm : behindInMarks op e2 = false) (h1 : SndE F NM S e1 a) (h2 : SndE F NM S e2 b)
    (hs : ∀ (K : PySem.W.Frag) ρ d, ev F x ρ = some d → ∃ c, d = .bool c ∧ EE (tOp (r K) (cE F a) (cE F b)) ρ (.bool c)) : SndE F NM S (.Compare e1 [op] [e2] pos) x ∧ SndT F NM S (.Compare e1 [op] [e2] pos) x := by
  refine ⟨fun X f => PE.can (pe_cmpR (ho X f) (h1 X f) (h2 X f) hm) fun ρ d h => ?_, fun X f => PT.can (pt_cmpR (ho X f) (h1 X f) (h2 X f) hm) fun ρ c h => ?_⟩
  · obtain ⟨c, rfl, q⟩ := hs X.K ρ d h
    exact q
  · obtain ⟨d, hd, ht⟩ := bind_some h
    obtain ⟨c', rfl, q⟩ := hs X.K ρ d hd
    cases ht
    exact et_test q
end
section
variable (F : Fs) (NM : List Str)
/-- the reader of a comparison -/
def cmpChk (op : CmpOp) (r : PySem.W.Frag → R2) {a b x : Xp} (ca : Chk F NM a) (cb : Chk F NM b) (ho : ∀ X S, Fits F NM S X → OpR X (compareOp op) (r X.K))
    (hs : ∀ (K : PySem.W.Frag) ρ d, ev F x ρ = some d → ∃ c, d = .bool c ∧ EE (tOp (r K) (cE F a) (cE F b)) ρ (.bool c)) : Chk F NM x where
  e := fun S e => match e with
    | .Compare e1 [op'] [e2] pos => if h : op' = op then bothT (must (!behindInMarks op e2)) (bothT (ca.e S e1) (cb.e S e2) And.intro) fun hm h12 => by
        subst h
        exact (sndCmp (fun X f => ho X S f) (notT hm) h12.1 h12.2 hs).1
      else none
    | _ => none
  t := fun S e => match e with
    | .Compare e1 [op'] [e2] pos => if h : op' = op then bothT (must (!behindInMarks op e2)) (bothT (ca.e S e1) (cb.e S e2) And.intro) fun hm h12 => by
        subst h
        exact (sndCmp (fun X f => ho X S f) (notT hm) h12.1 h12.2 hs).2
      else none
    | _ => none
/-- a reader of expressions whose test is their truth -/
def plainChk {x : Xp} (f : ∀ (S : Sc) (e : Expr), Tr (SndE F NM S e x)) : Chk F NM x where
  e := f
  t := fun S e => bothT (must (plainT e)) (f S e) fun hp h => tOfE h hp
/-- a two-place operation -/
def opChk (op : Operator) (r : PySem.W.Frag → R2) {a b x : Xp} (ca : Chk F NM a) (cb : Chk F NM b) (ho : ∀ X S, Fits F NM S X → OpR X (binaryOp op) (r X.K))
    (hs : ∀ (K : PySem.W.Frag) ρ d, ev F x ρ = some d → EE (tOp (r K) (cE F a) (cE F b)) ρ d) : Chk F NM x := plainChk F NM fun S e => match e with
    | .BinOp e1 op' e2 pos => if h : op' = op then bothT (ca.e S e1) (cb.e S e2) fun h1 h2 => by
        subst h
        exact fun X f => PE.can (pe_op (ho X S f) (h1 X f) (h2 X f)) (hs X.K)
      else none
    | _ => none
/-- a built-in function of one argument -/
def blt1 (n : Str) (id : String) (r : PySem.W.Frag → List V → Hp → VK → Prop) {a x : Xp} (ca : Chk F NM a) (hr : ∀ X S, Fits F NM S X → CallR X (.builtin id) (r X.K)) (hv : bootBuiltins n = some (.builtin id)) (hn : n ∈ bltNames) (n1 : n ≠ "__name__") (n2 : (n == ("__debug__" : Str)) = false)
    (hs : ∀ (K : PySem.W.Frag) ρ d, ev F x ρ = some d → EE (tCB (r K) (tCons (cE F a) tNil)) ρ d) : Chk F NM x := plainChk F NM fun S e => match e with
    | .Call (.Name m p) [e1] [] pos => if h : m = n then bothT (must (glB S n && notStar e1)) (ca.e S e1) fun h1 h2 => by
        subst h
        exact sndB1 (fun X f => hr X S f) hv hn n1 n2 (and_tt h1).1 (and_tt h1).2 h2 hs
      else none
    | _ => none
def chkVar (i : Nat) : Chk F NM (.var i) := plainChk F NM fun S e => match e with
  | .Name y p => oneT (must (decide (S.N[i]? = some y) && visB S y && !dbg y && !cdc y)) fun h => by
      obtain ⟨h, h4⟩ := and_tt h
      obtain ⟨h, h3⟩ := and_tt h
      obtain ⟨h1, h2⟩ := and_tt h
      exact fun X f => PE.can (pe_var (i := i) (by rw [f.N]; exact of_decide_eq_true h1) (vis_ok h2 f) (notT h3) (notT h4)) fun ρ d h => by
        have h : varD ρ[i]? = some d := h
        unfold varD at h
        split at h
        · rename_i e
          cases h
          exact ee_var e
        · cases h
  | _ => none
def chkInt (i : Int) : Chk F NM (.int i) := plainChk F NM fun S e => match e with
  | .Constant (.int j) k p => if h : j = i then some ⟨fun X f => PE.can pe_int fun ρ d hd => by
      subst h
      cases hd
      exact ee_int⟩ else none
  | .Name y p => oneT (must (decide ((y, i) ∈ conNames) && glB S y && !dbg y)) fun h => by
      obtain ⟨h, h3⟩ := and_tt h
      obtain ⟨h1, h2⟩ := and_tt h
      exact fun X f => by
        obtain ⟨t, ht⟩ := f.con _ (of_decide_eq_true h1)
        exact PE.can (pe_glob (v := .int i) (gl_ok h2 f) ht ⟨t, rfl⟩ (notT h3)) fun ρ d hd => by
          cases hd
          exact ee_int
  | _ => none
def chkBl (b : Bool) : Chk F NM (.bl b) := plainChk F NM fun S e => match e with
  | .Constant (.bool j) k p => if h : j = b then some ⟨fun X f => PE.can pe_bl fun ρ d hd => by
      subst h
      cases hd
      exact ee_bl⟩ else none
  | _ => none
def chkNon : Chk F NM .non := plainChk F NM fun S e => match e with
  | .Constant .none k p => some ⟨fun X f => PE.can pe_non fun ρ d hd => by
      cases hd
      exact ee_non⟩
  | _ => none
def chkStr (b : Str) : Chk F NM (.str b) := plainChk F NM fun S e => match e with
  | .Constant (.str j) k p => if h : j = b then some ⟨fun X f => PE.can pe_str fun ρ d hd => by
      subst h
      cases hd
      exact ee_str⟩ else none
  | _ => none
def chkNil : Chk F NM .nil where
  a := fun S es => match es with
    | [] => some ⟨fun X f => PA.can pa_nil fun ρ ds h => by
        cases h
        exact ea_nil⟩
    | _ => none
  o := fun S e => match e with
    | none => some ⟨fun X f => ⟨fun pins s σ H Q I ⟨own, M, ρ, d, se, al, h1, q⟩ => by
        have h1 : some (PyData.tuple []) = some d := h1
        cases h1
        exact po_none.run pins s σ H Q I (q H (Evl.Ex.refl H))⟩⟩
    | some _ => none
def chkPart {a : Xp} (ca : Chk F NM a) : Chk F NM (.part a) where
  o := fun S e => match e with
    | none => none
    | some e => oneT (ca.e S e) fun h => fun X f => ⟨fun pins s σ H Q I ⟨own, M, ρ, d, se, al, h1, q⟩ => by
        obtain ⟨i, hi, rfl⟩ := map_some (show ((ev F a ρ).bind intOfD).map PyData.int = some d from h1)
        exact (po_some (h X f)).run pins s σ H Q I (eoOf (bind_int hi) rfl own M σ H se al Q q)⟩
def chkCons {a b : Xp} (c1 : Chk F NM a) (c2 : Chk F NM b) : Chk F NM (.cons a b) where
  a := fun S es => match es with
    | e :: es => bothT (must (notStar e)) (bothT (c1.e S e) (c2.a S es) And.intro) fun hs h12 => fun X f => PA.can (pa_cons (h12.1 X f) (h12.2 X f) (star_ok hs _ _)) fun ρ ds h => by
        have h : ((ev F a ρ).bind fun x => ((ev F b ρ).bind tupD).map fun xs => PyData.tuple (x :: xs)).bind tupD = some ds := h
        obtain ⟨z, h1, h2⟩ := bind_some h
        obtain ⟨y, h3, h4⟩ := bind_some h1
        obtain ⟨ys, h5, rfl⟩ := map_some h4
        cases h2
        exact ea_cons (ce h3) (ca h5)
    | [] => none
def chkTup {a : Xp} (ca' : Chk F NM a) : Chk F NM (.tup a) := plainChk F NM fun S e => match e with
  | .Tuple es k p => oneT (ca'.a S es) fun h => fun X f => PE.can (pf_tup (h X f)) fun ρ d hd => by
      obtain ⟨ds, h1, h2⟩ := bind_some (show (evA F a ρ).bind (fun xs => if xs.length ≤ 100000 then some (PyData.tuple xs) else none) = some d from hd)
      split at h2
      · cases h2
        exact ee_tup (ca h1) (by assumption)
      · cases h2
  | _ => none
def chkLst {a : Xp} (ca' : Chk F NM a) : Chk F NM (.lst a) := plainChk F NM fun S e => match e with
  | .List es p => oneT (ca'.a S es) fun h => fun X f => PE.can (pe_lst (h X f)) fun ρ d hd => by
      obtain ⟨ds, h1, h2⟩ := bind_some (show (evA F a ρ).bind (fun xs => if xs.length ≤ 100000 then some (PyData.list xs) else none) = some d from hd)
      split at h2
      · cases h2
        exact (el_lst (ca h1) (by assumption)).ee
      · cases h2
  | _ => none
theorem ev2 {a b : Xp} {ρ : List Sl} {d : PyData} {g : PyData → PyData → Option PyData} (h : ((ev F a ρ).bind fun x => (ev F b ρ).bind fun y => g x y) = some d) : ∃ x y, ev F a ρ = some x ∧ ev F b ρ = some y ∧ g x y = some d := by
  obtain ⟨x, h1, h2⟩ := bind_some h
  obtain ⟨y, h3, h4⟩ := bind_some h2
  exact ⟨x, y, h1, h3, h4⟩
def chkAdd {a b : Xp} (ca : Chk F NM a) (cb : Chk F NM b) : Chk F NM (.add a b) := opChk F NM .Add rAddA ca cb (fun X S f => dAddA) fun K ρ d h => by
  obtain ⟨x, y, h1, h2, h3⟩ := ev2 F (g := addD) h
  exact RR.ee (rr_add h3) (ce h1) (ce h2)
def chkSub {a b : Xp} (ca : Chk F NM a) (cb : Chk F NM b) : Chk F NM (.sub a b) := opChk F NM .Sub (fun _ => rSubI) ca cb (fun X S f => dSub) fun K ρ d h => by
  obtain ⟨x, y, h1, h2, h3⟩ := ev2 F (g := intD2 _) h
  exact RR.ee (rr_intD (fun _ _ _ => .int _) h3) (ce h1) (ce h2)
def chkRep {a b : Xp} (ca : Chk F NM a) (cb : Chk F NM b) : Chk F NM (.rep a b) := opChk F NM .Mult fRep ca cb (fun X S f => of_rep) fun K ρ d h => by
  obtain ⟨x, y, h1, h2, h3⟩ := ev2 F (g := repD) h
  exact ee_repD h3 (ce h1) (ce h2)
def chkNeg {a : Xp} (ca : Chk F NM a) : Chk F NM (.neg a) := plainChk F NM fun S e => match e with
  | .UnaryOp .USub e1 p => oneT (ca.e S e1) fun h => fun X f => PE.can (pe_un dNeg (h X f)) fun ρ d hd => by
      obtain ⟨z, h1, h2⟩ := bind_some (show (ev F a ρ).bind negD = some d from hd)
      exact ee_negD h2 (ce h1)
  | _ => none
def chkMul {a b : Xp} (ca : Chk F NM a) (cb : Chk F NM b) : Chk F NM (.mul a b) := opChk F NM .Mult (fun _ => rI CMul fun i j => .int (i * j)) ca cb (fun X S f => op_mul) fun K ρ d h => by
  obtain ⟨x, y, h1, h2, h3⟩ := ev2 F (g := mulD) h
  exact RR.ee (rr_mul h3) (ce h1) (ce h2)
def chkMd {a b : Xp} (ca : Chk F NM a) (cb : Chk F NM b) : Chk F NM (.md a b) := opChk F NM .Mod (fun _ => rI (fun _ j => 0 < j) fun i j => .int (i % j)) ca cb (fun X S f => op_mod) fun K ρ d h => by
  obtain ⟨x, y, h1, h2, h3⟩ := ev2 F (g := mdD) h
  exact RR.ee (rr_md h3) (ce h1) (ce h2)
def chkFdv {a b : Xp} (ca : Chk F NM a) (cb : Chk F NM b) : Chk F NM (.fdv a b) := opChk F NM .FloorDiv (fun _ => rI CDiv fun i j => .int (i / j)) ca cb (fun X S f => op_fdiv) fun K ρ d h => by
  obtain ⟨x, y, h1, h2, h3⟩ := ev2 F (g := fdvD) h
  exact RR.ee (rr_fdv h3) (ce h1) (ce h2)
def chkPw {a b : Xp} (ca : Chk F NM a) (cb : Chk F NM b) : Chk F NM (.pw a b) := opChk F NM .Pow (fun _ => rI CPow fun i j => .int (i ^ j.toNat)) ca cb (fun X S f => op_pow) fun K ρ d h => by
  obtain ⟨x, y, h1, h2, h3⟩ := ev2 F (g := pwD) h
  exact RR.ee (rr_pw h3) (ce h1) (ce h2)
theorem intD2_bool {g : Int → Int → Bool} {x y d : PyData} (h : intD2 (fun i j => .bool (g i j)) x y = some d) : ∃ c, d = .bool c := by
  unfold intD2 at h
  split at h
  · cases h; exact ⟨_, rfl⟩
  · cases h
def chkLt {a b : Xp} (ca : Chk F NM a) (cb : Chk F NM b) : Chk F NM (.lt a b) := cmpChk F NM .Lt (fun _ => rLtI) ca cb (fun X S f => dLt) fun K ρ d h => by
  obtain ⟨x, y, h1, h2, h3⟩ := ev2 F (g := intD2 fun i j => .bool (decide (i < j))) h
  obtain ⟨c, rfl⟩ := intD2_bool h3
  exact ⟨c, rfl, RR.ee (rr_intD (fun _ _ _ => .bl _) h3) (ce h1) (ce h2)⟩
def chkLe {a b : Xp} (ca : Chk F NM a) (cb : Chk F NM b) : Chk F NM (.le a b) := cmpChk F NM .LtE (fun _ => rLeI) ca cb (fun X S f => dLe) fun K ρ d h => by
  obtain ⟨x, y, h1, h2, h3⟩ := ev2 F (g := intD2 fun i j => .bool (decide (i ≤ j))) h
  obtain ⟨c, rfl⟩ := intD2_bool h3
  exact ⟨c, rfl, RR.ee (rr_intD (fun _ _ _ => .bl _) h3) (ce h1) (ce h2)⟩
def chkGt {a b : Xp} (ca : Chk F NM a) (cb : Chk F NM b) : Chk F NM (.gt a b) := cmpChk F NM .Gt (fun _ => rGtI) ca cb (fun X S f => dGt) fun K ρ d h => by
  obtain ⟨x, y, h1, h2, h3⟩ := ev2 F (g := intD2 fun i j => .bool (decide (j < i))) h
  obtain ⟨c, rfl⟩ := intD2_bool h3
  exact ⟨c, rfl, RR.ee (rr_intD (fun _ _ _ => .bl _) h3) (ce h1) (ce h2)⟩
def chkGe {a b : Xp} (ca : Chk F NM a) (cb : Chk F NM b) : Chk F NM (.ge a b) := cmpChk F NM .GtE (fun _ => rGeI) ca cb (fun X S f => dGe) fun K ρ d h => by
  obtain ⟨x, y, h1, h2, h3⟩ := ev2 F (g := intD2 fun i j => .bool (decide (j ≤ i))) h
  obtain ⟨c, rfl⟩ := intD2_bool h3
  exact ⟨c, rfl, RR.ee (rr_intD (fun _ _ _ => .bl _) h3) (ce h1) (ce h2)⟩
def chkEq {a b : Xp} (ca : Chk F NM a) (cb : Chk F NM b) : Chk F NM (.eq a b) := cmpChk F NM .Eq rEqD ca cb (fun X S f => let ⟨_, r⟩ := f.room; dEq r) fun K ρ d h => by
  obtain ⟨x, y, h1, h2, h3⟩ := ev2 F (g := fun x y => (eqD x y).map .bool) h
  obtain ⟨c, h4, rfl⟩ := map_some h3
  exact ⟨c, rfl, ee_eqD h4 (ce h1) (ce h2)⟩
def chkNe {a b : Xp} (ca : Chk F NM a) (cb : Chk F NM b) : Chk F NM (.ne a b) := cmpChk F NM .NotEq rNeD ca cb (fun X S f => let ⟨_, r⟩ := f.room; dNe r) fun K ρ d h => by
  obtain ⟨x, y, h1, h2, h3⟩ := ev2 F (g := fun x y => (eqD x y).map fun c => .bool (!c)) h
  obtain ⟨c, h4, rfl⟩ := map_some h3
  exact ⟨_, rfl, ee_neD h4 (ce h1) (ce h2)⟩
def chkMem {a b : Xp} (ca : Chk F NM a) (cb : Chk F NM b) : Chk F NM (.mem a b) := cmpChk F NM .In rInA ca cb (fun X S f => let ⟨_, r⟩ := f.room; dIn r) fun K ρ d h => by
  obtain ⟨x, y, h1, h2, h3⟩ := ev2 F (g := fun x y => (memD x y).map .bool) h
  obtain ⟨c, h4, rfl⟩ := map_some h3
  exact ⟨c, rfl, ee_memD h4 (ce h1) (ce h2)⟩
def chkNmem {a b : Xp} (ca : Chk F NM a) (cb : Chk F NM b) : Chk F NM (.nmem a b) := cmpChk F NM .NotIn rNotInA ca cb (fun X S f => let ⟨_, r⟩ := f.room; dNotIn r) fun K ρ d h => by
  obtain ⟨x, y, h1, h2, h3⟩ := ev2 F (g := fun x y => (memD x y).map fun c => .bool (!c)) h
  obtain ⟨c, h4, rfl⟩ := map_some h3
  exact ⟨_, rfl, ee_nmemD h4 (ce h1) (ce h2)⟩
theorem isN_ee {a : Xp} (K : PySem.W.Frag) (ρ : List Sl) (d : PyData) (h : ev F (.isN a) ρ = some d) : ∃ c, d = .bool c ∧ EE (tOp rIsNo (cE F a) (cE F .non)) ρ (.bool c) := by
  obtain ⟨x, h1, rfl⟩ := map_some (show (ev F a ρ).map (fun x => PyData.bool (isNoneB x)) = some d from h)
  refine ⟨_, rfl, ee_op (ce h1) (ce (x := .non) rfl) fun M H x y a r1 r2 Q q => ?_⟩
  rw [r2.is_non]
  exact ⟨rfl, q _ H (Evl.Ex.refl H) (by rw [r1.none_iff]; exact .bl _)⟩
def chkIsN {a : Xp} (ca : Chk F NM a) : Chk F NM (.isN a) := cmpChk F NM .Is (fun _ => rIsNo) ca (chkNon F NM) (fun X S f => dIsN) (isN_ee F)
def chkChain {a b c : Xp} (ca : Chk F NM a) (cb : Chk F NM b) (cc : Chk F NM c) : Chk F NM (.chain a b c) :=
  have key : ∀ (ρ : List Sl) (d : PyData), ev F (.chain a b c) ρ = some d → ∃ k, d = .bool k ∧ EE (tChain rLeI rLeI (cE F a) (cE F b) (cE F c)) ρ (.bool k) := fun ρ d h => by
    obtain ⟨i, h1, h⟩ := bind_some (show ((ev F a ρ).bind intOfD).bind (fun i => ((ev F b ρ).bind intOfD).bind fun j => ((ev F c ρ).bind intOfD).map fun k => PyData.bool (decide (i ≤ j) && decide (j ≤ k))) = some d from h)
    obtain ⟨j, h2, h⟩ := bind_some h
    obtain ⟨k, h3, rfl⟩ := map_some h
    exact ⟨_, rfl, ee_chain (ce (bind_int h1)) (ce (bind_int h2)) (ce (bind_int h3))⟩
  { e := fun S e => match e with
      | .Compare e1 [.LtE, .LtE] [e2, e3] pos => bothT (must (!lastMarks [.LtE, .LtE] [e2, e3])) (bothT (ca.e S e1) (bothT (cb.e S e2) (cc.e S e3) And.intro) And.intro) fun hm h => fun X f =>
          PE.can (pe_chain dLe dLe (h.1 X f) (h.2.1 X f) (h.2.2 X f) (notT hm)) fun ρ d hd => by
            obtain ⟨k, rfl, q⟩ := key ρ d hd
            exact q
      | _ => none
    t := fun S e => match e with
      | .Compare e1 [.LtE, .LtE] [e2, e3] pos => bothT (must (!lastMarks [.LtE, .LtE] [e2, e3])) (bothT (ca.e S e1) (bothT (cb.e S e2) (cc.e S e3) And.intro) And.intro) fun hm h => fun X f =>
          PT.can (pt_chain dLe dLe (h.1 X f) (h.2.1 X f) (h.2.2 X f) (notT hm)) fun ρ r hd => by
            obtain ⟨d, h1, h2⟩ := bind_some hd
            obtain ⟨k, rfl, q⟩ := key ρ d h1
            cases h2
            exact et_test q
      | _ => none }
/-! ### and, or, not, if -/
theorem pw_of {X : Cx} {op : BoolOp} {vs : List Expr} {pos : Pos} {t : TT} (h : PT X (.BoolOp op vs pos) t) : PW X (.BoolOp op vs pos) t := ⟨fun _ pins s σ H Q I q => h.run pins s σ H Q I q⟩
theorem and_ee {a b : Xp} {ρ : List Sl} {d : PyData} (h : ev F (.and a b) ρ = some d) : EE (tAndV (cE F a) (cE F b)) ρ d := by
  obtain ⟨c, h1, h⟩ := bind_some (show ((ev F a ρ).bind boolD).bind (fun c => if c then ((ev F b ρ).bind boolD).map PyData.bool else some (.bool false)) = some d from h)
  cases c with
  | true =>
    obtain ⟨k, h2, rfl⟩ := map_some (show ((ev F b ρ).bind boolD).map PyData.bool = some d from h)
    exact EE.is (ee_and (ce (bind_bool h1)) fun _ => ce (bind_bool h2)) rfl
  | false =>
    cases h
    exact EE.is (ee_and (b := false) (ce (bind_bool h1)) fun q => nomatch q) rfl
theorem and_et {a b : Xp} {ρ : List Sl} {r : Bool} (h : evT F (.and a b) ρ = some r) : ET (tAnd (cT F a) (cT F b)) ρ r := by
  obtain ⟨d, h, h0⟩ := bind_some h
  obtain ⟨c, h1, h⟩ := bind_some (show ((ev F a ρ).bind boolD).bind (fun c => if c then ((ev F b ρ).bind boolD).map PyData.bool else some (.bool false)) = some d from h)
  have g1 : evT F a ρ = some c := by unfold evT; rw [bind_bool h1]; rfl
  cases c with
  | true =>
    obtain ⟨k, h2, e0⟩ := map_some (show ((ev F b ρ).bind boolD).map PyData.bool = some d from h)
    subst e0
    have h0 : some k = some r := h0
    cases h0
    have g2 : evT F b ρ = some r := by unfold evT; rw [bind_bool h2]; rfl
    exact ET.is (et_and (ct g1) fun _ => ct g2) rfl
  | false =>
    cases h
    cases h0
    exact ET.is (et_and (b := false) (ct g1) fun q => nomatch q) rfl
theorem or_ee {a b : Xp} {ρ : List Sl} {d : PyData} (h : ev F (.or a b) ρ = some d) : EE (tOrV (cE F a) (cE F b)) ρ d := by
  obtain ⟨c, h1, h⟩ := bind_some (show ((ev F a ρ).bind boolD).bind (fun c => if c then some (PyData.bool true) else ((ev F b ρ).bind boolD).map PyData.bool) = some d from h)
  cases c with
  | false =>
    obtain ⟨k, h2, rfl⟩ := map_some (show ((ev F b ρ).bind boolD).map PyData.bool = some d from h)
    exact EE.is (ee_or (ce (bind_bool h1)) fun _ => ce (bind_bool h2)) rfl
  | true =>
    cases h
    exact EE.is (ee_or (b := false) (ce (bind_bool h1)) fun q => nomatch q) rfl
theorem or_et {a b : Xp} {ρ : List Sl} {r : Bool} (h : evT F (.or a b) ρ = some r) : ET (tOr (cT F a) (cT F b)) ρ r := by
  obtain ⟨d, h, h0⟩ := bind_some h
  obtain ⟨c, h1, h⟩ := bind_some (show ((ev F a ρ).bind boolD).bind (fun c => if c then some (PyData.bool true) else ((ev F b ρ).bind boolD).map PyData.bool) = some d from h)
  have g1 : evT F a ρ = some c := by unfold evT; rw [bind_bool h1]; rfl
  cases c with
  | false =>
    obtain ⟨k, h2, e0⟩ := map_some (show ((ev F b ρ).bind boolD).map PyData.bool = some d from h)
    subst e0
    have h0 : some k = some r := h0
    cases h0
    have g2 : evT F b ρ = some r := by unfold evT; rw [bind_bool h2]; rfl
    exact ET.is (et_or (ct g1) fun _ => ct g2) rfl
  | true =>
    cases h
    cases h0
    exact ET.is (et_or (b := false) (ct g1) fun q => nomatch q) rfl
def chkAnd {a b : Xp} (ca : Chk F NM a) (cb : Chk F NM b) : Chk F NM (.and a b) where
  e := fun S e => match e with
    | .BoolOp .And [e1, e2] pos => bothT (ca.e S e1) (cb.e S e2) fun h1 h2 => fun X f => PE.can (pe_and (h1 X f) (pe_one (h2 X f))) fun ρ d hd => and_ee F hd
    | .BoolOp .And (e1 :: e2 :: e3 :: r) pos => bothT (ca.e S e1) (cb.e S (.BoolOp .And (e2 :: e3 :: r) pos)) fun h1 h2 => fun X f => PE.can (pe_and (h1 X f) (h2 X f)) fun ρ d hd => and_ee F hd
    | _ => none
  t := fun S e => match e with
    | .BoolOp .And [e1, e2] pos => bothT (ca.t S e1) (cb.t S e2) fun h1 h2 => fun X f => PT.can (pw_and (h1 X f) (pw_and1 (h2 X f))).pt fun ρ d hd => and_et F hd
    | .BoolOp .And (e1 :: e2 :: e3 :: r) pos => bothT (ca.t S e1) (cb.t S (.BoolOp .And (e2 :: e3 :: r) pos)) fun h1 h2 => fun X f => PT.can (pw_and (h1 X f) (pw_of (h2 X f))).pt fun ρ d hd => and_et F hd
    | _ => none
def chkOr {a b : Xp} (ca : Chk F NM a) (cb : Chk F NM b) : Chk F NM (.or a b) where
  e := fun S e => match e with
    | .BoolOp .Or [e1, e2] pos => bothT (ca.e S e1) (cb.e S e2) fun h1 h2 => fun X f => PE.can (pe_or (h1 X f) (pe_one (h2 X f))) fun ρ d hd => or_ee F hd
    | .BoolOp .Or (e1 :: e2 :: e3 :: r) pos => bothT (ca.e S e1) (cb.e S (.BoolOp .Or (e2 :: e3 :: r) pos)) fun h1 h2 => fun X f => PE.can (pe_or (h1 X f) (h2 X f)) fun ρ d hd => or_ee F hd
    | _ => none
  t := fun S e => match e with
    | .BoolOp .Or [e1, e2] pos => bothT (ca.t S e1) (cb.t S e2) fun h1 h2 => fun X f => PT.can (pw_or (h1 X f) (pw_or1 (h2 X f))).pt fun ρ d hd => or_et F hd
    | .BoolOp .Or (e1 :: e2 :: e3 :: r) pos => bothT (ca.t S e1) (cb.t S (.BoolOp .Or (e2 :: e3 :: r) pos)) fun h1 h2 => fun X f => PT.can (pw_or (h1 X f) (pw_of (h2 X f))).pt fun ρ d hd => or_et F hd
    | _ => none
def chkNot {a : Xp} (ca : Chk F NM a) : Chk F NM (.not a) where
  e := fun S e => match e with
    | .UnaryOp .Not e1 pos => oneT (ca.e S e1) fun h1 => fun X f => PE.can (pe_notT (h1 X f)) fun ρ d hd => by
        obtain ⟨c, h, rfl⟩ := map_some (show ((ev F a ρ).bind truD).map (fun c => PyData.bool (!c)) = some d from hd)
        obtain ⟨z, h1, h2⟩ := bind_some h
        exact ee_notT h2 (ce h1)
    | _ => none
  t := fun S e => match e with
    | .UnaryOp .Not e1 pos => oneT (ca.t S e1) fun h1 => fun X f => PT.can (pt_not (h1 X f)) fun ρ d hd => by
        obtain ⟨z, hd, h0⟩ := bind_some hd
        obtain ⟨c, h, rfl⟩ := map_some (show ((ev F a ρ).bind truD).map (fun c => PyData.bool (!c)) = some z from hd)
        cases h0
        exact et_not (ct h)
    | _ => none
def chkIte {a b c : Xp} (cc : Chk F NM c) (ca : Chk F NM a) (cb : Chk F NM b) : Chk F NM (.ite c a b) := plainChk F NM fun S e => match e with
    | .IfExp e0 e1 e2 pos => bothT (cc.t S e0) (bothT (ca.e S e1) (cb.e S e2) And.intro) fun h0 h => fun X f => PE.can (pe_ifExp (h0 X f) (h.1 X f) (h.2 X f)) fun ρ d hd => by
        obtain ⟨k, h1, h2⟩ := bind_some (show (evT F c ρ).bind (fun k => if k then ev F a ρ else ev F b ρ) = some d from hd)
        cases k with
        | true => exact ee_if (ct h1) (fun _ => ce h2) (fun q => nomatch q)
        | false => exact ee_if (ct h1) (fun q => nomatch q) (fun _ => ce h2)
    | _ => none
/-! ### places -/
def chkIx {a b : Xp} (ca : Chk F NM a) (cb : Chk F NM b) : Chk F NM (.ix a b) := plainChk F NM fun S e => match e with
    | .Subscript e1 e2 pos => bothT (must (plainB e2)) (bothT (ca.e S e1) (cb.e S e2) And.intro) fun h0 h => fun X f => PE.can (pe_ix ix_seq (h.1 X f) (h.2 X f) (plain_ok h0)) fun ρ d hd => by
        obtain ⟨z, h1, hd⟩ := bind_some (show (ev F a ρ).bind (fun x => ((ev F b ρ).bind intOfD).bind fun i => ixD x i) = some d from hd)
        obtain ⟨i, h2, h3⟩ := bind_some hd
        exact ee_ixD h3 (ce h1) (ce (bind_int h2))
    | _ => none
def chkIxM {i : Nat} {b : Xp} (cb : Chk F NM b) : Chk F NM (.ixM i b) := plainChk F NM fun S e => match e with
    | .Subscript (.Name y p) e2 pos => bothT (must (plainB e2 && (decide (S.N[i]? = some y) && visB S y && !dbg y && !cdc y))) (cb.e S e2) fun h0 h => by
        obtain ⟨h0, hh⟩ := and_tt h0
        obtain ⟨hh, h4⟩ := and_tt hh
        obtain ⟨hh, h3⟩ := and_tt hh
        obtain ⟨h1, h2⟩ := and_tt hh
        exact fun X f => PE.can (pe_ix ix_seq (pe_var (i := i) (by rw [f.N]; exact of_decide_eq_true h1) (vis_ok h2 f) (notT h3) (notT h4)) (h X f) (plain_ok h0)) fun ρ d hd => by
          obtain ⟨ds, k1, hd⟩ := bind_some (show (mutD ρ[i]?).bind (fun ds => ((ev F b ρ).bind intOfD).bind fun i => atI ds i) = some d from hd)
          obtain ⟨j, k2, k3⟩ := bind_some hd
          have hm : ρ[i]? = some (.mut ds) := by
            unfold mutD at k1
            split at k1
            · rename_i e; cases k1; exact e
            · cases k1
          exact ee_ixM hm (ce (bind_int k2)) k3
    | _ => none
theorem eoC {a : Xp} {ρ : List Sl} {d : PyData} (h : ev F a ρ = some d) : EO (cO F a) ρ (intOfD d) := fun own M σ H s al Q q => ⟨own, M, ρ, d, s, al, h, q⟩
def chkSl {a lo hi : Xp} (ca : Chk F NM a) (cl : Chk F NM lo) (ch : Chk F NM hi) : Chk F NM (.sl a lo hi) := plainChk F NM fun S e => match e with
    | .Subscript e1 (.Slice l h none p2) pos => bothT (ca.e S e1) (bothT (cl.o S l) (ch.o S h) And.intro) fun h0 h => fun X f => PE.can (pe_slice sl_any (h0 X f) (h.1 X f) (h.2 X f)) fun ρ d hd => by
        obtain ⟨z, h1, hd⟩ := bind_some (show (ev F a ρ).bind (fun x => ((ev F lo ρ).bind fun l => ((ev F hi ρ).bind fun h => slD x (intOfD l) (intOfD h)))) = some d from hd)
        obtain ⟨l, h2, hd⟩ := bind_some hd
        obtain ⟨r, h3, hd⟩ := bind_some hd
        exact ee_slD hd (ce h1) (eoC F h2) (eoC F h3)
    | _ => none
def chkRev {a : Xp} (ca : Chk F NM a) : Chk F NM (.rev a) := plainChk F NM fun S e => match e with
    | .Subscript e1 (.Slice none none (some (.UnaryOp .USub (.Constant (.int 1) k p1) p2)) p3) pos => oneT (ca.e S e1) fun h => fun X f => PE.can (pe_revT (h X f)) fun ρ d hd => by
        obtain ⟨z, h1, rfl⟩ := map_some (show ((ev F a ρ).bind tupD).map (fun xs => PyData.tuple xs.reverse) = some d from hd)
        exact ee_revT (ce (bind_tup h1))
    | _ => none
/-! ### built-in functions -/
def chkLen {a : Xp} (ca : Chk F NM a) : Chk F NM (.len a) := blt1 F NM "len" "len" rLenS ca (fun X S f => dLen) PySem.boot_len (by decide) (by decide) (by decide) fun K ρ d h => by
  obtain ⟨z, h1, h2⟩ := bind_some (show (ev F a ρ).bind lenD = some d from h)
  exact ee_lenD h2 (ce h1)
def tyN : Ty → Str
  | .int => "int"
  | .bool => "bool"
  | .str => "str"
  | .tup => "tuple"
  | .lst => "list"
theorem tyN_boot (k : Ty) : bootBuiltins (tyN k) = some (.type (tyS k)) := by
  cases k
  · exact PyProof.Rows.boot_int
  · exact PyProof.Rows.boot_bool
  · exact PyProof.Rows.boot_str
  · exact PyProof.Rows.boot_tuple
  · exact PyProof.Rows.boot_list
theorem tyN_in (k : Ty) : tyN k ∈ bltNames := by cases k <;> decide
theorem tyN_1 (k : Ty) : tyN k ≠ "__name__" := by cases k <;> decide
theorem tyN_2 (k : Ty) : (tyN k == ("__debug__" : Str)) = false := by cases k <;> decide
def chkIsi {k : Ty} {a : Xp} (ca : Chk F NM a) : Chk F NM (.isi k a) := plainChk F NM fun S e => match e with
    | .Call (.Name m p) [e1, .Name T pT] [] pos => bothT (must (decide (m = ("isinstance" : Str)) && decide (T = tyN k) && (glB S m && glB S T && notStar e1))) (ca.e S e1) fun h h1 => by
        obtain ⟨h, hg⟩ := and_tt h
        obtain ⟨hm, hT⟩ := and_tt h
        obtain ⟨hg, hs⟩ := and_tt hg
        obtain ⟨g1, g2⟩ := and_tt hg
        have hm := eq_of_dec hm
        have hT := eq_of_dec hT
        subst hm hT
        exact fun X f => PE.can (pe_callB call_isi (gl_ok g1 f) (f.blt _ (by decide)) PyProof.Rows.boot_isinstance (pa2 (h1 X f) hs (pe_bltn (v := .ty (tyS k)) (gl_ok g2 f) (f.blt _ (tyN_in k)) (tyN_boot k) rfl (tyN_1 k) (tyN_2 k)) rfl) (by decide) (by decide) (star_ok hs _ _) rfl) fun ρ d hd => by
          obtain ⟨z, k1, rfl⟩ := map_some (show (ev F a ρ).map (fun x => PyData.bool (isiD k x)) = some d from hd)
          exact ee_isiD k (ce k1)
    | _ => none
def chkAll {a : Xp} (ca : Chk F NM a) : Chk F NM (.all a) := blt1 F NM "all" "all" rAll ca (fun X S f => cr_all f.calm) PyProof.Rows.boot_all (by decide) (by decide) (by decide) fun K ρ d h => by
  obtain ⟨bs, h1, rfl⟩ := map_some (show (((ev F a ρ).bind lstD).bind (allM boolD)).map (fun bs => PyData.bool (bs.all id)) = some d from h)
  obtain ⟨ds, h2, h3⟩ := bind_some h1
  have h4 := bind_lst h2
  rw [allM_bools h3] at h4
  exact ee_all (ce h4)
def chkAny {a : Xp} (ca : Chk F NM a) : Chk F NM (.any a) := blt1 F NM "any" "any" rAny ca (fun X S f => cr_any f.calm) PyProof.Rows.boot_any (by decide) (by decide) (by decide) fun K ρ d h => by
  obtain ⟨bs, h1, rfl⟩ := map_some (show (((ev F a ρ).bind lstD).bind (allM boolD)).map (fun bs => PyData.bool (bs.any id)) = some d from h)
  obtain ⟨ds, h2, h3⟩ := bind_some h1
  have h4 := bind_lst h2
  rw [allM_bools h3] at h4
  exact ee_any (ce h4)
def chkMx {a : Xp} (ca : Chk F NM a) : Chk F NM (.mx a) := blt1 F NM "max" "max" rMax ca (fun X S f => cr_max f.calm) PyProof.Rows.boot_max (by decide) (by decide) (by decide) fun K ρ d h => by
  obtain ⟨ns, h1, h5⟩ := bind_some (show (((ev F a ρ).bind lstD).bind (allM intOfD)).bind maxD = some d from h)
  obtain ⟨ds, h2, h3⟩ := bind_some h1
  have h4 := bind_lst h2
  rw [allM_ints h3] at h4
  cases ns with
  | nil => cases h5
  | cons n ns =>
    cases h5
    exact ee_maxL (ce h4)
def chkMn {a : Xp} (ca : Chk F NM a) : Chk F NM (.mn a) := blt1 F NM "min" "min" rMinA ca (fun X S f => let ⟨_, r⟩ := f.room; dMin f.calm r) PyProof.Rows.boot_min (by decide) (by decide) (by decide) fun K ρ d h => by
  obtain ⟨ds, h1, h2⟩ := bind_some (show ((ev F a ρ).bind lstD).bind minLD = some d from h)
  exact ee_minLD h2 (ce (bind_lst h1))
def chkSort {a : Xp} (ca : Chk F NM a) : Chk F NM (.sort a) := blt1 F NM "sorted" "sorted" rSortedA ca (fun X S f => dSorted) PyProof.Rows.boot_sorted (by decide) (by decide) (by decide) fun K ρ d h => by
  obtain ⟨z, h1, h2⟩ := bind_some (show (ev F a ρ).bind sortD = some d from h)
  exact ee_sortD h2 (ce h1)
def chkAbs {a : Xp} (ca : Chk F NM a) : Chk F NM (.abs a) := blt1 F NM "abs" "abs" (fun _ => rAbs) ca (fun X S f => call_abs) PyProof.Rows.boot_abs (by decide) (by decide) (by decide) fun K ρ d h => by
  obtain ⟨z, h1, h2⟩ := bind_some (show (ev F a ρ).bind absD = some d from h)
  exact ee_absD h2 (ce h1)
def chkToI {a : Xp} (ca : Chk F NM a) : Chk F NM (.toI a) := plainChk F NM fun S e => match e with
    | .Call (.Name m p) [e1] [] pos => bothT (must (decide (m = ("int" : Str)) && (glB S m && notStar e1))) (ca.e S e1) fun h h1 => by
        obtain ⟨hm, hg⟩ := and_tt h
        obtain ⟨g1, s1⟩ := and_tt hg
        have hm := eq_of_dec hm
        subst hm
        exact fun X f => PE.can (pe_callTy (r := rToI) call_int1 (gl_ok g1 f) (f.blt _ (by decide)) PyProof.Rows.boot_int (pa1 (h1 X f) s1) (by decide) (by decide) (star_ok s1 _ _) rfl) fun ρ d hd => by
          obtain ⟨z, k1, k2⟩ := bind_some (show (ev F a ρ).bind toID = some d from hd)
          exact ee_toID k2 (ce k1)
    | _ => none
def chkMx2 {a b : Xp} (ca : Chk F NM a) (cb : Chk F NM b) : Chk F NM (.mx2 a b) := plainChk F NM fun S e => match e with
    | .Call (.Name m p) [e1, e2] [] pos => bothT (must (decide (m = ("max" : Str)) && (glB S m && notStar e1 && notStar e2))) (bothT (ca.e S e1) (cb.e S e2) And.intro) fun h h12 => by
        obtain ⟨hm, hg⟩ := and_tt h
        obtain ⟨hg, s2⟩ := and_tt hg
        obtain ⟨g1, s1⟩ := and_tt hg
        have hm := eq_of_dec hm
        subst hm
        exact fun X f => PE.can (pe_callB (dMax2 f.calm) (gl_ok g1 f) (f.blt _ (by decide)) PyProof.Rows.boot_max (pa2 (h12.1 X f) s1 (h12.2 X f) s2) (by decide) (by decide) (star_ok s1 _ _) (back_ok _ _ (by rw [List.all_cons, s2]; rfl))) fun ρ d hd => by
          obtain ⟨i, k1, hd⟩ := bind_some (show ((ev F a ρ).bind intOfD).bind (fun i => ((ev F b ρ).bind intOfD).map fun j => PyData.int (max i j)) = some d from hd)
          obtain ⟨j, k2, rfl⟩ := map_some hd
          exact ee_max2 (ce (bind_int k1)) (ce (bind_int k2))
    | _ => none
def chkLstOf {a : Xp} (ca : Chk F NM a) : Chk F NM (.lstOf a) := plainChk F NM fun S e => match e with
    | .Call (.Name m p) [e1] [] pos => bothT (must (decide (m = ("list" : Str)) && (glB S m && notStar e1))) (ca.e S e1) fun h h1 => by
        obtain ⟨hm, hg⟩ := and_tt h
        obtain ⟨g1, s1⟩ := and_tt hg
        have hm := eq_of_dec hm
        subst hm
        exact fun X f => PE.can (pe_callTy dList (gl_ok g1 f) (f.blt _ (by decide)) PyProof.Rows.boot_list (pa1 (h1 X f) s1) (by decide) (by decide) (star_ok s1 _ _) rfl) fun ρ d hd => by
          obtain ⟨xs, k1, rfl⟩ := map_some (show ((ev F a ρ).bind tupD).map PyData.list = some d from hd)
          exact (el_listOf (ce (bind_tup k1))).ee
    | _ => none
def chkTupOf {a : Xp} (ca : Chk F NM a) : Chk F NM (.tupOf a) := plainChk F NM fun S e => match e with
    | .Call (.Name m p) [e1] [] pos => bothT (must (decide (m = ("tuple" : Str)) && (glB S m && notStar e1))) (ca.e S e1) fun h h1 => by
        obtain ⟨hm, hg⟩ := and_tt h
        obtain ⟨g1, s1⟩ := and_tt hg
        have hm := eq_of_dec hm
        subst hm
        exact fun X f => PE.can (pf_tupleOf (gl_ok g1 f) (f.blt _ (by decide)) (h1 X f) (star_ok s1 _ _)) fun ρ d hd => by
          obtain ⟨xs, k1, rfl⟩ := map_some (show ((ev F a ρ).bind lstD).map PyData.tuple = some d from hd)
          exact ee_tupleOf (ce (bind_lst k1))
    | _ => none
def chkLstRg {a : Xp} (ca : Chk F NM a) : Chk F NM (.lstRg a) := plainChk F NM fun S e => match e with
    | .Call (.Name m p) [.Call (.Name m2 p2) [e1] [] pos2] [] pos => bothT (must (decide (m = ("list" : Str)) && decide (m2 = ("range" : Str)) && (glB S m && glB S m2 && notStar e1))) (ca.e S e1) fun h h1 => by
        obtain ⟨h, hg⟩ := and_tt h
        obtain ⟨hm, hm2⟩ := and_tt h
        obtain ⟨hg, s1⟩ := and_tt hg
        obtain ⟨g1, g2⟩ := and_tt hg
        have hm := eq_of_dec hm
        have hm2 := eq_of_dec hm2
        subst hm hm2
        exact fun X f => PE.can (pe_listRg f.calm (gl_ok g1 f) (f.blt _ (by decide)) (prg_1 (gl_ok g2 f) (f.blt _ (by decide)) (h1 X f) (star_ok s1 _ _))) fun ρ d hd => by
          obtain ⟨xs, k1, rfl⟩ := map_some (show ((ev F a ρ).bind rg1D).map PyData.list = some d from hd)
          obtain ⟨z, k2, k3⟩ := bind_some k1
          obtain ⟨n, rfl, l1, l2, rfl⟩ := rg1D_eq k3
          exact (el_listRg1 (ce k2) l1 l2).ee
    | _ => none
def chkTupRg {a : Xp} (ca : Chk F NM a) : Chk F NM (.tupRg a) := plainChk F NM fun S e => match e with
    | .Call (.Name m p) [.Call (.Name m2 p2) [e1] [] pos2] [] pos => bothT (must (decide (m = ("tuple" : Str)) && decide (m2 = ("range" : Str)) && (glB S m && glB S m2 && notStar e1))) (ca.e S e1) fun h h1 => by
        obtain ⟨h, hg⟩ := and_tt h
        obtain ⟨hm, hm2⟩ := and_tt h
        obtain ⟨hg, s1⟩ := and_tt hg
        obtain ⟨g1, g2⟩ := and_tt hg
        have hm := eq_of_dec hm
        have hm2 := eq_of_dec hm2
        subst hm hm2
        exact fun X f => PE.can (pf_tupRg f.calm (gl_ok g1 f) (f.blt _ (by decide)) (prg_1 (gl_ok g2 f) (f.blt _ (by decide)) (h1 X f) (star_ok s1 _ _))) fun ρ d hd => by
          obtain ⟨xs, k1, rfl⟩ := map_some (show ((ev F a ρ).bind rg1D).map PyData.tuple = some d from hd)
          obtain ⟨z, k2, k3⟩ := bind_some k1
          obtain ⟨n, rfl, l1, l2, rfl⟩ := rg1D_eq k3
          exact ee_tupRg1 (ce k2) l1 l2
    | _ => none
def chkIdx {a b : Xp} (ca : Chk F NM a) (cb : Chk F NM b) : Chk F NM (.idx a b) := plainChk F NM fun S e => match e with
    | .Call (.Attribute (.Name r rp) at_ apos) [e1] [] pos => bothT (must (decide (at_ = ("index" : Str)) && (notStar e1 && (apos.endLine == pos.line)))) (bothT (ca.e S (.Name r rp)) (cb.e S e1) And.intro) fun h h12 => by
        obtain ⟨hm, hg⟩ := and_tt h
        obtain ⟨s1, hl⟩ := and_tt hg
        have hm := eq_of_dec hm
        subst hm
        exact fun X f => PE.can (pe_idx (h12.1 X f) (pa1 (h12.2 X f) s1) rfl (by rw [star_ok s1]; rfl) hl (star_ok s1 _ _)) fun ρ d hd => by
          obtain ⟨x, y, k1, k2, k3⟩ := ev2 F (g := idxD) hd
          exact ee_idxD k3 (ce k1) (ce k2)
    | _ => none
def chkCall {fn : Nat} {a : Xp} (ca' : Chk F NM a) : Chk F NM (.call fn a) := plainChk F NM fun S e => match e with
    | .Call (.Name m p) (e1 :: es) [] pos => bothT (must (decide (NM[fn]? = some m) && (glB S m && !dbg m && (notStar e1 && es.all notStar)))) (ca'.a S (e1 :: es)) fun h h1 => by
        obtain ⟨hm, hg⟩ := and_tt h
        obtain ⟨hg, hs⟩ := and_tt hg
        obtain ⟨s1, s2⟩ := and_tt hs
        obtain ⟨g1, g2⟩ := and_tt hg
        have hm : NM[fn]? = some m := of_decide_eq_true hm
        exact fun X f => by
          obtain ⟨k, hr, hc⟩ := f.call fn m hm
          refine PE.can (C8.pe_c hc hr (Nat.le_refl _) (gl_ok g1 f) (h1 X f) (notT g2) (star_ok s1 _ _) (back_ok _ _ s2)) fun ρ d hd => ?_
          obtain ⟨ds, k1, k2⟩ := bind_some (show ((ev F a ρ).bind tupD).bind (F fn) = some d from hd)
          exact fun own M σ H s al Q q => ca (F := F) (x := a) k1 own M σ H s al _ fun vs H2 e2 r2 => by
            show spF F fn (vs ++ []) H2 Q _
            rw [List.append_nil]
            exact ⟨M, ds, d, al.up e2, r2, k2, fun v H3 e3 r3 => q v H3 (e2.trans e3) r3⟩
    | _ => none
/-! ### what is walked -/
def chkItS {a : Xp} (ca : Chk F NM a) : Chk F NM (.itS a) where
  i := fun S tg pr e => if h : pr = false then oneT (ca.e S e) fun h1 => fun X f => by
      subst h
      exact PI.can (pi_seq (h1 X f)) fun ρ ds hd => by
        obtain ⟨z, hd, h2⟩ := bind_some hd
        obtain ⟨xs, k1, rfl⟩ := map_some (show ((ev F a ρ).bind seqD).map PyData.tuple = some z from hd)
        cases h2
        obtain ⟨z, k2, k3⟩ := bind_some k1
        unfold seqD at k3
        split at k3
        · cases k3; exact ei_seqL (ce k2)
        · cases k3; exact ei_seqT (ce k2)
        · cases k3
    else none
def chkItR {a : Xp} (ca : Chk F NM a) : Chk F NM (.itR a) where
  i := fun S tg pr e => match e with
    | .Call (.Name m p) [e1] [] pos => if h : pr = false then bothT (must (decide (m = ("range" : Str)) && (glB S m && notStar e1))) (ca.e S e1) fun hh h1 => fun X f => by
        obtain ⟨hm, hg⟩ := and_tt hh
        obtain ⟨g1, s1⟩ := and_tt hg
        have hm := eq_of_dec hm
        subst hm h
        exact PI.can (pi_range1 (gl_ok g1 f) (f.blt _ (by decide)) (pa1 (h1 X f) s1) (star_ok s1 _ _)) fun ρ ds hd => by
          obtain ⟨z, hd, h2⟩ := bind_some hd
          obtain ⟨xs, k1, rfl⟩ := map_some (show ((ev F a ρ).bind itR1D).map PyData.tuple = some z from hd)
          cases h2
          obtain ⟨z, k2, k3⟩ := bind_some k1
          obtain ⟨n, rfl, l1, l2, rfl⟩ := itR1D_eq k3
          exact ei_rg1 (ce k2) l2 l1
      else none
    | _ => none
def chkItRg {a b : Xp} (ca : Chk F NM a) (cb : Chk F NM b) : Chk F NM (.itRg a b) where
  i := fun S tg pr e => match e with
    | .Call (.Name m p) [e1, e2] [] pos => if h : pr = false then bothT (must (decide (m = ("range" : Str)) && (glB S m && notStar e1 && notStar e2))) (bothT (ca.e S e1) (cb.e S e2) And.intro) fun hh h12 => fun X f => by
        obtain ⟨hm, hg⟩ := and_tt hh
        obtain ⟨hg, s2⟩ := and_tt hg
        obtain ⟨g1, s1⟩ := and_tt hg
        have hm := eq_of_dec hm
        subst hm h
        exact PI.can (pi_range2 (gl_ok g1 f) (f.blt _ (by decide)) (pa2 (h12.1 X f) s1 (h12.2 X f) s2) (by rw [star_ok s1, star_ok s2]; rfl) (star_ok s2 _ _)) fun ρ ds hd => by
          obtain ⟨z, hd, h2⟩ := bind_some hd
          obtain ⟨x, y, k1, k2, k3⟩ := ev2 F (g := fun x y => (itR2D x y).map .tuple) hd
          obtain ⟨xs, k4, rfl⟩ := map_some k3
          cases h2
          unfold itR2D at k4
          split at k4
          · split at k4
            · rename_i c
              cases k4
              exact ei_rg2 (ce k1) (ce k2) c.1.1 c.1.2 c.2.1 c.2.2
            · cases k4
          · cases k4
      else none
    | _ => none
def chkItV {a : Xp} (ca : Chk F NM a) : Chk F NM (.itV a) where
  i := fun S tg pr e => match e with
    | .Call (.Name m p) [e1] [] pos => if h : pr = false then bothT (must (decide (m = ("reversed" : Str)) && (glB S m && notStar e1))) (ca.e S e1) fun hh h1 => fun X f => by
        obtain ⟨hm, hg⟩ := and_tt hh
        obtain ⟨g1, s1⟩ := and_tt hg
        have hm := eq_of_dec hm
        subst hm h
        exact PI.can (pi_reversed (gl_ok g1 f) (f.blt _ (by decide)) (pa1 (h1 X f) s1) (star_ok s1 _ _)) fun ρ ds hd => by
          obtain ⟨z, hd, h2⟩ := bind_some hd
          obtain ⟨xs, k1, rfl⟩ := map_some (show ((ev F a ρ).bind lstD).map (fun xs => PyData.tuple xs.reverse) = some z from hd)
          cases h2
          exact ei_rev (ce (bind_lst k1))
      else none
    | _ => none
def chkItN {a : Xp} (ca : Chk F NM a) : Chk F NM (.itN a) where
  i := fun S tg pr e => match tg, e with
    | .Tuple elts kk tpos, .Call (.Name m p) [e1] [] pos => if h : pr = true then bothT (must (decide (m = ("enumerate" : Str)) && (glB S m && notStar e1))) (ca.e S e1) fun hh h1 => fun X f => by
        obtain ⟨hm, hg⟩ := and_tt hh
        obtain ⟨g1, s1⟩ := and_tt hg
        have hm := eq_of_dec hm
        subst hm h
        exact PI.can (pi_enumT (gl_ok g1 f) (f.blt _ (by decide)) (pa1 (h1 X f) s1) (star_ok s1 _ _)) fun ρ ds hd => by
          obtain ⟨z, hd, h2⟩ := bind_some hd
          obtain ⟨xs, k1, rfl⟩ := map_some (show ((ev F a ρ).bind tupD).map (fun xs => PyData.tuple (enD xs)) = some z from hd)
          cases h2
          exact ei_enum (ce (bind_tup k1))
      else none
    | _, _ => none
def chkItZ {a b : Xp} (ca : Chk F NM a) (cb : Chk F NM b) : Chk F NM (.itZ a b) where
  i := fun S tg pr e => match tg, e with
    | .Tuple elts kk tpos, .Call (.Name m p) [e1, e2] [] pos => if h : pr = true then bothT (must (decide (m = ("zip" : Str)) && (glB S m && notStar e1 && notStar e2))) (bothT (ca.e S e1) (cb.e S e2) And.intro) fun hh h12 => fun X f => by
        obtain ⟨hm, hg⟩ := and_tt hh
        obtain ⟨hg, s2⟩ := and_tt hg
        obtain ⟨g1, s1⟩ := and_tt hg
        have hm := eq_of_dec hm
        subst hm h
        exact PI.can (pi_zipA (gl_ok g1 f) (f.blt _ (by decide)) (pa2 (h12.1 X f) s1 (h12.2 X f) s2) (star_ok s1 _ _) (back_ok _ _ (by rw [List.all_cons, s2]; rfl))) fun ρ ds hd => by
          obtain ⟨z, hd, h2⟩ := bind_some hd
          obtain ⟨xs, k1, hd⟩ := bind_some (show ((ev F a ρ).bind tupD).bind (fun xs => ((ev F b ρ).bind tupD).map fun ys => PyData.tuple (zipD xs ys)) = some z from hd)
          obtain ⟨ys, k2, rfl⟩ := map_some hd
          cases h2
          exact ei_zip (ce (bind_tup k1)) (ce (bind_tup k2))
      else none
    | _, _ => none
/-! ### comprehensions -/
def chkTs {t : Xp} (ct : Chk F NM t) (S : Sc) (ifs : List Expr) : Tr (SndTs F NM S ifs t) := match ifs with
  | [] => match t with
    | .bl true => some ⟨fun X f => pts_yes⟩
    | _ => none
  | [e] => oneT (ct.t S e) fun h => fun X f => pts_one (h X f)
  | _ => none
/-- the parts of a comprehension fit -/
structure LcOk (S : Sc) (pr : Bool) (tg : List Nat) (it t e : Xp) (elt tgE iter : Expr) (ifs : List Expr) (scope : Scope) (own : List (Str × Nat)) : Prop where
  pl : notSet iter = true
  bk : blkC S.N S.sc scope own = true
  ow : own.map (·.2) = tg
  pk : okT pr tg = true
  hi : SndI F NM S tgE pr iter it
  hg : SndG F NM (S.blk scope) tgE tg
  ht : SndTs F NM (S.blk scope) ifs t
  he : SndE F NM (S.blk scope) elt e
def chkLcOk {it t e : Xp} (S : Sc) (pr : Bool) (tg : List Nat) (ci : Chk F NM it) (ct : Chk F NM t) (ce' : Chk F NM e) (elt tgE iter : Expr) (ifs : List Expr) (scope : Scope) (own : List (Str × Nat)) : Tr (LcOk F NM S pr tg it t e elt tgE iter ifs scope own) :=
  bothT (must (notSet iter && blkC S.N S.sc scope own && decide (own.map (·.2) = tg) && okT pr tg)) (bothT (ci.i S tgE pr iter) (bothT (chkG F NM (S.blk scope) tgE tg) (bothT (chkTs F NM ct (S.blk scope) ifs) (ce'.e (S.blk scope) elt) And.intro) And.intro) And.intro) fun h q => by
    obtain ⟨h, h4⟩ := and_tt h
    obtain ⟨h, h3⟩ := and_tt h
    obtain ⟨h1, h2⟩ := and_tt h
    exact ⟨h1, h2, of_decide_eq_true h3, h4, q.1, q.2.1, q.2.2.1, q.2.2.2⟩
theorem lc_el {it t e : Xp} {pr : Bool} {tg : List Nat} {K : PySem.W.Frag} {ρ : List Sl} {d : PyData} (hd : ev F (.lc pr tg it t e) ρ = some d) (hok : okT pr tg = true) : ∃ out, d = .list out ∧ EL (tLc (cI F K pr it) (gT K tg) (cT F t) (cE F e) tg) ρ out := by
  obtain ⟨items, k1, hd⟩ := bind_some (show ((ev F it ρ).bind tupD).bind (fun items => (lcD tg (evT F t) (ev F e) ρ items).map PyData.list) = some d from hd)
  obtain ⟨out, k2, rfl⟩ := map_some hd
  unfold lcD at k2
  split at k2
  · exact ⟨out, rfl, el_lcG (ci (F := F) (x := it) k1) (by assumption) hok k2 (fun ρ' b h => ct h) (fun ρ' d h => ce h)⟩
  · cases k2
def chkLc {it t e : Xp} {pr : Bool} {tg : List Nat} (ci : Chk F NM it) (ct : Chk F NM t) (ce' : Chk F NM e) : Chk F NM (.lc pr tg it t e) := plainChk F NM fun S ex => match ex with
    | .ListComp elt [⟨tgE, iter, ifs, 0⟩] scope pos => match ownOf tg tgE with
      | some own => oneT (chkLcOk F NM S pr tg ci ct ce' elt tgE iter ifs scope own) fun h => fun X f => by
          obtain ⟨h1, h2, h3, h4, h5, h6, h7, h8⟩ := h
          have := pe_lc (X := X) (own := own) (pos := pos) (g := gT X.K tg) f.calm f.nd (h5 X f) (blkOk_by (by rw [f.N, f.sc]; exact h2)) (fun s H C cl fp => h6 _ (f.blk scope s H C cl fp)) (fun s H C cl fp => h7 _ (f.blk scope s H C cl fp)) (fun s H C cl fp => h8 _ (f.blk scope s H C cl fp)) (set_ok h1 _)
          rw [h3] at this
          exact PE.can this fun ρ d hd => by
            obtain ⟨out, rfl, q⟩ := lc_el F hd h4
            exact q.ee
      | none => none
    | _ => none
def chk : ∀ x : Xp, Chk F NM x
  | .var i => chkVar F NM i
  | .int i => chkInt F NM i
  | .bl b => chkBl F NM b
  | .non => chkNon F NM
  | .str x => chkStr F NM x
  | .nil => chkNil F NM
  | .cons a b => chkCons F NM (chk a) (chk b)
  | .tup a => chkTup F NM (chk a)
  | .lst a => chkLst F NM (chk a)
  | .add a b => chkAdd F NM (chk a) (chk b)
  | .sub a b => chkSub F NM (chk a) (chk b)
  | .rep a b => chkRep F NM (chk a) (chk b)
  | .neg a => chkNeg F NM (chk a)
  | .mul a b => chkMul F NM (chk a) (chk b)
  | .md a b => chkMd F NM (chk a) (chk b)
  | .fdv a b => chkFdv F NM (chk a) (chk b)
  | .pw a b => chkPw F NM (chk a) (chk b)
  | .abs a => chkAbs F NM (chk a)
  | .toI a => chkToI F NM (chk a)
  | .lt a b => chkLt F NM (chk a) (chk b)
  | .le a b => chkLe F NM (chk a) (chk b)
  | .gt a b => chkGt F NM (chk a) (chk b)
  | .ge a b => chkGe F NM (chk a) (chk b)
  | .eq a b => chkEq F NM (chk a) (chk b)
  | .ne a b => chkNe F NM (chk a) (chk b)
  | .mem a b => chkMem F NM (chk a) (chk b)
  | .nmem a b => chkNmem F NM (chk a) (chk b)
  | .isN a => chkIsN F NM (chk a)
  | .chain a b c => chkChain F NM (chk a) (chk b) (chk c)
  | .and a b => chkAnd F NM (chk a) (chk b)
  | .or a b => chkOr F NM (chk a) (chk b)
  | .not a => chkNot F NM (chk a)
  | .ite t a b => chkIte F NM (chk t) (chk a) (chk b)
  | .ix a b => chkIx F NM (chk a) (chk b)
  | .ixM i b => chkIxM F NM (chk b)
  | .part a => chkPart F NM (chk a)
  | .sl a lo hi => chkSl F NM (chk a) (chk lo) (chk hi)
  | .rev a => chkRev F NM (chk a)
  | .len a => chkLen F NM (chk a)
  | .isi k a => chkIsi F NM (chk a)
  | .all a => chkAll F NM (chk a)
  | .any a => chkAny F NM (chk a)
  | .mx a => chkMx F NM (chk a)
  | .mn a => chkMn F NM (chk a)
  | .mx2 a b => chkMx2 F NM (chk a) (chk b)
  | .sort a => chkSort F NM (chk a)
  | .lstOf a => chkLstOf F NM (chk a)
  | .tupOf a => chkTupOf F NM (chk a)
  | .lstRg a => chkLstRg F NM (chk a)
  | .tupRg a => chkTupRg F NM (chk a)
  | .idx a b => chkIdx F NM (chk a) (chk b)
  | .call f a => chkCall F NM (chk a)
  | .lc pr tg it t e => chkLc F NM (chk it) (chk t) (chk e)
  | .itS a => chkItS F NM (chk a)
  | .itR a => chkItR F NM (chk a)
  | .itRg a b => chkItRg F NM (chk a) (chk b)
  | .itV a => chkItV F NM (chk a)
  | .itN a => chkItN F NM (chk a)
  | .itZ a b => chkItZ F NM (chk a) (chk b)
end
end R60

end -- D9
section -- D10
set_option Elab.async false
set_option linter.all false
set_option maxRecDepth 100000
set_option maxHeartbeats 4000000
/-! Statements: a small syntax, what it does to the slots, the readings that say so. -/
namespace R60
open PySem PySem.Spec PyProof.Rows L2 RZ
open Evl (Ex)
inductive St where
  | nil | cons (a b : St)
  | set (i : Nat) (x : Xp) | cpy (i j : Nat) | newL (i : Nat) (x : Xp)
  | app (i : Nat) (x : Xp) | ext (i : Nat) (x : Xp) | sti (i : Nat) (ix x : Xp)
  | ret (x : Xp) | ite (t : Xp) (a b : St)
  | for_ (pr : Bool) (tg : List Nat) (it : Xp) (b : St)
  | while_ (t : Xp) (b : St)
  | exp (x : Xp)
  | srt (i j : Nat) (it t k : Xp)
  | never
inductive Out where
  | nx (ρ : List Sl)
  | rt (d : PyData)
def Out.andThen (o : Out) (f : List Sl → Option Out) : Option Out := match o with
  | .nx ρ => f ρ
  | .rt d => some (.rt d)
def frzS : Sl → Sl
  | .mut ds => .dat (.list ds)
  | s => s
def frz (ρ : List Sl) : List Sl := ρ.map frzS
def forGo (bind : PyData → List Sl → Option (List Sl)) (body : List Sl → Option Out) : List PyData → List Sl → Option Out
  | [], ρ => some (.nx ρ)
  | d :: ds, ρ => (bind d ρ).bind fun ρ1 => (body ρ1).bind fun o => o.andThen (forGo bind body ds)
def whileGo (t : List Sl → Option Bool) (body : List Sl → Option Out) : Nat → List Sl → Option Out
  | 0, _ => none
  | n + 1, ρ => (t ρ).bind fun b => if b then (body ρ).bind fun o => o.andThen (whileGo t body n) else some (.nx ρ)
/-- keys, each once, in the order they came -/
def ddI (acc : List Int) : List Int → List Int
  | [] => acc
  | k :: ks => ddI (if k ∈ acc then acc else acc ++ [k]) ks
def srtD (ks : List PyData) : Option Out := (allM intOfD ks).bind fun ns => if ns.length < 64 then some (.rt (.list ((sortI (ddI [] ns)).map PyData.int))) else none
def run (F : Fs) (N : Nat) : St → List Sl → Option Out
  | .nil, ρ => some (.nx ρ)
  | .cons a b, ρ => (run F N a ρ).bind fun o => o.andThen (run F N b)
  | .set i x, ρ => (ev F x ρ).map fun d => .nx (ρ.set i (.dat d))
  | .cpy i j, ρ => (mutD ρ[j]?).map fun ds => .nx ((ρ.set j (.dat (.list ds))).set i (.dat (.list ds)))
  | .newL i x, ρ => ((ev F x ρ).bind lstD).map fun ds => .nx (ρ.set i (.mut ds))
  | .app i x, ρ => (ev F x ρ).bind fun d => (mutD ρ[i]?).bind fun ds => if ds.length < 100000 then some (.nx (ρ.set i (.mut (ds ++ [d])))) else none
  | .ext i x, ρ => ((ev F x ρ).bind lstD).bind fun es => (mutD ρ[i]?).bind fun ds => if ds.length + es.length ≤ 100000 then some (.nx (ρ.set i (.mut (ds ++ es)))) else none
  | .sti i ix x, ρ => (ev F x ρ).bind fun d => ((ev F ix ρ).bind intOfD).bind fun k => (mutD ρ[i]?).bind fun ds => (ixN ds.length k).map fun j => .nx (ρ.set i (.mut (ds.set j d)))
  | .ret x, ρ => (ev F x (frz ρ)).map .rt
  | .ite t a b, ρ => (evT F t ρ).bind fun c => if c then run F N a ρ else run F N b ρ
  | .for_ _ tg it b, ρ => (evA F it ρ).bind fun items => forGo (fun d ρ => bindT tg ρ d) (run F N b) items ρ
  | .while_ t b, ρ => whileGo (evT F t) (run F N b) N ρ
  | .exp x, ρ => (ev F x ρ).map fun _ => .nx ρ
  | .srt i j it t k, ρ => if i < ρ.length then (evA F it ρ).bind fun items => (lcD [j] (evT F t) (ev F k) ρ items).bind srtD else none
  | .never, _ => none
/-! ### the state of a def's body -/
structure Bd (M0 own : List Addr) (σ : L2.St) (H : Hp) (ρ : List Sl) : Prop where
  se : SE own (own ++ M0) σ H ρ
  al : Al (own ++ M0) H
  dis : ∀ p ∈ own, p ∉ M0
  inj : ∀ (i j : Nat) (ds es : List PyData) (p : Addr), ρ[i]? = some (Sl.mut ds) → ρ[j]? = some (.mut es) → σ[i]? = some (some (.ref p)) → σ[j]? = some (some (.ref p)) → i = j
/-- from (own, H) on: nothing but own's cells changed, own's cells are these or new ones -/
structure Stp (own : List Addr) (H : Hp) (own' : List Addr) (H' : Hp) : Prop where
  kp : ∀ a o, a ∉ own → H a = some o → H' a = some o
  nw : ∀ p ∈ own', p ∈ own ∨ H p = none
section
variable {M0 own own1 own2 : List Addr} {σ : L2.St} {H H1 H2 : Hp} {ρ : List Sl}
theorem Stp.refl : Stp own H own H := ⟨fun _ _ _ h => h, fun _ h => .inl h⟩
theorem Stp.of (e : Ex H H1) : Stp own H own H1 := ⟨fun a o _ h => e a o h, fun _ h => .inl h⟩
theorem Stp.trans (a : Stp own H own1 H1) (b : Stp own1 H1 own2 H2) : Stp own H own2 H2 := by
  refine ⟨fun x o hx h => ?_, fun p hp => ?_⟩
  · refine b.kp x o (fun hx1 => ?_) (a.kp x o hx h)
    rcases a.nw x hx1 with z | z
    · exact hx z
    · rw [h] at z; cases z
  · rcases b.nw p hp with z | z
    · exact a.nw p z
    · by_cases c : p ∈ own
      · exact .inl c
      · right
        cases q : H p with
        | none => rfl
        | some o => rw [a.kp p o c q] at z; cases z
theorem Stp.hid (a : Stp own H own1 H1) : Ex (hide (own ++ M0) H) (hide (own1 ++ M0) H1) := fun x o h => by
  have h' := hide_ex x o h
  have hx : x ∉ own ++ M0 := fun z => by rw [hide_in z] at h; cases h
  have hx0 : x ∉ own := fun z => hx (List.mem_append_left _ z)
  have hx1 : x ∉ own1 ++ M0 := fun z => by
    rcases List.mem_append.mp z with z | z
    · rcases a.nw x z with w | w
      · exact hx0 w
      · rw [h'] at w; cases w
    · exact hx (List.mem_append_right _ z)
  rw [hide_out hx1]
  exact a.kp x o hx0 h'
theorem Stp.hid0 (a : Stp own H own1 H1) : Ex (hide (own ++ M0) H) (hide (own ++ M0) H1) := fun x o h => by
  have h' := hide_ex x o h
  have hx : x ∉ own ++ M0 := fun z => by rw [hide_in z] at h; cases h
  rw [hide_out hx]
  exact a.kp x o (fun z => hx (List.mem_append_left _ z)) h'
theorem Bd.up (s : Bd M0 own σ H ρ) (e : Ex H H1) : Bd M0 own σ H1 ρ := ⟨s.se.up e, s.al.up e, s.dis, s.inj⟩
theorem hide_mid {A B : List Addr} : ∀ a ∈ A ++ B, a ∈ A ++ B := fun _ h => h
theorem set_at {α : Type} {l : List α} {i j : Nat} {x y : α} (h : (l.set i x)[j]? = some y) : (i = j ∧ y = x) ∨ (i ≠ j ∧ l[j]? = some y) := by
  by_cases c : i = j
  · subst c
    by_cases d : i < l.length
    · rw [List.getElem?_set_self d] at h; cases h; exact .inl ⟨rfl, rfl⟩
    · rw [List.getElem?_eq_none (by rw [List.length_set]; omega)] at h; cases h
  · rw [List.getElem?_set_ne c] at h; exact .inr ⟨c, h⟩
/-- a slot gets a datum -/
theorem Bd.set (s : Bd M0 own σ H ρ) (i : Nat) {v : V} {d : PyData} (r : Rp (hide (own ++ M0) H) v d) : Bd M0 own (σ.set i (some v)) H (ρ.set i (.dat d)) := by
  refine ⟨s.se.set i r, s.al, s.dis, fun a b ds es p h1 h2 h3 h4 => ?_⟩
  rcases set_at h1 with ⟨_, e⟩ | ⟨n1, h1⟩
  · cases e
  rcases set_at h2 with ⟨_, e⟩ | ⟨n2, h2⟩
  · cases e
  rw [List.getElem?_set_ne n1] at h3
  rw [List.getElem?_set_ne n2] at h4
  exact s.inj a b ds es p h1 h2 h3 h4
theorem SlOk.owns {own own' M : List Addr} {H : Hp} (h : ∀ p ∈ own, p ∈ own') : ∀ {x : Option V} {s : Sl}, SlOk own M H x s → SlOk own' M H x s
  | _, .no, _ => by unfold SlOk; trivial
  | some v, .dat d, q => q
  | none, .dat d, q => q.elim
  | some (.ref p), .mut ds, q => by
    obtain ⟨h1, vs, h2, h3⟩ := (show p ∈ own ∧ ∃ vs, H p = some (.lst vs) ∧ RpAll (hide M H) vs ds from q)
    exact ⟨h p h1, vs, h2, h3⟩
  | none, .mut ds, q => q.elim
  | some .non, .mut ds, q => q.elim
  | some (.bl _), .mut ds, q => q.elim
  | some (.int _), .mut ds, q => q.elim
  | some (.str _), .mut ds, q => q.elim
  | some (.byt _), .mut ds, q => q.elim
  | some (.flt _), .mut ds, q => q.elim
  | some (.ty _), .mut ds, q => q.elim
  | none, .fix w, q => q.elim
  | some v, .fix w, q => SlOk.fixI (SlOk.fixE q)
/-- a slot gets a new list of the def's own -/
theorem Bd.newL (s : Bd M0 own σ H ρ) (i : Nat) {p : Addr} {vs : List V} {ds : List PyData} (hp : H p = none) (e : Ex H H1) (h1 : H1 p = some (.lst vs)) (r : RpAll (hide (p :: (own ++ M0)) H1) vs ds) : Bd M0 (p :: own) (σ.set i (some (.ref p))) H1 (ρ.set i (.mut ds)) := by
  have s1 : SE own (p :: (own ++ M0)) σ H1 ρ := s.se.new e hp
  have s2 : SE (p :: own) (p :: (own ++ M0)) σ H1 ρ := ⟨s1.len, fun j t hj => by
    obtain ⟨x, k1, k2⟩ := s1.at_ j t hj
    exact ⟨x, k1, SlOk.owns (fun q hq => List.mem_cons_of_mem _ hq) k2⟩⟩
  refine ⟨s2.setS (x := some (.ref p)) (s := .mut ds) ⟨List.mem_cons_self, vs, h1, r⟩, (s.al.up e).cons h1, fun q hq => ?_, fun a b cs es q k1 k2 k3 k4 => ?_⟩
  · rcases List.mem_cons.mp hq with z | z
    · rw [z]; exact fun w => s.al.ne hp (List.mem_append_right _ w)
    · exact s.dis q z
  have other : ∀ {j : Nat} {cs : List PyData}, ρ[j]? = some (.mut cs) → σ[j]? = some (some (.ref p)) → False := fun {j cs} g1 g2 => by
    obtain ⟨p', vs', g3, _, g4, _⟩ := s.se.mut g1
    rw [g2] at g3
    cases g3
    rw [hp] at g4
    cases g4
  rcases set_at k1 with ⟨e1, _⟩ | ⟨n1, k1⟩
  · subst e1
    rcases set_at k2 with ⟨e2, _⟩ | ⟨n2, k2⟩
    · exact e2
    · rw [List.getElem?_set_ne n2] at k4
      rcases set_at k3 with ⟨_, e3⟩ | ⟨n3, _⟩
      · cases e3
        exact (other k2 k4).elim
      · exact absurd rfl n3
  · rw [List.getElem?_set_ne n1] at k3
    rcases set_at k2 with ⟨e2, _⟩ | ⟨n2, k2⟩
    · subst e2
      rcases set_at k4 with ⟨_, e3⟩ | ⟨n3, _⟩
      · cases e3
        exact (other k1 k3).elim
      · exact absurd rfl n3
    · rw [List.getElem?_set_ne n2] at k4
      exact s.inj a b cs es q k1 k2 k3 k4
theorem Stp.new {p : Addr} (hp : H p = none) (e : Ex H H1) : Stp own H (p :: own) H1 := ⟨fun a o _ h => e a o h, fun q hq => by
  rcases List.mem_cons.mp hq with z | z
  · rw [z]; exact .inr hp
  · exact .inl z⟩
/-- a list of the def's own changes -/
theorem Bd.put (s : Bd M0 own σ H ρ) {i : Nat} {ds es : List PyData} {p : Addr} {ws : List V} (hi : ρ[i]? = some (.mut ds)) (hp : σ[i]? = some (some (.ref p))) (ho : p ∈ own) (r : RpAll (hide (own ++ M0) H) ws es) :
    Bd M0 own σ (upd H p (.lst ws)) (ρ.set i (.mut es)) := by
  have hh : hide (own ++ M0) (upd H p (.lst ws)) = hide (own ++ M0) H := hide_upd (List.mem_append_left _ ho)
  refine ⟨⟨by rw [List.length_set]; exact s.se.len, fun j t hj => ?_⟩, fun m hm => ?_, s.dis, fun a b cs ds' q k1 k2 k3 k4 => ?_⟩
  · rcases set_at hj with ⟨e, ht⟩ | ⟨n, hj⟩
    · subst e ht
      exact ⟨_, hp, ho, ws, upd_same, by rw [hh]; exact r⟩
    · obtain ⟨x, k1, k2⟩ := s.se.at_ j t hj
      refine ⟨x, k1, ?_⟩
      cases t with
      | no => unfold SlOk; trivial
      | dat d =>
        cases x with
        | none => exact k2.elim
        | some v =>
          show Rp (hide (own ++ M0) (upd H p (.lst ws))) v d
          rw [hh]; exact k2
      | fix w =>
        cases x with
        | none => exact k2.elim
        | some v => exact SlOk.fixI (SlOk.fixE k2)
      | «mut» cs =>
        obtain ⟨p', vs', g3, g5, g4, g6⟩ := s.se.mut hj
        rw [g3] at k1
        cases k1
        refine ⟨g5, vs', ?_, by rw [hh]; exact g6⟩
        rw [upd_ne fun z => n (s.inj i j ds cs p' hi hj (by rw [hp, z]) g3)]
        exact g4
  · by_cases c : m = p
    · rw [c, upd_same]; simp
    · rw [upd_ne c]; exact s.al m hm
  · rcases set_at k1 with ⟨e1, _⟩ | ⟨n1, k1⟩
    · subst e1
      rcases set_at k2 with ⟨e2, _⟩ | ⟨n2, k2⟩
      · exact e2
      · exact s.inj i b ds ds' q hi k2 k3 k4
    · rcases set_at k2 with ⟨e2, _⟩ | ⟨n2, k2⟩
      · subst e2
        exact s.inj a i cs ds q k1 hi k3 k4
      · exact s.inj a b cs ds' q k1 k2 k3 k4
theorem Stp.put {p : Addr} {o : HO} (ho : p ∈ own) : Stp own H own (upd H p o) := ⟨fun a o' ha h => by rw [upd_ne fun z => ha (by rw [z]; exact ho)]; exact h, fun _ h => .inl h⟩
/-- a list of the def's own stands still from now on -/
theorem Bd.frz1 (s : Bd M0 own σ H ρ) {j : Nat} {ds : List PyData} (hj : ρ[j]? = some (.mut ds)) : ∃ (own1 : List Addr) (p : Addr), Stp own H own1 H ∧ σ[j]? = some (some (.ref p)) ∧ Bd M0 own1 σ H (ρ.set j (.dat (.list ds))) ∧ Rp (hide (own1 ++ M0) H) (.ref p) (.list ds) := by
  obtain ⟨p, vs, h1, ho, h2, h3⟩ := s.se.mut hj
  have sub : ∀ a ∈ own.filter (· ≠ p) ++ M0, a ∈ own ++ M0 := fun a ha => by
    rcases List.mem_append.mp ha with z | z
    · exact List.mem_append_left _ (List.mem_filter.mp z).1
    · exact List.mem_append_right _ z
  have hM := s.dis p ho
  have np : p ∉ own.filter (· ≠ p) ++ M0 := fun z => by
    rcases List.mem_append.mp z with z | z
    · have := (List.mem_filter.mp z).2
      simp at this
    · exact hM z
  have hup : Ex (hide (own ++ M0) H) (hide (own.filter (· ≠ p) ++ M0) H) := hide_sub sub
  have rp : Rp (hide (own.filter (· ≠ p) ++ M0) H) (.ref p) (.list ds) := .lst (by rw [hide_out np]; exact h2) (h3.up hup)
  refine ⟨own.filter (· ≠ p), p, ⟨fun a o _ h => h, fun q hq => .inl (List.mem_filter.mp hq).1⟩, h1, ?_, rp⟩
  refine ⟨⟨by rw [List.length_set]; exact s.se.len, fun i t hi => ?_⟩, fun m hm => s.al m (sub m hm), fun q hq => s.dis q (List.mem_filter.mp hq).1, fun a b cs es q k1 k2 k3 k4 => ?_⟩
  · rcases set_at hi with ⟨e, ht⟩ | ⟨n, hi⟩
    · subst e ht
      exact ⟨_, h1, rp⟩
    · obtain ⟨x, k1, k2⟩ := s.se.at_ i t hi
      refine ⟨x, k1, ?_⟩
      cases t with
      | no => unfold SlOk; trivial
      | dat d =>
        cases x with
        | none => exact k2.elim
        | some v => exact Rp.up hup k2
      | fix w =>
        cases x with
        | none => exact k2.elim
        | some v => exact SlOk.fixI (SlOk.fixE k2)
      | «mut» cs =>
        obtain ⟨p', vs', g3, g5, g4, g6⟩ := s.se.mut hi
        rw [g3] at k1
        cases k1
        refine ⟨List.mem_filter.mpr ⟨g5, ?_⟩, vs', g4, g6.up hup⟩
        have : p' ≠ p := fun z => n (s.inj j i ds cs p' hj hi (by rw [h1, z]) g3)
        simpa using this
  · rcases set_at k1 with ⟨_, e⟩ | ⟨n1, k1⟩
    · cases e
    rcases set_at k2 with ⟨_, e⟩ | ⟨n2, k2⟩
    · cases e
    exact s.inj a b cs es q k1 k2 k3 k4
end
end R60

end -- D10
section -- D11
set_option Elab.async false
set_option linter.all false
set_option maxRecDepth 100000
set_option maxHeartbeats 4000000
/-! Statements: their readings, the certified reader. -/
namespace R60
open PySem PySem.Spec PyProof.Rows L2 RZ
open Evl (Ex)
section
variable {M0 own own1 own2 : List Addr} {σ : L2.St} {H H1 H2 : Hp} {ρ ρ' : List Sl} {D : Ends}
theorem Bd.frz (s : Bd M0 own σ H ρ) : Bd M0 [] σ H (frz ρ) := by
  refine ⟨⟨by unfold R60.frz; rw [List.length_map]; exact s.se.len, fun i t hi => ?_⟩, fun m hm => s.al m (List.mem_append_right _ hm), fun q hq => (by cases hq), fun a b cs es q k1 _ _ _ => ?_⟩
  · unfold R60.frz at hi
    rw [List.getElem?_map] at hi
    cases e : ρ[i]? with
    | none => rw [e] at hi; cases hi
    | some u =>
      rw [e] at hi
      cases hi
      have hup : Ex (hide (own ++ M0) H) (hide ([] ++ M0) H) := hide_sub fun a ha => List.mem_append_right _ ha
      obtain ⟨x, k1, k2⟩ := s.se.at_ i u e
      refine ⟨x, k1, ?_⟩
      cases u with
      | no => unfold SlOk frzS; trivial
      | dat d =>
        cases x with
        | none => exact k2.elim
        | some v => exact Rp.up hup k2
      | fix w =>
        cases x with
        | none => exact k2.elim
        | some v => exact SlOk.fixI (SlOk.fixE k2)
      | «mut» cs =>
        obtain ⟨p', vs', g3, g5, g4, g6⟩ := s.se.mut e
        rw [g3] at k1
        cases k1
        exact Rp.lst (by rw [hide_out (show p' ∉ [] ++ M0 from s.dis p' g5)]; exact g4) (g6.up hup)
  · unfold R60.frz at k1
    rw [List.getElem?_map] at k1
    cases e : ρ[a]? with
    | none => rw [e] at k1; cases k1
    | some u =>
      rw [e] at k1
      cases u <;> cases k1
theorem setsD_mut : ∀ (js : List Nat) (ds : List PyData) (ρ : List Sl) (i : Nat) (es : List PyData), (setsD ρ js ds)[i]? = some (.mut es) → js.length = ds.length → i ∉ js ∧ ρ[i]? = some (.mut es)
  | [], ds, ρ, i, es, h, hl => ⟨by simp, by cases ds <;> exact h⟩
  | j :: js, [], ρ, i, es, h, hl => by simp at hl
  | j :: js, d :: ds, ρ, i, es, h, hl => by
    obtain ⟨h1, h2⟩ := setsD_mut js ds (ρ.set j (.dat d)) i es h (by simpa using hl)
    rcases set_at h2 with ⟨_, e⟩ | ⟨n, h3⟩
    · cases e
    · exact ⟨by rw [List.mem_cons, not_or]; exact ⟨fun e => n e.symm, h1⟩, h3⟩
theorem bindT_mut {tg : List Nat} {d : PyData} {i : Nat} {es : List PyData} (hb : bindT tg ρ d = some ρ') (h : ρ'[i]? = some (.mut es)) : i ∉ tg ∧ ρ[i]? = some (.mut es) := by
  have tup : ∀ (js : List Nat) (ds : List PyData), (if ds.length = js.length then some (setsD ρ js ds) else none) = some ρ' → i ∉ js ∧ ρ[i]? = some (.mut es) := fun js ds hb => by
    by_cases c : ds.length = js.length
    · rw [if_pos c] at hb
      cases hb
      exact setsD_mut js ds ρ i es h c.symm
    · rw [if_neg c] at hb
      cases hb
  unfold bindT at hb
  split at hb
  · cases hb
    rcases set_at h with ⟨_, e⟩ | ⟨n, h3⟩
    · cases e
    · exact ⟨by simpa using fun e => n e.symm, h3⟩
  · split at hb
    · exact tup _ _ hb
    · cases hb
/-- what follows a statement -/
def OkD (M0 own : List Addr) (H : Hp) (D : Ends) : Out → Prop
  | .nx ρ' => ∀ (own' : List Addr) (σ' : L2.St) (H' : Hp), Stp own H own' H' → Bd M0 own' σ' H' ρ' → D.nx σ' H'
  | .rt d => ∀ (v : V) (own' : List Addr) (H' : Hp), Stp own H own' H' → Rp (hide (own' ++ M0) H') v d → D.rt v H'
theorem OkD.shift {out : Out} (s : Stp own H own1 H1) (h : OkD M0 own H D out) : OkD M0 own1 H1 D out := by
  cases out with
  | nx ρ' => exact fun own' σ' H' t b => h own' σ' H' (s.trans t) b
  | rt d => exact fun v own' H' t r => h v own' H' (s.trans t) r
end
def cS (F : Fs) (N : Nat) (s : St) : TS := fun D σ H => ∃ (M0 own : List Addr) (ρ : List Sl) (out : Out), Bd M0 own σ H ρ ∧ run F N s ρ = some out ∧ OkD M0 own H D out
/-- a new list -/
def cL (F : Fs) (x : Xp) : TE := fun σ H Q => ∃ (own M : List Addr) (ρ : List Sl) (ds : List PyData), SE own M σ H ρ ∧ Al M H ∧ ev F x ρ = some (.list ds) ∧ ∀ p vs H2, H p = none → Ex H H2 → H2 p = some (.lst vs) → RpAll (hide (p :: M) H2) vs ds → Q (.ref p) H2
section
variable (F : Fs) (NM : List Str) (N : Nat)
structure FitsS (S : Sc) (X : Cx) : Prop extends Fits F NM S X where
  xe : X.xe = fun _ _ => False
def SndS (S : Sc) (st : Stmt) (s : St) : Prop := ∀ X, FitsS F NM S X → PS X st (cS F N s)
def SndB (S : Sc) (sts : List Stmt) (s : St) : Prop := ∀ X, FitsS F NM S X → PSs X sts (cS F N s)
structure ChkS (s : St) where
  o : ∀ (S : Sc) (st : Stmt), Tr (SndS F NM N S st s) := fun _ _ => none
  b : ∀ (S : Sc) (sts : List Stmt), Tr (SndB F NM N S sts s) := fun _ _ => none
end
section
variable {F : Fs} {NM : List Str} {N : Nat} {X : Cx} {S : Sc}
theorem PS.can {st : Stmt} {t : TS} {s : St} (h : PS X st t) (hs : ∀ (M0 own : List Addr) (ρ : List Sl) (out : Out) (σ : L2.St) (H : Hp) (D : Ends), Bd M0 own σ H ρ → run F N s ρ = some out → OkD M0 own H D out → t D σ H) : PS X st (cS F N s) :=
  ⟨fun pins s' σ H D I ⟨M0, own, ρ, out, b, r, k⟩ => h.run pins s' σ H D I (hs M0 own ρ out σ H D b r k)⟩
theorem PSs.can {st : List Stmt} {t : TS} {s : St} (h : PSs X st t) (hs : ∀ (M0 own : List Addr) (ρ : List Sl) (out : Out) (σ : L2.St) (H : Hp) (D : Ends), Bd M0 own σ H ρ → run F N s ρ = some out → OkD M0 own H D out → t D σ H) : PSs X st (cS F N s) :=
  ⟨fun pins s' σ H D I ⟨M0, own, ρ, out, b, r, k⟩ => h.run pins s' σ H D I (hs M0 own ρ out σ H D b r k)⟩
theorem passes (f : FitsS F NM S X) : PassesOwn (model X.prog X.w) X.A X.env X.xe := by
  rw [f.xe]
  exact PassesOwn.never
/-! ### the store of a name -/
def notLc : Expr → Bool
  | .ListComp _ _ _ _ => false
  | .SetComp _ _ _ _ => false
  | .DictComp _ _ _ _ _ => false
  | _ => true
theorem sw_ok {e : Expr} (h : notLc e = true) (t : Option Expr) (l : Nat) (env : Env) : swapsWith e t l env = pure false := by
  cases e <;> first | rfl | cases h
theorem sws_ok {e tg : Expr} (h : notLc e = true) (l : Nat) (env : Env) : swapsWithSole [tg] e l env = pure false := by
  cases e <;> first | rfl | cases h
def kindB (S : Sc) : Bool := match S.sc.kind with | .function => true | _ => false
theorem kind_ok {S : Sc} (h : kindB S = true) : S.sc.kind = .function := by
  unfold kindB at h
  split at h
  · assumption
  · cases h
def swB (S : Sc) (scope : Scope) (y : Str) (py pos : Pos) : Bool := decide (S.sc.names.lookup y = some .local) && (py.line == pos.line) && !(scope.names.any fun (n, k) => n == y && (k == .local || k == .cell))
end
section
variable (F : Fs) (NM : List Str) (N : Nat)
theorem set_go {M0 own : List Addr} {ρ : List Sl} {σ : L2.St} {H : Hp} {D : Ends} {te : TE} {i : Nat} {d : PyData} (he : EE te ρ d) (b : Bd M0 own σ H ρ) (k : OkD M0 own H D (.nx (ρ.set i (.dat d)))) : tAsg te (gName i) D σ H :=
  he own (own ++ M0) σ H b.se b.al _ fun v H2 e r => k own _ H2 (.of e) ((b.up e).set i r)
theorem new_go {M0 own : List Addr} {ρ : List Sl} {σ : L2.St} {H : Hp} {D : Ends} {te : TE} {i : Nat} {ds : List PyData} (he : EL te ρ ds) (b : Bd M0 own σ H ρ) (k : OkD M0 own H D (.nx (ρ.set i (.mut ds)))) : tAsg te (gName i) D σ H :=
  he own (own ++ M0) σ H b.se b.al _ fun p vs H2 hp e h2 r => k (p :: own) _ H2 (.new hp e) (b.newL i hp e h2 r)
/-- name = e, e no comprehension -/
theorem ps_setP {F : Fs} {NM : List Str} {S : Sc} {X : Cx} {i : Nat} {y : Str} {py pos : Pos} {e : Expr} {te : TE} (f : Fits F NM S X) (hn : chkN S i y = true) (he : PE X e te) (hl : notLc e = true) : PS X (.Assign [.Name y py] e pos) (tAsg te (gName i)) := by
  obtain ⟨h1, h3⟩ := and_tt hn
  obtain ⟨h1, h2⟩ := and_tt h1
  refine ps_set f.nd (by rw [f.N]; exact of_decide_eq_true h1) (loc_ok h2 f) he (sw_ok hl _ _ _) ?_
  rw [f.fn, f.sc]
  cases e : S.fn y with
  | true => exact .inl rfl
  | false =>
    rw [e] at h3
    exact .inr (of_decide_eq_true h3)
/-- name = [.. for ..] -/
theorem ps_setC {F : Fs} {NM : List Str} {S : Sc} {X : Cx} {i : Nat} {y : Str} {py pos spos : Pos} {it t e : Xp} {pr : Bool} {tg : List Nat} {elt tgE iter : Expr} {ifs : List Expr} {scope : Scope} {own : List (Str × Nat)} (f : Fits F NM S X) (hk : kindB S = true) (hn : chkN S i y = true)
    (h : LcOk F NM S pr tg it t e elt tgE iter ifs scope own) : PS X (.Assign [.Name y py] (.ListComp elt [⟨tgE, iter, ifs, 0⟩] scope pos) spos) (tAsg (tLc (cI F X.K pr it) (gT X.K tg) (cT F t) (cE F e) tg) (gName i)) := by
  obtain ⟨h1, h2, h3, h4, h5, h6, h7, h8⟩ := h
  obtain ⟨n1, n3⟩ := and_tt hn
  obtain ⟨n1, n2⟩ := and_tt n1
  have ok : BlkOk X.N X.env.scope scope own := blkOk_by (by rw [f.N, f.sc]; exact h2)
  by_cases sw : swB S scope y py pos = true
  · obtain ⟨s1, s4⟩ := and_tt sw
    obtain ⟨s2, s3⟩ := and_tt s1
    have s2' : X.env.scope.names.lookup y = some .local := by rw [f.sc]; exact of_decide_eq_true s2
    have s1' : X.env.scope.kind = .function := by
      rw [f.sc]
      exact kind_ok hk
    have := ps_setLc (X := X) (i := i) (y := y) (py := py) (own := own) (pos := pos) (spos := spos) (g := gT X.K tg) f.calm f.nd (by rw [f.N]; exact of_decide_eq_true n1) s2' (sw_true s1' s2' s3 (notT s4)) (h5 X f) ok (fun s H C cl fp => h6 _ (f.blk scope s H C cl fp)) (fun s H C cl fp => h7 _ (f.blk scope s H C cl fp)) (fun s H C cl fp => h8 _ (f.blk scope s H C cl fp)) (set_ok h1 _)
    rw [h3] at this
    exact this
  · have := pe_lc (X := X) (own := own) (pos := pos) (g := gT X.K tg) f.calm f.nd (h5 X f) ok (fun s H C cl fp => h6 _ (f.blk scope s H C cl fp)) (fun s H C cl fp => h7 _ (f.blk scope s H C cl fp)) (fun s H C cl fp => h8 _ (f.blk scope s H C cl fp)) (set_ok h1 _)
    rw [h3] at this
    refine ps_set f.nd (by rw [f.N]; exact of_decide_eq_true n1) (loc_ok n2 f) this ?_ ?_
    · unfold swapsWith
      have hb : (X.env.blockKind == .function && X.env.kindOf y == some .local && py.line == pos.line && !(scope.names.any fun (n, k) => n == y && (k == .local || k == .cell))) = false := by
        rw [← Bool.not_eq_true]
        intro z
        apply sw
        unfold swB
        unfold Env.blockKind Env.kindOf at z
        rw [f.sc] at z
        obtain ⟨z, z4⟩ := and_tt z
        obtain ⟨z, z3⟩ := and_tt z
        obtain ⟨z1, z2⟩ := and_tt z
        rw [z4, z3, Bool.and_true, Bool.and_true]
        have e2 : S.sc.names.lookup y = some .local := eq_of_beq z2
        rw [decide_eq_true e2]
      simp only [Expr.pos, hb]
    · rw [f.fn, f.sc]
      cases e : S.fn y with
      | true => exact .inl rfl
      | false =>
        rw [e] at n3
        exact .inr (of_decide_eq_true n3)
end
end R60

end -- D11
section -- D12
set_option Elab.async false
set_option linter.all false
set_option maxRecDepth 100000
set_option maxHeartbeats 4000000
/-! Statements: the certified reader, construct by construct. -/
namespace R60
open PySem PySem.Spec PyProof.Rows L2 RZ
open Evl (Ex)
section
variable (F : Fs) (NM : List Str) (N : Nat)
def varB (S : Sc) (i : Nat) (y : Str) : Bool := decide (S.N[i]? = some y) && visB S y && !dbg y && !cdc y
theorem pe_varB {F : Fs} {NM : List Str} {S : Sc} {X : Cx} {i : Nat} {y : Str} {p : Pos} (h : varB S i y = true) (f : Fits F NM S X) : PE X (.Name y p) (tVar i) := by
  obtain ⟨h, h4⟩ := and_tt h
  obtain ⟨h, h3⟩ := and_tt h
  obtain ⟨h1, h2⟩ := and_tt h
  exact pe_var (i := i) (by rw [f.N]; exact of_decide_eq_true h1) (vis_ok h2 f) (notT h3) (notT h4)
/-- a comprehension's case, split off -/
def chkSet {x : Xp} (i : Nat) (c : Chk F NM x) (lc : ∀ (S : Sc) (y : Str) (py : Pos) (e : Expr) (pos : Pos), Tr (SndS F NM N S (.Assign [.Name y py] e pos) (.set i x))) : ChkS F NM N (.set i x) where
  o := fun S st => match st with
    | .Assign [.Name y py] e pos => if h : notLc e = true then bothT (must (chkN S i y)) (c.e S e) fun hn he => fun X f => PS.can (ps_setP f.toFits hn (he X f.toFits) h) fun M0 own ρ out σ H D b r k => by
        obtain ⟨d, h1, rfl⟩ := map_some (show (ev F x ρ).map (fun d => Out.nx (ρ.set i (.dat d))) = some out from r)
        exact set_go (ce h1) b k
      else lc S y py e pos
    | _ => none
def lcSet {it t e : Xp} {pr : Bool} {tg : List Nat} (i : Nat) (ci : Chk F NM it) (ct : Chk F NM t) (c : Chk F NM e) (S : Sc) (y : Str) (py : Pos) (ex : Expr) (pos : Pos) : Tr (SndS F NM N S (.Assign [.Name y py] ex pos) (.set i (.lc pr tg it t e))) := match ex with
    | .ListComp elt [⟨tgE, iter, ifs, 0⟩] scope pos2 => match ownOf tg tgE with
      | some own => bothT (must (kindB S && chkN S i y)) (chkLcOk F NM S pr tg ci ct c elt tgE iter ifs scope own) fun hn h => fun X f => PS.can (ps_setC f.toFits (and_tt hn).1 (and_tt hn).2 h) fun M0 own ρ out σ H D b r k => by
          obtain ⟨d, h1, rfl⟩ := map_some (show (ev F (.lc pr tg it t e) ρ).map (fun d => Out.nx (ρ.set i (.dat d))) = some out from r)
          obtain ⟨o, rfl, q⟩ := lc_el F (K := X.K) h1 h.pk
          exact set_go q.ee b k
      | none => none
    | _ => none
def lcOfX {x : Xp} (i : Nat) : ∀ (S : Sc) (y : Str) (py : Pos) (e : Expr) (pos : Pos), Tr (SndS F NM N S (.Assign [.Name y py] e pos) (.set i x)) := match x with
  | .lc pr tg it t e => lcSet F NM N i (chk F NM it) (chk F NM t) (chk F NM e)
  | _ => fun _ _ _ _ _ => none
/-- a new list that will change -/
def chkNewL (i : Nat) (x : Xp) : ChkS F NM N (.newL i x) where
  o := fun S st => match st with
    | .Assign [.Name y py] ex pos => match x, ex with
      | .lst a, .List es p => bothT (must (chkN S i y)) ((chk F NM a).a S es) fun hn he => fun X f => PS.can (ps_setP f.toFits hn (pe_lst (he X f.toFits)) rfl) fun M0 own ρ out σ H D b r k => by
          obtain ⟨ds, h1, rfl⟩ := map_some (show ((ev F (.lst a) ρ).bind lstD).map (fun ds => Out.nx (ρ.set i (.mut ds))) = some out from r)
          obtain ⟨d, h2, h3⟩ := bind_some h1
          obtain ⟨es', h4, h5⟩ := bind_some (show (evA F a ρ).bind (fun xs => if xs.length ≤ 100000 then some (PyData.list xs) else none) = some d from h2)
          split at h5
          · cases h5
            cases h3
            exact new_go (el_lst (ca h4) (by assumption)) b k
          · cases h5
      | .lc pr tg it t e, .ListComp elt [⟨tgE, iter, ifs, 0⟩] scope pos2 => match ownOf tg tgE with
        | some own => bothT (must (kindB S && chkN S i y)) (chkLcOk F NM S pr tg (chk F NM it) (chk F NM t) (chk F NM e) elt tgE iter ifs scope own) fun hn h => fun X f => PS.can (ps_setC f.toFits (and_tt hn).1 (and_tt hn).2 h) fun M0 own ρ out σ H D b r k => by
            obtain ⟨ds, h1, rfl⟩ := map_some (show ((ev F (.lc pr tg it t e) ρ).bind lstD).map (fun ds => Out.nx (ρ.set i (.mut ds))) = some out from r)
            obtain ⟨d, h2, h3⟩ := bind_some h1
            obtain ⟨o, rfl, q⟩ := lc_el F (K := X.K) h2 h.pk
            cases h3
            exact new_go q b k
        | none => none
      | _, _ => none
    | _ => none
def chkCpy (i j : Nat) : ChkS F NM N (.cpy i j) where
  o := fun S st => match st with
    | .Assign [.Name y py] (.Name z pz) pos => oneT (must (chkN S i y && varB S j z)) fun h => fun X f => PS.can (ps_setP f.toFits (and_tt h).1 (pe_varB (and_tt h).2 f.toFits) rfl) fun M0 own ρ out σ H D b r k => by
        obtain ⟨ds, h1, rfl⟩ := map_some (show (mutD ρ[j]?).map (fun ds => Out.nx ((ρ.set j (.dat (.list ds))).set i (.dat (.list ds)))) = some out from r)
        have hm : ρ[j]? = some (.mut ds) := by
          unfold mutD at h1
          split at h1
          · rename_i e; cases h1; exact e
          · cases h1
        obtain ⟨own1, p, s1, s2, s3, s4⟩ := b.frz1 hm
        exact ⟨.ref p, s2, k own1 _ H s1 (s3.set i s4)⟩
    | _ => none
theorem mutD_eq {o : Option Sl} {ds : List PyData} (h1 : mutD o = some ds) : o = some (.mut ds) := by
  unfold mutD at h1
  split at h1
  · cases h1; rfl
  · cases h1
theorem few_ok {e : Expr} {pos : Pos} {env : Env} (hs : notStar e = true) : ((backTo pos (starEach [e] env)).all (fun x => !x.1) && (backToKw pos (keywordEach [] env)).all (fun x => x.1.isSome)
      && decide ([e].length + ([] : List Keyword).length + (if ([] : List Keyword).isEmpty then 0 else 1) < 30)) = true := by rw [star_ok hs]; rfl
def chkApp {x : Xp} (i : Nat) (c : Chk F NM x) : ChkS F NM N (.app i x) where
  o := fun S st => match st with
    | .Expr (.Call (.Attribute (.Name y yp) at_ apos) [e] [] cpos) pos => bothT (must (decide (at_ = ("append" : Str)) && (varB S i y && notStar e && (apos.endLine == cpos.line)))) (c.e S e) fun h he => by
        obtain ⟨hm, h⟩ := and_tt h
        obtain ⟨h, hl⟩ := and_tt h
        obtain ⟨hv, hs⟩ := and_tt h
        have hm := eq_of_dec hm
        subst hm
        exact fun X f => PS.can (ps_expr (pe_bm PySem.F.plainAttrs_list PySem.F.slot_list_append PySem.F.type_list_append mt_append (pe_varB hv f.toFits) (pa1 (he X f.toFits) hs) rfl (few_ok hs) hl (star_ok hs _ _) rfl) rfl) fun M0 own ρ out σ H D b r k => by
          obtain ⟨d, h1, r⟩ := bind_some (show (ev F x ρ).bind (fun d => (mutD ρ[i]?).bind fun ds => if ds.length < 100000 then some (Out.nx (ρ.set i (.mut (ds ++ [d])))) else none) = some out from r)
          obtain ⟨ds, h2, r⟩ := bind_some r
          split at r
          · rename_i hz
            cases r
            have hm := mutD_eq h2
            obtain ⟨p, vs, g1, g2, g3, g4⟩ := b.se.mut hm
            refine ⟨.ref p, g1, .inl ⟨rfl, _, SqL.of g3⟩, ce h1 own (own ++ M0) σ H b.se b.al _ fun v H2 e r2 => ⟨p, vs, v, rfl, rfl, e _ _ g3, by rw [g4.len]; exact Evl.sz_lt hz, ?_⟩⟩
            exact k own _ _ ((Stp.of e).trans (.put g2)) ((b.up e).put hm g1 g2 ((g4.up (hide_mono e)).append (.cons r2 .nil)))
          · cases r
    | _ => none
def chkExt {x : Xp} (i : Nat) (c : Chk F NM x) : ChkS F NM N (.ext i x) where
  o := fun S st => match st with
    | .Expr (.Call (.Attribute (.Name y yp) at_ apos) [e] [] cpos) pos => bothT (must (decide (at_ = ("extend" : Str)) && (varB S i y && notStar e && (apos.endLine == cpos.line)))) (c.e S e) fun h he => by
        obtain ⟨hm, h⟩ := and_tt h
        obtain ⟨h, hl⟩ := and_tt h
        obtain ⟨hv, hs⟩ := and_tt h
        have hm := eq_of_dec hm
        subst hm
        exact fun X f => PS.can (ps_expr (pe_bm PySem.F.plainAttrs_list PySem.F.slot_list_extend PySem.F.type_list_extend mt_extend (pe_varB hv f.toFits) (pa1 (he X f.toFits) hs) rfl (few_ok hs) hl (star_ok hs _ _) rfl) rfl) fun M0 own ρ out σ H D b r k => by
          obtain ⟨es, h1, r⟩ := bind_some (show ((ev F x ρ).bind lstD).bind (fun es => (mutD ρ[i]?).bind fun ds => if ds.length + es.length ≤ 100000 then some (Out.nx (ρ.set i (.mut (ds ++ es)))) else none) = some out from r)
          obtain ⟨ds, h2, r⟩ := bind_some r
          split at r
          · rename_i hz
            cases r
            have hm := mutD_eq h2
            obtain ⟨p, vs, g1, g2, g3, g4⟩ := b.se.mut hm
            refine ⟨.ref p, g1, .inl ⟨rfl, _, SqL.of g3⟩, ce (bind_lst h1) own (own ++ M0) σ H b.se b.al _ fun v H2 e r2 => ?_⟩
            obtain ⟨q, ws, rfl, g5, g6⟩ := r2.is_lst
            refine ⟨p, q, vs, ws, rfl, rfl, e _ _ g3, hide_ex _ _ g5, by rw [g4.len, g6.len]; exact Evl.sz_of hz, ?_⟩
            exact k own _ _ ((Stp.of e).trans (.put g2)) ((b.up e).put hm g1 g2 ((g4.up (hide_mono e)).append g6))
          · cases r
    | _ => none
theorem sub_ok {y : Str} {yp pos : Pos} {ie : Expr} {env : Env} (h : plainB ie = true) : ∀ v, assign (.Subscript (.Name y yp) ie pos) env v = (do
      let ov ← holding [v] (eval (.Name y yp) env)
      let iv ← holding [v, ov] (eval ie env)
      standAt pos
      holding [v, ov, iv] (setItem ov iv v)
      release [v, ov, iv] []) := by
  cases ie <;> first | (intro _; rfl) | cases h
theorem hw_ok {y : Str} {yp pos : Pos} {ie e : Expr} {env : Env} (h : notLc e = true) : swappedStores [.Subscript (.Name y yp) ie pos] e env = pure none := by
  cases e <;> first | rfl | cases h
def chkSti {ix x : Xp} (i : Nat) (ci : Chk F NM ix) (c : Chk F NM x) : ChkS F NM N (.sti i ix x) where
  o := fun S st => match st with
    | .Assign [.Subscript (.Name y yp) ie ip] e pos => bothT (must (varB S i y && plainB ie && notLc e)) (bothT (ci.e S ie) (c.e S e) And.intro) fun h h12 => by
        obtain ⟨h, hl⟩ := and_tt h
        obtain ⟨hv, hp⟩ := and_tt h
        exact fun X f => PS.can (ps_asg (h12.2 X f.toFits) (pg_sub (pe_varB hv f.toFits) (h12.1 X f.toFits) set_list (sub_ok hp)) (sws_ok hl _ _) (hw_ok hl) rfl) fun M0 own ρ out σ H D b r k => by
          obtain ⟨d, h1, r⟩ := bind_some (show (ev F x ρ).bind (fun d => ((ev F ix ρ).bind intOfD).bind fun k => (mutD ρ[i]?).bind fun ds => (ixN ds.length k).map fun j => Out.nx (ρ.set i (.mut (ds.set j d)))) = some out from r)
          obtain ⟨n, h2, r⟩ := bind_some r
          obtain ⟨ds, h3, r⟩ := bind_some r
          obtain ⟨j, h4, rfl⟩ := map_some r
          have hm := mutD_eq h3
          refine ce h1 own (own ++ M0) σ H b.se b.al _ fun v H1 e1 r1 => ?_
          obtain ⟨p, vs, g1, g2, g3, g4⟩ := (b.up e1).se.mut hm
          refine ⟨.ref p, g1, ce (bind_int h2) own (own ++ M0) σ H1 (b.up e1).se (b.up e1).al _ fun u H2 e2 r2 => ?_⟩
          rw [r2.is_int]
          refine ⟨p, vs, n, j, rfl, rfl, e2 _ _ g3, by rw [g4.len]; exact h4, ?_⟩
          exact k own _ _ ((Stp.of (e1.trans e2)).trans (.put g2)) ((b.up (e1.trans e2)).put hm g1 g2 ((g4.up (hide_mono e2)).set j (r1.up (hide_mono e2))))
    | _ => none
def chkRet {x : Xp} (c : Chk F NM x) : ChkS F NM N (.ret x) where
  o := fun S st => match st with
    | .Return (some e) pos => oneT (c.e S e) fun he => fun X f => PS.can (ps_ret (he X f.toFits)) fun M0 own ρ out σ H D b r k => by
        obtain ⟨d, h1, rfl⟩ := map_some (show (ev F x (frz ρ)).map Out.rt = some out from r)
        have b' := b.frz
        exact ce h1 [] ([] ++ M0) σ H b'.se b'.al _ fun v H2 e r2 => k v [] H2 ⟨fun a o _ h => e a o h, fun q hq => by cases hq⟩ r2
    | _ => none
def chkExp {x : Xp} (c : Chk F NM x) : ChkS F NM N (.exp x) where
  o := fun S st => match st with
    | .Expr e pos => bothT (must (notLc e)) (c.e S e) fun hl he => fun X f => PS.can (ps_expr (he X f.toFits) (sw_ok hl _ _ _)) fun M0 own ρ out σ H D b r k => by
        obtain ⟨d, h1, rfl⟩ := map_some (show (ev F x ρ).map (fun _ => Out.nx ρ) = some out from r)
        exact ce h1 own (own ++ M0) σ H b.se b.al _ fun v H2 e r2 => k own σ H2 (.of e) (b.up e)
    | _ => none
def chkNever : ChkS F NM N .never where
  o := fun S st => some ⟨fun X f => PS.can ps_never fun M0 own ρ out σ H D b r k => by cases r⟩
def chkNilS : ChkS F NM N .nil where
  b := fun S sts => match sts with
    | [] => some ⟨fun X f => PSs.can pss_nil fun M0 own ρ out σ H D b r k => by
        have r : some (Out.nx ρ) = some out := r
        cases r
        exact k own σ H .refl b⟩
    | _ => none
theorem cons_go {F : Fs} {N : Nat} {a b : St} {M0 own : List Addr} {ρ : List Sl} {out : Out} {σ : L2.St} {H : Hp} {D : Ends} (bd : Bd M0 own σ H ρ) (r : run F N (.cons a b) ρ = some out) (k : OkD M0 own H D out) : tSeq (cS F N a) (cS F N b) D σ H := by
  obtain ⟨o, h1, h2⟩ := bind_some (show (run F N a ρ).bind (fun o => o.andThen (run F N b)) = some out from r)
  refine ⟨M0, own, ρ, o, bd, h1, ?_⟩
  cases o with
  | nx ρ1 => exact fun own' σ' H' s b' => ⟨M0, own', ρ1, out, b', h2, k.shift s⟩
  | rt d =>
    cases h2
    exact k
def chkConsS {a b : St} (c1 : ChkS F NM N a) (c2 : ChkS F NM N b) : ChkS F NM N (.cons a b) where
  b := fun S sts => match sts with
    | st :: r => bothT (c1.o S st) (c2.b S r) fun h1 h2 => fun X f => PSs.can (pss_cons (h1 X f) (h2 X f)) fun M0 own ρ out σ H D b r k => cons_go b r k
    | [] => none
def chkIteS {t : Xp} {a b : St} (ct' : Chk F NM t) (c1 : ChkS F NM N a) (c2 : ChkS F NM N b) : ChkS F NM N (.ite t a b) where
  o := fun S st => match st with
    | .If c s1 s2 pos => bothT (ct'.t S c) (bothT (c1.b S s1) (c2.b S s2) And.intro) fun h h12 => fun X f => PS.can (ps_if (h X f.toFits) (h12.1 X f) (h12.2 X f)) fun M0 own ρ out σ H D b' r k => by
        obtain ⟨c, h1, r⟩ := bind_some (show (evT F t ρ).bind (fun c => if c then run F N a ρ else run F N b ρ) = some out from r)
        refine ct h1 own (own ++ M0) σ H b'.se b'.al _ fun H2 e => ?_
        cases c with
        | true => exact ⟨M0, own, ρ, out, b'.up e, r, k.shift (.of e)⟩
        | false => exact ⟨M0, own, ρ, out, b'.up e, r, k.shift (.of e)⟩
    | _ => none
theorem forGo_at {bind : PyData → List Sl → Option (List Sl)} {body : List Sl → Option Out} {items : List PyData} {i : Nat} {d : PyData} {ρ : List Sl} {out : Out} (hd : items[i]? = some d) (h : forGo bind body (items.drop i) ρ = some out) :
    ∃ ρ1 o, bind d ρ = some ρ1 ∧ body ρ1 = some o ∧ o.andThen (forGo bind body (items.drop (i + 1))) = some out := by
  obtain ⟨hl, e⟩ := List.getElem?_eq_some_iff.mp hd
  rw [List.drop_eq_getElem_cons hl, e] at h
  obtain ⟨ρ1, h1, h2⟩ := bind_some (show (bind d ρ).bind (fun ρ1 => (body ρ1).bind fun o => o.andThen (forGo bind body (items.drop (i + 1)))) = some out from h)
  obtain ⟨o, h3, h4⟩ := bind_some h2
  exact ⟨ρ1, o, h1, h3, h4⟩
theorem for_go {F : Fs} {N : Nat} {K : PySem.W.Frag} {pr : Bool} {tg : List Nat} {it : Xp} {bd : St} {M0 own : List Addr} {ρ : List Sl} {out : Out} {σ : L2.St} {H : Hp} {D : Ends} (hok : okT pr tg = true) (b : Bd M0 own σ H ρ) (r : run F N (.for_ pr tg it bd) ρ = some out) (k : OkD M0 own H D out) :
    tFor (cI F K pr it) (gT K tg) (cS F N bd) D σ H := by
  obtain ⟨items, h1, r⟩ := bind_some (show (evA F it ρ).bind (fun items => forGo (fun d ρ => bindT tg ρ d) (run F N bd) items ρ) = some out from r)
  refine ⟨own, own ++ M0, ρ, items, b.se, b.al, h1, fun J H1 e1 w => ?_⟩
  obtain ⟨n, G, Y, wk, hn, hG, hY⟩ := w.ex
  refine for_it wk (fun i σ' H' => ∃ own' ρ', Stp own H1 own' H' ∧ Bd M0 own' σ' H' ρ' ∧ forGo (fun d ρ => bindT tg ρ d) (run F N bd) (items.drop i) ρ' = some out) ⟨own, ρ, .refl, b.up e1, r⟩ (fun i σ' H' hi p => ?_) (fun i x σ' H' H'' hi p y => ?_) (fun σ' H' p => ?_)
  · obtain ⟨own', ρ', s1, _, _⟩ := p
    exact hG H' s1.hid0
  · obtain ⟨own', ρ', s1, b1, g1⟩ := p
    obtain ⟨e2, d, hd, yd⟩ := hY i H' x H'' hi s1.hid0 y
    obtain ⟨ρ1, o, k1, k2, k3⟩ := forGo_at hd g1
    have b2 := b1.up e2
    have s2 : Stp own H1 own' H'' := s1.trans (.of e2)
    refine bind_ok hok k1 yd b2.se s2.hid fun σ'' l1 l2 se => ?_
    have b3 : Bd M0 own' σ'' H'' ρ1 := ⟨se, b2.al, b2.dis, fun a c cs es q q1 q2 q3 q4 => by
      obtain ⟨n1, m1⟩ := bindT_mut k1 q1
      obtain ⟨n2, m2⟩ := bindT_mut k1 q2
      rw [l2 a n1] at q3
      rw [l2 c n2] at q4
      exact b2.inj a c cs es q m1 m2 q3 q4⟩
    refine ⟨M0, own', ρ1, o, b3, k2, ?_⟩
    cases o with
    | nx ρ2 => exact fun own2 σ2 H2 s3 b4 => ⟨own2, ρ2, s2.trans s3, b4, k3⟩
    | rt d' =>
      cases k3
      exact (k.shift ((Stp.of e1).trans s2))
  · obtain ⟨own', ρ', s1, b1, g1⟩ := p
    rw [hn, List.drop_length] at g1
    have g1 : some (Out.nx ρ') = some out := g1
    cases g1
    exact k own' σ' H' ((Stp.of e1).trans s1) b1
def chkFor {it : Xp} {bd : St} (pr : Bool) (tg : List Nat) (ci : Chk F NM it) (cb : ChkS F NM N bd) : ChkS F NM N (.for_ pr tg it bd) where
  o := fun S st => match st with
    | .For tgE iter body [] pos => bothT (must (notSet iter && okT pr tg)) (bothT (ci.i S tgE pr iter) (bothT (chkG F NM S tgE tg) (cb.b S body) And.intro) And.intro) fun h q => fun X f =>
        PS.can (ps_for (passes f) f.calm (q.1 X f.toFits) (q.2.1 X f.toFits) (q.2.2 X f) (set_ok (and_tt h).1 _)) fun M0 own ρ out σ H D b r k => for_go (and_tt h).2 b r k
    | _ => none
theorem while_go {F : Fs} {N : Nat} {t : Xp} {bd : St} {M0 own : List Addr} {ρ : List Sl} {out : Out} {σ : L2.St} {H : Hp} {D : Ends} (b : Bd M0 own σ H ρ) (r : run F N (.while_ t bd) ρ = some out) (k : OkD M0 own H D out) : tWhile (cT F t) (cS F N bd) D σ H := by
  have r : whileGo (evT F t) (run F N bd) N ρ = some out := r
  refine ⟨fun m σ' H' => ∃ own' ρ', Stp own H own' H' ∧ Bd M0 own' σ' H' ρ' ∧ whileGo (evT F t) (run F N bd) m ρ' = some out, ⟨N, own, ρ, .refl, b, r⟩, fun m σ' H' ⟨own', ρ', s1, b1, g1⟩ => ?_⟩
  cases m with
  | zero => cases g1
  | succ m =>
    obtain ⟨c, h1, h2⟩ := bind_some (show (evT F t ρ').bind (fun c => if c then (run F N bd ρ').bind fun o => o.andThen (whileGo (evT F t) (run F N bd) m) else some (.nx ρ')) = some out from g1)
    refine ct h1 own' (own' ++ M0) σ' H' b1.se b1.al _ fun H2 e => ?_
    cases c with
    | false =>
      cases h2
      exact k own' σ' H2 (s1.trans (.of e)) (b1.up e)
    | true =>
      obtain ⟨o, h3, h4⟩ := bind_some (show (run F N bd ρ').bind (fun o => o.andThen (whileGo (evT F t) (run F N bd) m)) = some out from h2)
      refine ⟨fun σ3 H3 => ∃ own3 ρ3, Stp own H own3 H3 ∧ Bd M0 own3 σ3 H3 ρ3 ∧ whileGo (evT F t) (run F N bd) m ρ3 = some out, fun σ3 H3 q => ⟨m, Nat.lt_succ_self m, q⟩, M0, own', ρ', o, b1.up e, h3, ?_⟩
      cases o with
      | nx ρ2 => exact fun own2 σ2 H2 s3 b4 => ⟨own2, ρ2, (s1.trans (.of e)).trans s3, b4, h4⟩
      | rt d' =>
        cases h4
        exact (k.shift (s1.trans (.of e)))
def chkWhile {t : Xp} {bd : St} (ct' : Chk F NM t) (cb : ChkS F NM N bd) : ChkS F NM N (.while_ t bd) where
  o := fun S st => match st with
    | .While c body [] pos => bothT (ct'.t S c) (cb.b S body) fun h1 h2 => fun X f => PS.can (ps_while (passes f) (h1 X f.toFits) (h2 X f)) fun M0 own ρ out σ H D b r k => while_go b r k
    | _ => none
end
end R60

end -- D12
section -- D13
set_option Elab.async false
set_option linter.all false
set_option maxRecDepth 100000
set_option maxHeartbeats 4000000
/-! found = {k: True for ..}; return sorted(found). Then the reader of all statements, and all defs at once. -/
namespace R60
open PySem PySem.Spec PyProof.Rows L2 RZ
open Evl (Ex)
section
variable {J : It} {n : Nat} {G : Hp → Prop} {Y : Nat → Hp → V → Hp → Prop}
theorem dc_it (w : Walk J n G Y) {g : TG} {tt : TT} {tk tv : TE} {vs : List Nat} {σ : L2.St} {H1 : Hp} {D : Addr} {Qd : Hp → Prop} (Pv : Nat → Hp → Prop) (h0 : Pv 0 (upd H1 D (.dK []))) (hG : ∀ i H, i ≤ n → Pv i H → G H)
    (hs : ∀ i x H H', i < n → Pv i H → Y i H x H' → g x (wipe σ vs) H' fun σ2 H2 => wipe σ2 vs = wipe σ vs ∧ tt σ2 H2 fun b H3 =>
      if b = true then tk σ2 H3 fun y H4 => tv σ2 H4 fun z H5 => ∃ kvs k, y = kV k ∧ H5 D = some (.dK kvs) ∧ kvs.length < sizeLine ∧ Pv (i + 1) (upd H5 D (.dK (putK kvs k z))) else Pv (i + 1) H3) (hd : ∀ H, Pv n H → Qd H) :
    ∃ W : Nat → Nat → Hp → Prop, (∃ m, W 0 m (upd H1 D (.dK []))) ∧ ∀ i m H, W i m H →
      (J.stop i H ∧ Qd H) ∨ (J.go i H ∧ ∃ Nx : Hp → Prop, (∀ H', Nx H' → ∃ m', m' < m ∧ W (i + 1) m' H') ∧ ∀ x H', J.yld i H x H' → g x (wipe σ vs) H' fun σ2 H2 => wipe σ2 vs = wipe σ vs ∧ tt σ2 H2 fun b H3 =>
        if b = true then tk σ2 H3 fun y H4 => tv σ2 H4 fun z H5 => ∃ kvs k, y = kV k ∧ H5 D = some (.dK kvs) ∧ kvs.length < sizeLine ∧ Nx (upd H5 D (.dK (putK kvs k z))) else Nx H3) := by
  refine ⟨fun i m H => m = n - i ∧ i ≤ n ∧ Pv i H, ⟨n, by simp, Nat.zero_le _, h0⟩, ?_⟩
  rintro i m H ⟨rfl, hi, p⟩
  have q := hG i H hi p
  by_cases hlt : i < n
  · exact .inr ⟨w.goes i H hlt q, Pv (i + 1), fun H' p' => ⟨n - (i + 1), by omega, rfl, hlt, p'⟩, fun x H' y => hs i x H H' hlt p (w.yields i H x H' hlt q y)⟩
  · have e : i = n := by omega
    subst e
    exact .inl ⟨w.stops H q, hd H p⟩
end
/-- name = {k: v for ..} on one line -/
theorem ps_setDc {X : Cx} {i : Nat} {y : Str} {py : Pos} {kx vx tg iter : Expr} {ifs : List Expr} {scope : Scope} {own : List (Str × Nat)} {pos spos : Pos} {wi : TI} {g : TG} {tt : TT} {tk tv : TE} (hc : X.calm = true) (hN : X.N.Nodup) (hy : X.N[i]? = some y) (hyl : X.env.scope.names.lookup y = some .local)
    (hsw : swapsWith (.DictComp kx vx [⟨tg, iter, ifs, 0⟩] scope pos) (some (.Name y py)) spos.line X.env = pure true) (hi : PI X tg iter wi) (ok : BlkOk X.N X.env.scope scope own)
    (hg : ∀ (s : Shared) (H : Hp) (C : Addr) (cl : List (Str × Addr)) (fp : List Addr), PG (X.blk s H scope (compEnvC scope cl C X.env) fp) tg g) (ht : ∀ (s : Shared) (H : Hp) (C : Addr) (cl : List (Str × Addr)) (fp : List Addr), PTs (X.blk s H scope (compEnvC scope cl C X.env) fp) ifs tt)
    (hk : ∀ (s : Shared) (H : Hp) (C : Addr) (cl : List (Str × Addr)) (fp : List Addr), PE (X.blk s H scope (compEnvC scope cl C X.env) fp) kx tk)
    (he : ∀ (s : Shared) (H : Hp) (C : Addr) (cl : List (Str × Addr)) (fp : List Addr), PE (X.blk s H scope (compEnvC scope cl C X.env) fp) vx tv) (hs : ∀ x, foldedSetIterable iter X.env x = pure x := by intro _; rfl) :
    PS X (.Assign [.Name y py] (.DictComp kx vx [⟨tg, iter, ifs, 0⟩] scope pos) spos) (tAsg (tDc wi g tt tk tv (own.map (·.2))) (gName i)) := by
  refine ⟨fun pins s σ H D I h => ?_⟩
  rw [exec_Assign_Name_used _ _ _ _ hsw]
  refine wpAny_bind (wpAny_standAt (wpAny_bind ?_))
  show wpAny _ X.A (do let _ ← comprehension (.DictComp kx vx [⟨tg, iter, ifs, 0⟩] scope pos) scope X.env (firstIterPos [⟨tg, iter, ifs, 0⟩] pos) newDict false (eval iter X.env) (some (assign (.Name y py) X.env))) _ _ s
  have h : tDc wi g tt tk tv (own.map (·.2)) σ H (fun x H1 => gName i x σ H1 D.nx) := h
  refine wpAny_bind (thn (dc_core (Qf := fun _ s' => SP X pins D .next s') hc hN I hi ok hg ht hk he hs h fun L C s' m H' I' q hn f => ?_) fun _ s' hq => wpAny_pure (wpAny_pure hq))
  show wpAny _ _ (assign (.Name y py) X.env (.ref L)) _ _ _
  refine wpAny_assign_Name (store_ok2 (v := V.ref L) I' hN hy (.inl hyl) rfl (fun s2 I2 ⟨a, sb, ha⟩ => ?_) (.inr hyl))
  obtain ⟨f0, f1, f2, f3, f4, f5⟩ := f
  have haC : C ≠ a := by
    rcases ha with z | z
    · rw [z]; exact f1
    · exact fun e => f4 y a z e.symm
  refine ⟨m, hn.sameBut sb haC, fun h3 sb3 => ?_⟩
  exact ⟨_, H', I2.turned (t' := s2.toks) (fun b o hb e => (sb3.2 b hb).trans e) f0 f1 f3 f4 f5, q⟩
/-! ### the keys -/
theorem ddI_snoc : ∀ (ns acc : List Int) (m : Int), (m ∈ ddI acc ns → ddI acc (ns ++ [m]) = ddI acc ns) ∧ (m ∉ ddI acc ns → ddI acc (ns ++ [m]) = ddI acc ns ++ [m])
  | [], acc, m => ⟨fun h => if_pos (show m ∈ acc from h), fun h => if_neg (show m ∉ acc from h)⟩
  | n :: ns, acc, m => ddI_snoc ns (if n ∈ acc then acc else acc ++ [n]) m
theorem putK_any (kvs : List (Key × V)) (k : Key) : (kvs.any fun kv => decide (kv.1 = k)) = true ↔ k ∈ kvs.map (·.1) := by
  rw [List.any_eq_true]
  constructor
  · rintro ⟨x, hx, hk⟩
    have := of_decide_eq_true hk
    exact List.mem_map.mpr ⟨x, hx, this⟩
  · intro h
    obtain ⟨x, hx, hk⟩ := List.mem_map.mp h
    exact ⟨x, hx, by simpa using hk⟩
theorem putK_pos {kvs : List (Key × V)} {k : Key} {v : V} (c : k ∈ kvs.map (·.1)) : (putK kvs k v).map (·.1) = kvs.map (·.1) := by
  unfold putK
  rw [if_pos ((putK_any kvs k).mpr c), List.map_map]
  apply List.map_congr_left
  intro a _
  show (if a.1 = k then (a.1, v) else a).1 = a.1
  split <;> rfl
theorem putK_neg {kvs : List (Key × V)} {k : Key} {v : V} (c : k ∉ kvs.map (·.1)) : (putK kvs k v).map (·.1) = kvs.map (·.1) ++ [k] := by
  unfold putK
  rw [if_neg fun z => c ((putK_any kvs k).mp z), List.map_append]
  rfl
theorem keys_step {kvs : List (Key × V)} {ns : List Int} {m : Int} {v : V} (h : kvs.map (·.1) = (ddI [] ns).map Sum.inl) : (putK kvs (Sum.inl m) v).map (·.1) = (ddI [] (ns ++ [m])).map (Sum.inl : Int → Key) := by
  obtain ⟨d1, d2⟩ := ddI_snoc ns [] m
  by_cases c : m ∈ ddI [] ns
  · rw [d1 c, putK_pos (by rw [h]; exact List.mem_map.mpr ⟨m, c, rfl⟩), h]
  · rw [d2 c, putK_neg, h, List.map_append]
    · rfl
    · intro z
      rw [h] at z
      obtain ⟨x, hx, e⟩ := List.mem_map.mp z
      cases e
      exact c hx
theorem ddI_len : ∀ (ns acc : List Int), (ddI acc ns).length ≤ acc.length + ns.length
  | [], acc => by simp [ddI]
  | n :: ns, acc => by
    show (ddI _ ns).length ≤ _
    have := ddI_len ns (if n ∈ acc then acc else acc ++ [n])
    split at this
    · simp; rw [if_pos (by assumption)]; omega
    · rw [if_neg (by assumption)]
      simp at this ⊢
      omega
theorem lcGo_take {bind : PyData → Option (List Sl)} {t : List Sl → Option Bool} {e : List Sl → Option PyData} : ∀ {ds out : List PyData} (i : Nat) {o : List PyData}, lcGo bind t e ds = some out → lcGo bind t e (ds.take i) = some o → ∃ r, out = o ++ r
  | [], out, i, o, h, h2 => by
    simp [lcGo] at h h2
    subst h h2
    exact ⟨[], rfl⟩
  | d :: ds, out, 0, o, h, h2 => by
    simp [lcGo] at h2
    subst h2
    exact ⟨out, rfl⟩
  | d :: ds, out, i + 1, o, h, h2 => by
    rw [List.take_succ_cons] at h2
    obtain ⟨ρ, k1, h⟩ := bind_some (show (bind d).bind (fun ρ => (t ρ).bind fun b => if b then (e ρ).bind fun y => (lcGo bind t e ds).map (y :: ·) else lcGo bind t e ds) = some out from h)
    obtain ⟨ρ', k1', h2⟩ := bind_some (show (bind d).bind (fun ρ => (t ρ).bind fun b => if b then (e ρ).bind fun y => (lcGo bind t e (ds.take i)).map (y :: ·) else lcGo bind t e (ds.take i)) = some o from h2)
    rw [k1] at k1'
    cases k1'
    obtain ⟨b, k2, h⟩ := bind_some h
    obtain ⟨b', k2', h2⟩ := bind_some h2
    rw [k2] at k2'
    cases k2'
    cases b with
    | false => exact lcGo_take i h h2
    | true =>
      obtain ⟨y, k3, h⟩ := bind_some h
      obtain ⟨y', k3', h2⟩ := bind_some h2
      rw [k3] at k3'
      cases k3'
      obtain ⟨o1, g1, rfl⟩ := map_some h
      obtain ⟨o2, g2, rfl⟩ := map_some h2
      obtain ⟨r, hr⟩ := lcGo_take i g1 g2
      exact ⟨r, by rw [hr]; rfl⟩
theorem allM_app {ks ls : List PyData} {ns : List Int} : allM intOfD (ks ++ ls) = some ns → ∃ ms, allM intOfD ks = some ms := by
  induction ks generalizing ns with
  | nil => intro _; exact ⟨[], rfl⟩
  | cons k ks ih =>
    intro h
    obtain ⟨a, h1, h2⟩ := bind_some (show (intOfD k).bind (fun a => (allM intOfD (ks ++ ls)).map (a :: ·)) = some ns from h)
    obtain ⟨as, h3, rfl⟩ := map_some h2
    obtain ⟨ms, h4⟩ := ih h3
    exact ⟨a :: ms, by unfold allM; rw [h1]; simp [h4]⟩
theorem allM_eq {ns : List Int} : allM intOfD (ns.map PyData.int) = some ns := by
  induction ns with
  | nil => rfl
  | cons n ns ih => simp [allM, intOfD, ih]
/-- the dict holds the keys so far -/
def DcV (H1 : Hp) (D : Addr) (o : List PyData) (H' : Hp) : Prop := H1 D = none ∧ Ex H1 H' ∧ ∃ (kvs : List (Key × V)) (ns : List Int), H' D = some (.dK kvs) ∧ kvs.map (·.1) = (ddI [] ns).map (Sum.inl : Int → Key) ∧ o = ns.map PyData.int
theorem dc_go {F : Fs} {K : PySem.W.Frag} {it t k : Xp} {j : Nat} {ρ : List Sl} {items out : List PyData} {ns : List Int} (h1 : evA F it ρ = some items) (h2 : lcD [j] (evT F t) (ev F k) ρ items = some out) (h3 : allM intOfD out = some ns)
    {own M : List Addr} {σ : L2.St} {H : Hp} (s : SE own M σ H ρ) (al : Al M H) (Q : VK) (q : ∀ D kvs H2, Ex H H2 → H2 D = some (.dK kvs) → kvs.map (·.1) = (ddI [] ns).map (Sum.inl : Int → Key) → Q (.ref D) H2) :
    tDc (cI F K false it) (gT K [j]) (cT F t) (cE F k) (cE F (.bl true)) [j] σ H Q := by
  unfold lcD at h2
  split at h2
  case isFalse => cases h2
  rename_i hz
  refine ci (F := F) (x := it) (pr := false) h1 own M σ H s al _ fun J H1 e1 w D hD => ?_
  obtain ⟨n, G, Y, wk, hn, hG, hY⟩ := w.ex
  refine dc_it wk (fun i H' => ∃ o, lcGo (bindT [j] (wipeS ρ [j])) (evT F t) (ev F k) (items.take i) = some o ∧ DcV H1 D o H') ⟨[], rfl, hD, Ex.new hD, [], [], upd_same, rfl, rfl⟩ (fun i H' hi p => ?_) (fun i x H' H'' hi p y => ?_) (fun H' p => ?_)
  · obtain ⟨o, _, p⟩ := p
    exact hG H' (hide_mono p.2.1)
  · obtain ⟨o, ho, p⟩ := p
    obtain ⟨e2, d, hd, yd⟩ := hY i H' x H'' hi (hide_mono p.2.1) y
    obtain ⟨ρ', b, g1, g2, o', g3, g4, g5⟩ := lcGo_step h2 hd
    rw [ho] at g3
    cases g3
    obtain ⟨p1, p2, kvs, ms, p3, p4, p5⟩ := p
    have ex' : Ex H1 H'' := p2.trans e2
    have se : SE own (D :: M) (wipe σ [j]) H'' (wipeS ρ [j]) := ((s.up e1).new ex' hD).wipe [j]
    have alD : Al (D :: M) H'' := ((al.up e1).up ex').cons (e2 D _ p3)
    refine bind_ok rfl g1 yd se (hide_new ex' hD) fun σ' l1 l2 se' => ?_
    refine ⟨by rw [← wipe_idem σ [j]]; exact wipe_ext l1 l2, ?_⟩
    refine ct g2 own (D :: M) σ' H'' se' alD _ fun H3 e3 => ?_
    cases b with
    | false =>
      show ∃ o, _
      exact ⟨o, g5 rfl, p1, ex'.trans e3, kvs, ms, e3 D _ (e2 D _ p3), p4, p5⟩
    | true =>
      obtain ⟨y', k1, k2⟩ := g4 rfl
      obtain ⟨r, hr⟩ := lcGo_take (i + 1) h2 k2
      rw [hr] at h3
      obtain ⟨ms', h4⟩ := allM_app h3
      have h5 := allM_ints h4
      have hy : ∃ m : Int, y' = .int m := by
        rw [p5] at h5
        have := congrArg List.getLast? h5
        rw [List.getLast?_append, List.getLast?_map] at this
        simp at this
        cases e : ms'.getLast? with
        | none => rw [e] at this; simp at this
        | some m => rw [e] at this; simp at this; exact ⟨m, this⟩
      obtain ⟨m, rfl⟩ := hy
      show cE F k σ' H3 _
      refine ce k1 own (D :: M) σ' H3 (se'.up e3) (alD.up e3) _ fun u H4 e4 r4 => ?_
      refine ce (x := .bl true) (d := .bool true) rfl own (D :: M) σ' H4 (se'.up (e3.trans e4)) (alD.up (e3.trans e4)) _ fun z H5 e5 r5 => ?_
      have eD : H5 D = some (.dK kvs) := e5 D _ (e4 D _ (e3 D _ (e2 D _ p3)))
      have hl : kvs.length ≤ 50000 := by
        have a1 := congrArg List.length p4
        rw [List.length_map, List.length_map] at a1
        have a2 := ddI_len ms []
        have a3 := lcGo_len ho
        rw [p5, List.length_map, List.length_take] at a3
        simp at a2
        omega
      refine ⟨kvs, Sum.inl m, by rw [r4.is_int]; rfl, eD, Evl.sz_lt (by omega), o ++ [.int m], k2, p1, Ex.mut (ex'.trans (e3.trans (e4.trans e5))) p1, _, ms ++ [m], upd_same, keys_step p4, ?_⟩
      rw [p5, List.map_append]
      rfl
  · obtain ⟨o, ho, p1, p2, kvs, ms, p3, p4, p5⟩ := p
    rw [hn, List.take_length, h2] at ho
    cases ho
    rw [p5, allM_eq] at h3
    cases h3
    exact q D kvs H' (e1.trans p2) p3 p4
end R60

end -- D13
section -- D14
set_option Elab.async false
set_option linter.all false
set_option maxRecDepth 100000
set_option maxHeartbeats 4000000
/-! The certified reader of statements; all defs at once. -/
namespace R60
open PySem PySem.Spec PyProof.Rows L2 RZ
open Evl (Ex)
section
variable (F : Fs) (NM : List Str) (N : Nat)
def rSD : List V → Hp → VK → Prop := fun xs H Q => ∃ (a : Addr) (kvs : List (Key × V)) (ks : List Int), xs = [.ref a] ∧ Rd H a (.dK kvs) ∧ kvs.map (·.1) = ks.map Sum.inl ∧ ks.length < 64 ∧
    ∀ (ys : List Int) (p : Addr), ys.Perm ks → ys.Pairwise (· ≤ ·) → H p = none → Q (.ref p) (upd H p (.lst (ys.map V.int)))
theorem ps_setDC {F : Fs} {NM : List Str} {S : Sc} {X : Cx} {i j : Nat} {y : Str} {py pos spos : Pos} {it t k : Xp} {kx vx tgE iter : Expr} {ifs : List Expr} {scope : Scope} {own : List (Str × Nat)} (f : Fits F NM S X) (hk : kindB S = true) (hn : chkN S i y = true)
    (h : LcOk F NM S false [j] it t k kx tgE iter ifs scope own) (hv : SndE F NM (S.blk scope) vx (.bl true)) : PS X (.Assign [.Name y py] (.DictComp kx vx [⟨tgE, iter, ifs, 0⟩] scope pos) spos) (tAsg (tDc (cI F X.K false it) (gT X.K [j]) (cT F t) (cE F k) (cE F (.bl true)) [j]) (gName i)) := by
  obtain ⟨h1, h2, h3, h4, h5, h6, h7, h8⟩ := h
  obtain ⟨n1, n3⟩ := and_tt hn
  obtain ⟨n1, n2⟩ := and_tt n1
  have ok : BlkOk X.N X.env.scope scope own := blkOk_by (by rw [f.N, f.sc]; exact h2)
  by_cases sw : swB S scope y py pos = true
  · obtain ⟨s1, s4⟩ := and_tt sw
    obtain ⟨s2, s3⟩ := and_tt s1
    have s2' : X.env.scope.names.lookup y = some .local := by rw [f.sc]; exact of_decide_eq_true s2
    have s1' : X.env.scope.kind = .function := by
      rw [f.sc]
      exact kind_ok hk
    have hsw : swapsWith (.DictComp kx vx [⟨tgE, iter, ifs, 0⟩] scope pos) (some (.Name y py)) spos.line X.env = pure true := by
      have ky : X.env.kindOf y = some .local := s2'
      have hb : X.env.blockKind = .function := by unfold Env.blockKind; rw [s1']; rfl
      unfold swapsWith
      simp only [hb, ky, notT s4, Expr.pos, s3]
      rfl
    have := ps_setDc (X := X) (i := i) (y := y) (py := py) (own := own) (pos := pos) (spos := spos) (g := gT X.K [j]) f.calm f.nd (by rw [f.N]; exact of_decide_eq_true n1) s2' hsw (h5 X f) ok (fun s H C cl fp => h6 _ (f.blk scope s H C cl fp)) (fun s H C cl fp => h7 _ (f.blk scope s H C cl fp)) (fun s H C cl fp => h8 _ (f.blk scope s H C cl fp)) (fun s H C cl fp => hv _ (f.blk scope s H C cl fp)) (set_ok h1 _)
    rw [h3] at this
    exact this
  · have := pe_dc (X := X) (own := own) (pos := pos) (g := gT X.K [j]) f.calm f.nd (h5 X f) ok (fun s H C cl fp => h6 _ (f.blk scope s H C cl fp)) (fun s H C cl fp => h7 _ (f.blk scope s H C cl fp)) (fun s H C cl fp => h8 _ (f.blk scope s H C cl fp)) (fun s H C cl fp => hv _ (f.blk scope s H C cl fp)) (set_ok h1 _)
    rw [h3] at this
    refine ps_set f.nd (by rw [f.N]; exact of_decide_eq_true n1) (loc_ok n2 f) this ?_ ?_
    · unfold swapsWith
      have hb : (X.env.blockKind == .function && X.env.kindOf y == some .local && py.line == pos.line && !(scope.names.any fun (n, k) => n == y && (k == .local || k == .cell))) = false := by
        rw [← Bool.not_eq_true]
        intro z
        apply sw
        unfold swB
        unfold Env.blockKind Env.kindOf at z
        rw [f.sc] at z
        obtain ⟨z, z4⟩ := and_tt z
        obtain ⟨z, z3⟩ := and_tt z
        obtain ⟨z1, z2⟩ := and_tt z
        rw [z4, z3, Bool.and_true, Bool.and_true]
        have e2 : S.sc.names.lookup y = some .local := eq_of_beq z2
        rw [decide_eq_true e2]
      simp only [Expr.pos, hb]
    · rw [f.fn, f.sc]
      cases e : S.fn y with
      | true => exact .inl rfl
      | false =>
        rw [e] at n3
        exact .inr (of_decide_eq_true n3)
def chkSrt (i j : Nat) (it t k : Xp) : ChkS F NM N (.srt i j it t k) where
  b := fun S sts => match sts with
    | [.Assign [.Name y py] (.DictComp kx vx [⟨tgE, iter, ifs, 0⟩] scope pos) spos, .Return (some (.Call (.Name m p) [.Name z pz] [] pos3)) pos4] => match ownOf [j] tgE with
      | some own => bothT (must (kindB S && chkN S i y && varB S i z && decide (m = ("sorted" : Str)) && glB S m)) (bothT (chkLcOk F NM S false [j] (chk F NM it) (chk F NM t) (chk F NM k) kx tgE iter ifs scope own) ((chk F NM (.bl true)).e (S.blk scope) vx) And.intro) fun h q => by
          obtain ⟨h, hg⟩ := and_tt h
          obtain ⟨h, hm⟩ := and_tt h
          obtain ⟨h, hz⟩ := and_tt h
          obtain ⟨hk, hn⟩ := and_tt h
          have hm := eq_of_dec hm
          subst hm
          exact fun X f => PSs.can (pss_cons (ps_setDC f.toFits hk hn q.1 q.2) (pss_one (ps_ret (pe_callB (r := rSD) (call_sortedDI f.calm) (gl_ok hg f.toFits) (f.blt _ (by decide)) PyProof.Rows.boot_sorted (pa1 (pe_varB hz f.toFits) rfl) (by decide) (by decide) rfl rfl)))) fun M0 own ρ out σ H D b r kk => by
            have r : (if i < ρ.length then (evA F it ρ).bind fun items => (lcD [j] (evT F t) (ev F k) ρ items).bind srtD else none) = some out := r
            split at r
            case isFalse => cases r
            rename_i hi
            obtain ⟨items, h1, r⟩ := bind_some r
            obtain ⟨ks, h2, r⟩ := bind_some r
            obtain ⟨ns, h3, r⟩ := bind_some (show (allM intOfD ks).bind (fun ns => if ns.length < 64 then some (Out.rt (.list ((sortI (ddI [] ns)).map PyData.int))) else none) = some out from r)
            split at r
            case isFalse => cases r
            rename_i hz
            cases r
            show tDc (cI F X.K false it) (gT X.K [j]) (cT F t) (cE F k) (cE F (.bl true)) [j] σ H (fun x H1 => tRet (tCB rSD (tCons (tVar i) tNil)) D (σ.set i (some x)) H1)
            refine dc_go h1 h2 h3 b.se b.al _ fun Dd kvs H2 e hd hk => ?_
            refine ⟨.ref Dd, by rw [List.getElem?_set_self (by rw [b.se.len]; exact hi)], Dd, kvs, ddI [] ns, rfl, .inl hd, hk, ?_, fun ys p hp1 hp2 hp => ?_⟩
            · have := ddI_len ns []
              simp at this
              omega
            · rw [sorted_one hp1 hp2]
              refine kk _ own _ (.of (e.trans (Ex.new hp))) ?_
              exact .lst (new_free hp (b.al.up e) upd_same) ((RpAll.of_ints _))
      | none => none
    | _ => none
def chkS : ∀ s : St, ChkS F NM N s
  | .nil => chkNilS F NM N
  | .cons a b => chkConsS F NM N (chkS a) (chkS b)
  | .set i x => chkSet F NM N i (chk F NM x) (lcOfX F NM N i)
  | .cpy i j => chkCpy F NM N i j
  | .newL i x => chkNewL F NM N i x
  | .app i x => chkApp F NM N i (chk F NM x)
  | .ext i x => chkExt F NM N i (chk F NM x)
  | .sti i ix x => chkSti F NM N i (chk F NM ix) (chk F NM x)
  | .ret x => chkRet F NM N (chk F NM x)
  | .ite t a b => chkIteS F NM N (chk F NM t) (chkS a) (chkS b)
  | .for_ pr tg it b => chkFor F NM N pr tg (chk F NM it) (chkS b)
  | .while_ t b => chkWhile F NM N (chk F NM t) (chkS b)
  | .exp x => chkExp F NM N (chk F NM x)
  | .srt i j it t k => chkSrt F NM N i j it t k
  | .never => chkNever F NM N
end
theorem of_some {p : Prop} {o : Tr p} (h : o.isSome = true) : p := by
  cases o with
  | none => cases h
  | some x => exact x.down
/-! ### all defs at once -/
structure FnD where
  name : Str
  ps : Nat
  N : List Str
  body : St
def outD : Out → PyData
  | .rt d => d
  | .nx _ => .none
def startD (fd : FnD) (ds : List PyData) : List Sl := ds.map Sl.dat ++ List.replicate (fd.N.length - ds.length) Sl.no
section
variable (TB : List FnD) (WN : Nat)
def evF : Nat → Fs
  | 0 => fun _ _ => none
  | k + 1 => fun f ds => (TB[f]?).bind fun fd => if ds.length = fd.ps then (run (evF k) WN fd.body (startD fd ds)).map outD else none
def FnHas (K : PySem.W.Frag) (mg : Str → Option Value) (fd : FnD) : Prop := ∃ (x qual : Str) (params : Arguments) (body : List Stmt) (sc : Scope) (a : Addr) (fdat : FuncData) (ps : List Str), FunD K x qual params body sc [] [] a fdat ∧ mg fd.name = some (.ref a) ∧ Binds K fdat ps [] ∧
  FnScope fd.N ps sc ∧ ps.length = fd.ps ∧ ∀ F, SndB F (TB.map (·.name)) WN ⟨fd.N, sc, fun _ => true⟩ body fd.body
structure ModHas (K : PySem.W.Frag) (mg : Str → Option Value) : Prop where
  blt : ∀ b ∈ bltNames, mg b = none
  con : ∀ p ∈ conNames, ∃ t, mg p.1 = some (.int p.2 t)
  fns : ∀ fd ∈ TB, FnHas TB WN K mg fd
end
section
variable {TB : List FnD} {WN : Nat} {P : Program} {w : World} {K : PySem.W.Frag} {mg : Str → Option Value} {base : Heap}
theorem nm_at {f : Nat} {x : Str} (h : (TB.map (·.name))[f]? = some x) : ∃ fd, TB[f]? = some fd ∧ fd.name = x ∧ fd ∈ TB := by
  rw [List.getElem?_map] at h
  cases e : TB[f]? with
  | none => rw [e] at h; cases h
  | some fd =>
    rw [e] at h
    cases h
    exact ⟨fd, rfl, rfl, List.mem_of_getElem? e⟩
theorem all_ok (m : ModHas TB WN K mg) : ∀ k f x, (TB.map (·.name))[f]? = some x → C8.Cal P w K mg base k x (spF (evF TB WN k) f) []
  | 0, f, x, h => by
    obtain ⟨fd, h1, rfl, h2⟩ := nm_at h
    obtain ⟨x, qual, params, body, sc, a, fdat, ps, F, hm, hb, S, hl, hs⟩ := m.fns fd h2
    refine ⟨a, fdat, ps, [], ⟨fun vs H Q E q => ?_, fun A outer s H args us vs Q E _ _ _ _ q => ?_⟩, hm, F.kp, hb, .nil⟩
    · obtain ⟨M, ds, d, _, _, e, _⟩ := q
      cases e
    · obtain ⟨M, ds, d, _, _, e, _⟩ := q
      cases e
  | k + 1, f, x, h => by
    obtain ⟨fd, h1, rfl, h2⟩ := nm_at h
    obtain ⟨x, qual, params, body, sc, a, fdat, ps, F, hm, hb, S, hl, hs⟩ := m.fns fd h2
    have key : ∀ (vs : List V) (H : Hp) (Q : VK) (E : XK), spF (evF TB WN (k + 1)) f vs H Q E → ∃ (M : List Addr) (ds : List PyData) (out : Out), Al M H ∧ RpAll (hide M H) vs ds ∧ ds.length = fd.ps ∧ run (evF TB WN k) WN fd.body (startD fd ds) = some out ∧ ∀ v H2, Ex H H2 → Rp (hide M H2) v (outD out) → Q v H2 := by
      rintro vs H Q E ⟨M, ds, d, al, r, e, q⟩
      have e : ((TB[f]?).bind fun fd => if ds.length = fd.ps then (run (evF TB WN k) WN fd.body (startD fd ds)).map outD else none) = some d := e
      rw [h1] at e
      simp only [Option.bind_some] at e
      split at e
      case isFalse => cases e
      rename_i hl
      obtain ⟨out, e1, rfl⟩ := map_some e
      exact ⟨M, ds, out, al, r, hl, e1, q⟩
    refine ⟨a, fdat, ps, [], F.ok S (fun vs H Q E q => ?_) (fun cdv A outer s H vs Q E hr q => ?_), hm, F.kp, hb, .nil⟩
    · obtain ⟨M, ds, out, _, r, e, _⟩ := key vs H Q E q
      rw [r.len, e, hl]
    · obtain ⟨M, ds, out, al, r, e, g, q⟩ := key vs H Q E q
      refine ⟨cS (evF TB WN k) WN fd.body, PSs.nox (hs (evF TB WN k) _ ⟨⟨rfl, S.nd, rfl, rfl, rfl, ⟨k, hr⟩, m.blt, m.con, fun f' x' h' => ⟨k, hr, all_ok m k f' x' h'⟩⟩, rfl⟩), M, [], startD fd ds, out, ?_, g, ?_⟩
      · have hle : ps.length ≤ fd.N.length := by
          have := S.pre
          have h3 := congrArg List.length this
          rw [List.length_take] at h3
          omega
        refine ⟨se_start r (by rw [r.len]; omega), al, fun p hp => (nomatch hp), fun i j ds' es p h1 _ _ _ => ?_⟩
        unfold startD at h1
        have := List.mem_of_getElem? h1
        rcases List.mem_append.mp this with z | z
        · obtain ⟨d, _, e⟩ := List.mem_map.mp z
          cases e
        · have := List.eq_of_mem_replicate z
          cases this
      · have sub : ∀ (own' : List Addr), ∀ a ∈ M, a ∈ own' ++ M := fun own' a ha => List.mem_append_right _ ha
        cases out with
        | nx ρ' => exact fun own' σ' H' st b => q .non H' (fun a o h => st.kp a o (by simp) h) .non
        | rt d => exact fun v own' H' st b => q v H' (fun a o h => st.kp a o (by simp) h) (b.up (hide_sub (sub own')))
end
end R60

end -- D14
section -- D15
set_option Elab.async false
set_option linter.all false
set_option maxRecDepth 100000
set_option maxHeartbeats 0
/-! The pure defs as small programs (printed by gen_prog.py from the names and forms of the program's defs). -/
namespace R60
open PySem L2
def p_is_whole : St := (.cons (.ret (.and (.isi .int (.var 0)) (.and (.not (.isi .bool (.var 0))) (.chain (.var 1) (.var 0) (.var 2))))) .nil)
def N_is_whole : List Str := ["value", "low", "high"]
def p_is_constraint : St := (.cons (.ite (.or (.not (.isi .tup (.var 1))) (.or (.eq (.len (.var 1)) (.int 0)) (.not (.isi .str (.ix (.var 1) (.int 0)))))) (.cons (.ret (.bl false)) .nil) .nil) (.cons (.ite (.eq (.ix (.var 1) (.int 0)) (.str "within")) (.cons (.ite (.or (.ne (.len (.var 1)) (.int 4)) (.not (.call 0 (.cons (.ix (.var 1) (.int 1)) (.cons (.int 0) (.cons (.sub (.var 0) (.int 1)) .nil)))))) (.cons (.ret (.bl false)) .nil) .nil) (.cons (.ret (.and (.call 0 (.cons (.ix (.var 1) (.int 2)) (.cons (.int 1) (.cons (.var 0) .nil)))) (.call 0 (.cons (.ix (.var 1) (.int 3)) (.cons (.ix (.var 1) (.int 2)) (.cons (.var 0) .nil)))))) .nil)) .nil) (.cons (.ite (.or (.ne (.ix (.var 1) (.int 0)) (.str "ahead")) (.ne (.len (.var 1)) (.int 3))) (.cons (.ret (.bl false)) .nil) .nil) (.cons (.ret (.and (.all (.lc false [2] (.itS (.sl (.var 1) (.part (.int 1)) .nil)) (.bl true) (.call 0 (.cons (.var 2) (.cons (.int 0) (.cons (.sub (.var 0) (.int 1)) .nil)))))) (.ne (.ix (.var 1) (.int 1)) (.ix (.var 1) (.int 2))))) .nil))))
def N_is_constraint : List Str := ["items", "value", "item"]
def p_is_problem : St := (.cons (.ite (.or (.not (.isi .tup (.var 0))) (.or (.ne (.len (.var 0)) (.int 2)) (.not (.call 0 (.cons (.ix (.var 0) (.int 0)) (.cons (.int 1) (.cons (.int 7) .nil))))))) (.cons (.ret (.bl false)) .nil) .nil) (.cons (.ite (.or (.not (.isi .tup (.ix (.var 0) (.int 1)))) (.gt (.len (.ix (.var 0) (.int 1))) (.int 12))) (.cons (.ret (.bl false)) .nil) .nil) (.cons (.ret (.all (.lc false [1] (.itS (.ix (.var 0) (.int 1))) (.bl true) (.call 1 (.cons (.ix (.var 0) (.int 0)) (.cons (.var 1) .nil)))))) .nil)))
def N_is_problem : List Str := ["value", "constraint"]
def p_is_ranking : St := (.cons (.ite (.or (.not (.isi .tup (.var 1))) (.ne (.len (.var 1)) (.var 0))) (.cons (.ret (.bl false)) .nil) .nil) (.cons (.ret (.all (.lc true [2, 3] (.itN (.var 1)) (.bl true) (.and (.call 0 (.cons (.var 3) (.cons (.int 0) (.cons (.sub (.var 0) (.int 1)) .nil)))) (.nmem (.var 3) (.sl (.var 1) .nil (.part (.var 2)))))))) .nil))
def N_is_ranking : List Str := ["items", "value", "at", "item"]
def p_holds : St := (.cons (.ite (.eq (.ix (.var 0) (.int 0)) (.str "ahead")) (.cons (.ret (.lt (.idx (.var 1) (.ix (.var 0) (.int 1))) (.idx (.var 1) (.ix (.var 0) (.int 2))))) .nil) .nil) (.cons (.ret (.chain (.ix (.var 0) (.int 2)) (.add (.idx (.var 1) (.ix (.var 0) (.int 1))) (.int 1)) (.ix (.var 0) (.int 3)))) .nil))
def N_holds : List Str := ["constraint", "ranking"]
def p_violated_by : St := (.cons (.ret (.lc true [2, 3] (.itN (.ix (.var 0) (.int 1))) (.not (.call 4 (.cons (.var 3) (.cons (.var 1) .nil)))) (.var 2))) .nil)
def N_violated_by : List Str := ["problem", "ranking", "at", "constraint"]
def p_is_good : St := (.cons (.ret (.eq (.len (.call 5 (.cons (.var 0) (.cons (.var 1) .nil)))) (.int 0))) .nil)
def N_is_good : List Str := ["problem", "ranking"]
def p_check_problem_problems : St := (.cons (.ite (.not (.call 2 (.cons (.var 0) .nil))) (.cons .never .nil) .nil) .nil)
def N_check_problem_problems : List Str := ["problem"]
def p_check_problem_windows : St := (.cons (.ite (.not (.call 2 (.cons (.var 0) .nil))) (.cons .never .nil) .nil) .nil)
def N_check_problem_windows : List Str := ["value"]
def p_is_between : St := (.cons (.ret (.and (.isi .int (.var 0)) (.and (.not (.isi .bool (.var 0))) (.chain (.var 1) (.var 0) (.var 2))))) .nil)
def N_is_between : List Str := ["value", "low", "high"]
def p_is_item : St := (.cons (.ret (.call 9 (.cons (.var 0) (.cons (.int 0) (.cons (.sub (.ix (.var 1) (.int 0)) (.int 1)) .nil))))) .nil)
def N_is_item : List Str := ["value", "problem"]
def p_given_low : St := (.cons (.set 2 (.lc false [3] (.itS (.ix (.var 0) (.int 1))) (.and (.eq (.ix (.var 3) (.int 0)) (.str "within")) (.eq (.ix (.var 3) (.int 1)) (.var 1))) (.ix (.var 3) (.int 2)))) (.cons (.ret (.mx (.add (.lst (.cons (.int 1) .nil)) (.var 2)))) .nil))
def N_given_low : List Str := ["problem", "item", "lows", "constraint"]
def p_given_high : St := (.cons (.set 2 (.lc false [3] (.itS (.ix (.var 0) (.int 1))) (.and (.eq (.ix (.var 3) (.int 0)) (.str "within")) (.eq (.ix (.var 3) (.int 1)) (.var 1))) (.ix (.var 3) (.int 3)))) (.cons (.ret (.mn (.add (.lst (.cons (.ix (.var 0) (.int 0)) .nil)) (.var 2)))) .nil))
def N_given_high : List Str := ["problem", "item", "highs", "constraint"]
def p_before : St := (.srt 2 3 (.itS (.ix (.var 0) (.int 1))) (.and (.eq (.ix (.var 3) (.int 0)) (.str "ahead")) (.eq (.ix (.var 3) (.int 2)) (.var 1))) (.ix (.var 3) (.int 1)))
def N_before : List Str := ["problem", "item", "found", "constraint"]
def p_behind : St := (.srt 2 3 (.itS (.ix (.var 0) (.int 1))) (.and (.eq (.ix (.var 3) (.int 0)) (.str "ahead")) (.eq (.ix (.var 3) (.int 1)) (.var 1))) (.ix (.var 3) (.int 2)))
def N_behind : List Str := ["problem", "item", "found", "constraint"]
def p_ordered : St := (.cons (.newL 1 (.lst .nil)) (.cons (.set 2 (.lstRg (.ix (.var 0) (.int 0)))) (.cons (.while_ (.var 2) (.cons (.set 3 (.lc false [4] (.itS (.var 2)) (.not (.any (.lc false [5] (.itS (.call 13 (.cons (.var 0) (.cons (.var 4) .nil)))) (.bl true) (.mem (.var 5) (.var 2))))) (.var 4))) (.cons (.ite (.not (.var 3)) (.cons (.ret (.var 1)) .nil) .nil) (.cons (.ext 1 (.var 3)) (.cons (.set 2 (.lc false [4] (.itS (.var 2)) (.nmem (.var 4) (.var 3)) (.var 4))) .nil))))) (.cons (.ret (.var 1)) .nil))))
def N_ordered : List Str := ["problem", "found", "left", "free", "item", "other"]
def p_is_cyclic : St := (.cons (.ret (.lt (.len (.call 15 (.cons (.var 0) .nil))) (.ix (.var 0) (.int 0)))) .nil)
def N_is_cyclic : List Str := ["problem"]
def p_earliest_of : St := (.cons (.newL 1 (.lc false [2] (.itR (.ix (.var 0) (.int 0))) (.bl true) (.call 11 (.cons (.var 0) (.cons (.var 2) .nil))))) (.cons (.for_ false [2] (.itS (.call 15 (.cons (.var 0) .nil))) (.cons (.sti 1 (.var 2) (.mx (.add (.lst (.cons (.ixM 1 (.var 2)) .nil)) (.lc false [3] (.itS (.call 13 (.cons (.var 0) (.cons (.var 2) .nil)))) (.bl true) (.add (.ixM 1 (.var 3)) (.int 1)))))) .nil)) (.cons (.ret (.var 1)) .nil)))
def N_earliest_of : List Str := ["problem", "found", "item", "other"]
def p_latest_of : St := (.cons (.newL 1 (.lc false [2] (.itR (.ix (.var 0) (.int 0))) (.bl true) (.call 12 (.cons (.var 0) (.cons (.var 2) .nil))))) (.cons (.for_ false [2] (.itV (.call 15 (.cons (.var 0) .nil))) (.cons (.sti 1 (.var 2) (.mn (.add (.lst (.cons (.ixM 1 (.var 2)) .nil)) (.lc false [3] (.itS (.call 14 (.cons (.var 0) (.cons (.var 2) .nil)))) (.bl true) (.sub (.ixM 1 (.var 3)) (.int 1)))))) .nil)) (.cons (.ret (.var 1)) .nil)))
def N_latest_of : List Str := ["problem", "found", "item", "other"]
def p_lower_chain : St := (.cons (.set 2 (.call 17 (.cons (.var 0) .nil))) (.cons (.set 3 (.tup (.cons (.var 1) .nil))) (.cons (.while_ (.ne (.call 11 (.cons (.var 0) (.cons (.ix (.var 3) (.int 0)) .nil))) (.ix (.var 2) (.ix (.var 3) (.int 0)))) (.cons (.set 4 (.lc false [5] (.itS (.call 13 (.cons (.var 0) (.cons (.ix (.var 3) (.int 0)) .nil)))) (.eq (.add (.ix (.var 2) (.var 5)) (.int 1)) (.ix (.var 2) (.ix (.var 3) (.int 0)))) (.var 5))) (.cons (.set 3 (.add (.tup (.cons (.ix (.var 4) (.int 0)) .nil)) (.var 3))) .nil))) (.cons (.ret (.var 3)) .nil))))
def N_lower_chain : List Str := ["problem", "item", "earliest", "chain", "near", "other"]
def p_upper_chain : St := (.cons (.set 2 (.call 18 (.cons (.var 0) .nil))) (.cons (.set 3 (.tup (.cons (.var 1) .nil))) (.cons (.while_ (.ne (.call 12 (.cons (.var 0) (.cons (.ix (.var 3) (.neg (.int 1))) .nil))) (.ix (.var 2) (.ix (.var 3) (.neg (.int 1))))) (.cons (.set 4 (.lc false [5] (.itS (.call 14 (.cons (.var 0) (.cons (.ix (.var 3) (.neg (.int 1))) .nil)))) (.eq (.sub (.ix (.var 2) (.var 5)) (.int 1)) (.ix (.var 2) (.ix (.var 3) (.neg (.int 1))))) (.var 5))) (.cons (.set 3 (.add (.var 3) (.tup (.cons (.ix (.var 4) (.int 0)) .nil)))) .nil))) (.cons (.ret (.var 3)) .nil))))
def N_upper_chain : List Str := ["problem", "item", "latest", "chain", "near", "other"]
def p_is_chain : St := (.cons (.ite (.or (.not (.isi .tup (.var 1))) (.or (.eq (.len (.var 1)) (.int 0)) (.not (.all (.lc false [4] (.itS (.var 1)) (.bl true) (.call 10 (.cons (.var 4) (.cons (.var 0) .nil)))))))) (.cons (.ret (.bl false)) .nil) .nil) (.cons (.ret (.all (.lc true [2, 3] (.itZ (.var 1) (.sl (.var 1) (.part (.int 1)) .nil)) (.bl true) (.mem (.tup (.cons (.str "ahead") (.cons (.var 2) (.cons (.var 3) .nil)))) (.ix (.var 0) (.int 1)))))) .nil))
def N_is_chain : List Str := ["problem", "value", "one", "other", "item"]
def p_cycles_from : St := (.cons (.set 2 (.lst (.cons (.tup (.cons (.var 1) .nil)) .nil))) (.cons (.while_ (.var 2) (.cons (.set 3 (.lc false [5] (.itS (.var 2)) (.mem (.var 1) (.call 14 (.cons (.var 0) (.cons (.ix (.var 5) (.neg (.int 1))) .nil)))) (.add (.var 5) (.tup (.cons (.var 1) .nil))))) (.cons (.ite (.var 3) (.cons (.ret (.var 3)) .nil) .nil) (.cons (.newL 4 (.lst .nil)) (.cons (.for_ false [5] (.itS (.var 2)) (.cons (.ext 4 (.lc false [6] (.itS (.call 14 (.cons (.var 0) (.cons (.ix (.var 5) (.neg (.int 1))) .nil)))) (.and (.gt (.var 6) (.var 1)) (.nmem (.var 6) (.var 5))) (.add (.var 5) (.tup (.cons (.var 6) .nil))))) .nil)) (.cons (.cpy 2 4) .nil)))))) (.cons (.ret (.lst .nil)) .nil)))
def N_cycles_from : List Str := ["problem", "item", "rows", "found", "longer", "row", "other"]
def p_cycle_of : St := (.cons (.newL 1 (.lst .nil)) (.cons (.for_ false [2] (.itR (.ix (.var 0) (.int 0))) (.cons (.ext 1 (.lc false [3] (.itS (.call 22 (.cons (.var 0) (.cons (.var 2) .nil)))) (.bl true) (.tup (.cons (.len (.var 3)) (.cons (.var 3) .nil))))) .nil)) (.cons (.ret (.ite (.var 1) (.ix (.mn (.var 1)) (.int 1)) .non)) .nil)))
def N_cycle_of : List Str := ["problem", "found", "item", "row"]
def p_places_of : St := (.cons (.ret (.mx2 (.int 0) (.add (.sub (.var 1) (.var 0)) (.int 1)))) .nil)
def N_places_of : List Str := ["low", "high"]
def p_intervals_of : St := (.cons (.set 1 (.call 17 (.cons (.var 0) .nil))) (.cons (.set 2 (.call 18 (.cons (.var 0) .nil))) (.cons (.newL 3 (.lst .nil)) (.cons (.for_ false [4] (.itRg (.int 1) (.add (.ix (.var 0) (.int 0)) (.int 2))) (.cons (.set 5 (.lc false [7] (.itR (.ix (.var 0) (.int 0))) (.ge (.ix (.var 1) (.var 7)) (.var 4)) (.var 7))) (.cons (.for_ false [6] (.itR (.add (.ix (.var 0) (.int 0)) (.int 1))) (.cons (.app 3 (.tup (.cons (.var 4) (.cons (.var 6) (.cons (.tupOf (.lc false [7] (.itS (.var 5)) (.le (.ix (.var 2) (.var 7)) (.var 6)) (.var 7))) .nil))))) .nil)) .nil))) (.cons (.ret (.var 3)) .nil)))))
def N_intervals_of : List Str := ["problem", "earliest", "latest", "found", "low", "late", "high", "item"]
def p_told_contradiction : St := (.cons (.ite (.call 16 (.cons (.var 0) .nil)) (.cons (.ret (.tup (.cons (.str "cycle") (.cons (.call 23 (.cons (.var 0) .nil)) .nil)))) .nil) .nil) (.cons (.for_ false [1, 2, 3] (.itS (.call 25 (.cons (.var 0) .nil))) (.cons (.ite (.gt (.len (.var 3)) (.call 24 (.cons (.var 1) (.cons (.var 2) .nil)))) (.cons (.set 4 (.lc false [5] (.itS (.var 3)) (.bl true) (.tup (.cons (.var 5) (.cons (.call 19 (.cons (.var 0) (.cons (.var 5) .nil))) (.cons (.call 20 (.cons (.var 0) (.cons (.var 5) .nil))) .nil)))))) (.cons (.ret (.tup (.cons (.str "overfull") (.cons (.var 1) (.cons (.var 2) (.cons (.tupOf (.var 4)) .nil)))))) .nil)) .nil) .nil)) (.cons (.ret .non) .nil)))
def N_told_contradiction : List Str := ["problem", "low", "high", "items", "rows", "item"]
def p_shows_low : St := (.cons (.ret (.and (.call 21 (.cons (.var 0) (.cons (.var 3) .nil))) (.and (.eq (.ix (.var 3) (.neg (.int 1))) (.var 1)) (.ge (.sub (.add (.call 11 (.cons (.var 0) (.cons (.ix (.var 3) (.int 0)) .nil))) (.len (.var 3))) (.int 1)) (.var 2))))) .nil)
def N_shows_low : List Str := ["problem", "item", "low", "value"]
def p_shows_high : St := (.cons (.ret (.and (.call 21 (.cons (.var 0) (.cons (.var 3) .nil))) (.and (.eq (.ix (.var 3) (.int 0)) (.var 1)) (.le (.add (.sub (.call 12 (.cons (.var 0) (.cons (.ix (.var 3) (.neg (.int 1))) .nil))) (.len (.var 3))) (.int 1)) (.var 2))))) .nil)
def N_shows_high : List Str := ["problem", "item", "high", "value"]
def p_is_row : St := (.cons (.ite (.or (.not (.isi .tup (.var 3))) (.or (.ne (.len (.var 3)) (.int 3)) (.not (.call 10 (.cons (.ix (.var 3) (.int 0)) (.cons (.var 0) .nil)))))) (.cons (.ret (.bl false)) .nil) .nil) (.cons (.ret (.and (.call 27 (.cons (.var 0) (.cons (.ix (.var 3) (.int 0)) (.cons (.var 1) (.cons (.ix (.var 3) (.int 1)) .nil))))) (.call 28 (.cons (.var 0) (.cons (.ix (.var 3) (.int 0)) (.cons (.var 2) (.cons (.ix (.var 3) (.int 2)) .nil))))))) .nil))
def N_is_row : List Str := ["problem", "low", "high", "value"]
def p_is_overfull : St := (.cons (.ite (.or (.not (.all (.lc false [6] (.itS (.tup (.cons (.var 1) (.cons (.var 2) .nil)))) (.bl true) (.call 9 (.cons (.var 6) (.cons (.neg (.int 20)) (.cons (.int 20) .nil))))))) (.not (.isi .tup (.var 3)))) (.cons (.ret (.bl false)) .nil) .nil) (.cons (.ite (.not (.all (.lc false [4] (.itS (.var 3)) (.bl true) (.call 29 (.cons (.var 0) (.cons (.var 1) (.cons (.var 2) (.cons (.var 4) .nil)))))))) (.cons (.ret (.bl false)) .nil) .nil) (.cons (.ite (.not (.all (.lc false [5] (.itR (.sub (.len (.var 3)) (.int 1))) (.bl true) (.lt (.ix (.ix (.var 3) (.var 5)) (.int 0)) (.ix (.ix (.var 3) (.add (.var 5) (.int 1))) (.int 0)))))) (.cons (.ret (.bl false)) .nil) .nil) (.cons (.ret (.gt (.len (.var 3)) (.call 24 (.cons (.var 1) (.cons (.var 2) .nil))))) .nil))))
def N_is_overfull : List Str := ["problem", "low", "high", "rows", "row", "at", "bound"]
def p_is_contradiction : St := (.cons (.ite (.or (.not (.isi .tup (.var 1))) (.or (.not (.var 1)) (.not (.isi .str (.ix (.var 1) (.int 0)))))) (.cons (.ret (.bl false)) .nil) .nil) (.cons (.ite (.eq (.ix (.var 1) (.int 0)) (.str "cycle")) (.cons (.ret (.and (.eq (.len (.var 1)) (.int 2)) (.and (.call 21 (.cons (.var 0) (.cons (.ix (.var 1) (.int 1)) .nil))) (.and (.gt (.len (.ix (.var 1) (.int 1))) (.int 1)) (.eq (.ix (.ix (.var 1) (.int 1)) (.int 0)) (.ix (.ix (.var 1) (.int 1)) (.neg (.int 1)))))))) .nil) .nil) (.cons (.ret (.and (.eq (.ix (.var 1) (.int 0)) (.str "overfull")) (.and (.eq (.len (.var 1)) (.int 4)) (.call 30 (.cons (.var 0) (.cons (.ix (.var 1) (.int 1)) (.cons (.ix (.var 1) (.int 2)) (.cons (.ix (.var 1) (.int 3)) .nil)))))))) .nil)))
def N_is_contradiction : List Str := ["problem", "value"]
def p_accepts_contradiction : St := (.cons (.exp (.call 8 (.cons (.var 0) .nil))) (.cons (.ret (.call 31 (.cons (.var 0) (.cons (.var 1) .nil)))) .nil))
def N_accepts_contradiction : List Str := ["problem", "value"]
def p_are_indexes : St := (.cons (.ite (.or (.not (.isi .tup (.var 1))) (.not (.all (.lc false [3] (.itS (.var 1)) (.bl true) (.call 0 (.cons (.var 3) (.cons (.int 0) (.cons (.sub (.len (.ix (.var 0) (.int 1))) (.int 1)) .nil)))))))) (.cons (.ret (.bl false)) .nil) .nil) (.cons (.ret (.all (.lc false [2] (.itR (.sub (.len (.var 1)) (.int 1))) (.bl true) (.lt (.ix (.var 1) (.var 2)) (.ix (.var 1) (.add (.var 2) (.int 1))))))) .nil))
def N_are_indexes : List Str := ["problem", "value", "at", "one"]
def p_check_indexes : St := (.cons (.exp (.call 7 (.cons (.var 0) .nil))) (.cons (.ite (.not (.call 33 (.cons (.var 0) (.cons (.var 1) .nil)))) (.cons .never .nil) .nil) .nil))
def N_check_indexes : List Str := ["problem", "indexes"]
def p_part_of : St := (.cons (.ret (.tup (.cons (.ix (.var 0) (.int 0)) (.cons (.tupOf (.lc false [2] (.itS (.var 1)) (.bl true) (.ix (.ix (.var 0) (.int 1)) (.var 2)))) .nil)))) .nil)
def N_part_of : List Str := ["problem", "indexes", "index"]
def p_part : St := (.cons (.exp (.call 34 (.cons (.var 0) (.cons (.var 1) .nil)))) (.cons (.ret (.call 35 (.cons (.var 0) (.cons (.var 1) .nil)))) .nil))
def N_part : List Str := ["problem", "indexes"]
def p_found_by_deadlines : St := (.cons (.ite (.call 16 (.cons (.var 0) .nil)) (.cons (.ret .non) .nil) .nil) (.cons (.set 1 (.call 17 (.cons (.var 0) .nil))) (.cons (.set 2 (.call 18 (.cons (.var 0) .nil))) (.cons (.set 3 (.tup .nil)) (.cons (.for_ false [4] (.itRg (.int 1) (.add (.ix (.var 0) (.int 0)) (.int 1))) (.cons (.set 5 (.lc false [6] (.itR (.ix (.var 0) (.int 0))) (.and (.nmem (.var 6) (.var 3)) (.le (.ix (.var 1) (.var 6)) (.var 4))) (.tup (.cons (.ix (.var 2) (.var 6)) (.cons (.var 6) .nil))))) (.cons (.ite (.not (.var 5)) (.cons (.ret .non) .nil) .nil) (.cons (.set 3 (.add (.var 3) (.tup (.cons (.ix (.mn (.var 5)) (.int 1)) .nil)))) .nil)))) (.cons (.ret (.ite (.call 6 (.cons (.var 0) (.cons (.var 3) .nil))) (.var 3) .non)) .nil))))))
def N_found_by_deadlines : List Str := ["problem", "earliest", "latest", "found", "place", "ready", "item"]
def p_can_hold : St := (.cons (.ret (.isN (.call 26 (.cons (.call 35 (.cons (.var 0) (.cons (.var 1) .nil))) .nil)))) .nil)
def N_can_hold : List Str := ["problem", "indexes"]
def p_less : St := (.cons (.ret (.tupOf (.lc false [2] (.itS (.var 0)) (.ne (.var 2) (.var 1)) (.var 2)))) .nil)
def N_less : List Str := ["indexes", "index", "one"]
def p_is_conflict : St := (.cons (.ite (.call 38 (.cons (.var 0) (.cons (.var 1) .nil))) (.cons (.ret (.bl false)) .nil) .nil) (.cons (.ret (.all (.lc false [2] (.itS (.var 1)) (.bl true) (.call 38 (.cons (.var 0) (.cons (.call 39 (.cons (.var 1) (.cons (.var 2) .nil))) .nil)))))) .nil))
def N_is_conflict : List Str := ["problem", "indexes", "index"]
def p_accepts_conflict : St := (.cons (.exp (.call 34 (.cons (.var 0) (.cons (.var 1) .nil)))) (.cons (.ite (.or (.not (.isi .tup (.var 2))) (.or (.ne (.len (.var 2)) (.int 2)) (.not (.call 31 (.cons (.call 35 (.cons (.var 0) (.cons (.var 1) .nil))) (.cons (.ix (.var 2) (.int 0)) .nil)))))) (.cons (.ret (.bl false)) .nil) .nil) (.cons (.ite (.or (.not (.isi .tup (.ix (.var 2) (.int 1)))) (.ne (.len (.ix (.var 2) (.int 1))) (.len (.var 1)))) (.cons (.ret (.bl false)) .nil) .nil) (.cons (.for_ true [3, 4] (.itZ (.var 1) (.ix (.var 2) (.int 1))) (.cons (.ite (.or (.not (.call 3 (.cons (.ix (.var 0) (.int 0)) (.cons (.var 4) .nil)))) (.not (.call 6 (.cons (.call 35 (.cons (.var 0) (.cons (.call 39 (.cons (.var 1) (.cons (.var 3) .nil))) .nil))) (.cons (.var 4) .nil))))) (.cons (.ret (.bl false)) .nil) .nil) .nil)) (.cons (.ret (.bl true)) .nil)))))
def N_accepts_conflict : List Str := ["problem", "indexes", "value", "index", "ranking"]
def p_others_of : St := (.cons (.ret (.tupOf (.lc false [2] (.itR (.len (.ix (.var 0) (.int 1)))) (.nmem (.var 2) (.var 1)) (.var 2)))) .nil)
def N_others_of : List Str := ["problem", "indexes", "index"]
def p_kept_with : St := (.cons (.ret (.call 42 (.cons (.var 0) (.cons (.call 39 (.cons (.var 1) (.cons (.var 2) .nil))) .nil)))) .nil)
def N_kept_with : List Str := ["problem", "indexes", "index"]
def p_is_correction : St := (.cons (.ite (.not (.call 38 (.cons (.var 0) (.cons (.call 42 (.cons (.var 0) (.cons (.var 1) .nil))) .nil)))) (.cons (.ret (.bl false)) .nil) .nil) (.cons (.ret (.not (.any (.lc false [2] (.itS (.var 1)) (.bl true) (.call 38 (.cons (.var 0) (.cons (.call 43 (.cons (.var 0) (.cons (.var 1) (.cons (.var 2) .nil)))) .nil))))))) .nil))
def N_is_correction : List Str := ["problem", "indexes", "index"]
def p_accepts_correction : St := (.cons (.exp (.call 34 (.cons (.var 0) (.cons (.var 1) .nil)))) (.cons (.ite (.or (.not (.isi .tup (.var 2))) (.or (.ne (.len (.var 2)) (.int 2)) (.not (.call 3 (.cons (.ix (.var 0) (.int 0)) (.cons (.ix (.var 2) (.int 0)) .nil)))))) (.cons (.ret (.bl false)) .nil) .nil) (.cons (.ite (.not (.call 6 (.cons (.call 35 (.cons (.var 0) (.cons (.call 42 (.cons (.var 0) (.cons (.var 1) .nil))) .nil))) (.cons (.ix (.var 2) (.int 0)) .nil)))) (.cons (.ret (.bl false)) .nil) .nil) (.cons (.ite (.or (.not (.isi .tup (.ix (.var 2) (.int 1)))) (.ne (.len (.ix (.var 2) (.int 1))) (.len (.var 1)))) (.cons (.ret (.bl false)) .nil) .nil) (.cons (.for_ true [3, 4] (.itZ (.var 1) (.ix (.var 2) (.int 1))) (.cons (.ite (.not (.call 31 (.cons (.call 35 (.cons (.var 0) (.cons (.call 43 (.cons (.var 0) (.cons (.var 1) (.cons (.var 3) .nil)))) .nil))) (.cons (.var 4) .nil)))) (.cons (.ret (.bl false)) .nil) .nil) .nil)) (.cons (.ret (.bl true)) .nil))))))
def N_accepts_correction : List Str := ["problem", "indexes", "value", "index", "told"]
def p_law_is_integer : St := (.cons (.ret (.and (.isi .int (.var 0)) (.not (.isi .bool (.var 0))))) .nil)
def N_law_is_integer : List Str := ["_law_actual"]
def p_law_equal : St := (.cons (.ite (.isN (.var 1)) (.cons (.ret (.isN (.var 0))) .nil) .nil) (.cons (.ite (.isi .bool (.var 1)) (.cons (.ret (.and (.isi .bool (.var 0)) (.eq (.var 0) (.var 1)))) .nil) .nil) (.cons (.ite (.isi .int (.var 1)) (.cons (.ret (.and (.call 46 (.cons (.var 0) .nil)) (.eq (.var 0) (.var 1)))) .nil) .nil) (.cons (.ite (.isi .str (.var 1)) (.cons (.ret (.and (.isi .str (.var 0)) (.eq (.var 0) (.var 1)))) .nil) .nil) (.cons (.ite (.and (.isi .tup (.var 1)) (.not (.isi .tup (.var 0)))) (.cons (.ret (.bl false)) .nil) .nil) (.cons (.ite (.and (.isi .lst (.var 1)) (.not (.isi .lst (.var 0)))) (.cons (.ret (.bl false)) .nil) .nil) (.cons (.ite (.ne (.len (.var 0)) (.len (.var 1))) (.cons (.ret (.bl false)) .nil) .nil) (.cons (.ret (.all (.lc false [2] (.itR (.len (.var 1))) (.bl true) (.call 47 (.cons (.ix (.var 0) (.var 2)) (.cons (.ix (.var 1) (.var 2)) .nil)))))) .nil))))))))
def N_law_equal : List Str := ["_law_actual", "_law_due", "_law_at"]
def p_law_holds : St := (.cons (.ite (.eq (.ix (.var 0) (.int 0)) (.str "ahead")) (.cons (.ret (.lt (.idx (.var 1) (.ix (.var 0) (.int 1))) (.idx (.var 1) (.ix (.var 0) (.int 2))))) .nil) .nil) (.cons (.ret (.chain (.ix (.var 0) (.int 2)) (.add (.idx (.var 1) (.ix (.var 0) (.int 1))) (.int 1)) (.ix (.var 0) (.int 3)))) .nil))
def N_law_holds : List Str := ["_law_constraint_here", "_law_ranking"]
def p_law_rankings : St := (.cons (.set 1 (.lst (.cons (.tup .nil) .nil))) (.cons (.for_ false [2] (.itR (.var 0)) (.cons (.newL 3 (.lst .nil)) (.cons (.for_ false [4] (.itS (.var 1)) (.cons (.ext 3 (.lc false [5] (.itR (.var 0)) (.nmem (.var 5) (.var 4)) (.add (.var 4) (.tup (.cons (.var 5) .nil))))) .nil)) (.cons (.cpy 1 3) .nil)))) (.cons (.ret (.var 1)) .nil)))
def N_law_rankings : List Str := ["_law_many", "_law_rows", "_law_turn", "_law_longer", "_law_row", "_law_item"]
def p_law_is_good : St := (.cons (.ite (.or (.not (.isi .tup (.var 2))) (.or (.ne (.len (.var 2)) (.var 0)) (.not (.all (.lc false [3] (.itS (.var 2)) (.bl true) (.call 46 (.cons (.var 3) .nil))))))) (.cons (.ret (.bl false)) .nil) .nil) (.cons (.ret (.and (.eq (.sort (.var 2)) (.lstRg (.var 0))) (.all (.lc false [3] (.itS (.var 1)) (.bl true) (.call 48 (.cons (.var 3) (.cons (.var 2) .nil))))))) .nil))
def N_law_is_good : List Str := ["_law_items", "_law_constraints", "_law_value", "_law_one"]
def p_law_chosen : St := (.cons (.ret (.lc false [2] (.itS (.var 1)) (.bl true) (.ix (.ix (.var 0) (.int 1)) (.var 2)))) .nil)
def N_law_chosen : List Str := ["_law_problem_here", "_law_indexes", "_law_index"]
def p_law_without : St := (.cons (.ret (.tupOf (.lc false [2] (.itS (.var 0)) (.ne (.var 2) (.var 1)) (.var 2)))) .nil)
def N_law_without : List Str := ["_law_indexes", "_law_index", "_law_one"]
def p_law_rest : St := (.cons (.ret (.tupOf (.lc false [2] (.itR (.len (.ix (.var 0) (.int 1)))) (.nmem (.var 2) (.var 1)) (.var 2)))) .nil)
def N_law_rest : List Str := ["_law_problem_here", "_law_indexes", "_law_one"]
def p_law_conflict : St := (.cons (.ite (.or (.not (.isi .tup (.var 2))) (.or (.ne (.len (.var 2)) (.int 2)) (.not (.call 32 (.cons (.call 36 (.cons (.var 0) (.cons (.var 1) .nil))) (.cons (.ix (.var 2) (.int 0)) .nil)))))) (.cons (.ret (.bl false)) .nil) .nil) (.cons (.ite (.or (.not (.isi .tup (.ix (.var 2) (.int 1)))) (.ne (.len (.ix (.var 2) (.int 1))) (.len (.var 1)))) (.cons (.ret (.bl false)) .nil) .nil) (.cons (.set 3 (.lc false [4] (.itS (.var 1)) (.bl true) (.call 51 (.cons (.var 0) (.cons (.call 52 (.cons (.var 1) (.cons (.var 4) .nil))) .nil))))) (.cons (.ret (.all (.lc false [5] (.itR (.len (.var 3))) (.bl true) (.call 50 (.cons (.ix (.var 0) (.int 0)) (.cons (.ix (.var 3) (.var 5)) (.cons (.ix (.ix (.var 2) (.int 1)) (.var 5)) .nil))))))) .nil))))
def N_law_conflict : List Str := ["_law_problem_here", "_law_indexes", "_law_value", "_law_rows", "_law_index", "_law_k"]
def p_law_correction : St := (.cons (.ite (.or (.not (.isi .tup (.var 2))) (.or (.ne (.len (.var 2)) (.int 2)) (.not (.call 50 (.cons (.ix (.var 0) (.int 0)) (.cons (.call 51 (.cons (.var 0) (.cons (.call 53 (.cons (.var 0) (.cons (.var 1) .nil))) .nil))) (.cons (.ix (.var 2) (.int 0)) .nil))))))) (.cons (.ret (.bl false)) .nil) .nil) (.cons (.ite (.or (.not (.isi .tup (.ix (.var 2) (.int 1)))) (.ne (.len (.ix (.var 2) (.int 1))) (.len (.var 1)))) (.cons (.ret (.bl false)) .nil) .nil) (.cons (.set 3 (.lc false [4] (.itS (.var 1)) (.bl true) (.call 53 (.cons (.var 0) (.cons (.call 52 (.cons (.var 1) (.cons (.var 4) .nil))) .nil))))) (.cons (.ret (.all (.lc false [5] (.itR (.len (.var 3))) (.bl true) (.call 32 (.cons (.call 36 (.cons (.var 0) (.cons (.ix (.var 3) (.var 5)) .nil))) (.cons (.ix (.ix (.var 2) (.int 1)) (.var 5)) .nil)))))) .nil))))
def N_law_correction : List Str := ["_law_problem_here", "_law_indexes", "_law_value", "_law_rows", "_law_index", "_law_k"]
def TB : List FnD := [⟨"is_whole", 3, N_is_whole, p_is_whole⟩, ⟨"is_constraint", 2, N_is_constraint, p_is_constraint⟩, ⟨"is_problem", 1, N_is_problem, p_is_problem⟩, ⟨"is_ranking", 2, N_is_ranking, p_is_ranking⟩, ⟨"holds", 2, N_holds, p_holds⟩, ⟨"violated_by", 2, N_violated_by, p_violated_by⟩, ⟨"is_good", 2, N_is_good, p_is_good⟩, ⟨"check_problem_problems", 1, N_check_problem_problems, p_check_problem_problems⟩, ⟨"check_problem_windows", 1, N_check_problem_windows, p_check_problem_windows⟩, ⟨"is_between", 3, N_is_between, p_is_between⟩, ⟨"is_item", 2, N_is_item, p_is_item⟩, ⟨"given_low", 2, N_given_low, p_given_low⟩, ⟨"given_high", 2, N_given_high, p_given_high⟩, ⟨"before", 2, N_before, p_before⟩, ⟨"behind", 2, N_behind, p_behind⟩, ⟨"ordered", 1, N_ordered, p_ordered⟩, ⟨"is_cyclic", 1, N_is_cyclic, p_is_cyclic⟩, ⟨"earliest_of", 1, N_earliest_of, p_earliest_of⟩, ⟨"latest_of", 1, N_latest_of, p_latest_of⟩, ⟨"lower_chain", 2, N_lower_chain, p_lower_chain⟩, ⟨"upper_chain", 2, N_upper_chain, p_upper_chain⟩, ⟨"is_chain", 2, N_is_chain, p_is_chain⟩, ⟨"cycles_from", 2, N_cycles_from, p_cycles_from⟩, ⟨"cycle_of", 1, N_cycle_of, p_cycle_of⟩, ⟨"places_of", 2, N_places_of, p_places_of⟩, ⟨"intervals_of", 1, N_intervals_of, p_intervals_of⟩, ⟨"told_contradiction", 1, N_told_contradiction, p_told_contradiction⟩, ⟨"shows_low", 4, N_shows_low, p_shows_low⟩, ⟨"shows_high", 4, N_shows_high, p_shows_high⟩, ⟨"is_row", 4, N_is_row, p_is_row⟩, ⟨"is_overfull", 4, N_is_overfull, p_is_overfull⟩, ⟨"is_contradiction", 2, N_is_contradiction, p_is_contradiction⟩, ⟨"accepts_contradiction", 2, N_accepts_contradiction, p_accepts_contradiction⟩, ⟨"are_indexes", 2, N_are_indexes, p_are_indexes⟩, ⟨"check_indexes", 2, N_check_indexes, p_check_indexes⟩, ⟨"part_of", 2, N_part_of, p_part_of⟩, ⟨"part", 2, N_part, p_part⟩, ⟨"found_by_deadlines", 1, N_found_by_deadlines, p_found_by_deadlines⟩, ⟨"can_hold", 2, N_can_hold, p_can_hold⟩, ⟨"less", 2, N_less, p_less⟩, ⟨"is_conflict", 2, N_is_conflict, p_is_conflict⟩, ⟨"accepts_conflict", 3, N_accepts_conflict, p_accepts_conflict⟩, ⟨"others_of", 2, N_others_of, p_others_of⟩, ⟨"kept_with", 3, N_kept_with, p_kept_with⟩, ⟨"is_correction", 2, N_is_correction, p_is_correction⟩, ⟨"accepts_correction", 3, N_accepts_correction, p_accepts_correction⟩, ⟨"_law_is_integer", 1, N_law_is_integer, p_law_is_integer⟩, ⟨"_law_equal", 2, N_law_equal, p_law_equal⟩, ⟨"_law_holds", 2, N_law_holds, p_law_holds⟩, ⟨"_law_rankings", 1, N_law_rankings, p_law_rankings⟩, ⟨"_law_is_good", 3, N_law_is_good, p_law_is_good⟩, ⟨"_law_chosen", 2, N_law_chosen, p_law_chosen⟩, ⟨"_law_without", 2, N_law_without, p_law_without⟩, ⟨"_law_rest", 2, N_law_rest, p_law_rest⟩, ⟨"_law_conflict", 3, N_law_conflict, p_law_conflict⟩, ⟨"_law_correction", 3, N_law_correction, p_law_correction⟩]
def WN : Nat := 1000
end R60

end -- D15
section -- D16
set_option Elab.async false
set_option linter.all false
set_option maxRecDepth 100000
set_option maxHeartbeats 4000000
/-! The defs that draw: a second small language, told by what is wanted of every draw (weakest preconditions). -/
namespace R60
open PySem PySem.Spec PyProof.Rows L2 RZ
open Evl (Ex)
/-- all but the stream's list is as it was -/
def ExS (st : Addr) (H H2 : Hp) : Prop := ∀ a o, a ≠ st → H a = some o → H2 a = some o
/-- the stream: the list of the script's ints, what is left of a cell, the next cell -/
def Sm (st sp : Addr) (H : Hp) : Prop := ∃ (xs : List Int) (c k : Int), H st = some (.lst [.ref sp, .int c, .int k]) ∧ H sp = some (.lst (xs.map V.int)) ∧ 0 ≤ k
section
variable {st sp : Addr} {H H1 H2 : Hp} {M own : List Addr} {σ : L2.St} {ρ : List Sl}
theorem ExS.refl : ExS st H H := fun _ _ _ h => h
theorem ExS.of (e : Ex H H1) : ExS st H H1 := fun a o _ h => e a o h
theorem ExS.trans (a : ExS st H H1) (b : ExS st H1 H2) : ExS st H H2 := fun x o hx h => b x o hx (a x o hx h)
theorem ExS.hide (e : ExS st H H1) (h : st ∈ M) : Ex (hide M H) (hide M H1) := fun a o q => by
  have hq := hide_ex a o q
  have ha : a ∉ M := fun z => by rw [hide_in z] at q; cases q
  rw [hide_out ha]
  exact e a o (fun z => ha (by rw [z]; exact h)) hq
theorem Sm.ne (s : Sm st sp H) : sp ≠ st := fun e => by
  obtain ⟨xs, c, k, h1, h2, _⟩ := s
  rw [e] at h2
  rw [h1] at h2
  cases xs with
  | nil => cases h2
  | cons x xs => cases h2
theorem Sm.up (s : Sm st sp H) (e : Ex H H1) : Sm st sp H1 := let ⟨xs, c, k, h1, h2, h3⟩ := s; ⟨xs, c, k, e _ _ h1, e _ _ h2, h3⟩
structure Sx (own M : List Addr) (st sp : Addr) (σ : L2.St) (H : Hp) (ρ : List Sl) : Prop where
  se : SE own M σ H ρ
  al : Al M H
  sm : Sm st sp H
  hst : st ∈ M
  hsp : sp ∈ M
  no : st ∉ own
  fx : ∀ (i : Nat) (w : V), ρ[i]? = some (.fix w) → w = .ref st
theorem SE.ups (h : SE own M σ H ρ) (e : ExS st H H1) (hst : st ∈ M) (no : st ∉ own) : SE own M σ H1 ρ := ⟨h.len, fun i s hs => by
  obtain ⟨x, h1, h2⟩ := h.at_ i s hs
  refine ⟨x, h1, ?_⟩
  cases s with
  | no => unfold SlOk; trivial
  | dat d =>
    cases x with
    | none => exact h2.elim
    | some v => exact Rp.up (e.hide hst) h2
  | fix w =>
    cases x with
    | none => exact h2.elim
    | some v => exact SlOk.fixI (SlOk.fixE h2)
  | «mut» cs =>
    obtain ⟨p', vs', g3, g5, g4, g6⟩ := h.mut hs
    rw [g3] at h1
    cases h1
    exact ⟨g5, vs', e p' _ (fun z => no (by rw [← z]; exact g5)) g4, g6.up (e.hide hst)⟩⟩
theorem Al.ups (a : Al M H) (e : ExS st H H1) (s : Sm st sp H1) : Al M H1 := fun m hm => by
  by_cases c : m = st
  · obtain ⟨xs, x, k, h1, _⟩ := s
    rw [c, h1]; simp
  · cases q : H m with
    | none => exact absurd q (a m hm)
    | some o => rw [e m o c q]; simp
theorem Sx.up (s : Sx own M st sp σ H ρ) (e : ExS st H H1) (sm : Sm st sp H1) : Sx own M st sp σ H1 ρ := ⟨s.se.ups e s.hst s.no, s.al.ups e sm, sm, s.hst, s.hsp, s.no, s.fx⟩
theorem Sx.upE (s : Sx own M st sp σ H ρ) (e : Ex H H1) : Sx own M st sp σ H1 ρ := ⟨s.se.up e, s.al.up e, s.sm.up e, s.hst, s.hsp, s.no, s.fx⟩
end
inductive Dx where
  | pu (x : Xp)
  | dr (si f : Nat) (a : Dx)
  | nil | cons (a b : Dx)
  | tup (a : Dx) | lst (a : Dx)
  | add (a b : Dx) | ix (a b : Dx) | eq (a b : Dx) | and (a b : Dx)
  | its (x : Xp) | itr (n : Dx)
  | tlc (j : Nat) (it t e : Dx)
def wlc (bind : PyData → List Sl) (t e : List Sl → (PyData → Prop) → Prop) : List PyData → (List PyData → Prop) → Prop
  | [], Q => Q []
  | d :: ds, Q => t (bind d) fun x => ∃ c, truD x = some c ∧ ((c = true → e (bind d) fun y => wlc bind t e ds fun r => Q (y :: r)) ∧ (c = false → wlc bind t e ds Q))
/-- what is wanted of the drawing defs, by their numbers -/
abbrev Gs := Nat → List PyData → (PyData → Prop) → Prop
def ixG (x y : PyData) : Option PyData := (intOfD y).bind fun i => ixD x i
def wD (F : Fs) (G : Gs) : Dx → List Sl → (PyData → Prop) → Prop
  | .pu x, ρ, P => ∃ d, ev F x ρ = some d ∧ P d
  | .dr si f a, ρ, P => (∃ w, ρ[si]? = some (.fix w)) ∧ wD F G a ρ fun x => ∃ ds, x = .tuple ds ∧ G f ds P
  | .nil, _, P => P (.tuple [])
  | .cons a b, ρ, P => wD F G a ρ fun x => wD F G b ρ fun y => ∃ ds, y = .tuple ds ∧ P (.tuple (x :: ds))
  | .tup a, ρ, P => wD F G a ρ fun x => ∃ ds, x = .tuple ds ∧ ds.length ≤ 100000 ∧ P (.tuple ds)
  | .lst a, ρ, P => wD F G a ρ fun x => ∃ ds, x = .tuple ds ∧ ds.length ≤ 100000 ∧ P (.list ds)
  | .add a b, ρ, P => wD F G a ρ fun x => wD F G b ρ fun y => ∃ d, addD x y = some d ∧ P d
  | .ix a b, ρ, P => wD F G a ρ fun x => wD F G b ρ fun y => ∃ d, ixG x y = some d ∧ P d
  | .eq a b, ρ, P => wD F G a ρ fun x => wD F G b ρ fun y => ∃ c, eqD x y = some c ∧ P (.bool c)
  | .and a b, ρ, P => wD F G a ρ fun x => ∃ c, x = .bool c ∧ ((c = true → wD F G b ρ P) ∧ (c = false → P (.bool false)))
  | .its x, ρ, P => ∃ items, evA F x ρ = some items ∧ P (.tuple items)
  | .itr n, ρ, P => wD F G n ρ fun x => ∃ items, itR1D x = some items ∧ P (.tuple items)
  | .tlc j it t e, ρ, P => wD F G it ρ fun x => ∃ items, x = .tuple items ∧ items.length ≤ 50000 ∧ wlc (fun d => (wipeS ρ [j]).set j (.dat d)) (wD F G t) (wD F G e) items fun out => P (.tuple out)
/-! ### readings -/
def cN (F : Fs) (G : Gs) (x : Dx) : TE := fun σ H Q => ∃ (own M : List Addr) (st sp : Addr) (ρ : List Sl) (P : PyData → Prop), Sx own M st sp σ H ρ ∧ wD F G x ρ P ∧ ∀ v H2 d, ExS st H H2 → Sm st sp H2 → Rp (hide M H2) v d → P d → Q v H2
def cNT (F : Fs) (G : Gs) (x : Dx) : TT := fun σ H Q => ∃ (own M : List Addr) (st sp : Addr) (ρ : List Sl) (P : PyData → Prop), Sx own M st sp σ H ρ ∧ wD F G x ρ P ∧ ∀ H2 d, ExS st H H2 → Sm st sp H2 → P d → ∃ b, truD d = some b ∧ Q b H2
def cNA (F : Fs) (G : Gs) (x : Dx) : TA := fun σ H Q => ∃ (own M : List Addr) (st sp : Addr) (ρ : List Sl) (P : PyData → Prop), Sx own M st sp σ H ρ ∧ wD F G x ρ P ∧ ∀ d H2, ExS st H H2 → Sm st sp H2 → P d → ∃ ds, d = .tuple ds ∧ ∀ vs, RpAll (hide M H2) vs ds → Q vs H2
def cNI (F : Fs) (G : Gs) (K : PySem.W.Frag) (x : Dx) : TI := fun σ H R => ∃ (own M : List Addr) (st sp : Addr) (ρ : List Sl) (P : PyData → Prop), Sx own M st sp σ H ρ ∧ wD F G x ρ P ∧ ∀ J H1 items, ExS st H H1 → Sm st sp H1 → Wk K M H1 false items J → P (.tuple items) → R J H1
/-- te does what W says -/
def EN (te : TE) (W : List Sl → (PyData → Prop) → Prop) : Prop := ∀ (own M : List Addr) (st sp : Addr) (σ : L2.St) (H : Hp) (ρ : List Sl) (P : PyData → Prop), Sx own M st sp σ H ρ → W ρ P → ∀ Q : VK, (∀ v H2 d, ExS st H H2 → Sm st sp H2 → Rp (hide M H2) v d → P d → Q v H2) → te σ H Q
section
variable {F : Fs} {G : Gs} {X : Cx} {x : Dx} {e : Expr} {es : List Expr} {te ta tb : TE} {tt : TT} {tA : TA}
theorem en : EN (cN F G x) (wD F G x) := fun own M st sp σ H ρ P s w Q q => ⟨own, M, st, sp, ρ, P, s, w, q⟩
theorem PE.canN (h : PE X e te) (hs : EN te (wD F G x)) : PE X e (cN F G x) := ⟨fun pins s σ H Q I ⟨own, M, st, sp, ρ, P, sx, w, q⟩ => h.run pins s σ H Q I (hs own M st sp σ H ρ P sx w Q q)⟩
theorem PT.canN (h : PT X e tt) (hs : ∀ (own M : List Addr) (st sp : Addr) (σ : L2.St) (H : Hp) (ρ : List Sl) (P : PyData → Prop), Sx own M st sp σ H ρ → wD F G x ρ P → ∀ Q : Bool → Hp → Prop, (∀ H2 d, ExS st H H2 → Sm st sp H2 → P d → ∃ b, truD d = some b ∧ Q b H2) → tt σ H Q) : PT X e (cNT F G x) :=
  ⟨fun pins s σ H Q I ⟨own, M, st, sp, ρ, P, sx, w, q⟩ => h.run pins s σ H Q I (hs own M st sp σ H ρ P sx w Q q)⟩
theorem PA.canN (h : PA X es tA) (hs : ∀ (own M : List Addr) (st sp : Addr) (σ : L2.St) (H : Hp) (ρ : List Sl) (P : PyData → Prop), Sx own M st sp σ H ρ → wD F G x ρ P → ∀ Q : List V → Hp → Prop, (∀ d H2, ExS st H H2 → Sm st sp H2 → P d → ∃ ds, d = .tuple ds ∧ ∀ vs, RpAll (hide M H2) vs ds → Q vs H2) → tA σ H Q) : PA X es (cNA F G x) :=
  ⟨fun pos pins s σ H Q I ⟨own, M, st, sp, ρ, P, sx, w, q⟩ => h.run pos pins s σ H Q I (hs own M st sp σ H ρ P sx w Q q)⟩
theorem PI.canN {tg : Expr} {ti : TI} (h : PI X tg e ti) (hs : ∀ (own M : List Addr) (st sp : Addr) (σ : L2.St) (H : Hp) (ρ : List Sl) (P : PyData → Prop), Sx own M st sp σ H ρ → wD F G x ρ P → ∀ R : It → Hp → Prop, (∀ J H1 items, ExS st H H1 → Sm st sp H1 → Wk X.K M H1 false items J → P (.tuple items) → R J H1) → ti σ H R) : PI X tg e (cNI F G X.K x) :=
  ⟨fun pins s σ H R I ⟨own, M, st, sp, ρ, P, sx, w, q⟩ => h.run pins s σ H R I (hs own M st sp σ H ρ P sx w R q)⟩
theorem en_pu {x : Xp} : EN (cE F x) (wD F G (.pu x)) := fun own M st sp σ H ρ P s w Q q => by
  obtain ⟨d, h, p⟩ := w
  exact ce h own M σ H s.se s.al Q fun v H2 e r => q v H2 d (.of e) (s.sm.up e) r p
theorem en_op {r : R2} {g : PyData → PyData → Option PyData} {Wa Wb W : List Sl → (PyData → Prop) → Prop} (hr : ∀ x y d, g x y = some d → RR r x y d) (ha : EN ta Wa) (hb : EN tb Wb) (hw : ∀ ρ P, W ρ P → Wa ρ fun x => Wb ρ fun y => ∃ d, g x y = some d ∧ P d) : EN (tOp r ta tb) W :=
  fun own M st sp σ H ρ P s w Q q => ha own M st sp σ H ρ _ s (hw ρ P w) _ fun v H1 x e1 s1 r1 w1 => hb own M st sp σ H1 ρ _ (s.up e1 s1) w1 _ fun u H2 y e2 s2 r2 w2 => by
    obtain ⟨d, hd, p⟩ := w2
    exact hr x y d hd M H2 v u ((s.up e1 s1).up e2 s2).al (r1.up (e2.hide s.hst)) r2 Q fun z H3 e3 r3 => q z H3 d ((e1.trans e2).trans (.of e3)) (s2.up e3) r3 p
theorem rr_ix {K : PySem.W.Frag} (x y d : PyData) (h : ixG x y = some d) : RR (rIx K) x y d := fun M H v u a r1 r2 Q q => by
  obtain ⟨i, hi, hd⟩ := bind_some h
  rw [intOfD_eq hi] at r2
  rw [r2.is_int]
  unfold ixD at hd
  split at hd
  · obtain ⟨p, xs, rfl, hp, r⟩ := r1.is_tup
    obtain ⟨v, hv, rv⟩ := atI_rp r hd
    exact .inr (.inl ⟨p, xs, i, v, rfl, rfl, (hp.up hide_ex).sq, hv, q _ H (Evl.Ex.refl H) rv⟩)
  · obtain ⟨p, xs, rfl, hp, r⟩ := r1.is_lst
    obtain ⟨v, hv, rv⟩ := atI_rp r hd
    exact .inl ⟨p, xs, i, v, rfl, rfl, SqL.of (hide_ex _ _ hp), hv, q _ H (Evl.Ex.refl H) rv⟩
  · cases hd
theorem rr_eq {K : PySem.W.Frag} (x y d : PyData) (h : (eqD x y).map PyData.bool = some d) : RR (rEqD K) x y d := fun M H v u a r1 r2 Q q => by
  obtain ⟨c, h, rfl⟩ := map_some h
  unfold eqD at h
  split at h
  · rename_i cc
    cases h
    exact ⟨x, y, (r1.up hide_ex).dp, (r2.up hide_ex).dp, (and_tt cc).1, (and_tt cc).2, q _ H (Evl.Ex.refl H) (.bl _)⟩
  · cases h
end
/-! ### what the drawing defs promise -/
def spD (G : Gs) (f : Nat) : Sp := fun vs H Q _ => ∃ (M : List Addr) (st sp : Addr) (vs' : List V) (ds : List PyData) (P : PyData → Prop), vs = .ref st :: vs' ∧ Al M H ∧ st ∈ M ∧ sp ∈ M ∧ Sm st sp H ∧ RpAll (hide M H) vs' ds ∧ G f ds P ∧ ∀ v H2 d, ExS st H H2 → Sm st sp H2 → Rp (hide M H2) v d → P d → Q v H2
structure FitsN (F : Fs) (NM : List Str) (G : Gs) (DN : Nat → Option Str) (S : Sc) (X : Cx) : Prop extends Fits F NM S X where
  draw : ∀ f x, DN f = some x → ∃ k, Room k X.A ∧ C8.Cal X.prog X.w X.K X.mg X.base k x (spD G f) []
theorem FitsN.blk {F : Fs} {NM : List Str} {G : Gs} {DN : Nat → Option Str} {S : Sc} {X : Cx} (f : FitsN F NM G DN S X) (scope : Scope) (s : Shared) (H : Hp) (C : Addr) (cl : List (Str × Addr)) (fp : List Addr) : FitsN F NM G DN (S.blk scope) (X.blk s H scope (compEnvC scope cl C X.env) fp) :=
  ⟨f.toFits.blk scope s H C cl fp, f.draw⟩
/-! ### comprehensions that draw -/
def CvS (st sp : Addr) (H1 : Hp) (D : Addr) (M : List Addr) (out : List PyData) (H' : Hp) : Prop := H1 D = none ∧ ExS st H1 H' ∧ Sm st sp H' ∧ ∃ acc, H' D = some (.lst acc) ∧ RpAll (hide (D :: M) H') acc out
theorem wipeS_fix {ρ : List Sl} {i : Nat} {w : V} : ∀ {vs : List Nat}, (wipeS ρ vs)[i]? = some (.fix w) → ρ[i]? = some (.fix w)
  | [], h => h
  | v :: vs, h => by
    rcases set_at (show ((wipeS ρ vs).set v .no)[i]? = some (.fix w) from h) with ⟨_, e⟩ | ⟨_, h⟩
    · cases e
    · exact wipeS_fix h
theorem hide_newS {st : Addr} {M : List Addr} {H H' : Hp} {p : Addr} (e : ExS st H H') (hs : st ∈ M) (h : H p = none) : Ex (hide M H) (hide (p :: M) H') := fun a o q => by
  have ha := hide_ex a o q
  have hne : a ≠ p := ne_of_none ha h
  have c : a ∉ M := fun z => by rw [hide_in z] at q; cases q
  rw [hide_out (by simp [hne, c])]
  exact e a o (fun z => c (by rw [z]; exact hs)) ha
theorem SE.newS {own M : List Addr} {st : Addr} {σ : L2.St} {H H' : Hp} {ρ : List Sl} {D : Addr} (h : SE own M σ H ρ) (e : ExS st H H') (hs : st ∈ M) (no : st ∉ own) (hD : H D = none) : SE own (D :: M) σ H' ρ := ⟨h.len, fun i s hi => by
  obtain ⟨x, h1, h2⟩ := h.at_ i s hi
  refine ⟨x, h1, ?_⟩
  cases s with
  | no => unfold SlOk; trivial
  | dat d =>
    cases x with
    | none => exact h2.elim
    | some v => exact Rp.up (hide_newS e hs hD) h2
  | fix w =>
    cases x with
    | none => exact h2.elim
    | some v => exact SlOk.fixI (SlOk.fixE h2)
  | «mut» cs =>
    obtain ⟨p', vs', g3, g5, g4, g6⟩ := h.mut hi
    rw [g3] at h1
    cases h1
    exact ⟨g5, vs', e p' _ (fun z => no (by rw [← z]; exact g5)) g4, g6.up (hide_newS e hs hD)⟩⟩
theorem en_tlc {F : Fs} {G : Gs} {K : PySem.W.Frag} {j : Nat} {it t e : Dx} : EN (fTupOf K (tLc (cNI F G K it) (gT K [j]) (cNT F G t) (cN F G e) [j])) (wD F G (.tlc j it t e)) := by
  intro own M st sp σ H ρ P s w Q q
  refine ⟨own, M, st, sp, ρ, _, s, w, fun J H1 items e1 s1 wk0 w1 D hD => ?_⟩
  obtain ⟨items', ee, hz, wl⟩ := w1
  cases ee
  obtain ⟨n, Gd, Y, wk, hn, hG, hY⟩ := wk0.ex
  have sx1 := s.up e1 s1
  have Dst : D ≠ st := fun z => by
    obtain ⟨xs, c, k, h1, _⟩ := s1
    rw [z, h1] at hD
    cases hD
  refine lc_it wk (fun i H' => ∃ o, o.length ≤ i ∧ CvS st sp H1 D M o H' ∧ wlc (fun d => (wipeS ρ [j]).set j (.dat d)) (wD F G t) (wD F G e) (items.drop i) fun r => P (.tuple (o ++ r))) ⟨[], Nat.le_refl _, ⟨hD, .of (Ex.new hD), s1.up (Ex.new hD), [], upd_same, .nil⟩, wl⟩ (fun i H' hi p => ?_) (fun i x H' H'' hi p y => ?_) (fun H' p => ?_)
  · obtain ⟨o, _, p, _⟩ := p
    exact hG H' (p.2.1.hide s.hst)
  · obtain ⟨o, hol, p, wl⟩ := p
    obtain ⟨e2, d, hd, yd⟩ := hY i H' x H'' hi (p.2.1.hide s.hst) y
    obtain ⟨hl, ed⟩ := List.getElem?_eq_some_iff.mp hd
    rw [List.drop_eq_getElem_cons hl, ed] at wl
    obtain ⟨p1, p2, p3, acc, p4, p5⟩ := p
    have ex' : ExS st H1 H'' := p2.trans (.of e2)
    have sm' := p3.up e2
    have hidD : st ∈ D :: M := List.mem_cons_of_mem _ s.hst
    have se : SE own (D :: M) (wipe σ [j]) H'' (wipeS ρ [j]) := (sx1.se.newS ex' s.hst s.no hD).wipe [j]
    have alD : Al (D :: M) H'' := (sx1.al.ups ex' sm').cons (e2 D _ p4)
    refine bind_ok (tg := [j]) rfl rfl yd se (hide_newS ex' s.hst hD) fun σ' l1 l2 se' => ?_
    refine ⟨by rw [← wipe_idem σ [j]]; exact wipe_ext l1 l2, ?_⟩
    have sx' : Sx own (D :: M) st sp σ' H'' ((wipeS ρ [j]).set j (.dat d)) := ⟨se', alD, sm', hidD, List.mem_cons_of_mem _ s.hsp, s.no, fun a w' ha => by
      rcases set_at ha with ⟨_, z⟩ | ⟨_, ha⟩
      · cases z
      · exact s.fx a w' (wipeS_fix ha)⟩
    have wl : wD F G t ((wipeS ρ [j]).set j (.dat d)) fun x => ∃ c, truD x = some c ∧ ((c = true → wD F G e ((wipeS ρ [j]).set j (.dat d)) fun y => wlc (fun d => (wipeS ρ [j]).set j (.dat d)) (wD F G t) (wD F G e) (items.drop (i + 1)) fun r => P (.tuple (o ++ (y :: r)))) ∧ (c = false → wlc (fun d => (wipeS ρ [j]).set j (.dat d)) (wD F G t) (wD F G e) (items.drop (i + 1)) fun r => P (.tuple (o ++ r)))) := wl
    refine ⟨own, D :: M, st, sp, _, _, sx', wl, fun H3 b e3 s3 pb => ?_⟩
    obtain ⟨c, hc, k1, k2⟩ := pb
    refine ⟨c, hc, ?_⟩
    cases c with
    | true =>
      show cN F G e σ' H3 _
      refine ⟨own, D :: M, st, sp, _, _, sx'.up e3 s3, k1 rfl, fun v H4 y e4 s4 r4 w4 => ?_⟩
      have hDD : H4 D = some (.lst acc) := e4 D _ Dst (e3 D _ Dst (e2 D _ p4))
      refine ⟨acc, hDD, by rw [p5.len]; exact Evl.sz_lt (by omega), o ++ [y], by simp; omega, ⟨p1, ?_, ?_, acc ++ [v], upd_same, ?_⟩, ?_⟩
      · exact fun a u ha hu => by
          have hne : a ≠ D := ne_of_none hu hD
          rw [upd_ne hne]
          exact ((ex'.trans e3).trans e4) a u ha hu
      · obtain ⟨xs, c', k', h1, h2, h3⟩ := s4
        have spD : sp ≠ D := fun z => by
          obtain ⟨xs, c, k, _, h2, _⟩ := s1
          rw [z, hD] at h2
          cases h2
        exact ⟨xs, c', k', by rw [upd_ne (Ne.symm Dst)]; exact h1, by rw [upd_ne spD]; exact h2, h3⟩
      · rw [hide_upd List.mem_cons_self]
        exact ((p5.up (hide_mono e2)).up (((e3.trans e4).hide hidD))).append (.cons r4 .nil)
      · have : (fun r => P (.tuple (o ++ [y] ++ r))) = fun r => P (.tuple (o ++ (y :: r))) := by funext r; rw [List.append_assoc]; rfl
        rw [this]
        exact w4
    | false =>
      show ∃ o, _
      exact ⟨o, by omega, ⟨p1, ex'.trans e3, s3, acc, e3 D _ Dst (e2 D _ p4), (p5.up (hide_mono e2)).up (e3.hide hidD)⟩, k2 rfl⟩
  · obtain ⟨o, _, ⟨p1, p2, p3, acc, p4, p5⟩, wl⟩ := p
    rw [hn, List.drop_length] at wl
    have wl : P (.tuple (o ++ [])) := wl
    rw [List.append_nil] at wl
    refine ⟨D, acc, rfl, SqL.of p4, fun p u hp hu => ?_⟩
    have sxf := sx1.up p2 p3
    refine q _ _ (.tuple o) ((e1.trans p2).trans (.of (Ex.new hp))) (p3.up (Ex.new hp)) (rp_newT hp hu sxf.al (p5.up (hide_sub fun a ha => List.mem_cons_of_mem _ ha))) wl
end R60

end -- D16
section -- D17
set_option Elab.async false
set_option linter.all false
set_option maxRecDepth 100000
set_option maxHeartbeats 4000000
/-! The drawing defs: the certified reader of their expressions. -/
namespace R60
open PySem PySem.Spec PyProof.Rows L2 RZ
open Evl (Ex)
section
variable (F : Fs) (NM : List Str) (G : Gs) (DN : Nat → Option Str)
structure ChkD (x : Dx) where
  e : ∀ (S : Sc) (e : Expr), Tr (∀ X, FitsN F NM G DN S X → PE X e (cN F G x)) := fun _ _ => none
  t : ∀ (S : Sc) (e : Expr), Tr (∀ X, FitsN F NM G DN S X → PT X e (cNT F G x)) := fun _ _ => none
  a : ∀ (S : Sc) (es : List Expr), Tr (∀ X, FitsN F NM G DN S X → PA X es (cNA F G x)) := fun _ _ => none
  i : ∀ (S : Sc) (tg e : Expr), Tr (∀ X, FitsN F NM G DN S X → PI X tg e (cNI F G X.K x)) := fun _ _ _ => none
def xPu (x : Xp) : ChkD F NM G DN (.pu x) where
  e := fun S e => oneT ((chk F NM x).e S e) fun h => fun X f => PE.canN (h X f.toFits) en_pu
  t := fun S e => oneT ((chk F NM x).t S e) fun h => fun X f => PT.canN (h X f.toFits) fun own M st sp σ H ρ P s w Q q => by
    obtain ⟨d, hd, p⟩ := w
    obtain ⟨b, hb, _⟩ := q H d .refl s.sm p
    exact ct (F := F) (x := x) (b := b) (by unfold evT; rw [hd]; exact hb) own M σ H s.se s.al Q fun H2 e => by
      obtain ⟨b', hb', q'⟩ := q H2 d (.of e) (s.sm.up e) p
      rw [hb] at hb'
      cases hb'
      exact q'
def xDr (si f : Nat) {a : Dx} (ca' : ChkD F NM G DN a) : ChkD F NM G DN (.dr si f a) where
  e := fun S e => match e with
    | .Call (.Name m p) (.Name y py :: es) [] pos => bothT (must (decide (DN f = some m) && (glB S m && !dbg m && es.all notStar) && varB S si y)) (ca'.a S es) fun h h1 => by
        obtain ⟨h, hv⟩ := and_tt h
        obtain ⟨hm, hg⟩ := and_tt h
        obtain ⟨hg, s2⟩ := and_tt hg
        obtain ⟨g1, g2⟩ := and_tt hg
        have hm : DN f = some m := of_decide_eq_true hm
        exact fun X ft => by
          obtain ⟨k, hr, hc⟩ := ft.draw f m hm
          obtain ⟨hv, v4⟩ := and_tt hv
          obtain ⟨hv, v3⟩ := and_tt hv
          obtain ⟨v1, v2⟩ := and_tt hv
          have pv : PE X (.Name y py) (tVar si) := pe_var (i := si) (by rw [ft.N]; exact of_decide_eq_true v1) (vis_ok v2 ft.toFits) (notT v3) (notT v4)
          refine PE.canN (C8.pe_c hc hr (Nat.le_refl _) (gl_ok g1 ft.toFits) (pa_cons pv (h1 X ft) rfl) (notT g2) rfl (back_ok _ _ s2)) fun own M st sp σ H ρ P s w Q q => ?_
          obtain ⟨⟨w0, hw0⟩, w⟩ := w
          have e0 := s.fx si w0 hw0
          obtain ⟨x0, k1, k2⟩ := s.se.at_ si _ hw0
          cases x0 with
          | none => exact k2.elim
          | some v0 =>
            have e1 := SlOk.fixE k2
            refine ⟨v0, k1, own, M, st, sp, ρ, _, s, w, fun d H2 e s2 pd => ?_⟩
            obtain ⟨ds, rfl, g⟩ := pd
            refine ⟨ds, rfl, fun vs r => ?_⟩
            show spD G f ((v0 :: vs) ++ []) H2 Q _
            rw [List.append_nil, e1, e0]
            exact ⟨M, st, sp, vs, ds, P, rfl, (s.up e s2).al, s.hst, s.hsp, s2, r, g, fun v H3 d e3 s3 r3 p => q v H3 d (e.trans e3) s3 r3 p⟩
    | _ => none
def xNil : ChkD F NM G DN .nil where
  a := fun S es => match es with
    | [] => some ⟨fun X f => PA.canN pa_nil fun own M st sp σ H ρ P s w Q q => by
        obtain ⟨ds, e, g⟩ := q (.tuple []) H .refl s.sm w
        cases e
        exact g [] .nil⟩
    | _ => none
def xCons {a b : Dx} (c1 : ChkD F NM G DN a) (c2 : ChkD F NM G DN b) : ChkD F NM G DN (.cons a b) where
  a := fun S es => match es with
    | e :: es => bothT (must (notStar e)) (bothT (c1.e S e) (c2.a S es) And.intro) fun hs h12 => fun X f => PA.canN (pa_cons (h12.1 X f) (h12.2 X f) (star_ok hs _ _)) fun own M st sp σ H ρ P s w Q q =>
        en (F := F) (G := G) (x := a) own M st sp σ H ρ _ s w _ fun v H1 x e1 s1 r1 w1 => ⟨own, M, st, sp, ρ, _, s.up e1 s1, w1, fun d H2 e2 s2 pd => by
          obtain ⟨ds, rfl, p⟩ := pd
          refine ⟨ds, rfl, fun vs r => ?_⟩
          obtain ⟨ds', ee, g⟩ := q (.tuple (x :: ds)) H2 (e1.trans e2) s2 p
          cases ee
          exact g (v :: vs) (.cons (r1.up (e2.hide s.hst)) r)⟩
    | [] => none
def xTup {a : Dx} (c : ChkD F NM G DN a) : ChkD F NM G DN (.tup a) where
  e := fun S e => match e with
    | .Tuple es k p => oneT (c.a S es) fun h => fun X f => PE.canN (pf_tup (h X f)) fun own M st sp σ H ρ P s w Q q => ⟨own, M, st, sp, ρ, _, s, w, fun d H2 e2 s2 pd => by
        obtain ⟨ds, rfl, hl, p⟩ := pd
        exact ⟨ds, rfl, fun vs r => ⟨by rw [r.len]; exact Evl.sz_of hl, fun pp o hp ho => q _ _ _ (e2.trans (.of (Ex.new hp))) (s2.up (Ex.new hp)) (rp_newT hp ho (s.up e2 s2).al r) p⟩⟩⟩
    | _ => none
def xLst {a : Dx} (c : ChkD F NM G DN a) : ChkD F NM G DN (.lst a) where
  e := fun S e => match e with
    | .List es p => oneT (c.a S es) fun h => fun X f => PE.canN (pe_lst (h X f)) fun own M st sp σ H ρ P s w Q q => ⟨own, M, st, sp, ρ, _, s, w, fun d H2 e2 s2 pd => by
        obtain ⟨ds, rfl, hl, p⟩ := pd
        exact ⟨ds, rfl, fun vs r => ⟨by rw [r.len]; exact Evl.sz_of hl, fun pp hp => q _ _ _ (e2.trans (.of (Ex.new hp))) (s2.up (Ex.new hp)) (.lst (new_free hp (s.up e2 s2).al upd_same) (r.up (hide_mono (Ex.new hp)))) p⟩⟩⟩
    | _ => none
def xAdd {a b : Dx} (c1 : ChkD F NM G DN a) (c2 : ChkD F NM G DN b) : ChkD F NM G DN (.add a b) where
  e := fun S e => match e with
    | .BinOp e1 .Add e2 pos => bothT (c1.e S e1) (c2.e S e2) fun h1 h2 => fun X f => PE.canN (pe_op dAddA (h1 X f) (h2 X f)) (en_op (g := addD) (fun x y d h => rr_add h) en en fun ρ P w => w)
    | _ => none
def xIx {a b : Dx} (c1 : ChkD F NM G DN a) (c2 : ChkD F NM G DN b) : ChkD F NM G DN (.ix a b) where
  e := fun S e => match e with
    | .Subscript e1 e2 pos => bothT (must (plainB e2)) (bothT (c1.e S e1) (c2.e S e2) And.intro) fun h0 h => fun X f => PE.canN (pe_ix ix_seq (h.1 X f) (h.2 X f) (plain_ok h0)) (en_op (g := ixG) rr_ix en en fun ρ P w => w)
    | _ => none
def xEq {a b : Dx} (c1 : ChkD F NM G DN a) (c2 : ChkD F NM G DN b) : ChkD F NM G DN (.eq a b) where
  t := fun S e => match e with
    | .Compare e1 [.Eq] [e2] pos => bothT (must (!behindInMarks .Eq e2)) (bothT (c1.e S e1) (c2.e S e2) And.intro) fun hm h => fun X f => by
        obtain ⟨k, r⟩ := f.room
        refine PT.canN (pt_cmpR (dEq r) (h.1 X f) (h.2 X f) (notT hm)) fun own M st sp σ H ρ P s w Q q => ?_
        refine ⟨own, M, st, sp, ρ, _, s, w, fun v H1 x e1 s1 r1 w1 => ⟨own, M, st, sp, ρ, _, s.up e1 s1, w1, fun u H2 y e2 s2 r2 pc => ?_⟩⟩
        obtain ⟨c, hc, p⟩ := pc
        refine rr_eq x y (.bool c) (by rw [hc]; rfl) M H2 v u ((s.up e1 s1).up e2 s2).al (r1.up (e2.hide s.hst)) r2 _ fun z H3 e3 r3 => ?_
        obtain ⟨b, hb, g⟩ := q H3 (.bool c) ((e1.trans e2).trans (.of e3)) (s2.up e3) p
        cases hb
        exact ⟨c, r3.is_bl, g⟩
    | _ => none
def xAnd {a b : Dx} (c1 : ChkD F NM G DN a) (c2 : ChkD F NM G DN b) : ChkD F NM G DN (.and a b) where
  t := fun S e => match e with
    | .BoolOp .And [e1, e2] pos => bothT (c1.t S e1) (c2.t S e2) fun h1 h2 => fun X f => PT.canN (pw_and (h1 X f) (pw_and1 (h2 X f))).pt fun own M st sp σ H ρ P s w Q q =>
        ⟨own, M, st, sp, ρ, _, s, w, fun H1 d e1 s1 pd => by
          obtain ⟨c, rfl, k1, k2⟩ := pd
          refine ⟨c, rfl, ?_⟩
          cases c with
          | true =>
            show cNT F G b σ H1 Q
            exact ⟨own, M, st, sp, ρ, _, s.up e1 s1, k1 rfl, fun H2 d e2 s2 p => q H2 d (e1.trans e2) s2 p⟩
          | false =>
            show Q false H1
            obtain ⟨b, hb, g⟩ := q H1 (.bool false) e1 s1 (k2 rfl)
            cases hb
            exact g⟩
    | _ => none
def xIts (x : Xp) : ChkD F NM G DN (.its x) where
  i := fun S tg e => oneT ((chk F NM x).i S tg false e) fun h => fun X f => PI.canN (h X f.toFits) fun own M st sp σ H ρ P s w R q => by
    obtain ⟨items, h1, p⟩ := w
    exact ⟨own, M, ρ, items, s.se, s.al, h1, fun J H1 e wk => q J H1 items (.of e) (s.sm.up e) wk p⟩
def xItr {n : Dx} (c : ChkD F NM G DN n) : ChkD F NM G DN (.itr n) where
  i := fun S tg e => match e with
    | .Call (.Name m p) [e1] [] pos => bothT (must (decide (m = ("range" : Str)) && (glB S m && notStar e1))) (c.e S e1) fun hh h1 => fun X f => by
        obtain ⟨hm, hg⟩ := and_tt hh
        obtain ⟨g1, s1⟩ := and_tt hg
        have hm := eq_of_dec hm
        subst hm
        exact PI.canN (pi_range1 (gl_ok g1 f.toFits) (f.blt _ (by decide)) (pa1 (h1 X f) s1) (star_ok s1 _ _)) fun own M st sp σ H ρ P s w R q => ⟨own, M, st, sp, ρ, _, s, w, fun v H1 d e1 s1 r1 pd => by
          obtain ⟨items, k3, p⟩ := pd
          obtain ⟨n, rfl, l1, l2, rfl⟩ := itR1D_eq k3
          rw [r1.is_int]
          refine ⟨n, rfl, by omega, by omega, q _ H1 (rgD 0 n) e1 s1 ⟨_, _, _, walk_range (lo := 0) (n := n.toNat), by rw [rgD_len]; congr 1; omega, fun H' e => trivial, fun i H v H' hi e y => ?_⟩ p⟩
          obtain ⟨rfl, rfl⟩ := y
          exact ⟨Evl.Ex.refl _, _, rgD_get (by omega), .at (.int _)⟩⟩
    | _ => none
theorem ptsN_yes {X : Cx} : PTs X [] (cNT F G (.pu (.bl true))) := ⟨fun pins s σ H Q I ⟨own, M, st, sp, ρ, P, sx, w, q⟩ => by
  obtain ⟨d, hd, p⟩ := w
  cases hd
  obtain ⟨b, hb, g⟩ := q H (.bool true) .refl sx.sm p
  cases hb
  exact pts_nil.run pins s σ H Q I g⟩
def chkTsN {t : Dx} (ct : ChkD F NM G DN t) (S : Sc) (ifs : List Expr) : Tr (∀ X, FitsN F NM G DN S X → PTs X ifs (cNT F G t)) := match ifs with
  | [] => match t with
    | .pu (.bl true) => some ⟨fun X f => ptsN_yes F G⟩
    | _ => none
  | [e] => oneT (ct.t S e) fun h => fun X f => pts_one (h X f)
  | _ => none
def xTlc {it t e : Dx} (j : Nat) (ci : ChkD F NM G DN it) (ct : ChkD F NM G DN t) (c : ChkD F NM G DN e) : ChkD F NM G DN (.tlc j it t e) where
  e := fun S ex => match ex with
    | .Call (.Name m p) [.ListComp elt [⟨tgE, iter, ifs, 0⟩] scope pos2] [] pos => match ownOf [j] tgE with
      | some own => bothT (must (decide (m = ("tuple" : Str)) && glB S m && notSet iter && blkC S.N S.sc scope own && decide (own.map (·.2) = [j]))) (bothT (ci.i S tgE iter) (bothT (chkG F NM (S.blk scope) tgE [j]) (bothT (chkTsN F NM G DN ct (S.blk scope) ifs) (c.e (S.blk scope) elt) And.intro) And.intro) And.intro) fun h q => fun X f => by
          obtain ⟨h, h3⟩ := and_tt h
          obtain ⟨h, h2⟩ := and_tt h
          obtain ⟨h, h1⟩ := and_tt h
          obtain ⟨hm, hg⟩ := and_tt h
          have hm := eq_of_dec hm
          subst hm
          have h3 := of_decide_eq_true h3
          have := pe_lc (X := X) (own := own) (pos := pos2) (g := gT X.K [j]) f.calm f.nd (q.1 X f) (blkOk_by (by rw [f.N, f.sc]; exact h2)) (fun s H C cl fp => q.2.1 _ (f.toFits.blk scope s H C cl fp)) (fun s H C cl fp => q.2.2.1 _ (f.blk scope s H C cl fp)) (fun s H C cl fp => q.2.2.2 _ (f.blk scope s H C cl fp)) (set_ok h1 _)
          rw [h3] at this
          exact PE.canN (pf_tupleOf (gl_ok hg f.toFits) (f.blt _ (by decide)) this rfl) en_tlc
      | none => none
    | _ => none
def chkD : ∀ x : Dx, ChkD F NM G DN x
  | .pu x => xPu F NM G DN x
  | .dr si f a => xDr F NM G DN si f (chkD a)
  | .nil => xNil F NM G DN
  | .cons a b => xCons F NM G DN (chkD a) (chkD b)
  | .tup a => xTup F NM G DN (chkD a)
  | .lst a => xLst F NM G DN (chkD a)
  | .add a b => xAdd F NM G DN (chkD a) (chkD b)
  | .ix a b => xIx F NM G DN (chkD a) (chkD b)
  | .eq a b => xEq F NM G DN (chkD a) (chkD b)
  | .and a b => xAnd F NM G DN (chkD a) (chkD b)
  | .its x => xIts F NM G DN x
  | .itr n => xItr F NM G DN (chkD n)
  | .tlc j it t e => xTlc F NM G DN j (chkD it) (chkD t) (chkD e)
end
/-! ### statements -/
inductive Sn where
  | nil | cons (a b : Sn)
  | pu (s : St) | set (i : Nat) (x : Dx) | ret (x : Dx) | ite (t : Dx) (a b : Sn) | for_ (pr : Bool) (tg : List Nat) (it : Xp) (b : Sn) | unp (js : List Nat) (x : Xp)
def wFor (bind : PyData → List Sl → Option (List Sl)) (body : List Sl → (Out → Prop) → Prop) : List PyData → List Sl → (Out → Prop) → Prop
  | [], ρ, Q => Q (.nx ρ)
  | d :: ds, ρ, Q => ∃ ρ1, bind d ρ = some ρ1 ∧ body ρ1 fun o => match o with
    | .nx ρ2 => wFor bind body ds ρ2 Q
    | .rt d => Q (.rt d)
def wS (F : Fs) (G : Gs) (N : Nat) : Sn → List Sl → (Out → Prop) → Prop
  | .nil, ρ, Q => Q (.nx ρ)
  | .cons a b, ρ, Q => wS F G N a ρ fun o => match o with
    | .nx ρ2 => wS F G N b ρ2 Q
    | .rt d => Q (.rt d)
  | .pu s, ρ, Q => ∃ o, run F N s ρ = some o ∧ Q o
  | .set i x, ρ, Q => wD F G x ρ fun d => Q (.nx (ρ.set i (.dat d)))
  | .ret x, ρ, Q => wD F G x ρ fun d => Q (.rt d)
  | .ite t a b, ρ, Q => wD F G t ρ fun d => ∃ c, truD d = some c ∧ ((c = true → wS F G N a ρ Q) ∧ (c = false → wS F G N b ρ Q))
  | .for_ _ tg it b, ρ, Q => ∃ items, evA F it ρ = some items ∧ wFor (fun d ρ => bindT tg ρ d) (wS F G N b) items ρ Q
  | .unp js x, ρ, Q => ∃ d ρ', ev F x ρ = some d ∧ bindT js ρ d = some ρ' ∧ Q (.nx ρ')
end R60

end -- D17
section -- D18
set_option Elab.async false
set_option linter.all false
set_option maxRecDepth 100000
set_option maxHeartbeats 4000000
/-! The drawing defs: statements, bodies. -/
namespace R60
open PySem PySem.Spec PyProof.Rows L2 RZ
open Evl (Ex)
/-! ### a fixed slot stays or is stored over -/
def FixLe (ρ ρ' : List Sl) : Prop := ∀ (i : Nat) (w : V), ρ'[i]? = some (.fix w) → ρ[i]? = some (.fix w)
theorem FixLe.refl {ρ : List Sl} : FixLe ρ ρ := fun _ _ h => h
theorem FixLe.trans {a b c : List Sl} (h : FixLe a b) (g : FixLe b c) : FixLe a c := fun i w q => h i w (g i w q)
theorem FixLe.set {ρ : List Sl} {j : Nat} {s : Sl} (hs : ∀ w, s ≠ .fix w) : FixLe ρ (ρ.set j s) := fun i w h => by
  rcases set_at h with ⟨_, e⟩ | ⟨_, h⟩
  · exact absurd e.symm (hs w)
  · exact h
theorem FixLe.sets : ∀ (js : List Nat) (ds : List PyData) (ρ : List Sl), FixLe ρ (setsD ρ js ds)
  | [], ds, ρ => by cases ds <;> exact .refl
  | j :: js, [], ρ => .refl
  | j :: js, d :: ds, ρ => (FixLe.set (s := .dat d) fun w e => nomatch e).trans (FixLe.sets js ds _)
theorem FixLe.bind {tg : List Nat} {ρ ρ' : List Sl} {d : PyData} (h : bindT tg ρ d = some ρ') : FixLe ρ ρ' := by
  unfold bindT at h
  split at h
  · cases h
    exact .set fun w e => nomatch e
  · split at h
    · split at h
      · cases h
        exact .sets _ _ _
      · cases h
    · cases h
theorem FixLe.wipe {ρ : List Sl} (vs : List Nat) : FixLe ρ (wipeS ρ vs) := fun i w h => wipeS_fix h
def OutLe (ρ : List Sl) : Out → Prop
  | .nx ρ' => FixLe ρ ρ'
  | .rt _ => True
theorem OutLe.mono {a b : List Sl} (h : FixLe a b) : ∀ {o : Out}, OutLe b o → OutLe a o
  | .nx _, g => h.trans g
  | .rt _, _ => trivial
theorem forGo_fix {bind : PyData → List Sl → Option (List Sl)} {body : List Sl → Option Out} (hb : ∀ d ρ ρ', bind d ρ = some ρ' → FixLe ρ ρ') (hr : ∀ ρ o, body ρ = some o → OutLe ρ o) : ∀ (ds : List PyData) (ρ : List Sl) (o : Out), forGo bind body ds ρ = some o → OutLe ρ o
  | [], ρ, o, h => by
    have h : some (Out.nx ρ) = some o := h
    cases h
    exact FixLe.refl
  | d :: ds, ρ, o, h => by
    obtain ⟨ρ1, h1, h⟩ := bind_some (show (bind d ρ).bind (fun ρ1 => (body ρ1).bind fun o => o.andThen (forGo bind body ds)) = some o from h)
    obtain ⟨o1, h2, h⟩ := bind_some h
    have g := hr _ _ h2
    cases o1 with
    | nx ρ2 => exact OutLe.mono ((hb _ _ _ h1).trans g) (forGo_fix hb hr ds ρ2 o h)
    | rt d' =>
      cases h
      trivial
theorem whileGo_fix {t : List Sl → Option Bool} {body : List Sl → Option Out} (hr : ∀ ρ o, body ρ = some o → OutLe ρ o) : ∀ (n : Nat) (ρ : List Sl) (o : Out), whileGo t body n ρ = some o → OutLe ρ o
  | 0, ρ, o, h => by cases h
  | n + 1, ρ, o, h => by
    obtain ⟨b, h1, h⟩ := bind_some (show (t ρ).bind (fun b => if b then (body ρ).bind fun o => o.andThen (whileGo t body n) else some (.nx ρ)) = some o from h)
    cases b with
    | false =>
      cases h
      exact FixLe.refl
    | true =>
      obtain ⟨o1, h2, h⟩ := bind_some (show (body ρ).bind (fun o => o.andThen (whileGo t body n)) = some o from h)
      have g := hr _ _ h2
      cases o1 with
      | nx ρ2 => exact OutLe.mono g (whileGo_fix hr n ρ2 o h)
      | rt d' =>
        cases h
        trivial
theorem run_fix {F : Fs} {N : Nat} : ∀ (s : St) (ρ : List Sl) (o : Out), run F N s ρ = some o → OutLe ρ o
  | .nil, ρ, o, h => by
    have h : some (Out.nx ρ) = some o := h
    cases h
    exact FixLe.refl
  | .cons a b, ρ, o, h => by
    obtain ⟨o1, h1, h⟩ := bind_some (show (run F N a ρ).bind (fun o => o.andThen (run F N b)) = some o from h)
    have g := run_fix a _ _ h1
    cases o1 with
    | nx ρ2 => exact OutLe.mono g (run_fix b ρ2 o h)
    | rt d' =>
      cases h
      trivial
  | .set i x, ρ, o, h => by
    obtain ⟨d, _, rfl⟩ := map_some (show (ev F x ρ).map (fun d => Out.nx (ρ.set i (.dat d))) = some o from h)
    exact FixLe.set fun w e => nomatch e
  | .cpy i j, ρ, o, h => by
    obtain ⟨d, _, rfl⟩ := map_some (show (mutD ρ[j]?).map (fun ds => Out.nx ((ρ.set j (.dat (.list ds))).set i (.dat (.list ds)))) = some o from h)
    exact FixLe.trans (b := ρ.set j (.dat (.list d))) (FixLe.set fun w e => nomatch e) (FixLe.set fun w e => nomatch e)
  | .newL i x, ρ, o, h => by
    obtain ⟨d, _, rfl⟩ := map_some (show ((ev F x ρ).bind lstD).map (fun ds => Out.nx (ρ.set i (.mut ds))) = some o from h)
    exact FixLe.set fun w e => nomatch e
  | .app i x, ρ, o, h => by
    obtain ⟨d, _, h⟩ := bind_some (show (ev F x ρ).bind (fun d => (mutD ρ[i]?).bind fun ds => if ds.length < 100000 then some (Out.nx (ρ.set i (.mut (ds ++ [d])))) else none) = some o from h)
    obtain ⟨ds, _, h⟩ := bind_some h
    split at h
    · cases h
      exact FixLe.set fun w e => nomatch e
    · cases h
  | .ext i x, ρ, o, h => by
    obtain ⟨d, _, h⟩ := bind_some (show ((ev F x ρ).bind lstD).bind (fun es => (mutD ρ[i]?).bind fun ds => if ds.length + es.length ≤ 100000 then some (Out.nx (ρ.set i (.mut (ds ++ es)))) else none) = some o from h)
    obtain ⟨ds, _, h⟩ := bind_some h
    split at h
    · cases h
      exact FixLe.set fun w e => nomatch e
    · cases h
  | .sti i ix x, ρ, o, h => by
    obtain ⟨d, _, h⟩ := bind_some (show (ev F x ρ).bind (fun d => ((ev F ix ρ).bind intOfD).bind fun k => (mutD ρ[i]?).bind fun ds => (ixN ds.length k).map fun j => Out.nx (ρ.set i (.mut (ds.set j d)))) = some o from h)
    obtain ⟨k, _, h⟩ := bind_some h
    obtain ⟨ds, _, h⟩ := bind_some h
    obtain ⟨j, _, rfl⟩ := map_some h
    exact FixLe.set fun w e => nomatch e
  | .ret x, ρ, o, h => by
    obtain ⟨d, _, rfl⟩ := map_some (show (ev F x (frz ρ)).map Out.rt = some o from h)
    trivial
  | .ite t a b, ρ, o, h => by
    obtain ⟨c, _, h⟩ := bind_some (show (evT F t ρ).bind (fun c => if c then run F N a ρ else run F N b ρ) = some o from h)
    cases c with
    | true => exact run_fix a ρ o h
    | false => exact run_fix b ρ o h
  | .for_ pr tg it b, ρ, o, h => by
    obtain ⟨items, _, h⟩ := bind_some (show (evA F it ρ).bind (fun items => forGo (fun d ρ => bindT tg ρ d) (run F N b) items ρ) = some o from h)
    exact forGo_fix (fun d ρ ρ' h => FixLe.bind h) (fun ρ o h => run_fix b ρ o h) items ρ o h
  | .while_ t b, ρ, o, h => whileGo_fix (fun ρ o h => run_fix b ρ o h) N ρ o h
  | .exp x, ρ, o, h => by
    obtain ⟨d, _, rfl⟩ := map_some (show (ev F x ρ).map (fun _ => Out.nx ρ) = some o from h)
    exact FixLe.refl
  | .srt i j it t k, ρ, o, h => by
    have h : (if i < ρ.length then (evA F it ρ).bind fun items => (lcD [j] (evT F t) (ev F k) ρ items).bind srtD else none) = some o := h
    split at h
    · obtain ⟨items, _, h⟩ := bind_some h
      obtain ⟨ks, _, h⟩ := bind_some h
      obtain ⟨ns, _, h⟩ := bind_some (show (allM intOfD ks).bind (fun ns => if ns.length < 64 then some (Out.rt (.list ((sortI (ddI [] ns)).map PyData.int))) else none) = some o from h)
      split at h
      · cases h
        trivial
      · cases h
    · cases h
  | .never, ρ, o, h => by cases h
/-! ### the state of a drawing body -/
structure SN (M0 own : List Addr) (st sp : Addr) (σ : L2.St) (H : Hp) (ρ : List Sl) : Prop where
  bd : Bd M0 own σ H ρ
  sm : Sm st sp H
  hst : st ∈ M0
  hsp : sp ∈ M0
  fx : ∀ (i : Nat) (w : V), ρ[i]? = some (.fix w) → w = .ref st
structure StpS (st : Addr) (own : List Addr) (H : Hp) (own' : List Addr) (H' : Hp) : Prop where
  kp : ∀ a o, a ∉ own → a ≠ st → H a = some o → H' a = some o
  nw : ∀ p ∈ own', p ∈ own ∨ H p = none
section
variable {M0 own own1 own2 : List Addr} {st sp : Addr} {σ : L2.St} {H H1 H2 : Hp} {ρ ρ' : List Sl} {D : Ends}
theorem StpS.of (s : Stp own H own1 H1) : StpS st own H own1 H1 := ⟨fun a o h _ q => s.kp a o h q, s.nw⟩
theorem StpS.ofS (e : ExS st H H1) : StpS st own H own H1 := ⟨fun a o _ h q => e a o h q, fun _ h => .inl h⟩
theorem Sm.some (s : Sm st sp H) : H st ≠ none := by
  obtain ⟨xs, c, k, h1, _⟩ := s
  rw [h1]; simp
theorem StpS.trans (a : StpS st own H own1 H1) (b : StpS st own1 H1 own2 H2) (sm : H1 st ≠ none) : StpS st own H own2 H2 := by
  refine ⟨fun x o hx hs h => ?_, fun p hp => ?_⟩
  · refine b.kp x o (fun hx1 => ?_) hs (a.kp x o hx hs h)
    rcases a.nw x hx1 with z | z
    · exact hx z
    · rw [h] at z; cases z
  · rcases b.nw p hp with z | z
    · exact a.nw p z
    · by_cases c : p ∈ own
      · exact .inl c
      · right
        cases q : H p with
        | none => rfl
        | some o =>
          by_cases cs : p = st
          · rw [cs] at z; exact absurd z sm
          · rw [a.kp p o c cs q] at z; cases z
theorem StpS.hid (a : StpS st own H own1 H1) (hs : st ∈ M0) : Ex (hide (own ++ M0) H) (hide (own1 ++ M0) H1) := fun x o h => by
  have h' := hide_ex x o h
  have hx : x ∉ own ++ M0 := fun z => by rw [hide_in z] at h; cases h
  have hx0 : x ∉ own := fun z => hx (List.mem_append_left _ z)
  have hx1 : x ∉ own1 ++ M0 := fun z => by
    rcases List.mem_append.mp z with z | z
    · rcases a.nw x z with w | w
      · exact hx0 w
      · rw [h'] at w; cases w
    · exact hx (List.mem_append_right _ z)
  rw [hide_out hx1]
  exact a.kp x o hx0 (fun z => hx (List.mem_append_right _ (by rw [z]; exact hs))) h'
theorem StpS.hid0 (a : StpS st own H own1 H1) (hs : st ∈ M0) : Ex (hide (own ++ M0) H) (hide (own ++ M0) H1) := fun x o h => by
  have h' := hide_ex x o h
  have hx : x ∉ own ++ M0 := fun z => by rw [hide_in z] at h; cases h
  rw [hide_out hx]
  exact a.kp x o (fun z => hx (List.mem_append_left _ z)) (fun z => hx (List.mem_append_right _ (by rw [z]; exact hs))) h'
theorem SN.no (s : SN M0 own st sp σ H ρ) : st ∉ own := fun z => s.bd.dis st z s.hst
theorem SN.sx (s : SN M0 own st sp σ H ρ) : Sx own (own ++ M0) st sp σ H ρ := ⟨s.bd.se, s.bd.al, s.sm, List.mem_append_right _ s.hst, List.mem_append_right _ s.hsp, s.no, s.fx⟩
theorem SN.up (s : SN M0 own st sp σ H ρ) (e : ExS st H H1) (sm : Sm st sp H1) : SN M0 own st sp σ H1 ρ := ⟨⟨(s.sx.up e sm).se, (s.sx.up e sm).al, s.bd.dis, s.bd.inj⟩, sm, s.hst, s.hsp, s.fx⟩
theorem SN.set (s : SN M0 own st sp σ H ρ) (i : Nat) {v : V} {d : PyData} (r : Rp (hide (own ++ M0) H) v d) : SN M0 own st sp (σ.set i (some v)) H (ρ.set i (.dat d)) :=
  ⟨s.bd.set i r, s.sm, s.hst, s.hsp, fun a w h => s.fx a w (FixLe.set (s := .dat d) (fun w e => nomatch e) a w h)⟩
/-- a pure statement's step -/
theorem SN.step (s : SN M0 own st sp σ H ρ) {σ' : L2.St} (a : Stp own H own1 H1) (b : Bd M0 own1 σ' H1 ρ') (f : FixLe ρ ρ') : SN M0 own1 st sp σ' H1 ρ' := by
  refine ⟨b, ?_, s.hst, s.hsp, fun i w h => s.fx i w (f i w h)⟩
  obtain ⟨xs, c, k, h1, h2, h3⟩ := s.sm
  exact ⟨xs, c, k, a.kp _ _ s.no h1, a.kp _ _ (fun z => s.bd.dis sp z s.hsp) h2, h3⟩
end
def OkN (M0 own : List Addr) (st sp : Addr) (H : Hp) (D : Ends) : Out → Prop
  | .nx ρ' => ∀ (own' : List Addr) (σ' : L2.St) (H' : Hp), StpS st own H own' H' → SN M0 own' st sp σ' H' ρ' → D.nx σ' H'
  | .rt d => ∀ (v : V) (own' : List Addr) (H' : Hp), StpS st own H own' H' → Sm st sp H' → Rp (hide (own' ++ M0) H') v d → D.rt v H'
theorem OkN.shift {M0 own own1 : List Addr} {st sp : Addr} {H H1 : Hp} {D : Ends} {out : Out} (s : StpS st own H own1 H1) (sm : H1 st ≠ none) (h : OkN M0 own st sp H D out) : OkN M0 own1 st sp H1 D out := by
  cases out with
  | nx ρ' => exact fun own' σ' H' t b => h own' σ' H' (s.trans t sm) b
  | rt d => exact fun v own' H' t m r => h v own' H' (s.trans t sm) m r
def cSN (F : Fs) (G : Gs) (N : Nat) (s : Sn) : TS := fun D σ H => ∃ (M0 own : List Addr) (st sp : Addr) (ρ : List Sl) (Q : Out → Prop), SN M0 own st sp σ H ρ ∧ wS F G N s ρ Q ∧ ∀ o, Q o → OkN M0 own st sp H D o
section
variable (F : Fs) (NM : List Str) (G : Gs) (DN : Nat → Option Str) (N : Nat)
structure FitsNS (S : Sc) (X : Cx) : Prop extends FitsN F NM G DN S X where
  xe : X.xe = fun _ _ => False
structure ChkN (s : Sn) where
  o : ∀ (S : Sc) (st : Stmt), Tr (∀ X, FitsNS F NM G DN S X → PS X st (cSN F G N s)) := fun _ _ => none
  b : ∀ (S : Sc) (sts : List Stmt), Tr (∀ X, FitsNS F NM G DN S X → PSs X sts (cSN F G N s)) := fun _ _ => none
end
section
variable {F : Fs} {NM : List Str} {G : Gs} {DN : Nat → Option Str} {N : Nat} {X : Cx} {S : Sc}
theorem FitsNS.s (f : FitsNS F NM G DN S X) : FitsS F NM S X := ⟨f.toFits, f.xe⟩
theorem PS.canN {st' : Stmt} {t : TS} {s : Sn} (h : PS X st' t) (hs : ∀ (M0 own : List Addr) (st sp : Addr) (ρ : List Sl) (Q : Out → Prop) (σ : L2.St) (H : Hp) (D : Ends), SN M0 own st sp σ H ρ → wS F G N s ρ Q → (∀ o, Q o → OkN M0 own st sp H D o) → t D σ H) : PS X st' (cSN F G N s) :=
  ⟨fun pins s' σ H D I ⟨M0, own, st, sp, ρ, Q, b, r, k⟩ => h.run pins s' σ H D I (hs M0 own st sp ρ Q σ H D b r k)⟩
theorem PSs.canN {st' : List Stmt} {t : TS} {s : Sn} (h : PSs X st' t) (hs : ∀ (M0 own : List Addr) (st sp : Addr) (ρ : List Sl) (Q : Out → Prop) (σ : L2.St) (H : Hp) (D : Ends), SN M0 own st sp σ H ρ → wS F G N s ρ Q → (∀ o, Q o → OkN M0 own st sp H D o) → t D σ H) : PSs X st' (cSN F G N s) :=
  ⟨fun pins s' σ H D I ⟨M0, own, st, sp, ρ, Q, b, r, k⟩ => h.run pins s' σ H D I (hs M0 own st sp ρ Q σ H D b r k)⟩
end
section
variable (F : Fs) (NM : List Str) (G : Gs) (DN : Nat → Option Str) (N : Nat)
def zPu (s : St) : ChkN F NM G DN N (.pu s) where
  o := fun S st => oneT ((chkS F NM N s).o S st) fun h => fun X f => PS.canN (h X f.s) fun M0 own st sp ρ Q σ H D b w k => by
    obtain ⟨o, hr, q⟩ := w
    refine ⟨M0, own, ρ, o, b.bd, hr, ?_⟩
    have g := run_fix s ρ o hr
    have kk := k o q
    cases o with
    | nx ρ' => exact fun own' σ' H' t b' => kk own' σ' H' (.of t) (b.step t b' g)
    | rt d => exact fun v own' H' t r => kk v own' H' (.of t) (by
        obtain ⟨xs, c, k, h1, h2, h3⟩ := b.sm
        exact ⟨xs, c, k, t.kp _ _ b.no h1, t.kp _ _ (fun z => b.bd.dis sp z b.hsp) h2, h3⟩) r
def zSet (i : Nat) (x : Dx) : ChkN F NM G DN N (.set i x) where
  o := fun S st => match st with
    | .Assign [.Name y py] e pos => bothT (must (chkN S i y && notLc e)) ((chkD F NM G DN x).e S e) fun h he => fun X f => PS.canN (ps_setP f.toFits (and_tt h).1 (he X f.toFitsN) (and_tt h).2) fun M0 own st sp ρ Q σ H D b w k =>
        ⟨own, own ++ M0, st, sp, ρ, _, b.sx, w, fun v H2 d e sm r q => k _ q own _ H2 (.ofS e) ((b.up e sm).set i r)⟩
    | _ => none
def zRet (x : Dx) : ChkN F NM G DN N (.ret x) where
  o := fun S st => match st with
    | .Return (some e) pos => oneT ((chkD F NM G DN x).e S e) fun he => fun X f => PS.canN (ps_ret (he X f.toFitsN)) fun M0 own st sp ρ Q σ H D b w k =>
        ⟨own, own ++ M0, st, sp, ρ, _, b.sx, w, fun v H2 d e sm r q => k _ q v own H2 (.ofS e) sm r⟩
    | _ => none
def zIte (t : Dx) {a b : Sn} (c1 : ChkN F NM G DN N a) (c2 : ChkN F NM G DN N b) : ChkN F NM G DN N (.ite t a b) where
  o := fun S st => match st with
    | .If c s1 s2 pos => bothT ((chkD F NM G DN t).t S c) (bothT (c1.b S s1) (c2.b S s2) And.intro) fun h h12 => fun X f => PS.canN (ps_if (h X f.toFitsN) (h12.1 X f) (h12.2 X f)) fun M0 own st sp ρ Q σ H D b' w k =>
        ⟨own, own ++ M0, st, sp, ρ, _, b'.sx, w, fun H2 d e sm pd => by
          obtain ⟨c, hc, k1, k2⟩ := pd
          refine ⟨c, hc, ?_⟩
          have b2 := b'.up e sm
          cases c with
          | true => exact ⟨M0, own, st, sp, ρ, Q, b2, k1 rfl, fun o q => (k o q).shift (.ofS e) sm.some⟩
          | false => exact ⟨M0, own, st, sp, ρ, Q, b2, k2 rfl, fun o q => (k o q).shift (.ofS e) sm.some⟩⟩
    | _ => none
def zNil : ChkN F NM G DN N .nil where
  b := fun S sts => match sts with
    | [] => some ⟨fun X f => PSs.canN pss_nil fun M0 own st sp ρ Q σ H D b w k => k _ w own σ H (.ofS .refl) b⟩
    | _ => none
def zCons {a b : Sn} (c1 : ChkN F NM G DN N a) (c2 : ChkN F NM G DN N b) : ChkN F NM G DN N (.cons a b) where
  b := fun S sts => match sts with
    | s :: r => bothT (c1.o S s) (c2.b S r) fun h1 h2 => fun X f => PSs.canN (pss_cons (h1 X f) (h2 X f)) fun M0 own st sp ρ Q σ H D bd w k =>
        ⟨M0, own, st, sp, ρ, _, bd, w, fun o q => by
          cases o with
          | nx ρ2 => exact fun own' σ' H' t b' => ⟨M0, own', st, sp, ρ2, Q, b', q, fun o q => (k o q).shift t b'.sm.some⟩
          | rt d => exact k _ q⟩
    | [] => none
def zUnp (js : List Nat) (x : Xp) : ChkN F NM G DN N (.unp js x) where
  o := fun S st => match st with
    | .Assign [.Tuple es kk p] (.Name y py) pos => bothT (chkG F NM S (.Tuple es kk p) js) ((chk F NM x).e S (.Name y py)) fun hg he => fun X f => PS.canN (ps_asg (he X f.toFits) (hg X f.toFits) rfl rfl rfl) fun M0 own st sp ρ Q σ H D b w k => by
        obtain ⟨d, ρ', h1, h2, q⟩ := w
        refine ce h1 own (own ++ M0) σ H b.bd.se b.bd.al _ fun v H2 e r => ?_
        have b2 := b.bd.up e
        have yd : Yd X.K (own ++ M0) H2 false v H2 d := .inl ⟨rfl, r⟩
        refine bind_ok (pr := false) rfl h2 yd b2.se (Evl.Ex.refl _) fun σ'' l1 l2 se => ?_
        have b3 : Bd M0 own σ'' H2 ρ' := ⟨se, b2.al, b2.dis, fun a c cs es q q1 q2 q3 q4 => by
          obtain ⟨n1, m1⟩ := bindT_mut h2 q1
          obtain ⟨n2, m2⟩ := bindT_mut h2 q2
          rw [l2 a n1] at q3
          rw [l2 c n2] at q4
          exact b2.inj a c cs es q m1 m2 q3 q4⟩
        exact k _ q own σ'' H2 (.of (.of e)) (b.step (.of e) b3 (FixLe.bind h2))
    | _ => none
theorem wFor_at {bind : PyData → List Sl → Option (List Sl)} {body : List Sl → (Out → Prop) → Prop} {items : List PyData} {i : Nat} {d : PyData} {ρ : List Sl} {Q : Out → Prop} (hd : items[i]? = some d) (h : wFor bind body (items.drop i) ρ Q) :
    ∃ ρ1, bind d ρ = some ρ1 ∧ body ρ1 fun o => match o with
      | .nx ρ2 => wFor bind body (items.drop (i + 1)) ρ2 Q
      | .rt d => Q (.rt d) := by
  obtain ⟨hl, e⟩ := List.getElem?_eq_some_iff.mp hd
  rw [List.drop_eq_getElem_cons hl, e] at h
  exact h
theorem forN_go {F : Fs} {G : Gs} {N : Nat} {K : PySem.W.Frag} {pr : Bool} {tg : List Nat} {it : Xp} {bd : Sn} {M0 own : List Addr} {st sp : Addr} {ρ : List Sl} {Q : Out → Prop} {σ : L2.St} {H : Hp} {D : Ends} (hok : okT pr tg = true) (b : SN M0 own st sp σ H ρ) (w : wS F G N (.for_ pr tg it bd) ρ Q)
    (k : ∀ o, Q o → OkN M0 own st sp H D o) : tFor (cI F K pr it) (gT K tg) (cSN F G N bd) D σ H := by
  obtain ⟨items, h1, w⟩ := w
  refine ⟨own, own ++ M0, ρ, items, b.bd.se, b.bd.al, h1, fun J H1 e1 wk0 => ?_⟩
  obtain ⟨n, Gd, Y, wk, hn, hG, hY⟩ := wk0.ex
  refine for_it wk (fun i σ' H' => ∃ own' ρ', StpS st own H1 own' H' ∧ SN M0 own' st sp σ' H' ρ' ∧ wFor (fun d ρ => bindT tg ρ d) (wS F G N bd) (items.drop i) ρ' Q) ⟨own, ρ, .ofS .refl, b.up (.of e1) (b.sm.up e1), w⟩ (fun i σ' H' hi p => ?_) (fun i x σ' H' H'' hi p y => ?_) (fun σ' H' p => ?_)
  · obtain ⟨own', ρ', s1, _, _⟩ := p
    exact hG H' (s1.hid0 b.hst)
  · obtain ⟨own', ρ', s1, b1, g1⟩ := p
    obtain ⟨e2, d, hd, yd⟩ := hY i H' x H'' hi (s1.hid0 b.hst) y
    obtain ⟨ρ1, k1, k2⟩ := wFor_at hd g1
    have b2 := b1.up (.of e2) (b1.sm.up e2)
    have s2 : StpS st own H1 own' H'' := s1.trans (.of (.of e2)) b1.sm.some
    refine bind_ok hok k1 yd b2.bd.se (s2.hid b.hst) fun σ'' l1 l2 se => ?_
    have b3 : Bd M0 own' σ'' H'' ρ1 := ⟨se, b2.bd.al, b2.bd.dis, fun a c cs es q q1 q2 q3 q4 => by
      obtain ⟨n1, m1⟩ := bindT_mut k1 q1
      obtain ⟨n2, m2⟩ := bindT_mut k1 q2
      rw [l2 a n1] at q3
      rw [l2 c n2] at q4
      exact b2.bd.inj a c cs es q m1 m2 q3 q4⟩
    refine ⟨M0, own', st, sp, ρ1, _, b2.step .refl b3 (FixLe.bind k1), k2, fun o q => ?_⟩
    cases o with
    | nx ρ2 => exact fun own2 σ2 H2 s3 b4 => ⟨own2, ρ2, s2.trans s3 b2.sm.some, b4, q⟩
    | rt d' => exact (k _ q).shift ((StpS.of (.of e1)).trans s2 (b.sm.up e1).some) b2.sm.some
  · obtain ⟨own', ρ', s1, b1, g1⟩ := p
    rw [hn, List.drop_length] at g1
    have g1 : Q (.nx ρ') := g1
    exact k _ g1 own' σ' H' ((StpS.of (.of e1)).trans s1 (b.sm.up e1).some) b1
def zFor (pr : Bool) (tg : List Nat) (it : Xp) {bd : Sn} (cb : ChkN F NM G DN N bd) : ChkN F NM G DN N (.for_ pr tg it bd) where
  o := fun S st => match st with
    | .For tgE iter body [] pos => bothT (must (notSet iter && okT pr tg)) (bothT ((chk F NM it).i S tgE pr iter) (bothT (chkG F NM S tgE tg) (cb.b S body) And.intro) And.intro) fun h q => fun X f =>
        PS.canN (ps_for (passes f.s) f.calm (q.1 X f.toFits) (q.2.1 X f.toFits) (q.2.2 X f) (set_ok (and_tt h).1 _)) fun M0 own st sp ρ Q σ H D b w k => forN_go (and_tt h).2 b w k
    | _ => none
def chkSn : ∀ s : Sn, ChkN F NM G DN N s
  | .nil => zNil F NM G DN N
  | .cons a b => zCons F NM G DN N (chkSn a) (chkSn b)
  | .pu s => zPu F NM G DN N s
  | .set i x => zSet F NM G DN N i x
  | .ret x => zRet F NM G DN N x
  | .ite t a b => zIte F NM G DN N t (chkSn a) (chkSn b)
  | .for_ pr tg it b => zFor F NM G DN N pr tg it (chkSn b)
  | .unp js x => zUnp F NM G DN N js x
end
end R60

end -- D18
section -- D19
set_option Elab.async false
set_option linter.all false
set_option maxRecDepth 100000
set_option maxHeartbeats 0
/-! The drawing defs as small programs (printed by gen_prog.py). -/
namespace R60
open PySem L2
def dnames : List Str := ["_law_next", "_law_pick", "_law_constraint", "_law_problem", "_law_shuffled", "_law_bent"]
def DNn (n : Nat) : Nat → Option Str := fun f => if f < n then dnames[f]? else none
def NM2 : List Str := TB.map (·.name) ++ (["_law_told"] : List Str)
def p_next0 : St := (.ite (.eq (.ixM 0 (.int 1)) (.int 0)) (.cons (.set 3 (.ixM 0 (.int 2))) (.cons (.set 4 (.add (.int 7) (.var 3))) (.cons (.ite (.lt (.var 3) (.len (.ixM 0 (.int 0)))) (.cons (.set 4 (.abs (.ix (.ixM 0 (.int 0)) (.var 3)))) .nil) .nil) (.cons (.ite (.lt (.var 4) (.pw (.int 10) (.int 18))) (.cons (.set 4 (.md (.toI (.add (.add (.mul (.var 4) (.int 48271)) (.mul (.var 3) (.int 69621))) (.int 11))) (.int 2147483647))) (.cons (.set 4 (.add (.mul (.md (.toI (.add (.mul (.var 4) (.int 16807)) (.int 13))) (.int 2147483647)) (.int 65537)) (.var 4))) .nil)) .nil) (.cons (.sti 0 (.int 1) (.var 4)) (.cons (.sti 0 (.int 2) (.add (.var 3) (.int 1))) .nil)))))) .nil)
def p_next1 : St := (.set 2 (.md (.toI (.ixM 0 (.int 1))) (.var 1)))
def p_next2 : St := (.sti 0 (.int 1) (.fdv (.ixM 0 (.int 1)) (.var 1)))
def N_law_next : List Str := ["_law_stream_here", "_law_many", "_law_digit", "_law_k", "_law_cell"]
def N_law_shuffled : List Str := ["_law_stream_here", "_law_many", "_law_left", "_law_k"]
def N_law_stream : List Str := ["_law_script"]
def q_law_pick : Sn := (.cons (.ret (.ix (.pu (.var 1)) (.dr 0 0 (.cons (.pu (.len (.var 1))) .nil)))) .nil)
def N_law_pick : List Str := ["_law_stream_here", "_law_rows"]
def q_law_constraint : Sn := (.cons (.ite (.and (.pu (.gt (.var 1) (.int 1))) (.eq (.dr 0 0 (.cons (.pu (.int 2)) .nil)) (.pu (.int 0)))) (.cons (.set 3 (.dr 0 0 (.cons (.pu (.var 1)) .nil))) (.cons (.set 4 (.dr 0 0 (.cons (.pu (.sub (.var 1) (.int 1))) .nil))) (.cons (.pu (.ret (.tup (.cons (.str "ahead") (.cons (.var 3) (.cons (.add (.var 4) (.toI (.ge (.var 4) (.var 3)))) .nil)))))) .nil))) .nil) (.cons (.set 2 (.add (.pu (.int 1)) (.dr 0 0 (.cons (.pu (.var 1)) .nil)))) (.cons (.ret (.tup (.cons (.pu (.str "within")) (.cons (.dr 0 0 (.cons (.pu (.var 1)) .nil)) (.cons (.pu (.var 2)) (.cons (.add (.pu (.var 2)) (.dr 0 0 (.cons (.pu (.add (.sub (.var 1) (.var 2)) (.int 1))) .nil))) .nil)))))) .nil)))
def N_law_constraint : List Str := ["_law_stream_here", "_law_items", "_law_low", "_law_one", "_law_other"]
def q_law_problem : Sn := (.cons (.set 3 (.add (.pu (.int 1)) (.dr 0 0 (.cons (.pu (.var 1)) .nil)))) (.cons (.ret (.tup (.cons (.pu (.var 3)) (.cons (.tlc 4 (.itr (.dr 0 0 (.cons (.pu (.add (.var 2) (.int 1))) .nil))) (.pu (.bl true)) (.dr 0 2 (.cons (.pu (.var 3)) .nil))) .nil)))) .nil))
def N_law_problem : List Str := ["_law_stream_here", "_law_items", "_law_most", "_law_many", "_law_k"]
def q_law_bent : Sn := (.cons (.unp [6, 7] (.var 2)) (.cons (.pu (.set 3 (.ite (.isi .tup (.var 7)) (.var 7) (.tup .nil)))) (.cons (.set 4 (.dr 0 0 (.cons (.pu (.add (.len (.var 3)) (.int 1))) .nil))) (.cons (.set 5 (.dr 0 1 (.cons (.lst (.cons (.dr 0 4 (.cons (.pu (.var 1)) .nil)) (.cons (.pu .non) (.cons (.pu (.tup .nil)) (.cons (.pu (.lst (.cons (.int 0) .nil))) (.cons (.pu (.rep (.tup (.cons (.int 0) .nil)) (.var 1))) (.cons (.pu (.var 6)) .nil))))))) .nil))) (.cons (.ret (.dr 0 1 (.cons (.pu (.lst (.cons (.var 2) (.cons (.var 2) (.cons (.tup (.cons (.var 5) (.cons (.var 7) .nil))) (.cons (.tup (.cons (.var 6) (.cons (.add (.add (.sl (.var 3) .nil (.part (.var 4))) (.tup (.cons (.var 5) .nil))) (.sl (.var 3) (.part (.add (.var 4) (.int 1))) .nil)) .nil))) (.cons (.tup (.cons (.var 6) (.cons (.add (.add (.sl (.var 3) .nil (.part (.var 4))) (.tup (.cons (.var 5) .nil))) (.sl (.var 3) (.part (.var 4)) .nil)) .nil))) (.cons (.tup (.cons (.var 6) (.cons (.add (.sl (.var 3) .nil (.part (.var 4))) (.sl (.var 3) (.part (.add (.var 4) (.int 1))) .nil)) .nil))) (.cons (.tup (.cons (.var 6) (.cons (.rev (.var 3)) .nil))) (.cons (.tup (.cons (.var 6) (.cons (.lstOf (.var 3)) .nil))) (.cons (.tup (.cons (.var 6) (.cons .non .nil))) (.cons (.tup (.cons (.var 7) (.cons (.var 6) .nil))) (.cons (.tup (.cons (.var 6) .nil)) (.cons (.tup (.cons (.var 6) (.cons (.var 7) (.cons (.tup .nil) .nil)))) (.cons (.lst (.cons (.var 6) (.cons (.var 7) .nil))) (.cons .non (.cons (.tup .nil) .nil))))))))))))))))) .nil))) .nil)))))
def N_law_bent : List Str := ["_law_stream_here", "_law_items", "_law_value", "_law_row", "_law_at", "_law_odd", "_law_one", "_law_other"]
def q_law : Sn := (.cons (.set 2 (.dr 1 3 (.cons (.pu (.int 4)) (.cons (.pu (.int 6)) .nil)))) (.cons (.pu (.set 3 (.len (.ix (.var 2) (.int 1))))) (.cons (.pu (.set 4 (.call 49 (.cons (.ix (.var 2) (.int 0)) .nil)))) (.cons (.pu (.set 5 (.tupRg (.var 3)))) (.cons (.for_ false [6] (.itR (.int 4)) (.cons (.set 7 (.tlc 17 (.its (.itS (.var 5))) (.eq (.dr 1 0 (.cons (.pu (.int 2)) .nil)) (.pu (.int 0))) (.pu (.var 17)))) (.cons (.pu (.ite (.gt (.var 6) (.int 0)) (.cons (.set 16 (.lc false [21] (.itS (.var 4)) (.bl true) (.lc false [23] (.itR (.var 3)) (.not (.call 48 (.cons (.ix (.ix (.var 2) (.int 1)) (.var 23)) (.cons (.var 21) .nil)))) (.var 23)))) (.cons (.set 7 (.ite (.eq (.var 6) (.int 1)) (.tupOf (.ix (.mn (.lc false [20] (.itS (.var 16)) (.bl true) (.tup (.cons (.len (.var 20)) (.cons (.var 20) .nil))))) (.int 1))) (.var 5))) .nil)) .nil)) (.cons (.pu (.ite (.eq (.var 6) (.int 3)) (.cons (.for_ false [17] (.itR (.var 3)) (.cons (.set 19 (.call 52 (.cons (.var 7) (.cons (.var 17) .nil)))) (.cons (.set 7 (.ite (.any (.lc false [21] (.itS (.var 4)) (.bl true) (.all (.lc false [22] (.itS (.call 51 (.cons (.var 2) (.cons (.var 19) .nil)))) (.bl true) (.call 48 (.cons (.var 22) (.cons (.var 21) .nil))))))) (.var 7) (.var 19))) .nil))) .nil) .nil)) (.cons (.pu (.set 8 (.lc false [17] (.itS (.var 7)) (.bl true) (.call 52 (.cons (.var 7) (.cons (.var 17) .nil)))))) (.cons (.pu (.set 9 (.lc false [20] (.itS (.add (.lst (.cons (.var 7) .nil)) (.var 8))) (.bl true) (.not (.any (.lc false [21] (.itS (.var 4)) (.bl true) (.all (.lc false [22] (.itS (.call 51 (.cons (.var 2) (.cons (.var 20) .nil)))) (.bl true) (.call 48 (.cons (.var 22) (.cons (.var 21) .nil))))))))))) (.cons (.pu (.set 10 (.lc false [20] (.itS (.add (.lst (.cons (.var 7) .nil)) (.var 8))) (.bl true) (.call 53 (.cons (.var 2) (.cons (.var 20) .nil)))))) (.cons (.pu (.set 11 (.lc false [20] (.itS (.var 10)) (.bl true) (.not (.any (.lc false [21] (.itS (.var 4)) (.bl true) (.all (.lc false [22] (.itS (.call 51 (.cons (.var 2) (.cons (.var 20) .nil)))) (.bl true) (.call 48 (.cons (.var 22) (.cons (.var 21) .nil))))))))))) (.cons (.pu (.set 12 (.lst (.cons (.and (.ix (.var 9) (.int 0)) (.not (.any (.sl (.var 9) (.part (.int 1)) .nil)))) (.cons (.and (.not (.ix (.var 11) (.int 0))) (.all (.sl (.var 11) (.part (.int 1)) .nil))) .nil))))) (.cons (.pu (.set 13 (.lst (.cons (.call 56 (.cons (.int 0) (.cons (.var 2) (.cons (.var 7) .nil)))) (.cons (.call 56 (.cons (.int 1) (.cons (.var 2) (.cons (.var 7) .nil)))) .nil))))) (.cons (.pu (.ite (.or (.ne (.lc false [22] (.itS (.var 13)) (.bl true) (.isi .tup (.var 22))) (.var 12)) (.or (.and (.not (.ix (.var 12) (.int 0))) (.ne (.ix (.var 13) (.int 0)) (.lst (.cons (.str "conflict") (.cons (.bl true) .nil))))) (.and (.not (.ix (.var 12) (.int 1))) (.ne (.ix (.var 13) (.int 1)) (.lst (.cons (.str "correction") (.cons (.bl true) .nil))))))) (.cons (.ret (.bl false)) .nil) .nil)) (.cons (.pu (.ite (.or (.and (.ix (.var 12) (.int 0)) (.not (.call 54 (.cons (.var 2) (.cons (.var 7) (.cons (.ix (.var 13) (.int 0)) .nil)))))) (.and (.ix (.var 12) (.int 1)) (.not (.call 55 (.cons (.var 2) (.cons (.var 7) (.cons (.ix (.var 13) (.int 1)) .nil))))))) (.cons (.ret (.bl false)) .nil) .nil)) (.cons (.set 14 (.tup (.cons (.dr 1 1 (.cons (.pu (.var 4)) .nil)) (.cons (.tlc 17 (.its (.itS (.var 7))) (.pu (.bl true)) (.dr 1 1 (.cons (.pu (.var 4)) .nil))) .nil)))) (.cons (.for_ false [15] (.itS (.add (.lc false [22] (.itS (.var 13)) (.isi .tup (.var 22)) (.var 22)) (.lst (.cons (.var 14) .nil)))) (.cons (.set 15 (.dr 1 5 (.cons (.pu (.ix (.var 2) (.int 0))) (.cons (.pu (.var 15)) .nil)))) (.cons (.pu (.set 18 (.lst (.cons (.call 54 (.cons (.var 2) (.cons (.var 7) (.cons (.var 15) .nil)))) (.cons (.call 55 (.cons (.var 2) (.cons (.var 7) (.cons (.var 15) .nil)))) .nil))))) (.cons (.pu (.ite (.not (.call 47 (.cons (.lst (.cons (.call 41 (.cons (.var 2) (.cons (.var 7) (.cons (.var 15) .nil)))) (.cons (.call 45 (.cons (.var 2) (.cons (.var 7) (.cons (.var 15) .nil)))) .nil))) (.cons (.var 18) .nil)))) (.cons (.ret (.bl false)) .nil) .nil)) (.cons (.pu (.ite (.or (.and (.ix (.var 18) (.int 0)) (.not (.ix (.var 12) (.int 0)))) (.and (.ix (.var 18) (.int 1)) (.not (.ix (.var 12) (.int 1))))) (.cons (.ret (.bl false)) .nil) .nil)) .nil))))) .nil)))))))))))))) (.cons (.pu (.ret (.bl true))) .nil))))))
def N_law : List Str := ["_law_script", "_law_stream_here", "_law_problem_here", "_law_many", "_law_rankings_here", "_law_every", "_law_turn", "_law_indexes", "_law_parts", "_law_torn", "_law_rests", "_law_left", "_law_due", "_law_told_here", "_law_spare", "_law_value", "_law_broken", "_law_index", "_law_good", "_law_less", "_law_row", "_law_ranking", "_law_one", "_law_k"]
end R60

end -- D19
section -- D20
set_option Elab.async false
set_option linter.all false
set_option maxRecDepth 100000
set_option maxHeartbeats 4000000
/-! How programs are run by simp: from the left, nothing ahead of its turn. -/
namespace R60
open PySem PySem.Spec PyProof.Rows L2 RZ
open Evl (Ex)
/-! Lazy twins of bind, map, «if c = true» and andThen: what comes later stands where simp does not look (in an instance's place). -/
class Ct (α β : Type) where
  f : α → β
class Br (α : Type) where
  t : α
  e : α
def bdL {α β : Type} (o : Option α) [c : Ct α (Option β)] : Option β := o.bind c.f
def mpL {α β : Type} (o : Option α) [c : Ct α β] : Option β := o.map c.f
def cdL {α : Type} (b : Bool) [c : Br α] : α := if b = true then c.t else c.e
def thL (o : Out) [c : Ct (List Sl) (Option Out)] : Option Out := o.andThen c.f
section
variable {α β : Type}
theorem bd_in (o : Option α) (f : α → Option β) : o.bind f = @bdL α β o ⟨f⟩ := rfl
theorem bd_some (a : α) (f : α → Option β) : @bdL α β (some a) ⟨f⟩ = f a := rfl
theorem bd_none (f : α → Option β) : @bdL α β none ⟨f⟩ = none := rfl
theorem bd_out (o : Option α) (f : α → Option β) : @bdL α β o ⟨f⟩ = o.bind f := rfl
theorem mp_in (o : Option α) (f : α → β) : o.map f = @mpL α β o ⟨f⟩ := rfl
theorem mp_some (a : α) (f : α → β) : @mpL α β (some a) ⟨f⟩ = some (f a) := rfl
theorem mp_none (f : α → β) : @mpL α β none ⟨f⟩ = none := rfl
theorem mp_out (o : Option α) (f : α → β) : @mpL α β o ⟨f⟩ = o.map f := rfl
theorem cd_in (b : Bool) (x y : α) : (if b = true then x else y) = @cdL α b ⟨x, y⟩ := rfl
theorem cd_t (x y : α) : @cdL α true ⟨x, y⟩ = x := rfl
theorem cd_f (x y : α) : @cdL α false ⟨x, y⟩ = y := rfl
theorem cd_out (b : Bool) (x y : α) : @cdL α b ⟨x, y⟩ = if b = true then x else y := rfl
theorem th_in (o : Out) (f : List Sl → Option Out) : o.andThen f = @thL o ⟨f⟩ := rfl
theorem th_nx (ρ : List Sl) (f : List Sl → Option Out) : @thL (.nx ρ) ⟨f⟩ = f ρ := rfl
theorem th_rt (d : PyData) (f : List Sl → Option Out) : @thL (.rt d) ⟨f⟩ = some (.rt d) := rfl
theorem th_out (o : Out) (f : List Sl → Option Out) : @thL o ⟨f⟩ = o.andThen f := rfl
end
theorem shaped_i (i : Int) : SeqAt.shaped (.int i) = true := rfl
theorem eqD_ii (i j : Int) : eqD (.int i) (.int j) = some (decide (i = j)) := by
  unfold eqD
  rw [shaped_i, shaped_i, eqv_ii]
  rfl
theorem atI_0 {α : Type} {a : α} {l : List α} : atI (a :: l) 0 = some a := atI_nat (j := 0) rfl
theorem atI_1 {α : Type} {a b : α} {l : List α} : atI (a :: b :: l) 1 = some b := atI_nat (j := 1) rfl
theorem atI_2 {α : Type} {a b c : α} {l : List α} : atI (a :: b :: c :: l) 2 = some c := atI_nat (j := 2) rfl
theorem atI_3 {α : Type} {a b c d : α} {l : List α} : atI (a :: b :: c :: d :: l) 3 = some d := atI_nat (j := 3) rfl
section
variable {F : Fs} {N : Nat} {ρ : List Sl} {a b c x y t : Xp} {s s2 : St} {i j n : Nat}
/-! the equations, each once -/
theorem r_nil : run F N .nil ρ = some (.nx ρ) := rfl
theorem r_cons : run F N (.cons s s2) ρ = (run F N s ρ).bind fun o => o.andThen (run F N s2) := rfl
theorem r_set : run F N (.set i x) ρ = (ev F x ρ).map fun d => .nx (ρ.set i (.dat d)) := rfl
theorem r_ret : run F N (.ret x) ρ = (ev F x (frz ρ)).map .rt := rfl
theorem r_ite : run F N (.ite t s s2) ρ = (evT F t ρ).bind fun c => if c = true then run F N s ρ else run F N s2 ρ := rfl
theorem r_exp : run F N (.exp x) ρ = (ev F x ρ).map fun _ => .nx ρ := rfl
theorem r_cpy : run F N (.cpy i j) ρ = (mutD ρ[j]?).map fun ds => .nx ((ρ.set j (.dat (.list ds))).set i (.dat (.list ds))) := rfl
theorem r_newL : run F N (.newL i x) ρ = ((ev F x ρ).bind lstD).map fun ds => .nx (ρ.set i (.mut ds)) := rfl
theorem r_app : run F N (.app i x) ρ = (ev F x ρ).bind fun d => (mutD ρ[i]?).bind fun ds => if ds.length < 100000 then some (.nx (ρ.set i (.mut (ds ++ [d])))) else none := rfl
theorem r_ext : run F N (.ext i x) ρ = ((ev F x ρ).bind lstD).bind fun es => (mutD ρ[i]?).bind fun ds => if ds.length + es.length ≤ 100000 then some (.nx (ρ.set i (.mut (ds ++ es)))) else none := rfl
theorem r_sti : run F N (.sti i y x) ρ = (ev F x ρ).bind fun d => ((ev F y ρ).bind intOfD).bind fun k => (mutD ρ[i]?).bind fun ds => (ixN ds.length k).map fun j => .nx (ρ.set i (.mut (ds.set j d))) := rfl
theorem r_for {pr : Bool} {tg : List Nat} : run F N (.for_ pr tg x s) ρ = (evA F x ρ).bind fun items => forGo (fun d ρ => bindT tg ρ d) (run F N s) items ρ := rfl
theorem r_while : run F N (.while_ t s) ρ = whileGo (evT F t) (run F N s) N ρ := rfl
theorem o_nx {f : List Sl → Option Out} : (Out.nx ρ).andThen f = f ρ := rfl
theorem o_rt {f : List Sl → Option Out} {d : PyData} : (Out.rt d).andThen f = some (.rt d) := rfl
theorem e_T : evT F x ρ = (ev F x ρ).bind truD := rfl
theorem e_A : evA F x ρ = (ev F x ρ).bind tupD := rfl
theorem e_var : ev F (.var i) ρ = varD ρ[i]? := rfl
theorem e_int {k : Int} : ev F (.int k) ρ = some (.int k) := rfl
theorem e_bl {k : Bool} : ev F (.bl k) ρ = some (.bool k) := rfl
theorem e_non : ev F .non ρ = some .none := rfl
theorem e_str {k : Str} : ev F (.str k) ρ = some (.str k) := rfl
theorem e_nil : ev F .nil ρ = some (.tuple []) := rfl
theorem e_cons : ev F (.cons a b) ρ = (ev F a ρ).bind fun x => ((ev F b ρ).bind tupD).map fun xs => .tuple (x :: xs) := rfl
theorem e_tup : ev F (.tup a) ρ = ((ev F a ρ).bind tupD).bind fun xs => if xs.length ≤ 100000 then some (.tuple xs) else none := rfl
theorem e_lst : ev F (.lst a) ρ = ((ev F a ρ).bind tupD).bind fun xs => if xs.length ≤ 100000 then some (.list xs) else none := rfl
theorem e_add : ev F (.add a b) ρ = (ev F a ρ).bind fun x => (ev F b ρ).bind fun y => addD x y := rfl
theorem e_sub : ev F (.sub a b) ρ = (ev F a ρ).bind fun x => (ev F b ρ).bind fun y => intD2 (fun i j => .int (i - j)) x y := rfl
theorem e_rep : ev F (.rep a b) ρ = (ev F a ρ).bind fun x => (ev F b ρ).bind fun y => repD x y := rfl
theorem e_neg : ev F (.neg a) ρ = (ev F a ρ).bind negD := rfl
theorem e_mul : ev F (.mul a b) ρ = (ev F a ρ).bind fun x => (ev F b ρ).bind fun y => mulD x y := rfl
theorem e_md : ev F (.md a b) ρ = (ev F a ρ).bind fun x => (ev F b ρ).bind fun y => mdD x y := rfl
theorem e_fdv : ev F (.fdv a b) ρ = (ev F a ρ).bind fun x => (ev F b ρ).bind fun y => fdvD x y := rfl
theorem e_pw : ev F (.pw a b) ρ = (ev F a ρ).bind fun x => (ev F b ρ).bind fun y => pwD x y := rfl
theorem e_abs : ev F (.abs a) ρ = (ev F a ρ).bind absD := rfl
theorem e_toI : ev F (.toI a) ρ = (ev F a ρ).bind toID := rfl
theorem e_lt : ev F (.lt a b) ρ = (ev F a ρ).bind fun x => (ev F b ρ).bind fun y => intD2 (fun i j => .bool (decide (i < j))) x y := rfl
theorem e_le : ev F (.le a b) ρ = (ev F a ρ).bind fun x => (ev F b ρ).bind fun y => intD2 (fun i j => .bool (decide (i ≤ j))) x y := rfl
theorem e_gt : ev F (.gt a b) ρ = (ev F a ρ).bind fun x => (ev F b ρ).bind fun y => intD2 (fun i j => .bool (decide (j < i))) x y := rfl
theorem e_ge : ev F (.ge a b) ρ = (ev F a ρ).bind fun x => (ev F b ρ).bind fun y => intD2 (fun i j => .bool (decide (j ≤ i))) x y := rfl
theorem e_eq : ev F (.eq a b) ρ = (ev F a ρ).bind fun x => (ev F b ρ).bind fun y => (eqD x y).map .bool := rfl
theorem e_ne : ev F (.ne a b) ρ = (ev F a ρ).bind fun x => (ev F b ρ).bind fun y => (eqD x y).map fun c => .bool (!c) := rfl
theorem e_mem : ev F (.mem a b) ρ = (ev F a ρ).bind fun x => (ev F b ρ).bind fun y => (memD x y).map .bool := rfl
theorem e_nmem : ev F (.nmem a b) ρ = (ev F a ρ).bind fun x => (ev F b ρ).bind fun y => (memD x y).map fun c => .bool (!c) := rfl
theorem e_isN : ev F (.isN a) ρ = (ev F a ρ).map fun x => .bool (isNoneB x) := rfl
theorem e_chain : ev F (.chain a b c) ρ = ((ev F a ρ).bind intOfD).bind fun i => ((ev F b ρ).bind intOfD).bind fun j => ((ev F c ρ).bind intOfD).map fun k => .bool (decide (i ≤ j) && decide (j ≤ k)) := rfl
theorem e_and : ev F (.and a b) ρ = ((ev F a ρ).bind boolD).bind fun c => if c = true then ((ev F b ρ).bind boolD).map .bool else some (.bool false) := rfl
theorem e_or : ev F (.or a b) ρ = ((ev F a ρ).bind boolD).bind fun c => if c = true then some (.bool true) else ((ev F b ρ).bind boolD).map .bool := rfl
theorem e_not : ev F (.not a) ρ = ((ev F a ρ).bind truD).map fun c => .bool (!c) := rfl
theorem e_ite : ev F (.ite t a b) ρ = ((ev F t ρ).bind truD).bind fun c => if c = true then ev F a ρ else ev F b ρ := rfl
theorem e_ix : ev F (.ix a b) ρ = (ev F a ρ).bind fun x => ((ev F b ρ).bind intOfD).bind fun i => ixD x i := rfl
theorem e_ixM : ev F (.ixM n b) ρ = (mutD ρ[n]?).bind fun ds => ((ev F b ρ).bind intOfD).bind fun i => atI ds i := rfl
theorem e_part : ev F (.part a) ρ = ((ev F a ρ).bind intOfD).map .int := rfl
theorem e_sl : ev F (.sl a b c) ρ = (ev F a ρ).bind fun x => ((ev F b ρ).bind fun l => ((ev F c ρ).bind fun h => slD x (intOfD l) (intOfD h))) := rfl
theorem e_rev : ev F (.rev a) ρ = ((ev F a ρ).bind tupD).map fun xs => .tuple xs.reverse := rfl
theorem e_len : ev F (.len a) ρ = (ev F a ρ).bind lenD := rfl
theorem e_isi {k : Ty} : ev F (.isi k a) ρ = (ev F a ρ).map fun x => .bool (isiD k x) := rfl
theorem e_all : ev F (.all a) ρ = (((ev F a ρ).bind lstD).bind (allM boolD)).map fun bs => .bool (bs.all id) := rfl
theorem e_any : ev F (.any a) ρ = (((ev F a ρ).bind lstD).bind (allM boolD)).map fun bs => .bool (bs.any id) := rfl
theorem e_mx : ev F (.mx a) ρ = (((ev F a ρ).bind lstD).bind (allM intOfD)).bind maxD := rfl
theorem e_mn : ev F (.mn a) ρ = ((ev F a ρ).bind lstD).bind minLD := rfl
theorem e_mx2 : ev F (.mx2 a b) ρ = ((ev F a ρ).bind intOfD).bind fun i => ((ev F b ρ).bind intOfD).map fun j => .int (max i j) := rfl
theorem e_sort : ev F (.sort a) ρ = (ev F a ρ).bind sortD := rfl
theorem e_lstOf : ev F (.lstOf a) ρ = ((ev F a ρ).bind tupD).map .list := rfl
theorem e_tupOf : ev F (.tupOf a) ρ = ((ev F a ρ).bind lstD).map .tuple := rfl
theorem e_lstRg : ev F (.lstRg a) ρ = ((ev F a ρ).bind rg1D).map .list := rfl
theorem e_tupRg : ev F (.tupRg a) ρ = ((ev F a ρ).bind rg1D).map .tuple := rfl
theorem e_idx : ev F (.idx a b) ρ = (ev F a ρ).bind fun x => (ev F b ρ).bind fun y => idxD x y := rfl
theorem e_call {f : Nat} : ev F (.call f a) ρ = ((ev F a ρ).bind tupD).bind (F f) := rfl
theorem e_lc {pr : Bool} {tg : List Nat} : ev F (.lc pr tg a b c) ρ = ((ev F a ρ).bind tupD).bind fun items => (lcD tg (evT F b) (ev F c) ρ items).map .list := rfl
theorem e_itS : ev F (.itS a) ρ = ((ev F a ρ).bind seqD).map .tuple := rfl
theorem e_itR : ev F (.itR a) ρ = ((ev F a ρ).bind itR1D).map .tuple := rfl
theorem e_itRg : ev F (.itRg a b) ρ = (ev F a ρ).bind fun x => (ev F b ρ).bind fun y => (itR2D x y).map .tuple := rfl
theorem e_itV : ev F (.itV a) ρ = ((ev F a ρ).bind lstD).map fun xs => .tuple xs.reverse := rfl
theorem e_itN : ev F (.itN a) ρ = ((ev F a ρ).bind tupD).map fun xs => .tuple (enD xs) := rfl
theorem e_itZ : ev F (.itZ a b) ρ = ((ev F a ρ).bind tupD).bind fun xs => ((ev F b ρ).bind tupD).map fun ys => .tuple (zipD xs ys) := rfl
end
section
variable {i j k : Int} {b : Bool} {d : PyData} {ds es : List PyData} {z : Str}
theorem h_var : varD (some (.dat d)) = some d := rfl
theorem h_mut : mutD (some (.mut ds)) = some ds := rfl
theorem h_int : intOfD (.int i) = some i := rfl
theorem h_boo : boolD (.bool b) = some b := rfl
theorem h_trb : truD (.bool b) = some b := rfl
theorem h_trl : truD (.list ds) = some (!ds.isEmpty) := rfl
theorem h_trt : truD (.tuple ds) = some (!ds.isEmpty) := rfl
theorem h_lst : lstD (.list ds) = some ds := rfl
theorem h_tup : tupD (.tuple ds) = some ds := rfl
theorem h_sql : seqD (.list ds) = some ds := rfl
theorem h_sqt : seqD (.tuple ds) = some ds := rfl
theorem h_add : addD (.int i) (.int j) = some (.int (i + j)) := rfl
theorem h_in2 {g : Int → Int → PyData} : intD2 g (.int i) (.int j) = some (g i j) := rfl
theorem h_neg : negD (.int i) = some (.int (-i)) := rfl
theorem h_mul (h : -(2 ^ 64) < j ∧ j < 2 ^ 64) : mulD (.int i) (.int j) = some (.int (i * j)) := if_pos h
theorem h_md (h : 0 < j) : mdD (.int i) (.int j) = some (.int (i % j)) := if_pos h
theorem h_fdv (h : 0 < j ∧ j < 1073741824) : fdvD (.int i) (.int j) = some (.int (i / j)) := if_pos h
theorem h_abs : absD (.int i) = some (.int (if i < 0 then -i else i)) := rfl
theorem h_toi : toID (.int i) = some (.int i) := rfl
theorem h_tob : toID (.bool b) = some (.int (if b then 1 else 0)) := rfl
theorem h_lnl : lenD (.list ds) = some (.int (ds.length : Int)) := rfl
theorem h_lnt : lenD (.tuple ds) = some (.int (ds.length : Int)) := rfl
theorem h_ixl : ixD (.list ds) i = atI ds i := rfl
theorem h_ixt : ixD (.tuple ds) i = atI ds i := rfl
theorem h_frz : frz ([] : List Sl) = [] := rfl
theorem h_frd {r : List Sl} : frz (.dat d :: r) = .dat d :: frz r := rfl
theorem h_frn {r : List Sl} : frz (.no :: r) = .no :: frz r := rfl
theorem h_frm {r : List Sl} : frz (.mut ds :: r) = .dat (.list ds) :: frz r := rfl
theorem h_fsm : frzS (.mut ds) = .dat (.list ds) := rfl
theorem h_fsd : frzS (.dat d) = .dat d := rfl
theorem h_fsn : frzS .no = .no := rfl
theorem h_itt : isiD .tup (.tuple ds) = true := rfl
theorem h_itl : isiD .tup (.list ds) = false := rfl
theorem h_iti : isiD .tup (.int i) = false := rfl
theorem h_its : isiD .tup (.str z) = false := rfl
theorem h_itn : isiD .tup .none = false := rfl
theorem h_itb : isiD .tup (.bool b) = false := rfl
theorem h_isi : isiD .int (.int i) = true := rfl
theorem h_isb : isiD .bool (.int i) = false := rfl
theorem h_iss : isiD .str (.str z) = true := rfl
theorem h_out : outD (.rt d) = d := rfl
theorem h_isN : isNoneB .none = true := rfl
end
end R60
end -- D20
/-! simp! runs a small program, as far as it goes by itself -/
local macro_rules
  | `(tactic| simp! [$ls,*]) => `(tactic| simp only [↓R60.bd_in, ↓R60.mp_in, ↓R60.cd_in, ↓R60.th_in, R60.bd_some, R60.bd_none, R60.mp_some, R60.mp_none, R60.cd_t, R60.cd_f, R60.th_nx, R60.th_rt,
  R60.r_nil, R60.r_cons, R60.r_set, R60.r_ret, R60.r_ite, R60.r_exp, R60.r_cpy, R60.r_newL, R60.r_app, R60.r_ext, R60.r_sti, R60.r_for,
  R60.e_T, R60.e_A, R60.e_var, R60.e_int, R60.e_bl, R60.e_non, R60.e_str, R60.e_nil, R60.e_cons, R60.e_tup, R60.e_lst, R60.e_add,
  R60.e_sub, R60.e_rep, R60.e_neg, R60.e_mul, R60.e_md, R60.e_fdv, R60.e_pw, R60.e_abs, R60.e_toI, R60.e_lt, R60.e_le, R60.e_gt,
  R60.e_ge, R60.e_eq, R60.e_ne, R60.e_mem, R60.e_nmem, R60.e_isN, R60.e_chain, R60.e_and, R60.e_or, R60.e_not, R60.e_ite, R60.e_ix,
  R60.e_ixM, R60.e_part, R60.e_sl, R60.e_rev, R60.e_len, R60.e_isi, R60.e_all, R60.e_any, R60.e_mx, R60.e_mn, R60.e_mx2, R60.e_sort,
  R60.e_lstOf, R60.e_tupOf, R60.e_lstRg, R60.e_tupRg, R60.e_idx, R60.e_call, R60.e_lc, R60.e_itS, R60.e_itR, R60.e_itRg, R60.e_itV, R60.e_itN,
  R60.e_itZ, R60.h_var, R60.h_mut, R60.h_int, R60.h_boo, R60.h_trb, R60.h_trl, R60.h_trt, R60.h_lst, R60.h_tup, R60.h_sql, R60.h_sqt,
  R60.h_add, R60.h_in2, R60.h_neg, R60.h_abs, R60.h_toi, R60.h_tob, R60.h_lnl, R60.h_lnt, R60.h_ixl, R60.h_ixt, R60.h_frz, R60.h_frd,
  R60.h_frn, R60.h_frm, R60.h_itt, R60.h_itl, R60.h_iti, R60.h_its, R60.h_itn, R60.h_itb, R60.h_isi, R60.h_isb, R60.h_iss, R60.h_out,
  R60.h_isN, R60.eqD_ii, R60.atI_0, R60.atI_1, R60.atI_2, R60.atI_3, List.getElem?_cons_zero, List.getElem?_cons_succ, List.set_cons_zero, List.set_cons_succ, reduceIte, Bool.false_eq_true,
  Bool.not_true, Bool.not_false, Bool.true_and, Bool.and_true, Bool.false_and, Bool.and_false, decide_true, decide_false, $ls,*] <;> try simp only [R60.bd_out, R60.mp_out, R60.cd_out, R60.th_out])
section -- D20
set_option Elab.async false
set_option linter.all false
set_option maxRecDepth 100000
set_option maxHeartbeats 4000000
namespace R60
open PySem PySem.Spec PyProof.Rows L2 RZ
open Evl (Ex)
theorem atI_ints {xs : List Int} {k : Int} (h0 : 0 ≤ k) (h1 : k < (xs.length : Int)) : ∃ x : Int, atI (xs.map PyData.int) k = some (.int x) := by
  have hk : k.toNat < xs.length := by omega
  refine ⟨xs[k.toNat], ?_⟩
  have e : ((k.toNat : Nat) : Int) = k := by omega
  have := atI_nat (xs := xs.map PyData.int) (j := k.toNat) (v := .int xs[k.toNat]) (by simp [hk])
  rwa [e] at this
/-- the stream's slot -/
abbrev stm (xs : List Int) (c k : Int) : Sl := .mut [.list (xs.map PyData.int), .int c, .int k]
theorem m1 : -(2 ^ 64) < (48271 : Int) ∧ (48271 : Int) < 2 ^ 64 := by decide
theorem m2 : -(2 ^ 64) < (69621 : Int) ∧ (69621 : Int) < 2 ^ 64 := by decide
theorem m3 : -(2 ^ 64) < (16807 : Int) ∧ (16807 : Int) < 2 ^ 64 := by decide
theorem m4 : -(2 ^ 64) < (65537 : Int) ∧ (65537 : Int) < 2 ^ 64 := by decide
theorem m5 : (0 : Int) < 2147483647 := by decide
theorem m6 : pwD (.int 10) (.int 18) = some (.int 1000000000000000000) := rfl
theorem m7 {xs : List PyData} {x y : PyData} {k : Int} : (ixN [xs.length, 0, 0].length 1) = some 1 := rfl
theorem l3 {a b c : PyData} : [a, b, c].length = 3 := rfl
theorem ix31 : ixN 3 1 = some 1 := rfl
theorem ix32 : ixN 3 2 = some 2 := rfl
theorem next0 {F : Fs} {xs : List Int} {c k m : Int} (hk : 0 ≤ k) : ∃ (c' k' : Int) (s3 s4 : Sl), run F WN p_next0 [stm xs c k, .dat (.int m), .no, .no, .no] = some (.nx [stm xs c' k', .dat (.int m), .no, s3, s4]) ∧ 0 ≤ k' := by
  unfold p_next0 stm
  by_cases hc : c = 0
  · have h7 : decide (c = 0) = true := decide_eq_true hc
    by_cases hl : k < ((xs.map PyData.int).length : Int)
    · have h8 : decide (k < ((xs.map PyData.int).length : Int)) = true := decide_eq_true hl
      obtain ⟨x, hx⟩ := atI_ints hk (by simpa using hl)
      by_cases hs : (if x < 0 then -x else x) < 1000000000000000000
      · have h9 := decide_eq_true hs
        simp! [h7, h8, hx, m6, h9, h_mul m1, h_mul m2, h_mul m3, h_mul m4, h_md m5, l3, ix31, ix32]
        exact ⟨_, _, _, _, rfl, by omega⟩
      · have h9 := decide_eq_false hs
        simp! [h7, h8, hx, m6, h9, h_mul m1, h_mul m2, h_mul m3, h_mul m4, h_md m5, l3, ix31, ix32]
        exact ⟨_, _, _, _, rfl, by omega⟩
    · have h8 : decide (k < ((xs.map PyData.int).length : Int)) = false := decide_eq_false hl
      by_cases hs : 7 + k < 1000000000000000000
      · have h9 := decide_eq_true hs
        simp! [h7, h8, m6, h9, h_mul m1, h_mul m2, h_mul m3, h_mul m4, h_md m5, l3, ix31, ix32]
        exact ⟨_, _, _, _, rfl, by omega⟩
      · have h9 := decide_eq_false hs
        simp! [h7, h8, m6, h9, h_mul m1, h_mul m2, h_mul m3, h_mul m4, h_md m5, l3, ix31, ix32]
        exact ⟨_, _, _, _, rfl, by omega⟩
  · have h7 : decide (c = 0) = false := decide_eq_false hc
    simp! [h7]
    exact ⟨_, _, _, _, rfl, hk⟩
theorem next1 {F : Fs} {xs : List Int} {c k m : Int} {s3 s4 : Sl} (hm : 0 < m) : run F WN p_next1 [stm xs c k, .dat (.int m), .no, s3, s4] = some (.nx [stm xs c k, .dat (.int m), .dat (.int (c % m)), s3, s4]) := by
  unfold p_next1 stm
  simp! [h_md hm]
theorem next2 {F : Fs} {xs : List Int} {c k m d : Int} {s3 s4 : Sl} (hm : 0 < m) (h2 : m < 1073741824) : run F WN p_next2 [stm xs c k, .dat (.int m), .dat (.int d), s3, s4] = some (.nx [stm xs (c / m) k, .dat (.int m), .dat (.int d), s3, s4]) := by
  unfold p_next2 stm
  simp! [h_fdv ⟨hm, h2⟩, l3, ix31]
end R60

end -- D20
section -- D21
set_option Elab.async false
set_option linter.all false
set_option maxRecDepth 100000
set_option maxHeartbeats 4000000
/-! _law_next keeps its promise: statements that change the first slot's list and nothing else. -/
namespace R60
open PySem PySem.Spec PyProof.Rows L2 RZ
open Evl (Ex)
structure Bq (M0 : List Addr) (st sp : Addr) (σ : L2.St) (H : Hp) (ρ : List Sl) : Prop where
  bd : Bd M0 [st] σ H ρ
  s0 : σ[0]? = some (some (.ref st))
  hd : ∃ vs : List V, H st = some (.lst (.ref sp :: vs))
theorem ixN_pos {n j : Nat} {k : Int} (h : ixN n k = some j) (h1 : 1 ≤ k) : j ≠ 0 := by
  unfold ixN at h
  rw [if_pos (by omega)] at h
  split at h
  · cases h
    omega
  · cases h
def OkQ (M0 : List Addr) (st sp : Addr) (H : Hp) (D : Ends) : Out → Prop
  | .nx ρ' => ∀ (σ' : L2.St) (H' : Hp), Stp [st] H [st] H' → Bq M0 st sp σ' H' ρ' → D.nx σ' H'
  | .rt d => False
theorem OkQ.shift {M0 : List Addr} {st sp : Addr} {H H1 : Hp} {D : Ends} {out : Out} (s : Stp [st] H [st] H1) (h : OkQ M0 st sp H D out) : OkQ M0 st sp H1 D out := by
  cases out with
  | nx ρ' => exact fun σ' H' t b => h σ' H' (s.trans t) b
  | rt d => exact h
def cQ (F : Fs) (N : Nat) (s : St) : TS := fun D σ H => ∃ (M0 : List Addr) (st sp : Addr) (ρ : List Sl) (out : Out), Bq M0 st sp σ H ρ ∧ run F N s ρ = some out ∧ OkQ M0 st sp H D out
section
variable (F : Fs) (NM : List Str) (N : Nat)
structure ChkQ (s : St) where
  o : ∀ (S : Sc) (st : Stmt), Tr (∀ X, FitsS F NM S X → PS X st (cQ F N s)) := fun _ _ => none
  b : ∀ (S : Sc) (sts : List Stmt), Tr (∀ X, FitsS F NM S X → PSs X sts (cQ F N s)) := fun _ _ => none
theorem PS.canQ {F : Fs} {N : Nat} {X : Cx} {st' : Stmt} {t : TS} {s : St} (h : PS X st' t) (hs : ∀ (M0 : List Addr) (st sp : Addr) (ρ : List Sl) (out : Out) (σ : L2.St) (H : Hp) (D : Ends), Bq M0 st sp σ H ρ → run F N s ρ = some out → OkQ M0 st sp H D out → t D σ H) : PS X st' (cQ F N s) :=
  ⟨fun pins s' σ H D I ⟨M0, st, sp, ρ, out, b, r, k⟩ => h.run pins s' σ H D I (hs M0 st sp ρ out σ H D b r k)⟩
theorem PSs.canQ {F : Fs} {N : Nat} {X : Cx} {st' : List Stmt} {t : TS} {s : St} (h : PSs X st' t) (hs : ∀ (M0 : List Addr) (st sp : Addr) (ρ : List Sl) (out : Out) (σ : L2.St) (H : Hp) (D : Ends), Bq M0 st sp σ H ρ → run F N s ρ = some out → OkQ M0 st sp H D out → t D σ H) : PSs X st' (cQ F N s) :=
  ⟨fun pins s' σ H D I ⟨M0, st, sp, ρ, out, b, r, k⟩ => h.run pins s' σ H D I (hs M0 st sp ρ out σ H D b r k)⟩
def qSet (i : Nat) (x : Xp) : ChkQ F NM N (.set i x) where
  o := fun S st => match st with
    | .Assign [.Name y py] e pos => bothT (must (notLc e && chkN S i y && decide (i ≠ 0))) ((chk F NM x).e S e) fun hn he => fun X f => by
        obtain ⟨hn, h0⟩ := and_tt hn
        obtain ⟨h, hn⟩ := and_tt hn
        have h0 : i ≠ 0 := of_decide_eq_true h0
        exact PS.canQ (ps_setP f.toFits hn (he X f.toFits) h) fun M0 st sp ρ out σ H D b r k => by
          obtain ⟨d, h1, rfl⟩ := map_some (show (ev F x ρ).map (fun d => Out.nx (ρ.set i (.dat d))) = some out from r)
          exact ce h1 [st] ([st] ++ M0) σ H b.bd.se b.bd.al _ fun v H2 e r => k _ H2 (.of e) ⟨(b.bd.up e).set i r, by rw [List.getElem?_set_ne h0]; exact b.s0, let ⟨vs, hv⟩ := b.hd; ⟨vs, e _ _ hv⟩⟩
    | _ => none
def qSti (kk : Int) (x : Xp) : ChkQ F NM N (.sti 0 (.int kk) x) where
  o := fun S st => match st with
    | .Assign [.Subscript (.Name y yp) ie ip] e pos => bothT (must (varB S 0 y && plainB ie && notLc e && decide (1 ≤ kk))) (bothT ((chk F NM (.int kk)).e S ie) ((chk F NM x).e S e) And.intro) fun h h12 => by
        obtain ⟨h, hk1⟩ := and_tt h
        obtain ⟨h, hl⟩ := and_tt h
        obtain ⟨hv, hp⟩ := and_tt h
        have hk1 : 1 ≤ kk := of_decide_eq_true hk1
        exact fun X f => PS.canQ (ps_asg (h12.2 X f.toFits) (pg_sub (pe_varB hv f.toFits) (h12.1 X f.toFits) set_list (sub_ok hp)) (sws_ok hl _ _) (hw_ok hl) rfl) fun M0 st sp ρ out σ H D b r k => by
          obtain ⟨d, h1, r⟩ := bind_some (show (ev F x ρ).bind (fun d => ((ev F (.int kk) ρ).bind intOfD).bind fun k => (mutD ρ[0]?).bind fun ds => (ixN ds.length k).map fun j => Out.nx (ρ.set 0 (.mut (ds.set j d)))) = some out from r)
          obtain ⟨n, h2, r⟩ := bind_some r
          obtain ⟨ds, h3, r⟩ := bind_some r
          obtain ⟨j, h4, rfl⟩ := map_some r
          have hm := mutD_eq h3
          refine ce h1 [st] ([st] ++ M0) σ H b.bd.se b.bd.al _ fun v H1 e1 r1 => ?_
          obtain ⟨p, vs, g1, g2, g3, g4⟩ := (b.bd.up e1).se.mut hm
          have gp : p = st := by simpa using g2
          subst gp
          refine ⟨.ref p, g1, ce (bind_int h2) [p] ([p] ++ M0) σ H1 (b.bd.up e1).se (b.bd.up e1).al _ fun u H2 e2 r2 => ?_⟩
          rw [r2.is_int]
          refine ⟨p, vs, n, j, rfl, rfl, e2 _ _ g3, by rw [g4.len]; exact h4, ?_⟩
          have hn : n = kk := by
            have : some kk = some n := h2
            exact (Option.some.inj this).symm
          have hd2 : ∃ ws : List V, (upd H2 p (.lst (vs.set j v))) p = some (.lst (.ref sp :: ws)) := by
            obtain ⟨ws, hw⟩ := b.hd
            have hw2 := e1 _ _ hw
            rw [g3] at hw2
            cases hw2
            have hj := ixN_pos h4 (by omega)
            cases j with
            | zero => exact absurd rfl hj
            | succ j => exact ⟨ws.set j v, by rw [upd_same]; rfl⟩
          exact k _ _ ((Stp.of (e1.trans e2)).trans (.put g2)) ⟨(b.bd.up (e1.trans e2)).put hm g1 g2 ((g4.up (hide_mono e2)).set j (r1.up (hide_mono e2))), b.s0, hd2⟩
    | _ => none
def qNil : ChkQ F NM N .nil where
  b := fun S sts => match sts with
    | [] => some ⟨fun X f => PSs.canQ pss_nil fun M0 st sp ρ out σ H D b r k => by
        have r : some (Out.nx ρ) = some out := r
        cases r
        exact k σ H .refl b⟩
    | _ => none
def qCons {a b : St} (c1 : ChkQ F NM N a) (c2 : ChkQ F NM N b) : ChkQ F NM N (.cons a b) where
  b := fun S sts => match sts with
    | st :: r => bothT (c1.o S st) (c2.b S r) fun h1 h2 => fun X f => PSs.canQ (pss_cons (h1 X f) (h2 X f)) fun M0 st sp ρ out σ H D bd r k => by
        obtain ⟨o, h1, h2⟩ := bind_some (show (run F N a ρ).bind (fun o => o.andThen (run F N b)) = some out from r)
        refine ⟨M0, st, sp, ρ, o, bd, h1, ?_⟩
        cases o with
        | nx ρ1 => exact fun σ' H' s b' => ⟨M0, st, sp, ρ1, out, b', h2, k.shift s⟩
        | rt d =>
          cases h2
          exact k
    | [] => none
def qIte {a b : St} (t : Xp) (c1 : ChkQ F NM N a) (c2 : ChkQ F NM N b) : ChkQ F NM N (.ite t a b) where
  o := fun S st => match st with
    | .If c s1 s2 pos => bothT ((chk F NM t).t S c) (bothT (c1.b S s1) (c2.b S s2) And.intro) fun h h12 => fun X f => PS.canQ (ps_if (h X f.toFits) (h12.1 X f) (h12.2 X f)) fun M0 st sp ρ out σ H D b' r k => by
        obtain ⟨c, h1, r⟩ := bind_some (show (evT F t ρ).bind (fun c => if c then run F N a ρ else run F N b ρ) = some out from r)
        refine ct h1 [st] ([st] ++ M0) σ H b'.bd.se b'.bd.al _ fun H2 e => ?_
        cases c with
        | true => exact ⟨M0, st, sp, ρ, out, ⟨b'.bd.up e, b'.s0, let ⟨vs, hv⟩ := b'.hd; ⟨vs, e _ _ hv⟩⟩, r, k.shift (.of e)⟩
        | false => exact ⟨M0, st, sp, ρ, out, ⟨b'.bd.up e, b'.s0, let ⟨vs, hv⟩ := b'.hd; ⟨vs, e _ _ hv⟩⟩, r, k.shift (.of e)⟩
    | _ => none
def chkQ : ∀ s : St, ChkQ F NM N s
  | .nil => qNil F NM N
  | .cons a b => qCons F NM N (chkQ a) (chkQ b)
  | .set i x => qSet F NM N i x
  | .sti i ix x => match i, ix with
    | 0, .int kk => qSti F NM N kk x
    | _, _ => {}
  | .ite t a b => qIte F NM N t (chkQ a) (chkQ b)
  | .cpy _ _ => {}
  | .newL _ _ => {}
  | .app _ _ => {}
  | .ext _ _ => {}
  | .ret _ => {}
  | .for_ _ _ _ _ => {}
  | .while_ _ _ => {}
  | .exp _ => {}
  | .srt _ _ _ _ _ => {}
  | .never => {}
end
/-! ### what the drawing defs promise -/
/-- data of bounded depth and width, without dicts -/
def fine : Nat → PyData → Bool
  | _, .none => true
  | _, .bool _ => true
  | _, .int _ => true
  | _, .str s => PyData.strOk s
  | 0, .list _ => false
  | 0, .tuple _ => false
  | n + 1, .list ds => decide (ds.length ≤ 1000) && ds.all (fine n)
  | n + 1, .tuple ds => decide (ds.length ≤ 1000) && ds.all (fine n)
  | _, .dict _ => false
def G0 : Gs := fun f ds P => match f, ds with
  | 0, [.int m] => 0 < m ∧ m < 1073741824 ∧ ∀ d : Int, 0 ≤ d → d < m → P (.int d)
  | 1, [.list rows] => rows ≠ [] ∧ rows.length ≤ 1000 ∧ ∀ r ∈ rows, P r
  | 2, [.int n] => 1 ≤ n ∧ n ≤ 7 ∧ ∀ c : Con, c.ok n.toNat → P c.D
  | 3, [.int n, .int m] => 1 ≤ n ∧ n ≤ 7 ∧ 0 ≤ m ∧ m ≤ 12 ∧ ∀ p : Prob, p.Ok → (p.n : Int) ≤ n → (p.cs.length : Int) ≤ m → P p.D
  | 4, [.int n] => 0 ≤ n ∧ n ≤ 7 ∧ ∀ ns : List Int, (ns.length : Int) = n → P (.tuple (ns.map PyData.int))
  | 5, [.int n, .tuple [one, other]] => 1 ≤ n ∧ n ≤ 7 ∧ fine 10 one = true ∧ fine 10 other = true ∧ (∀ rs, other = .tuple rs → rs.length ≤ 900) ∧ ∀ v, fine 12 v = true → P v
  | _, _ => False
/-- a def as it stands -/
def DefHas (K : PySem.W.Frag) (mg : Str → Option Value) (name : Str) (st : Stmt) (N ps : List Str) : Prop := ∃ (x qual : Str) (a : Addr) (fdat : FuncData), FunD K x qual (defArgs st) (defBody st) (defScope st) [] [] a fdat ∧ mg name = some (.ref a) ∧ Binds K fdat ps [] ∧ FnScope N ps (defScope st)
/-- what is known one level below -/
structure Lv (P : Program) (w : World) (K : PySem.W.Frag) (mg : Str → Option Value) (base : Heap) (F : Fs) (NM : List Str) (G : Gs) (DN : Nat → Option Str) (j : Nat) : Prop where
  blt : ∀ b ∈ bltNames, mg b = none
  con : ∀ p ∈ conNames, ∃ t, mg p.1 = some (.int p.2 t)
  call : ∀ f x, NM[f]? = some x → C8.Cal P w K mg base j x (spF F f) []
  draw : ∀ f x, DN f = some x → C8.Cal P w K mg base j x (spD G f) []
section
variable {P : Program} {w : World} {K : PySem.W.Frag} {mg : Str → Option Value} {base : Heap} {F : Fs} {NM : List Str} {G : Gs} {DN : Nat → Option Str} {j : Nat}
theorem Lv.fits (l : Lv P w K mg base F NM G DN j) {N ps : List Str} {sc : Scope} {qual : Str} {a : Addr} {cdv : Value} {A : Around} {outer : List Env} {s : Shared} {H : Hp} {E : XK} {CX : CXT} (S : FnScope N ps sc) (hr : Room j (A.deeper (envOfC qual sc s.heap.objs.size a cdv))) :
    FitsNS F NM G DN ⟨N, sc, fun _ => true⟩ (cxOf CX P w K mg base N qual sc a cdv A outer s H E).nox :=
  ⟨⟨⟨rfl, S.nd, rfl, rfl, rfl, ⟨j, hr⟩, l.blt, l.con, fun f x h => ⟨j, hr, l.call f x h⟩⟩, fun f x h => ⟨j, hr, l.draw f x h⟩⟩, rfl⟩
theorem start_at {N : List Str} {vs : List V} {i : Nat} {v : V} (h : vs[i]? = some v) : (L2.start N vs)[i]? = some (some v) := by
  have hl := (List.getElem?_eq_some_iff.mp h).1
  unfold L2.start
  rw [List.getElem?_append_left (by simpa using hl), List.getElem?_map, h]
  rfl
theorem se_of {M own : List Addr} {H : Hp} {N : List Str} : ∀ {vs : List V} {ss : List Sl}, vs.length = ss.length → vs.length ≤ N.length → (∀ (i : Nat) (v : V) (t : Sl), vs[i]? = some v → ss[i]? = some t → SlOk own M H (some v) t) →
    SE own M (L2.start N vs) H (ss ++ List.replicate (N.length - ss.length) Sl.no) := by
  intro vs ss hl hn h
  refine ⟨by unfold L2.start; simp; omega, fun i t hi => ?_⟩
  by_cases c : i < ss.length
  · rw [List.getElem?_append_left c] at hi
    have hv : vs[i]? = some vs[i] := List.getElem?_eq_getElem (by omega)
    exact ⟨some vs[i], start_at hv, h i _ t hv hi⟩
  · rw [List.getElem?_append_right (by omega)] at hi
    have hm := List.mem_of_getElem? hi
    have ht := List.eq_of_mem_replicate hm
    subst ht
    have hi2 := (List.getElem?_eq_some_iff.mp hi).1
    rw [List.length_replicate] at hi2
    refine ⟨none, ?_, by unfold SlOk; trivial⟩
    unfold L2.start
    rw [List.getElem?_append_right (by simp; omega), List.getElem?_replicate, if_pos (by simp; omega)]
theorem next_cal (l : Lv P w K mg base F NM G0 DN j) (h : DefHas K mg "_law_next" sN N_law_next ["_law_stream_here", "_law_many"])
    (b0 b1 b2 : Stmt) (hb : ∃ (pr pn : Pos), defBody sN = [b0, b1, b2, .Return (some (.Name "_law_digit" pn)) pr])
    (h0 : ∀ X, FitsS F NM ⟨N_law_next, defScope sN, fun _ => true⟩ X → PS X b0 (cQ F WN p_next0)) (h1 : ∀ X, FitsS F NM ⟨N_law_next, defScope sN, fun _ => true⟩ X → PS X b1 (cQ F WN p_next1))
    (h2 : ∀ X, FitsS F NM ⟨N_law_next, defScope sN, fun _ => true⟩ X → PS X b2 (cQ F WN p_next2)) (hv : visB ⟨N_law_next, defScope sN, fun _ => true⟩ "_law_digit" = true) : C8.Cal P w K mg base (j + 1) "_law_next" (spD G0 0) [] := by
  obtain ⟨x, qual, a, fdat, Fd, hm, bd, S⟩ := h
  have arg : ∀ (vs : List V) (H : Hp) (Q : VK) (E : XK), spD G0 0 vs H Q E → ∃ (M : List Addr) (st sp : Addr) (m : Int) (P : PyData → Prop), vs = [.ref st, .int m] ∧ Al M H ∧ st ∈ M ∧ sp ∈ M ∧ Sm st sp H ∧ (0 < m ∧ m < 1073741824 ∧ ∀ d : Int, 0 ≤ d → d < m → P (.int d)) ∧ ∀ v H2 d, ExS st H H2 → Sm st sp H2 → Rp (hide M H2) v d → P d → Q v H2 := by
    rintro vs H Q E ⟨M, st, sp, vs', ds, P, rfl, al, hst, hsp, sm, r, g, q⟩
    cases r with
    | nil => exact g.elim
    | cons r t =>
      cases t with
      | cons r2 t2 => cases r <;> exact g.elim
      | nil =>
        cases r with
        | int m => exact ⟨M, st, sp, m, P, rfl, al, hst, hsp, sm, g, q⟩
        | _ => exact g.elim
  refine ⟨a, fdat, _, [], Fd.ok S (fun vs H Q E q => ?_) (fun cdv A outer s H vs Q E hr q => ?_), hm, Fd.kp, bd, .nil⟩
  · obtain ⟨M, st, sp, m, P, rfl, _⟩ := arg vs H Q E q
    rfl
  · obtain ⟨M, st, sp, m, P', rfl, al, hst, hsp, sm, ⟨m0, m1, g⟩, q⟩ := arg vs H Q E q
    obtain ⟨pr, pn, hb⟩ := hb
    rw [hb]
    have ft := l.fits (CX := C8.CX0) (qual := qual) (a := a) (cdv := cdv) (A := A) (outer := outer) (s := s) (H := H) (E := E) S hr
    have fs : FitsS F NM ⟨N_law_next, defScope sN, fun _ => true⟩ _ := ft.s
    refine ⟨tSeq (cQ F WN p_next0) (tSeq (cQ F WN p_next1) (tSeq (cQ F WN p_next2) (tRet (tVar 2)))), PSs.nox (pss_cons (h0 _ fs) (pss_cons (h1 _ fs) (pss_cons (h2 _ fs) (pss_one (ps_ret (pe_var (i := 2) rfl (vis_ok hv fs.toFits))))))), ?_⟩
    have ne := sm.ne
    obtain ⟨xs, c, k, k1, k2, k3⟩ := sm
    have hsub : ∀ b ∈ [st] ++ M.filter (fun b => decide (b ≠ st ∧ b ≠ sp)), b = st ∨ b ∈ M := fun b hb => by
      rcases List.mem_append.mp hb with z | z
      · left; simpa using z
      · right; exact (List.mem_filter.mp z).1
    have spo : sp ∉ [st] ++ M.filter (fun b => decide (b ≠ st ∧ b ≠ sp)) := fun z => by
      rcases List.mem_append.mp z with z | z
      · exact ne (by simpa using z)
      · have := (List.mem_filter.mp z).2
        simp at this
    have bq : Bq (M.filter (fun b => decide (b ≠ st ∧ b ≠ sp))) st sp (L2.start N_law_next [.ref st, .int m]) H [stm xs c k, .dat (.int m), .no, .no, .no] := by
      refine ⟨⟨?_, fun b hb => ?_, fun p hp z => ?_, fun i i' ds es p q1 q2 _ _ => ?_⟩, start_at rfl, _, k1⟩
      · have := se_of (own := [st]) (M := [st] ++ M.filter (fun b => decide (b ≠ st ∧ b ≠ sp))) (H := H) (N := N_law_next) (vs := [.ref st, .int m]) (ss := [stm xs c k, .dat (.int m)]) rfl (show 2 ≤ N_law_next.length by decide) (fun i v t hv ht => by
          match i, hv, ht with
          | 0, hv, ht =>
            cases hv
            cases ht
            exact ⟨by simp, _, k1, .cons (.lst (by rw [hide_out spo]; exact k2) (RpAll.of_ints xs)) (.cons (.int c) (.cons (.int k) .nil))⟩
          | 1, hv, ht =>
            cases hv
            cases ht
            exact Rp.int m
          | n + 2, hv, ht => cases hv)
        exact this
      · rcases hsub b hb with z | z
        · rw [z, k1]; simp
        · exact al b z
      · have hp : p = st := by simpa using hp
        have := (List.mem_filter.mp z).2
        rw [hp] at this
        simp at this
      · match i, i', q1, q2 with
        | 0, 0, _, _ => rfl
        | 0, 1, _, q2 => cases q2
        | 0, 2, _, q2 => cases q2
        | 0, 3, _, q2 => cases q2
        | 0, 4, _, q2 => cases q2
        | 0, n + 5, _, q2 => cases q2
        | 1, _, q1, _ => cases q1
        | 2, _, q1, _ => cases q1
        | 3, _, q1, _ => cases q1
        | 4, _, q1, _ => cases q1
        | n + 5, _, q1, _ => cases q1
    obtain ⟨c', k', s3, s4, r0, hk'⟩ := next0 (F := F) (xs := xs) (c := c) (m := m) k3
    refine ⟨_, st, sp, _, _, bq, r0, fun σ1 H1 t1 b1 => ⟨_, st, sp, _, _, b1, next1 m0, fun σ2 H2 t2 b2 => ⟨_, st, sp, _, _, b2, next2 m0 m1, fun σ3 H3 t3 b3 => ?_⟩⟩⟩
    have tt := (t1.trans t2).trans t3
    obtain ⟨v, v1, v2⟩ := b3.bd.se.dat (i := 2) rfl
    obtain ⟨p, vs, g1, g2, g3, g4⟩ := b3.bd.se.mut (i := 0) rfl
    have gp : p = st := by simpa using g2
    subst gp
    refine ⟨v, v1, q v H3 (.int (c' % m)) (fun b o hb ho => tt.kp b o (by simpa using hb) ho) ?_ ?_ (g _ (Int.emod_nonneg _ (by omega)) (Int.emod_lt_of_pos _ m0))⟩
    · cases g4 with
      | cons q1 q2 =>
        cases q2 with
        | cons q2 q3 =>
          cases q3 with
          | cons q3 q4 =>
            cases q4
            rw [q2.is_int, q3.is_int] at g3
            have hsp' : H3 sp = some (.lst (xs.map V.int)) := tt.kp sp _ (by simpa using ne) k2
            obtain ⟨ws, hw⟩ := b3.hd
            rw [g3] at hw
            cases hw
            exact ⟨xs, _, _, g3, hsp', hk'⟩
    · rw [v2.is_int]
      exact .int _
end
end R60

end -- D21
section -- D22
set_option Elab.async false
set_option linter.all false
set_option maxRecDepth 100000
set_option maxHeartbeats 4000000
/-! The other drawing defs: by their small programs; _law_shuffled by hand. -/
namespace R60
open PySem PySem.Spec PyProof.Rows L2 RZ
open Evl (Ex)
section
variable {P : Program} {w : World} {K : PySem.W.Frag} {mg : Str → Option Value} {base : Heap} {F : Fs} {NM : List Str} {DN : Nat → Option Str} {j : Nat}
theorem draw_cal {f : Nat} {name : Str} {st0 : Stmt} {N ps : List Str} {p : Sn} (l : Lv P w K mg base F NM G0 DN j) (h : DefHas K mg name st0 N ps)
    (hk : ∀ X, FitsNS F NM G0 DN ⟨N, defScope st0, fun _ => true⟩ X → PSs X (defBody st0) (cSN F G0 WN p))
    (hw : ∀ ds P', G0 f ds P' → ds.length + 1 = ps.length ∧ ∀ w : V, wS F G0 WN p (.fix w :: (ds.map Sl.dat ++ List.replicate (N.length - (ds.length + 1)) .no)) (fun o => P' (outD o))) : C8.Cal P w K mg base (j + 1) name (spD G0 f) [] := by
  obtain ⟨x, qual, a, fdat, Fd, hm, bd, S⟩ := h
  refine ⟨a, fdat, _, [], Fd.ok S (fun vs H Q E q => ?_) (fun cdv A outer s H vs Q E hr q => ?_), hm, Fd.kp, bd, .nil⟩
  · obtain ⟨M, st, sp, vs', ds, P', rfl, al, hst, hsp, sm, r, g, q⟩ := q
    rw [List.length_cons, r.len]
    exact (hw ds P' g).1
  · obtain ⟨M, st, sp, vs', ds, P', rfl, al, hst, hsp, sm, r, g, q⟩ := q
    obtain ⟨hl, hw⟩ := hw ds P' g
    have ft := l.fits (CX := C8.CX0) (qual := qual) (a := a) (cdv := cdv) (A := A) (outer := outer) (s := s) (H := H) (E := E) S hr
    have hle : ps.length ≤ N.length := by
      have h3 := congrArg List.length S.pre
      rw [List.length_take] at h3
      omega
    refine ⟨cSN F G0 WN p, PSs.nox (hk _ ft), M, [], st, sp, _, _, ⟨⟨?_, al, fun p hp => (nomatch hp), fun i i' ds' es p q1 _ _ _ => ?_⟩, sm, hst, hsp, fun i w' hi => ?_⟩, hw (.ref st), fun o po => ?_⟩
    · have := se_of (own := []) (M := M) (H := H) (N := N) (vs := .ref st :: vs') (ss := .fix (.ref st) :: ds.map Sl.dat) (by simp [r.len]) (by simp [r.len]; omega) (fun i v t hv ht => by
        cases i with
        | zero =>
          cases hv
          cases ht
          exact SlOk.fixI rfl
        | succ i =>
          rw [List.getElem?_cons_succ] at hv ht
          obtain ⟨d, h1, h2⟩ := r.get' hv
          rw [List.getElem?_map, h1] at ht
          cases ht
          exact h2)
      simpa using this
    · cases i with
      | zero => cases q1
      | succ i =>
        rw [List.getElem?_cons_succ] at q1
        rcases List.mem_append.mp (List.mem_of_getElem? q1) with z | z
        · obtain ⟨d, _, e⟩ := List.mem_map.mp z
          cases e
        · have := List.eq_of_mem_replicate z
          cases this
    · cases i with
      | zero =>
        cases hi
        rfl
      | succ i =>
        rw [List.getElem?_cons_succ] at hi
        rcases List.mem_append.mp (List.mem_of_getElem? hi) with z | z
        · obtain ⟨d, _, e⟩ := List.mem_map.mp z
          cases e
        · have := List.eq_of_mem_replicate z
          cases this
    · cases o with
      | nx ρ' => exact fun own' σ' H' st b => q .non H' .none (fun a o h1 h2 => st.kp a o (by simp) h1 h2) b.sm .non po
      | rt d => exact fun v own' H' st sm' b => q v H' d (fun a o h1 h2 => st.kp a o (by simp) h1 h2) sm' (b.up (hide_sub fun a ha => List.mem_append_right _ ha)) po
theorem er_map {α β : Type} (f : α → β) : ∀ (l : List α) (i : Nat), (l.map f).eraseIdx i = (l.eraseIdx i).map f
  | [], _ => rfl
  | _ :: _, 0 => rfl
  | a :: l, i + 1 => congrArg (f a :: ·) (er_map f l i)
/-! ### _law_shuffled -/
theorem shuf_cal {st0 : Stmt} {scope : Scope} {p1 p2 p3 p4 p5 p6 p7 p8 p9 p10 p11 p12 p13 p14 p15 p16 p17 p18 p19 p20 p21 p22 p23 p24 : Pos} (l : Lv P w K mg base F NM G0 DN j) (h : DefHas K mg "_law_shuffled" st0 N_law_shuffled ["_law_stream_here", "_law_many"]) (hN : N_law_shuffled = (["_law_stream_here", "_law_many", "_law_left", "_law_k"] : List Str))
    (hd : DN 0 = some "_law_next")
    (hb : defBody st0 = [.Assign [.Name "_law_left" p1] (.Call (.Name "list" p2) [.Call (.Name "range" p3) [.Name "_law_many" p4] [] p5] [] p6) p7,
      .Return (some (.Call (.Name "tuple" p8) [.ListComp (.Call (.Attribute (.Name "_law_left" p9) "pop" p10) [.Call (.Name "_law_next" p11) [.Name "_law_stream_here" p12, .Call (.Name "len" p13) [.Name "_law_left" p14] [] p15] [] p16] [] p17) [⟨.Name "_law_k" p18, .Call (.Name "range" p19) [.Name "_law_many" p20] [] p21, [], 0⟩] scope p22] [] p23)) p24])
    (hl : (p10.endLine == p17.line) = true)
    (c1 : (visB ⟨N_law_shuffled, defScope st0, fun _ => true⟩ "_law_many" && locB ⟨N_law_shuffled, defScope st0, fun _ => true⟩ "_law_left" && glB ⟨N_law_shuffled, defScope st0, fun _ => true⟩ "list" && glB ⟨N_law_shuffled, defScope st0, fun _ => true⟩ "range" && glB ⟨N_law_shuffled, defScope st0, fun _ => true⟩ "tuple" && blkC N_law_shuffled (defScope st0) scope [("_law_k", 3)]) = true)
    (c2 : (visB ((⟨N_law_shuffled, defScope st0, fun _ => true⟩ : Sc).blk scope) "_law_stream_here" && visB ((⟨N_law_shuffled, defScope st0, fun _ => true⟩ : Sc).blk scope) "_law_left" && chkN ((⟨N_law_shuffled, defScope st0, fun _ => true⟩ : Sc).blk scope) 3 "_law_k" && glB ((⟨N_law_shuffled, defScope st0, fun _ => true⟩ : Sc).blk scope) "len" && glB ((⟨N_law_shuffled, defScope st0, fun _ => true⟩ : Sc).blk scope) "_law_next") = true) :
    C8.Cal P w K mg base (j + 1) "_law_shuffled" (spD G0 4) [] := by
  obtain ⟨x, qual, a, fdat, Fd, hm, bd, S⟩ := h
  have arg : ∀ (vs : List V) (H : Hp) (Q : VK) (E : XK), spD G0 4 vs H Q E → ∃ (M : List Addr) (st sp : Addr) (m : Int) (P : PyData → Prop), vs = [.ref st, .int m] ∧ Al M H ∧ st ∈ M ∧ sp ∈ M ∧ Sm st sp H ∧ (0 ≤ m ∧ m ≤ 7 ∧ ∀ ns : List Int, (ns.length : Int) = m → P (.tuple (ns.map PyData.int))) ∧ ∀ v H2 d, ExS st H H2 → Sm st sp H2 → Rp (hide M H2) v d → P d → Q v H2 := by
    rintro vs H Q E ⟨M, st, sp, vs', ds, P, rfl, al, hst, hsp, sm, r, g, q⟩
    cases r with
    | nil => exact g.elim
    | cons r t =>
      cases t with
      | cons r2 t2 => cases r <;> exact g.elim
      | nil =>
        cases r with
        | int m => exact ⟨M, st, sp, m, P, rfl, al, hst, hsp, sm, g, q⟩
        | _ => exact g.elim
  refine ⟨a, fdat, _, [], Fd.ok S (fun vs H Q E q => ?_) (fun cdv A outer s H vs Q E hr q => ?_), hm, Fd.kp, bd, .nil⟩
  · obtain ⟨M, st, sp, m, P, rfl, _⟩ := arg vs H Q E q
    rfl
  · obtain ⟨M, st, sp, m, P', rfl, al, hst, hsp, sm, ⟨m0, m1, g⟩, q⟩ := arg vs H Q E q
    rw [hb]
    have ft := l.fits (CX := C8.CX0) (qual := qual) (a := a) (cdv := cdv) (A := A) (outer := outer) (s := s) (H := H) (E := E) S hr
    generalize hX : (cxOf C8.CX0 P w K mg base N_law_shuffled qual (defScope st0) a cdv A outer s H E).nox = X at ft
    have hXK : X.K = K := by rw [← hX]; rfl
    obtain ⟨c1, c16⟩ := and_tt c1
    obtain ⟨c1, c15⟩ := and_tt c1
    obtain ⟨c1, c14⟩ := and_tt c1
    obtain ⟨c1, c13⟩ := and_tt c1
    obtain ⟨c11, c12⟩ := and_tt c1
    obtain ⟨c2, c25⟩ := and_tt c2
    obtain ⟨c2, c24⟩ := and_tt c2
    obtain ⟨c2, c23⟩ := and_tt c2
    obtain ⟨c21, c22⟩ := and_tt c2
    have F0 := ft.toFits
    have nN : X.N = N_law_shuffled := F0.N
    have many : PE X (.Name "_law_many" p4) (tVar 1) := pe_var (i := 1) (by rw [nN, hN]; rfl) (vis_ok c11 F0)
    have many' : PE X (.Name "_law_many" p20) (tVar 1) := pe_var (i := 1) (by rw [nN, hN]; rfl) (vis_ok c11 F0)
    have s0 : PS X (.Assign [.Name "_law_left" p1] (.Call (.Name "list" p2) [.Call (.Name "range" p3) [.Name "_law_many" p4] [] p5] [] p6) p7) (tAsg (tLstRg (tRg1 (tVar 1))) (gName 2)) :=
      ps_set F0.nd (by rw [nN, hN]; rfl) (loc_ok c12 F0) (pe_listRg F0.calm (gl_ok c13 F0) (F0.blt _ (by decide)) (prg_1 (gl_ok c14 F0) (F0.blt _ (by decide)) many)) rfl (.inl (by rw [F0.fn]))
    have elt : ∀ (s : Shared) (H : Hp) (C : Addr) (cl : List (Str × Addr)) (fp : List Addr), PE (X.blk s H scope (compEnvC scope cl C X.env) fp) (.Call (.Attribute (.Name "_law_left" p9) "pop" p10) [.Call (.Name "_law_next" p11) [.Name "_law_stream_here" p12, .Call (.Name "len" p13) [.Name "_law_left" p14] [] p15] [] p16] [] p17)
        (tBM X.K "list" rPopAt (tVar 2) (tCons (tCall (spD G0 0) [] C8.E0 (tCons (tVar 0) (tCons (tCB (rLenS X.K) (tCons (tVar 2) tNil)) tNil))) tNil)) := fun s H C cl fp => by
      have f2 := ft.toFitsN.blk scope s H C cl fp
      have F2 := f2.toFits
      have n2 : (X.blk s H scope (compEnvC scope cl C X.env) fp).N = N_law_shuffled := nN
      have vl : ∀ p, PE (X.blk s H scope (compEnvC scope cl C X.env) fp) (.Name "_law_left" p) (tVar 2) := fun p => pe_var (i := 2) (by rw [n2, hN]; rfl) (vis_ok c22 F2)
      have vs : PE (X.blk s H scope (compEnvC scope cl C X.env) fp) (.Name "_law_stream_here" p12) (tVar 0) := pe_var (i := 0) (by rw [n2, hN]; rfl) (vis_ok c21 F2)
      obtain ⟨k, rk, hc⟩ := f2.draw 0 _ hd
      exact pe_bm PySem.F.plainAttrs_list PySem.F.slot_list_pop PySem.F.type_list_pop mt_popAt (vl p9) (pa1 (C8.pe_c hc rk (Nat.le_refl _) (gl_ok c25 F2) (pa2 vs rfl (pe_callB dLen (gl_ok c24 F2) (F2.blt _ (by decide)) PySem.boot_len (pa1 (vl p14) rfl) (by decide) (by decide) rfl rfl) rfl) (by decide) rfl rfl) rfl) rfl rfl hl rfl rfl
    have lc := pe_lc (X := X) (own := [("_law_k", 3)]) (pos := p22) (g := gName 3) (tt := tYes) F0.calm F0.nd (pi_range1 (tg := .Name "_law_k" p18) (pos := p21) (p := p19) (gl_ok c14 F0) (F0.blt _ (by decide)) (pa1 many' rfl)) (blkOk_by (by rw [nN, F0.sc]; exact c16)) (fun s H C cl fp => pgN c23 (F0.blk scope s H C cl fp)) (fun _ _ _ _ _ => pts_nil) elt
    have rt := ps_ret (pos := p24) (pf_tupleOf (p := p8) (pos := p23) (gl_ok c15 F0) (F0.blt _ (by decide)) lc)
    refine ⟨_, PSs.nox (hX ▸ pss_cons s0 (pss_one rt)), ?_⟩
    have e1 : (L2.start N_law_shuffled [.ref st, .int m])[1]? = some (some (.int m)) := start_at rfl
    have e0 : (L2.start N_law_shuffled [.ref st, .int m])[0]? = some (some (.ref st)) := start_at rfl
    have el : (L2.start N_law_shuffled [.ref st, .int m]).length = 4 := by unfold L2.start; rw [hN]; rfl
    generalize hσ : L2.start N_law_shuffled [.ref st, .int m] = σ0 at e1 e0 el ⊢
    have hst0 : H st ≠ none := sm.some
    refine ⟨.int m, e1, m, rfl, ⟨by omega, by omega, by omega, by omega, by omega⟩, fun pl hpl => ?_⟩
    have plst : pl ≠ st := fun z => hst0 (by rw [← z]; exact hpl)
    have sm1 : Sm st sp (upd H pl (.lst (rgV 0 m))) := sm.up (Ex.new hpl)
    have f1 : (σ0.set 2 (some (.ref pl)))[1]? = some (some (.int m)) := by rw [List.getElem?_set_ne (by decide)]; exact e1
    have f0 : (σ0.set 2 (some (.ref pl)))[0]? = some (some (.ref st)) := by rw [List.getElem?_set_ne (by decide)]; exact e0
    have f2 : (σ0.set 2 (some (.ref pl)))[2]? = some (some (.ref pl)) := by rw [List.getElem?_set_self (by omega)]
    generalize hσ1 : σ0.set 2 (some (.ref pl)) = σ1 at f1 f0 f2
    show fTupOf K (tLc (iRng1 (tCons (tVar 1) tNil)) (gName 3) tYes (tBM K "list" rPopAt (tVar 2) (tCons (tCall (spD G0 0) [] C8.E0 (tCons (tVar 0) (tCons (tCB (rLenS K) (tCons (tVar 2) tNil)) tNil))) tNil)) [3]) (σ0.set 2 (some (.ref pl))) (upd H pl (.lst (rgV 0 m))) Q
    rw [hσ1]
    refine ⟨.int m, f1, m, rfl, by omega, by omega, fun D hD => ?_⟩
    have Dst : D ≠ st := fun z => by
      obtain ⟨xs, c, k, h1, _⟩ := sm1
      rw [z, h1] at hD; cases hD
    have Dsp : D ≠ sp := fun z => by
      obtain ⟨xs, c, k, _, h1, _⟩ := sm1
      rw [z, h1] at hD; cases hD
    have Dpl : D ≠ pl := fun z => by rw [z, upd_same] at hD; cases hD
    have sppl : sp ≠ pl := fun z => by
      obtain ⟨xs, c, k, _, h1, _⟩ := sm
      rw [z, hpl] at h1; cases h1
    have w0 : (wipe σ1 [3])[0]? = some (some (.ref st)) := by rw [wipe_get, if_neg (by decide)]; exact f0
    have w2 : (wipe σ1 [3])[2]? = some (some (.ref pl)) := by rw [wipe_get, if_neg (by decide)]; exact f2
    refine lc_it walk_range (fun i H' => (∀ a o, a ≠ st → a ≠ pl → a ≠ D → H a = some o → H' a = some o) ∧ Sm st sp H' ∧ ∃ rest ns : List Int, H' pl = some (.lst (rest.map V.int)) ∧ H' D = some (.lst (ns.map V.int)) ∧ ((rest.length + i : Nat) : Int) = m ∧ ns.length = i)
      ⟨fun a o h1 h2 h3 h => by rw [upd_ne h3, upd_ne h2]; exact h, sm1.up (Ex.new hD), (List.range (m - 0).toNat).map (fun i : Nat => (0 : Int) + (i : Nat)), [], by rw [upd_ne (Ne.symm Dpl), upd_same, List.map_map]; rfl, upd_same, by simp; omega, rfl⟩ (fun i H' hi p => trivial) (fun i x H' H'' hi p y => ?_) (fun H' p => ?_)
    · obtain ⟨rfl, rfl⟩ := y
      obtain ⟨k1, k2, rest, ns, k3, k4, k5, k6⟩ := p
      refine ⟨wipe1 _, ?_⟩
      show tBM K "list" rPopAt (tVar 2) (tCons (tCall (spD G0 0) [] C8.E0 (tCons (tVar 0) (tCons (tCB (rLenS K) (tCons (tVar 2) tNil)) tNil))) tNil) ((wipe σ1 [3]).set 3 (some (.int (0 + (i : Nat))))) H'' _
      have g0 : ((wipe σ1 [3]).set 3 (some (.int (0 + (i : Nat)))))[0]? = some (some (V.ref st)) := by rw [List.getElem?_set_ne (by decide)]; exact w0
      have g2 : ((wipe σ1 [3]).set 3 (some (.int (0 + (i : Nat)))))[2]? = some (some (V.ref pl)) := by rw [List.getElem?_set_ne (by decide)]; exact w2
      refine ⟨.ref pl, g2, .inl ⟨rfl, _, SqL.of k3⟩, .ref st, g0, .ref pl, g2, pl, rest.map V.int, rfl, .inl (SqL.of k3), ?_⟩
      rw [List.length_map]
      have hpos : 0 < rest.length := by omega
      refine ⟨[st, sp], st, sp, [.int (rest.length : Nat)], [.int (rest.length : Nat)], fun x => ∃ d : Int, x = .int d ∧ 0 ≤ d ∧ d < (rest.length : Nat), rfl, fun b hb => ?_, by simp, by simp, k2, .cons (.int _) .nil, ⟨by omega, by omega, fun d h1 h2 => ⟨d, rfl, h1, h2⟩⟩, fun v H3 d ex sm3 r3 pd => ?_⟩
      · obtain ⟨xs, c, k, h1, h2, _⟩ := k2
        rcases (show b = st ∨ b = sp by simpa using hb) with z | z
        · rw [z, h1]; simp
        · rw [z, h2]; simp
      · obtain ⟨d, rfl, d0, d1⟩ := pd
        rw [r3.is_int]
        have hdl : d.toNat < rest.length := by omega
        have k3' := ex pl _ plst k3
        have k4' := ex D _ Dst k4
        refine ⟨pl, rest.map V.int, d, d.toNat, .int rest[d.toNat], rfl, rfl, k3', by omega, by omega, ?_, by simp [hdl], ?_⟩
        · unfold seqIndex?
          have : ¬ d < 0 := by omega
          simp [this]
          omega
        · refine ⟨ns.map V.int, by rw [upd_ne Dpl]; exact k4', by rw [List.length_map, k6]; exact Evl.sz_lt (by omega), fun b o h1 h2 h3 h => ?_, ?_, rest.eraseIdx d.toNat, ns ++ [rest[d.toNat]], ?_, ?_, ?_, ?_⟩
          · rw [upd_ne h3, upd_ne h2]
            exact ex b o h1 (k1 b o h1 h2 h3 h)
          · obtain ⟨xs, c, k, h1, h2, h3⟩ := sm3
            exact ⟨xs, c, k, by rw [upd_ne (Ne.symm Dst), upd_ne (Ne.symm plst)]; exact h1, by rw [upd_ne (Ne.symm Dsp), upd_ne sppl]; exact h2, h3⟩
          · rw [upd_ne (Ne.symm Dpl), upd_same]
            rw [er_map]
          · rw [upd_same, List.map_append]
            rfl
          · rw [List.length_eraseIdx, if_pos hdl]
            omega
          · rw [List.length_append]
            simp [k6]
    · obtain ⟨k1, k2, rest, ns, k3, k4, k5, k6⟩ := p
      refine ⟨D, ns.map V.int, rfl, SqL.of k4, fun t u ht hu => ?_⟩
      refine q _ _ (.tuple (ns.map PyData.int)) (fun b o h1 h2 => ?_) (k2.up (Ex.new ht)) ?_ (g ns (by omega))
      · have n1 : b ≠ pl := ne_of_none h2 hpl
        have n2 : b ≠ D := fun z => by
          rw [z] at h2
          rw [upd_ne Dpl] at hD
          rw [hD] at h2
          cases h2
        exact Ex.new ht b o (k1 b o h1 n1 n2 h2)
      · have htM : t ∉ M := fun z => by
          by_cases c : t = st
          · obtain ⟨xs, c', k, h1, _⟩ := k2
            rw [c, h1] at ht; cases ht
          · cases e : H t with
            | none => exact al t z e
            | some o =>
              have n1 : t ≠ pl := ne_of_none e hpl
              have n2 : t ≠ D := fun z => by
                rw [z] at e
                rw [upd_ne Dpl] at hD
                rw [hD] at e
                cases e
              rw [k1 t o c n1 n2 e] at ht
              cases ht
        exact .tup ⟨u, by rw [hide_out htM, upd_same], hu⟩ (RpAll.of_ints ns)
end
end R60

end -- D22
section -- T1
set_option Elab.async false
set_option linter.all false
set_option maxRecDepth 100000
set_option maxHeartbeats 4000000
/-! The error NotPossible: its making, its field, isinstance of it when it is caught (it has a dict, so call_isE of HandS.ExcIs does not fit). -/
namespace PySem.W
open PySem PySem.Spec PySem.Calls PyProof.Rows
section
variable {prog : Program} {w : World} {A : Around} {E : Value → Shared → Prop} {s : Shared} {K : Frag} {x D : Addr} {ox : Obj} {od : Option Obj}
theorem r60_find {C : Addr} {name : Str} {a g : Value} (hc : (clsIn K C).isSome = true) (ha : findIn K (.ref C) name = some (some a)) (hg : specialIn K a "__get__" = some (some g)) (ht : takesIn K a = some true) : findObj K C od name = some (.bind g a) := by
  obtain ⟨cd, hc⟩ := Option.isSome_iff_exists.mp hc
  unfold findObj
  rw [hc, Option.bind_some, ha, Option.bind_some]
  simp [hg, ht]
theorem r60_class {Q : Option Value → Shared → Prop} (hga : findIn K (.ref D) "__getattribute__" = some (some (.builtin "BaseException.__getattribute__"))) (hgt : findIn K (.ref D) "__getattr__" = some none) (hsub : subIn K (.ref D) (.type "BaseException") = some true)
    (hdct : hasDictIn K D = true) (ha : findIn K (.ref D) "__class__" = some (some (.builtin "object.__class__")))
    (hn : specialIn K (.builtin "object.__class__") "__get__" = some (some (.builtin "getset_descriptor.__get__"))) (htk : takesIn K (.builtin "object.__class__") = some true) (hm : mroIn K D (.type "object") = some true)
    (X : K.In s.heap) (I : InstAt s.heap x ox D od) (h : Q (some (.ref D)) { s with toks := s.toks + 1 }) : wpAny (model prog w) A (getAttr? (.ref x) "__class__") Q E s := by
  have hf : findObj K D od "__class__" = some (.bind (.builtin "getset_descriptor.__get__") (.builtin "object.__class__")) := r60_find (by obtain ⟨cd, hc, _⟩ := any_some hdct; rw [hc]; rfl) ha hn htk
  obtain ⟨hp, g, d, t, os⟩ := s
  have L0 := I.type (M := model prog w)
  have L1 := looks_findIn (M := model prog w) X hga
  have L2 := looks_findIn (M := model prog w) X hgt
  have L3 := looks_find (M := model prog w) X I hf
  have sub : Looks (model prog w) hp (isInstance (.ref x) (.type "BaseException")) true := L0.andThen (looks_subIn X hsub)
  have hx0 : (false && onTheHeap (Value.builtin "BaseException.__getattribute__")) = false := rfl
  have hx2 : (Value.builtin "BaseException.__getattribute__" == Value.builtin "object.__getattribute__") = false := by decide +kernel
  have hx1 : (onTheHeap (Value.ref D) && Value.builtin "BaseException.__getattribute__" == Value.builtin "object.__getattribute__") = false := by rw [hx2]; rfl
  unfold getAttr? getAttrBy? getAttrBy
  refine wpAny_bind (wpAny_mkText (wpAny_bind (wpAny_attempt (wpAny_holding (wpAny_bind (L0.at (wpAny_bind (L1.at ?_))))))))
  show wpAny _ _ (if (onTheHeap (Value.ref D) && Value.builtin "BaseException.__getattribute__" == Value.builtin "object.__getattribute__") = true then _ else _) _ _ _
  rw [hx1, if_neg Bool.false_ne_true]
  unfold getAttrByItsOwn hookBefore
  refine wpAny_bind ?_
  rw [if_pos (show onTheHeap (Value.ref D) = true from rfl)]
  refine L2.at ?_
  refine wpAny_bind (wpAny_attempt (wpAny_holding ?_))
  unfold callGetattribute
  rw [hx0, if_neg Bool.false_ne_true]
  unfold boundAndCalled
  rw [PySem.F.excAttr_ValueError.ga.bind (.ref x)]
  refine wpAny_bind (wpAny_pure ?_)
  show wpAny _ _ (call (.builtin "BaseException.__getattribute__") [.ref x, .str "__class__" t]) _ _ _
  refine wpAny_call (codeAny_call_builtin PySem.F.excAttr_ValueError.ga.plain PySem.F.entry_bexc_ga ?_)
  refine @check_slot (model prog w) _ _ ⟨hp, g, d, t + 1, os⟩ "BaseException.__getattribute__" "BaseException" "__getattribute__" (.ref x) [.str "__class__" t] [] _ (by decide +kernel) (by decide +kernel) sub (PySem.F.args_bexc_ga (.ref x) (.str "__class__" t)) ?_
  unfold Builtin.«object.__getattribute__»
  refine wpAny_bind (wpAny_of_eq (a := ((Value.ref x : Value), [Value.str "__class__" t])) (by first | rfl | (simp only [slotArgs]; rfl)) ?_)
  refine wpAny_bind (wpAny_pure (wpAny_bind (L0.at (wpAny_bind (L3.at ?_)))))
  show wpAny _ _ (holding [Value.builtin "object.__class__"] (call (.builtin "getset_descriptor.__get__") [.builtin "object.__class__", .ref x, .ref D]) >>= ret) _ _ _
  refine wpAny_bind (wpAny_holding (wpAny_call (class_get (s := ⟨hp, g, d, t + 1, os⟩) (ox := ox) (od := od) X I hm ?_)))
  refine wpAny_pure ?_
  show wpAny _ _ (handedOut (.ref D)) _ _ _
  rw [handedOut_of (v := .ref D) rfl]
  first
    | exact wpAny_pure (wpAny_pure h)
    | exact wpAny_pure h
    | exact wpAny_pure (wpAny_bind (wpAny_pure (wpAny_pure h)))
theorem r60_kit (hga : findIn K (.ref D) "__getattribute__" = some (some (.builtin "BaseException.__getattribute__"))) (hgt : findIn K (.ref D) "__getattr__" = some none) (hsub : subIn K (.ref D) (.type "BaseException") = some true) (hdct : hasDictIn K D = true) (ha : findIn K (.ref D) "__class__" = some (some (.builtin "object.__class__")))
    (hn : specialIn K (.builtin "object.__class__") "__get__" = some (some (.builtin "getset_descriptor.__get__"))) (htk : takesIn K (.builtin "object.__class__") = some true) (hm : mroIn K D (.type "object") = some true) :
    KitX K (.ref x) (.ref D) (fun h => ∃ od : Option Obj, InstAt h x ox D od) where
  ty := fun _ _ _ ⟨_, I⟩ => I.type
  it := fun _ _ X _ => by
    obtain ⟨cdD, hcD, _⟩ := any_some hdct
    unfold clsIn at hcD
    split at hcD
    · rename_i c' d' cd' sl' ho
      intro A' Q' E' s' k q
      unfold isType loadHead
      exact wpAny_bind (wpAny_loadPart (k _ _ (X _ _ ho)) (wpAny_pure q))
    · cases hcD
  ne := fun h tp dd its n sl X htp => by
    obtain ⟨cdD, hcD, _⟩ := any_some hdct
    refine Bool.eq_false_iff.mpr fun q => ?_
    have e : D = tp := Value.ref.inj (beq_iff_eq.mp q)
    subst e
    unfold clsIn at hcD
    split at hcD
    · rename_i c' d' cd' sl' ho
      have z := (X _ _ ho).symm.trans htp
      cases z
    · cases hcD
  ca := fun X ⟨_, I⟩ k => r60_class hga hgt hsub hdct ha hn htk hm X I k
end
end PySem.W
namespace R60
open PySem PySem.Spec PyProof.Rows L2 RZ
open Evl (Ex)
/-- isinstance(e, c), e the exception that the suite holds, with its dict at dd -/
def rIsX (K : PySem.W.Frag) (D a : Addr) (cls : Value) (d : Option Addr) : List V → Hp → VK → Prop := fun xs H Q => ∃ (c : V) (cv : Value) (b : Bool) (dd : Addr) (fs : List (Str × V)), xs = [.ref a, c] ∧ cls = .ref D ∧ d = some dd ∧ H dd = some (.xd fs) ∧ (∀ u, RelV c u → u = cv) ∧ PySem.W.kitOne K (.ref D) cv = some b ∧ Q (.bl b) H
theorem call_isX {X : Cx} {a D : Addr} {oe : Obj} {cls : Value} {d : Option Addr} {pn : List (Addr × Obj)} (C : ExcC X.K D) (hz : Zc cls d oe) (hf : ∃ vs, oe.data = .fields vs) : CallR (X.suite a ((a, oe) :: pn)) (.builtin "isinstance") (rIsX X.K D a cls d) := by
  intro pins s σ H xs us Q I r h
  obtain ⟨c, cv, b, dd, fs, rfl, rfl, rfl, hdd, hcv, e, q⟩ := h
  cases r with
  | cons rx rr =>
    cases rr with
    | cons rt rr =>
      cases rr
      cases rx
      have ec := hcv _ rt
      subst ec
      obtain ⟨hget, _⟩ := I.pin (a, oe) (List.mem_append.mpr (.inl List.mem_cons_self))
      obtain ⟨vs, hv⟩ := hf
      have hx : ObjOk X.prog X.w H s.heap dd (.xd fs) := I.hok dd _ hdd
      obtain ⟨mA, hns, _⟩ := hx
      obtain ⟨od, ho, _⟩ := lookIn_ns hns
      have J : PySem.W.InstAt s.heap a oe D (some od) := ⟨hget, hz.1, by unfold PySem.W.notCls; rw [hv] <;> rfl, by rw [hz.2]; exact ho⟩
      exact PySem.W.kia_one (PySem.W.r60_kit C.hg C.hk C.hs C.hd C.ha C.hn C.ht C.hm) I.kIn ⟨some od, J⟩ e (fun z => nomatch z) fun tk => ⟨.bl b, H, I.kept (t' := tk) fun _ _ z => z, rfl, q⟩
/-- what the written part says of NotPossible -/
structure NpC (K : PySem.W.Frag) (mg : Str → Option Value) (sI : Stmt) (C R fI : Addr) : Prop where
  gC : mg "NotPossible" = some (.ref C)
  gR : mg "RankError" = some (.ref R)
  ox : OexC K C
  no : PySem.W.findIn K (.ref C) "why" = some none
  iC : PySem.W.findIn K (.ref C) "__init__" = some (some (.ref fI))
  tI : PySem.W.typeIn K (.ref fI) = some (.type "function")
  xf : XfC K C
  te : PySem.W.exmOne K (.ref C) (.ref C) = some true
  kit : PySem.W.kitOne K (.ref C) (.ref R) = some true
  ec : ExcC K C
  init : ∃ (fd : FuncData), FunD K "__init__" "NotPossible.__init__" (defArgs sI) (defBody sI) (defScope sI) [] [] fI fd ∧ Binds K fd ["self", "why"] [] ∧ FnScope ["self", "why"] ["self", "why"] (defScope sI)
  body : ∃ p1 p2 p3 p4 : Pos, defBody sI = [.Assign [.Attribute (.Name "self" p1) "why" p2] (.Name "why" p3) p4]
  vis : Vis (defScope sI) "self" ∧ Vis (defScope sI) "why"
def spI (C : Addr) : Sp := fun vs H Q _ => ∃ (a : Addr) (v : V), vs = [.ref a, v] ∧ H a = some (exo a C none) ∧ ∀ dx, H dx = none → dx ≠ a → Q .non (upd (upd H dx (exd dx [("why", v)])) a (exo a C (some dx)))
section
variable {P : Program} {w : World} {K : PySem.W.Frag} {mg : Str → Option Value} {base : Heap} {sI : Stmt} {C R fI : Addr}
theorem init_ok (T : NpC K mg sI C R fI) : ∃ fd, FnOk P w K mg base C8.CX0 1 fI fd ["self", "why"] (spI C) ∧ Binds K fd ["self", "why"] [] := by
  obtain ⟨fd, F, bd, S⟩ := T.init
  obtain ⟨p1, p2, p3, p4, hb⟩ := T.body
  refine ⟨fd, F.ok S (fun vs H Q E h => ?_) (fun cdv A outer s H vs Q E hr h => ?_), bd⟩
  · obtain ⟨a, v, rfl, _⟩ := h
    rfl
  · obtain ⟨a, v, rfl, ha, q⟩ := h
    rw [hb]
    refine ⟨tOst K "why" (tVar 0) (tVar 1), PSs.nox (pss_one (ps_ost (pe_var (i := 0) rfl T.vis.1) (pe_var (i := 1) rfl T.vis.2))), v, rfl, .ref a, rfl, a, C, rfl, T.ox, T.no, .inl ⟨ha, fun dx n ne => q dx n ne⟩⟩
/-! ### raise NotPossible(z) -/
def tRaiseNp (C : Addr) (W : WX) (z : Str) : TS := fun _ σ H => ∀ (dd : Addr) (H' : Hp), Ex H H' → H' dd = some (.xd [("why", .str z)]) → W (.ref C) (some dd) σ H'
theorem ps_raiseNp {X : Cx} {W : WX} {z : Str} {k kk : Nat} {p p2 pos pos2 : Pos} (T : NpC X.K X.mg sI C R fI) (hc : X.calm = true) (tk : Takes X W) (hr : Room (k + 2) X.A) (hg : Gl X "NotPossible") :
    PS X (.Raise (some (.Call (.Name "NotPossible" p) [.Constant (.str z) kk p2] [] pos)) none pos2) (tRaiseNp C W z) := by
  obtain ⟨fd, F1, bd⟩ := init_ok (P := X.prog) (w := X.w) (base := X.base) T
  have mk := pmk_oex (CX := C8.CX0) (p := p) (pos := pos) (ds := []) (dvs := []) T.ox T.iC T.tI F1 (hr.mono (by omega)) bd .nil C8.pass0 hg T.gC (pa_cons (pe_str (x := z) (j := kk) (pos := p2)) pa_nil)
  have r := ps_raise (pos := pos2) hc tk mk
  refine ⟨fun pins s σ H D I h => r.run pins s σ H D I ?_⟩
  refine ⟨show 1 ≤ 1000 by decide, fun a ha => ⟨a, .str z, rfl, upd_same, fun dx hd ne => ⟨rfl, dx, [("why", .str z)], upd_same, by rw [upd_ne ne, upd_same], ?_, ?_⟩⟩⟩
  · rw [upd_ne ne] at hd
    exact hd
  · have hd' : H dx = none := by rw [upd_ne ne] at hd; exact hd
    refine h dx _ (fun b o hb => ?_) upd_same
    have n1 : b ≠ dx := ne_of_none hb hd'
    have n2 : b ≠ a := ne_of_none hb ha
    rw [upd_ne n1, del_ne n2, upd_ne n2, upd_ne n1, upd_ne n2]
    exact hb
end
end R60

end -- T1
section -- T2
set_option Elab.async false
set_option linter.all false
set_option maxRecDepth 100000
set_option maxHeartbeats 4000000
/-! conflict_evidence, correction_evidence, _law_told. -/
namespace R60
open PySem PySem.Spec PyProof.Rows L2 RZ
open Evl (Ex)
/-- check; if a test: NotPossible; rows; the evidence -/
structure EvP where
  x0 : Xp
  t1 : Xp
  z : Str
  i : Nat
  lcv : Bool × List Nat × Xp × Xp × Xp
  x3 : Xp
  N : List Str
abbrev EvP.lc (e : EvP) : Xp := .lc e.lcv.1 e.lcv.2.1 e.lcv.2.2.1 e.lcv.2.2.2.1 e.lcv.2.2.2.2
/-- what it answers: the evidence, or the word of NotPossible -/
def evid (F : Fs) (e : EvP) (ds : List PyData) : Option (PyData ⊕ Str) :=
  let ρ := ds.map Sl.dat ++ List.replicate (e.N.length - ds.length) Sl.no
  (ev F e.x0 ρ).bind fun _ => (evT F e.t1 ρ).bind fun b => if b = true then some (.inr e.z) else (ev F e.lc ρ).bind fun r => (ev F e.x3 (ρ.set e.i (.dat r))).map .inl
structure EvParts (F : Fs) (NM : List Str) (S : Sc) (e : EvP) (sts : List Stmt) : Prop where
  ex : ∃ (e0 c1 : Expr) (p0 p1 p2 p3 p4 p5 q1 q2 q3 q4 q5 : Pos) (kk : Nat) (y : Str) (elt tgE iter : Expr) (ifs : List Expr) (scope : Scope) (own : List (Str × Nat)) (e3 : Expr),
    sts = [.Expr e0 p0, .If c1 [.Raise (some (.Call (.Name "NotPossible" q1) [.Constant (.str e.z) kk q2] [] q3)) none q4] [] p1, .Assign [.Name y p2] (.ListComp elt [⟨tgE, iter, ifs, 0⟩] scope p3) p4, .Return (some e3) p5] ∧
    notLc e0 = true ∧ glB S "NotPossible" = true ∧ kindB S = true ∧ chkN S e.i y = true ∧ SndE F NM S e0 e.x0 ∧ SndT F NM S c1 e.t1 ∧ LcOk F NM S e.lcv.1 e.lcv.2.1 e.lcv.2.2.1 e.lcv.2.2.2.1 e.lcv.2.2.2.2 elt tgE iter ifs scope own ∧ SndE F NM S e3 e.x3
def chkEv (F : Fs) (NM : List Str) (S : Sc) (e : EvP) (sts : List Stmt) : Tr (EvParts F NM S e sts) := match sts with
  | [.Expr e0 p0, .If c1 [.Raise (some (.Call (.Name n q1) [.Constant (.str z) kk q2] [] q3)) none q4] [] p1, .Assign [.Name y p2] (.ListComp elt [⟨tgE, iter, ifs, 0⟩] scope p3) p4, .Return (some e3) p5] => match ownOf e.lcv.2.1 tgE with
    | some own => bothT (must (decide (n = ("NotPossible" : Str)) && decide (z = e.z) && (notLc e0 && glB S "NotPossible" && kindB S && chkN S e.i y))) (bothT (bothT ((chk F NM e.x0).e S e0) ((chk F NM e.t1).t S c1) And.intro) (bothT (chkLcOk F NM S e.lcv.1 e.lcv.2.1 (chk F NM e.lcv.2.2.1) (chk F NM e.lcv.2.2.2.1) (chk F NM e.lcv.2.2.2.2) elt tgE iter ifs scope own) ((chk F NM e.x3).e S e3) And.intro) And.intro) fun h q => by
        obtain ⟨h, hg⟩ := and_tt h
        obtain ⟨h1, h2⟩ := and_tt h
        obtain ⟨hg, g4⟩ := and_tt hg
        obtain ⟨hg, g3⟩ := and_tt hg
        obtain ⟨g1, g2⟩ := and_tt hg
        have h1 := eq_of_dec h1
        have h2 := eq_of_dec h2
        subst h1 h2
        exact ⟨e0, c1, p0, p1, p2, p3, p4, p5, q1, q2, q3, q4, q4, kk, y, elt, tgE, iter, ifs, scope, own, e3, rfl, g1, g2, g3, g4, q.1.1, q.1.2, q.2.1, q.2.2⟩
    | none => none
  | _ => none
/-- its promise -/
def spE (F : Fs) (C : Addr) (e : EvP) (np : Nat) : Sp := fun vs H Q E => ∃ (M : List Addr) (ds : List PyData) (r : PyData ⊕ Str), Al M H ∧ RpAll (hide M H) vs ds ∧ ds.length = np ∧ evid F e ds = some r ∧
  match r with
  | .inl d => ∀ v H2, Ex H H2 → Rp (hide M H2) v d → Q v H2
  | .inr z => ∀ dd H2, Ex H H2 → H2 dd = some (.xd [("why", .str z)]) → E (.ref C) (some dd) H2
section
variable {P : Program} {w : World} {K : PySem.W.Frag} {mg : Str → Option Value} {base : Heap} {F : Fs} {NM : List Str} {DN : Nat → Option Str} {j : Nat} {sI : Stmt} {C R fI : Addr}
theorem ev_ok {name : Str} {st0 : Stmt} {ps : List Str} {e : EvP} (l : Lv P w K mg base F NM G0 DN (j + 2)) (T : NpC K mg sI C R fI) (h : DefHas K mg name st0 e.N ps) (hk : EvParts F NM ⟨e.N, defScope st0, fun _ => true⟩ e (defBody st0)) :
    ∃ (a : Addr) (fd : FuncData), mg name = some (.ref a) ∧ PySem.W.keepIn K (.ref a) = true ∧ Binds K fd ps [] ∧ FnOk P w K mg base (L2.CX P w) (j + 3) a fd ps (spE F C e ps.length) := by
  obtain ⟨x, qual, a, fdat, Fd, hm, bd, S⟩ := h
  refine ⟨a, fdat, hm, Fd.kp, bd, Fd.ok S (fun vs H Q E q => ?_) (fun cdv A outer s H vs Q E hr q => ?_)⟩
  · obtain ⟨M, ds, r, _, rr, hl, _⟩ := q
    rw [rr.len, hl]
  · obtain ⟨M, ds, r, al, rr, hl, he, q⟩ := q
    obtain ⟨e0, c1, p0, p1, p2, p3, p4, p5, q1, q2, q3, q4, q5, kk, y, elt, tgE, iter, ifs, scope, own, e3, hb, g1, g2, g3, g4, s0, s1, s2, s3⟩ := hk.ex
    rw [hb]
    have ft : Fits F NM ⟨e.N, defScope st0, fun _ => true⟩ (cxOf (L2.CX P w) P w K mg base e.N qual (defScope st0) a cdv A outer s H E) := ⟨rfl, S.nd, rfl, rfl, rfl, ⟨j + 2, hr⟩, l.blt, l.con, fun f x h => ⟨j + 2, hr, l.call f x h⟩⟩
    have a0 := ps_expr (pos := p0) (s0 _ ft) (sw_ok g1 _ _ _)
    have a1 := ps_if (pos := p1) (s1 _ ft) (pss_one (ps_raiseNp (k := j) (z := e.z) (kk := kk) (p := q1) (p2 := q2) (pos := q3) (pos2 := q4) (W := fun cls d _ H => E cls d H) T rfl (takes_of rfl rfl rfl rfl) hr (gl_ok g2 ft))) pss_nil
    have a2 := ps_setC (py := p2) (pos := p3) (spos := p4) ft g3 g4 s2
    have a3 := ps_ret (pos := p5) (s3 _ ft)
    refine ⟨_, pss_cons a0 (pss_cons a1 (pss_cons a2 (pss_one a3))), ?_⟩
    have hle : ps.length ≤ e.N.length := by
      have h3 := congrArg List.length S.pre
      rw [List.length_take] at h3
      omega
    have se : SE [] M (L2.start e.N vs) H (ds.map Sl.dat ++ List.replicate (e.N.length - ds.length) Sl.no) := se_start rr (by rw [rr.len]; omega)
    have he : ((ev F e.x0 (ds.map Sl.dat ++ List.replicate (e.N.length - ds.length) Sl.no)).bind fun _ => (evT F e.t1 (ds.map Sl.dat ++ List.replicate (e.N.length - ds.length) Sl.no)).bind fun b => if b = true then some (Sum.inr e.z) else (ev F e.lc (ds.map Sl.dat ++ List.replicate (e.N.length - ds.length) Sl.no)).bind fun r => (ev F e.x3 ((ds.map Sl.dat ++ List.replicate (e.N.length - ds.length) Sl.no).set e.i (.dat r))).map Sum.inl) = some r := he
    generalize ds.map Sl.dat ++ List.replicate (e.N.length - ds.length) Sl.no = ρ at se he
    obtain ⟨d0, h0, he⟩ := bind_some he
    obtain ⟨b, h1, he⟩ := bind_some he
    refine ce h0 [] M _ H se al _ fun v0 H0 e0' r0 => ?_
    refine ct h1 [] M _ H0 (se.up e0') (al.up e0') _ fun H1 e1 => ?_
    cases b with
    | true =>
      have he : some (Sum.inr e.z) = some r := he
      cases he
      exact fun dd H' ex hd => q dd H' ((e0'.trans e1).trans ex) hd
    | false =>
      obtain ⟨rows, h2, he⟩ := bind_some (show ((ev F e.lc ρ).bind fun r => (ev F e.x3 (ρ.set e.i (.dat r))).map Sum.inl) = some r from he)
      obtain ⟨d3, h3, rfl⟩ := map_some he
      obtain ⟨out, rfl, el⟩ := lc_el F (K := K) h2 s2.pk
      have e01 := e0'.trans e1
      show tLc (cI F K e.lcv.1 e.lcv.2.2.1) (gT K e.lcv.2.1) (cT F e.lcv.2.2.2.1) (cE F e.lcv.2.2.2.2) e.lcv.2.1 (L2.start e.N vs) H1 (fun v2 H2 => cE F e.x3 ((L2.start e.N vs).set e.i (some v2)) H2 Q)
      refine el.ee [] M _ H1 (se.up e01) (al.up e01) _ fun v2 H2 e2 r2 => ?_
      exact ce h3 [] M _ H2 (((se.up e01).up e2).set e.i r2) ((al.up e01).up e2) _ fun v3 H3 e3 r3 => q v3 H3 (e01.trans (e2.trans e3)) r3
/-! ### _law_told -/
/-- the promise of _law_told: a plain one -/
def toldD (F : Fs) (e0 e1 : EvP) : List PyData → Option PyData
  | [.int w, p, i] => (evid F (if w = 0 then e0 else e1) [p, i]).map fun r => match r with
    | .inl d => d
    | .inr z => .list [.str z, .bool true]
  | _ => none
theorem told_cal {st0 : Stmt} {e0 e1 : EvP} {p1 p2 p3 p4 p5 p6 p7 p8 p9 p10 p11 p12 p13 p14 p15 p16 p17 p18 p19 p20 p21 p22 p23 p24 : Pos} {kk : Nat} {Ft : Fs} {f : Nat} (l : Lv P w K mg base F NM G0 DN (j + 3)) (T : NpC K mg sI C R fI)
    (h : DefHas K mg "_law_told" st0 (["_law_which", "_law_asked", "_law_indexes", "_law_problem_here"] : List Str) ["_law_which", "_law_asked", "_law_indexes"])
    (h0 : ∃ (a : Addr) (fd : FuncData), mg "conflict_evidence" = some (.ref a) ∧ PySem.W.keepIn K (.ref a) = true ∧ Binds K fd ["problem", "indexes"] [] ∧ FnOk P w K mg base (L2.CX P w) (j + 3) a fd ["problem", "indexes"] (spE F C e0 2))
    (h1 : ∃ (a : Addr) (fd : FuncData), mg "correction_evidence" = some (.ref a) ∧ PySem.W.keepIn K (.ref a) = true ∧ Binds K fd ["problem", "indexes"] [] ∧ FnOk P w K mg base (L2.CX P w) (j + 3) a fd ["problem", "indexes"] (spE F C e1 2))
    (hb : defBody st0 = [.Try [.Return (some (.IfExp (.Compare (.Name "_law_which" p1) [.Eq] [.Constant (.int 0) kk p2] p3) (.Call (.Name "conflict_evidence" p4) [.Name "_law_asked" p5, .Name "_law_indexes" p6] [] p7) (.Call (.Name "correction_evidence" p8) [.Name "_law_asked" p9, .Name "_law_indexes" p10] [] p11) p12)) p13]
      [.ExceptHandler (some (.Name "NotPossible" p14)) (some "_law_problem_here") [.Return (some (.List [.Attribute (.Name "_law_problem_here" p15) "why" p16, .Call (.Name "isinstance" p17) [.Name "_law_problem_here" p18, .Name "RankError" p19] [] p20] p21)) p22] p23] [] [] p24])
    (hv : (visB ⟨(["_law_which", "_law_asked", "_law_indexes", "_law_problem_here"] : List Str), defScope st0, fun _ => true⟩ "_law_which" && visB ⟨(["_law_which", "_law_asked", "_law_indexes", "_law_problem_here"] : List Str), defScope st0, fun _ => true⟩ "_law_asked" && visB ⟨(["_law_which", "_law_asked", "_law_indexes", "_law_problem_here"] : List Str), defScope st0, fun _ => true⟩ "_law_indexes" && visB ⟨(["_law_which", "_law_asked", "_law_indexes", "_law_problem_here"] : List Str), defScope st0, fun _ => true⟩ "_law_problem_here" &&
      (glB ⟨(["_law_which", "_law_asked", "_law_indexes", "_law_problem_here"] : List Str), defScope st0, fun _ => true⟩ "conflict_evidence" && glB ⟨(["_law_which", "_law_asked", "_law_indexes", "_law_problem_here"] : List Str), defScope st0, fun _ => true⟩ "correction_evidence" && glB ⟨(["_law_which", "_law_asked", "_law_indexes", "_law_problem_here"] : List Str), defScope st0, fun _ => true⟩ "NotPossible" && glB ⟨(["_law_which", "_law_asked", "_law_indexes", "_law_problem_here"] : List Str), defScope st0, fun _ => true⟩ "RankError" && glB ⟨(["_law_which", "_law_asked", "_law_indexes", "_law_problem_here"] : List Str), defScope st0, fun _ => true⟩ "isinstance") &&
      decide ((defScope st0).names.lookup ("_law_problem_here" : Str) = some .local)) = true)
    (hF : ∀ ds, Ft f ds = toldD F e0 e1 ds) : C8.Cal P w K mg base (j + 4) "_law_told" (spF Ft f) [] := by
  obtain ⟨x, qual, a, fdat, Fd, hm, bd, S⟩ := h
  have key : ∀ (vs : List V) (H : Hp) (Q : VK) (E : XK), spF Ft f vs H Q E → ∃ (M : List Addr) (ww : Int) (p i : PyData) (v1 v2 : V) (r : PyData ⊕ Str), vs = [.int ww, v1, v2] ∧ Al M H ∧ Rp (hide M H) v1 p ∧ Rp (hide M H) v2 i ∧ evid F (if ww = 0 then e0 else e1) [p, i] = some r ∧
      ∀ v H2, Ex H H2 → Rp (hide M H2) v (match r with
        | .inl d => d
        | .inr z => .list [.str z, .bool true]) → Q v H2 := by
    rintro vs H Q E ⟨M, ds, d, al, rr, he, q⟩
    rw [hF] at he
    unfold toldD at he
    split at he
    · rename_i ww p i
      obtain ⟨r, hr, rfl⟩ := map_some he
      cases rr with
      | cons r0 rr =>
        cases rr with
        | cons r1 rr =>
          cases rr with
          | cons r2 rr =>
            cases rr
            rw [r0.is_int]
            exact ⟨M, ww, p, i, _, _, r, rfl, al, r1, r2, hr, q⟩
    · cases he
  refine ⟨a, fdat, _, [], Fd.ok S (fun vs H Q E q => ?_) (fun cdv A outer s H vs Q E hr q => ?_), hm, Fd.kp, bd, .nil⟩
  · obtain ⟨M, ww, p, i, v1, v2, r, rfl, _⟩ := key vs H Q E q
    rfl
  · obtain ⟨M, ww, p, i, v1, v2, r, rfl, al, rp, ri, he, q⟩ := key vs H Q E q
    obtain ⟨a0, fd0, m0, k0, b0, F0⟩ := h0
    obtain ⟨a1, fd1, m1, k1, b1, F1⟩ := h1
    obtain ⟨hv, vl⟩ := and_tt hv
    obtain ⟨hv, vg⟩ := and_tt hv
    obtain ⟨vg, g5⟩ := and_tt vg
    obtain ⟨vg, g4⟩ := and_tt vg
    obtain ⟨vg, g3⟩ := and_tt vg
    obtain ⟨g1, g2⟩ := and_tt vg
    obtain ⟨hv, v4⟩ := and_tt hv
    obtain ⟨hv, v3⟩ := and_tt hv
    obtain ⟨vv1, vv2⟩ := and_tt hv
    have vl := of_decide_eq_true vl
    rw [hb]
    have ft := (l.fits (CX := C8.CX0) (qual := qual) (a := a) (cdv := cdv) (A := A) (outer := outer) (s := s) (H := H) (E := E) S hr).toFits
    generalize hX : (cxOf C8.CX0 P w K mg base (["_law_which", "_law_asked", "_law_indexes", "_law_problem_here"] : List Str) qual (defScope st0) a cdv A outer s H E).nox = X at ft
    have hK : X.K = K := by rw [← hX]; rfl
    have hmg : X.mg = mg := by rw [← hX]; rfl
    have hP : X.prog = P := by rw [← hX]; rfl
    have hw : X.w = w := by rw [← hX]; rfl
    have hB : X.base = base := by rw [← hX]; rfl
    have hA : Room (j + 3) X.A := by rw [← hX]; exact hr
    have hstk : X.stack = X.env :: X.outer := by rw [← hX]; rfl
    have hfr : X.env.frame = some X.env.locals := by rw [← hX]; rfl
    subst hP hw hK hmg hB
    have var : ∀ (X' : Cx) (i : Nat) (y : Str) (p : Pos), X'.N = X.N → X'.env = X.env → (["_law_which", "_law_asked", "_law_indexes", "_law_problem_here"] : List Str)[i]? = some y → visB ⟨(["_law_which", "_law_asked", "_law_indexes", "_law_problem_here"] : List Str), defScope st0, fun _ => true⟩ y = true → (y == ("__debug__" : Str)) = false → (y == ("__classdict__" : Str)) = false → PE X' (.Name y p) (tVar i) := fun X' i y p n1 n2 hi hv d1 d2 =>
      pe_var (i := i) (by rw [n1, ft.N]; exact hi) (by rw [n2]; exact vis_ok hv ft) d1 d2
    have tr := ps_try_as (X := X) (x := "NotPossible") (n := "_law_problem_here") (c := .ref C) (i := 3) (np := p14) (pos := p24) (pos' := p23) (Wout := fun _ _ _ _ => False)
      (tb := fun W => tRet (tIf (tTest (tOp (rEqD X.K) (tVar 0) (tC (.int 0)))) (tCallS (spE F C e0 2) (WE W) (tCons (tVar 1) (tCons (tVar 2) tNil))) (tCallS (spE F C e1 2) (WE W) (tCons (tVar 1) (tCons (tVar 2) tNil)))))
      (ts := fun a cls d => tRet (tLst (tCons (tXf a cls d C "why" (tVar 3)) (tCons (tCB (rIsX X.K C a cls d) (tCons (tVar 3) (tCons (tC (.ref R)) tNil))) tNil))))
      hstk hfr ft.nd (by rw [ft.N]; rfl) (by show X.env.scope.names.lookup _ = _; rw [ft.sc]; exact vl) ⟨gl_ok g3 ft, by decide, .inl T.gC⟩ takes0
      (fun W pn xe tk _ => pss_one (ps_ret (pos := p13) (pe_ifExp (pos := p12) (pt_cmpR (pos := p3) (dEq hA) (var (X.tr pn xe) 0 "_law_which" p1 rfl rfl rfl vv1 (by decide) (by decide)) (pe_int (j := kk) (pos := p2)) (nomark _))
        (pe_callS (p := p4) (pos := p7) F0 hA (have z : Gl X "conflict_evidence" := gl_ok g1 ft; z) m0 k0 b0 (fun σ => passAt tk σ) (pa2 (var (X.tr pn xe) 1 "_law_asked" p5 rfl rfl rfl vv2 (by decide) (by decide)) rfl (var (X.tr pn xe) 2 "_law_indexes" p6 rfl rfl rfl v3 (by decide) (by decide)) rfl))
        (pe_callS (p := p8) (pos := p11) F1 hA (have z : Gl X "correction_evidence" := gl_ok g2 ft; z) m1 k1 b1 (fun σ => passAt tk σ) (pa2 (var (X.tr pn xe) 1 "_law_asked" p9 rfl rfl rfl vv2 (by decide) (by decide)) rfl (var (X.tr pn xe) 2 "_law_indexes" p10 rfl rfl rfl v3 (by decide) (by decide)) rfl)))))
      (fun a oe cls d pn hz hf => pss_one (ps_ret (pos := p22) (pe_lst (pos := p21) (pa_cons (pe_xf (pos := p16) T.xf T.no hz hf (var (X.suite a ((a, oe) :: pn)) 3 "_law_problem_here" p15 rfl rfl rfl v4 (by decide) (by decide)))
        (pa_cons (pe_callB (p := p17) (pos := p20) (call_isX T.ec hz hf) (have z : Gl X "isinstance" := gl_ok g5 ft; z) (ft.blt _ (by decide)) PyProof.Rows.boot_isinstance (pa2 (var (X.suite a ((a, oe) :: pn)) 3 "_law_problem_here" p18 rfl rfl rfl v4 (by decide) (by decide)) rfl (pe_glob (X := X.suite a ((a, oe) :: pn)) (v := .ref R) (pos := p19) (have z : Gl X "RankError" := gl_ok g4 ft; z) T.gR rfl) rfl) (by decide) (by decide) rfl rfl) pa_nil)))))
    refine ⟨_, PSs.nox (hX ▸ pss_one tr), ?_⟩
    have z0 : (L2.start (["_law_which", "_law_asked", "_law_indexes", "_law_problem_here"] : List Str) [.int ww, v1, v2])[0]? = some (some (.int ww)) := start_at rfl
    have z1 : (L2.start (["_law_which", "_law_asked", "_law_indexes", "_law_problem_here"] : List Str) [.int ww, v1, v2])[1]? = some (some v1) := start_at rfl
    have z2 : (L2.start (["_law_which", "_law_asked", "_law_indexes", "_law_problem_here"] : List Str) [.int ww, v1, v2])[2]? = some (some v2) := start_at rfl
    have zl : (L2.start (["_law_which", "_law_asked", "_law_indexes", "_law_problem_here"] : List Str) [.int ww, v1, v2]).length = 4 := rfl
    generalize L2.start (["_law_which", "_law_asked", "_law_indexes", "_law_problem_here"] : List Str) [.int ww, v1, v2] = σ at z0 z1 z2 zl ⊢
    have call : ∀ (e : EvP), evid F e [p, i] = some r → ∀ H0, Ex H H0 → tCallS (spE F C e 2) (WE (wAs X.K (.ref C) 3 (fun a cls d => tRet (tLst (tCons (tXf a cls d C "why" (tVar 3)) (tCons (tCB (rIsX X.K C a cls d) (tCons (tVar 3) (tCons (tC (.ref R)) tNil))) tNil)))) (fun _ _ _ _ => False) { nx := fun _ H' => Q .non H', rt := Q })) (tCons (tVar 1) (tCons (tVar 2) tNil)) σ H0 Q := fun e he H0 ex0 => by
      refine ⟨v1, z1, v2, z2, M, [p, i], r, al.up ex0, .cons (rp.up (hide_mono ex0)) (.cons (ri.up (hide_mono ex0)) .nil), rfl, he, ?_⟩
      cases r with
      | inl d => exact fun v H2 ex rv => q v H2 (ex0.trans ex) rv
      | inr z =>
        intro dd H2 ex hd
        refine ⟨true, T.te, fun _ b hbn => ?_, fun q => nomatch q⟩
        have zb : (σ.set 3 (some (V.ref b)))[3]? = some (some (.ref b)) := by rw [List.getElem?_set_self (by omega)]
        refine ⟨.ref b, zb, rfl, rfl, dd, _, .str z, rfl, hd, rfl, .ref b, zb, .ref R, .ref R, true, dd, _, rfl, rfl, rfl, hd, fun u ru => ru, T.kit, by show 2 ≤ sizeLine; decide, fun pp hp => ?_⟩
        have e2 := ex0.trans ex
        exact q _ _ (e2.trans (Ex.new hp)) (.lst (new_free hp (al.up e2) upd_same) (.cons (.str z) (.cons (.bl true) .nil)))
    have test := et_test (ee_eqI (K := X.K) (ρ := [.dat (.int ww), .no, .no, .no]) (ee_var (n := 0) rfl) (ee_int (i := 0)))
    refine test [] M σ H ⟨zl, fun n s hs => ?_⟩ al _ fun H0 ex0 => ?_
    · match n, hs with
      | 0, hs =>
        cases hs
        exact ⟨_, z0, Rp.int ww⟩
      | 1, hs =>
        cases hs
        exact ⟨_, z1, trivial⟩
      | 2, hs =>
        cases hs
        exact ⟨_, z2, trivial⟩
      | 3, hs =>
        cases hs
        refine ⟨σ[3]'(by omega), List.getElem?_eq_getElem (by omega), ?_⟩
        unfold SlOk
        trivial
      | n + 4, hs => cases hs
    · by_cases c : ww = 0
      · rw [if_pos c] at he
        rw [decide_eq_true c]
        exact call e0 he H0 ex0
      · rw [if_neg c] at he
        rw [decide_eq_false c]
        exact call e1 he H0 ex0
end
end R60

end -- T2
section -- E0
set_option Elab.async false
set_option linter.all false
set_option maxRecDepth 100000
set_option maxHeartbeats 4000000
/-! _law_stream, law; the levels. -/
namespace R60
open PySem PySem.Spec PyProof.Rows L2 RZ
open Evl (Ex)
/-- _law_stream(script) -/
def spStm (K : PySem.W.Frag) : Sp := fun vs H Q _ => ∃ (a : Addr) (ns : List Int), vs = [.ref a] ∧ SqL K H a (ns.map V.int) ∧ ∀ st sp H2, Ex H H2 → H2 st = some (.lst [.ref sp, .int 0, .int 0]) → H2 sp = some (.lst (ns.map V.int)) → Q (.ref st) H2
def spLaw (K : PySem.W.Frag) : Sp := fun vs H Q _ => ∃ (a : Addr) (ns : List Int), vs = [.ref a] ∧ SqL K H a (ns.map V.int) ∧ ∀ H2, Q (.bl true) H2
section
variable {P : Program} {w : World} {K : PySem.W.Frag} {mg : Str → Option Value} {base : Heap} {F : Fs} {NM : List Str} {DN : Nat → Option Str} {j : Nat}
theorem cal_mono {k k' : Nat} {x : Str} {sp : Sp} (h : C8.Cal P w K mg base k x sp []) (hk : k ≤ k') : C8.Cal P w K mg base k' x sp [] := by
  obtain ⟨f, fd, ps, ds, F, h1, h2, h3, h4⟩ := h.ex
  exact ⟨f, fd, ps, ds, F.mono hk, h1, h2, h3, h4⟩
theorem Lv.mono {DN' : Nat → Option Str} {k : Nat} (l : Lv P w K mg base F NM G0 DN j) (hk : j ≤ k) (hd : ∀ f x, DN' f = some x → C8.Cal P w K mg base k x (spD G0 f) []) : Lv P w K mg base F NM G0 DN' k :=
  ⟨l.blt, l.con, fun f x h => cal_mono (l.call f x h) hk, hd⟩
theorem stream_cal {st0 : Stmt} {p1 p2 p3 p4 p5 p6 p7 : Pos} {k1 k2 : Nat} (l : Lv P w K mg base F NM G0 DN j) (h : DefHas K mg "_law_stream" st0 (["_law_script"] : List Str) ["_law_script"])
    (hb : defBody st0 = [.Return (some (.List [.Call (.Name "list" p1) [.Name "_law_script" p2] [] p3, .Constant (.int 0) k1 p4, .Constant (.int 0) k2 p5] p6)) p7])
    (hv : (visB ⟨(["_law_script"] : List Str), defScope st0, fun _ => true⟩ "_law_script" && glB ⟨(["_law_script"] : List Str), defScope st0, fun _ => true⟩ "list") = true) : C8.Cal P w K mg base (j + 1) "_law_stream" (spStm K) [] := by
  obtain ⟨x, qual, a, fdat, Fd, hm, bd, S⟩ := h
  refine ⟨a, fdat, _, [], Fd.ok S (fun vs H Q E q => ?_) (fun cdv A outer s H vs Q E hr q => ?_), hm, Fd.kp, bd, .nil⟩
  · obtain ⟨a, ns, rfl, _⟩ := q
    rfl
  · obtain ⟨a', ns, rfl, hS, q⟩ := q
    rw [hb]
    have ft := (l.fits (CX := C8.CX0) (qual := qual) (a := a) (cdv := cdv) (A := A) (outer := outer) (s := s) (H := H) (E := E) S hr).toFits
    refine ⟨_, PSs.nox (pss_one (ps_ret (pos := p7) (pe_lst (pos := p6) (pa_cons (pe_callTy (p := p1) (pos := p3) dList (gl_ok (and_tt hv).2 ft) (ft.blt _ (by decide)) PyProof.Rows.boot_list (pa1 (pe_var (i := 0) (pos := p2) rfl (vis_ok (and_tt hv).1 ft)) rfl) (by decide) (by decide) rfl rfl)
      (pa_cons (pe_int (i := 0) (j := k1) (pos := p4)) (pa_cons (pe_int (i := 0) (j := k2) (pos := p5)) pa_nil)))))), ?_⟩
    refine ⟨.ref a', rfl, a', ns.map V.int, rfl, .inl hS, fun l hl => ⟨by show 3 ≤ sizeLine; decide, fun p hp => ?_⟩⟩
    exact q p l _ ((Ex.new hl).trans (Ex.new hp)) upd_same (by rw [upd_ne (ne_of_none upd_same hp), upd_same])
theorem law_ok {st0 b0 : Stmt} {rest : List Stmt} {N : List Str} {p1 p2 p3 p4 p5 : Pos} {p : Sn} (l : Lv P w K mg base F NM G0 DN j) (hst : C8.Cal P w K mg base j "_law_stream" (spStm K) []) {x qual : Str} {a : Addr} {fdat : FuncData} (Fd : FunD K x qual (defArgs st0) (defBody st0) (defScope st0) [] [] a fdat) (S : FnScope N ["_law_script"] (defScope st0))
    (hb : defBody st0 = .Assign [.Name "_law_stream_here" p1] (.Call (.Name "_law_stream" p2) [.Name "_law_script" p3] [] p4) p5 :: rest)
    (hv : (visB ⟨N, defScope st0, fun _ => true⟩ "_law_script" && glB ⟨N, defScope st0, fun _ => true⟩ "_law_stream" && chkN ⟨N, defScope st0, fun _ => true⟩ 1 "_law_stream_here" && decide (N[0]? = some ("_law_script" : Str)) && decide (N.length = 24)) = true)
    (hk : ∀ X, FitsNS F NM G0 DN ⟨N, defScope st0, fun _ => true⟩ X → PSs X rest (cSN F G0 WN p))
    (hw : ∀ w : V, wS F G0 WN p (.no :: .fix w :: List.replicate 22 .no) (fun o => o = .rt (.bool true))) : FnOk P w K mg base L2.CX0 (j + 1) a fdat ["_law_script"] (spLaw K) := by
  refine Fd.ok S (fun vs H Q E q => ?_) (fun cdv A outer s H vs Q E hr q => ?_)
  · obtain ⟨a, ns, rfl, _⟩ := q
    rfl
  · obtain ⟨a', ns, rfl, hS, q⟩ := q
    rw [hb]
    have ft := l.fits (CX := L2.CX0) (qual := qual) (a := a) (cdv := cdv) (A := A) (outer := outer) (s := s) (H := H) (E := E) S hr
    obtain ⟨hv, v5⟩ := and_tt hv
    obtain ⟨hv, v4⟩ := and_tt hv
    obtain ⟨hv, v3⟩ := and_tt hv
    obtain ⟨v1, v2⟩ := and_tt hv
    have v4 : N[0]? = some ("_law_script" : Str) := of_decide_eq_true v4
    have v5 : N.length = 24 := of_decide_eq_true v5
    have F0 := ft.toFits
    have call := C8.pe_c (p := p2) (pos := p4) hst hr (Nat.le_refl _) (gl_ok v2 F0) (pa1 (pe_var (i := 0) (pos := p3) (by rw [F0.N]; exact v4) (vis_ok v1 F0)) rfl) (by decide) rfl rfl
    refine ⟨tSeq (tAsg (tCall (spStm K) [] C8.E0 (tCons (tVar 0) tNil)) (gName 1)) (cSN F G0 WN p), PSs.nox (pss_cons (ps_setP (py := p1) (pos := p5) F0 v3 call rfl) (hk _ ft)), ?_⟩
    have z0 : (L2.start N [.ref a'])[0]? = some (some (.ref a')) := start_at rfl
    have zl : (L2.start N [.ref a']).length = 24 := by unfold L2.start; simp; omega
    refine ⟨.ref a', z0, a', ns, rfl, hS, fun st sp H2 ex h1 h2 => ?_⟩
    have sm : Sm st sp H2 := ⟨ns, 0, 0, h1, h2, Int.le_refl _⟩
    refine ⟨[st, sp], [], st, sp, .no :: .fix (.ref st) :: List.replicate 22 .no, _, ⟨⟨⟨by rw [List.length_set, zl]; rfl, fun i s hs => ?_⟩, fun m hm => ?_, fun p hp => (nomatch hp), fun i j ds es p q1 _ _ _ => ?_⟩, sm, by simp, by simp, fun i w' hi => ?_⟩, hw (.ref st), fun o po => ?_⟩
    · match i, hs with
      | 0, hs =>
        cases hs
        exact ⟨_, by rw [List.getElem?_set_ne (by decide)]; exact z0, by unfold SlOk; trivial⟩
      | 1, hs =>
        cases hs
        exact ⟨some (.ref st), by rw [List.getElem?_set_self (by omega)], SlOk.fixI rfl⟩
      | i + 2, hs =>
        rw [List.getElem?_cons_succ, List.getElem?_cons_succ] at hs
        have e := List.eq_of_mem_replicate (List.mem_of_getElem? hs)
        have hlt := (List.getElem?_eq_some_iff.mp hs).1
        rw [List.length_replicate] at hlt
        subst e
        exact ⟨_, List.getElem?_eq_getElem (by rw [List.length_set]; omega), by unfold SlOk; trivial⟩
    · rcases (show m = st ∨ m = sp by simpa using hm) with z | z
      · rw [z, h1]; simp
      · rw [z, h2]; simp
    · match i, q1 with
      | 0, q1 => cases q1
      | 1, q1 => cases q1
      | i + 2, q1 =>
        rw [List.getElem?_cons_succ, List.getElem?_cons_succ] at q1
        have e := List.eq_of_mem_replicate (List.mem_of_getElem? q1)
        cases e
    · match i, hi with
      | 0, hi => cases hi
      | 1, hi => cases hi; rfl
      | i + 2, hi =>
        rw [List.getElem?_cons_succ, List.getElem?_cons_succ] at hi
        have e := List.eq_of_mem_replicate (List.mem_of_getElem? hi)
        cases e
    · cases po
      intro v own' H' _ _ r
      rw [r.is_bl]
      exact q H'
end
end R60

end -- E0
section -- E2
set_option Elab.async false
set_option linter.all false
set_option maxRecDepth 100000
set_option maxHeartbeats 0
/-! conflict_evidence, correction_evidence as small programs. -/
namespace R60
open PySem L2
def ev0 : EvP := ⟨(.call 34 (.cons (.var 0) (.cons (.var 1) .nil))), (.not (.call 40 (.cons (.var 0) (.cons (.var 1) .nil)))), "conflict", 2, (false, [3], (.itS (.var 1)), (.bl true), (.call 37 (.cons (.call 35 (.cons (.var 0) (.cons (.call 39 (.cons (.var 1) (.cons (.var 3) .nil))) .nil))) .nil))), (.tup (.cons (.call 26 (.cons (.call 35 (.cons (.var 0) (.cons (.var 1) .nil))) .nil)) (.cons (.tupOf (.var 2)) .nil))), ["problem", "indexes", "rankings", "index"]⟩
def ev1 : EvP := ⟨(.call 34 (.cons (.var 0) (.cons (.var 1) .nil))), (.not (.call 44 (.cons (.var 0) (.cons (.var 1) .nil)))), "correction", 2, (false, [3], (.itS (.var 1)), (.bl true), (.call 26 (.cons (.call 35 (.cons (.var 0) (.cons (.call 43 (.cons (.var 0) (.cons (.var 1) (.cons (.var 3) .nil)))) .nil))) .nil))), (.tup (.cons (.call 37 (.cons (.call 35 (.cons (.var 0) (.cons (.call 42 (.cons (.var 0) (.cons (.var 1) .nil))) .nil))) .nil)) (.cons (.tupOf (.var 2)) .nil))), ["problem", "indexes", "rows", "index"]⟩
end R60

end -- E2
section -- C1
set_option Elab.async false
set_option linter.all false
set_option maxRecDepth 100000
set_option maxHeartbeats 0
namespace R60
open PySem PySem.Spec PyProof.Rows L2
def top (i : Nat) : Stmt := PySem.Challenge.pw_rankswithin_k60_whole_evidence_of_confli.main.body.getD i (.Pass ⟨0, 0, 0, 0⟩)
abbrev s_BadValueinit : Stmt := inClass (top 2) 0
abbrev s_NotPossibleinit : Stmt := inClass (top 3) 0
abbrev s_is_whole : Stmt := top 7
abbrev s_is_constraint : Stmt := top 8
abbrev s_is_problem : Stmt := top 9
abbrev s_is_ranking : Stmt := top 10
abbrev s_holds : Stmt := top 11
abbrev s_violated_by : Stmt := top 12
abbrev s_is_good : Stmt := top 13
abbrev s_check_problem_problems : Stmt := top 14
abbrev s_check_problem_windows : Stmt := top 17
abbrev s_is_between : Stmt := top 19
abbrev s_is_item : Stmt := top 20
abbrev s_given_low : Stmt := top 21
abbrev s_given_high : Stmt := top 22
abbrev s_before : Stmt := top 23
abbrev s_behind : Stmt := top 24
abbrev s_ordered : Stmt := top 25
abbrev s_is_cyclic : Stmt := top 26
abbrev s_earliest_of : Stmt := top 27
abbrev s_latest_of : Stmt := top 28
abbrev s_lower_chain : Stmt := top 29
abbrev s_upper_chain : Stmt := top 30
abbrev s_is_chain : Stmt := top 31
abbrev s_cycles_from : Stmt := top 33
abbrev s_cycle_of : Stmt := top 34
abbrev s_places_of : Stmt := top 37
abbrev s_intervals_of : Stmt := top 38
abbrev s_told_contradiction : Stmt := top 39
abbrev s_shows_low : Stmt := top 40
abbrev s_shows_high : Stmt := top 41
abbrev s_is_row : Stmt := top 42
abbrev s_is_overfull : Stmt := top 43
abbrev s_is_contradiction : Stmt := top 44
abbrev s_accepts_contradiction : Stmt := top 45
abbrev s_are_indexes : Stmt := top 47
abbrev s_check_indexes : Stmt := top 48
abbrev s_part_of : Stmt := top 49
abbrev s_part : Stmt := top 50
abbrev s_found_by_deadlines : Stmt := top 52
abbrev s_can_hold : Stmt := top 54
abbrev s_less : Stmt := top 55
abbrev s_is_conflict : Stmt := top 56
abbrev s_conflict_evidence : Stmt := top 57
abbrev s_accepts_conflict : Stmt := top 58
abbrev s_others_of : Stmt := top 60
abbrev s_kept_with : Stmt := top 61
abbrev s_is_correction : Stmt := top 62
abbrev s_correction_evidence : Stmt := top 63
abbrev s_accepts_correction : Stmt := top 64
abbrev s_law_stream : Stmt := top 66
abbrev s_law_next : Stmt := top 67
abbrev s_law_is_integer : Stmt := top 68
abbrev s_law_equal : Stmt := top 69
abbrev s_law_pick : Stmt := top 70
abbrev s_law_constraint : Stmt := top 71
abbrev s_law_problem : Stmt := top 72
abbrev s_law_shuffled : Stmt := top 73
abbrev s_law_holds : Stmt := top 74
abbrev s_law_rankings : Stmt := top 75
abbrev s_law_is_good : Stmt := top 76
abbrev s_law_chosen : Stmt := top 77
abbrev s_law_without : Stmt := top 78
abbrev s_law_rest : Stmt := top 79
abbrev s_law_conflict : Stmt := top 80
abbrev s_law_correction : Stmt := top 81
abbrev s_law_told : Stmt := top 82
abbrev s_law_bent : Stmt := top 83
abbrev s_law : Stmt := top 84
abbrev NM : List Str := TB.map (·.name)
theorem k_is_whole (F : Fs) : ((chkS F NM WN p_is_whole).b ⟨N_is_whole, defScope s_is_whole, fun _ => true⟩ (defBody s_is_whole)).isSome = true := by kernel_rfl
theorem sc_is_whole : FnScope N_is_whole ["value", "low", "high"] (defScope s_is_whole) := ⟨rfl, rfl, rfl, by decide +kernel, rfl, by decide +kernel, by decide +kernel⟩
theorem k_is_constraint (F : Fs) : ((chkS F NM WN p_is_constraint).b ⟨N_is_constraint, defScope s_is_constraint, fun _ => true⟩ (defBody s_is_constraint)).isSome = true := by kernel_rfl
theorem sc_is_constraint : FnScope N_is_constraint ["items", "value"] (defScope s_is_constraint) := ⟨rfl, rfl, rfl, by decide +kernel, rfl, by decide +kernel, by decide +kernel⟩
theorem k_is_problem (F : Fs) : ((chkS F NM WN p_is_problem).b ⟨N_is_problem, defScope s_is_problem, fun _ => true⟩ (defBody s_is_problem)).isSome = true := by kernel_rfl
theorem sc_is_problem : FnScope N_is_problem ["value"] (defScope s_is_problem) := ⟨rfl, rfl, rfl, by decide +kernel, rfl, by decide +kernel, by decide +kernel⟩
theorem k_is_ranking (F : Fs) : ((chkS F NM WN p_is_ranking).b ⟨N_is_ranking, defScope s_is_ranking, fun _ => true⟩ (defBody s_is_ranking)).isSome = true := by kernel_rfl
theorem sc_is_ranking : FnScope N_is_ranking ["items", "value"] (defScope s_is_ranking) := ⟨rfl, rfl, rfl, by decide +kernel, rfl, by decide +kernel, by decide +kernel⟩
theorem k_holds (F : Fs) : ((chkS F NM WN p_holds).b ⟨N_holds, defScope s_holds, fun _ => true⟩ (defBody s_holds)).isSome = true := by kernel_rfl
theorem sc_holds : FnScope N_holds ["constraint", "ranking"] (defScope s_holds) := ⟨rfl, rfl, rfl, by decide +kernel, rfl, by decide +kernel, by decide +kernel⟩
theorem k_violated_by (F : Fs) : ((chkS F NM WN p_violated_by).b ⟨N_violated_by, defScope s_violated_by, fun _ => true⟩ (defBody s_violated_by)).isSome = true := by kernel_rfl
theorem sc_violated_by : FnScope N_violated_by ["problem", "ranking"] (defScope s_violated_by) := ⟨rfl, rfl, rfl, by decide +kernel, rfl, by decide +kernel, by decide +kernel⟩
theorem k_is_good (F : Fs) : ((chkS F NM WN p_is_good).b ⟨N_is_good, defScope s_is_good, fun _ => true⟩ (defBody s_is_good)).isSome = true := by kernel_rfl
theorem sc_is_good : FnScope N_is_good ["problem", "ranking"] (defScope s_is_good) := ⟨rfl, rfl, rfl, by decide +kernel, rfl, by decide +kernel, by decide +kernel⟩
theorem k_check_problem_problems (F : Fs) : ((chkS F NM WN p_check_problem_problems).b ⟨N_check_problem_problems, defScope s_check_problem_problems, fun _ => true⟩ (defBody s_check_problem_problems)).isSome = true := by kernel_rfl
theorem sc_check_problem_problems : FnScope N_check_problem_problems ["problem"] (defScope s_check_problem_problems) := ⟨rfl, rfl, rfl, by decide +kernel, rfl, by decide +kernel, by decide +kernel⟩
theorem k_check_problem_windows (F : Fs) : ((chkS F NM WN p_check_problem_windows).b ⟨N_check_problem_windows, defScope s_check_problem_windows, fun _ => true⟩ (defBody s_check_problem_windows)).isSome = true := by kernel_rfl
theorem sc_check_problem_windows : FnScope N_check_problem_windows ["value"] (defScope s_check_problem_windows) := ⟨rfl, rfl, rfl, by decide +kernel, rfl, by decide +kernel, by decide +kernel⟩
theorem k_is_between (F : Fs) : ((chkS F NM WN p_is_between).b ⟨N_is_between, defScope s_is_between, fun _ => true⟩ (defBody s_is_between)).isSome = true := by kernel_rfl
theorem sc_is_between : FnScope N_is_between ["value", "low", "high"] (defScope s_is_between) := ⟨rfl, rfl, rfl, by decide +kernel, rfl, by decide +kernel, by decide +kernel⟩
theorem k_is_item (F : Fs) : ((chkS F NM WN p_is_item).b ⟨N_is_item, defScope s_is_item, fun _ => true⟩ (defBody s_is_item)).isSome = true := by kernel_rfl
theorem sc_is_item : FnScope N_is_item ["value", "problem"] (defScope s_is_item) := ⟨rfl, rfl, rfl, by decide +kernel, rfl, by decide +kernel, by decide +kernel⟩
theorem k_given_low (F : Fs) : ((chkS F NM WN p_given_low).b ⟨N_given_low, defScope s_given_low, fun _ => true⟩ (defBody s_given_low)).isSome = true := by kernel_rfl
theorem sc_given_low : FnScope N_given_low ["problem", "item"] (defScope s_given_low) := ⟨rfl, rfl, rfl, by decide +kernel, rfl, by decide +kernel, by decide +kernel⟩
theorem k_given_high (F : Fs) : ((chkS F NM WN p_given_high).b ⟨N_given_high, defScope s_given_high, fun _ => true⟩ (defBody s_given_high)).isSome = true := by kernel_rfl
theorem sc_given_high : FnScope N_given_high ["problem", "item"] (defScope s_given_high) := ⟨rfl, rfl, rfl, by decide +kernel, rfl, by decide +kernel, by decide +kernel⟩
theorem k_before (F : Fs) : ((chkS F NM WN p_before).b ⟨N_before, defScope s_before, fun _ => true⟩ (defBody s_before)).isSome = true := by kernel_rfl
theorem sc_before : FnScope N_before ["problem", "item"] (defScope s_before) := ⟨rfl, rfl, rfl, by decide +kernel, rfl, by decide +kernel, by decide +kernel⟩
theorem k_behind (F : Fs) : ((chkS F NM WN p_behind).b ⟨N_behind, defScope s_behind, fun _ => true⟩ (defBody s_behind)).isSome = true := by kernel_rfl
theorem sc_behind : FnScope N_behind ["problem", "item"] (defScope s_behind) := ⟨rfl, rfl, rfl, by decide +kernel, rfl, by decide +kernel, by decide +kernel⟩
theorem k_ordered (F : Fs) : ((chkS F NM WN p_ordered).b ⟨N_ordered, defScope s_ordered, fun _ => true⟩ (defBody s_ordered)).isSome = true := by kernel_rfl
theorem sc_ordered : FnScope N_ordered ["problem"] (defScope s_ordered) := ⟨rfl, rfl, rfl, by decide +kernel, rfl, by decide +kernel, by decide +kernel⟩
theorem k_is_cyclic (F : Fs) : ((chkS F NM WN p_is_cyclic).b ⟨N_is_cyclic, defScope s_is_cyclic, fun _ => true⟩ (defBody s_is_cyclic)).isSome = true := by kernel_rfl
theorem sc_is_cyclic : FnScope N_is_cyclic ["problem"] (defScope s_is_cyclic) := ⟨rfl, rfl, rfl, by decide +kernel, rfl, by decide +kernel, by decide +kernel⟩
theorem k_earliest_of (F : Fs) : ((chkS F NM WN p_earliest_of).b ⟨N_earliest_of, defScope s_earliest_of, fun _ => true⟩ (defBody s_earliest_of)).isSome = true := by kernel_rfl
theorem sc_earliest_of : FnScope N_earliest_of ["problem"] (defScope s_earliest_of) := ⟨rfl, rfl, rfl, by decide +kernel, rfl, by decide +kernel, by decide +kernel⟩
theorem k_latest_of (F : Fs) : ((chkS F NM WN p_latest_of).b ⟨N_latest_of, defScope s_latest_of, fun _ => true⟩ (defBody s_latest_of)).isSome = true := by kernel_rfl
theorem sc_latest_of : FnScope N_latest_of ["problem"] (defScope s_latest_of) := ⟨rfl, rfl, rfl, by decide +kernel, rfl, by decide +kernel, by decide +kernel⟩
theorem k_lower_chain (F : Fs) : ((chkS F NM WN p_lower_chain).b ⟨N_lower_chain, defScope s_lower_chain, fun _ => true⟩ (defBody s_lower_chain)).isSome = true := by kernel_rfl
theorem sc_lower_chain : FnScope N_lower_chain ["problem", "item"] (defScope s_lower_chain) := ⟨rfl, rfl, rfl, by decide +kernel, rfl, by decide +kernel, by decide +kernel⟩
theorem k_upper_chain (F : Fs) : ((chkS F NM WN p_upper_chain).b ⟨N_upper_chain, defScope s_upper_chain, fun _ => true⟩ (defBody s_upper_chain)).isSome = true := by kernel_rfl
theorem sc_upper_chain : FnScope N_upper_chain ["problem", "item"] (defScope s_upper_chain) := ⟨rfl, rfl, rfl, by decide +kernel, rfl, by decide +kernel, by decide +kernel⟩
theorem k_is_chain (F : Fs) : ((chkS F NM WN p_is_chain).b ⟨N_is_chain, defScope s_is_chain, fun _ => true⟩ (defBody s_is_chain)).isSome = true := by kernel_rfl
theorem sc_is_chain : FnScope N_is_chain ["problem", "value"] (defScope s_is_chain) := ⟨rfl, rfl, rfl, by decide +kernel, rfl, by decide +kernel, by decide +kernel⟩
theorem k_cycles_from (F : Fs) : ((chkS F NM WN p_cycles_from).b ⟨N_cycles_from, defScope s_cycles_from, fun _ => true⟩ (defBody s_cycles_from)).isSome = true := by kernel_rfl
theorem sc_cycles_from : FnScope N_cycles_from ["problem", "item"] (defScope s_cycles_from) := ⟨rfl, rfl, rfl, by decide +kernel, rfl, by decide +kernel, by decide +kernel⟩
theorem k_cycle_of (F : Fs) : ((chkS F NM WN p_cycle_of).b ⟨N_cycle_of, defScope s_cycle_of, fun _ => true⟩ (defBody s_cycle_of)).isSome = true := by kernel_rfl
theorem sc_cycle_of : FnScope N_cycle_of ["problem"] (defScope s_cycle_of) := ⟨rfl, rfl, rfl, by decide +kernel, rfl, by decide +kernel, by decide +kernel⟩
theorem k_places_of (F : Fs) : ((chkS F NM WN p_places_of).b ⟨N_places_of, defScope s_places_of, fun _ => true⟩ (defBody s_places_of)).isSome = true := by kernel_rfl
theorem sc_places_of : FnScope N_places_of ["low", "high"] (defScope s_places_of) := ⟨rfl, rfl, rfl, by decide +kernel, rfl, by decide +kernel, by decide +kernel⟩
theorem k_intervals_of (F : Fs) : ((chkS F NM WN p_intervals_of).b ⟨N_intervals_of, defScope s_intervals_of, fun _ => true⟩ (defBody s_intervals_of)).isSome = true := by kernel_rfl
theorem sc_intervals_of : FnScope N_intervals_of ["problem"] (defScope s_intervals_of) := ⟨rfl, rfl, rfl, by decide +kernel, rfl, by decide +kernel, by decide +kernel⟩
theorem k_told_contradiction (F : Fs) : ((chkS F NM WN p_told_contradiction).b ⟨N_told_contradiction, defScope s_told_contradiction, fun _ => true⟩ (defBody s_told_contradiction)).isSome = true := by kernel_rfl
theorem sc_told_contradiction : FnScope N_told_contradiction ["problem"] (defScope s_told_contradiction) := ⟨rfl, rfl, rfl, by decide +kernel, rfl, by decide +kernel, by decide +kernel⟩
theorem k_shows_low (F : Fs) : ((chkS F NM WN p_shows_low).b ⟨N_shows_low, defScope s_shows_low, fun _ => true⟩ (defBody s_shows_low)).isSome = true := by kernel_rfl
theorem sc_shows_low : FnScope N_shows_low ["problem", "item", "low", "value"] (defScope s_shows_low) := ⟨rfl, rfl, rfl, by decide +kernel, rfl, by decide +kernel, by decide +kernel⟩
theorem k_shows_high (F : Fs) : ((chkS F NM WN p_shows_high).b ⟨N_shows_high, defScope s_shows_high, fun _ => true⟩ (defBody s_shows_high)).isSome = true := by kernel_rfl
theorem sc_shows_high : FnScope N_shows_high ["problem", "item", "high", "value"] (defScope s_shows_high) := ⟨rfl, rfl, rfl, by decide +kernel, rfl, by decide +kernel, by decide +kernel⟩
theorem k_is_row (F : Fs) : ((chkS F NM WN p_is_row).b ⟨N_is_row, defScope s_is_row, fun _ => true⟩ (defBody s_is_row)).isSome = true := by kernel_rfl
theorem sc_is_row : FnScope N_is_row ["problem", "low", "high", "value"] (defScope s_is_row) := ⟨rfl, rfl, rfl, by decide +kernel, rfl, by decide +kernel, by decide +kernel⟩
theorem k_is_overfull (F : Fs) : ((chkS F NM WN p_is_overfull).b ⟨N_is_overfull, defScope s_is_overfull, fun _ => true⟩ (defBody s_is_overfull)).isSome = true := by kernel_rfl
theorem sc_is_overfull : FnScope N_is_overfull ["problem", "low", "high", "rows"] (defScope s_is_overfull) := ⟨rfl, rfl, rfl, by decide +kernel, rfl, by decide +kernel, by decide +kernel⟩
theorem k_is_contradiction (F : Fs) : ((chkS F NM WN p_is_contradiction).b ⟨N_is_contradiction, defScope s_is_contradiction, fun _ => true⟩ (defBody s_is_contradiction)).isSome = true := by kernel_rfl
theorem sc_is_contradiction : FnScope N_is_contradiction ["problem", "value"] (defScope s_is_contradiction) := ⟨rfl, rfl, rfl, by decide +kernel, rfl, by decide +kernel, by decide +kernel⟩
theorem k_accepts_contradiction (F : Fs) : ((chkS F NM WN p_accepts_contradiction).b ⟨N_accepts_contradiction, defScope s_accepts_contradiction, fun _ => true⟩ (defBody s_accepts_contradiction)).isSome = true := by kernel_rfl
theorem sc_accepts_contradiction : FnScope N_accepts_contradiction ["problem", "value"] (defScope s_accepts_contradiction) := ⟨rfl, rfl, rfl, by decide +kernel, rfl, by decide +kernel, by decide +kernel⟩
theorem k_are_indexes (F : Fs) : ((chkS F NM WN p_are_indexes).b ⟨N_are_indexes, defScope s_are_indexes, fun _ => true⟩ (defBody s_are_indexes)).isSome = true := by kernel_rfl
theorem sc_are_indexes : FnScope N_are_indexes ["problem", "value"] (defScope s_are_indexes) := ⟨rfl, rfl, rfl, by decide +kernel, rfl, by decide +kernel, by decide +kernel⟩
theorem k_check_indexes (F : Fs) : ((chkS F NM WN p_check_indexes).b ⟨N_check_indexes, defScope s_check_indexes, fun _ => true⟩ (defBody s_check_indexes)).isSome = true := by kernel_rfl
theorem sc_check_indexes : FnScope N_check_indexes ["problem", "indexes"] (defScope s_check_indexes) := ⟨rfl, rfl, rfl, by decide +kernel, rfl, by decide +kernel, by decide +kernel⟩
theorem k_part_of (F : Fs) : ((chkS F NM WN p_part_of).b ⟨N_part_of, defScope s_part_of, fun _ => true⟩ (defBody s_part_of)).isSome = true := by kernel_rfl
theorem sc_part_of : FnScope N_part_of ["problem", "indexes"] (defScope s_part_of) := ⟨rfl, rfl, rfl, by decide +kernel, rfl, by decide +kernel, by decide +kernel⟩
theorem k_part (F : Fs) : ((chkS F NM WN p_part).b ⟨N_part, defScope s_part, fun _ => true⟩ (defBody s_part)).isSome = true := by kernel_rfl
theorem sc_part : FnScope N_part ["problem", "indexes"] (defScope s_part) := ⟨rfl, rfl, rfl, by decide +kernel, rfl, by decide +kernel, by decide +kernel⟩
theorem k_found_by_deadlines (F : Fs) : ((chkS F NM WN p_found_by_deadlines).b ⟨N_found_by_deadlines, defScope s_found_by_deadlines, fun _ => true⟩ (defBody s_found_by_deadlines)).isSome = true := by kernel_rfl
theorem sc_found_by_deadlines : FnScope N_found_by_deadlines ["problem"] (defScope s_found_by_deadlines) := ⟨rfl, rfl, rfl, by decide +kernel, rfl, by decide +kernel, by decide +kernel⟩
theorem k_can_hold (F : Fs) : ((chkS F NM WN p_can_hold).b ⟨N_can_hold, defScope s_can_hold, fun _ => true⟩ (defBody s_can_hold)).isSome = true := by kernel_rfl
theorem sc_can_hold : FnScope N_can_hold ["problem", "indexes"] (defScope s_can_hold) := ⟨rfl, rfl, rfl, by decide +kernel, rfl, by decide +kernel, by decide +kernel⟩
theorem k_less (F : Fs) : ((chkS F NM WN p_less).b ⟨N_less, defScope s_less, fun _ => true⟩ (defBody s_less)).isSome = true := by kernel_rfl
theorem sc_less : FnScope N_less ["indexes", "index"] (defScope s_less) := ⟨rfl, rfl, rfl, by decide +kernel, rfl, by decide +kernel, by decide +kernel⟩
theorem k_is_conflict (F : Fs) : ((chkS F NM WN p_is_conflict).b ⟨N_is_conflict, defScope s_is_conflict, fun _ => true⟩ (defBody s_is_conflict)).isSome = true := by kernel_rfl
theorem sc_is_conflict : FnScope N_is_conflict ["problem", "indexes"] (defScope s_is_conflict) := ⟨rfl, rfl, rfl, by decide +kernel, rfl, by decide +kernel, by decide +kernel⟩
theorem k_accepts_conflict (F : Fs) : ((chkS F NM WN p_accepts_conflict).b ⟨N_accepts_conflict, defScope s_accepts_conflict, fun _ => true⟩ (defBody s_accepts_conflict)).isSome = true := by kernel_rfl
theorem sc_accepts_conflict : FnScope N_accepts_conflict ["problem", "indexes", "value"] (defScope s_accepts_conflict) := ⟨rfl, rfl, rfl, by decide +kernel, rfl, by decide +kernel, by decide +kernel⟩
theorem k_others_of (F : Fs) : ((chkS F NM WN p_others_of).b ⟨N_others_of, defScope s_others_of, fun _ => true⟩ (defBody s_others_of)).isSome = true := by kernel_rfl
theorem sc_others_of : FnScope N_others_of ["problem", "indexes"] (defScope s_others_of) := ⟨rfl, rfl, rfl, by decide +kernel, rfl, by decide +kernel, by decide +kernel⟩
theorem k_kept_with (F : Fs) : ((chkS F NM WN p_kept_with).b ⟨N_kept_with, defScope s_kept_with, fun _ => true⟩ (defBody s_kept_with)).isSome = true := by kernel_rfl
theorem sc_kept_with : FnScope N_kept_with ["problem", "indexes", "index"] (defScope s_kept_with) := ⟨rfl, rfl, rfl, by decide +kernel, rfl, by decide +kernel, by decide +kernel⟩
theorem k_is_correction (F : Fs) : ((chkS F NM WN p_is_correction).b ⟨N_is_correction, defScope s_is_correction, fun _ => true⟩ (defBody s_is_correction)).isSome = true := by kernel_rfl
theorem sc_is_correction : FnScope N_is_correction ["problem", "indexes"] (defScope s_is_correction) := ⟨rfl, rfl, rfl, by decide +kernel, rfl, by decide +kernel, by decide +kernel⟩
theorem k_accepts_correction (F : Fs) : ((chkS F NM WN p_accepts_correction).b ⟨N_accepts_correction, defScope s_accepts_correction, fun _ => true⟩ (defBody s_accepts_correction)).isSome = true := by kernel_rfl
theorem sc_accepts_correction : FnScope N_accepts_correction ["problem", "indexes", "value"] (defScope s_accepts_correction) := ⟨rfl, rfl, rfl, by decide +kernel, rfl, by decide +kernel, by decide +kernel⟩
theorem k_law_is_integer (F : Fs) : ((chkS F NM WN p_law_is_integer).b ⟨N_law_is_integer, defScope s_law_is_integer, fun _ => true⟩ (defBody s_law_is_integer)).isSome = true := by kernel_rfl
theorem sc_law_is_integer : FnScope N_law_is_integer ["_law_actual"] (defScope s_law_is_integer) := ⟨rfl, rfl, rfl, by decide +kernel, rfl, by decide +kernel, by decide +kernel⟩
theorem k_law_equal (F : Fs) : ((chkS F NM WN p_law_equal).b ⟨N_law_equal, defScope s_law_equal, fun _ => true⟩ (defBody s_law_equal)).isSome = true := by kernel_rfl
theorem sc_law_equal : FnScope N_law_equal ["_law_actual", "_law_due"] (defScope s_law_equal) := ⟨rfl, rfl, rfl, by decide +kernel, rfl, by decide +kernel, by decide +kernel⟩
theorem k_law_holds (F : Fs) : ((chkS F NM WN p_law_holds).b ⟨N_law_holds, defScope s_law_holds, fun _ => true⟩ (defBody s_law_holds)).isSome = true := by kernel_rfl
theorem sc_law_holds : FnScope N_law_holds ["_law_constraint_here", "_law_ranking"] (defScope s_law_holds) := ⟨rfl, rfl, rfl, by decide +kernel, rfl, by decide +kernel, by decide +kernel⟩
theorem k_law_rankings (F : Fs) : ((chkS F NM WN p_law_rankings).b ⟨N_law_rankings, defScope s_law_rankings, fun _ => true⟩ (defBody s_law_rankings)).isSome = true := by kernel_rfl
theorem sc_law_rankings : FnScope N_law_rankings ["_law_many"] (defScope s_law_rankings) := ⟨rfl, rfl, rfl, by decide +kernel, rfl, by decide +kernel, by decide +kernel⟩
theorem k_law_is_good (F : Fs) : ((chkS F NM WN p_law_is_good).b ⟨N_law_is_good, defScope s_law_is_good, fun _ => true⟩ (defBody s_law_is_good)).isSome = true := by kernel_rfl
theorem sc_law_is_good : FnScope N_law_is_good ["_law_items", "_law_constraints", "_law_value"] (defScope s_law_is_good) := ⟨rfl, rfl, rfl, by decide +kernel, rfl, by decide +kernel, by decide +kernel⟩
theorem k_law_chosen (F : Fs) : ((chkS F NM WN p_law_chosen).b ⟨N_law_chosen, defScope s_law_chosen, fun _ => true⟩ (defBody s_law_chosen)).isSome = true := by kernel_rfl
theorem sc_law_chosen : FnScope N_law_chosen ["_law_problem_here", "_law_indexes"] (defScope s_law_chosen) := ⟨rfl, rfl, rfl, by decide +kernel, rfl, by decide +kernel, by decide +kernel⟩
theorem k_law_without (F : Fs) : ((chkS F NM WN p_law_without).b ⟨N_law_without, defScope s_law_without, fun _ => true⟩ (defBody s_law_without)).isSome = true := by kernel_rfl
theorem sc_law_without : FnScope N_law_without ["_law_indexes", "_law_index"] (defScope s_law_without) := ⟨rfl, rfl, rfl, by decide +kernel, rfl, by decide +kernel, by decide +kernel⟩
theorem k_law_rest (F : Fs) : ((chkS F NM WN p_law_rest).b ⟨N_law_rest, defScope s_law_rest, fun _ => true⟩ (defBody s_law_rest)).isSome = true := by kernel_rfl
theorem sc_law_rest : FnScope N_law_rest ["_law_problem_here", "_law_indexes"] (defScope s_law_rest) := ⟨rfl, rfl, rfl, by decide +kernel, rfl, by decide +kernel, by decide +kernel⟩
theorem k_law_conflict (F : Fs) : ((chkS F NM WN p_law_conflict).b ⟨N_law_conflict, defScope s_law_conflict, fun _ => true⟩ (defBody s_law_conflict)).isSome = true := by kernel_rfl
theorem sc_law_conflict : FnScope N_law_conflict ["_law_problem_here", "_law_indexes", "_law_value"] (defScope s_law_conflict) := ⟨rfl, rfl, rfl, by decide +kernel, rfl, by decide +kernel, by decide +kernel⟩
theorem k_law_correction (F : Fs) : ((chkS F NM WN p_law_correction).b ⟨N_law_correction, defScope s_law_correction, fun _ => true⟩ (defBody s_law_correction)).isSome = true := by kernel_rfl
theorem sc_law_correction : FnScope N_law_correction ["_law_problem_here", "_law_indexes", "_law_value"] (defScope s_law_correction) := ⟨rfl, rfl, rfl, by decide +kernel, rfl, by decide +kernel, by decide +kernel⟩
end R60

end -- C1
section -- C2
set_option Elab.async false
set_option linter.all false
set_option maxRecDepth 100000
set_option maxHeartbeats 0
namespace R60
open PySem PySem.Spec PyProof.Rows L2
def stAt (s : Stmt) (i : Nat) : Stmt := (defBody s).getD i (.Pass ⟨0, 0, 0, 0⟩)
theorem sc_law_next : FnScope N_law_next ["_law_stream_here", "_law_many"] (defScope s_law_next) := ⟨rfl, rfl, rfl, by decide +kernel, rfl, by decide +kernel, by decide +kernel⟩
theorem sc_law_shuffled : FnScope N_law_shuffled ["_law_stream_here", "_law_many"] (defScope s_law_shuffled) := ⟨rfl, rfl, rfl, by decide +kernel, rfl, by decide +kernel, by decide +kernel⟩
theorem sc_law_stream : FnScope N_law_stream ["_law_script"] (defScope s_law_stream) := ⟨rfl, rfl, rfl, by decide +kernel, rfl, by decide +kernel, by decide +kernel⟩
theorem kd_law_pick (F : Fs) (G : Gs) : ((chkSn F NM2 G (DNn 1) WN q_law_pick).b ⟨N_law_pick, defScope s_law_pick, fun _ => true⟩ (defBody s_law_pick)).isSome = true := by kernel_rfl
theorem sc_law_pick : FnScope N_law_pick ["_law_stream_here", "_law_rows"] (defScope s_law_pick) := ⟨rfl, rfl, rfl, by decide +kernel, rfl, by decide +kernel, by decide +kernel⟩
theorem kd_law_constraint (F : Fs) (G : Gs) : ((chkSn F NM2 G (DNn 1) WN q_law_constraint).b ⟨N_law_constraint, defScope s_law_constraint, fun _ => true⟩ (defBody s_law_constraint)).isSome = true := by kernel_rfl
theorem sc_law_constraint : FnScope N_law_constraint ["_law_stream_here", "_law_items"] (defScope s_law_constraint) := ⟨rfl, rfl, rfl, by decide +kernel, rfl, by decide +kernel, by decide +kernel⟩
theorem kd_law_problem (F : Fs) (G : Gs) : ((chkSn F NM2 G (DNn 3) WN q_law_problem).b ⟨N_law_problem, defScope s_law_problem, fun _ => true⟩ (defBody s_law_problem)).isSome = true := by kernel_rfl
theorem sc_law_problem : FnScope N_law_problem ["_law_stream_here", "_law_items", "_law_most"] (defScope s_law_problem) := ⟨rfl, rfl, rfl, by decide +kernel, rfl, by decide +kernel, by decide +kernel⟩
theorem kd_law_bent (F : Fs) (G : Gs) : ((chkSn F NM2 G (DNn 5) WN q_law_bent).b ⟨N_law_bent, defScope s_law_bent, fun _ => true⟩ (defBody s_law_bent)).isSome = true := by kernel_rfl
theorem sc_law_bent : FnScope N_law_bent ["_law_stream_here", "_law_items", "_law_value"] (defScope s_law_bent) := ⟨rfl, rfl, rfl, by decide +kernel, rfl, by decide +kernel, by decide +kernel⟩
theorem kd_law (F : Fs) (G : Gs) : ((chkSn F NM2 G (DNn 6) WN q_law).b ⟨N_law, defScope s_law, fun _ => true⟩ ((defBody s_law).drop 1)).isSome = true := by kernel_rfl
theorem sc_law : FnScope N_law ["_law_script"] (defScope s_law) := ⟨rfl, rfl, rfl, by decide +kernel, rfl, by decide +kernel, by decide +kernel⟩
end R60

end -- C2
section -- C3
set_option Elab.async false
set_option linter.all false
set_option maxRecDepth 100000
set_option maxHeartbeats 0
namespace R60
open PySem PySem.Spec PyProof.Rows L2
theorem kev0 (F : Fs) : (chkEv F NM ⟨ev0.N, defScope s_conflict_evidence, fun _ => true⟩ ev0 (defBody s_conflict_evidence)).isSome = true := by kernel_rfl
theorem kev1 (F : Fs) : (chkEv F NM ⟨ev1.N, defScope s_correction_evidence, fun _ => true⟩ ev1 (defBody s_correction_evidence)).isSome = true := by kernel_rfl
theorem kq_0 (F : Fs) : ((chkQ F NM2 WN p_next0).o ⟨N_law_next, defScope s_law_next, fun _ => true⟩ (stAt s_law_next 0)).isSome = true := by kernel_rfl
theorem kq_1 (F : Fs) : ((chkQ F NM2 WN p_next1).o ⟨N_law_next, defScope s_law_next, fun _ => true⟩ (stAt s_law_next 1)).isSome = true := by kernel_rfl
theorem kq_2 (F : Fs) : ((chkQ F NM2 WN p_next2).o ⟨N_law_next, defScope s_law_next, fun _ => true⟩ (stAt s_law_next 2)).isSome = true := by kernel_rfl
theorem b_next : ∃ (pr pn : Pos), defBody s_law_next = [stAt s_law_next 0, stAt s_law_next 1, stAt s_law_next 2, .Return (some (.Name "_law_digit" pn)) pr] := ⟨_, _, rfl⟩
theorem v_next : visB ⟨N_law_next, defScope s_law_next, fun _ => true⟩ "_law_digit" = true := by kernel_rfl
end R60

end -- C3
section -- E1
set_option Elab.async false
set_option linter.all false
set_option maxRecDepth 100000
set_option maxHeartbeats 0
/-! The head: what the top leaves, the defs, the error. -/
namespace R60
open PySem PySem.Spec PyProof.Rows L2
def d_BadValueinit : He.DefD := ⟨("BadValue", some "__init__"), "__init__", "BadValue.__init__", defArgs s_BadValueinit, defBody s_BadValueinit, defScope s_BadValueinit, [], []⟩
def d_NotPossibleinit : He.DefD := ⟨("NotPossible", some "__init__"), "__init__", "NotPossible.__init__", defArgs s_NotPossibleinit, defBody s_NotPossibleinit, defScope s_NotPossibleinit, [], []⟩
def d_is_whole : He.DefD := ⟨("is_whole", none), "is_whole", "is_whole", defArgs s_is_whole, defBody s_is_whole, defScope s_is_whole, [], []⟩
def d_is_constraint : He.DefD := ⟨("is_constraint", none), "is_constraint", "is_constraint", defArgs s_is_constraint, defBody s_is_constraint, defScope s_is_constraint, [], []⟩
def d_is_problem : He.DefD := ⟨("is_problem", none), "is_problem", "is_problem", defArgs s_is_problem, defBody s_is_problem, defScope s_is_problem, [], []⟩
def d_is_ranking : He.DefD := ⟨("is_ranking", none), "is_ranking", "is_ranking", defArgs s_is_ranking, defBody s_is_ranking, defScope s_is_ranking, [], []⟩
def d_holds : He.DefD := ⟨("holds", none), "holds", "holds", defArgs s_holds, defBody s_holds, defScope s_holds, [], []⟩
def d_violated_by : He.DefD := ⟨("violated_by", none), "violated_by", "violated_by", defArgs s_violated_by, defBody s_violated_by, defScope s_violated_by, [], []⟩
def d_is_good : He.DefD := ⟨("is_good", none), "is_good", "is_good", defArgs s_is_good, defBody s_is_good, defScope s_is_good, [], []⟩
def d_check_problem_problems : He.DefD := ⟨("check_problem_problems", none), "check_problem", "check_problem", defArgs s_check_problem_problems, defBody s_check_problem_problems, defScope s_check_problem_problems, [], []⟩
def d_check_problem_windows : He.DefD := ⟨("check_problem_windows", none), "check_problem", "check_problem", defArgs s_check_problem_windows, defBody s_check_problem_windows, defScope s_check_problem_windows, [], []⟩
def d_is_between : He.DefD := ⟨("is_between", none), "is_between", "is_between", defArgs s_is_between, defBody s_is_between, defScope s_is_between, [], []⟩
def d_is_item : He.DefD := ⟨("is_item", none), "is_item", "is_item", defArgs s_is_item, defBody s_is_item, defScope s_is_item, [], []⟩
def d_given_low : He.DefD := ⟨("given_low", none), "given_low", "given_low", defArgs s_given_low, defBody s_given_low, defScope s_given_low, [], []⟩
def d_given_high : He.DefD := ⟨("given_high", none), "given_high", "given_high", defArgs s_given_high, defBody s_given_high, defScope s_given_high, [], []⟩
def d_before : He.DefD := ⟨("before", none), "before", "before", defArgs s_before, defBody s_before, defScope s_before, [], []⟩
def d_behind : He.DefD := ⟨("behind", none), "behind", "behind", defArgs s_behind, defBody s_behind, defScope s_behind, [], []⟩
def d_ordered : He.DefD := ⟨("ordered", none), "ordered", "ordered", defArgs s_ordered, defBody s_ordered, defScope s_ordered, [], []⟩
def d_is_cyclic : He.DefD := ⟨("is_cyclic", none), "is_cyclic", "is_cyclic", defArgs s_is_cyclic, defBody s_is_cyclic, defScope s_is_cyclic, [], []⟩
def d_earliest_of : He.DefD := ⟨("earliest_of", none), "earliest_of", "earliest_of", defArgs s_earliest_of, defBody s_earliest_of, defScope s_earliest_of, [], []⟩
def d_latest_of : He.DefD := ⟨("latest_of", none), "latest_of", "latest_of", defArgs s_latest_of, defBody s_latest_of, defScope s_latest_of, [], []⟩
def d_lower_chain : He.DefD := ⟨("lower_chain", none), "lower_chain", "lower_chain", defArgs s_lower_chain, defBody s_lower_chain, defScope s_lower_chain, [], []⟩
def d_upper_chain : He.DefD := ⟨("upper_chain", none), "upper_chain", "upper_chain", defArgs s_upper_chain, defBody s_upper_chain, defScope s_upper_chain, [], []⟩
def d_is_chain : He.DefD := ⟨("is_chain", none), "is_chain", "is_chain", defArgs s_is_chain, defBody s_is_chain, defScope s_is_chain, [], []⟩
def d_cycles_from : He.DefD := ⟨("cycles_from", none), "cycles_from", "cycles_from", defArgs s_cycles_from, defBody s_cycles_from, defScope s_cycles_from, [], []⟩
def d_cycle_of : He.DefD := ⟨("cycle_of", none), "cycle_of", "cycle_of", defArgs s_cycle_of, defBody s_cycle_of, defScope s_cycle_of, [], []⟩
def d_places_of : He.DefD := ⟨("places_of", none), "places_of", "places_of", defArgs s_places_of, defBody s_places_of, defScope s_places_of, [], []⟩
def d_intervals_of : He.DefD := ⟨("intervals_of", none), "intervals_of", "intervals_of", defArgs s_intervals_of, defBody s_intervals_of, defScope s_intervals_of, [], []⟩
def d_told_contradiction : He.DefD := ⟨("told_contradiction", none), "told_contradiction", "told_contradiction", defArgs s_told_contradiction, defBody s_told_contradiction, defScope s_told_contradiction, [], []⟩
def d_shows_low : He.DefD := ⟨("shows_low", none), "shows_low", "shows_low", defArgs s_shows_low, defBody s_shows_low, defScope s_shows_low, [], []⟩
def d_shows_high : He.DefD := ⟨("shows_high", none), "shows_high", "shows_high", defArgs s_shows_high, defBody s_shows_high, defScope s_shows_high, [], []⟩
def d_is_row : He.DefD := ⟨("is_row", none), "is_row", "is_row", defArgs s_is_row, defBody s_is_row, defScope s_is_row, [], []⟩
def d_is_overfull : He.DefD := ⟨("is_overfull", none), "is_overfull", "is_overfull", defArgs s_is_overfull, defBody s_is_overfull, defScope s_is_overfull, [], []⟩
def d_is_contradiction : He.DefD := ⟨("is_contradiction", none), "is_contradiction", "is_contradiction", defArgs s_is_contradiction, defBody s_is_contradiction, defScope s_is_contradiction, [], []⟩
def d_accepts_contradiction : He.DefD := ⟨("accepts_contradiction", none), "accepts_contradiction", "accepts_contradiction", defArgs s_accepts_contradiction, defBody s_accepts_contradiction, defScope s_accepts_contradiction, [], []⟩
def d_are_indexes : He.DefD := ⟨("are_indexes", none), "are_indexes", "are_indexes", defArgs s_are_indexes, defBody s_are_indexes, defScope s_are_indexes, [], []⟩
def d_check_indexes : He.DefD := ⟨("check_indexes", none), "check_indexes", "check_indexes", defArgs s_check_indexes, defBody s_check_indexes, defScope s_check_indexes, [], []⟩
def d_part_of : He.DefD := ⟨("part_of", none), "part_of", "part_of", defArgs s_part_of, defBody s_part_of, defScope s_part_of, [], []⟩
def d_part : He.DefD := ⟨("part", none), "part", "part", defArgs s_part, defBody s_part, defScope s_part, [], []⟩
def d_found_by_deadlines : He.DefD := ⟨("found_by_deadlines", none), "found_by_deadlines", "found_by_deadlines", defArgs s_found_by_deadlines, defBody s_found_by_deadlines, defScope s_found_by_deadlines, [], []⟩
def d_can_hold : He.DefD := ⟨("can_hold", none), "can_hold", "can_hold", defArgs s_can_hold, defBody s_can_hold, defScope s_can_hold, [], []⟩
def d_less : He.DefD := ⟨("less", none), "less", "less", defArgs s_less, defBody s_less, defScope s_less, [], []⟩
def d_is_conflict : He.DefD := ⟨("is_conflict", none), "is_conflict", "is_conflict", defArgs s_is_conflict, defBody s_is_conflict, defScope s_is_conflict, [], []⟩
def d_conflict_evidence : He.DefD := ⟨("conflict_evidence", none), "conflict_evidence", "conflict_evidence", defArgs s_conflict_evidence, defBody s_conflict_evidence, defScope s_conflict_evidence, [], []⟩
def d_accepts_conflict : He.DefD := ⟨("accepts_conflict", none), "accepts_conflict", "accepts_conflict", defArgs s_accepts_conflict, defBody s_accepts_conflict, defScope s_accepts_conflict, [], []⟩
def d_others_of : He.DefD := ⟨("others_of", none), "others_of", "others_of", defArgs s_others_of, defBody s_others_of, defScope s_others_of, [], []⟩
def d_kept_with : He.DefD := ⟨("kept_with", none), "kept_with", "kept_with", defArgs s_kept_with, defBody s_kept_with, defScope s_kept_with, [], []⟩
def d_is_correction : He.DefD := ⟨("is_correction", none), "is_correction", "is_correction", defArgs s_is_correction, defBody s_is_correction, defScope s_is_correction, [], []⟩
def d_correction_evidence : He.DefD := ⟨("correction_evidence", none), "correction_evidence", "correction_evidence", defArgs s_correction_evidence, defBody s_correction_evidence, defScope s_correction_evidence, [], []⟩
def d_accepts_correction : He.DefD := ⟨("accepts_correction", none), "accepts_correction", "accepts_correction", defArgs s_accepts_correction, defBody s_accepts_correction, defScope s_accepts_correction, [], []⟩
def d_law_stream : He.DefD := ⟨("_law_stream", none), "_law_stream", "_law_stream", defArgs s_law_stream, defBody s_law_stream, defScope s_law_stream, [], []⟩
def d_law_next : He.DefD := ⟨("_law_next", none), "_law_next", "_law_next", defArgs s_law_next, defBody s_law_next, defScope s_law_next, [], []⟩
def d_law_is_integer : He.DefD := ⟨("_law_is_integer", none), "_law_is_integer", "_law_is_integer", defArgs s_law_is_integer, defBody s_law_is_integer, defScope s_law_is_integer, [], []⟩
def d_law_equal : He.DefD := ⟨("_law_equal", none), "_law_equal", "_law_equal", defArgs s_law_equal, defBody s_law_equal, defScope s_law_equal, [], []⟩
def d_law_pick : He.DefD := ⟨("_law_pick", none), "_law_pick", "_law_pick", defArgs s_law_pick, defBody s_law_pick, defScope s_law_pick, [], []⟩
def d_law_constraint : He.DefD := ⟨("_law_constraint", none), "_law_constraint", "_law_constraint", defArgs s_law_constraint, defBody s_law_constraint, defScope s_law_constraint, [], []⟩
def d_law_problem : He.DefD := ⟨("_law_problem", none), "_law_problem", "_law_problem", defArgs s_law_problem, defBody s_law_problem, defScope s_law_problem, [], []⟩
def d_law_shuffled : He.DefD := ⟨("_law_shuffled", none), "_law_shuffled", "_law_shuffled", defArgs s_law_shuffled, defBody s_law_shuffled, defScope s_law_shuffled, [], []⟩
def d_law_holds : He.DefD := ⟨("_law_holds", none), "_law_holds", "_law_holds", defArgs s_law_holds, defBody s_law_holds, defScope s_law_holds, [], []⟩
def d_law_rankings : He.DefD := ⟨("_law_rankings", none), "_law_rankings", "_law_rankings", defArgs s_law_rankings, defBody s_law_rankings, defScope s_law_rankings, [], []⟩
def d_law_is_good : He.DefD := ⟨("_law_is_good", none), "_law_is_good", "_law_is_good", defArgs s_law_is_good, defBody s_law_is_good, defScope s_law_is_good, [], []⟩
def d_law_chosen : He.DefD := ⟨("_law_chosen", none), "_law_chosen", "_law_chosen", defArgs s_law_chosen, defBody s_law_chosen, defScope s_law_chosen, [], []⟩
def d_law_without : He.DefD := ⟨("_law_without", none), "_law_without", "_law_without", defArgs s_law_without, defBody s_law_without, defScope s_law_without, [], []⟩
def d_law_rest : He.DefD := ⟨("_law_rest", none), "_law_rest", "_law_rest", defArgs s_law_rest, defBody s_law_rest, defScope s_law_rest, [], []⟩
def d_law_conflict : He.DefD := ⟨("_law_conflict", none), "_law_conflict", "_law_conflict", defArgs s_law_conflict, defBody s_law_conflict, defScope s_law_conflict, [], []⟩
def d_law_correction : He.DefD := ⟨("_law_correction", none), "_law_correction", "_law_correction", defArgs s_law_correction, defBody s_law_correction, defScope s_law_correction, [], []⟩
def d_law_told : He.DefD := ⟨("_law_told", none), "_law_told", "_law_told", defArgs s_law_told, defBody s_law_told, defScope s_law_told, [], []⟩
def d_law_bent : He.DefD := ⟨("_law_bent", none), "_law_bent", "_law_bent", defArgs s_law_bent, defBody s_law_bent, defScope s_law_bent, [], []⟩
def d_law : He.DefD := ⟨("law", none), "law", "law", defArgs s_law, defBody s_law, defScope s_law, [], []⟩
def fn : List He.DefD := [d_BadValueinit, d_NotPossibleinit, d_is_whole, d_is_constraint, d_is_problem, d_is_ranking, d_holds, d_violated_by, d_is_good, d_check_problem_problems, d_check_problem_windows, d_is_between, d_is_item, d_given_low, d_given_high, d_before, d_behind, d_ordered, d_is_cyclic, d_earliest_of, d_latest_of, d_lower_chain, d_upper_chain, d_is_chain, d_cycles_from, d_cycle_of, d_places_of, d_intervals_of, d_told_contradiction, d_shows_low, d_shows_high, d_is_row, d_is_overfull, d_is_contradiction, d_accepts_contradiction, d_are_indexes, d_check_indexes, d_part_of, d_part, d_found_by_deadlines, d_can_hold, d_less, d_is_conflict, d_conflict_evidence, d_accepts_conflict, d_others_of, d_kept_with, d_is_correction, d_correction_evidence, d_accepts_correction, d_law_stream, d_law_next, d_law_is_integer, d_law_equal, d_law_pick, d_law_constraint, d_law_problem, d_law_shuffled, d_law_holds, d_law_rankings, d_law_is_good, d_law_chosen, d_law_without, d_law_rest, d_law_conflict, d_law_correction, d_law_told, d_law_bent, d_law]
def fa0 : List He.Fa := [.glo "is_whole", .glo "is_constraint", .glo "is_problem", .glo "is_ranking", .glo "holds", .glo "violated_by", .glo "is_good", .glo "check_problem_problems", .glo "check_problem_windows", .glo "is_between", .glo "is_item", .glo "given_low", .glo "given_high", .glo "before", .glo "behind", .glo "ordered", .glo "is_cyclic", .glo "earliest_of", .glo "latest_of", .glo "lower_chain", .glo "upper_chain", .glo "is_chain", .glo "cycles_from", .glo "cycle_of", .glo "places_of", .glo "intervals_of", .glo "told_contradiction", .glo "shows_low", .glo "shows_high", .glo "is_row"]
def fa1 : List He.Fa := [.glo "is_overfull", .glo "is_contradiction", .glo "accepts_contradiction", .glo "are_indexes", .glo "check_indexes", .glo "part_of", .glo "part", .glo "found_by_deadlines", .glo "can_hold", .glo "less", .glo "is_conflict", .glo "conflict_evidence", .glo "accepts_conflict", .glo "others_of", .glo "kept_with", .glo "is_correction", .glo "correction_evidence", .glo "accepts_correction", .glo "_law_stream", .glo "_law_next", .glo "_law_is_integer", .glo "_law_equal", .glo "_law_pick", .glo "_law_constraint", .glo "_law_problem", .glo "_law_shuffled", .glo "_law_holds", .glo "_law_rankings", .glo "_law_is_good", .glo "_law_chosen"]
def fa2 : List He.Fa := [.glo "_law_without", .glo "_law_rest", .glo "_law_conflict", .glo "_law_correction", .glo "_law_told", .glo "_law_bent", .glo "law", .glo "NotPossible", .glo "RankError", .free "isinstance", .free "len", .free "all", .free "any", .free "max", .free "min", .free "sorted", .free "list", .free "tuple", .free "range", .free "enumerate", .free "zip", .free "reversed", .free "int", .free "abs", .free "bool", .free "str", .int "MOST_ITEMS" 7, .int "MOST_CONSTRAINTS" 12, .int "MOST_NUMBER" 20]
def fa : List He.Fa := fa0 ++ fa1 ++ fa2
def lo0 : List Str := ["RankError", "BadValue", "NotPossible", "MOST_ITEMS", "MOST_CONSTRAINTS", "is_whole", "is_constraint", "is_problem", "is_ranking", "holds", "violated_by", "is_good", "check_problem", "check_problem_problems", "check_problem_windows", "is_between", "is_item", "given_low", "given_high", "before", "behind", "ordered", "is_cyclic", "earliest_of", "latest_of", "lower_chain", "upper_chain", "is_chain", "cycles_from", "cycle_of"]
def lo1 : List Str := ["MOST_NUMBER", "places_of", "intervals_of", "told_contradiction", "shows_low", "shows_high", "is_row", "is_overfull", "is_contradiction", "accepts_contradiction", "are_indexes", "check_indexes", "part_of", "part", "found_by_deadlines", "can_hold", "less", "is_conflict", "conflict_evidence", "accepts_conflict", "others_of", "kept_with", "is_correction", "correction_evidence", "accepts_correction", "_law_stream", "_law_next", "_law_is_integer", "_law_equal", "_law_pick"]
def lo2 : List Str := ["_law_constraint", "_law_problem", "_law_shuffled", "_law_holds", "_law_rankings", "_law_is_good", "_law_chosen", "_law_without", "_law_rest", "_law_conflict", "_law_correction", "_law_told", "_law_bent"]
def lo : List Str := lo0 ++ lo1 ++ lo2
/-- what the written part says of NotPossible, as a look -/
def oexB (K : PySem.W.Frag) (C : Addr) : Bool := (match K.lookup C with
  | some ⟨.type "type", _, .cls cd, sl⟩ => (match cd.mro, sl.toList with
    | .ref C' :: bm, [_, _, _, _, some (.builtin n), _] => C' == C && n == "ValueError.__new__" && !cd.hasDel && cd.hasDict && PySem.HandSPX.refsVE bm
    | _, _ => false)
  | _ => false) && (decide (PySem.W.findIn K (.ref C) "__setattr__" = some (some (.builtin "object.__setattr__"))) && (decide (PySem.W.subIn K (.ref C) (.type "BaseException") = some true) && (decide (PySem.W.typeIn K (.ref C) = some (.type "type")) && PySem.W.keepIn K (.ref C))))
theorem oexB_ok {K : PySem.W.Frag} {C : Addr} (q : oexB K C = true) : OexC K C := by
  obtain ⟨q, h2⟩ := and_tt q
  obtain ⟨s1, h2⟩ := and_tt h2
  obtain ⟨s2, h2⟩ := and_tt h2
  obtain ⟨s3, s4⟩ := and_tt h2
  refine ⟨?_, of_decide_eq_true s1, of_decide_eq_true s2, of_decide_eq_true s3, s4⟩
  split at q
  · rename_i dd cd sl ho
    split at q
    · rename_i C' bm k0 k1 k2 k3 n k5 hm hs
      simp only [Bool.and_eq_true, beq_iff_eq, Bool.not_eq_true'] at q
      obtain ⟨⟨⟨⟨rfl, rfl⟩, hdel⟩, hdi⟩, ht⟩ := q
      obtain ⟨nm, bs, mro, nss, qn, hd, sn, sub, ab, col, del⟩ := cd
      dsimp only at hm hdel hdi
      subst hm hdel hdi
      have hsl : sl = #[k0, k1, k2, k3, some (.builtin "ValueError.__new__"), k5] := by
        obtain ⟨l⟩ := sl
        simp only at hs
        rw [hs]
      subst hsl
      exact ⟨nm, qn, nss, bs, bm, sn, sub, ab, col, dd, k0, k1, k2, k3, k5, ho, ht⟩
    · cases q
  · cases q
def excB (K : PySem.W.Frag) (D : Addr) : Bool := decide (PySem.W.findIn K (.ref D) "__class__" = some (some (.builtin "object.__class__"))) && (decide (PySem.W.specialIn K (.builtin "object.__class__") "__get__" = some (some (.builtin "getset_descriptor.__get__"))) && (decide (PySem.W.takesIn K (.builtin "object.__class__") = some true) && decide (PySem.W.mroIn K D (.type "object") = some true)))
def npB (K : PySem.W.Frag) : Bool := oexB K (He.ga K "NotPossible") && (decide (PySem.W.findIn K (.ref (He.ga K "NotPossible")) "why" = some none) && (decide (PySem.W.findIn K (.ref (He.ga K "NotPossible")) "__init__" = some (some (.ref (He.ma K (He.ga K "NotPossible") "__init__")))) && (decide (PySem.W.typeIn K (.ref (He.ma K (He.ga K "NotPossible") "__init__")) = some (.type "function")) &&
  (xfB K (He.ga K "NotPossible") && (decide (PySem.W.exmOne K (.ref (He.ga K "NotPossible")) (.ref (He.ga K "NotPossible")) = some true) && (decide (PySem.W.kitOne K (.ref (He.ga K "NotPossible")) (.ref (He.ga K "RankError")) = some true) && excB K (He.ga K "NotPossible")))))))
abbrev R : PySem.W.OpenRow := PySem.W.OpenLaw.row PySem.Challenge.rw_rankswithin_k60_whole_evidence_of_confli
abbrev AlZ : Type := He.AlD × Bool
def hookZ (n : Nat) (fa : List He.Fa) (fn : List He.DefD) : PySem.W.Hook where
  α := AlZ
  obs := fun s => (He.obsDG n fa fn s.heap.get?, npB (He.frG s.heap.get? (He.asD s.heap.get? n)))
  val := fun _ => (He.valD fn, true)
  says := fun _ h => ∃ K : PySem.W.Frag, K.In h ∧ He.SaysD fa fn K ∧ npB K = true
  of := fun _ _ e => ⟨_, He.frG_in, congrArg (fun z : AlZ => z.1) e, congrArg (fun z : AlZ => z.2) e⟩
  keeps := fun _ _ _ ⟨K, hK, c⟩ k => ⟨K, PySem.W.Frag.In.keeps hK k, c⟩
abbrev hk : PySem.W.Hook := hookZ 5 fa fn
def ob (s : PySem.W.SharedT) : AlZ := (He.obsDG 5 fa fn (HandSHeadRun.getT s), npB (He.frG (HandSHeadRun.getT s) (He.asD (HandSHeadRun.getT s) 5)))
theorem ob_eq (s : PySem.W.SharedT) : ob s = hk.obs s.abs := by
  have e : HandSHeadRun.getT s = s.abs.heap.get? := funext (HandSHeadRun.getT_eq s)
  unfold ob
  rw [e]
  rfl
theorem runHead (w : World) : HandSHeadRun.RunEq R (PySem.W.view R.prog [84]) hk ob 6000 lo w := by
  intro os
  kernel_rfl
theorem all_nil {α : Type} {p : α → Prop} : ∀ x ∈ ([] : List α), p x := fun x h => nomatch h
theorem all_cons {α : Type} {p : α → Prop} {a : α} {l : List α} (h : p a) (t : ∀ x ∈ l, p x) : ∀ x ∈ a :: l, p x := fun x hx => by
  rcases List.mem_cons.mp hx with e | e
  · rw [e]; exact h
  · exact t x e
section
variable {P : Program} {w : World} {K : PySem.W.Frag} {h : Heap} {mg : Str → Option Value}
theorem has_is_whole (X : K.In h) (G : h.Ns mainGlobals mg) (c : He.SaysD fa fn K) : FnHas TB WN K mg ⟨"is_whole", 3, N_is_whole, p_is_whole⟩ := by
  obtain ⟨fd, FD⟩ := c.def_ 2 (d := d_is_whole) rfl
  exact ⟨_, _, _, _, _, _, fd, ["value", "low", "high"], FD, He.glo_ok X G (c.fact 0 (f := .glo "is_whole") rfl), FD.bindsN fun _ _ _ _ _ _ us hl => match us, hl with | [_, _, _], _ => rfl, sc_is_whole, rfl, fun F => of_some (k_is_whole F)⟩
theorem has_is_constraint (X : K.In h) (G : h.Ns mainGlobals mg) (c : He.SaysD fa fn K) : FnHas TB WN K mg ⟨"is_constraint", 2, N_is_constraint, p_is_constraint⟩ := by
  obtain ⟨fd, FD⟩ := c.def_ 3 (d := d_is_constraint) rfl
  exact ⟨_, _, _, _, _, _, fd, ["items", "value"], FD, He.glo_ok X G (c.fact 1 (f := .glo "is_constraint") rfl), FD.bindsN fun _ _ _ _ _ _ us hl => match us, hl with | [_, _], _ => rfl, sc_is_constraint, rfl, fun F => of_some (k_is_constraint F)⟩
theorem has_is_problem (X : K.In h) (G : h.Ns mainGlobals mg) (c : He.SaysD fa fn K) : FnHas TB WN K mg ⟨"is_problem", 1, N_is_problem, p_is_problem⟩ := by
  obtain ⟨fd, FD⟩ := c.def_ 4 (d := d_is_problem) rfl
  exact ⟨_, _, _, _, _, _, fd, ["value"], FD, He.glo_ok X G (c.fact 2 (f := .glo "is_problem") rfl), FD.bindsN fun _ _ _ _ _ _ us hl => match us, hl with | [_], _ => rfl, sc_is_problem, rfl, fun F => of_some (k_is_problem F)⟩
theorem has_is_ranking (X : K.In h) (G : h.Ns mainGlobals mg) (c : He.SaysD fa fn K) : FnHas TB WN K mg ⟨"is_ranking", 2, N_is_ranking, p_is_ranking⟩ := by
  obtain ⟨fd, FD⟩ := c.def_ 5 (d := d_is_ranking) rfl
  exact ⟨_, _, _, _, _, _, fd, ["items", "value"], FD, He.glo_ok X G (c.fact 3 (f := .glo "is_ranking") rfl), FD.bindsN fun _ _ _ _ _ _ us hl => match us, hl with | [_, _], _ => rfl, sc_is_ranking, rfl, fun F => of_some (k_is_ranking F)⟩
theorem has_holds (X : K.In h) (G : h.Ns mainGlobals mg) (c : He.SaysD fa fn K) : FnHas TB WN K mg ⟨"holds", 2, N_holds, p_holds⟩ := by
  obtain ⟨fd, FD⟩ := c.def_ 6 (d := d_holds) rfl
  exact ⟨_, _, _, _, _, _, fd, ["constraint", "ranking"], FD, He.glo_ok X G (c.fact 4 (f := .glo "holds") rfl), FD.bindsN fun _ _ _ _ _ _ us hl => match us, hl with | [_, _], _ => rfl, sc_holds, rfl, fun F => of_some (k_holds F)⟩
theorem has_violated_by (X : K.In h) (G : h.Ns mainGlobals mg) (c : He.SaysD fa fn K) : FnHas TB WN K mg ⟨"violated_by", 2, N_violated_by, p_violated_by⟩ := by
  obtain ⟨fd, FD⟩ := c.def_ 7 (d := d_violated_by) rfl
  exact ⟨_, _, _, _, _, _, fd, ["problem", "ranking"], FD, He.glo_ok X G (c.fact 5 (f := .glo "violated_by") rfl), FD.bindsN fun _ _ _ _ _ _ us hl => match us, hl with | [_, _], _ => rfl, sc_violated_by, rfl, fun F => of_some (k_violated_by F)⟩
theorem has_is_good (X : K.In h) (G : h.Ns mainGlobals mg) (c : He.SaysD fa fn K) : FnHas TB WN K mg ⟨"is_good", 2, N_is_good, p_is_good⟩ := by
  obtain ⟨fd, FD⟩ := c.def_ 8 (d := d_is_good) rfl
  exact ⟨_, _, _, _, _, _, fd, ["problem", "ranking"], FD, He.glo_ok X G (c.fact 6 (f := .glo "is_good") rfl), FD.bindsN fun _ _ _ _ _ _ us hl => match us, hl with | [_, _], _ => rfl, sc_is_good, rfl, fun F => of_some (k_is_good F)⟩
theorem has_check_problem_problems (X : K.In h) (G : h.Ns mainGlobals mg) (c : He.SaysD fa fn K) : FnHas TB WN K mg ⟨"check_problem_problems", 1, N_check_problem_problems, p_check_problem_problems⟩ := by
  obtain ⟨fd, FD⟩ := c.def_ 9 (d := d_check_problem_problems) rfl
  exact ⟨_, _, _, _, _, _, fd, ["problem"], FD, He.glo_ok X G (c.fact 7 (f := .glo "check_problem_problems") rfl), FD.bindsN fun _ _ _ _ _ _ us hl => match us, hl with | [_], _ => rfl, sc_check_problem_problems, rfl, fun F => of_some (k_check_problem_problems F)⟩
theorem has_check_problem_windows (X : K.In h) (G : h.Ns mainGlobals mg) (c : He.SaysD fa fn K) : FnHas TB WN K mg ⟨"check_problem_windows", 1, N_check_problem_windows, p_check_problem_windows⟩ := by
  obtain ⟨fd, FD⟩ := c.def_ 10 (d := d_check_problem_windows) rfl
  exact ⟨_, _, _, _, _, _, fd, ["value"], FD, He.glo_ok X G (c.fact 8 (f := .glo "check_problem_windows") rfl), FD.bindsN fun _ _ _ _ _ _ us hl => match us, hl with | [_], _ => rfl, sc_check_problem_windows, rfl, fun F => of_some (k_check_problem_windows F)⟩
theorem has_is_between (X : K.In h) (G : h.Ns mainGlobals mg) (c : He.SaysD fa fn K) : FnHas TB WN K mg ⟨"is_between", 3, N_is_between, p_is_between⟩ := by
  obtain ⟨fd, FD⟩ := c.def_ 11 (d := d_is_between) rfl
  exact ⟨_, _, _, _, _, _, fd, ["value", "low", "high"], FD, He.glo_ok X G (c.fact 9 (f := .glo "is_between") rfl), FD.bindsN fun _ _ _ _ _ _ us hl => match us, hl with | [_, _, _], _ => rfl, sc_is_between, rfl, fun F => of_some (k_is_between F)⟩
theorem has_is_item (X : K.In h) (G : h.Ns mainGlobals mg) (c : He.SaysD fa fn K) : FnHas TB WN K mg ⟨"is_item", 2, N_is_item, p_is_item⟩ := by
  obtain ⟨fd, FD⟩ := c.def_ 12 (d := d_is_item) rfl
  exact ⟨_, _, _, _, _, _, fd, ["value", "problem"], FD, He.glo_ok X G (c.fact 10 (f := .glo "is_item") rfl), FD.bindsN fun _ _ _ _ _ _ us hl => match us, hl with | [_, _], _ => rfl, sc_is_item, rfl, fun F => of_some (k_is_item F)⟩
theorem has_given_low (X : K.In h) (G : h.Ns mainGlobals mg) (c : He.SaysD fa fn K) : FnHas TB WN K mg ⟨"given_low", 2, N_given_low, p_given_low⟩ := by
  obtain ⟨fd, FD⟩ := c.def_ 13 (d := d_given_low) rfl
  exact ⟨_, _, _, _, _, _, fd, ["problem", "item"], FD, He.glo_ok X G (c.fact 11 (f := .glo "given_low") rfl), FD.bindsN fun _ _ _ _ _ _ us hl => match us, hl with | [_, _], _ => rfl, sc_given_low, rfl, fun F => of_some (k_given_low F)⟩
theorem has_given_high (X : K.In h) (G : h.Ns mainGlobals mg) (c : He.SaysD fa fn K) : FnHas TB WN K mg ⟨"given_high", 2, N_given_high, p_given_high⟩ := by
  obtain ⟨fd, FD⟩ := c.def_ 14 (d := d_given_high) rfl
  exact ⟨_, _, _, _, _, _, fd, ["problem", "item"], FD, He.glo_ok X G (c.fact 12 (f := .glo "given_high") rfl), FD.bindsN fun _ _ _ _ _ _ us hl => match us, hl with | [_, _], _ => rfl, sc_given_high, rfl, fun F => of_some (k_given_high F)⟩
theorem has_before (X : K.In h) (G : h.Ns mainGlobals mg) (c : He.SaysD fa fn K) : FnHas TB WN K mg ⟨"before", 2, N_before, p_before⟩ := by
  obtain ⟨fd, FD⟩ := c.def_ 15 (d := d_before) rfl
  exact ⟨_, _, _, _, _, _, fd, ["problem", "item"], FD, He.glo_ok X G (c.fact 13 (f := .glo "before") rfl), FD.bindsN fun _ _ _ _ _ _ us hl => match us, hl with | [_, _], _ => rfl, sc_before, rfl, fun F => of_some (k_before F)⟩
theorem has_behind (X : K.In h) (G : h.Ns mainGlobals mg) (c : He.SaysD fa fn K) : FnHas TB WN K mg ⟨"behind", 2, N_behind, p_behind⟩ := by
  obtain ⟨fd, FD⟩ := c.def_ 16 (d := d_behind) rfl
  exact ⟨_, _, _, _, _, _, fd, ["problem", "item"], FD, He.glo_ok X G (c.fact 14 (f := .glo "behind") rfl), FD.bindsN fun _ _ _ _ _ _ us hl => match us, hl with | [_, _], _ => rfl, sc_behind, rfl, fun F => of_some (k_behind F)⟩
theorem has_ordered (X : K.In h) (G : h.Ns mainGlobals mg) (c : He.SaysD fa fn K) : FnHas TB WN K mg ⟨"ordered", 1, N_ordered, p_ordered⟩ := by
  obtain ⟨fd, FD⟩ := c.def_ 17 (d := d_ordered) rfl
  exact ⟨_, _, _, _, _, _, fd, ["problem"], FD, He.glo_ok X G (c.fact 15 (f := .glo "ordered") rfl), FD.bindsN fun _ _ _ _ _ _ us hl => match us, hl with | [_], _ => rfl, sc_ordered, rfl, fun F => of_some (k_ordered F)⟩
theorem has_is_cyclic (X : K.In h) (G : h.Ns mainGlobals mg) (c : He.SaysD fa fn K) : FnHas TB WN K mg ⟨"is_cyclic", 1, N_is_cyclic, p_is_cyclic⟩ := by
  obtain ⟨fd, FD⟩ := c.def_ 18 (d := d_is_cyclic) rfl
  exact ⟨_, _, _, _, _, _, fd, ["problem"], FD, He.glo_ok X G (c.fact 16 (f := .glo "is_cyclic") rfl), FD.bindsN fun _ _ _ _ _ _ us hl => match us, hl with | [_], _ => rfl, sc_is_cyclic, rfl, fun F => of_some (k_is_cyclic F)⟩
theorem has_earliest_of (X : K.In h) (G : h.Ns mainGlobals mg) (c : He.SaysD fa fn K) : FnHas TB WN K mg ⟨"earliest_of", 1, N_earliest_of, p_earliest_of⟩ := by
  obtain ⟨fd, FD⟩ := c.def_ 19 (d := d_earliest_of) rfl
  exact ⟨_, _, _, _, _, _, fd, ["problem"], FD, He.glo_ok X G (c.fact 17 (f := .glo "earliest_of") rfl), FD.bindsN fun _ _ _ _ _ _ us hl => match us, hl with | [_], _ => rfl, sc_earliest_of, rfl, fun F => of_some (k_earliest_of F)⟩
theorem has_latest_of (X : K.In h) (G : h.Ns mainGlobals mg) (c : He.SaysD fa fn K) : FnHas TB WN K mg ⟨"latest_of", 1, N_latest_of, p_latest_of⟩ := by
  obtain ⟨fd, FD⟩ := c.def_ 20 (d := d_latest_of) rfl
  exact ⟨_, _, _, _, _, _, fd, ["problem"], FD, He.glo_ok X G (c.fact 18 (f := .glo "latest_of") rfl), FD.bindsN fun _ _ _ _ _ _ us hl => match us, hl with | [_], _ => rfl, sc_latest_of, rfl, fun F => of_some (k_latest_of F)⟩
theorem has_lower_chain (X : K.In h) (G : h.Ns mainGlobals mg) (c : He.SaysD fa fn K) : FnHas TB WN K mg ⟨"lower_chain", 2, N_lower_chain, p_lower_chain⟩ := by
  obtain ⟨fd, FD⟩ := c.def_ 21 (d := d_lower_chain) rfl
  exact ⟨_, _, _, _, _, _, fd, ["problem", "item"], FD, He.glo_ok X G (c.fact 19 (f := .glo "lower_chain") rfl), FD.bindsN fun _ _ _ _ _ _ us hl => match us, hl with | [_, _], _ => rfl, sc_lower_chain, rfl, fun F => of_some (k_lower_chain F)⟩
theorem has_upper_chain (X : K.In h) (G : h.Ns mainGlobals mg) (c : He.SaysD fa fn K) : FnHas TB WN K mg ⟨"upper_chain", 2, N_upper_chain, p_upper_chain⟩ := by
  obtain ⟨fd, FD⟩ := c.def_ 22 (d := d_upper_chain) rfl
  exact ⟨_, _, _, _, _, _, fd, ["problem", "item"], FD, He.glo_ok X G (c.fact 20 (f := .glo "upper_chain") rfl), FD.bindsN fun _ _ _ _ _ _ us hl => match us, hl with | [_, _], _ => rfl, sc_upper_chain, rfl, fun F => of_some (k_upper_chain F)⟩
theorem has_is_chain (X : K.In h) (G : h.Ns mainGlobals mg) (c : He.SaysD fa fn K) : FnHas TB WN K mg ⟨"is_chain", 2, N_is_chain, p_is_chain⟩ := by
  obtain ⟨fd, FD⟩ := c.def_ 23 (d := d_is_chain) rfl
  exact ⟨_, _, _, _, _, _, fd, ["problem", "value"], FD, He.glo_ok X G (c.fact 21 (f := .glo "is_chain") rfl), FD.bindsN fun _ _ _ _ _ _ us hl => match us, hl with | [_, _], _ => rfl, sc_is_chain, rfl, fun F => of_some (k_is_chain F)⟩
theorem has_cycles_from (X : K.In h) (G : h.Ns mainGlobals mg) (c : He.SaysD fa fn K) : FnHas TB WN K mg ⟨"cycles_from", 2, N_cycles_from, p_cycles_from⟩ := by
  obtain ⟨fd, FD⟩ := c.def_ 24 (d := d_cycles_from) rfl
  exact ⟨_, _, _, _, _, _, fd, ["problem", "item"], FD, He.glo_ok X G (c.fact 22 (f := .glo "cycles_from") rfl), FD.bindsN fun _ _ _ _ _ _ us hl => match us, hl with | [_, _], _ => rfl, sc_cycles_from, rfl, fun F => of_some (k_cycles_from F)⟩
theorem has_cycle_of (X : K.In h) (G : h.Ns mainGlobals mg) (c : He.SaysD fa fn K) : FnHas TB WN K mg ⟨"cycle_of", 1, N_cycle_of, p_cycle_of⟩ := by
  obtain ⟨fd, FD⟩ := c.def_ 25 (d := d_cycle_of) rfl
  exact ⟨_, _, _, _, _, _, fd, ["problem"], FD, He.glo_ok X G (c.fact 23 (f := .glo "cycle_of") rfl), FD.bindsN fun _ _ _ _ _ _ us hl => match us, hl with | [_], _ => rfl, sc_cycle_of, rfl, fun F => of_some (k_cycle_of F)⟩
theorem has_places_of (X : K.In h) (G : h.Ns mainGlobals mg) (c : He.SaysD fa fn K) : FnHas TB WN K mg ⟨"places_of", 2, N_places_of, p_places_of⟩ := by
  obtain ⟨fd, FD⟩ := c.def_ 26 (d := d_places_of) rfl
  exact ⟨_, _, _, _, _, _, fd, ["low", "high"], FD, He.glo_ok X G (c.fact 24 (f := .glo "places_of") rfl), FD.bindsN fun _ _ _ _ _ _ us hl => match us, hl with | [_, _], _ => rfl, sc_places_of, rfl, fun F => of_some (k_places_of F)⟩
theorem has_intervals_of (X : K.In h) (G : h.Ns mainGlobals mg) (c : He.SaysD fa fn K) : FnHas TB WN K mg ⟨"intervals_of", 1, N_intervals_of, p_intervals_of⟩ := by
  obtain ⟨fd, FD⟩ := c.def_ 27 (d := d_intervals_of) rfl
  exact ⟨_, _, _, _, _, _, fd, ["problem"], FD, He.glo_ok X G (c.fact 25 (f := .glo "intervals_of") rfl), FD.bindsN fun _ _ _ _ _ _ us hl => match us, hl with | [_], _ => rfl, sc_intervals_of, rfl, fun F => of_some (k_intervals_of F)⟩
theorem has_told_contradiction (X : K.In h) (G : h.Ns mainGlobals mg) (c : He.SaysD fa fn K) : FnHas TB WN K mg ⟨"told_contradiction", 1, N_told_contradiction, p_told_contradiction⟩ := by
  obtain ⟨fd, FD⟩ := c.def_ 28 (d := d_told_contradiction) rfl
  exact ⟨_, _, _, _, _, _, fd, ["problem"], FD, He.glo_ok X G (c.fact 26 (f := .glo "told_contradiction") rfl), FD.bindsN fun _ _ _ _ _ _ us hl => match us, hl with | [_], _ => rfl, sc_told_contradiction, rfl, fun F => of_some (k_told_contradiction F)⟩
theorem has_shows_low (X : K.In h) (G : h.Ns mainGlobals mg) (c : He.SaysD fa fn K) : FnHas TB WN K mg ⟨"shows_low", 4, N_shows_low, p_shows_low⟩ := by
  obtain ⟨fd, FD⟩ := c.def_ 29 (d := d_shows_low) rfl
  exact ⟨_, _, _, _, _, _, fd, ["problem", "item", "low", "value"], FD, He.glo_ok X G (c.fact 27 (f := .glo "shows_low") rfl), FD.bindsN fun _ _ _ _ _ _ us hl => match us, hl with | [_, _, _, _], _ => rfl, sc_shows_low, rfl, fun F => of_some (k_shows_low F)⟩
theorem has_shows_high (X : K.In h) (G : h.Ns mainGlobals mg) (c : He.SaysD fa fn K) : FnHas TB WN K mg ⟨"shows_high", 4, N_shows_high, p_shows_high⟩ := by
  obtain ⟨fd, FD⟩ := c.def_ 30 (d := d_shows_high) rfl
  exact ⟨_, _, _, _, _, _, fd, ["problem", "item", "high", "value"], FD, He.glo_ok X G (c.fact 28 (f := .glo "shows_high") rfl), FD.bindsN fun _ _ _ _ _ _ us hl => match us, hl with | [_, _, _, _], _ => rfl, sc_shows_high, rfl, fun F => of_some (k_shows_high F)⟩
theorem has_is_row (X : K.In h) (G : h.Ns mainGlobals mg) (c : He.SaysD fa fn K) : FnHas TB WN K mg ⟨"is_row", 4, N_is_row, p_is_row⟩ := by
  obtain ⟨fd, FD⟩ := c.def_ 31 (d := d_is_row) rfl
  exact ⟨_, _, _, _, _, _, fd, ["problem", "low", "high", "value"], FD, He.glo_ok X G (c.fact 29 (f := .glo "is_row") rfl), FD.bindsN fun _ _ _ _ _ _ us hl => match us, hl with | [_, _, _, _], _ => rfl, sc_is_row, rfl, fun F => of_some (k_is_row F)⟩
theorem has_is_overfull (X : K.In h) (G : h.Ns mainGlobals mg) (c : He.SaysD fa fn K) : FnHas TB WN K mg ⟨"is_overfull", 4, N_is_overfull, p_is_overfull⟩ := by
  obtain ⟨fd, FD⟩ := c.def_ 32 (d := d_is_overfull) rfl
  exact ⟨_, _, _, _, _, _, fd, ["problem", "low", "high", "rows"], FD, He.glo_ok X G (c.fact 30 (f := .glo "is_overfull") rfl), FD.bindsN fun _ _ _ _ _ _ us hl => match us, hl with | [_, _, _, _], _ => rfl, sc_is_overfull, rfl, fun F => of_some (k_is_overfull F)⟩
theorem has_is_contradiction (X : K.In h) (G : h.Ns mainGlobals mg) (c : He.SaysD fa fn K) : FnHas TB WN K mg ⟨"is_contradiction", 2, N_is_contradiction, p_is_contradiction⟩ := by
  obtain ⟨fd, FD⟩ := c.def_ 33 (d := d_is_contradiction) rfl
  exact ⟨_, _, _, _, _, _, fd, ["problem", "value"], FD, He.glo_ok X G (c.fact 31 (f := .glo "is_contradiction") rfl), FD.bindsN fun _ _ _ _ _ _ us hl => match us, hl with | [_, _], _ => rfl, sc_is_contradiction, rfl, fun F => of_some (k_is_contradiction F)⟩
theorem has_accepts_contradiction (X : K.In h) (G : h.Ns mainGlobals mg) (c : He.SaysD fa fn K) : FnHas TB WN K mg ⟨"accepts_contradiction", 2, N_accepts_contradiction, p_accepts_contradiction⟩ := by
  obtain ⟨fd, FD⟩ := c.def_ 34 (d := d_accepts_contradiction) rfl
  exact ⟨_, _, _, _, _, _, fd, ["problem", "value"], FD, He.glo_ok X G (c.fact 32 (f := .glo "accepts_contradiction") rfl), FD.bindsN fun _ _ _ _ _ _ us hl => match us, hl with | [_, _], _ => rfl, sc_accepts_contradiction, rfl, fun F => of_some (k_accepts_contradiction F)⟩
theorem has_are_indexes (X : K.In h) (G : h.Ns mainGlobals mg) (c : He.SaysD fa fn K) : FnHas TB WN K mg ⟨"are_indexes", 2, N_are_indexes, p_are_indexes⟩ := by
  obtain ⟨fd, FD⟩ := c.def_ 35 (d := d_are_indexes) rfl
  exact ⟨_, _, _, _, _, _, fd, ["problem", "value"], FD, He.glo_ok X G (c.fact 33 (f := .glo "are_indexes") rfl), FD.bindsN fun _ _ _ _ _ _ us hl => match us, hl with | [_, _], _ => rfl, sc_are_indexes, rfl, fun F => of_some (k_are_indexes F)⟩
theorem has_check_indexes (X : K.In h) (G : h.Ns mainGlobals mg) (c : He.SaysD fa fn K) : FnHas TB WN K mg ⟨"check_indexes", 2, N_check_indexes, p_check_indexes⟩ := by
  obtain ⟨fd, FD⟩ := c.def_ 36 (d := d_check_indexes) rfl
  exact ⟨_, _, _, _, _, _, fd, ["problem", "indexes"], FD, He.glo_ok X G (c.fact 34 (f := .glo "check_indexes") rfl), FD.bindsN fun _ _ _ _ _ _ us hl => match us, hl with | [_, _], _ => rfl, sc_check_indexes, rfl, fun F => of_some (k_check_indexes F)⟩
theorem has_part_of (X : K.In h) (G : h.Ns mainGlobals mg) (c : He.SaysD fa fn K) : FnHas TB WN K mg ⟨"part_of", 2, N_part_of, p_part_of⟩ := by
  obtain ⟨fd, FD⟩ := c.def_ 37 (d := d_part_of) rfl
  exact ⟨_, _, _, _, _, _, fd, ["problem", "indexes"], FD, He.glo_ok X G (c.fact 35 (f := .glo "part_of") rfl), FD.bindsN fun _ _ _ _ _ _ us hl => match us, hl with | [_, _], _ => rfl, sc_part_of, rfl, fun F => of_some (k_part_of F)⟩
theorem has_part (X : K.In h) (G : h.Ns mainGlobals mg) (c : He.SaysD fa fn K) : FnHas TB WN K mg ⟨"part", 2, N_part, p_part⟩ := by
  obtain ⟨fd, FD⟩ := c.def_ 38 (d := d_part) rfl
  exact ⟨_, _, _, _, _, _, fd, ["problem", "indexes"], FD, He.glo_ok X G (c.fact 36 (f := .glo "part") rfl), FD.bindsN fun _ _ _ _ _ _ us hl => match us, hl with | [_, _], _ => rfl, sc_part, rfl, fun F => of_some (k_part F)⟩
theorem has_found_by_deadlines (X : K.In h) (G : h.Ns mainGlobals mg) (c : He.SaysD fa fn K) : FnHas TB WN K mg ⟨"found_by_deadlines", 1, N_found_by_deadlines, p_found_by_deadlines⟩ := by
  obtain ⟨fd, FD⟩ := c.def_ 39 (d := d_found_by_deadlines) rfl
  exact ⟨_, _, _, _, _, _, fd, ["problem"], FD, He.glo_ok X G (c.fact 37 (f := .glo "found_by_deadlines") rfl), FD.bindsN fun _ _ _ _ _ _ us hl => match us, hl with | [_], _ => rfl, sc_found_by_deadlines, rfl, fun F => of_some (k_found_by_deadlines F)⟩
theorem has_can_hold (X : K.In h) (G : h.Ns mainGlobals mg) (c : He.SaysD fa fn K) : FnHas TB WN K mg ⟨"can_hold", 2, N_can_hold, p_can_hold⟩ := by
  obtain ⟨fd, FD⟩ := c.def_ 40 (d := d_can_hold) rfl
  exact ⟨_, _, _, _, _, _, fd, ["problem", "indexes"], FD, He.glo_ok X G (c.fact 38 (f := .glo "can_hold") rfl), FD.bindsN fun _ _ _ _ _ _ us hl => match us, hl with | [_, _], _ => rfl, sc_can_hold, rfl, fun F => of_some (k_can_hold F)⟩
theorem has_less (X : K.In h) (G : h.Ns mainGlobals mg) (c : He.SaysD fa fn K) : FnHas TB WN K mg ⟨"less", 2, N_less, p_less⟩ := by
  obtain ⟨fd, FD⟩ := c.def_ 41 (d := d_less) rfl
  exact ⟨_, _, _, _, _, _, fd, ["indexes", "index"], FD, He.glo_ok X G (c.fact 39 (f := .glo "less") rfl), FD.bindsN fun _ _ _ _ _ _ us hl => match us, hl with | [_, _], _ => rfl, sc_less, rfl, fun F => of_some (k_less F)⟩
theorem has_is_conflict (X : K.In h) (G : h.Ns mainGlobals mg) (c : He.SaysD fa fn K) : FnHas TB WN K mg ⟨"is_conflict", 2, N_is_conflict, p_is_conflict⟩ := by
  obtain ⟨fd, FD⟩ := c.def_ 42 (d := d_is_conflict) rfl
  exact ⟨_, _, _, _, _, _, fd, ["problem", "indexes"], FD, He.glo_ok X G (c.fact 40 (f := .glo "is_conflict") rfl), FD.bindsN fun _ _ _ _ _ _ us hl => match us, hl with | [_, _], _ => rfl, sc_is_conflict, rfl, fun F => of_some (k_is_conflict F)⟩
theorem has_accepts_conflict (X : K.In h) (G : h.Ns mainGlobals mg) (c : He.SaysD fa fn K) : FnHas TB WN K mg ⟨"accepts_conflict", 3, N_accepts_conflict, p_accepts_conflict⟩ := by
  obtain ⟨fd, FD⟩ := c.def_ 44 (d := d_accepts_conflict) rfl
  exact ⟨_, _, _, _, _, _, fd, ["problem", "indexes", "value"], FD, He.glo_ok X G (c.fact 42 (f := .glo "accepts_conflict") rfl), FD.bindsN fun _ _ _ _ _ _ us hl => match us, hl with | [_, _, _], _ => rfl, sc_accepts_conflict, rfl, fun F => of_some (k_accepts_conflict F)⟩
theorem has_others_of (X : K.In h) (G : h.Ns mainGlobals mg) (c : He.SaysD fa fn K) : FnHas TB WN K mg ⟨"others_of", 2, N_others_of, p_others_of⟩ := by
  obtain ⟨fd, FD⟩ := c.def_ 45 (d := d_others_of) rfl
  exact ⟨_, _, _, _, _, _, fd, ["problem", "indexes"], FD, He.glo_ok X G (c.fact 43 (f := .glo "others_of") rfl), FD.bindsN fun _ _ _ _ _ _ us hl => match us, hl with | [_, _], _ => rfl, sc_others_of, rfl, fun F => of_some (k_others_of F)⟩
theorem has_kept_with (X : K.In h) (G : h.Ns mainGlobals mg) (c : He.SaysD fa fn K) : FnHas TB WN K mg ⟨"kept_with", 3, N_kept_with, p_kept_with⟩ := by
  obtain ⟨fd, FD⟩ := c.def_ 46 (d := d_kept_with) rfl
  exact ⟨_, _, _, _, _, _, fd, ["problem", "indexes", "index"], FD, He.glo_ok X G (c.fact 44 (f := .glo "kept_with") rfl), FD.bindsN fun _ _ _ _ _ _ us hl => match us, hl with | [_, _, _], _ => rfl, sc_kept_with, rfl, fun F => of_some (k_kept_with F)⟩
theorem has_is_correction (X : K.In h) (G : h.Ns mainGlobals mg) (c : He.SaysD fa fn K) : FnHas TB WN K mg ⟨"is_correction", 2, N_is_correction, p_is_correction⟩ := by
  obtain ⟨fd, FD⟩ := c.def_ 47 (d := d_is_correction) rfl
  exact ⟨_, _, _, _, _, _, fd, ["problem", "indexes"], FD, He.glo_ok X G (c.fact 45 (f := .glo "is_correction") rfl), FD.bindsN fun _ _ _ _ _ _ us hl => match us, hl with | [_, _], _ => rfl, sc_is_correction, rfl, fun F => of_some (k_is_correction F)⟩
theorem has_accepts_correction (X : K.In h) (G : h.Ns mainGlobals mg) (c : He.SaysD fa fn K) : FnHas TB WN K mg ⟨"accepts_correction", 3, N_accepts_correction, p_accepts_correction⟩ := by
  obtain ⟨fd, FD⟩ := c.def_ 49 (d := d_accepts_correction) rfl
  exact ⟨_, _, _, _, _, _, fd, ["problem", "indexes", "value"], FD, He.glo_ok X G (c.fact 47 (f := .glo "accepts_correction") rfl), FD.bindsN fun _ _ _ _ _ _ us hl => match us, hl with | [_, _, _], _ => rfl, sc_accepts_correction, rfl, fun F => of_some (k_accepts_correction F)⟩
theorem has_law_is_integer (X : K.In h) (G : h.Ns mainGlobals mg) (c : He.SaysD fa fn K) : FnHas TB WN K mg ⟨"_law_is_integer", 1, N_law_is_integer, p_law_is_integer⟩ := by
  obtain ⟨fd, FD⟩ := c.def_ 52 (d := d_law_is_integer) rfl
  exact ⟨_, _, _, _, _, _, fd, ["_law_actual"], FD, He.glo_ok X G (c.fact 50 (f := .glo "_law_is_integer") rfl), FD.bindsN fun _ _ _ _ _ _ us hl => match us, hl with | [_], _ => rfl, sc_law_is_integer, rfl, fun F => of_some (k_law_is_integer F)⟩
theorem has_law_equal (X : K.In h) (G : h.Ns mainGlobals mg) (c : He.SaysD fa fn K) : FnHas TB WN K mg ⟨"_law_equal", 2, N_law_equal, p_law_equal⟩ := by
  obtain ⟨fd, FD⟩ := c.def_ 53 (d := d_law_equal) rfl
  exact ⟨_, _, _, _, _, _, fd, ["_law_actual", "_law_due"], FD, He.glo_ok X G (c.fact 51 (f := .glo "_law_equal") rfl), FD.bindsN fun _ _ _ _ _ _ us hl => match us, hl with | [_, _], _ => rfl, sc_law_equal, rfl, fun F => of_some (k_law_equal F)⟩
theorem has_law_holds (X : K.In h) (G : h.Ns mainGlobals mg) (c : He.SaysD fa fn K) : FnHas TB WN K mg ⟨"_law_holds", 2, N_law_holds, p_law_holds⟩ := by
  obtain ⟨fd, FD⟩ := c.def_ 58 (d := d_law_holds) rfl
  exact ⟨_, _, _, _, _, _, fd, ["_law_constraint_here", "_law_ranking"], FD, He.glo_ok X G (c.fact 56 (f := .glo "_law_holds") rfl), FD.bindsN fun _ _ _ _ _ _ us hl => match us, hl with | [_, _], _ => rfl, sc_law_holds, rfl, fun F => of_some (k_law_holds F)⟩
theorem has_law_rankings (X : K.In h) (G : h.Ns mainGlobals mg) (c : He.SaysD fa fn K) : FnHas TB WN K mg ⟨"_law_rankings", 1, N_law_rankings, p_law_rankings⟩ := by
  obtain ⟨fd, FD⟩ := c.def_ 59 (d := d_law_rankings) rfl
  exact ⟨_, _, _, _, _, _, fd, ["_law_many"], FD, He.glo_ok X G (c.fact 57 (f := .glo "_law_rankings") rfl), FD.bindsN fun _ _ _ _ _ _ us hl => match us, hl with | [_], _ => rfl, sc_law_rankings, rfl, fun F => of_some (k_law_rankings F)⟩
theorem has_law_is_good (X : K.In h) (G : h.Ns mainGlobals mg) (c : He.SaysD fa fn K) : FnHas TB WN K mg ⟨"_law_is_good", 3, N_law_is_good, p_law_is_good⟩ := by
  obtain ⟨fd, FD⟩ := c.def_ 60 (d := d_law_is_good) rfl
  exact ⟨_, _, _, _, _, _, fd, ["_law_items", "_law_constraints", "_law_value"], FD, He.glo_ok X G (c.fact 58 (f := .glo "_law_is_good") rfl), FD.bindsN fun _ _ _ _ _ _ us hl => match us, hl with | [_, _, _], _ => rfl, sc_law_is_good, rfl, fun F => of_some (k_law_is_good F)⟩
theorem has_law_chosen (X : K.In h) (G : h.Ns mainGlobals mg) (c : He.SaysD fa fn K) : FnHas TB WN K mg ⟨"_law_chosen", 2, N_law_chosen, p_law_chosen⟩ := by
  obtain ⟨fd, FD⟩ := c.def_ 61 (d := d_law_chosen) rfl
  exact ⟨_, _, _, _, _, _, fd, ["_law_problem_here", "_law_indexes"], FD, He.glo_ok X G (c.fact 59 (f := .glo "_law_chosen") rfl), FD.bindsN fun _ _ _ _ _ _ us hl => match us, hl with | [_, _], _ => rfl, sc_law_chosen, rfl, fun F => of_some (k_law_chosen F)⟩
theorem has_law_without (X : K.In h) (G : h.Ns mainGlobals mg) (c : He.SaysD fa fn K) : FnHas TB WN K mg ⟨"_law_without", 2, N_law_without, p_law_without⟩ := by
  obtain ⟨fd, FD⟩ := c.def_ 62 (d := d_law_without) rfl
  exact ⟨_, _, _, _, _, _, fd, ["_law_indexes", "_law_index"], FD, He.glo_ok X G (c.fact 60 (f := .glo "_law_without") rfl), FD.bindsN fun _ _ _ _ _ _ us hl => match us, hl with | [_, _], _ => rfl, sc_law_without, rfl, fun F => of_some (k_law_without F)⟩
theorem has_law_rest (X : K.In h) (G : h.Ns mainGlobals mg) (c : He.SaysD fa fn K) : FnHas TB WN K mg ⟨"_law_rest", 2, N_law_rest, p_law_rest⟩ := by
  obtain ⟨fd, FD⟩ := c.def_ 63 (d := d_law_rest) rfl
  exact ⟨_, _, _, _, _, _, fd, ["_law_problem_here", "_law_indexes"], FD, He.glo_ok X G (c.fact 61 (f := .glo "_law_rest") rfl), FD.bindsN fun _ _ _ _ _ _ us hl => match us, hl with | [_, _], _ => rfl, sc_law_rest, rfl, fun F => of_some (k_law_rest F)⟩
theorem has_law_conflict (X : K.In h) (G : h.Ns mainGlobals mg) (c : He.SaysD fa fn K) : FnHas TB WN K mg ⟨"_law_conflict", 3, N_law_conflict, p_law_conflict⟩ := by
  obtain ⟨fd, FD⟩ := c.def_ 64 (d := d_law_conflict) rfl
  exact ⟨_, _, _, _, _, _, fd, ["_law_problem_here", "_law_indexes", "_law_value"], FD, He.glo_ok X G (c.fact 62 (f := .glo "_law_conflict") rfl), FD.bindsN fun _ _ _ _ _ _ us hl => match us, hl with | [_, _, _], _ => rfl, sc_law_conflict, rfl, fun F => of_some (k_law_conflict F)⟩
theorem has_law_correction (X : K.In h) (G : h.Ns mainGlobals mg) (c : He.SaysD fa fn K) : FnHas TB WN K mg ⟨"_law_correction", 3, N_law_correction, p_law_correction⟩ := by
  obtain ⟨fd, FD⟩ := c.def_ 65 (d := d_law_correction) rfl
  exact ⟨_, _, _, _, _, _, fd, ["_law_problem_here", "_law_indexes", "_law_value"], FD, He.glo_ok X G (c.fact 63 (f := .glo "_law_correction") rfl), FD.bindsN fun _ _ _ _ _ _ us hl => match us, hl with | [_, _, _], _ => rfl, sc_law_correction, rfl, fun F => of_some (k_law_correction F)⟩
theorem dh_law_next (X : K.In h) (G : h.Ns mainGlobals mg) (c : He.SaysD fa fn K) : DefHas K mg "_law_next" s_law_next N_law_next ["_law_stream_here", "_law_many"] := by
  obtain ⟨fd, FD⟩ := c.def_ 51 (d := d_law_next) rfl
  exact ⟨_, _, _, fd, FD, He.glo_ok X G (c.fact 49 (f := .glo "_law_next") rfl), FD.bindsN fun _ _ _ _ _ _ us hl => match us, hl with | [_, _], _ => rfl, sc_law_next⟩
theorem dh_law_pick (X : K.In h) (G : h.Ns mainGlobals mg) (c : He.SaysD fa fn K) : DefHas K mg "_law_pick" s_law_pick N_law_pick ["_law_stream_here", "_law_rows"] := by
  obtain ⟨fd, FD⟩ := c.def_ 54 (d := d_law_pick) rfl
  exact ⟨_, _, _, fd, FD, He.glo_ok X G (c.fact 52 (f := .glo "_law_pick") rfl), FD.bindsN fun _ _ _ _ _ _ us hl => match us, hl with | [_, _], _ => rfl, sc_law_pick⟩
theorem dh_law_constraint (X : K.In h) (G : h.Ns mainGlobals mg) (c : He.SaysD fa fn K) : DefHas K mg "_law_constraint" s_law_constraint N_law_constraint ["_law_stream_here", "_law_items"] := by
  obtain ⟨fd, FD⟩ := c.def_ 55 (d := d_law_constraint) rfl
  exact ⟨_, _, _, fd, FD, He.glo_ok X G (c.fact 53 (f := .glo "_law_constraint") rfl), FD.bindsN fun _ _ _ _ _ _ us hl => match us, hl with | [_, _], _ => rfl, sc_law_constraint⟩
theorem dh_law_problem (X : K.In h) (G : h.Ns mainGlobals mg) (c : He.SaysD fa fn K) : DefHas K mg "_law_problem" s_law_problem N_law_problem ["_law_stream_here", "_law_items", "_law_most"] := by
  obtain ⟨fd, FD⟩ := c.def_ 56 (d := d_law_problem) rfl
  exact ⟨_, _, _, fd, FD, He.glo_ok X G (c.fact 54 (f := .glo "_law_problem") rfl), FD.bindsN fun _ _ _ _ _ _ us hl => match us, hl with | [_, _, _], _ => rfl, sc_law_problem⟩
theorem dh_law_shuffled (X : K.In h) (G : h.Ns mainGlobals mg) (c : He.SaysD fa fn K) : DefHas K mg "_law_shuffled" s_law_shuffled N_law_shuffled ["_law_stream_here", "_law_many"] := by
  obtain ⟨fd, FD⟩ := c.def_ 57 (d := d_law_shuffled) rfl
  exact ⟨_, _, _, fd, FD, He.glo_ok X G (c.fact 55 (f := .glo "_law_shuffled") rfl), FD.bindsN fun _ _ _ _ _ _ us hl => match us, hl with | [_, _], _ => rfl, sc_law_shuffled⟩
theorem dh_law_bent (X : K.In h) (G : h.Ns mainGlobals mg) (c : He.SaysD fa fn K) : DefHas K mg "_law_bent" s_law_bent N_law_bent ["_law_stream_here", "_law_items", "_law_value"] := by
  obtain ⟨fd, FD⟩ := c.def_ 67 (d := d_law_bent) rfl
  exact ⟨_, _, _, fd, FD, He.glo_ok X G (c.fact 65 (f := .glo "_law_bent") rfl), FD.bindsN fun _ _ _ _ _ _ us hl => match us, hl with | [_, _, _], _ => rfl, sc_law_bent⟩
theorem dh_conflict_evidence (X : K.In h) (G : h.Ns mainGlobals mg) (c : He.SaysD fa fn K) : DefHas K mg "conflict_evidence" s_conflict_evidence ev0.N ["problem", "indexes"] := by
  obtain ⟨fd, FD⟩ := c.def_ 43 (d := d_conflict_evidence) rfl
  exact ⟨_, _, _, fd, FD, He.glo_ok X G (c.fact 41 (f := .glo "conflict_evidence") rfl), FD.bindsN fun _ _ _ _ _ _ us hl => match us, hl with | [_, _], _ => rfl, ⟨rfl, rfl, rfl, by decide +kernel, rfl, by decide +kernel, by decide +kernel⟩⟩
theorem dh_correction_evidence (X : K.In h) (G : h.Ns mainGlobals mg) (c : He.SaysD fa fn K) : DefHas K mg "correction_evidence" s_correction_evidence ev1.N ["problem", "indexes"] := by
  obtain ⟨fd, FD⟩ := c.def_ 48 (d := d_correction_evidence) rfl
  exact ⟨_, _, _, fd, FD, He.glo_ok X G (c.fact 46 (f := .glo "correction_evidence") rfl), FD.bindsN fun _ _ _ _ _ _ us hl => match us, hl with | [_, _], _ => rfl, ⟨rfl, rfl, rfl, by decide +kernel, rfl, by decide +kernel, by decide +kernel⟩⟩
theorem dh_law_told (X : K.In h) (G : h.Ns mainGlobals mg) (c : He.SaysD fa fn K) : DefHas K mg "_law_told" s_law_told (["_law_which", "_law_asked", "_law_indexes", "_law_problem_here"] : List Str) ["_law_which", "_law_asked", "_law_indexes"] := by
  obtain ⟨fd, FD⟩ := c.def_ 66 (d := d_law_told) rfl
  exact ⟨_, _, _, fd, FD, He.glo_ok X G (c.fact 64 (f := .glo "_law_told") rfl), FD.bindsN fun _ _ _ _ _ _ us hl => match us, hl with | [_, _, _], _ => rfl, ⟨rfl, rfl, rfl, by decide +kernel, rfl, by decide +kernel, by decide +kernel⟩⟩
theorem dh_law_stream (X : K.In h) (G : h.Ns mainGlobals mg) (c : He.SaysD fa fn K) : DefHas K mg "_law_stream" s_law_stream (["_law_script"] : List Str) ["_law_script"] := by
  obtain ⟨fd, FD⟩ := c.def_ 50 (d := d_law_stream) rfl
  exact ⟨_, _, _, fd, FD, He.glo_ok X G (c.fact 48 (f := .glo "_law_stream") rfl), FD.bindsN fun _ _ _ _ _ _ us hl => match us, hl with | [_], _ => rfl, ⟨rfl, rfl, rfl, by decide +kernel, rfl, by decide +kernel, by decide +kernel⟩⟩
theorem mod_has (X : K.In h) (G : h.Ns mainGlobals mg) (c : He.SaysD fa fn K) : ModHas TB WN K mg := by
  refine ⟨?_, ?_, ?_⟩
  · unfold bltNames
    exact (all_cons (He.free_ok X G (c.fact 69 (f := .free "isinstance") rfl)) (all_cons (He.free_ok X G (c.fact 70 (f := .free "len") rfl)) (all_cons (He.free_ok X G (c.fact 71 (f := .free "all") rfl)) (all_cons (He.free_ok X G (c.fact 72 (f := .free "any") rfl)) (all_cons (He.free_ok X G (c.fact 73 (f := .free "max") rfl)) (all_cons (He.free_ok X G (c.fact 74 (f := .free "min") rfl)) (all_cons (He.free_ok X G (c.fact 75 (f := .free "sorted") rfl)) (all_cons (He.free_ok X G (c.fact 76 (f := .free "list") rfl)) (all_cons (He.free_ok X G (c.fact 77 (f := .free "tuple") rfl)) (all_cons (He.free_ok X G (c.fact 78 (f := .free "range") rfl)) (all_cons (He.free_ok X G (c.fact 79 (f := .free "enumerate") rfl)) (all_cons (He.free_ok X G (c.fact 80 (f := .free "zip") rfl)) (all_cons (He.free_ok X G (c.fact 81 (f := .free "reversed") rfl)) (all_cons (He.free_ok X G (c.fact 82 (f := .free "int") rfl)) (all_cons (He.free_ok X G (c.fact 83 (f := .free "abs") rfl)) (all_cons (He.free_ok X G (c.fact 84 (f := .free "bool") rfl)) (all_cons (He.free_ok X G (c.fact 85 (f := .free "str") rfl)) all_nil)))))))))))))))))
  · unfold conNames
    exact (all_cons (He.int_ok X G (c.fact 86 (f := .int "MOST_ITEMS" 7) rfl)) (all_cons (He.int_ok X G (c.fact 87 (f := .int "MOST_CONSTRAINTS" 12) rfl)) (all_cons (He.int_ok X G (c.fact 88 (f := .int "MOST_NUMBER" 20) rfl)) all_nil)))
  · unfold TB
    exact (all_cons (has_is_whole X G c) (all_cons (has_is_constraint X G c) (all_cons (has_is_problem X G c) (all_cons (has_is_ranking X G c) (all_cons (has_holds X G c) (all_cons (has_violated_by X G c) (all_cons (has_is_good X G c) (all_cons (has_check_problem_problems X G c) (all_cons (has_check_problem_windows X G c) (all_cons (has_is_between X G c) (all_cons (has_is_item X G c) (all_cons (has_given_low X G c) (all_cons (has_given_high X G c) (all_cons (has_before X G c) (all_cons (has_behind X G c) (all_cons (has_ordered X G c) (all_cons (has_is_cyclic X G c) (all_cons (has_earliest_of X G c) (all_cons (has_latest_of X G c) (all_cons (has_lower_chain X G c) (all_cons (has_upper_chain X G c) (all_cons (has_is_chain X G c) (all_cons (has_cycles_from X G c) (all_cons (has_cycle_of X G c) (all_cons (has_places_of X G c) (all_cons (has_intervals_of X G c) (all_cons (has_told_contradiction X G c) (all_cons (has_shows_low X G c) (all_cons (has_shows_high X G c) (all_cons (has_is_row X G c) (all_cons (has_is_overfull X G c) (all_cons (has_is_contradiction X G c) (all_cons (has_accepts_contradiction X G c) (all_cons (has_are_indexes X G c) (all_cons (has_check_indexes X G c) (all_cons (has_part_of X G c) (all_cons (has_part X G c) (all_cons (has_found_by_deadlines X G c) (all_cons (has_can_hold X G c) (all_cons (has_less X G c) (all_cons (has_is_conflict X G c) (all_cons (has_accepts_conflict X G c) (all_cons (has_others_of X G c) (all_cons (has_kept_with X G c) (all_cons (has_is_correction X G c) (all_cons (has_accepts_correction X G c) (all_cons (has_law_is_integer X G c) (all_cons (has_law_equal X G c) (all_cons (has_law_holds X G c) (all_cons (has_law_rankings X G c) (all_cons (has_law_is_good X G c) (all_cons (has_law_chosen X G c) (all_cons (has_law_without X G c) (all_cons (has_law_rest X G c) (all_cons (has_law_conflict X G c) (all_cons (has_law_correction X G c) all_nil))))))))))))))))))))))))))))))))))))))))))))))))))))))))
theorem np_has (X : K.In h) (G : h.Ns mainGlobals mg) (c : He.SaysD fa fn K) (z : npB K = true) : NpC K mg s_NotPossibleinit (He.ga K "NotPossible") (He.ga K "RankError") (He.ma K (He.ga K "NotPossible") "__init__") := by
  obtain ⟨z1, z⟩ := and_tt z
  obtain ⟨z2, z⟩ := and_tt z
  obtain ⟨z3, z⟩ := and_tt z
  obtain ⟨z4, z⟩ := and_tt z
  obtain ⟨z5, z⟩ := and_tt z
  obtain ⟨z6, z⟩ := and_tt z
  obtain ⟨z7, z⟩ := and_tt z
  obtain ⟨y1, z⟩ := and_tt z
  obtain ⟨y2, z⟩ := and_tt z
  obtain ⟨y3, y4⟩ := and_tt z
  have xf := xfB_ok z5
  obtain ⟨fd, FD⟩ := c.def_ 1 (d := d_NotPossibleinit) rfl
  exact ⟨He.glo_ok X G (c.fact 67 (f := .glo "NotPossible") rfl), He.glo_ok X G (c.fact 68 (f := .glo "RankError") rfl), oexB_ok z1, of_decide_eq_true z2, of_decide_eq_true z3, of_decide_eq_true z4, xf, of_decide_eq_true z6, of_decide_eq_true z7,
    ⟨xf.ga, xf.gg, xf.exC, xf.hdC, of_decide_eq_true y1, of_decide_eq_true y2, of_decide_eq_true y3, of_decide_eq_true y4⟩,
    ⟨fd, FD, FD.bindsN fun _ _ _ _ _ _ us hl => match us, hl with | [_, _], _ => rfl, ⟨rfl, rfl, rfl, by decide +kernel, rfl, by decide +kernel, by decide +kernel⟩⟩, ⟨_, _, _, _, rfl⟩, ⟨.inl rfl, .inl rfl⟩⟩
end
end R60

end -- E1
section -- S1
set_option Elab.async false
set_option linter.all false
set_option maxRecDepth 100000
set_option maxHeartbeats 4000000
/-! What the pure defs answer, I: whole numbers, constraints, rankings, windows' first parts. -/
namespace R60
open PySem L2
open SeqAt (shaped)
/-! ### comprehensions and loops, run -/
section
variable {tg : List Nat} {t : List Sl → Option Bool} {e : List Sl → Option PyData} {ρ : List Sl} {α : Type}
theorem lcGo_map {bind : PyData → Option (List Sl)} (enc : α → PyData) (c : α → Bool) (f : α → PyData) : ∀ (l : List α), (∀ a ∈ l, ∃ ρ', bind (enc a) = some ρ' ∧ t ρ' = some (c a) ∧ (c a = true → e ρ' = some (f a))) → lcGo bind t e (l.map enc) = some ((l.filter c).map f)
  | [], _ => rfl
  | a :: l, h => by
    obtain ⟨ρ', h1, h2, h3⟩ := h a List.mem_cons_self
    have ih := lcGo_map enc c f l fun x hx => h x (List.mem_cons_of_mem _ hx)
    rw [List.map_cons, List.filter_cons]
    show ((bind (enc a)).bind fun ρ => (t ρ).bind fun b => if b then (e ρ).bind fun y => (lcGo bind t e (l.map enc)).map (y :: ·) else lcGo bind t e (l.map enc)) = _
    rw [h1, Option.bind_some, h2, Option.bind_some]
    cases hc : c a with
    | true =>
      rw [if_pos rfl, if_pos rfl, h3 hc, Option.bind_some, ih]
      rfl
    | false =>
      rw [if_neg Bool.false_ne_true, if_neg Bool.false_ne_true, ih]
theorem lc_map (l : List α) (enc : α → PyData) (c : α → Bool) (f : α → PyData) (hz : l.length ≤ 50000) (h : ∀ a ∈ l, ∃ ρ', bindT tg (wipeS ρ tg) (enc a) = some ρ' ∧ t ρ' = some (c a) ∧ (c a = true → e ρ' = some (f a))) : lcD tg t e ρ (l.map enc) = some ((l.filter c).map f) := by
  unfold lcD
  rw [if_pos (by rw [List.length_map]; exact hz)]
  exact lcGo_map enc c f l h
theorem lc_all (l : List α) (enc : α → PyData) (f : α → PyData) (hz : l.length ≤ 50000) (h : ∀ a ∈ l, ∃ ρ', bindT tg (wipeS ρ tg) (enc a) = some ρ' ∧ t ρ' = some true ∧ e ρ' = some (f a)) : lcD tg t e ρ (l.map enc) = some (l.map f) := by
  have := lc_map (tg := tg) (t := t) (e := e) (ρ := ρ) l enc (fun _ => true) f hz fun a ha => by
    obtain ⟨ρ', h1, h2, h3⟩ := h a ha
    exact ⟨ρ', h1, h2, fun _ => h3⟩
  rw [this, List.filter_eq_self.mpr fun _ _ => rfl]
end
theorem t_yes {F : Fs} {ρ : List Sl} : evT F (.bl true) ρ = some true := rfl
theorem allM_bl (l : List Bool) : allM boolD (l.map PyData.bool) = some l := by
  induction l with
  | nil => rfl
  | cons a l ih => simp [allM, boolD, ih]
theorem allM_blf {α : Type} (l : List α) (f : α → Bool) : allM boolD (l.map fun a => PyData.bool (f a)) = some (l.map f) := by
  have := allM_bl (l.map f)
  rwa [List.map_map] at this
theorem allM_in {α : Type} (l : List α) (f : α → Int) : allM intOfD (l.map fun a => PyData.int (f a)) = some (l.map f) := by
  have := allM_eq (ns := l.map f)
  rwa [List.map_map] at this
theorem all_map_id {α : Type} (l : List α) (f : α → Bool) : (l.map f).all id = l.all f := by
  rw [List.all_map]; rfl
theorem any_map_id {α : Type} (l : List α) (f : α → Bool) : (l.map f).any id = l.any f := by
  rw [List.any_map]; rfl
/-! ### the defs by their numbers -/
abbrev E (k : Nat) : Fs := evF TB WN k
theorem bind1 {j : Nat} {ρ : List Sl} {d : PyData} : bindT [j] ρ d = some (ρ.set j (.dat d)) := rfl
theorem shaped_s {s : Str} (h : PyData.strOk s = true) : shaped (.str s) = true := by
  unfold shaped PyData.canLay0
  rw [h]
  rfl
theorem eqD_ss {x y : Str} (h1 : PyData.strOk x = true) (h2 : PyData.strOk y = true) : eqD (.str x) (.str y) = some (decide (x = y)) := by
  unfold eqD
  rw [shaped_s h1, shaped_s h2, eqv_ss]
  rfl
theorem ok_within : PyData.strOk "within" = true := by decide +kernel
theorem ok_ahead : PyData.strOk "ahead" = true := by decide +kernel
theorem ok_cycle : PyData.strOk "cycle" = true := by decide +kernel
theorem ok_overfull : PyData.strOk "overfull" = true := by decide +kernel
theorem ww : decide (("within" : Str) = ("within" : Str)) = true := by decide
theorem wa : decide (("within" : Str) = ("ahead" : Str)) = false := by decide +kernel
theorem aw : decide (("ahead" : Str) = ("within" : Str)) = false := by decide +kernel
theorem aa : decide (("ahead" : Str) = ("ahead" : Str)) = true := by decide
/-- is_whole -/
theorem sp_whole {k : Nat} (hk : 1 ≤ k) (d : PyData) (lo hi : Int) : E k 0 [d, .int lo, .int hi] = some (.bool (isWholeD d lo hi)) := by
  obtain ⟨k, rfl⟩ : ∃ j, k = j + 1 := ⟨k - 1, by omega⟩
  show (run (E k) WN p_is_whole [.dat d, .dat (.int lo), .dat (.int hi)]).map outD = _
  unfold p_is_whole
  cases d <;> simp! [isiD, isIntD, isBoolD, isWholeD]
theorem isWhole_nat {i : Nat} {lo hi : Int} (h1 : lo ≤ i) (h2 : (i : Int) ≤ hi) : isWholeD (.int i) lo hi = true := by
  show (decide (lo ≤ (i : Int)) && decide ((i : Int) ≤ hi)) = true
  rw [decide_eq_true h1, decide_eq_true h2]
  rfl
/-- is_constraint, of a constraint -/
theorem sp_constraint {k : Nat} (hk : 2 ≤ k) {n : Nat} {c : Con} (h : c.ok n) : E k 1 [.int n, c.D] = some (.bool true) := by
  obtain ⟨k, rfl⟩ : ∃ j, k = j + 1 := ⟨k - 1, by omega⟩
  cases c with
  | within i lo hi =>
    obtain ⟨h1, h2, h3, h4⟩ := h
    show (run (E k) WN p_is_constraint [.dat (.int n), .dat (.tuple [.str "within", .int i, .int lo, .int hi]), .no]).map outD = _
    unfold p_is_constraint
    have w1 := sp_whole (k := k) (by omega) (.int i) 0 ((n : Int) - 1)
    rw [isWhole_nat (by omega) (by omega)] at w1
    have w2 := sp_whole (k := k) (by omega) (.int lo) 1 n
    rw [isWhole_nat (by omega) (by omega)] at w2
    have w3 := sp_whole (k := k) (by omega) (.int hi) lo n
    rw [isWhole_nat (by omega) (by omega)] at w3
    simp! [List.length_cons, List.length_nil, eqD_ss ok_within ok_within, ww, w1, w2, w3, show decide (((0 + 1 + 1 + 1 + 1 : Nat) : Int) = 0) = false from rfl, show decide (((0 + 1 + 1 + 1 + 1 : Nat) : Int) = 4) = true from rfl]
  | ahead a b =>
    obtain ⟨h1, h2, h3⟩ := h
    show (run (E k) WN p_is_constraint [.dat (.int n), .dat (.tuple [.str "ahead", .int a, .int b]), .no]).map outD = _
    unfold p_is_constraint
    have w1 := sp_whole (k := k) (by omega) (.int a) 0 ((n : Int) - 1)
    rw [isWhole_nat (by omega) (by omega)] at w1
    have w2 := sp_whole (k := k) (by omega) (.int b) 0 ((n : Int) - 1)
    rw [isWhole_nat (by omega) (by omega)] at w2
    have ne : decide ((a : Int) = (b : Int)) = false := decide_eq_false (by omega)
    have cut : slD (.tuple [.str "ahead", .int a, .int b]) (some 1) none = some (.tuple [.int a, .int b]) := rfl
    simp! [List.length_cons, List.length_nil, eqD_ss ok_ahead ok_ahead, eqD_ss ok_ahead ok_within, aa, aw, w1, w2, ne, cut, show decide (((0 + 1 + 1 + 1 : Nat) : Int) = 0) = false from rfl, show decide (((0 + 1 + 1 + 1 : Nat) : Int) = 3) = true from rfl, show intOfD (.tuple []) = none from rfl]
    have lc := lc_all (tg := [2]) (t := evT (E k) (.bl true)) (e := ev (E k) (.call 0 (.cons (.var 2) (.cons (.int 0) (.cons (.sub (.var 0) (.int 1)) .nil))))) (ρ := [.dat (.int n), .dat (.tuple [.str "ahead", .int a, .int b]), .no]) [(.int a : PyData), .int b] id (fun _ => .bool true) (show 2 ≤ 50000 by decide) (fun x hx => by
      refine ⟨_, bind1, t_yes, ?_⟩
      rcases (show x = .int a ∨ x = .int b by simpa using hx) with rfl | rfl
      · show ev (E k) _ [.dat (.int n), .dat (.tuple [.str "ahead", .int a, .int b]), .dat (.int a)] = _
        simp! [w1]
      · show ev (E k) _ [.dat (.int n), .dat (.tuple [.str "ahead", .int a, .int b]), .dat (.int b)] = _
        simp! [w2])
    rw [List.map_id] at lc
    rw [lc]
    simp! [List.map_cons, List.map_nil, show allM boolD [.bool true, .bool true] = some [true, true] from rfl, show [true, true].all id = true from rfl, ne]
/-- a problem's data, opened -/
theorem sp_problem {k : Nat} (hk : 3 ≤ k) {P : Prob} (ok : P.Ok) : E k 2 [P.D] = some (.bool true) := by
  obtain ⟨k, rfl⟩ : ∃ j, k = j + 1 := ⟨k - 1, by omega⟩
  show (run (E k) WN p_is_problem [.dat (.tuple [.int P.n, .tuple (P.cs.map Con.D)]), .no]).map outD = _
  unfold p_is_problem
  have w1 := sp_whole (k := k) (by omega) (.int P.n) 1 7
  rw [isWhole_nat (by have := ok.n1; omega) (by have := ok.n7; omega)] at w1
  have m := ok.m12
  have h12 : decide ((12 : Int) < ((P.cs.map Con.D).length : Int)) = false := decide_eq_false (by rw [List.length_map]; omega)
  simp! [List.length_cons, List.length_nil, w1, h12, show decide (((0 + 1 + 1 : Nat) : Int) = 2) = true from rfl]
  rw [lc_all P.cs Con.D (fun _ => .bool true) (by omega) fun c hc => ⟨_, bind1, t_yes, by
    show ev (E k) _ [.dat (.tuple [.int P.n, .tuple (P.cs.map Con.D)]), .dat c.D] = _
    simp! [sp_constraint (k := k) (by omega) (ok.cok c hc)]⟩]
  simp! [allM_blf, all_map_id]
  rw [List.all_eq_true.mpr fun _ _ => rfl]
theorem sp_check7 {k : Nat} (hk : 4 ≤ k) {P : Prob} (ok : P.Ok) : E k 7 [P.D] = some .none := by
  obtain ⟨k, rfl⟩ : ∃ j, k = j + 1 := ⟨k - 1, by omega⟩
  show (run (E k) WN p_check_problem_problems [.dat P.D]).map outD = _
  unfold p_check_problem_problems
  simp! [sp_problem (k := k) (by omega) ok]
  rfl
theorem sp_check8 {k : Nat} (hk : 4 ≤ k) {P : Prob} (ok : P.Ok) : E k 8 [P.D] = some .none := by
  obtain ⟨k, rfl⟩ : ∃ j, k = j + 1 := ⟨k - 1, by omega⟩
  show (run (E k) WN p_check_problem_windows [.dat P.D]).map outD = _
  unfold p_check_problem_windows
  simp! [sp_problem (k := k) (by omega) ok]
  rfl
/-- is_between, is_item -/
theorem sp_between {k : Nat} (hk : 1 ≤ k) (d : PyData) (lo hi : Int) : E k 9 [d, .int lo, .int hi] = some (.bool (isWholeD d lo hi)) := by
  obtain ⟨k, rfl⟩ : ∃ j, k = j + 1 := ⟨k - 1, by omega⟩
  show (run (E k) WN p_is_between [.dat d, .dat (.int lo), .dat (.int hi)]).map outD = _
  unfold p_is_between
  cases d <;> simp! [isiD, isIntD, isBoolD, isWholeD]
theorem sp_item {k : Nat} (hk : 2 ≤ k) (d : PyData) (P : Prob) : E k 10 [d, P.D] = some (.bool (isItemD P d)) := by
  obtain ⟨k, rfl⟩ : ∃ j, k = j + 1 := ⟨k - 1, by omega⟩
  show (run (E k) WN p_is_item [.dat d, .dat (.tuple [.int P.n, .tuple (P.cs.map Con.D)])]).map outD = _
  unfold p_is_item
  simp! [sp_between (k := k) (by omega)]
  rfl
/-! ### rankings -/
theorem idx_nat (l : List Nat) (x : Nat) : (l.map fun y : Nat => (y : Int)).idxOf (x : Int) = l.idxOf x := by
  induction l with
  | nil => rfl
  | cons a l ih =>
    rw [List.map_cons, List.idxOf_cons, List.idxOf_cons, ih]
    by_cases h : a = x
    · rw [h]; simp
    · have h1 : (a == x) = false := by simpa using h
      have h2 : ((a : Int) == (x : Int)) = false := by simp; omega
      rw [h1, h2]
theorem idxD_nat {r : List Nat} {x : Nat} (h : x ∈ r) : idxD (tupN r) (.int x) = some (.int (r.idxOf x : Nat)) := by
  show (allM intOfD (natsD r)).bind (fun ns => if (x : Int) ∈ ns then some (PyData.int (ns.idxOf (x : Int) : Nat)) else none) = _
  rw [show allM intOfD (natsD r) = some (r.map fun y : Nat => (y : Int)) from allM_in r fun y => (y : Int), Option.bind_some, if_pos (List.mem_map.mpr ⟨x, h, rfl⟩), idx_nat]
theorem lt_nat (a b : Nat) : decide ((a : Int) < (b : Int)) = decide (a < b) := by
  by_cases h : a < b
  · rw [decide_eq_true h, decide_eq_true (by omega)]
  · rw [decide_eq_false h, decide_eq_false (by omega)]
theorem le_nat (a b : Nat) : decide ((a : Int) ≤ (b : Int)) = decide (a ≤ b) := by
  by_cases h : a ≤ b
  · rw [decide_eq_true h, decide_eq_true (by omega)]
  · rw [decide_eq_false h, decide_eq_false (by omega)]
theorem holds_run {F : Fs} {n : Nat} {c : Con} (hc : c.ok n) {r : List Nat} (hr : IsRk n r) (p : St) (hp : p = p_holds) : (run F WN p [.dat c.D, .dat (tupN r)]).map outD = some (.bool (holds c r)) := by
  subst hp
  unfold p_holds
  cases c with
  | within i lo hi =>
    obtain ⟨h1, h2, h3, h4⟩ := hc
    show (run F WN _ [.dat (.tuple [.str "within", .int i, .int lo, .int hi]), .dat (tupN r)]).map outD = _
    simp! [eqD_ss ok_within ok_ahead, wa, idxD_nat (hr.mem h1)]
    rw [show ((r.idxOf i : Nat) : Int) + 1 = ((r.idxOf i + 1 : Nat) : Int) by omega, le_nat, le_nat]
    rfl
  | ahead a b =>
    obtain ⟨h1, h2, h3⟩ := hc
    show (run F WN _ [.dat (.tuple [.str "ahead", .int a, .int b]), .dat (tupN r)]).map outD = _
    simp! [eqD_ss ok_ahead ok_ahead, aa, idxD_nat (hr.mem h1), idxD_nat (hr.mem h2)]
    rw [lt_nat]
    rfl
theorem sp_holds {k : Nat} (hk : 1 ≤ k) {n : Nat} {c : Con} (hc : c.ok n) {r : List Nat} (hr : IsRk n r) : E k 4 [c.D, tupN r] = some (.bool (holds c r)) := by
  obtain ⟨k, rfl⟩ : ∃ j, k = j + 1 := ⟨k - 1, by omega⟩
  exact holds_run hc hr p_holds rfl
theorem sp_holdsL {k : Nat} (hk : 1 ≤ k) {n : Nat} {c : Con} (hc : c.ok n) {r : List Nat} (hr : IsRk n r) : E k 48 [c.D, tupN r] = some (.bool (holds c r)) := by
  obtain ⟨k, rfl⟩ : ∃ j, k = j + 1 := ⟨k - 1, by omega⟩
  exact holds_run hc hr p_law_holds rfl
theorem en_zip (l : List PyData) : enD l = (l.zipIdx).map fun p => PyData.tuple [.int (p.2 : Nat), p.1] := by
  unfold enD
  apply List.ext_getElem?
  intro i
  rw [List.getElem?_zipWith, List.getElem?_map, List.getElem?_zipIdx]
  by_cases h : i < l.length
  · rw [List.getElem?_range h, List.getElem?_eq_getElem h]
    simp
  · rw [List.getElem?_eq_none (by simpa using h), List.getElem?_eq_none (by simpa using h)]
    rfl
theorem en_con (l : List Con) : enD (l.map Con.D) = (l.zipIdx).map fun p => PyData.tuple [.int (p.2 : Nat), p.1.D] := by
  rw [en_zip, List.zipIdx_map, List.map_map]
  rfl
theorem bind2 {a b : Nat} {ρ : List Sl} {d e : PyData} : bindT [a, b] ρ (.tuple [d, e]) = some ((ρ.set a (.dat d)).set b (.dat e)) := rfl
theorem sp_viol {k : Nat} (hk : 2 ≤ k) {P : Prob} (ok : P.Ok) {r : List Nat} (hr : IsRk P.n r) : E k 5 [P.D, tupN r] = some (.list (((P.cs.zipIdx).filter fun p => !holds p.1 r).map fun p => .int (p.2 : Nat))) := by
  obtain ⟨k, rfl⟩ : ∃ j, k = j + 1 := ⟨k - 1, by omega⟩
  show (run (E k) WN p_violated_by [.dat (.tuple [.int P.n, .tuple (P.cs.map Con.D)]), .dat (tupN r), .no, .no]).map outD = _
  unfold p_violated_by
  simp! [en_con]
  rw [lc_map (P.cs.zipIdx) (fun p => PyData.tuple [.int (p.2 : Nat), p.1.D]) (fun p => !holds p.1 r) (fun p => .int (p.2 : Nat)) (by rw [List.length_zipIdx]; have := ok.m12; omega) fun p hp => ⟨_, bind2, by
    show evT (E k) _ [.dat (.tuple [.int P.n, .tuple (P.cs.map Con.D)]), .dat (tupN r), .dat (.int (p.2 : Nat)), .dat p.1.D] = _
    simp! [sp_holds (k := k) (by omega) (ok.cok p.1 (List.fst_mem_of_mem_zipIdx hp)) hr], fun _ => by
    show ev (E k) _ [.dat (.tuple [.int P.n, .tuple (P.cs.map Con.D)]), .dat (tupN r), .dat (.int (p.2 : Nat)), .dat p.1.D] = _
    simp! []⟩]
  simp! []
theorem good_viol (P : Prob) (r : List Nat) : decide (((((P.cs.zipIdx).filter fun p => !holds p.1 r).map fun p => PyData.int (p.2 : Nat)).length : Int) = 0) = good P r := by
  unfold good
  rw [List.length_map]
  by_cases h : (P.cs.all fun c => holds c r) = true
  · rw [h]
    apply decide_eq_true
    have : (P.cs.zipIdx).filter (fun p => !holds p.1 r) = [] := by
      rw [List.filter_eq_nil_iff]
      intro p hp
      have := List.all_eq_true.mp h p.1 (List.fst_mem_of_mem_zipIdx hp)
      simp [this]
    rw [this]
    rfl
  · rw [Bool.not_eq_true] at h
    rw [h]
    apply decide_eq_false
    intro z
    have z2 : (P.cs.zipIdx).filter (fun p => !holds p.1 r) = [] := List.eq_nil_of_length_eq_zero (by omega)
    rw [List.filter_eq_nil_iff] at z2
    rw [← Bool.not_eq_true] at h
    apply h
    rw [List.all_eq_true]
    intro c hc
    obtain ⟨i, hi, e⟩ := List.mem_iff_getElem.mp hc
    have := z2 (c, i) (by rw [List.mem_zipIdx_iff_getElem?]; simp [hi, e])
    simpa using this
theorem sp_good {k : Nat} (hk : 3 ≤ k) {P : Prob} (ok : P.Ok) {r : List Nat} (hr : IsRk P.n r) : E k 6 [P.D, tupN r] = some (.bool (good P r)) := by
  obtain ⟨k, rfl⟩ : ∃ j, k = j + 1 := ⟨k - 1, by omega⟩
  show (run (E k) WN p_is_good [.dat P.D, .dat (tupN r)]).map outD = _
  unfold p_is_good
  simp! [sp_viol (k := k) (by omega) ok hr, good_viol]
end R60

end -- S1
section -- S2
set_option Elab.async false
set_option linter.all false
set_option maxRecDepth 100000
set_option maxHeartbeats 4000000
/-! What the pure defs answer, II: bounds, who is ahead, the order, the windows. -/
namespace R60
open PySem L2
open SeqAt (shaped)
/-! ### data of numbers -/
theorem nats_canLay : ∀ l : List Nat, PyData.canLayAll0 (natsD l) = true
  | [] => rfl
  | a :: l => by
    show (PyData.canLay0 (.int a) && PyData.canLayAll0 (natsD l)) = true
    rw [nats_canLay l]; rfl
theorem nats_depth : ∀ l : List Nat, PyData.depthAll (natsD l) = 0
  | [] => rfl
  | a :: l => by
    show max (PyData.depth (.int a)) (PyData.depthAll (natsD l)) = 0
    rw [nats_depth l]; rfl
theorem shaped_natsL (l : List Nat) : shaped (.list (natsD l)) = true := by
  show (PyData.canLayAll0 (natsD l) && decide (PyData.depthAll (natsD l) + 1 ≤ 64)) = true
  rw [nats_canLay, nats_depth]; rfl
theorem shaped_natsT (l : List Nat) : shaped (tupN l) = true := by
  show (PyData.canLayAll0 (natsD l) && decide (PyData.depthAll (natsD l) + 1 ≤ 64)) = true
  rw [nats_canLay, nats_depth]; rfl
theorem any_nat (l : List Nat) (x : Nat) : ((natsD l).any fun z => PyData.eqv z (.int x)) = decide (x ∈ l) := by
  induction l with
  | nil => rfl
  | cons a l ih =>
    show (PyData.eqv (.int a) (.int x) || (natsD l).any fun z => PyData.eqv z (.int x)) = _
    rw [ih, eqv_ii]
    by_cases h : a = x
    · subst h
      rw [decide_eq_true rfl, decide_eq_true List.mem_cons_self]; rfl
    · rw [decide_eq_false (by omega), Bool.false_or]
      by_cases h2 : x ∈ l
      · rw [decide_eq_true h2, decide_eq_true (List.mem_cons_of_mem _ h2)]
      · rw [decide_eq_false h2, decide_eq_false]
        rw [List.mem_cons, not_or]
        exact ⟨fun e => h e.symm, h2⟩
theorem mem_natL (l : List Nat) (x : Nat) : memD (.int x) (.list (natsD l)) = some (decide (x ∈ l)) := by
  unfold memD
  simp only
  rw [shaped_i, shaped_natsL, any_nat]
  rfl
theorem mem_natT (l : List Nat) (x : Nat) : memD (.int x) (tupN l) = some (decide (x ∈ l)) := by
  unfold memD
  simp only
  rw [shaped_i, shaped_natsT, any_nat]
  rfl
theorem eq_nat (a b : Nat) : decide ((a : Int) = (b : Int)) = decide (a = b) := by
  by_cases h : a = b
  · rw [decide_eq_true h, decide_eq_true (by omega)]
  · rw [decide_eq_false h, decide_eq_false (by omega)]
theorem rg_nats (n : Nat) : rgD 0 (n : Int) = natsD (List.range n) := by
  unfold rgD natsD
  have : ((n : Int) - 0).toNat = n := by omega
  rw [this]
  apply List.map_congr_left
  intro a _
  rw [Int.zero_add]
theorem itR_nat {n : Nat} (h : n ≤ 100000) : itR1D (.int (n : Int)) = some (natsD (List.range n)) := by
  show (if -100000 ≤ (n : Int) ∧ (n : Int) ≤ 100000 then some (rgD 0 n) else none) = _
  rw [if_pos (by omega), rg_nats]
theorem rg1_nat {n : Nat} (h : n ≤ 100000) : rg1D (.int (n : Int)) = some (natsD (List.range n)) := by
  show (if 0 ≤ (n : Int) ∧ (n : Int) ≤ 100000 then some (rgD 0 n) else none) = _
  rw [if_pos (by omega), rg_nats]
/-! ### given_low, given_high -/
theorem low_sel (i : Nat) : ∀ cs : List Con, (cs.filter fun c => match c with
    | .within j _ _ => decide (j = i)
    | .ahead _ _ => false).map (fun c => match c with
    | .within _ lo _ => PyData.int lo
    | .ahead _ _ => .none) = natsD (cs.filterMap fun c => match c with
  | .within j lo _ => if j = i then some lo else none
  | .ahead _ _ => none)
  | [] => rfl
  | c :: cs => by
    have ih := low_sel i cs
    rw [List.filter_cons, List.filterMap_cons]
    cases c with
    | within j lo hi =>
      by_cases h : j = i
      · simp only [h, decide_true, if_true, List.map_cons]
        rw [ih]; rfl
      · simp only [h, decide_false, Bool.false_eq_true, if_false]
        exact ih
    | ahead a b =>
      simp only [Bool.false_eq_true, if_false]
      exact ih
theorem high_sel (i : Nat) : ∀ cs : List Con, (cs.filter fun c => match c with
    | .within j _ _ => decide (j = i)
    | .ahead _ _ => false).map (fun c => match c with
    | .within _ _ hi => PyData.int hi
    | .ahead _ _ => .none) = natsD (cs.filterMap fun c => match c with
  | .within j _ hi => if j = i then some hi else none
  | .ahead _ _ => none)
  | [] => rfl
  | c :: cs => by
    have ih := high_sel i cs
    rw [List.filter_cons, List.filterMap_cons]
    cases c with
    | within j lo hi =>
      by_cases h : j = i
      · simp only [h, decide_true, if_true, List.map_cons]
        rw [ih]; rfl
      · simp only [h, decide_false, Bool.false_eq_true, if_false]
        exact ih
    | ahead a b =>
      simp only [Bool.false_eq_true, if_false]
      exact ih
theorem low_sel2 (P : Prob) (i : Nat) : (P.cs.filter fun c => match c with
    | .within j _ _ => decide (j = i)
    | .ahead _ _ => false).map (fun c => match c with
    | .within _ lo _ => PyData.int lo
    | .ahead _ _ => .none) = natsD (lows P i) := low_sel i P.cs
theorem high_sel2 (P : Prob) (i : Nat) : (P.cs.filter fun c => match c with
    | .within j _ _ => decide (j = i)
    | .ahead _ _ => false).map (fun c => match c with
    | .within _ _ hi => PyData.int hi
    | .ahead _ _ => .none) = natsD (highs P i) := high_sel i P.cs
theorem lows_len (P : Prob) (i : Nat) : (lows P i).length ≤ P.cs.length := List.length_filterMap_le _ _
theorem highs_len (P : Prob) (i : Nat) : (highs P i).length ≤ P.cs.length := List.length_filterMap_le _ _
theorem natsD_lenL {l : List Nat} : (natsD l).length = l.length := List.length_map ..
theorem addD_ll {xs ys : List PyData} (h : xs.length + ys.length ≤ 100000) : addD (.list xs) (.list ys) = some (.list (xs ++ ys)) := if_pos h
theorem addD_tt {xs ys : List PyData} (h : xs.length + ys.length ≤ 100000) : addD (.tuple xs) (.tuple ys) = some (.tuple (xs ++ ys)) := if_pos h
theorem lst1 {d : PyData} : ([d] : List PyData).length ≤ 100000 := by show 1 ≤ 100000; decide
theorem allM_nats (l : List Nat) : allM intOfD (natsD l) = some (l.map fun y : Nat => (y : Int)) := allM_in l fun y => (y : Int)
theorem sp_low {k : Nat} (hk : 1 ≤ k) {P : Prob} (ok : P.Ok) (i : Nat) : E k 11 [P.D, .int i] = some (.int (gl P i)) := by
  obtain ⟨k, rfl⟩ : ∃ j, k = j + 1 := ⟨k - 1, by omega⟩
  show (run (E k) WN p_given_low [.dat (.tuple [.int P.n, .tuple (P.cs.map Con.D)]), .dat (.int i), .no, .no]).map outD = _
  unfold p_given_low
  simp! []
  have m := ok.m12
  rw [lc_map P.cs Con.D (fun c => match c with
    | .within j _ _ => decide (j = i)
    | .ahead _ _ => false) (fun c => match c with
    | .within _ lo _ => PyData.int lo
    | .ahead _ _ => .none) (by omega) fun c hc => ⟨_, bind1, by
      cases c with
      | within j lo hi =>
        show evT (E k) _ [.dat (.tuple [.int P.n, .tuple (P.cs.map Con.D)]), .dat (.int i), .no, .dat (.tuple [.str "within", .int j, .int lo, .int hi])] = _
        simp! [eqD_ss ok_within ok_within, ww, eq_nat]
      | ahead a b =>
        show evT (E k) _ [.dat (.tuple [.int P.n, .tuple (P.cs.map Con.D)]), .dat (.int i), .no, .dat (.tuple [.str "ahead", .int a, .int b])] = _
        simp! [eqD_ss ok_ahead ok_within, aw], fun h => by
      cases c with
      | within j lo hi =>
        show ev (E k) _ [.dat (.tuple [.int P.n, .tuple (P.cs.map Con.D)]), .dat (.int i), .no, .dat (.tuple [.str "within", .int j, .int lo, .int hi])] = _
        simp! []
      | ahead a b => cases h⟩, low_sel2]
  show ((run _ _ _ _).map outD) = _
  have hl := lows_len P i
  simp! [if_pos lst1, addD_ll (xs := [.int 1]) (ys := natsD (lows P i)) (by rw [natsD_lenL]; show 1 + (lows P i).length ≤ 100000; omega)]
  have e : allM intOfD ([PyData.int 1] ++ natsD (lows P i)) = some ((1 : Int) :: (lows P i).map fun y : Nat => (y : Int)) := allM_nats (1 :: lows P i)
  simp! [e, show maxD ((1 : Int) :: (lows P i).map fun y : Nat => (y : Int)) = some (.int (maxI ((1 : Nat) : Int) ((lows P i).map fun y : Nat => (y : Int)))) from rfl, maxI_cast]
  rfl
theorem minLD_nats (a : Nat) (l : List Nat) : minLD (natsD (a :: l)) = some (.int (l.foldl min a : Nat)) := by
  unfold minLD
  rw [allM_nats, List.map_cons]
  show some (PyData.int (minI (a : Int) (l.map fun y : Nat => (y : Int)))) = _
  rw [minI_cast]
theorem sp_high {k : Nat} (hk : 1 ≤ k) {P : Prob} (ok : P.Ok) (i : Nat) : E k 12 [P.D, .int i] = some (.int (gh P i)) := by
  obtain ⟨k, rfl⟩ : ∃ j, k = j + 1 := ⟨k - 1, by omega⟩
  show (run (E k) WN p_given_high [.dat (.tuple [.int P.n, .tuple (P.cs.map Con.D)]), .dat (.int i), .no, .no]).map outD = _
  unfold p_given_high
  simp! []
  have m := ok.m12
  rw [lc_map P.cs Con.D (fun c => match c with
    | .within j _ _ => decide (j = i)
    | .ahead _ _ => false) (fun c => match c with
    | .within _ _ hi => PyData.int hi
    | .ahead _ _ => .none) (by omega) fun c hc => ⟨_, bind1, by
      cases c with
      | within j lo hi =>
        show evT (E k) _ [.dat (.tuple [.int P.n, .tuple (P.cs.map Con.D)]), .dat (.int i), .no, .dat (.tuple [.str "within", .int j, .int lo, .int hi])] = _
        simp! [eqD_ss ok_within ok_within, ww, eq_nat]
      | ahead a b =>
        show evT (E k) _ [.dat (.tuple [.int P.n, .tuple (P.cs.map Con.D)]), .dat (.int i), .no, .dat (.tuple [.str "ahead", .int a, .int b])] = _
        simp! [eqD_ss ok_ahead ok_within, aw], fun h => by
      cases c with
      | within j lo hi =>
        show ev (E k) _ [.dat (.tuple [.int P.n, .tuple (P.cs.map Con.D)]), .dat (.int i), .no, .dat (.tuple [.str "within", .int j, .int lo, .int hi])] = _
        simp! []
      | ahead a b => cases h⟩, high_sel2]
  show ((run _ _ _ _).map outD) = _
  have hl := highs_len P i
  simp! [if_pos lst1, addD_ll (xs := [.int P.n]) (ys := natsD (highs P i)) (by rw [natsD_lenL]; show 1 + (highs P i).length ≤ 100000; omega)]
  simp! [show minLD ([PyData.int P.n] ++ natsD (highs P i)) = some (.int ((highs P i).foldl min P.n : Nat)) from minLD_nats P.n (highs P i)]
  rfl
/-! ### before, behind -/
theorem mem_ddI : ∀ (ks acc : List Int) (x : Int), x ∈ ddI acc ks ↔ x ∈ acc ∨ x ∈ ks
  | [], acc, x => by
    show x ∈ acc ↔ _
    simp
  | k :: ks, acc, x => by
    show x ∈ ddI (if k ∈ acc then acc else acc ++ [k]) ks ↔ _
    rw [mem_ddI ks]
    by_cases h : k ∈ acc
    · rw [if_pos h, List.mem_cons]
      constructor
      · rintro (h1 | h1)
        · exact .inl h1
        · exact .inr (.inr h1)
      · rintro (h1 | rfl | h1)
        · exact .inl h1
        · exact .inl h
        · exact .inr h1
    · rw [if_neg h, List.mem_append, List.mem_singleton, List.mem_cons, or_assoc]
theorem nodup_ddI : ∀ (ks acc : List Int), acc.Nodup → (ddI acc ks).Nodup
  | [], acc, h => h
  | k :: ks, acc, h => by
    show (ddI (if k ∈ acc then acc else acc ++ [k]) ks).Nodup
    refine nodup_ddI ks _ ?_
    by_cases c : k ∈ acc
    · rw [if_pos c]; exact h
    · rw [if_neg c]
      refine List.nodup_append.mpr ⟨h, by simp, fun a ha b hb e => ?_⟩
      rw [List.mem_singleton] at hb
      subst hb
      subst e
      exact c ha
theorem r_srt {F : Fs} {N i j : Nat} {it t k : Xp} {ρ : List Sl} : run F N (.srt i j it t k) ρ = if i < ρ.length then (evA F it ρ).bind fun items => (lcD [j] (evT F t) (ev F k) ρ items).bind srtD else none := rfl
theorem srt_nats {l m : List Nat} (hl : l.length < 64) (hm : m.Pairwise (· < ·)) (h : ∀ x, x ∈ m ↔ x ∈ l) : srtD (natsD l) = some (.rt (.list (natsD m))) := by
  unfold srtD
  rw [allM_nats, Option.bind_some, if_pos (by rw [List.length_map]; exact hl)]
  have e : (m.map fun y : Nat => (y : Int)) = sortI (ddI [] (l.map fun y : Nat => (y : Int))) := by
    refine sorted_one ((List.perm_ext_iff_of_nodup ?_ (nodup_ddI _ _ List.nodup_nil)).mpr fun a => ?_) ?_
    · exact List.Pairwise.map _ (fun a b h => by omega) hm
    · rw [mem_ddI]
      constructor
      · intro ha
        obtain ⟨x, hx, rfl⟩ := List.mem_map.mp ha
        exact .inr (List.mem_map.mpr ⟨x, (h x).mp hx, rfl⟩)
      · rintro (ha | ha)
        · cases ha
        · obtain ⟨x, hx, rfl⟩ := List.mem_map.mp ha
          exact List.mem_map.mpr ⟨x, (h x).mpr hx, rfl⟩
    · exact List.Pairwise.map _ (fun a b h => by omega) hm
  rw [← e]
  show some (Out.rt (.list ((m.map fun y : Nat => (y : Int)).map PyData.int))) = _
  rw [List.map_map]
  rfl
def befs (i : Nat) (c : Con) : Option Nat := match c with
  | .within _ _ _ => none
  | .ahead a b => if b = i then some a else none
def behs (i : Nat) (c : Con) : Option Nat := match c with
  | .within _ _ _ => none
  | .ahead a b => if a = i then some b else none
theorem bef_sel (i : Nat) : ∀ cs : List Con, (cs.filter fun c => match c with
    | .within _ _ _ => false
    | .ahead _ b => decide (b = i)).map (fun c => match c with
    | .within _ _ _ => PyData.none
    | .ahead a _ => .int a) = natsD (cs.filterMap (befs i))
  | [] => rfl
  | c :: cs => by
    have ih := bef_sel i cs
    rw [List.filter_cons, List.filterMap_cons]
    cases c with
    | within j lo hi =>
      simp only [befs, Bool.false_eq_true, if_false]
      exact ih
    | ahead a b =>
      by_cases h : b = i
      · simp only [befs, h, decide_true, if_true, List.map_cons]
        rw [ih]; rfl
      · simp only [befs, h, decide_false, Bool.false_eq_true, if_false]
        exact ih
theorem beh_sel (i : Nat) : ∀ cs : List Con, (cs.filter fun c => match c with
    | .within _ _ _ => false
    | .ahead a _ => decide (a = i)).map (fun c => match c with
    | .within _ _ _ => PyData.none
    | .ahead _ b => .int b) = natsD (cs.filterMap (behs i))
  | [] => rfl
  | c :: cs => by
    have ih := beh_sel i cs
    rw [List.filter_cons, List.filterMap_cons]
    cases c with
    | within j lo hi =>
      simp only [behs, Bool.false_eq_true, if_false]
      exact ih
    | ahead a b =>
      by_cases h : a = i
      · simp only [behs, h, decide_true, if_true, List.map_cons]
        rw [ih]; rfl
      · simp only [behs, h, decide_false, Bool.false_eq_true, if_false]
        exact ih
theorem mem_befs {cs : List Con} {i a : Nat} : a ∈ cs.filterMap (befs i) ↔ Con.ahead a i ∈ cs := by
  rw [List.mem_filterMap]
  constructor
  · rintro ⟨c, hc, e⟩
    cases c with
    | within _ _ _ => cases e
    | ahead x y =>
      by_cases h : y = i
      · have e2 : some x = some a := by rw [← e]; unfold befs; simp only [h, if_true]
        cases e2
        subst h
        exact hc
      · have : befs i (.ahead x y) = none := by unfold befs; simp only [h, if_false]
        rw [this] at e; cases e
  · intro h
    exact ⟨_, h, by unfold befs; simp⟩
theorem mem_behs {cs : List Con} {i a : Nat} : a ∈ cs.filterMap (behs i) ↔ Con.ahead i a ∈ cs := by
  rw [List.mem_filterMap]
  constructor
  · rintro ⟨c, hc, e⟩
    cases c with
    | within _ _ _ => cases e
    | ahead x y =>
      by_cases h : x = i
      · have e2 : some y = some a := by rw [← e]; unfold behs; simp only [h, if_true]
        cases e2
        subst h
        exact hc
      · have : behs i (.ahead x y) = none := by unfold behs; simp only [h, if_false]
        rw [this] at e; cases e
  · intro h
    exact ⟨_, h, by unfold behs; simp⟩
theorem asc_filter {n : Nat} {p : Nat → Bool} : ((List.range n).filter p).Pairwise (· < ·) := List.pairwise_lt_range.sublist List.filter_sublist
theorem sp_before {k : Nat} (hk : 1 ≤ k) {P : Prob} (ok : P.Ok) (i : Nat) : E k 13 [P.D, .int i] = some (.list (natsD (before P i))) := by
  obtain ⟨k, rfl⟩ : ∃ j, k = j + 1 := ⟨k - 1, by omega⟩
  show (run (E k) WN p_before [.dat (.tuple [.int P.n, .tuple (P.cs.map Con.D)]), .dat (.int i), .no, .no]).map outD = _
  unfold p_before
  rw [r_srt]
  simp only [List.length_cons, List.length_nil, show 2 < 0 + 1 + 1 + 1 + 1 from by decide, reduceIte]
  simp! []
  have m := ok.m12
  rw [lc_map P.cs Con.D (fun c => match c with
    | .within _ _ _ => false
    | .ahead _ b => decide (b = i)) (fun c => match c with
    | .within _ _ _ => PyData.none
    | .ahead a _ => .int a) (by omega) fun c hc => ⟨_, bind1, by
      cases c with
      | within j lo hi =>
        show evT (E k) _ [.dat (.tuple [.int P.n, .tuple (P.cs.map Con.D)]), .dat (.int i), .no, .dat (.tuple [.str "within", .int j, .int lo, .int hi])] = _
        simp! [eqD_ss ok_within ok_ahead, wa]
      | ahead a b =>
        show evT (E k) _ [.dat (.tuple [.int P.n, .tuple (P.cs.map Con.D)]), .dat (.int i), .no, .dat (.tuple [.str "ahead", .int a, .int b])] = _
        simp! [eqD_ss ok_ahead ok_ahead, aa, eq_nat], fun h => by
      cases c with
      | within j lo hi => cases h
      | ahead a b =>
        show ev (E k) _ [.dat (.tuple [.int P.n, .tuple (P.cs.map Con.D)]), .dat (.int i), .no, .dat (.tuple [.str "ahead", .int a, .int b])] = _
        simp! []⟩, bef_sel]
  rw [Option.bind_some, srt_nats (m := before P i) (by have := List.length_filterMap_le (befs i) P.cs; omega) asc_filter fun x => by
    rw [mem_befs, mem_before]
    exact ⟨fun h => h.2, fun h => ⟨(ahead_lt ok h).1, h⟩⟩]
  rfl
theorem sp_behind {k : Nat} (hk : 1 ≤ k) {P : Prob} (ok : P.Ok) (i : Nat) : E k 14 [P.D, .int i] = some (.list (natsD (behind P i))) := by
  obtain ⟨k, rfl⟩ : ∃ j, k = j + 1 := ⟨k - 1, by omega⟩
  show (run (E k) WN p_behind [.dat (.tuple [.int P.n, .tuple (P.cs.map Con.D)]), .dat (.int i), .no, .no]).map outD = _
  unfold p_behind
  rw [r_srt]
  simp only [List.length_cons, List.length_nil, show 2 < 0 + 1 + 1 + 1 + 1 from by decide, reduceIte]
  simp! []
  have m := ok.m12
  rw [lc_map P.cs Con.D (fun c => match c with
    | .within _ _ _ => false
    | .ahead a _ => decide (a = i)) (fun c => match c with
    | .within _ _ _ => PyData.none
    | .ahead _ b => .int b) (by omega) fun c hc => ⟨_, bind1, by
      cases c with
      | within j lo hi =>
        show evT (E k) _ [.dat (.tuple [.int P.n, .tuple (P.cs.map Con.D)]), .dat (.int i), .no, .dat (.tuple [.str "within", .int j, .int lo, .int hi])] = _
        simp! [eqD_ss ok_within ok_ahead, wa]
      | ahead a b =>
        show evT (E k) _ [.dat (.tuple [.int P.n, .tuple (P.cs.map Con.D)]), .dat (.int i), .no, .dat (.tuple [.str "ahead", .int a, .int b])] = _
        simp! [eqD_ss ok_ahead ok_ahead, aa, eq_nat], fun h => by
      cases c with
      | within j lo hi => cases h
      | ahead a b =>
        show ev (E k) _ [.dat (.tuple [.int P.n, .tuple (P.cs.map Con.D)]), .dat (.int i), .no, .dat (.tuple [.str "ahead", .int a, .int b])] = _
        simp! []⟩, beh_sel]
  rw [Option.bind_some, srt_nats (m := behind P i) (by have := List.length_filterMap_le (behs i) P.cs; omega) asc_filter fun x => by
    rw [mem_behs, mem_behind]
    exact ⟨fun h => h.2, fun h => ⟨(ahead_lt ok h).2, h⟩⟩]
  rfl
end R60

end -- S2
section -- S3
set_option Elab.async false
set_option linter.all false
set_option maxRecDepth 100000
set_option maxHeartbeats 4000000
/-! What the pure defs answer, III: the order, cycles or not, the windows. -/
namespace R60
open PySem L2
open SeqAt (shaped)
section
variable {tg : List Nat} {t : List Sl → Option Bool} {e : List Sl → Option PyData} {ρ : List Sl} {α : Type}
theorem lc_nats (l : List Nat) (c : Nat → Bool) (f : Nat → PyData) (hz : l.length ≤ 50000) (h : ∀ a ∈ l, ∃ ρ', bindT tg (wipeS ρ tg) (.int a) = some ρ' ∧ t ρ' = some (c a) ∧ (c a = true → e ρ' = some (f a))) : lcD tg t e ρ (natsD l) = some ((l.filter c).map f) := lc_map l (fun x : Nat => PyData.int x) c f hz h
theorem lc_natsN (l : List Nat) (c : Nat → Bool) (hz : l.length ≤ 50000) (h : ∀ a ∈ l, ∃ ρ', bindT tg (wipeS ρ tg) (.int a) = some ρ' ∧ t ρ' = some (c a) ∧ (c a = true → e ρ' = some (.int a))) : lcD tg t e ρ (natsD l) = some (natsD (l.filter c)) := lc_nats l c _ hz h
theorem lc_natsA (l : List Nat) (f : Nat → PyData) (hz : l.length ≤ 50000) (h : ∀ a ∈ l, ∃ ρ', bindT tg (wipeS ρ tg) (.int a) = some ρ' ∧ t ρ' = some true ∧ e ρ' = some (f a)) : lcD tg t e ρ (natsD l) = some (l.map f) := lc_all l (fun x : Nat => PyData.int x) f hz h
end
theorem h_frx {s : Sl} {r : List Sl} : frz (s :: r) = frzS s :: frz r := rfl
theorem before_len (P : Prob) (i : Nat) : (before P i).length ≤ P.n := by
  have := List.length_filter_le (fun a => decide (Con.ahead a i ∈ P.cs)) (List.range P.n)
  rw [List.length_range] at this
  exact this
theorem behind_len (P : Prob) (i : Nat) : (behind P i).length ≤ P.n := by
  have := List.length_filter_le (fun b => decide (Con.ahead i b ∈ P.cs)) (List.range P.n)
  rw [List.length_range] at this
  exact this
theorem natsD_empty (l : List Nat) : (natsD l).isEmpty = l.isEmpty := by cases l <;> rfl
theorem natsD_app (l m : List Nat) : natsD l ++ natsD m = natsD (l ++ m) := (List.map_append ..).symm
theorem len_split (p : Nat → Bool) : ∀ l : List Nat, (l.filter p).length + (l.filter fun i => !p i).length = l.length
  | [] => rfl
  | a :: l => by
    have ih := len_split p l
    rw [List.filter_cons, List.filter_cons]
    cases p a
    · simp; omega
    · simp; omega
/-! ### ordered -/
abbrev ordB : St := (.cons (.set 3 (.lc false [4] (.itS (.var 2)) (.not (.any (.lc false [5] (.itS (.call 13 (.cons (.var 0) (.cons (.var 4) .nil)))) (.bl true) (.mem (.var 5) (.var 2))))) (.var 4))) (.cons (.ite (.not (.var 3)) (.cons (.ret (.var 1)) .nil) .nil) (.cons (.ext 1 (.var 3)) (.cons (.set 2 (.lc false [4] (.itS (.var 2)) (.nmem (.var 4) (.var 3)) (.var 4))) .nil))))
theorem ord_body {k : Nat} (hk : 1 ≤ k) {P : Prob} (ok : P.Ok) {left found : List Nat} {s3 : Sl} (hl : found.length + left.length ≤ 7) :
    run (E k) WN ordB [.dat P.D, .mut (natsD found), .dat (.list (natsD left)), s3, .no, .no] = some (if freeOf P left = [] then .rt (.list (natsD found)) else .nx [.dat P.D, .mut (natsD (found ++ freeOf P left)), .dat (.list (natsD (left.filter fun i => !decide (i ∈ freeOf P left)))), .dat (.list (natsD (freeOf P left))), .no, .no]) := by
  have fl : (freeOf P left).length ≤ left.length := List.length_filter_le _ _
  unfold ordB
  simp! []
  rw [lc_natsN left (fun i => !((before P i).any fun o => decide (o ∈ left))) (by omega) fun a ha => ⟨_, bind1, by
    show evT (E k) _ [.dat P.D, .mut (natsD found), .dat (.list (natsD left)), s3, .dat (.int a), .no] = _
    simp! [sp_before (k := k) hk ok a]
    rw [lc_natsA (before P a) (fun o => .bool (decide (o ∈ left))) (by have := before_len P a; have := ok.n7; omega) fun o ho => ⟨_, bind1, t_yes, by
      show ev (E k) _ [.dat P.D, .mut (natsD found), .dat (.list (natsD left)), s3, .dat (.int a), .dat (.int o)] = _
      simp! [mem_natL]⟩]
    simp! [allM_blf, any_map_id], fun _ => rfl⟩]
  rw [show (left.filter fun i => !((before P i).any fun o => decide (o ∈ left))) = freeOf P left from rfl]
  simp! [natsD_empty]
  by_cases h : freeOf P left = []
  · rw [if_pos h, h]
    simp! [List.isEmpty_nil, h_frx, h_fsm]
  · have h2 : (freeOf P left).isEmpty = false := by simpa using h
    rw [if_neg h]
    simp! [h2, natsD_lenL]
    rw [if_pos (by omega)]
    simp! []
    rw [lc_natsN left (fun i => !decide (i ∈ freeOf P left)) (by omega) fun a ha => ⟨_, bind1, by
      show evT (E k) _ [.dat P.D, .mut (natsD found ++ natsD (freeOf P left)), .dat (.list (natsD left)), .dat (.list (natsD (freeOf P left))), .dat (.int a), .no] = _
      simp! [mem_natL], fun _ => rfl⟩]
    simp! [natsD_app]
theorem ord_loop {k : Nat} (hk : 1 ≤ k) {P : Prob} (ok : P.Ok) : ∀ (f N : Nat) (left found : List Nat) (s3 : Sl), left.length < f → f ≤ N → found.length + left.length ≤ 7 →
    ∃ o, whileGo (evT (E k) (.var 2)) (run (E k) WN ordB) N [.dat P.D, .mut (natsD found), .dat (.list (natsD left)), s3, .no, .no] = some o ∧ (o = .rt (.list (natsD (ordGo P f left found))) ∨ ∃ a b, o = .nx [.dat P.D, .mut (natsD (ordGo P f left found)), a, b, .no, .no])
  | 0, N, left, found, s3, h, _, _ => by omega
  | f + 1, N, left, found, s3, h, hN, hl => by
    obtain ⟨N, rfl⟩ : ∃ j, N = j + 1 := ⟨N - 1, by omega⟩
    have e : whileGo (evT (E k) (.var 2)) (run (E k) WN ordB) (N + 1) [.dat P.D, .mut (natsD found), .dat (.list (natsD left)), s3, .no, .no] = (evT (E k) (.var 2) [.dat P.D, .mut (natsD found), .dat (.list (natsD left)), s3, .no, .no]).bind fun b => if b then (run (E k) WN ordB [.dat P.D, .mut (natsD found), .dat (.list (natsD left)), s3, .no, .no]).bind fun o => o.andThen (whileGo (evT (E k) (.var 2)) (run (E k) WN ordB) N) else some (.nx [.dat P.D, .mut (natsD found), .dat (.list (natsD left)), s3, .no, .no]) := rfl
    rw [e, show evT (E k) (.var 2) [.dat P.D, .mut (natsD found), .dat (.list (natsD left)), s3, .no, .no] = some (!left.isEmpty) by simp! [natsD_empty], Option.bind_some, ord_body hk ok hl]
    show ∃ o : Out, _ ∧ (o = .rt (.list (natsD (if left = [] then found else if freeOf P left = [] then found else ordGo P f (left.filter fun i => !decide (i ∈ freeOf P left)) (found ++ freeOf P left)))) ∨ ∃ a b, o = .nx [.dat P.D, .mut (natsD (if left = [] then found else if freeOf P left = [] then found else ordGo P f (left.filter fun i => !decide (i ∈ freeOf P left)) (found ++ freeOf P left))), a, b, .no, .no])
    by_cases h1 : left = []
    · subst h1
      rw [if_pos rfl]
      exact ⟨_, rfl, .inr ⟨_, _, rfl⟩⟩
    · have h2 : left.isEmpty = false := by simpa using h1
      rw [if_neg h1, h2, Bool.not_false, if_pos (rfl : true = true), Option.bind_some]
      by_cases h3 : freeOf P left = []
      · rw [if_pos h3, if_pos h3]
        exact ⟨_, rfl, .inl rfl⟩
      · rw [if_neg h3, if_neg h3]
        have hlt := left_less h3
        have fl : (freeOf P left).length + (left.filter fun i => !decide (i ∈ freeOf P left)).length ≤ left.length := by
          have e1 := len_split (fun i => decide (i ∈ freeOf P left)) left
          have e2 : left.filter (fun i => decide (i ∈ freeOf P left)) = freeOf P left := by
            show _ = left.filter _
            apply List.filter_congr
            intro x hx
            have m : x ∈ freeOf P left ↔ (!((before P x).any fun o => decide (o ∈ left))) = true := by
              unfold freeOf
              rw [List.mem_filter]
              exact ⟨fun h => h.2, fun h => ⟨hx, h⟩⟩
            by_cases c : x ∈ freeOf P left
            · rw [decide_eq_true c, m.mp c]
            · rw [decide_eq_false c]
              have := fun z => c (m.mpr z)
              exact (Bool.not_eq_true _ ▸ this : _ = false).symm
          rw [e2] at e1
          omega
        exact ord_loop hk ok f N _ _ _ (by omega) (by omega) (by rw [List.length_append]; omega)
theorem sp_ordered {k : Nat} (hk : 2 ≤ k) {P : Prob} (ok : P.Ok) : E k 15 [P.D] = some (.list (natsD (ordered P))) := by
  obtain ⟨k, rfl⟩ : ∃ j, k = j + 1 := ⟨k - 1, by omega⟩
  have n7 := ok.n7
  show (run (E k) WN p_ordered [.dat (.tuple [.int P.n, .tuple (P.cs.map Con.D)]), .no, .no, .no, .no, .no]).map outD = _
  unfold p_ordered
  simp! [List.length_nil, Nat.zero_le, rg1_nat (n := P.n) (by omega)]
  obtain ⟨o, h1, h2⟩ := ord_loop (k := k) (by omega) ok (P.n + 1) WN (List.range P.n) [] .no (by rw [List.length_range]; omega) (by unfold WN; omega) (by rw [List.length_range]; simpa using n7)
  have h3 : run (E k) WN (.while_ (.var 2) ordB) [.dat (.tuple [.int P.n, .tuple (P.cs.map Con.D)]), .mut [], .dat (.list (natsD (List.range P.n))), .no, .no, .no] = some o := h1
  unfold ordB at h3
  rw [h3]
  unfold ordered
  rcases h2 with rfl | ⟨a, b, rfl⟩
  · rfl
  · simp! [h_frx]
    rfl
theorem sp_cyclic {k : Nat} (hk : 3 ≤ k) {P : Prob} (ok : P.Ok) : E k 16 [P.D] = some (.bool (cyc P)) := by
  obtain ⟨k, rfl⟩ : ∃ j, k = j + 1 := ⟨k - 1, by omega⟩
  show (run (E k) WN p_is_cyclic [.dat (.tuple [.int P.n, .tuple (P.cs.map Con.D)])]).map outD = _
  unfold p_is_cyclic
  have := sp_ordered (k := k) (by omega) ok
  simp! [show E k 15 [.tuple [.int P.n, .tuple (P.cs.map Con.D)]] = _ from this, natsD_lenL, lt_nat]
  rfl
/-! ### the windows -/
abbrev intsD (A : List Int) : List PyData := A.map PyData.int
theorem atI_int {A : List Int} {i : Nat} (h : i < A.length) : atI (intsD A) (i : Int) = some (.int (A.getD i 0)) := by
  refine atI_nat ?_
  rw [List.getElem?_map, List.getD_eq_getElem?_getD, List.getElem?_eq_getElem h]
  rfl
theorem ints_set (A : List Int) (i : Nat) (v : Int) : (intsD A).set i (.int v) = intsD (A.set i v) := (List.map_set ..).symm
theorem ints_len {A : List Int} : (intsD A).length = A.length := List.length_map ..
theorem allM_is (A : List Int) : allM intOfD (intsD A) = some A := allM_eq
theorem minLD_ints (a : Int) (l : List Int) : minLD (intsD (a :: l)) = some (.int (minI a l)) := by
  unfold minLD
  rw [allM_is]
theorem maxD_c {a : Int} {l : List Int} : maxD (a :: l) = some (.int (maxI a l)) := rfl
theorem forGo_cons {bind : PyData → List Sl → Option (List Sl)} {body : List Sl → Option Out} {d : PyData} {ds : List PyData} {ρ : List Sl} : forGo bind body (d :: ds) ρ = (bind d ρ).bind fun ρ1 => (body ρ1).bind fun o => o.andThen (forGo bind body ds) := rfl
theorem ordered_lt {P : Prob} {x : Nat} (h : x ∈ ordered P) : x < P.n := by
  obtain ⟨left, t, _⟩ := ordered_end P
  exact t.lf x h
abbrev eBody : St := (.cons (.sti 1 (.var 2) (.mx (.add (.lst (.cons (.ixM 1 (.var 2)) .nil)) (.lc false [3] (.itS (.call 13 (.cons (.var 0) (.cons (.var 2) .nil)))) (.bl true) (.add (.ixM 1 (.var 3)) (.int 1)))))) .nil)
abbrev lBody : St := (.cons (.sti 1 (.var 2) (.mn (.add (.lst (.cons (.ixM 1 (.var 2)) .nil)) (.lc false [3] (.itS (.call 14 (.cons (.var 0) (.cons (.var 2) .nil)))) (.bl true) (.sub (.ixM 1 (.var 3)) (.int 1)))))) .nil)
theorem e_body {k : Nat} (hk : 1 ≤ k) {P : Prob} (ok : P.Ok) {A : List Int} {i : Nat} (hA : A.length = P.n) (hi : i < P.n) :
    run (E k) WN eBody [.dat P.D, .mut (intsD A), .dat (.int i), .no] = some (.nx [.dat P.D, .mut (intsD (tStep (before P) eF A i)), .dat (.int i), .no]) := by
  have n7 := ok.n7
  have bl := before_len P i
  unfold eBody
  simp! [atI_int (A := A) (i := i) (by omega), if_pos lst1, sp_before (k := k) hk ok i]
  rw [lc_natsA (before P i) (fun o => .int (A.getD o 0 + 1)) (by omega) fun o ho => ⟨_, bind1, t_yes, by
    show ev (E k) _ [.dat P.D, .mut (intsD A), .dat (.int i), .dat (.int o)] = _
    simp! [atI_int (A := A) (i := o) (by have := (mem_before.mp ho).1; omega)]⟩]
  rw [show ((before P i).map fun o => PyData.int (A.getD o 0 + 1)) = intsD (((before P i).map fun o => A.getD o 0).map (· + 1)) by simp [intsD]]
  simp! [addD_ll (xs := [.int (A.getD i 0)]) (ys := intsD (((before P i).map fun o => A.getD o 0).map (· + 1))) (by rw [ints_len, List.length_map, List.length_map]; show 1 + (before P i).length ≤ 100000; omega), show allM intOfD ([.int (A.getD i 0)] ++ intsD (((before P i).map fun o => A.getD o 0).map (· + 1))) = _ from allM_is (A.getD i 0 :: ((before P i).map fun o => A.getD o 0).map (· + 1)), maxD_c, ints_len, Evl.ixN_nat (show i < A.length by omega), ints_set]
  rfl
theorem l_body {k : Nat} (hk : 1 ≤ k) {P : Prob} (ok : P.Ok) {A : List Int} {i : Nat} (hA : A.length = P.n) (hi : i < P.n) :
    run (E k) WN lBody [.dat P.D, .mut (intsD A), .dat (.int i), .no] = some (.nx [.dat P.D, .mut (intsD (tStep (behind P) lF A i)), .dat (.int i), .no]) := by
  have n7 := ok.n7
  have bl := behind_len P i
  unfold lBody
  simp! [atI_int (A := A) (i := i) (by omega), if_pos lst1, sp_behind (k := k) hk ok i]
  rw [lc_natsA (behind P i) (fun o => .int (A.getD o 0 - 1)) (by omega) fun o ho => ⟨_, bind1, t_yes, by
    show ev (E k) _ [.dat P.D, .mut (intsD A), .dat (.int i), .dat (.int o)] = _
    simp! [atI_int (A := A) (i := o) (by have := (mem_behind.mp ho).1; omega)]⟩]
  rw [show ((behind P i).map fun o => PyData.int (A.getD o 0 - 1)) = intsD (((behind P i).map fun o => A.getD o 0).map (· - 1)) by simp [intsD]]
  simp! [addD_ll (xs := [.int (A.getD i 0)]) (ys := intsD (((behind P i).map fun o => A.getD o 0).map (· - 1))) (by rw [ints_len, List.length_map, List.length_map]; show 1 + (behind P i).length ≤ 100000; omega), show minLD ([.int (A.getD i 0)] ++ intsD (((behind P i).map fun o => A.getD o 0).map (· - 1))) = _ from minLD_ints (A.getD i 0) (((behind P i).map fun o => A.getD o 0).map (· - 1)), ints_len, Evl.ixN_nat (show i < A.length by omega), ints_set]
  rfl
theorem tab_loop {F : Fs} {P : Prob} {body : St} {dep : Nat → List Nat} {G : Nat → Int → List Int → Int}
    (hb : ∀ (A : List Int) (i : Nat), A.length = P.n → i < P.n → run F WN body [.dat P.D, .mut (intsD A), .dat (.int i), .no] = some (.nx [.dat P.D, .mut (intsD (tStep dep G A i)), .dat (.int i), .no])) :
    ∀ (ord : List Nat) (A : List Int) (s2 : Sl), A.length = P.n → (∀ x ∈ ord, x < P.n) → ∃ s2', forGo (fun d ρ => bindT [2] ρ d) (run F WN body) (natsD ord) [.dat P.D, .mut (intsD A), s2, .no] = some (.nx [.dat P.D, .mut (intsD (ord.foldl (tStep dep G) A)), s2', .no])
  | [], A, s2, _, _ => ⟨s2, rfl⟩
  | i :: ord, A, s2, hA, h => by
    obtain ⟨s2', ih⟩ := tab_loop hb ord (tStep dep G A i) (.dat (.int i)) (by unfold tStep; rw [List.length_set, hA]) fun x hx => h x (List.mem_cons_of_mem _ hx)
    refine ⟨s2', ?_⟩
    show forGo _ _ (.int (i : Int) :: natsD ord) _ = _
    rw [forGo_cons, bind1, Option.bind_some]
    show (run F WN body [.dat P.D, .mut (intsD A), .dat (.int i), .no]).bind _ = _
    rw [hb A i hA (h i List.mem_cons_self), Option.bind_some, o_nx, ih]
    rfl
theorem sp_earliest {k : Nat} (hk : 3 ≤ k) {P : Prob} (ok : P.Ok) : E k 17 [P.D] = some (.list (intsD (early P))) := by
  obtain ⟨k, rfl⟩ : ∃ j, k = j + 1 := ⟨k - 1, by omega⟩
  have n7 := ok.n7
  show (run (E k) WN p_earliest_of [.dat (.tuple [.int P.n, .tuple (P.cs.map Con.D)]), .no, .no, .no]).map outD = _
  unfold p_earliest_of
  simp! [itR_nat (n := P.n) (by omega)]
  rw [lc_natsA (List.range P.n) (fun i => .int (gl P i)) (by rw [List.length_range]; omega) fun i _ => ⟨_, bind1, t_yes, by
    show ev (E k) _ [.dat P.D, .no, .dat (.int i), .no] = _
    simp! [sp_low (k := k) (by omega) ok i]⟩]
  simp! [show E k 15 [.tuple [.int P.n, .tuple (P.cs.map Con.D)]] = _ from sp_ordered (k := k) (by omega) ok]
  obtain ⟨s2, h⟩ := tab_loop (F := E k) (body := eBody) (fun A i h1 h2 => e_body (k := k) (by omega) ok h1 h2) (ordered P) (early0 P) .no (by simp [early0]) fun x hx => ordered_lt hx
  rw [show ((List.range P.n).map fun i => PyData.int (gl P i)) = intsD (early0 P) by simp [intsD, early0]]
  unfold eBody at h
  rw [show forGo _ _ _ [.dat (.tuple [.int P.n, .tuple (P.cs.map Con.D)]), .mut (intsD (early0 P)), .no, .no] = _ from h]
  simp! [h_frx]
  rfl
theorem natsD_rev (l : List Nat) : (natsD l).reverse = natsD l.reverse := (List.map_reverse ..).symm
theorem sp_latest {k : Nat} (hk : 3 ≤ k) {P : Prob} (ok : P.Ok) : E k 18 [P.D] = some (.list (intsD (late P))) := by
  obtain ⟨k, rfl⟩ : ∃ j, k = j + 1 := ⟨k - 1, by omega⟩
  have n7 := ok.n7
  show (run (E k) WN p_latest_of [.dat (.tuple [.int P.n, .tuple (P.cs.map Con.D)]), .no, .no, .no]).map outD = _
  unfold p_latest_of
  simp! [itR_nat (n := P.n) (by omega)]
  rw [lc_natsA (List.range P.n) (fun i => .int (gh P i)) (by rw [List.length_range]; omega) fun i _ => ⟨_, bind1, t_yes, by
    show ev (E k) _ [.dat P.D, .no, .dat (.int i), .no] = _
    simp! [sp_high (k := k) (by omega) ok i]⟩]
  simp! [show E k 15 [.tuple [.int P.n, .tuple (P.cs.map Con.D)]] = _ from sp_ordered (k := k) (by omega) ok, natsD_rev]
  obtain ⟨s2, h⟩ := tab_loop (F := E k) (body := lBody) (fun A i h1 h2 => l_body (k := k) (by omega) ok h1 h2) (ordered P).reverse (late0 P) .no (by simp [late0]) fun x hx => ordered_lt (List.mem_reverse.mp hx)
  rw [show ((List.range P.n).map fun i => PyData.int (gh P i)) = intsD (late0 P) by simp [intsD, late0]]
  unfold lBody at h
  rw [show forGo _ _ _ [.dat (.tuple [.int P.n, .tuple (P.cs.map Con.D)]), .mut (intsD (late0 P)), .no, .no] = _ from h]
  simp! [h_frx]
  rfl
end R60

end -- S3
section -- S4
set_option Elab.async false
set_option linter.all false
set_option maxRecDepth 100000
set_option maxHeartbeats 4000000
/-! What the pure defs answer, IV: chains. -/
namespace R60
open PySem L2
open SeqAt (shaped)
theorem atI_last {ds : List PyData} (h : ds ≠ []) : atI ds (-1) = some (ds.getLastD .none) := by
  have hl : 0 < ds.length := List.length_pos_iff.mpr h
  unfold atI ixN
  rw [if_neg (by omega), if_pos (by omega)]
  show ds[_]? = _
  rw [List.getLastD_eq_getLast?, List.getLast?_eq_getElem?]
  have e : (-1 + (ds.length : Int)).toNat = ds.length - 1 := by omega
  rw [e, List.getElem?_eq_getElem (by omega)]
  rfl
theorem atI_lastN {c : List Nat} (h : c ≠ []) : atI (natsD c) (-1) = some (.int (c.getLastD 0 : Nat)) := by
  rw [atI_last (by cases c with
    | nil => exact absurd rfl h
    | cons => simp [natsD]), natsD_lastD h]
theorem while_1 {t : List Sl → Option Bool} {body : List Sl → Option Out} {n : Nat} {ρ : List Sl} : whileGo t body (n + 1) ρ = (t ρ).bind fun b => if b then (body ρ).bind fun o => o.andThen (whileGo t body n) else some (.nx ρ) := rfl
theorem eq_int (i j : Int) : decide (i = j) = decide (i = j) := rfl
/-! ### lower chains -/
abbrev loT : Xp := (.ne (.call 11 (.cons (.var 0) (.cons (.ix (.var 3) (.int 0)) .nil))) (.ix (.var 2) (.ix (.var 3) (.int 0))))
abbrev loB : St := (.cons (.set 4 (.lc false [5] (.itS (.call 13 (.cons (.var 0) (.cons (.ix (.var 3) (.int 0)) .nil)))) (.eq (.add (.ix (.var 2) (.var 5)) (.int 1)) (.ix (.var 2) (.ix (.var 3) (.int 0)))) (.var 5))) (.cons (.set 3 (.add (.tup (.cons (.ix (.var 4) (.int 0)) .nil)) (.var 3))) .nil))
abbrev loS (P : Prob) (i : Nat) (c : List Nat) (s4 : Sl) : List Sl := [.dat P.D, .dat (.int i), .dat (.list (intsD (early P))), .dat (tupN c), s4, .no]
theorem lo_test {k : Nat} (hk : 1 ≤ k) {P : Prob} (ok : P.Ok) {i x : Nat} {c : List Nat} {s4 : Sl} (hx : x < P.n) : evT (E k) loT (loS P i (x :: c) s4) = some (!decide ((gl P x : Int) = Et P x)) := by
  show evT (E k) loT [.dat P.D, .dat (.int i), .dat (.list (intsD (early P))), .dat (.tuple (.int x :: natsD c)), s4, .no] = _
  simp! [sp_low (k := k) hk ok x, atI_int (A := early P) (i := x) (by rw [early_len]; exact hx)]
theorem lo_body {k : Nat} (hk : 1 ≤ k) {P : Prob} (ok : P.Ok) {i x o : Nat} {c rest : List Nat} {s4 : Sl} (hx : x < P.n) (hc : c.length ≤ 100)
    (hf : (before P x).filter (fun o => decide (Et P o + 1 = Et P x)) = o :: rest) : run (E k) WN loB (loS P i (x :: c) s4) = some (.nx (loS P i (o :: x :: c) (.dat (.list (natsD (o :: rest)))))) := by
  have n7 := ok.n7
  have bl := before_len P x
  show run (E k) WN loB [.dat P.D, .dat (.int i), .dat (.list (intsD (early P))), .dat (.tuple (.int x :: natsD c)), s4, .no] = _
  unfold loB
  simp! [sp_before (k := k) hk ok x]
  rw [lc_natsN (before P x) (fun o => decide (Et P o + 1 = Et P x)) (by omega) fun a ha => ⟨_, bind1, by
    show evT (E k) _ [.dat P.D, .dat (.int i), .dat (.list (intsD (early P))), .dat (.tuple (.int x :: natsD c)), s4, .dat (.int a)] = _
    simp! [atI_int (A := early P) (i := a) (by rw [early_len]; exact (mem_before.mp ha).1), atI_int (A := early P) (i := x) (by rw [early_len]; exact hx)], fun _ => rfl⟩, hf]
  show ((some (PyData.list (.int o :: natsD rest))).map _).bind _ = _
  simp! [if_pos lst1, addD_tt (xs := [.int o]) (ys := .int x :: natsD c) (by simp [natsD]; omega)]
  rfl
structure LoI (P : Prob) (i : Nat) (c : List Nat) : Prop where
  pa : path P c
  lt : ∀ x ∈ c, x < P.n
  la : c.getLastD 0 = i
  su : Et P (c.headD 0) + c.length - 1 = Et P i
  nd : c.Nodup
  le : ∀ x ∈ c, Et P (c.headD 0) ≤ Et P x
theorem lo_loop {k : Nat} (hk : 1 ≤ k) {P : Prob} (ok : P.Ok) (hc : cyc P = false) {i : Nat} : ∀ (f N x : Nat) (c : List Nat) (s4 : Sl), LoI P i (x :: c) → P.n < (x :: c).length + f → f ≤ N →
    ∃ c' s4', whileGo (evT (E k) loT) (run (E k) WN loB) N (loS P i (x :: c) s4) = some (.nx (loS P i c' s4')) ∧ LowCh P i c' ∧ c'.length ≤ 7
  | 0, N, x, c, s4, I, h, _ => by
    have := nodup_bound I.nd I.lt
    omega
  | f + 1, N, x, c, s4, I, h, hN => by
    obtain ⟨N, rfl⟩ : ∃ j, N = j + 1 := ⟨N - 1, by omega⟩
    have hx := I.lt x List.mem_cons_self
    have hlen := nodup_bound I.nd I.lt
    have n7 := ok.n7
    rw [while_1, lo_test hk ok hx, Option.bind_some]
    by_cases e : (gl P x : Int) = Et P x
    · rw [decide_eq_true e]
      refine ⟨x :: c, s4, rfl, ⟨I.pa, I.lt, by simp, I.la, ?_⟩, by omega⟩
      have := I.su
      show (gl P x : Int) + _ - 1 = _
      rw [e]
      exact this
    · rw [decide_eq_false e]
      have h2 := early_eq hc hx
      have h3 := maxI_mem ((before P x).map fun o => Et P o + 1) (gl P x)
      rw [← h2] at h3
      rcases h3 with h3 | h3
      · exact absurd h3.symm e
      obtain ⟨o0, ho0, he0⟩ := List.mem_map.mp h3
      cases hf : (before P x).filter (fun o => decide (Et P o + 1 = Et P x)) with
      | nil =>
        exfalso
        have := List.filter_eq_nil_iff.mp hf o0 ho0
        exact this (decide_eq_true he0)
      | cons o rest =>
        have ho : o ∈ (before P x).filter (fun o => decide (Et P o + 1 = Et P x)) := by rw [hf]; exact List.mem_cons_self
        rw [List.mem_filter, decide_eq_true_eq, mem_before] at ho
        obtain ⟨⟨ho1, ho2⟩, ho3⟩ := ho
        show ∃ c' s4', ((run (E k) WN loB (loS P i (x :: c) s4)).bind fun o => o.andThen (whileGo (evT (E k) loT) (run (E k) WN loB) N)) = _ ∧ _
        rw [lo_body hk ok hx (by simp at hlen; omega) hf, Option.bind_some, o_nx]
        refine lo_loop hk ok hc f N o (x :: c) _ ⟨path_cons.mpr ⟨ho2, I.pa⟩, fun y hy => ?_, ?_, ?_, ?_, fun y hy => ?_⟩ (by simp at h ⊢; omega) (by omega)
        · rcases List.mem_cons.mp hy with rfl | hy
          · exact ho1
          · exact I.lt y hy
        · have := I.la
          simpa using this
        · have := I.su
          simp only [List.headD_cons, List.length_cons] at this ⊢
          omega
        · refine List.nodup_cons.mpr ⟨fun hm => ?_, I.nd⟩
          have := I.le o hm
          simp only [List.headD_cons] at this
          omega
        · simp only [List.headD_cons]
          rcases List.mem_cons.mp hy with rfl | hy
          · omega
          · have := I.le y hy
            simp only [List.headD_cons] at this
            omega
theorem sp_lower {k : Nat} (hk : 4 ≤ k) {P : Prob} (ok : P.Ok) (hc : cyc P = false) {i : Nat} (hi : i < P.n) : ∃ c, E k 19 [P.D, .int i] = some (tupN c) ∧ LowCh P i c ∧ c.length ≤ 7 := by
  obtain ⟨k, rfl⟩ : ∃ j, k = j + 1 := ⟨k - 1, by omega⟩
  have n7 := ok.n7
  obtain ⟨c, s4, h, I, h7⟩ := lo_loop (k := k) (by omega) ok hc (i := i) (P.n + 1) WN i [] .no ⟨trivial, fun x hx => by
    have : x = i := by simpa using hx
    rw [this]; exact hi, rfl, by simp, by simp, fun x hx => by
    have : x = i := by simpa using hx
    rw [this]; simp⟩ (by simp; omega) (by unfold WN; omega)
  refine ⟨c, ?_, I, h7⟩
  show (run (E k) WN p_lower_chain [.dat P.D, .dat (.int i), .no, .no, .no, .no]).map outD = _
  unfold p_lower_chain
  simp! [sp_earliest (k := k) (by omega) ok, if_pos lst1]
  have h3 : run (E k) WN (.while_ loT loB) [.dat P.D, .dat (.int i), .dat (.list (intsD (early P))), .dat (.tuple [.int i]), .no, .no] = some (.nx (loS P i c s4)) := h
  unfold loT loB at h3
  rw [h3]
  unfold loS
  simp! [h_frx]
  rfl
/-! ### upper chains -/
abbrev upT : Xp := (.ne (.call 12 (.cons (.var 0) (.cons (.ix (.var 3) (.neg (.int 1))) .nil))) (.ix (.var 2) (.ix (.var 3) (.neg (.int 1)))))
abbrev upB : St := (.cons (.set 4 (.lc false [5] (.itS (.call 14 (.cons (.var 0) (.cons (.ix (.var 3) (.neg (.int 1))) .nil)))) (.eq (.sub (.ix (.var 2) (.var 5)) (.int 1)) (.ix (.var 2) (.ix (.var 3) (.neg (.int 1))))) (.var 5))) (.cons (.set 3 (.add (.var 3) (.tup (.cons (.ix (.var 4) (.int 0)) .nil)))) .nil))
abbrev upS (P : Prob) (i : Nat) (c : List Nat) (s4 : Sl) : List Sl := [.dat P.D, .dat (.int i), .dat (.list (intsD (late P))), .dat (tupN c), s4, .no]
theorem last_at (c : List Nat) (x : Nat) : atI (natsD (c ++ [x])) (-1) = some (.int (x : Nat)) := by
  rw [atI_lastN (by simp), List.getLastD_concat]
theorem up_test {k : Nat} (hk : 1 ≤ k) {P : Prob} (ok : P.Ok) {i x : Nat} {c : List Nat} {s4 : Sl} (hx : x < P.n) : evT (E k) upT (upS P i (c ++ [x]) s4) = some (!decide ((gh P x : Int) = Lt P x)) := by
  simp! [last_at, sp_high (k := k) hk ok x, atI_int (A := late P) (i := x) (by rw [late_len]; exact hx)]
theorem up_body {k : Nat} (hk : 1 ≤ k) {P : Prob} (ok : P.Ok) {i x o : Nat} {c rest : List Nat} {s4 : Sl} (hx : x < P.n) (hc : c.length ≤ 100)
    (hf : (behind P x).filter (fun o => decide (Lt P o - 1 = Lt P x)) = o :: rest) : run (E k) WN upB (upS P i (c ++ [x]) s4) = some (.nx (upS P i ((c ++ [x]) ++ [o]) (.dat (.list (natsD (o :: rest)))))) := by
  have n7 := ok.n7
  have bl := behind_len P x
  unfold upB
  simp! [last_at, sp_behind (k := k) hk ok x]
  rw [lc_natsN (behind P x) (fun o => decide (Lt P o - 1 = Lt P x)) (by omega) fun a ha => ⟨_, bind1, by
    show evT (E k) _ [.dat P.D, .dat (.int i), .dat (.list (intsD (late P))), .dat (tupN (c ++ [x])), s4, .dat (.int a)] = _
    simp! [last_at, atI_int (A := late P) (i := a) (by rw [late_len]; exact (mem_behind.mp ha).1), atI_int (A := late P) (i := x) (by rw [late_len]; exact hx)], fun _ => rfl⟩, hf]
  show ((some (PyData.list (.int o :: natsD rest))).map _).bind _ = _
  simp! [if_pos lst1, addD_tt (xs := natsD (c ++ [x])) (ys := [.int o]) (by rw [natsD_lenL]; simp; omega), show natsD (c ++ [x]) ++ [.int o] = natsD ((c ++ [x]) ++ [o]) from natsD_app _ [o]]
  rfl
structure UpI (P : Prob) (i : Nat) (c : List Nat) : Prop where
  pa : path P c
  lt : ∀ x ∈ c, x < P.n
  hd : c.headD 0 = i
  su : Lt P (c.getLastD 0) - c.length + 1 = Lt P i
  nd : c.Nodup
  le : ∀ x ∈ c, Lt P x ≤ Lt P (c.getLastD 0)
theorem up_loop {k : Nat} (hk : 1 ≤ k) {P : Prob} (ok : P.Ok) (hc : cyc P = false) {i : Nat} : ∀ (f N x : Nat) (c : List Nat) (s4 : Sl), UpI P i (c ++ [x]) → P.n < (c ++ [x]).length + f → f ≤ N →
    ∃ c' s4', whileGo (evT (E k) upT) (run (E k) WN upB) N (upS P i (c ++ [x]) s4) = some (.nx (upS P i c' s4')) ∧ UpCh P i c' ∧ c'.length ≤ 7
  | 0, N, x, c, s4, I, h, _ => by
    have := nodup_bound I.nd I.lt
    omega
  | f + 1, N, x, c, s4, I, h, hN => by
    obtain ⟨N, rfl⟩ : ∃ j, N = j + 1 := ⟨N - 1, by omega⟩
    have hx := I.lt x (by simp)
    have hlen := nodup_bound I.nd I.lt
    have n7 := ok.n7
    have hla : (c ++ [x]).getLastD 0 = x := List.getLastD_concat ..
    rw [while_1, up_test hk ok hx, Option.bind_some]
    by_cases e : (gh P x : Int) = Lt P x
    · rw [decide_eq_true e]
      refine ⟨c ++ [x], s4, rfl, ⟨I.pa, I.lt, by simp, I.hd, ?_⟩, by omega⟩
      have := I.su
      rw [hla] at this ⊢
      rw [e]
      exact this
    · rw [decide_eq_false e]
      have h2 := late_eq hc hx
      have h3 := minI_mem ((behind P x).map fun o => Lt P o - 1) (gh P x)
      rw [← h2] at h3
      rcases h3 with h3 | h3
      · exact absurd h3.symm e
      obtain ⟨o0, ho0, he0⟩ := List.mem_map.mp h3
      cases hf : (behind P x).filter (fun o => decide (Lt P o - 1 = Lt P x)) with
      | nil =>
        exfalso
        have := List.filter_eq_nil_iff.mp hf o0 ho0
        exact this (decide_eq_true he0)
      | cons o rest =>
        have ho : o ∈ (behind P x).filter (fun o => decide (Lt P o - 1 = Lt P x)) := by rw [hf]; exact List.mem_cons_self
        rw [List.mem_filter, decide_eq_true_eq, mem_behind] at ho
        obtain ⟨⟨ho1, ho2⟩, ho3⟩ := ho
        show ∃ c' s4', ((run (E k) WN upB (upS P i (c ++ [x]) s4)).bind fun o => o.andThen (whileGo (evT (E k) upT) (run (E k) WN upB) N)) = _ ∧ _
        rw [up_body hk ok hx (by simp at hlen; omega) hf, Option.bind_some, o_nx]
        have hla2 : ((c ++ [x]) ++ [o]).getLastD 0 = o := List.getLastD_concat ..
        refine up_loop hk ok hc f N o (c ++ [x]) _ ⟨?_, fun y hy => ?_, ?_, ?_, ?_, fun y hy => ?_⟩ (by simp at h ⊢; omega) (by omega)
        · have := (path_snoc (P := P) (l := c) (x := x) (y := o)).mpr ⟨I.pa, ho2⟩
          simpa using this
        · rcases List.mem_append.mp hy with hy | hy
          · exact I.lt y hy
          · have : y = o := by simpa using hy
            rw [this]; exact ho1
        · have := I.hd
          cases c with
          | nil => exact this
          | cons a c => exact this
        · have := I.su
          rw [hla] at this
          rw [hla2]
          simp only [List.length_append, List.length_singleton] at this ⊢
          omega
        · refine List.nodup_append.mpr ⟨I.nd, by simp, fun a ha b hb e => ?_⟩
          have hb' : b = o := by simpa using hb
          have := I.le a ha
          rw [hla, e, hb'] at this
          omega
        · rw [hla2]
          rcases List.mem_append.mp hy with hy | hy
          · have := I.le y hy
            rw [hla] at this
            omega
          · have : y = o := by simpa using hy
            rw [this]; omega
theorem sp_upper {k : Nat} (hk : 4 ≤ k) {P : Prob} (ok : P.Ok) (hc : cyc P = false) {i : Nat} (hi : i < P.n) : ∃ c, E k 20 [P.D, .int i] = some (tupN c) ∧ UpCh P i c ∧ c.length ≤ 7 := by
  obtain ⟨k, rfl⟩ : ∃ j, k = j + 1 := ⟨k - 1, by omega⟩
  have n7 := ok.n7
  obtain ⟨c, s4, h, I, h7⟩ := up_loop (k := k) (by omega) ok hc (i := i) (P.n + 1) WN i [] .no ⟨trivial, fun x hx => by
    have : x = i := by simpa using hx
    rw [this]; exact hi, rfl, by simp, by simp, fun x hx => by
    have : x = i := by simpa using hx
    rw [this]; simp⟩ (by simp; omega) (by unfold WN; omega)
  refine ⟨c, ?_, I, h7⟩
  show (run (E k) WN p_upper_chain [.dat P.D, .dat (.int i), .no, .no, .no, .no]).map outD = _
  unfold p_upper_chain
  simp! [sp_latest (k := k) (by omega) ok, if_pos lst1]
  have h3 : run (E k) WN (.while_ upT upB) [.dat P.D, .dat (.int i), .dat (.list (intsD (late P))), .dat (.tuple [.int i]), .no, .no] = some (.nx (upS P i c s4)) := h
  unfold upT upB at h3
  rw [h3]
  unfold upS
  simp! [h_frx]
  rfl
end R60

end -- S4
section -- S5
set_option Elab.async false
set_option linter.all false
set_option maxRecDepth 100000
set_option maxHeartbeats 4000000
/-! What the pure defs answer, V: the judge. -/
namespace R60
open PySem L2
open SeqAt (shaped)
/-! ### fine data -/
theorem fineAll {n : Nat} : ∀ ds : List PyData, (∀ d ∈ ds, PyData.canLay0 d = true ∧ PyData.depth d ≤ n) → PyData.canLayAll0 ds = true ∧ PyData.depthAll ds ≤ n
  | [], _ => ⟨rfl, Nat.zero_le _⟩
  | d :: ds, h => by
    obtain ⟨h1, h2⟩ := fineAll ds fun x hx => h x (List.mem_cons_of_mem _ hx)
    obtain ⟨h3, h4⟩ := h d List.mem_cons_self
    refine ⟨?_, ?_⟩
    · show (PyData.canLay0 d && PyData.canLayAll0 ds) = true
      rw [h1, h3]; rfl
    · show max (PyData.depth d) (PyData.depthAll ds) ≤ n
      omega
theorem fine_lay : ∀ (n : Nat) (d : PyData), fine n d = true → PyData.canLay0 d = true ∧ PyData.depth d ≤ n
  | n, .none, _ => ⟨rfl, Nat.zero_le _⟩
  | n, .bool _, _ => ⟨rfl, Nat.zero_le _⟩
  | n, .int _, _ => ⟨rfl, Nat.zero_le _⟩
  | n, .str s, h => ⟨by cases n <;> exact h, Nat.zero_le _⟩
  | 0, .list _, h => by cases h
  | 0, .tuple _, h => by cases h
  | n + 1, .list ds, h => by
    have h0 : (decide (ds.length ≤ 1000) && ds.all (fine n)) = true := h
    rw [Bool.and_eq_true, List.all_eq_true] at h0
    obtain ⟨h1, h2⟩ := fineAll (n := n) ds fun d hd => fine_lay n d (h0.2 d hd)
    exact ⟨h1, by show PyData.depthAll ds + 1 ≤ n + 1; omega⟩
  | n + 1, .tuple ds, h => by
    have h0 : (decide (ds.length ≤ 1000) && ds.all (fine n)) = true := h
    rw [Bool.and_eq_true, List.all_eq_true] at h0
    obtain ⟨h1, h2⟩ := fineAll (n := n) ds fun d hd => fine_lay n d (h0.2 d hd)
    exact ⟨h1, by show PyData.depthAll ds + 1 ≤ n + 1; omega⟩
  | 0, .dict _, h => by cases h
  | n + 1, .dict _, h => by cases h
theorem fine_shaped {n : Nat} {d : PyData} (h : fine n d = true) (hn : n ≤ 64) : shaped d = true := by
  obtain ⟨h1, h2⟩ := fine_lay n d h
  unfold shaped
  rw [h1, decide_eq_true (by omega)]
  rfl
theorem fine_t {n : Nat} {ds : List PyData} (h : fine (n + 1) (.tuple ds) = true) : ds.length ≤ 1000 ∧ ∀ d ∈ ds, fine n d = true := by
  have h0 : (decide (ds.length ≤ 1000) && ds.all (fine n)) = true := h
  rw [Bool.and_eq_true, List.all_eq_true, decide_eq_true_eq] at h0
  exact h0
theorem fine_mk {n : Nat} {ds : List PyData} (h1 : ds.length ≤ 1000) (h2 : ∀ d ∈ ds, fine n d = true) : fine (n + 1) (.tuple ds) = true := by
  show (decide (ds.length ≤ 1000) && ds.all (fine n)) = true
  rw [decide_eq_true h1, List.all_eq_true.mpr h2]
  rfl
theorem fine_i {n : Nat} {i : Int} : fine n (.int i) = true := by cases n <;> rfl
theorem fine_s {n : Nat} {s : Str} (h : PyData.strOk s = true) : fine n (.str s) = true := by cases n <;> exact h
theorem fine_up {n : Nat} : ∀ (m : Nat) (d : PyData), n ≤ m → fine n d = true → fine m d = true := by
  induction n with
  | zero =>
    intro m d _ h
    cases d <;> first | (cases h; done) | (cases m <;> exact h)
  | succ n ih =>
    intro m d hm h
    obtain ⟨m, rfl⟩ : ∃ j, m = j + 1 := ⟨m - 1, by omega⟩
    cases d with
    | list ds =>
      have h0 : (decide (ds.length ≤ 1000) && ds.all (fine n)) = true := h
      show (decide (ds.length ≤ 1000) && ds.all (fine m)) = true
      rw [Bool.and_eq_true, List.all_eq_true] at h0 ⊢
      exact ⟨h0.1, fun d hd => ih m d (by omega) (h0.2 d hd)⟩
    | tuple ds =>
      have h0 : (decide (ds.length ≤ 1000) && ds.all (fine n)) = true := h
      show (decide (ds.length ≤ 1000) && ds.all (fine m)) = true
      rw [Bool.and_eq_true, List.all_eq_true] at h0 ⊢
      exact ⟨h0.1, fun d hd => ih m d (by omega) (h0.2 d hd)⟩
    | _ => exact h
theorem fine_natsT {n : Nat} {l : List Nat} (h : l.length ≤ 1000) : fine (n + 1) (tupN l) = true := fine_mk (by rw [natsD_lenL]; exact h) fun d hd => by
  obtain ⟨x, _, rfl⟩ := List.mem_map.mp hd
  exact fine_i
theorem fine_con {n : Nat} (c : Con) : fine (n + 1) c.D = true := by
  cases c with
  | within i lo hi =>
    refine fine_mk (by simp) fun d hd => ?_
    simp only [List.mem_cons, List.not_mem_nil, or_false] at hd
    rcases hd with rfl | rfl | rfl | rfl
    · exact fine_s ok_within
    all_goals exact fine_i
  | ahead a b =>
    refine fine_mk (by simp) fun d hd => ?_
    simp only [List.mem_cons, List.not_mem_nil, or_false] at hd
    rcases hd with rfl | rfl | rfl
    · exact fine_s ok_ahead
    all_goals exact fine_i
theorem fine_cons {n : Nat} {P : Prob} (ok : P.Ok) : fine (n + 2) (.tuple (P.cs.map Con.D)) = true := fine_mk (by rw [List.length_map]; have := ok.m12; omega) fun d hd => by
  obtain ⟨c, _, rfl⟩ := List.mem_map.mp hd
  exact fine_con c
/-! ### is_chain -/
theorem cut1 (ds : List PyData) : cutD ds (some 1) none = ds.drop 1 := by
  unfold cutD
  show (ds.drop (min (1 : Int).toNat ds.length)).take (ds.length - min (1 : Int).toNat ds.length) = _
  cases ds with
  | nil => rfl
  | cons d ds =>
    have e : min (1 : Int).toNat (d :: ds).length = 1 := by simp
    rw [e]
    show ds.take ((d :: ds).length - 1) = ds
    simp
theorem sl1 (ds : List PyData) : slD (.tuple ds) (some 1) none = some (.tuple (ds.drop 1)) := by
  show some (PyData.tuple (cutD ds (some 1) none)) = _
  rw [cut1]
theorem ion : intOfD (.tuple []) = none := rfl
theorem zip_eq (ds es : List PyData) : zipD ds es = (ds.zip es).map fun p => PyData.tuple [p.1, p.2] := by
  unfold zipD
  rw [List.zip, List.map_zipWith]
theorem shaped_ahead (a b : Int) : shaped (.tuple [.str "ahead", .int a, .int b]) = true := by
  have : fine 1 (.tuple [.str "ahead", .int a, .int b]) = true := fine_mk (by simp) fun d hd => by
    simp only [List.mem_cons, List.not_mem_nil, or_false] at hd
    rcases hd with rfl | rfl | rfl
    · exact fine_s ok_ahead
    all_goals exact fine_i
  exact fine_shaped this (by omega)
theorem mem_ahead {P : Prob} (ok : P.Ok) (a b : Nat) : memD (.tuple [.str "ahead", .int a, .int b]) (.tuple (P.cs.map Con.D)) = some (aheadIn P (.int a) (.int b)) := by
  show (if shaped (.tuple [.str "ahead", .int a, .int b]) && shaped (.tuple (P.cs.map Con.D)) then some ((P.cs.map Con.D).any fun z => PyData.eqv z (.tuple [.str "ahead", .int a, .int b])) else none) = _
  rw [shaped_ahead, fine_shaped (fine_cons (n := 0) ok) (by omega)]
  rfl
theorem len0 (ds : List PyData) : decide ((ds.length : Int) = 0) = ds.isEmpty := by
  cases ds with
  | nil => rfl
  | cons d ds => exact decide_eq_false (by rw [List.length_cons]; omega)
theorem zip_nats (c : List Nat) : (natsD c).zip ((natsD c).drop 1) = (c.zip (c.drop 1)).map fun p => (PyData.int (p.1 : Nat), PyData.int (p.2 : Nat)) := by
  unfold natsD
  rw [← List.map_drop, List.zip_map]
  rfl
theorem sp_chain {k : Nat} (hk : 3 ≤ k) {P : Prob} (ok : P.Ok) {v : PyData} {f : Nat} (hv : fine f v = true) : E k 21 [P.D, v] = some (.bool (isChainD P v)) := by
  obtain ⟨k, rfl⟩ : ∃ j, k = j + 1 := ⟨k - 1, by omega⟩
  show (run (E k) WN p_is_chain [.dat (.tuple [.int P.n, .tuple (P.cs.map Con.D)]), .dat v, .no, .no, .no]).map outD = _
  unfold p_is_chain
  cases v with
  | tuple ds =>
    obtain ⟨f, rfl⟩ : ∃ j, f = j + 1 := by
      cases f with
      | zero => cases hv
      | succ f => exact ⟨f, rfl⟩
    obtain ⟨hl, hf⟩ := fine_t hv
    simp! [len0]
    cases hds : ds with
    | nil => simp! [List.isEmpty_nil]; rfl
    | cons d0 ds0 =>
      rw [← hds]
      have hne : ds.isEmpty = false := by rw [hds]; rfl
      simp! [hne]
      have lc := lc_all (tg := [4]) (t := evT (E k) (.bl true)) (e := ev (E k) (.call 10 (.cons (.var 4) (.cons (.var 0) .nil)))) (ρ := [.dat (.tuple [.int P.n, .tuple (P.cs.map Con.D)]), .dat (.tuple ds), .no, .no, .no]) ds id (fun d => .bool (isItemD P d)) (by omega) (fun d hd => by
        refine ⟨_, bind1, t_yes, ?_⟩
        show ev (E k) _ [.dat P.D, .dat (.tuple ds), .no, .no, .dat d] = _
        simp! [sp_item (k := k) (by omega) d P])
      rw [List.map_id] at lc
      rw [lc]
      simp! [allM_blf, all_map_id]
      cases hi : ds.all (isItemD P) with
      | false =>
        simp! []
        show _ = some (PyData.bool (!ds.isEmpty && ds.all (isItemD P) && _))
        rw [hi, hne]
        rfl
      | true =>
        obtain ⟨c, hc, hlt⟩ := items_shape hi
        have hc2 : ds.zip (ds.drop 1) = (c.zip (c.drop 1)).map fun p => (PyData.int (p.1 : Nat), PyData.int (p.2 : Nat)) := by rw [hc]; exact zip_nats c
        have hlen : (c.zip (c.drop 1)).length ≤ 1000 := by
          have : c.length = ds.length := by rw [hc, natsD_lenL]
          rw [List.length_zip]
          omega
        have hz : zipD ds (ds.drop 1) = (c.zip (c.drop 1)).map fun p => PyData.tuple [.int (p.1 : Nat), .int (p.2 : Nat)] := by
          rw [zip_eq, hc2, List.map_map]
          rfl
        simp! [sl1, ion, hz]
        rw [lc_all (c.zip (c.drop 1)) (fun p => PyData.tuple [.int (p.1 : Nat), .int (p.2 : Nat)]) (fun p => .bool (aheadIn P (.int (p.1 : Nat)) (.int (p.2 : Nat)))) (by omega) fun p hp => ⟨_, bind2, t_yes, by
          show ev (E k) _ [.dat (.tuple [.int P.n, .tuple (P.cs.map Con.D)]), .dat (.tuple ds), .dat (.int (p.1 : Nat)), .dat (.int (p.2 : Nat)), .no] = _
          simp! [List.length_cons, List.length_nil, show 0 + 1 + 1 + 1 ≤ 100000 from by decide, mem_ahead ok]⟩]
        simp! [allM_blf, all_map_id]
        show _ = some (PyData.bool (!ds.isEmpty && ds.all (isItemD P) && (ds.zip (ds.drop 1)).all fun p => aheadIn P p.1 p.2))
        rw [hi, hne, hc2, List.all_map]
        rfl
  | _ => simp! [h_iti, h_its, h_itn, h_itb]; rfl
end R60

end -- S5
section -- S6
set_option Elab.async false
set_option linter.all false
set_option maxRecDepth 100000
set_option maxHeartbeats 4000000
/-! What the pure defs answer, VI: the judge's other parts. -/
namespace R60
open PySem L2
open SeqAt (shaped)
theorem fine_tup {f : Nat} {ds : List PyData} (h : fine f (.tuple ds) = true) : ∃ g, f = g + 1 ∧ ds.length ≤ 1000 ∧ ∀ d ∈ ds, fine g d = true := by
  cases f with
  | zero => cases h
  | succ g => exact ⟨g, rfl, fine_t h⟩
theorem sp_slow {k : Nat} (hk : 4 ≤ k) {P : Prob} (ok : P.Ok) {v : PyData} {f : Nat} (hv : fine f v = true) {i : Nat} {low : Int} : E k 27 [P.D, .int i, .int low, v] = some (.bool (showsLowD P (.int i) low v)) := by
  obtain ⟨k, rfl⟩ : ∃ j, k = j + 1 := ⟨k - 1, by omega⟩
  show (run (E k) WN p_shows_low [.dat P.D, .dat (.int i), .dat (.int low), .dat v]).map outD = _
  unfold p_shows_low
  simp! [sp_chain (k := k) (by omega) ok hv]
  cases h : isChainD P v with
  | false =>
    simp! []
    cases v with
    | tuple ds =>
      show _ = some (PyData.bool (isChainD P (.tuple ds) && _))
      rw [h]; rfl
    | _ => rfl
  | true =>
    obtain ⟨x, c, rfl, hlt, hp⟩ := chain_shape h
    show _ = some (PyData.bool (isChainD P (tupN (x :: c)) && (PyData.eqv ((natsD (x :: c)).getLastD .none) (.int i) && decide (low ≤ (gl P (natOf ((natsD (x :: c)).headD .none)) : Int) + (natsD (x :: c)).length - 1))))
    rw [h, natsD_lastD (by simp), eqv_int]
    have e1 : natOf ((natsD (x :: c)).headD .none) = x := by show natOf (.int (x : Int)) = x; simp [natOf]
    rw [e1]
    simp! [atI_lastN (c := x :: c) (by simp)]
    cases decide ((((x :: c).getLastD 0 : Nat) : Int) = (i : Int)) with
    | false => simp! []
    | true =>
      simp! [show atI (natsD (x :: c)) 0 = some (.int x) from atI_0, sp_low (k := k) (by omega) ok x]
theorem sp_shigh {k : Nat} (hk : 4 ≤ k) {P : Prob} (ok : P.Ok) {v : PyData} {f : Nat} (hv : fine f v = true) {i : Nat} {high : Int} : E k 28 [P.D, .int i, .int high, v] = some (.bool (showsHighD P (.int i) high v)) := by
  obtain ⟨k, rfl⟩ : ∃ j, k = j + 1 := ⟨k - 1, by omega⟩
  show (run (E k) WN p_shows_high [.dat P.D, .dat (.int i), .dat (.int high), .dat v]).map outD = _
  unfold p_shows_high
  simp! [sp_chain (k := k) (by omega) ok hv]
  cases h : isChainD P v with
  | false =>
    simp! []
    cases v with
    | tuple ds =>
      show _ = some (PyData.bool (isChainD P (.tuple ds) && _))
      rw [h]; rfl
    | _ => rfl
  | true =>
    obtain ⟨x, c, rfl, hlt, hp⟩ := chain_shape h
    show _ = some (PyData.bool (isChainD P (tupN (x :: c)) && (PyData.eqv ((natsD (x :: c)).headD .none) (.int i) && decide ((gh P (natOf ((natsD (x :: c)).getLastD .none)) : Int) - (natsD (x :: c)).length + 1 ≤ high))))
    rw [h, natsD_lastD (by simp), natsD_headD (by simp), eqv_int]
    have e1 : natOf (.int (((x :: c).getLastD 0 : Nat) : Int)) = (x :: c).getLastD 0 := by simp [natOf]
    rw [e1]
    simp! [show atI (natsD (x :: c)) 0 = some (.int x) from atI_0]
    show _ = some (PyData.bool (true && (decide (((x : Nat) : Int) = (i : Int)) && _)))
    cases decide (((x : Nat) : Int) = (i : Int)) with
    | false => simp! []
    | true =>
      simp! [atI_lastN (c := x :: c) (by simp), sp_high (k := k) (by omega) ok ((x :: c).getLastD 0)]
theorem sp_row {k : Nat} (hk : 5 ≤ k) {P : Prob} (ok : P.Ok) {v : PyData} {f : Nat} (hv : fine f v = true) {low high : Int} : E k 29 [P.D, .int low, .int high, v] = some (.bool (isRowD P low high v)) := by
  obtain ⟨k, rfl⟩ : ∃ j, k = j + 1 := ⟨k - 1, by omega⟩
  show (run (E k) WN p_is_row [.dat P.D, .dat (.int low), .dat (.int high), .dat v]).map outD = _
  unfold p_is_row
  cases v with
  | tuple ds =>
    obtain ⟨g, rfl, hl, hf⟩ := fine_tup hv
    by_cases h3 : ds.length = 3
    · obtain ⟨a, b, c, rfl⟩ : ∃ a b c, ds = [a, b, c] := by
        match ds, h3 with
        | [a, b, c], _ => exact ⟨a, b, c, rfl⟩
      simp! [List.length_cons, List.length_nil, show decide (((0 + 1 + 1 + 1 : Nat) : Int) = 3) = true from rfl, sp_item (k := k) (by omega) a P]
      show _ = some (PyData.bool (isItemD P a && (showsLowD P a low b && showsHighD P a high c)))
      cases hi : isItemD P a with
      | false => simp! []
      | true =>
        obtain ⟨i, rfl, hi2⟩ := item_shape hi
        simp! [sp_slow (k := k) (by omega) ok (hf b (by simp))]
        cases showsLowD P (.int i) low b with
        | false => simp! []
        | true => simp! [sp_shigh (k := k) (by omega) ok (hf c (by simp))]
    · simp! [show decide ((ds.length : Int) = 3) = false from decide_eq_false (by omega)]
      have : isRowD P low high (.tuple ds) = false := by
        unfold isRowD
        split
        · rename_i heq
          injection heq with heq
          rw [heq] at h3
          exact absurd rfl h3
        · rfl
      rw [this]
  | _ => simp! [h_iti, h_its, h_itn, h_itb]; rfl
theorem itR_pred {n : Nat} (h : n ≤ 100000) : itR1D (.int ((n : Int) - 1)) = some (natsD (List.range (n - 1))) := by
  show (if -100000 ≤ (n : Int) - 1 ∧ (n : Int) - 1 ≤ 100000 then some (rgD 0 ((n : Int) - 1)) else none) = _
  rw [if_pos (by omega)]
  unfold rgD natsD
  have : ((n : Int) - 1 - 0).toNat = n - 1 := by omega
  rw [this]
  congr 1
  apply List.map_congr_left
  intro a _
  rw [Int.zero_add]
theorem sp_places {k : Nat} (hk : 1 ≤ k) {lo hi : Int} : E k 24 [.int lo, .int hi] = some (.int (placesOf lo hi)) := by
  obtain ⟨k, rfl⟩ : ∃ j, k = j + 1 := ⟨k - 1, by omega⟩
  show (run (E k) WN p_places_of [.dat (.int lo), .dat (.int hi)]).map outD = _
  unfold p_places_of
  simp! []
  rfl
theorem whole_shape {d : PyData} {lo hi : Int} (h : isWholeD d lo hi = true) : ∃ i : Int, d = .int i := by
  cases d with
  | int i => exact ⟨i, rfl⟩
  | _ => cases h
theorem sp_over {k : Nat} (hk : 6 ≤ k) {P : Prob} (ok : P.Ok) {v lo hi : PyData} {f : Nat} (hv : fine f v = true) : E k 30 [P.D, lo, hi, v] = some (.bool (isOverD P lo hi v)) := by
  obtain ⟨k, rfl⟩ : ∃ j, k = j + 1 := ⟨k - 1, by omega⟩
  show (run (E k) WN p_is_overfull [.dat P.D, .dat lo, .dat hi, .dat v, .no, .no, .no]).map outD = _
  unfold p_is_overfull
  simp! [List.length_cons, List.length_nil, show 0 + 1 + 1 ≤ 100000 from by decide]
  have lc := lc_all (tg := [6]) (t := evT (E k) (.bl true)) (e := ev (E k) (.call 9 (.cons (.var 6) (.cons (.neg (.int 20)) (.cons (.int 20) .nil))))) (ρ := [.dat P.D, .dat lo, .dat hi, .dat v, .no, .no, .no]) [lo, hi] id (fun d => .bool (isWholeD d (-20) 20)) (show 2 ≤ 50000 by decide) (fun d hd => by
    refine ⟨_, bind1, t_yes, ?_⟩
    show ev (E k) _ [.dat P.D, .dat lo, .dat hi, .dat v, .no, .no, .dat d] = _
    simp! [sp_between (k := k) (by omega)])
  rw [List.map_id] at lc
  rw [lc]
  simp! [allM_blf, all_map_id]
  have e2 : ([lo, hi].all fun d => isWholeD d (-20) 20) = (isWholeD lo (-20) 20 && isWholeD hi (-20) 20) := by simp
  rw [e2]
  unfold isOverD
  cases hw : isWholeD lo (-20) 20 && isWholeD hi (-20) 20 with
  | false => simp! []
  | true =>
    rw [Bool.and_eq_true] at hw
    obtain ⟨low, rfl⟩ := whole_shape hw.1
    obtain ⟨high, rfl⟩ := whole_shape hw.2
    cases v with
    | tuple rs =>
      obtain ⟨g, rfl, hl, hf⟩ := fine_tup hv
      simp! []
      have lc2 := lc_all (tg := [4]) (t := evT (E k) (.bl true)) (e := ev (E k) (.call 29 (.cons (.var 0) (.cons (.var 1) (.cons (.var 2) (.cons (.var 4) .nil)))))) (ρ := [.dat P.D, .dat (.int low), .dat (.int high), .dat (.tuple rs), .no, .no, .no]) rs id (fun d => .bool (isRowD P low high d)) (by omega) (fun d hd => by
        refine ⟨_, bind1, t_yes, ?_⟩
        show ev (E k) _ [.dat P.D, .dat (.int low), .dat (.int high), .dat (.tuple rs), .dat d, .no, .no] = _
        simp! [sp_row (k := k) (by omega) ok (hf d hd)])
      rw [List.map_id] at lc2
      rw [lc2]
      simp! [allM_blf, all_map_id]
      show _ = some (PyData.bool (true && (rs.all (isRowD P low high) && ascB (rs.map key0) && decide (placesOf low high < rs.length))))
      cases hr : rs.all (isRowD P low high) with
      | false => simp! []
      | true =>
        simp! [itR_pred (n := rs.length) (by omega)]
        have row : ∀ j, j < rs.length → ∃ (b c : PyData), atI rs (j : Int) = some (.tuple [.int ((rs.map key0).getD j 0), b, c]) := fun j hj => by
          obtain ⟨i, b, c, e, _⟩ := row_shape (List.all_eq_true.mp hr rs[j] (List.getElem_mem hj))
          refine ⟨b, c, ?_⟩
          rw [atI_nat (List.getElem?_eq_getElem hj), List.getD_eq_getElem?_getD, List.getElem?_map, List.getElem?_eq_getElem hj, e]
          rfl
        rw [lc_natsA (List.range (rs.length - 1)) (fun j => .bool (decide ((rs.map key0).getD j 0 < (rs.map key0).getD (j + 1) 0))) (by rw [List.length_range]; omega) fun j hj => ⟨_, bind1, t_yes, by
          have hj2 := List.mem_range.mp hj
          obtain ⟨b1, c1, r1⟩ := row j (by omega)
          obtain ⟨b2, c2, r2⟩ := row (j + 1) (by omega)
          show ev (E k) _ [.dat P.D, .dat (.int low), .dat (.int high), .dat (.tuple rs), .no, .dat (.int j), .no] = _
          simp! [r1, show (j : Int) + 1 = ((j + 1 : Nat) : Int) from rfl, r2]⟩]
        simp! [allM_blf, all_map_id]
        have ea : ((List.range (rs.length - 1)).all fun j => decide ((rs.map key0).getD j 0 < (rs.map key0).getD (j + 1) 0)) = ascB (rs.map key0) := by
          unfold ascB
          rw [List.length_map]
        rw [ea]
        cases ascB (rs.map key0) with
        | false => simp! []
        | true =>
          simp! [sp_places (k := k) (by omega)]
    | _ => simp! [h_iti, h_its, h_itn, h_itb, show ∀ kvs, isiD .tup (.dict kvs) = false from fun _ => rfl]
theorem sp_contr {k : Nat} (hk : 7 ≤ k) {P : Prob} (ok : P.Ok) {v : PyData} {f : Nat} (hv : fine f v = true) : E k 31 [P.D, v] = some (.bool (isContrD P v)) := by
  obtain ⟨k, rfl⟩ : ∃ j, k = j + 1 := ⟨k - 1, by omega⟩
  show (run (E k) WN p_is_contradiction [.dat P.D, .dat v]).map outD = _
  unfold p_is_contradiction
  cases v with
  | tuple ds =>
    obtain ⟨g, rfl, hl, hf⟩ := fine_tup hv
    cases ds with
    | nil => simp! [List.isEmpty_nil]; rfl
    | cons d rest =>
      simp! [List.isEmpty_cons]
      cases d with
      | str z =>
        have hz : PyData.strOk z = true := by
          have := hf (.str z) (by simp)
          cases g <;> exact this
        simp! [eqD_ss hz ok_cycle]
        by_cases h1 : z = "cycle"
        · subst h1
          rw [contr_cyc]
          simp! [decide_true]
          by_cases h2 : rest.length = 1
          · obtain ⟨a, rfl⟩ : ∃ a, rest = [a] := by
              match rest, h2 with
              | [a], _ => exact ⟨a, rfl⟩
            have ha : fine g a = true := hf a (by simp)
            simp! [List.length_cons, List.length_nil, show decide (((0 + 1 + 1 : Nat) : Int) = 2) = true from rfl, sp_chain (k := k) (by omega) ok ha]
            cases hc : isChainD P a with
            | false =>
              simp! []
              cases a with
              | tuple c =>
                show _ = some (PyData.bool (isChainD P (.tuple c) && _ && _))
                rw [hc]; rfl
              | _ => rfl
            | true =>
              obtain ⟨x, c, rfl, hlt, hp⟩ := chain_shape hc
              show _ = some (PyData.bool (isChainD P (tupN (x :: c)) && decide (1 < (natsD (x :: c)).length) && PyData.eqv ((natsD (x :: c)).headD .none) ((natsD (x :: c)).getLastD .none)))
              rw [hc, natsD_lastD (by simp), natsD_headD (by simp), eqv_int]
              have e1 : decide ((1 : Int) < ((natsD (x :: c)).length : Int)) = decide (1 < (natsD (x :: c)).length) := decide_eq_decide.mpr (by omega)
              simp! [e1]
              cases decide (1 < (natsD (x :: c)).length) with
              | false => simp! []
              | true =>
                simp! [atI_lastN (c := x :: c) (by simp), show atI (natsD (x :: c)) 0 = some (.int x) from atI_0]
                rfl
          · have e1 : decide ((((PyData.str "cycle") :: rest).length : Int) = 2) = false := decide_eq_false (by rw [List.length_cons]; omega)
            simp! [e1]
            have : cycArm P rest = false := by
              unfold cycArm
              split
              · exact absurd rfl h2
              · rfl
            rw [this]
        · simp! [decide_eq_false h1, eqD_ss hz ok_overfull]
          by_cases h2 : z = "overfull"
          · subst h2
            rw [contr_over]
            simp! [decide_true]
            by_cases h3 : rest.length = 3
            · obtain ⟨a, b, c, rfl⟩ : ∃ a b c, rest = [a, b, c] := by
                match rest, h3 with
                | [a, b, c], _ => exact ⟨a, b, c, rfl⟩
              simp! [List.length_cons, List.length_nil, show decide (((0 + 1 + 1 + 1 + 1 : Nat) : Int) = 4) = true from rfl, sp_over (k := k) (by omega) ok (hf c (by simp))]
              rfl
            · have e1 : decide ((((PyData.str "overfull") :: rest).length : Int) = 4) = false := decide_eq_false (by rw [List.length_cons]; omega)
              simp! [e1]
              have : overArm P rest = false := by
                unfold overArm
                split
                · exact absurd rfl h3
                · rfl
              rw [this]
          · simp! [decide_eq_false h2]
            have : isContrD P (.tuple (.str z :: rest)) = false := by
              show (if z = "cycle" then cycArm P rest else if z = "overfull" then overArm P rest else false) = false
              rw [if_neg h1, if_neg h2]
            rw [this]
      | _ => rfl
  | _ => simp! [h_iti, h_its, h_itn, h_itb]; rfl
theorem sp_accC {k : Nat} (hk : 8 ≤ k) {P : Prob} (ok : P.Ok) {v : PyData} {f : Nat} (hv : fine f v = true) : E k 32 [P.D, v] = some (.bool (isContrD P v)) := by
  obtain ⟨k, rfl⟩ : ∃ j, k = j + 1 := ⟨k - 1, by omega⟩
  show (run (E k) WN p_accepts_contradiction [.dat P.D, .dat v]).map outD = _
  unfold p_accepts_contradiction
  simp! [sp_check8 (k := k) (by omega) ok, sp_contr (k := k) (by omega) ok hv]
end R60

end -- S6
section -- S7
set_option Elab.async false
set_option linter.all false
set_option maxRecDepth 100000
set_option maxHeartbeats 4000000
/-! What the pure defs answer, VII: cycles found. -/
namespace R60
open PySem L2
open SeqAt (shaped)
section
variable {α : Type} {bind : PyData → List Sl → Option (List Sl)} {body : List Sl → Option Out}
theorem forGo_pre (enc : α → PyData) (R : List α → List Sl → Prop) (full : List α) (h : ∀ done a rest ρ, full = done ++ a :: rest → R done ρ → ∃ ρ1 ρ2, bind (enc a) ρ = some ρ1 ∧ body ρ1 = some (.nx ρ2) ∧ R (done ++ [a]) ρ2) :
    ∀ (l done : List α) (ρ : List Sl), full = done ++ l → R done ρ → ∃ ρ', forGo bind body (l.map enc) ρ = some (.nx ρ') ∧ R full ρ'
  | [], done, ρ, e, r => by
    rw [List.append_nil] at e
    subst e
    exact ⟨ρ, rfl, r⟩
  | a :: l, done, ρ, e, r => by
    obtain ⟨ρ1, ρ2, h1, h2, h3⟩ := h done a l ρ e r
    obtain ⟨ρ', h4, h5⟩ := forGo_pre enc R full h l (done ++ [a]) ρ2 (by rw [e, List.append_assoc]; rfl) h3
    refine ⟨ρ', ?_, h5⟩
    rw [List.map_cons, forGo_cons, h1, Option.bind_some, h2, Option.bind_some, o_nx, h4]
theorem forGo_inv (enc : α → PyData) (I : List Sl → Prop) (Q : PyData → Prop) (ok : α → Prop) : ∀ (l : List α) (h : ∀ a ∈ l, ∀ ρ, I ρ → ∃ ρ1 o, bind (enc a) ρ = some ρ1 ∧ body ρ1 = some o ∧ ((∃ ρ', o = .nx ρ' ∧ I ρ' ∧ ok a) ∨ ∃ d, o = .rt d ∧ Q d)) (ρ : List Sl), I ρ →
    ∃ o, forGo bind body (l.map enc) ρ = some o ∧ ((∃ ρ', o = .nx ρ' ∧ I ρ' ∧ ∀ a ∈ l, ok a) ∨ ∃ d, o = .rt d ∧ Q d)
  | [], _, ρ, r => ⟨_, rfl, .inl ⟨ρ, rfl, r, fun a ha => by cases ha⟩⟩
  | a :: l, h, ρ, r => by
    obtain ⟨ρ1, o, h1, h2, h3⟩ := h a List.mem_cons_self ρ r
    rcases h3 with ⟨ρ', rfl, h4, h5⟩ | ⟨d, rfl, hq⟩
    · obtain ⟨o2, h6, h7⟩ := forGo_inv enc I Q ok l (fun b hb => h b (List.mem_cons_of_mem _ hb)) ρ' h4
      refine ⟨o2, by rw [List.map_cons, forGo_cons, h1, Option.bind_some, h2, Option.bind_some, o_nx, h6], ?_⟩
      rcases h7 with ⟨ρ2, e, g1, g2⟩ | h7
      · refine .inl ⟨ρ2, e, g1, fun b hb => ?_⟩
        rcases List.mem_cons.mp hb with rfl | hb
        · exact h5
        · exact g2 b hb
      · exact .inr h7
    · exact ⟨.rt d, by rw [List.map_cons, forGo_cons, h1, Option.bind_some, h2, Option.bind_some]; rfl, .inr ⟨d, rfl, hq⟩⟩
end
theorem and_if (a b : Bool) : (if a = true then some (PyData.bool b) else some (.bool false)) = some (.bool (a && b)) := by cases a <;> rfl
theorem or_if (a b : Bool) : (if a = true then some (.bool true) else some (PyData.bool b)) = some (.bool (a || b)) := by cases a <;> rfl
/-! ### cycles_from -/
abbrev rowsD (rows : List (List Nat)) : List PyData := rows.map fun r => tupN r
theorem rowsD_empty (rows : List (List Nat)) : (rowsD rows).isEmpty = rows.isEmpty := by cases rows <;> rfl
abbrev cfF : St := (.cons (.ext 4 (.lc false [6] (.itS (.call 14 (.cons (.var 0) (.cons (.ix (.var 5) (.neg (.int 1))) .nil)))) (.and (.gt (.var 6) (.var 1)) (.nmem (.var 6) (.var 5))) (.add (.var 5) (.tup (.cons (.var 6) .nil))))) .nil)
abbrev cfB : St := (.cons (.set 3 (.lc false [5] (.itS (.var 2)) (.mem (.var 1) (.call 14 (.cons (.var 0) (.cons (.ix (.var 5) (.neg (.int 1))) .nil)))) (.add (.var 5) (.tup (.cons (.var 1) .nil))))) (.cons (.ite (.var 3) (.cons (.ret (.var 3)) .nil) .nil) (.cons (.newL 4 (.lst .nil)) (.cons (.for_ false [5] (.itS (.var 2)) cfF) (.cons (.cpy 2 4) .nil)))))
theorem longer_len (P : Prob) (i : Nat) : ∀ rows : List (List Nat), (longer P i rows).length ≤ rows.length * P.n
  | [] => Nat.zero_le _
  | r :: rows => by
    have ih := longer_len P i rows
    have h1 : (longer1 P i r).length ≤ P.n := by
      unfold longer1
      rw [List.length_map]
      exact Nat.le_trans (List.length_filter_le _ _) (behind_len P _)
    show ((r :: rows).flatMap (longer1 P i)).length ≤ _
    rw [List.flatMap_cons, List.length_append, List.length_cons, Nat.succ_mul]
    have : (rows.flatMap (longer1 P i)).length ≤ rows.length * P.n := ih
    omega
theorem cf_ext {k : Nat} (hk : 1 ≤ k) {P : Prob} (ok : P.Ok) {i : Nat} {row : List Nat} {acc : List (List Nat)} {s2 s3 : Sl} (hr : row ≠ []) (hl : row.length ≤ 100) (ha : acc.length + 7 ≤ 100000) :
    run (E k) WN cfF [.dat P.D, .dat (.int i), s2, s3, .mut (rowsD acc), .dat (tupN row), .no] = some (.nx [.dat P.D, .dat (.int i), s2, s3, .mut (rowsD (acc ++ longer1 P i row)), .dat (tupN row), .no]) := by
  have n7 := ok.n7
  have bl := behind_len P (row.getLastD 0)
  unfold cfF
  simp! [atI_lastN hr, sp_behind (k := k) hk ok (row.getLastD 0)]
  rw [lc_nats (behind P (row.getLastD 0)) (fun o => decide (i < o) && !decide (o ∈ row)) (fun o => tupN (row ++ [o])) (by omega) fun o ho => ⟨_, bind1, by
    show evT (E k) _ [.dat P.D, .dat (.int i), s2, s3, .mut (rowsD acc), .dat (tupN row), .dat (.int o)] = _
    simp! [lt_nat]
    cases decide (i < o) with
    | false => rfl
    | true => simp! [mem_natT], fun _ => by
    show ev (E k) _ [.dat P.D, .dat (.int i), s2, s3, .mut (rowsD acc), .dat (tupN row), .dat (.int o)] = _
    simp! [if_pos lst1, addD_tt (xs := natsD row) (ys := [.int o]) (by rw [natsD_lenL]; simp; omega), show natsD row ++ [.int o] = natsD (row ++ [o]) from natsD_app row [o]]⟩]
  have e : ((behind P (row.getLastD 0)).filter fun o => decide (i < o) && !decide (o ∈ row)).map (fun o => tupN (row ++ [o])) = rowsD (longer1 P i row) := by
    unfold rowsD longer1
    rw [List.map_map]
    rfl
  rw [e]
  have h1 : (longer1 P i row).length ≤ P.n := by
    unfold longer1
    rw [List.length_map]
    exact Nat.le_trans (List.length_filter_le _ _) (behind_len P _)
  simp! []
  rw [if_pos (by simp only [rowsD, List.length_map]; omega)]
  simp! []
  rw [show rowsD acc ++ rowsD (longer1 P i row) = rowsD (acc ++ longer1 P i row) from (List.map_append ..).symm]
theorem cf_body {k : Nat} (hk : 1 ≤ k) {P : Prob} (ok : P.Ok) {i : Nat} {rows : List (List Nat)} {s3 s4 s5 : Sl} (hr : ∀ row ∈ rows, row ≠ [] ∧ row.length ≤ 100) (hl : rows.length ≤ 1024) :
    ∃ s3' s5' , run (E k) WN cfB [.dat P.D, .dat (.int i), .dat (.list (rowsD rows)), s3, s4, s5, .no] = some (if closers P i rows ≠ [] then .rt (.list (rowsD (closers P i rows))) else .nx [.dat P.D, .dat (.int i), .dat (.list (rowsD (longer P i rows))), s3', .dat (.list (rowsD (longer P i rows))), s5', .no]) := by
  have n7 := ok.n7
  unfold cfB
  simp! []
  rw [lc_map rows (fun r => tupN r) (fun row => decide (i ∈ behind P (row.getLastD 0))) (fun row => tupN (row ++ [i])) (by omega) fun row hrow => ⟨_, bind1, by
    show evT (E k) _ [.dat P.D, .dat (.int i), .dat (.list (rowsD rows)), s3, s4, .dat (tupN row), .no] = _
    simp! [atI_lastN (hr row hrow).1, sp_behind (k := k) hk ok (row.getLastD 0), mem_natL], fun _ => by
    show ev (E k) _ [.dat P.D, .dat (.int i), .dat (.list (rowsD rows)), s3, s4, .dat (tupN row), .no] = _
    simp! [if_pos lst1, addD_tt (xs := natsD row) (ys := [.int i]) (by rw [natsD_lenL]; have := (hr row hrow).2; simp; omega), show natsD row ++ [.int i] = natsD (row ++ [i]) from natsD_app row [i]]⟩]
  have e : (rows.filter fun row => decide (i ∈ behind P (row.getLastD 0))).map (fun row => tupN (row ++ [i])) = rowsD (closers P i rows) := by
    unfold rowsD closers
    rw [List.map_map]
    rfl
  rw [e]
  simp! [rowsD_empty]
  by_cases hc : closers P i rows = []
  · rw [hc]
    simp! [List.isEmpty_nil, List.length_nil, Nat.zero_le]
    obtain ⟨ρ', h1, h2⟩ := forGo_pre (bind := fun d ρ => bindT [5] ρ d) (body := run (E k) WN cfF) (fun r : List Nat => tupN r) (fun done ρ => ∃ s5', ρ = [.dat P.D, .dat (.int i), .dat (.list (rowsD rows)), .dat (.list []), .mut (rowsD (longer P i done)), s5', .no]) rows (fun done a rest ρ e r => by
      obtain ⟨s5', rfl⟩ := r
      have ha : a ∈ rows := by rw [e]; simp
      have hd : done.length ≤ 1024 := by rw [e, List.length_append] at hl; omega
      have ll := longer_len P i done
      have : done.length * P.n ≤ 1024 * 7 := Nat.mul_le_mul hd n7
      refine ⟨_, _, bind1, cf_ext hk ok (hr a ha).1 (hr a ha).2 (by omega), .dat (tupN a), ?_⟩
      have : longer P i (done ++ [a]) = longer P i done ++ longer1 P i a := by
        unfold longer
        rw [List.flatMap_append]
        simp
      rw [this]) rows [] [.dat P.D, .dat (.int i), .dat (.list (rowsD rows)), .dat (.list []), .mut [], s5, .no] rfl ⟨s5, rfl⟩
    obtain ⟨s5', rfl⟩ := h2
    refine ⟨.dat (.list []), s5', ?_⟩
    rw [if_neg (by simp)]
    have h3 : forGo (fun d ρ => bindT [5] ρ d) (run (E k) WN cfF) (rowsD rows) [.dat P.D, .dat (.int i), .dat (.list (rowsD rows)), .dat (.list (rowsD [])), .mut [], s5, .no] = _ := h1
    rw [h3]
    simp! []
  · have h2 : (closers P i rows).isEmpty = false := by simpa using hc
    refine ⟨.no, .no, ?_⟩
    rw [if_pos hc]
    simp! [h2, h_frx, h_fsd]
theorem cf_loop {k : Nat} (hk : 1 ≤ k) {P : Prob} (ok : P.Ok) (h4 : P.n ≤ 4) {i : Nat} : ∀ (f j N : Nat) (rows : List (List Nat)) (s3 s4 s5 : Sl), (∀ row ∈ rows, RowOk P i j row) → P.n < j + f → f < N → rows.length ≤ 4 ^ j →
    (∃ o, whileGo (evT (E k) (.var 2)) (run (E k) WN cfB) N [.dat P.D, .dat (.int i), .dat (.list (rowsD rows)), s3, s4, s5, .no] = some o ∧ (o = .rt (.list (rowsD (cycGo P i f rows))) ∨ ((∃ ρ, o = .nx ρ) ∧ cycGo P i f rows = []))) ∧ (cycGo P i f rows).length ≤ 256 ∧ ∀ c ∈ cycGo P i f rows, c.length ≤ 8
  | f, j, N, rows, s3, s4, s5, hr, hj, hN, hl => by
    obtain ⟨N, rfl⟩ : ∃ j, N = j + 1 := ⟨N - 1, by omega⟩
    rw [while_1, show evT (E k) (.var 2) [.dat P.D, .dat (.int i), .dat (.list (rowsD rows)), s3, s4, s5, .no] = some (!rows.isEmpty) by simp! [rowsD_empty], Option.bind_some]
    by_cases h1 : rows = []
    · subst h1
      have e : cycGo P i f [] = [] := by cases f <;> rfl
      rw [e]
      exact ⟨⟨_, rfl, .inr ⟨⟨_, rfl⟩, rfl⟩⟩, Nat.zero_le _, fun c hc => by cases hc⟩
    · obtain ⟨r0, hr0⟩ := List.exists_mem_of_ne_nil _ h1
      have hjn : j ≤ P.n := by
        have := nodup_bound (hr r0 hr0).nd (hr r0 hr0).lt
        rw [(hr r0 hr0).len] at this
        exact this
      obtain ⟨f, rfl⟩ : ∃ g, f = g + 1 := ⟨f - 1, by omega⟩
      have hl2 : rows.length ≤ 256 := Nat.le_trans hl (Nat.pow_le_pow_right (by omega) (show j ≤ 4 by omega))
      have e : cycGo P i (f + 1) rows = if closers P i rows ≠ [] then closers P i rows else cycGo P i f (longer P i rows) := by
        show (if rows = [] then [] else _) = _
        rw [if_neg h1]
      have h2 : rows.isEmpty = false := by simpa using h1
      rw [h2, Bool.not_false, if_pos (rfl : true = true), e]
      obtain ⟨s3', s5', hb⟩ := cf_body (s3 := s3) (s4 := s4) (s5 := s5) hk ok (i := i) (rows := rows) (fun row hrow => ⟨fun z => by
        obtain ⟨u, y, e, _⟩ := (hr row hrow).ne
        rw [z] at e
        simp at e, by rw [(hr row hrow).len]; omega⟩) (by omega)
      rw [hb, Option.bind_some]
      by_cases hc : closers P i rows ≠ []
      · rw [if_pos hc, if_pos hc]
        refine ⟨⟨_, rfl, .inl rfl⟩, ?_, fun c hcc => ?_⟩
        · unfold closers
          rw [List.length_map]
          exact Nat.le_trans (List.length_filter_le _ _) hl2
        · unfold closers at hcc
          obtain ⟨row, hrow, rfl⟩ := List.mem_map.mp hcc
          have := (hr row (List.mem_filter.mp hrow).1).len
          rw [List.length_append, this]
          simp
          omega
      · rw [if_neg hc, if_neg hc, o_nx]
        refine cf_loop hk ok h4 f (j + 1) N _ _ _ _ (fun row hrow => ?_) (by omega) (by omega) ?_
        · unfold longer at hrow
          obtain ⟨r1, hr1, hr2⟩ := List.mem_flatMap.mp hrow
          exact (hr r1 hr1).long hr2
        · have := longer_len P i rows
          have h5 : rows.length * P.n ≤ 4 ^ j * 4 := Nat.mul_le_mul hl h4
          rw [Nat.pow_succ]
          omega
theorem sp_cyclesfrom {k : Nat} (hk : 2 ≤ k) {P : Prob} (ok : P.Ok) (h4 : P.n ≤ 4) {i : Nat} (hi : i < P.n) : E k 22 [P.D, .int i] = some (.list (rowsD (cycFrom P i))) ∧ (cycFrom P i).length ≤ 256 ∧ ∀ c ∈ cycFrom P i, c.length ≤ 8 := by
  obtain ⟨k, rfl⟩ : ∃ j, k = j + 1 := ⟨k - 1, by omega⟩
  obtain ⟨⟨o, h1, h2⟩, h3⟩ := cf_loop (k := k) (by omega) ok h4 (i := i) (P.n + 1) 1 WN [[i]] .no .no .no (fun row hrow => by
    have : row = [i] := by simpa using hrow
    rw [this]; exact row_first hi) (by omega) (by unfold WN; omega) (by simp)
  refine ⟨?_, h3⟩
  show (run (E k) WN p_cycles_from [.dat P.D, .dat (.int i), .no, .no, .no, .no, .no]).map outD = _
  unfold p_cycles_from
  simp! [if_pos lst1]
  have h5 : run (E k) WN (.while_ (.var 2) cfB) [.dat P.D, .dat (.int i), .dat (.list [.tuple [.int i]]), .no, .no, .no, .no] = some o := h1
  unfold cfB cfF at h5
  rw [h5]
  unfold cycFrom
  rcases h2 with rfl | ⟨⟨ρ, rfl⟩, h6⟩
  · rfl
  · rw [h6]
    simp! [List.length_nil, Nat.zero_le]
    rfl
end R60

end -- S7
section -- S8
set_option Elab.async false
set_option linter.all false
set_option maxRecDepth 100000
set_option maxHeartbeats 4000000
/-! What the pure defs answer, VIII: the cycle told, intervals, the told contradiction. -/
namespace R60
open PySem L2
open SeqAt (shaped)
open PySem.W (alike alikeAll minD)
/-! ### cycle_of -/
abbrev lrD (c : List Nat) : PyData := .tuple [.int c.length, tupN c]
theorem alike_nats : ∀ l m : List Nat, alikeAll (natsD l) (natsD m) = true
  | [], m => by cases m <;> rfl
  | a :: l, [] => rfl
  | a :: l, b :: m => by
    show (alike (.int a) (.int b) && alikeAll (natsD l) (natsD m)) = true
    rw [alike_nats l m]; rfl
theorem alike_lr (c e : List Nat) : alike (lrD c) (lrD e) = true := by
  show (true && (alike (.tuple (natsD c)) (.tuple (natsD e)) && true)) = true
  rw [show alike (.tuple (natsD c)) (.tuple (natsD e)) = alikeAll (natsD c) (natsD e) by simp only [alike], alike_nats]
  rfl
theorem minD_in : ∀ (xs : List PyData) (x : PyData), minD x xs ∈ x :: xs
  | [], x => List.mem_cons_self
  | y :: xs, x => by
    show minD (if PySem.W.dataLt y x then y else x) xs ∈ _
    have := minD_in xs (if PySem.W.dataLt y x then y else x)
    rcases List.mem_cons.mp this with h | h
    · rw [h]
      by_cases c : PySem.W.dataLt y x = true
      · rw [if_pos c]; exact List.mem_cons_of_mem _ List.mem_cons_self
      · rw [if_neg c]; exact List.mem_cons_self
    · exact List.mem_cons_of_mem _ (List.mem_cons_of_mem _ h)
theorem minLD_lr {c : List Nat} {cs : List (List Nat)} (hl : ∀ e ∈ c :: cs, e.length ≤ 1000) : ∃ e ∈ c :: cs, minLD ((c :: cs).map lrD) = some (lrD e) := by
  have h1 : allM intOfD ((c :: cs).map lrD) = none := rfl
  have h2 : alikeB ((c :: cs).map lrD) = true := by
    unfold alikeB
    rw [Bool.and_eq_true, List.all_eq_true, List.all_eq_true]
    refine ⟨fun x hx => List.all_eq_true.mpr fun y hy => ?_, fun x hx => ?_⟩
    · obtain ⟨a, _, rfl⟩ := List.mem_map.mp hx
      obtain ⟨b, _, rfl⟩ := List.mem_map.mp hy
      exact alike_lr a b
    · obtain ⟨a, _, rfl⟩ := List.mem_map.mp hx
      rfl
  have h3 : PyData.depthAll ((c :: cs).map lrD) ≤ 32 := by
    have := (fineAll (n := 2) ((c :: cs).map lrD) fun d hd => by
      obtain ⟨a, ha, rfl⟩ := List.mem_map.mp hd
      refine fine_lay 2 _ (fine_mk (by simp) fun d hd => ?_)
      simp only [List.mem_cons, List.not_mem_nil, or_false] at hd
      rcases hd with rfl | rfl
      · exact fine_i
      · exact fine_natsT (hl a ha)).2
    omega
  have h4 : minLD ((c :: cs).map lrD) = some (minD (lrD c) (cs.map lrD)) := by
    unfold minLD
    rw [h1]
    show (if alikeB ((c :: cs).map lrD) && decide (PyData.depthAll ((c :: cs).map lrD) ≤ 32) then some (minD (lrD c) (cs.map lrD)) else none) = _
    rw [h2, decide_eq_true h3]
    rfl
  have h5 := minD_in (cs.map lrD) (lrD c)
  rw [show lrD c :: cs.map lrD = (c :: cs).map lrD from rfl] at h5
  obtain ⟨e, he, h6⟩ := List.mem_map.mp h5
  exact ⟨e, he, by rw [h4, h6]⟩
abbrev coB : St := (.cons (.ext 1 (.lc false [3] (.itS (.call 22 (.cons (.var 0) (.cons (.var 2) .nil)))) (.bl true) (.tup (.cons (.len (.var 3)) (.cons (.var 3) .nil))))) .nil)
def cycAll (P : Prob) (l : List Nat) : List (List Nat) := l.flatMap (cycFrom P)
theorem sp_cycle {k : Nat} (hk : 3 ≤ k) {P : Prob} (ok : P.Ok) (h4 : P.n ≤ 4) (hc : cyc P = true) : ∃ c, E k 23 [P.D] = some (tupN c) ∧ path P c ∧ (∀ x ∈ c, x < P.n) ∧ 1 < c.length ∧ c.headD 0 = c.getLastD 0 ∧ c.length ≤ 8 := by
  obtain ⟨k, rfl⟩ : ∃ j, k = j + 1 := ⟨k - 1, by omega⟩
  have n7 := ok.n7
  obtain ⟨ρ', h1, s2, rfl⟩ := forGo_pre (bind := fun d ρ => bindT [2] ρ d) (body := run (E k) WN coB) (fun i : Nat => PyData.int i) (fun done ρ => ∃ s2, ρ = [.dat (.tuple [.int P.n, .tuple (P.cs.map Con.D)]), .mut ((cycAll P done).map lrD), s2, .no]) (List.range P.n) (fun done a rest ρ e r => by
    obtain ⟨s2, rfl⟩ := r
    have ha : a < P.n := List.mem_range.mp (by rw [e]; simp)
    have hd : done.length ≤ 4 := by
      have := congrArg List.length e
      rw [List.length_range, List.length_append, List.length_cons] at this
      omega
    have hdm : ∀ x ∈ done, x < P.n := fun x hx => List.mem_range.mp (by rw [e]; simp [hx])
    obtain ⟨g1, g2, g3⟩ := sp_cyclesfrom (k := k) (by omega) ok h4 ha
    have all : ∀ l : List Nat, (∀ x ∈ l, x < P.n) → (cycAll P l).length ≤ 256 * l.length := by
      intro l
      induction l with
      | nil => intro _; exact Nat.zero_le _
      | cons x l ih =>
        intro h
        have := ih fun y hy => h y (List.mem_cons_of_mem _ hy)
        have g := (sp_cyclesfrom (k := k) (by omega) ok h4 (h x List.mem_cons_self)).2.1
        unfold cycAll at this ⊢
        rw [List.flatMap_cons, List.length_append, List.length_cons]
        omega
    have hall := all done hdm
    refine ⟨_, _, bind1, ?_, .dat (.int a), rfl⟩
    show run (E k) WN coB [.dat (.tuple [.int P.n, .tuple (P.cs.map Con.D)]), .mut ((cycAll P done).map lrD), .dat (.int a), .no] = _
    unfold coB
    simp! [show E k 22 [.tuple [.int P.n, .tuple (P.cs.map Con.D)], .int a] = _ from g1]
    rw [lc_all (cycFrom P a) (fun r => tupN r) lrD (by omega) fun c hcc => ⟨_, bind1, t_yes, by
      show ev (E k) _ [.dat (.tuple [.int P.n, .tuple (P.cs.map Con.D)]), .mut ((cycAll P done).map lrD), .dat (.int a), .dat (tupN c)] = _
      simp! [List.length_cons, List.length_nil, show 0 + 1 + 1 ≤ 100000 from by decide, natsD_lenL]⟩]
    simp! [List.length_map]
    rw [if_pos (by omega)]
    simp! []
    have e3 : (cycAll P done).map lrD ++ (cycFrom P a).map lrD = (cycAll P (done ++ [a])).map lrD := by
      unfold cycAll
      rw [← List.map_append, List.flatMap_append]
      simp
    rw [e3]) (List.range P.n) [] [.dat (.tuple [.int P.n, .tuple (P.cs.map Con.D)]), .mut [], .no, .no] rfl ⟨.no, rfl⟩
  obtain ⟨item, hi, hne⟩ := cyc_found ok hc
  obtain ⟨c0, hc0⟩ := List.exists_mem_of_ne_nil _ hne
  have hall : ∀ c ∈ cycAll P (List.range P.n), ∃ i, i < P.n ∧ c ∈ cycFrom P i := fun c hcc => by
    obtain ⟨i, hi, h⟩ := List.mem_flatMap.mp hcc
    exact ⟨i, List.mem_range.mp hi, h⟩
  have hin : c0 ∈ cycAll P (List.range P.n) := List.mem_flatMap.mpr ⟨item, List.mem_range.mpr hi, hc0⟩
  cases hA : cycAll P (List.range P.n) with
  | nil => rw [hA] at hin; cases hin
  | cons a as =>
    obtain ⟨c, hcm, hm⟩ := minLD_lr (c := a) (cs := as) fun e he => by
      rw [← hA] at he
      obtain ⟨i, hi, h⟩ := hall e he
      have := (sp_cyclesfrom (k := k) (by omega) ok h4 hi).2.2 e h
      omega
    rw [← hA] at hcm
    obtain ⟨i, hi, h⟩ := hall c hcm
    obtain ⟨v, e1, e2, e3⟩ := cycFrom_ok hi h
    refine ⟨c, ?_, e2, e3, by rw [e1]; simp, ?_, (sp_cyclesfrom (k := k) (by omega) ok h4 hi).2.2 c h⟩
    · show (run (E k) WN p_cycle_of [.dat (.tuple [.int P.n, .tuple (P.cs.map Con.D)]), .no, .no, .no]).map outD = _
      unfold p_cycle_of
      simp! [List.length_nil, Nat.zero_le, itR_nat (n := P.n) (by omega)]
      have h2 : forGo (fun d ρ => bindT [2] ρ d) (run (E k) WN coB) (natsD (List.range P.n)) [.dat (.tuple [.int P.n, .tuple (P.cs.map Con.D)]), .mut [], .no, .no] = _ := h1
      unfold coB at h2
      rw [h2, hA]
      simp! [h_frx, show frzS (.mut ((a :: as).map lrD)) = .dat (.list ((a :: as).map lrD)) from rfl, show ((a :: as).map lrD).isEmpty = false from rfl, hm]
    · rw [e1]
      show i = _
      rw [show i :: (v ++ [i]) = (i :: v) ++ [i] from rfl, List.getLastD_concat]
end R60

end -- S8
section -- S9
set_option Elab.async false
set_option linter.all false
set_option maxRecDepth 100000
set_option maxHeartbeats 4000000
/-! What the pure defs answer, IX: intervals, the told contradiction. -/
namespace R60
open PySem L2
open SeqAt (shaped)
abbrev dueP (P : Prob) (p : Int × Int) : List Nat := due P (Et P) (Lt P) p.1 p.2
def ivD (P : Prob) (p : Int × Int) : PyData := .tuple [.int p.1, .int p.2, tupN (dueP P p)]
def ivRow (P : Prob) (lo : Int) (hs : List Nat) : List (Int × Int) := hs.map fun h : Nat => (lo, (h : Int))
def ivs (P : Prob) (ls : List Nat) : List (Int × Int) := ls.flatMap fun a : Nat => ivRow P (1 + (a : Int)) (List.range (P.n + 1))
abbrev lateL (P : Prob) (lo : Int) : List Nat := (List.range P.n).filter fun i => decide (lo ≤ Et P i)
theorem due_split (P : Prob) (lo hi : Int) : (lateL P lo).filter (fun i => decide (Lt P i ≤ hi)) = dueP P (lo, hi) := by
  unfold lateL dueP due
  rw [List.filter_filter]
  apply List.filter_congr
  intro a _
  rw [Bool.and_comm]
abbrev ivB1 : St := (.cons (.app 3 (.tup (.cons (.var 4) (.cons (.var 6) (.cons (.tupOf (.lc false [7] (.itS (.var 5)) (.le (.ix (.var 2) (.var 7)) (.var 6)) (.var 7))) .nil))))) .nil)
abbrev ivB : St := (.cons (.set 5 (.lc false [7] (.itR (.ix (.var 0) (.int 0))) (.ge (.ix (.var 1) (.var 7)) (.var 4)) (.var 7))) (.cons (.for_ false [6] (.itR (.add (.ix (.var 0) (.int 0)) (.int 1))) ivB1) .nil))
abbrev ivS (P : Prob) (acc : List (Int × Int)) (s4 s5 s6 : Sl) : List Sl := [.dat (.tuple [.int P.n, .tuple (P.cs.map Con.D)]), .dat (.list (intsD (early P))), .dat (.list (intsD (late P))), .mut (acc.map (ivD P)), s4, s5, s6, .no]
theorem lateL_len (P : Prob) (lo : Int) : (lateL P lo).length ≤ P.n := by
  have := List.length_filter_le (fun i => decide (lo ≤ Et P i)) (List.range P.n)
  rw [List.length_range] at this
  exact this
theorem iv_app {F : Fs} {P : Prob} (ok : P.Ok) {acc : List (Int × Int)} {lo hi : Int} (h : acc.length < 100000) :
    run F WN ivB1 (ivS P acc (.dat (.int lo)) (.dat (.list (natsD (lateL P lo)))) (.dat (.int hi))) = some (.nx (ivS P (acc ++ [(lo, hi)]) (.dat (.int lo)) (.dat (.list (natsD (lateL P lo)))) (.dat (.int hi)))) := by
  have n7 := ok.n7
  have ll := lateL_len P lo
  unfold ivB1 ivS
  simp! []
  rw [lc_natsN (lateL P lo) (fun i => decide (Lt P i ≤ hi)) (by omega) fun a ha => ⟨_, bind1, by
    have han : a < P.n := List.mem_range.mp (List.mem_filter.mp ha).1
    show evT F _ [.dat (.tuple [.int P.n, .tuple (P.cs.map Con.D)]), .dat (.list (intsD (early P))), .dat (.list (intsD (late P))), .mut (acc.map (ivD P)), .dat (.int lo), .dat (.list (natsD (lateL P lo))), .dat (.int hi), .dat (.int a)] = _
    simp! [atI_int (A := late P) (i := a) (by rw [late_len]; exact han)], fun _ => rfl⟩, due_split]
  simp! [List.length_cons, List.length_nil, show 0 + 1 + 1 + 1 ≤ 100000 from by decide, List.length_map, if_pos h]
  rw [List.map_append]
  rfl
theorem iv_body {F : Fs} {P : Prob} (ok : P.Ok) {acc : List (Int × Int)} {lo : Int} {s5 s6 : Sl} (h : acc.length ≤ 1000) :
    ∃ s5' s6', run F WN ivB (ivS P acc (.dat (.int lo)) s5 s6) = some (.nx (ivS P (acc ++ ivRow P lo (List.range (P.n + 1))) (.dat (.int lo)) s5' s6')) := by
  have n7 := ok.n7
  unfold ivB ivS
  simp! [itR_nat (n := P.n) (by omega)]
  rw [lc_natsN (List.range P.n) (fun i => decide (lo ≤ Et P i)) (by rw [List.length_range]; omega) fun a ha => ⟨_, bind1, by
    have han : a < P.n := List.mem_range.mp ha
    show evT F _ [.dat (.tuple [.int P.n, .tuple (P.cs.map Con.D)]), .dat (.list (intsD (early P))), .dat (.list (intsD (late P))), .mut (acc.map (ivD P)), .dat (.int lo), s5, s6, .dat (.int a)] = _
    simp! [atI_int (A := early P) (i := a) (by rw [early_len]; exact han)], fun _ => rfl⟩]
  simp! [show (P.n : Int) + 1 = ((P.n + 1 : Nat) : Int) from rfl, itR_nat (n := P.n + 1) (by omega)]
  obtain ⟨ρ', h1, s6', rfl⟩ := forGo_pre (bind := fun d ρ => bindT [6] ρ d) (body := run F WN ivB1) (fun i : Nat => PyData.int i) (fun done ρ => ∃ s6', ρ = ivS P (acc ++ ivRow P lo done) (.dat (.int lo)) (.dat (.list (natsD (lateL P lo)))) s6') (List.range (P.n + 1)) (fun done a rest ρ e r => by
    obtain ⟨s6', rfl⟩ := r
    have hd : done.length ≤ 8 := by
      have := congrArg List.length e
      rw [List.length_range, List.length_append, List.length_cons] at this
      omega
    refine ⟨_, _, bind1, iv_app ok (by rw [List.length_append]; unfold ivRow; rw [List.length_map]; omega), .dat (.int a), ?_⟩
    unfold ivRow
    rw [List.map_append, List.append_assoc]
    rfl) (List.range (P.n + 1)) [] (ivS P acc (.dat (.int lo)) (.dat (.list (natsD (lateL P lo)))) s6) rfl ⟨s6, by unfold ivRow; rw [List.map_nil, List.append_nil]⟩
  refine ⟨.dat (.list (natsD (lateL P lo))), s6', ?_⟩
  have h2 : forGo (fun d ρ => bindT [6] ρ d) (run F WN ivB1) (natsD (List.range (P.n + 1))) [.dat (.tuple [.int P.n, .tuple (P.cs.map Con.D)]), .dat (.list (intsD (early P))), .dat (.list (intsD (late P))), .mut (acc.map (ivD P)), .dat (.int lo), .dat (.list (natsD (lateL P lo))), s6, .no] = _ := h1
  rw [h2]
  simp! []
theorem ivs_len (P : Prob) : ∀ ls : List Nat, (ivs P ls).length = ls.length * (P.n + 1)
  | [] => by simp [ivs]
  | a :: ls => by
    have ih := ivs_len P ls
    unfold ivs at ih ⊢
    rw [List.flatMap_cons, List.length_append, ih, List.length_cons, Nat.succ_mul]
    unfold ivRow
    rw [List.length_map, List.length_range]
    omega
theorem sp_intervals {k : Nat} (hk : 4 ≤ k) {P : Prob} (ok : P.Ok) : E k 25 [P.D] = some (.list ((ivs P (List.range (P.n + 1))).map (ivD P))) := by
  obtain ⟨k, rfl⟩ : ∃ j, k = j + 1 := ⟨k - 1, by omega⟩
  have n7 := ok.n7
  show (run (E k) WN p_intervals_of [.dat (.tuple [.int P.n, .tuple (P.cs.map Con.D)]), .no, .no, .no, .no, .no, .no, .no]).map outD = _
  unfold p_intervals_of
  have e1 : itR2D (.int 1) (.int ((P.n : Int) + 2)) = some ((List.range (P.n + 1)).map fun i : Nat => PyData.int (1 + (i : Int))) := by
    show (if ((P.n : Int) + 2 ≤ 100000 ∧ -100000 ≤ (P.n : Int) + 2) ∧ (1 : Int) ≤ 100000 ∧ -100000 ≤ (1 : Int) then some (rgD 1 ((P.n : Int) + 2)) else none) = _
    rw [if_pos (by omega)]
    unfold rgD
    rw [show ((P.n : Int) + 2 - 1).toNat = P.n + 1 by omega]
  simp! [show E k 17 [.tuple [.int P.n, .tuple (P.cs.map Con.D)]] = _ from sp_earliest (k := k) (by omega) ok, show E k 18 [.tuple [.int P.n, .tuple (P.cs.map Con.D)]] = _ from sp_latest (k := k) (by omega) ok, List.length_nil, Nat.zero_le, e1]
  obtain ⟨ρ', h1, s4, s5, s6, rfl⟩ := forGo_pre (bind := fun d ρ => bindT [4] ρ d) (body := run (E k) WN ivB) (fun i : Nat => PyData.int (1 + (i : Int))) (fun done ρ => ∃ s4 s5 s6, ρ = ivS P (ivs P done) s4 s5 s6) (List.range (P.n + 1)) (fun done a rest ρ e r => by
    obtain ⟨s4, s5, s6, rfl⟩ := r
    have hd : done.length ≤ 8 := by
      have := congrArg List.length e
      rw [List.length_range, List.length_append, List.length_cons] at this
      omega
    have hl : (ivs P done).length ≤ 8 * 8 := by
      rw [ivs_len]
      exact Nat.mul_le_mul hd (by omega)
    obtain ⟨s5', s6', hb⟩ := iv_body (F := E k) (s5 := s5) (s6 := s6) (lo := 1 + (a : Int)) ok (acc := ivs P done) (by omega)
    refine ⟨_, _, bind1, hb, .dat (.int (1 + (a : Int))), s5', s6', ?_⟩
    have : ivs P (done ++ [a]) = ivs P done ++ ivRow P (1 + (a : Int)) (List.range (P.n + 1)) := by
      unfold ivs
      rw [List.flatMap_append]
      simp
    rw [this]) (List.range (P.n + 1)) [] (ivS P [] .no .no .no) rfl ⟨.no, .no, .no, rfl⟩
  have h2 : forGo (fun d ρ => bindT [4] ρ d) (run (E k) WN ivB) ((List.range (P.n + 1)).map fun i : Nat => PyData.int (1 + (i : Int))) [.dat (.tuple [.int P.n, .tuple (P.cs.map Con.D)]), .dat (.list (intsD (early P))), .dat (.list (intsD (late P))), .mut [], .no, .no, .no, .no] = _ := h1
  unfold ivB ivB1 at h2
  rw [h2]
  unfold ivS
  simp! [h_frx]
  rfl
theorem mem_ivs {P : Prob} {p : Int × Int} : p ∈ ivs P (List.range (P.n + 1)) ↔ 1 ≤ p.1 ∧ p.1 ≤ P.n + 1 ∧ 0 ≤ p.2 ∧ p.2 ≤ P.n := by
  unfold ivs
  rw [List.mem_flatMap]
  constructor
  · rintro ⟨a, ha, h⟩
    unfold ivRow at h
    obtain ⟨b, hb, rfl⟩ := List.mem_map.mp h
    have h1 := List.mem_range.mp ha
    have h2 := List.mem_range.mp hb
    simp only
    omega
  · rintro ⟨h1, h2, h3, h4⟩
    refine ⟨(p.1 - 1).toNat, List.mem_range.mpr (by omega), ?_⟩
    unfold ivRow
    refine List.mem_map.mpr ⟨p.2.toNat, List.mem_range.mpr (by omega), ?_⟩
    apply Prod.ext
    · show 1 + ((p.1 - 1).toNat : Int) = p.1
      omega
    · show ((p.2.toNat : Nat) : Int) = p.2
      omega
/-! ### the told contradiction -/
abbrev tcB : St := (.cons (.ite (.gt (.len (.var 3)) (.call 24 (.cons (.var 1) (.cons (.var 2) .nil)))) (.cons (.set 4 (.lc false [5] (.itS (.var 3)) (.bl true) (.tup (.cons (.var 5) (.cons (.call 19 (.cons (.var 0) (.cons (.var 5) .nil))) (.cons (.call 20 (.cons (.var 0) (.cons (.var 5) .nil))) .nil)))))) (.cons (.ret (.tup (.cons (.str "overfull") (.cons (.var 1) (.cons (.var 2) (.cons (.tupOf (.var 4)) .nil)))))) .nil)) .nil) .nil)
theorem bind3 {a b c : Nat} {ρ : List Sl} {d e f : PyData} : bindT [a, b, c] ρ (.tuple [d, e, f]) = some (((ρ.set a (.dat d)).set b (.dat e)).set c (.dat f)) := rfl
theorem tc_body {k : Nat} (hk : 4 ≤ k) {P : Prob} (ok : P.Ok) (hc : cyc P = false) {p : Int × Int} {s4 : Sl} (hp : 1 ≤ p.1 ∧ p.1 ≤ P.n + 1 ∧ 0 ≤ p.2 ∧ p.2 ≤ P.n) :
    ∃ o, run (E k) WN tcB [.dat P.D, .dat (.int p.1), .dat (.int p.2), .dat (tupN (dueP P p)), s4, .no] = some o ∧ ((o = .nx [.dat P.D, .dat (.int p.1), .dat (.int p.2), .dat (tupN (dueP P p)), s4, .no] ∧ ((dueP P p).length : Int) ≤ placesOf p.1 p.2) ∨ ∃ d, o = .rt d ∧ isContrD P d = true ∧ fine 4 d = true) := by
  have n7 := ok.n7
  have dl : (dueP P p).length ≤ P.n := nodup_bound due_nodup fun x hx => (mem_due.mp hx).1
  unfold tcB
  by_cases h : placesOf p.1 p.2 < ((dueP P p).length : Int)
  · simp! [natsD_lenL, sp_places (k := k) (by omega), decide_eq_true h]
    have lows : ∀ i : Nat, ∃ c : List Nat, i < P.n → E k 19 [P.D, .int i] = some (tupN c) ∧ LowCh P i c ∧ c.length ≤ 7 := fun i => by
      by_cases hi : i < P.n
      · obtain ⟨c, hc⟩ := sp_lower hk ok hc hi
        exact ⟨c, fun _ => hc⟩
      · exact ⟨[], fun z => absurd z hi⟩
    have ups : ∀ i : Nat, ∃ c : List Nat, i < P.n → E k 20 [P.D, .int i] = some (tupN c) ∧ UpCh P i c ∧ c.length ≤ 7 := fun i => by
      by_cases hi : i < P.n
      · obtain ⟨c, hc⟩ := sp_upper hk ok hc hi
        exact ⟨c, fun _ => hc⟩
      · exact ⟨[], fun z => absurd z hi⟩
    obtain ⟨lc, hlc⟩ := Classical.axiomOfChoice lows
    obtain ⟨uc, huc⟩ := Classical.axiomOfChoice ups
    rw [lc_natsA (dueP P p) (fun i => rowD i (lc i) (uc i)) (by omega) fun i hi => ⟨_, bind1, t_yes, by
      have hin := (mem_due.mp hi).1
      show ev (E k) _ [.dat P.D, .dat (.int p.1), .dat (.int p.2), .dat (tupN (dueP P p)), s4, .dat (.int i)] = _
      simp! [(hlc i hin).1, (huc i hin).1, List.length_cons, List.length_nil, show 0 + 1 + 1 + 1 ≤ 100000 from by decide]
      rfl⟩]
    simp! [h_frx, frzS, List.length_cons, List.length_nil, show 0 + 1 + 1 + 1 + 1 ≤ 100000 from by decide]
    refine ⟨_, rfl, .inr ⟨_, rfl, ?_, ?_⟩⟩
    · refine over_passes ok hp.1 hp.2.1 hp.2.2.1 hp.2.2.2 (by rw [List.length_map]) (fun j i hj => ?_) h
      have hin : i < P.n := (mem_due.mp (List.mem_iff_getElem?.mpr ⟨j, hj⟩)).1
      refine ⟨lc i, uc i, ?_, (hlc i hin).2.1, (huc i hin).2.1⟩
      rw [List.getElem?_map, hj]
      rfl
    · refine fine_mk (by simp) fun d hd => ?_
      simp only [List.mem_cons, List.not_mem_nil, or_false] at hd
      rcases hd with rfl | rfl | rfl | rfl
      · exact fine_s ok_overfull
      · exact fine_i
      · exact fine_i
      · refine fine_mk (by rw [List.length_map]; omega) fun d hd => ?_
        obtain ⟨i, hi, rfl⟩ := List.mem_map.mp hd
        have hin := (mem_due.mp hi).1
        refine fine_mk (by simp) fun d hd => ?_
        simp only [List.mem_cons, List.not_mem_nil, or_false] at hd
        rcases hd with rfl | rfl | rfl
        · exact fine_i
        · exact fine_natsT (by have := (hlc i hin).2.2; omega)
        · exact fine_natsT (by have := (huc i hin).2.2; omega)
  · simp! [natsD_lenL, sp_places (k := k) (by omega), decide_eq_false h]
    exact ⟨_, rfl, .inl ⟨rfl, by omega⟩⟩
theorem sp_told {k : Nat} (hk : 5 ≤ k) {P : Prob} (ok : P.Ok) (h4 : P.n ≤ 4) : ∃ d, E k 26 [P.D] = some d ∧ ((d = .none ∧ Feas P) ∨ (isContrD P d = true ∧ fine 4 d = true ∧ ¬ Feas P)) := by
  obtain ⟨k, rfl⟩ : ∃ j, k = j + 1 := ⟨k - 1, by omega⟩
  have n7 := ok.n7
  show ∃ d, (run (E k) WN p_told_contradiction [.dat P.D, .no, .no, .no, .no, .no]).map outD = some d ∧ _
  unfold p_told_contradiction
  cases hc : cyc P with
  | true =>
    obtain ⟨c, g1, g2, g3, g4, g5, g6⟩ := sp_cycle (k := k) (by omega) ok h4 hc
    simp! [sp_cyclic (k := k) (by omega) ok, hc, g1, List.length_cons, List.length_nil, show 0 + 1 + 1 ≤ 100000 from by decide]
    have h := cycle_passes g2 g3 g4 g5
    refine ⟨_, rfl, .inr ⟨h, ?_, contr_sound h⟩⟩
    refine fine_mk (by simp) fun d hd => ?_
    simp only [List.mem_cons, List.not_mem_nil, or_false] at hd
    rcases hd with rfl | rfl
    · exact fine_s ok_cycle
    · exact fine_natsT (by omega)
  | false =>
    simp! [sp_cyclic (k := k) (by omega) ok, hc, sp_intervals (k := k) (by omega) ok]
    obtain ⟨o, h1, h2⟩ := forGo_inv (bind := fun d ρ => bindT [1, 2, 3] ρ d) (body := run (E k) WN tcB) (ivD P) (fun ρ => ∃ s1 s2 s3 s4, ρ = [.dat P.D, s1, s2, s3, s4, .no]) (fun d => isContrD P d = true ∧ fine 4 d = true) (fun p => ((dueP P p).length : Int) ≤ placesOf p.1 p.2) (ivs P (List.range (P.n + 1))) (fun p hp ρ r => by
      obtain ⟨s1, s2, s3, s4, rfl⟩ := r
      obtain ⟨o, g1, g2⟩ := tc_body (k := k) (by omega) ok hc (s4 := s4) (mem_ivs.mp hp)
      refine ⟨_, o, bind3, g1, ?_⟩
      rcases g2 with ⟨rfl, g3⟩ | ⟨d, rfl, g4⟩
      · exact .inl ⟨_, rfl, ⟨_, _, _, _, rfl⟩, g3⟩
      · exact .inr ⟨d, rfl, g4⟩) [.dat P.D, .no, .no, .no, .no, .no] ⟨_, _, _, _, rfl⟩
    unfold tcB at h1
    rw [h1]
    rcases h2 with ⟨ρ', rfl, ⟨s1, s2, s3, s4, rfl⟩, h3⟩ | ⟨d, rfl, h3, h4⟩
    · simp! []
      refine ⟨_, rfl, .inl ⟨rfl, feas_of ok (win_of hc) fun lo hi a b c d => ?_⟩⟩
      exact h3 (lo, hi) (mem_ivs.mpr ⟨a, b, c, d⟩)
    · simp! []
      exact ⟨_, rfl, .inr ⟨h3, h4, contr_sound h3⟩⟩
end R60

end -- S9
section -- S10
set_option Elab.async false
set_option linter.all false
set_option maxRecDepth 100000
set_option maxHeartbeats 4000000
/-! What the pure defs answer, X: index sets, parts, conflicts, corrections. -/
namespace R60
open PySem L2
open SeqAt (shaped)
/-- a set of indexes -/
structure Ix (P : Prob) (I : List Nat) : Prop where
  so : I.Pairwise (· < ·)
  lt : ∀ x ∈ I, x < P.cs.length
theorem Ix.nd {P : Prob} {I : List Nat} (h : Ix P I) : I.Nodup := h.so.imp fun h => Nat.ne_of_lt h
theorem Ix.len {P : Prob} {I : List Nat} (h : Ix P I) : I.length ≤ P.cs.length := nodup_bound h.nd h.lt
theorem Ix.filter {P : Prob} {I : List Nat} (h : Ix P I) (p : Nat → Bool) : Ix P (I.filter p) := ⟨h.so.sublist List.filter_sublist, fun x hx => h.lt x (List.mem_filter.mp hx).1⟩
def conAt (P : Prob) (i : Nat) : Con := P.cs.getD i (.ahead 0 0)
def part (P : Prob) (I : List Nat) : Prob := ⟨P.n, I.map (conAt P)⟩
def lessN (I : List Nat) (x : Nat) : List Nat := I.filter fun y => !decide (y = x)
def restN (P : Prob) (I : List Nat) : List Nat := (List.range P.cs.length).filter fun y => !decide (y ∈ I)
theorem Ix.less {P : Prob} {I : List Nat} (h : Ix P I) (x : Nat) : Ix P (lessN I x) := h.filter _
theorem Ix.rest {P : Prob} {I : List Nat} : Ix P (restN P I) := ⟨asc_filter, fun x hx => List.mem_range.mp (List.mem_filter.mp hx).1⟩
theorem conAt_mem {P : Prob} {i : Nat} (h : i < P.cs.length) : conAt P i ∈ P.cs := by
  unfold conAt
  rw [List.getD_eq_getElem?_getD, List.getElem?_eq_getElem h]
  exact List.getElem_mem h
theorem part_ok {P : Prob} {I : List Nat} (ok : P.Ok) (h : Ix P I) : (part P I).Ok where
  n1 := ok.n1
  n7 := ok.n7
  m12 := by
    show (I.map (conAt P)).length ≤ 12
    rw [List.length_map]
    have := h.len
    have := ok.m12
    omega
  cok := fun c hc => by
    obtain ⟨i, hi, rfl⟩ := List.mem_map.mp hc
    exact ok.cok _ (conAt_mem (h.lt i hi))
theorem atI_con {P : Prob} {i : Nat} (h : i < P.cs.length) : atI (P.cs.map Con.D) (i : Int) = some (conAt P i).D := by
  refine atI_nat ?_
  unfold conAt
  rw [List.getElem?_map, List.getD_eq_getElem?_getD, List.getElem?_eq_getElem h]
  rfl
theorem getN (I : List Nat) {j : Nat} (h : j < I.length) : atI (natsD I) (j : Int) = some (.int (I.getD j 0 : Nat)) := by
  refine atI_nat ?_
  unfold natsD
  rw [List.getElem?_map, List.getD_eq_getElem?_getD, List.getElem?_eq_getElem h]
  rfl
theorem sp_areidx {k : Nat} (hk : 2 ≤ k) {P : Prob} (ok : P.Ok) {I : List Nat} (h : Ix P I) : E k 33 [P.D, tupN I] = some (.bool true) := by
  obtain ⟨k, rfl⟩ : ∃ j, k = j + 1 := ⟨k - 1, by omega⟩
  have hl := h.len
  have m := ok.m12
  show (run (E k) WN p_are_indexes [.dat (.tuple [.int P.n, .tuple (P.cs.map Con.D)]), .dat (tupN I), .no, .no]).map outD = _
  unfold p_are_indexes
  simp! []
  rw [lc_natsA I (fun _ => .bool true) (by omega) fun i hi => ⟨_, bind1, t_yes, by
    show ev (E k) _ [.dat (.tuple [.int P.n, .tuple (P.cs.map Con.D)]), .dat (tupN I), .no, .dat (.int i)] = _
    have := h.lt i hi
    simp! [List.length_map, sp_whole (k := k) (by omega), isWhole_nat (show (0 : Int) ≤ i by omega) (show (i : Int) ≤ (P.cs.length : Int) - 1 by omega)]⟩]
  simp! [allM_blf, all_map_id, List.all_eq_true.mpr (fun (_ : Nat) (_ : _ ∈ I) => (rfl : true = true)), natsD_lenL, itR_pred (n := I.length) (by omega)]
  rw [lc_natsA (List.range (I.length - 1)) (fun _ => .bool true) (by rw [List.length_range]; omega) fun j hj => ⟨_, bind1, t_yes, by
    have hj2 := List.mem_range.mp hj
    show ev (E k) _ [.dat (.tuple [.int P.n, .tuple (P.cs.map Con.D)]), .dat (tupN I), .dat (.int j), .no] = _
    have hs := h.so
    rw [List.pairwise_iff_getElem] at hs
    have hs2 := hs j (j + 1) (by omega) (by omega) (by omega)
    simp! [getN I (j := j) (by omega), show (j : Int) + 1 = ((j + 1 : Nat) : Int) from rfl, getN I (j := j + 1) (by omega), lt_nat]
    rw [List.getD_eq_getElem?_getD, List.getD_eq_getElem?_getD, List.getElem?_eq_getElem (by omega), List.getElem?_eq_getElem (by omega)]
    simp only [Option.getD_some]
    rw [decide_eq_true hs2]⟩]
  simp! [allM_blf, all_map_id, List.all_eq_true.mpr (fun (_ : Nat) (_ : _ ∈ List.range (I.length - 1)) => (rfl : true = true))]
theorem sp_chkidx {k : Nat} (hk : 5 ≤ k) {P : Prob} (ok : P.Ok) {I : List Nat} (h : Ix P I) : E k 34 [P.D, tupN I] = some .none := by
  obtain ⟨k, rfl⟩ : ∃ j, k = j + 1 := ⟨k - 1, by omega⟩
  show (run (E k) WN p_check_indexes [.dat P.D, .dat (tupN I)]).map outD = _
  unfold p_check_indexes
  simp! [sp_check7 (k := k) (by omega) ok, sp_areidx (k := k) (by omega) ok h]
  rfl
theorem sp_partof {k : Nat} (hk : 1 ≤ k) {P : Prob} (ok : P.Ok) {I : List Nat} (h : Ix P I) : E k 35 [P.D, tupN I] = some (part P I).D := by
  obtain ⟨k, rfl⟩ : ∃ j, k = j + 1 := ⟨k - 1, by omega⟩
  have hl := h.len
  have m := ok.m12
  show (run (E k) WN p_part_of [.dat (.tuple [.int P.n, .tuple (P.cs.map Con.D)]), .dat (tupN I), .no]).map outD = _
  unfold p_part_of
  simp! []
  rw [lc_natsA I (fun i => (conAt P i).D) (by omega) fun i hi => ⟨_, bind1, t_yes, by
    show ev (E k) _ [.dat (.tuple [.int P.n, .tuple (P.cs.map Con.D)]), .dat (tupN I), .dat (.int i)] = _
    simp! [atI_con (h.lt i hi)]⟩]
  simp! [List.length_cons, List.length_nil, show 0 + 1 + 1 ≤ 100000 from by decide]
  show some (PyData.tuple [.int P.n, .tuple (I.map fun i => (conAt P i).D)]) = some (.tuple [.int P.n, .tuple ((I.map (conAt P)).map Con.D)])
  rw [List.map_map]
  rfl
theorem sp_part {k : Nat} (hk : 6 ≤ k) {P : Prob} (ok : P.Ok) {I : List Nat} (h : Ix P I) : E k 36 [P.D, tupN I] = some (part P I).D := by
  obtain ⟨k, rfl⟩ : ∃ j, k = j + 1 := ⟨k - 1, by omega⟩
  show (run (E k) WN p_part [.dat P.D, .dat (tupN I)]).map outD = _
  unfold p_part
  simp! [sp_chkidx (k := k) (by omega) ok h, sp_partof (k := k) (by omega) ok h]
theorem less_run {F : Fs} {I : List Nat} (hl : I.length ≤ 1000) (x : Nat) {p : St} (hp : p = p_less) : (run F WN p [.dat (tupN I), .dat (.int x), .no]).map outD = some (tupN (lessN I x)) := by
  subst hp
  unfold p_less
  simp! []
  rw [lc_natsN I (fun y => !decide (y = x)) (by omega) fun y hy => ⟨_, bind1, by
    show evT F _ [.dat (tupN I), .dat (.int x), .dat (.int y)] = _
    simp! [eq_nat], fun _ => rfl⟩]
  simp! []
  rfl
theorem sp_less {k : Nat} (hk : 1 ≤ k) {I : List Nat} (hl : I.length ≤ 1000) (x : Nat) : E k 39 [tupN I, .int x] = some (tupN (lessN I x)) := by
  obtain ⟨k, rfl⟩ : ∃ j, k = j + 1 := ⟨k - 1, by omega⟩
  exact less_run hl x rfl
theorem sp_lwithout {k : Nat} (hk : 1 ≤ k) {I : List Nat} (hl : I.length ≤ 1000) (x : Nat) : E k 52 [tupN I, .int x] = some (tupN (lessN I x)) := by
  obtain ⟨k, rfl⟩ : ∃ j, k = j + 1 := ⟨k - 1, by omega⟩
  exact less_run (p := p_law_without) hl x rfl
theorem rest_run {F : Fs} {P : Prob} (ok : P.Ok) {I : List Nat} {p : St} (hp : p = p_others_of) : (run F WN p [.dat (.tuple [.int P.n, .tuple (P.cs.map Con.D)]), .dat (tupN I), .no]).map outD = some (tupN (restN P I)) := by
  subst hp
  have m := ok.m12
  unfold p_others_of
  simp! [List.length_map, itR_nat (n := P.cs.length) (by omega)]
  rw [lc_natsN (List.range P.cs.length) (fun y => !decide (y ∈ I)) (by rw [List.length_range]; omega) fun y hy => ⟨_, bind1, by
    show evT F _ [.dat (.tuple [.int P.n, .tuple (P.cs.map Con.D)]), .dat (tupN I), .dat (.int y)] = _
    simp! [mem_natT], fun _ => rfl⟩]
  simp! []
  rfl
theorem sp_others {k : Nat} (hk : 1 ≤ k) {P : Prob} (ok : P.Ok) {I : List Nat} : E k 42 [P.D, tupN I] = some (tupN (restN P I)) := by
  obtain ⟨k, rfl⟩ : ∃ j, k = j + 1 := ⟨k - 1, by omega⟩
  exact rest_run ok rfl
theorem sp_lrest {k : Nat} (hk : 1 ≤ k) {P : Prob} (ok : P.Ok) {I : List Nat} : E k 53 [P.D, tupN I] = some (tupN (restN P I)) := by
  obtain ⟨k, rfl⟩ : ∃ j, k = j + 1 := ⟨k - 1, by omega⟩
  exact rest_run (p := p_law_rest) ok rfl
theorem sp_kept {k : Nat} (hk : 2 ≤ k) {P : Prob} (ok : P.Ok) {I : List Nat} (hl : I.length ≤ 1000) (x : Nat) : E k 43 [P.D, tupN I, .int x] = some (tupN (restN P (lessN I x))) := by
  obtain ⟨k, rfl⟩ : ∃ j, k = j + 1 := ⟨k - 1, by omega⟩
  show (run (E k) WN p_kept_with [.dat P.D, .dat (tupN I), .dat (.int x)]).map outD = _
  unfold p_kept_with
  simp! [sp_less (k := k) (by omega) hl x, sp_others (k := k) (by omega) ok]
theorem sp_lchosen {k : Nat} (hk : 1 ≤ k) {P : Prob} (ok : P.Ok) {I : List Nat} (h : Ix P I) : E k 51 [P.D, tupN I] = some (.list ((part P I).cs.map Con.D)) := by
  obtain ⟨k, rfl⟩ : ∃ j, k = j + 1 := ⟨k - 1, by omega⟩
  have hl := h.len
  have m := ok.m12
  show (run (E k) WN p_law_chosen [.dat (.tuple [.int P.n, .tuple (P.cs.map Con.D)]), .dat (tupN I), .no]).map outD = _
  unfold p_law_chosen
  simp! []
  rw [lc_natsA I (fun i => (conAt P i).D) (by omega) fun i hi => ⟨_, bind1, t_yes, by
    show ev (E k) _ [.dat (.tuple [.int P.n, .tuple (P.cs.map Con.D)]), .dat (tupN I), .dat (.int i)] = _
    simp! [atI_con (h.lt i hi)]⟩]
  simp! []
  show some (PyData.list (I.map fun i => (conAt P i).D)) = some (.list ((I.map (conAt P)).map Con.D))
  rw [List.map_map]
  rfl
/-! ### can_hold, conflicts, corrections -/
open Classical in
noncomputable def feasB (P : Prob) : Bool := decide (Feas P)
theorem feasB_t {P : Prob} : feasB P = true ↔ Feas P := @decide_eq_true_iff _ (Classical.propDecidable _)
theorem feasB_f {P : Prob} : feasB P = false ↔ ¬ Feas P := @decide_eq_false_iff_not _ (Classical.propDecidable _)
noncomputable def holdB (P : Prob) (I : List Nat) : Bool := feasB (part P I)
theorem notNone {P : Prob} {d : PyData} (h : isContrD P d = true) : isNoneB d = false := by
  cases d with
  | tuple ds => rfl
  | _ => cases h
theorem sp_canhold {k : Nat} (hk : 6 ≤ k) {P : Prob} (ok : P.Ok) (h4 : P.n ≤ 4) {I : List Nat} (h : Ix P I) : E k 38 [P.D, tupN I] = some (.bool (holdB P I)) := by
  obtain ⟨k, rfl⟩ : ∃ j, k = j + 1 := ⟨k - 1, by omega⟩
  show (run (E k) WN p_can_hold [.dat P.D, .dat (tupN I)]).map outD = _
  unfold p_can_hold
  obtain ⟨d, h1, h2⟩ := sp_told (k := k) (by omega) (part_ok ok h) h4
  simp! [sp_partof (k := k) (by omega) ok h, h1]
  unfold holdB
  rcases h2 with ⟨rfl, h3⟩ | ⟨h3, _, h5⟩
  · rw [feasB_t.mpr h3]; rfl
  · rw [feasB_f.mpr h5, notNone h3]
noncomputable def conflB (P : Prob) (I : List Nat) : Bool := !holdB P I && I.all fun x => holdB P (lessN I x)
noncomputable def corrB (P : Prob) (I : List Nat) : Bool := holdB P (restN P I) && !(I.any fun x => holdB P (restN P (lessN I x)))
theorem sp_isconf {k : Nat} (hk : 7 ≤ k) {P : Prob} (ok : P.Ok) (h4 : P.n ≤ 4) {I : List Nat} (h : Ix P I) : E k 40 [P.D, tupN I] = some (.bool (conflB P I)) := by
  obtain ⟨k, rfl⟩ : ∃ j, k = j + 1 := ⟨k - 1, by omega⟩
  have hl := h.len
  have m := ok.m12
  show (run (E k) WN p_is_conflict [.dat P.D, .dat (tupN I), .no]).map outD = _
  unfold p_is_conflict
  simp! [sp_canhold (k := k) (by omega) ok h4 h]
  unfold conflB
  cases holdB P I with
  | true => simp! []
  | false =>
    simp! []
    rw [lc_natsA I (fun x => .bool (holdB P (lessN I x))) (by omega) fun x hx => ⟨_, bind1, t_yes, by
      show ev (E k) _ [.dat P.D, .dat (tupN I), .dat (.int x)] = _
      simp! [sp_less (k := k) (by omega) (show I.length ≤ 1000 by omega) x, sp_canhold (k := k) (by omega) ok h4 (h.less x)]⟩]
    simp! [allM_blf, all_map_id]
theorem sp_iscorr {k : Nat} (hk : 7 ≤ k) {P : Prob} (ok : P.Ok) (h4 : P.n ≤ 4) {I : List Nat} (h : Ix P I) : E k 44 [P.D, tupN I] = some (.bool (corrB P I)) := by
  obtain ⟨k, rfl⟩ : ∃ j, k = j + 1 := ⟨k - 1, by omega⟩
  have hl := h.len
  have m := ok.m12
  show (run (E k) WN p_is_correction [.dat P.D, .dat (tupN I), .no]).map outD = _
  unfold p_is_correction
  simp! [sp_others (k := k) (by omega) ok, sp_canhold (k := k) (by omega) ok h4 (Ix.rest (P := P) (I := I))]
  unfold corrB
  cases holdB P (restN P I) with
  | false => simp! []
  | true =>
    simp! []
    rw [lc_natsA I (fun x => .bool (holdB P (restN P (lessN I x)))) (by omega) fun x hx => ⟨_, bind1, t_yes, by
      show ev (E k) _ [.dat P.D, .dat (tupN I), .dat (.int x)] = _
      simp! [sp_kept (k := k) (by omega) ok (show I.length ≤ 1000 by omega) x, sp_canhold (k := k) (by omega) ok h4 (Ix.rest (P := P) (I := lessN I x))]⟩]
    simp! [allM_blf, any_map_id]
end R60

end -- S10
section -- S11
set_option Elab.async false
set_option linter.all false
set_option maxRecDepth 100000
set_option maxHeartbeats 4000000
/-! What the pure defs answer, XI: rankings of any data. -/
namespace R60
open PySem L2
open SeqAt (shaped)
def natL : PyData → List Nat
  | .tuple ds => ds.map natOf
  | _ => []
def rkB (n : Nat) (v : PyData) : Bool := match v with
  | .tuple ds => decide (ds.length = n) && ds.all (fun d => isWholeD d 0 ((n : Int) - 1)) && decide ((ds.map natOf).Nodup)
  | _ => false
theorem natOf_nats (r : List Nat) : (natsD r).map natOf = r := by
  unfold natsD
  rw [List.map_map]
  conv => rhs; rw [← List.map_id r]
  apply List.map_congr_left
  intro a _
  simp [natOf]
theorem whole_nats {n : Nat} : ∀ {ds : List PyData}, ds.all (fun d => isWholeD d 0 ((n : Int) - 1)) = true → ∃ c : List Nat, ds = natsD c ∧ ∀ x ∈ c, x < n := fun {ds} h => items_shape (P := ⟨n, []⟩) h
theorem rkB_iff {n : Nat} {v : PyData} : rkB n v = true ↔ ∃ r, v = tupN r ∧ IsRk n r := by
  constructor
  · intro h
    cases v with
    | tuple ds =>
      have h0 : (decide (ds.length = n) && ds.all (fun d => isWholeD d 0 ((n : Int) - 1)) && decide ((ds.map natOf).Nodup)) = true := h
      rw [Bool.and_eq_true, Bool.and_eq_true, decide_eq_true_eq, decide_eq_true_eq] at h0
      obtain ⟨⟨h1, h2⟩, h3⟩ := h0
      obtain ⟨c, rfl, hc⟩ := whole_nats h2
      rw [natOf_nats] at h3
      rw [natsD_lenL] at h1
      exact ⟨c, rfl, h1, h3, hc⟩
    | _ => cases h
  · rintro ⟨r, rfl, hr⟩
    show (decide ((natsD r).length = n) && (natsD r).all (fun d => isWholeD d 0 ((n : Int) - 1)) && decide (((natsD r).map natOf).Nodup)) = true
    rw [natOf_nats, natsD_lenL, decide_eq_true hr.len, decide_eq_true hr.nd, show (natsD r).all (fun d => isWholeD d 0 ((n : Int) - 1)) = true from natsD_items (P := ⟨n, []⟩) hr.lt]
    rfl
theorem natL_t (r : List Nat) : natL (tupN r) = r := natOf_nats r
def goodB (P : Prob) (v : PyData) : Bool := rkB P.n v && good P (natL v)
theorem goodB_iff {P : Prob} {v : PyData} : goodB P v = true ↔ ∃ r, v = tupN r ∧ IsRk P.n r ∧ good P r = true := by
  unfold goodB
  rw [Bool.and_eq_true, rkB_iff]
  constructor
  · rintro ⟨⟨r, rfl, hr⟩, hg⟩
    rw [natL_t] at hg
    exact ⟨r, rfl, hr, hg⟩
  · rintro ⟨r, rfl, hr, hg⟩
    exact ⟨⟨r, rfl, hr⟩, by rw [natL_t]; exact hg⟩
/-! ### is_ranking -/
theorem cut0 (ds : List PyData) {j : Nat} (h : j ≤ ds.length) : cutD ds none (some (j : Int)) = ds.take j := by
  unfold cutD
  rw [HT.sIx_nat]
  show (ds.drop 0).take (min j ds.length - 0) = _
  rw [List.drop_zero, Nat.sub_zero, Nat.min_eq_left h]
theorem sl0 (ds : List PyData) {j : Nat} (h : j ≤ ds.length) : slD (.tuple ds) none (some (j : Int)) = some (.tuple (ds.take j)) := by
  show some (PyData.tuple (cutD ds none (some (j : Int)))) = _
  rw [cut0 ds h]
def rkT (n : Nat) (ds : List PyData) (p : PyData × Nat) : Bool := isWholeD p.1 0 ((n : Int) - 1) && !((ds.take p.2).any fun z => PyData.eqv z p.1)
theorem take_natsD (c : List Nat) (j : Nat) : (natsD c).take j = natsD (c.take j) := (List.map_take ..).symm
theorem rkT_all (n : Nat) (ds : List PyData) : (decide (ds.length = n) && (ds.zipIdx).all (rkT n ds)) = rkB n (.tuple ds) := by
  show _ = (decide (ds.length = n) && ds.all (fun d => isWholeD d 0 ((n : Int) - 1)) && decide ((ds.map natOf).Nodup))
  rw [Bool.and_assoc]
  congr 1
  cases hw : ds.all (fun d => isWholeD d 0 ((n : Int) - 1)) with
  | false =>
    rw [Bool.false_and]
    cases hz : (ds.zipIdx).all (rkT n ds) with
    | false => rfl
    | true =>
      rw [List.all_eq_true] at hz
      rw [← Bool.not_eq_true] at hw
      exfalso
      apply hw
      rw [List.all_eq_true]
      intro d hd
      obtain ⟨i, hi, e⟩ := List.mem_iff_getElem.mp hd
      have := hz (d, i) (by rw [List.mem_zipIdx_iff_getElem?]; simp [hi, e])
      unfold rkT at this
      rw [Bool.and_eq_true] at this
      exact this.1
  | true =>
    rw [Bool.true_and]
    obtain ⟨c, rfl, hc⟩ := whole_nats hw
    rw [natOf_nats]
    have key : (natsD c).zipIdx.all (rkT n (natsD c)) = true ↔ c.Nodup := by
      rw [List.all_eq_true]
      constructor
      · intro h
        unfold List.Nodup
        rw [List.pairwise_iff_getElem]
        intro i j hi hj hij e
        have := h (.int (c[j] : Nat), j) (by rw [List.mem_zipIdx_iff_getElem?]; unfold natsD; simp [hj])
        unfold rkT at this
        rw [Bool.and_eq_true, take_natsD, any_nat, Bool.not_eq_true', decide_eq_false_iff_not] at this
        refine this.2 ?_
        rw [← e]
        exact List.mem_take_iff_getElem.mpr ⟨i, by omega, rfl⟩
      · intro h p hp
        obtain ⟨d, j⟩ := p
        rw [List.mem_zipIdx_iff_getElem?] at hp
        simp only at hp
        unfold natsD at hp
        rw [List.getElem?_map] at hp
        have hj : j < c.length := by
          by_cases hj : j < c.length
          · exact hj
          · rw [List.getElem?_eq_none (by omega)] at hp
            cases hp
        rw [List.getElem?_eq_getElem hj] at hp
        cases hp
        unfold rkT
        rw [Bool.and_eq_true, take_natsD, any_nat, Bool.not_eq_true', decide_eq_false_iff_not]
        refine ⟨isWhole_nat (by omega) (by have := hc c[j] (List.getElem_mem hj); omega), fun hm => ?_⟩
        obtain ⟨i, hi, e⟩ := List.mem_take_iff_getElem.mp hm
        unfold List.Nodup at h
        rw [List.pairwise_iff_getElem] at h
        exact h i j (by omega) hj (by omega) e
    cases hz : (natsD c).zipIdx.all (rkT n (natsD c)) with
    | true => rw [decide_eq_true (key.mp hz)]
    | false =>
      rw [← Bool.not_eq_true] at hz
      rw [decide_eq_false fun z => hz (key.mpr z)]
theorem sp_isrk {k : Nat} (hk : 2 ≤ k) {v : PyData} {f : Nat} (hv : fine f v = true) (hf : f ≤ 60) (n : Nat) : E k 3 [.int n, v] = some (.bool (rkB n v)) := by
  obtain ⟨k, rfl⟩ : ∃ j, k = j + 1 := ⟨k - 1, by omega⟩
  show (run (E k) WN p_is_ranking [.dat (.int n), .dat v, .no, .no]).map outD = _
  unfold p_is_ranking
  cases v with
  | tuple ds =>
    obtain ⟨g, rfl, hl, hfi⟩ := fine_tup hv
    rw [← rkT_all]
    have e1 : decide ((ds.length : Int) = (n : Int)) = decide (ds.length = n) := eq_nat _ _
    simp! [e1]
    cases decide (ds.length = n) with
    | false => simp! []
    | true =>
      simp! [en_zip]
      rw [lc_all ds.zipIdx (fun p => PyData.tuple [.int (p.2 : Nat), p.1]) (fun p => .bool (rkT n ds p)) (by rw [List.length_zipIdx]; omega) fun p hp => ⟨_, bind2, t_yes, by
        show ev (E k) _ [.dat (.int n), .dat (.tuple ds), .dat (.int (p.2 : Nat)), .dat p.1] = _
        simp! [sp_whole (k := k) (by omega)]
        unfold rkT
        cases hw : isWholeD p.1 0 ((n : Int) - 1) with
        | false => simp! []
        | true =>
          obtain ⟨i, hi⟩ := whole_shape hw
          have hp2 : p.2 < ds.length := List.snd_lt_of_mem_zipIdx hp
          have hsh : shaped (.tuple (ds.take p.2)) = true := fine_shaped (n := g + 1) (fine_mk (by rw [List.length_take]; omega) fun d hd => hfi d (List.mem_of_mem_take hd)) (by omega)
          rw [hi]
          simp! [ion, sl0 ds (j := p.2) (by omega), show memD (.int i) (.tuple (ds.take p.2)) = some ((ds.take p.2).any fun z => PyData.eqv z (.int i)) by
            show (if shaped (.int i) && shaped (.tuple (ds.take p.2)) then some ((ds.take p.2).any fun z => PyData.eqv z (.int i)) else none) = _
            rw [hsh, shaped_i]
            rfl]⟩]
      simp! [allM_blf, all_map_id]
  | _ => simp! [h_iti, h_its, h_itn, h_itb]; rfl
/-! ### loops that stop at the first no -/
theorem forGo_all {α : Type} {bind : PyData → List Sl → Option (List Sl)} {body : List Sl → Option Out} (enc : α → PyData) (I : List Sl → Prop) (b : α → Bool) : ∀ (l : List α) (h : ∀ a ∈ l, ∀ ρ, I ρ → ∃ ρ1, bind (enc a) ρ = some ρ1 ∧ ((b a = true ∧ ∃ ρ2, body ρ1 = some (.nx ρ2) ∧ I ρ2) ∨ (b a = false ∧ body ρ1 = some (.rt (.bool false))))) (ρ : List Sl), I ρ →
    ∃ o, forGo bind body (l.map enc) ρ = some o ∧ ((l.all b = true ∧ ∃ ρ', o = .nx ρ' ∧ I ρ') ∨ (l.all b = false ∧ o = .rt (.bool false)))
  | [], _, ρ, r => ⟨_, rfl, .inl ⟨rfl, ρ, rfl, r⟩⟩
  | a :: l, h, ρ, r => by
    obtain ⟨ρ1, h1, h2⟩ := h a List.mem_cons_self ρ r
    rw [List.map_cons, forGo_cons, h1, Option.bind_some, List.all_cons]
    rcases h2 with ⟨h3, ρ2, h4, h5⟩ | ⟨h3, h4⟩
    · obtain ⟨o, h6, h7⟩ := forGo_all enc I b l (fun c hc => h c (List.mem_cons_of_mem _ hc)) ρ2 h5
      rw [h4, Option.bind_some, o_nx, h6, h3, Bool.true_and]
      exact ⟨o, rfl, h7⟩
    · rw [h4, Option.bind_some, h3]
      exact ⟨_, rfl, .inr ⟨rfl, rfl⟩⟩
/-! ### accepts_conflict, accepts_correction -/
def accConf (P : Prob) (I : List Nat) (v : PyData) : Bool := match v with
  | .tuple [c, .tuple rs] => isContrD (part P I) c && (decide (rs.length = I.length) && (I.zip rs).all fun p => goodB (part P (lessN I p.1)) p.2)
  | _ => false
def accCorr (P : Prob) (I : List Nat) (v : PyData) : Bool := match v with
  | .tuple [r, .tuple cs] => goodB (part P (restN P I)) r && (decide (cs.length = I.length) && (I.zip cs).all fun p => isContrD (part P (restN P (lessN I p.1))) p.2)
  | _ => false
theorem zip_int (I : List Nat) (rs : List PyData) : zipD (natsD I) rs = (I.zip rs).map fun p => PyData.tuple [.int (p.1 : Nat), p.2] := by
  rw [zip_eq]
  unfold natsD
  rw [List.zip_map_left, List.map_map]
  rfl
end R60

end -- S11
section -- S12
set_option Elab.async false
set_option linter.all false
set_option maxRecDepth 100000
set_option maxHeartbeats 4000000
/-! What the pure defs answer, XII: what is accepted. -/
namespace R60
open PySem L2
open SeqAt (shaped)
theorem sp_goodv {k : Nat} (hk : 4 ≤ k) {P : Prob} (ok : P.Ok) {r : List Nat} (hr : IsRk P.n r) : E k 6 [P.D, tupN r] = some (.bool (good P r)) := sp_good (by omega) ok hr
abbrev acB : St := (.cons (.ite (.or (.not (.call 3 (.cons (.ix (.var 0) (.int 0)) (.cons (.var 4) .nil)))) (.not (.call 6 (.cons (.call 35 (.cons (.var 0) (.cons (.call 39 (.cons (.var 1) (.cons (.var 3) .nil))) .nil))) (.cons (.var 4) .nil))))) (.cons (.ret (.bl false)) .nil) .nil) .nil)
theorem sp_accconf {k : Nat} (hk : 8 ≤ k) {P : Prob} (ok : P.Ok) {I : List Nat} (h : Ix P I) {v : PyData} {f : Nat} (hv : fine f v = true) (hf : f ≤ 60) : E k 41 [P.D, tupN I, v] = some (.bool (accConf P I v)) := by
  obtain ⟨k, rfl⟩ : ∃ j, k = j + 1 := ⟨k - 1, by omega⟩
  have hl := h.len
  have m := ok.m12
  show (run (E k) WN p_accepts_conflict [.dat P.D, .dat (tupN I), .dat v, .no, .no]).map outD = _
  unfold p_accepts_conflict
  simp! [sp_chkidx (k := k) (by omega) ok h]
  cases v with
  | tuple ds =>
    obtain ⟨g, rfl, hdl, hfi⟩ := fine_tup hv
    by_cases h2 : ds.length = 2
    · obtain ⟨c, w, rfl⟩ : ∃ c w, ds = [c, w] := by
        match ds, h2 with
        | [c, w], _ => exact ⟨c, w, rfl⟩
      have hc := hfi c (by simp)
      have hw := hfi w (by simp)
      simp! [List.length_cons, List.length_nil, show decide (((0 + 1 + 1 : Nat) : Int) = 2) = true from rfl, sp_partof (k := k) (by omega) ok h, sp_contr (k := k) (by omega) (part_ok ok h) hc]
      cases w with
      | tuple rs =>
        obtain ⟨g2, rfl, hrl, hrf⟩ := fine_tup hw
        show _ = some (PyData.bool (isContrD (part P I) c && (decide (rs.length = I.length) && (I.zip rs).all fun p => goodB (part P (lessN I p.1)) p.2)))
        cases isContrD (part P I) c with
        | false => simp! []
        | true =>
          simp! [natsD_lenL, eq_nat]
          cases decide (rs.length = I.length) with
          | false => simp! []
          | true =>
            simp! [zip_int]
            obtain ⟨o, h3, h4⟩ := forGo_all (bind := fun d ρ => bindT [3, 4] ρ d) (body := run (E k) WN acB) (fun p : Nat × PyData => PyData.tuple [.int (p.1 : Nat), p.2]) (fun ρ => ∃ s3 s4, ρ = [.dat P.D, .dat (tupN I), .dat (.tuple [c, .tuple rs]), s3, s4]) (fun p => goodB (part P (lessN I p.1)) p.2) (I.zip rs) (fun p hp ρ r => by
              obtain ⟨s3, s4, rfl⟩ := r
              have hp2 : fine g2 p.2 = true := hrf _ (List.of_mem_zip hp).2
              refine ⟨_, bind2, ?_⟩
              have hpo := part_ok ok (h.less p.1)
              have run1 : run (E k) WN acB [.dat P.D, .dat (tupN I), .dat (.tuple [c, .tuple rs]), .dat (.int (p.1 : Nat)), .dat p.2] = some (if goodB (part P (lessN I p.1)) p.2 = true then .nx [.dat P.D, .dat (tupN I), .dat (.tuple [c, .tuple rs]), .dat (.int (p.1 : Nat)), .dat p.2] else .rt (.bool false)) := by
                unfold acB
                simp! [show ixD P.D 0 = some (.int P.n) from atI_0, sp_isrk (k := k) (by omega) hp2 (by omega) P.n]
                cases hr : rkB P.n p.2 with
                | false =>
                  have : goodB (part P (lessN I p.1)) p.2 = false := by
                    show (rkB P.n p.2 && _) = false
                    rw [hr]; rfl
                  rw [this]
                  simp! []
                | true =>
                  obtain ⟨r, er, hrk⟩ := rkB_iff.mp hr
                  have : goodB (part P (lessN I p.1)) p.2 = good (part P (lessN I p.1)) r := by
                    show (rkB P.n p.2 && good (part P (lessN I p.1)) (natL p.2)) = _
                    rw [hr, er, natL_t]; rfl
                  rw [this, er]
                  simp! [sp_less (k := k) (by omega) (show I.length ≤ 1000 by omega) p.1, sp_partof (k := k) (by omega) ok (h.less p.1), sp_good (k := k) (by omega) hpo (r := r) hrk]
                  cases good (part P (lessN I p.1)) r with
                  | false => simp! []
                  | true => simp! []
              cases hg : goodB (part P (lessN I p.1)) p.2 with
              | true =>
                refine .inl ⟨rfl, _, ?_, .dat (.int (p.1 : Nat)), .dat p.2, rfl⟩
                rw [hg] at run1
                exact run1
              | false =>
                refine .inr ⟨rfl, ?_⟩
                rw [hg] at run1
                exact run1) [.dat P.D, .dat (tupN I), .dat (.tuple [c, .tuple rs]), .no, .no] ⟨_, _, rfl⟩
            unfold acB at h3
            rw [h3]
            rcases h4 with ⟨h5, ρ', rfl, s3, s4, rfl⟩ | ⟨h5, rfl⟩
            · rw [h5]; simp! []
            · rw [h5]; simp! []
      | _ =>
        have : ∀ w, isTupD w = false → accConf P I (.tuple [c, w]) = false := fun w hw => by
          cases w with
          | tuple rs => cases hw
          | _ => rfl
        rw [this _ rfl]
        cases isContrD (part P I) c with
        | false => simp! []
        | true => simp! [h_iti, h_its, h_itn, h_itb, show ∀ kvs, isiD .tup (.dict kvs) = false from fun _ => rfl]
    · have : accConf P I (.tuple ds) = false := by
        unfold accConf
        split
        · rename_i heq
          injection heq with heq
          rw [heq] at h2
          exact absurd rfl h2
        · rfl
      rw [this]
      simp! [show decide ((ds.length : Int) = 2) = false from decide_eq_false (by omega)]
  | _ => simp! [h_iti, h_its, h_itn, h_itb, show ∀ kvs, isiD .tup (.dict kvs) = false from fun _ => rfl]; rfl
def corrTail (P : Prob) (I : List Nat) (w : PyData) : Bool := match w with
  | .tuple cs => decide (cs.length = I.length) && (I.zip cs).all fun p => isContrD (part P (restN P (lessN I p.1))) p.2
  | _ => false
abbrev arB : St := (.cons (.ite (.not (.call 31 (.cons (.call 35 (.cons (.var 0) (.cons (.call 43 (.cons (.var 0) (.cons (.var 1) (.cons (.var 3) .nil)))) .nil))) (.cons (.var 4) .nil)))) (.cons (.ret (.bl false)) .nil) .nil) .nil)
theorem sp_acccorr {k : Nat} (hk : 8 ≤ k) {P : Prob} (ok : P.Ok) {I : List Nat} (h : Ix P I) {v : PyData} {f : Nat} (hv : fine f v = true) (hf : f ≤ 60) : E k 45 [P.D, tupN I, v] = some (.bool (accCorr P I v)) := by
  obtain ⟨k, rfl⟩ : ∃ j, k = j + 1 := ⟨k - 1, by omega⟩
  have hl := h.len
  have m := ok.m12
  show (run (E k) WN p_accepts_correction [.dat P.D, .dat (tupN I), .dat v, .no, .no]).map outD = _
  unfold p_accepts_correction
  simp! [sp_chkidx (k := k) (by omega) ok h]
  cases v with
  | tuple ds =>
    obtain ⟨g, rfl, hdl, hfi⟩ := fine_tup hv
    by_cases h2 : ds.length = 2
    · obtain ⟨c, w, rfl⟩ : ∃ c w, ds = [c, w] := by
        match ds, h2 with
        | [c, w], _ => exact ⟨c, w, rfl⟩
      have hc := hfi c (by simp)
      have hw := hfi w (by simp)
      have hpr := part_ok ok (Ix.rest (P := P) (I := I))
      simp! [List.length_cons, List.length_nil, show decide (((0 + 1 + 1 : Nat) : Int) = 2) = true from rfl, show ixD P.D 0 = some (.int P.n) from atI_0, sp_isrk (k := k) (by omega) hc (by omega) P.n]
      have e0 : accCorr P I (.tuple [c, w]) = (goodB (part P (restN P I)) c && corrTail P I w) := by
        cases w with
        | tuple cs => rfl
        | _ => show false = (goodB (part P (restN P I)) c && false); rw [Bool.and_false]
      rw [e0]
      cases hr : rkB P.n c with
      | false =>
        have : goodB (part P (restN P I)) c = false := by
          show (rkB P.n c && _) = false
          rw [hr]; rfl
        rw [this]
        simp! []
      | true =>
        obtain ⟨r, rfl, hrk⟩ := rkB_iff.mp hr
        have : goodB (part P (restN P I)) (tupN r) = good (part P (restN P I)) r := by
          show (rkB P.n (tupN r) && good (part P (restN P I)) (natL (tupN r))) = _
          rw [hr, natL_t]; rfl
        rw [this]
        simp! [sp_others (k := k) (by omega) ok, sp_partof (k := k) (by omega) ok (Ix.rest (P := P) (I := I)), sp_good (k := k) (by omega) hpr (r := r) hrk]
        cases good (part P (restN P I)) r with
        | false => simp! []
        | true =>
          cases w with
          | tuple rs =>
            obtain ⟨g2, rfl, hrl, hrf⟩ := fine_tup hw
            show _ = some (PyData.bool (true && (decide (rs.length = I.length) && (I.zip rs).all fun p => isContrD (part P (restN P (lessN I p.1))) p.2)))
            simp! [natsD_lenL, eq_nat]
            cases decide (rs.length = I.length) with
            | false => simp! []
            | true =>
              simp! [zip_int]
              obtain ⟨o, h3, h4⟩ := forGo_all (bind := fun d ρ => bindT [3, 4] ρ d) (body := run (E k) WN arB) (fun p : Nat × PyData => PyData.tuple [.int (p.1 : Nat), p.2]) (fun ρ => ∃ s3 s4, ρ = [.dat P.D, .dat (tupN I), .dat (.tuple [tupN r, .tuple rs]), s3, s4]) (fun p => isContrD (part P (restN P (lessN I p.1))) p.2) (I.zip rs) (fun p hp ρ rr => by
                obtain ⟨s3, s4, rfl⟩ := rr
                have hp2 : fine g2 p.2 = true := hrf _ (List.of_mem_zip hp).2
                refine ⟨_, bind2, ?_⟩
                have hpo := part_ok ok (Ix.rest (P := P) (I := lessN I p.1))
                have run1 : run (E k) WN arB [.dat P.D, .dat (tupN I), .dat (.tuple [tupN r, .tuple rs]), .dat (.int (p.1 : Nat)), .dat p.2] = some (if isContrD (part P (restN P (lessN I p.1))) p.2 = true then .nx [.dat P.D, .dat (tupN I), .dat (.tuple [tupN r, .tuple rs]), .dat (.int (p.1 : Nat)), .dat p.2] else .rt (.bool false)) := by
                  unfold arB
                  simp! [sp_kept (k := k) (by omega) ok (show I.length ≤ 1000 by omega) p.1, sp_partof (k := k) (by omega) ok (Ix.rest (P := P) (I := lessN I p.1)), sp_contr (k := k) (by omega) hpo hp2]
                  cases isContrD (part P (restN P (lessN I p.1))) p.2 with
                  | false => simp! []
                  | true => simp! []
                cases hg : isContrD (part P (restN P (lessN I p.1))) p.2 with
                | true =>
                  refine .inl ⟨rfl, _, ?_, .dat (.int (p.1 : Nat)), .dat p.2, rfl⟩
                  rw [hg] at run1
                  exact run1
                | false =>
                  refine .inr ⟨rfl, ?_⟩
                  rw [hg] at run1
                  exact run1) [.dat P.D, .dat (tupN I), .dat (.tuple [tupN r, .tuple rs]), .no, .no] ⟨_, _, rfl⟩
              unfold arB at h3
              rw [h3]
              rcases h4 with ⟨h5, ρ', rfl, s3, s4, rfl⟩ | ⟨h5, rfl⟩
              · rw [h5]; simp! []
              · rw [h5]; simp! []
          | _ => simp! [h_iti, h_its, h_itn, h_itb, show ∀ kvs, isiD .tup (.dict kvs) = false from fun _ => rfl]; rfl
    · have : accCorr P I (.tuple ds) = false := by
        unfold accCorr
        split
        · rename_i heq
          injection heq with heq
          rw [heq] at h2
          exact absurd rfl h2
        · rfl
      rw [this]
      simp! [show decide ((ds.length : Int) = 2) = false from decide_eq_false (by omega)]
  | _ => simp! [h_iti, h_its, h_itn, h_itb, show ∀ kvs, isiD .tup (.dict kvs) = false from fun _ => rfl]; rfl
end R60

end -- S12
section -- S13
set_option Elab.async false
set_option linter.all false
set_option maxRecDepth 100000
set_option maxHeartbeats 4000000
/-! What the pure defs answer, XIII: the law's own helpers. -/
namespace R60
open PySem L2
open SeqAt (shaped)
def isIntB : PyData → Bool
  | .int _ => true
  | _ => false
theorem sp_lint {k : Nat} (hk : 1 ≤ k) (d : PyData) : E k 46 [d] = some (.bool (isIntB d)) := by
  obtain ⟨k, rfl⟩ : ∃ j, k = j + 1 := ⟨k - 1, by omega⟩
  cases d <;> rfl
theorem ints_shape : ∀ {ds : List PyData}, ds.all isIntB = true → ∃ ns : List Int, ds = intsD ns
  | [], _ => ⟨[], rfl⟩
  | d :: ds, h => by
    rw [List.all_cons, Bool.and_eq_true] at h
    obtain ⟨ns, rfl⟩ := ints_shape h.2
    cases d with
    | int i => exact ⟨i :: ns, rfl⟩
    | _ => cases h.1
theorem fine_intsL {n : Nat} {ns : List Int} (h : ns.length ≤ 1000) : fine (n + 1) (.list (intsD ns)) = true := by
  show (decide ((intsD ns).length ≤ 1000) && (intsD ns).all (fine n)) = true
  rw [ints_len, decide_eq_true h, Bool.true_and, List.all_eq_true]
  intro d hd
  obtain ⟨i, _, rfl⟩ := List.mem_map.mp hd
  exact fine_i
theorem eqvAll_ints : ∀ a b : List Int, PyData.eqvAll (intsD a) (intsD b) = decide (a = b)
  | [], [] => rfl
  | [], b :: bs => by
    show false = _
    rw [decide_eq_false]; simp
  | a :: as, [] => by
    show false = _
    rw [decide_eq_false]; simp
  | a :: as, b :: bs => by
    have ih := eqvAll_ints as bs
    show PyData.eqvAll (.int a :: intsD as) (.int b :: intsD bs) = _
    rw [PySem.W.eqv_all_cons, ih, eqv_ii]
    by_cases h1 : a = b
    · by_cases h2 : as = bs
      · rw [decide_eq_true h1, decide_eq_true h2, decide_eq_true (by rw [h1, h2])]; rfl
      · rw [decide_eq_true h1, decide_eq_false h2, decide_eq_false (by intro z; injection z with _ z2; exact h2 z2)]; rfl
    · rw [decide_eq_false h1, Bool.false_and, decide_eq_false (by intro z; injection z with z1 _; exact h1 z1)]
theorem eqD_ints {a b : List Int} (ha : a.length ≤ 1000) (hb : b.length ≤ 1000) : eqD (.list (intsD a)) (.list (intsD b)) = some (decide (a = b)) := by
  unfold eqD
  rw [fine_shaped (n := 1) (fine_intsL ha) (by omega), fine_shaped (n := 1) (fine_intsL hb) (by omega)]
  show some (PyData.eqvAll (intsD a) (intsD b)) = _
  rw [eqvAll_ints]
def castN (l : List Nat) : List Int := l.map fun y : Nat => (y : Int)
theorem natsD_cast (l : List Nat) : natsD l = intsD (castN l) := by
  unfold natsD castN intsD
  rw [List.map_map]
  rfl
theorem rk_perm {n : Nat} {r : List Nat} (h : IsRk n r) : List.Perm r (List.range n) := (List.perm_ext_iff_of_nodup h.nd List.nodup_range).mpr fun a => by
  rw [List.mem_range]
  exact ⟨h.lt a, fun ha => h.mem ha⟩
theorem sort_rk {n : Nat} {ns : List Int} (hl : ns.length = n) : decide (sortI ns = castN (List.range n)) = rkB n (.tuple (intsD ns)) := by
  cases hr : rkB n (.tuple (intsD ns)) with
  | true =>
    obtain ⟨r, e, hrk⟩ := rkB_iff.mp hr
    injection e with e
    rw [natsD_cast] at e
    have e2 : ns = castN r := by
      have := congrArg (allM intOfD) e
      rw [allM_is, allM_is] at this
      exact Option.some.inj this
    apply decide_eq_true
    symm
    refine sorted_one ?_ ?_
    · rw [e2]
      exact (rk_perm hrk).symm.map _
    · unfold castN
      exact List.Pairwise.map _ (fun a b (h : a < b) => by omega) List.pairwise_lt_range
  | false =>
    apply decide_eq_false
    intro e
    rw [← Bool.not_eq_true] at hr
    apply hr
    have p : List.Perm ns (castN (List.range n)) := by
      rw [← e]
      exact (List.mergeSort_perm ns _).symm
    have hall : ∀ i ∈ ns, ∃ x : Nat, x < n ∧ i = (x : Int) := fun i hi => by
      have := p.mem_iff.mp hi
      unfold castN at this
      obtain ⟨x, hx, rfl⟩ := List.mem_map.mp this
      exact ⟨x, List.mem_range.mp hx, rfl⟩
    have hnd : ns.Nodup := by
      refine p.nodup_iff.mpr ?_
      unfold castN
      exact List.Pairwise.map _ (fun a b (h : a < b) => by omega) List.pairwise_lt_range
    show (decide ((intsD ns).length = n) && (intsD ns).all (fun d => isWholeD d 0 ((n : Int) - 1)) && decide (((intsD ns).map natOf).Nodup)) = true
    rw [Bool.and_eq_true, Bool.and_eq_true, decide_eq_true_eq, decide_eq_true_eq, ints_len, List.all_eq_true]
    refine ⟨⟨hl, fun d hd => ?_⟩, ?_⟩
    · obtain ⟨i, hi, rfl⟩ := List.mem_map.mp hd
      obtain ⟨x, hx, rfl⟩ := hall i hi
      exact isWhole_nat (by omega) (by omega)
    · rw [List.map_map]
      refine nodup_map_of hnd fun a ha b hb e => ?_
      obtain ⟨x, hx, rfl⟩ := hall a ha
      obtain ⟨y, hy, rfl⟩ := hall b hb
      have : (natOf (.int (x : Int))) = natOf (.int (y : Int)) := e
      simp only [natOf, Int.toNat_natCast] at this
      rw [this]
theorem sp_lgood {k : Nat} (hk : 2 ≤ k) {P : Prob} (ok : P.Ok) {v : PyData} {f : Nat} (hv : fine f v = true) : E k 50 [.int P.n, .list (P.cs.map Con.D), v] = some (.bool (goodB P v)) := by
  obtain ⟨k, rfl⟩ : ∃ j, k = j + 1 := ⟨k - 1, by omega⟩
  have n7 := ok.n7
  have m := ok.m12
  show (run (E k) WN p_law_is_good [.dat (.int P.n), .dat (.list (P.cs.map Con.D)), .dat v, .no]).map outD = _
  unfold p_law_is_good
  cases v with
  | tuple ds =>
    obtain ⟨g, rfl, hdl, hfi⟩ := fine_tup hv
    by_cases hl : ds.length = P.n
    · simp! [show decide ((ds.length : Int) = (P.n : Int)) = true from decide_eq_true (by omega)]
      have lc := lc_all (tg := [3]) (t := evT (E k) (.bl true)) (e := ev (E k) (.call 46 (.cons (.var 3) .nil))) (ρ := [.dat (.int P.n), .dat (.list (P.cs.map Con.D)), .dat (.tuple ds), .no]) ds id (fun d => .bool (isIntB d)) (by omega) (fun d hd => by
        refine ⟨_, bind1, t_yes, ?_⟩
        show ev (E k) _ [.dat (.int P.n), .dat (.list (P.cs.map Con.D)), .dat (.tuple ds), .dat d] = _
        simp! [sp_lint (k := k) (by omega)])
      rw [List.map_id] at lc
      rw [lc]
      simp! [allM_blf, all_map_id]
      cases hi : ds.all isIntB with
      | false =>
        have : goodB P (.tuple ds) = false := by
          cases hg : goodB P (.tuple ds) with
          | false => rfl
          | true =>
            obtain ⟨r, e, _⟩ := goodB_iff.mp hg
            injection e with e
            rw [e] at hi
            rw [← Bool.not_eq_true] at hi
            exact absurd (List.all_eq_true.mpr fun d hd => by
              obtain ⟨x, _, rfl⟩ := List.mem_map.mp hd
              rfl) hi
        rw [this]
        simp! []
      | true =>
        obtain ⟨ns, rfl⟩ := ints_shape hi
        rw [ints_len] at hl
        have es : sortD (.tuple (intsD ns)) = some (.list (intsD (sortI ns))) := by
          show (allM intOfD (intsD ns)).bind (fun ns => if ns.length < 64 then some (PyData.list ((sortI ns).map PyData.int)) else none) = _
          rw [allM_is, Option.bind_some, if_pos (by omega)]
        have sl : (sortI ns).length = ns.length := by unfold sortI; exact List.length_mergeSort ns
        simp! [es, rg1_nat (n := P.n) (by omega), natsD_cast, eqD_ints (a := sortI ns) (b := castN (List.range P.n)) (by omega) (by unfold castN; rw [List.length_map, List.length_range]; omega), sort_rk hl]
        cases hr : rkB P.n (.tuple (intsD ns)) with
        | false =>
          have : goodB P (.tuple (intsD ns)) = false := by
            show (rkB P.n (.tuple (intsD ns)) && _) = false
            rw [hr]; rfl
          rw [this]
          simp! []
        | true =>
          obtain ⟨r, e, hrk⟩ := rkB_iff.mp hr
          have : goodB P (.tuple (intsD ns)) = good P r := by
            show (rkB P.n (.tuple (intsD ns)) && good P (natL (.tuple (intsD ns)))) = _
            rw [hr, e, natL_t]; rfl
          rw [this, e]
          simp! []
          rw [lc_all P.cs Con.D (fun c => .bool (holds c r)) (by omega) fun c hc => ⟨_, bind1, t_yes, by
            show ev (E k) _ [.dat (.int P.n), .dat (.list (P.cs.map Con.D)), .dat (tupN r), .dat c.D] = _
            simp! [sp_holdsL (k := k) (by omega) (ok.cok c hc) hrk]⟩]
          simp! [allM_blf, all_map_id]
          rfl
    · have : goodB P (.tuple ds) = false := by
        cases hg : goodB P (.tuple ds) with
        | false => rfl
        | true =>
          obtain ⟨r, e, hr, _⟩ := goodB_iff.mp hg
          injection e with e
          rw [e, natsD_lenL] at hl
          exact absurd hr.len hl
      rw [this]
      simp! [show decide ((ds.length : Int) = (P.n : Int)) = false from decide_eq_false (by omega)]
  | _ => simp! [h_iti, h_its, h_itn, h_itb, show ∀ kvs, isiD .tup (.dict kvs) = false from fun _ => rfl]; rfl
theorem zip_all {α β : Type} (f : α × β → Bool) (a : α) (b : β) : ∀ (l : List α) (m : List β), m.length = l.length → (List.range l.length).all (fun k => f (l.getD k a, m.getD k b)) = (l.zip m).all f
  | [], [], _ => rfl
  | [], _ :: _, h => by simp at h
  | _ :: _, [], h => by simp at h
  | x :: l, y :: m, h => by
    have ih := zip_all f a b l m (by simpa using h)
    rw [List.length_cons, List.range_succ_eq_map, List.all_cons, List.all_map, List.zip_cons_cons, List.all_cons, ← ih]
    rfl
theorem atI_getD {rs : List PyData} {j : Nat} (h : j < rs.length) : atI rs (j : Int) = some (rs.getD j .none) := by
  refine atI_nat ?_
  rw [List.getD_eq_getElem?_getD, List.getElem?_eq_getElem h]
  rfl
theorem part_D0 (P : Prob) (I : List Nat) : (part P I).n = P.n := rfl
theorem sp_lconf {k : Nat} (hk : 9 ≤ k) {P : Prob} (ok : P.Ok) {I : List Nat} (h : Ix P I) {v : PyData} {f : Nat} (hv : fine f v = true) : E k 54 [P.D, tupN I, v] = some (.bool (accConf P I v)) := by
  obtain ⟨k, rfl⟩ : ∃ j, k = j + 1 := ⟨k - 1, by omega⟩
  have hl := h.len
  have m := ok.m12
  show (run (E k) WN p_law_conflict [.dat P.D, .dat (tupN I), .dat v, .no, .no, .no]).map outD = _
  unfold p_law_conflict
  cases v with
  | tuple ds =>
    obtain ⟨g, rfl, hdl, hfi⟩ := fine_tup hv
    by_cases h2 : ds.length = 2
    · obtain ⟨c, w, rfl⟩ : ∃ c w, ds = [c, w] := by
        match ds, h2 with
        | [c, w], _ => exact ⟨c, w, rfl⟩
      have hc := hfi c (by simp)
      have hw := hfi w (by simp)
      simp! [List.length_cons, List.length_nil, show decide (((0 + 1 + 1 : Nat) : Int) = 2) = true from rfl, sp_part (k := k) (by omega) ok h, sp_accC (k := k) (by omega) (part_ok ok h) hc]
      cases w with
      | tuple rs =>
        obtain ⟨g2, rfl, hrl, hrf⟩ := fine_tup hw
        show _ = some (PyData.bool (isContrD (part P I) c && (decide (rs.length = I.length) && (I.zip rs).all fun p => goodB (part P (lessN I p.1)) p.2)))
        cases isContrD (part P I) c with
        | false => simp! []
        | true =>
          simp! [natsD_lenL, eq_nat]
          cases hle : decide (rs.length = I.length) with
          | false => simp! []
          | true =>
            have hle2 := of_decide_eq_true hle
            simp! []
            rw [lc_natsA I (fun i => .list ((part P (lessN I i)).cs.map Con.D)) (by omega) fun i hi => ⟨_, bind1, t_yes, by
              show ev (E k) _ [.dat P.D, .dat (tupN I), .dat (.tuple [c, .tuple rs]), .no, .dat (.int i), .no] = _
              simp! [sp_lwithout (k := k) (by omega) (show I.length ≤ 1000 by omega) i, sp_lchosen (k := k) (by omega) ok (h.less i)]⟩]
            simp! [List.length_map, itR_nat (n := I.length) (by omega)]
            rw [lc_natsA (List.range I.length) (fun j => .bool (goodB (part P (lessN I (I.getD j 0))) (rs.getD j .none))) (by rw [List.length_range]; omega) fun j hj => ⟨_, bind1, t_yes, by
              have hj2 := List.mem_range.mp hj
              have hx : fine g2 (rs.getD j .none) = true := by
                rw [List.getD_eq_getElem?_getD, List.getElem?_eq_getElem (by omega)]
                exact hrf _ (List.getElem_mem (by omega))
              have e1 : atI (I.map fun i => PyData.list ((part P (lessN I i)).cs.map Con.D)) (j : Int) = some (.list ((part P (lessN I (I.getD j 0))).cs.map Con.D)) := by
                refine atI_nat ?_
                rw [List.getElem?_map, List.getD_eq_getElem?_getD, List.getElem?_eq_getElem hj2]
                rfl
              show ev (E k) _ [.dat P.D, .dat (tupN I), .dat (.tuple [c, .tuple rs]), .dat (.list (I.map fun i => PyData.list ((part P (lessN I i)).cs.map Con.D))), .no, .dat (.int j)] = _
              simp! [show ixD P.D 0 = some (.int P.n) from atI_0, e1, atI_getD (rs := rs) (j := j) (by omega), show E k 50 [.int P.n, .list ((part P (lessN I (I.getD j 0))).cs.map Con.D), rs.getD j .none] = _ from sp_lgood (k := k) (by omega) (part_ok ok (h.less (I.getD j 0))) hx]⟩]
            simp! [allM_blf, all_map_id]
            rw [zip_all (fun p : Nat × PyData => goodB (part P (lessN I p.1)) p.2) 0 .none I rs hle2]
      | _ =>
        have : ∀ w, isTupD w = false → accConf P I (.tuple [c, w]) = false := fun w hw => by
          cases w with
          | tuple rs => cases hw
          | _ => rfl
        rw [this _ rfl]
        cases isContrD (part P I) c with
        | false => simp! []
        | true => simp! [h_iti, h_its, h_itn, h_itb, show ∀ kvs, isiD .tup (.dict kvs) = false from fun _ => rfl]
    · have : accConf P I (.tuple ds) = false := by
        unfold accConf
        split
        · rename_i heq
          injection heq with heq
          rw [heq] at h2
          exact absurd rfl h2
        · rfl
      rw [this]
      simp! [show decide ((ds.length : Int) = 2) = false from decide_eq_false (by omega)]
  | _ => simp! [h_iti, h_its, h_itn, h_itb, show ∀ kvs, isiD .tup (.dict kvs) = false from fun _ => rfl]; rfl
theorem sp_lcorr {k : Nat} (hk : 9 ≤ k) {P : Prob} (ok : P.Ok) {I : List Nat} (h : Ix P I) {v : PyData} {f : Nat} (hv : fine f v = true) : E k 55 [P.D, tupN I, v] = some (.bool (accCorr P I v)) := by
  obtain ⟨k, rfl⟩ : ∃ j, k = j + 1 := ⟨k - 1, by omega⟩
  have hl := h.len
  have m := ok.m12
  show (run (E k) WN p_law_correction [.dat P.D, .dat (tupN I), .dat v, .no, .no, .no]).map outD = _
  unfold p_law_correction
  cases v with
  | tuple ds =>
    obtain ⟨g, rfl, hdl, hfi⟩ := fine_tup hv
    by_cases h2 : ds.length = 2
    · obtain ⟨c, w, rfl⟩ : ∃ c w, ds = [c, w] := by
        match ds, h2 with
        | [c, w], _ => exact ⟨c, w, rfl⟩
      have hc := hfi c (by simp)
      have hw := hfi w (by simp)
      have hpr := part_ok ok (Ix.rest (P := P) (I := I))
      simp! [List.length_cons, List.length_nil, show decide (((0 + 1 + 1 : Nat) : Int) = 2) = true from rfl, show ixD P.D 0 = some (.int P.n) from atI_0, sp_lrest (k := k) (by omega) ok, sp_lchosen (k := k) (by omega) ok (Ix.rest (P := P) (I := I)), show E k 50 [.int P.n, .list ((part P (restN P I)).cs.map Con.D), c] = _ from sp_lgood (k := k) (by omega) hpr hc]
      have e0 : accCorr P I (.tuple [c, w]) = (goodB (part P (restN P I)) c && corrTail P I w) := by
        cases w with
        | tuple cs => rfl
        | _ => show false = (goodB (part P (restN P I)) c && false); rw [Bool.and_false]
      rw [e0]
      cases goodB (part P (restN P I)) c with
      | false => simp! []
      | true =>
        cases w with
        | tuple rs =>
          obtain ⟨g2, rfl, hrl, hrf⟩ := fine_tup hw
          show _ = some (PyData.bool (true && (decide (rs.length = I.length) && (I.zip rs).all fun p => isContrD (part P (restN P (lessN I p.1))) p.2)))
          simp! [natsD_lenL, eq_nat]
          cases hle : decide (rs.length = I.length) with
          | false => simp! []
          | true =>
            have hle2 := of_decide_eq_true hle
            simp! []
            rw [lc_natsA I (fun i => tupN (restN P (lessN I i))) (by omega) fun i hi => ⟨_, bind1, t_yes, by
              show ev (E k) _ [.dat P.D, .dat (tupN I), .dat (.tuple [c, .tuple rs]), .no, .dat (.int i), .no] = _
              simp! [sp_lwithout (k := k) (by omega) (show I.length ≤ 1000 by omega) i, sp_lrest (k := k) (by omega) ok]⟩]
            simp! [List.length_map, itR_nat (n := I.length) (by omega)]
            rw [lc_natsA (List.range I.length) (fun j => .bool (isContrD (part P (restN P (lessN I (I.getD j 0)))) (rs.getD j .none))) (by rw [List.length_range]; omega) fun j hj => ⟨_, bind1, t_yes, by
              have hj2 := List.mem_range.mp hj
              have hx : fine g2 (rs.getD j .none) = true := by
                rw [List.getD_eq_getElem?_getD, List.getElem?_eq_getElem (by omega)]
                exact hrf _ (List.getElem_mem (by omega))
              have e1 : atI (I.map fun i => tupN (restN P (lessN I i))) (j : Int) = some (tupN (restN P (lessN I (I.getD j 0)))) := by
                refine atI_nat ?_
                rw [List.getElem?_map, List.getD_eq_getElem?_getD, List.getElem?_eq_getElem hj2]
                rfl
              show ev (E k) _ [.dat P.D, .dat (tupN I), .dat (.tuple [c, .tuple rs]), .dat (.list (I.map fun i => tupN (restN P (lessN I i)))), .no, .dat (.int j)] = _
              simp! [e1, atI_getD (rs := rs) (j := j) (by omega), sp_part (k := k) (by omega) ok (Ix.rest (P := P) (I := lessN I (I.getD j 0))), sp_accC (k := k) (by omega) (part_ok ok (Ix.rest (P := P) (I := lessN I (I.getD j 0)))) hx]⟩]
            simp! [allM_blf, all_map_id]
            rw [zip_all (fun p : Nat × PyData => isContrD (part P (restN P (lessN I p.1))) p.2) 0 .none I rs hle2]
        | _ => simp! [h_iti, h_its, h_itn, h_itb, show ∀ kvs, isiD .tup (.dict kvs) = false from fun _ => rfl]; rfl
    · have : accCorr P I (.tuple ds) = false := by
        unfold accCorr
        split
        · rename_i heq
          injection heq with heq
          rw [heq] at h2
          exact absurd rfl h2
        · rfl
      rw [this]
      simp! [show decide ((ds.length : Int) = 2) = false from decide_eq_false (by omega)]
  | _ => simp! [h_iti, h_its, h_itn, h_itb, show ∀ kvs, isiD .tup (.dict kvs) = false from fun _ => rfl]; rfl
end R60

end -- S13
section -- S14
set_option Elab.async false
set_option linter.all false
set_option maxRecDepth 100000
set_option maxHeartbeats 4000000
/-! What the pure defs answer, XIV: rankings found, all rankings, equal. -/
namespace R60
open PySem L2
open SeqAt (shaped)
open PySem.W (alike alikeAll minD dataLt)
/-! ### the least pair -/
abbrev prD (L : Nat → Int) (i : Nat) : PyData := .tuple [.int (L i), .int i]
theorem dlt_pr {a b : Int} {i j : Nat} (h : a ≠ b) : dataLt (.tuple [.int a, .int i]) (.tuple [.int b, .int j]) = decide (a < b) := by
  rw [PySem.W.dataLt_tuple, PySem.W.dataLt_all_no rfl (by rw [eqv_ii]; exact decide_eq_false h), PySem.W.dataLt_int]
theorem minD_pr (L : Nat → Int) : ∀ (xs : List Nat) (x : Nat), ∃ e ∈ x :: xs, minD (prD L x) (xs.map (prD L)) = prD L e ∧ ∀ y ∈ x :: xs, L e ≤ L y
  | [], x => ⟨x, List.mem_cons_self, rfl, fun y hy => by
    have : y = x := by simpa using hy
    rw [this]; exact Int.le_refl _⟩
  | z :: xs, x => by
    have e1 : minD (prD L x) ((z :: xs).map (prD L)) = minD (if dataLt (prD L z) (prD L x) then prD L z else prD L x) (xs.map (prD L)) := rfl
    rw [e1]
    by_cases c : dataLt (prD L z) (prD L x) = true
    · rw [if_pos c]
      obtain ⟨e, he, h1, h2⟩ := minD_pr L xs z
      refine ⟨e, List.mem_cons_of_mem _ he, h1, fun y hy => ?_⟩
      rcases List.mem_cons.mp hy with rfl | hy
      · have hz := h2 z List.mem_cons_self
        by_cases q : L z = L y
        · omega
        · rw [dlt_pr q, decide_eq_true_eq] at c
          omega
      · exact h2 y hy
    · rw [if_neg c]
      obtain ⟨e, he, h1, h2⟩ := minD_pr L xs x
      refine ⟨e, ?_, h1, fun y hy => ?_⟩
      · rcases List.mem_cons.mp he with rfl | he
        · exact List.mem_cons_self
        · exact List.mem_cons_of_mem _ (List.mem_cons_of_mem _ he)
      · rcases List.mem_cons.mp hy with rfl | hy
        · exact h2 y List.mem_cons_self
        · rcases List.mem_cons.mp hy with rfl | hy
          · have hx := h2 x List.mem_cons_self
            by_cases q : L y = L x
            · omega
            · rw [dlt_pr q, decide_eq_true_eq] at c
              omega
          · exact h2 y (List.mem_cons_of_mem _ hy)
theorem minLD_pr (L : Nat → Int) {x : Nat} {xs : List Nat} : ∃ e ∈ x :: xs, minLD ((x :: xs).map (prD L)) = some (prD L e) ∧ ∀ y ∈ x :: xs, L e ≤ L y := by
  obtain ⟨e, he, h1, h2⟩ := minD_pr L xs x
  refine ⟨e, he, ?_, h2⟩
  have g1 : allM intOfD ((x :: xs).map (prD L)) = none := rfl
  have g2 : alikeB ((x :: xs).map (prD L)) = true := by
    unfold alikeB
    rw [Bool.and_eq_true, List.all_eq_true, List.all_eq_true]
    refine ⟨fun u hu => List.all_eq_true.mpr fun y hy => ?_, fun u hu => ?_⟩
    · obtain ⟨a, _, rfl⟩ := List.mem_map.mp hu
      obtain ⟨b, _, rfl⟩ := List.mem_map.mp hy
      rfl
    · obtain ⟨a, _, rfl⟩ := List.mem_map.mp hu
      rfl
  have g3 : PyData.depthAll ((x :: xs).map (prD L)) ≤ 32 := by
    have := (fineAll (n := 1) ((x :: xs).map (prD L)) fun d hd => by
      obtain ⟨a, ha, rfl⟩ := List.mem_map.mp hd
      refine fine_lay 1 _ (fine_mk (by simp) fun d hd => ?_)
      simp only [List.mem_cons, List.not_mem_nil, or_false] at hd
      rcases hd with rfl | rfl
      · exact fine_i
      · exact fine_i).2
    omega
  unfold minLD
  rw [g1]
  show (if alikeB ((x :: xs).map (prD L)) && decide (PyData.depthAll ((x :: xs).map (prD L)) ≤ 32) then some (minD (prD L x) (xs.map (prD L))) else none) = _
  rw [g2, decide_eq_true g3, h1]
  rfl
/-! ### found_by_deadlines -/
abbrev fbB : St := (.cons (.set 5 (.lc false [6] (.itR (.ix (.var 0) (.int 0))) (.and (.nmem (.var 6) (.var 3)) (.le (.ix (.var 1) (.var 6)) (.var 4))) (.tup (.cons (.ix (.var 2) (.var 6)) (.cons (.var 6) .nil))))) (.cons (.ite (.not (.var 5)) (.cons (.ret .non) .nil) .nil) (.cons (.set 3 (.add (.var 3) (.tup (.cons (.ix (.mn (.var 5)) (.int 1)) .nil)))) .nil)))
abbrev fbS (P : Prob) (f : List Nat) (s4 s5 : Sl) : List Sl := [.dat (.tuple [.int P.n, .tuple (P.cs.map Con.D)]), .dat (.list (intsD (early P))), .dat (.list (intsD (late P))), .dat (tupN f), s4, s5, .no]
theorem fb_body {F : Fs} {P : Prob} (ok : P.Ok) (w : Win P (Et P) (Lt P)) (no : NoOver P (Et P) (Lt P)) {f : List Nat} {s5 : Sl} (h : Run P (Et P) (Lt P) f) (hl : f.length < P.n) :
    ∃ m s5', Run P (Et P) (Lt P) (f ++ [m]) ∧ run F WN fbB (fbS P f (.dat (.int (1 + (f.length : Int)))) s5) = some (.nx (fbS P (f ++ [m]) (.dat (.int (1 + (f.length : Int)))) s5')) := by
  have n7 := ok.n7
  obtain ⟨m0, h1, h2, h3⟩ := h.ready w no hl
  unfold fbB fbS
  simp! [itR_nat (n := P.n) (by omega)]
  rw [lc_nats (List.range P.n) (fun i => !decide (i ∈ f) && decide (Et P i ≤ 1 + (f.length : Int))) (prD (Lt P)) (by rw [List.length_range]; omega) fun i hi => ⟨_, bind1, by
    have hin := List.mem_range.mp hi
    show evT F _ [.dat (.tuple [.int P.n, .tuple (P.cs.map Con.D)]), .dat (.list (intsD (early P))), .dat (.list (intsD (late P))), .dat (tupN f), .dat (.int (1 + (f.length : Int))), s5, .dat (.int i)] = _
    simp! [mem_natT]
    cases decide (i ∈ f) with
    | true => simp! []
    | false => simp! [atI_int (A := early P) (i := i) (by rw [early_len]; exact hin)], fun _ => by
    have hin := List.mem_range.mp hi
    show ev F _ [.dat (.tuple [.int P.n, .tuple (P.cs.map Con.D)]), .dat (.list (intsD (early P))), .dat (.list (intsD (late P))), .dat (tupN f), .dat (.int (1 + (f.length : Int))), s5, .dat (.int i)] = _
    simp! [atI_int (A := late P) (i := i) (by rw [late_len]; exact hin), List.length_cons, List.length_nil, show 0 + 1 + 1 ≤ 100000 from by decide]⟩]
  have hm0 : m0 ∈ (List.range P.n).filter (fun i => !decide (i ∈ f) && decide (Et P i ≤ 1 + (f.length : Int))) := by
    rw [List.mem_filter, Bool.and_eq_true, Bool.not_eq_true', decide_eq_false_iff_not, decide_eq_true_eq]
    exact ⟨List.mem_range.mpr h1, h2, by omega⟩
  cases hA : (List.range P.n).filter (fun i => !decide (i ∈ f) && decide (Et P i ≤ 1 + (f.length : Int))) with
  | nil => rw [hA] at hm0; cases hm0
  | cons x xs =>
    obtain ⟨e, he, g1, g2⟩ := minLD_pr (Lt P) (x := x) (xs := xs)
    rw [← hA] at he g2
    rw [List.mem_filter, Bool.and_eq_true, Bool.not_eq_true', decide_eq_false_iff_not, decide_eq_true_eq] at he
    refine ⟨e, .dat (.list ((x :: xs).map (prD (Lt P)))), .snoc h (List.mem_range.mp he.1) he.2.1 (by omega) fun y hy1 hy2 hy3 => g2 y ?_, ?_⟩
    · rw [List.mem_filter, Bool.and_eq_true, Bool.not_eq_true', decide_eq_false_iff_not, decide_eq_true_eq]
      exact ⟨List.mem_range.mpr hy1, hy2, by omega⟩
    · simp! [show ((x :: xs).map (prD (Lt P))).isEmpty = false from rfl, g1, if_pos lst1, addD_tt (xs := natsD f) (ys := [.int e]) (by rw [natsD_lenL]; simp; omega), show natsD f ++ [.int e] = natsD (f ++ [e]) from natsD_app f [e]]
theorem sp_found {k : Nat} (hk : 4 ≤ k) {P : Prob} (ok : P.Ok) (hf : Feas P) : ∃ r, E k 37 [P.D] = some (tupN r) ∧ IsRk P.n r ∧ good P r = true := by
  obtain ⟨k, rfl⟩ : ∃ j, k = j + 1 := ⟨k - 1, by omega⟩
  have n7 := ok.n7
  have hc := feas_straight hf
  have w := win_of hc
  have no := feas_noOver w hf
  obtain ⟨ρ', h1, f, s4, s5, hR, hL, rfl⟩ := forGo_pre (bind := fun d ρ => bindT [4] ρ d) (body := run (E k) WN fbB) (fun i : Nat => PyData.int (1 + (i : Int))) (fun done ρ => ∃ f s4 s5, Run P (Et P) (Lt P) f ∧ f.length = done.length ∧ ρ = fbS P f s4 s5) (List.range P.n) (fun done a rest ρ e r => by
    obtain ⟨f, s4, s5, hR, hL, rfl⟩ := r
    have hlen := congrArg List.length e
    rw [List.length_range, List.length_append, List.length_cons] at hlen
    have ha : a = done.length := by
      have h1 : (List.range P.n)[done.length]? = some a := by rw [e]; simp
      rw [List.getElem?_range (by omega)] at h1
      exact (Option.some.inj h1).symm
    subst ha
    obtain ⟨m, s5', g1, g2⟩ := fb_body (F := E k) (s5 := s5) ok w no hR (by omega)
    rw [hL] at g2
    refine ⟨_, _, bind1, g2, f ++ [m], _, _, g1, ?_, rfl⟩
    rw [List.length_append, List.length_append, hL]
    rfl) (List.range P.n) [] (fbS P [] .no .no) rfl ⟨[], .no, .no, .nil, rfl, rfl⟩
  rw [List.length_range] at hL
  have hrk := hR.isRk hL
  have hg := hR.good ok w no hL
  refine ⟨f, ?_, hrk, hg⟩
  show (run (E k) WN p_found_by_deadlines [.dat (.tuple [.int P.n, .tuple (P.cs.map Con.D)]), .no, .no, .no, .no, .no, .no]).map outD = _
  unfold p_found_by_deadlines
  have e1 : itR2D (.int 1) (.int ((P.n : Int) + 1)) = some ((List.range P.n).map fun i : Nat => PyData.int (1 + (i : Int))) := by
    show (if ((P.n : Int) + 1 ≤ 100000 ∧ -100000 ≤ (P.n : Int) + 1) ∧ (1 : Int) ≤ 100000 ∧ -100000 ≤ (1 : Int) then some (rgD 1 ((P.n : Int) + 1)) else none) = _
    rw [if_pos (by omega)]
    unfold rgD
    rw [show ((P.n : Int) + 1 - 1).toNat = P.n by omega]
  simp! [show E k 16 [.tuple [.int P.n, .tuple (P.cs.map Con.D)]] = _ from sp_cyclic (k := k) (by omega) ok, hc, show E k 17 [.tuple [.int P.n, .tuple (P.cs.map Con.D)]] = _ from sp_earliest (k := k) (by omega) ok, show E k 18 [.tuple [.int P.n, .tuple (P.cs.map Con.D)]] = _ from sp_latest (k := k) (by omega) ok, List.length_nil, Nat.zero_le, e1]
  have h2 : forGo (fun d ρ => bindT [4] ρ d) (run (E k) WN fbB) ((List.range P.n).map fun i : Nat => PyData.int (1 + (i : Int))) [.dat (.tuple [.int P.n, .tuple (P.cs.map Con.D)]), .dat (.list (intsD (early P))), .dat (.list (intsD (late P))), .dat (.tuple []), .no, .no, .no] = _ := h1
  unfold fbB at h2
  rw [h2]
  unfold fbS
  simp! [h_frx, frzS, show E k 6 [.tuple [.int P.n, .tuple (P.cs.map Con.D)], tupN f] = _ from sp_good (k := k) (by omega) ok hrk, hg]
/-! ### all rankings -/
def rkExt (n : Nat) (r : List Nat) : List (List Nat) := ((List.range n).filter fun x => !decide (x ∈ r)).map fun x => r ++ [x]
def rkGo (n : Nat) : Nat → List (List Nat)
  | 0 => [[]]
  | t + 1 => (rkGo n t).flatMap (rkExt n)
def rks (n : Nat) : List (List Nat) := rkGo n n
theorem mem_rkGo {n : Nat} : ∀ (t : Nat) (r : List Nat), r ∈ rkGo n t ↔ r.length = t ∧ r.Nodup ∧ ∀ x ∈ r, x < n
  | 0, r => by
    show r ∈ [[]] ↔ _
    rw [List.mem_singleton]
    constructor
    · rintro rfl
      exact ⟨rfl, List.nodup_nil, fun x hx => by cases hx⟩
    · rintro ⟨h, _⟩
      exact List.eq_nil_of_length_eq_zero h
  | t + 1, r => by
    show r ∈ (rkGo n t).flatMap (rkExt n) ↔ _
    rw [List.mem_flatMap]
    constructor
    · rintro ⟨u, hu, h⟩
      obtain ⟨h1, h2, h3⟩ := (mem_rkGo t u).mp hu
      unfold rkExt at h
      obtain ⟨x, hx, rfl⟩ := List.mem_map.mp h
      rw [List.mem_filter, Bool.not_eq_true', decide_eq_false_iff_not, List.mem_range] at hx
      refine ⟨by simp [h1], List.nodup_append.mpr ⟨h2, by simp, fun a ha b hb e => ?_⟩, fun y hy => ?_⟩
      · have : b = x := by simpa using hb
        rw [e, this] at ha
        exact hx.2 ha
      · rcases List.mem_append.mp hy with hy | hy
        · exact h3 y hy
        · have : y = x := by simpa using hy
          rw [this]; exact hx.1
    · rintro ⟨h1, h2, h3⟩
      have hne : r ≠ [] := fun z => by rw [z] at h1; simp at h1
      have e := List.dropLast_concat_getLast hne
      have hnd : (r.dropLast ++ [r.getLast hne]).Nodup := by rw [e]; exact h2
      obtain ⟨d1, _, d3⟩ := List.nodup_append.mp hnd
      refine ⟨r.dropLast, (mem_rkGo t _).mpr ⟨by rw [List.length_dropLast, h1]; rfl, d1, fun x hx => h3 x ((List.dropLast_sublist r).subset hx)⟩, ?_⟩
      unfold rkExt
      refine List.mem_map.mpr ⟨r.getLast hne, ?_, e⟩
      rw [List.mem_filter, Bool.not_eq_true', decide_eq_false_iff_not, List.mem_range]
      exact ⟨h3 _ (List.getLast_mem hne), fun hm => d3 _ hm _ (by simp) rfl⟩
theorem mem_rks {n : Nat} {r : List Nat} : r ∈ rks n ↔ IsRk n r := by
  unfold rks
  rw [mem_rkGo]
  exact ⟨fun ⟨a, b, c⟩ => ⟨a, b, c⟩, fun ⟨a, b, c⟩ => ⟨a, b, c⟩⟩
theorem rkExt_len (n : Nat) (r : List Nat) : (rkExt n r).length ≤ n := by
  unfold rkExt
  rw [List.length_map]
  have := List.length_filter_le (fun x => !decide (x ∈ r)) (List.range n)
  rwa [List.length_range] at this
theorem rkFl_len (n : Nat) : ∀ l : List (List Nat), (l.flatMap (rkExt n)).length ≤ l.length * n
  | [] => Nat.zero_le _
  | r :: l => by
    have ih := rkFl_len n l
    have := rkExt_len n r
    rw [List.flatMap_cons, List.length_append, List.length_cons, Nat.succ_mul]
    omega
theorem rkGo_len {n : Nat} (h : n ≤ 4) : ∀ t, (rkGo n t).length ≤ 4 ^ t
  | 0 => Nat.le_refl _
  | t + 1 => by
    have ih := rkGo_len h t
    have h1 := rkFl_len n (rkGo n t)
    have h2 : (rkGo n t).length * n ≤ 4 ^ t * 4 := Nat.mul_le_mul ih h
    show ((rkGo n t).flatMap (rkExt n)).length ≤ _
    rw [Nat.pow_succ]
    omega
theorem rks_len {n : Nat} (h : n ≤ 4) : (rks n).length ≤ 256 := Nat.le_trans (rkGo_len h n) (Nat.pow_le_pow_right (by omega) h)
abbrev rkB1 : St := (.cons (.ext 3 (.lc false [5] (.itR (.var 0)) (.nmem (.var 5) (.var 4)) (.add (.var 4) (.tup (.cons (.var 5) .nil))))) .nil)
abbrev rkB2 : St := (.cons (.newL 3 (.lst .nil)) (.cons (.for_ false [4] (.itS (.var 1)) rkB1) (.cons (.cpy 1 3) .nil)))
theorem rk_ext {F : Fs} {n : Nat} (hn : n ≤ 7) {r : List Nat} {acc : List (List Nat)} {s1 s2 : Sl} (hl : r.length ≤ 100) (ha : acc.length ≤ 10000) :
    run F WN rkB1 [.dat (.int n), s1, s2, .mut (rowsD acc), .dat (tupN r), .no] = some (.nx [.dat (.int n), s1, s2, .mut (rowsD (acc ++ rkExt n r)), .dat (tupN r), .no]) := by
  unfold rkB1
  simp! [itR_nat (n := n) (by omega)]
  rw [lc_nats (List.range n) (fun x => !decide (x ∈ r)) (fun x => tupN (r ++ [x])) (by rw [List.length_range]; omega) fun x hx => ⟨_, bind1, by
    show evT F _ [.dat (.int n), s1, s2, .mut (rowsD acc), .dat (tupN r), .dat (.int x)] = _
    simp! [mem_natT], fun _ => by
    show ev F _ [.dat (.int n), s1, s2, .mut (rowsD acc), .dat (tupN r), .dat (.int x)] = _
    simp! [if_pos lst1, addD_tt (xs := natsD r) (ys := [.int x]) (by rw [natsD_lenL]; simp; omega), show natsD r ++ [.int x] = natsD (r ++ [x]) from natsD_app r [x]]⟩]
  have e : ((List.range n).filter fun x => !decide (x ∈ r)).map (fun x => tupN (r ++ [x])) = rowsD (rkExt n r) := by
    unfold rowsD rkExt
    rw [List.map_map]
    rfl
  rw [e]
  have := rkExt_len n r
  simp! []
  rw [if_pos (by simp only [rowsD, List.length_map]; omega)]
  simp! []
  rw [show rowsD acc ++ rowsD (rkExt n r) = rowsD (acc ++ rkExt n r) from (List.map_append ..).symm]
theorem rk_round {F : Fs} {n : Nat} (hn : n ≤ 7) {rows : List (List Nat)} {s2 s3 s4 : Sl} (hl : rows.length ≤ 1000) (hr : ∀ r ∈ rows, r.length ≤ 100) :
    ∃ s3' s4', run F WN rkB2 [.dat (.int n), .dat (.list (rowsD rows)), s2, s3, s4, .no] = some (.nx [.dat (.int n), .dat (.list (rowsD (rows.flatMap (rkExt n)))), s2, s3', s4', .no]) := by
  unfold rkB2
  simp! [List.length_nil, Nat.zero_le]
  obtain ⟨ρ', h1, s4', rfl⟩ := forGo_pre (bind := fun d ρ => bindT [4] ρ d) (body := run F WN rkB1) (fun r : List Nat => tupN r) (fun done ρ => ∃ s4', ρ = [.dat (.int n), .dat (.list (rowsD rows)), s2, .mut (rowsD (done.flatMap (rkExt n))), s4', .no]) rows (fun done a rest ρ e r => by
    obtain ⟨s4', rfl⟩ := r
    have hd : done.length ≤ 1000 := by rw [e, List.length_append] at hl; omega
    have h2 := rkFl_len n done
    have h3 : done.length * n ≤ 1000 * 7 := Nat.mul_le_mul hd hn
    refine ⟨_, _, bind1, rk_ext hn (hr a (by rw [e]; simp)) (by omega), .dat (tupN a), ?_⟩
    rw [List.flatMap_append]
    simp) rows [] [.dat (.int n), .dat (.list (rowsD rows)), s2, .mut [], s4, .no] rfl ⟨s4, rfl⟩
  have h2 : forGo (fun d ρ => bindT [4] ρ d) (run F WN rkB1) (rowsD rows) [.dat (.int n), .dat (.list (rowsD rows)), s2, .mut [], s4, .no] = _ := h1
  rw [h2]
  simp! []
  exact ⟨_, _, rfl⟩
theorem sp_rks {k : Nat} (hk : 1 ≤ k) {n : Nat} (hn : n ≤ 4) : E k 49 [.int n] = some (.list (rowsD (rks n))) := by
  obtain ⟨k, rfl⟩ : ∃ j, k = j + 1 := ⟨k - 1, by omega⟩
  show (run (E k) WN p_law_rankings [.dat (.int n), .no, .no, .no, .no, .no]).map outD = _
  unfold p_law_rankings
  simp! [List.length_cons, List.length_nil, Nat.zero_le, show 0 + 1 ≤ 100000 from by decide, itR_nat (n := n) (by omega)]
  obtain ⟨ρ', h1, s2, s3, s4, rfl⟩ := forGo_pre (bind := fun d ρ => bindT [2] ρ d) (body := run (E k) WN rkB2) (fun i : Nat => PyData.int i) (fun done ρ => ∃ s2 s3 s4, ρ = [.dat (.int n), .dat (.list (rowsD (rkGo n done.length))), s2, s3, s4, .no]) (List.range n) (fun done a rest ρ e r => by
    obtain ⟨s2, s3, s4, rfl⟩ := r
    have hlen := congrArg List.length e
    rw [List.length_range, List.length_append, List.length_cons] at hlen
    have h5 := Nat.le_trans (rkGo_len hn done.length) (Nat.pow_le_pow_right (by omega) (show done.length ≤ 4 by omega))
    obtain ⟨s3', s4', g⟩ := rk_round (F := E k) (s2 := .dat (.int a)) (s3 := s3) (s4 := s4) (show n ≤ 7 by omega) (rows := rkGo n done.length) (by omega) (fun r hr => by
      have := ((mem_rkGo _ r).mp hr).1
      omega)
    refine ⟨_, _, bind1, g, .dat (.int a), s3', s4', ?_⟩
    rw [List.length_append]
    rfl) (List.range n) [] [.dat (.int n), .dat (.list (rowsD [[]])), .no, .no, .no, .no] rfl ⟨.no, .no, .no, rfl⟩
  have h2 : forGo (fun d ρ => bindT [2] ρ d) (run (E k) WN rkB2) (natsD (List.range n)) [.dat (.int n), .dat (.list [.tuple []]), .no, .no, .no, .no] = _ := h1
  unfold rkB2 rkB1 at h2
  rw [h2, List.length_range]
  simp! [h_frx]
  rfl
/-! ### equal -/
theorem sp_eqb {k : Nat} (hk : 1 ≤ k) (a : Bool) : E k 47 [.bool a, .bool a] = some (.bool true) := by
  obtain ⟨k, rfl⟩ : ∃ j, k = j + 1 := ⟨k - 1, by omega⟩
  cases a <;> rfl
theorem sp_eql {k : Nat} (hk : 2 ≤ k) (a b : Bool) : E k 47 [.list [.bool a, .bool b], .list [.bool a, .bool b]] = some (.bool true) := by
  obtain ⟨k, rfl⟩ : ∃ j, k = j + 2 := ⟨k - 2, by omega⟩
  cases a <;> cases b <;> rfl
end R60

end -- S14
section -- S15
set_option Elab.async false
set_option linter.all false
set_option maxRecDepth 100000
set_option maxHeartbeats 4000000
/-! The drawing defs: pick, constraint, problem, bent. -/
namespace R60
open PySem L2
open SeqAt (shaped)
section
variable {F : Fs} {ρ : List Sl} {P : PyData → Prop}
theorem dr_next {si : Nat} {w : V} {x : Xp} {m : Int} (hs : ρ[si]? = some (.fix w)) (hx : ev F x ρ = some (.int m)) (h1 : 0 < m) (h2 : m < 1073741824) (h : ∀ d : Int, 0 ≤ d → d < m → P (.int d)) : wD F G0 (.dr si 0 (.cons (.pu x) .nil)) ρ P :=
  ⟨⟨w, hs⟩, _, hx, [], rfl, _, rfl, h1, h2, h⟩
end
theorem wp_pick {F : Fs} (ds : List PyData) (P' : PyData → Prop) (h : G0 1 ds P') : ds.length + 1 = 2 ∧ ∀ w : V, wS F G0 WN q_law_pick (.fix w :: (ds.map Sl.dat ++ List.replicate (N_law_pick.length - (ds.length + 1)) .no)) (fun o => P' (outD o)) := by
  match ds, h with
  | [.list rows], h =>
    obtain ⟨h1, h2, h3⟩ := h
    have hl : 0 < rows.length := List.length_pos_iff.mpr h1
    refine ⟨rfl, fun w => ?_⟩
    show wD F G0 (.pu (.var 1)) [.fix w, .dat (.list rows)] fun x => wD F G0 (.dr 0 0 (.cons (.pu (.len (.var 1))) .nil)) [.fix w, .dat (.list rows)] fun y => ∃ d, ixG x y = some d ∧ P' d
    refine ⟨.list rows, rfl, dr_next (w := w) (m := (rows.length : Int)) rfl rfl (by omega) (by omega) fun d h4 h5 => ?_⟩
    have hd : d.toNat < rows.length := by omega
    refine ⟨rows[d.toNat], ?_, h3 _ (List.getElem_mem hd)⟩
    show atI rows d = _
    have := atI_nat (List.getElem?_eq_getElem hd)
    rwa [show ((d.toNat : Nat) : Int) = d by omega] at this
theorem wp_constraint {F : Fs} (ds : List PyData) (P' : PyData → Prop) (h : G0 2 ds P') : ds.length + 1 = 2 ∧ ∀ w : V, wS F G0 WN q_law_constraint (.fix w :: (ds.map Sl.dat ++ List.replicate (N_law_constraint.length - (ds.length + 1)) .no)) (fun o => P' (outD o)) := by
  match ds, h with
  | [.int n], h =>
    obtain ⟨h1, h2, h3⟩ := h
    refine ⟨rfl, fun w => ?_⟩
    show wS F G0 WN q_law_constraint [.fix w, .dat (.int n), .no, .no, .no] _
    unfold q_law_constraint
    have wi : wS F G0 WN (.cons (.set 2 (.add (.pu (.int 1)) (.dr 0 0 (.cons (.pu (.var 1)) .nil)))) (.cons (.ret (.tup (.cons (.pu (.str "within")) (.cons (.dr 0 0 (.cons (.pu (.var 1)) .nil)) (.cons (.pu (.var 2)) (.cons (.add (.pu (.var 2)) (.dr 0 0 (.cons (.pu (.add (.sub (.var 1) (.var 2)) (.int 1))) .nil))) .nil)))))) .nil)) [.fix w, .dat (.int n), .no, .no, .no] (fun o => P' (outD o)) := by
      refine ⟨.int 1, rfl, dr_next (w := w) (m := n) rfl rfl (by omega) (by omega) fun d a1 a2 => ⟨.int (1 + d), rfl, ?_⟩⟩
      show wD F G0 (.tup _) [.fix w, .dat (.int n), .dat (.int (1 + d)), .no, .no] _
      refine ⟨.str "within", rfl, dr_next (w := w) (m := n) rfl rfl (by omega) (by omega) fun i b1 b2 => ⟨.int (1 + d), rfl, .int (1 + d), rfl, dr_next (w := w) (m := n - (1 + d) + 1) rfl rfl (by omega) (by omega) fun e c1 c2 => ⟨.int (1 + d + e), rfl, _, rfl, _, rfl, _, rfl, _, rfl, _, rfl, by show 4 ≤ 100000; decide, ?_⟩⟩⟩
      have := h3 (.within i.toNat (1 + d).toNat (1 + d + e).toNat) ⟨by omega, by omega, by omega, by omega⟩
      have e1 : ((i.toNat : Nat) : Int) = i := by omega
      have e2 : (((1 + d).toNat : Nat) : Int) = 1 + d := by omega
      have e3 : (((1 + d + e).toNat : Nat) : Int) = 1 + d + e := by omega
      unfold Con.D at this
      simp only [e1, e2, e3] at this
      exact this
    refine ⟨.bool (decide (1 < n)), rfl, _, rfl, fun hb => ?_, fun hb => ⟨false, rfl, fun z => (nomatch z), fun _ => wi⟩⟩
    have h4 := of_decide_eq_true hb
    refine dr_next (w := w) (m := 2) rfl rfl (by omega) (by omega) fun t t1 t2 => ⟨.int 0, rfl, _, eqD_ii t 0, _, rfl, fun _ => ?_, fun _ => wi⟩
    refine dr_next (w := w) (m := n) rfl rfl (by omega) (by omega) fun a a1 a2 => ?_
    show wD F G0 (.dr 0 0 (.cons (.pu (.sub (.var 1) (.int 1))) .nil)) [.fix w, .dat (.int n), .no, .dat (.int a), .no] _
    refine dr_next (w := w) (m := n - 1) rfl rfl (by omega) (by omega) fun b b1 b2 => ?_
    have hg : (if decide (a ≤ b) = true then (1 : Int) else 0) = if a ≤ b then 1 else 0 := by simp
    refine ⟨.rt (.tuple [.str "ahead", .int a, .int (b + (if decide (a ≤ b) = true then (1 : Int) else 0))]), rfl, ?_⟩
    rw [hg]
    have := h3 (.ahead a.toNat (b + (if a ≤ b then (1 : Int) else 0)).toNat) (by
      refine ⟨by omega, ?_, ?_⟩
      · split <;> omega
      · split <;> omega)
    have e1 : ((a.toNat : Nat) : Int) = a := by omega
    have e2 : (((b + (if a ≤ b then (1 : Int) else 0)).toNat : Nat) : Int) = b + (if a ≤ b then (1 : Int) else 0) := by split <;> omega
    unfold Con.D at this
    simp only [e1, e2] at this
    exact this
theorem wlc_cons {F : Fs} {n : Int} (hn : 1 ≤ n ∧ n ≤ 7) {bind : PyData → List Sl} {e : List Sl → (PyData → Prop) → Prop} (he : ∀ d (Q : PyData → Prop), (∀ c : Con, c.ok n.toNat → Q c.D) → e (bind d) Q) : ∀ (l : List PyData) (Q : List PyData → Prop), (∀ cs : List Con, cs.length = l.length → (∀ c ∈ cs, c.ok n.toNat) → Q (cs.map Con.D)) → wlc bind (wD F G0 (.pu (.bl true))) e l Q
  | [], Q, h => h [] rfl fun c hc => by cases hc
  | d :: l, Q, h => ⟨.bool true, rfl, true, rfl, fun _ => he d _ fun c hc => wlc_cons hn he l _ fun cs h1 h2 => h (c :: cs) (by simp [h1]) fun c' hc' => by
      rcases List.mem_cons.mp hc' with rfl | hc'
      · exact hc
      · exact h2 c' hc', fun z => (nomatch z)⟩
theorem wp_problem {F : Fs} (ds : List PyData) (P' : PyData → Prop) (h : G0 3 ds P') : ds.length + 1 = 3 ∧ ∀ w : V, wS F G0 WN q_law_problem (.fix w :: (ds.map Sl.dat ++ List.replicate (N_law_problem.length - (ds.length + 1)) .no)) (fun o => P' (outD o)) := by
  match ds, h with
  | [.int n, .int m], h =>
    obtain ⟨h1, h2, h3, h4, h5⟩ := h
    refine ⟨rfl, fun w => ?_⟩
    show wS F G0 WN q_law_problem [.fix w, .dat (.int n), .dat (.int m), .no, .no] _
    unfold q_law_problem
    refine ⟨.int 1, rfl, dr_next (w := w) (m := n) rfl rfl (by omega) (by omega) fun d a1 a2 => ⟨.int (1 + d), rfl, ?_⟩⟩
    show wD F G0 (.tup _) [.fix w, .dat (.int n), .dat (.int m), .dat (.int (1 + d)), .no] _
    refine ⟨.int (1 + d), rfl, ?_⟩
    refine dr_next (w := w) (m := m + 1) rfl rfl (by omega) (by omega) fun t t1 t2 => ⟨rgD 0 t, if_pos (by omega), rgD 0 t, rfl, by unfold rgD; rw [List.length_map, List.length_range]; omega, ?_⟩
    refine wlc_cons (n := 1 + d) (by omega) (fun x Q hq => ?_) _ _ fun cs c1 c2 => ?_
    · refine ⟨⟨w, rfl⟩, .int (1 + d), rfl, [], rfl, _, rfl, by omega, by omega, hq⟩
    · refine ⟨[], rfl, _, rfl, _, rfl, by show 2 ≤ 100000; decide, ?_⟩
      unfold rgD at c1
      rw [List.length_map, List.length_range] at c1
      have := h5 ⟨(1 + d).toNat, cs⟩ ⟨by show 1 ≤ (1 + d).toNat; omega, by show (1 + d).toNat ≤ 7; omega, by show cs.length ≤ 12; omega, c2⟩ (by show (((1 + d).toNat : Nat) : Int) ≤ n; omega) (by show (cs.length : Int) ≤ m; omega)
      have e2 : (((1 + d).toNat : Nat) : Int) = 1 + d := by omega
      unfold Prob.D at this
      simp only [e2] at this
      exact this
end R60

end -- S15
section -- S16
set_option Elab.async false
set_option linter.all false
set_option maxRecDepth 100000
set_option maxHeartbeats 4000000
/-! bent evidence. -/
namespace R60
open PySem L2
open SeqAt (shaped)
theorem fine_mkL {n : Nat} {ds : List PyData} (h1 : ds.length ≤ 1000) (h2 : ∀ d ∈ ds, fine n d = true) : fine (n + 1) (.list ds) = true := by
  show (decide (ds.length ≤ 1000) && ds.all (fine n)) = true
  rw [decide_eq_true h1, List.all_eq_true.mpr h2]
  rfl
theorem cut_len (ds : List PyData) (lo hi : Option Int) : (cutD ds lo hi).length ≤ ds.length := by
  unfold cutD
  rw [List.length_take, List.length_drop]
  omega
theorem cut_lenA (ds : List PyData) {t : Int} (h : 0 ≤ t) : (cutD ds none (some t)).length ≤ t.toNat := by
  obtain ⟨j, rfl⟩ : ∃ j : Nat, t = j := ⟨t.toNat, by omega⟩
  unfold cutD
  rw [HT.sIx_nat, HT.sIx_none, List.length_take, List.length_drop]
  omega
theorem cut_lenB (ds : List PyData) {t : Int} (h : 0 ≤ t) : (cutD ds (some t) none).length ≤ ds.length - t.toNat := by
  obtain ⟨j, rfl⟩ : ∃ j : Nat, t = j := ⟨t.toNat, by omega⟩
  unfold cutD
  rw [HT.sIx_nat, HT.sIx_none, List.length_take, List.length_drop]
  omega
theorem cut_mem {ds : List PyData} {lo hi : Option Int} {d : PyData} (h : d ∈ cutD ds lo hi) : d ∈ ds := by
  unfold cutD at h
  exact List.mem_of_mem_drop (List.mem_of_mem_take h)
theorem sl_t {ds : List PyData} {lo hi : Option Int} : slD (.tuple ds) lo hi = some (.tuple (cutD ds lo hi)) := rfl
theorem rep0 {n : Int} (h : 1 ≤ n ∧ n ≤ 7) : repD (.tuple [.int 0]) (.int n) = some (.tuple (List.replicate n.toNat (.int 0))) := if_pos (by omega)
theorem pick_dr {F : Fs} {ρ : List Sl} {P : PyData → Prop} {si : Nat} {w : V} {x : Xp} {rows : List PyData} (hs : ρ[si]? = some (.fix w)) (hx : ev F x ρ = some (.list rows)) (h1 : rows ≠ []) (h2 : rows.length ≤ 1000) (h : ∀ r ∈ rows, P r) : wD F G0 (.dr si 1 (.cons (.pu x) .nil)) ρ P :=
  ⟨⟨w, hs⟩, _, hx, [], rfl, _, rfl, h1, h2, h⟩
theorem wp_bent {F : Fs} (ds : List PyData) (P' : PyData → Prop) (h : G0 5 ds P') : ds.length + 1 = 3 ∧ ∀ w : V, wS F G0 WN q_law_bent (.fix w :: (ds.map Sl.dat ++ List.replicate (N_law_bent.length - (ds.length + 1)) .no)) (fun o => P' (outD o)) := by
  match ds, h with
  | [.int n, .tuple [one, other]], h =>
    obtain ⟨h1, h2, h3, h4, h5, h6⟩ := h
    refine ⟨rfl, fun w => ?_⟩
    show wS F G0 WN q_law_bent [.fix w, .dat (.int n), .dat (.tuple [one, other]), .no, .no, .no, .no, .no] _
    unfold q_law_bent
    obtain ⟨rs, hrs, hrl, hrf⟩ : ∃ rs : List PyData, ev F (.ite (.isi .tup (.var 7)) (.var 7) (.tup .nil)) [.fix w, .dat (.int n), .dat (.tuple [one, other]), .no, .no, .no, .dat one, .dat other] = some (.tuple rs) ∧ rs.length ≤ 900 ∧ ∀ d ∈ rs, fine 9 d = true := by
      cases other with
      | tuple rs => exact ⟨rs, rfl, h5 rs rfl, (fine_t h4).2⟩
      | _ => exact ⟨[], rfl, Nat.zero_le _, fun d hd => (nomatch hd)⟩
    refine ⟨_, _, rfl, rfl, ?_⟩
    show wS F G0 WN (.cons (.pu (.set 3 (.ite (.isi .tup (.var 7)) (.var 7) (.tup .nil)))) _) [.fix w, .dat (.int n), .dat (.tuple [one, other]), .no, .no, .no, .dat one, .dat other] _
    refine ⟨.nx [.fix w, .dat (.int n), .dat (.tuple [one, other]), .dat (.tuple rs), .no, .no, .dat one, .dat other], by
      show (ev F _ _).map _ = _
      rw [hrs]; rfl, ?_⟩
    refine dr_next (w := w) (m := (rs.length : Int) + 1) rfl rfl (by omega) (by omega) fun t t1 t2 => ?_
    show wD F G0 (.dr 0 1 (.cons (.lst _) .nil)) [.fix w, .dat (.int n), .dat (.tuple [one, other]), .dat (.tuple rs), .dat (.int t), .no, .dat one, .dat other] _
    refine ⟨⟨w, rfl⟩, ⟨w, rfl⟩, .int n, rfl, [], rfl, _, rfl, by omega, by omega, fun ns hns => ?_⟩
    refine ⟨.none, rfl, .tuple [], rfl, .list [.int 0], rfl, .tuple (List.replicate n.toNat (.int 0)), ?_, one, rfl, _, rfl, _, rfl, _, rfl, _, rfl, _, rfl, _, rfl, _, rfl, by show 6 ≤ 100000; decide, [], rfl, _, rfl, by simp, by show 6 ≤ 1000; decide, fun odd hodd => ?_⟩
    · simp! [if_pos lst1, rep0 ⟨h1, h2⟩]
    · have ho : fine 10 odd = true := by
        simp only [List.mem_cons, List.not_mem_nil, or_false] at hodd
        rcases hodd with rfl | rfl | rfl | rfl | rfl | rfl
        · refine fine_mk (by rw [List.length_map]; omega) fun d hd => ?_
          obtain ⟨i, _, rfl⟩ := List.mem_map.mp hd
          exact fine_i
        · rfl
        · rfl
        · rfl
        · refine fine_mk (by rw [List.length_replicate]; omega) fun d hd => ?_
          rw [(List.mem_replicate.mp hd).2]
          exact fine_i
        · exact h3
      have lA := cut_lenA rs (t := t) (by omega)
      have lB := cut_lenB rs (t := t + 1) (by omega)
      have lC := cut_lenB rs (t := t) (by omega)
      have pr : ∀ a b : PyData, fine 11 a = true → fine 11 b = true → fine 12 (.tuple [a, b]) = true := fun a b ha hb => fine_mk (by simp) fun d hd => by
        simp only [List.mem_cons, List.not_mem_nil, or_false] at hd
        rcases hd with rfl | rfl
        · exact ha
        · exact hb
      have o11 : fine 11 one = true := fine_up 11 one (by omega) h3
      have p11 : fine 11 other = true := fine_up 11 other (by omega) h4
      have q11 : fine 11 odd = true := fine_up 11 odd (by omega) ho
      have row : ∀ l : List PyData, l.length ≤ 1000 → (∀ d ∈ l, d ∈ rs ∨ d = odd) → fine 11 (.tuple l) = true := fun l hl hm => fine_mk hl fun d hd => by
        rcases hm d hd with h | h
        · exact fine_up 10 d (by omega) (hrf d h)
        · rw [h]; exact ho
      have hv : fine 12 (.tuple [one, other]) = true := pr _ _ o11 p11
      refine pick_dr (w := w) (rows := [.tuple [one, other], .tuple [one, other], .tuple [odd, other], .tuple [one, .tuple (cutD rs none (some t) ++ [odd] ++ cutD rs (some (t + 1)) none)], .tuple [one, .tuple (cutD rs none (some t) ++ [odd] ++ cutD rs (some t) none)], .tuple [one, .tuple (cutD rs none (some t) ++ cutD rs (some (t + 1)) none)], .tuple [one, .tuple rs.reverse], .tuple [one, .list rs], .tuple [one, .none], .tuple [other, one], .tuple [one], .tuple [one, other, .tuple []], .list [one, other], .none, .tuple []]) rfl ?_ (by simp) (by show 15 ≤ 1000; decide) fun r hr => ?_
      · show ev F _ [.fix w, .dat (.int n), .dat (.tuple [one, other]), .dat (.tuple rs), .dat (.int t), .dat odd, .dat one, .dat other] = _
        simp! [sl_t, ion, if_pos lst1, addD_tt (xs := cutD rs none (some t)) (ys := [odd]) (by simp; omega), addD_tt (xs := cutD rs none (some t) ++ [odd]) (ys := cutD rs (some (t + 1)) none) (by simp; omega), addD_tt (xs := cutD rs none (some t) ++ [odd]) (ys := cutD rs (some t) none) (by simp; omega), addD_tt (xs := cutD rs none (some t)) (ys := cutD rs (some (t + 1)) none) (by omega), List.length_cons, List.length_nil, Nat.reduceAdd, Nat.reduceLeDiff]
      · refine h6 r ?_
        simp only [List.mem_cons, List.not_mem_nil, or_false] at hr
        rcases hr with rfl | rfl | rfl | rfl | rfl | rfl | rfl | rfl | rfl | rfl | rfl | rfl | rfl | rfl | rfl
        · exact hv
        · exact hv
        · exact pr _ _ q11 p11
        · refine pr _ _ o11 (row _ (by simp; omega) fun d hd => ?_)
          simp only [List.mem_append, List.mem_singleton] at hd
          rcases hd with (hd | hd) | hd
          · exact .inl (cut_mem hd)
          · exact .inr hd
          · exact .inl (cut_mem hd)
        · refine pr _ _ o11 (row _ (by simp; omega) fun d hd => ?_)
          simp only [List.mem_append, List.mem_singleton] at hd
          rcases hd with (hd | hd) | hd
          · exact .inl (cut_mem hd)
          · exact .inr hd
          · exact .inl (cut_mem hd)
        · refine pr _ _ o11 (row _ (by simp; omega) fun d hd => ?_)
          simp only [List.mem_append] at hd
          rcases hd with hd | hd
          · exact .inl (cut_mem hd)
          · exact .inl (cut_mem hd)
        · exact pr _ _ o11 (row _ (by simp; omega) fun d hd => .inl (List.mem_reverse.mp hd))
        · exact pr _ _ o11 (fine_mkL (by omega) fun d hd => fine_up 10 d (by omega) (hrf d hd))
        · exact pr _ _ o11 rfl
        · exact pr _ _ p11 o11
        · refine fine_mk (by simp) fun d hd => ?_
          simp only [List.mem_cons, List.not_mem_nil, or_false] at hd
          rw [hd]; exact o11
        · refine fine_mk (by simp) fun d hd => ?_
          simp only [List.mem_cons, List.not_mem_nil, or_false] at hd
          rcases hd with rfl | rfl | rfl
          · exact o11
          · exact p11
          · rfl
        · refine fine_mkL (by simp) fun d hd => ?_
          simp only [List.mem_cons, List.not_mem_nil, or_false] at hd
          rcases hd with rfl | rfl
          · exact o11
          · exact p11
        · rfl
        · rfl
end R60

end -- S16
section -- S17
set_option Elab.async false
set_option linter.all false
set_option maxRecDepth 100000
set_option maxHeartbeats 4000000
/-! The evidence told; what is accepted is due. -/
namespace R60
open PySem L2
open SeqAt (shaped)
theorem holdB_t {P : Prob} {I : List Nat} : holdB P I = true ↔ Feas (part P I) := feasB_t
theorem holdB_f {P : Prob} {I : List Nat} : holdB P I = false ↔ ¬ Feas (part P I) := feasB_f
theorem goodB_feas {P : Prob} {v : PyData} (h : goodB P v = true) : Feas P := by
  obtain ⟨r, _, hr, hg⟩ := goodB_iff.mp h
  exact ⟨r, hr, hg⟩
theorem zip_fst {I : List Nat} {rs : List PyData} (h : rs.length = I.length) {x : Nat} (hx : x ∈ I) : ∃ y, (x, y) ∈ I.zip rs := by
  obtain ⟨j, hj, e⟩ := List.mem_iff_getElem.mp hx
  refine ⟨rs[j], ?_⟩
  rw [List.mem_iff_getElem]
  refine ⟨j, by rw [List.length_zip]; omega, ?_⟩
  rw [List.getElem_zip, e]
theorem accConf_due {P : Prob} {I : List Nat} {v : PyData} (h : accConf P I v = true) : conflB P I = true := by
  unfold accConf at h
  split at h
  · rename_i c rs
    rw [Bool.and_eq_true, Bool.and_eq_true, decide_eq_true_eq, List.all_eq_true] at h
    obtain ⟨h1, h2, h3⟩ := h
    unfold conflB
    rw [holdB_f.mpr (contr_sound h1), Bool.not_false, Bool.true_and, List.all_eq_true]
    intro x hx
    obtain ⟨y, hy⟩ := zip_fst h2 hx
    exact holdB_t.mpr (goodB_feas (h3 (x, y) hy))
  · cases h
theorem accCorr_due {P : Prob} {I : List Nat} {v : PyData} (h : accCorr P I v = true) : corrB P I = true := by
  unfold accCorr at h
  split at h
  · rename_i r cs
    rw [Bool.and_eq_true, Bool.and_eq_true, decide_eq_true_eq, List.all_eq_true] at h
    obtain ⟨h1, h2, h3⟩ := h
    unfold corrB
    rw [holdB_t.mpr (goodB_feas h1), Bool.true_and, Bool.not_eq_true', ← Bool.not_eq_true, List.any_eq_true]
    rintro ⟨x, hx, hh⟩
    obtain ⟨y, hy⟩ := zip_fst h2 hx
    exact contr_sound (h3 (x, y) hy) (holdB_t.mp hh)
  · cases h
theorem zip_map {α : Type} (I : List Nat) (g : Nat → α) : I.zip (I.map g) = I.map fun x => (x, g x) := by
  induction I with
  | nil => rfl
  | cons x I ih => rw [List.map_cons, List.zip_cons_cons, ih]; rfl
theorem told_conf {P : Prob} (ok : P.Ok) (h4 : P.n ≤ 4) {I : List Nat} (h : Ix P I) : ∃ d, toldD (E 30) ev0 ev1 [.int 0, P.D, tupN I] = some d ∧
    ((conflB P I = true ∧ ∃ c rs, d = .tuple [c, .tuple rs] ∧ rs.length ≤ 12 ∧ fine 8 d = true ∧ accConf P I d = true) ∨ (conflB P I = false ∧ d = .list [.str "conflict", .bool true])) := by
  have hl := h.len
  have m := ok.m12
  have hx0 : ev (E 30) ev0.x0 [.dat P.D, .dat (tupN I), .no, .no] = some .none := by
    show ev (E 30) (.call 34 (.cons (.var 0) (.cons (.var 1) .nil))) _ = _
    simp! [sp_chkidx (k := 30) (by omega) ok h]
  have ht1 : evT (E 30) ev0.t1 [.dat P.D, .dat (tupN I), .no, .no] = some (!conflB P I) := by
    show evT (E 30) (.not (.call 40 (.cons (.var 0) (.cons (.var 1) .nil)))) _ = _
    simp! [sp_isconf (k := 30) (by omega) ok h4 h]
  cases hc : conflB P I with
  | false =>
    refine ⟨.list [.str "conflict", .bool true], ?_, .inr ⟨rfl, rfl⟩⟩
    show (evid (E 30) ev0 [P.D, tupN I]).map _ = _
    have : evid (E 30) ev0 [P.D, tupN I] = some (.inr "conflict") := by
      show (ev (E 30) ev0.x0 [.dat P.D, .dat (tupN I), .no, .no]).bind _ = _
      rw [hx0, Option.bind_some]
      show (evT (E 30) ev0.t1 [.dat P.D, .dat (tupN I), .no, .no]).bind _ = _
      rw [ht1, Option.bind_some, hc]
      rfl
    rw [this]
    rfl
  | true =>
    have hc2 := hc
    unfold conflB at hc2
    rw [Bool.and_eq_true, Bool.not_eq_true', List.all_eq_true] at hc2
    have hr : ∀ x : Nat, ∃ r : List Nat, x ∈ I → E 30 37 [(part P (lessN I x)).D] = some (tupN r) ∧ IsRk P.n r ∧ good (part P (lessN I x)) r = true := fun x => by
      by_cases hx : x ∈ I
      · obtain ⟨r, g⟩ := sp_found (k := 30) (by omega) (part_ok ok (h.less x)) (holdB_t.mp (hc2.2 x hx))
        exact ⟨r, fun _ => g⟩
      · exact ⟨[], fun z => absurd z hx⟩
    obtain ⟨rr, hrr⟩ := Classical.axiomOfChoice hr
    obtain ⟨c, g1, g2⟩ := sp_told (k := 30) (by omega) (part_ok ok h) h4
    rcases g2 with ⟨_, g3⟩ | ⟨g3, g4, _⟩
    · exact absurd g3 (holdB_f.mp hc2.1)
    have hlc : ev (E 30) ev0.lc [.dat P.D, .dat (tupN I), .no, .no] = some (.list (I.map fun x => tupN (rr x))) := by
      show ev (E 30) (.lc false [3] (.itS (.var 1)) (.bl true) (.call 37 (.cons (.call 35 (.cons (.var 0) (.cons (.call 39 (.cons (.var 1) (.cons (.var 3) .nil))) .nil))) .nil))) _ = _
      simp! []
      rw [lc_natsA I (fun x => tupN (rr x)) (by omega) fun x hx => ⟨_, bind1, t_yes, by
        show ev (E 30) _ [.dat P.D, .dat (tupN I), .no, .dat (.int x)] = _
        simp! [sp_less (k := 30) (by omega) (show I.length ≤ 1000 by omega) x, sp_partof (k := 30) (by omega) ok (h.less x), (hrr x hx).1]⟩]
      simp! []
    have hx3 : ev (E 30) ev0.x3 [.dat P.D, .dat (tupN I), .dat (.list (I.map fun x => tupN (rr x))), .no] = some (.tuple [c, .tuple (I.map fun x => tupN (rr x))]) := by
      show ev (E 30) (.tup (.cons (.call 26 (.cons (.call 35 (.cons (.var 0) (.cons (.var 1) .nil))) .nil)) (.cons (.tupOf (.var 2)) .nil))) _ = _
      simp! [sp_partof (k := 30) (by omega) ok h, g1, List.length_cons, List.length_nil, show 0 + 1 + 1 ≤ 100000 from by decide]
    refine ⟨.tuple [c, .tuple (I.map fun x => tupN (rr x))], ?_, .inl ⟨rfl, c, _, rfl, by rw [List.length_map]; omega, ?_, ?_⟩⟩
    · show (evid (E 30) ev0 [P.D, tupN I]).map _ = _
      have : evid (E 30) ev0 [P.D, tupN I] = some (.inl (.tuple [c, .tuple (I.map fun x => tupN (rr x))])) := by
        show (ev (E 30) ev0.x0 [.dat P.D, .dat (tupN I), .no, .no]).bind _ = _
        rw [hx0, Option.bind_some]
        show (evT (E 30) ev0.t1 [.dat P.D, .dat (tupN I), .no, .no]).bind _ = _
        rw [ht1, Option.bind_some, hc]
        show (ev (E 30) ev0.lc [.dat P.D, .dat (tupN I), .no, .no]).bind _ = _
        rw [hlc, Option.bind_some]
        show (ev (E 30) ev0.x3 [.dat P.D, .dat (tupN I), .dat (.list (I.map fun x => tupN (rr x))), .no]).map _ = _
        rw [hx3]
        rfl
      rw [this]
      rfl
    · refine fine_mk (by simp) fun d hd => ?_
      simp only [List.mem_cons, List.not_mem_nil, or_false] at hd
      rcases hd with rfl | rfl
      · exact fine_up 7 d (by omega) g4
      · refine fine_mk (by rw [List.length_map]; omega) fun d hd => ?_
        obtain ⟨x, hx, rfl⟩ := List.mem_map.mp hd
        exact fine_natsT (by rw [(hrr x hx).2.1.len]; have := ok.n7; omega)
    · show (isContrD (part P I) c && (decide ((I.map fun x => tupN (rr x)).length = I.length) && (I.zip (I.map fun x => tupN (rr x))).all fun p => goodB (part P (lessN I p.1)) p.2)) = true
      rw [g3, List.length_map, decide_eq_true rfl, Bool.true_and, Bool.true_and, zip_map, List.all_map, List.all_eq_true]
      intro x hx
      exact goodB_iff.mpr ⟨rr x, rfl, (hrr x hx).2.1, (hrr x hx).2.2⟩
theorem told_corr {P : Prob} (ok : P.Ok) (h4 : P.n ≤ 4) {I : List Nat} (h : Ix P I) : ∃ d, toldD (E 30) ev0 ev1 [.int 1, P.D, tupN I] = some d ∧
    ((corrB P I = true ∧ ∃ c rs, d = .tuple [c, .tuple rs] ∧ rs.length ≤ 12 ∧ fine 8 d = true ∧ accCorr P I d = true) ∨ (corrB P I = false ∧ d = .list [.str "correction", .bool true])) := by
  have hl := h.len
  have m := ok.m12
  have hx0 : ev (E 30) ev1.x0 [.dat P.D, .dat (tupN I), .no, .no] = some .none := by
    show ev (E 30) (.call 34 (.cons (.var 0) (.cons (.var 1) .nil))) _ = _
    simp! [sp_chkidx (k := 30) (by omega) ok h]
  have ht1 : evT (E 30) ev1.t1 [.dat P.D, .dat (tupN I), .no, .no] = some (!corrB P I) := by
    show evT (E 30) (.not (.call 44 (.cons (.var 0) (.cons (.var 1) .nil)))) _ = _
    simp! [sp_iscorr (k := 30) (by omega) ok h4 h]
  cases hc : corrB P I with
  | false =>
    refine ⟨.list [.str "correction", .bool true], ?_, .inr ⟨rfl, rfl⟩⟩
    show (evid (E 30) ev1 [P.D, tupN I]).map _ = _
    have : evid (E 30) ev1 [P.D, tupN I] = some (.inr "correction") := by
      show (ev (E 30) ev1.x0 [.dat P.D, .dat (tupN I), .no, .no]).bind _ = _
      rw [hx0, Option.bind_some]
      show (evT (E 30) ev1.t1 [.dat P.D, .dat (tupN I), .no, .no]).bind _ = _
      rw [ht1, Option.bind_some, hc]
      rfl
    rw [this]
    rfl
  | true =>
    have hc2 := hc
    unfold corrB at hc2
    rw [Bool.and_eq_true, Bool.not_eq_true', ← Bool.not_eq_true, List.any_eq_true] at hc2
    have hnf : ∀ x ∈ I, ¬ Feas (part P (restN P (lessN I x))) := fun x hx z => hc2.2 ⟨x, hx, holdB_t.mpr z⟩
    have hr : ∀ x : Nat, ∃ d : PyData, x ∈ I → E 30 26 [(part P (restN P (lessN I x))).D] = some d ∧ isContrD (part P (restN P (lessN I x))) d = true ∧ fine 4 d = true := fun x => by
      by_cases hx : x ∈ I
      · obtain ⟨d, g1, g2⟩ := sp_told (k := 30) (by omega) (part_ok ok (Ix.rest (P := P) (I := lessN I x))) h4
        rcases g2 with ⟨_, g3⟩ | ⟨g3, g4, _⟩
        · exact absurd g3 (hnf x hx)
        · exact ⟨d, fun _ => ⟨g1, g3, g4⟩⟩
      · exact ⟨.none, fun z => absurd z hx⟩
    obtain ⟨rr, hrr⟩ := Classical.axiomOfChoice hr
    obtain ⟨r, g1, g2, g3⟩ := sp_found (k := 30) (by omega) (part_ok ok (Ix.rest (P := P) (I := I))) (holdB_t.mp hc2.1)
    have hlc : ev (E 30) ev1.lc [.dat P.D, .dat (tupN I), .no, .no] = some (.list (I.map rr)) := by
      show ev (E 30) (.lc false [3] (.itS (.var 1)) (.bl true) (.call 26 (.cons (.call 35 (.cons (.var 0) (.cons (.call 43 (.cons (.var 0) (.cons (.var 1) (.cons (.var 3) .nil)))) .nil))) .nil))) _ = _
      simp! []
      rw [lc_natsA I rr (by omega) fun x hx => ⟨_, bind1, t_yes, by
        show ev (E 30) _ [.dat P.D, .dat (tupN I), .no, .dat (.int x)] = _
        simp! [sp_kept (k := 30) (by omega) ok (show I.length ≤ 1000 by omega) x, sp_partof (k := 30) (by omega) ok (Ix.rest (P := P) (I := lessN I x)), (hrr x hx).1]⟩]
      simp! []
    have hx3 : ev (E 30) ev1.x3 [.dat P.D, .dat (tupN I), .dat (.list (I.map rr)), .no] = some (.tuple [tupN r, .tuple (I.map rr)]) := by
      show ev (E 30) (.tup (.cons (.call 37 (.cons (.call 35 (.cons (.var 0) (.cons (.call 42 (.cons (.var 0) (.cons (.var 1) .nil))) .nil))) .nil)) (.cons (.tupOf (.var 2)) .nil))) _ = _
      simp! [sp_others (k := 30) (by omega) ok, sp_partof (k := 30) (by omega) ok (Ix.rest (P := P) (I := I)), g1, List.length_cons, List.length_nil, show 0 + 1 + 1 ≤ 100000 from by decide]
    refine ⟨.tuple [tupN r, .tuple (I.map rr)], ?_, .inl ⟨rfl, tupN r, _, rfl, by rw [List.length_map]; omega, ?_, ?_⟩⟩
    · show (evid (E 30) ev1 [P.D, tupN I]).map _ = _
      have : evid (E 30) ev1 [P.D, tupN I] = some (.inl (.tuple [tupN r, .tuple (I.map rr)])) := by
        show (ev (E 30) ev1.x0 [.dat P.D, .dat (tupN I), .no, .no]).bind _ = _
        rw [hx0, Option.bind_some]
        show (evT (E 30) ev1.t1 [.dat P.D, .dat (tupN I), .no, .no]).bind _ = _
        rw [ht1, Option.bind_some, hc]
        show (ev (E 30) ev1.lc [.dat P.D, .dat (tupN I), .no, .no]).bind _ = _
        rw [hlc, Option.bind_some]
        show (ev (E 30) ev1.x3 [.dat P.D, .dat (tupN I), .dat (.list (I.map rr)), .no]).map _ = _
        rw [hx3]
        rfl
      rw [this]
      rfl
    · refine fine_mk (by simp) fun d hd => ?_
      simp only [List.mem_cons, List.not_mem_nil, or_false] at hd
      rcases hd with rfl | rfl
      · exact fine_natsT (by rw [g2.len]; have := ok.n7; show P.n ≤ 1000; omega)
      · refine fine_mk (by rw [List.length_map]; omega) fun d hd => ?_
        obtain ⟨x, hx, rfl⟩ := List.mem_map.mp hd
        exact fine_up 6 _ (by omega) (hrr x hx).2.2
    · show (goodB (part P (restN P I)) (tupN r) && (decide ((I.map rr).length = I.length) && (I.zip (I.map rr)).all fun p => isContrD (part P (restN P (lessN I p.1))) p.2)) = true
      rw [goodB_iff.mpr ⟨r, rfl, g2, g3⟩, List.length_map, decide_eq_true rfl, Bool.true_and, Bool.true_and, zip_map, List.all_map, List.all_eq_true]
      intro x hx
      exact (hrr x hx).2.1
end R60

end -- S17
section -- S18
set_option Elab.async false
set_option linter.all false
set_option maxRecDepth 100000
set_option maxHeartbeats 4000000
/-! The law, I: is there a good ranking (printed in part by genS18.py). -/
namespace R60
open PySem L2
open SeqAt (shaped)
def FA : Fs := evF TB WN 30
def FL : Fs := fun f ds => if f = 56 then toldD FA ev0 ev1 ds else FA f ds
theorem FL_n {f : Nat} (h : f ≠ 56) (ds : List PyData) : FL f ds = E 30 f ds := if_neg h
theorem any_rks {P : Prob} {J : List Nat} : (rks P.n).any (good (part P J)) = holdB P J := by
  cases h : holdB P J with
  | true =>
    obtain ⟨r, hr, hg⟩ := holdB_t.mp h
    exact List.any_eq_true.mpr ⟨r, mem_rks.mpr hr, hg⟩
  | false =>
    rw [← Bool.not_eq_true, List.any_eq_true]
    rintro ⟨r, hr, hg⟩
    exact holdB_f.mp h ⟨r, mem_rks.mp hr, hg⟩
theorem anyG19 {P : Prob} (ok : P.Ok) (h4 : P.n ≤ 4) {J : List Nat} (hJ : Ix P J) {w : V} {a6 a7 a8 a9 a10 a11 a12 a13 a14 a15 a16 a17 a18 a20 a21 a22 a23 : Sl} : ev FL (.any (.lc false [21] (.itS (.var 4)) (.bl true) (.all (.lc false [22] (.itS (.call 51 (.cons (.var 2) (.cons (.var 19) .nil)))) (.bl true) (.call 48 (.cons (.var 22) (.cons (.var 21) .nil))))))) [Sl.no, .fix w, .dat P.D, .dat (.int P.cs.length), .dat (.list (rowsD (rks P.n))), .dat (tupN (List.range P.cs.length)), a6, a7, a8, a9, a10, a11, a12, a13, a14, a15, a16, a17, a18, .dat (tupN J), a20, a21, a22, a23] = some (.bool (holdB P J)) := by
  have ok2 := part_ok ok hJ
  have hl := rks_len h4
  simp! []
  rw [lc_all (rks P.n) (fun r => tupN r) (fun r => .bool (good (part P J) r)) (by omega) fun r hr => ⟨_, bind1, t_yes, by
    have hrk := mem_rks.mp hr
    show ev FL _ [Sl.no, .fix w, .dat P.D, .dat (.int P.cs.length), .dat (.list (rowsD (rks P.n))), .dat (tupN (List.range P.cs.length)), a6, a7, a8, a9, a10, a11, a12, a13, a14, a15, a16, a17, a18, .dat (tupN J), a20, .dat (tupN r), a22, a23] = _
    simp! [show FL 51 [P.D, tupN J] = _ from sp_lchosen (k := 30) (by omega) ok hJ]
    rw [lc_all (part P J).cs Con.D (fun c => .bool (holds c r)) (by have := ok2.m12; omega) fun c hc => ⟨_, bind1, t_yes, by
      show ev FL _ [Sl.no, .fix w, .dat P.D, .dat (.int P.cs.length), .dat (.list (rowsD (rks P.n))), .dat (tupN (List.range P.cs.length)), a6, a7, a8, a9, a10, a11, a12, a13, a14, a15, a16, a17, a18, .dat (tupN J), a20, .dat (tupN r), .dat c.D, a23] = _
      simp! [show FL 48 [c.D, tupN r] = _ from sp_holdsL (k := 30) (by omega) (ok2.cok c hc) (r := r) hrk]⟩]
    simp! [allM_blf, all_map_id]
    rfl⟩]
  simp! [allM_blf, any_map_id, any_rks]
theorem anyG20 {P : Prob} (ok : P.Ok) (h4 : P.n ≤ 4) {J : List Nat} (hJ : Ix P J) {w : V} {a6 a7 a8 a9 a10 a11 a12 a13 a14 a15 a16 a17 a18 a19 a21 a22 a23 : Sl} : ev FL (.any (.lc false [21] (.itS (.var 4)) (.bl true) (.all (.lc false [22] (.itS (.call 51 (.cons (.var 2) (.cons (.var 20) .nil)))) (.bl true) (.call 48 (.cons (.var 22) (.cons (.var 21) .nil))))))) [Sl.no, .fix w, .dat P.D, .dat (.int P.cs.length), .dat (.list (rowsD (rks P.n))), .dat (tupN (List.range P.cs.length)), a6, a7, a8, a9, a10, a11, a12, a13, a14, a15, a16, a17, a18, a19, .dat (tupN J), a21, a22, a23] = some (.bool (holdB P J)) := by
  have ok2 := part_ok ok hJ
  have hl := rks_len h4
  simp! []
  rw [lc_all (rks P.n) (fun r => tupN r) (fun r => .bool (good (part P J) r)) (by omega) fun r hr => ⟨_, bind1, t_yes, by
    have hrk := mem_rks.mp hr
    show ev FL _ [Sl.no, .fix w, .dat P.D, .dat (.int P.cs.length), .dat (.list (rowsD (rks P.n))), .dat (tupN (List.range P.cs.length)), a6, a7, a8, a9, a10, a11, a12, a13, a14, a15, a16, a17, a18, a19, .dat (tupN J), .dat (tupN r), a22, a23] = _
    simp! [show FL 51 [P.D, tupN J] = _ from sp_lchosen (k := 30) (by omega) ok hJ]
    rw [lc_all (part P J).cs Con.D (fun c => .bool (holds c r)) (by have := ok2.m12; omega) fun c hc => ⟨_, bind1, t_yes, by
      show ev FL _ [Sl.no, .fix w, .dat P.D, .dat (.int P.cs.length), .dat (.list (rowsD (rks P.n))), .dat (tupN (List.range P.cs.length)), a6, a7, a8, a9, a10, a11, a12, a13, a14, a15, a16, a17, a18, a19, .dat (tupN J), .dat (tupN r), .dat c.D, a23] = _
      simp! [show FL 48 [c.D, tupN r] = _ from sp_holdsL (k := 30) (by omega) (ok2.cok c hc) (r := r) hrk]⟩]
    simp! [allM_blf, all_map_id]
    rfl⟩]
  simp! [allM_blf, any_map_id, any_rks]
end R60

end -- S18
section -- S19
set_option Elab.async false
set_option linter.all false
set_option maxRecDepth 100000
set_option maxHeartbeats 4000000
/-! The law, II: the set of a turn (printed in part by genS19.py). -/
namespace R60
open PySem L2
open SeqAt (shaped)
open PySem.W (alike alikeAll minD)
theorem wlc_sub {F : Fs} {bind : PyData → List Sl} {w : V} (h1 : ∀ d, (bind d)[1]? = some (.fix w)) (h2 : ∀ d, (bind d)[17]? = some (.dat d)) : ∀ (l : List Nat) (Q : List PyData → Prop), (∀ l' : List Nat, l'.Sublist l → Q (natsD l')) → wlc bind (wD F G0 (.eq (.dr 1 0 (.cons (.pu (.int 2)) .nil)) (.pu (.int 0)))) (wD F G0 (.pu (.var 17))) (natsD l) Q
  | [], Q, h => h [] (List.Sublist.refl _)
  | x :: l, Q, h => by
    show wD F G0 (.eq (.dr 1 0 (.cons (.pu (.int 2)) .nil)) (.pu (.int 0))) (bind (.int x)) _
    refine dr_next (w := w) (m := 2) (h1 _) rfl (by omega) (by omega) fun t t1 t2 => ⟨.int 0, rfl, _, eqD_ii t 0, _, rfl, fun _ => ?_, fun _ => ?_⟩
    · refine ⟨.int x, ?_, ?_⟩
      · show varD (bind (.int x))[17]? = _
        rw [h2]; rfl
      · exact wlc_sub h1 h2 l _ fun l' hl' => h (x :: l') (hl'.cons_cons x)
    · exact wlc_sub h1 h2 l _ fun l' hl' => h l' (hl'.cons x)
theorem Ix.sub {P : Prob} {l : List Nat} (h : l.Sublist (List.range P.cs.length)) : Ix P l := ⟨List.pairwise_lt_range.sublist h, fun x hx => List.mem_range.mp (h.subset hx)⟩
theorem Ix.all {P : Prob} : Ix P (List.range P.cs.length) := Ix.sub (List.Sublist.refl _)
def bk (P : Prob) (r : List Nat) : List Nat := (List.range P.cs.length).filter fun j => !holds (conAt P j) r
abbrev llD (c : List Nat) : PyData := .tuple [.int c.length, .list (natsD c)]
theorem alike_ll (c e : List Nat) : alike (llD c) (llD e) = true := by
  show (true && (alike (.list (natsD c)) (.list (natsD e)) && true)) = true
  rw [show alike (.list (natsD c)) (.list (natsD e)) = alikeAll (natsD c) (natsD e) by simp only [alike], alike_nats]
  rfl
theorem fine_natsL {n : Nat} {l : List Nat} (h : l.length ≤ 1000) : fine (n + 1) (.list (natsD l)) = true := fine_mkL (by rw [natsD_lenL]; exact h) fun d hd => by
  obtain ⟨x, _, rfl⟩ := List.mem_map.mp hd
  exact fine_i
theorem minLD_ll {c : List Nat} {cs : List (List Nat)} (hl : ∀ e ∈ c :: cs, e.length ≤ 1000) : ∃ e ∈ c :: cs, minLD ((c :: cs).map llD) = some (llD e) := by
  have h1 : allM intOfD ((c :: cs).map llD) = none := rfl
  have h2 : alikeB ((c :: cs).map llD) = true := by
    unfold alikeB
    rw [Bool.and_eq_true, List.all_eq_true, List.all_eq_true]
    refine ⟨fun x hx => List.all_eq_true.mpr fun y hy => ?_, fun x hx => ?_⟩
    · obtain ⟨a, _, rfl⟩ := List.mem_map.mp hx
      obtain ⟨b, _, rfl⟩ := List.mem_map.mp hy
      exact alike_ll a b
    · obtain ⟨a, _, rfl⟩ := List.mem_map.mp hx
      rfl
  have h3 : PyData.depthAll ((c :: cs).map llD) ≤ 32 := by
    have := (fineAll (n := 2) ((c :: cs).map llD) fun d hd => by
      obtain ⟨a, ha, rfl⟩ := List.mem_map.mp hd
      refine fine_lay 2 _ (fine_mk (by simp) fun d hd => ?_)
      simp only [List.mem_cons, List.not_mem_nil, or_false] at hd
      rcases hd with rfl | rfl
      · exact fine_i
      · exact fine_natsL (hl a ha)).2
    omega
  have h4 : minLD ((c :: cs).map llD) = some (minD (llD c) (cs.map llD)) := by
    unfold minLD
    rw [h1]
    show (if alikeB ((c :: cs).map llD) && decide (PyData.depthAll ((c :: cs).map llD) ≤ 32) then some (minD (llD c) (cs.map llD)) else none) = _
    rw [h2, decide_eq_true h3]
    rfl
  have h5 := minD_in (cs.map llD) (llD c)
  rw [show llD c :: cs.map llD = (c :: cs).map llD from rfl] at h5
  obtain ⟨e, he, h6⟩ := List.mem_map.mp h5
  exact ⟨e, he, by rw [h4, h6]⟩
theorem rks_ne {n : Nat} : rks n ≠ [] := fun h => by
  have : List.range n ∈ rks n := mem_rks.mpr ⟨List.length_range, List.nodup_range, fun x hx => List.mem_range.mp hx⟩
  rw [h] at this
  cases this
abbrev tA : Sn := (.set 7 (.tlc 17 (.its (.itS (.var 5))) (.eq (.dr 1 0 (.cons (.pu (.int 2)) .nil)) (.pu (.int 0))) (.pu (.var 17))))
abbrev tB : St := (.ite (.gt (.var 6) (.int 0)) (.cons (.set 16 (.lc false [21] (.itS (.var 4)) (.bl true) (.lc false [23] (.itR (.var 3)) (.not (.call 48 (.cons (.ix (.ix (.var 2) (.int 1)) (.var 23)) (.cons (.var 21) .nil)))) (.var 23)))) (.cons (.set 7 (.ite (.eq (.var 6) (.int 1)) (.tupOf (.ix (.mn (.lc false [20] (.itS (.var 16)) (.bl true) (.tup (.cons (.len (.var 20)) (.cons (.var 20) .nil))))) (.int 1))) (.var 5))) .nil)) .nil)
abbrev tC : St := (.ite (.eq (.var 6) (.int 3)) (.cons (.for_ false [17] (.itR (.var 3)) (.cons (.set 19 (.call 52 (.cons (.var 7) (.cons (.var 17) .nil)))) (.cons (.set 7 (.ite (.any (.lc false [21] (.itS (.var 4)) (.bl true) (.all (.lc false [22] (.itS (.call 51 (.cons (.var 2) (.cons (.var 19) .nil)))) (.bl true) (.call 48 (.cons (.var 22) (.cons (.var 21) .nil))))))) (.var 7) (.var 19))) .nil))) .nil) .nil)
abbrev tCB : St := (.cons (.set 19 (.call 52 (.cons (.var 7) (.cons (.var 17) .nil)))) (.cons (.set 7 (.ite (.any (.lc false [21] (.itS (.var 4)) (.bl true) (.all (.lc false [22] (.itS (.call 51 (.cons (.var 2) (.cons (.var 19) .nil)))) (.bl true) (.call 48 (.cons (.var 22) (.cons (.var 21) .nil))))))) (.var 7) (.var 19))) .nil))
theorem turn_a {P : Prob} (ok : P.Ok) {w : V} {t : Int} {a7 a8 a9 a10 a11 a12 a13 a14 a15 a16 a17 a18 a19 a20 a21 a22 a23 : Sl} {Q : Out → Prop} (h : ∀ I : List Nat, Ix P I → Q (.nx [Sl.no, .fix w, .dat P.D, .dat (.int P.cs.length), .dat (.list (rowsD (rks P.n))), .dat (tupN (List.range P.cs.length)), .dat (.int t), .dat (tupN I), a8, a9, a10, a11, a12, a13, a14, a15, a16, a17, a18, a19, a20, a21, a22, a23])) : wS FL G0 WN tA [Sl.no, .fix w, .dat P.D, .dat (.int P.cs.length), .dat (.list (rowsD (rks P.n))), .dat (tupN (List.range P.cs.length)), .dat (.int t), a7, a8, a9, a10, a11, a12, a13, a14, a15, a16, a17, a18, a19, a20, a21, a22, a23] Q := by
  have m := ok.m12
  show ∃ items, evA FL (.itS (.var 5)) _ = some items ∧ _
  refine ⟨natsD (List.range P.cs.length), rfl, natsD (List.range P.cs.length), rfl, by rw [natsD_lenL, List.length_range]; omega, ?_⟩
  exact wlc_sub (w := w) (fun _ => rfl) (fun _ => rfl) _ _ fun l' hl' => h l' (Ix.sub hl')
theorem turn_b {P : Prob} (ok : P.Ok) (h4 : P.n ≤ 4) {w : V} {t : Nat} {I0 : List Nat} (hI0 : Ix P I0) {a8 a9 a10 a11 a12 a13 a14 a15 a16 a17 a18 a19 a20 a21 a22 a23 : Sl} : ∃ (I : List Nat) (b : Sl), Ix P I ∧ run FL WN tB [Sl.no, .fix w, .dat P.D, .dat (.int P.cs.length), .dat (.list (rowsD (rks P.n))), .dat (tupN (List.range P.cs.length)), .dat (.int t), .dat (tupN I0), a8, a9, a10, a11, a12, a13, a14, a15, a16, a17, a18, a19, a20, a21, a22, a23] = some (.nx [Sl.no, .fix w, .dat P.D, .dat (.int P.cs.length), .dat (.list (rowsD (rks P.n))), .dat (tupN (List.range P.cs.length)), .dat (.int t), .dat (tupN I), a8, a9, a10, a11, a12, a13, a14, a15, b, a17, a18, a19, a20, a21, a22, a23]) := by
  have m := ok.m12
  have hl := rks_len h4
  unfold tB
  by_cases h0 : t = 0
  · subst h0
    refine ⟨I0, a16, hI0, ?_⟩
    simp! [show decide ((0 : Int) < ((0 : Nat) : Int)) = false from rfl]
  · have e0 : decide ((0 : Int) < (t : Int)) = true := decide_eq_true (by omega)
    simp! [e0]
    rw [lc_all (rks P.n) (fun r => tupN r) (fun r => .list (natsD (bk P r))) (by omega) fun r hr => ⟨_, bind1, t_yes, by
      have hrk := mem_rks.mp hr
      show ev FL _ [Sl.no, .fix w, .dat P.D, .dat (.int P.cs.length), .dat (.list (rowsD (rks P.n))), .dat (tupN (List.range P.cs.length)), .dat (.int t), .dat (tupN I0), a8, a9, a10, a11, a12, a13, a14, a15, a16, a17, a18, a19, a20, .dat (tupN r), a22, a23] = _
      simp! [itR_nat (n := P.cs.length) (by omega)]
      rw [lc_natsN (List.range P.cs.length) (fun j => !holds (conAt P j) r) (by rw [List.length_range]; omega) fun j hj => ⟨_, bind1, by
        have hjn := List.mem_range.mp hj
        show evT FL _ [Sl.no, .fix w, .dat P.D, .dat (.int P.cs.length), .dat (.list (rowsD (rks P.n))), .dat (tupN (List.range P.cs.length)), .dat (.int t), .dat (tupN I0), a8, a9, a10, a11, a12, a13, a14, a15, a16, a17, a18, a19, a20, .dat (tupN r), a22, .dat (.int j)] = _
        simp! [show ixD P.D 1 = some (.tuple (P.cs.map Con.D)) from atI_1, atI_con hjn, show FL 48 [(conAt P j).D, tupN r] = _ from sp_holdsL (k := 30) (by omega) (ok.cok _ (conAt_mem hjn)) (r := r) hrk], fun _ => rfl⟩]
      rfl⟩]
    by_cases h1 : t = 1
    · subst h1
      simp! [show decide (((1 : Nat) : Int) = 1) = true from rfl]
      have hm : ∀ r ∈ rks P.n, (bk P r).length ≤ 1000 := fun r hr => by
        have := List.length_filter_le (fun j => !holds (conAt P j) r) (List.range P.cs.length)
        rw [List.length_range] at this
        unfold bk
        omega
      have hlc := lc_all (tg := [20]) (t := evT FL (.bl true)) (e := ev FL (.tup (.cons (.len (.var 20)) (.cons (.var 20) .nil)))) (ρ := [Sl.no, .fix w, .dat P.D, .dat (.int P.cs.length), .dat (.list (rowsD (rks P.n))), .dat (tupN (List.range P.cs.length)), .dat (.int ((1 : Nat) : Int)), .dat (tupN I0), a8, a9, a10, a11, a12, a13, a14, a15, .dat (.list ((rks P.n).map fun r => .list (natsD (bk P r)))), a17, a18, a19, a20, a21, a22, a23]) (rks P.n) (fun r => .list (natsD (bk P r))) (fun r => llD (bk P r)) (by omega) (fun r hr => by
        refine ⟨_, bind1, t_yes, ?_⟩
        show ev FL _ [Sl.no, .fix w, .dat P.D, .dat (.int P.cs.length), .dat (.list (rowsD (rks P.n))), .dat (tupN (List.range P.cs.length)), .dat (.int ((1 : Nat) : Int)), .dat (tupN I0), a8, a9, a10, a11, a12, a13, a14, a15, .dat (.list ((rks P.n).map fun r => .list (natsD (bk P r)))), a17, a18, a19, .dat (.list (natsD (bk P r))), a21, a22, a23] = _
        simp! [natsD_lenL, List.length_cons, List.length_nil, show 0 + 1 + 1 ≤ 100000 from by decide])
      rw [hlc]
      cases hA : rks P.n with
      | nil => exact absurd hA rks_ne
      | cons r0 rs =>
        obtain ⟨e, he, hmn⟩ := minLD_ll (c := bk P r0) (cs := rs.map (bk P)) fun e he => by
          have : e ∈ (rks P.n).map (bk P) := by rw [hA]; exact he
          obtain ⟨r, hr, rfl⟩ := List.mem_map.mp this
          exact hm r hr
        have he2 : e ∈ (rks P.n).map (bk P) := by rw [hA]; exact he
        obtain ⟨r, hr, rfl⟩ := List.mem_map.mp he2
        rw [show (bk P r0 :: rs.map (bk P)).map llD = (r0 :: rs).map (fun r => llD (bk P r)) by simp] at hmn
        simp! [hmn]
        exact ⟨bk P r, _, Ix.sub List.filter_sublist, rfl⟩
    · simp! [show decide ((t : Int) = 1) = false from decide_eq_false (by omega)]
      exact ⟨List.range P.cs.length, _, Ix.all, rfl⟩
theorem turn_cb {P : Prob} (ok : P.Ok) (h4 : P.n ≤ 4) {w : V} {t : Int} {I : List Nat} (hI : Ix P I) {x : Nat} {a8 a9 a10 a11 a12 a13 a14 a15 a16 a18 a19 a20 a21 a22 a23 : Sl} : ∃ (J : List Nat) (b : Sl), Ix P J ∧ run FL WN tCB [Sl.no, .fix w, .dat P.D, .dat (.int P.cs.length), .dat (.list (rowsD (rks P.n))), .dat (tupN (List.range P.cs.length)), .dat (.int t), .dat (tupN I), a8, a9, a10, a11, a12, a13, a14, a15, a16, .dat (.int x), a18, a19, a20, a21, a22, a23] = some (.nx [Sl.no, .fix w, .dat P.D, .dat (.int P.cs.length), .dat (.list (rowsD (rks P.n))), .dat (tupN (List.range P.cs.length)), .dat (.int t), .dat (tupN J), a8, a9, a10, a11, a12, a13, a14, a15, a16, .dat (.int x), a18, b, a20, a21, a22, a23]) := by
  have m := ok.m12
  have hl := hI.len
  unfold tCB
  have ea := anyG19 ok h4 (hI.less x) (w := w) (a6 := .dat (.int t)) (a7 := .dat (tupN I)) (a8 := a8) (a9 := a9) (a10 := a10) (a11 := a11) (a12 := a12) (a13 := a13) (a14 := a14) (a15 := a15) (a16 := a16) (a17 := .dat (.int x)) (a18 := a18) (a20 := a20) (a21 := a21) (a22 := a22) (a23 := a23)
  have e52 : ev FL (.call 52 (.cons (.var 7) (.cons (.var 17) .nil))) [Sl.no, .fix w, .dat P.D, .dat (.int P.cs.length), .dat (.list (rowsD (rks P.n))), .dat (tupN (List.range P.cs.length)), .dat (.int t), .dat (tupN I), a8, a9, a10, a11, a12, a13, a14, a15, a16, .dat (.int x), a18, a19, a20, a21, a22, a23] = some (tupN (lessN I x)) := by
    simp! [show FL 52 [tupN I, .int x] = _ from sp_lwithout (k := 30) (by omega) (show I.length ≤ 1000 by omega) x]
  cases hh : holdB P (lessN I x) with
  | true =>
    refine ⟨I, .dat (tupN (lessN I x)), hI, ?_⟩
    have e7 : ev FL (.ite (.any (.lc false [21] (.itS (.var 4)) (.bl true) (.all (.lc false [22] (.itS (.call 51 (.cons (.var 2) (.cons (.var 19) .nil)))) (.bl true) (.call 48 (.cons (.var 22) (.cons (.var 21) .nil))))))) (.var 7) (.var 19)) [Sl.no, .fix w, .dat P.D, .dat (.int P.cs.length), .dat (.list (rowsD (rks P.n))), .dat (tupN (List.range P.cs.length)), .dat (.int t), .dat (tupN I), a8, a9, a10, a11, a12, a13, a14, a15, a16, .dat (.int x), a18, .dat (tupN (lessN I x)), a20, a21, a22, a23] = some (tupN I) := by
      rw [e_ite, ea, hh]; rfl
    rw [r_cons, r_set, e52, Option.map_some, Option.bind_some, o_nx, r_cons, r_set]
    show (((ev FL (.ite (.any (.lc false [21] (.itS (.var 4)) (.bl true) (.all (.lc false [22] (.itS (.call 51 (.cons (.var 2) (.cons (.var 19) .nil)))) (.bl true) (.call 48 (.cons (.var 22) (.cons (.var 21) .nil))))))) (.var 7) (.var 19)) [Sl.no, .fix w, .dat P.D, .dat (.int P.cs.length), .dat (.list (rowsD (rks P.n))), .dat (tupN (List.range P.cs.length)), .dat (.int t), .dat (tupN I), a8, a9, a10, a11, a12, a13, a14, a15, a16, .dat (.int x), a18, .dat (tupN (lessN I x)), a20, a21, a22, a23]).map _).bind _) = _
    rw [e7]
    rfl
  | false =>
    refine ⟨lessN I x, .dat (tupN (lessN I x)), hI.less x, ?_⟩
    have e7 : ev FL (.ite (.any (.lc false [21] (.itS (.var 4)) (.bl true) (.all (.lc false [22] (.itS (.call 51 (.cons (.var 2) (.cons (.var 19) .nil)))) (.bl true) (.call 48 (.cons (.var 22) (.cons (.var 21) .nil))))))) (.var 7) (.var 19)) [Sl.no, .fix w, .dat P.D, .dat (.int P.cs.length), .dat (.list (rowsD (rks P.n))), .dat (tupN (List.range P.cs.length)), .dat (.int t), .dat (tupN I), a8, a9, a10, a11, a12, a13, a14, a15, a16, .dat (.int x), a18, .dat (tupN (lessN I x)), a20, a21, a22, a23] = some (tupN (lessN I x)) := by
      rw [e_ite, ea, hh]; rfl
    rw [r_cons, r_set, e52, Option.map_some, Option.bind_some, o_nx, r_cons, r_set]
    show (((ev FL (.ite (.any (.lc false [21] (.itS (.var 4)) (.bl true) (.all (.lc false [22] (.itS (.call 51 (.cons (.var 2) (.cons (.var 19) .nil)))) (.bl true) (.call 48 (.cons (.var 22) (.cons (.var 21) .nil))))))) (.var 7) (.var 19)) [Sl.no, .fix w, .dat P.D, .dat (.int P.cs.length), .dat (.list (rowsD (rks P.n))), .dat (tupN (List.range P.cs.length)), .dat (.int t), .dat (tupN I), a8, a9, a10, a11, a12, a13, a14, a15, a16, .dat (.int x), a18, .dat (tupN (lessN I x)), a20, a21, a22, a23]).map _).bind _) = _
    rw [e7]
    rfl
theorem turn_c {P : Prob} (ok : P.Ok) (h4 : P.n ≤ 4) {w : V} {t : Nat} {I0 : List Nat} (hI0 : Ix P I0) {a8 a9 a10 a11 a12 a13 a14 a15 a16 a17 a18 a19 a20 a21 a22 a23 : Sl} : ∃ (I : List Nat) (b c : Sl), Ix P I ∧ run FL WN tC [Sl.no, .fix w, .dat P.D, .dat (.int P.cs.length), .dat (.list (rowsD (rks P.n))), .dat (tupN (List.range P.cs.length)), .dat (.int t), .dat (tupN I0), a8, a9, a10, a11, a12, a13, a14, a15, a16, a17, a18, a19, a20, a21, a22, a23] = some (.nx [Sl.no, .fix w, .dat P.D, .dat (.int P.cs.length), .dat (.list (rowsD (rks P.n))), .dat (tupN (List.range P.cs.length)), .dat (.int t), .dat (tupN I), a8, a9, a10, a11, a12, a13, a14, a15, a16, b, a18, c, a20, a21, a22, a23]) := by
  have m := ok.m12
  unfold tC
  by_cases h0 : t = 3
  · subst h0
    obtain ⟨ρ', h1, I, b, c, hI, rfl⟩ := forGo_pre (bind := fun d ρ => bindT [17] ρ d) (body := run FL WN tCB) (fun i : Nat => PyData.int i) (fun _ ρ => ∃ (I : List Nat) (b c : Sl), Ix P I ∧ ρ = [Sl.no, .fix w, .dat P.D, .dat (.int P.cs.length), .dat (.list (rowsD (rks P.n))), .dat (tupN (List.range P.cs.length)), .dat (.int ((3 : Nat) : Int)), .dat (tupN I), a8, a9, a10, a11, a12, a13, a14, a15, a16, b, a18, c, a20, a21, a22, a23]) (List.range P.cs.length) (fun done x rest ρ e r => by
      obtain ⟨I, b, c, hI, rfl⟩ := r
      obtain ⟨J, b2, hJ, g⟩ := turn_cb ok h4 (w := w) (t := ((3 : Nat) : Int)) hI (x := x) (a8 := a8) (a9 := a9) (a10 := a10) (a11 := a11) (a12 := a12) (a13 := a13) (a14 := a14) (a15 := a15) (a16 := a16) (a18 := a18) (a19 := c) (a20 := a20) (a21 := a21) (a22 := a22) (a23 := a23)
      exact ⟨_, _, bind1, g, J, .dat (.int x), b2, hJ, rfl⟩) (List.range P.cs.length) [] [Sl.no, .fix w, .dat P.D, .dat (.int P.cs.length), .dat (.list (rowsD (rks P.n))), .dat (tupN (List.range P.cs.length)), .dat (.int ((3 : Nat) : Int)), .dat (tupN I0), a8, a9, a10, a11, a12, a13, a14, a15, a16, a17, a18, a19, a20, a21, a22, a23] rfl ⟨I0, a17, a19, hI0, rfl⟩
    refine ⟨I, b, c, hI, ?_⟩
    simp! [show decide (((3 : Nat) : Int) = 3) = true from rfl, itR_nat (n := P.cs.length) (by omega)]
    have h2 : forGo (fun d ρ => bindT [17] ρ d) (run FL WN tCB) (natsD (List.range P.cs.length)) [Sl.no, .fix w, .dat P.D, .dat (.int P.cs.length), .dat (.list (rowsD (rks P.n))), .dat (tupN (List.range P.cs.length)), .dat (.int ((3 : Nat) : Int)), .dat (tupN I0), a8, a9, a10, a11, a12, a13, a14, a15, a16, a17, a18, a19, a20, a21, a22, a23] = _ := h1
    unfold tCB at h2
    rw [h2]
    simp! []
  · refine ⟨I0, a17, a19, hI0, ?_⟩
    simp! [show decide ((t : Int) = 3) = false from decide_eq_false (by omega)]
end R60

end -- S19
section -- S20
set_option Elab.async false
set_option linter.all false
set_option maxRecDepth 100000
set_option maxHeartbeats 4000000
/-! The law, III: what is due (printed in part by genS20.py). -/
namespace R60
open PySem L2
open SeqAt (shaped)
theorem slL1 (ds : List PyData) : slD (.list ds) (some 1) none = some (.list (ds.drop 1)) := by
  show some (PyData.list (cutD ds (some 1) none)) = _
  rw [cut1]
theorem rows_cons {P : Prob} {I : List Nat} : [tupN I] ++ rowsD (I.map (lessN I)) = rowsD (I :: I.map (lessN I)) := rfl
theorem due0 {P : Prob} {I : List Nat} : (!holdB P I && !((I.map (lessN I)).any fun J => !holdB P J)) = conflB P I := by
  unfold conflB
  congr 1
  rw [List.any_map, Bool.eq_iff_iff, Bool.not_eq_true', ← Bool.not_eq_true, List.any_eq_true, List.all_eq_true]
  constructor
  · intro h x hx
    cases hh : holdB P (lessN I x) with
    | true => rfl
    | false => exact absurd ⟨x, hx, by show (!holdB P (lessN I x)) = true; rw [hh]; rfl⟩ h
  · rintro h ⟨x, hx, hh⟩
    have h2 : (!holdB P (lessN I x)) = true := hh
    rw [h x hx] at h2
    cases h2
theorem due1 {P : Prob} {I : List Nat} : (!(!holdB P (restN P I)) && ((I.map (lessN I)).map (restN P)).all fun J => !holdB P J) = corrB P I := by
  unfold corrB
  rw [Bool.not_not]
  congr 1
  rw [List.all_map, List.all_map, Bool.eq_iff_iff, Bool.not_eq_true', ← Bool.not_eq_true, List.any_eq_true, List.all_eq_true]
  constructor
  · rintro h ⟨x, hx, hh⟩
    have h2 : (!holdB P (restN P (lessN I x))) = true := h x hx
    rw [hh] at h2
    cases h2
  · intro h x hx
    show (!holdB P (restN P (lessN I x))) = true
    cases hh : holdB P (restN P (lessN I x)) with
    | false => rfl
    | true => exact absurd ⟨x, hx, hh⟩ h
theorem turn_8 {P : Prob} (ok : P.Ok) (h4 : P.n ≤ 4) {w : V} {t : Int} {I : List Nat} (hI : Ix P I) {a8 a9 a10 a11 a12 a13 a14 a15 a16 a17 a18 a19 a20 a21 a22 a23 : Sl} : run FL WN (.set 8 (.lc false [17] (.itS (.var 7)) (.bl true) (.call 52 (.cons (.var 7) (.cons (.var 17) .nil))))) [Sl.no, .fix w, .dat P.D, .dat (.int P.cs.length), .dat (.list (rowsD (rks P.n))), .dat (tupN (List.range P.cs.length)), .dat (.int t), .dat (tupN I), a8, a9, a10, a11, a12, a13, a14, a15, a16, a17, a18, a19, a20, a21, a22, a23] = some (.nx [Sl.no, .fix w, .dat P.D, .dat (.int P.cs.length), .dat (.list (rowsD (rks P.n))), .dat (tupN (List.range P.cs.length)), .dat (.int t), .dat (tupN I), .dat (.list (rowsD (I.map (lessN I)))), a9, a10, a11, a12, a13, a14, a15, a16, a17, a18, a19, a20, a21, a22, a23]) := by
  have m := ok.m12
  have hl := hI.len
  simp! []
  rw [lc_natsA I (fun x => tupN (lessN I x)) (by omega) fun x hx => ⟨_, bind1, t_yes, by
    show ev FL _ [Sl.no, .fix w, .dat P.D, .dat (.int P.cs.length), .dat (.list (rowsD (rks P.n))), .dat (tupN (List.range P.cs.length)), .dat (.int t), .dat (tupN I), a8, a9, a10, a11, a12, a13, a14, a15, a16, .dat (.int x), a18, a19, a20, a21, a22, a23] = _
    simp! [show FL 52 [tupN I, .int x] = _ from sp_lwithout (k := 30) (by omega) (show I.length ≤ 1000 by omega) x]⟩]
  rw [show (I.map fun x => tupN (lessN I x)) = rowsD (I.map (lessN I)) by unfold rowsD; rw [List.map_map]; rfl]
  simp! []
theorem turn_9 {P : Prob} (ok : P.Ok) (h4 : P.n ≤ 4) {w : V} {t : Int} {I : List Nat} (hI : Ix P I) {a9 a10 a11 a12 a13 a14 a15 a16 a17 a18 a19 a20 a21 a22 a23 : Sl} : run FL WN (.set 9 (.lc false [20] (.itS (.add (.lst (.cons (.var 7) .nil)) (.var 8))) (.bl true) (.not (.any (.lc false [21] (.itS (.var 4)) (.bl true) (.all (.lc false [22] (.itS (.call 51 (.cons (.var 2) (.cons (.var 20) .nil)))) (.bl true) (.call 48 (.cons (.var 22) (.cons (.var 21) .nil)))))))))) [Sl.no, .fix w, .dat P.D, .dat (.int P.cs.length), .dat (.list (rowsD (rks P.n))), .dat (tupN (List.range P.cs.length)), .dat (.int t), .dat (tupN I), .dat (.list (rowsD (I.map (lessN I)))), a9, a10, a11, a12, a13, a14, a15, a16, a17, a18, a19, a20, a21, a22, a23] = some (.nx [Sl.no, .fix w, .dat P.D, .dat (.int P.cs.length), .dat (.list (rowsD (rks P.n))), .dat (tupN (List.range P.cs.length)), .dat (.int t), .dat (tupN I), .dat (.list (rowsD (I.map (lessN I)))), .dat (.list ((I :: I.map (lessN I)).map fun J => .bool (!holdB P J))), a10, a11, a12, a13, a14, a15, a16, a17, a18, a19, a20, a21, a22, a23]) := by
  have m := ok.m12
  have hl := hI.len
  simp! [if_pos lst1, addD_ll (xs := [tupN I]) (ys := rowsD (I.map (lessN I))) (by simp; omega), rows_cons (P := P)]
  rw [lc_all (I :: I.map (lessN I)) (fun r => tupN r) (fun J => .bool (!holdB P J)) (by simp; omega) fun J hJ => ⟨_, bind1, t_yes, by
    have hJx : Ix P J := by
      rcases List.mem_cons.mp hJ with rfl | hJ
      · exact hI
      · obtain ⟨x, _, rfl⟩ := List.mem_map.mp hJ
        exact hI.less x
    show ev FL (.not (.any (.lc false [21] (.itS (.var 4)) (.bl true) (.all (.lc false [22] (.itS (.call 51 (.cons (.var 2) (.cons (.var 20) .nil)))) (.bl true) (.call 48 (.cons (.var 22) (.cons (.var 21) .nil)))))))) [Sl.no, .fix w, .dat P.D, .dat (.int P.cs.length), .dat (.list (rowsD (rks P.n))), .dat (tupN (List.range P.cs.length)), .dat (.int t), .dat (tupN I), .dat (.list (rowsD (I.map (lessN I)))), a9, a10, a11, a12, a13, a14, a15, a16, a17, a18, a19, .dat (tupN J), a21, a22, a23] = _
    rw [e_not, anyG20 ok h4 hJx (w := w) (a6 := .dat (.int t)) (a7 := .dat (tupN I)) (a8 := .dat (.list (rowsD (I.map (lessN I))))) (a9 := a9) (a10 := a10) (a11 := a11) (a12 := a12) (a13 := a13) (a14 := a14) (a15 := a15) (a16 := a16) (a17 := a17) (a18 := a18) (a19 := a19) (a21 := a21) (a22 := a22) (a23 := a23)]
    rfl⟩]
  simp! []
theorem turn_10 {P : Prob} (ok : P.Ok) (h4 : P.n ≤ 4) {w : V} {t : Int} {I : List Nat} (hI : Ix P I) {a10 a11 a12 a13 a14 a15 a16 a17 a18 a19 a20 a21 a22 a23 : Sl} : run FL WN (.set 10 (.lc false [20] (.itS (.add (.lst (.cons (.var 7) .nil)) (.var 8))) (.bl true) (.call 53 (.cons (.var 2) (.cons (.var 20) .nil))))) [Sl.no, .fix w, .dat P.D, .dat (.int P.cs.length), .dat (.list (rowsD (rks P.n))), .dat (tupN (List.range P.cs.length)), .dat (.int t), .dat (tupN I), .dat (.list (rowsD (I.map (lessN I)))), .dat (.list ((I :: I.map (lessN I)).map fun J => .bool (!holdB P J))), a10, a11, a12, a13, a14, a15, a16, a17, a18, a19, a20, a21, a22, a23] = some (.nx [Sl.no, .fix w, .dat P.D, .dat (.int P.cs.length), .dat (.list (rowsD (rks P.n))), .dat (tupN (List.range P.cs.length)), .dat (.int t), .dat (tupN I), .dat (.list (rowsD (I.map (lessN I)))), .dat (.list ((I :: I.map (lessN I)).map fun J => .bool (!holdB P J))), .dat (.list (rowsD ((I :: I.map (lessN I)).map (restN P)))), a11, a12, a13, a14, a15, a16, a17, a18, a19, a20, a21, a22, a23]) := by
  have m := ok.m12
  have hl := hI.len
  simp! [if_pos lst1, addD_ll (xs := [tupN I]) (ys := rowsD (I.map (lessN I))) (by simp; omega), rows_cons (P := P)]
  rw [lc_all (I :: I.map (lessN I)) (fun r => tupN r) (fun J => tupN (restN P J)) (by simp; omega) fun J hJ => ⟨_, bind1, t_yes, by
    show ev FL _ [Sl.no, .fix w, .dat P.D, .dat (.int P.cs.length), .dat (.list (rowsD (rks P.n))), .dat (tupN (List.range P.cs.length)), .dat (.int t), .dat (tupN I), .dat (.list (rowsD (I.map (lessN I)))), .dat (.list ((I :: I.map (lessN I)).map fun J => .bool (!holdB P J))), a10, a11, a12, a13, a14, a15, a16, a17, a18, a19, .dat (tupN J), a21, a22, a23] = _
    simp! [show FL 53 [P.D, tupN J] = _ from sp_lrest (k := 30) (by omega) ok]⟩]
  rw [show ((I :: I.map (lessN I)).map fun J => tupN (restN P J)) = rowsD ((I :: I.map (lessN I)).map (restN P)) by unfold rowsD; rw [List.map_map]; rfl]
  simp! []
theorem turn_11 {P : Prob} (ok : P.Ok) (h4 : P.n ≤ 4) {w : V} {t : Int} {I : List Nat} (hI : Ix P I) {a11 a12 a13 a14 a15 a16 a17 a18 a19 a20 a21 a22 a23 : Sl} : run FL WN (.set 11 (.lc false [20] (.itS (.var 10)) (.bl true) (.not (.any (.lc false [21] (.itS (.var 4)) (.bl true) (.all (.lc false [22] (.itS (.call 51 (.cons (.var 2) (.cons (.var 20) .nil)))) (.bl true) (.call 48 (.cons (.var 22) (.cons (.var 21) .nil)))))))))) [Sl.no, .fix w, .dat P.D, .dat (.int P.cs.length), .dat (.list (rowsD (rks P.n))), .dat (tupN (List.range P.cs.length)), .dat (.int t), .dat (tupN I), .dat (.list (rowsD (I.map (lessN I)))), .dat (.list ((I :: I.map (lessN I)).map fun J => .bool (!holdB P J))), .dat (.list (rowsD ((I :: I.map (lessN I)).map (restN P)))), a11, a12, a13, a14, a15, a16, a17, a18, a19, a20, a21, a22, a23] = some (.nx [Sl.no, .fix w, .dat P.D, .dat (.int P.cs.length), .dat (.list (rowsD (rks P.n))), .dat (tupN (List.range P.cs.length)), .dat (.int t), .dat (tupN I), .dat (.list (rowsD (I.map (lessN I)))), .dat (.list ((I :: I.map (lessN I)).map fun J => .bool (!holdB P J))), .dat (.list (rowsD ((I :: I.map (lessN I)).map (restN P)))), .dat (.list (((I :: I.map (lessN I)).map (restN P)).map fun J => .bool (!holdB P J))), a12, a13, a14, a15, a16, a17, a18, a19, a20, a21, a22, a23]) := by
  have m := ok.m12
  have hl := hI.len
  simp! []
  rw [lc_all ((I :: I.map (lessN I)).map (restN P)) (fun r => tupN r) (fun J => .bool (!holdB P J)) (by simp; omega) fun J hJ => ⟨_, bind1, t_yes, by
    have hJx : Ix P J := by
      obtain ⟨K, _, rfl⟩ := List.mem_map.mp hJ
      exact Ix.rest
    show ev FL (.not (.any (.lc false [21] (.itS (.var 4)) (.bl true) (.all (.lc false [22] (.itS (.call 51 (.cons (.var 2) (.cons (.var 20) .nil)))) (.bl true) (.call 48 (.cons (.var 22) (.cons (.var 21) .nil)))))))) [Sl.no, .fix w, .dat P.D, .dat (.int P.cs.length), .dat (.list (rowsD (rks P.n))), .dat (tupN (List.range P.cs.length)), .dat (.int t), .dat (tupN I), .dat (.list (rowsD (I.map (lessN I)))), .dat (.list ((I :: I.map (lessN I)).map fun J => .bool (!holdB P J))), .dat (.list (rowsD ((I :: I.map (lessN I)).map (restN P)))), a11, a12, a13, a14, a15, a16, a17, a18, a19, .dat (tupN J), a21, a22, a23] = _
    rw [e_not, anyG20 ok h4 hJx (w := w) (a6 := .dat (.int t)) (a7 := .dat (tupN I)) (a8 := .dat (.list (rowsD (I.map (lessN I))))) (a9 := .dat (.list ((I :: I.map (lessN I)).map fun J => .bool (!holdB P J)))) (a10 := .dat (.list (rowsD ((I :: I.map (lessN I)).map (restN P))))) (a11 := a11) (a12 := a12) (a13 := a13) (a14 := a14) (a15 := a15) (a16 := a16) (a17 := a17) (a18 := a18) (a19 := a19) (a21 := a21) (a22 := a22) (a23 := a23)]
    rfl⟩]
  simp! []
/-- «and» with both sides told ahead -/
def and2 (o o' : Option Bool) : Option PyData := o.bind fun c => if c = true then o'.map .bool else some (.bool false)
theorem e_and2 {F : Fs} {a b : Xp} {ρ : List Sl} : ev F (.and a b) ρ = and2 ((ev F a ρ).bind boolD) ((ev F b ρ).bind boolD) := rfl
theorem and2_ss (a b : Bool) : and2 (some a) (some b) = some (.bool (a && b)) := by cases a <;> rfl
theorem turn_12 {P : Prob} (ok : P.Ok) (h4 : P.n ≤ 4) {w : V} {t : Int} {I : List Nat} (hI : Ix P I) {a12 a13 a14 a15 a16 a17 a18 a19 a20 a21 a22 a23 : Sl} : run FL WN (.set 12 (.lst (.cons (.and (.ix (.var 9) (.int 0)) (.not (.any (.sl (.var 9) (.part (.int 1)) .nil)))) (.cons (.and (.not (.ix (.var 11) (.int 0))) (.all (.sl (.var 11) (.part (.int 1)) .nil))) .nil)))) [Sl.no, .fix w, .dat P.D, .dat (.int P.cs.length), .dat (.list (rowsD (rks P.n))), .dat (tupN (List.range P.cs.length)), .dat (.int t), .dat (tupN I), .dat (.list (rowsD (I.map (lessN I)))), .dat (.list ((I :: I.map (lessN I)).map fun J => .bool (!holdB P J))), .dat (.list (rowsD ((I :: I.map (lessN I)).map (restN P)))), .dat (.list (((I :: I.map (lessN I)).map (restN P)).map fun J => .bool (!holdB P J))), a12, a13, a14, a15, a16, a17, a18, a19, a20, a21, a22, a23] = some (.nx [Sl.no, .fix w, .dat P.D, .dat (.int P.cs.length), .dat (.list (rowsD (rks P.n))), .dat (tupN (List.range P.cs.length)), .dat (.int t), .dat (tupN I), .dat (.list (rowsD (I.map (lessN I)))), .dat (.list ((I :: I.map (lessN I)).map fun J => .bool (!holdB P J))), .dat (.list (rowsD ((I :: I.map (lessN I)).map (restN P)))), .dat (.list (((I :: I.map (lessN I)).map (restN P)).map fun J => .bool (!holdB P J))), .dat (.list [.bool (conflB P I), .bool (corrB P I)]), a13, a14, a15, a16, a17, a18, a19, a20, a21, a22, a23]) := by
  have m := ok.m12
  have hl := hI.len
  simp! [List.map_cons, ion, slL1, List.drop_succ_cons, List.drop_zero, allM_blf, any_map_id, all_map_id, ↓e_and2, and2_ss, due0, due1, List.length_cons, List.length_nil, show 0 + 1 + 1 ≤ 100000 from by decide]
end R60

end -- S20
section -- S21
set_option Elab.async false
set_option linter.all false
set_option maxRecDepth 100000
set_option maxHeartbeats 4000000
/-! The law, IV: what is told (printed in part by genS21.py). -/
namespace R60
open PySem L2
open SeqAt (shaped)
/-- told as due -/
structure Told (P : Prob) (I : List Nat) (d0 d1 : PyData) : Prop where
  e0 : FL 56 [.int 0, P.D, tupN I] = some d0
  e1 : FL 56 [.int 1, P.D, tupN I] = some d1
  c0 : (conflB P I = true ∧ ∃ c rs, d0 = .tuple [c, .tuple rs] ∧ rs.length ≤ 12 ∧ fine 8 d0 = true ∧ accConf P I d0 = true) ∨ (conflB P I = false ∧ d0 = .list [.str "conflict", .bool true])
  c1 : (corrB P I = true ∧ ∃ c rs, d1 = .tuple [c, .tuple rs] ∧ rs.length ≤ 12 ∧ fine 8 d1 = true ∧ accCorr P I d1 = true) ∨ (corrB P I = false ∧ d1 = .list [.str "correction", .bool true])
theorem told_all {P : Prob} (ok : P.Ok) (h4 : P.n ≤ 4) {I : List Nat} (h : Ix P I) : ∃ d0 d1, Told P I d0 d1 := by
  obtain ⟨d0, a0, b0⟩ := told_conf ok h4 h
  obtain ⟨d1, a1, b1⟩ := told_corr ok h4 h
  exact ⟨d0, d1, a0, a1, b0, b1⟩
theorem eq_conf : eqD (.list [.str "conflict", .bool true]) (.list [.str "conflict", .bool true]) = some true := by decide +kernel
theorem eq_corr : eqD (.list [.str "correction", .bool true]) (.list [.str "correction", .bool true]) = some true := by decide +kernel
theorem eq_bb : ∀ a b : Bool, eqD (.list [.bool a, .bool b]) (.list [.bool a, .bool b]) = some true := by decide +kernel
theorem Told.t0 {P : Prob} {I : List Nat} {d0 d1 : PyData} (T : Told P I d0 d1) : isiD .tup d0 = conflB P I := by
  rcases T.c0 with ⟨h, c, rs, rfl, _⟩ | ⟨h, rfl⟩
  · rw [h]; rfl
  · rw [h]; rfl
theorem Told.t1 {P : Prob} {I : List Nat} {d0 d1 : PyData} (T : Told P I d0 d1) : isiD .tup d1 = corrB P I := by
  rcases T.c1 with ⟨h, c, rs, rfl, _⟩ | ⟨h, rfl⟩
  · rw [h]; rfl
  · rw [h]; rfl
theorem turn_13 {P : Prob} (ok : P.Ok) (h4 : P.n ≤ 4) {w : V} {t : Int} {I : List Nat} (hI : Ix P I) {d0 d1 : PyData} (T : Told P I d0 d1) {a13 a14 a15 a16 a17 a18 a19 a20 a21 a22 a23 : Sl} : run FL WN (.set 13 (.lst (.cons (.call 56 (.cons (.int 0) (.cons (.var 2) (.cons (.var 7) .nil)))) (.cons (.call 56 (.cons (.int 1) (.cons (.var 2) (.cons (.var 7) .nil)))) .nil)))) [Sl.no, .fix w, .dat P.D, .dat (.int P.cs.length), .dat (.list (rowsD (rks P.n))), .dat (tupN (List.range P.cs.length)), .dat (.int t), .dat (tupN I), .dat (.list (rowsD (I.map (lessN I)))), .dat (.list ((I :: I.map (lessN I)).map fun J => .bool (!holdB P J))), .dat (.list (rowsD ((I :: I.map (lessN I)).map (restN P)))), .dat (.list (((I :: I.map (lessN I)).map (restN P)).map fun J => .bool (!holdB P J))), .dat (.list [.bool (conflB P I), .bool (corrB P I)]), a13, a14, a15, a16, a17, a18, a19, a20, a21, a22, a23] = some (.nx [Sl.no, .fix w, .dat P.D, .dat (.int P.cs.length), .dat (.list (rowsD (rks P.n))), .dat (tupN (List.range P.cs.length)), .dat (.int t), .dat (tupN I), .dat (.list (rowsD (I.map (lessN I)))), .dat (.list ((I :: I.map (lessN I)).map fun J => .bool (!holdB P J))), .dat (.list (rowsD ((I :: I.map (lessN I)).map (restN P)))), .dat (.list (((I :: I.map (lessN I)).map (restN P)).map fun J => .bool (!holdB P J))), .dat (.list [.bool (conflB P I), .bool (corrB P I)]), .dat (.list [d0, d1]), a14, a15, a16, a17, a18, a19, a20, a21, a22, a23]) := by
  simp! [T.e0, T.e1, List.length_cons, List.length_nil, show 0 + 1 + 1 ≤ 100000 from by decide]
theorem turn_f {P : Prob} (ok : P.Ok) (h4 : P.n ≤ 4) {w : V} {t : Int} {I : List Nat} (hI : Ix P I) {d0 d1 : PyData} (T : Told P I d0 d1) {a14 a15 a16 a17 a18 a19 a20 a21 a22 a23 : Sl} : run FL WN (.ite (.or (.ne (.lc false [22] (.itS (.var 13)) (.bl true) (.isi .tup (.var 22))) (.var 12)) (.or (.and (.not (.ix (.var 12) (.int 0))) (.ne (.ix (.var 13) (.int 0)) (.lst (.cons (.str "conflict") (.cons (.bl true) .nil))))) (.and (.not (.ix (.var 12) (.int 1))) (.ne (.ix (.var 13) (.int 1)) (.lst (.cons (.str "correction") (.cons (.bl true) .nil))))))) (.cons (.ret (.bl false)) .nil) .nil) [Sl.no, .fix w, .dat P.D, .dat (.int P.cs.length), .dat (.list (rowsD (rks P.n))), .dat (tupN (List.range P.cs.length)), .dat (.int t), .dat (tupN I), .dat (.list (rowsD (I.map (lessN I)))), .dat (.list ((I :: I.map (lessN I)).map fun J => .bool (!holdB P J))), .dat (.list (rowsD ((I :: I.map (lessN I)).map (restN P)))), .dat (.list (((I :: I.map (lessN I)).map (restN P)).map fun J => .bool (!holdB P J))), .dat (.list [.bool (conflB P I), .bool (corrB P I)]), .dat (.list [d0, d1]), a14, a15, a16, a17, a18, a19, a20, a21, a22, a23] = some (.nx [Sl.no, .fix w, .dat P.D, .dat (.int P.cs.length), .dat (.list (rowsD (rks P.n))), .dat (tupN (List.range P.cs.length)), .dat (.int t), .dat (tupN I), .dat (.list (rowsD (I.map (lessN I)))), .dat (.list ((I :: I.map (lessN I)).map fun J => .bool (!holdB P J))), .dat (.list (rowsD ((I :: I.map (lessN I)).map (restN P)))), .dat (.list (((I :: I.map (lessN I)).map (restN P)).map fun J => .bool (!holdB P J))), .dat (.list [.bool (conflB P I), .bool (corrB P I)]), .dat (.list [d0, d1]), a14, a15, a16, a17, a18, a19, a20, a21, a22, a23]) := by
  simp! []
  have lc := lc_all (tg := [22]) (t := evT FL (.bl true)) (e := ev FL (.isi .tup (.var 22))) (ρ := [Sl.no, .fix w, .dat P.D, .dat (.int P.cs.length), .dat (.list (rowsD (rks P.n))), .dat (tupN (List.range P.cs.length)), .dat (.int t), .dat (tupN I), .dat (.list (rowsD (I.map (lessN I)))), .dat (.list ((I :: I.map (lessN I)).map fun J => .bool (!holdB P J))), .dat (.list (rowsD ((I :: I.map (lessN I)).map (restN P)))), .dat (.list (((I :: I.map (lessN I)).map (restN P)).map fun J => .bool (!holdB P J))), .dat (.list [.bool (conflB P I), .bool (corrB P I)]), .dat (.list [d0, d1]), a14, a15, a16, a17, a18, a19, a20, a21, a22, a23]) [d0, d1] id (fun d => .bool (isiD .tup d)) (show 2 ≤ 50000 by decide) (fun d hd => by
    refine ⟨_, bind1, t_yes, ?_⟩
    show ev FL _ [Sl.no, .fix w, .dat P.D, .dat (.int P.cs.length), .dat (.list (rowsD (rks P.n))), .dat (tupN (List.range P.cs.length)), .dat (.int t), .dat (tupN I), .dat (.list (rowsD (I.map (lessN I)))), .dat (.list ((I :: I.map (lessN I)).map fun J => .bool (!holdB P J))), .dat (.list (rowsD ((I :: I.map (lessN I)).map (restN P)))), .dat (.list (((I :: I.map (lessN I)).map (restN P)).map fun J => .bool (!holdB P J))), .dat (.list [.bool (conflB P I), .bool (corrB P I)]), .dat (.list [d0, d1]), a14, a15, a16, a17, a18, a19, a20, a21, .dat d, a23] = _
    simp! [])
  rw [List.map_id] at lc
  rw [lc, List.map_cons, List.map_cons, List.map_nil, T.t0, T.t1]
  simp! [eq_bb, List.length_cons, List.length_nil, show 0 + 1 + 1 ≤ 100000 from by decide]
  rcases T.c0 with ⟨h0, _⟩ | ⟨h0, e0⟩
  · rcases T.c1 with ⟨h1, _⟩ | ⟨h1, e1⟩
    · simp! [h0, h1]
    · simp! [h0, h1, e1, eq_corr, List.length_cons, List.length_nil, show 0 + 1 + 1 ≤ 100000 from by decide]
  · rcases T.c1 with ⟨h1, _⟩ | ⟨h1, e1⟩
    · simp! [h0, h1, e0, eq_conf, List.length_cons, List.length_nil, show 0 + 1 + 1 ≤ 100000 from by decide]
    · simp! [h0, h1, e0, e1, eq_conf, eq_corr, List.length_cons, List.length_nil, show 0 + 1 + 1 ≤ 100000 from by decide]
theorem turn_g {P : Prob} (ok : P.Ok) (h4 : P.n ≤ 4) {w : V} {t : Int} {I : List Nat} (hI : Ix P I) {d0 d1 : PyData} (T : Told P I d0 d1) {a14 a15 a16 a17 a18 a19 a20 a21 a22 a23 : Sl} : run FL WN (.ite (.or (.and (.ix (.var 12) (.int 0)) (.not (.call 54 (.cons (.var 2) (.cons (.var 7) (.cons (.ix (.var 13) (.int 0)) .nil)))))) (.and (.ix (.var 12) (.int 1)) (.not (.call 55 (.cons (.var 2) (.cons (.var 7) (.cons (.ix (.var 13) (.int 1)) .nil))))))) (.cons (.ret (.bl false)) .nil) .nil) [Sl.no, .fix w, .dat P.D, .dat (.int P.cs.length), .dat (.list (rowsD (rks P.n))), .dat (tupN (List.range P.cs.length)), .dat (.int t), .dat (tupN I), .dat (.list (rowsD (I.map (lessN I)))), .dat (.list ((I :: I.map (lessN I)).map fun J => .bool (!holdB P J))), .dat (.list (rowsD ((I :: I.map (lessN I)).map (restN P)))), .dat (.list (((I :: I.map (lessN I)).map (restN P)).map fun J => .bool (!holdB P J))), .dat (.list [.bool (conflB P I), .bool (corrB P I)]), .dat (.list [d0, d1]), a14, a15, a16, a17, a18, a19, a20, a21, a22, a23] = some (.nx [Sl.no, .fix w, .dat P.D, .dat (.int P.cs.length), .dat (.list (rowsD (rks P.n))), .dat (tupN (List.range P.cs.length)), .dat (.int t), .dat (tupN I), .dat (.list (rowsD (I.map (lessN I)))), .dat (.list ((I :: I.map (lessN I)).map fun J => .bool (!holdB P J))), .dat (.list (rowsD ((I :: I.map (lessN I)).map (restN P)))), .dat (.list (((I :: I.map (lessN I)).map (restN P)).map fun J => .bool (!holdB P J))), .dat (.list [.bool (conflB P I), .bool (corrB P I)]), .dat (.list [d0, d1]), a14, a15, a16, a17, a18, a19, a20, a21, a22, a23]) := by
  rcases T.c0 with ⟨h0, c0, rs0, e0, l0, f0, a0⟩ | ⟨h0, e0⟩
  · have g0 : FL 54 [P.D, tupN I, d0] = some (.bool true) := by
      rw [FL_n (by decide), sp_lconf (k := 30) (by omega) ok hI f0, a0]
    rcases T.c1 with ⟨h1, c1, rs1, e1, l1, f1, a1⟩ | ⟨h1, e1⟩
    · have g1 : FL 55 [P.D, tupN I, d1] = some (.bool true) := by
        rw [FL_n (by decide), sp_lcorr (k := 30) (by omega) ok hI f1, a1]
      simp! [h0, h1, g0, g1]
    · simp! [h0, h1, g0]
  · rcases T.c1 with ⟨h1, c1, rs1, e1, l1, f1, a1⟩ | ⟨h1, e1⟩
    · have g1 : FL 55 [P.D, tupN I, d1] = some (.bool true) := by
        rw [FL_n (by decide), sp_lcorr (k := 30) (by omega) ok hI f1, a1]
      simp! [h0, h1, g1]
    · simp! [h0, h1]
end R60

end -- S21
section -- S22
set_option Elab.async false
set_option linter.all false
set_option maxRecDepth 100000
set_option maxHeartbeats 4000000
/-! The law, V: spare evidence, the evidence gone through (printed in part by genS22.py). -/
namespace R60
open PySem L2
open SeqAt (shaped)
theorem wlc_rows {F : Fs} {bind : PyData → List Sl} {w : V} {rows : List PyData} (hn : rows ≠ []) (hl : rows.length ≤ 1000) (h1 : ∀ d, (bind d)[1]? = some (.fix w)) (h2 : ∀ d, (bind d)[4]? = some (.dat (.list rows))) : ∀ (l : List PyData) (Q : List PyData → Prop), (∀ rs : List PyData, rs.length = l.length → (∀ d ∈ rs, d ∈ rows) → Q rs) → wlc bind (wD F G0 (.pu (.bl true))) (wD F G0 (.dr 1 1 (.cons (.pu (.var 4)) .nil))) l Q
  | [], Q, h => h [] rfl fun d hd => by cases hd
  | x :: l, Q, h => by
    refine ⟨.bool true, rfl, true, rfl, fun _ => ?_, fun z => (nomatch z)⟩
    refine pick_dr (w := w) (rows := rows) (h1 _) ?_ hn hl fun r hr => ?_
    · show varD (bind x)[4]? = _
      rw [h2]; rfl
    · exact wlc_rows hn hl h1 h2 l _ fun rs g1 g2 => h (r :: rs) (by simp [g1]) fun d hd => by
        rcases List.mem_cons.mp hd with rfl | hd
        · exact hr
        · exact g2 d hd
/-- evidence as it may be bent -/
def EvOk (d : PyData) : Prop := ∃ c rs, d = .tuple [c, .tuple rs] ∧ rs.length ≤ 12 ∧ fine 8 d = true
theorem rowsD_ne {n : Nat} : rowsD (rks n) ≠ [] := fun h => rks_ne (List.map_eq_nil_iff.mp h)
theorem rowsD_fine {n : Nat} {d : PyData} (hn : n ≤ 7) (h : d ∈ rowsD (rks n)) : fine 5 d = true := by
  obtain ⟨r, hr, rfl⟩ := List.mem_map.mp h
  exact fine_natsT (by rw [(mem_rks.mp hr).len]; omega)
abbrev tH : Sn := (.set 14 (.tup (.cons (.dr 1 1 (.cons (.pu (.var 4)) .nil)) (.cons (.tlc 17 (.its (.itS (.var 7))) (.pu (.bl true)) (.dr 1 1 (.cons (.pu (.var 4)) .nil))) .nil))))
theorem turn_h {P : Prob} (ok : P.Ok) (h4 : P.n ≤ 4) {w : V} {t : Int} {I : List Nat} (hI : Ix P I) {d0 d1 : PyData} {a14 a15 a16 a17 a18 a19 a20 a21 a22 a23 : Sl} {Q : Out → Prop} (h : ∀ d, EvOk d → Q (.nx [Sl.no, .fix w, .dat P.D, .dat (.int P.cs.length), .dat (.list (rowsD (rks P.n))), .dat (tupN (List.range P.cs.length)), .dat (.int t), .dat (tupN I), .dat (.list (rowsD (I.map (lessN I)))), .dat (.list ((I :: I.map (lessN I)).map fun J => .bool (!holdB P J))), .dat (.list (rowsD ((I :: I.map (lessN I)).map (restN P)))), .dat (.list (((I :: I.map (lessN I)).map (restN P)).map fun J => .bool (!holdB P J))), .dat (.list [.bool (conflB P I), .bool (corrB P I)]), .dat (.list [d0, d1]), .dat d, a15, a16, a17, a18, a19, a20, a21, a22, a23])) : wS FL G0 WN tH [Sl.no, .fix w, .dat P.D, .dat (.int P.cs.length), .dat (.list (rowsD (rks P.n))), .dat (tupN (List.range P.cs.length)), .dat (.int t), .dat (tupN I), .dat (.list (rowsD (I.map (lessN I)))), .dat (.list ((I :: I.map (lessN I)).map fun J => .bool (!holdB P J))), .dat (.list (rowsD ((I :: I.map (lessN I)).map (restN P)))), .dat (.list (((I :: I.map (lessN I)).map (restN P)).map fun J => .bool (!holdB P J))), .dat (.list [.bool (conflB P I), .bool (corrB P I)]), .dat (.list [d0, d1]), a14, a15, a16, a17, a18, a19, a20, a21, a22, a23] Q := by
  have m := ok.m12
  have hl := hI.len
  have hr := rks_len h4
  have hrl : (rowsD (rks P.n)).length ≤ 1000 := by rw [List.length_map]; omega
  refine pick_dr (w := w) (rows := rowsD (rks P.n)) rfl rfl rowsD_ne hrl fun a ha => ?_
  refine ⟨natsD I, rfl, natsD I, rfl, by rw [natsD_lenL]; omega, ?_⟩
  refine wlc_rows (w := w) (rows := rowsD (rks P.n)) rowsD_ne hrl (fun _ => rfl) (fun _ => rfl) _ _ fun rs g1 g2 => ?_
  refine ⟨[], rfl, _, rfl, _, rfl, by show 2 ≤ 100000; decide, h _ ⟨a, rs, rfl, ?_, ?_⟩⟩
  · rw [g1, natsD_lenL]; omega
  · refine fine_mk (by simp) fun d hd => ?_
    simp only [List.mem_cons, List.not_mem_nil, or_false] at hd
    rcases hd with rfl | rfl
    · exact fine_up 7 _ (by omega) (rowsD_fine (by omega) ha)
    · refine fine_mk (by rw [g1, natsD_lenL]; omega) fun d hd => ?_
      exact fine_up 6 _ (by omega) (rowsD_fine (by omega) (g2 d hd))
end R60

end -- S22
section -- S23
set_option Elab.async false
set_option linter.all false
set_option maxRecDepth 100000
set_option maxHeartbeats 4000000
/-! The law, VI: the evidence gone through (printed in part by genS23.py). -/
namespace R60
open PySem L2
open SeqAt (shaped)
abbrev tIB : Sn := (.cons (.set 15 (.dr 1 5 (.cons (.pu (.ix (.var 2) (.int 0))) (.cons (.pu (.var 15)) .nil)))) (.cons (.pu (.set 18 (.lst (.cons (.call 54 (.cons (.var 2) (.cons (.var 7) (.cons (.var 15) .nil)))) (.cons (.call 55 (.cons (.var 2) (.cons (.var 7) (.cons (.var 15) .nil)))) .nil))))) (.cons (.pu (.ite (.not (.call 47 (.cons (.lst (.cons (.call 41 (.cons (.var 2) (.cons (.var 7) (.cons (.var 15) .nil)))) (.cons (.call 45 (.cons (.var 2) (.cons (.var 7) (.cons (.var 15) .nil)))) .nil))) (.cons (.var 18) .nil)))) (.cons (.ret (.bl false)) .nil) .nil)) (.cons (.pu (.ite (.or (.and (.ix (.var 18) (.int 0)) (.not (.ix (.var 12) (.int 0)))) (.and (.ix (.var 18) (.int 1)) (.not (.ix (.var 12) (.int 1))))) (.cons (.ret (.bl false)) .nil) .nil)) .nil))))
abbrev tIT : Xp := (.itS (.add (.lc false [22] (.itS (.var 13)) (.isi .tup (.var 22)) (.var 22)) (.lst (.cons (.var 14) .nil))))
theorem ev_turn {P : Prob} (ok : P.Ok) (h4 : P.n ≤ 4) {w : V} {t : Int} {I : List Nat} (hI : Ix P I) {d0 d1 dsp : PyData} {d : PyData} (hd : EvOk d) {a16 a17 a18 a19 a20 a21 a22 a23 : Sl} {Q : Out → Prop} (h : ∀ s15 s18 : Sl, Q (.nx [Sl.no, .fix w, .dat P.D, .dat (.int P.cs.length), .dat (.list (rowsD (rks P.n))), .dat (tupN (List.range P.cs.length)), .dat (.int t), .dat (tupN I), .dat (.list (rowsD (I.map (lessN I)))), .dat (.list ((I :: I.map (lessN I)).map fun J => .bool (!holdB P J))), .dat (.list (rowsD ((I :: I.map (lessN I)).map (restN P)))), .dat (.list (((I :: I.map (lessN I)).map (restN P)).map fun J => .bool (!holdB P J))), .dat (.list [.bool (conflB P I), .bool (corrB P I)]), .dat (.list [d0, d1]), .dat dsp, s15, a16, a17, s18, a19, a20, a21, a22, a23])) : wS FL G0 WN tIB [Sl.no, .fix w, .dat P.D, .dat (.int P.cs.length), .dat (.list (rowsD (rks P.n))), .dat (tupN (List.range P.cs.length)), .dat (.int t), .dat (tupN I), .dat (.list (rowsD (I.map (lessN I)))), .dat (.list ((I :: I.map (lessN I)).map fun J => .bool (!holdB P J))), .dat (.list (rowsD ((I :: I.map (lessN I)).map (restN P)))), .dat (.list (((I :: I.map (lessN I)).map (restN P)).map fun J => .bool (!holdB P J))), .dat (.list [.bool (conflB P I), .bool (corrB P I)]), .dat (.list [d0, d1]), .dat dsp, .dat d, a16, a17, a18, a19, a20, a21, a22, a23] Q := by
  obtain ⟨c, rs, rfl, hl, hf⟩ := hd
  refine ⟨⟨w, rfl⟩, .int P.n, by simp! [show ixD P.D 0 = some (.int P.n) from atI_0], _, rfl, [], rfl, _, rfl, _, rfl, ?_⟩
  have hf2 := (fine_t hf).2
  refine ⟨by have := ok.n1; omega, by have := ok.n7; omega, fine_up 10 c (by omega) (hf2 c (by simp)), fine_up 10 _ (by omega) (hf2 (.tuple rs) (by simp)), fun rs2 e => ?_, fun v hv => ?_⟩
  · injection e with e
    rw [← e]; omega
  have r18 : run FL WN (.set 18 (.lst (.cons (.call 54 (.cons (.var 2) (.cons (.var 7) (.cons (.var 15) .nil)))) (.cons (.call 55 (.cons (.var 2) (.cons (.var 7) (.cons (.var 15) .nil)))) .nil)))) [Sl.no, .fix w, .dat P.D, .dat (.int P.cs.length), .dat (.list (rowsD (rks P.n))), .dat (tupN (List.range P.cs.length)), .dat (.int t), .dat (tupN I), .dat (.list (rowsD (I.map (lessN I)))), .dat (.list ((I :: I.map (lessN I)).map fun J => .bool (!holdB P J))), .dat (.list (rowsD ((I :: I.map (lessN I)).map (restN P)))), .dat (.list (((I :: I.map (lessN I)).map (restN P)).map fun J => .bool (!holdB P J))), .dat (.list [.bool (conflB P I), .bool (corrB P I)]), .dat (.list [d0, d1]), .dat dsp, .dat v, a16, a17, a18, a19, a20, a21, a22, a23] = some (.nx [Sl.no, .fix w, .dat P.D, .dat (.int P.cs.length), .dat (.list (rowsD (rks P.n))), .dat (tupN (List.range P.cs.length)), .dat (.int t), .dat (tupN I), .dat (.list (rowsD (I.map (lessN I)))), .dat (.list ((I :: I.map (lessN I)).map fun J => .bool (!holdB P J))), .dat (.list (rowsD ((I :: I.map (lessN I)).map (restN P)))), .dat (.list (((I :: I.map (lessN I)).map (restN P)).map fun J => .bool (!holdB P J))), .dat (.list [.bool (conflB P I), .bool (corrB P I)]), .dat (.list [d0, d1]), .dat dsp, .dat v, a16, a17, .dat (.list [.bool (accConf P I v), .bool (accCorr P I v)]), a19, a20, a21, a22, a23]) := by
    simp! [show FL 54 [P.D, tupN I, v] = _ from sp_lconf (k := 30) (by omega) ok hI hv, show FL 55 [P.D, tupN I, v] = _ from sp_lcorr (k := 30) (by omega) ok hI hv, List.length_cons, List.length_nil, show 0 + 1 + 1 ≤ 100000 from by decide]
  have e47 : FL 47 [.list [.bool (accConf P I v), .bool (accCorr P I v)], .list [.bool (accConf P I v), .bool (accCorr P I v)]] = some (.bool true) := by
    rw [FL_n (by decide)]
    exact sp_eql (k := 30) (by omega) _ _
  have r1 : run FL WN (.ite (.not (.call 47 (.cons (.lst (.cons (.call 41 (.cons (.var 2) (.cons (.var 7) (.cons (.var 15) .nil)))) (.cons (.call 45 (.cons (.var 2) (.cons (.var 7) (.cons (.var 15) .nil)))) .nil))) (.cons (.var 18) .nil)))) (.cons (.ret (.bl false)) .nil) .nil) [Sl.no, .fix w, .dat P.D, .dat (.int P.cs.length), .dat (.list (rowsD (rks P.n))), .dat (tupN (List.range P.cs.length)), .dat (.int t), .dat (tupN I), .dat (.list (rowsD (I.map (lessN I)))), .dat (.list ((I :: I.map (lessN I)).map fun J => .bool (!holdB P J))), .dat (.list (rowsD ((I :: I.map (lessN I)).map (restN P)))), .dat (.list (((I :: I.map (lessN I)).map (restN P)).map fun J => .bool (!holdB P J))), .dat (.list [.bool (conflB P I), .bool (corrB P I)]), .dat (.list [d0, d1]), .dat dsp, .dat v, a16, a17, .dat (.list [.bool (accConf P I v), .bool (accCorr P I v)]), a19, a20, a21, a22, a23] = some (.nx [Sl.no, .fix w, .dat P.D, .dat (.int P.cs.length), .dat (.list (rowsD (rks P.n))), .dat (tupN (List.range P.cs.length)), .dat (.int t), .dat (tupN I), .dat (.list (rowsD (I.map (lessN I)))), .dat (.list ((I :: I.map (lessN I)).map fun J => .bool (!holdB P J))), .dat (.list (rowsD ((I :: I.map (lessN I)).map (restN P)))), .dat (.list (((I :: I.map (lessN I)).map (restN P)).map fun J => .bool (!holdB P J))), .dat (.list [.bool (conflB P I), .bool (corrB P I)]), .dat (.list [d0, d1]), .dat dsp, .dat v, a16, a17, .dat (.list [.bool (accConf P I v), .bool (accCorr P I v)]), a19, a20, a21, a22, a23]) := by
    simp! [show FL 41 [P.D, tupN I, v] = _ from sp_accconf (k := 30) (by omega) ok hI hv (by omega), show FL 45 [P.D, tupN I, v] = _ from sp_acccorr (k := 30) (by omega) ok hI hv (by omega), List.length_cons, List.length_nil, show 0 + 1 + 1 ≤ 100000 from by decide, e47]
  have r2 : run FL WN (.ite (.or (.and (.ix (.var 18) (.int 0)) (.not (.ix (.var 12) (.int 0)))) (.and (.ix (.var 18) (.int 1)) (.not (.ix (.var 12) (.int 1))))) (.cons (.ret (.bl false)) .nil) .nil) [Sl.no, .fix w, .dat P.D, .dat (.int P.cs.length), .dat (.list (rowsD (rks P.n))), .dat (tupN (List.range P.cs.length)), .dat (.int t), .dat (tupN I), .dat (.list (rowsD (I.map (lessN I)))), .dat (.list ((I :: I.map (lessN I)).map fun J => .bool (!holdB P J))), .dat (.list (rowsD ((I :: I.map (lessN I)).map (restN P)))), .dat (.list (((I :: I.map (lessN I)).map (restN P)).map fun J => .bool (!holdB P J))), .dat (.list [.bool (conflB P I), .bool (corrB P I)]), .dat (.list [d0, d1]), .dat dsp, .dat v, a16, a17, .dat (.list [.bool (accConf P I v), .bool (accCorr P I v)]), a19, a20, a21, a22, a23] = some (.nx [Sl.no, .fix w, .dat P.D, .dat (.int P.cs.length), .dat (.list (rowsD (rks P.n))), .dat (tupN (List.range P.cs.length)), .dat (.int t), .dat (tupN I), .dat (.list (rowsD (I.map (lessN I)))), .dat (.list ((I :: I.map (lessN I)).map fun J => .bool (!holdB P J))), .dat (.list (rowsD ((I :: I.map (lessN I)).map (restN P)))), .dat (.list (((I :: I.map (lessN I)).map (restN P)).map fun J => .bool (!holdB P J))), .dat (.list [.bool (conflB P I), .bool (corrB P I)]), .dat (.list [d0, d1]), .dat dsp, .dat v, a16, a17, .dat (.list [.bool (accConf P I v), .bool (accCorr P I v)]), a19, a20, a21, a22, a23]) := by
    cases h1 : accConf P I v with
    | true =>
      have g1 := accConf_due h1
      cases h2 : accCorr P I v with
      | true =>
        have g2 := accCorr_due h2
        simp! [g1, g2]
      | false => simp! [g1]
    | false =>
      cases h2 : accCorr P I v with
      | true =>
        have g2 := accCorr_due h2
        simp! [g2]
      | false => simp! []
  exact ⟨_, r18, _, r1, _, r2, h _ _⟩
end R60

end -- S23
section -- S24
set_option Elab.async false
set_option linter.all false
set_option maxRecDepth 100000
set_option maxHeartbeats 4000000
/-! The law, VII: a turn (printed in part by genS24.py). -/
namespace R60
open PySem L2
open SeqAt (shaped)
theorem ev_loop {P : Prob} (ok : P.Ok) (h4 : P.n ≤ 4) {w : V} {t : Int} {I : List Nat} (hI : Ix P I) {d0 d1 dsp : PyData} {a16 a17 a19 a20 a21 a22 a23 : Sl} {Q : Out → Prop} (h : ∀ s15 s18 : Sl, Q (.nx [Sl.no, .fix w, .dat P.D, .dat (.int P.cs.length), .dat (.list (rowsD (rks P.n))), .dat (tupN (List.range P.cs.length)), .dat (.int t), .dat (tupN I), .dat (.list (rowsD (I.map (lessN I)))), .dat (.list ((I :: I.map (lessN I)).map fun J => .bool (!holdB P J))), .dat (.list (rowsD ((I :: I.map (lessN I)).map (restN P)))), .dat (.list (((I :: I.map (lessN I)).map (restN P)).map fun J => .bool (!holdB P J))), .dat (.list [.bool (conflB P I), .bool (corrB P I)]), .dat (.list [d0, d1]), .dat dsp, s15, a16, a17, s18, a19, a20, a21, a22, a23])) : ∀ (l : List PyData) (a15 a18 : Sl), (∀ d ∈ l, EvOk d) → wFor (fun d ρ => bindT [15] ρ d) (wS FL G0 WN tIB) l [Sl.no, .fix w, .dat P.D, .dat (.int P.cs.length), .dat (.list (rowsD (rks P.n))), .dat (tupN (List.range P.cs.length)), .dat (.int t), .dat (tupN I), .dat (.list (rowsD (I.map (lessN I)))), .dat (.list ((I :: I.map (lessN I)).map fun J => .bool (!holdB P J))), .dat (.list (rowsD ((I :: I.map (lessN I)).map (restN P)))), .dat (.list (((I :: I.map (lessN I)).map (restN P)).map fun J => .bool (!holdB P J))), .dat (.list [.bool (conflB P I), .bool (corrB P I)]), .dat (.list [d0, d1]), .dat dsp, a15, a16, a17, a18, a19, a20, a21, a22, a23] Q
  | [], a15, a18, _ => h a15 a18
  | d :: l, a15, a18, hl => ⟨_, rfl, ev_turn ok h4 hI (hl d List.mem_cons_self) fun s15 s18 => ev_loop ok h4 hI h l s15 s18 fun e he => hl e (List.mem_cons_of_mem _ he)⟩
theorem ev_items {P : Prob} {w : V} {t : Int} {I : List Nat} {d0 d1 dsp : PyData} (T : Told P I d0 d1) (hs : EvOk dsp) {a15 a16 a17 a18 a19 a20 a21 a22 a23 : Sl} : ∃ l, evA FL tIT [Sl.no, .fix w, .dat P.D, .dat (.int P.cs.length), .dat (.list (rowsD (rks P.n))), .dat (tupN (List.range P.cs.length)), .dat (.int t), .dat (tupN I), .dat (.list (rowsD (I.map (lessN I)))), .dat (.list ((I :: I.map (lessN I)).map fun J => .bool (!holdB P J))), .dat (.list (rowsD ((I :: I.map (lessN I)).map (restN P)))), .dat (.list (((I :: I.map (lessN I)).map (restN P)).map fun J => .bool (!holdB P J))), .dat (.list [.bool (conflB P I), .bool (corrB P I)]), .dat (.list [d0, d1]), .dat dsp, a15, a16, a17, a18, a19, a20, a21, a22, a23] = some l ∧ ∀ d ∈ l, EvOk d := by
  have lc := lc_map (tg := [22]) (t := evT FL (.isi .tup (.var 22))) (e := ev FL (.var 22)) (ρ := [Sl.no, .fix w, .dat P.D, .dat (.int P.cs.length), .dat (.list (rowsD (rks P.n))), .dat (tupN (List.range P.cs.length)), .dat (.int t), .dat (tupN I), .dat (.list (rowsD (I.map (lessN I)))), .dat (.list ((I :: I.map (lessN I)).map fun J => .bool (!holdB P J))), .dat (.list (rowsD ((I :: I.map (lessN I)).map (restN P)))), .dat (.list (((I :: I.map (lessN I)).map (restN P)).map fun J => .bool (!holdB P J))), .dat (.list [.bool (conflB P I), .bool (corrB P I)]), .dat (.list [d0, d1]), .dat dsp, a15, a16, a17, a18, a19, a20, a21, a22, a23]) [d0, d1] id (isiD .tup) id (show 2 ≤ 50000 by decide) (fun d hd => by
    refine ⟨_, bind1, ?_, fun _ => ?_⟩
    · show evT FL _ [Sl.no, .fix w, .dat P.D, .dat (.int P.cs.length), .dat (.list (rowsD (rks P.n))), .dat (tupN (List.range P.cs.length)), .dat (.int t), .dat (tupN I), .dat (.list (rowsD (I.map (lessN I)))), .dat (.list ((I :: I.map (lessN I)).map fun J => .bool (!holdB P J))), .dat (.list (rowsD ((I :: I.map (lessN I)).map (restN P)))), .dat (.list (((I :: I.map (lessN I)).map (restN P)).map fun J => .bool (!holdB P J))), .dat (.list [.bool (conflB P I), .bool (corrB P I)]), .dat (.list [d0, d1]), .dat dsp, a15, a16, a17, a18, a19, a20, a21, .dat d, a23] = _
      simp! []
    · rfl)
  rw [List.map_id, List.map_id] at lc
  have hle : ([d0, d1].filter (isiD .tup)).length ≤ 2 := List.length_filter_le _ _
  refine ⟨[d0, d1].filter (isiD .tup) ++ [dsp], ?_, fun d hd => ?_⟩
  · unfold tIT
    simp! []
    rw [lc]
    simp! [if_pos lst1, addD_ll (xs := [d0, d1].filter (isiD .tup)) (ys := [dsp]) (by simp only [List.length_singleton]; omega)]
  · rcases List.mem_append.mp hd with hd | hd
    · obtain ⟨h1, h2⟩ := List.mem_filter.mp hd
      simp only [List.mem_cons, List.not_mem_nil, or_false] at h1
      rcases h1 with rfl | rfl
      · rcases T.c0 with ⟨_, c, rs, e, l, f, _⟩ | ⟨_, e⟩
        · exact ⟨c, rs, e, l, f⟩
        · rw [e] at h2; cases h2
      · rcases T.c1 with ⟨_, c, rs, e, l, f, _⟩ | ⟨_, e⟩
        · exact ⟨c, rs, e, l, f⟩
        · rw [e] at h2; cases h2
    · rw [List.mem_singleton] at hd
      rw [hd]; exact hs
theorem w_cons {F : Fs} {G : Gs} {N : Nat} {a b : Sn} {ρ : List Sl} {Q : Out → Prop} (h : wS F G N a ρ (fun o => match o with
    | .nx ρ2 => wS F G N b ρ2 Q
    | .rt d => Q (.rt d))) : wS F G N (.cons a b) ρ Q := h
theorem w_pu {F : Fs} {G : Gs} {N : Nat} {s : St} {ρ : List Sl} {o : Out} {Q : Out → Prop} (h : run F N s ρ = some o) (q : Q o) : wS F G N (.pu s) ρ Q := ⟨o, h, q⟩
theorem w_for {F : Fs} {G : Gs} {N : Nat} {pr : Bool} {tg : List Nat} {x : Xp} {b : Sn} {ρ : List Sl} {l : List PyData} {Q : Out → Prop} (h : evA F x ρ = some l) (q : wFor (fun d ρ => bindT tg ρ d) (wS F G N b) l ρ Q) : wS F G N (.for_ pr tg x b) ρ Q := ⟨l, h, q⟩
abbrev tBody : Sn := (.cons (.set 7 (.tlc 17 (.its (.itS (.var 5))) (.eq (.dr 1 0 (.cons (.pu (.int 2)) .nil)) (.pu (.int 0))) (.pu (.var 17)))) (.cons (.pu (.ite (.gt (.var 6) (.int 0)) (.cons (.set 16 (.lc false [21] (.itS (.var 4)) (.bl true) (.lc false [23] (.itR (.var 3)) (.not (.call 48 (.cons (.ix (.ix (.var 2) (.int 1)) (.var 23)) (.cons (.var 21) .nil)))) (.var 23)))) (.cons (.set 7 (.ite (.eq (.var 6) (.int 1)) (.tupOf (.ix (.mn (.lc false [20] (.itS (.var 16)) (.bl true) (.tup (.cons (.len (.var 20)) (.cons (.var 20) .nil))))) (.int 1))) (.var 5))) .nil)) .nil)) (.cons (.pu (.ite (.eq (.var 6) (.int 3)) (.cons (.for_ false [17] (.itR (.var 3)) (.cons (.set 19 (.call 52 (.cons (.var 7) (.cons (.var 17) .nil)))) (.cons (.set 7 (.ite (.any (.lc false [21] (.itS (.var 4)) (.bl true) (.all (.lc false [22] (.itS (.call 51 (.cons (.var 2) (.cons (.var 19) .nil)))) (.bl true) (.call 48 (.cons (.var 22) (.cons (.var 21) .nil))))))) (.var 7) (.var 19))) .nil))) .nil) .nil)) (.cons (.pu (.set 8 (.lc false [17] (.itS (.var 7)) (.bl true) (.call 52 (.cons (.var 7) (.cons (.var 17) .nil)))))) (.cons (.pu (.set 9 (.lc false [20] (.itS (.add (.lst (.cons (.var 7) .nil)) (.var 8))) (.bl true) (.not (.any (.lc false [21] (.itS (.var 4)) (.bl true) (.all (.lc false [22] (.itS (.call 51 (.cons (.var 2) (.cons (.var 20) .nil)))) (.bl true) (.call 48 (.cons (.var 22) (.cons (.var 21) .nil))))))))))) (.cons (.pu (.set 10 (.lc false [20] (.itS (.add (.lst (.cons (.var 7) .nil)) (.var 8))) (.bl true) (.call 53 (.cons (.var 2) (.cons (.var 20) .nil)))))) (.cons (.pu (.set 11 (.lc false [20] (.itS (.var 10)) (.bl true) (.not (.any (.lc false [21] (.itS (.var 4)) (.bl true) (.all (.lc false [22] (.itS (.call 51 (.cons (.var 2) (.cons (.var 20) .nil)))) (.bl true) (.call 48 (.cons (.var 22) (.cons (.var 21) .nil))))))))))) (.cons (.pu (.set 12 (.lst (.cons (.and (.ix (.var 9) (.int 0)) (.not (.any (.sl (.var 9) (.part (.int 1)) .nil)))) (.cons (.and (.not (.ix (.var 11) (.int 0))) (.all (.sl (.var 11) (.part (.int 1)) .nil))) .nil))))) (.cons (.pu (.set 13 (.lst (.cons (.call 56 (.cons (.int 0) (.cons (.var 2) (.cons (.var 7) .nil)))) (.cons (.call 56 (.cons (.int 1) (.cons (.var 2) (.cons (.var 7) .nil)))) .nil))))) (.cons (.pu (.ite (.or (.ne (.lc false [22] (.itS (.var 13)) (.bl true) (.isi .tup (.var 22))) (.var 12)) (.or (.and (.not (.ix (.var 12) (.int 0))) (.ne (.ix (.var 13) (.int 0)) (.lst (.cons (.str "conflict") (.cons (.bl true) .nil))))) (.and (.not (.ix (.var 12) (.int 1))) (.ne (.ix (.var 13) (.int 1)) (.lst (.cons (.str "correction") (.cons (.bl true) .nil))))))) (.cons (.ret (.bl false)) .nil) .nil)) (.cons (.pu (.ite (.or (.and (.ix (.var 12) (.int 0)) (.not (.call 54 (.cons (.var 2) (.cons (.var 7) (.cons (.ix (.var 13) (.int 0)) .nil)))))) (.and (.ix (.var 12) (.int 1)) (.not (.call 55 (.cons (.var 2) (.cons (.var 7) (.cons (.ix (.var 13) (.int 1)) .nil))))))) (.cons (.ret (.bl false)) .nil) .nil)) (.cons (.set 14 (.tup (.cons (.dr 1 1 (.cons (.pu (.var 4)) .nil)) (.cons (.tlc 17 (.its (.itS (.var 7))) (.pu (.bl true)) (.dr 1 1 (.cons (.pu (.var 4)) .nil))) .nil)))) (.cons (.for_ false [15] (.itS (.add (.lc false [22] (.itS (.var 13)) (.isi .tup (.var 22)) (.var 22)) (.lst (.cons (.var 14) .nil)))) (.cons (.set 15 (.dr 1 5 (.cons (.pu (.ix (.var 2) (.int 0))) (.cons (.pu (.var 15)) .nil)))) (.cons (.pu (.set 18 (.lst (.cons (.call 54 (.cons (.var 2) (.cons (.var 7) (.cons (.var 15) .nil)))) (.cons (.call 55 (.cons (.var 2) (.cons (.var 7) (.cons (.var 15) .nil)))) .nil))))) (.cons (.pu (.ite (.not (.call 47 (.cons (.lst (.cons (.call 41 (.cons (.var 2) (.cons (.var 7) (.cons (.var 15) .nil)))) (.cons (.call 45 (.cons (.var 2) (.cons (.var 7) (.cons (.var 15) .nil)))) .nil))) (.cons (.var 18) .nil)))) (.cons (.ret (.bl false)) .nil) .nil)) (.cons (.pu (.ite (.or (.and (.ix (.var 18) (.int 0)) (.not (.ix (.var 12) (.int 0)))) (.and (.ix (.var 18) (.int 1)) (.not (.ix (.var 12) (.int 1))))) (.cons (.ret (.bl false)) .nil) .nil)) .nil))))) .nil)))))))))))))
theorem turn_ok {P : Prob} (ok : P.Ok) (h4 : P.n ≤ 4) {w : V} {t : Nat} {a7 a8 a9 a10 a11 a12 a13 a14 a15 a16 a17 a18 a19 a20 a21 a22 a23 : Sl} {Q : Out → Prop} (h : ∀ b7 b8 b9 b10 b11 b12 b13 b14 b15 b16 b17 b18 b19 b20 b21 b22 b23 : Sl, Q (.nx [Sl.no, .fix w, .dat P.D, .dat (.int P.cs.length), .dat (.list (rowsD (rks P.n))), .dat (tupN (List.range P.cs.length)), .dat (.int t), b7, b8, b9, b10, b11, b12, b13, b14, b15, b16, b17, b18, b19, b20, b21, b22, b23])) : wS FL G0 WN tBody [Sl.no, .fix w, .dat P.D, .dat (.int P.cs.length), .dat (.list (rowsD (rks P.n))), .dat (tupN (List.range P.cs.length)), .dat (.int t), a7, a8, a9, a10, a11, a12, a13, a14, a15, a16, a17, a18, a19, a20, a21, a22, a23] Q := by
  refine w_cons (turn_a ok (w := w) (t := t) fun I0 hI0 => ?_)
  obtain ⟨I1, x16, hI1, r1⟩ := turn_b ok h4 (w := w) (t := t) hI0 (a8 := a8) (a9 := a9) (a10 := a10) (a11 := a11) (a12 := a12) (a13 := a13) (a14 := a14) (a15 := a15) (a16 := a16) (a17 := a17) (a18 := a18) (a19 := a19) (a20 := a20) (a21 := a21) (a22 := a22) (a23 := a23)
  refine w_cons (w_pu r1 ?_)
  obtain ⟨I, x17, x19, hI, r2⟩ := turn_c ok h4 (w := w) (t := t) hI1 (a8 := a8) (a9 := a9) (a10 := a10) (a11 := a11) (a12 := a12) (a13 := a13) (a14 := a14) (a15 := a15) (a16 := x16) (a17 := a17) (a18 := a18) (a19 := a19) (a20 := a20) (a21 := a21) (a22 := a22) (a23 := a23)
  refine w_cons (w_pu r2 ?_)
  refine w_cons (w_pu (turn_8 ok h4 hI) ?_)
  refine w_cons (w_pu (turn_9 ok h4 hI) ?_)
  refine w_cons (w_pu (turn_10 ok h4 hI) ?_)
  refine w_cons (w_pu (turn_11 ok h4 hI) ?_)
  refine w_cons (w_pu (turn_12 ok h4 hI) ?_)
  obtain ⟨d0, d1, T⟩ := told_all ok h4 hI
  refine w_cons (w_pu (turn_13 ok h4 hI T) ?_)
  refine w_cons (w_pu (turn_f ok h4 hI T) ?_)
  refine w_cons (w_pu (turn_g ok h4 hI T) ?_)
  refine w_cons (turn_h ok h4 hI fun d hd => ?_)
  obtain ⟨l, g1, g2⟩ := ev_items (w := w) (t := t) (a15 := a15) (a16 := x16) (a17 := x17) (a18 := a18) (a19 := x19) (a20 := a20) (a21 := a21) (a22 := a22) (a23 := a23) T hd
  refine w_cons (w_for g1 (ev_loop ok h4 hI (fun s15 s18 => ?_) l _ _ g2))
  exact h _ _ _ _ _ _ _ _ _ _ _ _ _ _ _ _ _
end R60

end -- S24
section -- S25
set_option Elab.async false
set_option linter.all false
set_option maxRecDepth 100000
set_option maxHeartbeats 4000000
/-! The law. -/
namespace R60
open PySem L2
open SeqAt (shaped)
def TurnSt (P : Prob) (w : V) (ρ : List Sl) : Prop := ∃ a6 a7 a8 a9 a10 a11 a12 a13 a14 a15 a16 a17 a18 a19 a20 a21 a22 a23 : Sl, ρ = [Sl.no, .fix w, .dat P.D, .dat (.int P.cs.length), .dat (.list (rowsD (rks P.n))), .dat (tupN (List.range P.cs.length)), a6, a7, a8, a9, a10, a11, a12, a13, a14, a15, a16, a17, a18, a19, a20, a21, a22, a23]
theorem turns {P : Prob} (ok : P.Ok) (h4 : P.n ≤ 4) {w : V} {Q : Out → Prop} (h : ∀ ρ, TurnSt P w ρ → Q (.nx ρ)) : ∀ (l : List Nat) (ρ : List Sl), TurnSt P w ρ → wFor (fun d ρ => bindT [6] ρ d) (wS FL G0 WN tBody) (natsD l) ρ Q
  | [], ρ, r => h ρ r
  | t :: l, ρ, r => by
    obtain ⟨a6, a7, a8, a9, a10, a11, a12, a13, a14, a15, a16, a17, a18, a19, a20, a21, a22, a23, rfl⟩ := r
    refine ⟨_, bind1, turn_ok ok h4 (w := w) (t := t) fun b7 b8 b9 b10 b11 b12 b13 b14 b15 b16 b17 b18 b19 b20 b21 b22 b23 => ?_⟩
    exact turns ok h4 h l _ ⟨_, _, _, _, _, _, _, _, _, _, _, _, _, _, _, _, _, _, rfl⟩
theorem wp_law (w : V) : wS FL G0 WN q_law (.no :: .fix w :: List.replicate 22 .no) (fun o => o = .rt (.bool true)) := by
  unfold q_law
  refine w_cons ⟨⟨w, rfl⟩, .int 4, rfl, .int 6, rfl, [], rfl, _, rfl, _, rfl, by omega, by omega, by omega, by omega, fun P ok hn hm => ?_⟩
  have h4 : P.n ≤ 4 := by omega
  have m := ok.m12
  have r3 : run FL WN (.set 3 (.len (.ix (.var 2) (.int 1)))) (Sl.no :: .fix w :: .dat P.D :: List.replicate 21 .no) = some (.nx (Sl.no :: .fix w :: .dat P.D :: .dat (.int P.cs.length) :: List.replicate 20 .no)) := by
    show run FL WN _ (Sl.no :: .fix w :: .dat (.tuple [.int P.n, .tuple (P.cs.map Con.D)]) :: List.replicate 21 .no) = _
    simp! [List.length_map]
    rfl
  refine w_cons (w_pu r3 ?_)
  have r4 : run FL WN (.set 4 (.call 49 (.cons (.ix (.var 2) (.int 0)) .nil))) (Sl.no :: .fix w :: .dat P.D :: .dat (.int P.cs.length) :: List.replicate 20 .no) = some (.nx (Sl.no :: .fix w :: .dat P.D :: .dat (.int P.cs.length) :: .dat (.list (rowsD (rks P.n))) :: List.replicate 19 .no)) := by
    simp! [show ixD P.D 0 = some (.int P.n) from atI_0, show FL 49 [.int P.n] = _ from sp_rks (k := 30) (by omega) h4]
    rfl
  refine w_cons (w_pu r4 ?_)
  have r5 : run FL WN (.set 5 (.tupRg (.var 3))) (Sl.no :: .fix w :: .dat P.D :: .dat (.int P.cs.length) :: .dat (.list (rowsD (rks P.n))) :: List.replicate 19 .no) = some (.nx (Sl.no :: .fix w :: .dat P.D :: .dat (.int P.cs.length) :: .dat (.list (rowsD (rks P.n))) :: .dat (tupN (List.range P.cs.length)) :: List.replicate 18 .no)) := by
    simp! [rg1_nat (n := P.cs.length) (by omega)]
    rfl
  refine w_cons (w_pu r5 ?_)
  refine w_cons (w_for (l := natsD (List.range 4)) rfl ?_)
  refine turns ok h4 (fun ρ r => ?_) _ _ ⟨_, _, _, _, _, _, _, _, _, _, _, _, _, _, _, _, _, _, rfl⟩
  exact w_cons (w_pu (o := .rt (.bool true)) rfl rfl)
end R60

end -- S25
section -- L9
set_option Elab.async false
set_option linter.all false
set_option maxRecDepth 100000
set_option maxHeartbeats 4000000
namespace R60
open PySem PySem.Spec PyProof.Rows L2 RZ
theorem w_pick (ds : List PyData) (P' : PyData → Prop) (h : G0 1 ds P') : ds.length + 1 = 2 ∧ ∀ w : V, wS FL G0 WN q_law_pick (.fix w :: (ds.map Sl.dat ++ List.replicate (N_law_pick.length - (ds.length + 1)) .no)) (fun o => P' (outD o)) := wp_pick ds P' h
theorem w_constraint (ds : List PyData) (P' : PyData → Prop) (h : G0 2 ds P') : ds.length + 1 = 2 ∧ ∀ w : V, wS FL G0 WN q_law_constraint (.fix w :: (ds.map Sl.dat ++ List.replicate (N_law_constraint.length - (ds.length + 1)) .no)) (fun o => P' (outD o)) := wp_constraint ds P' h
theorem w_problem (ds : List PyData) (P' : PyData → Prop) (h : G0 3 ds P') : ds.length + 1 = 3 ∧ ∀ w : V, wS FL G0 WN q_law_problem (.fix w :: (ds.map Sl.dat ++ List.replicate (N_law_problem.length - (ds.length + 1)) .no)) (fun o => P' (outD o)) := wp_problem ds P' h
theorem w_bent (ds : List PyData) (P' : PyData → Prop) (h : G0 5 ds P') : ds.length + 1 = 3 ∧ ∀ w : V, wS FL G0 WN q_law_bent (.fix w :: (ds.map Sl.dat ++ List.replicate (N_law_bent.length - (ds.length + 1)) .no)) (fun o => P' (outD o)) := wp_bent ds P' h
theorem w_law (w : V) : wS FL G0 WN q_law (.no :: .fix w :: List.replicate 22 .no) (fun o => o = .rt (.bool true)) := wp_law w
end R60

end -- L9
section -- E3
set_option Elab.async false
set_option linter.all false
set_option maxRecDepth 100000
set_option maxHeartbeats 0
/-! All together. -/
namespace R60
open PySem PySem.Spec PyProof.Rows L2
theorem nm2_at {f : Nat} {x : Str} (h : NM2[f]? = some x) : ((TB.map (·.name))[f]? = some x ∧ f ≠ 56) ∨ (f = 56 ∧ x = "_law_told") := by
  unfold NM2 at h
  have hl : (TB.map (·.name)).length = 56 := rfl
  by_cases c : f < 56
  · rw [List.getElem?_append_left (by rw [hl]; exact c)] at h
    exact .inl ⟨h, by omega⟩
  · rw [List.getElem?_append_right (by rw [hl]; omega), hl] at h
    by_cases d : f = 56
    · subst d
      cases h
      exact .inr ⟨rfl, rfl⟩
    · rw [List.getElem?_eq_none (by simp; omega)] at h
      cases h
theorem dn_step {n f : Nat} {x : Str} (h : DNn (n + 1) f = some x) : DNn n f = some x ∨ (f = n ∧ dnames[n]? = some x) := by
  unfold DNn at h ⊢
  by_cases c : f < n
  · rw [if_pos c]
    rw [if_pos (by omega)] at h
    exact .inl h
  · by_cases d : f = n
    · subst d
      rw [if_pos (by omega)] at h
      exact .inr ⟨rfl, h⟩
    · rw [if_neg (by omega)] at h
      cases h
section
variable {P : Program} {w : World} {K : PySem.W.Frag} {h : Heap} {mg : Str → Option Value} {base : Heap}
theorem law_fn (X : K.In h) (G : h.Ns mainGlobals mg) (c : He.SaysD fa fn K) (z : npB K = true) {x qual : Str} {a : Addr} {fdat : FuncData} (Fd : FunD K x qual (defArgs s_law) (defBody s_law) (defScope s_law) [] [] a fdat) :
    FnOk P w K mg base L2.CX0 41 a fdat ["_law_script"] (spLaw K) := by
  have m := mod_has X G c
  have np := np_has X G c z
  -- the pure defs, one level for all
  have pure_ : ∀ f x, (TB.map (·.name))[f]? = some x → C8.Cal P w K mg base 30 x (spF FA f) [] := all_ok m 30
  have l30 : Lv P w K mg base FA NM G0 (DNn 0) (28 + 2) := ⟨m.blt, m.con, pure_, fun f x h => by unfold DNn at h; rw [if_neg (by omega)] at h; cases h⟩
  have v0 := ev_ok l30 np (dh_conflict_evidence X G c) (of_some (kev0 FA))
  have v1 := ev_ok l30 np (dh_correction_evidence X G c) (of_some (kev1 FA))
  have l31 : Lv P w K mg base FA NM G0 (DNn 0) (28 + 3) := l30.mono (by omega) (fun f x h => by unfold DNn at h; rw [if_neg (by omega)] at h; cases h)
  have told : C8.Cal P w K mg base (28 + 4) "_law_told" (spF FL 56) [] := told_cal (Ft := FL) (f := 56) l31 np (dh_law_told X G c) v0 v1 rfl (by kernel_rfl) (fun ds => rfl)
  have lv : ∀ k, 32 ≤ k → Lv P w K mg base FL NM2 G0 (DNn 0) k := fun k hk => ⟨m.blt, m.con, fun f x h => by
    rcases nm2_at h with ⟨h1, h2⟩ | ⟨rfl, rfl⟩
    · have := cal_mono (pure_ f x h1) (show 30 ≤ k by omega)
      have e : spF FL f = spF FA f := by
        have : FL f = FA f := by funext ds; exact if_neg h2
        unfold spF
        rw [this]
      rw [e]
      exact this
    · exact cal_mono told (by omega), fun f x h => by unfold DNn at h; rw [if_neg (by omega)] at h; cases h⟩
  have next : C8.Cal P w K mg base (32 + 1) "_law_next" (spD G0 0) [] := next_cal (lv 32 (by omega)) (dh_law_next X G c) _ _ _ b_next (of_some (kq_0 FL)) (of_some (kq_1 FL)) (of_some (kq_2 FL)) v_next
  have l1 : ∀ k, 33 ≤ k → Lv P w K mg base FL NM2 G0 (DNn 1) k := fun k hk => (lv k (by omega)).mono (Nat.le_refl _) fun f x h => by
    rcases dn_step h with h | ⟨rfl, h⟩
    · unfold DNn at h; rw [if_neg (by omega)] at h; cases h
    · cases h
      exact cal_mono next (by omega)
  have pick : C8.Cal P w K mg base (33 + 1) "_law_pick" (spD G0 1) [] := draw_cal (l1 33 (by omega)) (dh_law_pick X G c) (of_some (kd_law_pick FL G0)) fun ds P' h => w_pick ds P' h
  have cons : C8.Cal P w K mg base (33 + 1) "_law_constraint" (spD G0 2) [] := draw_cal (l1 33 (by omega)) (dh_law_constraint X G c) (of_some (kd_law_constraint FL G0)) fun ds P' h => w_constraint ds P' h
  have shuf : C8.Cal P w K mg base (33 + 1) "_law_shuffled" (spD G0 4) [] := shuf_cal (l1 33 (by omega)) (dh_law_shuffled X G c) rfl rfl rfl (by kernel_rfl) (by kernel_rfl) (by kernel_rfl)
  have l3 : ∀ k, 34 ≤ k → Lv P w K mg base FL NM2 G0 (DNn 3) k := fun k hk => (l1 k (by omega)).mono (Nat.le_refl _) fun f x h => by
    rcases dn_step h with h | ⟨rfl, h⟩
    · rcases dn_step h with h | ⟨rfl, h⟩
      · exact (l1 k (by omega)).draw f x h
      · cases h
        exact cal_mono pick (by omega)
    · cases h
      exact cal_mono cons (by omega)
  have prob : C8.Cal P w K mg base (34 + 1) "_law_problem" (spD G0 3) [] := draw_cal (l3 34 (by omega)) (dh_law_problem X G c) (of_some (kd_law_problem FL G0)) fun ds P' h => w_problem ds P' h
  have l5 : ∀ k, 35 ≤ k → Lv P w K mg base FL NM2 G0 (DNn 5) k := fun k hk => (l3 k (by omega)).mono (Nat.le_refl _) fun f x h => by
    rcases dn_step h with h | ⟨rfl, h⟩
    · rcases dn_step h with h | ⟨rfl, h⟩
      · exact (l3 k (by omega)).draw f x h
      · cases h
        exact cal_mono prob (by omega)
    · cases h
      exact cal_mono shuf (by omega)
  have bent : C8.Cal P w K mg base (35 + 1) "_law_bent" (spD G0 5) [] := draw_cal (l5 35 (by omega)) (dh_law_bent X G c) (of_some (kd_law_bent FL G0)) fun ds P' h => w_bent ds P' h
  have l6 : Lv P w K mg base FL NM2 G0 (DNn 6) 40 := (l5 40 (by omega)).mono (Nat.le_refl _) fun f x h => by
    rcases dn_step h with h | ⟨rfl, h⟩
    · exact (l5 40 (by omega)).draw f x h
    · cases h
      exact cal_mono bent (by omega)
  have stm : C8.Cal P w K mg base (39 + 1) "_law_stream" (spStm K) [] := stream_cal (lv 39 (by omega)) (dh_law_stream X G c) rfl (by kernel_rfl)
  exact law_ok (b0 := .Pass ⟨0, 0, 0, 0⟩) l6 stm Fd sc_law rfl (by kernel_rfl) (of_some (kd_law FL G0)) w_law
end
end R60
open PySem PySem.W PySem.Calls PyProof.Rows
theorem PySem.Challenge.cw_rankswithin_k60_whole_evidence_of_confli_holds : PySem.Challenge.rw_rankswithin_k60_whole_evidence_of_confli.Holds := by
  w_on; o_law
  refine HandSHeadRun.head_any (r := OpenLaw.row PySem.Challenge.rw_rankswithin_k60_whole_evidence_of_confli) (q := view (OpenLaw.row PySem.Challenge.rw_rankswithin_k60_whole_evidence_of_confli).prog [84]) (H := R60.hk) (ob := R60.ob) (M := 6000) (loose := R60.lo) (d := HandSHeadRun.topDef (OpenLaw.row PySem.Challenge.rw_rankswithin_k60_whole_evidence_of_confli).prog 84) (kwd := []) R60.ob_eq
    (by kernel_rfl) (fun s => by kernel_rfl) R60.runHead (by kernel_rfl) (by kernel_rfl) (by kernel_rfl) (by rfl) (by first | assumption | decide +kernel) (by decide +kernel) ⟨rfl, rfl, rfl, rfl, rfl, by decide +kernel⟩ ?hw ?hc
  case hw => w_witness2
  case hc =>
    refine L2.walk_ofE (l := PySem.Challenge.rw_rankswithin_k60_whole_evidence_of_confli) (n := 63) (k := 41) (x := "_law_script") (CX := L2.CX0) rfl (by decide) (by kernel_rfl) ⟨rfl, by decide, by decide⟩ ?F (fun _ _ _ _ z => z)
    intro w mg fa h Y G hmg0
    obtain ⟨K, KX, c, z⟩ := Y
    have hmg : mg ("law" : PySem.Str) = some (.ref fa) := by
      have e : (HandSHeadRun.topDef (OpenLaw.row PySem.Challenge.rw_rankswithin_k60_whole_evidence_of_confli).prog 84).name = ("law" : PySem.Str) := by kernel_rfl
      rw [← e]
      exact hmg0
    obtain ⟨fd, FD⟩ := c.def_ 68 (d := R60.d_law) rfl
    have e := hmg.symm.trans (He.glo_ok KX G (c.fact 66 (f := .glo "law") rfl))
    cases e
    have b := L2.FunD.bindsA (ps := ["_law_script"]) FD fun _ _ _ _ _ _ us hl => match us, hl with | [_], _ => rfl
    exact ⟨K, fd, R60.spLaw K, KX, fun s v => b s [v] rfl, fun H a ns hl _ hS => ⟨a, ns, rfl, hS, fun _ => rfl⟩, fun base _ _ => R60.law_fn KX G c z FD⟩

end -- E3
