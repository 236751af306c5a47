import PyProof.Rows.All
import Wide.All
import OpenK.AllK
import Wide.FinOn
import PyProof.EqAt
import PyProof.EqKinds
import PyProof.TupleCall
import Open.SpecLaws
import KE.OsGo
import HandS.ForSpec
import PyProof.Rows.SortShell
import KE.KSortTup
import KE.LtData
import HandS.Comp
import HandS.Dict
import HandS.Iter
import HandS.Sort
import HandS.SortOrd
import HandS.SortRule
import HandS.ExcSuper
import HandS.Zip
import HandS.ExcOwn
import HandS.ForMost
import HandS.Walk
import HandS.NoneIn
import HandS.Flow
import HandS.Strs
import HandS.Style
import PySem.Challenge.RW_textpassages_s01_answers
set_option Elab.async false
set_option linter.all false
set_option maxRecDepth 100000
set_option maxHeartbeats 4000000
/-! the fewest sentences: the specification's cover is the first of the shortest; the levels of ascending lists, in their order -/
namespace TpM
/-- ascending from lo on, below hi -/
def asc : Nat → Nat → List Nat → Prop
  | _, _, [] => True
  | lo, hi, x :: l => lo ≤ x ∧ x < hi ∧ asc (x + 1) hi l
theorem asc_mono : ∀ {l : List Nat} {lo lo' hi : Nat}, lo' ≤ lo → asc lo hi l → asc lo' hi l
  | [], _, _, _, _, _ => trivial
  | x :: l, lo, lo', hi, h, ⟨a, b, c⟩ => ⟨Nat.le_trans h a, b, c⟩
theorem asc_ge : ∀ {l : List Nat} {lo hi : Nat}, asc lo hi l → ∀ k ∈ l, lo ≤ k ∧ k < hi
  | x :: l, lo, hi, ⟨a, b, c⟩, k, h => by
    rcases List.mem_cons.mp h with e | h
    · rw [e]; exact ⟨a, b⟩
    · have := asc_ge c k h
      exact ⟨by omega, this.2⟩
theorem asc_nil {l : List Nat} {lo : Nat} (h : asc lo lo l) : l = [] := by
  cases l with
  | nil => rfl
  | cons x l => obtain ⟨a, b, _⟩ := h; omega
theorem asc_len : ∀ {l : List Nat} {lo hi : Nat}, asc lo hi l → l.length ≤ hi - lo
  | [], _, _, _ => Nat.zero_le _
  | x :: l, lo, hi, ⟨a, b, c⟩ => by
    have := asc_len c
    rw [List.length_cons]; omega
/-- the first is before the second, both of one length -/
def lexN : List Nat → List Nat → Prop
  | x :: l, y :: m => x < y ∨ (x = y ∧ lexN l m)
  | _, _ => False
theorem lexN_irr : ∀ {l : List Nat}, ¬ lexN l l
  | [], h => h
  | x :: l, h => by
    rcases h with h | ⟨_, h⟩
    · omega
    · exact lexN_irr h
theorem lexN_asymm : ∀ {l m : List Nat}, lexN l m → ¬ lexN m l
  | [], _, h => h.elim
  | x :: l, [], h => h.elim
  | x :: l, y :: m, h => fun h' => by
    rcases h with h | ⟨e, h⟩
    · rcases h' with h' | ⟨e', h'⟩ <;> omega
    · rcases h' with h' | ⟨e', h'⟩
      · omega
      · exact lexN_asymm h h'
/-- the sentences numbered from i that the list names contain all needed words -/
def enough (i : Nat) (X : List (List Nat)) (need d : List Nat) : Prop := ∀ w ∈ need, ∃ k ∈ d, i ≤ k ∧ w ∈ X.getD (k - i) []
def beats (c d : List Nat) : Prop := c.length < d.length ∨ (c.length = d.length ∧ (c = d ∨ lexN c d))
theorem enough_skip {i : Nat} {x : List Nat} {r : List (List Nat)} {need d : List Nat} (h : ∀ k ∈ d, i + 1 ≤ k) : enough i (x :: r) need d ↔ enough (i + 1) r need d := by
  constructor
  · intro e w hw
    obtain ⟨k, hk, h1, h2⟩ := e w hw
    have hk1 := h k hk
    refine ⟨k, hk, hk1, ?_⟩
    have : k - i = (k - (i + 1)) + 1 := by omega
    rw [this, List.getD_cons_succ] at h2
    exact h2
  · intro e w hw
    obtain ⟨k, hk, h1, h2⟩ := e w hw
    refine ⟨k, hk, by omega, ?_⟩
    have : k - i = (k - (i + 1)) + 1 := by omega
    rw [this, List.getD_cons_succ]
    exact h2
theorem enough_take {i : Nat} {x : List Nat} {r : List (List Nat)} {need d : List Nat} (h : ∀ k ∈ d, i + 1 ≤ k) : enough i (x :: r) need (i :: d) ↔ enough (i + 1) r (need.filter fun v => !x.contains v) d := by
  constructor
  · intro e w hw
    obtain ⟨hw1, hw2⟩ := List.mem_filter.mp hw
    obtain ⟨k, hk, h1, h2⟩ := e w hw1
    rcases List.mem_cons.mp hk with e1 | hk
    · subst e1
      rw [Nat.sub_self, List.getD_cons_zero] at h2
      simp [h2] at hw2
    · refine ⟨k, hk, h k hk, ?_⟩
      have := h k hk
      have : k - i = (k - (i + 1)) + 1 := by omega
      rw [this, List.getD_cons_succ] at h2
      exact h2
  · intro e w hw
    by_cases hx : w ∈ x
    · exact ⟨i, List.mem_cons_self, Nat.le_refl _, by rw [Nat.sub_self, List.getD_cons_zero]; exact hx⟩
    · obtain ⟨k, hk, h1, h2⟩ := e w (List.mem_filter.mpr ⟨hw, by simp [hx]⟩)
      refine ⟨k, List.mem_cons_of_mem _ hk, by omega, ?_⟩
      have : k - i = (k - (i + 1)) + 1 := by omega
      rw [this, List.getD_cons_succ]
      exact h2
theorem asc_cases {i hi : Nat} {d : List Nat} (h : asc i hi d) : (∃ d', d = i :: d' ∧ asc (i + 1) hi d') ∨ asc (i + 1) hi d := by
  cases d with
  | nil => exact .inr trivial
  | cons x l =>
    obtain ⟨a, b, c⟩ := h
    by_cases e : x = i
    · subst e; exact .inl ⟨l, rfl, c⟩
    · exact .inr ⟨by omega, b, c⟩
/-- what the specification's cover is -/
def Cov (i : Nat) (X : List (List Nat)) (need : List Nat) : Option (List Nat) → Prop
  | none => ∀ d, asc i (i + X.length) d → ¬ enough i X need d
  | some c => asc i (i + X.length) c ∧ enough i X need c ∧ ∀ d, asc i (i + X.length) d → enough i X need d → beats c d
theorem cover_is : ∀ (X : List (List Nat)) (i : Nat) (need : List Nat), Cov i X need (Rh12.cover i X need)
  | X, i, [] => by
    unfold Rh12.cover
    refine ⟨trivial, fun w hw => (List.not_mem_nil hw).elim, fun d _ _ => ?_⟩
    cases d with
    | nil => exact .inr ⟨rfl, .inl rfl⟩
    | cons x d => exact .inl (Nat.succ_pos _)
  | [], i, w :: l => by
    unfold Rh12.cover
    intro d hd e
    rw [List.length_nil, Nat.add_zero] at hd
    have := asc_nil hd
    subst this
    obtain ⟨k, hk, _⟩ := e w List.mem_cons_self
    exact List.not_mem_nil hk
  | x :: r, i, w :: l => by
    have E : i + (x :: r).length = i + 1 + r.length := by rw [List.length_cons]; omega
    have IH1 := cover_is r (i + 1) (w :: l)
    have IH2 := cover_is r (i + 1) ((w :: l).filter fun v => !x.contains v)
    have ge : ∀ d, asc (i + 1) (i + 1 + r.length) d → ∀ k ∈ d, i + 1 ≤ k := fun d h k hk => (asc_ge h k hk).1
    unfold Rh12.cover
    by_cases hany : ((w :: l).any fun v => x.contains v) = true
    · rw [if_pos hany]
      cases h2 : Rh12.cover (i + 1) r ((w :: l).filter fun v => !x.contains v) with
      | none =>
        rw [h2] at IH2
        cases h1 : Rh12.cover (i + 1) r (w :: l) with
        | none =>
          rw [h1] at IH1
          intro d hd e
          rw [E] at hd
          rcases asc_cases hd with ⟨d', rfl, h'⟩ | h'
          · exact IH2 d' h' ((enough_take (ge _ h')).mp e)
          · exact IH1 d h' ((enough_skip (ge _ h')).mp e)
        | some o =>
          rw [h1] at IH1
          obtain ⟨a1, a2, a3⟩ := IH1
          refine ⟨by rw [E]; exact asc_mono (Nat.le_succ i) a1, (enough_skip (ge _ a1)).mpr a2, fun d hd e => ?_⟩
          rw [E] at hd
          rcases asc_cases hd with ⟨d', rfl, h'⟩ | h'
          · exact (IH2 d' h' ((enough_take (ge _ h')).mp e)).elim
          · exact a3 d h' ((enough_skip (ge _ h')).mp e)
      | some c =>
        rw [h2] at IH2
        obtain ⟨b1, b2, b3⟩ := IH2
        have cons_beats : ∀ d', beats c d' → beats (i :: c) (i :: d') := by
          intro d' h
          rcases h with h | ⟨h, h'⟩
          · exact .inl (by simp only [List.length_cons]; omega)
          · refine .inr ⟨by simp only [List.length_cons]; omega, ?_⟩
            rcases h' with h' | h'
            · exact .inl (by rw [h'])
            · exact .inr (.inr ⟨rfl, h'⟩)
        have asc1 : asc i (i + (x :: r).length) (i :: c) := by rw [E]; exact ⟨Nat.le_refl _, by omega, b1⟩
        cases h1 : Rh12.cover (i + 1) r (w :: l) with
        | none =>
          rw [h1] at IH1
          refine ⟨asc1, (enough_take (ge _ b1)).mpr b2, fun d hd e => ?_⟩
          rw [E] at hd
          rcases asc_cases hd with ⟨d', rfl, h'⟩ | h'
          · exact cons_beats d' (b3 d' h' ((enough_take (ge _ h')).mp e))
          · exact (IH1 d h' ((enough_skip (ge _ h')).mp e)).elim
        | some o =>
          rw [h1] at IH1
          obtain ⟨a1, a2, a3⟩ := IH1
          show Cov i (x :: r) (w :: l) (if c.length + 1 ≤ o.length then some (i :: c) else some o)
          by_cases hl : c.length + 1 ≤ o.length
          · rw [if_pos hl]
            refine ⟨asc1, (enough_take (ge _ b1)).mpr b2, fun d hd e => ?_⟩
            rw [E] at hd
            rcases asc_cases hd with ⟨d', rfl, h'⟩ | h'
            · exact cons_beats d' (b3 d' h' ((enough_take (ge _ h')).mp e))
            · have q := a3 d h' ((enough_skip (ge _ h')).mp e)
              have ol : o.length ≤ d.length := by rcases q with q | ⟨q, _⟩ <;> omega
              by_cases hlt : c.length + 1 < d.length
              · exact .inl (by rw [List.length_cons]; exact hlt)
              · refine .inr ⟨by rw [List.length_cons]; omega, .inr ?_⟩
                cases d with
                | nil => rw [List.length_nil] at ol; omega
                | cons y d =>
                  have := (ge _ h' y List.mem_cons_self)
                  exact .inl (by omega)
          · rw [if_neg hl]
            refine ⟨by rw [E]; exact asc_mono (Nat.le_succ i) a1, (enough_skip (ge _ a1)).mpr a2, fun d hd e => ?_⟩
            rw [E] at hd
            rcases asc_cases hd with ⟨d', rfl, h'⟩ | h'
            · have q := b3 d' h' ((enough_take (ge _ h')).mp e)
              have : c.length ≤ d'.length := by rcases q with q | ⟨q, _⟩ <;> omega
              exact .inl (by rw [List.length_cons]; omega)
            · exact a3 d h' ((enough_skip (ge _ h')).mp e)
    · rw [if_neg hany]
      have hf : ((w :: l).filter fun v => !x.contains v) = w :: l := by
        refine List.filter_eq_self.mpr fun v hv => ?_
        cases hc : x.contains v with
        | false => rfl
        | true => exact (hany (List.any_eq_true.mpr ⟨v, hv, hc⟩)).elim
      rw [hf] at IH2
      cases h1 : Rh12.cover (i + 1) r (w :: l) with
      | none =>
        rw [h1] at IH1
        intro d hd e
        rw [E] at hd
        rcases asc_cases hd with ⟨d', rfl, h'⟩ | h'
        · have := (enough_take (ge _ h')).mp e
          rw [hf] at this
          exact IH1 d' h' this
        · exact IH1 d h' ((enough_skip (ge _ h')).mp e)
      | some o =>
        rw [h1] at IH1
        obtain ⟨a1, a2, a3⟩ := IH1
        refine ⟨by rw [E]; exact asc_mono (Nat.le_succ i) a1, (enough_skip (ge _ a1)).mpr a2, fun d hd e => ?_⟩
        rw [E] at hd
        rcases asc_cases hd with ⟨d', rfl, h'⟩ | h'
        · have e' := (enough_take (ge _ h')).mp e
          rw [hf] at e'
          have q := a3 d' h' e'
          have : o.length ≤ d'.length := by rcases q with q | ⟨q, _⟩ <;> omega
          exact .inl (by rw [List.length_cons]; omega)
        · exact a3 d h' ((enough_skip (ge _ h')).mp e)

/-! ### the levels -/
/-- the numbers that one more may be: from behind the last on -/
def nextFrom (l : List Nat) : Nat := match l.getLast? with
  | none => 1
  | some x => x + 1
def extend1 (S : Nat) (l : List Nat) : List (List Nat) := (List.range' (nextFrom l) (S + 1 - nextFrom l)).map fun k => l ++ [k]
def oneMore (S : Nat) (sets : List (List Nat)) : List (List Nat) := sets.flatMap (extend1 S)
def level (S : Nat) : Nat → List (List Nat)
  | 0 => [[]]
  | k + 1 => oneMore S (level S k)
theorem asc_snoc : ∀ {l : List Nat} {lo hi k : Nat}, lo ≤ k → asc lo hi l → k < hi → (∀ x ∈ l, x < k) → asc lo hi (l ++ [k])
  | [], lo, hi, k, h0, _, h1, _ => ⟨h0, h1, trivial⟩
  | x :: l, lo, hi, k, h0, ⟨a, b, c⟩, h1, h2 => by
    have := h2 x List.mem_cons_self
    exact ⟨a, b, asc_snoc (by omega) c h1 fun y hy => h2 y (List.mem_cons_of_mem _ hy)⟩
theorem asc_unsnoc : ∀ {l : List Nat} {lo hi k : Nat}, asc lo hi (l ++ [k]) → asc lo hi l ∧ lo ≤ k ∧ k < hi ∧ ∀ x ∈ l, x < k
  | [], lo, hi, k, ⟨a, b, _⟩ => ⟨trivial, a, b, fun x hx => (List.not_mem_nil hx).elim⟩
  | x :: l, lo, hi, k, ⟨a, b, c⟩ => by
    obtain ⟨h1, h2, h3, h4⟩ := asc_unsnoc (l := l) c
    refine ⟨⟨a, b, h1⟩, by omega, h3, fun y hy => ?_⟩
    rcases List.mem_cons.mp hy with e | hy
    · omega
    · exact h4 y hy
theorem nextFrom_snoc (l : List Nat) (k : Nat) : nextFrom (l ++ [k]) = k + 1 := by
  unfold nextFrom
  rw [List.getLast?_concat]
theorem nextFrom_nil : nextFrom [] = 1 := rfl
theorem snoc_of {l : List Nat} (h : l ≠ []) : ∃ m k, l = m ++ [k] := ⟨l.dropLast, l.getLast h, (List.dropLast_concat_getLast h).symm⟩
theorem asc_lt_next {l : List Nat} {lo hi : Nat} (h : asc lo hi l) : ∀ x ∈ l, x < nextFrom l := by
  by_cases e : l = []
  · subst e; intro x hx; exact (List.not_mem_nil hx).elim
  · obtain ⟨m, k, rfl⟩ := snoc_of e
    obtain ⟨_, _, _, h4⟩ := asc_unsnoc h
    intro x hx
    rw [nextFrom_snoc]
    rcases List.mem_append.mp hx with hx | hx
    · have := h4 x hx; omega
    · have := List.mem_singleton.mp hx; omega
theorem nextFrom_pos {l : List Nat} : 1 ≤ nextFrom l := by
  unfold nextFrom
  cases l.getLast? with
  | none => exact Nat.le_refl _
  | some x => exact Nat.succ_le_succ (Nat.zero_le _)
theorem mem_level {S : Nat} : ∀ {k : Nat} {l : List Nat}, l ∈ level S k ↔ asc 1 (S + 1) l ∧ l.length = k
  | 0, l => by
    show l ∈ [[]] ↔ _
    constructor
    · intro h
      have := List.mem_singleton.mp h
      subst this
      exact ⟨trivial, rfl⟩
    · rintro ⟨_, h⟩
      exact List.mem_singleton.mpr (List.length_eq_zero_iff.mp h)
  | k + 1, l => by
    show l ∈ (level S k).flatMap (extend1 S) ↔ _
    rw [List.mem_flatMap]
    constructor
    · rintro ⟨m, hm, hl⟩
      obtain ⟨h1, h2⟩ := mem_level.mp hm
      obtain ⟨x, hx, rfl⟩ := List.mem_map.mp hl
      obtain ⟨y, hy, hxy⟩ := List.mem_range'.mp hx
      have hp := nextFrom_pos (l := m)
      have hlt := asc_lt_next h1
      refine ⟨asc_snoc (by omega) h1 (by omega) (fun z hz => by have := hlt z hz; omega), ?_⟩
      rw [List.length_append, h2]; rfl
    · rintro ⟨h1, h2⟩
      have hne : l ≠ [] := by intro e; subst e; simp at h2
      obtain ⟨m, x, rfl⟩ := snoc_of hne
      obtain ⟨a1, a2, a3, a4⟩ := asc_unsnoc h1
      refine ⟨m, mem_level.mpr ⟨a1, by rw [List.length_append] at h2; simpa using h2⟩, List.mem_map.mpr ⟨x, List.mem_range'.mpr ?_, rfl⟩⟩
      have hn : nextFrom m ≤ x := by
        by_cases e : m = []
        · subst e; exact a2
        · obtain ⟨m', y, rfl⟩ := snoc_of e
          rw [nextFrom_snoc]
          exact a4 y (List.mem_append_right _ (List.mem_singleton.mpr rfl))
      exact ⟨x - nextFrom m, by omega, by omega⟩
theorem lexN_app : ∀ {l m : List Nat} {a b : List Nat}, lexN l m → l.length = m.length → lexN (l ++ a) (m ++ b)
  | [], _, _, _, h, _ => h.elim
  | x :: l, [], _, _, h, _ => h.elim
  | x :: l, y :: m, a, b, h, e => by
    rcases h with h | ⟨h1, h2⟩
    · exact .inl h
    · exact .inr ⟨h1, lexN_app h2 (by simpa using e)⟩
theorem lexN_last : ∀ {l : List Nat} {a b : Nat}, a < b → lexN (l ++ [a]) (l ++ [b])
  | [], _, _, h => .inl h
  | x :: l, a, b, h => .inr ⟨rfl, lexN_last h⟩
theorem level_sorted {S : Nat} : ∀ (k : Nat), (level S k).Pairwise lexN
  | 0 => List.pairwise_singleton _ _
  | k + 1 => by
    show ((level S k).flatMap (extend1 S)).Pairwise lexN
    rw [List.pairwise_flatMap]
    constructor
    · intro m hm
      unfold extend1
      rw [List.pairwise_map]
      exact (List.pairwise_lt_range' (s := nextFrom m) (n := S + 1 - nextFrom m)).imp fun h => lexN_last h
    · refine (level_sorted k).imp_of_mem fun {a b} ha hb h x hx y hy => ?_
      obtain ⟨u, _, rfl⟩ := List.mem_map.mp hx
      obtain ⟨v, _, rfl⟩ := List.mem_map.mp hy
      exact lexN_app h ((mem_level.mp ha).2.trans (mem_level.mp hb).2.symm)

/-- how many lists there are on a level: no more than 2 ^ S -/
def cnt (S : Nat) (l : List (List Nat)) : Nat := (l.map fun m => 2 ^ (S + 1 - nextFrom m)).sum
theorem sum_range_pow : ∀ (n a : Nat), ((List.range' a n).map fun k => 2 ^ (a + n - (k + 1))).sum + 1 = 2 ^ n
  | 0, a => rfl
  | n + 1, a => by
    have h := sum_range_pow n (a + 1)
    have e1 : a + 1 + n = a + (n + 1) := by omega
    rw [e1] at h
    rw [List.range'_succ, List.map_cons, List.sum_cons]
    have e : a + (n + 1) - (a + 1) = n := by omega
    rw [e, Nat.pow_succ]
    omega
theorem cnt_ext {S : Nat} (m : List Nat) : cnt S (extend1 S m) ≤ 2 ^ (S + 1 - nextFrom m) := by
  unfold cnt extend1
  rw [List.map_map]
  have h := sum_range_pow (S + 1 - nextFrom m) (nextFrom m)
  have e : ((fun m => 2 ^ (S + 1 - nextFrom m)) ∘ fun k => m ++ [k]) = fun k => 2 ^ (S + 1 - (k + 1)) := by
    funext k
    show 2 ^ (S + 1 - nextFrom (m ++ [k])) = _
    rw [nextFrom_snoc]
  rw [e]
  by_cases hS : nextFrom m ≤ S + 1
  · have e2 : nextFrom m + (S + 1 - nextFrom m) = S + 1 := by omega
    rw [e2] at h
    omega
  · have e3 : S + 1 - nextFrom m = 0 := by omega
    rw [e3]
    simp
theorem cnt_flat {S : Nat} : ∀ l : List (List Nat), cnt S (l.flatMap (extend1 S)) ≤ cnt S l
  | [] => Nat.le_refl _
  | m :: l => by
    have h1 := cnt_ext (S := S) m
    have h2 := cnt_flat (S := S) l
    have e : cnt S ((m :: l).flatMap (extend1 S)) = cnt S (extend1 S m) + cnt S (l.flatMap (extend1 S)) := by
      unfold cnt
      rw [List.flatMap_cons, List.map_append, List.sum_append]
    have e2 : cnt S (m :: l) = 2 ^ (S + 1 - nextFrom m) + cnt S l := by
      unfold cnt
      rw [List.map_cons, List.sum_cons]
    omega
theorem cnt_level {S : Nat} : ∀ k, cnt S (level S k) ≤ 2 ^ S
  | 0 => by
    show cnt S [[]] ≤ _
    unfold cnt
    simp [nextFrom]
  | k + 1 => Nat.le_trans (cnt_flat _) (cnt_level k)
theorem len_le_cnt {S : Nat} : ∀ l : List (List Nat), l.length ≤ cnt S l
  | [] => Nat.zero_le _
  | m :: l => by
    have h := len_le_cnt (S := S) l
    have e2 : cnt S (m :: l) = 2 ^ (S + 1 - nextFrom m) + cnt S l := by
      unfold cnt
      rw [List.map_cons, List.sum_cons]
    have : 1 ≤ 2 ^ (S + 1 - nextFrom m) := Nat.one_le_two_pow
    rw [List.length_cons]
    omega
theorem level_len (S k : Nat) : (level S k).length ≤ 2 ^ S := Nat.le_trans (len_le_cnt _) (cnt_level k)

/-! ### the search meets the cover -/
/-- the first enough one of the first level that has one is the cover -/
theorem found_is_cover {X : List (List Nat)} {need : List Nat} {k : Nat} {pre post : List (List Nat)} {c : List Nat} (hl : level X.length k = pre ++ c :: post)
    (hlow : ∀ j, j < k → ∀ d ∈ level X.length j, ¬ enough 1 X need d) (hpre : ∀ d ∈ pre, ¬ enough 1 X need d) (hc : enough 1 X need c) : Rh12.cover 1 X need = some c := by
  have hcm : c ∈ level X.length k := by rw [hl]; exact List.mem_append_right _ List.mem_cons_self
  obtain ⟨ac, lc⟩ := mem_level.mp hcm
  have E : 1 + X.length = X.length + 1 := Nat.add_comm _ _
  have C := cover_is X 1 need
  cases h : Rh12.cover 1 X need with
  | none =>
    rw [h] at C
    exact (C c (by rw [E]; exact ac) hc).elim
  | some o =>
    rw [h] at C
    obtain ⟨a1, a2, a3⟩ := C
    rw [E] at a1
    have q := a3 c (by rw [E]; exact ac) hc
    have hle : k ≤ o.length := by
      rcases Nat.lt_or_ge o.length k with hh | hh
      · exact (hlow _ hh o (mem_level.mpr ⟨a1, rfl⟩) a2).elim
      · exact hh
    rcases q with q | ⟨q1, q2⟩
    · omega
    · rcases q2 with q2 | q2
      · rw [q2]
      · -- o is on the level, ahead of c or behind it
        have ho : o ∈ level X.length k := mem_level.mpr ⟨a1, by omega⟩
        have hs := level_sorted (S := X.length) k
        rw [hl] at ho hs
        rcases List.mem_append.mp ho with ho | ho
        · exact (hpre o ho a2).elim
        · rcases List.mem_cons.mp ho with ho | ho
          · rw [ho]
          · have := (List.pairwise_append.mp hs).2.1
            have := (List.pairwise_cons.mp this).1 o ho
            exact (lexN_asymm q2 this).elim
/-- all sentences are enough -/
theorem asc_range : ∀ (n lo : Nat), asc lo (lo + n) (List.range' lo n)
  | 0, _ => trivial
  | n + 1, lo => by
    rw [List.range'_succ]
    refine ⟨Nat.le_refl _, by omega, ?_⟩
    have := asc_range n (lo + 1)
    have e : lo + 1 + n = lo + (n + 1) := by omega
    rw [e] at this
    exact this
theorem all_enough {X : List (List Nat)} {need : List Nat} (h : ∀ w ∈ need, w ∈ X.flatten) : enough 1 X need (List.range' 1 X.length) := by
  intro w hw
  obtain ⟨x, hx, hwx⟩ := List.mem_flatten.mp (h w hw)
  obtain ⟨i, hi, e⟩ := List.mem_iff_getElem.mp hx
  refine ⟨i + 1, List.mem_range'.mpr ⟨i, hi, by omega⟩, by omega, ?_⟩
  rw [Nat.add_sub_cancel, List.getD_eq_getElem?_getD, List.getElem?_eq_getElem hi, Option.getD_some, e]
  exact hwx
theorem all_in_level (S : Nat) : List.range' 1 S ∈ level S S := by
  refine mem_level.mpr ⟨?_, List.length_range'⟩
  have := asc_range S 1
  rw [Nat.add_comm] at this
  exact this
end TpM

/-! narrow: the specification's fold is the first of the shortest passages -/
namespace TpM
open Rh12 (flat part hasAll wanted reach)
theorem mem_part_mono {s : Rh12.St} {a b c w : Nat} (h : b ≤ c) (hw : w ∈ part s a b) : w ∈ part s a c := by
  unfold part at hw ⊢
  have e : (flat s).take b = ((flat s).take c).take b := by rw [List.take_take, Nat.min_eq_left h]
  rw [e] at hw
  have hp : (((flat s).take c).take b).drop (a - 1) = (((flat s).take c).drop (a - 1)).take (b - (a - 1)) := by
    rw [List.drop_take]
  rw [hp] at hw
  exact List.mem_of_mem_take hw
theorem hasAll_mono {s : Rh12.St} {a b c : Nat} (h : b ≤ c) (ha : hasAll s (part s a b) = true) : hasAll s (part s a c) = true := by
  unfold hasAll at ha ⊢
  rw [List.all_eq_true] at ha ⊢
  intro w hw
  have := ha w hw
  rw [List.contains_iff_mem] at this ⊢
  exact mem_part_mono h this
/-- the passage from a on, of so many words, has all -/
def has (s : Rh12.St) (a b : Nat) : Prop := 1 ≤ a ∧ a ≤ b ∧ b ≤ (flat s).length ∧ hasAll s (part s a b) = true
theorem reach_some {s : Rh12.St} {a b : Nat} (ha : 1 ≤ a) (h : reach s a = some b) : has s a b ∧ ∀ c, has s a c → b ≤ c := by
  unfold reach at h
  obtain ⟨hb, as, bs, e, hpre⟩ := List.find?_eq_some_iff_append.mp h
  rw [Bool.and_eq_true, decide_eq_true_eq] at hb
  have hm : b ∈ (List.range (flat s).length).map fun i => i + 1 := by rw [e]; exact List.mem_append_right _ List.mem_cons_self
  obtain ⟨i, hi, rfl⟩ := List.mem_map.mp hm
  have hi := List.mem_range.mp hi
  refine ⟨⟨ha, hb.1, by omega, hb.2⟩, fun c ⟨_, c1, c2, c3⟩ => ?_⟩
  rcases Nat.lt_or_ge c (i + 1) with hlt | hge
  · -- c would stand ahead of b
    exfalso
    have hs : ((List.range (flat s).length).map fun i => i + 1).Pairwise (· < ·) := by
      rw [List.pairwise_map]
      exact List.pairwise_lt_range.imp fun h => Nat.succ_lt_succ h
    have hc : c ∈ (List.range (flat s).length).map fun i => i + 1 := List.mem_map.mpr ⟨c - 1, List.mem_range.mpr (by omega), by omega⟩
    rw [e] at hs hc
    rcases List.mem_append.mp hc with hc | hc
    · have := hpre c hc
      simp [c1, c3] at this
    · have h2 := (List.pairwise_append.mp hs).2.1
      rcases List.mem_cons.mp hc with hc | hc
      · omega
      · have := (List.pairwise_cons.mp h2).1 c hc
        omega
  · exact hge
theorem reach_none {s : Rh12.St} {a : Nat} (h : reach s a = none) : ∀ c, ¬ has s a c := by
  unfold reach at h
  rintro c ⟨h0, c1, c2, c3⟩
  have := List.find?_eq_none.mp h c (List.mem_map.mpr ⟨c - 1, List.mem_range.mpr (by omega), by omega⟩)
  simp [c1, c3] at this
/-- the best of the passages that begin at 1 to i -/
def Best (s : Rh12.St) (i : Nat) : Option (Nat × Nat) → Prop
  | none => ∀ a c, a ≤ i → ¬ has s a c
  | some x => has s x.1 x.2 ∧ x.1 ≤ i ∧ ∀ a c, a ≤ i → has s a c → x.2 - x.1 < c - a ∨ (x.2 - x.1 = c - a ∧ x.1 ≤ a)
def nstep (s : Rh12.St) (c : Option (Nat × Nat)) (i : Nat) : Option (Nat × Nat) := match reach s (i + 1), c with
  | none, c => c
  | some b, none => some (i + 1, b)
  | some b, some x => if b - (i + 1) < x.2 - x.1 then some (i + 1, b) else some x
theorem nstep_best {s : Rh12.St} {c : Option (Nat × Nat)} {i : Nat} (h : Best s i c) : Best s (i + 1) (nstep s c i) := by
  unfold nstep
  cases hr : reach s (i + 1) with
  | none =>
    have no := reach_none hr
    cases c with
    | none =>
      intro a c hac hh
      rcases Nat.lt_or_ge i a with q | q
      · have : a = i + 1 := by omega
        subst this; exact no c hh
      · exact h a c q hh
    | some x =>
      obtain ⟨h1, h2, h3⟩ := h
      refine ⟨h1, by omega, fun a c hac hh => ?_⟩
      rcases Nat.lt_or_ge i a with q | q
      · have : a = i + 1 := by omega
        subst this; exact (no c hh).elim
      · exact h3 a c q hh
  | some b =>
    obtain ⟨r1, r2⟩ := reach_some (Nat.succ_le_succ (Nat.zero_le i)) hr
    cases c with
    | none =>
      refine ⟨r1, Nat.le_refl _, fun a c hac hh => ?_⟩
      rcases Nat.lt_or_ge i a with q | q
      · have : a = i + 1 := by omega
        subst this
        have := r2 c hh
        have := hh.2.1
        have := r1.2.1
        show b - (i + 1) < c - (i + 1) ∨ (b - (i + 1) = c - (i + 1) ∧ i + 1 ≤ i + 1)
        omega
      · exact (h a c q hh).elim
    | some x =>
      obtain ⟨h1, h2, h3⟩ := h
      show Best s (i + 1) (if b - (i + 1) < x.2 - x.1 then some (i + 1, b) else some x)
      by_cases hlt : b - (i + 1) < x.2 - x.1
      · rw [if_pos hlt]
        refine ⟨r1, Nat.le_refl _, fun a c hac hh => ?_⟩
        show b - (i + 1) < c - a ∨ (b - (i + 1) = c - a ∧ i + 1 ≤ a)
        rcases Nat.lt_or_ge i a with q | q
        · have : a = i + 1 := by omega
          subst this
          have := r2 c hh
          have := hh.2.1
          have := r1.2.1
          omega
        · have := h3 a c q hh
          omega
      · rw [if_neg hlt]
        refine ⟨h1, by omega, fun a c hac hh => ?_⟩
        rcases Nat.lt_or_ge i a with q | q
        · have : a = i + 1 := by omega
          subst this
          have := r2 c hh
          have := hh.2.1
          have := r1.2.1
          omega
        · exact h3 a c q hh
theorem fold_best {s : Rh12.St} : ∀ n, Best s n ((List.range n).foldl (nstep s) none)
  | 0 => fun a c h hh => by have := hh.1; omega
  | n + 1 => by
    rw [List.range_succ, List.foldl_append]
    exact nstep_best (fold_best n)
theorem narrow_eq (s : Rh12.St) : Rh12.narrow s = if (wanted s).isEmpty = true then none else (List.range (flat s).length).foldl (nstep s) none := rfl
/-- the search by the lengths meets it -/
theorem narrow_is {s : Rh12.St} {a k : Nat} (hw : (wanted s).isEmpty = false) (h : has s a (a + k)) (hshort : ∀ k' a', k' < k → ¬ has s a' (a' + k')) (hfirst : ∀ a', a' < a → ¬ has s a' (a' + k)) : Rh12.narrow s = some (a, a + k) := by
  rw [narrow_eq, hw, if_neg (by simp)]
  have B := fold_best (s := s) (flat s).length
  cases e : (List.range (flat s).length).foldl (nstep s) none with
  | none =>
    rw [e] at B
    exact (B a (a + k) (by have := h.2.1; have := h.2.2.1; omega) h).elim
  | some x =>
    rw [e] at B
    obtain ⟨h1, h2, h3⟩ := B
    have q := h3 a (a + k) (by have := h.2.1; have := h.2.2.1; omega) h
    obtain ⟨x1, x2⟩ := x
    simp only at h1 h2 h3 q
    have hx := h1.2.1
    have ex : x2 = x1 + (x2 - x1) := by omega
    have hk : ¬ (x2 - x1) < k := fun z => hshort (x2 - x1) x1 z (by rw [← ex]; exact h1)
    have hk2 : x2 - x1 = k := by omega
    rw [hk2] at ex
    subst ex
    have : ¬ x1 < a := fun z => hfirst x1 z h1
    have : x1 = a := by omega
    subst this
    rfl
/-- the whole text has all -/
theorem has_whole {s : Rh12.St} (h : 1 ≤ (flat s).length) : has s 1 (flat s).length := by
  refine ⟨Nat.le_refl _, h, Nat.le_refl _, ?_⟩
  unfold hasAll
  rw [List.all_eq_true]
  intro w hw
  unfold wanted at hw
  have := (List.mem_filter.mp hw).2
  rw [List.contains_iff_mem] at this ⊢
  unfold part
  rw [List.take_length]
  exact this
theorem some_word {s : Rh12.St} (hw : (wanted s).isEmpty = false) : 1 ≤ (flat s).length := by
  cases h : wanted s with
  | nil => rw [h] at hw; simp at hw
  | cons w l =>
    have hm : w ∈ wanted s := by rw [h]; exact List.mem_cons_self
    unfold wanted at hm
    have := (List.mem_filter.mp hm).2
    rw [List.contains_iff_mem] at this
    exact List.length_pos_of_mem this
/-- the wanted ones that are among some are all of them -/
theorem filter_all {need l : List Nat} : (need.filter fun w => l.contains w) = need ↔ (need.all fun w => l.contains w) = true := by
  rw [List.filter_eq_self, List.all_eq_true]
end TpM

/-! the best selection: the program's rows over lists of passages, and the specification's -/
namespace TpM
abbrev Pas := Nat × Nat
abbrev Trip := Nat × Nat × Int
/-- a selection: its score, its passages -/
abbrev Sel := Int × List Pas
def sel0 : Sel := (0, [])
def aheadT (t : Trip) (c : Sel) : Sel := (t.2.2 + c.1, (t.1, t.2.1) :: c.2)
/-- lists of pairs in Python's order -/
def lexP : List Pas → List Pas → Bool
  | [], [] => false
  | [], _ :: _ => true
  | _ :: _, [] => false
  | x :: l, y :: m => if x = y then lexP l m else if x.1 = y.1 then decide (x.2 < y.2) else decide (x.1 < y.1)
/-- (-score, len, list) < the other's -/
def rankLt (x y : Sel) : Bool := if x.1 = y.1 then (if x.2.length = y.2.length then lexP x.2 y.2 else decide (x.2.length < y.2.length)) else decide (y.1 < x.1)
def betterS (c d : Sel) : Sel := if rankLt d c = true then d else c
def rowF (L : List (List Trip)) (n gap : Nat) (Rb : List Sel) : Nat → Sel
  | 0 => sel0
  | m + 1 => (L.getD (n - m) []).foldl (fun c t => betterS c (aheadT t (Rb.getD (min (t.2.1 + gap + 1) (n + 1)) sel0))) (rowF L n gap Rb m)
/-- the row behind i turns of the loop -/
def rowAt (L : List (List Trip)) (n gap : Nat) (Rb : List Sel) (i : Nat) : List Sel := (List.range (n + 2)).map fun p => if n + 1 - p ≤ i then rowF L n gap Rb (n + 1 - p) else sel0
def rowW (L : List (List Trip)) (n gap : Nat) (Rb : List Sel) : List Sel := rowAt L n gap Rb n
def rowK (L : List (List Trip)) (n gap : Nat) : Nat → List Sel
  | 0 => List.replicate (n + 2) sel0
  | k + 1 => rowW L n gap (rowK L n gap k)
def byBegins (n : Nat) (ps : List Trip) : List (List Trip) := (List.range (n + 2)).map fun p => ps.filter fun t => t.1 == p
def bestSel (ps : List Trip) (n gap k : Nat) : Sel := (rowK (byBegins n ps) n gap k).getD 1 sel0

/-! ### facts of the mirror, for the walk -/
theorem rowAt_zero (L : List (List Trip)) (n gap : Nat) (Rb : List Sel) : rowAt L n gap Rb 0 = List.replicate (n + 2) sel0 := by
  unfold rowAt
  refine List.ext_getElem (by simp) fun i h1 h2 => ?_
  rw [List.getElem_map, List.getElem_range, List.getElem_replicate]
  have hi : i < n + 2 := by simpa using h1
  by_cases h : n + 1 - i ≤ 0
  · rw [if_pos h]
    have e : n + 1 - i = 0 := by omega
    rw [e]; rfl
  · rw [if_neg h]
theorem rowAt_succ {L : List (List Trip)} {n gap : Nat} {Rb : List Sel} {i : Nat} (h : i < n) : rowAt L n gap Rb (i + 1) = (rowAt L n gap Rb i).set (n - i) (rowF L n gap Rb (i + 1)) := by
  unfold rowAt
  refine List.ext_getElem (by simp) fun p h1 h2 => ?_
  have hp : p < n + 2 := by simpa using h1
  rw [List.getElem_map, List.getElem_range, List.getElem_set, List.getElem_map, List.getElem_range]
  by_cases e : n - i = p
  · subst e
    have e1 : n + 1 - (n - i) = i + 1 := by omega
    rw [if_pos rfl, e1, if_pos (Nat.le_refl _)]
  · rw [if_neg e]
    by_cases h2 : n + 1 - p ≤ i
    · rw [if_pos h2, if_pos (Nat.le_succ_of_le h2)]
    · rw [if_neg h2, if_neg (by omega)]
theorem rowAt_len (L : List (List Trip)) (n gap : Nat) (Rb : List Sel) (i : Nat) : (rowAt L n gap Rb i).length = n + 2 := by
  unfold rowAt; rw [List.length_map, List.length_range]
theorem rowAt_get {L : List (List Trip)} {n gap : Nat} {Rb : List Sel} {i m : Nat} (hm : m ≤ i) (hi : i ≤ n + 1) : (rowAt L n gap Rb i)[n + 1 - m]? = some (rowF L n gap Rb m) := by
  unfold rowAt
  rw [List.getElem?_map, List.getElem?_range (by omega), Option.map_some]
  have e : n + 1 - (n + 1 - m) = m := by omega
  rw [e, if_pos hm]
theorem rowK_len (L : List (List Trip)) (n gap : Nat) : ∀ k, (rowK L n gap k).length = n + 2
  | 0 => List.length_replicate
  | k + 1 => rowAt_len _ _ _ _ _
theorem byBegins_len (n : Nat) (ps : List Trip) : (byBegins n ps).length = n + 2 := by
  unfold byBegins; rw [List.length_map, List.length_range]
theorem byBegins_nil (n : Nat) : byBegins n [] = List.replicate (n + 2) [] := by
  unfold byBegins
  refine List.ext_getElem (by simp) fun i h1 h2 => ?_
  rw [List.getElem_map, List.getElem_replicate]; rfl
theorem byBegins_snoc {n : Nat} {ps : List Trip} {t : Trip} (h : t.1 < n + 2) : byBegins n (ps ++ [t]) = (byBegins n ps).set t.1 ((byBegins n ps).getD t.1 [] ++ [t]) := by
  have hg : (byBegins n ps).getD t.1 [] = ps.filter fun u => u.1 == t.1 := by
    unfold byBegins
    rw [List.getD_eq_getElem?_getD, List.getElem?_map, List.getElem?_range h]; rfl
  rw [hg]
  unfold byBegins
  refine List.ext_getElem (by simp) fun p h1 h2 => ?_
  rw [List.getElem_map, List.getElem_range, List.getElem_set, List.getElem_map, List.getElem_range, List.filter_append]
  by_cases e : t.1 = p
  · subst e
    rw [if_pos rfl]
    congr 1
    simp
  · rw [if_neg e]
    have : (t.1 == p) = false := by simpa using e
    rw [List.filter_cons_of_neg (by simp [e]), List.filter_nil, List.append_nil]
theorem byBegins_get {n : Nat} {ps : List Trip} {p : Nat} (h : p < n + 2) : (byBegins n ps)[p]? = some (ps.filter fun u => u.1 == p) := by
  unfold byBegins
  rw [List.getElem?_map, List.getElem?_range h]; rfl

/-! ### against the specification -/
open Rh12 (Choice none_ better pick ahead from_ rows flat)
def toC (c : Sel) : Choice := ⟨c.1, c.2.length, c.2⟩
theorem toC_zero : toC sel0 = none_ := rfl
/-- all passages begin from p on -/
def From (p : Nat) (c : Sel) : Prop := ∀ x ∈ c.2, p ≤ x.1
theorem From.mono {p q : Nat} {c : Sel} (h : From q c) (e : p ≤ q) : From p c := fun x hx => Nat.le_trans e (h x hx)
def notWorse (x y : Sel) : Prop := y.1 < x.1 ∨ (x.1 = y.1 ∧ x.2.length ≤ y.2.length)
def strict (x y : Sel) : Prop := y.1 < x.1 ∨ (x.1 = y.1 ∧ x.2.length < y.2.length)
theorem better_iff {x y : Sel} : better (toC x) (toC y) = true ↔ strict x y := by
  unfold better strict toC
  simp only [Bool.or_eq_true, Bool.and_eq_true, decide_eq_true_eq, beq_iff_eq]
/-- a candidate against one that begins later -/
theorem rank_later {p b : Nat} {w : Int} {r : List Pas} {S : Sel} (hS : From (p + 1) S) : rankLt (w, (p, b) :: r) S = true ↔ notWorse (w, (p, b) :: r) S := by
  unfold rankLt notWorse
  simp only
  by_cases h1 : w = S.1
  · rw [if_pos h1]
    by_cases h2 : ((p, b) :: r).length = S.2.length
    · rw [if_pos h2]
      cases hs : S.2 with
      | nil => rw [hs] at h2; simp at h2
      | cons y m =>
        have hy : p + 1 ≤ y.1 := hS y (by rw [hs]; exact List.mem_cons_self)
        have ne : ¬ (p, b) = y := fun e => by rw [← e] at hy; exact Nat.not_succ_le_self p hy
        have ne1 : ¬ p = y.1 := by omega
        have e : lexP ((p, b) :: r) (y :: m) = true := by
          unfold lexP
          rw [if_neg ne, if_neg ne1]
          exact decide_eq_true (by omega)
        rw [e]
        refine ⟨fun _ => .inr ⟨h1, ?_⟩, fun _ => rfl⟩
        rw [h2, hs]; exact Nat.le_refl _
    · rw [if_neg h2, decide_eq_true_eq]
      constructor
      · intro h; exact .inr ⟨h1, Nat.le_of_lt h⟩
      · rintro (h | ⟨_, h⟩) <;> omega
  · rw [if_neg h1, decide_eq_true_eq]
    constructor
    · intro h; exact .inl h
    · rintro (h | ⟨h, _⟩)
      · exact h
      · exact absurd h h1
/-- against one that begins at the same place and ends earlier -/
theorem rank_same {p b b' : Nat} {w w' : Int} {r r' : List Pas} (hb : b' < b) : rankLt (w, (p, b) :: r) (w', (p, b') :: r') = true ↔ strict (w, (p, b) :: r) (w', (p, b') :: r') := by
  unfold rankLt strict
  simp only
  by_cases h1 : w = w'
  · rw [if_pos h1]
    by_cases h2 : ((p, b) :: r).length = ((p, b') :: r').length
    · rw [if_pos h2]
      have ne : ¬ (p, b) = (p, b') := fun e => by
        have := congrArg Prod.snd e
        simp only at this
        omega
      have e : lexP ((p, b) :: r) ((p, b') :: r') = false := by
        unfold lexP
        rw [if_neg ne, if_pos rfl]
        exact decide_eq_false (by simp only; omega)
      rw [e]
      constructor
      · intro h; cases h
      · rintro (h | ⟨_, h⟩) <;> omega
    · rw [if_neg h2, decide_eq_true_eq]
      constructor
      · intro h; exact .inr ⟨h1, h⟩
      · rintro (h | ⟨_, h⟩)
        · omega
        · exact h
  · rw [if_neg h1, decide_eq_true_eq]
    constructor
    · intro h; exact .inl h
    · rintro (h | ⟨h, _⟩)
      · exact h
      · exact absurd h h1
/-- the specification's pick, on selections -/
def pickS : Sel → List Sel → Sel
  | c, [] => c
  | c, d :: l => if better (toC d) (toC c) = true then pickS d l else pickS c l
theorem pick_toC : ∀ (l : List Sel) (c : Sel), pick (toC c) (l.map toC) = toC (pickS c l)
  | [], _ => rfl
  | d :: l, c => by
    show (if better (toC d) (toC c) = true then pick (toC d) (l.map toC) else pick (toC c) (l.map toC)) = toC (if better (toC d) (toC c) = true then pickS d l else pickS c l)
    rw [pick_toC l d, pick_toC l c]
    split <;> rfl
theorem pickS_snoc : ∀ (l : List Sel) (c S : Sel), pickS c (l ++ [S]) = if better (toC S) (toC (pickS c l)) = true then S else pickS c l
  | [], c, S => rfl
  | d :: l, c, S => by
    show (if better (toC d) (toC c) = true then pickS d (l ++ [S]) else pickS c (l ++ [S])) = _
    rw [pickS_snoc l d, pickS_snoc l c]
    show _ = if better (toC S) (toC (if better (toC d) (toC c) = true then pickS d l else pickS c l)) = true then S else if better (toC d) (toC c) = true then pickS d l else pickS c l
    split <;> rfl
/-- candidates at p, by their ends -/
def Cands (p : Nat) : List Sel → Prop := fun l => (∀ c ∈ l, ∃ b w r, c = (w, (p, b) :: r)) ∧ l.Pairwise fun c d => ∀ b b' w w' r r', c = (w, (p, b) :: r) → d = (w', (p, b') :: r') → b < b'
theorem notWorse_of_not_strict {x y : Sel} (h : ¬ strict y x) : notWorse x y := by
  unfold strict at h
  unfold notWorse
  omega
theorem not_strict_of {x y : Sel} (h : notWorse x y) : ¬ strict y x := by
  unfold strict
  unfold notWorse at h
  omega
/-- the loop at one place: behind some candidates the best is the skip where that is better, else the picked one -/
theorem fold_pick {p : Nat} {S : Sel} (hS : From (p + 1) S) : ∀ (l : List Sel) (c : Sel), Cands p (c :: l) → (c :: l).foldl betterS S = pickS c (l ++ [S]) := by
  intro l c hc
  rw [pickS_snoc]
  have h0 : betterS S c = if better (toC S) (toC c) = true then S else c := by
    obtain ⟨b, w, r, rfl⟩ := hc.1 c List.mem_cons_self
    unfold betterS
    by_cases h : rankLt (w, (p, b) :: r) S = true
    · rw [if_pos h, if_neg (fun z => not_strict_of ((rank_later hS).mp h) (better_iff.mp z))]
    · rw [if_neg h, if_pos (better_iff.mpr (Classical.byContradiction fun z => h ((rank_later hS).mpr (notWorse_of_not_strict z))))]
  -- the rest, from a picked one
  have key : ∀ (l : List Sel) (P : Sel), Cands p (P :: l) → l.foldl betterS (if better (toC S) (toC P) = true then S else P) = if better (toC S) (toC (pickS P l)) = true then S else pickS P l := by
    intro l
    induction l with
    | nil => intro P _; rfl
    | cons d l ih =>
      intro P hP
      obtain ⟨b, w, r, rfl⟩ := hP.1 P List.mem_cons_self
      obtain ⟨b', w', r', rfl⟩ := hP.1 d (List.mem_cons_of_mem _ List.mem_cons_self)
      have hbb : b < b' := (List.pairwise_cons.mp hP.2).1 _ List.mem_cons_self b b' w w' r r' rfl rfl
      have hd : Cands p ((w', (p, b') :: r') :: l) := ⟨fun c hc => hP.1 c (List.mem_cons_of_mem _ hc), (List.pairwise_cons.mp hP.2).2⟩
      have hP' : Cands p ((w, (p, b) :: r) :: l) := by
        refine ⟨fun c hc => ?_, ?_⟩
        · rcases List.mem_cons.mp hc with e | hc
          · exact ⟨b, w, r, e⟩
          · exact hP.1 c (List.mem_cons_of_mem _ (List.mem_cons_of_mem _ hc))
        · refine List.pairwise_cons.mpr ⟨fun c hc => (List.pairwise_cons.mp hP.2).1 c (List.mem_cons_of_mem _ hc), (List.pairwise_cons.mp (List.pairwise_cons.mp hP.2).2).2⟩
      have ihd := ih _ hd
      have ihP := ih _ hP'
      show l.foldl betterS (betterS (if better (toC S) (toC (w, (p, b) :: r)) = true then S else (w, (p, b) :: r)) (w', (p, b') :: r')) = _
      have epick : pickS (w, (p, b) :: r) ((w', (p, b') :: r') :: l) = if better (toC (w', (p, b') :: r')) (toC (w, (p, b) :: r)) = true then pickS (w', (p, b') :: r') l else pickS (w, (p, b) :: r) l := rfl
      rw [epick]
      by_cases hsP : better (toC S) (toC (w, (p, b) :: r)) = true
      · rw [if_pos hsP]
        unfold betterS
        by_cases hr : rankLt (w', (p, b') :: r') S = true
        · have nw := (rank_later hS).mp hr
          have hbt : better (toC (w', (p, b') :: r')) (toC (w, (p, b) :: r)) = true := by
            rw [better_iff] at hsP ⊢
            unfold strict at hsP ⊢
            unfold notWorse at nw
            omega
          have hns : ¬ better (toC S) (toC (w', (p, b') :: r')) = true := fun z => not_strict_of nw (better_iff.mp z)
          rw [if_pos hr, if_pos hbt]
          rw [if_neg hns] at ihd
          exact ihd
        · have st : strict S (w', (p, b') :: r') := Classical.byContradiction fun z => hr ((rank_later hS).mpr (notWorse_of_not_strict z))
          rw [if_neg hr]
          by_cases hbt : better (toC (w', (p, b') :: r')) (toC (w, (p, b) :: r)) = true
          · rw [if_pos hbt]
            rw [if_pos (better_iff.mpr st)] at ihd
            exact ihd
          · rw [if_neg hbt]
            rw [if_pos hsP] at ihP
            exact ihP
      · rw [if_neg hsP]
        unfold betterS
        by_cases hr : rankLt (w', (p, b') :: r') (w, (p, b) :: r) = true
        · have st := (rank_same hbb).mp hr
          have hns : ¬ better (toC S) (toC (w', (p, b') :: r')) = true := by
            rw [better_iff] at hsP ⊢
            unfold strict at hsP st ⊢
            omega
          rw [if_pos hr, if_pos (better_iff.mpr st)]
          rw [if_neg hns] at ihd
          exact ihd
        · have hnb : ¬ better (toC (w', (p, b') :: r')) (toC (w, (p, b) :: r)) = true := fun z => hr ((rank_same hbb).mpr (better_iff.mp z))
          rw [if_neg hr, if_neg hnb]
          rw [if_neg hsP] at ihP
          exact ihP
  show l.foldl betterS (betterS S c) = _
  rw [h0]
  exact key l c hc
/-! ### the specification's rows by positions -/
section
variable (s : Rh12.St) (k : Nat)
theorem rows_succ (m : Nat) : rows s k (m + 1) = ((List.range (k + 1)).map fun j =>
      if j = 0 then none_ else
      match ((from_ s ((flat s).length - m)).map fun x => ahead s x (((rows s k m).getD (x.2 + s.gap - ((flat s).length - m)) []).getD (j - 1) none_)) ++ [((rows s k m).headD []).getD j none_] with
      | [] => none_
      | c :: l => pick c l) :: rows s k m := rfl
theorem rows_getD : ∀ (m q : Nat), (rows s k m).getD q [] = (rows s k (m - q)).headD []
  | 0, q => by
    rw [Nat.zero_sub]
    simp [rows]
  | m + 1, 0 => by
    rw [Nat.sub_zero]
    cases h : rows s k (m + 1) with
    | nil => rfl
    | cons x l => rfl
  | m + 1, q + 1 => by
    have e : m + 1 - (q + 1) = m - q := by omega
    rw [e, ← rows_getD m q, rows_succ, List.getD_cons_succ]
/-- the best of up to j passages from position p on -/
def B (j p : Nat) : Choice := ((rows s k ((flat s).length + 1 - p)).headD []).getD j none_
theorem B_top {j p : Nat} (h : (flat s).length < p) : B s k j p = none_ := by
  unfold B
  have e : (flat s).length + 1 - p = 0 := by omega
  rw [e]
  simp [rows]
theorem B_row {m j : Nat} (hj : j ≤ k) : ((rows s k (m + 1)).headD []).getD j none_ = if j = 0 then none_ else
      match ((from_ s ((flat s).length - m)).map fun x => ahead s x (((rows s k m).getD (x.2 + s.gap - ((flat s).length - m)) []).getD (j - 1) none_)) ++ [((rows s k m).headD []).getD j none_] with
      | [] => none_
      | c :: l => pick c l := by
  rw [rows_succ, List.headD_cons, List.getD_eq_getElem?_getD, List.getElem?_map, List.getElem?_range (by omega), Option.map_some, Option.getD_some]
theorem B_zero {p : Nat} : B s k 0 p = none_ := by
  unfold B
  cases h : (flat s).length + 1 - p with
  | zero => simp [rows]
  | succ m =>
    rw [B_row s k (Nat.zero_le k), if_pos rfl]
theorem from_mem {p : Nat} {x : Pas} (h : x ∈ from_ s p) : x.1 = p ∧ p ≤ x.2 ∧ x.2 ≤ (flat s).length ∧ Rh12.hit s x.1 x.2 = true := by
  unfold from_ at h
  obtain ⟨h1, h2⟩ := List.mem_filter.mp h
  obtain ⟨i, _, rfl⟩ := List.mem_map.mp h1
  rw [Bool.and_eq_true, decide_eq_true_eq] at h2
  exact ⟨rfl, Nat.le_add_right _ _, h2.1, h2.2⟩
theorem B_succ {j p : Nat} (hj : j + 1 ≤ k) (h1 : 1 ≤ p) (h2 : p ≤ (flat s).length) : B s k (j + 1) p =
      match ((from_ s p).map fun x => ahead s x (B s k j (x.2 + s.gap + 1))) ++ [B s k (j + 1) (p + 1)] with
      | [] => none_
      | c :: l => pick c l := by
  have e0 : (flat s).length + 1 - p = ((flat s).length - p) + 1 := by omega
  have e1 : (flat s).length - ((flat s).length - p) = p := by omega
  have e2 : (flat s).length + 1 - (p + 1) = (flat s).length - p := by omega
  unfold B
  rw [e0, B_row s k hj, if_neg (Nat.succ_ne_zero j), e1, e2]
  have em : ((from_ s p).map fun x => ahead s x (((rows s k ((flat s).length - p)).getD (x.2 + s.gap - p) []).getD (j + 1 - 1) none_)) = (from_ s p).map fun x => ahead s x (((rows s k ((flat s).length + 1 - (x.2 + s.gap + 1))).headD []).getD j none_) := by
    refine List.map_congr_left fun x hx => ?_
    have hm := (from_mem s hx).2.1
    rw [rows_getD]
    have e3 : (flat s).length - p - (x.2 + s.gap - p) = (flat s).length + 1 - (x.2 + s.gap + 1) := by omega
    rw [e3]
    rfl
  rw [em]
theorem best_B : Rh12.best s k = B s k k 1 := rfl
/-- the passages of the text with their scores -/
def trip (x : Pas) : Trip := (x.1, x.2, Rh12.worth s x.1 x.2)
def trips : List Trip := (Rh12.all s).map (trip s)
theorem filter_all_ {p : Nat} (h1 : 1 ≤ p) (h2 : p ≤ (flat s).length) : ((trips s).filter fun t => t.1 == p) = (from_ s p).map (trip s) := by
  unfold trips
  rw [List.filter_map]
  congr 1
  unfold Rh12.all
  have go : ∀ n, ((List.range n).flatMap fun i => from_ s (i + 1)).filter ((fun t => t.1 == p) ∘ trip s) = if p ≤ n then from_ s p else [] := by
    intro n
    induction n with
    | zero => rw [if_neg (by omega)]; rfl
    | succ n ih =>
      rw [List.range_succ, List.flatMap_append, List.filter_append, ih]
      have e : ([n].flatMap fun i => from_ s (i + 1)) = from_ s (n + 1) := by simp
      rw [e]
      by_cases hp : p = n + 1
      · subst hp
        rw [if_neg (by omega), if_pos (Nat.le_refl _), List.nil_append]
        refine List.filter_eq_self.mpr fun x hx => ?_
        have := (from_mem s hx).1
        simp [trip, this]
      · have hz : (from_ s (n + 1)).filter ((fun t => t.1 == p) ∘ trip s) = [] := by
          refine List.filter_eq_nil_iff.mpr fun x hx => ?_
          have := (from_mem s hx).1
          simp only [Function.comp, trip, beq_iff_eq]
          omega
        rw [hz, List.append_nil]
        by_cases hle : p ≤ n
        · rw [if_pos hle, if_pos (by omega)]
        · rw [if_neg hle, if_neg (by omega)]
  rw [go, if_pos h2]
theorem from_sorted {p : Nat} : (from_ s p).Pairwise fun x y => x.2 < y.2 := by
  unfold from_
  refine List.Pairwise.filter _ ?_
  rw [List.pairwise_map]
  exact List.pairwise_lt_range.imp fun h => Nat.add_lt_add_left h p
/-- the loop's row, one place after another -/
theorem row_is {j : Nat} {Rb : List Sel} (hj : j + 1 ≤ k) (hb : ∀ p, 1 ≤ p → p ≤ (flat s).length + 1 → ∃ c, Rb[p]? = some c ∧ toC c = B s k j p ∧ From p c) :
    ∀ m, m ≤ (flat s).length → toC (rowF (byBegins (flat s).length (trips s)) (flat s).length s.gap Rb m) = B s k (j + 1) ((flat s).length + 1 - m) ∧ From ((flat s).length + 1 - m) (rowF (byBegins (flat s).length (trips s)) (flat s).length s.gap Rb m)
  | 0, _ => by
    rw [Nat.sub_zero, B_top s k (Nat.lt_succ_self _)]
    exact ⟨rfl, fun x hx => (List.not_mem_nil hx).elim⟩
  | m + 1, hm => by
    obtain ⟨ih1, ih2⟩ := row_is hj hb m (by omega)
    have e1 : (flat s).length + 1 - (m + 1) = (flat s).length - m := by omega
    rw [e1]
    have hp1 : 1 ≤ (flat s).length - m := by omega
    have hp2 : (flat s).length - m ≤ (flat s).length := Nat.sub_le _ _
    have eL : (byBegins (flat s).length (trips s)).getD ((flat s).length - m) [] = (from_ s ((flat s).length - m)).map (trip s) := by
      rw [List.getD_eq_getElem?_getD, byBegins_get (by omega), Option.getD_some, filter_all_ s hp1 hp2]
    show toC (((byBegins (flat s).length (trips s)).getD ((flat s).length - m) []).foldl _ (rowF _ _ _ _ m)) = _ ∧ From _ (((byBegins (flat s).length (trips s)).getD ((flat s).length - m) []).foldl _ (rowF _ _ _ _ m))
    rw [eL]
    generalize hS : rowF (byBegins (flat s).length (trips s)) (flat s).length s.gap Rb m = S at ih1 ih2
    have eS : (flat s).length + 1 - m = (flat s).length - m + 1 := by omega
    rw [eS] at ih1 ih2
    generalize hp : (flat s).length - m = p at *
    -- the candidates
    let cand : Pas → Sel := fun x => aheadT (trip s x) (Rb.getD (min (x.2 + s.gap + 1) ((flat s).length + 1)) sel0)
    have ef : ((from_ s p).map (trip s)).foldl (fun c t => betterS c (aheadT t (Rb.getD (min (t.2.1 + s.gap + 1) ((flat s).length + 1)) sel0))) S = ((from_ s p).map cand).foldl betterS S := by
      rw [List.foldl_map, List.foldl_map]
      rfl
    rw [ef]
    have hc : ∀ x ∈ from_ s p, toC (cand x) = ahead s x (B s k j (x.2 + s.gap + 1)) ∧ From p (cand x) := by
      intro x hx
      obtain ⟨m1, m2, m3, m4⟩ := from_mem s hx
      obtain ⟨c, g1, g2, g3⟩ := hb (min (x.2 + s.gap + 1) ((flat s).length + 1)) (by omega) (Nat.min_le_right _ _)
      have eg : Rb.getD (min (x.2 + s.gap + 1) ((flat s).length + 1)) sel0 = c := by rw [List.getD_eq_getElem?_getD, g1]; rfl
      have eB : B s k j (min (x.2 + s.gap + 1) ((flat s).length + 1)) = B s k j (x.2 + s.gap + 1) := by
        rcases Nat.lt_or_ge ((flat s).length + 1) (x.2 + s.gap + 1) with h | h
        · rw [Nat.min_eq_right (by omega), B_top s k (Nat.lt_succ_self _), B_top s k (by omega)]
        · rw [Nat.min_eq_left h]
      rw [eB] at g2
      refine ⟨?_, ?_⟩
      · show toC (aheadT (trip s x) (Rb.getD _ sel0)) = _
        rw [eg, ← g2]
        rfl
      · intro y hy
        have hy : y ∈ (x.1, x.2) :: (Rb.getD (min (x.2 + s.gap + 1) ((flat s).length + 1)) sel0).2 := hy
        rw [eg] at hy
        rcases List.mem_cons.mp hy with e | hy
        · rw [e]; show p ≤ x.1; omega
        · have := g3 y hy
          omega
    have hfold_from : ∀ (l : List Sel) (S : Sel), From p S → (∀ c ∈ l, From p c) → From p (l.foldl betterS S) := by
      intro l
      induction l with
      | nil => intro S h _; exact h
      | cons c l ih =>
        intro S h hl
        refine ih _ ?_ fun d hd => hl d (List.mem_cons_of_mem _ hd)
        unfold betterS
        split
        · exact hl c List.mem_cons_self
        · exact h
    refine ⟨?_, hfold_from _ _ (ih2.mono (Nat.le_succ p)) fun c hcm => by
      obtain ⟨x, hx, rfl⟩ := List.mem_map.mp hcm
      exact (hc x hx).2⟩
    rw [B_succ s k hj hp1 hp2, ← ih1]
    have emap : ((from_ s p).map fun x => ahead s x (B s k j (x.2 + s.gap + 1))) = ((from_ s p).map cand).map toC := by
      rw [List.map_map]
      exact List.map_congr_left fun x hx => ((hc x hx).1).symm
    rw [emap]
    have hC : Cands p ((from_ s p).map cand) := by
      refine ⟨fun c hcm => ?_, ?_⟩
      · obtain ⟨x, hx, rfl⟩ := List.mem_map.mp hcm
        obtain ⟨m1, _⟩ := from_mem s hx
        refine ⟨x.2, (cand x).1, (Rb.getD (min (x.2 + s.gap + 1) ((flat s).length + 1)) sel0).2, ?_⟩
        rw [← m1]
        rfl
      · rw [List.pairwise_map]
        refine (from_sorted s).imp fun {x y} h b b' w w' r r' e e' => ?_
        have a1 : (x.1, x.2) = (p, b) := (List.cons.inj (congrArg Prod.snd e)).1
        have a2 : (y.1, y.2) = (p, b') := (List.cons.inj (congrArg Prod.snd e')).1
        have := congrArg Prod.snd a1
        have := congrArg Prod.snd a2
        simp only at *
        omega
    cases hl : (from_ s p).map cand with
    | nil => rfl
    | cons c l =>
      rw [hl] at hC
      rw [fold_pick ih2 l c hC]
      show _ = pick (toC c) (l.map toC ++ [toC S])
      have : l.map toC ++ [toC S] = (l ++ [S]).map toC := by rw [List.map_append]; rfl
      rw [this, pick_toC]
theorem rowK_is : ∀ j, j ≤ k → ∀ p, 1 ≤ p → p ≤ (flat s).length + 1 → ∃ c, (rowK (byBegins (flat s).length (trips s)) (flat s).length s.gap j)[p]? = some c ∧ toC c = B s k j p ∧ From p c
  | 0, _, p, h1, h2 => by
    refine ⟨sel0, ?_, by rw [B_zero s k]; rfl, fun x hx => (List.not_mem_nil hx).elim⟩
    show (List.replicate ((flat s).length + 2) sel0)[p]? = _
    rw [List.getElem?_replicate, if_pos (by omega)]
  | j + 1, hj, p, h1, h2 => by
    have ih := rowK_is j (by omega)
    have r := row_is s k (j := j) (Rb := rowK (byBegins (flat s).length (trips s)) (flat s).length s.gap j) hj ih ((flat s).length + 1 - p) (by omega)
    have e : (flat s).length + 1 - ((flat s).length + 1 - p) = p := by omega
    rw [e] at r
    refine ⟨_, ?_, r⟩
    have g := rowAt_get (L := byBegins (flat s).length (trips s)) (n := (flat s).length) (gap := s.gap) (Rb := rowK (byBegins (flat s).length (trips s)) (flat s).length s.gap j) (i := (flat s).length) (m := (flat s).length + 1 - p) (by omega) (by omega)
    rw [e] at g
    exact g
end
/-- the best selection of up to k passages -/
theorem best_is (s : Rh12.St) (k : Nat) : toC (bestSel (trips s) (flat s).length s.gap k) = Rh12.best s k := by
  obtain ⟨c, h1, h2, _⟩ := rowK_is s k k (Nat.le_refl k) 1 (Nat.le_refl 1) (by omega)
  unfold bestSel
  rw [List.getD_eq_getElem?_getD, h1, Option.getD_some, h2, best_B]
theorem best_row (s : Rh12.St) (k : Nat) : (bestSel (trips s) (flat s).length s.gap k).2 = (Rh12.best s k).row := by rw [← best_is]; rfl
theorem best_worth (s : Rh12.St) (k : Nat) : (bestSel (trips s) (flat s).length s.gap k).1 = (Rh12.best s k).worth := by rw [← best_is]; rfl
end TpM

/-! plain facts: pairs, sentences, firsts and lasts, weights, all passages in turn, singles, shown -/
namespace TpM
open Rh12
def askOf (l : List Nat) : Option (List (Nat × Nat)) := match pairs l with
  | none => none
  | some a => if isAsk a = true then some a else none
theorem pairs_some : ∀ {l : List Nat} {a : List (Nat × Nat)}, pairs l = some a → l.length = 2 * a.length ∧ ∀ (i : Nat) (x : Nat × Nat), a[i]? = some x → l[2 * i]? = some x.1 ∧ l[2 * i + 1]? = some x.2
  | [], a, h => by
    cases h
    exact ⟨rfl, fun i x e => by simp at e⟩
  | [_], a, h => by cases h
  | u :: v :: l, a, h => by
    unfold pairs at h
    cases e : pairs l with
    | none => rw [e] at h; cases h
    | some r =>
      rw [e] at h
      cases h
      obtain ⟨h1, h2⟩ := pairs_some e
      refine ⟨by simp [h1]; omega, fun i x hx => ?_⟩
      cases i with
      | zero => simp at hx; subst hx; exact ⟨rfl, rfl⟩
      | succ i =>
        rw [List.getElem?_cons_succ] at hx
        have := h2 i x hx
        exact ⟨by rw [show 2 * (i + 1) = 2 * i + 1 + 1 by omega]; simpa using this.1, by rw [show 2 * (i + 1) + 1 = 2 * i + 1 + 1 + 1 by omega]; simpa using this.2⟩
theorem pairs_odd : ∀ {l : List Nat}, l.length % 2 = 1 → pairs l = none
  | [], h => by simp at h
  | [_], _ => rfl
  | u :: v :: l, h => by
    unfold pairs
    rw [pairs_odd (l := l) (by simp at h; omega)]
    rfl
theorem pairs_even : ∀ {l : List Nat}, l.length % 2 = 0 → ∃ a, pairs l = some a
  | [], _ => ⟨[], rfl⟩
  | [_], h => by simp at h
  | u :: v :: l, h => by
    obtain ⟨a, e⟩ := pairs_even (l := l) (by simp at h; omega)
    refine ⟨(u, v) :: a, ?_⟩
    unfold pairs
    rw [e]
    rfl
theorem distinct_nodup : ∀ {a : List (Nat × Nat)}, distinct a = true ↔ (a.map fun x => x.1).Nodup
  | [] => by simp [distinct]
  | x :: a => by
    unfold distinct
    rw [Bool.and_eq_true, List.map_cons, List.nodup_cons, distinct_nodup, List.all_eq_true]
    refine and_congr_left fun _ => ⟨fun h m => ?_, fun h y hy => ?_⟩
    · obtain ⟨y, hy, e⟩ := List.mem_map.mp m
      have := h y hy
      simp [e] at this
    · refine bne_iff_ne.mpr fun e => h ?_
      exact List.mem_map.mpr ⟨y, hy, e⟩
def fitsAsk (x : Nat × Nat) : Bool := (decide (1 ≤ x.1) && decide (x.1 ≤ 40)) && (decide (1 ≤ x.2) && decide (x.2 ≤ 100))
theorem isAsk_eq (a : List (Nat × Nat)) : isAsk a = (decide (a.length ≤ 6) && (distinct a && a.all fitsAsk)) := by
  unfold isAsk
  congr 2
  refine congrArg (fun f => a.all f) (funext fun x => ?_)
  unfold fitsAsk
  rw [Bool.and_assoc]
theorem askOf_none {l : List Nat} (h : l.length % 2 = 1 ∨ 12 < l.length) : askOf l = none := by
  unfold askOf
  cases e : pairs l with
  | none => rfl
  | some a =>
    rcases h with h | h
    · rw [pairs_odd h] at e; cases e
    · have := (pairs_some e).1
      have e2 : isAsk a = false := by rw [isAsk_eq, decide_eq_false (by omega), Bool.false_and]
      simp only [e2]
      rfl
theorem askOf_some {l : List Nat} {a : List (Nat × Nat)} (h : pairs l = some a) (hl : l.length ≤ 12) : askOf l = if a.all fitsAsk = true then (if distinct a = true then some a else none) else none := by
  have := (pairs_some h).1
  unfold askOf
  rw [h]
  simp only [isAsk_eq]
  rw [decide_eq_true (show a.length ≤ 6 by omega), Bool.true_and]
  cases distinct a <;> cases a.all fitsAsk <;> rfl
theorem askOf_is {l : List Nat} {a : List (Nat × Nat)} (h : askOf l = some a) : isAsk a = true := by
  unfold askOf at h
  cases e : pairs l with
  | none => rw [e] at h; cases h
  | some b =>
    rw [e] at h
    by_cases c : isAsk b = true
    · simp only [c, if_true] at h; cases h; exact c
    · simp only [c] at h; cases h
theorem step_ask (s : St) (l : List Nat) : Rh12.step s (.ask l) = match askOf l with
    | none => (s, [-1])
    | some a => ({ s with ask := a }, Rh12.ints [(wanted { s with ask := a }).length]) := by
  unfold askOf
  show (match pairs l with
    | none => (s, [-1])
    | some a => if isAsk a = false then (s, [-1]) else ({ s with ask := a }, Rh12.ints [(wanted { s with ask := a }).length])) = _
  cases pairs l with
  | none => rfl
  | some a =>
    cases c : isAsk a <;> simp [c]
/- sentences -/
theorem sentences_ok : ∀ {l c : List Nat} {t : List (List Nat)}, (∀ w ∈ c, 1 ≤ w) → sentences c l = some t → (∀ x ∈ t, x ≠ [] ∧ ∀ w ∈ x, 1 ≤ w) ∧ t.length ≤ l.length ∧ t.flatten.length ≤ c.length + l.length
  | [], [], t, _, h => by cases h; exact ⟨by simp, Nat.le_refl _, Nat.le_refl _⟩
  | [], _ :: _, t, _, h => by cases h
  | x :: l, c, t, hc, h => by
    by_cases e : x = 0
    · subst e
      cases c with
      | nil => simp [sentences] at h
      | cons u c =>
        simp only [sentences, if_true] at h
        cases e : sentences [] l with
        | none => rw [e] at h; cases h
        | some r =>
          rw [e] at h
          cases h
          obtain ⟨h1, h2, h3⟩ := sentences_ok (by simp) e
          refine ⟨fun y hy => ?_, by simp; omega, by simp at h3 ⊢; omega⟩
          rcases List.mem_cons.mp hy with rfl | hy
          · exact ⟨by simp, hc⟩
          · exact h1 y hy
    · have h' : sentences (c ++ [x]) l = some t := by
        cases c <;> simpa [sentences, e] using h
      obtain ⟨h1, h2, h3⟩ := sentences_ok (fun w hw => by
        rcases List.mem_append.mp hw with m | m
        · exact hc w m
        · simp at m; omega) h'
      exact ⟨h1, by simp; omega, by simp at h3 ⊢; omega⟩
def smallT (t : List (List Nat)) : Bool := decide (t.length ≤ 20) && decide (t.flatten.length ≤ 60)
def textB (t : List (List Nat)) : Bool := smallT t && t.flatten.all fun w => decide (w ≤ 40)
theorem isText_of {t : List (List Nat)} (h : ∀ x ∈ t, x ≠ [] ∧ ∀ w ∈ x, 1 ≤ w) : isText t = textB t := by
  unfold isText textB smallT
  rw [Bool.and_assoc]
  congr 2
  rw [Bool.eq_iff_iff, List.all_eq_true, List.all_eq_true]
  constructor
  · intro g w hw
    obtain ⟨x, hx, hw⟩ := List.mem_flatten.mp hw
    have := g x hx
    rw [Bool.and_eq_true, List.all_eq_true] at this
    have := this.2 w hw
    simp at this
    exact decide_eq_true this.2
  · intro g x hx
    rw [Bool.and_eq_true, List.all_eq_true]
    refine ⟨?_, fun w hw => ?_⟩
    · have := (h x hx).1
      cases x with
      | nil => exact absurd rfl this
      | cons _ _ => rfl
    · rw [Bool.and_eq_true]
      exact ⟨decide_eq_true ((h x hx).2 w hw), g w (List.mem_flatten.mpr ⟨x, hx, hw⟩)⟩
theorem isText_words {t : List (List Nat)} (h : isText t = true) : (∀ x ∈ t, x ≠ [] ∧ ∀ w ∈ x, 1 ≤ w ∧ w ≤ 40) ∧ t.length ≤ 20 ∧ t.flatten.length ≤ 60 := by
  unfold isText at h
  simp only [Bool.and_eq_true, decide_eq_true_eq, List.all_eq_true] at h
  refine ⟨fun x hx => ?_, h.1, h.2.1⟩
  have := h.2.2 x hx
  refine ⟨?_, fun w hw => this.2 w hw⟩
  intro e
  rw [e] at this
  simp at this
theorem isText_app {t u : List (List Nat)} (h : isText t = true) (h' : isText u = true) : isText (t ++ u) = smallT (t ++ u) := by
  obtain ⟨h1, _, _⟩ := isText_words h
  obtain ⟨h2, _, _⟩ := isText_words h'
  have h3 : ∀ x ∈ t ++ u, x ≠ [] ∧ ∀ w ∈ x, 1 ≤ w ∧ w ≤ 40 := fun x hx => by
    rcases List.mem_append.mp hx with m | m
    · exact h1 x m
    · exact h2 x m
  rw [isText_of fun x hx => ⟨(h3 x hx).1, fun w hw => ((h3 x hx).2 w hw).1⟩]
  unfold textB
  have : ((t ++ u).flatten.all fun w => decide (w ≤ 40)) = true := by
    rw [List.all_eq_true]
    intro w hw
    obtain ⟨x, hx, hw⟩ := List.mem_flatten.mp hw
    exact decide_eq_true ((h3 x hx).2 w hw).2
  rw [this, Bool.and_true]
theorem firsts_app : ∀ (a b : List (List Nat)) (p : Nat), firsts p (a ++ b) = firsts p a ++ firsts (p + a.flatten.length) b
  | [], b, p => rfl
  | x :: a, b, p => by
    show p :: firsts (p + x.length) (a ++ b) = (p :: firsts (p + x.length) a) ++ _
    rw [firsts_app a b, List.cons_append, List.flatten_cons, List.length_append, Nat.add_assoc]
theorem lasts_app : ∀ (a b : List (List Nat)) (p : Nat), lasts p (a ++ b) = lasts p a ++ lasts (p + a.flatten.length) b
  | [], b, p => rfl
  | x :: a, b, p => by
    show (p + x.length - 1) :: lasts (p + x.length) (a ++ b) = (_ :: lasts (p + x.length) a) ++ _
    rw [lasts_app a b, List.cons_append, List.flatten_cons, List.length_append, Nat.add_assoc]
/- weights -/
theorem find_weight {s : St} {w : Nat} : weight s w = ((s.ask.find? fun x => x.1 == w).map fun x => x.2).getD 0 := by
  unfold weight
  cases s.ask.find? fun x => x.1 == w <;> rfl
theorem isAsk_pos {a : List (Nat × Nat)} (h : isAsk a = true) : ∀ x ∈ a, 1 ≤ x.1 ∧ x.1 ≤ 40 ∧ 1 ≤ x.2 ∧ x.2 ≤ 100 := by
  rw [isAsk_eq] at h
  simp only [Bool.and_eq_true, List.all_eq_true] at h
  intro x hx
  have := h.2.2 x hx
  unfold fitsAsk at this
  simp only [Bool.and_eq_true, decide_eq_true_eq] at this
  omega
theorem isAsk_nodup {a : List (Nat × Nat)} (h : isAsk a = true) : (a.map fun x => x.1).Nodup := by
  rw [isAsk_eq] at h
  simp only [Bool.and_eq_true] at h
  exact distinct_nodup.mp h.2.1
theorem isAsk_len {a : List (Nat × Nat)} (h : isAsk a = true) : a.length ≤ 6 := by
  rw [isAsk_eq] at h
  simp only [Bool.and_eq_true, decide_eq_true_eq] at h
  exact h.1
theorem weight_pos {s : St} (h : isAsk s.ask = true) {w : Nat} : decide (0 < weight s w) = (s.ask.find? fun x => x.1 == w).isSome := by
  unfold weight
  cases e : s.ask.find? fun x => x.1 == w with
  | none => rfl
  | some x => exact decide_eq_true (by have := isAsk_pos h x (List.mem_of_find?_eq_some e); show 0 < x.2; omega)
theorem weight_le {s : St} (h : isAsk s.ask = true) {w : Nat} : weight s w ≤ 100 := by
  unfold weight
  cases e : s.ask.find? fun x => x.1 == w with
  | none => exact Nat.zero_le _
  | some x => exact (isAsk_pos h x (List.mem_of_find?_eq_some e)).2.2.2
theorem find_at : ∀ {a : List (Nat × Nat)} {i : Nat} {x : Nat × Nat}, (a.map fun x => x.1).Nodup → a[i]? = some x → (a.find? fun y => y.1 == x.1) = some x
  | [], _, _, _, h => by simp at h
  | y :: a, 0, x, _, h => by simp at h; subst h; simp
  | y :: a, i + 1, x, n, h => by
    rw [List.map_cons, List.nodup_cons] at n
    rw [List.getElem?_cons_succ] at h
    have hm : x ∈ a := List.mem_of_getElem? h
    have ne : (y.1 == x.1) = false := by
      refine beq_eq_false_iff_ne.mpr fun e => n.1 ?_
      exact List.mem_map.mpr ⟨x, hm, e.symm⟩
    rw [List.find?_cons_of_neg (by simp [ne])]
    exact find_at n.2 h
theorem total_sum : ∀ l : List Nat, (Rh12.ints l).sum = ((total l : Nat) : Int)
  | [] => rfl
  | x :: l => by
    have := total_sum l
    show ((x :: l).map fun (n : Nat) => (n : Int)).sum = (((x + total l : Nat)) : Int)
    rw [List.map_cons, List.sum_cons]
    unfold Rh12.ints at this
    omega
theorem total_le {c : Nat} : ∀ {l : List Nat}, (∀ x ∈ l, x ≤ c) → total l ≤ c * l.length
  | [], _ => Nat.zero_le _
  | x :: l, h => by
    have h1 := total_le (l := l) fun y hy => h y (List.mem_cons_of_mem _ hy)
    have h2 := h x List.mem_cons_self
    show x + total l ≤ c * (l.length + 1)
    rw [Nat.mul_add]; omega
theorem part_len {s : St} {a b : Nat} (h1 : 1 ≤ a) (h2 : a ≤ b) (h3 : b ≤ (flat s).length) : (part s a b).length = b + 1 - a := by
  unfold part
  rw [List.length_drop, List.length_take]
  omega
theorem part_len_le {s : St} {a b : Nat} : (part s a b).length ≤ (flat s).length := by
  unfold part
  rw [List.length_drop, List.length_take]
  omega
theorem part_mem {s : St} {a b w : Nat} (h : w ∈ part s a b) : w ∈ flat s := List.mem_of_mem_take (List.mem_of_mem_drop h)
/- all passages, in turn -/
def fromJ (s : St) (p j : Nat) : List Passage := ((List.range j).map fun i => (p, p + i)).filter fun x => hit s x.1 x.2
theorem fromJ_zero (s : St) (p : Nat) : fromJ s p 0 = [] := rfl
theorem fromJ_succ (s : St) (p j : Nat) : fromJ s p (j + 1) = fromJ s p j ++ if hit s p (p + j) = true then [(p, p + j)] else [] := by
  unfold fromJ
  rw [List.range_succ, List.map_append, List.filter_append]
  congr 1
  cases e : hit s p (p + j) <;> simp [e]
theorem fromJ_len (s : St) (p j : Nat) : (fromJ s p j).length ≤ j := by
  have := List.length_filter_le (fun x : Passage => hit s x.1 x.2) ((List.range j).map fun i => (p, p + i))
  rw [List.length_map, List.length_range] at this
  exact this
theorem from_fromJ (s : St) (p : Nat) : from_ s p = fromJ s p (min s.wide ((flat s).length + 1 - p)) := by
  have key : ∀ w, ((List.range w).map fun i => (p, p + i)).filter (fun x => decide (x.2 ≤ (flat s).length) && hit s x.1 x.2) = fromJ s p (min w ((flat s).length + 1 - p)) := by
    intro w
    induction w with
    | zero => rw [Nat.zero_min]; rfl
    | succ w ih =>
      rw [List.range_succ, List.map_append, List.filter_append, ih]
      by_cases c : p + w ≤ (flat s).length
      · have e : min (w + 1) ((flat s).length + 1 - p) = min w ((flat s).length + 1 - p) + 1 := by omega
        have e2 : min w ((flat s).length + 1 - p) = w := by omega
        rw [e, fromJ_succ, e2]
        congr 1
        cases hh : hit s p (p + w) <;> simp [hh, c]
      · have e : min (w + 1) ((flat s).length + 1 - p) = min w ((flat s).length + 1 - p) := by omega
        rw [e]
        simp [c]
  exact key s.wide
def allN (s : St) (i : Nat) : List Passage := (List.range i).flatMap fun i => from_ s (i + 1)
theorem allN_succ (s : St) (i : Nat) : allN s (i + 1) = allN s i ++ from_ s (i + 1) := by
  unfold allN
  rw [List.range_succ, List.flatMap_append]
  simp
theorem allN_len (s : St) : ∀ i, (allN s i).length ≤ i * s.wide
  | 0 => by simp [allN]
  | i + 1 => by
    have h1 := allN_len s i
    have h2 := fromJ_len s (i + 1) (min s.wide ((flat s).length + 1 - (i + 1)))
    rw [allN_succ, List.length_append, from_fromJ, Nat.add_mul]
    omega
theorem all_allN (s : St) : Rh12.all s = allN s (flat s).length := rfl
theorem allN_mem {s : St} {i : Nat} {x : Passage} (h : x ∈ allN s i) : 1 ≤ x.1 ∧ x.1 ≤ i ∧ x.1 ≤ x.2 ∧ x.2 ≤ (flat s).length ∧ hit s x.1 x.2 = true := by
  unfold allN at h
  obtain ⟨j, hj, hx⟩ := List.mem_flatMap.mp h
  obtain ⟨h1, h2, h3, h4⟩ := from_mem s hx
  have := List.mem_range.mp hj
  exact ⟨by omega, by omega, by omega, h3, h4⟩
/- singles -/
def before (x y : Passage) : Prop := x.1 < y.1 ∨ (x.1 = y.1 ∧ x.2 < y.2)
theorem allN_sorted (s : St) : ∀ i, (allN s i).Pairwise before
  | 0 => by simp [allN]
  | i + 1 => by
    rw [allN_succ, List.pairwise_append]
    refine ⟨allN_sorted s i, (from_sorted s (p := i + 1)).imp_of_mem fun {x y} hx hy h => Or.inr ⟨by rw [(from_mem s hx).1, (from_mem s hy).1], h⟩, fun x hx y hy => Or.inl ?_⟩
    have := (allN_mem hx).2.1
    have := (from_mem s hy).1
    omega
/-- ahead of it in the list of singles -/
def ahead1 (s : St) (x y : Passage) : Prop := worth s y.1 y.2 < worth s x.1 x.2 ∨ (worth s x.1 x.2 = worth s y.1 y.2 ∧ before x y)
theorem put_perm (s : St) (x : Passage) : ∀ l, (put s x l).Perm (x :: l)
  | [] => List.Perm.refl _
  | y :: l => by
    unfold put
    split
    · exact List.Perm.refl _
    · exact ((put_perm s x l).cons y).trans (List.Perm.swap x y l)
theorem put_sorted {s : St} {x : Passage} : ∀ {l : List Passage}, l.Pairwise (ahead1 s) → (∀ y ∈ l, before y x) → (put s x l).Pairwise (ahead1 s)
  | [], _, _ => by simp [put]
  | y :: l, h, hb => by
    unfold put
    rw [List.pairwise_cons] at h
    split
    · rename_i c
      rw [List.pairwise_cons, List.pairwise_cons]
      refine ⟨fun z hz => ?_, h.1, h.2⟩
      rcases List.mem_cons.mp hz with rfl | hz
      · exact Or.inl c
      · have := h.1 z hz
        unfold ahead1 at this
        exact Or.inl (by omega)
    · rename_i c
      rw [List.pairwise_cons]
      refine ⟨fun z hz => ?_, put_sorted h.2 fun z hz => hb z (List.mem_cons_of_mem _ hz)⟩
      rcases List.mem_cons.mp ((put_perm s x l).mem_iff.mp hz) with rfl | hz
      · have := hb y List.mem_cons_self
        unfold ahead1
        by_cases e : worth s y.1 y.2 = worth s z.1 z.2
        · exact Or.inr ⟨e, this⟩
        · exact Or.inl (by omega)
      · exact h.1 z hz
theorem fold_put {s : St} : ∀ (l acc : List Passage), acc.Pairwise (ahead1 s) → l.Pairwise before → (∀ y ∈ acc, ∀ x ∈ l, before y x) → (l.foldl (fun l x => put s x l) acc).Pairwise (ahead1 s) ∧ (l.foldl (fun l x => put s x l) acc).Perm (acc ++ l)
  | [], acc, h, _, _ => by simpa using h
  | x :: l, acc, h, hl, hb => by
    rw [List.pairwise_cons] at hl
    have hp := put_perm s x acc
    obtain ⟨h1, h2⟩ := fold_put l (put s x acc) (put_sorted h fun y hy => hb y hy x List.mem_cons_self) hl.2 fun y hy z hz => by
      rcases List.mem_cons.mp (hp.mem_iff.mp hy) with rfl | hy
      · exact hl.1 z hz
      · exact hb y hy z (List.mem_cons_of_mem _ hz)
    refine ⟨h1, h2.trans ?_⟩
    refine (hp.append_right l).trans ?_
    exact (List.perm_middle (a := x) (l₁ := acc) (l₂ := l)).symm
theorem perm_sorted_eq {α : Type} {R : α → α → Prop} (asym : ∀ x y, R x y → ¬ R y x) : ∀ {l m : List α}, l.Pairwise R → m.Pairwise R → l.Perm m → l = m
  | [], m, _, _, p => p.nil_eq
  | x :: l, [], _, _, p => (by simpa using p.length_eq)
  | x :: l, y :: m, h1, h2, p => by
    rw [List.pairwise_cons] at h1 h2
    have e : x = y := by
      rcases List.mem_cons.mp (p.mem_iff.mp (List.mem_cons_self (a := x) (l := l))) with e | hx
      · exact e
      · rcases List.mem_cons.mp (p.symm.mem_iff.mp (List.mem_cons_self (a := y) (l := m))) with e | hy
        · exact e.symm
        · exact absurd (h1.1 y hy) (asym _ _ (h2.1 x hx))
    subst e
    rw [perm_sorted_eq asym h1.2 h2.2 (List.Perm.cons_inv p)]
theorem ahead1_asym {s : St} (x y : Passage) (h : ahead1 s x y) : ¬ ahead1 s y x := by
  unfold ahead1 before at *
  omega
theorem singles_is {s : St} {ys : List Passage} {n : Nat} (h1 : ys.Pairwise (ahead1 s)) (h2 : ys.Perm (Rh12.all s)) : ys.take n = Rh12.singles s n := by
  obtain ⟨h3, h4⟩ := fold_put (s := s) (Rh12.all s) [] List.Pairwise.nil (by rw [all_allN]; exact allN_sorted s _) (by simp)
  have : ys = (Rh12.all s).foldl (fun l x => put s x l) [] := perm_sorted_eq ahead1_asym h1 h3 (h2.trans (by simpa using h4.symm))
  rw [this]
  rfl
theorem all_nodup (s : St) : (Rh12.all s).Nodup := by
  rw [all_allN]
  exact (allN_sorted s _).imp fun {x y} h e => by subst e; unfold before at h; omega
/- shown -/
theorem shown_snoc (s : St) (x : Passage) : ∀ l : List Passage, shown s (l ++ [x]) = (if l = [] then [] else shown s l ++ [1]) ++ shownPart s x
  | [] => by simp [shown]
  | [y] => by simp [shown]
  | y :: z :: l => by
    have := shown_snoc s x (z :: l)
    show shownPart s y ++ 1 :: shown s (z :: l ++ [x]) = _
    rw [this]
    simp [shown]
theorem shownPart_len {s : St} {x : Passage} : (shownPart s x).length ≤ (flat s).length + 2 := by
  have h := part_len_le (s := s) (a := x.1) (b := x.2)
  unfold shownPart
  rw [List.length_append, List.length_append, List.length_map]
  split <;> split <;> simp <;> omega
theorem shown_len {s : St} : ∀ l : List Passage, (shown s l).length ≤ l.length * ((flat s).length + 3)
  | [] => by simp [shown]
  | [x] => by
    have := shownPart_len (s := s) (x := x)
    show (shownPart s x).length ≤ _
    simp; omega
  | x :: y :: l => by
    have h1 := shownPart_len (s := s) (x := x)
    have h2 := shown_len (s := s) (y :: l)
    show (shownPart s x ++ 1 :: shown s (y :: l)).length ≤ _
    rw [List.length_append, List.length_cons, List.length_cons, Nat.add_mul]
    omega
theorem hid_words {s : St} {w : Nat} (l : List Passage) : (l.flatMap fun x => part s x.1 x.2).contains w = !(l.all fun x => !(part s x.1 x.2).contains w) := by
  rw [Bool.eq_iff_iff, List.contains_iff_mem, List.mem_flatMap, Bool.not_eq_true', List.all_eq_false]
  simp
end TpM

/-! plain facts: one call after the other -/
namespace TpM
open Rh12
abbrev W32 : Nat := 4294967295
inductive IsCall : Nat → List Nat → List Nat → Rh12.Call → Prop
  | text (l : List Nat) : l.length ≤ 100 → IsCall 0 [] l (.text l)
  | more (l : List Nat) : l.length ≤ 100 → IsCall 1 [] l (.more l)
  | ask (l : List Nat) : l.length ≤ 20 → IsCall 2 [] l (.ask l)
  | tune (a b c d e : Nat) : IsCall 3 [a, b, c, d, e] [] (.tune a b c d e)
  | frame (w g : Nat) : IsCall 4 [w, g] [] (.frame w g)
  | worth (a b : Nat) : IsCall 5 [a, b] [] (.worth a b)
  | best (k : Nat) : IsCall 6 [k] [] (.best k)
  | singles (n : Nat) : n ≤ W32 → IsCall 7 [n] [] (.singles n)
  | narrow : IsCall 8 [] [] .narrow
  | fewest : IsCall 9 [] [] .fewest
  | show_ (k : Nat) : IsCall 10 [k] [] (.show_ k)
  | hidden (k : Nat) : IsCall 11 [k] [] (.hidden k)
def manyOf (p : Nat) : Nat := [0, 0, 0, 5, 2, 2, 1, 1, 0, 0, 1, 1].getD p 0
def tail_ (p : Nat) (own some : List Nat) : List Int := Rh12.ints own ++ (if p < 3 then ((some.length : Nat) : Int) :: Rh12.ints some else [])
theorem shape_cases {p : Int} {n k : Nat} (h : PyRh12.shape p = some (n, k)) : (p = 0 ∧ n = 0 ∧ k = 1) ∨ (p = 1 ∧ n = 0 ∧ k = 1) ∨ (p = 2 ∧ n = 0 ∧ k = 1) ∨ (p = 3 ∧ n = 5 ∧ k = 0) ∨ (p = 4 ∧ n = 2 ∧ k = 0) ∨ (p = 5 ∧ n = 2 ∧ k = 0) ∨ (p = 6 ∧ n = 1 ∧ k = 0) ∨ (p = 7 ∧ n = 1 ∧ k = 0) ∨ (p = 8 ∧ n = 0 ∧ k = 0) ∨ (p = 9 ∧ n = 0 ∧ k = 0) ∨ (p = 10 ∧ n = 1 ∧ k = 0) ∨ (p = 11 ∧ n = 1 ∧ k = 0) := by
  unfold PyRh12.shape at h
  by_cases e : p = 0
  · rw [if_pos e] at h
    cases h
    exact Or.inl ⟨e, rfl, rfl⟩
  rw [if_neg e] at h
  clear e
  by_cases e : p = 1
  · rw [if_pos e] at h
    cases h
    exact Or.inr (Or.inl ⟨e, rfl, rfl⟩)
  rw [if_neg e] at h
  clear e
  by_cases e : p = 2
  · rw [if_pos e] at h
    cases h
    exact Or.inr (Or.inr (Or.inl ⟨e, rfl, rfl⟩))
  rw [if_neg e] at h
  clear e
  by_cases e : p = 3
  · rw [if_pos e] at h
    cases h
    exact Or.inr (Or.inr (Or.inr (Or.inl ⟨e, rfl, rfl⟩)))
  rw [if_neg e] at h
  clear e
  by_cases e : p = 4
  · rw [if_pos e] at h
    cases h
    exact Or.inr (Or.inr (Or.inr (Or.inr (Or.inl ⟨e, rfl, rfl⟩))))
  rw [if_neg e] at h
  clear e
  by_cases e : p = 5
  · rw [if_pos e] at h
    cases h
    exact Or.inr (Or.inr (Or.inr (Or.inr (Or.inr (Or.inl ⟨e, rfl, rfl⟩)))))
  rw [if_neg e] at h
  clear e
  by_cases e : p = 6
  · rw [if_pos e] at h
    cases h
    exact Or.inr (Or.inr (Or.inr (Or.inr (Or.inr (Or.inr (Or.inl ⟨e, rfl, rfl⟩))))))
  rw [if_neg e] at h
  clear e
  by_cases e : p = 7
  · rw [if_pos e] at h
    cases h
    exact Or.inr (Or.inr (Or.inr (Or.inr (Or.inr (Or.inr (Or.inr (Or.inl ⟨e, rfl, rfl⟩)))))))
  rw [if_neg e] at h
  clear e
  by_cases e : p = 8
  · rw [if_pos e] at h
    cases h
    exact Or.inr (Or.inr (Or.inr (Or.inr (Or.inr (Or.inr (Or.inr (Or.inr (Or.inl ⟨e, rfl, rfl⟩))))))))
  rw [if_neg e] at h
  clear e
  by_cases e : p = 9
  · rw [if_pos e] at h
    cases h
    exact Or.inr (Or.inr (Or.inr (Or.inr (Or.inr (Or.inr (Or.inr (Or.inr (Or.inr (Or.inl ⟨e, rfl, rfl⟩)))))))))
  rw [if_neg e] at h
  clear e
  by_cases e : p = 10
  · rw [if_pos e] at h
    cases h
    exact Or.inr (Or.inr (Or.inr (Or.inr (Or.inr (Or.inr (Or.inr (Or.inr (Or.inr (Or.inr (Or.inl ⟨e, rfl, rfl⟩))))))))))
  rw [if_neg e] at h
  clear e
  by_cases e : p = 11
  · rw [if_pos e] at h
    cases h
    exact Or.inr (Or.inr (Or.inr (Or.inr (Or.inr (Or.inr (Or.inr (Or.inr (Or.inr (Or.inr (Or.inr (⟨e, rfl, rfl⟩)))))))))))
  rw [if_neg e] at h
  clear e
  cases h
theorem toNat_ints {x : List Int} (h : ∀ z ∈ x, 0 ≤ z) : Rh12.ints (x.map Int.toNat) = x := by
  unfold Rh12.ints
  rw [List.map_map]
  conv => rhs; rw [← List.map_id x]
  exact List.map_congr_left fun z hz => by
    have := h z hz
    simp; omega
theorem ints_toNat (x : List Nat) : (Rh12.ints x).map Int.toNat = x := by
  unfold Rh12.ints
  rw [List.map_map]
  conv => rhs; rw [← List.map_id x]
  exact List.map_congr_left fun z hz => by simp
theorem callOf_ints {x : List Nat} (h : ∀ z ∈ x, z ≤ W32) : Rh12Neutral.callOf (Rh12.ints x) = Rh12Neutral.callIn x := by
  unfold Rh12Neutral.callOf
  have : ((Rh12.ints x).all Rh12Neutral.nat) = true := by
    rw [List.all_eq_true]
    intro z hz
    obtain ⟨n, hn, rfl⟩ := List.mem_map.mp hz
    have := h n hn
    unfold Rh12Neutral.nat
    simp
    unfold W32 at this
    omega
  rw [this, ints_toNat]
  rfl
theorem step_of {s : St} {x : List Nat} {c : Rh12.Call} (h : ∀ z ∈ x, z ≤ W32) (e : Rh12Neutral.callIn x = some c) : Rh12Neutral.step s (Rh12.ints x) = Rh12.step s c := by
  unfold Rh12Neutral.step
  rw [callOf_ints h, e]
theorem within_nat {z : Int} (h : PyInside.within 0 4294967295 z = true) : ∃ n : Nat, z = (n : Int) ∧ n ≤ W32 := by
  unfold PyInside.within at h
  simp only [Bool.and_eq_true, decide_eq_true_eq] at h
  exact ⟨z.toNat, by omega, by unfold W32; omega⟩
theorem within_all {x : List Int} (h : x.all (PyInside.within 0 4294967295) = true) : ∃ l : List Nat, x = Rh12.ints l ∧ ∀ z ∈ l, z ≤ W32 := by
  rw [List.all_eq_true] at h
  refine ⟨x.map Int.toNat, (toNat_ints fun z hz => ?_).symm, fun z hz => ?_⟩
  · obtain ⟨n, e, _⟩ := within_nat (h z hz)
    omega
  · obtain ⟨y, hy, rfl⟩ := List.mem_map.mp hz
    obtain ⟨n, e, hn⟩ := within_nat (h y hy)
    rw [e]
    simpa using hn
structure Parse (l : List Int) (cs : List (List (List Int))) (p : Nat) (own some : List Nat) (c : Rh12.Call) (rest : List Int) (cs' : List (List (List Int))) : Prop where
  split : l = (p : Int) :: (tail_ p own some ++ rest)
  small : p < 12
  len : own.length = manyOf p
  call : IsCall p own some c
  more : ∃ f, PyFlat.calls PyRh12.shape f rest = Option.some cs'
  played : ∀ s, PyFlat.played (fun s c => Rh12Neutral.step s (c.headD [])) s (cs.map PyRh12.whole) = (Rh12.step s c).2 :: PyFlat.played (fun s c => Rh12Neutral.step s (c.headD [])) (Rh12.step s c).1 (cs'.map PyRh12.whole)
  inside : PyInside.calls PyRh12.bound cs' = true
theorem row_some {r x t : List Int} (h : PyFlat.row r = some (x, t)) : ∃ m r', r = m :: r' ∧ 0 ≤ m ∧ x.length = m.toNat ∧ r' = x ++ t := by
  unfold PyFlat.row at h
  cases r with
  | nil => cases h
  | cons m r' =>
    simp only at h
    by_cases c : 0 ≤ m ∧ m.toNat ≤ r'.length
    · rw [if_pos c] at h
      cases h
      exact ⟨m, r', rfl, c.1, by rw [List.length_take]; omega, (List.take_append_drop _ _).symm⟩
    · rw [if_neg c] at h; cases h
theorem rows_zero {r : List Int} {xs : List (List Int)} {t : List Int} (h : PyFlat.rows 0 r = some (xs, t)) : xs = [] ∧ t = r := by
  cases h; exact ⟨rfl, rfl⟩
theorem rows_one {r : List Int} {xs : List (List Int)} {t : List Int} (h : PyFlat.rows 1 r = some (xs, t)) : ∃ x, PyFlat.row r = some (x, t) ∧ xs = [x] := by
  unfold PyFlat.rows at h
  cases e : PyFlat.row r with
  | none => rw [e] at h; cases h
  | some y =>
    rw [e] at h
    obtain ⟨x, s⟩ := y
    cases h
    exact ⟨x, rfl, rfl⟩
theorem calls_cons {f : Nat} {p : Int} {r : List Int} {cs : List (List (List Int))} (h : PyFlat.calls PyRh12.shape f (p :: r) = some cs) : ∃ f' n k xs t cs', PyRh12.shape p = some (n, k) ∧ n ≤ r.length ∧ PyFlat.rows k (r.drop n) = some (xs, t) ∧ cs = ((p :: r.take n) :: xs) :: cs' ∧ PyFlat.calls PyRh12.shape f' t = some cs' := by
  cases f with
  | zero => cases h
  | succ f =>
    unfold PyFlat.calls PyFlat.call at h
    cases e : PyRh12.shape p with
    | none => simp only [e] at h; cases h
    | some nk =>
      obtain ⟨n, k⟩ := nk
      simp only [e] at h
      by_cases c : r.length < n
      · simp only [if_pos c] at h; cases h
      · simp only [if_neg c] at h
        cases e2 : PyFlat.rows k (r.drop n) with
        | none => simp only [e2] at h; cases h
        | some y =>
          obtain ⟨xs, t⟩ := y
          simp only [e2] at h
          cases e3 : PyFlat.calls PyRh12.shape f t with
          | none => simp only [e3] at h; cases h
          | some cs' =>
            simp only [e3] at h
            cases h
            exact ⟨f, n, k, xs, t, cs', rfl, by omega, e2, rfl, e3⟩
theorem played_cons {s : St} {c0 : List (List Int)} {cs' : List (List (List Int))} {c : Rh12.Call} (h : ∀ s, Rh12Neutral.step s ((PyRh12.whole c0).headD []) = Rh12.step s c) : PyFlat.played (fun s c => Rh12Neutral.step s (c.headD [])) s ((c0 :: cs').map PyRh12.whole) = (Rh12.step s c).2 :: PyFlat.played (fun s c => Rh12Neutral.step s (c.headD [])) (Rh12.step s c).1 (cs'.map PyRh12.whole) := by
  rw [List.map_cons]
  show (Rh12Neutral.step s ((PyRh12.whole c0).headD [])).2 :: PyFlat.played _ (Rh12Neutral.step s ((PyRh12.whole c0).headD [])).1 _ = _
  rw [h s]
theorem parse {f : Nat} {l : List Int} {cs : List (List (List Int))} (h : PyFlat.calls PyRh12.shape f l = some cs) (hb : PyInside.calls PyRh12.bound cs = true) (hl : l ≠ []) : ∃ p own sm c rest cs', Parse l cs p own sm c rest cs' := by
  cases l with
  | nil => exact absurd rfl hl
  | cons p r =>
    obtain ⟨f', n, k, xs, t, cs', h1, h2, h3, rfl, h5⟩ := calls_cons h
    unfold PyInside.calls at hb
    rw [List.all_cons, Bool.and_eq_true] at hb
    obtain ⟨hb1, hb2⟩ := hb
    have two : ∀ {a b : Bool}, (a && b) = true → a = true ∧ b = true := fun h => by simpa using h
    have one : ∀ {P : Int} {q : Nat} {mx : Nat}, P = (q : Int) → q < 3 → PyRh12.shape P = some (0, 1) → n = 0 → k = 1 → PyRh12.bound P = ([], [(0, 4294967295, 0, mx)]) → p = P →
        ∃ l : List Nat, r = ((l.length : Nat) : Int) :: (Rh12.ints l ++ t) ∧ xs = [Rh12.ints l] ∧ (∀ z ∈ l, z ≤ W32) ∧ l.length ≤ mx := by
      intro P q mx eP hq hs hn hk hbd hp
      subst hn hk hp
      obtain ⟨x, hx, rfl⟩ := rows_one h3
      obtain ⟨m, r', e1, e2, e3, e4⟩ := row_some hx
      unfold PyInside.call at hb1
      simp only [hbd, PyInside.lists] at hb1
      simp only [Bool.and_eq_true, decide_eq_true_eq] at hb1
      obtain ⟨l, rfl, hl⟩ := within_all hb1.2.1.2
      rw [List.drop_zero] at e1
      have e5 : (Rh12.ints l).length = l.length := by unfold Rh12.ints; rw [List.length_map]
      refine ⟨l, ?_, rfl, hl, by rw [← e5]; exact hb1.2.1.1.2⟩
      rw [e1, e4]
      congr 1
      omega
    have zero : k = 0 → xs = [] ∧ t = r.drop n := fun hk => by subst hk; exact rows_zero h3
    have own : ∀ {m : Nat}, n = m → r.length ≥ m → (PyRh12.bound p).1 = List.replicate m (0, 4294967295) → ∃ o : List Nat, r.take n = Rh12.ints o ∧ o.length = m ∧ ∀ z ∈ o, z ≤ W32 := by
      intro m hn hr hbd
      subst hn
      unfold PyInside.call at hb1
      simp only [hbd, Bool.and_eq_true] at hb1
      have key : ∀ (n : Nat) (y : List Int), y.length = n → PyInside.each (List.replicate n (0, 4294967295)) y = true → y.all (PyInside.within 0 4294967295) = true := by
        intro n
        induction n with
        | zero => intro y hy _; rw [List.length_eq_zero_iff.mp hy]; rfl
        | succ n ih =>
          intro y hy hh
          cases y with
          | nil => rfl
          | cons z y =>
            rw [List.replicate_succ] at hh
            unfold PyInside.each at hh
            rw [Bool.and_eq_true] at hh
            rw [List.all_cons, Bool.and_eq_true]
            exact ⟨hh.1, ih y (by simpa using hy) hh.2⟩
      have hlen : (r.take n).length = n := by rw [List.length_take]; omega
      obtain ⟨o, e, ho⟩ := within_all (key n (r.take n) hlen hb1.1)
      refine ⟨o, e, ?_, ho⟩
      rw [e] at hlen
      unfold Rh12.ints at hlen
      rwa [List.length_map] at hlen
    rcases shape_cases h1 with ⟨hp, hn, hk⟩ | ⟨hp, hn, hk⟩ | ⟨hp, hn, hk⟩ | ⟨hp, hn, hk⟩ | ⟨hp, hn, hk⟩ | ⟨hp, hn, hk⟩ | ⟨hp, hn, hk⟩ | ⟨hp, hn, hk⟩ | ⟨hp, hn, hk⟩ | ⟨hp, hn, hk⟩ | ⟨hp, hn, hk⟩ | ⟨hp, hn, hk⟩
    · obtain ⟨l, e1, e2, e3, e4⟩ := one (P := 0) (q := 0) (mx := 100) rfl (by decide) rfl hn hk rfl hp
      subst hp hn e1 e2
      exact ⟨0, [], l, .text l, t, cs', rfl, by decide, rfl, .text l e4, ⟨f', h5⟩, fun s => played_cons (c0 := [[0], Rh12.ints l]) fun s => step_of (x := 0 :: l) (fun z hz => by
        rcases List.mem_cons.mp hz with rfl | hz
        · decide
        · exact e3 z hz) rfl, hb2⟩
    · obtain ⟨l, e1, e2, e3, e4⟩ := one (P := 1) (q := 1) (mx := 100) rfl (by decide) rfl hn hk rfl hp
      subst hp hn e1 e2
      exact ⟨1, [], l, .more l, t, cs', rfl, by decide, rfl, .more l e4, ⟨f', h5⟩, fun s => played_cons (c0 := [[1], Rh12.ints l]) fun s => step_of (x := 1 :: l) (fun z hz => by
        rcases List.mem_cons.mp hz with rfl | hz
        · decide
        · exact e3 z hz) rfl, hb2⟩
    · obtain ⟨l, e1, e2, e3, e4⟩ := one (P := 2) (q := 2) (mx := 20) rfl (by decide) rfl hn hk rfl hp
      subst hp hn e1 e2
      exact ⟨2, [], l, .ask l, t, cs', rfl, by decide, rfl, .ask l e4, ⟨f', h5⟩, fun s => played_cons (c0 := [[2], Rh12.ints l]) fun s => step_of (x := 2 :: l) (fun z hz => by
        rcases List.mem_cons.mp hz with rfl | hz
        · decide
        · exact e3 z hz) rfl, hb2⟩
    all_goals obtain ⟨ex, et⟩ := zero hk
    · obtain ⟨o, e1, e2, e3⟩ := own (m := 5) hn (by omega) (by rw [hp]; rfl)
      subst hp hk ex et hn
      match o, e2, e3, e1 with
      | [a, b, c, d, e], _, e3, e1 =>
        have er : r = Rh12.ints [a, b, c, d, e] ++ r.drop 5 := by rw [← e1]; exact (List.take_append_drop 5 r).symm
        refine ⟨3, [a, b, c, d, e], [], .tune a b c d e, r.drop 5, cs', ?_, by decide, rfl, .tune a b c d e, ⟨f', h5⟩, fun s => ?_, hb2⟩
        · conv => lhs; rw [er]
          rfl
        · rw [e1]
          exact played_cons (c0 := [3 :: Rh12.ints [a, b, c, d, e]]) fun s => step_of (x := 3 :: [a, b, c, d, e]) (fun z hz => by
            rcases List.mem_cons.mp hz with rfl | hz
            · decide
            · exact e3 z hz) rfl
    · obtain ⟨o, e1, e2, e3⟩ := own (m := 2) hn (by omega) (by rw [hp]; rfl)
      subst hp hk ex et hn
      match o, e2, e3, e1 with
      | [a, b], _, e3, e1 =>
        have er : r = Rh12.ints [a, b] ++ r.drop 2 := by rw [← e1]; exact (List.take_append_drop 2 r).symm
        refine ⟨4, [a, b], [], .frame a b, r.drop 2, cs', ?_, by decide, rfl, .frame a b, ⟨f', h5⟩, fun s => ?_, hb2⟩
        · conv => lhs; rw [er]
          rfl
        · rw [e1]
          exact played_cons (c0 := [4 :: Rh12.ints [a, b]]) fun s => step_of (x := 4 :: [a, b]) (fun z hz => by
            rcases List.mem_cons.mp hz with rfl | hz
            · decide
            · exact e3 z hz) rfl
    · obtain ⟨o, e1, e2, e3⟩ := own (m := 2) hn (by omega) (by rw [hp]; rfl)
      subst hp hk ex et hn
      match o, e2, e3, e1 with
      | [a, b], _, e3, e1 =>
        have er : r = Rh12.ints [a, b] ++ r.drop 2 := by rw [← e1]; exact (List.take_append_drop 2 r).symm
        refine ⟨5, [a, b], [], .worth a b, r.drop 2, cs', ?_, by decide, rfl, .worth a b, ⟨f', h5⟩, fun s => ?_, hb2⟩
        · conv => lhs; rw [er]
          rfl
        · rw [e1]
          exact played_cons (c0 := [5 :: Rh12.ints [a, b]]) fun s => step_of (x := 5 :: [a, b]) (fun z hz => by
            rcases List.mem_cons.mp hz with rfl | hz
            · decide
            · exact e3 z hz) rfl
    · obtain ⟨o, e1, e2, e3⟩ := own (m := 1) hn (by omega) (by rw [hp]; rfl)
      subst hp hk ex et hn
      match o, e2, e3, e1 with
      | [a], _, e3, e1 =>
        have er : r = Rh12.ints [a] ++ r.drop 1 := by rw [← e1]; exact (List.take_append_drop 1 r).symm
        refine ⟨6, [a], [], .best a, r.drop 1, cs', ?_, by decide, rfl, .best a, ⟨f', h5⟩, fun s => ?_, hb2⟩
        · conv => lhs; rw [er]
          rfl
        · rw [e1]
          exact played_cons (c0 := [6 :: Rh12.ints [a]]) fun s => step_of (x := 6 :: [a]) (fun z hz => by
            rcases List.mem_cons.mp hz with rfl | hz
            · decide
            · exact e3 z hz) rfl
    · obtain ⟨o, e1, e2, e3⟩ := own (m := 1) hn (by omega) (by rw [hp]; rfl)
      subst hp hk ex et hn
      match o, e2, e3, e1 with
      | [a], _, e3, e1 =>
        have er : r = Rh12.ints [a] ++ r.drop 1 := by rw [← e1]; exact (List.take_append_drop 1 r).symm
        refine ⟨7, [a], [], .singles a, r.drop 1, cs', ?_, by decide, rfl, .singles a (e3 a (by simp)), ⟨f', h5⟩, fun s => ?_, hb2⟩
        · conv => lhs; rw [er]
          rfl
        · rw [e1]
          exact played_cons (c0 := [7 :: Rh12.ints [a]]) fun s => step_of (x := 7 :: [a]) (fun z hz => by
            rcases List.mem_cons.mp hz with rfl | hz
            · decide
            · exact e3 z hz) rfl
    · subst hp hk ex et hn
      exact ⟨8, [], [], .narrow, r, cs', rfl, by decide, rfl, .narrow, ⟨f', h5⟩, fun s => played_cons (c0 := [[8]]) fun s => step_of (x := [8]) (by simp; decide) rfl, hb2⟩
    · subst hp hk ex et hn
      exact ⟨9, [], [], .fewest, r, cs', rfl, by decide, rfl, .fewest, ⟨f', h5⟩, fun s => played_cons (c0 := [[9]]) fun s => step_of (x := [9]) (by simp; decide) rfl, hb2⟩
    · obtain ⟨o, e1, e2, e3⟩ := own (m := 1) hn (by omega) (by rw [hp]; rfl)
      subst hp hk ex et hn
      match o, e2, e3, e1 with
      | [a], _, e3, e1 =>
        have er : r = Rh12.ints [a] ++ r.drop 1 := by rw [← e1]; exact (List.take_append_drop 1 r).symm
        refine ⟨10, [a], [], .show_ a, r.drop 1, cs', ?_, by decide, rfl, .show_ a, ⟨f', h5⟩, fun s => ?_, hb2⟩
        · conv => lhs; rw [er]
          rfl
        · rw [e1]
          exact played_cons (c0 := [10 :: Rh12.ints [a]]) fun s => step_of (x := 10 :: [a]) (fun z hz => by
            rcases List.mem_cons.mp hz with rfl | hz
            · decide
            · exact e3 z hz) rfl
    · obtain ⟨o, e1, e2, e3⟩ := own (m := 1) hn (by omega) (by rw [hp]; rfl)
      subst hp hk ex et hn
      match o, e2, e3, e1 with
      | [a], _, e3, e1 =>
        have er : r = Rh12.ints [a] ++ r.drop 1 := by rw [← e1]; exact (List.take_append_drop 1 r).symm
        refine ⟨11, [a], [], .hidden a, r.drop 1, cs', ?_, by decide, rfl, .hidden a, ⟨f', h5⟩, fun s => ?_, hb2⟩
        · conv => lhs; rw [er]
          rfl
        · rw [e1]
          exact played_cons (c0 := [11 :: Rh12.ints [a]]) fun s => step_of (x := 11 :: [a]) (fun z hz => by
            rcases List.mem_cons.mp hz with rfl | hz
            · decide
            · exact e3 z hz) rfl
end TpM

namespace TpM
open Rh12
theorem betterS_len {c d : Sel} {j : Nat} (hc : c.2.length ≤ j) (hd : d.2.length ≤ j) : (betterS c d).2.length ≤ j := by
  unfold betterS
  split
  · exact hd
  · exact hc
theorem getD_len {Rb : List Sel} {j i : Nat} (h : ∀ c ∈ Rb, c.2.length ≤ j) : (Rb.getD i sel0).2.length ≤ j := by
  rw [List.getD_eq_getElem?_getD]
  cases e : Rb[i]? with
  | none => exact Nat.zero_le _
  | some c => exact h c (List.mem_of_getElem? e)
theorem fold_len {Rb : List Sel} {j n gap : Nat} (h : ∀ c ∈ Rb, c.2.length ≤ j) : ∀ (l : List Trip) (c : Sel), c.2.length ≤ j + 1 → (l.foldl (fun c t => betterS c (aheadT t (Rb.getD (min (t.2.1 + gap + 1) (n + 1)) sel0))) c).2.length ≤ j + 1
  | [], c, hc => hc
  | t :: l, c, hc => by
    refine fold_len h l _ (betterS_len hc ?_)
    have := getD_len (i := min (t.2.1 + gap + 1) (n + 1)) h
    show _ + 1 ≤ j + 1
    omega
theorem rowF_len {L : List (List Trip)} {n gap j : Nat} {Rb : List Sel} (h : ∀ c ∈ Rb, c.2.length ≤ j) : ∀ m, (rowF L n gap Rb m).2.length ≤ j + 1
  | 0 => Nat.zero_le _
  | m + 1 => fold_len h _ _ (rowF_len h m)
theorem rowAt_chosen {L : List (List Trip)} {n gap j i : Nat} {Rb : List Sel} (h : ∀ c ∈ Rb, c.2.length ≤ j) : ∀ c ∈ rowAt L n gap Rb i, c.2.length ≤ j + 1 := by
  intro c hc
  unfold rowAt at hc
  obtain ⟨p, _, rfl⟩ := List.mem_map.mp hc
  split
  · exact rowF_len h _
  · exact Nat.zero_le _
theorem rowK_chosen {L : List (List Trip)} {n gap : Nat} : ∀ (j : Nat), ∀ c ∈ rowK L n gap j, c.2.length ≤ j
  | 0 => by
    intro c hc
    unfold rowK at hc
    rw [(List.mem_replicate.mp hc).2]
    exact Nat.le_refl _
  | j + 1 => fun c hc => rowAt_chosen (rowK_chosen j) c hc
theorem fold_take {α : Type} {l : List Trip} {i : Nat} {t : Trip} (f : α → Trip → α) (c : α) (h : l[i]? = some t) : (l.take (i + 1)).foldl f c = f ((l.take i).foldl f c) t := by
  rw [List.take_add_one, h, List.foldl_append]
  rfl
end TpM

/-! rules of my own: a chain of three comparisons, an attribute as a target, extend by a tuple, < of data, sorted of triples -/
namespace TpS
open PySem PySem.SeqAt
open PySem.AutoSeq1 (wpAny_loadPart' idx_int sub_tuple_tuple sub_list_list sub_tuple_list sub_list_tuple)
theorem list_extend_tup (l : Addr) (items : Array Value) (n : Nat) (b : Addr) (items2 : Array Value) (n2 : Nat) (dd : Option Addr) (sl : Array (Option Value)) (hs0 : ¬(!items.isEmpty && Builtin.List.listTooLong (items.size + items2.size)) = true) (hs1 : items.size ≤ sizeLine) (hs2 : items.size + items2.size ≤ sizeLine + 1) :
    Meets (Builtin.«list.extend» ⟨[.ref l, .ref b], []⟩) (fun _ R s => s.heap.get? l = some { cls := .type "list", dict := none, data := .seq items n, slots := #[] } ∧ s.heap.get? b = some { cls := .type "tuple", dict := dd, data := .seq items2 n2, slots := sl } ∧ R (.ok (.ret Value.none)) { s with heap := s.heap.update l (Obj.mapSeq fun x => x ++ items2), toks := s.toks }) :=
  .of_wp fun prog w A R s h => by
    obtain ⟨hp, g, d, tk, os⟩ := s; obtain ⟨hl, hb, h⟩ := h; have f1 := idx_int; have f2 := sub_tuple_tuple; have f3 := sub_list_list; have f4 := sub_tuple_list; have f5 := sub_list_tuple;
    have hz' : (items ++ items2).size ≤ sizeLine + 1 := by rw [Array.size_append]; exact hs2
    wp_walk using (wpAny_updateSeq hl rfl (hz := hs1) (_hz' := hz')), wpAny_loadPart' hl, wpAny_loadPart' hb; exact ⟨_, rfl, h⟩
end TpS
namespace SrtO
open PySem PyProof.Rows Srt
/-- a tuple of three whole numbers -/
def IsTrip (h : Heap) (v : Value) (x y z : Int) : Prop := ∃ a o t u r n, v = .ref a ∧ h.get? a = some o ∧ o.cls = .type "tuple" ∧ o.data = .seq #[.int x t, .int y u, .int z r] n
theorem IsTrip.keeps {h h' : Heap} {v : Value} {x y z : Int} (p : IsTrip h v x y z) (k : ∀ b o, h.get? b = some o → o.cls = .type "tuple" → h'.get? b = some o) : IsTrip h' v x y z := by
  obtain ⟨a, o, t, u, r, n, e, ho, hc, hd⟩ := p
  exact ⟨a, o, t, u, r, n, e, k _ _ ho hc, hc, hd⟩
def lexT (p q : Int × Int × Int) : Bool := if p.1 = q.1 then (if p.2.1 = q.2.1 then decide (p.2.2 < q.2.2) else decide (p.2.1 < q.2.1)) else decide (p.1 < q.1)
theorem lexT_iff {p q : Int × Int × Int} : lexT p q = true ↔ p.1 < q.1 ∨ (p.1 = q.1 ∧ (p.2.1 < q.2.1 ∨ (p.2.1 = q.2.1 ∧ p.2.2 < q.2.2))) := by
  unfold lexT
  by_cases e : p.1 = q.1
  · rw [if_pos e]
    by_cases e2 : p.2.1 = q.2.1
    · rw [if_pos e2, decide_eq_true_eq]; omega
    · rw [if_neg e2, decide_eq_true_eq]; omega
  · rw [if_neg e, decide_eq_true_eq]; omega
theorem lexT_no {p q : Int × Int × Int} : lexT p q = false ↔ ¬ (p.1 < q.1 ∨ (p.1 = q.1 ∧ (p.2.1 < q.2.1 ∨ (p.2.1 = q.2.1 ∧ p.2.2 < q.2.2)))) := by
  rw [← lexT_iff]
  cases lexT p q <;> simp
theorem swo_lexT {α : Type} (k : α → Int × Int × Int) : Swo fun v u => lexT (k v) (k u) := by
  refine ⟨fun x y h => ?_, fun x y z h1 h2 => ?_⟩
  · have a := lexT_iff.mp h
    refine lexT_no.mpr ?_
    omega
  · have a := lexT_no.mp h1
    have b := lexT_no.mp h2
    refine lexT_no.mpr ?_
    omega
section
variable {prog : Program} {w : World} {A : Around} {E : Value → Shared → Prop} {s : Shared}
theorem trip_cmp {vs : List Value} {k : Value → Int × Int × Int} (hp : ∀ v ∈ vs, IsTrip s.heap v (k v).1 (k v).2.1 (k v).2.2) : Cmp prog w A s (tuples' true) (fun p => p.1 ∈ vs) (lt2 fun v u => lexT (k v) (k u)) := by
  intro p q hm hm'
  have h1 := hp _ hm
  have h2 := hp _ hm'
  show wpAny (model prog w) A (keyLt' (tuples' true) p.1 q.1) (fun r s' => s' = s ∧ r = lexT (k p.1) (k q.1)) (fun _ _ => False) s
  unfold lexT
  generalize (k p.1).1 = x at h1 ⊢
  generalize (k p.1).2.1 = y at h1 ⊢
  generalize (k p.1).2.2 = z at h1 ⊢
  generalize (k q.1).1 = x' at h2 ⊢
  generalize (k q.1).2.1 = y' at h2 ⊢
  generalize (k q.1).2.2 = z' at h2 ⊢
  obtain ⟨a, o, t, u, r, n, e, ho, hc, hd⟩ := h1
  obtain ⟨a', o', t', u', r', n', e', ho', hc', hd'⟩ := h2
  rw [e, e']
  refine PySem.W.kat_lt ho hd ho' hd' ?_
  show PySem.W.KatLex prog w A true (decide (3 < 3)) _ [(.int x t, .int x' t'), (.int y u, .int y' u'), (.int z r, .int z' r')] 0 s
  refine PySem.W.kat_cons (SeqAt.EqAt.int_int x t x' t' prog w _ _ ?_)
  refine PySem.W.kat_go (fun e1 => ?_) (fun e1 => ?_)
  · have ex : x = x' := by simpa using e1
    rw [if_pos ex]
    refine PySem.W.kat_yes (PySem.W.kat_cons (SeqAt.EqAt.int_int y u y' u' prog w _ _ ?_))
    refine PySem.W.kat_go (fun e2 => ?_) (fun e2 => ?_)
    · have ey : y = y' := by simpa using e2
      rw [if_pos ey]
      refine PySem.W.kat_yes (PySem.W.kat_cons (SeqAt.EqAt.int_int z r z' r' prog w _ _ ?_))
      refine PySem.W.kat_go (fun e3 => ?_) (fun e3 => ?_)
      · have ez : z = z' := by simpa using e3
        have e4 : decide (z < z') = false := by
          rw [ez]
          exact decide_eq_false (Int.lt_irrefl _)
        exact PySem.W.kat_yes (PySem.W.kat_nil ⟨rfl, e4.symm⟩)
      · refine PySem.W.kat_no (PySem.W.kat_one _ _ (PyProof.Rows.lt_int ?_))
        exact (show s = s ∧ decide (z < z') = decide (z < z') from ⟨rfl, rfl⟩)
    · have ey : ¬ y = y' := by simpa using e2
      rw [if_neg ey]
      refine PySem.W.kat_no (PySem.W.kat_one _ _ (PyProof.Rows.lt_int ?_))
      exact (show s = s ∧ decide (y < y') = decide (y < y') from ⟨rfl, rfl⟩)
  · have ex : ¬ x = x' := by simpa using e1
    rw [if_neg ex]
    exact PySem.W.kat_no (oneLt_int ⟨rfl, rfl⟩)
theorem firsts_trip {h : Heap} {k : Value → Int × Int × Int} : ∀ {vs : List Value}, (∀ v ∈ vs, IsTrip h v (k v).1 (k v).2.1 (k v).2.2) → ∃ fs : List Value, PySem.W.KatTups h vs fs ∧ fs.length = vs.length ∧ ∀ f ∈ fs, ∃ x t, f = Value.int x t
  | [], _ => ⟨[], PySem.W.KatTups.nil, rfl, fun _ hm => by simp at hm⟩
  | v :: vs, hp => by
    obtain ⟨fs, h1, h2, h3⟩ := firsts_trip (vs := vs) fun v' hm => hp v' (List.mem_cons_of_mem _ hm)
    obtain ⟨a, o, t, u, r, n, e, ho, hc, hd⟩ := hp v (List.mem_cons_self ..)
    generalize (k v).1 = x at hd
    subst e
    refine ⟨.int x t :: fs, PySem.W.KatTups.cons ho hc hd rfl h1, by rw [List.length_cons, List.length_cons, h2], fun f hm => ?_⟩
    rcases List.mem_cons.mp hm with rfl | hm
    · exact ⟨x, t, rfl⟩
    · exact h3 f hm
theorem trips_sortableO {a : Addr} {vs : List Value} {k : Value → Int × Int × Int} (h0 : 0 < vs.length) (hp : ∀ v ∈ vs, IsTrip s.heap v (k v).1 (k v).2.1 (k v).2.2) (ha : ∀ o, s.heap.get? a = some o → o.cls ≠ .type "tuple") : SortableO prog w A s a vs fun v u => lexT (k v) (k u) := by
  intro h' keep
  have hp' : ∀ v ∈ vs, IsTrip h' v (k v).1 (k v).2.1 (k v).2.2 := fun v hm => (hp v hm).keeps fun b o e c => keep b o (fun z => by subst z; exact ha o e c) e
  obtain ⟨fs, h1, h2, h3⟩ := firsts_trip hp'
  refine ⟨tuples' true, fun Q E hq => ?_, trip_cmp hp'⟩
  refine PySem.W.kat_kind (T := .type "int") h1 (by omega) (fun f hm => ?_) (by rfl) ?_
  · obtain ⟨x, t, rfl⟩ := h3 f hm
    exact PySem.W.Looks.now
  · have e : (Value.type "int" != Value.type "tuple") = true := by first | decide +kernel | rfl | decide
    rw [e]
    exact hq
theorem sorted_trips {l : Addr} {vs : List Value} {k : Value → Int × Int × Int} {Q : Value → Shared → Prop} (hl : s.heap.IsList l vs.toArray) (hz : vs.length ≤ sizeLine) (hp : ∀ v ∈ vs, IsTrip s.heap v (k v).1 (k v).2.1 (k v).2.2)
    (h : ∀ (h' : Heap) (d : Addr) (out : List Value), Srtd (fun v u => lexT (k v) (k u)) out → Stb (fun v u => lexT (k v) (k u)) out vs → (∀ b o, s.heap.get? b = some o → h'.get? b = some o) → s.heap.objs.size ≤ d → (∃ n, h'.get? d = some (seqObj "list" out.toArray n)) → Q (.ref d) { s with heap := h' }) :
    wpAny (model prog w) A (call (.builtin "sorted") [.ref l]) Q E s := by
  refine sorted_ord (swo_lexT k) hl hz (fun h2 h₁ a ha kk => ?_) fun out hs hb => ?_
  · refine trips_sortableO (s := { s with heap := h₁ }) (by omega) (fun v hm => (hp v hm).keeps fun b o e _ => (kk b o e).2) fun o e => ?_
    have e' : some o = some (seqObj "list" vs.toArray 0) := e.symm.trans ha
    cases e'
    intro c
    exact absurd (Value.type.inj c) (by decide)
  · exact h _ _ out hs hb (fun b o e => sortedAll_old e) (Nat.le_succ _) (sortedAll_at s.heap vs out.toArray)
end
end SrtO
namespace L2
open PySem PySem.Spec PyProof.Rows
section
variable {X : Cx} {a b c d e o value : Expr} {f : Str} {pos pos' tpos : Pos} {ta tb tc td tv : TE}
/-- a op1 b op2 c op3 d -/
def tChain3 (r r' r'' : R2) (ta tb tc td : TE) : TE := fun σ H Q => ta σ H fun x H1 => tb σ H1 fun y H2 => r x y H2 fun z H3 => ∃ k, z = .bl k ∧
  (if k = true then tc σ H3 fun w' H4 => r' y w' H4 fun z' H5 => ∃ k', z' = .bl k' ∧ (if k' = true then td σ H5 fun w'' H6 => r'' w' w'' H6 Q else Q (.bl false) H5) else Q (.bl false) H3)
theorem pe_chain3 {op op' op'' : CmpOp} {r r' r'' : R2} (ho : OpR X (compareOp op) r) (ho' : OpR X (compareOp op') r') (ho'' : OpR X (compareOp op'') r'') (ha : PE X a ta) (hb : PE X b tb) (hc : PE X c tc) (hd : PE X d td)
    (hm : lastMarks [op, op', op''] [b, c, d] = false := by with_unfolding_all rfl) : PE X (.Compare a [op, op', op''] [b, c, d] pos) (tChain3 r r' r'' ta tb tc td) := by
  refine ⟨fun pins s σ H Q I h => ?_⟩
  refine Compare_chain (thn (ha.run pins s σ H _ I h) fun v s1 ⟨x, H1, I1, r1, q1⟩ => chain_link (thn (hb.run pins s1 σ H1 _ I1 q1) fun u s2 ⟨y, H2, I2, r2, q2⟩ =>
    thn (ho pins s2 σ H2 x y v u _ I2 r1 r2 q2) fun d' s3 ⟨z, H3, I3, r3, k, e, q3⟩ => ?_)) hm
  subst e
  cases r3
  refine wpAny_truthy_bool ?_
  cases k with
  | false => exact ite_ff ⟨.bl false, H3, I3, rfl, q3⟩
  | true =>
    refine ite_tt (chain_link (thn (hc.run pins s3 σ H3 _ I3 q3) fun w' s4 ⟨z', H4, I4, r4, q4⟩ => thn (ho' pins s4 σ H4 y z' u w' _ I4 r2 r4 q4) fun d'' s5 ⟨z2, H5, I5, r5, k', e', q5⟩ => ?_))
    subst e'
    cases r5
    refine wpAny_truthy_bool ?_
    cases k' with
    | false => exact ite_ff ⟨.bl false, H5, I5, rfl, q5⟩
    | true => exact ite_tt (chain_last (thn (hd.run pins s5 σ H5 _ I5 q5) fun w'' s6 ⟨z'', H6, I6, r6, q6⟩ => ho'' pins s6 σ H6 z' z'' w' w'' Q I6 r4 r6 q6))
/-- o.f as a target -/
def gFld (K : PySem.W.Frag) (to : TE) (f : Str) : TG := fun v σ H Q => to σ H fun x H1 => ∃ a C dx fs, x = .ref a ∧ H1 a = some (.ins C dx fs) ∧ Cls K C ∧ NoAttr K C f ∧ fs.length < 1000 ∧ Q σ (upd H1 a (.ins C dx (putF f v fs)))
theorem pg_fld {to : TE} (ho : PE X o to) : PG X (.Attribute o f pos) (gFld X.K to f) := by
  refine ⟨fun pins s σ H v u Q I r h => ?_⟩
  rw [assign_Attribute]
  refine wpAny_bind (wpAny_holding (thn (ho.run pins s σ H _ I h) fun ov s1 ⟨x, H1, I1, r1, a, C, dx, fs, ex, ea, c, n, l, q⟩ => ?_))
  subst ex
  obtain rfl : ov = Value.ref a := r1
  exact wpAny_bind (wpAny_standAt (wpAny_bind (wpAny_holding (setattr_ok I1 ea c n l r fun s2 I2 => wpAny_release ⟨σ, _, I2, q⟩))))
/-- xs.extend(t), t a tuple -/
def rExtendT (K : PySem.W.Frag) : V → List V → Hp → VK → Prop := fun x vs H Q => ∃ l b xs zs, x = .ref l ∧ vs = [.ref b] ∧ H l = some (.lst xs) ∧ SqT K H b zs ∧ xs.length + zs.length ≤ sizeLine ∧ Q .non (upd H l (.lst (xs ++ zs)))
theorem mt_extendT : MtM X "list.extend" (rExtendT X.K) := by
  intro pins s σ H x vs v us Q I rx rv h
  obtain ⟨l, b, xs, zs, rfl, rfl, hH, hB, hz, q⟩ := h
  cases rx
  obtain ⟨u, rfl, ru⟩ := rv.one
  cases ru
  obtain ⟨z, its, n, r, hl, e⟩ := I.lstM hH
  obtain ⟨its2, r2, ⟨⟨cls2, dd2, data2, sl2⟩, e2, hc2, n2, hd2⟩, hl2⟩ := I.tuple hB
  simp only at hc2 hd2
  subst hc2 hd2
  have hlz := r2.length
  have hsz : its.toArray.size + its2.toArray.size ≤ sizeLine := by rw [List.size_toArray, List.size_toArray]; omega
  have hlong : ¬ (!its.toArray.isEmpty && Builtin.List.listTooLong (its.toArray.size + its2.toArray.size)) = true := by
    rw [notLongL hsz, Bool.and_false]
    exact Bool.false_ne_true
  refine call_meets F.slot_list_extend ⟨_, e, rfl⟩ F.entry_list_extend (F.args_list_extend_2 _ _)
    (TpS.list_extend_tup l its.toArray n b its2.toArray n2 dd2 sl2 hlong (by rw [List.size_toArray]; omega) (by omega)) ⟨e, e2, ?_⟩
  refine ⟨.non, _, I.lset (its' := its ++ its2) hH e (by simp) (r.append r2) ?_, rfl, q⟩
  rw [List.length_append]
  omega
/-- a < b of data at any depth that are alike -/
def rLtD (K : PySem.W.Frag) : R2 := fun x y H Q => ∃ d e, Dp K H x d ∧ Dp K H y e ∧ PySem.W.alike d e = true ∧ d ≠ .none ∧ d.depth ≤ 64 ∧ Q (.bl (PySem.W.dataLt d e)) H
theorem op_ltD (hu : X.A.units + 64 < cLine) : OpR X (compareOp .Lt) (rLtD X.K) := by
  intro pins s σ H x y v u Q I rx ry h
  obtain ⟨d, e, hd, he, al, hn, hdep, q⟩ := h
  obtain ⟨as, r1⟩ := Dp.reads I d x v hd rx
  obtain ⟨bs, r2⟩ := Dp.reads I e y u he ry
  have h2 : min d.depth e.depth ≤ d.depth := Nat.min_le_left _ _
  exact PySem.W.rcLt_alike d e X.A s v u as bs r1 r2 al hn (by omega) X.prog X.w X.xe _ ⟨.bl _, H, I, rfl, q⟩
abbrev ltT (k : V → Int × Int × Int) (x y : V) : Bool := SrtO.lexT (k x) (k y)
/-- sorted(xs), xs a list of triples of ints of any length (k says which): a new list, sorted, equal ones in their order -/
def rSortedT3 (K : PySem.W.Frag) : List V → Hp → VK → Prop := fun vs H Q => ∃ (a : Addr) (xs : List V) (k : V → Int × Int × Int), vs = [V.ref a] ∧ SqL K H a xs ∧ (∀ x ∈ xs, ∃ t, x = V.ref t ∧ H t = some (.tup [.int (k x).1, .int (k x).2.1, .int (k x).2.2])) ∧
  ∀ ys p, SrtO.Srtd (ltT k) ys → SrtO.Stb (ltT k) ys xs → H p = none → Q (.ref p) (upd H p (.lst ys))
theorem vals3 {x y z : V} {us : List Value} (r : Vals [x, y, z] us) : ∃ u w' w'', us = [u, w', w''] ∧ RelV x u ∧ RelV y w' ∧ RelV z w'' := by
  cases r with
  | cons r1 r => cases r with
    | cons r2 r => cases r with
      | cons r3 r => cases r; exact ⟨_, _, _, rfl, r1, r2, r3⟩
theorem cr_sortedT3 : CallR X (.builtin "sorted") (rSortedT3 X.K) := by
  intro pins s σ H vs us Q I r h
  obtain ⟨a, xs, k, rfl, hs, hx, q⟩ := h
  obtain ⟨its, rv, hl, hz⟩ := I.list hs
  obtain ⟨u, rfl, ru⟩ := vals1 r
  obtain rfl : u = Value.ref a := ru
  obtain ⟨e1, e2⟩ := refs_back rv fun x m => by
    obtain ⟨t, e, _⟩ := hx x m
    exact ⟨t, e⟩
  refine SrtO.sorted_trips (k := fun u => k (backV u)) hl.isList (by rw [← rv.length]; exact hz) (fun v hv => ?_) fun h' d out h1 h2 kp hd hn => ?_
  · obtain ⟨t, rfl⟩ := e2 v hv
    have hm : V.ref t ∈ xs := by rw [e1]; exact List.mem_map.mpr ⟨_, hv, rfl⟩
    obtain ⟨t', e, ht⟩ := hx _ hm
    cases e
    obtain ⟨_, its2, r2, o, ho, hc, n, hd⟩ := I.hok _ _ ht
    obtain ⟨u1, u2, u3, rfl, ri, rj, rk⟩ := vals3 r2
    obtain ⟨t1, rfl⟩ := ri
    obtain ⟨t2, rfl⟩ := rj
    obtain ⟨t3, rfl⟩ := rk
    exact ⟨t, o, t1, t2, t3, n, rfl, ho, hc, hd⟩
  · have h3 : ∀ u ∈ out, ∃ a, u = Value.ref a := fun u hu => e2 u (h2.perm.mem_iff.mp hu)
    obtain ⟨n, hn⟩ := hn
    have hb : SrtO.Stb (ltT k) (out.map backV) xs := by
      rw [e1]
      exact SrtO.Stb.map (SrtO.swo_lexT k) backV h2
    refine ⟨.ref d, upd H d (.lst (out.map backV)), I.laid (t' := s.toks) kp hd ⟨?_, out, n, vals_back h3, hn⟩, rfl, q _ d (SrtO.srtd_map h1) hb (I.hok.fresh hd)⟩
    rw [hb.len]
    exact hz
end
end L2

namespace PySem
namespace RefX
open PySem.W PySem.Calls PyProof.Rows PySem.HandSPX
/-! ### the text of __init__ -/
def iA (p1 p2 : Pos) : Arguments := { posonlyargs := [], args := [{ arg := "self", annotation := none, pos := p1 }, { arg := "code", annotation := none, pos := p2 }], vararg := none, kwonlyargs := [], kw_defaults := [], kwarg := none, defaults := [] }
def iB (q1 q2 q3 q4 : Pos) : List Stmt := [.Assign [.Attribute (.Name "self" q1) "code" q2] (.Name "code" q3) q4]
def iS : Scope := { kind := .function, names := [(PySem.Str.ofString "self", .local), (PySem.Str.ofString "code", .local)], isGenerator := false, isCoroutine := false, more := [] }
/-- what the written part says of Low, at C, and of its __init__, at fI -/
structure RefTxt (K : Frag) (mg : Str → Option Value) (C fI : Addr) : Prop where
  gC : mg "Refused" = some (.ref C)
  cls : ∃ nm q N bs bm sn sub ab col dd k0 k1 k2 k3 k5, K.lookup C = some (excClassObj nm q C N bs bm true sn sub ab col dd k0 k1 k2 k3 k5 "Exception.__new__") ∧ bm = PySem.ESX.exTail
  sa : findIn K (.ref C) "__setattr__" = some (some (.builtin "object.__setattr__"))
  ga : findIn K (.ref C) "__getattribute__" = some (some (.builtin "BaseException.__getattribute__"))
  gg : findIn K (.ref C) "__getattr__" = some none
  noN : findIn K (.ref C) "code" = some none
  iC : findIn K (.ref C) "__init__" = some (some (.ref fI))
  tC : typeIn K (.ref fI) = some (.type "function")
  kC : keepIn K (.ref C) = true
  exC : subIn K (.ref C) (.type "BaseException") = some true
  tyC : typeIn K (.ref C) = some (.type "type")
  hdC : hasDictIn K C = true
  te : exmOne K (.ref C) (.ref C) = some true
  fn : ∃ (oc : Value) (od : Option Addr) (doc pm : Value) (an : Option Addr) (cdv ct : Value) (osl : Array (Option Value)) (p1 p2 q1 q2 q3 q4 : Pos),
    K.lookup fI = some ⟨oc, od, .func (fnOf "__init__" "Refused.__init__" (iA p1 p2) (iB q1 q2 q3 q4) iS .none .none doc pm an cdv ct), osl⟩ ∧ codeIn K cdv "Refused.__init__" = true
theorem one_size (v : Value) : [v].length ≤ sizeLine := by
  rw [sizeLine_eq]
  exact (by decide : 1 ≤ 16777216)
theorem kept_but {K : Frag} {h h' : Heap} {x : Addr} (X : K.In h) (hx : K.lookup x = none) (k : ∀ b o, b ≠ x → h.get? b = some o → h'.get? b = some o) : K.In h' := fun a o e =>
  k a o (fun z => by rw [z, hx] at e; cases e) (X a o e)
theorem ldC {M : Model} {s : Shared} {name : Str} {scope : Scope} {L a : Addr} {cd : Value} {m : Str → Option Value} {x : Str} {pos : Pos} {v : Value} {Q : Value → Shared → Prop} {A : Around} {E : Value → Shared → Prop} (hn : s.heap.Ns L m) (hv : m x = some v) (h : Q v s)
    (hk : scope.kind = .function := by rfl) (hl : (envOfC name scope L a cd).kindOf x = some .local := by rfl) (hd : (x == ("__debug__" : Str)) = false := by decide) :
    wpAny M A (eval (.Name x pos) (envOfC name scope L a cd)) Q E s := wpAny_Name (wpAny_loadName_local hk hl hn hv h) hd
/-- what __init__ leaves of a fresh exception at x -/
structure InitEnd (h h' : Heap) (x C dx t1 : Addr) (v : Value) : Prop where
  keep : ∀ b o, b ≠ x → h.get? b = some o → h'.get? b = some o
  obj : h'.get? x = some { cls := .ref C, dict := some dx, data := .fields #[.ref t1, .none, .none, .none, .bool false, .none] }
  dbig : h.objs.size ≤ dx
  dne : dx ≠ x
  ns : h'.Ns1 dx (fun y => if y = "code" then some v else none)
/-- a made Low -/
structure OwnMade (h h' : Heap) (e C d : Addr) (v : Value) : Prop where
  keep : ∀ b o, h.get? b = some o → h'.get? b = some o
  new : h.objs.size ≤ e
  obj : ∃ oe vs, h'.get? e = some oe ∧ oe.cls = .ref C ∧ oe.dict = some d ∧ oe.data = .fields vs ∧ vs[1]? = some .none
  dbig : h.objs.size ≤ d
  dne : d ≠ e
  ns : h'.Ns1 d (fun y => if y = "code" then some v else none)
section
variable {prog : Program} {w : World} {A : Around} {E : Value → Shared → Prop} {R : Result → Shared → Prop} {s : Shared} {K : Frag} {mg : Str → Option Value} {C fI : Addr}
theorem ref_init (T : RefTxt K mg C fI) {x t0 : Addr} {v : Value} (X : K.In s.heap) (hlim : s.heap.NoLimit) (hx : s.heap.get? x = some (excO C t0)) (hnx : K.lookup x = none) (hroom : A.depth < recursionLimit)
    (hq : ∀ h' tk dx, InitEnd s.heap h' x C dx t0 v → R (.ok (.ret .none)) { s with heap := h', toks := tk }) :
    codeAny (model prog w) A (.call (.ref fI) ⟨[.ref x, v], []⟩) R s := by
  obtain ⟨oc, od, doc, pm, an, cdv, ct, osl, p1, p2, q1, q2, q3, q4, ho, hcd⟩ := T.fn
  obtain ⟨nm, q, N, bs, bm, sn, sub, ab, col, dd, k0, k1, k2, k3, k5, hC, hbm⟩ := T.cls
  have hcl : clsIn K C = some { name := nm, bases := bs, mro := .ref C :: bm, ns := N, qualname := q, hasDict := true, slotNames := sn, subclasses := sub, abstract := ab, collection := col, hasDel := false } := by unfold clsIn; rw [hC] <;> rfl
  refine Att.call_fn (binds := [("self", .ref x), ("code", v)]) X hlim ho hcd hroom (BindsTo.of_eq (by first | rfl | with_unfolding_all rfl)) (by first | rfl | decide | with_unfolding_all rfl) (fun s₁ IC => ?_) rfl rfl rfl
  obtain ⟨h₁, tk₁, rfl⟩ := IC.toInCall.same
  have k : ∀ b o, s.heap.get? b = some o → h₁.get? b = some o := IC.toInCall.keep
  have hn := IC.toInCall.ns
  have hxL : s.heap.objs.size ≠ x := Nat.ne_of_gt (Heap.lt_size hx)
  have X₁ : K.In h₁ := X.keeps k
  have hx₁ := k _ _ hx
  -- self.by = by
  show wpAny _ _ (execs _ _) _ _ _
  refine wpAny_execs_cons (plainObj_wpAny_Assign_Attribute ?_)
  refine ldC (v := v) hn (by first | rfl | with_unfolding_all rfl | kernel_rfl) (ldC (v := .ref x) hn (by first | rfl | with_unfolding_all rfl | kernel_rfl) ?_)
  refine set_plain X₁ (ox := excO C t0) (od := none) ⟨hx₁, rfl, rfl, trivial⟩ T.sa ?_
  refine PySem.ESX.osa_new X₁ hx₁ hcl (show (Value.ref C :: bm) = .ref C :: PySem.ESX.exTail by rw [hbm]) rfl T.noN (fun h₃ tk₃ dx k₃ dn dne hx₃ hn₃ => ?_)
  show wpAny _ _ (execs _ _) _ _ _
  have z : s.heap.objs.size < h₁.objs.size := hn.lt
  exact wpAny_execs_nil (hq h₃ tk₃ dx ⟨fun b o hb e => k₃ b o hb (k b o e), hx₃, Nat.le_of_lt (Nat.lt_of_lt_of_le z dn), dne, hn₃⟩)
theorem ref_made (T : RefTxt K mg C fI) {v : Value} (X : K.In s.heap) (hlim : s.heap.NoLimit) (hroom : A.depth + 1 < recursionLimit)
    (hq : ∀ h' tk e d, OwnMade s.heap h' e C d v → R (.ok (.ret (.ref e))) { s with heap := h', toks := tk }) :
    codeAny (model prog w) A (.call (.ref C) ⟨[v], []⟩) R s := by
  obtain ⟨nm, q, N, bs, bm, sn, sub, ab, col, dd, k0, k1, k2, k3, k5, hC, hbm⟩ := T.cls
  obtain ⟨hp, g, dr, tk, os⟩ := s
  have k : ∀ b o, hp.get? b = some o → ((hp.push (kdv_tup [v])).push (excO C hp.objs.size)).get? b = some o := fun b o e => Heap.get?_push_of_some _ (Heap.get?_push_of_some _ e)
  have hget : ((hp.push (kdv_tup [v])).push (excO C hp.objs.size)).get? (hp.objs.size + 1) = some (excO C hp.objs.size) := by heap_get
  have hnx : K.lookup (hp.objs.size + 1) = none := by
    cases e : K.lookup (hp.objs.size + 1) with
    | none => rfl
    | some o =>
      have z : hp.get? (hp.objs.size + 1) = some o := X _ _ e
      exact absurd (Nat.lt_of_succ_lt (Heap.lt_size z)) (Nat.lt_irrefl _)
  refine call_own F.excBase_Exception (fun X => by rw [hbm]) (X _ _ hC) (looks_findIn X T.iC) (fun self => bind_fn X self T.tC) (one_size v) ?_
  refine ref_init (s := ⟨(hp.push (kdv_tup [v])).push (excO C hp.objs.size), g, dr, tk, os⟩) T (X.keeps k) (hlim.keeps k) hget hnx ?_ fun h' tk' dx ⟨k', hx, dn, dne, hns⟩ => ?_
  · show A.depth + 1 < recursionLimit
    exact hroom
  · have old : ∀ b o, hp.get? b = some o → h'.get? b = some o := fun b o e => k' b o (Nat.ne_of_lt (Nat.lt_succ_of_lt (Heap.lt_size e))) (k b o e)
    have z : hp.objs.size + 1 + 1 ≤ dx := by
      first
        | (simpa only [Heap.size_push] using dn)
        | exact dn
        | (have q := dn; rw [Heap.size_push, Heap.size_push] at q; exact q)
    exact ⟨rfl, hq h' tk' (hp.objs.size + 1) dx ⟨old, Nat.le_succ _, ⟨_, _, hx, rfl, rfl, rfl, rfl⟩, Nat.le_trans (Nat.le_trans (Nat.le_succ _) (Nat.le_succ _)) z, dne, hns⟩⟩
end
end RefX
end PySem
namespace L2
open PySem PySem.Spec PyProof.Rows
theorem relO_ref {v : V} {v' : Value} (r : RelV v v') (f : Str) : RelO (List.lookup f [(("code" : Str), v)]) (if f = "code" then some v' else none) := by
  by_cases hw : f = "code"
  · subst hw
    rw [if_pos rfl]
    have q : List.lookup ("code" : Str) [(("code" : Str), v)] = some v := by simp [List.lookup]
    rw [q]
    exact r
  · rw [if_neg hw]
    have qw : (f == ("code" : Str)) = false := by simpa using hw
    have q2 : List.lookup f [(("code" : Str), v)] = none := by simp [List.lookup, qw]
    rw [q2]
    trivial
section
variable {X : Cx} {C fI : Addr}
/-- Low(e) -/
def tMkRef (C : Addr) (ta : TA) : St → Hp → XK → Prop := fun σ H Q => ta σ H fun vs H1 => ∃ v, vs = [v] ∧ ∀ d, H1 d = none → Q (.ref C) (some d) (upd H1 d (.xd [(("code" : Str), v)]))
theorem pmk_ref {a : Expr} {ta : TA} {p pos : Pos} {k : Nat} (T : PySem.RefX.RefTxt X.K X.mg C fI) (hr : Room k X.A) (ha : PA X [a] ta) (hg : Gl X "Refused" := by rfl)
    (he : starEach (a :: []) X.env = (false, eval a X.env) :: starEach [] X.env := by rfl) (hpl : (backTo pos (starEach [] X.env)).any (·.1) = false := by rfl) :
    PMk X (.Call (.Name "Refused" p) [a] [] pos) (tMkRef C ta) := by
  intro pins s σ H Q I h
  refine wpAny_Call_Name_kw (ld_glob I hg T.gC ?_)
  refine PySem.W.callWith_K (h₀ := X.base) I.ok.mod.kin T.kC (thn (ha.run pos pins s σ H _ I h) fun us s1 hh => ?_) he hpl
  obtain ⟨vs, H1, I1, r1, v, ev, q1⟩ := hh
  subst ev
  refine ⟨I1.kIn, ?_⟩
  cases r1 with
  | cons rv rn =>
    rename_i v' us'
    cases rn
    show wpAny _ _ (call (.ref C) [v']) _ _ _
    have hlim := I1.nolimit
    obtain ⟨hp, g, dr, tk, os⟩ := s1
    refine wpAny_call (PySem.RefX.ref_made T I1.kIn hlim (by have := hr.dp; omega) fun h' tk' e d M => ?_)
    show MkP X pins σ Q (.ref e) ⟨h', g, dr, tk', os⟩
    obtain ⟨oe, fv, hoe, hc, hd, hdat, h1⟩ := M.obj
    have hns := M.ns
    obtain ⟨G', g1, g2⟩ := restrict h' fun b => decide (b ≠ e)
    have gk : ∀ b, b ≠ e → G'.get? b = h'.get? b := fun b hb => g1 b (decide_eq_true hb)
    have ge : G'.get? e = none := g2 e (by simp)
    have old : ∀ b o, hp.get? b = some o → G'.get? b = some o := fun b o q => (gk b (Nat.ne_of_lt (Nat.lt_of_lt_of_le (Heap.lt_size q) M.new))).trans (M.keep b o q)
    have ob : ObjOk X.prog X.w (upd H1 d (.xd [(("code" : Str), v)])) G' d (.xd [(("code" : Str), v)]) :=
      ⟨_, hns.at (fun o q => (gk d M.dne).trans q), fun f => relO_ref rv f⟩
    have J : Inv X pins σ (upd H1 d (.xd [(("code" : Str), v)])) ⟨G', g, dr, tk', os⟩ := I1.laid (t' := tk') old M.dbig ob
    refine ⟨e, oe, fv, ⟨G', g, dr, tk', os⟩, _, .ref C, some d, rfl, J, fun b o q => ?_, ge, hoe, ⟨hc, hd⟩, hdat, h1, ?_, rfl, I1.bare, raises_own T.exC T.tyC, q1 d (I1.hok.fresh M.dbig)⟩
    · by_cases hb : b = e
      · have q' : G'.get? b = some o := q
        rw [hb, ge] at q'; cases q'
      · exact (gk b hb).symm.trans q
    · rw [upd_ne (Ne.symm M.dne)]
      exact I1.hok.fresh M.new
/-- raise Low(e) -/
def tRaiseRef (C : Addr) (W : WX) (ta : TA) : TS := fun _ σ H => tMkRef C ta σ H fun cls d H' => W cls d σ H'
theorem ps_raiseRef {a : Expr} {ta : TA} {W : WX} {p pos pos2 : Pos} {k : Nat} (hc : X.calm = true) (T : PySem.RefX.RefTxt X.K X.mg C fI) (hr : Room k X.A) (tk : Takes X W) (ha : PA X [a] ta) (hg : Gl X "Refused" := by rfl)
    (he : starEach (a :: []) X.env = (false, eval a X.env) :: starEach [] X.env := by rfl) (hpl : (backTo pos (starEach [] X.env)).any (·.1) = false := by rfl) :
    PS X (.Raise (some (.Call (.Name "Refused" p) [a] [] pos)) none pos2) (tRaiseRef C W ta) := ps_raise hc tk (pmk_ref T hr ha hg he hpl)
/-- low.by, low the exception that the suite holds (at a; its class cls, its dict d) -/
def tCode (C : Addr) (a : Addr) (cls : Value) (d : Option Addr) (te : TE) : TE := fun σ H Q => te σ H fun x H1 => x = .ref a ∧ cls = .ref C ∧ ∃ (dd : Addr) (v : V), d = some dd ∧ H1 dd = some (.xd [(("code" : Str), v)]) ∧ Q v H1
theorem pe_code {a : Addr} {oe : Obj} {cls : Value} {d : Option Addr} {pn : List (Addr × Obj)} {e : Expr} {te : TE} {pos : Pos} (T : PySem.RefX.RefTxt X.K X.mg C fI) (hz : Zc cls d oe) (hf : ∃ vs, oe.data = .fields vs) (he : PE (X.suite a ((a, oe) :: pn)) e te)
    (hb : attributeBase e "code" X.env (eval e X.env) = eval e X.env := by rfl) :
    PE (X.suite a ((a, oe) :: pn)) (.Attribute e "code" pos) (tCode C a cls d te) := by
  refine ⟨fun pins s σ H Q I h => ?_⟩
  refine attr_of hb (thn (he.run pins s σ H _ I h) fun u s1 hh => ?_)
  obtain ⟨x, H1, I1, rx, ex, ec, dd, v, ed, ea, q⟩ := hh
  subst ex
  obtain rfl : u = Value.ref a := rx
  subst ec
  subst ed
  obtain ⟨ha, _⟩ := I1.pin (a, oe) (List.mem_append_left _ List.mem_cons_self)
  obtain ⟨vs, hd⟩ := hf
  have hx : ObjOk X.prog X.w H1 s1.heap dd (.xd [(("code" : Str), v)]) := I1.hok dd _ ea
  obtain ⟨mA, hns, hr⟩ := hx
  obtain ⟨od, ho, hl⟩ := lookIn_ns hns
  have l : List.lookup ("code" : Str) [(("code" : Str), v)] = some v := by simp [List.lookup]
  obtain ⟨u, hu, ru⟩ := RelO.some_of (v := v) (o := mA "code") (by rw [← l]; exact hr "code")
  have J : PySem.W.InstAt s1.heap a oe C (some od) := ⟨ha, hz.1, by unfold PySem.W.notCls; rw [hd] <;> rfl, by rw [hz.2]; exact ho⟩
  exact HandSPX.exc_get I1.kIn J T.ga T.gg T.exC (PySem.W.findObj_own T.hdC T.noN rfl (by rw [hl, hu])) (handed_of ru) ⟨v, H1, I1.tok _, ru, q⟩
end
end L2

namespace L2
open PySem PySem.Spec PyProof.Rows
/-- an if whose test is known -/
theorem if_true_of {c : Bool} {A B : Prop} (hc : c = true) (h : A) : if c = true then A else B := by
  rw [if_pos hc]
  exact h
theorem if_false_of {c : Bool} {A B : Prop} (hc : c = false) (h : B) : if c = true then A else B := by
  rw [hc, if_neg Bool.false_ne_true]
  exact h
end L2

namespace L2
open PySem PySem.Spec PyProof.Rows
/-- how many different numbers stand in a list -/
def diffOf (ns : List Int) : Nat := (firstMet (fun i => ns.getD i 0) ns.length).length
theorem met_le (ns : List Int) : ∀ i, (firstMet (fun i => ns.getD i 0) i).length ≤ i := fun i => firstMet_length_le _ i
theorem met_nodup {ns : List Int} : ∀ i, i ≤ ns.length → (firstMet (fun i => ns.getD i 0) i).length = i → (ns.take i).Nodup
  | 0, _, _ => by simp
  | i + 1, hi, h => by
    have hlt : i < ns.length := hi
    have e1 : ns.getD i 0 = ns[i] := by
      rw [List.getD_eq_getElem?_getD, List.getElem?_eq_getElem hlt] <;> rfl
    have e2 : ns.take (i + 1) = ns.take i ++ [ns[i]] := by
      rw [List.take_add_one, List.getElem?_eq_getElem hlt] <;> rfl
    rw [firstMet_succ] at h
    have hle := met_le ns i
    have hany := firstMet_any (fun i => ns.getD i 0) i (ns.getD i 0)
    unfold step_dedup at h
    by_cases c : (firstMet (fun i => ns.getD i 0) i).any (· == ns.getD i 0) = true
    · rw [if_pos c] at h
      omega
    · rw [if_neg c, List.length_append, List.length_singleton] at h
      have ih := met_nodup i (Nat.le_of_lt hlt) (by omega)
      rw [e2, List.nodup_append]
      refine ⟨ih, by simp, fun x hx y hy exy => c ?_⟩
      rw [hany, List.any_eq_true]
      simp at hy
      subst hy
      obtain ⟨j, hj⟩ := List.mem_iff_getElem?.mp hx
      rw [List.getElem?_take] at hj
      by_cases hji : j < i
      · rw [if_pos hji] at hj
        refine ⟨ns.getD j 0, List.mem_map.mpr ⟨j, List.mem_range.mpr hji, rfl⟩, ?_⟩
        rw [e1, List.getD_eq_getElem?_getD, hj]
        simpa using exy
      · rw [if_neg hji] at hj; cases hj
theorem diff_iff {ns : List Int} : diffOf ns = ns.length ↔ ns.Nodup := by
  unfold diffOf
  constructor
  · intro h
    have := met_nodup ns.length (Nat.le_refl _) h
    rwa [List.take_length] at this
  · intro h
    rw [RZ.firstMet_nodup h ns.length (Nat.le_refl _), List.take_length]
def tLenSetM (K : PySem.W.Frag) (ta : TE) : TE := fun σ H Q => ta σ H fun x H1 => ∃ (l : Addr) (ns : List Int), x = .ref l ∧ SqL K H1 l (ns.map V.int) ∧ ns.length ≤ 4000 ∧ Q (.int (diffOf ns : Nat)) H1
theorem pe_lenSetM {X : Cx} {a : Expr} {ta : TE} {p p2 q pos : Pos} (hg : Gl X "len") (hm : X.mg "len" = none) (hg2 : Gl X "set") (hm2 : X.mg "set" = none) (ha : PE X a ta) (hc : X.calm = true := by rfl)
    (na : starEach [a] X.env = (false, eval a X.env) :: starEach [] X.env := by rfl) : PE X (.Call (.Name "len" p) [.Call (.Name "set" p2) [a] [] q] [] pos) (tLenSetM X.K ta) := by
  refine ⟨fun pins s σ H Q I h => ?_⟩
  refine Call_ (ld_blt I hg hm boot_len (callWith_builtin1 (args_cons (Call_ (ld_blt I hg2 hm2 boot_set
    (callWith_type1 (args_cons (thn (ha.run pins s σ H _ I h) fun v s1 ⟨x, H1, I1, r1, q1⟩ => args_nil ?_) na) na rfl))) rfl) rfl rfl))
  obtain ⟨l, ns, rfl, hq, hl, q2⟩ := q1
  cases r1
  obtain ⟨its, r, pl, hz⟩ := I1.list hq
  have hlen : its.toArray.size = ns.length := by rw [List.size_toArray, ← r.length, List.length_map]
  refine call_set_list (I1.ok.hd hc) pl.isList (by simpa using RZ.intsAre_vals r) (by rw [hlen]; unfold scanBound; omega) fun h2 tk hS hk => args_nil ?_
  rw [hlen] at hS
  have hm4 := met_le ns ns.length
  obtain ⟨o, es, ep, t, ho, hex, hd, _, _, _, hf, hn⟩ := hS
  exact call_len_set ho hex hd hf (by rw [hn]; omega) ⟨.int (diffOf ns), H1, (I1.kept fun b o e => hk b o (Heap.lt_size e) e : Inv X pins σ H1 { s1 with heap := h2, toks := tk }).tok _, ⟨_, by rw [hn]; rfl⟩, q2⟩
end L2

namespace L2
open PySem PySem.Spec PyProof.Rows
section
variable {X : Cx} {CXa : CXT} {j : Nat} {fa Ca : Addr} {fda : FuncData} {pa : List Str} {spa : Sp} {Ea : St → XK} {mm : Str} {q0 q1 : Pos} {ob e1 : Expr} {er : List Expr} {tob : TE} {tar : TA}
/-- a method's call in a try: its way out by the slots -/
def tMethAt (Ca : Addr) (mm : Str) (spa : Sp) (Ea : St → XK) (tob : TE) (tar : TA) : TE := fun σ H Q => tob σ H fun x H1 => ∃ a dx fs, x = .ref a ∧ H1 a = some (.ins Ca dx fs) ∧ fs.lookup mm = none ∧ tar σ H1 fun vs H2 => spa (x :: vs) H2 Q (Ea σ)
theorem pe_methAt {pl : Sem Bool} (ho : PE X ob tob) (hc : Cls X.K Ca) (hm : Meth X.K Ca mm fa) (hf : FnOk X.prog X.w X.K X.mg X.base CXa j fa fda pa spa) (hr : Room j X.A) (hb : Binds X.K fda pa []) (hx : ∀ σ, PassesAt CXa X σ (Ea σ)) (hargs : PA X (e1 :: er) tar)
    (h1 : starEach (e1 :: er) X.env = (false, eval e1 X.env) :: starEach er X.env := by rfl) (h2 : (backTo q1 (starEach er X.env)).any (·.1) = false := by rfl)
    (h3 : eval (.Call (.Attribute ob mm q0) (e1 :: er) [] q1) X.env = (do
      let o' ← eval ob X.env
      standAt q0.atName
      let (g', fst') ← holding [o'] (getMethod o' mm pl)
      callWith q1 g' fst' (backTo q1 (starEach (e1 :: er) X.env)) (backToKw q1 (keywordEach [] X.env))) := by rfl) :
    PE X (.Call (.Attribute ob mm q0) (e1 :: er) [] q1) (tMethAt Ca mm spa Ea tob tar) := by
  constructor
  intro pins s σ H Q I h
  refine PySem.W.methodCall_KW (pl := pl) (thn (ho.run pins s σ H _ I h) fun v s1 hv => ?_) h3
  obtain ⟨x, H1, I1, rx, a, dx, fs, ex, ea, l, hq⟩ := hv
  subst ex
  cases rx
  refine getmeth_ok I1 ea hc hm l (PySem.W.callWith_K (first := [.ref a]) (h₀ := X.base) I.ok.mod.kin hm.kp ?_ h1 h2)
  refine thn (hargs.run q1 pins s1 σ H1 _ I1 hq) fun us s2 hw => ?_
  obtain ⟨vs, H2, I2, r, hq2⟩ := hw
  exact ⟨I2.kIn, run_fnS (us := .ref a :: us) (vs := .ref a :: vs) hf hr hb (hx σ) I2 (.cons rfl r) hq2⟩
end
end L2

namespace Tp
open PySem PySem.Spec PyProof.Rows L2
open TpM (Pas Trip Sel)
def top (i : Nat) : Stmt := PySem.Challenge.pw_textpassages_s01_answers.main.body.getD i (.Pass ⟨0, 0, 0, 0⟩)
def meth (i j : Nat) : Stmt := inClass (top i) j
def nVs (l : List Nat) : List V := (Rh12.ints l).map V.int
theorem nVs_len (l : List Nat) : (nVs l).length = l.length := by simp [nVs, Rh12.ints]
theorem nVs_nil : nVs [] = [] := rfl
theorem nVs_cons (n : Nat) (l : List Nat) : nVs (n :: l) = .int (n : Int) :: nVs l := rfl
theorem nVs_app (l m : List Nat) : nVs (l ++ m) = nVs l ++ nVs m := by simp [nVs, Rh12.ints]
theorem nVs_snoc (l : List Nat) (n : Nat) : nVs (l ++ [n]) = nVs l ++ [.int (n : Int)] := nVs_app l [n]
theorem nVs_get {l : List Nat} {i : Nat} {v : V} (h : (nVs l)[i]? = some v) : ∃ n, l[i]? = some n ∧ v = .int (n : Int) := by
  unfold nVs Rh12.ints at h
  rw [List.getElem?_map, List.getElem?_map] at h
  cases e : l[i]? with
  | none => rw [e] at h; cases h
  | some n => rw [e] at h; exact ⟨n, rfl, (Option.some.inj h).symm⟩
theorem nVs_at {l : List Nat} {i n : Nat} (h : l[i]? = some n) : (nVs l)[i]? = some (.int (n : Int)) := by
  unfold nVs Rh12.ints
  rw [List.getElem?_map, List.getElem?_map, h]; rfl
theorem nVs_drop (l : List Nat) (k : Nat) : (nVs l).drop k = nVs (l.drop k) := by simp [nVs, Rh12.ints, List.map_drop]
theorem nVs_take (l : List Nat) (k : Nat) : (nVs l).take k = nVs (l.take k) := by simp [nVs, Rh12.ints, List.map_take]
theorem nVs_inj {l m : List Nat} (h : nVs l = nVs m) : l = m := by
  refine List.ext_getElem? fun i => ?_
  have e : (nVs l)[i]? = (nVs m)[i]? := by rw [h]
  cases a : l[i]? with
  | none =>
    cases b : m[i]? with
    | none => rfl
    | some y =>
      have h1 := nVs_at b
      rw [← e] at h1
      obtain ⟨n, hn, _⟩ := nVs_get h1
      rw [a] at hn; cases hn
  | some x =>
    have h1 := nVs_at a
    rw [e] at h1
    obtain ⟨n, hn, q⟩ := nVs_get h1
    have : (x : Int) = n := V.int.inj q
    have : x = n := by omega
    rw [hn, this]
theorem take_more {α : Type} : ∀ {l : List α} {i : Nat} {x : α}, l[i]? = some x → l.take (i + 1) = l.take i ++ [x] := fun {l i x} h => by
  rw [List.take_add_one, h]; rfl
theorem lt_of_get {α : Type} {l : List α} {i : Nat} {x : α} (h : l[i]? = some x) : i < l.length := by
  obtain ⟨h, _⟩ := List.getElem?_eq_some_iff.mp h
  exact h
theorem line_ok {n : Nat} (h : n ≤ 16777216) : n ≤ sizeLine := by rw [sizeLine_eq]; exact h
theorem line_lt {n : Nat} (h : n < 16777216) : n < sizeLine := by rw [sizeLine_eq]; exact h
theorem line_le {n : Nat} (h : n ≤ sizeLine) : n ≤ 16777216 := by rw [sizeLine_eq] at h; exact h
theorem same_upd {H : Hp} {p : Addr} {o : HO} (h : H p = none) : Same H (upd H p o) := fun b u e => by rw [upd_ne (ne_of_none e h)]; exact e
def SameBut (p : Addr) (H H' : Hp) : Prop := ∀ b o, b ≠ p → H b = some o → H' b = some o
theorem SameBut.of {p : Addr} {H H' : Hp} (h : Same H H') : SameBut p H H' := fun b o _ e => h b o e
theorem SameBut.refl (p : Addr) (H : Hp) : SameBut p H H := fun _ _ _ e => e
theorem SameBut.trans {p : Addr} {H H1 H2 : Hp} (a : SameBut p H H1) (b : SameBut p H1 H2) : SameBut p H H2 := fun c o n e => b c o n (a c o n e)
theorem SameBut.upd {p : Addr} {H H1 : Hp} {o : HO} (a : SameBut p H H1) : SameBut p H (upd H1 p o) := fun c u n e => by rw [upd_ne n]; exact a c u n e
theorem SameBut.same {p : Addr} {H H1 : Hp} (a : SameBut p H H1) (h : H p = none) : Same H H1 := fun c u e => a c u (ne_of_none e h) e
inductive AllR {α : Type} (R : V → α → Prop) : List V → List α → Prop
  | nil : AllR R [] []
  | cons {v : V} {x : α} {vs : List V} {xs : List α} : R v x → AllR R vs xs → AllR R (v :: vs) (x :: xs)
section
variable {α : Type} {R R' : V → α → Prop}
theorem AllR.len : ∀ {vs : List V} {xs : List α}, AllR R vs xs → vs.length = xs.length
  | _, _, .nil => rfl
  | _, _, .cons _ t => by rw [List.length_cons, List.length_cons, t.len]
theorem AllR.mono : ∀ {vs : List V} {xs : List α}, AllR R vs xs → (∀ v x, R v x → R' v x) → AllR R' vs xs
  | _, _, .nil, _ => .nil
  | _, _, .cons r t, f => .cons (f _ _ r) (t.mono f)
theorem AllR.monoMem : ∀ {vs : List V} {xs : List α}, AllR R vs xs → (∀ v x, v ∈ vs → R v x → R' v x) → AllR R' vs xs
  | _, _, .nil, _ => .nil
  | _, _, .cons r t, f => .cons (f _ _ List.mem_cons_self r) (t.monoMem fun v x m => f v x (List.mem_cons_of_mem _ m))
theorem AllR.app : ∀ {vs ws : List V} {xs ys : List α}, AllR R vs xs → AllR R ws ys → AllR R (vs ++ ws) (xs ++ ys)
  | _, _, _, _, .nil, s => s
  | _, _, _, _, .cons r t, s => .cons r (t.app s)
theorem AllR.snoc {vs : List V} {xs : List α} {v : V} {x : α} (h : AllR R vs xs) (r : R v x) : AllR R (vs ++ [v]) (xs ++ [x]) := h.app (.cons r .nil)
theorem AllR.get : ∀ {vs : List V} {xs : List α} {i : Nat} {v : V}, AllR R vs xs → vs[i]? = some v → ∃ x, xs[i]? = some x ∧ R v x
  | _, _, _, _, .nil, e => by simp at e
  | _, _, 0, _, .cons r _, e => by simp at e; subst e; exact ⟨_, rfl, r⟩
  | _, _, i + 1, v, .cons _ t, e => by
    obtain ⟨x, h1, h2⟩ := AllR.get (i := i) (v := v) t (by simpa using e)
    exact ⟨x, by simpa using h1, h2⟩
theorem AllR.at_ : ∀ {vs : List V} {xs : List α} {i : Nat} {x : α}, AllR R vs xs → xs[i]? = some x → ∃ v, vs[i]? = some v ∧ R v x
  | _, _, _, _, .nil, e => by simp at e
  | _, _, 0, _, .cons r _, e => by simp at e; subst e; exact ⟨_, rfl, r⟩
  | _, _, i + 1, x, .cons _ t, e => by
    obtain ⟨v, h1, h2⟩ := AllR.at_ (i := i) (x := x) t (by simpa using e)
    exact ⟨v, by simpa using h1, h2⟩
theorem AllR.set : ∀ {vs : List V} {xs : List α} {v : V} {x : α} (i : Nat), AllR R vs xs → R v x → AllR R (vs.set i v) (xs.set i x)
  | _, _, _, _, _, .nil, _ => .nil
  | _, _, _, _, 0, .cons _ t, r => .cons r t
  | _, _, _, _, i + 1, .cons q t, r => .cons q (t.set i r)
theorem AllR.take : ∀ {vs : List V} {xs : List α} (i : Nat), AllR R vs xs → AllR R (vs.take i) (xs.take i)
  | _, _, 0, _ => .nil
  | _, _, _ + 1, .nil => .nil
  | _, _, i + 1, .cons q t => .cons q (t.take i)
theorem AllR.rep {v : V} {x : α} (r : R v x) : ∀ n, AllR R (List.replicate n v) (List.replicate n x)
  | 0 => .nil
  | n + 1 => .cons r (AllR.rep r n)
end
def ListOf {α : Type} (R : Hp → V → α → Prop) (H : Hp) (v : V) (xs : List α) : Prop := ∃ a vs, v = .ref a ∧ H a = some (.lst vs) ∧ AllR (R H) vs xs
def Stays {α : Type} (R : Hp → V → α → Prop) : Prop := ∀ H H' v x, Same H H' → R H v x → R H' v x
theorem AllR.stay {α : Type} {R : Hp → V → α → Prop} (st : Stays R) {H H' : Hp} (s : Same H H') {vs : List V} {xs : List α} (h : AllR (R H) vs xs) : AllR (R H') vs xs := h.mono fun v x => st H H' v x s
theorem ListOf.stays {α : Type} {R : Hp → V → α → Prop} (st : Stays R) : Stays (ListOf R) := fun H H' v x s h => by
  obtain ⟨a, vs, e, h1, h2⟩ := h
  exact ⟨a, vs, e, s _ _ h1, h2.stay st s⟩
def LstN : Hp → V → List Nat → Prop := fun H v l => ∃ a, v = .ref a ∧ H a = some (.lst (nVs l))
theorem LstN.stays : Stays LstN := fun _ _ _ _ s ⟨a, e, h⟩ => ⟨a, e, s _ _ h⟩
def PairAt : Hp → V → Nat × Nat → Prop := fun H v x => ∃ a, v = .ref a ∧ H a = some (.tup [.int (x.1 : Int), .int (x.2 : Int)])
theorem PairAt.stays : Stays PairAt := fun _ _ _ _ s ⟨a, e, h⟩ => ⟨a, e, s _ _ h⟩
def TripAt : Hp → V → Trip → Prop := fun H v x => ∃ a, v = .ref a ∧ H a = some (.tup [.int (x.1 : Int), .int (x.2.1 : Int), .int x.2.2])
theorem TripAt.stays : Stays TripAt := fun _ _ _ _ s ⟨a, e, h⟩ => ⟨a, e, s _ _ h⟩
def selF (c : Sel) (q : V) : List (Str × V) := [("score", .int c.1), ("chosen", q)]
def SelAt (C : Addr) : Hp → V → Sel → Prop := fun H v c => ∃ p dx q, v = .ref p ∧ H p = some (.ins C dx (selF c q)) ∧ ListOf PairAt H q c.2
theorem SelAt.stays {C : Addr} : Stays (SelAt C) := fun H H' _ _ s ⟨p, dx, q, e, h, l⟩ => ⟨p, dx, q, e, s _ _ h, ListOf.stays PairAt.stays H H' _ _ s l⟩
def keysAre (kvs : List (Key × V)) (l : List Nat) : Prop := ∀ n : Nat, (valV kvs (Sum.inl (n : Int))).isSome = l.contains n
def textF (a b c d : V) : List (Str × V) := [("sentences", a), ("words", b), ("firsts", c), ("lasts", d)]
def DictKeys : Hp → V → List Nat → Prop := fun H v l => ∃ a kvs, v = .ref a ∧ H a = some (.dK kvs) ∧ keysAre kvs l
theorem DictKeys.stays : Stays DictKeys := fun _ _ _ _ s ⟨a, k, e, h, q⟩ => ⟨a, k, e, s _ _ h, q⟩
def TextAt (C : Addr) : Hp → V → List (List Nat) → Prop := fun H v ss => ∃ p dx a b c d, v = .ref p ∧ H p = some (.ins C dx (textF a b c d)) ∧ ListOf LstN H a ss ∧ LstN H b ss.flatten ∧ DictKeys H c (Rh12.firsts 1 ss) ∧ DictKeys H d (Rh12.lasts 1 ss)
theorem TextAt.stays {C : Addr} : Stays (TextAt C) := fun H H' _ _ s ⟨p, dx, a, b, c, d, e, h, h1, h2, h3, h4⟩ =>
  ⟨p, dx, a, b, c, d, e, s _ _ h, ListOf.stays LstN.stays H H' _ _ s h1, LstN.stays H H' _ _ s h2, DictKeys.stays H H' _ _ s h3, DictKeys.stays H H' _ _ s h4⟩
def qkv (q : List (Nat × Nat)) : List (Key × V) := q.map fun x => (Sum.inl (x.1 : Int), .int (x.2 : Int))
def QueryAt : Hp → V → List (Nat × Nat) → Prop := fun H v q => ∃ a, v = .ref a ∧ H a = some (.dK (qkv q))
theorem QueryAt.stays : Stays QueryAt := fun _ _ _ _ s ⟨a, e, h⟩ => ⟨a, e, s _ _ h⟩
def setF (s : Rh12.St) : List (Str × V) := [("different", .int (s.once : Int)), ("every", .int (s.each : Int)), ("begin", .int (s.head : Int)), ("end", .int (s.tail : Int)), ("cost", .int (s.cost : Int)), ("most", .int (s.wide : Int)), ("gap", .int (s.gap : Int))]
def SetAt (C : Addr) : Hp → V → Rh12.St → Prop := fun H v s => ∃ p dx, v = .ref p ∧ H p = some (.ins C dx (setF s))
theorem SetAt.stays {C : Addr} : Stays (SetAt C) := fun _ _ _ _ s ⟨p, dx, e, h⟩ => ⟨p, dx, e, s _ _ h⟩
def deskF (t p q s : V) : List (Str × V) := [("text", t), ("pairs", p), ("query", q), ("settings", s)]
structure Parts (CT CS : Addr) (H : Hp) (t p q st : V) (s : Rh12.St) : Prop where
  text : TextAt CT H t s.text
  pairs : ListOf PairAt H p s.ask
  query : QueryAt H q s.ask
  sets : SetAt CS H st s
def DeskAt (CT CS CD : Addr) (H : Hp) (a : Addr) (s : Rh12.St) : Prop := ∃ dx t p q st, H a = some (.ins CD dx (deskF t p q st)) ∧ Parts CT CS H t p q st s
theorem Parts.stay {CT CS : Addr} {H H' : Hp} {t p q st : V} {s : Rh12.St} (e : Same H H') (h : Parts CT CS H t p q st s) : Parts CT CS H' t p q st s :=
  ⟨TextAt.stays H H' _ _ e h.text, ListOf.stays PairAt.stays H H' _ _ e h.pairs, QueryAt.stays H H' _ _ e h.query, SetAt.stays H H' _ _ e h.sets⟩
theorem DeskAt.stay {CT CS CD : Addr} {H H' : Hp} {a : Addr} {s : Rh12.St} (e : Same H H') (h : DeskAt CT CS CD H a s) : DeskAt CT CS CD H' a s := by
  obtain ⟨dx, t, p, q, st, h1, h2⟩ := h
  exact ⟨dx, t, p, q, st, e _ _ h1, h2.stay e⟩
structure Ok (s : Rh12.St) : Prop where
  text : Rh12.isText s.text = true
  ask : Rh12.isAsk s.ask = true
  once : s.once ≤ 100
  each : s.each ≤ 100
  head : s.head ≤ 100
  tail : s.tail ≤ 100
  cost : s.cost ≤ 100
  wide1 : 1 ≤ s.wide
  wide2 : s.wide ≤ 20
  gap1 : 1 ≤ s.gap
  gap2 : s.gap ≤ 20
def Err (CR : Addr) (code : Int) (H : Hp) (E : XK) : Prop := ∀ d H', Same H H' → H d = none → H' d = some (.xd [(("code" : Str), .int code)]) → E (.ref CR) (some d) H'
theorem Err.same {CR : Addr} {code : Int} {H H' : Hp} {E : XK} (s : Same H H') (h : Err CR code H E) : Err CR code H' E := fun d H1 s1 n e => h d H1 (s.trans s1) (s.free n) e
def New {α : Type} (R : Hp → V → α → Prop) (x : α) (H : Hp) (Q : VK) : Prop := ∀ H' v, Same H H' → R H' v x → Q v H'
theorem New.same {α : Type} {R : Hp → V → α → Prop} {x : α} {H H' : Hp} {Q : VK} (s : Same H H') (h : New R x H Q) : New R x H' Q := fun H1 v s1 r => h H1 v (s.trans s1) r
def Val (v : V) (H : Hp) (Q : VK) : Prop := ∀ H', Same H H' → Q v H'
theorem Val.same {v : V} {H H' : Hp} {Q : VK} (s : Same H H') (h : Val v H Q) : Val v H' Q := fun H1 s1 => h H1 (s.trans s1)
section
variable (P : Program) (w : World) (K : PySem.W.Frag) (mg : Str → Option Value) (base : Heap)
structure FnAt (CX : CXT) (k : Nat) (x : Str) (ps : List Str) (sp : Sp) : Prop where
  ex : ∃ f fd, FnOk P w K mg base CX k f fd ps sp ∧ mg x = some (.ref f) ∧ PySem.W.keepIn K (.ref f) = true ∧ Binds K fd ps []
structure MtAt (CX : CXT) (k : Nat) (C : Addr) (m : Str) (ps : List Str) (sp : Sp) : Prop where
  ex : ∃ f fd, FnOk P w K mg base CX k f fd ps sp ∧ Meth K C m f ∧ Binds K fd ps []
structure MkAt (k : Nat) (C : Addr) (ps : List Str) (sp : Sp) : Prop where
  ex : ∃ f fd, FnOk P w K mg base CX0 k f fd ps sp ∧ Mk K C f ∧ Binds K fd ps []
end
structure Blt (mg : Str → Option Value) : Prop where
  len : mg "len" = none
  range : mg "range" = none
  all : mg "all" = none
  set : mg "set" = none
  sum : mg "sum" = none
  any : mg "any" = none
  min : mg "min" = none
  max : mg "max" = none
  int : mg "int" = none
  dict : mg "dict" = none
  sorted : mg "sorted" = none
  enumerate : mg "enumerate" = none
def KInt (mg : Str → Option Value) (x : Str) (i : Int) : Prop := ∃ t, mg x = some (.int i t)
theorem pe_k {X : Cx} {x : Str} {i : Int} {pos : Pos} (h : KInt X.mg x i) (hg : Gl X x := by rfl) (hd : (x == ("__debug__" : Str)) = false := by decide) : PE X (.Name x pos) (tC (.int i)) := by
  obtain ⟨t, h⟩ := h
  exact pe_glob hg h ⟨t, rfl⟩ hd
end Tp

/-! lists of numbers and ranks as data -/
namespace Tp
open PySem PySem.Spec PyProof.Rows L2
open TpM (Pas Trip Sel)
open PySem.W (dataLt alike alikeAll keyToks keyToksAll dataLt_all_yes dataLt_all_no dataLt_int dataLt_list dataLt_tuple)
variable {K : PySem.W.Frag} {H : Hp}
def natD (l : List Nat) : PyData := .list (l.map fun (n : Nat) => .int (n : Int))
theorem dp_all : ∀ l : List Nat, DpAll K H (nVs l) (l.map fun (n : Nat) => .int (n : Int))
  | [] => .nil
  | n :: l => .cons (.int _) (dp_all l)
theorem dp_nat {a : Addr} {l : List Nat} (h : SqL K H a (nVs l)) : Dp K H (.ref a) (natD l) := .lst h (dp_all l)
theorem can_nat : ∀ l : List Nat, PyData.canLayAll0 (l.map fun (n : Nat) => .int (n : Int)) = true
  | [] => rfl
  | n :: l => by
    rw [List.map_cons, PyData.canLayAll0, can_nat l]
    rfl
theorem dep_nat : ∀ l : List Nat, PyData.depthAll (l.map fun (n : Nat) => .int (n : Int)) ≤ 4
  | [] => by rw [List.map_nil, PyData.depthAll]; omega
  | n :: l => by
    have := dep_nat l
    rw [List.map_cons, PyData.depthAll]
    have e : PyData.depth (.int (n : Int)) ≤ 4 := by rw [PyData.depth] <;> omega
    omega
theorem shaped_nat (l : List Nat) : SeqAt.shaped (natD l) = true := by
  unfold SeqAt.shaped natD
  rw [PyData.canLay0, can_nat, Bool.true_and, PyData.depth]
  refine decide_eq_true ?_
  have := dep_nat l
  omega
theorem eqv_all : ∀ l m : List Nat, PyData.eqvAll (l.map fun (n : Nat) => .int (n : Int)) (m.map fun (n : Nat) => .int (n : Int)) = decide (l = m)
  | [], [] => by rw [List.map_nil, PyData.eqvAll]; rfl
  | [], _ :: _ => by rw [List.map_nil, List.map_cons, PyData.eqvAll]; rfl
  | _ :: _, [] => by rw [List.map_nil, List.map_cons, PyData.eqvAll]; rfl
  | a :: l, b :: m => by
    rw [List.map_cons, List.map_cons, PyData.eqvAll, eqv_all l m, PyData.eqv]
    by_cases c : a = b
    · subst c
      simp
    · have : ((a : Int) == (b : Int)) = false := beq_eq_false_iff_ne.mpr fun e => c (by omega)
      rw [this, Bool.false_and]
      refine (decide_eq_false fun e => c ?_).symm
      cases e; rfl
theorem eqv_nat (l m : List Nat) : PyData.eqv (natD l) (natD m) = decide (l = m) := by
  unfold natD
  rw [PyData.eqv, eqv_all]
/- ranks -/
def pasD (x : Pas) : PyData := .tuple [.int (x.1 : Int), .int (x.2 : Int)]
def pasL (l : List Pas) : PyData := .list (l.map pasD)
def rankD (c : Sel) : PyData := .tuple [.int (-c.1), .int (c.2.length : Nat), pasL c.2]
theorem alike_pas (x y : Pas) : alike (pasD x) (pasD y) = true := by
  unfold pasD; simp [alike, alikeAll]
theorem alike_pass : ∀ l m : List Pas, alikeAll (l.map pasD) (m.map pasD) = true
  | [], _ => by simp [alikeAll]
  | _ :: _, [] => by simp [alikeAll]
  | x :: l, y :: m => by rw [List.map_cons, List.map_cons, alikeAll, alike_pas, alike_pass l m]; rfl
theorem alike_rank (c d : Sel) : alike (rankD c) (rankD d) = true := by
  unfold rankD pasL
  simp [alike, alikeAll, alike_pass]
theorem toks_nil : PyProof.Rows.lexLt itemOrd (keyToksAll []) (keyToksAll []) = false := lex_irrefl _
theorem toks_nil_cons (x : PyData) (l : List PyData) : PyProof.Rows.lexLt itemOrd (keyToksAll []) (keyToksAll (x :: l)) = true := by
  rw [keyToksAll, keyToksAll]
  refine (lex_diff (O := itemOrd) (by simp)).trans ?_
  decide
theorem toks_cons_nil (x : PyData) (l : List PyData) : PyProof.Rows.lexLt itemOrd (keyToksAll (x :: l)) (keyToksAll []) = false := by
  rw [keyToksAll, keyToksAll]
  refine (lex_diff (O := itemOrd) (by simp)).trans ?_
  decide
theorem toks_one {x y : PyData} {l m : List PyData} (h : alike x y = true) : PyProof.Rows.lexLt itemOrd (keyToksAll (x :: l)) (keyToksAll (y :: m)) = if PyData.eqv x y = true then PyProof.Rows.lexLt itemOrd (keyToksAll l) (keyToksAll m) else dataLt x y := by
  cases e : PyData.eqv x y with
  | true => exact dataLt_all_yes h e
  | false => exact dataLt_all_no h e
theorem eqv_int (i j : Int) : PyData.eqv (.int i) (.int j) = decide (i = j) := by
  rw [PyData.eqv]
  exact (Bool.eq_iff_iff.mpr (by simp))
theorem alike_int (i j : Int) : alike (.int i) (.int j) = true := by simp [alike]
theorem eqv_pas (x y : Pas) : PyData.eqv (pasD x) (pasD y) = decide (x = y) := by
  unfold pasD
  rw [PyData.eqv, PyData.eqvAll, PyData.eqvAll, PyData.eqvAll, eqv_int, eqv_int, Bool.and_true, ← Bool.decide_and]
  refine decide_eq_decide.mpr ?_
  constructor
  · intro h
    exact Prod.ext (by omega) (by omega)
  · rintro rfl
    exact ⟨rfl, rfl⟩
theorem lt_pas (x y : Pas) : dataLt (pasD x) (pasD y) = if x.1 = y.1 then decide (x.2 < y.2) else decide (x.1 < y.1) := by
  unfold pasD
  rw [dataLt_tuple, toks_one (alike_int _ _), toks_one (alike_int _ _), toks_nil, eqv_int, eqv_int, dataLt_int, dataLt_int]
  by_cases c : x.1 = y.1
  · rw [if_pos c, if_pos (decide_eq_true (by omega))]
    by_cases d : x.2 = y.2
    · rw [if_pos (decide_eq_true (by omega)), decide_eq_false (by omega)]
    · rw [if_neg (by simp; omega)]
      exact decide_eq_decide.mpr (by omega)
  · rw [if_neg c, if_neg (by simp; omega)]
    exact decide_eq_decide.mpr (by omega)
theorem lt_pasL : ∀ l m : List Pas, PyProof.Rows.lexLt itemOrd (keyToksAll (l.map pasD)) (keyToksAll (m.map pasD)) = TpM.lexP l m
  | [], [] => toks_nil
  | [], _ :: _ => toks_nil_cons _ _
  | _ :: _, [] => toks_cons_nil _ _
  | x :: l, y :: m => by
    rw [List.map_cons, List.map_cons, toks_one (alike_pas x y), eqv_pas, lt_pas, lt_pasL l m]
    show _ = if x = y then _ else _
    by_cases c : x = y
    · rw [if_pos c, if_pos (decide_eq_true c)]
    · rw [if_neg c, if_neg (by simpa using c)]
theorem alike_pasL (l m : List Pas) : alike (pasL l) (pasL m) = true := by
  unfold pasL
  rw [alike, alike_pass]
theorem lt_rank (c d : Sel) : dataLt (rankD c) (rankD d) = TpM.rankLt c d := by
  unfold rankD TpM.rankLt
  rw [dataLt_tuple, toks_one (alike_int _ _), toks_one (alike_int _ _), toks_one (alike_pasL _ _), toks_nil, eqv_int, eqv_int, dataLt_int, dataLt_int]
  by_cases e1 : c.1 = d.1
  · rw [if_pos e1, if_pos (decide_eq_true (by omega))]
    by_cases e2 : c.2.length = d.2.length
    · rw [if_pos e2, if_pos (decide_eq_true (by omega))]
      have key : dataLt (pasL c.2) (pasL d.2) = TpM.lexP c.2 d.2 := by
        unfold pasL
        rw [dataLt_list, lt_pasL]
      rw [key]
      cases e3 : PyData.eqv (pasL c.2) (pasL d.2) with
      | false => rfl
      | true =>
        rw [if_pos rfl, ← key]
        unfold dataLt
        rw [(PySem.W.toks_eqv _ _ (alike_pasL _ _)).1 e3]
        exact (lex_irrefl (O := itemOrd) _).symm
    · rw [if_neg e2, if_neg (by simp; omega)]
      exact decide_eq_decide.mpr (by omega)
  · rw [if_neg e1, if_neg (by simp; omega)]
    exact decide_eq_decide.mpr (by omega)
theorem dp_pas {v : V} {x : Pas} (h : PairAt H v x) : Dp K H v (pasD x) := by
  obtain ⟨a, rfl, h⟩ := h
  exact .tup (SqT.of h) (.cons (.int _) (.cons (.int _) .nil))
theorem dp_pass : ∀ {vs : List V} {l : List Pas}, AllR (PairAt H) vs l → DpAll K H vs (l.map pasD)
  | _, _, .nil => .nil
  | _, _, .cons r t => .cons (dp_pas r) (dp_pass t)
theorem dep_pas (x : Pas) : PyData.depth (pasD x) ≤ 8 := by
  have e : ∀ i : Int, PyData.depth (.int i) ≤ 4 := fun i => by rw [PyData.depth] <;> omega
  unfold pasD
  have h1 := e (x.1 : Int)
  have h2 := e (x.2 : Int)
  rw [PyData.depth, PyData.depthAll, PyData.depthAll, PyData.depthAll]
  omega
theorem dep_pass : ∀ l : List Pas, PyData.depthAll (l.map pasD) ≤ 8
  | [] => by rw [List.map_nil, PyData.depthAll]; omega
  | x :: l => by
    have h1 := dep_pass l
    have h2 := dep_pas x
    rw [List.map_cons, PyData.depthAll]
    omega
theorem dep_rank (c : Sel) : (rankD c).depth ≤ 64 := by
  have e : ∀ i : Int, PyData.depth (.int i) ≤ 4 := fun i => by rw [PyData.depth] <;> omega
  have h1 := e (-c.1)
  have h2 := e (c.2.length : Nat)
  have h3 := dep_pass c.2
  unfold rankD pasL
  rw [PyData.depth, PyData.depthAll, PyData.depthAll, PyData.depthAll, PyData.depthAll, PyData.depth]
  omega
/- a list that is being made -/
def del (p : Addr) (H : Hp) : Hp := fun b => if b = p then none else H b
theorem del_at {p : Addr} {H : Hp} : del p H p = none := if_pos rfl
theorem del_ne {p b : Addr} {H : Hp} (h : b ≠ p) : del p H b = H b := if_neg h
theorem del_get {p b : Addr} {H : Hp} {o : HO} (h : del p H b = some o) : b ≠ p ∧ H b = some o := by
  by_cases e : b = p
  · subst e; rw [del_at] at h; cases h
  · rw [del_ne e] at h; exact ⟨e, h⟩
theorem del_same {p : Addr} {H : Hp} : Same (del p H) H := fun b o h => (del_get h).2
theorem del_but {p : Addr} {H H' : Hp} (s : SameBut p H H') : Same (del p H) (del p H') := fun b o h => by
  obtain ⟨n, h⟩ := del_get h
  rw [del_ne n]
  exact s b o n h
theorem del_new {p : Addr} {H H' : Hp} (h : H p = none) (s : Same H H') : Same H (del p H') := fun b o e => by
  rw [del_ne (ne_of_none e h)]
  exact s b o e
theorem del_upd {p : Addr} {H : Hp} {o : HO} : del p (upd H p o) = del p H := funext fun b => by
  by_cases e : b = p
  · subst e; rw [del_at, del_at]
  · rw [del_ne e, del_ne e, upd_ne e]
def Acc {α : Type} (R : Hp → V → α → Prop) (p : Addr) (H : Hp) (xs : List α) : Prop := ∃ vs, H p = some (.lst vs) ∧ AllR (R (del p H)) vs xs
section
variable {α : Type} {R : Hp → V → α → Prop} {p : Addr} {H H' : Hp} {xs : List α}
theorem Acc.start : Acc R p (upd H p (.lst [])) [] := ⟨[], upd_same, .nil⟩
theorem Acc.move (st : Stays R) (h : Acc R p H xs) (s : Same H H') : Acc R p H' xs := by
  obtain ⟨vs, h1, h2⟩ := h
  exact ⟨vs, s _ _ h1, h2.stay st (del_but (.of s))⟩
theorem Acc.snoc {vs : List V} {v : V} {x : α} (h : Acc R p H xs) (e : H p = some (.lst vs)) (r : R (del p H) v x) : Acc R p (upd H p (.lst (vs ++ [v]))) (xs ++ [x]) := by
  obtain ⟨ws, h1, h2⟩ := h
  rw [e] at h1
  cases h1
  refine ⟨_, upd_same, ?_⟩
  rw [del_upd]
  exact h2.snoc r
theorem Acc.done (st : Stays R) (h : Acc R p H xs) : ListOf R H (.ref p) xs := by
  obtain ⟨vs, h1, h2⟩ := h
  exact ⟨p, vs, rfl, h1, h2.stay st del_same⟩
theorem Acc.len {vs : List V} (h : Acc R p H xs) (e : H p = some (.lst vs)) : vs.length = xs.length := by
  obtain ⟨ws, h1, h2⟩ := h
  rw [e] at h1
  cases h1
  exact h2.len
theorem same_snoc {H0 : Hp} {o : HO} (h : H0 p = none) (s : Same H0 H) : Same H0 (upd H p o) := fun b u e => by
  rw [upd_ne (ne_of_none e h)]
  exact s b u e
end
def Fresh (H : Hp) (v : V) : Prop := ∃ p, v = .ref p ∧ H p = none
theorem Fresh.back {H H' : Hp} {v : V} (s : Same H H') (h : Fresh H' v) : Fresh H v := by
  obtain ⟨p, e, n⟩ := h
  exact ⟨p, e, s.free n⟩
theorem Fresh.backB {H H' : Hp} {v : V} {a : Addr} {o : HO} (s : SameBut a H H') (e : H' a = some o) (h : Fresh H' v) : Fresh H v := by
  obtain ⟨p, ev, n⟩ := h
  refine ⟨p, ev, ?_⟩
  have hne : p ≠ a := fun z => by subst z; rw [e] at n; cases n
  cases g : H p with
  | none => rfl
  | some u => rw [s p u hne g] at n; cases n
def NewF {α : Type} (R : Hp → V → α → Prop) (x : α) (H : Hp) (Q : VK) : Prop := ∀ H' v, Same H H' → R H' v x → Fresh H v → Q v H'
theorem sz1 : 1 ≤ sizeLine := by rw [sizeLine_eq]; omega
theorem sz2 : 2 ≤ sizeLine := by rw [sizeLine_eq]; omega
theorem sz3 : 3 ≤ sizeLine := by rw [sizeLine_eq]; omega
end Tp

namespace Tp
open PySem PySem.Spec PyProof.Rows L2
/-- a list of the caller's own lies apart: the callee is handed the heap without it -/
def spApart (sp : Sp) : Sp := fun vs H Q E => ∃ p xs, H p = some (.lst xs) ∧ sp vs (del p H) (fun v H' => H' p = none → Q v (upd H' p (.lst xs))) E
theorem apart_none {p b : Addr} {H : Hp} (h : H b = none) : del p H b = none := by
  by_cases e : b = p
  · subst e; exact del_at
  · rw [del_ne e]; exact h
theorem FnOk.apart {P : Program} {w : World} {K : PySem.W.Frag} {mg : Str → Option Value} {base : Heap} {k : Nat} {f : Addr} {fd : FuncData} {ps : List Str} {sp : Sp} (F : FnOk P w K mg base CX0 k f fd ps sp) : FnOk P w K mg base CX0 k f fd ps (spApart sp) := by
  refine ⟨fun vs H Q E h => ?_, fun A outer s H args us vs Q E hr he hb hv h => ?_⟩
  · obtain ⟨p, xs, _, h⟩ := h
    exact F.len _ _ _ _ h
  obtain ⟨p, xs, hp, h⟩ := h
  have npf : p ∉ frs outer := fun m => by
    have := he.frf p m
    rw [hp] at this; cases this
  have he2 : Env0 P w K mg base A outer s (del p H) := ⟨he.frames, he.mod, fun b o e => ⟨(he.bs b o e).1, apart_none (he.bs b o e).2⟩, he.bsz, he.funs, fun b m => apart_none (he.frf b m), fun a o e => by
    obtain ⟨na, e⟩ := del_get e
    refine (he.hok a o e).stay (fun b u _ q => q) (fun y q => ?_) fun b ys q => ?_
    · rw [del_ne (ne_of q hp (by intro z; cases z))]; exact q
    · rw [del_ne (ne_of q hp (by intro z; cases z))]; exact q, he.bare⟩
  refine codeAny_mono (F.run A outer s (del p H) args us vs _ E hr he2 hb hv h) fun r s1 hq => ?_
  cases r with
  | error e => exact False.elim hq
  | ok fl =>
    cases fl with
    | next => exact False.elim hq
    | brk => exact False.elim hq
    | cont => exact False.elim hq
    | ret u =>
      obtain ⟨v, H1, os, bare, un, hok, rv, q⟩ := hq
      obtain ⟨z, its, n, rx, e⟩ := he.hok p _ hp
      have e1 := un.keep p _ e del_at npf (by simp)
      have e2 := un.free p _ e del_at (by simp)
      have nn : ∀ {b : Addr} {o : HO}, H1 b = some o → b ≠ p := fun g z => by subst z; rw [e2] at g; cases g
      have hn : ∀ {b : Addr}, H b = none → b ≠ p := fun g z => by subst z; rw [hp] at g; cases g
      refine ⟨v, upd H1 p (.lst xs), os, bare, ⟨fun b o g h0 => un.keep b o g (apart_none h0), fun b o g h0 => un.slot b o g (apart_none h0), fun b o g h0 hx => ?_, un.there, fun b ys g => ?_, fun b o u2 g => ?_, fun b ys g => ?_⟩, fun a o g => ?_, rv, q e2⟩
      · rw [upd_ne (hn h0)]; exact un.free b o g (apart_none h0) hx
      · have nb : b ≠ p := ne_of g hp (by intro z; cases z)
        rw [upd_ne nb]; exact un.tups b ys (by rw [del_ne nb]; exact g)
      · have nb : b ≠ p := ne_of g hp (by intro z; cases z)
        rw [upd_ne nb]; exact un.frzs b o u2 (by rw [del_ne nb]; exact g)
      · have nb : b ≠ p := ne_of g hp (by intro z; cases z)
        rw [upd_ne nb]; exact un.tbls b ys (by rw [del_ne nb]; exact g)
      · by_cases ea : a = p
        · subst ea
          rw [upd_same] at g
          cases g
          exact ⟨z, its, n, rx, e1⟩
        · rw [upd_ne ea] at g
          refine (hok a o g).stay (fun b u _ q => q) (fun y q => ?_) fun b ys q => ?_
          · rw [upd_ne (nn q)]; exact q
          · rw [upd_ne (nn q)]; exact q
end Tp

namespace Tp
open PySem PySem.Spec PyProof.Rows L2
open TpM (Pas Trip Sel)
section
variable {P : Program} {w : World} {K : PySem.W.Frag} {mg : Str → Option Value} {base : Heap} {f : Addr} {fd : FuncData}
def spWordsOf : Sp := fun vs H Q _ => ∃ v ss, vs = [v] ∧ ListOf LstN H v ss ∧ ss.flatten.length ≤ 16777216 ∧ New LstN ss.flatten H Q
abbrev sWordsOf : Stmt := top 26
theorem scWordsOf : FnScope ["sentences", "found", "sentence"] ["sentences"] (defScope sWordsOf) := ⟨rfl, rfl, rfl, by decide +kernel, rfl, by decide +kernel, by decide +kernel⟩
theorem flat_take {ss : List (List Nat)} {i : Nat} {x : List Nat} (h : ss[i]? = some x) : (ss.take (i + 1)).flatten = (ss.take i).flatten ++ x := by
  rw [take_more h, List.flatten_append]; simp
theorem flat_take_le (ss : List (List Nat)) (i : Nat) : (ss.take i).flatten.length ≤ ss.flatten.length := by
  have h := congrArg (fun l => (List.flatten l).length) (List.take_append_drop i ss)
  simp only [List.flatten_append, List.length_append] at h
  omega
theorem ok_words_of (F : Fun K "words_of" "words_of" sWordsOf f fd) : FnOk P w K mg base CX0 1 f fd ["sentences"] spWordsOf := by
  refine F.ok scWordsOf (fun vs H Q E h => ?_) (fun cdv A outer s H vs Q E hr h => ⟨_, pss_cons (ps_set (i := 1) scWordsOf.nd rfl (Or.inl rfl) (pe_lst pa_nil))
    (pss_cons (ps_for PassesOwn.never rfl (pi_list (pv 0)) (pg_name (i := 2) scWordsOf.nd rfl (Or.inl rfl))
      (pss_one (ps_expr (pe_bm PySem.F.plainAttrs_list PySem.F.slot_list_extend PySem.F.type_list_extend mt_extend (pv 1) (pa_cons (pv 2) pa_nil)))))
    (pss_one (ps_ret (pv 1)))), ?_⟩)
  · obtain ⟨v, ss, rfl, _⟩ := h; rfl
  obtain ⟨v, ss, rfl, ⟨a, us, rfl, ha, hs⟩, hlen, k⟩ := h
  refine ⟨Nat.zero_le _, fun p np => ?_⟩
  have s0 : Same H (upd H p (.lst [])) := same_upd np
  refine ⟨_, rfl, a, rfl, ⟨_, SqL.of (s0 _ _ ha)⟩, for_list (K := K) (a := a) (xs := us) (fun i σ H' => ∃ v, σ = [some (.ref a), some (.ref p), v] ∧ Same H H' ∧ H' p = some (.lst (nVs (ss.take i).flatten)))
    ⟨none, rfl, s0, upd_same⟩ (fun i σ H' _ ⟨_, _, s1, _⟩ => SqL.of (s1 _ _ ha)) ?_ ?_⟩
  · rintro i y σ H' hi ⟨v, rfl, s1, hp⟩
    obtain ⟨x, hx, b, rfl, hb⟩ := hs.get hi
    have e := flat_take hx
    refine ⟨_, rfl, .inl ⟨rfl, _, SqL.of hp⟩, _, rfl, _, _, _, _, rfl, rfl, hp, s1 _ _ hb, ?_, some (.ref b), rfl, fun c o q => ?_, ?_⟩
    · rw [nVs_len, nVs_len, ← List.length_append, ← e]
      exact line_ok (Nat.le_trans (flat_take_le ss (i + 1)) hlen)
    · rw [upd_ne (ne_of_none q np)]; exact s1 _ _ q
    · rw [upd_same, e, nVs_app]
  · rintro σ H' ⟨v, rfl, s1, hp⟩
    rw [hs.len, List.take_length] at hp
    exact ⟨_, rfl, k H' _ s1 ⟨p, rfl, hp⟩⟩
def spIsSmall : Sp := fun vs H Q _ => ∃ v ss, vs = [v] ∧ ListOf LstN H v ss ∧ ss.length ≤ 1000 ∧ ss.flatten.length ≤ 1000 ∧ Val (.bl (decide (ss.length ≤ 20) && decide (ss.flatten.length ≤ 60))) H Q
abbrev sIsSmall : Stmt := top 27
theorem scIsSmall : FnScope ["sentences"] ["sentences"] (defScope sIsSmall) := ⟨rfl, rfl, rfl, by decide +kernel, rfl, by decide +kernel, by decide +kernel⟩
theorem decN {a b : Nat} : decide ((a : Int) ≤ (b : Int)) = decide (a ≤ b) := decide_eq_decide.mpr (by omega)
theorem ok_is_small (F : Fun K "is_small" "is_small" sIsSmall f fd) (B : Blt mg) (W : FnAt P w K mg base CX0 1 "words_of" ["sentences"] spWordsOf) (k1 : KInt mg "MOST_SENTENCES" 20) (k2 : KInt mg "MOST_WORDS" 60) : FnOk P w K mg base CX0 2 f fd ["sentences"] spIsSmall := by
  obtain ⟨fW, fdW, GW, gW, kW, bW⟩ := W.ex
  refine F.ok scIsSmall (fun vs H Q E h => ?_) (fun cdv A outer s H vs Q E hr h => ⟨_, pss_one (ps_ret
    (pe_and (pe_cmpR op_le (pe_callB call_len_seq (by rfl) B.len PySem.boot_len (pa_cons (pv 0) pa_nil)) (pe_k k1) (nomark _))
      (pe_one (pe_cmpR op_le (pe_callB call_len_seq (by rfl) B.len PySem.boot_len (pa_cons (pe_call GW hr rfl gW kW bW .nil pass0 (pa_cons (pv 0) pa_nil)) pa_nil)) (pe_k k2) (nomark _))))), ?_⟩)
  · obtain ⟨v, ss, rfl, _⟩ := h; rfl
  obtain ⟨v, ss, rfl, ⟨a, us, rfl, ha, hs⟩, hl1, hl2, k⟩ := h
  refine ⟨_, rfl, a, us, rfl, .inl (SqL.of ha), _, _, rfl, rfl, _, rfl, ?_⟩
  have e1 : decide (((us.length : Nat) : Int) ≤ 20) = decide (ss.length ≤ 20) := by rw [hs.len]; exact decN (b := 20)
  rw [e1]
  by_cases c : ss.length ≤ 20
  · rw [decide_eq_true c, Bool.true_and] at k
    rw [decide_eq_true c]
    refine iteT ⟨_, rfl, _, _, rfl, ⟨a, us, rfl, ha, hs⟩, by omega, fun H1 v s1 ⟨b, ev, hb⟩ => ?_⟩
    subst ev
    refine ⟨b, _, rfl, .inl (SqL.of hb), _, _, rfl, rfl, ?_⟩
    have e2 : decide ((((nVs ss.flatten).length : Nat) : Int) ≤ 60) = decide (ss.flatten.length ≤ 60) := by rw [nVs_len]; exact decN (b := 60)
    show Q (V.bl (decide ((((nVs ss.flatten).length : Nat) : Int) ≤ 60))) H1
    rw [e2]
    exact k H1 s1
  · rw [decide_eq_false c, Bool.false_and] at k
    rw [decide_eq_false c]
    exact iteF (k H (Same.refl H))
def spIsText : Sp := fun vs H Q _ => ∃ v ss, vs = [v] ∧ ListOf LstN H v ss ∧ ss.length ≤ 1000 ∧ ss.flatten.length ≤ 1000 ∧ Val (.bl ((decide (ss.length ≤ 20) && decide (ss.flatten.length ≤ 60)) && ss.flatten.all fun w => decide (w ≤ 40))) H Q
abbrev sIsText : Stmt := top 28
theorem scIsText : FnScope ["sentences", "word"] ["sentences"] (defScope sIsText) := ⟨rfl, rfl, rfl, by decide +kernel, rfl, by decide +kernel, by decide +kernel⟩
theorem ok_is_text (F : Fun K "is_text" "is_text" sIsText f fd) (B : Blt mg) (W : FnAt P w K mg base CX0 1 "words_of" ["sentences"] spWordsOf) (S : FnAt P w K mg base CX0 2 "is_small" ["sentences"] spIsSmall) (k1 : KInt mg "MOST_WORD_texts" 40) : FnOk P w K mg base CX0 3 f fd ["sentences"] spIsText := by
  obtain ⟨fW, fdW, GW, gW, kW, bW⟩ := W.ex
  obtain ⟨fS, fdS, GS, gS, kS, bS⟩ := S.ex
  refine F.ok scIsText (fun vs H Q E h => ?_) (fun cdv A outer s H vs Q E hr h => ⟨_, pss_one (ps_ret
    (pe_and (pe_call GS hr rfl gS kS bS .nil pass0 (pa_cons (pv 0) pa_nil))
      (pe_one (pe_callB (cr_all rfl) (by rfl) B.all (by decide +kernel) (pa_cons (pe_lc (own := [("word", 1)]) (g := gName 1) (tt := tYes) rfl scIsText.nd
        (pi_list (pe_call GW (hr.mono (by decide)) rfl gW kW bW .nil pass0 (pa_cons (pv 0) pa_nil))) (blkOk_by (N := ["sentences", "word"]) (sc := defScope sIsText) (by decide +kernel))
        (fun _ _ _ _ _ => pg_name (i := 1) scIsText.nd rfl (Or.inl rfl)) (fun _ _ _ _ _ => pts_nil)
        (fun _ _ _ _ _ => pe_cmpR op_le (pv 1) (pe_k k1) (nomark _))) pa_nil))))), ?_⟩)
  · obtain ⟨v, ss, rfl, _⟩ := h; rfl
  obtain ⟨v, ss, rfl, hv, hl1, hl2, k⟩ := h
  refine ⟨_, rfl, v, ss, rfl, hv, hl1, hl2, fun H1 s1 => ?_⟩
  refine ⟨_, rfl, ?_⟩
  cases c : decide (ss.length ≤ 20) && decide (ss.flatten.length ≤ 60) with
  | false =>
    rw [c, Bool.false_and] at k
    exact iteF (k H1 s1)
  | true =>
    rw [c, Bool.true_and] at k
    refine iteT ⟨_, rfl, v, ss, rfl, ListOf.stays LstN.stays H H1 _ _ s1 hv, by omega, fun H2 v2 s2 ⟨b, ev, hb⟩ => ?_⟩
    subst ev
    refine ⟨b, rfl, ⟨_, SqL.of hb⟩, fun D hD => lc_list (K := K) (a := b) (xs := nVs ss.flatten) (fun i H' => Same H2 H' ∧ H' D = some (.lst (((ss.flatten.take i).map fun w => decide (w ≤ 40)).map V.bl)))
      ⟨same_upd hD, upd_same⟩ (fun i H' _ ⟨s3, _⟩ => SqL.of (s3 _ _ hb)) ?_ ?_⟩
    · rintro i y H' hi ⟨s3, hd⟩
      obtain ⟨n, hn, rfl⟩ := nVs_get hi
      refine ⟨rfl, _, rfl, _, _, rfl, rfl, _, hd, ?_, fun c o q => ?_, ?_⟩
      · rw [List.length_map, List.length_map, List.length_take]
        exact line_lt (by omega)
      · rw [upd_ne (ne_of_none q hD)]; exact s3 _ _ q
      · rw [upd_same, take_more hn, List.map_append, List.map_append]
        show _ = some (HO.lst (_ ++ [V.bl (decide (n ≤ 40))]))
        rw [← decN]; rfl
    · rintro H' ⟨s3, hd⟩
      rw [nVs_len, List.take_length] at hd
      refine ⟨D, _, rfl, SqL.of hd, ?_⟩
      have e : (ss.flatten.map fun w => decide (w ≤ 40)).all id = ss.flatten.all fun w => decide (w ≤ 40) := by rw [List.all_map]; rfl
      show Q (V.bl ((ss.flatten.map fun w => decide (w ≤ 40)).all id)) H'
      rw [e]
      exact k H' (s1.trans (s2.trans s3))
def spSentencesOf : Sp := fun vs H Q _ => ∃ v ns, vs = [v] ∧ LstN H v ns ∧ ns.length ≤ 1000 ∧ (match Rh12.sentences [] ns with
  | none => Val .non H Q
  | some t => New (ListOf LstN) t H Q)
abbrev sSentencesOf : Stmt := top 25
theorem scSentencesOf : FnScope ["numbers", "found", "sentence", "number"] ["numbers"] (defScope sSentencesOf) := ⟨rfl, rfl, rfl, by decide +kernel, rfl, by decide +kernel, by decide +kernel⟩
theorem sent_zero (c : List Nat) (l : List Nat) : Rh12.sentences c (0 :: l) = match c with
      | [] => none
      | _ :: _ => (Rh12.sentences [] l).map fun r => c :: r := by
  cases c <;> rfl
theorem sent_pos {c : List Nat} {x : Nat} {l : List Nat} (h : 0 < x) : Rh12.sentences c (x :: l) = Rh12.sentences (c ++ [x]) l := by
  cases c with
  | nil => show (if x = 0 then _ else _) = _; rw [if_neg (by omega)]
  | cons a c => show (if x = 0 then _ else _) = _; rw [if_neg (by omega)]
theorem drop_at {α : Type} {l : List α} {i : Nat} {x : α} (h : l[i]? = some x) : l.drop i = x :: l.drop (i + 1) := by
  obtain ⟨hi, e⟩ := List.getElem?_eq_some_iff.mp h
  rw [List.drop_eq_getElem_cons hi, e]
theorem ok_sentences_of (F : Fun K "sentences_of" "sentences_of" sSentencesOf f fd) : FnOk P w K mg base CX0 1 f fd ["numbers"] spSentencesOf := by
  refine F.ok scSentencesOf (fun vs H Q E h => ?_) (fun cdv A outer s H vs Q E hr h => ⟨_, pss_cons (ps_par (i := 1) (j := 2) (by rfl) scSentencesOf.nd rfl rfl (by decide) rfl rfl (pa_cons (pe_lst pa_nil) (pa_cons (pe_lst pa_nil) pa_nil)) (by rfl))
    (pss_cons (ps_for PassesOwn.never rfl (pi_list (pv 0)) (pg_name (i := 3) scSentencesOf.nd rfl (Or.inl rfl))
      (pss_one (ps_if (pt_cmpR op_gt (pv 3) pe_int (nomark _))
        (pss_one (ps_set (i := 2) scSentencesOf.nd rfl (Or.inl rfl) (pe_op op_cat (pv 2) (pe_lst (pa_cons (pv 3) pa_nil)))))
        (pss_one (ps_if (pt_cmpR (op_eqD hr.units) (pv 2) (pe_lst pa_nil) (nomark _)) (pss_one (ps_ret pe_non))
          (pss_cons (ps_expr (pe_bm PySem.F.plainAttrs_list PySem.F.slot_list_append PySem.F.type_list_append mt_append (pv 1) (pa_cons (pv 2) pa_nil)))
            (pss_one (ps_set (i := 2) scSentencesOf.nd rfl (Or.inl rfl) (pe_lst pa_nil)))))))))
    (pss_one (ps_ret (pe_ifExp (pt_cmpR (op_eqD hr.units) (pv 2) (pe_lst pa_nil) (nomark _)) (pv 1) pe_non)))), ?_⟩)
  · obtain ⟨v, ns, rfl, _⟩ := h; rfl
  obtain ⟨v, ns, rfl, ⟨a, rfl, ha⟩, hlen, k⟩ := h
  refine ⟨Nat.zero_le _, fun p np => ⟨Nat.zero_le _, fun c nc => ?_⟩⟩
  have s0 : Same H (upd H p (.lst [])) := same_upd np
  have s1 : Same (upd H p (.lst [])) (upd (upd H p (.lst [])) c (.lst [])) := same_upd nc
  have hcp : c ≠ p := fun e => by subst e; rw [upd_same] at nc; cases nc
  refine ⟨_, _, rfl, _, rfl, a, rfl, ⟨_, SqL.of ((s0.trans s1) _ _ ha)⟩, for_list (K := K) (a := a) (xs := nVs ns) (fun i σ H' => ∃ cv v Fd sent, σ = [some (.ref a), some (.ref p), some cv, v] ∧ Same H H' ∧ Acc LstN p H' Fd ∧ LstN (del p H') cv sent ∧ Fd.length ≤ i ∧ sent.length ≤ i ∧ Rh12.sentences [] ns = (Rh12.sentences sent (ns.drop i)).map (Fd ++ ·))
    ⟨.ref c, none, [], [], rfl, s0.trans s1, Acc.start.move LstN.stays s1, ⟨c, rfl, by rw [del_ne hcp]; exact upd_same⟩, Nat.le_refl _, Nat.le_refl _, by simp⟩ (fun i σ H' _ ⟨_, _, _, _, _, s1, _⟩ => SqL.of (s1 _ _ ha)) ?_ ?_⟩
  · rintro i y σ H' hi ⟨cv, v, Fd, sent, rfl, s2, hF, ⟨c2, rfl, hc2⟩, l1, l2, e⟩
    obtain ⟨n, hn, rfl⟩ := nVs_get hi
    have hi2 := lt_of_get hn
    obtain ⟨nc2, hc2⟩ := del_get hc2
    rw [drop_at hn] at e
    refine ⟨_, rfl, _, _, rfl, rfl, _, rfl, ite2 (fun hpos => ?_) fun hpos => ?_⟩
    · have hpos : 0 < n := by have := of_decide_eq_true hpos; omega
      rw [sent_pos hpos] at e
      refine ⟨_, rfl, _, rfl, sz1, fun l hl => ⟨_, _, _, _, rfl, rfl, same_upd hl _ _ hc2, upd_same, ?_, fun q hq => ?_⟩⟩
      · rw [nVs_len]
        exact line_ok (by simp; omega)
      · have s3 := (same_upd (o := .lst [V.int (n : Int)]) hl).trans (same_upd (o := .lst (nVs sent ++ [V.int (n : Int)])) hq)
        have hqp : q ≠ p := fun e => by
          subst e
          obtain ⟨vs, h1, _⟩ := hF
          rw [same_upd hl _ _ h1] at hq; cases hq
        refine ⟨.ref q, _, Fd, sent ++ [n], rfl, s2.trans s3, hF.move LstN.stays s3, ⟨q, rfl, ?_⟩, by omega, by simp; omega, e⟩
        rw [del_ne hqp, upd_same, nVs_snoc]
    · have hz : n = 0 := by have : ¬ ((0:Int) < n) := fun h => hpos (decide_eq_true h); omega
      subst hz
      rw [sent_zero] at e
      refine ⟨_, rfl, Nat.zero_le _, fun l hl => ⟨natD sent, natD [], dp_nat (SqL.of (same_upd hl _ _ hc2)), dp_nat (SqL.of upd_same), shaped_nat _, shaped_nat _, _, rfl, ?_⟩⟩
      rw [eqv_nat]
      refine ite2 (fun he => ?_) fun he => ?_
      · have he := of_decide_eq_true he
        subst he
        rw [e] at k
        exact k _ (s2.trans (same_upd hl))
      · cases sent with
        | nil => exact absurd (decide_eq_true rfl) he
        | cons u sent =>
          have s3 := same_upd (o := .lst []) hl
          obtain ⟨vs, hp, hF2⟩ := id hF
          have hlp : l ≠ p := fun e => by subst e; rw [hp] at hl; cases hl
          refine ⟨_, rfl, .inl ⟨rfl, _, SqL.of (s3 _ _ hp)⟩, _, rfl, _, _, _, rfl, rfl, s3 _ _ hp, ?_, Nat.zero_le _, fun q hq => ?_⟩
          · rw [hF2.len]
            exact line_lt (by omega)
          · have hF3 := (hF.move LstN.stays s3).snoc (s3 _ _ hp) (v := .ref c2) (x := u :: sent) ⟨c2, rfl, by rw [del_ne nc2]; exact s3 _ _ hc2⟩
            have s4 := same_upd (o := .lst []) hq
            have hqp : q ≠ p := fun e => by subst e; rw [upd_same] at hq; cases hq
            refine ⟨.ref q, _, _, [], rfl, (same_snoc np (s2.trans s3)).trans s4, hF3.move LstN.stays s4, ⟨q, rfl, by rw [del_ne hqp, upd_same]; rfl⟩, by simp; omega, by simp, ?_⟩
            rw [e]
            simp only [Option.map_map]
            congr 1
            funext r
            simp
  · rintro σ H' ⟨cv, v, Fd, sent, rfl, s2, hF, ⟨c2, rfl, hc2⟩, l1, l2, e⟩
    rw [nVs_len, List.drop_length] at e
    obtain ⟨nc2, hc2⟩ := del_get hc2
    refine ⟨_, rfl, Nat.zero_le _, fun l hl => ⟨natD sent, natD [], dp_nat (SqL.of (same_upd hl _ _ hc2)), dp_nat (SqL.of upd_same), shaped_nat _, shaped_nat _, _, rfl, ?_⟩⟩
    rw [eqv_nat]
    have s3 := same_upd (o := .lst []) hl
    refine ite2 (fun he => ?_) fun he => ?_
    · have he := of_decide_eq_true he
      subst he
      rw [e] at k
      have k : New (ListOf LstN) (Fd ++ []) H Q := k
      rw [List.append_nil] at k
      exact ⟨_, rfl, k _ _ (s2.trans s3) ((hF.move LstN.stays s3).done LstN.stays)⟩
    · cases sent with
      | nil => exact absurd (decide_eq_true rfl) he
      | cons u sent =>
        rw [e] at k
        exact k _ (s2.trans s3)
end
end Tp

namespace Tp
open PySem PySem.Spec PyProof.Rows L2
open TpM (Pas Trip Sel)
structure ClsAt (K : PySem.W.Frag) (mg : Str → Option Value) (C : Addr) (nm : Str) (fs : List Str) : Prop where
  cl : Cls K C
  no : ∀ f ∈ fs, NoAttr K C f
  g : mg nm = some (.ref C)
abbrev tFs : List Str := ["sentences", "words", "firsts", "lasts"]
abbrev sFs : List Str := ["different", "every", "begin", "end", "cost", "most", "gap"]
abbrev dFs : List Str := ["text", "pairs", "query", "settings"]
abbrev cFs : List Str := ["score", "chosen"]
section
variable {P : Program} {w : World} {K : PySem.W.Frag} {mg : Str → Option Value} {base : Heap} {f : Addr} {fd : FuncData}
/- demand -/
def spDemand (CR : Addr) : Sp := fun vs H Q E => ∃ b c, vs = [.bl b, .int c] ∧ (b = true → Q .non H) ∧ (b = false → Err CR c H E)
abbrev sDemand : Stmt := top 40
theorem scDemand : FnScope ["is_right", "code"] ["is_right", "code"] (defScope sDemand) := ⟨rfl, rfl, rfl, by decide +kernel, rfl, by decide +kernel, by decide +kernel⟩
theorem ok_demand {CR fR : Addr} (F : Fun K "demand" "demand" sDemand f fd) (T : PySem.RefX.RefTxt K mg CR fR) : FnOk P w K mg base (L2.CX P w) 3 f fd ["is_right", "code"] (spDemand CR) := by
  refine F.okX scDemand (fun vs H Q E h => ?_) (fun cdv A outer s H vs Q E hr h => ⟨_, pss_one (ps_if (pt_not (pt_val (pv 0))) (pss_one (ps_raiseRef rfl T hr (takes_of rfl rfl rfl rfl) (pa_cons (pv 1) pa_nil))) pss_nil), ?_⟩)
  · obtain ⟨b, c, rfl, _⟩ := h; rfl
  obtain ⟨b, c, rfl, k1, k2⟩ := h
  refine ⟨_, rfl, _, rfl, ?_⟩
  cases b with
  | true => exact k1 rfl
  | false => exact ⟨_, rfl, _, rfl, fun d hd => k2 rfl d _ (same_upd hd) hd upd_same⟩
/- Text -/
def spTextInit (C : Addr) : Sp := fun vs H Q _ => ∃ p dx v ss, vs = [.ref p, v] ∧ H p = some (.ins C dx []) ∧ ListOf LstN H v ss ∧ ss.length ≤ 1000 ∧ ss.flatten.length ≤ 1000 ∧ ∀ H', SameBut p H H' → TextAt C H' (.ref p) ss → Q .non H'
abbrev sTextInit : Stmt := meth 29 0
theorem scTextInit : FnScope ["self", "sentences", "at", "sentence"] ["self", "sentences"] (defScope sTextInit) := ⟨rfl, rfl, rfl, by decide +kernel, rfl, by decide +kernel, by decide +kernel⟩
theorem put_le (c : List (Key × V)) (k : Key) (x : V) : (putK c k x).length ≤ c.length + 1 := by
  unfold putK
  split
  · rw [List.length_map]; omega
  · rw [List.length_append, List.length_singleton]; omega
theorem keys_put {kvs : List (Key × V)} {l : List Nat} {n : Nat} (v : V) (h : keysAre kvs l) : keysAre (putK kvs (Sum.inl (n : Int)) v) (l ++ [n]) := by
  intro m
  rw [valV_put]
  by_cases e : m = n
  · subst e
    rw [if_pos rfl]
    simp
  · rw [if_neg (fun z => e (by have := Sum.inl.inj z; omega)), h m]
    simp [e]
theorem ok_textInit {C : Addr} (F : Fun K "__init__" "Text.__init__" sTextInit f fd) (B : Blt mg) (T : ClsAt K mg C "Text" tFs) (W : FnAt P w K mg base CX0 1 "words_of" ["sentences"] spWordsOf) : FnOk P w K mg base CX0 2 f fd ["self", "sentences"] (spTextInit C) := by
  obtain ⟨fW, fdW, GW, gW, kW, bW⟩ := W.ex
  refine F.ok scTextInit (fun vs H Q E h => ?_) (fun cdv A outer s H vs Q E hr h => ⟨_, pss_cons (ps_fld (pv 0) (pv 1) rfl)
    (pss_cons (ps_fld (pv 0) (pe_call GW hr rfl gW kW bW .nil pass0 (pa_cons (pv 1) pa_nil)) rfl)
    (pss_cons (ps_fld (pv 0) pe_dnewK rfl)
    (pss_cons (ps_fld (pv 0) pe_dnewK rfl)
    (pss_cons (ps_set (i := 2) scTextInit.nd rfl (Or.inl rfl) pe_int)
    (pss_one (ps_for PassesOwn.never rfl (pi_list (pv 1)) (pg_name (i := 3) scTextInit.nd rfl (Or.inl rfl))
      (pss_cons (ps_dput (hu_of hr) (pe_fld (pv 0) rfl) (pe_op op_add (pv 2) pe_int) pe_bl rfl)
      (pss_cons (ps_aug (i := 2) scTextInit.nd rfl (Or.inl rfl) (pe_callB call_len_seq (by rfl) B.len PySem.boot_len (pa_cons (pv 3) pa_nil)) ip_add)
      (pss_one (ps_dput (hu_of hr) (pe_fld (pv 0) rfl) (pv 2) pe_bl rfl)))))))))), ?_⟩)
  · obtain ⟨p, dx, v, ss, rfl, _⟩ := h; rfl
  obtain ⟨p, dx, v, ss, rfl, hp, ⟨a, us, rfl, ha, hs⟩, hl1, hl2, k⟩ := h
  have nap : a ≠ p := ne_of ha hp (by intro z; cases z)
  have hsm : (Same H H → True) := fun _ => trivial
  refine ⟨_, rfl, _, rfl, p, C, dx, _, rfl, hp, T.cl, T.no _ (.head _), (by show 0 < 1000; decide), ?_⟩
  have b1 : SameBut p H (upd H p (.ins C dx (putF "sentences" (.ref a) []))) := (SameBut.refl p H).upd
  have hs1 : AllR (LstN (upd H p (.ins C dx (putF "sentences" (.ref a) [])))) us ss := hs.mono fun v x ⟨b, e, h⟩ => ⟨b, e, b1 _ _ (ne_of h hp (by intro z; cases z)) h⟩
  refine ⟨_, rfl, .ref a, ss, rfl, ⟨a, us, rfl, b1 _ _ nap ha, hs1⟩, by omega, fun H1 wv s1 ⟨wl, ew, hw⟩ => ?_⟩
  subst ew
  have hp1 : H1 p = some (.ins C dx (putF "sentences" (.ref a) [])) := s1 _ _ upd_same
  refine ⟨_, rfl, p, C, dx, _, rfl, hp1, T.cl, T.no _ (.tail _ (.head _)), (by show 1 < 1000; decide), ?_⟩
  have nwp : wl ≠ p := ne_of hw hp1 (by intro z; cases z)
  have b2 : SameBut p H (upd H1 p (.ins C dx (putF "words" (.ref wl) (putF "sentences" (.ref a) [])))) := (b1.trans (.of s1)).upd
  intro d1 hd1
  have np1 : p ≠ d1 := ne_of_none upd_same hd1
  refine ⟨_, rfl, p, C, dx, _, rfl, (by rw [upd_ne np1]; exact upd_same), T.cl, T.no _ (.tail _ (.tail _ (.head _))), (by show 2 < 1000; decide), ?_⟩
  intro d2 hd2
  have np2 : p ≠ d2 := ne_of_none upd_same hd2
  have nd12 : d1 ≠ d2 := fun e => by subst e; rw [upd_ne np1.symm, upd_same] at hd2; cases hd2
  refine ⟨_, rfl, p, C, dx, _, rfl, (by rw [upd_ne np2]; exact upd_same), T.cl, T.no _ (.tail _ (.tail _ (.tail _ (.head _)))), (by show 3 < 1000; decide), ?_⟩
  have hd1H : H d1 = none := by
    cases e : H d1 with
    | none => rfl
    | some o => rw [b2 _ _ np1.symm e] at hd1; cases hd1
  have nd2 : d2 ≠ p := np2.symm
  have hd2H : H d2 = none := by
    cases e : H d2 with
    | none => rfl
    | some o =>
      have := b2 _ _ nd2 e
      have e2 : d2 ≠ d1 := nd12.symm
      rw [upd_ne nd2, upd_ne e2, this] at hd2
      cases hd2
  have hwd1 : wl ≠ d1 := ne_of_none (by rw [upd_ne nwp]; exact hw) hd1
  have hwd2 : wl ≠ d2 := ne_of_none (by rw [upd_ne nwp, upd_ne hwd1, upd_ne nwp]; exact hw) hd2
  refine ⟨_, rfl, a, rfl, ⟨us, SqL.of ?_⟩, for_list (K := K) (a := a) (xs := us) (fun i σ H' => ∃ v k1 k2, σ = [some (.ref p), some (.ref a), some (.int ((ss.take i).flatten.length : Nat)), v] ∧ SameBut p H H' ∧
      H' p = some (.ins C dx (textF (.ref a) (.ref wl) (.ref d1) (.ref d2))) ∧ H' wl = some (.lst (nVs ss.flatten)) ∧ H' d1 = some (.dK k1) ∧ H' d2 = some (.dK k2) ∧ k1.length ≤ i ∧ k2.length ≤ i ∧ keysAre k1 (Rh12.firsts 1 (ss.take i)) ∧ keysAre k2 (Rh12.lasts 1 (ss.take i)))
    ⟨none, [], [], rfl, fun b o n e => ?_, upd_same, ?_, ?_, ?_, Nat.le_refl _, Nat.le_refl _, fun n => rfl, fun n => rfl⟩ (fun i σ H' _ ⟨_, _, _, _, s1, _⟩ => SqL.of (s1 _ _ nap ha)) ?_ ?_⟩
  · have e1 : a ≠ d1 := ne_of_none ha hd1H
    have e2 : a ≠ d2 := ne_of_none ha hd2H
    rw [upd_ne nap, upd_ne e2, upd_ne nap, upd_ne e1]
    exact b2 _ _ nap ha
  · have e1 : b ≠ d1 := ne_of_none e hd1H
    have e2 : b ≠ d2 := ne_of_none e hd2H
    rw [upd_ne n, upd_ne e2, upd_ne n, upd_ne e1]
    exact b2 _ _ n e
  · rw [upd_ne nwp, upd_ne hwd2, upd_ne nwp, upd_ne hwd1, upd_ne nwp]
    exact hw
  · rw [upd_ne np1.symm, upd_ne nd12, upd_ne np1.symm, upd_same]
  · rw [upd_ne nd2, upd_same]
  · rintro i y σ H' hi ⟨v, k1, k2, rfl, s1, hp', hw', h1, h2, l1, l2, q1, q2⟩
    obtain ⟨x, hx, b, rfl, hb⟩ := hs.get hi
    have hix := lt_of_get hx
    have hbp : b ≠ p := ne_of hb hp (by intro z; cases z)
    refine ⟨_, rfl, p, C, dx, _, _, rfl, hp', T.cl, T.no _ (.tail _ (.tail _ (.head _))), rfl, _, rfl, _, _, rfl, rfl, d1, _, rfl, DPut.k (k := Sum.inl (((ss.take i).flatten.length : Nat) + 1 : Int)) h1 (line_lt (by omega)), ?_⟩
    have hb2 : H' b = some (.lst (nVs x)) := s1 _ _ hbp hb
    have hbd1 : b ≠ d1 := ne_of hb2 h1 (by intro z; cases z)
    refine ⟨_, rfl, _, rfl, b, _, rfl, .inl (SqL.of (by rw [upd_ne hbd1]; exact hb2)), _, _, rfl, rfl, ?_⟩
    refine ⟨_, rfl, p, C, dx, _, _, rfl, (by rw [upd_ne np1]; exact hp'), T.cl, T.no _ (.tail _ (.tail _ (.tail _ (.head _)))), rfl, _, rfl, d2, _, rfl, DPut.k (k := Sum.inl (((ss.take i).flatten.length : Nat) + ((nVs x).length : Nat) : Int)) (by rw [upd_ne nd12.symm]; exact h2) (line_lt (by omega)), ?_⟩
    have ef : (ss.take (i + 1)).flatten.length = (ss.take i).flatten.length + x.length := by
      rw [take_more hx, List.flatten_append, List.length_append]; simp
    refine ⟨some (.ref b), putK k1 (Sum.inl (((ss.take i).flatten.length : Nat) + 1 : Int)) (.bl true), putK k2 (Sum.inl (((ss.take i).flatten.length : Nat) + ((nVs x).length : Nat) : Int)) (.bl true), ?_, fun c o n e => ?_, ?_, ?_, ?_, upd_same, Nat.le_trans (put_le _ _ _) (Nat.succ_le_succ l1), Nat.le_trans (put_le _ _ _) (Nat.succ_le_succ l2), ?_, ?_⟩
    · rw [ef, nVs_len]; rfl
    · have e1 : c ≠ d1 := ne_of_none e hd1H
      have e2 : c ≠ d2 := ne_of_none e hd2H
      rw [upd_ne e2, upd_ne e1]; exact s1 _ _ n e
    · rw [upd_ne np2, upd_ne np1]; exact hp'
    · rw [upd_ne hwd2, upd_ne hwd1]; exact hw'
    · rw [upd_ne nd12, upd_same]
    · rw [take_more hx, TpM.firsts_app]
      have := keys_put (n := (ss.take i).flatten.length + 1) (.bl true) q1
      rw [show 1 + (ss.take i).flatten.length = (ss.take i).flatten.length + 1 by omega]
      exact this
    · rw [take_more hx, TpM.lasts_app]
      have := keys_put (n := (ss.take i).flatten.length + x.length) (.bl true) q2
      rw [show Rh12.lasts (1 + (ss.take i).flatten.length) [x] = [(ss.take i).flatten.length + x.length] from congrArg (fun n => [n]) (by omega)]
      rw [nVs_len]
      exact this
  · rintro σ H' ⟨v, k1, k2, rfl, s1, hp', hw', h1, h2, l1, l2, q1, q2⟩
    rw [hs.len, List.take_length] at q1 q2
    refine k H' s1 ⟨p, dx, _, _, _, _, rfl, hp', ⟨a, us, rfl, s1 _ _ nap ha, hs.mono fun v x ⟨b, e, h⟩ => ⟨b, e, s1 _ _ (ne_of h hp (by intro z; cases z)) h⟩⟩, ⟨wl, rfl, hw'⟩, ⟨d1, k1, rfl, h1, q1⟩, ⟨d2, k2, rfl, h2, q2⟩⟩
def spMany (C : Addr) : Sp := fun vs H Q _ => ∃ v ss, vs = [v] ∧ TextAt C H v ss ∧ Val (.int (ss.flatten.length : Nat)) H Q
abbrev sMany : Stmt := meth 29 1
theorem scMany : FnScope ["self"] ["self"] (defScope sMany) := ⟨rfl, rfl, rfl, by decide +kernel, rfl, by decide +kernel, by decide +kernel⟩
theorem ok_many {C : Addr} (F : Fun K "many" "Text.many" sMany f fd) (B : Blt mg) (T : ClsAt K mg C "Text" tFs) : FnOk P w K mg base CX0 1 f fd ["self"] (spMany C) := by
  refine F.ok scMany (fun vs H Q E h => ?_) (fun cdv A outer s H vs Q E hr h => ⟨_, pss_one (ps_ret (pe_callB call_len_seq (by rfl) B.len PySem.boot_len (pa_cons (pe_fld (pv 0) rfl) pa_nil))), ?_⟩)
  · obtain ⟨v, ss, rfl, _⟩ := h; rfl
  obtain ⟨v, ss, rfl, ⟨p, dx, a, b, c, d, rfl, hp, _, ⟨wl, rfl, hw⟩, _⟩, k⟩ := h
  refine ⟨_, rfl, p, C, dx, _, _, rfl, hp, T.cl, T.no _ (.tail _ (.head _)), rfl, wl, _, rfl, .inl (SqL.of hw), ?_⟩
  rw [nVs_len]
  exact k H (Same.refl H)
theorem cut_nat {l : List Nat} {a b : Nat} (ha : 1 ≤ a) : cutV (nVs l) (some ((a : Int) - 1)) (some (b : Int)) = nVs ((l.take b).drop (a - 1)) := by
  unfold cutV
  rw [show ((a : Int) - 1) = ((a - 1 : Nat) : Int) by omega, HT.sIx_nat, HT.sIx_nat, nVs_len, nVs_drop, nVs_take]
  congr 1
  apply List.ext_getElem?
  intro i
  rw [List.getElem?_take, List.getElem?_drop, List.getElem?_drop, List.getElem?_take]
  by_cases c : a - 1 ≤ l.length
  · by_cases d : b ≤ l.length
    · rw [Nat.min_eq_left c, Nat.min_eq_left d]
      by_cases e : i < b - (a - 1)
      · rw [if_pos e, if_pos (by omega)]
      · rw [if_neg e, if_neg (by omega)]
    · rw [Nat.min_eq_left c, Nat.min_eq_right (by omega)]
      by_cases e : i < l.length - (a - 1)
      · rw [if_pos e, if_pos (by omega)]
      · rw [if_neg e]
        by_cases g : a - 1 + i < b
        · rw [if_pos g, List.getElem?_eq_none (by omega)]
        · rw [if_neg g]
  · rw [Nat.min_eq_right (show l.length ≤ a - 1 by omega), if_neg (by omega)]
    by_cases g : a - 1 + i < b
    · rw [if_pos g, List.getElem?_eq_none (by omega)]
    · rw [if_neg g]
def spPart (C : Addr) : Sp := fun vs H Q _ => ∃ v ss a b, vs = [v, .int (a : Nat), .int (b : Nat)] ∧ TextAt C H v ss ∧ 1 ≤ a ∧ ss.flatten.length ≤ 1000 ∧ New LstN ((ss.flatten.take b).drop (a - 1)) H Q
abbrev sPart : Stmt := meth 29 2
theorem scPart : FnScope ["self", "a", "b"] ["self", "a", "b"] (defScope sPart) := ⟨rfl, rfl, rfl, by decide +kernel, rfl, by decide +kernel, by decide +kernel⟩
theorem ok_part {C : Addr} (F : Fun K "part" "Text.part" sPart f fd) (T : ClsAt K mg C "Text" tFs) : FnOk P w K mg base CX0 1 f fd ["self", "a", "b"] (spPart C) := by
  refine F.ok scPart (fun vs H Q E h => ?_) (fun cdv A outer s H vs Q E hr h => ⟨_, pss_one (ps_ret (pe_slice sl_list (pe_fld (pv 0) rfl) (po_some (pe_op op_sub (pv 1) pe_int)) (po_some (pv 2)))), ?_⟩)
  · obtain ⟨v, ss, a, b, rfl, _⟩ := h; rfl
  obtain ⟨v, ss, a, b, rfl, ⟨p, dx, a', b', c, d, rfl, hp, _, ⟨wl, rfl, hw⟩, _⟩, ha, hl, k⟩ := h
  refine ⟨_, rfl, p, C, dx, _, _, rfl, hp, T.cl, T.no _ (.tail _ (.head _)), rfl, _, rfl, _, _, rfl, rfl, _, rfl, _, rfl, _, rfl, wl, _, rfl, SqL.of hw, fun q nq => ?_⟩
  refine k _ _ (same_upd nq) ⟨q, rfl, ?_⟩
  rw [upd_same, cut_nat ha]
end
end Tp

namespace Tp
open PySem PySem.Spec PyProof.Rows L2
open TpM (Pas Trip Sel)
section
variable {P : Program} {w : World} {K : PySem.W.Frag} {mg : Str → Option Value} {base : Heap} {f : Addr} {fd : FuncData}
theorem size_two (m : Nat) : Builtin.Range.rangeSize 0 ((2 * m : Nat) : Int) 2 = (m : Int) := by
  rw [rangeSize_pos (by decide) (by omega)]
  omega
theorem rg_two {m : Nat} (h : m ≤ 1000) : RgC 0 ((2 * m : Nat) : Int) 2 m := by
  refine ⟨by decide, by decide, ?_, size_two m⟩
  have e := size_two m
  unfold Builtin.Range.small
  have hz : ((2 * m : Nat) : Int) ≤ 2000 := by omega
  have hz2 : (0 : Int) ≤ ((2 * m : Nat) : Int) := by omega

  generalize ((2 * m : Nat) : Int) = z at *
  rw [e]
  simp only [Builtin.Range.rangeFitsLong, Bool.and_eq_true, Bool.or_eq_true, decide_eq_true_eq, beq_iff_eq]
  refine ⟨by omega, .inr ?_⟩
  rw [if_pos (by decide), Bool.and_eq_true, decide_eq_true_eq, decide_eq_true_eq]
  omega
def spPairsOf : Sp := fun vs H Q _ => ∃ v ns, vs = [v] ∧ LstN H v ns ∧ ns.length ≤ 1000 ∧ (match TpM.askOf ns with
  | none => Val .non H Q
  | some a => New (ListOf PairAt) a H Q)
abbrev sPairsOf : Stmt := top 4
abbrev nPairsOf : List Str := ["numbers", "found", "words", "at", "word", "weight"]
theorem scPairsOf : FnScope nPairsOf ["numbers"] (defScope sPairsOf) := ⟨rfl, rfl, rfl, by decide +kernel, rfl, by decide +kernel, by decide +kernel⟩
theorem ok_pairs_of (F : Fun K "pairs_of" "pairs_of" sPairsOf f fd) (B : Blt mg) (k1 : KInt mg "MOST_PAIRS" 6) (k2 : KInt mg "MOST_WORD_scores" 40) (k3 : KInt mg "MOST_WEIGHT" 100) : FnOk P w K mg base CX0 1 f fd ["numbers"] spPairsOf := by
  refine F.ok scPairsOf (fun vs H Q E h => ?_) (fun cdv A outer s H vs Q E hr h => ⟨_, pss_cons (ps_if (PW.pt (pw_or (pt_cmpR op_eq (pe_op op_mod (pe_callB call_len_seq (by rfl) B.len PySem.boot_len (pa_cons (pv 0) pa_nil)) pe_int) pe_int (nomark _))
      (pw_or1 (pt_cmpR op_gt (pe_callB call_len_seq (by rfl) B.len PySem.boot_len (pa_cons (pv 0) pa_nil)) (pe_op op_mul pe_int (pe_k k1)) (nomark _))))) (pss_one (ps_ret pe_non)) pss_nil)
    (pss_cons (ps_setLc (i := 1) (own := [("at", 3)]) (g := gName 3) (tt := tYes) rfl scPairsOf.nd rfl rfl (sw_true rfl rfl rfl (by decide +kernel))
        (pi_range3 rfl B.range (pa_cons pe_int (pa_cons (pe_callB call_len_seq (by rfl) B.len PySem.boot_len (pa_cons (pv 0) pa_nil)) (pa_cons pe_int pa_nil))))
        (blkOk_by (N := nPairsOf) (sc := defScope sPairsOf) (by decide +kernel)) (fun _ _ _ _ _ => pg_name (i := 3) scPairsOf.nd rfl (Or.inl rfl)) (fun _ _ _ _ _ => pts_nil)
        (fun _ _ _ _ _ => pe_tup (pa_cons (pe_ix (r := rIxL K) (by exact ix_list) (pv 0) (pv 3) (fun _ _ => rfl)) (pa_cons (pe_ix (r := rIxL K) (by exact ix_list) (pv 0) (pe_op op_add (pv 3) pe_int) (fun _ _ => rfl)) pa_nil))))
    (pss_cons (ps_setLc (i := 2) (own := [("word", 4), ("weight", 5)]) (g := gTup K 2 (gCons (gName 4) (gCons (gName 5) gNil))) (tt := tYes) rfl scPairsOf.nd rfl rfl (sw_true rfl rfl rfl (by decide +kernel))
        (pi_list (pv 1)) (blkOk_by (N := nPairsOf) (sc := defScope sPairsOf) (by decide +kernel)) (fun _ _ _ _ _ => by exact pg_tup rfl (pgs_cons (pg_name (i := 4) scPairsOf.nd rfl (Or.inl rfl)) (pgs_cons (pg_name (i := 5) scPairsOf.nd rfl (Or.inl rfl)) pgs_nil))) (fun _ _ _ _ _ => pts_nil)
        (fun _ _ _ _ _ => pv 4))
    (pss_cons (ps_if (pt_not (pt_val (pe_callB (cr_all rfl) (by rfl) B.all (by decide +kernel) (pa_cons (pe_lc (own := [("word", 4), ("weight", 5)]) (g := gTup K 2 (gCons (gName 4) (gCons (gName 5) gNil))) (tt := tYes) rfl scPairsOf.nd
        (pi_list (pv 1)) (blkOk_by (N := nPairsOf) (sc := defScope sPairsOf) (by decide +kernel)) (fun _ _ _ _ _ => by exact pg_tup rfl (pgs_cons (pg_name (i := 4) scPairsOf.nd rfl (Or.inl rfl)) (pgs_cons (pg_name (i := 5) scPairsOf.nd rfl (Or.inl rfl)) pgs_nil))) (fun _ _ _ _ _ => pts_nil)
        (fun _ _ _ _ _ => pe_and (pe_chain op_le op_le pe_int (pv 4) (pe_k k2)) (pe_one (pe_chain op_le op_le pe_int (pv 5) (pe_k k3))))) pa_nil)))) (pss_one (ps_ret pe_non)) pss_nil)
    (pss_one (ps_ret (pe_ifExp (pt_cmpR op_eq (pe_lenSetM (by rfl) B.len (by rfl) B.set (pv 2)) (pe_callB call_len_seq (by rfl) B.len PySem.boot_len (pa_cons (pv 2) pa_nil)) (nomark _)) (pv 1) pe_non)))))), ?_⟩)
  · obtain ⟨v, ns, rfl, _⟩ := h; rfl
  obtain ⟨v, ns, rfl, ⟨a, rfl, ha⟩, hlen, k⟩ := h
  refine ⟨_, rfl, a, _, rfl, .inl (SqL.of ha), _, _, rfl, rfl, (by show (0 : Int) < 2; decide), rfl, _, rfl, ?_⟩
  by_cases c1 : ns.length % 2 = 1
  · rw [TpM.askOf_none (.inl c1)] at k
    exact if_true_of (decide_eq_true (congrArg V.int (by show ((nVs ns).length : Int) % 2 = 1; rw [nVs_len]; omega))) (iteT (k H (Same.refl H)))
  refine if_false_of (decide_eq_false (fun e => by have e : ((nVs ns).length : Int) % 2 = 1 := V.int.inj e; rw [nVs_len] at e; omega)) ?_
  refine ⟨_, rfl, a, _, rfl, .inl (SqL.of ha), _, _, rfl, rfl, .inl ⟨by decide, by decide⟩, _, _, rfl, rfl, _, rfl, ?_⟩
  by_cases c2 : 12 < ns.length
  · rw [TpM.askOf_none (.inr c2)] at k
    exact if_true_of (decide_eq_true (by rw [nVs_len]; omega)) (k H (Same.refl H))
  refine if_false_of (decide_eq_false (by rw [nVs_len]; omega)) ?_
  obtain ⟨prs, hp⟩ := TpM.pairs_even (l := ns) (by omega)
  obtain ⟨hl, hat⟩ := TpM.pairs_some hp
  rw [TpM.askOf_some hp (by omega)] at k
  refine ⟨_, rfl, a, _, rfl, .inl (SqL.of ha), 0, _, 2, prs.length, rfl, (by rw [nVs_len, hl]; exact rg_two (by omega)), fun D hD => lc_it walk_rangeC (fun i H' => Same H H' ∧ Acc PairAt D H' (prs.take i))
    ⟨same_upd hD, Acc.start⟩ (fun _ _ _ _ => trivial) ?_ ?_⟩
  · rintro i y H1 H1' hi ⟨s1, hA⟩ ⟨rfl, rfl⟩
    obtain ⟨x, hx⟩ : ∃ x, prs[i]? = some x := ⟨prs[i], List.getElem?_eq_getElem hi⟩
    obtain ⟨g1, g2⟩ := hat i x hx
    have e1 : (0 + (i : Nat) * 2 : Int) = ((2 * i : Nat) : Int) := by omega
    have e2 : (0 + (i : Nat) * 2 + 1 : Int) = ((2 * i + 1 : Nat) : Int) := by omega
    refine ⟨rfl, _, rfl, _, rfl, a, _, _, _, rfl, rfl, SqL.of (s1 _ _ ha), (by rw [e1]; exact atI_nat (nVs_at g1)), _, rfl, _, rfl, _, _, rfl, rfl, a, _, _, _, rfl, rfl, SqL.of (s1 _ _ ha), (by rw [e2]; exact atI_nat (nVs_at g2)), sz2, fun t ht => ?_⟩
    obtain ⟨vs, hv, hvs⟩ := id hA
    have s2 := same_upd (o := .tup [V.int (x.1 : Nat), V.int (x.2 : Nat)]) ht
    have hA2 := hA.move PairAt.stays s2
    have htD : t ≠ D := fun e => by subst e; rw [hv] at ht; cases ht
    refine ⟨vs, s2 _ _ hv, ?_, same_snoc hD (s1.trans s2), ?_⟩
    · rw [hvs.len, List.length_take]; exact line_lt (by omega)
    · rw [take_more hx]
      exact hA2.snoc (s2 _ _ hv) ⟨t, rfl, by rw [del_ne htD]; exact upd_same⟩
  rintro H1 ⟨s1, hA⟩
  rw [List.take_length] at hA
  obtain ⟨_, vs, e, hv, hvs⟩ := hA.done PairAt.stays
  cases e
  refine ⟨_, rfl, D, rfl, ⟨_, SqL.of hv⟩, fun D2 hD2 => lc_list (K := K) (a := D) (xs := vs) (fun i H' => Same H1 H' ∧ H' D2 = some (.lst (nVs ((prs.map fun x => x.1).take i))))
    ⟨same_upd hD2, by rw [List.take_zero]; exact upd_same⟩ (fun i H' _ ⟨s2, _⟩ => SqL.of (s2 _ _ hv)) ?_ ?_⟩
  · rintro i y H2 hi ⟨s2, hd2⟩
    obtain ⟨x, hx, t, rfl, ht⟩ := hvs.get hi
    have hx1 : (prs.map fun x => x.1)[i]? = some x.1 := by rw [List.getElem?_map, hx]; rfl
    refine ⟨t, _, rfl, SqT.of (s2 _ _ ht), rfl, _, _, rfl, _, _, rfl, rfl, rfl, _, rfl, _, hd2, ?_, same_snoc hD2 s2, ?_⟩
    · rw [nVs_len, List.length_take, List.length_map]; exact line_lt (by omega)
    · rw [upd_same, take_more hx1, nVs_snoc]
  rintro H2 ⟨s2, hd2⟩
  have hv2 := s2 _ _ hv
  rw [show vs.length = (prs.map fun x => x.1).length by rw [hvs.len, List.length_map], List.take_length] at hd2
  refine ⟨_, rfl, D, rfl, ⟨_, SqL.of hv2⟩, fun D3 hD3 => lc_list (K := K) (a := D) (xs := vs) (fun i H' => Same H2 H' ∧ H' D3 = some (.lst (((prs.take i).map TpM.fitsAsk).map V.bl)))
    ⟨same_upd hD3, upd_same⟩ (fun i H' _ ⟨s3, _⟩ => SqL.of (s3 _ _ hv2)) ?_ ?_⟩
  · rintro i y H3 hi ⟨s3, hd3⟩
    obtain ⟨x, hx, t, rfl, ht⟩ := hvs.get hi
    have fin : ∀ b, b = TpM.fitsAsk x → ∃ acc, H3 D3 = some (.lst acc) ∧ acc.length < sizeLine ∧ Same H2 (upd H3 D3 (.lst (acc ++ [V.bl b]))) ∧ (upd H3 D3 (.lst (acc ++ [V.bl b]))) D3 = some (.lst (((prs.take (i + 1)).map TpM.fitsAsk).map V.bl)) := by
      rintro b rfl
      refine ⟨_, hd3, ?_, same_snoc hD3 s3, ?_⟩
      · rw [List.length_map, List.length_map, List.length_take]; exact line_lt (by omega)
      · rw [upd_same, take_more hx, List.map_append, List.map_append]; rfl
    refine ⟨t, _, rfl, SqT.of ((s2.trans s3) _ _ ht), rfl, _, _, rfl, _, _, rfl, rfl, rfl, _, rfl, _, _, rfl, rfl, _, rfl, ite2 (fun h1 => ?_) fun h1 => ?_⟩
    · have h1 := of_decide_eq_true h1
      refine ⟨_, _, rfl, rfl, _, rfl, ite2 (fun h2 => ?_) fun h2 => ?_⟩
      · have h2 := of_decide_eq_true h2
        refine ⟨_, rfl, _, _, rfl, rfl, _, rfl, ite2 (fun h3 => ?_) fun h3 => ?_⟩
        · have h3 := of_decide_eq_true h3
          refine ⟨_, _, rfl, rfl, fin _ ?_⟩
          unfold TpM.fitsAsk
          rw [decide_eq_true (show 1 ≤ x.1 by omega), decide_eq_true (show x.1 ≤ 40 by omega), decide_eq_true (show 1 ≤ x.2 by omega)]
          exact decide_eq_decide.mpr (by omega)
        · refine fin _ ?_
          have h3 : ¬ (1 : Int) ≤ (x.2 : Int) := fun z => h3 (decide_eq_true z)
          unfold TpM.fitsAsk
          rw [decide_eq_false (show ¬ 1 ≤ x.2 by omega), Bool.false_and, Bool.and_false]
      · refine fin _ ?_
        have h2 : ¬ (x.1 : Int) ≤ 40 := fun z => h2 (decide_eq_true z)
        unfold TpM.fitsAsk
        rw [decide_eq_false (show ¬ x.1 ≤ 40 by omega), Bool.and_false, Bool.false_and]
    · refine ⟨_, rfl, iteF (fin _ ?_)⟩
      have h1 : ¬ (1 : Int) ≤ (x.1 : Int) := fun z => h1 (decide_eq_true z)
      unfold TpM.fitsAsk
      rw [decide_eq_false (show ¬ 1 ≤ x.1 by omega), Bool.false_and, Bool.false_and]
  rintro H3 ⟨s3, hd3⟩
  rw [hvs.len, List.take_length] at hd3
  have eall : (prs.map TpM.fitsAsk).all id = prs.all TpM.fitsAsk := by rw [List.all_map]; rfl
  refine ⟨D3, _, rfl, SqL.of hd3, _, rfl, ?_⟩
  by_cases c3 : prs.all TpM.fitsAsk = true
  · rw [if_pos c3] at k
    refine if_false_of (by rw [eall, c3]; rfl) ?_
    refine ⟨_, rfl, D2, Rh12.ints (prs.map fun (x : Nat × Nat) => x.1), rfl, SqL.of (s3 _ _ hd2), ?_, _, rfl, D2, _, rfl, .inl (SqL.of (s3 _ _ hd2)), rfl, _, rfl, ?_⟩
    · unfold Rh12.ints; rw [List.length_map, List.length_map]; omega
    have ed : decide (V.int (diffOf (Rh12.ints (prs.map fun x => x.1)) : Nat) = V.int ((nVs (prs.map fun x => x.1)).length : Nat)) = Rh12.distinct prs := by
      have e1 : (nVs (prs.map fun x => x.1)).length = (Rh12.ints (prs.map fun x => x.1)).length := by unfold nVs; rw [List.length_map]
      rw [e1, Bool.eq_iff_iff, decide_eq_true_eq, TpM.distinct_nodup]
      refine Iff.trans (b := diffOf (Rh12.ints (prs.map fun x => x.1)) = (Rh12.ints (prs.map fun x => x.1)).length) ⟨fun e => by have := V.int.inj e; omega, fun e => by rw [e]⟩ ?_
      rw [diff_iff]
      unfold Rh12.ints
      constructor
      · intro h
        exact List.Pairwise.of_map _ (fun a b hab e => hab (by rw [e])) h
      · intro h
        exact List.Pairwise.map _ (fun a b hab e => hab (by omega)) h
    cases c4 : Rh12.distinct prs with
    | true =>
      rw [c4, if_pos rfl] at k
      refine if_true_of (ed.trans c4) ?_
      exact ⟨_, rfl, k _ _ (s1.trans (s2.trans s3)) ⟨D, vs, rfl, s3 _ _ hv2, hvs.stay PairAt.stays (s2.trans s3)⟩⟩
    | false =>
      rw [c4, if_neg (by decide)] at k
      exact if_false_of (ed.trans c4) (k _ (s1.trans (s2.trans s3)))
  · rw [if_neg c3] at k
    refine if_true_of (by rw [eall, Bool.eq_false_iff.mpr c3]; rfl) ?_
    exact k _ (s1.trans (s2.trans s3))
end
end Tp

namespace Tp
open PySem PySem.Spec PyProof.Rows L2
open TpM (Pas Trip Sel)
theorem flat_nVs : ∀ l : List Nat, (nVs l).all flatV = true
  | [] => rfl
  | n :: l => by rw [nVs_cons, List.all_cons, flat_nVs l]; rfl
theorem inV_nVs (n : Nat) : ∀ l : List Nat, inV (.int (n : Int)) (nVs l) = l.contains n
  | [] => rfl
  | m :: l => by
    have ih := inV_nVs n l
    unfold inV at ih ⊢
    rw [nVs_cons, List.any_cons, ih, List.contains_cons]
    congr 1
    show ((m : Int) == (n : Int)) = (n == m)
    rw [Bool.eq_iff_iff, beq_iff_eq, beq_iff_eq]
    omega
theorem valV_qkv (w : Nat) : ∀ q : List (Nat × Nat), valV (qkv q) (Sum.inl (w : Int)) = (q.find? fun x => x.1 == w).map fun x => V.int (x.2 : Int)
  | [] => rfl
  | x :: q => by
    unfold qkv
    rw [List.map_cons]
    by_cases e : x.1 = w
    · rw [valV_pos (by show Sum.inl (x.1 : Int) = Sum.inl (w : Int); rw [e]), List.find?_cons_of_pos (by simp [e])]
      rfl
    · rw [valV_neg (fun z => e (by have := Sum.inl.inj z; omega)), List.find?_cons_of_neg (by simp [e])]
      exact valV_qkv w q
theorem isSome_qkv {s : Rh12.St} (h : Rh12.isAsk s.ask = true) (w : Nat) : (valV (qkv s.ask) (Sum.inl (w : Int))).isSome = decide (0 < Rh12.weight s w) := by
  rw [valV_qkv, TpM.weight_pos h]
  cases s.ask.find? fun x => x.1 == w <;> rfl
theorem getD_qkv {s : Rh12.St} (w : Nat) : (valV (qkv s.ask) (Sum.inl (w : Int))).getD (V.int 0) = V.int (Rh12.weight s w : Nat) := by
  rw [valV_qkv, TpM.find_weight]
  cases s.ask.find? fun x => x.1 == w <;> rfl
theorem qkv_len (q : List (Nat × Nat)) : (qkv q).length = q.length := by unfold qkv; rw [List.length_map]
theorem qkv_get {q : List (Nat × Nat)} {i : Nat} {k : Key} {v : V} (h : (qkv q)[i]? = some (k, v)) : ∃ x, q[i]? = some x ∧ k = Sum.inl (x.1 : Int) ∧ v = .int (x.2 : Int) := by
  unfold qkv at h
  rw [List.getElem?_map] at h
  cases e : q[i]? with
  | none => rw [e] at h; cases h
  | some x => rw [e] at h; cases h; exact ⟨x, rfl, rfl, rfl⟩
theorem DGet.any {H : Hp} {a : Addr} {kvs : List (Key × V)} {n : Nat} (e : Rd H a (.dK kvs)) : DGet H a (.int (n : Int)) (valV kvs (Sum.inl (n : Int))) := .inl ⟨kvs, Sum.inl (n : Int), e, rfl, rfl⟩
section
variable {P : Program} {w : World} {K : PySem.W.Frag} {mg : Str → Option Value} {base : Heap} {f : Addr} {fd : FuncData}
/- Settings -/
def spSetInit (C : Addr) : Sp := fun vs H Q _ => ∃ p dx, vs = [.ref p] ∧ H p = some (.ins C dx []) ∧ ∀ H', SameBut p H H' → SetAt C H' (.ref p) Rh12.init → Q .non H'
abbrev sSetInit : Stmt := meth 5 0
theorem scSetInit : FnScope ["self"] ["self"] (defScope sSetInit) := ⟨rfl, rfl, rfl, by decide +kernel, rfl, by decide +kernel, by decide +kernel⟩
theorem ok_setInit {C : Addr} (F : Fun K "__init__" "Settings.__init__" sSetInit f fd) (T : ClsAt K mg C "Settings" sFs) : FnOk P w K mg base CX0 1 f fd ["self"] (spSetInit C) := by
  refine F.ok scSetInit (fun vs H Q E h => ?_) (fun cdv A outer s H vs Q E hr h => ⟨_, pss_cons (ps_fld (pv 0) pe_int rfl) (pss_cons (ps_fld (pv 0) pe_int rfl) (pss_cons (ps_fld (pv 0) pe_int rfl) (pss_cons (ps_fld (pv 0) pe_int rfl) (pss_cons (ps_fld (pv 0) pe_int rfl) (pss_cons (ps_fld (pv 0) pe_int rfl) (pss_one (ps_fld (pv 0) pe_int rfl))))))), ?_⟩)
  · obtain ⟨p, dx, rfl, _⟩ := h; rfl
  obtain ⟨p, dx, rfl, hp, k⟩ := h
  refine ⟨_, rfl, p, C, dx, _, rfl, hp, T.cl, T.no _ (.head _), (by show 0 < 1000; decide), ?_⟩
  refine ⟨_, rfl, p, C, dx, _, rfl, upd_same, T.cl, T.no _ (.tail _ (.head _)), (by show 1 < 1000; decide), ?_⟩
  refine ⟨_, rfl, p, C, dx, _, rfl, upd_same, T.cl, T.no _ (.tail _ (.tail _ (.head _))), (by show 2 < 1000; decide), ?_⟩
  refine ⟨_, rfl, p, C, dx, _, rfl, upd_same, T.cl, T.no _ (.tail _ (.tail _ (.tail _ (.head _)))), (by show 3 < 1000; decide), ?_⟩
  refine ⟨_, rfl, p, C, dx, _, rfl, upd_same, T.cl, T.no _ (.tail _ (.tail _ (.tail _ (.tail _ (.head _))))), (by show 4 < 1000; decide), ?_⟩
  refine ⟨_, rfl, p, C, dx, _, rfl, upd_same, T.cl, T.no _ (.tail _ (.tail _ (.tail _ (.tail _ (.tail _ (.head _)))))), (by show 5 < 1000; decide), ?_⟩
  refine ⟨_, rfl, p, C, dx, _, rfl, upd_same, T.cl, T.no _ (.tail _ (.tail _ (.tail _ (.tail _ (.tail _ (.tail _ (.head _))))))), (by show 6 < 1000; decide), ?_⟩
  exact k _ (.upd (.upd (.upd (.upd (.upd (.upd (.upd (SameBut.refl p H)))))))) ⟨p, dx, rfl, upd_same⟩
def spSetTune (C : Addr) : Sp := fun vs H Q _ => ∃ p dx v s a b c d e, vs = [.ref p, v] ∧ H p = some (.ins C dx (setF s)) ∧ LstN H v [a, b, c, d, e] ∧ ∀ H', SameBut p H H' → H' p = some (.ins C dx (setF { s with once := a, each := b, head := c, tail := d, cost := e })) → Q .non H'
abbrev sSetTune : Stmt := meth 5 1
theorem scSetTune : FnScope ["self", "numbers"] ["self", "numbers"] (defScope sSetTune) := ⟨rfl, rfl, rfl, by decide +kernel, rfl, by decide +kernel, by decide +kernel⟩
theorem ok_setTune {C : Addr} (F : Fun K "tune" "Settings.tune" sSetTune f fd) (T : ClsAt K mg C "Settings" sFs) : FnOk P w K mg base CX0 1 f fd ["self", "numbers"] (spSetTune C) := by
  refine F.ok scSetTune (fun vs H Q E h => ?_) (fun cdv A outer s H vs Q E hr h => ⟨_, pss_one (ps_asg (pv 1) (pg_unl rfl (pgs_cons (pg_fld (pv 0)) (pgs_cons (pg_fld (pv 0)) (pgs_cons (pg_fld (pv 0)) (pgs_cons (pg_fld (pv 0)) (pgs_cons (pg_fld (pv 0)) pgs_nil))))))), ?_⟩)
  · obtain ⟨p, dx, v, s, a, b, c, d, e, rfl, _⟩ := h; rfl
  obtain ⟨p, dx, v, s, a, b, c, d, e, rfl, hp, ⟨l, rfl, hl⟩, k⟩ := h
  refine ⟨_, rfl, l, _, rfl, SqL.of hl, rfl, ?_⟩
  refine ⟨_, _, rfl, _, rfl, p, C, dx, _, rfl, hp, T.cl, T.no _ (.head _), (by show 7 < 1000; decide), ?_⟩
  refine ⟨_, _, rfl, _, rfl, p, C, dx, _, rfl, upd_same, T.cl, T.no _ (.tail _ (.head _)), (by show 7 < 1000; decide), ?_⟩
  refine ⟨_, _, rfl, _, rfl, p, C, dx, _, rfl, upd_same, T.cl, T.no _ (.tail _ (.tail _ (.head _))), (by show 7 < 1000; decide), ?_⟩
  refine ⟨_, _, rfl, _, rfl, p, C, dx, _, rfl, upd_same, T.cl, T.no _ (.tail _ (.tail _ (.tail _ (.head _)))), (by show 7 < 1000; decide), ?_⟩
  refine ⟨_, _, rfl, _, rfl, p, C, dx, _, rfl, upd_same, T.cl, T.no _ (.tail _ (.tail _ (.tail _ (.tail _ (.head _))))), (by show 7 < 1000; decide), rfl, ?_⟩
  exact k _ (.upd (.upd (.upd (.upd (.upd (SameBut.refl p H)))))) upd_same
def spSetFrame (C : Addr) : Sp := fun vs H Q _ => ∃ p dx s a b, vs = [.ref p, .int (a : Nat), .int (b : Nat)] ∧ H p = some (.ins C dx (setF s)) ∧ ∀ H', SameBut p H H' → H' p = some (.ins C dx (setF { s with wide := a, gap := b })) → Q .non H'
abbrev sSetFrame : Stmt := meth 5 2
theorem scSetFrame : FnScope ["self", "most", "gap"] ["self", "most", "gap"] (defScope sSetFrame) := ⟨rfl, rfl, rfl, by decide +kernel, rfl, by decide +kernel, by decide +kernel⟩
theorem ok_setFrame {C : Addr} (F : Fun K "frame" "Settings.frame" sSetFrame f fd) (T : ClsAt K mg C "Settings" sFs) : FnOk P w K mg base CX0 1 f fd ["self", "most", "gap"] (spSetFrame C) := by
  refine F.ok scSetFrame (fun vs H Q E h => ?_) (fun cdv A outer s H vs Q E hr h => ⟨_, pss_cons (ps_fld (pv 0) (pv 1) rfl) (pss_one (ps_fld (pv 0) (pv 2) rfl)), ?_⟩)
  · obtain ⟨p, dx, s, a, b, rfl, _⟩ := h; rfl
  obtain ⟨p, dx, s, a, b, rfl, hp, k⟩ := h
  refine ⟨_, rfl, _, rfl, p, C, dx, _, rfl, hp, T.cl, T.no _ (.tail _ (.tail _ (.tail _ (.tail _ (.tail _ (.head _)))))), (by show 7 < 1000; decide), ?_⟩
  refine ⟨_, rfl, _, rfl, p, C, dx, _, rfl, upd_same, T.cl, T.no _ (.tail _ (.tail _ (.tail _ (.tail _ (.tail _ (.tail _ (.head _))))))), (by show 7 < 1000; decide), ?_⟩
  exact k _ (.upd (.upd (SameBut.refl p H))) upd_same
/- has_word -/
structure View (CT CS : Addr) (H : Hp) (tv qv sv : V) (s : Rh12.St) : Prop where
  text : TextAt CT H tv s.text
  query : QueryAt H qv s.ask
  sets : SetAt CS H sv s
theorem View.stay {CT CS : Addr} {H H' : Hp} {tv qv sv : V} {s : Rh12.St} (e : Same H H') (h : View CT CS H tv qv sv s) : View CT CS H' tv qv sv s := ⟨TextAt.stays H H' _ _ e h.text, QueryAt.stays H H' _ _ e h.query, SetAt.stays H H' _ _ e h.sets⟩
theorem Ok.len {s : Rh12.St} (h : Ok s) : (Rh12.flat s).length ≤ 60 ∧ s.text.length ≤ 20 := ⟨(TpM.isText_words h.text).2.2, (TpM.isText_words h.text).2.1⟩
def spHasWord (CT : Addr) : Sp := fun vs H Q _ => ∃ tv qv s a b, vs = [tv, qv, .int (a : Nat), .int (b : Nat)] ∧ TextAt CT H tv s.text ∧ QueryAt H qv s.ask ∧ Ok s ∧ 1 ≤ a ∧ Val (.bl (Rh12.hit s a b)) H Q
abbrev sHasWord : Stmt := top 7
abbrev nHasWord : List Str := ["text", "query", "a", "b", "word"]
theorem scHasWord : FnScope nHasWord ["text", "query", "a", "b"] (defScope sHasWord) := ⟨rfl, rfl, rfl, by decide +kernel, rfl, by decide +kernel, by decide +kernel⟩
theorem ok_has_word {CT : Addr} (F : Fun K "has_word" "has_word" sHasWord f fd) (B : Blt mg) (T : ClsAt K mg CT "Text" tFs) (MP : MtAt P w K mg base CX0 1 CT "part" ["self", "a", "b"] (spPart CT)) : FnOk P w K mg base CX0 2 f fd ["text", "query", "a", "b"] (spHasWord CT) := by
  obtain ⟨fP, fdP, GP, mP, bP⟩ := MP.ex
  refine F.ok scHasWord (fun vs H Q E h => ?_) (fun cdv A outer s H vs Q E hr h => ⟨_, pss_one (ps_ret (pe_callB (cr_any rfl) (by rfl) B.any (by decide +kernel) (pa_cons (pe_lc (own := [("word", 4)]) (g := gName 4) (tt := tYes) rfl scHasWord.nd
        (pi_list (pe_meth (pv 0) T.cl mP GP hr bP .nil pass0 (pa_cons (pv 2) (pa_cons (pv 3) pa_nil)))) (blkOk_by (N := nHasWord) (sc := defScope sHasWord) (by decide +kernel)) (fun _ _ _ _ _ => pg_name (i := 4) scHasWord.nd rfl (Or.inl rfl)) (fun _ _ _ _ _ => pts_nil)
        (fun _ _ _ _ _ => pe_cmp (pc_din (hu_of hr) (pv 4) (pv 1)) rfl)) pa_nil))), ?_⟩)
  · obtain ⟨tv, qv, s, a, b, rfl, _⟩ := h; rfl
  obtain ⟨tv, qv, s, a, b, rfl, ht, ⟨qa, rfl, hq⟩, ok, h1, k⟩ := h
  obtain ⟨p, dx, ta, tb, tc, td, rfl, hp, _⟩ := id ht
  refine ⟨_, rfl, p, dx, _, rfl, hp, rfl, _, rfl, _, rfl, .ref p, s.text, a, b, rfl, ht, h1, ?_, fun H1 v s1 ⟨l, ev, hl⟩ => ?_⟩
  · exact Nat.le_trans ok.len.1 (by decide)
  subst ev
  have hwl : ((s.text.flatten.take b).drop (a - 1)).length ≤ 60 := Nat.le_trans (TpM.part_len_le (s := s) (a := a) (b := b)) ok.len.1
  refine ⟨l, rfl, ⟨_, SqL.of hl⟩, fun D hD => lc_list (K := K) (a := l) (xs := nVs (Rh12.part s a b)) (fun i H' => Same H1 H' ∧ H' D = some (.lst ((((Rh12.part s a b).take i).map fun w => decide (0 < Rh12.weight s w)).map V.bl)))
    ⟨same_upd hD, upd_same⟩ (fun i H' _ ⟨s2, _⟩ => SqL.of (s2 _ _ hl)) ?_ ?_⟩
  · rintro i y H' hi ⟨s2, hd⟩
    obtain ⟨n, hn, rfl⟩ := nVs_get hi
    refine ⟨rfl, _, rfl, _, rfl, qa, _, rfl, DGet.any (.inl ((s1.trans s2) _ _ hq)), _, hd, ?_, same_snoc hD s2, ?_⟩
    · rw [List.length_map, List.length_map, List.length_take]
      have := lt_of_get hn
      exact line_lt (by unfold Rh12.part Rh12.flat at *; omega)
    · rw [upd_same, take_more hn, List.map_append, List.map_append, isSome_qkv ok.ask]
      rfl
  · rintro H' ⟨s2, hd⟩
    rw [nVs_len, List.take_length] at hd
    refine ⟨D, _, rfl, SqL.of hd, ?_⟩
    have e : ((Rh12.part s a b).map fun w => decide (0 < Rh12.weight s w)).any id = Rh12.hit s a b := by rw [List.any_map]; rfl
    rw [e]
    exact k H' (s1.trans s2)
end
end Tp

namespace Tp
open PySem PySem.Spec PyProof.Rows L2
open TpM (Pas Trip Sel)
section
variable {P : Program} {w : World} {K : PySem.W.Frag} {mg : Str → Option Value} {base : Heap} {f : Addr} {fd : FuncData}
theorem worth_is (s : Rh12.St) (a b o e : Nat) (ho : o = Rh12.total ((s.ask.filter fun x => (Rh12.part s a b).contains x.1).map fun x => x.2)) (he : e = Rh12.total ((Rh12.part s a b).map (Rh12.weight s))) (hc : (Rh12.part s a b).length = b + 1 - a) :
    ((s.once : Int) * (o : Int) + (s.each : Int) * (e : Int) - (s.cost : Int) * ((Rh12.part s a b).length : Int) + (if (Rh12.firsts 1 s.text).contains a = true then (s.head : Int) else 0)) + (if (Rh12.lasts 1 s.text).contains b = true then (s.tail : Int) else 0) = Rh12.worth s a b := by
  unfold Rh12.worth
  rw [← ho, ← he, hc, ← Int.natCast_mul, ← Int.natCast_mul, ← Int.natCast_mul]
  generalize s.once * o = x
  generalize s.each * e = y
  generalize s.cost * (b + 1 - a) = z
  split <;> split <;> omega
def spScore (CT CS : Addr) : Sp := fun vs H Q _ => ∃ tv qv sv s a b, vs = [tv, qv, sv, .int (a : Nat), .int (b : Nat)] ∧ View CT CS H tv qv sv s ∧ Ok s ∧ 1 ≤ a ∧ a ≤ b ∧ b ≤ (Rh12.flat s).length ∧ Val (.int (Rh12.worth s a b)) H Q
abbrev sScore : Stmt := top 6
abbrev nScore : List Str := ["text", "query", "settings", "a", "b", "words", "once", "every", "found", "word"]
theorem scScore : FnScope nScore ["text", "query", "settings", "a", "b"] (defScope sScore) := ⟨rfl, rfl, rfl, by decide +kernel, rfl, by decide +kernel, by decide +kernel⟩
theorem ok_score {CT CS : Addr} (F : Fun K "score_of" "score_of" sScore f fd) (B : Blt mg) (T : ClsAt K mg CT "Text" tFs) (S : ClsAt K mg CS "Settings" sFs) (MP : MtAt P w K mg base CX0 1 CT "part" ["self", "a", "b"] (spPart CT)) : FnOk P w K mg base CX0 2 f fd ["text", "query", "settings", "a", "b"] (spScore CT CS) := by
  obtain ⟨fP, fdP, GP, mP, bP⟩ := MP.ex
  refine F.ok scScore (fun vs H Q E h => ?_) (fun cdv A outer s H vs Q E hr h => ⟨_, pss_cons (ps_set (i := 5) scScore.nd rfl (Or.inr rfl) (pe_meth (pv 0) T.cl mP GP hr bP .nil pass0 (pa_cons (pv 3) (pa_cons (pv 4) pa_nil))))
    (pss_cons (ps_set (i := 6) scScore.nd rfl (Or.inl rfl) (pe_callB (cr_sum rfl) (by rfl) B.sum (by decide +kernel) (pa_cons (pe_lock (pe_lc (own := [("word", 9)]) (g := gName 9) rfl scScore.nd
        (pi_keys (pv 1)) (blkOk_by (N := nScore) (sc := defScope sScore) (by decide +kernel)) (fun _ _ _ _ _ => pg_name (i := 9) scScore.nd rfl (Or.inl rfl)) (fun _ _ _ _ _ => pts_one (pt_cmpR (r := rIn K false) (by exact op_in_seq) (pv 9) (pv 5) (by rfl)))
        (fun _ _ _ _ _ => pe_dget (hu_of hr) (pv 1) (pv 9) (fun _ _ => rfl)))) pa_nil)))
    (pss_cons (ps_set (i := 7) scScore.nd rfl (Or.inl rfl) (pe_callB (cr_sum rfl) (by rfl) B.sum (by decide +kernel) (pa_cons (pe_lc (own := [("word", 9)]) (g := gName 9) (tt := tYes) rfl scScore.nd
        (pi_list (pv 5)) (blkOk_by (N := nScore) (sc := defScope sScore) (by decide +kernel)) (fun _ _ _ _ _ => pg_name (i := 9) scScore.nd rfl (Or.inl rfl)) (fun _ _ _ _ _ => pts_nil)
        (fun _ _ _ _ _ => pe_dget2 (hu_of hr) (pv 1) (pv 9) pe_int ⟨rfl, rfl, rfl, rfl⟩)) pa_nil)))
    (pss_cons (ps_set (i := 8) scScore.nd rfl (Or.inl rfl) (pe_op op_sub (pe_op op_add (pe_op op_mul (pe_fld (pv 2) rfl) (pv 6)) (pe_op op_mul (pe_fld (pv 2) rfl) (pv 7))) (pe_op op_mul (pe_fld (pv 2) rfl) (pe_callB call_len_seq (by rfl) B.len PySem.boot_len (pa_cons (pv 5) pa_nil)))))
    (pss_cons (ps_if (pt_cmp (pc_din (hu_of hr) (pv 3) (pe_fld (pv 0) rfl))) (pss_one (ps_aug (i := 8) scScore.nd rfl (Or.inl rfl) (pe_fld (pv 2) rfl) ip_add)) pss_nil)
    (pss_cons (ps_if (pt_cmp (pc_din (hu_of hr) (pv 4) (pe_fld (pv 0) rfl))) (pss_one (ps_aug (i := 8) scScore.nd rfl (Or.inl rfl) (pe_fld (pv 2) rfl) ip_add)) pss_nil)
    (pss_one (ps_ret (pv 8)))))))), ?_⟩)
  · obtain ⟨tv, qv, sv, s, a, b, rfl, _⟩ := h; rfl
  obtain ⟨tv, qv, sv, s, a, b, rfl, ⟨ht, ⟨qa, rfl, hq⟩, ⟨sa, sdx, rfl, hs⟩⟩, ok, h1, h2, h3, k⟩ := h
  obtain ⟨p, dx, ta, tb, tc, td, rfl, hp, _, _, ⟨dc, kc, rfl, hdc, hkc⟩, ⟨dd, kd, rfl, hdd, hkd⟩⟩ := id ht
  refine ⟨_, rfl, p, dx, _, rfl, hp, rfl, _, rfl, _, rfl, .ref p, s.text, a, b, rfl, ht, h1, Nat.le_trans ok.len.1 (by decide), fun H1 v s1 ⟨l, ev, hl⟩ => ?_⟩
  subst ev
  have hl : H1 l = some (.lst (nVs (Rh12.part s a b))) := hl
  have hwl : (Rh12.part s a b).length ≤ 60 := Nat.le_trans (TpM.part_len_le (s := s) (a := a) (b := b)) ok.len.1
  have hql : s.ask.length ≤ 6 := TpM.isAsk_len ok.ask
  have hnl : l ≠ qa := ne_of hl (s1 _ _ hq) (by intro z; cases z)
  refine ⟨qa, _, s1 _ _ hq, trivial, fun od => ⟨_, rfl, qa, od, rfl, .inl ⟨_, upd_same, fun D hD => lc_it walk_keys (fun i H' => Same (upd H1 qa (.frz od (.dK (qkv s.ask)))) H' ∧ H' D = some (.lst (nVs (((s.ask.take i).filter fun x => (Rh12.part s a b).contains x.1).map fun x => x.2))))
    ⟨same_upd hD, upd_same⟩ (fun i H' _ ⟨s2, _⟩ => s2 _ _ upd_same) ?_ ?_⟩⟩⟩
  · rintro i y H2 H2' hi ⟨s2, hd⟩ ⟨rfl, ky, kv, hk, rfl⟩
    obtain ⟨x, hx, rfl, rfl⟩ := qkv_get hk
    have hl2 := s2 _ _ (show upd H1 qa (.frz od (.dK (qkv s.ask))) l = _ by rw [upd_ne hnl]; exact hl)
    have hq2 : H2' qa = some (.frz od (.dK (qkv s.ask))) := s2 _ _ upd_same
    have hlen : (nVs (((s.ask.take i).filter fun x => (Rh12.part s a b).contains x.1).map fun x => x.2)).length < sizeLine := by
      rw [nVs_len, List.length_map]
      have h1 := List.length_filter_le (fun (x : Nat × Nat) => (Rh12.part s a b).contains x.1) (s.ask.take i)
      rw [List.length_take] at h1
      exact line_lt (by omega)
    refine ⟨rfl, _, rfl, _, rfl, l, _, rfl, .inl (SqL.of hl2), rfl, flat_nVs _, _, rfl, ?_⟩
    have em := inV_nVs x.1 (Rh12.part s a b)
    cases c : (Rh12.part s a b).contains x.1 with
    | true =>
      refine if_true_of (em.trans c) ⟨_, rfl, _, rfl, qa, .int (x.2 : Nat), rfl, ?_, _, hd, hlen, same_snoc hD s2, ?_⟩
      · have g := DGet.any (n := x.1) (H := H2') (a := qa) (.inr ⟨od, hq2⟩)
        rw [valV_qkv, TpM.find_at (TpM.isAsk_nodup ok.ask) hx] at g
        exact g
      · rw [upd_same, take_more hx, List.filter_append, List.map_append, nVs_app, List.filter_cons_of_pos (by exact c)]
        rfl
    | false =>
      refine if_false_of (em.trans c) ⟨s2, ?_⟩
      rw [hd, take_more hx, List.filter_append, List.map_append, List.filter_cons_of_neg (by rw [c]; decide)]
      simp
  rintro H2 ⟨s2, hd⟩
  rw [qkv_len, List.take_length] at hd
  have hq2 : H2 qa = some (.frz od (.dK (qkv s.ask))) := s2 _ _ upd_same
  have hDq : D ≠ qa := fun e => by subst e; rw [upd_same] at hD; cases hD
  refine ⟨hq2, D, Rh12.ints ((s.ask.filter fun x => (Rh12.part s a b).contains x.1).map fun x => x.2), rfl, SqL.of (by rw [upd_ne hDq]; exact hd), ?_⟩
  have s3 : Same H1 (upd H2 qa (.dK (qkv s.ask))) := fun c o e => by
    by_cases n : c = qa
    · subst n; rw [upd_same, ← e]; exact (s1 _ _ hq).symm
    · rw [upd_ne n]; exact s2 _ _ (by rw [upd_ne n]; exact e)
  rw [TpM.total_sum]
  have hl3 := s3 _ _ hl
  refine ⟨_, rfl, l, rfl, ⟨_, SqL.of hl3⟩, fun D2 hD2 => lc_list (K := K) (a := l) (xs := nVs (Rh12.part s a b)) (fun i H' => Same (upd H2 qa (.dK (qkv s.ask))) H' ∧ H' D2 = some (.lst (nVs (((Rh12.part s a b).take i).map (Rh12.weight s)))))
    ⟨same_upd hD2, upd_same⟩ (fun i H' _ ⟨s4, _⟩ => SqL.of (s4 _ _ hl3)) ?_ ?_⟩
  · rintro i y H3 hi ⟨s4, hd2⟩
    obtain ⟨n, hn, rfl⟩ := nVs_get hi
    have hq3 := (s3.trans s4) _ _ (s1 _ _ hq)
    refine ⟨rfl, _, rfl, qa, rfl, .inl ⟨_, .inl hq3⟩, _, rfl, _, DGet.any (n := n) (.inl hq3), _, hd2, ?_, same_snoc hD2 s4, ?_⟩
    · rw [nVs_len, List.length_map, List.length_take]; exact line_lt (by omega)
    · rw [upd_same, take_more hn, List.map_append, nVs_app, getD_qkv]
      rfl
  rintro H3 ⟨s4, hd2⟩
  rw [nVs_len, List.take_length] at hd2
  refine ⟨D2, Rh12.ints ((Rh12.part s a b).map (Rh12.weight s)), rfl, SqL.of hd2, ?_⟩
  rw [TpM.total_sum]
  have sF : Same H H3 := s1.trans (s3.trans s4)
  have hs3 := sF _ _ hs
  have hp3 := sF _ _ hp
  have hc3 := sF _ _ hdc
  have hd3 := sF _ _ hdd
  refine ⟨_, rfl, sa, CS, sdx, _, _, rfl, hs3, S.cl, S.no _ (.head _), rfl, _, rfl, _, _, rfl, rfl, .inl ⟨by omega, by have := ok.once; omega⟩, ?_⟩
  refine ⟨_, rfl, sa, CS, sdx, _, _, rfl, hs3, S.cl, S.no _ (.tail _ (.head _)), rfl, _, rfl, _, _, rfl, rfl, .inl ⟨by omega, by have := ok.each; omega⟩, _, _, rfl, rfl, ?_⟩
  refine ⟨_, rfl, sa, CS, sdx, _, _, rfl, hs3, S.cl, S.no _ (.tail _ (.tail _ (.tail _ (.tail _ (.head _))))), rfl, _, rfl, l, _, rfl, .inl (SqL.of (s4 _ _ hl3)), _, _, rfl, rfl, .inl ⟨by omega, by have := ok.cost; omega⟩, _, _, rfl, rfl, ?_⟩
  have efin := worth_is s a b _ _ rfl rfl (TpM.part_len h1 h2 h3)
  rw [nVs_len]
  refine ⟨_, rfl, _, rfl, p, CT, dx, _, _, rfl, hp3, T.cl, T.no _ (.tail _ (.tail _ (.head _))), rfl, dc, _, rfl, DGet.any (n := a) (.inl hc3), _, rfl, ?_⟩
  cases c1 : (Rh12.firsts 1 s.text).contains a with
  | true =>
    rw [c1, if_pos rfl] at efin
    refine if_true_of ((hkc a).trans c1) ⟨_, rfl, _, rfl, sa, CS, sdx, _, _, rfl, hs3, S.cl, S.no _ (.tail _ (.tail _ (.head _))), rfl, _, _, rfl, rfl, ?_⟩
    refine ⟨_, rfl, _, rfl, p, CT, dx, _, _, rfl, hp3, T.cl, T.no _ (.tail _ (.tail _ (.tail _ (.head _)))), rfl, dd, _, rfl, DGet.any (n := b) (.inl hd3), _, rfl, ?_⟩
    cases c2 : (Rh12.lasts 1 s.text).contains b with
    | true =>
      rw [c2, if_pos rfl] at efin
      rw [← efin] at k
      exact if_true_of ((hkd b).trans c2) ⟨_, rfl, _, rfl, sa, CS, sdx, _, _, rfl, hs3, S.cl, S.no _ (.tail _ (.tail _ (.tail _ (.head _)))), rfl, _, _, rfl, rfl, _, rfl, k H3 sF⟩
    | false =>
      rw [c2, if_neg (by decide), Int.add_zero] at efin
      rw [← efin] at k
      exact if_false_of ((hkd b).trans c2) ⟨_, rfl, k H3 sF⟩
  | false =>
    rw [c1, if_neg (by decide), Int.add_zero] at efin
    refine if_false_of ((hkc a).trans c1) ?_
    refine ⟨_, rfl, _, rfl, p, CT, dx, _, _, rfl, hp3, T.cl, T.no _ (.tail _ (.tail _ (.tail _ (.head _)))), rfl, dd, _, rfl, DGet.any (n := b) (.inl hd3), _, rfl, ?_⟩
    cases c2 : (Rh12.lasts 1 s.text).contains b with
    | true =>
      rw [c2, if_pos rfl] at efin
      rw [← efin] at k
      exact if_true_of ((hkd b).trans c2) ⟨_, rfl, _, rfl, sa, CS, sdx, _, _, rfl, hs3, S.cl, S.no _ (.tail _ (.tail _ (.tail _ (.head _)))), rfl, _, _, rfl, rfl, _, rfl, k H3 sF⟩
    | false =>
      rw [c2, if_neg (by decide), Int.add_zero] at efin
      rw [← efin] at k
      exact if_false_of ((hkd b).trans c2) ⟨_, rfl, k H3 sF⟩
/- eligible -/
def spEligible (CT CS : Addr) : Sp := fun vs H Q _ => ∃ tv qv sv s, vs = [tv, qv, sv] ∧ View CT CS H tv qv sv s ∧ Ok s ∧ New (ListOf TripAt) (TpM.trips s) H Q
abbrev sEligible : Stmt := top 8
abbrev nEligible : List Str := ["text", "query", "settings", "found", "a", "b"]
theorem scEligible : FnScope nEligible ["text", "query", "settings"] (defScope sEligible) := ⟨rfl, rfl, rfl, by decide +kernel, rfl, by decide +kernel, by decide +kernel⟩
theorem ok_eligible {CT CS : Addr} (F : Fun K "eligible" "eligible" sEligible f fd) (B : Blt mg) (T : ClsAt K mg CT "Text" tFs) (S : ClsAt K mg CS "Settings" sFs) (MM : MtAt P w K mg base CX0 1 CT "many" ["self"] (spMany CT))
    (HW : FnAt P w K mg base CX0 2 "has_word" ["text", "query", "a", "b"] (spHasWord CT)) (SC : FnAt P w K mg base CX0 2 "score_of" ["text", "query", "settings", "a", "b"] (spScore CT CS)) : FnOk P w K mg base CX0 3 f fd ["text", "query", "settings"] (spEligible CT CS) := by
  obtain ⟨fM, fdM, GM, mM, bM⟩ := MM.ex
  obtain ⟨fW, fdW, GW, gW, kW, bW⟩ := HW.ex
  obtain ⟨fS, fdS, GS, gS, kS, bS⟩ := SC.ex
  refine F.ok scEligible (fun vs H Q E h => ?_) (fun cdv A outer s H vs Q E hr h => ⟨_, pss_cons (ps_set (i := 3) scEligible.nd rfl (Or.inl rfl) (pe_lst pa_nil))
    (pss_cons (ps_for PassesOwn.never rfl (pi_range2 (by rfl) B.range (pa_cons pe_int (pa_cons (pe_op op_add (pe_meth0 (pv 0) T.cl mM GM (hr.mono (by decide)) bM .nil pass0) pe_int) pa_nil))) (pg_name (i := 4) scEligible.nd rfl (Or.inl rfl))
      (pss_one (ps_for PassesOwn.never rfl (pi_range2 (by rfl) B.range (pa_cons (pv 4) (pa_cons (pe_op op_add (pe_callB (call_min2 rfl) (by rfl) B.min (by decide +kernel) (pa_cons (pe_meth0 (pv 0) T.cl mM GM (hr.mono (by decide)) bM .nil pass0) (pa_cons (pe_op op_sub (pe_op op_add (pv 4) (pe_fld (pv 2) rfl)) pe_int) pa_nil))) pe_int) pa_nil))) (pg_name (i := 5) scEligible.nd rfl (Or.inl rfl))
        (pss_one (ps_if (pt_val (pe_call GW hr rfl gW kW bW .nil pass0 (pa_cons (pv 0) (pa_cons (pv 1) (pa_cons (pv 4) (pa_cons (pv 5) pa_nil))))))
          (pss_one (ps_expr (pe_bm PySem.F.plainAttrs_list PySem.F.slot_list_append PySem.F.type_list_append mt_append (pv 3) (pa_cons (pe_tup (pa_cons (pv 4) (pa_cons (pv 5) (pa_cons (pe_call GS hr rfl gS kS bS .nil pass0 (pa_cons (pv 0) (pa_cons (pv 1) (pa_cons (pv 2) (pa_cons (pv 4) (pa_cons (pv 5) pa_nil)))))) pa_nil)))) pa_nil)))) pss_nil)))))
    (pss_one (ps_ret (pv 3)))), ?_⟩)
  · obtain ⟨tv, qv, sv, s, rfl, _⟩ := h; rfl
  obtain ⟨tv, qv, sv, s, rfl, hV, ok, k⟩ := h
  obtain ⟨p, dx, ta, tb, tc, td, rfl, hp, _⟩ := id hV.text
  obtain ⟨sa, sdx, rfl, hs⟩ := id hV.sets
  have hn := ok.len.1
  refine ⟨Nat.zero_le _, fun D hD => ?_⟩
  have s0 := same_upd (o := .lst []) hD
  refine ⟨_, rfl, p, dx, _, rfl, s0 _ _ hp, rfl, .ref p, s.text, rfl, TextAt.stays _ _ _ _ s0 hV.text, fun H1 s1 => ?_⟩
  have elen : s.text.flatten.length = (Rh12.flat s).length := rfl
  refine ⟨_, _, rfl, rfl, 1, _, rfl, ⟨by decide, by decide, by omega, by omega⟩, for_range (lo := 1) (n := ((s.text.flatten.length : Nat) + 1 - 1 : Int).toNat) (fun i σ H' => ∃ va vb, σ = [some (.ref p), some qv, some (.ref sa), some (.ref D), va, vb] ∧ Same H H' ∧ Acc TripAt D H' ((TpM.allN s i).map (TpM.trip s)))
    ⟨none, none, rfl, s0.trans s1, Acc.start.move TripAt.stays s1⟩ ?_ ?_⟩
  · rintro i σ H2 hi ⟨va, vb, rfl, s2, hA⟩
    have hi : i < (Rh12.flat s).length := by omega
    have ea : (1 + (i : Nat) : Int) = ((i + 1 : Nat) : Int) := by omega
    rw [ea]
    refine ⟨_, rfl, _, rfl, p, dx, _, rfl, s2 _ _ hp, rfl, .ref p, s.text, rfl, TextAt.stays _ _ _ _ s2 hV.text, fun H3 s3 => ?_⟩
    have s23 := s2.trans s3
    refine ⟨_, rfl, _, rfl, sa, CS, sdx, _, _, rfl, s23 _ _ hs, S.cl, S.no _ (.tail _ (.tail _ (.tail _ (.tail _ (.tail _ (.head _)))))), rfl, _, _, rfl, rfl, _, _, rfl, rfl, _, _, rfl, _, _, rfl, rfl, _, _, rfl, ⟨by omega, by omega, ?_, ?_⟩, ?_⟩
    · have := ok.wide1; split <;> omega
    · have := ok.wide2; split <;> omega
    generalize hm : Int.toNat _ = m
    have hm : m = min s.wide ((Rh12.flat s).length + 1 - (i + 1)) := by
      have := ok.wide1
      rw [← hm]; split <;> omega
    refine for_range (lo := ((i + 1 : Nat) : Int)) (n := m) (fun j σ H' => ∃ vb, σ = [some (.ref p), some qv, some (.ref sa), some (.ref D), some (.int ((i + 1 : Nat) : Int)), vb] ∧ Same H H' ∧ Acc TripAt D H' ((TpM.allN s i ++ TpM.fromJ s (i + 1) j).map (TpM.trip s)))
      ⟨vb, rfl, s23, by rw [TpM.fromJ_zero, List.append_nil]; exact hA.move TripAt.stays s3⟩ ?_ ?_
    · rintro j σ H4 hj ⟨vb, rfl, s4, hA4⟩
      have eb : (((i + 1 : Nat) : Int) + (j : Nat) : Int) = ((i + 1 + j : Nat) : Int) := by omega
      rw [eb]
      have hV4 := hV.stay s4
      refine ⟨_, rfl, _, rfl, _, rfl, _, rfl, .ref p, qv, s, i + 1, i + 1 + j, rfl, hV4.text, hV4.query, ok, by omega, fun H5 s5 => ⟨_, rfl, ?_⟩⟩
      have hA5 := hA4.move TripAt.stays s5
      have s45 := s4.trans s5
      cases c : Rh12.hit s (i + 1) (i + 1 + j) with
      | false =>
        refine iteF ⟨_, rfl, s45, ?_⟩
        rw [TpM.fromJ_succ, c, if_neg (by decide), List.append_nil]
        exact hA5
      | true =>
        obtain ⟨us, hus, _⟩ := id hA5
        refine iteT ⟨_, rfl, .inl ⟨rfl, us, SqL.of hus⟩, _, rfl, _, rfl, _, rfl, _, rfl, _, rfl, _, rfl, _, rfl, .ref p, qv, .ref sa, s, i + 1, i + 1 + j, rfl, hV.stay s45, ok, by omega, by omega, by omega, fun H6 s6 => ⟨sz3, fun t ht => ?_⟩⟩
        have s7 := same_upd (o := .tup [V.int ((i + 1 : Nat) : Int), V.int ((i + 1 + j : Nat) : Int), V.int (Rh12.worth s (i + 1) (i + 1 + j))]) ht
        have hD6 := s6 _ _ hus
        have htD : t ≠ D := fun e => by subst e; rw [hD6] at ht; cases ht
        have hA7 := (hA5.move TripAt.stays s6).move TripAt.stays s7
        refine ⟨D, _, _, rfl, rfl, s7 _ _ hD6, ?_, _, rfl, same_snoc hD (s45.trans (s6.trans s7)), ?_⟩
        · rw [hA5.len hus, List.length_map, List.length_append]
          have h1 := TpM.allN_len s i
          have h2 := TpM.fromJ_len s (i + 1) j
          have h3 : i * s.wide ≤ 60 * 20 := Nat.mul_le_mul (by omega) ok.wide2
          have := ok.wide2
          exact line_lt (by omega)
        · rw [TpM.fromJ_succ, c, if_pos rfl, ← List.append_assoc, List.map_append]
          exact hA7.snoc (s7 _ _ hD6) ⟨t, rfl, by rw [del_ne htD]; exact upd_same⟩
    · rintro σ H4 ⟨vb, rfl, s4, hA4⟩
      refine ⟨_, _, rfl, s4, ?_⟩
      rw [TpM.allN_succ, TpM.from_fromJ, ← hm]
      exact hA4
  · rintro σ H2 ⟨va, vb, rfl, s2, hA⟩
    rw [show ((s.text.flatten.length : Nat) + 1 - 1 : Int).toNat = (Rh12.flat s).length by omega] at hA
    exact ⟨_, rfl, k H2 _ s2 (hA.done TripAt.stays)⟩
end
end Tp

namespace Tp
open PySem PySem.Spec PyProof.Rows L2
open TpM (Pas Trip Sel)
def RankAt : Hp → V → Sel → Prop := fun H v c => ∃ t q, v = .ref t ∧ H t = some (.tup [.int (-c.1), .int (c.2.length : Nat), q]) ∧ ListOf PairAt H q c.2
theorem RankAt.stays : Stays RankAt := fun H H' _ _ s ⟨t, q, e, h, l⟩ => ⟨t, q, e, s _ _ h, ListOf.stays PairAt.stays H H' _ _ s l⟩
section
variable {P : Program} {w : World} {K : PySem.W.Frag} {mg : Str → Option Value} {base : Heap} {f : Addr} {fd : FuncData}
theorem RankAt.dp {H : Hp} {v : V} {c : Sel} (h : RankAt H v c) : Dp K H v (rankD c) := by
  obtain ⟨t, q, rfl, ht, a, vs, rfl, ha, hs⟩ := h
  exact .tup (SqT.of ht) (.cons (.int _) (.cons (.int _) (.cons (.lst (SqL.of ha) (dp_pass hs)) .nil)))
def spSelInit (C : Addr) : Sp := fun vs H Q _ => ∃ p dx z q, vs = [.ref p, .int z, q] ∧ H p = some (.ins C dx []) ∧ ∀ H', SameBut p H H' → (∀ l, H' p = some (.ins C dx (selF (z, l) q))) → Q .non H'
abbrev sSelInit : Stmt := meth 10 0
theorem scSelInit : FnScope ["self", "score", "passages"] ["self", "score", "passages"] (defScope sSelInit) := ⟨rfl, rfl, rfl, by decide +kernel, rfl, by decide +kernel, by decide +kernel⟩
theorem ok_selInit {C : Addr} (F : Fun K "__init__" "Selection.__init__" sSelInit f fd) (T : ClsAt K mg C "Selection" cFs) : FnOk P w K mg base CX0 1 f fd ["self", "score", "passages"] (spSelInit C) := by
  refine F.ok scSelInit (fun vs H Q E h => ?_) (fun cdv A outer s H vs Q E hr h => ⟨_, pss_cons (ps_fld (pv 0) (pv 1) rfl) (pss_one (ps_fld (pv 0) (pv 2) rfl)), ?_⟩)
  · obtain ⟨p, dx, z, q, rfl, _⟩ := h; rfl
  obtain ⟨p, dx, z, q, rfl, hp, k⟩ := h
  refine ⟨_, rfl, _, rfl, p, C, dx, _, rfl, hp, T.cl, T.no _ (.head _), (by show 0 < 1000; decide), ?_⟩
  refine ⟨_, rfl, _, rfl, p, C, dx, _, rfl, upd_same, T.cl, T.no _ (.tail _ (.head _)), (by show 1 < 1000; decide), ?_⟩
  exact k _ (.upd (.upd (SameBut.refl p H))) fun l => upd_same
def spRank (C : Addr) : Sp := fun vs H Q _ => ∃ v c, vs = [v] ∧ SelAt C H v c ∧ New RankAt c H Q
abbrev sRank : Stmt := meth 10 1
theorem scRank : FnScope ["self"] ["self"] (defScope sRank) := ⟨rfl, rfl, rfl, by decide +kernel, rfl, by decide +kernel, by decide +kernel⟩
theorem ok_rank {C : Addr} (F : Fun K "rank" "Selection.rank" sRank f fd) (B : Blt mg) (T : ClsAt K mg C "Selection" cFs) : FnOk P w K mg base CX0 1 f fd ["self"] (spRank C) := by
  refine F.ok scRank (fun vs H Q E h => ?_) (fun cdv A outer s H vs Q E hr h => ⟨_, pss_one (ps_ret (pe_tup (pa_cons (pe_un un_neg (pe_fld (pv 0) rfl)) (pa_cons (pe_callB call_len_seq (by rfl) B.len PySem.boot_len (pa_cons (pe_fld (pv 0) rfl) pa_nil)) (pa_cons (pe_fld (pv 0) rfl) pa_nil))))), ?_⟩)
  · obtain ⟨v, c, rfl, _⟩ := h; rfl
  obtain ⟨v, c, rfl, ⟨p, dx, q, rfl, hp, ⟨a, us, rfl, ha, hs⟩⟩, k⟩ := h
  refine ⟨_, rfl, p, C, dx, _, _, rfl, hp, T.cl, T.no _ (.head _), rfl, _, rfl, _, rfl, p, C, dx, _, _, rfl, hp, T.cl, T.no _ (.tail _ (.head _)), rfl, a, _, rfl, .inl (SqL.of ha), _, rfl, p, C, dx, _, _, rfl, hp, T.cl, T.no _ (.tail _ (.head _)), rfl, sz3, fun t ht => ?_⟩
  have s1 := fun o => same_upd (o := o) ht
  refine k _ _ (s1 _) ⟨t, .ref a, rfl, ?_, a, us, rfl, s1 _ _ _ ha, hs.stay PairAt.stays (s1 _)⟩
  rw [upd_same, hs.len]
def spLonger (C : Addr) : Sp := fun vs H Q _ => ∃ v u t c, vs = [v, u] ∧ TripAt H v t ∧ SelAt C H u c ∧ c.2.length ≤ 1000 ∧ New (SelAt C) (TpM.aheadT t c) H Q
abbrev sLonger : Stmt := top 11
abbrev nLonger : List Str := ["passage", "rest", "a", "b", "score"]
theorem scLonger : FnScope nLonger ["passage", "rest"] (defScope sLonger) := ⟨rfl, rfl, rfl, by decide +kernel, rfl, by decide +kernel, by decide +kernel⟩
theorem ok_longer {C : Addr} (F : Fun K "longer" "longer" sLonger f fd) (T : ClsAt K mg C "Selection" cFs) (MK : MkAt P w K mg base 1 C ["self", "score", "passages"] (spSelInit C)) : FnOk P w K mg base CX0 3 f fd ["passage", "rest"] (spLonger C) := by
  obtain ⟨fI, fdI, GI, mI, bI⟩ := MK.ex
  refine F.ok scLonger (fun vs H Q E h => ?_) (fun cdv A outer s H vs Q E hr h => ⟨_, pss_cons (ps_asg (pv 0) (pg_tup rfl (pgs_cons (pg_name (i := 2) scLonger.nd rfl (Or.inl rfl)) (pgs_cons (pg_name (i := 3) scLonger.nd rfl (Or.inl rfl)) (pgs_cons (pg_name (i := 4) scLonger.nd rfl (Or.inl rfl)) pgs_nil)))))
    (pss_one (ps_ret (pe_make mI GI hr rfl T.g bI .nil pass0 (pa_cons (pe_op op_add (pv 4) (pe_fld (pv 1) rfl)) (pa_cons (pe_op op_cat (pe_lst (pa_cons (pe_tup (pa_cons (pv 2) (pa_cons (pv 3) pa_nil))) pa_nil)) (pe_fld (pv 1) rfl)) pa_nil))))), ?_⟩)
  · obtain ⟨v, u, t, c, rfl, _⟩ := h; rfl
  obtain ⟨v, u, t, c, rfl, ⟨ta, rfl, hta⟩, ⟨p, dx, q, rfl, hp, ⟨a, us, rfl, ha, hs⟩⟩, hl, k⟩ := h
  refine ⟨_, rfl, ta, _, rfl, SqT.of hta, rfl, _, _, rfl, _, _, rfl, _, _, rfl, rfl, ?_⟩
  refine ⟨_, rfl, _, rfl, p, C, dx, _, _, rfl, hp, T.cl, T.no _ (.head _), rfl, _, _, rfl, rfl, ?_⟩
  refine ⟨_, rfl, _, rfl, sz2, fun n hn => ⟨sz1, fun m hm => ?_⟩⟩
  have s1 := same_upd (o := .tup [V.int (t.1 : Nat), V.int (t.2.1 : Nat)]) hn
  have s2 := same_upd (o := .lst [V.ref n]) hm
  have s12 := s1.trans s2
  refine ⟨_, rfl, p, C, dx, _, _, rfl, s12 _ _ hp, T.cl, T.no _ (.tail _ (.head _)), rfl, _, _, _, _, rfl, rfl, upd_same, s12 _ _ ha, ?_, fun r hr2 => ?_⟩
  · rw [hs.len]; exact line_ok (by show 1 + _ ≤ _; omega)
  have s3 := same_upd (o := .lst ([V.ref n] ++ us)) hr2
  have sAll := s12.trans s3
  intro x xd hx hxd hne
  have s4 := same_upd (o := .own x) hxd
  have hx4 : (upd (upd (upd (upd H n (.tup [V.int (t.1 : Nat), V.int (t.2.1 : Nat)])) m (.lst [V.ref n])) r (.lst ([V.ref n] ++ us))) xd (.own x)) x = none := by rw [upd_ne hne.symm]; exact hx
  have s5 := same_upd (o := .ins C xd []) hx4
  refine ⟨x, xd, _, .ref r, rfl, upd_same, fun H6 b6 h6 => ⟨rfl, ?_⟩⟩
  have s6 : Same _ H6 := (SameBut.trans (.of s5) b6).same hx4
  have sB := sAll.trans (s4.trans s6)
  refine k H6 (.ref x) sB ⟨x, xd, .ref r, rfl, h6 _, r, _, rfl, (s4.trans s6) _ _ upd_same, .cons ⟨n, rfl, (s2.trans (s3.trans (s4.trans s6))) _ _ upd_same⟩ (hs.stay PairAt.stays sB)⟩
def spBetter (C : Addr) : Sp := fun vs H Q _ => ∃ v u c d, vs = [v, u] ∧ SelAt C H v c ∧ SelAt C H u d ∧ New (SelAt C) (TpM.betterS c d) H Q
abbrev sBetter : Stmt := top 12
theorem scBetter : FnScope ["one", "other"] ["one", "other"] (defScope sBetter) := ⟨rfl, rfl, rfl, by decide +kernel, rfl, by decide +kernel, by decide +kernel⟩
theorem ok_better {C : Addr} (F : Fun K "better" "better" sBetter f fd) (T : ClsAt K mg C "Selection" cFs) (MR : MtAt P w K mg base CX0 1 C "rank" ["self"] (spRank C)) : FnOk P w K mg base CX0 2 f fd ["one", "other"] (spBetter C) := by
  obtain ⟨fR, fdR, GR, mR, bR⟩ := MR.ex
  refine F.ok scBetter (fun vs H Q E h => ?_) (fun cdv A outer s H vs Q E hr h => ⟨_, pss_one (ps_ret (pe_ifExp (pt_cmpR (op_ltD hr.units) (pe_meth0 (pv 1) T.cl mR GR hr bR .nil pass0) (pe_meth0 (pv 0) T.cl mR GR hr bR .nil pass0) (nomark _)) (pv 1) (pv 0))), ?_⟩)
  · obtain ⟨v, u, c, d, rfl, _⟩ := h; rfl
  obtain ⟨v, u, c, d, rfl, hv, hu, k⟩ := h
  obtain ⟨p, dx, q, rfl, hp, hq⟩ := id hv
  obtain ⟨p2, dx2, q2, rfl, hp2, hq2⟩ := id hu
  refine ⟨_, rfl, p2, dx2, _, rfl, hp2, rfl, .ref p2, d, rfl, hu, fun H1 r1 s1 hr1 => ?_⟩
  refine ⟨_, rfl, p, dx, _, rfl, s1 _ _ hp, rfl, .ref p, c, rfl, SelAt.stays _ _ _ _ s1 hv, fun H2 r2 s2 hr2 => ?_⟩
  have s12 := s1.trans s2
  refine ⟨rankD d, rankD c, (RankAt.stays _ _ _ _ s2 hr1).dp, hr2.dp, alike_rank _ _, (by unfold rankD; intro z; cases z), dep_rank _, _, rfl, ?_⟩
  rw [lt_rank]
  unfold TpM.betterS at k
  cases e : TpM.rankLt d c with
  | true =>
    rw [e, if_pos rfl] at k
    exact iteT ⟨_, rfl, k H2 _ s12 (SelAt.stays _ _ _ _ s12 hu)⟩
  | false =>
    rw [e, if_neg (by decide)] at k
    exact iteF ⟨_, rfl, k H2 _ s12 (SelAt.stays _ _ _ _ s12 hv)⟩
end
end Tp

namespace Tp
open PySem PySem.Spec PyProof.Rows L2
open TpM (Pas Trip Sel)
theorem AllR.mk {α : Type} {R : V → α → Prop} : ∀ {vs : List V} {xs : List α}, vs.length = xs.length → (∀ (i : Nat) (v : V) (x : α), vs[i]? = some v → xs[i]? = some x → R v x) → AllR R vs xs
  | [], [], _, _ => .nil
  | [], _ :: _, h, _ => by simp at h
  | _ :: _, [], h, _ => by simp at h
  | v :: vs, x :: xs, h, g => .cons (g 0 v x rfl rfl) (AllR.mk (by simpa using h) fun i v x h1 h2 => g (i + 1) v x (by simpa using h1) (by simpa using h2))
def Bags (D : Addr) (H0 H' : Hp) (L : List (List Trip)) : Prop := ∃ as : List Addr, H' D = some (.lst (as.map V.ref)) ∧ as.Nodup ∧ (∀ a ∈ as, a ≠ D ∧ H0 a = none) ∧ as.length = L.length ∧
  ∀ (i : Nat) (a : Addr) (l : List Trip), as[i]? = some a → L[i]? = some l → ∃ vs, H' a = some (.lst vs) ∧ AllR (TripAt H0) vs l
section
variable {P : Program} {w : World} {K : PySem.W.Frag} {mg : Str → Option Value} {base : Heap} {f : Addr} {fd : FuncData}
def spByBegins : Sp := fun vs H Q _ => ∃ v n ps, vs = [v, .int (n : Nat)] ∧ ListOf TripAt H v ps ∧ n ≤ 1000 ∧ ps.length ≤ 10000 ∧ (∀ t ∈ ps, t.1 < n + 2) ∧ New (ListOf (ListOf TripAt)) (TpM.byBegins n ps) H Q
abbrev sByBegins : Stmt := top 14
abbrev nByBegins : List Str := ["passages", "many", "found", "passage", "at"]
theorem scByBegins : FnScope nByBegins ["passages", "many"] (defScope sByBegins) := ⟨rfl, rfl, rfl, by decide +kernel, rfl, by decide +kernel, by decide +kernel⟩
theorem ok_by_begins (F : Fun K "by_begins" "by_begins" sByBegins f fd) (B : Blt mg) : FnOk P w K mg base CX0 1 f fd ["passages", "many"] spByBegins := by
  refine F.ok scByBegins (fun vs H Q E h => ?_) (fun cdv A outer s H vs Q E hr h => ⟨_, pss_cons (ps_setLc (i := 2) (own := [("at", 4)]) (g := gName 4) (tt := tYes) rfl scByBegins.nd rfl rfl (sw_true rfl rfl rfl (by decide +kernel))
        (pi_range1 rfl B.range (pa_cons (pe_op op_add (pv 1) pe_int) pa_nil))
        (blkOk_by (N := nByBegins) (sc := defScope sByBegins) (by decide +kernel)) (fun _ _ _ _ _ => pg_name (i := 4) scByBegins.nd rfl (Or.inl rfl)) (fun _ _ _ _ _ => pts_nil)
        (fun _ _ _ _ _ => pe_lst pa_nil))
    (pss_cons (ps_for PassesOwn.never rfl (pi_list (pv 0)) (pg_name (i := 3) scByBegins.nd rfl (Or.inl rfl))
      (pss_one (ps_expr (pe_bm PySem.F.plainAttrs_list PySem.F.slot_list_append PySem.F.type_list_append mt_append (pe_ix ix_list (pv 2) (pe_ix ix_tup (pv 3) pe_int (fun _ _ => rfl)) (fun _ _ => rfl)) (pa_cons (pv 3) pa_nil)))))
    (pss_one (ps_ret (pv 2)))), ?_⟩)
  · obtain ⟨v, n, ps, rfl, _⟩ := h; rfl
  obtain ⟨v, n, ps, rfl, ⟨a, us, rfl, ha, hs⟩, hn, hpl, hlt, k⟩ := h
  refine ⟨_, rfl, _, _, rfl, rfl, _, rfl, by omega, by omega, fun D hD => lc_range (lo := 0) (n := ((n : Nat) + 2 : Int).toNat) (fun i H' => Same H H' ∧ Bags D H H' (List.replicate i []))
    ⟨same_upd hD, [], upd_same, .nil, by simp, rfl, fun i a l h => by simp at h⟩ ?_ ?_⟩
  · rintro i H1 hi ⟨s1, as, h1, h2, h3, h4, h5⟩
    refine ⟨rfl, Nat.zero_le _, fun q nq => ⟨as.map V.ref, ?_⟩⟩
    have hqD : q ≠ D := fun e => by subst e; rw [h1] at nq; cases nq
    have s2 := same_upd (o := .lst []) nq
    have hqn : q ∉ as := fun m => by
      obtain ⟨j, hj⟩ := List.mem_iff_getElem?.mp m
      have hjl := lt_of_get hj
      rw [h4] at hjl
      obtain ⟨vs, hv, _⟩ := h5 j q [] hj (by rw [List.getElem?_replicate, if_pos (by simpa using hjl)])
      rw [hv] at nq; cases nq
    have hqH : H q = none := by
      cases e : H q with
      | none => rfl
      | some o => rw [s1 _ _ e] at nq; cases nq
    refine ⟨s2 _ _ h1, ?_, same_snoc hD (s1.trans s2), as ++ [q], ?_, ?_, ?_, ?_, ?_⟩
    · rw [List.length_map, h4, List.length_replicate]; exact line_lt (by omega)
    · rw [upd_same, List.map_append]; rfl
    · rw [List.nodup_append]
      exact ⟨h2, by simp, fun x hx y hy e => by simp at hy; subst hy; subst e; exact hqn hx⟩
    · intro x hx
      rcases List.mem_append.mp hx with m | m
      · exact h3 x m
      · simp at m; subst m; exact ⟨hqD, hqH⟩
    · rw [List.length_append, h4]; simp
    · intro j x l hj hl
      rw [List.getElem?_replicate] at hl
      by_cases c : j < i + 1
      · rw [if_pos c] at hl
        cases hl
        rw [List.getElem?_append] at hj
        by_cases c2 : j < as.length
        · rw [if_pos c2] at hj
          rw [h4, List.length_replicate] at c2
          obtain ⟨vs, hv, hvs⟩ := h5 j x [] hj (by rw [List.getElem?_replicate, if_pos c2])
          have : x ≠ D := (h3 x (List.mem_of_getElem? hj)).1
          exact ⟨vs, by rw [upd_ne this]; exact s2 _ _ hv, hvs⟩
        · rw [if_neg c2] at hj
          have : j - as.length = 0 := by rw [h4, List.length_replicate] at *; omega
          rw [this] at hj
          simp at hj
          subst hj
          exact ⟨[], by rw [upd_ne hqD]; exact upd_same, .nil⟩
      · rw [if_neg c] at hl; cases hl
  rintro H1 ⟨s1, hB⟩
  rw [show ((n : Nat) + 2 : Int).toNat = n + 2 by omega, ← TpM.byBegins_nil n] at hB
  refine ⟨_, rfl, a, rfl, ⟨_, SqL.of (s1 _ _ ha)⟩, for_list (K := K) (a := a) (xs := us) (fun i σ H' => ∃ v, σ = [some (.ref a), some (.int (n : Nat)), some (.ref D), v, none] ∧ Same H H' ∧ Bags D H H' (TpM.byBegins n (ps.take i)))
    ⟨none, rfl, s1, hB⟩ (fun i σ H' _ ⟨_, _, s2, _⟩ => SqL.of (s2 _ _ ha)) ?_ ?_⟩
  · rintro i y σ H2 hi ⟨v, rfl, s2, as, h1, h2, h3, h4, h5⟩
    obtain ⟨x, hx, t, rfl, ht⟩ := hs.get hi
    have hil := lt_of_get hx
    have hx1 := hlt x (List.mem_of_getElem? hx)
    have hL := TpM.byBegins_len n (ps.take i)
    obtain ⟨b, hb⟩ : ∃ b, as[x.1]? = some b := ⟨as[x.1]'(by rw [h4, hL]; exact hx1), List.getElem?_eq_getElem _⟩
    have hget := TpM.byBegins_get (n := n) (ps := ps.take i) hx1
    obtain ⟨vs, hv, hvs⟩ := h5 _ b _ hb hget
    have ht2 := s2 _ _ ht
    obtain ⟨hbD, hbH⟩ := h3 b (List.mem_of_getElem? hb)
    refine ⟨_, rfl, _, rfl, t, _, _, _, rfl, rfl, SqT.of ht2, atI_nat (j := 0) rfl, D, _, _, .ref b, rfl, rfl, SqL.of h1, atI_nat (by rw [List.getElem?_map, hb]; rfl), .inl ⟨rfl, vs, SqL.of hv⟩, _, rfl, b, vs, _, rfl, rfl, hv, ?_, _, rfl, same_snoc hbH s2, as, ?_, h2, h3, ?_, ?_⟩
    · rw [hvs.len]
      have h := List.length_filter_le (fun u : Trip => u.1 == x.1) (ps.take i)
      rw [List.length_take] at h
      exact line_lt (by omega)
    · rw [upd_ne hbD.symm]; exact h1
    · rw [take_more hx, TpM.byBegins_snoc hx1, List.length_set]; exact h4
    · intro j c l hj hl
      rw [take_more hx, TpM.byBegins_snoc hx1, List.getElem?_set] at hl
      by_cases e : x.1 = j
      · subst e
        rw [hb] at hj
        cases hj
        rw [if_pos rfl, if_pos (by rw [hL]; exact hx1)] at hl
        cases hl
        refine ⟨_, upd_same, ?_⟩
        rw [List.getD_eq_getElem?_getD, hget]
        exact hvs.snoc ⟨t, rfl, ht⟩
      · rw [if_neg e] at hl
        obtain ⟨ws, hw, hws⟩ := h5 j c l hj hl
        have : c ≠ b := fun z => by
          subst z
          refine e ?_
          exact (List.getElem?_inj (lt_of_get hb) h2).mp (hb.trans hj.symm)
        exact ⟨ws, by rw [upd_ne this]; exact hw, hws⟩
  · rintro σ H2 ⟨v, rfl, s2, as, h1, h2, h3, h4, h5⟩
    rw [hs.len, List.take_length] at h4 h5
    refine ⟨_, rfl, k H2 _ s2 ⟨D, _, rfl, h1, .mk (by rw [List.length_map]; exact h4) fun i v l hv hl => ?_⟩⟩
    rw [List.getElem?_map] at hv
    cases e : as[i]? with
    | none => rw [e] at hv; cases hv
    | some b =>
      rw [e] at hv
      cases hv
      obtain ⟨ws, hw, hws⟩ := h5 i b l e hl
      exact ⟨b, ws, rfl, hw, hws.stay TripAt.stays s2⟩
theorem Acc.set {α : Type} {R : Hp → V → α → Prop} {p : Addr} {H : Hp} {xs : List α} {vs : List V} {v : V} {x : α} (i : Nat) (h : Acc R p H xs) (e : H p = some (.lst vs)) (r : R (del p H) v x) : Acc R p (upd H p (.lst (vs.set i v))) (xs.set i x) := by
  obtain ⟨ws, h1, h2⟩ := h
  rw [e] at h1
  cases h1
  refine ⟨_, upd_same, ?_⟩
  rw [del_upd]
  exact h2.set i r
theorem SelAt.off {C p : Addr} {H : Hp} {v : V} {c : Sel} {xs : List Sel} (hA : Acc (SelAt C) p H xs) (hne : xs ≠ []) (h : SelAt C H v c) : SelAt C (del p H) v c := by
  obtain ⟨us, hp, hs⟩ := hA
  obtain ⟨x, dx, q, rfl, hx, a, vs, rfl, ha, hvs⟩ := h
  have hxp : x ≠ p := ne_of hx hp (by intro z; cases z)
  have hap : a ≠ p := fun e => by
    subst e
    rw [hp] at ha
    cases ha
    cases hs with
    | nil => exact hne rfl
    | cons r t =>
      obtain ⟨y, _, _, rfl, hy, _⟩ := r
      generalize c.2 = cl at hvs
      cases hvs with
      | cons r2 t2 =>
        obtain ⟨z, e, hz⟩ := r2
        cases e
        rw [(del_get hy).2] at hz
        cases hz
  refine ⟨x, dx, _, rfl, by rw [del_ne hxp]; exact hx, a, vs, rfl, by rw [del_ne hap]; exact ha, hvs.mono fun v x ⟨t, e, ht⟩ => ⟨t, e, ?_⟩⟩
  rw [del_ne (ne_of ht hp (by intro z; cases z))]
  exact ht
theorem ixN_nat {n j : Nat} (h : j < n) : ixN n (j : Int) = some j := by
  unfold ixN
  rw [if_pos (by omega), if_pos (by omega), Int.toNat_natCast]
theorem made_sel {C q x dx : Addr} {H H1 : Hp} (nq : H q = none) (hx : upd H q (.lst []) x = none) (hdx : upd H q (.lst []) dx = none) (hne : dx ≠ x) (b1 : SameBut x (upd (upd (upd H q (.lst [])) dx (.own x)) x (.ins C dx [])) H1) (h1 : H1 x = some (.ins C dx (selF (0, []) (.ref q)))) : Same H H1 ∧ SelAt C H1 (.ref x) TpM.sel0 := by
  have s1 := same_upd (o := .lst []) nq
  have s2 := same_upd (o := .own x) hdx
  have hx2 : (upd (upd H q (.lst [])) dx (.own x)) x = none := by rw [upd_ne hne.symm]; exact hx
  have s3 := same_upd (o := .ins C dx []) hx2
  have s4 : Same _ H1 := (SameBut.trans (.of s3) b1).same hx2
  exact ⟨s1.trans (s2.trans s4), x, dx, .ref q, rfl, h1, q, [], rfl, (s2.trans s4) _ _ upd_same, .nil⟩
def spRowWith (C : Addr) : Sp := fun vs H Q _ => ∃ lv bv n g L Rb, vs = [lv, .int (n : Nat), .int (g : Nat), bv] ∧ ListOf (ListOf TripAt) H lv L ∧ ListOf (SelAt C) H bv Rb ∧ L.length = n + 2 ∧ Rb.length = n + 2 ∧ n ≤ 1000 ∧ g ≤ 1000 ∧ (∀ c ∈ Rb, c.2.length ≤ 1000) ∧ New (ListOf (SelAt C)) (TpM.rowW L n g Rb) H Q
abbrev sRowWith : Stmt := top 13
abbrev nRowWith : List Str := ["passages", "many", "gap", "before", "found", "at", "best", "passage", "rest"]
theorem scRowWith : FnScope nRowWith ["passages", "many", "gap", "before"] (defScope sRowWith) := ⟨rfl, rfl, rfl, by decide +kernel, rfl, by decide +kernel, by decide +kernel⟩
theorem ok_row_with {C : Addr} (F : Fun K "row_with" "row_with" sRowWith f fd) (B : Blt mg) (T : ClsAt K mg C "Selection" cFs) (MK : MkAt P w K mg base 1 C ["self", "score", "passages"] (spSelInit C))
    (LG : FnAt P w K mg base CX0 3 "longer" ["passage", "rest"] (spLonger C)) (BT : FnAt P w K mg base CX0 2 "better" ["one", "other"] (spBetter C)) : FnOk P w K mg base CX0 4 f fd ["passages", "many", "gap", "before"] (spRowWith C) := by
  obtain ⟨fI, fdI, GI, mI, bI⟩ := MK.ex
  obtain ⟨fL, fdL, GL, gL, kL, bL⟩ := LG.ex
  obtain ⟨fB, fdB, GB, gB, kB, bB⟩ := BT.ex
  refine F.ok scRowWith (fun vs H Q E h => ?_) (fun cdv A outer s H vs Q E hr h => ⟨_, pss_cons (ps_set (i := 4) scRowWith.nd rfl (Or.inl rfl) (pe_op op_rep (pe_lst (pa_cons (pe_make mI GI (hr.mono (by decide)) rfl T.g bI .nil pass0 (pa_cons pe_int (pa_cons (pe_lst pa_nil) pa_nil))) pa_nil)) (pe_op op_add (pv 1) pe_int)))
    (pss_cons (ps_for PassesOwn.never rfl (pi_range3 rfl B.range (pa_cons (pv 1) (pa_cons pe_int (pa_cons (pe_un un_neg pe_int) pa_nil)))) (pg_name (i := 5) scRowWith.nd rfl (Or.inl rfl))
      (pss_cons (ps_set (i := 6) scRowWith.nd rfl (Or.inl rfl) (pe_ix ix_list (pv 4) (pe_op op_add (pv 5) pe_int) (fun _ _ => rfl)))
      (pss_cons (ps_for PassesOwn.never rfl (pi_list (pe_ix ix_list (pv 0) (pv 5) (fun _ _ => rfl))) (pg_name (i := 7) scRowWith.nd rfl (Or.inl rfl))
        (pss_cons (ps_set (i := 8) scRowWith.nd rfl (Or.inl rfl) (pe_ix ix_list (pv 3) (pe_callB (call_min2 rfl) (by rfl) B.min (by decide +kernel) (pa_cons (pe_op op_add (pe_op op_add (pe_ix ix_tup (pv 7) pe_int (fun _ _ => rfl)) (pv 2)) pe_int) (pa_cons (pe_op op_add (pv 1) pe_int) pa_nil))) (fun _ _ => rfl)))
        (pss_one (ps_set (i := 6) scRowWith.nd rfl (Or.inl rfl) (pe_call GB (hr.mono (by decide)) rfl gB kB bB .nil pass0 (pa_cons (pv 6) (pa_cons (pe_call GL hr rfl gL kL bL .nil pass0 (pa_cons (pv 7) (pa_cons (pv 8) pa_nil))) pa_nil)))))))
      (pss_one (ps_asg (pv 6) (pg_sub (pv 4) (pv 5) set_list))))))
    (pss_one (ps_ret (pv 4)))), ?_⟩)
  · obtain ⟨lv, bv, n, g, L, Rb, rfl, _⟩ := h; rfl
  obtain ⟨lv, bv, n, g, L, Rb, rfl, ⟨la, us, rfl, hla, hus⟩, ⟨lb, ws, rfl, hlb, hws⟩, hL, hR, hn, hg, hch, k⟩ := h
  refine ⟨Nat.zero_le _, fun q nq => ?_⟩
  intro x dx hx hdx hne
  refine ⟨x, dx, 0, .ref q, rfl, upd_same, fun H1 b1 h1 => ⟨rfl, sz1, fun l hl => ?_⟩⟩
  obtain ⟨s14, hsel⟩ := made_sel nq hx hdx hne b1 (h1 [])
  have s5 := same_upd (o := .lst [V.ref x]) hl
  refine ⟨_, rfl, _, _, rfl, rfl, _, _, _, rfl, rfl, upd_same, by omega, by omega, line_ok (by show 1 * Int.toNat _ ≤ _; omega), fun p hp => ?_⟩
  have s6 := same_upd (o := .lst (List.replicate (((n : Nat) : Int) + 2).toNat [V.ref x]).flatten) hp
  have sB := s14.trans (s5.trans s6)
  have hpH := Same.free (s14.trans s5) hp
  have hA0 : Acc (SelAt C) p (upd (upd H1 l (.lst [V.ref x])) p (.lst (List.replicate (((n : Nat) : Int) + 2).toNat [V.ref x]).flatten)) (TpM.rowAt L n g Rb 0) := by
    refine ⟨_, upd_same, ?_⟩
    rw [del_upd, TpM.rowAt_zero, List.flatten_replicate_singleton, show (((n : Nat) : Int) + 2).toNat = n + 2 by omega]
    refine AllR.rep (SelAt.stays _ _ _ _ (del_new hp (Same.refl _)) (SelAt.stays _ _ _ _ s5 hsel)) _
  refine ⟨_, rfl, _, rfl, _, 0, -1, _, rfl, RgC.neg (by omega) (by omega) (by omega) (by omega), for_rangeC (lo := (n : Int)) (c := -1) (n := ((n : Int) - 0).toNat) (fun i σ H' => ∃ va vb vc vd, σ = [some (.ref la), some (.int (n : Nat)), some (.int (g : Nat)), some (.ref lb), some (.ref p), va, vb, vc, vd] ∧ Same H H' ∧ Acc (SelAt C) p H' (TpM.rowAt L n g Rb i))
    ⟨none, none, none, none, rfl, sB, hA0⟩ ?_ ?_⟩
  · rintro i σ H2 hi ⟨va, vb, vc, vd, rfl, s2, hA⟩
    have hi : i < n := by omega
    have ea : (((n : Nat) : Int) + (i : Nat) * -1) = ((n - i : Nat) : Int) := by omega
    rw [ea]
    obtain ⟨us2, hus2, hus2A⟩ := id hA
    obtain ⟨v0, hv0, hv0s⟩ := hus2A.at_ (TpM.rowAt_get (L := L) (n := n) (gap := g) (Rb := Rb) (m := i) (i := i) (Nat.le_refl _) (by omega))
    have e1 : (((n - i : Nat) : Int) + 1) = ((n + 1 - i : Nat) : Int) := by omega
    refine ⟨_, rfl, _, rfl, _, _, rfl, rfl, p, us2, _, v0, rfl, rfl, SqL.of hus2, (by rw [e1]; exact atI_nat hv0), ?_⟩
    obtain ⟨lt, hlt⟩ : ∃ lt, L[n - i]? = some lt := ⟨L[n - i]'(by omega), List.getElem?_eq_getElem _⟩
    obtain ⟨v1, hv1, ⟨lt2, ts, rfl, hlt2, hts⟩⟩ := hus.at_ hlt
    have hne : TpM.rowAt L n g Rb i ≠ [] := fun e => by have := TpM.rowAt_len L n g Rb i; rw [e] at this; simp at this
    refine ⟨_, rfl, _, rfl, la, us, _, .ref lt2, rfl, rfl, SqL.of (s2 _ _ hla), atI_nat hv1, lt2, rfl, ⟨ts, SqL.of (s2 _ _ hlt2)⟩, for_list (K := K) (a := lt2) (xs := ts) (fun j σ H' => ∃ bv vc vd, σ = [some (.ref la), some (.int (n : Nat)), some (.int (g : Nat)), some (.ref lb), some (.ref p), some (.int ((n - i : Nat) : Int)), some bv, vc, vd] ∧ Same H H' ∧ Acc (SelAt C) p H' (TpM.rowAt L n g Rb i) ∧
        SelAt C (del p H') bv ((lt.take j).foldl (fun c t => TpM.betterS c (TpM.aheadT t (Rb.getD (min (t.2.1 + g + 1) (n + 1)) TpM.sel0))) (TpM.rowF L n g Rb i)))
      ⟨v0, vc, vd, rfl, s2, hA, hv0s⟩ (fun j σ H' _ ⟨_, _, _, _, s3, _⟩ => SqL.of (s3 _ _ hlt2)) ?_ ?_⟩
    · rintro j y σ H3 hj ⟨bv, vc, vd, rfl, s3, hA3, hbv⟩
      obtain ⟨t, ht, ta, rfl, hta⟩ := hts.get hj
      obtain ⟨c, hc⟩ : ∃ c, Rb[min (t.2.1 + g + 1) (n + 1)]? = some c := ⟨Rb[min (t.2.1 + g + 1) (n + 1)]'(by omega), List.getElem?_eq_getElem _⟩
      obtain ⟨v2, hv2, hv2s⟩ := hws.at_ hc
      have em : (if ((n : Nat) : Int) + 1 < (t.2.1 : Nat) + (g : Nat) + 1 then ((n : Nat) : Int) + 1 else (t.2.1 : Nat) + (g : Nat) + 1) = ((min (t.2.1 + g + 1) (n + 1) : Nat) : Int) := by split <;> omega
      have ht3 := s3 _ _ hta
      refine ⟨_, rfl, _, rfl, ta, _, _, _, rfl, rfl, SqT.of ht3, atI_nat (j := 1) rfl, _, rfl, _, _, rfl, rfl, _, _, rfl, rfl, _, rfl, _, _, rfl, rfl, _, _, rfl, lb, ws, _, v2, rfl, rfl, SqL.of (s3 _ _ hlb), (by rw [em]; exact atI_nat hv2), ?_⟩
      refine ⟨_, rfl, _, rfl, _, rfl, .ref ta, v2, t, c, rfl, ⟨ta, rfl, ht3⟩, SelAt.stays _ _ _ _ s3 hv2s, hch c (List.mem_of_getElem? hc), fun H4 v4 s4 r4 => ?_⟩
      refine ⟨bv, v4, _, _, rfl, SelAt.stays _ _ _ _ (del_same.trans s4) hbv, r4, fun H5 v5 s5 r5 => ?_⟩
      have hA5 := hA3.move SelAt.stays (s4.trans s5)
      refine ⟨v5, _, _, rfl, s3.trans (s4.trans s5), hA5, ?_⟩
      rw [TpM.fold_take _ _ ht, List.getD_eq_getElem?_getD, hc]
      exact r5.off hA5 hne
    · rintro σ H3 ⟨bv, vc, vd, rfl, s3, hA3, hbv⟩
      rw [hts.len, List.take_length] at hbv
      obtain ⟨us3, hus3, hus3A⟩ := id hA3
      have hl3 : us3.length = n + 2 := by rw [hus3A.len, TpM.rowAt_len]
      refine ⟨_, rfl, _, rfl, _, rfl, p, us3, _, n - i, rfl, rfl, hus3, ixN_nat (by omega), _, _, _, _, rfl, same_snoc hpH s3, ?_⟩
      rw [TpM.rowAt_succ hi]
      refine hA3.set _ hus3 ?_
      have er : TpM.rowF L n g Rb (i + 1) = lt.foldl (fun c t => TpM.betterS c (TpM.aheadT t (Rb.getD (min (t.2.1 + g + 1) (n + 1)) TpM.sel0))) (TpM.rowF L n g Rb i) := by
        show (L.getD (n - i) []).foldl _ _ = _
        rw [List.getD_eq_getElem?_getD, hlt]
        rfl
      rw [er]
      exact hbv
  · rintro σ H2 ⟨va, vb, vc, vd, rfl, s2, hA⟩
    rw [show ((n : Int) - 0).toNat = n by omega] at hA
    exact ⟨_, rfl, k H2 _ s2 (hA.done SelAt.stays)⟩
end
end Tp

namespace Tp
open PySem PySem.Spec PyProof.Rows L2
open TpM (Pas Trip Sel)
section
variable {P : Program} {w : World} {K : PySem.W.Frag} {mg : Str → Option Value} {base : Heap} {f : Addr} {fd : FuncData}
def spBest (C : Addr) : Sp := fun vs H Q _ => ∃ v n g k ps, vs = [v, .int (n : Nat), .int (g : Nat), .int (k : Nat)] ∧ ListOf TripAt H v ps ∧ n ≤ 1000 ∧ g ≤ 1000 ∧ k ≤ 1000 ∧ ps.length ≤ 10000 ∧ (∀ t ∈ ps, t.1 < n + 2) ∧ New (SelAt C) (TpM.bestSel ps n g k) H Q
abbrev sBest : Stmt := top 15
abbrev nBest : List Str := ["passages", "many", "gap", "k", "listed", "row", "turn"]
theorem scBest : FnScope nBest ["passages", "many", "gap", "k"] (defScope sBest) := ⟨rfl, rfl, rfl, by decide +kernel, rfl, by decide +kernel, by decide +kernel⟩
theorem ok_best {C : Addr} (F : Fun K "best_selection" "best_selection" sBest f fd) (B : Blt mg) (T : ClsAt K mg C "Selection" cFs) (MK : MkAt P w K mg base 1 C ["self", "score", "passages"] (spSelInit C))
    (BB : FnAt P w K mg base CX0 1 "by_begins" ["passages", "many"] spByBegins) (RW : FnAt P w K mg base CX0 4 "row_with" ["passages", "many", "gap", "before"] (spRowWith C)) : FnOk P w K mg base CX0 5 f fd ["passages", "many", "gap", "k"] (spBest C) := by
  obtain ⟨fI, fdI, GI, mI, bI⟩ := MK.ex
  obtain ⟨fL, fdL, GL, gL, kL, bL⟩ := BB.ex
  obtain ⟨fB, fdB, GB, gB, kB, bB⟩ := RW.ex
  refine F.ok scBest (fun vs H Q E h => ?_) (fun cdv A outer s H vs Q E hr h => ⟨_, pss_cons (ps_set (i := 4) scBest.nd rfl (Or.inl rfl) (pe_call GL (hr.mono (by decide)) rfl gL kL bL .nil pass0 (pa_cons (pv 0) (pa_cons (pv 1) pa_nil))))
    (pss_cons (ps_set (i := 5) scBest.nd rfl (Or.inl rfl) (pe_op op_rep (pe_lst (pa_cons (pe_make mI GI (hr.mono (by decide)) rfl T.g bI .nil pass0 (pa_cons pe_int (pa_cons (pe_lst pa_nil) pa_nil))) pa_nil)) (pe_op op_add (pv 1) pe_int)))
    (pss_cons (ps_for PassesOwn.never rfl (pi_range1 rfl B.range (pa_cons (pv 3) pa_nil)) (pg_name (i := 6) scBest.nd rfl (Or.inl rfl))
      (pss_one (ps_set (i := 5) scBest.nd rfl (Or.inl rfl) (pe_call GB hr rfl gB kB bB .nil pass0 (pa_cons (pv 4) (pa_cons (pv 1) (pa_cons (pv 2) (pa_cons (pv 5) pa_nil))))))))
    (pss_one (ps_ret (pe_ix ix_list (pv 5) pe_int (fun _ _ => rfl)))))), ?_⟩)
  · obtain ⟨v, n, g, k, ps, rfl, _⟩ := h; rfl
  obtain ⟨v, n, g, kk, ps, rfl, hv, hn, hg, hk, hpl, hlt, k⟩ := h
  refine ⟨_, rfl, _, rfl, v, n, ps, rfl, hv, hn, hpl, hlt, fun H0 lv s0 hlv => ?_⟩
  refine ⟨Nat.zero_le _, fun q nq => ?_⟩
  intro x dx hx hdx hne
  refine ⟨x, dx, 0, .ref q, rfl, upd_same, fun H1 b1 h1 => ⟨rfl, sz1, fun l hl => ?_⟩⟩
  obtain ⟨s14, hsel⟩ := made_sel nq hx hdx hne b1 (h1 [])
  have s5 := same_upd (o := .lst [V.ref x]) hl
  refine ⟨_, rfl, _, _, rfl, rfl, _, _, _, rfl, rfl, upd_same, by omega, by omega, line_ok (by show 1 * Int.toNat _ ≤ _; omega), fun p hp => ?_⟩
  have s6 := same_upd (o := .lst (List.replicate (((n : Nat) : Int) + 2).toNat [V.ref x]).flatten) hp
  have sB := s0.trans (s14.trans (s5.trans s6))
  have hA0 : ListOf (SelAt C) (upd (upd H1 l (.lst [V.ref x])) p (.lst (List.replicate (((n : Nat) : Int) + 2).toNat [V.ref x]).flatten)) (.ref p) (TpM.rowK (TpM.byBegins n ps) n g 0) := by
    have e : (List.replicate (((n : Nat) : Int) + 2).toNat [V.ref x]).flatten = List.replicate (n + 2) (V.ref x) := by rw [List.flatten_replicate_singleton, show (((n : Nat) : Int) + 2).toNat = n + 2 by omega]
    exact ⟨p, List.replicate (n + 2) (V.ref x), rfl, by rw [upd_same, e], AllR.rep (SelAt.stays _ _ _ _ (s5.trans s6) hsel) (n + 2)⟩
  refine ⟨_, rfl, _, rfl, by omega, by omega, for_range (lo := 0) (n := ((kk : Nat) : Int).toNat) (fun i σ H' => ∃ rv vt, σ = [some v, some (.int (n : Nat)), some (.int (g : Nat)), some (.int (kk : Nat)), some lv, some rv, vt] ∧ Same H0 H' ∧ ListOf (SelAt C) H' rv (TpM.rowK (TpM.byBegins n ps) n g i))
    ⟨.ref p, none, rfl, s14.trans (s5.trans s6), hA0⟩ ?_ ?_⟩
  · rintro i σ H2 hi ⟨rv, vt, rfl, s2, hR⟩
    refine ⟨_, rfl, _, rfl, _, rfl, _, rfl, lv, rv, n, g, _, _, rfl, ListOf.stays (ListOf.stays TripAt.stays) _ _ _ _ s2 hlv, hR, TpM.byBegins_len _ _, TpM.rowK_len _ _ _ _, hn, hg, fun c hc => Nat.le_trans (TpM.rowK_chosen i c hc) (by omega), fun H3 v3 s3 r3 => ?_⟩
    exact ⟨_, _, rfl, s2.trans s3, r3⟩
  · rintro σ H2 ⟨rv, vt, rfl, s2, ⟨ra, us, rfl, hra, hus⟩⟩
    rw [Int.toNat_natCast] at hus
    have hlen := TpM.rowK_len (TpM.byBegins n ps) n g kk
    obtain ⟨c, hc⟩ : ∃ c, (TpM.rowK (TpM.byBegins n ps) n g kk)[1]? = some c := ⟨_, List.getElem?_eq_getElem (by omega)⟩
    obtain ⟨cv, hcv, hcs⟩ := hus.at_ hc
    refine ⟨_, rfl, ra, us, _, cv, rfl, rfl, SqL.of hra, atI_nat (j := 1) hcv, ?_⟩
    refine k H2 cv (s0.trans s2) ?_
    unfold TpM.bestSel
    rw [List.getD_eq_getElem?_getD, hc]
    exact hcs
/- wanted_in -/
def spWantedIn : Sp := fun vs H Q _ => ∃ wv mv l m, vs = [wv, mv] ∧ LstN H wv l ∧ LstN H mv m ∧ m.length ≤ 100000 ∧ New LstN (m.filter fun x => l.contains x) H Q
abbrev sWantedIn : Stmt := top 16
abbrev nWantedIn : List Str := ["words", "wanted", "word"]
theorem scWantedIn : FnScope nWantedIn ["words", "wanted"] (defScope sWantedIn) := ⟨rfl, rfl, rfl, by decide +kernel, rfl, by decide +kernel, by decide +kernel⟩
theorem ok_wanted_in (F : Fun K "wanted_in" "wanted_in" sWantedIn f fd) : FnOk P w K mg base CX0 1 f fd ["words", "wanted"] spWantedIn := by
  refine F.ok scWantedIn (fun vs H Q E h => ?_) (fun cdv A outer s H vs Q E hr h => ⟨_, pss_one (ps_ret (pe_lc (own := [("word", 2)]) (g := gName 2) rfl scWantedIn.nd
        (pi_list (pv 1)) (blkOk_by (N := nWantedIn) (sc := defScope sWantedIn) (by decide +kernel)) (fun _ _ _ _ _ => pg_name (i := 2) scWantedIn.nd rfl (Or.inl rfl)) (fun _ _ _ _ _ => pts_one (pt_cmpR (r := rIn K false) (by exact op_in_seq) (pv 2) (pv 0) (by rfl)))
        (fun _ _ _ _ _ => pv 2))), ?_⟩)
  · obtain ⟨wv, mv, l, m, rfl, _⟩ := h; rfl
  obtain ⟨wv, mv, l, m, rfl, ⟨wa, rfl, hw⟩, ⟨ma, rfl, hm⟩, hl, k⟩ := h
  refine ⟨_, rfl, ma, rfl, ⟨_, SqL.of hm⟩, fun D hD => lc_list (K := K) (a := ma) (xs := nVs m) (fun i H' => Same H H' ∧ H' D = some (.lst (nVs ((m.take i).filter fun x => l.contains x))))
    ⟨same_upd hD, upd_same⟩ (fun i H' _ ⟨s2, _⟩ => SqL.of (s2 _ _ hm)) ?_ ?_⟩
  · rintro i y H' hi ⟨s2, hd⟩
    obtain ⟨n, hn, rfl⟩ := nVs_get hi
    refine ⟨rfl, _, rfl, _, rfl, wa, _, rfl, .inl (SqL.of (s2 _ _ hw)), rfl, flat_nVs _, _, rfl, ?_⟩
    have em := inV_nVs n l
    cases c : l.contains n with
    | true =>
      refine if_true_of (em.trans c) ⟨_, rfl, _, hd, ?_, same_snoc hD s2, ?_⟩
      · rw [nVs_len]
        have h := List.length_filter_le (fun x => l.contains x) (m.take i)
        rw [List.length_take] at h
        exact line_lt (by omega)
      · rw [upd_same, take_more hn, List.filter_append, nVs_app, List.filter_cons_of_pos (by exact c)]
        rfl
    | false =>
      refine if_false_of (em.trans c) ⟨s2, ?_⟩
      rw [hd, take_more hn, List.filter_append, List.filter_cons_of_neg (by rw [c]; decide)]
      simp
  · rintro H' ⟨s2, hd⟩
    rw [nVs_len, List.take_length] at hd
    exact k H' _ s2 ⟨D, rfl, hd⟩
/- narrowest -/
def spNarrow (CT : Addr) : Sp := fun vs H Q _ => ∃ tv wv s, vs = [tv, wv] ∧ TextAt CT H tv s.text ∧ LstN H wv (Rh12.wanted s) ∧ Ok s ∧ (Rh12.wanted s).isEmpty = false ∧ ∀ x, Rh12.narrow s = some x → NewF LstN [x.1, x.2] H Q
abbrev sNarrow : Stmt := top 17
abbrev nNarrow : List Str := ["text", "wanted", "many", "length", "a"]
theorem scNarrow : FnScope nNarrow ["text", "wanted"] (defScope sNarrow) := ⟨rfl, rfl, rfl, by decide +kernel, rfl, by decide +kernel, by decide +kernel⟩
theorem wanted_len {s : Rh12.St} (ok : Ok s) : (Rh12.wanted s).length ≤ 6 := by
  unfold Rh12.wanted
  refine Nat.le_trans (List.length_filter_le _ _) ?_
  rw [List.length_map]
  exact TpM.isAsk_len ok.ask
theorem ok_narrow {CT : Addr} (F : Fun K "narrowest" "narrowest" sNarrow f fd) (B : Blt mg) (T : ClsAt K mg CT "Text" tFs) (MM : MtAt P w K mg base CX0 1 CT "many" ["self"] (spMany CT)) (MP : MtAt P w K mg base CX0 1 CT "part" ["self", "a", "b"] (spPart CT))
    (WI : FnAt P w K mg base CX0 1 "wanted_in" ["words", "wanted"] spWantedIn) : FnOk P w K mg base CX0 2 f fd ["text", "wanted"] (spNarrow CT) := by
  obtain ⟨fM, fdM, GM, mM, bM⟩ := MM.ex
  obtain ⟨fP, fdP, GP, mP, bP⟩ := MP.ex
  obtain ⟨fI, fdI, GI, gI, kI, bI⟩ := WI.ex
  refine F.ok scNarrow (fun vs H Q E h => ?_) (fun cdv A outer s H vs Q E hr h => ⟨_, pss_cons (ps_set (i := 2) scNarrow.nd rfl (Or.inl rfl) (pe_meth0 (pv 0) T.cl mM GM hr bM .nil pass0))
    (pss_cons (ps_for PassesOwn.never rfl (pi_range2 (by rfl) B.range (pa_cons pe_int (pa_cons (pe_op op_add (pv 2) pe_int) pa_nil))) (pg_name (i := 3) scNarrow.nd rfl (Or.inl rfl))
      (pss_one (ps_for PassesOwn.never rfl (pi_range2 (by rfl) B.range (pa_cons pe_int (pa_cons (pe_op op_add (pe_op op_sub (pv 2) (pv 3)) pe_int) pa_nil))) (pg_name (i := 4) scNarrow.nd rfl (Or.inl rfl))
        (pss_one (ps_if (pt_cmpR (op_eqD hr.units) (pe_call GI hr rfl gI kI bI .nil pass0 (pa_cons (pe_meth (pv 0) T.cl mP GP hr bP .nil pass0 (pa_cons (pv 4) (pa_cons (pe_op op_sub (pe_op op_add (pv 4) (pv 3)) pe_int) pa_nil))) (pa_cons (pv 1) pa_nil))) (pv 1) (nomark _))
          (pss_one (ps_ret (pe_lst (pa_cons (pv 4) (pa_cons (pe_op op_sub (pe_op op_add (pv 4) (pv 3)) pe_int) pa_nil))))) pss_nil)))))
    (pss_one (ps_ret (pe_lst pa_nil)))), ?_⟩)
  · obtain ⟨tv, wv, s, rfl, _⟩ := h; rfl
  obtain ⟨tv, wv, s, rfl, ht, ⟨wa, rfl, hwa⟩, ok, hne, k⟩ := h
  obtain ⟨p, dx, ta, tb, tc, td, rfl, hp, _⟩ := id ht
  have hn := ok.len.1
  have hn1 := TpM.some_word hne
  have elen : s.text.flatten.length = (Rh12.flat s).length := rfl
  refine ⟨_, rfl, p, dx, _, rfl, hp, rfl, .ref p, s.text, rfl, ht, fun H1 s1 => ?_⟩
  refine ⟨_, rfl, _, _, rfl, rfl, 1, _, rfl, ⟨by decide, by decide, by omega, by omega⟩, for_range (lo := 1) (n := ((s.text.flatten.length : Nat) + 1 - 1 : Int).toNat) (fun i σ H' => ∃ va vb, σ = [some (.ref p), some (.ref wa), some (.int (s.text.flatten.length : Nat)), va, vb] ∧ Same H H' ∧ ∀ k' a', k' < i → ¬ TpM.has s a' (a' + k'))
    ⟨none, none, rfl, s1, fun k' a' h => absurd h (Nat.not_lt_zero _)⟩ ?_ ?_⟩
  · rintro i σ H2 hi ⟨va, vb, rfl, s2, hI⟩
    have hi : i < (Rh12.flat s).length := by omega
    have ea : (1 + (i : Nat) : Int) = ((i + 1 : Nat) : Int) := by omega
    rw [ea]
    refine ⟨_, rfl, _, rfl, _, _, rfl, rfl, _, _, rfl, rfl, 1, _, rfl, ⟨by decide, by decide, by omega, by omega⟩, ?_⟩
    generalize hm : Int.toNat _ = m
    have hm : m = (Rh12.flat s).length - i := by omega
    refine for_range (lo := 1) (n := m) (fun j σ H' => ∃ vb, σ = [some (.ref p), some (.ref wa), some (.int (s.text.flatten.length : Nat)), some (.int ((i + 1 : Nat) : Int)), vb] ∧ Same H H' ∧ ∀ a', a' < 1 + j → ¬ TpM.has s a' (a' + i))
      ⟨vb, rfl, s2, fun a' h z => by have := z.1; omega⟩ ?_ ?_
    · rintro j σ H3 hj ⟨vb, rfl, s3, hJ⟩
      have eb : (1 + (j : Nat) : Int) = ((1 + j : Nat) : Int) := by omega
      have ec : (((1 + j : Nat) : Int) + ((i + 1 : Nat) : Int) - 1) = ((1 + j + i : Nat) : Int) := by omega
      rw [eb]
      refine ⟨_, rfl, p, dx, _, rfl, s3 _ _ hp, rfl, _, rfl, _, rfl, _, rfl, _, _, rfl, rfl, _, _, rfl, rfl, ?_⟩
      refine ⟨.ref p, s.text, 1 + j, 1 + j + i, (by rw [← ec]; rfl), TextAt.stays _ _ _ _ s3 ht, by omega, by omega, fun H4 pv4 s4 hp4 => ?_⟩
      have hp4 : LstN H4 pv4 (Rh12.part s (1 + j) (1 + j + i)) := hp4
      have s34 := s3.trans s4
      refine ⟨_, rfl, pv4, .ref wa, _, _, rfl, hp4, ⟨wa, rfl, s34 _ _ hwa⟩, Nat.le_trans (wanted_len ok) (by decide), fun H5 fv s5 ⟨fa, efv, hfa⟩ => ?_⟩
      subst efv
      have s35 := s34.trans s5
      refine ⟨_, rfl, natD _, natD _, dp_nat (SqL.of hfa), dp_nat (SqL.of (s35 _ _ hwa)), shaped_nat _, shaped_nat _, _, rfl, ?_⟩
      rw [eqv_nat]
      refine ite2 (fun he => ?_) fun he => ?_
      · have he := TpM.filter_all.mp (of_decide_eq_true he)
        have hhas : TpM.has s (1 + j) (1 + j + i) := ⟨by omega, by omega, by omega, he⟩
        have hN := TpM.narrow_is hne hhas hI hJ
        refine ⟨_, rfl, _, rfl, _, rfl, _, _, rfl, rfl, _, _, rfl, rfl, sz2, fun l hl => ?_⟩
        refine k _ hN _ _ (s35.trans (same_upd hl)) ⟨l, rfl, ?_⟩ ⟨l, rfl, s35.free hl⟩
        rw [upd_same]
        show some (HO.lst [V.int ((1 + j : Nat) : Int), V.int (((1 + j : Nat) : Int) + ((i + 1 : Nat) : Int) - 1)]) = _
        rw [ec]
        rfl
      · refine ⟨_, rfl, s35, fun a' ha' hh => ?_⟩
        by_cases e : a' < 1 + j
        · exact hJ a' e hh
        · have : a' = 1 + j := by omega
          subst this
          exact he (decide_eq_true (TpM.filter_all.mpr hh.2.2.2))
    · rintro σ H3 ⟨vb, rfl, s3, hJ⟩
      refine ⟨_, _, rfl, s3, fun k' a' hk' hh => ?_⟩
      by_cases e : k' < i
      · exact hI k' a' e hh
      · have : k' = i := by omega
        subst this
        by_cases e2 : a' < 1 + m
        · exact hJ a' e2 hh
        · have := hh.2.2.1
          omega
  · rintro σ H2 ⟨va, vb, rfl, s2, hI⟩
    exfalso
    refine hI ((Rh12.flat s).length - 1) 1 (by omega) ?_
    rw [show 1 + ((Rh12.flat s).length - 1) = (Rh12.flat s).length by omega]
    exact TpM.has_whole hn1
end
end Tp

namespace Tp
open PySem PySem.Spec PyProof.Rows L2
open TpM (Pas Trip Sel)
theorem delN_stays (p : Addr) : Stays (fun H => LstN (del p H)) := fun H H' v x s => LstN.stays _ _ _ _ (del_but (.of s))
theorem oneMore_take {S : Nat} {sets : List (List Nat)} {i : Nat} {x : List Nat} (h : sets[i]? = some x) : TpM.oneMore S (sets.take (i + 1)) = TpM.oneMore S (sets.take i) ++ TpM.extend1 S x := by
  unfold TpM.oneMore
  rw [take_more h, List.flatMap_append]
  simp
theorem oneMore_le (S : Nat) (sets : List (List Nat)) (i : Nat) : (TpM.oneMore S (sets.take i)).length ≤ (TpM.oneMore S sets).length := by
  have h := congrArg (fun l => (TpM.oneMore S l).length) (List.take_append_drop i sets)
  unfold TpM.oneMore at h ⊢
  simp only [List.flatMap_append, List.length_append] at h
  omega
theorem ext_len (S : Nat) (l : List Nat) : (TpM.extend1 S l).length = S + 1 - TpM.nextFrom l := by
  unfold TpM.extend1
  rw [List.length_map, List.length_range']
theorem ext_get {S : Nat} {l : List Nat} {i : Nat} (h : i < S + 1 - TpM.nextFrom l) : (TpM.extend1 S l)[i]? = some (l ++ [TpM.nextFrom l + i]) := by
  unfold TpM.extend1
  rw [List.getElem?_map, List.getElem?_range' h]
  simp
section
variable {P : Program} {w : World} {K : PySem.W.Frag} {mg : Str → Option Value} {base : Heap} {f : Addr} {fd : FuncData}
def spOneMore : Sp := fun vs H Q _ => ∃ sv S sets, vs = [sv, .int (S : Nat)] ∧ ListOf LstN H sv sets ∧ S ≤ 1000 ∧ (∀ l ∈ sets, l.length ≤ 1000 ∧ ∀ x ∈ l, x ≤ 1000) ∧ (TpM.oneMore S sets).length ≤ 2000000 ∧ New (ListOf LstN) (TpM.oneMore S sets) H Q
abbrev sOneMore : Stmt := top 18
abbrev nOneMore : List Str := ["sets", "many", "found", "numbers", "first", "number"]
theorem scOneMore : FnScope nOneMore ["sets", "many"] (defScope sOneMore) := ⟨rfl, rfl, rfl, by decide +kernel, rfl, by decide +kernel, by decide +kernel⟩
theorem ok_one_more (F : Fun K "with_one_more" "with_one_more" sOneMore f fd) (B : Blt mg) : FnOk P w K mg base CX0 1 f fd ["sets", "many"] spOneMore := by
  refine F.ok scOneMore (fun vs H Q E h => ?_) (fun cdv A outer s H vs Q E hr h => ⟨_, pss_cons (ps_set (i := 2) scOneMore.nd rfl (Or.inl rfl) (pe_lst pa_nil))
    (pss_cons (ps_for PassesOwn.never rfl (pi_list (pv 0)) (pg_name (i := 3) scOneMore.nd rfl (Or.inr rfl))
      (pss_cons (ps_set (i := 4) scOneMore.nd rfl (Or.inl rfl) (pe_ifExp (pt_cmpR (op_neD hr.units) (pv 3) (pe_lst pa_nil) (nomark _)) (pe_op op_add (pe_ix ix_list (pv 3) (pe_un un_neg pe_int) (fun _ _ => rfl)) pe_int) pe_int))
      (pss_one (ps_expr (pe_bm PySem.F.plainAttrs_list PySem.F.slot_list_extend PySem.F.type_list_extend mt_extend (pv 2) (pa_cons (pe_lc (own := [("number", 5)]) (g := gName 5) (tt := tYes) rfl scOneMore.nd
        (pi_range2 (by rfl) B.range (pa_cons (pv 4) (pa_cons (pe_op op_add (pv 1) pe_int) pa_nil))) (blkOk_by (N := nOneMore) (sc := defScope sOneMore) (by decide +kernel)) (fun _ _ _ _ _ => pg_name (i := 5) scOneMore.nd rfl (Or.inl rfl)) (fun _ _ _ _ _ => pts_nil)
        (fun _ _ _ _ _ => pe_op op_cat (pv 3) (pe_lst (pa_cons (pv 5) pa_nil)))) pa_nil))))))
    (pss_one (ps_ret (pv 2)))), ?_⟩)
  · obtain ⟨sv, S, sets, rfl, _⟩ := h; rfl
  obtain ⟨sv, S, sets, rfl, ⟨a, us, rfl, ha, hs⟩, hS, hb, hl, k⟩ := h
  refine ⟨Nat.zero_le _, fun p hp => ?_⟩
  have s0 := same_upd (o := .lst []) hp
  refine ⟨_, rfl, a, rfl, ⟨us, SqL.of (s0 _ _ ha)⟩, for_list (K := K) (a := a) (xs := us) (fun i σ H' => ∃ vn vf, σ = [some (.ref a), some (.int (S : Nat)), some (.ref p), vn, vf, none] ∧ Same H H' ∧ Acc LstN p H' (TpM.oneMore S (sets.take i)))
    ⟨none, none, rfl, s0, Acc.start⟩ (fun i σ H' _ ⟨_, _, _, s1, _⟩ => SqL.of (s1 _ _ ha)) ?_ ?_⟩
  · rintro i y σ H1 hi ⟨vn, vf, rfl, s1, hA⟩
    obtain ⟨x, hx, b, rfl, hbx⟩ := hs.get hi
    obtain ⟨hx1, hx2⟩ := hb x (List.mem_of_getElem? hx)
    obtain ⟨ps, hps, hpsA⟩ := id hA
    have hb1 := s1 _ _ hbx
    refine ⟨_, rfl, Nat.zero_le _, fun e0 he0 => ⟨natD x, natD [], dp_nat (SqL.of (same_upd he0 _ _ hb1)), dp_nat (SqL.of upd_same), shaped_nat _, shaped_nat _, _, rfl, ?_⟩⟩
    rw [eqv_nat]
    have s2 := same_upd (o := .lst []) he0
    have hb2 := s2 _ _ hb1
    have hA2 := hA.move LstN.stays s2
    have hps2 := s2 _ _ hps
    have s12 := s1.trans s2
    have hnf : TpM.nextFrom x ≤ 1001 := by
      rcases Classical.em (x = []) with e | e
      · subst e; decide
      · obtain ⟨m, last, rfl⟩ := TpM.snoc_of e
        rw [TpM.nextFrom_snoc]
        have := hx2 last (by simp)
        omega
    refine ite2 (fun he => ?_) fun he => ?_
    · have hne : x ≠ [] := fun e => by subst e; exact absurd he (by decide)
      obtain ⟨m, last, hx3⟩ := TpM.snoc_of hne
      refine ⟨_, rfl, _, rfl, b, _, _, .int (last : Nat), rfl, rfl, SqL.of hb2, (by rw [hx3, nVs_snoc]; exact atI_last _ _), _, _, rfl, rfl, ?_⟩
      have ez : (((last : Nat) : Int) + 1) = ((TpM.nextFrom x : Nat) : Int) := by rw [hx3, TpM.nextFrom_snoc]; omega
      change gName 4 (V.int (((last : Nat) : Int) + 1)) _ _ _
      rw [ez]
      refine ⟨_, rfl, .inl ⟨rfl, ps, SqL.of hps2⟩, _, rfl, _, rfl, _, _, rfl, rfl, _, _, rfl, ⟨by omega, by omega, by omega, by omega⟩, fun D hD => ?_⟩
      generalize hm : Int.toNat _ = m0
      have hm : m0 = S + 1 - TpM.nextFrom x := by omega
      refine lc_range (lo := ((TpM.nextFrom x : Nat) : Int)) (n := m0) (fun j H' => Same (upd H1 e0 (.lst [])) H' ∧ Acc (fun H => LstN (del p H)) D H' ((TpM.extend1 S x).take j))
        ⟨same_upd hD, Acc.start⟩ ?_ ?_
      · rintro j H3 hj ⟨s3, hD3⟩
        have eb : (((TpM.nextFrom x : Nat) : Int) + (j : Nat)) = ((TpM.nextFrom x + j : Nat) : Int) := by omega
        rw [eb]
        have hb3 := s3 _ _ hb2
        have hp3 := s3 _ _ hps2
        refine ⟨rfl, _, rfl, _, rfl, sz1, fun u hu => ⟨b, u, _, _, rfl, rfl, same_upd hu _ _ hb3, upd_same, line_ok (by rw [nVs_len]; show _ + 1 ≤ _; omega), fun t ht => ?_⟩⟩
        have s4 := same_upd (o := .lst [V.int ((TpM.nextFrom x + j : Nat) : Int)]) hu
        have s5 := same_upd (o := .lst (nVs x ++ [V.int ((TpM.nextFrom x + j : Nat) : Int)])) ht
        have hD5 := hD3.move (delN_stays p) (s4.trans s5)
        obtain ⟨ds, hds, hdsA⟩ := id hD5
        have hds3 : H3 D = some (.lst ds) := by
          obtain ⟨ds', h1, _⟩ := id hD3
          have := (s4.trans s5) _ _ h1
          rw [hds] at this
          cases this
          exact h1
        have htD : t ≠ D := fun e => by subst e; rw [s4 _ _ hds3] at ht; cases ht
        have htp : t ≠ p := fun e => by subst e; rw [s4 _ _ hp3] at ht; cases ht
        refine ⟨ds, hds, ?_, same_snoc hD (s3.trans (s4.trans s5)), ?_⟩
        · rw [hdsA.len, List.length_take]; exact line_lt (by omega)
        · rw [take_more (ext_get (S := S) (l := x) (by omega))]
          exact hD5.snoc hds ⟨t, rfl, by rw [del_ne htp, del_ne htD, upd_same, nVs_snoc]⟩
      · rintro H3 ⟨s3, hD3⟩
        rw [hm, ← ext_len, List.take_length] at hD3
        obtain ⟨ds, hds, hdsA⟩ := id hD3
        have hDp : D ≠ p := fun e => by subst e; rw [hps2] at hD; cases hD
        have hA3 := hA2.move LstN.stays s3
        have hp3 := s3 _ _ hps2
        refine ⟨p, D, ps, ds, rfl, rfl, hp3, hds, ?_, _, _, rfl, same_snoc hp (s12.trans s3), ?_⟩
        · rw [hpsA.len, hdsA.len, ← List.length_append, ← oneMore_take hx]
          exact line_ok (Nat.le_trans (oneMore_le S sets (i + 1)) (by omega))
        · rw [oneMore_take hx]
          obtain ⟨ps', h1, h2⟩ := id hA3
          rw [hp3] at h1
          cases h1
          refine ⟨_, upd_same, ?_⟩
          rw [del_upd]
          exact h2.app (hdsA.mono fun v l h => LstN.stays _ _ _ _ (del_but (.of del_same)) h)
    · have hne : x = [] := by
        cases x with
        | nil => rfl
        | cons _ _ => exact absurd (by rfl) he
      have ez : (1 : Int) = ((TpM.nextFrom x : Nat) : Int) := by rw [hne]; rfl
      change gName 4 (V.int 1) _ _ _
      rw [ez]
      refine ⟨_, rfl, .inl ⟨rfl, ps, SqL.of hps2⟩, _, rfl, _, rfl, _, _, rfl, rfl, _, _, rfl, ⟨by omega, by omega, by omega, by omega⟩, fun D hD => ?_⟩
      generalize hm : Int.toNat _ = m0
      have hm : m0 = S + 1 - TpM.nextFrom x := by omega
      refine lc_range (lo := ((TpM.nextFrom x : Nat) : Int)) (n := m0) (fun j H' => Same (upd H1 e0 (.lst [])) H' ∧ Acc (fun H => LstN (del p H)) D H' ((TpM.extend1 S x).take j))
        ⟨same_upd hD, Acc.start⟩ ?_ ?_
      · rintro j H3 hj ⟨s3, hD3⟩
        have eb : (((TpM.nextFrom x : Nat) : Int) + (j : Nat)) = ((TpM.nextFrom x + j : Nat) : Int) := by omega
        rw [eb]
        have hb3 := s3 _ _ hb2
        have hp3 := s3 _ _ hps2
        refine ⟨rfl, _, rfl, _, rfl, sz1, fun u hu => ⟨b, u, _, _, rfl, rfl, same_upd hu _ _ hb3, upd_same, line_ok (by rw [nVs_len]; show _ + 1 ≤ _; omega), fun t ht => ?_⟩⟩
        have s4 := same_upd (o := .lst [V.int ((TpM.nextFrom x + j : Nat) : Int)]) hu
        have s5 := same_upd (o := .lst (nVs x ++ [V.int ((TpM.nextFrom x + j : Nat) : Int)])) ht
        have hD5 := hD3.move (delN_stays p) (s4.trans s5)
        obtain ⟨ds, hds, hdsA⟩ := id hD5
        have hds3 : H3 D = some (.lst ds) := by
          obtain ⟨ds', h1, _⟩ := id hD3
          have := (s4.trans s5) _ _ h1
          rw [hds] at this
          cases this
          exact h1
        have htD : t ≠ D := fun e => by subst e; rw [s4 _ _ hds3] at ht; cases ht
        have htp : t ≠ p := fun e => by subst e; rw [s4 _ _ hp3] at ht; cases ht
        refine ⟨ds, hds, ?_, same_snoc hD (s3.trans (s4.trans s5)), ?_⟩
        · rw [hdsA.len, List.length_take]; exact line_lt (by omega)
        · rw [take_more (ext_get (S := S) (l := x) (by omega))]
          exact hD5.snoc hds ⟨t, rfl, by rw [del_ne htp, del_ne htD, upd_same, nVs_snoc]⟩
      · rintro H3 ⟨s3, hD3⟩
        rw [hm, ← ext_len, List.take_length] at hD3
        obtain ⟨ds, hds, hdsA⟩ := id hD3
        have hDp : D ≠ p := fun e => by subst e; rw [hps2] at hD; cases hD
        have hA3 := hA2.move LstN.stays s3
        have hp3 := s3 _ _ hps2
        refine ⟨p, D, ps, ds, rfl, rfl, hp3, hds, ?_, _, _, rfl, same_snoc hp (s12.trans s3), ?_⟩
        · rw [hpsA.len, hdsA.len, ← List.length_append, ← oneMore_take hx]
          exact line_ok (Nat.le_trans (oneMore_le S sets (i + 1)) (by omega))
        · rw [oneMore_take hx]
          obtain ⟨ps', h1, h2⟩ := id hA3
          rw [hp3] at h1
          cases h1
          refine ⟨_, upd_same, ?_⟩
          rw [del_upd]
          exact h2.app (hdsA.mono fun v l h => LstN.stays _ _ _ _ (del_but (.of del_same)) h)
  · rintro σ H1 ⟨vn, vf, rfl, s1, hA⟩
    rw [hs.len, List.take_length] at hA
    exact ⟨_, rfl, k H1 _ s1 (hA.done LstN.stays)⟩
/- are_enough -/
def spEnough (CT : Addr) : Sp := fun vs H Q _ => ∃ tv wv nv ss m d, vs = [tv, wv, nv] ∧ TextAt CT H tv ss ∧ LstN H wv m ∧ LstN H nv d ∧ ss.length ≤ 20 ∧ ss.flatten.length ≤ 60 ∧ d.length ≤ 1000 ∧ (∀ k ∈ d, 1 ≤ k ∧ k ≤ ss.length) ∧ m.length ≤ 1000 ∧ ∀ b, (b = true ↔ TpM.enough 1 ss m d) → Val (.bl b) H Q
abbrev sEnough : Stmt := top 19
abbrev nEnough : List Str := ["text", "wanted", "numbers", "words", "number"]
theorem scEnough : FnScope nEnough ["text", "wanted", "numbers"] (defScope sEnough) := ⟨rfl, rfl, rfl, by decide +kernel, rfl, by decide +kernel, by decide +kernel⟩
def wordsOf (ss : List (List Nat)) (d : List Nat) : List Nat := d.flatMap fun k => ss.getD (k - 1) []
theorem part_of_flat {ss : List (List Nat)} {i : Nat} : (ss.getD i []).length ≤ ss.flatten.length := by
  rw [List.getD_eq_getElem?_getD]
  cases e : ss[i]? with
  | none => exact Nat.zero_le _
  | some x =>
    have h1 := flat_take e
    have h2 := flat_take_le ss (i + 1)
    rw [h1, List.length_append] at h2
    show x.length ≤ _
    omega
theorem wordsOf_len {ss : List (List Nat)} : ∀ d : List Nat, (wordsOf ss d).length ≤ d.length * ss.flatten.length
  | [] => Nat.zero_le _
  | k :: d => by
    have h1 := wordsOf_len (ss := ss) d
    have h2 := part_of_flat (ss := ss) (i := k - 1)
    unfold wordsOf at h1 ⊢
    rw [List.flatMap_cons, List.length_append, List.length_cons, Nat.add_mul]
    omega
theorem wordsOf_take {ss : List (List Nat)} {d : List Nat} {i k : Nat} (h : d[i]? = some k) : wordsOf ss (d.take (i + 1)) = wordsOf ss (d.take i) ++ ss.getD (k - 1) [] := by
  unfold wordsOf
  rw [take_more h, List.flatMap_append]
  simp
theorem enough_iff {ss : List (List Nat)} {m d : List Nat} (h : ∀ k ∈ d, 1 ≤ k ∧ k ≤ ss.length) : decide ((m.filter fun x => (wordsOf ss d).contains x) = m) = true ↔ TpM.enough 1 ss m d := by
  rw [decide_eq_true_eq, TpM.filter_all, List.all_eq_true]
  unfold TpM.enough wordsOf
  constructor
  · intro g w hw
    have := g w hw
    rw [List.contains_iff_mem, List.mem_flatMap] at this
    obtain ⟨k, hk, hwk⟩ := this
    exact ⟨k, hk, (h k hk).1, hwk⟩
  · intro g w hw
    obtain ⟨k, hk, _, hwk⟩ := g w hw
    rw [List.contains_iff_mem, List.mem_flatMap]
    exact ⟨k, hk, hwk⟩
theorem ok_enough {CT : Addr} (F : Fun K "are_enough" "are_enough" sEnough f fd) (T : ClsAt K mg CT "Text" tFs) (WI : FnAt P w K mg base CX0 1 "wanted_in" ["words", "wanted"] spWantedIn) : FnOk P w K mg base CX0 2 f fd ["text", "wanted", "numbers"] (spEnough CT) := by
  obtain ⟨fI, fdI, GI, gI, kI, bI⟩ := WI.ex
  refine F.ok scEnough (fun vs H Q E h => ?_) (fun cdv A outer s H vs Q E hr h => ⟨_, pss_cons (ps_set (i := 3) scEnough.nd rfl (Or.inl rfl) (pe_lst pa_nil))
    (pss_cons (ps_for PassesOwn.never rfl (pi_list (pv 2)) (pg_name (i := 4) scEnough.nd rfl (Or.inl rfl))
      (pss_one (ps_expr (pe_bm PySem.F.plainAttrs_list PySem.F.slot_list_extend PySem.F.type_list_extend mt_extend (pv 3) (pa_cons (pe_ix ix_list (pe_fld (pv 0) rfl) (pe_op op_sub (pv 4) pe_int) (fun _ _ => rfl)) pa_nil)))))
    (pss_one (ps_ret (pe_cmpR (op_eqD hr.units) (pe_call GI hr rfl gI kI bI .nil pass0 (pa_cons (pv 3) (pa_cons (pv 1) pa_nil))) (pv 1) (nomark _))))), ?_⟩)
  · obtain ⟨tv, wv, nv, ss, m, d, rfl, _⟩ := h; rfl
  obtain ⟨tv, wv, nv, ss, m, d, rfl, ⟨p, dx, ta, tb, tc, td, rfl, hp, ⟨la, us, rfl, hla, hus⟩, _⟩, ⟨wa, rfl, hwa⟩, ⟨na, rfl, hna⟩, hs1, hs2, hd1, hd2, hm, k⟩ := h
  refine ⟨Nat.zero_le _, fun q hq => ?_⟩
  have s0 := same_upd (o := .lst []) hq
  refine ⟨_, rfl, na, rfl, ⟨_, SqL.of (s0 _ _ hna)⟩, for_list (K := K) (a := na) (xs := nVs d) (fun i σ H' => ∃ vn, σ = [some (.ref p), some (.ref wa), some (.ref na), some (.ref q), vn] ∧ Same H H' ∧ H' q = some (.lst (nVs (wordsOf ss (d.take i)))))
    ⟨none, rfl, s0, upd_same⟩ (fun i σ H' _ ⟨_, _, s1, _⟩ => SqL.of (s1 _ _ hna)) ?_ ?_⟩
  · rintro i y σ H1 hi ⟨vn, rfl, s1, hq1⟩
    obtain ⟨n, hn, rfl⟩ := nVs_get hi
    obtain ⟨hn1, hn2⟩ := hd2 n (List.mem_of_getElem? hn)
    obtain ⟨x, hx⟩ : ∃ x, ss[n - 1]? = some x := ⟨ss[n - 1]'(by omega), List.getElem?_eq_getElem _⟩
    obtain ⟨v, hv, b, rfl, hb⟩ := hus.at_ hx
    have ex : ss.getD (n - 1) [] = x := by rw [List.getD_eq_getElem?_getD, hx]; rfl
    have ei : ((n : Int) - 1) = ((n - 1 : Nat) : Int) := by omega
    refine ⟨_, rfl, .inl ⟨rfl, _, SqL.of hq1⟩, _, rfl, p, CT, dx, _, _, rfl, s1 _ _ hp, T.cl, T.no _ (.head _), rfl, _, rfl, _, _, rfl, rfl, la, us, _, .ref b, rfl, rfl, SqL.of (s1 _ _ hla), (by rw [ei]; exact atI_nat hv), q, b, _, _, rfl, rfl, hq1, s1 _ _ hb, ?_, _, rfl, same_snoc hq s1, ?_⟩
    · rw [nVs_len, nVs_len]
      have h1 := wordsOf_len (ss := ss) (d.take i)
      have h2 := part_of_flat (ss := ss) (i := n - 1)
      rw [ex] at h2
      have h3 : (d.take i).length * ss.flatten.length ≤ 1000 * 60 := Nat.mul_le_mul (by rw [List.length_take]; omega) hs2
      exact line_ok (by omega)
    · rw [upd_same, wordsOf_take hn, ex, nVs_app]
  · rintro σ H1 ⟨vn, rfl, s1, hq1⟩
    rw [nVs_len, List.take_length] at hq1
    refine ⟨_, rfl, _, rfl, .ref q, .ref wa, wordsOf ss d, m, rfl, ⟨q, rfl, hq1⟩, ⟨wa, rfl, s1 _ _ hwa⟩, by omega, fun H2 v s2 ⟨fa, ev, hfa⟩ => ?_⟩
    subst ev
    refine ⟨_, rfl, natD _, natD _, dp_nat (SqL.of hfa), dp_nat (SqL.of ((s1.trans s2) _ _ hwa)), shaped_nat _, shaped_nat _, ?_⟩
    rw [eqv_nat]
    exact k _ (enough_iff hd2) H2 (s1.trans s2)
/- fewest_sentences -/
def spFewest (CT : Addr) : Sp := fun vs H Q _ => ∃ tv wv s, vs = [tv, wv] ∧ TextAt CT H tv s.text ∧ LstN H wv (Rh12.wanted s) ∧ Ok s ∧ New LstN (Rh12.fewest s) H Q
abbrev sFewest : Stmt := top 20
abbrev nFewest : List Str := ["text", "wanted", "sets", "numbers"]
theorem scFewest : FnScope nFewest ["text", "wanted"] (defScope sFewest) := ⟨rfl, rfl, rfl, by decide +kernel, rfl, by decide +kernel, by decide +kernel⟩
def fewInv (tv wv : V) (s : Rh12.St) (H : Hp) (m : Nat) (σ : L2.St) (H' : Hp) : Prop := ∃ k sv vn, m = s.text.length + 1 - k ∧ k ≤ s.text.length ∧ σ = [some tv, some wv, some sv, vn] ∧ Same H H' ∧ ListOf LstN H' sv (TpM.level s.text.length k) ∧ ∀ j, j < k → ∀ d ∈ TpM.level s.text.length j, ¬ TpM.enough 1 s.text (Rh12.wanted s) d
theorem ok_fewest {CT : Addr} (F : Fun K "fewest_sentences" "fewest_sentences" sFewest f fd) (B : Blt mg) (T : ClsAt K mg CT "Text" tFs) (EN : FnAt P w K mg base CX0 2 "are_enough" ["text", "wanted", "numbers"] (spEnough CT)) (OM : FnAt P w K mg base CX0 1 "with_one_more" ["sets", "many"] spOneMore) : FnOk P w K mg base CX0 3 f fd ["text", "wanted"] (spFewest CT) := by
  obtain ⟨fE, fdE, GE, gE, kE, bE⟩ := EN.ex
  obtain ⟨fO, fdO, GO, gO, kO, bO⟩ := OM.ex
  refine F.ok scFewest (fun vs H Q E h => ?_) (fun cdv A outer s H vs Q E hr h => ⟨_, pss_cons (ps_set (i := 2) scFewest.nd rfl (Or.inl rfl) (pe_lst (pa_cons (pe_lst pa_nil) pa_nil)))
    (pss_one (ps_while PassesOwn.never (pt_val pe_bl)
      (pss_cons (ps_for PassesOwn.never rfl (pi_list (pv 2)) (pg_name (i := 3) scFewest.nd rfl (Or.inl rfl))
        (pss_one (ps_if (pt_val (pe_call GE hr rfl gE kE bE .nil pass0 (pa_cons (pv 0) (pa_cons (pv 1) (pa_cons (pv 3) pa_nil))))) (pss_one (ps_ret (pv 3))) pss_nil)))
      (pss_one (ps_set (i := 2) scFewest.nd rfl (Or.inl rfl) (pe_call GO (hr.mono (by decide)) rfl gO kO bO .nil pass0 (pa_cons (pv 2) (pa_cons (pe_callB call_len_seq (by rfl) B.len PySem.boot_len (pa_cons (pe_fld (pv 0) rfl) pa_nil)) pa_nil)))))))), ?_⟩)
  · obtain ⟨tv, wv, s, rfl, _⟩ := h; rfl
  obtain ⟨tv, wv, s, rfl, ht, hw, ok, k⟩ := h
  obtain ⟨p, dx, ta, tb, tc, td, rfl, hp, ⟨la, us, rfl, hla, hus⟩, _⟩ := id ht
  refine ⟨Nat.zero_le _, fun e he => ⟨sz1, fun l hl => ?_⟩⟩
  have s1 := same_upd (o := .lst []) he
  have s2 := same_upd (o := .lst [V.ref e]) hl
  have hS := ok.len.2
  have hF := ok.len.1
  refine ⟨fewInv (.ref p) wv s H, ⟨_, 0, .ref l, none, rfl, Nat.zero_le _, rfl, s1.trans s2, ⟨l, _, rfl, upd_same, .cons ⟨e, rfl, s2 _ _ upd_same⟩ .nil⟩, fun j h => absurd h (Nat.not_lt_zero _)⟩, ?_⟩
  rintro m σ H1 ⟨kk, sv, vn, rfl, hk, rfl, s3, ⟨sa, vs, rfl, hsa, hvs⟩, hlow⟩
  refine ⟨_, rfl, iteT ⟨fun σ' H' => ∃ m', m' < s.text.length + 1 - kk ∧ fewInv (.ref p) wv s H m' σ' H', fun _ _ z => z, ?_⟩⟩
  refine ⟨_, rfl, sa, rfl, ⟨vs, SqL.of hsa⟩, for_list (K := K) (a := sa) (xs := vs) (fun j σ H' => ∃ vn, σ = [some (.ref p), some wv, some (.ref sa), vn] ∧ Same H1 H' ∧ ∀ d ∈ (TpM.level s.text.length kk).take j, ¬ TpM.enough 1 s.text (Rh12.wanted s) d)
    ⟨vn, rfl, Same.refl _, by simp⟩ (fun i σ H' _ ⟨_, _, s4, _⟩ => SqL.of (s4 _ _ hsa)) ?_ ?_⟩
  · rintro j y σ H2 hj ⟨vn, rfl, s4, hpre⟩
    obtain ⟨d, hd, hdl⟩ := hvs.get hj
    have hdm := List.mem_of_getElem? hd
    obtain ⟨hasc, hdk⟩ := TpM.mem_level.mp hdm
    have hrange := TpM.asc_ge hasc
    have s34 := s3.trans s4
    refine ⟨_, rfl, _, rfl, _, rfl, .ref p, wv, y, s.text, Rh12.wanted s, d, rfl, TextAt.stays _ _ _ _ s34 ht, LstN.stays _ _ _ _ s34 hw, LstN.stays _ _ _ _ s4 hdl, hS, hF, by omega, fun k hk => by have := hrange k hk; omega, Nat.le_trans (wanted_len ok) (by decide), fun b hb H3 s5 => ⟨_, rfl, ?_⟩⟩
    cases b with
    | true =>
      have hen := hb.mp rfl
      have hl : TpM.level s.text.length kk = (TpM.level s.text.length kk).take j ++ d :: (TpM.level s.text.length kk).drop (j + 1) := by
        conv => lhs; rw [← List.take_append_drop j (TpM.level s.text.length kk)]
        rw [drop_at hd]
      have hc := TpM.found_is_cover hl hlow hpre hen
      have hfew : Rh12.fewest s = d := by unfold Rh12.fewest; rw [hc]; rfl
      rw [hfew] at k
      exact iteT ⟨_, rfl, k H3 y (s34.trans s5) (LstN.stays _ _ _ _ (s4.trans s5) hdl)⟩
    | false =>
      refine iteF ⟨_, rfl, s4.trans s5, fun d' hd' hh => ?_⟩
      rw [take_more hd] at hd'
      rcases List.mem_append.mp hd' with hm | hm
      · exact hpre d' hm hh
      · simp at hm
        subst hm
        exact absurd (hb.mpr hh) (by decide)
  · rintro σ H2 ⟨vn, rfl, s4, hno⟩
    rw [hvs.len, List.take_length] at hno
    have hlt : kk < s.text.length := by
      rcases Nat.lt_or_ge kk s.text.length with h | h
      · exact h
      · have e : kk = s.text.length := by omega
        subst e
        refine absurd (TpM.all_enough fun w hw => ?_) (hno _ (TpM.all_in_level _))
        unfold Rh12.wanted at hw
        have := (List.mem_filter.mp hw).2
        rw [List.contains_iff_mem] at this
        exact this
    have s34 := s3.trans s4
    have hlev := TpM.level_len s.text.length (kk + 1)
    have h20 : 2 ^ s.text.length ≤ 2 ^ 20 := Nat.pow_le_pow_right (by decide) hS
    refine ⟨_, rfl, _, rfl, p, CT, dx, _, _, rfl, s34 _ _ hp, T.cl, T.no _ (.head _), rfl, la, us, rfl, .inl (SqL.of (s34 _ _ hla)), .ref sa, s.text.length, _, (by rw [hus.len]; rfl), ⟨sa, vs, rfl, s4 _ _ hsa, hvs.stay LstN.stays s4⟩, by omega, fun l hl => ?_, ?_, fun H3 v s5 r5 => ?_⟩
    · obtain ⟨hasc, hlk⟩ := TpM.mem_level.mp hl
      exact ⟨by omega, fun x hx => by have := TpM.asc_ge hasc x hx; omega⟩
    · have : (TpM.oneMore s.text.length (TpM.level s.text.length kk)).length ≤ 2 ^ s.text.length := hlev
      omega
    · refine ⟨s.text.length + 1 - (kk + 1), by omega, kk + 1, v, vn, rfl, hlt, rfl, s34.trans s5, r5, fun j hj => ?_⟩
      rcases Nat.lt_or_ge j kk with h | h
      · exact hlow j h
      · have e : j = kk := by omega
        subst e
        exact hno
end
end Tp

namespace Tp
open PySem PySem.Spec PyProof.Rows L2
open TpM (Pas Trip Sel)
/-- everything but instances stands -/
def SameL (H H' : Hp) : Prop := ∀ b o, (∀ C dx fs, o ≠ .ins C dx fs) → H b = some o → H' b = some o
theorem SameL.of {H H' : Hp} (h : Same H H') : SameL H H' := fun b o _ e => h b o e
theorem SameL.trans {H H1 H2 : Hp} (a : SameL H H1) (b : SameL H1 H2) : SameL H H2 := fun c o n e => b c o n (a c o n e)
theorem SameL.but {H H' : Hp} {p C dx : Addr} {fs : List (Str × V)} (h : SameBut p H H') (e : H p = some (.ins C dx fs)) : SameL H H' := fun b o n hb => h b o (fun z => by subst z; rw [e] at hb; cases hb; exact n _ _ _ rfl) hb
def IntsAt : Hp → V → List Int → Prop := fun H v l => ∃ p, v = .ref p ∧ H p = some (.lst (l.map V.int))
theorem LstN.ints {H : Hp} {v : V} {l : List Nat} (h : LstN H v l) : IntsAt H v (Rh12.ints l) := h
structure Outs (CR CT CS CD : Addr) (H : Hp) (a : Addr) (s : Rh12.St) (c : Rh12.Call) (Q : VK) (E : XK) : Prop where
  err : ∀ code, Rh12.step s c = (s, [code]) → Err CR code H E
  ok : ∀ H' v, SameL H H' → DeskAt CT CS CD H' a (Rh12.step s c).1 → IntsAt H' v (Rh12.step s c).2 → Fresh H v → Q v H'
structure Cl (K : PySem.W.Frag) (mg : Str → Option Value) (CT CS CC CD : Addr) : Prop where
  tx : ClsAt K mg CT "Text" tFs
  st : ClsAt K mg CS "Settings" sFs
  se : ClsAt K mg CC "Selection" cFs
  dk : ClsAt K mg CD "Desk" dFs
section
variable {P : Program} {w : World} {K : PySem.W.Frag} {mg : Str → Option Value} {base : Heap} {f : Addr} {fd : FuncData} {CR CT CS CC CD : Addr}
/- __init__ -/
def spDeskInit (CT CS CD : Addr) : Sp := fun vs H Q _ => ∃ p dx, vs = [.ref p] ∧ H p = some (.ins CD dx []) ∧ ∀ H', SameBut p H H' → DeskAt CT CS CD H' p Rh12.init → Q .non H'
abbrev sDeskInit : Stmt := meth 41 0
theorem scDeskInit : FnScope ["self"] ["self"] (defScope sDeskInit) := ⟨rfl, rfl, rfl, by decide +kernel, rfl, by decide +kernel, by decide +kernel⟩
theorem ok_deskInit (F : Fun K "__init__" "Desk.__init__" sDeskInit f fd) (C : Cl K mg CT CS CC CD) (MT : MkAt P w K mg base 2 CT ["self", "sentences"] (spTextInit CT)) (MS : MkAt P w K mg base 1 CS ["self"] (spSetInit CS)) : FnOk P w K mg base CX0 4 f fd ["self"] (spDeskInit CT CS CD) := by
  obtain ⟨fT, fdT, GT, mT, bT⟩ := MT.ex
  obtain ⟨fS, fdS, GS, mS, bS⟩ := MS.ex
  refine F.ok scDeskInit (fun vs H Q E h => ?_) (fun cdv A outer s H vs Q E hr h => ⟨_, pss_cons (ps_fld (pv 0) (pe_make mT GT hr rfl C.tx.g bT .nil pass0 (pa_cons (pe_lst pa_nil) pa_nil)) rfl)
    (pss_cons (ps_fld (pv 0) (pe_lst pa_nil) rfl)
    (pss_cons (ps_fld (pv 0) pe_dnewK rfl)
    (pss_one (ps_fld (pv 0) (pe_make0 mS GS (hr.mono (by decide)) rfl C.st.g bS .nil pass0) rfl)))), ?_⟩)
  · obtain ⟨p, dx, rfl, _⟩ := h; rfl
  obtain ⟨p, dx, rfl, hp, k⟩ := h
  refine ⟨Nat.zero_le _, fun q nq => ?_⟩
  have s1 := same_upd (o := .lst []) nq
  intro x xd hx hxd hne
  have s2 := same_upd (o := .own x) hxd
  have hx2 : (upd (upd H q (.lst [])) xd (.own x)) x = none := by rw [upd_ne hne.symm]; exact hx
  have s3 := same_upd (o := .ins CT xd []) hx2
  refine ⟨x, xd, .ref q, [], rfl, upd_same, ⟨q, [], rfl, (s2.trans s3) _ _ upd_same, .nil⟩, by decide, by decide, fun H1 b1 hT => ⟨rfl, ?_⟩⟩
  have s4 : Same _ H1 := (SameBut.trans (.of s3) b1).same hx2
  have s14 := s1.trans (s2.trans s4)
  have hp1 := s14 _ _ hp
  -- the text's parts lie apart from p
  have off : ∀ {H2 H3 : Hp} {fs : List (Str × V)}, H2 p = some (.ins CD dx fs) → SameBut p H2 H3 → ∀ {v : V} {ss : List (List Nat)}, v ≠ .ref p → TextAt CT H2 v ss → TextAt CT H3 v ss := by
    rintro H2 H3 fs h2 b v ss hv ⟨x, xd, ta, tb, tc, td, rfl, hx, ⟨la, us, rfl, hla, hus⟩, ⟨lb, rfl, hlb⟩, ⟨dc, kc, rfl, hdc, hkc⟩, ⟨dd, kd, rfl, hdd, hkd⟩⟩
    have n : ∀ {b : Addr} {o : HO}, H2 b = some o → (∀ C dx fs, o ≠ .ins C dx fs) → H3 b = some o := fun {c} {o} e no => b c o (fun z => by subst z; rw [h2] at e; cases e; exact no _ _ _ rfl) e
    exact ⟨x, xd, _, _, _, _, rfl, b _ _ (fun z => hv (by rw [z])) hx, ⟨la, us, rfl, n hla (by intro _ _ _ z; cases z), hus.mono fun v x ⟨c, e, hc⟩ => ⟨c, e, n hc (by intro _ _ _ z; cases z)⟩⟩, ⟨lb, rfl, n hlb (by intro _ _ _ z; cases z)⟩, ⟨dc, kc, rfl, n hdc (by intro _ _ _ z; cases z), hkc⟩, ⟨dd, kd, rfl, n hdd (by intro _ _ _ z; cases z), hkd⟩⟩
  have hxp : V.ref x ≠ .ref p := fun z => by
    have : x = p := V.ref.inj z
    subst this
    rw [s1 _ _ hp] at hx; cases hx
  refine ⟨_, rfl, p, CD, dx, _, rfl, hp1, C.dk.cl, C.dk.no _ (.head _), (by show 0 < 1000; decide), ?_⟩
  have hT2 := off (H3 := upd H1 p (.ins CD dx (putF "text" (.ref x) []))) hp1 (SameBut.upd (SameBut.refl p H1)) hxp hT
  have b2 : SameBut p H (upd H1 p (.ins CD dx (putF "text" (.ref x) []))) := SameBut.upd (.of s14)
  refine ⟨Nat.zero_le _, fun l hl => ?_⟩
  have s5 := same_upd (o := .lst []) hl
  have hp5 := s5 _ _ (show upd H1 p (.ins CD dx (putF "text" (.ref x) [])) p = _ from upd_same)
  have hlp : l ≠ p := fun z => by subst z; rw [upd_same] at hl; cases hl
  refine ⟨_, rfl, p, CD, dx, _, rfl, hp5, C.dk.cl, C.dk.no _ (.tail _ (.head _)), (by show 1 < 1000; decide), ?_⟩
  generalize hH6 : upd (upd (upd H1 p (.ins CD dx (putF "text" (.ref x) []))) l (.lst [])) p (.ins CD dx (putF "pairs" (.ref l) (putF "text" (.ref x) []))) = H6
  have b6' : SameBut p (upd (upd H1 p (.ins CD dx (putF "text" (.ref x) []))) l (.lst [])) H6 := by rw [← hH6]; exact SameBut.upd (SameBut.refl _ _)
  have hp6 : H6 p = some (.ins CD dx (putF "pairs" (.ref l) (putF "text" (.ref x) []))) := by rw [← hH6]; exact upd_same
  have hT6 := off hp5 b6' hxp (TextAt.stays _ _ _ _ s5 hT2)
  have hl6 : H6 l = some (.lst []) := b6' _ _ hlp upd_same
  have b6 : SameBut p H H6 := (b2.trans (.of s5)).trans b6'
  intro d hd
  have s7 := same_upd (o := .dK []) hd
  have hp7 := s7 _ _ hp6
  have hdp : d ≠ p := fun z => by subst z; rw [hp6] at hd; cases hd
  refine ⟨_, rfl, p, CD, dx, _, rfl, hp7, C.dk.cl, C.dk.no _ (.tail _ (.tail _ (.head _))), (by show 2 < 1000; decide), ?_⟩
  generalize hH8 : upd (upd H6 d (.dK [])) p (.ins CD dx (putF "query" (.ref d) (putF "pairs" (.ref l) (putF "text" (.ref x) [])))) = H8
  have b8' : SameBut p (upd H6 d (.dK [])) H8 := by rw [← hH8]; exact SameBut.upd (SameBut.refl _ _)
  have hp8 : H8 p = some (.ins CD dx (putF "query" (.ref d) (putF "pairs" (.ref l) (putF "text" (.ref x) [])))) := by rw [← hH8]; exact upd_same
  have hT8 := off hp7 b8' hxp (TextAt.stays _ _ _ _ s7 hT6)
  have hl8 : H8 l = some (.lst []) := b8' _ _ hlp (s7 _ _ hl6)
  have hd8 : H8 d = some (.dK []) := b8' _ _ hdp upd_same
  have b8 : SameBut p H H8 := (b6.trans (.of s7)).trans b8'
  intro y yd hy hyd hne2
  have s9 := same_upd (o := .own y) hyd
  have hy2 : (upd H8 yd (.own y)) y = none := by rw [upd_ne hne2.symm]; exact hy
  have s10 := same_upd (o := .ins CS yd []) hy2
  refine ⟨y, yd, rfl, upd_same, fun H11 b11 hS => ⟨rfl, ?_⟩⟩
  have s11 : Same _ H11 := (SameBut.trans (.of s10) b11).same hy2
  have s8 := s9.trans s11
  have hp11 := s8 _ _ hp8
  have hyp : y ≠ p := fun z => by subst z; rw [hp8] at hy; cases hy
  refine ⟨_, rfl, p, CD, dx, _, rfl, hp11, C.dk.cl, C.dk.no _ (.tail _ (.tail _ (.tail _ (.head _)))), (by show 3 < 1000; decide), ?_⟩
  have b12 : SameBut p H11 (upd H11 p (.ins CD dx (putF "settings" (.ref y) (putF "query" (.ref d) (putF "pairs" (.ref l) (putF "text" (.ref x) [])))))) := SameBut.upd (SameBut.refl _ _)
  have hT12 := off hp11 b12 hxp (TextAt.stays _ _ _ _ s8 hT8)
  refine k _ ((b8.trans (.of s8)).trans b12) ⟨dx, .ref x, .ref l, .ref d, .ref y, upd_same, hT12, ⟨l, [], rfl, b12 _ _ hlp (s8 _ _ hl8), .nil⟩, ⟨d, rfl, b12 _ _ hdp (s8 _ _ hd8)⟩, ?_⟩
  obtain ⟨y2, yd2, e, hy3⟩ := hS
  cases e
  exact ⟨y, yd2, rfl, b12 _ _ hyp hy3⟩
/- told_sentences -/
def spTold (CR : Addr) : Sp := fun vs H Q E => ∃ v nv ns, vs = [v, nv] ∧ LstN H nv ns ∧ ns.length ≤ 1000 ∧ (match Rh12.sentences [] ns with
  | none => Err CR (-1) H E
  | some t => if Rh12.isText t = true then New (ListOf LstN) t H Q else Err CR (-1) H E)
abbrev sTold : Stmt := meth 41 1
abbrev nTold : List Str := ["self", "numbers", "found"]
theorem scTold : FnScope nTold ["self", "numbers"] (defScope sTold) := ⟨rfl, rfl, rfl, by decide +kernel, rfl, by decide +kernel, by decide +kernel⟩
theorem ok_told (F : Fun K "told_sentences" "Desk.told_sentences" sTold f fd) (SO : FnAt P w K mg base CX0 1 "sentences_of" ["numbers"] spSentencesOf) (IT : FnAt P w K mg base CX0 3 "is_text" ["sentences"] spIsText)
    (DM : FnAt P w K mg base (L2.CX P w) 3 "demand" ["is_right", "code"] (spDemand CR)) (kW : KInt mg "WRONG" (-1)) : FnOk P w K mg base (L2.CX P w) 4 f fd ["self", "numbers"] (spTold CR) := by
  obtain ⟨fO, fdO, GO, gO, kO, bO⟩ := SO.ex
  obtain ⟨fI, fdI, GI, gI, kI, bI⟩ := IT.ex
  obtain ⟨fD, fdD, GD, gD, kD, bD⟩ := DM.ex
  refine F.okX scTold (fun vs H Q E h => ?_) (fun cdv A outer s H vs Q E hr h => ⟨_, pss_cons (ps_set (i := 2) scTold.nd rfl (Or.inl rfl) (pe_call GO (hr.mono (by decide)) rfl gO kO bO .nil pass0 (pa_cons (pv 1) pa_nil)))
    (pss_cons (ps_expr (pe_call GD hr rfl gD kD bD .nil (passes_call (takes_of rfl rfl rfl rfl) (fun _ _ _ _ h => h)) (pa_cons (pe_and (pe_cmp (pc_notN (pv 2)) rfl) (pe_one (pe_call GI hr rfl gI kI bI .nil pass0 (pa_cons (pv 2) pa_nil)))) (pa_cons (pe_k kW) pa_nil))))
    (pss_one (ps_ret (pv 2)))), ?_⟩)
  · obtain ⟨v, nv, ns, rfl, _⟩ := h; rfl
  obtain ⟨v, nv, ns, rfl, hn, hl, k⟩ := h
  refine ⟨_, rfl, nv, ns, rfl, hn, hl, ?_⟩
  cases e : Rh12.sentences [] ns with
  | none =>
    rw [e] at k
    refine fun H1 s1 => ⟨_, rfl, _, rfl, iteF ?_⟩
    exact ⟨false, -1, rfl, (by intro z; cases z), fun _ => Err.same s1 k⟩
  | some t =>
    rw [e] at k
    obtain ⟨ht1, ht2, ht3⟩ := TpM.sentences_ok (by simp) e
    have k : if Rh12.isText t = true then New (ListOf LstN) t H Q else Err CR (-1) H E := k
    rw [TpM.isText_of ht1] at k
    rintro H1 v1 s1 hv1
    obtain ⟨la, us, rfl, hla, hus⟩ := id hv1
    refine ⟨_, rfl, _, rfl, if_true_of (by simp) ⟨_, rfl, .ref la, t, rfl, hv1, by omega, by have h : t.flatten.length ≤ 0 + ns.length := ht3; omega, fun H2 s2 => ?_⟩⟩
    refine ⟨_, -1, rfl, fun hb => ?_, fun hb => ?_⟩
    · have hb : TpM.textB t = true := hb
      rw [if_pos hb] at k
      exact ⟨_, rfl, k H2 _ (s1.trans s2) (ListOf.stays LstN.stays _ _ _ _ s2 hv1)⟩
    · have hb : TpM.textB t = false := hb
      rw [if_neg (by rw [hb]; decide)] at k
      exact Err.same (s1.trans s2) k
/- sizes -/
def spSizes (CT CD : Addr) : Sp := fun vs H Q _ => ∃ p dx t pr q st ss, vs = [.ref p] ∧ H p = some (.ins CD dx (deskF t pr q st)) ∧ TextAt CT H t ss ∧ NewF LstN [ss.flatten.length, ss.length] H Q
abbrev sSizes : Stmt := meth 41 2
theorem scSizes : FnScope ["self"] ["self"] (defScope sSizes) := ⟨rfl, rfl, rfl, by decide +kernel, rfl, by decide +kernel, by decide +kernel⟩
theorem ok_sizes (F : Fun K "sizes" "Desk.sizes" sSizes f fd) (B : Blt mg) (C : Cl K mg CT CS CC CD) (MM : MtAt P w K mg base CX0 1 CT "many" ["self"] (spMany CT)) : FnOk P w K mg base CX0 2 f fd ["self"] (spSizes CT CD) := by
  obtain ⟨fM, fdM, GM, mM, bM⟩ := MM.ex
  refine F.ok scSizes (fun vs H Q E h => ?_) (fun cdv A outer s H vs Q E hr h => ⟨_, pss_one (ps_ret (pe_lst (pa_cons (pe_meth0 (pe_fld (pv 0) rfl) C.tx.cl mM GM hr bM .nil pass0) (pa_cons (pe_callB call_len_seq (by rfl) B.len PySem.boot_len (pa_cons (pe_fld (pe_fld (pv 0) rfl) rfl) pa_nil)) pa_nil)))), ?_⟩)
  · obtain ⟨p, dx, t, pr, q, st, ss, rfl, _⟩ := h; rfl
  obtain ⟨p, dx, t, pr, q, st, ss, rfl, hp, ht, k⟩ := h
  obtain ⟨x, xd, ta, tb, tc, td, rfl, hx, ⟨la, us, rfl, hla, hus⟩, _⟩ := id ht
  refine ⟨_, rfl, p, CD, dx, _, _, rfl, hp, C.dk.cl, C.dk.no _ (.head _), rfl, x, xd, _, rfl, hx, rfl, .ref x, ss, rfl, ht, fun H1 s1 => ?_⟩
  refine ⟨_, rfl, p, CD, dx, _, _, rfl, s1 _ _ hp, C.dk.cl, C.dk.no _ (.head _), rfl, x, CT, xd, _, _, rfl, s1 _ _ hx, C.tx.cl, C.tx.no _ (.head _), rfl, la, us, rfl, .inl (SqL.of (s1 _ _ hla)), sz2, fun l hl => ?_⟩
  refine k _ _ (s1.trans (same_upd hl)) ⟨l, rfl, ?_⟩ ⟨l, rfl, s1.free hl⟩
  rw [upd_same, hus.len]
  rfl
/- a new text -/
theorem desk_text {H H' : Hp} {a dx : Addr} {t p q st t' : V} {s : Rh12.St} {ss : List (List Nat)} (h : H a = some (.ins CD dx (deskF t p q st))) (hP : Parts CT CS H t p q st s) (b : SameBut a H H') (h' : H' a = some (.ins CD dx (deskF t' p q st))) (ht : TextAt CT H' t' ss) : DeskAt CT CS CD H' a { s with text := ss } := by
  have n : ∀ {c : Addr} {o : HO}, H c = some o → (∀ C dx fs, o ≠ .ins C dx fs) → H' c = some o := fun {c} {o} e no => b c o (fun z => by subst z; rw [h] at e; cases e; exact no _ _ _ rfl) e
  obtain ⟨pa, ps, rfl, hpa, hps⟩ := hP.pairs
  obtain ⟨qa, rfl, hqa⟩ := hP.query
  obtain ⟨sa, sd, rfl, hsa⟩ := hP.sets
  have hne : sa ≠ a := fun z => by
    subst z
    rw [h] at hsa
    have := congrArg (fun o : Option HO => match o with | some (.ins _ _ fs) => fs.length | _ => 0) hsa
    exact absurd this (by show ¬ (4 : Nat) = 7; decide)
  exact ⟨dx, _, _, _, _, h', ht, ⟨pa, ps, rfl, n hpa (by intro _ _ _ z; cases z), hps.mono fun v x ⟨c, e, hc⟩ => ⟨c, e, n hc (by intro _ _ _ z; cases z)⟩⟩, ⟨qa, rfl, n hqa (by intro _ _ _ z; cases z)⟩, ⟨sa, sd, rfl, b _ _ hne hsa⟩⟩
/-- self.text = Text(x), done -/
theorem text_apart {H : Hp} {a dx x : Addr} {fs : List (Str × V)} {ss : List (List Nat)} {o : List (Str × V)} (h : H a = some (.ins CD dx fs)) (hl : fs.length = 4) (ht : TextAt CT H (.ref x) ss) (hne : x ≠ a) : TextAt CT (upd H a (.ins CD dx o)) (.ref x) ss := by
  obtain ⟨y, yd, ta, tb, tc, td, e, hy, ⟨la, us, rfl, hla, hus⟩, ⟨lb, rfl, hlb⟩, ⟨dc, kc, rfl, hdc, hkc⟩, ⟨dd, kd, rfl, hdd, hkd⟩⟩ := ht
  cases e
  have n : ∀ {c : Addr} {u : HO}, H c = some u → (∀ C dx fs, u ≠ .ins C dx fs) → upd H a (.ins CD dx o) c = some u := fun {c} {u} e no => by
    rw [upd_ne (fun z => by subst z; rw [h] at e; cases e; exact no _ _ _ rfl)]; exact e
  exact ⟨x, yd, _, _, _, _, rfl, by rw [upd_ne hne]; exact hy, ⟨la, us, rfl, n hla (by intro _ _ _ z; cases z), hus.mono fun v x ⟨c, e, hc⟩ => ⟨c, e, n hc (by intro _ _ _ z; cases z)⟩⟩, ⟨lb, rfl, n hlb (by intro _ _ _ z; cases z)⟩, ⟨dc, kc, rfl, n hdc (by intro _ _ _ z; cases z), hkc⟩, ⟨dd, kd, rfl, n hdd (by intro _ _ _ z; cases z), hkd⟩⟩
def spSetText (CR CT CS CD : Addr) : Sp := fun vs H Q E => ∃ a nv s ns, vs = [.ref a, nv] ∧ DeskAt CT CS CD H a s ∧ LstN H nv ns ∧ ns.length ≤ 100 ∧ Outs CR CT CS CD H a s (.text ns) Q E
abbrev sSetText : Stmt := meth 41 3
theorem scSetText : FnScope ["self", "numbers"] ["self", "numbers"] (defScope sSetText) := ⟨rfl, rfl, rfl, by decide +kernel, rfl, by decide +kernel, by decide +kernel⟩
theorem ok_set_text (F : Fun K "set_text" "Desk.set_text" sSetText f fd) (C : Cl K mg CT CS CC CD) (MT : MkAt P w K mg base 2 CT ["self", "sentences"] (spTextInit CT)) (TO : MtAt P w K mg base (L2.CX P w) 4 CD "told_sentences" ["self", "numbers"] (spTold CR)) (SZ : MtAt P w K mg base CX0 2 CD "sizes" ["self"] (spSizes CT CD)) : FnOk P w K mg base (L2.CX P w) 5 f fd ["self", "numbers"] (spSetText CR CT CS CD) := by
  obtain ⟨fT, fdT, GT, mT, bT⟩ := MT.ex
  obtain ⟨fO, fdO, GO, mO, bO⟩ := TO.ex
  obtain ⟨fZ, fdZ, GZ, mZ, bZ⟩ := SZ.ex
  refine F.okX scSetText (fun vs H Q E h => ?_) (fun cdv A outer s H vs Q E hr h => ⟨_, pss_cons (ps_fld (pv 0) (pe_make mT GT (hr.mono (by decide)) rfl C.tx.g bT .nil pass0 (pa_cons (pe_meth (pv 0) C.dk.cl mO GO hr bO .nil (passes_call (takes_of rfl rfl rfl rfl) (fun _ _ _ _ h => h)) (pa_cons (pv 1) pa_nil)) pa_nil)) rfl)
    (pss_one (ps_ret (pe_meth0 (pv 0) C.dk.cl mZ GZ (hr.mono (by decide)) bZ .nil pass0))), ?_⟩)
  · obtain ⟨a, nv, s, ns, rfl, _⟩ := h; rfl
  obtain ⟨a, nv, s, ns, rfl, ⟨dx, t, p, q, st, ha, hP⟩, hn, hl, k⟩ := h
  refine ⟨_, rfl, a, dx, _, rfl, ha, rfl, _, rfl, .ref a, nv, ns, rfl, hn, by omega, ?_⟩
  have hst : ∀ o, Rh12.sentences [] ns = o → Rh12.step s (.text ns) = (match o with
    | none => (s, [-1])
    | some t => if Rh12.isText t = false then (s, [-1]) else ({ s with text := t }, Rh12.ints [t.flatten.length, t.length])) := fun o e => by subst e; rfl
  cases e : Rh12.sentences [] ns with
  | none => exact k.err _ (hst _ e)
  | some ss =>
    have hst := hst _ e
    show if Rh12.isText ss = true then _ else _
    by_cases c : Rh12.isText ss = true
    · rw [if_pos c]
      rw [show (match some ss with | none => (s, [-1]) | some t => if Rh12.isText t = false then (s, [-1]) else ({ s with text := t }, Rh12.ints [t.flatten.length, t.length])) = ({ s with text := ss }, Rh12.ints [ss.flatten.length, ss.length]) from if_neg (by rw [c]; decide)] at hst
      obtain ⟨_, hw1, hw2⟩ := TpM.isText_words c
      intro H1 v1 s1 hv1
      intro x xd hx hxd hne
      have s2 := same_upd (o := .own x) hxd
      have hx2 : (upd H1 xd (.own x)) x = none := by rw [upd_ne hne.symm]; exact hx
      have s3 := same_upd (o := .ins CT xd []) hx2
      refine ⟨x, xd, v1, ss, rfl, upd_same, ListOf.stays LstN.stays _ _ _ _ (s2.trans s3) hv1, by omega, by omega, fun H2 b2 hT => ⟨rfl, ?_⟩⟩
      have s4 : Same _ H2 := (SameBut.trans (.of s3) b2).same hx2
      have s14 := s1.trans (s2.trans s4)
      have ha2 := s14 _ _ ha
      have hxa : x ≠ a := fun z => by subst z; rw [s1 _ _ ha] at hx; cases hx
      refine ⟨_, rfl, a, CD, dx, _, rfl, ha2, C.dk.cl, C.dk.no _ (.head _), (by show 4 < 1000; decide), ?_⟩
      have hT3 := text_apart (o := deskF (.ref x) p q st) ha2 rfl hT hxa
      refine ⟨_, rfl, a, dx, _, rfl, upd_same, rfl, a, dx, .ref x, p, q, st, ss, rfl, upd_same, hT3, fun H4 v4 s4' h4 f4 => ?_⟩
      have b3 : SameBut a H (upd H2 a (.ins CD dx (deskF (.ref x) p q st))) := SameBut.upd (.of s14)
      have hD := desk_text ha hP b3 upd_same hT3
      have k2 := k.ok H4 v4 ((SameL.but b3 ha).trans (.of s4')) (by rw [hst]; exact hD.stay s4') (by rw [hst]; exact h4) (Fresh.backB b3 upd_same f4)
      exact k2
    · rw [if_neg c]
      refine k.err _ ?_
      rw [hst]
      exact if_pos (Bool.eq_false_iff.mpr c)
end
end Tp

namespace Tp
open PySem PySem.Spec PyProof.Rows L2
open TpM (Pas Trip Sel)
theorem step_more_none {s : Rh12.St} {ns : List Nat} (h : Rh12.sentences [] ns = none) : Rh12.step s (.more ns) = (s, [-1]) := by
  show (match Rh12.sentences [] ns with | none => _ | some t => _) = _
  rw [h]
theorem step_more_bad {s : Rh12.St} {ns : List Nat} {t : List (List Nat)} (h : Rh12.sentences [] ns = some t) (c : Rh12.isText t = false) : Rh12.step s (.more ns) = (s, [-1]) := by
  show (match Rh12.sentences [] ns with | none => _ | some t => _) = _
  rw [h]
  exact if_pos c
theorem step_more_long {s : Rh12.St} {ns : List Nat} {t : List (List Nat)} (h : Rh12.sentences [] ns = some t) (c : Rh12.isText t = true) (d : Rh12.isText (s.text ++ t) = false) : Rh12.step s (.more ns) = (s, [-5]) := by
  show (match Rh12.sentences [] ns with | none => _ | some t => _) = _
  rw [h]
  exact (if_neg (by rw [c]; decide)).trans (if_pos d)
theorem step_more_ok {s : Rh12.St} {ns : List Nat} {t : List (List Nat)} (h : Rh12.sentences [] ns = some t) (c : Rh12.isText t = true) (d : Rh12.isText (s.text ++ t) = true) : Rh12.step s (.more ns) = ({ s with text := s.text ++ t }, Rh12.ints [(s.text ++ t).flatten.length, (s.text ++ t).length]) := by
  show (match Rh12.sentences [] ns with | none => _ | some t => _) = _
  rw [h]
  exact (if_neg (by rw [c]; decide)).trans (if_neg (by rw [d]; decide))
section
variable {P : Program} {w : World} {K : PySem.W.Frag} {mg : Str → Option Value} {base : Heap} {f : Addr} {fd : FuncData} {CR CT CS CC CD : Addr}
def spMore (CR CT CS CD : Addr) : Sp := fun vs H Q E => ∃ a nv s ns, vs = [.ref a, nv] ∧ DeskAt CT CS CD H a s ∧ Ok s ∧ LstN H nv ns ∧ ns.length ≤ 100 ∧ Outs CR CT CS CD H a s (.more ns) Q E
abbrev sMore : Stmt := meth 41 4
abbrev nMore : List Str := ["self", "numbers", "whole"]
theorem scMore : FnScope nMore ["self", "numbers"] (defScope sMore) := ⟨rfl, rfl, rfl, by decide +kernel, rfl, by decide +kernel, by decide +kernel⟩
theorem ok_more (F : Fun K "more" "Desk.more" sMore f fd) (C : Cl K mg CT CS CC CD) (MT : MkAt P w K mg base 2 CT ["self", "sentences"] (spTextInit CT)) (TO : MtAt P w K mg base (L2.CX P w) 4 CD "told_sentences" ["self", "numbers"] (spTold CR)) (SZ : MtAt P w K mg base CX0 2 CD "sizes" ["self"] (spSizes CT CD))
    (IS : FnAt P w K mg base CX0 2 "is_small" ["sentences"] spIsSmall) (DM : FnAt P w K mg base (L2.CX P w) 3 "demand" ["is_right", "code"] (spDemand CR)) (kL : KInt mg "TOO_LONG" (-5)) : FnOk P w K mg base (L2.CX P w) 5 f fd ["self", "numbers"] (spMore CR CT CS CD) := by
  obtain ⟨fT, fdT, GT, mT, bT⟩ := MT.ex
  obtain ⟨fO, fdO, GO, mO, bO⟩ := TO.ex
  obtain ⟨fZ, fdZ, GZ, mZ, bZ⟩ := SZ.ex
  obtain ⟨fI, fdI, GI, gI, kI, bI⟩ := IS.ex
  obtain ⟨fD, fdD, GD, gD, kD, bD⟩ := DM.ex
  refine F.okX scMore (fun vs H Q E h => ?_) (fun cdv A outer s H vs Q E hr h => ⟨_, pss_cons (ps_set (i := 2) scMore.nd rfl (Or.inl rfl) (pe_op op_cat (pe_fld (pe_fld (pv 0) rfl) rfl) (pe_meth (pv 0) C.dk.cl mO GO hr bO .nil (passes_call (takes_of rfl rfl rfl rfl) (fun _ _ _ _ h => h)) (pa_cons (pv 1) pa_nil))))
    (pss_cons (ps_expr (pe_call GD (hr.mono (by decide)) rfl gD kD bD .nil (passes_call (takes_of rfl rfl rfl rfl) (fun _ _ _ _ h => h)) (pa_cons (pe_call GI (hr.mono (by decide)) rfl gI kI bI .nil pass0 (pa_cons (pv 2) pa_nil)) (pa_cons (pe_k kL) pa_nil))))
    (pss_cons (ps_fld (pv 0) (pe_make mT GT (hr.mono (by decide)) rfl C.tx.g bT .nil pass0 (pa_cons (pv 2) pa_nil)) rfl)
    (pss_one (ps_ret (pe_meth0 (pv 0) C.dk.cl mZ GZ (hr.mono (by decide)) bZ .nil pass0))))), ?_⟩)
  · obtain ⟨a, nv, s, ns, rfl, _⟩ := h; rfl
  obtain ⟨a, nv, s, ns, rfl, ⟨dx, t, p, q, st, ha, hP⟩, ok, hn, hl, k⟩ := h
  obtain ⟨y, yd, ta, tb, tc, td, rfl, hy, ⟨la, us, rfl, hla, hus⟩, _⟩ := id hP.text
  refine ⟨_, rfl, a, CD, dx, _, _, rfl, ha, C.dk.cl, C.dk.no _ (.head _), rfl, y, CT, yd, _, _, rfl, hy, C.tx.cl, C.tx.no _ (.head _), rfl, _, rfl, a, dx, _, rfl, ha, rfl, _, rfl, .ref a, nv, ns, rfl, hn, by omega, ?_⟩
  cases e : Rh12.sentences [] ns with
  | none => exact k.err _ (step_more_none e)
  | some ss =>
    show if Rh12.isText ss = true then _ else _
    by_cases c : Rh12.isText ss = true
    · rw [if_pos c]
      obtain ⟨_, hw1, hw2⟩ := TpM.isText_words c
      obtain ⟨_, hv1, hv2⟩ := TpM.isText_words ok.text
      rintro H1 _ s1 ⟨lb, ws, rfl, hlb, hws⟩
      refine ⟨la, lb, us, ws, rfl, rfl, s1 _ _ hla, hlb, line_ok (by rw [hus.len, hws.len]; omega), fun m hm => ?_⟩
      have s2 := same_upd (o := .lst (us ++ ws)) hm
      have s12 := s1.trans s2
      have hW : ListOf LstN (upd H1 m (.lst (us ++ ws))) (.ref m) (s.text ++ ss) := ⟨m, _, rfl, upd_same, (hus.stay LstN.stays s12).app (hws.stay LstN.stays s2)⟩
      have hW1 : (s.text ++ ss).length ≤ 1000 := by rw [List.length_append]; omega
      have hW2 : (s.text ++ ss).flatten.length ≤ 1000 := by rw [List.flatten_append, List.length_append]; omega
      refine ⟨_, rfl, .ref m, s.text ++ ss, rfl, hW, hW1, hW2, fun H3 s3 => ?_⟩
      refine ⟨_, -5, rfl, fun hb => ?_, fun hb => ?_⟩
      · have hb : TpM.smallT (s.text ++ ss) = true := hb
        rw [← TpM.isText_app ok.text c] at hb
        have hst := step_more_ok (s := s) e c hb
        refine ⟨_, rfl, ?_⟩
        intro x xd hx hxd hne
        have s4 := same_upd (o := .own x) hxd
        have hx2 : (upd H3 xd (.own x)) x = none := by rw [upd_ne hne.symm]; exact hx
        have s5 := same_upd (o := .ins CT xd []) hx2
        refine ⟨x, xd, .ref m, s.text ++ ss, rfl, upd_same, ListOf.stays LstN.stays _ _ _ _ (s3.trans (s4.trans s5)) hW, hW1, hW2, fun H6 b6 hT => ⟨rfl, ?_⟩⟩
        have s6 : Same _ H6 := (SameBut.trans (.of s5) b6).same hx2
        have s16 := s12.trans (s3.trans (s4.trans s6))
        have ha6 := s16 _ _ ha
        have hxa : x ≠ a := fun z => by subst z; rw [(s12.trans s3) _ _ ha] at hx; cases hx
        refine ⟨_, rfl, a, CD, dx, _, rfl, ha6, C.dk.cl, C.dk.no _ (.head _), (by show 4 < 1000; decide), ?_⟩
        have hT7 := text_apart (o := deskF (.ref x) p q st) ha6 rfl hT hxa
        refine ⟨_, rfl, a, dx, _, rfl, upd_same, rfl, a, dx, .ref x, p, q, st, _, rfl, upd_same, hT7, fun H8 v8 s8 h8 f8 => ?_⟩
        have b7 : SameBut a H (upd H6 a (.ins CD dx (deskF (.ref x) p q st))) := SameBut.upd (.of s16)
        have hD := desk_text ha hP b7 upd_same hT7
        exact k.ok H8 v8 ((SameL.but b7 ha).trans (.of s8)) (by rw [hst]; exact hD.stay s8) (by rw [hst]; exact h8) (Fresh.backB b7 upd_same f8)
      · have hb : TpM.smallT (s.text ++ ss) = false := hb
        rw [← TpM.isText_app ok.text c] at hb
        exact Err.same (s12.trans s3) (k.err _ (step_more_long e c hb))
    · rw [if_neg c]
      exact k.err _ (step_more_bad e (Bool.eq_false_iff.mpr c))
/- wanted -/
def spWanted (CT CS CD : Addr) : Sp := fun vs H Q _ => ∃ a s, vs = [.ref a] ∧ DeskAt CT CS CD H a s ∧ s.ask.length ≤ 1000 ∧ New LstN (Rh12.wanted s) H Q
abbrev sWanted : Stmt := meth 41 5
abbrev nWanted : List Str := ["self", "word", "weight"]
theorem scWanted : FnScope nWanted ["self"] (defScope sWanted) := ⟨rfl, rfl, rfl, by decide +kernel, rfl, by decide +kernel, by decide +kernel⟩
theorem ok_wanted (F : Fun K "wanted" "Desk.wanted" sWanted f fd) (C : Cl K mg CT CS CC CD) : FnOk P w K mg base CX0 1 f fd ["self"] (spWanted CT CS CD) := by
  refine F.ok scWanted (fun vs H Q E h => ?_) (fun cdv A outer s H vs Q E hr h => ⟨_, pss_one (ps_ret (pe_lc (own := [("word", 1), ("weight", 2)]) (g := gTup K 2 (gCons (gName 1) (gCons (gName 2) gNil))) rfl scWanted.nd
        (pi_list (pe_fld (pv 0) rfl)) (blkOk_by (N := nWanted) (sc := defScope sWanted) (by decide +kernel)) (fun _ _ _ _ _ => by exact pg_tup rfl (pgs_cons (pg_name (i := 1) scWanted.nd rfl (Or.inl rfl)) (pgs_cons (pg_name (i := 2) scWanted.nd rfl (Or.inl rfl)) pgs_nil)))
        (fun _ _ _ _ _ => pts_one (pt_cmpR (r := rIn K false) (tb := tFld K (tFld K (tVar 0) "text") "words") (by exact op_in_seq) (pv 1) (by exact pe_fld (pe_fld (pv 0) rfl) rfl) (by rfl)))
        (fun _ _ _ _ _ => pv 1))), ?_⟩)
  · obtain ⟨a, s, rfl, _⟩ := h; rfl
  obtain ⟨a, s, rfl, ⟨dx, t, p, q, st, ha, hP⟩, hl, k⟩ := h
  obtain ⟨x, xd, ta, tb, tc, td, rfl, hx, _, ⟨wl, rfl, hwl⟩, _⟩ := id hP.text
  obtain ⟨pl, vs, rfl, hpl, hvs⟩ := id hP.pairs
  refine ⟨_, rfl, a, CD, dx, _, _, rfl, ha, C.dk.cl, C.dk.no _ (.tail _ (.head _)), rfl, pl, rfl, ⟨vs, SqL.of hpl⟩, fun D hD => lc_list (K := K) (a := pl) (xs := vs) (fun i H' => Same H H' ∧ H' D = some (.lst (nVs (((s.ask.take i).map fun x => x.1).filter fun w => (Rh12.flat s).contains w))))
    ⟨same_upd hD, upd_same⟩ (fun i H' _ ⟨s2, _⟩ => SqL.of (s2 _ _ hpl)) ?_ ?_⟩
  · rintro i y H' hi ⟨s2, hd⟩
    obtain ⟨u, hu, b, rfl, hb⟩ := hvs.get hi
    have em := inV_nVs u.1 (Rh12.flat s)
    refine ⟨b, _, rfl, SqT.of (s2 _ _ hb), rfl, _, _, rfl, _, _, rfl, rfl, rfl, _, rfl, _, rfl, a, CD, dx, _, _, rfl, s2 _ _ ha, C.dk.cl, C.dk.no _ (.head _), rfl, x, CT, xd, _, _, rfl, s2 _ _ hx, C.tx.cl, C.tx.no _ (.tail _ (.head _)), rfl, wl, _, rfl, .inl (SqL.of (s2 _ _ hwl)), rfl, flat_nVs _, _, rfl, ?_⟩
    cases c : (Rh12.flat s).contains u.1 with
    | true =>
      refine if_true_of (em.trans c) ⟨_, rfl, _, hd, ?_, same_snoc hD s2, ?_⟩
      · rw [nVs_len]
        have h := List.length_filter_le (fun w => (Rh12.flat s).contains w) ((s.ask.take i).map fun x => x.1)
        rw [List.length_map, List.length_take] at h
        exact line_lt (by omega)
      · rw [upd_same, take_more hu, List.map_append, List.filter_append, nVs_app]
        rw [show ((([u] : List (Nat × Nat)).map fun x => x.1).filter fun w => (Rh12.flat s).contains w) = [u.1] from List.filter_cons_of_pos (by exact c)]
        rfl
    | false =>
      refine if_false_of (em.trans c) ⟨s2, ?_⟩
      rw [hd, take_more hu, List.map_append, List.filter_append]
      rw [show ((([u] : List (Nat × Nat)).map fun x => x.1).filter fun w => (Rh12.flat s).contains w) = [] from List.filter_cons_of_neg (by rw [c]; decide), List.append_nil]
  · rintro H' ⟨s2, hd⟩
    rw [hvs.len, List.take_length] at hd
    exact k H' _ s2 ⟨D, rfl, hd⟩
/- ask -/
theorem paired_pairs {H : Hp} : ∀ {vs : List V} {a : List (Nat × Nat)}, AllR (PairAt H) vs a → ∃ ps : List Addr, vs = ps.map V.ref ∧ Paired (fun p kv => SqT K H p [kV kv.1, kv.2]) ps (qkv a)
  | _, _, .nil => ⟨[], rfl, .nil⟩
  | _, _, .cons (x := x) ⟨b, e, hb⟩ t => by
    obtain ⟨ps, rfl, h⟩ := paired_pairs t
    subst e
    exact ⟨b :: ps, rfl, .cons (show SqT K H b [kV (Sum.inl (x.1 : Int)), .int (x.2 : Int)] from SqT.of hb) h⟩
theorem mergeK_app (kvs l : List (Key × V)) : (∀ x ∈ l, valV kvs x.1 = none) → (l.map fun x => x.1).Nodup → mergeK kvs l = kvs ++ l := by
  induction l generalizing kvs with
  | nil => intro _ _; exact (List.append_nil _).symm
  | cons x l ih =>
    intro h n
    rw [List.map_cons, List.nodup_cons] at n
    show mergeK (putK kvs x.1 x.2) l = _
    rw [putK_new _ (h x List.mem_cons_self), ih _ (fun y hy => ?_) n.2, List.append_assoc]
    · rfl
    · rw [valV_snoc _ _ _ _ (h x List.mem_cons_self), if_neg (fun e => n.1 (List.mem_map.mpr ⟨y, hy, e⟩))]
      exact h y (List.mem_cons_of_mem _ hy)
theorem merge_qkv {a : List (Nat × Nat)} (h : (a.map fun x => x.1).Nodup) : mergeK [] (qkv a) = qkv a := by
  have := mergeK_app [] (qkv a) (fun _ _ => rfl) (by
    unfold qkv
    rw [List.map_map]
    have e : ((fun x : Key × V => x.1) ∘ fun x : Nat × Nat => ((Sum.inl (x.1 : Int) : Key), V.int (x.2 : Int))) = (fun n : Nat => (Sum.inl (n : Int) : Key)) ∘ fun x => x.1 := rfl
    rw [e, ← List.map_map]
    exact List.Pairwise.map _ (fun a b hab e => hab (by have := Sum.inl.inj e; omega)) h)
  rw [this]; rfl
def spAsk (CR CT CS CD : Addr) : Sp := fun vs H Q E => ∃ a nv s ns, vs = [.ref a, nv] ∧ DeskAt CT CS CD H a s ∧ LstN H nv ns ∧ ns.length ≤ 20 ∧ Outs CR CT CS CD H a s (.ask ns) Q E
abbrev sAsk : Stmt := meth 41 6
abbrev nAsk : List Str := ["self", "numbers", "pairs"]
theorem scAsk : FnScope nAsk ["self", "numbers"] (defScope sAsk) := ⟨rfl, rfl, rfl, by decide +kernel, rfl, by decide +kernel, by decide +kernel⟩
theorem ok_ask (F : Fun K "ask" "Desk.ask" sAsk f fd) (B : Blt mg) (C : Cl K mg CT CS CC CD) (PO : FnAt P w K mg base CX0 1 "pairs_of" ["numbers"] spPairsOf) (WA : MtAt P w K mg base CX0 1 CD "wanted" ["self"] (spWanted CT CS CD))
    (DM : FnAt P w K mg base (L2.CX P w) 3 "demand" ["is_right", "code"] (spDemand CR)) (kW : KInt mg "WRONG" (-1)) : FnOk P w K mg base (L2.CX P w) 4 f fd ["self", "numbers"] (spAsk CR CT CS CD) := by
  obtain ⟨fO, fdO, GO, gO, kO, bO⟩ := PO.ex
  obtain ⟨fZ, fdZ, GZ, mZ, bZ⟩ := WA.ex
  obtain ⟨fD, fdD, GD, gD, kD, bD⟩ := DM.ex
  refine F.okX scAsk (fun vs H Q E h => ?_) (fun cdv A outer s H vs Q E hr h => ⟨_, pss_cons (ps_set (i := 2) scAsk.nd rfl (Or.inl rfl) (pe_call GO (hr.mono (by decide)) rfl gO kO bO .nil pass0 (pa_cons (pv 1) pa_nil)))
    (pss_cons (ps_expr (pe_call GD hr rfl gD kD bD .nil (passes_call (takes_of rfl rfl rfl rfl) (fun _ _ _ _ h => h)) (pa_cons (pe_cmp (pc_notN (pv 2)) rfl) (pa_cons (pe_k kW) pa_nil))))
    (pss_cons (ps_fld (pv 0) (pv 2) rfl)
    (pss_cons (ps_fld (pv 0) (pe_callTy (call_dictP rfl) (by rfl) B.dict (by decide +kernel) (pa_cons (pv 2) pa_nil)) rfl)
    (pss_one (ps_ret (pe_lst (pa_cons (pe_callB call_len_seq (by rfl) B.len PySem.boot_len (pa_cons (pe_meth0 (pv 0) C.dk.cl mZ GZ (hr.mono (by decide)) bZ .nil pass0) pa_nil)) pa_nil))))))), ?_⟩)
  · obtain ⟨a, nv, s, ns, rfl, _⟩ := h; rfl
  obtain ⟨a, nv, s, ns, rfl, ⟨dx, t, p, q, st, ha, hP⟩, hn, hl, k⟩ := h
  have hst := TpM.step_ask s ns
  refine ⟨_, rfl, nv, ns, rfl, hn, by omega, ?_⟩
  cases e : TpM.askOf ns with
  | none =>
    rw [e] at hst
    intro H1 s1
    refine ⟨_, rfl, _, -1, rfl, (by intro z; exact absurd z (by decide)), fun _ => Err.same s1 (k.err _ hst)⟩
  | some prs =>
    rw [e] at hst
    have hask := TpM.askOf_is e
    rintro H1 _ s1 ⟨la, us, rfl, hla, hus⟩
    refine ⟨_, rfl, _, -1, rfl, fun _ => ?_, (by intro z; exact absurd z (by simp))⟩
    have ha1 := s1 _ _ ha
    have hla_a : la ≠ a := ne_of hla ha1 (by intro z; cases z)
    refine ⟨_, rfl, _, rfl, a, CD, dx, _, rfl, ha1, C.dk.cl, C.dk.no _ (.tail _ (.head _)), (by show 4 < 1000; decide), ?_⟩
    have b2 : SameBut a H1 (upd H1 a (.ins CD dx (putF "pairs" (.ref la) (deskF t p q st)))) := SameBut.upd (SameBut.refl _ _)
    have hus2 : AllR (PairAt (upd H1 a (.ins CD dx (putF "pairs" (.ref la) (deskF t p q st))))) us prs := hus.mono fun v x ⟨c, e, hc⟩ => ⟨c, e, b2 _ _ (ne_of hc ha1 (by intro z; cases z)) hc⟩
    obtain ⟨ps, eus, hps⟩ := paired_pairs (K := K) hus2
    have hla2 : upd H1 a (.ins CD dx (putF "pairs" (.ref la) (deskF t p q st))) la = some (.lst us) := b2 _ _ hla_a hla
    refine ⟨_, rfl, la, ps, qkv prs, rfl, (by rw [← eus]; exact SqL.of hla2), hps, fun d hd => ?_⟩
    rw [merge_qkv (TpM.isAsk_nodup hask)]
    have s3 := same_upd (o := .dK (qkv prs)) hd
    have ha3 := s3 _ _ (show upd H1 a (.ins CD dx (putF "pairs" (.ref la) (deskF t p q st))) a = _ from upd_same)
    have hda : d ≠ a := fun z => by subst z; rw [upd_same] at hd; cases hd
    refine ⟨_, rfl, a, CD, dx, _, rfl, ha3, C.dk.cl, C.dk.no _ (.tail _ (.tail _ (.head _))), (by show 4 < 1000; decide), ?_⟩
    generalize hH4 : upd (upd (upd H1 a (.ins CD dx (putF "pairs" (.ref la) (deskF t p q st)))) d (.dK (qkv prs))) a _ = H4
    have b4 : SameBut a (upd (upd H1 a (.ins CD dx (putF "pairs" (.ref la) (deskF t p q st)))) d (.dK (qkv prs))) H4 := by rw [← hH4]; exact SameBut.upd (SameBut.refl _ _)
    have ha4 : H4 a = some (.ins CD dx (deskF t (.ref la) (.ref d) st)) := by rw [← hH4]; exact upd_same
    have b04 : SameBut a H H4 := ((SameBut.of s1).trans b2).trans ((SameBut.of s3).trans b4)
    have n : ∀ {c : Addr} {o : HO}, H c = some o → (∀ C dx fs, o ≠ .ins C dx fs) → H4 c = some o := fun {c} {o} e no => b04 c o (fun z => by subst z; rw [ha] at e; cases e; exact no _ _ _ rfl) e
    have hD : DeskAt CT CS CD H4 a { s with ask := prs } := by
      obtain ⟨x, xd, ta, tb, tc, td, rfl, hx, ⟨lt, ut, rfl, hlt, hut⟩, ⟨lb, rfl, hlb⟩, ⟨dc, kc, rfl, hdc, hkc⟩, ⟨dd, kd, rfl, hdd, hkd⟩⟩ := hP.text
      obtain ⟨sa, sd, rfl, hsa⟩ := hP.sets
      have hne : sa ≠ a := fun z => by
        subst z
        rw [ha] at hsa
        have := congrArg (fun o : Option HO => match o with | some (.ins _ _ fs) => fs.length | _ => 0) hsa
        exact absurd this (by show ¬ (4 : Nat) = 7; decide)
      have hnx : x ≠ a := fun z => by
        subst z
        rw [ha] at hx
        have := congrArg (fun o : Option HO => match o with | some (.ins _ _ fs) => (fs.map fun (y : Str × V) => y.1) | _ => []) hx
        exact absurd this (by show ¬ (([("text" : Str), ("pairs" : Str), ("query" : Str), ("settings" : Str)] : List Str) = [("sentences" : Str), ("words" : Str), ("firsts" : Str), ("lasts" : Str)]); decide)
      refine ⟨dx, _, _, _, _, ha4, ⟨x, xd, _, _, _, _, rfl, b04 _ _ hnx hx, ⟨lt, ut, rfl, n hlt (by intro _ _ _ z; cases z), hut.mono fun v x ⟨c, e, hc⟩ => ⟨c, e, n hc (by intro _ _ _ z; cases z)⟩⟩, ⟨lb, rfl, n hlb (by intro _ _ _ z; cases z)⟩, ⟨dc, kc, rfl, n hdc (by intro _ _ _ z; cases z), hkc⟩, ⟨dd, kd, rfl, n hdd (by intro _ _ _ z; cases z), hkd⟩⟩, ⟨la, us, rfl, b4 _ _ hla_a (s3 _ _ hla2), ?_⟩, ⟨d, rfl, b4 _ _ hda upd_same⟩, ⟨sa, sd, rfl, b04 _ _ hne hsa⟩⟩
      refine hus2.mono fun v x ⟨c, e, hc⟩ => ⟨c, e, b4 _ _ (ne_of (s3 _ _ hc) ha3 (by intro z; cases z)) (s3 _ _ hc)⟩
    refine ⟨_, rfl, a, dx, _, rfl, ha4, rfl, a, { s with ask := prs }, rfl, hD, Nat.le_trans (TpM.isAsk_len hask) (by decide), fun H5 v5 s5 ⟨wl, ew, hwl⟩ => ?_⟩
    subst ew
    refine ⟨wl, _, rfl, .inl (SqL.of hwl), sz1, fun l hl => ?_⟩
    have s6 := same_upd (o := .lst [V.int ((nVs (Rh12.wanted { s with ask := prs })).length : Nat)]) hl
    refine k.ok _ _ ((SameL.but b04 ha).trans (.of (s5.trans s6))) (by rw [hst]; exact hD.stay (s5.trans s6)) ?_ (Fresh.backB b04 ha4 (Fresh.back s5 ⟨l, rfl, hl⟩))
    rw [hst]
    refine ⟨l, rfl, ?_⟩
    rw [upd_same, nVs_len]
    rfl
end
end Tp

namespace Tp
open PySem PySem.Spec PyProof.Rows L2
open TpM (Pas Trip Sel)
theorem ins_len {H : Hp} {a C dx C' dx' : Addr} {fs gs : List (Str × V)} (h : H a = some (.ins C dx fs)) (h' : H a = some (.ins C' dx' gs)) : fs = gs := by
  rw [h] at h'
  cases h'
  rfl
section
variable {P : Program} {w : World} {K : PySem.W.Frag} {mg : Str → Option Value} {base : Heap} {f : Addr} {fd : FuncData} {CR CT CS CC CD : Addr}
theorem desk_sets {H H' : Hp} {a dx sa sd : Addr} {t p q : V} {s s' : Rh12.St} (h : H a = some (.ins CD dx (deskF t p q (.ref sa)))) (hP : Parts CT CS H t p q (.ref sa) s) (hs : H sa = some (.ins CS sd (setF s))) (b : SameBut sa H H') (h' : H' sa = some (.ins CS sd (setF s'))) (e1 : s'.text = s.text) (e2 : s'.ask = s.ask) : DeskAt CT CS CD H' a s' := by
  have n : ∀ {c : Addr} {o : HO}, H c = some o → (∀ C dx fs, o ≠ .ins C dx fs) → H' c = some o := fun {c} {o} e no => b c o (fun z => by subst z; rw [hs] at e; cases e; exact no _ _ _ rfl) e
  obtain ⟨x, xd, ta, tb, tc, td, rfl, hx, ⟨lt, ut, rfl, hlt, hut⟩, ⟨lb, rfl, hlb⟩, ⟨dc, kc, rfl, hdc, hkc⟩, ⟨dd, kd, rfl, hdd, hkd⟩⟩ := hP.text
  obtain ⟨pa, ps, rfl, hpa, hps⟩ := hP.pairs
  obtain ⟨qa, rfl, hqa⟩ := hP.query
  have hxs : x ≠ sa := fun z => by
    subst z
    have := congrArg List.length (ins_len hx hs)
    exact absurd this (by show ¬ (4 : Nat) = 7; decide)
  have has : a ≠ sa := fun z => by
    subst z
    have := congrArg List.length (ins_len h hs)
    exact absurd this (by show ¬ (4 : Nat) = 7; decide)
  refine ⟨dx, _, _, _, _, b _ _ has h, ?_, ?_, ?_, ⟨sa, sd, rfl, h'⟩⟩
  · rw [e1]
    exact ⟨x, xd, _, _, _, _, rfl, b _ _ hxs hx, ⟨lt, ut, rfl, n hlt (by intro _ _ _ z; cases z), hut.mono fun v x ⟨c, e, hc⟩ => ⟨c, e, n hc (by intro _ _ _ z; cases z)⟩⟩, ⟨lb, rfl, n hlb (by intro _ _ _ z; cases z)⟩, ⟨dc, kc, rfl, n hdc (by intro _ _ _ z; cases z), hkc⟩, ⟨dd, kd, rfl, n hdd (by intro _ _ _ z; cases z), hkd⟩⟩
  · rw [e2]
    exact ⟨pa, ps, rfl, n hpa (by intro _ _ _ z; cases z), hps.mono fun v x ⟨c, e, hc⟩ => ⟨c, e, n hc (by intro _ _ _ z; cases z)⟩⟩
  · rw [e2]
    exact ⟨qa, rfl, n hqa (by intro _ _ _ z; cases z)⟩
/- tune -/
def spTune (CR CT CS CD : Addr) : Sp := fun vs H Q E => ∃ a nv s x1 x2 x3 x4 x5, vs = [.ref a, nv] ∧ DeskAt CT CS CD H a s ∧ LstN H nv [x1, x2, x3, x4, x5] ∧ Outs CR CT CS CD H a s (.tune x1 x2 x3 x4 x5) Q E
abbrev sTune : Stmt := meth 41 7
theorem scTune : FnScope ["self", "numbers"] ["self", "numbers"] (defScope sTune) := ⟨rfl, rfl, rfl, by decide +kernel, rfl, by decide +kernel, by decide +kernel⟩
theorem ok_tune (F : Fun K "tune" "Desk.tune" sTune f fd) (B : Blt mg) (C : Cl K mg CT CS CC CD) (ST : MtAt P w K mg base CX0 1 CS "tune" ["self", "numbers"] (spSetTune CS))
    (DM : FnAt P w K mg base (L2.CX P w) 3 "demand" ["is_right", "code"] (spDemand CR)) (kW : KInt mg "WRONG" (-1)) (kS : KInt mg "MOST_SETTING" 100) : FnOk P w K mg base (L2.CX P w) 4 f fd ["self", "numbers"] (spTune CR CT CS CD) := by
  obtain ⟨fT, fdT, GT, mT, bT⟩ := ST.ex
  obtain ⟨fD, fdD, GD, gD, kD, bD⟩ := DM.ex
  refine F.okX scTune (fun vs H Q E h => ?_) (fun cdv A outer s H vs Q E hr h => ⟨_, pss_cons (ps_expr (pe_call GD hr rfl gD kD bD .nil (passes_call (takes_of rfl rfl rfl rfl) (fun _ _ _ _ h => h)) (pa_cons (pe_cmpR op_le (pe_callB (cr_max rfl) (by rfl) B.max (by decide +kernel) (pa_cons (pv 1) pa_nil)) (pe_k kS) (nomark _)) (pa_cons (pe_k kW) pa_nil))))
    (pss_cons (ps_expr (pe_meth (pe_fld (pv 0) rfl) C.st.cl mT GT (hr.mono (by decide)) bT .nil pass0 (pa_cons (pv 1) pa_nil)))
    (pss_one (ps_ret (pe_lst (pa_cons pe_int pa_nil))))), ?_⟩)
  · obtain ⟨a, nv, s, x1, x2, x3, x4, x5, rfl, _⟩ := h; rfl
  obtain ⟨a, nv, s, x1, x2, x3, x4, x5, rfl, ⟨dx, t, p, q, st, ha, hP⟩, ⟨l, rfl, hl⟩, k⟩ := h
  obtain ⟨sa, sd, rfl, hsa⟩ := id hP.sets
  refine ⟨_, rfl, l, Rh12.ints [x1, x2, x3, x4, x5], rfl, SqL.of hl, by show 0 < 5; decide, fun m hm hle => ?_⟩
  refine ⟨_, _, rfl, rfl, _, -1, rfl, fun hb => ?_, fun hb => ?_⟩
  · have hb := of_decide_eq_true hb
    have h1 := hle (x1 : Int) (by simp [Rh12.ints])
    have h2 := hle (x2 : Int) (by simp [Rh12.ints])
    have h3 := hle (x3 : Int) (by simp [Rh12.ints])
    have h4 := hle (x4 : Int) (by simp [Rh12.ints])
    have h5 := hle (x5 : Int) (by simp [Rh12.ints])
    have hst : Rh12.step s (.tune x1 x2 x3 x4 x5) = ({ s with once := x1, each := x2, head := x3, tail := x4, cost := x5 }, [0]) := if_neg (by omega)
    refine ⟨_, rfl, a, CD, dx, _, _, rfl, ha, C.dk.cl, C.dk.no _ (.tail _ (.tail _ (.tail _ (.head _)))), rfl, sa, sd, _, rfl, hsa, rfl, _, rfl, sa, sd, .ref l, s, x1, x2, x3, x4, x5, rfl, hsa, ⟨l, rfl, hl⟩, fun H1 b1 h1 => ?_⟩
    have hD := desk_sets ha hP hsa b1 h1 rfl rfl
    refine ⟨sz1, fun r hr2 => ?_⟩
    have s2 := same_upd (o := .lst [V.int 0]) hr2
    exact k.ok _ _ ((SameL.but b1 hsa).trans (.of s2)) (by rw [hst]; exact hD.stay s2) (by rw [hst]; exact ⟨r, rfl, upd_same⟩) (Fresh.backB b1 h1 ⟨r, rfl, hr2⟩)
  · have hb := of_decide_eq_false hb
    refine k.err _ ?_
    simp [Rh12.ints] at hm
    exact if_pos (by omega)
/- frame -/
def spFrame (CR CT CS CD : Addr) : Sp := fun vs H Q E => ∃ a s x y, vs = [.ref a, .int (x : Nat), .int (y : Nat)] ∧ DeskAt CT CS CD H a s ∧ Outs CR CT CS CD H a s (.frame x y) Q E
abbrev sFrame : Stmt := meth 41 8
theorem scFrame : FnScope ["self", "most", "gap"] ["self", "most", "gap"] (defScope sFrame) := ⟨rfl, rfl, rfl, by decide +kernel, rfl, by decide +kernel, by decide +kernel⟩
theorem ok_frame (F : Fun K "frame" "Desk.frame" sFrame f fd) (C : Cl K mg CT CS CC CD) (ST : MtAt P w K mg base CX0 1 CS "frame" ["self", "most", "gap"] (spSetFrame CS))
    (DM : FnAt P w K mg base (L2.CX P w) 3 "demand" ["is_right", "code"] (spDemand CR)) (kW : KInt mg "WRONG" (-1)) (kF : KInt mg "MOST_FRAME" 20) : FnOk P w K mg base (L2.CX P w) 4 f fd ["self", "most", "gap"] (spFrame CR CT CS CD) := by
  obtain ⟨fT, fdT, GT, mT, bT⟩ := ST.ex
  obtain ⟨fD, fdD, GD, gD, kD, bD⟩ := DM.ex
  refine F.okX scFrame (fun vs H Q E h => ?_) (fun cdv A outer s H vs Q E hr h => ⟨_, pss_cons (ps_expr (pe_call GD hr rfl gD kD bD .nil (passes_call (takes_of rfl rfl rfl rfl) (fun _ _ _ _ h => h)) (pa_cons (pe_and (pe_chain op_le op_le pe_int (pv 1) (pe_k kF)) (pe_one (pe_chain op_le op_le pe_int (pv 2) (pe_k kF)))) (pa_cons (pe_k kW) pa_nil))))
    (pss_cons (ps_expr (pe_meth (pe_fld (pv 0) rfl) C.st.cl mT GT (hr.mono (by decide)) bT .nil pass0 (pa_cons (pv 1) (pa_cons (pv 2) pa_nil))))
    (pss_one (ps_ret (pe_lst (pa_cons pe_int pa_nil))))), ?_⟩)
  · obtain ⟨a, s, x, y, rfl, _⟩ := h; rfl
  obtain ⟨a, s, x, y, rfl, ⟨dx, t, p, q, st, ha, hP⟩, k⟩ := h
  obtain ⟨sa, sd, rfl, hsa⟩ := id hP.sets
  have bad : (x = 0 ∨ 20 < x ∨ y = 0 ∨ 20 < y) → Err CR (-1) H E := fun hbad => k.err _ (if_pos hbad)
  refine ⟨_, rfl, _, _, rfl, rfl, _, rfl, ite2 (fun h1 => ?_) fun h1 => ?_⟩
  · have h1 := of_decide_eq_true h1
    refine ⟨_, _, rfl, rfl, _, rfl, ite2 (fun h2 => ?_) fun h2 => ?_⟩
    · have h2 := of_decide_eq_true h2
      refine ⟨_, rfl, _, _, rfl, rfl, _, rfl, ite2 (fun h3 => ?_) fun h3 => ?_⟩
      · have h3 := of_decide_eq_true h3
        refine ⟨_, _, rfl, rfl, ?_⟩
        by_cases h4 : (y : Int) ≤ 20
        · refine ⟨_, -1, rfl, fun _ => ?_, fun z => absurd h4 (of_decide_eq_false z)⟩
          have hst : Rh12.step s (.frame x y) = ({ s with wide := x, gap := y }, [0]) := if_neg (by omega)
          refine ⟨_, rfl, a, CD, dx, _, _, rfl, ha, C.dk.cl, C.dk.no _ (.tail _ (.tail _ (.tail _ (.head _)))), rfl, sa, sd, _, rfl, hsa, rfl, _, rfl, _, rfl, sa, sd, s, x, y, rfl, hsa, fun H1 b1 h1 => ?_⟩
          have hD := desk_sets ha hP hsa b1 h1 rfl rfl
          refine ⟨sz1, fun r hr2 => ?_⟩
          have s2 := same_upd (o := .lst [V.int 0]) hr2
          exact k.ok _ _ ((SameL.but b1 hsa).trans (.of s2)) (by rw [hst]; exact hD.stay s2) (by rw [hst]; exact ⟨r, rfl, upd_same⟩) (Fresh.backB b1 h1 ⟨r, rfl, hr2⟩)
        · exact ⟨_, -1, rfl, fun z => absurd (of_decide_eq_true z) h4, fun _ => bad (by omega)⟩
      · have h3 : ¬ (1 : Int) ≤ (y : Int) := fun z => h3 (decide_eq_true z)
        exact ⟨false, -1, rfl, (by intro z; cases z), fun _ => bad (by omega)⟩
    · have h2 : ¬ (x : Int) ≤ 20 := fun z => h2 (decide_eq_true z)
      exact ⟨false, -1, rfl, (by intro z; cases z), fun _ => bad (by omega)⟩
  · have h1 : ¬ (1 : Int) ≤ (x : Int) := fun z => h1 (decide_eq_true z)
    exact ⟨_, rfl, iteF ⟨false, -1, rfl, (by intro z; cases z), fun _ => bad (by omega)⟩⟩
/- worth -/
theorem ints_two {i j : Int} : [V.int i, V.int j] = ([i, j] : List Int).map V.int := rfl
def spWorth (CR CT CS CD : Addr) : Sp := fun vs H Q E => ∃ a s x y, vs = [.ref a, .int (x : Nat), .int (y : Nat)] ∧ DeskAt CT CS CD H a s ∧ Ok s ∧ Outs CR CT CS CD H a s (.worth x y) Q E
abbrev sWorth : Stmt := meth 41 9
abbrev nWorth : List Str := ["self", "a", "b", "is_told"]
theorem scWorth : FnScope nWorth ["self", "a", "b"] (defScope sWorth) := ⟨rfl, rfl, rfl, by decide +kernel, rfl, by decide +kernel, by decide +kernel⟩
theorem ok_worth (F : Fun K "worth" "Desk.worth" sWorth f fd) (B : Blt mg) (C : Cl K mg CT CS CC CD) (MM : MtAt P w K mg base CX0 1 CT "many" ["self"] (spMany CT))
    (HW : FnAt P w K mg base CX0 2 "has_word" ["text", "query", "a", "b"] (spHasWord CT)) (SC : FnAt P w K mg base CX0 2 "score_of" ["text", "query", "settings", "a", "b"] (spScore CT CS))
    (DM : FnAt P w K mg base (L2.CX P w) 3 "demand" ["is_right", "code"] (spDemand CR)) (kW : KInt mg "WRONG" (-1)) : FnOk P w K mg base (L2.CX P w) 4 f fd ["self", "a", "b"] (spWorth CR CT CS CD) := by
  obtain ⟨fM, fdM, GM, mM, bM⟩ := MM.ex
  obtain ⟨fW, fdW, GW, gW, kkW, bW⟩ := HW.ex
  obtain ⟨fS, fdS, GS, gS, kS, bS⟩ := SC.ex
  obtain ⟨fD, fdD, GD, gD, kD, bD⟩ := DM.ex
  refine F.okX scWorth (fun vs H Q E h => ?_) (fun cdv A outer s H vs Q E hr h => ⟨_, pss_cons (ps_expr (pe_call GD hr rfl gD kD bD .nil (passes_call (takes_of rfl rfl rfl rfl) (fun _ _ _ _ h => h)) (pa_cons (pe_chain3 op_le op_le op_le pe_int (pv 1) (pv 2) (pe_meth0 (pe_fld (pv 0) rfl) C.tx.cl mM GM (hr.mono (by decide)) bM .nil pass0)) (pa_cons (pe_k kW) pa_nil))))
    (pss_cons (ps_set (i := 3) scWorth.nd rfl (Or.inl rfl) (pe_call GW (hr.mono (by decide)) rfl gW kkW bW .nil pass0 (pa_cons (pe_fld (pv 0) rfl) (pa_cons (pe_fld (pv 0) rfl) (pa_cons (pv 1) (pa_cons (pv 2) pa_nil))))))
    (pss_one (ps_ret (pe_lst (pa_cons (pe_callTy call_int1 (by rfl) B.int (by decide +kernel) (pa_cons (pv 3) pa_nil)) (pa_cons (pe_call GS (hr.mono (by decide)) rfl gS kS bS .nil pass0 (pa_cons (pe_fld (pv 0) rfl) (pa_cons (pe_fld (pv 0) rfl) (pa_cons (pe_fld (pv 0) rfl) (pa_cons (pv 1) (pa_cons (pv 2) pa_nil)))))) pa_nil)))))), ?_⟩)
  · obtain ⟨a, s, x, y, rfl, _⟩ := h; rfl
  obtain ⟨a, s, x, y, rfl, ⟨dx, t, p, q, st, ha, hP⟩, ok, k⟩ := h
  obtain ⟨xa, xd, ta, tb, tc, td, rfl, hxa, _⟩ := id hP.text
  have hpass : Rh12.isPassage s x y = decide (1 ≤ x ∧ x ≤ y ∧ y ≤ (Rh12.flat s).length) := by
    unfold Rh12.isPassage
    rw [← Bool.decide_and, ← Bool.decide_and]
  have bad : ∀ H1, Same H H1 → ¬ (1 ≤ x ∧ x ≤ y ∧ y ≤ (Rh12.flat s).length) → Err CR (-1) H1 E := fun H1 s1 hbad => Err.same s1 (k.err _ (by
    show (s, if Rh12.isPassage s x y = false then _ else _) = _
    rw [if_pos (by rw [hpass]; exact decide_eq_false hbad)]))
  refine ⟨_, rfl, _, _, rfl, rfl, _, rfl, ite2 (fun h1 => ?_) fun h1 => ?_⟩
  · have h1 := of_decide_eq_true h1
    refine ⟨_, rfl, _, _, rfl, rfl, _, rfl, ite2 (fun h2 => ?_) fun h2 => ?_⟩
    · have h2 := of_decide_eq_true h2
      refine ⟨_, rfl, a, CD, dx, _, _, rfl, ha, C.dk.cl, C.dk.no _ (.head _), rfl, xa, xd, _, rfl, hxa, rfl, .ref xa, s.text, rfl, hP.text, fun H1 s1 => ?_⟩
      refine ⟨_, _, rfl, rfl, ?_⟩
      have elen : s.text.flatten.length = (Rh12.flat s).length := rfl
      by_cases h3 : y ≤ (Rh12.flat s).length
      · refine ⟨_, -1, rfl, fun _ => ?_, fun z => absurd (show (y : Int) ≤ (s.text.flatten.length : Nat) by omega) (of_decide_eq_false z)⟩
        have hst : Rh12.step s (.worth x y) = (s, [(if Rh12.hit s x y = true then 1 else 0), Rh12.worth s x y]) := by
          show (s, if Rh12.isPassage s x y = false then _ else _) = _
          rw [if_neg (by rw [hpass, decide_eq_true (by omega)]; decide)]
        have ha1 := s1 _ _ ha
        have hP1 := hP.stay s1
        refine ⟨_, rfl, a, CD, dx, _, _, rfl, ha1, C.dk.cl, C.dk.no _ (.head _), rfl, _, rfl, a, CD, dx, _, _, rfl, ha1, C.dk.cl, C.dk.no _ (.tail _ (.tail _ (.head _))), rfl, _, rfl, _, rfl, .ref xa, q, s, x, y, rfl, hP1.text, hP1.query, ok, by omega, fun H2 s2 => ?_⟩
        have s12 := s1.trans s2
        have ha2 := s12 _ _ ha
        have hP2 := hP.stay s12
        refine ⟨_, rfl, .inr ⟨_, rfl, _, rfl, a, CD, dx, _, _, rfl, ha2, C.dk.cl, C.dk.no _ (.head _), rfl, _, rfl, a, CD, dx, _, _, rfl, ha2, C.dk.cl, C.dk.no _ (.tail _ (.tail _ (.head _))), rfl, _, rfl, a, CD, dx, _, _, rfl, ha2, C.dk.cl, C.dk.no _ (.tail _ (.tail _ (.tail _ (.head _)))), rfl, _, rfl, _, rfl, .ref xa, q, st, s, x, y, rfl, ⟨hP2.text, hP2.query, hP2.sets⟩, ok, by omega, by omega, h3, fun H3 s3 => ⟨sz2, fun l hl => ?_⟩⟩⟩
        have s4 := same_upd (o := .lst [V.int (if Rh12.hit s x y = true then 1 else 0), V.int (Rh12.worth s x y)]) hl
        have sA := s12.trans (s3.trans s4)
        exact k.ok _ _ (.of sA) (by rw [hst]; exact DeskAt.stay sA ⟨dx, _, p, q, st, ha, hP⟩) (by rw [hst]; exact ⟨l, rfl, upd_same⟩) ⟨l, rfl, (s12.trans s3).free hl⟩
      · exact ⟨_, -1, rfl, fun z => absurd (of_decide_eq_true z) (show ¬ (y : Int) ≤ (s.text.flatten.length : Nat) by omega), fun _ => bad H1 s1 (by omega)⟩
    · have h2 : ¬ (x : Int) ≤ (y : Int) := fun z => h2 (decide_eq_true z)
      exact ⟨false, -1, rfl, (by intro z; cases z), fun _ => bad H (Same.refl H) (by omega)⟩
  · have h1 : ¬ (1 : Int) ≤ (x : Int) := fun z => h1 (decide_eq_true z)
    exact ⟨false, -1, rfl, (by intro z; cases z), fun _ => bad H (Same.refl H) (by omega)⟩
/- passages -/
def spPassages (CT CS CD : Addr) : Sp := fun vs H Q _ => ∃ a s, vs = [.ref a] ∧ DeskAt CT CS CD H a s ∧ Ok s ∧ New (ListOf TripAt) (TpM.trips s) H Q
abbrev sPassages : Stmt := meth 41 10
theorem scPassages : FnScope ["self"] ["self"] (defScope sPassages) := ⟨rfl, rfl, rfl, by decide +kernel, rfl, by decide +kernel, by decide +kernel⟩
theorem ok_passages (F : Fun K "passages" "Desk.passages" sPassages f fd) (C : Cl K mg CT CS CC CD) (EL : FnAt P w K mg base CX0 3 "eligible" ["text", "query", "settings"] (spEligible CT CS)) : FnOk P w K mg base CX0 4 f fd ["self"] (spPassages CT CS CD) := by
  obtain ⟨fE, fdE, GE, gE, kE, bE⟩ := EL.ex
  refine F.ok scPassages (fun vs H Q E h => ?_) (fun cdv A outer s H vs Q E hr h => ⟨_, pss_one (ps_ret (pe_call GE hr rfl gE kE bE .nil pass0 (pa_cons (pe_fld (pv 0) rfl) (pa_cons (pe_fld (pv 0) rfl) (pa_cons (pe_fld (pv 0) rfl) pa_nil))))), ?_⟩)
  · obtain ⟨a, s, rfl, _⟩ := h; rfl
  obtain ⟨a, s, rfl, ⟨dx, t, p, q, st, ha, hP⟩, ok, k⟩ := h
  exact ⟨_, rfl, a, CD, dx, _, _, rfl, ha, C.dk.cl, C.dk.no _ (.head _), rfl, _, rfl, a, CD, dx, _, _, rfl, ha, C.dk.cl, C.dk.no _ (.tail _ (.tail _ (.head _))), rfl, _, rfl, a, CD, dx, _, _, rfl, ha, C.dk.cl, C.dk.no _ (.tail _ (.tail _ (.tail _ (.head _)))), rfl, t, q, st, s, rfl, ⟨hP.text, hP.query, hP.sets⟩, ok, fun H1 v s1 r => k H1 v s1 r⟩
/- selection -/
theorem trips_len {s : Rh12.St} (ok : Ok s) : (TpM.trips s).length ≤ 1200 := by
  unfold TpM.trips
  rw [List.length_map, TpM.all_allN]
  have h1 := TpM.allN_len s (Rh12.flat s).length
  have h2 : (Rh12.flat s).length * s.wide ≤ 60 * 20 := Nat.mul_le_mul ok.len.1 ok.wide2
  omega
theorem trips_first {s : Rh12.St} : ∀ t ∈ TpM.trips s, t.1 < (Rh12.flat s).length + 2 := by
  intro t ht
  unfold TpM.trips at ht
  obtain ⟨x, hx, rfl⟩ := List.mem_map.mp ht
  rw [TpM.all_allN] at hx
  have := (TpM.allN_mem hx).2.1
  show x.1 < _
  omega
def spSelection (CR CT CS CC CD : Addr) : Sp := fun vs H Q E => ∃ a s k, vs = [.ref a, .int (k : Nat)] ∧ DeskAt CT CS CD H a s ∧ Ok s ∧ ((k = 0 ∨ 6 < k) → Err CR (-1) H E) ∧ (¬ (k = 0 ∨ 6 < k) → New (SelAt CC) (TpM.bestSel (TpM.trips s) (Rh12.flat s).length s.gap k) H Q)
abbrev sSelection : Stmt := meth 41 11
theorem scSelection : FnScope ["self", "k"] ["self", "k"] (defScope sSelection) := ⟨rfl, rfl, rfl, by decide +kernel, rfl, by decide +kernel, by decide +kernel⟩
theorem ok_selection (F : Fun K "selection" "Desk.selection" sSelection f fd) (C : Cl K mg CT CS CC CD) (MM : MtAt P w K mg base CX0 1 CT "many" ["self"] (spMany CT)) (PA_ : MtAt P w K mg base CX0 4 CD "passages" ["self"] (spPassages CT CS CD))
    (BS : FnAt P w K mg base CX0 5 "best_selection" ["passages", "many", "gap", "k"] (spBest CC)) (DM : FnAt P w K mg base (L2.CX P w) 3 "demand" ["is_right", "code"] (spDemand CR)) (kW : KInt mg "WRONG" (-1)) (kP : KInt mg "MOST_PASSAGES" 6) :
    FnOk P w K mg base (L2.CX P w) 6 f fd ["self", "k"] (spSelection CR CT CS CC CD) := by
  obtain ⟨fM, fdM, GM, mM, bM⟩ := MM.ex
  obtain ⟨fP, fdP, GP, mP, bP⟩ := PA_.ex
  obtain ⟨fB, fdB, GB, gB, kB, bB⟩ := BS.ex
  obtain ⟨fD, fdD, GD, gD, kD, bD⟩ := DM.ex
  refine F.okX scSelection (fun vs H Q E h => ?_) (fun cdv A outer s H vs Q E hr h => ⟨_, pss_cons (ps_expr (pe_call GD (hr.mono (by decide)) rfl gD kD bD .nil (passes_call (takes_of rfl rfl rfl rfl) (fun _ _ _ _ h => h)) (pa_cons (pe_chain op_le op_le pe_int (pv 1) (pe_k kP)) (pa_cons (pe_k kW) pa_nil))))
    (pss_one (ps_ret (pe_call GB hr rfl gB kB bB .nil pass0 (pa_cons (pe_meth0 (pv 0) C.dk.cl mP GP (hr.mono (by decide)) bP .nil pass0) (pa_cons (pe_meth0 (pe_fld (pv 0) rfl) C.tx.cl mM GM (hr.mono (by decide)) bM .nil pass0) (pa_cons (pe_fld (pe_fld (pv 0) rfl) rfl) (pa_cons (pv 1) pa_nil))))))), ?_⟩)
  · obtain ⟨a, s, kk, rfl, _⟩ := h; rfl
  obtain ⟨a, s, kk, rfl, hD, ok, k1, k2⟩ := h
  obtain ⟨dx, t, p, q, st, ha, hP⟩ := id hD
  obtain ⟨xa, xd, ta, tb, tc, td, rfl, hxa, _⟩ := id hP.text
  obtain ⟨sa, sd, rfl, hsa⟩ := id hP.sets
  refine ⟨_, rfl, _, _, rfl, rfl, _, rfl, ite2 (fun h1 => ?_) fun h1 => ?_⟩
  · have h1 := of_decide_eq_true h1
    refine ⟨_, _, rfl, rfl, ?_⟩
    by_cases h2 : (kk : Int) ≤ 6
    · refine ⟨_, -1, rfl, fun _ => ?_, fun z => absurd h2 (of_decide_eq_false z)⟩
      refine ⟨_, rfl, a, dx, _, rfl, ha, rfl, a, s, rfl, hD, ok, fun H1 v1 s1 r1 => ?_⟩
      refine ⟨_, rfl, a, CD, dx, _, _, rfl, s1 _ _ ha, C.dk.cl, C.dk.no _ (.head _), rfl, xa, xd, _, rfl, s1 _ _ hxa, rfl, .ref xa, s.text, rfl, TextAt.stays _ _ _ _ s1 hP.text, fun H2 s2 => ?_⟩
      have s12 := s1.trans s2
      refine ⟨_, rfl, a, CD, dx, _, _, rfl, s12 _ _ ha, C.dk.cl, C.dk.no _ (.tail _ (.tail _ (.tail _ (.head _)))), rfl, sa, CS, sd, _, _, rfl, s12 _ _ hsa, C.st.cl, C.st.no _ (.tail _ (.tail _ (.tail _ (.tail _ (.tail _ (.tail _ (.head _))))))), rfl, _, rfl, v1, (Rh12.flat s).length, s.gap, kk, TpM.trips s, rfl, ListOf.stays TripAt.stays _ _ _ _ s2 r1, by have := ok.len.1; omega, by have := ok.gap2; omega, by omega, by have := trips_len ok; omega, trips_first, fun H3 v3 s3 r3 => ?_⟩
      exact k2 (by omega) H3 v3 (s12.trans s3) r3
    · exact ⟨_, -1, rfl, fun z => absurd (of_decide_eq_true z) h2, fun _ => k1 (by omega)⟩
  · have h1 : ¬ (1 : Int) ≤ (kk : Int) := fun z => h1 (decide_eq_true z)
    exact ⟨false, -1, rfl, (by intro z; cases z), fun _ => k1 (by omega)⟩
end
end Tp

namespace Tp
open PySem PySem.Spec PyProof.Rows L2
open TpM (Pas Trip Sel)
theorem IntsAt.stays : Stays IntsAt := fun _ _ _ _ s ⟨a, e, h⟩ => ⟨a, e, s _ _ h⟩
def pairNs (l : List Pas) : List Nat := l.flatMap fun x => [x.1, x.2]
theorem pairNs_take {l : List Pas} {i : Nat} {x : Pas} (h : l[i]? = some x) : pairNs (l.take (i + 1)) = pairNs (l.take i) ++ [x.1, x.2] := by
  unfold pairNs
  rw [take_more h, List.flatMap_append]
  simp
theorem pairNs_len : ∀ l : List Pas, (pairNs l).length = 2 * l.length
  | [] => rfl
  | x :: l => by
    have := pairNs_len l
    unfold pairNs at this ⊢
    rw [List.flatMap_cons, List.length_append, this, List.length_cons]
    simp; omega
theorem best_len {s : Rh12.St} (k : Nat) : (Rh12.best s k).row.length ≤ k := by
  rw [← TpM.best_row]
  unfold TpM.bestSel
  exact TpM.getD_len fun c hc => TpM.rowK_chosen k c hc
section
variable {P : Program} {w : World} {K : PySem.W.Frag} {mg : Str → Option Value} {base : Heap} {f : Addr} {fd : FuncData} {CR CT CS CC CD : Addr}
def spBestK (CR CT CS CD : Addr) : Sp := fun vs H Q E => ∃ a s k, vs = [.ref a, .int (k : Nat)] ∧ DeskAt CT CS CD H a s ∧ Ok s ∧ Outs CR CT CS CD H a s (.best k) Q E
abbrev sBestK : Stmt := meth 41 12
abbrev nBestK : List Str := ["self", "k", "selection", "found", "passage"]
theorem scBestK : FnScope nBestK ["self", "k"] (defScope sBestK) := ⟨rfl, rfl, rfl, by decide +kernel, rfl, by decide +kernel, by decide +kernel⟩
theorem ok_bestK (F : Fun K "best" "Desk.best" sBestK f fd) (B : Blt mg) (C : Cl K mg CT CS CC CD) (SE : MtAt P w K mg base (L2.CX P w) 6 CD "selection" ["self", "k"] (spSelection CR CT CS CC CD)) : FnOk P w K mg base (L2.CX P w) 7 f fd ["self", "k"] (spBestK CR CT CS CD) := by
  obtain ⟨fS, fdS, GS, mS, bS⟩ := SE.ex
  refine F.okX scBestK (fun vs H Q E h => ?_) (fun cdv A outer s H vs Q E hr h => ⟨_, pss_cons (ps_set (i := 2) scBestK.nd rfl (Or.inl rfl) (pe_meth (pv 0) C.dk.cl mS GS hr bS .nil (passes_call (takes_of rfl rfl rfl rfl) (fun _ _ _ _ h => h)) (pa_cons (pv 1) pa_nil)))
    (PSs.nox (pss_cons (ps_set (i := 3) scBestK.nd rfl (Or.inl rfl) (pe_lst (pa_cons (pe_callB call_len_seq (by rfl) B.len PySem.boot_len (pa_cons (pe_fld (pv 2) rfl) pa_nil)) pa_nil)))
    (pss_cons (ps_for PassesOwn.never rfl (pi_list (pe_fld (pv 2) rfl)) (pg_name (i := 4) scBestK.nd rfl (Or.inl rfl))
      (pss_one (ps_expr (pe_bm PySem.F.plainAttrs_list PySem.F.slot_list_extend PySem.F.type_list_extend mt_extendT (pv 3) (pa_cons (pv 4) pa_nil)))))
    (pss_one (ps_ret (pe_op op_cat (pv 3) (pe_lst (pa_cons (pe_fld (pv 2) rfl) pa_nil)))))))), ?_⟩)
  · obtain ⟨a, s, k, rfl, _⟩ := h; rfl
  obtain ⟨a, s, kk, rfl, hD, ok, k⟩ := h
  obtain ⟨dx, t, p, q, st, ha, hP⟩ := id hD
  refine ⟨_, rfl, a, dx, _, rfl, ha, rfl, _, rfl, a, s, kk, rfl, hD, ok, fun hb => k.err _ ?_, fun hb => ?_⟩
  · show (s, if kk = 0 ∨ 6 < kk then _ else _) = _
    rw [if_pos hb]
  rintro H1 _ s1 ⟨x, xd, cv, rfl, hx, ⟨la, us, rfl, hla, hus⟩⟩
  have hst : Rh12.step s (.best kk) = (s, Rh12.passages (Rh12.best s kk).row ++ [(Rh12.best s kk).worth]) := by
    show (s, if kk = 0 ∨ 6 < kk then _ else _) = _
    rw [if_neg hb]
  rw [TpM.best_row] at hus
  have hlen := best_len (s := s) kk
  have hx : H1 x = some (.ins CC xd (selF ((Rh12.best s kk).worth, []) (.ref la))) := by
    rw [hx]
    show some (HO.ins CC xd [(_, V.int _), _]) = _
    rw [TpM.best_worth]
    rfl
  refine ⟨_, rfl, x, CC, xd, _, _, rfl, hx, C.se.cl, C.se.no _ (.tail _ (.head _)), rfl, la, us, rfl, .inl (SqL.of hla), sz1, fun l hl => ?_⟩
  have s2 := same_upd (o := .lst [V.int (us.length : Nat)]) hl
  have s12 := s1.trans s2
  refine ⟨_, rfl, x, CC, xd, _, _, rfl, s2 _ _ hx, C.se.cl, C.se.no _ (.tail _ (.head _)), rfl, la, rfl, ⟨us, SqL.of (s2 _ _ hla)⟩, for_list (K := K) (a := la) (xs := us) (fun i σ H' => ∃ vn, σ = [some (.ref a), some (.int (kk : Nat)), some (.ref x), some (.ref l), vn] ∧ Same H1 H' ∧ H' l = some (.lst (.int ((Rh12.best s kk).row.length : Nat) :: nVs (pairNs ((Rh12.best s kk).row.take i)))))
    ⟨none, rfl, s2, by rw [upd_same, hus.len]; rfl⟩ (fun i σ H' _ ⟨_, _, s3, _⟩ => SqL.of (s3 _ _ hla)) ?_ ?_⟩
  · rintro i y σ H2 hi ⟨vn, rfl, s3, hl2⟩
    obtain ⟨u, hu, b, rfl, hb⟩ := hus.get hi
    refine ⟨_, rfl, .inl ⟨rfl, _, SqL.of hl2⟩, _, rfl, l, b, _, _, rfl, rfl, hl2, SqT.of (s3 _ _ hb), ?_, _, rfl, same_snoc hl s3, ?_⟩
    · rw [List.length_cons, nVs_len, pairNs_len, List.length_take]
      exact line_ok (by show _ + 2 ≤ _; omega)
    · rw [upd_same, pairNs_take hu, nVs_app]
      rfl
  · rintro σ H2 ⟨vn, rfl, s3, hl2⟩
    rw [hus.len, List.take_length] at hl2
    refine ⟨_, rfl, _, rfl, x, CC, xd, _, _, rfl, s3 _ _ hx, C.se.cl, C.se.no _ (.head _), rfl, sz1, fun r hr2 => ?_⟩
    have s4 := same_upd (o := .lst [V.int (Rh12.best s kk).worth]) hr2
    refine ⟨l, r, _, _, rfl, rfl, s4 _ _ hl2, upd_same, ?_, fun z hz => ?_⟩
    · rw [List.length_cons, nVs_len, pairNs_len]
      exact line_ok (by show _ + 1 ≤ _; omega)
    have s5 := same_upd (o := .lst (V.int ((Rh12.best s kk).row.length : Nat) :: nVs (pairNs (Rh12.best s kk).row) ++ [V.int (Rh12.best s kk).worth])) hz
    have sA := s1.trans (s3.trans (s4.trans s5))
    refine k.ok _ _ (.of sA) (by rw [hst]; exact hD.stay sA) ?_ ⟨z, rfl, (s1.trans (s3.trans s4)).free hz⟩
    rw [hst]
    refine ⟨z, rfl, ?_⟩
    rw [upd_same]
    show _ = some (HO.lst (List.map V.int (((_ : Int) :: Rh12.ints _) ++ [_])))
    rw [List.map_append, List.map_cons]
    rfl
/- narrow -/
def spNarrowD (CR CT CS CD : Addr) : Sp := fun vs H Q E => ∃ a s, vs = [.ref a] ∧ DeskAt CT CS CD H a s ∧ Ok s ∧ Outs CR CT CS CD H a s .narrow Q E
abbrev sNarrowD : Stmt := meth 41 14
theorem scNarrowD : FnScope ["self", "wanted"] ["self"] (defScope sNarrowD) := ⟨rfl, rfl, rfl, by decide +kernel, rfl, by decide +kernel, by decide +kernel⟩
theorem ok_narrowD (F : Fun K "narrow" "Desk.narrow" sNarrowD f fd) (C : Cl K mg CT CS CC CD) (WA : MtAt P w K mg base CX0 1 CD "wanted" ["self"] (spWanted CT CS CD)) (NA : FnAt P w K mg base CX0 2 "narrowest" ["text", "wanted"] (spNarrow CT))
    (DM : FnAt P w K mg base (L2.CX P w) 3 "demand" ["is_right", "code"] (spDemand CR)) (kN : KInt mg "NO_WORD" (-3)) : FnOk P w K mg base (L2.CX P w) 4 f fd ["self"] (spNarrowD CR CT CS CD) := by
  obtain ⟨fW, fdW, GW, mW, bW⟩ := WA.ex
  obtain ⟨fN, fdN, GN, gN, kkN, bN⟩ := NA.ex
  obtain ⟨fD, fdD, GD, gD, kD, bD⟩ := DM.ex
  refine F.okX scNarrowD (fun vs H Q E h => ?_) (fun cdv A outer s H vs Q E hr h => ⟨_, pss_cons (ps_set (i := 1) scNarrowD.nd rfl (Or.inl rfl) (pe_meth0 (pv 0) C.dk.cl mW GW (hr.mono (by decide)) bW .nil pass0))
    (pss_cons (ps_expr (pe_call GD hr rfl gD kD bD .nil (passes_call (takes_of rfl rfl rfl rfl) (fun _ _ _ _ h => h)) (pa_cons (pe_cmpR (op_neD hr.units) (pv 1) (pe_lst pa_nil) (nomark _)) (pa_cons (pe_k kN) pa_nil))))
    (pss_one (ps_ret (pe_call GN (hr.mono (by decide)) rfl gN kkN bN .nil pass0 (pa_cons (pe_fld (pv 0) rfl) (pa_cons (pv 1) pa_nil)))))), ?_⟩)
  · obtain ⟨a, s, rfl, _⟩ := h; rfl
  obtain ⟨a, s, rfl, hD, ok, k⟩ := h
  obtain ⟨dx, t, p, q, st, ha, hP⟩ := id hD
  refine ⟨_, rfl, a, dx, _, rfl, ha, rfl, a, s, rfl, hD, Nat.le_trans (TpM.isAsk_len ok.ask) (by decide), fun H1 v1 s1 ⟨wl, ew, hwl⟩ => ?_⟩
  subst ew
  refine ⟨_, rfl, Nat.zero_le _, fun l hl => ⟨natD (Rh12.wanted s), natD [], dp_nat (SqL.of (same_upd hl _ _ hwl)), dp_nat (SqL.of upd_same), shaped_nat _, shaped_nat _, ?_⟩⟩
  have s2 := same_upd (o := .lst []) hl
  have s12 := s1.trans s2
  rw [eqv_nat]
  refine ⟨_, -3, rfl, fun hb => ?_, fun hb => ?_⟩
  · have hne : Rh12.wanted s ≠ [] := fun z => by rw [z] at hb; exact absurd hb (by decide)
    refine ⟨_, rfl, a, CD, dx, _, _, rfl, s12 _ _ ha, C.dk.cl, C.dk.no _ (.head _), rfl, _, rfl, t, .ref wl, s, rfl, TextAt.stays _ _ _ _ s12 hP.text, ⟨wl, rfl, s2 _ _ hwl⟩, ok, ?_, fun x hx H3 v3 s3 r3 f3 => ?_⟩
    · cases e : Rh12.wanted s with
      | nil => exact absurd e hne
      | cons _ _ => rfl
    have hst : Rh12.step s .narrow = (s, Rh12.ints [x.1, x.2]) := by
      show (s, match Rh12.narrow s with | none => _ | some x => _) = _
      rw [hx]
    exact k.ok H3 v3 (.of (s12.trans s3)) (by rw [hst]; exact hD.stay (s12.trans s3)) (by rw [hst]; exact r3) (Fresh.back s12 f3)
  · have he : Rh12.wanted s = [] := by
      cases e : Rh12.wanted s with
      | nil => rfl
      | cons u l => rw [e] at hb; exact absurd hb (by simp)
    refine Err.same s12 (k.err _ ?_)
    show (s, match Rh12.narrow s with | none => _ | some x => _) = _
    have : Rh12.narrow s = none := by
      unfold Rh12.narrow
      rw [he]
      rfl
    rw [this]
/- fewest -/
def spFewestD (CT CS CD : Addr) : Sp := fun vs H Q _ => ∃ a s, vs = [.ref a] ∧ DeskAt CT CS CD H a s ∧ Ok s ∧ (Rh12.fewest s).length ≤ 1000 ∧ NewF LstN ((Rh12.fewest s).length :: Rh12.fewest s) H Q
abbrev sFewestD : Stmt := meth 41 15
theorem scFewestD : FnScope ["self", "found"] ["self"] (defScope sFewestD) := ⟨rfl, rfl, rfl, by decide +kernel, rfl, by decide +kernel, by decide +kernel⟩
theorem ok_fewestD (F : Fun K "fewest" "Desk.fewest" sFewestD f fd) (B : Blt mg) (C : Cl K mg CT CS CC CD) (WA : MtAt P w K mg base CX0 1 CD "wanted" ["self"] (spWanted CT CS CD)) (FE : FnAt P w K mg base CX0 3 "fewest_sentences" ["text", "wanted"] (spFewest CT)) : FnOk P w K mg base CX0 4 f fd ["self"] (spFewestD CT CS CD) := by
  obtain ⟨fW, fdW, GW, mW, bW⟩ := WA.ex
  obtain ⟨fN, fdN, GN, gN, kkN, bN⟩ := FE.ex
  refine F.ok scFewestD (fun vs H Q E h => ?_) (fun cdv A outer s H vs Q E hr h => ⟨_, pss_cons (ps_set (i := 1) scFewestD.nd rfl (Or.inl rfl) (pe_call GN hr rfl gN kkN bN .nil pass0 (pa_cons (pe_fld (pv 0) rfl) (pa_cons (pe_meth0 (pv 0) C.dk.cl mW GW (hr.mono (by decide)) bW .nil pass0) pa_nil))))
    (pss_one (ps_ret (pe_op op_cat (pe_lst (pa_cons (pe_callB call_len_seq (by rfl) B.len PySem.boot_len (pa_cons (pv 1) pa_nil)) pa_nil)) (pv 1)))), ?_⟩)
  · obtain ⟨a, s, rfl, _⟩ := h; rfl
  obtain ⟨a, s, rfl, hD, ok, hfl, k⟩ := h
  obtain ⟨dx, t, p, q, st, ha, hP⟩ := id hD
  refine ⟨_, rfl, a, CD, dx, _, _, rfl, ha, C.dk.cl, C.dk.no _ (.head _), rfl, _, rfl, a, dx, _, rfl, ha, rfl, a, s, rfl, hD, Nat.le_trans (TpM.isAsk_len ok.ask) (by decide), fun H1 v1 s1 r1 => ?_⟩
  refine ⟨t, v1, s, rfl, TextAt.stays _ _ _ _ s1 hP.text, r1, ok, fun H2 v2 s2 ⟨l2, e2, h2⟩ => ?_⟩
  subst e2
  refine ⟨_, rfl, l2, _, rfl, .inl (SqL.of h2), sz1, fun l hl => ?_⟩
  have s3 := same_upd (o := .lst [V.int ((nVs (Rh12.fewest s)).length : Nat)]) hl
  refine ⟨_, rfl, l, l2, _, _, rfl, rfl, upd_same, s3 _ _ h2, ?_, fun r hr2 => ?_⟩
  · rw [nVs_len]; exact line_ok (by show 1 + _ ≤ _; omega)
  · refine k _ _ (s1.trans (s2.trans (s3.trans (same_upd hr2)))) ⟨r, rfl, ?_⟩ ⟨r, rfl, (s1.trans (s2.trans s3)).free hr2⟩
    rw [upd_same, nVs_len]
    rfl
/- display -/
theorem shownWord_int (s : Rh12.St) (w : Nat) : (2 * (w : Int) + (if decide (0 < Rh12.weight s w) = true then 1 else 0)) = ((Rh12.shownWord s w : Nat) : Int) := by
  unfold Rh12.shownWord
  by_cases c : 0 < Rh12.weight s w
  · rw [if_pos c, if_pos (decide_eq_true c)]; omega
  · rw [if_neg c, if_neg (by simpa using c)]; omega
def spDisplay (CT CS CD : Addr) : Sp := fun vs H Q _ => ∃ d s x, vs = [.ref d, .int (x.1 : Nat), .int (x.2 : Nat)] ∧ DeskAt CT CS CD H d s ∧ Ok s ∧ 1 ≤ x.1 ∧ New LstN (Rh12.shownPart s x) H Q
abbrev sDisplay : Stmt := meth 41 16
abbrev nDisplay : List Str := ["self", "a", "b", "found", "word"]
theorem scDisplay : FnScope nDisplay ["self", "a", "b"] (defScope sDisplay) := ⟨rfl, rfl, rfl, by decide +kernel, rfl, by decide +kernel, by decide +kernel⟩
theorem ok_display (F : Fun K "display" "Desk.display" sDisplay f fd) (B : Blt mg) (C : Cl K mg CT CS CC CD) (MP : MtAt P w K mg base CX0 1 CT "part" ["self", "a", "b"] (spPart CT)) : FnOk P w K mg base CX0 2 f fd ["self", "a", "b"] (spDisplay CT CS CD) := by
  obtain ⟨fP, fdP, GP, mP, bP⟩ := MP.ex
  refine F.ok scDisplay (fun vs H Q E h => ?_) (fun cdv A outer s H vs Q E hr h => ⟨_, pss_cons (ps_set (i := 3) scDisplay.nd rfl (Or.inl rfl) (pe_ifExp (pt_cmp (pc_din (hu_of hr) (pv 1) (pe_fld (pe_fld (pv 0) rfl) rfl))) (pe_lst pa_nil) (pe_lst (pa_cons pe_int pa_nil))))
    (pss_cons (ps_expr (pe_bm PySem.F.plainAttrs_list PySem.F.slot_list_extend PySem.F.type_list_extend mt_extend (pv 3) (pa_cons (pe_lc (own := [("word", 4)]) (g := gName 4) (tt := tYes) rfl scDisplay.nd
        (pi_list (pe_meth (pe_fld (pv 0) rfl) C.tx.cl mP GP hr bP .nil pass0 (pa_cons (pv 1) (pa_cons (pv 2) pa_nil)))) (blkOk_by (N := nDisplay) (sc := defScope sDisplay) (by decide +kernel)) (fun _ _ _ _ _ => pg_name (i := 4) scDisplay.nd rfl (Or.inl rfl)) (fun _ _ _ _ _ => pts_nil)
        (fun _ _ _ _ _ => pe_op op_add (pe_op op_mul pe_int (pv 4)) (pe_callTy call_int1 (by rfl) B.int (by decide +kernel) (pa_cons (pe_cmp (pc_din (td := tFld K (tVar 0) "query") (hu_of hr) (pv 4) (by exact pe_fld (pv 0) rfl)) rfl) pa_nil)))) pa_nil)))
    (pss_one (ps_ret (pe_ifExp (pt_cmp (pc_din (hu_of hr) (pv 2) (pe_fld (pe_fld (pv 0) rfl) rfl))) (pv 3) (pe_op op_cat (pv 3) (pe_lst (pa_cons pe_int pa_nil))))))), ?_⟩)
  · obtain ⟨d, s, x, rfl, _⟩ := h; rfl
  obtain ⟨d, s, x, rfl, hD, ok, h1, k⟩ := h
  obtain ⟨dx, t, p, q, st, ha, hP⟩ := id hD
  obtain ⟨xa, xd, ta, tb, tc, td, rfl, hxa, _, _, ⟨dc, kc, rfl, hdc, hkc⟩, ⟨dd, kd, rfl, hdd, hkd⟩⟩ := id hP.text
  obtain ⟨qa, rfl, hqa⟩ := id hP.query
  refine ⟨_, rfl, _, rfl, d, CD, dx, _, _, rfl, ha, C.dk.cl, C.dk.no _ (.head _), rfl, xa, CT, xd, _, _, rfl, hxa, C.tx.cl, C.tx.no _ (.tail _ (.tail _ (.head _))), rfl, dc, _, rfl, DGet.any (n := x.1) (.inl hdc), _, rfl, ?_⟩
  cases c1 : (Rh12.firsts 1 s.text).contains x.1 with
  | true =>
    refine if_true_of ((hkc x.1).trans c1) ⟨Nat.zero_le _, fun l hl => ?_⟩
    have s1 := same_upd (o := .lst []) hl
    have hl1 : (upd H l (.lst [])) l = some (.lst (nVs [])) := upd_same
    generalize upd H l (.lst []) = H1 at s1 hl1 ⊢
    have s12 := s1
    refine ⟨_, rfl, .inl ⟨rfl, _, SqL.of hl1⟩, _, rfl, d, CD, dx, _, _, rfl, s1 _ _ ha, C.dk.cl, C.dk.no _ (.head _), rfl, xa, xd, _, rfl, s1 _ _ hxa, rfl, _, rfl, _, rfl, .ref xa, s.text, x.1, x.2, rfl, TextAt.stays _ _ _ _ s1 hP.text, h1, Nat.le_trans ok.len.1 (by decide), fun H2 v2 s2 ⟨wl, ew, hwl⟩ => ?_⟩
    subst ew
    have hwl : H2 wl = some (.lst (nVs (Rh12.part s x.1 x.2))) := hwl
    have hpl : (Rh12.part s x.1 x.2).length ≤ 60 := Nat.le_trans TpM.part_len_le ok.len.1
    refine ⟨wl, rfl, ⟨_, SqL.of hwl⟩, fun D hDn => lc_list (K := K) (a := wl) (xs := nVs (Rh12.part s x.1 x.2)) (fun i H' => Same H2 H' ∧ H' D = some (.lst (nVs (((Rh12.part s x.1 x.2).take i).map (Rh12.shownWord s)))))
      ⟨same_upd hDn, upd_same⟩ (fun i H' _ ⟨s3, _⟩ => SqL.of (s3 _ _ hwl)) ?_ ?_⟩
    · rintro i y H3 hi ⟨s3, hd3⟩
      obtain ⟨n, hn, rfl⟩ := nVs_get hi
      have s13 := s1.trans (s2.trans s3)
      refine ⟨rfl, _, rfl, _, _, rfl, rfl, .inl ⟨by decide, by decide⟩, _, rfl, _, rfl, d, CD, dx, _, _, rfl, s13 _ _ ha, C.dk.cl, C.dk.no _ (.tail _ (.tail _ (.head _))), rfl, qa, _, rfl, DGet.any (n := n) (.inl (s13 _ _ hqa)), .inr ⟨_, rfl, _, _, rfl, rfl, _, hd3, ?_, same_snoc hDn s3, ?_⟩⟩
      · rw [nVs_len, List.length_map, List.length_take]; exact line_lt (by omega)
      · rw [upd_same, take_more hn, List.map_append, nVs_app]
        show some (HO.lst (_ ++ [V.int (2 * (n : Int) + (if (valV (qkv s.ask) (Sum.inl (n : Int))).isSome = true then 1 else 0))])) = _
        rw [isSome_qkv ok.ask, shownWord_int]
        rfl
    rintro H3 ⟨s3, hd3⟩
    rw [nVs_len, List.take_length] at hd3
    have hl3 := (s2.trans s3) _ _ hl1
    have s13 := s1.trans (s2.trans s3)
    refine ⟨l, D, _, _, rfl, rfl, hl3, hd3, ?_, ?_⟩
    · rw [nVs_len, nVs_len, List.length_map]; exact line_ok (by show 0 + _ ≤ _; omega)
    have s4 := same_snoc (o := .lst (nVs ([] : List Nat) ++ nVs ((Rh12.part s x.1 x.2).map (Rh12.shownWord s)))) hl s13
    refine ⟨_, rfl, _, rfl, d, CD, dx, _, _, rfl, s4 _ _ ha, C.dk.cl, C.dk.no _ (.head _), rfl, xa, CT, xd, _, _, rfl, s4 _ _ hxa, C.tx.cl, C.tx.no _ (.tail _ (.tail _ (.tail _ (.head _)))), rfl, dd, _, rfl, DGet.any (n := x.2) (.inl (s4 _ _ hdd)), _, rfl, ?_⟩
    have esp : ∀ c2 : Bool, (Rh12.lasts 1 s.text).contains x.2 = c2 → Rh12.shownPart s x = ([] : List Nat) ++ ((Rh12.part s x.1 x.2).map (Rh12.shownWord s) ++ if c2 = true then [] else [0]) := fun c2 e => by
      unfold Rh12.shownPart
      rw [c1, e]
      rfl
    cases c2 : (Rh12.lasts 1 s.text).contains x.2 with
    | true =>
      refine if_true_of ((hkd x.2).trans c2) ⟨_, rfl, k _ _ s4 ⟨l, rfl, ?_⟩⟩
      rw [upd_same, esp _ c2, if_pos rfl, List.append_nil, nVs_app]
    | false =>
      refine if_false_of ((hkd x.2).trans c2) ⟨_, rfl, sz1, fun r hr2 => ⟨l, r, _, _, rfl, rfl, same_upd hr2 _ _ upd_same, upd_same, ?_, fun z hz => ?_⟩⟩
      · rw [List.length_append, nVs_len, nVs_len, List.length_map]; exact line_ok (by show 0 + _ + 1 ≤ _; omega)
      refine k _ _ (s4.trans ((same_upd hr2).trans (same_upd hz))) ⟨z, rfl, ?_⟩
      rw [upd_same, esp _ c2, if_neg (by decide), nVs_app, nVs_app, List.append_assoc]
      rfl
  | false =>
    refine if_false_of ((hkc x.1).trans c1) ⟨sz1, fun l hl => ?_⟩
    have s1 := same_upd (o := .lst [V.int 0]) hl
    have hl1 : (upd H l (.lst [V.int 0])) l = some (.lst (nVs [0])) := upd_same
    generalize upd H l (.lst [V.int 0]) = H1 at s1 hl1 ⊢
    have s12 := s1
    refine ⟨_, rfl, .inl ⟨rfl, _, SqL.of hl1⟩, _, rfl, d, CD, dx, _, _, rfl, s1 _ _ ha, C.dk.cl, C.dk.no _ (.head _), rfl, xa, xd, _, rfl, s1 _ _ hxa, rfl, _, rfl, _, rfl, .ref xa, s.text, x.1, x.2, rfl, TextAt.stays _ _ _ _ s1 hP.text, h1, Nat.le_trans ok.len.1 (by decide), fun H2 v2 s2 ⟨wl, ew, hwl⟩ => ?_⟩
    subst ew
    have hwl : H2 wl = some (.lst (nVs (Rh12.part s x.1 x.2))) := hwl
    have hpl : (Rh12.part s x.1 x.2).length ≤ 60 := Nat.le_trans TpM.part_len_le ok.len.1
    refine ⟨wl, rfl, ⟨_, SqL.of hwl⟩, fun D hDn => lc_list (K := K) (a := wl) (xs := nVs (Rh12.part s x.1 x.2)) (fun i H' => Same H2 H' ∧ H' D = some (.lst (nVs (((Rh12.part s x.1 x.2).take i).map (Rh12.shownWord s)))))
      ⟨same_upd hDn, upd_same⟩ (fun i H' _ ⟨s3, _⟩ => SqL.of (s3 _ _ hwl)) ?_ ?_⟩
    · rintro i y H3 hi ⟨s3, hd3⟩
      obtain ⟨n, hn, rfl⟩ := nVs_get hi
      have s13 := s1.trans (s2.trans s3)
      refine ⟨rfl, _, rfl, _, _, rfl, rfl, .inl ⟨by decide, by decide⟩, _, rfl, _, rfl, d, CD, dx, _, _, rfl, s13 _ _ ha, C.dk.cl, C.dk.no _ (.tail _ (.tail _ (.head _))), rfl, qa, _, rfl, DGet.any (n := n) (.inl (s13 _ _ hqa)), .inr ⟨_, rfl, _, _, rfl, rfl, _, hd3, ?_, same_snoc hDn s3, ?_⟩⟩
      · rw [nVs_len, List.length_map, List.length_take]; exact line_lt (by omega)
      · rw [upd_same, take_more hn, List.map_append, nVs_app]
        show some (HO.lst (_ ++ [V.int (2 * (n : Int) + (if (valV (qkv s.ask) (Sum.inl (n : Int))).isSome = true then 1 else 0))])) = _
        rw [isSome_qkv ok.ask, shownWord_int]
        rfl
    rintro H3 ⟨s3, hd3⟩
    rw [nVs_len, List.take_length] at hd3
    have hl3 := (s2.trans s3) _ _ hl1
    have s13 := s1.trans (s2.trans s3)
    refine ⟨l, D, _, _, rfl, rfl, hl3, hd3, ?_, ?_⟩
    · rw [nVs_len, nVs_len, List.length_map]; exact line_ok (by show 1 + _ ≤ _; omega)
    have s4 := same_snoc (o := .lst (nVs [0] ++ nVs ((Rh12.part s x.1 x.2).map (Rh12.shownWord s)))) hl s13
    refine ⟨_, rfl, _, rfl, d, CD, dx, _, _, rfl, s4 _ _ ha, C.dk.cl, C.dk.no _ (.head _), rfl, xa, CT, xd, _, _, rfl, s4 _ _ hxa, C.tx.cl, C.tx.no _ (.tail _ (.tail _ (.tail _ (.head _)))), rfl, dd, _, rfl, DGet.any (n := x.2) (.inl (s4 _ _ hdd)), _, rfl, ?_⟩
    have esp : ∀ c2 : Bool, (Rh12.lasts 1 s.text).contains x.2 = c2 → Rh12.shownPart s x = [0] ++ ((Rh12.part s x.1 x.2).map (Rh12.shownWord s) ++ if c2 = true then [] else [0]) := fun c2 e => by
      unfold Rh12.shownPart
      rw [c1, e]
      rfl
    cases c2 : (Rh12.lasts 1 s.text).contains x.2 with
    | true =>
      refine if_true_of ((hkd x.2).trans c2) ⟨_, rfl, k _ _ s4 ⟨l, rfl, ?_⟩⟩
      rw [upd_same, esp _ c2, if_pos rfl, List.append_nil, nVs_app]
    | false =>
      refine if_false_of ((hkd x.2).trans c2) ⟨_, rfl, sz1, fun r hr2 => ⟨l, r, _, _, rfl, rfl, same_upd hr2 _ _ upd_same, upd_same, ?_, fun z hz => ?_⟩⟩
      · rw [List.length_append, nVs_len, nVs_len, List.length_map]; exact line_ok (by show 1 + _ + 1 ≤ _; omega)
      refine k _ _ (s4.trans ((same_upd hr2).trans (same_upd hz))) ⟨z, rfl, ?_⟩
      rw [upd_same, esp _ c2, if_neg (by decide), nVs_app, nVs_app, List.append_assoc]
      rfl
end
end Tp

namespace Tp
open PySem PySem.Spec PyProof.Rows L2
open TpM (Pas Trip Sel)
section
variable {P : Program} {w : World} {K : PySem.W.Frag} {mg : Str → Option Value} {base : Heap} {f : Addr} {fd : FuncData} {CR CT CS CC CD : Addr}
theorem row_from {s : Rh12.St} {k : Nat} : ∀ x ∈ (Rh12.best s k).row, 1 ≤ x.1 := by
  obtain ⟨c, hc, hB, hF⟩ := TpM.rowK_is s k k (Nat.le_refl _) 1 (Nat.le_refl _) (by omega)
  rw [← TpM.best_row]
  unfold TpM.bestSel
  rw [List.getD_eq_getElem?_getD, hc]
  exact hF
/- show -/
def spShow (CR CT CS CD : Addr) : Sp := fun vs H Q E => ∃ a s k, vs = [.ref a, .int (k : Nat)] ∧ DeskAt CT CS CD H a s ∧ Ok s ∧ Outs CR CT CS CD H a s (.show_ k) Q E
abbrev sShow : Stmt := meth 41 17
abbrev nShow : List Str := ["self", "k", "found", "at", "a", "b"]
theorem scShow : FnScope nShow ["self", "k"] (defScope sShow) := ⟨rfl, rfl, rfl, by decide +kernel, rfl, by decide +kernel, by decide +kernel⟩
theorem ok_show (F : Fun K "show" "Desk.show" sShow f fd) (B : Blt mg) (C : Cl K mg CT CS CC CD) (SE : MtAt P w K mg base (L2.CX P w) 6 CD "selection" ["self", "k"] (spSelection CR CT CS CC CD)) (DI : MtAt P w K mg base CX0 2 CD "display" ["self", "a", "b"] (spDisplay CT CS CD)) : FnOk P w K mg base (L2.CX P w) 7 f fd ["self", "k"] (spShow CR CT CS CD) := by
  obtain ⟨fS, fdS, GS, mS, bS⟩ := SE.ex
  obtain ⟨fI, fdI, GI, mI, bI⟩ := DI.ex
  refine F.okX scShow (fun vs H Q E h => ?_) (fun cdv A outer s H vs Q E hr h => ⟨_, pss_cons (ps_set (i := 2) scShow.nd rfl (Or.inl rfl) (pe_lst pa_nil))
    (pss_cons (ps_for (passes_of rfl) rfl (pi_enum (by rfl) B.enumerate (pa_cons (pe_fld (pe_meth (pv 0) C.dk.cl mS GS hr bS .nil (passes_call (takes_of rfl rfl rfl rfl) (fun _ _ _ _ h => h)) (pa_cons (pv 1) pa_nil)) rfl) pa_nil))
        (pg_tup rfl (pgs_cons (pg_name (i := 3) scShow.nd rfl (Or.inl rfl)) (pgs_cons (pg_tup rfl (pgs_cons (pg_name (i := 4) scShow.nd rfl (Or.inl rfl)) (pgs_cons (pg_name (i := 5) scShow.nd rfl (Or.inl rfl)) pgs_nil))) pgs_nil)))
      (pss_cons (ps_if (pt_cmpR op_gt (pv 3) pe_int (nomark _)) (pss_one (ps_expr (pe_bm PySem.F.plainAttrs_list PySem.F.slot_list_append PySem.F.type_list_append mt_append (pv 2) (pa_cons pe_int pa_nil)))) pss_nil)
      (pss_one (ps_expr (pe_bm PySem.F.plainAttrs_list PySem.F.slot_list_extend PySem.F.type_list_extend mt_extend (pv 2) (pa_cons (pe_meth (pv 0) C.dk.cl mI GI (hr.mono (by decide)) bI .nil pass0 (pa_cons (pv 4) (pa_cons (pv 5) pa_nil))) pa_nil))))))
    (pss_one (ps_ret (pe_op op_cat (pe_lst (pa_cons (pe_callB call_len_seq (by rfl) B.len PySem.boot_len (pa_cons (pv 2) pa_nil)) pa_nil)) (pv 2))))), ?_⟩)
  · obtain ⟨a, s, k, rfl, _⟩ := h; rfl
  obtain ⟨a, s, kk, rfl, hD, ok, k⟩ := h
  obtain ⟨dx, t, p, q, st, ha, hP⟩ := id hD
  refine ⟨Nat.zero_le _, fun l hl => ?_⟩
  have s1 := same_upd (o := .lst []) hl
  refine ⟨_, rfl, a, dx, _, rfl, s1 _ _ ha, rfl, _, rfl, a, s, kk, rfl, hD.stay s1, ok, fun hb => Err.same s1 (k.err _ ?_), fun hb => ?_⟩
  · show (s, if kk = 0 ∨ 6 < kk then _ else _) = _
    rw [if_pos hb]
  rintro H2 _ s2 ⟨x, xd, cv, rfl, hx, ⟨la, us, rfl, hla, hus⟩⟩
  have hst : Rh12.step s (.show_ kk) = (s, Rh12.told (Rh12.shown s (Rh12.best s kk).row)) := by
    show (s, if kk = 0 ∨ 6 < kk then _ else _) = _
    rw [if_neg hb]
  rw [TpM.best_row] at hus
  have hlen := best_len (s := s) kk
  have hl2 := s2 _ _ (show upd H l (.lst []) l = _ from upd_same)
  refine ⟨x, CC, xd, _, _, rfl, hx, C.se.cl, C.se.no _ (.tail _ (.head _)), rfl, la, us, rfl, SqL.of hla, for_it (walk_enum (xs := us)) (fun i σ H' => ∃ v3 v4 v5, σ = [some (.ref a), some (.int (kk : Nat)), some (.ref l), v3, v4, v5] ∧ Same H H' ∧ H' la = some (.lst us) ∧ AllR (PairAt H') us (Rh12.best s kk).row ∧ H' l = some (.lst (nVs (Rh12.shown s ((Rh12.best s kk).row.take i)))))
    ⟨none, none, none, rfl, s1.trans s2, hla, hus, hl2⟩ (fun i σ H' _ ⟨_, _, _, _, _, h, _⟩ => SqL.of h) ?_ ?_⟩
  · rintro i y σ H3 H3' hi ⟨v3, v4, v5, rfl, s3, hla3, hus3, hl3⟩ ⟨T, e1, u1, rfl, hT, rfl, e2, hu1⟩
    cases e2
    obtain ⟨u, hu, b, rfl, hb⟩ := hus3.get hu1
    have s4 := same_upd (o := .tup [V.int (i : Nat), V.ref b]) hT
    have hil := lt_of_get hu
    refine ⟨T, _, rfl, SqT.of upd_same, rfl, _, _, rfl, _, _, rfl, b, _, rfl, SqT.of (s4 _ _ hb), rfl, _, _, rfl, _, _, rfl, rfl, rfl, ?_⟩
    have hla3 := s4 _ _ hla3
    have hus3 := hus3.stay PairAt.stays s4
    have hl3 := s4 _ _ hl3
    have s3 := s3.trans s4
    generalize upd H3 T (.tup [V.int (i : Nat), V.ref b]) = H5 at s3 hla3 hus3 hl3 ⊢
    clear s4
    refine ⟨_, rfl, _, _, rfl, rfl, _, rfl, ite2 (fun hp => ?_) fun hp => ?_⟩
    · have hp := of_decide_eq_true hp
      have hi0 : (Rh12.best s kk).row.take i ≠ [] := fun z => by
        have h := congrArg List.length z
        rw [List.length_take, List.length_nil] at h
        omega
      have ne3 : la ≠ l := fun z => by
        subst z
        rw [hl3] at hla3
        have e4 : nVs _ = us := HO.lst.inj (Option.some.inj hla3)
        have e5 := hu1
        rw [← e4] at e5
        obtain ⟨_, _, e6⟩ := nVs_get e5
        cases e6
      refine ⟨_, rfl, .inl ⟨rfl, _, SqL.of hl3⟩, l, _, _, rfl, rfl, hl3, ?_, ?_⟩
      · rw [nVs_len]
        have h1 := TpM.shown_len (s := s) ((Rh12.best s kk).row.take i)
        have h3 : ((Rh12.best s kk).row.take i).length * ((Rh12.flat s).length + 3) ≤ 6 * 63 := Nat.mul_le_mul (by rw [List.length_take]; omega) (by have := ok.len.1; omega)
        exact line_lt (by omega)
      have hus3 : AllR (PairAt (upd H5 l (.lst (nVs (Rh12.shown s ((Rh12.best s kk).row.take i)) ++ [V.int 1])))) us (Rh12.best s kk).row := hus3.mono fun v x ⟨c, e, hc⟩ => ⟨c, e, by rw [upd_ne (ne_of hc hl3 (by intro z; cases z))]; exact hc⟩
      have hla3 : (upd H5 l (.lst (nVs (Rh12.shown s ((Rh12.best s kk).row.take i)) ++ [V.int 1]))) la = _ := (upd_ne ne3).trans hla3
      have hl3 : (upd H5 l (.lst (nVs (Rh12.shown s ((Rh12.best s kk).row.take i)) ++ [V.int 1]))) l = some (.lst (nVs (Rh12.shown s ((Rh12.best s kk).row.take i) ++ [1]))) := by rw [upd_same, nVs_app]; rfl
      have s3 := same_snoc (o := .lst (nVs (Rh12.shown s ((Rh12.best s kk).row.take i)) ++ [V.int 1])) hl s3
      generalize upd H5 l (.lst (nVs (Rh12.shown s ((Rh12.best s kk).row.take i)) ++ [V.int 1])) = H5 at s3 hla3 hus3 hl3 ⊢
      have ne4 : la ≠ l := fun z => by
        subst z
        rw [hl3] at hla3
        have e4 : nVs _ = us := HO.lst.inj (Option.some.inj hla3)
        have e5 := hu1
        rw [← e4] at e5
        obtain ⟨_, _, e6⟩ := nVs_get e5
        cases e6
      refine ⟨_, rfl, .inl ⟨rfl, _, SqL.of hl3⟩, _, rfl, a, dx, _, rfl, s3 _ _ ha, rfl, _, rfl, _, rfl, a, s, u, rfl, hD.stay s3, ok, row_from u (List.mem_of_getElem? hu), fun H4 v4 s4 ⟨dl, ed, hdl⟩ => ?_⟩
      subst ed
      refine ⟨l, dl, _, _, rfl, rfl, s4 _ _ hl3, hdl, ?_, _, _, _, rfl, same_snoc hl (s3.trans s4), ?_, ?_, ?_⟩
      · rw [nVs_len, nVs_len]
        have h1 := TpM.shown_len (s := s) ((Rh12.best s kk).row.take i)
        have h2 := TpM.shownPart_len (s := s) (x := u)
        have h3 : ((Rh12.best s kk).row.take i).length * ((Rh12.flat s).length + 3) ≤ 6 * 63 := Nat.mul_le_mul (by rw [List.length_take]; omega) (by have := ok.len.1; omega)
        have := ok.len.1
        exact line_ok (by first | omega | (simp only [List.length_append, List.length_singleton]; omega))
      · rw [upd_ne ne4]; exact s4 _ _ hla3
      · exact hus3.mono fun v x ⟨c, e, hc⟩ => ⟨c, e, by rw [upd_ne (ne_of (s4 _ _ hc) (s4 _ _ hl3) (by intro z; cases z))]; exact s4 _ _ hc⟩
      · rw [upd_same, take_more hu, TpM.shown_snoc]
        rw [if_neg hi0, ← nVs_app]
    · have hi0 : i = 0 := by have : ¬ ((0 : Int) < i) := fun z => hp (decide_eq_true z); omega
      subst hi0
      have ne4 : la ≠ l := fun z => by
        subst z
        rw [hl3] at hla3
        have e4 : nVs _ = us := HO.lst.inj (Option.some.inj hla3)
        have e5 := hu1
        rw [← e4] at e5
        obtain ⟨_, _, e6⟩ := nVs_get e5
        cases e6
      refine ⟨_, rfl, .inl ⟨rfl, _, SqL.of hl3⟩, _, rfl, a, dx, _, rfl, s3 _ _ ha, rfl, _, rfl, _, rfl, a, s, u, rfl, hD.stay s3, ok, row_from u (List.mem_of_getElem? hu), fun H4 v4 s4 ⟨dl, ed, hdl⟩ => ?_⟩
      subst ed
      refine ⟨l, dl, _, _, rfl, rfl, s4 _ _ hl3, hdl, ?_, _, _, _, rfl, same_snoc hl (s3.trans s4), ?_, ?_, ?_⟩
      · rw [nVs_len, nVs_len]
        have h1 := TpM.shown_len (s := s) ((Rh12.best s kk).row.take 0)
        have h2 := TpM.shownPart_len (s := s) (x := u)
        have h3 : ((Rh12.best s kk).row.take 0).length * ((Rh12.flat s).length + 3) ≤ 6 * 63 := Nat.mul_le_mul (by rw [List.length_take]; omega) (by have := ok.len.1; omega)
        have := ok.len.1
        exact line_ok (by first | omega | (simp only [List.length_append, List.length_singleton]; omega))
      · rw [upd_ne ne4]; exact s4 _ _ hla3
      · exact hus3.mono fun v x ⟨c, e, hc⟩ => ⟨c, e, by rw [upd_ne (ne_of (s4 _ _ hc) (s4 _ _ hl3) (by intro z; cases z))]; exact s4 _ _ hc⟩
      · rw [upd_same, take_more hu, TpM.shown_snoc]
        rw [List.take_zero, if_pos rfl, nVs_app]
        rfl
  · rintro σ H3 ⟨v3, v4, v5, rfl, s3, hla3, hus3, hl3⟩
    rw [hus3.len, List.take_length] at hl3
    refine ⟨_, rfl, l, _, rfl, .inl (SqL.of hl3), sz1, fun r hr2 => ?_⟩
    have s4 := same_upd (o := .lst [V.int ((nVs (Rh12.shown s (Rh12.best s kk).row)).length : Nat)]) hr2
    refine ⟨_, rfl, r, l, _, _, rfl, rfl, upd_same, s4 _ _ hl3, ?_, fun z hz => ?_⟩
    · rw [nVs_len]
      have h1 := TpM.shown_len (s := s) (Rh12.best s kk).row
      have h3 : (Rh12.best s kk).row.length * ((Rh12.flat s).length + 3) ≤ 6 * 63 := Nat.mul_le_mul (by omega) (by have := ok.len.1; omega)
      exact line_ok (by show 1 + _ ≤ _; omega)
    have s5 := s3.trans (s4.trans (same_upd (o := .lst ([V.int ((nVs (Rh12.shown s (Rh12.best s kk).row)).length : Nat)] ++ nVs (Rh12.shown s (Rh12.best s kk).row))) hz))
    refine k.ok _ _ (.of s5) (by rw [hst]; exact hD.stay s5) ?_ ⟨z, rfl, (s3.trans s4).free hz⟩
    rw [hst]
    refine ⟨z, rfl, ?_⟩
    rw [upd_same, nVs_len]
    rfl
/- hidden -/
def spHidden (CR CT CS CD : Addr) : Sp := fun vs H Q E => ∃ a s k, vs = [.ref a, .int (k : Nat)] ∧ DeskAt CT CS CD H a s ∧ Ok s ∧ Outs CR CT CS CD H a s (.hidden k) Q E
abbrev sHidden : Stmt := meth 41 18
abbrev nHidden : List Str := ["self", "k", "words", "a", "b", "found", "word"]
theorem scHidden : FnScope nHidden ["self", "k"] (defScope sHidden) := ⟨rfl, rfl, rfl, by decide +kernel, rfl, by decide +kernel, by decide +kernel⟩
theorem ok_hidden (F : Fun K "hidden" "Desk.hidden" sHidden f fd) (B : Blt mg) (C : Cl K mg CT CS CC CD) (SE : MtAt P w K mg base (L2.CX P w) 6 CD "selection" ["self", "k"] (spSelection CR CT CS CC CD)) (MP : MtAt P w K mg base CX0 1 CT "part" ["self", "a", "b"] (spPart CT)) (WA : MtAt P w K mg base CX0 1 CD "wanted" ["self"] (spWanted CT CS CD)) : FnOk P w K mg base (L2.CX P w) 7 f fd ["self", "k"] (spHidden CR CT CS CD) := by
  obtain ⟨fS, fdS, GS, mS, bS⟩ := SE.ex
  obtain ⟨fP, fdP, GP, mP, bP⟩ := MP.ex
  obtain ⟨fW, fdW, GW, mW, bW⟩ := WA.ex
  refine F.okX scHidden (fun vs H Q E h => ?_) (fun cdv A outer s H vs Q E hr h => ⟨_, pss_cons (ps_set (i := 2) scHidden.nd rfl (Or.inr rfl) (pe_lst pa_nil))
    (pss_cons (ps_for (passes_of rfl) rfl (pi_list (pe_fld (pe_meth (pv 0) C.dk.cl mS GS hr bS .nil (passes_call (takes_of rfl rfl rfl rfl) (fun _ _ _ _ h => h)) (pa_cons (pv 1) pa_nil)) rfl))
        (pg_tup rfl (pgs_cons (pg_name (i := 3) scHidden.nd rfl (Or.inl rfl)) (pgs_cons (pg_name (i := 4) scHidden.nd rfl (Or.inl rfl)) pgs_nil)))
      (pss_one (ps_expr (pe_bm PySem.F.plainAttrs_list PySem.F.slot_list_extend PySem.F.type_list_extend mt_extend (pv 2) (pa_cons (pe_meth (pe_fld (pv 0) rfl) C.tx.cl mP GP (hr.mono (by decide)) bP .nil pass0 (pa_cons (pv 3) (pa_cons (pv 4) pa_nil))) pa_nil)))))
    (PSs.nox (pss_cons (ps_setLc (i := 5) (own := [("word", 6)]) (g := gName 6) rfl scHidden.nd rfl rfl (sw_true rfl rfl rfl (by decide +kernel)) (pi_list (pe_meth0 (pv 0) C.dk.cl mW GW (hr.mono (by decide)) bW .nil pass0)) (blkOk_by (N := nHidden) (sc := defScope sHidden) (by decide +kernel)) (fun _ _ _ _ _ => pg_name (i := 6) scHidden.nd rfl (Or.inl rfl))
        (fun _ _ _ _ _ => pts_one (pt_cmpR (r := rIn K true) (by exact op_notIn_seq) (pv 6) (pv 2) (by rfl))) (fun _ _ _ _ _ => pv 6))
    (pss_one (ps_ret (pe_op op_cat (pe_lst (pa_cons (pe_callB call_len_seq (by rfl) B.len PySem.boot_len (pa_cons (pv 5) pa_nil)) pa_nil)) (pv 5))))))), ?_⟩)
  · obtain ⟨a, s, k, rfl, _⟩ := h; rfl
  obtain ⟨a, s, kk, rfl, hD, ok, k⟩ := h
  obtain ⟨dx, t, p, q, st, ha, hP⟩ := id hD
  obtain ⟨xa, xd, ta, tb, tc, td, rfl, hxa, _⟩ := id hP.text
  refine ⟨Nat.zero_le _, fun l hl => ?_⟩
  have s1 := same_upd (o := .lst []) hl
  refine ⟨_, rfl, a, dx, _, rfl, s1 _ _ ha, rfl, _, rfl, a, s, kk, rfl, hD.stay s1, ok, fun hb => Err.same s1 (k.err _ ?_), fun hb => ?_⟩
  · show (s, if kk = 0 ∨ 6 < kk then _ else _) = _
    rw [if_pos hb]
  rintro H2 _ s2 ⟨x, xd2, cv, rfl, hx, ⟨la, us, rfl, hla, hus⟩⟩
  have hst : Rh12.step s (.hidden kk) = (s, Rh12.told ((Rh12.wanted s).filter fun w => (Rh12.best s kk).row.all fun x => !(Rh12.part s x.1 x.2).contains w)) := by
    show (s, if kk = 0 ∨ 6 < kk then _ else _) = _
    rw [if_neg hb]
  rw [TpM.best_row] at hus
  have hlen := best_len (s := s) kk
  have hl2 := s2 _ _ (show upd H l (.lst []) l = _ from upd_same)
  have wlen : ∀ i, ((((Rh12.best s kk).row.take i).flatMap fun x => Rh12.part s x.1 x.2)).length ≤ 360 := fun i => by
    have h : ∀ m : List Pas, (m.flatMap fun x => Rh12.part s x.1 x.2).length ≤ m.length * 60 := by
      intro m
      induction m with
      | nil => exact Nat.zero_le _
      | cons y m ih =>
        have := TpM.part_len_le (s := s) (a := y.1) (b := y.2)
        have := ok.len.1
        rw [List.flatMap_cons, List.length_append, List.length_cons, Nat.add_mul]
        omega
    have h1 := h ((Rh12.best s kk).row.take i)
    have h2 : ((Rh12.best s kk).row.take i).length * 60 ≤ 6 * 60 := Nat.mul_le_mul_right _ (by rw [List.length_take]; omega)
    exact Nat.le_trans h1 h2
  refine ⟨x, CC, xd2, _, _, rfl, hx, C.se.cl, C.se.no _ (.tail _ (.head _)), rfl, la, rfl, ⟨us, SqL.of hla⟩, for_list (K := K) (a := la) (xs := us) (fun i σ H' => ∃ v3 v4, σ = [some (.ref a), some (.int (kk : Nat)), some (.ref l), v3, v4, none, none] ∧ Same H H' ∧ H' la = some (.lst us) ∧ AllR (PairAt H') us (Rh12.best s kk).row ∧ H' l = some (.lst (nVs (((Rh12.best s kk).row.take i).flatMap fun x => Rh12.part s x.1 x.2))))
    ⟨none, none, rfl, s1.trans s2, hla, hus, hl2⟩ (fun i σ H' _ ⟨_, _, _, _, h, _⟩ => SqL.of h) ?_ ?_⟩
  · rintro i y σ H3 hu1 ⟨v3, v4, rfl, s3, hla3, hus3, hl3⟩
    obtain ⟨u, hu, b, rfl, hb⟩ := hus3.get hu1
    have ne3 : la ≠ l := fun z => by
      subst z
      rw [hl3] at hla3
      have e4 : nVs _ = us := HO.lst.inj (Option.some.inj hla3)
      have e5 := hu1
      rw [← e4] at e5
      obtain ⟨_, _, e6⟩ := nVs_get e5
      cases e6
    refine ⟨b, _, rfl, SqT.of hb, rfl, _, _, rfl, _, _, rfl, rfl, ?_⟩
    refine ⟨_, rfl, .inl ⟨rfl, _, SqL.of hl3⟩, _, rfl, a, CD, dx, _, _, rfl, s3 _ _ ha, C.dk.cl, C.dk.no _ (.head _), rfl, xa, xd, _, rfl, s3 _ _ hxa, rfl, _, rfl, _, rfl, .ref xa, s.text, u.1, u.2, rfl, TextAt.stays _ _ _ _ s3 hP.text, row_from u (List.mem_of_getElem? hu), Nat.le_trans ok.len.1 (by decide), fun H4 v4 s4 ⟨dl, ed, hdl⟩ => ?_⟩
    subst ed
    have hdl : H4 dl = some (.lst (nVs (Rh12.part s u.1 u.2))) := hdl
    have et : ((Rh12.best s kk).row.take (i + 1)).flatMap (fun x => Rh12.part s x.1 x.2) = (((Rh12.best s kk).row.take i).flatMap fun x => Rh12.part s x.1 x.2) ++ Rh12.part s u.1 u.2 := by
      rw [take_more hu, List.flatMap_append]
      simp
    refine ⟨l, dl, _, _, rfl, rfl, s4 _ _ hl3, hdl, ?_, _, _, rfl, same_snoc hl (s3.trans s4), ?_, ?_, ?_⟩
    · have h1 := wlen (i + 1)
      rw [et, List.length_append] at h1
      rw [nVs_len, nVs_len]
      exact line_ok (by omega)
    · rw [upd_ne ne3]; exact s4 _ _ hla3
    · exact hus3.mono fun v x ⟨c, e, hc⟩ => ⟨c, e, by rw [upd_ne (ne_of (s4 _ _ hc) (s4 _ _ hl3) (by intro z; cases z))]; exact s4 _ _ hc⟩
    · rw [upd_same, et, nVs_app]
  · rintro σ H3 ⟨v3, v4, rfl, s3, hla3, hus3, hl3⟩
    rw [hus3.len, List.take_length] at hl3
    refine ⟨_, rfl, a, dx, _, rfl, s3 _ _ ha, rfl, a, s, rfl, hD.stay s3, Nat.le_trans (TpM.isAsk_len ok.ask) (by decide), fun H4 v4 s4 ⟨wl, ew, hwl⟩ => ?_⟩
    subst ew
    have hl4 := s4 _ _ hl3
    have hw6 := wanted_len ok
    refine ⟨wl, rfl, ⟨_, SqL.of hwl⟩, fun D hDn => lc_list (K := K) (a := wl) (xs := nVs (Rh12.wanted s)) (fun i H' => Same H4 H' ∧ H' D = some (.lst (nVs (((Rh12.wanted s).take i).filter fun w => (Rh12.best s kk).row.all fun x => !(Rh12.part s x.1 x.2).contains w))))
      ⟨same_upd hDn, upd_same⟩ (fun i H' _ ⟨s5, _⟩ => SqL.of (s5 _ _ hwl)) ?_ ?_⟩
    · rintro i y H5 hi ⟨s5, hd5⟩
      obtain ⟨n, hn, rfl⟩ := nVs_get hi
      have em := inV_nVs n ((Rh12.best s kk).row.flatMap fun x => Rh12.part s x.1 x.2)
      rw [TpM.hid_words] at em
      refine ⟨rfl, _, rfl, _, rfl, l, _, rfl, .inl (SqL.of (s5 _ _ hl4)), rfl, flat_nVs _, _, rfl, ?_⟩
      cases c : (Rh12.best s kk).row.all fun x => !(Rh12.part s x.1 x.2).contains n with
      | true =>
        refine if_true_of (by show (!inV _ _) = true; rw [em, c]; rfl) ⟨_, rfl, _, hd5, ?_, same_snoc hDn s5, ?_⟩
        · rw [nVs_len]
          have h := List.length_filter_le (fun w => (Rh12.best s kk).row.all fun x => !(Rh12.part s x.1 x.2).contains w) ((Rh12.wanted s).take i)
          rw [List.length_take] at h
          exact line_lt (by omega)
        · rw [upd_same, take_more hn, List.filter_append, nVs_app, List.filter_cons_of_pos (by exact c)]
          rfl
      | false =>
        refine if_false_of (by show (!inV _ _) = false; rw [em, c]; rfl) ⟨s5, ?_⟩
        rw [hd5, take_more hn, List.filter_append, List.filter_cons_of_neg (by rw [c]; decide)]
        simp
    rintro H5 ⟨s5, hd5⟩
    rw [nVs_len, List.take_length] at hd5
    have hfl := List.length_filter_le (fun w => (Rh12.best s kk).row.all fun x => !(Rh12.part s x.1 x.2).contains w) (Rh12.wanted s)
    generalize hF : (Rh12.wanted s).filter (fun w => (Rh12.best s kk).row.all fun x => !(Rh12.part s x.1 x.2).contains w) = Fw at hd5 hfl hst
    refine ⟨_, rfl, D, _, rfl, .inl (SqL.of hd5), sz1, fun r hr2 => ?_⟩
    have s6 := same_upd (o := .lst [V.int ((nVs Fw).length : Nat)]) hr2
    refine ⟨_, rfl, r, D, _, _, rfl, rfl, upd_same, s6 _ _ hd5, ?_, fun z hz => ?_⟩
    · rw [nVs_len]; exact line_ok (by show 1 + _ ≤ _; omega)
    have s7 := s3.trans (s4.trans (s5.trans (s6.trans (same_upd (o := .lst ([V.int ((nVs Fw).length : Nat)] ++ nVs Fw)) hz))))
    refine k.ok _ _ (.of s7) (by rw [hst]; exact hD.stay s7) ?_ ⟨z, rfl, (s3.trans (s4.trans (s5.trans s6))).free hz⟩
    rw [hst]
    refine ⟨z, rfl, ?_⟩
    rw [upd_same, nVs_len]
    rfl
/- singles -/
def NegAt (s : Rh12.St) : Hp → V → Pas → Prop := fun H v x => ∃ a, v = .ref a ∧ H a = some (.tup [.int (-Rh12.worth s x.1 x.2), .int (x.1 : Int), .int (x.2 : Int)])
theorem NegAt.stays (s : Rh12.St) : Stays (NegAt s) := fun _ _ _ _ e ⟨a, h, g⟩ => ⟨a, h, e _ _ g⟩
def keyT (H : Hp) (v : V) : Int × Int × Int := match v with
  | .ref a => (match H a with
    | some (.tup [.int x, .int y, .int z]) => (x, y, z)
    | _ => (0, 0, 0))
  | _ => (0, 0, 0)
def toPas (k : Int × Int × Int) : Pas := (k.2.1.toNat, k.2.2.toNat)
def spSingles (CT CS CD : Addr) : Sp := fun vs H Q _ => ∃ a s n, vs = [.ref a, .int (n : Nat)] ∧ DeskAt CT CS CD H a s ∧ Ok s ∧ n ≤ 4294967295 ∧ NewF IntsAt (Rh12.passages (Rh12.singles s n)) H Q
abbrev sSingles : Stmt := meth 41 13
abbrev nSingles : List Str := ["self", "n", "a", "b", "score", "some", "found"]
theorem scSingles : FnScope nSingles ["self", "n"] (defScope sSingles) := ⟨rfl, rfl, rfl, by decide +kernel, rfl, by decide +kernel, by decide +kernel⟩
theorem ok_singles (F : Fun K "singles" "Desk.singles" sSingles f fd) (B : Blt mg) (C : Cl K mg CT CS CC CD) (PA_ : MtAt P w K mg base CX0 4 CD "passages" ["self"] (spPassages CT CS CD)) : FnOk P w K mg base CX0 5 f fd ["self", "n"] (spSingles CT CS CD) := by
  obtain ⟨fP, fdP, GP, mP, bP⟩ := PA_.ex
  refine F.ok scSingles (fun vs H Q E h => ?_) (fun cdv A outer s H vs Q E hr h => ⟨_, pss_cons (ps_set (i := 5) scSingles.nd rfl (Or.inl rfl) (pe_slice sl_list (pe_callB cr_sortedT3 (by rfl) B.sorted (by decide +kernel) (pa_cons (pe_lc (own := [("a", 2), ("b", 3), ("score", 4)]) (g := gTup K 3 (gCons (gName 2) (gCons (gName 3) (gCons (gName 4) gNil)))) (tt := tYes) rfl scSingles.nd
        (pi_list (pe_meth0 (pv 0) C.dk.cl mP GP hr bP .nil pass0)) (blkOk_by (N := nSingles) (sc := defScope sSingles) (by decide +kernel)) (fun _ _ _ _ _ => by exact pg_tup rfl (pgs_cons (pg_name (i := 2) scSingles.nd rfl (Or.inl rfl)) (pgs_cons (pg_name (i := 3) scSingles.nd rfl (Or.inl rfl)) (pgs_cons (pg_name (i := 4) scSingles.nd rfl (Or.inl rfl)) pgs_nil)))) (fun _ _ _ _ _ => pts_nil)
        (fun _ _ _ _ _ => pe_tup (pa_cons (pe_un un_neg (pv 4)) (pa_cons (pv 2) (pa_cons (pv 3) pa_nil))))) pa_nil)) po_none (po_some (pv 1))))
    (pss_cons (ps_set (i := 6) scSingles.nd rfl (Or.inl rfl) (pe_lst (pa_cons (pe_callB call_len_seq (by rfl) B.len PySem.boot_len (pa_cons (pv 5) pa_nil)) pa_nil)))
    (pss_cons (ps_for PassesOwn.never rfl (pi_list (pv 5)) (pg_tup rfl (pgs_cons (pg_name (i := 4) scSingles.nd rfl (Or.inl rfl)) (pgs_cons (pg_name (i := 2) scSingles.nd rfl (Or.inl rfl)) (pgs_cons (pg_name (i := 3) scSingles.nd rfl (Or.inl rfl)) pgs_nil))))
      (pss_one (ps_expr (pe_bm PySem.F.plainAttrs_list PySem.F.slot_list_extend PySem.F.type_list_extend mt_extend (pv 6) (pa_cons (pe_lst (pa_cons (pv 2) (pa_cons (pv 3) pa_nil))) pa_nil)))))
    (pss_one (ps_ret (pv 6))))), ?_⟩)
  · obtain ⟨a, s, n, rfl, _⟩ := h; rfl
  obtain ⟨a, s, n, rfl, hD, ok, hn, k⟩ := h
  obtain ⟨dx, t, p, q, st, ha, hP⟩ := id hD
  refine ⟨_, rfl, a, dx, _, rfl, ha, rfl, a, s, rfl, hD, ok, ?_⟩
  rintro H1 _ s1 ⟨la, us, rfl, hla, hus⟩
  have hal : (Rh12.all s).length ≤ 1200 := by
    have := trips_len ok
    unfold TpM.trips at this
    rwa [List.length_map] at this
  refine ⟨la, rfl, ⟨us, SqL.of hla⟩, fun D hDn => lc_list (K := K) (a := la) (xs := us) (fun i H' => Same H1 H' ∧ Acc (NegAt s) D H' ((Rh12.all s).take i))
    ⟨same_upd hDn, Acc.start⟩ (fun i H' _ ⟨s2, _⟩ => SqL.of (s2 _ _ hla)) ?_ ?_⟩
  · rintro i y H2 hi ⟨s2, hA⟩
    obtain ⟨tr, htr, b, rfl, hb⟩ := hus.get hi
    unfold TpM.trips at htr
    rw [List.getElem?_map] at htr
    cases e : (Rh12.all s)[i]? with
    | none => rw [e] at htr; cases htr
    | some x =>
      rw [e] at htr
      cases htr
      refine ⟨b, _, rfl, SqT.of (s2 _ _ hb), rfl, _, _, rfl, _, _, rfl, _, _, rfl, rfl, rfl, _, rfl, _, rfl, _, rfl, _, rfl, sz3, fun T hT => ?_⟩
      obtain ⟨vs, hv, hvs⟩ := id hA
      have s3 := same_upd (o := .tup [V.int (-Rh12.worth s x.1 x.2), V.int (x.1 : Nat), V.int (x.2 : Nat)]) hT
      have hTD : T ≠ D := fun z => by subst z; rw [hv] at hT; cases hT
      refine ⟨vs, s3 _ _ hv, ?_, same_snoc hDn (s2.trans s3), ?_⟩
      · rw [hvs.len, List.length_take]; exact line_lt (by omega)
      · rw [take_more e]
        exact (hA.move (NegAt.stays s) s3).snoc (s3 _ _ hv) ⟨T, rfl, by rw [del_ne hTD]; exact upd_same⟩
  rintro H2 ⟨s2, hA⟩
  rw [hus.len, TpM.trips, List.length_map, List.take_length] at hA
  obtain ⟨_, vs, e, hv, hvs⟩ := hA.done (NegAt.stays s)
  cases e
  have hk : ∀ v x, NegAt s H2 v x → keyT H2 v = (-Rh12.worth s x.1 x.2, (x.1 : Int), (x.2 : Int)) := by
    rintro v x ⟨b, rfl, hb⟩
    simp only [keyT, hb]
  refine ⟨D, vs, keyT H2, rfl, SqL.of hv, fun v hm => ?_, fun ys pp hsrt hstb hpp => ?_⟩
  · obtain ⟨i, hi⟩ := List.mem_iff_getElem?.mp hm
    obtain ⟨x, hx, b, rfl, hb⟩ := hvs.get hi
    refine ⟨b, rfl, ?_⟩
    rw [hb, hk _ x ⟨b, rfl, hb⟩]
  have s3 := same_upd (o := .lst ys) hpp
  have hmem : ∀ v ∈ ys, ∃ x, NegAt s H2 v x := fun v hm => by
    obtain ⟨i, hi⟩ := List.mem_iff_getElem?.mp (hstb.perm.mem_iff.mp hm)
    obtain ⟨x, _, hx⟩ := hvs.get hi
    exact ⟨x, hx⟩
  have hpas : ∀ v ∈ ys, NegAt s H2 v (toPas (keyT H2 v)) := fun v hm => by
    obtain ⟨x, hx⟩ := hmem v hm
    have e : toPas (keyT H2 v) = x := by
      rw [hk v x hx]
      show ((x.1 : Int).toNat, (x.2 : Int).toNat) = x
      simp
    rw [e]
    exact hx
  have hmap : vs.map (fun v => toPas (keyT H2 v)) = Rh12.all s := by
    have : ∀ {vs : List V} {xs : List Pas}, AllR (NegAt s H2) vs xs → vs.map (fun v => toPas (keyT H2 v)) = xs := by
      intro vs xs h
      induction h with
      | nil => rfl
      | @cons v x vs xs r _ ih =>
        rw [List.map_cons, ih, hk v x r]
        show ((x.1 : Int).toNat, (x.2 : Int).toNat) :: xs = _
        simp
    exact this hvs
  have hperm : (ys.map fun v => toPas (keyT H2 v)).Perm (Rh12.all s) := by rw [← hmap]; exact hstb.perm.map _
  have hnd : (ys.map fun v => toPas (keyT H2 v)).Nodup := hperm.nodup_iff.mpr (TpM.all_nodup s)
  have hord : (ys.map fun v => toPas (keyT H2 v)).Pairwise (TpM.ahead1 s) := by
    rw [List.pairwise_map]
    have h1 : ys.Pairwise fun x y => toPas (keyT H2 x) ≠ toPas (keyT H2 y) := List.pairwise_map.mp hnd
    refine (hsrt.and h1).imp_of_mem fun {x y} hx hy h => ?_
    obtain ⟨h2, h3⟩ := h
    have ex := hk x _ (hpas x hx)
    have ey := hk y _ (hpas y hy)
    have h4 := SrtO.lexT_no.mp h2
    generalize toPas (keyT H2 x) = px at ex h3 ⊢
    generalize toPas (keyT H2 y) = py at ey h3 ⊢
    rw [ex, ey] at h4
    simp only at h4
    unfold TpM.ahead1 TpM.before
    have h5 : ¬ (px.1 = py.1 ∧ px.2 = py.2) := fun z => h3 (Prod.ext z.1 z.2)
    omega
  have hsing := TpM.singles_is (n := n) hord hperm
  have hyl : ys.length ≤ 1200 := by rw [← List.length_map (f := fun v => toPas (keyT H2 v)), hperm.length_eq]; exact hal
  refine ⟨_, rfl, _, rfl, pp, ys, rfl, SqL.of upd_same, fun sp hsp => ?_⟩
  have ecut : cutV ys none (some (n : Int)) = ys.take n := by
    unfold cutV
    rw [HT.sIx_none, HT.sIx_nat, List.drop_zero, Nat.sub_zero]
    rcases Nat.le_total n ys.length with h | h
    · rw [Nat.min_eq_left h]
    · rw [Nat.min_eq_right h, List.take_length, List.take_of_length_le h]
  rw [ecut]
  have s4 := same_upd (o := .lst (ys.take n)) hsp
  have s14 := s1.trans (s2.trans (s3.trans s4))
  have hS : AllR (NegAt s (upd (upd H2 pp (.lst ys)) sp (.lst (ys.take n)))) (ys.take n) (Rh12.singles s n) := by
    rw [← hsing, ← List.map_take]
    have : ∀ vs : List V, (∀ v ∈ vs, NegAt s H2 v (toPas (keyT H2 v))) → AllR (NegAt s H2) vs (vs.map fun v => toPas (keyT H2 v)) := by
      intro vs
      induction vs with
      | nil => intro _; exact .nil
      | cons v vs ih => intro h; exact .cons (h v List.mem_cons_self) (ih fun v hv => h v (List.mem_cons_of_mem _ hv))
    exact (this (ys.take n) fun v hv => hpas v (List.mem_of_mem_take hv)).stay (NegAt.stays s) (s3.trans s4)
  have hsl : (Rh12.singles s n).length ≤ 1200 := by
    rw [← hsing, List.length_take, List.length_map]; omega
  refine ⟨_, rfl, sp, _, rfl, .inl (SqL.of upd_same), sz1, fun l hl => ?_⟩
  have s5 := same_upd (o := .lst [V.int ((ys.take n).length : Nat)]) hl
  have hsp5 := s5 _ _ (show upd (upd H2 pp (.lst ys)) sp (.lst (ys.take n)) sp = _ from upd_same)
  have hS5 := hS.stay (NegAt.stays s) s5
  refine ⟨_, rfl, sp, rfl, ⟨_, SqL.of hsp5⟩, for_list (K := K) (a := sp) (xs := ys.take n) (fun i σ H' => ∃ v2 v3 v4, σ = [some (.ref a), some (.int (n : Nat)), v2, v3, v4, some (.ref sp), some (.ref l)] ∧ Same (upd (upd H2 pp (.lst ys)) sp (.lst (ys.take n))) H' ∧ H' l = some (.lst (.int ((Rh12.singles s n).length : Nat) :: nVs (pairNs ((Rh12.singles s n).take i)))))
    ⟨none, none, none, rfl, s5, by rw [upd_same, hS.len]; rfl⟩ (fun i σ H' _ ⟨_, _, _, _, s6, _⟩ => SqL.of (s6 _ _ upd_same)) ?_ ?_⟩
  · rintro i y σ H3 hi ⟨v2, v3, v4, rfl, s6, hl3⟩
    obtain ⟨x, hx, b, rfl, hb⟩ := hS.get hi
    refine ⟨b, _, rfl, SqT.of (s6 _ _ hb), rfl, _, _, rfl, _, _, rfl, _, _, rfl, rfl, ?_⟩
    refine ⟨_, rfl, .inl ⟨rfl, _, SqL.of hl3⟩, _, rfl, _, rfl, sz2, fun r hr2 => ?_⟩
    have s7 := same_upd (o := .lst [V.int (x.1 : Nat), V.int (x.2 : Nat)]) hr2
    refine ⟨l, r, _, _, rfl, rfl, s7 _ _ hl3, upd_same, ?_, _, _, _, rfl, same_snoc hl (s6.trans s7), ?_⟩
    · rw [List.length_cons, nVs_len, pairNs_len, List.length_take]
      exact line_ok (by show _ + 2 ≤ _; omega)
    · rw [upd_same, pairNs_take hx, nVs_app]
      rfl
  · rintro σ H3 ⟨v2, v3, v4, rfl, s6, hl3⟩
    rw [hS.len, List.take_length] at hl3
    refine ⟨_, rfl, k H3 _ ((s1.trans (s2.trans s3)).trans (s4.trans s6)) ⟨l, rfl, ?_⟩ ⟨l, rfl, s14.free hl⟩⟩
    rw [hl3]
    rfl
end
end Tp

namespace Tp
open PySem PySem.Spec PyProof.Rows L2
open TpM (Pas Trip Sel IsCall)
section
variable {P : Program} {w : World} {K : PySem.W.Frag} {mg : Str → Option Value} {base : Heap} {f : Addr} {fd : FuncData} {CR CT CS CC CD : Addr}
theorem fewest_len (s : Rh12.St) : (Rh12.fewest s).length ≤ s.text.length := by
  unfold Rh12.fewest
  have C := TpM.cover_is s.text 1 (Rh12.wanted s)
  cases e : Rh12.cover 1 s.text (Rh12.wanted s) with
  | none => exact Nat.zero_le _
  | some o =>
    rw [e] at C
    have := TpM.asc_len C.1
    show o.length ≤ _
    omega
/-- every method's call of one kind -/
structure Calls (P : Program) (w : World) (K : PySem.W.Frag) (mg : Str → Option Value) (base : Heap) (CR CT CS CC CD : Addr) : Prop where
  text : MtAt P w K mg base (L2.CX P w) 5 CD "set_text" ["self", "numbers"] (spSetText CR CT CS CD)
  more : MtAt P w K mg base (L2.CX P w) 5 CD "more" ["self", "numbers"] (spMore CR CT CS CD)
  ask : MtAt P w K mg base (L2.CX P w) 4 CD "ask" ["self", "numbers"] (spAsk CR CT CS CD)
  tune : MtAt P w K mg base (L2.CX P w) 4 CD "tune" ["self", "numbers"] (spTune CR CT CS CD)
  frame : MtAt P w K mg base (L2.CX P w) 4 CD "frame" ["self", "most", "gap"] (spFrame CR CT CS CD)
  worth : MtAt P w K mg base (L2.CX P w) 4 CD "worth" ["self", "a", "b"] (spWorth CR CT CS CD)
  best : MtAt P w K mg base (L2.CX P w) 7 CD "best" ["self", "k"] (spBestK CR CT CS CD)
  singles : MtAt P w K mg base CX0 5 CD "singles" ["self", "n"] (spSingles CT CS CD)
  narrow : MtAt P w K mg base (L2.CX P w) 4 CD "narrow" ["self"] (spNarrowD CR CT CS CD)
  fewest : MtAt P w K mg base CX0 4 CD "fewest" ["self"] (spFewestD CT CS CD)
  show_ : MtAt P w K mg base (L2.CX P w) 7 CD "show" ["self", "k"] (spShow CR CT CS CD)
  hidden : MtAt P w K mg base (L2.CX P w) 7 CD "hidden" ["self", "k"] (spHidden CR CT CS CD)
def spOfSetting (CR CT CS CD : Addr) : Sp := fun vs H Q E => ∃ a n ov sv s own sm c, vs = [.ref a, .int (n : Nat), ov, sv] ∧ DeskAt CT CS CD H a s ∧ Ok s ∧ LstN H ov own ∧ LstN H sv sm ∧ IsCall n own sm c ∧ n < 5 ∧ Outs CR CT CS CD H a s c Q E
abbrev sOfSetting : Stmt := meth 41 19
abbrev nOfSetting : List Str := ["self", "number", "own", "some"]
theorem scOfSetting : FnScope nOfSetting ["self", "number", "own", "some"] (defScope sOfSetting) := ⟨rfl, rfl, rfl, by decide +kernel, rfl, by decide +kernel, by decide +kernel⟩
theorem ok_of_setting (F : Fun K "of_setting" "Desk.of_setting" sOfSetting f fd) (C : Cl K mg CT CS CC CD) (M : Calls P w K mg base CR CT CS CC CD) : FnOk P w K mg base (L2.CX P w) 6 f fd ["self", "number", "own", "some"] (spOfSetting CR CT CS CD) := by
  obtain ⟨f0, fd0, G0, m0, b0⟩ := M.text.ex
  obtain ⟨f1, fd1, G1, m1, b1⟩ := M.more.ex
  obtain ⟨f2, fd2, G2, m2, b2⟩ := M.ask.ex
  obtain ⟨f3, fd3, G3, m3, b3⟩ := M.tune.ex
  obtain ⟨f4, fd4, G4, m4, b4⟩ := M.frame.ex
  refine F.okX scOfSetting (fun vs H Q E h => ?_) (fun cdv A outer s H vs Q E hr h => ⟨_, pss_cons (ps_if (pt_cmpR op_eq (pv 1) pe_int (nomark _)) (pss_one (ps_ret (pe_meth (pv 0) C.dk.cl m0 G0 hr b0 .nil (passes_call (takes_of rfl rfl rfl rfl) (fun _ _ _ _ h => h)) (pa_cons (pv 3) pa_nil)))) pss_nil)
    (pss_cons (ps_if (pt_cmpR op_eq (pv 1) pe_int (nomark _)) (pss_one (ps_ret (pe_meth (pv 0) C.dk.cl m1 G1 hr b1 .nil (passes_call (takes_of rfl rfl rfl rfl) (fun _ _ _ _ h => h)) (pa_cons (pv 3) pa_nil)))) pss_nil)
    (pss_cons (ps_if (pt_cmpR op_eq (pv 1) pe_int (nomark _)) (pss_one (ps_ret (pe_meth (pv 0) C.dk.cl m2 G2 (hr.mono (by decide)) b2 .nil (passes_call (takes_of rfl rfl rfl rfl) (fun _ _ _ _ h => h)) (pa_cons (pv 3) pa_nil)))) pss_nil)
    (pss_one (ps_ret (pe_ifExp (pt_cmpR op_eq (pv 1) pe_int (nomark _)) (pe_meth (pv 0) C.dk.cl m3 G3 (hr.mono (by decide)) b3 .nil (passes_call (takes_of rfl rfl rfl rfl) (fun _ _ _ _ h => h)) (pa_cons (pv 2) pa_nil))
      (pe_meth (pv 0) C.dk.cl m4 G4 (hr.mono (by decide)) b4 .nil (passes_call (takes_of rfl rfl rfl rfl) (fun _ _ _ _ h => h)) (pa_cons (pe_ix ix_list (pv 2) pe_int (fun _ _ => rfl)) (pa_cons (pe_ix ix_list (pv 2) pe_int (fun _ _ => rfl)) pa_nil)))))))), ?_⟩)
  · obtain ⟨a, n, ov, sv, s, own, sm, c, rfl, _⟩ := h; rfl
  obtain ⟨a, n, ov, sv, s, own, sm, c, rfl, hD, ok, ho, hs, hc, hn, k⟩ := h
  obtain ⟨dx, t, p, q, st, ha, hP⟩ := id hD
  have no : ∀ i j : Nat, i ≠ j → decide (V.int (i : Int) = V.int (j : Int)) = false := fun i j h => decide_eq_false fun e => h (by have := V.int.inj e; omega)
  cases hc with
  | text l hl => exact ⟨_, rfl, rfl, _, rfl, if_true_of (by decide) ⟨_, rfl, a, dx, _, rfl, ha, rfl, _, rfl, a, sv, s, _, rfl, hD, hs, hl, k⟩⟩
  | more l hl => exact ⟨_, rfl, rfl, _, rfl, if_false_of (by decide) ⟨_, rfl, rfl, _, rfl, if_true_of (by decide) ⟨_, rfl, a, dx, _, rfl, ha, rfl, _, rfl, a, sv, s, _, rfl, hD, ok, hs, hl, k⟩⟩⟩
  | ask l hl => exact ⟨_, rfl, rfl, _, rfl, if_false_of (by decide) ⟨_, rfl, rfl, _, rfl, if_false_of (by decide) ⟨_, rfl, rfl, _, rfl, if_true_of (by decide) ⟨_, rfl, a, dx, _, rfl, ha, rfl, _, rfl, a, sv, s, _, rfl, hD, hs, hl, k⟩⟩⟩⟩
  | tune x1 x2 x3 x4 x5 => exact ⟨_, rfl, rfl, _, rfl, if_false_of (by decide) ⟨_, rfl, rfl, _, rfl, if_false_of (by decide) ⟨_, rfl, rfl, _, rfl, if_false_of (by decide) ⟨_, rfl, rfl, _, rfl, if_true_of (by decide) ⟨_, rfl, a, dx, _, rfl, ha, rfl, _, rfl, a, ov, s, _, _, _, _, _, rfl, hD, ho, k⟩⟩⟩⟩⟩
  | frame x y =>
    obtain ⟨oa, rfl, hoa⟩ := id ho
    exact ⟨_, rfl, rfl, _, rfl, if_false_of (by decide) ⟨_, rfl, rfl, _, rfl, if_false_of (by decide) ⟨_, rfl, rfl, _, rfl, if_false_of (by decide) ⟨_, rfl, rfl, _, rfl, if_false_of (by decide) ⟨_, rfl, a, dx, _, rfl, ha, rfl, _, rfl, oa, _, _, _, rfl, rfl, SqL.of hoa, atI_nat (j := 0) rfl, _, rfl, oa, _, _, _, rfl, rfl, SqL.of hoa, atI_nat (j := 1) rfl, a, s, x, y, rfl, hD, k⟩⟩⟩⟩⟩
  | _ => omega
def spOfAsking (CR CT CS CD : Addr) : Sp := fun vs H Q E => ∃ a n ov s own sm c, vs = [.ref a, .int (n : Nat), ov] ∧ DeskAt CT CS CD H a s ∧ Ok s ∧ LstN H ov own ∧ IsCall n own sm c ∧ 5 ≤ n ∧ Outs CR CT CS CD H a s c Q E
abbrev sOfAsking : Stmt := meth 41 20
abbrev nOfAsking : List Str := ["self", "number", "own"]
theorem scOfAsking : FnScope nOfAsking ["self", "number", "own"] (defScope sOfAsking) := ⟨rfl, rfl, rfl, by decide +kernel, rfl, by decide +kernel, by decide +kernel⟩
theorem ok_of_asking (F : Fun K "of_asking" "Desk.of_asking" sOfAsking f fd) (C : Cl K mg CT CS CC CD) (M : Calls P w K mg base CR CT CS CC CD) : FnOk P w K mg base (L2.CX P w) 8 f fd ["self", "number", "own"] (spOfAsking CR CT CS CD) := by
  obtain ⟨f5, fd5, G5, m5, b5⟩ := M.worth.ex
  obtain ⟨f6, fd6, G6, m6, b6⟩ := M.best.ex
  obtain ⟨f7, fd7, G7, m7, b7⟩ := M.singles.ex
  obtain ⟨f8, fd8, G8, m8, b8⟩ := M.narrow.ex
  obtain ⟨f9, fd9, G9, m9, b9⟩ := M.fewest.ex
  obtain ⟨f10, fd10, G10, m10, b10⟩ := M.show_.ex
  obtain ⟨f11, fd11, G11, m11, b11⟩ := M.hidden.ex
  refine F.okX scOfAsking (fun vs H Q E h => ?_) (fun cdv A outer s H vs Q E hr h => ⟨_, pss_cons (ps_if (pt_cmpR op_eq (pv 1) pe_int (nomark _)) (pss_one (ps_ret (pe_meth (pv 0) C.dk.cl m5 G5 (hr.mono (by decide)) b5 .nil (passes_call (takes_of rfl rfl rfl rfl) (fun _ _ _ _ h => h)) (pa_cons (pe_ix ix_list (pv 2) pe_int (fun _ _ => rfl)) (pa_cons (pe_ix ix_list (pv 2) pe_int (fun _ _ => rfl)) pa_nil))))) pss_nil)
    (pss_cons (ps_if (pt_cmpR op_eq (pv 1) pe_int (nomark _)) (pss_one (ps_ret (pe_meth (pv 0) C.dk.cl m6 G6 hr b6 .nil (passes_call (takes_of rfl rfl rfl rfl) (fun _ _ _ _ h => h)) (pa_cons (pe_ix ix_list (pv 2) pe_int (fun _ _ => rfl)) pa_nil)))) pss_nil)
    (pss_cons (ps_if (pt_cmpR op_eq (pv 1) pe_int (nomark _)) (pss_one (ps_ret (pe_meth (pv 0) C.dk.cl m7 G7 (hr.mono (by decide)) b7 .nil pass0 (pa_cons (pe_ix ix_list (pv 2) pe_int (fun _ _ => rfl)) pa_nil)))) pss_nil)
    (pss_cons (ps_if (pt_cmpR op_eq (pv 1) pe_int (nomark _)) (pss_one (ps_ret (pe_meth0 (pv 0) C.dk.cl m8 G8 (hr.mono (by decide)) b8 .nil (passes_call (takes_of rfl rfl rfl rfl) (fun _ _ _ _ h => h))))) pss_nil)
    (pss_cons (ps_if (pt_cmpR op_eq (pv 1) pe_int (nomark _)) (pss_one (ps_ret (pe_meth0 (pv 0) C.dk.cl m9 G9 (hr.mono (by decide)) b9 .nil pass0))) pss_nil)
    (pss_one (ps_ret (pe_ifExp (pt_cmpR op_eq (pv 1) pe_int (nomark _)) (pe_meth (pv 0) C.dk.cl m10 G10 hr b10 .nil (passes_call (takes_of rfl rfl rfl rfl) (fun _ _ _ _ h => h)) (pa_cons (pe_ix ix_list (pv 2) pe_int (fun _ _ => rfl)) pa_nil))
      (pe_meth (pv 0) C.dk.cl m11 G11 hr b11 .nil (passes_call (takes_of rfl rfl rfl rfl) (fun _ _ _ _ h => h)) (pa_cons (pe_ix ix_list (pv 2) pe_int (fun _ _ => rfl)) pa_nil))))))))), ?_⟩)
  · obtain ⟨a, n, ov, s, own, sm, c, rfl, _⟩ := h; rfl
  obtain ⟨a, n, ov, s, own, sm, c, rfl, hD, ok, ho, hc, hn, k⟩ := h
  obtain ⟨dx, t, p, q, st, ha, hP⟩ := id hD
  obtain ⟨oa, rfl, hoa⟩ := id ho
  cases hc with
  | worth x y => exact ⟨_, rfl, rfl, _, rfl, if_true_of (by decide) ⟨_, rfl, a, dx, _, rfl, ha, rfl, _, rfl, oa, _, _, _, rfl, rfl, SqL.of hoa, atI_nat (j := 0) rfl, _, rfl, oa, _, _, _, rfl, rfl, SqL.of hoa, atI_nat (j := 1) rfl, a, s, x, y, rfl, hD, ok, k⟩⟩
  | best x => exact ⟨_, rfl, rfl, _, rfl, if_false_of (by decide) ⟨_, rfl, rfl, _, rfl, if_true_of (by decide) ⟨_, rfl, a, dx, _, rfl, ha, rfl, _, rfl, oa, _, _, _, rfl, rfl, SqL.of hoa, atI_nat (j := 0) rfl, a, s, x, rfl, hD, ok, k⟩⟩⟩
  | singles x hx => exact ⟨_, rfl, rfl, _, rfl, if_false_of (by decide) ⟨_, rfl, rfl, _, rfl, if_false_of (by decide) ⟨_, rfl, rfl, _, rfl, if_true_of (by decide) ⟨_, rfl, a, dx, _, rfl, ha, rfl, _, rfl, oa, _, _, _, rfl, rfl, SqL.of hoa, atI_nat (j := 0) rfl, a, s, x, rfl, hD, ok, hx, fun H1 v s1 r fr => k.ok H1 v (.of s1) (hD.stay s1) r fr⟩⟩⟩⟩
  | narrow => exact ⟨_, rfl, rfl, _, rfl, if_false_of (by decide) ⟨_, rfl, rfl, _, rfl, if_false_of (by decide) ⟨_, rfl, rfl, _, rfl, if_false_of (by decide) ⟨_, rfl, rfl, _, rfl, if_true_of (by decide) ⟨_, rfl, a, dx, _, rfl, ha, rfl, a, s, rfl, hD, ok, k⟩⟩⟩⟩⟩
  | fewest => exact ⟨_, rfl, rfl, _, rfl, if_false_of (by decide) ⟨_, rfl, rfl, _, rfl, if_false_of (by decide) ⟨_, rfl, rfl, _, rfl, if_false_of (by decide) ⟨_, rfl, rfl, _, rfl, if_false_of (by decide) ⟨_, rfl, rfl, _, rfl, if_true_of (by decide) ⟨_, rfl, a, dx, _, rfl, ha, rfl, a, s, rfl, hD, ok, Nat.le_trans (fewest_len s) (Nat.le_trans ok.len.2 (by decide)), fun H1 v s1 r fr => k.ok H1 v (.of s1) (hD.stay s1) r fr⟩⟩⟩⟩⟩⟩
  | show_ x => exact ⟨_, rfl, rfl, _, rfl, if_false_of (by decide) ⟨_, rfl, rfl, _, rfl, if_false_of (by decide) ⟨_, rfl, rfl, _, rfl, if_false_of (by decide) ⟨_, rfl, rfl, _, rfl, if_false_of (by decide) ⟨_, rfl, rfl, _, rfl, if_false_of (by decide) ⟨_, rfl, rfl, _, rfl, if_true_of (by decide) ⟨_, rfl, a, dx, _, rfl, ha, rfl, _, rfl, oa, _, _, _, rfl, rfl, SqL.of hoa, atI_nat (j := 0) rfl, a, s, x, rfl, hD, ok, k⟩⟩⟩⟩⟩⟩⟩
  | hidden x => exact ⟨_, rfl, rfl, _, rfl, if_false_of (by decide) ⟨_, rfl, rfl, _, rfl, if_false_of (by decide) ⟨_, rfl, rfl, _, rfl, if_false_of (by decide) ⟨_, rfl, rfl, _, rfl, if_false_of (by decide) ⟨_, rfl, rfl, _, rfl, if_false_of (by decide) ⟨_, rfl, rfl, _, rfl, if_false_of (by decide) ⟨_, rfl, a, dx, _, rfl, ha, rfl, _, rfl, oa, _, _, _, rfl, rfl, SqL.of hoa, atI_nat (j := 0) rfl, a, s, x, rfl, hD, ok, k⟩⟩⟩⟩⟩⟩⟩
  | _ => omega
end
end Tp

namespace Tp
open PySem PySem.Spec PyProof.Rows L2
open TpM (Pas Trip Sel IsCall)
section
variable {P : Program} {w : World} {K : PySem.W.Frag} {mg : Str → Option Value} {base : Heap} {f : Addr} {fd : FuncData} {CR CT CS CC CD fR : Addr}
def spAnswer (CT CS CD : Addr) : Sp := fun vs H Q _ => ∃ a n ov sv s own sm c, vs = [.ref a, .int (n : Nat), ov, sv] ∧ DeskAt CT CS CD H a s ∧ Ok s ∧ LstN H ov own ∧ LstN H sv sm ∧ IsCall n own sm c ∧
  ∀ H' v, SameL H H' → DeskAt CT CS CD H' a (Rh12.step s c).1 → IntsAt H' v (Rh12.step s c).2 → Fresh H v → Q v H'
abbrev sAnswer : Stmt := meth 41 21
abbrev nAnswer : List Str := ["self", "number", "own", "some", "e"]
theorem scAnswer : FnScope nAnswer ["self", "number", "own", "some"] (defScope sAnswer) := ⟨rfl, rfl, rfl, by decide +kernel, rfl, by decide +kernel, by decide +kernel⟩
theorem ok_answer (F : Fun K "answer" "Desk.answer" sAnswer f fd) (C : Cl K mg CT CS CC CD) (T : PySem.RefX.RefTxt K mg CR fR) (OS : MtAt P w K mg base (L2.CX P w) 6 CD "of_setting" ["self", "number", "own", "some"] (spOfSetting CR CT CS CD)) (OA : MtAt P w K mg base (L2.CX P w) 8 CD "of_asking" ["self", "number", "own"] (spOfAsking CR CT CS CD)) :
    FnOk P w K mg base CX0 9 f fd ["self", "number", "own", "some"] (spAnswer CT CS CD) := by
  obtain ⟨fS, fdS, GS, mS, bS⟩ := OS.ex
  obtain ⟨fA, fdA, GA, mA, bA⟩ := OA.ex
  refine F.ok scAnswer (fun vs H Q E h => ?_) (fun cdv A outer s H vs Q E hr h => ⟨_, pss_one (ps_try_as (i := 4)
      (tb := fun W => tRet (tIf (tTest (tOp (rI0 fun i j => .bl (decide (i < j))) (tVar 1) (tC (.int 5)))) (tMethAt CD "of_setting" (spOfSetting CR CT CS CD) (WE W) (tVar 0) (tCons (tVar 1) (tCons (tVar 2) (tCons (tVar 3) tNil)))) (tMethAt CD "of_asking" (spOfAsking CR CT CS CD) (WE W) (tVar 0) (tCons (tVar 1) (tCons (tVar 2) tNil)))))
      (ts := fun a cls d => tRet (tLst (tCons (tCode CR a cls d (tVar 4)) tNil))) (Wout := fun _ _ _ _ => False) rfl rfl scAnswer.nd rfl rfl ⟨rfl, by decide, Or.inl T.gC⟩ takes0
      (fun W pn xe tk _ => pss_one (ps_ret (pe_ifExp (pt_cmpR op_lt (pv 1) pe_int (nomark _)) (by exact (pe_methAt (pv 0) C.dk.cl mS GS (hr.mono (by decide)) bS (fun σ => passAt tk σ) (pa_cons (pv 1) (pa_cons (pv 2) (pa_cons (pv 3) pa_nil))))) (by exact (pe_methAt (pv 0) C.dk.cl mA GA hr bA (fun σ => passAt tk σ) (pa_cons (pv 1) (pa_cons (pv 2) pa_nil)))))))
      (fun a oe cls d pn hz hf => pss_one (ps_ret (by exact (pe_lst (pa_cons (pe_code T hz hf (pv 4)) pa_nil)))))), ?_⟩)
  · obtain ⟨a, n, ov, sv, s, own, sm, c, rfl, _⟩ := h; rfl
  obtain ⟨a, n, ov, sv, s, own, sm, c, rfl, hD, ok, ho, hs, hc, k⟩ := h
  obtain ⟨dx, t, p, q, st, ha, hP⟩ := id hD
  refine ⟨_, rfl, _, _, rfl, rfl, _, rfl, ite2 (fun hn => ?_) fun hn => ?_⟩
  · have hn := of_decide_eq_true hn
    refine ⟨_, rfl, a, dx, _, rfl, ha, rfl, _, rfl, _, rfl, _, rfl, a, n, ov, sv, s, own, sm, c, rfl, hD, ok, ho, hs, hc, by omega, fun code hst d H1 s1 hd hd1 => ?_, k⟩
    refine ⟨true, T.te, fun _ a0 ha0 => ?_, fun z => Bool.noConfusion z⟩
    refine ⟨_, rfl, rfl, rfl, d, _, rfl, hd1, sz1, fun l hl => ?_⟩
    have s2 := same_upd (o := .lst [V.int code]) hl
    refine k _ _ (.of (s1.trans s2)) (by rw [hst]; exact hD.stay (s1.trans s2)) ?_ ⟨l, rfl, s1.free hl⟩
    rw [hst]
    exact ⟨l, rfl, upd_same⟩
  · have hn : ¬ (n : Int) < 5 := fun z => hn (decide_eq_true z)
    refine ⟨_, rfl, a, dx, _, rfl, ha, rfl, _, rfl, _, rfl, a, n, ov, s, own, sm, c, rfl, hD, ok, ho, hc, by omega, fun code hst d H1 s1 hd hd1 => ?_, k⟩
    refine ⟨true, T.te, fun _ a0 ha0 => ?_, fun z => Bool.noConfusion z⟩
    refine ⟨_, rfl, rfl, rfl, d, _, rfl, hd1, sz1, fun l hl => ?_⟩
    have s2 := same_upd (o := .lst [V.int code]) hl
    refine k _ _ (.of (s1.trans s2)) (by rw [hst]; exact hD.stay (s1.trans s2)) ?_ ⟨l, rfl, s1.free hl⟩
    rw [hst]
    exact ⟨l, rfl, upd_same⟩
end
end Tp

namespace Tp
open PySem PySem.Spec PyProof.Rows L2
open TpM (Pas Trip Sel IsCall Parse)
theorem ok_step {s : Rh12.St} (h : Ok s) : ∀ c, Ok (Rh12.step s c).1 := by
  intro c
  cases c with
  | text l =>
    show Ok (match Rh12.sentences [] l with | none => (s, [-1]) | some t => if Rh12.isText t = false then (s, [-1]) else ({ s with text := t }, Rh12.ints [t.flatten.length, t.length])).1
    cases Rh12.sentences [] l with
    | none => exact h
    | some t =>
      by_cases c : Rh12.isText t = false
      · rw [show (match some t with | none => (s, [-1]) | some t => if Rh12.isText t = false then (s, [-1]) else ({ s with text := t }, Rh12.ints [t.flatten.length, t.length])) = (s, [-1]) from if_pos c]; exact h
      · rw [show (match some t with | none => (s, [-1]) | some t => if Rh12.isText t = false then (s, [-1]) else ({ s with text := t }, Rh12.ints [t.flatten.length, t.length])) = ({ s with text := t }, Rh12.ints [t.flatten.length, t.length]) from if_neg c]
        exact ⟨by simpa using c, h.ask, h.once, h.each, h.head, h.tail, h.cost, h.wide1, h.wide2, h.gap1, h.gap2⟩
  | more l =>
    cases e : Rh12.sentences [] l with
    | none => rw [step_more_none e]; exact h
    | some t =>
      cases c : Rh12.isText t with
      | false => rw [step_more_bad e c]; exact h
      | true =>
        cases d : Rh12.isText (s.text ++ t) with
        | false => rw [step_more_long e c d]; exact h
        | true => rw [step_more_ok e c d]; exact ⟨d, h.ask, h.once, h.each, h.head, h.tail, h.cost, h.wide1, h.wide2, h.gap1, h.gap2⟩
  | ask l =>
    rw [TpM.step_ask]
    cases e : TpM.askOf l with
    | none => exact h
    | some a => exact ⟨h.text, TpM.askOf_is e, h.once, h.each, h.head, h.tail, h.cost, h.wide1, h.wide2, h.gap1, h.gap2⟩
  | tune a b c d e =>
    show Ok (if 100 < a ∨ 100 < b ∨ 100 < c ∨ 100 < d ∨ 100 < e then (s, [-1]) else ({ s with once := a, each := b, head := c, tail := d, cost := e }, [0])).1
    by_cases g : 100 < a ∨ 100 < b ∨ 100 < c ∨ 100 < d ∨ 100 < e
    · rw [if_pos g]; exact h
    · rw [if_neg g]; exact ⟨h.text, h.ask, by show a ≤ 100; omega, by show b ≤ 100; omega, by show c ≤ 100; omega, by show d ≤ 100; omega, by show e ≤ 100; omega, h.wide1, h.wide2, h.gap1, h.gap2⟩
  | frame x y =>
    show Ok (if x = 0 ∨ 20 < x ∨ y = 0 ∨ 20 < y then (s, [-1]) else ({ s with wide := x, gap := y }, [0])).1
    by_cases g : x = 0 ∨ 20 < x ∨ y = 0 ∨ 20 < y
    · rw [if_pos g]; exact h
    · rw [if_neg g]; exact ⟨h.text, h.ask, h.once, h.each, h.head, h.tail, h.cost, by show 1 ≤ x; omega, by show x ≤ 20; omega, by show 1 ≤ y; omega, by show y ≤ 20; omega⟩
  | _ => exact h
theorem ok_first : Ok Rh12.init := ⟨by decide, by decide, by decide, by decide, by decide, by decide, by decide, by decide, by decide, by decide, by decide⟩
abbrev iVs (l : List Int) : List V := l.map V.int
theorem iVs_at {l : List Int} {i : Nat} {z : Int} (h : l[i]? = some z) : (iVs l)[i]? = some (.int z) := by
  rw [List.getElem?_map, h]; rfl
theorem drop_get {l r : List Int} {i : Nat} {z : Int} (h : l.drop i = z :: r) : l[i]? = some z ∧ l.drop (i + 1) = r := by
  refine ⟨?_, ?_⟩
  · have := congrArg (fun x => x[0]?) h
    simpa using this
  · have := congrArg (fun x => x.drop 1) h
    simpa [List.drop_drop] using this
theorem cut_at {l r : List Int} {m : List Nat} {i : Nat} (h : l.drop i = Rh12.ints m ++ r) : cutV (iVs l) (some (i : Int)) (some ((i + m.length : Nat) : Int)) = nVs m := by
  have hl := congrArg List.length h
  rw [List.length_drop, List.length_append] at hl
  have hm : (Rh12.ints m).length = m.length := by unfold Rh12.ints; rw [List.length_map]
  unfold cutV
  rw [HT.sIx_nat, HT.sIx_nat, List.length_map]
  rcases Nat.le_total i l.length with c | c
  · rw [Nat.min_eq_left c, Nat.min_eq_left (show i + m.length ≤ l.length by omega), Nat.add_sub_cancel_left, ← List.map_drop, h, List.map_append, List.take_append_of_le_length (by rw [List.length_map]; omega), List.take_of_length_le (by rw [List.length_map]; omega)]
    rfl
  · have : m = [] := List.length_eq_zero_iff.mp (by omega)
    subst this
    rw [Nat.min_eq_right c, Nat.min_eq_right (by simpa using c), Nat.sub_self, List.take_zero]
    rfl
theorem drop_app {l r : List Int} {m : List Nat} {i : Nat} (h : l.drop i = Rh12.ints m ++ r) : l.drop (i + m.length) = r := by
  have hm : (Rh12.ints m).length = m.length := by unfold Rh12.ints; rw [List.length_map]
  rw [← List.drop_drop, h, ← hm, List.drop_left]
theorem told_cons (x : List Int) (l : List (List Int)) : PyFlat.told (x :: l) = ((x.length : Nat) : Int) :: (x ++ PyFlat.told l) := by
  unfold PyFlat.told
  rw [List.flatMap_cons]
  rfl
theorem SameL.seq {K : PySem.W.Frag} {H H' : Hp} {a : Addr} {xs : List V} (s : SameL H H') (h : SqL K H a xs) : SqL K H' a xs := by
  rcases h with h | h
  · refine .inl ?_
    rcases h with h | ⟨o, h⟩
    · exact .inl (s _ _ (by intro _ _ _ z; cases z) h)
    · exact .inr ⟨o, s _ _ (by intro _ _ _ z; cases z) h⟩
  · exact .inr h
structure KTup (K : PySem.W.Frag) (mg : Str → Option Value) (x : Str) (l : List Nat) : Prop where
  ex : ∃ a, mg x = some (.ref a) ∧ ∀ H, SqT K H a (nVs l)
theorem pe_kt {X : Cx} {x : Str} {a : Addr} {pos : Pos} (h : X.mg x = some (.ref a)) (hg : Gl X x := by rfl) (hd : (x == ("__debug__" : Str)) = false := by decide) : PE X (.Name x pos) (tC (.ref a)) := pe_glob hg h rfl hd
section
variable {P : Program} {w : World} {K : PySem.W.Frag} {mg : Str → Option Value} {base : Heap} {f : Addr} {fd : FuncData} {CR CT CS CC CD : Addr}
def spAnswers (K : PySem.W.Frag) : Sp := fun vs H Q _ => ∃ ca l, vs = [.ref ca] ∧ SqL K H ca (iVs l) ∧ PyRh12.answers_asked l = true ∧ ∀ H' p, H' p = some (.lst (iVs (PyRh12.answers l))) → Q (.ref p) H'
abbrev sAnswers : Stmt := top 42
abbrev nAnswers : List Str := ["calls", "desk", "found", "at", "number", "many", "own", "some", "answer"]
theorem scAnswers : FnScope nAnswers ["calls"] (defScope sAnswers) := ⟨rfl, rfl, rfl, by decide +kernel, rfl, by decide +kernel, by decide +kernel⟩
def ansInv (K : PySem.W.Frag) (CT CS CD : Addr) (ca d p : Addr) (l : List Int) (m : Nat) (σ : L2.St) (H : Hp) : Prop := ∃ (i : Nat) (s : Rh12.St) (cs : List (List (List Int))) (acc : List Int) (v4 v5 v6 v7 v8 : Option V), m = l.length - i ∧ i ≤ l.length ∧
  σ = [some (.ref ca), some (.ref d), some (.ref p), some (.int (i : Nat)), v4, v5, v6, v7, v8] ∧ SqL K H ca (iVs l) ∧ DeskAt CT CS CD (del p H) d s ∧ Ok s ∧ H p = some (.lst (iVs acc)) ∧ (∃ f, PyFlat.calls PyRh12.shape f (l.drop i) = some cs) ∧ PyInside.calls PyRh12.bound cs = true ∧
  PyRh12.answers l = acc ++ PyFlat.told (PyFlat.played (fun s c => Rh12Neutral.step s (c.headD [])) s (cs.map PyRh12.whole))
theorem ok_answers (F : Fun K "answers" "answers" sAnswers f fd) (B : Blt mg) (C : Cl K mg CT CS CC CD) (MD : MkAt P w K mg base 4 CD ["self"] (spDeskInit CT CS CD)) (MA : MtAt P w K mg base CX0 9 CD "answer" ["self", "number", "own", "some"] (spAnswer CT CS CD))
    (kN : KTup K mg "NUMBERS" [0, 0, 0, 5, 2, 2, 1, 1, 0, 0, 1, 1]) (kL : KTup K mg "WITH_LIST" [0, 1, 2]) : FnOk P w K mg base CX0 10 f fd ["calls"] (spAnswers K) := by
  obtain ⟨fD, fdD, GD, mD, bD⟩ := MD.ex
  obtain ⟨fA, fdA, GA, mA, bA⟩ := MA.ex
  obtain ⟨na, gN, hN⟩ := kN.ex
  obtain ⟨wa, gW, hW⟩ := kL.ex
  refine F.ok scAnswers (fun vs H Q E h => ?_) (fun cdv A outer s H vs Q E hr h => ⟨_, pss_cons (ps_par3 (i := 1) (j := 2) (l := 3) (by rfl) scAnswers.nd rfl rfl rfl (by decide) (by decide) (by decide) rfl rfl rfl (pa_cons (pe_make0 mD GD (hr.mono (by decide)) rfl C.dk.g bD .nil pass0) (pa_cons (pe_lst pa_nil) (pa_cons pe_int pa_nil))) (by rfl))
    (pss_cons (ps_while PassesOwn.never (pt_cmpR op_lt (pv 3) (pe_callB call_len_seq (by rfl) B.len PySem.boot_len (pa_cons (pv 0) pa_nil)) (nomark _))
      (pss_cons (ps_par (i := 4) (j := 5) (by rfl) scAnswers.nd rfl rfl (by decide) rfl rfl (pa_cons (pe_ix ix_list (pv 0) (pv 3) (fun _ _ => rfl)) (pa_cons (pe_ix ix_tup (pe_kt gN) (pe_ix ix_list (pv 0) (pv 3) (fun _ _ => rfl)) (fun _ _ => rfl)) pa_nil)) (by rfl))
      (pss_cons (ps_par (i := 6) (j := 7) (by rfl) scAnswers.nd rfl rfl (by decide) rfl rfl (pa_cons (pe_slice sl_list (pv 0) (po_some (pe_op op_add (pv 3) pe_int)) (po_some (pe_op op_add (pe_op op_add (pv 3) pe_int) (pv 5)))) (pa_cons (pe_lst pa_nil) pa_nil)) (by rfl))
      (pss_cons (ps_aug (i := 3) scAnswers.nd rfl (Or.inl rfl) (pe_op op_add pe_int (pv 5)) ip_add)
      (pss_cons (ps_if (pt_cmpR op_in_seq (pv 4) (pe_kt gW) (by rfl))
        (pss_cons (ps_set (i := 7) scAnswers.nd rfl (Or.inl rfl) (pe_slice sl_list (pv 0) (po_some (pe_op op_add (pv 3) pe_int)) (po_some (pe_op op_add (pe_op op_add (pv 3) pe_int) (pe_ix ix_list (pv 0) (pv 3) (fun _ _ => rfl))))))
          (pss_one (ps_aug (i := 3) scAnswers.nd rfl (Or.inl rfl) (pe_op op_add pe_int (pe_ix ix_list (pv 0) (pv 3) (fun _ _ => rfl))) ip_add))) pss_nil)
      (pss_cons (ps_set (i := 8) scAnswers.nd rfl (Or.inl rfl) (pe_meth (pv 1) C.dk.cl mA (FnOk.apart GA) hr bA .nil pass0 (pa_cons (pv 4) (pa_cons (pv 6) (pa_cons (pv 7) pa_nil)))))
      (pss_cons (ps_expr (pe_bm PySem.F.plainAttrs_list PySem.F.slot_list_append PySem.F.type_list_append mt_append (pv 2) (pa_cons (pe_callB call_len_seq (by rfl) B.len PySem.boot_len (pa_cons (pv 8) pa_nil)) pa_nil)))
      (pss_one (ps_expr (pe_bm PySem.F.plainAttrs_list PySem.F.slot_list_extend PySem.F.type_list_extend mt_extend (pv 2) (pa_cons (pv 8) pa_nil)))))))))))
    (pss_one (ps_ret (pv 2)))), ?_⟩)
  · obtain ⟨ca, l, rfl, _⟩ := h; rfl
  obtain ⟨ca, l, rfl, hca, hask, k⟩ := h
  unfold PyRh12.answers_asked at hask
  cases e0 : PyFlat.calls PyRh12.shape l.length l with
  | none => rw [e0] at hask; cases hask
  | some raw =>
    rw [e0] at hask
    simp only [Bool.and_eq_true] at hask
    obtain ⟨⟨⟨⟨_, _⟩, hin⟩, _⟩, hshort⟩ := hask
    have hans0 : PyRh12.answers l = PyFlat.told (PyFlat.played (fun s c => Rh12Neutral.step s (c.headD [])) Rh12Neutral.start (raw.map PyRh12.whole)) := by
      unfold PyRh12.answers PyRh12.calls
      rw [e0]
    have hmax : (PyRh12.answers l).length ≤ 10000000 := of_decide_eq_true hshort
    intro d ddx hd hddx hne
    have s1 := same_upd (o := .own d) hddx
    have hd2 : (upd H ddx (.own d)) d = none := by rw [upd_ne hne.symm]; exact hd
    have s2 := same_upd (o := .ins CD ddx []) hd2
    refine ⟨d, ddx, rfl, upd_same, fun H1 b1 hD1 => ⟨rfl, Nat.zero_le _, fun p hp => ⟨_, _, _, rfl, ?_⟩⟩⟩
    have s3 : Same _ H1 := (SameBut.trans (.of s2) b1).same hd2
    have s4 := same_upd (o := .lst []) hp
    have s14 := s1.trans (s3.trans s4)
    have hcp : ca ≠ p ∨ ∀ H', SqL K H' ca (iVs l) := by
      rcases hca with h | h
      · refine .inl ?_
        rcases h with h | ⟨o, h⟩
        · exact ne_of_none ((s1.trans s3) _ _ h) hp
        · exact ne_of_none ((s1.trans s3) _ _ h) hp
      · exact .inr fun H' => .inr h
    refine ⟨ansInv K CT CS CD ca d p l, ⟨_, 0, Rh12.init, raw, [], none, none, none, none, none, rfl, Nat.zero_le _, rfl, (SameL.of s14).seq hca, hD1.stay (del_new hp s4), ok_first, upd_same, ⟨l.length, e0⟩, hin, hans0⟩, ?_⟩
    rintro m σ H2 ⟨i, s, cs, acc, v4, v5, v6, v7, v8, rfl, hi, rfl, hca2, hD2, ok, hp2, ⟨fu, hcs⟩, hin2, hans⟩
    refine ⟨_, rfl, _, rfl, ca, _, rfl, .inl hca2, _, _, rfl, rfl, _, rfl, ite2 (fun hlt => ?_) fun hlt => ?_⟩
    · have hlt : i < l.length := by
        have := of_decide_eq_true hlt
        rw [List.length_map] at this
        omega
      obtain ⟨pN, own, sm, c, rest, cs', hP⟩ := TpM.parse hcs hin2 (by intro z; have := congrArg List.length z; rw [List.length_drop] at this; simp at this; omega)
      obtain ⟨hg1, hdr1⟩ := drop_get hP.split
      have hmany : ([0, 0, 0, 5, 2, 2, 1, 1, 0, 0, 1, 1] : List Nat)[pN]? = some (TpM.manyOf pN) := (by decide : ∀ q : Nat, q < 12 → ([0, 0, 0, 5, 2, 2, 1, 1, 0, 0, 1, 1] : List Nat)[q]? = some (TpM.manyOf q)) pN hP.small
      refine ⟨fun σ' H' => ∃ m', m' < l.length - i ∧ ansInv K CT CS CD ca d p l m' σ' H', fun _ _ z => z, ?_⟩
      refine ⟨_, rfl, _, rfl, ca, _, _, _, rfl, rfl, hca2, atI_nat (iVs_at hg1), _, rfl, _, rfl, ca, _, _, _, rfl, rfl, hca2, atI_nat (iVs_at hg1), na, _, _, _, rfl, rfl, hN H2, atI_nat (nVs_at hmany), _, _, rfl, ?_⟩
      refine ⟨_, rfl, _, rfl, _, _, rfl, rfl, _, rfl, _, rfl, _, _, rfl, rfl, _, rfl, _, _, rfl, rfl, _, rfl, ca, _, rfl, hca2, fun q hq => ⟨Nat.zero_le _, fun r0 hr0 => ⟨_, _, rfl, ?_⟩⟩⟩
      have hlen1 := hP.len
      have hsplit : l.drop (i + 1) = Rh12.ints own ++ ((if pN < 3 then ((sm.length : Nat) : Int) :: Rh12.ints sm else []) ++ rest) := by
        rw [hdr1]
        unfold TpM.tail_
        rw [List.append_assoc]
      have ecut : cutV (iVs l) (some ((i : Int) + 1)) (some ((i : Int) + 1 + ((TpM.manyOf pN : Nat) : Int))) = nVs own := by
        have := cut_at hsplit
        rw [hlen1] at this
        rw [← this]
        congr 2
      rw [ecut] at hr0
      rw [ecut]
      have hqr : q ≠ r0 := fun z => by subst z; rw [upd_same] at hr0; cases hr0
      have hr0p : r0 ≠ p := fun z => by subst z; rw [same_upd hq _ _ hp2] at hr0; cases hr0
      have s5 := (same_upd (o := .lst (nVs own)) hq).trans (same_upd (o := .lst []) hr0)
      have hq4 : (upd (upd H2 q (.lst (nVs own))) r0 (.lst [])) q = some (.lst (nVs own)) := by rw [upd_ne hqr, upd_same]
      have hr4 : (upd (upd H2 q (.lst (nVs own))) r0 (.lst [])) r0 = some (.lst []) := upd_same
      generalize upd (upd H2 q (.lst (nVs own))) r0 (.lst []) = H4 at s5 hq4 hr4 ⊢
      have hp4 := s5 _ _ hp2
      have hD4 := hD2.stay (del_but (p := p) (.of s5))
      have hca4 := (SameL.of s5).seq hca2
      have hpq : p ≠ q := ne_of_none hp2 hq
      have hdr2 : l.drop (i + 1 + own.length) = (if pN < 3 then ((sm.length : Nat) : Int) :: Rh12.ints sm else []) ++ rest := drop_app hsplit
      refine ⟨_, rfl, _, rfl, _, _, rfl, rfl, _, _, rfl, rfl, ?_⟩
      refine ⟨_, rfl, wa, _, rfl, .inr (hW _), rfl, flat_nVs _, _, rfl, ?_⟩
      have em := inV_nVs pN [0, 1, 2]
      by_cases c3 : pN < 3
      · rw [if_pos c3] at hdr2
        have ec : ([0, 1, 2] : List Nat).contains pN = true := (by decide : ∀ q : Nat, q < 3 → ([0, 1, 2] : List Nat).contains q = true) pN c3
        obtain ⟨hg2, hdr3⟩ := drop_get (l := l) (i := i + 1 + own.length) hdr2
        have hdr3 : l.drop (i + 1 + own.length + 1) = Rh12.ints sm ++ rest := hdr3
        have eat : ((i : Int) + (1 + ((TpM.manyOf pN : Nat) : Int))) = ((i + 1 + own.length : Nat) : Int) := by rw [hlen1]; omega
        refine if_true_of (em.trans ec) ?_
        refine ⟨_, rfl, _, rfl, _, _, rfl, rfl, _, rfl, _, rfl, _, _, rfl, rfl, _, rfl, _, rfl, ca, _, _, _, rfl, rfl, hca4, (show atI (iVs l) ((i : Int) + (1 + ((TpM.manyOf pN : Nat) : Int))) = some (.int ((sm.length : Nat) : Int)) by rw [eat]; exact atI_nat (iVs_at hg2)), _, _, rfl, rfl, _, rfl, ca, _, rfl, hca4, fun r1 hr1 => ?_⟩
        have ecut2 : cutV (iVs l) (some ((i : Int) + (1 + ((TpM.manyOf pN : Nat) : Int)) + 1)) (some ((i : Int) + (1 + ((TpM.manyOf pN : Nat) : Int)) + 1 + ((sm.length : Nat) : Int))) = nVs sm := by
          have := cut_at hdr3
          rw [← this, eat]
          congr 2
        rw [ecut2]
        have s6' := same_upd (o := .lst (nVs sm)) hr1
        have hr5 : (upd H4 r1 (.lst (nVs sm))) r1 = some (.lst (nVs sm)) := upd_same
        generalize upd H4 r1 (.lst (nVs sm)) = H5 at s6' hr5 ⊢
        have hq5 := s6' _ _ hq4
        have hp5 := s6' _ _ hp4
        have hD5 := hD4.stay (del_but (p := p) (.of s6'))
        have hca5 := (SameL.of s6').seq hca4
        refine ⟨_, rfl, _, rfl, _, rfl, ca, _, _, _, rfl, rfl, hca5, (show atI (iVs l) ((i : Int) + (1 + ((TpM.manyOf pN : Nat) : Int))) = some (.int ((sm.length : Nat) : Int)) by rw [eat]; exact atI_nat (iVs_at hg2)), _, _, rfl, rfl, _, _, rfl, rfl, ?_⟩
        have ez : ((i : Int) + (1 + ((TpM.manyOf pN : Nat) : Int)) + (1 + ((sm.length : Nat) : Int))) = ((i + 1 + own.length + 1 + sm.length : Nat) : Int) := by rw [eat]; omega
        have hend : l.drop (i + 1 + own.length + 1 + sm.length) = rest := drop_app hdr3
        have hle : i + 1 + own.length + 1 + sm.length ≤ l.length := by
          have h1 := congrArg List.length hdr3
          rw [List.length_drop, List.length_append] at h1
          have h2 := lt_of_get hg2
          have h3 : (Rh12.ints sm).length = sm.length := by unfold Rh12.ints; rw [List.length_map]
          omega
        obtain ⟨ddx, dt, dp, dq, dst, hd5, hP5⟩ := id hD5
        have hqp : q ≠ p := hpq.symm
        have hrp : r1 ≠ p := fun z => by subst z; rw [hp4] at hr1; cases hr1
        refine ⟨_, rfl, d, ddx, _, rfl, (del_get hd5).2, rfl, _, rfl, _, rfl, _, rfl, p, iVs acc, hp5, d, pN, .ref q, .ref r1, s, own, sm, c, rfl, hD5, ok, ⟨q, rfl, by rw [del_ne hqp]; exact hq5⟩, ⟨r1, rfl, by rw [del_ne hrp]; exact hr5⟩, hP.call, fun H6 v6 s6 hD6 hv6 hf6 hp6 => ?_⟩
        obtain ⟨al, rfl, hal⟩ := hv6
        have hne : al ≠ p := fun z => by subst z; rw [hp6] at hal; cases hal
        have hpl := hP.played s
        rw [hpl, told_cons] at hans
        have htot := congrArg List.length hans
        rw [List.length_append, List.length_cons, List.length_append] at htot
        have hlen2 : (iVs (Rh12.step s c).2).length = (Rh12.step s c).2.length := List.length_map ..
        have hlen3 : (iVs acc).length = acc.length := List.length_map ..
        refine ⟨_, rfl, .inl ⟨rfl, _, SqL.of upd_same⟩, _, rfl, al, _, rfl, .inl (SqL.of (by rw [upd_ne hne]; exact hal)), p, _, _, rfl, rfl, upd_same, line_lt (by omega), ?_⟩
        refine ⟨_, rfl, .inl ⟨rfl, _, SqL.of upd_same⟩, _, rfl, p, al, _, _, rfl, rfl, upd_same, (by rw [upd_ne hne, upd_ne hne]; exact hal), ?_, ?_⟩
        · rw [List.length_append, hlen3, hlen2]
          exact line_ok (by show acc.length + 1 + _ ≤ _; omega)
        refine ⟨l.length - (i + 1 + own.length + 1 + sm.length), by omega, (i + 1 + own.length + 1 + sm.length), (Rh12.step s c).1, cs', acc ++ (((Rh12.step s c).2.length : Nat) : Int) :: (Rh12.step s c).2, some (.int (pN : Nat)), some (.int (TpM.manyOf pN : Nat)), some (.ref q), some (.ref r1), some (.ref al), rfl, hle, ?_, ?_, ?_, ok_step ok c, ?_, ?_, hP.inside, ?_⟩
        · rw [← ez]; rfl
        · rcases hcp with h | h
          · rcases hca5 with g | g
            · refine .inl ?_
              rcases g with g | ⟨o, g⟩
              · exact .inl (by rw [upd_ne h, upd_ne h, upd_ne h]; exact s6 _ _ (by intro _ _ _ z; cases z) (by rw [del_ne h]; exact g))
              · exact .inr ⟨o, by rw [upd_ne h, upd_ne h, upd_ne h]; exact s6 _ _ (by intro _ _ _ z; cases z) (by rw [del_ne h]; exact g)⟩
            · exact .inr g
          · exact h _
        · rw [del_upd, del_upd, del_upd]
          exact hD6.stay (del_new hp6 (Same.refl _))
        · rw [upd_same, hlen2]
          show some (HO.lst _) = some (HO.lst (List.map V.int (acc ++ _ :: _)))
          rw [List.map_append, List.map_cons, List.append_assoc]
          rfl
        · obtain ⟨f2, hf2⟩ := hP.more
          exact ⟨f2, by rw [hend]; exact hf2⟩
        · rw [hans, List.append_assoc]
          rfl
      · rw [if_neg c3, List.nil_append] at hdr2
        have ec : ([0, 1, 2] : List Nat).contains pN = false := by
          simp
          omega
        have hsm : sm = [] := by
          have := hP.call
          cases this with
          | text l h => exact absurd (by decide) c3
          | more l h => exact absurd (by decide) c3
          | ask l h => exact absurd (by decide) c3
          | _ => rfl
        refine if_false_of (em.trans ec) ?_
        have ez : ((i : Int) + (1 + ((TpM.manyOf pN : Nat) : Int))) = ((i + 1 + own.length : Nat) : Int) := by rw [hlen1]; omega
        have hr5 : H4 r0 = some (.lst (nVs sm)) := by rw [hsm]; exact hr4
        have hq5 := hq4
        have hp5 := hp4
        have hD5 := hD4
        have hca5 := hca4
        have hend : l.drop (i + 1 + own.length) = rest := hdr2
        have hle : i + 1 + own.length ≤ l.length := by
          have h1 := congrArg List.length hsplit
          rw [List.length_drop, List.length_append] at h1
          have h3 : (Rh12.ints own).length = own.length := by unfold Rh12.ints; rw [List.length_map]
          omega
        obtain ⟨ddx, dt, dp, dq, dst, hd5, hP5⟩ := id hD5
        have hqp : q ≠ p := hpq.symm
        have hrp : r0 ≠ p := hr0p
        refine ⟨_, rfl, d, ddx, _, rfl, (del_get hd5).2, rfl, _, rfl, _, rfl, _, rfl, p, iVs acc, hp5, d, pN, .ref q, .ref r0, s, own, sm, c, rfl, hD5, ok, ⟨q, rfl, by rw [del_ne hqp]; exact hq5⟩, ⟨r0, rfl, by rw [del_ne hrp]; exact hr5⟩, hP.call, fun H6 v6 s6 hD6 hv6 hf6 hp6 => ?_⟩
        obtain ⟨al, rfl, hal⟩ := hv6
        have hne : al ≠ p := fun z => by subst z; rw [hp6] at hal; cases hal
        have hpl := hP.played s
        rw [hpl, told_cons] at hans
        have htot := congrArg List.length hans
        rw [List.length_append, List.length_cons, List.length_append] at htot
        have hlen2 : (iVs (Rh12.step s c).2).length = (Rh12.step s c).2.length := List.length_map ..
        have hlen3 : (iVs acc).length = acc.length := List.length_map ..
        refine ⟨_, rfl, .inl ⟨rfl, _, SqL.of upd_same⟩, _, rfl, al, _, rfl, .inl (SqL.of (by rw [upd_ne hne]; exact hal)), p, _, _, rfl, rfl, upd_same, line_lt (by omega), ?_⟩
        refine ⟨_, rfl, .inl ⟨rfl, _, SqL.of upd_same⟩, _, rfl, p, al, _, _, rfl, rfl, upd_same, (by rw [upd_ne hne, upd_ne hne]; exact hal), ?_, ?_⟩
        · rw [List.length_append, hlen3, hlen2]
          exact line_ok (by show acc.length + 1 + _ ≤ _; omega)
        refine ⟨l.length - (i + 1 + own.length), by omega, (i + 1 + own.length), (Rh12.step s c).1, cs', acc ++ (((Rh12.step s c).2.length : Nat) : Int) :: (Rh12.step s c).2, some (.int (pN : Nat)), some (.int (TpM.manyOf pN : Nat)), some (.ref q), some (.ref r0), some (.ref al), rfl, hle, ?_, ?_, ?_, ok_step ok c, ?_, ?_, hP.inside, ?_⟩
        · rw [← ez]; rfl
        · rcases hcp with h | h
          · rcases hca5 with g | g
            · refine .inl ?_
              rcases g with g | ⟨o, g⟩
              · exact .inl (by rw [upd_ne h, upd_ne h, upd_ne h]; exact s6 _ _ (by intro _ _ _ z; cases z) (by rw [del_ne h]; exact g))
              · exact .inr ⟨o, by rw [upd_ne h, upd_ne h, upd_ne h]; exact s6 _ _ (by intro _ _ _ z; cases z) (by rw [del_ne h]; exact g)⟩
            · exact .inr g
          · exact h _
        · rw [del_upd, del_upd, del_upd]
          exact hD6.stay (del_new hp6 (Same.refl _))
        · rw [upd_same, hlen2]
          show some (HO.lst _) = some (HO.lst (List.map V.int (acc ++ _ :: _)))
          rw [List.map_append, List.map_cons, List.append_assoc]
          rfl
        · obtain ⟨f2, hf2⟩ := hP.more
          exact ⟨f2, by rw [hend]; exact hf2⟩
        · rw [hans, List.append_assoc]
          rfl
    · have hge : l.length ≤ i := by
        rcases Nat.lt_or_ge i l.length with h | h
        · exact absurd (decide_eq_true (by rw [List.length_map]; omega)) hlt
        · exact h
      rw [List.drop_of_length_le hge] at hcs
      have hcs0 : cs = [] := by
        cases fu <;> cases hcs <;> rfl
      subst hcs0
      refine ⟨_, rfl, k H2 p ?_⟩
      rw [hp2, hans]
      simp [PyFlat.told, PyFlat.played]
end
end Tp

namespace Tp
open PySem PySem.Spec PyProof.Rows L2
open TpM (Pas Trip Sel IsCall)
/-- a class of errors takes its own errors -/
theorem exm_own {K : PySem.W.Frag} {S : Addr} (h1 : PySem.W.subIn K (.ref S) (.type "BaseException") = some true) (h2 : PySem.W.isClsIn K S = true) (h3 : PySem.W.typeIn K (.ref S) = some (.type "type")) (h4 : PySem.W.subIn K (.ref S) (.ref S) = some true) : PySem.W.exmOne K (.ref S) (.ref S) = some true := by
  have h5 : (PySem.W.clsIn K S).isSome = true := h2
  unfold PySem.W.exmOne PySem.W.kitCls
  simp [h1, h3, h4, h5]
theorem ktup_of {K : PySem.W.Frag} {mg : Str → Option Value} {x : Str} {a : Addr} {d : Option Addr} {its : Array Value} {n : Nat} {sl : Array (Option Value)} {l : List Nat} (g : mg x = some (.ref a)) (h : K.lookup a = some ⟨.type "tuple", d, .seq its n, sl⟩) (hz : its.size ≤ sizeLine) (hv : Vals (nVs l) its.toList) : KTup K mg x l :=
  ⟨a, g, fun H => .inr ⟨_, its, n, h, rfl, rfl, hz, hv⟩⟩
set_option maxHeartbeats 16000000 in
theorem all_mk {P : Program} {w : World} {K : PySem.W.Frag} {h : Heap} {mg : Str → Option Value} {fa : Addr} (X : K.In h) (G : h.Ns mainGlobals mg) (hfa : mg "answers" = some (.ref fa))
    {CT : Addr}
    {CS : Addr}
    {CC : Addr}
    {CD : Addr}
    {CR fR : Addr}
    {f_words : Addr} {od_words an_words : Option Addr} {sl_words : Array (Option Value)} {oc_words kV_words dc_words pm_words cd_words ct_words : Value}
    {f_issmall : Addr} {od_issmall an_issmall : Option Addr} {sl_issmall : Array (Option Value)} {oc_issmall kV_issmall dc_issmall pm_issmall cd_issmall ct_issmall : Value}
    {f_istext : Addr} {od_istext an_istext : Option Addr} {sl_istext : Array (Option Value)} {oc_istext kV_istext dc_istext pm_istext cd_istext ct_istext : Value}
    {f_sents : Addr} {od_sents an_sents : Option Addr} {sl_sents : Array (Option Value)} {oc_sents kV_sents dc_sents pm_sents cd_sents ct_sents : Value}
    {f_textinit : Addr} {od_textinit an_textinit : Option Addr} {sl_textinit : Array (Option Value)} {oc_textinit kV_textinit dc_textinit pm_textinit cd_textinit ct_textinit : Value}
    {f_many : Addr} {od_many an_many : Option Addr} {sl_many : Array (Option Value)} {oc_many kV_many dc_many pm_many cd_many ct_many : Value}
    {f_part : Addr} {od_part an_part : Option Addr} {sl_part : Array (Option Value)} {oc_part kV_part dc_part pm_part cd_part ct_part : Value}
    {f_pairs : Addr} {od_pairs an_pairs : Option Addr} {sl_pairs : Array (Option Value)} {oc_pairs kV_pairs dc_pairs pm_pairs cd_pairs ct_pairs : Value}
    {f_setinit : Addr} {od_setinit an_setinit : Option Addr} {sl_setinit : Array (Option Value)} {oc_setinit kV_setinit dc_setinit pm_setinit cd_setinit ct_setinit : Value}
    {f_settune : Addr} {od_settune an_settune : Option Addr} {sl_settune : Array (Option Value)} {oc_settune kV_settune dc_settune pm_settune cd_settune ct_settune : Value}
    {f_setframe : Addr} {od_setframe an_setframe : Option Addr} {sl_setframe : Array (Option Value)} {oc_setframe kV_setframe dc_setframe pm_setframe cd_setframe ct_setframe : Value}
    {f_hasword : Addr} {od_hasword an_hasword : Option Addr} {sl_hasword : Array (Option Value)} {oc_hasword kV_hasword dc_hasword pm_hasword cd_hasword ct_hasword : Value}
    {f_score : Addr} {od_score an_score : Option Addr} {sl_score : Array (Option Value)} {oc_score kV_score dc_score pm_score cd_score ct_score : Value}
    {f_eligible : Addr} {od_eligible an_eligible : Option Addr} {sl_eligible : Array (Option Value)} {oc_eligible kV_eligible dc_eligible pm_eligible cd_eligible ct_eligible : Value}
    {f_selinit : Addr} {od_selinit an_selinit : Option Addr} {sl_selinit : Array (Option Value)} {oc_selinit kV_selinit dc_selinit pm_selinit cd_selinit ct_selinit : Value}
    {f_rank : Addr} {od_rank an_rank : Option Addr} {sl_rank : Array (Option Value)} {oc_rank kV_rank dc_rank pm_rank cd_rank ct_rank : Value}
    {f_longer : Addr} {od_longer an_longer : Option Addr} {sl_longer : Array (Option Value)} {oc_longer kV_longer dc_longer pm_longer cd_longer ct_longer : Value}
    {f_better : Addr} {od_better an_better : Option Addr} {sl_better : Array (Option Value)} {oc_better kV_better dc_better pm_better cd_better ct_better : Value}
    {f_rowwith : Addr} {od_rowwith an_rowwith : Option Addr} {sl_rowwith : Array (Option Value)} {oc_rowwith kV_rowwith dc_rowwith pm_rowwith cd_rowwith ct_rowwith : Value}
    {f_begins : Addr} {od_begins an_begins : Option Addr} {sl_begins : Array (Option Value)} {oc_begins kV_begins dc_begins pm_begins cd_begins ct_begins : Value}
    {f_bestsel : Addr} {od_bestsel an_bestsel : Option Addr} {sl_bestsel : Array (Option Value)} {oc_bestsel kV_bestsel dc_bestsel pm_bestsel cd_bestsel ct_bestsel : Value}
    {f_wantedin : Addr} {od_wantedin an_wantedin : Option Addr} {sl_wantedin : Array (Option Value)} {oc_wantedin kV_wantedin dc_wantedin pm_wantedin cd_wantedin ct_wantedin : Value}
    {f_narrowest : Addr} {od_narrowest an_narrowest : Option Addr} {sl_narrowest : Array (Option Value)} {oc_narrowest kV_narrowest dc_narrowest pm_narrowest cd_narrowest ct_narrowest : Value}
    {f_onemore : Addr} {od_onemore an_onemore : Option Addr} {sl_onemore : Array (Option Value)} {oc_onemore kV_onemore dc_onemore pm_onemore cd_onemore ct_onemore : Value}
    {f_enough : Addr} {od_enough an_enough : Option Addr} {sl_enough : Array (Option Value)} {oc_enough kV_enough dc_enough pm_enough cd_enough ct_enough : Value}
    {f_fewests : Addr} {od_fewests an_fewests : Option Addr} {sl_fewests : Array (Option Value)} {oc_fewests kV_fewests dc_fewests pm_fewests cd_fewests ct_fewests : Value}
    {f_demand : Addr} {od_demand an_demand : Option Addr} {sl_demand : Array (Option Value)} {oc_demand kV_demand dc_demand pm_demand cd_demand ct_demand : Value}
    {f_deskinit : Addr} {od_deskinit an_deskinit : Option Addr} {sl_deskinit : Array (Option Value)} {oc_deskinit kV_deskinit dc_deskinit pm_deskinit cd_deskinit ct_deskinit : Value}
    {f_told : Addr} {od_told an_told : Option Addr} {sl_told : Array (Option Value)} {oc_told kV_told dc_told pm_told cd_told ct_told : Value}
    {f_sizes : Addr} {od_sizes an_sizes : Option Addr} {sl_sizes : Array (Option Value)} {oc_sizes kV_sizes dc_sizes pm_sizes cd_sizes ct_sizes : Value}
    {f_settext : Addr} {od_settext an_settext : Option Addr} {sl_settext : Array (Option Value)} {oc_settext kV_settext dc_settext pm_settext cd_settext ct_settext : Value}
    {f_more : Addr} {od_more an_more : Option Addr} {sl_more : Array (Option Value)} {oc_more kV_more dc_more pm_more cd_more ct_more : Value}
    {f_wanted : Addr} {od_wanted an_wanted : Option Addr} {sl_wanted : Array (Option Value)} {oc_wanted kV_wanted dc_wanted pm_wanted cd_wanted ct_wanted : Value}
    {f_ask : Addr} {od_ask an_ask : Option Addr} {sl_ask : Array (Option Value)} {oc_ask kV_ask dc_ask pm_ask cd_ask ct_ask : Value}
    {f_tune : Addr} {od_tune an_tune : Option Addr} {sl_tune : Array (Option Value)} {oc_tune kV_tune dc_tune pm_tune cd_tune ct_tune : Value}
    {f_frame : Addr} {od_frame an_frame : Option Addr} {sl_frame : Array (Option Value)} {oc_frame kV_frame dc_frame pm_frame cd_frame ct_frame : Value}
    {f_worth : Addr} {od_worth an_worth : Option Addr} {sl_worth : Array (Option Value)} {oc_worth kV_worth dc_worth pm_worth cd_worth ct_worth : Value}
    {f_passages : Addr} {od_passages an_passages : Option Addr} {sl_passages : Array (Option Value)} {oc_passages kV_passages dc_passages pm_passages cd_passages ct_passages : Value}
    {f_selection : Addr} {od_selection an_selection : Option Addr} {sl_selection : Array (Option Value)} {oc_selection kV_selection dc_selection pm_selection cd_selection ct_selection : Value}
    {f_best : Addr} {od_best an_best : Option Addr} {sl_best : Array (Option Value)} {oc_best kV_best dc_best pm_best cd_best ct_best : Value}
    {f_singles : Addr} {od_singles an_singles : Option Addr} {sl_singles : Array (Option Value)} {oc_singles kV_singles dc_singles pm_singles cd_singles ct_singles : Value}
    {f_narrow : Addr} {od_narrow an_narrow : Option Addr} {sl_narrow : Array (Option Value)} {oc_narrow kV_narrow dc_narrow pm_narrow cd_narrow ct_narrow : Value}
    {f_fewest : Addr} {od_fewest an_fewest : Option Addr} {sl_fewest : Array (Option Value)} {oc_fewest kV_fewest dc_fewest pm_fewest cd_fewest ct_fewest : Value}
    {f_display : Addr} {od_display an_display : Option Addr} {sl_display : Array (Option Value)} {oc_display kV_display dc_display pm_display cd_display ct_display : Value}
    {f_show : Addr} {od_show an_show : Option Addr} {sl_show : Array (Option Value)} {oc_show kV_show dc_show pm_show cd_show ct_show : Value}
    {f_hidden : Addr} {od_hidden an_hidden : Option Addr} {sl_hidden : Array (Option Value)} {oc_hidden kV_hidden dc_hidden pm_hidden cd_hidden ct_hidden : Value}
    {f_ofsetting : Addr} {od_ofsetting an_ofsetting : Option Addr} {sl_ofsetting : Array (Option Value)} {oc_ofsetting kV_ofsetting dc_ofsetting pm_ofsetting cd_ofsetting ct_ofsetting : Value}
    {f_ofasking : Addr} {od_ofasking an_ofasking : Option Addr} {sl_ofasking : Array (Option Value)} {oc_ofasking kV_ofasking dc_ofasking pm_ofasking cd_ofasking ct_ofasking : Value}
    {f_answer : Addr} {od_answer an_answer : Option Addr} {sl_answer : Array (Option Value)} {oc_answer kV_answer dc_answer pm_answer cd_answer ct_answer : Value}
    {f_answers : Addr} {od_answers an_answers : Option Addr} {sl_answers : Array (Option Value)} {oc_answers kV_answers dc_answers pm_answers cd_answers ct_answers : Value}
    {nm q : Str} {N : Addr} {bs : List Value} {sn : List Str} {sub : List Value} {ab : Bool} {col : Option Bool} {dd : Option Addr} {m0 m1 m2 m3 m5 : Option Value} {odR anR : Option Addr} {slR : Array (Option Value)} {ocR dcR pmR cdR ctR : Value}
    {t_MOST_PAIRS : Tok}
    {t_MOST_WORD_scores : Tok}
    {t_MOST_WEIGHT : Tok}
    {t_MOST_SENTENCES : Tok}
    {t_MOST_WORDS : Tok}
    {t_MOST_WORD_texts : Tok}
    {t_MOST_SETTING : Tok}
    {t_MOST_FRAME : Tok}
    {t_MOST_PASSAGES : Tok}
    {t_WRONG : Tok}
    {t_NO_WORD : Tok}
    {t_TOO_LONG : Tok}
    {p_NUMBERS : Addr} {d_NUMBERS : Option Addr} {n_NUMBERS : Nat} {s_NUMBERS : Array (Option Value)} {t_NUMBERS0 t_NUMBERS1 t_NUMBERS2 t_NUMBERS3 t_NUMBERS4 t_NUMBERS5 t_NUMBERS6 t_NUMBERS7 t_NUMBERS8 t_NUMBERS9 t_NUMBERS10 t_NUMBERS11 : Tok}
    {p_WITH_LIST : Addr} {d_WITH_LIST : Option Addr} {n_WITH_LIST : Nat} {s_WITH_LIST : Array (Option Value)} {t_WITH_LIST0 t_WITH_LIST1 t_WITH_LIST2 : Tok}
    (gCT : PySem.W.nsIn K mainGlobals "Text" = some (some (.ref CT)))
    (gCS : PySem.W.nsIn K mainGlobals "Settings" = some (some (.ref CS)))
    (gCC : PySem.W.nsIn K mainGlobals "Selection" = some (some (.ref CC)))
    (gCD : PySem.W.nsIn K mainGlobals "Desk" = some (some (.ref CD)))
    (gCR : PySem.W.nsIn K mainGlobals "Refused" = some (some (.ref CR)))
    (a_words : PySem.W.nsIn K mainGlobals "words_of" = some (some (.ref f_words)))
    (l_words : K.lookup f_words = some ⟨oc_words, od_words, .func (PySem.W.fnOf "words_of" "words_of" (defArgs sWordsOf) (defBody sWordsOf) (defScope sWordsOf) .none kV_words dc_words pm_words an_words cd_words ct_words), sl_words⟩)
    (c_words : PySem.W.codeIn K cd_words "words_of" = true)
    (k_words : PySem.W.keepIn K (.ref f_words) = true)
    (a_issmall : PySem.W.nsIn K mainGlobals "is_small" = some (some (.ref f_issmall)))
    (l_issmall : K.lookup f_issmall = some ⟨oc_issmall, od_issmall, .func (PySem.W.fnOf "is_small" "is_small" (defArgs sIsSmall) (defBody sIsSmall) (defScope sIsSmall) .none kV_issmall dc_issmall pm_issmall an_issmall cd_issmall ct_issmall), sl_issmall⟩)
    (c_issmall : PySem.W.codeIn K cd_issmall "is_small" = true)
    (k_issmall : PySem.W.keepIn K (.ref f_issmall) = true)
    (a_istext : PySem.W.nsIn K mainGlobals "is_text" = some (some (.ref f_istext)))
    (l_istext : K.lookup f_istext = some ⟨oc_istext, od_istext, .func (PySem.W.fnOf "is_text" "is_text" (defArgs sIsText) (defBody sIsText) (defScope sIsText) .none kV_istext dc_istext pm_istext an_istext cd_istext ct_istext), sl_istext⟩)
    (c_istext : PySem.W.codeIn K cd_istext "is_text" = true)
    (k_istext : PySem.W.keepIn K (.ref f_istext) = true)
    (a_sents : PySem.W.nsIn K mainGlobals "sentences_of" = some (some (.ref f_sents)))
    (l_sents : K.lookup f_sents = some ⟨oc_sents, od_sents, .func (PySem.W.fnOf "sentences_of" "sentences_of" (defArgs sSentencesOf) (defBody sSentencesOf) (defScope sSentencesOf) .none kV_sents dc_sents pm_sents an_sents cd_sents ct_sents), sl_sents⟩)
    (c_sents : PySem.W.codeIn K cd_sents "sentences_of" = true)
    (k_sents : PySem.W.keepIn K (.ref f_sents) = true)
    (a_textinit : PySem.W.findIn K (.ref CT) "__init__" = some (some (.ref f_textinit)))
    (i_textinit : PySem.W.isFn K (.ref f_textinit) = true)
    (l_textinit : K.lookup f_textinit = some ⟨oc_textinit, od_textinit, .func (PySem.W.fnOf "__init__" "Text.__init__" (defArgs sTextInit) (defBody sTextInit) (defScope sTextInit) .none kV_textinit dc_textinit pm_textinit an_textinit cd_textinit ct_textinit), sl_textinit⟩)
    (c_textinit : PySem.W.codeIn K cd_textinit "Text.__init__" = true)
    (k_textinit : PySem.W.keepIn K (.ref f_textinit) = true)
    (a_many : PySem.W.findIn K (.ref CT) "many" = some (some (.ref f_many)))
    (i_many : PySem.W.isFn K (.ref f_many) = true)
    (l_many : K.lookup f_many = some ⟨oc_many, od_many, .func (PySem.W.fnOf "many" "Text.many" (defArgs sMany) (defBody sMany) (defScope sMany) .none kV_many dc_many pm_many an_many cd_many ct_many), sl_many⟩)
    (c_many : PySem.W.codeIn K cd_many "Text.many" = true)
    (k_many : PySem.W.keepIn K (.ref f_many) = true)
    (a_part : PySem.W.findIn K (.ref CT) "part" = some (some (.ref f_part)))
    (i_part : PySem.W.isFn K (.ref f_part) = true)
    (l_part : K.lookup f_part = some ⟨oc_part, od_part, .func (PySem.W.fnOf "part" "Text.part" (defArgs sPart) (defBody sPart) (defScope sPart) .none kV_part dc_part pm_part an_part cd_part ct_part), sl_part⟩)
    (c_part : PySem.W.codeIn K cd_part "Text.part" = true)
    (k_part : PySem.W.keepIn K (.ref f_part) = true)
    (a_pairs : PySem.W.nsIn K mainGlobals "pairs_of" = some (some (.ref f_pairs)))
    (l_pairs : K.lookup f_pairs = some ⟨oc_pairs, od_pairs, .func (PySem.W.fnOf "pairs_of" "pairs_of" (defArgs sPairsOf) (defBody sPairsOf) (defScope sPairsOf) .none kV_pairs dc_pairs pm_pairs an_pairs cd_pairs ct_pairs), sl_pairs⟩)
    (c_pairs : PySem.W.codeIn K cd_pairs "pairs_of" = true)
    (k_pairs : PySem.W.keepIn K (.ref f_pairs) = true)
    (a_setinit : PySem.W.findIn K (.ref CS) "__init__" = some (some (.ref f_setinit)))
    (i_setinit : PySem.W.isFn K (.ref f_setinit) = true)
    (l_setinit : K.lookup f_setinit = some ⟨oc_setinit, od_setinit, .func (PySem.W.fnOf "__init__" "Settings.__init__" (defArgs sSetInit) (defBody sSetInit) (defScope sSetInit) .none kV_setinit dc_setinit pm_setinit an_setinit cd_setinit ct_setinit), sl_setinit⟩)
    (c_setinit : PySem.W.codeIn K cd_setinit "Settings.__init__" = true)
    (k_setinit : PySem.W.keepIn K (.ref f_setinit) = true)
    (a_settune : PySem.W.findIn K (.ref CS) "tune" = some (some (.ref f_settune)))
    (i_settune : PySem.W.isFn K (.ref f_settune) = true)
    (l_settune : K.lookup f_settune = some ⟨oc_settune, od_settune, .func (PySem.W.fnOf "tune" "Settings.tune" (defArgs sSetTune) (defBody sSetTune) (defScope sSetTune) .none kV_settune dc_settune pm_settune an_settune cd_settune ct_settune), sl_settune⟩)
    (c_settune : PySem.W.codeIn K cd_settune "Settings.tune" = true)
    (k_settune : PySem.W.keepIn K (.ref f_settune) = true)
    (a_setframe : PySem.W.findIn K (.ref CS) "frame" = some (some (.ref f_setframe)))
    (i_setframe : PySem.W.isFn K (.ref f_setframe) = true)
    (l_setframe : K.lookup f_setframe = some ⟨oc_setframe, od_setframe, .func (PySem.W.fnOf "frame" "Settings.frame" (defArgs sSetFrame) (defBody sSetFrame) (defScope sSetFrame) .none kV_setframe dc_setframe pm_setframe an_setframe cd_setframe ct_setframe), sl_setframe⟩)
    (c_setframe : PySem.W.codeIn K cd_setframe "Settings.frame" = true)
    (k_setframe : PySem.W.keepIn K (.ref f_setframe) = true)
    (a_hasword : PySem.W.nsIn K mainGlobals "has_word" = some (some (.ref f_hasword)))
    (l_hasword : K.lookup f_hasword = some ⟨oc_hasword, od_hasword, .func (PySem.W.fnOf "has_word" "has_word" (defArgs sHasWord) (defBody sHasWord) (defScope sHasWord) .none kV_hasword dc_hasword pm_hasword an_hasword cd_hasword ct_hasword), sl_hasword⟩)
    (c_hasword : PySem.W.codeIn K cd_hasword "has_word" = true)
    (k_hasword : PySem.W.keepIn K (.ref f_hasword) = true)
    (a_score : PySem.W.nsIn K mainGlobals "score_of" = some (some (.ref f_score)))
    (l_score : K.lookup f_score = some ⟨oc_score, od_score, .func (PySem.W.fnOf "score_of" "score_of" (defArgs sScore) (defBody sScore) (defScope sScore) .none kV_score dc_score pm_score an_score cd_score ct_score), sl_score⟩)
    (c_score : PySem.W.codeIn K cd_score "score_of" = true)
    (k_score : PySem.W.keepIn K (.ref f_score) = true)
    (a_eligible : PySem.W.nsIn K mainGlobals "eligible" = some (some (.ref f_eligible)))
    (l_eligible : K.lookup f_eligible = some ⟨oc_eligible, od_eligible, .func (PySem.W.fnOf "eligible" "eligible" (defArgs sEligible) (defBody sEligible) (defScope sEligible) .none kV_eligible dc_eligible pm_eligible an_eligible cd_eligible ct_eligible), sl_eligible⟩)
    (c_eligible : PySem.W.codeIn K cd_eligible "eligible" = true)
    (k_eligible : PySem.W.keepIn K (.ref f_eligible) = true)
    (a_selinit : PySem.W.findIn K (.ref CC) "__init__" = some (some (.ref f_selinit)))
    (i_selinit : PySem.W.isFn K (.ref f_selinit) = true)
    (l_selinit : K.lookup f_selinit = some ⟨oc_selinit, od_selinit, .func (PySem.W.fnOf "__init__" "Selection.__init__" (defArgs sSelInit) (defBody sSelInit) (defScope sSelInit) .none kV_selinit dc_selinit pm_selinit an_selinit cd_selinit ct_selinit), sl_selinit⟩)
    (c_selinit : PySem.W.codeIn K cd_selinit "Selection.__init__" = true)
    (k_selinit : PySem.W.keepIn K (.ref f_selinit) = true)
    (a_rank : PySem.W.findIn K (.ref CC) "rank" = some (some (.ref f_rank)))
    (i_rank : PySem.W.isFn K (.ref f_rank) = true)
    (l_rank : K.lookup f_rank = some ⟨oc_rank, od_rank, .func (PySem.W.fnOf "rank" "Selection.rank" (defArgs sRank) (defBody sRank) (defScope sRank) .none kV_rank dc_rank pm_rank an_rank cd_rank ct_rank), sl_rank⟩)
    (c_rank : PySem.W.codeIn K cd_rank "Selection.rank" = true)
    (k_rank : PySem.W.keepIn K (.ref f_rank) = true)
    (a_longer : PySem.W.nsIn K mainGlobals "longer" = some (some (.ref f_longer)))
    (l_longer : K.lookup f_longer = some ⟨oc_longer, od_longer, .func (PySem.W.fnOf "longer" "longer" (defArgs sLonger) (defBody sLonger) (defScope sLonger) .none kV_longer dc_longer pm_longer an_longer cd_longer ct_longer), sl_longer⟩)
    (c_longer : PySem.W.codeIn K cd_longer "longer" = true)
    (k_longer : PySem.W.keepIn K (.ref f_longer) = true)
    (a_better : PySem.W.nsIn K mainGlobals "better" = some (some (.ref f_better)))
    (l_better : K.lookup f_better = some ⟨oc_better, od_better, .func (PySem.W.fnOf "better" "better" (defArgs sBetter) (defBody sBetter) (defScope sBetter) .none kV_better dc_better pm_better an_better cd_better ct_better), sl_better⟩)
    (c_better : PySem.W.codeIn K cd_better "better" = true)
    (k_better : PySem.W.keepIn K (.ref f_better) = true)
    (a_rowwith : PySem.W.nsIn K mainGlobals "row_with" = some (some (.ref f_rowwith)))
    (l_rowwith : K.lookup f_rowwith = some ⟨oc_rowwith, od_rowwith, .func (PySem.W.fnOf "row_with" "row_with" (defArgs sRowWith) (defBody sRowWith) (defScope sRowWith) .none kV_rowwith dc_rowwith pm_rowwith an_rowwith cd_rowwith ct_rowwith), sl_rowwith⟩)
    (c_rowwith : PySem.W.codeIn K cd_rowwith "row_with" = true)
    (k_rowwith : PySem.W.keepIn K (.ref f_rowwith) = true)
    (a_begins : PySem.W.nsIn K mainGlobals "by_begins" = some (some (.ref f_begins)))
    (l_begins : K.lookup f_begins = some ⟨oc_begins, od_begins, .func (PySem.W.fnOf "by_begins" "by_begins" (defArgs sByBegins) (defBody sByBegins) (defScope sByBegins) .none kV_begins dc_begins pm_begins an_begins cd_begins ct_begins), sl_begins⟩)
    (c_begins : PySem.W.codeIn K cd_begins "by_begins" = true)
    (k_begins : PySem.W.keepIn K (.ref f_begins) = true)
    (a_bestsel : PySem.W.nsIn K mainGlobals "best_selection" = some (some (.ref f_bestsel)))
    (l_bestsel : K.lookup f_bestsel = some ⟨oc_bestsel, od_bestsel, .func (PySem.W.fnOf "best_selection" "best_selection" (defArgs sBest) (defBody sBest) (defScope sBest) .none kV_bestsel dc_bestsel pm_bestsel an_bestsel cd_bestsel ct_bestsel), sl_bestsel⟩)
    (c_bestsel : PySem.W.codeIn K cd_bestsel "best_selection" = true)
    (k_bestsel : PySem.W.keepIn K (.ref f_bestsel) = true)
    (a_wantedin : PySem.W.nsIn K mainGlobals "wanted_in" = some (some (.ref f_wantedin)))
    (l_wantedin : K.lookup f_wantedin = some ⟨oc_wantedin, od_wantedin, .func (PySem.W.fnOf "wanted_in" "wanted_in" (defArgs sWantedIn) (defBody sWantedIn) (defScope sWantedIn) .none kV_wantedin dc_wantedin pm_wantedin an_wantedin cd_wantedin ct_wantedin), sl_wantedin⟩)
    (c_wantedin : PySem.W.codeIn K cd_wantedin "wanted_in" = true)
    (k_wantedin : PySem.W.keepIn K (.ref f_wantedin) = true)
    (a_narrowest : PySem.W.nsIn K mainGlobals "narrowest" = some (some (.ref f_narrowest)))
    (l_narrowest : K.lookup f_narrowest = some ⟨oc_narrowest, od_narrowest, .func (PySem.W.fnOf "narrowest" "narrowest" (defArgs sNarrow) (defBody sNarrow) (defScope sNarrow) .none kV_narrowest dc_narrowest pm_narrowest an_narrowest cd_narrowest ct_narrowest), sl_narrowest⟩)
    (c_narrowest : PySem.W.codeIn K cd_narrowest "narrowest" = true)
    (k_narrowest : PySem.W.keepIn K (.ref f_narrowest) = true)
    (a_onemore : PySem.W.nsIn K mainGlobals "with_one_more" = some (some (.ref f_onemore)))
    (l_onemore : K.lookup f_onemore = some ⟨oc_onemore, od_onemore, .func (PySem.W.fnOf "with_one_more" "with_one_more" (defArgs sOneMore) (defBody sOneMore) (defScope sOneMore) .none kV_onemore dc_onemore pm_onemore an_onemore cd_onemore ct_onemore), sl_onemore⟩)
    (c_onemore : PySem.W.codeIn K cd_onemore "with_one_more" = true)
    (k_onemore : PySem.W.keepIn K (.ref f_onemore) = true)
    (a_enough : PySem.W.nsIn K mainGlobals "are_enough" = some (some (.ref f_enough)))
    (l_enough : K.lookup f_enough = some ⟨oc_enough, od_enough, .func (PySem.W.fnOf "are_enough" "are_enough" (defArgs sEnough) (defBody sEnough) (defScope sEnough) .none kV_enough dc_enough pm_enough an_enough cd_enough ct_enough), sl_enough⟩)
    (c_enough : PySem.W.codeIn K cd_enough "are_enough" = true)
    (k_enough : PySem.W.keepIn K (.ref f_enough) = true)
    (a_fewests : PySem.W.nsIn K mainGlobals "fewest_sentences" = some (some (.ref f_fewests)))
    (l_fewests : K.lookup f_fewests = some ⟨oc_fewests, od_fewests, .func (PySem.W.fnOf "fewest_sentences" "fewest_sentences" (defArgs sFewest) (defBody sFewest) (defScope sFewest) .none kV_fewests dc_fewests pm_fewests an_fewests cd_fewests ct_fewests), sl_fewests⟩)
    (c_fewests : PySem.W.codeIn K cd_fewests "fewest_sentences" = true)
    (k_fewests : PySem.W.keepIn K (.ref f_fewests) = true)
    (a_demand : PySem.W.nsIn K mainGlobals "demand" = some (some (.ref f_demand)))
    (l_demand : K.lookup f_demand = some ⟨oc_demand, od_demand, .func (PySem.W.fnOf "demand" "demand" (defArgs sDemand) (defBody sDemand) (defScope sDemand) .none kV_demand dc_demand pm_demand an_demand cd_demand ct_demand), sl_demand⟩)
    (c_demand : PySem.W.codeIn K cd_demand "demand" = true)
    (k_demand : PySem.W.keepIn K (.ref f_demand) = true)
    (a_deskinit : PySem.W.findIn K (.ref CD) "__init__" = some (some (.ref f_deskinit)))
    (i_deskinit : PySem.W.isFn K (.ref f_deskinit) = true)
    (l_deskinit : K.lookup f_deskinit = some ⟨oc_deskinit, od_deskinit, .func (PySem.W.fnOf "__init__" "Desk.__init__" (defArgs sDeskInit) (defBody sDeskInit) (defScope sDeskInit) .none kV_deskinit dc_deskinit pm_deskinit an_deskinit cd_deskinit ct_deskinit), sl_deskinit⟩)
    (c_deskinit : PySem.W.codeIn K cd_deskinit "Desk.__init__" = true)
    (k_deskinit : PySem.W.keepIn K (.ref f_deskinit) = true)
    (a_told : PySem.W.findIn K (.ref CD) "told_sentences" = some (some (.ref f_told)))
    (i_told : PySem.W.isFn K (.ref f_told) = true)
    (l_told : K.lookup f_told = some ⟨oc_told, od_told, .func (PySem.W.fnOf "told_sentences" "Desk.told_sentences" (defArgs sTold) (defBody sTold) (defScope sTold) .none kV_told dc_told pm_told an_told cd_told ct_told), sl_told⟩)
    (c_told : PySem.W.codeIn K cd_told "Desk.told_sentences" = true)
    (k_told : PySem.W.keepIn K (.ref f_told) = true)
    (a_sizes : PySem.W.findIn K (.ref CD) "sizes" = some (some (.ref f_sizes)))
    (i_sizes : PySem.W.isFn K (.ref f_sizes) = true)
    (l_sizes : K.lookup f_sizes = some ⟨oc_sizes, od_sizes, .func (PySem.W.fnOf "sizes" "Desk.sizes" (defArgs sSizes) (defBody sSizes) (defScope sSizes) .none kV_sizes dc_sizes pm_sizes an_sizes cd_sizes ct_sizes), sl_sizes⟩)
    (c_sizes : PySem.W.codeIn K cd_sizes "Desk.sizes" = true)
    (k_sizes : PySem.W.keepIn K (.ref f_sizes) = true)
    (a_settext : PySem.W.findIn K (.ref CD) "set_text" = some (some (.ref f_settext)))
    (i_settext : PySem.W.isFn K (.ref f_settext) = true)
    (l_settext : K.lookup f_settext = some ⟨oc_settext, od_settext, .func (PySem.W.fnOf "set_text" "Desk.set_text" (defArgs sSetText) (defBody sSetText) (defScope sSetText) .none kV_settext dc_settext pm_settext an_settext cd_settext ct_settext), sl_settext⟩)
    (c_settext : PySem.W.codeIn K cd_settext "Desk.set_text" = true)
    (k_settext : PySem.W.keepIn K (.ref f_settext) = true)
    (a_more : PySem.W.findIn K (.ref CD) "more" = some (some (.ref f_more)))
    (i_more : PySem.W.isFn K (.ref f_more) = true)
    (l_more : K.lookup f_more = some ⟨oc_more, od_more, .func (PySem.W.fnOf "more" "Desk.more" (defArgs sMore) (defBody sMore) (defScope sMore) .none kV_more dc_more pm_more an_more cd_more ct_more), sl_more⟩)
    (c_more : PySem.W.codeIn K cd_more "Desk.more" = true)
    (k_more : PySem.W.keepIn K (.ref f_more) = true)
    (a_wanted : PySem.W.findIn K (.ref CD) "wanted" = some (some (.ref f_wanted)))
    (i_wanted : PySem.W.isFn K (.ref f_wanted) = true)
    (l_wanted : K.lookup f_wanted = some ⟨oc_wanted, od_wanted, .func (PySem.W.fnOf "wanted" "Desk.wanted" (defArgs sWanted) (defBody sWanted) (defScope sWanted) .none kV_wanted dc_wanted pm_wanted an_wanted cd_wanted ct_wanted), sl_wanted⟩)
    (c_wanted : PySem.W.codeIn K cd_wanted "Desk.wanted" = true)
    (k_wanted : PySem.W.keepIn K (.ref f_wanted) = true)
    (a_ask : PySem.W.findIn K (.ref CD) "ask" = some (some (.ref f_ask)))
    (i_ask : PySem.W.isFn K (.ref f_ask) = true)
    (l_ask : K.lookup f_ask = some ⟨oc_ask, od_ask, .func (PySem.W.fnOf "ask" "Desk.ask" (defArgs sAsk) (defBody sAsk) (defScope sAsk) .none kV_ask dc_ask pm_ask an_ask cd_ask ct_ask), sl_ask⟩)
    (c_ask : PySem.W.codeIn K cd_ask "Desk.ask" = true)
    (k_ask : PySem.W.keepIn K (.ref f_ask) = true)
    (a_tune : PySem.W.findIn K (.ref CD) "tune" = some (some (.ref f_tune)))
    (i_tune : PySem.W.isFn K (.ref f_tune) = true)
    (l_tune : K.lookup f_tune = some ⟨oc_tune, od_tune, .func (PySem.W.fnOf "tune" "Desk.tune" (defArgs sTune) (defBody sTune) (defScope sTune) .none kV_tune dc_tune pm_tune an_tune cd_tune ct_tune), sl_tune⟩)
    (c_tune : PySem.W.codeIn K cd_tune "Desk.tune" = true)
    (k_tune : PySem.W.keepIn K (.ref f_tune) = true)
    (a_frame : PySem.W.findIn K (.ref CD) "frame" = some (some (.ref f_frame)))
    (i_frame : PySem.W.isFn K (.ref f_frame) = true)
    (l_frame : K.lookup f_frame = some ⟨oc_frame, od_frame, .func (PySem.W.fnOf "frame" "Desk.frame" (defArgs sFrame) (defBody sFrame) (defScope sFrame) .none kV_frame dc_frame pm_frame an_frame cd_frame ct_frame), sl_frame⟩)
    (c_frame : PySem.W.codeIn K cd_frame "Desk.frame" = true)
    (k_frame : PySem.W.keepIn K (.ref f_frame) = true)
    (a_worth : PySem.W.findIn K (.ref CD) "worth" = some (some (.ref f_worth)))
    (i_worth : PySem.W.isFn K (.ref f_worth) = true)
    (l_worth : K.lookup f_worth = some ⟨oc_worth, od_worth, .func (PySem.W.fnOf "worth" "Desk.worth" (defArgs sWorth) (defBody sWorth) (defScope sWorth) .none kV_worth dc_worth pm_worth an_worth cd_worth ct_worth), sl_worth⟩)
    (c_worth : PySem.W.codeIn K cd_worth "Desk.worth" = true)
    (k_worth : PySem.W.keepIn K (.ref f_worth) = true)
    (a_passages : PySem.W.findIn K (.ref CD) "passages" = some (some (.ref f_passages)))
    (i_passages : PySem.W.isFn K (.ref f_passages) = true)
    (l_passages : K.lookup f_passages = some ⟨oc_passages, od_passages, .func (PySem.W.fnOf "passages" "Desk.passages" (defArgs sPassages) (defBody sPassages) (defScope sPassages) .none kV_passages dc_passages pm_passages an_passages cd_passages ct_passages), sl_passages⟩)
    (c_passages : PySem.W.codeIn K cd_passages "Desk.passages" = true)
    (k_passages : PySem.W.keepIn K (.ref f_passages) = true)
    (a_selection : PySem.W.findIn K (.ref CD) "selection" = some (some (.ref f_selection)))
    (i_selection : PySem.W.isFn K (.ref f_selection) = true)
    (l_selection : K.lookup f_selection = some ⟨oc_selection, od_selection, .func (PySem.W.fnOf "selection" "Desk.selection" (defArgs sSelection) (defBody sSelection) (defScope sSelection) .none kV_selection dc_selection pm_selection an_selection cd_selection ct_selection), sl_selection⟩)
    (c_selection : PySem.W.codeIn K cd_selection "Desk.selection" = true)
    (k_selection : PySem.W.keepIn K (.ref f_selection) = true)
    (a_best : PySem.W.findIn K (.ref CD) "best" = some (some (.ref f_best)))
    (i_best : PySem.W.isFn K (.ref f_best) = true)
    (l_best : K.lookup f_best = some ⟨oc_best, od_best, .func (PySem.W.fnOf "best" "Desk.best" (defArgs sBestK) (defBody sBestK) (defScope sBestK) .none kV_best dc_best pm_best an_best cd_best ct_best), sl_best⟩)
    (c_best : PySem.W.codeIn K cd_best "Desk.best" = true)
    (k_best : PySem.W.keepIn K (.ref f_best) = true)
    (a_singles : PySem.W.findIn K (.ref CD) "singles" = some (some (.ref f_singles)))
    (i_singles : PySem.W.isFn K (.ref f_singles) = true)
    (l_singles : K.lookup f_singles = some ⟨oc_singles, od_singles, .func (PySem.W.fnOf "singles" "Desk.singles" (defArgs sSingles) (defBody sSingles) (defScope sSingles) .none kV_singles dc_singles pm_singles an_singles cd_singles ct_singles), sl_singles⟩)
    (c_singles : PySem.W.codeIn K cd_singles "Desk.singles" = true)
    (k_singles : PySem.W.keepIn K (.ref f_singles) = true)
    (a_narrow : PySem.W.findIn K (.ref CD) "narrow" = some (some (.ref f_narrow)))
    (i_narrow : PySem.W.isFn K (.ref f_narrow) = true)
    (l_narrow : K.lookup f_narrow = some ⟨oc_narrow, od_narrow, .func (PySem.W.fnOf "narrow" "Desk.narrow" (defArgs sNarrowD) (defBody sNarrowD) (defScope sNarrowD) .none kV_narrow dc_narrow pm_narrow an_narrow cd_narrow ct_narrow), sl_narrow⟩)
    (c_narrow : PySem.W.codeIn K cd_narrow "Desk.narrow" = true)
    (k_narrow : PySem.W.keepIn K (.ref f_narrow) = true)
    (a_fewest : PySem.W.findIn K (.ref CD) "fewest" = some (some (.ref f_fewest)))
    (i_fewest : PySem.W.isFn K (.ref f_fewest) = true)
    (l_fewest : K.lookup f_fewest = some ⟨oc_fewest, od_fewest, .func (PySem.W.fnOf "fewest" "Desk.fewest" (defArgs sFewestD) (defBody sFewestD) (defScope sFewestD) .none kV_fewest dc_fewest pm_fewest an_fewest cd_fewest ct_fewest), sl_fewest⟩)
    (c_fewest : PySem.W.codeIn K cd_fewest "Desk.fewest" = true)
    (k_fewest : PySem.W.keepIn K (.ref f_fewest) = true)
    (a_display : PySem.W.findIn K (.ref CD) "display" = some (some (.ref f_display)))
    (i_display : PySem.W.isFn K (.ref f_display) = true)
    (l_display : K.lookup f_display = some ⟨oc_display, od_display, .func (PySem.W.fnOf "display" "Desk.display" (defArgs sDisplay) (defBody sDisplay) (defScope sDisplay) .none kV_display dc_display pm_display an_display cd_display ct_display), sl_display⟩)
    (c_display : PySem.W.codeIn K cd_display "Desk.display" = true)
    (k_display : PySem.W.keepIn K (.ref f_display) = true)
    (a_show : PySem.W.findIn K (.ref CD) "show" = some (some (.ref f_show)))
    (i_show : PySem.W.isFn K (.ref f_show) = true)
    (l_show : K.lookup f_show = some ⟨oc_show, od_show, .func (PySem.W.fnOf "show" "Desk.show" (defArgs sShow) (defBody sShow) (defScope sShow) .none kV_show dc_show pm_show an_show cd_show ct_show), sl_show⟩)
    (c_show : PySem.W.codeIn K cd_show "Desk.show" = true)
    (k_show : PySem.W.keepIn K (.ref f_show) = true)
    (a_hidden : PySem.W.findIn K (.ref CD) "hidden" = some (some (.ref f_hidden)))
    (i_hidden : PySem.W.isFn K (.ref f_hidden) = true)
    (l_hidden : K.lookup f_hidden = some ⟨oc_hidden, od_hidden, .func (PySem.W.fnOf "hidden" "Desk.hidden" (defArgs sHidden) (defBody sHidden) (defScope sHidden) .none kV_hidden dc_hidden pm_hidden an_hidden cd_hidden ct_hidden), sl_hidden⟩)
    (c_hidden : PySem.W.codeIn K cd_hidden "Desk.hidden" = true)
    (k_hidden : PySem.W.keepIn K (.ref f_hidden) = true)
    (a_ofsetting : PySem.W.findIn K (.ref CD) "of_setting" = some (some (.ref f_ofsetting)))
    (i_ofsetting : PySem.W.isFn K (.ref f_ofsetting) = true)
    (l_ofsetting : K.lookup f_ofsetting = some ⟨oc_ofsetting, od_ofsetting, .func (PySem.W.fnOf "of_setting" "Desk.of_setting" (defArgs sOfSetting) (defBody sOfSetting) (defScope sOfSetting) .none kV_ofsetting dc_ofsetting pm_ofsetting an_ofsetting cd_ofsetting ct_ofsetting), sl_ofsetting⟩)
    (c_ofsetting : PySem.W.codeIn K cd_ofsetting "Desk.of_setting" = true)
    (k_ofsetting : PySem.W.keepIn K (.ref f_ofsetting) = true)
    (a_ofasking : PySem.W.findIn K (.ref CD) "of_asking" = some (some (.ref f_ofasking)))
    (i_ofasking : PySem.W.isFn K (.ref f_ofasking) = true)
    (l_ofasking : K.lookup f_ofasking = some ⟨oc_ofasking, od_ofasking, .func (PySem.W.fnOf "of_asking" "Desk.of_asking" (defArgs sOfAsking) (defBody sOfAsking) (defScope sOfAsking) .none kV_ofasking dc_ofasking pm_ofasking an_ofasking cd_ofasking ct_ofasking), sl_ofasking⟩)
    (c_ofasking : PySem.W.codeIn K cd_ofasking "Desk.of_asking" = true)
    (k_ofasking : PySem.W.keepIn K (.ref f_ofasking) = true)
    (a_answer : PySem.W.findIn K (.ref CD) "answer" = some (some (.ref f_answer)))
    (i_answer : PySem.W.isFn K (.ref f_answer) = true)
    (l_answer : K.lookup f_answer = some ⟨oc_answer, od_answer, .func (PySem.W.fnOf "answer" "Desk.answer" (defArgs sAnswer) (defBody sAnswer) (defScope sAnswer) .none kV_answer dc_answer pm_answer an_answer cd_answer ct_answer), sl_answer⟩)
    (c_answer : PySem.W.codeIn K cd_answer "Desk.answer" = true)
    (k_answer : PySem.W.keepIn K (.ref f_answer) = true)
    (a_answers : PySem.W.nsIn K mainGlobals "answers" = some (some (.ref f_answers)))
    (l_answers : K.lookup f_answers = some ⟨oc_answers, od_answers, .func (PySem.W.fnOf "answers" "answers" (defArgs sAnswers) (defBody sAnswers) (defScope sAnswers) .none kV_answers dc_answers pm_answers an_answers cd_answers ct_answers), sl_answers⟩)
    (c_answers : PySem.W.codeIn K cd_answers "answers" = true)
    (k_answers : PySem.W.keepIn K (.ref f_answers) = true)
    (pgCT : PySem.W.plainGet K CT Str.empty = true)
    (hdCT : PySem.W.hasDictIn K CT = true)
    (poCT : PySem.W.plainOver K CT = true)
    (saCT : PySem.W.findIn K (.ref CT) "__setattr__" = some (some (.builtin "object.__setattr__")))
    (mkCT : PySem.W.makesIn K CT = true)
    (kcCT : PySem.W.keepIn K (.ref CT) = true)
    (nCT_sentences : PySem.W.findIn K (.ref CT) "sentences" = some none)
    (nCT_words : PySem.W.findIn K (.ref CT) "words" = some none)
    (nCT_firsts : PySem.W.findIn K (.ref CT) "firsts" = some none)
    (nCT_lasts : PySem.W.findIn K (.ref CT) "lasts" = some none)
    (pgCS : PySem.W.plainGet K CS Str.empty = true)
    (hdCS : PySem.W.hasDictIn K CS = true)
    (poCS : PySem.W.plainOver K CS = true)
    (saCS : PySem.W.findIn K (.ref CS) "__setattr__" = some (some (.builtin "object.__setattr__")))
    (mkCS : PySem.W.makesIn K CS = true)
    (kcCS : PySem.W.keepIn K (.ref CS) = true)
    (nCS_different : PySem.W.findIn K (.ref CS) "different" = some none)
    (nCS_every : PySem.W.findIn K (.ref CS) "every" = some none)
    (nCS_begin : PySem.W.findIn K (.ref CS) "begin" = some none)
    (nCS_end : PySem.W.findIn K (.ref CS) "end" = some none)
    (nCS_cost : PySem.W.findIn K (.ref CS) "cost" = some none)
    (nCS_most : PySem.W.findIn K (.ref CS) "most" = some none)
    (nCS_gap : PySem.W.findIn K (.ref CS) "gap" = some none)
    (pgCC : PySem.W.plainGet K CC Str.empty = true)
    (hdCC : PySem.W.hasDictIn K CC = true)
    (poCC : PySem.W.plainOver K CC = true)
    (saCC : PySem.W.findIn K (.ref CC) "__setattr__" = some (some (.builtin "object.__setattr__")))
    (mkCC : PySem.W.makesIn K CC = true)
    (kcCC : PySem.W.keepIn K (.ref CC) = true)
    (nCC_score : PySem.W.findIn K (.ref CC) "score" = some none)
    (nCC_chosen : PySem.W.findIn K (.ref CC) "chosen" = some none)
    (pgCD : PySem.W.plainGet K CD Str.empty = true)
    (hdCD : PySem.W.hasDictIn K CD = true)
    (poCD : PySem.W.plainOver K CD = true)
    (saCD : PySem.W.findIn K (.ref CD) "__setattr__" = some (some (.builtin "object.__setattr__")))
    (mkCD : PySem.W.makesIn K CD = true)
    (kcCD : PySem.W.keepIn K (.ref CD) = true)
    (nCD_text : PySem.W.findIn K (.ref CD) "text" = some none)
    (nCD_pairs : PySem.W.findIn K (.ref CD) "pairs" = some none)
    (nCD_query : PySem.W.findIn K (.ref CD) "query" = some none)
    (nCD_settings : PySem.W.findIn K (.ref CD) "settings" = some none)
    (xR : K.lookup CR = some (excClassObj nm q CR N bs [.type "Exception", .type "BaseException", .type "object"] true sn sub ab col dd m0 m1 m2 m3 m5 "Exception.__new__"))
    (saR : PySem.W.findIn K (.ref CR) "__setattr__" = some (some (.builtin "object.__setattr__")))
    (gaR : PySem.W.findIn K (.ref CR) "__getattribute__" = some (some (.builtin "BaseException.__getattribute__")))
    (ggR : PySem.W.findIn K (.ref CR) "__getattr__" = some none)
    (nbR : PySem.W.findIn K (.ref CR) "code" = some none)
    (aR : PySem.W.findIn K (.ref CR) "__init__" = some (some (.ref fR)))
    (tR : PySem.W.typeIn K (.ref fR) = some (.type "function"))
    (lR : K.lookup fR = some ⟨ocR, odR, .func (PySem.W.fnOf "__init__" "Refused.__init__" (PySem.RefX.iA ⟨163, 17, 163, 21⟩ ⟨163, 23, 163, 27⟩) (PySem.RefX.iB ⟨164, 8, 164, 12⟩ ⟨164, 8, 164, 17⟩ ⟨164, 20, 164, 24⟩ ⟨164, 8, 164, 24⟩) PySem.RefX.iS .none .none dcR pmR anR cdR ctR), slR⟩)
    (cR : PySem.W.codeIn K cdR "Refused.__init__" = true)
    (kR : PySem.W.keepIn K (.ref CR) = true)
    (eR : PySem.W.subIn K (.ref CR) (.type "BaseException") = some true)
    (yR : PySem.W.typeIn K (.ref CR) = some (.type "type"))
    (dR : PySem.W.hasDictIn K CR = true)
    (iR : PySem.W.isClsIn K CR = true)
    (sR : PySem.W.subIn K (.ref CR) (.ref CR) = some true)
    (v_MOST_PAIRS : PySem.W.nsIn K mainGlobals "MOST_PAIRS" = some (some (.int (6) t_MOST_PAIRS)))
    (v_MOST_WORD_scores : PySem.W.nsIn K mainGlobals "MOST_WORD_scores" = some (some (.int (40) t_MOST_WORD_scores)))
    (v_MOST_WEIGHT : PySem.W.nsIn K mainGlobals "MOST_WEIGHT" = some (some (.int (100) t_MOST_WEIGHT)))
    (v_MOST_SENTENCES : PySem.W.nsIn K mainGlobals "MOST_SENTENCES" = some (some (.int (20) t_MOST_SENTENCES)))
    (v_MOST_WORDS : PySem.W.nsIn K mainGlobals "MOST_WORDS" = some (some (.int (60) t_MOST_WORDS)))
    (v_MOST_WORD_texts : PySem.W.nsIn K mainGlobals "MOST_WORD_texts" = some (some (.int (40) t_MOST_WORD_texts)))
    (v_MOST_SETTING : PySem.W.nsIn K mainGlobals "MOST_SETTING" = some (some (.int (100) t_MOST_SETTING)))
    (v_MOST_FRAME : PySem.W.nsIn K mainGlobals "MOST_FRAME" = some (some (.int (20) t_MOST_FRAME)))
    (v_MOST_PASSAGES : PySem.W.nsIn K mainGlobals "MOST_PASSAGES" = some (some (.int (6) t_MOST_PASSAGES)))
    (v_WRONG : PySem.W.nsIn K mainGlobals "WRONG" = some (some (.int (-1) t_WRONG)))
    (v_NO_WORD : PySem.W.nsIn K mainGlobals "NO_WORD" = some (some (.int (-3) t_NO_WORD)))
    (v_TOO_LONG : PySem.W.nsIn K mainGlobals "TOO_LONG" = some (some (.int (-5) t_TOO_LONG)))
    (v_NUMBERS : PySem.W.nsIn K mainGlobals "NUMBERS" = some (some (.ref p_NUMBERS)))
    (l_NUMBERS : K.lookup p_NUMBERS = some ⟨.type "tuple", d_NUMBERS, .seq #[.int 0 t_NUMBERS0, .int 0 t_NUMBERS1, .int 0 t_NUMBERS2, .int 5 t_NUMBERS3, .int 2 t_NUMBERS4, .int 2 t_NUMBERS5, .int 1 t_NUMBERS6, .int 1 t_NUMBERS7, .int 0 t_NUMBERS8, .int 0 t_NUMBERS9, .int 1 t_NUMBERS10, .int 1 t_NUMBERS11] n_NUMBERS, s_NUMBERS⟩)
    (v_WITH_LIST : PySem.W.nsIn K mainGlobals "WITH_LIST" = some (some (.ref p_WITH_LIST)))
    (l_WITH_LIST : K.lookup p_WITH_LIST = some ⟨.type "tuple", d_WITH_LIST, .seq #[.int 0 t_WITH_LIST0, .int 1 t_WITH_LIST1, .int 2 t_WITH_LIST2] n_WITH_LIST, s_WITH_LIST⟩)
    (z_len : PySem.W.nsIn K mainGlobals "len" = some none)
    (z_range : PySem.W.nsIn K mainGlobals "range" = some none)
    (z_all : PySem.W.nsIn K mainGlobals "all" = some none)
    (z_set : PySem.W.nsIn K mainGlobals "set" = some none)
    (z_sum : PySem.W.nsIn K mainGlobals "sum" = some none)
    (z_any : PySem.W.nsIn K mainGlobals "any" = some none)
    (z_min : PySem.W.nsIn K mainGlobals "min" = some none)
    (z_max : PySem.W.nsIn K mainGlobals "max" = some none)
    (z_int : PySem.W.nsIn K mainGlobals "int" = some none)
    (z_dict : PySem.W.nsIn K mainGlobals "dict" = some none)
    (z_sorted : PySem.W.nsIn K mainGlobals "sorted" = some none)
    (z_enumerate : PySem.W.nsIn K mainGlobals "enumerate" = some none)
    : ∃ fd : FuncData, (∀ (s : Shared) (us : List Value), us.length = (["calls"] : List Str).length → BindsTo s fd ⟨us, []⟩ ((["calls"] : List Str).zip us)) ∧ ∀ base : Heap, K.In base → base.Ns mainGlobals mg → FnOk P w K mg base CX0 10 fa fd ["calls"] (spAnswers K) := by
  have e := hfa.symm.trans (PySem.W.mg_of X G a_answers)
  cases e
  have B : Blt mg := ⟨PySem.W.mg_none_of X G z_len, PySem.W.mg_none_of X G z_range, PySem.W.mg_none_of X G z_all, PySem.W.mg_none_of X G z_set, PySem.W.mg_none_of X G z_sum, PySem.W.mg_none_of X G z_any, PySem.W.mg_none_of X G z_min, PySem.W.mg_none_of X G z_max, PySem.W.mg_none_of X G z_int, PySem.W.mg_none_of X G z_dict, PySem.W.mg_none_of X G z_sorted, PySem.W.mg_none_of X G z_enumerate⟩
  have k_MOST_PAIRS : KInt mg "MOST_PAIRS" (6) := ⟨_, PySem.W.mg_of X G v_MOST_PAIRS⟩
  have k_MOST_WORD_scores : KInt mg "MOST_WORD_scores" (40) := ⟨_, PySem.W.mg_of X G v_MOST_WORD_scores⟩
  have k_MOST_WEIGHT : KInt mg "MOST_WEIGHT" (100) := ⟨_, PySem.W.mg_of X G v_MOST_WEIGHT⟩
  have k_MOST_SENTENCES : KInt mg "MOST_SENTENCES" (20) := ⟨_, PySem.W.mg_of X G v_MOST_SENTENCES⟩
  have k_MOST_WORDS : KInt mg "MOST_WORDS" (60) := ⟨_, PySem.W.mg_of X G v_MOST_WORDS⟩
  have k_MOST_WORD_texts : KInt mg "MOST_WORD_texts" (40) := ⟨_, PySem.W.mg_of X G v_MOST_WORD_texts⟩
  have k_MOST_SETTING : KInt mg "MOST_SETTING" (100) := ⟨_, PySem.W.mg_of X G v_MOST_SETTING⟩
  have k_MOST_FRAME : KInt mg "MOST_FRAME" (20) := ⟨_, PySem.W.mg_of X G v_MOST_FRAME⟩
  have k_MOST_PASSAGES : KInt mg "MOST_PASSAGES" (6) := ⟨_, PySem.W.mg_of X G v_MOST_PASSAGES⟩
  have k_WRONG : KInt mg "WRONG" (-1) := ⟨_, PySem.W.mg_of X G v_WRONG⟩
  have k_NO_WORD : KInt mg "NO_WORD" (-3) := ⟨_, PySem.W.mg_of X G v_NO_WORD⟩
  have k_TOO_LONG : KInt mg "TOO_LONG" (-5) := ⟨_, PySem.W.mg_of X G v_TOO_LONG⟩
  have k_NUMBERS : KTup K mg "NUMBERS" [0, 0, 0, 5, 2, 2, 1, 1, 0, 0, 1, 1] := ktup_of (PySem.W.mg_of X G v_NUMBERS) l_NUMBERS (by show 12 ≤ sizeLine; rw [sizeLine_eq]; omega) (.cons ⟨_, rfl⟩ (.cons ⟨_, rfl⟩ (.cons ⟨_, rfl⟩ (.cons ⟨_, rfl⟩ (.cons ⟨_, rfl⟩ (.cons ⟨_, rfl⟩ (.cons ⟨_, rfl⟩ (.cons ⟨_, rfl⟩ (.cons ⟨_, rfl⟩ (.cons ⟨_, rfl⟩ (.cons ⟨_, rfl⟩ (.cons ⟨_, rfl⟩ (.nil)))))))))))))
  have k_WITH_LIST : KTup K mg "WITH_LIST" [0, 1, 2] := ktup_of (PySem.W.mg_of X G v_WITH_LIST) l_WITH_LIST (by show 3 ≤ sizeLine; rw [sizeLine_eq]; omega) (.cons ⟨_, rfl⟩ (.cons ⟨_, rfl⟩ (.cons ⟨_, rfl⟩ (.nil))))
  have L_tx : ClsAt K mg CT "Text" tFs := by
    refine ⟨⟨pgCT, hdCT, poCT, saCT⟩, fun f hf => ?_, PySem.W.mg_of X G gCT⟩
    simp only [tFs, List.mem_cons, List.not_mem_nil, or_false] at hf
    rcases hf with rfl | rfl | rfl | rfl
    · exact nCT_sentences
    · exact nCT_words
    · exact nCT_firsts
    · exact nCT_lasts
  have L_st : ClsAt K mg CS "Settings" sFs := by
    refine ⟨⟨pgCS, hdCS, poCS, saCS⟩, fun f hf => ?_, PySem.W.mg_of X G gCS⟩
    simp only [sFs, List.mem_cons, List.not_mem_nil, or_false] at hf
    rcases hf with rfl | rfl | rfl | rfl | rfl | rfl | rfl
    · exact nCS_different
    · exact nCS_every
    · exact nCS_begin
    · exact nCS_end
    · exact nCS_cost
    · exact nCS_most
    · exact nCS_gap
  have L_se : ClsAt K mg CC "Selection" cFs := by
    refine ⟨⟨pgCC, hdCC, poCC, saCC⟩, fun f hf => ?_, PySem.W.mg_of X G gCC⟩
    simp only [cFs, List.mem_cons, List.not_mem_nil, or_false] at hf
    rcases hf with rfl | rfl
    · exact nCC_score
    · exact nCC_chosen
  have L_dk : ClsAt K mg CD "Desk" dFs := by
    refine ⟨⟨pgCD, hdCD, poCD, saCD⟩, fun f hf => ?_, PySem.W.mg_of X G gCD⟩
    simp only [dFs, List.mem_cons, List.not_mem_nil, or_false] at hf
    rcases hf with rfl | rfl | rfl | rfl
    · exact nCD_text
    · exact nCD_pairs
    · exact nCD_query
    · exact nCD_settings
  have L : Cl K mg CT CS CC CD := ⟨L_tx, L_st, L_se, L_dk⟩
  have TR : PySem.RefX.RefTxt K mg CR fR :=
    { gC := PySem.W.mg_of X G gCR, cls := ⟨nm, q, N, bs, _, sn, sub, ab, col, dd, m0, m1, m2, m3, m5, xR, by rfl⟩, sa := saR, ga := gaR, gg := ggR, noN := nbR, iC := aR, tC := tR, kC := kR, exC := eR, tyC := yR, hdC := dR, te := exm_own eR iR yR sR,
      fn := ⟨_, _, _, _, _, _, _, _, _, _, _, _, _, _, lR, cR⟩ }
  have F_words := fun_mk (st := sWordsOf) l_words c_words k_words
  have b_words := F_words.binds (ps := ["sentences"]) fun _ _ _ _ _ _ us hl => match us, hl with | [_], _ => rfl
  have F_issmall := fun_mk (st := sIsSmall) l_issmall c_issmall k_issmall
  have b_issmall := F_issmall.binds (ps := ["sentences"]) fun _ _ _ _ _ _ us hl => match us, hl with | [_], _ => rfl
  have F_istext := fun_mk (st := sIsText) l_istext c_istext k_istext
  have b_istext := F_istext.binds (ps := ["sentences"]) fun _ _ _ _ _ _ us hl => match us, hl with | [_], _ => rfl
  have F_sents := fun_mk (st := sSentencesOf) l_sents c_sents k_sents
  have b_sents := F_sents.binds (ps := ["numbers"]) fun _ _ _ _ _ _ us hl => match us, hl with | [_], _ => rfl
  have F_textinit := fun_mk (st := sTextInit) l_textinit c_textinit k_textinit
  have b_textinit := F_textinit.binds (ps := ["self", "sentences"]) fun _ _ _ _ _ _ us hl => match us, hl with | [_, _], _ => rfl
  have F_many := fun_mk (st := sMany) l_many c_many k_many
  have b_many := F_many.binds (ps := ["self"]) fun _ _ _ _ _ _ us hl => match us, hl with | [_], _ => rfl
  have F_part := fun_mk (st := sPart) l_part c_part k_part
  have b_part := F_part.binds (ps := ["self", "a", "b"]) fun _ _ _ _ _ _ us hl => match us, hl with | [_, _, _], _ => rfl
  have F_pairs := fun_mk (st := sPairsOf) l_pairs c_pairs k_pairs
  have b_pairs := F_pairs.binds (ps := ["numbers"]) fun _ _ _ _ _ _ us hl => match us, hl with | [_], _ => rfl
  have F_setinit := fun_mk (st := sSetInit) l_setinit c_setinit k_setinit
  have b_setinit := F_setinit.binds (ps := ["self"]) fun _ _ _ _ _ _ us hl => match us, hl with | [_], _ => rfl
  have F_settune := fun_mk (st := sSetTune) l_settune c_settune k_settune
  have b_settune := F_settune.binds (ps := ["self", "numbers"]) fun _ _ _ _ _ _ us hl => match us, hl with | [_, _], _ => rfl
  have F_setframe := fun_mk (st := sSetFrame) l_setframe c_setframe k_setframe
  have b_setframe := F_setframe.binds (ps := ["self", "most", "gap"]) fun _ _ _ _ _ _ us hl => match us, hl with | [_, _, _], _ => rfl
  have F_hasword := fun_mk (st := sHasWord) l_hasword c_hasword k_hasword
  have b_hasword := F_hasword.binds (ps := ["text", "query", "a", "b"]) fun _ _ _ _ _ _ us hl => match us, hl with | [_, _, _, _], _ => rfl
  have F_score := fun_mk (st := sScore) l_score c_score k_score
  have b_score := F_score.binds (ps := ["text", "query", "settings", "a", "b"]) fun _ _ _ _ _ _ us hl => match us, hl with | [_, _, _, _, _], _ => rfl
  have F_eligible := fun_mk (st := sEligible) l_eligible c_eligible k_eligible
  have b_eligible := F_eligible.binds (ps := ["text", "query", "settings"]) fun _ _ _ _ _ _ us hl => match us, hl with | [_, _, _], _ => rfl
  have F_selinit := fun_mk (st := sSelInit) l_selinit c_selinit k_selinit
  have b_selinit := F_selinit.binds (ps := ["self", "score", "passages"]) fun _ _ _ _ _ _ us hl => match us, hl with | [_, _, _], _ => rfl
  have F_rank := fun_mk (st := sRank) l_rank c_rank k_rank
  have b_rank := F_rank.binds (ps := ["self"]) fun _ _ _ _ _ _ us hl => match us, hl with | [_], _ => rfl
  have F_longer := fun_mk (st := sLonger) l_longer c_longer k_longer
  have b_longer := F_longer.binds (ps := ["passage", "rest"]) fun _ _ _ _ _ _ us hl => match us, hl with | [_, _], _ => rfl
  have F_better := fun_mk (st := sBetter) l_better c_better k_better
  have b_better := F_better.binds (ps := ["one", "other"]) fun _ _ _ _ _ _ us hl => match us, hl with | [_, _], _ => rfl
  have F_rowwith := fun_mk (st := sRowWith) l_rowwith c_rowwith k_rowwith
  have b_rowwith := F_rowwith.binds (ps := ["passages", "many", "gap", "before"]) fun _ _ _ _ _ _ us hl => match us, hl with | [_, _, _, _], _ => rfl
  have F_begins := fun_mk (st := sByBegins) l_begins c_begins k_begins
  have b_begins := F_begins.binds (ps := ["passages", "many"]) fun _ _ _ _ _ _ us hl => match us, hl with | [_, _], _ => rfl
  have F_bestsel := fun_mk (st := sBest) l_bestsel c_bestsel k_bestsel
  have b_bestsel := F_bestsel.binds (ps := ["passages", "many", "gap", "k"]) fun _ _ _ _ _ _ us hl => match us, hl with | [_, _, _, _], _ => rfl
  have F_wantedin := fun_mk (st := sWantedIn) l_wantedin c_wantedin k_wantedin
  have b_wantedin := F_wantedin.binds (ps := ["words", "wanted"]) fun _ _ _ _ _ _ us hl => match us, hl with | [_, _], _ => rfl
  have F_narrowest := fun_mk (st := sNarrow) l_narrowest c_narrowest k_narrowest
  have b_narrowest := F_narrowest.binds (ps := ["text", "wanted"]) fun _ _ _ _ _ _ us hl => match us, hl with | [_, _], _ => rfl
  have F_onemore := fun_mk (st := sOneMore) l_onemore c_onemore k_onemore
  have b_onemore := F_onemore.binds (ps := ["sets", "many"]) fun _ _ _ _ _ _ us hl => match us, hl with | [_, _], _ => rfl
  have F_enough := fun_mk (st := sEnough) l_enough c_enough k_enough
  have b_enough := F_enough.binds (ps := ["text", "wanted", "numbers"]) fun _ _ _ _ _ _ us hl => match us, hl with | [_, _, _], _ => rfl
  have F_fewests := fun_mk (st := sFewest) l_fewests c_fewests k_fewests
  have b_fewests := F_fewests.binds (ps := ["text", "wanted"]) fun _ _ _ _ _ _ us hl => match us, hl with | [_, _], _ => rfl
  have F_demand := fun_mk (st := sDemand) l_demand c_demand k_demand
  have b_demand := F_demand.binds (ps := ["is_right", "code"]) fun _ _ _ _ _ _ us hl => match us, hl with | [_, _], _ => rfl
  have F_deskinit := fun_mk (st := sDeskInit) l_deskinit c_deskinit k_deskinit
  have b_deskinit := F_deskinit.binds (ps := ["self"]) fun _ _ _ _ _ _ us hl => match us, hl with | [_], _ => rfl
  have F_told := fun_mk (st := sTold) l_told c_told k_told
  have b_told := F_told.binds (ps := ["self", "numbers"]) fun _ _ _ _ _ _ us hl => match us, hl with | [_, _], _ => rfl
  have F_sizes := fun_mk (st := sSizes) l_sizes c_sizes k_sizes
  have b_sizes := F_sizes.binds (ps := ["self"]) fun _ _ _ _ _ _ us hl => match us, hl with | [_], _ => rfl
  have F_settext := fun_mk (st := sSetText) l_settext c_settext k_settext
  have b_settext := F_settext.binds (ps := ["self", "numbers"]) fun _ _ _ _ _ _ us hl => match us, hl with | [_, _], _ => rfl
  have F_more := fun_mk (st := sMore) l_more c_more k_more
  have b_more := F_more.binds (ps := ["self", "numbers"]) fun _ _ _ _ _ _ us hl => match us, hl with | [_, _], _ => rfl
  have F_wanted := fun_mk (st := sWanted) l_wanted c_wanted k_wanted
  have b_wanted := F_wanted.binds (ps := ["self"]) fun _ _ _ _ _ _ us hl => match us, hl with | [_], _ => rfl
  have F_ask := fun_mk (st := sAsk) l_ask c_ask k_ask
  have b_ask := F_ask.binds (ps := ["self", "numbers"]) fun _ _ _ _ _ _ us hl => match us, hl with | [_, _], _ => rfl
  have F_tune := fun_mk (st := sTune) l_tune c_tune k_tune
  have b_tune := F_tune.binds (ps := ["self", "numbers"]) fun _ _ _ _ _ _ us hl => match us, hl with | [_, _], _ => rfl
  have F_frame := fun_mk (st := sFrame) l_frame c_frame k_frame
  have b_frame := F_frame.binds (ps := ["self", "most", "gap"]) fun _ _ _ _ _ _ us hl => match us, hl with | [_, _, _], _ => rfl
  have F_worth := fun_mk (st := sWorth) l_worth c_worth k_worth
  have b_worth := F_worth.binds (ps := ["self", "a", "b"]) fun _ _ _ _ _ _ us hl => match us, hl with | [_, _, _], _ => rfl
  have F_passages := fun_mk (st := sPassages) l_passages c_passages k_passages
  have b_passages := F_passages.binds (ps := ["self"]) fun _ _ _ _ _ _ us hl => match us, hl with | [_], _ => rfl
  have F_selection := fun_mk (st := sSelection) l_selection c_selection k_selection
  have b_selection := F_selection.binds (ps := ["self", "k"]) fun _ _ _ _ _ _ us hl => match us, hl with | [_, _], _ => rfl
  have F_best := fun_mk (st := sBestK) l_best c_best k_best
  have b_best := F_best.binds (ps := ["self", "k"]) fun _ _ _ _ _ _ us hl => match us, hl with | [_, _], _ => rfl
  have F_singles := fun_mk (st := sSingles) l_singles c_singles k_singles
  have b_singles := F_singles.binds (ps := ["self", "n"]) fun _ _ _ _ _ _ us hl => match us, hl with | [_, _], _ => rfl
  have F_narrow := fun_mk (st := sNarrowD) l_narrow c_narrow k_narrow
  have b_narrow := F_narrow.binds (ps := ["self"]) fun _ _ _ _ _ _ us hl => match us, hl with | [_], _ => rfl
  have F_fewest := fun_mk (st := sFewestD) l_fewest c_fewest k_fewest
  have b_fewest := F_fewest.binds (ps := ["self"]) fun _ _ _ _ _ _ us hl => match us, hl with | [_], _ => rfl
  have F_display := fun_mk (st := sDisplay) l_display c_display k_display
  have b_display := F_display.binds (ps := ["self", "a", "b"]) fun _ _ _ _ _ _ us hl => match us, hl with | [_, _, _], _ => rfl
  have F_show := fun_mk (st := sShow) l_show c_show k_show
  have b_show := F_show.binds (ps := ["self", "k"]) fun _ _ _ _ _ _ us hl => match us, hl with | [_, _], _ => rfl
  have F_hidden := fun_mk (st := sHidden) l_hidden c_hidden k_hidden
  have b_hidden := F_hidden.binds (ps := ["self", "k"]) fun _ _ _ _ _ _ us hl => match us, hl with | [_, _], _ => rfl
  have F_ofsetting := fun_mk (st := sOfSetting) l_ofsetting c_ofsetting k_ofsetting
  have b_ofsetting := F_ofsetting.binds (ps := ["self", "number", "own", "some"]) fun _ _ _ _ _ _ us hl => match us, hl with | [_, _, _, _], _ => rfl
  have F_ofasking := fun_mk (st := sOfAsking) l_ofasking c_ofasking k_ofasking
  have b_ofasking := F_ofasking.binds (ps := ["self", "number", "own"]) fun _ _ _ _ _ _ us hl => match us, hl with | [_, _, _], _ => rfl
  have F_answer := fun_mk (st := sAnswer) l_answer c_answer k_answer
  have b_answer := F_answer.binds (ps := ["self", "number", "own", "some"]) fun _ _ _ _ _ _ us hl => match us, hl with | [_, _, _, _], _ => rfl
  have F_answers := fun_mk (st := sAnswers) l_answers c_answers k_answers
  have b_answers := F_answers.binds (ps := ["calls"]) fun _ _ _ _ _ _ us hl => match us, hl with | [_], _ => rfl
  refine ⟨PySem.W.fnOf "answers" "answers" (defArgs sAnswers) (defBody sAnswers) (defScope sAnswers) .none kV_answers dc_answers pm_answers an_answers cd_answers ct_answers, fun s us hu => match us, hu with | [_], _ => .of_eq rfl, fun base _ _ => ?_⟩
  have A_words : FnAt P w K mg base (CX0) 1 "words_of" ["sentences"] spWordsOf := ⟨_, _, ok_words_of F_words, PySem.W.mg_of X G a_words, k_words, b_words⟩
  have A_issmall : FnAt P w K mg base (CX0) 2 "is_small" ["sentences"] spIsSmall := ⟨_, _, ok_is_small F_issmall B A_words k_MOST_SENTENCES k_MOST_WORDS, PySem.W.mg_of X G a_issmall, k_issmall, b_issmall⟩
  have A_istext : FnAt P w K mg base (CX0) 3 "is_text" ["sentences"] spIsText := ⟨_, _, ok_is_text F_istext B A_words A_issmall k_MOST_WORD_texts, PySem.W.mg_of X G a_istext, k_istext, b_istext⟩
  have A_sents : FnAt P w K mg base (CX0) 1 "sentences_of" ["numbers"] spSentencesOf := ⟨_, _, ok_sentences_of F_sents, PySem.W.mg_of X G a_sents, k_sents, b_sents⟩
  have A_textinit : MkAt P w K mg base 2 CT ["self", "sentences"] (spTextInit CT) := ⟨_, _, ok_textInit F_textinit B L_tx A_words, ⟨mkCT, a_textinit, i_textinit, kcCT⟩, b_textinit⟩
  have A_many : MtAt P w K mg base (CX0) 1 CT "many" ["self"] (spMany CT) := ⟨_, _, ok_many F_many B L_tx, ⟨a_many, i_many, k_many⟩, b_many⟩
  have A_part : MtAt P w K mg base (CX0) 1 CT "part" ["self", "a", "b"] (spPart CT) := ⟨_, _, ok_part F_part L_tx, ⟨a_part, i_part, k_part⟩, b_part⟩
  have A_pairs : FnAt P w K mg base (CX0) 1 "pairs_of" ["numbers"] spPairsOf := ⟨_, _, ok_pairs_of F_pairs B k_MOST_PAIRS k_MOST_WORD_scores k_MOST_WEIGHT, PySem.W.mg_of X G a_pairs, k_pairs, b_pairs⟩
  have A_setinit : MkAt P w K mg base 1 CS ["self"] (spSetInit CS) := ⟨_, _, ok_setInit F_setinit L_st, ⟨mkCS, a_setinit, i_setinit, kcCS⟩, b_setinit⟩
  have A_settune : MtAt P w K mg base (CX0) 1 CS "tune" ["self", "numbers"] (spSetTune CS) := ⟨_, _, ok_setTune F_settune L_st, ⟨a_settune, i_settune, k_settune⟩, b_settune⟩
  have A_setframe : MtAt P w K mg base (CX0) 1 CS "frame" ["self", "most", "gap"] (spSetFrame CS) := ⟨_, _, ok_setFrame F_setframe L_st, ⟨a_setframe, i_setframe, k_setframe⟩, b_setframe⟩
  have A_hasword : FnAt P w K mg base (CX0) 2 "has_word" ["text", "query", "a", "b"] (spHasWord CT) := ⟨_, _, ok_has_word F_hasword B L_tx A_part, PySem.W.mg_of X G a_hasword, k_hasword, b_hasword⟩
  have A_score : FnAt P w K mg base (CX0) 2 "score_of" ["text", "query", "settings", "a", "b"] (spScore CT CS) := ⟨_, _, ok_score F_score B L_tx L_st A_part, PySem.W.mg_of X G a_score, k_score, b_score⟩
  have A_eligible : FnAt P w K mg base (CX0) 3 "eligible" ["text", "query", "settings"] (spEligible CT CS) := ⟨_, _, ok_eligible F_eligible B L_tx L_st A_many A_hasword A_score, PySem.W.mg_of X G a_eligible, k_eligible, b_eligible⟩
  have A_selinit : MkAt P w K mg base 1 CC ["self", "score", "passages"] (spSelInit CC) := ⟨_, _, ok_selInit F_selinit L_se, ⟨mkCC, a_selinit, i_selinit, kcCC⟩, b_selinit⟩
  have A_rank : MtAt P w K mg base (CX0) 1 CC "rank" ["self"] (spRank CC) := ⟨_, _, ok_rank F_rank B L_se, ⟨a_rank, i_rank, k_rank⟩, b_rank⟩
  have A_longer : FnAt P w K mg base (CX0) 3 "longer" ["passage", "rest"] (spLonger CC) := ⟨_, _, ok_longer F_longer L_se A_selinit, PySem.W.mg_of X G a_longer, k_longer, b_longer⟩
  have A_better : FnAt P w K mg base (CX0) 2 "better" ["one", "other"] (spBetter CC) := ⟨_, _, ok_better F_better L_se A_rank, PySem.W.mg_of X G a_better, k_better, b_better⟩
  have A_rowwith : FnAt P w K mg base (CX0) 4 "row_with" ["passages", "many", "gap", "before"] (spRowWith CC) := ⟨_, _, ok_row_with F_rowwith B L_se A_selinit A_longer A_better, PySem.W.mg_of X G a_rowwith, k_rowwith, b_rowwith⟩
  have A_begins : FnAt P w K mg base (CX0) 1 "by_begins" ["passages", "many"] spByBegins := ⟨_, _, ok_by_begins F_begins B, PySem.W.mg_of X G a_begins, k_begins, b_begins⟩
  have A_bestsel : FnAt P w K mg base (CX0) 5 "best_selection" ["passages", "many", "gap", "k"] (spBest CC) := ⟨_, _, ok_best F_bestsel B L_se A_selinit A_begins A_rowwith, PySem.W.mg_of X G a_bestsel, k_bestsel, b_bestsel⟩
  have A_wantedin : FnAt P w K mg base (CX0) 1 "wanted_in" ["words", "wanted"] spWantedIn := ⟨_, _, ok_wanted_in F_wantedin, PySem.W.mg_of X G a_wantedin, k_wantedin, b_wantedin⟩
  have A_narrowest : FnAt P w K mg base (CX0) 2 "narrowest" ["text", "wanted"] (spNarrow CT) := ⟨_, _, ok_narrow F_narrowest B L_tx A_many A_part A_wantedin, PySem.W.mg_of X G a_narrowest, k_narrowest, b_narrowest⟩
  have A_onemore : FnAt P w K mg base (CX0) 1 "with_one_more" ["sets", "many"] spOneMore := ⟨_, _, ok_one_more F_onemore B, PySem.W.mg_of X G a_onemore, k_onemore, b_onemore⟩
  have A_enough : FnAt P w K mg base (CX0) 2 "are_enough" ["text", "wanted", "numbers"] (spEnough CT) := ⟨_, _, ok_enough F_enough L_tx A_wantedin, PySem.W.mg_of X G a_enough, k_enough, b_enough⟩
  have A_fewests : FnAt P w K mg base (CX0) 3 "fewest_sentences" ["text", "wanted"] (spFewest CT) := ⟨_, _, ok_fewest F_fewests B L_tx A_enough A_onemore, PySem.W.mg_of X G a_fewests, k_fewests, b_fewests⟩
  have A_demand : FnAt P w K mg base (L2.CX P w) 3 "demand" ["is_right", "code"] (spDemand CR) := ⟨_, _, ok_demand F_demand TR, PySem.W.mg_of X G a_demand, k_demand, b_demand⟩
  have A_deskinit : MkAt P w K mg base 4 CD ["self"] (spDeskInit CT CS CD) := ⟨_, _, ok_deskInit F_deskinit L A_textinit A_setinit, ⟨mkCD, a_deskinit, i_deskinit, kcCD⟩, b_deskinit⟩
  have A_told : MtAt P w K mg base (L2.CX P w) 4 CD "told_sentences" ["self", "numbers"] (spTold CR) := ⟨_, _, ok_told F_told A_sents A_istext A_demand k_WRONG, ⟨a_told, i_told, k_told⟩, b_told⟩
  have A_sizes : MtAt P w K mg base (CX0) 2 CD "sizes" ["self"] (spSizes CT CD) := ⟨_, _, ok_sizes F_sizes B L A_many, ⟨a_sizes, i_sizes, k_sizes⟩, b_sizes⟩
  have A_settext : MtAt P w K mg base (L2.CX P w) 5 CD "set_text" ["self", "numbers"] (spSetText CR CT CS CD) := ⟨_, _, ok_set_text F_settext L A_textinit A_told A_sizes, ⟨a_settext, i_settext, k_settext⟩, b_settext⟩
  have A_more : MtAt P w K mg base (L2.CX P w) 5 CD "more" ["self", "numbers"] (spMore CR CT CS CD) := ⟨_, _, ok_more F_more L A_textinit A_told A_sizes A_issmall A_demand k_TOO_LONG, ⟨a_more, i_more, k_more⟩, b_more⟩
  have A_wanted : MtAt P w K mg base (CX0) 1 CD "wanted" ["self"] (spWanted CT CS CD) := ⟨_, _, ok_wanted F_wanted L, ⟨a_wanted, i_wanted, k_wanted⟩, b_wanted⟩
  have A_ask : MtAt P w K mg base (L2.CX P w) 4 CD "ask" ["self", "numbers"] (spAsk CR CT CS CD) := ⟨_, _, ok_ask F_ask B L A_pairs A_wanted A_demand k_WRONG, ⟨a_ask, i_ask, k_ask⟩, b_ask⟩
  have A_tune : MtAt P w K mg base (L2.CX P w) 4 CD "tune" ["self", "numbers"] (spTune CR CT CS CD) := ⟨_, _, ok_tune F_tune B L A_settune A_demand k_WRONG k_MOST_SETTING, ⟨a_tune, i_tune, k_tune⟩, b_tune⟩
  have A_frame : MtAt P w K mg base (L2.CX P w) 4 CD "frame" ["self", "most", "gap"] (spFrame CR CT CS CD) := ⟨_, _, ok_frame F_frame L A_setframe A_demand k_WRONG k_MOST_FRAME, ⟨a_frame, i_frame, k_frame⟩, b_frame⟩
  have A_worth : MtAt P w K mg base (L2.CX P w) 4 CD "worth" ["self", "a", "b"] (spWorth CR CT CS CD) := ⟨_, _, ok_worth F_worth B L A_many A_hasword A_score A_demand k_WRONG, ⟨a_worth, i_worth, k_worth⟩, b_worth⟩
  have A_passages : MtAt P w K mg base (CX0) 4 CD "passages" ["self"] (spPassages CT CS CD) := ⟨_, _, ok_passages F_passages L A_eligible, ⟨a_passages, i_passages, k_passages⟩, b_passages⟩
  have A_selection : MtAt P w K mg base (L2.CX P w) 6 CD "selection" ["self", "k"] (spSelection CR CT CS CC CD) := ⟨_, _, ok_selection F_selection L A_many A_passages A_bestsel A_demand k_WRONG k_MOST_PASSAGES, ⟨a_selection, i_selection, k_selection⟩, b_selection⟩
  have A_best : MtAt P w K mg base (L2.CX P w) 7 CD "best" ["self", "k"] (spBestK CR CT CS CD) := ⟨_, _, ok_bestK F_best B L A_selection, ⟨a_best, i_best, k_best⟩, b_best⟩
  have A_singles : MtAt P w K mg base (CX0) 5 CD "singles" ["self", "n"] (spSingles CT CS CD) := ⟨_, _, ok_singles F_singles B L A_passages, ⟨a_singles, i_singles, k_singles⟩, b_singles⟩
  have A_narrow : MtAt P w K mg base (L2.CX P w) 4 CD "narrow" ["self"] (spNarrowD CR CT CS CD) := ⟨_, _, ok_narrowD F_narrow L A_wanted A_narrowest A_demand k_NO_WORD, ⟨a_narrow, i_narrow, k_narrow⟩, b_narrow⟩
  have A_fewest : MtAt P w K mg base (CX0) 4 CD "fewest" ["self"] (spFewestD CT CS CD) := ⟨_, _, ok_fewestD F_fewest B L A_wanted A_fewests, ⟨a_fewest, i_fewest, k_fewest⟩, b_fewest⟩
  have A_display : MtAt P w K mg base (CX0) 2 CD "display" ["self", "a", "b"] (spDisplay CT CS CD) := ⟨_, _, ok_display F_display B L A_part, ⟨a_display, i_display, k_display⟩, b_display⟩
  have A_show : MtAt P w K mg base (L2.CX P w) 7 CD "show" ["self", "k"] (spShow CR CT CS CD) := ⟨_, _, ok_show F_show B L A_selection A_display, ⟨a_show, i_show, k_show⟩, b_show⟩
  have A_hidden : MtAt P w K mg base (L2.CX P w) 7 CD "hidden" ["self", "k"] (spHidden CR CT CS CD) := ⟨_, _, ok_hidden F_hidden B L A_selection A_part A_wanted, ⟨a_hidden, i_hidden, k_hidden⟩, b_hidden⟩
  have M : Calls P w K mg base CR CT CS CC CD := ⟨A_settext, A_more, A_ask, A_tune, A_frame, A_worth, A_best, A_singles, A_narrow, A_fewest, A_show, A_hidden⟩
  have A_ofsetting : MtAt P w K mg base (L2.CX P w) 6 CD "of_setting" ["self", "number", "own", "some"] (spOfSetting CR CT CS CD) := ⟨_, _, ok_of_setting F_ofsetting L M, ⟨a_ofsetting, i_ofsetting, k_ofsetting⟩, b_ofsetting⟩
  have A_ofasking : MtAt P w K mg base (L2.CX P w) 8 CD "of_asking" ["self", "number", "own"] (spOfAsking CR CT CS CD) := ⟨_, _, ok_of_asking F_ofasking L M, ⟨a_ofasking, i_ofasking, k_ofasking⟩, b_ofasking⟩
  have A_answer : MtAt P w K mg base (CX0) 9 CD "answer" ["self", "number", "own", "some"] (spAnswer CT CS CD) := ⟨_, _, ok_answer F_answer L TR A_ofsetting A_ofasking, ⟨a_answer, i_answer, k_answer⟩, b_answer⟩
  exact ok_answers F_answers B L A_deskinit A_answer k_NUMBERS k_WITH_LIST
end Tp

open PySem PySem.W PyProof.Rows
set_option maxRecDepth 100000 in
set_option maxHeartbeats 0 in
theorem PySem.Challenge.cw_textpassages_s01_answers_holds : PySem.Challenge.rw_textpassages_s01_answers.Holds := by
  w_on; k_headS; (case hw => exact ⟨[.list [.int 9]], by decide +kernel, by decide +kernel⟩)
  k_fillS
  refine L2.walk_specK (r := PySem.Challenge.rw_textpassages_s01_answers) (k := 10) (CX := L2.CX0) (ps := ["calls"]) (sp := Tp.spAnswers) (by decide +kernel) rfl rfl ⟨rfl, by decide, by decide⟩ (fun w h Y => PySem.W.kIn_of Y) ?F ?S (fun _ _ _ _ z => z)
  case F =>
    intro w mg fa h Y KX G hmg
    refine' Tp.all_mk KX G hmg ?gCT ?gCS ?gCC ?gCD ?gCR ?a_words ?l_words ?c_words ?k_words ?a_issmall ?l_issmall ?c_issmall ?k_issmall ?a_istext ?l_istext ?c_istext ?k_istext ?a_sents ?l_sents ?c_sents ?k_sents ?a_textinit ?i_textinit ?l_textinit ?c_textinit ?k_textinit ?a_many ?i_many ?l_many ?c_many ?k_many ?a_part ?i_part ?l_part ?c_part ?k_part ?a_pairs ?l_pairs ?c_pairs ?k_pairs ?a_setinit ?i_setinit ?l_setinit ?c_setinit ?k_setinit ?a_settune ?i_settune ?l_settune ?c_settune ?k_settune ?a_setframe ?i_setframe ?l_setframe ?c_setframe ?k_setframe ?a_hasword ?l_hasword ?c_hasword ?k_hasword ?a_score ?l_score ?c_score ?k_score ?a_eligible ?l_eligible ?c_eligible ?k_eligible ?a_selinit ?i_selinit ?l_selinit ?c_selinit ?k_selinit ?a_rank ?i_rank ?l_rank ?c_rank ?k_rank ?a_longer ?l_longer ?c_longer ?k_longer ?a_better ?l_better ?c_better ?k_better ?a_rowwith ?l_rowwith ?c_rowwith ?k_rowwith ?a_begins ?l_begins ?c_begins ?k_begins ?a_bestsel ?l_bestsel ?c_bestsel ?k_bestsel ?a_wantedin ?l_wantedin ?c_wantedin ?k_wantedin ?a_narrowest ?l_narrowest ?c_narrowest ?k_narrowest ?a_onemore ?l_onemore ?c_onemore ?k_onemore ?a_enough ?l_enough ?c_enough ?k_enough ?a_fewests ?l_fewests ?c_fewests ?k_fewests ?a_demand ?l_demand ?c_demand ?k_demand ?a_deskinit ?i_deskinit ?l_deskinit ?c_deskinit ?k_deskinit ?a_told ?i_told ?l_told ?c_told ?k_told ?a_sizes ?i_sizes ?l_sizes ?c_sizes ?k_sizes ?a_settext ?i_settext ?l_settext ?c_settext ?k_settext ?a_more ?i_more ?l_more ?c_more ?k_more ?a_wanted ?i_wanted ?l_wanted ?c_wanted ?k_wanted ?a_ask ?i_ask ?l_ask ?c_ask ?k_ask ?a_tune ?i_tune ?l_tune ?c_tune ?k_tune ?a_frame ?i_frame ?l_frame ?c_frame ?k_frame ?a_worth ?i_worth ?l_worth ?c_worth ?k_worth ?a_passages ?i_passages ?l_passages ?c_passages ?k_passages ?a_selection ?i_selection ?l_selection ?c_selection ?k_selection ?a_best ?i_best ?l_best ?c_best ?k_best ?a_singles ?i_singles ?l_singles ?c_singles ?k_singles ?a_narrow ?i_narrow ?l_narrow ?c_narrow ?k_narrow ?a_fewest ?i_fewest ?l_fewest ?c_fewest ?k_fewest ?a_display ?i_display ?l_display ?c_display ?k_display ?a_show ?i_show ?l_show ?c_show ?k_show ?a_hidden ?i_hidden ?l_hidden ?c_hidden ?k_hidden ?a_ofsetting ?i_ofsetting ?l_ofsetting ?c_ofsetting ?k_ofsetting ?a_ofasking ?i_ofasking ?l_ofasking ?c_ofasking ?k_ofasking ?a_answer ?i_answer ?l_answer ?c_answer ?k_answer ?a_answers ?l_answers ?c_answers ?k_answers ?pgCT ?hdCT ?poCT ?saCT ?mkCT ?kcCT ?nCT_sentences ?nCT_words ?nCT_firsts ?nCT_lasts ?pgCS ?hdCS ?poCS ?saCS ?mkCS ?kcCS ?nCS_different ?nCS_every ?nCS_begin ?nCS_end ?nCS_cost ?nCS_most ?nCS_gap ?pgCC ?hdCC ?poCC ?saCC ?mkCC ?kcCC ?nCC_score ?nCC_chosen ?pgCD ?hdCD ?poCD ?saCD ?mkCD ?kcCD ?nCD_text ?nCD_pairs ?nCD_query ?nCD_settings ?xR ?saR ?gaR ?ggR ?nbR ?aR ?tR ?lR ?cR ?kR ?eR ?yR ?dR ?iR ?sR ?v_MOST_PAIRS ?v_MOST_WORD_scores ?v_MOST_WEIGHT ?v_MOST_SENTENCES ?v_MOST_WORDS ?v_MOST_WORD_texts ?v_MOST_SETTING ?v_MOST_FRAME ?v_MOST_PASSAGES ?v_WRONG ?v_NO_WORD ?v_TOO_LONG ?v_NUMBERS ?l_NUMBERS ?v_WITH_LIST ?l_WITH_LIST ?z_len ?z_range ?z_all ?z_set ?z_sum ?z_any ?z_min ?z_max ?z_int ?z_dict ?z_sorted ?z_enumerate
    (case gCT => k_is); (case gCS => k_is); (case gCC => k_is); (case gCD => k_is); (case gCR => k_is); (case a_words => k_is); (case l_words => k_is)
    (case c_words => k_is); (case k_words => k_is); (case a_issmall => k_is); (case l_issmall => k_is); (case c_issmall => k_is); (case k_issmall => k_is)
    (case a_istext => k_is); (case l_istext => k_is); (case c_istext => k_is); (case k_istext => k_is); (case a_sents => k_is); (case l_sents => k_is)
    (case c_sents => k_is); (case k_sents => k_is); (case a_textinit => k_is); (case i_textinit => k_is); (case l_textinit => k_is); (case c_textinit => k_is)
    (case k_textinit => k_is); (case a_many => k_is); (case i_many => k_is); (case l_many => k_is); (case c_many => k_is); (case k_many => k_is); (case a_part => k_is)
    (case i_part => k_is); (case l_part => k_is); (case c_part => k_is); (case k_part => k_is); (case a_pairs => k_is); (case l_pairs => k_is); (case c_pairs => k_is)
    (case k_pairs => k_is); (case a_setinit => k_is); (case i_setinit => k_is); (case l_setinit => k_is); (case c_setinit => k_is); (case k_setinit => k_is)
    (case a_settune => k_is); (case i_settune => k_is); (case l_settune => k_is); (case c_settune => k_is); (case k_settune => k_is); (case a_setframe => k_is)
    (case i_setframe => k_is); (case l_setframe => k_is); (case c_setframe => k_is); (case k_setframe => k_is); (case a_hasword => k_is); (case l_hasword => k_is)
    (case c_hasword => k_is); (case k_hasword => k_is); (case a_score => k_is); (case l_score => k_is); (case c_score => k_is); (case k_score => k_is)
    (case a_eligible => k_is); (case l_eligible => k_is); (case c_eligible => k_is); (case k_eligible => k_is); (case a_selinit => k_is); (case i_selinit => k_is)
    (case l_selinit => k_is); (case c_selinit => k_is); (case k_selinit => k_is); (case a_rank => k_is); (case i_rank => k_is); (case l_rank => k_is)
    (case c_rank => k_is); (case k_rank => k_is); (case a_longer => k_is); (case l_longer => k_is); (case c_longer => k_is); (case k_longer => k_is); (case a_better => k_is)
    (case l_better => k_is); (case c_better => k_is); (case k_better => k_is); (case a_rowwith => k_is); (case l_rowwith => k_is); (case c_rowwith => k_is)
    (case k_rowwith => k_is); (case a_begins => k_is); (case l_begins => k_is); (case c_begins => k_is); (case k_begins => k_is); (case a_bestsel => k_is)
    (case l_bestsel => k_is); (case c_bestsel => k_is); (case k_bestsel => k_is); (case a_wantedin => k_is); (case l_wantedin => k_is); (case c_wantedin => k_is)
    (case k_wantedin => k_is); (case a_narrowest => k_is); (case l_narrowest => k_is); (case c_narrowest => k_is); (case k_narrowest => k_is); (case a_onemore => k_is)
    (case l_onemore => k_is); (case c_onemore => k_is); (case k_onemore => k_is); (case a_enough => k_is); (case l_enough => k_is); (case c_enough => k_is)
    (case k_enough => k_is); (case a_fewests => k_is); (case l_fewests => k_is); (case c_fewests => k_is); (case k_fewests => k_is); (case a_demand => k_is)
    (case l_demand => k_is); (case c_demand => k_is); (case k_demand => k_is); (case a_deskinit => k_is); (case i_deskinit => k_is); (case l_deskinit => k_is)
    (case c_deskinit => k_is); (case k_deskinit => k_is); (case a_told => k_is); (case i_told => k_is); (case l_told => k_is); (case c_told => k_is); (case k_told => k_is)
    (case a_sizes => k_is); (case i_sizes => k_is); (case l_sizes => k_is); (case c_sizes => k_is); (case k_sizes => k_is); (case a_settext => k_is); (case i_settext => k_is)
    (case l_settext => k_is); (case c_settext => k_is); (case k_settext => k_is); (case a_more => k_is); (case i_more => k_is); (case l_more => k_is)
    (case c_more => k_is); (case k_more => k_is); (case a_wanted => k_is); (case i_wanted => k_is); (case l_wanted => k_is); (case c_wanted => k_is); (case k_wanted => k_is)
    (case a_ask => k_is); (case i_ask => k_is); (case l_ask => k_is); (case c_ask => k_is); (case k_ask => k_is); (case a_tune => k_is); (case i_tune => k_is)
    (case l_tune => k_is); (case c_tune => k_is); (case k_tune => k_is); (case a_frame => k_is); (case i_frame => k_is); (case l_frame => k_is); (case c_frame => k_is)
    (case k_frame => k_is); (case a_worth => k_is); (case i_worth => k_is); (case l_worth => k_is); (case c_worth => k_is); (case k_worth => k_is); (case a_passages => k_is)
    (case i_passages => k_is); (case l_passages => k_is); (case c_passages => k_is); (case k_passages => k_is); (case a_selection => k_is); (case i_selection => k_is)
    (case l_selection => k_is); (case c_selection => k_is); (case k_selection => k_is); (case a_best => k_is); (case i_best => k_is); (case l_best => k_is)
    (case c_best => k_is); (case k_best => k_is); (case a_singles => k_is); (case i_singles => k_is); (case l_singles => k_is); (case c_singles => k_is)
    (case k_singles => k_is); (case a_narrow => k_is); (case i_narrow => k_is); (case l_narrow => k_is); (case c_narrow => k_is); (case k_narrow => k_is)
    (case a_fewest => k_is); (case i_fewest => k_is); (case l_fewest => k_is); (case c_fewest => k_is); (case k_fewest => k_is); (case a_display => k_is)
    (case i_display => k_is); (case l_display => k_is); (case c_display => k_is); (case k_display => k_is); (case a_show => k_is); (case i_show => k_is)
    (case l_show => k_is); (case c_show => k_is); (case k_show => k_is); (case a_hidden => k_is); (case i_hidden => k_is); (case l_hidden => k_is); (case c_hidden => k_is)
    (case k_hidden => k_is); (case a_ofsetting => k_is); (case i_ofsetting => k_is); (case l_ofsetting => k_is); (case c_ofsetting => k_is); (case k_ofsetting => k_is)
    (case a_ofasking => k_is); (case i_ofasking => k_is); (case l_ofasking => k_is); (case c_ofasking => k_is); (case k_ofasking => k_is); (case a_answer => k_is)
    (case i_answer => k_is); (case l_answer => k_is); (case c_answer => k_is); (case k_answer => k_is); (case a_answers => k_is); (case l_answers => k_is)
    (case c_answers => k_is); (case k_answers => k_is); (case pgCT => k_is); (case hdCT => k_is); (case poCT => k_is); (case saCT => k_is); (case mkCT => k_is)
    (case kcCT => k_is); (case nCT_sentences => k_is); (case nCT_words => k_is); (case nCT_firsts => k_is); (case nCT_lasts => k_is); (case pgCS => k_is)
    (case hdCS => k_is); (case poCS => k_is); (case saCS => k_is); (case mkCS => k_is); (case kcCS => k_is); (case nCS_different => k_is); (case nCS_every => k_is)
    (case nCS_begin => k_is); (case nCS_end => k_is); (case nCS_cost => k_is); (case nCS_most => k_is); (case nCS_gap => k_is); (case pgCC => k_is); (case hdCC => k_is)
    (case poCC => k_is); (case saCC => k_is); (case mkCC => k_is); (case kcCC => k_is); (case nCC_score => k_is); (case nCC_chosen => k_is); (case pgCD => k_is)
    (case hdCD => k_is); (case poCD => k_is); (case saCD => k_is); (case mkCD => k_is); (case kcCD => k_is); (case nCD_text => k_is); (case nCD_pairs => k_is)
    (case nCD_query => k_is); (case nCD_settings => k_is); (case xR => k_is); (case saR => k_is); (case gaR => k_is); (case ggR => k_is); (case nbR => k_is)
    (case aR => k_is); (case tR => k_is); (case lR => k_is); (case cR => k_is); (case kR => k_is); (case eR => k_is); (case yR => k_is); (case dR => k_is)
    (case iR => k_is); (case sR => first | rfl | k_is); (case v_MOST_PAIRS => k_is); (case v_MOST_WORD_scores => k_is); (case v_MOST_WEIGHT => k_is); (case v_MOST_SENTENCES => k_is)
    (case v_MOST_WORDS => k_is); (case v_MOST_WORD_texts => k_is); (case v_MOST_SETTING => k_is); (case v_MOST_FRAME => k_is); (case v_MOST_PASSAGES => k_is)
    (case v_WRONG => k_is); (case v_NO_WORD => k_is); (case v_TOO_LONG => k_is); (case v_NUMBERS => k_is); (case l_NUMBERS => k_is); (case v_WITH_LIST => k_is)
    (case l_WITH_LIST => k_is); (case z_len => k_is); (case z_range => k_is); (case z_all => k_is); (case z_set => k_is); (case z_sum => k_is); (case z_any => k_is)
    (case z_min => k_is); (case z_max => k_is); (case z_int => k_is); (case z_dict => k_is); (case z_sorted => k_is); (case z_enumerate => k_is)
  case S =>
    intro K H xs a hO hwi hask hx
    cases hx with
    | cons h1 h2 =>
      cases h2
      cases h1 with
      | lst hs ha =>
        have e := L2.ints_dw a.1 _ ha
        subst e
        exact ⟨_, a.1, rfl, hs, hask, fun H' p hp => .lst (L2.SqL.of hp) (L2.dw_ints _)⟩
