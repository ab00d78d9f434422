import PyProof.Rows.All
import Sr82Spec
import PySr82
import Wide.All
import OpenK.AllK
import Wide.FinOn
import PyProof.EqAt
import PyProof.EqKinds
import PyProof.TupleCall
import Open.SpecLaws
import KE.OsGo
import HandS.ForSpec
import HandS.Comp
import HandS.Dict
import HandS.Wide
import HandS.Style
import HandS.NoneIn
import PySem.Challenge.RW_earthheaps_s01_answers
import KE.KItemsList
import KE.KDictZip
import KE.GoesMore
import HandS.ListItems
import HandS.Lambda
import HandS.Slots
import KE.KMinKey
import HandS.ExcInit
import HandS.ExcField
import HandS.CallLocal
import HandS.Spec
import HandS.EndTab

/-! ## EhWalk -/
section
set_option autoImplicit false
/-! Walks in a graph with costs, and the rounds in which shortest ones are found. Core Lean alone. -/
namespace EH

/-- a list with an item twice -/
theorem dup_split {l : List Nat} (h : ¬ l.Nodup) : ∃ (x : Nat) (l1 m1 m2 : List Nat), l = l1 ++ x :: (m1 ++ x :: m2) := by
  induction l with
  | nil => exact absurd List.nodup_nil h
  | cons a l ih =>
    by_cases ha : a ∈ l
    · obtain ⟨m1, m2, e⟩ := List.append_of_mem ha
      exact ⟨a, [], m1, m2, by rw [e]; rfl⟩
    · have : ¬ l.Nodup := fun q => h (List.nodup_cons.mpr ⟨ha, q⟩)
      obtain ⟨x, l1, m1, m2, e⟩ := ih this
      exact ⟨x, a :: l1, m1, m2, by rw [e]; rfl⟩

theorem nodup_len : ∀ (n : Nat) (l : List Nat), l.Nodup → (∀ x ∈ l, x < n) → l.length ≤ n
  | 0, [], _, _ => Nat.le_refl _
  | 0, a :: l, _, h => absurd (h a (List.mem_cons_self)) (Nat.not_lt_zero _)
  | n + 1, l, hn, h => by
    by_cases hm : n ∈ l
    · have h1 := nodup_len n (l.erase n) (hn.erase n) (fun x hx => by
        have h2 := (List.Nodup.mem_erase_iff hn).mp hx
        have h3 := h x h2.2
        have h4 : x ≠ n := h2.1
        omega)
      have h5 := List.length_erase_of_mem hm
      have : 0 < l.length := List.length_pos_of_mem hm
      omega
    · have h1 := nodup_len n l hn (fun x hx => by
        have h3 := h x hx
        have : x ≠ n := fun e => hm (e ▸ hx)
        omega)
      omega

/-- a walk, told from its end back to its beginning, and its cost -/
inductive WL (R : Nat → Nat → Int → Prop) : List Nat → Int → Prop
  | one (v : Nat) : WL R [v] 0
  | more {v u : Nat} {l : List Nat} {c d : Int} : WL R (u :: l) c → R u v d → WL R (v :: u :: l) (c + d)

section
variable {R : Nat → Nat → Int → Prop} {pi : Nat → Int}

/-- a walk is what comes behind a node, and what comes before it; what comes before it may be another one -/
theorem WL.cut (hp : ∀ u v d, R u v d → pi v ≤ pi u + d) : ∀ {l1 l2 : List Nat} {x : Nat} {c : Int}, WL R (l1 ++ x :: l2) c →
    ∃ c1 c2, WL R (x :: l2) c2 ∧ c = c1 + c2 ∧ (∀ y, (l1 ++ [x]).head? = some y → pi y ≤ pi x + c1) ∧
      ∀ l3 c3, WL R (x :: l3) c3 → WL R (l1 ++ x :: l3) (c1 + c3)
  | [], l2, x, c, h => ⟨0, c, h, by omega, fun y e => by
      have e' : x = y := Option.some.inj e
      subst e'
      omega, fun l3 c3 q => by
      have : (0 : Int) + c3 = c3 := by omega
      rw [this]
      exact q⟩
  | a :: [], l2, x, c, h => by
    cases h with
    | more h1 h2 =>
      rename_i c d
      obtain ⟨c1, c2, w, e, b, f⟩ := WL.cut hp (l1 := []) h1
      refine ⟨c1 + d, c2, w, by omega, fun y e => ?_, fun l3 c3 q => ?_⟩
      · have e' : a = y := Option.some.inj e
        subst e'
        have := hp _ _ _ h2
        have := b x rfl
        omega
      · have := WL.more (f l3 c3 q) h2
        have e : c1 + d + c3 = c1 + c3 + d := by omega
        rw [e]
        exact this
  | a :: b :: l1, l2, x, c, h => by
    cases h with
    | more h1 h2 =>
      rename_i c d
      obtain ⟨c1, c2, w, e, bb, f⟩ := WL.cut hp (l1 := b :: l1) h1
      refine ⟨c1 + d, c2, w, by omega, fun y e => ?_, fun l3 c3 q => ?_⟩
      · have e' : a = y := Option.some.inj e
        subst e'
        have := hp _ _ _ h2
        have := bb b rfl
        omega
      · have := WL.more (f l3 c3 q) h2
        have e : c1 + d + c3 = c1 + c3 + d := by omega
        rw [e]
        exact this

/-- a walk may be shortened to one that meets no node twice -/
theorem WL.short (hp : ∀ u v d, R u v d → pi v ≤ pi u + d) : ∀ (k : Nat) {l : List Nat} {v : Nat} {c : Int}, (v :: l).length ≤ k → WL R (v :: l) c →
    ∃ l' c', WL R (v :: l') c' ∧ c' ≤ c ∧ (v :: l').Nodup ∧ (v :: l').getLast? = (v :: l).getLast? ∧ ∀ x ∈ v :: l', x ∈ v :: l
  | 0, l, v, c, hk, h => by simp at hk
  | k + 1, l, v, c, hk, h => by
    by_cases hn : (v :: l).Nodup
    · exact ⟨l, c, h, Int.le_refl _, hn, rfl, fun x hx => hx⟩
    · obtain ⟨x, l1, m1, m2, e⟩ := dup_split hn
      rw [e] at h
      obtain ⟨c1, c2, w, e1, b, f⟩ := WL.cut hp h
      obtain ⟨c3, c4, w2, e2, b2, f2⟩ := WL.cut hp (l1 := x :: m1) (l2 := m2) (x := x) w
      have h3 := b2 x rfl
      have h4 := f m2 c4 w2
      have hl : (l1 ++ x :: m2).length ≤ k := by
        have : (v :: l).length = (l1 ++ x :: (m1 ++ x :: m2)).length := by rw [e]
        simp only [List.length_append, List.length_cons] at this hk ⊢
        omega
      have hlast : (l1 ++ x :: m2).getLast? = (v :: l).getLast? := by
        have e9 : (x :: (m1 ++ x :: m2)).getLast? = (x :: m2).getLast? := by
          rw [show x :: (m1 ++ x :: m2) = (x :: m1) ++ (x :: m2) from rfl, List.getLast?_append]
          cases hh : (x :: m2).getLast? with
          | none => simp at hh
          | some _ => rfl
        rw [e, List.getLast?_append, List.getLast?_append, e9]
      have hmem : ∀ y ∈ l1 ++ x :: m2, y ∈ v :: l := fun y hy => by
        rw [e]
        simp only [List.mem_append, List.mem_cons] at hy ⊢
        rcases hy with hy | hy | hy
        · exact Or.inl hy
        · exact Or.inr (Or.inl hy)
        · exact Or.inr (Or.inr (Or.inr (Or.inr hy)))
      cases l1 with
      | nil =>
        have hv : v = x := by
          have := congrArg List.head? e
          simpa using this
        subst hv
        obtain ⟨l', c', q1, q2, q3, q4, q5⟩ := WL.short hp k (l := m2) (v := v) hl h4
        exact ⟨l', c', q1, by omega, q3, q4.trans hlast, fun y hy => hmem y (q5 y hy)⟩
      | cons a l1 =>
        have hv : v = a := by
          have := congrArg List.head? e
          simpa using this
        subst hv
        obtain ⟨l', c', q1, q2, q3, q4, q5⟩ := WL.short hp k (l := l1 ++ x :: m2) (v := v) hl h4
        exact ⟨l', c', q1, by omega, q3, q4.trans hlast, fun y hy => hmem y (q5 y hy)⟩

/-- what a walk costs at least -/
theorem WL.pot (hp : ∀ u v d, R u v d → pi v ≤ pi u + d) : ∀ {l : List Nat} {v s : Nat} {c : Int}, WL R (v :: l) c → (v :: l).getLast? = some s → pi v ≤ pi s + c
  | [], v, s, c, h, e => by
    cases h
    have e' : v = s := by simpa using e
    subst e'
    omega
  | u :: l, v, s, c, h, e => by
    cases h with
    | more h1 h2 =>
      have e' : (u :: l).getLast? = some s := by simpa [List.getLast?_cons_cons] using e
      have := WL.pot hp h1 e'
      have := hp _ _ _ h2
      omega

/-- a number, or none; at most c -/
def AtMost (o : Option Int) (c : Int) : Prop := ∃ y, o = some y ∧ y ≤ c
theorem AtMost.mono {o : Option Int} {c d : Int} (h : AtMost o c) (q : c ≤ d) : AtMost o d := by
  obtain ⟨y, e, z⟩ := h
  exact ⟨y, e, by omega⟩

/-- rounds: behind k rounds a walk of k arcs is met -/
theorem rounds_walk {L : Nat → Nat → Option Int} {src : Nat → Prop} (h0 : ∀ v, src v → AtMost (L 0 v) 0) (hstay : ∀ k v c, AtMost (L k v) c → AtMost (L (k + 1) v) c)
    (hstep : ∀ k u v x d, L k u = some x → R u v d → AtMost (L (k + 1) v) (x + d)) :
    ∀ {l : List Nat} {v s : Nat} {c : Int} (k : Nat), WL R (v :: l) c → (v :: l).getLast? = some s → src s → l.length ≤ k → AtMost (L k v) c
  | [], v, s, c, 0, h, e, hs, _ => by
    cases h
    have e' : v = s := by simpa using e
    subst e'
    exact h0 v hs
  | [], v, s, c, k + 1, h, e, hs, _ => hstay _ _ _ (rounds_walk h0 hstay hstep k h e hs (Nat.zero_le _))
  | u :: l, v, s, c, 0, h, e, hs, hk => by simp at hk
  | u :: l, v, s, c, k + 1, h, e, hs, hk => by
    cases h with
    | more h1 h2 =>
      have e' : (u :: l).getLast? = some s := by simpa [List.getLast?_cons_cons] using e
      obtain ⟨y, e1, e2⟩ := rounds_walk h0 hstay hstep k h1 e' hs (by simpa using hk)
      exact (hstep k u v y _ e1 h2).mono (by omega)

/-- behind as many rounds as there are nodes each walk is met -/
theorem rounds_all {L : Nat → Nat → Option Int} {src : Nat → Prop} {N : Nat} (hp : ∀ u v d, R u v d → pi v ≤ pi u + d) (hN : ∀ u v d, R u v d → u < N ∧ v < N) (hsN : ∀ v, src v → v < N)
    (h0 : ∀ v, src v → AtMost (L 0 v) 0) (hstay : ∀ k v c, AtMost (L k v) c → AtMost (L (k + 1) v) c)
    (hstep : ∀ k u v x d, L k u = some x → R u v d → AtMost (L (k + 1) v) (x + d))
    {l : List Nat} {v s : Nat} {c : Int} (h : WL R (v :: l) c) (e : (v :: l).getLast? = some s) (hs : src s) : AtMost (L N v) c := by
  obtain ⟨l', c', q1, q2, q3, q4, q5⟩ := WL.short hp _ (Nat.le_refl _) h
  have hall : ∀ {l : List Nat} {v : Nat} {c : Int}, WL R (v :: l) c → (v :: l).getLast? = some s → ∀ x ∈ v :: l, x < N := by
    intro l
    induction l with
    | nil =>
      intro v c _ e x hx
      have e' : v = s := by simpa using e
      subst e'
      have : x = v := by simpa using hx
      subst this
      exact hsN _ hs
    | cons u l ih =>
      intro v c h e x hx
      cases h with
      | more h1 h2 =>
        have e' : (u :: l).getLast? = some s := by simpa [List.getLast?_cons_cons] using e
        rcases List.mem_cons.mp hx with rfl | hx
        · exact (hN _ _ _ h2).2
        · exact ih h1 e' x hx
  have hlen := nodup_len N _ q3 (hall q1 (q4.trans e))
  exact (rounds_walk (L := L) (src := src) h0 hstay hstep N q1 (q4.trans e) hs (by simp only [List.length_cons] at hlen; omega)).mono q2

/-- and nothing more is to be found -/
theorem rounds_closed {L : Nat → Nat → Option Int} {src : Nat → Prop} {N : Nat} (hp : ∀ u v d, R u v d → pi v ≤ pi u + d) (hN : ∀ u v d, R u v d → u < N ∧ v < N) (hsN : ∀ v, src v → v < N)
    (h0 : ∀ v, src v → AtMost (L 0 v) 0) (hstay : ∀ k v c, AtMost (L k v) c → AtMost (L (k + 1) v) c)
    (hstep : ∀ k u v x d, L k u = some x → R u v d → AtMost (L (k + 1) v) (x + d))
    (hreal : ∀ v x, L N v = some x → ∃ l s, WL R (v :: l) x ∧ (v :: l).getLast? = some s ∧ src s)
    {u v : Nat} {x d : Int} (e : L N u = some x) (h : R u v d) : AtMost (L N v) (x + d) := by
  obtain ⟨l, s, w, e1, hs⟩ := hreal u x e
  exact rounds_all hp hN hsN h0 hstay hstep (WL.more w h) (by simpa [List.getLast?_cons_cons] using e1) hs
end
end EH
end

/-! ## EhSum -/
section
set_option autoImplicit false
/-! Sums over 0 .. n - 1 of whole numbers. Core Lean alone. -/
namespace EH

def S : Nat → (Nat → Int) → Int
  | 0, _ => 0
  | n + 1, f => S n f + f n

theorem S_congr : ∀ {n : Nat} {f g : Nat → Int}, (∀ i, i < n → f i = g i) → S n f = S n g
  | 0, _, _, _ => rfl
  | n + 1, f, g, h => by
    show S n f + f n = S n g + g n
    rw [S_congr (n := n) fun i hi => h i (Nat.lt_succ_of_lt hi), h n (Nat.lt_succ_self n)]
theorem S_zero : ∀ (n : Nat), S n (fun _ => 0) = 0
  | 0 => rfl
  | n + 1 => by
    show S n (fun _ => 0) + 0 = 0
    rw [S_zero n]
    rfl
theorem S_add : ∀ (n : Nat) (f g : Nat → Int), S n (fun i => f i + g i) = S n f + S n g
  | 0, _, _ => rfl
  | n + 1, f, g => by
    show S n (fun i => f i + g i) + (f n + g n) = S n f + f n + (S n g + g n)
    rw [S_add n]
    omega
theorem S_sub : ∀ (n : Nat) (f g : Nat → Int), S n (fun i => f i - g i) = S n f - S n g
  | 0, _, _ => rfl
  | n + 1, f, g => by
    show S n (fun i => f i - g i) + (f n - g n) = S n f + f n - (S n g + g n)
    rw [S_sub n]
    omega
theorem S_mulL : ∀ (n : Nat) (a : Int) (f : Nat → Int), S n (fun i => a * f i) = a * S n f
  | 0, a, _ => (Int.mul_zero a).symm
  | n + 1, a, f => by
    show S n (fun i => a * f i) + a * f n = a * (S n f + f n)
    rw [S_mulL n, Int.mul_add]
theorem S_mulR (n : Nat) (a : Int) (f : Nat → Int) : S n (fun i => f i * a) = S n f * a := by
  rw [Int.mul_comm, ← S_mulL]
  exact S_congr fun i _ => Int.mul_comm _ _
theorem S_swap : ∀ (n m : Nat) (f : Nat → Nat → Int), S n (fun i => S m (f i)) = S m (fun j => S n (fun i => f i j))
  | 0, m, f => (S_zero m).symm
  | n + 1, m, f => by
    show S n (fun i => S m (f i)) + S m (f n) = S m (fun j => S n (fun i => f i j) + f n j)
    rw [S_add, S_swap n m f]
theorem S_le : ∀ {n : Nat} {f g : Nat → Int}, (∀ i, i < n → f i ≤ g i) → S n f ≤ S n g
  | 0, _, _, _ => Int.le_refl _
  | n + 1, f, g, h => by
    show S n f + f n ≤ S n g + g n
    have h1 := S_le (n := n) fun i hi => h i (Nat.lt_succ_of_lt hi)
    have h2 := h n (Nat.lt_succ_self n)
    omega
theorem S_nonneg {n : Nat} {f : Nat → Int} (h : ∀ i, i < n → 0 ≤ f i) : 0 ≤ S n f := by
  have := S_le (n := n) (f := fun _ => 0) (g := f) h
  rw [S_zero] at this
  exact this
/-- nothing is below 0, and all together is 0 -/
theorem S_zero_all : ∀ {n : Nat} {f : Nat → Int}, (∀ i, i < n → 0 ≤ f i) → S n f = 0 → ∀ i, i < n → f i = 0
  | 0, _, _, _, _, hi => absurd hi (Nat.not_lt_zero _)
  | n + 1, f, h, e, i, hi => by
    have h1 := S_nonneg (n := n) (f := f) fun i hi => h i (Nat.lt_succ_of_lt hi)
    have h2 := h n (Nat.lt_succ_self n)
    have e' : S n f + f n = 0 := e
    rcases Nat.lt_or_ge i n with q | q
    · exact S_zero_all (n := n) (fun i hi => h i (Nat.lt_succ_of_lt hi)) (by omega) i q
    · have : i = n := by omega
      subst this
      omega
theorem S_ge_one : ∀ {n : Nat} {f : Nat → Int}, (∀ i, i < n → 0 ≤ f i) → ∀ i, i < n → f i ≤ S n f
  | 0, _, _, _, hi => absurd hi (Nat.not_lt_zero _)
  | n + 1, f, h, i, hi => by
    have h1 := S_nonneg (n := n) (f := f) fun i hi => h i (Nat.lt_succ_of_lt hi)
    have h2 := h n (Nat.lt_succ_self n)
    show f i ≤ S n f + f n
    rcases Nat.lt_or_ge i n with q | q
    · have := S_ge_one (n := n) (fun i hi => h i (Nat.lt_succ_of_lt hi)) i q
      omega
    · have : i = n := by omega
      subst this
      omega
theorem S_pos_some : ∀ {n : Nat} {f : Nat → Int}, 0 < S n f → ∃ i, i < n ∧ 0 < f i
  | 0, _, h => absurd h (Int.lt_irrefl 0)
  | n + 1, f, h => by
    have h' : 0 < S n f + f n := h
    by_cases c : 0 < f n
    · exact ⟨n, Nat.lt_succ_self n, c⟩
    · obtain ⟨i, hi, q⟩ := S_pos_some (n := n) (f := f) (by omega)
      exact ⟨i, Nat.lt_succ_of_lt hi, q⟩
theorem S_one : ∀ (n k : Nat) (a : Int), S n (fun i => if i = k then a else 0) = if k < n then a else 0
  | 0, k, a => rfl
  | n + 1, k, a => by
    show S n (fun i => if i = k then a else 0) + (if n = k then a else 0) = if k < n + 1 then a else 0
    rw [S_one n k a]
    by_cases h : n = k
    · subst h
      simp
    · by_cases h2 : k < n
      · have : k < n + 1 := by omega
        simp [h, h2, this]
      · have : ¬ k < n + 1 := by omega
        simp [h, h2, this]
theorem S_const_mul (n : Nat) (a : Int) : S n (fun _ => a) = n * a := by
  induction n with
  | zero => simp [S]
  | succ n ih =>
    show S n (fun _ => a) + a = ((n + 1 : Nat) : Int) * a
    rw [ih, Int.natCast_add, Int.add_mul]
    simp
/-- the sum of a list is the sum over its places -/
theorem sum_S : ∀ (l : List Int), l.sum = S l.length fun i => l.getD i 0 := by
  intro l
  have key : ∀ (l : List Int) (a : Int), (l ++ [a]).sum = l.sum + a := fun l a => by
    rw [List.sum_append]
    simp
  have : ∀ (n : Nat) (l : List Int), l.length = n → l.sum = S n fun i => l.getD i 0 := by
    intro n
    induction n with
    | zero =>
      intro l h
      have : l = [] := List.length_eq_zero_iff.mp h
      subst this
      rfl
    | succ n ih =>
      intro l h
      have hne : l ≠ [] := by
        intro e
        subst e
        simp at h
      have e := List.dropLast_concat_getLast hne
      have hl : l.dropLast.length = n := by rw [List.length_dropLast, h]; rfl
      have := ih l.dropLast hl
      show l.sum = S n (fun i => l.getD i 0) + l.getD n 0
      rw [← e, key, this]
      congr 1
      · refine S_congr fun i hi => ?_
        rw [List.getD_eq_getElem?_getD, List.getD_eq_getElem?_getD, List.getElem?_append_left (by omega)]
      · rw [List.getD_eq_getElem?_getD, List.getElem?_append_right (by omega), hl]
        simp
  exact this _ l rfl
end EH
end

/-! ## EhOT -/
section
set_option autoImplicit false
/-! Plans, potentials, and that a plan with potentials has the lowest cost. Core Lean alone. -/
namespace EH

structure IsPlan (n : Nat) (A B : Nat → Int) (p : Nat → Nat → Int) : Prop where
  nn : ∀ i j, i < n → j < n → 0 ≤ p i j
  row : ∀ i, i < n → S n (p i) = A i
  col : ∀ j, j < n → S n (fun i => p i j) = B j
/-- potentials of rows (f) and columns (g) -/
structure Pots (n : Nat) (c p : Nat → Nat → Int) (f g : Nat → Int) : Prop where
  le : ∀ i j, i < n → j < n → g j - f i ≤ c i j
  eq : ∀ i j, i < n → j < n → 0 < p i j → g j - f i = c i j
structure Opt (n : Nat) (c : Nat → Nat → Int) (A B : Nat → Int) (p : Nat → Nat → Int) : Prop where
  plan : IsPlan n A B p
  pot : ∃ f g, Pots n c p f g
def cost (n : Nat) (c p : Nat → Nat → Int) : Int := S n fun i => S n fun j => p i j * c i j

theorem dual_sum {n : Nat} {A B f g : Nat → Int} {p : Nat → Nat → Int} (h : IsPlan n A B p) :
    S n (fun i => S n fun j => p i j * (g j - f i)) = S n (fun j => B j * g j) - S n (fun i => A i * f i) := by
  have e : S n (fun i => S n fun j => p i j * (g j - f i)) = S n (fun i => S n fun j => p i j * g j) - S n (fun i => S n fun j => p i j * f i) := by
    rw [← S_sub]
    refine S_congr fun i _ => ?_
    rw [← S_sub]
    exact S_congr fun j _ => Int.mul_sub _ _ _
  rw [e, S_swap n n (fun i j => p i j * g j)]
  congr 1
  · refine S_congr fun j hj => ?_
    rw [S_mulR n (g j) (fun i => p i j), h.col j hj]
  · refine S_congr fun i hi => ?_
    rw [S_mulR n (f i) (p i), h.row i hi]

theorem cost_pots {n : Nat} {A B f g : Nat → Int} {c p : Nat → Nat → Int} (h : IsPlan n A B p) (q : Pots n c p f g) :
    cost n c p = S n (fun j => B j * g j) - S n (fun i => A i * f i) := by
  rw [← dual_sum h]
  refine S_congr fun i hi => S_congr fun j hj => ?_
  rcases Int.lt_or_eq_of_le (h.nn i j hi hj) with z | z
  · rw [q.eq i j hi hj z]
  · rw [← z, Int.zero_mul, Int.zero_mul]
theorem cost_ge {n : Nat} {A B f g : Nat → Int} {c p : Nat → Nat → Int} (h : IsPlan n A B p) (le : ∀ i j, i < n → j < n → g j - f i ≤ c i j) :
    S n (fun j => B j * g j) - S n (fun i => A i * f i) ≤ cost n c p := by
  rw [← dual_sum h]
  refine S_le fun i hi => S_le fun j hj => ?_
  exact Int.mul_le_mul_of_nonneg_left (le i j hi hj) (h.nn i j hi hj)
theorem Opt.le {n : Nat} {A B : Nat → Int} {c p p' : Nat → Nat → Int} (h : Opt n c A B p) (h' : IsPlan n A B p') : cost n c p ≤ cost n c p' := by
  obtain ⟨f, g, q⟩ := h.pot
  rw [cost_pots h.plan q]
  exact cost_ge h' q.le
theorem Opt.cost_eq {n : Nat} {A B : Nat → Int} {c p p' : Nat → Nat → Int} (h : Opt n c A B p) (h' : Opt n c A B p') : cost n c p = cost n c p' :=
  Int.le_antisymm (h.le h'.plan) (h'.le h.plan)
/-- a plan that is tight by some feasible potentials everywhere -/
theorem Pots.of_cost {n : Nat} {A B f g : Nat → Int} {c p : Nat → Nat → Int} (h : IsPlan n A B p) (le : ∀ i j, i < n → j < n → g j - f i ≤ c i j)
    (e : cost n c p = S n (fun j => B j * g j) - S n (fun i => A i * f i)) : Pots n c p f g := by
  refine ⟨le, fun i j hi hj hp => ?_⟩
  rw [← dual_sum h] at e
  have e1 : S n (fun i => S n fun j => p i j * (c i j - (g j - f i))) = 0 := by
    have : S n (fun i => S n fun j => p i j * (c i j - (g j - f i))) = cost n c p - S n (fun i => S n fun j => p i j * (g j - f i)) := by
      unfold cost
      rw [← S_sub]
      refine S_congr fun i _ => ?_
      rw [← S_sub]
      exact S_congr fun j _ => Int.mul_sub _ _ _
    omega
  have nn : ∀ i j, i < n → j < n → 0 ≤ p i j * (c i j - (g j - f i)) := fun i j hi hj =>
    Int.mul_nonneg (h.nn i j hi hj) (by have := le i j hi hj; omega)
  have e2 := S_zero_all (fun i hi => S_nonneg fun j hj => nn i j hi hj) e1 i hi
  have e3 := S_zero_all (fun j hj => nn i j hi hj) e2 j hj
  rcases Int.mul_eq_zero.mp e3 with z | z
  · omega
  · omega

/-! ### one potential for both sides -/
structure Metric (n : Nat) (c : Nat → Nat → Int) : Prop where
  self : ∀ i, i < n → c i i = 0
  nn : ∀ i j, i < n → j < n → 0 ≤ c i j
  tri : ∀ i j k, i < n → j < n → k < n → c i k ≤ c i j + c j k
theorem min_over : ∀ (n : Nat) (h : Nat → Int), ∃ m, (∀ k, k < n + 1 → m ≤ h k) ∧ ∃ k, k < n + 1 ∧ m = h k
  | 0, h => ⟨h 0, fun k hk => by have : k = 0 := by omega
                                 subst this; exact Int.le_refl _, 0, Nat.zero_lt_one, rfl⟩
  | n + 1, h => by
    obtain ⟨m, a, k, hk, e⟩ := min_over n h
    by_cases q : h (n + 1) ≤ m
    · refine ⟨h (n + 1), fun k hk => ?_, n + 1, Nat.lt_succ_self _, rfl⟩
      rcases Nat.lt_or_ge k (n + 1) with z | z
      · exact Int.le_trans q (a k z)
      · have : k = n + 1 := by omega
        subst this
        exact Int.le_refl _
    · refine ⟨m, fun k hk => ?_, k, Nat.lt_succ_of_lt hk, e⟩
      rcases Nat.lt_or_ge k (n + 1) with z | z
      · exact a k z
      · have : k = n + 1 := by omega
        subst this
        omega
theorem Pots.one {n : Nat} {c p : Nat → Nat → Int} {f g : Nat → Int} (M : Metric n c) (h : Pots n c p f g) : ∃ u, Pots n c p u u := by
  cases n with
  | zero => exact ⟨f, fun _ _ h => absurd h (Nat.not_lt_zero _), fun _ _ h => absurd h (Nat.not_lt_zero _)⟩
  | succ n =>
    have ex : ∀ j, ∃ m, (∀ k, k < n + 1 → m ≤ f k + c k j) ∧ ∃ k, k < n + 1 ∧ m = f k + c k j := fun j => min_over n fun k => f k + c k j
    let u : Nat → Int := fun j => (ex j).choose
    have u1 : ∀ j k, k < n + 1 → u j ≤ f k + c k j := fun j => (ex j).choose_spec.1
    have u2 : ∀ j, ∃ k, k < n + 1 ∧ u j = f k + c k j := fun j => (ex j).choose_spec.2
    have le : ∀ i j, i < n + 1 → j < n + 1 → u j - u i ≤ c i j := fun i j hi hj => by
      obtain ⟨k, hk, e⟩ := u2 i
      have := u1 j k hk
      have := M.tri k i j hk hi hj
      omega
    refine ⟨u, le, fun i j hi hj hp => ?_⟩
    have e := h.eq i j hi hj hp
    obtain ⟨k, hk, e2⟩ := u2 j
    have h1 := h.le k j hk hj
    have h2 := u1 i i hi
    have h3 := M.self i hi
    have h4 := le i j hi hj
    omega
theorem Pots.transfer {n : Nat} {A B u : Nat → Int} {c p p' : Nat → Nat → Int} (h : IsPlan n A B p) (q : Pots n c p u u) (h' : Opt n c A B p') : Pots n c p' u u := by
  obtain ⟨f, g, q'⟩ := h'.pot
  refine Pots.of_cost h'.plan q.le ?_
  rw [← cost_pots h q]
  exact Opt.cost_eq h' ⟨h, u, u, q⟩

/-! ### a multiple of a plan -/
theorem IsPlan.scale {n : Nat} {A B : Nat → Int} {p : Nat → Nat → Int} (h : IsPlan n A B p) {k : Int} (hk : 0 ≤ k) : IsPlan n (fun i => k * A i) (fun j => k * B j) (fun i j => k * p i j) where
  nn := fun i j hi hj => Int.mul_nonneg hk (h.nn i j hi hj)
  row := fun i hi => by rw [S_mulL n k (p i), h.row i hi]
  col := fun j hj => by rw [S_mulL n k (fun i => p i j), h.col j hj]
theorem Opt.scale {n : Nat} {A B : Nat → Int} {c p : Nat → Nat → Int} (h : Opt n c A B p) {k : Int} (hk : 0 < k) : Opt n c (fun i => k * A i) (fun j => k * B j) (fun i j => k * p i j) := by
  obtain ⟨f, g, q⟩ := h.pot
  exact ⟨h.plan.scale (Int.le_of_lt hk), f, g, q.le, fun i j hi hj hp => q.eq i j hi hj (by rcases Int.lt_or_le 0 (p i j) with z | z; exact z; exact absurd hp (Int.not_lt.mpr (Int.mul_nonpos_of_nonneg_of_nonpos (Int.le_of_lt hk) z)))⟩
theorem cost_scale (n : Nat) (c p : Nat → Nat → Int) (k : Int) : cost n c (fun i j => k * p i j) = k * cost n c p := by
  unfold cost
  rw [← S_mulL]
  refine S_congr fun i _ => ?_
  rw [← S_mulL]
  exact S_congr fun j _ => Int.mul_assoc _ _ _
end EH
end

/-! ## EhArcs -/
section
set_option autoImplicit false
/-! Plans changed along a path. Core Lean alone. -/
namespace EH

/-- how often an arc leaves a node, less how often one comes in -/
def nb (E : List (Nat × Nat)) (k : Nat) : Int := match E with
  | [] => 0
  | a :: E => ((if a.1 = k then 1 else 0) - (if a.2 = k then 1 else 0)) + nb E k
/-- how often an entry is raised, lowered -/
def fw (n : Nat) (E : List (Nat × Nat)) (i j : Nat) : Int := match E with
  | [] => 0
  | a :: E => (if a.1 = i ∧ a.2 = n + j then 1 else 0) + fw n E i j
def bw (n : Nat) (E : List (Nat × Nat)) (i j : Nat) : Int := match E with
  | [] => 0
  | a :: E => (if a.1 = n + j ∧ a.2 = i then 1 else 0) + bw n E i j
/-- arcs from a row to a column, or back -/
def Bip (n : Nat) (E : List (Nat × Nat)) : Prop := ∀ a ∈ E, (a.1 < n ∧ n ≤ a.2 ∧ a.2 < 2 * n) ∨ (n ≤ a.1 ∧ a.1 < 2 * n ∧ a.2 < n)

theorem fw_nn (n : Nat) : ∀ (E : List (Nat × Nat)) (i j : Nat), 0 ≤ fw n E i j
  | [], _, _ => Int.le_refl _
  | a :: E, i, j => by
    have := fw_nn n E i j
    unfold fw
    split <;> omega
theorem bw_nn (n : Nat) : ∀ (E : List (Nat × Nat)) (i j : Nat), 0 ≤ bw n E i j
  | [], _, _ => Int.le_refl _
  | a :: E, i, j => by
    have := bw_nn n E i j
    unfold bw
    split <;> omega
theorem bw_mem {n : Nat} : ∀ {E : List (Nat × Nat)} {i j : Nat}, 0 < bw n E i j → (n + j, i) ∈ E
  | [], _, _, h => absurd h (Int.lt_irrefl 0)
  | a :: E, i, j, h => by
    unfold bw at h
    split at h
    · rename_i q
      obtain ⟨q1, q2⟩ := q
      have : a = (n + j, i) := by
        cases a
        simp only at q1 q2
        rw [q1, q2]
      rw [this]
      exact List.mem_cons_self
    · exact List.mem_cons_of_mem _ (bw_mem (by omega))
theorem fw_mem {n : Nat} : ∀ {E : List (Nat × Nat)} {i j : Nat}, 0 < fw n E i j → (i, n + j) ∈ E
  | [], _, _, h => absurd h (Int.lt_irrefl 0)
  | a :: E, i, j, h => by
    unfold fw at h
    split at h
    · rename_i q
      obtain ⟨q1, q2⟩ := q
      have : a = (i, n + j) := by
        cases a
        simp only at q1 q2
        rw [q1, q2]
      rw [this]
      exact List.mem_cons_self
    · exact List.mem_cons_of_mem _ (fw_mem (by omega))
theorem bw_le_one {n : Nat} : ∀ {E : List (Nat × Nat)}, E.Nodup → ∀ i j, bw n E i j ≤ 1
  | [], _, _, _ => by unfold bw; omega
  | a :: E, h, i, j => by
    obtain ⟨h1, h2⟩ := List.nodup_cons.mp h
    have := bw_le_one (n := n) h2 i j
    unfold bw
    split
    · rename_i q
      by_cases c : 0 < bw n E i j
      · exfalso
        apply h1
        have e : a = (n + j, i) := by
          cases a
          simp only at q
          rw [q.1, q.2]
        rw [e]
        exact bw_mem c
      · omega
    · omega
theorem S_only {n k : Nat} {P : Nat → Prop} [DecidablePred P] (hk : k < n) (h : ∀ j, j < n → (P j ↔ j = k)) : S n (fun j => if P j then (1 : Int) else 0) = 1 := by
  have e : S n (fun j => if P j then (1 : Int) else 0) = S n (fun j => if j = k then (1 : Int) else 0) := S_congr fun j hj => by
    by_cases c : j = k
    · rw [if_pos c, if_pos ((h j hj).mpr c)]
    · rw [if_neg c, if_neg fun z => c ((h j hj).mp z)]
  rw [e, S_one, if_pos hk]
theorem S_none {n : Nat} {P : Nat → Prop} [DecidablePred P] (h : ∀ j, j < n → ¬ P j) : S n (fun j => if P j then (1 : Int) else 0) = 0 := by
  exact (S_congr fun j hj => if_neg (h j hj)).trans (S_zero n)
theorem bal_row {n : Nat} : ∀ {E : List (Nat × Nat)}, Bip n E → ∀ i, i < n → S n (fun j => fw n E i j - bw n E i j) = nb E i
  | [], _, i, _ => S_zero n
  | a :: E, h, i, hi => by
    have ih := bal_row (E := E) (fun b hb => h b (List.mem_cons_of_mem _ hb)) i hi
    unfold fw bw nb
    rw [← ih]
    have e : S n (fun j => ((if a.1 = i ∧ a.2 = n + j then 1 else 0) + fw n E i j) - ((if a.1 = n + j ∧ a.2 = i then 1 else 0) + bw n E i j)) =
        S n (fun j => (if a.1 = i ∧ a.2 = n + j then (1 : Int) else 0) - (if a.1 = n + j ∧ a.2 = i then 1 else 0)) + S n (fun j => fw n E i j - bw n E i j) := by
      rw [← S_add]
      exact S_congr fun j _ => by omega
    rw [e]
    congr 1
    rw [S_sub]
    rcases h a List.mem_cons_self with ⟨q1, q2, q3⟩ | ⟨q1, q2, q3⟩
    · rw [S_none (P := fun j => a.1 = n + j ∧ a.2 = i) (fun j hj => by omega), if_neg (show ¬ a.2 = i by omega)]
      by_cases c : a.1 = i
      · rw [if_pos c, S_only (P := fun j => a.1 = i ∧ a.2 = n + j) (k := a.2 - n) (by omega) (fun j hj => by omega)]
      · rw [if_neg c, S_none (P := fun j => a.1 = i ∧ a.2 = n + j) (fun j hj => by omega)]
    · rw [S_none (P := fun j => a.1 = i ∧ a.2 = n + j) (fun j hj => by omega), if_neg (show ¬ a.1 = i by omega)]
      by_cases c : a.2 = i
      · rw [if_pos c, S_only (P := fun j => a.1 = n + j ∧ a.2 = i) (k := a.1 - n) (by omega) (fun j hj => by omega)]
      · rw [if_neg c, S_none (P := fun j => a.1 = n + j ∧ a.2 = i) (fun j hj => by omega)]
theorem bal_col {n : Nat} : ∀ {E : List (Nat × Nat)}, Bip n E → ∀ j, j < n → S n (fun i => fw n E i j - bw n E i j) = - nb E (n + j)
  | [], _, i, _ => S_zero n
  | a :: E, h, j, hj => by
    have ih := bal_col (E := E) (fun b hb => h b (List.mem_cons_of_mem _ hb)) j hj
    unfold fw bw nb
    have e : S n (fun i => ((if a.1 = i ∧ a.2 = n + j then 1 else 0) + fw n E i j) - ((if a.1 = n + j ∧ a.2 = i then 1 else 0) + bw n E i j)) =
        S n (fun i => (if a.1 = i ∧ a.2 = n + j then (1 : Int) else 0) - (if a.1 = n + j ∧ a.2 = i then 1 else 0)) + S n (fun i => fw n E i j - bw n E i j) := by
      rw [← S_add]
      exact S_congr fun j _ => by omega
    rw [e, ih, S_sub]
    rcases h a List.mem_cons_self with ⟨q1, q2, q3⟩ | ⟨q1, q2, q3⟩
    · rw [S_none (P := fun i => a.1 = n + j ∧ a.2 = i) (fun i hi => by omega), if_neg (show ¬ a.1 = n + j by omega)]
      by_cases c : a.2 = n + j
      · rw [if_pos c, S_only (P := fun i => a.1 = i ∧ a.2 = n + j) (k := a.1) q1 (fun i hi => by omega)]
        omega
      · rw [if_neg c, S_none (P := fun i => a.1 = i ∧ a.2 = n + j) (fun i hi => by omega)]
        omega
    · rw [S_none (P := fun i => a.1 = i ∧ a.2 = n + j) (fun i hi => by omega), if_neg (show ¬ a.2 = n + j by omega)]
      by_cases c : a.1 = n + j
      · rw [if_pos c, S_only (P := fun i => a.1 = n + j ∧ a.2 = i) (k := a.2) q3 (fun i hi => by omega)]
        omega
      · rw [if_neg c, S_none (P := fun i => a.1 = n + j ∧ a.2 = i) (fun i hi => by omega)]
        omega

/-- the arcs of a path told from its beginning -/
def steps : List Nat → List (Nat × Nat)
  | x :: y :: l => (x, y) :: steps (y :: l)
  | _ => []
/-- the arcs of a path told from its end -/
def rsteps : List Nat → List (Nat × Nat)
  | x :: y :: l => (y, x) :: rsteps (y :: l)
  | _ => []
theorem steps_fst : ∀ {l : List Nat} {a : Nat × Nat}, a ∈ steps l → a.1 ∈ l
  | [], _, h => by simp [steps] at h
  | [x], _, h => by simp [steps] at h
  | x :: y :: l, a, h => by
    rcases List.mem_cons.mp (show a ∈ (x, y) :: steps (y :: l) from h) with h | h
    · rw [h]
      exact List.mem_cons_self
    · exact List.mem_cons_of_mem _ (steps_fst h)
theorem rsteps_snd : ∀ {l : List Nat} {a : Nat × Nat}, a ∈ rsteps l → a.2 ∈ l
  | [], _, h => by simp [rsteps] at h
  | [x], _, h => by simp [rsteps] at h
  | x :: y :: l, a, h => by
    rcases List.mem_cons.mp (show a ∈ (y, x) :: rsteps (y :: l) from h) with h | h
    · rw [h]
      exact List.mem_cons_self
    · exact List.mem_cons_of_mem _ (rsteps_snd h)
theorem steps_nodup : ∀ {l : List Nat}, l.Nodup → (steps l).Nodup
  | [], _ => List.nodup_nil
  | [x], _ => List.nodup_nil
  | x :: y :: l, h => by
    obtain ⟨h1, h2⟩ := List.nodup_cons.mp h
    exact List.nodup_cons.mpr ⟨fun q => h1 (steps_fst q), steps_nodup h2⟩
theorem rsteps_nodup : ∀ {l : List Nat}, l.Nodup → (rsteps l).Nodup
  | [], _ => List.nodup_nil
  | [x], _ => List.nodup_nil
  | x :: y :: l, h => by
    obtain ⟨h1, h2⟩ := List.nodup_cons.mp h
    exact List.nodup_cons.mpr ⟨fun q => h1 (rsteps_snd q), rsteps_nodup h2⟩
theorem nb_steps : ∀ {l : List Nat} {x s k : Nat}, (x :: l).getLast? = some s → nb (steps (x :: l)) k = (if x = k then 1 else 0) - (if s = k then 1 else 0)
  | [], x, s, k, h => by
    have e : x = s := by simpa using h
    subst e
    show (0 : Int) = _
    omega
  | y :: l, x, s, k, h => by
    have e : (y :: l).getLast? = some s := by simpa [List.getLast?_cons_cons] using h
    show ((if x = k then 1 else 0) - (if y = k then 1 else 0)) + nb (steps (y :: l)) k = _
    rw [nb_steps e]
    omega
theorem nb_rsteps : ∀ {l : List Nat} {x s k : Nat}, (x :: l).getLast? = some s → nb (rsteps (x :: l)) k = (if s = k then 1 else 0) - (if x = k then 1 else 0)
  | [], x, s, k, h => by
    have e : x = s := by simpa using h
    subst e
    show (0 : Int) = _
    omega
  | y :: l, x, s, k, h => by
    have e : (y :: l).getLast? = some s := by simpa [List.getLast?_cons_cons] using h
    show ((if y = k then 1 else 0) - (if x = k then 1 else 0)) + nb (rsteps (y :: l)) k = _
    rw [nb_rsteps e]
    omega

/-- a plan changed along arcs -/
def along (n : Nat) (v : Int) (E : List (Nat × Nat)) (p : Nat → Nat → Int) : Nat → Nat → Int := fun i j => p i j + v * (fw n E i j - bw n E i j)
theorem along_row {n : Nat} {v : Int} {E : List (Nat × Nat)} {p : Nat → Nat → Int} (h : Bip n E) {i : Nat} (hi : i < n) : S n (along n v E p i) = S n (p i) + v * nb E i := by
  rw [← bal_row h i hi, ← S_mulL, ← S_add]
  exact S_congr fun _ _ => rfl
theorem along_col {n : Nat} {v : Int} {E : List (Nat × Nat)} {p : Nat → Nat → Int} (h : Bip n E) {j : Nat} (hj : j < n) : S n (fun i => along n v E p i j) = S n (fun i => p i j) - v * nb E (n + j) := by
  rw [← Int.neg_neg (nb E (n + j)), ← bal_col h j hj, Int.mul_neg, Int.sub_neg, ← S_mulL, ← S_add]
  exact S_congr fun _ _ => rfl
theorem along_nn {n : Nat} {v : Int} {E : List (Nat × Nat)} {p : Nat → Nat → Int} (hE : E.Nodup) (hv : 0 ≤ v) (hp : ∀ i j, i < n → j < n → 0 ≤ p i j)
    (hl : ∀ i j, i < n → j < n → (n + j, i) ∈ E → v ≤ p i j) : ∀ i j, i < n → j < n → 0 ≤ along n v E p i j := fun i j hi hj => by
  have h1 := fw_nn n E i j
  have h2 := bw_nn n E i j
  have h3 := bw_le_one hE (n := n) i j
  unfold along
  by_cases c : 0 < bw n E i j
  · have h4 := hl i j hi hj (bw_mem c)
    have e : bw n E i j = 1 := by omega
    rw [e, Int.mul_sub]
    have := Int.mul_nonneg hv h1
    omega
  · have e : bw n E i j = 0 := by omega
    rw [e]
    have h5 := hp i j hi hj
    have := Int.mul_nonneg hv h1
    have e2 : fw n E i j - 0 = fw n E i j := by omega
    rw [e2]
    omega
/-- what is more than before stands on an arc from its row to its column -/
theorem along_pos {n : Nat} {v : Int} {E : List (Nat × Nat)} {p : Nat → Nat → Int} (hv : 0 ≤ v) {i j : Nat} (h : 0 < along n v E p i j) : 0 < p i j ∨ (i, n + j) ∈ E := by
  by_cases c : 0 < fw n E i j
  · exact Or.inr (fw_mem c)
  · left
    have h1 := fw_nn n E i j
    have h2 := bw_nn n E i j
    unfold along at h
    have : v * (fw n E i j - bw n E i j) ≤ 0 := Int.mul_nonpos_of_nonneg_of_nonpos hv (by omega)
    omega
end EH
end

/-! ## EhLex -/
section
set_option autoImplicit false
/-! The plan that is greatest entry by entry. Core Lean alone. -/
namespace EH

/-- a plan that has nothing but where it may -/
structure Adm (n : Nat) (T : Nat → Nat → Bool) (A B : Nat → Int) (x : Nat → Nat → Int) : Prop where
  plan : IsPlan n A B x
  sup : ∀ i j, i < n → j < n → 0 < x i j → T i j = true
/-- no plan that is alike before the place of (i, j) has more there -/
def Maxed (n : Nat) (T : Nat → Nat → Bool) (A B : Nat → Int) (x : Nat → Nat → Int) (i j : Nat) : Prop :=
  ∀ y, Adm n T A B y → (∀ k c, k < n → c < n → k * n + c < i * n + j → y k c = x k c) → y i j ≤ x i j

/-- a set of nodes that no change of an entry behind a place leaves -/
structure Shut (n : Nat) (T : Nat → Nat → Bool) (x : Nat → Nat → Int) (at_ : Nat) (R : Nat → Prop) : Prop where
  fwd : ∀ k c, k < n → c < n → R k → T k c = true → at_ < k * n + c → R (n + c)
  bwd : ∀ k c, k < n → c < n → R (n + c) → 0 < x k c → at_ < k * n + c → R k

theorem place_inj {n i j k c : Nat} (hj : j < n) (hc : c < n) (e : k * n + c = i * n + j) : k = i ∧ c = j := by
  have hn : 0 < n := Nat.lt_of_le_of_lt (Nat.zero_le _) hj
  have h1 : (k * n + c) / n = k := by
    rw [Nat.mul_comm, Nat.mul_add_div hn, Nat.div_eq_of_lt hc]
    rfl
  have h2 : (i * n + j) / n = i := by
    rw [Nat.mul_comm, Nat.mul_add_div hn, Nat.div_eq_of_lt hj]
    rfl
  have : k = i := by rw [← h1, ← h2, e]
  subst this
  omega

open Classical in
theorem Shut.maxed {n : Nat} {T : Nat → Nat → Bool} {A B : Nat → Int} {x : Nat → Nat → Int} (hx : Adm n T A B x) {i j : Nat} (hi : i < n) (hj : j < n) {R : Nat → Prop}
    (h : Shut n T x (i * n + j) R) (hR : R (n + j)) (hnR : ¬ R i) : Maxed n T A B x i j := by
  intro y hy he
  apply Classical.byContradiction
  intro hlt
  have hlt : x i j < y i j := by omega
  let z : Nat → Nat → Int := fun k c => y k c - x k c
  have hrow : ∀ k, k < n → S n (z k) = 0 := fun k hk => by
    rw [S_sub, hy.plan.row k hk, hx.plan.row k hk]
    omega
  have hcol : ∀ c, c < n → S n (fun k => z k c) = 0 := fun c hc => by
    rw [S_sub n (fun k => y k c) (fun k => x k c), hy.plan.col c hc, hx.plan.col c hc]
    omega
  -- the columns of R, less the rows of R
  have e : S n (fun k => S n fun c => (if R (n + c) then z k c else 0) - (if R k then z k c else 0)) = 0 := by
    have e1 : S n (fun k => S n fun c => (if R (n + c) then z k c else 0) - (if R k then z k c else 0)) =
        S n (fun k => S n fun c => if R (n + c) then z k c else 0) - S n (fun k => S n fun c => if R k then z k c else 0) := by
      rw [← S_sub]
      exact S_congr fun k _ => S_sub n _ _
    rw [e1, S_swap n n (fun k c => if R (n + c) then z k c else 0)]
    have e2 : S n (fun c => S n fun k => if R (n + c) then z k c else 0) = 0 := by
      refine (S_congr fun c hc => ?_).trans (S_zero n)
      by_cases q : R (n + c)
      · simp only [if_pos q]
        exact hcol c hc
      · simp only [if_neg q]
        exact S_zero n
    have e3 : S n (fun k => S n fun c => if R k then z k c else 0) = 0 := by
      refine (S_congr fun k hk => ?_).trans (S_zero n)
      by_cases q : R k
      · simp only [if_pos q]
        exact hrow k hk
      · simp only [if_neg q]
        exact S_zero n
    rw [e2, e3]
    rfl
  have z0 : ∀ k c, k < n → c < n → R k → ¬ R (n + c) → z k c = 0 := fun k c hk hc q1 q2 => by
    show y k c - x k c = 0
    rcases Nat.lt_trichotomy (k * n + c) (i * n + j) with p | p | p
    · rw [he k c hk hc p]
      omega
    · have := place_inj hj hc p
      rw [this.1] at q1
      exact absurd q1 hnR
    · have hT : ¬ T k c = true := fun t => q2 (h.fwd k c hk hc q1 t p)
      have h1 := hx.plan.nn k c hk hc
      have h2 := hy.plan.nn k c hk hc
      have h3 : ¬ 0 < x k c := fun t => hT (hx.sup k c hk hc t)
      have h4 : ¬ 0 < y k c := fun t => hT (hy.sup k c hk hc t)
      omega
  have z1 : ∀ k c, k < n → c < n → ¬ R k → R (n + c) → 0 ≤ z k c := fun k c hk hc q1 q2 => by
    show 0 ≤ y k c - x k c
    rcases Nat.lt_trichotomy (k * n + c) (i * n + j) with p | p | p
    · rw [he k c hk hc p]
      omega
    · have := place_inj hj hc p
      rw [this.1, this.2]
      omega
    · have h3 : ¬ 0 < x k c := fun t => q1 (h.bwd k c hk hc q2 t p)
      have h2 := hy.plan.nn k c hk hc
      omega
  have nn : ∀ k c, k < n → c < n → 0 ≤ (if R (n + c) then z k c else 0) - (if R k then z k c else 0) := fun k c hk hc => by
    by_cases q1 : R k
    · by_cases q2 : R (n + c)
      · rw [if_pos q1, if_pos q2]
        omega
      · rw [if_pos q1, if_neg q2, z0 k c hk hc q1 q2]
        omega
    · by_cases q2 : R (n + c)
      · rw [if_neg q1, if_pos q2]
        have := z1 k c hk hc q1 q2
        omega
      · rw [if_neg q1, if_neg q2]
        omega
  have f1 := S_zero_all (fun k hk => S_nonneg fun c hc => nn k c hk hc) e i hi
  have f2 := S_zero_all (fun c hc => nn i c hi hc) f1 j hj
  rw [if_pos hR, if_neg hnR] at f2
  have : z i j = y i j - x i j := rfl
  omega

/-- what is told of a plan by its first entries alone -/
theorem Maxed.of_eq {n : Nat} {T : Nat → Nat → Bool} {A B : Nat → Int} {x x' : Nat → Nat → Int} {i j : Nat} (hi : i < n) (hj : j < n) (h : Maxed n T A B x i j)
    (e : ∀ k c, k < n → c < n → k * n + c ≤ i * n + j → x' k c = x k c) : Maxed n T A B x' i j := fun y hy he => by
  rw [e i j hi hj (Nat.le_refl _)]
  exact h y hy fun k c hk hc q => (he k c hk hc q).trans (e k c hk hc (Nat.le_of_lt q))

/-- a plan changed along a path from the column to the row of an entry, and at the entry -/
def turned (n : Nat) (v : Int) (E : List (Nat × Nat)) (i j : Nat) (x : Nat → Nat → Int) : Nat → Nat → Int :=
  fun k c => along n v E x k c + if k = i ∧ c = j then v else 0
/-- each arc of a path is one by which the plan may be changed -/
def ArcOk (n : Nat) (F : Nat → Nat → Prop) (G : Nat → Nat → Prop) (a : Nat × Nat) : Prop :=
  (∃ k c, k < n ∧ c < n ∧ a = (k, n + c) ∧ F k c) ∨ (∃ k c, k < n ∧ c < n ∧ a = (n + c, k) ∧ G k c)
theorem bip_of_ok {n : Nat} {F G : Nat → Nat → Prop} {E : List (Nat × Nat)} (h : ∀ a ∈ E, ArcOk n F G a) : Bip n E := fun a ha => by
  rcases h a ha with ⟨k, c, hk, hc, rfl, _⟩ | ⟨k, c, hk, hc, rfl, _⟩
  · left
    show k < n ∧ n ≤ n + c ∧ n + c < 2 * n
    omega
  · right
    show n ≤ n + c ∧ n + c < 2 * n ∧ k < n
    omega
theorem ok_bwd {n : Nat} {F G : Nat → Nat → Prop} {E : List (Nat × Nat)} (h : ∀ a ∈ E, ArcOk n F G a) {k c : Nat} (_hk : k < n) (m : (n + c, k) ∈ E) : G k c := by
  rcases h _ m with ⟨k', c', hk', hc', e, q⟩ | ⟨k', c', hk', hc', e, q⟩
  · have e1 := (Prod.mk.inj e).1
    omega
  · have e1 := (Prod.mk.inj e).1
    have e2 := (Prod.mk.inj e).2
    have : c = c' := by omega
    subst this e2
    exact q
theorem ok_fwd {n : Nat} {F G : Nat → Nat → Prop} {E : List (Nat × Nat)} (h : ∀ a ∈ E, ArcOk n F G a) {k c : Nat} (hk : k < n) (m : (k, n + c) ∈ E) : F k c := by
  rcases h _ m with ⟨k', c', hk', hc', e, q⟩ | ⟨k', c', hk', hc', e, q⟩
  · have e1 := (Prod.mk.inj e).1
    have e2 := (Prod.mk.inj e).2
    have : c = c' := by omega
    subst this e1
    exact q
  · have e1 := (Prod.mk.inj e).1
    omega
theorem Adm.turned {n : Nat} {T : Nat → Nat → Bool} {A B : Nat → Int} {x : Nat → Nat → Int} (hx : Adm n T A B x) {i j : Nat} (hi : i < n) (hj : j < n) (hT : T i j = true) {v : Int} (hv : 0 ≤ v)
    {E : List (Nat × Nat)} (hE : E.Nodup) (hok : ∀ a ∈ E, ArcOk n (fun k c => T k c = true) (fun k c => v ≤ x k c) a)
    (hb : ∀ k, nb E k = (if n + j = k then 1 else 0) - (if i = k then 1 else 0)) : Adm n T A B (turned n v E i j x) where
  plan := {
    nn := fun k c hk hc => by
      have h1 := along_nn hE hv hx.plan.nn (fun k c hk hc m => ok_bwd hok hk m) k c hk hc
      unfold EH.turned
      split <;> omega
    row := fun k hk => by
      show S n (fun c => along n v E x k c + if k = i ∧ c = j then v else 0) = A k
      rw [S_add n (along n v E x k), along_row (bip_of_ok hok) hk, hx.plan.row k hk, hb k, if_neg (show ¬ n + j = k by omega)]
      by_cases q : i = k
      · subst q
        rw [if_pos rfl, S_congr (g := fun c => if c = j then v else 0) fun c _ => by simp, S_one, if_pos hj]
        have : v * (0 - 1) = - v := by rw [Int.mul_sub]; omega
        rw [this]
        omega
      · rw [if_neg q, S_congr (g := fun _ => 0) fun c _ => if_neg fun z => q z.1.symm, S_zero]
        have : v * (0 - 0) = 0 := Int.mul_zero v
        rw [this]
        omega
    col := fun c hc => by
      show S n (fun k => along n v E x k c + if k = i ∧ c = j then v else 0) = B c
      rw [S_add n (fun k => along n v E x k c), along_col (bip_of_ok hok) hc, hx.plan.col c hc, hb (n + c), if_neg (show ¬ i = n + c by omega)]
      by_cases q : j = c
      · subst q
        rw [if_pos rfl, S_congr (g := fun k => if k = i then v else 0) fun c _ => by simp, S_one, if_pos hi]
        have : v * (1 - 0) = v := Int.mul_one v
        rw [this]
        omega
      · rw [if_neg (show ¬ n + j = n + c by omega), S_congr (g := fun _ => 0) fun k _ => if_neg fun z => q z.2.symm, S_zero]
        have : v * (0 - 0) = 0 := Int.mul_zero v
        rw [this]
        omega }
  sup := fun k c hk hc h => by
    by_cases q : k = i ∧ c = j
    · rw [q.1, q.2]
      exact hT
    · unfold EH.turned at h
      rw [if_neg q] at h
      rcases along_pos hv (show 0 < along n v E x k c by omega) with z | z
      · exact hx.sup k c hk hc z
      · exact ok_fwd hok hk z
end EH
end

/-! ## EhBits -/
section
set_option autoImplicit false
/-! Sets of small numbers as sums of powers of 2. Core Lean alone. -/
namespace EH
theorem test_div (s i : Nat) : (s / 2 ^ i % 2 == 1) = s.testBit i := by
  rw [Nat.testBit_eq_decide_div_mod_eq]
  rfl
def bits (l : List Nat) : Nat := l.foldl (fun t j => t + 2 ^ j) 0
theorem bits_app (l : List Nat) (a : Nat) : bits (l ++ [a]) = bits l + 2 ^ a := by
  unfold bits
  rw [List.foldl_append]
  rfl
theorem bits_range (P : Nat → Bool) : ∀ n, bits ((List.range n).filter P) < 2 ^ n ∧ ∀ j, (bits ((List.range n).filter P)).testBit j = (decide (j < n) && P j)
  | 0 => ⟨Nat.zero_lt_one, fun j => by simp [bits]⟩
  | n + 1 => by
    obtain ⟨h1, h2⟩ := bits_range P n
    rw [List.range_succ, List.filter_append]
    by_cases c : P n = true
    · have e : List.filter P [n] = [n] := by simp [c]
      rw [e, bits_app]
      refine ⟨by rw [Nat.pow_succ]; omega, fun j => ?_⟩
      rw [Nat.add_comm]
      rcases Nat.lt_trichotomy j n with q | q | q
      · rw [Nat.testBit_two_pow_add_gt q, h2 j]
        simp [q, Nat.lt_succ_of_lt q]
      · subst q
        rw [Nat.testBit_two_pow_add_eq, h2 j]
        simp [c]
      · have : (2 ^ n + bits ((List.range n).filter P)).testBit j = false := by
          apply Nat.testBit_lt_two_pow
          have : 2 ^ (n + 1) ≤ 2 ^ j := Nat.pow_le_pow_right (by omega) q
          rw [Nat.pow_succ] at this
          omega
        rw [this]
        have : ¬ j < n + 1 := by omega
        simp [this]
    · have e : List.filter P [n] = [] := by simp [c]
      rw [e, List.append_nil]
      refine ⟨by rw [Nat.pow_succ]; omega, fun j => ?_⟩
      rw [h2 j]
      rcases Nat.lt_trichotomy j n with q | q | q
      · simp [q, Nat.lt_succ_of_lt q]
      · subst q
        simp [c]
      · have : ¬ j < n + 1 := by omega
        have h3 : ¬ j < n := by omega
        simp [this, h3]
end EH
end

/-! ## EhMost -/
section
set_option autoImplicit false
/-! Pair by pair, each as much as it can have. Core Lean alone. -/
namespace EH

theorem S_single {n i : Nat} {f : Nat → Int} (hi : i < n) (h : ∀ k, k < n → k ≠ i → f k = 0) : S n f = f i := by
  have e : S n f = S n (fun k => if k = i then f i else 0) := S_congr fun k hk => by
    by_cases c : k = i
    · rw [if_pos c, c]
    · rw [if_neg c, h k hk c]
  rw [e, S_one, if_pos hi]
theorem foldl_min {h : Nat → Int} {v : Int} : ∀ {l : List Nat} {m : Int}, v ≤ m → (∀ s ∈ l, v ≤ h s) → (v = m ∨ ∃ s ∈ l, v = h s) → l.foldl (fun m s => min m (h s)) m = v
  | [], m, _, _, e => by
    rcases e with e | ⟨s, hs, _⟩
    · exact e.symm
    · simp at hs
  | s :: l, m, h1, h2, e => by
    have hs := h2 s List.mem_cons_self
    refine foldl_min (l := l) (m := min m (h s)) (by omega) (fun t ht => h2 t (List.mem_cons_of_mem _ ht)) ?_
    rcases e with e | ⟨t, ht, e⟩
    · left
      omega
    · rcases List.mem_cons.mp ht with rfl | ht
      · left
        omega
      · exact Or.inr ⟨t, ht, e⟩

def reachB (n : Nat) (T : Nat → Nat → Bool) (s : Nat) : Nat := bits ((List.range n).filter fun j => (List.range n).any fun i => s.testBit i && T i j)
def ofI (n : Nat) (a : Nat → Int) (s : Nat) : Int := S n fun k => if s.testBit k = true then a k else 0
def mostI (n : Nat) (T : Nat → Nat → Bool) (a b : Nat → Int) (i j : Nat) : Int :=
  ((List.range (2 ^ n)).filter fun s => !s.testBit i && (reachB n T s).testBit j).foldl (fun m s => min m (ofI n b (reachB n T s) - ofI n a s)) (min (a i) (b j))
theorem reachB_bit {n : Nat} {T : Nat → Nat → Bool} {s j : Nat} : (reachB n T s).testBit j = true ↔ j < n ∧ ∃ i, i < n ∧ s.testBit i = true ∧ T i j = true := by
  unfold reachB
  rw [(bits_range _ n).2 j, Bool.and_eq_true, decide_eq_true_iff, List.any_eq_true]
  constructor
  · rintro ⟨h, i, hi, q⟩
    rw [Bool.and_eq_true] at q
    exact ⟨h, i, List.mem_range.mp hi, q.1, q.2⟩
  · rintro ⟨h, i, hi, q1, q2⟩
    exact ⟨h, i, List.mem_range.mpr hi, by rw [q1, q2]; rfl⟩

/-- the rest of a plan, from a place on -/
def restOf (n : Nat) (X : Nat → Nat → Int) (at_ : Nat) : Nat → Nat → Int := fun k c => if k * n + c < at_ then 0 else X k c
section
variable {n : Nat} {T : Nat → Nat → Bool} {A B : Nat → Int} {X : Nat → Nat → Int}
theorem rest_nn (hX : Adm n T A B X) (at_ : Nat) : ∀ k c, k < n → c < n → 0 ≤ restOf n X at_ k c := fun k c hk hc => by
  unfold restOf
  split
  · exact Int.le_refl _
  · exact hX.plan.nn k c hk hc
theorem rest_sup (hX : Adm n T A B X) {at_ k c : Nat} (hk : k < n) (hc : c < n) (h : 0 < restOf n X at_ k c) : T k c = true ∧ at_ ≤ k * n + c ∧ 0 < X k c := by
  unfold restOf at h
  split at h
  · exact absurd h (Int.lt_irrefl 0)
  · exact ⟨hX.sup k c hk hc h, by omega, h⟩

/-- what may go to where a set reaches, less what the set has -/
theorem cut_sum (s at_ : Nat) : ofI n (fun c => S n fun k => restOf n X at_ k c) (reachB n T s) - ofI n (fun k => S n (restOf n X at_ k)) s =
    S n fun k => S n fun c => (if (reachB n T s).testBit c = true then restOf n X at_ k c else 0) - (if s.testBit k = true then restOf n X at_ k c else 0) := by
  have e1 : ofI n (fun c => S n fun k => restOf n X at_ k c) (reachB n T s) = S n fun k => S n fun c => if (reachB n T s).testBit c = true then restOf n X at_ k c else 0 := by
    rw [S_swap n n (fun k c => if (reachB n T s).testBit c = true then restOf n X at_ k c else 0)]
    refine S_congr fun c _ => ?_
    by_cases q : (reachB n T s).testBit c = true
    · simp only [if_pos q]
    · simp only [if_neg q]
      exact (S_zero n).symm
  have e2 : ofI n (fun k => S n (restOf n X at_ k)) s = S n fun k => S n fun c => if s.testBit k = true then restOf n X at_ k c else 0 := by
    refine S_congr fun k _ => ?_
    by_cases q : s.testBit k = true
    · simp only [if_pos q]
    · simp only [if_neg q]
      exact (S_zero n).symm
  rw [e1, e2, ← S_sub]
  exact S_congr fun k _ => (S_sub n _ _).symm
theorem cut_nn (hX : Adm n T A B X) (s at_ : Nat) : ∀ k c, k < n → c < n →
    0 ≤ (if (reachB n T s).testBit c = true then restOf n X at_ k c else 0) - (if s.testBit k = true then restOf n X at_ k c else 0) := fun k c hk hc => by
  have h1 := rest_nn hX at_ k c hk hc
  by_cases q1 : s.testBit k = true
  · rw [if_pos q1]
    by_cases q2 : 0 < restOf n X at_ k c
    · rw [if_pos (reachB_bit.mpr ⟨hc, k, hk, q1, (rest_sup hX hk hc q2).1⟩)]
      omega
    · have : restOf n X at_ k c = 0 := by omega
      rw [this]
      simp
  · rw [if_neg q1]
    split <;> omega

/-- the arcs by which what is behind a place may still go -/
def Rel (n : Nat) (T : Nat → Nat → Bool) (X : Nat → Nat → Int) (at_ : Nat) : Nat → Nat → Int → Prop := fun u v d =>
  d = 0 ∧ ArcOk n (fun k c => T k c = true) (fun k c => 0 < X k c ∧ at_ < k * n + c) (u, v)
theorem wl_arcs {R : Nat → Nat → Int → Prop} : ∀ {l : List Nat} {c : Int}, WL R l c → ∀ a ∈ rsteps l, ∃ d, R a.1 a.2 d
  | _, _, .one v, a, h => by simp [rsteps] at h
  | _, _, .more (v := v) (u := u) (l := l) w r, a, h => by
    rcases List.mem_cons.mp (show a ∈ (u, v) :: rsteps (u :: l) from h) with h | h
    · exact ⟨_, by rw [h]; exact r⟩
    · exact wl_arcs w a h
theorem not_back (hX : Adm n T A B X) {i j : Nat} (hi : i < n) (hj : j < n) (hT : T i j = true) (hmax : ∀ k c, k < n → c < n → k * n + c ≤ i * n + j → T k c = true → Maxed n T A B X k c)
    {l : List Nat} {d : Int} (w : WL (Rel n T X (i * n + j)) (i :: l) d) (e : (i :: l).getLast? = some (n + j)) : False := by
  obtain ⟨l', c', w', _, hn, e', _⟩ := WL.short (pi := fun _ => 0) (fun u v d r => by have := r.1; omega) _ (Nat.le_refl _) w
  have el := e'.trans e
  have hok : ∀ a ∈ rsteps (i :: l'), ArcOk n (fun k c => T k c = true) (fun k c => 0 < X k c ∧ i * n + j < k * n + c) a := fun a ha => by
    obtain ⟨d, r⟩ := wl_arcs w' a ha
    exact r.2
  have hY : Adm n T A B (turned n 1 (rsteps (i :: l')) i j X) := by
    refine hX.turned hi hj hT (by omega) (rsteps_nodup hn) (fun a ha => ?_) fun k => nb_rsteps el
    rcases hok a ha with ⟨k, c, hk, hc, ea, q⟩ | ⟨k, c, hk, hc, ea, q⟩
    · exact Or.inl ⟨k, c, hk, hc, ea, q⟩
    · exact Or.inr ⟨k, c, hk, hc, ea, by have := q.1; omega⟩
  have hb : ∀ k c, k < n → c < n → k * n + c ≤ i * n + j → bw n (rsteps (i :: l')) k c = 0 := fun k c hk hc q => by
    have h1 := bw_nn n (rsteps (i :: l')) k c
    by_cases h2 : 0 < bw n (rsteps (i :: l')) k c
    · have := (ok_bwd hok hk (bw_mem h2)).2
      omega
    · omega
  have hf : ∀ q, ∀ k c, k < n → c < n → k * n + c = q → q < i * n + j → fw n (rsteps (i :: l')) k c = 0 := by
    intro q
    induction q using Nat.strongRecOn with
    | ind q ih =>
      intro k c hk hc eq hq
      have h1 := fw_nn n (rsteps (i :: l')) k c
      by_cases h2 : 0 < fw n (rsteps (i :: l')) k c
      · exfalso
        have hT' := ok_fwd hok hk (fw_mem h2)
        have := hmax k c hk hc (by omega) hT' _ hY fun k' c' hk' hc' hq' => by
          show along n 1 _ X k' c' + _ = _
          unfold along
          rw [ih (k' * n + c') (by omega) k' c' hk' hc' rfl (by omega), hb k' c' hk' hc' (by omega), if_neg (fun z => by
            rw [z.1, z.2] at hq'
            omega)]
          omega
        have e2 : turned n 1 (rsteps (i :: l')) i j X k c = X k c + fw n (rsteps (i :: l')) k c := by
          show along n 1 _ X k c + _ = _
          unfold along
          rw [hb k c hk hc (by omega), if_neg (fun z => by
            rw [z.1, z.2] at eq
            omega)]
          omega
        omega
      · omega
  have := hmax i j hi hj (Nat.le_refl _) hT _ hY fun k' c' hk' hc' hq' => by
    show along n 1 _ X k' c' + _ = _
    unfold along
    rw [hf (k' * n + c') k' c' hk' hc' rfl hq', hb k' c' hk' hc' (by omega), if_neg (fun z => by
      rw [z.1, z.2] at hq'
      omega)]
    omega
  have e2 : turned n 1 (rsteps (i :: l')) i j X i j = X i j + fw n (rsteps (i :: l')) i j + 1 := by
    show along n 1 _ X i j + _ = _
    unfold along
    rw [hb i j hi hj (Nat.le_refl _), if_pos ⟨rfl, rfl⟩]
    omega
  have h1 := fw_nn n (rsteps (i :: l')) i j
  omega

open Classical in
theorem most_eq (hX : Adm n T A B X) {i j : Nat} (hi : i < n) (hj : j < n) (hT : T i j = true) (hmax : ∀ k c, k < n → c < n → k * n + c ≤ i * n + j → T k c = true → Maxed n T A B X k c) :
    mostI n T (fun k => S n (restOf n X (i * n + j) k)) (fun c => S n fun k => restOf n X (i * n + j) k c) i j = X i j := by
  have here : restOf n X (i * n + j) i j = X i j := by
    unfold restOf
    rw [if_neg (Nat.lt_irrefl _)]
  have nn := rest_nn hX (i * n + j)
  have ha : X i j ≤ S n (restOf n X (i * n + j) i) := by
    rw [← here]
    exact S_ge_one (fun c hc => nn i c hi hc) j hj
  have hb : X i j ≤ S n (fun k => restOf n X (i * n + j) k j) := by
    have := S_ge_one (f := fun k => restOf n X (i * n + j) k j) (fun k hk => nn k j hk hj) i hi
    rw [← here]
    exact this
  refine foldl_min (Int.le_min.mpr ⟨ha, hb⟩) (fun s hs => ?_) ?_
  · -- never less than the entry
    obtain ⟨_, q⟩ := List.mem_filter.mp hs
    rw [Bool.and_eq_true, Bool.not_eq_true'] at q
    rw [cut_sum]
    have h1 := S_ge_one (fun k hk => S_nonneg fun c hc => cut_nn hX s (i * n + j) k c hk hc) i hi
    have h2 := S_ge_one (fun c hc => cut_nn hX s (i * n + j) i c hi hc) j hj
    rw [if_pos q.2, if_neg (by rw [q.1]; exact Bool.false_ne_true), here] at h2
    have := Int.le_trans h2 h1
    omega
  · -- and once as much
    let R : Nat → Prop := fun u => ∃ l d, WL (Rel n T X (i * n + j)) (u :: l) d ∧ (u :: l).getLast? = some (n + j)
    have hR : R (n + j) := ⟨[], 0, .one _, rfl⟩
    have hnR : ¬ R i := fun ⟨l, d, w, e⟩ => not_back hX hi hj hT hmax w e
    have fwd : ∀ k c, k < n → c < n → R k → T k c = true → R (n + c) := fun k c hk hc ⟨l, d, w, e⟩ t =>
      ⟨k :: l, d + 0, .more w ⟨rfl, Or.inl ⟨k, c, hk, hc, rfl, t⟩⟩, by rw [List.getLast?_cons_cons]; exact e⟩
    have bwd : ∀ k c, k < n → c < n → R (n + c) → 0 < X k c → i * n + j < k * n + c → R k := fun k c hk hc ⟨l, d, w, e⟩ t q =>
      ⟨(n + c) :: l, d + 0, .more w ⟨rfl, Or.inr ⟨k, c, hk, hc, rfl, t, q⟩⟩, by rw [List.getLast?_cons_cons]; exact e⟩
    let s := bits ((List.range n).filter fun k => decide (R k))
    have hs : ∀ k, s.testBit k = true ↔ k < n ∧ R k := fun k => by
      rw [show s.testBit k = _ from (bits_range _ n).2 k, Bool.and_eq_true, decide_eq_true_iff, decide_eq_true_iff]
    have hrs : ∀ c, (reachB n T s).testBit c = true → c < n ∧ R (n + c) := fun c h => by
      obtain ⟨hc, k, hk, q1, q2⟩ := reachB_bit.mp h
      exact ⟨hc, fwd k c hk hc ((hs k).mp q1).2 q2⟩
    have out : ∀ k c, k < n → c < n → R (n + c) → ¬ R k → ¬ (k = i ∧ c = j) → restOf n X (i * n + j) k c = 0 := fun k c hk hc q1 q2 q3 => by
      have h0 := nn k c hk hc
      by_cases z : 0 < restOf n X (i * n + j) k c
      · exfalso
        obtain ⟨_, z2, z3⟩ := rest_sup hX hk hc z
        rcases Nat.lt_or_ge (i * n + j) (k * n + c) with y | y
        · exact q2 (bwd k c hk hc q1 z3 y)
        · exact q3 (place_inj hj hc (Nat.le_antisymm y z2))
      · omega
    by_cases hreach : (reachB n T s).testBit j = true
    · right
      refine ⟨s, List.mem_filter.mpr ⟨List.mem_range.mpr (bits_range _ n).1, ?_⟩, ?_⟩
      · rw [hreach, Bool.and_true, Bool.not_eq_true']
        exact Bool.eq_false_iff.mpr fun z => hnR ((hs i).mp z).2
      · rw [cut_sum, S_single hi, S_single hj, if_pos hreach, if_neg (fun z => hnR ((hs i).mp z).2), here]
        · omega
        · intro c hc hne
          rw [if_neg (fun z => hnR ((hs i).mp z).2)]
          split
          · rename_i z
            rw [out i c hi hc (hrs c z).2 hnR fun y => hne y.2]
            rfl
          · rfl
        · intro k hk hne
          refine (S_congr fun c hc => ?_).trans (S_zero n)
          by_cases z : R k
          · rw [if_pos ((hs k).mpr ⟨hk, z⟩)]
            by_cases y : 0 < restOf n X (i * n + j) k c
            · rw [if_pos (reachB_bit.mpr ⟨hc, k, hk, (hs k).mpr ⟨hk, z⟩, (rest_sup hX hk hc y).1⟩)]
              omega
            · have := nn k c hk hc
              have e : restOf n X (i * n + j) k c = 0 := by omega
              rw [e]
              simp
          · rw [if_neg fun t => z ((hs k).mp t).2]
            split
            · rename_i t
              rw [out k c hk hc (hrs c t).2 z fun y => hne y.1]
              rfl
            · rfl
    · left
      have : S n (fun k => restOf n X (i * n + j) k j) = X i j := by
        rw [S_single hi, here]
        intro k hk hne
        by_cases z : R k
        · have h0 := nn k j hk hj
          by_cases y : 0 < restOf n X (i * n + j) k j
          · exact absurd (reachB_bit.mpr ⟨hj, k, hk, (hs k).mpr ⟨hk, z⟩, (rest_sup hX hk hj y).1⟩) hreach
          · omega
        · exact out k j hk hj hR z fun y => hne y.1
      show X i j = min (S n (restOf n X (i * n + j) i)) (S n fun k => restOf n X (i * n + j) k j)
      omega
end
end EH
end

/-! ## EhFrac -/
section
set_option autoImplicit false
set_option linter.all false
/-! Fractions over a common denominator. Core Lean and the specification's modules. -/
namespace EH
open Sr58 (Frac frac plus times less whole total)
open Sr66 (minus over zero neg)

/-- in lowest terms -/
structure Low (a : Frac) : Prop where
  pos : 0 < a.d
  cop : Nat.gcd a.n.natAbs a.d = 1

theorem frac_def {n : Int} {d : Nat} (hd : 0 < d) : frac n d = ⟨n / (Nat.gcd n.natAbs d : Int), d / Nat.gcd n.natAbs d⟩ := by
  have hg : 0 < Nat.gcd n.natAbs d := Nat.gcd_pos_of_pos_right _ hd
  have hq : 0 < d / Nat.gcd n.natAbs d := Nat.div_pos (Nat.le_of_dvd hd (Nat.gcd_dvd_right _ _)) hg
  show (if Nat.gcd n.natAbs d = 0 then (⟨0, 1⟩ : Frac) else if d / Nat.gcd n.natAbs d = 0 then ⟨0, 1⟩ else ⟨n / (Nat.gcd n.natAbs d : Int), d / Nat.gcd n.natAbs d⟩) = _
  rw [if_neg (by omega), if_neg (by omega)]
theorem frac_d {n : Int} {d : Nat} (hd : 0 < d) : (frac n d).d = d / Nat.gcd n.natAbs d := by rw [frac_def hd]
theorem frac_n {n : Int} {d : Nat} (hd : 0 < d) : (frac n d).n = n / (Nat.gcd n.natAbs d : Int) := by rw [frac_def hd]
theorem frac_dmul {n : Int} {d : Nat} (hd : 0 < d) : (frac n d).d * Nat.gcd n.natAbs d = d := by
  rw [frac_d hd]
  exact Nat.div_mul_cancel (Nat.gcd_dvd_right _ _)
theorem frac_nmul {n : Int} {d : Nat} (hd : 0 < d) : (frac n d).n * (Nat.gcd n.natAbs d : Int) = n := by
  rw [frac_n hd]
  exact Int.ediv_mul_cancel (Int.dvd_natAbs.mp (Int.natCast_dvd_natCast.mpr (Nat.gcd_dvd_left n.natAbs d)))
theorem frac_dpos {n : Int} {d : Nat} (hd : 0 < d) : 0 < (frac n d).d := by
  rw [frac_d hd]
  exact Nat.div_pos (Nat.le_of_dvd hd (Nat.gcd_dvd_right _ _)) (Nat.gcd_pos_of_pos_right _ hd)
theorem frac_dvd {n : Int} {d : Nat} (hd : 0 < d) : (frac n d).d ∣ d := ⟨_, (frac_dmul hd).symm⟩
theorem frac_cross {n : Int} {d : Nat} (hd : 0 < d) : (frac n d).n * d = n * (frac n d).d := by
  have h1 : (d : Int) = ((frac n d).d : Int) * (Nat.gcd n.natAbs d : Int) := by
    rw [← Int.natCast_mul, frac_dmul hd]
  have h2 := frac_nmul (n := n) hd
  calc (frac n d).n * d = (frac n d).n * (((frac n d).d : Int) * (Nat.gcd n.natAbs d : Int)) := by rw [← h1]
    _ = (frac n d).n * (Nat.gcd n.natAbs d : Int) * (frac n d).d := by rw [Int.mul_comm ((frac n d).d : Int), Int.mul_assoc]
    _ = n * (frac n d).d := by rw [h2]
theorem frac_low {n : Int} {d : Nat} (hd : 0 < d) : Low (frac n d) := by
  refine ⟨frac_dpos hd, ?_⟩
  have hg : 0 < Nat.gcd n.natAbs d := Nat.gcd_pos_of_pos_right _ hd
  have h1 : (frac n d).n.natAbs * Nat.gcd n.natAbs d = n.natAbs := by
    have := congrArg Int.natAbs (frac_nmul (n := n) hd)
    rw [Int.natAbs_mul, Int.natAbs_natCast] at this
    exact this
  have h2 := frac_dmul (n := n) hd
  have h3 : Nat.gcd ((frac n d).n.natAbs * Nat.gcd n.natAbs d) ((frac n d).d * Nat.gcd n.natAbs d) = Nat.gcd n.natAbs d := by
    rw [h1, h2]
  rw [Nat.gcd_mul_right] at h3
  have : Nat.gcd (frac n d).n.natAbs (frac n d).d * Nat.gcd n.natAbs d = 1 * Nat.gcd n.natAbs d := by rw [h3, Nat.one_mul]
  exact Nat.eq_of_mul_eq_mul_right hg this
theorem Low.eq {a b : Frac} (ha : Low a) (hb : Low b) (e : a.n * b.d = b.n * a.d) : a = b := by
  have e' : a.n.natAbs * b.d = b.n.natAbs * a.d := by
    have := congrArg Int.natAbs e
    rw [Int.natAbs_mul, Int.natAbs_mul, Int.natAbs_natCast, Int.natAbs_natCast] at this
    exact this
  have d1 : a.d ∣ b.d := by
    have : a.d ∣ a.n.natAbs * b.d := ⟨b.n.natAbs, by rw [e', Nat.mul_comm]⟩
    exact Nat.Coprime.dvd_of_dvd_mul_left (Nat.Coprime.symm ha.cop) this
  have d2 : b.d ∣ a.d := by
    have : b.d ∣ b.n.natAbs * a.d := ⟨a.n.natAbs, by rw [← e', Nat.mul_comm]⟩
    exact Nat.Coprime.dvd_of_dvd_mul_left (Nat.Coprime.symm hb.cop) this
  have ed : a.d = b.d := Nat.dvd_antisymm d1 d2
  have en : a.n = b.n := by
    rw [ed] at e
    exact Int.eq_of_mul_eq_mul_right (by have := hb.pos; omega) e
  cases a
  cases b
  simp only at ed en
  rw [ed, en]
theorem frac_eq {n m : Int} {d e : Nat} (hd : 0 < d) (he : 0 < e) (h : n * e = m * d) : frac n d = frac m e := by
  refine (frac_low hd).eq (frac_low he) ?_
  have h1 := frac_cross (n := n) hd
  have h2 := frac_cross (n := m) he
  -- multiply by d * e
  have hde : (0 : Int) < (d : Int) * e := Int.mul_pos (by omega) (by omega)
  apply Int.eq_of_mul_eq_mul_right (Int.ne_of_gt hde)
  calc (frac n d).n * (frac m e).d * ((d : Int) * e) = ((frac n d).n * d) * ((frac m e).d * e) := by
        simp only [Int.mul_assoc, Int.mul_left_comm, Int.mul_comm]
    _ = (n * (frac n d).d) * ((frac m e).d * e) := by rw [h1]
    _ = (n * e) * ((frac n d).d * (frac m e).d) := by simp only [Int.mul_assoc, Int.mul_left_comm, Int.mul_comm]
    _ = (m * d) * ((frac n d).d * (frac m e).d) := by rw [h]
    _ = (m * (frac m e).d) * ((frac n d).d * d) := by simp only [Int.mul_assoc, Int.mul_left_comm, Int.mul_comm]
    _ = ((frac m e).n * e) * ((frac n d).d * d) := by rw [h2]
    _ = (frac m e).n * (frac n d).d * ((d : Int) * e) := by simp only [Int.mul_assoc, Int.mul_left_comm, Int.mul_comm]
theorem frac_inj {n m : Int} {d : Nat} (hd : 0 < d) (h : frac n d = frac m d) : n = m := by
  have h1 := frac_cross (n := n) hd
  have h2 := frac_cross (n := m) hd
  rw [h] at h1
  have hp : ((frac m d).d : Int) ≠ 0 := by have := frac_dpos (n := m) hd; omega
  exact Int.eq_of_mul_eq_mul_right hp (h1.symm.trans h2)
theorem Low.self {a : Frac} (h : Low a) : frac a.n a.d = a := by
  rw [frac_def h.pos, h.cop]
  simp
theorem frac_scale {n : Int} {d k : Nat} (hd : 0 < d) (hk : 0 < k) : frac ((k : Int) * n) (k * d) = frac n d := by
  refine frac_eq (Nat.mul_pos hk hd) hd ?_
  rw [Int.natCast_mul]
  simp only [Int.mul_left_comm, Int.mul_comm]
/-- a fraction over a multiple of its denominator -/
theorem Low.over_ {a : Frac} (h : Low a) {D : Nat} (hD : 0 < D) (hd : a.d ∣ D) : a = frac (a.n * ((D / a.d : Nat) : Int)) D := by
  have e : D = a.d * (D / a.d) := (Nat.mul_div_cancel' hd).symm
  have hq : 0 < D / a.d := Nat.div_pos (Nat.le_of_dvd hD hd) h.pos
  have h2 := frac_scale (n := a.n) h.pos hq
  rw [h.self, Nat.mul_comm (D / a.d) a.d, ← e, Int.mul_comm] at h2
  exact h2.symm

section
variable {D : Nat} (hD : 0 < D)
include hD
theorem plus_frac2 {n m : Int} {d e : Nat} (hd : 0 < d) (he : 0 < e) : plus (frac n d) (frac m e) = frac (n * e + m * d) (d * e) := by
  have h1 := frac_cross (n := n) hd
  have h2 := frac_cross (n := m) he
  refine frac_eq (Nat.mul_pos (frac_dpos hd) (frac_dpos he)) (Nat.mul_pos hd he) ?_
  rw [Int.natCast_mul, Int.natCast_mul, Int.add_mul, Int.add_mul]
  congr 1
  · calc (frac n d).n * (frac m e).d * ((d : Int) * e) = ((frac n d).n * d) * ((frac m e).d * e) := by simp only [Int.mul_assoc, Int.mul_left_comm, Int.mul_comm]
      _ = (n * (frac n d).d) * ((frac m e).d * e) := by rw [h1]
      _ = n * e * (((frac n d).d : Int) * (frac m e).d) := by simp only [Int.mul_assoc, Int.mul_left_comm, Int.mul_comm]
  · calc (frac m e).n * (frac n d).d * ((d : Int) * e) = ((frac m e).n * e) * ((frac n d).d * d) := by simp only [Int.mul_assoc, Int.mul_left_comm, Int.mul_comm]
      _ = (m * (frac m e).d) * ((frac n d).d * d) := by rw [h2]
      _ = m * d * (((frac n d).d : Int) * (frac m e).d) := by simp only [Int.mul_assoc, Int.mul_left_comm, Int.mul_comm]
omit hD in
theorem times_frac2 {n m : Int} {d e : Nat} (hd : 0 < d) (he : 0 < e) : times (frac n d) (frac m e) = frac (n * m) (d * e) := by
  have h1 := frac_cross (n := n) hd
  have h2 := frac_cross (n := m) he
  refine frac_eq (Nat.mul_pos (frac_dpos hd) (frac_dpos he)) (Nat.mul_pos hd he) ?_
  rw [Int.natCast_mul, Int.natCast_mul]
  calc (frac n d).n * (frac m e).n * ((d : Int) * e) = ((frac n d).n * d) * ((frac m e).n * e) := by simp only [Int.mul_assoc, Int.mul_left_comm, Int.mul_comm]
    _ = (n * (frac n d).d) * (m * (frac m e).d) := by rw [h1, h2]
    _ = n * m * (((frac n d).d : Int) * (frac m e).d) := by simp only [Int.mul_assoc, Int.mul_left_comm, Int.mul_comm]
theorem plus_frac (x y : Int) : plus (frac x D) (frac y D) = frac (x + y) D := by
  rw [plus_frac2 hD hD hD]
  refine frac_eq (Nat.mul_pos hD hD) hD ?_
  rw [← Int.add_mul, Int.natCast_mul, Int.mul_assoc]
theorem neg_frac (x : Int) : neg (frac x D) = frac (-x) D := by
  have h := frac_low (n := x) hD
  have hl : Low (neg (frac x D)) := ⟨h.pos, by
    show Nat.gcd (-(frac x D).n).natAbs (frac x D).d = 1
    rw [Int.natAbs_neg]
    exact h.cop⟩
  refine hl.eq (frac_low hD) ?_
  show -(frac x D).n * ((frac (-x) D).d : Int) = (frac (-x) D).n * ((frac x D).d : Int)
  have e : (frac (-x) D).d = (frac x D).d := by rw [frac_d hD, frac_d hD, Int.natAbs_neg]
  have h1 := frac_cross (n := x) hD
  have h2 := frac_cross (n := -x) hD
  rw [e] at h2 ⊢
  congr 1
  apply Int.eq_of_mul_eq_mul_right (show (D : Int) ≠ 0 by omega)
  rw [h2, Int.neg_mul, h1, Int.neg_mul]
theorem minus_frac (x y : Int) : minus (frac x D) (frac y D) = frac (x - y) D := by
  unfold minus
  rw [neg_frac hD, plus_frac hD, Int.sub_eq_add_neg]
theorem less_frac (x y : Int) : less (frac x D) (frac y D) = decide (x < y) := by
  unfold less
  have h1 := frac_cross (n := x) hD
  have h2 := frac_cross (n := y) hD
  have p1 : (0 : Int) < (frac x D).d := by have := frac_dpos (n := x) hD; omega
  have p2 : (0 : Int) < (frac y D).d := by have := frac_dpos (n := y) hD; omega
  have pD : (0 : Int) < D := by omega
  congr 1
  have pp := Int.mul_pos p1 p2
  -- (x.n * y.d) * D = x * (x.d * y.d)
  have e1 : (frac x D).n * (frac y D).d * (D : Int) = x * (((frac x D).d : Int) * (frac y D).d) := by
    calc (frac x D).n * (frac y D).d * (D : Int) = ((frac x D).n * D) * (frac y D).d := by simp only [Int.mul_assoc, Int.mul_left_comm, Int.mul_comm]
      _ = _ := by rw [h1, Int.mul_assoc]
  have e2 : (frac y D).n * (frac x D).d * (D : Int) = y * (((frac x D).d : Int) * (frac y D).d) := by
    calc (frac y D).n * (frac x D).d * (D : Int) = ((frac y D).n * D) * (frac x D).d := by simp only [Int.mul_assoc, Int.mul_left_comm, Int.mul_comm]
      _ = (y * (frac y D).d) * (frac x D).d := by rw [h2]
      _ = _ := by simp only [Int.mul_assoc, Int.mul_left_comm, Int.mul_comm]
  apply propext
  constructor
  · intro h
    have := Int.mul_lt_mul_of_pos_right h pD
    rw [e1, e2] at this
    exact Int.lt_of_mul_lt_mul_right this (Int.le_of_lt pp)
  · intro h
    have := Int.mul_lt_mul_of_pos_right h pp
    rw [← e1, ← e2] at this
    exact Int.lt_of_mul_lt_mul_right this (Int.le_of_lt pD)
theorem least_frac (x y : Int) : Sr80.least (frac x D) (frac y D) = frac (min x y) D := by
  unfold Sr80.least
  rw [less_frac hD]
  by_cases h : y < x
  · rw [if_pos (decide_eq_true h), Int.min_eq_right (Int.le_of_lt h)]
  · rw [if_neg (by simpa using h), Int.min_eq_left (by omega)]
theorem frac_zero : frac 0 D = zero := by
  rw [frac_def hD]
  simp [zero, whole, Nat.div_self hD]
theorem frac_pos (x : Int) : 0 < (frac x D).n ↔ 0 < x := by
  have h := less_frac hD 0 x
  rw [frac_zero hD] at h
  have h' : decide ((0 : Int) * (frac x D).d < (frac x D).n * 1) = decide (0 < x) := h
  rw [Int.zero_mul, Int.mul_one] at h'
  exact decide_eq_decide.mp h'
theorem frac_nonneg (x : Int) : 0 ≤ (frac x D).n ↔ 0 ≤ x := by
  have h := less_frac hD x 0
  rw [frac_zero hD] at h
  have h' : decide ((frac x D).n * 1 < (0 : Int) * (frac x D).d) = decide (x < 0) := h
  rw [Int.zero_mul, Int.mul_one] at h'
  have := decide_eq_decide.mp h'
  omega
theorem frac_whole (k : Int) : whole k = frac (k * D) D := by
  have h : frac (k * D) D = frac k 1 := frac_eq hD Nat.one_pos (by simp)
  rw [h, frac_def Nat.one_pos]
  simp [whole]
theorem times_whole (k x : Int) : times (whole k) (frac x D) = frac (k * x) D := by
  have h : whole k = frac k 1 := by
    have := frac_whole Nat.one_pos k
    simpa using this
  rw [h, times_frac2 Nat.one_pos hD, Nat.one_mul]
theorem times_whole' (k x : Int) : times (frac x D) (whole k) = frac (k * x) D := by
  have h : whole k = frac k 1 := by
    have := frac_whole Nat.one_pos k
    simpa using this
  rw [h, times_frac2 hD Nat.one_pos, Nat.mul_one, Int.mul_comm]
theorem total_frac (l : List Int) : total (l.map fun x => frac x D) = frac l.sum D := by
  have key : ∀ (l : List Int) (a : Int), (l.map fun x => frac x D).foldl plus (frac a D) = frac (a + l.sum) D := by
    intro l
    induction l with
    | nil => intro a; simp
    | cons x l ih =>
      intro a
      rw [List.map_cons, List.foldl_cons, plus_frac hD, ih, List.sum_cons, Int.add_assoc]
  have : total (l.map fun x => frac x D) = (l.map fun x => frac x D).foldl plus (frac 0 D) := by
    rw [frac_zero hD]
    rfl
  rw [this, key, Int.zero_add]
end
end EH
end

/-! ## EhGreedy -/
section
set_option autoImplicit false
set_option linter.all false
/-! The specification's plan, pair by pair, is the greatest one entry by entry. -/
namespace EH
open Sr58 (Frac frac plus times less whole total)
open Sr66 (minus over zero neg)
open Sr80 (cAt pAt least most greedyOn greedy pairs blank ofSet inSet reach)

theorem sum_range : ∀ (n : Nat) (f : Nat → Int), ((List.range n).map f).sum = S n f
  | 0, _ => rfl
  | n + 1, f => by
    rw [List.range_succ, List.map_append, List.sum_append, sum_range n f]
    show S n f + (f n + 0) = S n f + f n
    omega
/-- a spread, a plan over the denominator D -/
def sp (D n : Nat) (a : Nat → Int) : List Frac := (List.range n).map fun k => frac (a k) D
def mt (D n : Nat) (x : Nat → Nat → Int) : List (List Frac) := (List.range n).map fun i => (List.range n).map fun j => frac (x i j) D
theorem sp_congr {D n : Nat} {a b : Nat → Int} (h : ∀ k, k < n → a k = b k) : sp D n a = sp D n b :=
  List.map_congr_left fun k hk => by rw [h k (List.mem_range.mp hk)]
theorem mt_congr {D n : Nat} {x y : Nat → Nat → Int} (h : ∀ i j, i < n → j < n → x i j = y i j) : mt D n x = mt D n y :=
  List.map_congr_left fun i hi => List.map_congr_left fun j hj => by rw [h i j (List.mem_range.mp hi) (List.mem_range.mp hj)]
theorem getD_map_range {α : Type} {n k : Nat} {f : Nat → α} {z : α} (h : k < n) : ((List.range n).map f).getD k z = f k := by
  rw [List.getD_eq_getElem?_getD, List.getElem?_map, List.getElem?_range h]
  rfl
theorem cAt_sp {D n k : Nat} {a : Nat → Int} (h : k < n) : cAt (sp D n a) k = frac (a k) D := getD_map_range h
theorem mt_row {D n i : Nat} {x : Nat → Nat → Int} (h : i < n) : (mt D n x).getD i [] = (List.range n).map fun j => frac (x i j) D := getD_map_range h
theorem pAt_mt {D n i j : Nat} {x : Nat → Nat → Int} (hi : i < n) (hj : j < n) : pAt (mt D n x) i j = frac (x i j) D := by
  unfold pAt
  rw [mt_row hi]
  exact getD_map_range hj
theorem set_map_range {α : Type} {n i : Nat} {f : Nat → α} {v : α} : ((List.range n).map f).set i v = (List.range n).map fun k => if k = i then v else f k := by
  apply List.ext_getElem?
  intro k
  rw [List.getElem?_set, List.getElem?_map, List.getElem?_map]
  rw [List.length_map, List.length_range]
  by_cases q : k < n
  · rw [List.getElem?_range q]
    by_cases h : i = k
    · subst h
      rw [if_pos rfl, if_pos q]
      show _ = some (if i = i then v else f i)
      rw [if_pos rfl]
    · rw [if_neg h]
      show _ = some (if k = i then v else f k)
      rw [if_neg fun z => h z.symm]
      rfl
  · rw [List.getElem?_eq_none (by simpa using q)]
    by_cases h : i = k
    · subst h
      rw [if_pos rfl, if_neg q]
      rfl
    · rw [if_neg h]
      rfl
theorem sp_set {D n i : Nat} {a : Nat → Int} {v : Int} : (sp D n a).set i (frac v D) = sp D n fun k => if k = i then v else a k := by
  unfold sp
  rw [set_map_range]
  refine List.map_congr_left fun k _ => ?_
  show (if k = i then frac v D else frac (a k) D) = frac (if k = i then v else a k) D
  split <;> rfl
theorem mt_set {D n i j : Nat} {x : Nat → Nat → Int} {v : Int} (hi : i < n) : (mt D n x).set i (((mt D n x).getD i []).set j (frac v D)) = mt D n fun k c => if k = i ∧ c = j then v else x k c := by
  rw [mt_row hi, set_map_range]
  unfold mt
  rw [set_map_range]
  refine List.map_congr_left fun k _ => ?_
  by_cases c : k = i
  · rw [if_pos c, c]
    refine List.map_congr_left fun l _ => ?_
    show (if l = j then frac v D else frac (x i l) D) = frac (if i = i ∧ l = j then v else x i l) D
    by_cases d : l = j
    · rw [if_pos d, if_pos ⟨rfl, d⟩]
    · rw [if_neg d, if_neg fun z => d z.2]
  · rw [if_neg c]
    refine List.map_congr_left fun l _ => ?_
    show frac (x k l) D = frac (if k = i ∧ l = j then v else x k l) D
    rw [if_neg fun z => c z.1]
theorem inSet_bit (s i : Nat) : inSet s i = s.testBit i := test_div s i
theorem reach_is (n : Nat) (T : Nat → Nat → Bool) (s : Nat) : reach n T s = reachB n T s := by
  unfold reach reachB bits
  simp only [inSet_bit]
section
variable {D : Nat} (hD : 0 < D)
include hD
theorem blank_mt (n : Nat) : blank n = mt D n fun _ _ => 0 := by
  have e : mt D n (fun _ _ => 0) = (List.range n).map fun _ => (List.range n).map fun _ => frac 0 D := rfl
  rw [e, frac_zero hD, List.map_const', List.map_const', List.length_range]
  rfl
theorem total_range (n : Nat) (f : Nat → Int) : total ((List.range n).map fun k => frac (f k) D) = frac (S n f) D := by
  rw [← sum_range, ← total_frac hD, List.map_map]
  rfl
theorem ofSet_sp (n : Nat) (a : Nat → Int) (s : Nat) : ofSet n (sp D n a) s = frac (ofI n a s) D := by
  unfold ofSet ofI
  rw [← total_range hD]
  congr 1
  refine List.map_congr_left fun k hk => ?_
  rw [inSet_bit]
  split
  · exact cAt_sp (List.mem_range.mp hk)
  · exact (frac_zero hD).symm
theorem most_sp {n : Nat} (T : Nat → Nat → Bool) (a b : Nat → Int) {i j : Nat} (hi : i < n) (hj : j < n) : most n T (sp D n a) (sp D n b) i j = frac (mostI n T a b i j) D := by
  unfold most mostI
  rw [cAt_sp hi, cAt_sp hj, least_frac hD]
  have key : ∀ (l : List Nat) (m : Int), l.foldl (fun m s => least m (minus (ofSet n (sp D n b) (reach n T s)) (ofSet n (sp D n a) s))) (frac m D) =
      frac (l.foldl (fun m s => min m (ofI n b (reachB n T s) - ofI n a s)) m) D := by
    intro l
    induction l with
    | nil => intro m; rfl
    | cons s l ih =>
      intro m
      rw [List.foldl_cons, List.foldl_cons, ofSet_sp hD, ofSet_sp hD, minus_frac hD, least_frac hD, reach_is, ih]
  rw [key]
  simp only [inSet_bit, reach_is]
omit hD in
theorem pairs_range (n : Nat) : pairs n = (List.range' 0 (n * n)).map fun t => (t / n, t % n) := by
  rw [← List.range_eq_range']
  have key : ∀ m, (List.range m).flatMap (fun i => (List.range n).map fun j => (i, j)) = (List.range (m * n)).map fun t => (t / n, t % n) := by
    intro m
    induction m with
    | zero => simp
    | succ m ih =>
      rw [List.range_succ, List.flatMap_append, ih, Nat.succ_mul, List.range_add, List.map_append, List.map_map]
      congr 1
      rw [List.flatMap_cons, List.flatMap_nil, List.append_nil]
      refine List.map_congr_left fun j hj => ?_
      have hj := List.mem_range.mp hj
      have hn : 0 < n := by omega
      show (m, j) = ((m * n + j) / n, (m * n + j) % n)
      rw [Nat.mul_comm m n, Nat.mul_add_div hn, Nat.div_eq_of_lt hj, Nat.mul_add_mod, Nat.mod_eq_of_lt hj]
      rfl
  exact key n

theorem rest_next {n : Nat} {X : Nat → Nat → Int} {i j k c : Nat} (hj : j < n) (hc : c < n) :
    restOf n X (i * n + j + 1) k c = restOf n X (i * n + j) k c - if k = i ∧ c = j then X i j else 0 := by
  unfold restOf
  by_cases h : k = i ∧ c = j
  · rw [if_pos h, h.1, h.2, if_pos (by omega), if_neg (by omega)]
    omega
  · rw [if_neg h]
    have : ¬ k * n + c = i * n + j := fun e => h (place_inj hj hc e)
    by_cases q : k * n + c < i * n + j
    · rw [if_pos (by omega), if_pos q]
      omega
    · rw [if_neg (by omega), if_neg q]
      omega
theorem greedy_go {n : Nat} {T : Nat → Nat → Bool} {A B : Nat → Int} {X : Nat → Nat → Int} (hX : Adm n T A B X)
    (hmax : ∀ k c, k < n → c < n → T k c = true → Maxed n T A B X k c) : ∀ (m at_ : Nat), at_ + m = n * n →
    greedyOn n T ((List.range' at_ m).map fun t => (t / n, t % n)) (sp D n fun k => S n (restOf n X at_ k)) (sp D n fun c => S n fun k => restOf n X at_ k c)
      (mt D n fun k c => if k * n + c < at_ then X k c else 0) = mt D n X
  | 0, at_, h => by
    show mt D n _ = _
    refine mt_congr fun i j hi hj => if_pos ?_
    have h1 : (i + 1) * n ≤ n * n := Nat.mul_le_mul_right n hi
    rw [Nat.succ_mul] at h1
    omega
  | m + 1, at_, h => by
    have hn : 0 < n := by
      rcases Nat.eq_zero_or_pos n with z | z
      · subst z
        omega
      · exact z
    obtain ⟨i, j, hi, hj, e⟩ : ∃ i j, i < n ∧ j < n ∧ at_ = i * n + j := ⟨at_ / n, at_ % n, Nat.div_lt_of_lt_mul (by omega), Nat.mod_lt _ hn, by
      have := Nat.div_add_mod at_ n
      rw [Nat.mul_comm] at this
      omega⟩
    have e1 : at_ / n = i := by
      rw [e, Nat.mul_comm, Nat.mul_add_div hn, Nat.div_eq_of_lt hj]
      rfl
    have e2 : at_ % n = j := by rw [e, Nat.mul_comm, Nat.mul_add_mod, Nat.mod_eq_of_lt hj]
    have ih := greedy_go hX hmax m (at_ + 1) (by omega)
    rw [List.range'_succ, List.map_cons]
    show (if T (at_ / n) (at_ % n) then _ else _) = _
    rw [e1, e2]
    subst e
    by_cases hT : T i j = true
    · rw [if_pos hT]
      dsimp only
      rw [most_sp hD T _ _ hi hj, most_eq hX hi hj hT (fun k c hk hc _ t => hmax k c hk hc t), cAt_sp hi, cAt_sp hj, minus_frac hD, minus_frac hD, pAt_mt hi hj, plus_frac hD, sp_set, sp_set, mt_set hi]
      rw [← ih]
      congr 1
      · refine sp_congr fun k hk => ?_
        rw [S_congr (f := restOf n X (i * n + j + 1) k) fun c hc => rest_next hD hj hc, S_sub]
        by_cases c : k = i
        · subst c
          rw [if_pos rfl, S_congr (f := fun c => if k = k ∧ c = j then X k j else 0) (g := fun c => if c = j then X k j else 0) fun c _ => by simp, S_one, if_pos hj]
        · rw [if_neg c, S_congr (f := fun c => if k = i ∧ c = j then X i j else 0) (g := fun _ => 0) fun d _ => if_neg fun z => c z.1, S_zero]
          omega
      · refine sp_congr fun c hc => ?_
        rw [S_congr (f := fun k => restOf n X (i * n + j + 1) k c) fun k hk => rest_next hD hj hc, S_sub]
        by_cases d : c = j
        · subst d
          rw [if_pos rfl, S_congr (f := fun k => if k = i ∧ c = c then X i c else 0) (g := fun k => if k = i then X i c else 0) fun c _ => by simp, S_one, if_pos hi]
        · rw [if_neg d, S_congr (f := fun k => if k = i ∧ c = j then X i j else 0) (g := fun _ => 0) fun k _ => if_neg fun z => d z.2, S_zero]
          omega
      · refine mt_congr fun k c hk hc => ?_
        by_cases q : k = i ∧ c = j
        · rw [if_pos q, q.1, q.2, if_neg (by omega), if_pos (by omega)]
          omega
        · rw [if_neg q]
          have : ¬ k * n + c = i * n + j := fun e => q (place_inj hj hc e)
          by_cases t : k * n + c < i * n + j
          · rw [if_pos t, if_pos (by omega)]
          · rw [if_neg t, if_neg (by omega)]
    · rw [if_neg hT]
      have x0 : X i j = 0 := by
        have h1 := hX.plan.nn i j hi hj
        have h2 : ¬ 0 < X i j := fun z => hT (hX.sup i j hi hj z)
        omega
      rw [← ih]
      have r0 : ∀ k c, c < n → restOf n X (i * n + j + 1) k c = restOf n X (i * n + j) k c := fun k c hc => by
        rw [rest_next hD hj hc, x0]
        split <;> omega
      congr 1
      · exact sp_congr fun k hk => (S_congr fun c hc => r0 k c hc).symm
      · exact sp_congr fun c hc => (S_congr fun k hk => r0 k c hc).symm
      · refine mt_congr fun k c hk hc => ?_
        by_cases t : k * n + c < i * n + j
        · rw [if_pos t, if_pos (by omega)]
        · rw [if_neg t]
          by_cases q : k * n + c = i * n + j
          · have := place_inj hj hc q
            rw [if_pos (by omega), this.1, this.2, x0]
          · rw [if_neg (by omega)]
theorem greedy_is {n : Nat} {T : Nat → Nat → Bool} {A B : Nat → Int} {X : Nat → Nat → Int} (hX : Adm n T A B X)
    (hmax : ∀ k c, k < n → c < n → T k c = true → Maxed n T A B X k c) : greedy n T (sp D n A) (sp D n B) = mt D n X := by
  have h := greedy_go hD hX hmax (n * n) 0 (Nat.zero_add _)
  unfold greedy
  rw [pairs_range, blank_mt hD]
  have ea : sp D n A = sp D n fun k => S n (restOf n X 0 k) := sp_congr fun k hk => by
    rw [← hX.plan.row k hk]
    exact S_congr fun c _ => (if_neg (Nat.not_lt_zero _)).symm
  have eb : sp D n B = sp D n fun c => S n fun k => restOf n X 0 k c := sp_congr fun c hc => by
    rw [← hX.plan.col c hc]
    exact S_congr fun k _ => (if_neg (Nat.not_lt_zero _)).symm
  have em : mt D n (fun _ _ => 0) = mt D n fun k c => if k * n + c < 0 then X k c else 0 := mt_congr fun k c _ _ => (if_neg (Nat.not_lt_zero _)).symm
  rw [ea, eb, em]
  exact h
end
end EH
end

/-! ## EhPath -/
section
set_option autoImplicit false
set_option linter.all false
/-! One shortest path more keeps a plan the cheapest one of its kind. Core Lean alone. -/
namespace EH

/-- the arcs by which a plan can be changed -/
inductive Res (n : Nat) (c p : Nat → Nat → Int) : Nat → Nat → Int → Prop
  | up {i j : Nat} : i < n → j < n → Res n c p i (n + j) (c i j)
  | down {i j : Nat} : i < n → j < n → 0 < p i j → Res n c p (n + j) i (- c i j)
def potOf (n : Nat) (f g : Nat → Int) (x : Nat) : Int := if x < n then f x else g (x - n)
theorem potOf_row {n i : Nat} {f g : Nat → Int} (h : i < n) : potOf n f g i = f i := if_pos h
theorem potOf_col {n j : Nat} {f g : Nat → Int} : potOf n f g (n + j) = g j := by
  unfold potOf
  rw [if_neg (by omega), Nat.add_sub_cancel_left]
theorem Pots.arc {n : Nat} {c p : Nat → Nat → Int} {f g : Nat → Int} (h : Pots n c p f g) : ∀ u v d, Res n c p u v d → potOf n f g v ≤ potOf n f g u + d := by
  intro u v d r
  cases r with
  | up hi hj =>
    rw [potOf_row hi, potOf_col]
    have := h.le _ _ hi hj
    omega
  | down hi hj hp =>
    rw [potOf_row hi, potOf_col]
    have := h.eq _ _ hi hj hp
    omega
theorem Res.inv {n : Nat} {c p : Nat → Nat → Int} {u v : Nat} {d : Int} (r : Res n c p u v d) :
    (∃ i j, i < n ∧ j < n ∧ u = i ∧ v = n + j ∧ d = c i j) ∨ (∃ i j, i < n ∧ j < n ∧ 0 < p i j ∧ u = n + j ∧ v = i ∧ d = - c i j) := by
  cases r with
  | up hi hj => exact Or.inl ⟨_, _, hi, hj, rfl, rfl, rfl⟩
  | down hi hj hp => exact Or.inr ⟨_, _, hi, hj, hp, rfl, rfl, rfl⟩
theorem Res.lt {n : Nat} {c p : Nat → Nat → Int} {u v : Nat} {d : Int} (r : Res n c p u v d) : u < 2 * n ∧ v < 2 * n := by
  cases r <;> omega
theorem Res.bip {n : Nat} {c p : Nat → Nat → Int} {u v : Nat} {d : Int} (r : Res n c p u v d) : (u < n ∧ n ≤ v ∧ v < 2 * n) ∨ (n ≤ u ∧ u < 2 * n ∧ v < n) := by
  cases r <;> omega
theorem wl_rsteps {R : Nat → Nat → Int → Prop} : ∀ {l : List Nat} {c : Int}, WL R l c → ∀ a ∈ rsteps l, ∃ d, R a.1 a.2 d
  | _, _, .one v, a, h => by simp [rsteps] at h
  | _, _, .more (v := v) (u := u) (l := l) w r, a, h => by
    rcases List.mem_cons.mp (show a ∈ (u, v) :: rsteps (u :: l) from h) with h | h
    · exact ⟨_, by rw [h]; exact r⟩
    · exact wl_rsteps w a h
/-- where a walk costs as little as can be, each of its arcs is tight -/
theorem WL.tight {R : Nat → Nat → Int → Prop} {pi : Nat → Int} (hp : ∀ u v d, R u v d → pi v ≤ pi u + d) : ∀ {l : List Nat} {v s : Nat} {c : Int}, WL R (v :: l) c → (v :: l).getLast? = some s → pi s + c ≤ pi v →
    ∀ a ∈ rsteps (v :: l), ∃ d, R a.1 a.2 d ∧ pi a.2 = pi a.1 + d
  | [], v, s, c, h, e, q, a, ha => by simp [rsteps] at ha
  | u :: l, v, s, c, h, e, q, a, ha => by
    cases h with
    | more h1 h2 =>
      have e' : (u :: l).getLast? = some s := by simpa [List.getLast?_cons_cons] using e
      have b1 := WL.pot hp h1 e'
      have b2 := hp _ _ _ h2
      rcases List.mem_cons.mp (show a ∈ (u, v) :: rsteps (u :: l) from ha) with h | h
      · subst h
        exact ⟨_, h2, by show pi v = pi u + _; omega⟩
      · exact WL.tight hp h1 e' (by omega) a h
/-- a walk that costs no more than its end's potential says meets no node twice, if each of its arcs made its end cheaper -/
theorem Bip.of {n : Nat} {c p : Nat → Nat → Int} {E : List (Nat × Nat)} (h : ∀ a ∈ E, ∃ d, Res n c p a.1 a.2 d) : Bip n E := fun a ha => by
  obtain ⟨d, r⟩ := h a ha
  exact r.bip

/-- what a search from the rows with something left has found: the potentials of a plan are told anew -/
theorem Pots.anew {n : Nat} (hn : 0 < n) {c p : Nat → Nat → Int} {dist : Nat → Option Int}
    (hcol : ∀ j, j < n → (dist (n + j)).isSome = true) (hclosed : ∀ u v x d, dist u = some x → Res n c p u v d → ∃ y, dist v = some y ∧ y ≤ x + d) :
    ∃ f g, Pots n c p f g ∧ ∀ x y, x < 2 * n → dist x = some y → potOf n f g x = y := by
  obtain ⟨m, rfl⟩ : ∃ m, n = m + 1 := ⟨n - 1, by omega⟩
  let g : Nat → Int := fun j => (dist (m + 1 + j)).getD 0
  have hg : ∀ j, j < m + 1 → dist (m + 1 + j) = some (g j) := fun j hj => by
    have := hcol j hj
    show dist (m + 1 + j) = some ((dist (m + 1 + j)).getD 0)
    cases e : dist (m + 1 + j) with
    | none => rw [e] at this; cases this
    | some y => rfl
  let f : Nat → Int := fun i => match dist i with
    | some x => x
    | none => - (min_over m fun j => c i j - g j).choose
  have hf : ∀ i x, dist i = some x → f i = x := fun i x e => by
    show (match dist i with | some x => x | none => _) = x
    rw [e]
  have hf' : ∀ i, dist i = none → ∀ j, j < m + 1 → g j - f i ≤ c i j := fun i e j hj => by
    have h1 := (min_over m fun j => c i j - g j).choose_spec.1 j hj
    have h2 : f i = - (min_over m fun j => c i j - g j).choose := by
      show (match dist i with | some x => x | none => _) = _
      rw [e]
    rw [h2]
    omega
  refine ⟨f, g, ⟨fun i j hi hj => ?_, fun i j hi hj hp => ?_⟩, fun x y hx e => ?_⟩
  · cases e : dist i with
    | none => exact hf' i e j hj
    | some x =>
      obtain ⟨y, e2, q⟩ := hclosed i _ x _ e (Res.up hi hj)
      rw [hg j hj] at e2
      have := Option.some.inj e2
      rw [hf i x e]
      omega
  · obtain ⟨y, e, q⟩ := hclosed _ _ _ _ (hg j hj) (Res.down hi hj hp)
    obtain ⟨y2, e2, q2⟩ := hclosed i _ y _ e (Res.up hi hj)
    rw [hg j hj] at e2
    have := Option.some.inj e2
    rw [hf i y e]
    omega
  · by_cases h : x < m + 1
    · rw [potOf_row h, hf x y e]
    · have : x = m + 1 + (x - (m + 1)) := by omega
      rw [this, potOf_col]
      rw [this, hg _ (by omega)] at e
      exact Option.some.inj e
/-- the potentials still serve behind a change along tight arcs -/
theorem Pots.along {n : Nat} {c p : Nat → Nat → Int} {f g : Nat → Int} (h : Pots n c p f g) {v : Int} (hv : 0 ≤ v) {E : List (Nat × Nat)}
    (ht : ∀ a ∈ E, ∃ d, Res n c p a.1 a.2 d ∧ potOf n f g a.2 = potOf n f g a.1 + d) : Pots n c (along n v E p) f g where
  le := h.le
  eq := fun i j hi hj hp => by
    rcases along_pos hv hp with z | z
    · exact h.eq i j hi hj z
    · obtain ⟨d, r, e⟩ := ht _ z
      have e : potOf n f g (n + j) = potOf n f g i + d := e
      rw [potOf_row hi, potOf_col] at e
      have hd : d = c i j := by
        generalize hu : (i, n + j).1 = u at r
        generalize hw : (i, n + j).2 = w at r
        have hu : i = u := hu
        have hw : n + j = w := hw
        cases r with
        | up hi' hj' =>
          have : j = _ := Nat.add_left_cancel hw
          rw [this, hu]
        | down hi' hj' hp' => omega
      omega

/-! ### the way of a plan that grows -/
/-- what is laid so far, what is left of each row, what each column still wants -/
structure Part (n : Nat) (c : Nat → Nat → Int) (A B : Nat → Int) (p : Nat → Nat → Int) (a b : Nat → Int) : Prop where
  nn : ∀ i j, i < n → j < n → 0 ≤ p i j
  an : ∀ i, i < n → 0 ≤ a i
  bn : ∀ j, j < n → 0 ≤ b j
  row : ∀ i, i < n → S n (p i) + a i = A i
  col : ∀ j, j < n → S n (fun i => p i j) + b j = B j
  pot : ∃ f g, Pots n c p f g
section
variable {n : Nat} {c : Nat → Nat → Int} {A B : Nat → Int} {p : Nat → Nat → Int} {a b : Nat → Int}
theorem Part.same (h : Part n c A B p a b) (e : S n A = S n B) : S n a = S n b := by
  have e1 : S n A = S n (fun i => S n (p i)) + S n a := by
    rw [← S_add]
    exact S_congr fun i hi => (h.row i hi).symm
  have e2 : S n B = S n (fun j => S n fun i => p i j) + S n b := by
    rw [← S_add]
    exact S_congr fun i hi => (h.col i hi).symm
  have e3 := S_swap n n p
  omega
theorem Part.opt (h : Part n c A B p a b) (e : S n A = S n B) (z : S n a = 0) : Opt n c A B p := by
  have hb : S n b = 0 := by rw [← h.same e]; exact z
  refine ⟨⟨h.nn, fun i hi => ?_, fun j hj => ?_⟩, h.pot⟩
  · have := S_zero_all h.an z i hi
    have := h.row i hi
    omega
  · have := S_zero_all h.bn hb j hj
    have := h.col j hj
    omega
/-- one path more -/
theorem Part.next (h : Part n c A B p a b) {f g : Nat → Int} (hp : Pots n c p f g) {i j : Nat} (hi : i < n) (hj : j < n) {v : Int} (hv : 0 ≤ v) (hva : v ≤ a i) (hvb : v ≤ b j)
    {E : List (Nat × Nat)} (hE : E.Nodup) (ht : ∀ x ∈ E, ∃ d, Res n c p x.1 x.2 d ∧ potOf n f g x.2 = potOf n f g x.1 + d)
    (hl : ∀ i j, i < n → j < n → (n + j, i) ∈ E → v ≤ p i j) (hb : ∀ k, nb E k = (if i = k then 1 else 0) - (if n + j = k then 1 else 0)) :
    Part n c A B (along n v E p) (fun k => if k = i then a i - v else a k) (fun k => if k = j then b j - v else b k) where
  nn := along_nn hE hv h.nn hl
  an := fun k hk => by
    show 0 ≤ if k = i then a i - v else a k
    have := h.an k hk
    split <;> omega
  bn := fun k hk => by
    show 0 ≤ if k = j then b j - v else b k
    have := h.bn k hk
    split <;> omega
  row := fun k hk => by
    show S n (along n v E p k) + (if k = i then a i - v else a k) = A k
    rw [along_row (Bip.of fun x hx => let ⟨d, r, _⟩ := ht x hx; ⟨d, r⟩) hk, hb k, if_neg (show ¬ n + j = k by omega)]
    have := h.row k hk
    by_cases q : k = i
    · subst q
      rw [if_pos rfl, if_pos rfl]
      have : v * (1 - 0) = v := Int.mul_one v
      omega
    · rw [if_neg q, if_neg fun z => q z.symm]
      have : v * (0 - 0) = 0 := Int.mul_zero v
      omega
  col := fun k hk => by
    show S n (fun i => along n v E p i k) + (if k = j then b j - v else b k) = B k
    rw [along_col (Bip.of fun x hx => let ⟨d, r, _⟩ := ht x hx; ⟨d, r⟩) hk, hb (n + k), if_neg (show ¬ i = n + k by omega)]
    have := h.col k hk
    by_cases q : k = j
    · subst q
      rw [if_pos rfl, if_pos rfl]
      have : v * (0 - 1) = -v := by rw [Int.mul_sub]; omega
      omega
    · rw [if_neg q, if_neg (show ¬ n + j = n + k by omega)]
      have : v * (0 - 0) = 0 := Int.mul_zero v
      omega
  pot := ⟨f, g, hp.along hv ht⟩
theorem Part.less {i : Nat} (hi : i < n) {v : Int} : S n (fun k => if k = i then a i - v else a k) = S n a - v := by
  have e : S n (fun k => if k = i then a i - v else a k) = S n (fun k => a k - if k = i then v else 0) := S_congr fun k _ => by
    by_cases q : k = i
    · rw [if_pos q, if_pos q, q]
    · rw [if_neg q, if_neg q]
      omega
  rw [e, S_sub, S_one, if_pos hi]
end
end EH
end

/-! ## EhCarry -/
section
set_option autoImplicit false
set_option linter.all false
/-! The specification's plan is one with the lowest cost. Core Lean and the specification's modules. -/
namespace EH
open Sr58 (Frac frac plus times less whole total)
open Sr66 (minus over zero neg)
open Sr80 (cAt pAt least)
open Sr82 (dAt arcs relax relaxes nearest push tight carryOn)

abbrev SSt := List (Option (Int × List Nat))
theorem getD_set {α : Type} {l : List α} {i k : Nat} {v z : α} : (l.set i v).getD k z = if k = i ∧ i < l.length then v else l.getD k z := by
  rw [List.getD_eq_getElem?_getD, List.getD_eq_getElem?_getD, List.getElem?_set]
  by_cases h : i = k
  · subst h
    by_cases q : i < l.length
    · rw [if_pos rfl, if_pos q, if_pos ⟨rfl, q⟩]
      rfl
    · rw [if_pos rfl, if_neg q, if_neg fun z => q z.2, List.getElem?_eq_none (by omega)]
  · rw [if_neg h, if_neg fun z => h z.1.symm]
def stepS (s : SSt) (y : Nat × Nat × Int) : SSt := match s.getD y.1 none with
  | none => s
  | some x => match s.getD y.2.1 none with
    | none => s.set y.2.1 (some (x.1 + y.2.2, y.2.1 :: x.2))
    | some t => if x.1 + y.2.2 < t.1 then s.set y.2.1 (some (x.1 + y.2.2, y.2.1 :: x.2)) else s
theorem relax_is (l : List (Nat × Nat × Int)) (s : SSt) : relax l s = l.foldl stepS s := rfl
def val (s : SSt) (x : Nat) : Option Int := (s.getD x none).map (·.1)
theorem stepS_len (s : SSt) (y : Nat × Nat × Int) : (stepS s y).length = s.length := by
  unfold stepS
  split
  · rfl
  · split
    · rw [List.length_set]
    · split
      · rw [List.length_set]
      · rfl
/-- what one arc does: the place behind it is the better of both -/
theorem stepS_cases (s : SSt) (y : Nat × Nat × Int) : stepS s y = s ∨ ∃ x, s.getD y.1 none = some x ∧ stepS s y = s.set y.2.1 (some (x.1 + y.2.2, y.2.1 :: x.2)) ∧ ∀ t, s.getD y.2.1 none = some t → x.1 + y.2.2 < t.1 := by
  unfold stepS
  split
  · exact Or.inl rfl
  · rename_i x e
    split
    · rename_i e2
      exact Or.inr ⟨x, e, rfl, fun t h => by rw [h] at e2; cases e2⟩
    · rename_i t e2
      split
      · rename_i h
        exact Or.inr ⟨x, e, rfl, fun t' h' => by rw [h'] at e2; cases e2; exact h⟩
      · exact Or.inl rfl
theorem stepS_mono {s : SSt} {y : Nat × Nat × Int} {v : Nat} {c : Int} (h : AtMost (val s v) c) : AtMost (val (stepS s y) v) c := by
  rcases stepS_cases s y with e | ⟨x, e1, e2, e3⟩
  · rw [e]
    exact h
  · rw [e2]
    unfold val
    rw [getD_set]
    by_cases q : v = y.2.1 ∧ y.2.1 < s.length
    · rw [if_pos q]
      obtain ⟨w, h1, h2⟩ := h
      unfold val at h1
      cases e4 : s.getD v none with
      | none => rw [e4] at h1; cases h1
      | some t =>
        rw [e4] at h1
        have h1 : t.1 = w := Option.some.inj h1
        have := e3 t (by rw [← q.1]; exact e4)
        exact ⟨_, rfl, by show x.1 + y.2.2 ≤ c; omega⟩
    · rw [if_neg q]
      exact h
theorem stepS_prog {s : SSt} {y : Nat × Nat × Int} {c : Int} (hy : y.2.1 < s.length) (h : AtMost (val s y.1) c) : AtMost (val (stepS s y) y.2.1) (c + y.2.2) := by
  obtain ⟨w, h1, h2⟩ := h
  unfold val at h1
  cases e : s.getD y.1 none with
  | none => rw [e] at h1; cases h1
  | some x =>
    rw [e] at h1
    have h1 : x.1 = w := Option.some.inj h1
    unfold stepS
    rw [e]
    dsimp only
    cases e2 : s.getD y.2.1 none with
    | none =>
      dsimp only
      unfold val
      rw [getD_set, if_pos ⟨rfl, hy⟩]
      exact ⟨_, rfl, by show x.1 + y.2.2 ≤ _; omega⟩
    | some t =>
      dsimp only
      by_cases q : x.1 + y.2.2 < t.1
      · rw [if_pos q]
        unfold val
        rw [getD_set, if_pos ⟨rfl, hy⟩]
        exact ⟨_, rfl, by show x.1 + y.2.2 ≤ _; omega⟩
      · rw [if_neg q]
        unfold val
        rw [e2]
        exact ⟨_, rfl, by show t.1 ≤ _; omega⟩
theorem fold_len (l : List (Nat × Nat × Int)) : ∀ s : SSt, (l.foldl stepS s).length = s.length := by
  induction l with
  | nil => intro s; rfl
  | cons y l ih => intro s; rw [List.foldl_cons, ih, stepS_len]
theorem fold_mono {l : List (Nat × Nat × Int)} {v : Nat} {c : Int} : ∀ {s : SSt}, AtMost (val s v) c → AtMost (val (l.foldl stepS s) v) c := by
  induction l with
  | nil => intro s h; exact h
  | cons y l ih => intro s h; exact ih (stepS_mono h)
theorem fold_prog {l : List (Nat × Nat × Int)} {y : Nat × Nat × Int} {c : Int} (hm : y ∈ l) : ∀ {s : SSt}, y.2.1 < s.length → AtMost (val s y.1) c → AtMost (val (l.foldl stepS s) y.2.1) (c + y.2.2) := by
  induction l with
  | nil => cases hm
  | cons z l ih =>
    intro s hs h
    rcases List.mem_cons.mp hm with e | e
    · subst e
      exact fold_mono (l := l) (s := stepS s y) (stepS_prog hs h)
    · exact ih e (by rw [stepS_len]; exact hs) (stepS_mono h)
/-- each value is what a walk costs -/
def Real (R : Nat → Nat → Int → Prop) (src : Nat → Prop) (s : SSt) : Prop := ∀ v x, s.getD v none = some x → ∃ l a, x.2 = v :: l ∧ WL R x.2 x.1 ∧ x.2.getLast? = some a ∧ src a
theorem stepS_real {R : Nat → Nat → Int → Prop} {src : Nat → Prop} {s : SSt} {y : Nat × Nat × Int} (hy : R y.1 y.2.1 y.2.2) (h : Real R src s) : Real R src (stepS s y) := by
  rcases stepS_cases s y with e | ⟨x, e1, e2, e3⟩
  · rw [e]
    exact h
  · rw [e2]
    intro v t ht
    rw [getD_set] at ht
    by_cases q : v = y.2.1 ∧ y.2.1 < s.length
    · rw [if_pos q] at ht
      have ht := Option.some.inj ht
      subst ht
      obtain ⟨l, a, h1, h2, h3, h4⟩ := h y.1 x e1
      refine ⟨x.2, a, by rw [q.1], ?_, ?_, h4⟩
      · show WL R (y.2.1 :: x.2) (x.1 + y.2.2)
        rw [h1] at h2 ⊢
        exact WL.more h2 hy
      · show (y.2.1 :: x.2).getLast? = some a
        rw [h1] at h3 ⊢
        rw [List.getLast?_cons_cons]
        exact h3
    · rw [if_neg q] at ht
      exact h v t ht
theorem fold_real {R : Nat → Nat → Int → Prop} {src : Nat → Prop} {l : List (Nat × Nat × Int)} (hl : ∀ y ∈ l, R y.1 y.2.1 y.2.2) : ∀ {s : SSt}, Real R src s → Real R src (l.foldl stepS s) := by
  induction l with
  | nil => intro s h; exact h
  | cons y l ih => intro s h; exact ih (fun z hz => hl z (List.mem_cons_of_mem _ hz)) (stepS_real (hl y List.mem_cons_self) h)
theorem relaxes_succ (l : List (Nat × Nat × Int)) : ∀ (k : Nat) (s : SSt), relaxes l (k + 1) s = relax l (relaxes l k s)
  | 0, s => rfl
  | k + 1, s => by
    show relaxes l (k + 1) (relax l s) = relax l (relaxes l k (relax l s))
    exact relaxes_succ l k (relax l s)
theorem relaxes_len (l : List (Nat × Nat × Int)) (k : Nat) (s : SSt) : (relaxes l k s).length = s.length := by
  induction k generalizing s with
  | zero => rfl
  | succ k ih =>
    show (relaxes l k (relax l s)).length = _
    rw [ih, relax_is, fold_len]
theorem relaxes_real {R : Nat → Nat → Int → Prop} {src : Nat → Prop} {l : List (Nat × Nat × Int)} (hl : ∀ y ∈ l, R y.1 y.2.1 y.2.2) (k : Nat) {s : SSt} (h : Real R src s) : Real R src (relaxes l k s) := by
  induction k generalizing s with
  | zero => exact h
  | succ k ih => exact ih (fold_real hl h)
/-- behind as many rounds as there are nodes nothing more is to be found -/
theorem relaxes_closed {R : Nat → Nat → Int → Prop} {src : Nat → Prop} {pi : Nat → Int} {l : List (Nat × Nat × Int)} {N : Nat} {s : SSt} (hlen : s.length = N)
    (hl : ∀ u v d, (u, v, d) ∈ l ↔ R u v d) (hp : ∀ u v d, R u v d → pi v ≤ pi u + d) (hN : ∀ u v d, R u v d → u < N ∧ v < N) (hsN : ∀ v, src v → v < N) (h0 : ∀ v, src v → AtMost (val s v) 0) (hr : Real R src s)
    {u v : Nat} {x d : Int} (e : val (relaxes l N s) u = some x) (h : R u v d) : AtMost (val (relaxes l N s) v) (x + d) := by
  refine rounds_closed (L := fun k => val (relaxes l k s)) (src := src) hp hN hsN h0 (fun k v c h => ?_) (fun k u v x d e r => ?_) (fun v x e => ?_) e h
  · show AtMost (val (relaxes l (k + 1) s) v) c
    rw [relaxes_succ]
    exact fold_mono h
  · show AtMost (val (relaxes l (k + 1) s) v) (x + d)
    rw [relaxes_succ]
    exact fold_prog (y := (u, v, d)) ((hl u v d).mpr r) (by rw [relaxes_len, hlen]; exact (hN _ _ _ r).2) ⟨x, e, Int.le_refl _⟩
  · have e : val (relaxes l N s) v = some x := e
    unfold val at e
    cases e2 : (relaxes l N s).getD v none with
    | none => rw [e2] at e; cases e
    | some t =>
      rw [e2] at e
      have e : t.1 = x := Option.some.inj e
      obtain ⟨l', a, h1, h2, h3, h4⟩ := relaxes_real (R := R) (src := src) (fun y hy => (hl _ _ _).mp hy) N hr v t e2
      rw [h1] at h2 h3
      exact ⟨l', a, by rw [← e]; exact h2, h3, h4⟩

/-! ### one turn of the specification -/
section
variable {D : Nat} (hD : 0 < D)
include hD
theorem mem_pairs {n : Nat} {y : Nat × Nat} : y ∈ Sr80.pairs n ↔ y.1 < n ∧ y.2 < n := by
  unfold Sr80.pairs
  rw [List.mem_flatMap]
  constructor
  · rintro ⟨i, hi, h⟩
    obtain ⟨j, hj, e⟩ := List.mem_map.mp h
    subst e
    exact ⟨List.mem_range.mp hi, List.mem_range.mp hj⟩
  · rintro ⟨h1, h2⟩
    exact ⟨y.1, List.mem_range.mpr h1, List.mem_map.mpr ⟨y.2, List.mem_range.mpr h2, rfl⟩⟩
theorem mem_arcs {n : Nat} {d : List (List Nat)} {p : Nat → Nat → Int} {u v : Nat} {w : Int} :
    (u, v, w) ∈ arcs n d (mt D n p) ↔ Res n (fun i j => (dAt d i j : Int)) p u v w := by
  unfold arcs
  rw [List.mem_append, List.mem_map, List.mem_map]
  constructor
  · rintro (⟨y, hy, e⟩ | ⟨y, hy, e⟩)
    · obtain ⟨h1, h2⟩ := (mem_pairs hD).mp hy
      cases e
      exact Res.up h1 h2
    · obtain ⟨hy, q⟩ := List.mem_filter.mp hy
      obtain ⟨h1, h2⟩ := (mem_pairs hD).mp hy
      rw [pAt_mt h1 h2] at q
      cases e
      exact Res.down h1 h2 ((frac_pos hD _).mp (of_decide_eq_true q))
  · intro r
    rcases r.inv with ⟨i, j, hi, hj, rfl, rfl, rfl⟩ | ⟨i, j, hi, hj, hp, rfl, rfl, rfl⟩
    · exact Or.inl ⟨(u, j), (mem_pairs hD).mpr ⟨hi, hj⟩, rfl⟩
    · refine Or.inr ⟨(v, j), List.mem_filter.mpr ⟨(mem_pairs hD).mpr ⟨hi, hj⟩, ?_⟩, rfl⟩
      rw [pAt_mt hi hj]
      exact decide_eq_true ((frac_pos hD _).mpr hp)
def startS (n : Nat) (a : List Frac) : SSt := (List.range (2 * n)).map fun x => if x < n ∧ 0 < (cAt a x).n then some (0, [x]) else none
theorem startS_at {n : Nat} {a : Nat → Int} {x : Nat} : (startS n (sp D n a)).getD x none = if x < n ∧ 0 < a x then some (0, [x]) else none := by
  unfold startS
  by_cases h : x < 2 * n
  · rw [getD_map_range h]
    by_cases q : x < n
    · rw [cAt_sp q]
      by_cases t : 0 < a x
      · rw [if_pos ⟨q, (frac_pos hD _).mpr t⟩, if_pos ⟨q, t⟩]
      · rw [if_neg fun z => t ((frac_pos hD _).mp z.2), if_neg fun z => t z.2]
    · rw [if_neg fun z => q z.1, if_neg fun z => q z.1]
  · rw [if_neg (by omega), List.getD_eq_getElem?_getD, List.getElem?_eq_none (by simp; omega)]
    rfl
def Src (n : Nat) (a : Nat → Int) (x : Nat) : Prop := x < n ∧ 0 < a x
theorem start_real {n : Nat} {a : Nat → Int} (R : Nat → Nat → Int → Prop) : Real R (Src n a) (startS n (sp D n a)) := fun v x e => by
  rw [startS_at hD] at e
  split at e
  · rename_i q
    have e := Option.some.inj e
    subst e
    exact ⟨[], v, rfl, .one v, rfl, q⟩
  · cases e
theorem start_zero {n : Nat} {a : Nat → Int} {v : Nat} (h : Src n a v) : AtMost (val (startS n (sp D n a)) v) 0 := by
  unfold val
  rw [startS_at hD, if_pos (show v < n ∧ 0 < a v from h)]
  exact ⟨0, rfl, Int.le_refl _⟩
/-- what nearest finds -/
theorem nearest_of {n : Nat} {b : Nat → Int} {s : SSt} : match nearest n (sp D n b) s with
    | none => ∀ j, j < n → 0 < b j → s.getD (n + j) none = none
    | some y => y.1 < n ∧ 0 < b y.1 ∧ s.getD (n + y.1) none = some (y.2.1, y.2.2) := by
  unfold nearest
  have key : ∀ (m : Nat), m ≤ n → match (List.range m).foldl (fun (m : Option (Nat × Int × List Nat)) j => if (cAt (sp D n b) j).n ≤ 0 then m else match s.getD (n + j) none with
      | none => m
      | some x => match m with
        | none => some (j, x.1, x.2)
        | some y => if x.1 < y.2.1 then some (j, x.1, x.2) else m) none with
      | none => ∀ j, j < m → 0 < b j → s.getD (n + j) none = none
      | some y => y.1 < n ∧ 0 < b y.1 ∧ s.getD (n + y.1) none = some (y.2.1, y.2.2) := by
    intro m
    induction m with
    | zero =>
      intro _ j hj
      exact absurd hj (Nat.not_lt_zero _)
    | succ m ih =>
      intro hm
      have ih := ih (by omega)
      rw [List.range_succ, List.foldl_append, List.foldl_cons, List.foldl_nil]
      generalize (List.range m).foldl _ none = o at ih ⊢
      rw [cAt_sp (show m < n by omega)]
      by_cases hb : 0 < b m
      · rw [if_neg (by have := (frac_pos hD (b m)).mpr hb; omega)]
        cases e : s.getD (n + m) none with
        | none =>
          dsimp only
          cases o with
          | none =>
            intro j hj hbj
            rcases Nat.lt_or_ge j m with q | q
            · exact ih j q hbj
            · have : j = m := by omega
              subst this
              exact e
          | some y => exact ih
        | some x =>
          dsimp only
          cases o with
          | none => exact ⟨show m < n by omega, hb, e⟩
          | some y =>
            dsimp only
            by_cases q : x.1 < y.2.1
            · rw [if_pos q]
              exact ⟨show m < n by omega, hb, e⟩
            · rw [if_neg q]
              exact ih
      · rw [if_pos (by have := frac_pos hD (b m); omega)]
        cases o with
        | none =>
          intro j hj hbj
          rcases Nat.lt_or_ge j m with q | q
          · exact ih j q hbj
          · have : j = m := by omega
            subst this
            exact absurd hbj hb
        | some y => exact ih
  exact key n (Nat.le_refl _)
/-- how much a path lets through -/
def tightI (n : Nat) (p : Nat → Nat → Int) : List Nat → Int → Int
  | x :: y :: l, v => tightI n p (y :: l) (if y < n then v else min v (p x (y - n)))
  | _, v => v
theorem tight_mt {n : Nat} {p : Nat → Nat → Int} : ∀ {l : List Nat} {v : Int}, Bip n (rsteps l) → tight n l (mt D n p) (frac v D) = frac (tightI n p l v) D
  | [], v, _ => rfl
  | [x], v, _ => rfl
  | x :: y :: l, v, h => by
    have h' : Bip n (rsteps (y :: l)) := fun a ha => h a (List.mem_cons_of_mem _ ha)
    show tight n (y :: l) (mt D n p) (if y < n then frac v D else least (frac v D) (pAt (mt D n p) x (y - n))) = frac (tightI n p (y :: l) (if y < n then v else min v (p x (y - n)))) D
    by_cases q : y < n
    · rw [if_pos q, if_pos q]
      exact tight_mt h'
    · rw [if_neg q, if_neg q]
      have hb := h (y, x) List.mem_cons_self
      have hb : (y < n ∧ n ≤ x ∧ x < 2 * n) ∨ (n ≤ y ∧ y < 2 * n ∧ x < n) := hb
      rw [pAt_mt (by omega) (by omega), least_frac hD]
      exact tight_mt h'
omit hD in
theorem tightI_le {n : Nat} {p : Nat → Nat → Int} : ∀ {l : List Nat} {v : Int}, tightI n p l v ≤ v ∧ ∀ i j, i < n → j < n → (n + j, i) ∈ rsteps l → tightI n p l v ≤ p i j
  | [], v => ⟨Int.le_refl _, fun _ _ _ _ h => by simp [rsteps] at h⟩
  | [x], v => ⟨Int.le_refl _, fun _ _ _ _ h => by simp [rsteps] at h⟩
  | x :: y :: l, v => by
    have e : tightI n p (x :: y :: l) v = tightI n p (y :: l) (if y < n then v else min v (p x (y - n))) := rfl
    obtain ⟨h1, h2⟩ := tightI_le (p := p) (n := n) (l := y :: l) (v := if y < n then v else min v (p x (y - n)))
    rw [← e] at h1 h2
    constructor
    · split at h1 <;> omega
    · intro i j hi hj h
      rcases List.mem_cons.mp (show (n + j, i) ∈ (y, x) :: rsteps (y :: l) from h) with h | h
      · have q1 : n + j = y := (Prod.mk.inj h).1
        have q2 : i = x := (Prod.mk.inj h).2
        rw [if_neg (by omega)] at h1
        have : y - n = j := by omega
        rw [this] at h1
        rw [q2]
        omega
      · exact h2 i j hi hj h
omit hD in
theorem tightI_pos {n : Nat} {p : Nat → Nat → Int} : ∀ {l : List Nat} {v : Int}, Bip n (rsteps l) → 0 < v → (∀ i j, i < n → j < n → (n + j, i) ∈ rsteps l → 0 < p i j) → 0 < tightI n p l v
  | [], v, _, h, _ => h
  | [x], v, _, h, _ => h
  | x :: y :: l, v, hb, h, hp => by
    show 0 < tightI n p (y :: l) (if y < n then v else min v (p x (y - n)))
    refine tightI_pos (fun a ha => hb a (List.mem_cons_of_mem _ ha)) ?_ fun i j hi hj hm => hp i j hi hj (List.mem_cons_of_mem _ hm)
    by_cases q : y < n
    · rw [if_pos q]
      exact h
    · rw [if_neg q]
      have hb : (y < n ∧ n ≤ x ∧ x < 2 * n) ∨ (n ≤ y ∧ y < 2 * n ∧ x < n) := hb (y, x) List.mem_cons_self
      have := hp x (y - n) (by omega) (by omega) (by
        have e : n + (y - n) = y := by omega
        rw [e]
        exact List.mem_cons_self)
      omega
theorem push_mt {n : Nat} {v : Int} : ∀ {l : List Nat} {p : Nat → Nat → Int}, Bip n (rsteps l) → push n (frac v D) l (mt D n p) = mt D n (along n v (rsteps l) p)
  | [], p, _ => by
    show mt D n p = _
    refine mt_congr fun i j _ _ => ?_
    show p i j = p i j + v * (0 - 0)
    have : v * (0 - 0) = 0 := Int.mul_zero v
    omega
  | [x], p, _ => by
    show mt D n p = _
    refine mt_congr fun i j _ _ => ?_
    show p i j = p i j + v * (0 - 0)
    have : v * (0 - 0) = 0 := Int.mul_zero v
    omega
  | x :: y :: l, p, hb => by
    have hb0 : (y < n ∧ n ≤ x ∧ x < 2 * n) ∨ (n ≤ y ∧ y < 2 * n ∧ x < n) := hb (y, x) List.mem_cons_self
    have hb' : Bip n (rsteps (y :: l)) := fun a ha => hb a (List.mem_cons_of_mem _ ha)
    show push n (frac v D) (y :: l) (if y < n then (mt D n p).set y (((mt D n p).getD y []).set (x - n) (plus (pAt (mt D n p) y (x - n)) (frac v D)))
      else (mt D n p).set x (((mt D n p).getD x []).set (y - n) (minus (pAt (mt D n p) x (y - n)) (frac v D)))) = _
    by_cases q : y < n
    · rw [if_pos q, pAt_mt q (by omega), plus_frac hD, mt_set q, push_mt hb']
      refine mt_congr fun i j hi hj => ?_
      show (if i = y ∧ j = x - n then p y (x - n) + v else p i j) + v * (fw n (rsteps (y :: l)) i j - bw n (rsteps (y :: l)) i j) =
        p i j + v * (((if y = i ∧ x = n + j then 1 else 0) + fw n (rsteps (y :: l)) i j) - ((if y = n + j ∧ x = i then 1 else 0) + bw n (rsteps (y :: l)) i j))
      rw [if_neg (show ¬ (y = n + j ∧ x = i) by omega)]
      by_cases t : i = y ∧ j = x - n
      · rw [if_pos t, if_pos (by omega), t.1, t.2]
        have : ∀ a b : Int, v * (1 + a - (0 + b)) = v + v * (a - b) := fun a b => by
          have e : 1 + a - (0 + b) = 1 + (a - b) := by omega
          rw [e, Int.mul_add, Int.mul_one]
        rw [this]
        omega
      · rw [if_neg t, if_neg (by omega)]
        have : ∀ a b : Int, v * (0 + a - (0 + b)) = v * (a - b) := fun a b => by
          have e : 0 + a - (0 + b) = a - b := by omega
          rw [e]
        rw [this]
    · rw [if_neg q, pAt_mt (by omega) (by omega), minus_frac hD, mt_set (by omega), push_mt hb']
      refine mt_congr fun i j hi hj => ?_
      show (if i = x ∧ j = y - n then p x (y - n) - v else p i j) + v * (fw n (rsteps (y :: l)) i j - bw n (rsteps (y :: l)) i j) =
        p i j + v * (((if y = i ∧ x = n + j then 1 else 0) + fw n (rsteps (y :: l)) i j) - ((if y = n + j ∧ x = i then 1 else 0) + bw n (rsteps (y :: l)) i j))
      rw [if_neg (show ¬ (y = i ∧ x = n + j) by omega)]
      by_cases t : i = x ∧ j = y - n
      · rw [if_pos t, if_pos (by omega), t.1, t.2]
        have : ∀ a b : Int, v * (0 + a - (1 + b)) = v * (a - b) - v := fun a b => by
          have e : 0 + a - (1 + b) = (a - b) - 1 := by omega
          rw [e, Int.mul_sub, Int.mul_one]
        rw [this]
        omega
      · rw [if_neg t, if_neg (by omega)]
        have : ∀ a b : Int, v * (0 + a - (0 + b)) = v * (a - b) := fun a b => by
          have e : 0 + a - (0 + b) = a - b := by omega
          rw [e]
        rw [this]
end
end EH
end

/-! ## EhCarry2 -/
section
set_option autoImplicit false
set_option linter.all false
/-! The specification's plan is one with the lowest cost: the way to its end. Core Lean and the specification's modules. -/
namespace EH
open Sr58 (Frac frac plus times less whole total)
open Sr66 (minus over zero neg)
open Sr80 (cAt pAt least)
open Sr82 (dAt arcs relax relaxes nearest push tight carryOn)

theorem Res.one {n : Nat} {c p : Nat → Nat → Int} {u v : Nat} {d e : Int} (r : Res n c p u v d) (q : Res n c p u v e) : d = e := by
  rcases r.inv with ⟨i, j, hi, hj, h1, h2, h3⟩ | ⟨i, j, hi, hj, hp, h1, h2, h3⟩
  · rcases q.inv with ⟨i', j', hi', hj', g1, g2, g3⟩ | ⟨i', j', hi', hj', hp', g1, g2, g3⟩
    · have e1 : i = i' := by omega
      have e2 : j = j' := by omega
      rw [h3, g3, e1, e2]
    · omega
  · rcases q.inv with ⟨i', j', hi', hj', g1, g2, g3⟩ | ⟨i', j', hi', hj', hp', g1, g2, g3⟩
    · omega
    · have e1 : i = i' := by omega
      have e2 : j = j' := by omega
      rw [h3, g3, e1, e2]
theorem WL.one_cost {R : Nat → Nat → Int → Prop} (hu : ∀ u v d e, R u v d → R u v e → d = e) : ∀ {l : List Nat} {c c' : Int}, WL R l c → WL R l c' → c = c'
  | _, _, _, .one v, h => by
    cases h
    rfl
  | _, _, _, .more w r, h => by
    cases h with
    | more w' r' =>
      rw [WL.one_cost hu w w', hu _ _ _ _ r r']
/-- what is known of the paths of a search -/
structure Fine (R : Nat → Nat → Int → Prop) (src : Nat → Prop) (s : SSt) : Prop where
  real : Real R src s
  nd : ∀ v x, s.getD v none = some x → x.2.Nodup
  suf : ∀ v x, s.getD v none = some x → ∀ l1 w l2 c2, x.2 = l1 ++ w :: l2 → WL R (w :: l2) c2 → AtMost (val s w) c2
theorem stepS_fine {R : Nat → Nat → Int → Prop} {src : Nat → Prop} {pi : Nat → Int} (hp : ∀ u v d, R u v d → pi v ≤ pi u + d) (hu : ∀ u v d e, R u v d → R u v e → d = e)
    {s : SSt} {y : Nat × Nat × Int} (hy : R y.1 y.2.1 y.2.2) (h : Fine R src s) : Fine R src (stepS s y) := by
  refine ⟨stepS_real hy h.real, ?_, ?_⟩
  · rcases stepS_cases s y with e | ⟨x, e1, e2, e3⟩
    · rw [e]
      exact h.nd
    · intro v t ht
      rw [e2, getD_set] at ht
      by_cases q : v = y.2.1 ∧ y.2.1 < s.length
      · rw [if_pos q] at ht
        have ht := Option.some.inj ht
        subst ht
        refine List.nodup_cons.mpr ⟨fun hm => ?_, h.nd _ _ e1⟩
        obtain ⟨l1, l2, e4⟩ := List.append_of_mem hm
        obtain ⟨l, a, g1, g2, g3, g4⟩ := h.real _ _ e1
        rw [e4] at g2
        obtain ⟨c1, c2, w2, ec, hb, _⟩ := WL.cut hp g2
        obtain ⟨z, hz, hz2⟩ := h.suf _ _ e1 l1 _ l2 c2 e4 w2
        unfold val at hz
        cases e5 : s.getD y.2.1 none with
        | none => rw [e5] at hz; cases hz
        | some t =>
          rw [e5] at hz
          have hz : t.1 = z := Option.some.inj hz
          have h5 := e3 t e5
          have h6 : pi y.1 ≤ pi y.2.1 + c1 := by
            refine hb y.1 ?_
            rw [g1] at e4
            cases l1 with
            | nil =>
              have := List.head_eq_of_cons_eq e4
              rw [this]
              rfl
            | cons b l1 =>
              have := List.head_eq_of_cons_eq e4
              rw [this]
              rfl
          have h7 := hp _ _ _ hy
          omega
      · rw [if_neg q] at ht
        exact h.nd v t ht
  · have mono : ∀ {w : Nat} {c : Int}, AtMost (val s w) c → AtMost (val (stepS s y) w) c := stepS_mono
    rcases stepS_cases s y with e | ⟨x, e1, e2, e3⟩
    · rw [e]
      exact h.suf
    · intro v t ht l1 w l2 c2 el hw
      have ht0 := ht
      rw [e2, getD_set] at ht
      by_cases q : v = y.2.1 ∧ y.2.1 < s.length
      · rw [if_pos q] at ht
        have ht := Option.some.inj ht
        subst ht
        cases l1 with
        | nil =>
          have el : y.2.1 :: x.2 = w :: l2 := el
          have ew : y.2.1 = w := List.head_eq_of_cons_eq el
          have el2 : x.2 = l2 := List.tail_eq_of_cons_eq el
          obtain ⟨l, a, g1, g2, g3, g4⟩ := h.real _ _ e1
          have hw' : WL R (y.2.1 :: x.2) (x.1 + y.2.2) := by
            rw [g1] at g2 ⊢
            exact WL.more g2 hy
          rw [← ew, ← el2] at hw
          have ec := WL.one_cost hu hw hw'
          refine ⟨x.1 + y.2.2, ?_, by omega⟩
          unfold val
          rw [← ew, ← q.1, ht0]
          rfl
        | cons b l1 =>
          have el : y.2.1 :: x.2 = b :: (l1 ++ w :: l2) := el
          exact mono (h.suf _ _ e1 l1 w l2 c2 (List.tail_eq_of_cons_eq el) hw)
      · rw [if_neg q] at ht
        exact mono (h.suf v t ht l1 w l2 c2 el hw)
theorem fold_fine {R : Nat → Nat → Int → Prop} {src : Nat → Prop} {pi : Nat → Int} (hp : ∀ u v d, R u v d → pi v ≤ pi u + d) (hu : ∀ u v d e, R u v d → R u v e → d = e)
    {l : List (Nat × Nat × Int)} (hl : ∀ y ∈ l, R y.1 y.2.1 y.2.2) : ∀ {s : SSt}, Fine R src s → Fine R src (l.foldl stepS s) := by
  induction l with
  | nil => intro s h; exact h
  | cons y l ih => intro s h; exact ih (fun z hz => hl z (List.mem_cons_of_mem _ hz)) (stepS_fine hp hu (hl y List.mem_cons_self) h)
theorem relaxes_fine {R : Nat → Nat → Int → Prop} {src : Nat → Prop} {pi : Nat → Int} (hp : ∀ u v d, R u v d → pi v ≤ pi u + d) (hu : ∀ u v d e, R u v d → R u v e → d = e)
    {l : List (Nat × Nat × Int)} (hl : ∀ y ∈ l, R y.1 y.2.1 y.2.2) (k : Nat) {s : SSt} (h : Fine R src s) : Fine R src (relaxes l k s) := by
  induction k generalizing s with
  | zero => exact h
  | succ k ih => exact ih (fold_fine hp hu hl h)
theorem relaxes_mono {l : List (Nat × Nat × Int)} {v : Nat} {c : Int} (k : Nat) {s : SSt} (h : AtMost (val s v) c) : AtMost (val (relaxes l k s) v) c := by
  induction k generalizing s with
  | zero => exact h
  | succ k ih => exact ih (fold_mono h)
section
variable {D : Nat} (hD : 0 < D)
include hD
theorem start_fine {n : Nat} {a : Nat → Int} (R : Nat → Nat → Int → Prop) : Fine R (Src n a) (startS n (sp D n a)) := by
  refine ⟨start_real hD R, fun v x e => ?_, fun v x e l1 w l2 c2 el hw => ?_⟩
  · rw [startS_at hD] at e
    split at e
    · have e := Option.some.inj e
      subst e
      exact List.nodup_cons.mpr ⟨by simp, List.nodup_nil⟩
    · cases e
  · rw [startS_at hD] at e
    split at e
    · rename_i q
      have e := Option.some.inj e
      subst e
      cases l1 with
      | nil =>
        have el : [v] = w :: l2 := el
        have e1 : v = w := List.head_eq_of_cons_eq el
        have e2 : [] = l2 := List.tail_eq_of_cons_eq el
        subst e1 e2
        cases hw
        exact start_zero hD q
      | cons b l1 =>
        have el : [v] = b :: (l1 ++ w :: l2) := el
        have e2 := List.tail_eq_of_cons_eq el
        cases l1 <;> cases e2
    · cases e

theorem carry_go {n : Nat} (hn : 0 < n) {d : List (List Nat)} {A B : Nat → Int} (eAB : S n A = S n B) : ∀ (f : Nat) {a b : Nat → Int} {p : Nat → Nat → Int}, Part n (fun i j => (dAt d i j : Int)) A B p a b → S n a ≤ f →
    ∃ p', Opt n (fun i j => (dAt d i j : Int)) A B p' ∧ carryOn n d f (sp D n a) (sp D n b) (mt D n p) = mt D n p'
  | 0, a, b, p, h, hf => by
    have h0 := S_nonneg h.an
    exact ⟨p, h.opt eAB (by omega), rfl⟩
  | f + 1, a, b, p, h, hf => by
    obtain ⟨f0, g0, hP⟩ := h.pot
    have hp := hP.arc
    have hl : ∀ u v w, (u, v, w) ∈ arcs n d (mt D n p) ↔ Res n (fun i j => (dAt d i j : Int)) p u v w := fun u v w => mem_arcs hD
    have hl' : ∀ y ∈ arcs n d (mt D n p), Res n (fun i j => (dAt d i j : Int)) p y.1 y.2.1 y.2.2 := fun y hy => (hl _ _ _).mp hy
    have hlen : (startS n (sp D n a)).length = 2 * n := by unfold startS; simp
    have fine := relaxes_fine hp (fun _ _ _ _ r q => Res.one r q) hl' (2 * n) (start_fine hD (n := n) (a := a) _)
    have closed : ∀ {u v : Nat} {x w : Int}, val (relaxes (arcs n d (mt D n p)) (2 * n) (startS n (sp D n a))) u = some x → Res n (fun i j => (dAt d i j : Int)) p u v w →
        AtMost (val (relaxes (arcs n d (mt D n p)) (2 * n) (startS n (sp D n a))) v) (x + w) := fun e r =>
      relaxes_closed hlen hl hp (fun u v w r => r.lt) (fun v (hv : Src n a v) => by have := hv.1; omega) (fun v hv => start_zero hD hv) (start_real hD _) e r
    have zero_ : ∀ i, Src n a i → AtMost (val (relaxes (arcs n d (mt D n p)) (2 * n) (startS n (sp D n a))) i) 0 := fun i hi => relaxes_mono _ (start_zero hD hi)
    have near := nearest_of hD (n := n) (b := b) (s := relaxes (arcs n d (mt D n p)) (2 * n) (startS n (sp D n a)))
    have colv : ∀ i, Src n a i → ∀ j, j < n → (val (relaxes (arcs n d (mt D n p)) (2 * n) (startS n (sp D n a))) (n + j)).isSome = true := fun i hi j hj => by
      obtain ⟨x, e, _⟩ := zero_ i hi
      obtain ⟨y, e2, _⟩ := closed e (Res.up hi.1 hj)
      rw [e2]
      rfl
    show ∃ p', Opt n _ A B p' ∧ (match nearest n (sp D n b) (relaxes (arcs n d (mt D n p)) (2 * n) (startS n (sp D n a))) with
      | none => mt D n p
      | some y => carryOn n d f ((sp D n a).set (y.2.2.getLastD 0) (minus (cAt (sp D n a) (y.2.2.getLastD 0)) (tight n y.2.2 (mt D n p) (least (cAt (sp D n a) (y.2.2.getLastD 0)) (cAt (sp D n b) y.1)))))
          ((sp D n b).set y.1 (minus (cAt (sp D n b) y.1) (tight n y.2.2 (mt D n p) (least (cAt (sp D n a) (y.2.2.getLastD 0)) (cAt (sp D n b) y.1)))))
          (push n (tight n y.2.2 (mt D n p) (least (cAt (sp D n a) (y.2.2.getLastD 0)) (cAt (sp D n b) y.1))) y.2.2 (mt D n p))) = mt D n p'
    generalize relaxes (arcs n d (mt D n p)) (2 * n) (startS n (sp D n a)) = sF at *
    cases e : nearest n (sp D n b) sF with
    | none =>
      rw [e] at near
      refine ⟨p, h.opt eAB ?_, rfl⟩
      have h0 := S_nonneg h.an
      rcases Int.lt_or_eq_of_le h0 with z | z
      · exfalso
        obtain ⟨i, hi, hai⟩ := S_pos_some z
        rw [h.same eAB] at z
        obtain ⟨j, hj, hbj⟩ := S_pos_some z
        have q := colv i ⟨hi, hai⟩ j hj
        unfold val at q
        rw [near j hj hbj] at q
        cases q
      · exact z.symm
    | some y =>
      rw [e] at near
      obtain ⟨j, z, path⟩ := y
      obtain ⟨hj, hbj, ej⟩ := near
      dsimp only at hj hbj ej ⊢
      obtain ⟨l, i, g1, g2, g3, hi, hai⟩ := fine.real _ _ ej
      have g4 := fine.nd _ _ ej
      dsimp only at g1 g2 g3 g4
      obtain ⟨f1, g1', hP1, hval⟩ := Pots.anew hn (c := fun i j => (dAt d i j : Int)) (p := p) (dist := val sF) (colv i ⟨hi, hai⟩) (fun u v x w e r => closed e r)
      have ez : val sF (n + j) = some z := by
        unfold val
        rw [ej]
        rfl
      have pj := hval (n + j) z (by omega) ez
      obtain ⟨x0, ex0, hx0⟩ := zero_ i ⟨hi, hai⟩
      have pi0 := hval i x0 (by omega) ex0
      rw [g1] at g2 g3
      have ht := WL.tight hP1.arc g2 g3 (by omega)
      rw [← g1] at ht g3
      have elast : path.getLastD 0 = i := by
        rw [List.getLastD_eq_getLast?, g3]
        rfl
      have hbip : Bip n (rsteps path) := Bip.of fun x hx => let ⟨w, r, _⟩ := ht x hx; ⟨w, r⟩
      have hdown : ∀ k c, k < n → c < n → (n + c, k) ∈ rsteps path → 0 < p k c := fun k c hk hc hm => by
        obtain ⟨w, r, _⟩ := ht _ hm
        have r : Res n (fun i j => (dAt d i j : Int)) p (n + c) k w := r
        rcases r.inv with ⟨i', j', hi', hj', q1, q2, q3⟩ | ⟨i', j', hi', hj', hp', q1, q2, q3⟩
        · omega
        · have e1 : j' = c := by omega
          rw [q2, ← e1]
          exact hp'
      rw [elast, cAt_sp hi, cAt_sp hj, least_frac hD, tight_mt hD hbip, minus_frac hD, minus_frac hD, push_mt hD hbip, sp_set, sp_set]
      have hpos : 0 < tightI n p path (min (a i) (b j)) := tightI_pos hbip (by omega) hdown
      obtain ⟨hle, hle2⟩ := tightI_le (n := n) (p := p) (l := path) (v := min (a i) (b j))
      generalize tightI n p path (min (a i) (b j)) = v at hpos hle hle2 ⊢
      have hnb : ∀ k, nb (rsteps path) k = (if i = k then 1 else 0) - (if n + j = k then 1 else 0) := fun k => by
        rw [g1] at g3 ⊢
        exact nb_rsteps g3
      have hnext := h.next hP1 hi hj (Int.le_of_lt hpos) (by omega) (by omega) (rsteps_nodup g4) ht hle2 hnb
      exact carry_go hn eAB f hnext (by rw [Part.less hi]; omega)
end
end EH
end

/-! ## EhPrices -/
section
set_option autoImplicit false
set_option linter.all false
/-! The specification's lowest cost and its prices. Core Lean and the specification's modules. -/
namespace EH
open Sr58 (Frac frac plus times less whole total)
open Sr66 (minus over zero neg)
open Sr80 (cAt pAt least)
open Sr82 (dAt carried fuel priceStep priceRounds prices)

/-! ### carried -/
def prodD (a : List Frac) : Nat := (a.map fun x => x.d).foldl (· * ·) 1
theorem prod_go : ∀ (l : List Nat) (m : Nat), 0 < m → (∀ x ∈ l, 0 < x) → 0 < l.foldl (· * ·) m ∧ m ∣ l.foldl (· * ·) m ∧ ∀ x ∈ l, x ∣ l.foldl (· * ·) m
  | [], m, hm, _ => ⟨hm, Nat.dvd_refl _, fun x hx => by simp at hx⟩
  | y :: l, m, hm, h => by
    have hy := h y List.mem_cons_self
    obtain ⟨h1, h2, h3⟩ := prod_go l (m * y) (Nat.mul_pos hm hy) fun x hx => h x (List.mem_cons_of_mem _ hx)
    refine ⟨h1, Nat.dvd_trans (Nat.dvd_mul_right _ _) h2, fun x hx => ?_⟩
    rcases List.mem_cons.mp hx with rfl | hx
    · exact Nat.dvd_trans (Nat.dvd_mul_left _ _) h2
    · exact h3 x hx
theorem prodD_all {a : List Frac} (h : ∀ x ∈ a, 0 < x.d) : 0 < prodD a ∧ ∀ x ∈ a, x.d ∣ prodD a := by
  obtain ⟨h1, _, h3⟩ := prod_go (a.map fun x => x.d) 1 Nat.one_pos fun x hx => by
    obtain ⟨y, hy, e⟩ := List.mem_map.mp hx
    rw [← e]
    exact h y hy
  exact ⟨h1, fun x hx => h3 _ (List.mem_map.mpr ⟨x, hx, rfl⟩)⟩
theorem sp_mem {D n : Nat} {a : Nat → Int} {x : Frac} (h : x ∈ sp D n a) : ∃ k, k < n ∧ x = frac (a k) D := by
  obtain ⟨k, hk, e⟩ := List.mem_map.mp h
  exact ⟨k, List.mem_range.mp hk, e.symm⟩
/-- the same spread over another denominator -/
theorem sp_over {L D n : Nat} (hL : 0 < L) (hD : 0 < D) {A : Nat → Int} (hd : ∀ x ∈ sp L n A, x.d ∣ D) :
    ∃ A' : Nat → Int, sp L n A = sp D n A' ∧ ∀ k, k < n → (L : Int) * A' k = (D : Int) * A k := by
  refine ⟨fun k => (frac (A k) L).n * ((D / (frac (A k) L).d : Nat) : Int), ?_, fun k hk => ?_⟩
  · refine List.map_congr_left fun k hk => ?_
    have hk := List.mem_range.mp hk
    exact Low.over_ (frac_low hL) hD (hd _ (List.mem_map.mpr ⟨k, List.mem_range.mpr hk, rfl⟩))
  · have h1 := frac_cross (n := A k) hL
    have hdv : (frac (A k) L).d ∣ D := hd _ (List.mem_map.mpr ⟨k, List.mem_range.mpr hk, rfl⟩)
    have h2 : (D : Int) = ((D / (frac (A k) L).d : Nat) : Int) * (frac (A k) L).d := by
      rw [← Int.natCast_mul, Nat.div_mul_cancel hdv]
    calc (L : Int) * ((frac (A k) L).n * ((D / (frac (A k) L).d : Nat) : Int)) = ((frac (A k) L).n * L) * ((D / (frac (A k) L).d : Nat) : Int) := by simp only [Int.mul_assoc, Int.mul_left_comm, Int.mul_comm]
      _ = (A k * (frac (A k) L).d) * ((D / (frac (A k) L).d : Nat) : Int) := by rw [h1]
      _ = (((D / (frac (A k) L).d : Nat) : Int) * (frac (A k) L).d) * A k := by simp only [Int.mul_assoc, Int.mul_left_comm, Int.mul_comm]
      _ = (D : Int) * A k := by rw [← h2]
theorem carried_opt {n L : Nat} (hn : 0 < n) (hL : 0 < L) {d : List (List Nat)} {A B : Nat → Int} (hA : ∀ k, k < n → 0 ≤ A k) (hB : ∀ k, k < n → 0 ≤ B k) (sA : S n A = L) (sB : S n B = L) :
    ∃ (D : Nat) (p : Nat → Nat → Int), 0 < D ∧ carried n d (sp L n A) (sp L n B) = mt D n p ∧
      Opt n (fun i j => (dAt d i j : Int)) (fun i => (D : Int) * A i) (fun j => (D : Int) * B j) (fun i j => (L : Int) * p i j) := by
  have posA : ∀ x ∈ sp L n A, 0 < x.d := fun x hx => by
    obtain ⟨k, _, rfl⟩ := sp_mem hx
    exact frac_dpos hL
  have posB : ∀ x ∈ sp L n B, 0 < x.d := fun x hx => by
    obtain ⟨k, _, rfl⟩ := sp_mem hx
    exact frac_dpos hL
  obtain ⟨pA, dA⟩ := prodD_all posA
  obtain ⟨pB, dB⟩ := prodD_all posB
  have hD : 0 < prodD (sp L n A) * prodD (sp L n B) := Nat.mul_pos pA pB
  obtain ⟨A', eA, cA⟩ := sp_over hL hD (A := A) fun x hx => Nat.dvd_trans (dA x hx) (Nat.dvd_mul_right _ _)
  obtain ⟨B', eB, cB⟩ := sp_over hL hD (A := B) fun x hx => Nat.dvd_trans (dB x hx) (Nat.dvd_mul_left _ _)
  have hf : fuel (sp L n A) (sp L n B) = prodD (sp L n A) * prodD (sp L n B) + 1 := rfl
  generalize prodD (sp L n A) * prodD (sp L n B) = D at hD eA cA eB cB hf
  have hLp : (0 : Int) < L := by omega
  have sums : ∀ (X X' : Nat → Int), S n X = L → (∀ k, k < n → (L : Int) * X' k = (D : Int) * X k) → S n X' = D := fun X X' s c => by
    have e : (L : Int) * S n X' = (D : Int) * S n X := by
      rw [← S_mulL, ← S_mulL]
      exact S_congr c
    rw [s, Int.mul_comm (D : Int)] at e
    exact Int.eq_of_mul_eq_mul_left (by omega) e
  have nns : ∀ (X X' : Nat → Int), (∀ k, k < n → 0 ≤ X k) → (∀ k, k < n → (L : Int) * X' k = (D : Int) * X k) → ∀ k, k < n → 0 ≤ X' k := fun X X' s c k hk => by
    have h1 := c k hk
    have h2 := Int.mul_nonneg (show (0 : Int) ≤ D by omega) (s k hk)
    rcases Int.lt_or_le (X' k) 0 with z | z
    · have := Int.mul_neg_of_pos_of_neg hLp z
      omega
    · exact z
  have sA' := sums A A' sA cA
  have sB' := sums B B' sB cB
  have part : Part n (fun i j => (dAt d i j : Int)) A' B' (fun _ _ => 0) A' B' := {
    nn := fun _ _ _ _ => Int.le_refl _
    an := nns A A' hA cA
    bn := nns B B' hB cB
    row := fun i _ => by rw [S_zero n]; omega
    col := fun j _ => by rw [S_zero n]; omega
    pot := ⟨fun _ => 0, fun _ => 0, fun i j _ _ => by show (0 : Int) - 0 ≤ _; omega, fun i j _ _ h => absurd h (Int.lt_irrefl 0)⟩ }
  obtain ⟨p, ho, e⟩ := carry_go hD hn (d := d) (A := A') (B := B') (by rw [sA', sB']) (fuel (sp L n A) (sp L n B)) part (by rw [sA', hf]; omega)
  refine ⟨D, p, hD, ?_, ?_⟩
  · unfold carried
    rw [hf] at e ⊢
    rw [eA, eB, blank_mt hD]
    exact e
  · have h := ho.scale hLp
    obtain ⟨f, g, q⟩ := h.pot
    exact ⟨⟨h.plan.nn, fun i hi => (h.plan.row i hi).trans (cA i hi), fun j hj => (h.plan.col j hj).trans (cB j hj)⟩, f, g, q⟩

/-! ### the cost -/
theorem flat_range (n : Nat) {α : Type} (f : Nat → Nat → α) : (Sr80.pairs n).map (fun y => f y.1 y.2) = (List.range n).flatMap fun i => (List.range n).map fun j => f i j := by
  unfold Sr80.pairs
  rw [List.map_flatMap]
  congr 1
  funext i
  rw [List.map_map]
  rfl
theorem sum_flat (n : Nat) (f : Nat → Nat → Int) : ∀ m, ((List.range m).flatMap fun i => (List.range n).map fun j => f i j).sum = S m fun i => S n (f i)
  | 0 => rfl
  | m + 1 => by
    rw [List.range_succ, List.flatMap_append, List.sum_append, sum_flat n f m, List.flatMap_cons, List.flatMap_nil, List.append_nil, sum_range]
    rfl
theorem cost_mt {D n : Nat} (hD : 0 < D) {d : List (List Nat)} {p : Nat → Nat → Int} : Sr82.cost n d (mt D n p) = frac (cost n (fun i j => (dAt d i j : Int)) p) D := by
  unfold Sr82.cost
  have e : (Sr80.pairs n).map (fun y => times (whole (dAt d y.1 y.2 : Nat)) (pAt (mt D n p) y.1 y.2)) =
      (((List.range n).flatMap fun i => (List.range n).map fun j => p i j * (dAt d i j : Int)).map fun x => frac x D) := by
    rw [← flat_range n fun i j => p i j * (dAt d i j : Int), List.map_map]
    refine List.map_congr_left fun y hy => ?_
    obtain ⟨h1, h2⟩ := (mem_pairs hD).mp hy
    rw [pAt_mt h1 h2, times_whole hD]
    show _ = frac (p y.1 y.2 * _) D
    rw [Int.mul_comm]
  rw [e, total_frac hD, sum_flat]
  rfl
/-- the lowest cost is that of any plan with the lowest cost -/
theorem least_is {n L : Nat} (hn : 0 < n) (hL : 0 < L) {d : List (List Nat)} {A B : Nat → Int} (hA : ∀ k, k < n → 0 ≤ A k) (hB : ∀ k, k < n → 0 ≤ B k) (sA : S n A = L) (sB : S n B = L)
    {p : Nat → Nat → Int} (h : Opt n (fun i j => (dAt d i j : Int)) A B p) : Sr82.least n d (sp L n A) (sp L n B) = frac (cost n (fun i j => (dAt d i j : Int)) p) L := by
  obtain ⟨D, p', hD, e, h'⟩ := carried_opt hn hL (d := d) hA hB sA sB
  unfold Sr82.least
  rw [e, cost_mt hD]
  have h2 := h.scale (k := (D : Int)) (by omega)
  have h3 := h2.cost_eq h'
  rw [cost_scale, cost_scale] at h3
  refine frac_eq hD hL ?_
  rw [Int.mul_comm, ← h3, Int.mul_comm]

/-! ### prices -/
/-- how much a price may be above another one -/
inductive Pr (n : Nat) (c p : Nat → Nat → Int) : Nat → Nat → Int → Prop
  | up {i j : Nat} : i < n → j < n → Pr n c p i j (c i j)
  | down {i j : Nat} : i < n → j < n → 0 < p j i → Pr n c p i j (- c j i)
structure IsPrice (n : Nat) (c p : Nat → Nat → Int) (u : Nat → Int) : Prop where
  real : ∀ j, j < n → ∃ l, WL (Pr n c p) (j :: l) (u j) ∧ (j :: l).getLast? = some 0
  shut : ∀ i j w, Pr n c p i j w → u j ≤ u i + w
  zero_ : u 0 ≤ 0
theorem IsPrice.pots {n : Nat} {c p : Nat → Nat → Int} {u : Nat → Int} (h : IsPrice n c p u) : Pots n c p u u where
  le := fun i j hi hj => by
    have := h.shut i j _ (Pr.up hi hj)
    omega
  eq := fun i j hi hj hp => by
    have := h.shut i j _ (Pr.up hi hj)
    have := h.shut j i _ (Pr.down hj hi hp)
    omega
theorem Pots.prices {n : Nat} {c p : Nat → Nat → Int} {u : Nat → Int} (h : Pots n c p u u) : ∀ i j w, Pr n c p i j w → u j ≤ u i + w := fun i j w r => by
  cases r with
  | up hi hj =>
    have := h.le i j hi hj
    omega
  | down hi hj hp =>
    have := h.eq j i hj hi hp
    omega
theorem IsPrice.below {n : Nat} {c p q : Nat → Nat → Int} {u v A B : Nat → Int} (h : IsPrice n c p u) (h' : IsPrice n c q v) (op : Opt n c A B p) (oq : Opt n c A B q) : ∀ j, j < n → u j ≤ v j := fun j hj => by
  have t := (h.pots.transfer op.plan oq).prices
  obtain ⟨l, w, e⟩ := h'.real j hj
  have := WL.pot t w e
  have := h.zero_
  omega
theorem IsPrice.one {n : Nat} {c p q : Nat → Nat → Int} {u v A B : Nat → Int} (h : IsPrice n c p u) (h' : IsPrice n c q v) (op : Opt n c A B p) (oq : Opt n c A B q) : ∀ j, j < n → u j = v j := fun j hj =>
  Int.le_antisymm (h.below h' op oq j hj) (h'.below h oq op j hj)
theorem Pr.scale {n : Nat} {c p : Nat → Nat → Int} {k : Int} (hk : 0 < k) {i j : Nat} {w : Int} : Pr n c (fun i j => k * p i j) i j w ↔ Pr n c p i j w := by
  constructor
  · intro r
    cases r with
    | up hi hj => exact .up hi hj
    | down hi hj hp => exact .down hi hj (by
        rcases Int.lt_or_le 0 (p j i) with z | z
        · exact z
        · exact absurd hp (Int.not_lt.mpr (Int.mul_nonpos_of_nonneg_of_nonpos (Int.le_of_lt hk) z)))
  · intro r
    cases r with
    | up hi hj => exact .up hi hj
    | down hi hj hp => exact .down hi hj (Int.mul_pos hk hp)
theorem WL.map_rel {R R' : Nat → Nat → Int → Prop} (h : ∀ u v d, R u v d → R' u v d) : ∀ {l : List Nat} {c : Int}, WL R l c → WL R' l c
  | _, _, .one v => .one v
  | _, _, .more w r => .more (WL.map_rel h w) (h _ _ _ r)
theorem IsPrice.scale {n : Nat} {c p : Nat → Nat → Int} {u : Nat → Int} {k : Int} (hk : 0 < k) (h : IsPrice n c p u) : IsPrice n c (fun i j => k * p i j) u where
  real := fun j hj => by
    obtain ⟨l, w, e⟩ := h.real j hj
    exact ⟨l, WL.map_rel (fun _ _ _ r => (Pr.scale hk).mpr r) w, e⟩
  shut := fun i j w r => h.shut i j w ((Pr.scale hk).mp r)
  zero_ := h.zero_
end EH
end

/-! ## EhPrices2 -/
section
set_option autoImplicit false
set_option linter.all false
/-! The specification's prices, found in rounds. Core Lean and the specification's modules. -/
namespace EH
open Sr58 (Frac frac plus times less whole total)
open Sr80 (cAt pAt least)
open Sr82 (dAt carried fuel priceStep priceRounds prices)

abbrev PSt := List (Option Int)
theorem AtMost.some {x c : Int} : AtMost (some x) c ↔ x ≤ c := ⟨fun ⟨y, e, h⟩ => by cases e; exact h, fun h => ⟨x, rfl, h⟩⟩
/-- a fold that takes the better of what it has and of what each of some offers -/
theorem fold_best {α : Type} (g : α → Option Int) : ∀ (l : List α) (m : Option Int),
    (∀ c, AtMost m c → AtMost (l.foldl (fun m i => match g i with | none => m | some z => match m with | none => some z | some y => some (min y z)) m) c) ∧
    (∀ i ∈ l, ∀ z, g i = some z → AtMost (l.foldl (fun m i => match g i with | none => m | some z => match m with | none => some z | some y => some (min y z)) m) z) ∧
    (∀ x, l.foldl (fun m i => match g i with | none => m | some z => match m with | none => some z | some y => some (min y z)) m = some x → m = some x ∨ ∃ i ∈ l, g i = some x)
  | [], m => ⟨fun c h => h, fun i h => by simp at h, fun x h => Or.inl h⟩
  | i :: l, m => by
    rw [List.foldl_cons]
    cases e : g i with
    | none =>
      dsimp only
      obtain ⟨h1, h2, h3⟩ := fold_best g l m
      refine ⟨h1, fun j hj z hz => ?_, fun x hx => ?_⟩
      · rcases List.mem_cons.mp hj with rfl | hj
        · rw [e] at hz
          cases hz
        · exact h2 j hj z hz
      · rcases h3 x hx with q | ⟨j, hj, q⟩
        · exact Or.inl q
        · exact Or.inr ⟨j, List.mem_cons_of_mem _ hj, q⟩
    | some z0 =>
      dsimp only
      cases m with
      | none =>
        dsimp only
        obtain ⟨h1, h2, h3⟩ := fold_best g l (some z0)
        refine ⟨fun c h => (by obtain ⟨y, q, _⟩ := h; cases q), fun j hj z hz => ?_, fun x hx => ?_⟩
        · rcases List.mem_cons.mp hj with rfl | hj
          · rw [e] at hz
            cases hz
            exact h1 _ (AtMost.some.mpr (Int.le_refl _))
          · exact h2 j hj z hz
        · rcases h3 x hx with q | ⟨j, hj, q⟩
          · cases q
            exact Or.inr ⟨i, List.mem_cons_self, e⟩
          · exact Or.inr ⟨j, List.mem_cons_of_mem _ hj, q⟩
      | some y0 =>
        dsimp only
        obtain ⟨h1, h2, h3⟩ := fold_best g l (some (min y0 z0))
        refine ⟨fun c h => h1 c (AtMost.some.mpr (by have := AtMost.some.mp h; omega)), fun j hj z hz => ?_, fun x hx => ?_⟩
        · rcases List.mem_cons.mp hj with rfl | hj
          · rw [e] at hz
            cases hz
            exact h1 _ (AtMost.some.mpr (by omega))
          · exact h2 j hj z hz
        · rcases h3 x hx with q | ⟨j, hj, q⟩
          · have q := Option.some.inj q
            rcases Int.le_total y0 z0 with t | t
            · rw [Int.min_eq_left t] at q
              exact Or.inl (by rw [q])
            · rw [Int.min_eq_right t] at q
              exact Or.inr ⟨i, List.mem_cons_self, by rw [e, q]⟩
          · exact Or.inr ⟨j, List.mem_cons_of_mem _ hj, q⟩
section
variable {D : Nat} (hD : 0 < D)
include hD
/-- what a price offers another one -/
def offer (d : List (List Nat)) (p : Nat → Nat → Int) (f : PSt) (j i : Nat) : Option Int := match f.getD i none with
  | none => none
  | some x => some (if 0 < p j i then min (x + dAt d i j) (x - dAt d j i) else x + dAt d i j)
theorem priceStep_at {n : Nat} {d : List (List Nat)} {p : Nat → Nat → Int} {f : PSt} {j : Nat} (hj : j < n) :
    (priceStep n d (mt D n p) f).getD j none = (List.range n).foldl (fun m i => match offer d p f j i with | none => m | some z => match m with | none => some z | some y => some (min y z)) (f.getD j none) := by
  unfold priceStep
  rw [getD_map_range hj]
  have key : ∀ (l : List Nat) (m : Option Int), (∀ i ∈ l, i < n) → l.foldl (fun (m : Option Int) i => match f.getD i none with
      | none => m
      | some x => let z := if 0 < (pAt (mt D n p) j i).n then min (x + dAt d i j) (x - dAt d j i) else x + dAt d i j
        match m with
        | none => some z
        | some y => some (min y z)) m = l.foldl (fun m i => match offer d p f j i with | none => m | some z => match m with | none => some z | some y => some (min y z)) m := by
    intro l
    induction l with
    | nil => intro m _; rfl
    | cons i l ih =>
      intro m hl
      rw [List.foldl_cons, List.foldl_cons, ih _ fun k hk => hl k (List.mem_cons_of_mem _ hk)]
      congr 1
      unfold offer
      rw [pAt_mt hj (hl i List.mem_cons_self)]
      cases f.getD i none with
      | none => rfl
      | some x =>
        dsimp only
        have e : (0 < (frac (p j i) D).n) = (0 < p j i) := propext (frac_pos hD _)
        simp only [e]
  exact key _ _ fun i hi => List.mem_range.mp hi
theorem priceRounds_succ {n : Nat} {d : List (List Nat)} {p : List (List Frac)} : ∀ (k : Nat) (f : PSt), priceRounds n d p (k + 1) f = priceStep n d p (priceRounds n d p k f)
  | 0, f => rfl
  | k + 1, f => by
    show priceRounds n d p (k + 1) (priceStep n d p f) = priceStep n d p (priceRounds n d p k (priceStep n d p f))
    exact priceRounds_succ k _
theorem offer_of {n : Nat} {d : List (List Nat)} {p : Nat → Nat → Int} {f : PSt} {i j : Nat} {w x : Int} (e : f.getD i none = some x) (r : Pr n (fun i j => (dAt d i j : Int)) p i j w) :
    i < n ∧ j < n ∧ ∃ z, offer d p f j i = some z ∧ z ≤ x + w := by
  unfold offer
  rw [e]
  cases r with
  | up hi hj =>
    refine ⟨hi, hj, _, rfl, ?_⟩
    split <;> omega
  | down hi hj hp =>
    refine ⟨hi, hj, _, rfl, ?_⟩
    rw [if_pos hp]
    omega
theorem offer_real {n : Nat} {d : List (List Nat)} {p : Nat → Nat → Int} {f : PSt} {i j : Nat} {z : Int} (hi : i < n) (hj : j < n) (e : offer d p f j i = some z) :
    ∃ x w, f.getD i none = some x ∧ Pr n (fun i j => (dAt d i j : Int)) p i j w ∧ z = x + w := by
  unfold offer at e
  cases q : f.getD i none with
  | none => rw [q] at e; cases e
  | some x =>
    rw [q] at e
    have e := Option.some.inj e
    by_cases hp : 0 < p j i
    · rw [if_pos hp] at e
      rcases Int.le_total (x + dAt d i j) (x - dAt d j i) with t | t
      · rw [Int.min_eq_left t] at e
        exact ⟨x, _, rfl, .up hi hj, e.symm⟩
      · rw [Int.min_eq_right t] at e
        exact ⟨x, _, rfl, .down hi hj hp, by omega⟩
    · rw [if_neg hp] at e
      exact ⟨x, _, rfl, .up hi hj, e.symm⟩
theorem prices_found {n : Nat} (hn : 0 < n) {d : List (List Nat)} {p : Nat → Nat → Int} {v : Nat → Int} (hv : Pots n (fun i j => (dAt d i j : Int)) p v v) :
    ∃ u, IsPrice n (fun i j => (dAt d i j : Int)) p u ∧ (priceRounds n d (mt D n p) n ((List.range n).map fun i => if i = 0 then some 0 else none)).map (fun x => x.getD 0) = (List.range n).map u := by
  let f0 : PSt := (List.range n).map fun i => if i = 0 then some 0 else none
  let L : Nat → Nat → Option Int := fun k x => (priceRounds n d (mt D n p) k f0).getD x none
  have len : ∀ k, (priceRounds n d (mt D n p) k f0).length = n := fun k => by
    cases k with
    | zero =>
      show f0.length = n
      simp [f0]
    | succ k =>
      rw [priceRounds_succ hD]
      unfold priceStep
      simp
  have low : ∀ k x y, L k x = some y → x < n := fun k x y e => by
    rcases Nat.lt_or_ge x n with q | q
    · exact q
    · have e : (priceRounds n d (mt D n p) k f0).getD x none = some y := e
      rw [List.getD_eq_getElem?_getD, List.getElem?_eq_none (by rw [len]; exact q)] at e
      cases e
  have next : ∀ k j, j < n → L (k + 1) j = (List.range n).foldl (fun m i => match offer d p (priceRounds n d (mt D n p) k f0) j i with | none => m | some z => match m with | none => some z | some y => some (min y z)) (L k j) := fun k j hj => by
    show (priceRounds n d (mt D n p) (k + 1) f0).getD j none = _
    rw [priceRounds_succ hD, priceStep_at hD hj]
  have h0 : ∀ v, v = 0 → AtMost (L 0 v) 0 := fun v e => by
    subst e
    show AtMost (f0.getD 0 none) 0
    rw [getD_map_range hn]
    exact ⟨0, rfl, Int.le_refl _⟩
  have stay : ∀ k v c, AtMost (L k v) c → AtMost (L (k + 1) v) c := fun k v c h => by
    have hv : v < n := by
      obtain ⟨y, e, _⟩ := h
      exact low k v y e
    rw [next k v hv]
    exact (fold_best _ _ _).1 c h
  have step : ∀ k u v x w, L k u = some x → Pr n (fun i j => (dAt d i j : Int)) p u v w → AtMost (L (k + 1) v) (x + w) := fun k u v x w e r => by
    obtain ⟨hu, hv, z, ez, hz⟩ := offer_of hD e r
    rw [next k v hv]
    exact ((fold_best _ _ _).2.1 u (List.mem_range.mpr hu) z ez).mono hz
  have real : ∀ k v x, L k v = some x → ∃ l s, WL (Pr n (fun i j => (dAt d i j : Int)) p) (v :: l) x ∧ (v :: l).getLast? = some s ∧ s = 0 := by
    intro k
    induction k with
    | zero =>
      intro v x e
      have hv := low 0 v x e
      have e : f0.getD v none = some x := e
      rw [getD_map_range hv] at e
      split at e
      · rename_i q
        have e := Option.some.inj e
        subst e
        exact ⟨[], v, .one v, rfl, q⟩
      · cases e
    | succ k ih =>
      intro v x e
      have hv := low _ v x e
      rw [next k v hv] at e
      rcases (fold_best _ _ _).2.2 x e with q | ⟨i, hi, q⟩
      · exact ih v x q
      · obtain ⟨y, w, q1, q2, q3⟩ := offer_real hD (List.mem_range.mp hi) hv q
        obtain ⟨l, s, w1, w2, w3⟩ := ih i y q1
        exact ⟨i :: l, s, by rw [q3]; exact .more w1 q2, by rw [List.getLast?_cons_cons]; exact w2, w3⟩
  have closed : ∀ {u v : Nat} {x w : Int}, L n u = some x → Pr n (fun i j => (dAt d i j : Int)) p u v w → AtMost (L n v) (x + w) := fun e r =>
    rounds_closed (L := L) (src := fun v => v = 0) hv.prices (fun u v w r => by cases r <;> exact ⟨by assumption, by assumption⟩) (fun v e => by rw [e]; exact hn) h0 stay step (real n) e r
  have z0 : AtMost (L n 0) 0 := by
    have : ∀ k, AtMost (L k 0) 0 := by
      intro k
      induction k with
      | zero => exact h0 0 rfl
      | succ k ih => exact stay k 0 0 ih
    exact this n
  have all : ∀ j, j < n → ∃ y, L n j = some y := fun j hj => by
    obtain ⟨x, e, _⟩ := z0
    obtain ⟨y, e2, _⟩ := closed e (Pr.up hn hj)
    exact ⟨y, e2⟩
  let u : Nat → Int := fun j => (L n j).getD 0
  have hu : ∀ j x, L n j = some x → u j = x := fun j x e => by
    show (L n j).getD 0 = x
    rw [e]
    rfl
  refine ⟨u, ⟨fun j hj => ?_, fun i j w r => ?_, ?_⟩, ?_⟩
  · obtain ⟨y, e⟩ := all j hj
    obtain ⟨l, s, w1, w2, w3⟩ := real n j y e
    rw [hu j y e]
    exact ⟨l, w1, by rw [w2, w3]⟩
  · have hi : i < n := by cases r <;> assumption
    obtain ⟨x, e⟩ := all i hi
    obtain ⟨y, e2, q⟩ := closed e r
    rw [hu i x e, hu j y e2]
    exact q
  · obtain ⟨x, e, q⟩ := z0
    rw [hu 0 x e]
    exact q
  · apply List.ext_getElem?
    intro k
    rw [List.getElem?_map, List.getElem?_map]
    by_cases h : k < n
    · rw [List.getElem?_range h]
      have e : (priceRounds n d (mt D n p) n f0)[k]? = some (L n k) := by
        show _ = some ((priceRounds n d (mt D n p) n f0).getD k none)
        rw [List.getD_eq_getElem?_getD]
        have : k < (priceRounds n d (mt D n p) n f0).length := by rw [len]; exact h
        rw [List.getElem?_eq_getElem this]
        rfl
      rw [e]
      rfl
    · rw [List.getElem?_eq_none (show (priceRounds n d (mt D n p) n f0).length ≤ k by rw [len]; omega), List.getElem?_eq_none (by simpa using h)]
      rfl
/-- the specification's prices are those of any plan with the lowest cost -/
theorem prices_is {n L : Nat} (hn : 0 < n) (hL : 0 < L) {d : List (List Nat)} (M : Metric n fun i j => (dAt d i j : Int)) {A B : Nat → Int} (hA : ∀ k, k < n → 0 ≤ A k) (hB : ∀ k, k < n → 0 ≤ B k) (sA : S n A = L) (sB : S n B = L)
    {p : Nat → Nat → Int} (h : Opt n (fun i j => (dAt d i j : Int)) A B p) {u : Nat → Int} (hu : IsPrice n (fun i j => (dAt d i j : Int)) p u) : prices n d (sp L n A) (sp L n B) = (List.range n).map u := by
  obtain ⟨D, p', hD, e, h'⟩ := carried_opt hn hL (d := d) hA hB sA sB
  have hLp : (0 : Int) < L := by omega
  have hDp : (0 : Int) < D := by omega
  obtain ⟨f, g, q⟩ := h'.pot
  obtain ⟨v, hv⟩ := q.one M
  have hv' : Pots n (fun i j => (dAt d i j : Int)) p' v v := ⟨hv.le, fun i j hi hj hp => hv.eq i j hi hj (Int.mul_pos hLp hp)⟩
  obtain ⟨u', hu', e'⟩ := prices_found hD hn hv'
  unfold prices
  rw [e, e']
  refine List.map_congr_left fun j hj => ?_
  exact ((hu'.scale hLp).one (hu.scale hDp) h' (h.scale hDp)) j (List.mem_range.mp hj)
end
end EH
end

/-! ## EhBfs -/
section
set_option autoImplicit false
set_option linter.all false
/-! A search from one node, node by node. Core Lean alone. -/
namespace EH
structure Bfs (nx : Nat → List Nat) (b : Nat) (ns : List Nat) (par : Nat → Option Int) : Prop where
  nd : ns.Nodup
  zero : ns[0]? = some b
  dom : ∀ x, (par x).isSome = true ↔ x ∈ ns
  first : par b = some (-1)
  later : ∀ k x, ns[k + 1]? = some x → ∃ (k' u : Nat), k' < k + 1 ∧ ns[k']? = some u ∧ par x = some (u : Int) ∧ x ∈ nx u
/-- the first t nodes have told all their next ones -/
def Told (nx : Nat → List Nat) (ns : List Nat) (t : Nat) : Prop := ∀ k, k < t → ∀ u, ns[k]? = some u → ∀ v ∈ nx u, v ∈ ns
theorem Bfs.start (nx : Nat → List Nat) (b : Nat) : Bfs nx b [b] (fun x => if x = b then some (-1) else none) := by
  refine ⟨by simp, rfl, fun x => ?_, if_pos rfl, fun k x h => by simp at h⟩
  by_cases c : x = b
  · simp [c]
  · simp [c]
theorem Bfs.add {nx : Nat → List Nat} {b : Nat} {ns : List Nat} {par : Nat → Option Int} (h : Bfs nx b ns par) {t u v : Nat} (hu : ns[t]? = some u) (hv : v ∈ nx u) (hn : par v = none) :
    Bfs nx b (ns ++ [v]) (fun x => if x = v then some (u : Int) else par x) := by
  have hm : v ∉ ns := fun z => by
    have := (h.dom v).mpr z
    rw [hn] at this
    cases this
  have hlt : ∀ {k : Nat} {x : Nat}, ns[k]? = some x → k < ns.length := fun e => (List.getElem?_eq_some_iff.mp e).1
  have ne : ∀ {k : Nat} {x : Nat}, ns[k]? = some x → x ≠ v := fun e z => hm (by rw [← z]; exact List.mem_of_getElem? e)
  refine ⟨?_, ?_, fun x => ?_, ?_, fun k x e => ?_⟩
  · rw [List.nodup_append]
    refine ⟨h.nd, by simp, fun a ha c hc => ?_⟩
    rw [List.mem_singleton.mp hc]
    intro z
    exact hm (by rw [← z]; exact ha)
  · rw [List.getElem?_append_left (hlt h.zero)]
    exact h.zero
  · by_cases c : x = v
    · simp [c]
    · rw [if_neg c, List.mem_append]
      constructor
      · intro z
        exact Or.inl ((h.dom x).mp z)
      · intro z
        rcases z with z | z
        · exact (h.dom x).mpr z
        · exact absurd (List.mem_singleton.mp z) c
  · rw [if_neg (ne h.zero)]
    exact h.first
  · rcases Nat.lt_or_ge (k + 1) ns.length with q | q
    · rw [List.getElem?_append_left q] at e
      obtain ⟨k', u', h1, h2, h3, h4⟩ := h.later k x e
      exact ⟨k', u', h1, by rw [List.getElem?_append_left (hlt h2)]; exact h2, by rw [if_neg (ne e)]; exact h3, h4⟩
    · rw [List.getElem?_append_right q] at e
      have e6 : k + 1 - ns.length = 0 := by
        rcases Nat.eq_zero_or_pos (k + 1 - ns.length) with z | z
        · exact z
        · rw [List.getElem?_eq_none (by simp; omega)] at e
          cases e
      rw [e6] at e
      have e : v = x := Option.some.inj e
      refine ⟨t, u, ?_, by rw [List.getElem?_append_left (hlt hu)]; exact hu, by rw [if_pos e.symm], by rw [← e]; exact hv⟩
      have := hlt hu
      omega
theorem Told.mono {nx : Nat → List Nat} {ns ms : List Nat} {t : Nat} (h : Told nx ns t) (hp : ∃ l, ms = ns ++ l) (ht : t ≤ ns.length) : Told nx ms t := by
  obtain ⟨l, rfl⟩ := hp
  intro k hk u e v hv
  rw [List.getElem?_append_left (by omega)] at e
  exact List.mem_append_left _ (h k hk u e v hv)
/-- the way back from a node that was found -/
structure Back (nx : Nat → List Nat) (b : Nat) (par : Nat → Option Int) (c : List Nat) : Prop where
  nd : c.Nodup
  next : ∀ (i v u : Nat), c[i]? = some v → c[i + 1]? = some u → par v = some (u : Int) ∧ v ∈ nx u
  last : ∀ (i v : Nat), c[i]? = some v → c[i + 1]? = none → par v = some (-1) ∧ v = b
theorem Bfs.back {nx : Nat → List Nat} {b : Nat} {ns : List Nat} {par : Nat → Option Int} (h : Bfs nx b ns par) : ∀ (k x : Nat), ns[k]? = some x →
    ∃ c, Back nx b par c ∧ c[0]? = some x ∧ c.length ≤ k + 1 ∧ ∀ v ∈ c, ∃ k', k' ≤ k ∧ ns[k']? = some v := by
  intro k
  induction k using Nat.strongRecOn with
  | ind k ih =>
    intro x e
    cases k with
    | zero =>
      have eb : b = x := Option.some.inj (h.zero.symm.trans e)
      subst eb
      refine ⟨[b], ⟨by simp, fun i v u h1 h2 => by simp at h2, fun i v h1 h2 => ?_⟩, rfl, Nat.le_refl _, fun v hv => ⟨0, Nat.le_refl _, by rw [List.mem_singleton.mp hv]; exact h.zero⟩⟩
      cases i with
      | zero =>
        cases h1
        exact ⟨h.first, rfl⟩
      | succ i => simp at h1
    | succ k =>
      obtain ⟨k', u, h1, h2, h3, h4⟩ := h.later k x e
      obtain ⟨c, q1, q2, q3, q4⟩ := ih k' h1 u h2
      have hx : x ∉ c := fun z => by
        obtain ⟨j, hj, ej⟩ := q4 x z
        obtain ⟨a1, a2⟩ := List.getElem?_eq_some_iff.mp ej
        obtain ⟨b1, b2⟩ := List.getElem?_eq_some_iff.mp e
        exact absurd (a2.trans b2.symm) (List.pairwise_iff_getElem.mp h.nd j (k + 1) a1 b1 (by omega))
      refine ⟨x :: c, ⟨List.nodup_cons.mpr ⟨hx, q1.nd⟩, fun i v w e1 e2 => ?_, fun i v e1 e2 => ?_⟩, rfl, by rw [List.length_cons]; omega, fun v hv => ?_⟩
      · cases i with
        | zero =>
          cases e1
          have : c[0]? = some w := e2
          rw [q2] at this
          cases this
          exact ⟨h3, h4⟩
        | succ i => exact q1.next i v w e1 e2
      · cases i with
        | zero =>
          have : c[0]? = none := e2
          rw [q2] at this
          cases this
        | succ i => exact q1.last i v e1 e2
      · rcases List.mem_cons.mp hv with z | z
        · exact ⟨k + 1, Nat.le_refl _, by rw [z]; exact e⟩
        · obtain ⟨j, hj, ej⟩ := q4 v z
          exact ⟨j, by omega, ej⟩
end EH
end

/-! ## EhDefs -/
section
set_option autoImplicit false
set_option linter.all false
/-! What the program computes, told in plain words: the defs that the walks and the mathematics share. Core Lean and the specification's modules. -/
namespace EW
open Sr58 (Frac)
/-- no fraction's numbers are greater -/
structure Sz (x : Frac) : Prop where
  n : x.n.natAbs < 2 ^ 4400
  d : x.d < 2 ^ 4400
  pos : 0 < x.d
def lcmD (xs : List Frac) : Nat := xs.foldl (fun m x => Nat.lcm m x.d) 1
def amountsI (D : Nat) (xs : List Frac) : List Int := xs.map fun x => x.n * ((D : Int) / (x.d : Int))
def stepL (f : Nat → Nat → Int) (i j : Nat) : Int := if i = j then 0 else if 0 < f i j then f i j else 1000
def thr (f : Nat → Nat → Int) (k i j : Nat) : Int := if f i k + f k j < f i j then f i k + f k j else f i j
def dstP (f : Nat → Nat → Int) (n m : Nat) : Nat → Nat → Int := (List.range m).foldl thr (stepL f)
theorem dstP_succ (f : Nat → Nat → Int) (n m : Nat) : dstP f n (m + 1) = thr (dstP f n m) m := by
  unfold dstP
  rw [List.range_succ, List.foldl_append]
  rfl
def fupd (f : Nat → Int) (i : Nat) (v : Int) : Nat → Int := fun k => if k = i then v else f k
abbrev BF := (Nat → Int) × (Nat → Int)
/-- one arc -/
def bfStep (st : BF) (y : Nat × Nat × Int) : BF := if st.1 y.1 < 1000000 ∧ st.1 y.1 + y.2.2 < st.1 y.2.1 then (fupd st.1 y.2.1 (st.1 y.1 + y.2.2), fupd st.2 y.2.1 (y.1 : Int)) else st
def bfRelax (arcs : List (Nat × Nat × Int)) (st : BF) : BF := arcs.foldl bfStep st
def bfIter (arcs : List (Nat × Nat × Int)) (begins : List Nat) : Nat → BF
  | 0 => (fun k => if k ∈ begins then 0 else 1000000, fun _ => -1)
  | t + 1 => bfRelax arcs (bfIter arcs begins t)
/-- from a node by the node before it, to one that has none -/
structure Chain (pa : Nat → Int) (N : Nat) (c : List Nat) : Prop where
  lt : ∀ v ∈ c, v < N
  next : ∀ (i v u : Nat), c[i]? = some v → c[i + 1]? = some u → pa v = u
  last : ∀ (i v : Nat), c[i]? = some v → c[i + 1]? = none → pa v < 0
abbrev Arc := Nat × Nat × Int
def gridOf {α : Type} (g : Nat → Nat → List α) (n i j : Nat) : List α := ((List.range i).flatMap fun i => (List.range n).flatMap (g i)) ++ (List.range j).flatMap (g i)
theorem gridOf_next {α : Type} (g : Nat → Nat → List α) (n i j : Nat) : gridOf g n i (j + 1) = gridOf g n i j ++ g i j := by
  unfold gridOf
  rw [List.range_succ, List.flatMap_append, List.flatMap_cons, List.flatMap_nil, List.append_nil, List.append_assoc]
theorem gridOf_row {α : Type} (g : Nat → Nat → List α) (n i : Nat) : gridOf g n i n = gridOf g n (i + 1) 0 := by
  unfold gridOf
  rw [List.range_succ, List.flatMap_append, List.flatMap_cons, List.flatMap_nil, List.append_nil, List.range_zero, List.flatMap_nil, List.append_nil]
theorem gridOf_len {α : Type} {g : Nat → Nat → List α} {k n : Nat} (h : ∀ i j, (g i j).length ≤ k) (i j : Nat) : (gridOf g n i j).length ≤ i * (n * k) + j * k := by
  have row : ∀ i j, ((List.range j).flatMap (g i)).length ≤ j * k := by
    intro i j
    induction j with
    | zero => simp
    | succ j ih =>
      rw [List.range_succ, List.flatMap_append, List.flatMap_cons, List.flatMap_nil, List.append_nil, List.length_append, Nat.succ_mul]
      have := h i j
      omega
  have h2 : ∀ i, ((List.range i).flatMap fun i => (List.range n).flatMap (g i)).length ≤ i * (n * k) := by
    intro i
    induction i with
    | zero => simp
    | succ i ih =>
      rw [List.range_succ, List.flatMap_append, List.flatMap_cons, List.flatMap_nil, List.append_nil, List.length_append, Nat.succ_mul]
      have := row i n
      omega
  unfold gridOf
  rw [List.length_append]
  have := row i j
  have := h2 i
  omega
def bndArcs (c p : Nat → Nat → Int) (i j : Nat) : List Arc := (i, j, c i j) :: if 0 < p i j then [(j, i, 0 - c i j)] else []
theorem bndArcs_len (c p : Nat → Nat → Int) (i j : Nat) : (bndArcs c p i j).length ≤ 2 := by
  unfold bndArcs
  split <;> simp
theorem gridOf_mem {α : Type} {g : Nat → Nat → List α} {n : Nat} {y : α} (h : y ∈ gridOf g n n 0) : ∃ i j, i < n ∧ j < n ∧ y ∈ g i j := by
  unfold gridOf at h
  rw [List.range_zero, List.flatMap_nil, List.append_nil, List.mem_flatMap] at h
  obtain ⟨i, hi, h⟩ := h
  obtain ⟨j, hj, h⟩ := List.mem_flatMap.mp h
  exact ⟨i, j, List.mem_range.mp hi, List.mem_range.mp hj, h⟩
theorem grid_pairs (n : Nat) : gridOf (fun i j => [(i, j)]) n n 0 = Sr80.pairs n := by
  unfold gridOf Sr80.pairs
  rw [List.range_zero, List.flatMap_nil, List.append_nil]
  congr 1
  funext i
  show (List.range n).flatMap (fun j => [(i, j)]) = (List.range n).map fun j => (i, j)
  induction List.range n with
  | nil => rfl
  | cons j l ih => rw [List.flatMap_cons, List.map_cons, ih]; rfl
def resArcs (n : Nat) (c p : Nat → Nat → Int) (i j : Nat) : List Arc := (i, n + j, c i j) :: if 0 < p i j then [(n + j, i, 0 - c i j)] else []
theorem resArcs_len (n : Nat) (c p : Nat → Nat → Int) (i j : Nat) : (resArcs n c p i j).length ≤ 2 := by
  unfold resArcs
  split <;> simp
/-- the entries that arcs raise, and those that they lower -/
def raisL (n : Nat) (E : List (Nat × Nat)) : List (Nat × Nat) := E.filterMap fun a => if a.1 < n then some (a.1, a.2 - n) else none
def lowrL (n : Nat) (E : List (Nat × Nat)) : List (Nat × Nat) := E.filterMap fun a => if n ≤ a.1 then some (a.2, a.1 - n) else none
theorem steps_get : ∀ {c : List Nat} {i : Nat} {x y : Nat}, c[i]? = some x → c[i + 1]? = some y → (EH.steps c)[i]? = some (x, y)
  | [], i, x, y, h, _ => by simp at h
  | [a], i, x, y, _, h => by simp at h
  | a :: b :: l, 0, x, y, h1, h2 => by
    cases h1
    cases h2
    rfl
  | a :: b :: l, i + 1, x, y, h1, h2 => steps_get (c := b :: l) (i := i) h1 h2
theorem steps_len : ∀ c : List Nat, (EH.steps c).length = c.length - 1
  | [] => rfl
  | [a] => rfl
  | a :: b :: l => by
    show (EH.steps (b :: l)).length + 1 = _
    rw [steps_len (b :: l)]
    simp
/-- v is added at each of the entries -/
def addAt (v : Int) (p : Nat → Nat → Int) (y : Nat × Nat) : Nat → Nat → Int := fun i j => if i = y.1 ∧ j = y.2 then p i j + v else p i j
def adds (v : Int) (l : List (Nat × Nat)) (p : Nat → Nat → Int) : Nat → Nat → Int := l.foldl (addAt v) p
theorem lowrL_lt {n : Nat} {E : List (Nat × Nat)} (hB : EH.Bip n E) {y : Nat × Nat} (h : y ∈ lowrL n E) : y.1 < n ∧ y.2 < n := by
  obtain ⟨a, ha, e⟩ := List.mem_filterMap.mp h
  have := hB a ha
  split at e
  · cases e
    dsimp only
    omega
  · cases e
/-- the places at which something stands above 0 -/
def posL (n : Nat) (w : Nat → Int) : List Nat := (List.range n).filter fun j => decide (0 < w j)
theorem posL_mem {n : Nat} {w : Nat → Int} {j : Nat} : j ∈ posL n w ↔ j < n ∧ 0 < w j := by
  unfold posL
  rw [List.mem_filter, List.mem_range, decide_eq_true_eq]
theorem posL_succ (n : Nat) (w : Nat → Int) : posL (n + 1) w = posL n w ++ if 0 < w n then [n] else [] := by
  unfold posL
  rw [List.range_succ, List.filter_append]
  congr 1
  by_cases c : 0 < w n
  · rw [if_pos c, List.filter_cons_of_pos (by simpa using c)]
    rfl
  · rw [if_neg c, List.filter_cons_of_neg (by simpa using c)]
    rfl
theorem posL_len (n : Nat) (w : Nat → Int) : (posL n w).length ≤ n := by
  have := List.length_filter_le (fun j => decide (0 < w j)) (List.range n)
  rw [List.length_range] at this
  exact this
/-- what a search from the rows with something left finds -/
abbrev found (n : Nat) (c p : Nat → Nat → Int) (L : Nat → Int) : BF := bfIter (gridOf (resArcs n c p) n n 0) (posL n L) (2 * n)
structure Way (n : Nat) (c p : Nat → Nat → Int) (L : Nat → Int) (i j : Nat) (ch : List Nat) : Prop where
  lt : i < n
  chain : Chain (found n c p L).2 (2 * n) ch
  head : ch[0]? = some (n + j)
  last : ch.getLast? = some i
  bip : EH.Bip n (EH.steps ch.reverse)
  len : ch.length ≤ 100
abbrev Near (n : Nat) (c p : Nat → Nat → Int) (L W : Nat → Int) (j : Nat) : Prop := ∀ k, k < n → 0 < W k → (found n c p L).1 (n + j) ≤ (found n c p L).1 (n + k)
structure Least (n : Nat) (p : Nat → Nat → Int) (L W : Nat → Int) (i j : Nat) (ch : List Nat) (v : Int) : Prop where
  left : v ≤ L i
  want : v ≤ W j
  path : ∀ y ∈ lowrL n (EH.steps ch.reverse), v ≤ p y.1 y.2
  ex : v = L i ∨ v = W j ∨ ∃ y ∈ lowrL n (EH.steps ch.reverse), v = p y.1 y.2
def less (f : Nat → Int) (i : Nat) (v : Int) : Nat → Int := fun k => if k = i then f k - v else f k
/-- what the search's loop keeps -/
structure Run (n : Nat) (c : Nat → Nat → Int) (J : (Nat → Nat → Int) → (Nat → Int) → (Nat → Int) → Prop) : Prop where
  some_ : ∀ p L W, J p L W → 0 < EH.S n L → ∃ j, j < n ∧ 0 < W j
  way : ∀ p L W, J p L W → 0 < EH.S n L → ∀ j, j < n → 0 < W j → Near n c p L W j → ∃ i ch, Way n c p L i j ch
  step : ∀ p L W, J p L W → 0 < EH.S n L → ∀ i j ch v, j < n → 0 < W j → Way n c p L i j ch → Least n p L W i j ch v → J (EH.along n v (EH.steps ch.reverse) p) (less L i v) (less W j v) ∧ 0 < v
theorem S_less {L : Nat → Int} {i : Nat} {v : Int} : ∀ {n : Nat}, EH.S n (less L i v) = if i < n then EH.S n L - v else EH.S n L
  | 0 => rfl
  | n + 1 => by
    show EH.S n (less L i v) + less L i v n = _
    rw [S_less (n := n)]
    show _ = if i < n + 1 then (EH.S n L + L n) - v else EH.S n L + L n
    have e : less L i v n = if n = i then L n - v else L n := rfl
    rw [e]
    by_cases c : i < n
    · have h1 : i < n + 1 := by omega
      have h2 : ¬ n = i := by omega
      rw [if_pos c, if_pos h1, if_neg h2]
      omega
    · rw [if_neg c]
      by_cases d : n = i
      · have h1 : i < n + 1 := by omega
        rw [if_pos d, if_pos h1]
        omega
      · have h1 : ¬ i < n + 1 := by omega
        rw [if_neg d, if_neg h1]
/-- where one change behind the place at leads -/
def nxt (n : Nat) (T : Nat → Nat → Bool) (p : Nat → Nat → Int) (at_ : Nat) (x : Nat) : List Nat :=
  if x < n then ((List.range n).filter fun j => T x j && decide (at_ < x * n + j)).map (n + ·) else (List.range n).filter fun i => decide (0 < p i (x - n)) && decide (at_ < i * n + (x - n))
theorem filter_len (f : Nat → Bool) (n : Nat) : ((List.range n).filter f).length ≤ n := by
  have := List.length_filter_le f (List.range n)
  rw [List.length_range] at this
  exact this
theorem nxt_lt {n : Nat} {T : Nat → Nat → Bool} {p : Nat → Nat → Int} {at_ x v : Nat} (h : v ∈ nxt n T p at_ x) : v < 2 * n := by
  unfold nxt at h
  split at h
  · obtain ⟨j, hj, rfl⟩ := List.mem_map.mp h
    have := List.mem_range.mp (List.mem_filter.mp hj).1
    omega
  · have := List.mem_range.mp (List.mem_filter.mp h).1
    omega
theorem nxt_len {n : Nat} {T : Nat → Nat → Bool} {p : Nat → Nat → Int} {at_ x : Nat} : (nxt n T p at_ x).length ≤ n := by
  unfold nxt
  split
  · rw [List.length_map]
    exact filter_len _ _
  · exact filter_len _ _
theorem steps_mem : ∀ {l : List Nat} {y : Nat × Nat}, y ∈ EH.steps l → ∃ k, l[k]? = some y.1 ∧ l[k + 1]? = some y.2
  | [], y, h => by simp [EH.steps] at h
  | [a], y, h => by simp [EH.steps] at h
  | a :: b :: l, y, h => by
    rcases List.mem_cons.mp (show y ∈ (a, b) :: EH.steps (b :: l) from h) with z | z
    · exact ⟨0, by rw [z]; rfl, by rw [z]; rfl⟩
    · obtain ⟨k, h1, h2⟩ := steps_mem z
      exact ⟨k + 1, h1, h2⟩
/-- a way back, or the set that is closed -/
def WayB (nx : Nat → List Nat) (b i : Nat) (c : List Nat) : Prop :=
  (c = [] ∧ ∃ ns par, EH.Bfs nx b ns par ∧ EH.Told nx ns ns.length ∧ i ∉ ns) ∨ (c ≠ [] ∧ c.head? = some b ∧ c.getLast? = some i ∧ c.Nodup ∧ c.length ≤ 100 ∧ ∀ y ∈ EH.steps c, y.2 ∈ nx y.1)
theorem nxt_bip {n : Nat} {T : Nat → Nat → Bool} {p : Nat → Nat → Int} {at_ x v : Nat} (hx : x < 2 * n) (h : v ∈ nxt n T p at_ x) : (x < n ∧ n ≤ v ∧ v < 2 * n) ∨ (n ≤ x ∧ x < 2 * n ∧ v < n) := by
  unfold nxt at h
  split at h
  · rename_i c
    obtain ⟨j, hj, rfl⟩ := List.mem_map.mp h
    have := List.mem_range.mp (List.mem_filter.mp hj).1
    omega
  · rename_i c
    have := List.mem_range.mp (List.mem_filter.mp h).1
    omega
theorem way_lt {n : Nat} {T : Nat → Nat → Bool} {p : Nat → Nat → Int} {at_ b : Nat} (hb : b < 2 * n) {c : List Nat} (h0 : c.head? = some b) (h : ∀ y ∈ EH.steps c, y.2 ∈ nxt n T p at_ y.1) : ∀ x ∈ c, x < 2 * n := by
  intro x hx
  obtain ⟨k, hk⟩ := List.getElem?_of_mem hx
  cases k with
  | zero =>
    rw [List.head?_eq_getElem?] at h0
    rw [h0] at hk
    cases hk
    exact hb
  | succ k =>
    have hk1 : k + 1 < c.length := (List.getElem?_eq_some_iff.mp hk).1
    obtain ⟨y, hy⟩ : ∃ y, c[k]? = some y := ⟨_, List.getElem?_eq_getElem (by omega)⟩
    exact nxt_lt (h _ (List.mem_of_getElem? (steps_get hy hk)))
theorem way_bip {n : Nat} {T : Nat → Nat → Bool} {p : Nat → Nat → Int} {at_ b : Nat} (hb : b < 2 * n) {c : List Nat} (h0 : c.head? = some b) (h : ∀ y ∈ EH.steps c, y.2 ∈ nxt n T p at_ y.1) : EH.Bip n (EH.steps c) :=
  fun y hy => nxt_bip (way_lt hb h0 h _ (EH.steps_fst hy)) (h y hy)
theorem way_low {n b i : Nat} {c : List Nat} (hb : n ≤ b) (hi : i < n) (h0 : c.head? = some b) (h1 : c.getLast? = some i) : 0 < (lowrL n (EH.steps c)).length := by
  match c, h0, h1 with
  | [x], h0, h1 =>
    have e0 : x = b := Option.some.inj h0
    have e1 : x = i := Option.some.inj h1
    omega
  | x :: y :: l, h0, h1 =>
    cases h0
    refine List.length_pos_of_mem (a := (y, b - n)) (List.mem_filterMap.mpr ⟨(b, y), List.mem_cons_self, ?_⟩)
    exact if_pos hb
/-- what the raising of one entry keeps; M: what the entry never passes -/
structure Rse (n at_ : Nat) (T : Nat → Nat → Bool) (J : (Nat → Nat → Int) → Prop) (M : Int) : Prop where
  step : ∀ p, J p → ∀ c v, c ≠ [] → WayB (nxt n T p at_) (n + at_ % n) (at_ / n) c → (∃ y ∈ lowrL n (EH.steps c), v = p y.1 y.2) → (∀ y ∈ lowrL n (EH.steps c), v ≤ p y.1 y.2) →
    J (addAt v (EH.along n v (EH.steps c) p) (at_ / n, at_ % n)) ∧ p (at_ / n) (at_ % n) < addAt v (EH.along n v (EH.steps c) p) (at_ / n, at_ % n) (at_ / n) (at_ % n)
  bound : ∀ p, J p → p (at_ / n) (at_ % n) ≤ M
/-- what the walk through all entries keeps -/
structure Gre (n : Nat) (T : Nat → Nat → Bool) (J JJ : Nat → (Nat → Nat → Int) → Prop) (M : Int) : Prop where
  skip : ∀ at_ p, at_ < n * n → T (at_ / n) (at_ % n) = false → J at_ p → J (at_ + 1) p
  into : ∀ at_ p, at_ < n * n → T (at_ / n) (at_ % n) = true → J at_ p → JJ at_ p
  rse : ∀ at_, at_ < n * n → T (at_ / n) (at_ % n) = true → Rse n at_ T (JJ at_) M
  out : ∀ at_ p, at_ < n * n → T (at_ / n) (at_ % n) = true → JJ at_ p → WayB (nxt n T p at_) (n + at_ % n) (at_ / n) [] → J (at_ + 1) p
/-- a matrix of fractions by its entries -/
abbrev XF (n : Nat) (x : Nat → Nat → Frac) : List (List Frac) := (List.range n).map fun i => (List.range n).map fun j => x i j
def costs_ (n : Nat) (c : Nat → Nat → Int) (x : Nat → Nat → Frac) : List Frac := (Sr80.pairs n).map fun y => Sr58.times (x y.1 y.2) ⟨c y.1 y.2, 1⟩
/-- what a search needs of two distributions: their amounts over the common denominator -/
structure Amts (n : Nat) (xs ys : List Frac) (D : Nat) (L W : Nat → Int) : Prop where
  lx : xs.length = n
  ly : ys.length = n
  pos : 0 < D
  lt : D < 2 ^ 4400
  den : lcmD (xs ++ ys) = D
  sz : ∀ x ∈ xs ++ ys, Sz x ∧ x.d ∣ D
  left : amountsI D xs = (List.range n).map L
  want : amountsI D ys = (List.range n).map W
/-- the cost's fractions stay small -/
structure CostOk (n : Nat) (c : Nat → Nat → Int) (x : Nat → Nat → Frac) : Prop where
  sz : ∀ i j, i < n → j < n → Sz (x i j) ∧ Sz ⟨c i j, 1⟩
  pr : ∀ y ∈ costs_ n c x, Sz y
  ps : ∀ i, i ≤ (costs_ n c x).length → Sz (((costs_ n c x).take i).foldl Sr58.plus Sr66.zero)
abbrev JT := (Nat → Nat → Int) → (Nat → Int) → (Nat → Int) → Prop
/-- the plan with which the search ends -/
def Ends_ (n : Nat) (J : JT) (p : Nat → Nat → Int) : Prop := ∃ L W, J p L W ∧ EH.S n L ≤ 0
abbrev potL (n : Nat) (c p : Nat → Nat → Int) : Nat → Int := (bfIter (gridOf (bndArcs c p) n n 0) [0] n).1
def valP (u : Nat → Int) (x y : Nat → Frac) : Nat → Frac
  | 0 => Sr66.zero
  | i + 1 => Sr58.plus (valP u x y i) (Sr58.times ⟨u i, 1⟩ (Sr66.minus (y i) (x i)))
structure ValOk (n : Nat) (u : Nat → Int) (x y : Nat → Frac) : Prop where
  sx : ∀ i, i < n → Sz (x i)
  sy : ∀ i, i < n → Sz (y i)
  su : ∀ i, i < n → Sz ⟨u i, 1⟩
  sm : ∀ i, i < n → Sz (Sr66.minus (y i) (x i))
  st : ∀ i, i < n → Sz (Sr58.times ⟨u i, 1⟩ (Sr66.minus (y i) (x i)))
  sp : ∀ i, i < n → Sz (valP u x y i)
structure TotOk (xs : List Frac) : Prop where
  sz : ∀ x ∈ xs, Sz x
  ps : ∀ i, i ≤ xs.length → Sz ((xs.take i).foldl Sr58.plus Sr66.zero)
def rowsP (n : Nat) (x : Nat → Nat → Frac) : List Frac := (List.range n).map fun i => Sr58.total ((List.range n).map fun j => x i j)
def colsP (n : Nat) (x : Nat → Nat → Frac) : List Frac := (List.range n).map fun j => Sr58.total ((List.range n).map fun i => x i j)
/-- an entry of a composition -/
def compP (n : Nat) (x y : Nat → Nat → Frac) (m : Nat → Frac) (i k : Nat) : List Frac := (posL n fun j => (m j).n).map fun j => Sr66.over (Sr58.times (x i j) (y j k)) (m j)
structure CompOk (n : Nat) (x y : Nat → Nat → Frac) (m : Nat → Frac) : Prop where
  sx : ∀ i j, i < n → j < n → Sz (x i j)
  sy : ∀ i j, i < n → j < n → Sz (y i j)
  sm : ∀ j, j < n → Sz (m j)
  st : ∀ i j k, i < n → j < n → k < n → Sz (Sr58.times (x i j) (y j k))
  tot : ∀ i k, i < n → k < n → TotOk (compP n x y m i k)
def firstP (n : Nat) : List Frac := ⟨1, 1⟩ :: List.replicate (n - 1) ⟨0, 1⟩
def mapG (x : Nat → Frac) (ts : Nat → Nat) : Nat → Nat → Frac
  | 0, _ => ⟨0, 1⟩
  | i + 1, k => if k = ts i then Sr58.plus (mapG x ts i k) (x i) else mapG x ts i k
end EW
end

/-! ## EhFar -/
section
set_option autoImplicit false
set_option linter.all false
/-! The specification's distances, and those of the program. Core Lean and the specification's modules. -/
namespace EH
open EW (stepL thr dstP dstP_succ)
open Sr82 (Ways way farStep rounds farFrom far hangs dist dAt)

theorem WL.app {R : Nat → Nat → Int → Prop} : ∀ {l1 l2 : List Nat} {k : Nat} {c1 c2 : Int}, WL R (l1 ++ [k]) c1 → WL R (k :: l2) c2 → WL R (l1 ++ k :: l2) (c1 + c2)
  | [], l2, k, c1, c2, h1, h2 => by
    cases h1
    have : (0 : Int) + c2 = c2 := by omega
    rw [this]
    exact h2
  | [a], l2, k, c1, c2, h1, h2 => by
    cases h1 with
    | more h r =>
      rename_i c d
      cases h
      have e : (0 : Int) + d + c2 = c2 + d := by omega
      rw [e]
      exact .more h2 r
  | a :: b :: l1, l2, k, c1, c2, h1, h2 => by
    cases h1 with
    | more h r =>
      rename_i c d
      have := WL.app (l1 := b :: l1) h h2
      have e : c + d + c2 = (c + c2) + d := by omega
      rw [e]
      exact .more this r
theorem WL.join {R : Nat → Nat → Int → Prop} {l1 l2 : List Nat} {j k i : Nat} {c1 c2 : Int} (h1 : WL R (j :: l1) c1) (e1 : (j :: l1).getLast? = some k) (h2 : WL R (k :: l2) c2) (e2 : (k :: l2).getLast? = some i) :
    ∃ l, WL R (j :: l) (c1 + c2) ∧ (j :: l).getLast? = some i := by
  have ne : j :: l1 ≠ [] := by simp
  have hl : (j :: l1).getLast ne = k := by
    rw [List.getLast?_eq_some_getLast ne] at e1
    exact Option.some.inj e1
  have e := List.dropLast_concat_getLast ne
  rw [hl] at e
  rw [← e] at h1
  have h := WL.app h1 h2
  cases hd : (j :: l1).dropLast with
  | nil =>
    rw [hd] at e h
    have e : [k] = j :: l1 := e
    have : k = j := List.head_eq_of_cons_eq e
    subst this
    exact ⟨l2, h, e2⟩
  | cons a t =>
    rw [hd] at e h
    have e : a :: (t ++ [k]) = j :: l1 := e
    have : a = j := List.head_eq_of_cons_eq e
    subst this
    refine ⟨t ++ k :: l2, h, ?_⟩
    rw [show a :: (t ++ k :: l2) = (a :: t) ++ (k :: l2) from rfl, List.getLast?_append, e2]
    rfl
theorem WL.bound {R : Nat → Nat → Int → Prop} {B : Int} (h : ∀ u v d, R u v d → d ≤ B) : ∀ {l : List Nat} {v : Nat} {c : Int}, WL R (v :: l) c → c ≤ B * l.length
  | [], v, c, w => by
    cases w
    simp
  | u :: l, v, c, w => by
    cases w with
    | more w r =>
      have h1 := WL.bound h w
      have h2 := h _ _ _ r
      rw [List.length_cons, Int.natCast_add, Int.mul_add]
      omega

/-- an edge -/
def Edge (n : Nat) (f : Nat → Nat → Int) (u v : Nat) (d : Int) : Prop := u < n ∧ v < n ∧ 0 < f u v ∧ d = f u v
structure Fw (f : Nat → Nat → Int) (n m : Nat) (D : Nat → Nat → Int) : Prop where
  nn : ∀ i j, i < n → j < n → 0 ≤ D i j
  self : ∀ i, i < n → D i i = 0
  le : ∀ i j, i < n → j < n → D i j ≤ stepL f i j
  tri : ∀ i j k, i < n → j < n → k < m → D i j ≤ D i k + D k j
  real : ∀ i j, i < n → j < n → D i j < 1000 → ∃ l, WL (Edge n f) (j :: l) (D i j) ∧ (j :: l).getLast? = some i
theorem thr_le {f : Nat → Nat → Int} {k i j : Nat} : thr f k i j ≤ f i j ∧ thr f k i j ≤ f i k + f k j ∧ (thr f k i j = f i j ∨ thr f k i j = f i k + f k j) := by
  unfold thr
  split
  · omega
  · omega
theorem Fw.start {f : Nat → Nat → Int} {n : Nat} (hf : ∀ i j, i < n → j < n → f i j < 1000) : Fw f n 0 (stepL f) where
  nn := fun i j hi hj => by
    unfold stepL
    split
    · omega
    · split <;> omega
  self := fun i hi => if_pos rfl
  le := fun i j hi hj => Int.le_refl _
  tri := fun i j k _ _ hk => absurd hk (Nat.not_lt_zero _)
  real := fun i j hi hj h => by
    unfold stepL at h ⊢
    by_cases c : i = j
    · rw [if_pos c, c]
      exact ⟨[], .one j, rfl⟩
    · rw [if_neg c] at h ⊢
      by_cases d : 0 < f i j
      · rw [if_pos d] at h ⊢
        refine ⟨[i], ?_, rfl⟩
        have := WL.more (.one i) (show Edge n f i j (f i j) from ⟨hi, hj, d, rfl⟩)
        have e : (0 : Int) + f i j = f i j := by omega
        rw [e] at this
        exact this
      · rw [if_neg d] at h
        omega
theorem Fw.next {f D : Nat → Nat → Int} {n m : Nat} (hm : m < n) (h : Fw f n m D) : Fw f n (m + 1) (thr D m) where
  nn := fun i j hi hj => by
    have h1 := h.nn i j hi hj
    have h2 := h.nn i m hi hm
    have h3 := h.nn m j hm hj
    have := (thr_le (f := D) (k := m) (i := i) (j := j)).2.2
    omega
  self := fun i hi => by
    have h1 := h.self i hi
    have h2 := h.nn i m hi hm
    have h3 := h.nn m i hm hi
    have := thr_le (f := D) (k := m) (i := i) (j := i)
    omega
  le := fun i j hi hj => by
    have h1 := h.le i j hi hj
    have := thr_le (f := D) (k := m) (i := i) (j := j)
    omega
  tri := fun i j k hi hj hk => by
    have hkn : k < n := by omega
    have a1 := thr_le (f := D) (k := m) (i := i) (j := j)
    have a2 := thr_le (f := D) (k := m) (i := i) (j := k)
    have a3 := thr_le (f := D) (k := m) (i := k) (j := j)
    have b0 := h.self m hm
    have b1 := h.nn m k hm hkn
    have b2 := h.nn k m hkn hm
    rcases Nat.lt_or_ge k m with q | q
    · have c1 := h.tri i j k hi hj q
      have c2 := h.tri i m k hi hm q
      have c3 := h.tri m j k hm hj q
      omega
    · have : k = m := by omega
      subst this
      have d1 := thr_le (f := D) (k := k) (i := i) (j := k)
      omega
  real := fun i j hi hj hl => by
    have a1 := thr_le (f := D) (k := m) (i := i) (j := j)
    have b1 := h.nn i m hi hm
    have b2 := h.nn m j hm hj
    rcases a1.2.2 with e | e
    · rw [e] at hl ⊢
      exact h.real i j hi hj hl
    · rw [e] at hl ⊢
      obtain ⟨l1, w1, e1⟩ := h.real i m hi hm (by omega)
      obtain ⟨l2, w2, e2⟩ := h.real m j hm hj (by omega)
      rw [Int.add_comm]
      exact WL.join w2 e2 w1 e1
theorem fw_all {f : Nat → Nat → Int} {n : Nat} (hf : ∀ i j, i < n → j < n → f i j < 1000) : ∀ m, m ≤ n → Fw f n m (dstP f n m)
  | 0, _ => Fw.start hf
  | m + 1, h => by
    rw [dstP_succ]
    exact (fw_all hf m (by omega)).next (by omega)
/-- a walk is never shorter -/
theorem Fw.walk {f D : Nat → Nat → Int} {n : Nat} (h : Fw f n n D) : ∀ {l : List Nat} {i j : Nat} {c : Int}, i < n → j < n → WL (Edge n f) (j :: l) c → (j :: l).getLast? = some i → D i j ≤ c
  | [], i, j, c, hi, hj, w, e => by
    cases w
    have e' : j = i := by simpa using e
    subst e'
    have := h.self j hj
    omega
  | u :: l, i, j, c, hi, hj, w, e => by
    cases w with
    | more w r =>
      obtain ⟨r1, r2, r3, r4⟩ := r
      have e' : (u :: l).getLast? = some i := by simpa [List.getLast?_cons_cons] using e
      have h1 := h.walk hi r1 w e'
      have h2 := h.tri i j u hi hj r1
      have h3 := h.le u j r1 hj
      unfold stepL at h3
      by_cases q : u = j
      · rw [if_pos q] at h3
        omega
      · rw [if_neg q, if_pos r3] at h3
        omega
/-- the specification's rounds -/
def farO (g : Ways) (d : List (Option Nat)) (j i : Nat) : Option Int := match d.getD i none with
  | none => none
  | some x => if way g i j = 0 then none else some ((x : Int) + way g i j)
theorem farStep_at {n : Nat} {g : Ways} {d : List (Option Nat)} {j : Nat} (hj : j < n) :
    ((farStep n g d).getD j none).map Int.ofNat = (List.range n).foldl (fun m i => match farO g d j i with | none => m | some z => match m with | none => some z | some y => some (min y z)) ((d.getD j none).map Int.ofNat) := by
  unfold farStep
  rw [getD_map_range hj]
  have key : ∀ (l : List Nat) (m : Option Nat), (l.foldl (fun (m : Option Nat) i => match d.getD i none with
      | none => m
      | some x => if way g i j = 0 then m else match m with
        | none => some (x + way g i j)
        | some y => some (min y (x + way g i j))) m).map Int.ofNat = l.foldl (fun m i => match farO g d j i with | none => m | some z => match m with | none => some z | some y => some (min y z)) (m.map Int.ofNat) := by
    intro l
    induction l with
    | nil => intro m; rfl
    | cons i l ih =>
      intro m
      rw [List.foldl_cons, List.foldl_cons, ih]
      congr 1
      unfold farO
      cases d.getD i none with
      | none => rfl
      | some x =>
        dsimp only
        by_cases c : way g i j = 0
        · rw [if_pos c, if_pos c]
        · rw [if_neg c, if_neg c]
          cases m with
          | none => rfl
          | some y =>
            show some (Int.ofNat (min y (x + way g i j))) = some (min (Int.ofNat y) ((x : Int) + way g i j))
            congr 1
            simp only [Int.ofNat_eq_natCast]
            omega
  exact key _ _
theorem rounds_len {n : Nat} {g : Ways} : ∀ (k : Nat) (d : List (Option Nat)), d.length = n → (rounds n g k d).length = n
  | 0, d, h => h
  | k + 1, d, h => by
    show (rounds n g k (farStep n g d)).length = n
    refine rounds_len k _ ?_
    unfold farStep
    simp
theorem rounds_succ {n : Nat} {g : Ways} : ∀ (k : Nat) (d : List (Option Nat)), rounds n g (k + 1) d = farStep n g (rounds n g k d)
  | 0, d => rfl
  | k + 1, d => by
    show rounds n g (k + 1) (farStep n g d) = farStep n g (rounds n g k (farStep n g d))
    exact rounds_succ k _
abbrev wayI (g : Ways) (i j : Nat) : Int := (way g i j : Int)
/-- what is found is a walk, and no walk is shorter -/
theorem far_found {n : Nat} {g : Ways} {i : Nat} (hi : i < n) : (∀ j x, far n g i j = some x → j < n ∧ ∃ l, WL (Edge n (wayI g)) (j :: l) x ∧ (j :: l).getLast? = some i) ∧
    ∀ (l : List Nat) (j : Nat) (c : Int), WL (Edge n (wayI g)) (j :: l) c → (j :: l).getLast? = some i → ∃ x, far n g i j = some x ∧ (x : Int) ≤ c := by
  let d0 : List (Option Nat) := (List.range n).map fun j => if i = j then some 0 else none
  let L : Nat → Nat → Option Int := fun k x => ((rounds n g k d0).getD x none).map Int.ofNat
  have len : ∀ k, (rounds n g k d0).length = n := fun k => rounds_len k d0 (by simp [d0])
  have low : ∀ k x y, L k x = some y → x < n := fun k x y e => by
    rcases Nat.lt_or_ge x n with q | q
    · exact q
    · have e : ((rounds n g k d0).getD x none).map Int.ofNat = some y := e
      rw [List.getD_eq_getElem?_getD, List.getElem?_eq_none (by rw [len]; exact q)] at e
      cases e
  have next : ∀ k j, j < n → L (k + 1) j = (List.range n).foldl (fun m i => match farO g (rounds n g k d0) j i with | none => m | some z => match m with | none => some z | some y => some (min y z)) (L k j) := fun k j hj => by
    show ((rounds n g (k + 1) d0).getD j none).map Int.ofNat = _
    rw [rounds_succ, farStep_at hj]
  have h0 : ∀ v, v = i → AtMost (L 0 v) 0 := fun v e => by
    subst e
    show AtMost ((d0.getD v none).map Int.ofNat) 0
    rw [getD_map_range hi, if_pos rfl]
    exact ⟨0, rfl, Int.le_refl _⟩
  have stay : ∀ k v c, AtMost (L k v) c → AtMost (L (k + 1) v) c := fun k v c h => by
    have hv : v < n := by
      obtain ⟨y, e, _⟩ := h
      exact low k v y e
    rw [next k v hv]
    exact (fold_best _ _ _).1 c h
  have step : ∀ k u v x w, L k u = some x → Edge n (wayI g) u v w → AtMost (L (k + 1) v) (x + w) := fun k u v x w e r => by
    obtain ⟨hu, hv, hp, hw⟩ := r
    rw [next k v hv]
    refine (fold_best _ _ _).2.1 u (List.mem_range.mpr hu) (x + w) ?_
    have e : ((rounds n g k d0).getD u none).map Int.ofNat = some x := e
    unfold farO
    cases q : (rounds n g k d0).getD u none with
    | none => rw [q] at e; cases e
    | some y =>
      rw [q] at e
      have e : (y : Int) = x := Option.some.inj e
      dsimp only
      have hp : 0 < (way g u v : Int) := hp
      rw [if_neg (by omega), ← e, hw]
  have real : ∀ k v x, L k v = some x → ∃ l s, WL (Edge n (wayI g)) (v :: l) x ∧ (v :: l).getLast? = some s ∧ s = i := by
    intro k
    induction k with
    | zero =>
      intro v x e
      have hv := low 0 v x e
      have e : (d0.getD v none).map Int.ofNat = some x := e
      rw [getD_map_range hv] at e
      split at e
      · rename_i q
        have e := Option.some.inj e
        subst e
        exact ⟨[], v, .one v, rfl, q.symm⟩
      · cases e
    | succ k ih =>
      intro v x e
      have hv := low _ v x e
      rw [next k v hv] at e
      rcases (fold_best _ _ _).2.2 x e with q | ⟨u, hu, q⟩
      · exact ih v x q
      · have hu := List.mem_range.mp hu
        unfold farO at q
        cases t : (rounds n g k d0).getD u none with
        | none => rw [t] at q; cases q
        | some y =>
          rw [t] at q
          dsimp only at q
          by_cases c : way g u v = 0
          · rw [if_pos c] at q
            cases q
          · rw [if_neg c] at q
            have q := Option.some.inj q
            obtain ⟨l, s, w1, w2, w3⟩ := ih u y (by show ((rounds n g k d0).getD u none).map Int.ofNat = _; rw [t]; rfl)
            exact ⟨u :: l, s, by rw [← q]; exact .more w1 ⟨hu, hv, by show 0 < (way g u v : Int); omega, rfl⟩, by rw [List.getLast?_cons_cons]; exact w2, w3⟩
  have hL : ∀ j, L n j = (far n g i j).map Int.ofNat := fun j => rfl
  constructor
  · intro j x e
    have e2 : L n j = some (x : Int) := by rw [hL, e]; rfl
    obtain ⟨l, s, w1, w2, w3⟩ := real n j x e2
    exact ⟨low n j x e2, l, w1, by rw [w2, w3]⟩
  · intro l j c w e
    obtain ⟨y, e1, e2⟩ := rounds_all (L := L) (src := fun v => v = i) (pi := fun _ => 0) (N := n) (fun u v d r => by
        have h3 := r.2.2.1
        have h4 := r.2.2.2
        omega) (fun u v d r => ⟨r.1, r.2.1⟩) (fun v e => by rw [e]; exact hi) h0 stay step w e rfl
    rw [hL] at e1
    cases q : far n g i j with
    | none => rw [q] at e1; cases e1
    | some x =>
      rw [q] at e1
      have e1 := Option.some.inj e1
      have e1 : (x : Int) = y := e1
      exact ⟨x, rfl, by omega⟩

/-- a graph of the specification -/
structure WaysOk (n : Nat) (g : Ways) : Prop where
  len : g.length = n
  row : ∀ r ∈ g, r.length = n
  le : ∀ i j, i < n → j < n → way g i j ≤ 9
  self : ∀ i, i < n → way g i i = 0
  sym : ∀ i j, i < n → j < n → way g i j = way g j i
section
variable {n : Nat} {g : Ways} (hn : n ≤ 6) (ok : WaysOk n g)
include hn ok
theorem far_le {i j x : Nat} (hi : i < n) (h : far n g i j = some x) : x ≤ 45 := by
  obtain ⟨hj, l, w, e⟩ := (far_found hi).1 j x h
  obtain ⟨l', c', q1, q2, q3, q4, q5⟩ := WL.short (pi := fun _ => 0) (fun u v d r => by
    have h3 := r.2.2.1
    have h4 := r.2.2.2
    omega) _ (Nat.le_refl _) w
  have hall : ∀ {l : List Nat} {v : Nat} {c : Int}, v < n → WL (Edge n (wayI g)) (v :: l) c → ∀ x ∈ v :: l, x < n := by
    intro l
    induction l with
    | nil =>
      intro v c hv _ x hx
      rw [List.mem_singleton.mp hx]
      exact hv
    | cons u l ih =>
      intro v c hv h x hx
      cases h with
      | more h1 h2 =>
        rcases List.mem_cons.mp hx with rfl | hx
        · exact hv
        · exact ih h2.1 h1 x hx
  have hlen := nodup_len n _ q3 (hall hj q1)
  obtain ⟨y, e2, hy⟩ := (far_found hi).2 l' j c' q1 (q4.trans e)
  rw [h] at e2
  have e2 := Option.some.inj e2
  have hb := WL.bound (R := Edge n (wayI g)) (B := 9) (fun u v d r => by
    have := ok.le u v r.1 r.2.1
    have h4 := r.2.2.2
    have : wayI g u v ≤ 9 := by
      show (way g u v : Int) ≤ 9
      omega
    omega) q1
  rw [List.length_cons] at hlen
  omega
theorem wayI_lt : ∀ i j, i < n → j < n → wayI g i j < 1000 := fun i j hi hj => by
  have := ok.le i j hi hj
  show (way g i j : Int) < 1000
  omega
theorem fw_dist : Fw (wayI g) n n (dstP (wayI g) n n) := fw_all (wayI_lt hn ok) n (Nat.le_refl _)
theorem far_some {i j x : Nat} (hi : i < n) (h : far n g i j = some x) : j < n ∧ dstP (wayI g) n n i j = x ∧ x ≤ 45 := by
  obtain ⟨hj, l, w, e⟩ := (far_found hi).1 j x h
  have h1 := far_le hn ok hi h
  have F := fw_dist hn ok
  have h2 := F.walk hi hj w e
  obtain ⟨l2, w2, e2⟩ := F.real i j hi hj (by omega)
  obtain ⟨y, e3, h3⟩ := (far_found hi).2 l2 j _ w2 e2
  rw [h] at e3
  have e3 := Option.some.inj e3
  exact ⟨hj, by omega, h1⟩
theorem far_none {i j : Nat} (hi : i < n) (hj : j < n) (h : far n g i j = none) : 1000 ≤ dstP (wayI g) n n i j := by
  rcases Int.lt_or_le (dstP (wayI g) n n i j) 1000 with q | q
  · obtain ⟨l2, w2, e2⟩ := (fw_dist hn ok).real i j hi hj q
    obtain ⟨y, e3, h3⟩ := (far_found hi).2 l2 j _ w2 e2
    rw [h] at e3
    cases e3
  · exact q
theorem dst_sym : ∀ m i j, m ≤ n → i < n → j < n → dstP (wayI g) n m i j = dstP (wayI g) n m j i
  | 0, i, j, _, hi, hj => by
    show stepL _ i j = stepL _ j i
    unfold stepL
    have e : wayI g i j = wayI g j i := by
      show (way g i j : Int) = way g j i
      rw [ok.sym i j hi hj]
    by_cases c : i = j
    · rw [c]
    · rw [if_neg c, if_neg (show ¬ j = i by omega), e]
  | m + 1, i, j, hm, hi, hj => by
    rw [dstP_succ]
    unfold thr
    rw [dst_sym m i j (by omega) hi hj, dst_sym m i m (by omega) hi (by omega), dst_sym m m j (by omega) (by omega) hj, Int.add_comm]
theorem hangs_is : hangs n g = true ↔ ∀ j, j < n → dstP (wayI g) n n 0 j < 1000 := by
  unfold hangs
  rw [List.all_eq_true]
  constructor
  · intro h j hj
    have h1 := h j (List.mem_range.mpr hj)
    cases e : far n g 0 j with
    | none => rw [e] at h1; cases h1
    | some x =>
      have := far_some hn ok (show 0 < n by omega) e
      omega
  · intro h j hj
    have hj := List.mem_range.mp hj
    have h1 := h j hj
    cases e : far n g 0 j with
    | none =>
      have := far_none hn ok (show 0 < n by omega) hj e
      omega
    | some x => rfl
/-- all about the distances of a graph that hangs together -/
structure Dists (n : Nat) (g : Ways) : Prop where
  eq : ∀ i j, i < n → j < n → (dAt (dist n g) i j : Int) = dstP (wayI g) n n i j
  le : ∀ i j, i < n → j < n → dAt (dist n g) i j ≤ 45
  metric : Metric n fun i j => (dAt (dist n g) i j : Int)
theorem dists_of (h : hangs n g = true) : Dists n g := by
  have h0 := (hangs_is hn ok).mp h
  have F := fw_dist hn ok
  have key : ∀ i j, i < n → j < n → ∃ x, far n g i j = some x := fun i j hi hj => by
    cases e : far n g i j with
    | some x => exact ⟨x, rfl⟩
    | none =>
      exfalso
      have h1 := far_none hn ok hi hj e
      have small : ∀ k, k < n → dstP (wayI g) n n 0 k ≤ 45 := fun k hk => by
        cases e2 : far n g 0 k with
        | none =>
          have := far_none hn ok (show 0 < n by omega) hk e2
          have := h0 k hk
          omega
        | some x =>
          have := far_some hn ok (show 0 < n by omega) e2
          omega
      have h2 := F.tri i j 0 hi hj (by omega)
      rw [dst_sym hn ok n i 0 (Nat.le_refl _) hi (by omega)] at h2
      have := small i hi
      have := small j hj
      omega
  have at_ : ∀ i j, i < n → j < n → dAt (dist n g) i j = (far n g i j).getD 0 := fun i j hi hj => by
    unfold dAt dist
    rw [getD_map_range hi, getD_map_range hj]
  have eq : ∀ i j, i < n → j < n → (dAt (dist n g) i j : Int) = dstP (wayI g) n n i j := fun i j hi hj => by
    obtain ⟨x, e⟩ := key i j hi hj
    rw [at_ i j hi hj, e]
    exact (far_some hn ok hi e).2.1.symm
  refine ⟨eq, fun i j hi hj => ?_, fun i hi => ?_, fun i j hi hj => by omega, fun i j k hi hj hk => ?_⟩
  · obtain ⟨x, e⟩ := key i j hi hj
    rw [at_ i j hi hj, e]
    exact (far_some hn ok hi e).2.2
  · rw [eq i i hi hi]
    exact F.self i hi
  · rw [eq i k hi hk, eq i j hi hj, eq j k hj hk]
    exact F.tri i k j hi hk hj
end
end EH
end

/-! ## EhBf -/
section
set_option autoImplicit false
set_option linter.all false
/-! The program's search for shortest paths. Core Lean alone. -/
namespace EH
open EW (BF bfStep bfRelax bfIter fupd Chain)

def fin_ (x : Int) : Option Int := if x < 1000000 then some x else none
theorem fin_at {x c : Int} : AtMost (fin_ x) c ↔ x < 1000000 ∧ x ≤ c := by
  unfold fin_
  constructor
  · rintro ⟨y, e, h⟩
    split at e
    · cases e
      exact ⟨by assumption, h⟩
    · cases e
  · rintro ⟨h1, h2⟩
    rw [if_pos h1]
    exact ⟨x, rfl, h2⟩
theorem fin_some {x y : Int} (h : fin_ x = some y) : x < 1000000 ∧ x = y := by
  unfold fin_ at h
  split at h
  · cases h
    exact ⟨by assumption, rfl⟩
  · cases h
/-- who comes behind a node -/
inductive Desc (pa : Nat → Int) (v : Nat) : Nat → Prop
  | self : Desc pa v v
  | of {x y : Nat} : pa x = (y : Int) → Desc pa v y → Desc pa v x
structure BInv (R : Nat → Nat → Int → Prop) (src : Nat → Prop) (st : BF) (K : Int) : Prop where
  real : ∀ v, st.1 v < 1000000 → ∃ t a, WL R (v :: t) (st.1 v) ∧ (v :: t).getLast? = some a ∧ src a
  le : ∀ v, st.1 v < 1000000 → st.1 v ≤ K
  pa : ∀ v, (st.2 v = -1 ∧ (st.1 v < 1000000 → src v ∧ st.1 v = 0)) ∨ ∃ (u : Nat) (d : Int), st.2 v = (u : Int) ∧ R u v d ∧ st.1 u < 1000000 ∧ st.1 v < 1000000 ∧ st.1 u + d ≤ st.1 v
  rank : ∃ r : Nat → Nat, ∀ v u : Nat, st.2 v = (u : Int) → r u < r v
section
variable {R : Nat → Nat → Int → Prop} {src : Nat → Prop} {pi : Nat → Int} {st : BF} {K : Int}
theorem bfStep_cases (st : BF) (y : Nat × Nat × Int) : bfStep st y = st ∨ (st.1 y.1 < 1000000 ∧ st.1 y.1 + y.2.2 < st.1 y.2.1 ∧ bfStep st y = (fupd st.1 y.2.1 (st.1 y.1 + y.2.2), fupd st.2 y.2.1 (y.1 : Int))) := by
  unfold bfStep
  by_cases c : st.1 y.1 < 1000000 ∧ st.1 y.1 + y.2.2 < st.1 y.2.1
  · exact Or.inr ⟨c.1, c.2, if_pos c⟩
  · exact Or.inl (if_neg c)
theorem bfStep_le (st : BF) (y : Nat × Nat × Int) (v : Nat) : (bfStep st y).1 v ≤ st.1 v := by
  rcases bfStep_cases st y with e | ⟨h1, h2, e⟩
  · rw [e]
    exact Int.le_refl _
  · rw [e]
    show (if v = y.2.1 then st.1 y.1 + y.2.2 else st.1 v) ≤ _
    split
    · rename_i c
      rw [c]
      omega
    · exact Int.le_refl _
theorem Desc.up (hp : ∀ u v d, R u v d → pi v ≤ pi u + d) (h : BInv R src st K) {v x : Nat} (q : Desc st.2 v x) : st.1 v - pi v ≤ st.1 x - pi x := by
  induction q with
  | self => exact Int.le_refl _
  | @of x y e _ ih =>
    rcases h.pa x with ⟨z, _⟩ | ⟨u, d, z1, z2, z3, z4, z5⟩
    · rw [z] at e
      omega
    · have : u = y := by
        rw [z1] at e
        omega
      subst this
      have := hp _ _ _ z2
      omega
open Classical in
theorem BInv.step (hp : ∀ u v d, R u v d → pi v ≤ pi u + d) (hc : ∀ u v d, R u v d → d ≤ 45) (hK0 : 0 ≤ K) (hK : K + 45 < 1000000) {y : Nat × Nat × Int} (hy : R y.1 y.2.1 y.2.2) (h : BInv R src st K) : BInv R src (bfStep st y) (K + 45) := by
  rcases bfStep_cases st y with e | ⟨h1, h2, e⟩
  · rw [e]
    exact ⟨h.real, fun v hv => by have := h.le v hv; omega, h.pa, h.rank⟩
  · obtain ⟨u, v, d⟩ := y
    dsimp only at hy h1 h2 e
    have huv : u ≠ v := fun z => by
      subst z
      have := hp _ _ _ hy
      omega
    have hd := hc _ _ _ hy
    have hu := h.le u h1
    have lv : ∀ x, (bfStep st (u, v, d)).1 x = if x = v then st.1 u + d else st.1 x := fun x => by rw [e]; rfl
    have pv : ∀ x, (bfStep st (u, v, d)).2 x = if x = v then (u : Int) else st.2 x := fun x => by rw [e]; rfl
    refine ⟨fun x hx => ?_, fun x hx => ?_, fun x => ?_, ?_⟩
    · rw [lv] at hx ⊢
      by_cases c : x = v
      · rw [if_pos c, c]
        obtain ⟨t, a, w, q1, q2⟩ := h.real u h1
        exact ⟨u :: t, a, .more w hy, by rw [List.getLast?_cons_cons]; exact q1, q2⟩
      · rw [if_neg c] at hx ⊢
        exact h.real x hx
    · rw [lv] at hx ⊢
      by_cases c : x = v
      · rw [if_pos c]
        omega
      · rw [if_neg c] at hx ⊢
        have := h.le x hx
        omega
    · rw [lv, pv]
      by_cases c : x = v
      · rw [if_pos c, if_pos c, c]
        refine Or.inr ⟨u, d, rfl, hy, ?_, by omega, ?_⟩
        · rw [lv, if_neg huv]
          exact h1
        · rw [lv, if_neg huv]
          omega
      · rw [if_neg c, if_neg c]
        rcases h.pa x with z | ⟨u', d', z1, z2, z3, z4, z5⟩
        · exact Or.inl z
        · refine Or.inr ⟨u', d', z1, z2, ?_, z4, ?_⟩
          · rw [lv]
            split <;> omega
          · rw [lv]
            split
            · rename_i c2
              rw [c2] at z5
              omega
            · exact z5
    · obtain ⟨r, hr⟩ := h.rank
      have nd : ¬ Desc st.2 v u := fun z => by
        have := z.up hp h
        have := hp _ _ _ hy
        omega
      refine ⟨fun x => if Desc st.2 v x then r x + r u + 1 else r x, fun x y hxy => ?_⟩
      rw [pv] at hxy
      dsimp only
      by_cases c : x = v
      · rw [if_pos c] at hxy
        have : u = y := by omega
        subst this
        rw [c, if_neg nd, if_pos .self]
        omega
      · rw [if_neg c] at hxy
        have h3 := hr x y hxy
        by_cases q : Desc st.2 v y
        · rw [if_pos q, if_pos (.of hxy q)]
          omega
        · have : ¬ Desc st.2 v x := fun z => by
            cases z with
            | self => exact c rfl
            | of e2 z2 =>
              rw [hxy] at e2
              have : y = _ := Int.ofNat.inj e2
              rw [this] at q
              exact q z2
          rw [if_neg q, if_neg this]
          exact h3
theorem BInv.mono {K' : Int} (h : BInv R src st K) (hK : K ≤ K') : BInv R src st K' := ⟨h.real, fun v hv => Int.le_trans (h.le v hv) hK, h.pa, h.rank⟩
theorem relax_le (l : List (Nat × Nat × Int)) : ∀ (st : BF) (v : Nat), (bfRelax l st).1 v ≤ st.1 v := by
  induction l with
  | nil => intro st v; exact Int.le_refl _
  | cons y l ih => intro st v; exact Int.le_trans (ih (bfStep st y) v) (bfStep_le st y v)
theorem BInv.relax (hp : ∀ u v d, R u v d → pi v ≤ pi u + d) (hc : ∀ u v d, R u v d → d ≤ 45) : ∀ {l : List (Nat × Nat × Int)} {st : BF} {K : Int}, (∀ y ∈ l, R y.1 y.2.1 y.2.2) → 0 ≤ K → K + 45 * l.length < 1000000 → BInv R src st K → BInv R src (bfRelax l st) (K + 45 * l.length)
  | [], st, K, _, _, _, h => h.mono (by simp)
  | y :: l, st, K, hl, h0, hK, h => by
    rw [List.length_cons, Int.natCast_add] at hK ⊢
    have h1 := h.step hp hc h0 (by omega) (hl y List.mem_cons_self)
    have h2 := BInv.relax hp hc (fun z hz => hl z (List.mem_cons_of_mem _ hz)) (by omega) (by omega) h1
    exact h2.mono (by omega)
/-- an arc is told in a round -/
theorem relax_prog (hp : ∀ u v d, R u v d → pi v ≤ pi u + d) (hc : ∀ u v d, R u v d → d ≤ 45) {y : Nat × Nat × Int} : ∀ {l : List (Nat × Nat × Int)} {st : BF} {K : Int}, (∀ y ∈ l, R y.1 y.2.1 y.2.2) → 0 ≤ K → K + 45 * l.length < 1000000 → BInv R src st K → y ∈ l → st.1 y.1 < 1000000 →
    (bfRelax l st).1 y.2.1 < 1000000 ∧ (bfRelax l st).1 y.2.1 ≤ st.1 y.1 + y.2.2
  | [], st, K, _, _, _, _, hm, _ => by simp at hm
  | z :: l, st, K, hl, h0, hK, h, hm, hy => by
    rw [List.length_cons, Int.natCast_add] at hK
    have h1 := h.step hp hc h0 (by omega) (hl z List.mem_cons_self)
    have hz := bfStep_le st z y.1
    rcases List.mem_cons.mp hm with e | e
    · subst e
      have h3 := relax_le l (bfStep st y) y.2.1
      have h3 : (bfRelax (y :: l) st).1 y.2.1 ≤ (bfStep st y).1 y.2.1 := h3
      have h4 : (bfStep st y).1 y.2.1 ≤ st.1 y.1 + y.2.2 := by
        rcases bfStep_cases st y with q | ⟨q1, q2, q⟩
        · rw [q]
          unfold bfStep at q
          by_cases c : st.1 y.1 < 1000000 ∧ st.1 y.1 + y.2.2 < st.1 y.2.1
          · rw [if_pos c] at q
            have q3 := congrArg (fun s => s.1 y.2.1) q
            have q3 : (if y.2.1 = y.2.1 then st.1 y.1 + y.2.2 else st.1 y.2.1) = st.1 y.2.1 := q3
            rw [if_pos rfl] at q3
            omega
          · omega
        · rw [q]
          show (if y.2.1 = y.2.1 then st.1 y.1 + y.2.2 else _) ≤ _
          rw [if_pos rfl]
          exact Int.le_refl _
      have := h.le _ hy
      have := hc _ _ _ (hl y List.mem_cons_self)
      omega
    · have := relax_prog hp hc (fun z hz => hl z (List.mem_cons_of_mem _ hz)) (by omega) (by omega) h1 e (by omega)
      have e2 : bfRelax (z :: l) st = bfRelax l (bfStep st z) := rfl
      rw [e2]
      omega
/-- behind all rounds -/
structure BDone (R : Nat → Nat → Int → Prop) (src : Nat → Prop) (st : BF) : Prop where
  inv : ∃ K : Int, K < 1000000 ∧ BInv R src st K
  shut : ∀ u v d, st.1 u < 1000000 → R u v d → st.1 v < 1000000 ∧ st.1 v ≤ st.1 u + d
  zero_ : ∀ v, src v → st.1 v ≤ 0
theorem bf_done {l : List (Nat × Nat × Int)} {begins : List Nat} {N : Nat} (hl : ∀ u v d, (u, v, d) ∈ l ↔ R u v d) (hp : ∀ u v d, R u v d → pi v ≤ pi u + d) (hc : ∀ u v d, R u v d → d ≤ 45) (hN : ∀ u v d, R u v d → u < N ∧ v < N)
    (hsN : ∀ v ∈ begins, v < N) (hK : 45 * (l.length * N : Nat) < (1000000 : Int)) : BDone R (· ∈ begins) (bfIter l begins N) := by
  have hl' : ∀ y ∈ l, R y.1 y.2.1 y.2.2 := fun y hy => (hl _ _ _).mp hy
  have h00 : BInv R (· ∈ begins) (bfIter l begins 0) 0 := by
    have e : ∀ v, (bfIter l begins 0).1 v = if v ∈ begins then 0 else 1000000 := fun v => rfl
    have e2 : ∀ v, (bfIter l begins 0).2 v = -1 := fun v => rfl
    refine ⟨fun v hv => ?_, fun v hv => ?_, fun v => Or.inl ⟨e2 v, fun hv => ?_⟩, ⟨fun _ => 0, fun v u h => ?_⟩⟩
    · rw [e] at hv ⊢
      by_cases c : v ∈ begins
      · rw [if_pos c]
        exact ⟨[], v, .one v, rfl, c⟩
      · rw [if_neg c] at hv
        omega
    · rw [e] at hv ⊢
      split at hv
      · rw [if_pos (by assumption)]
        exact Int.le_refl _
      · omega
    · rw [e] at hv ⊢
      split at hv
      · rw [if_pos (by assumption)]
        exact ⟨by assumption, rfl⟩
      · omega
    · rw [e2] at h
      omega
  have mulle : ∀ k, k ≤ N → l.length * k ≤ l.length * N := fun k hk => Nat.mul_le_mul_left _ hk
  have inv : ∀ k, k ≤ N → BInv R (· ∈ begins) (bfIter l begins k) (45 * (l.length * k : Nat)) := by
    intro k
    induction k with
    | zero => intro _; exact h00.mono (by omega)
    | succ k ih =>
      intro hk
      have h1 := ih (by omega)
      have h2 := mulle (k + 1) hk
      rw [Nat.mul_succ] at h2
      have h3 := h1.relax hp hc hl' (by omega) (by omega)
      rw [Nat.mul_succ]
      exact h3.mono (by omega)
  let L : Nat → Nat → Option Int := fun k v => fin_ ((bfIter l begins (min k N)).1 v)
  have le1 : ∀ k v, (bfIter l begins (k + 1)).1 v ≤ (bfIter l begins k).1 v := fun k v => relax_le l _ v
  have z0 : ∀ v, v ∈ begins → (bfIter l begins N).1 v ≤ 0 := fun v hv => by
    have : ∀ k, (bfIter l begins k).1 v ≤ 0 := by
      intro k
      induction k with
      | zero =>
        show (if v ∈ begins then (0 : Int) else 1000000) ≤ 0
        rw [if_pos hv]
        exact Int.le_refl _
      | succ k ih => exact Int.le_trans (le1 k v) ih
    exact this N
  have all : ∀ {t : List Nat} {v s : Nat} {c : Int}, WL R (v :: t) c → (v :: t).getLast? = some s → s ∈ begins → AtMost (fin_ ((bfIter l begins N).1 v)) c := by
    intro t v s c w e hs
    obtain ⟨l', c', q1, q2, q3, q4, q5⟩ := WL.short hp _ (Nat.le_refl _) w
    have hlt : ∀ {t : List Nat} {v : Nat} {c : Int}, WL R (v :: t) c → (v :: t).getLast? = some s → ∀ x ∈ v :: t, x < N := by
      intro t
      induction t with
      | nil =>
        intro v c _ e x hx
        have e' : v = s := by simpa using e
        subst e'
        rw [List.mem_singleton.mp hx]
        exact hsN _ hs
      | cons u l ih =>
        intro v c h e x hx
        cases h with
        | more h1 h2 =>
          have e' : (u :: l).getLast? = some s := by simpa [List.getLast?_cons_cons] using e
          rcases List.mem_cons.mp hx with rfl | hx
          · exact (hN _ _ _ h2).2
          · exact ih h1 e' x hx
    have hlen := nodup_len N _ q3 (hlt q1 (q4.trans e))
    have key : ∀ {t : List Nat} {v : Nat} {c : Int} (k : Nat), k ≤ N → WL R (v :: t) c → (v :: t).getLast? = some s → t.length ≤ k → (bfIter l begins k).1 v < 1000000 ∧ (bfIter l begins k).1 v ≤ c := by
      intro t
      induction t with
      | nil =>
        intro v c k hk w e _
        cases w
        have e' : v = s := by simpa using e
        subst e'
        have : ∀ k, (bfIter l begins k).1 v ≤ 0 := by
          intro k
          induction k with
          | zero =>
            show (if v ∈ begins then (0 : Int) else 1000000) ≤ 0
            rw [if_pos hs]
            exact Int.le_refl _
          | succ k ih => exact Int.le_trans (le1 k v) ih
        have := this k
        omega
      | cons u t ih =>
        intro v c k hk w e hlen
        cases k with
        | zero => simp at hlen
        | succ k =>
          cases w with
          | more w r =>
            have e' : (u :: t).getLast? = some s := by simpa [List.getLast?_cons_cons] using e
            obtain ⟨a1, a2⟩ := ih k (by omega) w e' (by simpa using hlen)
            have h2 := mulle (k + 1) hk
            rw [Nat.mul_succ] at h2
            have := relax_prog (y := (u, v, _)) hp hc hl' (by omega) (by omega) (inv k (by omega)) ((hl _ _ _).mpr r) a1
            have e3 : bfIter l begins (k + 1) = bfRelax l (bfIter l begins k) := rfl
            rw [e3]
            dsimp only at this
            omega
    obtain ⟨a1, a2⟩ := key N (Nat.le_refl _) q1 (q4.trans e) (by simp only [List.length_cons] at hlen; omega)
    exact fin_at.mpr ⟨a1, by omega⟩
  refine ⟨⟨_, hK, inv N (Nat.le_refl _)⟩, fun u v d hu r => ?_, z0⟩
  obtain ⟨t, a, w, e, ha⟩ := (inv N (Nat.le_refl _)).real u hu
  exact fin_at.mp (all (WL.more w r) (by simpa [List.getLast?_cons_cons] using e) ha)
/-- each arc to a node from the one before it is tight -/
theorem BDone.arc (h : BDone R src st) {v u : Nat} (e : st.2 v = (u : Int)) : ∃ d, R u v d ∧ st.1 u < 1000000 ∧ st.1 v < 1000000 ∧ st.1 v = st.1 u + d := by
  obtain ⟨K, _, inv⟩ := h.inv
  rcases inv.pa v with ⟨z, _⟩ | ⟨u', d, z1, z2, z3, z4, z5⟩
  · rw [z] at e
    omega
  · have : u' = u := by omega
    subst this
    have := h.shut _ _ _ z3 z2
    exact ⟨d, z2, z3, z4, by omega⟩
theorem BDone.chain (h : BDone R src st) {N : Nat} (hN : ∀ u v d, R u v d → u < N ∧ v < N) {x : Nat} (hx : x < N) (hfin : st.1 x < 1000000) : ∃ ch a, Chain st.2 N ch ∧ ch[0]? = some x ∧ ch.getLast? = some a ∧ src a := by
  obtain ⟨K, _, inv⟩ := h.inv
  obtain ⟨r, hr⟩ := inv.rank
  have key : ∀ k x, r x ≤ k → x < N → st.1 x < 1000000 → ∃ ch a, Chain st.2 N ch ∧ ch[0]? = some x ∧ ch.getLast? = some a ∧ src a := by
    intro k
    induction k with
    | zero =>
      intro x hk hx hf
      rcases inv.pa x with ⟨z, z2⟩ | ⟨u, d, z1, _⟩
      · refine ⟨[x], x, ⟨fun v hv => by rw [List.mem_singleton.mp hv]; exact hx, fun i v u h1 h2 => by simp at h2, fun i v h1 h2 => ?_⟩, rfl, rfl, (z2 hf).1⟩
        cases i with
        | zero =>
          cases h1
          omega
        | succ i => simp at h1
      · have := hr _ _ z1
        omega
    | succ k ih =>
      intro x hk hx hf
      rcases inv.pa x with ⟨z, z2⟩ | ⟨u, d, z1, z2, z3, z4, z5⟩
      · refine ⟨[x], x, ⟨fun v hv => by rw [List.mem_singleton.mp hv]; exact hx, fun i v u h1 h2 => by simp at h2, fun i v h1 h2 => ?_⟩, rfl, rfl, (z2 hf).1⟩
        cases i with
        | zero =>
          cases h1
          omega
        | succ i => simp at h1
      · have hru := hr _ _ z1
        obtain ⟨ch, a, c1, c2, c3, c4⟩ := ih u (by omega) (hN _ _ _ z2).1 z3
        cases ch with
        | nil => simp at c2
        | cons w t =>
          have : w = u := by simpa using c2
          subst this
          refine ⟨x :: w :: t, a, ⟨fun v hv => ?_, fun i v u' h1 h2 => ?_, fun i v h1 h2 => ?_⟩, rfl, by rw [List.getLast?_cons_cons]; exact c3, c4⟩
          · rcases List.mem_cons.mp hv with q | q
            · rw [q]
              exact hx
            · exact c1.lt v q
          · cases i with
            | zero =>
              cases h1
              cases h2
              exact z1
            | succ i => exact c1.next i v u' h1 h2
          · cases i with
            | zero => simp at h2
            | succ i => exact c1.last i v h1 h2
  exact key _ x (Nat.le_refl _) hx hfin
/-- a chain meets no node twice -/
theorem BDone.nodup (h : BDone R src st) {N : Nat} {ch : List Nat} (c : Chain st.2 N ch) : ch.Nodup := by
  obtain ⟨K, _, inv⟩ := h.inv
  obtain ⟨r, hr⟩ := inv.rank
  have dec : ∀ (k i : Nat) (v w : Nat), ch[i]? = some v → ch[i + k + 1]? = some w → r w < r v := by
    intro k
    induction k with
    | zero =>
      intro i v w h1 h2
      exact hr _ _ (c.next i v w h1 h2)
    | succ k ih =>
      intro i v w h1 h2
      have hlt := (List.getElem?_eq_some_iff.mp h2).1
      obtain ⟨u, hu⟩ : ∃ u, ch[i + k + 1]? = some u := ⟨_, List.getElem?_eq_getElem (by omega)⟩
      have a1 := ih i v u h1 hu
      have a2 := hr _ _ (c.next (i + k + 1) u w hu h2)
      omega
  rw [List.nodup_iff_pairwise_ne, List.pairwise_iff_getElem]
  intro i j hi hj hij e
  have := dec (j - i - 1) i ch[i] ch[j] (List.getElem?_eq_getElem hi) (by
    have : i + (j - i - 1) + 1 = j := by omega
    rw [this]
    exact List.getElem?_eq_getElem hj)
  rw [e] at this
  exact absurd this (Nat.lt_irrefl _)
end
end EH
end

/-! ## EhRun -/
section
set_option autoImplicit false
set_option linter.all false
/-! The program's plans in whole numbers: its search keeps a part of a cheapest plan. Core Lean alone. -/
namespace EH
open EW (BF bfIter Chain gridOf gridOf_len gridOf_mem resArcs resArcs_len bndArcs bndArcs_len found Way Near Least less Run posL posL_mem lowrL steps_mem Ends_ potL)

theorem grid_mem {α : Type} {g : Nat → Nat → List α} {n i j : Nat} {y : α} (hi : i < n) (hj : j < n) (h : y ∈ g i j) : y ∈ gridOf g n n 0 := by
  unfold gridOf
  refine List.mem_append_left _ (List.mem_flatMap.mpr ⟨i, List.mem_range.mpr hi, List.mem_flatMap.mpr ⟨j, List.mem_range.mpr hj, h⟩⟩)
theorem mem_resArcs {n : Nat} {c p : Nat → Nat → Int} {u v : Nat} {d : Int} : (u, v, d) ∈ gridOf (resArcs n c p) n n 0 ↔ Res n c p u v d := by
  constructor
  · intro h
    obtain ⟨i, j, hi, hj, hm⟩ := gridOf_mem h
    unfold resArcs at hm
    rcases List.mem_cons.mp hm with e | hm
    · cases e
      exact .up hi hj
    · split at hm
      · have e := List.mem_singleton.mp hm
        have e1 := (Prod.mk.inj e).1
        have e2 := (Prod.mk.inj (Prod.mk.inj e).2).1
        have e3 := (Prod.mk.inj (Prod.mk.inj e).2).2
        have : d = - c i j := by omega
        subst e1 e2 this
        exact .down hi hj (by assumption)
      · simp at hm
  · intro r
    rcases r.inv with ⟨i, j, hi, hj, rfl, rfl, rfl⟩ | ⟨i, j, hi, hj, hp, rfl, rfl, rfl⟩
    · exact grid_mem hi hj List.mem_cons_self
    · refine grid_mem hi hj (List.mem_cons_of_mem _ ?_)
      rw [if_pos hp]
      have : -c v j = 0 - c v j := by omega
      rw [this]
      exact List.mem_singleton.mpr rfl
theorem mem_bndArcs {n : Nat} {c p : Nat → Nat → Int} {u v : Nat} {d : Int} : (u, v, d) ∈ gridOf (bndArcs c p) n n 0 ↔ Pr n c p u v d := by
  constructor
  · intro h
    obtain ⟨i, j, hi, hj, hm⟩ := gridOf_mem h
    unfold bndArcs at hm
    rcases List.mem_cons.mp hm with e | hm
    · cases e
      exact .up hi hj
    · split at hm
      · have e := List.mem_singleton.mp hm
        have e1 := (Prod.mk.inj e).1
        have e2 := (Prod.mk.inj (Prod.mk.inj e).2).1
        have e3 := (Prod.mk.inj (Prod.mk.inj e).2).2
        have : d = - c i j := by omega
        subst e1 e2 this
        exact .down hj hi (by assumption)
      · simp at hm
  · intro r
    cases r with
    | up hi hj => exact grid_mem hi hj List.mem_cons_self
    | down hi hj hp =>
      refine grid_mem hj hi (List.mem_cons_of_mem _ ?_)
      rw [if_pos hp]
      have : -c v u = 0 - c v u := by omega
      rw [this]
      exact List.mem_singleton.mpr rfl
theorem nodup_rev {l : List Nat} (h : l.Nodup) : l.reverse.Nodup := by
  rw [List.nodup_iff_pairwise_ne, List.pairwise_reverse]
  exact (List.nodup_iff_pairwise_ne.mp h).imp fun h z => h z.symm
theorem steps_rev {ch : List Nat} {y : Nat × Nat} (h : y ∈ steps ch.reverse) : ∃ k, ch[k]? = some y.2 ∧ ch[k + 1]? = some y.1 := by
  obtain ⟨k, h1, h2⟩ := steps_mem h
  have hlt := (List.getElem?_eq_some_iff.mp h2).1
  rw [List.length_reverse] at hlt
  rw [List.getElem?_reverse (by omega)] at h1 h2
  refine ⟨ch.length - 1 - (k + 1), h2, ?_⟩
  have : ch.length - 1 - (k + 1) + 1 = ch.length - 1 - k := by omega
  rw [this]
  exact h1
/-- costs that are not too great -/
structure Costs (n : Nat) (c : Nat → Nat → Int) : Prop where
  n0 : 0 < n
  n6 : n ≤ 6
  nn : ∀ i j, i < n → j < n → 0 ≤ c i j
  le : ∀ i j, i < n → j < n → c i j ≤ 45
section
variable {n : Nat} {c p : Nat → Nat → Int} (hc : Costs n c)
include hc
theorem res_le : ∀ u v d, Res n c p u v d → d ≤ 45 := fun u v d r => by
  rcases r.inv with ⟨i, j, hi, hj, _, _, e⟩ | ⟨i, j, hi, hj, _, _, _, e⟩
  · have := hc.le i j hi hj
    omega
  · have := hc.nn i j hi hj
    omega
theorem pr_le : ∀ u v d, Pr n c p u v d → d ≤ 45 := fun u v d r => by
  cases r with
  | up hi hj =>
    have := hc.le _ _ hi hj
    omega
  | down hi hj hp =>
    have := hc.nn _ _ hj hi
    omega
theorem found_done {f g : Nat → Int} (hP : Pots n c p f g) (L : Nat → Int) : BDone (Res n c p) (· ∈ posL n L) (found n c p L) := by
  refine bf_done (pi := potOf n f g) (fun u v d => mem_resArcs) hP.arc (res_le hc) (fun u v d r => r.lt) (fun v hv => by have := (posL_mem.mp hv).1; omega) ?_
  have h1 := gridOf_len (n := n) (resArcs_len n c p) n 0
  have h2 : n * (n * 2) ≤ 6 * (6 * 2) := Nat.mul_le_mul hc.n6 (Nat.mul_le_mul hc.n6 (Nat.le_refl _))
  have h3 : (gridOf (resArcs n c p) n n 0).length * (2 * n) ≤ 72 * 12 := Nat.mul_le_mul (by omega) (by have := hc.n6; omega)
  omega
theorem pot_done {u : Nat → Int} (hP : Pots n c p u u) : BDone (Pr n c p) (· ∈ [0]) (bfIter (gridOf (bndArcs c p) n n 0) [0] n) := by
  refine bf_done (pi := u) (fun u v d => mem_bndArcs) hP.prices (pr_le hc) (fun u v d r => by cases r <;> exact ⟨by assumption, by assumption⟩) (fun v hv => by rw [List.mem_singleton.mp hv]; exact hc.n0) ?_
  have h1 := gridOf_len (n := n) (bndArcs_len c p) n 0
  have h2 : n * (n * 2) ≤ 6 * (6 * 2) := Nat.mul_le_mul hc.n6 (Nat.mul_le_mul hc.n6 (Nat.le_refl _))
  have h3 : (gridOf (bndArcs c p) n n 0).length * n ≤ 72 * 6 := Nat.mul_le_mul (by omega) hc.n6
  omega
/-- the program's potentials are the prices -/
theorem pot_price {u : Nat → Int} (hP : Pots n c p u u) : IsPrice n c p (potL n c p) ∧ ∀ j, j < n → (potL n c p j).natAbs < 1000000 := by
  have h := pot_done hc hP
  have z0 := h.zero_ 0 (List.mem_singleton.mpr rfl)
  have all : ∀ j, j < n → potL n c p j < 1000000 ∧ potL n c p j ≤ 45 := fun j hj => by
    have h1 := h.shut 0 j _ (by omega) (.up hc.n0 hj)
    have h2 := hc.le 0 j hc.n0 hj
    exact ⟨h1.1, by show (bfIter (gridOf (bndArcs c p) n n 0) [0] n).1 j ≤ 45; omega⟩
  obtain ⟨K, _, inv⟩ := h.inv
  refine ⟨⟨fun j hj => ?_, fun i j w r => ?_, z0⟩, fun j hj => ?_⟩
  · obtain ⟨t, a, w, e, ha⟩ := inv.real j (all j hj).1
    exact ⟨t, w, by rw [e, List.mem_singleton.mp ha]⟩
  · have hi : i < n := by cases r <;> assumption
    exact (h.shut i j w (all i hi).1 r).2
  · have h1 := (all j hj).2
    have h2 := h.shut j 0 _ (all j hj).1 (.up hj hc.n0)
    have h3 := hc.le j 0 hj hc.n0
    -- u 0 is a walk from 0 to 0, so it is not below 0
    obtain ⟨t, a, w, e, ha⟩ := inv.real 0 (all 0 hc.n0).1
    rw [List.mem_singleton.mp ha] at e
    have h4 := WL.pot hP.prices w e
    show ((bfIter (gridOf (bndArcs c p) n n 0) [0] n).1 j).natAbs < 1000000
    have h5 : (bfIter (gridOf (bndArcs c p) n n 0) [0] n).1 j ≤ 45 := h1
    omega
theorem run_part {A B : Nat → Int} (eAB : S n A = S n B) : Run n c (Part n c A B) where
  some_ := fun p L W h h0 => by
    rw [h.same eAB] at h0
    exact S_pos_some h0
  way := fun p L W h h0 j hj hW near => by
    obtain ⟨f, g, hP⟩ := h.pot
    have D := found_done hc hP L
    obtain ⟨i, hi, hLi⟩ := S_pos_some h0
    have z := D.zero_ i (posL_mem.mpr ⟨hi, hLi⟩)
    have h1 := D.shut i (n + j) _ (by omega) (.up hi hj)
    obtain ⟨ch, a, c1, c2, c3, c4⟩ := D.chain (N := 2 * n) (fun u v d r => r.lt) (by omega) h1.1
    refine ⟨a, ch, (posL_mem.mp c4).1, c1, c2, c3, fun y hy => ?_, ?_⟩
    · obtain ⟨k, e1, e2⟩ := steps_rev hy
      obtain ⟨d, r, _⟩ := D.arc (c1.next k _ _ e1 e2)
      exact r.bip
    · have := nodup_len (2 * n) ch (D.nodup c1) c1.lt
      have := hc.n6
      omega
  step := fun p L W h h0 i j ch v hj hW way least => by
    obtain ⟨f, g, hP⟩ := h.pot
    have D := found_done hc hP L
    obtain ⟨i0, hi0, hLi0⟩ := S_pos_some h0
    have z := D.zero_ i0 (posL_mem.mpr ⟨hi0, hLi0⟩)
    obtain ⟨f1, g1, hP1, hval⟩ := Pots.anew hc.n0 (c := c) (p := p) (dist := fun x => fin_ ((found n c p L).1 x)) (fun j hj => by
      have h1 := D.shut i0 (n + j) _ (by omega) (.up hi0 hj)
      show (fin_ _).isSome = true
      unfold fin_
      rw [if_pos h1.1]
      rfl) (fun u v x d e r => by
      obtain ⟨e1, e2⟩ := fin_some e
      have h1 := D.shut u v d e1 r
      exact ⟨(found n c p L).1 v, by show fin_ _ = _; unfold fin_; rw [if_pos h1.1], by rw [← e2]; exact h1.2⟩)
    have pot : ∀ x, x < 2 * n → (found n c p L).1 x < 1000000 → potOf n f1 g1 x = (found n c p L).1 x := fun x hx hl => hval x _ hx (by show fin_ _ = _; unfold fin_; rw [if_pos hl])
    have ht : ∀ x ∈ steps ch.reverse, ∃ d, Res n c p x.1 x.2 d ∧ potOf n f1 g1 x.2 = potOf n f1 g1 x.1 + d := fun x hx => by
      obtain ⟨k, e1, e2⟩ := steps_rev hx
      obtain ⟨d, r, r1, r2, r3⟩ := D.arc (way.chain.next k _ _ e1 e2)
      refine ⟨d, r, ?_⟩
      rw [pot _ r.lt.2 r2, pot _ r.lt.1 r1, r3]
    -- the chain's end has something left
    have hLi : 0 < L i := by
      obtain ⟨K, _, inv⟩ := D.inv
      have hne : 0 < ch.length := (List.getElem?_eq_some_iff.mp way.head).1
      have e1 : ch[ch.length - 1]? = some i := by
        rw [← List.getLast?_eq_getElem?]
        exact way.last
      have e2 := way.chain.last (ch.length - 1) i e1 (List.getElem?_eq_none (by omega))
      have hfin : (found n c p L).1 i < 1000000 := by
        rcases Nat.lt_or_ge 1 ch.length with q | q
        · obtain ⟨u, hu⟩ : ∃ u, ch[ch.length - 2]? = some u := ⟨_, List.getElem?_eq_getElem (by omega)⟩
          obtain ⟨d, r, r1, r2, r3⟩ := D.arc (way.chain.next (ch.length - 2) u i hu (by
            have : ch.length - 2 + 1 = ch.length - 1 := by omega
            rw [this]
            exact e1))
          exact r1
        · have h1 : ch.length - 1 = 0 := by omega
          rw [h1, way.head] at e1
          have e1 := Option.some.inj e1
          have := way.lt
          omega
      rcases inv.pa i with ⟨_, z2⟩ | ⟨u, d, z1, _⟩
      · exact (posL_mem.mp (z2 hfin).1).2
      · omega
    have hlow : ∀ a b, a < n → b < n → (n + b, a) ∈ steps ch.reverse → 0 < p a b := fun a b ha hb hm => by
      obtain ⟨d, r, _⟩ := ht _ hm
      have r : Res n c p (n + b) a d := r
      rcases r.inv with ⟨i', j', hi', hj', q1, q2, q3⟩ | ⟨i', j', hi', hj', hp', q1, q2, q3⟩
      · omega
      · have e1 : j' = b := by omega
        rw [q2, ← e1]
        exact hp'
    have hmem : ∀ a b, (n + b, a) ∈ steps ch.reverse → (a, b) ∈ lowrL n (steps ch.reverse) := fun a b hm => by
      refine List.mem_filterMap.mpr ⟨_, hm, ?_⟩
      show (if n ≤ n + b then some (a, n + b - n) else none) = _
      rw [if_pos (Nat.le_add_right _ _), Nat.add_sub_cancel_left]
    have hv : 0 < v := by
      rcases least.ex with e | e | ⟨y, hy, e⟩
      · omega
      · omega
      · obtain ⟨a, ha, e2⟩ := List.mem_filterMap.mp hy
        have hb := way.bip a ha
        split at e2
        · cases e2
          dsimp only at e
          rw [e]
          refine hlow a.2 (a.1 - n) (by omega) (by omega) ?_
          have : n + (a.1 - n) = a.1 := by omega
          rw [this]
          exact ha
        · cases e2
    have hrev : ∃ l, ch.reverse = i :: l := by
      have e := way.last
      rw [← List.head?_reverse] at e
      cases hq : ch.reverse with
      | nil => rw [hq] at e; cases e
      | cons a l =>
        rw [hq] at e
        have : a = i := by simpa using e
        exact ⟨l, by rw [this]⟩
    obtain ⟨l, hl⟩ := hrev
    have hlast : (i :: l).getLast? = some (n + j) := by
      rw [← hl, List.getLast?_reverse, List.head?_eq_getElem?]
      exact way.head
    have hnb : ∀ k, nb (steps ch.reverse) k = (if i = k then 1 else 0) - (if n + j = k then 1 else 0) := fun k => by
      rw [hl]
      exact nb_steps hlast
    have hnd : (steps ch.reverse).Nodup := steps_nodup (nodup_rev (D.nodup way.chain))
    have hnext := h.next hP1 way.lt hj (Int.le_of_lt hv) least.left least.want hnd ht (fun a b ha hb hm => least.path (a, b) (hmem a b hm)) hnb
    have e1 : (fun k => if k = i then L i - v else L k) = less L i v := funext fun k => by
      unfold EW.less
      by_cases q : k = i
      · rw [if_pos q, if_pos q, q]
      · rw [if_neg q, if_neg q]
    have e2 : (fun k => if k = j then W j - v else W k) = less W j v := funext fun k => by
      unfold EW.less
      by_cases q : k = j
      · rw [if_pos q, if_pos q, q]
      · rw [if_neg q, if_neg q]
    rw [e1, e2] at hnext
    exact ⟨hnext, hv⟩
omit hc in
theorem part_start (hc : Costs n c) {A B : Nat → Int} (hA : ∀ i, i < n → 0 ≤ A i) (hB : ∀ i, i < n → 0 ≤ B i) : Part n c A B (fun _ _ => 0) A B where
  nn := fun _ _ _ _ => Int.le_refl _
  an := hA
  bn := hB
  row := fun i _ => by rw [S_zero n]; omega
  col := fun j _ => by rw [S_zero n]; omega
  pot := ⟨fun _ => 0, fun _ => 0, fun i j hi hj => by have := hc.nn i j hi hj; omega, fun i j _ _ h => absurd h (Int.lt_irrefl 0)⟩
omit hc in
theorem ends_opt {A B : Nat → Int} (eAB : S n A = S n B) (h : Ends_ n (Part n c A B) p) : Opt n c A B p := by
  obtain ⟨L, W, hP, hz⟩ := h
  have := S_nonneg hP.an
  exact hP.opt eAB (by omega)
end
end EH
end

/-! ## EhGre -/
section
set_option autoImplicit false
set_option linter.all false
/-! The program's way to the plan that is greatest entry by entry. Core Lean alone. -/
namespace EH
open EW (nxt WayB way_lt Rse Gre lowrL addAt)

def Sofar (n : Nat) (T : Nat → Nat → Bool) (A B : Nat → Int) (at_ : Nat) (p : Nat → Nat → Int) : Prop :=
  Adm n T A B p ∧ ∀ k c, k < n → c < n → k * n + c < at_ → T k c = true → Maxed n T A B p k c
theorem at_split {n at_ : Nat} (h : at_ < n * n) : at_ / n < n ∧ at_ % n < n ∧ at_ = at_ / n * n + at_ % n := by
  have hn : 0 < n := by
    rcases Nat.eq_zero_or_pos n with z | z
    · subst z
      omega
    · exact z
  refine ⟨Nat.div_lt_of_lt_mul h, Nat.mod_lt _ hn, ?_⟩
  have := Nat.div_add_mod at_ n
  rw [Nat.mul_comm] at this
  omega
theorem nxt_ok {n : Nat} {T : Nat → Nat → Bool} {p : Nat → Nat → Int} {at_ : Nat} {y : Nat × Nat} (hx : y.1 < 2 * n) (h : y.2 ∈ nxt n T p at_ y.1) :
    ArcOk n (fun k c => T k c = true ∧ at_ < k * n + c) (fun k c => 0 < p k c ∧ at_ < k * n + c) y := by
  obtain ⟨x, v⟩ := y
  dsimp only at hx h
  unfold EW.nxt at h
  split at h
  · rename_i q
    obtain ⟨j, hj, rfl⟩ := List.mem_map.mp h
    obtain ⟨h1, h2⟩ := List.mem_filter.mp hj
    rw [Bool.and_eq_true, decide_eq_true_eq] at h2
    exact Or.inl ⟨x, j, q, List.mem_range.mp h1, rfl, h2⟩
  · rename_i q
    obtain ⟨h1, h2⟩ := List.mem_filter.mp h
    rw [Bool.and_eq_true, decide_eq_true_eq, decide_eq_true_eq] at h2
    refine Or.inr ⟨v, x - n, List.mem_range.mp h1, by omega, ?_, h2⟩
    have : n + (x - n) = x := by omega
    rw [this]
theorem ArcOk.mono {n : Nat} {F F' G G' : Nat → Nat → Prop} {a : Nat × Nat} (h : ArcOk n F G a) (hf : ∀ k c, F k c → F' k c) (hg : ∀ k c, k < n → c < n → a = (n + c, k) → G k c → G' k c) : ArcOk n F' G' a := by
  rcases h with ⟨k, c, h1, h2, h3, h4⟩ | ⟨k, c, h1, h2, h3, h4⟩
  · exact Or.inl ⟨k, c, h1, h2, h3, hf _ _ h4⟩
  · exact Or.inr ⟨k, c, h1, h2, h3, hg _ _ h1 h2 h3 h4⟩
theorem rse_sofar {n : Nat} {T : Nat → Nat → Bool} {A B : Nat → Int} {at_ : Nat} (hat : at_ < n * n) (hT : T (at_ / n) (at_ % n) = true) : Rse n at_ T (Sofar n T A B at_) (S n A) where
  step := fun p hJ c v hne hw hex hle => by
    obtain ⟨hi, hj, eat⟩ := at_split hat
    rcases hw with ⟨z, _⟩ | ⟨_, h0, h1, hnd, hlen, hst⟩
    · exact absurd z hne
    have hlt := way_lt (b := n + at_ % n) (by omega) h0 hst
    have hok : ∀ a ∈ steps c, ArcOk n (fun k c => T k c = true ∧ at_ < k * n + c) (fun k c => 0 < p k c ∧ at_ < k * n + c) a := fun a ha => nxt_ok (hlt _ (steps_fst ha)) (hst a ha)
    have hmem : ∀ a b, (n + b, a) ∈ steps c → (a, b) ∈ lowrL n (steps c) := fun a b hm => by
      refine List.mem_filterMap.mpr ⟨_, hm, ?_⟩
      show (if n ≤ n + b then some (a, n + b - n) else none) = _
      rw [if_pos (Nat.le_add_right _ _), Nat.add_sub_cancel_left]
    have hv : 0 < v := by
      obtain ⟨y, hy, e⟩ := hex
      obtain ⟨a, ha, e2⟩ := List.mem_filterMap.mp hy
      split at e2
      · cases e2
        dsimp only at e
        rcases hok a ha with ⟨k, c', hk, hc, ea, _⟩ | ⟨k, c', hk, hc, ea, q, _⟩
        · have q3 := congrArg Prod.fst ea
          have q3 : a.1 = k := q3
          omega
        · rw [ea] at e
          dsimp only at e
          rw [Nat.add_sub_cancel_left] at e
          omega
      · cases e2
    have hE := steps_nodup hnd
    have hfw : ∀ k c', k < n → c' < n → k * n + c' ≤ at_ → fw n (steps c) k c' = 0 := fun k c' hk hc q => by
      have h2 := fw_nn n (steps c) k c'
      by_cases h3 : 0 < fw n (steps c) k c'
      · have := (ok_fwd hok hk (fw_mem h3)).2
        omega
      · omega
    have hbw : ∀ k c', k < n → c' < n → k * n + c' ≤ at_ → bw n (steps c) k c' = 0 := fun k c' hk hc q => by
      have h2 := bw_nn n (steps c) k c'
      by_cases h3 : 0 < bw n (steps c) k c'
      · have := (ok_bwd hok hk (bw_mem h3)).2
        omega
      · omega
    have eq : addAt v (along n v (steps c) p) (at_ / n, at_ % n) = turned n v (steps c) (at_ / n) (at_ % n) p := by
      funext k c'
      show (if k = at_ / n ∧ c' = at_ % n then along n v (steps c) p k c' + v else along n v (steps c) p k c') = along n v (steps c) p k c' + if k = at_ / n ∧ c' = at_ % n then v else 0
      split <;> omega
    have same : ∀ k c', k < n → c' < n → k * n + c' < at_ → turned n v (steps c) (at_ / n) (at_ % n) p k c' = p k c' := fun k c' hk hc q => by
      show along n v (steps c) p k c' + (if _ then _ else _) = _
      unfold along
      rw [hfw k c' hk hc (by omega), hbw k c' hk hc (by omega), if_neg (fun z => by
        rw [z.1, z.2] at q
        omega)]
      have : v * (0 - 0) = 0 := Int.mul_zero v
      omega
    have hc : ∃ l, c = (n + at_ % n) :: l := by
      cases c with
      | nil => exact absurd rfl hne
      | cons a l =>
        have : a = n + at_ % n := by simpa using h0
        exact ⟨l, by rw [this]⟩
    have hnb : ∀ k, nb (steps c) k = (if n + at_ % n = k then 1 else 0) - (if at_ / n = k then 1 else 0) := fun k => by
      obtain ⟨l, hl⟩ := hc
      rw [hl] at h1 ⊢
      exact nb_steps h1
    have hA : Adm n T A B (turned n v (steps c) (at_ / n) (at_ % n) p) := hJ.1.turned hi hj hT (Int.le_of_lt hv) hE (fun a ha => (hok a ha).mono (fun k c' q => q.1) fun k c' hk hc' ea q => by
      refine hle (k, c') (hmem k c' ?_)
      rw [← ea]
      exact ha) hnb
    rw [eq]
    refine ⟨⟨hA, fun k c' hk hc' q t => (hJ.2 k c' hk hc' q t).of_eq hk hc' fun k2 c2 hk2 hc2 q2 => same k2 c2 hk2 hc2 (by omega)⟩, ?_⟩
    show _ < along n v (steps c) p (at_ / n) (at_ % n) + (if _ then _ else _)
    unfold along
    rw [hfw _ _ hi hj (by omega), hbw _ _ hi hj (by omega), if_pos ⟨rfl, rfl⟩]
    have : v * (0 - 0) = 0 := Int.mul_zero v
    omega
  bound := fun p hJ => by
    obtain ⟨hi, hj, eat⟩ := at_split hat
    have h1 := S_ge_one (fun c hc => hJ.1.plan.nn (at_ / n) c hi hc) (at_ % n) hj
    rw [hJ.1.plan.row _ hi] at h1
    have h2 := S_ge_one (f := A) (fun i hi => by
      rw [← hJ.1.plan.row i hi]
      exact S_nonneg fun c hc => hJ.1.plan.nn i c hi hc) (at_ / n) hi
    omega
theorem gre_sofar {n : Nat} {T : Nat → Nat → Bool} {A B : Nat → Int} : Gre n T (Sofar n T A B) (Sofar n T A B) (S n A) where
  skip := fun at_ p hat hT hJ => by
    obtain ⟨hi, hj, eat⟩ := at_split hat
    refine ⟨hJ.1, fun k c hk hc q t => ?_⟩
    rcases Nat.lt_or_ge (k * n + c) at_ with z | z
    · exact hJ.2 k c hk hc z t
    · have := place_inj (i := at_ / n) (j := at_ % n) (k := k) (c := c) hj hc (by omega)
      rw [this.1, this.2, hT] at t
      cases t
  into := fun at_ p hat hT hJ => hJ
  rse := fun at_ hat hT => rse_sofar hat hT
  out := fun at_ p hat hT hJ hw => by
    obtain ⟨hi, hj, eat⟩ := at_split hat
    rcases hw with ⟨_, ns, par, hB, hTold, hni⟩ | ⟨z, _⟩
    · have told : ∀ u, u ∈ ns → ∀ v ∈ nxt n T p at_ u, v ∈ ns := fun u hu v hv => by
        obtain ⟨k, hk⟩ := List.getElem?_of_mem hu
        exact hTold k (List.getElem?_eq_some_iff.mp hk).1 u hk v hv
      have shut : Shut n T p (at_ / n * n + at_ % n) (· ∈ ns) := by
        rw [← eat]
        refine ⟨fun k c hk hc hR t q => told k hR _ ?_, fun k c hk hc hR t q => told (n + c) hR _ ?_⟩
        · unfold EW.nxt
          rw [if_pos hk]
          refine List.mem_map.mpr ⟨c, List.mem_filter.mpr ⟨List.mem_range.mpr hc, ?_⟩, rfl⟩
          rw [t, decide_eq_true q]
          rfl
        · unfold EW.nxt
          rw [if_neg (by omega), Nat.add_sub_cancel_left]
          refine List.mem_filter.mpr ⟨List.mem_range.mpr hk, ?_⟩
          rw [decide_eq_true t, decide_eq_true q]
          rfl
      have hm := shut.maxed hJ.1 hi hj (List.mem_of_getElem? hB.zero) hni
      refine ⟨hJ.1, fun k c hk hc q t => ?_⟩
      rcases Nat.lt_or_ge (k * n + c) at_ with z | z
      · exact hJ.2 k c hk hc z t
      · have := place_inj (i := at_ / n) (j := at_ % n) (k := k) (c := c) hj hc (by omega)
        rw [this.1, this.2]
        exact hm
    · exact absurd rfl z
/-- the end: the specification's plan, pair by pair -/
theorem sofar_greedy {n D : Nat} (hD : 0 < D) {T T' : Nat → Nat → Bool} {A B : Nat → Int} {q : Nat → Nat → Int} (h : Sofar n T A B (n * n) q) (e : ∀ i j, i < n → j < n → T' i j = T i j) : Sr80.greedy n T' (sp D n A) (sp D n B) = mt D n q := by
  have hA : ∀ x, Adm n T' A B x ↔ Adm n T A B x := fun x => ⟨fun a => ⟨a.plan, fun i j hi hj z => by rw [← e i j hi hj]; exact a.sup i j hi hj z⟩, fun a => ⟨a.plan, fun i j hi hj z => by rw [e i j hi hj]; exact a.sup i j hi hj z⟩⟩
  refine greedy_is hD ((hA q).mpr h.1) fun k c hk hc t => ?_
  rw [e k c hk hc] at t
  have hlt : k * n + c < n * n := by
    have h1 : (k + 1) * n ≤ n * n := Nat.mul_le_mul_right n hk
    rw [Nat.succ_mul] at h1
    omega
  intro y hy hb
  exact h.2 k c hk hc hlt t y ((hA y).mp hy) hb
/-- at the start -/
theorem sofar_start {n : Nat} {c p : Nat → Nat → Int} {A B u : Nat → Int} (h : IsPlan n A B p) (hu : Pots n c p u u) : Sofar n (fun i j => decide (u j - u i = c i j)) A B 0 p :=
  ⟨⟨h, fun i j hi hj z => decide_eq_true (hu.eq i j hi hj z)⟩, fun k c _ _ q => absurd q (Nat.not_lt_zero _)⟩
end EH
end

/-! ## EhAmt -/
section
set_option autoImplicit false
set_option linter.all false
set_option exponentiation.threshold 10000
/-! Sizes, amounts, costs, values. Core Lean and the specification's modules. -/
namespace EH
open Sr58 (Frac frac plus times less whole total)
open Sr66 (minus over zero neg)
open Sr80 (cAt pAt)
open EW (Sz lcmD amountsI Amts costs_ CostOk TotOk valP ValOk mapG rowsP colsP XF)

/-! ### sizes -/
theorem frac_abs {x : Int} {D : Nat} (hD : 0 < D) : (frac x D).n.natAbs ≤ x.natAbs := by
  have h := congrArg Int.natAbs (frac_nmul (n := x) hD)
  rw [Int.natAbs_mul, Int.natAbs_natCast] at h
  have hg : 0 < Nat.gcd x.natAbs D := Nat.gcd_pos_of_pos_right _ hD
  have := Nat.le_mul_of_pos_right (frac x D).n.natAbs hg
  omega
theorem frac_dle {x : Int} {D : Nat} (hD : 0 < D) : (frac x D).d ≤ D := Nat.le_of_dvd hD (frac_dvd hD)
theorem sz_frac {x : Int} {D : Nat} (hD : 0 < D) (hx : x.natAbs < 2 ^ 4400) (h : D < 2 ^ 4400) : Sz (frac x D) :=
  ⟨Nat.lt_of_le_of_lt (frac_abs hD) hx, Nat.lt_of_le_of_lt (frac_dle hD) h, frac_dpos hD⟩
theorem sz_whole {k : Int} (h : k.natAbs < 2 ^ 4400) : Sz ⟨k, 1⟩ := ⟨h, by show 1 < 2 ^ 4400; decide, Nat.one_pos⟩
theorem sum_abs {M : Nat} : ∀ (l : List Int), (∀ x ∈ l, x.natAbs ≤ M) → l.sum.natAbs ≤ l.length * M
  | [], _ => by simp
  | x :: l, h => by
    have h1 := h x List.mem_cons_self
    have h2 := sum_abs l fun y hy => h y (List.mem_cons_of_mem _ hy)
    rw [List.sum_cons, List.length_cons, Nat.succ_mul]
    omega
theorem tot_ok {D M : Nat} (hD : 0 < D) (hD2 : D < 2 ^ 4400) (hM : 40 * M < 2 ^ 4400) {l : List Int} (hl : l.length ≤ 40) (h : ∀ x ∈ l, x.natAbs ≤ M) : TotOk (l.map fun x => frac x D) := by
  have h1 : M < 2 ^ 4400 := Nat.lt_of_le_of_lt (by omega) hM
  refine ⟨fun y hy => ?_, fun i hi => ?_⟩
  · obtain ⟨x, hx, rfl⟩ := List.mem_map.mp hy
    exact sz_frac hD (Nat.lt_of_le_of_lt (h x hx) h1) hD2
  · rw [← List.map_take]
    have e : ((l.take i).map fun x => frac x D).foldl plus zero = total ((l.take i).map fun x => frac x D) := rfl
    rw [e, total_frac hD]
    refine sz_frac hD (Nat.lt_of_le_of_lt (sum_abs (M := M) _ fun x hx => h x (List.mem_of_mem_take hx)) ?_) hD2
    refine Nat.lt_of_le_of_lt (Nat.mul_le_mul_right M (?_ : _ ≤ 40)) hM
    rw [List.length_take]
    omega
theorem tot_range {D M n : Nat} (hD : 0 < D) (hD2 : D < 2 ^ 4400) (hM : 40 * M < 2 ^ 4400) (hn : n ≤ 40) {f : Nat → Int} (h : ∀ i, i < n → (f i).natAbs ≤ M) : TotOk ((List.range n).map fun i => frac (f i) D) := by
  have := tot_ok hD hD2 hM (l := (List.range n).map f) (by simpa using hn) (fun x hx => by
    obtain ⟨i, hi, rfl⟩ := List.mem_map.mp hx
    exact h i (List.mem_range.mp hi))
  rw [List.map_map] at this
  exact this
theorem whole_frac (k : Int) : (⟨k, 1⟩ : Frac) = frac k 1 := by
  have := frac_whole Nat.one_pos k
  simpa [whole] using this
theorem pairs_len (n : Nat) : (Sr80.pairs n).length = n * n := by rw [pairs_range, List.length_map, List.length_range']
theorem costs_map {D n : Nat} (hD : 0 < D) (c p : Nat → Nat → Int) : costs_ n c (fun i j => frac (p i j) D) = ((Sr80.pairs n).map fun y => p y.1 y.2 * c y.1 y.2).map fun x => frac x D := by
  unfold costs_
  rw [List.map_map]
  refine List.map_congr_left fun y _ => ?_
  show times (frac _ D) ⟨c y.1 y.2, 1⟩ = frac (p y.1 y.2 * c y.1 y.2) D
  rw [whole_frac, times_frac2 hD Nat.one_pos, Nat.mul_one]
theorem costs_total {D n : Nat} (hD : 0 < D) (c p : Nat → Nat → Int) : total (costs_ n c fun i j => frac (p i j) D) = frac (cost n c p) D := by
  rw [costs_map hD, total_frac hD, flat_range n fun i j => p i j * c i j, sum_flat]
  rfl
theorem cost_ok {D n M : Nat} (hD : 0 < D) (hD2 : D < 2 ^ 4400) {c p : Nat → Nat → Int} (hc : Costs n c) (hM : 40 * (M * 45) < 2 ^ 4400) (hp : ∀ i j, i < n → j < n → (p i j).natAbs ≤ M) : CostOk n c fun i j => frac (p i j) D := by
  have hM2 : M < 2 ^ 4400 := Nat.lt_of_le_of_lt (by omega) hM
  have t := tot_ok hD hD2 hM (l := (Sr80.pairs n).map fun y => p y.1 y.2 * c y.1 y.2) (by
    rw [List.length_map, pairs_len]
    have : n * n ≤ 6 * 6 := Nat.mul_le_mul hc.n6 hc.n6
    omega) (fun x hx => by
    obtain ⟨y, hy, rfl⟩ := List.mem_map.mp hx
    obtain ⟨h1, h2⟩ := (mem_pairs hD).mp hy
    rw [Int.natAbs_mul]
    refine Nat.mul_le_mul (hp _ _ h1 h2) ?_
    have := hc.le _ _ h1 h2
    have := hc.nn _ _ h1 h2
    omega)
  rw [← costs_map hD] at t
  exact ⟨fun i j hi hj => ⟨sz_frac hD (Nat.lt_of_le_of_lt (hp i j hi hj) hM2) hD2, sz_whole (Nat.lt_of_le_of_lt (show _ ≤ 45 by have := hc.le i j hi hj; have := hc.nn i j hi hj; omega) (by decide))⟩, t.sz, t.ps⟩

/-! ### distributions -/
structure Spr (n D : Nat) (x : List Frac) (A : Nat → Int) : Prop where
  eq : x = sp D n A
  pos : 0 < D
  nn : ∀ k, k < n → 0 ≤ A k
  sum : S n A = D
/-- what is known of a slot -/
def SprOk (n : Nat) (x : List Frac) : Prop := ∃ L A, Spr n L x A ∧ L < 2 ^ 100
section
variable {n D L : Nat} {x y : List Frac} {A B : Nat → Int}
theorem Spr.len (h : Spr n L x A) : x.length = n := by
  rw [h.eq]
  simp [sp]
theorem Spr.le (h : Spr n L x A) : ∀ k, k < n → A k ≤ L := fun k hk => by
  rw [← h.sum]
  exact S_ge_one h.nn k hk
theorem Spr.mem (h : Spr n L x A) {a : Frac} (ha : a ∈ x) : ∃ k, k < n ∧ a = frac (A k) L := by
  rw [h.eq] at ha
  exact sp_mem ha
theorem Spr.den (h : Spr n L x A) {a : Frac} (ha : a ∈ x) : 0 < a.d ∧ a.d ∣ L := by
  obtain ⟨k, _, rfl⟩ := h.mem ha
  exact ⟨frac_dpos h.pos, frac_dvd h.pos⟩
theorem Spr.low (h : Spr n L x A) {a : Frac} (ha : a ∈ x) : Low a := by
  obtain ⟨k, _, rfl⟩ := h.mem ha
  exact frac_low h.pos
theorem Spr.abs (h : Spr n L x A) : ∀ k, k < n → (A k).natAbs ≤ L := fun k hk => by
  have := h.le k hk
  have := h.nn k hk
  omega
theorem Spr.sz (h : Spr n L x A) (hL : L < 2 ^ 4400) {a : Frac} (ha : a ∈ x) : Sz a := by
  obtain ⟨k, hk, rfl⟩ := h.mem ha
  exact sz_frac h.pos (Nat.lt_of_le_of_lt (h.abs k hk) hL) hL
theorem Spr.cat (h : Spr n L x A) {k : Nat} (hk : k < n) : cAt x k = frac (A k) L := by
  rw [h.eq]
  exact cAt_sp hk
/-- over another denominator -/
theorem Spr.over_ (h : Spr n L x A) (hD : 0 < D) (hd : ∀ a ∈ x, a.d ∣ D) : ∃ A', Spr n D x A' ∧ amountsI D x = (List.range n).map A' := by
  let A' : Nat → Int := fun k => (frac (A k) L).n * ((D / (frac (A k) L).d : Nat) : Int)
  have hdv : ∀ k, k < n → (frac (A k) L).d ∣ D := fun k hk => hd _ (by rw [h.eq]; exact List.mem_map.mpr ⟨k, List.mem_range.mpr hk, rfl⟩)
  have heq : x = sp D n A' := by
    rw [h.eq]
    refine List.map_congr_left fun k hk => ?_
    exact Low.over_ (frac_low h.pos) hD (hdv k (List.mem_range.mp hk))
  have cross : ∀ k, k < n → (L : Int) * A' k = (D : Int) * A k := fun k hk => by
    have h1 := frac_cross (n := A k) h.pos
    have h2 : (D : Int) = ((D / (frac (A k) L).d : Nat) : Int) * (frac (A k) L).d := by
      rw [← Int.natCast_mul, Nat.div_mul_cancel (hdv k hk)]
    calc (L : Int) * ((frac (A k) L).n * ((D / (frac (A k) L).d : Nat) : Int)) = ((frac (A k) L).n * L) * ((D / (frac (A k) L).d : Nat) : Int) := by simp only [Int.mul_assoc, Int.mul_left_comm, Int.mul_comm]
      _ = (A k * (frac (A k) L).d) * ((D / (frac (A k) L).d : Nat) : Int) := by rw [h1]
      _ = (((D / (frac (A k) L).d : Nat) : Int) * (frac (A k) L).d) * A k := by simp only [Int.mul_assoc, Int.mul_left_comm, Int.mul_comm]
      _ = (D : Int) * A k := by rw [← h2]
  have hL := h.pos
  refine ⟨A', ⟨heq, hD, fun k hk => ?_, ?_⟩, ?_⟩
  · have h1 := cross k hk
    have h2 := Int.mul_nonneg (show (0 : Int) ≤ D by omega) (h.nn k hk)
    rcases Int.lt_or_le (A' k) 0 with z | z
    · have := Int.mul_neg_of_pos_of_neg (show (0 : Int) < L by omega) z
      omega
    · exact z
  · have e : (L : Int) * S n A' = (D : Int) * S n A := by
      rw [← S_mulL, ← S_mulL]
      exact S_congr cross
    rw [h.sum, Int.mul_comm (D : Int)] at e
    exact Int.eq_of_mul_eq_mul_left (by omega) e
  · unfold EW.amountsI
    rw [h.eq]
    unfold sp
    rw [List.map_map]
    exact List.map_congr_left fun k _ => by
      show (frac (A k) L).n * ((D : Int) / ((frac (A k) L).d : Int)) = _
      rw [← Int.natCast_ediv]
end
theorem lcm_go : ∀ (xs : List Frac) (m : Nat), 0 < m → (∀ x ∈ xs, 0 < x.d) → 0 < xs.foldl (fun m x => Nat.lcm m x.d) m ∧ m ∣ xs.foldl (fun m x => Nat.lcm m x.d) m ∧ (∀ x ∈ xs, x.d ∣ xs.foldl (fun m x => Nat.lcm m x.d) m) ∧
    ∀ D, m ∣ D → (∀ x ∈ xs, x.d ∣ D) → xs.foldl (fun m x => Nat.lcm m x.d) m ∣ D
  | [], m, hm, _ => ⟨hm, Nat.dvd_refl _, fun x hx => by simp at hx, fun D h _ => h⟩
  | y :: xs, m, hm, h => by
    have hy := h y List.mem_cons_self
    have hl : 0 < Nat.lcm m y.d := Nat.lcm_pos hm hy
    obtain ⟨h1, h2, h3, h4⟩ := lcm_go xs (Nat.lcm m y.d) hl fun x hx => h x (List.mem_cons_of_mem _ hx)
    refine ⟨h1, Nat.dvd_trans (Nat.dvd_lcm_left _ _) h2, fun x hx => ?_, fun D hm hD => ?_⟩
    · rcases List.mem_cons.mp hx with rfl | hx
      · exact Nat.dvd_trans (Nat.dvd_lcm_right _ _) h2
      · exact h3 x hx
    · exact h4 D (Nat.lcm_dvd hm (hD y List.mem_cons_self)) fun x hx => hD x (List.mem_cons_of_mem _ hx)
/-- the amounts of two slots -/
theorem amts_of {n : Nat} {x y : List Frac} (hx : SprOk n x) (hy : SprOk n y) : ∃ (D : Nat) (L W : Nat → Int), Amts n x y D L W ∧ Spr n D x L ∧ Spr n D y W ∧ D < 2 ^ 200 := by
  obtain ⟨L1, A, hA, b1⟩ := hx
  obtain ⟨L2, B, hB, b2⟩ := hy
  have hpos : ∀ a ∈ x ++ y, 0 < a.d := fun a ha => by
    rcases List.mem_append.mp ha with q | q
    · exact (hA.den q).1
    · exact (hB.den q).1
  obtain ⟨h1, _, h3, h4⟩ := lcm_go (x ++ y) 1 Nat.one_pos hpos
  have hdv : lcmD (x ++ y) ∣ L1 * L2 := h4 (L1 * L2) (Nat.one_dvd _) fun a ha => by
    rcases List.mem_append.mp ha with q | q
    · exact Nat.dvd_trans (hA.den q).2 (Nat.dvd_mul_right _ _)
    · exact Nat.dvd_trans (hB.den q).2 (Nat.dvd_mul_left _ _)
  have hle := Nat.le_of_dvd (Nat.mul_pos hA.pos hB.pos) hdv
  have hlt : L1 * L2 < 2 ^ 200 := by
    have : L1 * L2 < 2 ^ 100 * 2 ^ 100 := Nat.mul_lt_mul_of_lt_of_le b1 (Nat.le_of_lt b2) (Nat.two_pow_pos 100)
    exact Nat.lt_of_lt_of_le this (by decide)
  have hD : lcmD (x ++ y) < 2 ^ 200 := Nat.lt_of_le_of_lt hle hlt
  have hD4 : lcmD (x ++ y) < 2 ^ 4400 := Nat.lt_trans hD (by decide)
  have h1 : 0 < lcmD (x ++ y) := h1
  have h3 : ∀ a ∈ x ++ y, a.d ∣ lcmD (x ++ y) := h3
  obtain ⟨L, hL, eL⟩ := hA.over_ h1 fun a ha => h3 a (List.mem_append_left _ ha)
  obtain ⟨W, hW, eW⟩ := hB.over_ h1 fun a ha => h3 a (List.mem_append_right _ ha)
  refine ⟨lcmD (x ++ y), L, W, ⟨hA.len, hB.len, h1, hD4, rfl, fun a ha => ⟨?_, h3 a ha⟩, eL, eW⟩, hL, hW, hD⟩
  rcases List.mem_append.mp ha with q | q
  · exact hL.sz hD4 q
  · exact hW.sz hD4 q

/-! ### values -/
theorem val_ok {n D : Nat} (hn : n ≤ 6) {x y : List Frac} {A B : Nat → Int} (hx : Spr n D x A) (hy : Spr n D y B) (hD : D < 2 ^ 200) {u : Nat → Int} (hu : ∀ i, i < n → (u i).natAbs < 1000000) :
    ValOk n u (fun i => frac (A i) D) (fun i => frac (B i) D) ∧ valP u (fun i => frac (A i) D) (fun i => frac (B i) D) n = frac (S n fun i => u i * (B i - A i)) D := by
  have hD4 : D < 2 ^ 4400 := Nat.lt_trans hD (by decide)
  have hv : ∀ i, valP u (fun i => frac (A i) D) (fun i => frac (B i) D) i = frac (S i fun i => u i * (B i - A i)) D := by
    intro i
    induction i with
    | zero => exact (frac_zero hx.pos).symm
    | succ i ih =>
      show plus (valP u _ _ i) (times ⟨u i, 1⟩ (minus (frac (B i) D) (frac (A i) D))) = _
      rw [ih, minus_frac hx.pos, whole_frac, times_frac2 Nat.one_pos hx.pos, Nat.one_mul, plus_frac hx.pos]
      rfl
  have small : ∀ i, i < n → (u i * (B i - A i)).natAbs ≤ 1000000 * 2 ^ 200 := fun i hi => by
    rw [Int.natAbs_mul]
    refine Nat.mul_le_mul (Nat.le_of_lt (hu i hi)) ?_
    have h1 := hx.le i hi
    have h2 := hx.nn i hi
    have h3 := hy.le i hi
    have h4 := hy.nn i hi
    omega
  have sums : ∀ i, i ≤ n → (S i fun i => u i * (B i - A i)).natAbs ≤ i * (1000000 * 2 ^ 200) := by
    intro i
    induction i with
    | zero => intro _; exact Nat.le_of_eq (by simp [S])
    | succ i ih =>
      intro hi
      have h1 := ih (by omega)
      have h2 := small i (by omega)
      show ((S i fun i => u i * (B i - A i)) + u i * (B i - A i)).natAbs ≤ _
      rw [Nat.succ_mul]
      omega
  refine ⟨⟨fun i hi => sz_frac hx.pos (Nat.lt_of_le_of_lt (hx.abs i hi) hD4) hD4, fun i hi => sz_frac hx.pos (Nat.lt_of_le_of_lt (hy.abs i hi) hD4) hD4, fun i hi => sz_whole (Nat.lt_trans (hu i hi) (by decide)), fun i hi => ?_, fun i hi => ?_, fun i hi => ?_⟩, hv n⟩
  · rw [minus_frac hx.pos]
    refine sz_frac hx.pos (Nat.lt_of_le_of_lt (show _ ≤ D from ?_) hD4) hD4
    have h1 := hx.le i hi
    have h2 := hx.nn i hi
    have h3 := hy.le i hi
    have h4 := hy.nn i hi
    omega
  · rw [minus_frac hx.pos, whole_frac, times_frac2 Nat.one_pos hx.pos, Nat.one_mul]
    exact sz_frac hx.pos (Nat.lt_of_le_of_lt (small i hi) (by decide)) hD4
  · rw [hv]
    refine sz_frac hx.pos (Nat.lt_of_le_of_lt (Nat.le_trans (sums i (by omega)) (Nat.mul_le_mul_right _ (show i ≤ 6 by omega))) (by decide)) hD4
theorem gain_is {n D : Nat} {x y : List Frac} {A B : Nat → Int} (hx : Spr n D x A) (hy : Spr n D y B) (f : List Int) : Sr82.gain n f x y = frac (S n fun i => f.getD i 0 * (B i - A i)) D := by
  unfold Sr82.gain
  rw [← total_range hx.pos]
  congr 1
  refine List.map_congr_left fun i hi => ?_
  have hi := List.mem_range.mp hi
  rw [hx.cat hi, hy.cat hi, minus_frac hx.pos, times_whole hx.pos]

/-! ### other distributions -/
theorem spr_first {n : Nat} (hn : 0 < n) : SprOk n (EW.firstP n) ∧ EW.firstP n = Sr80.sure n := by
  have e : EW.firstP n = Sr80.sure n := by
    unfold EW.firstP Sr80.sure
    obtain ⟨m, rfl⟩ : ∃ m, n = m + 1 := ⟨n - 1, by omega⟩
    rw [List.range_succ_eq_map, List.map_cons, List.map_map]
    show _ :: List.replicate m _ = _ :: _
    congr 1
    rw [← List.length_range (n := m), ← List.map_const', List.length_range]
    exact List.map_congr_left fun i _ => (if_neg (t := whole 1) (e := zero) (Nat.succ_ne_zero i)).symm
  refine ⟨⟨1, fun k => if k = 0 then 1 else 0, ⟨?_, Nat.one_pos, fun k _ => by show 0 ≤ (if k = 0 then (1 : Int) else 0); split <;> omega, ?_⟩, by decide⟩, e⟩
  · rw [e]
    unfold Sr80.sure sp
    refine List.map_congr_left fun k _ => ?_
    show (if k = 0 then whole 1 else zero) = frac (if k = 0 then 1 else 0) 1
    split
    · exact whole_frac 1
    · exact whole_frac 0
  · rw [S_one, if_pos hn]
    rfl
theorem spr_weights {n : Nat} (hn : n ≤ 6) {w : List Nat} (hw : w.length = n) (h20 : ∀ x ∈ w, x ≤ 20) (hs : ∃ x ∈ w, 0 < x) : SprOk n (Sr80.spreadOf w) ∧ w.foldl (· + ·) 0 = w.sum ∧ 0 < w.sum ∧ w.sum ≤ 120 := by
  have e1 : w.foldl (· + ·) 0 = w.sum := by rw [List.sum_eq_foldl]
  have pos : 0 < w.sum := by
    obtain ⟨x, hx, h0⟩ := hs
    have : x ≤ w.sum := by
      clear hw h20 e1
      induction w with
      | nil => simp at hx
      | cons a l ih =>
        rw [List.sum_cons]
        rcases List.mem_cons.mp hx with e | e
        · omega
        · have := ih e
          omega
    omega
  have le : w.sum ≤ 20 * w.length := by
    clear hw hs pos e1
    induction w with
    | nil => simp
    | cons a l ih =>
      have h1 := h20 a List.mem_cons_self
      have h2 := ih fun x hx => h20 x (List.mem_cons_of_mem _ hx)
      rw [List.sum_cons, List.length_cons]
      omega
  refine ⟨⟨w.sum, fun k => ((w.getD k 0 : Nat) : Int), ⟨?_, pos, fun k _ => Int.natCast_nonneg _, ?_⟩, Nat.lt_of_le_of_lt (show _ ≤ 120 by omega) (by decide)⟩, e1, pos, by omega⟩
  · unfold Sr80.spreadOf sp
    rw [e1]
    apply List.ext_getElem?
    intro k
    rw [List.getElem?_map, List.getElem?_map]
    by_cases q : k < n
    · rw [List.getElem?_range q, List.getElem?_eq_getElem (by omega)]
      show some (frac ((w[k] : Nat) : Int) w.sum) = some (frac ((w.getD k 0 : Nat) : Int) w.sum)
      rw [List.getD_eq_getElem?_getD, List.getElem?_eq_getElem (by omega)]
      rfl
    · rw [List.getElem?_eq_none (by omega), List.getElem?_eq_none (by simpa using q)]
      rfl
  · have h1 := sum_S (w.map fun x => ((x : Nat) : Int))
    have h2 : (w.map fun x => ((x : Nat) : Int)).sum = ((w.sum : Nat) : Int) := by
      clear hw h20 hs pos le e1 h1
      induction w with
      | nil => rfl
      | cons a l ih =>
        rw [List.map_cons, List.sum_cons, List.sum_cons, ih, Int.natCast_add]
    rw [h2, List.length_map, hw] at h1
    rw [h1]
    refine S_congr fun k hk => ?_
    rw [List.getD_eq_getElem?_getD, List.getD_eq_getElem?_getD, List.getElem?_map, List.getElem?_eq_getElem (by omega)]
    rfl
/-- the image of a distribution -/
def imgI (A : Nat → Int) (ts : Nat → Nat) (m k : Nat) : Int := S m fun i => if ts i = k then A i else 0
theorem mapG_is {n L : Nat} {x : List Frac} {A : Nat → Int} (hx : Spr n L x A) (ts : Nat → Nat) : ∀ m k, mapG (fun i => frac (A i) L) ts m k = frac (imgI A ts m k) L
  | 0, k => (frac_zero hx.pos).symm
  | m + 1, k => by
    show (if k = ts m then plus (mapG _ ts m k) (frac (A m) L) else mapG _ ts m k) = frac (imgI A ts m k + if ts m = k then A m else 0) L
    rw [mapG_is hx ts m k]
    by_cases c : k = ts m
    · rw [if_pos c, if_pos c.symm, plus_frac hx.pos]
    · rw [if_neg c, if_neg (fun z => c z.symm)]
      congr 1
      omega
theorem imgI_le {n L : Nat} {x : List Frac} {A : Nat → Int} (hx : Spr n L x A) (ts : Nat → Nat) : ∀ m k, m ≤ n → 0 ≤ imgI A ts m k ∧ imgI A ts m k ≤ S m A
  | 0, k, _ => ⟨Int.le_refl _, Int.le_refl _⟩
  | m + 1, k, h => by
    have := imgI_le hx ts m k (by omega)
    have h2 := hx.nn m (by omega)
    show 0 ≤ imgI A ts m k + (if ts m = k then A m else 0) ∧ imgI A ts m k + (if ts m = k then A m else 0) ≤ S m A + A m
    split <;> omega
theorem S_mono {n : Nat} {A : Nat → Int} (h : ∀ k, k < n → 0 ≤ A k) : ∀ m, m ≤ n → S m A ≤ S n A := by
  intro m hm
  obtain ⟨d, rfl⟩ : ∃ d, n = m + d := ⟨n - m, by omega⟩
  clear hm
  induction d with
  | zero => exact Int.le_refl _
  | succ d ih =>
    have h1 := ih fun k hk => h k (by omega)
    have h2 := h (m + d) (by omega)
    show S m A ≤ S (m + d) A + A (m + d)
    omega
theorem spr_image {n : Nat} {x : List Frac} (hx : SprOk n x) {f : List Nat} (hf : ∀ i, i < n → f.getD i 0 < n) : SprOk n (Sr80.image n x f) ∧ ∃ L A, Spr n L x A ∧ L < 2 ^ 100 ∧ Sr80.image n x f = (List.range n).map (mapG (fun i => frac (A i) L) (fun i => f.getD i 0) n) ∧
    ∀ i k, i ≤ n → Sz (mapG (fun i => frac (A i) L) (fun i => f.getD i 0) i k) := by
  obtain ⟨L, A, h, hL⟩ := hx
  have hL4 : L < 2 ^ 4400 := Nat.lt_trans hL (by decide)
  have e : Sr80.image n x f = (List.range n).map (mapG (fun i => frac (A i) L) (fun i => f.getD i 0) n) := by
    unfold Sr80.image
    refine List.map_congr_left fun k hk => ?_
    rw [mapG_is h]
    unfold imgI
    rw [← total_range h.pos]
    congr 1
    refine List.map_congr_left fun i hi => ?_
    rw [h.cat (List.mem_range.mp hi)]
    split
    · rfl
    · exact (frac_zero h.pos).symm
  refine ⟨⟨L, imgI A (fun i => f.getD i 0) n, ⟨?_, h.pos, fun k _ => (imgI_le h _ n k (Nat.le_refl _)).1, ?_⟩, hL⟩, L, A, h, hL, e, fun i k hi => ?_⟩
  · rw [e]
    exact List.map_congr_left fun k _ => mapG_is h _ n k
  · unfold imgI
    rw [← S_swap n n (fun i k => if f.getD i 0 = k then A i else 0), ← h.sum]
    refine S_congr fun i hi => ?_
    have e2 : S n (fun k => if f.getD i 0 = k then A i else 0) = S n fun k => if k = f.getD i 0 then A i else 0 := S_congr fun k _ => by
      by_cases c : k = f.getD i 0
      · rw [if_pos c, if_pos c.symm]
      · rw [if_neg c, if_neg fun z => c z.symm]
    rw [e2, S_one, if_pos (hf i hi)]
  · rw [mapG_is h]
    obtain ⟨h1, h2⟩ := imgI_le h (fun i => f.getD i 0) i k hi
    have h3 := S_mono h.nn i hi
    rw [h.sum] at h3
    exact sz_frac h.pos (Nat.lt_of_le_of_lt (show _ ≤ L by omega) hL4) hL4
theorem half_is : (⟨1, 2⟩ : Frac) = frac 1 2 := by decide
theorem half_rest : minus (whole 1) (frac 1 2) = frac 1 2 := by decide
/-- the mean of two distributions -/
theorem spr_mean {n : Nat} {x y : List Frac} (hx : SprOk n x) (hy : SprOk n y) : ∃ (D : Nat) (A B : Nat → Int), Spr n D x A ∧ Spr n D y B ∧ D < 2 ^ 200 ∧ Spr n (2 * D) (Sr80.mixed n x y (frac 1 2)) (fun k => A k + B k) ∧
    ∀ k, k < n → times ⟨1, 2⟩ (plus (frac (A k) D) (frac (B k) D)) = frac (A k + B k) (2 * D) := by
  obtain ⟨D, A, B, _, hA, hB, hD⟩ := amts_of hx hy
  have h2 : 0 < 2 * D := Nat.mul_pos (by decide) hA.pos
  refine ⟨D, A, B, hA, hB, hD, ⟨?_, h2, fun k hk => by have := hA.nn k hk; have := hB.nn k hk; show 0 ≤ A k + B k; omega, ?_⟩, fun k hk => ?_⟩
  · unfold Sr80.mixed sp
    refine List.map_congr_left fun k hk => ?_
    have hk := List.mem_range.mp hk
    rw [half_rest, hA.cat hk, hB.cat hk, times_frac2 (by decide) hA.pos, times_frac2 (by decide) hA.pos, plus_frac h2, Int.one_mul, Int.one_mul]
  · rw [S_add, hA.sum, hB.sum]
    omega
  · rw [plus_frac hA.pos, half_is, times_frac2 (by decide) hA.pos, Int.one_mul]
theorem prod_le {B : Nat} (hB : 0 < B) : ∀ (l : List Nat) (m : Nat), (∀ x ∈ l, x ≤ B) → l.foldl (· * ·) m ≤ m * B ^ l.length
  | [], m, _ => by simp
  | x :: l, m, h => by
    have h1 := prod_le hB l (m * x) fun y hy => h y (List.mem_cons_of_mem _ hy)
    have h2 := h x List.mem_cons_self
    rw [List.foldl_cons, List.length_cons, Nat.pow_succ]
    refine Nat.le_trans h1 ?_
    have : m * x * B ^ l.length ≤ m * B * B ^ l.length := Nat.mul_le_mul_right _ (Nat.mul_le_mul_left _ h2)
    calc m * x * B ^ l.length ≤ m * B * B ^ l.length := this
      _ = m * (B ^ l.length * B) := by rw [Nat.mul_assoc, Nat.mul_comm B]
/-- small denominators: a small common one -/
theorem spr_small {n D : Nat} (hn : n ≤ 6) {x : List Frac} {A : Nat → Int} (h : Spr n D x A) (hd : ∀ a ∈ x, a.d ≤ 100000) : SprOk n x := by
  obtain ⟨h1, h2⟩ := prodD_all (a := x) fun a ha => (h.den ha).1
  obtain ⟨A', hA', _⟩ := h.over_ h1 h2
  refine ⟨prodD x, A', hA', ?_⟩
  have h3 := prod_le (B := 100000) (by decide) (x.map fun a => a.d) 1 fun y hy => by
    obtain ⟨a, ha, rfl⟩ := List.mem_map.mp hy
    exact hd a ha
  have h3 : prodD x ≤ 1 * 100000 ^ (x.map fun a => a.d).length := h3
  rw [List.length_map, h.len, Nat.one_mul] at h3
  refine Nat.lt_of_le_of_lt (Nat.le_trans h3 (Nat.pow_le_pow_right (by decide) hn)) (by decide)
end EH
end

/-! ## EhComp -/
section
set_option autoImplicit false
set_option linter.all false
set_option exponentiation.threshold 10000
/-! Compositions. Core Lean and the specification's modules. -/
namespace EH
open Sr58 (Frac frac plus times less whole total)
open Sr66 (minus over zero neg)
open Sr80 (cAt pAt)
open EW (Sz CostOk TotOk compP CompOk posL posL_mem XF)

theorem over_frac2 {n m : Int} {d e : Nat} (hd : 0 < d) (he : 0 < e) (hm : 0 < m) : over (frac n d) (frac m e) = frac (n * e) (d * m.toNat) := by
  have hg : 0 < (frac m e).n := (frac_pos he m).mpr hm
  unfold Sr66.over
  rw [if_neg (by omega)]
  have h1 := frac_cross (n := n) hd
  have h2 := frac_cross (n := m) he
  have ea : (((frac m e).n.natAbs : Nat) : Int) = (frac m e).n := by omega
  have em : ((m.toNat : Nat) : Int) = m := by omega
  refine frac_eq (Nat.mul_pos (frac_dpos hd) (by omega)) (Nat.mul_pos hd (by omega)) ?_
  rw [Int.natCast_mul, Int.natCast_mul, ea, em]
  calc (frac n d).n * (frac m e).d * ((d : Int) * m) = ((frac n d).n * d) * (m * (frac m e).d) := by simp only [Int.mul_assoc, Int.mul_left_comm, Int.mul_comm]
    _ = (n * (frac n d).d) * ((frac m e).n * e) := by rw [h1, h2]
    _ = n * e * (((frac n d).d : Int) * (frac m e).n) := by simp only [Int.mul_assoc, Int.mul_left_comm, Int.mul_comm]
/-- the product of what is above 0 -/
def prN (M : Nat → Int) : Nat → Nat
  | 0 => 1
  | j + 1 => prN M j * if 0 < M j then (M j).toNat else 1
theorem prN_pos (M : Nat → Int) : ∀ n, 0 < prN M n
  | 0 => Nat.one_pos
  | n + 1 => by
    refine Nat.mul_pos (prN_pos M n) ?_
    split <;> omega
theorem prN_dvd {M : Nat → Int} {j : Nat} (hj : 0 < M j) : ∀ n, j < n → (M j).toNat ∣ prN M n
  | 0, h => absurd h (Nat.not_lt_zero _)
  | n + 1, h => by
    show _ ∣ prN M n * _
    rcases Nat.lt_or_ge j n with q | q
    · exact Nat.dvd_trans (prN_dvd hj n q) (Nat.dvd_mul_right _ _)
    · have : j = n := by omega
      subst this
      rw [if_pos hj]
      exact Nat.dvd_mul_left _ _
theorem prN_le {M : Nat → Int} {B : Nat} (hB : 0 < B) : ∀ n, (∀ j, j < n → M j ≤ B) → prN M n ≤ B ^ n
  | 0, _ => Nat.le_refl _
  | n + 1, h => by
    show prN M n * _ ≤ _
    rw [Nat.pow_succ]
    refine Nat.mul_le_mul (prN_le hB n fun j hj => h j (by omega)) ?_
    have := h n (by omega)
    split <;> omega
theorem sum_filter {f : Nat → Bool} {z : Nat → Int} (h : ∀ j, f j = false → z j = 0) : ∀ n, (((List.range n).filter f).map z).sum = S n z
  | 0 => rfl
  | n + 1 => by
    rw [List.range_succ, List.filter_append, List.map_append, List.sum_append, sum_filter h n]
    show _ = S n z + z n
    by_cases c : f n = true
    · rw [List.filter_cons_of_pos c]
      simp
    · rw [List.filter_cons_of_neg c, h n (by simpa using c)]
      simp
section
variable {n D1 D2 L : Nat} {P Q : Nat → Nat → Int} {M : Nat → Int} {y : List Frac}
/-- the parts of an entry -/
def part_ (n L : Nat) (P Q : Nat → Nat → Int) (M : Nat → Int) (i k j : Nat) : Int := if 0 < M j then P i j * Q j k * L * ((prN M n / (M j).toNat : Nat) : Int) else 0
theorem part_eq (h1 : 0 < D1) (h2 : 0 < D2) (hL : 0 < L) {i k j : Nat} (hj : j < n) (hm : 0 < M j) :
    over (times (frac (P i j) D1) (frac (Q j k) D2)) (frac (M j) L) = frac (part_ n L P Q M i k j) (D1 * D2 * prN M n) := by
  rw [times_frac2 h1 h2, over_frac2 (Nat.mul_pos h1 h2) hL hm]
  have hp := prN_pos M n
  have hmt : 0 < (M j).toNat := by omega
  refine frac_eq (Nat.mul_pos (Nat.mul_pos h1 h2) hmt) (Nat.mul_pos (Nat.mul_pos h1 h2) hp) ?_
  unfold part_
  rw [if_pos hm]
  have e : ((prN M n : Nat) : Int) = ((prN M n / (M j).toNat : Nat) : Int) * (((M j).toNat : Nat) : Int) := by
    rw [← Int.natCast_mul, Nat.div_mul_cancel (prN_dvd hm n hj)]
  rw [Int.natCast_mul, Int.natCast_mul (D1 * D2), e]
  simp only [Int.mul_assoc, Int.mul_left_comm, Int.mul_comm]
theorem part_le (hP : ∀ i j, i < n → j < n → (P i j).natAbs ≤ D1) (hQ : ∀ i j, i < n → j < n → (Q i j).natAbs ≤ D2) {i k j : Nat} (hi : i < n) (hk : k < n) (hj : j < n) : (part_ n L P Q M i k j).natAbs ≤ D1 * D2 * L * prN M n := by
  unfold part_
  split
  · rw [Int.natAbs_mul, Int.natAbs_mul, Int.natAbs_mul, Int.natAbs_natCast, Int.natAbs_natCast]
    exact Nat.mul_le_mul (Nat.mul_le_mul (Nat.mul_le_mul (hP i j hi hj) (hQ j k hj hk)) (Nat.le_refl _)) (Nat.div_le_self _ _)
  · exact Nat.zero_le _
theorem S_abs {n B : Nat} {f : Nat → Int} (h : ∀ i, i < n → (f i).natAbs ≤ B) : (S n f).natAbs ≤ n * B := by
  induction n with
  | zero => exact Nat.zero_le _
  | succ n ih =>
    have h1 := ih fun i hi => h i (by omega)
    have h2 := h n (by omega)
    show (S n f + f n).natAbs ≤ _
    rw [Nat.succ_mul]
    omega
/-- all about the composition of two plans -/
theorem comp_is (hn : n ≤ 6) (h1 : 0 < D1) (h2 : 0 < D2) (b1 : D1 < 2 ^ 200) (b2 : D2 < 2 ^ 200) (hP : ∀ i j, i < n → j < n → (P i j).natAbs ≤ D1) (hQ : ∀ i j, i < n → j < n → (Q i j).natAbs ≤ D2)
    (hy : Spr n L y M) (bL : L < 2 ^ 100) : ∃ (E : Nat) (Z : Nat → Nat → Int), 0 < E ∧ E < 2 ^ 4400 ∧ (∀ i k, i < n → k < n → (Z i k).natAbs ≤ 6 * 2 ^ 1100) ∧
      Sr80.behind n y (mt D1 n P) (mt D2 n Q) = mt E n Z ∧ CompOk n (fun i j => frac (P i j) D1) (fun i j => frac (Q i j) D2) (fun j => frac (M j) L) ∧
      XF n (fun i k => total (compP n (fun i j => frac (P i j) D1) (fun i j => frac (Q i j) D2) (fun j => frac (M j) L) i k)) = mt E n Z := by
  have hE : 0 < D1 * D2 * prN M n := Nat.mul_pos (Nat.mul_pos h1 h2) (prN_pos M n)
  have hN : prN M n ≤ 2 ^ 600 := by
    refine Nat.le_trans (prN_le (B := 2 ^ 100) (by decide) n fun j hj => ?_) ?_
    · have := hy.le j hj
      have : L ≤ 2 ^ 100 := Nat.le_of_lt bL
      omega
    · rw [← Nat.pow_mul]
      exact Nat.pow_le_pow_right (by decide) (by omega)
  have bE : D1 * D2 * prN M n < 2 ^ 4400 := by
    have : D1 * D2 * prN M n ≤ 2 ^ 200 * 2 ^ 200 * 2 ^ 600 := Nat.mul_le_mul (Nat.mul_le_mul (Nat.le_of_lt b1) (Nat.le_of_lt b2)) hN
    exact Nat.lt_of_le_of_lt this (by decide)
  have bM : D1 * D2 * L * prN M n ≤ 2 ^ 1100 := by
    have : D1 * D2 * L * prN M n ≤ 2 ^ 200 * 2 ^ 200 * 2 ^ 100 * 2 ^ 600 := Nat.mul_le_mul (Nat.mul_le_mul (Nat.mul_le_mul (Nat.le_of_lt b1) (Nat.le_of_lt b2)) (Nat.le_of_lt bL)) hN
    exact Nat.le_trans this (by decide)
  have ple : ∀ i k j, i < n → k < n → j < n → (part_ n L P Q M i k j).natAbs ≤ 2 ^ 1100 := fun i k j hi hk hj => Nat.le_trans (part_le hP hQ hi hk hj) bM
  have b1' : D1 < 2 ^ 4400 := Nat.lt_trans b1 (by decide)
  have b2' : D2 < 2 ^ 4400 := Nat.lt_trans b2 (by decide)
  have bL' : L < 2 ^ 4400 := Nat.lt_trans bL (by decide)
  have mpos : ∀ j, (0 < (frac (M j) L).n) = (0 < M j) := fun j => propext (frac_pos hy.pos _)
  have cp : ∀ i k, compP n (fun i j => frac (P i j) D1) (fun i j => frac (Q i j) D2) (fun j => frac (M j) L) i k = ((posL n M).map fun j => part_ n L P Q M i k j).map fun x => frac x (D1 * D2 * prN M n) := fun i k => by
    unfold EW.compP
    have e : (posL n fun j => (frac (M j) L).n) = posL n M := by
      unfold EW.posL
      congr 1
      funext j
      simp only [mpos]
    rw [e, List.map_map]
    refine List.map_congr_left fun j hj => ?_
    obtain ⟨q1, q2⟩ := posL_mem.mp hj
    exact part_eq h1 h2 hy.pos q1 q2
  have ct : ∀ i k, total (compP n (fun i j => frac (P i j) D1) (fun i j => frac (Q i j) D2) (fun j => frac (M j) L) i k) = frac (S n (part_ n L P Q M i k)) (D1 * D2 * prN M n) := fun i k => by
    rw [cp, total_frac hE]
    congr 1
    unfold EW.posL
    refine sum_filter (fun j hj => ?_) n
    unfold part_
    rw [if_neg (by simpa using hj)]
  refine ⟨D1 * D2 * prN M n, fun i k => S n (part_ n L P Q M i k), hE, bE, fun i k hi hk => ?_, ?_, ⟨fun i j hi hj => ?_, fun i j hi hj => ?_, fun j hj => ?_, fun i j k hi hj hk => ?_, fun i k hi hk => ?_⟩, ?_⟩
  · refine Nat.le_trans (S_abs fun j hj => ple i k j hi hk hj) (Nat.mul_le_mul_right _ hn)
  · unfold Sr80.behind
    refine List.map_congr_left fun i hi => List.map_congr_left fun k hk => ?_
    have hi := List.mem_range.mp hi
    have hk := List.mem_range.mp hk
    dsimp only
    rw [← total_range hE]
    congr 1
    refine List.map_congr_left fun j hj => ?_
    have hj := List.mem_range.mp hj
    rw [pAt_mt hi hj, pAt_mt hj hk, hy.cat hj]
    have h0 := hy.nn j hj
    have hnn := (frac_nonneg hy.pos (M j)).mpr h0
    by_cases c : 0 < M j
    · have := (frac_pos hy.pos (M j)).mpr c
      rw [if_neg (by omega)]
      exact part_eq h1 h2 hy.pos hj c
    · have h3 : ¬ 0 < (frac (M j) L).n := fun z => c ((frac_pos hy.pos _).mp z)
      rw [if_pos (by omega)]
      unfold part_
      rw [if_neg c]
      exact (frac_zero hE).symm
  · exact sz_frac h1 (Nat.lt_of_le_of_lt (hP i j hi hj) b1') b1'
  · exact sz_frac h2 (Nat.lt_of_le_of_lt (hQ i j hi hj) b2') b2'
  · exact sz_frac hy.pos (Nat.lt_of_le_of_lt (hy.abs j hj) bL') bL'
  · rw [times_frac2 h1 h2]
    have hb : D1 * D2 < 2 ^ 4400 := by
      have : D1 * D2 ≤ 2 ^ 200 * 2 ^ 200 := Nat.mul_le_mul (Nat.le_of_lt b1) (Nat.le_of_lt b2)
      exact Nat.lt_of_le_of_lt this (by decide)
    refine sz_frac (Nat.mul_pos h1 h2) (Nat.lt_of_le_of_lt ?_ hb) hb
    rw [Int.natAbs_mul]
    exact Nat.mul_le_mul (hP i j hi hj) (hQ j k hj hk)
  · rw [cp]
    refine tot_ok hE bE (M := 2 ^ 1100) (by decide) ?_ fun x hx => ?_
    · rw [List.length_map]
      have := EW.posL_len n M
      omega
    · obtain ⟨j, hj, rfl⟩ := List.mem_map.mp hx
      exact ple i k j hi hk (posL_mem.mp hj).1
  · refine List.map_congr_left fun i hi => List.map_congr_left fun k hk => ?_
    exact ct i k
end
end EH
end

/-! ## EhOps -/
section
set_option autoImplicit false
set_option linter.all false
set_option exponentiation.threshold 10000
/-! What each operation of the specification asks of the program's parts. Core Lean and the specification's modules. -/
namespace EH
open Sr58 (Frac frac plus times less whole total)
open Sr66 (minus over zero neg)
open Sr80 (cAt pAt)
open Sr82 (Ground Ways way dist dAt hangs at_)
open EW (Sz CostOk TotOk CompOk compP Amts Run Ends_ Gre potL costs_ ValOk valP XF rowsP colsP JT)

/-- what holds of an instance -/
structure GOk (g : Ground) : Prop where
  n0 : 0 < g.n
  n6 : g.n ≤ 6
  ways : WaysOk g.n g.g
  four : g.s.length = 4
  slots : ∀ x ∈ g.s, SprOk g.n x
theorem GOk.slot {g : Ground} (h : GOk g) {k : Int} (hk : Sr80.isK k = true) : SprOk g.n (at_ g k) ∧ g.s[k.toNat]? = some (at_ g k) := by
  unfold Sr80.isK at hk
  rw [Bool.and_eq_true, decide_eq_true_eq, decide_eq_true_eq] at hk
  have h4 : (Sr80.SLOTS : Int) = 4 := rfl
  have hlt : k.toNat < g.s.length := by
    rw [h.four]
    omega
  have e : g.s[k.toNat]? = some (at_ g k) := by
    unfold Sr82.at_
    rw [List.getD_eq_getElem?_getD, List.getElem?_eq_getElem hlt]
    rfl
  exact ⟨h.slots _ (List.mem_of_getElem? e), e⟩
/-- the costs -/
abbrev cD (g : Ground) : Nat → Nat → Int := fun i j => (dAt (dist g.n g.g) i j : Int)
section
variable {g : Ground} (ok : GOk g) (hg : hangs g.n g.g = true)
include ok hg
theorem costs_ok : Costs g.n (cD g) := by
  have D := dists_of ok.n6 ok.ways hg
  exact ⟨ok.n0, ok.n6, fun i j _ _ => Int.natCast_nonneg _, fun i j hi hj => by have := D.le i j hi hj; show (dAt _ i j : Int) ≤ 45; omega⟩
/-- what the search of a cheapest plan is handed -/
theorem trans_in {x y : List Frac} (hx : SprOk g.n x) (hy : SprOk g.n y) : ∃ (D : Nat) (L W : Nat → Int), Amts g.n x y D L W ∧ Spr g.n D x L ∧ Spr g.n D y W ∧ D < 2 ^ 200 ∧ Run g.n (cD g) (Part g.n (cD g) L W) ∧ Part g.n (cD g) L W (fun _ _ => 0) L W := by
  obtain ⟨D, L, W, hA, hL, hW, hD⟩ := amts_of hx hy
  have hc := costs_ok ok hg
  exact ⟨D, L, W, hA, hL, hW, hD, run_part hc (by rw [hL.sum, hW.sum]), part_start hc hL.nn hW.nn⟩
theorem ends_is {D : Nat} {x y : List Frac} {L W : Nat → Int} (hL : Spr g.n D x L) (hW : Spr g.n D y W) {p : Nat → Nat → Int} (h : Ends_ g.n (Part g.n (cD g) L W) p) : Opt g.n (cD g) L W p ∧ ∀ i j, i < g.n → j < g.n → 0 ≤ p i j ∧ p i j ≤ D := by
  have ho := ends_opt (by rw [hL.sum, hW.sum]) h
  refine ⟨ho, fun i j hi hj => ⟨ho.plan.nn i j hi hj, ?_⟩⟩
  have h1 := S_ge_one (fun c hc => ho.plan.nn i c hi hc) j hj
  rw [ho.plan.row i hi] at h1
  have := hL.le i hi
  omega
omit ok hg in
theorem dcost {D : Nat} (hD : D < 2 ^ 200) {p : Nat → Nat → Int} {n : Nat} (hp : ∀ i j, i < n → j < n → 0 ≤ p i j ∧ p i j ≤ D) : (∀ i j, i < n → j < n → (p i j).natAbs ≤ 2 ^ 200) ∧ D < 2 ^ 4400 :=
  ⟨fun i j hi hj => by have := hp i j hi hj; have : D ≤ 2 ^ 200 := Nat.le_of_lt hD; omega, Nat.lt_trans hD (by decide)⟩
theorem low_is {D : Nat} {x y : List Frac} {L W : Nat → Int} (hL : Spr g.n D x L) (hW : Spr g.n D y W) (hD : D < 2 ^ 200) {p : Nat → Nat → Int} (h : Ends_ g.n (Part g.n (cD g) L W) p) :
    CostOk g.n (cD g) (fun i j => frac (p i j) D) ∧ total (costs_ g.n (cD g) fun i j => frac (p i j) D) = Sr82.least g.n (dist g.n g.g) x y := by
  obtain ⟨ho, hp⟩ := ends_is ok hg hL hW h
  obtain ⟨h1, h2⟩ := dcost hD hp
  refine ⟨cost_ok hL.pos h2 (costs_ok ok hg) (by decide) h1, ?_⟩
  rw [costs_total hL.pos, hL.eq, hW.eq]
  exact (least_is ok.n0 hL.pos hL.nn hW.nn hL.sum hW.sum ho).symm
theorem pot_is {D : Nat} {x y : List Frac} {L W : Nat → Int} (hL : Spr g.n D x L) (hW : Spr g.n D y W) {p : Nat → Nat → Int} (h : Ends_ g.n (Part g.n (cD g) L W) p) :
    (List.range g.n).map (potL g.n (cD g) p) = Sr82.prices g.n (dist g.n g.g) x y ∧ (∀ j, j < g.n → (potL g.n (cD g) p j).natAbs < 1000000) ∧ Pots g.n (cD g) p (potL g.n (cD g) p) (potL g.n (cD g) p) := by
  obtain ⟨ho, hp⟩ := ends_is ok hg hL hW h
  have M := (dists_of ok.n6 ok.ways hg).metric
  obtain ⟨f, f', hP⟩ := ho.pot
  obtain ⟨u, hu⟩ := hP.one M
  obtain ⟨h1, h2⟩ := pot_price (costs_ok ok hg) hu
  refine ⟨?_, h2, h1.pots⟩
  rw [hL.eq, hW.eq]
  exact (prices_is (D := 1) Nat.one_pos ok.n0 hL.pos M hL.nn hW.nn hL.sum hW.sum ho h1).symm
/-- what is wanted of the plan -/
def PlanIs (g : Ground) (x y : List Frac) (D : Nat) (q : Nat → Nat → Int) : Prop := mt D g.n q = Sr82.best g.n (dist g.n g.g) x y ∧ ∀ i j, i < g.n → j < g.n → 0 ≤ q i j ∧ q i j ≤ D
theorem plan_is {D : Nat} {x y : List Frac} {L W : Nat → Int} (hL : Spr g.n D x L) (hW : Spr g.n D y W) {p : Nat → Nat → Int} (h : Ends_ g.n (Part g.n (cD g) L W) p) :
    ∃ (J2 JJ : Nat → (Nat → Nat → Int) → Prop) (M : Int), Gre g.n (fun i j => decide (potL g.n (cD g) p j - potL g.n (cD g) p i = cD g i j)) J2 JJ M ∧ J2 0 p ∧ ∀ q, J2 (g.n * g.n) q → PlanIs g x y D q := by
  obtain ⟨ho, hp⟩ := ends_is ok hg hL hW h
  obtain ⟨h1, h2, h3⟩ := pot_is ok hg hL hW h
  refine ⟨_, _, _, gre_sofar (A := L) (B := W), sofar_start ho.plan h3, fun q hq => ⟨?_, fun i j hi hj => ⟨hq.1.plan.nn i j hi hj, ?_⟩⟩⟩
  · unfold Sr82.best
    rw [← h1]
    have e := sofar_greedy hL.pos hq (T' := fun i j => ((List.range g.n).map (potL g.n (cD g) p)).getD j 0 - ((List.range g.n).map (potL g.n (cD g) p)).getD i 0 == (dAt (dist g.n g.g) i j : Int)) fun i j hi hj => by
      rw [getD_map_range hi, getD_map_range hj]
      rfl
    rw [← hL.eq, ← hW.eq] at e
    exact e.symm
  · have h1 := S_ge_one (fun c hc => hq.1.plan.nn i c hi hc) j hj
    rw [hq.1.plan.row i hi] at h1
    have := hL.le i hi
    omega
/-- the cost of a told plan -/
theorem told_cost {D M : Nat} (hD : 0 < D) (hD2 : D < 2 ^ 4400) (hM : 40 * (M * 45) < 2 ^ 4400) {q : Nat → Nat → Int} (hq : ∀ i j, i < g.n → j < g.n → (q i j).natAbs ≤ M) :
    CostOk g.n (cD g) (fun i j => frac (q i j) D) ∧ total (costs_ g.n (cD g) fun i j => frac (q i j) D) = Sr82.cost g.n (dist g.n g.g) (mt D g.n q) :=
  ⟨cost_ok hD hD2 (costs_ok ok hg) hM hq, by rw [costs_total hD, cost_mt hD]⟩
end
/-- the value of potentials -/
theorem value_is {n : Nat} (hn : n ≤ 6) {x y : List Frac} (hx : SprOk n x) (hy : SprOk n y) (f : List Int) (hf : ∀ i, i < n → (f.getD i 0).natAbs < 1000000) :
    ∃ (D : Nat) (A B : Nat → Int), Spr n D x A ∧ Spr n D y B ∧ ValOk n (fun i => f.getD i 0) (fun i => frac (A i) D) (fun i => frac (B i) D) ∧ valP (fun i => f.getD i 0) (fun i => frac (A i) D) (fun i => frac (B i) D) n = Sr82.gain n f x y := by
  obtain ⟨D, A, B, _, hA, hB, hD⟩ := amts_of hx hy
  obtain ⟨h1, h2⟩ := val_ok hn hA hB hD hf
  exact ⟨D, A, B, hA, hB, h1, by rw [h2, gain_is hA hB]⟩
/-! ### a plan that is handed in -/
theorem read_is (n : Nat) (e : Int) (p : List Int) : Sr80.readPlan n e p = XF n fun i j => frac (p.getD (i * n + j) 0) e.toNat := rfl
theorem read_ok {n : Nat} (hn : n ≤ 6) {e : Int} (he : 1 ≤ e) (he2 : e ≤ 2147483647) {p : List Int} (hp : ∀ x ∈ p, -2147483648 ≤ x ∧ x ≤ 2147483647) :
    (∀ i j, (p.getD (i * n + j) 0).natAbs ≤ 2147483648) ∧ (∀ i, TotOk ((List.range n).map fun j => frac (p.getD (i * n + j) 0) e.toNat)) ∧ ∀ j, TotOk ((List.range n).map fun i => frac (p.getD (i * n + j) 0) e.toNat) := by
  have h1 : ∀ i j, (p.getD (i * n + j) 0).natAbs ≤ 2147483648 := fun i j => by
    rw [List.getD_eq_getElem?_getD]
    cases h : p[i * n + j]? with
    | none => exact Nat.zero_le _
    | some z =>
      have := hp z (List.mem_of_getElem? h)
      show z.natAbs ≤ _
      omega
  have hD : 0 < e.toNat := by omega
  have hD2 : e.toNat < 2 ^ 4400 := Nat.lt_of_le_of_lt (show _ ≤ 2147483647 by omega) (by decide)
  exact ⟨h1, fun i => tot_range hD hD2 (M := 2147483648) (by decide) (by omega) fun j _ => h1 i j, fun j => tot_range hD hD2 (M := 2147483648) (by decide) (by omega) fun i _ => h1 i j⟩
theorem isPlan_is {n : Nat} {a b : List Frac} (ha : a.length = n) (hb : b.length = n) (X : Nat → Nat → Frac) : Sr80.isPlan n a b (XF n X) = true ↔ (∀ i j, i < n → j < n → 0 ≤ (X i j).n) ∧ rowsP n X = a ∧ colsP n X = b := by
  have hlen : (XF n X).length = n := by simp
  have row : ∀ i, i < n → Sr80.rowSum (XF n X) i = total ((List.range n).map fun j => X i j) := fun i hi => by
    unfold Sr80.rowSum
    rw [getD_map_range hi]
  have col : ∀ j, j < n → Sr80.colSum (XF n X) j = total ((List.range n).map fun i => X i j) := fun j hj => by
    unfold Sr80.colSum
    rw [List.map_map]
    congr 1
    refine List.map_congr_left fun i _ => ?_
    show ((List.range n).map fun j => X i j).getD j zero = _
    rw [getD_map_range hj]
  have lists : ∀ (f : Nat → Frac) (c : List Frac), c.length = n → (((List.range n).map f = c) ↔ ∀ i, i < n → f i = cAt c i) := fun f c hc => by
    constructor
    · intro h i hi
      rw [← h]
      exact (getD_map_range hi).symm
    · intro h
      apply List.ext_getElem?
      intro i
      rw [List.getElem?_map]
      by_cases q : i < n
      · rw [List.getElem?_range q, List.getElem?_eq_getElem (by omega)]
        show some (f i) = _
        rw [h i q]
        unfold Sr80.cAt
        rw [List.getD_eq_getElem?_getD, List.getElem?_eq_getElem (by omega)]
        rfl
      · rw [List.getElem?_eq_none (by simpa using q), List.getElem?_eq_none (by omega)]
        rfl
  unfold Sr80.isPlan
  rw [Bool.and_eq_true, Bool.and_eq_true, Bool.and_eq_true, decide_eq_true_eq, List.all_eq_true, List.all_eq_true, List.all_eq_true]
  constructor
  · rintro ⟨_, h1, h2, h3⟩
    refine ⟨fun i j hi hj => ?_, (lists _ _ ha).mpr fun i hi => ?_, (lists _ _ hb).mpr fun j hj => ?_⟩
    · have h4 := h1 ((List.range n).map fun j => X i j) (List.mem_map.mpr ⟨i, List.mem_range.mpr hi, rfl⟩)
      rw [Bool.and_eq_true, List.all_eq_true] at h4
      exact of_decide_eq_true (h4.2 _ (List.mem_map.mpr ⟨j, List.mem_range.mpr hj, rfl⟩))
    · have h4 := beq_iff_eq.mp (h2 i (List.mem_range.mpr hi))
      rw [row i hi] at h4
      exact h4
    · have h4 := beq_iff_eq.mp (h3 j (List.mem_range.mpr hj))
      rw [col j hj] at h4
      exact h4
  · rintro ⟨h1, h2, h3⟩
    have h2 := (lists _ _ ha).mp h2
    have h3 := (lists _ _ hb).mp h3
    refine ⟨hlen, fun r hr => ?_, fun i hi => ?_, fun j hj => ?_⟩
    · obtain ⟨i, hi, rfl⟩ := List.mem_map.mp hr
      rw [Bool.and_eq_true, List.all_eq_true]
      refine ⟨decide_eq_true (by simp), fun z hz => ?_⟩
      obtain ⟨j, hj, rfl⟩ := List.mem_map.mp hz
      exact decide_eq_true (h1 i j (List.mem_range.mp hi) (List.mem_range.mp hj))
    · have hi := List.mem_range.mp hi
      rw [row i hi]
      exact beq_iff_eq.mpr (h2 i hi)
    · have hj := List.mem_range.mp hj
      rw [col j hj]
      exact beq_iff_eq.mpr (h3 j hj)
/-! ### the graph -/
theorem way_none {n : Nat} (i j : Nat) : way (Sr82.noWays n) i j = 0 := by
    unfold Sr82.way Sr82.noWays
    rw [List.getD_eq_getElem?_getD, List.getD_eq_getElem?_getD, List.getElem?_replicate]
    split
    · show ((List.replicate n 0)[j]?).getD 0 = 0
      rw [List.getElem?_replicate]
      split <;> rfl
    · rfl
theorem ways_none {n : Nat} : WaysOk n (Sr82.noWays n) := by
  have e : ∀ i j, way (Sr82.noWays n) i j = 0 := way_none
  refine ⟨by simp [Sr82.noWays], fun r hr => ?_, fun i j _ _ => by rw [e]; omega, fun i _ => e i i, fun i j _ _ => by rw [e, e]⟩
  unfold Sr82.noWays at hr
  rw [(List.mem_replicate.mp hr).2]
  simp
theorem way_set {n : Nat} {g : Ways} (ok : WaysOk n g) {i j x : Nat} (hi : i < n) (hj : j < n) (hij : i ≠ j) : ∀ a b, way (Sr82.setWay g i j x) a b = if (a = i ∧ b = j) ∨ (a = j ∧ b = i) then x else way g a b := by
  intro a b
  have hlen := ok.len
  have row : ∀ k, k < n → (g.getD k []).length = n := fun k hk => by
    rw [List.getD_eq_getElem?_getD, List.getElem?_eq_getElem (by omega)]
    exact ok.row _ (List.getElem_mem _)
  have hl : (g.set i ((g.getD i []).set j x)).length = n := by rw [List.length_set, hlen]
  have e2 : ∀ a, (g.set i ((g.getD i []).set j x)).getD a [] = if a = i then (g.getD i []).set j x else g.getD a [] := fun a => by
    rw [getD_set]
    by_cases c : a = i
    · rw [if_pos ⟨c, by omega⟩, if_pos c]
    · rw [if_neg fun z => c z.1, if_neg c]
  have e1 : ∀ a, (Sr82.setWay g i j x).getD a [] = if a = j then (g.getD j []).set i x else if a = i then (g.getD i []).set j x else g.getD a [] := fun a => by
    show ((g.set i ((g.getD i []).set j x)).set j (((g.set i ((g.getD i []).set j x)).getD j []).set i x)).getD a [] = _
    rw [getD_set, e2, e2, if_neg (show ¬ j = i by omega), hl]
    by_cases c : a = j
    · rw [if_pos ⟨c, hj⟩, if_pos c]
    · rw [if_neg fun z => c z.1, if_neg c]
  show ((Sr82.setWay g i j x).getD a []).getD b 0 = if (a = i ∧ b = j) ∨ (a = j ∧ b = i) then x else (g.getD a []).getD b 0
  rw [e1]
  by_cases c : a = j
  · rw [if_pos c, getD_set, row j hj]
    by_cases d : b = i
    · rw [if_pos ⟨d, hi⟩, if_pos (Or.inr ⟨c, d⟩)]
    · rw [if_neg (fun z => d z.1), if_neg (by omega), c]
  · rw [if_neg c]
    by_cases d : a = i
    · rw [if_pos d, getD_set, row i hi]
      by_cases e : b = j
      · rw [if_pos ⟨e, hj⟩, if_pos (Or.inl ⟨d, e⟩)]
      · rw [if_neg (fun z => e z.1), if_neg (by omega), d]
    · rw [if_neg d, if_neg (by omega)]
theorem ways_set {n : Nat} {g : Ways} (ok : WaysOk n g) {i j x : Nat} (hi : i < n) (hj : j < n) (hij : i ≠ j) (hx : x ≤ 9) : WaysOk n (Sr82.setWay g i j x) := by
  have e := way_set (x := x) ok hi hj hij
  have hlen := ok.len
  have rowd : ∀ {h : Ways} {k : Nat}, (∀ r ∈ h, r.length = n) → k < h.length → (h.getD k []).length = n := fun {h k} hr hk => by
    rw [List.getD_eq_getElem?_getD, List.getElem?_eq_getElem hk]
    exact hr _ (List.getElem_mem _)
  have setr : ∀ {h : Ways} {k : Nat} {v : List Nat}, (∀ r ∈ h, r.length = n) → v.length = n → ∀ r ∈ h.set k v, r.length = n := fun {h k v} hr hv r hm => by
    rcases List.mem_or_eq_of_mem_set hm with z | z
    · exact hr r z
    · rw [z]
      exact hv
  have h1 : ∀ r ∈ g.set i ((g.getD i []).set j x), r.length = n := setr ok.row (by rw [List.length_set]; exact rowd ok.row (by omega))
  refine ⟨?_, ?_, fun a b ha hb => ?_, fun a ha => ?_, fun a b ha hb => ?_⟩
  · unfold Sr82.setWay
    dsimp only
    rw [List.length_set, List.length_set]
    exact hlen
  · unfold Sr82.setWay
    dsimp only
    exact setr h1 (by rw [List.length_set]; exact rowd h1 (by rw [List.length_set]; omega))
  · rw [e]
    split
    · exact hx
    · exact ok.le a b ha hb
  · rw [e, if_neg (by omega)]
    exact ok.self a ha
  · rw [e, e]
    by_cases c : (a = i ∧ b = j) ∨ (a = j ∧ b = i)
    · rw [if_pos c, if_pos (by omega)]
    · rw [if_neg c, if_neg (by omega)]
      exact ok.sym a b ha hb
theorem GOk.put {g : Ground} (h : GOk g) {k : Int} {x : List Frac} (hx : SprOk g.n x) : GOk (Sr82.put g k x) := by
  refine ⟨h.n0, h.n6, h.ways, ?_, fun y hy => ?_⟩
  · show (g.s.set _ _).length = 4
    rw [List.length_set]
    exact h.four
  · rcases List.mem_or_eq_of_mem_set (show y ∈ g.s.set k.toNat x from hy) with z | z
    · exact h.slots y z
    · rw [z]
      exact hx
theorem gok_new {n : Nat} (h0 : 0 < n) (h6 : n ≤ 6) : GOk ⟨n, Sr82.noWays n, List.replicate Sr80.SLOTS (Sr80.sure n)⟩ :=
  ⟨h0, h6, ways_none, by simp [Sr80.SLOTS], fun x hx => by
    rw [(List.mem_replicate.mp hx).2, ← (spr_first h0).2]
    exact (spr_first h0).1⟩
theorem GOk.set {g : Ground} (h : GOk g) {i j x : Nat} (hi : i < g.n) (hj : j < g.n) (hij : i ≠ j) (hx : x ≤ 9) : GOk { g with g := Sr82.setWay g.g i j x } :=
  ⟨h.n0, h.n6, ways_set h.ways hi hj hij hx, h.four, h.slots⟩
end EH
end

/-! ## EhFlat -/
section
set_option autoImplicit false
set_option linter.all false
/-! The calls in one list, and what the instance becomes. Core Lean and the specification's modules. -/
namespace EH
open Sr82 (Ground)
/-- of an operation: how many numbers it has, and whether a row follows -/
def forms : List (Nat × Bool) := [(1, false), (3, false), (1, true), (1, false), (2, false), (2, false), (2, false), (2, false), (3, true), (2, true), (3, false), (2, true), (3, false), (0, false)]
/-- the call that begins at i -/
structure CallAtI (ls : List Int) (i p many : Nat) (hasRow : Bool) (ns row : List Int) (e : Nat) : Prop where
  at_ : ls[i]? = some (p : Int)
  form : forms[p]? = some (many, hasRow)
  len : i + 1 + many ≤ ls.length
  nums : ns = (ls.drop (i + 1)).take many
  yes : hasRow = true → ∃ m : Nat, ls[i + 1 + many]? = some (m : Int) ∧ i + 1 + many + 1 + m ≤ ls.length ∧ row = (ls.drop (i + 1 + many + 1)).take m ∧ e = i + 1 + many + 1 + m
  no : hasRow = false → row = [] ∧ e = i + 1 + many
theorem shape_form {p : Int} {n k : Nat} (h : PySr82.shape p = some (n, k)) : ∃ q : Nat, p = q ∧ ∃ b, forms[q]? = some (n, b) ∧ k = if b = true then 1 else 0 := by
  by_cases h0 : p = 0
  · subst h0
    have e : PySr82.shape 0 = some (1, 0) := rfl
    rw [e] at h
    cases h
    exact ⟨0, rfl, false, rfl, rfl⟩
  by_cases h1 : p = 1
  · subst h1
    have e : PySr82.shape 1 = some (3, 0) := rfl
    rw [e] at h
    cases h
    exact ⟨1, rfl, false, rfl, rfl⟩
  by_cases h2 : p = 2
  · subst h2
    have e : PySr82.shape 2 = some (1, 1) := rfl
    rw [e] at h
    cases h
    exact ⟨2, rfl, true, rfl, rfl⟩
  by_cases h3 : p = 3
  · subst h3
    have e : PySr82.shape 3 = some (1, 0) := rfl
    rw [e] at h
    cases h
    exact ⟨3, rfl, false, rfl, rfl⟩
  by_cases h4 : p = 4
  · subst h4
    have e : PySr82.shape 4 = some (2, 0) := rfl
    rw [e] at h
    cases h
    exact ⟨4, rfl, false, rfl, rfl⟩
  by_cases h5 : p = 5
  · subst h5
    have e : PySr82.shape 5 = some (2, 0) := rfl
    rw [e] at h
    cases h
    exact ⟨5, rfl, false, rfl, rfl⟩
  by_cases h6 : p = 6
  · subst h6
    have e : PySr82.shape 6 = some (2, 0) := rfl
    rw [e] at h
    cases h
    exact ⟨6, rfl, false, rfl, rfl⟩
  by_cases h7 : p = 7
  · subst h7
    have e : PySr82.shape 7 = some (2, 0) := rfl
    rw [e] at h
    cases h
    exact ⟨7, rfl, false, rfl, rfl⟩
  by_cases h8 : p = 8
  · subst h8
    have e : PySr82.shape 8 = some (3, 1) := rfl
    rw [e] at h
    cases h
    exact ⟨8, rfl, true, rfl, rfl⟩
  by_cases h9 : p = 9
  · subst h9
    have e : PySr82.shape 9 = some (2, 1) := rfl
    rw [e] at h
    cases h
    exact ⟨9, rfl, true, rfl, rfl⟩
  by_cases h10 : p = 10
  · subst h10
    have e : PySr82.shape 10 = some (3, 0) := rfl
    rw [e] at h
    cases h
    exact ⟨10, rfl, false, rfl, rfl⟩
  by_cases h11 : p = 11
  · subst h11
    have e : PySr82.shape 11 = some (2, 1) := rfl
    rw [e] at h
    cases h
    exact ⟨11, rfl, true, rfl, rfl⟩
  by_cases h12 : p = 12
  · subst h12
    have e : PySr82.shape 12 = some (3, 0) := rfl
    rw [e] at h
    cases h
    exact ⟨12, rfl, false, rfl, rfl⟩
  by_cases h13 : p = 13
  · subst h13
    have e : PySr82.shape 13 = some (0, 0) := rfl
    rw [e] at h
    cases h
    exact ⟨13, rfl, false, rfl, rfl⟩
  unfold PySr82.shape at h
  rw [if_neg h0, if_neg h1, if_neg h2, if_neg h3, if_neg h4, if_neg h5, if_neg h6, if_neg h7, if_neg h8, if_neg h9, if_neg h10, if_neg h11, if_neg h12, if_neg h13] at h
  cases h
theorem flat_next {ls : List Int} {i f : Nat} {c : List (List Int)} {cs : List (List (List Int))} (h : PyFlat.calls PySr82.shape f (ls.drop i) = some (c :: cs)) :
    ∃ (p many : Nat) (b : Bool) (ns row : List Int) (e f' : Nat), CallAtI ls i p many b ns row e ∧ c = (((p : Int) :: ns) :: if b = true then [row] else []) ∧ PyFlat.calls PySr82.shape f' (ls.drop e) = some cs ∧ e ≤ ls.length ∧ i < e := by
  cases hd : ls.drop i with
  | nil =>
    rw [hd] at h
    cases f <;> cases h
  | cons p r =>
    rw [hd] at h
    have hi : i < ls.length := by
      rcases Nat.lt_or_ge i ls.length with z | z
      · exact z
      · rw [List.drop_eq_nil_of_le z] at hd
        cases hd
    have hp : ls[i]? = some p := by
      have := List.getElem?_drop (xs := ls) (i := i) (j := 0)
      rw [hd] at this
      simpa using this.symm
    have hr : r = ls.drop (i + 1) := by
      have := List.drop_drop (i := 1) (j := i) (l := ls)
      rw [hd] at this
      simpa [Nat.add_comm] using this
    have hrl : r.length = ls.length - (i + 1) := by rw [hr, List.length_drop]
    cases f with
    | zero => cases h
    | succ f =>
      have h : (match PyFlat.call PySr82.shape (p :: r) with
        | none => none
        | some (c, t) => match PyFlat.calls PySr82.shape f t with
          | none => none
          | some cs => some (c :: cs)) = some (c :: cs) := h
      cases hc : PyFlat.call PySr82.shape (p :: r) with
      | none => rw [hc] at h; cases h
      | some y =>
        obtain ⟨c', t⟩ := y
        rw [hc] at h
        dsimp only at h
        cases hcs : PyFlat.calls PySr82.shape f t with
        | none => rw [hcs] at h; cases h
        | some cs' =>
          rw [hcs] at h
          have h := Option.some.inj h
          have e1 : c' = c := (List.cons.inj h).1
          have e2 : cs' = cs := (List.cons.inj h).2
          subst e1 e2
          have hc : (match PySr82.shape p with
            | none => none
            | some (n, k) => if r.length < n then none else match PyFlat.rows k (r.drop n) with
              | none => none
              | some (xs, t) => some ((p :: r.take n) :: xs, t)) = some (c', t) := hc
          cases hs : PySr82.shape p with
          | none => rw [hs] at hc; cases hc
          | some nk =>
            obtain ⟨n, k⟩ := nk
            rw [hs] at hc
            dsimp only at hc
            by_cases hn : r.length < n
            · rw [if_pos hn] at hc
              cases hc
            · rw [if_neg hn] at hc
              obtain ⟨q, rfl, b, hform, hk⟩ := shape_form hs
              cases b with
              | false =>
                rw [if_neg (by decide)] at hk
                subst hk
                have hc : some (((q : Int) :: r.take n) :: [], r.drop n) = some (c', t) := hc
                have hc := Option.some.inj hc
                have e3 := (Prod.mk.inj hc).1
                have e4 := (Prod.mk.inj hc).2
                refine ⟨q, n, false, r.take n, [], i + 1 + n, f, ⟨hp, hform, by omega, by rw [hr], (fun z => by cases z), fun _ => ⟨rfl, rfl⟩⟩, e3.symm, ?_, by omega, by omega⟩
                rw [← hcs, ← e4, hr, List.drop_drop]
              | true =>
                rw [if_pos rfl] at hk
                subst hk
                have hc : (match (match PyFlat.row (r.drop n) with
                  | none => none
                  | some (x, s) => match PyFlat.rows 0 s with
                    | none => none
                    | some (xs, t) => some (x :: xs, t)) with
                  | none => none
                  | some (xs, t) => some (((q : Int) :: r.take n) :: xs, t)) = some (c', t) := hc
                cases hrow : PyFlat.row (r.drop n) with
                | none => rw [hrow] at hc; cases hc
                | some y =>
                  obtain ⟨x, s⟩ := y
                  rw [hrow] at hc
                  have hc : some (((q : Int) :: r.take n) :: [x], s) = some (c', t) := hc
                  have hc := Option.some.inj hc
                  have e3 := (Prod.mk.inj hc).1
                  have e4 := (Prod.mk.inj hc).2
                  cases hd2 : r.drop n with
                  | nil => rw [hd2] at hrow; cases hrow
                  | cons m r2 =>
                    rw [hd2] at hrow
                    have hrow : (if 0 ≤ m ∧ m.toNat ≤ r2.length then some (r2.take m.toNat, r2.drop m.toNat) else none) = some (x, s) := hrow
                    by_cases hm : 0 ≤ m ∧ m.toNat ≤ r2.length
                    · rw [if_pos hm] at hrow
                      have hrow := Option.some.inj hrow
                      have e5 := (Prod.mk.inj hrow).1
                      have e6 := (Prod.mk.inj hrow).2
                      have hd3 : ls.drop (i + 1 + n) = m :: r2 := by
                        rw [← hd2, hr, List.drop_drop]
                      have hlt : i + 1 + n < ls.length := by
                        rcases Nat.lt_or_ge (i + 1 + n) ls.length with z | z
                        · exact z
                        · rw [List.drop_eq_nil_of_le z] at hd3
                          cases hd3
                      have hm2 : ls[i + 1 + n]? = some m := by
                        have := List.getElem?_drop (xs := ls) (i := i + 1 + n) (j := 0)
                        rw [hd3] at this
                        simpa using this.symm
                      have hr2 : r2 = ls.drop (i + 1 + n + 1) := by
                        have := List.drop_drop (i := 1) (j := i + 1 + n) (l := ls)
                        rw [hd3] at this
                        simpa [Nat.add_comm] using this
                      have hl2 : r2.length = ls.length - (i + 1 + n + 1) := by rw [hr2, List.length_drop]
                      obtain ⟨k, rfl⟩ : ∃ k : Nat, m = k := ⟨m.toNat, by omega⟩
                      rw [Int.toNat_natCast] at e5 e6 hm
                      refine ⟨q, n, true, r.take n, x, i + 1 + n + 1 + k, f, ⟨hp, hform, by omega, by rw [hr], fun _ => ⟨k, hm2, by omega, by rw [← hr2, e5], rfl⟩, (fun z => by cases z)⟩, e3.symm, ?_, by omega, by omega⟩
                      rw [← hcs, ← e4, ← e6, hr2, List.drop_drop]
                    · rw [if_neg hm] at hrow
                      cases hrow
theorem flat_end {ls : List Int} {i f : Nat} (h : PyFlat.calls PySr82.shape f (ls.drop i) = some []) : ls.length ≤ i := by
  cases hd : ls.drop i with
  | nil =>
    have := congrArg List.length hd
    rw [List.length_drop] at this
    simp at this
    omega
  | cons p r =>
    rw [hd] at h
    cases f with
    | zero => cases h
    | succ f =>
      have h : (match PyFlat.call PySr82.shape (p :: r) with
        | none => none
        | some (c, t) => match PyFlat.calls PySr82.shape f t with
          | none => none
          | some cs => some (c :: cs)) = some [] := h
      cases hc : PyFlat.call PySr82.shape (p :: r) with
      | none => rw [hc] at h; cases h
      | some y =>
        obtain ⟨c', t⟩ := y
        rw [hc] at h
        dsimp only at h
        cases hcs : PyFlat.calls PySr82.shape f t with
        | none => rw [hcs] at h; cases h
        | some cs' => rw [hcs] at h; cases h
theorem whole_id : ∀ c : List (List Int), PySr82.whole c = c := by
  intro c
  unfold PySr82.whole
  split <;> rfl
/-- what an operation leaves is an instance again -/
theorem doing_ok {g g' : Ground} {c : Sr82.Call} (h : GOk g) (e : (Sr82.doing g c).1 = some g') : GOk g' := by
  have no : ∀ {x : Option Ground}, x = none → x = some g' → GOk g' := fun a b => by rw [a] at b; cases b
  cases c with
  | begin_ n => cases e
  | way i j x =>
    have e : (if Sr82.isP g i = false ∨ Sr82.isP g j = false then ((none, Sr82.say (-2)) : Option Ground × Sr66.Ans) else if i = j ∨ x < 0 ∨ (Sr82.LONG : Int) < x then (none, Sr82.say (-22)) else (some { g with g := Sr82.setWay g.g i.toNat j.toNat x.toNat }, Sr82.say (Sr82.way g.g i.toNat j.toNat : Nat))).1 = some g' := e
    split at e
    · cases e
    · rename_i c1
      split at e
      · cases e
      · rename_i c2
        have e := Option.some.inj e
        rw [← e]
        have h9 : (Sr82.LONG : Int) = 9 := rfl
        have hi : 0 ≤ i ∧ i < g.n := by
          rcases Classical.em (Sr82.isP g i = true) with z | z
          · unfold Sr82.isP at z
            rw [Bool.and_eq_true, decide_eq_true_eq, decide_eq_true_eq] at z
            exact z
          · exact absurd (Or.inl (by simpa using z)) c1
        have hj : 0 ≤ j ∧ j < g.n := by
          rcases Classical.em (Sr82.isP g j = true) with z | z
          · unfold Sr82.isP at z
            rw [Bool.and_eq_true, decide_eq_true_eq, decide_eq_true_eq] at z
            exact z
          · exact absurd (Or.inr (by simpa using z)) c1
        exact h.set (by omega) (by omega) (by omega) (by omega)
  | spread k w =>
    have e : (if Sr80.isK k = false then ((none, Sr82.say (-2)) : Option Ground × Sr66.Ans) else if Sr80.okW g.n w = false then (none, Sr82.say (-22)) else (some (Sr82.put g k (Sr80.spreadOf (w.map fun x => x.toNat))), Sr82.say 0)).1 = some g' := e
    split at e
    · cases e
    · split at e
      · cases e
      · rename_i c2
        have e := Option.some.inj e
        rw [← e]
        have c2 : Sr80.okW g.n w = true := by simpa using c2
        unfold Sr80.okW at c2
        rw [Bool.and_eq_true, Bool.and_eq_true, decide_eq_true_eq, List.all_eq_true, List.any_eq_true] at c2
        obtain ⟨h1, h2, x, hx, h3⟩ := c2
        refine h.put (spr_weights h.n6 (by rw [List.length_map]; exact h1) (fun y hy => ?_) ⟨x.toNat, List.mem_map.mpr ⟨x, hx, rfl⟩, ?_⟩).1
        · obtain ⟨z, hz, rfl⟩ := List.mem_map.mp hy
          have := h2 z hz
          rw [Bool.and_eq_true, decide_eq_true_eq, decide_eq_true_eq] at this
          omega
        · have := of_decide_eq_true h3
          omega
  | told k => exact no rfl e
  | far i j => exact no rfl e
  | least k l => exact no rfl e
  | plan k l => exact no rfl e
  | prices k l => exact no rfl e
  | test k l a p => exact no rfl e
  | fair k l f => exact no rfl e
  | behind k l m => exact no rfl e
  | hangs => exact no rfl e
  | image k m f =>
    have e : (if Sr80.isK k = false ∨ Sr80.isK m = false then ((none, Sr82.say (-2)) : Option Ground × Sr66.Ans) else if f.length ≠ g.n ∨ f.any (fun x => decide (x < 0) || decide ((g.n : Int) ≤ x)) then (none, Sr82.say (-22)) else (some (Sr82.put g m (Sr80.image g.n (Sr82.at_ g k) (f.map fun x => x.toNat))), Sr82.say 0)).1 = some g' := e
    split at e
    · cases e
    · rename_i c1
      split at e
      · cases e
      · rename_i c2
        have e := Option.some.inj e
        rw [← e]
        have hk : Sr80.isK k = true := by
          rcases Classical.em (Sr80.isK k = true) with z | z
          · exact z
          · exact absurd (Or.inl (by simpa using z)) c1
        have hlen : f.length = g.n := by
          rcases Classical.em (f.length = g.n) with z | z
          · exact z
          · exact absurd (Or.inl z) c2
        refine h.put (spr_image (h.slot hk).1 fun i hi => ?_).1
        have hlt : i < f.length := by omega
        rw [List.getD_eq_getElem?_getD, List.getElem?_map, List.getElem?_eq_getElem hlt]
        show f[i].toNat < g.n
        have h3 : ¬ (f[i] < 0 ∨ (g.n : Int) ≤ f[i]) := fun z => c2 (Or.inr (List.any_eq_true.mpr ⟨f[i], List.getElem_mem hlt, by rw [Bool.or_eq_true, decide_eq_true_eq, decide_eq_true_eq]; exact z⟩))
        omega
  | middle k l m =>
    have e : (if Sr80.isK k = false ∨ Sr80.isK l = false ∨ Sr80.isK m = false then ((none, Sr82.say (-2)) : Option Ground × Sr66.Ans) else if (Sr80.mixed g.n (Sr82.at_ g k) (Sr82.at_ g l) (Sr58.frac 1 2)).all (fun x => decide (x.d ≤ 100000)) then (some (Sr82.put g m (Sr80.mixed g.n (Sr82.at_ g k) (Sr82.at_ g l) (Sr58.frac 1 2))), Sr82.say 0) else (none, Sr82.say (-75))).1 = some g' := e
    split at e
    · cases e
    · rename_i c1
      split at e
      · rename_i c2
        have e := Option.some.inj e
        rw [← e]
        have hk : Sr80.isK k = true := by
          rcases Classical.em (Sr80.isK k = true) with z | z
          · exact z
          · exact absurd (Or.inl (by simpa using z)) c1
        have hl : Sr80.isK l = true := by
          rcases Classical.em (Sr80.isK l = true) with z | z
          · exact z
          · exact absurd (Or.inr (Or.inl (by simpa using z))) c1
        obtain ⟨D, A, B, _, _, _, hm, _⟩ := spr_mean (h.slot hk).1 (h.slot hl).1
        refine h.put (spr_small h.n6 hm fun a ha => ?_)
        rw [List.all_eq_true] at c2
        exact of_decide_eq_true (c2 a ha)
      · cases e
end EH
end

/-! ## EwBase -/
section
set_option Elab.async false
set_option linter.all false
set_option maxRecDepth 100000
set_option maxHeartbeats 2000000
set_option autoImplicit false
/-! The program's text by places, and what the walks have in common. -/
namespace EW
open PySem PySem.Spec PyProof.Rows L2
open Sr58 (Frac)

/-- the i-th statement of the program -/
def top (i : Nat) : Stmt := PySem.Challenge.pw_earthheaps_s01_answers.main.body.getD i (.Pass ⟨0, 0, 0, 0⟩)

/-- names of built-ins that the program leaves as they are -/
structure Nb (mg : Str → Option Value) : Prop where
  len_ : mg "len" = none
  range_ : mg "range" = none
  min_ : mg "min" = none
  max_ : mg "max" = none
  sum_ : mg "sum" = none
  abs_ : mg "abs" = none
  zip_ : mg "zip" = none
  list_ : mg "list" = none
  all_ : mg "all" = none
  int_ : mg "int" = none
  ValueError_ : mg "ValueError" = none

/-- a def of the program and its promise -/
structure Df (P : Program) (w : World) (K : PySem.W.Frag) (mg : Str → Option Value) (base : Heap) (CX : CXT) (k : Nat) (x : Str) (sp : Sp) : Prop where
  ex : ∃ (f : Addr) (fd : FuncData) (ps : List Str), FnOk P w K mg base CX k f fd ps sp ∧ mg x = some (.ref f) ∧ PySem.W.keepIn K (.ref f) = true ∧ Binds K fd ps []
section
variable {X : Cx} {k j : Nat} {x : Str} {sp : Sp} {p pos : Pos} {e : Expr} {es : List Expr} {t : TA} {E : XK}
theorem pe_c0 (c : Df X.prog X.w X.K X.mg X.base CX0 k x sp) (hr : Room j X.A) (hk : k ≤ j) (hg : Gl X x) (ha : PA X (e :: es) t)
    (hdb : (x == ("__debug__" : Str)) = false := by decide) (he : starEach (e :: es) X.env = (false, eval e X.env) :: starEach es X.env := by rfl) (hpl : (backTo pos (starEach es X.env)).any (·.1) = false := by rfl) :
    PE X (.Call (.Name x p) (e :: es) [] pos) (tCall sp [] E0 t) := by
  obtain ⟨f, fd, ps, F, hm, kp, b⟩ := c.ex
  exact pe_call F (hr.mono hk) hg hm kp b .nil pass0 ha hdb he hpl
theorem pe_cX (c : Df X.prog X.w X.K X.mg X.base (L2.CX X.prog X.w) k x sp) (hr : Room j X.A) (hk : k ≤ j) (hg : Gl X x) (hx : Passes (L2.CX X.prog X.w) X E) (ha : PA X (e :: es) t)
    (hdb : (x == ("__debug__" : Str)) = false := by decide) (he : starEach (e :: es) X.env = (false, eval e X.env) :: starEach es X.env := by rfl) (hpl : (backTo pos (starEach es X.env)).any (·.1) = false := by rfl) :
    PE X (.Call (.Name x p) (e :: es) [] pos) (tCall sp [] E t) := by
  obtain ⟨f, fd, ps, F, hm, kp, b⟩ := c.ex
  exact pe_call F (hr.mono hk) hg hm kp b .nil hx ha hdb he hpl
/-- a constant of the module -/
theorem pe_gk {v : V} (hg : Gl X x) (h : ∃ u, X.mg x = some u ∧ RelV v u) (hdb : (x == ("__debug__" : Str)) = false := by decide) : PE X (.Name x pos) (tC v) := by
  obtain ⟨u, hm, r⟩ := h
  exact pe_glob hg hm r hdb
/-- the same rules where the written part is named -/
theorem ixT {K : PySem.W.Frag} (h : X.K = K := by rfl) : IxR X (rIxT K) := by
  subst h
  exact ix_tup
theorem ixL {K : PySem.W.Frag} (h : X.K = K := by rfl) : IxR X (rIxL K) := by
  subst h
  exact ix_list
theorem piL {K : PySem.W.Frag} {tg l : Expr} {tl : TE} (hl : PE X l tl) (h : X.K = K := by rfl) : PI X tg l (iList K tl) := by
  subst h
  exact pi_list hl
theorem pgT {K : PySem.W.Frag} {es : List Expr} {k : Nat} {t : TGs} {n : Nat} (hc : X.calm = true) (hg : PGs X es t) (hn : (assignEach es X.env).length = n := by rfl) (hst : (assignEach es X.env).findIdx? (·.1) = none := by rfl) (h : X.K = K := by rfl) : PG X (.Tuple es k pos) (gTup K n t) := by
  subst h
  exact pg_tup hc hg hn hst
theorem peF {K : PySem.W.Frag} {f : Str} {o : Expr} {ta : TE} (ho : PE X o ta) (hb : attributeBase o f X.env (eval o X.env) = eval o X.env) (h : X.K = K := by rfl) : PE X (.Attribute o f pos) (tFld K ta f) := by
  subst h
  exact pe_fld ho hb
/-- xs[i] by its values, to be changed -/
theorem get_list : PGet X (rIxL X.K) := by
  intro pins s σ H x y v u Q I rx ry h
  obtain ⟨p, xs, i, z, rfl, rfl, hq, he, q⟩ := h
  cases rx
  obtain ⟨t, rfl⟩ := ry
  obtain ⟨its, r, pl, hz⟩ := I.list hq
  obtain ⟨j, h1, h2, h3, h4, h5⟩ := atI_get he
  obtain ⟨w, ew, rw'⟩ := r.get h2
  have hl := r.length
  have hn := line63
  have fin : EP X pins σ Q w s := ⟨z, H, I, rw', q⟩
  by_cases h0 : 0 ≤ i
  · have hj : i.toNat = j := by
      rw [seqIndex_of h0 h5] at h1
      exact Option.some.inj h1
    exact wpAny_getItem_list pl.isList h0 (by omega) (by rw [hj]; simpa using ew) fin
  · have hj : (i + (its.toArray.size : Int)).toNat = j := by
      rw [seqIndex_neg (by omega) h4] at h1
      rw [List.size_toArray, ← hl]
      exact Option.some.inj h1
    exact wpAny_getItem_list_neg pl.isList (by omega) (by rw [List.size_toArray] <;> omega) (by omega) (by rw [hj]; simpa using ew) fin
end

/-! ### what lies in the heap -/
section
variable (K : PySem.W.Frag)
/-- a fraction: a tuple -/
def FrAt (H : Hp) (a : Addr) (x : Frac) : Prop := SqT K H a [.int x.n, .int (x.d : Int)]
/-- a list of what stands at addresses -/
def ListOf {α : Type} (F : Hp → Addr → α → Prop) (H : Hp) (a : Addr) (xs : List α) : Prop := ∃ as : List Addr, H a = some (.lst (as.map V.ref)) ∧ Paired (F H) as xs
def IntsAt (H : Hp) (a : Addr) (ns : List Int) : Prop := SqL K H a (ns.map V.int)
def BoolsAt (H : Hp) (a : Addr) (ns : List Bool) : Prop := SqL K H a (ns.map V.bl)
abbrev FracsAt : Hp → Addr → List Frac → Prop := ListOf (FrAt K)
abbrev MatAt : Hp → Addr → List (List Int) → Prop := ListOf (IntsAt K)
abbrev MatBAt : Hp → Addr → List (List Bool) → Prop := ListOf (BoolsAt K)
abbrev MatFAt : Hp → Addr → List (List Frac) → Prop := ListOf (FracsAt K)
end
section
variable {K : PySem.W.Frag} {H H' : Hp} {a : Addr}
theorem same_sqT {xs : List V} (e : Same H H') (h : SqT K H a xs) : SqT K H' a xs := by
  rcases h with (h | ⟨o, h⟩) | h
  · exact .inl (.inl (e _ _ h))
  · exact .inl (.inr ⟨o, e _ _ h⟩)
  · exact .inr h
theorem same_fr {x : Frac} (e : Same H H') (h : FrAt K H a x) : FrAt K H' a x := same_sqT e h
theorem same_ints {x : List Int} (e : Same H H') (h : IntsAt K H a x) : IntsAt K H' a x := e.seq h
theorem same_bools {x : List Bool} (e : Same H H') (h : BoolsAt K H a x) : BoolsAt K H' a x := e.seq h
theorem same_list {α : Type} {F : Hp → Addr → α → Prop} (hF : ∀ {a : Addr} {x : α}, F H a x → F H' a x) {xs : List α} (e : Same H H') (h : ListOf F H a xs) : ListOf F H' a xs := by
  obtain ⟨as, h1, h2⟩ := h
  exact ⟨as, e _ _ h1, Paired.mapP h2 fun _ _ q => hF q⟩
theorem same_fracs {x : List Frac} (e : Same H H') (h : FracsAt K H a x) : FracsAt K H' a x := same_list (same_fr e) e h
theorem same_mat {x : List (List Int)} (e : Same H H') (h : MatAt K H a x) : MatAt K H' a x := same_list (same_ints e) e h
theorem same_matB {x : List (List Bool)} (e : Same H H') (h : MatBAt K H a x) : MatBAt K H' a x := same_list (same_bools e) e h
theorem same_matF {x : List (List Frac)} (e : Same H H') (h : MatFAt K H a x) : MatFAt K H' a x := same_list (same_fracs e) e h
theorem same_upd {p : Addr} {o : HO} (h : H p = none) : Same H (upd H p o) := fun b u e => by
  rw [upd_ne (ne_of_none e h)]
  exact e
/-- a new thing is handed back, all that was tracked stands -/
def Hands {α : Type} (F : Hp → Addr → α → Prop) (H : Hp) (Q : VK) (x : α) : Prop := ∀ (H' : Hp) (p : Addr), Same H H' → F H' p x → Q (.ref p) H'
/-- .. and it stands at a new place -/
def HandsN {α : Type} (F : Hp → Addr → α → Prop) (H : Hp) (Q : VK) (x : α) : Prop := ∀ (H' : Hp) (p : Addr), Same H H' → H p = none → F H' p x → Q (.ref p) H'
/-- a list that was made -/
def IntsL (H : Hp) (a : Addr) (ns : List Int) : Prop := H a = some (.lst (ns.map V.int))
theorem IntsL.at_ {K : PySem.W.Frag} {H : Hp} {a : Addr} {ns : List Int} (h : IntsL H a ns) : IntsAt K H a ns := SqL.of h
theorem ListOf.seq {α : Type} {F : Hp → Addr → α → Prop} {H : Hp} {a : Addr} {xs : List α} (h : ListOf F H a xs) {K : PySem.W.Frag} : ∃ as : List Addr, SqL K H a (as.map V.ref) ∧ Paired (F H) as xs := by
  obtain ⟨as, h1, h2⟩ := h
  exact ⟨as, SqL.of h1, h2⟩
theorem Hands.of {α : Type} {F : Hp → Addr → α → Prop} {H : Hp} {Q : VK} {x : α} (h : Hands F H Q x) : HandsN F H Q x := fun H' p s _ q => h H' p s q
theorem map_get {α β : Type} {f : α → β} {l : List α} {i : Nat} {y : β} (h : (l.map f)[i]? = some y) : ∃ x, l[i]? = some x ∧ y = f x := by
  rw [List.getElem?_map] at h
  cases e : l[i]? with
  | none => rw [e] at h; cases h
  | some b => rw [e] at h; exact ⟨b, rfl, (Option.some.inj h).symm⟩
/-- the i-th of what is listed -/
theorem ListOf.nth {α : Type} {F : Hp → Addr → α → Prop} {H : Hp} {as : List Addr} {xs : List α} (hp : Paired (F H) as xs) {i : Nat} {b : Addr} (hb : as[i]? = some b) : ∃ x, xs[i]? = some x ∧ F H b x := by
  have hlen : as.length = xs.length := Paired.length hp
  have hi2 : i < as.length := (List.getElem?_eq_some_iff.mp hb).1
  obtain ⟨x, ex⟩ : ∃ x, xs[i]? = some x := ⟨_, List.getElem?_eq_getElem (by omega)⟩
  have key : ∀ {as : List Addr} {xs : List α}, Paired (F H) as xs → ∀ {i : Nat} {b : Addr} {x : α}, as[i]? = some b → xs[i]? = some x → F H b x := by
    intro as xs h
    induction h with
    | nil => intro i b x h1 h2; cases h1
    | cons r t ih =>
      intro i b x h1 h2
      cases i with
      | zero =>
        cases h1
        cases h2
        exact r
      | succ i => exact ih h1 h2
  exact ⟨x, ex, key hp hb ex⟩
end
/-- addresses of the module's own tuples -/
structure Ad where
  zero : Addr
  one : Addr
  half : Addr
  forms : Addr
  ops : Addr
/-- the module's constants -/
structure Gs (K : PySem.W.Frag) (mg : Str → Option Value) (A : Ad) : Prop where
  FAR_graphs_ : ∃ u, mg "FAR_graphs" = some u ∧ RelV (.int 1000) u
  FAR_paths_ : ∃ u, mg "FAR_paths" = some u ∧ RelV (.int 1000000) u
  MOST_POINTS_ : ∃ u, mg "MOST_POINTS" = some u ∧ RelV (.int 6) u
  SLOTS_ : ∃ u, mg "SLOTS" = some u ∧ RelV (.int 4) u
  MOST_LENGTH_ : ∃ u, mg "MOST_LENGTH" = some u ∧ RelV (.int 9) u
  MOST_WEIGHT_ : ∃ u, mg "MOST_WEIGHT" = some u ∧ RelV (.int 20) u
  MOST_POTENTIAL_ : ∃ u, mg "MOST_POTENTIAL" = some u ∧ RelV (.int 999) u
  MOST_DENOMINATOR_ : ∃ u, mg "MOST_DENOMINATOR" = some u ∧ RelV (.int 100000) u
  ZERO_ : ∃ u, mg "ZERO" = some u ∧ RelV (.ref A.zero) u
  ONE_ : ∃ u, mg "ONE" = some u ∧ RelV (.ref A.one) u
  HALF_ : ∃ u, mg "HALF" = some u ∧ RelV (.ref A.half) u
  FORMS_ : ∃ u, mg "FORMS" = some u ∧ RelV (.ref A.forms) u
  OPERATIONS_ : ∃ u, mg "OPERATIONS" = some u ∧ RelV (.ref A.ops) u
  zeroAt : ∀ H, FrAt K H A.zero ⟨0, 1⟩
  oneAt : ∀ H, FrAt K H A.one ⟨1, 1⟩
  halfAt : ∀ H, FrAt K H A.half ⟨1, 2⟩
theorem paired_get {α β : Type} {F : α → β → Prop} : ∀ {xs : List α} {ys : List β}, Paired F xs ys → ∀ {i : Nat} {y : β}, ys[i]? = some y → ∃ x, xs[i]? = some x ∧ F x y
  | _, _, .nil, i, y, h => by cases h
  | _, _, .cons r t, 0, y, h => by
    have e := Option.some.inj h
    subst e
    exact ⟨_, rfl, r⟩
  | _, _, .cons r t, i + 1, y, h => paired_get t h
theorem paired_app {α β : Type} {F : α → β → Prop} : ∀ {xs : List α} {ys : List β} {x : α} {y : β}, Paired F xs ys → F x y → Paired F (xs ++ [x]) (ys ++ [y])
  | _, _, _, _, .nil, h => .cons h .nil
  | _, _, _, _, .cons r t, h => .cons r (paired_app t h)
theorem take_more {α : Type} {l : List α} {i : Nat} {x : α} (h : l[i]? = some x) : l.take (i + 1) = l.take i ++ [x] := by
  rw [List.take_add_one, h]
  rfl

theorem same_over {H H1 : Hp} {L : Addr} {o : HO} (s : Same H H1) (n : H L = none) : Same H (upd H1 L o) := fun b u e => by
  rw [upd_ne (ne_of_none e n)]
  exact s _ _ e
/-! ### what a comprehension builds -/
/-- what is told of things elsewhere stands when the list at D grows -/
def Framed {α : Type} (F : Hp → Addr → α → Prop) : Prop := ∀ (H : Hp) (D p : Addr) (xs ys : List V) (x : α), F H p x → H D = some (.lst xs) → p ≠ D → F (upd H D (.lst ys)) p x
def Kept {α : Type} (F : Hp → Addr → α → Prop) : Prop := ∀ (H H' : Hp) (p : Addr) (x : α), Same H H' → F H p x → F H' p x
theorem sqT_frame {K : PySem.W.Frag} {H : Hp} {D p : Addr} {xs ys zs : List V} (h : SqT K H p zs) (hD : H D = some (.lst xs)) : SqT K (upd H D (.lst ys)) p zs := by
  rcases h with (h | ⟨o, h⟩) | h
  · refine .inl (.inl ?_)
    rw [upd_ne (fun z => by rw [z, hD] at h; cases h)]
    exact h
  · refine .inl (.inr ⟨o, ?_⟩)
    rw [upd_ne (fun z => by rw [z, hD] at h; cases h)]
    exact h
  · exact .inr h
theorem framed_fr {K : PySem.W.Frag} : Framed (FrAt K) := fun H D p xs ys x h hD _ => sqT_frame h hD
theorem kept_fr {K : PySem.W.Frag} : Kept (FrAt K) := fun H H' p x e h => same_fr e h
theorem framed_intsL : Framed IntsL := fun H D p xs ys x h hD hp => by
  unfold IntsL
  rw [upd_ne hp]
  exact h
theorem kept_intsL : Kept IntsL := fun H H' p x e h => e _ _ h
def BoolsL (H : Hp) (a : Addr) (ns : List Bool) : Prop := H a = some (.lst (ns.map V.bl))
theorem framed_boolsL : Framed BoolsL := fun H D p xs ys x h hD hp => by
  unfold BoolsL
  rw [upd_ne hp]
  exact h
theorem kept_boolsL : Kept BoolsL := fun H H' p x e h => e _ _ h
theorem framed_fracs {K : PySem.W.Frag} : Framed (FracsAt K) := fun H D p xs ys x ⟨as, h1, h2⟩ hD hp => ⟨as, by rw [upd_ne hp]; exact h1, Paired.mapP h2 fun _ _ q => sqT_frame q hD⟩
theorem kept_fracs {K : PySem.W.Frag} : Kept (FracsAt K) := fun H H' p x e h => same_fracs e h
theorem Kept.list {α : Type} {F : Hp → Addr → α → Prop} (h : Kept F) : Kept (ListOf F) := fun H H' p x e q => same_list (fun q => h _ _ _ _ e q) e q
/-- a list of things under way: i of them are made -/
def Made {α : Type} (F : Hp → Addr → α → Prop) (H0 : Hp) (D : Addr) (outs : List α) (i : Nat) (H' : Hp) : Prop :=
  ∃ as : List Addr, H' D = some (.lst (as.map V.ref)) ∧ Same H0 H' ∧ Paired (F H') as (outs.take i) ∧ D ∉ as
theorem Made.start {α : Type} {F : Hp → Addr → α → Prop} {H0 : Hp} {D : Addr} {outs : List α} (new : H0 D = none) : Made F H0 D outs 0 (upd H0 D (.lst [])) :=
  ⟨[], upd_same, same_upd new, .nil, by simp⟩
theorem Made.next {α : Type} {F : Hp → Addr → α → Prop} (hk : Kept F) (hf : Framed F) {H0 H' H4 : Hp} {D p : Addr} {outs : List α} {i : Nat} {x : α} (h : Made F H0 D outs i H') (s : Same H' H4) (hx : F H4 p x) (hp : p ≠ D)
    (e : outs[i]? = some x) (new : H0 D = none) (hl : outs.length ≤ 1000) : ∃ acc, H4 D = some (.lst acc) ∧ acc.length < sizeLine ∧ Made F H0 D outs (i + 1) (upd H4 D (.lst (acc ++ [.ref p]))) := by
  obtain ⟨as, h1, h2, h3, h4⟩ := h
  have hD := s _ _ h1
  have hlen : as.length = (outs.take i).length := Paired.length h3
  refine ⟨as.map V.ref, hD, ?_, as ++ [p], ?_, ?_, ?_, ?_⟩
  · rw [List.length_map, hlen, List.length_take]
    exact small1000 (by omega)
  · rw [upd_same, List.map_append]
    rfl
  · intro b o q
    have hb : b ≠ D := ne_of_none q new
    rw [upd_ne hb]
    exact s _ _ (h2 _ _ q)
  · rw [take_more e]
    refine paired_app ?_ (hf _ _ _ _ _ _ hx hD hp)
    have key : ∀ {as : List Addr} {ys : List α}, Paired (F H') as ys → D ∉ as → Paired (F (upd H4 D (.lst (as.map V.ref ++ [V.ref p])))) as ys := fun {as ys} h hn => by
      have : ∀ (zs : List V) {as : List Addr} {ys : List α}, Paired (F H') as ys → D ∉ as → Paired (F (upd H4 D (.lst zs))) as ys := by
        intro zs as ys h
        induction h with
        | nil => intro _; exact .nil
        | cons r t ih => intro hn; exact .cons (hf _ _ _ _ _ _ (hk _ _ _ _ s r) hD (fun z => hn (by rw [z]; exact List.mem_cons_self))) (ih fun z => hn (List.mem_cons_of_mem _ z))
      exact this _ h hn
    exact key h3 h4
  · intro hm
    rcases List.mem_append.mp hm with z | z
    · exact h4 z
    · exact hp (List.mem_singleton.mp z).symm
theorem Made.done {α : Type} {F : Hp → Addr → α → Prop} {H0 H' : Hp} {D : Addr} {outs : List α} {n : Nat} (h : Made F H0 D outs n H') (hn : outs.length = n) : Same H0 H' ∧ ListOf F H' D outs := by
  obtain ⟨as, h1, h2, h3, h4⟩ := h
  rw [List.take_of_length_le (by omega)] at h3
  exact ⟨h2, as, h1, h3⟩
theorem Made.same {α : Type} {F : Hp → Addr → α → Prop} {H0 H' : Hp} {D : Addr} {outs : List α} {i : Nat} (h : Made F H0 D outs i H') : Same H0 H' := h.choose_spec.2.1
theorem Made.ne {α : Type} {F : Hp → Addr → α → Prop} {H0 H' : Hp} {D p : Addr} {outs : List α} {i : Nat} (h : Made F H0 D outs i H') (hp : H' p = none) : p ≠ D := fun z => by
  obtain ⟨as, h1, _⟩ := h
  rw [z, h1] at hp
  cases hp
/-- a list of plain values under way -/
def Vals_ (H0 : Hp) (D : Addr) (outs : List V) (i : Nat) (H' : Hp) : Prop := H' D = some (.lst (outs.take i)) ∧ Same H0 H'
theorem Vals_.start {H0 : Hp} {D : Addr} {outs : List V} (new : H0 D = none) : Vals_ H0 D outs 0 (upd H0 D (.lst [])) := ⟨upd_same, same_upd new⟩
theorem Vals_.next {H0 H' H4 : Hp} {D : Addr} {outs : List V} {i : Nat} {y : V} (h : Vals_ H0 D outs i H') (s : Same H' H4) (e : outs[i]? = some y) (new : H0 D = none) (hl : outs.length ≤ 1000) :
    ∃ acc, H4 D = some (.lst acc) ∧ acc.length < sizeLine ∧ Vals_ H0 D outs (i + 1) (upd H4 D (.lst (acc ++ [y]))) := by
  refine ⟨_, s _ _ h.1, ?_, ?_, ?_⟩
  · rw [List.length_take]
    exact small1000 (by omega)
  · rw [upd_same, take_more e]
  · intro b o q
    rw [upd_ne (ne_of_none q new)]
    exact s _ _ (h.2 _ _ q)
theorem Vals_.done {H0 H' : Hp} {D : Addr} {outs : List V} {n : Nat} (h : Vals_ H0 D outs n H') (hn : outs.length = n) : Same H0 H' ∧ H' D = some (.lst outs) := by
  obtain ⟨h1, h2⟩ := h
  rw [List.take_of_length_le (by omega)] at h1
  exact ⟨h2, h1⟩
theorem range_get {α : Type} {f : Nat → α} {n i : Nat} (h : i < n) : ((List.range n).map f)[i]? = some (f i) := by
  rw [List.getElem?_map, List.getElem?_range h]
  rfl
/-- a comprehension without a test -/
theorem tY {σ : L2.St} {H : Hp} {A B : Hp → Prop} (h : A H) : tYes σ H fun b H3 => if b = true then A H3 else B H3 := by
  show if true = true then A H else B H
  rw [if_pos rfl]
  exact h

/-! ### matrices -/
theorem same_ne {H H' : Hp} {a : Addr} (s : Same H H') (h : H' a = none) : H a = none := s.free h
/-- new things at places of their own, under way -/
def MadeR (F : Nat → Hp → Addr → Prop) (H0 : Hp) (D : Addr) (i : Nat) (H' : Hp) : Prop :=
  ∃ as : List Addr, H' D = some (.lst (as.map V.ref)) ∧ Same H0 H' ∧ as.length = i ∧ (∀ k r, as[k]? = some r → F k H' r ∧ H0 r = none ∧ r ≠ D ∧ H' r ≠ none) ∧ as.Nodup
theorem MadeR.start {F : Nat → Hp → Addr → Prop} {H0 : Hp} {D : Addr} (new : H0 D = none) : MadeR F H0 D 0 (upd H0 D (.lst [])) :=
  ⟨[], upd_same, same_upd new, rfl, fun k r h => by simp at h, List.nodup_nil⟩
theorem MadeR.next {F : Nat → Hp → Addr → Prop} (hk : ∀ k, ∀ H H' p, Same H H' → F k H p → F k H' p) (hf : ∀ k H (D p : Addr) xs ys, F k H p → H D = some (.lst xs) → p ≠ D → F k (upd H D (.lst ys)) p) {H0 H' H4 : Hp} {D p : Addr} {i : Nat}
    (h : MadeR F H0 D i H') (s : Same H' H4) (hx : F i H4 p) (hn : H' p = none) (ht : H4 p ≠ none) (new : H0 D = none) (hl : i ≤ 1000) :
    ∃ acc, H4 D = some (.lst acc) ∧ acc.length < sizeLine ∧ MadeR F H0 D (i + 1) (upd H4 D (.lst (acc ++ [.ref p]))) := by
  obtain ⟨as, h1, h2, h3, h4, h5⟩ := h
  have hD := s _ _ h1
  have hpD : p ≠ D := fun z => by
    rw [z, h1] at hn
    cases hn
  refine ⟨as.map V.ref, hD, ?_, as ++ [p], ?_, ?_, ?_, ?_, ?_⟩
  · rw [List.length_map, h3]
    exact small1000 hl
  · rw [upd_same, List.map_append]
    rfl
  · intro b o q
    rw [upd_ne (ne_of_none q new)]
    exact s _ _ (h2 _ _ q)
  · rw [List.length_append, h3]
    rfl
  · intro k r e
    rcases Nat.lt_or_ge k as.length with q | q
    · rw [List.getElem?_append_left q] at e
      obtain ⟨g1, g2, g3, g4⟩ := h4 k r e
      refine ⟨hf _ _ _ _ _ _ (hk _ _ _ _ s g1) hD g3, g2, g3, ?_⟩
      rw [upd_ne g3]
      cases e5 : H' r with
      | none => exact absurd e5 g4
      | some o => rw [s _ _ e5]; simp
    · rw [List.getElem?_append_right q] at e
      have e6 : k - as.length = 0 := by
        rcases Nat.eq_zero_or_pos (k - as.length) with z | z
        · exact z
        · rw [List.getElem?_eq_none (by simp; omega)] at e
          cases e
      rw [e6] at e
      have e : p = r := Option.some.inj e
      have e7 : k = i := by omega
      subst e e7
      exact ⟨hf _ _ _ _ _ _ hx hD hpD, h2.free hn, hpD, by rw [upd_ne hpD]; exact ht⟩
  · rw [List.nodup_append]
    refine ⟨h5, List.nodup_cons.mpr ⟨by simp, List.nodup_nil⟩, fun a ha b hb => ?_⟩
    rw [List.mem_singleton.mp hb]
    intro z
    obtain ⟨k, hk'⟩ := List.getElem?_of_mem ha
    exact (h4 k a hk').2.2.2 (by rw [z]; exact hn)
/-- the row of a matrix of whole numbers -/
abbrev rowI (n : Nat) (g : Nat → Int) : List V := ((List.range n).map g).map V.int
theorem row_get {n j : Nat} {g : Nat → Int} (h : j < n) : (rowI n g)[j]? = some (.int (g j)) := by
  unfold rowI
  rw [List.map_map, range_get h]
  rfl
theorem row_at {n j : Nat} {g : Nat → Int} (h : j < n) : atI (rowI n g) (j : Int) = some (.int (g j)) := at_of rfl (by
  unfold rowI
  rw [List.map_map, range_get h]
  rfl)
theorem row_len (n : Nat) (g : Nat → Int) : (rowI n g).length = n := by simp [rowI]
theorem ixN_row {n j : Nat} {g : Nat → Int} (h : j < n) : ixN (rowI n g).length (j : Int) = some j := by
  rw [row_len]
  unfold ixN
  rw [if_pos (by omega), if_pos (by omega), Int.toNat_natCast]
theorem row_set {n j : Nat} {g : Nat → Int} {v : Int} : (rowI n g).set j (.int v) = rowI n fun k => if k = j then v else g k := by
  apply List.ext_getElem?
  intro k
  unfold rowI
  rw [List.map_map, List.map_map, List.getElem?_set]
  rw [List.length_map, List.length_range]
  by_cases q : k < n
  · rw [range_get q, range_get q]
    by_cases h : j = k
    · subst h
      rw [if_pos rfl, if_pos q]
      show _ = some (V.int (if j = j then v else g j))
      rw [if_pos rfl]
    · rw [if_neg h]
      show _ = some (V.int (if k = j then v else g k))
      rw [if_neg fun z => h z.symm]
      rfl
  · rw [List.getElem?_eq_none (by simpa using q), List.getElem?_eq_none (by simpa using q)]
    split
    · split
      · omega
      · rfl
    · rfl
/-- a matrix that is read -/
structure Mx (K : PySem.W.Frag) (H : Hp) (a : Addr) (n : Nat) (f : Nat → Nat → Int) : Prop where
  ex : ∃ rs : List Addr, H a = some (.lst (rs.map V.ref)) ∧ rs.length = n ∧ ∀ i r, rs[i]? = some r → SqL K H r (rowI n (f i))
/-- a matrix that may be changed, its rows at rs -/
structure MxR (H : Hp) (a : Addr) (rs : List Addr) (n : Nat) (f : Nat → Nat → Int) : Prop where
  top : H a = some (.lst (rs.map V.ref))
  len : rs.length = n
  nd : rs.Nodup
  na : a ∉ rs
  row : ∀ i r, rs[i]? = some r → H r = some (.lst (rowI n (f i)))
theorem MxR.mx {K : PySem.W.Frag} {H : Hp} {a : Addr} {rs : List Addr} {n : Nat} {f : Nat → Nat → Int} (h : MxR H a rs n f) : Mx K H a n f := ⟨rs, h.top, h.len, fun i r e => SqL.of (h.row i r e)⟩
theorem Mx.same {K : PySem.W.Frag} {H H' : Hp} {a : Addr} {n : Nat} {f : Nat → Nat → Int} (s : Same H H') (h : Mx K H a n f) : Mx K H' a n f := by
  obtain ⟨rs, h1, h2, h3⟩ := h.ex
  exact ⟨rs, s _ _ h1, h2, fun i r e => s.seq (h3 i r e)⟩
theorem MxR.same {H H' : Hp} {a : Addr} {rs : List Addr} {n : Nat} {f : Nat → Nat → Int} (s : Same H H') (h : MxR H a rs n f) : MxR H' a rs n f :=
  ⟨s _ _ h.top, h.len, h.nd, h.na, fun i r e => s _ _ (h.row i r e)⟩
/-- what a[i][j] asks -/
theorem Mx.get {K : PySem.W.Frag} {H : Hp} {a : Addr} {n i : Nat} {f : Nat → Nat → Int} (h : Mx K H a n f) (hi : i < n) : ∃ (rs : List Addr) (r : Addr), SqL K H a (rs.map V.ref) ∧ atI (rs.map V.ref) (i : Int) = some (.ref r) ∧ SqL K H r (rowI n (f i)) := by
  obtain ⟨rs, h1, h2, h3⟩ := h.ex
  obtain ⟨r, e⟩ : ∃ r, rs[i]? = some r := ⟨_, List.getElem?_eq_getElem (by omega)⟩
  refine ⟨rs, r, SqL.of h1, at_of rfl ?_, h3 i r e⟩
  rw [List.getElem?_map, e]
  rfl
theorem Mx.all {K : PySem.W.Frag} {H : Hp} {a : Addr} {n : Nat} {f : Nat → Nat → Int} (h : Mx K H a n f) : ∃ rs : List Addr, SqL K H a (rs.map V.ref) ∧ ∀ i, i < n → ∃ r, atI (rs.map V.ref) (i : Int) = some (.ref r) ∧ SqL K H r (rowI n (f i)) := by
  obtain ⟨rs, h1, h2, h3⟩ := h.ex
  refine ⟨rs, SqL.of h1, fun i hi => ?_⟩
  obtain ⟨r, e⟩ : ∃ r, rs[i]? = some r := ⟨_, List.getElem?_eq_getElem (by omega)⟩
  refine ⟨r, at_of rfl ?_, h3 i r e⟩
  rw [List.getElem?_map, e]
  rfl
theorem Mx.len {K : PySem.W.Frag} {H : Hp} {a : Addr} {n : Nat} {f : Nat → Nat → Int} (h : Mx K H a n f) : ∃ rs : List Addr, SqL K H a (rs.map V.ref) ∧ (rs.map V.ref).length = n := by
  obtain ⟨rs, h1, h2, h3⟩ := h.ex
  exact ⟨rs, SqL.of h1, by rw [List.length_map, h2]⟩
abbrev RowF (n : Nat) (f : Nat → Nat → Int) : Nat → Hp → Addr → Prop := fun k H p => H p = some (.lst (rowI n (f k)))
theorem rowF_kept (n : Nat) (f : Nat → Nat → Int) : ∀ k, ∀ H H' p, Same H H' → RowF n f k H p → RowF n f k H' p := fun k H H' p s h => s _ _ h
theorem rowF_framed (n : Nat) (f : Nat → Nat → Int) : ∀ k H (D p : Addr) xs ys, RowF n f k H p → H D = some (.lst xs) → p ≠ D → RowF n f k (upd H D (.lst ys)) p := fun k H D p xs ys h _ hp => by
  show upd H D (.lst ys) p = _
  rw [upd_ne hp]
  exact h
theorem MadeR.mx {n : Nat} {f : Nat → Nat → Int} {H0 H' : Hp} {D : Addr} (h : MadeR (RowF n f) H0 D n H') : Same H0 H' ∧ ∃ rs, MxR H' D rs n f ∧ ∀ r ∈ rs, H0 r = none := by
  obtain ⟨as, h1, h2, h3, h4, h5⟩ := h
  refine ⟨h2, as, ⟨h1, h3, h5, fun hm => ?_, fun i r e => (h4 i r e).1⟩, fun r hr => ?_⟩
  · obtain ⟨k, hk⟩ := List.getElem?_of_mem hm
    exact (h4 k D hk).2.2.1 rfl
  · obtain ⟨k, hk⟩ := List.getElem?_of_mem hr
    exact (h4 k r hk).2.1
/-- over range(n), its numbers as they are -/
theorem lc_range0 {n : Nat} {g : TG} {tt : TT} {te : TE} {vs : List Nat} {σ : L2.St} {H1 : Hp} {D : Addr} {Qd : Hp → Prop} (Pv : Nat → Hp → Prop) (h0 : Pv 0 (upd H1 D (.lst [])))
    (hs : ∀ i H, i < n → Pv i H → g (.int (i : Int)) (wipe σ vs) H fun σ2 H2 => wipe σ2 vs = wipe σ vs ∧ tt σ2 H2 fun b H3 =>
      if b = true then te σ2 H3 fun y H4 => ∃ acc, H4 D = some (.lst acc) ∧ acc.length < sizeLine ∧ Pv (i + 1) (upd H4 D (.lst (acc ++ [y]))) else Pv (i + 1) H3) (hd : ∀ H, Pv n H → Qd H) :
    ∃ W : Nat → Nat → Hp → Prop, (∃ m, W 0 m (upd H1 D (.lst []))) ∧ ∀ i m H, W i m H →
      ((Itr 0 n).stop i H ∧ Qd H) ∨ ((Itr 0 n).go i H ∧ ∃ Nx : Hp → Prop, (∀ H', Nx H' → ∃ m', m' < m ∧ W (i + 1) m' H') ∧ ∀ x H', (Itr 0 n).yld i H x H' → g x (wipe σ vs) H' fun σ2 H2 => wipe σ2 vs = wipe σ vs ∧ tt σ2 H2 fun b H3 =>
        if b = true then te σ2 H3 fun y H4 => ∃ acc, H4 D = some (.lst acc) ∧ acc.length < sizeLine ∧ Nx (upd H4 D (.lst (acc ++ [y]))) else Nx H3) :=
  lc_range Pv h0 (fun i H hi p => by
    rw [Int.zero_add]
    exact hs i H hi p) hd
theorem for_range0 {n : Nat} {g : TG} {tb : TS} {D : Ends} {σ : L2.St} {H : Hp} (Pv : Nat → L2.St → Hp → Prop) (h0 : Pv 0 σ H)
    (hs : ∀ i σ H, i < n → Pv i σ H → g (.int (i : Int)) σ H fun σ2 H2 => tb { D with nx := Pv (i + 1), ct := Pv (i + 1), bk := D.nx } σ2 H2) (hd : ∀ σ H, Pv n σ H → D.nx σ H) :
    ∃ W : Nat → Nat → L2.St → Hp → Prop, (∃ m, W 0 m σ H) ∧ ∀ i m σ H, W i m σ H →
      ((Itr 0 n).stop i H ∧ D.nx σ H) ∨ ((Itr 0 n).go i H ∧ ∃ N : L2.St → Hp → Prop, (∀ σ' H', N σ' H' → ∃ m', m' < m ∧ W (i + 1) m' σ' H') ∧ ∀ x H', (Itr 0 n).yld i H x H' → g x σ H' fun σ2 H2 => tb { D with nx := N, ct := N, bk := D.nx } σ2 H2) :=
  for_range Pv h0 (fun i σ H hi p => by
    rw [Int.zero_add]
    exact hs i σ H hi p) hd
end EW
end

/-! ## EwRatios -/
section
set_option Elab.async false
set_option linter.all false
set_option maxRecDepth 100000
set_option maxHeartbeats 2000000
set_option autoImplicit false
namespace EW
open PySem PySem.Spec PyProof.Rows L2
open Sr58 (Frac)
local macro_rules | `(tactic| walk_at "rd") => `(tactic| repeat (first | refine ⟨rfl, ?_⟩ | apply Exists.intro | refine ⟨by assumption, ?_⟩))
set_option exponentiation.threshold 10000
abbrev s_greatest_divisor : Stmt := top 10
theorem sc_greatest_divisor : FnScope ["one", "other"] ["one", "other"] (defScope s_greatest_divisor) := ⟨rfl, rfl, rfl, by decide +kernel, rfl, by decide +kernel, by decide +kernel⟩
abbrev s_ratio : Stmt := top 11
theorem sc_ratio : FnScope ["top", "bottom", "by"] ["top", "bottom"] (defScope s_ratio) := ⟨rfl, rfl, rfl, by decide +kernel, rfl, by decide +kernel, by decide +kernel⟩
abbrev s_plus : Stmt := top 12
theorem sc_plus : FnScope ["one", "other"] ["one", "other"] (defScope s_plus) := ⟨rfl, rfl, rfl, by decide +kernel, rfl, by decide +kernel, by decide +kernel⟩
abbrev s_minus : Stmt := top 13
theorem sc_minus : FnScope ["one", "other"] ["one", "other"] (defScope s_minus) := ⟨rfl, rfl, rfl, by decide +kernel, rfl, by decide +kernel, by decide +kernel⟩
abbrev s_times : Stmt := top 14
theorem sc_times : FnScope ["one", "other"] ["one", "other"] (defScope s_times) := ⟨rfl, rfl, rfl, by decide +kernel, rfl, by decide +kernel, by decide +kernel⟩
abbrev s_divided : Stmt := top 15
theorem sc_divided : FnScope ["one", "other"] ["one", "other"] (defScope s_divided) := ⟨rfl, rfl, rfl, by decide +kernel, rfl, by decide +kernel, by decide +kernel⟩
abbrev s_total : Stmt := top 16
theorem sc_total : FnScope ["some", "found", "one"] ["some"] (defScope s_total) := ⟨rfl, rfl, rfl, by decide +kernel, rfl, by decide +kernel, by decide +kernel⟩
abbrev s_common_denominator : Stmt := top 17
theorem sc_common_denominator : FnScope ["some", "found", "one"] ["some"] (defScope s_common_denominator) := ⟨rfl, rfl, rfl, by decide +kernel, rfl, by decide +kernel, by decide +kernel⟩
abbrev s_amounts : Stmt := top 18
theorem sc_amounts : FnScope ["some", "denominator", "one"] ["some", "denominator"] (defScope s_amounts) := ⟨rfl, rfl, rfl, by decide +kernel, rfl, by decide +kernel, by decide +kernel⟩
abbrev s_told : Stmt := top 19
theorem sc_told : FnScope ["some", "found", "one"] ["some"] (defScope s_told) := ⟨rfl, rfl, rfl, by decide +kernel, rfl, by decide +kernel, by decide +kernel⟩
theorem gcd_step {c d : Int} (hc : 0 ≤ c) (hd : 0 < d) : Nat.gcd c.natAbs d.natAbs = Nat.gcd d.natAbs (c % d).natAbs := by
  have e : (c % d).natAbs = c.natAbs % d.natAbs := by
    rw [Int.natAbs_emod_of_nonneg hc]
  rw [e, Nat.gcd_comm c.natAbs, Nat.gcd_rec, Nat.gcd_comm]
def spGd : Sp := fun vs H Q _ => ∃ a b : Int, vs = [.int a, .int b] ∧ 0 ≤ a ∧ 0 ≤ b ∧ Q (.int (Nat.gcd a.natAbs b.natAbs : Nat)) H
/-- ratio(top, bottom): the fraction in lowest terms, a new tuple -/
def spRatio (K : PySem.W.Frag) : Sp := fun vs H Q _ => ∃ (t b : Int), vs = [.int t, .int b] ∧ 0 < b ∧ b.natAbs < 2 ^ 8900 ∧ Hands (FrAt K) H Q (Sr58.frac t b.toNat)
def spOp2 (K : PySem.W.Frag) (g : Frac → Frac → Frac) : Sp := fun vs H Q _ => ∃ (a b : Addr) (x y : Frac), vs = [.ref a, .ref b] ∧ FrAt K H a x ∧ FrAt K H b y ∧ Sz x ∧ Sz y ∧ Hands (FrAt K) H Q (g x y)
def spDiv (K : PySem.W.Frag) : Sp := fun vs H Q _ => ∃ (a b : Addr) (x y : Frac), vs = [.ref a, .ref b] ∧ FrAt K H a x ∧ FrAt K H b y ∧ Sz x ∧ Sz y ∧ 0 < y.n ∧ Hands (FrAt K) H Q (Sr66.over x y)
def spTotal (K : PySem.W.Frag) : Sp := fun vs H Q _ => ∃ (a : Addr) (xs : List Frac), vs = [.ref a] ∧ FracsAt K H a xs ∧ (∀ x ∈ xs, Sz x) ∧ (∀ i, i ≤ xs.length → Sz ((xs.take i).foldl Sr58.plus Sr66.zero)) ∧ Hands (FrAt K) H Q (Sr58.total xs)
def spCommon (K : PySem.W.Frag) : Sp := fun vs H Q _ => ∃ (a : Addr) (xs : List Frac) (D : Nat), vs = [.ref a] ∧ FracsAt K H a xs ∧ 0 < D ∧ D < 2 ^ 4400 ∧ (∀ x ∈ xs, 0 < x.d ∧ x.d ∣ D) ∧ Q (.int (lcmD xs : Nat)) H
def spAmounts (K : PySem.W.Frag) : Sp := fun vs H Q _ => ∃ (a : Addr) (xs : List Frac) (D : Nat), vs = [.ref a, .int (D : Int)] ∧ FracsAt K H a xs ∧ 0 < D ∧ D < 2 ^ 4400 ∧ (∀ x ∈ xs, Sz x ∧ x.d ∣ D) ∧ xs.length ≤ 1000 ∧ HandsN IntsL H Q (amountsI D xs)
def spTold (K : PySem.W.Frag) : Sp := fun vs H Q _ => ∃ (a : Addr) (xs : List Frac), vs = [.ref a] ∧ FracsAt K H a xs ∧ xs.length ≤ 100 ∧ HandsN IntsL H Q (xs.flatMap Sr66.fr)
section
variable {P : Program} {w : World} {K : PySem.W.Frag} {mg : Str → Option Value} {base : Heap} (B : Nb mg)
include B
theorem df_gd {f : Addr} {fd : FuncData} (hm : mg "greatest_divisor" = some (.ref f)) (F : Fun K "greatest_divisor" "greatest_divisor" s_greatest_divisor f fd) : Df P w K mg base CX0 1 "greatest_divisor" spGd := by
  refine ⟨f, fd, ["one", "other"], F.ok sc_greatest_divisor (fun vs H Q E h => ?_) (fun cdv A outer s H vs Q E hr h => ⟨_,
(pss_cons (ps_while PassesOwn.never (pt_cmpR op_gt (pv 1) pe_int (nomark _)) (pss_one (ps_par (i := 0) (j := 1) rfl sc_greatest_divisor.nd rfl rfl (by decide) rfl rfl (pa_cons (pv 1) (pa_cons (pe_op op_mod (pv 0) (pv 1)) pa_nil)) (by rfl))))
 (pss_one (ps_ret (pv 0))))
   , ?_⟩), hm, F.kp, F.binds fun _ _ _ _ _ _ us hl => match us, hl with | [_, _], _ => rfl⟩
  · obtain ⟨a, b, rfl, _⟩ := h
    rfl
  · obtain ⟨a, b, rfl, h1, h2, k⟩ := h
    refine while_by (fun σ H' => H' = H ∧ ∃ c d : Int, σ = [some (.int c), some (.int d)] ∧ 0 ≤ c ∧ 0 ≤ d ∧ Nat.gcd c.natAbs d.natAbs = Nat.gcd a.natAbs b.natAbs)
      (fun σ _ => match σ with | [_, some (.int d)] => d.toNat | _ => 0) ⟨rfl, a, b, rfl, h1, h2, rfl⟩ ?_ ?_
    · rintro σ H' ⟨rfl, c, d, rfl, hc, hd, e⟩
      refine ⟨_, rfl, _, _, rfl, rfl, _, rfl, ?_⟩
      by_cases q : 0 < d
      · refine ite2 (fun _ => ?_) (fun z => absurd (decide_eq_true q) z)
        refine ⟨_, rfl, _, rfl, _, rfl, c, d, rfl, rfl, q, _, _, rfl, ⟨rfl, d, c % d, rfl, hd, Int.emod_nonneg _ (by omega), ?_⟩, ?_⟩
        · rw [← e, ← gcd_step hc q]
        · show (c % d).toNat < d.toNat
          have := Int.emod_lt_of_pos c q
          have := Int.emod_nonneg c (show d ≠ 0 by omega)
          omega
      · refine ite2 (fun z => absurd (of_decide_eq_true z) q) (fun _ => ?_)
        have : d = 0 := by omega
        subst this
        refine ⟨_, rfl, ?_⟩
        have e' : (Nat.gcd a.natAbs b.natAbs : Nat) = c.natAbs := by rw [← e]; simp
        rw [e'] at k
        have : ((c.natAbs : Nat) : Int) = c := by omega
        rw [this] at k
        exact k
    · rintro σ H' Q Q' i ⟨v, e1, x, y, e2, e3, k', e4, q⟩
      exact ⟨v, e1, x, y, e2, e3, k', e4, i _ _ q⟩
omit B in
theorem df_of {CX : CXT} {k : Nat} {x : Str} {sp : Sp} {f : Addr} {fd : FuncData} {ps : List Str} (F : FnOk P w K mg base CX k f fd ps sp) (hm : mg x = some (.ref f)) (hk : PySem.W.keepIn K (.ref f) = true) (b : Binds K fd ps []) : Df P w K mg base CX k x sp := ⟨f, fd, ps, F, hm, hk, b⟩
theorem df_ratio {f : Addr} {fd : FuncData} (hm : mg "ratio" = some (.ref f)) (F : Fun K "ratio" "ratio" s_ratio f fd) (c_greatest_divisor : Df P w K mg base CX0 1 "greatest_divisor" spGd) : Df P w K mg base CX0 2 "ratio" (spRatio K) := by
  refine df_of (F.ok sc_ratio (fun vs H Q E h => ?_) (fun cdv A outer s H vs Q E hr h => ⟨_,
(pss_cons (ps_set (i := 2) sc_ratio.nd rfl (Or.inl rfl) (pe_c0 c_greatest_divisor hr (by decide) rfl (pa_cons (pe_callB call_abs (by rfl) B.abs_ (by decide +kernel) (pa_cons (pv 0) pa_nil)) (pa_cons (pv 1) pa_nil))))
 (pss_one (ps_ret (pe_tup (pa_cons (pe_op op_fdivW (pv 0) (pv 2)) (pa_cons (pe_op op_fdivW (pv 1) (pv 2)) pa_nil))))))
   , ?_⟩)) hm F.kp (F.binds fun _ _ _ _ _ _ us hl => match us, hl with | [_, _], _ => rfl)
  · obtain ⟨a, b, rfl, _⟩ := h
    rfl
  · obtain ⟨t, b', rfl, h1, h2, k⟩ := h
    obtain ⟨b, rfl⟩ : ∃ b : Nat, b' = b := ⟨b'.toNat, by omega⟩
    rw [Int.toNat_natCast] at k
    rw [Int.natAbs_natCast] at h2
    replace h1 : 0 < b := by omega
    walk_at "rd"
    refine ⟨by split <;> omega, by omega, ?_⟩
    have eg : (Nat.gcd (if t < 0 then -t else t).natAbs ((b : Int)).natAbs) = Nat.gcd t.natAbs b := by
      congr 1
      split <;> omega
    rw [eg]
    have hg : 0 < Nat.gcd t.natAbs b := Nat.gcd_pos_of_pos_right _ h1
    have hgb : Nat.gcd t.natAbs b ≤ b := Nat.le_of_dvd h1 (Nat.gcd_dvd_right _ _)
    have hd : CDivW t (Nat.gcd t.natAbs b : Nat) := wide_div (b := 8900) (by omega) (by rw [Int.natAbs_natCast]; omega) (by decide) (by decide)
    have hd2 : CDivW (b : Int) (Nat.gcd t.natAbs b : Nat) := wide_div (b := 8900) (by omega) (by rw [Int.natAbs_natCast]; omega) (by decide) (by decide)
    walk_at "rd"
    refine ⟨by show 2 ≤ sizeLine; decide, fun p hp => k _ p (same_upd hp) ?_⟩
    rw [EH.frac_def h1]
    exact SqT.of upd_same
omit B in
theorem lt_pow {x y : Nat} {a b c : Nat} (hx : x < 2 ^ a) (hy : y < 2 ^ b) (h : a + b ≤ c) : x * y < 2 ^ c := by
  have h1 : x * y < 2 ^ a * 2 ^ b := Nat.mul_lt_mul_of_lt_of_le hx (Nat.le_of_lt hy) (Nat.two_pow_pos b)
  rw [← Nat.pow_add] at h1
  exact Nat.lt_of_lt_of_le h1 (Nat.pow_le_pow_right (by decide) h)
omit B in
theorem mul_ok {x y : Int} (hx : x.natAbs < 2 ^ 4400) (hy : y.natAbs < 2 ^ 4400) : CMulW x y := wide_mul (a := 4400) (b := 4400) hx hy (by decide) (by decide) (by decide)
theorem df_plus {f : Addr} {fd : FuncData} (hm : mg "plus" = some (.ref f)) (F : Fun K "plus" "plus" s_plus f fd) (c_ratio : Df P w K mg base CX0 2 "ratio" (spRatio K)) : Df P w K mg base CX0 3 "plus" (spOp2 K Sr58.plus) := by
  refine df_of (F.ok sc_plus (fun vs H Q E h => ?_) (fun cdv A outer s H vs Q E hr h => ⟨_,
(pss_one (ps_ret (pe_c0 c_ratio hr (by decide) rfl (pa_cons (pe_op op_add (pe_op op_mulW (pe_ix ix_tup (pv 0) pe_int (fun _ _ => rfl)) (pe_ix ix_tup (pv 1) pe_int (fun _ _ => rfl))) (pe_op op_mulW (pe_ix ix_tup (pv 1) pe_int (fun _ _ => rfl)) (pe_ix ix_tup (pv 0) pe_int (fun _ _ => rfl)))) (pa_cons (pe_op op_mulW (pe_ix ix_tup (pv 0) pe_int (fun _ _ => rfl)) (pe_ix ix_tup (pv 1) pe_int (fun _ _ => rfl))) pa_nil)))))
   , ?_⟩)) hm F.kp (F.binds fun _ _ _ _ _ _ us hl => match us, hl with | [_, _], _ => rfl)
  · obtain ⟨a, b, x, y, rfl, _⟩ := h
    rfl
  · obtain ⟨a, b, x, y, rfl, ha, hb, hx, hy, k⟩ := h
    have e1 : CMulW x.n y.d := mul_ok hx.n (by rw [Int.natAbs_natCast]; exact hy.d)
    have e2 : CMulW y.n x.d := mul_ok hy.n (by rw [Int.natAbs_natCast]; exact hx.d)
    have e3 : CMulW (x.d : Int) y.d := mul_ok (by rw [Int.natAbs_natCast]; exact hx.d) (by rw [Int.natAbs_natCast]; exact hy.d)
    have e4 : CMulW x.n y.n := mul_ok hx.n hy.n
    have hp := Nat.mul_pos hx.pos hy.pos
    have hl : x.d * y.d < 2 ^ 8900 := lt_pow hx.d hy.d (by decide)
    walk_at "rd"
    rw [← Int.natCast_mul]
    refine ⟨by omega, by rw [Int.natAbs_natCast]; exact hl, ?_⟩
    rw [Int.toNat_natCast]
    exact k
theorem df_minus {f : Addr} {fd : FuncData} (hm : mg "minus" = some (.ref f)) (F : Fun K "minus" "minus" s_minus f fd) (c_ratio : Df P w K mg base CX0 2 "ratio" (spRatio K)) : Df P w K mg base CX0 3 "minus" (spOp2 K Sr66.minus) := by
  refine df_of (F.ok sc_minus (fun vs H Q E h => ?_) (fun cdv A outer s H vs Q E hr h => ⟨_,
(pss_one (ps_ret (pe_c0 c_ratio hr (by decide) rfl (pa_cons (pe_op op_sub (pe_op op_mulW (pe_ix ix_tup (pv 0) pe_int (fun _ _ => rfl)) (pe_ix ix_tup (pv 1) pe_int (fun _ _ => rfl))) (pe_op op_mulW (pe_ix ix_tup (pv 1) pe_int (fun _ _ => rfl)) (pe_ix ix_tup (pv 0) pe_int (fun _ _ => rfl)))) (pa_cons (pe_op op_mulW (pe_ix ix_tup (pv 0) pe_int (fun _ _ => rfl)) (pe_ix ix_tup (pv 1) pe_int (fun _ _ => rfl))) pa_nil)))))
   , ?_⟩)) hm F.kp (F.binds fun _ _ _ _ _ _ us hl => match us, hl with | [_, _], _ => rfl)
  · obtain ⟨a, b, x, y, rfl, _⟩ := h
    rfl
  · obtain ⟨a, b, x, y, rfl, ha, hb, hx, hy, k⟩ := h
    have e1 : CMulW x.n y.d := mul_ok hx.n (by rw [Int.natAbs_natCast]; exact hy.d)
    have e2 : CMulW y.n x.d := mul_ok hy.n (by rw [Int.natAbs_natCast]; exact hx.d)
    have e3 : CMulW (x.d : Int) y.d := mul_ok (by rw [Int.natAbs_natCast]; exact hx.d) (by rw [Int.natAbs_natCast]; exact hy.d)
    have e4 : CMulW x.n y.n := mul_ok hx.n hy.n
    have hp := Nat.mul_pos hx.pos hy.pos
    have hl : x.d * y.d < 2 ^ 8900 := lt_pow hx.d hy.d (by decide)
    walk_at "rd"
    rw [← Int.natCast_mul]
    refine ⟨by omega, by rw [Int.natAbs_natCast]; exact hl, ?_⟩
    rw [Int.toNat_natCast]
    have e : Sr66.minus x y = Sr58.frac (x.n * y.d - y.n * x.d) (x.d * y.d) := by
      show Sr58.frac (x.n * y.d + -y.n * x.d) (x.d * y.d) = _
      rw [Int.neg_mul, ← Int.sub_eq_add_neg]
    rw [← e]
    exact k
theorem df_times {f : Addr} {fd : FuncData} (hm : mg "times" = some (.ref f)) (F : Fun K "times" "times" s_times f fd) (c_ratio : Df P w K mg base CX0 2 "ratio" (spRatio K)) : Df P w K mg base CX0 3 "times" (spOp2 K Sr58.times) := by
  refine df_of (F.ok sc_times (fun vs H Q E h => ?_) (fun cdv A outer s H vs Q E hr h => ⟨_,
(pss_one (ps_ret (pe_c0 c_ratio hr (by decide) rfl (pa_cons (pe_op op_mulW (pe_ix ix_tup (pv 0) pe_int (fun _ _ => rfl)) (pe_ix ix_tup (pv 1) pe_int (fun _ _ => rfl))) (pa_cons (pe_op op_mulW (pe_ix ix_tup (pv 0) pe_int (fun _ _ => rfl)) (pe_ix ix_tup (pv 1) pe_int (fun _ _ => rfl))) pa_nil)))))
   , ?_⟩)) hm F.kp (F.binds fun _ _ _ _ _ _ us hl => match us, hl with | [_, _], _ => rfl)
  · obtain ⟨a, b, x, y, rfl, _⟩ := h
    rfl
  · obtain ⟨a, b, x, y, rfl, ha, hb, hx, hy, k⟩ := h
    have e1 : CMulW x.n y.d := mul_ok hx.n (by rw [Int.natAbs_natCast]; exact hy.d)
    have e2 : CMulW y.n x.d := mul_ok hy.n (by rw [Int.natAbs_natCast]; exact hx.d)
    have e3 : CMulW (x.d : Int) y.d := mul_ok (by rw [Int.natAbs_natCast]; exact hx.d) (by rw [Int.natAbs_natCast]; exact hy.d)
    have e4 : CMulW x.n y.n := mul_ok hx.n hy.n
    have hp := Nat.mul_pos hx.pos hy.pos
    have hl : x.d * y.d < 2 ^ 8900 := lt_pow hx.d hy.d (by decide)
    walk_at "rd"
    rw [← Int.natCast_mul]
    refine ⟨by omega, by rw [Int.natAbs_natCast]; exact hl, ?_⟩
    rw [Int.toNat_natCast]
    exact k
theorem df_divided {f : Addr} {fd : FuncData} (hm : mg "divided" = some (.ref f)) (F : Fun K "divided" "divided" s_divided f fd) (c_ratio : Df P w K mg base CX0 2 "ratio" (spRatio K)) : Df P w K mg base CX0 3 "divided" (spDiv K) := by
  refine df_of (F.ok sc_divided (fun vs H Q E h => ?_) (fun cdv A outer s H vs Q E hr h => ⟨_,
(pss_one (ps_ret (pe_c0 c_ratio hr (by decide) rfl (pa_cons (pe_op op_mulW (pe_ix ix_tup (pv 0) pe_int (fun _ _ => rfl)) (pe_ix ix_tup (pv 1) pe_int (fun _ _ => rfl))) (pa_cons (pe_op op_mulW (pe_ix ix_tup (pv 0) pe_int (fun _ _ => rfl)) (pe_ix ix_tup (pv 1) pe_int (fun _ _ => rfl))) pa_nil)))))
   , ?_⟩)) hm F.kp (F.binds fun _ _ _ _ _ _ us hl => match us, hl with | [_, _], _ => rfl)
  · obtain ⟨a, b, x, y, rfl, _⟩ := h
    rfl
  · obtain ⟨a, b, x, y, rfl, ha, hb, hx, hy, h0, k⟩ := h
    have e1 : CMulW x.n y.d := mul_ok hx.n (by rw [Int.natAbs_natCast]; exact hy.d)
    have e2 : CMulW (x.d : Int) y.n := mul_ok (by rw [Int.natAbs_natCast]; exact hx.d) hy.n
    have hl : x.d * y.n.natAbs < 2 ^ 8900 := lt_pow hx.d hy.n (by decide)
    have ey : ((x.d : Nat) : Int) * y.n = ((x.d * y.n.natAbs : Nat) : Int) := by rw [Int.natCast_mul, Int.natAbs_of_nonneg (by omega)]
    have hp : 0 < x.d * y.n.natAbs := Nat.mul_pos hx.pos (by omega)
    walk_at "rd"
    rw [ey]
    refine ⟨by omega, by rw [Int.natAbs_natCast]; exact hl, ?_⟩
    rw [Int.toNat_natCast]
    have e : Sr66.over x y = Sr58.frac (x.n * y.d) (x.d * y.n.natAbs) := if_neg (by omega)
    rw [← e]
    exact k

theorem df_total {f : Addr} {fd : FuncData} {A0 : Ad} (G : Gs K mg A0) (hm : mg "total" = some (.ref f)) (F : Fun K "total" "total" s_total f fd) (c_plus : Df P w K mg base CX0 3 "plus" (spOp2 K Sr58.plus)) : Df P w K mg base CX0 4 "total" (spTotal K) := by
  refine df_of (F.ok sc_total (fun vs H Q E h => ?_) (fun cdv A outer s H vs Q E hr h => ⟨_,
(pss_cons (ps_set (i := 1) sc_total.nd rfl (Or.inl rfl) (pe_gk rfl G.ZERO_))
 (pss_cons (ps_for PassesOwn.never rfl (pi_list (pv 0)) (pg_name (i := 2) sc_total.nd rfl (Or.inl rfl)) (pss_one (ps_set (i := 1) sc_total.nd rfl (Or.inl rfl) (pe_c0 c_plus hr (by decide) rfl (pa_cons (pv 1) (pa_cons (pv 2) pa_nil))))))
 (pss_one (ps_ret (pv 1)))))
   , ?_⟩)) hm F.kp (F.binds fun _ _ _ _ _ _ us hl => match us, hl with | [_], _ => rfl)
  · obtain ⟨a, xs, rfl, _⟩ := h
    rfl
  · obtain ⟨a, xs, rfl, ⟨as, hl, hp⟩, hx, ht, k⟩ := h
    have hlen : as.length = xs.length := Paired.length hp
    have hl : SqL K H a (as.map V.ref) := SqL.of hl
    refine ⟨_, rfl, a, rfl, ⟨_, hl⟩, for_list (K := K) (a := a) (xs := as.map V.ref) (fun i σ H' => ∃ (p : Addr) (o : Option V), σ = [some (.ref a), some (.ref p), o] ∧ FrAt K H' p ((xs.take i).foldl Sr58.plus Sr66.zero) ∧ Same H H')
      ⟨A0.zero, none, rfl, G.zeroAt _, Same.refl _⟩ (fun i σ H' _ ⟨_, _, _, _, s5⟩ => s5.seq hl) ?_ ?_⟩
    · rintro i y σ H' hi ⟨p, o, rfl, hq, s5⟩
      obtain ⟨b, hb, rfl⟩ := map_get hi
      obtain ⟨x, ex, hfx⟩ := ListOf.nth hp hb
      have hi2 : i < as.length := (List.getElem?_eq_some_iff.mp hb).1
      have sx := hx x (List.mem_of_getElem? ex)
      have st := ht i (by omega)
      have hfx' := same_fr s5 hfx
      walk_at "rd"
      intro H2 p2 s2 h2
      refine ⟨p2, _, rfl, ?_, s5.trans s2⟩
      rw [take_more ex, List.foldl_append]
      exact h2
    · rintro σ H' ⟨p, o, rfl, hq, s5⟩
      rw [List.length_map, hlen, List.take_length] at hq
      exact ⟨_, rfl, k _ _ s5 hq⟩

theorem df_common {f : Addr} {fd : FuncData} (hm : mg "common_denominator" = some (.ref f)) (F : Fun K "common_denominator" "common_denominator" s_common_denominator f fd) (c_greatest_divisor : Df P w K mg base CX0 1 "greatest_divisor" spGd) : Df P w K mg base CX0 2 "common_denominator" (spCommon K) := by
  refine df_of (F.ok sc_common_denominator (fun vs H Q E h => ?_) (fun cdv A outer s H vs Q E hr h => ⟨_,
(pss_cons (ps_set (i := 1) sc_common_denominator.nd rfl (Or.inl rfl) pe_int)
 (pss_cons (ps_for PassesOwn.never rfl (pi_list (pv 0)) (pg_name (i := 2) sc_common_denominator.nd rfl (Or.inl rfl)) (pss_one (ps_set (i := 1) sc_common_denominator.nd rfl (Or.inl rfl) (pe_op op_mulW (pe_op op_fdivW (pv 1) (pe_c0 c_greatest_divisor hr (by decide) rfl (pa_cons (pv 1) (pa_cons (pe_ix ix_tup (pv 2) pe_int (fun _ _ => rfl)) pa_nil)))) (pe_ix ix_tup (pv 2) pe_int (fun _ _ => rfl))))))
 (pss_one (ps_ret (pv 1)))))
   , ?_⟩)) hm F.kp (F.binds fun _ _ _ _ _ _ us hl => match us, hl with | [_], _ => rfl)
  · obtain ⟨a, xs, D, rfl, _⟩ := h
    rfl
  · obtain ⟨a, xs, D, rfl, ⟨as, hl, hp⟩, hD, hDs, hx, k⟩ := h
    have hlen : as.length = xs.length := Paired.length hp
    have hl : SqL K H a (as.map V.ref) := SqL.of hl
    refine ⟨_, rfl, a, rfl, ⟨_, hl⟩, for_list (K := K) (a := a) (xs := as.map V.ref) (fun i σ H' => H' = H ∧ ∃ (o : Option V), σ = [some (.ref a), some (.int (lcmD (xs.take i) : Nat)), o] ∧ 0 < lcmD (xs.take i) ∧ lcmD (xs.take i) ∣ D)
      ⟨rfl, none, rfl, Nat.one_pos, Nat.one_dvd _⟩ (fun i σ H' _ ⟨e, _⟩ => by rw [e]; exact hl) ?_ ?_⟩
    · rintro i y σ H' hi ⟨rfl, o, rfl, hpos, hdvd⟩
      obtain ⟨b, hb, rfl⟩ := map_get hi
      obtain ⟨x, ex, hfx⟩ := ListOf.nth hp hb
      have sx := hx x (List.mem_of_getElem? ex)
      have hle := Nat.le_of_dvd hD hdvd
      have hle2 := Nat.le_of_dvd hD sx.2
      have hg : 0 < Nat.gcd (lcmD (xs.take i)) x.d := Nat.gcd_pos_of_pos_left _ hpos
      have hgl : Nat.gcd (lcmD (xs.take i)) x.d ≤ lcmD (xs.take i) := Nat.le_of_dvd hpos (Nat.gcd_dvd_left _ _)
      have e5 : lcmD (xs.take (i + 1)) = Nat.lcm (lcmD (xs.take i)) x.d := by
        rw [take_more ex]
        unfold lcmD
        rw [List.foldl_append]
        rfl
      have e6 : lcmD (xs.take i) / Nat.gcd (lcmD (xs.take i)) x.d * x.d = lcmD (xs.take (i + 1)) := by
        rw [e5, Nat.div_mul_right_comm (Nat.gcd_dvd_left _ _)]
        rfl
      walk_at "rd"
      refine ⟨by omega, by omega, ?_⟩
      rw [Int.natAbs_natCast, Int.natAbs_natCast]
      have hd : CDivW (lcmD (xs.take i) : Int) (Nat.gcd (lcmD (xs.take i)) x.d : Nat) := wide_div (b := 4400) (by omega) (by rw [Int.natAbs_natCast]; omega) (by decide) (by decide)
      have hq : lcmD (xs.take i) / Nat.gcd (lcmD (xs.take i)) x.d ≤ lcmD (xs.take i) := Nat.div_le_self _ _
      have hm' : CMulW ((lcmD (xs.take i) : Int) / (Nat.gcd (lcmD (xs.take i)) x.d : Nat)) (x.d : Int) := by
        rw [← Int.natCast_ediv]
        exact mul_ok (by rw [Int.natAbs_natCast]; omega) (by rw [Int.natAbs_natCast]; omega)
      walk_at "rd"
      have e7 : ((lcmD (xs.take i) : Int) / (Nat.gcd (lcmD (xs.take i)) x.d : Nat)) * (x.d : Int) = ((lcmD (xs.take (i + 1)) : Nat) : Int) := by
        rw [← Int.natCast_ediv, ← Int.natCast_mul, e6]
      refine ⟨congrArg (fun z => [some (V.ref a), some (V.int z), some (V.ref b)]) e7, ?_, ?_⟩
      · rw [e5]
        exact Nat.lcm_pos hpos sx.1
      · rw [e5]
        exact Nat.lcm_dvd hdvd sx.2
    · rintro σ H' ⟨rfl, o, rfl, hpos, hdvd⟩
      rw [List.length_map, hlen, List.take_length]
      exact ⟨_, rfl, k⟩

theorem df_amounts {f : Addr} {fd : FuncData} (hm : mg "amounts" = some (.ref f)) (F : Fun K "amounts" "amounts" s_amounts f fd) : Df P w K mg base CX0 1 "amounts" (spAmounts K) := by
  refine df_of (F.ok sc_amounts (fun vs H Q E h => ?_) (fun cdv A outer s H vs Q E hr h => ⟨_,
(pss_one (ps_ret (pe_lc (own := [("one", 2)]) (g := gName 2) (tt := tYes) rfl sc_amounts.nd (pi_list (pv 0)) (blkOk_by (own := [("one", 2)]) (N := ["some", "denominator", "one"]) (by kernel_rfl))
 (fun _ _ _ _ _ => (pg_name (i := 2) sc_amounts.nd rfl (Or.inl rfl))) (fun _ _ _ _ _ => pts_nil) (fun _ _ _ _ _ => (pe_op op_mulW (pe_ix (ixT (K := K)) (pv 2) pe_int (fun _ _ => rfl)) (pe_op op_fdivW (pv 1) (pe_ix (ixT (K := K)) (pv 2) pe_int (fun _ _ => rfl))))))))
   , ?_⟩)) hm F.kp (F.binds fun _ _ _ _ _ _ us hl => match us, hl with | [_, _], _ => rfl)
  · obtain ⟨a, xs, D, rfl, _⟩ := h
    rfl
  · obtain ⟨a, xs, D, rfl, ⟨as, hl, hp⟩, hD, hDs, hx, hlen1, k⟩ := h
    have hlen : as.length = xs.length := Paired.length hp
    have hl : SqL K H a (as.map V.ref) := SqL.of hl
    refine ⟨_, rfl, a, rfl, ⟨_, hl⟩, fun L new => ?_⟩
    have hlx : xs.length ≤ 1000 := hlen1
    refine lc_list (K := K) (a := a) (xs := as.map V.ref) (Vals_ H L ((amountsI D xs).map V.int)) (Vals_.start new) (fun i H' _ e => e.2.seq hl) ?_ ?_
    · rintro i y H' hi hv
      obtain ⟨b, hb, rfl⟩ := map_get hi
      obtain ⟨x, ex, hfx⟩ := ListOf.nth hp hb
      obtain ⟨sx, sx2⟩ := hx x (List.mem_of_getElem? ex)
      have hpos := sx.pos
      have hle := Nat.le_of_dvd hD sx2
      have hfx' := same_fr hv.2 hfx
      have hq : D / x.d ≤ D := Nat.div_le_self _ _
      have hd : CDivW (D : Int) (x.d : Int) := wide_div (b := 4400) (by omega) (by rw [Int.natAbs_natCast]; omega) (by decide) (by decide)
      have hm' : CMulW x.n ((D : Int) / (x.d : Int)) := by
        rw [← Int.natCast_ediv]
        exact mul_ok sx.n (by rw [Int.natAbs_natCast]; omega)
      obtain ⟨acc, r1, r2, r3⟩ := hv.next (Same.refl _) (show ((amountsI D xs).map V.int)[i]? = some (V.int (x.n * ((D : Int) / (x.d : Int)))) by
        unfold amountsI
        rw [List.map_map, List.getElem?_map, ex]
        rfl) new (by rw [List.length_map]; unfold amountsI; rw [List.length_map]; exact hlx)
      refine ⟨rfl, tY ?_⟩
      walk_at "rd"
      exact r3
    · intro H' hv
      rw [List.length_map, hlen] at hv
      obtain ⟨s1, h1⟩ := hv.done (by rw [List.length_map]; unfold amountsI; rw [List.length_map])
      exact k _ L s1 new h1

omit B in
theorem fr_list_len (xs : List Frac) : (xs.flatMap Sr66.fr).length = 2 * xs.length := by
  induction xs with
  | nil => rfl
  | cons x xs ih =>
    rw [List.flatMap_cons, List.length_append, ih, List.length_cons]
    show 2 + 2 * xs.length = _
    omega
theorem df_told {f : Addr} {fd : FuncData} (hm : mg "told" = some (.ref f)) (F : Fun K "told" "told" s_told f fd) : Df P w K mg base CX0 1 "told" (spTold K) := by
  refine df_of (F.ok sc_told (fun vs H Q E h => ?_) (fun cdv A outer s H vs Q E hr h => ⟨_,
(pss_cons (ps_set (i := 1) sc_told.nd rfl (Or.inl rfl) (pe_lst pa_nil))
 (pss_cons (ps_for PassesOwn.never rfl (pi_list (pv 0)) (pg_name (i := 2) sc_told.nd rfl (Or.inl rfl)) (pss_cons (ps_expr (pe_bm PySem.F.plainAttrs_list PySem.F.slot_list_append PySem.F.type_list_append mt_append (pv 1) (pa_cons (pe_ix ix_tup (pv 2) pe_int (fun _ _ => rfl)) pa_nil)))
 (pss_one (ps_expr (pe_bm PySem.F.plainAttrs_list PySem.F.slot_list_append PySem.F.type_list_append mt_append (pv 1) (pa_cons (pe_ix ix_tup (pv 2) pe_int (fun _ _ => rfl)) pa_nil))))))
 (pss_one (ps_ret (pv 1)))))
   , ?_⟩)) hm F.kp (F.binds fun _ _ _ _ _ _ us hl => match us, hl with | [_], _ => rfl)
  · obtain ⟨a, xs, rfl, _⟩ := h
    rfl
  · obtain ⟨a, xs, rfl, ⟨as, hl, hp⟩, hlx, k⟩ := h
    have hlen : as.length = xs.length := Paired.length hp
    have hl : SqL K H a (as.map V.ref) := SqL.of hl
    refine ⟨by show 0 ≤ sizeLine; decide, fun L new => ?_⟩
    refine ⟨_, rfl, a, rfl, ⟨_, (same_upd new).seq hl⟩, for_list (K := K) (a := a) (xs := as.map V.ref) (fun i σ H' => ∃ o : Option V, σ = [some (.ref a), some (.ref L), o] ∧ H' = upd H L (.lst (((xs.take i).flatMap Sr66.fr).map V.int)))
      ⟨none, rfl, rfl⟩ (fun i σ H' _ ⟨_, _, e⟩ => by rw [e]; exact (same_upd new).seq hl) ?_ ?_⟩
    · rintro i y σ H' hi ⟨o, rfl, rfl⟩
      obtain ⟨b, hb, rfl⟩ := map_get hi
      obtain ⟨x, ex, hfx⟩ := ListOf.nth hp hb
      have hfx1 := same_fr (same_upd (o := .lst (((xs.take i).flatMap Sr66.fr).map V.int)) new) hfx
      have hz : (((xs.take i).flatMap Sr66.fr).map V.int).length ≤ 200 := by
        rw [List.length_map, fr_list_len, List.length_take]
        omega
      refine ⟨_, rfl, .inl ⟨rfl, _, SqL.of upd_same⟩, ?_⟩
      walk_at "rd"
      refine ⟨upd_same, small1000 (by omega), ?_⟩
      rw [upd_upd]
      refine ⟨_, rfl, .inl ⟨rfl, _, SqL.of upd_same⟩, ?_⟩
      have hfx2 := same_fr (same_upd (o := .lst (((xs.take i).flatMap Sr66.fr).map V.int ++ [V.int x.n])) new) hfx
      walk_at "rd"
      refine ⟨upd_same, small1000 (by rw [List.length_append]; show _ + 1 ≤ 1000; omega), ?_⟩
      rw [upd_upd]
      refine ⟨_, rfl, ?_⟩
      rw [take_more ex, List.flatMap_append, List.map_append, List.append_assoc]
      rfl
    · rintro σ H' ⟨o, rfl, rfl⟩
      refine ⟨_, rfl, k _ L (same_upd new) new ?_⟩
      rw [List.length_map, hlen, List.take_length]
      exact upd_same
end
end EW
end

/-! ## EwGraphs -/
section
set_option Elab.async false
set_option linter.all false
set_option maxRecDepth 100000
set_option maxHeartbeats 2000000
set_option autoImplicit false
namespace EW
open PySem PySem.Spec PyProof.Rows L2
open Sr58 (Frac)
local macro_rules | `(tactic| walk_at "rd") => `(tactic| repeat (first | refine ⟨rfl, ?_⟩ | apply Exists.intro | refine ⟨by assumption, ?_⟩))
abbrev s_empty_lengths : Stmt := top 2
theorem sc_empty_lengths : FnScope ["n", "j", "i"] ["n"] (defScope s_empty_lengths) := ⟨rfl, rfl, rfl, by decide +kernel, rfl, by decide +kernel, by decide +kernel⟩
abbrev s_step_length : Stmt := top 3
theorem sc_step_length : FnScope ["lengths", "i", "j"] ["lengths", "i", "j"] (defScope s_step_length) := ⟨rfl, rfl, rfl, by decide +kernel, rfl, by decide +kernel, by decide +kernel⟩
abbrev s_through : Stmt := top 4
theorem sc_through : FnScope ["rows", "k", "n", "j", "i"] ["rows", "k"] (defScope s_through) := ⟨rfl, rfl, rfl, by decide +kernel, rfl, by decide +kernel, by decide +kernel⟩
abbrev s_distances : Stmt := top 5
theorem sc_distances : FnScope ["lengths", "n", "rows", "j", "i", "k"] ["lengths"] (defScope s_distances) := ⟨rfl, rfl, rfl, by decide +kernel, rfl, by decide +kernel, by decide +kernel⟩
abbrev s_is_connected : Stmt := top 6
theorem sc_is_connected : FnScope ["lengths"] ["lengths"] (defScope s_is_connected) := ⟨rfl, rfl, rfl, by decide +kernel, rfl, by decide +kernel, by decide +kernel⟩
/-- a new matrix is handed back -/
def HandsM (H : Hp) (Q : VK) (n : Nat) (f : Nat → Nat → Int) : Prop := ∀ (H' : Hp) (p : Addr) (rs : List Addr), Same H H' → H p = none → (∀ r ∈ rs, H r = none) → MxR H' p rs n f → Q (.ref p) H'
theorem HandsM.made {H : Hp} {Q : VK} {n : Nat} {f : Nat → Nat → Int} (k : HandsM H Q n f) {H0 H' : Hp} {D : Addr} (s : Same H H0) (new : H0 D = none) (h : MadeR (RowF n f) H0 D n H') : Q (.ref D) H' := by
  obtain ⟨s1, rs, m, nr⟩ := h.mx
  exact k H' D rs (s.trans s1) (s.free new) (fun r hr => s.free (nr r hr)) m
def spEmpty : Sp := fun vs H Q _ => ∃ n : Nat, vs = [.int (n : Int)] ∧ n ≤ 100 ∧ HandsM H Q n fun _ _ => 0
def spStep (K : PySem.W.Frag) : Sp := fun vs H Q _ => ∃ (a : Addr) (i j n : Nat) (f : Nat → Nat → Int), vs = [.ref a, .int (i : Int), .int (j : Int)] ∧ Mx K H a n f ∧ i < n ∧ j < n ∧ Q (.int (stepL f i j)) H
def spThrough (K : PySem.W.Frag) : Sp := fun vs H Q _ => ∃ (a : Addr) (k n : Nat) (f : Nat → Nat → Int), vs = [.ref a, .int (k : Int)] ∧ Mx K H a n f ∧ k < n ∧ n ≤ 100 ∧ HandsM H Q n (thr f k)
def spDist (K : PySem.W.Frag) : Sp := fun vs H Q _ => ∃ (a : Addr) (n : Nat) (f : Nat → Nat → Int), vs = [.ref a] ∧ Mx K H a n f ∧ n ≤ 100 ∧ HandsM H Q n (dstP f n n)
def spConn (K : PySem.W.Frag) : Sp := fun vs H Q _ => ∃ (a : Addr) (n : Nat) (f : Nat → Nat → Int), vs = [.ref a] ∧ Mx K H a n f ∧ n ≤ 100 ∧ 0 < n ∧ ∀ (H' : Hp) (b : Bool), Same H H' → (b = true ↔ ∀ j, j < n → dstP f n n 0 j < 1000) → Q (.bl b) H'
section
variable {P : Program} {w : World} {K : PySem.W.Frag} {mg : Str → Option Value} {base : Heap} (B : Nb mg) {A0 : Ad} (G : Gs K mg A0)
include B G
theorem df_empty {f : Addr} {fd : FuncData} (hm : mg "empty_lengths" = some (.ref f)) (F : Fun K "empty_lengths" "empty_lengths" s_empty_lengths f fd) : Df P w K mg base CX0 1 "empty_lengths" spEmpty := by
  refine df_of (F.ok sc_empty_lengths (fun vs H Q E h => ?_) (fun cdv A outer s H vs Q E hr h => ⟨_,
(pss_one (ps_ret (pe_lc (own := [("i", 2)]) (g := gName 2) (tt := tYes) rfl sc_empty_lengths.nd (pi_range1 rfl B.range_ (pa_cons (pv 0) pa_nil)) (blkOk_by (own := [("i", 2)]) (N := ["n", "j", "i"]) (by kernel_rfl))
 (fun _ _ _ _ _ => (pg_name (i := 2) sc_empty_lengths.nd rfl (Or.inl rfl))) (fun _ _ _ _ _ => pts_nil) (fun _ _ _ _ _ => (pe_lc (own := [("j", 1)]) (g := gName 1) (tt := tYes) rfl sc_empty_lengths.nd (pi_range1 rfl B.range_ (pa_cons (pv 0) pa_nil)) (blkOk_by (own := [("j", 1)]) (N := ["n", "j", "i"]) (by kernel_rfl))
 (fun _ _ _ _ _ => (pg_name (i := 1) sc_empty_lengths.nd rfl (Or.inl rfl))) (fun _ _ _ _ _ => pts_nil) (fun _ _ _ _ _ => pe_int))))))
   , ?_⟩)) hm F.kp (F.binds fun _ _ _ _ _ _ us hl => match us, hl with | [_], _ => rfl)
  · obtain ⟨n, rfl, _⟩ := h
    rfl
  · obtain ⟨n, rfl, hn, k⟩ := h
    refine ⟨_, rfl, _, rfl, by omega, by omega, fun D new => ?_⟩
    refine lc_range0 (n := n) (MadeR (RowF n fun _ _ => 0) H D) (MadeR.start new) (fun i H1 hi hv => ?_) fun H1 hv => k.made (Same.refl _) new hv
    refine ⟨rfl, tY ?_⟩
    refine ⟨_, rfl, _, rfl, by omega, by omega, fun D2 new2 => ?_⟩
    refine lc_range0 (n := n) (Vals_ H1 D2 (rowI n fun _ => 0)) (Vals_.start new2) (fun j H2 hj hv2 => ?_) fun H2 hv2 => ?_
    · refine ⟨rfl, tY ?_⟩
      exact hv2.next (Same.refl _) (row_get hj) new2 (by rw [row_len]; omega)
    · obtain ⟨s2, e2⟩ := hv2.done (row_len _ _)
      exact hv.next (rowF_kept n _) (rowF_framed n _) s2 e2 new2 (by rw [e2]; simp) new (by omega)
theorem df_step {f : Addr} {fd : FuncData} (hm : mg "step_length" = some (.ref f)) (F : Fun K "step_length" "step_length" s_step_length f fd) : Df P w K mg base CX0 1 "step_length" (spStep K) := by
  refine df_of (F.ok sc_step_length (fun vs H Q E h => ?_) (fun cdv A outer s H vs Q E hr h => ⟨_,
(pss_cons (ps_if (pt_cmpR op_eq (pv 1) (pv 2) (nomark _)) (pss_one (ps_ret pe_int)) pss_nil)
 (pss_cons (ps_if (pt_cmpR op_gt (pe_ix ix_list (pe_ix ix_list (pv 0) (pv 1) (fun _ _ => rfl)) (pv 2) (fun _ _ => rfl)) pe_int (nomark _)) (pss_one (ps_ret (pe_ix ix_list (pe_ix ix_list (pv 0) (pv 1) (fun _ _ => rfl)) (pv 2) (fun _ _ => rfl)))) pss_nil)
 (pss_one (ps_ret (pe_gk rfl G.FAR_graphs_)))))
   , ?_⟩)) hm F.kp (F.binds fun _ _ _ _ _ _ us hl => match us, hl with | [_, _, _], _ => rfl)
  · obtain ⟨a, i, j, n, f, rfl, _⟩ := h
    rfl
  · obtain ⟨a, i, j, n, g, rfl, hM, hi, hj, k⟩ := h
    obtain ⟨rs, r, m1, m2, m3⟩ := hM.get hi
    have m4 := row_at (g := g i) hj
    walk_at "rd"
    unfold stepL at k
    by_cases c : i = j
    · rw [if_pos c] at k
      refine ite2 (fun _ => k) fun z => absurd (decide_eq_true (by rw [c])) z
    · rw [if_neg c] at k
      refine ite2 (fun z => absurd (of_decide_eq_true z) fun e => c (by injection e with e; omega)) fun _ => ?_
      walk_at "rd"
      by_cases d : 0 < g i j
      · rw [if_pos d] at k
        refine ite2 (fun _ => ?_) fun z => absurd (decide_eq_true d) z
        walk_at "rd"
        exact k
      · rw [if_neg d] at k
        refine ite2 (fun z => absurd (of_decide_eq_true z) d) fun _ => k
theorem df_through {f : Addr} {fd : FuncData} (hm : mg "through" = some (.ref f)) (F : Fun K "through" "through" s_through f fd) : Df P w K mg base CX0 1 "through" (spThrough K) := by
  refine df_of (F.ok sc_through (fun vs H Q E h => ?_) (fun cdv A outer s H vs Q E hr h => ⟨_,
(pss_cons (ps_set (i := 2) sc_through.nd rfl (Or.inr rfl) (pe_callB call_len_seq (by rfl) B.len_ (by decide +kernel) (pa_cons (pv 0) pa_nil)))
 (pss_one (ps_ret (pe_lc (own := [("i", 4)]) (g := gName 4) (tt := tYes) rfl sc_through.nd (pi_range1 rfl B.range_ (pa_cons (pv 2) pa_nil)) (blkOk_by (own := [("i", 4)]) (N := ["rows", "k", "n", "j", "i"]) (by kernel_rfl))
 (fun _ _ _ _ _ => (pg_name (i := 4) sc_through.nd rfl (Or.inr rfl))) (fun _ _ _ _ _ => pts_nil) (fun _ _ _ _ _ => (pe_lc (own := [("j", 3)]) (g := gName 3) (tt := tYes) rfl sc_through.nd (pi_range1 rfl B.range_ (pa_cons (pv 2) pa_nil)) (blkOk_by (own := [("j", 3)]) (N := ["rows", "k", "n", "j", "i"]) (by kernel_rfl))
 (fun _ _ _ _ _ => (pg_name (i := 3) sc_through.nd rfl (Or.inl rfl))) (fun _ _ _ _ _ => pts_nil) (fun _ _ _ _ _ => (pe_callB (call_min2 rfl) (by rfl) B.min_ (by decide +kernel) (pa_cons (pe_ix (ixL (K := K)) (pe_ix (ixL (K := K)) (pv 0) (pv 4) (fun _ _ => rfl)) (pv 3) (fun _ _ => rfl)) (pa_cons (pe_op op_add (pe_ix (ixL (K := K)) (pe_ix (ixL (K := K)) (pv 0) (pv 4) (fun _ _ => rfl)) (pv 1) (fun _ _ => rfl)) (pe_ix (ixL (K := K)) (pe_ix (ixL (K := K)) (pv 0) (pv 1) (fun _ _ => rfl)) (pv 3) (fun _ _ => rfl))) pa_nil))))))))))
   , ?_⟩)) hm F.kp (F.binds fun _ _ _ _ _ _ us hl => match us, hl with | [_, _], _ => rfl)
  · obtain ⟨a, k, n, g, rfl, _⟩ := h
    rfl
  · obtain ⟨a, k, n, g, rfl, hM, hk, hn, kk⟩ := h
    obtain ⟨rs, l1, l2⟩ := hM.len
    refine ⟨_, rfl, a, _, rfl, .inl l1, ?_⟩
    rw [l2]
    refine ⟨_, rfl, _, rfl, by omega, by omega, fun D new => ?_⟩
    refine lc_range0 (n := n) (MadeR (RowF n (thr g k)) H D) (MadeR.start new) (fun i H1 hi hv => ?_) fun H1 hv => kk.made (Same.refl _) new hv
    have hM1 := hM.same hv.choose_spec.2.1
    refine ⟨rfl, tY ?_⟩
    refine ⟨_, rfl, _, rfl, by omega, by omega, fun D2 new2 => ?_⟩
    refine lc_range0 (n := n) (Vals_ H1 D2 (rowI n (thr g k i))) (Vals_.start new2) (fun j H2 hj hv2 => ?_) fun H2 hv2 => ?_
    · have hM2 := hM1.same hv2.2
      obtain ⟨rs, m1, mg⟩ := hM2.all
      obtain ⟨r, m2, m3⟩ := mg i hi
      have m4 := row_at (g := g i) hj
      have m5 := row_at (g := g i) hk
      obtain ⟨r', m2', m3'⟩ := mg k hk
      have m4' := row_at (g := g k) hj
      obtain ⟨acc, r1, r2, r3⟩ := hv2.next (Same.refl _) (row_get hj) new2 (by rw [row_len]; omega)
      refine ⟨rfl, tY ?_⟩
      walk_at "rd"
      exact r3
    · obtain ⟨s2, e2⟩ := hv2.done (row_len _ _)
      exact hv.next (rowF_kept n _) (rowF_framed n _) s2 e2 new2 (by rw [e2]; simp) new (by omega)
theorem df_distances {f : Addr} {fd : FuncData} (hm : mg "distances" = some (.ref f)) (F : Fun K "distances" "distances" s_distances f fd) (c_step_length : Df P w K mg base CX0 1 "step_length" (spStep K)) (c_through : Df P w K mg base CX0 1 "through" (spThrough K)) :
    Df P w K mg base CX0 2 "distances" (spDist K) := by
  refine df_of (F.ok sc_distances (fun vs H Q E h => ?_) (fun cdv A outer s H vs Q E hr h => ⟨_,
(pss_cons (ps_set (i := 1) sc_distances.nd rfl (Or.inr rfl) (pe_callB call_len_seq (by rfl) B.len_ (by decide +kernel) (pa_cons (pv 0) pa_nil)))
 (pss_cons (ps_setLc (i := 2) (own := [("i", 4)]) (g := gName 4) (tt := tYes) rfl sc_distances.nd rfl rfl (sw_true rfl rfl rfl (by decide +kernel)) (pi_range1 rfl B.range_ (pa_cons (pv 1) pa_nil)) (blkOk_by (own := [("i", 4)]) (N := ["lengths", "n", "rows", "j", "i", "k"]) (by kernel_rfl))
 (fun _ _ _ _ _ => (pg_name (i := 4) sc_distances.nd rfl (Or.inr rfl))) (fun _ _ _ _ _ => pts_nil) (fun _ _ _ _ _ => (pe_lc (own := [("j", 3)]) (g := gName 3) (tt := tYes) rfl sc_distances.nd (pi_range1 rfl B.range_ (pa_cons (pv 1) pa_nil)) (blkOk_by (own := [("j", 3)]) (N := ["lengths", "n", "rows", "j", "i", "k"]) (by kernel_rfl))
 (fun _ _ _ _ _ => (pg_name (i := 3) sc_distances.nd rfl (Or.inl rfl))) (fun _ _ _ _ _ => pts_nil) (fun _ _ _ _ _ => (pe_c0 c_step_length hr (by decide) rfl (pa_cons (pv 0) (pa_cons (pv 4) (pa_cons (pv 3) pa_nil))))))))
 (pss_cons (ps_for PassesOwn.never rfl (pi_range1 rfl B.range_ (pa_cons (pv 1) pa_nil)) (pg_name (i := 5) sc_distances.nd rfl (Or.inl rfl)) (pss_one (ps_set (i := 2) sc_distances.nd rfl (Or.inl rfl) (pe_c0 c_through hr (by decide) rfl (pa_cons (pv 2) (pa_cons (pv 5) pa_nil))))))
 (pss_one (ps_ret (pv 2))))))
   , ?_⟩)) hm F.kp (F.binds fun _ _ _ _ _ _ us hl => match us, hl with | [_], _ => rfl)
  · obtain ⟨a, n, g, rfl, _⟩ := h
    rfl
  · obtain ⟨a, n, g, rfl, hM, hn, kk⟩ := h
    obtain ⟨rs, l1, l2⟩ := hM.len
    refine ⟨_, rfl, a, _, rfl, .inl l1, ?_⟩
    rw [l2]
    refine ⟨_, rfl, _, rfl, by omega, by omega, fun D new => ?_⟩
    refine lc_range0 (n := n) (MadeR (RowF n (stepL g)) H D) (MadeR.start new) (fun i H1 hi hv => ?_) fun H1 hv => ?_
    · have hM1 := hM.same hv.choose_spec.2.1
      refine ⟨rfl, tY ?_⟩
      refine ⟨_, rfl, _, rfl, by omega, by omega, fun D2 new2 => ?_⟩
      refine lc_range0 (n := n) (Vals_ H1 D2 (rowI n (stepL g i))) (Vals_.start new2) (fun j H2 hj hv2 => ?_) fun H2 hv2 => ?_
      · have hM2 := hM1.same hv2.2
        obtain ⟨acc, r1, r2, r3⟩ := hv2.next (Same.refl _) (row_get hj) new2 (by rw [row_len]; omega)
        refine ⟨rfl, tY ?_⟩
        exact ⟨_, rfl, _, rfl, _, rfl, a, i, j, n, g, rfl, hM2, hi, hj, acc, r1, r2, r3⟩
      · obtain ⟨s2, e2⟩ := hv2.done (row_len _ _)
        exact hv.next (rowF_kept n _) (rowF_framed n _) s2 e2 new2 (by rw [e2]; simp) new (by omega)
    · obtain ⟨s1, rs1, m1, nr1⟩ := hv.mx
      refine ⟨_, rfl, _, rfl, by omega, by omega, ?_⟩
      refine for_range0 (n := n) (fun k σ H' => ∃ (p : Addr) (rs : List Addr) (o : Option V), σ = [some (.ref a), some (.int (n : Int)), some (.ref p), none, none, o] ∧ Same H H' ∧ H p = none ∧ (∀ r ∈ rs, H r = none) ∧ MxR H' p rs n (dstP g n k))
        ⟨D, rs1, none, rfl, s1, new, nr1, m1⟩ ?_ ?_
      · rintro k σ H' hk ⟨p, rs, o, rfl, s', np, nrs, m⟩
        refine ⟨_, rfl, _, rfl, p, k, n, _, rfl, m.mx, hk, hn, fun H2 p2 rs2 s2 np2 nrs2 m2 => ?_⟩
        rw [← dstP_succ] at m2
        exact ⟨p2, rs2, _, rfl, s'.trans s2, s'.free np2, fun r hr => s'.free (nrs2 r hr), m2⟩
      · rintro σ H' ⟨p, rs, o, rfl, s', np, nrs, m⟩
        exact ⟨_, rfl, kk H' p rs s' np nrs m⟩
theorem df_is_connected {f : Addr} {fd : FuncData} (hm : mg "is_connected" = some (.ref f)) (F : Fun K "is_connected" "is_connected" s_is_connected f fd) (c_distances : Df P w K mg base CX0 2 "distances" (spDist K)) :
    Df P w K mg base CX0 3 "is_connected" (spConn K) := by
  refine df_of (F.ok sc_is_connected (fun vs H Q E h => ?_) (fun cdv A outer s H vs Q E hr h => ⟨_,
(pss_one (ps_ret (pe_cmpR op_lt (pe_callB (cr_max rfl) (by rfl) B.max_ (by decide +kernel) (pa_cons (pe_ix ix_list (pe_c0 c_distances hr (by decide) rfl (pa_cons (pv 0) pa_nil)) pe_int (fun _ _ => rfl)) pa_nil)) (pe_gk rfl G.FAR_graphs_) (nomark _))))
   , ?_⟩)) hm F.kp (F.binds fun _ _ _ _ _ _ us hl => match us, hl with | [_], _ => rfl)
  · obtain ⟨a, n, g, rfl, _⟩ := h
    rfl
  · obtain ⟨a, n, g, rfl, hM, hn, hn0, kk⟩ := h
    refine ⟨_, rfl, a, n, g, rfl, hM, hn, fun H' p rs s' np nrs m => ?_⟩
    obtain ⟨rs', m1, mg⟩ := (m.mx (K := K)).all
    obtain ⟨r, m2, m3⟩ := mg 0 hn0
    refine ⟨p, _, _, _, rfl, rfl, m1, m2, ?_⟩
    refine ⟨r, (List.range n).map (dstP g n n 0), rfl, m3, by simpa using hn0, fun x hx hle => ?_⟩
    refine ⟨_, _, rfl, rfl, kk H' _ s' ?_⟩
    rw [decide_eq_true_iff]
    constructor
    · intro hlt j hj
      have := hle _ (List.mem_map.mpr ⟨j, List.mem_range.mpr hj, rfl⟩)
      omega
    · intro hall
      obtain ⟨j, hj, e⟩ := List.mem_map.mp hx
      have := hall j (List.mem_range.mp hj)
      omega
end
end EW
end

/-! ## EwPaths -/
section
set_option Elab.async false
set_option linter.all false
set_option maxRecDepth 100000
set_option maxHeartbeats 2000000
set_option autoImplicit false
namespace EW
open PySem PySem.Spec PyProof.Rows L2
open Sr58 (Frac)
local macro_rules | `(tactic| walk_at "rd") => `(tactic| repeat (first | refine ⟨rfl, ?_⟩ | apply Exists.intro | refine ⟨by assumption, ?_⟩))
abbrev s_relax : Stmt := top 29
theorem sc_relax : FnScope ["arcs", "lengths", "parents", "start", "end", "cost"] ["arcs", "lengths", "parents"] (defScope s_relax) := ⟨rfl, rfl, rfl, by decide +kernel, rfl, by decide +kernel, by decide +kernel⟩
abbrev s_shortest : Stmt := top 30
theorem sc_shortest : FnScope ["arcs", "many", "begins", "lengths", "node", "parents", "turn"] ["arcs", "many", "begins"] (defScope s_shortest) := ⟨rfl, rfl, rfl, by decide +kernel, rfl, by decide +kernel, by decide +kernel⟩
abbrev s_path_to : Stmt := top 31
theorem sc_path_to : FnScope ["parents", "node", "path"] ["parents", "node"] (defScope s_path_to) := ⟨rfl, rfl, rfl, by decide +kernel, rfl, by decide +kernel, by decide +kernel⟩
def ArcAt (K : PySem.W.Frag) (H : Hp) (t : Addr) (y : Nat × Nat × Int) : Prop := SqT K H t [.int (y.1 : Int), .int (y.2.1 : Int), .int y.2.2]
abbrev ArcsAt (K : PySem.W.Frag) : Hp → Addr → List (Nat × Nat × Int) → Prop := ListOf (ArcAt K)
theorem kept_arc {K : PySem.W.Frag} : Kept (ArcAt K) := fun H H' p x e h => same_sqT e h
theorem framed_arc {K : PySem.W.Frag} : Framed (ArcAt K) := fun H D p xs ys x h hD _ => sqT_frame h hD
def spRelax (K : PySem.W.Frag) : Sp := fun vs H Q _ => ∃ (a l p : Addr) (arcs : List (Nat × Nat × Int)) (N : Nat) (st : BF), vs = [.ref a, .ref l, .ref p] ∧ ArcsAt K H a arcs ∧ a ≠ l ∧ a ≠ p ∧ l ≠ p ∧
  H l = some (.lst (rowI N st.1)) ∧ H p = some (.lst (rowI N st.2)) ∧ (∀ y ∈ arcs, y.1 < N ∧ y.2.1 < N) ∧ Q .non (upd (upd H l (.lst (rowI N (bfRelax arcs st).1))) p (.lst (rowI N (bfRelax arcs st).2)))
def spShortest (K : PySem.W.Frag) : Sp := fun vs H Q _ => ∃ (a b : Addr) (arcs : List (Nat × Nat × Int)) (N : Nat) (begins : List Nat), vs = [.ref a, .int (N : Int), .ref b] ∧ ArcsAt K H a arcs ∧ IntsAt K H b (begins.map Int.ofNat) ∧
  (∀ y ∈ arcs, y.1 < N ∧ y.2.1 < N) ∧ (∀ x ∈ begins, x < N) ∧ N ≤ 100 ∧ begins.length ≤ 100 ∧ arcs.length ≤ 1000 ∧
  ∀ (H' : Hp) (t l p : Addr), Same H H' → H l = none → H p = none → l ≠ p → SqT K H' t [.ref l, .ref p] → H' l = some (.lst (rowI N (bfIter arcs begins N).1)) → H' p = some (.lst (rowI N (bfIter arcs begins N).2)) → Q (.ref t) H'
def spPathTo (K : PySem.W.Frag) : Sp := fun vs H Q _ => ∃ (a : Addr) (N node : Nat) (pa : Nat → Int) (c : List Nat), vs = [.ref a, .int (node : Int)] ∧ SqL K H a (rowI N pa) ∧ Chain pa N c ∧ c[0]? = some node ∧ c.length ≤ 100 ∧ HandsN IntsL H Q (c.reverse.map Int.ofNat)
section
variable {P : Program} {w : World} {K : PySem.W.Frag} {mg : Str → Option Value} {base : Heap} (B : Nb mg) {A0 : Ad} (G : Gs K mg A0)
include B G
theorem df_relax {f : Addr} {fd : FuncData} (hm : mg "relax" = some (.ref f)) (F : Fun K "relax" "relax" s_relax f fd) : Df P w K mg base CX0 1 "relax" (spRelax K) := by
  refine df_of (F.ok sc_relax (fun vs H Q E h => ?_) (fun cdv A outer s H vs Q E hr h => ⟨_,
(pss_one (ps_for PassesOwn.never rfl (pi_list (pv 0)) (pg_tup rfl (pgs_cons (pg_name (i := 3) sc_relax.nd rfl (Or.inl rfl)) (pgs_cons (pg_name (i := 4) sc_relax.nd rfl (Or.inl rfl)) (pgs_cons (pg_name (i := 5) sc_relax.nd rfl (Or.inl rfl)) pgs_nil)))) (pss_one (ps_if (PW.pt (pw_and (pt_cmpR op_lt (pe_ix ix_list (pv 1) (pv 3) (fun _ _ => rfl)) (pe_gk rfl G.FAR_paths_) (nomark _)) (pw_and1 (pt_cmpR op_lt (pe_op op_add (pe_ix ix_list (pv 1) (pv 3) (fun _ _ => rfl)) (pv 5)) (pe_ix ix_list (pv 1) (pv 4) (fun _ _ => rfl)) (nomark _))))) (pss_cons (ps_asg (pe_op op_add (pe_ix ix_list (pv 1) (pv 3) (fun _ _ => rfl)) (pv 5)) (pg_sub (pv 1) (pv 4) set_list))
 (pss_one (ps_asg (pv 3) (pg_sub (pv 2) (pv 4) set_list)))) pss_nil))))
   , ?_⟩)) hm F.kp (F.binds fun _ _ _ _ _ _ us hl => match us, hl with | [_, _, _], _ => rfl)
  · obtain ⟨a, l, p, arcs, N, st, rfl, _⟩ := h
    rfl
  · obtain ⟨a, l, p, arcs, N, st, rfl, ⟨as, hl, hp⟩, nal, nap, nlp, eL, eP, hlt, k⟩ := h
    have hlen : as.length = arcs.length := Paired.length hp
    refine ⟨_, rfl, a, rfl, ⟨_, SqL.of hl⟩, for_list (K := K) (a := a) (xs := as.map V.ref) (fun i σ H' => ∃ o1 o2 o3 : Option V, σ = [some (.ref a), some (.ref l), some (.ref p), o1, o2, o3] ∧
        H' = upd (upd H l (.lst (rowI N (bfRelax (arcs.take i) st).1))) p (.lst (rowI N (bfRelax (arcs.take i) st).2)))
      ⟨none, none, none, rfl, ?_⟩ (fun i σ H' _ ⟨_, _, _, _, e⟩ => ?_) ?_ ?_⟩
    · funext b
      unfold upd
      by_cases h1 : b = p
      · rw [if_pos h1, h1]
        exact eP
      · rw [if_neg h1]
        by_cases h2 : b = l
        · rw [if_pos h2, h2]
          exact eL
        · rw [if_neg h2]
    · rw [e]
      refine SqL.of ?_
      rw [upd_ne nap, upd_ne nal]
      exact hl
    · rintro i y σ H' hi ⟨o1, o2, o3, rfl, eH⟩
      obtain ⟨b, hb, rfl⟩ := map_get hi
      obtain ⟨⟨u, v, c⟩, ex, hfx⟩ := ListOf.nth hp hb
      obtain ⟨hu, hv⟩ := hlt _ (List.mem_of_getElem? ex)
      dsimp only at hu hv
      have hfx' : SqT K H' b [.int (u : Int), .int (v : Int), .int c] := by
        rw [eH]
        exact sqT_frame (sqT_frame hfx eL) (by rw [upd_ne (Ne.symm nlp)]; exact eP)
      have e5 : bfRelax (arcs.take (i + 1)) st = bfStep (bfRelax (arcs.take i) st) (u, v, c) := by
        rw [take_more ex]
        unfold bfRelax
        rw [List.foldl_append]
        rfl
      generalize bfRelax (arcs.take i) st = z at eH e5
      have hL : H' l = some (.lst (rowI N z.1)) := by rw [eH, upd_ne nlp, upd_same]
      have hP : H' p = some (.lst (rowI N z.2)) := by rw [eH, upd_same]
      have sL : SqL K H' l (rowI N z.1) := SqL.of hL
      have m1 := row_at (g := z.1) hu
      have m2 := row_at (g := z.1) hv
      rw [e5]
      have i1 : ixN (rowI N z.1).length (v : Int) = some v := ixN_row hv
      have i2 : ixN (rowI N z.2).length (v : Int) = some v := ixN_row hv
      have keep : ∃ o1' o2' o3' : Option V, ([some (V.ref a), some (V.ref l), some (V.ref p), some (V.int (u : Int)), some (V.int (v : Int)), some (V.int c)] : L2.St) = [some (.ref a), some (.ref l), some (.ref p), o1', o2', o3'] ∧
          H' = upd (upd H l (.lst (rowI N z.1))) p (.lst (rowI N z.2)) := ⟨_, _, _, rfl, eH⟩
      walk_at "rd"
      refine ite2 (fun c1 => ?_) (fun c1 => ?_)
      · have c1 := of_decide_eq_true c1
        walk_at "rd"
        refine ite2 (fun c2 => ?_) (fun c2 => ?_)
        · have c2 := of_decide_eq_true c2
          walk_at "rd"
          refine ⟨by rw [upd_ne (Ne.symm nlp)]; exact hP, i2, ?_⟩
          refine ⟨_, _, _, rfl, ?_⟩
          rw [row_set, row_set, show bfStep z (u, v, c) = _ from if_pos ⟨c1, c2⟩, eH]
          funext b
          unfold upd
          by_cases h1 : b = p
          · simp only [h1, if_true]
            rfl
          · by_cases h2 : b = l
            · simp only [if_neg h1, if_pos h2]
              rfl
            · simp only [if_neg h1, if_neg h2]
        · rw [show bfStep z (u, v, c) = z from if_neg fun t => c2 (decide_eq_true t.2)]
          exact keep
      · refine ite2 (fun z => absurd z (by decide)) fun _ => ?_
        rw [show bfStep z (u, v, c) = z from if_neg fun t => c1 (decide_eq_true t.1)]
        exact keep
    · rintro σ H' ⟨o1, o2, o3, rfl, eH⟩
      rw [List.length_map, hlen, List.take_length] at eH
      rw [eH]
      exact k
theorem df_shortest {f : Addr} {fd : FuncData} (hm : mg "shortest" = some (.ref f)) (F : Fun K "shortest" "shortest" s_shortest f fd) (c_relax : Df P w K mg base CX0 1 "relax" (spRelax K)) :
    Df P w K mg base CX0 2 "shortest" (spShortest K) := by
  refine df_of (F.ok sc_shortest (fun vs H Q E h => ?_) (fun cdv A outer s H vs Q E hr h => ⟨_,
(pss_cons (ps_setLc (i := 3) (own := [("node", 4)]) (g := gName 4) (tt := tYes) rfl sc_shortest.nd rfl rfl (sw_true rfl rfl rfl (by decide +kernel)) (pi_range1 rfl B.range_ (pa_cons (pv 1) pa_nil)) (blkOk_by (own := [("node", 4)]) (N := ["arcs", "many", "begins", "lengths", "node", "parents", "turn"]) (by kernel_rfl))
 (fun _ _ _ _ _ => (pg_name (i := 4) sc_shortest.nd rfl (Or.inl rfl))) (fun _ _ _ _ _ => pts_nil) (fun _ _ _ _ _ => (pe_gk rfl G.FAR_paths_)))
 (pss_cons (ps_for PassesOwn.never rfl (pi_list (pv 2)) (pg_name (i := 4) sc_shortest.nd rfl (Or.inl rfl)) (pss_one (ps_asg pe_int (pg_sub (pv 3) (pv 4) set_list))))
 (pss_cons (ps_setLc (i := 5) (own := [("node", 4)]) (g := gName 4) (tt := tYes) rfl sc_shortest.nd rfl rfl (sw_true rfl rfl rfl (by decide +kernel)) (pi_range1 rfl B.range_ (pa_cons (pv 1) pa_nil)) (blkOk_by (own := [("node", 4)]) (N := ["arcs", "many", "begins", "lengths", "node", "parents", "turn"]) (by kernel_rfl))
 (fun _ _ _ _ _ => (pg_name (i := 4) sc_shortest.nd rfl (Or.inl rfl))) (fun _ _ _ _ _ => pts_nil) (fun _ _ _ _ _ => (pe_un un_neg pe_int)))
 (pss_cons (ps_for PassesOwn.never rfl (pi_range1 rfl B.range_ (pa_cons (pv 1) pa_nil)) (pg_name (i := 6) sc_shortest.nd rfl (Or.inl rfl)) (pss_one (ps_expr (pe_c0 c_relax hr (by decide) rfl (pa_cons (pv 0) (pa_cons (pv 3) (pa_cons (pv 5) pa_nil)))))))
 (pss_one (ps_ret (pe_tup (pa_cons (pv 3) (pa_cons (pv 5) pa_nil)))))))))
   , ?_⟩)) hm F.kp (F.binds fun _ _ _ _ _ _ us hl => match us, hl with | [_, _, _], _ => rfl)
  · obtain ⟨a, b, arcs, N, begins, rfl, _⟩ := h
    rfl
  · obtain ⟨a, b, arcs, N, begins, rfl, ha, hb, hlt, hbN, hN, hbl, hal, k⟩ := h
    refine ⟨_, rfl, _, rfl, by omega, by omega, fun L newL => ?_⟩
    refine lc_range0 (n := N) (Vals_ H L (rowI N fun _ => 1000000)) (Vals_.start newL) (fun j H2 hj hv2 => ?_) fun H1 hv1 => ?_
    · refine ⟨rfl, tY ?_⟩
      exact hv2.next (Same.refl _) (row_get hj) newL (by rw [row_len]; omega)
    obtain ⟨s1, e1⟩ := hv1.done (row_len _ _)
    have hb1 : SqL K H1 b ((begins.map Int.ofNat).map V.int) := s1.seq hb
    refine ⟨_, rfl, b, rfl, ⟨_, hb1⟩, for_list (K := K) (a := b) (xs := (begins.map Int.ofNat).map V.int) (fun i σ H' => ∃ o1 : Option V, σ = [some (.ref a), some (.int (N : Int)), some (.ref b), some (.ref L), o1, none, none] ∧
        H' = upd H1 L (.lst (rowI N fun k => if k ∈ begins.take i then 0 else 1000000))) ⟨none, rfl, ?_⟩ (fun i σ H' _ ⟨_, _, e⟩ => ?_) ?_ ?_⟩
    · have : rowI N (fun k => if k ∈ begins.take 0 then (0 : Int) else 1000000) = rowI N fun _ => 1000000 := by simp
      rw [this]
      funext c
      unfold upd
      by_cases h : c = L
      · rw [if_pos h, h]
        exact e1
      · rw [if_neg h]
    · rw [e]
      exact (same_over s1 newL).seq hb
    · rintro i y σ H' hi ⟨o1, rfl, eH⟩
      obtain ⟨z, hz, rfl⟩ := map_get hi
      obtain ⟨x, hx, rfl⟩ := map_get hz
      have hxN := hbN x (List.mem_of_getElem? hx)
      have hL : H' L = some (.lst (rowI N fun k => if k ∈ begins.take i then 0 else 1000000)) := by rw [eH, upd_same]
      have i1 : ixN (rowI N fun k => if k ∈ begins.take i then (0 : Int) else 1000000).length (Int.ofNat x) = some x := ixN_row hxN
      walk_at "rd"
      rw [eH, upd_upd, row_set]
      congr 2
      refine congrArg (rowI N) (funext fun k => ?_)
      rw [take_more hx]
      by_cases c : k = x
      · rw [if_pos c, if_pos (by rw [c]; simp)]
      · rw [if_neg c]
        by_cases d : k ∈ begins.take i
        · rw [if_pos d, if_pos (by simp [d])]
        · rw [if_neg d, if_neg (by simp [c, d])]
    · rintro σ H' ⟨o1, rfl, eH⟩
      rw [List.length_map, List.length_map, List.take_length] at eH
      have hH : Same H H' := by rw [eH]; exact same_over s1 newL
      have hL : H' L = some (.lst (rowI N (bfIter arcs begins 0).1)) := by rw [eH, upd_same]; rfl
      refine ⟨_, rfl, _, rfl, by omega, by omega, fun D newD => ?_⟩
      refine lc_range0 (n := N) (Vals_ H' D (rowI N fun _ => -1)) (Vals_.start newD) (fun j H2 hj hv2 => ?_) fun H2 hv2 => ?_
      · obtain ⟨acc, r1, r2, r3⟩ := hv2.next (Same.refl _) (row_get hj) newD (by rw [row_len]; omega)
        refine ⟨rfl, tY ?_⟩
        walk_at "rd"
        exact r3
      obtain ⟨s2, e2⟩ := hv2.done (row_len _ _)
      have nLD : L ≠ D := ne_of_none hL newD
      refine ⟨_, rfl, _, rfl, by omega, by omega, ?_⟩
      refine for_range0 (n := N) (fun t σ H3 => ∃ o2 : Option V, σ = [some (.ref a), some (.int (N : Int)), some (.ref b), some (.ref L), o1, some (.ref D), o2] ∧
        H3 = upd (upd H2 L (.lst (rowI N (bfIter arcs begins t).1))) D (.lst (rowI N (bfIter arcs begins t).2))) ⟨none, rfl, ?_⟩ ?_ ?_
      · have hL2 := s2 _ _ hL
        funext c
        unfold upd
        by_cases h : c = D
        · rw [if_pos h, h]
          exact e2
        · rw [if_neg h]
          by_cases h2 : c = L
          · rw [if_pos h2, h2]
            exact hL2
          · rw [if_neg h2]
      · rintro t σ H3 ht ⟨o2, rfl, eH3⟩
        have hs3 : Same H H3 := by
          rw [eH3]
          exact same_over (same_over (hH.trans s2) newL) (hH.free newD)
        obtain ⟨as, ha1, ha2⟩ := ha
        refine ⟨_, rfl, _, rfl, _, rfl, a, L, D, arcs, N, bfIter arcs begins t, rfl, (Kept.list kept_arc) _ _ _ _ hs3 ⟨as, ha1, ha2⟩, ne_of_none ha1 newL, ne_of_none ha1 (hH.free newD), nLD, ?_, ?_, hlt, ?_⟩
        · rw [eH3, upd_ne nLD, upd_same]
        · rw [eH3, upd_same]
        · refine ⟨_, rfl, ?_⟩
          rw [eH3]
          show _ = upd (upd H2 L (.lst (rowI N (bfRelax arcs (bfIter arcs begins t)).1))) D (.lst (rowI N (bfRelax arcs (bfIter arcs begins t)).2))
          funext c
          unfold upd
          by_cases h : c = D
          · simp only [if_pos h]
          · by_cases h2 : c = L
            · simp only [if_neg h, if_pos h2]
            · simp only [if_neg h, if_neg h2]
      · rintro σ H3 ⟨o2, rfl, eH3⟩
        have hs3 : Same H H3 := by
          rw [eH3]
          exact same_over (same_over (hH.trans s2) newL) (hH.free newD)
        have hL3 : H3 L = some (.lst (rowI N (bfIter arcs begins N).1)) := by rw [eH3, upd_ne nLD, upd_same]
        have hD3 : H3 D = some (.lst (rowI N (bfIter arcs begins N).2)) := by rw [eH3, upd_same]
        refine ⟨_, rfl, _, rfl, by show 2 ≤ sizeLine; decide, fun p hp => ?_⟩
        exact k _ p L D (hs3.trans (same_upd hp)) newL (hH.free newD) nLD (SqT.of upd_same) (same_upd hp _ _ hL3) (same_upd hp _ _ hD3)

omit B G in
theorem last_at {l : List V} {y : V} (h : l[l.length - 1]? = some y) : atI l (-1) = some y := by
  have hl : 0 < l.length := by
    rcases Nat.eq_zero_or_pos l.length with z | z
    · rw [List.getElem?_eq_none (by omega)] at h
      cases h
    · exact z
  unfold atI ixN
  rw [if_neg (by omega), if_pos (by omega)]
  show l[((-1 : Int) + l.length).toNat]? = some y
  have : ((-1 : Int) + l.length).toNat = l.length - 1 := by omega
  rw [this]
  exact h
theorem df_path_to {f : Addr} {fd : FuncData} (hm : mg "path_to" = some (.ref f)) (F : Fun K "path_to" "path_to" s_path_to f fd) :
    Df P w K mg base CX0 1 "path_to" (spPathTo K) := by
  refine df_of (F.ok sc_path_to (fun vs H Q E h => ?_) (fun cdv A outer s H vs Q E hr h => ⟨_,
(pss_cons (ps_set (i := 2) sc_path_to.nd rfl (Or.inl rfl) (pe_lst (pa_cons (pv 1) pa_nil)))
 (pss_cons (ps_while PassesOwn.never (pt_cmpR op_ge (pe_ix ix_list (pv 0) (pe_ix ix_list (pv 2) (pe_un un_neg pe_int) (fun _ _ => rfl)) (fun _ _ => rfl)) pe_int (nomark _)) (pss_one (ps_expr (pe_bm PySem.F.plainAttrs_list PySem.F.slot_list_append PySem.F.type_list_append mt_append (pv 2) (pa_cons (pe_ix ix_list (pv 0) (pe_ix ix_list (pv 2) (pe_un un_neg pe_int) (fun _ _ => rfl)) (fun _ _ => rfl)) pa_nil)))))
 (pss_one (ps_ret (pe_revL (pv 2))))))
   , ?_⟩)) hm F.kp (F.binds fun _ _ _ _ _ _ us hl => match us, hl with | [_, _], _ => rfl)
  · obtain ⟨a, N, node, pa, c, rfl, _⟩ := h
    rfl
  · obtain ⟨a, N, node, pa, c, rfl, hS, hc, h0, hlen, k⟩ := h
    have hpos : 0 < c.length := (List.getElem?_eq_some_iff.mp h0).1
    refine ⟨_, rfl, by show 1 ≤ sizeLine; decide, fun L newL => ?_⟩
    refine while_by (fun σ H' => σ = [some (.ref a), some (.int (node : Int)), some (.ref L)] ∧ ∃ i, i < c.length ∧ H' = upd H L (.lst (((c.take (i + 1)).map Int.ofNat).map V.int)))
      (fun _ H' => match H' L with | some (.lst xs) => c.length - xs.length | _ => 0) ⟨rfl, 0, hpos, ?_⟩ ?_ ?_
    · have : c.take 1 = [node] := by
        cases c with
        | nil => simp at h0
        | cons x c => simp at h0; subst h0; rfl
      rw [this]
      rfl
    · rintro σ H' ⟨rfl, i, hi, eH⟩
      have hL : H' L = some (.lst (((c.take (i + 1)).map Int.ofNat).map V.int)) := by rw [eH, upd_same]
      have sL : SqL K H' L (((c.take (i + 1)).map Int.ofNat).map V.int) := SqL.of hL
      have sa : SqL K H' a (rowI N pa) := by
        rw [eH]
        exact (same_upd newL).seq hS
      have hlen2 : (((c.take (i + 1)).map Int.ofNat).map V.int).length = i + 1 := by
        rw [List.length_map, List.length_map, List.length_take]
        omega
      obtain ⟨v, hv⟩ : ∃ v, c[i]? = some v := ⟨_, List.getElem?_eq_getElem hi⟩
      have hvN := hc.lt v (List.mem_of_getElem? hv)
      have l1 : atI (((c.take (i + 1)).map Int.ofNat).map V.int) (-1) = some (.int (v : Int)) := last_at (by
        rw [hlen2, Nat.add_sub_cancel, List.getElem?_map, List.getElem?_map, List.getElem?_take_of_lt (by omega), hv]
        rfl)
      have m1 := row_at (g := pa) hvN
      have hmu : (match H' L with | some (.lst xs) => c.length - xs.length | _ => 0) = c.length - (i + 1) := by
        rw [hL]
        show c.length - _ = _
        rw [hlen2]
      walk_at "rd"
      cases hn : c[i + 1]? with
      | some u =>
        have e2 := hc.next i v u hv hn
        have hi2 : i + 1 < c.length := (List.getElem?_eq_some_iff.mp hn).1
        refine ite2 (fun _ => ?_) fun z => absurd (decide_eq_true (by rw [e2]; omega)) z
        refine ⟨_, rfl, .inl ⟨rfl, _, sL⟩, ?_⟩
        walk_at "rd"
        refine ⟨small1000 (by omega), ?_⟩
        have e3 : ((c.take (i + 1)).map Int.ofNat).map V.int ++ [V.int (pa v)] = ((c.take (i + 1 + 1)).map Int.ofNat).map V.int := by
          rw [take_more hn, List.map_append, List.map_append, e2]
          rfl
        rw [e3, eH, upd_upd]
        refine ⟨⟨rfl, i + 1, hi2, rfl⟩, ?_⟩
        rw [← eH, hmu]
        show (match upd H L _ L with | some (.lst xs) => c.length - xs.length | _ => 0) < _
        rw [upd_same]
        show c.length - _ < _
        rw [List.length_map, List.length_map, List.length_take]
        omega
      | none =>
        have e2 := hc.last i v hv hn
        refine ite2 (fun z => absurd (of_decide_eq_true z) (by omega)) fun _ => ?_
        have hic : i + 1 = c.length := by
          rcases Nat.lt_or_ge (i + 1) c.length with q | q
          · rw [List.getElem?_eq_getElem q] at hn
            cases hn
          · omega
        have sH : Same H H' := by rw [eH]; exact same_upd newL
        refine ⟨_, rfl, L, _, rfl, sL, fun p hp => ?_⟩
        refine k _ p (sH.trans (same_upd hp)) (sH.free hp) ?_
        unfold IntsL
        rw [upd_same, hic, List.take_length, List.map_reverse, List.map_reverse]
    · rintro σ H' Q Q' i ⟨x1, e1, x2, e2, x3, e3, p1, xs1, i1, v1, f1, f2, f3, f4, p2, xs2, i2, v2, g1, g2, g3, g4, j1, j2, q1, q2, k1, q3, q4⟩
      exact ⟨x1, e1, x2, e2, x3, e3, p1, xs1, i1, v1, f1, f2, f3, f4, p2, xs2, i2, v2, g1, g2, g3, g4, j1, j2, q1, q2, k1, q3, i _ _ q4⟩
end
end EW
end

/-! ## EwPot -/
section
set_option Elab.async false
set_option linter.all false
set_option maxRecDepth 100000
set_option maxHeartbeats 2000000
set_option autoImplicit false
namespace EW
open PySem PySem.Spec PyProof.Rows L2
open Sr58 (Frac)
local macro_rules | `(tactic| walk_at "rd") => `(tactic| repeat (first | refine ⟨rfl, ?_⟩ | apply Exists.intro | refine ⟨by assumption, ?_⟩))
abbrev s_bounds_of : Stmt := top 33
theorem sc_bounds_of : FnScope ["costs", "plan", "n", "arcs", "i", "j"] ["costs", "plan"] (defScope s_bounds_of) := ⟨rfl, rfl, rfl, by decide +kernel, rfl, by decide +kernel, by decide +kernel⟩
abbrev s_greatest_potentials : Stmt := top 34
theorem sc_greatest_potentials : FnScope ["costs", "plan", "lengths", "parents"] ["costs", "plan"] (defScope s_greatest_potentials) := ⟨rfl, rfl, rfl, by decide +kernel, rfl, by decide +kernel, by decide +kernel⟩
abbrev s_are_feasible : Stmt := top 35
theorem sc_are_feasible : FnScope ["costs", "potentials", "n", "i", "j"] ["costs", "potentials"] (defScope s_are_feasible) := ⟨rfl, rfl, rfl, by decide +kernel, rfl, by decide +kernel, by decide +kernel⟩
abbrev s_pairs : Stmt := top 36
theorem sc_pairs : FnScope ["n", "found", "i", "j"] ["n"] (defScope s_pairs) := ⟨rfl, rfl, rfl, by decide +kernel, rfl, by decide +kernel, by decide +kernel⟩
/-- a list of new things that grows -/
def Grow {α : Type} (F : Hp → Addr → α → Prop) (H0 : Hp) (L : Addr) (xs : List α) (H' : Hp) : Prop :=
  ∃ as : List Addr, H' L = some (.lst (as.map V.ref)) ∧ Same H0 H' ∧ Paired (F H') as xs ∧ L ∉ as
theorem Grow.start {α : Type} {F : Hp → Addr → α → Prop} {H0 : Hp} {L : Addr} (new : H0 L = none) : Grow F H0 L [] (upd H0 L (.lst [])) :=
  ⟨[], upd_same, same_upd new, .nil, by simp⟩
theorem Grow.app {α : Type} {F : Hp → Addr → α → Prop} (hk : Kept F) (hf : Framed F) {H0 H' H4 : Hp} {L p : Addr} {xs : List α} {x : α} (h : Grow F H0 L xs H') (s : Same H' H4) (hx : F H4 p x) (hp : p ≠ L) (new : H0 L = none) (hl : xs.length ≤ 999) :
    ∃ acc, H4 L = some (.lst acc) ∧ acc.length < sizeLine ∧ Grow F H0 L (xs ++ [x]) (upd H4 L (.lst (acc ++ [.ref p]))) := by
  obtain ⟨as, h1, h2, h3, h4⟩ := h
  have hD := s _ _ h1
  have hlen : as.length = xs.length := Paired.length h3
  refine ⟨as.map V.ref, hD, ?_, as ++ [p], ?_, ?_, ?_, ?_⟩
  · rw [List.length_map, hlen]
    exact small1000 (by omega)
  · rw [upd_same, List.map_append]
    rfl
  · intro b o q
    rw [upd_ne (ne_of_none q new)]
    exact s _ _ (h2 _ _ q)
  · refine paired_app ?_ (hf _ _ _ _ _ _ hx hD hp)
    have key : ∀ (zs : List V) {as : List Addr} {ys : List α}, Paired (F H') as ys → L ∉ as → Paired (F (upd H4 L (.lst zs))) as ys := by
      intro zs as ys h
      induction h with
      | nil => intro _; exact .nil
      | cons r t ih => intro hn; exact .cons (hf _ _ _ _ _ _ (hk _ _ _ _ s r) hD (fun z => hn (by rw [z]; exact List.mem_cons_self))) (ih fun z => hn (List.mem_cons_of_mem _ z))
    exact key _ h3 h4
  · intro hm
    rcases List.mem_append.mp hm with z | z
    · exact h4 z
    · exact hp (List.mem_singleton.mp z).symm
theorem Grow.done {α : Type} {F : Hp → Addr → α → Prop} {H0 H' : Hp} {L : Addr} {xs : List α} (h : Grow F H0 L xs H') : Same H0 H' ∧ ListOf F H' L xs := by
  obtain ⟨as, h1, h2, h3, h4⟩ := h
  exact ⟨h2, as, h1, h3⟩
/-- a new tuple is put behind the list -/
theorem Grow.tup {α : Type} {F : Hp → Addr → α → Prop} (hk : Kept F) (hf : Framed F) {H0 H' : Hp} {L : Addr} {xs : List α} {x : α} {vs : List V} (h : Grow F H0 L xs H') (hF : ∀ (H : Hp) (t : Addr), H t = some (.tup vs) → F H t x) (new : H0 L = none) (hl : xs.length ≤ 999) {t : Addr} (ht : H' t = none) :
    ∃ acc, (upd H' t (.tup vs)) L = some (.lst acc) ∧ acc.length < sizeLine ∧ Grow F H0 L (xs ++ [x]) (upd (upd H' t (.tup vs)) L (.lst (acc ++ [.ref t]))) :=
  h.app hk hf (same_upd ht) (hF _ _ upd_same) (fun z => by obtain ⟨as, h1, _⟩ := h; rw [z, h1] at ht; cases ht) new hl

def PairAt (K : PySem.W.Frag) (H : Hp) (t : Addr) (y : Nat × Nat) : Prop := SqT K H t [.int (y.1 : Int), .int (y.2 : Int)]
theorem kept_pair {K : PySem.W.Frag} : Kept (PairAt K) := fun H H' p x e h => same_sqT e h
theorem framed_pair {K : PySem.W.Frag} : Framed (PairAt K) := fun H D p xs ys x h hD _ => sqT_frame h hD
def spBounds (K : PySem.W.Frag) : Sp := fun vs H Q _ => ∃ (a b : Addr) (n : Nat) (c p : Nat → Nat → Int), vs = [.ref a, .ref b] ∧ Mx K H a n c ∧ Mx K H b n p ∧ n ≤ 20 ∧ HandsN (ArcsAt K) H Q (gridOf (bndArcs c p) n n 0)
def spPotentials (K : PySem.W.Frag) : Sp := fun vs H Q _ => ∃ (a b : Addr) (n : Nat) (c p : Nat → Nat → Int), vs = [.ref a, .ref b] ∧ Mx K H a n c ∧ Mx K H b n p ∧ n ≤ 20 ∧ 0 < n ∧
  HandsN IntsL H Q ((List.range n).map (bfIter (gridOf (bndArcs c p) n n 0) [0] n).1)
def spPairs (K : PySem.W.Frag) : Sp := fun vs H Q _ => ∃ n : Nat, vs = [.int (n : Int)] ∧ n ≤ 20 ∧ HandsN (ListOf (PairAt K)) H Q (Sr80.pairs n)
def spFeasible (K : PySem.W.Frag) : Sp := fun vs H Q _ => ∃ (a b : Addr) (n : Nat) (c : Nat → Nat → Int) (u : Nat → Int), vs = [.ref a, .ref b] ∧ Mx K H a n c ∧ SqL K H b (rowI n u) ∧ n ≤ 20 ∧
  ∀ H', Same H H' → Q (.bl ((Sr80.pairs n).all fun y => decide (u y.2 - u y.1 ≤ c y.1 y.2))) H'
section
variable {P : Program} {w : World} {K : PySem.W.Frag} {mg : Str → Option Value} {base : Heap} (B : Nb mg) {A0 : Ad} (G : Gs K mg A0)
include B G
theorem df_bounds {f : Addr} {fd : FuncData} (hm : mg "bounds_of" = some (.ref f)) (F : Fun K "bounds_of" "bounds_of" s_bounds_of f fd) : Df P w K mg base CX0 1 "bounds_of" (spBounds K) := by
  refine df_of (F.ok sc_bounds_of (fun vs H Q E h => ?_) (fun cdv A outer s H vs Q E hr h => ⟨_,
(pss_cons (ps_set (i := 2) sc_bounds_of.nd rfl (Or.inl rfl) (pe_callB call_len_seq (by rfl) B.len_ (by decide +kernel) (pa_cons (pv 0) pa_nil)))
 (pss_cons (ps_set (i := 3) sc_bounds_of.nd rfl (Or.inl rfl) (pe_lst pa_nil))
 (pss_cons (ps_for PassesOwn.never rfl (pi_range1 rfl B.range_ (pa_cons (pv 2) pa_nil)) (pg_name (i := 4) sc_bounds_of.nd rfl (Or.inl rfl)) (pss_one (ps_for PassesOwn.never rfl (pi_range1 rfl B.range_ (pa_cons (pv 2) pa_nil)) (pg_name (i := 5) sc_bounds_of.nd rfl (Or.inl rfl)) (pss_cons (ps_expr (pe_bm PySem.F.plainAttrs_list PySem.F.slot_list_append PySem.F.type_list_append mt_append (pv 3) (pa_cons (pe_tup (pa_cons (pv 4) (pa_cons (pv 5) (pa_cons (pe_ix ix_list (pe_ix ix_list (pv 0) (pv 4) (fun _ _ => rfl)) (pv 5) (fun _ _ => rfl)) pa_nil)))) pa_nil)))
 (pss_one (ps_if (pt_cmpR op_gt (pe_ix ix_list (pe_ix ix_list (pv 1) (pv 4) (fun _ _ => rfl)) (pv 5) (fun _ _ => rfl)) pe_int (nomark _)) (pss_one (ps_expr (pe_bm PySem.F.plainAttrs_list PySem.F.slot_list_append PySem.F.type_list_append mt_append (pv 3) (pa_cons (pe_tup (pa_cons (pv 5) (pa_cons (pv 4) (pa_cons (pe_op op_sub pe_int (pe_ix ix_list (pe_ix ix_list (pv 0) (pv 4) (fun _ _ => rfl)) (pv 5) (fun _ _ => rfl))) pa_nil)))) pa_nil)))) pss_nil))))))
 (pss_one (ps_ret (pv 3))))))
   , ?_⟩)) hm F.kp (F.binds fun _ _ _ _ _ _ us hl => match us, hl with | [_, _], _ => rfl)
  · obtain ⟨a, b, n, c, p, rfl, _⟩ := h
    rfl
  · obtain ⟨a, b, n, c, p, rfl, hC, hP, hn, k⟩ := h
    obtain ⟨rs0, l1, l2⟩ := hC.len
    refine ⟨_, rfl, a, _, rfl, .inl l1, ?_⟩
    rw [l2]
    refine ⟨by show 0 ≤ sizeLine; decide, fun L new => ?_⟩
    refine ⟨_, rfl, _, rfl, by omega, by omega, ?_⟩
    refine for_range0 (n := n) (fun i σ H' => ∃ o1 o2 : Option V, σ = [some (.ref a), some (.ref b), some (.int (n : Int)), some (.ref L), o1, o2] ∧ Grow (ArcAt K) H L (gridOf (bndArcs c p) n i 0) H')
      ⟨none, none, rfl, Grow.start new⟩ ?_ ?_
    · rintro i σ H' hi ⟨o1, o2, rfl, hg⟩
      refine ⟨_, rfl, _, rfl, by omega, by omega, ?_⟩
      refine for_range0 (n := n) (fun j σ H' => ∃ o2 : Option V, σ = [some (.ref a), some (.ref b), some (.int (n : Int)), some (.ref L), some (.int (i : Int)), o2] ∧ Grow (ArcAt K) H L (gridOf (bndArcs c p) n i j) H')
        ⟨o2, rfl, hg⟩ ?_ ?_
      · rintro j σ H1 hj ⟨o2, rfl, hg⟩
        have sz : (gridOf (bndArcs c p) n i j).length ≤ 900 := by
          refine Nat.le_trans (gridOf_len (bndArcs_len c p) i j) ?_
          have h1 : i * (n * 2) ≤ 20 * (20 * 2) := Nat.mul_le_mul (by omega) (by omega)
          omega
        have cC := hC.same hg.done.1
        obtain ⟨rs, m1, mg1⟩ := cC.all
        obtain ⟨r, m2, m3⟩ := mg1 i hi
        have m4 := row_at (g := c i) hj
        have aL : ∃ as : List Addr, H1 L = some (.lst (as.map V.ref)) := ⟨_, hg.choose_spec.1⟩
        obtain ⟨asL, eL⟩ := aL
        refine ⟨_, rfl, .inl ⟨rfl, _, SqL.of eL⟩, ?_⟩
        walk_at "rd"
        refine ⟨by show 3 ≤ sizeLine; decide, fun t ht => ?_⟩
        obtain ⟨acc, r1, r2, r3⟩ := hg.tup (x := (i, j, c i j)) (vs := [.int (i : Int), .int (j : Int), .int (c i j)]) kept_arc framed_arc (fun H t e => SqT.of e) new (by omega) ht
        have cC2 := hC.same r3.done.1
        have cP2 := hP.same r3.done.1
        obtain ⟨qs, p1, pg1⟩ := cP2.all
        obtain ⟨q, p2, p3⟩ := pg1 i hi
        have p4 := row_at (g := p i) hj
        refine ⟨L, _, _, rfl, rfl, r1, r2, ?_⟩
        clear m1 m2 m3 mg1
        walk_at "rd"
        by_cases d : 0 < p i j
        · refine ite2 (fun _ => ?_) fun z => absurd (decide_eq_true d) z
          obtain ⟨rs2, m1, mg1⟩ := cC2.all
          obtain ⟨r', m2, m3⟩ := mg1 i hi
          obtain ⟨asL2, eL2⟩ : ∃ as : List Addr, _ = some (HO.lst (as.map V.ref)) := ⟨_, r3.choose_spec.1⟩
          refine ⟨_, rfl, .inl ⟨rfl, _, SqL.of eL2⟩, ?_⟩
          walk_at "rd"
          refine ⟨by show 3 ≤ sizeLine; decide, fun t2 ht2 => ?_⟩
          obtain ⟨acc2, q1, q2, q3⟩ := r3.tup (x := (j, i, 0 - c i j)) (vs := [.int (j : Int), .int (i : Int), .int (0 - c i j)]) kept_arc framed_arc (fun H t e => SqT.of e) new (by rw [List.length_append]; show _ + 1 ≤ 999; omega) ht2
          refine ⟨L, _, _, rfl, rfl, q1, q2, _, rfl, ?_⟩
          rw [gridOf_next, show bndArcs c p i j = [(i, j, c i j)] ++ [(j, i, 0 - c i j)] by unfold bndArcs; rw [if_pos d]; rfl, ← List.append_assoc]
          exact q3
        · refine ite2 (fun z => absurd (of_decide_eq_true z) d) fun _ => ?_
          refine ⟨_, rfl, ?_⟩
          rw [gridOf_next, show bndArcs c p i j = [(i, j, c i j)] by unfold bndArcs; rw [if_neg d]]
          exact r3
      · rintro σ H1 ⟨o2, rfl, hg⟩
        rw [gridOf_row] at hg
        exact ⟨_, o2, rfl, hg⟩
    · rintro σ H' ⟨o1, o2, rfl, hg⟩
      obtain ⟨s1, h1⟩ := hg.done
      exact ⟨_, rfl, k _ L s1 new h1⟩

theorem df_potentials {f : Addr} {fd : FuncData} (hm : mg "greatest_potentials" = some (.ref f)) (F : Fun K "greatest_potentials" "greatest_potentials" s_greatest_potentials f fd)
    (c_bounds_of : Df P w K mg base CX0 1 "bounds_of" (spBounds K)) (c_shortest : Df P w K mg base CX0 2 "shortest" (spShortest K)) : Df P w K mg base CX0 3 "greatest_potentials" (spPotentials K) := by
  refine df_of (F.ok sc_greatest_potentials (fun vs H Q E h => ?_) (fun cdv A outer s H vs Q E hr h => ⟨_,
(pss_cons (ps_asg (pe_c0 c_shortest hr (by decide) rfl (pa_cons (pe_c0 c_bounds_of hr (by decide) rfl (pa_cons (pv 0) (pa_cons (pv 1) pa_nil))) (pa_cons (pe_callB call_len_seq (by rfl) B.len_ (by decide +kernel) (pa_cons (pv 0) pa_nil)) (pa_cons (pe_lst (pa_cons pe_int pa_nil)) pa_nil)))) (pg_tup rfl (pgs_cons (pg_name (i := 2) sc_greatest_potentials.nd rfl (Or.inl rfl)) (pgs_cons (pg_name (i := 3) sc_greatest_potentials.nd rfl (Or.inl rfl)) pgs_nil))))
 (pss_one (ps_ret (pv 2))))
   , ?_⟩)) hm F.kp (F.binds fun _ _ _ _ _ _ us hl => match us, hl with | [_, _], _ => rfl)
  · obtain ⟨a, b, n, c, p, rfl, _⟩ := h
    rfl
  · obtain ⟨a, b, n, c, p, rfl, hC, hP, hn, h0, k⟩ := h
    refine ⟨_, rfl, _, rfl, a, b, n, c, p, rfl, hC, hP, hn, fun H1 L s1 newL hL => ?_⟩
    obtain ⟨rs0, l1, l2⟩ := (hC.same s1).len
    refine ⟨_, rfl, a, _, rfl, .inl l1, ?_⟩
    rw [l2]
    refine ⟨by show 1 ≤ sizeLine; decide, fun z newz => ?_⟩
    have s2 := same_upd (o := .lst [V.int 0]) newz
    refine ⟨L, z, _, n, [0], rfl, (Kept.list kept_arc) _ _ _ _ s2 hL, SqL.of upd_same, fun y hy => ?_, fun x hx => by rw [List.mem_singleton.mp hx]; exact h0, by omega, by decide, ?_, fun H3 t l q s3 nl nq nlq ht hl hq => ?_⟩
    · have := gridOf_mem hy
      obtain ⟨i, j, hi, hj, hm⟩ := this
      unfold bndArcs at hm
      rcases List.mem_cons.mp hm with e | hm
      · rw [e]
        exact ⟨hi, hj⟩
      · split at hm
        · rw [List.mem_singleton.mp hm]
          exact ⟨hj, hi⟩
        · simp at hm
    · have := gridOf_len (n := n) (bndArcs_len c p) n 0
      have h1 : n * (n * 2) ≤ 20 * (20 * 2) := Nat.mul_le_mul (by omega) (by omega)
      omega
    · refine ⟨t, _, rfl, ht, rfl, ?_⟩
      walk_at "rd"
      exact (k _ l ((s1.trans s2).trans s3) ((s1.trans s2).free nl) hl)
theorem df_pairs {f : Addr} {fd : FuncData} (hm : mg "pairs" = some (.ref f)) (F : Fun K "pairs" "pairs" s_pairs f fd) : Df P w K mg base CX0 1 "pairs" (spPairs K) := by
  refine df_of (F.ok sc_pairs (fun vs H Q E h => ?_) (fun cdv A outer s H vs Q E hr h => ⟨_,
(pss_cons (ps_set (i := 1) sc_pairs.nd rfl (Or.inl rfl) (pe_lst pa_nil))
 (pss_cons (ps_for PassesOwn.never rfl (pi_range1 rfl B.range_ (pa_cons (pv 0) pa_nil)) (pg_name (i := 2) sc_pairs.nd rfl (Or.inl rfl)) (pss_one (ps_for PassesOwn.never rfl (pi_range1 rfl B.range_ (pa_cons (pv 0) pa_nil)) (pg_name (i := 3) sc_pairs.nd rfl (Or.inl rfl)) (pss_one (ps_expr (pe_bm PySem.F.plainAttrs_list PySem.F.slot_list_append PySem.F.type_list_append mt_append (pv 1) (pa_cons (pe_tup (pa_cons (pv 2) (pa_cons (pv 3) pa_nil))) pa_nil)))))))
 (pss_one (ps_ret (pv 1)))))
   , ?_⟩)) hm F.kp (F.binds fun _ _ _ _ _ _ us hl => match us, hl with | [_], _ => rfl)
  · obtain ⟨n, rfl, _⟩ := h
    rfl
  · obtain ⟨n, rfl, hn, k⟩ := h
    refine ⟨by show 0 ≤ sizeLine; decide, fun L new => ?_⟩
    refine ⟨_, rfl, _, rfl, by omega, by omega, ?_⟩
    refine for_range0 (n := n) (fun i σ H' => ∃ o1 o2 : Option V, σ = [some (.int (n : Int)), some (.ref L), o1, o2] ∧ Grow (PairAt K) H L (gridOf (fun i j => [(i, j)]) n i 0) H')
      ⟨none, none, rfl, Grow.start new⟩ ?_ ?_
    · rintro i σ H' hi ⟨o1, o2, rfl, hg⟩
      refine ⟨_, rfl, _, rfl, by omega, by omega, ?_⟩
      refine for_range0 (n := n) (fun j σ H' => ∃ o2 : Option V, σ = [some (.int (n : Int)), some (.ref L), some (.int (i : Int)), o2] ∧ Grow (PairAt K) H L (gridOf (fun i j => [(i, j)]) n i j) H')
        ⟨o2, rfl, hg⟩ ?_ ?_
      · rintro j σ H1 hj ⟨o2, rfl, hg⟩
        have sz : (gridOf (fun i j => [(i, j)]) n i j).length ≤ 900 := by
          refine Nat.le_trans (gridOf_len (k := 1) (fun _ _ => Nat.le_refl _) i j) ?_
          have h1 : i * (n * 1) ≤ 20 * (20 * 1) := Nat.mul_le_mul (by omega) (by omega)
          omega
        obtain ⟨asL, eL⟩ : ∃ as : List Addr, H1 L = some (.lst (as.map V.ref)) := ⟨_, hg.choose_spec.1⟩
        refine ⟨_, rfl, .inl ⟨rfl, _, SqL.of eL⟩, ?_⟩
        walk_at "rd"
        refine ⟨by show 2 ≤ sizeLine; decide, fun t ht => ?_⟩
        obtain ⟨acc, r1, r2, r3⟩ := hg.tup (x := (i, j)) (vs := [.int (i : Int), .int (j : Int)]) kept_pair framed_pair (fun H t e => SqT.of e) new (by omega) ht
        refine ⟨L, _, _, rfl, rfl, r1, r2, _, rfl, ?_⟩
        rw [gridOf_next]
        exact r3
      · rintro σ H1 ⟨o2, rfl, hg⟩
        rw [gridOf_row] at hg
        exact ⟨_, o2, rfl, hg⟩
    · rintro σ H' ⟨o1, o2, rfl, hg⟩
      obtain ⟨s1, h1⟩ := hg.done
      rw [grid_pairs] at h1
      exact ⟨_, rfl, k _ L s1 new h1⟩
theorem df_feasible {f : Addr} {fd : FuncData} (hm : mg "are_feasible" = some (.ref f)) (F : Fun K "are_feasible" "are_feasible" s_are_feasible f fd) (c_pairs : Df P w K mg base CX0 1 "pairs" (spPairs K)) : Df P w K mg base CX0 2 "are_feasible" (spFeasible K) := by
  refine df_of (F.ok sc_are_feasible (fun vs H Q E h => ?_) (fun cdv A outer s H vs Q E hr h => ⟨_,
(pss_cons (ps_set (i := 2) sc_are_feasible.nd rfl (Or.inl rfl) (pe_callB call_len_seq (by rfl) B.len_ (by decide +kernel) (pa_cons (pv 0) pa_nil)))
 (pss_one (ps_ret (pe_callB (cr_all rfl) (by rfl) B.all_ (by decide +kernel) (pa_cons (pe_lc (own := [("i", 3), ("j", 4)]) (tt := tYes) rfl sc_are_feasible.nd (pi_list (pe_c0 c_pairs hr (by decide) rfl (pa_cons (pv 2) pa_nil))) (blkOk_by (own := [("i", 3), ("j", 4)]) (N := ["costs", "potentials", "n", "i", "j"]) (by kernel_rfl))
 (fun _ _ _ _ _ => (pgT (K := K) (n := 2) rfl (pgs_cons (pg_name (i := 3) sc_are_feasible.nd rfl (Or.inl rfl)) (pgs_cons (pg_name (i := 4) sc_are_feasible.nd rfl (Or.inl rfl)) pgs_nil)))) (fun _ _ _ _ _ => pts_nil) (fun _ _ _ _ _ => (pe_cmpR op_le (pe_op op_sub (pe_ix (ixL (K := K)) (pv 1) (pv 4) (fun _ _ => rfl)) (pe_ix (ixL (K := K)) (pv 1) (pv 3) (fun _ _ => rfl))) (pe_ix (ixL (K := K)) (pe_ix (ixL (K := K)) (pv 0) (pv 3) (fun _ _ => rfl)) (pv 4) (fun _ _ => rfl)) (nomark _)))) pa_nil)))))
   , ?_⟩)) hm F.kp (F.binds fun _ _ _ _ _ _ us hl => match us, hl with | [_, _], _ => rfl)
  · obtain ⟨a, b, n, c, u, rfl, _⟩ := h
    rfl
  · obtain ⟨a, b, n, c, u, rfl, hC, hU, hn, k⟩ := h
    obtain ⟨rs0, l1, l2⟩ := hC.len
    refine ⟨_, rfl, a, _, rfl, .inl l1, ?_⟩
    rw [l2]
    refine ⟨_, rfl, n, rfl, hn, fun H1 L s1 newL hL => ?_⟩
    obtain ⟨as, hl, hp⟩ := hL
    have hlen : as.length = (Sr80.pairs n).length := Paired.length hp
    refine ⟨L, rfl, ⟨_, SqL.of hl⟩, fun D newD => ?_⟩
    refine lc_list (K := K) (a := L) (xs := as.map V.ref) (Vals_ H1 D (((Sr80.pairs n).map fun y => decide (u y.2 - u y.1 ≤ c y.1 y.2)).map V.bl)) (Vals_.start newD) (fun i H' _ e => e.2.seq (SqL.of hl)) ?_ ?_
    · rintro i y H' hi hv
      obtain ⟨b', hb, rfl⟩ := map_get hi
      obtain ⟨⟨x, y⟩, ex, hfx⟩ := ListOf.nth hp hb
      obtain ⟨hx, hy⟩ := (EH.mem_pairs (D := 1) Nat.one_pos).mp (List.mem_of_getElem? ex)
      dsimp only at hx hy
      have hfx' : SqT K H' b' [.int (x : Int), .int (y : Int)] := same_sqT hv.2 hfx
      have cC := hC.same (s1.trans hv.2)
      have sU := (s1.trans hv.2).seq hU
      have u1 := row_at (g := u) hx
      have u2 := row_at (g := u) hy
      obtain ⟨rs, m1, mg1⟩ := cC.all
      obtain ⟨r, m2, m3⟩ := mg1 x hx
      have m4 := row_at (g := c x) hy
      obtain ⟨acc, r1, r2, r3⟩ := hv.next (Same.refl _) (show _ = some (V.bl (decide (u y - u x ≤ c x y))) by rw [List.getElem?_map, List.getElem?_map, ex]; rfl) newD (by
        rw [List.length_map, List.length_map, EH.pairs_range, List.length_map, List.length_range']
        have : n * n ≤ 20 * 20 := Nat.mul_le_mul hn hn
        omega)
      refine ⟨b', _, rfl, hfx', rfl, ?_⟩
      walk_at "rd"
      exact r3
    · intro H' hv
      obtain ⟨s2, h2⟩ := hv.done (by rw [List.length_map, List.length_map, List.length_map, hlen])
      refine ⟨D, _, rfl, SqL.of h2, ?_⟩
      have e : ((Sr80.pairs n).map fun y => decide (u y.2 - u y.1 ≤ c y.1 y.2)).all id = (Sr80.pairs n).all fun y => decide (u y.2 - u y.1 ≤ c y.1 y.2) := by
        rw [List.all_map]
        rfl
      rw [e]
      exact k _ (s1.trans s2)
end
end EW
end

/-! ## EwZip -/
section
set_option Elab.async false
set_option linter.all false
set_option maxRecDepth 100000
set_option maxHeartbeats 4000000
set_option autoImplicit false
/-! list(zip(xs, ys)): over the library's own machine. -/
namespace EWZ
open PySem PySem.Calls PyProof.Rows PyProof.V PySem.Spec PySem.W
theorem zip_no_len : typeLookup (.type "zip") "__len__" = pure none := am_miss_of_fast (by decide +kernel)
theorem zip_no_hint : typeLookup (.type "zip") "__length_hint__" = pure none := am_miss_of_fast (by decide +kernel)
section
variable {prog : Program} {w : World} {A : Around} {E : Value → Shared → Prop} {s : Shared} {R : Result → Shared → Prop}
theorem zip_hint {r : Addr} (hT : s.TypeIs (.ref r) "zip") {Q : Bool → Shared → Prop} (h : Q true s) : wpAny (model prog w) A (Builtin.List.listLengthHint (.ref r)) Q E s := by
  unfold Builtin.List.listLengthHint
  refine wpAny_bind (wpAny_specialOf hT zip_no_len ?_)
  dsimp only
  refine wpAny_ite_split (fun hab => absurd hab (by decide)) (fun _ => ?_)
  refine wpAny_ite_split (fun hab => absurd hab (by decide)) (fun _ => ?_)
  refine wpAny_bind (wpAny_specialOf hT zip_no_hint ?_)
  exact wpAny_pure h
/-- a zip of two lists, i turns gone; S: the list that is being made -/
def ZSt (h : Heap) (z TI TO i1 i2 l1 l2 : Addr) (xs ys : Array Value) (S : Addr) (i : Nat) : Prop :=
  IsPair h TI (.ref i1) (.ref i2) ∧ h.IsListIter i1 l1 i ∧ h.IsListIter i2 l2 i ∧ h.IsList l1 xs ∧ h.IsList l2 ys ∧
    ((IsZip h z TI TO .none ∧ ∃ a b, IsPair h TO a b) ∨ ∃ T f oT, IsZipHeld h z TI TO T f ∧ h.get? T = some oT ∧ T ≠ z ∧ T ≠ i1 ∧ T ≠ i2 ∧ T ≠ S)
theorem ZSt.keep {h h' : Heap} {z TI TO i1 i2 l1 l2 S : Addr} {xs ys : Array Value} {i : Nat} (st : ZSt h z TI TO i1 i2 l1 l2 xs ys S i) (hk : ∀ b o, b ≠ S → h.get? b = some o → h'.get? b = some o)
    (nz : z ≠ S) (nTI : TI ≠ S) (nTO : TO ≠ S) (n1 : i1 ≠ S) (n2 : i2 ≠ S) (m1 : l1 ≠ S) (m2 : l2 ≠ S) : ZSt h' z TI TO i1 i2 l1 l2 xs ys S i := by
  obtain ⟨hTI, h1, h2, hl1, hl2, hz⟩ := st
  refine ⟨hk _ _ nTI hTI, h1.at fun o e => hk _ o n1 e, h2.at fun o e => hk _ o n2 e, hl1.at fun o e => hk _ o m1 e, hl2.at fun o e => hk _ o m2 e, ?_⟩
  rcases hz with ⟨hz, a, b, hTO⟩ | ⟨T, f, oT, hz, hT, r1, r2, r3, r4⟩
  · exact .inl ⟨hk _ _ nz hz, a, b, hk _ _ nTO hTO⟩
  · exact .inr ⟨T, f, oT, hk _ _ nz hz, hk _ _ r4 hT, r1, r2, r3, r4⟩
theorem zst_item {z TI TO i1 i2 l1 l2 S : Addr} {xs ys : Array Value} {i : Nat} {x y : Value} {Q : Option Value → Shared → Prop} (D : ZipApart z TI TO i1 i2 l1 l2) (st : ZSt s.heap z TI TO i1 i2 l1 l2 xs ys S i) (hS : S < s.heap.objs.size)
    (hx : xs[i]? = some x) (hy : ys[i]? = some y)
    (hQ : ∀ h', ZSt h' z TI TO i1 i2 l1 l2 xs ys S (i + 1) → h'.get? s.heap.objs.size = some { cls := .type "tuple", data := .seq #[x, y] } → h'.objs.size = s.heap.objs.size + 1 →
      (∀ c o, c ≠ z → c ≠ TO → c ≠ i1 → c ≠ i2 → s.heap.get? c = some o → h'.get? c = some o) → Q (some (.ref s.heap.objs.size)) { s with heap := h' }) : wpAny (model prog w) A (pyNext (.ref z)) Q E s := by
  obtain ⟨hTI, h1, h2, hl1, hl2, hz⟩ := st
  have lt : ∀ {c o}, s.heap.get? c = some o → s.heap.objs.size ≠ c := fun e => Nat.ne_of_gt (Heap.lt_size e)
  have n1 : s.heap.objs.size ≠ i1 := let ⟨_, e, _⟩ := h1; lt e
  have n2 : s.heap.objs.size ≠ i2 := let ⟨_, e, _⟩ := h2; lt e
  rcases hz with ⟨hz, a, b, hTO⟩ | ⟨T, f, oT, hz, hT, r1, r2, r3, r4⟩
  · refine wpAny_pyNext_zip_item D hz hTI hTO h1 h2 hl1 hl2 hx hy fun h' a1 a2 a3 a4 a5 a6 hk => ?_
    exact hQ h' ⟨hk _ _ D.TIz D.TITO D.TIi1 D.TIi2 hTI, a3, a4, hl1.at fun o e => hk _ o D.l1z D.l1TO D.l1i1 D.l1i2 e, hl2.at fun o e => hk _ o D.l2z D.l2TO D.l2i1 D.l2i2 e,
      .inr ⟨s.heap.objs.size, false, _, a1, a5, lt hz, n1, n2, Nat.ne_of_gt hS⟩⟩ a5 a6 hk
  · refine wpAny_pyNext_zip_item_held D hz hT hTI h1 h2 hl1 hl2 hx hy fun h' a1 a3 a4 a5 a6 hk => ?_
    exact hQ h' ⟨hk _ _ D.TIz D.TIi1 D.TIi2 hTI, a3, a4, hl1.at fun o e => hk _ o D.l1z D.l1i1 D.l1i2 e, hl2.at fun o e => hk _ o D.l2z D.l2i1 D.l2i2 e,
      .inr ⟨T, true, oT, a1, hk _ _ r1 r2 r3 hT, r1, r2, r3, r4⟩⟩ a5 a6 fun c o c1 _ c3 c4 e => hk c o c1 c3 c4 e
theorem zst_done {z TI TO i1 i2 l1 l2 S : Addr} {xs ys : Array Value} {i : Nat} {Q : Option Value → Shared → Prop} (hh : A.handled = none) (D : ZipApart z TI TO i1 i2 l1 l2) (st : ZSt s.heap z TI TO i1 i2 l1 l2 xs ys S i)
    (hend : xs[i]? = none ∨ ys[i]? = none) (hQ : ∀ h', (∀ c o, c ≠ z → c ≠ TO → c ≠ i1 → c ≠ i2 → s.heap.get? c = some o → h'.get? c = some o) → Q none { s with heap := h' }) : wpAny (model prog w) A (pyNext (.ref z)) Q E s := by
  obtain ⟨hTI, h1, h2, hl1, hl2, hz⟩ := st
  rcases hz with ⟨hz, a, b, hTO⟩ | ⟨T, f, oT, hz, hT, r1, r2, r3, r4⟩
  · exact wpAny_pyNext_zip_end hh D hz hTI hTO h1 h2 hl1 hl2 hend fun h' hk => hQ h' hk
  · exact wpAny_pyNext_zip_end_held hh D hz hT hTI h1 h2 hl1 hl2 hend fun h' hk => hQ h' fun c o c1 _ c3 c4 e => hk c o c1 c3 c4 e
/-- the tuples made so far -/
structure ZG (xs ys : Array Value) (lo : Addr) (h : Heap) (as : List Addr) : Prop where
  rise : as.Pairwise (· < ·)
  above : ∀ a ∈ as, lo < a
  pairs : ∀ (j : Nat) (a : Addr), as[j]? = some a → ∃ x y, xs[j]? = some x ∧ ys[j]? = some y ∧ h.get? a = some { cls := .type "tuple", data := .seq #[x, y] }
theorem ZG.there {xs ys : Array Value} {lo : Addr} {h : Heap} {as : List Addr} (g : ZG xs ys lo h as) {a : Addr} (ha : a ∈ as) : a < h.objs.size := by
  obtain ⟨j, hj⟩ := List.mem_iff_getElem?.mp ha
  obtain ⟨_, _, _, _, e⟩ := g.pairs j a hj
  exact Heap.lt_size e

theorem zip_loop {xs ys : Array Value} {S z TI TO i1 i2 l1 l2 : Addr} (hh : A.handled = none) (D : ZipApart z TI TO i1 i2 l1 l2) {lo : Addr} (hSl : lo ≤ S) (nz : z ≠ S) (nTI : TI ≠ S) (nTO : TO ≠ S) (n1 : i1 ≠ S) (n2 : i2 ≠ S) (m1 : l1 ≠ S) (m2 : l2 ≠ S)
    (lz : lo ≤ z) (lTO : lo ≤ TO) (li1 : lo ≤ i1) (li2 : lo ≤ i2) (zS : z < S) (TOS : TO < S) (i1S : i1 < S) (i2S : i2 < S) (hn : xs.size ≤ sizeLine) (res : Value) {h₁ : Heap}
    (hR : ∀ h' tk acc c as, (∀ b o, b < lo → h₁.get? b = some o → h'.get? b = some o) → h'.get? S = some { cls := .type "list", dict := none, data := .seq acc c, slots := #[] } → as.length = min xs.size ys.size → ZG xs ys S h' as →
      acc.toList = as.map Value.ref → R (.ok (.ret res)) { s with heap := h', toks := tk }) :
    ∀ (k i : Nat) (h : Heap) (tk c : Nat) (acc : Array Value) (as : List Addr), min xs.size ys.size - i = k → i ≤ min xs.size ys.size → ZSt h z TI TO i1 i2 l1 l2 xs ys S i → (∀ b o, b < lo → h₁.get? b = some o → h.get? b = some o) →
      h.get? S = some { cls := .type "list", dict := none, data := .seq acc c, slots := #[] } → acc.toList = as.map Value.ref → as.length = i → ZG xs ys S h as →
      codeAny (model prog w) A (.builtin "list.extend.loop" ⟨[.ref S, .ref z, res], []⟩) R { s with heap := h, toks := tk } := by
  intro k
  induction k with
  | zero =>
    intro i h tk c acc as hk hi hst hkeep hS hacc hal hG
    have hin : i = min xs.size ys.size := by omega
    have hend : xs[i]? = none ∨ ys[i]? = none := by
      rcases Nat.le_total xs.size ys.size with h | h
      · exact .inl (Array.getElem?_eq_none (by rw [hin, Nat.min_eq_left h]; exact Nat.le_refl _))
      · exact .inr (Array.getElem?_eq_none (by rw [hin, Nat.min_eq_right h]; exact Nat.le_refl _))
    refine codeAny_builtin PySem.F.entry_extend_loop ?_
    rw [Around.under_plainId PySem.F.plain_extend_loop _]
    show wpAny _ A.in1 (pyNext (.ref z) >>= _) _ _ _
    refine wpAny_bind (zst_done (s := { s with heap := h, toks := tk }) (A := A.in1) hh D hst hend fun h' hk' => ?_)
    have off : ∀ b o, b ≠ z → b ≠ TO → b ≠ i1 → b ≠ i2 → h.get? b = some o → h'.get? b = some o := hk'
    refine wpAny_pure (hR h' tk acc c as (fun b o hb e => off b o (Nat.ne_of_lt (Nat.lt_of_lt_of_le hb lz)) (Nat.ne_of_lt (Nat.lt_of_lt_of_le hb lTO)) (Nat.ne_of_lt (Nat.lt_of_lt_of_le hb li1)) (Nat.ne_of_lt (Nat.lt_of_lt_of_le hb li2)) (hkeep b o hb e)) (off S _ (Ne.symm nz) (Ne.symm nTO) (Ne.symm n1) (Ne.symm n2) hS) (by omega) ⟨hG.rise, hG.above, fun j a hj => ?_⟩ hacc)
    obtain ⟨x, y, e1, e2, e3⟩ := hG.pairs j a hj
    have ha := hG.above a (List.mem_of_getElem? hj)
    exact ⟨x, y, e1, e2, off a _ (Nat.ne_of_gt (Nat.lt_trans zS ha)) (Nat.ne_of_gt (Nat.lt_trans TOS ha)) (Nat.ne_of_gt (Nat.lt_trans i1S ha)) (Nat.ne_of_gt (Nat.lt_trans i2S ha)) e3⟩
  | succ k ih =>
    intro i h tk c acc as hk hi hst hkeep hS hacc hal hG
    have hlt : i < min xs.size ys.size := by omega
    have hx : xs[i]? = some xs[i] := Array.getElem?_eq_getElem (by omega)
    have hy : ys[i]? = some ys[i] := Array.getElem?_eq_getElem (by omega)
    have hsz : acc.size = i := by rw [← Array.length_toList, hacc, List.length_map, hal]
    have hSl' : S < h.objs.size := Heap.lt_size hS
    refine codeAny_builtin PySem.F.entry_extend_loop ?_
    rw [Around.under_plainId PySem.F.plain_extend_loop _]
    show wpAny _ A.in1 (pyNext (.ref z) >>= _) _ _ _
    refine wpAny_bind (zst_item (s := { s with heap := h, toks := tk }) (A := A.in1) D hst hSl' hx hy fun h' hst' ht hz hkp => ?_)
    dsimp only at ht hz hkp ⊢
    have hS' := hkp S _ (Ne.symm nz) (Ne.symm nTO) (Ne.symm n1) (Ne.symm n2) hS
    have up : ∀ b o, b ≠ S → h'.get? b = some o → (h'.update S (Obj.mapSeq (·.push (Value.ref h.objs.size)))).get? b = some o := fun b o hb e => (Heap.get?_update_other _ _ (Ne.symm hb)).trans e
    show wpAny _ A.in1 (updateSeq S (·.push (Value.ref h.objs.size)) >>= _) _ _ _
    refine wpAny_bind ?_
    refine wpAny_updateSeq hS' rfl (wpAny_pure ⟨plainId_quiet PySem.F.plain_extend_loop _, ih (i + 1) _ tk _ (acc.push (Value.ref h.objs.size)) (as ++ [h.objs.size]) (by omega) hlt (hst'.keep up nz nTI nTO n1 n2 m1 m2)
      (fun b o hb e => up b o (Nat.ne_of_lt (Nat.lt_of_lt_of_le hb hSl)) (hkp b o (Nat.ne_of_lt (Nat.lt_of_lt_of_le hb lz)) (Nat.ne_of_lt (Nat.lt_of_lt_of_le hb lTO)) (Nat.ne_of_lt (Nat.lt_of_lt_of_le hb li1)) (Nat.ne_of_lt (Nat.lt_of_lt_of_le hb li2)) (hkeep b o hb e))) (Heap.get?_update_self _ hS' rfl) (by rw [Array.toList_push, hacc, List.map_append]; rfl) (by rw [List.length_append, hal]; rfl) ⟨?_, ?_, ?_⟩⟩) (by rw [hsz]; omega) (by show (acc.push (Value.ref h.objs.size)).size ≤ sizeLine + 1; rw [Array.size_push, hsz]; omega)
    · refine List.pairwise_append.mpr ⟨hG.rise, List.pairwise_singleton _ _, fun a ha b hb => ?_⟩
      rw [List.mem_singleton.mp hb]
      exact hG.there ha
    · intro a ha
      rcases List.mem_append.mp ha with ha | ha
      · exact hG.above a ha
      · rw [List.mem_singleton.mp ha]
        exact hSl'
    · intro j b hj
      rcases Nat.lt_trichotomy j as.length with q1 | q1 | q1
      · rw [List.getElem?_append_left q1] at hj
        obtain ⟨x', y', e1, e2, e3⟩ := hG.pairs j b hj
        have hb := hG.above b (List.mem_of_getElem? hj)
        exact ⟨x', y', e1, e2, up b _ (Nat.ne_of_gt hb) (hkp b _ (Nat.ne_of_gt (Nat.lt_trans zS hb)) (Nat.ne_of_gt (Nat.lt_trans TOS hb)) (Nat.ne_of_gt (Nat.lt_trans i1S hb)) (Nat.ne_of_gt (Nat.lt_trans i2S hb)) e3)⟩
      · subst q1
        have hb : h.objs.size = b := by simpa using hj
        subst hb
        exact ⟨_, _, by rw [hal]; exact hx, by rw [hal]; exact hy, up _ _ (Nat.ne_of_gt hSl') ht⟩
      · have hnone : (as ++ [h.objs.size])[j]? = none := List.getElem?_eq_none (by rw [List.length_append, List.length_singleton]; omega)
        rw [hnone] at hj
        cases hj

theorem zip_extend {xs ys : Array Value} {S z TI TO i1 i2 l1 l2 : Addr} (hh : A.handled = none) (D : ZipApart z TI TO i1 i2 l1 l2) {lo : Addr} (hSl : lo ≤ S) (nz : z ≠ S) (nTI : TI ≠ S) (nTO : TO ≠ S) (n1 : i1 ≠ S) (n2 : i2 ≠ S) (m1 : l1 ≠ S) (m2 : l2 ≠ S)
    (lz : lo ≤ z) (lTO : lo ≤ TO) (li1 : lo ≤ i1) (li2 : lo ≤ i2) (zS : z < S) (TOS : TO < S) (i1S : i1 < S) (i2S : i2 < S) (hn : xs.size ≤ sizeLine) (res : Value) (c₀ : Nat)
    (hz : IsZip s.heap z TI TO .none) (st : ZSt s.heap z TI TO i1 i2 l1 l2 xs ys S 0) (hS : s.heap.get? S = some { cls := .type "list", data := .seq #[] c₀ })
    (hR : ∀ h' tk acc c as, (∀ b o, b < lo → s.heap.get? b = some o → h'.get? b = some o) → h'.get? S = some { cls := .type "list", dict := none, data := .seq acc c, slots := #[] } → as.length = min xs.size ys.size → ZG xs ys S h' as →
      acc.toList = as.map Value.ref → R (.ok (.ret res)) { s with heap := h', toks := tk }) :
    wpAny (model prog w) A.in1 (Builtin.List.listExtendWith (.ref S) (.ref z) res)
      (fun fin s' => match fin with | .done f => R (.ok f) s' | .again c' => c'.quiet = true ∧ codeAny (model prog w) A c' R s') (fun e s' => R (.error e) s') s := by
  have key : ∀ (h : Heap) (c₁ tk : Nat), (∀ b o, b ≠ S → s.heap.get? b = some o → h.get? b = some o) →
      h.get? S = some { cls := .type "list", data := .seq #[] c₁ } → codeAny (model prog w) A (.builtin "list.extend.loop" ⟨[.ref S, .ref z, res], []⟩) R { s with heap := h, toks := tk } := by
    intro h c₁ tk hk hS₁
    exact zip_loop (xs := xs) (ys := ys) (s := s) (h₁ := s.heap) hh D hSl nz nTI nTO n1 n2 m1 m2 lz lTO li1 li2 zS TOS i1S i2S hn res hR
      (min xs.size ys.size) 0 h tk c₁ #[] [] (Nat.sub_zero _) (Nat.zero_le _) (st.keep hk nz nTI nTO n1 n2 m1 m2) (fun b o hb e => hk b o (Nat.ne_of_lt (Nat.lt_of_lt_of_le hb hSl)) e) hS₁ rfl rfl
      ⟨List.Pairwise.nil, (fun _ ha => nomatch ha), (fun j a hj => by simp at hj)⟩
  unfold Builtin.List.listExtendWith
  refine wpAny_bind (wpAny_typeOf (T := "zip") ⟨_, hz, rfl⟩ ?_)
  have h1 : Builtin.List.listSameRef (.ref S) (.ref z) = false := by simp [Builtin.List.listSameRef, Ne.symm nz]
  have h2 : (Value.type "zip" == Value.type "list") = false := by decide
  have h3 : (Value.type "zip" == Value.type "tuple") = false := by decide
  simp only [h1, h2, h3, Bool.or_false, Bool.false_eq_true, if_false]
  refine wpAny_bind (wpAny_pyIter_zip hz ?_)
  refine wpAny_bind (wpAny_holding (zip_hint ⟨_, hz, rfl⟩ ?_))
  refine wpAny_ite_split (fun _ => ?_) (fun _ => wpAny_pure ⟨plainId_quiet PySem.F.plain_extend_loop _, key _ c₀ _ (fun b o _ e => e) hS⟩)
  refine wpAny_bind (wpAny_rule ?_)
  refine wpAny_bind ?_
  show wpAny _ _ (updateSeq S (·.push .none) >>= fun _ => updateSeq S (·.pop)) _ _ _
  refine wpAny_bind (wpAny_updateSeq hS rfl ?_)
  have hS₂ := Heap.get?_update_self (Obj.mapSeq (·.push Value.none)) hS rfl
  refine wpAny_updateSeq (hz := by seq_fits) hS₂ rfl ?_
  have hS₃ := Heap.get?_update_self (Obj.mapSeq (·.pop)) hS₂ rfl
  refine wpAny_pure ⟨plainId_quiet PySem.F.plain_extend_loop _, key _ _ _ (fun b o hb e => ?_) hS₃⟩
  exact (Heap.get?_update_other _ _ (Ne.symm hb)).trans ((Heap.get?_update_other _ _ (Ne.symm hb)).trans e)
theorem zip_init {xs ys : Array Value} {S z TI TO i1 i2 l1 l2 : Addr} (hh : A.handled = none) (D : ZipApart z TI TO i1 i2 l1 l2) {lo : Addr} (hSl : lo ≤ S) (nz : z ≠ S) (nTI : TI ≠ S) (nTO : TO ≠ S) (n1 : i1 ≠ S) (n2 : i2 ≠ S) (m1 : l1 ≠ S) (m2 : l2 ≠ S)
    (lz : lo ≤ z) (lTO : lo ≤ TO) (li1 : lo ≤ i1) (li2 : lo ≤ i2) (zS : z < S) (TOS : TO < S) (i1S : i1 < S) (i2S : i2 < S) (hn : xs.size ≤ sizeLine)
    (hz : IsZip s.heap z TI TO .none) (st : ZSt s.heap z TI TO i1 i2 l1 l2 xs ys S 0) (hS : s.heap.get? S = some { cls := .type "list", data := .seq #[] })
    (hR : ∀ h' tk acc c as, (∀ b o, b < lo → s.heap.get? b = some o → h'.get? b = some o) → h'.get? S = some { cls := .type "list", dict := none, data := .seq acc c, slots := #[] } → as.length = min xs.size ys.size → ZG xs ys S h' as →
      acc.toList = as.map Value.ref → R (.ok (.ret .none)) { s with heap := h', toks := tk }) :
    wpAny (model prog w) A.in1 (Builtin.«list.__init__» ⟨[.ref S, .ref z], []⟩)
      (fun fin s' => match fin with | .done f => R (.ok f) s' | .again c' => c'.quiet = true ∧ codeAny (model prog w) A c' R s') (fun e s' => R (.error e) s') s := by
  show wpAny _ _ (do let old ← Builtin.List.listItems (.ref S); Builtin.List.listUpdate (.ref S) (fun _ => #[]); letGo old.toList.reverse; Builtin.List.listExtendWith (.ref S) (.ref z) .none) _ _ s
  refine wpAny_bind ?_
  unfold Builtin.List.listItems
  refine wpAny_bind (wpAny_seqItems hS rfl (wpAny_pure ?_))
  show wpAny _ _ (updateSeq S (fun _ => #[]) >>= fun _ => letGo (#[] : Array Value).toList.reverse >>= fun _ => Builtin.List.listExtendWith (.ref S) (.ref z) .none) _ _ s
  refine wpAny_bind (wpAny_updateSeq hS rfl ?_)
  have hS₂ := Heap.get?_update_self (Obj.mapSeq (fun _ => (#[] : Array Value))) hS rfl
  have oth : ∀ b o, b ≠ S → s.heap.get? b = some o → (s.heap.update S (Obj.mapSeq (fun _ => (#[] : Array Value)))).get? b = some o :=
    fun b o hb e => (Heap.get?_update_other _ _ (Ne.symm hb)).trans e
  refine wpAny_bind (wpAny_letGo ?_)
  refine zip_extend (xs := xs) (ys := ys) hh D hSl nz nTI nTO n1 n2 m1 m2 lz lTO li1 li2 zS TOS i1S i2S hn .none _ (oth _ _ nz hz) (st.keep oth nz nTI nTO n1 n2 m1 m2) hS₂ (fun h' tk acc c as hk hS' hl hG hacc => ?_)
  exact hR h' tk acc c as (fun b o hb e => hk b o hb (oth b o (Nat.ne_of_lt (Nat.lt_of_lt_of_le hb hSl)) e)) hS' hl hG hacc
theorem zip_call {xs ys : Array Value} {z TI TO i1 i2 l1 l2 : Addr} {Q : Value → Shared → Prop} (hh : A.handled = none) (D : ZipApart z TI TO i1 i2 l1 l2) {lo : Addr}
    (lz : lo ≤ z) (lTO : lo ≤ TO) (li1 : lo ≤ i1) (li2 : lo ≤ i2) (hn : xs.size ≤ sizeLine)
    (hz : IsZip s.heap z TI TO .none) (hTI : IsPair s.heap TI (.ref i1) (.ref i2)) (hTO : ∃ a b, IsPair s.heap TO a b) (h1 : s.heap.IsListIter i1 l1 0) (h2 : s.heap.IsListIter i2 l2 0) (hl1 : s.heap.IsList l1 xs) (hl2 : s.heap.IsList l2 ys)
    (hQ : ∀ h' tk acc c as, (∀ b o, b < lo → s.heap.get? b = some o → h'.get? b = some o) → h'.get? s.heap.objs.size = some { cls := .type "list", dict := none, data := .seq acc c, slots := #[] } → as.length = min xs.size ys.size →
      ZG xs ys s.heap.objs.size h' as → acc.toList = as.map Value.ref → Q (.ref s.heap.objs.size) { s with heap := h', toks := tk }) :
    wpAny (model prog w) A (call (.type "list") [.ref z]) Q E s := by
  refine callType_codes (Q₁ := fun obj s₁ => obj = .ref s.heap.objs.size ∧ s₁ = { s with heap := s.heap.push { cls := .type "list", data := .seq #[] } }) PySem.F.called_list (PySem.F.typeCall_list_1 _) PySem.F.entry_list_init
    (code_list_new _ ⟨rfl, rfl⟩) fun obj s₁ q₁ => ?_
  obtain ⟨rfl, rfl⟩ := q₁
  have hS : (s.heap.push { cls := .type "list", data := .seq #[] }).get? s.heap.objs.size = some { cls := .type "list", data := .seq #[] } := Heap.get?_push_size _ rfl
  have up : ∀ b o, s.heap.get? b = some o → (s.heap.push { cls := .type "list", data := .seq #[] }).get? b = some o := fun b o e => Heap.get?_push_of_some _ e
  have lt : ∀ {b o}, s.heap.get? b = some o → b < s.heap.objs.size := fun e => Heap.lt_size e
  have zS := lt hz
  have TIS := lt hTI
  have TOS : TO < s.heap.objs.size := let ⟨_, _, e⟩ := hTO; lt e
  have i1S : i1 < s.heap.objs.size := let ⟨_, e, _⟩ := h1; lt e
  have i2S : i2 < s.heap.objs.size := let ⟨_, e, _⟩ := h2; lt e
  have l1S : l1 < s.heap.objs.size := let ⟨_, e, _⟩ := hl1; lt e
  have l2S : l2 < s.heap.objs.size := let ⟨_, e, _⟩ := hl2; lt e
  have hSl : lo ≤ s.heap.objs.size := Nat.le_trans lz (Nat.le_of_lt zS)
  obtain ⟨a, b, hTO⟩ := hTO
  refine ⟨⟨_, hS, rfl⟩, PySem.F.args_list_init_2 _ _, zip_init (xs := xs) (ys := ys) (A := A.in1) hh D hSl (Nat.ne_of_lt zS) (Nat.ne_of_lt TIS) (Nat.ne_of_lt TOS) (Nat.ne_of_lt i1S) (Nat.ne_of_lt i2S) (Nat.ne_of_lt l1S) (Nat.ne_of_lt l2S) lz lTO li1 li2 zS TOS i1S i2S hn
    (up _ _ hz) ⟨up _ _ hTI, h1.at fun o e => up _ o e, h2.at fun o e => up _ o e, hl1.at fun o e => up _ o e, hl2.at fun o e => up _ o e, .inl ⟨up _ _ hz, a, b, up _ _ hTO⟩⟩ hS (fun h' tk acc c as hk hS' hl hG hacc => ?_)⟩
  exact ⟨rfl, hQ h' tk acc c as (fun b o hb e => hk b o hb (up b o e)) hS' hl hG hacc⟩
/-- zip(xs, ys) of two lists, and its list -/
theorem zip_list {xs ys : Array Value} {l1 l2 : Addr} {Q : Value → Shared → Prop} (hh : A.handled = none) (hl1 : s.heap.IsList l1 xs) (hl2 : s.heap.IsList l2 ys) (hn : xs.size ≤ sizeLine)
    (hQ : ∀ h' tk acc c as S, s.heap.objs.size ≤ S → (∀ b o, s.heap.get? b = some o → h'.get? b = some o) → h'.get? S = some { cls := .type "list", dict := none, data := .seq acc c, slots := #[] } → as.length = min xs.size ys.size →
      ZG xs ys S h' as → acc.toList = as.map Value.ref → Q (.ref S) { s with heap := h', toks := tk }) :
    wpAny (model prog w) A (call (.type "zip") [.ref l1, .ref l2]) (fun v s1 => wpAny (model prog w) A (call (.type "list") [v]) Q E s1) E s := by
  refine zip_begins2 (begins_list l1 xs) (begins_list l2 ys) hl1 hl2 fun h' hz hTI hTO g1 g2 hsz hk => ?_
  have n1 : l1 < s.heap.objs.size := let ⟨_, e, _⟩ := hl1; Heap.lt_size e
  have n2 : l2 < s.heap.objs.size := let ⟨_, e, _⟩ := hl2; Heap.lt_size e
  have key : ∀ (N : Nat) (a : Nat), a < N → ∀ j : Nat, a ≠ N + j := fun N a h j => by omega
  have key2 : ∀ (N i j : Nat), i ≠ j → N + i ≠ N + j := fun N i j h => by omega
  have D : ZipApart (s.heap.objs.size + 4) (s.heap.objs.size + 2) (s.heap.objs.size + 3) s.heap.objs.size (s.heap.objs.size + 1) l1 l2 :=
    ⟨key2 _ 2 4 (by decide), key2 _ 3 4 (by decide), key2 _ 0 4 (by decide), key2 _ 1 4 (by decide), key2 _ 2 3 (by decide), key2 _ 2 0 (by decide), key2 _ 2 1 (by decide), key2 _ 3 0 (by decide), key2 _ 3 1 (by decide), key2 _ 0 1 (by decide),
      key _ _ n1 4, key _ _ n1 3, key _ _ n1 0, key _ _ n1 1, key _ _ n2 4, key _ _ n2 3, key _ _ n2 0, key _ _ n2 1⟩
  refine zip_call (s := { s with heap := h' }) (lo := s.heap.objs.size) hh D (Nat.le_add_right _ _) (Nat.le_add_right _ _) (Nat.le_refl _) (Nat.le_add_right _ _) hn hz hTI ⟨_, _, hTO⟩ ⟨_, g1, rfl, rfl⟩ ⟨_, g2, rfl, rfl⟩ (hl1.at fun o e => hk _ o e) (hl2.at fun o e => hk _ o e)
    fun h2 tk acc c as hk2 hS hl hG hacc => ?_
  exact hQ h2 tk acc c as h'.objs.size (by show s.heap.objs.size ≤ h'.objs.size; rw [hsz]; exact Nat.le_add_right _ _) (fun b o e => hk2 b o (Heap.lt_size e) (hk b o e)) hS hl hG hacc
end
end EWZ
end

/-! ## EwZipRule -/
section
set_option Elab.async false
set_option linter.all false
set_option maxRecDepth 100000
set_option maxHeartbeats 4000000
set_option autoImplicit false
/-! list(zip(xs, ys)) as a rule of the hand layer. -/
namespace EWZ
open PySem PySem.Spec PyProof.Rows L2
def putT : Hp → List Addr → List (V × V) → Hp
  | H, a :: as, p :: kvs => putT (upd H a (.tup [p.1, p.2])) as kvs
  | H, _, _ => H
theorem putT_off {b : Addr} : ∀ (as : List Addr) (kvs : List (V × V)) (H : Hp), b ∉ as → putT H as kvs b = H b
  | [], _, _, _ => rfl
  | _ :: _, [], _, _ => rfl
  | a :: as, p :: kvs, H, h => by
    show putT (upd H a (.tup [p.1, p.2])) as kvs b = H b
    rw [putT_off as kvs _ (fun z => h (List.mem_cons_of_mem _ z)), upd_ne (fun z => h (by rw [z]; exact List.mem_cons_self))]
theorem putT_at : ∀ (as : List Addr) (kvs : List (V × V)) (H : Hp), as.length = kvs.length → as.Nodup → ∀ (j : Nat) (a : Addr) (p : V × V), as[j]? = some a → kvs[j]? = some p → putT H as kvs a = some (.tup [p.1, p.2])
  | [], _, _, _, _, j, a, p, h, _ => by simp at h
  | _ :: _, [], _, h, _, _, _, _, _, _ => by cases h
  | a :: as, p :: kvs, H, h, hn, 0, b, q, e1, e2 => by
    have hn' := List.nodup_cons.mp hn
    cases e1
    cases e2
    show putT (upd H a (.tup [p.1, p.2])) as kvs a = _
    rw [putT_off as kvs _ hn'.1, upd_same]
  | a :: as, p :: kvs, H, h, hn, j + 1, b, q, e1, e2 =>
    putT_at as kvs (upd H a (.tup [p.1, p.2])) (Nat.succ.inj h) (List.nodup_cons.mp hn).2 j b q e1 e2
theorem vals_refs : ∀ as : List Addr, Vals (as.map V.ref) (as.map Value.ref)
  | [] => .nil
  | _ :: as => .cons rfl (vals_refs as)
def rLZ (K : PySem.W.Frag) : List V → Hp → VK → Prop := fun vs H Q => ∃ (a b : Addr) (xs ys : List V), vs = [.ref a, .ref b] ∧ SqL K H a xs ∧ SqL K H b ys ∧
  ∀ (H' : Hp) (p : Addr) (ts : List Addr), Same H H' → H p = none → (∀ t ∈ ts, H t = none) → p ∉ ts → H' p = some (.lst (ts.map V.ref)) → ts.length = min xs.length ys.length →
    (∀ (j : Nat) (t : Addr) (x y : V), ts[j]? = some t → xs[j]? = some x → ys[j]? = some y → H' t = some (.tup [x, y])) → Q (.ref p) H'
def tLZ (K : PySem.W.Frag) (ta : TA) : TE := fun σ H Q => ta σ H fun vs H1 => rLZ K vs H1 Q
section
variable {X : Cx}
theorem pe_listZip {e1 e2 : Expr} {ta : TA} {p q zpos pos : Pos} (hc : X.calm = true) (ha : PA X [e1, e2] ta) (hgl : Gl X "list") (hml : X.mg "list" = none) (hgz : Gl X "zip") (hmz : X.mg "zip" = none)
    (hs : starEach [.Call (.Name "zip" q) [e1, e2] [] zpos] X.env = (false, eval (.Call (.Name "zip" q) [e1, e2] [] zpos) X.env) :: starEach [] X.env := by rfl)
    (hs2 : starEach [e1, e2] X.env = (false, eval e1 X.env) :: starEach [e2] X.env := by rfl) (hpl : (backTo zpos (starEach [e2] X.env)).any (·.1) = false := by rfl) :
    PE X (.Call (.Name "list" p) [.Call (.Name "zip" q) [e1, e2] [] zpos] [] pos) (tLZ X.K ta) := by
  refine ⟨fun pins s σ H Q I h => ?_⟩
  refine wpAny_Call_Name_kw (ld_blt I hgl hml (by decide +kernel : bootBuiltins "list" = some (.type "list")) ?_)
  refine PyProof.Rows.callWith_type1 ?_ hs rfl
  rw [hs]
  show wpAny _ _ (spliced ((false, eval (.Call (.Name "zip" q) [e1, e2] [] zpos) X.env) :: backTo pos (starEach [] X.env))) _ _ s
  refine Calls.spliced_cons ?_
  refine Call_ (ld_blt I hgz hmz PyProof.Rows.boot_zip (PyProof.Rows.callWith_type1 (thn (ha.run zpos pins s σ H _ I h) fun us s1 ⟨vs, H1, I1, r1, q1⟩ => ?_) hs2 hpl))
  obtain ⟨a, b, xs, ys, ex, hqx, hqy, q⟩ := q1
  subst ex
  cases r1 with
  | cons r rr =>
    cases rr with
    | cons r' rr =>
      cases rr
      cases r
      cases r'
      obtain ⟨its, rv, p1, z1⟩ := I1.list hqx
      obtain ⟨its2, rv2, p2, _⟩ := I1.list hqy
      have lk := rv.length
      have lk2 := rv2.length
      refine thn (zip_list (I1.ok.hd hc) p1.isList p2.isList (by rw [List.size_toArray, ← lk]; exact z1) (Q := EP X pins σ Q) (E := X.xe) fun h' tk acc c as S hSz hk hS hl hG hacc => ?_) fun v s2 hq => Calls.spliced_nil hq
      have hlen : as.length = (xs.zip ys).length := by
        rw [hl, List.size_toArray, List.size_toArray, ← lk, ← lk2, List.length_zip]
      have hSn : S ∉ as := fun z => Nat.lt_irrefl _ (hG.above _ z)
      have nd : as.Nodup := List.Pairwise.imp (fun {a b} (h : a < b) => Nat.ne_of_lt h) hG.rise
      have hi : ∀ t ∈ as, s1.heap.objs.size ≤ t := fun t ht => Nat.le_trans hSz (Nat.le_of_lt (hG.above t ht))
      have new : ∀ t ∈ as, H1 t = none := fun t ht => I1.hok.fresh (hi t ht)
      have newS : H1 S = none := I1.hok.fresh hSz
      have atP := putT_at as (xs.zip ys) (upd H1 S (.lst (as.map V.ref))) hlen nd
      have off : ∀ b, b ∉ as → b ≠ S → putT (upd H1 S (.lst (as.map V.ref))) as (xs.zip ys) b = H1 b := fun b h1 h2 => by rw [putT_off as _ _ h1, upd_ne h2]
      have low : ∀ b o, s1.heap.get? b = some o → b ∉ as ∧ b ≠ S := fun b o e => ⟨fun z => absurd (Heap.lt_size e) (Nat.not_lt.mpr (hi b z)), fun z => absurd (Heap.lt_size e) (Nat.not_lt.mpr (by rw [z]; exact hSz))⟩
      have kp : ∀ b u, H1 b = some u → (putT (upd H1 S (.lst (as.map V.ref))) as (xs.zip ys)) b = some u := fun b u e => by
        rw [off b (fun z => by rw [new b z] at e; cases e) (fun z => by rw [z, newS] at e; cases e)]
        exact e
      have eS : putT (upd H1 S (.lst (as.map V.ref))) as (xs.zip ys) S = some (.lst (as.map V.ref)) := by rw [putT_off as _ _ hSn, upd_same]
      have pair : ∀ (j : Nat) (t : Addr), as[j]? = some t → ∃ x y, xs[j]? = some x ∧ ys[j]? = some y ∧ (xs.zip ys)[j]? = some (x, y) := fun j t ht => by
        have hj : j < as.length := (List.getElem?_eq_some_iff.mp ht).1
        rw [hlen, List.length_zip] at hj
        refine ⟨xs[j], ys[j], List.getElem?_eq_getElem (by omega), List.getElem?_eq_getElem (by omega), ?_⟩
        rw [List.getElem?_eq_getElem (by rw [List.length_zip]; exact hj), List.getElem_zip]
      refine ⟨.ref S, _, ?_, rfl, q (putT (upd H1 S (.lst (as.map V.ref))) as (xs.zip ys)) S as kp newS new hSn eS (by rw [hlen, List.length_zip]) fun j t x y ht hx hy => ?_⟩
      · refine I1.call' (ch := []) rfl ⟨fun b o q _ _ _ => hk b o q, fun b o q _ _ _ => ⟨o.slots, hk b o q⟩, fun b o q n _ => ?_, fun b o q _ => ⟨o, hk b o q⟩, fun b xs q => kp b _ q, fun b o u q => kp b _ q, fun b ps q => ⟨#[], by rw [kp b _ q]; simp⟩⟩ (fun b u q => ?_) I1.bare (fun b hb => absurd hb (by simp))
        · obtain ⟨z1, z2⟩ := low b o q
          rw [off b z1 z2]
          exact n
        · by_cases hb : b ∈ as
          · obtain ⟨j, e1⟩ := List.getElem?_of_mem hb
            obtain ⟨x, y, f1, f2, f3⟩ := pair j b e1
            rw [atP j b _ e1 f3] at q
            cases q
            obtain ⟨x', y', g1, g2, g3⟩ := hG.pairs j b e1
            obtain ⟨u1, hu1, r1⟩ := rv.get f1
            obtain ⟨u2, hu2, r2⟩ := rv2.get f2
            rw [List.getElem?_toArray, hu1] at g1
            rw [List.getElem?_toArray, hu2] at g2
            cases g1
            cases g2
            exact ⟨by show 2 ≤ sizeLine; decide, [x', y'], .cons r1 (.cons r2 .nil), ⟨_, g3, rfl, _, rfl⟩⟩
          · by_cases hb2 : b = S
            · rw [hb2] at q ⊢
              rw [eS] at q
              cases q
              refine ⟨?_, acc.toList, c, by rw [hacc]; exact vals_refs as, ?_⟩
              · rw [List.length_map, hlen, List.length_zip]
                exact Nat.le_trans (Nat.min_le_left _ _) z1
              · rw [Array.toArray_toList]
                exact hS
            · rw [off b hb hb2] at q
              exact (I1.hok b u q).stay (fun d v _ y => hk d v y) (fun d y => kp d _ y) fun d xs y => kp d _ y
      · obtain ⟨x', y', f1, f2, f3⟩ := pair j t ht
        rw [hx] at f1
        rw [hy] at f2
        cases f1
        cases f2
        exact atP j t _ ht f3
end
end EWZ
end

/-! ## EwKey -/
section
set_option Elab.async false
set_option linter.all false
set_option maxRecDepth 100000
set_option maxHeartbeats 4000000
set_option autoImplicit false
/-! min(.., key=lambda j: lengths[n + j]) as a rule of the hand layer. -/
namespace EWK
open PySem PySem.Spec PyProof.Rows L2
section
variable {X : Cx} {pins : List (Addr × Obj)} {σ : List (Option V)} {H : Hp} {s : Shared}
/-- all objects but the frame's are kept, the frame's map stands -/
theorem inv_same {h' : Heap} {t' : Nat} (I : Inv X pins σ H s) (k : ∀ b o, b ≠ X.env.locals → s.heap.get? b = some o → h'.get? b = some o) (ns : ∀ m, s.heap.Ns X.env.locals m → h'.Ns X.env.locals m) :
    Inv X pins σ H { s with heap := h', toks := t' } := by
  have nn : ∀ b u, H b = some u → b ≠ X.env.locals := fun b u e z => by
    rw [z, I.free] at e
    cases e
  refine I.step (g' := s.gens) (d' := s.drawn) (ch := []) (fun _ z => nomatch z) (fun b o hb _ _ q z => k b o hb q) (fun b o hb _ _ q z => ⟨o.slots, k b o hb q⟩) (fun b o _ _ z => z) (fun b o _ q => ?_) (fun b xs q => q) (fun b o u q => q)
    (fun b ps q => ⟨#[], by rw [q]; simp⟩) ns (fun b u q => ?_) I.bare
  · by_cases h1 : b = X.env.locals
    · obtain ⟨m, hn, _⟩ := I.loc
      obtain ⟨o', _, _, e', _⟩ := ns m hn
      exact ⟨o', by rw [h1]; exact e'⟩
    · exact ⟨o, k b o h1 q⟩
  · refine (I.hok b u q).stay (fun c v hc z => k c v ?_ z) (fun c z => z) fun c xs z => z
    rcases hc with y | y
    · rw [y]
      exact nn b u q
    · exact nn c _ y
def tMinKey (X : Cx) (T : List (Addr × Str)) (il in_ : Nat) (tl : TE) : TE := fun σ H Q => tl σ H fun v H1 => ∃ (p l : Addr) (ns : List Int) (n : Int) (ls : List V) (g : Int → Int), v = .ref p ∧ SqL X.K H1 p (ns.map V.int) ∧ 0 < ns.length ∧ LamX.Tabs T H1 ∧
  σ[il]? = some (some (.ref l)) ∧ SqL X.K H1 l ls ∧ σ[in_]? = some (some (.int n)) ∧ (∀ x ∈ ns, 0 ≤ n + x ∧ ls[(n + x).toNat]? = some (.int (g x))) ∧
  ∀ (H2 : Hp) (M : Int), LamX.ExtN H1 H2 → LamX.Tabs T H2 → M ∈ ns → (∀ a ∈ ns, g M ≤ g a) → Q (.int M) H2
end
section
variable {X : Cx}
theorem pe_minKey {T : List (Addr × Str)} {c P : Addr} {il in_ : Nat} {e : Expr} {tl : TE} {params : Arguments} {scope : Scope} {p kpos lpos pos p1 p2 p3 p4 p5 : Pos}
    (hc : X.calm = true) (hl : PE X e tl) (hg : Gl X "min") (hm : X.mg "min" = none)
    (TB : LamX.TabB X.base X.mg c P) (hcode : X.env.code = .ref c) (hmT : (P, X.env.qual ++ "<lambda>") ∈ T) (hu : ∀ p ∈ T, p.1 = P → p.2 = X.env.qual ++ "<lambda>")
    (hdef : defaultsOf params X.env = ([], [])) (hNl : X.N[il]? = some ("lengths" : Str)) (hNn : X.N[in_]? = some ("n" : Str)) (hcl : X.env.scope.names.lookup ("lengths" : Str) = some .cell) (hcn : X.env.scope.names.lookup ("n" : Str) = some .cell)
    (hnames : scope.names = [(("j" : Str), NameKind.local), (("lengths" : Str), NameKind.free), (("n" : Str), NameKind.free)]) (hk : scope.kind = .function) (hco : scope.isCoroutine = false) (hgen : scope.isGenerator = false)
    (hbind : ∀ (q : Str) (cl : List (Str × Addr)) (pm cv ctv v : Value), bindArgs (PySem.W.kla_fn "<lambda>" q params (.Subscript (.Name "lengths" p1) (.BinOp (.Name "n" p2) .Add (.Name "j" p3) p4) p5) scope cl pm cv ctv) ⟨[v], []⟩ = pure [(("j" : Str), v)])
    (hr : Room 2 X.A)
    (he : starEach [e] X.env = (false, eval e X.env) :: starEach [] X.env := by rfl)
    (hpl : (backTo pos (starEach [e] X.env)).any (·.1) = false := by rfl) :
    PE X (.Call (.Name "min" p) [e] [⟨some "key", .Lambda params (.Subscript (.Name "lengths" p1) (.BinOp (.Name "n" p2) .Add (.Name "j" p3) p4) p5) scope lpos, kpos⟩] pos) (tMinKey X T il in_ tl) := by
  refine ⟨fun pins s σ H Q I h => ?_⟩
  refine wpAny_Call_Name_kw (ld_blt I hg hm (by decide +kernel : bootBuiltins "min" = some (.builtin "min")) ?_)
  refine PyProof.Rows.callWith_kw ?_ (by rw [he]; rfl) hpl
  rw [he]
  show wpAny _ _ (spliced ((false, eval e X.env) :: backTo pos (starEach [] X.env))) _ _ s
  refine Calls.spliced_cons (thn (hl.run pins s σ H _ I h) fun u s1 ⟨v, H1, I1, r1, q1⟩ => ?_)
  refine Calls.spliced_nil ?_
  obtain ⟨a, l, ns, n, ls, g, rfl, ha, hne, hT, hsl, hql, hsn, hix, q⟩ := q1
  obtain rfl : u = Value.ref a := r1
  have hfree : ∀ y ∈ scope.names, y.2 = .free → ∃ c, X.env.cells.lookup y.1 = some c := fun y hy e => by
    rw [hnames] at hy
    rcases List.mem_cons.mp hy with z | hy
    · rw [z] at e
      cases e
    rcases List.mem_cons.mp hy with z | hy
    · rw [z]
      exact I1.ok.has _ (.inl hcl)
    rcases List.mem_cons.mp hy with z | hy
    · rw [z]
      exact I1.ok.has _ (.inl hcn)
    cases hy
  refine PyProof.Rows.kwAll_cons (LamX.lam_make2 I1 TB hcode hmT hu hT hdef hfree fun f c' pm ctv H2 s2 I2 eN T2 hf hfn hfr hco' => ?_)
  refine PyProof.Rows.kwAll_nil ?_
  have ha2 : SqL X.K H2 a (ns.map V.int) := by
    rcases ha with (z | ⟨o, z⟩) | z
    · exact .inl (.inl (eN _ _ z (fun ps y => by cases y)))
    · exact .inl (.inr ⟨o, eN _ _ z (fun ps y => by cases y)⟩)
    · exact .inr z
  have hl2 : SqL X.K H2 l ls := by
    rcases hql with (z | ⟨o, z⟩) | z
    · exact .inl (.inl (eN _ _ z (fun ps y => by cases y)))
    · exact .inl (.inr ⟨o, eN _ _ z (fun ps y => by cases y)⟩)
    · exact .inr z
  obtain ⟨m, F⟩ := I2.fr
  have bk := I2.bk
  have kp : ∀ h, Fr X.base X.env.locals h m → News X.base X.env.locals h (allNews X.base s2.heap X.env.locals) → ∀ b o, b ≠ X.env.locals → s2.heap.get? b = some o → h.get? b = some o := fun h F' N' b o hb e => by
    cases q : X.base.get? b with
    | some u =>
      have := bk b u q
      rw [e] at this
      cases this
      exact F'.keep b _ q
    | none => exact (N' (b, o) (mem_allNews hb q e)).1
  have inv : ∀ h tk, Fr X.base X.env.locals h m → News X.base X.env.locals h (allNews X.base s2.heap X.env.locals) → Inv X pins σ H2 { s2 with heap := h, toks := tk } := fun h tk F' N' =>
    inv_same I2 (kp h F' N') fun m' hm' => by
      rw [SlX.ns_only hm' F.ns]
      exact F'.ns
  obtain ⟨its, r, pl, hz⟩ := I2.list ha2
  have hL : ∀ h, Fr X.base X.env.locals h m → News X.base X.env.locals h (allNews X.base s2.heap X.env.locals) → h.IsList a its.toArray := fun h F' N' => by
    obtain ⟨o, nn, e, e1, e2, e3⟩ := pl
    have hne : a ≠ X.env.locals := fun z => by
      obtain ⟨m', ⟨o', es, ep, ho', hd', _⟩, _⟩ := I2.loc
      rw [z, ho'] at e
      cases e
      rw [hd'] at e3
      cases e3
    exact PlainL.isList ⟨o, nn, kp h F' N' a o hne e, e1, e2, e3⟩
  refine kmk_min_letter (ns := ns) (h₀ := X.base) (L := X.env.locals) (m := m) (news := allNews X.base s2.heap X.env.locals) (vs := its) g (I2.ok.hd hc) F news_all hL r.ints hne (fun x t h tk own hx F' N' => ?_) fun M t h tk F' N' hM hmin => ?_
  · have N3 : News X.base X.env.locals h (allNews X.base s2.heap X.env.locals) := fun p hp => N' p (List.mem_append_left _ hp)
    have I3 := inv h tk F' N3
    have k3 := kp h F' N3
    have hnL : f ≠ X.env.locals := fun z => by
      obtain ⟨m', ⟨o', es, ep, ho', hd', _⟩, _⟩ := I2.loc
      rw [z, ho'] at hf
      cases hf
      cases hd'
    have hf3 := k3 f _ hnL hf
    obtain ⟨⟨oc, vs, tq, e1, e2, e3⟩, _, _⟩ := I3.hok c' _ hco'
    refine wpAny_call ?_
    refine PySem.W.kla_callFunE (A := X.A.in1) hr.depth hf3 rfl hco hgen rfl ⟨c', oc, vs, tq, rfl, e1, e2, e3⟩ ?_
    rw [hbind]
    refine wpAny_pure (wpAny_newFunctionEnv (fun y hy => ?_) (fun y hy => ?_) (fun h₁ hns hsb => ⟨I3.nolimit.fresh _ hsb, ?_⟩) hk)
    · have hy : y ∈ scope.names := hy
      rw [hnames] at hy
      rcases List.mem_cons.mp hy with z | hy
      · rw [z]
        decide
      rcases List.mem_cons.mp hy with z | hy
      · rw [z]
        decide
      rcases List.mem_cons.mp hy with z | hy
      · rw [z]
        decide
      cases hy
    · rw [List.mem_singleton.mp hy]
      show scope.names.lookup _ = _
      rw [hnames]
      rfl
    show codeAny _ _ (.expr _ (LamX.lamEnv X scope h.objs.size f c')) _ _
    have kp1 : ∀ b o, h.get? b = some o → h₁.get? b = some o := fun b o e => hsb.extBut b o (Nat.ne_of_lt (Heap.lt_size e)) (Heap.get?_push_of_some _ e)
    have I4 : Inv X pins σ H2 { s2 with heap := h₁, toks := tk + [(("j" : Str), Value.int x t)].length } := I3.kept kp1
    refine PySem.W.kla_codeExpr ?_
    obtain ⟨m4, hn4, hl4⟩ := I4.loc
    obtain ⟨u1, ru1, lk1⟩ := hl4 il _ _ hNl hsl (.inr (.inl hcl))
    obtain ⟨u2, ru2, lk2⟩ := hl4 in_ _ _ hNn hsn (.inr (.inl hcn))
    have nl : X.env.kindOf ("lengths" : Str) = some .cell := hcl
    have nn : X.env.kindOf ("n" : Str) = some .cell := hcn
    obtain ⟨ca, hca, va⟩ : ∃ c, X.env.cells.lookup ("lengths" : Str) = some c ∧ h₁.IsCell c (some u1) := by
      rcases lk1 with ⟨k', _⟩ | ⟨_, z⟩
      · rw [nl] at k'
        cases k'
      · exact z
    obtain ⟨cb, hcb, vb⟩ : ∃ c, X.env.cells.lookup ("n" : Str) = some c ∧ h₁.IsCell c (some u2) := by
      rcases lk2 with ⟨k', _⟩ | ⟨_, z⟩
      · rw [nn] at k'
        cases k'
      · exact z
    obtain rfl : u1 = Value.ref l := ru1
    obtain ⟨tn, rfl⟩ := ru2
    have eclo : cloFrom X.env.cells scope.names [] = [(("n" : Str), cb), (("lengths" : Str), ca)] := by
      rw [hnames]
      simp [cloFrom, hca, hcb]
    obtain ⟨h0, hget⟩ := hix x hx
    have kj : (LamX.lamEnv X scope h.objs.size f c').kindOf ("j" : Str) = some .local := by
      show scope.names.lookup _ = _
      rw [hnames]
      rfl
    have kl : (LamX.lamEnv X scope h.objs.size f c').kindOf ("lengths" : Str) = some .free := by
      show scope.names.lookup _ = _
      rw [hnames]
      rfl
    have kn : (LamX.lamEnv X scope h.objs.size f c').kindOf ("n" : Str) = some .free := by
      show scope.names.lookup _ = _
      rw [hnames]
      rfl
    have el : (LamX.lamEnv X scope h.objs.size f c').cells.lookup ("lengths" : Str) = some ca := by
      show (cloFrom X.env.cells scope.names []).lookup _ = _
      rw [eclo]
      rfl
    have en : (LamX.lamEnv X scope h.objs.size f c').cells.lookup ("n" : Str) = some cb := by
      show (cloFrom X.env.cells scope.names []).lookup _ = _
      rw [eclo]
      rfl
    refine PyProof.Rows.Subscript_ (wpAny_Name (wpAny_loadName_free hk kl el va (wpAny_BinOp (wpAny_Name (wpAny_loadName_free hk kn en vb (wpAny_Name (wpAny_loadName_local hk kj hns (v := .int x t) rfl
      (PyProof.Rows.add_int ?_))))))))
    have I5 := I4.tok (tk + 1 + 1)
    obtain ⟨its5, r5, pl5, hz5⟩ := I5.list hl2
    obtain ⟨y5, ey5, ry5⟩ := r5.get hget
    obtain ⟨t5, rfl⟩ := ry5
    have hlen5 := r5.length
    have hlt5 : (n + x).toNat < ls.length := (List.getElem?_eq_some_iff.mp hget).1
    have h63 := line63
    refine item_listR pl5.isList h0 (by omega) (by simpa using ey5) ?_ ?_
    · refine KskEnd.intro (news' := allNews X.base s2.heap X.env.locals ++ own) ⟨?_, fun b o e => kp1 b o (F'.keep b o e), F'.above⟩ (fun p hp => ⟨kp1 _ _ (N' p hp).1, (N' p hp).2⟩) fun p hp => hp
      obtain ⟨oL, b1, b2, b3, b4⟩ := F'.ns
      exact ⟨oL, b1, b2, kp1 _ _ b3, b4⟩
    · rfl
  · exact ⟨.int M, H2, inv h tk F' N', ⟨t, rfl⟩, q H2 M eN T2 hM hmin⟩
end
end EWK
end

/-! ## EwCheap -/
section
set_option Elab.async false
set_option linter.all false
set_option maxRecDepth 100000
set_option maxHeartbeats 2000000
set_option autoImplicit false
namespace EW
open PySem PySem.Spec PyProof.Rows L2
open Sr58 (Frac)
local macro_rules | `(tactic| walk_at "rd") => `(tactic| repeat (first | refine ⟨rfl, ?_⟩ | apply Exists.intro | refine ⟨by assumption, ?_⟩))
abbrev s_empty_plan : Stmt := top 38
theorem sc_empty_plan : FnScope ["n", "j", "i"] ["n"] (defScope s_empty_plan) := ⟨rfl, rfl, rfl, by decide +kernel, rfl, by decide +kernel, by decide +kernel⟩
abbrev s_arcs_of : Stmt := top 39
theorem sc_arcs_of : FnScope ["costs", "plan", "n", "arcs", "i", "j"] ["costs", "plan"] (defScope s_arcs_of) := ⟨rfl, rfl, rfl, by decide +kernel, rfl, by decide +kernel, by decide +kernel⟩
abbrev s_lowered : Stmt := top 41
theorem sc_lowered : FnScope ["path", "n", "steps", "start", "end"] ["path", "n"] (defScope s_lowered) := ⟨rfl, rfl, rfl, by decide +kernel, rfl, by decide +kernel, by decide +kernel⟩
abbrev s_raised : Stmt := top 42
theorem sc_raised : FnScope ["path", "n", "steps", "start", "end"] ["path", "n"] (defScope s_raised) := ⟨rfl, rfl, rfl, by decide +kernel, rfl, by decide +kernel, by decide +kernel⟩
abbrev s_change : Stmt := top 43
theorem sc_change : FnScope ["plan", "path", "amount", "n", "i", "j"] ["plan", "path", "amount"] (defScope s_change) := ⟨rfl, rfl, rfl, by decide +kernel, rfl, by decide +kernel, by decide +kernel⟩
def spArcsOf (K : PySem.W.Frag) : Sp := fun vs H Q _ => ∃ (a b : Addr) (n : Nat) (c p : Nat → Nat → Int), vs = [.ref a, .ref b] ∧ Mx K H a n c ∧ Mx K H b n p ∧ n ≤ 20 ∧ HandsN (ArcsAt K) H Q (gridOf (resArcs n c p) n n 0)
def spPart (K : PySem.W.Frag) (f : Nat → List (Nat × Nat) → List (Nat × Nat)) : Sp := fun vs H Q _ => ∃ (a : Addr) (n : Nat) (c : List Nat), vs = [.ref a, .int (n : Int)] ∧ SqL K H a ((c.map Int.ofNat).map V.int) ∧ EH.Bip n (EH.steps c) ∧ c.length ≤ 100 ∧
  HandsN (ListOf (PairAt K)) H Q (f n (EH.steps c))
/-- all but what lies at rs stays -/
def Off (rs : List Addr) (H H' : Hp) : Prop := ∀ b u, H b = some u → b ∉ rs → H' b = some u
theorem Off.refl {rs : List Addr} {H : Hp} : Off rs H H := fun _ _ e _ => e
theorem Off.trans {rs : List Addr} {H H1 H2 : Hp} (a : Off rs H H1) (b : Off rs H1 H2) : Off rs H H2 := fun c u e n => b c u (a c u e n) n
theorem Off.of {rs : List Addr} {H H' : Hp} (s : Same H H') : Off rs H H' := fun _ _ e _ => s _ _ e
theorem Off.mono {rs qs : List Addr} {H H' : Hp} (a : Off rs H H') (h : ∀ r ∈ rs, r ∈ qs) : Off qs H H' := fun c u e n => a c u e fun z => n (h c z)
theorem Off.upd {rs : List Addr} {H : Hp} {r : Addr} {o : HO} (h : r ∈ rs) : Off rs H (upd H r o) := fun b u e n => by
  rw [upd_ne (fun z => n (by rw [z]; exact h))]
  exact e
theorem nd_inj {α : Type} {l : List α} (h : l.Nodup) {i j : Nat} {x : α} {hi : i < l.length} {hj : j < l.length} (e1 : l[i] = x) (e2 : l[j] = x) : i = j := by
  rcases Nat.lt_trichotomy i j with c | c | c
  · exact absurd (e1.trans e2.symm) (List.pairwise_iff_getElem.mp h i j hi hj c)
  · exact c
  · exact absurd (e2.trans e1.symm) (List.pairwise_iff_getElem.mp h j i hj hi c)
theorem MxR.set {H : Hp} {a : Addr} {rs : List Addr} {n : Nat} {f : Nat → Nat → Int} (h : MxR H a rs n f) {i j : Nat} {r : Addr} {v : Int} (hr : rs[i]? = some r) :
    MxR (upd H r (.lst (rowI n fun k => if k = j then v else f i k))) a rs n fun x y => if x = i ∧ y = j then v else f x y := by
  have hm : r ∈ rs := List.mem_of_getElem? hr
  refine ⟨?_, h.len, h.nd, h.na, fun x q e => ?_⟩
  · rw [upd_ne (fun z => h.na (by rw [z]; exact hm))]
    exact h.top
  · by_cases c : x = i
    · rw [c, hr] at e
      cases e
      rw [upd_same, c]
      congr 3
      refine funext fun k => ?_
      by_cases d : k = j
      · rw [if_pos d, if_pos ⟨rfl, d⟩]
      · rw [if_neg d, if_neg fun z => d z.2]
    · have hne : q ≠ r := fun z => c (by
        rw [z] at e
        obtain ⟨h1, e1⟩ := List.getElem?_eq_some_iff.mp e
        obtain ⟨h2, e2⟩ := List.getElem?_eq_some_iff.mp hr
        exact nd_inj h.nd e1 e2)
      rw [upd_ne hne, h.row x q e]
      congr 3
      refine funext fun k => ?_
      rw [if_neg fun z => c z.1]
theorem adds_next {v : Int} {l : List (Nat × Nat)} {i : Nat} {y : Nat × Nat} {p : Nat → Nat → Int} (h : l[i]? = some y) : adds v (l.take (i + 1)) p = addAt v (adds v (l.take i) p) y := by
  rw [take_more h]
  unfold adds
  rw [List.foldl_append]
  rfl
theorem MxR.add {H : Hp} {a : Addr} {rs : List Addr} {n : Nat} {f : Nat → Nat → Int} (h : MxR H a rs n f) {i j : Nat} {r : Addr} {v w : Int} (hr : rs[i]? = some r) (hw : w = f i j + v) :
    MxR (upd H r (.lst (rowI n fun k => if k = j then w else f i k))) a rs n (addAt v f (i, j)) := by
  have := h.set (j := j) (v := w) hr
  refine ⟨this.top, this.len, this.nd, this.na, fun x q e => ?_⟩
  rw [this.row x q e]
  congr 3
  refine funext fun k => ?_
  unfold addAt
  show (if x = i ∧ k = j then w else f x k) = if x = i ∧ k = j then f x k + v else f x k
  by_cases c : x = i ∧ k = j
  · rw [if_pos c, if_pos c, hw, c.1, c.2]
  · rw [if_neg c, if_neg c]
theorem MxR.congr {H : Hp} {a : Addr} {rs : List Addr} {n : Nat} {f g : Nat → Nat → Int} (h : MxR H a rs n f) (e : ∀ i j, i < n → j < n → f i j = g i j) : MxR H a rs n g := by
  refine ⟨h.top, h.len, h.nd, h.na, fun x q hq => ?_⟩
  have hx : x < n := by
    rw [← h.len]
    exact (List.getElem?_eq_some_iff.mp hq).1
  rw [h.row x q hq]
  unfold rowI
  congr 3
  refine List.map_congr_left fun k hk => e x k hx (List.mem_range.mp hk)
theorem MxR.off {H H' : Hp} {a : Addr} {rs qs : List Addr} {n : Nat} {f : Nat → Nat → Int} (s : Off qs H H') (h : MxR H a rs n f) (ha : a ∉ qs) (hr : ∀ r ∈ rs, r ∉ qs) : MxR H' a rs n f :=
  ⟨s _ _ h.top ha, h.len, h.nd, h.na, fun i r e => s _ _ (h.row i r e) (hr r (List.mem_of_getElem? e))⟩
theorem adds_cnt (v : Int) : ∀ (l : List (Nat × Nat)) (p : Nat → Nat → Int) (i j : Nat), adds v l p i j = p i j + v * (l.countP fun y => decide (i = y.1 ∧ j = y.2) : Nat)
  | [], p, i, j => by
    show p i j = p i j + v * ((0 : Nat) : Int)
    simp
  | y :: l, p, i, j => by
    show adds v l (addAt v p y) i j = _
    rw [adds_cnt v l]
    unfold addAt
    by_cases c : i = y.1 ∧ j = y.2
    · rw [if_pos c, List.countP_cons_of_pos (by simpa using c)]
      rw [Int.natCast_add, Int.mul_add]
      simp
      omega
    · rw [if_neg c, List.countP_cons_of_neg (by simpa using c)]
theorem rais_fw {n i j : Nat} (hj : j < n) : ∀ {E : List (Nat × Nat)}, EH.Bip n E → (((raisL n E).countP fun y => decide (i = y.1 ∧ j = y.2) : Nat) : Int) = EH.fw n E i j
  | [], _ => rfl
  | a :: E, h => by
    have ih := rais_fw hj (i := i) (E := E) fun b hb => h b (List.mem_cons_of_mem _ hb)
    have ha := h a List.mem_cons_self
    unfold EH.fw
    rw [← ih]
    show (((raisL n (a :: E)).countP _ : Nat) : Int) = _
    by_cases c : a.1 < n
    · have e : raisL n (a :: E) = (a.1, a.2 - n) :: raisL n E := by
        unfold raisL
        rw [List.filterMap_cons]
        simp [c]
      rw [e]
      by_cases d : a.1 = i ∧ a.2 = n + j
      · rw [if_pos d, List.countP_cons_of_pos (by simp; omega)]
        omega
      · rw [if_neg d, List.countP_cons_of_neg (by simp; omega)]
        omega
    · have e : raisL n (a :: E) = raisL n E := by
        unfold raisL
        rw [List.filterMap_cons]
        simp [c]
      rw [e, if_neg (by omega)]
      omega
theorem lowr_bw {n i j : Nat} (hi : i < n) : ∀ {E : List (Nat × Nat)}, EH.Bip n E → (((lowrL n E).countP fun y => decide (i = y.1 ∧ j = y.2) : Nat) : Int) = EH.bw n E i j
  | [], _ => rfl
  | a :: E, h => by
    have ih := lowr_bw hi (j := j) (E := E) fun b hb => h b (List.mem_cons_of_mem _ hb)
    have ha := h a List.mem_cons_self
    unfold EH.bw
    rw [← ih]
    show (((lowrL n (a :: E)).countP _ : Nat) : Int) = _
    by_cases c : n ≤ a.1
    · have e : lowrL n (a :: E) = (a.2, a.1 - n) :: lowrL n E := by
        unfold lowrL
        rw [List.filterMap_cons]
        simp [c]
      rw [e]
      by_cases d : a.1 = n + j ∧ a.2 = i
      · rw [if_pos d, List.countP_cons_of_pos (by simp; omega)]
        omega
      · rw [if_neg d, List.countP_cons_of_neg (by simp; omega)]
        omega
    · have e : lowrL n (a :: E) = lowrL n E := by
        unfold lowrL
        rw [List.filterMap_cons]
        simp [c]
      rw [e, if_neg (by omega)]
      omega
theorem sqT_off {K : PySem.W.Frag} {rs : List Addr} {H H' : Hp} {t : Addr} {xs : List V} (o : Off rs H H') (hl : ∀ r ∈ rs, ∃ xs, H r = some (.lst xs)) (h : SqT K H t xs) : SqT K H' t xs := by
  rcases h with (z | ⟨u, z⟩) | z
  · exact .inl (.inl (o _ _ z fun q => by obtain ⟨ys, e⟩ := hl _ q; rw [e] at z; cases z))
  · exact .inl (.inr ⟨u, o _ _ z fun q => by obtain ⟨ys, e⟩ := hl _ q; rw [e] at z; cases z⟩)
  · exact .inr z
theorem sqL_off {K : PySem.W.Frag} {rs : List Addr} {H H' : Hp} {t : Addr} {xs : List V} (o : Off rs H H') (hl : t ∉ rs) (h : SqL K H t xs) : SqL K H' t xs := by
  rcases h with (z | ⟨u, z⟩) | z
  · exact .inl (.inl (o _ _ z hl))
  · exact .inl (.inr ⟨u, o _ _ z hl⟩)
  · exact .inr z
theorem raisL_lt {n : Nat} {E : List (Nat × Nat)} (hB : EH.Bip n E) {y : Nat × Nat} (h : y ∈ raisL n E) : y.1 < n ∧ y.2 < n := by
  obtain ⟨a, ha, e⟩ := List.mem_filterMap.mp h
  have := hB a ha
  split at e
  · cases e
    dsimp only
    omega
  · cases e
def spChange : Sp := fun vs H Q _ => ∃ (a b : Addr) (v : Int) (n : Nat) (rs : List Addr) (p : Nat → Nat → Int) (c : List Nat), vs = [.ref a, .ref b, .int v] ∧ MxR H a rs n p ∧ n ≤ 20 ∧ IntsL H b (c.map Int.ofNat) ∧ b ∉ rs ∧ EH.Bip n (EH.steps c) ∧ c.length ≤ 100 ∧
  ∀ H', Off rs H H' → MxR H' a rs n (EH.along n v (EH.steps c) p) → Q .non H'
section
variable {P : Program} {w : World} {K : PySem.W.Frag} {mg : Str → Option Value} {base : Heap} (B : Nb mg) {A0 : Ad} (G : Gs K mg A0)
include B G
theorem df_empty_plan {f : Addr} {fd : FuncData} (hm : mg "empty_plan" = some (.ref f)) (F : Fun K "empty_plan" "empty_plan" s_empty_plan f fd) : Df P w K mg base CX0 1 "empty_plan" spEmpty := by
  refine df_of (F.ok sc_empty_plan (fun vs H Q E h => ?_) (fun cdv A outer s H vs Q E hr h => ⟨_,
(pss_one (ps_ret (pe_lc (own := [("i", 2)]) (g := gName 2) (tt := tYes) rfl sc_empty_plan.nd (pi_range1 rfl B.range_ (pa_cons (pv 0) pa_nil)) (blkOk_by (own := [("i", 2)]) (N := ["n", "j", "i"]) (by kernel_rfl))
 (fun _ _ _ _ _ => (pg_name (i := 2) sc_empty_plan.nd rfl (Or.inl rfl))) (fun _ _ _ _ _ => pts_nil) (fun _ _ _ _ _ => (pe_lc (own := [("j", 1)]) (g := gName 1) (tt := tYes) rfl sc_empty_plan.nd (pi_range1 rfl B.range_ (pa_cons (pv 0) pa_nil)) (blkOk_by (own := [("j", 1)]) (N := ["n", "j", "i"]) (by kernel_rfl))
 (fun _ _ _ _ _ => (pg_name (i := 1) sc_empty_plan.nd rfl (Or.inl rfl))) (fun _ _ _ _ _ => pts_nil) (fun _ _ _ _ _ => pe_int))))))
   , ?_⟩)) hm F.kp (F.binds fun _ _ _ _ _ _ us hl => match us, hl with | [_], _ => rfl)
  · obtain ⟨n, rfl, _⟩ := h
    rfl
  · obtain ⟨n, rfl, hn, k⟩ := h
    refine ⟨_, rfl, _, rfl, by omega, by omega, fun D new => ?_⟩
    refine lc_range0 (n := n) (MadeR (RowF n fun _ _ => 0) H D) (MadeR.start new) (fun i H1 hi hv => ?_) fun H1 hv => k.made (Same.refl _) new hv
    refine ⟨rfl, tY ?_⟩
    refine ⟨_, rfl, _, rfl, by omega, by omega, fun D2 new2 => ?_⟩
    refine lc_range0 (n := n) (Vals_ H1 D2 (rowI n fun _ => 0)) (Vals_.start new2) (fun j H2 hj hv2 => ?_) fun H2 hv2 => ?_
    · refine ⟨rfl, tY ?_⟩
      exact hv2.next (Same.refl _) (row_get hj) new2 (by rw [row_len]; omega)
    · obtain ⟨s2, e2⟩ := hv2.done (row_len _ _)
      exact hv.next (rowF_kept n _) (rowF_framed n _) s2 e2 new2 (by rw [e2]; simp) new (by omega)
theorem df_arcs {f : Addr} {fd : FuncData} (hm : mg "arcs_of" = some (.ref f)) (F : Fun K "arcs_of" "arcs_of" s_arcs_of f fd) : Df P w K mg base CX0 1 "arcs_of" (spArcsOf K) := by
  refine df_of (F.ok sc_arcs_of (fun vs H Q E h => ?_) (fun cdv A outer s H vs Q E hr h => ⟨_,
(pss_cons (ps_set (i := 2) sc_arcs_of.nd rfl (Or.inl rfl) (pe_callB call_len_seq (by rfl) B.len_ (by decide +kernel) (pa_cons (pv 1) pa_nil)))
 (pss_cons (ps_set (i := 3) sc_arcs_of.nd rfl (Or.inl rfl) (pe_lst pa_nil))
 (pss_cons (ps_for PassesOwn.never rfl (pi_range1 rfl B.range_ (pa_cons (pv 2) pa_nil)) (pg_name (i := 4) sc_arcs_of.nd rfl (Or.inl rfl)) (pss_one (ps_for PassesOwn.never rfl (pi_range1 rfl B.range_ (pa_cons (pv 2) pa_nil)) (pg_name (i := 5) sc_arcs_of.nd rfl (Or.inl rfl)) (pss_cons (ps_expr (pe_bm PySem.F.plainAttrs_list PySem.F.slot_list_append PySem.F.type_list_append mt_append (pv 3) (pa_cons (pe_tup (pa_cons (pv 4) (pa_cons (pe_op op_add (pv 2) (pv 5)) (pa_cons (pe_ix ix_list (pe_ix ix_list (pv 0) (pv 4) (fun _ _ => rfl)) (pv 5) (fun _ _ => rfl)) pa_nil)))) pa_nil)))
 (pss_one (ps_if (pt_cmpR op_gt (pe_ix ix_list (pe_ix ix_list (pv 1) (pv 4) (fun _ _ => rfl)) (pv 5) (fun _ _ => rfl)) pe_int (nomark _)) (pss_one (ps_expr (pe_bm PySem.F.plainAttrs_list PySem.F.slot_list_append PySem.F.type_list_append mt_append (pv 3) (pa_cons (pe_tup (pa_cons (pe_op op_add (pv 2) (pv 5)) (pa_cons (pv 4) (pa_cons (pe_op op_sub pe_int (pe_ix ix_list (pe_ix ix_list (pv 0) (pv 4) (fun _ _ => rfl)) (pv 5) (fun _ _ => rfl))) pa_nil)))) pa_nil)))) pss_nil))))))
 (pss_one (ps_ret (pv 3))))))
   , ?_⟩)) hm F.kp (F.binds fun _ _ _ _ _ _ us hl => match us, hl with | [_, _], _ => rfl)
  · obtain ⟨a, b, n, c, p, rfl, _⟩ := h
    rfl
  · obtain ⟨a, b, n, c, p, rfl, hC, hP, hn, k⟩ := h
    obtain ⟨rs0, l1, l2⟩ := hP.len
    refine ⟨_, rfl, b, _, rfl, .inl l1, ?_⟩
    rw [l2]
    refine ⟨by show 0 ≤ sizeLine; decide, fun L new => ?_⟩
    refine ⟨_, rfl, _, rfl, by omega, by omega, ?_⟩
    refine for_range0 (n := n) (fun i σ H' => ∃ o1 o2 : Option V, σ = [some (.ref a), some (.ref b), some (.int (n : Int)), some (.ref L), o1, o2] ∧ Grow (ArcAt K) H L (gridOf (resArcs n c p) n i 0) H')
      ⟨none, none, rfl, Grow.start new⟩ ?_ ?_
    · rintro i σ H' hi ⟨o1, o2, rfl, hg⟩
      refine ⟨_, rfl, _, rfl, by omega, by omega, ?_⟩
      refine for_range0 (n := n) (fun j σ H' => ∃ o2 : Option V, σ = [some (.ref a), some (.ref b), some (.int (n : Int)), some (.ref L), some (.int (i : Int)), o2] ∧ Grow (ArcAt K) H L (gridOf (resArcs n c p) n i j) H')
        ⟨o2, rfl, hg⟩ ?_ ?_
      · rintro j σ H1 hj ⟨o2, rfl, hg⟩
        have sz : (gridOf (resArcs n c p) n i j).length ≤ 900 := by
          refine Nat.le_trans (gridOf_len (resArcs_len n c p) i j) ?_
          have h1 : i * (n * 2) ≤ 20 * (20 * 2) := Nat.mul_le_mul (by omega) (by omega)
          omega
        have cC := hC.same hg.done.1
        obtain ⟨rs, m1, mg1⟩ := cC.all
        obtain ⟨r, m2, m3⟩ := mg1 i hi
        have m4 := row_at (g := c i) hj
        have aL : ∃ as : List Addr, H1 L = some (.lst (as.map V.ref)) := ⟨_, hg.choose_spec.1⟩
        obtain ⟨asL, eL⟩ := aL
        refine ⟨_, rfl, .inl ⟨rfl, _, SqL.of eL⟩, ?_⟩
        walk_at "rd"
        refine ⟨by show 3 ≤ sizeLine; decide, fun t ht => ?_⟩
        obtain ⟨acc, r1, r2, r3⟩ := hg.tup (x := (i, n + j, c i j)) (vs := [.int (i : Int), .int ((n : Int) + (j : Int)), .int (c i j)]) kept_arc framed_arc (fun H t e => by unfold ArcAt; rw [Int.natCast_add]; exact SqT.of e) new (by omega) ht
        have cC2 := hC.same r3.done.1
        have cP2 := hP.same r3.done.1
        obtain ⟨qs, p1, pg1⟩ := cP2.all
        obtain ⟨q, p2, p3⟩ := pg1 i hi
        have p4 := row_at (g := p i) hj
        refine ⟨L, _, _, rfl, rfl, r1, r2, ?_⟩
        clear m1 m2 m3 mg1
        walk_at "rd"
        by_cases d : 0 < p i j
        · refine ite2 (fun _ => ?_) fun z => absurd (decide_eq_true d) z
          obtain ⟨rs2, m1, mg1⟩ := cC2.all
          obtain ⟨r', m2, m3⟩ := mg1 i hi
          obtain ⟨asL2, eL2⟩ : ∃ as : List Addr, _ = some (HO.lst (as.map V.ref)) := ⟨_, r3.choose_spec.1⟩
          refine ⟨_, rfl, .inl ⟨rfl, _, SqL.of eL2⟩, ?_⟩
          walk_at "rd"
          refine ⟨by show 3 ≤ sizeLine; decide, fun t2 ht2 => ?_⟩
          obtain ⟨acc2, q1, q2, q3⟩ := r3.tup (x := (n + j, i, 0 - c i j)) (vs := [.int ((n : Int) + (j : Int)), .int (i : Int), .int (0 - c i j)]) kept_arc framed_arc (fun H t e => by unfold ArcAt; rw [Int.natCast_add]; exact SqT.of e) new (by rw [List.length_append]; show _ + 1 ≤ 999; omega) ht2
          refine ⟨L, _, _, rfl, rfl, q1, q2, _, rfl, ?_⟩
          rw [gridOf_next, show resArcs n c p i j = [(i, n + j, c i j)] ++ [(n + j, i, 0 - c i j)] by unfold resArcs; rw [if_pos d]; rfl, ← List.append_assoc]
          exact q3
        · refine ite2 (fun z => absurd (of_decide_eq_true z) d) fun _ => ?_
          refine ⟨_, rfl, ?_⟩
          rw [gridOf_next, show resArcs n c p i j = [(i, n + j, c i j)] by unfold resArcs; rw [if_neg d]]
          exact r3
      · rintro σ H1 ⟨o2, rfl, hg⟩
        rw [gridOf_row] at hg
        exact ⟨_, o2, rfl, hg⟩
    · rintro σ H' ⟨o1, o2, rfl, hg⟩
      obtain ⟨s1, h1⟩ := hg.done
      exact ⟨_, rfl, k _ L s1 new h1⟩


omit B G in
theorem cut_one (l : List V) : cutV l (some 1) none = l.drop 1 := by
  unfold cutV
  rw [HT.sIx_none, show (some (1 : Int)) = some ((1 : Nat) : Int) from rfl, HT.sIx_nat]
  cases l with
  | nil => rfl
  | cons x l =>
    have : min 1 (x :: l).length = 1 := by simp
    rw [this]
    exact List.take_of_length_le (by simp)
theorem df_lowered {f : Addr} {fd : FuncData} (hm : mg "lowered" = some (.ref f)) (F : Fun K "lowered" "lowered" s_lowered f fd) : Df P w K mg base CX0 1 "lowered" (spPart K lowrL) := by
  refine df_of (F.ok sc_lowered (fun vs H Q E h => ?_) (fun cdv A outer s H vs Q E hr h => ⟨_,
(pss_cons (ps_set (i := 2) sc_lowered.nd rfl (Or.inl rfl) (EWZ.pe_listZip rfl (pa_cons (pv 0) (pa_cons (pe_slice sl_list (pv 0) (po_some pe_int) po_none) pa_nil)) rfl B.list_ rfl B.zip_))
 (pss_one (ps_ret (pe_lc (own := [("start", 3), ("end", 4)]) rfl sc_lowered.nd (pi_list (pv 2)) (blkOk_by (own := [("start", 3), ("end", 4)]) (N := ["path", "n", "steps", "start", "end"]) (by kernel_rfl))
 (fun _ _ _ _ _ => (pgT (K := K) (n := 2) rfl (pgs_cons (pg_name (i := 3) sc_lowered.nd rfl (Or.inl rfl)) (pgs_cons (pg_name (i := 4) sc_lowered.nd rfl (Or.inl rfl)) pgs_nil)))) (fun _ _ _ _ _ => (pts_one (pt_cmpR op_ge (pv 3) (pv 1) (nomark _)))) (fun _ _ _ _ _ => (pe_tup (pa_cons (pv 4) (pa_cons (pe_op op_sub (pv 3) (pv 1)) pa_nil))))))))
   , ?_⟩)) hm F.kp (F.binds fun _ _ _ _ _ _ us hl => match us, hl with | [_, _], _ => rfl)
  · obtain ⟨a, n, c, rfl, _⟩ := h
    rfl
  · obtain ⟨a, n, c, rfl, hS, hB, hlen, k⟩ := h
    walk_at "rd"
    intro p1 hp1
    have s1 := same_upd (o := .lst (cutV ((c.map Int.ofNat).map V.int) (some 1) none)) hp1
    refine ⟨a, p1, _, _, rfl, s1.seq hS, SqL.of upd_same, fun H2 L ts s2 newL newT hLt hL hlt hat => ?_⟩
    have cut : cutV ((c.map Int.ofNat).map V.int) (some 1) none = ((c.map Int.ofNat).map V.int).drop 1 := cut_one _
    rw [cut, List.length_drop, List.length_map, List.length_map] at hlt
    have hlt2 : ts.length = c.length - 1 := by omega
    have get : ∀ (i : Nat) (t : Addr), ts[i]? = some t → ∃ x y, (EH.steps c)[i]? = some (x, y) ∧ H2 t = some (.tup [.int (x : Int), .int (y : Int)]) := fun i t e => by
      have hi : i < ts.length := (List.getElem?_eq_some_iff.mp e).1
      obtain ⟨x, ex⟩ : ∃ x, c[i]? = some x := ⟨_, List.getElem?_eq_getElem (by omega)⟩
      obtain ⟨y, ey⟩ : ∃ y, c[i + 1]? = some y := ⟨_, List.getElem?_eq_getElem (by omega)⟩
      refine ⟨x, y, steps_get ex ey, hat i t _ _ e (by rw [List.getElem?_map, List.getElem?_map, ex]; rfl) ?_⟩
      rw [cut, List.getElem?_drop, List.getElem?_map, List.getElem?_map, Nat.add_comm, ey]
      rfl
    have newL0 : H L = none := s1.free newL
    refine ⟨_, rfl, L, rfl, ⟨_, SqL.of hL⟩, fun D newD => ?_⟩
    have newD0 : H D = none := (s1.trans s2).free newD
    refine lc_list (K := K) (a := L) (xs := ts.map V.ref) (fun i H' => Grow (PairAt K) H2 D (lowrL n ((EH.steps c).take i)) H') (Grow.start newD) (fun i H' _ e => e.done.1.seq (SqL.of hL)) ?_ ?_
    · rintro i y H' hi hv
      obtain ⟨t, ht, rfl⟩ := map_get hi
      obtain ⟨x, y, exy, hxy⟩ := get i t ht
      have hxy' : SqT K H' t [.int (x : Int), .int (y : Int)] := SqT.of (hv.done.1 _ _ hxy)
      have hb := hB _ (List.mem_of_getElem? exy)
      dsimp only at hb
      have e5 : lowrL n ((EH.steps c).take (i + 1)) = lowrL n ((EH.steps c).take i) ++ lowrL n [(x, y)] := by
        rw [take_more exy]
        unfold lowrL
        rw [List.filterMap_append]
      refine ⟨t, _, rfl, hxy', rfl, ?_⟩
      walk_at "rd"
      refine ite2 (fun d => ?_) (fun d => ?_)
      · have d : n ≤ x := by
          have := of_decide_eq_true d
          omega
        walk_at "rd"
        refine ⟨by show 2 ≤ sizeLine; decide, fun t2 ht2 => ?_⟩
        obtain ⟨acc, r1, r2, r3⟩ := hv.tup (x := (y, x - n)) (vs := [.int (y : Int), .int ((x : Int) - (n : Int))]) kept_pair framed_pair (fun H t e => by unfold PairAt; rw [show ((x - n : Nat) : Int) = (x : Int) - (n : Int) by omega]; exact SqT.of e) newD (by
          have := List.length_filterMap_le (fun a : Nat × Nat => if n ≤ a.1 then some (a.2, a.1 - n) else none) ((EH.steps c).take i)
          rw [List.length_take, steps_len] at this
          unfold lowrL
          omega) ht2
        refine ⟨acc, r1, r2, ?_⟩
        rw [e5, show lowrL n [(x, y)] = [(y, x - n)] by unfold lowrL; simp [d]]
        exact r3
      · have d : ¬ n ≤ x := fun z => d (decide_eq_true (by omega))
        rw [e5, show lowrL n [(x, y)] = [] by unfold lowrL; simp [d], List.append_nil]
        exact hv
    · intro H' hv
      obtain ⟨s3, h3⟩ := hv.done
      rw [List.length_map, hlt2, ← steps_len, List.take_length] at h3
      exact k _ D ((s1.trans s2).trans s3) newD0 h3
theorem df_raised {f : Addr} {fd : FuncData} (hm : mg "raised" = some (.ref f)) (F : Fun K "raised" "raised" s_raised f fd) : Df P w K mg base CX0 1 "raised" (spPart K raisL) := by
  refine df_of (F.ok sc_raised (fun vs H Q E h => ?_) (fun cdv A outer s H vs Q E hr h => ⟨_,
(pss_cons (ps_set (i := 2) sc_raised.nd rfl (Or.inl rfl) (EWZ.pe_listZip rfl (pa_cons (pv 0) (pa_cons (pe_slice sl_list (pv 0) (po_some pe_int) po_none) pa_nil)) rfl B.list_ rfl B.zip_))
 (pss_one (ps_ret (pe_lc (own := [("start", 3), ("end", 4)]) rfl sc_raised.nd (pi_list (pv 2)) (blkOk_by (own := [("start", 3), ("end", 4)]) (N := ["path", "n", "steps", "start", "end"]) (by kernel_rfl))
 (fun _ _ _ _ _ => (pgT (K := K) (n := 2) rfl (pgs_cons (pg_name (i := 3) sc_raised.nd rfl (Or.inl rfl)) (pgs_cons (pg_name (i := 4) sc_raised.nd rfl (Or.inl rfl)) pgs_nil)))) (fun _ _ _ _ _ => (pts_one (pt_cmpR op_lt (pv 3) (pv 1) (nomark _)))) (fun _ _ _ _ _ => (pe_tup (pa_cons (pv 3) (pa_cons (pe_op op_sub (pv 4) (pv 1)) pa_nil))))))))
   , ?_⟩)) hm F.kp (F.binds fun _ _ _ _ _ _ us hl => match us, hl with | [_, _], _ => rfl)
  · obtain ⟨a, n, c, rfl, _⟩ := h
    rfl
  · obtain ⟨a, n, c, rfl, hS, hB, hlen, k⟩ := h
    walk_at "rd"
    intro p1 hp1
    have s1 := same_upd (o := .lst (cutV ((c.map Int.ofNat).map V.int) (some 1) none)) hp1
    refine ⟨a, p1, _, _, rfl, s1.seq hS, SqL.of upd_same, fun H2 L ts s2 newL newT hLt hL hlt hat => ?_⟩
    have cut : cutV ((c.map Int.ofNat).map V.int) (some 1) none = ((c.map Int.ofNat).map V.int).drop 1 := cut_one _
    rw [cut, List.length_drop, List.length_map, List.length_map] at hlt
    have hlt2 : ts.length = c.length - 1 := by omega
    have get : ∀ (i : Nat) (t : Addr), ts[i]? = some t → ∃ x y, (EH.steps c)[i]? = some (x, y) ∧ H2 t = some (.tup [.int (x : Int), .int (y : Int)]) := fun i t e => by
      have hi : i < ts.length := (List.getElem?_eq_some_iff.mp e).1
      obtain ⟨x, ex⟩ : ∃ x, c[i]? = some x := ⟨_, List.getElem?_eq_getElem (by omega)⟩
      obtain ⟨y, ey⟩ : ∃ y, c[i + 1]? = some y := ⟨_, List.getElem?_eq_getElem (by omega)⟩
      refine ⟨x, y, steps_get ex ey, hat i t _ _ e (by rw [List.getElem?_map, List.getElem?_map, ex]; rfl) ?_⟩
      rw [cut, List.getElem?_drop, List.getElem?_map, List.getElem?_map, Nat.add_comm, ey]
      rfl
    have newL0 : H L = none := s1.free newL
    refine ⟨_, rfl, L, rfl, ⟨_, SqL.of hL⟩, fun D newD => ?_⟩
    have newD0 : H D = none := (s1.trans s2).free newD
    refine lc_list (K := K) (a := L) (xs := ts.map V.ref) (fun i H' => Grow (PairAt K) H2 D (raisL n ((EH.steps c).take i)) H') (Grow.start newD) (fun i H' _ e => e.done.1.seq (SqL.of hL)) ?_ ?_
    · rintro i y H' hi hv
      obtain ⟨t, ht, rfl⟩ := map_get hi
      obtain ⟨x, y, exy, hxy⟩ := get i t ht
      have hxy' : SqT K H' t [.int (x : Int), .int (y : Int)] := SqT.of (hv.done.1 _ _ hxy)
      have hb := hB _ (List.mem_of_getElem? exy)
      dsimp only at hb
      have e5 : raisL n ((EH.steps c).take (i + 1)) = raisL n ((EH.steps c).take i) ++ raisL n [(x, y)] := by
        rw [take_more exy]
        unfold raisL
        rw [List.filterMap_append]
      refine ⟨t, _, rfl, hxy', rfl, ?_⟩
      walk_at "rd"
      refine ite2 (fun d => ?_) (fun d => ?_)
      · have d : x < n := by
          have := of_decide_eq_true d
          omega
        walk_at "rd"
        refine ⟨by show 2 ≤ sizeLine; decide, fun t2 ht2 => ?_⟩
        obtain ⟨acc, r1, r2, r3⟩ := hv.tup (x := (x, y - n)) (vs := [.int (x : Int), .int ((y : Int) - (n : Int))]) kept_pair framed_pair (fun H t e => by unfold PairAt; rw [show ((y - n : Nat) : Int) = (y : Int) - (n : Int) by omega]; exact SqT.of e) newD (by
          have := List.length_filterMap_le (fun a : Nat × Nat => if a.1 < n then some (a.1, a.2 - n) else none) ((EH.steps c).take i)
          rw [List.length_take, steps_len] at this
          unfold raisL
          omega) ht2
        refine ⟨acc, r1, r2, ?_⟩
        rw [e5, show raisL n [(x, y)] = [(x, y - n)] by unfold raisL; simp [d]]
        exact r3
      · have d : ¬ x < n := fun z => d (decide_eq_true (by omega))
        rw [e5, show raisL n [(x, y)] = [] by unfold raisL; simp [d], List.append_nil]
        exact hv
    · intro H' hv
      obtain ⟨s3, h3⟩ := hv.done
      rw [List.length_map, hlt2, ← steps_len, List.take_length] at h3
      exact k _ D ((s1.trans s2).trans s3) newD0 h3
theorem df_change {f : Addr} {fd : FuncData} (hm : mg "change" = some (.ref f)) (F : Fun K "change" "change" s_change f fd) (c_lowered : Df P w K mg base CX0 1 "lowered" (spPart K lowrL)) (c_raised : Df P w K mg base CX0 1 "raised" (spPart K raisL)) :
    Df P w K mg base CX0 2 "change" spChange := by
  refine df_of (F.ok sc_change (fun vs H Q E h => ?_) (fun cdv A outer s H vs Q E hr h => ⟨_,
(pss_cons (ps_set (i := 3) sc_change.nd rfl (Or.inl rfl) (pe_callB call_len_seq (by rfl) B.len_ (by decide +kernel) (pa_cons (pv 0) pa_nil)))
 (pss_cons (ps_for PassesOwn.never rfl (pi_list (pe_c0 c_raised hr (by decide) rfl (pa_cons (pv 1) (pa_cons (pv 3) pa_nil)))) (pg_tup rfl (pgs_cons (pg_name (i := 4) sc_change.nd rfl (Or.inl rfl)) (pgs_cons (pg_name (i := 5) sc_change.nd rfl (Or.inl rfl)) pgs_nil))) (pss_one (ps_augS (pe_ix ix_list (pv 0) (pv 4) (fun _ _ => rfl)) (pv 5) get_list (pv 2) ip_add set_list)))
 (pss_one (ps_for PassesOwn.never rfl (pi_list (pe_c0 c_lowered hr (by decide) rfl (pa_cons (pv 1) (pa_cons (pv 3) pa_nil)))) (pg_tup rfl (pgs_cons (pg_name (i := 4) sc_change.nd rfl (Or.inl rfl)) (pgs_cons (pg_name (i := 5) sc_change.nd rfl (Or.inl rfl)) pgs_nil))) (pss_one (ps_augS (pe_ix ix_list (pv 0) (pv 4) (fun _ _ => rfl)) (pv 5) get_list (pv 2) ip_sub set_list))))))
   , ?_⟩)) hm F.kp (F.binds fun _ _ _ _ _ _ us hl => match us, hl with | [_, _, _], _ => rfl)
  · obtain ⟨a, b, v, n, rs, p, c, rfl, _⟩ := h
    rfl
  · obtain ⟨a, b, v, n, rs, p, c, rfl, hM, hn, hS, hb, hB, hlen, k⟩ := h
    obtain ⟨rs0, l1, l2⟩ := (hM.mx (K := K)).len
    refine ⟨_, rfl, a, _, rfl, .inl l1, ?_⟩
    rw [l2]
    refine ⟨_, rfl, _, rfl, b, n, c, rfl, hS.at_, hB, hlen, fun H1 L1 s1 new1 hL1 => ?_⟩
    obtain ⟨ts1, t11, t21⟩ := hL1
    have hlt1 : ts1.length = (raisL n (EH.steps c)).length := Paired.length t21
    have nL1 : L1 ∉ rs := fun z => by
      obtain ⟨i, e⟩ := List.getElem?_of_mem z
      have := hM.row i L1 e
      rw [new1] at this
      cases this
    have ls1 : ∀ r ∈ rs, ∃ xs, H1 r = some (.lst xs) := fun r hr => by
      obtain ⟨i, e⟩ := List.getElem?_of_mem hr
      exact ⟨_, s1 _ _ (hM.row i r e)⟩
    refine ⟨L1, rfl, ⟨_, SqL.of t11⟩, for_list (K := K) (a := L1) (xs := ts1.map V.ref) (fun i σ H' => ∃ o1 o2 : Option V, σ = [some (.ref a), some (.ref b), some (.int v), some (.int (n : Int)), o1, o2] ∧
      Off rs H1 H' ∧ MxR H' a rs n (adds v ((raisL n (EH.steps c)).take i) p)) ⟨_, _, rfl, Off.refl, hM.same s1⟩ (fun i σ H' _ ⟨_, _, _, e, _⟩ => SqL.of (e _ _ t11 nL1)) ?_ ?_⟩
    · rintro i y σ H' hi ⟨o1, o2, rfl, off, hm2⟩
      obtain ⟨t, ht, rfl⟩ := map_get hi
      obtain ⟨⟨x, y⟩, ex, hfx⟩ := ListOf.nth t21 ht
      have hfx' : SqT K H' t [.int (x : Int), .int (y : Int)] := sqT_off off ls1 hfx
      obtain ⟨hx, hy⟩ := raisL_lt hB (List.mem_of_getElem? ex)
      dsimp only at hx hy
      obtain ⟨qs, m1, mg1⟩ := (hm2.mx (K := K)).all
      obtain ⟨r, er⟩ : ∃ r, rs[x]? = some r := ⟨_, List.getElem?_eq_getElem (by rw [hm2.len]; exact hx)⟩
      have m1 : SqL K H' a (rs.map V.ref) := SqL.of hm2.top
      have m2 : atI (rs.map V.ref) (x : Int) = some (.ref r) := at_of rfl (by rw [List.getElem?_map, er]; rfl)
      have m3 := hm2.row x r er
      have m3' : SqL K H' r (rowI n (adds v ((raisL n (EH.steps c)).take i) p x)) := SqL.of m3
      have m4 := row_at (g := adds v ((raisL n (EH.steps c)).take i) p x) hy
      have m5 : ixN (rowI n (adds v ((raisL n (EH.steps c)).take i) p x)).length (y : Int) = some y := ixN_row hy
      refine ⟨t, _, rfl, hfx', rfl, ?_⟩
      walk_at "rd"
      refine ⟨off.trans (Off.upd (List.mem_of_getElem? er)), ?_⟩
      rw [row_set, adds_next ex]
      exact hm2.add er (by first | rfl | exact Int.sub_eq_add_neg)
    · rintro σ H1' ⟨o11, o21, rfl, off1, hm1⟩
      rw [List.length_map, hlt1, List.take_length] at hm1
      have hb1 : IntsL H1' b (c.map Int.ofNat) := off1 _ _ (s1 _ _ hS) hb
      refine ⟨_, rfl, _, rfl, b, n, c, rfl, hb1.at_, hB, hlen, fun H2 L2 s2 new2 hL2 => ?_⟩
      obtain ⟨ts2, t12, t22⟩ := hL2
      have hlt2 : ts2.length = (lowrL n (EH.steps c)).length := Paired.length t22
      have nL2 : L2 ∉ rs := fun z => by
        obtain ⟨i, e⟩ := List.getElem?_of_mem z
        have := hm1.row i L2 e
        rw [new2] at this
        cases this
      have ls2 : ∀ r ∈ rs, ∃ xs, H2 r = some (.lst xs) := fun r hr => by
        obtain ⟨i, e⟩ := List.getElem?_of_mem hr
        exact ⟨_, s2 _ _ (hm1.row i r e)⟩
      refine ⟨L2, rfl, ⟨_, SqL.of t12⟩, for_list (K := K) (a := L2) (xs := ts2.map V.ref) (fun i σ H' => ∃ o1 o2 : Option V, σ = [some (.ref a), some (.ref b), some (.int v), some (.int (n : Int)), o1, o2] ∧
        Off rs H2 H' ∧ MxR H' a rs n (adds (-v) ((lowrL n (EH.steps c)).take i) (adds v (raisL n (EH.steps c)) p))) ⟨_, _, rfl, Off.refl, hm1.same s2⟩ (fun i σ H' _ ⟨_, _, _, e, _⟩ => SqL.of (e _ _ t12 nL2)) ?_ ?_⟩
      · rintro i y σ H' hi ⟨o1, o2, rfl, off, hm2⟩
        obtain ⟨t, ht, rfl⟩ := map_get hi
        obtain ⟨⟨x, y⟩, ex, hfx⟩ := ListOf.nth t22 ht
        have hfx' : SqT K H' t [.int (x : Int), .int (y : Int)] := sqT_off off ls2 hfx
        obtain ⟨hx, hy⟩ := lowrL_lt hB (List.mem_of_getElem? ex)
        dsimp only at hx hy
        obtain ⟨qs, m1, mg1⟩ := (hm2.mx (K := K)).all
        obtain ⟨r, er⟩ : ∃ r, rs[x]? = some r := ⟨_, List.getElem?_eq_getElem (by rw [hm2.len]; exact hx)⟩
        have m1 : SqL K H' a (rs.map V.ref) := SqL.of hm2.top
        have m2 : atI (rs.map V.ref) (x : Int) = some (.ref r) := at_of rfl (by rw [List.getElem?_map, er]; rfl)
        have m3 := hm2.row x r er
        have m3' : SqL K H' r (rowI n (adds (-v) ((lowrL n (EH.steps c)).take i) (adds v (raisL n (EH.steps c)) p) x)) := SqL.of m3
        have m4 := row_at (g := adds (-v) ((lowrL n (EH.steps c)).take i) (adds v (raisL n (EH.steps c)) p) x) hy
        have m5 : ixN (rowI n (adds (-v) ((lowrL n (EH.steps c)).take i) (adds v (raisL n (EH.steps c)) p) x)).length (y : Int) = some y := ixN_row hy
        refine ⟨t, _, rfl, hfx', rfl, ?_⟩
        walk_at "rd"
        refine ⟨off.trans (Off.upd (List.mem_of_getElem? er)), ?_⟩
        rw [row_set, adds_next ex]
        exact hm2.add er (by first | rfl | exact Int.sub_eq_add_neg)
      · rintro σ H2' ⟨o12, o22, rfl, off2, hm2⟩
        rw [List.length_map, hlt2, List.take_length] at hm2
        refine k _ (((Off.of s1).trans off1).trans ((Off.of s2).trans off2)) (hm2.congr fun i j hi hj => ?_)
        rw [adds_cnt, adds_cnt, rais_fw hj hB, lowr_bw hi hB]
        unfold EH.along
        rw [Int.mul_sub]
        have : -v * EH.bw n (EH.steps c) i j = - (v * EH.bw n (EH.steps c) i j) := Int.neg_mul _ _
        omega
end
end EW
end

/-! ## EwSend -/
section
set_option Elab.async false
set_option linter.all false
set_option maxRecDepth 100000
set_option maxHeartbeats 2000000
set_option autoImplicit false
namespace EW
open PySem PySem.Spec PyProof.Rows L2
open Sr58 (Frac)
local macro_rules | `(tactic| walk_at "rd") => `(tactic| repeat (first | refine ⟨rfl, ?_⟩ | apply Exists.intro | refine ⟨by assumption, ?_⟩))
/-- a def whose code object is known by its place -/
structure FunC (K : PySem.W.Frag) (x qual : Str) (st : Stmt) (f : Addr) (fd : FuncData) (c : Addr) : Prop where
  ex : ∃ (oc : Value) (od : Option Addr) (kV doc pm : Value) (an : Option Addr) (ct : Value) (osl : Array (Option Value)),
    fd = PySem.W.fnOf x qual (defArgs st) (defBody st) (defScope st) .none kV doc pm an (.ref c) ct ∧ K.lookup f = some ⟨oc, od, .func fd, osl⟩ ∧ PySem.W.codeIn K (.ref c) qual = true
  kp : PySem.W.keepIn K (.ref f) = true
section
variable {P : Program} {w : World} {K : PySem.W.Frag} {mg : Str → Option Value} {base : Heap}
theorem FunC.ok {x qual : Str} {st : Stmt} {f c : Addr} {fd : FuncData} {N ps : List Str} {k : Nat} {sp : Sp} (F : FunC K x qual st f fd c) (S : FnScope N ps (defScope st)) (len : ∀ vs H Q E, sp vs H Q E → vs.length = ps.length)
    (hbody : ∀ (A : Around) (outer : List Env) (s : Shared) (H : Hp) (vs : List V) (Q : VK) (E : XK), Room k (A.deeper (envOfC qual (defScope st) s.heap.objs.size f (.ref c))) → sp vs H Q E →
      ∃ t, PSs (cxOf CX0 P w K mg base N qual (defScope st) f (.ref c) A outer s H E).nox (defBody st) t ∧ t { nx := fun _ H' => Q .non H', rt := Q } (start N vs) H) : FnOk P w K mg base CX0 (k + 1) f fd ps sp := by
  obtain ⟨oc, od, kV, doc, pm, an, ct, osl, rfl, lk, hcd⟩ := F.ex
  refine fn_of lk hcd S len fun A outer s H vs Q E hr hsp => ?_
  obtain ⟨t, h, q⟩ := hbody A outer s H vs Q E hr hsp
  exact ⟨t, h.nox, q⟩
theorem FunC.binds {x qual : Str} {st : Stmt} {f c : Addr} {fd : FuncData} {ps : List Str} (F : FunC K x qual st f fd c)
    (h : ∀ (kV doc pm : Value) (an : Option Addr) (cdv ct : Value) (us : List Value), us.length = ps.length → bindArgs (PySem.W.fnOf x qual (defArgs st) (defBody st) (defScope st) .none kV doc pm an cdv ct) ⟨us, []⟩ = pure (ps.zip us)) : Binds K fd ps [] := by
  obtain ⟨oc, od, kV, doc, pm, an, ct, osl, rfl, lk, hcd⟩ := F.ex
  exact .all (h kV doc pm an (.ref c) ct)
end
abbrev s_nearest_column : Stmt := top 40
theorem sc_nearest_column : FnScope ["lengths", "wanted", "n", "j"] ["lengths", "wanted"] (defScope s_nearest_column) := ⟨rfl, rfl, rfl, by decide +kernel, rfl, by decide +kernel, by decide +kernel⟩
abbrev s_send : Stmt := top 44
theorem sc_send : FnScope ["costs", "plan", "left", "wanted", "n", "begins", "i", "lengths", "parents", "goal", "path", "amount", "j"] ["costs", "plan", "left", "wanted"] (defScope s_send) := ⟨rfl, rfl, rfl, by decide +kernel, rfl, by decide +kernel, by decide +kernel⟩
abbrev s_cheapest_plan : Stmt := top 45
theorem sc_cheapest_plan : FnScope ["costs", "supplies", "demands", "plan", "left", "wanted"] ["costs", "supplies", "demands"] (defScope s_cheapest_plan) := ⟨rfl, rfl, rfl, by decide +kernel, rfl, by decide +kernel, by decide +kernel⟩
/-- the table of the code objects that nearest_column makes -/
abbrev TN (P0 : Addr) : List (Addr × Str) := [(P0, ("nearest_column" : Str) ++ ".<locals>." ++ "<lambda>")]
/-- what stands in spite of new code objects -/
structure ExtT (P0 : Addr) (H H' : Hp) : Prop where
  ext : LamX.ExtN H H'
  tab : LamX.Tabs (TN P0) H → LamX.Tabs (TN P0) H'
def spNearest (K : PySem.W.Frag) (P0 : Addr) : Sp := fun vs H Q _ => ∃ (a b : Addr) (n : Nat) (l w : Nat → Int), vs = [.ref a, .ref b] ∧ SqL K H a (rowI (2 * n) l) ∧ SqL K H b (rowI n w) ∧ n ≤ 20 ∧ (∃ j, j < n ∧ 0 < w j) ∧ LamX.Tabs (TN P0) H ∧
  ∀ (H' : Hp) (j : Nat), LamX.ExtN H H' → LamX.Tabs (TN P0) H' → j < n → 0 < w j → (∀ k, k < n → 0 < w k → l (n + j) ≤ l (n + k)) → Q (.int (j : Int)) H'
/-- plain values under way -/
def GrowV (H0 : Hp) (D : Addr) (xs : List V) (H' : Hp) : Prop := H' D = some (.lst xs) ∧ Same H0 H'
theorem GrowV.start {H0 : Hp} {D : Addr} (new : H0 D = none) : GrowV H0 D [] (upd H0 D (.lst [])) := ⟨upd_same, same_upd new⟩
theorem GrowV.app {H0 H' : Hp} {D : Addr} {xs : List V} {y : V} (h : GrowV H0 D xs H') (new : H0 D = none) (hl : xs.length ≤ 999) :
    ∃ acc, H' D = some (.lst acc) ∧ acc.length < sizeLine ∧ GrowV H0 D (xs ++ [y]) (upd H' D (.lst (acc ++ [y]))) :=
  ⟨_, h.1, small1000 (by omega), upd_same, fun b o q => by
    rw [upd_ne (ne_of_none q new)]
    exact h.2 _ _ q⟩
abbrev natsV (l : List Nat) : List V := (l.map Int.ofNat).map V.int
/-- all but what lies at D stays, and the tables tell what they should -/
structure KpT (P0 : Addr) (D : List Addr) (H H' : Hp) : Prop where
  ext : ∀ b u, H b = some u → b ∉ D → (∀ ps, u ≠ .tbl ps) → H' b = some u
  tab : LamX.Tabs (TN P0) H'
theorem mul_small {x y : Int} (hx : x.natAbs ≤ 1000) (hy : y.natAbs ≤ 1000) : CMulW x y := mul_ok (Nat.lt_of_le_of_lt hx (by decide)) (Nat.lt_of_le_of_lt hy (by decide))
theorem tabs_off {T : List (Addr × Str)} {H H' : Hp} {D : List Addr} (t : LamX.Tabs T H) (o : Off D H H') (hl : ∀ r ∈ D, ∃ xs, H r = some (.lst xs)) : LamX.Tabs T H' := fun p hp => by
  obtain ⟨ps, h1, h2, h3⟩ := t p hp
  refine ⟨ps, o _ _ h1 (fun z => by obtain ⟨xs, e⟩ := hl _ z; rw [e] at h1; cases h1), h2, fun pos cv hc => ?_⟩
  obtain ⟨c, e1, e2⟩ := h3 pos cv hc
  exact ⟨c, e1, o _ _ e2 (fun z => by obtain ⟨xs, e⟩ := hl _ z; rw [e] at e2; unfold LamX.CodeO at e2; cases e2)⟩
def spSend (K : PySem.W.Frag) (P0 : Addr) : Sp := fun vs H Q _ => ∃ (a b l w : Addr) (n : Nat) (rs : List Addr) (c p : Nat → Nat → Int) (L W : Nat → Int), vs = [.ref a, .ref b, .ref l, .ref w] ∧ Mx K H a n c ∧ MxR H b rs n p ∧
  H l = some (.lst (rowI n L)) ∧ H w = some (.lst (rowI n W)) ∧ l ≠ w ∧ l ∉ rs ∧ w ∉ rs ∧ l ≠ b ∧ w ≠ b ∧ n ≤ 20 ∧ (∃ j, j < n ∧ 0 < W j) ∧ LamX.Tabs (TN P0) H ∧
  (∀ j, j < n → 0 < W j → Near n c p L W j → ∃ i ch, Way n c p L i j ch) ∧
  ∀ (H' : Hp) (i j : Nat) (ch : List Nat) (v : Int), j < n → 0 < W j → Way n c p L i j ch → Least n p L W i j ch v → KpT P0 (l :: w :: rs) H H' → MxR H' b rs n (EH.along n v (EH.steps ch.reverse) p) →
    H' l = some (.lst (rowI n (less L i v))) → H' w = some (.lst (rowI n (less W j v))) → Q .non H'
theorem sqL_extN {K : PySem.W.Frag} {H H' : Hp} {a : Addr} {xs : List V} (eN : LamX.ExtN H H') (h : SqL K H a xs) : SqL K H' a xs := by
  rcases h with (z | ⟨o, z⟩) | z
  · exact .inl (.inl (eN _ _ z (fun ps y => by cases y)))
  · exact .inl (.inr ⟨o, eN _ _ z (fun ps y => by cases y)⟩)
  · exact .inr z
theorem sqT_extN {K : PySem.W.Frag} {H H' : Hp} {a : Addr} {xs : List V} (eN : LamX.ExtN H H') (h : SqT K H a xs) : SqT K H' a xs := by
  rcases h with (z | ⟨o, z⟩) | z
  · exact .inl (.inl (eN _ _ z (fun ps y => by cases y)))
  · exact .inl (.inr ⟨o, eN _ _ z (fun ps y => by cases y)⟩)
  · exact .inr z
theorem lst_extN {H H' : Hp} {a : Addr} {xs : List V} (eN : LamX.ExtN H H') (h : H a = some (.lst xs)) : H' a = some (.lst xs) := eN _ _ h (fun ps y => by cases y)
theorem Mx.extN {K : PySem.W.Frag} {H H' : Hp} {a : Addr} {n : Nat} {f : Nat → Nat → Int} (eN : LamX.ExtN H H') (h : Mx K H a n f) : Mx K H' a n f := by
  obtain ⟨rs, h1, h2, h3⟩ := h.ex
  exact ⟨rs, lst_extN eN h1, h2, fun i r e => sqL_extN eN (h3 i r e)⟩
def sumV (xs : List V) : Int := (xs.map fun x => match x with | .int i => i | _ => 0).sum
theorem sumV_row (n : Nat) (g : Nat → Int) : sumV (rowI n g) = EH.S n g := by
  unfold sumV rowI
  rw [List.map_map, List.map_map, ← EH.sum_range]
  rfl
def spCheapest (K : PySem.W.Frag) (P0 : Addr) : Sp := fun vs H Q _ => ∃ (a s d : Addr) (n : Nat) (c : Nat → Nat → Int) (L W : Nat → Int) (J : (Nat → Nat → Int) → (Nat → Int) → (Nat → Int) → Prop), vs = [.ref a, .ref s, .ref d] ∧ Mx K H a n c ∧
  SqL K H s (rowI n L) ∧ SqL K H d (rowI n W) ∧ n ≤ 20 ∧ LamX.Tabs (TN P0) H ∧ Run n c J ∧ J (fun _ _ => 0) L W ∧
  ∀ (H' : Hp) (b : Addr) (p : Nat → Nat → Int) (L' W' : Nat → Int), LamX.ExtN H H' → LamX.Tabs (TN P0) H' → H b = none → Mx K H' b n p → J p L' W' → EH.S n L' ≤ 0 → Q (.ref b) H'
section
variable {P : Program} {w : World} {K : PySem.W.Frag} {mg : Str → Option Value} {base : Heap} (B : Nb mg) {A0 : Ad} (G : Gs K mg A0) {c0 P0 : Addr} (TB : LamX.TabB base mg c0 P0)
include B G TB
theorem df_nearest {f : Addr} {fd : FuncData} (hm : mg "nearest_column" = some (.ref f)) (F : FunC K "nearest_column" "nearest_column" s_nearest_column f fd c0) : Df P w K mg base CX0 3 "nearest_column" (spNearest K P0) := by
  have hmT : (P0, ("nearest_column" : Str) ++ ".<locals>." ++ "<lambda>") ∈ TN P0 := List.mem_singleton.mpr rfl
  have hu : ∀ p ∈ TN P0, p.1 = P0 → p.2 = ("nearest_column" : Str) ++ ".<locals>." ++ "<lambda>" := fun p hp _ => by rw [List.mem_singleton.mp hp]
  refine df_of (F.ok sc_nearest_column (fun vs H Q E h => ?_) (fun A outer s H vs Q E hr h => ⟨_,
(pss_cons (ps_set (i := 2) sc_nearest_column.nd rfl (Or.inr rfl) (pe_callB call_len_seq (by rfl) B.len_ (by decide +kernel) (pa_cons (pv 1) pa_nil)))
 (pss_one (ps_ret (EWK.pe_minKey (T := TN P0) (il := 0) (in_ := 2) rfl (pe_lc (own := [("j", 3)]) (g := gName 3) rfl sc_nearest_column.nd (pi_range1 rfl B.range_ (pa_cons (pv 2) pa_nil)) (blkOk_by (own := [("j", 3)]) (N := ["lengths", "wanted", "n", "j"]) (by kernel_rfl))
 (fun _ _ _ _ _ => (pg_name (i := 3) sc_nearest_column.nd rfl (Or.inl rfl))) (fun _ _ _ _ _ => (pts_one (pt_cmpR op_gt (pe_ix (ixL (K := K)) (pv 1) (pv 3) (fun _ _ => rfl)) pe_int (nomark _)))) (fun _ _ _ _ _ => (pv 3))) rfl B.min_ TB rfl hmT hu rfl rfl rfl rfl rfl rfl rfl rfl rfl (fun _ _ _ _ _ _ => rfl) hr))))
   , ?_⟩)) hm F.kp (F.binds fun _ _ _ _ _ _ us hl => match us, hl with | [_, _], _ => rfl)
  · obtain ⟨a, b, n, l, w, rfl, _⟩ := h
    rfl
  · obtain ⟨a, b, n, l, w, rfl, hl, hw, hn, hex, hT, k⟩ := h
    refine ⟨_, rfl, b, _, rfl, .inl hw, ?_⟩
    rw [row_len]
    refine ⟨_, rfl, _, rfl, by omega, by omega, fun D new => ?_⟩
    refine lc_range0 (n := n) (fun i H' => GrowV H D (natsV (posL i w)) H') (GrowV.start new) (fun i H' hi hv => ?_) fun H' hv => ?_
    · have sw : SqL K H' b (rowI n w) := hv.2.seq hw
      have m1 := row_at (g := w) hi
      walk_at "rd"
      refine ite2 (fun d => ?_) (fun d => ?_)
      · have d := of_decide_eq_true d
        obtain ⟨acc, r1, r2, r3⟩ := hv.app (y := V.int (i : Int)) new (by
          have := posL_len i w
          rw [List.length_map, List.length_map]
          omega)
        refine ⟨_, rfl, acc, r1, r2, ?_⟩
        rw [posL_succ, if_pos d]
        unfold natsV
        rw [List.map_append, List.map_append]
        exact r3
      · have d : ¬ 0 < w i := fun z => d (decide_eq_true z)
        rw [posL_succ, if_neg d, List.append_nil]
        exact hv
    · obtain ⟨j0, hj0, hw0⟩ := hex
      have nat : ∀ x ∈ (posL n w).map Int.ofNat, ∃ j, j < n ∧ 0 < w j ∧ x = (j : Int) := fun x hx => by
        obtain ⟨j, hj, rfl⟩ := List.mem_map.mp hx
        obtain ⟨q1, q2⟩ := posL_mem.mp hj
        exact ⟨j, q1, q2, rfl⟩
      refine ⟨D, a, (posL n w).map Int.ofNat, n, rowI (2 * n) l, fun x => l (n + x.toNat), rfl, SqL.of hv.1, ?_, hT.ext hv.2, rfl, hv.2.seq hl, rfl, fun x hx => ?_, fun H2 M eN T2 hM hmin => ?_⟩
      · rw [List.length_map]
        exact List.length_pos_of_mem (posL_mem.mpr ⟨hj0, hw0⟩)
      · obtain ⟨j, q1, q2, rfl⟩ := nat x hx
        refine ⟨by omega, ?_⟩
        have e : ((n : Int) + (j : Int)).toNat = n + j := by omega
        rw [e, row_get (by omega)]
        rfl
      · obtain ⟨j, q1, q2, rfl⟩ := nat M hM
        refine k H2 j ((LamX.ExtN.of hv.2).trans eN) T2 q1 q2 fun t ht wt => ?_
        have := hmin (t : Int) (List.mem_map.mpr ⟨t, posL_mem.mpr ⟨ht, wt⟩, rfl⟩)
        exact this
theorem df_send {f : Addr} {fd : FuncData} (hm : mg "send" = some (.ref f)) (F : Fun K "send" "send" s_send f fd) (c_shortest : Df P w K mg base CX0 2 "shortest" (spShortest K)) (c_arcs_of : Df P w K mg base CX0 1 "arcs_of" (spArcsOf K))
    (c_nearest_column : Df P w K mg base CX0 3 "nearest_column" (spNearest K P0)) (c_path_to : Df P w K mg base CX0 1 "path_to" (spPathTo K)) (c_lowered : Df P w K mg base CX0 1 "lowered" (spPart K lowrL)) (c_change : Df P w K mg base CX0 2 "change" spChange) :
    Df P w K mg base CX0 4 "send" (spSend K P0) := by
  refine df_of (F.ok sc_send (fun vs H Q E h => ?_) (fun cdv A outer s H vs Q E hr h => ⟨_,
(pss_cons (ps_set (i := 4) sc_send.nd rfl (Or.inl rfl) (pe_callB call_len_seq (by rfl) B.len_ (by decide +kernel) (pa_cons (pv 1) pa_nil)))
 (pss_cons (ps_setLc (i := 5) (own := [("i", 6)]) (g := gName 6) rfl sc_send.nd rfl rfl (sw_true rfl rfl rfl (by decide +kernel)) (pi_range1 rfl B.range_ (pa_cons (pv 4) pa_nil)) (blkOk_by (own := [("i", 6)]) (N := ["costs", "plan", "left", "wanted", "n", "begins", "i", "lengths", "parents", "goal", "path", "amount", "j"]) (by kernel_rfl))
 (fun _ _ _ _ _ => (pg_name (i := 6) sc_send.nd rfl (Or.inl rfl))) (fun _ _ _ _ _ => (pts_one (pt_cmpR op_gt (pe_ix (ixL (K := K)) (pv 2) (pv 6) (fun _ _ => rfl)) pe_int (nomark _)))) (fun _ _ _ _ _ => (pv 6)))
 (pss_cons (ps_asg (pe_c0 c_shortest hr (by decide) rfl (pa_cons (pe_c0 c_arcs_of hr (by decide) rfl (pa_cons (pv 0) (pa_cons (pv 1) pa_nil))) (pa_cons (pe_op op_mulW pe_int (pv 4)) (pa_cons (pv 5) pa_nil)))) (pg_tup rfl (pgs_cons (pg_name (i := 7) sc_send.nd rfl (Or.inl rfl)) (pgs_cons (pg_name (i := 8) sc_send.nd rfl (Or.inl rfl)) pgs_nil))))
 (pss_cons (ps_set (i := 9) sc_send.nd rfl (Or.inl rfl) (pe_c0 c_nearest_column hr (by decide) rfl (pa_cons (pv 7) (pa_cons (pv 3) pa_nil))))
 (pss_cons (ps_set (i := 10) sc_send.nd rfl (Or.inl rfl) (pe_c0 c_path_to hr (by decide) rfl (pa_cons (pv 8) (pa_cons (pe_op op_add (pv 4) (pv 9)) pa_nil))))
 (pss_cons (ps_set (i := 11) sc_send.nd rfl (Or.inl rfl) (pe_callB (cr_min rfl) (by rfl) B.min_ (by decide +kernel) (pa_cons (pe_op op_cat (pe_lst (pa_cons (pe_ix ix_list (pv 2) (pe_ix ix_list (pv 10) pe_int (fun _ _ => rfl)) (fun _ _ => rfl)) (pa_cons (pe_ix ix_list (pv 3) (pv 9) (fun _ _ => rfl)) pa_nil))) (pe_lc (own := [("i", 6), ("j", 12)]) (tt := tYes) rfl sc_send.nd (pi_list (pe_c0 c_lowered hr (by decide) rfl (pa_cons (pv 10) (pa_cons (pv 4) pa_nil)))) (blkOk_by (own := [("i", 6), ("j", 12)]) (N := ["costs", "plan", "left", "wanted", "n", "begins", "i", "lengths", "parents", "goal", "path", "amount", "j"]) (by kernel_rfl))
 (fun _ _ _ _ _ => (pgT (K := K) (n := 2) rfl (pgs_cons (pg_name (i := 6) sc_send.nd rfl (Or.inl rfl)) (pgs_cons (pg_name (i := 12) sc_send.nd rfl (Or.inl rfl)) pgs_nil)))) (fun _ _ _ _ _ => pts_nil) (fun _ _ _ _ _ => (pe_ix (ixL (K := K)) (pe_ix (ixL (K := K)) (pv 1) (pv 6) (fun _ _ => rfl)) (pv 12) (fun _ _ => rfl))))) pa_nil)))
 (pss_cons (ps_expr (pe_c0 c_change hr (by decide) rfl (pa_cons (pv 1) (pa_cons (pv 10) (pa_cons (pv 11) pa_nil)))))
 (pss_cons (ps_augS (pv 2) (pe_ix ix_list (pv 10) pe_int (fun _ _ => rfl)) get_list (pv 11) ip_sub set_list)
 (pss_one (ps_augS (pv 3) (pv 9) get_list (pv 11) ip_sub set_list))))))))))
   , ?_⟩)) hm F.kp (F.binds fun _ _ _ _ _ _ us hl => match us, hl with | [_, _, _, _], _ => rfl)
  · obtain ⟨a, b, l, w, n, rs, c, p, L, W, rfl, _⟩ := h
    rfl
  · obtain ⟨a, b, l, w, n, rs, c, p, L, W, rfl, hC, hM, hl, hw, nlw, nlr, nwr, nlb, nwb, hn, hex, hT, hch, k⟩ := h
    obtain ⟨rs0, l1, l2⟩ := (hM.mx (K := K)).len
    refine ⟨_, rfl, b, _, rfl, .inl l1, ?_⟩
    rw [l2]
    refine ⟨_, rfl, _, rfl, by omega, by omega, fun D new => ?_⟩
    refine lc_range0 (n := n) (fun i H' => GrowV H D (natsV (posL i L)) H') (GrowV.start new) (fun i H' hi hv => ?_) fun H1 hv => ?_
    · have sw : SqL K H' l (rowI n L) := SqL.of (hv.2 _ _ hl)
      have m1 := row_at (g := L) hi
      walk_at "rd"
      refine ite2 (fun d => ?_) (fun d => ?_)
      · have d := of_decide_eq_true d
        obtain ⟨acc, r1, r2, r3⟩ := hv.app (y := V.int (i : Int)) new (by
          have := posL_len i L
          rw [List.length_map, List.length_map]
          omega)
        refine ⟨_, rfl, acc, r1, r2, ?_⟩
        rw [posL_succ, if_pos d]
        unfold natsV
        rw [List.map_append, List.map_append]
        exact r3
      · have d : ¬ 0 < L i := fun z => d (decide_eq_true z)
        rw [posL_succ, if_neg d, List.append_nil]
        exact hv
    obtain ⟨eD, s1⟩ := hv
    refine ⟨_, rfl, _, rfl, a, b, n, c, p, rfl, hC.same s1, hM.mx.same s1, hn, fun H2 La s2 newA hA => ?_⟩
    obtain ⟨arcs, harcs⟩ : ∃ arcs, arcs = gridOf (resArcs n c p) n n 0 := ⟨_, rfl⟩
    have hlt : ∀ y ∈ gridOf (resArcs n c p) n n 0, y.1 < 2 * n ∧ y.2.1 < 2 * n := fun y hy => by
      obtain ⟨i, j, hi, hj, hm⟩ := gridOf_mem hy
      unfold resArcs at hm
      rcases List.mem_cons.mp hm with e | hm
      · rw [e]
        dsimp only
        omega
      · split at hm
        · rw [List.mem_singleton.mp hm]
          dsimp only
          omega
        · simp at hm
    have hal : (gridOf (resArcs n c p) n n 0).length ≤ 1000 := by
      have := gridOf_len (n := n) (resArcs_len n c p) n 0
      have h1 : n * (n * 2) ≤ 20 * (20 * 2) := Nat.mul_le_mul (by omega) (by omega)
      omega
    have hpl : (posL n L).length ≤ 100 := Nat.le_trans (posL_len n L) (by omega)
    have s12 := s1.trans s2
    refine ⟨_, rfl, 2, n, rfl, rfl, mul_small (by decide) (by omega), _, rfl, La, D, gridOf (resArcs n c p) n n 0, 2 * n, posL n L, by rw [Int.natCast_mul]; rfl, hA, SqL.of (s2 _ _ eD), hlt, fun x hx => by have := (posL_mem.mp hx).1; omega, by omega, hpl, hal,
      fun H3 t ln pr s3 newln newpr nlp ht hln hpr => ?_⟩
    have s13 := s12.trans s3
    refine ⟨t, _, rfl, ht, rfl, ?_⟩
    refine ⟨_, _, rfl, _, _, rfl, rfl, ?_⟩
    refine ⟨_, rfl, _, rfl, ln, w, n, (found n c p L).1, W, rfl, SqL.of hln, SqL.of (s13 _ _ hw), hn, hex, hT.ext s13, fun H4 j eN T4 hj hWj near => ?_⟩
    obtain ⟨i, ch, way⟩ := hch j hj hWj near
    have e4 : ∀ b u, H b = some u → (∀ ps, u ≠ .tbl ps) → H4 b = some u := fun b u e q => eN b u (s13 _ _ e) q
    refine ⟨_, rfl, _, rfl, _, rfl, n, j, rfl, rfl, pr, 2 * n, n + j, (found n c p L).2, ch, by rw [Int.natCast_add]; rfl, SqL.of (eN _ _ hpr fun ps z => by cases z), way.chain, way.head, way.len, fun H5 pa s5 newpa hpa => ?_⟩
    have e5 : ∀ b u, H b = some u → (∀ ps, u ≠ .tbl ps) → H5 b = some u := fun b u e q => s5 _ _ (e4 b u e q)
    have nl4 : ∀ b xs, H b = some (.lst xs) → H4 b = some (.lst xs) := fun b xs e => e4 b _ e fun ps z => by cases z
    have nl5 : ∀ b xs, H b = some (.lst xs) → H5 b = some (.lst xs) := fun b xs e => e5 b _ e fun ps z => by cases z
    have hM5 : MxR H5 b rs n p := ⟨nl5 _ _ hM.top, hM.len, hM.nd, hM.na, fun i r e => nl5 _ _ (hM.row i r e)⟩
    have sl5 : SqL K H5 l (rowI n L) := SqL.of (nl5 _ _ hl)
    have sw5 : SqL K H5 w (rowI n W) := SqL.of (nl5 _ _ hw)
    have sp5 : SqL K H5 pa ((ch.reverse.map Int.ofNat).map V.int) := SqL.of hpa
    have m0 : atI ((ch.reverse.map Int.ofNat).map V.int) 0 = some (.int (i : Int)) := by
      have e : ch.reverse[0]? = some i := by
        rw [← List.head?_eq_getElem?, List.head?_reverse]
        exact way.last
      exact at_of (j := 0) rfl (by rw [List.getElem?_map, List.getElem?_map, e]; rfl)
    have m1 := row_at (g := L) way.lt
    have m2 := row_at (g := W) hj
    walk_at "rd"
    refine ⟨by show 2 ≤ sizeLine; decide, fun p2 newp2 => ?_⟩
    have s6 : Same H5 (upd H5 p2 (.lst [.int (L i), .int (W j)])) := same_upd newp2
    have e6 : upd H5 p2 (.lst [.int (L i), .int (W j)]) p2 = some (.lst [.int (L i), .int (W j)]) := upd_same
    generalize upd H5 p2 (.lst [.int (L i), .int (W j)]) = H6 at s6 e6
    have hlr : ch.reverse.length ≤ 100 := by
      rw [List.length_reverse]
      exact way.len
    refine ⟨_, rfl, _, rfl, pa, n, ch.reverse, rfl, s6.seq sp5, way.bip, hlr, fun H7 Lo s7 newLo hLo => ?_⟩
    obtain ⟨ts, t1, t2⟩ := hLo
    have hlt2 : ts.length = (lowrL n (EH.steps ch.reverse)).length := Paired.length t2
    have hll : (lowrL n (EH.steps ch.reverse)).length ≤ 100 := by
      have := List.length_filterMap_le (fun a : Nat × Nat => if n ≤ a.1 then some (a.2, a.1 - n) else none) (EH.steps ch.reverse)
      rw [steps_len] at this
      unfold lowrL
      omega
    have s57 := s6.trans s7
    refine ⟨Lo, rfl, ⟨_, SqL.of t1⟩, fun D2 newD2 => ?_⟩
    refine lc_list (K := K) (a := Lo) (xs := ts.map V.ref) (Vals_ H7 D2 (((lowrL n (EH.steps ch.reverse)).map fun y => p y.1 y.2).map V.int)) (Vals_.start newD2) (fun i H' _ e => e.2.seq (SqL.of t1)) ?_ ?_
    · rintro k' y H' hi hv
      obtain ⟨t', ht', rfl⟩ := map_get hi
      obtain ⟨⟨x, y⟩, ex, hfx⟩ := ListOf.nth t2 ht'
      obtain ⟨hx, hy⟩ := lowrL_lt way.bip (List.mem_of_getElem? ex)
      dsimp only at hx hy
      have hfx' : SqT K H' t' [.int (x : Int), .int (y : Int)] := same_sqT hv.2 hfx
      obtain ⟨qs, q1, qg1⟩ := (((hM5.mx (K := K)).same s57).same hv.2).all
      obtain ⟨r, q2, q3⟩ := qg1 x hx
      have q4 := row_at (g := p x) hy
      obtain ⟨acc, r1, r2, r3⟩ := hv.next (Same.refl _) (show _ = some (V.int (p x y)) by rw [List.getElem?_map, List.getElem?_map, ex]; rfl) newD2 (by
        rw [List.length_map, List.length_map]
        omega)
      refine ⟨t', _, rfl, hfx', rfl, ?_⟩
      walk_at "rd"
      exact r3
    intro H8 hv
    obtain ⟨s8, h8⟩ := hv.done (by rw [List.length_map, List.length_map, List.length_map, hlt2])
    have s58 := s57.trans s8
    refine ⟨p2, D2, _, _, rfl, rfl, (s7.trans s8) _ _ e6, h8, by
      rw [List.length_map, List.length_map]
      show 2 + _ ≤ sizeLine
      exact Nat.le_of_lt (small1000 (by omega)), fun p3 newp3 => ?_⟩
    have s9 : Same H8 (upd H8 p3 (.lst ([V.int (L i), .int (W j)] ++ ((lowrL n (EH.steps ch.reverse)).map fun y => p y.1 y.2).map V.int))) := same_upd newp3
    have e9 : upd H8 p3 (.lst ([V.int (L i), .int (W j)] ++ ((lowrL n (EH.steps ch.reverse)).map fun y => p y.1 y.2).map V.int)) p3 = some (.lst ((L i :: W j :: (lowrL n (EH.steps ch.reverse)).map fun y => p y.1 y.2).map V.int)) := upd_same
    generalize upd H8 p3 (.lst ([V.int (L i), .int (W j)] ++ ((lowrL n (EH.steps ch.reverse)).map fun y => p y.1 y.2).map V.int)) = H9 at s9 e9
    have s59 := s58.trans s9
    refine ⟨p3, L i :: W j :: (lowrL n (EH.steps ch.reverse)).map fun y => p y.1 y.2, rfl, SqL.of e9, by simp, fun v hv1 hv2 => ?_⟩
    have hleast : Least n p L W i j ch v := by
      refine ⟨hv2 _ List.mem_cons_self, hv2 _ (List.mem_cons_of_mem _ List.mem_cons_self), fun y hy => hv2 _ (List.mem_cons_of_mem _ (List.mem_cons_of_mem _ (List.mem_map.mpr ⟨y, hy, rfl⟩))), ?_⟩
      rcases List.mem_cons.mp hv1 with z | z
      · exact .inl z
      rcases List.mem_cons.mp z with z | z
      · exact .inr (.inl z)
      obtain ⟨y, hy, e⟩ := List.mem_map.mp z
      exact .inr (.inr ⟨y, hy, e.symm⟩)
    have nl9 : ∀ b xs, H b = some (.lst xs) → H9 b = some (.lst xs) := fun b xs e => s59 _ _ (nl5 b xs e)
    have hM9 : MxR H9 b rs n p := hM5.same s59
    have npa : pa ∉ rs := fun z => by
      obtain ⟨i', e⟩ := List.getElem?_of_mem z
      have := nl4 _ _ (hM.row i' pa e)
      rw [newpa] at this
      cases this
    refine ⟨_, rfl, _, rfl, _, rfl, b, pa, v, n, rs, p, ch.reverse, rfl, hM9, hn, s59 _ _ hpa, npa, way.bip, hlr, fun H10 off hM10 => ?_⟩
    have npl : pa ≠ l := fun z => by
      have := nl4 _ _ hl
      rw [← z, newpa] at this
      cases this
    have npw : pa ≠ w := fun z => by
      have := nl4 _ _ hw
      rw [← z, newpa] at this
      cases this
    have hl10 : H10 l = some (.lst (rowI n L)) := off _ _ (nl9 _ _ hl) nlr
    have hw10 : H10 w = some (.lst (rowI n W)) := off _ _ (nl9 _ _ hw) nwr
    have hp10 : H10 pa = some (.lst ((ch.reverse.map Int.ofNat).map V.int)) := off _ _ (s59 _ _ hpa) npa
    have sl10 : SqL K H10 l (rowI n L) := SqL.of hl10
    have sp10 : SqL K H10 pa ((ch.reverse.map Int.ofNat).map V.int) := SqL.of hp10
    have i1 : ixN (rowI n L).length (i : Int) = some i := ixN_row way.lt
    have i2 : ixN (rowI n W).length (j : Int) = some j := ixN_row hj
    have hw11 : upd H10 l (.lst ((rowI n L).set i (.int (L i - v)))) w = some (.lst (rowI n W)) := by
      rw [upd_ne (Ne.symm nlw)]
      exact hw10
    have sw11 : SqL K (upd H10 l (.lst ((rowI n L).set i (.int (L i - v))))) w (rowI n W) := SqL.of hw11
    walk_at "rd"
    refine k _ i j ch v hj hWj way hleast ⟨fun b' u e nD hu => ?_, ?_⟩ ((hM10.off (qs := [l]) (Off.upd (List.mem_singleton.mpr rfl)) (fun z => nlb (List.mem_singleton.mp z).symm) fun r hr' z => nlr (by rw [← List.mem_singleton.mp z]; exact hr')).off (qs := [w]) (Off.upd (List.mem_singleton.mpr rfl)) (fun z => nwb (List.mem_singleton.mp z).symm) fun r hr' z => nwr (by rw [← List.mem_singleton.mp z]; exact hr')) ?_ ?_
    · have n1 : b' ≠ l := fun z => nD (by rw [z]; exact List.mem_cons_self)
      have n2 : b' ≠ w := fun z => nD (by rw [z]; exact List.mem_cons_of_mem _ List.mem_cons_self)
      have n3 : b' ∉ rs := fun z => nD (List.mem_cons_of_mem _ (List.mem_cons_of_mem _ z))
      rw [upd_ne n2, upd_ne n1]
      exact off _ _ (s59 _ _ (e5 _ _ e hu)) n3
    · have T5 := T4.ext s5
      have T9 := T5.ext s59
      have o12 : Off (l :: w :: rs) H9 (upd (upd H10 l (.lst ((rowI n L).set i (.int (L i - v))))) w (.lst ((rowI n W).set j (.int (W j - v))))) := fun b' u e nD => by
        have n1 : b' ≠ l := fun z => nD (by rw [z]; exact List.mem_cons_self)
        have n2 : b' ≠ w := fun z => nD (by rw [z]; exact List.mem_cons_of_mem _ List.mem_cons_self)
        have n3 : b' ∉ rs := fun z => nD (List.mem_cons_of_mem _ (List.mem_cons_of_mem _ z))
        rw [upd_ne n2, upd_ne n1]
        exact off _ _ e n3
      refine tabs_off T9 o12 fun r hr' => ?_
      rcases List.mem_cons.mp hr' with z | hr'
      · exact ⟨_, by rw [z]; exact nl9 _ _ hl⟩
      rcases List.mem_cons.mp hr' with z | hr'
      · exact ⟨_, by rw [z]; exact nl9 _ _ hw⟩
      obtain ⟨i', e⟩ := List.getElem?_of_mem hr'
      exact ⟨_, hM9.row i' r e⟩
    · rw [upd_ne nlw, upd_same, row_set]
      congr 3
      refine funext fun x => ?_
      unfold less
      by_cases c : x = i
      · rw [if_pos c, if_pos c, c]
      · rw [if_neg c, if_neg c]
    · rw [upd_same, row_set]
      congr 3
      refine funext fun x => ?_
      unfold less
      by_cases c : x = j
      · rw [if_pos c, if_pos c, c]
      · rw [if_neg c, if_neg c]
theorem df_cheapest_plan {f : Addr} {fd : FuncData} (hm : mg "cheapest_plan" = some (.ref f)) (F : Fun K "cheapest_plan" "cheapest_plan" s_cheapest_plan f fd) (c_empty_plan : Df P w K mg base CX0 1 "empty_plan" spEmpty) (c_send : Df P w K mg base CX0 4 "send" (spSend K P0)) :
    Df P w K mg base CX0 5 "cheapest_plan" (spCheapest K P0) := by
  refine df_of (F.ok sc_cheapest_plan (fun vs H Q E h => ?_) (fun cdv A outer s H vs Q E hr h => ⟨_,
(pss_cons (ps_set (i := 3) sc_cheapest_plan.nd rfl (Or.inl rfl) (pe_c0 c_empty_plan hr (by decide) rfl (pa_cons (pe_callB call_len_seq (by rfl) B.len_ (by decide +kernel) (pa_cons (pv 0) pa_nil)) pa_nil)))
 (pss_cons (ps_set (i := 4) sc_cheapest_plan.nd rfl (Or.inl rfl) (pe_callTy (T := "list") call_list_of (by rfl) B.list_ (by decide +kernel) (pa_cons (pv 1) pa_nil)))
 (pss_cons (ps_set (i := 5) sc_cheapest_plan.nd rfl (Or.inl rfl) (pe_callTy (T := "list") call_list_of (by rfl) B.list_ (by decide +kernel) (pa_cons (pv 2) pa_nil)))
 (pss_cons (ps_while PassesOwn.never (pt_cmpR op_gt (pe_callB (cr_sum rfl) (by rfl) B.sum_ (by decide +kernel) (pa_cons (pv 4) pa_nil)) pe_int (nomark _)) (pss_one (ps_expr (pe_c0 c_send hr (by decide) rfl (pa_cons (pv 0) (pa_cons (pv 3) (pa_cons (pv 4) (pa_cons (pv 5) pa_nil))))))))
 (pss_one (ps_ret (pv 3)))))))
   , ?_⟩)) hm F.kp (F.binds fun _ _ _ _ _ _ us hl => match us, hl with | [_, _, _], _ => rfl)
  · obtain ⟨a, s, d, n, c, L, W, J, rfl, _⟩ := h
    rfl
  · obtain ⟨a, s, d, n, c, L, W, J, rfl, hC, hL, hW, hn, hT, hR, hJ, k⟩ := h
    obtain ⟨rs0, l1, l2⟩ := hC.len
    refine ⟨_, rfl, a, _, rfl, .inl l1, ?_⟩
    rw [l2]
    refine ⟨n, rfl, by omega, fun H1 b rs s1 newb newr hM => ?_⟩
    refine ⟨_, rfl, s, _, rfl, .inl (s1.seq hL), fun l newl => ?_⟩
    have s2 := same_upd (o := .lst (rowI n L)) newl
    have e2 : upd H1 l (.lst (rowI n L)) l = some (.lst (rowI n L)) := upd_same
    generalize upd H1 l (.lst (rowI n L)) = H2 at s2 e2
    refine ⟨_, rfl, d, _, rfl, .inl ((s1.trans s2).seq hW), fun w neww => ?_⟩
    have s3 := same_upd (o := .lst (rowI n W)) neww
    have e3 : upd H2 w (.lst (rowI n W)) w = some (.lst (rowI n W)) := upd_same
    generalize upd H2 w (.lst (rowI n W)) = H3 at s3 e3
    have nlw : l ≠ w := ne_of_none e2 neww
    have nlb : l ≠ b := fun z => by
      rw [z, hM.top] at newl
      cases newl
    have nwb : w ≠ b := fun z => by
      have := s2 _ _ hM.top
      rw [← z, neww] at this
      cases this
    have nlr : l ∉ rs := fun z => by
      obtain ⟨i, e⟩ := List.getElem?_of_mem z
      have := hM.row i _ e
      rw [newl] at this
      cases this
    have nwr : w ∉ rs := fun z => by
      obtain ⟨i, e⟩ := List.getElem?_of_mem z
      have := s2 _ _ (hM.row i _ e)
      rw [neww] at this
      cases this
    have s13 := (s1.trans s2).trans s3
    have hl0 : H l = none := s1.free newl
    have hw0 : H w = none := (s1.trans s2).free neww
    refine while_by (fun σ H' => σ = [some (.ref a), some (.ref s), some (.ref d), some (.ref b), some (.ref l), some (.ref w)] ∧ ∃ p L' W', J p L' W' ∧ LamX.ExtN H H' ∧ LamX.Tabs (TN P0) H' ∧ MxR H' b rs n p ∧ H' l = some (.lst (rowI n L')) ∧ H' w = some (.lst (rowI n W')))
      (fun _ H' => match H' l with | some (.lst xs) => (sumV xs).toNat | _ => 0) ⟨rfl, _, L, W, hJ, LamX.ExtN.of s13, hT.ext s13, hM.same (s2.trans s3), s3 _ _ e2, e3⟩ ?_ ?_
    · rintro σ H' ⟨rfl, p, L', W', hJ', eN, T', hM', hl', hw'⟩
      have sl' : SqL K H' l (((List.range n).map L').map V.int) := SqL.of hl'
      refine ⟨_, rfl, l, _, rfl, sl', _, _, rfl, rfl, _, rfl, ?_⟩
      rw [EH.sum_range]
      have hmu : (match H' l with | some (.lst xs) => (sumV xs).toNat | _ => 0) = (EH.S n L').toNat := by
        rw [hl']
        show (sumV (rowI n L')).toNat = _
        rw [sumV_row]
      refine ite2 (fun c1 => ?_) (fun c1 => ?_)
      · have c1 := of_decide_eq_true c1
        have hC' : Mx K H' a n c := hC.extN eN
        refine ⟨_, rfl, _, rfl, _, rfl, _, rfl, a, b, l, w, n, rs, c, p, L', W', rfl, hC', hM', hl', hw', nlw, nlr, nwr, nlb, nwb, hn, hR.some_ p L' W' hJ' c1, T', hR.way p L' W' hJ' c1, fun H4 i j ch v hj hWj way least kp hM4 hl4 hw4 => ?_⟩
        obtain ⟨hJ4, hv⟩ := hR.step p L' W' hJ' c1 i j ch v hj hWj way least
        have hin : i < n := way.lt
        have hlt : EH.S n (less L' i v) = EH.S n L' - v := by
          rw [S_less, if_pos hin]
        have new0 : ∀ x ∈ l :: w :: rs, H x = none := fun x hx => by
          rcases List.mem_cons.mp hx with z | hx
          · rw [z]
            exact hl0
          rcases List.mem_cons.mp hx with z | hx
          · rw [z]
            exact hw0
          exact newr x hx
        refine ⟨⟨rfl, _, _, _, hJ4, fun x u e q => kp.ext x u (eN _ _ e q) (fun z => ?_) q, kp.tab, hM4, hl4, hw4⟩, ?_⟩
        · rw [new0 x z] at e
          cases e
        · rw [hmu]
          show (match H4 l with | some (.lst xs) => (sumV xs).toNat | _ => 0) < _
          rw [hl4]
          show (sumV (rowI n (less L' i v))).toNat < _
          rw [sumV_row, hlt]
          omega
      · have c1 : ¬ 0 < EH.S n L' := fun z => c1 (decide_eq_true z)
        exact ⟨_, rfl, k H' b p L' W' eN T' newb hM'.mx hJ' (by omega)⟩
    · rintro σ H' Q Q' i ⟨x1, e1, a1, ns, f1, f2, i1, j1, g1, g2, k1, k2, q⟩
      exact ⟨x1, e1, a1, ns, f1, f2, i1, j1, g1, g2, k1, k2, i _ _ q⟩
end
end EW
end

/-! ## EwGreat -/
section
set_option Elab.async false
set_option linter.all false
set_option maxRecDepth 100000
set_option maxHeartbeats 2000000
set_option autoImplicit false
namespace EW
open PySem PySem.Spec PyProof.Rows L2
open Sr58 (Frac)
local macro_rules | `(tactic| walk_at "rd") => `(tactic| repeat (first | refine ⟨rfl, ?_⟩ | apply Exists.intro | refine ⟨by assumption, ?_⟩))
abbrev s_tight_entries : Stmt := top 46
theorem sc_tight_entries : FnScope ["costs", "potentials", "n", "j", "i"] ["costs", "potentials"] (defScope s_tight_entries) := ⟨rfl, rfl, rfl, by decide +kernel, rfl, by decide +kernel, by decide +kernel⟩
abbrev s_next_nodes : Stmt := top 47
theorem sc_next_nodes : FnScope ["tight", "plan", "at", "node", "n", "j", "i"] ["tight", "plan", "at", "node"] (defScope s_next_nodes) := ⟨rfl, rfl, rfl, by decide +kernel, rfl, by decide +kernel, by decide +kernel⟩
abbrev s_parents_from : Stmt := top 48
theorem sc_parents_from : FnScope ["tight", "plan", "at", "begin", "parents", "nodes", "at_node", "node"] ["tight", "plan", "at", "begin"] (defScope s_parents_from) := ⟨rfl, rfl, rfl, by decide +kernel, rfl, by decide +kernel, by decide +kernel⟩
abbrev s_way_back : Stmt := top 49
theorem sc_way_back : FnScope ["tight", "plan", "at", "n", "parents", "path"] ["tight", "plan", "at"] (defScope s_way_back) := ⟨rfl, rfl, rfl, by decide +kernel, rfl, by decide +kernel, by decide +kernel⟩
abbrev rowB (n : Nat) (g : Nat → Bool) : List V := ((List.range n).map g).map V.bl
theorem rowB_get {n j : Nat} {g : Nat → Bool} (h : j < n) : (rowB n g)[j]? = some (.bl (g j)) := by
  unfold rowB
  rw [List.map_map, range_get h]
  rfl
theorem rowB_at {n j : Nat} {g : Nat → Bool} (h : j < n) : atI (rowB n g) (j : Int) = some (.bl (g j)) := at_of rfl (rowB_get h)
theorem rowB_len (n : Nat) (g : Nat → Bool) : (rowB n g).length = n := by simp [rowB]
/-- a matrix of truths that is read -/
structure MxB (K : PySem.W.Frag) (H : Hp) (a : Addr) (n : Nat) (f : Nat → Nat → Bool) : Prop where
  ex : ∃ rs : List Addr, H a = some (.lst (rs.map V.ref)) ∧ rs.length = n ∧ ∀ i r, rs[i]? = some r → SqL K H r (rowB n (f i))
theorem MxB.same {K : PySem.W.Frag} {H H' : Hp} {a : Addr} {n : Nat} {f : Nat → Nat → Bool} (s : Same H H') (h : MxB K H a n f) : MxB K H' a n f := by
  obtain ⟨rs, h1, h2, h3⟩ := h.ex
  exact ⟨rs, s _ _ h1, h2, fun i r e => s.seq (h3 i r e)⟩
theorem MxB.all {K : PySem.W.Frag} {H : Hp} {a : Addr} {n : Nat} {f : Nat → Nat → Bool} (h : MxB K H a n f) : ∃ rs : List Addr, SqL K H a (rs.map V.ref) ∧ ∀ i, i < n → ∃ r, atI (rs.map V.ref) (i : Int) = some (.ref r) ∧ SqL K H r (rowB n (f i)) := by
  obtain ⟨rs, h1, h2, h3⟩ := h.ex
  refine ⟨rs, SqL.of h1, fun i hi => ?_⟩
  obtain ⟨r, e⟩ : ∃ r, rs[i]? = some r := ⟨_, List.getElem?_eq_getElem (by omega)⟩
  refine ⟨r, at_of rfl ?_, h3 i r e⟩
  rw [List.getElem?_map, e]
  rfl
/-- the k-th thing is a list of plain values -/
def lstF (g : Nat → List V) : Nat → Hp → Addr → Prop := fun k H p => H p = some (.lst (g k))
theorem lstF_kept (g : Nat → List V) : ∀ k, ∀ H H' p, Same H H' → lstF g k H p → lstF g k H' p := fun k H H' p s h => s _ _ h
theorem lstF_framed (g : Nat → List V) : ∀ k H (D p : Addr) xs ys, lstF g k H p → H D = some (.lst xs) → p ≠ D → lstF g k (upd H D (.lst ys)) p := fun k H D p xs ys h _ hp => by
  show upd H D (.lst ys) p = _
  rw [upd_ne hp]
  exact h
def spTight (K : PySem.W.Frag) : Sp := fun vs H Q _ => ∃ (a b : Addr) (n : Nat) (c : Nat → Nat → Int) (u : Nat → Int), vs = [.ref a, .ref b] ∧ Mx K H a n c ∧ SqL K H b (rowI n u) ∧ n ≤ 20 ∧
  ∀ (H' : Hp) (p : Addr), Same H H' → H p = none → MxB K H' p n (fun i j => decide (u j - u i = c i j)) → Q (.ref p) H'
def spNext (K : PySem.W.Frag) : Sp := fun vs H Q _ => ∃ (a b : Addr) (n at_ x : Nat) (T : Nat → Nat → Bool) (p : Nat → Nat → Int), vs = [.ref a, .ref b, .int (at_ : Int), .int (x : Int)] ∧ MxB K H a n T ∧ Mx K H b n p ∧ n ≤ 20 ∧ x < 2 * n ∧ HandsN IntsL H Q ((nxt n T p at_ x).map Int.ofNat)
theorem filter_succ (f : Nat → Bool) (n : Nat) : (List.range (n + 1)).filter f = (List.range n).filter f ++ if f n = true then [n] else [] := by
  rw [List.range_succ, List.filter_append]
  congr 1
  by_cases c : f n = true
  · rw [if_pos c, List.filter_cons_of_pos c]
    rfl
  · rw [if_neg c, List.filter_cons_of_neg c]
    rfl
theorem int_eq (x y : Int) : decide (V.int x = V.int y) = decide (x = y) := by
  by_cases c : x = y
  · rw [decide_eq_true c, decide_eq_true (by rw [c])]
  · rw [decide_eq_false c, decide_eq_false (fun z => c (by injection z))]
/-- a dict from nodes to the nodes before them -/
def DA (H : Hp) (d : Addr) (m : Nat) (par : Nat → Option Int) : Prop := ∃ kvs : List (Key × V), H d = some (.dK kvs) ∧ kvs.length ≤ m ∧ ∀ x : Nat, valV kvs (.inl (x : Int)) = (par x).map V.int
theorem DA.get {H : Hp} {d : Addr} {m : Nat} {par : Nat → Option Int} (h : DA H d m par) (x : Nat) : DGet H d (.int (x : Int)) ((par x).map V.int) := by
  obtain ⟨kvs, h1, h2, h3⟩ := h
  rw [← h3]
  exact DGet.k (k := .inl (x : Int)) h1
theorem DA.put {H : Hp} {d : Addr} {m : Nat} {par : Nat → Option Int} (h : DA H d m par) (hm : m ≤ 999) (x : Nat) (v : Int) : ∃ kvs, DPut H d (.int (x : Int)) (.int v) (upd H d (.dK kvs)) ∧ ∀ (H2 : Hp), H2 d = some (.dK kvs) → DA H2 d (m + 1) fun y => if y = x then some v else par y := by
  obtain ⟨kvs, h1, h2, h3⟩ := h
  refine ⟨putK kvs (.inl (x : Int)) (.int v), DPut.k (k := .inl (x : Int)) h1 (small1000 (by omega)), fun H2 e => ⟨_, e, ?_, fun y => ?_⟩⟩
  · have := length_putK kvs (.inl (x : Int)) (.int v)
    omega
  · rw [valV_put]
    by_cases c : y = x
    · subst c
      rw [if_pos rfl]
      show some (V.int v) = Option.map V.int (if y = y then some v else par y)
      rw [if_pos rfl]
      rfl
    · rw [if_neg (fun z : (Sum.inl (y : Int) : Key) = .inl (x : Int) => c (by injection z with z; omega))]
      show _ = Option.map V.int (if y = x then some v else par y)
      rw [if_neg c]
      exact h3 y
def spParents (K : PySem.W.Frag) : Sp := fun vs H Q _ => ∃ (a b : Addr) (n at_ x : Nat) (T : Nat → Nat → Bool) (p : Nat → Nat → Int), vs = [.ref a, .ref b, .int (at_ : Int), .int (x : Int)] ∧ MxB K H a n T ∧ Mx K H b n p ∧ n ≤ 20 ∧ x < 2 * n ∧
  ∀ (H' : Hp) (d : Addr) (ns : List Nat) (par : Nat → Option Int), Same H H' → H d = none → DA H' d 100 par → EH.Bfs (nxt n T p at_) x ns par → EH.Told (nxt n T p at_) ns ns.length → ns.length ≤ 2 * n → Q (.ref d) H'
/-- what the search's loop keeps: d the dict, l the list of the nodes -/
structure Srch (n : Nat) (nx : Nat → List Nat) (x : Nat) (H : Hp) (d l : Addr) (ns : List Nat) (par : Nat → Option Int) (H' : Hp) : Prop where
  same : Same H H'
  dct : DA H' d ns.length par
  lst : H' l = some (.lst (natsV ns))
  bfs : EH.Bfs nx x ns par
  lt : ∀ v ∈ ns, v < 2 * n
def spWayBack (K : PySem.W.Frag) : Sp := fun vs H Q _ => ∃ (a b : Addr) (n at_ : Nat) (T : Nat → Nat → Bool) (p : Nat → Nat → Int), vs = [.ref a, .ref b, .int (at_ : Int)] ∧ MxB K H a n T ∧ Mx K H b n p ∧ n ≤ 20 ∧ 0 < n ∧ at_ < n * n ∧
  ∀ (H' : Hp) (r : Addr) (c : List Nat), Same H H' → H r = none → IntsL H' r (c.map Int.ofNat) → WayB (nxt n T p at_) (n + at_ % n) (at_ / n) c → Q (.ref r) H'
section
variable {P : Program} {w : World} {K : PySem.W.Frag} {mg : Str → Option Value} {base : Heap} (B : Nb mg) {A0 : Ad} (G : Gs K mg A0)
include B G
theorem df_tight {f : Addr} {fd : FuncData} (hm : mg "tight_entries" = some (.ref f)) (F : Fun K "tight_entries" "tight_entries" s_tight_entries f fd) : Df P w K mg base CX0 1 "tight_entries" (spTight K) := by
  refine df_of (F.ok sc_tight_entries (fun vs H Q E h => ?_) (fun cdv A outer s H vs Q E hr h => ⟨_,
(pss_cons (ps_set (i := 2) sc_tight_entries.nd rfl (Or.inr rfl) (pe_callB call_len_seq (by rfl) B.len_ (by decide +kernel) (pa_cons (pv 0) pa_nil)))
 (pss_one (ps_ret (pe_lc (own := [("i", 4)]) (g := gName 4) (tt := tYes) rfl sc_tight_entries.nd (pi_range1 rfl B.range_ (pa_cons (pv 2) pa_nil)) (blkOk_by (own := [("i", 4)]) (N := ["costs", "potentials", "n", "j", "i"]) (by kernel_rfl))
 (fun _ _ _ _ _ => (pg_name (i := 4) sc_tight_entries.nd rfl (Or.inr rfl))) (fun _ _ _ _ _ => pts_nil) (fun _ _ _ _ _ => (pe_lc (own := [("j", 3)]) (g := gName 3) (tt := tYes) rfl sc_tight_entries.nd (pi_range1 rfl B.range_ (pa_cons (pv 2) pa_nil)) (blkOk_by (own := [("j", 3)]) (N := ["costs", "potentials", "n", "j", "i"]) (by kernel_rfl))
 (fun _ _ _ _ _ => (pg_name (i := 3) sc_tight_entries.nd rfl (Or.inl rfl))) (fun _ _ _ _ _ => pts_nil) (fun _ _ _ _ _ => (pe_cmpR op_eq (pe_op op_sub (pe_ix (ixL (K := K)) (pv 1) (pv 3) (fun _ _ => rfl)) (pe_ix (ixL (K := K)) (pv 1) (pv 4) (fun _ _ => rfl))) (pe_ix (ixL (K := K)) (pe_ix (ixL (K := K)) (pv 0) (pv 4) (fun _ _ => rfl)) (pv 3) (fun _ _ => rfl)) (nomark _)))))))))
   , ?_⟩)) hm F.kp (F.binds fun _ _ _ _ _ _ us hl => match us, hl with | [_, _], _ => rfl)
  · obtain ⟨a, b, n, c, u, rfl, _⟩ := h
    rfl
  · obtain ⟨a, b, n, c, u, rfl, hC, hU, hn, k⟩ := h
    obtain ⟨rs0, l1, l2⟩ := hC.len
    refine ⟨_, rfl, a, _, rfl, .inl l1, ?_⟩
    rw [l2]
    refine ⟨_, rfl, _, rfl, by omega, by omega, fun D new => ?_⟩
    refine lc_range0 (n := n) (MadeR (lstF fun k => rowB n fun j => decide (u j - u k = c k j)) H D) (MadeR.start new) (fun i H1 hi hv => ?_) fun H1 hv => ?_
    · have s1 : Same H H1 := hv.choose_spec.2.1
      refine ⟨rfl, tY ?_⟩
      refine ⟨_, rfl, _, rfl, by omega, by omega, fun D2 new2 => ?_⟩
      refine lc_range0 (n := n) (Vals_ H1 D2 (rowB n fun j => decide (u j - u i = c i j))) (Vals_.start new2) (fun j H2 hj hv2 => ?_) fun H2 hv2 => ?_
      · have sU : SqL K H2 b (rowI n u) := hv2.2.seq (s1.seq hU)
        obtain ⟨rs, m1, mg1⟩ := ((hC.same s1).same hv2.2).all
        obtain ⟨r, m2, m3⟩ := mg1 i hi
        have m4 := row_at (g := c i) hj
        have u1 := row_at (g := u) hj
        have u2 := row_at (g := u) hi
        obtain ⟨acc, r1, r2, r3⟩ := hv2.next (Same.refl _) (rowB_get hj) new2 (by rw [rowB_len]; omega)
        refine ⟨rfl, tY ?_⟩
        walk_at "rd"
        show Vals_ H1 D2 _ (j + 1) (upd H2 D2 (HO.lst (acc ++ [V.bl (decide (V.int (u j - u i) = V.int (c i j)))])))
        rw [int_eq]
        exact r3
      · obtain ⟨s2, e2⟩ := hv2.done (rowB_len _ _)
        exact hv.next (lstF_kept _) (lstF_framed _) s2 e2 new2 (by rw [e2]; simp) new (by omega)
    · obtain ⟨as, h1, h2, h3, h4, h5⟩ := hv
      exact k H1 D h2 new ⟨as, h1, h3, fun i r e => SqL.of (h4 i r e).1⟩
theorem df_next {f : Addr} {fd : FuncData} (hm : mg "next_nodes" = some (.ref f)) (F : Fun K "next_nodes" "next_nodes" s_next_nodes f fd) : Df P w K mg base CX0 1 "next_nodes" (spNext K) := by
  refine df_of (F.ok sc_next_nodes (fun vs H Q E h => ?_) (fun cdv A outer s H vs Q E hr h => ⟨_,
(pss_cons (ps_set (i := 4) sc_next_nodes.nd rfl (Or.inr rfl) (pe_callB call_len_seq (by rfl) B.len_ (by decide +kernel) (pa_cons (pv 1) pa_nil)))
 (pss_cons (ps_if (pt_cmpR op_lt (pv 3) (pv 4) (nomark _)) (pss_one (ps_ret (pe_lc (own := [("j", 5)]) (g := gName 5) rfl sc_next_nodes.nd (pi_range1 rfl B.range_ (pa_cons (pv 4) pa_nil)) (blkOk_by (own := [("j", 5)]) (N := ["tight", "plan", "at", "node", "n", "j", "i"]) (by kernel_rfl))
 (fun _ _ _ _ _ => (pg_name (i := 5) sc_next_nodes.nd rfl (Or.inl rfl))) (fun _ _ _ _ _ => (pts_one (PW.pt (pw_and (pt_val (pe_ix (ixL (K := K)) (pe_ix (ixL (K := K)) (pv 0) (pv 3) (fun _ _ => rfl)) (pv 5) (fun _ _ => rfl))) (pw_and1 (pt_cmpR op_gt (pe_op op_add (pe_op op_mulW (pv 3) (pv 4)) (pv 5)) (pv 2) (nomark _))))))) (fun _ _ _ _ _ => (pe_op op_add (pv 4) (pv 5)))))) pss_nil)
 (pss_one (ps_ret (pe_lc (own := [("i", 6)]) (g := gName 6) rfl sc_next_nodes.nd (pi_range1 rfl B.range_ (pa_cons (pv 4) pa_nil)) (blkOk_by (own := [("i", 6)]) (N := ["tight", "plan", "at", "node", "n", "j", "i"]) (by kernel_rfl))
 (fun _ _ _ _ _ => (pg_name (i := 6) sc_next_nodes.nd rfl (Or.inl rfl))) (fun _ _ _ _ _ => (pts_one (PW.pt (pw_and (pt_cmpR op_gt (pe_ix (ixL (K := K)) (pe_ix (ixL (K := K)) (pv 1) (pv 6) (fun _ _ => rfl)) (pe_op op_sub (pv 3) (pv 4)) (fun _ _ => rfl)) pe_int (nomark _)) (pw_and1 (pt_cmpR op_gt (pe_op op_sub (pe_op op_add (pe_op op_mulW (pv 6) (pv 4)) (pv 3)) (pv 4)) (pv 2) (nomark _))))))) (fun _ _ _ _ _ => (pv 6)))))))
   , ?_⟩)) hm F.kp (F.binds fun _ _ _ _ _ _ us hl => match us, hl with | [_, _, _, _], _ => rfl)
  · obtain ⟨a, b, n, at_, x, T, p, rfl, _⟩ := h
    rfl
  · obtain ⟨a, b, n, at_, x, T, p, rfl, hT, hP, hn, hx, k⟩ := h
    obtain ⟨rs0, l1, l2⟩ := hP.len
    refine ⟨_, rfl, b, _, rfl, .inl l1, ?_⟩
    rw [l2]
    walk_at "rd"
    unfold nxt at k
    refine ite2 (fun c1 => ?_) (fun c1 => ?_)
    · have c1 : x < n := by
        have := of_decide_eq_true c1
        omega
      rw [if_pos c1] at k
      refine ⟨_, rfl, _, rfl, by omega, by omega, fun D new => ?_⟩
      refine lc_range0 (n := n) (fun j H' => GrowV H D (natsV (((List.range j).filter fun j => T x j && decide (at_ < x * n + j)).map (n + ·))) H') (GrowV.start new) (fun j H1 hj hv => ?_) fun H1 hv => k _ D hv.2 new hv.1
      obtain ⟨rs, m1, mg1⟩ := (hT.same hv.2).all
      obtain ⟨r, m2, m3⟩ := mg1 x c1
      have m4 := rowB_at (g := T x) hj
      have e1 : CMulW (x : Int) (n : Int) := mul_small (by omega) (by omega)
      walk_at "rd"
      have hlen : (((List.range j).filter fun j => T x j && decide (at_ < x * n + j)).map (n + ·)).length ≤ j := by
        rw [List.length_map]
        exact filter_len _ _
      have no : (T x j && decide (at_ < x * n + j)) = false → GrowV H D (natsV (((List.range (j + 1)).filter fun j => T x j && decide (at_ < x * n + j)).map (n + ·))) H1 := fun z => by
        rw [filter_succ, if_neg (by rw [z]; decide), List.append_nil]
        exact hv
      refine ite2 (fun d => ?_) (fun d => ?_)
      · walk_at "rd"
        refine ite2 (fun d2 => ?_) (fun d2 => ?_)
        · have d2 : at_ < x * n + j := by
            have := of_decide_eq_true d2
            omega
          obtain ⟨acc, r1, r2, r3⟩ := hv.app (y := V.int ((n : Int) + (j : Int))) new (by
            unfold natsV
            rw [List.length_map, List.length_map]
            omega)
          walk_at "rd"
          rw [filter_succ, if_pos (by rw [d, decide_eq_true d2]; rfl), List.map_append]
          unfold natsV
          rw [List.map_append, List.map_append]
          exact r3
        · exact no (by rw [decide_eq_false (fun z => d2 (decide_eq_true (by omega))), Bool.and_false])
      · refine ite2 (fun z => absurd z (by decide)) fun _ => ?_
        have d : T x j = false := by
          cases e : T x j with
          | true => exact absurd e d
          | false => rfl
        exact no (by rw [d, Bool.false_and])
    · have c1 : ¬ x < n := fun z => c1 (decide_eq_true (by omega))
      rw [if_neg c1] at k
      refine ⟨_, rfl, _, rfl, by omega, by omega, fun D new => ?_⟩
      refine lc_range0 (n := n) (fun i H' => GrowV H D (natsV ((List.range i).filter fun i => decide (0 < p i (x - n)) && decide (at_ < i * n + (x - n)))) H') (GrowV.start new) (fun i H1 hi hv => ?_) fun H1 hv => k _ D hv.2 new hv.1
      obtain ⟨rs, m1, mg1⟩ := (hP.same hv.2).all
      obtain ⟨r, m2, m3⟩ := mg1 i hi
      have m4 : atI (rowI n (p i)) ((x : Int) - (n : Int)) = some (.int (p i (x - n))) := by
        rw [show (x : Int) - (n : Int) = ((x - n : Nat) : Int) by omega]
        exact row_at (by omega)
      have e1 : CMulW (i : Int) (n : Int) := mul_small (by omega) (by omega)
      walk_at "rd"
      have hlen : ((List.range i).filter fun i => decide (0 < p i (x - n)) && decide (at_ < i * n + (x - n))).length ≤ i := filter_len _ _
      have no : (decide (0 < p i (x - n)) && decide (at_ < i * n + (x - n))) = false → GrowV H D (natsV ((List.range (i + 1)).filter fun i => decide (0 < p i (x - n)) && decide (at_ < i * n + (x - n)))) H1 := fun z => by
        rw [filter_succ, if_neg (by rw [z]; decide), List.append_nil]
        exact hv
      refine ite2 (fun d => ?_) (fun d => ?_)
      · have d := of_decide_eq_true d
        walk_at "rd"
        refine ite2 (fun d2 => ?_) (fun d2 => ?_)
        · have d2 : at_ < i * n + (x - n) := by
            have := of_decide_eq_true d2
            omega
          obtain ⟨acc, r1, r2, r3⟩ := hv.app (y := V.int (i : Int)) new (by
            unfold natsV
            rw [List.length_map, List.length_map]
            omega)
          walk_at "rd"
          rw [filter_succ, if_pos (by rw [decide_eq_true d, decide_eq_true d2]; rfl)]
          unfold natsV
          rw [List.map_append, List.map_append]
          exact r3
        · exact no (by rw [show decide (at_ < i * n + (x - n)) = false from decide_eq_false (fun z => d2 (decide_eq_true (by omega))), Bool.and_false])
      · refine ite2 (fun z => absurd z (by decide)) fun _ => ?_
        exact no (by rw [decide_eq_false (fun z => d (decide_eq_true z)), Bool.false_and])
theorem df_parents {f : Addr} {fd : FuncData} (hm : mg "parents_from" = some (.ref f)) (F : Fun K "parents_from" "parents_from" s_parents_from f fd) (c_next_nodes : Df P w K mg base CX0 1 "next_nodes" (spNext K)) : Df P w K mg base CX0 2 "parents_from" (spParents K) := by
  refine df_of (F.ok sc_parents_from (fun vs H Q E h => ?_) (fun cdv A outer s H vs Q E hr h => ⟨_,
(pss_cons (ps_set (i := 4) sc_parents_from.nd rfl (Or.inl rfl) (pe_disp (pps_cons (pv 3) (pe_un un_neg pe_int) pps_nil) (by rfl) (by rfl) (fun z => by cases z) (by decide)))
 (pss_cons (ps_set (i := 5) sc_parents_from.nd rfl (Or.inl rfl) (pe_lst (pa_cons (pv 3) pa_nil)))
 (pss_cons (ps_set (i := 6) sc_parents_from.nd rfl (Or.inl rfl) pe_int)
 (pss_cons (ps_while PassesOwn.never (pt_cmpR op_lt (pv 6) (pe_callB call_len_seq (by rfl) B.len_ (by decide +kernel) (pa_cons (pv 5) pa_nil)) (nomark _)) (pss_cons (ps_for PassesOwn.never rfl (pi_list (pe_c0 c_next_nodes hr (by decide) rfl (pa_cons (pv 0) (pa_cons (pv 1) (pa_cons (pv 2) (pa_cons (pe_ix ix_list (pv 5) (pv 6) (fun _ _ => rfl)) pa_nil)))))) (pg_name (i := 7) sc_parents_from.nd rfl (Or.inl rfl)) (pss_one (ps_if (pt_cmp (pc_dnotin (hu_of hr) (pv 7) (pv 4))) (pss_cons (ps_dput (hu_of hr) (pv 4) (pv 7) (pe_ix ix_list (pv 5) (pv 6) (fun _ _ => rfl)) rfl)
 (pss_one (ps_expr (pe_bm PySem.F.plainAttrs_list PySem.F.slot_list_append PySem.F.type_list_append mt_append (pv 5) (pa_cons (pv 7) pa_nil))))) pss_nil)))
 (pss_one (ps_aug (i := 6) sc_parents_from.nd rfl (Or.inl rfl) pe_int ip_add))))
 (pss_one (ps_ret (pv 4)))))))
   , ?_⟩)) hm F.kp (F.binds fun _ _ _ _ _ _ us hl => match us, hl with | [_, _, _, _], _ => rfl)
  · obtain ⟨a, b, n, at_, x, T, p, rfl, _⟩ := h
    rfl
  · obtain ⟨a, b, n, at_, x, T, p, rfl, hT, hP, hn, hx, k⟩ := h
    intro d newd
    walk_at "rd"
    refine ⟨upd_same, [(.inl (x : Int), .int (-1))], rfl, by show 1 ≤ 15; decide, ?_⟩
    have sd : Same H (upd (upd H d (.dK [])) d (.dK (mergeK [] [(.inl (x : Int), .int (-1))]))) := same_over (same_upd newd) newd
    have ed : upd (upd H d (.dK [])) d (.dK (mergeK [] [(.inl (x : Int), .int (-1))])) d = some (.dK (mergeK [] [(.inl (x : Int), .int (-1))])) := upd_same
    generalize upd (upd H d (.dK [])) d (.dK (mergeK [] [(.inl (x : Int), .int (-1))])) = H1 at sd ed
    refine ⟨_, rfl, by show 1 ≤ sizeLine; decide, fun l newl => ?_⟩
    have nl0 : H l = none := sd.free newl
    have ndl : d ≠ l := ne_of_none ed newl
    obtain ⟨nx, enx⟩ : ∃ nx, nx = nxt n T p at_ := ⟨_, rfl⟩
    rw [← enx] at k
    have start : Srch n nx x H d l [x] (fun y => if y = x then some (-1) else none) (upd H1 l (.lst [.int (x : Int)])) := by
      refine ⟨sd.trans (same_upd newl), ⟨_, by rw [upd_ne ndl]; exact ed, by show 1 ≤ 1; decide, fun y => ?_⟩, upd_same, EH.Bfs.start nx x, fun v hv => by rw [List.mem_singleton.mp hv]; exact hx⟩
      by_cases c : y = x
      · subst c
        show valV [((.inl (y : Int) : Key), V.int (-1))] (.inl (y : Int)) = Option.map V.int (if y = y then some (-1) else none)
        rw [if_pos rfl, valV_pos rfl]
        rfl
      · show valV [((.inl (x : Int) : Key), V.int (-1))] (.inl (y : Int)) = Option.map V.int (if y = x then some (-1) else none)
        rw [if_neg c, valV_neg (fun z : (Sum.inl (x : Int) : Key) = .inl (y : Int) => c (by injection z with z; omega))]
        rfl
    refine while_by (fun σ H' => ∃ (o7 : Option V) (ns : List Nat) (par : Nat → Option Int) (t : Nat), σ = [some (.ref a), some (.ref b), some (.int (at_ : Int)), some (.int (x : Int)), some (.ref d), some (.ref l), some (.int (t : Int)), o7] ∧
        Srch n nx x H d l ns par H' ∧ EH.Told nx ns t ∧ t ≤ ns.length)
      (fun (σ : L2.St) _ => match σ[6]? with | some (some (V.int t)) => (2 * n - t).toNat | _ => 0) ⟨none, _, _, 0, rfl, start, fun k hk => absurd hk (Nat.not_lt_zero _), Nat.zero_le _⟩ ?_ ?_
    · rintro σ H' ⟨o7, ns, par, t, rfl, sr, told, ht⟩
      have sl : SqL K H' l (natsV ns) := SqL.of sr.lst
      have hll : (natsV ns).length = ns.length := by rw [List.length_map, List.length_map]
      have h2n : ns.length ≤ 2 * n := EH.nodup_len _ _ sr.bfs.nd sr.lt
      refine ⟨_, rfl, _, rfl, l, _, rfl, .inl sl, _, _, rfl, rfl, _, rfl, ?_⟩
      rw [hll]
      refine ite2 (fun c1 => ?_) (fun c1 => ?_)
      · have c1 : t < ns.length := by
          have := of_decide_eq_true c1
          omega
        obtain ⟨u, eu⟩ : ∃ u, ns[t]? = some u := ⟨_, List.getElem?_eq_getElem c1⟩
        have hu := sr.lt u (List.mem_of_getElem? eu)
        have hat : atI (natsV ns) (t : Int) = some (.int (u : Int)) := at_of rfl (by
          unfold natsV
          rw [List.getElem?_map, List.getElem?_map, eu]
          rfl)
        refine ⟨_, rfl, _, rfl, _, rfl, _, rfl, _, rfl, l, natsV ns, (t : Int), .int (u : Int), rfl, rfl, sl, hat, a, b, n, at_, u, T, p, rfl, hT.same sr.same, hP.same sr.same, hn, hu, fun H3 N s3 newN hN => ?_⟩
        have s03 := sr.same.trans s3
        have hN3 : H3 N = some (.lst (natsV (nx u))) := by rw [enx]; exact hN
        have hnl : (nx u).length ≤ n := by rw [enx]; exact nxt_len
        have nNd : N ≠ d := fun z => by
          obtain ⟨kvs, e, _⟩ := sr.dct
          rw [z, e] at newN
          cases newN
        have nNl : N ≠ l := fun z => by
          rw [z, sr.lst] at newN
          cases newN
        have sr3 : Srch n nx x H d l ns par H3 := by
          obtain ⟨kvs, e, q⟩ := sr.dct
          exact ⟨s03, ⟨kvs, s3 _ _ e, q⟩, s3 _ _ sr.lst, sr.bfs, sr.lt⟩
        refine ⟨N, rfl, ⟨_, SqL.of hN3⟩, for_list (K := K) (a := N) (xs := natsV (nx u)) (fun i σ H' => ∃ (o7 : Option V) (ns' : List Nat) (par' : Nat → Option Int), σ = [some (.ref a), some (.ref b), some (.int (at_ : Int)), some (.int (x : Int)), some (.ref d), some (.ref l), some (.int (t : Int)), o7] ∧
          Srch n nx x H d l ns' par' H' ∧ (∃ m, ns' = ns ++ m) ∧ H' N = some (.lst (natsV (nx u))) ∧ ∀ i' v, i' < i → (nx u)[i']? = some v → v ∈ ns')
          ⟨_, ns, par, rfl, sr3, ⟨[], by simp⟩, hN3, fun i' v h => absurd h (Nat.not_lt_zero _)⟩ (fun i σ H' _ ⟨_, _, _, _, _, _, e, _⟩ => SqL.of e) ?_ ?_⟩
        · rintro i y σ H4 hi ⟨o7', ns', par', rfl, sr4, ⟨m, em⟩, hN4, done⟩
          obtain ⟨z, hz, rfl⟩ := map_get hi
          obtain ⟨v, hv, rfl⟩ := map_get hz
          have hvm : v ∈ nx u := List.mem_of_getElem? hv
          have hv2 : v < 2 * n := by
            rw [enx] at hvm
            exact nxt_lt hvm
          have eu' : ns'[t]? = some u := by
            rw [em, List.getElem?_append_left c1]
            exact eu
          have h2n' : ns'.length ≤ 2 * n := EH.nodup_len _ _ sr4.bfs.nd sr4.lt
          have sl4 : SqL K H4 l (natsV ns') := SqL.of sr4.lst
          have hat4 : atI (natsV ns') (t : Int) = some (.int (u : Int)) := at_of rfl (by
            unfold natsV
            rw [List.getElem?_map, List.getElem?_map, eu']
            rfl)
          refine ⟨_, rfl, _, rfl, d, _, rfl, sr4.dct.get v, _, rfl, ?_⟩
          cases ev : par' v with
          | some w =>
            refine ite2 (fun z => absurd (show false = true from z) (by decide)) fun _ => ?_
            refine ⟨_, ns', par', rfl, sr4, ⟨m, em⟩, hN4, fun i' v' h1 h2 => ?_⟩
            rcases Nat.lt_or_ge i' i with q | q
            · exact done i' v' q h2
            · have e : i' = i := by omega
              rw [e, hv] at h2
              cases h2
              exact (sr4.bfs.dom v).mp (by rw [ev]; rfl)
          | none =>
            refine ite2 (fun _ => ?_) fun z => absurd rfl z
            obtain ⟨kvs, put, got⟩ := sr4.dct.put (by omega) v (u : Int)
            refine ⟨_, rfl, _, rfl, l, natsV ns', (t : Int), .int (u : Int), rfl, rfl, sl4, hat4, _, rfl, _, rfl, d, _, rfl, put, ?_⟩
            have el5 : upd H4 d (.dK kvs) l = some (.lst (natsV ns')) := by
              rw [upd_ne (Ne.symm ndl)]
              exact sr4.lst
            refine ⟨_, rfl, .inl ⟨rfl, _, SqL.of el5⟩, ?_⟩
            refine ⟨_, rfl, l, _, _, rfl, rfl, el5, by
              unfold natsV
              rw [List.length_map, List.length_map]
              exact small1000 (by omega), _, ns' ++ [v], (fun y => if y = v then some (u : Int) else par' y), rfl, ?_, ?_, ?_, ?_⟩
            · have e6 : upd (upd H4 d (.dK kvs)) l (.lst (natsV ns' ++ [V.int (v : Int)])) d = some (.dK kvs) := by rw [upd_ne ndl, upd_same]
              refine ⟨same_over (same_over sr4.same newd) nl0, ?_, ?_, sr4.bfs.add eu' hvm ev, fun y hy => ?_⟩
              · rw [List.length_append]
                exact got _ e6
              · rw [upd_same]
                unfold natsV
                rw [List.map_append, List.map_append]
                rfl
              · rcases List.mem_append.mp hy with z | z
                · exact sr4.lt y z
                · rw [List.mem_singleton.mp z]
                  exact hv2
            · exact ⟨m ++ [v], by rw [em, List.append_assoc]⟩
            · rw [upd_ne nNl, upd_ne nNd]
              exact hN4
            · intro i' v' h1 h2
              rcases Nat.lt_or_ge i' i with q | q
              · exact List.mem_append_left _ (done i' v' q h2)
              · have e : i' = i := by omega
                rw [e, hv] at h2
                cases h2
                exact List.mem_append_right _ List.mem_cons_self
        · rintro σ H4 ⟨o7', ns', par', rfl, sr4, ⟨m, em⟩, hN4, done⟩
          have told' : EH.Told nx ns' (t + 1) := fun k hk u' e v hv => by
            rcases Nat.lt_or_ge k t with q | q
            · exact (told.mono ⟨m, em⟩ ht) k q u' e v hv
            · have ek : k = t := by omega
              rw [ek, em, List.getElem?_append_left c1, eu] at e
              cases e
              obtain ⟨i', e2⟩ := List.getElem?_of_mem hv
              refine done i' v ?_ e2
              rw [List.length_map, List.length_map]
              exact (List.getElem?_eq_some_iff.mp e2).1
          have hlen' : ns.length ≤ ns'.length := by
            rw [em, List.length_append]
            omega
          refine ⟨_, rfl, _, _, rfl, rfl, ⟨_, ns', par', t + 1, rfl, sr4, told', by omega⟩, ?_⟩
          show (2 * (n : Int) - ((t : Int) + 1)).toNat < (2 * (n : Int) - (t : Int)).toNat
          omega
      · have c1 : ¬ t < ns.length := fun z => c1 (decide_eq_true (by omega))
        have et : t = ns.length := by omega
        rw [et] at told
        obtain ⟨kvs, e1, e2, e3⟩ := sr.dct
        exact ⟨_, rfl, k H' d ns par sr.same newd ⟨kvs, e1, by omega, e3⟩ sr.bfs told h2n⟩
    · rintro σ H' Q Q' i ⟨x1, e1, x2, e2, p2, ys, f1, f2, i1, j1, g1, g2, k1, q3, q4⟩
      exact ⟨x1, e1, x2, e2, p2, ys, f1, f2, i1, j1, g1, g2, k1, q3, i _ _ q4⟩
theorem df_way_back {f : Addr} {fd : FuncData} (hm : mg "way_back" = some (.ref f)) (F : Fun K "way_back" "way_back" s_way_back f fd) (c_parents_from : Df P w K mg base CX0 2 "parents_from" (spParents K)) : Df P w K mg base CX0 3 "way_back" (spWayBack K) := by
  refine df_of (F.ok sc_way_back (fun vs H Q E h => ?_) (fun cdv A outer s H vs Q E hr h => ⟨_,
(pss_cons (ps_set (i := 3) sc_way_back.nd rfl (Or.inl rfl) (pe_callB call_len_seq (by rfl) B.len_ (by decide +kernel) (pa_cons (pv 1) pa_nil)))
 (pss_cons (ps_set (i := 4) sc_way_back.nd rfl (Or.inl rfl) (pe_c0 c_parents_from hr (by decide) rfl (pa_cons (pv 0) (pa_cons (pv 1) (pa_cons (pv 2) (pa_cons (pe_op op_add (pv 3) (pe_op op_mod (pv 2) (pv 3))) pa_nil))))))
 (pss_cons (ps_if (pt_cmp (pc_dnotin (hu_of hr) (pe_op op_fdivW (pv 2) (pv 3)) (pv 4))) (pss_one (ps_ret (pe_lst pa_nil))) pss_nil)
 (pss_cons (ps_set (i := 5) sc_way_back.nd rfl (Or.inl rfl) (pe_lst (pa_cons (pe_op op_fdivW (pv 2) (pv 3)) pa_nil)))
 (pss_cons (ps_while PassesOwn.never (pt_cmpR op_ge (pe_dget (hu_of hr) (pv 4) (pe_ix ix_list (pv 5) (pe_un un_neg pe_int) (fun _ _ => rfl)) (fun _ _ => rfl)) pe_int (nomark _)) (pss_one (ps_expr (pe_bm PySem.F.plainAttrs_list PySem.F.slot_list_append PySem.F.type_list_append mt_append (pv 5) (pa_cons (pe_dget (hu_of hr) (pv 4) (pe_ix ix_list (pv 5) (pe_un un_neg pe_int) (fun _ _ => rfl)) (fun _ _ => rfl)) pa_nil)))))
 (pss_one (ps_ret (pe_revL (pv 5)))))))))
   , ?_⟩)) hm F.kp (F.binds fun _ _ _ _ _ _ us hl => match us, hl with | [_, _, _], _ => rfl)
  · obtain ⟨a, b, n, at_, T, p, rfl, _⟩ := h
    rfl
  · obtain ⟨a, b, n, at_, T, p, rfl, hT, hP, hn, hn0, hat, k⟩ := h
    obtain ⟨rs0, l1, l2⟩ := hP.len
    refine ⟨_, rfl, b, _, rfl, .inl l1, ?_⟩
    rw [l2]
    have ei : (at_ : Int) / (n : Int) = ((at_ / n : Nat) : Int) := by push_cast; rfl
    have cd : CDivW (at_ : Int) (n : Int) := wide_div (b := 4400) (by omega) (Nat.lt_of_le_of_lt (show (n : Int).natAbs ≤ 20 by omega) (by decide)) (by decide) (by decide)
    have hb : n + at_ % n < 2 * n := by
      have := Nat.mod_lt at_ hn0
      omega
    have hi : at_ / n < n := Nat.div_lt_of_lt_mul hat
    refine ⟨_, rfl, _, rfl, _, rfl, _, rfl, _, rfl, _, rfl, _, _, rfl, rfl, by omega, _, _, rfl, rfl, a, b, n, at_, n + at_ % n, T, p, by push_cast; rfl, hT, hP, hn, hb, fun H1 d ns par s1 newd hD bfs told hlen => ?_⟩
    have g0 : DGet H1 d (.int ((at_ : Int) / (n : Int))) ((par (at_ / n)).map V.int) := by
      rw [ei]
      exact hD.get _
    refine ⟨_, rfl, _, rfl, _, _, rfl, rfl, cd, _, rfl, d, _, rfl, g0, _, rfl, ?_⟩
    cases ep : par (at_ / n) with
    | none =>
      refine ite2 (fun _ => ?_) fun z => absurd rfl z
      refine ⟨by show 0 ≤ sizeLine; decide, fun r newr => ?_⟩
      refine k _ r [] (s1.trans (same_upd newr)) (s1.free newr) upd_same (.inl ⟨rfl, ns, par, bfs, told, fun z => ?_⟩)
      have := (bfs.dom _).mpr z
      rw [ep] at this
      cases this
    | some w0 =>
      refine ite2 (fun z => absurd (show false = true from z) (by decide)) fun _ => ?_
      obtain ⟨k0, ek0⟩ := List.getElem?_of_mem ((bfs.dom (at_ / n)).mp (by rw [ep]; rfl))
      obtain ⟨c, bk, c0, clen, cmem⟩ := bfs.back k0 _ ek0
      have hk0 : k0 < ns.length := (List.getElem?_eq_some_iff.mp ek0).1
      have hpos : 0 < c.length := (List.getElem?_eq_some_iff.mp c0).1
      refine ⟨_, rfl, _, rfl, _, _, rfl, rfl, cd, by show 1 ≤ sizeLine; decide, fun L newL => ?_⟩
      have ndL : d ≠ L := fun z => by
        obtain ⟨kvs, e, _⟩ := hD
        rw [z, newL] at e
        cases e
      refine while_by (fun σ H' => σ = [some (.ref a), some (.ref b), some (.int (at_ : Int)), some (.int (n : Int)), some (.ref d), some (.ref L)] ∧ ∃ t, t < c.length ∧ H' = upd H1 L (.lst (natsV (c.take (t + 1)))))
        (fun _ H' => match H' L with | some (.lst xs) => c.length - xs.length | _ => 0) ⟨rfl, 0, hpos, ?_⟩ ?_ ?_
      · have : c.take 1 = [at_ / n] := by
          cases c with
          | nil => simp at c0
          | cons x c => simp at c0; subst c0; rfl
        rw [this]
        show upd H1 L (.lst [.int ((at_ : Int) / (n : Int))]) = _
        rw [ei]
        rfl
      · rintro σ H' ⟨rfl, t, ht, eH⟩
        have hL : H' L = some (.lst (natsV (c.take (t + 1)))) := by rw [eH, upd_same]
        have sL : SqL K H' L (natsV (c.take (t + 1))) := SqL.of hL
        have hD' : DA H' d 100 par := by
          obtain ⟨kvs, e, q⟩ := hD
          exact ⟨kvs, by rw [eH, upd_ne ndL]; exact e, q⟩
        have hlen2 : (natsV (c.take (t + 1))).length = t + 1 := by
          rw [List.length_map, List.length_map, List.length_take]
          omega
        obtain ⟨v, hv⟩ : ∃ v, c[t]? = some v := ⟨_, List.getElem?_eq_getElem ht⟩
        have l1 : atI (natsV (c.take (t + 1))) (-1) = some (.int (v : Int)) := last_at (by
          rw [hlen2, Nat.add_sub_cancel]
          unfold natsV
          rw [List.getElem?_map, List.getElem?_map, List.getElem?_take_of_lt (by omega), hv]
          rfl)
        have hmu : (match H' L with | some (.lst xs) => c.length - xs.length | _ => 0) = c.length - (t + 1) := by
          rw [hL]
          show c.length - _ = _
          rw [hlen2]
        have gv := hD'.get v
        cases hn1 : c[t + 1]? with
        | some u =>
          have e2 := (bk.next t v u hv hn1).1
          have ht2 : t + 1 < c.length := (List.getElem?_eq_some_iff.mp hn1).1
          rw [e2] at gv
          have gv : DGet H' d (.int (v : Int)) (some (.int (u : Int))) := gv
          refine ⟨_, rfl, _, rfl, 1, rfl, L, _, _, _, rfl, rfl, sL, l1, d, _, rfl, gv, _, _, rfl, rfl, _, rfl, ?_⟩
          refine ite2 (fun _ => ?_) fun z => absurd (decide_eq_true (by omega)) z
          refine ⟨_, rfl, .inl ⟨rfl, _, sL⟩, ?_⟩
          refine ⟨_, rfl, _, rfl, 1, rfl, L, _, _, _, rfl, rfl, sL, l1, d, _, rfl, gv, L, _, _, rfl, rfl, hL, by
            rw [hlen2]
            exact small1000 (by omega), ?_⟩
          have e3 : natsV (c.take (t + 1)) ++ [V.int (u : Int)] = natsV (c.take (t + 1 + 1)) := by
            rw [take_more hn1]
            unfold natsV
            rw [List.map_append, List.map_append]
            rfl
          rw [e3, eH, upd_upd]
          refine ⟨⟨rfl, t + 1, ht2, rfl⟩, ?_⟩
          rw [← eH, hmu]
          show (match upd H1 L _ L with | some (.lst xs) => c.length - xs.length | _ => 0) < _
          rw [upd_same]
          show c.length - _ < _
          rw [List.length_map, List.length_map, List.length_take]
          omega
        | none =>
          have e2 := bk.last t v hv hn1
          rw [e2.1] at gv
          have gv : DGet H' d (.int (v : Int)) (some (.int (-1))) := gv
          refine ⟨_, rfl, _, rfl, 1, rfl, L, _, _, _, rfl, rfl, sL, l1, d, _, rfl, gv, _, _, rfl, rfl, _, rfl, ?_⟩
          refine ite2 (fun z => absurd (of_decide_eq_true z) (by omega)) fun _ => ?_
          have htc : t + 1 = c.length := by
            rcases Nat.lt_or_ge (t + 1) c.length with q | q
            · rw [List.getElem?_eq_getElem q] at hn1
              cases hn1
            · omega
          have sH : Same H1 H' := by rw [eH]; exact same_upd newL
          refine ⟨_, rfl, L, _, rfl, sL, fun r newr => ?_⟩
          refine k _ r c.reverse ((s1.trans sH).trans (same_upd newr)) ((s1.trans sH).free newr) ?_ (.inr ⟨?_, ?_, ?_, ?_, ?_, ?_⟩)
          · unfold IntsL
            rw [upd_same, htc, List.take_length]
            unfold natsV
            rw [List.map_reverse, List.map_reverse]
          · intro z
            have : c.reverse.length = 0 := by rw [z]; rfl
            rw [List.length_reverse] at this
            omega
          · rw [List.head?_reverse, List.getLast?_eq_getElem?, show c.length - 1 = t by omega, hv, e2.2]
          · rw [List.getLast?_reverse, List.head?_eq_getElem?, c0]
          · exact List.pairwise_reverse.mpr (List.Pairwise.imp (fun h => Ne.symm h) bk.nd)
          · rw [List.length_reverse]
            omega
          · intro y hy
            obtain ⟨m, h1, h2⟩ := steps_mem hy
            have hm : m + 1 < c.reverse.length := (List.getElem?_eq_some_iff.mp h2).1
            rw [List.length_reverse] at hm
            rw [List.getElem?_reverse (by omega)] at h1 h2
            exact (bk.next (c.length - 1 - (m + 1)) y.2 y.1 h2 (by rw [show c.length - 1 - (m + 1) + 1 = c.length - 1 - m by omega]; exact h1)).2
      · rintro σ H' Q Q' i ⟨x1, e1, x2, e2, u1, u2, p1, xs1, i1, v1, f1, f2, f3, f4, a1, w1, g1, g2, i2, j2, q1, q2, k1, q3, q4⟩
        exact ⟨x1, e1, x2, e2, u1, u2, p1, xs1, i1, v1, f1, f2, f3, f4, a1, w1, g1, g2, i2, j2, q1, q2, k1, q3, i _ _ q4⟩
end
end EW
end

/-! ## EwMost -/
section
set_option Elab.async false
set_option linter.all false
set_option maxRecDepth 100000
set_option maxHeartbeats 2000000
set_option autoImplicit false
namespace EW
open PySem PySem.Spec PyProof.Rows L2
open Sr58 (Frac)
local macro_rules | `(tactic| walk_at "rd") => `(tactic| repeat (first | refine ⟨rfl, ?_⟩ | apply Exists.intro | refine ⟨by assumption, ?_⟩))
abbrev s_raise_entry : Stmt := top 50
theorem sc_raise_entry : FnScope ["tight", "plan", "at", "n", "path", "amount", "i", "j"] ["tight", "plan", "at"] (defScope s_raise_entry) := ⟨rfl, rfl, rfl, by decide +kernel, rfl, by decide +kernel, by decide +kernel⟩
abbrev s_greatest_plan : Stmt := top 51
theorem sc_greatest_plan : FnScope ["costs", "potentials", "plan", "n", "tight", "found", "row", "at"] ["costs", "potentials", "plan"] (defScope s_greatest_plan) := ⟨rfl, rfl, rfl, by decide +kernel, rfl, by decide +kernel, by decide +kernel⟩
theorem cListK {X : Cx} {K : PySem.W.Frag} (h : X.K = K := by rfl) : CallR X (.type "list") (fun xs H Q => ∃ p ys, xs = [.ref p] ∧ (SqL K H p ys ∨ SqT K H p ys) ∧ ∀ l, H l = none → Q (.ref l) (upd H l (.lst ys))) := by
  subst h
  exact call_list_of
theorem ints_lay : ∀ l : List Int, PyData.canLayAll0 (l.map PyData.int) = true
  | [] => by simp [PyData.canLayAll0]
  | z :: l => by simp [PyData.canLayAll0, PyData.canLay0, ints_lay l]
theorem ints_depth : ∀ l : List Int, PyData.depthAll (l.map PyData.int) = 0
  | [] => by simp [PyData.depthAll]
  | z :: l => by simp [PyData.depthAll, PyData.depth, ints_depth l]
theorem ints_shaped (l : List Int) : SeqAt.shaped (.list (l.map PyData.int)) = true := by
  have h2 : PyData.depth (.list (l.map PyData.int)) ≤ 64 := by
    simp only [PyData.depth, ints_depth]
    omega
  show (PyData.canLay0 (.list (l.map PyData.int)) && decide (PyData.depth (.list (l.map PyData.int)) ≤ 64)) = true
  rw [Bool.and_eq_true]
  exact ⟨by simp only [PyData.canLay0]; exact ints_lay l, decide_eq_true h2⟩
theorem ints_dpa {K : PySem.W.Frag} {H : Hp} : ∀ l : List Int, DpAll K H (l.map V.int) (l.map PyData.int)
  | [] => .nil
  | z :: l => .cons (.int z) (ints_dpa l)
theorem ints_dp {K : PySem.W.Frag} {H : Hp} {a : Addr} {l : List Int} (h : SqL K H a (l.map V.int)) : Dp K H (.ref a) (.list (l.map PyData.int)) := .lst h (ints_dpa l)
theorem eqv_nil (l : List Int) : PyData.eqv (.list (l.map PyData.int)) (.list []) = decide (l = []) := by
  cases l with
  | nil => simp [PyData.eqv, PyData.eqvAll]
  | cons z l => simp [PyData.eqv, PyData.eqvAll]
theorem row_ne {n : Nat} (hn : 0 < n) {f : Nat → Bool} {g : Nat → Int} : rowB n f ≠ rowI n g := fun z => by
  have h1 : (rowB n f)[0]? = some (.bl (f 0)) := rowB_get hn
  rw [z, row_get hn] at h1
  cases h1
theorem MxB.off {K : PySem.W.Frag} {H H' : Hp} {a b : Addr} {rs : List Addr} {n : Nat} {T : Nat → Nat → Bool} {p : Nat → Nat → Int} (hn : 0 < n) (o : Off rs H H') (hM : MxR H b rs n p) (h : MxB K H a n T) : MxB K H' a n T := by
  obtain ⟨qs, h1, h2, h3⟩ := h.ex
  have key : ∀ {x : Addr} {xs : List V}, (∀ g, xs ≠ rowI n g) → SqL K H x xs → SqL K H' x xs := fun {x xs} hne hs => by
    by_cases hx : x ∈ rs
    · obtain ⟨i, e⟩ := List.getElem?_of_mem hx
      have er := hM.row i x e
      rcases hs with (z | ⟨u, z⟩) | z
      · rw [er] at z
        cases z
        exact absurd rfl (hne _)
      · rw [er] at z
        cases z
      · exact .inr z
    · exact sqL_off o hx hs
  have ha : a ∉ rs := fun z => by
    obtain ⟨i, e⟩ := List.getElem?_of_mem z
    have er := hM.row i a e
    rw [h1] at er
    have e2 : qs.map V.ref = rowI n (p i) := by injection Option.some.inj er
    have h4 : (rowI n (p i))[0]? = some (.int (p i 0)) := row_get hn
    rw [← e2, List.getElem?_map] at h4
    cases e5 : qs[0]? with
    | none => rw [e5] at h4; cases h4
    | some q => rw [e5] at h4; cases h4
  exact ⟨qs, o _ _ h1 ha, h2, fun i r e => key (fun g => row_ne hn) (h3 i r e)⟩
def entry (rs : List Addr) (i j : Nat) (H : Hp) : Int := match rs[i]? with
  | some r => match H r with
    | some (.lst xs) => match xs[j]? with
      | some (.int z) => z
      | _ => 0
    | _ => 0
  | none => 0
theorem entry_is {H : Hp} {b : Addr} {rs : List Addr} {n : Nat} {p : Nat → Nat → Int} (h : MxR H b rs n p) {i j : Nat} (hi : i < n) (hj : j < n) : entry rs i j H = p i j := by
  obtain ⟨r, er⟩ : ∃ r, rs[i]? = some r := ⟨_, List.getElem?_eq_getElem (by rw [h.len]; exact hi)⟩
  unfold entry
  rw [er]
  show (match H r with | some (.lst xs) => _ | _ => _) = _
  rw [h.row i r er]
  show (match (rowI n (p i))[j]? with | some (.int z) => z | _ => 0) = _
  rw [row_get hj]
def spRaise (K : PySem.W.Frag) : Sp := fun vs H Q _ => ∃ (a b : Addr) (n at_ : Nat) (rs : List Addr) (T : Nat → Nat → Bool) (p : Nat → Nat → Int) (J : (Nat → Nat → Int) → Prop) (M : Int), vs = [.ref a, .ref b, .int (at_ : Int)] ∧ MxB K H a n T ∧ MxR H b rs n p ∧ n ≤ 20 ∧ 0 < n ∧ at_ < n * n ∧
  Rse n at_ T J M ∧ J p ∧ ∀ (H' : Hp) (p' : Nat → Nat → Int), Off rs H H' → MxR H' b rs n p' → J p' → WayB (nxt n T p' at_) (n + at_ % n) (at_ / n) [] → Q .non H'
def spGreatest (K : PySem.W.Frag) : Sp := fun vs H Q _ => ∃ (a b d : Addr) (n : Nat) (c p : Nat → Nat → Int) (u : Nat → Int) (J JJ : Nat → (Nat → Nat → Int) → Prop) (M : Int), vs = [.ref a, .ref b, .ref d] ∧ Mx K H a n c ∧ SqL K H b (rowI n u) ∧ Mx K H d n p ∧ n ≤ 20 ∧ 0 < n ∧
  Gre n (fun i j => decide (u j - u i = c i j)) J JJ M ∧ J 0 p ∧ ∀ (H' : Hp) (r : Addr) (p' : Nat → Nat → Int), Same H H' → H r = none → Mx K H' r n p' → J (n * n) p' → Q (.ref r) H'
section
variable {P : Program} {w : World} {K : PySem.W.Frag} {mg : Str → Option Value} {base : Heap} (B : Nb mg) {A0 : Ad} (G : Gs K mg A0)
include B G
theorem df_raise {f : Addr} {fd : FuncData} (hm : mg "raise_entry" = some (.ref f)) (F : Fun K "raise_entry" "raise_entry" s_raise_entry f fd) (c_way_back : Df P w K mg base CX0 3 "way_back" (spWayBack K)) (c_lowered : Df P w K mg base CX0 1 "lowered" (spPart K lowrL))
    (c_change : Df P w K mg base CX0 2 "change" spChange) : Df P w K mg base CX0 4 "raise_entry" (spRaise K) := by
  refine df_of (F.ok sc_raise_entry (fun vs H Q E h => ?_) (fun cdv A outer s H vs Q E hr h => ⟨_,
(pss_cons (ps_set (i := 3) sc_raise_entry.nd rfl (Or.inl rfl) (pe_callB call_len_seq (by rfl) B.len_ (by decide +kernel) (pa_cons (pv 1) pa_nil)))
 (pss_cons (ps_set (i := 4) sc_raise_entry.nd rfl (Or.inl rfl) (pe_c0 c_way_back hr (by decide) rfl (pa_cons (pv 0) (pa_cons (pv 1) (pa_cons (pv 2) pa_nil)))))
 (pss_one (ps_while PassesOwn.never (pt_cmpR (op_neD hr.units) (pv 4) (pe_lst pa_nil) (nomark _)) (pss_cons (ps_set (i := 5) sc_raise_entry.nd rfl (Or.inl rfl) (pe_callB (cr_min rfl) (by rfl) B.min_ (by decide +kernel) (pa_cons (pe_lc (own := [("i", 6), ("j", 7)]) (tt := tYes) rfl sc_raise_entry.nd (pi_list (pe_c0 c_lowered hr (by decide) rfl (pa_cons (pv 4) (pa_cons (pv 3) pa_nil)))) (blkOk_by (own := [("i", 6), ("j", 7)]) (N := ["tight", "plan", "at", "n", "path", "amount", "i", "j"]) (by kernel_rfl))
 (fun _ _ _ _ _ => (pgT (K := K) (n := 2) rfl (pgs_cons (pg_name (i := 6) sc_raise_entry.nd rfl (Or.inl rfl)) (pgs_cons (pg_name (i := 7) sc_raise_entry.nd rfl (Or.inl rfl)) pgs_nil)))) (fun _ _ _ _ _ => pts_nil) (fun _ _ _ _ _ => (pe_ix (ixL (K := K)) (pe_ix (ixL (K := K)) (pv 1) (pv 6) (fun _ _ => rfl)) (pv 7) (fun _ _ => rfl)))) pa_nil)))
 (pss_cons (ps_expr (pe_c0 c_change hr (by decide) rfl (pa_cons (pv 1) (pa_cons (pv 4) (pa_cons (pv 5) pa_nil)))))
 (pss_cons (ps_augS (pe_ix ix_list (pv 1) (pe_op op_fdivW (pv 2) (pv 3)) (fun _ _ => rfl)) (pe_op op_mod (pv 2) (pv 3)) get_list (pv 5) ip_add set_list)
 (pss_one (ps_set (i := 4) sc_raise_entry.nd rfl (Or.inl rfl) (pe_c0 c_way_back hr (by decide) rfl (pa_cons (pv 0) (pa_cons (pv 1) (pa_cons (pv 2) pa_nil)))))))))))))
   , ?_⟩)) hm F.kp (F.binds fun _ _ _ _ _ _ us hl => match us, hl with | [_, _, _], _ => rfl)
  · obtain ⟨a, b, n, at_, rs, T, p, J, M, rfl, _⟩ := h
    rfl
  · obtain ⟨a, b, n, at_, rs, T, p, J, M, rfl, hT, hM, hn, hn0, hat, hR, hJ, k⟩ := h
    obtain ⟨rs0, l1, l2⟩ := (hM.mx (K := K)).len
    have hb : n + at_ % n < 2 * n := by
      have := Nat.mod_lt at_ hn0
      omega
    have hi : at_ / n < n := Nat.div_lt_of_lt_mul hat
    have hj : at_ % n < n := Nat.mod_lt at_ hn0
    refine ⟨_, rfl, b, _, rfl, .inl l1, ?_⟩
    rw [l2]
    refine ⟨_, rfl, _, rfl, _, rfl, a, b, n, at_, T, p, rfl, hT, hM.mx, hn, hn0, hat, fun H1 r c s1 newr hr1 hw => ?_⟩
    have nr1 : r ∉ rs := fun z => by
      obtain ⟨i', e⟩ := List.getElem?_of_mem z
      have := hM.row i' r e
      rw [newr] at this
      cases this
    refine while_by (fun σ H' => ∃ (r : Addr) (o5 o6 o7 : Option V) (c : List Nat) (p' : Nat → Nat → Int), σ = [some (.ref a), some (.ref b), some (.int (at_ : Int)), some (.int (n : Int)), some (.ref r), o5, o6, o7] ∧
        Off rs H H' ∧ MxR H' b rs n p' ∧ J p' ∧ IntsL H' r (c.map Int.ofNat) ∧ r ∉ rs ∧ WayB (nxt n T p' at_) (n + at_ % n) (at_ / n) c)
      (fun _ H' => (M - entry rs (at_ / n) (at_ % n) H').toNat) ⟨r, none, none, none, c, p, rfl, Off.of s1, hM.same s1, hJ, hr1, nr1, hw⟩ ?_ ?_
    · rintro σ H' ⟨r, o5, o6, o7, c, p', rfl, off, hM', hJ', hr', nr, hw'⟩
      refine ⟨_, rfl, by show 0 ≤ sizeLine; decide, fun e0 newe => ?_⟩
      have s2 := same_upd (o := .lst []) newe
      have ee : upd H' e0 (.lst []) e0 = some (.lst []) := upd_same
      generalize upd H' e0 (.lst []) = H2 at s2 ee
      have sr : SqL K H2 r ((c.map Int.ofNat).map V.int) := s2.seq hr'.at_
      have se : SqL K H2 e0 (([] : List Int).map V.int) := SqL.of ee
      refine ⟨_, _, ints_dp sr, ints_dp se, ints_shaped _, ints_shaped _, _, rfl, ?_⟩
      have e2 : PyData.eqv (.list ((c.map Int.ofNat).map PyData.int)) (.list (([] : List Int).map PyData.int)) = decide (c.map Int.ofNat = []) := eqv_nil _
      refine ite2 (fun c1 => ?_) (fun c1 => ?_)
      · have hne : c ≠ [] := fun z => by
          rw [e2, z] at c1
          exact absurd c1 (by decide)
        obtain ⟨h0, h1, hnd, hlen, hst⟩ : c.head? = some (n + at_ % n) ∧ c.getLast? = some (at_ / n) ∧ c.Nodup ∧ c.length ≤ 100 ∧ ∀ y ∈ EH.steps c, y.2 ∈ nxt n T p' at_ y.1 := by
          rcases hw' with ⟨z, _⟩ | ⟨_, z⟩
          · exact absurd z hne
          · exact z
        have hB := way_bip hb h0 hst
        have hlow := way_low (n := n) (b := n + at_ % n) (i := at_ / n) (Nat.le_add_right _ _) hi h0 h1
        refine ⟨_, rfl, _, rfl, r, n, c, rfl, sr, hB, hlen, fun H3 Lo s3 newLo hLo => ?_⟩
        obtain ⟨ts, t1, t2⟩ := hLo
        have hlt2 : ts.length = (lowrL n (EH.steps c)).length := Paired.length t2
        have hll : (lowrL n (EH.steps c)).length ≤ 100 := by
          have := List.length_filterMap_le (fun a : Nat × Nat => if n ≤ a.1 then some (a.2, a.1 - n) else none) (EH.steps c)
          rw [steps_len] at this
          unfold lowrL
          omega
        have hM3 : MxR H3 b rs n p' := hM'.same (s2.trans s3)
        refine ⟨Lo, rfl, ⟨_, SqL.of t1⟩, fun D2 newD2 => ?_⟩
        refine lc_list (K := K) (a := Lo) (xs := ts.map V.ref) (Vals_ H3 D2 (((lowrL n (EH.steps c)).map fun y => p' y.1 y.2).map V.int)) (Vals_.start newD2) (fun i H' _ e => e.2.seq (SqL.of t1)) ?_ ?_
        · rintro k' y H4 hi4 hv
          obtain ⟨t', ht', rfl⟩ := map_get hi4
          obtain ⟨⟨x, y⟩, ex, hfx⟩ := ListOf.nth t2 ht'
          obtain ⟨hx, hy⟩ := lowrL_lt hB (List.mem_of_getElem? ex)
          dsimp only at hx hy
          have hfx' : SqT K H4 t' [.int (x : Int), .int (y : Int)] := same_sqT hv.2 hfx
          obtain ⟨qs, q1, qg1⟩ := ((hM3.mx (K := K)).same hv.2).all
          obtain ⟨rr, q2, q3⟩ := qg1 x hx
          have q4 := row_at (g := p' x) hy
          obtain ⟨acc, r1, r2, r3⟩ := hv.next (Same.refl _) (show _ = some (V.int (p' x y)) by rw [List.getElem?_map, List.getElem?_map, ex]; rfl) newD2 (by
            rw [List.length_map, List.length_map]
            omega)
          refine ⟨t', _, rfl, hfx', rfl, ?_⟩
          walk_at "rd"
          exact r3
        intro H4 hv
        obtain ⟨s4, h4⟩ := hv.done (by rw [List.length_map, List.length_map, List.length_map, hlt2])
        refine ⟨D2, _, rfl, SqL.of h4, by rw [List.length_map]; exact hlow, fun v hv1 hv2 => ?_⟩
        have hM4 : MxR H4 b rs n p' := hM3.same s4
        have s24 := (s2.trans s3).trans s4
        refine ⟨_, rfl, _, rfl, _, rfl, b, r, v, n, rs, p', c, rfl, hM4, hn, s24 _ _ hr', nr, hB, hlen, fun H5 off5 hM5 => ?_⟩
        have ei : (at_ : Int) / (n : Int) = ((at_ / n : Nat) : Int) := by push_cast; rfl
        have em : (at_ : Int) % (n : Int) = ((at_ % n : Nat) : Int) := by push_cast; rfl
        have cd : CDivW (at_ : Int) (n : Int) := wide_div (b := 4400) (by omega) (Nat.lt_of_le_of_lt (show (n : Int).natAbs ≤ 20 by omega) (by decide)) (by decide) (by decide)
        have h0n : 0 < (n : Int) := by omega
        obtain ⟨rr, er⟩ : ∃ rr, rs[at_ / n]? = some rr := ⟨_, List.getElem?_eq_getElem (by rw [hM5.len]; exact hi)⟩
        have m1 : SqL K H5 b (rs.map V.ref) := SqL.of hM5.top
        have m2 : atI (rs.map V.ref) ((at_ : Int) / (n : Int)) = some (.ref rr) := by
          rw [ei]
          exact at_of rfl (by rw [List.getElem?_map, er]; rfl)
        obtain ⟨pl, epl⟩ : ∃ pl, pl = EH.along n v (EH.steps c) p' := ⟨_, rfl⟩
        rw [← epl] at hM5
        have m3 := hM5.row _ rr er
        have m3' : SqL K H5 rr (rowI n (pl (at_ / n))) := SqL.of m3
        have m4 : atI (rowI n (pl (at_ / n))) ((at_ : Int) % (n : Int)) = some (.int (pl (at_ / n) (at_ % n))) := by
          rw [em]
          exact row_at hj
        have m5 : ixN (rowI n (pl (at_ / n))).length ((at_ : Int) % (n : Int)) = some (at_ % n) := by
          rw [em]
          exact ixN_row hj
        have hM6 : MxR (upd H5 rr (.lst ((rowI n (pl (at_ / n))).set (at_ % n) (.int (pl (at_ / n) (at_ % n) + v))))) b rs n (addAt v pl (at_ / n, at_ % n)) := by
          rw [row_set]
          exact hM5.add er rfl
        have off6 : Off rs H (upd H5 rr (.lst ((rowI n (pl (at_ / n))).set (at_ % n) (.int (pl (at_ / n) (at_ % n) + v))))) := ((off.trans (Off.of s24)).trans off5).trans (Off.upd (List.mem_of_getElem? er))
        have hT6 := MxB.off (K := K) hn0 off6 hM hT
        have hP6 := hM6.mx (K := K)
        obtain ⟨y0, hy0, ey0⟩ := List.mem_map.mp hv1
        obtain ⟨hJ6, hlt6⟩ := hR.step p' hJ' c v hne hw' ⟨y0, hy0, ey0.symm⟩ (fun y hy => hv2 _ (List.mem_map.mpr ⟨y, hy, rfl⟩))
        rw [← epl] at hJ6 hlt6
        have hbd := hR.bound _ hJ6
        walk_at "rd"
        intro H7 r7 c7 s7 newr7 hr7 hw7
        have nr7 : r7 ∉ rs := fun z => by
          obtain ⟨i', e⟩ := List.getElem?_of_mem z
          have := hM6.row i' r7 e
          rw [newr7] at this
          cases this
        refine ⟨⟨r7, _, _, _, c7, _, rfl, off6.trans (Off.of s7), hM6.same s7, hJ6, hr7, nr7, hw7⟩, ?_⟩
        rw [entry_is (hM6.same s7) hi hj, entry_is hM' hi hj]
        omega
      · have hc : c = [] := by
          cases c with
          | nil => rfl
          | cons x l =>
            exfalso
            refine c1 ?_
            rw [e2]
            rfl
        subst hc
        exact k H2 p' (off.trans (Off.of s2)) (hM'.same s2) hJ' hw'
    · rintro σ H' Q Q' i ⟨x1, e1, z1, h⟩
      refine ⟨x1, e1, z1, fun p hp => ?_⟩
      obtain ⟨d, e, a1, a2, a3, a4, k1, k2, q⟩ := h p hp
      exact ⟨d, e, a1, a2, a3, a4, k1, k2, i _ _ q⟩
theorem df_greatest_plan {f : Addr} {fd : FuncData} (hm : mg "greatest_plan" = some (.ref f)) (F : Fun K "greatest_plan" "greatest_plan" s_greatest_plan f fd) (c_tight_entries : Df P w K mg base CX0 1 "tight_entries" (spTight K)) (c_raise_entry : Df P w K mg base CX0 4 "raise_entry" (spRaise K)) :
    Df P w K mg base CX0 5 "greatest_plan" (spGreatest K) := by
  refine df_of (F.ok sc_greatest_plan (fun vs H Q E h => ?_) (fun cdv A outer s H vs Q E hr h => ⟨_,
(pss_cons (ps_set (i := 3) sc_greatest_plan.nd rfl (Or.inl rfl) (pe_callB call_len_seq (by rfl) B.len_ (by decide +kernel) (pa_cons (pv 2) pa_nil)))
 (pss_cons (ps_set (i := 4) sc_greatest_plan.nd rfl (Or.inl rfl) (pe_c0 c_tight_entries hr (by decide) rfl (pa_cons (pv 0) (pa_cons (pv 1) pa_nil))))
 (pss_cons (ps_setLc (i := 5) (own := [("row", 6)]) (g := gName 6) (tt := tYes) rfl sc_greatest_plan.nd rfl rfl (sw_true rfl rfl rfl (by decide +kernel)) (pi_list (pv 2)) (blkOk_by (own := [("row", 6)]) (N := ["costs", "potentials", "plan", "n", "tight", "found", "row", "at"]) (by kernel_rfl))
 (fun _ _ _ _ _ => (pg_name (i := 6) sc_greatest_plan.nd rfl (Or.inl rfl))) (fun _ _ _ _ _ => pts_nil) (fun _ _ _ _ _ => (pe_callTy (T := "list") (cListK (K := K)) (by rfl) B.list_ (by decide +kernel) (pa_cons (pv 6) pa_nil))))
 (pss_cons (ps_for PassesOwn.never rfl (pi_range1 rfl B.range_ (pa_cons (pe_op op_mulW (pv 3) (pv 3)) pa_nil)) (pg_name (i := 7) sc_greatest_plan.nd rfl (Or.inl rfl)) (pss_one (ps_if (pt_val (pe_ix ix_list (pe_ix ix_list (pv 4) (pe_op op_fdivW (pv 7) (pv 3)) (fun _ _ => rfl)) (pe_op op_mod (pv 7) (pv 3)) (fun _ _ => rfl))) (pss_one (ps_expr (pe_c0 c_raise_entry hr (by decide) rfl (pa_cons (pv 4) (pa_cons (pv 5) (pa_cons (pv 7) pa_nil)))))) pss_nil)))
 (pss_one (ps_ret (pv 5)))))))
   , ?_⟩)) hm F.kp (F.binds fun _ _ _ _ _ _ us hl => match us, hl with | [_, _, _], _ => rfl)
  · obtain ⟨a, b, d, n, c, p, u, J, JJ, M, rfl, _⟩ := h
    rfl
  · obtain ⟨a, b, d, n, c, p, u, J, JJ, M, rfl, hC, hU, hP, hn, hn0, hG, hJ, k⟩ := h
    obtain ⟨rs0, l1, l2⟩ := hP.len
    refine ⟨_, rfl, d, _, rfl, .inl l1, ?_⟩
    rw [l2]
    refine ⟨_, rfl, _, rfl, a, b, n, c, u, rfl, hC, hU, hn, fun H1 t s1 newt hT => ?_⟩
    obtain ⟨qs, q1, q2, q3⟩ := (hP.same s1).ex
    refine ⟨_, rfl, d, rfl, ⟨_, SqL.of q1⟩, fun D newD => ?_⟩
    refine lc_list (K := K) (a := d) (xs := qs.map V.ref) (MadeR (RowF n p) H1 D) (MadeR.start newD) (fun i H' _ e => e.choose_spec.2.1.seq (SqL.of q1)) ?_ ?_
    · rintro i y H' hi hv
      obtain ⟨r, hr', rfl⟩ := map_get hi
      have s2 : Same H1 H' := hv.choose_spec.2.1
      have hin : i < n := by
        rw [← q2]
        exact (List.getElem?_eq_some_iff.mp hr').1
      refine ⟨rfl, tY ⟨_, rfl, r, _, rfl, .inl (s2.seq (q3 i r hr')), fun x newx => ?_⟩⟩
      exact hv.next (rowF_kept n p) (rowF_framed n p) (same_upd newx) upd_same newx (by rw [upd_same]; simp) newD (by omega)
    · intro H2 hv
      rw [List.length_map, q2] at hv
      obtain ⟨s2, rs, hM, newr⟩ := hv.mx
      have s12 := s1.trans s2
      have newr0 : ∀ r ∈ rs, H r = none := fun r hr' => s1.free (newr r hr')
      have newD0 : H D = none := s1.free newD
      have hnn : n * n ≤ 20 * 20 := Nat.mul_le_mul hn hn
      refine ⟨_, rfl, _, rfl, _, _, rfl, rfl, mul_small (by omega) (by omega), ((n * n : Nat) : Int), by rw [Int.natCast_mul], by omega, by omega, ?_⟩
      refine for_range0 (n := n * n) (fun i σ H' => ∃ (o6 o7 : Option V) (p' : Nat → Nat → Int), σ = [some (.ref a), some (.ref b), some (.ref d), some (.int (n : Int)), some (.ref t), some (.ref D), o6, o7] ∧
        Off rs H2 H' ∧ MxR H' D rs n p' ∧ J i p') ⟨none, none, p, rfl, Off.refl, hM, hJ⟩ ?_ ?_
      · rintro i σ H3 hi ⟨o6, o7, p', rfl, off, hM', hJ'⟩
        have hT3 : MxB K H3 t n fun i j => decide (u j - u i = c i j) := MxB.off hn0 off hM (hT.same s2)
        have ei : (i : Int) / (n : Int) = ((i / n : Nat) : Int) := by push_cast; rfl
        have em : (i : Int) % (n : Int) = ((i % n : Nat) : Int) := by push_cast; rfl
        have cd : CDivW (i : Int) (n : Int) := wide_div (b := 4400) (by omega) (Nat.lt_of_le_of_lt (show (n : Int).natAbs ≤ 20 by omega) (by decide)) (by decide) (by decide)
        have h0n : 0 < (n : Int) := by omega
        have hin : i / n < n := Nat.div_lt_of_lt_mul hi
        have hjn : i % n < n := Nat.mod_lt i hn0
        obtain ⟨ts, m1, mg1⟩ := hT3.all
        obtain ⟨r, m2, m3⟩ := mg1 _ hin
        have m2' : atI (ts.map V.ref) ((i : Int) / (n : Int)) = some (.ref r) := by
          rw [ei]
          exact m2
        have m4 : atI (rowB n fun j => decide (u j - u (i / n) = c (i / n) j)) ((i : Int) % (n : Int)) = some (.bl (decide (u (i % n) - u (i / n) = c (i / n) (i % n)))) := by
          rw [em]
          exact rowB_at hjn
        walk_at "rd"
        refine ite2 (fun c1 => ?_) (fun c1 => ?_)
        · refine ⟨_, rfl, _, rfl, _, rfl, t, D, n, i, rs, (fun i j => decide (u j - u i = c i j)), p', JJ i, M, rfl, hT3, hM', hn, hn0, hi, hG.rse i hi c1, hG.into i p' hi c1 hJ', fun H4 p4 off4 hM4 hJ4 hw4 => ?_⟩
          exact ⟨_, _, p4, rfl, off.trans off4, hM4, hG.out i p4 hi c1 hJ4 hw4⟩
        · refine ⟨_, _, p', rfl, off, hM', hG.skip i p' hi ?_ hJ'⟩
          exact decide_eq_false fun z => c1 (decide_eq_true z)
      · rintro σ H3 ⟨o6, o7, p', rfl, off, hM', hJ'⟩
        have sH : Same H H3 := fun x y e => off _ _ (s12 _ _ e) fun z => by
          rw [newr0 x z] at e
          cases e
        exact ⟨_, rfl, k H3 D p' sH newD0 hM'.mx hJ'⟩
end
end EW
end

/-! ## EwTrans -/
section
set_option Elab.async false
set_option linter.all false
set_option maxRecDepth 100000
set_option maxHeartbeats 2000000
set_option autoImplicit false
namespace EW
open PySem PySem.Spec PyProof.Rows L2
open Sr58 (Frac)
local macro_rules | `(tactic| walk_at "rd") => `(tactic| repeat (first | refine ⟨rfl, ?_⟩ | apply Exists.intro | refine ⟨by assumption, ?_⟩))
abbrev s_cheapest_amounts : Stmt := top 53
theorem sc_cheapest_amounts : FnScope ["costs", "before", "after", "denominator"] ["costs", "before", "after"] (defScope s_cheapest_amounts) := ⟨rfl, rfl, rfl, by decide +kernel, rfl, by decide +kernel, by decide +kernel⟩
abbrev s_with_fractions : Stmt := top 55
theorem sc_with_fractions : FnScope ["plan", "denominator", "entry", "row"] ["plan", "denominator"] (defScope s_with_fractions) := ⟨rfl, rfl, rfl, by decide +kernel, rfl, by decide +kernel, by decide +kernel⟩
abbrev s_cost_of : Stmt := top 54
theorem sc_cost_of : FnScope ["costs", "plan", "i", "j"] ["costs", "plan"] (defScope s_cost_of) := ⟨rfl, rfl, rfl, by decide +kernel, rfl, by decide +kernel, by decide +kernel⟩
abbrev s_lowest_cost : Stmt := top 56
theorem sc_lowest_cost : FnScope ["costs", "before", "after", "plan", "denominator"] ["costs", "before", "after"] (defScope s_lowest_cost) := ⟨rfl, rfl, rfl, by decide +kernel, rfl, by decide +kernel, by decide +kernel⟩
abbrev s_optimal_potentials : Stmt := top 57
theorem sc_optimal_potentials : FnScope ["costs", "before", "after", "plan", "denominator"] ["costs", "before", "after"] (defScope s_optimal_potentials) := ⟨rfl, rfl, rfl, by decide +kernel, rfl, by decide +kernel, by decide +kernel⟩
abbrev s_optimal_plan : Stmt := top 58
theorem sc_optimal_plan : FnScope ["costs", "before", "after", "plan", "denominator", "found"] ["costs", "before", "after"] (defScope s_optimal_plan) := ⟨rfl, rfl, rfl, by decide +kernel, rfl, by decide +kernel, by decide +kernel⟩
abbrev s_value_of : Stmt := top 59
theorem sc_value_of : FnScope ["potentials", "before", "after", "found", "i"] ["potentials", "before", "after"] (defScope s_value_of) := ⟨rfl, rfl, rfl, by decide +kernel, rfl, by decide +kernel, by decide +kernel⟩
abbrev s_row_sums : Stmt := top 60
theorem sc_row_sums : FnScope ["plan", "row"] ["plan"] (defScope s_row_sums) := ⟨rfl, rfl, rfl, by decide +kernel, rfl, by decide +kernel, by decide +kernel⟩
abbrev s_column_sums : Stmt := top 61
theorem sc_column_sums : FnScope ["plan", "n", "i", "j"] ["plan"] (defScope s_column_sums) := ⟨rfl, rfl, rfl, by decide +kernel, rfl, by decide +kernel, by decide +kernel⟩
abbrev s_composed_entry : Stmt := top 63
theorem sc_composed_entry : FnScope ["first", "second", "middle", "i", "k", "some", "j"] ["first", "second", "middle", "i", "k"] (defScope s_composed_entry) := ⟨rfl, rfl, rfl, by decide +kernel, rfl, by decide +kernel, by decide +kernel⟩
abbrev s_composition : Stmt := top 64
theorem sc_composition : FnScope ["first", "second", "middle", "n", "k", "i"] ["first", "second", "middle"] (defScope s_composition) := ⟨rfl, rfl, rfl, by decide +kernel, rfl, by decide +kernel, by decide +kernel⟩
theorem paired_cat {α β : Type} {F : α → β → Prop} : ∀ {xs : List α} {ys : List β} {us : List α} {vs : List β}, Paired F xs ys → Paired F us vs → Paired F (xs ++ us) (ys ++ vs)
  | _, _, _, _, .nil, h => h
  | _, _, _, _, .cons r t, h => .cons r (paired_cat t h)
/-- what stands when any list grows -/
def FramedA {α : Type} (F : Hp → Addr → α → Prop) : Prop := ∀ (H : Hp) (D p : Addr) (xs ys : List V) (x : α), F H p x → H D = some (.lst xs) → F (upd H D (.lst ys)) p x
theorem framedA_fr {K : PySem.W.Frag} : FramedA (FrAt K) := fun H D p xs ys x h hD => sqT_frame h hD
/-- a list of tuples under way (some of them may stand in the module) -/
def MadeT {α : Type} (F : Hp → Addr → α → Prop) (H0 : Hp) (D : Addr) (outs : List α) (i : Nat) (H' : Hp) : Prop :=
  ∃ as : List Addr, H' D = some (.lst (as.map V.ref)) ∧ Same H0 H' ∧ Paired (F H') as (outs.take i)
theorem MadeT.start {α : Type} {F : Hp → Addr → α → Prop} {H0 : Hp} {D : Addr} {outs : List α} (new : H0 D = none) : MadeT F H0 D outs 0 (upd H0 D (.lst [])) :=
  ⟨[], upd_same, same_upd new, .nil⟩
theorem MadeT.next {α : Type} {F : Hp → Addr → α → Prop} (hk : Kept F) (hf : FramedA F) {H0 H' H4 : Hp} {D p : Addr} {outs : List α} {i : Nat} {x : α} (h : MadeT F H0 D outs i H') (s : Same H' H4) (hx : F H4 p x)
    (e : outs[i]? = some x) (new : H0 D = none) (hl : outs.length ≤ 1000) : ∃ acc, H4 D = some (.lst acc) ∧ acc.length < sizeLine ∧ MadeT F H0 D outs (i + 1) (upd H4 D (.lst (acc ++ [.ref p]))) := by
  obtain ⟨as, h1, h2, h3⟩ := h
  have hD := s _ _ h1
  have hlen : as.length = (outs.take i).length := Paired.length h3
  refine ⟨as.map V.ref, hD, ?_, as ++ [p], ?_, ?_, ?_⟩
  · rw [List.length_map, hlen, List.length_take]
    exact small1000 (by omega)
  · rw [upd_same, List.map_append]
    rfl
  · intro b o q
    rw [upd_ne (ne_of_none q new)]
    exact s _ _ (h2 _ _ q)
  · rw [take_more e]
    exact paired_app (Paired.mapP h3 fun _ _ q => hf _ _ _ _ _ _ (hk _ _ _ _ s q) hD) (hf _ _ _ _ _ _ hx hD)
theorem MadeT.done {α : Type} {F : Hp → Addr → α → Prop} {H0 H' : Hp} {D : Addr} {outs : List α} {n : Nat} (h : MadeT F H0 D outs n H') (hn : outs.length = n) : Same H0 H' ∧ ListOf F H' D outs := by
  obtain ⟨as, h1, h2, h3⟩ := h
  rw [List.take_of_length_le (by omega)] at h3
  exact ⟨h2, as, h1, h3⟩
theorem MadeT.same {α : Type} {F : Hp → Addr → α → Prop} {H0 H' : Hp} {D : Addr} {outs : List α} {i : Nat} (h : MadeT F H0 D outs i H') : Same H0 H' := h.choose_spec.2.1
def spWithF (K : PySem.W.Frag) : Sp := fun vs H Q _ => ∃ (a : Addr) (n D : Nat) (p : Nat → Nat → Int), vs = [.ref a, .int (D : Int)] ∧ Mx K H a n p ∧ n ≤ 20 ∧ 0 < D ∧ D < 2 ^ 4400 ∧ HandsN (MatFAt K) H Q (EH.mt D n p)
theorem nth_of {α : Type} {F : Hp → Addr → α → Prop} {H : Hp} : ∀ {as : List Addr} {xs : List α}, Paired (F H) as xs → ∀ {i : Nat} {x : α}, xs[i]? = some x → ∃ a, as[i]? = some a ∧ F H a x := fun h _ _ e => paired_get h e
theorem fracs_all {K : PySem.W.Frag} {H : Hp} {r : Addr} {n : Nat} {x : Nat → Frac} (h : FracsAt K H r ((List.range n).map x)) : ∃ bs : List Addr, SqL K H r (bs.map V.ref) ∧ bs.length = n ∧ ∀ j, j < n → ∃ t, atI (bs.map V.ref) (j : Int) = some (.ref t) ∧ bs[j]? = some t ∧ FrAt K H t (x j) := by
  obtain ⟨bs, h1, h2⟩ := h
  refine ⟨bs, SqL.of h1, by rw [Paired.length h2, List.length_map, List.length_range], fun j hj => ?_⟩
  obtain ⟨t, et, ht⟩ := paired_get h2 (range_get (f := x) hj)
  exact ⟨t, at_of rfl (by rw [List.getElem?_map, et]; rfl), et, ht⟩
theorem matF_all {K : PySem.W.Frag} {H : Hp} {b : Addr} {n : Nat} {x : Nat → Nat → Frac} (h : MatFAt K H b (XF n x)) : ∃ as : List Addr, SqL K H b (as.map V.ref) ∧ as.length = n ∧ ∀ i, i < n → ∃ r, atI (as.map V.ref) (i : Int) = some (.ref r) ∧ as[i]? = some r ∧ FracsAt K H r ((List.range n).map (x i)) := by
  obtain ⟨as, h1, h2⟩ := h
  refine ⟨as, SqL.of h1, by rw [Paired.length h2, List.length_map, List.length_range], fun i hi => ?_⟩
  obtain ⟨r, er, hr⟩ := paired_get h2 (range_get (f := fun i => (List.range n).map fun j => x i j) hi)
  exact ⟨r, at_of rfl (by rw [List.getElem?_map, er]; rfl), er, hr⟩
def spCost (K : PySem.W.Frag) : Sp := fun vs H Q _ => ∃ (a b : Addr) (n : Nat) (c : Nat → Nat → Int) (x : Nat → Nat → Frac), vs = [.ref a, .ref b] ∧ Mx K H a n c ∧ MatFAt K H b (XF n x) ∧ n ≤ 20 ∧
  (∀ i j, i < n → j < n → Sz (x i j) ∧ Sz ⟨c i j, 1⟩) ∧ (∀ y ∈ costs_ n c x, Sz y) ∧ (∀ i, i ≤ (costs_ n c x).length → Sz (((costs_ n c x).take i).foldl Sr58.plus Sr66.zero)) ∧ Hands (FrAt K) H Q (Sr58.total (costs_ n c x))
abbrev Inp (K : PySem.W.Frag) (P0 : Addr) (H : Hp) (a b d : Addr) (n : Nat) (c : Nat → Nat → Int) (xs ys : List Frac) (D : Nat) (L W : Nat → Int) (J : JT) : Prop :=
  Mx K H a n c ∧ FracsAt K H b xs ∧ FracsAt K H d ys ∧ n ≤ 20 ∧ Amts n xs ys D L W ∧ LamX.Tabs (TN P0) H ∧ Run n c J ∧ J (fun _ _ => 0) L W
def spLowest (K : PySem.W.Frag) (P0 : Addr) : Sp := fun vs H Q _ => ∃ (a b d : Addr) (n : Nat) (c : Nat → Nat → Int) (xs ys : List Frac) (D : Nat) (L W : Nat → Int) (J : JT), vs = [.ref a, .ref b, .ref d] ∧ Inp K P0 H a b d n c xs ys D L W J ∧
  (∀ p, Ends_ n J p → CostOk n c fun i j => Sr58.frac (p i j) D) ∧
  ∀ (H' : Hp) (t : Addr) (p : Nat → Nat → Int), LamX.ExtN H H' → LamX.Tabs (TN P0) H' → Ends_ n J p → FrAt K H' t (Sr58.total (costs_ n c fun i j => Sr58.frac (p i j) D)) → Q (.ref t) H'
def spOptPot (K : PySem.W.Frag) (P0 : Addr) : Sp := fun vs H Q _ => ∃ (a b d : Addr) (n : Nat) (c : Nat → Nat → Int) (xs ys : List Frac) (D : Nat) (L W : Nat → Int) (J : JT), vs = [.ref a, .ref b, .ref d] ∧ Inp K P0 H a b d n c xs ys D L W J ∧ 0 < n ∧
  ∀ (H' : Hp) (t : Addr) (p : Nat → Nat → Int), LamX.ExtN H H' → LamX.Tabs (TN P0) H' → Ends_ n J p → IntsL H' t ((List.range n).map (potL n c p)) → Q (.ref t) H'
def spOptPlan (K : PySem.W.Frag) (P0 : Addr) : Sp := fun vs H Q _ => ∃ (a b d : Addr) (n : Nat) (c : Nat → Nat → Int) (xs ys : List Frac) (D : Nat) (L W : Nat → Int) (J : JT) (R : (Nat → Nat → Int) → Prop), vs = [.ref a, .ref b, .ref d] ∧ Inp K P0 H a b d n c xs ys D L W J ∧ 0 < n ∧
  (∀ p, Ends_ n J p → ∃ (J2 JJ : Nat → (Nat → Nat → Int) → Prop) (M : Int), Gre n (fun i j => decide (potL n c p j - potL n c p i = c i j)) J2 JJ M ∧ J2 0 p ∧ ∀ q, J2 (n * n) q → R q) ∧
  ∀ (H' : Hp) (t : Addr) (q : Nat → Nat → Int), LamX.ExtN H H' → LamX.Tabs (TN P0) H' → R q → MatFAt K H' t (EH.mt D n q) → Q (.ref t) H'
def spValue (K : PySem.W.Frag) : Sp := fun vs H Q _ => ∃ (a b d : Addr) (n : Nat) (u : Nat → Int) (x y : Nat → Frac), vs = [.ref a, .ref b, .ref d] ∧ SqL K H a (rowI n u) ∧ FracsAt K H b ((List.range n).map x) ∧ FracsAt K H d ((List.range n).map y) ∧ n ≤ 20 ∧ ValOk n u x y ∧ Hands (FrAt K) H Q (valP u x y n)
def spRowSums (K : PySem.W.Frag) : Sp := fun vs H Q _ => ∃ (b : Addr) (n : Nat) (x : Nat → Nat → Frac), vs = [.ref b] ∧ MatFAt K H b (XF n x) ∧ n ≤ 20 ∧ (∀ i, i < n → TotOk ((List.range n).map fun j => x i j)) ∧ HandsN (FracsAt K) H Q (rowsP n x)
def spColSums (K : PySem.W.Frag) : Sp := fun vs H Q _ => ∃ (b : Addr) (n : Nat) (x : Nat → Nat → Frac), vs = [.ref b] ∧ MatFAt K H b (XF n x) ∧ n ≤ 20 ∧ (∀ j, j < n → TotOk ((List.range n).map fun i => x i j)) ∧ HandsN (FracsAt K) H Q (colsP n x)
def spCompE (K : PySem.W.Frag) : Sp := fun vs H Q _ => ∃ (a b d : Addr) (i k n : Nat) (x y : Nat → Nat → Frac) (m : Nat → Frac), vs = [.ref a, .ref b, .ref d, .int (i : Int), .int (k : Int)] ∧ MatFAt K H a (XF n x) ∧ MatFAt K H b (XF n y) ∧ FracsAt K H d ((List.range n).map m) ∧ n ≤ 20 ∧ i < n ∧ k < n ∧ CompOk n x y m ∧
  Hands (FrAt K) H Q (Sr58.total (compP n x y m i k))
def spComp (K : PySem.W.Frag) : Sp := fun vs H Q _ => ∃ (a b d : Addr) (n : Nat) (x y : Nat → Nat → Frac) (m : Nat → Frac), vs = [.ref a, .ref b, .ref d] ∧ MatFAt K H a (XF n x) ∧ MatFAt K H b (XF n y) ∧ FracsAt K H d ((List.range n).map m) ∧ n ≤ 20 ∧ CompOk n x y m ∧
  HandsN (MatFAt K) H Q (XF n fun i k => Sr58.total (compP n x y m i k))
def spCheapAmt (K : PySem.W.Frag) (P0 : Addr) : Sp := fun vs H Q _ => ∃ (a b d : Addr) (n : Nat) (c : Nat → Nat → Int) (xs ys : List Frac) (D : Nat) (L W : Nat → Int) (J : (Nat → Nat → Int) → (Nat → Int) → (Nat → Int) → Prop), vs = [.ref a, .ref b, .ref d] ∧ Mx K H a n c ∧
  FracsAt K H b xs ∧ FracsAt K H d ys ∧ n ≤ 20 ∧ Amts n xs ys D L W ∧ LamX.Tabs (TN P0) H ∧ Run n c J ∧ J (fun _ _ => 0) L W ∧
  ∀ (H' : Hp) (t b : Addr) (p : Nat → Nat → Int) (L' W' : Nat → Int), LamX.ExtN H H' → LamX.Tabs (TN P0) H' → SqT K H' t [.ref b, .int (D : Int)] → Mx K H' b n p → J p L' W' → EH.S n L' ≤ 0 → Q (.ref t) H'
section
variable {P : Program} {w : World} {K : PySem.W.Frag} {mg : Str → Option Value} {base : Heap} (B : Nb mg) {A0 : Ad} (G : Gs K mg A0) {c0 P0 : Addr} (TB : LamX.TabB base mg c0 P0)
include B G TB
theorem df_cheapest_amounts {f : Addr} {fd : FuncData} (hm : mg "cheapest_amounts" = some (.ref f)) (F : Fun K "cheapest_amounts" "cheapest_amounts" s_cheapest_amounts f fd) (c_common_denominator : Df P w K mg base CX0 2 "common_denominator" (spCommon K))
    (c_amounts : Df P w K mg base CX0 1 "amounts" (spAmounts K)) (c_cheapest_plan : Df P w K mg base CX0 5 "cheapest_plan" (spCheapest K P0)) : Df P w K mg base CX0 6 "cheapest_amounts" (spCheapAmt K P0) := by
  refine df_of (F.ok sc_cheapest_amounts (fun vs H Q E h => ?_) (fun cdv A outer s H vs Q E hr h => ⟨_,
(pss_cons (ps_set (i := 3) sc_cheapest_amounts.nd rfl (Or.inl rfl) (pe_c0 c_common_denominator hr (by decide) rfl (pa_cons (pe_op op_cat (pv 1) (pv 2)) pa_nil)))
 (pss_one (ps_ret (pe_tup (pa_cons (pe_c0 c_cheapest_plan hr (by decide) rfl (pa_cons (pv 0) (pa_cons (pe_c0 c_amounts hr (by decide) rfl (pa_cons (pv 1) (pa_cons (pv 3) pa_nil))) (pa_cons (pe_c0 c_amounts hr (by decide) rfl (pa_cons (pv 2) (pa_cons (pv 3) pa_nil))) pa_nil)))) (pa_cons (pv 3) pa_nil))))))
   , ?_⟩)) hm F.kp (F.binds fun _ _ _ _ _ _ us hl => match us, hl with | [_, _, _], _ => rfl)
  · obtain ⟨a, b, d, n, c, xs, ys, D, L, W, J, rfl, _⟩ := h
    rfl
  · obtain ⟨a, b, d, n, c, xs, ys, D, L, W, J, rfl, hC, ⟨as, ha1, ha2⟩, ⟨bs, hb1, hb2⟩, hn, hA, hT, hR, hJ, k⟩ := h
    have hla : as.length = n := (Paired.length ha2).trans hA.lx
    have hlb : bs.length = n := (Paired.length hb2).trans hA.ly
    refine ⟨_, rfl, _, rfl, b, d, _, _, rfl, rfl, ha1, hb1, by
      rw [List.length_map, List.length_map]
      exact Nat.le_of_lt (small1000 (by omega)), fun z newz => ?_⟩
    have s1 := same_upd (o := .lst (as.map V.ref ++ bs.map V.ref)) newz
    have ez : upd H z (.lst (as.map V.ref ++ bs.map V.ref)) z = some (.lst ((as ++ bs).map V.ref)) := by rw [upd_same, List.map_append]
    generalize upd H z (.lst (as.map V.ref ++ bs.map V.ref)) = H1 at s1 ez
    have hp1 : Paired (FrAt K H1) (as ++ bs) (xs ++ ys) := paired_cat (Paired.mapP ha2 fun _ _ q => same_fr s1 q) (Paired.mapP hb2 fun _ _ q => same_fr s1 q)
    refine ⟨z, xs ++ ys, D, rfl, ⟨_, ez, hp1⟩, hA.pos, hA.lt, fun x hx => ⟨(hA.sz x hx).1.pos, (hA.sz x hx).2⟩, ?_⟩
    rw [hA.den]
    have fb1 : FracsAt K H1 b xs := same_fracs s1 ⟨as, ha1, ha2⟩
    refine ⟨_, rfl, _, rfl, _, rfl, b, xs, D, rfl, fb1, hA.pos, hA.lt, fun x hx => hA.sz x (List.mem_append_left _ hx), by rw [hA.lx]; omega, fun H2 l s2 newl hl => ?_⟩
    have fd2 : FracsAt K H2 d ys := same_fracs (s1.trans s2) ⟨bs, hb1, hb2⟩
    refine ⟨_, rfl, _, rfl, d, ys, D, rfl, fd2, hA.pos, hA.lt, fun x hx => hA.sz x (List.mem_append_right _ hx), by rw [hA.ly]; omega, fun H3 w s3 neww hw => ?_⟩
    have s13 := (s1.trans s2).trans s3
    have sl : SqL K H3 l (rowI n L) := by
      have : IntsL H3 l ((List.range n).map L) := by
        rw [← hA.left]
        exact s3 _ _ hl
      exact SqL.of this
    have sw : SqL K H3 w (rowI n W) := by
      have : IntsL H3 w ((List.range n).map W) := by
        rw [← hA.want]
        exact hw
      exact SqL.of this
    refine ⟨a, l, w, n, c, L, W, J, rfl, hC.same s13, sl, sw, hn, hT.ext s13, hR, hJ, fun H4 q p L' W' eN T4 newq hM hJ' hS => ?_⟩
    refine ⟨_, rfl, by show 2 ≤ sizeLine; decide, fun t newt => ?_⟩
    have s5 := same_upd (o := .tup [.ref q, .int (D : Int)]) newt
    exact k _ t q p L' W' (((LamX.ExtN.of s13).trans eN).trans (LamX.ExtN.of s5)) (T4.ext s5) (SqT.of upd_same) (hM.same s5) hJ' hS
omit TB in
theorem df_with_fractions {f : Addr} {fd : FuncData} (hm : mg "with_fractions" = some (.ref f)) (F : Fun K "with_fractions" "with_fractions" s_with_fractions f fd) (c_ratio : Df P w K mg base CX0 2 "ratio" (spRatio K)) : Df P w K mg base CX0 3 "with_fractions" (spWithF K) := by
  refine df_of (F.ok sc_with_fractions (fun vs H Q E h => ?_) (fun cdv A outer s H vs Q E hr h => ⟨_,
(pss_one (ps_ret (pe_lc (own := [("row", 3)]) (g := gName 3) (tt := tYes) rfl sc_with_fractions.nd (pi_list (pv 0)) (blkOk_by (own := [("row", 3)]) (N := ["plan", "denominator", "entry", "row"]) (by kernel_rfl))
 (fun _ _ _ _ _ => (pg_name (i := 3) sc_with_fractions.nd rfl (Or.inl rfl))) (fun _ _ _ _ _ => pts_nil) (fun _ _ _ _ _ => (pe_lc (own := [("entry", 2)]) (g := gName 2) (tt := tYes) rfl sc_with_fractions.nd (piL (K := K) (pv 3)) (blkOk_by (own := [("entry", 2)]) (N := ["plan", "denominator", "entry", "row"]) (by kernel_rfl))
 (fun _ _ _ _ _ => (pg_name (i := 2) sc_with_fractions.nd rfl (Or.inl rfl))) (fun _ _ _ _ _ => pts_nil) (fun _ _ _ _ _ => (pe_c0 c_ratio hr (by decide) rfl (pa_cons (pv 2) (pa_cons (pv 1) pa_nil)))))))))
   , ?_⟩)) hm F.kp (F.binds fun _ _ _ _ _ _ us hl => match us, hl with | [_, _], _ => rfl)
  · obtain ⟨a, n, D, p, rfl, _⟩ := h
    rfl
  · obtain ⟨a, n, D, p, rfl, hM, hn, hD, hD2, k⟩ := h
    obtain ⟨qs, q1, q2, q3⟩ := hM.ex
    have mlen : (EH.mt D n p).length = n := by
      unfold EH.mt
      rw [List.length_map, List.length_range]
    refine ⟨_, rfl, a, rfl, ⟨_, SqL.of q1⟩, fun R newR => ?_⟩
    refine lc_list (K := K) (a := a) (xs := qs.map V.ref) (Made (FracsAt K) H R (EH.mt D n p)) (Made.start newR) (fun i H' _ e => e.same.seq (SqL.of q1)) ?_ ?_
    · rintro i y H1 hi hv
      obtain ⟨r, hr', rfl⟩ := map_get hi
      have hin : i < n := by
        rw [← q2]
        exact (List.getElem?_eq_some_iff.mp hr').1
      have sr : SqL K H1 r (rowI n (p i)) := hv.same.seq (q3 i r hr')
      have erow : (EH.mt D n p)[i]? = some ((List.range n).map fun j => Sr58.frac (p i j) D) := by
        unfold EH.mt
        rw [range_get hin]
      refine ⟨rfl, tY ?_⟩
      refine ⟨_, rfl, r, rfl, ⟨_, sr⟩, fun R2 newR2 => ?_⟩
      refine lc_list (K := K) (a := r) (xs := rowI n (p i)) (MadeT (FrAt K) H1 R2 ((List.range n).map fun j => Sr58.frac (p i j) D)) (MadeT.start newR2) (fun j H' _ e => e.same.seq sr) ?_ ?_
      · rintro j y H2 hj hv2
        have hjn : j < n := by
          have := (List.getElem?_eq_some_iff.mp hj).1
          rw [row_len] at this
          exact this
        rw [row_get hjn] at hj
        cases hj
        refine ⟨rfl, tY ?_⟩
        refine ⟨_, rfl, _, rfl, p i j, (D : Int), rfl, by omega, by rw [Int.natAbs_natCast]; exact Nat.lt_trans hD2 (by decide), fun H3 t s3 ht => ?_⟩
        rw [Int.toNat_natCast] at ht
        exact hv2.next kept_fr framedA_fr s3 ht (range_get hjn) newR2 (by rw [List.length_map, List.length_range]; omega)
      · intro H2 hv2
        rw [row_len] at hv2
        obtain ⟨s2, l2⟩ := hv2.done (by rw [List.length_map, List.length_range])
        exact hv.next kept_fracs framed_fracs s2 l2 (hv.ne newR2) erow newR (by rw [mlen]; omega)
    · intro H1 hv
      rw [List.length_map, q2] at hv
      obtain ⟨s1, l1⟩ := hv.done mlen
      exact k H1 R s1 newR l1
omit TB in
theorem df_cost_of {f : Addr} {fd : FuncData} (hm : mg "cost_of" = some (.ref f)) (F : Fun K "cost_of" "cost_of" s_cost_of f fd) (c_times : Df P w K mg base CX0 3 "times" (spOp2 K Sr58.times)) (c_total : Df P w K mg base CX0 4 "total" (spTotal K))
    (c_pairs : Df P w K mg base CX0 1 "pairs" (spPairs K)) : Df P w K mg base CX0 5 "cost_of" (spCost K) := by
  refine df_of (F.ok sc_cost_of (fun vs H Q E h => ?_) (fun cdv A outer s H vs Q E hr h => ⟨_,
(pss_one (ps_ret (pe_c0 c_total hr (by decide) rfl (pa_cons (pe_lc (own := [("i", 2), ("j", 3)]) (tt := tYes) rfl sc_cost_of.nd (pi_list (pe_c0 c_pairs hr (by decide) rfl (pa_cons (pe_callB call_len_seq (by rfl) B.len_ (by decide +kernel) (pa_cons (pv 0) pa_nil)) pa_nil))) (blkOk_by (own := [("i", 2), ("j", 3)]) (N := ["costs", "plan", "i", "j"]) (by kernel_rfl))
 (fun _ _ _ _ _ => (pgT (K := K) (n := 2) rfl (pgs_cons (pg_name (i := 2) sc_cost_of.nd rfl (Or.inl rfl)) (pgs_cons (pg_name (i := 3) sc_cost_of.nd rfl (Or.inl rfl)) pgs_nil)))) (fun _ _ _ _ _ => pts_nil) (fun _ _ _ _ _ => (pe_c0 c_times hr (by decide) rfl (pa_cons (pe_ix (ixL (K := K)) (pe_ix (ixL (K := K)) (pv 1) (pv 2) (fun _ _ => rfl)) (pv 3) (fun _ _ => rfl)) (pa_cons (pe_tup (pa_cons (pe_ix (ixL (K := K)) (pe_ix (ixL (K := K)) (pv 0) (pv 2) (fun _ _ => rfl)) (pv 3) (fun _ _ => rfl)) (pa_cons pe_int pa_nil))) pa_nil))))) pa_nil))))
   , ?_⟩)) hm F.kp (F.binds fun _ _ _ _ _ _ us hl => match us, hl with | [_, _], _ => rfl)
  · obtain ⟨a, b, n, c, x, rfl, _⟩ := h
    rfl
  · obtain ⟨a, b, n, c, x, rfl, hC, hX, hn, hsz, hpr, hps, k⟩ := h
    obtain ⟨rs0, l1, l2⟩ := hC.len
    refine ⟨_, rfl, a, _, rfl, .inl l1, ?_⟩
    rw [l2]
    refine ⟨n, rfl, hn, fun H1 L s1 newL hL => ?_⟩
    obtain ⟨as, hl, hp⟩ := hL
    have hlen : as.length = (Sr80.pairs n).length := Paired.length hp
    have hcl : (costs_ n c x).length = (Sr80.pairs n).length := by
      unfold costs_
      rw [List.length_map]
    have h400 : (Sr80.pairs n).length ≤ 400 := by
      rw [EH.pairs_range, List.length_map, List.length_range']
      have : n * n ≤ 20 * 20 := Nat.mul_le_mul hn hn
      omega
    refine ⟨L, rfl, ⟨_, SqL.of hl⟩, fun D newD => ?_⟩
    refine lc_list (K := K) (a := L) (xs := as.map V.ref) (MadeT (FrAt K) H1 D (costs_ n c x)) (MadeT.start newD) (fun i H' _ e => e.same.seq (SqL.of hl)) ?_ ?_
    · rintro i y H' hi hv
      obtain ⟨b', hb, rfl⟩ := map_get hi
      obtain ⟨⟨i', j'⟩, ex, hfx⟩ := ListOf.nth hp hb
      obtain ⟨hx, hy⟩ := (EH.mem_pairs (D := 1) Nat.one_pos).mp (List.mem_of_getElem? ex)
      dsimp only at hx hy
      have hfx' : SqT K H' b' [.int (i' : Int), .int (j' : Int)] := same_sqT hv.same hfx
      have s1' := s1.trans hv.same
      obtain ⟨qs, p1, _, pg⟩ := matF_all (same_matF s1' hX)
      obtain ⟨r, p2, _, p3⟩ := pg i' hx
      obtain ⟨bs, p4, _, pg2⟩ := fracs_all p3
      obtain ⟨t, p5, _, p6⟩ := pg2 j' hy
      obtain ⟨rs, m1, mg1⟩ := (hC.same s1').all
      obtain ⟨q, m2, m3⟩ := mg1 i' hx
      have m4 := row_at (g := c i') hy
      have ecost : (costs_ n c x)[i]? = some (Sr58.times (x i' j') ⟨c i' j', 1⟩) := by
        unfold costs_
        rw [List.getElem?_map, ex]
        rfl
      refine ⟨b', _, rfl, hfx', rfl, ?_⟩
      walk_at "rd"
      refine ⟨by show 2 ≤ sizeLine; decide, fun t2 newt2 => ?_⟩
      have s3 := same_upd (o := .tup [V.int (c i' j'), V.int 1]) newt2
      refine ⟨t, t2, x i' j', ⟨c i' j', 1⟩, rfl, same_fr s3 p6, SqT.of upd_same, (hsz i' j' hx hy).1, (hsz i' j' hx hy).2, fun H4 p s4 hp4 => ?_⟩
      exact hv.next kept_fr framedA_fr (s3.trans s4) hp4 ecost newD (by omega)
    · intro H2 hv
      rw [List.length_map, hlen, ← hcl] at hv
      obtain ⟨s2, l2⟩ := hv.done rfl
      refine ⟨D, _, rfl, l2, hpr, hps, fun H3 p s3 hp3 => k H3 p ((s1.trans s2).trans s3) hp3⟩
omit TB in
theorem df_lowest_cost {f : Addr} {fd : FuncData} (hm : mg "lowest_cost" = some (.ref f)) (F : Fun K "lowest_cost" "lowest_cost" s_lowest_cost f fd) (c_cheapest_amounts : Df P w K mg base CX0 6 "cheapest_amounts" (spCheapAmt K P0)) (c_with_fractions : Df P w K mg base CX0 3 "with_fractions" (spWithF K)) (c_cost_of : Df P w K mg base CX0 5 "cost_of" (spCost K)) : Df P w K mg base CX0 7 "lowest_cost" (spLowest K P0) := by
  refine df_of (F.ok sc_lowest_cost (fun vs H Q E h => ?_) (fun cdv A outer s H vs Q E hr h => ⟨_,
(pss_cons (ps_asg (pe_c0 c_cheapest_amounts hr (by decide) rfl (pa_cons (pv 0) (pa_cons (pv 1) (pa_cons (pv 2) pa_nil)))) (pg_tup rfl (pgs_cons (pg_name (i := 3) sc_lowest_cost.nd rfl (Or.inl rfl)) (pgs_cons (pg_name (i := 4) sc_lowest_cost.nd rfl (Or.inl rfl)) pgs_nil))))
 (pss_one (ps_ret (pe_c0 c_cost_of hr (by decide) rfl (pa_cons (pv 0) (pa_cons (pe_c0 c_with_fractions hr (by decide) rfl (pa_cons (pv 3) (pa_cons (pv 4) pa_nil))) pa_nil))))))
   , ?_⟩)) hm F.kp (F.binds fun _ _ _ _ _ _ us hl => match us, hl with | [_, _, _], _ => rfl)
  · obtain ⟨a, b, d, n, c, xs, ys, D, L, W, J, rfl, _⟩ := h
    rfl
  · obtain ⟨a, b, d, n, c, xs, ys, D, L, W, J, rfl, ⟨hC, hb, hd, hn, hA, hT, hR, hJ⟩, hok, k⟩ := h
    refine ⟨_, rfl, _, rfl, _, rfl, a, b, d, n, c, xs, ys, D, L, W, J, rfl, hC, hb, hd, hn, hA, hT, hR, hJ, fun H1 t q p L' W' eN T1 ht hM hJ' hS => ?_⟩
    refine ⟨t, _, rfl, ht, rfl, _, _, rfl, _, _, rfl, rfl, ?_⟩
    have hC1 : Mx K H1 a n c := hC.extN eN
    have hE : Ends_ n J p := ⟨L', W', hJ', hS⟩
    have ok := hok p hE
    refine ⟨_, rfl, _, rfl, _, rfl, q, n, D, p, rfl, hM, hn, hA.pos, hA.lt, fun H2 r s2 newr hr2 => ?_⟩
    refine ⟨a, r, n, c, _, rfl, hC1.same s2, hr2, hn, ok.sz, ok.pr, ok.ps, fun H3 v s3 hv => ?_⟩
    exact k H3 v p (eN.trans (LamX.ExtN.of (s2.trans s3))) (T1.ext (s2.trans s3)) hE hv
omit TB in
theorem df_optimal_potentials {f : Addr} {fd : FuncData} (hm : mg "optimal_potentials" = some (.ref f)) (F : Fun K "optimal_potentials" "optimal_potentials" s_optimal_potentials f fd) (c_cheapest_amounts : Df P w K mg base CX0 6 "cheapest_amounts" (spCheapAmt K P0)) (c_greatest_potentials : Df P w K mg base CX0 3 "greatest_potentials" (spPotentials K)) : Df P w K mg base CX0 7 "optimal_potentials" (spOptPot K P0) := by
  refine df_of (F.ok sc_optimal_potentials (fun vs H Q E h => ?_) (fun cdv A outer s H vs Q E hr h => ⟨_,
(pss_cons (ps_asg (pe_c0 c_cheapest_amounts hr (by decide) rfl (pa_cons (pv 0) (pa_cons (pv 1) (pa_cons (pv 2) pa_nil)))) (pg_tup rfl (pgs_cons (pg_name (i := 3) sc_optimal_potentials.nd rfl (Or.inl rfl)) (pgs_cons (pg_name (i := 4) sc_optimal_potentials.nd rfl (Or.inl rfl)) pgs_nil))))
 (pss_one (ps_ret (pe_c0 c_greatest_potentials hr (by decide) rfl (pa_cons (pv 0) (pa_cons (pv 3) pa_nil))))))
   , ?_⟩)) hm F.kp (F.binds fun _ _ _ _ _ _ us hl => match us, hl with | [_, _, _], _ => rfl)
  · obtain ⟨a, b, d, n, c, xs, ys, D, L, W, J, rfl, _⟩ := h
    rfl
  · obtain ⟨a, b, d, n, c, xs, ys, D, L, W, J, rfl, ⟨hC, hb, hd, hn, hA, hT, hR, hJ⟩, hn0, k⟩ := h
    refine ⟨_, rfl, _, rfl, _, rfl, a, b, d, n, c, xs, ys, D, L, W, J, rfl, hC, hb, hd, hn, hA, hT, hR, hJ, fun H1 t q p L' W' eN T1 ht hM hJ' hS => ?_⟩
    refine ⟨t, _, rfl, ht, rfl, _, _, rfl, _, _, rfl, rfl, ?_⟩
    have hC1 : Mx K H1 a n c := hC.extN eN
    have hE : Ends_ n J p := ⟨L', W', hJ', hS⟩
    refine ⟨_, rfl, _, rfl, a, q, n, c, p, rfl, hC1, hM, hn, hn0, fun H2 r s2 newr hr2 => ?_⟩
    exact k H2 r p (eN.trans (LamX.ExtN.of s2)) (T1.ext s2) hE hr2
omit TB in
theorem df_optimal_plan {f : Addr} {fd : FuncData} (hm : mg "optimal_plan" = some (.ref f)) (F : Fun K "optimal_plan" "optimal_plan" s_optimal_plan f fd) (c_cheapest_amounts : Df P w K mg base CX0 6 "cheapest_amounts" (spCheapAmt K P0)) (c_with_fractions : Df P w K mg base CX0 3 "with_fractions" (spWithF K)) (c_greatest_potentials : Df P w K mg base CX0 3 "greatest_potentials" (spPotentials K)) (c_greatest_plan : Df P w K mg base CX0 5 "greatest_plan" (spGreatest K)) : Df P w K mg base CX0 7 "optimal_plan" (spOptPlan K P0) := by
  refine df_of (F.ok sc_optimal_plan (fun vs H Q E h => ?_) (fun cdv A outer s H vs Q E hr h => ⟨_,
(pss_cons (ps_asg (pe_c0 c_cheapest_amounts hr (by decide) rfl (pa_cons (pv 0) (pa_cons (pv 1) (pa_cons (pv 2) pa_nil)))) (pg_tup rfl (pgs_cons (pg_name (i := 3) sc_optimal_plan.nd rfl (Or.inl rfl)) (pgs_cons (pg_name (i := 4) sc_optimal_plan.nd rfl (Or.inl rfl)) pgs_nil))))
 (pss_cons (ps_set (i := 5) sc_optimal_plan.nd rfl (Or.inl rfl) (pe_c0 c_greatest_plan hr (by decide) rfl (pa_cons (pv 0) (pa_cons (pe_c0 c_greatest_potentials hr (by decide) rfl (pa_cons (pv 0) (pa_cons (pv 3) pa_nil))) (pa_cons (pv 3) pa_nil)))))
 (pss_one (ps_ret (pe_c0 c_with_fractions hr (by decide) rfl (pa_cons (pv 5) (pa_cons (pv 4) pa_nil)))))))
   , ?_⟩)) hm F.kp (F.binds fun _ _ _ _ _ _ us hl => match us, hl with | [_, _, _], _ => rfl)
  · obtain ⟨a, b, d, n, c, xs, ys, D, L, W, J, R, rfl, _⟩ := h
    rfl
  · obtain ⟨a, b, d, n, c, xs, ys, D, L, W, J, R, rfl, ⟨hC, hb, hd, hn, hA, hT, hR, hJ⟩, hn0, hok, k⟩ := h
    refine ⟨_, rfl, _, rfl, _, rfl, a, b, d, n, c, xs, ys, D, L, W, J, rfl, hC, hb, hd, hn, hA, hT, hR, hJ, fun H1 t q p L' W' eN T1 ht hM hJ' hS => ?_⟩
    refine ⟨t, _, rfl, ht, rfl, _, _, rfl, _, _, rfl, rfl, ?_⟩
    have hC1 : Mx K H1 a n c := hC.extN eN
    have hE : Ends_ n J p := ⟨L', W', hJ', hS⟩
    obtain ⟨J2, JJ, M, hG, hJ2, hR2⟩ := hok p hE
    refine ⟨_, rfl, _, rfl, _, rfl, a, q, n, c, p, rfl, hC1, hM, hn, hn0, fun H2 r s2 newr hr2 => ?_⟩
    have sr : SqL K H2 r (rowI n (potL n c p)) := SqL.of hr2
    refine ⟨_, rfl, a, r, q, n, c, p, potL n c p, J2, JJ, M, rfl, hC1.same s2, sr, hM.same s2, hn, hn0, hG, hJ2, fun H3 g p2 s3 newg hg hJ3 => ?_⟩
    refine ⟨_, rfl, _, rfl, g, n, D, p2, rfl, hg, hn, hA.pos, hA.lt, fun H4 o s4 newo ho => ?_⟩
    exact k H4 o p2 (eN.trans (LamX.ExtN.of ((s2.trans s3).trans s4))) (T1.ext ((s2.trans s3).trans s4)) (hR2 p2 hJ3) ho
omit TB in
theorem df_value_of {f : Addr} {fd : FuncData} (hm : mg "value_of" = some (.ref f)) (F : Fun K "value_of" "value_of" s_value_of f fd) (c_plus : Df P w K mg base CX0 3 "plus" (spOp2 K Sr58.plus)) (c_minus : Df P w K mg base CX0 3 "minus" (spOp2 K Sr66.minus))
    (c_times : Df P w K mg base CX0 3 "times" (spOp2 K Sr58.times)) : Df P w K mg base CX0 4 "value_of" (spValue K) := by
  refine df_of (F.ok sc_value_of (fun vs H Q E h => ?_) (fun cdv A outer s H vs Q E hr h => ⟨_,
(pss_cons (ps_set (i := 3) sc_value_of.nd rfl (Or.inl rfl) (pe_gk rfl G.ZERO_))
 (pss_cons (ps_for PassesOwn.never rfl (pi_range1 rfl B.range_ (pa_cons (pe_callB call_len_seq (by rfl) B.len_ (by decide +kernel) (pa_cons (pv 0) pa_nil)) pa_nil)) (pg_name (i := 4) sc_value_of.nd rfl (Or.inl rfl)) (pss_one (ps_set (i := 3) sc_value_of.nd rfl (Or.inl rfl) (pe_c0 c_plus hr (by decide) rfl (pa_cons (pv 3) (pa_cons (pe_c0 c_times hr (by decide) rfl (pa_cons (pe_tup (pa_cons (pe_ix ix_list (pv 0) (pv 4) (fun _ _ => rfl)) (pa_cons pe_int pa_nil))) (pa_cons (pe_c0 c_minus hr (by decide) rfl (pa_cons (pe_ix ix_list (pv 2) (pv 4) (fun _ _ => rfl)) (pa_cons (pe_ix ix_list (pv 1) (pv 4) (fun _ _ => rfl)) pa_nil))) pa_nil))) pa_nil))))))
 (pss_one (ps_ret (pv 3)))))
   , ?_⟩)) hm F.kp (F.binds fun _ _ _ _ _ _ us hl => match us, hl with | [_, _, _], _ => rfl)
  · obtain ⟨a, b, d, n, u, x, y, rfl, _⟩ := h
    rfl
  · obtain ⟨a, b, d, n, u, x, y, rfl, hU, hX, hY, hn, ok, k⟩ := h
    refine ⟨_, rfl, a, _, rfl, .inl hU, ?_⟩
    rw [row_len]
    refine ⟨_, rfl, by omega, by omega, ?_⟩
    refine for_range0 (n := n) (fun i σ H' => ∃ (z : Addr) (o4 : Option V), σ = [some (.ref a), some (.ref b), some (.ref d), some (.ref z), o4] ∧ Same H H' ∧ FrAt K H' z (valP u x y i)) ⟨A0.zero, none, rfl, Same.refl _, G.zeroAt _⟩ ?_ ?_
    · rintro i σ H' hi ⟨z, o4, rfl, s1, hz⟩
      have u1 := row_at (g := u) hi
      have sU := s1.seq hU
      obtain ⟨bs, b1, _, bg⟩ := fracs_all (same_fracs s1 hX)
      obtain ⟨tx, b2, _, b3⟩ := bg i hi
      refine ⟨_, rfl, _, rfl, _, rfl, _, _, _, _, rfl, rfl, sU, u1, by show 2 ≤ sizeLine; decide, fun t newt => ?_⟩
      have s2 := same_upd (o := .tup [V.int (u i), V.int 1]) newt
      have et : FrAt K (upd H' t (.tup [V.int (u i), V.int 1])) t ⟨u i, 1⟩ := SqT.of upd_same
      generalize upd H' t (.tup [V.int (u i), V.int 1]) = H2 at s2 et
      obtain ⟨cs, c1, _, cg⟩ := fracs_all (same_fracs (s1.trans s2) hY)
      obtain ⟨ty, c2, _, c3⟩ := cg i hi
      refine ⟨_, rfl, _, rfl, _, _, _, _, rfl, rfl, c1, c2, _, rfl, _, rfl, _, _, _, _, rfl, rfl, s2.seq b1, b2, ty, tx, y i, x i, rfl, c3, same_fr s2 b3, ok.sy i hi, ok.sx i hi, fun H3 m s3 hm3 => ?_⟩
      refine ⟨t, m, ⟨u i, 1⟩, _, rfl, same_fr s3 et, hm3, ok.su i hi, ok.sm i hi, fun H4 r s4 hr4 => ?_⟩
      refine ⟨z, r, _, _, rfl, same_fr ((s2.trans s3).trans s4) hz, hr4, ok.sp i hi, ok.st i hi, fun H5 q s5 hq => ?_⟩
      exact ⟨q, _, rfl, (((s1.trans s2).trans s3).trans s4).trans s5, hq⟩
    · rintro σ H' ⟨z, o4, rfl, s1, hz⟩
      exact ⟨_, rfl, k H' z s1 hz⟩
omit TB in
theorem df_row_sums {f : Addr} {fd : FuncData} (hm : mg "row_sums" = some (.ref f)) (F : Fun K "row_sums" "row_sums" s_row_sums f fd) (c_total : Df P w K mg base CX0 4 "total" (spTotal K)) : Df P w K mg base CX0 5 "row_sums" (spRowSums K) := by
  refine df_of (F.ok sc_row_sums (fun vs H Q E h => ?_) (fun cdv A outer s H vs Q E hr h => ⟨_,
(pss_one (ps_ret (pe_lc (own := [("row", 1)]) (g := gName 1) (tt := tYes) rfl sc_row_sums.nd (pi_list (pv 0)) (blkOk_by (own := [("row", 1)]) (N := ["plan", "row"]) (by kernel_rfl))
 (fun _ _ _ _ _ => (pg_name (i := 1) sc_row_sums.nd rfl (Or.inl rfl))) (fun _ _ _ _ _ => pts_nil) (fun _ _ _ _ _ => (pe_c0 c_total hr (by decide) rfl (pa_cons (pv 1) pa_nil))))))
   , ?_⟩)) hm F.kp (F.binds fun _ _ _ _ _ _ us hl => match us, hl with | [_], _ => rfl)
  · obtain ⟨b, n, x, rfl, _⟩ := h
    rfl
  · obtain ⟨b, n, x, rfl, ⟨as, ha1, ha2⟩, hn, ok, k⟩ := h
    have hla : as.length = n := by rw [Paired.length ha2, List.length_map, List.length_range]
    refine ⟨_, rfl, b, rfl, ⟨_, SqL.of ha1⟩, fun D newD => ?_⟩
    refine lc_list (K := K) (a := b) (xs := as.map V.ref) (MadeT (FrAt K) H D (rowsP n x)) (MadeT.start newD) (fun i H' _ e => e.same.seq (SqL.of ha1)) ?_ ?_
    · rintro i y H' hi hv
      obtain ⟨r, er, rfl⟩ := map_get hi
      have hin : i < n := by
        rw [← hla]
        exact (List.getElem?_eq_some_iff.mp er).1
      obtain ⟨row, erow, hrow⟩ := ListOf.nth ha2 er
      rw [range_get hin] at erow
      cases erow
      have hrow' := same_fracs hv.same hrow
      have erw : (rowsP n x)[i]? = some (Sr58.total ((List.range n).map fun j => x i j)) := range_get hin
      refine ⟨rfl, tY ⟨_, rfl, r, _, rfl, hrow', (ok i hin).sz, (ok i hin).ps, fun H4 p s4 hp4 => ?_⟩⟩
      exact hv.next kept_fr framedA_fr s4 hp4 erw newD (by unfold rowsP; rw [List.length_map, List.length_range]; omega)
    · intro H' hv
      rw [List.length_map, hla] at hv
      obtain ⟨s1, l1⟩ := hv.done (by unfold rowsP; rw [List.length_map, List.length_range])
      exact k H' D s1 newD l1
omit TB in
theorem df_column_sums {f : Addr} {fd : FuncData} (hm : mg "column_sums" = some (.ref f)) (F : Fun K "column_sums" "column_sums" s_column_sums f fd) (c_total : Df P w K mg base CX0 4 "total" (spTotal K)) : Df P w K mg base CX0 5 "column_sums" (spColSums K) := by
  refine df_of (F.ok sc_column_sums (fun vs H Q E h => ?_) (fun cdv A outer s H vs Q E hr h => ⟨_,
(pss_cons (ps_set (i := 1) sc_column_sums.nd rfl (Or.inr rfl) (pe_callB call_len_seq (by rfl) B.len_ (by decide +kernel) (pa_cons (pv 0) pa_nil)))
 (pss_one (ps_ret (pe_lc (own := [("j", 3)]) (g := gName 3) (tt := tYes) rfl sc_column_sums.nd (pi_range1 rfl B.range_ (pa_cons (pv 1) pa_nil)) (blkOk_by (own := [("j", 3)]) (N := ["plan", "n", "i", "j"]) (by kernel_rfl))
 (fun _ _ _ _ _ => (pg_name (i := 3) sc_column_sums.nd rfl (Or.inr rfl))) (fun _ _ _ _ _ => pts_nil) (fun _ _ _ _ _ => (pe_c0 c_total hr (by decide) rfl (pa_cons (pe_lc (own := [("i", 2)]) (g := gName 2) (tt := tYes) rfl sc_column_sums.nd (pi_range1 rfl B.range_ (pa_cons (pv 1) pa_nil)) (blkOk_by (own := [("i", 2)]) (N := ["plan", "n", "i", "j"]) (by kernel_rfl))
 (fun _ _ _ _ _ => (pg_name (i := 2) sc_column_sums.nd rfl (Or.inl rfl))) (fun _ _ _ _ _ => pts_nil) (fun _ _ _ _ _ => (pe_ix (ixL (K := K)) (pe_ix (ixL (K := K)) (pv 0) (pv 2) (fun _ _ => rfl)) (pv 3) (fun _ _ => rfl)))) pa_nil)))))))
   , ?_⟩)) hm F.kp (F.binds fun _ _ _ _ _ _ us hl => match us, hl with | [_], _ => rfl)
  · obtain ⟨b, n, x, rfl, _⟩ := h
    rfl
  · obtain ⟨b, n, x, rfl, hX, hn, ok, k⟩ := h
    obtain ⟨as, l1, l2, _⟩ := matF_all hX
    refine ⟨_, rfl, b, _, rfl, .inl l1, ?_⟩
    rw [List.length_map, l2]
    refine ⟨_, rfl, _, rfl, by omega, by omega, fun D newD => ?_⟩
    refine lc_range0 (n := n) (MadeT (FrAt K) H D (colsP n x)) (MadeT.start newD) (fun j H1 hj hv => ?_) fun H1 hv => ?_
    · refine ⟨rfl, tY ?_⟩
      refine ⟨_, rfl, _, rfl, by omega, by omega, fun D2 new2 => ?_⟩
      refine lc_range0 (n := n) (MadeT (FrAt K) H1 D2 ((List.range n).map fun i => x i j)) (MadeT.start new2) (fun i H2 hi hv2 => ?_) fun H2 hv2 => ?_
      · obtain ⟨qs, p1, _, pg⟩ := matF_all (same_matF (hv.same.trans hv2.same) hX)
        obtain ⟨r, p2, _, p3⟩ := pg i hi
        obtain ⟨bs, p4, _, pg2⟩ := fracs_all p3
        obtain ⟨t, p5, _, p6⟩ := pg2 j hj
        obtain ⟨acc, r1, r2, r3⟩ := hv2.next kept_fr framedA_fr (Same.refl _) p6 (range_get (f := fun i => x i j) hi) new2 (by rw [List.length_map, List.length_range]; omega)
        refine ⟨rfl, tY ?_⟩
        walk_at "rd"
        exact r3.choose_spec
      · obtain ⟨s2, e2⟩ := hv2.done (by rw [List.length_map, List.length_range])
        refine ⟨D2, _, rfl, e2, (ok j hj).sz, (ok j hj).ps, fun H4 p s4 hp4 => ?_⟩
        have erw : (colsP n x)[j]? = some (Sr58.total ((List.range n).map fun i => x i j)) := range_get hj
        exact hv.next kept_fr framedA_fr (s2.trans s4) hp4 erw newD (by unfold colsP; rw [List.length_map, List.length_range]; omega)
    · obtain ⟨s1, e1⟩ := hv.done (by unfold colsP; rw [List.length_map, List.length_range])
      exact k H1 D s1 newD e1
omit TB in
theorem df_composed_entry {f : Addr} {fd : FuncData} (hm : mg "composed_entry" = some (.ref f)) (F : Fun K "composed_entry" "composed_entry" s_composed_entry f fd) (c_total : Df P w K mg base CX0 4 "total" (spTotal K)) (c_times : Df P w K mg base CX0 3 "times" (spOp2 K Sr58.times))
    (c_divided : Df P w K mg base CX0 3 "divided" (spDiv K)) : Df P w K mg base CX0 5 "composed_entry" (spCompE K) := by
  refine df_of (F.ok sc_composed_entry (fun vs H Q E h => ?_) (fun cdv A outer s H vs Q E hr h => ⟨_,
(pss_cons (ps_setLc (i := 5) (own := [("j", 6)]) (g := gName 6) rfl sc_composed_entry.nd rfl rfl (sw_true rfl rfl rfl (by decide +kernel)) (pi_range1 rfl B.range_ (pa_cons (pe_callB call_len_seq (by rfl) B.len_ (by decide +kernel) (pa_cons (pv 2) pa_nil)) pa_nil)) (blkOk_by (own := [("j", 6)]) (N := ["first", "second", "middle", "i", "k", "some", "j"]) (by kernel_rfl))
 (fun _ _ _ _ _ => (pg_name (i := 6) sc_composed_entry.nd rfl (Or.inl rfl))) (fun _ _ _ _ _ => (pts_one (pt_cmpR op_gt (pe_ix (ixT (K := K)) (pe_ix (ixL (K := K)) (pv 2) (pv 6) (fun _ _ => rfl)) pe_int (fun _ _ => rfl)) pe_int (nomark _)))) (fun _ _ _ _ _ => (pv 6)))
 (pss_one (ps_ret (pe_c0 c_total hr (by decide) rfl (pa_cons (pe_lc (own := [("j", 6)]) (g := gName 6) (tt := tYes) rfl sc_composed_entry.nd (pi_list (pv 5)) (blkOk_by (own := [("j", 6)]) (N := ["first", "second", "middle", "i", "k", "some", "j"]) (by kernel_rfl))
 (fun _ _ _ _ _ => (pg_name (i := 6) sc_composed_entry.nd rfl (Or.inl rfl))) (fun _ _ _ _ _ => pts_nil) (fun _ _ _ _ _ => (pe_c0 c_divided hr (by decide) rfl (pa_cons (pe_c0 c_times hr (by decide) rfl (pa_cons (pe_ix (ixL (K := K)) (pe_ix (ixL (K := K)) (pv 0) (pv 3) (fun _ _ => rfl)) (pv 6) (fun _ _ => rfl)) (pa_cons (pe_ix (ixL (K := K)) (pe_ix (ixL (K := K)) (pv 1) (pv 6) (fun _ _ => rfl)) (pv 4) (fun _ _ => rfl)) pa_nil))) (pa_cons (pe_ix (ixL (K := K)) (pv 2) (pv 6) (fun _ _ => rfl)) pa_nil))))) pa_nil)))))
   , ?_⟩)) hm F.kp (F.binds fun _ _ _ _ _ _ us hl => match us, hl with | [_, _, _, _, _], _ => rfl)
  · obtain ⟨a, b, d, i, k, n, x, y, m, rfl, _⟩ := h
    rfl
  · obtain ⟨a, b, d, i, k, n, x, y, m, rfl, hX, hY, hM, hn, hi, hk, ok, q⟩ := h
    obtain ⟨ms, m1, m2, _⟩ := fracs_all hM
    refine ⟨_, rfl, d, _, rfl, .inl m1, ?_⟩
    rw [List.length_map, m2]
    refine ⟨_, rfl, by omega, by omega, fun D newD => ?_⟩
    refine lc_range0 (n := n) (fun j H' => GrowV H D (natsV (posL j fun j => (m j).n)) H') (GrowV.start newD) (fun j H' hj hv => ?_) fun H1 hv => ?_
    · obtain ⟨ns, n1, _, ng⟩ := fracs_all (same_fracs hv.2 hM)
      obtain ⟨t, n2, _, n3⟩ := ng j hj
      have n3 : SqT K H' t [.int (m j).n, .int ((m j).d : Int)] := n3
      have n4 : atI [V.int (m j).n, V.int ((m j).d : Int)] 0 = some (.int (m j).n) := rfl
      walk_at "rd"
      refine ite2 (fun c1 => ?_) (fun c1 => ?_)
      · have c1 := of_decide_eq_true c1
        obtain ⟨acc, r1, r2, r3⟩ := hv.app (y := V.int (j : Int)) newD (by
          have := posL_len j fun j => (m j).n
          rw [List.length_map, List.length_map]
          omega)
        refine ⟨_, rfl, acc, r1, r2, ?_⟩
        rw [posL_succ, if_pos c1]
        unfold natsV
        rw [List.map_append, List.map_append]
        exact r3
      · have c1 : ¬ 0 < (m j).n := fun z => c1 (decide_eq_true z)
        rw [posL_succ, if_neg c1, List.append_nil]
        exact hv
    obtain ⟨eD, s1⟩ := hv
    have hlc : (compP n x y m i k).length = (posL n fun j => (m j).n).length := by
      unfold compP
      rw [List.length_map]
    have hpl := posL_len n fun j => (m j).n
    refine ⟨_, rfl, D, rfl, ⟨_, SqL.of eD⟩, fun R newR => ?_⟩
    refine lc_list (K := K) (a := D) (xs := natsV (posL n fun j => (m j).n)) (MadeT (FrAt K) H1 R (compP n x y m i k)) (MadeT.start newR) (fun i H' _ e => e.same.seq (SqL.of eD)) ?_ ?_
    · rintro t z H' hz hv
      obtain ⟨z', hz', rfl⟩ := map_get hz
      obtain ⟨j, hj, rfl⟩ := map_get hz'
      obtain ⟨hjn, hjp⟩ := posL_mem.mp (List.mem_of_getElem? hj)
      have s2 := s1.trans hv.same
      obtain ⟨as, a1, _, ag⟩ := matF_all (same_matF s2 hX)
      obtain ⟨ra, a2, _, a3⟩ := ag i hi
      obtain ⟨as2, a4, _, ag2⟩ := fracs_all a3
      obtain ⟨ta, a5, _, a6⟩ := ag2 j hjn
      obtain ⟨bs, b1, _, bg⟩ := matF_all (same_matF s2 hY)
      obtain ⟨rb, b2, _, b3⟩ := bg j hjn
      obtain ⟨bs2, b4, _, bg2⟩ := fracs_all b3
      obtain ⟨tb, b5, _, b6⟩ := bg2 k hk
      have e1 : (compP n x y m i k)[t]? = some (Sr66.over (Sr58.times (x i j) (y j k)) (m j)) := by
        unfold compP
        rw [List.getElem?_map, hj]
        rfl
      refine ⟨rfl, tY ?_⟩
      refine ⟨_, rfl, _, rfl, _, _, _, _, rfl, rfl, a1, a2, _, rfl, _, _, _, _, rfl, rfl, a4, a5, _, rfl, _, rfl, _, _, _, _, rfl, rfl, b1, b2, _, rfl, _, _, _, _, rfl, rfl, b4, b5, ta, tb, _, _, rfl, a6, b6, ok.sx i j hi hjn, ok.sy j k hjn hk, fun H3 p3 s3 hp3 => ?_⟩
      obtain ⟨cs, c1, _, cg⟩ := fracs_all (same_fracs (s2.trans s3) hM)
      obtain ⟨tc, c2, _, c3⟩ := cg j hjn
      refine ⟨_, rfl, _, rfl, _, _, _, _, rfl, rfl, c1, c2, p3, tc, _, _, rfl, hp3, c3, ok.st i j k hi hjn hk, ok.sm j hjn, hjp, fun H4 p4 s4 hp4 => ?_⟩
      exact hv.next kept_fr framedA_fr (s3.trans s4) hp4 e1 newR (by omega)
    · intro H2 hv
      rw [List.length_map, List.length_map, ← hlc] at hv
      obtain ⟨s2, e2⟩ := hv.done rfl
      have tk := ok.tot i k hi hk
      exact ⟨R, _, rfl, e2, tk.sz, tk.ps, fun H3 p s3 hp3 => q H3 p ((s1.trans s2).trans s3) hp3⟩
omit TB in
theorem df_composition {f : Addr} {fd : FuncData} (hm : mg "composition" = some (.ref f)) (F : Fun K "composition" "composition" s_composition f fd) (c_composed_entry : Df P w K mg base CX0 5 "composed_entry" (spCompE K)) : Df P w K mg base CX0 6 "composition" (spComp K) := by
  refine df_of (F.ok sc_composition (fun vs H Q E h => ?_) (fun cdv A outer s H vs Q E hr h => ⟨_,
(pss_cons (ps_set (i := 3) sc_composition.nd rfl (Or.inr rfl) (pe_callB call_len_seq (by rfl) B.len_ (by decide +kernel) (pa_cons (pv 2) pa_nil)))
 (pss_one (ps_ret (pe_lc (own := [("i", 5)]) (g := gName 5) (tt := tYes) rfl sc_composition.nd (pi_range1 rfl B.range_ (pa_cons (pv 3) pa_nil)) (blkOk_by (own := [("i", 5)]) (N := ["first", "second", "middle", "n", "k", "i"]) (by kernel_rfl))
 (fun _ _ _ _ _ => (pg_name (i := 5) sc_composition.nd rfl (Or.inr rfl))) (fun _ _ _ _ _ => pts_nil) (fun _ _ _ _ _ => (pe_lc (own := [("k", 4)]) (g := gName 4) (tt := tYes) rfl sc_composition.nd (pi_range1 rfl B.range_ (pa_cons (pv 3) pa_nil)) (blkOk_by (own := [("k", 4)]) (N := ["first", "second", "middle", "n", "k", "i"]) (by kernel_rfl))
 (fun _ _ _ _ _ => (pg_name (i := 4) sc_composition.nd rfl (Or.inl rfl))) (fun _ _ _ _ _ => pts_nil) (fun _ _ _ _ _ => (pe_c0 c_composed_entry hr (by decide) rfl (pa_cons (pv 0) (pa_cons (pv 1) (pa_cons (pv 2) (pa_cons (pv 5) (pa_cons (pv 4) pa_nil)))))))))))))
   , ?_⟩)) hm F.kp (F.binds fun _ _ _ _ _ _ us hl => match us, hl with | [_, _, _], _ => rfl)
  · obtain ⟨a, b, d, n, x, y, m, rfl, _⟩ := h
    rfl
  · obtain ⟨a, b, d, n, x, y, m, rfl, hX, hY, hM, hn, ok, q⟩ := h
    obtain ⟨ms, m1, m2, _⟩ := fracs_all hM
    refine ⟨_, rfl, d, _, rfl, .inl m1, ?_⟩
    rw [List.length_map, m2]
    have mlen : (XF n fun i k => Sr58.total (compP n x y m i k)).length = n := by rw [List.length_map, List.length_range]
    refine ⟨_, rfl, _, rfl, by omega, by omega, fun R newR => ?_⟩
    refine lc_range0 (n := n) (Made (FracsAt K) H R (XF n fun i k => Sr58.total (compP n x y m i k))) (Made.start newR) (fun i H1 hi hv => ?_) fun H1 hv => ?_
    · have erow : (XF n fun i k => Sr58.total (compP n x y m i k))[i]? = some ((List.range n).map fun k => Sr58.total (compP n x y m i k)) := range_get hi
      refine ⟨rfl, tY ?_⟩
      refine ⟨_, rfl, _, rfl, by omega, by omega, fun R2 newR2 => ?_⟩
      refine lc_range0 (n := n) (MadeT (FrAt K) H1 R2 ((List.range n).map fun k => Sr58.total (compP n x y m i k))) (MadeT.start newR2) (fun k H2 hk hv2 => ?_) fun H2 hv2 => ?_
      · have s2 := hv.same.trans hv2.same
        refine ⟨rfl, tY ?_⟩
        refine ⟨_, rfl, _, rfl, _, rfl, _, rfl, _, rfl, a, b, d, i, k, n, x, y, m, rfl, same_matF s2 hX, same_matF s2 hY, same_fracs s2 hM, hn, hi, hk, ok, fun H3 t s3 ht => ?_⟩
        exact hv2.next kept_fr framedA_fr s3 ht (range_get hk) newR2 (by rw [List.length_map, List.length_range]; omega)
      · obtain ⟨s2, l2⟩ := hv2.done (by rw [List.length_map, List.length_range])
        exact hv.next kept_fracs framed_fracs s2 l2 (hv.ne newR2) erow newR (by rw [mlen]; omega)
    · obtain ⟨s1, l1⟩ := hv.done mlen
      exact q H1 R s1 newR l1
end
end EW
end

/-! ## EwIsPlan -/
section
set_option Elab.async false
set_option linter.all false
set_option maxRecDepth 100000
set_option maxHeartbeats 2000000
set_option autoImplicit false
namespace EW
open PySem PySem.Spec PyProof.Rows L2
open Sr58 (Frac)
local macro_rules | `(tactic| walk_at "rd") => `(tactic| repeat (first | refine ⟨rfl, ?_⟩ | apply Exists.intro | refine ⟨by assumption, ?_⟩))
abbrev s_is_plan : Stmt := top 62
theorem sc_is_plan : FnScope ["plan", "before", "after", "n", "i", "j"] ["plan", "before", "after"] (defScope s_is_plan) := ⟨rfl, rfl, rfl, by decide +kernel, rfl, by decide +kernel, by decide +kernel⟩
def fracD (x : Frac) : PyData := .tuple [.int x.n, .int (x.d : Int)]
theorem fracD_eqv (x y : Frac) : PyData.eqv (fracD x) (fracD y) = decide (x = y) := by
  obtain ⟨a, b⟩ := x
  obtain ⟨c, d⟩ := y
  have e : PyData.eqv (fracD ⟨a, b⟩) (fracD ⟨c, d⟩) = ((a == c) && (((b : Int) == (d : Int)) && true)) := by simp only [fracD, PyData.eqv, PyData.eqvAll]
  rw [e]
  by_cases h : a = c
  · by_cases h2 : b = d
    · subst h h2
      simp
    · rw [decide_eq_false (fun z => h2 (by injection z))]
      simp [h]
      omega
  · rw [decide_eq_false (fun z => h (by injection z))]
    simp [h]
theorem fracs_eqv : ∀ xs ys : List Frac, PyData.eqvAll (xs.map fracD) (ys.map fracD) = decide (xs = ys)
  | [], [] => by simp [PyData.eqvAll]
  | [], y :: ys => by simp [PyData.eqvAll]
  | x :: xs, [] => by simp [PyData.eqvAll]
  | x :: xs, y :: ys => by
    rw [List.map_cons, List.map_cons, PyData.eqvAll, fracD_eqv, fracs_eqv xs ys]
    by_cases h : x = y
    · by_cases h2 : xs = ys
      · simp [h, h2]
      · simp [h, h2]
    · simp [h]
theorem fracD_lay (x : Frac) : (fracD x).canLay0 = true := by simp [fracD, PyData.canLay0, PyData.canLayAll0]
theorem fracD_depth (x : Frac) : (fracD x).depth = 1 := by simp [fracD, PyData.depth, PyData.depthAll]
theorem fracs_lay : ∀ l : List Frac, PyData.canLayAll0 (l.map fracD) = true
  | [] => by simp [PyData.canLayAll0]
  | z :: l => by simp [PyData.canLayAll0, fracD_lay z, fracs_lay l]
theorem fracs_depth : ∀ l : List Frac, PyData.depthAll (l.map fracD) ≤ 1
  | [] => by simp [PyData.depthAll]
  | z :: l => by
    have := fracs_depth l
    have h2 := fracD_depth z
    simp only [List.map_cons, PyData.depthAll]
    omega
theorem fracs_shaped (l : List Frac) : SeqAt.shaped (.list (l.map fracD)) = true := by
  have h1 := fracs_depth l
  have h2 : PyData.depth (.list (l.map fracD)) ≤ 64 := by
    simp only [PyData.depth]
    omega
  show (PyData.canLay0 (.list (l.map fracD)) && decide (PyData.depth (.list (l.map fracD)) ≤ 64)) = true
  rw [Bool.and_eq_true]
  exact ⟨by simp only [PyData.canLay0]; exact fracs_lay l, decide_eq_true h2⟩
theorem fracs_dpa {K : PySem.W.Frag} {H : Hp} : ∀ {as : List Addr} {l : List Frac}, Paired (FrAt K H) as l → DpAll K H (as.map V.ref) (l.map fracD)
  | _, _, .nil => .nil
  | _, _, .cons r t => .cons (.tup r (.cons (.int _) (.cons (.int _) .nil))) (fracs_dpa t)
theorem fracs_dp {K : PySem.W.Frag} {H : Hp} {a : Addr} {l : List Frac} (h : FracsAt K H a l) : Dp K H (.ref a) (.list (l.map fracD)) := by
  obtain ⟨as, h1, h2⟩ := h
  exact .lst (SqL.of h1) (fracs_dpa h2)
def spIsPlan (K : PySem.W.Frag) : Sp := fun vs H Q _ => ∃ (b d1 d2 : Addr) (n : Nat) (x : Nat → Nat → Frac) (xs ys : List Frac), vs = [.ref b, .ref d1, .ref d2] ∧ MatFAt K H b (XF n x) ∧ FracsAt K H d1 xs ∧ FracsAt K H d2 ys ∧ 0 < n ∧ n ≤ 20 ∧
  (∀ i, i < n → TotOk ((List.range n).map fun j => x i j)) ∧ (∀ j, j < n → TotOk ((List.range n).map fun i => x i j)) ∧
  ∀ (H' : Hp) (r : Bool), Same H H' → (r = true ↔ (∀ i j, i < n → j < n → 0 ≤ (x i j).n) ∧ rowsP n x = xs ∧ colsP n x = ys) → Q (.bl r) H'
section
variable {P : Program} {w : World} {K : PySem.W.Frag} {mg : Str → Option Value} {base : Heap} (B : Nb mg) {A0 : Ad} (G : Gs K mg A0)
include B G
theorem df_is_plan {f : Addr} {fd : FuncData} (hm : mg "is_plan" = some (.ref f)) (F : Fun K "is_plan" "is_plan" s_is_plan f fd) (c_pairs : Df P w K mg base CX0 1 "pairs" (spPairs K)) (c_row_sums : Df P w K mg base CX0 5 "row_sums" (spRowSums K))
    (c_column_sums : Df P w K mg base CX0 5 "column_sums" (spColSums K)) : Df P w K mg base CX0 6 "is_plan" (spIsPlan K) := by
  refine df_of (F.ok sc_is_plan (fun vs H Q E h => ?_) (fun cdv A outer s H vs Q E hr h => ⟨_,
(pss_cons (ps_set (i := 3) sc_is_plan.nd rfl (Or.inl rfl) (pe_callB call_len_seq (by rfl) B.len_ (by decide +kernel) (pa_cons (pv 0) pa_nil)))
 (pss_cons (ps_if (pt_cmpR op_lt (pe_callB (cr_min rfl) (by rfl) B.min_ (by decide +kernel) (pa_cons (pe_lc (own := [("i", 4), ("j", 5)]) (tt := tYes) rfl sc_is_plan.nd (pi_list (pe_c0 c_pairs hr (by decide) rfl (pa_cons (pv 3) pa_nil))) (blkOk_by (own := [("i", 4), ("j", 5)]) (N := ["plan", "before", "after", "n", "i", "j"]) (by kernel_rfl))
 (fun _ _ _ _ _ => (pgT (K := K) (n := 2) rfl (pgs_cons (pg_name (i := 4) sc_is_plan.nd rfl (Or.inl rfl)) (pgs_cons (pg_name (i := 5) sc_is_plan.nd rfl (Or.inl rfl)) pgs_nil)))) (fun _ _ _ _ _ => pts_nil) (fun _ _ _ _ _ => (pe_ix (ixT (K := K)) (pe_ix (ixL (K := K)) (pe_ix (ixL (K := K)) (pv 0) (pv 4) (fun _ _ => rfl)) (pv 5) (fun _ _ => rfl)) pe_int (fun _ _ => rfl)))) pa_nil)) pe_int (nomark _)) (pss_one (ps_ret pe_bl)) pss_nil)
 (pss_one (ps_ret (pe_and (pe_cmpR (op_eqD hr.units) (pe_c0 c_row_sums hr (by decide) rfl (pa_cons (pv 0) pa_nil)) (pv 1) (nomark _)) (pe_one (pe_cmpR (op_eqD hr.units) (pe_c0 c_column_sums hr (by decide) rfl (pa_cons (pv 0) pa_nil)) (pv 2) (nomark _))))))))
   , ?_⟩)) hm F.kp (F.binds fun _ _ _ _ _ _ us hl => match us, hl with | [_, _, _], _ => rfl)
  · obtain ⟨b, d1, d2, n, x, xs, ys, rfl, _⟩ := h
    rfl
  · obtain ⟨b, d1, d2, n, x, xs, ys, rfl, hX, hd1, hd2, hn0, hn, okr, okc, k⟩ := h
    obtain ⟨as0, l1, l2, _⟩ := matF_all hX
    refine ⟨_, rfl, b, _, rfl, .inl l1, ?_⟩
    rw [List.length_map, l2]
    refine ⟨_, rfl, n, rfl, hn, fun H1 L s1 newL hL => ?_⟩
    obtain ⟨as, hl, hp⟩ := hL
    have hlen : as.length = (Sr80.pairs n).length := Paired.length hp
    have h400 : (Sr80.pairs n).length ≤ 400 := by
      rw [EH.pairs_range, List.length_map, List.length_range']
      have : n * n ≤ 20 * 20 := Nat.mul_le_mul hn hn
      omega
    refine ⟨L, rfl, ⟨_, SqL.of hl⟩, fun D newD => ?_⟩
    refine lc_list (K := K) (a := L) (xs := as.map V.ref) (Vals_ H1 D (((Sr80.pairs n).map fun y => (x y.1 y.2).n).map V.int)) (Vals_.start newD) (fun i H' _ e => e.2.seq (SqL.of hl)) ?_ ?_
    · rintro i y H' hi hv
      obtain ⟨b', hb, rfl⟩ := map_get hi
      obtain ⟨⟨i', j'⟩, ex, hfx⟩ := ListOf.nth hp hb
      obtain ⟨hx, hy⟩ := (EH.mem_pairs (D := 1) Nat.one_pos).mp (List.mem_of_getElem? ex)
      dsimp only at hx hy
      have hfx' : SqT K H' b' [.int (i' : Int), .int (j' : Int)] := same_sqT hv.2 hfx
      obtain ⟨qs, p1, _, pg⟩ := matF_all (same_matF (s1.trans hv.2) hX)
      obtain ⟨r, p2, _, p3⟩ := pg i' hx
      obtain ⟨bs, p4, _, pg2⟩ := fracs_all p3
      obtain ⟨t, p5, _, p6⟩ := pg2 j' hy
      have p6 : SqT K H' t [.int (x i' j').n, .int ((x i' j').d : Int)] := p6
      have p7 : atI [V.int (x i' j').n, V.int ((x i' j').d : Int)] 0 = some (.int (x i' j').n) := rfl
      obtain ⟨acc, r1, r2, r3⟩ := hv.next (Same.refl _) (show _ = some (V.int (x i' j').n) by rw [List.getElem?_map, List.getElem?_map, ex]; rfl) newD (by
        rw [List.length_map, List.length_map]
        omega)
      refine ⟨b', _, rfl, hfx', rfl, ?_⟩
      walk_at "rd"
      exact r3
    · intro H2 hv
      obtain ⟨s2, h2⟩ := hv.done (by rw [List.length_map, List.length_map, List.length_map, hlen])
      have hpos : 0 < ((Sr80.pairs n).map fun y => (x y.1 y.2).n).length := by
        rw [List.length_map]
        exact List.length_pos_of_mem ((EH.mem_pairs (D := 1) Nat.one_pos (y := (0, 0))).mpr ⟨hn0, hn0⟩)
      refine ⟨D, _, rfl, SqL.of h2, hpos, fun v hv1 hv2 => ?_⟩
      have all : (∀ i j, i < n → j < n → 0 ≤ (x i j).n) ↔ 0 ≤ v := by
        constructor
        · intro h
          obtain ⟨y, hy, ey⟩ := List.mem_map.mp hv1
          obtain ⟨q1, q2⟩ := (EH.mem_pairs (D := 1) Nat.one_pos).mp hy
          rw [← ey]
          exact h _ _ q1 q2
        · intro h i j hi hj
          have := hv2 _ (List.mem_map.mpr ⟨(i, j), (EH.mem_pairs (D := 1) Nat.one_pos).mpr ⟨hi, hj⟩, rfl⟩)
          dsimp only at this
          omega
      refine ⟨_, _, rfl, rfl, _, rfl, ?_⟩
      refine ite2 (fun c1 => ?_) (fun c1 => ?_)
      · have c1 := of_decide_eq_true c1
        exact k H2 false (s1.trans s2) ⟨fun z => (nomatch z), fun z => absurd (all.mp z.1) (by omega)⟩
      · have c1 : 0 ≤ v := by
          rcases Int.lt_or_le v 0 with z | z
          · exact absurd (decide_eq_true z) c1
          · exact z
        refine ⟨_, rfl, b, n, x, rfl, same_matF (s1.trans s2) hX, hn, okr, fun H3 r s3 newr hr3 => ?_⟩
        have e1 := same_fracs ((s1.trans s2).trans s3) hd1
        refine ⟨_, rfl, _, _, fracs_dp hr3, fracs_dp e1, fracs_shaped _, fracs_shaped _, ?_⟩
        have q1 : PyData.eqv (.list ((rowsP n x).map fracD)) (.list (xs.map fracD)) = decide (rowsP n x = xs) := by
          rw [PyData.eqv]
          exact fracs_eqv _ _
        rw [q1]
        refine ⟨_, rfl, ?_⟩
        refine ite2 (fun c2 => ?_) (fun c2 => ?_)
        · have c2 := of_decide_eq_true c2
          refine ⟨_, rfl, b, n, x, rfl, same_matF ((s1.trans s2).trans s3) hX, hn, okc, fun H4 r2 s4 newr2 hr4 => ?_⟩
          have e2 := same_fracs (((s1.trans s2).trans s3).trans s4) hd2
          refine ⟨_, rfl, _, _, fracs_dp hr4, fracs_dp e2, fracs_shaped _, fracs_shaped _, ?_⟩
          refine k H4 _ (((s1.trans s2).trans s3).trans s4) ?_
          have q2 : PyData.eqv (.list ((colsP n x).map fracD)) (.list (ys.map fracD)) = decide (colsP n x = ys) := by
            rw [PyData.eqv]
            exact fracs_eqv _ _
          rw [q2, decide_eq_true_eq]
          exact ⟨fun z => ⟨all.mpr c1, c2, z⟩, fun z => z.2.2⟩
        · exact k H3 false ((s1.trans s2).trans s3) ⟨fun z => (nomatch z), fun z => absurd (decide_eq_true z.2.1) c2⟩
end
end EW
end

/-! ## EwInst -/
section
set_option Elab.async false
set_option linter.all false
set_option maxRecDepth 100000
set_option maxHeartbeats 2000000
set_option autoImplicit false
namespace EW
open PySem PySem.Spec PyProof.Rows L2
open Sr58 (Frac)
local macro_rules | `(tactic| walk_at "rd") => `(tactic| repeat (first | refine ⟨rfl, ?_⟩ | apply Exists.intro | refine ⟨by assumption, ?_⟩))
abbrev s_first_distribution : Stmt := top 24
theorem sc_first_distribution : FnScope ["n", "i"] ["n"] (defScope s_first_distribution) := ⟨rfl, rfl, rfl, by decide +kernel, rfl, by decide +kernel, by decide +kernel⟩
def spFirst (K : PySem.W.Frag) : Sp := fun vs H Q _ => ∃ n : Nat, vs = [.int (n : Int)] ∧ 0 < n ∧ n ≤ 20 ∧ HandsN (FracsAt K) H Q (firstP n)
section
variable {P : Program} {w : World} {K : PySem.W.Frag} {mg : Str → Option Value} {base : Heap} (B : Nb mg) {A0 : Ad} (G : Gs K mg A0)
include B G
theorem df_first_distribution {f : Addr} {fd : FuncData} (hm : mg "first_distribution" = some (.ref f)) (F : Fun K "first_distribution" "first_distribution" s_first_distribution f fd) : Df P w K mg base CX0 1 "first_distribution" (spFirst K) := by
  refine df_of (F.ok sc_first_distribution (fun vs H Q E h => ?_) (fun cdv A outer s H vs Q E hr h => ⟨_,
(pss_one (ps_ret (pe_op op_cat (pe_lst (pa_cons (pe_gk rfl G.ONE_) pa_nil)) (pe_lc (own := [("i", 1)]) (g := gName 1) (tt := tYes) rfl sc_first_distribution.nd (pi_range1 rfl B.range_ (pa_cons (pe_op op_sub (pv 0) pe_int) pa_nil)) (blkOk_by (own := [("i", 1)]) (N := ["n", "i"]) (by kernel_rfl))
 (fun _ _ _ _ _ => (pg_name (i := 1) sc_first_distribution.nd rfl (Or.inl rfl))) (fun _ _ _ _ _ => pts_nil) (fun _ _ _ _ _ => (pe_gk rfl G.ZERO_))))))
   , ?_⟩)) hm F.kp (F.binds fun _ _ _ _ _ _ us hl => match us, hl with | [_], _ => rfl)
  · obtain ⟨n, rfl, _⟩ := h
    rfl
  · obtain ⟨n, rfl, hn0, hn, k⟩ := h
    refine ⟨by show 1 ≤ sizeLine; decide, fun p newp => ?_⟩
    have s1 := same_upd (o := .lst [V.ref A0.one]) newp
    have ep : upd H p (.lst [V.ref A0.one]) p = some (.lst [V.ref A0.one]) := upd_same
    generalize upd H p (.lst [V.ref A0.one]) = H1 at s1 ep
    have en : ((n - 1 : Nat) : Int) = (n : Int) - 1 := by omega
    refine ⟨_, rfl, _, _, rfl, rfl, ((n - 1 : Nat) : Int), by rw [en], by omega, by omega, fun D newD => ?_⟩
    refine lc_range0 (n := n - 1) (MadeT (FrAt K) H1 D (List.replicate (n - 1) ⟨0, 1⟩)) (MadeT.start newD) (fun i H2 hi hv => ?_) fun H2 hv => ?_
    · refine ⟨rfl, tY ?_⟩
      exact hv.next kept_fr framedA_fr (Same.refl _) (G.zeroAt _) (by rw [List.getElem?_replicate, if_pos hi]) newD (by rw [List.length_replicate]; omega)
    · obtain ⟨s2, as, e1, e2⟩ := hv.done (by rw [List.length_replicate])
      have hla : as.length = n - 1 := by rw [Paired.length e2, List.length_replicate]
      refine ⟨p, D, _, _, rfl, rfl, s2 _ _ ep, e1, by
        rw [List.length_map]
        show 1 + _ ≤ sizeLine
        exact Nat.le_of_lt (small1000 (by omega)), fun r newr => ?_⟩
      have s3 := same_upd (o := .lst ([V.ref A0.one] ++ as.map V.ref)) newr
      refine k _ r ((s1.trans s2).trans s3) ((s1.trans s2).free newr) ⟨A0.one :: as, upd_same, .cons (G.oneAt _) (Paired.mapP e2 fun _ _ q => same_fr s3 q)⟩
end
end EW
end

/-! ## EwOps -/
section
set_option Elab.async false
set_option linter.all false
set_option maxRecDepth 100000
set_option maxHeartbeats 2000000
set_option autoImplicit false
namespace EW
open PySem PySem.Spec PyProof.Rows L2
open Sr58 (Frac)
local macro_rules | `(tactic| walk_at "rd") => `(tactic| repeat (first | refine ⟨rfl, ?_⟩ | apply Exists.intro | refine ⟨by assumption, ?_⟩))
abbrev s_are_between : Stmt := top 71
theorem sc_are_between : FnScope ["some", "least", "most"] ["some", "least", "most"] (defScope s_are_between) := ⟨rfl, rfl, rfl, by decide +kernel, rfl, by decide +kernel, by decide +kernel⟩
abbrev s_mapped : Stmt := top 87
theorem sc_mapped : FnScope ["probabilities", "targets", "found", "probability", "i"] ["probabilities", "targets"] (defScope s_mapped) := ⟨rfl, rfl, rfl, by decide +kernel, rfl, by decide +kernel, by decide +kernel⟩
abbrev s_matrix_of : Stmt := top 83
theorem sc_matrix_of : FnScope ["entries", "n", "denominator", "j", "i"] ["entries", "n", "denominator"] (defScope s_matrix_of) := ⟨rfl, rfl, rfl, by decide +kernel, rfl, by decide +kernel, by decide +kernel⟩
def spBetween (K : PySem.W.Frag) : Sp := fun vs H Q _ => ∃ (a : Addr) (l m : Int) (ns : List Int), vs = [.ref a, .int l, .int m] ∧ SqL K H a (ns.map V.int) ∧ 0 < ns.length ∧ ∀ r : Bool, (r = true ↔ ∀ x ∈ ns, l ≤ x ∧ x ≤ m) → Q (.bl r) H
def spMapped (K : PySem.W.Frag) : Sp := fun vs H Q _ => ∃ (a b : Addr) (n : Nat) (x : Nat → Frac) (ts : Nat → Nat), vs = [.ref a, .ref b] ∧ FracsAt K H a ((List.range n).map x) ∧ SqL K H b (rowI n fun i => (ts i : Int)) ∧ n ≤ 20 ∧ (∀ i, i < n → ts i < n) ∧
  (∀ i, i < n → Sz (x i)) ∧ (∀ i k, i < n → k < n → Sz (mapG x ts i k)) ∧ HandsN (FracsAt K) H Q ((List.range n).map (mapG x ts n))
def spMatrixOf (K : PySem.W.Frag) : Sp := fun vs H Q _ => ∃ (a : Addr) (n D : Nat) (e : Nat → Int), vs = [.ref a, .int (n : Int), .int (D : Int)] ∧ SqL K H a (rowI (n * n) e) ∧ n ≤ 20 ∧ 0 < D ∧ D < 2 ^ 4400 ∧ HandsN (MatFAt K) H Q (XF n fun i j => Sr58.frac (e (i * n + j)) D)
theorem paired_set {α β : Type} {F : α → β → Prop} : ∀ {xs : List α} {ys : List β}, Paired F xs ys → ∀ {j : Nat} {x : α} {y : β}, F x y → Paired F (xs.set j x) (ys.set j y)
  | _, _, .nil, _, _, _, _ => .nil
  | _, _, .cons _ t, 0, _, _, h => .cons h t
  | _, _, .cons r t, j + 1, _, _, h => .cons r (paired_set t h)
section
variable {P : Program} {w : World} {K : PySem.W.Frag} {mg : Str → Option Value} {base : Heap} (B : Nb mg) {A0 : Ad} (G : Gs K mg A0)
include B G
theorem df_are_between {f : Addr} {fd : FuncData} (hm : mg "are_between" = some (.ref f)) (F : Fun K "are_between" "are_between" s_are_between f fd) : Df P w K mg base CX0 1 "are_between" (spBetween K) := by
  refine df_of (F.ok sc_are_between (fun vs H Q E h => ?_) (fun cdv A outer s H vs Q E hr h => ⟨_,
(pss_one (ps_ret (pe_and (pe_cmpR op_ge (pe_callB (cr_min rfl) (by rfl) B.min_ (by decide +kernel) (pa_cons (pv 0) pa_nil)) (pv 1) (nomark _)) (pe_one (pe_cmpR op_le (pe_callB (cr_max rfl) (by rfl) B.max_ (by decide +kernel) (pa_cons (pv 0) pa_nil)) (pv 2) (nomark _))))))
   , ?_⟩)) hm F.kp (F.binds fun _ _ _ _ _ _ us hl => match us, hl with | [_, _, _], _ => rfl)
  · obtain ⟨a, l, m, ns, rfl, _⟩ := h
    rfl
  · obtain ⟨a, l, m, ns, rfl, hs, hne, k⟩ := h
    refine ⟨_, rfl, a, ns, rfl, hs, hne, fun v hv1 hv2 => ?_⟩
    refine ⟨_, rfl, _, _, rfl, rfl, _, rfl, ?_⟩
    refine ite2 (fun c1 => ?_) (fun c1 => ?_)
    · have c1 := of_decide_eq_true c1
      refine ⟨_, rfl, a, ns, rfl, hs, hne, fun u hu1 hu2 => ?_⟩
      refine ⟨_, rfl, _, _, rfl, rfl, k _ ?_⟩
      rw [decide_eq_true_eq]
      constructor
      · intro h x hx
        have := hv2 x hx
        have := hu2 x hx
        omega
      · intro h
        exact (h u hu1).2
    · refine k false ⟨fun z => (nomatch z), fun z => absurd (decide_eq_true (z v hv1).1) c1⟩
theorem df_mapped {f : Addr} {fd : FuncData} (hm : mg "mapped" = some (.ref f)) (F : Fun K "mapped" "mapped" s_mapped f fd) (c_plus : Df P w K mg base CX0 3 "plus" (spOp2 K Sr58.plus)) : Df P w K mg base CX0 4 "mapped" (spMapped K) := by
  refine df_of (F.ok sc_mapped (fun vs H Q E h => ?_) (fun cdv A outer s H vs Q E hr h => ⟨_,
(pss_cons (ps_setLc (i := 2) (own := [("probability", 3)]) (g := gName 3) (tt := tYes) rfl sc_mapped.nd rfl rfl (sw_true rfl rfl rfl (by decide +kernel)) (pi_list (pv 0)) (blkOk_by (own := [("probability", 3)]) (N := ["probabilities", "targets", "found", "probability", "i"]) (by kernel_rfl))
 (fun _ _ _ _ _ => (pg_name (i := 3) sc_mapped.nd rfl (Or.inl rfl))) (fun _ _ _ _ _ => pts_nil) (fun _ _ _ _ _ => (pe_gk rfl G.ZERO_)))
 (pss_cons (ps_for PassesOwn.never rfl (pi_range1 rfl B.range_ (pa_cons (pe_callB call_len_seq (by rfl) B.len_ (by decide +kernel) (pa_cons (pv 1) pa_nil)) pa_nil)) (pg_name (i := 4) sc_mapped.nd rfl (Or.inl rfl)) (pss_one (ps_asg (pe_c0 c_plus hr (by decide) rfl (pa_cons (pe_ix ix_list (pv 2) (pe_ix ix_list (pv 1) (pv 4) (fun _ _ => rfl)) (fun _ _ => rfl)) (pa_cons (pe_ix ix_list (pv 0) (pv 4) (fun _ _ => rfl)) pa_nil))) (pg_sub (pv 2) (pe_ix ix_list (pv 1) (pv 4) (fun _ _ => rfl)) set_list))))
 (pss_one (ps_ret (pv 2)))))
   , ?_⟩)) hm F.kp (F.binds fun _ _ _ _ _ _ us hl => match us, hl with | [_, _], _ => rfl)
  · obtain ⟨a, b, n, x, ts, rfl, _⟩ := h
    rfl
  · obtain ⟨a, b, n, x, ts, rfl, hX, hT, hn, hlt, hsx, hsg, k⟩ := h
    obtain ⟨as, ha1, ha2⟩ := hX
    have hla : as.length = n := by rw [Paired.length ha2, List.length_map, List.length_range]
    refine ⟨_, rfl, a, rfl, ⟨_, SqL.of ha1⟩, fun D newD => ?_⟩
    refine lc_list (K := K) (a := a) (xs := as.map V.ref) (MadeT (FrAt K) H D ((List.range n).map (mapG x ts 0))) (MadeT.start newD) (fun i H' _ e => e.same.seq (SqL.of ha1)) ?_ ?_
    · rintro i y H' hi hv
      have hin : i < n := by
        have := (List.getElem?_eq_some_iff.mp hi).1
        rw [List.length_map, hla] at this
        exact this
      refine ⟨rfl, tY ?_⟩
      exact hv.next kept_fr framedA_fr (Same.refl _) (G.zeroAt _) (range_get hin) newD (by rw [List.length_map, List.length_range]; omega)
    · intro H1 hv
      rw [List.length_map, hla] at hv
      obtain ⟨s1, bs, e1, e2⟩ := hv.done (by rw [List.length_map, List.length_range])
      have hb1 := s1.seq hT
      refine ⟨_, rfl, b, _, rfl, .inl hb1, ?_⟩
      rw [row_len]
      refine ⟨_, rfl, by omega, by omega, ?_⟩
      refine for_range0 (n := n) (fun i σ H' => ∃ (o4 o5 : Option V), σ = [some (.ref a), some (.ref b), some (.ref D), o4, o5] ∧ Same H H' ∧ FracsAt K H' D ((List.range n).map (mapG x ts i))) ⟨_, _, rfl, s1, bs, e1, e2⟩ ?_ ?_
      · rintro i σ H2 hi ⟨o4, o5, rfl, s2, hD⟩
        obtain ⟨ds, d1, d2⟩ := hD
        have t1 := row_at (g := fun i => (ts i : Int)) hi
        have b2 := s2.seq hT
        obtain ⟨td, etd, htd⟩ := paired_get d2 (range_get (f := mapG x ts i) (hlt i hi))
        have hdl : ds.length = n := by rw [Paired.length d2, List.length_map, List.length_range]
        have d3 : atI (ds.map V.ref) (ts i : Int) = some (.ref td) := at_of rfl (by rw [List.getElem?_map, etd]; rfl)
        obtain ⟨cs, c1, _, cg⟩ := fracs_all (same_fracs s2 ⟨as, ha1, ha2⟩)
        obtain ⟨tx, c2, _, c3⟩ := cg i hi
        have ix : ixN (ds.map V.ref).length (ts i : Int) = some (ts i) := by
          rw [List.length_map, hdl]
          have := hlt i hi
          unfold ixN
          rw [if_pos (by omega), if_pos (by omega), Int.toNat_natCast]
        refine ⟨_, rfl, _, rfl, _, rfl, _, _, _, _, rfl, rfl, b2, t1, _, _, _, _, rfl, rfl, SqL.of d1, d3, _, rfl, _, rfl, _, _, _, _, rfl, rfl, c1, c2, td, tx, _, _, rfl, htd, c3, hsg i (ts i) hi (hlt i hi), hsx i hi, fun H3 p s3 hp => ?_⟩
        refine ⟨_, rfl, _, rfl, _, rfl, _, _, _, _, rfl, rfl, s3.seq b2, t1, D, ds.map V.ref, _, ts i, rfl, rfl, s3 _ _ d1, ix, ?_⟩
        refine ⟨_, _, rfl, same_over (s2.trans s3) newD, ds.set (ts i) p, by rw [upd_same, List.map_set], ?_⟩
        have e : (List.range n).map (mapG x ts (i + 1)) = ((List.range n).map (mapG x ts i)).set (ts i) (Sr58.plus (mapG x ts i (ts i)) (x i)) := by
          rw [EH.set_map_range]
          refine List.map_congr_left fun k _ => ?_
          show (if k = ts i then Sr58.plus (mapG x ts i k) (x i) else mapG x ts i k) = _
          by_cases c : k = ts i
          · rw [if_pos c, if_pos c, c]
          · rw [if_neg c, if_neg c]
        rw [e]
        have hD3 := s3 _ _ d1
        exact paired_set (Paired.mapP d2 fun _ _ q => sqT_frame (same_fr s3 q) hD3) (sqT_frame hp hD3)
      · rintro σ H2 ⟨o4, o5, rfl, s2, hD⟩
        exact ⟨_, rfl, k H2 D s2 newD hD⟩
theorem df_matrix_of {f : Addr} {fd : FuncData} (hm : mg "matrix_of" = some (.ref f)) (F : Fun K "matrix_of" "matrix_of" s_matrix_of f fd) (c_ratio : Df P w K mg base CX0 2 "ratio" (spRatio K)) : Df P w K mg base CX0 3 "matrix_of" (spMatrixOf K) := by
  refine df_of (F.ok sc_matrix_of (fun vs H Q E h => ?_) (fun cdv A outer s H vs Q E hr h => ⟨_,
(pss_one (ps_ret (pe_lc (own := [("i", 4)]) (g := gName 4) (tt := tYes) rfl sc_matrix_of.nd (pi_range1 rfl B.range_ (pa_cons (pv 1) pa_nil)) (blkOk_by (own := [("i", 4)]) (N := ["entries", "n", "denominator", "j", "i"]) (by kernel_rfl))
 (fun _ _ _ _ _ => (pg_name (i := 4) sc_matrix_of.nd rfl (Or.inr rfl))) (fun _ _ _ _ _ => pts_nil) (fun _ _ _ _ _ => (pe_lc (own := [("j", 3)]) (g := gName 3) (tt := tYes) rfl sc_matrix_of.nd (pi_range1 rfl B.range_ (pa_cons (pv 1) pa_nil)) (blkOk_by (own := [("j", 3)]) (N := ["entries", "n", "denominator", "j", "i"]) (by kernel_rfl))
 (fun _ _ _ _ _ => (pg_name (i := 3) sc_matrix_of.nd rfl (Or.inl rfl))) (fun _ _ _ _ _ => pts_nil) (fun _ _ _ _ _ => (pe_c0 c_ratio hr (by decide) rfl (pa_cons (pe_ix (ixL (K := K)) (pv 0) (pe_op op_add (pe_op op_mulW (pv 4) (pv 1)) (pv 3)) (fun _ _ => rfl)) (pa_cons (pv 2) pa_nil)))))))))
   , ?_⟩)) hm F.kp (F.binds fun _ _ _ _ _ _ us hl => match us, hl with | [_, _, _], _ => rfl)
  · obtain ⟨a, n, D, e, rfl, _⟩ := h
    rfl
  · obtain ⟨a, n, D, e, rfl, hE, hn, hD, hD2, k⟩ := h
    have mlen : (XF n fun i j => Sr58.frac (e (i * n + j)) D).length = n := by rw [List.length_map, List.length_range]
    refine ⟨_, rfl, _, rfl, by omega, by omega, fun R newR => ?_⟩
    refine lc_range0 (n := n) (Made (FracsAt K) H R (XF n fun i j => Sr58.frac (e (i * n + j)) D)) (Made.start newR) (fun i H1 hi hv => ?_) fun H1 hv => ?_
    · have erow : (XF n fun i j => Sr58.frac (e (i * n + j)) D)[i]? = some ((List.range n).map fun j => Sr58.frac (e (i * n + j)) D) := range_get hi
      refine ⟨rfl, tY ?_⟩
      refine ⟨_, rfl, _, rfl, by omega, by omega, fun R2 newR2 => ?_⟩
      refine lc_range0 (n := n) (MadeT (FrAt K) H1 R2 ((List.range n).map fun j => Sr58.frac (e (i * n + j)) D)) (MadeT.start newR2) (fun j H2 hj hv2 => ?_) fun H2 hv2 => ?_
      · have s2 := hv.same.trans hv2.same
        have hlt : i * n + j < n * n := by
          have h1 : (i + 1) * n ≤ n * n := Nat.mul_le_mul_right n hi
          rw [Nat.succ_mul] at h1
          omega
        have m1 : atI (rowI (n * n) e) ((i : Int) * (n : Int) + (j : Int)) = some (.int (e (i * n + j))) := by
          rw [show (i : Int) * (n : Int) + (j : Int) = ((i * n + j : Nat) : Int) by push_cast; rfl]
          exact row_at hlt
        refine ⟨rfl, tY ?_⟩
        refine ⟨_, rfl, _, rfl, _, rfl, _, _, rfl, rfl, mul_small (by omega) (by omega), _, rfl, _, _, rfl, rfl, a, _, _, _, rfl, rfl, s2.seq hE, m1, _, rfl, e (i * n + j), (D : Int), rfl, by omega, by rw [Int.natAbs_natCast]; exact Nat.lt_trans hD2 (by decide), fun H3 t s3 ht => ?_⟩
        rw [Int.toNat_natCast] at ht
        exact hv2.next kept_fr framedA_fr s3 ht (range_get hj) newR2 (by rw [List.length_map, List.length_range]; omega)
      · obtain ⟨s2, l2⟩ := hv2.done (by rw [List.length_map, List.length_range])
        exact hv.next kept_fracs framed_fracs s2 l2 (hv.ne newR2) erow newR (by rw [mlen]; omega)
    · obtain ⟨s1, l1⟩ := hv.done mlen
      exact k H1 R s1 newR l1
end
end EW
end

/-! ## EwBox -/
section
set_option Elab.async false
set_option linter.all false
set_option maxRecDepth 100000
set_option maxHeartbeats 2000000
set_option autoImplicit false
/-! The class of the errors, and what lies in the heap of an instance. -/
namespace EW
open PySem PySem.Spec PyProof.Rows L2
open Sr58 (Frac)
open Sr82 (Ground)
open EH (GOk)
local macro_rules | `(tactic| walk_at "rd") => `(tactic| repeat (first | refine ⟨rfl, ?_⟩ | apply Exists.intro | refine ⟨by assumption, ?_⟩))
abbrev s_Refused___init__ : Stmt := inClass (top 23) 0
theorem sc_Refused___init__ : FnScope ["self", "code"] ["self", "code"] (defScope s_Refused___init__) := ⟨rfl, rfl, rfl, by decide +kernel, rfl, by decide +kernel, by decide +kernel⟩
abbrev s_look_slots : Stmt := top 26
theorem sc_look_slots : FnScope ["some"] ["some"] (defScope s_look_slots) := ⟨rfl, rfl, rfl, by decide +kernel, rfl, by decide +kernel, by decide +kernel⟩
/-- what the top says of the class of errors, at CR -/
structure RefT (K : PySem.W.Frag) (mg : Str → Option Value) (CR : Addr) : Prop where
  T : OexC K CR
  noC : PySem.W.findIn K (.ref CR) "code" = some none
  vV : PySem.W.findCls K (.type "ValueError") (.type "type") "__init__" = some (.val (.builtin "ValueError.__init__"))
  gm : mg "Refused" = some (.ref CR)
  xf : XfC K CR
  te : PySem.W.exmOne K (.ref CR) (.ref CR) = some true
/-- Refused.__init__(self, code) -/
def spRef (K : PySem.W.Frag) : Sp := fun vs H Q _ => ∃ (a CR : Addr) (c : Int), vs = [.ref a, .int c] ∧ H a = some (exo a CR none) ∧ OexC K CR ∧ PySem.W.findIn K (.ref CR) "code" = some none ∧
  ∀ dx, H dx = none → dx ≠ a → Q .non (upd (upd H dx (exd dx [("code", .int c)])) a (exo a CR (some dx)))
/-- an error is made: its code -/
def Raised (CR : Addr) (H : Hp) (E : XK) (c : Int) : Prop := ∀ (H' : Hp) (d : Addr), Same H H' → H d = none → H' d = some (.xd [("code", .int c)]) → E (.ref CR) (some d) H'
structure RefD (P : Program) (w : World) (K : PySem.W.Frag) (mg : Str → Option Value) (base : Heap) (CR : Addr) : Prop where
  t : RefT K mg CR
  ex : ∃ (fI : Addr) (fd : FuncData) (ps : List Str), PySem.W.findIn K (.ref CR) "__init__" = some (some (.ref fI)) ∧ PySem.W.typeIn K (.ref fI) = some (.type "function") ∧ FnOk P w K mg base CX0 1 fI fd ps (spRef K) ∧ Binds K fd ps []
theorem pmk_ref {X : Cx} {CR : Addr} {j : Nat} {e : Expr} {es : List Expr} {ta : TA} {p pos : Pos} (R : RefD X.prog X.w X.K X.mg X.base CR) (hr : Room j X.A) (hj : 2 ≤ j) (hg : Gl X "Refused") (ha : PA X (e :: es) ta)
    (he : starEach (e :: es) X.env = (false, eval e X.env) :: starEach es X.env := by rfl) (hpl : (backTo pos (starEach es X.env)).any (·.1) = false := by rfl) :
    PMk X (.Call (.Name "Refused" p) (e :: es) [] pos) (tMkO CR (spRef X.K) [] ta) := by
  obtain ⟨fI, fd, ps, i1, i2, F, b⟩ := R.ex
  exact pmk_oex R.t.T i1 i2 F (hr.mono hj) b .nil pass0 hg R.t.gm ha (by decide) he hpl
/-- what the making of an error asks -/
theorem raised {K : PySem.W.Frag} {mg : Str → Option Value} {CR : Addr} {H : Hp} {E : XK} {c : Int} (T : RefT K mg CR) (h : Raised CR H E c) : [V.int c].length ≤ 1000 ∧ ∀ a, H a = none → spRef K (.ref a :: ([V.int c] ++ [])) (upd H a (exo a CR none))
    (fun v H2 => v = .non ∧ ∃ (d : Addr) (fs : List (Str × V)), H2 a = some (exo a CR (some d)) ∧ H2 d = some (exd d fs) ∧ H d = none ∧ E (.ref CR) (some d) (upd (del H2 a) d (.xd fs))) (fun _ _ _ => False) := by
  refine ⟨by show 1 ≤ 1000; decide, fun a ha => ⟨a, CR, c, rfl, upd_same, T.T, T.noC, fun dx hd hne => ⟨rfl, dx, [("code", .int c)], upd_same, ?_, ?_, ?_⟩⟩⟩
  · rw [upd_ne hne, upd_same]
  · rw [upd_ne hne] at hd
    exact hd
  · rw [upd_ne hne] at hd
    refine h _ dx (fun b u e => ?_) hd upd_same
    rw [upd_ne (ne_of_none e hd), del_ne (ne_of_none e ha), upd_ne (ne_of_none e ha), upd_ne (ne_of_none e hd), upd_ne (ne_of_none e ha)]
    exact e
abbrev passC {X : Cx} {W : WX} (tk : Takes X W) := tk
/-- numbers that are places: of slots, of points -/
def Inr (m : Int) (ns : List Int) : Prop := ∀ x ∈ ns, 0 ≤ x ∧ x < m
def spLookS (K : PySem.W.Frag) (CR : Addr) : Sp := fun vs H Q E => ∃ (a : Addr) (ns : List Int), vs = [.ref a] ∧ SqL K H a (ns.map V.int) ∧ 0 < ns.length ∧ (Inr 4 ns → Q .non H) ∧ (¬ Inr 4 ns → Raised CR H E (-2))
section
variable {P : Program} {w : World} {K : PySem.W.Frag} {mg : Str → Option Value} {base : Heap} (B : Nb mg) {A0 : Ad} (G : Gs K mg A0)
include B
theorem df_ref {f : Addr} {fd : FuncData} (F : Fun K "__init__" "Refused.__init__" s_Refused___init__ f fd) (vV : PySem.W.findCls K (.type "ValueError") (.type "type") "__init__" = some (.val (.builtin "ValueError.__init__"))) : FnOk P w K mg base CX0 1 f fd ["self", "code"] (spRef K) := by
  refine F.ok sc_Refused___init__ (fun vs H Q E h => ?_) (fun cdv A outer s H vs Q E hr h => ⟨_,
   pss_cons (ps_expr (pe_veinit rfl B.ValueError_ vV (pa_cons (pv 0) (pa_cons pe_str pa_nil)))) (pss_one (ps_ost (pv 0) (pv 1))), ?_⟩)
  · obtain ⟨a, CR, c, rfl, _⟩ := h
    rfl
  · obtain ⟨a, CR, c, rfl, ha, T, hno, k⟩ := h
    refine ⟨_, rfl, a, CR, _, rfl, by decide, T, ha, ?_⟩
    refine ⟨_, rfl, _, rfl, a, CR, rfl, T, hno, .inl ⟨ha, fun dx hd hne => k dx hd hne⟩⟩
include G
theorem df_look_slots {f : Addr} {fd : FuncData} (hm : mg "look_slots" = some (.ref f)) (F : Fun K "look_slots" "look_slots" s_look_slots f fd) {CR : Addr} (R : RefD P w K mg base CR) : Df P w K mg base (L2.CX P w) 3 "look_slots" (spLookS K CR) := by
  refine df_of (F.okX sc_look_slots (fun vs H Q E h => ?_) (fun cdv A outer s H vs Q E hr h => ⟨_,
(pss_one (ps_if (PW.pt (pw_or (pt_cmpR op_lt (pe_callB (cr_min rfl) (by rfl) B.min_ (by decide +kernel) (pa_cons (pv 0) pa_nil)) pe_int (nomark _)) (pw_or1 (pt_cmpR op_ge (pe_callB (cr_max rfl) (by rfl) B.max_ (by decide +kernel) (pa_cons (pv 0) pa_nil)) (pe_gk rfl G.SLOTS_) (nomark _))))) (pss_one (ps_raise rfl (takes_of rfl rfl rfl rfl) (pmk_ref R hr (by decide) rfl (pa_cons (pe_un un_neg pe_int) pa_nil)))) pss_nil))
   , ?_⟩)) hm F.kp (F.binds fun _ _ _ _ _ _ us hl => match us, hl with | [_], _ => rfl)
  · obtain ⟨a, ns, rfl, _⟩ := h
    rfl
  · obtain ⟨a, ns, rfl, hs, hne, kt, kf⟩ := h
    refine ⟨_, rfl, a, ns, rfl, hs, hne, fun v hv1 hv2 => ?_⟩
    refine ⟨_, _, rfl, rfl, _, rfl, ?_⟩
    refine ite2 (fun c1 => ?_) (fun c1 => ?_)
    · have c1 := of_decide_eq_true c1
      refine ite2 (fun _ => ?_) (fun z => absurd rfl z)
      refine ⟨_, rfl, raised R.t (kf fun z => ?_)⟩
      have := (z v hv1).1
      omega
    · have c1 : ¬ v < 0 := fun z => c1 (decide_eq_true z)
      refine ⟨_, rfl, a, ns, rfl, hs, hne, fun u hu1 hu2 => ?_⟩
      refine ⟨_, _, rfl, rfl, _, rfl, ?_⟩
      refine ite2 (fun c2 => ?_) (fun c2 => ?_)
      · have c2 := of_decide_eq_true c2
        refine ⟨_, rfl, raised R.t (kf fun z => ?_)⟩
        have := (z u hu1).2
        omega
      · have c2 : ¬ 4 ≤ u := fun z => c2 (decide_eq_true z)
        refine kt fun x hx => ?_
        have := hv2 x hx
        have := hu2 x hx
        omega
end
end EW
end

/-! ## EwInst2 -/
section
set_option Elab.async false
set_option linter.all false
set_option maxRecDepth 100000
set_option maxHeartbeats 2000000
set_option autoImplicit false
/-! The class of instances. -/
namespace EW
open PySem PySem.Spec PyProof.Rows L2
open Sr58 (Frac)
open Sr82 (Ground)
open EH (GOk wayI)
local macro_rules | `(tactic| walk_at "rd") => `(tactic| repeat (first | refine ⟨rfl, ?_⟩ | apply Exists.intro | refine ⟨by assumption, ?_⟩))
abbrev s_Instance___init__ : Stmt := inClass (top 25) 0
theorem sc_Instance___init__ : FnScope ["self", "n", "k"] ["self", "n"] (defScope s_Instance___init__) := ⟨rfl, rfl, rfl, by decide +kernel, rfl, by decide +kernel, by decide +kernel⟩
abbrev s_Instance_points : Stmt := inClass (top 25) 1
theorem sc_Instance_points : FnScope ["self"] ["self"] (defScope s_Instance_points) := ⟨rfl, rfl, rfl, by decide +kernel, rfl, by decide +kernel, by decide +kernel⟩
abbrev s_Instance_look_points : Stmt := inClass (top 25) 2
theorem sc_Instance_look_points : FnScope ["self", "some"] ["self", "some"] (defScope s_Instance_look_points) := ⟨rfl, rfl, rfl, by decide +kernel, rfl, by decide +kernel, by decide +kernel⟩
abbrev s_Instance_set_length : Stmt := inClass (top 25) 3
theorem sc_Instance_set_length : FnScope ["self", "i", "j", "length", "old"] ["self", "i", "j", "length"] (defScope s_Instance_set_length) := ⟨rfl, rfl, rfl, by decide +kernel, rfl, by decide +kernel, by decide +kernel⟩
/-- a method of the class at C and its promise -/
structure DfM (P : Program) (w : World) (K : PySem.W.Frag) (mg : Str → Option Value) (base : Heap) (CX : CXT) (k : Nat) (C : Addr) (m : Str) (sp : Sp) : Prop where
  ex : ∃ (f : Addr) (fd : FuncData) (ps : List Str), FnOk P w K mg base CX k f fd ps sp ∧ Meth K C m f ∧ Binds K fd ps []
section
variable {X : Cx} {k j : Nat} {C : Addr} {m : Str} {sp : Sp} {pos apos : Pos} {o e : Expr} {es : List Expr} {to : TE} {t : TA} {E : XK}
theorem pe_mm0 {pl : Sem Bool} (c : DfM X.prog X.w X.K X.mg X.base CX0 k C m sp) (cl : Cls X.K C) (hr : Room j X.A) (hk : k ≤ j) (ho : PE X o to)
    (ht : eval (.Call (.Attribute o m apos) [] [] pos) X.env = (do
      let ov ← eval o X.env
      standAt apos.atName
      let (f, first) ← holding [ov] (getMethod ov m pl)
      callWith pos f first (backTo pos (starEach [] X.env)) (backToKw pos (keywordEach [] X.env))) := by rfl) : PE X (.Call (.Attribute o m apos) [] [] pos) (tMeth C m sp [] E0 to tNil) := by
  obtain ⟨f, fd, ps, F, hm, b⟩ := c.ex
  exact pe_meth0 ho cl hm F (hr.mono hk) b .nil pass0 ht
theorem pe_mm {pl : Sem Bool} (c : DfM X.prog X.w X.K X.mg X.base CX0 k C m sp) (cl : Cls X.K C) (hr : Room j X.A) (hk : k ≤ j) (ho : PE X o to) (ha : PA X (e :: es) t)
    (hst : starEach (e :: es) X.env = (false, eval e X.env) :: starEach es X.env := by rfl) (hpl : (backTo pos (starEach es X.env)).any (·.1) = false := by rfl)
    (ht : eval (.Call (.Attribute o m apos) (e :: es) [] pos) X.env = (do
      let ov ← eval o X.env
      standAt apos.atName
      let (f, first) ← holding [ov] (getMethod ov m pl)
      callWith pos f first (backTo pos (starEach (e :: es) X.env)) (backToKw pos (keywordEach [] X.env))) := by rfl) : PE X (.Call (.Attribute o m apos) (e :: es) [] pos) (tMeth C m sp [] E0 to t) := by
  obtain ⟨f, fd, ps, F, hm, b⟩ := c.ex
  exact pe_meth ho cl hm F (hr.mono hk) b .nil pass0 ha hst hpl ht
theorem pe_mmX {pl : Sem Bool} (c : DfM X.prog X.w X.K X.mg X.base (L2.CX X.prog X.w) k C m sp) (cl : Cls X.K C) (hr : Room j X.A) (hk : k ≤ j) (hx : Passes (L2.CX X.prog X.w) X E) (ho : PE X o to) (ha : PA X (e :: es) t)
    (hst : starEach (e :: es) X.env = (false, eval e X.env) :: starEach es X.env := by rfl) (hpl : (backTo pos (starEach es X.env)).any (·.1) = false := by rfl)
    (ht : eval (.Call (.Attribute o m apos) (e :: es) [] pos) X.env = (do
      let ov ← eval o X.env
      standAt apos.atName
      let (f, first) ← holding [ov] (getMethod ov m pl)
      callWith pos f first (backTo pos (starEach (e :: es) X.env)) (backToKw pos (keywordEach [] X.env))) := by rfl) : PE X (.Call (.Attribute o m apos) (e :: es) [] pos) (tMeth C m sp [] E to t) := by
  obtain ⟨f, fd, ps, F, hm, b⟩ := c.ex
  exact pe_meth ho cl hm F (hr.mono hk) b .nil hx ha hst hpl ht
end
/-- an instance: its attributes -/
abbrev boxF (l s : Addr) : List (Str × V) := [("lengths", .ref l), ("slots", .ref s)]
theorem boxF_l {l s : Addr} : (boxF l s).lookup ("lengths" : Str) = some (.ref l) := by simp [List.lookup]
theorem boxF_s {l s : Addr} : (boxF l s).lookup ("slots" : Str) = some (.ref s) := by
  have e : (("slots" : Str) == ("lengths" : Str)) = false := by decide +kernel
  simp [List.lookup, e]
theorem boxF_no {l s : Addr} {m : Str} (h1 : (m == ("lengths" : Str)) = false := by decide +kernel) (h2 : (m == ("slots" : Str)) = false := by decide +kernel) : (boxF l s).lookup m = none := by
  simp [List.lookup, h1, h2]
/-- at a: an instance of g; D: what of it may change -/
structure BoxAt (K : PySem.W.Frag) (C : Addr) (H : Hp) (a : Addr) (g : Ground) (D : List Addr) : Prop where
  ex : ∃ (dx l s : Addr) (rs ss : List Addr), H a = some (.ins C dx (boxF l s)) ∧ MxR H l rs g.n (wayI g.g) ∧ H s = some (.lst (ss.map V.ref)) ∧ Paired (FracsAt K H) ss g.s ∧ D = s :: rs ∧ s ∉ rs ∧ s ≠ l ∧ ∀ x ∈ ss, x ∉ s :: rs
/-- what the top says of the class of instances -/
structure BoxT (K : PySem.W.Frag) (C : Addr) : Prop where
  cl : Cls K C
  nL : NoAttr K C "lengths"
  nS : NoAttr K C "slots"
theorem sqT_upd {K : PySem.W.Frag} {H : Hp} {p q : Addr} {o : HO} {zs : List V} (h : SqT K H p zs) (h1 : ∀ zs, H q ≠ some (.tup zs)) (h2 : ∀ u zs, H q ≠ some (.frz u (.tup zs))) : SqT K (upd H q o) p zs := by
  rcases h with (h | ⟨u, h⟩) | h
  · refine .inl (.inl ?_)
    rw [upd_ne (fun z => h1 _ (by rw [← z]; exact h))]
    exact h
  · refine .inl (.inr ⟨u, ?_⟩)
    rw [upd_ne (fun z => h2 _ _ (by rw [← z]; exact h))]
    exact h
  · exact .inr h
theorem fracs_upd {K : PySem.W.Frag} {H : Hp} {p q : Addr} {o : HO} {xs : List Frac} (h : FracsAt K H p xs) (hne : p ≠ q) (h1 : ∀ zs, H q ≠ some (.tup zs)) (h2 : ∀ u zs, H q ≠ some (.frz u (.tup zs))) : FracsAt K (upd H q o) p xs := by
  obtain ⟨as, e1, e2⟩ := h
  exact ⟨as, by rw [upd_ne hne]; exact e1, Paired.mapP e2 fun _ _ z => sqT_upd z h1 h2⟩
theorem fracs_extN {K : PySem.W.Frag} {H H' : Hp} {p : Addr} {xs : List Frac} (e : LamX.ExtN H H') (h : FracsAt K H p xs) : FracsAt K H' p xs := by
  obtain ⟨as, e1, e2⟩ := h
  exact ⟨as, lst_extN e e1, Paired.mapP e2 fun _ _ z => sqT_extN e z⟩
theorem MxR.extN {H H' : Hp} {a : Addr} {rs : List Addr} {n : Nat} {f : Nat → Nat → Int} (e : LamX.ExtN H H') (h : MxR H a rs n f) : MxR H' a rs n f :=
  ⟨lst_extN e h.top, h.len, h.nd, h.na, fun i r z => lst_extN e (h.row i r z)⟩
theorem paired_of {α β : Type} {F G : α → β → Prop} : ∀ {xs : List α} {ys : List β}, Paired F xs ys → (∀ x ∈ xs, ∀ y, F x y → G x y) → Paired G xs ys
  | _, _, .nil, _ => .nil
  | _, _, .cons r t, h => .cons (h _ List.mem_cons_self _ r) (paired_of t fun x hx y q => h x (List.mem_cons_of_mem _ hx) y q)
theorem BoxAt.extN {K : PySem.W.Frag} {C a : Addr} {H H' : Hp} {g : Ground} {D : List Addr} (e : LamX.ExtN H H') (h : BoxAt K C H a g D) : BoxAt K C H' a g D := by
  obtain ⟨dx, l, s, rs, ss, h1, h2, h3, h4, h5, h6, h7, h8⟩ := h.ex
  exact ⟨dx, l, s, rs, ss, e _ _ h1 (fun ps z => by cases z), h2.extN e, lst_extN e h3, Paired.mapP h4 fun _ _ z => fracs_extN e z, h5, h6, h7, h8⟩
theorem BoxAt.same {K : PySem.W.Frag} {C a : Addr} {H H' : Hp} {g : Ground} {D : List Addr} (e : Same H H') (h : BoxAt K C H a g D) : BoxAt K C H' a g D := h.extN (LamX.ExtN.of e)
/-- the matrix of the lengths -/
theorem BoxAt.mx {K : PySem.W.Frag} {C a : Addr} {H : Hp} {g : Ground} {D : List Addr} (h : BoxAt K C H a g D) : ∃ dx l s, H a = some (.ins C dx (boxF l s)) ∧ Mx K H l g.n (wayI g.g) := by
  obtain ⟨dx, l, s, rs, ss, h1, h2, _⟩ := h.ex
  exact ⟨dx, l, s, h1, h2.mx⟩
/-- the slots -/
theorem BoxAt.slots {K : PySem.W.Frag} {C a : Addr} {H : Hp} {g : Ground} {D : List Addr} (h : BoxAt K C H a g D) : ∃ (dx l s : Addr) (ss : List Addr), H a = some (.ins C dx (boxF l s)) ∧ SqL K H s (ss.map V.ref) ∧ ss.length = g.s.length ∧ ∀ (k : Nat) (x : List Frac), g.s[k]? = some x → ∃ t, atI (ss.map V.ref) (k : Int) = some (.ref t) ∧ FracsAt K H t x := by
  obtain ⟨dx, l, s, rs, ss, h1, h2, h3, h4, _⟩ := h.ex
  refine ⟨dx, l, s, ss, h1, SqL.of h3, Paired.length h4, fun k x hk => ?_⟩
  obtain ⟨t, et, ht⟩ := paired_get h4 hk
  exact ⟨t, at_of rfl (by rw [List.getElem?_map, et]; rfl), ht⟩
def spPoints (K : PySem.W.Frag) (C : Addr) : Sp := fun vs H Q _ => ∃ (a : Addr) (g : Ground) (D : List Addr), vs = [.ref a] ∧ BoxAt K C H a g D ∧ Q (.int (g.n : Int)) H
def spLookP (K : PySem.W.Frag) (C CR : Addr) : Sp := fun vs H Q E => ∃ (a b : Addr) (g : Ground) (D : List Addr) (ns : List Int), vs = [.ref a, .ref b] ∧ BoxAt K C H a g D ∧ SqL K H b (ns.map V.int) ∧ 0 < ns.length ∧ (Inr g.n ns → Q .non H) ∧ (¬ Inr g.n ns → Raised CR H E (-2))
def spSetLen (K : PySem.W.Frag) (C : Addr) : Sp := fun vs H Q _ => ∃ (a : Addr) (g : Ground) (D : List Addr) (i j x : Nat), vs = [.ref a, .int (i : Int), .int (j : Int), .int (x : Int)] ∧ BoxAt K C H a g D ∧ EH.WaysOk g.n g.g ∧ i < g.n ∧ j < g.n ∧ i ≠ j ∧
  ∀ H', Off D H H' → BoxAt K C H' a { g with g := Sr82.setWay g.g i j x } D → Q (.int (Sr82.way g.g i j : Nat)) H'
/-- a new instance -/
def newG (n : Nat) : Ground := ⟨n, Sr82.noWays n, List.replicate Sr80.SLOTS (Sr80.sure n)⟩
def spInit (K : PySem.W.Frag) (C : Addr) : Sp := fun vs H Q _ => ∃ (a dx : Addr) (n : Nat), vs = [.ref a, .int (n : Int)] ∧ H a = some (.ins C dx []) ∧ 0 < n ∧ n ≤ 6 ∧
  ∀ (H' : Hp) (D : List Addr), BoxAt K C H' a (newG n) D → Off [a] H H' → (∀ x ∈ D, H x = none) → Q .non H'
section
variable {P : Program} {w : World} {K : PySem.W.Frag} {mg : Str → Option Value} {base : Heap} (B : Nb mg) {A0 : Ad} (G : Gs K mg A0) {C : Addr} (T : BoxT K C)
include B T
theorem df_points {f : Addr} {fd : FuncData} (hm : Meth K C "points" f) (F : Fun K "points" "Instance.points" s_Instance_points f fd) : DfM P w K mg base CX0 1 C "points" (spPoints K C) := by
  refine ⟨f, fd, ["self"], F.ok sc_Instance_points (fun vs H Q E h => ?_) (fun cdv A outer s H vs Q E hr h => ⟨_,
(pss_one (ps_ret (pe_callB call_len_seq (by rfl) B.len_ (by decide +kernel) (pa_cons (pe_fld (pv 0) rfl) pa_nil))))
   , ?_⟩), hm, F.binds fun _ _ _ _ _ _ us hl => match us, hl with | [_], _ => rfl⟩
  · obtain ⟨a, g, D, rfl, _⟩ := h
    rfl
  · obtain ⟨a, g, D, rfl, hB, k⟩ := h
    obtain ⟨dx, l, s', e1, hM⟩ := hB.mx
    obtain ⟨rs, l1, l2⟩ := hM.len
    refine ⟨_, rfl, a, C, dx, _, _, rfl, e1, T.cl, T.nL, boxF_l, l, _, rfl, .inl l1, ?_⟩
    rw [l2]
    exact k
theorem df_look_points {f : Addr} {fd : FuncData} (hm : Meth K C "look_points" f) (F : Fun K "look_points" "Instance.look_points" s_Instance_look_points f fd) {CR : Addr} (R : RefD P w K mg base CR) (c_points : DfM P w K mg base CX0 1 C "points" (spPoints K C)) :
    DfM P w K mg base (L2.CX P w) 3 C "look_points" (spLookP K C CR) := by
  refine ⟨f, fd, ["self", "some"], F.okX sc_Instance_look_points (fun vs H Q E h => ?_) (fun cdv A outer s H vs Q E hr h => ⟨_,
(pss_one (ps_if (PW.pt (pw_or (pt_cmpR op_lt (pe_callB (cr_min rfl) (by rfl) B.min_ (by decide +kernel) (pa_cons (pv 1) pa_nil)) pe_int (nomark _)) (pw_or1 (pt_cmpR op_ge (pe_callB (cr_max rfl) (by rfl) B.max_ (by decide +kernel) (pa_cons (pv 1) pa_nil)) (pe_mm0 c_points T.cl hr (by decide) (pv 0)) (nomark _))))) (pss_one (ps_raise rfl (takes_of rfl rfl rfl rfl) (pmk_ref R hr (by decide) rfl (pa_cons (pe_un un_neg pe_int) pa_nil)))) pss_nil))
   , ?_⟩), hm, F.binds fun _ _ _ _ _ _ us hl => match us, hl with | [_, _], _ => rfl⟩
  · obtain ⟨a, b, g, D, ns, rfl, _⟩ := h
    rfl
  · obtain ⟨a, b, g, D, ns, rfl, hB, hs, hne, kt, kf⟩ := h
    obtain ⟨dx, l, s', e1, hM⟩ := hB.mx
    refine ⟨_, rfl, b, ns, rfl, hs, hne, fun v hv1 hv2 => ?_⟩
    refine ⟨_, _, rfl, rfl, _, rfl, ?_⟩
    refine ite2 (fun c1 => ?_) (fun c1 => ?_)
    · have c1 := of_decide_eq_true c1
      refine ite2 (fun _ => ?_) (fun z => absurd rfl z)
      refine ⟨_, rfl, raised R.t (kf fun z => ?_)⟩
      have := (z v hv1).1
      omega
    · have c1 : ¬ v < 0 := fun z => c1 (decide_eq_true z)
      refine ⟨_, rfl, b, ns, rfl, hs, hne, fun u hu1 hu2 => ?_⟩
      refine ⟨_, rfl, a, dx, _, rfl, e1, boxF_no, a, g, D, rfl, hB, ?_⟩
      refine ⟨_, _, rfl, rfl, _, rfl, ?_⟩
      refine ite2 (fun c2 => ?_) (fun c2 => ?_)
      · have c2 := of_decide_eq_true c2
        refine ⟨_, rfl, raised R.t (kf fun z => ?_)⟩
        have := (z u hu1).2
        omega
      · have c2 : ¬ (g.n : Int) ≤ u := fun z => c2 (decide_eq_true z)
        refine kt fun x hx => ?_
        have := hv2 x hx
        have := hu2 x hx
        omega
theorem df_set_length {f : Addr} {fd : FuncData} (hm : Meth K C "set_length" f) (F : Fun K "set_length" "Instance.set_length" s_Instance_set_length f fd) : DfM P w K mg base CX0 1 C "set_length" (spSetLen K C) := by
  refine ⟨f, fd, ["self", "i", "j", "length"], F.ok sc_Instance_set_length (fun vs H Q E h => ?_) (fun cdv A outer s H vs Q E hr h => ⟨_,
(pss_cons (ps_set (i := 4) sc_Instance_set_length.nd rfl (Or.inl rfl) (pe_ix ix_list (pe_ix ix_list (pe_fld (pv 0) rfl) (pv 1) (fun _ _ => rfl)) (pv 2) (fun _ _ => rfl)))
 (pss_cons (ps_asg (pv 3) (pg_sub (pe_ix ix_list (pe_fld (pv 0) rfl) (pv 1) (fun _ _ => rfl)) (pv 2) set_list))
 (pss_cons (ps_asg (pv 3) (pg_sub (pe_ix ix_list (pe_fld (pv 0) rfl) (pv 2) (fun _ _ => rfl)) (pv 1) set_list))
 (pss_one (ps_ret (pv 4))))))
   , ?_⟩), hm, F.binds fun _ _ _ _ _ _ us hl => match us, hl with | [_, _, _, _], _ => rfl⟩
  · obtain ⟨a, g, D, i, j, x, rfl, _⟩ := h
    rfl
  · obtain ⟨a, g, D, i, j, x, rfl, hB, ok, hi, hj, hij, k⟩ := h
    obtain ⟨dx, l, s', rs, ss, h1, h2, h3, h4, h5, h6, h7, h8⟩ := hB.ex
    obtain ⟨ri, eri⟩ : ∃ r, rs[i]? = some r := ⟨_, List.getElem?_eq_getElem (by rw [h2.len]; exact hi)⟩
    obtain ⟨rj, erj⟩ : ∃ r, rs[j]? = some r := ⟨_, List.getElem?_eq_getElem (by rw [h2.len]; exact hj)⟩
    have mi : ri ∈ rs := List.mem_of_getElem? eri
    have mj : rj ∈ rs := List.mem_of_getElem? erj
    have ari : a ≠ ri := fun z => by
      have := h2.row i ri eri
      rw [← z, h1] at this
      cases this
    have arj : a ≠ rj := fun z => by
      have := h2.row j rj erj
      rw [← z, h1] at this
      cases this
    have m1 : atI (rs.map V.ref) (i : Int) = some (.ref ri) := at_of rfl (by rw [List.getElem?_map, eri]; rfl)
    have m2 : atI (rs.map V.ref) (j : Int) = some (.ref rj) := at_of rfl (by rw [List.getElem?_map, erj]; rfl)
    have m3 := h2.row i ri eri
    have m4 := row_at (g := wayI g.g i) hj
    have M1 := h2.set (j := j) (v := (x : Int)) eri
    rw [← row_set] at M1
    have o1 : Off D H (upd H ri (.lst ((rowI g.n (wayI g.g i)).set j (.int (x : Int))))) := Off.upd (by rw [h5]; exact List.mem_cons_of_mem _ mi)
    have f1 : Paired (FracsAt K (upd H ri (.lst ((rowI g.n (wayI g.g i)).set j (.int (x : Int)))))) ss g.s := paired_of h4 fun b hb y z => fracs_upd z (fun e => h8 b hb (by rw [e]; exact List.mem_cons_of_mem _ mi)) (fun zs e => by rw [m3] at e; cases e) fun u zs e => by rw [m3] at e; cases e
    have a1 : upd H ri (.lst ((rowI g.n (wayI g.g i)).set j (.int (x : Int)))) a = some (.ins C dx (boxF l s')) := by
      rw [upd_ne ari]
      exact h1
    have b1 : upd H ri (.lst ((rowI g.n (wayI g.g i)).set j (.int (x : Int)))) s' = some (.lst (ss.map V.ref)) := by
      rw [upd_ne (fun e => h6 (by rw [e]; exact mi))]
      exact h3
    refine ⟨_, rfl, a, C, dx, _, _, rfl, h1, T.cl, T.nL, boxF_l, _, rfl, l, _, _, _, rfl, rfl, SqL.of h2.top, m1, _, rfl, ri, _, _, _, rfl, rfl, SqL.of m3, m4, ?_⟩
    refine ⟨_, rfl, _, rfl, a, C, dx, _, _, rfl, h1, T.cl, T.nL, boxF_l, _, rfl, l, _, _, _, rfl, rfl, SqL.of h2.top, m1, _, rfl, ri, _, _, j, rfl, rfl, m3, ixN_row hj, ?_⟩
    generalize upd H ri (.lst ((rowI g.n (wayI g.g i)).set j (.int (x : Int)))) = H1 at M1 o1 f1 a1 b1 ⊢
    have m5 := M1.row j rj erj
    have M2 := M1.set (j := i) (v := (x : Int)) erj
    rw [← row_set] at M2
    refine ⟨_, rfl, _, rfl, a, C, dx, _, _, rfl, a1, T.cl, T.nL, boxF_l, _, rfl, l, _, _, _, rfl, rfl, SqL.of M1.top, m2, _, rfl, rj, _, _, i, rfl, rfl, m5, ixN_row hi, ?_⟩
    refine ⟨_, rfl, k _ (o1.trans (Off.upd (by rw [h5]; exact List.mem_cons_of_mem _ mj))) ⟨dx, l, s', rs, ss, ?_, M2.congr fun p q hp hq => ?_, ?_, ?_, h5, h6, h7, h8⟩⟩
    · rw [upd_ne arj]
      exact a1
    · have e := EH.way_set (x := x) ok hi hj hij p q
      show (if p = j ∧ q = i then (x : Int) else if p = i ∧ q = j then (x : Int) else (Sr82.way g.g p q : Int)) = (Sr82.way (Sr82.setWay g.g i j x) p q : Int)
      rw [e]
      by_cases c1 : p = j ∧ q = i
      · rw [if_pos c1, if_pos (Or.inr c1)]
      · rw [if_neg c1]
        by_cases c2 : p = i ∧ q = j
        · rw [if_pos c2, if_pos (Or.inl c2)]
        · rw [if_neg c2, if_neg (by omega)]
    · rw [upd_ne (fun e => h6 (by rw [e]; exact mj))]
      exact b1
    · exact paired_of f1 fun b hb y z => fracs_upd z (fun e => h8 b hb (by rw [e]; exact List.mem_cons_of_mem _ mj)) (fun zs e => by rw [m5] at e; cases e) fun u zs e => by rw [m5] at e; cases e
include G
theorem df_init {f : Addr} {fd : FuncData} (F : Fun K "__init__" "Instance.__init__" s_Instance___init__ f fd) (c_empty_lengths : Df P w K mg base CX0 1 "empty_lengths" spEmpty) (c_first_distribution : Df P w K mg base CX0 1 "first_distribution" (spFirst K)) :
    FnOk P w K mg base CX0 2 f fd ["self", "n"] (spInit K C) := by
  refine F.ok sc_Instance___init__ (fun vs H Q E h => ?_) (fun cdv A outer s H vs Q E hr h => ⟨_,
(pss_cons (ps_fld (pv 0) (pe_c0 c_empty_lengths hr (by decide) rfl (pa_cons (pv 1) pa_nil)) rfl)
 (pss_one (ps_fld (pv 0) (pe_lc (own := [("k", 2)]) (g := gName 2) (tt := tYes) rfl sc_Instance___init__.nd (pi_range1 rfl B.range_ (pa_cons (pe_gk rfl G.SLOTS_) pa_nil)) (blkOk_by (own := [("k", 2)]) (N := ["self", "n", "k"]) (by kernel_rfl))
 (fun _ _ _ _ _ => (pg_name (i := 2) sc_Instance___init__.nd rfl (Or.inl rfl))) (fun _ _ _ _ _ => pts_nil) (fun _ _ _ _ _ => (pe_c0 c_first_distribution hr (by decide) rfl (pa_cons (pv 1) pa_nil)))) rfl)))
   , ?_⟩)
  · obtain ⟨a, dx, n, rfl, _⟩ := h
    rfl
  · obtain ⟨a, dx, n, rfl, ha, hn0, hn, k⟩ := h
    refine ⟨_, rfl, n, rfl, by omega, fun H1 l rs s1 newl newr hM => ?_⟩
    have hal : a ≠ l := fun z => by
      rw [z, newl] at ha
      cases ha
    have har : a ∉ rs := fun z => by
      have := newr a z
      rw [ha] at this
      cases this
    have a1 := s1 _ _ ha
    refine ⟨_, rfl, a, C, dx, _, rfl, a1, T.cl, T.nL, by show 0 < 1000; decide, ?_⟩
    have e1 : putF ("lengths" : Str) (V.ref l) [] = [(("lengths" : Str), V.ref l)] := rfl
    rw [e1]
    have M1 : MxR (upd H1 a (.ins C dx [(("lengths" : Str), V.ref l)])) l rs n fun _ _ => 0 := hM.off (qs := [a]) (Off.upd (List.mem_singleton.mpr rfl)) (fun z => hal (List.mem_singleton.mp z).symm) fun r hr z => har (by rw [← List.mem_singleton.mp z]; exact hr)
    have a2 : upd H1 a (.ins C dx [(("lengths" : Str), V.ref l)]) a = some (.ins C dx [(("lengths" : Str), V.ref l)]) := upd_same
    have o1 : Off [a] H (upd H1 a (.ins C dx [(("lengths" : Str), V.ref l)])) := (Off.of s1).trans (Off.upd (List.mem_singleton.mpr rfl))
    generalize upd H1 a (.ins C dx [(("lengths" : Str), V.ref l)]) = H2 at M1 a2 o1
    refine ⟨_, rfl, by decide, by decide, fun s' news => ?_⟩
    have mlen : (List.replicate 4 (firstP n)).length = 4 := List.length_replicate ..
    refine lc_range0 (n := 4) (Made (FracsAt K) H2 s' (List.replicate 4 (firstP n))) (Made.start news) (fun i H3 hi hv => ?_) fun H3 hv => ?_
    · refine ⟨rfl, tY ?_⟩
      refine ⟨_, rfl, n, rfl, hn0, by omega, fun H4 t s4 newt ht => ?_⟩
      exact hv.next kept_fracs framed_fracs s4 ht (hv.ne newt) (by rw [List.getElem?_replicate, if_pos hi]) news (by rw [mlen]; decide)
    obtain ⟨ss, e3, s3, hp, hns⟩ := hv
    rw [List.take_of_length_le (by rw [mlen]; exact Nat.le_refl _)] at hp
    have M3 := M1.same s3
    have a3 := s3 _ _ a2
    have has : a ≠ s' := ne_of_none a2 news
    refine ⟨_, rfl, a, C, dx, _, rfl, a3, T.cl, T.nS, by show 1 < 1000; decide, ?_⟩
    have e2 : putF ("slots" : Str) (V.ref s') [(("lengths" : Str), V.ref l)] = boxF l s' := rfl
    rw [e2]
    have hsl : s' ≠ l := fun z => by
      have := M1.top
      rw [← z, news] at this
      cases this
    have hsr : s' ∉ rs := fun z => by
      obtain ⟨i, e⟩ := List.getElem?_of_mem z
      have := M1.row i _ e
      rw [news] at this
      cases this
    have hss : ∀ x ∈ ss, x ∉ s' :: rs := fun x hx z => by
      rcases List.mem_cons.mp z with z | z
      · exact hns (by rw [← z]; exact hx)
      · obtain ⟨i, e⟩ := List.getElem?_of_mem z
        have er := M3.row i x e
        obtain ⟨j, ej⟩ := List.getElem?_of_mem hx
        obtain ⟨y, ey, hy⟩ := ListOf.nth hp ej
        obtain ⟨as, q1, q2⟩ := hy
        rw [er] at q1
        have q1 : rowI n (fun _ => 0) = as.map V.ref := by injection Option.some.inj q1
        have q3 : (rowI n fun _ => 0)[0]? = some (V.int 0) := row_get (g := fun _ => (0 : Int)) hn0
        rw [q1, List.getElem?_map] at q3
        cases q4 : as[0]? with
        | none => rw [q4] at q3; cases q3
        | some b => rw [q4] at q3; cases q3
    have hpa : ∀ x ∈ ss, x ≠ a := fun x hx z => by
      obtain ⟨j, ej⟩ := List.getElem?_of_mem hx
      obtain ⟨y, ey, hy⟩ := ListOf.nth hp ej
      obtain ⟨as, q1, q2⟩ := hy
      rw [z, a3] at q1
      cases q1
    have wz : wayI (Sr82.noWays n) = fun _ _ => 0 := funext fun i => funext fun j => by
      show (Sr82.way (Sr82.noWays n) i j : Int) = 0
      rw [EH.way_none]
      rfl
    refine k _ (s' :: rs) ⟨dx, l, s', rs, ss, upd_same, ?_, ?_, ?_, rfl, hsr, hsl, hss⟩ ?_ ?_
    · show MxR _ l rs n (wayI (Sr82.noWays n))
      rw [wz]
      exact M3.off (qs := [a]) (Off.upd (List.mem_singleton.mpr rfl)) (fun z => hal (List.mem_singleton.mp z).symm) fun r hr z => har (by rw [← List.mem_singleton.mp z]; exact hr)
    · rw [upd_ne (Ne.symm has)]
      exact e3
    · show Paired _ ss (List.replicate Sr80.SLOTS (Sr80.sure n))
      rw [← (EH.spr_first hn0).2]
      exact paired_of hp fun x hx y z => fracs_upd z (hpa x hx) (fun zs e => by rw [a3] at e; cases e) fun u zs e => by rw [a3] at e; cases e
    · exact (o1.trans (Off.of s3)).trans (Off.upd (List.mem_singleton.mpr rfl))
    · intro x hx
      rcases List.mem_cons.mp hx with z | z
      · rw [z]
        have h0 : H s' = none := by
          cases e : H s' with
          | none => rfl
          | some u =>
            have := o1 _ _ e (fun y => has (List.mem_singleton.mp y).symm)
            rw [news] at this
            cases this
        exact h0
      · exact newr x z
end
end EW
end

/-! ## EwLook -/
section
set_option Elab.async false
set_option linter.all false
set_option maxRecDepth 100000
set_option maxHeartbeats 2000000
set_option autoImplicit false
/-! What the operations look at first; how a plan is told. -/
namespace EW
open PySem PySem.Spec PyProof.Rows L2
open Sr58 (Frac)
open Sr82 (Ground hangs)
open EH (GOk wayI cD)
local macro_rules | `(tactic| walk_at "rd") => `(tactic| repeat (first | refine ⟨rfl, ?_⟩ | apply Exists.intro | refine ⟨by assumption, ?_⟩))
abbrev s_look_row : Stmt := top 72
theorem sc_look_row : FnScope ["row", "many", "least", "most"] ["row", "many", "least", "most"] (defScope s_look_row) := ⟨rfl, rfl, rfl, by decide +kernel, rfl, by decide +kernel, by decide +kernel⟩
abbrev s_look_connected : Stmt := top 73
theorem sc_look_connected : FnScope ["box"] ["box"] (defScope s_look_connected) := ⟨rfl, rfl, rfl, by decide +kernel, rfl, by decide +kernel, by decide +kernel⟩
abbrev s_look_transport : Stmt := top 79
theorem sc_look_transport : FnScope ["box", "slots"] ["box", "slots"] (defScope s_look_transport) := ⟨rfl, rfl, rfl, by decide +kernel, rfl, by decide +kernel, by decide +kernel⟩
abbrev s_told_plan : Stmt := top 74
theorem sc_told_plan : FnScope ["costs", "plan", "found", "row"] ["costs", "plan"] (defScope s_told_plan) := ⟨rfl, rfl, rfl, by decide +kernel, rfl, by decide +kernel, by decide +kernel⟩
theorem Raised.same {CR : Addr} {H H1 : Hp} {E : XK} {c : Int} (h : Raised CR H E c) (s : Same H H1) : Raised CR H1 E c := fun H' d s' n e => h H' d (s.trans s') (s.free n) e
def RowOk (ns : List Int) (m lo hi : Int) : Prop := (ns.length : Int) = m ∧ ∀ x ∈ ns, lo ≤ x ∧ x ≤ hi
def spLookR (K : PySem.W.Frag) (CR : Addr) : Sp := fun vs H Q E => ∃ (a : Addr) (m lo hi : Int) (ns : List Int), vs = [.ref a, .int m, .int lo, .int hi] ∧ SqL K H a (ns.map V.int) ∧ 0 < m ∧ (RowOk ns m lo hi → Q .non H) ∧ (¬ RowOk ns m lo hi → Raised CR H E (-22))
def spLookC (K : PySem.W.Frag) (C CR : Addr) : Sp := fun vs H Q E => ∃ (a : Addr) (g : Ground) (D : List Addr), vs = [.ref a] ∧ BoxAt K C H a g D ∧ GOk g ∧ (hangs g.n g.g = true → ∀ H', Same H H' → Q .non H') ∧ (hangs g.n g.g = false → Raised CR H E (-33))
def spLookT (K : PySem.W.Frag) (C CR : Addr) : Sp := fun vs H Q E => ∃ (a b : Addr) (g : Ground) (D : List Addr) (ns : List Int), vs = [.ref a, .ref b] ∧ BoxAt K C H a g D ∧ GOk g ∧ SqL K H b (ns.map V.int) ∧ 0 < ns.length ∧
  (Inr 4 ns → hangs g.n g.g = true → ∀ H', Same H H' → Q .non H') ∧ (¬ Inr 4 ns → Raised CR H E (-2)) ∧ (Inr 4 ns → hangs g.n g.g = false → Raised CR H E (-33))
def toldP (n : Nat) (c : Nat → Nat → Int) (x : Nat → Nat → Frac) : List Int := ((n * n : Nat) : Int) :: ((XF n x).flatten.flatMap Sr66.fr ++ Sr66.fr (Sr58.total (costs_ n c x)))
def spToldP (K : PySem.W.Frag) : Sp := fun vs H Q _ => ∃ (a b : Addr) (n : Nat) (c : Nat → Nat → Int) (x : Nat → Nat → Frac), vs = [.ref a, .ref b] ∧ Mx K H a n c ∧ MatFAt K H b (XF n x) ∧ n ≤ 6 ∧ CostOk n c x ∧ HandsN IntsL H Q (toldP n c x)
section
variable {P : Program} {w : World} {K : PySem.W.Frag} {mg : Str → Option Value} {base : Heap} (B : Nb mg) {A0 : Ad} (G : Gs K mg A0) {C CR : Addr} (T : BoxT K C)
include B
theorem df_look_row {f : Addr} {fd : FuncData} (hm : mg "look_row" = some (.ref f)) (F : Fun K "look_row" "look_row" s_look_row f fd) (R : RefD P w K mg base CR) (c_are_between : Df P w K mg base CX0 1 "are_between" (spBetween K)) : Df P w K mg base (L2.CX P w) 3 "look_row" (spLookR K CR) := by
  refine df_of (F.okX sc_look_row (fun vs H Q E h => ?_) (fun cdv A outer s H vs Q E hr h => ⟨_,
(pss_one (ps_if (PW.pt (pw_or (pt_cmpR op_ne (pe_callB call_len_seq (by rfl) B.len_ (by decide +kernel) (pa_cons (pv 0) pa_nil)) (pv 1) (nomark _)) (pw_or1 (pt_not (pt_val (pe_c0 c_are_between hr (by decide) rfl (pa_cons (pv 0) (pa_cons (pv 2) (pa_cons (pv 3) pa_nil))))))))) (pss_one (ps_raise rfl (takes_of rfl rfl rfl rfl) (pmk_ref R hr (by decide) rfl (pa_cons (pe_un un_neg pe_int) pa_nil)))) pss_nil))
   , ?_⟩)) hm F.kp (F.binds fun _ _ _ _ _ _ us hl => match us, hl with | [_, _, _, _], _ => rfl)
  · obtain ⟨a, m, lo, hi, ns, rfl, _⟩ := h
    rfl
  · obtain ⟨a, m, lo, hi, ns, rfl, hs, hm0, kt, kf⟩ := h
    refine ⟨_, rfl, a, _, rfl, .inl hs, ?_⟩
    rw [List.length_map]
    refine ⟨_, rfl, rfl, _, rfl, ?_⟩
    refine ite2 (fun c1 => ?_) (fun c1 => ?_)
    · refine ite2 (fun _ => ?_) (fun z => absurd rfl z)
      refine ⟨_, rfl, raised R.t (kf fun z => ?_)⟩
      rw [z.1] at c1
      simp at c1
    · have c1 : (ns.length : Int) = m := by
        rcases Classical.em ((ns.length : Int) = m) with z | z
        · exact z
        · exact absurd (by simp [z]) c1
      refine ⟨_, rfl, _, rfl, _, rfl, a, lo, hi, ns, rfl, hs, by omega, fun r hr' => ⟨r, rfl, ?_⟩⟩
      refine ite2 (fun c2 => ?_) (fun c2 => ?_)
      · refine ⟨_, rfl, raised R.t (kf fun z => ?_)⟩
        rw [hr'.mpr z.2] at c2
        exact absurd c2 (by decide)
      · refine kt ⟨c1, hr'.mp ?_⟩
        cases r with
        | true => rfl
        | false => exact absurd rfl c2
theorem df_look_connected {f : Addr} {fd : FuncData} (hm : mg "look_connected" = some (.ref f)) (F : Fun K "look_connected" "look_connected" s_look_connected f fd) (R : RefD P w K mg base CR) (T : BoxT K C) (c_is_connected : Df P w K mg base CX0 3 "is_connected" (spConn K)) : Df P w K mg base (L2.CX P w) 4 "look_connected" (spLookC K C CR) := by
  refine df_of (F.okX sc_look_connected (fun vs H Q E h => ?_) (fun cdv A outer s H vs Q E hr h => ⟨_,
(pss_one (ps_if (pt_not (pt_val (pe_c0 c_is_connected hr (by decide) rfl (pa_cons (pe_fld (pv 0) rfl) pa_nil)))) (pss_one (ps_raise rfl (takes_of rfl rfl rfl rfl) (pmk_ref R hr (by decide) rfl (pa_cons (pe_un un_neg pe_int) pa_nil)))) pss_nil))
   , ?_⟩)) hm F.kp (F.binds fun _ _ _ _ _ _ us hl => match us, hl with | [_], _ => rfl)
  · obtain ⟨a, g, D, rfl, _⟩ := h
    rfl
  · obtain ⟨a, g, D, rfl, hB, ok, kt, kf⟩ := h
    obtain ⟨dx, l, s', e1, hM⟩ := hB.mx
    refine ⟨_, rfl, a, C, dx, _, _, rfl, e1, T.cl, T.nL, boxF_l, l, g.n, wayI g.g, rfl, hM, by have := ok.n6; omega, ok.n0, fun H1 b s1 hb => ?_⟩
    have hb : b = true ↔ hangs g.n g.g = true := hb.trans (EH.hangs_is ok.n6 ok.ways).symm
    refine ⟨b, rfl, ?_⟩
    refine ite2 (fun c2 => ?_) (fun c2 => ?_)
    · refine ⟨_, rfl, raised R.t ((kf ?_).same s1)⟩
      cases hh : hangs g.n g.g with
      | false => rfl
      | true =>
        rw [hb.mpr hh] at c2
        exact absurd c2 (by decide)
    · refine kt (hb.mp ?_) H1 s1
      cases b with
      | true => rfl
      | false => exact absurd rfl c2
theorem df_look_transport {f : Addr} {fd : FuncData} (hm : mg "look_transport" = some (.ref f)) (F : Fun K "look_transport" "look_transport" s_look_transport f fd) (c_look_slots : Df P w K mg base (L2.CX P w) 3 "look_slots" (spLookS K CR)) (c_look_connected : Df P w K mg base (L2.CX P w) 4 "look_connected" (spLookC K C CR)) :
    Df P w K mg base (L2.CX P w) 5 "look_transport" (spLookT K C CR) := by
  refine df_of (F.okX sc_look_transport (fun vs H Q E h => ?_) (fun cdv A outer s H vs Q E hr h => ⟨_,
(pss_cons (ps_expr (pe_cX c_look_slots hr (by decide) rfl (passes_call (takes_of rfl rfl rfl rfl) fun _ _ _ _ h => h) (pa_cons (pv 1) pa_nil)))
 (pss_one (ps_expr (pe_cX c_look_connected hr (by decide) rfl (passes_call (takes_of rfl rfl rfl rfl) fun _ _ _ _ h => h) (pa_cons (pv 0) pa_nil)))))
   , ?_⟩)) hm F.kp (F.binds fun _ _ _ _ _ _ us hl => match us, hl with | [_, _], _ => rfl)
  · obtain ⟨a, b, g, D, ns, rfl, _⟩ := h
    rfl
  · obtain ⟨a, b, g, D, ns, rfl, hB, ok, hs, hne, kt, k2, k33⟩ := h
    refine ⟨_, rfl, b, ns, rfl, hs, hne, fun hin => ?_, k2⟩
    exact ⟨_, rfl, a, g, D, rfl, hB, ok, fun hh H1 s1 => kt hin hh H1 s1, fun hh => k33 hin hh⟩
include G
theorem df_told_plan {f : Addr} {fd : FuncData} (hm : mg "told_plan" = some (.ref f)) (F : Fun K "told_plan" "told_plan" s_told_plan f fd) (c_told : Df P w K mg base CX0 1 "told" (spTold K)) (c_cost_of : Df P w K mg base CX0 5 "cost_of" (spCost K)) : Df P w K mg base CX0 6 "told_plan" (spToldP K) := by
  refine df_of (F.ok sc_told_plan (fun vs H Q E h => ?_) (fun cdv A outer s H vs Q E hr h => ⟨_,
(pss_cons (ps_set (i := 2) sc_told_plan.nd rfl (Or.inl rfl) (pe_lst (pa_cons (pe_op op_mulW (pe_callB call_len_seq (by rfl) B.len_ (by decide +kernel) (pa_cons (pv 1) pa_nil)) (pe_callB call_len_seq (by rfl) B.len_ (by decide +kernel) (pa_cons (pv 1) pa_nil))) pa_nil)))
 (pss_cons (ps_for PassesOwn.never rfl (pi_list (pv 1)) (pg_name (i := 3) sc_told_plan.nd rfl (Or.inl rfl)) (pss_one (ps_expr (pe_bm PySem.F.plainAttrs_list PySem.F.slot_list_extend PySem.F.type_list_extend mt_extend (pv 2) (pa_cons (pe_c0 c_told hr (by decide) rfl (pa_cons (pv 3) pa_nil)) pa_nil)))))
 (pss_one (ps_ret (pe_op op_cat (pv 2) (pe_c0 c_told hr (by decide) rfl (pa_cons (pe_lst (pa_cons (pe_c0 c_cost_of hr (by decide) rfl (pa_cons (pv 0) (pa_cons (pv 1) pa_nil))) pa_nil)) pa_nil)))))))
   , ?_⟩)) hm F.kp (F.binds fun _ _ _ _ _ _ us hl => match us, hl with | [_, _], _ => rfl)
  · obtain ⟨a, b, n, c, x, rfl, _⟩ := h
    rfl
  · obtain ⟨a, b, n, c, x, rfl, hC, hX, hn, ok, k⟩ := h
    obtain ⟨as, l1, l2, lg⟩ := matF_all hX
    have hnn : n * n ≤ 6 * 6 := Nat.mul_le_mul hn hn
    have hxl : (XF n x).length = n := by simp
    have hfl : ∀ i, (((XF n x).take i).flatten.flatMap Sr66.fr).length ≤ i * (2 * n) := by
      intro i
      induction i with
      | zero => simp
      | succ i ih =>
        rcases Nat.lt_or_ge i n with q | q
        · rw [take_more (l := XF n x) (range_get (f := fun i => (List.range n).map fun j => x i j) q), List.flatten_append, List.flatMap_append, List.length_append, Nat.succ_mul]
          have e2 : (([(List.range n).map fun j => x i j].flatten).flatMap Sr66.fr).length = 2 * n := by
            rw [List.flatten_singleton]
            have : ∀ l : List Frac, (l.flatMap Sr66.fr).length = 2 * l.length := by
              intro l
              induction l with
              | nil => rfl
              | cons z l ih =>
                rw [List.flatMap_cons, List.length_append, ih, List.length_cons]
                show 2 + 2 * l.length = _
                omega
            rw [this, List.length_map, List.length_range]
          omega
        · rw [List.take_of_length_le (by rw [hxl]; omega)] at ih ⊢
          rw [Nat.succ_mul]
          omega
    refine ⟨_, rfl, b, _, rfl, .inl l1, _, rfl, b, _, rfl, .inl l1, _, _, rfl, rfl, ?_⟩
    rw [List.length_map, l2]
    refine ⟨mul_small (by omega) (by omega), by show 1 ≤ sizeLine; decide, fun F newF => ?_⟩
    refine ⟨_, rfl, b, rfl, ⟨_, (same_upd newF).seq l1⟩, for_list (K := K) (a := b) (xs := as.map V.ref) (fun i σ H' => ∃ o : Option V, σ = [some (.ref a), some (.ref b), some (.ref F), o] ∧ Same H H' ∧
        H' F = some (.lst ((((n * n : Nat) : Int) :: (((XF n x).take i).flatten.flatMap Sr66.fr)).map V.int))) ⟨none, rfl, same_upd newF, by rw [upd_same, Int.natCast_mul]; rfl⟩ (fun i σ H' _ ⟨_, _, s1, _⟩ => s1.seq l1) ?_ ?_⟩
    · rintro i y σ H1 hi ⟨o, rfl, s1, hF⟩
      obtain ⟨r, er, rfl⟩ := map_get hi
      have hin : i < n := by
        rw [← l2]
        exact (List.getElem?_eq_some_iff.mp er).1
      obtain ⟨r', m1, m2, m3⟩ := lg i hin
      rw [m2] at er
      cases er
      have h1 := hfl i
      have h3 : i * (2 * n) ≤ 6 * (2 * 6) := Nat.mul_le_mul (by omega) (by omega)
      refine ⟨_, rfl, .inl ⟨rfl, _, SqL.of hF⟩, ?_⟩
      refine ⟨_, rfl, r, _, rfl, same_fracs s1 m3, by rw [List.length_map, List.length_range]; omega, fun H2 t s2 newt ht => ?_⟩
      refine ⟨F, t, _, _, rfl, rfl, s2 _ _ hF, ht, ?_, ?_⟩
      · rw [List.length_map, List.length_map, List.length_cons]
        have e2 := hfl (i + 1)
        rw [take_more (l := XF n x) (range_get (f := fun i => (List.range n).map fun j => x i j) hin), List.flatten_append, List.flatMap_append, List.length_append, List.flatten_singleton] at e2
        have h4 : (i + 1) * (2 * n) ≤ 6 * (2 * 6) := Nat.mul_le_mul (by omega) (by omega)
        have e4 : (((List.range n).map fun j => x i j).flatMap Sr66.fr).length = (((List.range n).map (x i)).flatMap Sr66.fr).length := rfl
        exact Nat.le_of_lt (small1000 (by omega))
      · refine ⟨_, rfl, same_over (s1.trans s2) newF, ?_⟩
        rw [upd_same, take_more (l := XF n x) (range_get (f := fun i => (List.range n).map fun j => x i j) hin), List.flatten_append, List.flatMap_append, List.flatten_singleton, List.map_cons, List.map_cons, List.map_append]
        rfl
    · rintro σ H1 ⟨o, rfl, s1, hF⟩
      rw [List.length_map, l2, List.take_of_length_le (by rw [hxl]; exact Nat.le_refl _)] at hF
      refine ⟨_, rfl, _, rfl, _, rfl, a, b, n, c, x, rfl, hC.same s1, same_matF s1 hX, by omega, ok.sz, ok.pr, ok.ps, fun H2 t s2 ht => ?_⟩
      refine ⟨by show 1 ≤ sizeLine; decide, fun l newl => ?_⟩
      have s3 := same_upd (o := .lst [V.ref t]) newl
      have el : upd H2 l (.lst [V.ref t]) l = some (.lst [V.ref t]) := upd_same
      generalize upd H2 l (.lst [V.ref t]) = H3 at s3 el
      refine ⟨l, [Sr58.total (costs_ n c x)], rfl, ⟨[t], el, .cons (same_fr s3 ht) .nil⟩, by show 1 ≤ 100; decide, fun H4 z s4 newz hz => ?_⟩
      have h1 := hfl n
      rw [List.take_of_length_le (by rw [hxl]; exact Nat.le_refl _)] at h1
      have h3 : n * (2 * n) ≤ 6 * (2 * 6) := Nat.mul_le_mul hn (by omega)
      refine ⟨F, z, _, _, rfl, rfl, ((s2.trans s3).trans s4) _ _ hF, hz, ?_, fun p newp => ?_⟩
      · rw [List.length_map, List.length_map, List.length_cons]
        have e5 : ([Sr58.total (costs_ n c x)].flatMap Sr66.fr).length = 2 := rfl
        exact Nat.le_of_lt (small1000 (by omega))
      · have s14 := (s1.trans (s2.trans s3)).trans s4
        refine k _ p (s14.trans (same_upd newp)) (s14.free newp) ?_
        simp only [IntsL, upd_same, toldP, List.map_cons, List.map_append, List.cons_append, List.flatMap_cons, List.flatMap_nil, List.append_nil]
end
end EW
end

/-! ## EwDo1 -/
section
set_option Elab.async false
set_option linter.all false
set_option maxRecDepth 100000
set_option maxHeartbeats 2000000
set_option autoImplicit false
/-! The operations: what each promises; the first ones. -/
namespace EW
open PySem PySem.Spec PyProof.Rows L2
open Sr58 (Frac)
open Sr82 (Ground hangs at_ isP)
open Sr80 (isK)
open EH (GOk wayI cD)
local macro_rules | `(tactic| walk_at "rd") => `(tactic| repeat (first | refine ⟨rfl, ?_⟩ | apply Exists.intro | refine ⟨by assumption, ?_⟩))
abbrev s_tell_connected : Stmt := top 90
theorem sc_tell_connected : FnScope ["box", "numbers", "row"] ["box", "numbers", "row"] (defScope s_tell_connected) := ⟨rfl, rfl, rfl, by decide +kernel, rfl, by decide +kernel, by decide +kernel⟩
abbrev s_distribution : Stmt := top 77
theorem sc_distribution : FnScope ["box", "numbers", "row"] ["box", "numbers", "row"] (defScope s_distribution) := ⟨rfl, rfl, rfl, by decide +kernel, rfl, by decide +kernel, by decide +kernel⟩
abbrev s_distance : Stmt := top 78
theorem sc_distance : FnScope ["box", "numbers", "row", "found"] ["box", "numbers", "row"] (defScope s_distance) := ⟨rfl, rfl, rfl, by decide +kernel, rfl, by decide +kernel, by decide +kernel⟩
abbrev s_set_edge : Stmt := top 75
theorem sc_set_edge : FnScope ["box", "numbers", "row", "i", "j", "length"] ["box", "numbers", "row"] (defScope s_set_edge) := ⟨rfl, rfl, rfl, by decide +kernel, rfl, by decide +kernel, by decide +kernel⟩
/-- p is none of what stood outside of D -/
def NewP (D : List Addr) (H : Hp) (p : Addr) : Prop := ∀ b u, H b = some u → b ∉ D → (∀ ps, u ≠ .tbl ps) → b ≠ p
theorem newp_of {D : List Addr} {H H1 : Hp} {p : Addr} (e : LamX.ExtN H H1) (n : H1 p = none) : NewP D H p := fun b u h _ hu z => by
  have := e b u h hu
  rw [z, n] at this
  cases this
/-- how an operation ends: it hands back the answer, or refuses by its code -/
structure OpOut (K : PySem.W.Frag) (P0 C CR a : Addr) (g : Ground) (D : List Addr) (H : Hp) (Q : VK) (E : XK) (r : Option Ground × Sr66.Ans) : Prop where
  ret : ∀ (H' : Hp) (p : Addr), KpT P0 D H H' → BoxAt K C H' a (r.1.getD g) D → NewP D H p → IntsL H' p (r.2.num :: r.2.nums) → Q (.ref p) H'
  exc : r.1 = none → r.2.nums = [] → ∀ (H' : Hp) (d : Addr), LamX.ExtN H H' → LamX.Tabs (TN P0) H' → H' d = some (.xd [("code", .int r.2.num)]) → E (.ref CR) (some d) H'
def inb (l : List Int) : Prop := ∀ x ∈ l, -2147483648 ≤ x ∧ x ≤ 2147483647
def spOp (K : PySem.W.Frag) (P0 C CR : Addr) (Cl : List Int → List Int → Sr82.Call → Prop) : Sp := fun vs H Q E => ∃ (a b d : Addr) (g : Ground) (D : List Addr) (ns row : List Int) (c : Sr82.Call), vs = [.ref a, .ref b, .ref d] ∧ BoxAt K C H a g D ∧ GOk g ∧
  SqL K H b (ns.map V.int) ∧ SqL K H d (row.map V.int) ∧ LamX.Tabs (TN P0) H ∧ Cl ns row c ∧ inb ns ∧ inb row ∧ row.length ≤ 70 ∧ OpOut K P0 C CR a g D H Q E (Sr82.doing g c)
/-- the calls of the operations, by their numbers and rows -/
def clWay (ns row : List Int) (c : Sr82.Call) : Prop := ∃ i j x, ns = [i, j, x] ∧ c = .way i j x
def clSpread (ns row : List Int) (c : Sr82.Call) : Prop := ∃ k, ns = [k] ∧ c = .spread k row
def clTold (ns row : List Int) (c : Sr82.Call) : Prop := ∃ k, ns = [k] ∧ c = .told k
def clFar (ns row : List Int) (c : Sr82.Call) : Prop := ∃ i j, ns = [i, j] ∧ c = .far i j
def clLeast (ns row : List Int) (c : Sr82.Call) : Prop := ∃ k l, ns = [k, l] ∧ c = .least k l
def clPlan (ns row : List Int) (c : Sr82.Call) : Prop := ∃ k l, ns = [k, l] ∧ c = .plan k l
def clPrices (ns row : List Int) (c : Sr82.Call) : Prop := ∃ k l, ns = [k, l] ∧ c = .prices k l
def clTest (ns row : List Int) (c : Sr82.Call) : Prop := ∃ k l e, ns = [k, l, e] ∧ c = .test k l e row
def clFair (ns row : List Int) (c : Sr82.Call) : Prop := ∃ k l, ns = [k, l] ∧ c = .fair k l row
def clBehind (ns row : List Int) (c : Sr82.Call) : Prop := ∃ k l m, ns = [k, l, m] ∧ c = .behind k l m
def clImage (ns row : List Int) (c : Sr82.Call) : Prop := ∃ k m, ns = [k, m] ∧ c = .image k m row
def clMiddle (ns row : List Int) (c : Sr82.Call) : Prop := ∃ k l m, ns = [k, l, m] ∧ c = .middle k l m
def clHangs (ns row : List Int) (c : Sr82.Call) : Prop := ns = [] ∧ c = .hangs
section
variable {K : PySem.W.Frag} {P0 C CR a : Addr} {g : Ground} {D : List Addr} {H H1 H' : Hp} {Q : VK} {E : XK} {r : Option Ground × Sr66.Ans} {p : Addr} {c : Int}
theorem OpOut.give (o : OpOut K P0 C CR a g D H Q E r) (hB : BoxAt K C H a g D) (eN : LamX.ExtN H H') (hT : LamX.Tabs (TN P0) H') (er : r.1 = none) (np : NewP D H p) (hp : IntsL H' p (r.2.num :: r.2.nums)) : Q (.ref p) H' :=
  o.ret H' p ⟨fun b u e _ hu => eN b u e hu, hT⟩ (by rw [er]; exact hB.extN eN) np hp
theorem OpOut.raisedN (o : OpOut K P0 C CR a g D H Q E r) (eN : LamX.ExtN H H1) (hT : LamX.Tabs (TN P0) H1) (er : r = (none, Sr82.say c)) : Raised CR H1 E c := fun H' d s _ e => by
  subst er
  exact o.exc rfl rfl H' d (eN.trans (LamX.ExtN.of s)) (hT.ext s) e
theorem OpOut.raised (o : OpOut K P0 C CR a g D H Q E r) (hT : LamX.Tabs (TN P0) H) (er : r = (none, Sr82.say c)) : Raised CR H E c := o.raisedN (LamX.ExtN.refl H) hT er
end
theorem isK_iff {k : Int} : isK k = true ↔ 0 ≤ k ∧ k < 4 := by
  unfold Sr80.isK
  rw [Bool.and_eq_true, decide_eq_true_eq, decide_eq_true_eq]
  have : (Sr80.SLOTS : Int) = 4 := rfl
  omega
theorem isP_iff {g : Ground} {k : Int} : isP g k = true ↔ 0 ≤ k ∧ k < g.n := by
  unfold Sr82.isP
  rw [Bool.and_eq_true, decide_eq_true_eq, decide_eq_true_eq]
theorem isK_no {k : Int} : isK k = false ↔ ¬ (0 ≤ k ∧ k < 4) := by
  rw [← isK_iff]
  cases isK k <;> simp
theorem isP_no {g : Ground} {k : Int} : isP g k = false ↔ ¬ (0 ≤ k ∧ k < g.n) := by
  rw [← isP_iff]
  cases isP g k <;> simp
theorem inr1 {m k : Int} : Inr m [k] ↔ 0 ≤ k ∧ k < m := by unfold Inr; simp
theorem inr2 {m k l : Int} : Inr m [k, l] ↔ (0 ≤ k ∧ k < m) ∧ 0 ≤ l ∧ l < m := by unfold Inr; simp
theorem inr3 {m k l j : Int} : Inr m [k, l, j] ↔ (0 ≤ k ∧ k < m) ∧ (0 ≤ l ∧ l < m) ∧ 0 ≤ j ∧ j < m := by unfold Inr; simp
theorem nat_of {k : Int} (h : 0 ≤ k) : ((k.toNat : Nat) : Int) = k := by omega
theorem Spr_range {n L : Nat} {x : List Frac} {A : Nat → Int} (h : EH.Spr n L x A) : x = (List.range n).map fun i => Sr58.frac (A i) L := h.eq
/-- the slot k -/
theorem BoxAt.slot {K : PySem.W.Frag} {C a : Addr} {H : Hp} {g : Ground} {D : List Addr} (h : BoxAt K C H a g D) (ok : GOk g) : ∃ (dx l s : Addr) (ss : List Addr), H a = some (.ins C dx (boxF l s)) ∧ SqL K H s (ss.map V.ref) ∧
    ∀ k : Int, 0 ≤ k ∧ k < 4 → ∃ t, atI (ss.map V.ref) k = some (.ref t) ∧ FracsAt K H t (at_ g k) := by
  obtain ⟨dx, l, s, ss, e1, e2, e3, e4⟩ := h.slots
  refine ⟨dx, l, s, ss, e1, e2, fun k hk => ?_⟩
  obtain ⟨t, q1, q2⟩ := e4 k.toNat _ (ok.slot (isK_iff.mpr hk)).2
  rw [nat_of hk.1] at q1
  exact ⟨t, q1, q2⟩
section
variable {P : Program} {w : World} {K : PySem.W.Frag} {mg : Str → Option Value} {base : Heap} (B : Nb mg) {A0 : Ad} (G : Gs K mg A0) {P0 C CR : Addr} (T : BoxT K C)
include B T
theorem df_tell_connected {f : Addr} {fd : FuncData} (hm : mg "tell_connected" = some (.ref f)) (F : Fun K "tell_connected" "tell_connected" s_tell_connected f fd) (c_is_connected : Df P w K mg base CX0 3 "is_connected" (spConn K)) :
    Df P w K mg base (L2.CX P w) 4 "tell_connected" (spOp K P0 C CR clHangs) := by
  refine df_of (F.okX sc_tell_connected (fun vs H Q E h => ?_) (fun cdv A outer s H vs Q E hr h => ⟨_,
(pss_one (ps_ret (pe_lst (pa_cons (pe_callTy call_int1 (by rfl) B.int_ (by decide +kernel) (pa_cons (pe_c0 c_is_connected hr (by decide) rfl (pa_cons (pe_fld (pv 0) rfl) pa_nil)) pa_nil)) pa_nil))))
   , ?_⟩)) hm F.kp (F.binds fun _ _ _ _ _ _ us hl => match us, hl with | [_, _, _], _ => rfl)
  · obtain ⟨a, b, d, g, D, ns, row, c, rfl, _⟩ := h
    rfl
  · obtain ⟨a, b, d, g, D, ns, row, c, rfl, hB, ok, hs, hrow, hT, ⟨rfl, rfl⟩, _, _, _, o⟩ := h
    obtain ⟨dx, l, s', e1, hM⟩ := hB.mx
    refine ⟨_, rfl, a, C, dx, _, _, rfl, e1, T.cl, T.nL, boxF_l, l, g.n, wayI g.g, rfl, hM, by have := ok.n6; omega, ok.n0, fun H1 b s1 hb => ?_⟩
    have hb : b = hangs g.n g.g := Bool.eq_iff_iff.mpr (hb.trans (EH.hangs_is ok.n6 ok.ways).symm)
    refine .inr ⟨b, rfl, by show 1 ≤ sizeLine; decide, fun p newp => ?_⟩
    have s2 := s1.trans (same_upd (o := .lst [V.int (if b then 1 else 0)]) newp)
    refine o.give hB (LamX.ExtN.of s2) (hT.ext s2) rfl (newp_of (LamX.ExtN.of s1) newp) ?_
    unfold IntsL
    rw [upd_same, hb]
    rfl
theorem df_distribution {f : Addr} {fd : FuncData} (hm : mg "distribution" = some (.ref f)) (F : Fun K "distribution" "distribution" s_distribution f fd) (c_look_slots : Df P w K mg base (L2.CX P w) 3 "look_slots" (spLookS K CR)) (c_points : DfM P w K mg base CX0 1 C "points" (spPoints K C)) (c_told : Df P w K mg base CX0 1 "told" (spTold K)) :
    Df P w K mg base (L2.CX P w) 4 "distribution" (spOp K P0 C CR clTold) := by
  refine df_of (F.okX sc_distribution (fun vs H Q E h => ?_) (fun cdv A outer s H vs Q E hr h => ⟨_,
(pss_cons (ps_expr (pe_cX c_look_slots hr (by decide) rfl (passes_call (takes_of rfl rfl rfl rfl) fun _ _ _ _ h => h) (pa_cons (pv 1) pa_nil)))
 (pss_one (ps_ret (pe_op op_cat (pe_lst (pa_cons (pe_mm0 c_points T.cl hr (by decide) (pv 0)) pa_nil)) (pe_c0 c_told hr (by decide) rfl (pa_cons (pe_ix ix_list (pe_fld (pv 0) rfl) (pe_ix ix_list (pv 1) pe_int (fun _ _ => rfl)) (fun _ _ => rfl)) pa_nil))))))
   , ?_⟩)) hm F.kp (F.binds fun _ _ _ _ _ _ us hl => match us, hl with | [_, _, _], _ => rfl)
  · obtain ⟨a, b, d, g, D, ns, row, c, rfl, _⟩ := h
    rfl
  · obtain ⟨a, b, d, g, D, ns, row, c, rfl, hB, ok, hs, hrow, hT, ⟨k, rfl, rfl⟩, _, _, _, o⟩ := h
    refine ⟨_, rfl, b, _, rfl, hs, Nat.one_pos, fun hin => ?_, fun hn => o.raised hT ?_⟩
    · have hk := inr1.mp hin
      obtain ⟨dx, l, s', ss, e1, hS, hslot⟩ := hB.slot ok
      obtain ⟨t, m1, ht⟩ := hslot k hk
      refine ⟨_, rfl, a, dx, _, rfl, e1, boxF_no, a, g, D, rfl, hB, by show 1 ≤ sizeLine; decide, fun p newp => ?_⟩
      have s1 := same_upd (o := .lst [V.int (g.n : Int)]) newp
      have ep : upd H p (.lst [V.int (g.n : Int)]) p = some (.lst [V.int (g.n : Int)]) := upd_same
      generalize upd H p (.lst [V.int (g.n : Int)]) = H1 at s1 ep
      obtain ⟨L, A', hA, _⟩ := (ok.slot (isK_iff.mpr hk)).1
      have hlen := hA.len
      have hn6 := ok.n6
      refine ⟨_, rfl, a, C, dx, _, _, rfl, s1 _ _ e1, T.cl, T.nS, boxF_s, _, rfl, b, _, _, _, rfl, rfl, s1.seq hs, rfl, s', _, _, _, rfl, rfl, s1.seq hS, m1, t, _, rfl, same_fracs s1 ht, by omega, fun H2 z s2 newz hz => ?_⟩
      refine ⟨p, z, _, _, rfl, rfl, s2 _ _ ep, hz, ?_, fun q newq => ?_⟩
      · rw [List.length_map]
        have : ∀ l : List Frac, (l.flatMap Sr66.fr).length = 2 * l.length := by
          intro l
          induction l with
          | nil => rfl
          | cons z l ih =>
            rw [List.flatMap_cons, List.length_append, ih, List.length_cons]
            show 2 + 2 * l.length = _
            omega
        rw [this]
        exact Nat.le_of_lt (small1000 (by show 1 + _ ≤ 1000; omega))
      · have s3 := (s1.trans s2).trans (same_upd (o := .lst ([V.int (g.n : Int)] ++ ((at_ g k).flatMap Sr66.fr).map V.int)) newq)
        have er : Sr82.doing g (.told k) = (none, Sr66.tells (at_ g k)) := by
          show (none, if isK k = false then Sr82.say (-2) else Sr66.tells (at_ g k)) = _
          rw [isK_iff.mpr hk]
          rfl
        rw [er] at o
        refine o.give hB (LamX.ExtN.of s3) (hT.ext s3) rfl (newp_of (LamX.ExtN.of (s1.trans s2)) newq) ?_
        unfold IntsL
        rw [upd_same]
        show _ = some (HO.lst ((((at_ g k).length : Int) :: (at_ g k).flatMap Sr66.fr).map V.int))
        rw [hlen]
        rfl
    · show (none, if isK k = false then Sr82.say (-2) else Sr66.tells (at_ g k)) = _
      rw [if_pos (isK_no.mpr fun z => hn (inr1.mpr z))]
include G
theorem df_distance {f : Addr} {fd : FuncData} (hm : mg "distance" = some (.ref f)) (F : Fun K "distance" "distance" s_distance f fd) (R : RefD P w K mg base CR) (c_look_points : DfM P w K mg base (L2.CX P w) 3 C "look_points" (spLookP K C CR)) (c_distances : Df P w K mg base CX0 2 "distances" (spDist K)) :
    Df P w K mg base (L2.CX P w) 4 "distance" (spOp K P0 C CR clFar) := by
  refine df_of (F.okX sc_distance (fun vs H Q E h => ?_) (fun cdv A outer s H vs Q E hr h => ⟨_,
(pss_cons (ps_expr (pe_mmX c_look_points T.cl hr (by decide) (passes_call (takes_of rfl rfl rfl rfl) fun _ _ _ _ h => h) (pv 0) (pa_cons (pv 1) pa_nil)))
 (pss_cons (ps_set (i := 3) sc_distance.nd rfl (Or.inl rfl) (pe_ix ix_list (pe_ix ix_list (pe_c0 c_distances hr (by decide) rfl (pa_cons (pe_fld (pv 0) rfl) pa_nil)) (pe_ix ix_list (pv 1) pe_int (fun _ _ => rfl)) (fun _ _ => rfl)) (pe_ix ix_list (pv 1) pe_int (fun _ _ => rfl)) (fun _ _ => rfl)))
 (pss_cons (ps_if (pt_cmpR op_ge (pv 3) (pe_gk rfl G.FAR_graphs_) (nomark _)) (pss_one (ps_raise rfl (takes_of rfl rfl rfl rfl) (pmk_ref R hr (by decide) rfl (pa_cons (pe_un un_neg pe_int) pa_nil)))) pss_nil)
 (pss_one (ps_ret (pe_lst (pa_cons (pv 3) pa_nil)))))))
   , ?_⟩)) hm F.kp (F.binds fun _ _ _ _ _ _ us hl => match us, hl with | [_, _, _], _ => rfl)
  · obtain ⟨a, b, d, g, D, ns, row, c, rfl, _⟩ := h
    rfl
  · obtain ⟨a, b, d, g, D, ns, row, c, rfl, hB, ok, hs, hrow, hT, ⟨i, j, rfl, rfl⟩, _, _, _, o⟩ := h
    obtain ⟨dx, l, s', e1, hM⟩ := hB.mx
    refine ⟨_, rfl, a, dx, _, rfl, e1, boxF_no, _, rfl, a, b, g, D, _, rfl, hB, hs, by show 0 < 2; decide, fun hin => ?_, fun hn => o.raised hT ?_⟩
    · obtain ⟨hi, hj⟩ := inr2.mp hin
      obtain ⟨i, rfl⟩ : ∃ n : Nat, i = n := ⟨i.toNat, by omega⟩
      obtain ⟨j, rfl⟩ : ∃ n : Nat, j = n := ⟨j.toNat, by omega⟩
      have hi' : i < g.n := by omega
      have hj' : j < g.n := by omega
      refine ⟨_, rfl, a, C, dx, _, _, rfl, e1, T.cl, T.nL, boxF_l, l, g.n, wayI g.g, rfl, hM, by have := ok.n6; omega, fun H1 q rs s1 newq newr hq => ?_⟩
      obtain ⟨rs', m1, mgq⟩ := (hq.mx (K := K)).all
      obtain ⟨r, m2, m3⟩ := mgq i hi'
      have m4 := row_at (g := dstP (wayI g.g) g.n g.n i) hj'
      have er : Sr82.doing g (.far (i : Int) (j : Int)) = (none, match Sr82.far g.n g.g i j with | none => Sr82.say (-33) | some x => Sr82.say (x : Nat)) := by
        show (none, if isP g (i : Int) = false ∨ isP g (j : Int) = false then Sr82.say (-2) else match Sr82.far g.n g.g ((i : Int)).toNat ((j : Int)).toNat with | none => Sr82.say (-33) | some x => Sr82.say (x : Nat)) = _
        rw [isP_iff.mpr hi, isP_iff.mpr hj, if_neg (by simp), Int.toNat_natCast, Int.toNat_natCast]
      rw [er] at o
      refine ⟨_, rfl, b, _, _, _, rfl, rfl, s1.seq hs, rfl, q, _, _, _, rfl, rfl, m1, m2, _, rfl, b, _, _, _, rfl, rfl, s1.seq hs, rfl, r, _, _, _, rfl, rfl, m3, m4, ?_⟩
      refine ⟨_, rfl, _, _, rfl, rfl, _, rfl, ?_⟩
      cases hf : Sr82.far g.n g.g i j with
      | none =>
        have h1 := EH.far_none ok.n6 ok.ways hi' hj' hf
        rw [hf] at o
        refine ite2 (fun c1 => ?_) (fun c1 => absurd (decide_eq_true h1) c1)
        exact ⟨_, rfl, raised R.t (o.raisedN (LamX.ExtN.of s1) (hT.ext s1) rfl)⟩
      | some x =>
        obtain ⟨_, h1, h2⟩ := EH.far_some ok.n6 ok.ways hi' hf
        rw [hf] at o
        refine ite2 (fun c1 => ?_) (fun c1 => ?_)
        · have c1 : (1000 : Int) ≤ dstP (wayI g.g) g.n g.n i j := of_decide_eq_true c1
          omega
        · refine ⟨_, rfl, by show 1 ≤ sizeLine; decide, fun p newp => ?_⟩
          have s2 := s1.trans (same_upd (o := .lst [V.int (dstP (wayI g.g) g.n g.n i j)]) newp)
          refine o.give hB (LamX.ExtN.of s2) (hT.ext s2) rfl (newp_of (LamX.ExtN.of s1) newp) ?_
          unfold IntsL
          rw [upd_same, h1]
          rfl
    · show (none, if isP g i = false ∨ isP g j = false then Sr82.say (-2) else _) = _
      rw [if_pos]
      rcases Classical.em (0 ≤ i ∧ i < (g.n : Int)) with z | z
      · exact Or.inr (isP_no.mpr fun y => hn (inr2.mpr ⟨z, y⟩))
      · exact Or.inl (isP_no.mpr z)
theorem df_set_edge {f : Addr} {fd : FuncData} (hm : mg "set_edge" = some (.ref f)) (F : Fun K "set_edge" "set_edge" s_set_edge f fd) (R : RefD P w K mg base CR) (c_look_points : DfM P w K mg base (L2.CX P w) 3 C "look_points" (spLookP K C CR)) (c_set_length : DfM P w K mg base CX0 1 C "set_length" (spSetLen K C)) (c_are_between : Df P w K mg base CX0 1 "are_between" (spBetween K)) :
    Df P w K mg base (L2.CX P w) 4 "set_edge" (spOp K P0 C CR clWay) := by
  refine df_of (F.okX sc_set_edge (fun vs H Q E h => ?_) (fun cdv A outer s H vs Q E hr h => ⟨_,
(pss_cons (ps_asg (pv 1) (pg_unl rfl (pgs_cons (pg_name (i := 3) sc_set_edge.nd rfl (Or.inl rfl)) (pgs_cons (pg_name (i := 4) sc_set_edge.nd rfl (Or.inl rfl)) (pgs_cons (pg_name (i := 5) sc_set_edge.nd rfl (Or.inl rfl)) pgs_nil)))))
 (pss_cons (ps_expr (pe_mmX c_look_points T.cl hr (by decide) (passes_call (takes_of rfl rfl rfl rfl) fun _ _ _ _ h => h) (pv 0) (pa_cons (pe_lst (pa_cons (pv 3) (pa_cons (pv 4) pa_nil))) pa_nil)))
 (pss_cons (ps_if (PW.pt (pw_or (pt_cmpR op_eq (pv 3) (pv 4) (nomark _)) (pw_or1 (pt_not (pt_val (pe_c0 c_are_between hr (by decide) rfl (pa_cons (pe_lst (pa_cons (pv 5) pa_nil)) (pa_cons pe_int (pa_cons (pe_gk rfl G.MOST_LENGTH_) pa_nil))))))))) (pss_one (ps_raise rfl (takes_of rfl rfl rfl rfl) (pmk_ref R hr (by decide) rfl (pa_cons (pe_un un_neg pe_int) pa_nil)))) pss_nil)
 (pss_one (ps_ret (pe_lst (pa_cons (pe_mm c_set_length T.cl hr (by decide) (pv 0) (pa_cons (pv 3) (pa_cons (pv 4) (pa_cons (pv 5) pa_nil)))) pa_nil)))))))
   , ?_⟩)) hm F.kp (F.binds fun _ _ _ _ _ _ us hl => match us, hl with | [_, _, _], _ => rfl)
  · obtain ⟨a, b, d, g, D, ns, row, c, rfl, _⟩ := h
    rfl
  · obtain ⟨a, b, d, g, D, ns, row, c, rfl, hB, ok, hs, hrow, hT, ⟨i, j, x, rfl, rfl⟩, _, _, _, o⟩ := h
    obtain ⟨dx, l, s', e1, hM⟩ := hB.mx
    refine ⟨_, rfl, b, _, rfl, hs, rfl, _, _, rfl, _, _, rfl, _, _, rfl, rfl, ?_⟩
    refine ⟨_, rfl, a, dx, _, rfl, e1, boxF_no, _, rfl, _, rfl, by show 2 ≤ sizeLine; decide, fun p newp => ?_⟩
    have s1 := same_upd (o := .lst [V.int i, V.int j]) newp
    have ep : upd H p (.lst [V.int i, V.int j]) p = some (.lst ([i, j].map V.int)) := upd_same
    generalize upd H p (.lst [V.int i, V.int j]) = H1 at s1 ep
    have T1 := hT.ext s1
    refine ⟨a, p, g, D, [i, j], rfl, hB.same s1, SqL.of ep, by show 0 < 2; decide, fun hin => ?_, fun hn => o.raisedN (LamX.ExtN.of s1) T1 ?_⟩
    · obtain ⟨hi, hj⟩ := inr2.mp hin
      have er : Sr82.doing g (.way i j x) = if i = j ∨ x < 0 ∨ (Sr82.LONG : Int) < x then (none, Sr82.say (-22)) else (some { g with g := Sr82.setWay g.g i.toNat j.toNat x.toNat }, Sr82.say (Sr82.way g.g i.toNat j.toNat : Nat)) := by
        show (if isP g i = false ∨ isP g j = false then (none, Sr82.say (-2)) else if i = j ∨ x < 0 ∨ (Sr82.LONG : Int) < x then (none, Sr82.say (-22)) else _) = _
        rw [isP_iff.mpr hi, isP_iff.mpr hj, if_neg (by simp)]
      rw [er] at o
      have h9 : (Sr82.LONG : Int) = 9 := rfl
      refine ⟨_, rfl, _, rfl, rfl, _, rfl, ?_⟩
      have bad : (i = j ∨ x < 0 ∨ (Sr82.LONG : Int) < x) → ∀ {H2 : Hp}, Same H1 H2 → Raised CR H2 E (-22) := fun z H2 s2 => by
        rw [if_pos z] at o
        exact o.raisedN (LamX.ExtN.of (s1.trans s2)) (hT.ext (s1.trans s2)) rfl
      refine ite2 (fun c1 => ?_) (fun c1 => ?_)
      · refine ite2 (fun _ => ?_) (fun z => absurd rfl z)
        refine ⟨_, rfl, raised R.t (bad (Or.inl ?_) (Same.refl _))⟩
        have c1 := of_decide_eq_true c1
        injection c1
      · have hij : i ≠ j := fun z => c1 (decide_eq_true (by rw [z]))
        refine ⟨_, rfl, by show 1 ≤ sizeLine; decide, fun q newq => ?_⟩
        have s2 := same_upd (o := .lst [V.int x]) newq
        have eq : upd H1 q (.lst [V.int x]) q = some (.lst ([x].map V.int)) := upd_same
        generalize upd H1 q (.lst [V.int x]) = H2 at s2 eq
        refine ⟨q, 0, 9, [x], rfl, SqL.of eq, by show 0 < 1; decide, fun r hr' => ⟨r, rfl, ?_⟩⟩
        have hr2 : r = true ↔ 0 ≤ x ∧ x ≤ 9 := by
          rw [hr']
          simp
        refine ite2 (fun c2 => ?_) (fun c2 => ?_)
        · refine ⟨_, rfl, raised R.t (bad (Or.inr ?_) s2)⟩
          rcases Classical.em (0 ≤ x ∧ x ≤ 9) with z | z
          · rw [hr2.mpr z] at c2
            exact absurd c2 (by decide)
          · omega
        · have hx : 0 ≤ x ∧ x ≤ 9 := hr2.mp (by
            cases r with
            | true => rfl
            | false => exact absurd rfl c2)
          rw [if_neg (by omega)] at o
          have s12 := s1.trans s2
          refine ⟨_, rfl, a, dx, _, rfl, s12 _ _ e1, boxF_no, _, rfl, _, rfl, _, rfl, a, g, D, i.toNat, j.toNat, x.toNat, ?_, hB.same s12, ok.ways, by omega, by omega, by omega, fun H3 off hB3 => ?_⟩
          · rw [nat_of hi.1, nat_of hj.1, nat_of hx.1]
            rfl
          · refine ⟨by show 1 ≤ sizeLine; decide, fun z newz => ?_⟩
            have s4 := same_upd (o := .lst [V.int (Sr82.way g.g i.toNat j.toNat : Nat)]) newz
            have T2 := T1.ext s2
            have T3 : LamX.Tabs (TN P0) H3 := by
              obtain ⟨_, l', sx, rs, ss, g1, g2, g3, _, g5, _⟩ := (hB.same s12).ex
              refine tabs_off T2 off fun r hr => ?_
              rw [g5] at hr
              rcases List.mem_cons.mp hr with y | y
              · exact ⟨_, by rw [y]; exact g3⟩
              · obtain ⟨k, ek⟩ := List.getElem?_of_mem y
                exact ⟨_, g2.row k r ek⟩
            refine o.ret _ z ⟨fun b' u e nD hu => s4 _ _ (off _ _ (s12 _ _ e) nD), T3.ext s4⟩ (hB3.same s4) (fun b' u e nD _ z' => by have := off _ _ (s12 _ _ e) nD; rw [z', newz] at this; cases this) ?_
            unfold IntsL
            rw [upd_same]
            rfl
    · show (if isP g i = false ∨ isP g j = false then (none, Sr82.say (-2)) else _) = _
      rw [if_pos]
      rcases Classical.em (0 ≤ i ∧ i < (g.n : Int)) with z | z
      · exact Or.inr (isP_no.mpr fun y => hn (inr2.mpr ⟨z, y⟩))
      · exact Or.inl (isP_no.mpr z)
end
end EW
end

/-! ## EwDo2 -/
section
set_option Elab.async false
set_option linter.all false
set_option maxRecDepth 100000
set_option maxHeartbeats 2000000
set_option autoImplicit false
set_option exponentiation.threshold 10000
/-! The operations: transports. -/
namespace EW
open PySem PySem.Spec PyProof.Rows L2
open Sr58 (Frac)
open Sr82 (Ground hangs at_ isP)
open Sr80 (isK)
open EH (GOk wayI cD)
local macro_rules | `(tactic| walk_at "rd") => `(tactic| repeat (first | refine ⟨rfl, ?_⟩ | apply Exists.intro | refine ⟨by assumption, ?_⟩))
abbrev s_min_cost : Stmt := top 80
theorem sc_min_cost : FnScope ["box", "numbers", "row", "k", "l"] ["box", "numbers", "row"] (defScope s_min_cost) := ⟨rfl, rfl, rfl, by decide +kernel, rfl, by decide +kernel, by decide +kernel⟩
abbrev s_tell_optimal_plan : Stmt := top 81
theorem sc_tell_optimal_plan : FnScope ["box", "numbers", "row", "k", "l", "costs"] ["box", "numbers", "row"] (defScope s_tell_optimal_plan) := ⟨rfl, rfl, rfl, by decide +kernel, rfl, by decide +kernel, by decide +kernel⟩
abbrev s_tell_optimal_potentials : Stmt := top 82
theorem sc_tell_optimal_potentials : FnScope ["box", "numbers", "row", "before", "after", "found"] ["box", "numbers", "row"] (defScope s_tell_optimal_potentials) := ⟨rfl, rfl, rfl, by decide +kernel, rfl, by decide +kernel, by decide +kernel⟩
theorem dist_mx {K : PySem.W.Frag} {H : Hp} {q : Addr} {rs : List Addr} {g : Ground} (ok : GOk g) (hh : hangs g.n g.g = true) (h : MxR H q rs g.n (dstP (wayI g.g) g.n g.n)) : Mx K H q g.n (cD g) :=
  (h.congr fun i j hi hj => ((EH.dists_of ok.n6 ok.ways hh).eq i j hi hj).symm).mx
theorem list_range {n : Nat} {f : List Int} (h : f.length = n) : f = (List.range n).map fun i => f.getD i 0 := by
  apply List.ext_getElem?
  intro i
  rw [List.getElem?_map]
  by_cases q : i < n
  · rw [List.getElem?_range q, List.getElem?_eq_getElem (by omega)]
    show _ = some (f.getD i 0)
    rw [List.getD_eq_getElem?_getD, List.getElem?_eq_getElem (by omega)]
    rfl
  · rw [List.getElem?_eq_none (by omega), List.getElem?_eq_none (by simpa using q)]
    rfl
/-- the refusals of a transport -/
theorem trans_no {g : Ground} {k l : Int} {A : Sr66.Ans} (h : ¬ Inr 4 [k, l]) : ((none, if isK k = false ∨ isK l = false then Sr82.say (-2) else A) : Option Ground × Sr66.Ans) = (none, Sr82.say (-2)) := by
  rw [if_pos]
  rcases Classical.em (0 ≤ k ∧ k < 4) with z | z
  · exact Or.inr (isK_no.mpr fun y => h (inr2.mpr ⟨z, y⟩))
  · exact Or.inl (isK_no.mpr z)
theorem trans_yes {g : Ground} {k l : Int} {A : Sr66.Ans} (h : Inr 4 [k, l]) : ((none, if isK k = false ∨ isK l = false then Sr82.say (-2) else A) : Option Ground × Sr66.Ans) = (none, A) := by
  obtain ⟨h1, h2⟩ := inr2.mp h
  rw [isK_iff.mpr h1, isK_iff.mpr h2, if_neg (by simp)]
section
variable {P : Program} {w : World} {K : PySem.W.Frag} {mg : Str → Option Value} {base : Heap} (B : Nb mg) {A0 : Ad} (G : Gs K mg A0) {P0 C CR : Addr} (T : BoxT K C)
include B T
theorem df_min_cost {f : Addr} {fd : FuncData} (hm : mg "min_cost" = some (.ref f)) (F : Fun K "min_cost" "min_cost" s_min_cost f fd) (c_look_transport : Df P w K mg base (L2.CX P w) 5 "look_transport" (spLookT K C CR)) (c_distances : Df P w K mg base CX0 2 "distances" (spDist K))
    (c_lowest_cost : Df P w K mg base CX0 7 "lowest_cost" (spLowest K P0)) (c_told : Df P w K mg base CX0 1 "told" (spTold K)) : Df P w K mg base (L2.CX P w) 8 "min_cost" (spOp K P0 C CR clLeast) := by
  refine df_of (F.okX sc_min_cost (fun vs H Q E h => ?_) (fun cdv A outer s H vs Q E hr h => ⟨_,
(pss_cons (ps_expr (pe_cX c_look_transport hr (by decide) rfl (passes_call (takes_of rfl rfl rfl rfl) fun _ _ _ _ h => h) (pa_cons (pv 0) (pa_cons (pv 1) pa_nil))))
 (pss_cons (ps_asg (pv 1) (pg_unl rfl (pgs_cons (pg_name (i := 3) sc_min_cost.nd rfl (Or.inl rfl)) (pgs_cons (pg_name (i := 4) sc_min_cost.nd rfl (Or.inl rfl)) pgs_nil))))
 (pss_one (ps_ret (pe_op op_cat (pe_lst (pa_cons pe_int pa_nil)) (pe_c0 c_told hr (by decide) rfl (pa_cons (pe_lst (pa_cons (pe_c0 c_lowest_cost hr (by decide) rfl (pa_cons (pe_c0 c_distances hr (by decide) rfl (pa_cons (pe_fld (pv 0) rfl) pa_nil)) (pa_cons (pe_ix ix_list (pe_fld (pv 0) rfl) (pv 3) (fun _ _ => rfl)) (pa_cons (pe_ix ix_list (pe_fld (pv 0) rfl) (pv 4) (fun _ _ => rfl)) pa_nil)))) pa_nil)) pa_nil)))))))
   , ?_⟩)) hm F.kp (F.binds fun _ _ _ _ _ _ us hl => match us, hl with | [_, _, _], _ => rfl)
  · obtain ⟨a, b, d, g, D, ns, row, c, rfl, _⟩ := h
    rfl
  · obtain ⟨a, b, d, g, D, ns, row, c, rfl, hB, ok, hs, hrow, hT, ⟨k, l, rfl, rfl⟩, _, _, _, o⟩ := h
    have o : OpOut K P0 C CR a g D H Q E (none, if isK k = false ∨ isK l = false then Sr82.say (-2) else if hangs g.n g.g = false then Sr82.say (-33) else Sr66.tell (Sr82.least g.n (Sr82.dist g.n g.g) (at_ g k) (at_ g l))) := o
    refine ⟨_, rfl, _, rfl, a, b, g, D, _, rfl, hB, ok, hs, by show 0 < 2; decide, fun hin hh H1 s1 => ?_, fun hn => o.raised hT (trans_no (g := g) hn), fun hin hh => ?_⟩
    · rw [trans_yes (g := g) hin, hh, if_neg (by decide)] at o
      obtain ⟨hk, hl⟩ := inr2.mp hin
      have T1 := hT.ext s1
      obtain ⟨dx, l', s', ss, e1, hS, hslot⟩ := (hB.same s1).slot ok
      obtain ⟨dx2, l2, s2', e12, hM⟩ := (hB.same s1).mx
      rw [e1] at e12
      cases e12
      obtain ⟨tk, mk, htk⟩ := hslot k hk
      obtain ⟨tl, ml, htl⟩ := hslot l hl
      obtain ⟨Dn, L, W, hA, hL, hW, hDn, hRun, hPart⟩ := EH.trans_in ok hh (ok.slot (isK_iff.mpr hk)).1 (ok.slot (isK_iff.mpr hl)).1
      refine ⟨_, rfl, b, _, rfl, s1.seq hs, rfl, _, _, rfl, _, _, rfl, rfl, ?_⟩
      refine ⟨by show 1 ≤ sizeLine; decide, fun p newp => ?_⟩
      have s2 := same_upd (o := .lst [V.int 0]) newp
      have ep : upd H1 p (.lst [V.int 0]) p = some (.lst [V.int 0]) := upd_same
      generalize upd H1 p (.lst [V.int 0]) = H2 at s2 ep
      refine ⟨_, rfl, a, C, dx, _, _, rfl, s2 _ _ e1, T.cl, T.nL, boxF_l, l', g.n, wayI g.g, rfl, hM.same s2, by have := ok.n6; omega, fun H3 q rs s3 newq newr hq => ?_⟩
      have s13 := s2.trans s3
      refine ⟨_, rfl, a, C, dx, _, _, rfl, s13 _ _ e1, T.cl, T.nS, boxF_s, _, rfl, s', _, _, _, rfl, rfl, s13.seq hS, mk, _, rfl, a, C, dx, _, _, rfl, s13 _ _ e1, T.cl, T.nS, boxF_s, _, rfl, s', _, _, _, rfl, rfl, s13.seq hS, ml, ?_⟩
      refine ⟨q, tk, tl, g.n, cD g, at_ g k, at_ g l, Dn, L, W, _, rfl, ⟨dist_mx ok hh hq, same_fracs s13 htk, same_fracs s13 htl, by have := ok.n6; omega, hA, T1.ext s13, hRun, hPart⟩, fun p' hp' => (EH.low_is ok hh hL hW hDn hp').1, fun H4 t p' eN T4 hp' ht => ?_⟩
      rw [(EH.low_is ok hh hL hW hDn hp').2] at ht
      refine ⟨by show 1 ≤ sizeLine; decide, fun z newz => ?_⟩
      have s5 := same_upd (o := .lst [V.ref t]) newz
      have ez : upd H4 z (.lst [V.ref t]) z = some (.lst [V.ref t]) := upd_same
      generalize upd H4 z (.lst [V.ref t]) = H5 at s5 ez
      refine ⟨z, [_], rfl, ⟨[t], ez, .cons (same_fr s5 ht) .nil⟩, by show 1 ≤ 100; decide, fun H6 y s6 newy hy => ?_⟩
      have s56 := s5.trans s6
      refine ⟨p, y, _, _, rfl, rfl, s56 _ _ (lst_extN eN (s3 _ _ ep)), hy, by show 1 + 2 ≤ sizeLine; decide, fun r newr => ?_⟩
      have s7 := same_upd (o := .lst ([V.int 0] ++ ([Sr82.least g.n (Sr82.dist g.n g.g) (at_ g k) (at_ g l)].flatMap Sr66.fr).map V.int)) newr
      have T6 := T4.ext s56
      refine o.give hB ((((LamX.ExtN.of (s1.trans s13)).trans eN).trans (LamX.ExtN.of s56)).trans (LamX.ExtN.of s7)) (T6.ext s7) rfl (newp_of (((LamX.ExtN.of (s1.trans s13)).trans eN).trans (LamX.ExtN.of s56)) newr) ?_
      unfold IntsL
      rw [upd_same]
      rfl
    · rw [trans_yes (g := g) hin, hh, if_pos rfl] at o
      exact o.raised hT rfl
omit B in
theorem df_tell_optimal_plan {f : Addr} {fd : FuncData} (hm : mg "tell_optimal_plan" = some (.ref f)) (F : Fun K "tell_optimal_plan" "tell_optimal_plan" s_tell_optimal_plan f fd) (c_look_transport : Df P w K mg base (L2.CX P w) 5 "look_transport" (spLookT K C CR)) (c_distances : Df P w K mg base CX0 2 "distances" (spDist K))
    (c_optimal_plan : Df P w K mg base CX0 7 "optimal_plan" (spOptPlan K P0)) (c_told_plan : Df P w K mg base CX0 6 "told_plan" (spToldP K)) : Df P w K mg base (L2.CX P w) 8 "tell_optimal_plan" (spOp K P0 C CR clPlan) := by
  refine df_of (F.okX sc_tell_optimal_plan (fun vs H Q E h => ?_) (fun cdv A outer s H vs Q E hr h => ⟨_,
(pss_cons (ps_expr (pe_cX c_look_transport hr (by decide) rfl (passes_call (takes_of rfl rfl rfl rfl) fun _ _ _ _ h => h) (pa_cons (pv 0) (pa_cons (pv 1) pa_nil))))
 (pss_cons (ps_asg (pv 1) (pg_unl rfl (pgs_cons (pg_name (i := 3) sc_tell_optimal_plan.nd rfl (Or.inl rfl)) (pgs_cons (pg_name (i := 4) sc_tell_optimal_plan.nd rfl (Or.inl rfl)) pgs_nil))))
 (pss_cons (ps_set (i := 5) sc_tell_optimal_plan.nd rfl (Or.inl rfl) (pe_c0 c_distances hr (by decide) rfl (pa_cons (pe_fld (pv 0) rfl) pa_nil)))
 (pss_one (ps_ret (pe_c0 c_told_plan hr (by decide) rfl (pa_cons (pv 5) (pa_cons (pe_c0 c_optimal_plan hr (by decide) rfl (pa_cons (pv 5) (pa_cons (pe_ix ix_list (pe_fld (pv 0) rfl) (pv 3) (fun _ _ => rfl)) (pa_cons (pe_ix ix_list (pe_fld (pv 0) rfl) (pv 4) (fun _ _ => rfl)) pa_nil)))) pa_nil))))))))
   , ?_⟩)) hm F.kp (F.binds fun _ _ _ _ _ _ us hl => match us, hl with | [_, _, _], _ => rfl)
  · obtain ⟨a, b, d, g, D, ns, row, c, rfl, _⟩ := h
    rfl
  · obtain ⟨a, b, d, g, D, ns, row, c, rfl, hB, ok, hs, hrow, hT, ⟨k, l, rfl, rfl⟩, _, _, _, o⟩ := h
    have o : OpOut K P0 C CR a g D H Q E (none, if isK k = false ∨ isK l = false then Sr82.say (-2) else if hangs g.n g.g = false then Sr82.say (-33) else Sr82.tellPlan g.n (Sr82.dist g.n g.g) (Sr82.best g.n (Sr82.dist g.n g.g) (at_ g k) (at_ g l))) := o
    refine ⟨_, rfl, _, rfl, a, b, g, D, _, rfl, hB, ok, hs, by show 0 < 2; decide, fun hin hh H1 s1 => ?_, fun hn => o.raised hT (trans_no (g := g) hn), fun hin hh => ?_⟩
    · rw [trans_yes (g := g) hin, hh, if_neg (by decide)] at o
      obtain ⟨hk, hl⟩ := inr2.mp hin
      have T1 := hT.ext s1
      obtain ⟨dx, l', s', ss, e1, hS, hslot⟩ := (hB.same s1).slot ok
      obtain ⟨dx2, l2, s2', e12, hM⟩ := (hB.same s1).mx
      rw [e1] at e12
      cases e12
      obtain ⟨tk, mk, htk⟩ := hslot k hk
      obtain ⟨tl, ml, htl⟩ := hslot l hl
      obtain ⟨Dn, L, W, hA, hL, hW, hDn, hRun, hPart⟩ := EH.trans_in ok hh (ok.slot (isK_iff.mpr hk)).1 (ok.slot (isK_iff.mpr hl)).1
      refine ⟨_, rfl, b, _, rfl, s1.seq hs, rfl, _, _, rfl, _, _, rfl, rfl, ?_⟩
      refine ⟨_, rfl, a, C, dx, _, _, rfl, e1, T.cl, T.nL, boxF_l, l', g.n, wayI g.g, rfl, hM, by have := ok.n6; omega, fun H3 q rs s3 newq newr hq => ?_⟩
      have hMd := dist_mx (K := K) ok hh hq
      refine ⟨_, rfl, _, rfl, _, rfl, a, C, dx, _, _, rfl, s3 _ _ e1, T.cl, T.nS, boxF_s, _, rfl, s', _, _, _, rfl, rfl, s3.seq hS, mk, _, rfl, a, C, dx, _, _, rfl, s3 _ _ e1, T.cl, T.nS, boxF_s, _, rfl, s', _, _, _, rfl, rfl, s3.seq hS, ml, ?_⟩
      refine ⟨q, tk, tl, g.n, cD g, at_ g k, at_ g l, Dn, L, W, _, EH.PlanIs g (at_ g k) (at_ g l) Dn, rfl, ⟨hMd, same_fracs s3 htk, same_fracs s3 htl, by have := ok.n6; omega, hA, T1.ext s3, hRun, hPart⟩, ok.n0, fun p' hp' => EH.plan_is ok hh hL hW hp', fun H4 t p' eN T4 hp' ht => ?_⟩
      obtain ⟨h1, h2⟩ := EH.dcost hDn hp'.2
      obtain ⟨h3, h4⟩ := EH.told_cost ok hh hA.pos h2 (M := 2 ^ 200) (by decide) h1
      refine ⟨q, t, g.n, cD g, fun i j => Sr58.frac (p' i j) Dn, rfl, hMd.extN eN, ht, ok.n6, h3, fun H5 z s5 newz hz => ?_⟩
      refine o.give hB (((LamX.ExtN.of (s1.trans s3)).trans eN).trans (LamX.ExtN.of s5)) (T4.ext s5) rfl (newp_of ((LamX.ExtN.of (s1.trans s3)).trans eN) newz) ?_
      have e : toldP g.n (cD g) (fun i j => Sr58.frac (p' i j) Dn) = (Sr82.tellPlan g.n (Sr82.dist g.n g.g) (Sr82.best g.n (Sr82.dist g.n g.g) (at_ g k) (at_ g l))).num :: (Sr82.tellPlan g.n (Sr82.dist g.n g.g) (Sr82.best g.n (Sr82.dist g.n g.g) (at_ g k) (at_ g l))).nums := by
        unfold toldP
        rw [h4, ← hp'.1]
        rfl
      rw [← e]
      exact hz
    · rw [trans_yes (g := g) hin, hh, if_pos rfl] at o
      exact o.raised hT rfl
theorem df_tell_optimal_potentials {f : Addr} {fd : FuncData} (hm : mg "tell_optimal_potentials" = some (.ref f)) (F : Fun K "tell_optimal_potentials" "tell_optimal_potentials" s_tell_optimal_potentials f fd) (c_look_transport : Df P w K mg base (L2.CX P w) 5 "look_transport" (spLookT K C CR)) (c_distances : Df P w K mg base CX0 2 "distances" (spDist K))
    (c_optimal_potentials : Df P w K mg base CX0 7 "optimal_potentials" (spOptPot K P0)) (c_value_of : Df P w K mg base CX0 4 "value_of" (spValue K)) (c_told : Df P w K mg base CX0 1 "told" (spTold K)) : Df P w K mg base (L2.CX P w) 8 "tell_optimal_potentials" (spOp K P0 C CR clPrices) := by
  refine df_of (F.okX sc_tell_optimal_potentials (fun vs H Q E h => ?_) (fun cdv A outer s H vs Q E hr h => ⟨_,
(pss_cons (ps_expr (pe_cX c_look_transport hr (by decide) rfl (passes_call (takes_of rfl rfl rfl rfl) fun _ _ _ _ h => h) (pa_cons (pv 0) (pa_cons (pv 1) pa_nil))))
 (pss_cons (ps_par (i := 3) (j := 4) rfl sc_tell_optimal_potentials.nd rfl rfl (by decide) rfl rfl (pa_cons (pe_ix ix_list (pe_fld (pv 0) rfl) (pe_ix ix_list (pv 1) pe_int (fun _ _ => rfl)) (fun _ _ => rfl)) (pa_cons (pe_ix ix_list (pe_fld (pv 0) rfl) (pe_ix ix_list (pv 1) pe_int (fun _ _ => rfl)) (fun _ _ => rfl)) pa_nil)) (by rfl))
 (pss_cons (ps_set (i := 5) sc_tell_optimal_potentials.nd rfl (Or.inl rfl) (pe_c0 c_optimal_potentials hr (by decide) rfl (pa_cons (pe_c0 c_distances hr (by decide) rfl (pa_cons (pe_fld (pv 0) rfl) pa_nil)) (pa_cons (pv 3) (pa_cons (pv 4) pa_nil)))))
 (pss_one (ps_ret (pe_op op_cat (pe_op op_cat (pe_lst (pa_cons (pe_callB call_len_seq (by rfl) B.len_ (by decide +kernel) (pa_cons (pv 5) pa_nil)) pa_nil)) (pv 5)) (pe_c0 c_told hr (by decide) rfl (pa_cons (pe_lst (pa_cons (pe_c0 c_value_of hr (by decide) rfl (pa_cons (pv 5) (pa_cons (pv 3) (pa_cons (pv 4) pa_nil)))) pa_nil)) pa_nil))))))))
   , ?_⟩)) hm F.kp (F.binds fun _ _ _ _ _ _ us hl => match us, hl with | [_, _, _], _ => rfl)
  · obtain ⟨a, b, d, g, D, ns, row, c, rfl, _⟩ := h
    rfl
  · obtain ⟨a, b, d, g, D, ns, row, c, rfl, hB, ok, hs, hrow, hT, ⟨k, l, rfl, rfl⟩, _, _, _, o⟩ := h
    have o : OpOut K P0 C CR a g D H Q E (none, if isK k = false ∨ isK l = false then Sr82.say (-2) else if hangs g.n g.g = false then Sr82.say (-33) else ⟨(g.n : Int), Sr82.prices g.n (Sr82.dist g.n g.g) (at_ g k) (at_ g l) ++ Sr66.fr (Sr82.gain g.n (Sr82.prices g.n (Sr82.dist g.n g.g) (at_ g k) (at_ g l)) (at_ g k) (at_ g l))⟩) := o
    refine ⟨_, rfl, _, rfl, a, b, g, D, _, rfl, hB, ok, hs, by show 0 < 2; decide, fun hin hh H1 s1 => ?_, fun hn => o.raised hT (trans_no (g := g) hn), fun hin hh => ?_⟩
    · rw [trans_yes (g := g) hin, hh, if_neg (by decide)] at o
      obtain ⟨hk, hl⟩ := inr2.mp hin
      have T1 := hT.ext s1
      obtain ⟨dx, l', s', ss, e1, hS, hslot⟩ := (hB.same s1).slot ok
      obtain ⟨dx2, l2, s2', e12, hM⟩ := (hB.same s1).mx
      rw [e1] at e12
      cases e12
      obtain ⟨tk, mk, htk⟩ := hslot k hk
      obtain ⟨tl, ml, htl⟩ := hslot l hl
      obtain ⟨Dn, L, W, hA, hL, hW, hDn, hRun, hPart⟩ := EH.trans_in ok hh (ok.slot (isK_iff.mpr hk)).1 (ok.slot (isK_iff.mpr hl)).1
      refine ⟨_, rfl, a, C, dx, _, _, rfl, e1, T.cl, T.nS, boxF_s, _, rfl, b, _, _, _, rfl, rfl, s1.seq hs, rfl, s', _, _, _, rfl, rfl, hS, mk, _, rfl, a, C, dx, _, _, rfl, e1, T.cl, T.nS, boxF_s, _, rfl, b, _, _, _, rfl, rfl, s1.seq hs, rfl, s', _, _, _, rfl, rfl, hS, ml, _, _, rfl, ?_⟩
      refine ⟨_, rfl, a, C, dx, _, _, rfl, e1, T.cl, T.nL, boxF_l, l', g.n, wayI g.g, rfl, hM, by have := ok.n6; omega, fun H3 q rs s3 newq newr hq => ?_⟩
      refine ⟨_, rfl, _, rfl, q, tk, tl, g.n, cD g, at_ g k, at_ g l, Dn, L, W, _, rfl, ⟨dist_mx ok hh hq, same_fracs s3 htk, same_fracs s3 htl, by have := ok.n6; omega, hA, T1.ext s3, hRun, hPart⟩, ok.n0, fun H4 t p' eN T4 hp' ht => ?_⟩
      obtain ⟨h1, h2, _⟩ := EH.pot_is ok hh hL hW hp'
      have hlen : (Sr82.prices g.n (Sr82.dist g.n g.g) (at_ g k) (at_ g l)).length = g.n := by rw [← h1]; simp
      rw [h1] at ht
      have hb : ∀ i, i < g.n → ((Sr82.prices g.n (Sr82.dist g.n g.g) (at_ g k) (at_ g l)).getD i 0).natAbs < 1000000 := fun i hi => by
        rw [← h1, EH.getD_map_range hi]
        exact h2 i hi
      generalize Sr82.prices g.n (Sr82.dist g.n g.g) (at_ g k) (at_ g l) = pr at *
      obtain ⟨D2, A2, B2, hA2, hB2, vok, hv⟩ := EH.value_is ok.n6 (ok.slot (isK_iff.mpr hk)).1 (ok.slot (isK_iff.mpr hl)).1 pr hb
      have hn6 := ok.n6
      have st : SqL K H4 t (pr.map V.int) := SqL.of ht
      refine ⟨_, rfl, t, _, rfl, .inl st, ?_⟩
      rw [List.length_map, hlen]
      refine ⟨by show 1 ≤ sizeLine; decide, fun p newp => ?_⟩
      have s5 := same_upd (o := .lst [V.int (g.n : Int)]) newp
      have ep : upd H4 p (.lst [V.int (g.n : Int)]) p = some (.lst [V.int (g.n : Int)]) := upd_same
      generalize upd H4 p (.lst [V.int (g.n : Int)]) = H5 at s5 ep
      refine ⟨_, rfl, p, t, _, _, rfl, rfl, ep, s5 _ _ ht, by rw [List.length_map, hlen]; exact Nat.le_of_lt (small1000 (by show 1 + _ ≤ 1000; omega)), fun p2 newp2 => ?_⟩
      have s6 := same_upd (o := .lst ([V.int (g.n : Int)] ++ pr.map V.int)) newp2
      have ep2 : upd H5 p2 (.lst ([V.int (g.n : Int)] ++ pr.map V.int)) p2 = some (.lst ([V.int (g.n : Int)] ++ pr.map V.int)) := upd_same
      generalize upd H5 p2 (.lst ([V.int (g.n : Int)] ++ pr.map V.int)) = H6 at s6 ep2
      have s56 := s5.trans s6
      have fk : FracsAt K H6 tk ((List.range g.n).map fun i => Sr58.frac (A2 i) D2) := by
        rw [← Spr_range hA2]
        exact same_fracs s56 (fracs_extN eN (same_fracs s3 htk))
      have fl : FracsAt K H6 tl ((List.range g.n).map fun i => Sr58.frac (B2 i) D2) := by
        rw [← Spr_range hB2]
        exact same_fracs s56 (fracs_extN eN (same_fracs s3 htl))
      have st6 : SqL K H6 t (rowI g.n fun i => pr.getD i 0) := by
        unfold rowI
        rw [← list_range hlen]
        exact s56.seq st
      refine ⟨_, rfl, _, rfl, _, rfl, t, tk, tl, g.n, fun i => pr.getD i 0, _, _, rfl, st6, fk, fl, by omega, vok, fun H7 v s7 hv7 => ?_⟩
      rw [hv] at hv7
      refine ⟨by show 1 ≤ sizeLine; decide, fun z newz => ?_⟩
      have s8 := same_upd (o := .lst [V.ref v]) newz
      have ez : upd H7 z (.lst [V.ref v]) z = some (.lst [V.ref v]) := upd_same
      generalize upd H7 z (.lst [V.ref v]) = H8 at s8 ez
      refine ⟨z, [_], rfl, ⟨[v], ez, .cons (same_fr s8 hv7) .nil⟩, by show 1 ≤ 100; decide, fun H9 y s9 newy hy => ?_⟩
      have s79 := (s7.trans s8).trans s9
      refine ⟨p2, y, _, _, rfl, rfl, s79 _ _ ep2, hy, ?_, fun r newr => ?_⟩
      · rw [List.length_append, List.length_map, hlen]
        exact Nat.le_of_lt (small1000 (by show 1 + _ + 2 ≤ 1000; omega))
      · have s10 := same_upd (o := .lst ([V.int (g.n : Int)] ++ pr.map V.int ++ ([Sr82.gain g.n pr (at_ g k) (at_ g l)].flatMap Sr66.fr).map V.int)) newr
        have sAll := (s56.trans s79).trans s10
        refine o.give hB (((LamX.ExtN.of (s1.trans s3)).trans eN).trans (LamX.ExtN.of sAll)) (T4.ext sAll) rfl (newp_of (((LamX.ExtN.of (s1.trans s3)).trans eN).trans (LamX.ExtN.of (s56.trans s79))) newr) ?_
        unfold IntsL
        rw [upd_same]
        simp only [List.map_cons, List.map_append, List.cons_append, List.nil_append, List.flatMap_cons, List.flatMap_nil, List.append_nil]
    · rw [trans_yes (g := g) hin, hh, if_pos rfl] at o
      exact o.raised hT rfl
end
end EW
end

/-! ## EwDo3 -/
section
set_option Elab.async false
set_option linter.all false
set_option maxRecDepth 100000
set_option maxHeartbeats 2000000
set_option autoImplicit false
set_option exponentiation.threshold 10000
/-! The operations that replace a distribution. -/
namespace EW
open PySem PySem.Spec PyProof.Rows L2
open Sr58 (Frac)
open Sr82 (Ground hangs at_ isP)
open Sr80 (isK)
open EH (GOk wayI cD)
local macro_rules | `(tactic| walk_at "rd") => `(tactic| repeat (first | refine ⟨rfl, ?_⟩ | apply Exists.intro | refine ⟨by assumption, ?_⟩))
abbrev s_set_distribution : Stmt := top 76
theorem sc_set_distribution : FnScope ["box", "numbers", "row", "weight"] ["box", "numbers", "row"] (defScope s_set_distribution) := ⟨rfl, rfl, rfl, by decide +kernel, rfl, by decide +kernel, by decide +kernel⟩
abbrev s_map_distribution : Stmt := top 88
theorem sc_map_distribution : FnScope ["box", "numbers", "row", "k", "m"] ["box", "numbers", "row"] (defScope s_map_distribution) := ⟨rfl, rfl, rfl, by decide +kernel, rfl, by decide +kernel, by decide +kernel⟩
abbrev s_average : Stmt := top 89
theorem sc_average : FnScope ["box", "numbers", "row", "k", "l", "m", "found", "one", "other"] ["box", "numbers", "row"] (defScope s_average) := ⟨rfl, rfl, rfl, by decide +kernel, rfl, by decide +kernel, by decide +kernel⟩
theorem crSumK {X : Cx} {K : PySem.W.Frag} (hc : X.calm = true) (h : X.K = K := by rfl) : CallR X (.builtin "sum") (rSum K) := by
  subst h
  exact cr_sum hc
theorem BoxAt.notin {K : PySem.W.Frag} {C a : Addr} {H : Hp} {g : Ground} {D : List Addr} (h : BoxAt K C H a g D) {t : Addr} (n : H t = none) : t ∉ D := fun z => by
  obtain ⟨dx, l, s, rs, ss, h1, h2, h3, h4, h5, h6, h7, h8⟩ := h.ex
  rw [h5] at z
  rcases List.mem_cons.mp z with y | y
  · rw [y, h3] at n
    cases n
  · obtain ⟨i, e⟩ := List.getElem?_of_mem y
    rw [h2.row i t e] at n
    cases n
theorem tabs_box {K : PySem.W.Frag} {C a P0 : Addr} {H H' : Hp} {g : Ground} {D : List Addr} (h : BoxAt K C H a g D) (hT : LamX.Tabs (TN P0) H) (off : Off D H H') : LamX.Tabs (TN P0) H' := by
  obtain ⟨_, l', sx, rs, ss, g1, g2, g3, _, g5, _⟩ := h.ex
  refine tabs_off hT off fun r hr => ?_
  rw [g5] at hr
  rcases List.mem_cons.mp hr with y | y
  · exact ⟨_, by rw [y]; exact g3⟩
  · obtain ⟨k, ek⟩ := List.getElem?_of_mem y
    exact ⟨_, g2.row k r ek⟩
/-- a slot is replaced -/
theorem BoxAt.put {K : PySem.W.Frag} {C a : Addr} {H : Hp} {g : Ground} {D : List Addr} (h : BoxAt K C H a g D) (ok : GOk g) : ∃ (dx l s : Addr) (ss : List Addr), H a = some (.ins C dx (boxF l s)) ∧ H s = some (.lst (ss.map V.ref)) ∧
    ∀ k : Int, 0 ≤ k ∧ k < 4 → ixN (ss.map V.ref).length k = some k.toNat ∧ ∀ (t : Addr) (x : List Frac), FracsAt K H t x → t ∉ D → BoxAt K C (upd H s (.lst ((ss.map V.ref).set k.toNat (.ref t)))) a (Sr82.put g k x) D ∧ Off D H (upd H s (.lst ((ss.map V.ref).set k.toNat (.ref t)))) := by
  obtain ⟨dx, l, s, rs, ss, h1, h2, h3, h4, h5, h6, h7, h8⟩ := h.ex
  refine ⟨dx, l, s, ss, h1, h3, fun k hk => ⟨?_, fun t x ht hD => ⟨⟨dx, l, s, rs, ss.set k.toNat t, ?_, ?_, ?_, ?_, h5, h6, h7, ?_⟩, ?_⟩⟩⟩
  · rw [List.length_map, Paired.length h4, ok.four]
    unfold ixN
    rw [if_pos hk.1, if_pos (by omega)]
  · rw [upd_ne (fun z => by rw [z, h3] at h1; cases h1)]
    exact h1
  · exact h2.off (qs := [s]) (Off.upd (List.mem_singleton.mpr rfl)) (fun z => h7 (List.mem_singleton.mp z).symm) fun r hr z => h6 (by rw [← List.mem_singleton.mp z]; exact hr)
  · rw [upd_same, List.map_set]
  · have hts : t ≠ s := fun z => hD (by rw [h5, z]; exact List.mem_cons_self)
    have up : ∀ {b : Addr} {y : List Frac}, b ≠ s → FracsAt K H b y → FracsAt K (upd H s (.lst ((ss.map V.ref).set k.toNat (.ref t)))) b y := fun hb hy => fracs_upd hy hb (fun zs e => by rw [h3] at e; cases e) fun u zs e => by rw [h3] at e; cases e
    exact paired_set (paired_of h4 fun b hb y q => up (fun z => h8 b hb (by rw [z]; exact List.mem_cons_self)) q) (up hts ht)
  · intro b hb
    rcases List.mem_or_eq_of_mem_set hb with z | z
    · exact h8 b z
    · rw [z, ← h5]
      exact hD
  · rw [h5]
    exact Off.upd List.mem_cons_self
/-- a slot is replaced, and 0 is handed back -/
theorem put_end {K : PySem.W.Frag} {P0 C CR a p : Addr} {g : Ground} {D : List Addr} {H H1 H2 : Hp} {Q : VK} {E : XK} {m : Int} {x : List Frac} (o : OpOut K P0 C CR a g D H Q E (some (Sr82.put g m x), Sr82.say 0)) (hB : BoxAt K C H a g D) (hT : LamX.Tabs (TN P0) H)
    (s1 : Same H H1) (off : Off D H1 H2) (hB2 : BoxAt K C H2 a (Sr82.put g m x) D) (newp : H2 p = none) : Q (.ref p) (upd H2 p (.lst [V.int 0])) := by
  have s3 := same_upd (o := .lst [V.int 0]) newp
  refine o.ret _ p ⟨fun b' u e nD hu => s3 _ _ (off _ _ (s1 _ _ e) nD), (tabs_box (hB.same s1) (hT.ext s1) off).ext s3⟩ (hB2.same s3) (fun b' u e nD _ z => by have := off _ _ (s1 _ _ e) nD; rw [z, newp] at this; cases this) ?_
  unfold IntsL
  rw [upd_same]
  rfl
/-- over zip of two lists -/
theorem lc_zip {K : PySem.W.Frag} {a b : Addr} {xs ys : List V} {g : TG} {tt : TT} {te : TE} {vs : List Nat} {σ : L2.St} {H1 : Hp} {D : Addr} {Qd : Hp → Prop} (hl : xs.length = ys.length) (Pv : Nat → Hp → Prop) (h0 : Pv 0 (upd H1 D (.lst []))) (hq : ∀ i H, Pv i H → SqL K H a xs ∧ SqL K H b ys)
    (hs : ∀ (i : Nat) (x y : V) (T : Addr) (H : Hp), xs[i]? = some x → ys[i]? = some y → Pv i H → H T = none → g (.ref T) (wipe σ vs) (upd H T (.tup [x, y])) fun σ2 H2 => wipe σ2 vs = wipe σ vs ∧ tt σ2 H2 fun b H3 =>
      if b = true then te σ2 H3 fun y H4 => ∃ acc, H4 D = some (.lst acc) ∧ acc.length < sizeLine ∧ Pv (i + 1) (upd H4 D (.lst (acc ++ [y]))) else Pv (i + 1) H3) (hd : ∀ H, Pv xs.length H → Qd H) :
    ∃ W : Nat → Nat → Hp → Prop, (∃ m, W 0 m (upd H1 D (.lst []))) ∧ ∀ i m H, W i m H →
      ((Itz K a b).stop i H ∧ Qd H) ∨ ((Itz K a b).go i H ∧ ∃ Nx : Hp → Prop, (∀ H', Nx H' → ∃ m', m' < m ∧ W (i + 1) m' H') ∧ ∀ x H', (Itz K a b).yld i H x H' → g x (wipe σ vs) H' fun σ2 H2 => wipe σ2 vs = wipe σ vs ∧ tt σ2 H2 fun b H3 =>
        if b = true then te σ2 H3 fun y H4 => ∃ acc, H4 D = some (.lst acc) ∧ acc.length < sizeLine ∧ Nx (upd H4 D (.lst (acc ++ [y]))) else Nx H3) := by
  refine ⟨fun i m H => m = xs.length - i ∧ i ≤ xs.length ∧ Pv i H, ⟨xs.length, by simp, Nat.zero_le _, h0⟩, ?_⟩
  rintro i m H ⟨rfl, hi, p⟩
  obtain ⟨qx, qy⟩ := hq i H p
  by_cases hlt : i < xs.length
  · have hx : xs[i]? = some xs[i] := List.getElem?_eq_getElem hlt
    have hlt2 : i < ys.length := by omega
    have hy : ys[i]? = some ys[i] := List.getElem?_eq_getElem hlt2
    refine .inr ⟨⟨xs, ys, _, _, qx, qy, hx, hy⟩, Pv (i + 1), fun H' p' => ⟨xs.length - (i + 1), by omega, rfl, hlt, p'⟩, fun v H' y => ?_⟩
    obtain ⟨T, x', y', rfl, hT, rfl, f1, f2⟩ := y
    exact hs i x' y' T H (f1 xs qx) (f2 ys qy) p hT
  · have e : i = xs.length := by omega
    subst e
    exact .inl ⟨⟨xs, ys, qx, qy, Or.inl (Nat.le_refl _)⟩, hd H p⟩
theorem sum_toNat : ∀ l : List Int, (∀ x ∈ l, 0 ≤ x) → ((l.map fun x => x.toNat).sum : Nat) = l.sum.toNat ∧ 0 ≤ l.sum
  | [], _ => ⟨rfl, Int.le_refl _⟩
  | x :: l, h => by
    have h1 := h x List.mem_cons_self
    obtain ⟨h2, h3⟩ := sum_toNat l fun y hy => h y (List.mem_cons_of_mem _ hy)
    rw [List.map_cons, List.sum_cons, List.sum_cons, h2]
    omega
theorem sum_pos_some : ∀ l : List Int, 0 < l.sum → ∃ x ∈ l, 0 < x
  | [], h => absurd h (Int.lt_irrefl 0)
  | x :: l, h => by
    rw [List.sum_cons] at h
    by_cases c : 0 < x
    · exact ⟨x, List.mem_cons_self, c⟩
    · obtain ⟨y, hy, hp⟩ := sum_pos_some l (by omega)
      exact ⟨y, List.mem_cons_of_mem _ hy, hp⟩
theorem sum_ge : ∀ l : List Int, (∀ x ∈ l, 0 ≤ x) → ∀ x ∈ l, x ≤ l.sum
  | [], _, x, hx => by simp at hx
  | y :: l, h, x, hx => by
    have h1 := h y List.mem_cons_self
    have h2 := (sum_toNat l fun y hy => h y (List.mem_cons_of_mem _ hy)).2
    rw [List.sum_cons]
    rcases List.mem_cons.mp hx with e | e
    · omega
    · have := sum_ge l (fun y hy => h y (List.mem_cons_of_mem _ hy)) x e
      omega
section
variable {P : Program} {w : World} {K : PySem.W.Frag} {mg : Str → Option Value} {base : Heap} (B : Nb mg) {A0 : Ad} (G : Gs K mg A0) {P0 C CR : Addr} (T : BoxT K C)
include B G T
theorem df_set_distribution {f : Addr} {fd : FuncData} (hm : mg "set_distribution" = some (.ref f)) (F : Fun K "set_distribution" "set_distribution" s_set_distribution f fd) (R : RefD P w K mg base CR) (c_look_slots : Df P w K mg base (L2.CX P w) 3 "look_slots" (spLookS K CR)) (c_look_row : Df P w K mg base (L2.CX P w) 3 "look_row" (spLookR K CR))
    (c_points : DfM P w K mg base CX0 1 C "points" (spPoints K C)) (c_ratio : Df P w K mg base CX0 2 "ratio" (spRatio K)) : Df P w K mg base (L2.CX P w) 4 "set_distribution" (spOp K P0 C CR clSpread) := by
  refine df_of (F.okX sc_set_distribution (fun vs H Q E h => ?_) (fun cdv A outer s H vs Q E hr h => ⟨_,
(pss_cons (ps_expr (pe_cX c_look_slots hr (by decide) rfl (passes_call (takes_of rfl rfl rfl rfl) fun _ _ _ _ h => h) (pa_cons (pv 1) pa_nil)))
 (pss_cons (ps_expr (pe_cX c_look_row hr (by decide) rfl (passes_call (takes_of rfl rfl rfl rfl) fun _ _ _ _ h => h) (pa_cons (pv 2) (pa_cons (pe_mm0 c_points T.cl hr (by decide) (pv 0)) (pa_cons pe_int (pa_cons (pe_gk rfl G.MOST_WEIGHT_) pa_nil))))))
 (pss_cons (ps_if (pt_cmpR op_eq (pe_callB (cr_sum rfl) (by rfl) B.sum_ (by decide +kernel) (pa_cons (pv 2) pa_nil)) pe_int (nomark _)) (pss_one (ps_raise rfl (takes_of rfl rfl rfl rfl) (pmk_ref R hr (by decide) rfl (pa_cons (pe_un un_neg pe_int) pa_nil)))) pss_nil)
 (pss_cons (ps_asg (pe_lc (own := [("weight", 3)]) (g := gName 3) (tt := tYes) rfl sc_set_distribution.nd (pi_list (pv 2)) (blkOk_by (own := [("weight", 3)]) (N := ["box", "numbers", "row", "weight"]) (by kernel_rfl))
 (fun _ _ _ _ _ => (pg_name (i := 3) sc_set_distribution.nd rfl (Or.inl rfl))) (fun _ _ _ _ _ => pts_nil) (fun _ _ _ _ _ => (pe_c0 c_ratio hr (by decide) rfl (pa_cons (pv 3) (pa_cons (pe_callB (crSumK (K := K) rfl) (by rfl) B.sum_ (by decide +kernel) (pa_cons (pv 2) pa_nil)) pa_nil))))) (pg_sub (pe_fld (pv 0) rfl) (pe_ix ix_list (pv 1) pe_int (fun _ _ => rfl)) set_list))
 (pss_one (ps_ret (pe_lst (pa_cons pe_int pa_nil))))))))
   , ?_⟩)) hm F.kp (F.binds fun _ _ _ _ _ _ us hl => match us, hl with | [_, _, _], _ => rfl)
  · obtain ⟨a, b, d, g, D, ns, row, c, rfl, _⟩ := h
    rfl
  · obtain ⟨a, b, d, g, D, ns, row, c, rfl, hB, ok, hs, hrow, hT, ⟨k, rfl, rfl⟩, _, _, _, o⟩ := h
    have o : OpOut K P0 C CR a g D H Q E (if isK k = false then (none, Sr82.say (-2)) else if Sr80.okW g.n row = false then (none, Sr82.say (-22)) else (some (Sr82.put g k (Sr80.spreadOf (row.map fun x => x.toNat))), Sr82.say 0)) := o
    obtain ⟨dx, l, s', e1, hM⟩ := hB.mx
    refine ⟨_, rfl, b, _, rfl, hs, Nat.one_pos, fun hin => ?_, fun hn => o.raised hT ?_⟩
    · have hk := inr1.mp hin
      rw [isK_iff.mpr hk, if_neg (by decide)] at o
      have hn0 := ok.n0
      have okw : Sr80.okW g.n row = true ↔ RowOk row (g.n : Int) 0 20 ∧ ∃ x ∈ row, 0 < x := by
        unfold Sr80.okW RowOk
        rw [Bool.and_eq_true, Bool.and_eq_true, decide_eq_true_eq, List.all_eq_true, List.any_eq_true]
        constructor
        · rintro ⟨h1, h2, x, hx, h3⟩
          refine ⟨⟨by rw [h1], fun y hy => ?_⟩, x, hx, of_decide_eq_true h3⟩
          have := h2 y hy
          rw [Bool.and_eq_true, decide_eq_true_eq, decide_eq_true_eq] at this
          exact this
        · rintro ⟨⟨h1, h2⟩, x, hx, h3⟩
          refine ⟨by omega, fun y hy => ?_, x, hx, decide_eq_true h3⟩
          rw [Bool.and_eq_true, decide_eq_true_eq, decide_eq_true_eq]
          exact h2 y hy
      refine ⟨_, rfl, _, rfl, a, dx, _, rfl, e1, boxF_no, a, g, D, rfl, hB, d, _, 0, 20, row, rfl, hrow, by omega, fun hro => ?_, fun hno => o.raised hT ?_⟩
      · refine ⟨_, rfl, d, _, rfl, hrow, rfl, _, rfl, ?_⟩
        have nn : ∀ x ∈ row, 0 ≤ x := fun x hx => (hro.2 x hx).1
        have h20 : ∀ x ∈ row, x ≤ 20 := fun x hx => (hro.2 x hx).2
        obtain ⟨hsn, hs0⟩ := sum_toNat row nn
        have hlen := hro.1
        have hn6 := ok.n6
        refine ite2 (fun c1 => ?_) (fun c1 => ?_)
        · have c1 : row.sum = 0 := by
            have := of_decide_eq_true c1
            injection this
          refine ⟨_, rfl, raised R.t (o.raised hT ?_)⟩
          rw [if_pos]
          cases e : Sr80.okW g.n row with
          | false => rfl
          | true =>
            obtain ⟨_, x, hx, hp⟩ := okw.mp e
            have := sum_ge row nn x hx
            omega
        · have c1 : row.sum ≠ 0 := fun z => c1 (decide_eq_true (by rw [z]))
          have hpos : 0 < row.sum := by omega
          rw [if_neg (by rw [okw.mpr ⟨hro, sum_pos_some row hpos⟩]; decide)] at o
          have hnat : ∀ x ∈ row.map fun x => x.toNat, x ≤ 20 := fun y hy => by
            obtain ⟨x, hx, rfl⟩ := List.mem_map.mp hy
            have := h20 x hx
            omega
          obtain ⟨hspr, hf, hw0, hw120⟩ := EH.spr_weights (w := row.map fun x => x.toNat) ok.n6 (by rw [List.length_map]; omega) hnat (by
            obtain ⟨x, hx, hp⟩ := sum_pos_some row hpos
            exact ⟨x.toNat, List.mem_map.mpr ⟨x, hx, rfl⟩, by omega⟩)
          have eout : row.map (fun x => Sr58.frac x row.sum.toNat) = Sr80.spreadOf (row.map fun x => x.toNat) := by
            unfold Sr80.spreadOf
            rw [hf, hsn, List.map_map]
            refine List.map_congr_left fun x hx => ?_
            show Sr58.frac x _ = Sr58.frac ((x.toNat : Nat) : Int) _
            rw [nat_of (nn x hx)]
          have hsm : row.sum.natAbs < 2 ^ 8900 := Nat.lt_of_le_of_lt (show _ ≤ 120 by omega) (by decide)
          refine ⟨_, rfl, d, rfl, ⟨_, hrow⟩, fun R newR => ?_⟩
          refine lc_list (K := K) (a := d) (xs := row.map V.int) (MadeT (FrAt K) H R (row.map fun x => Sr58.frac x row.sum.toNat)) (MadeT.start newR) (fun i H' _ e => e.same.seq hrow) ?_ ?_
          · rintro i y H' hi hv
            obtain ⟨x, hx, rfl⟩ := map_get hi
            refine ⟨rfl, tY ⟨_, rfl, _, rfl, d, row, rfl, hv.same.seq hrow, x, row.sum, rfl, hpos, hsm, fun H4 t s4 ht => ?_⟩⟩
            exact hv.next kept_fr framedA_fr s4 ht (by rw [List.getElem?_map, hx]; rfl) newR (by rw [List.length_map]; omega)
          · intro H1 hv
            rw [List.length_map] at hv
            obtain ⟨s1, l1⟩ := hv.done (by rw [List.length_map])
            rw [eout] at l1
            obtain ⟨dx', l', sx, ss, g1, g2, g3⟩ := (hB.same s1).put ok
            obtain ⟨ix, gp⟩ := g3 k hk
            obtain ⟨hB2, off⟩ := gp R _ l1 (hB.notin newR)
            refine ⟨_, rfl, a, C, dx', _, _, rfl, g1, T.cl, T.nS, boxF_s, _, rfl, b, _, _, _, rfl, rfl, s1.seq hs, rfl, sx, _, _, k.toNat, rfl, rfl, g2, ix, ?_⟩
            exact ⟨by show 1 ≤ sizeLine; decide, fun p newp => put_end o hB hT s1 off hB2 newp⟩
      · rw [if_pos]
        cases e : Sr80.okW g.n row with
        | false => rfl
        | true => exact absurd (okw.mp e).1 hno
    · rw [if_pos (isK_no.mpr fun z => hn (inr1.mpr z))]
theorem df_map_distribution {f : Addr} {fd : FuncData} (hm : mg "map_distribution" = some (.ref f)) (F : Fun K "map_distribution" "map_distribution" s_map_distribution f fd) (c_look_slots : Df P w K mg base (L2.CX P w) 3 "look_slots" (spLookS K CR)) (c_look_row : Df P w K mg base (L2.CX P w) 3 "look_row" (spLookR K CR))
    (c_points : DfM P w K mg base CX0 1 C "points" (spPoints K C)) (c_mapped : Df P w K mg base CX0 4 "mapped" (spMapped K)) : Df P w K mg base (L2.CX P w) 5 "map_distribution" (spOp K P0 C CR clImage) := by
  refine df_of (F.okX sc_map_distribution (fun vs H Q E h => ?_) (fun cdv A outer s H vs Q E hr h => ⟨_,
(pss_cons (ps_asg (pv 1) (pg_unl rfl (pgs_cons (pg_name (i := 3) sc_map_distribution.nd rfl (Or.inl rfl)) (pgs_cons (pg_name (i := 4) sc_map_distribution.nd rfl (Or.inl rfl)) pgs_nil))))
 (pss_cons (ps_expr (pe_cX c_look_slots hr (by decide) rfl (passes_call (takes_of rfl rfl rfl rfl) fun _ _ _ _ h => h) (pa_cons (pv 1) pa_nil)))
 (pss_cons (ps_expr (pe_cX c_look_row hr (by decide) rfl (passes_call (takes_of rfl rfl rfl rfl) fun _ _ _ _ h => h) (pa_cons (pv 2) (pa_cons (pe_mm0 c_points T.cl hr (by decide) (pv 0)) (pa_cons pe_int (pa_cons (pe_op op_sub (pe_mm0 c_points T.cl hr (by decide) (pv 0)) pe_int) pa_nil))))))
 (pss_cons (ps_asg (pe_c0 c_mapped hr (by decide) rfl (pa_cons (pe_ix ix_list (pe_fld (pv 0) rfl) (pv 3) (fun _ _ => rfl)) (pa_cons (pv 2) pa_nil))) (pg_sub (pe_fld (pv 0) rfl) (pv 4) set_list))
 (pss_one (ps_ret (pe_lst (pa_cons pe_int pa_nil))))))))
   , ?_⟩)) hm F.kp (F.binds fun _ _ _ _ _ _ us hl => match us, hl with | [_, _, _], _ => rfl)
  · obtain ⟨a, b, d, g, D, ns, row, c, rfl, _⟩ := h
    rfl
  · obtain ⟨a, b, d, g, D, ns, row, c, rfl, hB, ok, hs, hrow, hT, ⟨k, m, rfl, rfl⟩, _, _, _, o⟩ := h
    have o : OpOut K P0 C CR a g D H Q E (if isK k = false ∨ isK m = false then (none, Sr82.say (-2)) else if row.length ≠ g.n ∨ row.any (fun x => decide (x < 0) || decide ((g.n : Int) ≤ x)) then (none, Sr82.say (-22)) else (some (Sr82.put g m (Sr80.image g.n (at_ g k) (row.map fun x => x.toNat))), Sr82.say 0)) := o
    obtain ⟨dx, l, s', e1, hM⟩ := hB.mx
    have hn0 := ok.n0
    have hn6 := ok.n6
    refine ⟨_, rfl, b, _, rfl, hs, rfl, _, _, rfl, _, _, rfl, rfl, ?_⟩
    refine ⟨_, rfl, b, _, rfl, hs, by show 0 < 2; decide, fun hin => ?_, fun hn => o.raised hT ?_⟩
    · obtain ⟨hk, hm'⟩ := inr2.mp hin
      rw [isK_iff.mpr hk, isK_iff.mpr hm', if_neg (by simp)] at o
      have bad : RowOk row (g.n : Int) 0 ((g.n : Int) - 1) ↔ ¬ (row.length ≠ g.n ∨ (row.any fun x => decide (x < 0) || decide ((g.n : Int) ≤ x)) = true) := by
        unfold RowOk
        rw [List.any_eq_true]
        constructor
        · rintro ⟨h1, h2⟩ (h3 | ⟨x, hx, h3⟩)
          · omega
          · have := h2 x hx
            rw [Bool.or_eq_true, decide_eq_true_eq, decide_eq_true_eq] at h3
            omega
        · intro h
          refine ⟨?_, fun x hx => ?_⟩
          · rcases Nat.lt_trichotomy row.length g.n with z | z | z
            · exact absurd (Or.inl (by omega)) h
            · omega
            · exact absurd (Or.inl (by omega)) h
          · rcases Classical.em (0 ≤ x ∧ x ≤ (g.n : Int) - 1) with z | z
            · exact z
            · refine absurd (Or.inr ⟨x, hx, ?_⟩) h
              rw [Bool.or_eq_true, decide_eq_true_eq, decide_eq_true_eq]
              omega
      refine ⟨_, rfl, _, rfl, a, dx, _, rfl, e1, boxF_no, a, g, D, rfl, hB, _, rfl, a, dx, _, rfl, e1, boxF_no, a, g, D, rfl, hB, _, _, rfl, rfl, d, _, 0, _, row, rfl, hrow, by omega, fun hro => ?_, fun hno => o.raised hT ?_⟩
      · rw [if_neg (bad.mp hro)] at o
        obtain ⟨dx1, l1, s1', ss1, e11, hS, hslot⟩ := hB.slot ok
        obtain ⟨tk, mk, htk⟩ := hslot k hk
        have hts : ∀ i, i < g.n → (row.map fun x => x.toNat).getD i 0 < g.n ∧ row.getD i 0 = (((row.map fun x => x.toNat).getD i 0 : Nat) : Int) := fun i hi => by
          have hlt : i < row.length := by have := hro.1; omega
          have hx := hro.2 row[i] (List.getElem_mem hlt)
          rw [List.getD_eq_getElem?_getD, List.getD_eq_getElem?_getD, List.getElem?_map, List.getElem?_eq_getElem hlt]
          show row[i].toNat < g.n ∧ row[i] = ((row[i].toNat : Nat) : Int)
          omega
        obtain ⟨him, L, A', hA, hL, eim, hsz⟩ := EH.spr_image (ok.slot (isK_iff.mpr hk)).1 (f := row.map fun x => x.toNat) fun i hi => (hts i hi).1
        have hL4 : L < 2 ^ 4400 := Nat.lt_trans hL (by decide)
        have fk : FracsAt K H tk ((List.range g.n).map fun i => Sr58.frac (A' i) L) := by
          rw [← Spr_range hA]
          exact htk
        have rk : SqL K H d (rowI g.n fun i => (((row.map fun x => x.toNat).getD i 0 : Nat) : Int)) := by
          have e : row = (List.range g.n).map fun i => (((row.map fun x => x.toNat).getD i 0 : Nat) : Int) := by
            rw [list_range (n := g.n) (f := row) (by have := hro.1; omega)]
            refine List.map_congr_left fun i hi => ?_
            rw [← list_range (n := g.n) (f := row) (by have := hro.1; omega)]
            exact (hts i (List.mem_range.mp hi)).2
          unfold rowI
          rw [← e]
          exact hrow
        refine ⟨_, rfl, a, C, dx1, _, _, rfl, e11, T.cl, T.nS, boxF_s, _, rfl, s1', _, _, _, rfl, rfl, hS, mk, _, rfl, tk, d, g.n, fun i => Sr58.frac (A' i) L, fun i => (row.map fun x => x.toNat).getD i 0, rfl, fk, rk, by omega, fun i hi => (hts i hi).1,
          fun i hi => EH.sz_frac hA.pos (Nat.lt_of_le_of_lt (hA.abs i hi) hL4) hL4, fun i k hi _ => hsz i k (by omega), fun H1 t s1 newt ht => ?_⟩
        rw [← eim] at ht
        obtain ⟨dx', l', sx, ss, g1, g2, g3⟩ := (hB.same s1).put ok
        obtain ⟨ix, gp⟩ := g3 m hm'
        obtain ⟨hB2, off⟩ := gp t _ ht (hB.notin newt)
        refine ⟨_, rfl, a, C, dx', _, _, rfl, g1, T.cl, T.nS, boxF_s, _, rfl, sx, _, _, m.toNat, rfl, rfl, g2, ix, ?_⟩
        exact ⟨by show 1 ≤ sizeLine; decide, fun p newp => put_end o hB hT s1 off hB2 newp⟩
      · rw [if_pos (Classical.not_not.mp fun z => hno (bad.mpr z))]
    · rw [if_pos]
      rcases Classical.em (0 ≤ k ∧ k < 4) with z | z
      · exact Or.inr (isK_no.mpr fun y => hn (inr2.mpr ⟨z, y⟩))
      · exact Or.inl (isK_no.mpr z)
theorem df_average {f : Addr} {fd : FuncData} (hm : mg "average" = some (.ref f)) (F : Fun K "average" "average" s_average f fd) (Rd : RefD P w K mg base CR) (c_look_slots : Df P w K mg base (L2.CX P w) 3 "look_slots" (spLookS K CR)) (c_plus : Df P w K mg base CX0 3 "plus" (spOp2 K Sr58.plus)) (c_times : Df P w K mg base CX0 3 "times" (spOp2 K Sr58.times)) :
    Df P w K mg base (L2.CX P w) 4 "average" (spOp K P0 C CR clMiddle) := by
  refine df_of (F.okX sc_average (fun vs H Q E h => ?_) (fun cdv A outer s H vs Q E hr h => ⟨_,
(pss_cons (ps_expr (pe_cX c_look_slots hr (by decide) rfl (passes_call (takes_of rfl rfl rfl rfl) fun _ _ _ _ h => h) (pa_cons (pv 1) pa_nil)))
 (pss_cons (ps_asg (pv 1) (pg_unl rfl (pgs_cons (pg_name (i := 3) sc_average.nd rfl (Or.inl rfl)) (pgs_cons (pg_name (i := 4) sc_average.nd rfl (Or.inl rfl)) (pgs_cons (pg_name (i := 5) sc_average.nd rfl (Or.inl rfl)) pgs_nil)))))
 (pss_cons (ps_setLc (i := 6) (own := [("one", 7), ("other", 8)]) (tt := tYes) rfl sc_average.nd rfl rfl (sw_true rfl rfl rfl (by decide +kernel)) (pi_zip (by rfl) B.zip_ (pa_cons (pe_ix ix_list (pe_fld (pv 0) rfl) (pv 3) (fun _ _ => rfl)) (pa_cons (pe_ix ix_list (pe_fld (pv 0) rfl) (pv 4) (fun _ _ => rfl)) pa_nil))) (blkOk_by (own := [("one", 7), ("other", 8)]) (N := ["box", "numbers", "row", "k", "l", "m", "found", "one", "other"]) (by kernel_rfl))
 (fun _ _ _ _ _ => (pgT (K := K) (n := 2) rfl (pgs_cons (pg_name (i := 7) sc_average.nd rfl (Or.inl rfl)) (pgs_cons (pg_name (i := 8) sc_average.nd rfl (Or.inl rfl)) pgs_nil)))) (fun _ _ _ _ _ => pts_nil) (fun _ _ _ _ _ => (pe_c0 c_times hr (by decide) rfl (pa_cons (pe_gk rfl G.HALF_) (pa_cons (pe_c0 c_plus hr (by decide) rfl (pa_cons (pv 7) (pa_cons (pv 8) pa_nil))) pa_nil)))))
 (pss_cons (ps_if (pt_cmpR op_gt (pe_callB (cr_max rfl) (by rfl) B.max_ (by decide +kernel) (pa_cons (pe_lc (own := [("one", 7)]) (g := gName 7) (tt := tYes) rfl sc_average.nd (pi_list (pv 6)) (blkOk_by (own := [("one", 7)]) (N := ["box", "numbers", "row", "k", "l", "m", "found", "one", "other"]) (by kernel_rfl))
 (fun _ _ _ _ _ => (pg_name (i := 7) sc_average.nd rfl (Or.inl rfl))) (fun _ _ _ _ _ => pts_nil) (fun _ _ _ _ _ => (pe_ix (ixT (K := K)) (pv 7) pe_int (fun _ _ => rfl)))) pa_nil)) (pe_gk rfl G.MOST_DENOMINATOR_) (nomark _)) (pss_one (ps_raise rfl (takes_of rfl rfl rfl rfl) (pmk_ref Rd hr (by decide) rfl (pa_cons (pe_un un_neg pe_int) pa_nil)))) pss_nil)
 (pss_cons (ps_asg (pv 6) (pg_sub (pe_fld (pv 0) rfl) (pv 5) set_list))
 (pss_one (ps_ret (pe_lst (pa_cons pe_int pa_nil)))))))))
   , ?_⟩)) hm F.kp (F.binds fun _ _ _ _ _ _ us hl => match us, hl with | [_, _, _], _ => rfl)
  · obtain ⟨a, b, d, g, D, ns, row, c, rfl, _⟩ := h
    rfl
  · obtain ⟨a, b, d, g, D, ns, row, c, rfl, hB, ok, hs, hrow, hT, ⟨k, l, m, rfl, rfl⟩, _, _, _, o⟩ := h
    have o : OpOut K P0 C CR a g D H Q E (if isK k = false ∨ isK l = false ∨ isK m = false then (none, Sr82.say (-2)) else if (Sr80.mixed g.n (at_ g k) (at_ g l) (Sr58.frac 1 2)).all (fun x => decide (x.d ≤ 100000)) then (some (Sr82.put g m (Sr80.mixed g.n (at_ g k) (at_ g l) (Sr58.frac 1 2))), Sr82.say 0) else (none, Sr82.say (-75))) := o
    have hn0 := ok.n0
    have hn6 := ok.n6
    refine ⟨_, rfl, b, _, rfl, hs, by show 0 < 3; decide, fun hin => ?_, fun hn => o.raised hT ?_⟩
    · obtain ⟨hk, hl, hm'⟩ := inr3.mp hin
      rw [isK_iff.mpr hk, isK_iff.mpr hl, isK_iff.mpr hm', if_neg (by simp)] at o
      obtain ⟨dx1, l1, s1', ss1, e11, hS, hslot⟩ := hB.slot ok
      obtain ⟨tk, mk, htk⟩ := hslot k hk
      obtain ⟨tl, ml, htl⟩ := hslot l hl
      obtain ⟨Dn, A', B', hA, hB', hD, hmix, heq⟩ := EH.spr_mean (ok.slot (isK_iff.mpr hk)).1 (ok.slot (isK_iff.mpr hl)).1
      have hD4 : Dn < 2 ^ 4400 := Nat.lt_trans hD (by decide)
      obtain ⟨as, ha1, ha2⟩ := htk
      obtain ⟨bs, hb1, hb2⟩ := htl
      have hla : as.length = g.n := (Paired.length ha2).trans hA.len
      have hlb : bs.length = g.n := (Paired.length hb2).trans hB'.len
      have hmlen : (Sr80.mixed g.n (at_ g k) (at_ g l) (Sr58.frac 1 2)).length = g.n := hmix.len
      have hmx : ∀ i, i < g.n → (Sr80.mixed g.n (at_ g k) (at_ g l) (Sr58.frac 1 2))[i]? = some (Sr58.frac (A' i + B' i) (2 * Dn)) := fun i hi => by
        rw [hmix.eq]
        exact range_get hi
      generalize Sr80.mixed g.n (at_ g k) (at_ g l) (Sr58.frac 1 2) = mx at o hmix hmlen hmx
      refine ⟨_, rfl, b, _, rfl, hs, rfl, _, _, rfl, _, _, rfl, _, _, rfl, rfl, ?_⟩
      refine ⟨_, rfl, a, C, dx1, _, _, rfl, e11, T.cl, T.nS, boxF_s, _, rfl, s1', _, _, _, rfl, rfl, hS, mk, _, rfl, a, C, dx1, _, _, rfl, e11, T.cl, T.nS, boxF_s, _, rfl, s1', _, _, _, rfl, rfl, hS, ml, tk, tl, _, _, rfl, SqL.of ha1, SqL.of hb1, fun R newR => ?_⟩
      refine lc_zip (K := K) (a := tk) (b := tl) (xs := as.map V.ref) (ys := bs.map V.ref) (by rw [List.length_map, List.length_map, hla, hlb]) (MadeT (FrAt K) H R mx) (MadeT.start newR) (fun i H' e => ⟨e.same.seq (SqL.of ha1), e.same.seq (SqL.of hb1)⟩) ?_ ?_
      · rintro i x y t H' hx hy hv newt
        obtain ⟨p, hp, rfl⟩ := map_get hx
        obtain ⟨q, hq, rfl⟩ := map_get hy
        have hin' : i < g.n := by
          rw [← hla]
          exact (List.getElem?_eq_some_iff.mp hp).1
        obtain ⟨fx, efx, hfx⟩ := ListOf.nth ha2 hp
        obtain ⟨fy, efy, hfy⟩ := ListOf.nth hb2 hq
        have e1 : fx = Sr58.frac (A' i) Dn := by
          rw [hA.eq] at efx
          exact (Option.some.inj ((range_get (f := fun k => Sr58.frac (A' k) Dn) hin').symm.trans efx)).symm
        have e2 : fy = Sr58.frac (B' i) Dn := by
          rw [hB'.eq] at efy
          exact (Option.some.inj ((range_get (f := fun k => Sr58.frac (B' k) Dn) hin').symm.trans efy)).symm
        have s2 := same_upd (o := .tup [V.ref p, V.ref q]) newt
        have et : upd H' t (.tup [V.ref p, V.ref q]) t = some (.tup [V.ref p, V.ref q]) := upd_same
        generalize upd H' t (.tup [V.ref p, V.ref q]) = H2 at s2 et
        have sH2 := hv.same.trans s2
        have szx : Sz fx := by rw [e1]; exact EH.sz_frac hA.pos (Nat.lt_of_le_of_lt (hA.abs i hin') hD4) hD4
        have szy : Sz fy := by rw [e2]; exact EH.sz_frac hB'.pos (Nat.lt_of_le_of_lt (hB'.abs i hin') hD4) hD4
        have szp : Sz (Sr58.plus fx fy) := by
          rw [e1, e2, EH.plus_frac hA.pos]
          refine EH.sz_frac hA.pos (Nat.lt_of_le_of_lt (show _ ≤ 2 * 2 ^ 200 from ?_) (by decide)) hD4
          have h1 := hA.abs i hin'
          have h2 := hB'.abs i hin'
          have h3 : Dn ≤ 2 ^ 200 := Nat.le_of_lt hD
          omega
        have szh : Sz ⟨1, 2⟩ := ⟨by show 1 < 2 ^ 4400; decide, by show 2 < 2 ^ 4400; decide, by decide⟩
        refine ⟨t, _, rfl, SqT.of et, rfl, _, _, rfl, _, _, rfl, rfl, rfl, tY ?_⟩
        refine ⟨_, rfl, _, rfl, p, q, fx, fy, rfl, same_fr sH2 hfx, same_fr sH2 hfy, szx, szy, fun H3 z s3 hz => ?_⟩
        refine ⟨A0.half, z, ⟨1, 2⟩, _, rfl, G.halfAt _, hz, szh, szp, fun H4 r s4 hr' => ?_⟩
        have ee := hmx i hin'
        rw [← heq i hin', ← e1, ← e2] at ee
        exact hv.next kept_fr framedA_fr ((s2.trans s3).trans s4) hr' ee newR (by omega)
      · intro H1 hv
        rw [List.length_map, hla] at hv
        obtain ⟨s1, ms, m1, m2⟩ := hv.done hmlen
        have hlm : ms.length = g.n := (Paired.length m2).trans hmlen
        refine ⟨_, rfl, R, rfl, ⟨_, SqL.of m1⟩, fun D2 newD2 => ?_⟩
        refine lc_list (K := K) (a := R) (xs := ms.map V.ref) (Vals_ H1 D2 ((mx.map fun x => (x.d : Int)).map V.int)) (Vals_.start newD2) (fun i H' _ e => e.2.seq (SqL.of m1)) ?_ ?_
        · rintro i y H' hi hv2
          obtain ⟨r, hr', rfl⟩ := map_get hi
          obtain ⟨fx, efx, hfx⟩ := ListOf.nth m2 hr'
          have hfx' : SqT K H' r [.int fx.n, .int (fx.d : Int)] := same_sqT hv2.2 hfx
          obtain ⟨acc, r1, r2, r3⟩ := hv2.next (Same.refl _) (show _ = some (V.int (fx.d : Int)) by rw [List.getElem?_map, List.getElem?_map, efx]; rfl) newD2 (by rw [List.length_map, List.length_map, hmlen]; omega)
          exact ⟨rfl, tY ⟨_, rfl, r, _, _, _, rfl, rfl, hfx', rfl, acc, r1, r2, r3⟩⟩
        · intro H2 hv2
          obtain ⟨s2, h2⟩ := hv2.done (by rw [List.length_map, List.length_map, List.length_map, hmlen, hlm])
          refine ⟨D2, mx.map fun x => (x.d : Int), rfl, SqL.of h2, by rw [List.length_map, hmlen]; exact hn0, fun v hv1 hv2 => ?_⟩
          refine ⟨_, _, rfl, rfl, _, rfl, ?_⟩
          have s12 := s1.trans s2
          refine ite2 (fun c1 => ?_) (fun c1 => ?_)
          · have c1 : 100000 < v := of_decide_eq_true c1
            rw [if_neg] at o
            · exact ⟨_, rfl, raised Rd.t (o.raisedN (LamX.ExtN.of s12) (hT.ext s12) rfl)⟩
            · intro z
              rw [List.all_eq_true] at z
              obtain ⟨x, hx, e⟩ := List.mem_map.mp hv1
              have := of_decide_eq_true (z x hx)
              omega
          · have c1 : ¬ 100000 < v := fun z => c1 (decide_eq_true z)
            rw [if_pos] at o
            · obtain ⟨dx', l', sx, ss, g1, g2, g3⟩ := (hB.same s12).put ok
              obtain ⟨ix, gp⟩ := g3 m hm'
              obtain ⟨hB2, off⟩ := gp R mx (same_fracs s2 ⟨ms, m1, m2⟩) (hB.notin newR)
              refine ⟨_, rfl, _, rfl, a, C, dx', _, _, rfl, g1, T.cl, T.nS, boxF_s, _, rfl, sx, _, _, m.toNat, rfl, rfl, g2, ix, ?_⟩
              exact ⟨by show 1 ≤ sizeLine; decide, fun p newp => put_end o hB hT s12 off hB2 newp⟩
            · rw [List.all_eq_true]
              intro x hx
              have := hv2 _ (List.mem_map.mpr ⟨x, hx, rfl⟩)
              exact decide_eq_true (by omega)
    · rw [if_pos]
      rcases Classical.em (0 ≤ k ∧ k < 4) with z | z
      · rcases Classical.em (0 ≤ l ∧ l < 4) with z2 | z2
        · exact Or.inr (Or.inr (isK_no.mpr fun y => hn (inr3.mpr ⟨z, z2, y⟩)))
        · exact Or.inr (Or.inl (isK_no.mpr z2))
      · exact Or.inl (isK_no.mpr z)
end
end EW
end

/-! ## EwDo4 -/
section
set_option Elab.async false
set_option linter.all false
set_option maxRecDepth 100000
set_option maxHeartbeats 2000000
set_option autoImplicit false
set_option exponentiation.threshold 10000
/-! The operations that check, and compositions. -/
namespace EW
open PySem PySem.Spec PyProof.Rows L2
open Sr58 (Frac)
open Sr82 (Ground hangs at_ isP)
open Sr80 (isK)
open EH (GOk wayI cD)
local macro_rules | `(tactic| walk_at "rd") => `(tactic| repeat (first | refine ⟨rfl, ?_⟩ | apply Exists.intro | refine ⟨by assumption, ?_⟩))
abbrev s_check_plan : Stmt := top 84
theorem sc_check_plan : FnScope ["box", "numbers", "row", "k", "l", "denominator", "n", "plan"] ["box", "numbers", "row"] (defScope s_check_plan) := ⟨rfl, rfl, rfl, by decide +kernel, rfl, by decide +kernel, by decide +kernel⟩
abbrev s_check_potentials : Stmt := top 85
theorem sc_check_potentials : FnScope ["box", "numbers", "row", "value"] ["box", "numbers", "row"] (defScope s_check_potentials) := ⟨rfl, rfl, rfl, by decide +kernel, rfl, by decide +kernel, by decide +kernel⟩
abbrev s_compose_plans : Stmt := top 86
theorem sc_compose_plans : FnScope ["box", "numbers", "row", "before", "middle", "after", "slot", "costs", "first", "second"] ["box", "numbers", "row"] (defScope s_compose_plans) := ⟨rfl, rfl, rfl, by decide +kernel, rfl, by decide +kernel, by decide +kernel⟩
theorem matF_extN {K : PySem.W.Frag} {H H' : Hp} {a : Addr} {x : List (List Frac)} (e : LamX.ExtN H H') (h : MatFAt K H a x) : MatFAt K H' a x := by
  obtain ⟨as, h1, h2⟩ := h
  exact ⟨as, lst_extN e h1, Paired.mapP h2 fun _ _ q => fracs_extN e q⟩
section
variable {P : Program} {w : World} {K : PySem.W.Frag} {mg : Str → Option Value} {base : Heap} (B : Nb mg) {A0 : Ad} (G : Gs K mg A0) {P0 C CR : Addr} (T : BoxT K C)
include B T
theorem df_compose_plans {f : Addr} {fd : FuncData} (hm : mg "compose_plans" = some (.ref f)) (F : Fun K "compose_plans" "compose_plans" s_compose_plans f fd) (c_look_transport : Df P w K mg base (L2.CX P w) 5 "look_transport" (spLookT K C CR)) (c_distances : Df P w K mg base CX0 2 "distances" (spDist K))
    (c_optimal_plan : Df P w K mg base CX0 7 "optimal_plan" (spOptPlan K P0)) (c_composition : Df P w K mg base CX0 6 "composition" (spComp K)) (c_told_plan : Df P w K mg base CX0 6 "told_plan" (spToldP K)) : Df P w K mg base (L2.CX P w) 8 "compose_plans" (spOp K P0 C CR clBehind) := by
  refine df_of (F.okX sc_compose_plans (fun vs H Q E h => ?_) (fun cdv A outer s H vs Q E hr h => ⟨_,
(pss_cons (ps_expr (pe_cX c_look_transport hr (by decide) rfl (passes_call (takes_of rfl rfl rfl rfl) fun _ _ _ _ h => h) (pa_cons (pv 0) (pa_cons (pv 1) pa_nil))))
 (pss_cons (ps_asg (pe_lc (own := [("slot", 6)]) (g := gName 6) (tt := tYes) rfl sc_compose_plans.nd (pi_list (pv 1)) (blkOk_by (own := [("slot", 6)]) (N := ["box", "numbers", "row", "before", "middle", "after", "slot", "costs", "first", "second"]) (by kernel_rfl))
 (fun _ _ _ _ _ => (pg_name (i := 6) sc_compose_plans.nd rfl (Or.inl rfl))) (fun _ _ _ _ _ => pts_nil) (fun _ _ _ _ _ => (pe_ix (ixL (K := K)) (peF (K := K) (pv 0) rfl) (pv 6) (fun _ _ => rfl)))) (pg_unl rfl (pgs_cons (pg_name (i := 3) sc_compose_plans.nd rfl (Or.inl rfl)) (pgs_cons (pg_name (i := 4) sc_compose_plans.nd rfl (Or.inl rfl)) (pgs_cons (pg_name (i := 5) sc_compose_plans.nd rfl (Or.inl rfl)) pgs_nil)))))
 (pss_cons (ps_set (i := 7) sc_compose_plans.nd rfl (Or.inl rfl) (pe_c0 c_distances hr (by decide) rfl (pa_cons (pe_fld (pv 0) rfl) pa_nil)))
 (pss_cons (ps_set (i := 8) sc_compose_plans.nd rfl (Or.inl rfl) (pe_c0 c_optimal_plan hr (by decide) rfl (pa_cons (pv 7) (pa_cons (pv 3) (pa_cons (pv 4) pa_nil)))))
 (pss_cons (ps_set (i := 9) sc_compose_plans.nd rfl (Or.inl rfl) (pe_c0 c_optimal_plan hr (by decide) rfl (pa_cons (pv 7) (pa_cons (pv 4) (pa_cons (pv 5) pa_nil)))))
 (pss_one (ps_ret (pe_c0 c_told_plan hr (by decide) rfl (pa_cons (pv 7) (pa_cons (pe_c0 c_composition hr (by decide) rfl (pa_cons (pv 8) (pa_cons (pv 9) (pa_cons (pv 4) pa_nil)))) pa_nil))))))))))
   , ?_⟩)) hm F.kp (F.binds fun _ _ _ _ _ _ us hl => match us, hl with | [_, _, _], _ => rfl)
  · obtain ⟨a, b, d, g, D, ns, row, c, rfl, _⟩ := h
    rfl
  · obtain ⟨a, b, d, g, D, ns, row, c, rfl, hB, ok, hs, hrow, hT, ⟨k, l, m, rfl, rfl⟩, _, _, _, o⟩ := h
    have o : OpOut K P0 C CR a g D H Q E (none, if isK k = false ∨ isK l = false ∨ isK m = false then Sr82.say (-2) else if hangs g.n g.g = false then Sr82.say (-33) else Sr82.tellPlan g.n (Sr82.dist g.n g.g) (Sr80.behind g.n (at_ g l) (Sr82.best g.n (Sr82.dist g.n g.g) (at_ g k) (at_ g l)) (Sr82.best g.n (Sr82.dist g.n g.g) (at_ g l) (at_ g m)))) := o
    have hn6 := ok.n6
    refine ⟨_, rfl, _, rfl, a, b, g, D, _, rfl, hB, ok, hs, by show 0 < 3; decide, fun hin hh H1 s1 => ?_, fun hn => o.raised hT ?_, fun hin hh => ?_⟩
    · obtain ⟨hk, hl, hm'⟩ := inr3.mp hin
      rw [isK_iff.mpr hk, isK_iff.mpr hl, isK_iff.mpr hm', if_neg (by simp), hh, if_neg (by decide)] at o
      have T1 := hT.ext s1
      obtain ⟨dx, l', s', ss, e1, hS, hslot⟩ := (hB.same s1).slot ok
      obtain ⟨dx2, l2, s2', e12, hM⟩ := (hB.same s1).mx
      rw [e1] at e12
      cases e12
      obtain ⟨tk, mk, htk⟩ := hslot k hk
      obtain ⟨tl, ml, htl⟩ := hslot l hl
      obtain ⟨tm, mm, htm⟩ := hslot m hm'
      obtain ⟨D1, L1, W1, hA1, hL1, hW1, hD1, hRun1, hPart1⟩ := EH.trans_in ok hh (ok.slot (isK_iff.mpr hk)).1 (ok.slot (isK_iff.mpr hl)).1
      obtain ⟨D2, L2', W2, hA2, hL2, hW2, hD2, hRun2, hPart2⟩ := EH.trans_in ok hh (ok.slot (isK_iff.mpr hl)).1 (ok.slot (isK_iff.mpr hm')).1
      obtain ⟨Lm, M, hMd, hLm⟩ := (ok.slot (isK_iff.mpr hl)).1
      refine ⟨_, rfl, b, rfl, ⟨_, s1.seq hs⟩, fun R newR => ?_⟩
      refine lc_list (K := K) (a := b) (xs := [k, l, m].map V.int) (Vals_ H1 R [.ref tk, .ref tl, .ref tm]) (Vals_.start newR) (fun i H' _ e => e.2.seq (s1.seq hs)) ?_ ?_
      · rintro i y H' hi hv
        obtain ⟨z, t, q1, q2, q3⟩ : ∃ (z : Int) (t : Addr), atI (ss.map V.ref) z = some (.ref t) ∧ y = .int z ∧ ([.ref tk, .ref tl, .ref tm] : List V)[i]? = some (.ref t) := by
          match i, hi with
          | 0, hi => cases hi; exact ⟨k, tk, mk, rfl, rfl⟩
          | 1, hi => cases hi; exact ⟨l, tl, ml, rfl, rfl⟩
          | 2, hi => cases hi; exact ⟨m, tm, mm, rfl, rfl⟩
          | i + 3, hi => simp at hi
        subst q2
        obtain ⟨acc, r1, r2, r3⟩ := hv.next (Same.refl _) q3 newR (by show 3 ≤ 1000; decide)
        exact ⟨rfl, tY ⟨_, rfl, a, C, dx, _, _, rfl, hv.2 _ _ e1, T.cl, T.nS, boxF_s, _, rfl, s', _, _, _, rfl, rfl, hv.2.seq hS, q1, acc, r1, r2, r3⟩⟩
      · intro H2 hv
        obtain ⟨s2, h2⟩ := hv.done rfl
        refine ⟨R, _, rfl, SqL.of h2, rfl, _, _, rfl, _, _, rfl, _, _, rfl, rfl, ?_⟩
        refine ⟨_, rfl, a, C, dx, _, _, rfl, s2 _ _ e1, T.cl, T.nL, boxF_l, l', g.n, wayI g.g, rfl, hM.same s2, by omega, fun H3 q rs s3 newq newr hq => ?_⟩
        have hMq := dist_mx (K := K) ok hh hq
        have s23 := s2.trans s3
        refine ⟨_, rfl, _, rfl, _, rfl, q, tk, tl, g.n, cD g, at_ g k, at_ g l, D1, L1, W1, _, EH.PlanIs g (at_ g k) (at_ g l) D1, rfl, ⟨hMq, same_fracs s23 htk, same_fracs s23 htl, by omega, hA1, T1.ext s23, hRun1, hPart1⟩, ok.n0, fun p' hp' => EH.plan_is ok hh hL1 hW1 hp', fun H4 t1 p1 eN4 T4 hp1 ht1 => ?_⟩
        refine ⟨_, rfl, _, rfl, _, rfl, q, tl, tm, g.n, cD g, at_ g l, at_ g m, D2, L2', W2, _, EH.PlanIs g (at_ g l) (at_ g m) D2, rfl, ⟨hMq.extN eN4, fracs_extN eN4 (same_fracs s23 htl), fracs_extN eN4 (same_fracs s23 htm), by omega, hA2, T4, hRun2, hPart2⟩, ok.n0, fun p' hp' => EH.plan_is ok hh hL2 hW2 hp', fun H5 t2 p2 eN5 T5 hp2 ht2 => ?_⟩
        obtain ⟨E', Z, hE, hE4, hZ, hbeh, cok, hXF⟩ := EH.comp_is hn6 hA1.pos hA2.pos hD1 hD2 (P := p1) (Q := p2) (fun i j hi hj => by have := hp1.2 i j hi hj; omega) (fun i j hi hj => by have := hp2.2 i j hi hj; omega) hMd hLm
        have hA1p := hA1.pos
        have fm : FracsAt K H5 tl ((List.range g.n).map fun j => Sr58.frac (M j) Lm) := by
          rw [← Spr_range hMd]
          exact fracs_extN eN5 (fracs_extN eN4 (same_fracs s23 htl))
        refine ⟨_, rfl, _, rfl, _, rfl, _, rfl, t1, t2, tl, g.n, _, _, _, rfl, matF_extN eN5 ht1, ht2, fm, by omega, cok, fun H6 z s6 newz hz => ?_⟩
        rw [hXF] at hz
        obtain ⟨h3, h4⟩ := EH.told_cost ok hh hE hE4 (M := 6 * 2 ^ 1100) (by decide) hZ
        refine ⟨q, z, g.n, cD g, fun i j => Sr58.frac (Z i j) E', rfl, ((hMq.extN eN4).extN eN5).same s6, hz, hn6, h3, fun H7 r s7 newr hr' => ?_⟩
        have s67 := s6.trans s7
        have e : toldP g.n (cD g) (fun i j => Sr58.frac (Z i j) E') = ((g.n * g.n : Nat) : Int) :: ((EH.mt E' g.n Z).flatten.flatMap Sr66.fr ++ Sr66.fr (Sr82.cost g.n (Sr82.dist g.n g.g) (EH.mt E' g.n Z))) := by
          unfold toldP
          rw [h4]
          rfl
        rw [← hp1.1, ← hp2.1, hbeh] at o
        refine o.give hB ((((LamX.ExtN.of (s1.trans s23)).trans eN4).trans eN5).trans (LamX.ExtN.of s67)) (T5.ext s67) rfl (newp_of ((((LamX.ExtN.of (s1.trans s23)).trans eN4).trans eN5).trans (LamX.ExtN.of s6)) newr) ?_
        show IntsL H7 r (((g.n * g.n : Nat) : Int) :: ((EH.mt E' g.n Z).flatten.flatMap Sr66.fr ++ Sr66.fr (Sr82.cost g.n (Sr82.dist g.n g.g) (EH.mt E' g.n Z))))
        rw [← e]
        exact hr'
    · rw [if_pos]
      rcases Classical.em (0 ≤ k ∧ k < 4) with z | z
      · rcases Classical.em (0 ≤ l ∧ l < 4) with z2 | z2
        · exact Or.inr (Or.inr (isK_no.mpr fun y => hn (inr3.mpr ⟨z, z2, y⟩)))
        · exact Or.inr (Or.inl (isK_no.mpr z2))
      · exact Or.inl (isK_no.mpr z)
    · obtain ⟨hk, hl, hm'⟩ := inr3.mp hin
      rw [isK_iff.mpr hk, isK_iff.mpr hl, isK_iff.mpr hm', if_neg (by simp), hh, if_pos rfl] at o
      exact o.raised hT rfl
include G
theorem df_check_potentials {f : Addr} {fd : FuncData} (hm : mg "check_potentials" = some (.ref f)) (F : Fun K "check_potentials" "check_potentials" s_check_potentials f fd) (c_look_slots : Df P w K mg base (L2.CX P w) 3 "look_slots" (spLookS K CR)) (c_look_row : Df P w K mg base (L2.CX P w) 3 "look_row" (spLookR K CR))
    (c_look_connected : Df P w K mg base (L2.CX P w) 4 "look_connected" (spLookC K C CR)) (c_points : DfM P w K mg base CX0 1 C "points" (spPoints K C)) (c_value_of : Df P w K mg base CX0 4 "value_of" (spValue K)) (c_are_feasible : Df P w K mg base CX0 2 "are_feasible" (spFeasible K)) (c_distances : Df P w K mg base CX0 2 "distances" (spDist K)) (c_told : Df P w K mg base CX0 1 "told" (spTold K)) :
    Df P w K mg base (L2.CX P w) 5 "check_potentials" (spOp K P0 C CR clFair) := by
  refine df_of (F.okX sc_check_potentials (fun vs H Q E h => ?_) (fun cdv A outer s H vs Q E hr h => ⟨_,
(pss_cons (ps_expr (pe_cX c_look_slots hr (by decide) rfl (passes_call (takes_of rfl rfl rfl rfl) fun _ _ _ _ h => h) (pa_cons (pv 1) pa_nil)))
 (pss_cons (ps_expr (pe_cX c_look_row hr (by decide) rfl (passes_call (takes_of rfl rfl rfl rfl) fun _ _ _ _ h => h) (pa_cons (pv 2) (pa_cons (pe_mm0 c_points T.cl hr (by decide) (pv 0)) (pa_cons (pe_op op_sub pe_int (pe_gk rfl G.MOST_POTENTIAL_)) (pa_cons (pe_gk rfl G.MOST_POTENTIAL_) pa_nil))))))
 (pss_cons (ps_expr (pe_cX c_look_connected hr (by decide) rfl (passes_call (takes_of rfl rfl rfl rfl) fun _ _ _ _ h => h) (pa_cons (pv 0) pa_nil)))
 (pss_cons (ps_set (i := 3) sc_check_potentials.nd rfl (Or.inl rfl) (pe_c0 c_value_of hr (by decide) rfl (pa_cons (pv 2) (pa_cons (pe_ix ix_list (pe_fld (pv 0) rfl) (pe_ix ix_list (pv 1) pe_int (fun _ _ => rfl)) (fun _ _ => rfl)) (pa_cons (pe_ix ix_list (pe_fld (pv 0) rfl) (pe_ix ix_list (pv 1) pe_int (fun _ _ => rfl)) (fun _ _ => rfl)) pa_nil)))))
 (pss_one (ps_ret (pe_op op_cat (pe_lst (pa_cons (pe_callTy call_int1 (by rfl) B.int_ (by decide +kernel) (pa_cons (pe_c0 c_are_feasible hr (by decide) rfl (pa_cons (pe_c0 c_distances hr (by decide) rfl (pa_cons (pe_fld (pv 0) rfl) pa_nil)) (pa_cons (pv 2) pa_nil))) pa_nil)) pa_nil)) (pe_c0 c_told hr (by decide) rfl (pa_cons (pe_lst (pa_cons (pv 3) pa_nil)) pa_nil)))))))))
   , ?_⟩)) hm F.kp (F.binds fun _ _ _ _ _ _ us hl => match us, hl with | [_, _, _], _ => rfl)
  · obtain ⟨a, b, d, g, D, ns, row, c, rfl, _⟩ := h
    rfl
  · obtain ⟨a, b, d, g, D, ns, row, c, rfl, hB, ok, hs, hrow, hT, ⟨k, l, rfl, rfl⟩, _, _, _, o⟩ := h
    have o : OpOut K P0 C CR a g D H Q E (none, if isK k = false ∨ isK l = false then Sr82.say (-2) else if row.length ≠ g.n ∨ row.any (fun x => decide (x < -999) || decide (999 < x)) then Sr82.say (-22) else if hangs g.n g.g = false then Sr82.say (-33) else ⟨Sr66.bit (Sr82.fair g.n (Sr82.dist g.n g.g) row), Sr66.fr (Sr82.gain g.n row (at_ g k) (at_ g l))⟩) := o
    have hn0 := ok.n0
    have hn6 := ok.n6
    obtain ⟨dx, l', s', ss, e1, hS, hslot⟩ := hB.slot ok
    obtain ⟨dx2, l2, s2', e12, hM⟩ := hB.mx
    rw [e1] at e12
    cases e12
    refine ⟨_, rfl, b, _, rfl, hs, by show 0 < 2; decide, fun hin => ?_, fun hn => o.raised hT (trans_no (g := g) hn)⟩
    rw [trans_yes (g := g) hin] at o
    obtain ⟨hk, hl⟩ := inr2.mp hin
    obtain ⟨tk, mk, htk⟩ := hslot k hk
    obtain ⟨tl, ml, htl⟩ := hslot l hl
    have bad : RowOk row (g.n : Int) (0 - 999) 999 ↔ ¬ (row.length ≠ g.n ∨ (row.any fun x => decide (x < -999) || decide (999 < x)) = true) := by
      unfold RowOk
      rw [List.any_eq_true]
      constructor
      · rintro ⟨h1, h2⟩ (h3 | ⟨x, hx, h3⟩)
        · omega
        · have := h2 x hx
          rw [Bool.or_eq_true, decide_eq_true_eq, decide_eq_true_eq] at h3
          omega
      · intro h
        refine ⟨?_, fun x hx => ?_⟩
        · rcases Nat.lt_trichotomy row.length g.n with z | z | z
          · exact absurd (Or.inl (by omega)) h
          · omega
          · exact absurd (Or.inl (by omega)) h
        · rcases Classical.em (0 - 999 ≤ x ∧ x ≤ 999) with z | z
          · exact z
          · refine absurd (Or.inr ⟨x, hx, ?_⟩) h
            rw [Bool.or_eq_true, decide_eq_true_eq, decide_eq_true_eq]
            omega
    refine ⟨_, rfl, _, rfl, a, dx, _, rfl, e1, boxF_no, a, g, D, rfl, hB, _, _, rfl, rfl, d, _, _, 999, row, rfl, hrow, by omega, fun hro => ?_, fun hno => ?_⟩
    · rw [if_neg (bad.mp hro)] at o
      have hlen : row.length = g.n := by have := hro.1; omega
      refine ⟨_, rfl, a, g, D, rfl, hB, ok, fun hh H1 s1 => ?_, fun hh => ?_⟩
      · rw [hh, if_neg (by decide)] at o
        have hbd : ∀ i, i < g.n → (row.getD i 0).natAbs < 1000000 := fun i hi => by
          have hlt : i < row.length := by omega
          have := hro.2 row[i] (List.getElem_mem hlt)
          rw [List.getD_eq_getElem?_getD, List.getElem?_eq_getElem hlt]
          show row[i].natAbs < 1000000
          omega
        obtain ⟨D2, A2, B2, hA2, hB2, vok, hv⟩ := EH.value_is ok.n6 (ok.slot (isK_iff.mpr hk)).1 (ok.slot (isK_iff.mpr hl)).1 row hbd
        have fk : FracsAt K H1 tk ((List.range g.n).map fun i => Sr58.frac (A2 i) D2) := by
          rw [← Spr_range hA2]
          exact same_fracs s1 htk
        have fl : FracsAt K H1 tl ((List.range g.n).map fun i => Sr58.frac (B2 i) D2) := by
          rw [← Spr_range hB2]
          exact same_fracs s1 htl
        have rd : SqL K H d (rowI g.n fun i => row.getD i 0) := by
          unfold rowI
          rw [← list_range hlen]
          exact hrow
        refine ⟨_, rfl, _, rfl, a, C, dx, _, _, rfl, s1 _ _ e1, T.cl, T.nS, boxF_s, _, rfl, b, _, _, _, rfl, rfl, s1.seq hs, rfl, s', _, _, _, rfl, rfl, s1.seq hS, mk, _, rfl, a, C, dx, _, _, rfl, s1 _ _ e1, T.cl, T.nS, boxF_s, _, rfl, b, _, _, _, rfl, rfl, s1.seq hs, rfl, s', _, _, _, rfl, rfl, s1.seq hS, ml, ?_⟩
        refine ⟨d, tk, tl, g.n, fun i => row.getD i 0, _, _, rfl, s1.seq rd, fk, fl, by omega, vok, fun H2 v s2 hv2 => ?_⟩
        rw [hv] at hv2
        have s12 := s1.trans s2
        refine ⟨_, rfl, a, C, dx, _, _, rfl, s12 _ _ e1, T.cl, T.nL, boxF_l, l', g.n, wayI g.g, rfl, hM.same s12, by omega, fun H3 q rs s3 newq newr hq => ?_⟩
        refine ⟨_, rfl, q, d, g.n, cD g, fun i => row.getD i 0, rfl, dist_mx ok hh hq, (s12.trans s3).seq rd, by omega, fun H4 s4 => ?_⟩
        refine .inr ⟨_, rfl, by show 1 ≤ sizeLine; decide, fun p newp => ?_⟩
        have ef : ((Sr80.pairs g.n).all fun y => decide (row.getD y.2 0 - row.getD y.1 0 ≤ cD g y.1 y.2)) = Sr82.fair g.n (Sr82.dist g.n g.g) row := rfl
        rw [ef]
        have s5 := same_upd (o := .lst [V.int (if Sr82.fair g.n (Sr82.dist g.n g.g) row = true then 1 else 0)]) newp
        have ep : upd H4 p (.lst [V.int (if Sr82.fair g.n (Sr82.dist g.n g.g) row = true then 1 else 0)]) p = some (.lst [V.int (if Sr82.fair g.n (Sr82.dist g.n g.g) row = true then 1 else 0)]) := upd_same
        generalize upd H4 p (.lst [V.int (if Sr82.fair g.n (Sr82.dist g.n g.g) row = true then 1 else 0)]) = H5 at s5 ep
        have s35 := (s3.trans s4).trans s5
        refine ⟨_, rfl, by show 1 ≤ sizeLine; decide, fun z newz => ?_⟩
        have s6 := same_upd (o := .lst [V.ref v]) newz
        have ez : upd H5 z (.lst [V.ref v]) z = some (.lst [V.ref v]) := upd_same
        generalize upd H5 z (.lst [V.ref v]) = H6 at s6 ez
        refine ⟨z, [_], rfl, ⟨[v], ez, .cons (same_fr (s35.trans s6) hv2) .nil⟩, by show 1 ≤ 100; decide, fun H7 y s7 newy hy => ?_⟩
        have s67 := s6.trans s7
        refine ⟨p, y, _, _, rfl, rfl, s67 _ _ ep, hy, by show 1 + 2 ≤ sizeLine; decide, fun r newr => ?_⟩
        have s8 := same_upd (o := .lst ([V.int (if Sr82.fair g.n (Sr82.dist g.n g.g) row = true then 1 else 0)] ++ ([Sr82.gain g.n row (at_ g k) (at_ g l)].flatMap Sr66.fr).map V.int)) newr
        have sAll := ((s12.trans s35).trans s67).trans s8
        refine o.give hB (LamX.ExtN.of sAll) (hT.ext sAll) rfl (newp_of (LamX.ExtN.of ((s12.trans s35).trans s67)) newr) ?_
        unfold IntsL
        rw [upd_same]
        rfl
      · rw [hh, if_pos rfl] at o
        exact o.raised hT rfl
    · rw [if_pos (Classical.not_not.mp fun z => hno (bad.mpr z))] at o
      exact o.raised hT rfl
theorem df_check_plan {f : Addr} {fd : FuncData} (hm : mg "check_plan" = some (.ref f)) (F : Fun K "check_plan" "check_plan" s_check_plan f fd) (R : RefD P w K mg base CR) (c_look_slots : Df P w K mg base (L2.CX P w) 3 "look_slots" (spLookS K CR))
    (c_look_connected : Df P w K mg base (L2.CX P w) 4 "look_connected" (spLookC K C CR)) (c_points : DfM P w K mg base CX0 1 C "points" (spPoints K C)) (c_matrix_of : Df P w K mg base CX0 3 "matrix_of" (spMatrixOf K)) (c_is_plan : Df P w K mg base CX0 6 "is_plan" (spIsPlan K)) (c_cost_of : Df P w K mg base CX0 5 "cost_of" (spCost K)) (c_distances : Df P w K mg base CX0 2 "distances" (spDist K)) (c_told : Df P w K mg base CX0 1 "told" (spTold K)) :
    Df P w K mg base (L2.CX P w) 7 "check_plan" (spOp K P0 C CR clTest) := by
  refine df_of (F.okX sc_check_plan (fun vs H Q E h => ?_) (fun cdv A outer s H vs Q E hr h => ⟨_,
(pss_cons (ps_asg (pv 1) (pg_unl rfl (pgs_cons (pg_name (i := 3) sc_check_plan.nd rfl (Or.inl rfl)) (pgs_cons (pg_name (i := 4) sc_check_plan.nd rfl (Or.inl rfl)) (pgs_cons (pg_name (i := 5) sc_check_plan.nd rfl (Or.inl rfl)) pgs_nil)))))
 (pss_cons (ps_expr (pe_cX c_look_slots hr (by decide) rfl (passes_call (takes_of rfl rfl rfl rfl) fun _ _ _ _ h => h) (pa_cons (pe_lst (pa_cons (pv 3) (pa_cons (pv 4) pa_nil))) pa_nil)))
 (pss_cons (ps_set (i := 6) sc_check_plan.nd rfl (Or.inl rfl) (pe_mm0 c_points T.cl hr (by decide) (pv 0)))
 (pss_cons (ps_if (PW.pt (pw_or (pt_cmpR op_lt (pv 5) pe_int (nomark _)) (pw_or1 (pt_cmpR op_ne (pe_callB call_len_seq (by rfl) B.len_ (by decide +kernel) (pa_cons (pv 2) pa_nil)) (pe_op op_mulW (pv 6) (pv 6)) (nomark _))))) (pss_one (ps_raise rfl (takes_of rfl rfl rfl rfl) (pmk_ref R hr (by decide) rfl (pa_cons (pe_un un_neg pe_int) pa_nil)))) pss_nil)
 (pss_cons (ps_expr (pe_cX c_look_connected hr (by decide) rfl (passes_call (takes_of rfl rfl rfl rfl) fun _ _ _ _ h => h) (pa_cons (pv 0) pa_nil)))
 (pss_cons (ps_set (i := 7) sc_check_plan.nd rfl (Or.inl rfl) (pe_c0 c_matrix_of hr (by decide) rfl (pa_cons (pv 2) (pa_cons (pv 6) (pa_cons (pv 5) pa_nil)))))
 (pss_cons (ps_if (pt_not (pt_val (pe_c0 c_is_plan hr (by decide) rfl (pa_cons (pv 7) (pa_cons (pe_ix ix_list (pe_fld (pv 0) rfl) (pv 3) (fun _ _ => rfl)) (pa_cons (pe_ix ix_list (pe_fld (pv 0) rfl) (pv 4) (fun _ _ => rfl)) pa_nil)))))) (pss_one (ps_ret (pe_lst (pa_cons pe_int pa_nil)))) pss_nil)
 (pss_one (ps_ret (pe_op op_cat (pe_lst (pa_cons pe_int pa_nil)) (pe_c0 c_told hr (by decide) rfl (pa_cons (pe_lst (pa_cons (pe_c0 c_cost_of hr (by decide) rfl (pa_cons (pe_c0 c_distances hr (by decide) rfl (pa_cons (pe_fld (pv 0) rfl) pa_nil)) (pa_cons (pv 7) pa_nil))) pa_nil)) pa_nil))))))))))))
   , ?_⟩)) hm F.kp (F.binds fun _ _ _ _ _ _ us hl => match us, hl with | [_, _, _], _ => rfl)
  · obtain ⟨a, b, d, g, D, ns, row, c, rfl, _⟩ := h
    rfl
  · obtain ⟨a, b, d, g, D, ns, row, c, rfl, hB, ok, hs, hrow, hT, ⟨k, l, e, rfl, rfl⟩, hbn, hbr, _, o⟩ := h
    have o : OpOut K P0 C CR a g D H Q E (none, if isK k = false ∨ isK l = false then Sr82.say (-2) else if e < 1 ∨ row.length ≠ g.n * g.n then Sr82.say (-22) else if hangs g.n g.g = false then Sr82.say (-33) else if Sr80.isPlan g.n (at_ g k) (at_ g l) (Sr80.readPlan g.n e row) = false then Sr82.say 0 else ⟨1, Sr66.fr (Sr82.cost g.n (Sr82.dist g.n g.g) (Sr80.readPlan g.n e row))⟩) := o
    have hn0 := ok.n0
    have hn6 := ok.n6
    refine ⟨_, rfl, b, _, rfl, hs, rfl, _, _, rfl, _, _, rfl, _, _, rfl, rfl, ?_⟩
    refine ⟨_, rfl, _, rfl, by show 2 ≤ sizeLine; decide, fun p newp => ?_⟩
    have s1 := same_upd (o := .lst [V.int k, V.int l]) newp
    have ep : upd H p (.lst [V.int k, V.int l]) p = some (.lst ([k, l].map V.int)) := upd_same
    generalize upd H p (.lst [V.int k, V.int l]) = H1 at s1 ep
    have T1 := hT.ext s1
    have hB1 := hB.same s1
    have hrow1 := s1.seq hrow
    refine ⟨p, [k, l], rfl, SqL.of ep, by show 0 < 2; decide, fun hin => ?_, fun hn => o.raisedN (LamX.ExtN.of s1) T1 (trans_no (g := g) hn)⟩
    rw [trans_yes (g := g) hin] at o
    obtain ⟨hk, hl⟩ := inr2.mp hin
    obtain ⟨dx, l', s', ss, e1, hS, hslot⟩ := hB1.slot ok
    obtain ⟨dx2, l2, s2', e12, hM⟩ := hB1.mx
    rw [e1] at e12
    cases e12
    obtain ⟨tk, mk, htk⟩ := hslot k hk
    obtain ⟨tl, ml, htl⟩ := hslot l hl
    refine ⟨_, rfl, a, dx, _, rfl, e1, boxF_no, a, g, D, rfl, hB1, ?_⟩
    refine ⟨_, rfl, _, _, rfl, rfl, _, rfl, ?_⟩
    have refuse : (e < 1 ∨ row.length ≠ g.n * g.n) → Raised CR H1 E (-22) := fun z => by
      rw [if_pos z] at o
      exact o.raisedN (LamX.ExtN.of s1) T1 rfl
    refine ite2 (fun c1 => ?_) (fun c1 => ?_)
    · refine ite2 (fun _ => ?_) (fun z => absurd rfl z)
      exact ⟨_, rfl, raised R.t (refuse (Or.inl (of_decide_eq_true c1)))⟩
    have c1 : ¬ e < 1 := fun z => c1 (decide_eq_true z)
    refine ⟨_, rfl, d, _, rfl, .inl hrow1, _, rfl, _, rfl, _, _, rfl, rfl, mul_small (by omega) (by omega), ?_⟩
    rw [List.length_map]
    refine ⟨rfl, _, rfl, ?_⟩
    refine ite2 (fun c2 => ?_) (fun c2 => ?_)
    · refine ⟨_, rfl, raised R.t (refuse (Or.inr fun z => ?_))⟩
      rw [z, Int.natCast_mul] at c2
      simp at c2
    have c2 : row.length = g.n * g.n := by
      rcases Classical.em ((row.length : Int) = (g.n : Int) * (g.n : Int)) with z | z
      · rw [← Int.natCast_mul] at z
        omega
      · exact absurd (by simp [z]) c2
    rw [if_neg (by omega)] at o
    have he31 : e ≤ 2147483647 := (hbn e (by simp)).2
    refine ⟨_, rfl, a, g, D, rfl, hB1, ok, fun hh H2 s2 => ?_, fun hh => ?_⟩
    · rw [hh, if_neg (by decide)] at o
      have hD0 : 0 < e.toNat := by omega
      have hD2 : e.toNat < 2 ^ 4400 := Nat.lt_of_le_of_lt (show _ ≤ 2147483647 by omega) (by decide)
      obtain ⟨habs, hrt, hct⟩ := EH.read_ok (n := g.n) hn6 (e := e) (by omega) he31 (p := row) hbr
      have s12 := s1.trans s2
      have hrow2 : SqL K H2 d (rowI (g.n * g.n) fun i => row.getD i 0) := by
        unfold rowI
        rw [← list_range c2]
        exact s12.seq hrow
      refine ⟨_, rfl, _, rfl, _, rfl, d, g.n, e.toNat, fun i => row.getD i 0, by rw [nat_of (show 0 ≤ e by omega)]; rfl, hrow2, by omega, hD0, hD2, fun H3 q s3 newq hq => ?_⟩
      have s23 := s2.trans s3
      have htk3 := same_fracs s23 htk
      have htl3 := same_fracs s23 htl
      obtain ⟨L1, A1, hA1, _⟩ := (ok.slot (isK_iff.mpr hk)).1
      obtain ⟨L2, A2, hA2, _⟩ := (ok.slot (isK_iff.mpr hl)).1
      refine ⟨_, rfl, _, rfl, a, C, dx, _, _, rfl, s23 _ _ e1, T.cl, T.nS, boxF_s, _, rfl, s', _, _, _, rfl, rfl, s23.seq hS, mk, _, rfl, a, C, dx, _, _, rfl, s23 _ _ e1, T.cl, T.nS, boxF_s, _, rfl, s', _, _, _, rfl, rfl, s23.seq hS, ml, ?_⟩
      refine ⟨q, tk, tl, g.n, _, _, _, rfl, hq, htk3, htl3, hn0, by omega, fun i _ => hrt i, fun j _ => hct j, fun H4 r s4 hr' => ⟨r, rfl, ?_⟩⟩
      have hr2 : r = Sr80.isPlan g.n (at_ g k) (at_ g l) (Sr80.readPlan g.n e row) := by
        rw [EH.read_is]
        exact Bool.eq_iff_iff.mpr (hr'.trans (EH.isPlan_is hA1.len hA2.len _).symm)
      rw [← hr2] at o
      have s24 := s23.trans s4
      refine ite2 (fun c3 => ?_) (fun c3 => ?_)
      · have c3 : r = false := by
          cases r with
          | false => rfl
          | true => exact absurd c3 (by decide)
        rw [c3, if_pos rfl] at o
        refine ⟨by show 1 ≤ sizeLine; decide, fun z newz => ?_⟩
        have s5 := (s1.trans s24).trans (same_upd (o := .lst [V.int 0]) newz)
        refine o.give hB (LamX.ExtN.of s5) (hT.ext s5) rfl (newp_of (LamX.ExtN.of (s1.trans s24)) newz) ?_
        unfold IntsL
        rw [upd_same]
        rfl
      · have c3 : r = true := by
          cases r with
          | true => rfl
          | false => exact absurd rfl c3
        rw [c3, if_neg (by decide)] at o
        refine ⟨by show 1 ≤ sizeLine; decide, fun z newz => ?_⟩
        have s5 := same_upd (o := .lst [V.int 1]) newz
        have ez : upd H4 z (.lst [V.int 1]) z = some (.lst [V.int 1]) := upd_same
        generalize upd H4 z (.lst [V.int 1]) = H5 at s5 ez
        have s25 := s24.trans s5
        refine ⟨_, rfl, a, C, dx, _, _, rfl, s25 _ _ e1, T.cl, T.nL, boxF_l, l', g.n, wayI g.g, rfl, hM.same s25, by omega, fun H6 y rs s6 newy newr hy => ?_⟩
        obtain ⟨h3, h4⟩ := EH.told_cost ok hh hD0 hD2 (M := 2147483648) (by decide) (q := fun i j => row.getD (i * g.n + j) 0) fun i j _ _ => habs i j
        have s46 := (s4.trans s5).trans s6
        refine ⟨_, rfl, y, q, g.n, cD g, _, rfl, dist_mx ok hh hy, same_matF s46 hq, by omega, h3.sz, h3.pr, h3.ps, fun H7 t s7 ht => ?_⟩
        rw [h4] at ht
        refine ⟨by show 1 ≤ sizeLine; decide, fun u newu => ?_⟩
        have s8 := same_upd (o := .lst [V.ref t]) newu
        have eu : upd H7 u (.lst [V.ref t]) u = some (.lst [V.ref t]) := upd_same
        generalize upd H7 u (.lst [V.ref t]) = H8 at s8 eu
        refine ⟨u, [_], rfl, ⟨[t], eu, .cons (same_fr s8 ht) .nil⟩, by show 1 ≤ 100; decide, fun H9 x s9 newx hx => ?_⟩
        have s69 := ((s6.trans s7).trans s8).trans s9
        refine ⟨z, x, _, _, rfl, rfl, s69 _ _ ez, hx, by show 1 + 2 ≤ sizeLine; decide, fun v newv => ?_⟩
        have s10 := same_upd (o := .lst ([V.int 1] ++ ([Sr82.cost g.n (Sr82.dist g.n g.g) (EH.mt e.toNat g.n fun i j => row.getD (i * g.n + j) 0)].flatMap Sr66.fr).map V.int)) newv
        have sAll := ((s1.trans s25).trans s69).trans s10
        refine o.give hB (LamX.ExtN.of sAll) (hT.ext sAll) rfl (newp_of (LamX.ExtN.of ((s1.trans s25).trans s69)) newv) ?_
        unfold IntsL
        rw [upd_same]
        rfl
    · rw [hh, if_pos rfl] at o
      exact o.raisedN (LamX.ExtN.of s1) T1 rfl
end
end EW
end

/-! ## EwTp1 -/
section
set_option Elab.async false
set_option linter.all false
set_option maxRecDepth 100000
set_option maxHeartbeats 2000000
set_option autoImplicit false
/-! Calls and desks. -/
namespace EW
open PySem PySem.Spec PyProof.Rows L2
open Sr58 (Frac)
open Sr82 (Ground)
open EH (GOk CallAtI)
local macro_rules | `(tactic| walk_at "rd") => `(tactic| repeat (first | refine ⟨rfl, ?_⟩ | apply Exists.intro | refine ⟨by assumption, ?_⟩))
abbrev s_Call___init__ : Stmt := inClass (top 94) 0
theorem sc_Call___init__ : FnScope ["self", "operation", "numbers", "row", "end"] ["self", "operation", "numbers", "row", "end"] (defScope s_Call___init__) := ⟨rfl, rfl, rfl, by decide +kernel, rfl, by decide +kernel, by decide +kernel⟩
abbrev s_call_at : Stmt := top 95
theorem sc_call_at : FnScope ["calls", "at", "many", "has_row", "end", "numbers"] ["calls", "at"] (defScope s_call_at) := ⟨rfl, rfl, rfl, by decide +kernel, rfl, by decide +kernel, by decide +kernel⟩
abbrev s_Desk___init__ : Stmt := inClass (top 96) 0
theorem sc_Desk___init__ : FnScope ["self"] ["self"] (defScope s_Desk___init__) := ⟨rfl, rfl, rfl, by decide +kernel, rfl, by decide +kernel, by decide +kernel⟩
abbrev s_Desk_create : Stmt := inClass (top 96) 1
theorem sc_Desk_create : FnScope ["self", "n"] ["self", "n"] (defScope s_Desk_create) := ⟨rfl, rfl, rfl, by decide +kernel, rfl, by decide +kernel, by decide +kernel⟩
/-- a class that makes instances, and its __init__'s promise -/
structure MkD (P : Program) (w : World) (K : PySem.W.Frag) (mg : Str → Option Value) (base : Heap) (k : Nat) (x : Str) (C : Addr) (sp : Sp) : Prop where
  ex : ∃ (f : Addr) (fd : FuncData) (ps : List Str), Mk K C f ∧ FnOk P w K mg base CX0 k f fd ps sp ∧ Binds K fd ps []
  gm : mg x = some (.ref C)
section
variable {X : Cx} {k j : Nat} {C : Addr} {x : Str} {sp : Sp} {p pos : Pos} {e : Expr} {es : List Expr} {t : TA}
theorem pe_mk (c : MkD X.prog X.w X.K X.mg X.base k x C sp) (hr : Room j X.A) (hk : k + 1 ≤ j) (hg : Gl X x) (ha : PA X (e :: es) t)
    (hdb : (x == ("__debug__" : Str)) = false := by decide) (he : starEach (e :: es) X.env = (false, eval e X.env) :: starEach es X.env := by rfl) (hpl : (backTo pos (starEach es X.env)).any (·.1) = false := by rfl) :
    PE X (.Call (.Name x p) (e :: es) [] pos) (tMake C sp [] E0 t) := by
  obtain ⟨f, fd, ps, M, F, b⟩ := c.ex
  exact pe_make M F (hr.mono hk) hg c.gm b .nil pass0 ha hdb he hpl
theorem pe_mk0 (c : MkD X.prog X.w X.K X.mg X.base k x C sp) (hr : Room j X.A) (hk : k + 1 ≤ j) (hg : Gl X x) (hdb : (x == ("__debug__" : Str)) = false := by decide) : PE X (.Call (.Name x p) [] [] pos) (tMake C sp [] E0 tNil) := by
  obtain ⟨f, fd, ps, M, F, b⟩ := c.ex
  exact pe_make0 M F (hr.mono hk) hg c.gm b .nil pass0 hdb
end
/-- a call -/
abbrev callF (v1 v2 v3 v4 : V) : List (Str × V) := [("operation", v1), ("numbers", v2), ("row", v3), ("end", v4)]
structure CallT (K : PySem.W.Frag) (C : Addr) : Prop where
  cl : Cls K C
  nO : NoAttr K C "operation"
  nN : NoAttr K C "numbers"
  nR : NoAttr K C "row"
  nE : NoAttr K C "end"
structure DeskT (K : PySem.W.Frag) (C : Addr) : Prop where
  cl : Cls K C
  nB : NoAttr K C "box"
theorem callF_o {v1 v2 v3 v4 : V} : (callF v1 v2 v3 v4).lookup ("operation" : Str) = some v1 := by simp [List.lookup]
theorem callF_n {v1 v2 v3 v4 : V} : (callF v1 v2 v3 v4).lookup ("numbers" : Str) = some v2 := by
  have e : (("numbers" : Str) == ("operation" : Str)) = false := by decide +kernel
  simp [List.lookup, e]
theorem callF_r {v1 v2 v3 v4 : V} : (callF v1 v2 v3 v4).lookup ("row" : Str) = some v3 := by
  have e : (("row" : Str) == ("operation" : Str)) = false := by decide +kernel
  have e2 : (("row" : Str) == ("numbers" : Str)) = false := by decide +kernel
  simp [List.lookup, e, e2]
theorem callF_e {v1 v2 v3 v4 : V} : (callF v1 v2 v3 v4).lookup ("end" : Str) = some v4 := by
  have e : (("end" : Str) == ("operation" : Str)) = false := by decide +kernel
  have e2 : (("end" : Str) == ("numbers" : Str)) = false := by decide +kernel
  have e3 : (("end" : Str) == ("row" : Str)) = false := by decide +kernel
  simp [List.lookup, e, e2, e3]
def spCInit (C : Addr) : Sp := fun vs H Q _ => ∃ (x dx : Addr) (v1 v2 v3 v4 : V), vs = [.ref x, v1, v2, v3, v4] ∧ H x = some (.ins C dx []) ∧ Q .non (upd H x (.ins C dx (callF v1 v2 v3 v4)))
abbrev deskF (v : V) : List (Str × V) := [("box", v)]
theorem deskF_b {v : V} : (deskF v).lookup ("box" : Str) = some v := by simp [List.lookup]
theorem deskF_no {v : V} {m : Str} (h1 : (m == ("box" : Str)) = false := by decide +kernel) : (deskF v).lookup m = none := by simp [List.lookup, h1]
def spDInit (C : Addr) : Sp := fun vs H Q _ => ∃ (x dx : Addr), vs = [.ref x] ∧ H x = some (.ins C dx []) ∧ Q .non (upd H x (.ins C dx (deskF .non)))
/-- the module's table of forms -/
structure FormsT (K : PySem.W.Frag) (A0 : Ad) : Prop where
  ex : ∃ fs : List Addr, (∀ H, SqT K H A0.forms (fs.map V.ref)) ∧ ∀ (p n : Nat) (b : Bool), EH.forms[p]? = some (n, b) → ∃ t : Addr, fs[p]? = some t ∧ ∀ H, SqT K H t [.int ((n : Nat) : Int), .bl b]
/-- a call object: what it tells -/
structure CallO (C : Addr) (H : Hp) (x : Addr) (p e : Nat) (ns row : List Int) : Prop where
  ex : ∃ (dx b d : Addr), H x = some (.ins C dx (callF (.int (p : Int)) (.ref b) (.ref d) (.int (e : Int)))) ∧ IntsL H b ns ∧ IntsL H d row
def spCallAt (K : PySem.W.Frag) (CC : Addr) : Sp := fun vs H Q _ => ∃ (a : Addr) (ls : List Int) (i p many : Nat) (hb : Bool) (ns row : List Int) (e : Nat), vs = [.ref a, .int (i : Int)] ∧ SqL K H a (ls.map V.int) ∧ CallAtI ls i p many hb ns row e ∧
  ∀ (H' : Hp) (x : Addr), Same H H' → CallO CC H' x p e ns row → Q (.ref x) H'
def spCreate (K : PySem.W.Frag) (CD C CR : Addr) : Sp := fun vs H Q E => ∃ (a dx : Addr) (v : V) (n : Int), vs = [.ref a, .int n] ∧ H a = some (.ins CD dx (deskF v)) ∧ ((n < 1 ∨ 6 < n) → Raised CR H E (-22)) ∧
  (¬ (n < 1 ∨ 6 < n) → ∀ (H' : Hp) (p box : Addr) (D : List Addr), H' a = some (.ins CD dx (deskF (.ref box))) → BoxAt K C H' box (newG n.toNat) D → Off [a] H H' → (∀ x ∈ D, H x = none) → NewP [a] H p → IntsL H' p [0] → Q (.ref p) H')
theorem BoxAt.upd_ins {K : PySem.W.Frag} {C a b CD dx : Addr} {fs : List (Str × V)} {H : Hp} {o : HO} {g : Ground} {D : List Addr} (h : BoxAt K C H b g D) (ha : H a = some (.ins CD dx fs)) (hab : a ≠ b) : BoxAt K C (upd H a o) b g D := by
  obtain ⟨dx', l, s, rs, ss, h1, h2, h3, h4, h5, h6, h7, h8⟩ := h.ex
  have ns : s ≠ a := fun z => by
    rw [z, ha] at h3
    cases h3
  refine ⟨dx', l, s, rs, ss, by rw [upd_ne (Ne.symm hab)]; exact h1, h2.off (qs := [a]) (Off.upd (List.mem_singleton.mpr rfl)) (fun z => ?_) (fun r hr z => ?_), by rw [upd_ne ns]; exact h3, ?_, h5, h6, h7, h8⟩
  · have := h2.top
    rw [List.mem_singleton.mp z, ha] at this
    cases this
  · obtain ⟨i, e⟩ := List.getElem?_of_mem hr
    have := h2.row i r e
    rw [List.mem_singleton.mp z, ha] at this
    cases this
  · refine paired_of h4 fun x hx y z => fracs_upd z (fun e => ?_) (fun zs e => by rw [ha] at e; cases e) fun u zs e => by rw [ha] at e; cases e
    obtain ⟨as, q1, _⟩ := z
    rw [e, ha] at q1
    cases q1
theorem cut_nat {xs : List V} {i j : Nat} (hij : i ≤ j) (hj : j ≤ xs.length) : cutV xs (some (i : Int)) (some (j : Int)) = (xs.drop i).take (j - i) := by
  unfold cutV
  rw [HT.sIx_nat, HT.sIx_nat, Nat.min_eq_left hj, Nat.min_eq_left (Nat.le_trans hij hj)]
section
variable {P : Program} {w : World} {K : PySem.W.Frag} {mg : Str → Option Value} {base : Heap} (B : Nb mg) {A0 : Ad} (G : Gs K mg A0) {C CR CC CD : Addr}
omit B G in
theorem df_cinit {f : Addr} {fd : FuncData} (F : Fun K "__init__" "Call.__init__" s_Call___init__ f fd) (T : CallT K CC) : FnOk P w K mg base CX0 1 f fd ["self", "operation", "numbers", "row", "end"] (spCInit CC) := by
  refine F.ok sc_Call___init__ (fun vs H Q E h => ?_) (fun cdv A outer s H vs Q E hr h => ⟨_,
(pss_cons (ps_fld (pv 0) (pv 1) rfl)
 (pss_cons (ps_fld (pv 0) (pv 2) rfl)
 (pss_cons (ps_fld (pv 0) (pv 3) rfl)
 (pss_one (ps_fld (pv 0) (pv 4) rfl)))))
   , ?_⟩)
  · obtain ⟨x, dx, v1, v2, v3, v4, rfl, _⟩ := h
    rfl
  · obtain ⟨x, dx, v1, v2, v3, v4, rfl, hx, k⟩ := h
    have p1 : putF ("operation" : Str) v1 [] = [(("operation" : Str), v1)] := rfl
    have p2 : putF ("numbers" : Str) v2 [(("operation" : Str), v1)] = [(("operation" : Str), v1), (("numbers" : Str), v2)] := rfl
    have p3 : putF ("row" : Str) v3 [(("operation" : Str), v1), (("numbers" : Str), v2)] = [(("operation" : Str), v1), (("numbers" : Str), v2), (("row" : Str), v3)] := rfl
    have p4 : putF ("end" : Str) v4 [(("operation" : Str), v1), (("numbers" : Str), v2), (("row" : Str), v3)] = callF v1 v2 v3 v4 := rfl
    refine ⟨_, rfl, _, rfl, x, CC, dx, _, rfl, hx, T.cl, T.nO, by show 0 < 1000; decide, ?_⟩
    rw [p1]
    refine ⟨_, rfl, _, rfl, x, CC, dx, _, rfl, upd_same, T.cl, T.nN, by show 1 < 1000; decide, ?_⟩
    rw [p2, upd_upd]
    refine ⟨_, rfl, _, rfl, x, CC, dx, _, rfl, upd_same, T.cl, T.nR, by show 2 < 1000; decide, ?_⟩
    rw [p3, upd_upd]
    refine ⟨_, rfl, _, rfl, x, CC, dx, _, rfl, upd_same, T.cl, T.nE, by show 3 < 1000; decide, ?_⟩
    rw [p4, upd_upd]
    exact k
omit B G in
theorem df_dinit {f : Addr} {fd : FuncData} (F : Fun K "__init__" "Desk.__init__" s_Desk___init__ f fd) (T : DeskT K CD) : FnOk P w K mg base CX0 1 f fd ["self"] (spDInit CD) := by
  refine F.ok sc_Desk___init__ (fun vs H Q E h => ?_) (fun cdv A outer s H vs Q E hr h => ⟨_,
(pss_one (ps_fld (pv 0) pe_non rfl))
   , ?_⟩)
  · obtain ⟨x, dx, rfl, _⟩ := h
    rfl
  · obtain ⟨x, dx, rfl, hx, k⟩ := h
    exact ⟨_, rfl, x, CD, dx, _, rfl, hx, T.cl, T.nB, by show 0 < 1000; decide, k⟩
include B G
theorem df_create {f : Addr} {fd : FuncData} (hm : Meth K CD "create" f) (F : Fun K "create" "Desk.create" s_Desk_create f fd) (T : DeskT K CD) (R : RefD P w K mg base CR) (c_Instance : MkD P w K mg base 2 "Instance" C (spInit K C)) : DfM P w K mg base (L2.CX P w) 4 CD "create" (spCreate K CD C CR) := by
  refine ⟨f, fd, ["self", "n"], F.okX sc_Desk_create (fun vs H Q E h => ?_) (fun cdv A outer s H vs Q E hr h => ⟨_,
(pss_cons (ps_if (PW.pt (pw_or (pt_cmpR op_lt (pv 1) pe_int (nomark _)) (pw_or1 (pt_cmpR op_gt (pv 1) (pe_gk rfl G.MOST_POINTS_) (nomark _))))) (pss_one (ps_raise rfl (takes_of rfl rfl rfl rfl) (pmk_ref R hr (by decide) rfl (pa_cons (pe_un un_neg pe_int) pa_nil)))) pss_nil)
 (pss_cons (ps_fld (pv 0) (pe_mk c_Instance hr (by decide) rfl (pa_cons (pv 1) pa_nil)) rfl)
 (pss_one (ps_ret (pe_lst (pa_cons pe_int pa_nil))))))
   , ?_⟩), hm, F.binds fun _ _ _ _ _ _ us hl => match us, hl with | [_, _], _ => rfl⟩
  · obtain ⟨a, dx, v, n, rfl, _⟩ := h
    rfl
  · obtain ⟨a, dx, v, n, rfl, ha, kb, kg⟩ := h
    refine ⟨_, rfl, _, _, rfl, rfl, _, rfl, ?_⟩
    refine ite2 (fun c1 => ?_) (fun c1 => ?_)
    · refine ite2 (fun _ => ?_) (fun z => absurd rfl z)
      exact ⟨_, rfl, raised R.t (kb (Or.inl (of_decide_eq_true c1)))⟩
    have c1 : ¬ n < 1 := fun z => c1 (decide_eq_true z)
    refine ⟨_, rfl, _, _, rfl, rfl, _, rfl, ?_⟩
    refine ite2 (fun c2 => ?_) (fun c2 => ?_)
    · exact ⟨_, rfl, raised R.t (kb (Or.inr (of_decide_eq_true c2)))⟩
    have c2 : ¬ 6 < n := fun z => c2 (decide_eq_true z)
    obtain ⟨m, rfl⟩ : ∃ m : Nat, n = m := ⟨n.toNat, by omega⟩
    refine ⟨_, rfl, fun x dx2 nx ndx nex => ?_⟩
    have hax : a ≠ x := ne_of_none ha nx
    have had : a ≠ dx2 := ne_of_none ha ndx
    refine ⟨x, dx2, m, rfl, upd_same, by omega, by omega, fun H1 D hB off newD => ⟨rfl, ?_⟩⟩
    have a1 : H1 a = some (.ins CD dx (deskF v)) := off _ _ (by rw [upd_ne hax, upd_ne had]; exact ha) fun z => hax (List.mem_singleton.mp z)
    have new : ∀ y ∈ D, H y = none := fun y hy => by
      have h1 := newD y hy
      by_cases c : y = x
      · rw [c]
        exact nx
      · rw [upd_ne c] at h1
        by_cases c2 : y = dx2
        · rw [c2]
          exact ndx
        · rw [upd_ne c2] at h1
          exact h1
    refine ⟨_, rfl, a, CD, dx, _, rfl, a1, T.cl, T.nB, by show 1 < 1000; decide, ?_⟩
    have e1 : putF ("box" : Str) (V.ref x) (deskF v) = deskF (.ref x) := rfl
    rw [e1]
    have hB2 := hB.upd_ins (o := .ins CD dx (deskF (.ref x))) a1 hax
    have o2 : Off [a] H (upd H1 a (.ins CD dx (deskF (.ref x)))) := fun b u e nb => by
      have h1 : b ≠ a := fun z => nb (List.mem_singleton.mpr z)
      have h2 : b ≠ x := ne_of_none e nx
      have h3 : b ≠ dx2 := ne_of_none e ndx
      rw [upd_ne h1]
      exact off _ _ (by rw [upd_ne h2, upd_ne h3]; exact e) fun z => h2 (List.mem_singleton.mp z)
    have a2 : upd H1 a (.ins CD dx (deskF (.ref x))) a = some (.ins CD dx (deskF (.ref x))) := upd_same
    generalize upd H1 a (.ins CD dx (deskF (.ref x))) = H2 at hB2 o2 a2
    refine ⟨by show 1 ≤ sizeLine; decide, fun p newp => ?_⟩
    have s3 := same_upd (o := .lst [V.int 0]) newp
    refine kg (by omega) _ p x D (s3 _ _ a2) ?_ (o2.trans (Off.of s3)) new (fun b u e nb _ z => by have := o2 _ _ e nb; rw [z, newp] at this; cases this) ?_
    · rw [Int.toNat_natCast]
      exact hB2.same s3
    · unfold IntsL
      rw [upd_same]
      rfl
theorem df_call_at {f : Addr} {fd : FuncData} (hm : mg "call_at" = some (.ref f)) (F : Fun K "call_at" "call_at" s_call_at f fd) (Fm : FormsT K A0) (c_Call : MkD P w K mg base 1 "Call" CC (spCInit CC)) : Df P w K mg base CX0 3 "call_at" (spCallAt K CC) := by
  refine df_of (F.ok sc_call_at (fun vs H Q E h => ?_) (fun cdv A outer s H vs Q E hr h => ⟨_,
(pss_cons (ps_asg (pe_ix ix_tup (pe_gk rfl G.FORMS_) (pe_ix ix_list (pv 0) (pv 1) (fun _ _ => rfl)) (fun _ _ => rfl)) (pg_tup rfl (pgs_cons (pg_name (i := 2) sc_call_at.nd rfl (Or.inl rfl)) (pgs_cons (pg_name (i := 3) sc_call_at.nd rfl (Or.inl rfl)) pgs_nil))))
 (pss_cons (ps_set (i := 4) sc_call_at.nd rfl (Or.inl rfl) (pe_op op_add (pe_op op_add (pv 1) pe_int) (pv 2)))
 (pss_cons (ps_set (i := 5) sc_call_at.nd rfl (Or.inl rfl) (pe_slice sl_list (pv 0) (po_some (pe_op op_add (pv 1) pe_int)) (po_some (pv 4))))
 (pss_cons (ps_if (pt_not (pt_val (pv 3))) (pss_one (ps_ret (pe_mk c_Call hr (by decide) rfl (pa_cons (pe_ix ix_list (pv 0) (pv 1) (fun _ _ => rfl)) (pa_cons (pv 5) (pa_cons (pe_lst pa_nil) (pa_cons (pv 4) pa_nil))))))) pss_nil)
 (pss_one (ps_ret (pe_mk c_Call hr (by decide) rfl (pa_cons (pe_ix ix_list (pv 0) (pv 1) (fun _ _ => rfl)) (pa_cons (pv 5) (pa_cons (pe_slice sl_list (pv 0) (po_some (pe_op op_add (pv 4) pe_int)) (po_some (pe_op op_add (pe_op op_add (pv 4) pe_int) (pe_ix ix_list (pv 0) (pv 4) (fun _ _ => rfl))))) (pa_cons (pe_op op_add (pe_op op_add (pv 4) pe_int) (pe_ix ix_list (pv 0) (pv 4) (fun _ _ => rfl))) pa_nil)))))))))))
   , ?_⟩)) hm F.kp (F.binds fun _ _ _ _ _ _ us hl => match us, hl with | [_, _], _ => rfl)
  · obtain ⟨a, ls, i, p, many, hb, ns, row, e, rfl, _⟩ := h
    rfl
  · obtain ⟨a, ls, i, p, many, hb, ns, row, e, rfl, hs, hc, k⟩ := h
    obtain ⟨fs, f1, f2⟩ := Fm.ex
    obtain ⟨t, ft, t2⟩ := f2 p many hb hc.form
    have m1 : atI (ls.map V.int) (i : Int) = some (.int (p : Int)) := at_of rfl (by rw [List.getElem?_map, hc.at_]; rfl)
    have m2 : atI (fs.map V.ref) (p : Int) = some (.ref t) := at_of rfl (by rw [List.getElem?_map, ft]; rfl)
    have hlen := hc.len
    refine ⟨_, rfl, _, rfl, a, _, _, _, rfl, rfl, hs, m1, A0.forms, _, _, _, rfl, rfl, f1 H, m2, t, _, rfl, t2 H, rfl, _, _, rfl, _, _, rfl, rfl, ?_⟩
    refine ⟨_, rfl, _, _, rfl, rfl, _, rfl, _, _, rfl, rfl, ?_⟩
    have ec : cutV (ls.map V.int) (some ((i : Int) + 1)) (some ((i : Int) + 1 + ((many : Nat) : Int))) = ns.map V.int := by
      have := cut_nat (xs := ls.map V.int) (i := i + 1) (j := i + 1 + many) (by omega) (by rw [List.length_map]; exact hlen)
      have e1 : ((i + 1 : Nat) : Int) = (i : Int) + 1 := by omega
      have e2 : ((i + 1 + many : Nat) : Int) = (i : Int) + 1 + ((many : Nat) : Int) := by omega
      rw [e1, e2] at this
      rw [this, hc.nums, List.map_take, List.map_drop]
      congr 1
      omega
    refine ⟨_, rfl, _, rfl, _, _, rfl, rfl, _, rfl, _, rfl, _, rfl, a, _, rfl, hs, fun b newb => ?_⟩
    rw [ec]
    have s1 := same_upd (o := .lst (ns.map V.int)) newb
    have eb : upd H b (.lst (ns.map V.int)) b = some (.lst (ns.map V.int)) := upd_same
    generalize upd H b (.lst (ns.map V.int)) = H1 at s1 eb
    refine ⟨_, rfl, hb, rfl, ?_⟩
    refine ite2 (fun c1 => ?_) (fun c1 => ?_)
    · have hf : hb = false := by
        cases hb with
        | false => rfl
        | true => exact absurd c1 (by decide)
      obtain ⟨hrow, he⟩ := hc.no hf
      refine ⟨_, rfl, _, rfl, a, _, _, _, rfl, rfl, s1.seq hs, m1, _, rfl, by show 0 ≤ sizeLine; decide, fun d newd => ?_⟩
      have s2 := same_upd (o := .lst []) newd
      have ed : upd H1 d (.lst []) d = some (.lst []) := upd_same
      generalize upd H1 d (.lst []) = H2 at s2 ed
      refine ⟨_, rfl, fun x dx nx ndx nex => ?_⟩
      refine ⟨x, dx, _, _, _, _, rfl, upd_same, rfl, ?_⟩
      rw [upd_upd]
      have s3 : ∀ o : HO, Same H2 (upd (upd H2 dx (.own x)) x o) := fun o y u q => by
        rw [upd_ne (ne_of_none q nx), upd_ne (ne_of_none q ndx)]
        exact q
      have ee : (i : Int) + 1 + ((many : Nat) : Int) = ((e : Nat) : Int) := by omega
      have ev : V.int ((i : Int) + 1 + ((many : Nat) : Int)) = V.int ((e : Nat) : Int) := by rw [ee]
      refine k _ x ((s1.trans s2).trans (s3 _)) ⟨dx, b, d, upd_same.trans (congrArg (fun v => some (HO.ins CC dx (callF (.int (p : Int)) (.ref b) (.ref d) v))) ev), s3 _ _ _ (s2 _ _ eb), ?_⟩
      rw [hrow]
      exact s3 _ _ _ ed
    · have ht : hb = true := by
        cases hb with
        | true => rfl
        | false => exact absurd rfl c1
      obtain ⟨m, hm', hml, hrow, he⟩ := hc.yes ht
      have m3 : atI (ls.map V.int) ((i : Int) + 1 + ((many : Nat) : Int)) = some (.int (m : Int)) := by
        have e2 : (i : Int) + 1 + ((many : Nat) : Int) = ((i + 1 + many : Nat) : Int) := by omega
        rw [e2]
        exact at_of rfl (by rw [List.getElem?_map, hm']; rfl)
      have ec2 : cutV (ls.map V.int) (some ((i : Int) + 1 + ((many : Nat) : Int) + 1)) (some ((i : Int) + 1 + ((many : Nat) : Int) + 1 + (m : Int))) = row.map V.int := by
        have := cut_nat (xs := ls.map V.int) (i := i + 1 + many + 1) (j := i + 1 + many + 1 + m) (by omega) (by rw [List.length_map]; exact hml)
        have e1 : ((i + 1 + many + 1 : Nat) : Int) = (i : Int) + 1 + ((many : Nat) : Int) + 1 := by omega
        have e2 : ((i + 1 + many + 1 + m : Nat) : Int) = (i : Int) + 1 + ((many : Nat) : Int) + 1 + (m : Int) := by omega
        rw [e1, e2] at this
        rw [this, hrow, List.map_take, List.map_drop]
        congr 1
        omega
      refine ⟨_, rfl, _, rfl, a, _, _, _, rfl, rfl, s1.seq hs, m1, _, rfl, _, rfl, _, rfl, _, _, rfl, rfl, _, rfl, _, rfl, _, _, rfl, rfl, _, rfl, _, rfl, a, _, _, _, rfl, rfl, s1.seq hs, m3, _, _, rfl, rfl, _, rfl, a, _, rfl, s1.seq hs, fun d newd => ?_⟩
      rw [ec2]
      have s2 := same_upd (o := .lst (row.map V.int)) newd
      have ed : upd H1 d (.lst (row.map V.int)) d = some (.lst (row.map V.int)) := upd_same
      generalize upd H1 d (.lst (row.map V.int)) = H2 at s2 ed
      refine ⟨_, rfl, _, _, rfl, rfl, _, rfl, _, rfl, a, _, _, _, rfl, rfl, (s1.trans s2).seq hs, m3, _, _, rfl, rfl, fun x dx nx ndx nex => ?_⟩
      refine ⟨x, dx, _, _, _, _, rfl, upd_same, rfl, ?_⟩
      rw [upd_upd]
      have s3 : ∀ o : HO, Same H2 (upd (upd H2 dx (.own x)) x o) := fun o y u q => by
        rw [upd_ne (ne_of_none q nx), upd_ne (ne_of_none q ndx)]
        exact q
      have ee : (i : Int) + 1 + ((many : Nat) : Int) + 1 + (m : Int) = ((e : Nat) : Int) := by omega
      have ev : V.int ((i : Int) + 1 + ((many : Nat) : Int) + 1 + (m : Int)) = V.int ((e : Nat) : Int) := by rw [ee]
      exact k _ x ((s1.trans s2).trans (s3 _)) ⟨dx, b, d, upd_same.trans (congrArg (fun v => some (HO.ins CC dx (callF (.int (p : Int)) (.ref b) (.ref d) v))) ev), s3 _ _ _ (s2 _ _ eb), s3 _ _ _ ed⟩
end
end EW
end

/-! ## EwTp2 -/
section
set_option Elab.async false
set_option linter.all false
set_option maxRecDepth 100000
set_option maxHeartbeats 2000000
set_option autoImplicit false
/-! A desk does a call. -/
namespace EW
open PySem PySem.Spec PyProof.Rows L2
open Sr58 (Frac)
open Sr82 (Ground)
open EH (GOk CallAtI)
local macro_rules | `(tactic| walk_at "rd") => `(tactic| repeat (first | refine ⟨rfl, ?_⟩ | apply Exists.intro | refine ⟨by assumption, ?_⟩))
abbrev s_Desk_done : Stmt := inClass (top 96) 2
theorem sc_Desk_done : FnScope ["self", "call", "deed"] ["self", "call"] (defScope s_Desk_done) := ⟨rfl, rfl, rfl, by decide +kernel, rfl, by decide +kernel, by decide +kernel⟩
abbrev s_Desk_answer : Stmt := inClass (top 96) 3
theorem sc_Desk_answer : FnScope ["self", "call", "e"] ["self", "call"] (defScope s_Desk_answer) := ⟨rfl, rfl, rfl, by decide +kernel, rfl, by decide +kernel, by decide +kernel⟩
/-- which calls the operations are asked -/
def clOf : Nat → List Int → List Int → Sr82.Call → Prop
  | 0 => clWay
  | 1 => clSpread
  | 2 => clTold
  | 3 => clFar
  | 4 => clLeast
  | 5 => clPlan
  | 6 => clPrices
  | 7 => clTest
  | 8 => clFair
  | 9 => clBehind
  | 10 => clImage
  | 11 => clMiddle
  | _ => clHangs
/-- a def among those of the table -/
structure Deed (P : Program) (w : World) (K : PySem.W.Frag) (mg : Str → Option Value) (base : Heap) (k : Nat) (f : Addr) (sp : Sp) : Prop where
  ex : ∃ (fd : FuncData) (ps : List Str), FnOk P w K mg base (L2.CX P w) k f fd ps sp ∧ PySem.W.keepIn K (.ref f) = true ∧ Binds K fd ps []
theorem Df.deed {P : Program} {w : World} {K : PySem.W.Frag} {mg : Str → Option Value} {base : Heap} {j k : Nat} {x : Str} {f : Addr} {sp : Sp} (c : Df P w K mg base (L2.CX P w) j x sp) (hm : mg x = some (.ref f)) (hj : j ≤ k) : Deed P w K mg base k f sp := by
  obtain ⟨f', fd, ps, F, h1, h2, h3⟩ := c.ex
  have e : f' = f := by
    rw [hm] at h1
    injection Option.some.inj h1 with h1
    exact h1.symm
  subst e
  exact ⟨fd, ps, F.mono hj, h2, h3⟩
def tCallD (i : Nat) (S : Addr → Sp → Prop) (E : XK) (t : TA) : TE := fun σ H Q => ∃ (f : Addr) (sp : Sp), σ[i]? = some (some (.ref f)) ∧ S f sp ∧ t σ H fun vs H1 => sp vs H1 Q E
theorem pe_callD {X : Cx} {k j i : Nat} {E : XK} {x : Str} {p pos : Pos} {e : Expr} {es : List Expr} {t : TA} {S : Addr → Sp → Prop} (A : ∀ f sp, S f sp → Deed X.prog X.w X.K X.mg X.base k f sp) (hr : Room j X.A) (hk : k ≤ j) (hN : X.N[i]? = some x) (hv : Vis X.env.scope x) (hx : Passes (L2.CX X.prog X.w) X E) (ha : PA X (e :: es) t)
    (hdb : (x == ("__debug__" : Str)) = false := by decide) (hcd : (x == ("__classdict__" : Str)) = false := by decide)
    (he : starEach (e :: es) X.env = (false, eval e X.env) :: starEach es X.env := by rfl) (hpl : (backTo pos (starEach es X.env)).any (·.1) = false := by rfl) : PE X (.Call (.Name x p) (e :: es) [] pos) (tCallD i S E t) := by
  refine ⟨fun pins s σ H Q I h => ?_⟩
  obtain ⟨f, sp, hs, hS, ht⟩ := h
  obtain ⟨fd, ps, F, hk', hb⟩ := (A f sp hS).ex
  refine (pe_callL (i := i) (f := f) (sp := sp) (dvs := []) (E := E) F (hr.mono hk) hN hv hk' hb .nil hx ha hdb hcd he hpl).run pins s σ H Q I ⟨hs, ?_⟩
  have e0 : (fun (vs : List V) (H1 : Hp) => sp (vs ++ []) H1 Q E) = fun vs H1 => sp vs H1 Q E := by
    funext vs H1
    rw [List.append_nil]
  show t σ H (fun vs H1 => sp (vs ++ []) H1 Q E)
  rw [e0]
  exact ht
/-- o.m(e, ..) within a try -/
def tMethT (C : Addr) (m : Str) (sp : Sp) (E : L2.St → XK) (ta : TE) (t : TA) : TE := fun σ H Q => ta σ H fun x H1 => ∃ a dx fs, x = .ref a ∧ H1 a = some (.ins C dx fs) ∧ fs.lookup m = none ∧ t σ H1 fun vs H2 => sp (x :: vs) H2 Q (E σ)
theorem pe_methT {X : Cx} {k j : Nat} {C : Addr} {sp : Sp} {E : L2.St → XK} {m : Str} {pos apos : Pos} {e o : Expr} {es : List Expr} {ta : TE} {t : TA} {pl : Sem Bool} (he : PE X o ta) (c : Cls X.K C) (d : DfM X.prog X.w X.K X.mg X.base (L2.CX X.prog X.w) k C m sp)
    (hr : Room j X.A) (hk : k ≤ j) (hx : ∀ σ, PassesAt (L2.CX X.prog X.w) X σ (E σ)) (ha : PA X (e :: es) t)
    (hst : starEach (e :: es) X.env = (false, eval e X.env) :: starEach es X.env := by rfl) (hpl : (backTo pos (starEach es X.env)).any (·.1) = false := by rfl)
    (ht : eval (.Call (.Attribute o m apos) (e :: es) [] pos) X.env = (do
      let ov ← eval o X.env
      standAt apos.atName
      let (f, first) ← holding [ov] (getMethod ov m pl)
      callWith pos f first (backTo pos (starEach (e :: es) X.env)) (backToKw pos (keywordEach [] X.env))) := by rfl) :
    PE X (.Call (.Attribute o m apos) (e :: es) [] pos) (tMethT C m sp E ta t) := by
  obtain ⟨f, fd, ps, F, hm, hb⟩ := d.ex
  refine ⟨fun pins s σ H Q I h => ?_⟩
  refine PySem.W.methodCall_KW (pl := pl) (thn (he.run pins s σ H _ I h) fun u s1 ⟨x, H1, I1, rx, a, dx, fs, ex, ea, l, q⟩ => ?_) ht
  subst ex
  obtain rfl : u = Value.ref a := rx
  refine getmeth_ok I1 ea c hm l ?_
  refine PySem.W.callWith_K (first := [.ref a]) (h₀ := X.base) I.ok.mod.kin hm.kp (thn (ha.run pos pins s1 σ H1 _ I1 q) fun us s2 ⟨vs, H2, I2, r, q2⟩ => ⟨I2.kIn, ?_⟩) hst hpl
  exact run_fnS (us := .ref a :: us) (vs := .ref a :: vs) F (hr.mono hk) hb (hx σ) I2 (.cons rfl r) q2
/-- the module's table of operations -/
structure OpsT (P : Program) (w : World) (K : PySem.W.Frag) (mg : Str → Option Value) (base : Heap) (A0 : Ad) (P0 C CR : Addr) : Prop where
  ex : ∃ fs : List Addr, (∀ H, SqT K H A0.ops (fs.map V.ref)) ∧ fs.length = 13 ∧ ∀ (i : Nat) (f : Addr), fs[i]? = some f → Deed P w K mg base 8 f (spOp K P0 C CR (clOf i))
/-- a desk at a: its instance -/
def DeskAt (K : PySem.W.Frag) (CD C : Addr) (H : Hp) (a : Addr) (st : Sr82.State) (D : List Addr) : Prop := match st with
  | none => (∃ dx, H a = some (.ins CD dx (deskF .non))) ∧ D = []
  | some g => ∃ dx box, H a = some (.ins CD dx (deskF (.ref box))) ∧ BoxAt K C H box g D ∧ GOk g
theorem DeskAt.extN {K : PySem.W.Frag} {CD C a : Addr} {H H' : Hp} {st : Sr82.State} {D : List Addr} (h : DeskAt K CD C H a st D) (e : LamX.ExtN H H') : DeskAt K CD C H' a st D := by
  cases st with
  | none =>
    obtain ⟨⟨dx, h1⟩, h2⟩ := h
    exact ⟨⟨dx, e _ _ h1 fun ps z => by cases z⟩, h2⟩
  | some g =>
    obtain ⟨dx, box, h1, h2, h3⟩ := h
    exact ⟨dx, box, e _ _ h1 (fun ps z => by cases z), h2.extN e, h3⟩
/-- how a call ends -/
structure DoneOut (K : PySem.W.Frag) (P0 CD C CR a : Addr) (st : Sr82.State) (D : List Addr) (H : Hp) (Q : VK) (E : XK) (r : Sr82.State × Sr66.Ans) : Prop where
  ret : ∀ (H' : Hp) (p : Addr) (D' : List Addr), KpT P0 (a :: D) H H' → DeskAt K CD C H' a r.1 D' → (∀ x ∈ D', x ∈ D ∨ H x = none) → NewP (a :: D) H p → IntsL H' p (r.2.num :: r.2.nums) → Q (.ref p) H'
  exc : r.1 = st → r.2.nums = [] → ∀ (H' : Hp) (d : Addr), LamX.ExtN H H' → LamX.Tabs (TN P0) H' → H' d = some (.xd [("code", .int r.2.num)]) → E (.ref CR) (some d) H'
theorem DoneOut.raised {K : PySem.W.Frag} {P0 CD C CR a : Addr} {st : Sr82.State} {D : List Addr} {H : Hp} {Q : VK} {E : XK} {c : Int} (o : DoneOut K P0 CD C CR a st D H Q E (st, Sr82.say c)) (hT : LamX.Tabs (TN P0) H) : Raised CR H E c := fun H' d s _ e =>
  o.exc rfl rfl H' d (LamX.ExtN.of s) (hT.ext s) e
/-- the numbers of a call stand for the specification's call -/
def IsCall (p : Nat) (ns row : List Int) (c : Sr82.Call) : Prop := (p = 0 ∧ ∃ n, ns = [n] ∧ c = .begin_ n) ∨ (1 ≤ p ∧ p ≤ 13 ∧ clOf (p - 1) ns row c)
def spDone (K : PySem.W.Frag) (P0 CD C CR CC : Addr) : Sp := fun vs H Q E => ∃ (a x : Addr) (st : Sr82.State) (D : List Addr) (p e : Nat) (ns row : List Int) (c : Sr82.Call), vs = [.ref a, .ref x] ∧ DeskAt K CD C H a st D ∧ CallO CC H x p e ns row ∧ LamX.Tabs (TN P0) H ∧ IsCall p ns row c ∧ inb ns ∧ inb row ∧ row.length ≤ 70 ∧
  DoneOut K P0 CD C CR a st D H Q E (Sr82.step st c)
def spAnswer (K : PySem.W.Frag) (P0 CD C CC : Addr) : Sp := fun vs H Q _ => ∃ (a x : Addr) (st : Sr82.State) (D : List Addr) (p e : Nat) (ns row : List Int) (c : Sr82.Call), vs = [.ref a, .ref x] ∧ DeskAt K CD C H a st D ∧ CallO CC H x p e ns row ∧ LamX.Tabs (TN P0) H ∧ IsCall p ns row c ∧ inb ns ∧ inb row ∧ row.length ≤ 70 ∧
  ∀ (H' : Hp) (q : Addr) (D' : List Addr), KpT P0 (a :: D) H H' → DeskAt K CD C H' a (Sr82.step st c).1 D' → (∀ x ∈ D', x ∈ D ∨ H x = none) → NewP (a :: D) H q → IntsL H' q ((Sr82.step st c).2.num :: (Sr82.step st c).2.nums) → Q (.ref q) H'
theorem tabs_ins {T : List (Addr × Str)} {H H' : Hp} {a C dx : Addr} {fs : List (Str × V)} (t : LamX.Tabs T H) (o : Off [a] H H') (ha : H a = some (.ins C dx fs)) : LamX.Tabs T H' := fun p hp => by
  obtain ⟨ps, h1, h2, h3⟩ := t p hp
  refine ⟨ps, o _ _ h1 (fun z => by rw [List.mem_singleton.mp z, ha] at h1; cases h1), h2, fun pos cv hc => ?_⟩
  obtain ⟨c, e1, e2⟩ := h3 pos cv hc
  exact ⟨c, e1, o _ _ e2 (fun z => by rw [List.mem_singleton.mp z, ha] at e2; unfold LamX.CodeO at e2; cases e2)⟩
theorem cl_step {p : Nat} {ns row : List Int} {c : Sr82.Call} (h : clOf p ns row c) (st : Sr82.State) : Sr82.step st c = match st with
    | none => (none, Sr82.say (-11))
    | some g => match Sr82.doing g c with
      | (some r, a) => (some r, a)
      | (none, a) => (some g, a) := by
  have key : (∀ n, c ≠ .begin_ n) → Sr82.step st c = match st with
    | none => (none, Sr82.say (-11))
    | some g => match Sr82.doing g c with
      | (some r, a) => (some r, a)
      | (none, a) => (some g, a) := fun hn => by
    cases c with
    | begin_ n => exact absurd rfl (hn n)
    | _ => cases st <;> rfl
  refine key fun n e => ?_
  subst e
  match p, h with
  | 0, ⟨_, _, _, _, z⟩ => cases z
  | 1, ⟨_, _, z⟩ => cases z
  | 2, ⟨_, _, z⟩ => cases z
  | 3, ⟨_, _, _, z⟩ => cases z
  | 4, ⟨_, _, _, z⟩ => cases z
  | 5, ⟨_, _, _, z⟩ => cases z
  | 6, ⟨_, _, _, z⟩ => cases z
  | 7, ⟨_, _, _, _, z⟩ => cases z
  | 8, ⟨_, _, _, z⟩ => cases z
  | 9, ⟨_, _, _, _, z⟩ => cases z
  | 10, ⟨_, _, _, z⟩ => cases z
  | 11, ⟨_, _, _, _, z⟩ => cases z
  | p + 12, ⟨_, z⟩ => cases z
section
variable {P : Program} {w : World} {K : PySem.W.Frag} {mg : Str → Option Value} {base : Heap} (B : Nb mg) {A0 : Ad} (G : Gs K mg A0) {P0 C CR CC CD : Addr}
include B G
theorem df_done {f : Addr} {fd : FuncData} (hm : Meth K CD "done" f) (F : Fun K "done" "Desk.done" s_Desk_done f fd) (TD : DeskT K CD) (TC : CallT K CC) (R : RefD P w K mg base CR) (O : OpsT P w K mg base A0 P0 C CR) (c_create : DfM P w K mg base (L2.CX P w) 4 CD "create" (spCreate K CD C CR)) :
    DfM P w K mg base (L2.CX P w) 9 CD "done" (spDone K P0 CD C CR CC) := by
  obtain ⟨fs, o1, o2, o3⟩ := O.ex
  have hA : ∀ f sp, (∃ i, fs[i]? = some f ∧ sp = spOp K P0 C CR (clOf i)) → Deed P w K mg base 8 f sp := fun f sp ⟨i, h1, h2⟩ => by rw [h2]; exact o3 i f h1
  refine ⟨f, fd, ["self", "call"], F.okX sc_Desk_done (fun vs H Q E h => ?_) (fun cdv A outer s H vs Q E hr h => ⟨_,
(pss_cons (ps_if (pt_cmpR op_eq (pe_fld (pv 1) rfl) pe_int (nomark _)) (pss_one (ps_ret (pe_mmX c_create TD.cl hr (by decide) (passes_call (takes_of rfl rfl rfl rfl) fun _ _ _ _ h => h) (pv 0) (pa_cons (pe_ix ix_list (pe_fld (pv 1) rfl) pe_int (fun _ _ => rfl)) pa_nil)))) pss_nil)
 (pss_cons (ps_if (pt_cmp (pc_isN (pe_fld (pv 0) rfl))) (pss_one (ps_raise rfl (takes_of rfl rfl rfl rfl) (pmk_ref R hr (by decide) rfl (pa_cons (pe_un un_neg pe_int) pa_nil)))) pss_nil)
 (pss_cons (ps_set (i := 2) sc_Desk_done.nd rfl (Or.inl rfl) (pe_ix ix_tup (pe_gk rfl G.OPERATIONS_) (pe_op op_sub (pe_fld (pv 1) rfl) pe_int) (fun _ _ => rfl)))
 (pss_one (ps_ret (pe_callD (i := 2) (S := fun f sp => ∃ i, fs[i]? = some f ∧ sp = spOp K P0 C CR (clOf i)) hA hr (by decide) rfl (Or.inl rfl) (passes_call (takes_of rfl rfl rfl rfl) fun _ _ _ _ h => h) (pa_cons (pe_fld (pv 0) rfl) (pa_cons (pe_fld (pv 1) rfl) (pa_cons (pe_fld (pv 1) rfl) pa_nil)))))))))
   , ?_⟩), hm, F.binds fun _ _ _ _ _ _ us hl => match us, hl with | [_, _], _ => rfl⟩
  · obtain ⟨a, x, st, D, p, e, ns, row, c, rfl, _⟩ := h
    rfl
  · obtain ⟨a, x, st, D, p, e, ns, row, c, rfl, hD, hC, hT, hc, b1, b2, b3, o⟩ := h
    obtain ⟨dx, b, d, c1, c2, c3⟩ := hC.ex
    obtain ⟨dD, v, hI⟩ : ∃ dD v, H a = some (.ins CD dD (deskF v)) := by
      cases st with
      | none => exact ⟨_, _, hD.1.choose_spec⟩
      | some g =>
        obtain ⟨dD, box, h1, _⟩ := hD
        exact ⟨dD, _, h1⟩
    refine ⟨_, rfl, x, CC, dx, _, _, rfl, c1, TC.cl, TC.nO, callF_o, rfl, _, rfl, ?_⟩
    rcases hc with ⟨rfl, n, rfl, rfl⟩ | ⟨hp1, hp2, hcl⟩
    · refine ite2 (fun _ => ?_) (fun z => absurd rfl z)
      have o : DoneOut K P0 CD C CR a st D H Q E (if n < 1 ∨ (Sr80.POINTS : Int) < n then (st, Sr82.say (-22)) else (some (newG n.toNat), Sr82.say 0)) := o
      have h6 : (Sr80.POINTS : Int) = 6 := rfl
      refine ⟨_, rfl, a, dD, _, rfl, hI, deskF_no, _, rfl, x, CC, dx, _, _, rfl, c1, TC.cl, TC.nN, callF_n, b, _, _, _, rfl, rfl, SqL.of c2, rfl, a, dD, v, n, rfl, hI, fun bad => ?_, fun good H' q box D' h1 h2 h3 h4 h4' h5 => ?_⟩
      · rw [if_pos (by omega)] at o
        exact o.raised hT
      · rw [if_neg (by omega)] at o
        refine o.ret H' q D' ⟨fun y u e nD hu => h3 _ _ e fun z => nD (by rw [List.mem_singleton.mp z]; exact List.mem_cons_self), tabs_ins hT h3 hI⟩ ⟨dD, box, h1, h2, EH.gok_new (by omega) (by omega)⟩ (fun y hy => Or.inr (h4 y hy)) (fun y u e nD hu => h4' y u e (fun z => nD (by rw [List.mem_singleton.mp z]; exact List.mem_cons_self)) hu) h5
    · refine ite2 (fun z => ?_) (fun _ => ?_)
      · have z := of_decide_eq_true z
        injection z with z
        omega
      rw [cl_step hcl] at o
      refine ⟨_, rfl, a, CD, dD, _, _, rfl, hI, TD.cl, TD.nB, deskF_b, ?_⟩
      cases st with
      | none =>
        obtain ⟨⟨dD', h1⟩, h2⟩ := hD
        rw [hI] at h1
        cases h1
        refine ⟨_, rfl, ite2 (fun _ => ?_) (fun z => absurd rfl z)⟩
        exact ⟨_, rfl, raised R.t (o.raised hT)⟩
      | some g =>
        obtain ⟨dD', box, h1, hB, ok⟩ := hD
        rw [hI] at h1
        cases h1
        have o : DoneOut K P0 CD C CR a (some g) D H Q E (some ((Sr82.doing g c).1.getD g), (Sr82.doing g c).2) := by
          have e : (match Sr82.doing g c with | (some r, a) => ((some r, a) : Sr82.State × Sr66.Ans) | (none, a) => (some g, a)) = (some ((Sr82.doing g c).1.getD g), (Sr82.doing g c).2) := by
            cases Sr82.doing g c with
            | mk r s => cases r <;> rfl
          rw [← e]
          exact o
        refine ⟨_, rfl, ite2 (fun z => by have := of_decide_eq_true z; cases this) fun _ => ?_⟩
        have hf : p - 1 < fs.length := by omega
        obtain ⟨fo, ef⟩ : ∃ fo, fs[p - 1]? = some fo := ⟨_, List.getElem?_eq_getElem hf⟩
        have m1 : atI (fs.map V.ref) ((p : Int) - 1) = some (.ref fo) := by
          have e1 : (p : Int) - 1 = ((p - 1 : Nat) : Int) := by omega
          rw [e1]
          exact at_of rfl (by rw [List.getElem?_map, ef]; rfl)
        have haD : a ∉ D := fun z => by
          obtain ⟨_, l', sx, rs, ss, g1, g2, g3, _, g5, _⟩ := hB.ex
          rw [g5] at z
          rcases List.mem_cons.mp z with y | y
          · rw [y, g3] at hI
            cases hI
          · obtain ⟨k, ek⟩ := List.getElem?_of_mem y
            rw [g2.row k a ek] at hI
            cases hI
        refine ⟨_, rfl, x, CC, dx, _, _, rfl, c1, TC.cl, TC.nO, callF_o, _, _, rfl, rfl, A0.ops, _, _, _, rfl, rfl, o1 H, m1, ?_⟩
        refine ⟨fo, _, rfl, ⟨p - 1, ef, rfl⟩, _, rfl, a, CD, dD, _, _, rfl, hI, TD.cl, TD.nB, deskF_b, _, rfl, x, CC, dx, _, _, rfl, c1, TC.cl, TC.nN, callF_n, _, rfl, x, CC, dx, _, _, rfl, c1, TC.cl, TC.nR, callF_r, ?_⟩
        refine ⟨box, b, d, g, D, ns, row, c, rfl, hB, ok, SqL.of c2, SqL.of c3, hT, hcl, b1, b2, b3, fun H' q kp hB' np hq => ?_, fun er en H' dd eN T' he => ?_⟩
        · refine o.ret H' q D ⟨fun y u e nD hu => kp.ext y u e (fun z => nD (List.mem_cons_of_mem _ z)) hu, kp.tab⟩ ⟨dD, box, kp.ext _ _ hI haD (fun ps z => by cases z), hB', ?_⟩ (fun y hy => Or.inl hy) (fun y u e nD hu => np y u e (fun z => nD (List.mem_cons_of_mem _ z)) hu) hq
          cases hr : (Sr82.doing g c).1 with
          | none => exact ok
          | some g' => exact EH.doing_ok ok hr
        · refine o.exc ?_ en H' dd eN T' he
          show some ((Sr82.doing g c).1.getD g) = some g
          rw [er]
          rfl
omit B G in
theorem df_answer {f : Addr} {fd : FuncData} (hm : Meth K CD "answer" f) (F : Fun K "answer" "Desk.answer" s_Desk_answer f fd) (TD : DeskT K CD) (R : RefT K mg CR) (c_done : DfM P w K mg base (L2.CX P w) 9 CD "done" (spDone K P0 CD C CR CC)) :
    DfM P w K mg base CX0 10 CD "answer" (spAnswer K P0 CD C CC) := by
  refine ⟨f, fd, ["self", "call"], F.ok sc_Desk_answer (fun vs H Q E h => ?_) (fun cdv A outer s H vs Q E hr h => ⟨_,
    pss_one (ps_try_as (i := 2) (tb := fun W => tRet (tMethT CD "done" (spDone K P0 CD C CR CC) (WE W) (tVar 0) (tCons (tVar 1) tNil))) (ts := fun a cls d => tRet (tLst (tCons (tXf a cls d CR "code" (tVar 2)) tNil))) (Wout := fun _ _ _ _ => False) rfl rfl sc_Desk_answer.nd rfl rfl ⟨rfl, by decide, Or.inl R.gm⟩ takes0
      (fun W pn xe tk _ => pss_one (ps_ret (by exact (pe_methT (pv 0) TD.cl c_done hr (by decide) (fun σ => passAt tk σ) (by exact (pa_cons (pv 1) pa_nil))))))
      (fun a oe cls d pn hz hf => pss_one (ps_ret (by exact (pe_lst (pa_cons (pe_xf R.xf R.noC hz hf (pv 2)) pa_nil)))))), ?_⟩), hm, F.binds fun _ _ _ _ _ _ us hl => match us, hl with | [_, _], _ => rfl⟩
  · obtain ⟨a, x, st, D, p, e, ns, row, c, rfl, _⟩ := h
    rfl
  · obtain ⟨a, x, st, D, p, e, ns, row, c, rfl, hD, hC, hT, hc, b1, b2, b3, k⟩ := h
    obtain ⟨dD, v, hI⟩ : ∃ dD v, H a = some (.ins CD dD (deskF v)) := by
      cases st with
      | none => exact ⟨_, _, hD.1.choose_spec⟩
      | some g =>
        obtain ⟨dD, box, h1, _⟩ := hD
        exact ⟨dD, _, h1⟩
    refine ⟨_, rfl, a, dD, _, rfl, hI, deskF_no, _, rfl, a, x, st, D, p, e, ns, row, c, rfl, hD, hC, hT, hc, b1, b2, b3, fun H' q D' h1 h2 h3 h3' h4 => k H' q D' h1 h2 h3 h3' h4, fun er en H' d eN T' he => ?_⟩
    refine ⟨true, R.te, fun _ a0 ha0 => ?_, fun q => Bool.noConfusion q⟩
    have lk : List.lookup ("code" : Str) [(("code" : Str), V.int (Sr82.step st c).2.num)] = some (V.int (Sr82.step st c).2.num) := by simp [List.lookup]
    refine ⟨_, rfl, rfl, rfl, d, _, _, rfl, he, lk, by show 1 ≤ sizeLine; decide, fun q newq => ?_⟩
    have s2 := same_upd (o := .lst [V.int (Sr82.step st c).2.num]) newq
    have eN2 := eN.trans (LamX.ExtN.of s2)
    refine k _ q D ⟨fun b u e _ hu => eN2 b u e hu, T'.ext s2⟩ (by rw [er]; exact hD.extN eN2) (fun y hy => Or.inl hy) (newp_of eN newq) ?_
    unfold IntsL
    rw [upd_same, en]
    rfl
end
end EW
end

/-! ## EwTp3 -/
section
set_option Elab.async false
set_option linter.all false
set_option maxRecDepth 100000
set_option maxHeartbeats 2000000
set_option autoImplicit false
/-! All calls of a list. -/
namespace EW
open PySem PySem.Spec PyProof.Rows L2
open Sr58 (Frac)
open Sr82 (Ground)
open EH (GOk CallAtI)
local macro_rules | `(tactic| walk_at "rd") => `(tactic| repeat (first | refine ⟨rfl, ?_⟩ | apply Exists.intro | refine ⟨by assumption, ?_⟩))
abbrev s_answers : Stmt := top 97
theorem sc_answers : FnScope ["calls", "desk", "found", "at", "call", "answer"] ["calls"] (defScope s_answers) := ⟨rfl, rfl, rfl, by decide +kernel, rfl, by decide +kernel, by decide +kernel⟩
theorem inb_of {l : List Int} (h : Sr82Neutral.wholes l = true) : inb l := fun x hx => by
  unfold Sr82Neutral.wholes at h
  rw [List.all_eq_true] at h
  have := h x hx
  unfold Sr82Neutral.whole at this
  rw [Bool.and_eq_true, decide_eq_true_eq, decide_eq_true_eq] at this
  omega
theorem row_of {l : List Int} (h : Sr82Neutral.row l = true) : inb l ∧ l.length ≤ 70 := by
  unfold Sr82Neutral.row at h
  rw [Bool.and_eq_true, decide_eq_true_eq] at h
  exact ⟨inb_of h.1, h.2⟩
theorem asked_call {many : Nat} {b : Bool} {ns row : List Int} (hn : ns.length = many) (hr : b = false → row = []) : ∀ (p : Nat), EH.forms[p]? = some (many, b) → Sr82Neutral.asked1 (((p : Int) :: ns) :: if b = true then [row] else []) = true →
    ∃ x, Sr82Neutral.callOf (((p : Int) :: ns) :: if b = true then [row] else []) = some x ∧ IsCall p ns row x ∧ inb ns ∧ inb row ∧ row.length ≤ 70
  | 0, hf, h => by
    cases hf
    match ns, hn with
    | [x0], _ =>
      have h : Sr82Neutral.wholes [x0] = true := h
      exact ⟨.begin_ x0, rfl, Or.inl ⟨rfl, x0, rfl, rfl⟩, inb_of h, by rw [hr rfl]; exact (fun x hx => by simp at hx), by rw [hr rfl]; decide⟩
  | 1, hf, h => by
    cases hf
    match ns, hn with
    | [x0, x1, x2], _ =>
      have h : Sr82Neutral.wholes [x0, x1, x2] = true := h
      exact ⟨.way x0 x1 x2, rfl, Or.inr ⟨by decide, by decide, x0, x1, x2, rfl, rfl⟩, inb_of h, by rw [hr rfl]; exact (fun x hx => by simp at hx), by rw [hr rfl]; decide⟩
  | 2, hf, h => by
    cases hf
    match ns, hn with
    | [x0], _ =>
      have h : (Sr82Neutral.wholes [x0] && Sr82Neutral.row row) = true := h
      rw [Bool.and_eq_true] at h
      exact ⟨.spread x0 row, rfl, Or.inr ⟨by decide, by decide, x0, rfl, rfl⟩, inb_of h.1, (row_of h.2).1, (row_of h.2).2⟩
  | 3, hf, h => by
    cases hf
    match ns, hn with
    | [x0], _ =>
      have h : Sr82Neutral.wholes [x0] = true := h
      exact ⟨.told x0, rfl, Or.inr ⟨by decide, by decide, x0, rfl, rfl⟩, inb_of h, by rw [hr rfl]; exact (fun x hx => by simp at hx), by rw [hr rfl]; decide⟩
  | 4, hf, h => by
    cases hf
    match ns, hn with
    | [x0, x1], _ =>
      have h : Sr82Neutral.wholes [x0, x1] = true := h
      exact ⟨.far x0 x1, rfl, Or.inr ⟨by decide, by decide, x0, x1, rfl, rfl⟩, inb_of h, by rw [hr rfl]; exact (fun x hx => by simp at hx), by rw [hr rfl]; decide⟩
  | 5, hf, h => by
    cases hf
    match ns, hn with
    | [x0, x1], _ =>
      have h : Sr82Neutral.wholes [x0, x1] = true := h
      exact ⟨.least x0 x1, rfl, Or.inr ⟨by decide, by decide, x0, x1, rfl, rfl⟩, inb_of h, by rw [hr rfl]; exact (fun x hx => by simp at hx), by rw [hr rfl]; decide⟩
  | 6, hf, h => by
    cases hf
    match ns, hn with
    | [x0, x1], _ =>
      have h : Sr82Neutral.wholes [x0, x1] = true := h
      exact ⟨.plan x0 x1, rfl, Or.inr ⟨by decide, by decide, x0, x1, rfl, rfl⟩, inb_of h, by rw [hr rfl]; exact (fun x hx => by simp at hx), by rw [hr rfl]; decide⟩
  | 7, hf, h => by
    cases hf
    match ns, hn with
    | [x0, x1], _ =>
      have h : Sr82Neutral.wholes [x0, x1] = true := h
      exact ⟨.prices x0 x1, rfl, Or.inr ⟨by decide, by decide, x0, x1, rfl, rfl⟩, inb_of h, by rw [hr rfl]; exact (fun x hx => by simp at hx), by rw [hr rfl]; decide⟩
  | 8, hf, h => by
    cases hf
    match ns, hn with
    | [x0, x1, x2], _ =>
      have h : (Sr82Neutral.wholes [x0, x1, x2] && Sr82Neutral.row row) = true := h
      rw [Bool.and_eq_true] at h
      exact ⟨.test x0 x1 x2 row, rfl, Or.inr ⟨by decide, by decide, x0, x1, x2, rfl, rfl⟩, inb_of h.1, (row_of h.2).1, (row_of h.2).2⟩
  | 9, hf, h => by
    cases hf
    match ns, hn with
    | [x0, x1], _ =>
      have h : (Sr82Neutral.wholes [x0, x1] && Sr82Neutral.row row) = true := h
      rw [Bool.and_eq_true] at h
      exact ⟨.fair x0 x1 row, rfl, Or.inr ⟨by decide, by decide, x0, x1, rfl, rfl⟩, inb_of h.1, (row_of h.2).1, (row_of h.2).2⟩
  | 10, hf, h => by
    cases hf
    match ns, hn with
    | [x0, x1, x2], _ =>
      have h : Sr82Neutral.wholes [x0, x1, x2] = true := h
      exact ⟨.behind x0 x1 x2, rfl, Or.inr ⟨by decide, by decide, x0, x1, x2, rfl, rfl⟩, inb_of h, by rw [hr rfl]; exact (fun x hx => by simp at hx), by rw [hr rfl]; decide⟩
  | 11, hf, h => by
    cases hf
    match ns, hn with
    | [x0, x1], _ =>
      have h : (Sr82Neutral.wholes [x0, x1] && Sr82Neutral.row row) = true := h
      rw [Bool.and_eq_true] at h
      exact ⟨.image x0 x1 row, rfl, Or.inr ⟨by decide, by decide, x0, x1, rfl, rfl⟩, inb_of h.1, (row_of h.2).1, (row_of h.2).2⟩
  | 12, hf, h => by
    cases hf
    match ns, hn with
    | [x0, x1, x2], _ =>
      have h : Sr82Neutral.wholes [x0, x1, x2] = true := h
      exact ⟨.middle x0 x1 x2, rfl, Or.inr ⟨by decide, by decide, x0, x1, x2, rfl, rfl⟩, inb_of h, by rw [hr rfl]; exact (fun x hx => by simp at hx), by rw [hr rfl]; decide⟩
  | 13, hf, h => by
    cases hf
    match ns, hn with
    | [], _ =>
      exact ⟨.hangs, rfl, Or.inr ⟨by decide, by decide, rfl, rfl⟩, (fun x hx => by simp at hx), by rw [hr rfl]; exact (fun x hx => by simp at hx), by rw [hr rfl]; decide⟩
  | p + 14, hf, _ => by cases hf
theorem DeskAt.notD {K : PySem.W.Frag} {CD C x y Cy dx : Addr} {fs : List (Str × V)} {H : Hp} {st : Sr82.State} {D : List Addr} (h : DeskAt K CD C H x st D) (hy : H y = some (.ins Cy dx fs)) : y ∉ D := fun z => by
  cases st with
  | none =>
    rw [h.2] at z
    simp at z
  | some g =>
    obtain ⟨_, box, _, hB, _⟩ := h
    obtain ⟨_, l', sx, rs, ss, g1, g2, g3, _, g5, _⟩ := hB.ex
    rw [g5] at z
    rcases List.mem_cons.mp z with y' | y'
    · rw [y', g3] at hy
      cases hy
    · obtain ⟨k, ek⟩ := List.getElem?_of_mem y'
      rw [g2.row k y ek] at hy
      cases hy
theorem refs_ints {as : List Addr} {out : List Int} (h : as.map V.ref = out.map V.int) : as = [] := by
  cases as with
  | nil => rfl
  | cons a as =>
    cases out with
    | nil => cases h
    | cons z out => cases (List.cons.inj h).1
theorem DeskAt.updF {K : PySem.W.Frag} {CD C x F : Addr} {H : Hp} {st : Sr82.State} {D : List Addr} {out : List Int} {o : HO} (h : DeskAt K CD C H x st D) (hF : H F = some (.lst (out.map V.int))) (hFD : F ∉ D) (hFx : F ≠ x) : DeskAt K CD C (upd H F o) x st D := by
  have ins : ∀ {y Cy dx : Addr} {fs : List (Str × V)}, H y = some (.ins Cy dx fs) → upd H F o y = some (.ins Cy dx fs) := fun {y Cy dx fs} e => by
    rw [upd_ne (fun z => by rw [z, hF] at e; cases e)]
    exact e
  cases st with
  | none =>
    obtain ⟨⟨dx, h1⟩, h2⟩ := h
    exact ⟨⟨dx, ins h1⟩, h2⟩
  | some g =>
    obtain ⟨dx, box, h1, hB, ok⟩ := h
    obtain ⟨dx', l, s, rs, ss, g1, g2, g3, g4, g5, g6, g7, g8⟩ := hB.ex
    have hFs : s ≠ F := fun z => hFD (by rw [g5, ← z]; exact List.mem_cons_self)
    refine ⟨dx, box, ins h1, ⟨dx', l, s, rs, ss, ins g1, g2.off (qs := [F]) (Off.upd (List.mem_singleton.mpr rfl)) (fun z => ?_) (fun r hr z => hFD (by rw [g5, ← List.mem_singleton.mp z]; exact List.mem_cons_of_mem _ hr)), by rw [upd_ne hFs]; exact g3, ?_, g5, g6, g7, g8⟩, ok⟩
    · have h3 := g2.top
      rw [List.mem_singleton.mp z, hF] at h3
      have h3 : out.map V.int = rs.map V.ref := by injection Option.some.inj h3
      have h4 := refs_ints h3.symm
      have e := g2.len
      rw [h4] at e
      have e : 0 = g.n := e
      have := ok.n0
      omega
    · have key : ∀ {as : List Addr} {xs : List (List Frac)}, (∀ x ∈ xs, EH.SprOk g.n x) → Paired (FracsAt K H) as xs → Paired (FracsAt K (upd H F o)) as xs := by
        intro as xs hx hp
        induction hp with
        | nil => exact .nil
        | @cons t y as xs r q ih =>
          refine .cons (fracs_upd r (fun z => ?_) (fun zs e => by rw [hF] at e; cases e) fun u zs e => by rw [hF] at e; cases e) (ih fun w hw => hx w (List.mem_cons_of_mem _ hw))
          obtain ⟨bs, q1, q2⟩ := r
          rw [z, hF] at q1
          have q1 : out.map V.int = bs.map V.ref := by injection Option.some.inj q1
          have q3 := refs_ints q1.symm
          obtain ⟨L, A, hA, _⟩ := hx y List.mem_cons_self
          have q4 := Paired.length q2
          rw [q3, hA.len] at q4
          have := ok.n0
          simp at q4
          omega
      exact key ok.slots g4
/-- what is asked of the list -/
theorem asked_list {ls : List Int} (h : PySr82.answers_asked ls = true) : ∃ raw, PyFlat.calls PySr82.shape ls.length ls = some raw ∧ (∀ c ∈ raw, Sr82Neutral.asked1 c = true) ∧ PySr82.answers ls = PyFlat.told (PyFlat.played Sr82Neutral.step Sr82Neutral.start raw) ∧ (PySr82.answers ls).length ≤ 10000000 := by
  unfold PySr82.answers_asked at h
  cases e : PyFlat.calls PySr82.shape ls.length ls with
  | none => rw [e] at h; cases h
  | some raw =>
    rw [e] at h
    dsimp only at h
    rw [Bool.and_eq_true, Bool.and_eq_true, Bool.and_eq_true, Bool.and_eq_true] at h
    obtain ⟨⟨⟨⟨h1, h2⟩, h3⟩, h4⟩, h5⟩ := h
    have ew : raw.map PySr82.whole = raw := by
      have : (PySr82.whole : List (List Int) → List (List Int)) = id := funext EH.whole_id
      rw [this, List.map_id]
    rw [ew] at h4
    unfold Sr82Neutral.asked at h4
    rw [Bool.and_eq_true, Bool.and_eq_true, List.all_eq_true] at h4
    refine ⟨raw, rfl, h4.2.2, ?_, ?_⟩
    · unfold PySr82.answers PySr82.calls
      rw [e]
      dsimp only
      rw [ew]
    · unfold PyFlat.short at h5
      exact of_decide_eq_true h5
def spAnswers (K : PySem.W.Frag) (P0 : Addr) : Sp := fun vs H Q _ => ∃ (a : Addr) (ls : List Int), vs = [.ref a] ∧ SqL K H a (ls.map V.int) ∧ PySr82.answers_asked ls = true ∧ LamX.Tabs (TN P0) H ∧
  ∀ (H' : Hp) (p : Addr), H' p = some (.lst ((PySr82.answers ls).map V.int)) → Q (.ref p) H'
section
variable {P : Program} {w : World} {K : PySem.W.Frag} {mg : Str → Option Value} {base : Heap} (B : Nb mg) {A0 : Ad} (G : Gs K mg A0) {P0 C CR CC CD : Addr}
include B G
theorem df_answers {f : Addr} {fd : FuncData} (F : Fun K "answers" "answers" s_answers f fd) (TD : DeskT K CD) (TC : CallT K CC) (c_Desk : MkD P w K mg base 1 "Desk" CD (spDInit CD)) (c_call_at : Df P w K mg base CX0 3 "call_at" (spCallAt K CC)) (c_answer : DfM P w K mg base CX0 10 CD "answer" (spAnswer K P0 CD C CC)) :
    FnOk P w K mg base CX0 11 f fd ["calls"] (spAnswers K P0) := by
  refine F.ok sc_answers (fun vs H Q E h => ?_) (fun cdv A outer s H vs Q E hr h => ⟨_,
(pss_cons (ps_set (i := 1) sc_answers.nd rfl (Or.inl rfl) (pe_mk0 c_Desk hr (by decide) rfl))
 (pss_cons (ps_set (i := 2) sc_answers.nd rfl (Or.inl rfl) (pe_lst pa_nil))
 (pss_cons (ps_set (i := 3) sc_answers.nd rfl (Or.inl rfl) pe_int)
 (pss_cons (ps_while PassesOwn.never (pt_cmpR op_lt (pv 3) (pe_callB call_len_seq (by rfl) B.len_ (by decide +kernel) (pa_cons (pv 0) pa_nil)) (nomark _)) (pss_cons (ps_set (i := 4) sc_answers.nd rfl (Or.inl rfl) (pe_c0 c_call_at hr (by decide) rfl (pa_cons (pv 0) (pa_cons (pv 3) pa_nil))))
 (pss_cons (ps_set (i := 5) sc_answers.nd rfl (Or.inl rfl) (pe_mm c_answer TD.cl hr (by decide) (pv 1) (pa_cons (pv 4) pa_nil)))
 (pss_cons (ps_expr (pe_bm PySem.F.plainAttrs_list PySem.F.slot_list_append PySem.F.type_list_append mt_append (pv 2) (pa_cons (pe_callB call_len_seq (by rfl) B.len_ (by decide +kernel) (pa_cons (pv 5) pa_nil)) pa_nil)))
 (pss_cons (ps_expr (pe_bm PySem.F.plainAttrs_list PySem.F.slot_list_extend PySem.F.type_list_extend mt_extend (pv 2) (pa_cons (pv 5) pa_nil)))
 (pss_one (ps_set (i := 3) sc_answers.nd rfl (Or.inl rfl) (pe_fld (pv 4) rfl))))))))
 (pss_one (ps_ret (pv 2)))))))
   , ?_⟩)
  · obtain ⟨a, ls, rfl, _⟩ := h
    rfl
  · obtain ⟨a, ls, rfl, hs, hask, hT, k⟩ := h
    obtain ⟨raw, hraw, hall, hans, hlen⟩ := asked_list hask
    intro x dx nx ndx nex
    refine ⟨x, dx, rfl, upd_same, rfl, ?_⟩
    rw [upd_upd]
    have s1 : Same H (upd (upd H dx (.own x)) x (.ins CD dx (deskF .non))) := fun y u q => by
      rw [upd_ne (ne_of_none q nx), upd_ne (ne_of_none q ndx)]
      exact q
    have x1 : upd (upd H dx (.own x)) x (.ins CD dx (deskF .non)) x = some (.ins CD dx (deskF .non)) := upd_same
    generalize upd (upd H dx (.own x)) x (.ins CD dx (deskF .non)) = H1 at s1 x1
    refine ⟨by show 0 ≤ sizeLine; decide, fun F newF => ?_⟩
    have s2 := same_upd (o := .lst []) newF
    have eF : upd H1 F (.lst []) F = some (.lst (([] : List Int).map V.int)) := upd_same
    have hxF : x ≠ F := ne_of_none x1 newF
    generalize upd H1 F (.lst []) = H2 at s2 eF
    have s12 := s1.trans s2
    have hF0 : H F = none := s1.free newF
    refine while_by (fun σ H' => ∃ (i : Nat) (o4 o5 : Option V) (D : List Addr) (st : Sr82.State) (cs : List (List (List Int))) (f' : Nat) (out : List Int), σ = [some (.ref a), some (.ref x), some (.ref F), some (.int (i : Int)), o4, o5] ∧ LamX.ExtN H H' ∧ LamX.Tabs (TN P0) H' ∧ DeskAt K CD C H' x st D ∧
        (∀ y ∈ D, ∀ u, H y = some u → ∃ ps, u = .tbl ps) ∧ F ∉ D ∧ H' F = some (.lst (out.map V.int)) ∧ PyFlat.calls PySr82.shape f' (ls.drop i) = some cs ∧ (∀ c ∈ cs, Sr82Neutral.asked1 c = true) ∧ PySr82.answers ls = out ++ PyFlat.told (PyFlat.played Sr82Neutral.step st cs) ∧ i ≤ ls.length)
      (fun σ _ => match σ with | [_, _, _, some (.int i), _, _] => ls.length - i.toNat | _ => 0)
      ⟨0, none, none, [], none, raw, ls.length, [], rfl, LamX.ExtN.of s12, hT.ext s12, ⟨⟨dx, s2 _ _ x1⟩, rfl⟩, fun y hy => by simp at hy, by simp, eF, by rw [List.drop_zero]; exact hraw, hall, by rw [List.nil_append]; exact hans, Nat.zero_le _⟩ ?_ ?_
    · rintro σ H' ⟨i, o4, o5, D, st, cs, f', out, rfl, eN, T', hD, hDn, hFD, hF, hcs, hall', hans', hi⟩
      have hs' := sqL_extN eN hs
      refine ⟨_, rfl, _, rfl, a, _, rfl, .inl hs', ?_⟩
      rw [List.length_map]
      refine ⟨_, _, rfl, rfl, _, rfl, ?_⟩
      refine ite2 (fun c1 => ?_) (fun c1 => ?_)
      · have c1 : i < ls.length := by
          have := of_decide_eq_true c1
          omega
        cases cs with
        | nil =>
          have := EH.flat_end hcs
          omega
        | cons c cs =>
          obtain ⟨p, many, b, ns, row, e, f2, hC, rfl, hcs2, hle, hie⟩ := EH.flat_next hcs
          have hnl : ns.length = many := by
            have := hC.len
            rw [hC.nums, List.length_take, List.length_drop]
            omega
          obtain ⟨c', hco, hIs, b1, b2, b3⟩ := asked_call hnl (fun z => (hC.no z).1) p hC.form (hall' _ List.mem_cons_self)
          refine ⟨_, rfl, _, rfl, a, ls, i, p, many, b, ns, row, e, rfl, hs', hC, fun H3 y s3 hy => ?_⟩
          have hD3 := hD.extN (LamX.ExtN.of s3)
          have hF3 := s3 _ _ hF
          obtain ⟨dD, v, hI⟩ : ∃ dD v, H3 x = some (.ins CD dD (deskF v)) := by
            cases st with
            | none => exact ⟨_, _, hD3.1.choose_spec⟩
            | some g =>
              obtain ⟨dD, box, h1, _⟩ := hD3
              exact ⟨dD, _, h1⟩
          refine ⟨_, rfl, x, dD, _, rfl, hI, deskF_no, _, rfl, x, y, st, D, p, e, ns, row, c', rfl, hD3, hy, T'.ext s3, hIs, b1, b2, b3, fun H4 q D' kp hD4 hDn' np hq => ?_⟩
          have hFx : F ∉ x :: D := fun z => by
            rcases List.mem_cons.mp z with z | z
            · exact hxF z.symm
            · exact hFD z
          have hF4 : H4 F = some (.lst (out.map V.int)) := kp.ext _ _ hF3 hFx fun ps z => by cases z
          have hqF : F ≠ q := np _ _ hF3 hFx fun ps z => by cases z
          obtain ⟨dxc, bb, dd, y1, y2, y3⟩ := hy.ex
          have hyx : y ∉ x :: D := fun z => by
            rcases List.mem_cons.mp z with z | z
            · rw [z, hI] at y1
              have := Option.some.inj y1
              injection this with z1 z2 z3
              have := congrArg List.length z3
              simp at this
            · exact hD3.notD y1 z
          have y4 : H4 y = some (.ins CC dxc (callF (.int (p : Int)) (.ref bb) (.ref dd) (.int (e : Int)))) := kp.ext _ _ y1 hyx fun ps z => by cases z
          have hyF : y ≠ F := fun z => by
            rw [z, hF4] at y4
            cases y4
          -- the answer, and what is told then
          have hst : Sr82Neutral.step st (((p : Int) :: ns) :: if b = true then [row] else []) = ((Sr82.step st c').1, (Sr82.step st c').2.num :: (Sr82.step st c').2.nums) := by
            unfold Sr82Neutral.step
            rw [hco]
          have hans2 : PySr82.answers ls = (out ++ [(((Sr82.step st c').2.num :: (Sr82.step st c').2.nums).length : Int)] ++ ((Sr82.step st c').2.num :: (Sr82.step st c').2.nums)) ++ PyFlat.told (PyFlat.played Sr82Neutral.step (Sr82.step st c').1 cs) := by
            rw [hans']
            have e1 : PyFlat.played Sr82Neutral.step st ((((p : Int) :: ns) :: if b = true then [row] else []) :: cs) = (Sr82Neutral.step st (((p : Int) :: ns) :: if b = true then [row] else [])).2 :: PyFlat.played Sr82Neutral.step (Sr82Neutral.step st (((p : Int) :: ns) :: if b = true then [row] else [])).1 cs := rfl
            rw [e1, hst]
            unfold PyFlat.told
            rw [List.flatMap_cons]
            simp only [List.append_assoc, List.cons_append, List.nil_append]
          generalize (Sr82.step st c').2.num :: (Sr82.step st c').2.nums = ans at hq hans2
          have hsz : out.length + 1 + ans.length ≤ 10000000 := by
            have := congrArg List.length hans2
            rw [List.length_append, List.length_append, List.length_append] at this
            have e1 : [(ans.length : Int)].length = 1 := rfl
            omega
          have hline : sizeLine = 16777216 := sizeLine_eq
          refine ⟨_, rfl, .inl ⟨rfl, _, SqL.of hF4⟩, _, rfl, q, _, rfl, .inl (SqL.of hq), F, _, _, rfl, rfl, hF4, by rw [List.length_map]; omega, ?_⟩
          have hq5 : upd H4 F (.lst (out.map V.int ++ [V.int ((ans.map V.int).length : Int)])) q = some (.lst (ans.map V.int)) := by
            rw [upd_ne (Ne.symm hqF)]
            exact hq
          refine ⟨_, rfl, .inl ⟨rfl, _, SqL.of upd_same⟩, _, rfl, F, q, _, _, rfl, rfl, upd_same, hq5, ?_, ?_⟩
          · rw [List.length_append, List.length_map, List.length_map]
            show out.length + 1 + ans.length ≤ sizeLine
            omega
          rw [upd_upd]
          have oF : Off [F] H4 (upd H4 F (.lst (out.map V.int ++ [V.int ((ans.map V.int).length : Int)] ++ ans.map V.int))) := Off.upd (List.mem_singleton.mpr rfl)
          have eF6 : upd H4 F (.lst (out.map V.int ++ [V.int ((ans.map V.int).length : Int)] ++ ans.map V.int)) F = some (.lst ((out ++ [(ans.length : Int)] ++ ans).map V.int)) := by
            rw [upd_same, List.length_map, List.map_append, List.map_append]
            rfl
          have hFD' : F ∉ D' := fun z => by
            rcases hDn' F z with z | z
            · exact hFD z
            · rw [hF3] at z
              cases z
          have hD6 := hD4.updF hF4 hFD' (Ne.symm hxF) (o := .lst (out.map V.int ++ [V.int ((ans.map V.int).length : Int)] ++ ans.map V.int))
          generalize upd H4 F (.lst (out.map V.int ++ [V.int ((ans.map V.int).length : Int)] ++ ans.map V.int)) = H6 at oF eF6 hD6
          have y6 : H6 y = _ := oF _ _ y4 fun z => hyF (List.mem_singleton.mp z)
          refine ⟨_, rfl, y, CC, dxc, _, _, rfl, y6, TC.cl, TC.nE, callF_e, ⟨e, _, _, D', _, cs, f2, _, rfl, fun z u hz hu => ?_, ?_, hD6, ?_, hFD', eF6, hcs2, fun c hc => hall' c (List.mem_cons_of_mem _ hc), hans2, hle⟩, ?_⟩
          · have h1 := s3 _ _ (eN z u hz hu)
            have h2 : z ∉ x :: D := fun y => by
              rcases List.mem_cons.mp y with y | y
              · rw [y, nx] at hz
                cases hz
              · obtain ⟨ps, e⟩ := hDn z y u hz
                exact hu ps e
            exact oF _ _ (kp.ext z u h1 h2 hu) fun y => by
              rw [List.mem_singleton.mp y, hF0] at hz
              cases hz
          · exact tabs_off kp.tab oF fun r hr => ⟨out.map V.int, by rw [List.mem_singleton.mp hr]; exact hF4⟩
          · intro z hz u hu
            rcases hDn' z hz with y | y
            · exact hDn z y u hu
            · refine Classical.byContradiction fun hno => ?_
              have := s3 _ _ (eN z u hu fun ps e => hno ⟨ps, e⟩)
              rw [y] at this
              cases this
          · show ls.length - ((e : Int)).toNat < ls.length - ((i : Int)).toNat
            rw [Int.toNat_natCast, Int.toNat_natCast]
            omega
      · have c1 : ¬ i < ls.length := fun z => c1 (decide_eq_true (by omega))
        have hcs0 : cs = [] := by
          rw [List.drop_eq_nil_of_le (by omega)] at hcs
          cases f' <;> exact (Option.some.inj hcs).symm
        subst hcs0
        have he : PySr82.answers ls = out := by
          rw [hans']
          show out ++ [] = out
          rw [List.append_nil]
        exact ⟨_, rfl, k H' F (by rw [he]; exact hF)⟩
    · rintro σ H' Q Q' i ⟨x1, e1, x2, e2, p1, ys, f1, f2, i1, j1, g1, g2, k1, k2, q⟩
      exact ⟨x1, e1, x2, e2, p1, ys, f1, f2, i1, j1, g1, g2, k1, k2, i _ _ q⟩
end
end EW
end

/-! ## EwEnd -/
section
set_option Elab.async false
set_option linter.all false
set_option maxRecDepth 100000
set_option maxHeartbeats 2000000
set_option autoImplicit false
/-! The end of a Spec row whose defs make lambdas: the arguments as data, the tables of the code objects tracked. -/
namespace EWT
open PySem PySem.Spec PyProof.Rows L2
open PySem.W (WData Codec OpenSpec Well WellAll ReadsW ReadsAllW)
theorem sqL_same {K : PySem.W.Frag} {H H' : Hp} {a : Addr} {xs : List V} (e : Same H H') (h : SqL K H a xs) : SqL K H' a xs := by
  rcases h with (h | ⟨u, h⟩) | h
  · exact .inl (.inl (e _ _ h))
  · exact .inl (.inr ⟨u, e _ _ h⟩)
  · exact .inr h
theorem sqT_same {K : PySem.W.Frag} {H H' : Hp} {a : Addr} {xs : List V} (e : Same H H') (h : SqT K H a xs) : SqT K H' a xs := by
  rcases h with (h | ⟨u, h⟩) | h
  · exact .inl (.inl (e _ _ h))
  · exact .inl (.inr ⟨u, e _ _ h⟩)
  · exact .inr h
mutual
theorem dw_same {K : PySem.W.Frag} {H H' : Hp} (e : Same H H') : ∀ {v : V} {d : WData}, Dw K H v d → Dw K H' v d
  | _, _, .non => .non
  | _, _, .bl b => .bl b
  | _, _, .int i => .int i
  | _, _, .str x => .str x
  | _, _, .byt b => .byt b
  | _, _, .lst h hs => .lst (sqL_same e h) (dwAll_same e hs)
  | _, _, .tup h hs => .tup (sqT_same e h) (dwAll_same e hs)
theorem dwAll_same {K : PySem.W.Frag} {H H' : Hp} (e : Same H H') : ∀ {vs : List V} {ds : List WData}, DwAll K H vs ds → DwAll K H' vs ds
  | _, _, .nil => .nil
  | _, _, .cons h hs => .cons (dw_same e h) (dwAll_same e hs)
end
theorem spec_callT {P : Program} {w : World} {K : PySem.W.Frag} {mg mb : Str → Option Value} {CX : CXT} {k : Nat} {fa c0 P0 : Addr} {fd : FuncData} {ps : List Str} {sp : Sp} {s₁ : Shared} {vals : List Value} {ds : List WData} {R : PySem.W.WRecords} {cl : Str → Option Addr} {d0 : WData}
    (KX : K.In s₁.heap) (hns : s₁.heap.Ns mainGlobals mg) (hb : s₁.heap.Ns builtinsNs mb) (hbb : ∀ x : Str, x ≠ "__name__" → mb x = bootBuiltins x) (hlim : s₁.heap.NoLimit) (hg : s₁.gens = #[])
    (hT : s₁.heap.get? P0 = some { cls := .none, data := .fields #[] }) (nT : K.lookup P0 = none) (C : PySem.W.CodeHd s₁.heap c0 P0)
    (hbm : ∃ (bm : Addr) (ob : Obj), mg "__builtins__" = some (.ref bm) ∧ bm ≠ builtinsNs ∧ s₁.heap.get? bm = some ob ∧ ob.cls = .type "module" ∧ ob.dict = some builtinsNs ∧ ob.data = .plain)
    (hwl : WellAll w.params s₁.heap vals ds) (hpl : plWs ds = true) (hwt : ∀ d ∈ ds, d.weight ≤ 1048576) (hr : Room k callerA)
    (F : ∀ base : Heap, K.In base → base.Ns mainGlobals mg → LamX.TabB base mg c0 P0 → FnOk P w K mg base CX k fa fd ps sp) (hbind : ∀ (s : Shared) (us : List Value), us.length = ps.length → BindsTo s fd ⟨us, []⟩ (ps.zip us)) (hlen : ds.length = ps.length)
    (hsp : ∀ (H : Hp) (xs : List V), H P0 = some (.tbl #[]) → DwAll K H xs ds → sp xs H (fun v H' => Dw K H' v d0) fun _ _ _ => False)
    (hCX : ∀ H e s', CX [] H s₁ (fun _ _ _ => False) e s' → False) :
    codeAny (model P w) callerA (.call (.ref fa) ⟨vals, []⟩) (fun r s' => ∃ u as, r = .ok (.ret u) ∧ ReadsW R cl s'.heap u d0 as ∧ OldK s₁.heap s'.heap ∧ s'.os = s₁.os ∧ AllBare s'.gens) s₁ := by
  obtain ⟨A, ho, ar⟩ := area_all ds vals hwl hpl hwt
  have hO0 : OnlyF (argH K s₁.heap A) := argH_only ar
  have hok0 : HOk P w (argH K s₁.heap A) s₁.heap := argH_ok ar
  have hS0 := dw_all KX ar ds vals hwl hpl ho
  have hV := vals_toV ho
  have noF : ∀ b u, argH K s₁.heap A b = some u → K.lookup b = none ∧ b ≠ P0 ∧ (∀ o, s₁.heap.get? b = some o → ∃ vs, o.data = .seq vs) ∧ ∃ o xs, u = .frz o (.lst xs) ∨ u = .frz o (.tup xs) := fun b u q => by
    obtain ⟨h0, vs, _, _, h⟩ := argH_is ar q
    have e : ∃ o, s₁.heap.get? b = some o ∧ o.data = .seq vs.toArray ∧ ∃ o xs, u = .frz o (.lst xs) ∨ u = .frz o (.tup xs) := by
      rcases h with ⟨e, e'⟩ | ⟨e, e'⟩
      · exact ⟨_, e, rfl, _, _, .inl e'⟩
      · exact ⟨_, e, rfl, _, _, .inr e'⟩
    obtain ⟨o, e1, e2, e3⟩ := e
    refine ⟨h0, fun z => ?_, fun o' e' => ?_, e3⟩
    · rw [z, hT] at e1
      cases e1
      cases e2
    · rw [e1] at e'
      cases e'
      exact ⟨_, e2⟩
  generalize argH K s₁.heap A = H0 at hO0 hok0 hS0 noF
  obtain ⟨H, eH⟩ : ∃ H : Hp, H = upd H0 P0 (.tbl #[]) := ⟨_, rfl⟩
  have n0 : H0 P0 = none := by
    cases q : H0 P0 with
    | none => rfl
    | some u => exact absurd rfl (noF _ _ q).2.1
  have hP : H P0 = some (.tbl #[]) := by rw [eH, upd_same]
  have ne_ : ∀ b, b ≠ P0 → H b = H0 b := fun b hb => by rw [eH, upd_ne hb]
  have hS : DwAll K H (vals.map toV) ds := dwAll_same (by rw [eH]; exact fun y u q => by rw [upd_ne (ne_of_none q n0)]; exact q) hS0
  have hok : HOk P w H s₁.heap := fun b u q => by
    by_cases z : b = P0
    · rw [z, hP] at q
      cases q
      rw [z]
      exact hT
    · rw [ne_ b z] at q
      obtain ⟨o, xs, e | e⟩ := (noF b u q).2.2.2
      · subst e
        exact hok0 b _ q
      · subst e
        exact hok0 b _ q
  have hO : ∀ b, b ≠ P0 → H b = none ∨ ∃ o u, H b = some (.frz o u) := fun b z => by
    rw [ne_ b z]
    exact hO0 b
  have hK : ∀ b u, H b = some u → K.lookup b = none := fun b u q => by
    by_cases z : b = P0
    · rw [z]
      exact nT
    · rw [ne_ b z] at q
      exact (noF b u q).1
  have noD : ∀ {b : Addr} {o : Obj}, s₁.heap.get? b = some o → (∀ vs, o.data ≠ .seq vs) → o.data ≠ .fields #[] → H b = none := fun {b o} e h1 h2 => by
    cases q : H b with
    | none => rfl
    | some u =>
      by_cases z : b = P0
      · rw [z, hT] at e
        cases e
        exact absurd rfl h2
      · rw [ne_ b z] at q
        obtain ⟨vs, ed⟩ := (noF b u q).2.2.1 o e
        exact absurd ed (h1 vs)
  have noA : ∀ {b : Addr} {o : Obj} {es : Array DictEntry} {ep : Nat}, s₁.heap.get? b = some o → o.data = .dict es ep → H b = none := fun {b o es ep} e d =>
    noD e (fun vs z => by rw [d] at z; cases z) fun z => by rw [d] at z; cases z
  have base_of : ∀ {b : Addr} {o : Obj}, s₁.heap.get? b = some o → H b = none → (hidT s₁.heap H).get? b = some o := fun e n => hidT_get e n
  have nsK : ∀ {b : Addr} {m : Str → Option Value}, s₁.heap.Ns b m → (hidT s₁.heap H).Ns b m := fun {b m} ⟨o, es, ep, e, d, r⟩ => ⟨o, es, ep, base_of e (noA e d), d, r⟩
  have nK : ∀ b o, K.lookup b = some o → H b = none := fun b o e => by
    cases q : H b with
    | none => rfl
    | some u =>
      rw [hK b u q] at e
      cases e
  have hKb : K.In (hidT s₁.heap H) := fun b o e => base_of (KX b o e) (nK b o e)
  have hM : Mod K mg (hidT s₁.heap H) := ⟨hKb, nsK hns, ⟨mb, nsK hb, hbb⟩, let ⟨mc, h1, h2⟩ := hlim; ⟨mc, nsK h1, h2⟩⟩
  have TB : LamX.TabB (hidT s₁.heap H) mg c0 P0 := by
    refine ⟨?_, ?_, fun z => ?_⟩
    · obtain ⟨o, us, file, tf, flags, tg, inF, text, tt, e1, r1, r2, r3, r4, r5, r6, r7, r8, hne⟩ := C
      refine ⟨o, us, file, tf, flags, tg, inF, text, tt, base_of e1 (noD e1 (fun vs z => ?_) fun z => ?_), r1, r2, r3, r4, r5, r6, r7, r8, hne⟩
      · rw [r2] at z
        cases z
      · rw [r2] at z
        cases z
        simp at r3
    · obtain ⟨bm, ob, b1, b2, b3, b4, b5, b6⟩ := hbm
      have nG : bm ≠ mainGlobals := fun q => by
        obtain ⟨o, es, ep, e, hd, _⟩ := hns
        rw [q, e] at b3
        cases b3
        rw [hd] at b6
        cases b6
      have nP : bm ≠ P0 := fun q => by
        rw [q, hT] at b3
        cases b3
        cases b6
      refine ⟨bm, ob, b1, b2, nG, nP, base_of b3 (noD b3 (fun vs z => ?_) fun z => ?_), b4, b5, b6⟩
      · rw [b6] at z
        cases z
      · rw [b6] at z
        cases z
    · obtain ⟨o, es, ep, e, hd, _⟩ := hns
      rw [z, hT] at e
      cases e
      cases hd
  have e0 : Env0 P w K mg (hidT s₁.heap H) callerA [] s₁ H := ⟨rfl, hM, fun b o e => of_hidT e, Nat.le_of_eq (hidT_size _ _), trivial, fun b hb => absurd (show b ∈ ([] : List Addr) from hb) (by simp), hok, .of_eq hg⟩
  have hl : vals.length = ps.length := by rw [wellAll_len hwl]; exact hlen
  refine codeAny_mono ((F _ hKb (nsK hns) TB).run callerA [] s₁ H ⟨vals, []⟩ vals (vals.map toV) _ _ hr e0 (hbind s₁ vals hl) hV (hsp H _ hP hS)) fun r s' x => ?_
  cases r with
  | error e => exact (hCX H e s' x).elim
  | ok fl =>
    cases fl with
    | next => exact False.elim x
    | brk => exact False.elim x
    | cont => exact False.elim x
    | ret u =>
      obtain ⟨v, H', os, bare, un, hok', r', q⟩ := x
      have kept : ∀ b o, b ≠ P0 → s₁.heap.get? b = some o → s'.heap.get? b = some o := fun b o nb e => by
        cases q2 : H b with
        | none => exact un.keep b o e q2 (by intro z; exact absurd (show b ∈ ([] : List Addr) from z) (by simp)) (by simp)
        | some u2 =>
          rcases hO b nb with z | ⟨ob, u3, z⟩
          · rw [q2] at z
            cases z
          · have z2 := un.frzs b ob _ z
            obtain ⟨e1, _⟩ := hok b _ z
            obtain ⟨e2, _⟩ := hok' b _ z2
            rw [e] at e1
            cases e1
            exact e2
      obtain ⟨more, hm⟩ : ∃ more : Array Value, s'.heap.get? P0 = some { cls := .none, data := .fields more } := by
        obtain ⟨more, z⟩ := un.tbls P0 #[] hP
        exact ⟨_, hok' P0 _ z⟩
      have KX' : K.In s'.heap := fun b o e => kept b o (fun z => by rw [z, nT] at e; cases e) (KX b o e)
      obtain ⟨as, hrd⟩ := Dw.reads (R := R) (cl := cl) hok' KX' d0 v u q r'
      refine ⟨u, as, rfl, hrd, ⟨fun b o e => ?_, fun b o e => ?_⟩, os, bare⟩
      · by_cases z : b = P0
        · rw [z] at e ⊢
          rw [hT] at e
          cases e
          exact .inr (.inl ⟨(C.tab hT).isCodeTable, rfl, #[], more, rfl, by rw [Array.empty_append]; exact hm⟩)
        · exact .inl (kept b o z e)
      · by_cases z : b = P0
        · rw [z]
          exact ⟨_, hm⟩
        · exact ⟨o, kept b o z e⟩
/-- what is known of the row's def at the head's heap h -/
def SpecAt (r : OpenSpec) (w : World) (K : PySem.W.Frag) (CX : CXT) (k : Nat) (ps : List Str) (sp : PySem.W.Frag → Addr → Sp) (mg : Str → Option Value) (fa : Addr) (q : Program) : Prop :=
  ∃ (fd : FuncData) (x : Str) (d : DefRec) (c0 P0 : Addr), (recsOf q).find? (fun e => e.name == x) = some d ∧ PySem.W.tabIn K x = some (c0, P0) ∧ K.lookup P0 = none ∧ (∀ (s : Shared) (us : List Value), us.length = ps.length → BindsTo s fd ⟨us, []⟩ (ps.zip us)) ∧
    ∀ base : Heap, K.In base → base.Ns mainGlobals mg → LamX.TabB base mg c0 P0 → FnOk r.prog w K mg base CX k fa fd ps (sp K P0)
theorem walk_specT {r : OpenSpec} {k : Nat} {q : Program} {loose : List Str} {XP : (Str → Option Value) → Heap → Prop} {YP : World → Heap → Prop} {d : DefRec} {K : Params → PySem.W.Frag} {CX : CXT} {ps : List Str} {sp : PySem.W.Frag → Addr → Sp}
    (hwell : r.wellSaid = true) (hdf : d.params.defaults = []) (hlen : r.args.length = ps.length) (hr : Room k callerA)
    (hY : ∀ (w : World) (h : Heap), YP w h → (K w.params).In h)
    (F : ∀ (w : World) (mg : Str → Option Value) (fa : Addr) (h : Heap), YP w h → (K w.params).In h → h.Ns mainGlobals mg → mg d.name = some (.ref fa) → SpecAt r w (K w.params) CX k ps sp mg fa q)
    (hsp : ∀ (K : PySem.W.Frag) (P0 : Addr) (H : Hp) (xs : List V) (a : Codec.denoteAll r.args), H P0 = some (.tbl #[]) → Codec.withinAll r.args a = true → Codec.app r.args r.asked a = true → DwAll K H xs (Codec.encAll r.args a) →
      sp K P0 xs H (fun v H' => Dw K H' v (r.ret.enc (Codec.app r.args r.f a))) fun _ _ _ => False)
    (hCX : ∀ (H : Hp) (s : Shared) (e : Value) (s' : Shared), CX [] H s (fun _ _ _ => False) e s' → False) :
    PySem.W.WalkOS q loose XP YP r d [] (fun f vs => PySem.call f vs) := by
  intro w s₀ s₁ mg mb G Y fa o pm cd doc dV kV ho hd hcd hD hmg hg args vals as hpre hlay hrd hwl hlo
  obtain ⟨a, e1, e2⟩ := PySem.W.os_pre_some hpre
  obtain ⟨e3, hwi⟩ := Codec.encAll_of_decAll r.args args a e1
  subst e3
  have KX := hY w _ Y
  obtain ⟨fd, x, dx, c0, P0, hr1, ht, nT, hb, hF⟩ := F w mg fa _ Y KX G.T.g hmg
  obtain ⟨CH, hT⟩ := PySem.W.tab_of G.T KX hr1 ht
  refine PySem.W.enter_call (codeAny_mono (spec_callT (R := []) (cl := classAt s₀.heap) (d0 := r.ret.enc (Codec.app r.args r.f a)) KX G.T.g G.T.b G.T.builtins G.T.nolimit hg hT nT CH G.T.bmain hwl (pl_encAll _ _) (layable_weight hlay) hr hF hb (by rw [encAll_len]; exact hlen)
    (fun H xs hP hS => hsp (K w.params) P0 H xs a hP hwi e2 hS) fun H e s' => hCX H s₁ e s') fun r' s' hq => ?_)
  obtain ⟨u, as', rfl, h1, h2, h3, h4⟩ := hq
  exact ⟨.inl ⟨u, _, as', rfl, fun _ => rfl, h1, (OpenSpec.post_iff hwell hwi _ _).mpr rfl, fun z => Bool.noConfusion (show false = true from z)⟩, h2, h3, h4⟩
end EWT
end

/-! ## EwAll -/
section
set_option Elab.async false
set_option linter.all false
set_option maxRecDepth 100000
set_option maxHeartbeats 8000000
set_option autoImplicit false
/-! What the top has left, and all promises chained. Printed by allmk.py. -/
namespace EW
open PySem PySem.Spec PyProof.Rows L2
open Sr58 (Frac)
abbrev PP : Program := PySem.Challenge.rw_earthheaps_s01_answers.prog
section
variable {K : PySem.W.Frag} {mg : Str → Option Value} {h : Heap}
/-- a def of the top stands -/
structure FAtA (K : PySem.W.Frag) (x : Str) (st : Stmt) (f : Addr) : Prop where
  ex : ∃ fd, Fun K x x st f fd ∧ PySem.W.nsIn K mainGlobals x = some (some (.ref f))
structure FAt (K : PySem.W.Frag) (x : Str) (st : Stmt) : Prop where
  ex : ∃ f fd, Fun K x x st f fd ∧ PySem.W.nsIn K mainGlobals x = some (some (.ref f))
structure MAt (K : PySem.W.Frag) (C : Addr) (m qual : Str) (st : Stmt) : Prop where
  ex : ∃ f fd, Fun K m qual st f fd ∧ Meth K C m f
structure IAt (K : PySem.W.Frag) (C : Addr) (qual : Str) (st : Stmt) : Prop where
  ex : ∃ f fd, Fun K "__init__" qual st f fd ∧ Mk K C f
theorem fata_mk {x : Str} {st : Stmt} {f : Addr} {oc : Value} {od an : Option Addr} {osl : Array (Option Value)} {kV doc pm cdv ct : Value} (a : PySem.W.nsIn K mainGlobals x = some (some (.ref f))) (l : K.lookup f = some ⟨oc, od, .func (PySem.W.fnOf x x (defArgs st) (defBody st) (defScope st) .none kV doc pm an cdv ct), osl⟩)
    (c : PySem.W.codeIn K cdv x = true) (k : PySem.W.keepIn K (.ref f) = true) : FAtA K x st f := ⟨_, fun_mk l c k, a⟩
theorem fat_mk {x : Str} {st : Stmt} {f : Addr} {oc : Value} {od an : Option Addr} {osl : Array (Option Value)} {kV doc pm cdv ct : Value} (a : PySem.W.nsIn K mainGlobals x = some (some (.ref f))) (l : K.lookup f = some ⟨oc, od, .func (PySem.W.fnOf x x (defArgs st) (defBody st) (defScope st) .none kV doc pm an cdv ct), osl⟩)
    (c : PySem.W.codeIn K cdv x = true) (k : PySem.W.keepIn K (.ref f) = true) : FAt K x st := ⟨f, _, fun_mk l c k, a⟩
theorem mat_mk {C : Addr} {m x : Str} {st : Stmt} {f : Addr} {oc : Value} {od an : Option Addr} {osl : Array (Option Value)} {kV doc pm cdv ct : Value} (a : PySem.W.findIn K (.ref C) m = some (some (.ref f))) (i : PySem.W.isFn K (.ref f) = true) (l : K.lookup f = some ⟨oc, od, .func (PySem.W.fnOf m x (defArgs st) (defBody st) (defScope st) .none kV doc pm an cdv ct), osl⟩)
    (c : PySem.W.codeIn K cdv x = true) (k : PySem.W.keepIn K (.ref f) = true) : MAt K C m x st := ⟨f, _, fun_mk l c k, a, i, k⟩
theorem iat_mk {C : Addr} {x : Str} {st : Stmt} {f : Addr} {oc : Value} {od an : Option Addr} {osl : Array (Option Value)} {kV doc pm cdv ct : Value} (n : PySem.W.makesIn K C = true) (kC : PySem.W.keepIn K (.ref C) = true) (a : PySem.W.findIn K (.ref C) "__init__" = some (some (.ref f))) (i : PySem.W.isFn K (.ref f) = true)
    (l : K.lookup f = some ⟨oc, od, .func (PySem.W.fnOf "__init__" x (defArgs st) (defBody st) (defScope st) .none kV doc pm an cdv ct), osl⟩) (c : PySem.W.codeIn K cdv x = true) (k : PySem.W.keepIn K (.ref f) = true) : IAt K C x st := ⟨f, _, fun_mk l c k, n, a, i, kC⟩
/-- nearest_column, its code object and that object's table -/
structure NearA (K : PySem.W.Frag) (c0 P0 f : Addr) : Prop where
  ex : ∃ fd, FunC K "nearest_column" "nearest_column" s_nearest_column f fd c0 ∧ PySem.W.nsIn K mainGlobals "nearest_column" = some (some (.ref f)) ∧ PySem.W.tabIn K "nearest_column" = some (c0, P0) ∧ K.lookup P0 = none
theorem near_mk {c0 P0 f : Addr} {oc e : Value} {od an dd : Option Addr} {osl sl : Array (Option Value)} {kV doc pm ct : Value} {vs : Array Value} (a : PySem.W.nsIn K mainGlobals "nearest_column" = some (some (.ref f))) (l : K.lookup f = some ⟨oc, od, .func (PySem.W.fnOf "nearest_column" "nearest_column" (defArgs s_nearest_column) (defBody s_nearest_column) (defScope s_nearest_column) .none kV doc pm an (.ref c0) ct), osl⟩)
    (c : PySem.W.codeIn K (.ref c0) "nearest_column" = true) (k : PySem.W.keepIn K (.ref f) = true) (l2 : K.lookup c0 = some ⟨e, dd, .fields vs, sl⟩) (v : vs[11]? = some (.ref P0)) (n : (K.lookup P0).isNone = true) : NearA K c0 P0 f := by
  refine ⟨_, ⟨⟨oc, od, kV, doc, pm, an, ct, osl, rfl, l, c⟩, k⟩, a, ?_, Option.isNone_iff_eq_none.mp n⟩
  unfold PySem.W.tabIn
  rw [a]
  show (match K.lookup f with
    | some ⟨_, _, .func fd, _⟩ => (match fd.code with
      | .ref c => (match K.lookup c with
        | some ⟨_, _, .fields vs, _⟩ => (match (vs[11]? : Option Value) with
          | some (.ref P) => some (c, P)
          | _ => none)
        | _ => none)
      | _ => none)
    | _ => none) = some (c0, P0)
  rw [l]
  show (match K.lookup c0 with
        | some ⟨_, _, .fields vs, _⟩ => (match (vs[11]? : Option Value) with
          | some (.ref P) => some (c0, P)
          | _ => none)
        | _ => none) = some (c0, P0)
  rw [l2]
  show (match (vs[11]? : Option Value) with
          | some (.ref P) => some (c0, P)
          | _ => none) = some (c0, P0)
  rw [v]
theorem box_mk {C : Addr} (c : Cls K C) (a : PySem.W.findIn K (.ref C) "lengths" = some none) (b : PySem.W.findIn K (.ref C) "slots" = some none) : BoxT K C := ⟨c, a, b⟩
theorem call_mk {C : Addr} (c : Cls K C) (a : PySem.W.findIn K (.ref C) "operation" = some none) (b : PySem.W.findIn K (.ref C) "numbers" = some none) (d : PySem.W.findIn K (.ref C) "row" = some none) (e : PySem.W.findIn K (.ref C) "end" = some none) : CallT K C := ⟨c, a, b, d, e⟩
theorem desk_mk {C : Addr} (c : Cls K C) (a : PySem.W.findIn K (.ref C) "box" = some none) : DeskT K C := ⟨c, a⟩
/-- an error of the class at S is what «except S» names -/
theorem exm_self {S : Addr} (h1 : PySem.W.subIn K (.ref S) (.type "BaseException") = some true) (h2 : PySem.W.isClsIn K S = true) (h3 : PySem.W.typeIn K (.ref S) = some (.type "type")) (h4 : PySem.W.subIn K (.ref S) (.ref S) = some true) :
    PySem.W.exmOne K (.ref S) (.ref S) = some true := by
  have e1 : (PySem.W.subIn K (.ref S) (.type "BaseException") == some true) = true := by rw [h1] <;> rfl
  have e2 : ((PySem.W.clsIn K S).isSome && PySem.W.typeIn K (.ref S) == some (.type "type")) = true := by
    have h2' : (PySem.W.clsIn K S).isSome = true := h2
    rw [h2', h3] <;> rfl
  show (if (PySem.W.subIn K (.ref S) (.type "BaseException") == some true) = true then (if ((PySem.W.clsIn K S).isSome && PySem.W.typeIn K (.ref S) == some (.type "type")) = true then PySem.W.subIn K (.ref S) (.ref S) else none) else none) = some true
  rw [if_pos e1, if_pos e2]
  exact h4
/-- the program's own error class -/
structure RefA (K : PySem.W.Frag) (CR : Addr) : Prop where
  t_ : OexC K CR
  noC : PySem.W.findIn K (.ref CR) "code" = some none
  vV : PySem.W.findCls K (.type "ValueError") (.type "type") "__init__" = some (.val (.builtin "ValueError.__init__"))
  at_ : PySem.W.nsIn K mainGlobals "Refused" = some (some (.ref CR))
  xf : XfC K CR
  te : PySem.W.exmOne K (.ref CR) (.ref CR) = some true
  ex : ∃ f fd, PySem.W.findIn K (.ref CR) "__init__" = some (some (.ref f)) ∧ PySem.W.typeIn K (.ref f) = some (.type "function") ∧ Fun K "__init__" "Refused.__init__" s_Refused___init__ f fd
theorem RefA.t {CR : Addr} (r : RefA K CR) (X : K.In h) (G : h.Ns mainGlobals mg) : RefT K mg CR := ⟨r.t_, r.noC, r.vV, PySem.W.mg_of X G r.at_, r.xf, r.te⟩
theorem ref_mk {CR fI N : Addr} {nm q : Str} {bs : List Value} {sn : List Str} {sub : List Value} {ab : Bool} {col : Option Bool} {dd : Option Addr} {m0 m1 m2 m3 m5 : Option Value} {oc : Value} {od an : Option Addr} {osl : Array (Option Value)} {kV doc pm cdv ct : Value}
    (a : PySem.W.nsIn K mainGlobals "Refused" = some (some (.ref CR))) (xL : K.lookup CR = some (excClassObj nm q CR N bs [.type "ValueError", .type "Exception", .type "BaseException", .type "object"] true sn sub ab col dd m0 m1 m2 m3 m5 "ValueError.__new__"))
    (sa : PySem.W.findIn K (.ref CR) "__setattr__" = some (some (.builtin "object.__setattr__"))) (ga : PySem.W.findIn K (.ref CR) "__getattribute__" = some (some (.builtin "BaseException.__getattribute__"))) (gg : PySem.W.findIn K (.ref CR) "__getattr__" = some none) (nc : PySem.W.findIn K (.ref CR) "code" = some none)
    (vV : PySem.W.findCls K (.type "ValueError") (.type "type") "__init__" = some (.val (.builtin "ValueError.__init__")))
    (kC : PySem.W.keepIn K (.ref CR) = true) (eC : PySem.W.subIn K (.ref CR) (.type "BaseException") = some true) (tC : PySem.W.typeIn K (.ref CR) = some (.type "type")) (hC : PySem.W.hasDictIn K CR = true) (iC : PySem.W.isClsIn K CR = true) (sC : PySem.W.subIn K (.ref CR) (.ref CR) = some true)
    (i : PySem.W.findIn K (.ref CR) "__init__" = some (some (.ref fI))) (t : PySem.W.typeIn K (.ref fI) = some (.type "function")) (l : K.lookup fI = some ⟨oc, od, .func (PySem.W.fnOf "__init__" "Refused.__init__" (defArgs s_Refused___init__) (defBody s_Refused___init__) (defScope s_Refused___init__) .none kV doc pm an cdv ct), osl⟩)
    (c : PySem.W.codeIn K cdv "Refused.__init__" = true) (k : PySem.W.keepIn K (.ref fI) = true) : RefA K CR :=
  ⟨⟨⟨nm, q, N, bs, _, sn, sub, ab, col, dd, m0, m1, m2, m3, m5, xL, by decide +kernel⟩, sa, eC, tC, kC⟩, nc, vV, a, ⟨ga, gg, eC, hC⟩, exm_self eC iC tC sC, fI, _, i, t, fun_mk l c k⟩
/-- the built-ins that no name of the top hides -/
structure NbA (K : PySem.W.Frag) : Prop where
  len_ : PySem.W.nsIn K mainGlobals "len" = some none
  range_ : PySem.W.nsIn K mainGlobals "range" = some none
  min_ : PySem.W.nsIn K mainGlobals "min" = some none
  max_ : PySem.W.nsIn K mainGlobals "max" = some none
  sum_ : PySem.W.nsIn K mainGlobals "sum" = some none
  abs_ : PySem.W.nsIn K mainGlobals "abs" = some none
  zip_ : PySem.W.nsIn K mainGlobals "zip" = some none
  list_ : PySem.W.nsIn K mainGlobals "list" = some none
  all_ : PySem.W.nsIn K mainGlobals "all" = some none
  int_ : PySem.W.nsIn K mainGlobals "int" = some none
  ValueError_ : PySem.W.nsIn K mainGlobals "ValueError" = some none
theorem NbA.nb (n : NbA K) (X : K.In h) (G : h.Ns mainGlobals mg) : Nb mg :=
  ⟨PySem.W.mg_none_of X G n.len_, PySem.W.mg_none_of X G n.range_, PySem.W.mg_none_of X G n.min_, PySem.W.mg_none_of X G n.max_, PySem.W.mg_none_of X G n.sum_, PySem.W.mg_none_of X G n.abs_, PySem.W.mg_none_of X G n.zip_, PySem.W.mg_none_of X G n.list_, PySem.W.mg_none_of X G n.all_, PySem.W.mg_none_of X G n.int_, PySem.W.mg_none_of X G n.ValueError_⟩
/-- a written tuple -/
theorem wt_ints {a : Addr} {x y : Int} {od : Option Addr} {t1 t2 : Tok} {n : Nat} {sl : Array (Option Value)} (l : K.lookup a = some ⟨.type "tuple", od, .seq #[.int x t1, .int y t2] n, sl⟩) (H : Hp) : SqT K H a [.int x, .int y] :=
  .inr ⟨_, _, _, l, rfl, rfl, by show 2 ≤ sizeLine; rw [sizeLine_eq]; decide, .cons ⟨_, rfl⟩ (.cons ⟨_, rfl⟩ .nil)⟩
theorem wt_form {a : Addr} {x : Int} {b : Bool} {od : Option Addr} {t1 : Tok} {n : Nat} {sl : Array (Option Value)} (l : K.lookup a = some ⟨.type "tuple", od, .seq #[.int x t1, .bool b] n, sl⟩) (H : Hp) : SqT K H a [.int x, .bl b] :=
  .inr ⟨_, _, _, l, rfl, rfl, by show 2 ≤ sizeLine; rw [sizeLine_eq]; decide, .cons ⟨_, rfl⟩ (.cons rfl .nil)⟩
theorem vals_refs : ∀ fs : List Addr, Vals (fs.map V.ref) (fs.map Value.ref)
  | [] => .nil
  | _ :: r => .cons rfl (vals_refs r)
theorem wt_refs {a : Addr} {fs : List Addr} {od : Option Addr} {n : Nat} {sl : Array (Option Value)} (l : K.lookup a = some ⟨.type "tuple", od, .seq (fs.map Value.ref).toArray n, sl⟩) (hl : fs.length ≤ 1000) (H : Hp) : SqT K H a (fs.map V.ref) :=
  .inr ⟨_, _, _, l, rfl, rfl, by rw [List.size_toArray, List.length_map, sizeLine_eq]; omega, by simpa using vals_refs fs⟩
/-- the module's constants -/
structure GsA (K : PySem.W.Frag) (A : Ad) : Prop where
  ints_ : ∀ p ∈ ([("FAR_graphs", 1000), ("FAR_paths", 1000000), ("MOST_POINTS", 6), ("SLOTS", 4), ("MOST_LENGTH", 9), ("MOST_WEIGHT", 20), ("MOST_POTENTIAL", 999), ("MOST_DENOMINATOR", 100000)] : List (Str × Int)), ∃ t, PySem.W.nsIn K mainGlobals p.1 = some (some (.int p.2 t))
  refs_ : ∀ p ∈ ([("ZERO", A.zero), ("ONE", A.one), ("HALF", A.half), ("FORMS", A.forms), ("OPERATIONS", A.ops)] : List (Str × Addr)), PySem.W.nsIn K mainGlobals p.1 = some (some (.ref p.2))
  zeroAt : ∀ H, FrAt K H A.zero ⟨0, 1⟩
  oneAt : ∀ H, FrAt K H A.one ⟨1, 1⟩
  halfAt : ∀ H, FrAt K H A.half ⟨1, 2⟩
theorem GsA.gs {A : Ad} (g : GsA K A) (X : K.In h) (G : h.Ns mainGlobals mg) : Gs K mg A := by
  have i : ∀ (x : Str) (v : Int), (x, v) ∈ ([("FAR_graphs", 1000), ("FAR_paths", 1000000), ("MOST_POINTS", 6), ("SLOTS", 4), ("MOST_LENGTH", 9), ("MOST_WEIGHT", 20), ("MOST_POTENTIAL", 999), ("MOST_DENOMINATOR", 100000)] : List (Str × Int)) → ∃ u, mg x = some u ∧ RelV (.int v) u := fun x v hm => by
    obtain ⟨t, e⟩ := g.ints_ _ hm
    exact ⟨_, PySem.W.mg_of X G e, t, rfl⟩
  have r : ∀ (x : Str) (v : Addr), (x, v) ∈ ([("ZERO", A.zero), ("ONE", A.one), ("HALF", A.half), ("FORMS", A.forms), ("OPERATIONS", A.ops)] : List (Str × Addr)) → ∃ u, mg x = some u ∧ RelV (.ref v) u := fun x v hm => ⟨_, PySem.W.mg_of X G (g.refs_ _ hm), rfl⟩
  exact ⟨i _ _ (by simp), i _ _ (by simp), i _ _ (by simp), i _ _ (by simp), i _ _ (by simp), i _ _ (by simp), i _ _ (by simp), i _ _ (by simp), r _ _ (by simp), r _ _ (by simp), r _ _ (by simp), r _ _ (by simp), r _ _ (by simp), g.zeroAt, g.oneAt, g.halfAt⟩
theorem gs_mk {z0 o0 h0 w0 g0 : Addr} {t1 t2 t3 t4 t5 t6 t7 t8 u1 u2 u3 u4 u5 u6 : Tok} {d1 d2 d3 : Option Addr} {n1 n2 n3 : Nat} {s1 s2 s3 : Array (Option Value)}
    (e1 : PySem.W.nsIn K mainGlobals "FAR_graphs" = some (some (.int 1000 t1))) (e2 : PySem.W.nsIn K mainGlobals "FAR_paths" = some (some (.int 1000000 t2))) (e3 : PySem.W.nsIn K mainGlobals "MOST_POINTS" = some (some (.int 6 t3))) (e4 : PySem.W.nsIn K mainGlobals "SLOTS" = some (some (.int 4 t4)))
    (e5 : PySem.W.nsIn K mainGlobals "MOST_LENGTH" = some (some (.int 9 t5))) (e6 : PySem.W.nsIn K mainGlobals "MOST_WEIGHT" = some (some (.int 20 t6))) (e7 : PySem.W.nsIn K mainGlobals "MOST_POTENTIAL" = some (some (.int 999 t7))) (e8 : PySem.W.nsIn K mainGlobals "MOST_DENOMINATOR" = some (some (.int 100000 t8)))
    (r1 : PySem.W.nsIn K mainGlobals "ZERO" = some (some (.ref z0))) (r2 : PySem.W.nsIn K mainGlobals "ONE" = some (some (.ref o0))) (r3 : PySem.W.nsIn K mainGlobals "HALF" = some (some (.ref h0))) (r4 : PySem.W.nsIn K mainGlobals "FORMS" = some (some (.ref w0))) (r5 : PySem.W.nsIn K mainGlobals "OPERATIONS" = some (some (.ref g0)))
    (l1 : K.lookup z0 = some ⟨.type "tuple", d1, .seq #[.int 0 u1, .int 1 u2] n1, s1⟩) (l2 : K.lookup o0 = some ⟨.type "tuple", d2, .seq #[.int 1 u3, .int 1 u4] n2, s2⟩) (l3 : K.lookup h0 = some ⟨.type "tuple", d3, .seq #[.int 1 u5, .int 2 u6] n3, s3⟩) : GsA K ⟨z0, o0, h0, w0, g0⟩ := by
  refine ⟨fun p hp => ?_, fun p hp => ?_, wt_ints l1, wt_ints l2, wt_ints l3⟩
  · rcases List.mem_cons.mp hp with rfl | hp
    · exact ⟨_, e1⟩
    rcases List.mem_cons.mp hp with rfl | hp
    · exact ⟨_, e2⟩
    rcases List.mem_cons.mp hp with rfl | hp
    · exact ⟨_, e3⟩
    rcases List.mem_cons.mp hp with rfl | hp
    · exact ⟨_, e4⟩
    rcases List.mem_cons.mp hp with rfl | hp
    · exact ⟨_, e5⟩
    rcases List.mem_cons.mp hp with rfl | hp
    · exact ⟨_, e6⟩
    rcases List.mem_cons.mp hp with rfl | hp
    · exact ⟨_, e7⟩
    rcases List.mem_cons.mp hp with rfl | hp
    · exact ⟨_, e8⟩
    cases hp
  · rcases List.mem_cons.mp hp with rfl | hp
    · exact r1
    rcases List.mem_cons.mp hp with rfl | hp
    · exact r2
    rcases List.mem_cons.mp hp with rfl | hp
    · exact r3
    rcases List.mem_cons.mp hp with rfl | hp
    · exact r4
    rcases List.mem_cons.mp hp with rfl | hp
    · exact r5
    cases hp
/-- a form of a call -/
structure FoA (K : PySem.W.Frag) (t : Addr) (n : Int) (b : Bool) : Prop where
  ex : ∀ H, SqT K H t [.int n, .bl b]
theorem fo_mk {a : Addr} {x : Int} {b : Bool} {od : Option Addr} {t1 : Tok} {n : Nat} {sl : Array (Option Value)} (l : K.lookup a = some ⟨.type "tuple", od, .seq #[.int x t1, .bool b] n, sl⟩) : FoA K a x b := ⟨wt_form l⟩
theorem forms_mk {z0 o0 h0 w0 g0 : Addr} {x0 x1 x2 x3 x4 x5 x6 x7 x8 x9 x10 x11 x12 x13 : Addr} {od : Option Addr} {n : Nat} {sl : Array (Option Value)}
    (l : K.lookup w0 = some ⟨.type "tuple", od, .seq #[.ref x0, .ref x1, .ref x2, .ref x3, .ref x4, .ref x5, .ref x6, .ref x7, .ref x8, .ref x9, .ref x10, .ref x11, .ref x12, .ref x13] n, sl⟩)
    (f0 : FoA K x0 1 false) (f1 : FoA K x1 3 false) (f2 : FoA K x2 1 true) (f3 : FoA K x3 1 false) (f4 : FoA K x4 2 false) (f5 : FoA K x5 2 false) (f6 : FoA K x6 2 false) (f7 : FoA K x7 2 false) (f8 : FoA K x8 3 true) (f9 : FoA K x9 2 true) (f10 : FoA K x10 3 false) (f11 : FoA K x11 2 true) (f12 : FoA K x12 3 false) (f13 : FoA K x13 0 false) : FormsT K ⟨z0, o0, h0, w0, g0⟩ := by
  refine ⟨[x0, x1, x2, x3, x4, x5, x6, x7, x8, x9, x10, x11, x12, x13], wt_refs (fs := [x0, x1, x2, x3, x4, x5, x6, x7, x8, x9, x10, x11, x12, x13]) l (Nat.le_of_ble_eq_true rfl), fun p m b hp => ?_⟩
  match p, hp with
  | 0, hp => cases hp; exact ⟨_, rfl, f0.ex⟩
  | 1, hp => cases hp; exact ⟨_, rfl, f1.ex⟩
  | 2, hp => cases hp; exact ⟨_, rfl, f2.ex⟩
  | 3, hp => cases hp; exact ⟨_, rfl, f3.ex⟩
  | 4, hp => cases hp; exact ⟨_, rfl, f4.ex⟩
  | 5, hp => cases hp; exact ⟨_, rfl, f5.ex⟩
  | 6, hp => cases hp; exact ⟨_, rfl, f6.ex⟩
  | 7, hp => cases hp; exact ⟨_, rfl, f7.ex⟩
  | 8, hp => cases hp; exact ⟨_, rfl, f8.ex⟩
  | 9, hp => cases hp; exact ⟨_, rfl, f9.ex⟩
  | 10, hp => cases hp; exact ⟨_, rfl, f10.ex⟩
  | 11, hp => cases hp; exact ⟨_, rfl, f11.ex⟩
  | 12, hp => cases hp; exact ⟨_, rfl, f12.ex⟩
  | 13, hp => cases hp; exact ⟨_, rfl, f13.ex⟩
  | p + 14, hp => exact absurd hp (by unfold EH.forms; simp)
/-- the table of the operations -/
structure OpsA (K : PySem.W.Frag) (A : Ad) (fs : List Addr) : Prop where
  sq : ∀ H, SqT K H A.ops (fs.map V.ref)
  len : fs.length = 13
theorem OpsA.ops {A : Ad} {fs : List Addr} {w : World} {base : Heap} {P0 C CR : Addr} (o : OpsA K A fs) (h : ∀ (i : Nat) (f : Addr), fs[i]? = some f → Deed PP w K mg base 8 f (spOp K P0 C CR (clOf i))) : OpsT PP w K mg base A P0 C CR := ⟨fs, o.sq, o.len, h⟩
theorem ops_mk {z0 o0 h0 w0 g0 : Addr} {x0 x1 x2 x3 x4 x5 x6 x7 x8 x9 x10 x11 x12 : Addr} {od : Option Addr} {n : Nat} {sl : Array (Option Value)}
    (l : K.lookup g0 = some ⟨.type "tuple", od, .seq #[.ref x0, .ref x1, .ref x2, .ref x3, .ref x4, .ref x5, .ref x6, .ref x7, .ref x8, .ref x9, .ref x10, .ref x11, .ref x12] n, sl⟩) : OpsA K ⟨z0, o0, h0, w0, g0⟩ [x0, x1, x2, x3, x4, x5, x6, x7, x8, x9, x10, x11, x12] :=
  ⟨wt_refs (fs := [x0, x1, x2, x3, x4, x5, x6, x7, x8, x9, x10, x11, x12]) l (Nat.le_of_ble_eq_true rfl), rfl⟩
theorem tabs_start {P0 : Addr} {H : Hp} (h : H P0 = some (.tbl #[])) : LamX.Tabs (TN P0) H := fun p hp => by
  rw [List.mem_singleton.mp hp]
  exact LamX.TabS.nil h
end

theorem all_mk {w : World} {K : PySem.W.Frag} {h : Heap} {mg : Str → Option Value} {q : Program} {fa : Addr} (X : K.In h) (GN : h.Ns mainGlobals mg) (hfa : mg "answers" = some (.ref fa))
    (hq : ((recsOf q).any fun e => e.name == ("nearest_column" : Str)) = true)
    {CI CC CD CR c0 P0 fC o0 o1 o2 o3 o4 o5 o6 o7 o8 o9 o10 o11 o12 : Addr} {A0 : Ad}
    (a_I : PySem.W.nsIn K mainGlobals "Instance" = some (some (.ref CI))) (a_C : PySem.W.nsIn K mainGlobals "Call" = some (some (.ref CC))) (a_D : PySem.W.nsIn K mainGlobals "Desk" = some (some (.ref CD)))
    (TI : BoxT K CI) (TC : CallT K CC) (TD : DeskT K CD) (RA : RefA K CR) (NB : NbA K) (CA : GsA K A0) (FA : FormsT K A0) (OA : OpsA K A0 [o0, o1, o2, o3, o4, o5, o6, o7, o8, o9, o10, o11, o12])
    (NA : NearA K c0 P0 fC) (AA : FAt K "answers" s_answers)
    (A_amounts : FAt K "amounts" EW.s_amounts) (A_arcs_of : FAt K "arcs_of" EW.s_arcs_of) (A_are_between : FAt K "are_between" EW.s_are_between) (A_bounds_of : FAt K "bounds_of" EW.s_bounds_of)
    (A_call_at : FAt K "call_at" EW.s_call_at) (A_change : FAt K "change" EW.s_change) (A_cheapest_amounts : FAt K "cheapest_amounts" EW.s_cheapest_amounts) (A_cheapest_plan : FAt K "cheapest_plan" EW.s_cheapest_plan)
    (A_column_sums : FAt K "column_sums" EW.s_column_sums) (A_common_denominator : FAt K "common_denominator" EW.s_common_denominator) (A_composed_entry : FAt K "composed_entry" EW.s_composed_entry) (A_composition : FAt K "composition" EW.s_composition)
    (A_cost_of : FAt K "cost_of" EW.s_cost_of) (A_distances : FAt K "distances" EW.s_distances) (A_divided : FAt K "divided" EW.s_divided) (A_empty_lengths : FAt K "empty_lengths" EW.s_empty_lengths)
    (A_empty_plan : FAt K "empty_plan" EW.s_empty_plan) (A_are_feasible : FAt K "are_feasible" EW.s_are_feasible) (A_first_distribution : FAt K "first_distribution" EW.s_first_distribution) (A_greatest_divisor : FAt K "greatest_divisor" EW.s_greatest_divisor)
    (A_greatest_plan : FAt K "greatest_plan" EW.s_greatest_plan) (A_is_connected : FAt K "is_connected" EW.s_is_connected) (A_is_plan : FAt K "is_plan" EW.s_is_plan) (A_look_connected : FAt K "look_connected" EW.s_look_connected)
    (A_look_row : FAt K "look_row" EW.s_look_row) (A_look_slots : FAt K "look_slots" EW.s_look_slots) (A_look_transport : FAt K "look_transport" EW.s_look_transport) (A_lowered : FAt K "lowered" EW.s_lowered)
    (A_lowest_cost : FAt K "lowest_cost" EW.s_lowest_cost) (A_mapped : FAt K "mapped" EW.s_mapped) (A_matrix_of : FAt K "matrix_of" EW.s_matrix_of) (A_minus : FAt K "minus" EW.s_minus)
    (A_next_nodes : FAt K "next_nodes" EW.s_next_nodes) (A_optimal_plan : FAt K "optimal_plan" EW.s_optimal_plan) (A_optimal_potentials : FAt K "optimal_potentials" EW.s_optimal_potentials) (A_pairs : FAt K "pairs" EW.s_pairs)
    (A_parents_from : FAt K "parents_from" EW.s_parents_from) (A_path_to : FAt K "path_to" EW.s_path_to) (A_plus : FAt K "plus" EW.s_plus) (A_greatest_potentials : FAt K "greatest_potentials" EW.s_greatest_potentials)
    (A_raise_entry : FAt K "raise_entry" EW.s_raise_entry) (A_raised : FAt K "raised" EW.s_raised) (A_ratio : FAt K "ratio" EW.s_ratio) (A_relax : FAt K "relax" EW.s_relax)
    (A_row_sums : FAt K "row_sums" EW.s_row_sums) (A_send : FAt K "send" EW.s_send) (A_shortest : FAt K "shortest" EW.s_shortest) (A_step_length : FAt K "step_length" EW.s_step_length)
    (A_through : FAt K "through" EW.s_through) (A_tight_entries : FAt K "tight_entries" EW.s_tight_entries) (A_times : FAt K "times" EW.s_times) (A_told : FAt K "told" EW.s_told)
    (A_told_plan : FAt K "told_plan" EW.s_told_plan) (A_total : FAt K "total" EW.s_total) (A_value_of : FAt K "value_of" EW.s_value_of) (A_way_back : FAt K "way_back" EW.s_way_back)
    (A_with_fractions : FAt K "with_fractions" EW.s_with_fractions) (A_set_edge : FAtA K "set_edge" EW.s_set_edge o0) (A_set_distribution : FAtA K "set_distribution" EW.s_set_distribution o1) (A_distribution : FAtA K "distribution" EW.s_distribution o2)
    (A_distance : FAtA K "distance" EW.s_distance o3) (A_min_cost : FAtA K "min_cost" EW.s_min_cost o4) (A_tell_optimal_plan : FAtA K "tell_optimal_plan" EW.s_tell_optimal_plan o5) (A_tell_optimal_potentials : FAtA K "tell_optimal_potentials" EW.s_tell_optimal_potentials o6)
    (A_check_plan : FAtA K "check_plan" EW.s_check_plan o7) (A_check_potentials : FAtA K "check_potentials" EW.s_check_potentials o8) (A_compose_plans : FAtA K "compose_plans" EW.s_compose_plans o9) (A_map_distribution : FAtA K "map_distribution" EW.s_map_distribution o10)
    (A_average : FAtA K "average" EW.s_average o11) (A_tell_connected : FAtA K "tell_connected" EW.s_tell_connected o12) (A_Desk_answer : MAt K CD "answer" "Desk.answer" EW.s_Desk_answer) (I_Call : IAt K CC "Call.__init__" EW.s_Call___init__)
    (A_Desk_create : MAt K CD "create" "Desk.create" EW.s_Desk_create) (I_Desk : IAt K CD "Desk.__init__" EW.s_Desk___init__) (A_Desk_done : MAt K CD "done" "Desk.done" EW.s_Desk_done) (I_Instance : IAt K CI "Instance.__init__" EW.s_Instance___init__)
    (A_Instance_look_points : MAt K CI "look_points" "Instance.look_points" EW.s_Instance_look_points) (A_Instance_points : MAt K CI "points" "Instance.points" EW.s_Instance_points) (A_Instance_set_length : MAt K CI "set_length" "Instance.set_length" EW.s_Instance_set_length)
    : EWT.SpecAt PySem.Challenge.rw_earthheaps_s01_answers w K CX0 11 ["calls"] spAnswers mg fa q := by
  obtain ⟨f_amounts, fd_amounts, F_amounts, a_amounts⟩ := A_amounts.ex
  have m_amounts := PySem.W.mg_of X GN a_amounts
  obtain ⟨f_arcs_of, fd_arcs_of, F_arcs_of, a_arcs_of⟩ := A_arcs_of.ex
  have m_arcs_of := PySem.W.mg_of X GN a_arcs_of
  obtain ⟨f_are_between, fd_are_between, F_are_between, a_are_between⟩ := A_are_between.ex
  have m_are_between := PySem.W.mg_of X GN a_are_between
  obtain ⟨f_bounds_of, fd_bounds_of, F_bounds_of, a_bounds_of⟩ := A_bounds_of.ex
  have m_bounds_of := PySem.W.mg_of X GN a_bounds_of
  obtain ⟨f_call_at, fd_call_at, F_call_at, a_call_at⟩ := A_call_at.ex
  have m_call_at := PySem.W.mg_of X GN a_call_at
  obtain ⟨f_change, fd_change, F_change, a_change⟩ := A_change.ex
  have m_change := PySem.W.mg_of X GN a_change
  obtain ⟨f_cheapest_amounts, fd_cheapest_amounts, F_cheapest_amounts, a_cheapest_amounts⟩ := A_cheapest_amounts.ex
  have m_cheapest_amounts := PySem.W.mg_of X GN a_cheapest_amounts
  obtain ⟨f_cheapest_plan, fd_cheapest_plan, F_cheapest_plan, a_cheapest_plan⟩ := A_cheapest_plan.ex
  have m_cheapest_plan := PySem.W.mg_of X GN a_cheapest_plan
  obtain ⟨f_column_sums, fd_column_sums, F_column_sums, a_column_sums⟩ := A_column_sums.ex
  have m_column_sums := PySem.W.mg_of X GN a_column_sums
  obtain ⟨f_common_denominator, fd_common_denominator, F_common_denominator, a_common_denominator⟩ := A_common_denominator.ex
  have m_common_denominator := PySem.W.mg_of X GN a_common_denominator
  obtain ⟨f_composed_entry, fd_composed_entry, F_composed_entry, a_composed_entry⟩ := A_composed_entry.ex
  have m_composed_entry := PySem.W.mg_of X GN a_composed_entry
  obtain ⟨f_composition, fd_composition, F_composition, a_composition⟩ := A_composition.ex
  have m_composition := PySem.W.mg_of X GN a_composition
  obtain ⟨f_cost_of, fd_cost_of, F_cost_of, a_cost_of⟩ := A_cost_of.ex
  have m_cost_of := PySem.W.mg_of X GN a_cost_of
  obtain ⟨f_distances, fd_distances, F_distances, a_distances⟩ := A_distances.ex
  have m_distances := PySem.W.mg_of X GN a_distances
  obtain ⟨f_divided, fd_divided, F_divided, a_divided⟩ := A_divided.ex
  have m_divided := PySem.W.mg_of X GN a_divided
  obtain ⟨f_empty_lengths, fd_empty_lengths, F_empty_lengths, a_empty_lengths⟩ := A_empty_lengths.ex
  have m_empty_lengths := PySem.W.mg_of X GN a_empty_lengths
  obtain ⟨f_empty_plan, fd_empty_plan, F_empty_plan, a_empty_plan⟩ := A_empty_plan.ex
  have m_empty_plan := PySem.W.mg_of X GN a_empty_plan
  obtain ⟨f_are_feasible, fd_are_feasible, F_are_feasible, a_are_feasible⟩ := A_are_feasible.ex
  have m_are_feasible := PySem.W.mg_of X GN a_are_feasible
  obtain ⟨f_first_distribution, fd_first_distribution, F_first_distribution, a_first_distribution⟩ := A_first_distribution.ex
  have m_first_distribution := PySem.W.mg_of X GN a_first_distribution
  obtain ⟨f_greatest_divisor, fd_greatest_divisor, F_greatest_divisor, a_greatest_divisor⟩ := A_greatest_divisor.ex
  have m_greatest_divisor := PySem.W.mg_of X GN a_greatest_divisor
  obtain ⟨f_greatest_plan, fd_greatest_plan, F_greatest_plan, a_greatest_plan⟩ := A_greatest_plan.ex
  have m_greatest_plan := PySem.W.mg_of X GN a_greatest_plan
  obtain ⟨f_is_connected, fd_is_connected, F_is_connected, a_is_connected⟩ := A_is_connected.ex
  have m_is_connected := PySem.W.mg_of X GN a_is_connected
  obtain ⟨f_is_plan, fd_is_plan, F_is_plan, a_is_plan⟩ := A_is_plan.ex
  have m_is_plan := PySem.W.mg_of X GN a_is_plan
  obtain ⟨f_look_connected, fd_look_connected, F_look_connected, a_look_connected⟩ := A_look_connected.ex
  have m_look_connected := PySem.W.mg_of X GN a_look_connected
  obtain ⟨f_look_row, fd_look_row, F_look_row, a_look_row⟩ := A_look_row.ex
  have m_look_row := PySem.W.mg_of X GN a_look_row
  obtain ⟨f_look_slots, fd_look_slots, F_look_slots, a_look_slots⟩ := A_look_slots.ex
  have m_look_slots := PySem.W.mg_of X GN a_look_slots
  obtain ⟨f_look_transport, fd_look_transport, F_look_transport, a_look_transport⟩ := A_look_transport.ex
  have m_look_transport := PySem.W.mg_of X GN a_look_transport
  obtain ⟨f_lowered, fd_lowered, F_lowered, a_lowered⟩ := A_lowered.ex
  have m_lowered := PySem.W.mg_of X GN a_lowered
  obtain ⟨f_lowest_cost, fd_lowest_cost, F_lowest_cost, a_lowest_cost⟩ := A_lowest_cost.ex
  have m_lowest_cost := PySem.W.mg_of X GN a_lowest_cost
  obtain ⟨f_mapped, fd_mapped, F_mapped, a_mapped⟩ := A_mapped.ex
  have m_mapped := PySem.W.mg_of X GN a_mapped
  obtain ⟨f_matrix_of, fd_matrix_of, F_matrix_of, a_matrix_of⟩ := A_matrix_of.ex
  have m_matrix_of := PySem.W.mg_of X GN a_matrix_of
  obtain ⟨f_minus, fd_minus, F_minus, a_minus⟩ := A_minus.ex
  have m_minus := PySem.W.mg_of X GN a_minus
  obtain ⟨f_next_nodes, fd_next_nodes, F_next_nodes, a_next_nodes⟩ := A_next_nodes.ex
  have m_next_nodes := PySem.W.mg_of X GN a_next_nodes
  obtain ⟨f_optimal_plan, fd_optimal_plan, F_optimal_plan, a_optimal_plan⟩ := A_optimal_plan.ex
  have m_optimal_plan := PySem.W.mg_of X GN a_optimal_plan
  obtain ⟨f_optimal_potentials, fd_optimal_potentials, F_optimal_potentials, a_optimal_potentials⟩ := A_optimal_potentials.ex
  have m_optimal_potentials := PySem.W.mg_of X GN a_optimal_potentials
  obtain ⟨f_pairs, fd_pairs, F_pairs, a_pairs⟩ := A_pairs.ex
  have m_pairs := PySem.W.mg_of X GN a_pairs
  obtain ⟨f_parents_from, fd_parents_from, F_parents_from, a_parents_from⟩ := A_parents_from.ex
  have m_parents_from := PySem.W.mg_of X GN a_parents_from
  obtain ⟨f_path_to, fd_path_to, F_path_to, a_path_to⟩ := A_path_to.ex
  have m_path_to := PySem.W.mg_of X GN a_path_to
  obtain ⟨f_plus, fd_plus, F_plus, a_plus⟩ := A_plus.ex
  have m_plus := PySem.W.mg_of X GN a_plus
  obtain ⟨f_greatest_potentials, fd_greatest_potentials, F_greatest_potentials, a_greatest_potentials⟩ := A_greatest_potentials.ex
  have m_greatest_potentials := PySem.W.mg_of X GN a_greatest_potentials
  obtain ⟨f_raise_entry, fd_raise_entry, F_raise_entry, a_raise_entry⟩ := A_raise_entry.ex
  have m_raise_entry := PySem.W.mg_of X GN a_raise_entry
  obtain ⟨f_raised, fd_raised, F_raised, a_raised⟩ := A_raised.ex
  have m_raised := PySem.W.mg_of X GN a_raised
  obtain ⟨f_ratio, fd_ratio, F_ratio, a_ratio⟩ := A_ratio.ex
  have m_ratio := PySem.W.mg_of X GN a_ratio
  obtain ⟨f_relax, fd_relax, F_relax, a_relax⟩ := A_relax.ex
  have m_relax := PySem.W.mg_of X GN a_relax
  obtain ⟨f_row_sums, fd_row_sums, F_row_sums, a_row_sums⟩ := A_row_sums.ex
  have m_row_sums := PySem.W.mg_of X GN a_row_sums
  obtain ⟨f_send, fd_send, F_send, a_send⟩ := A_send.ex
  have m_send := PySem.W.mg_of X GN a_send
  obtain ⟨f_shortest, fd_shortest, F_shortest, a_shortest⟩ := A_shortest.ex
  have m_shortest := PySem.W.mg_of X GN a_shortest
  obtain ⟨f_step_length, fd_step_length, F_step_length, a_step_length⟩ := A_step_length.ex
  have m_step_length := PySem.W.mg_of X GN a_step_length
  obtain ⟨f_through, fd_through, F_through, a_through⟩ := A_through.ex
  have m_through := PySem.W.mg_of X GN a_through
  obtain ⟨f_tight_entries, fd_tight_entries, F_tight_entries, a_tight_entries⟩ := A_tight_entries.ex
  have m_tight_entries := PySem.W.mg_of X GN a_tight_entries
  obtain ⟨f_times, fd_times, F_times, a_times⟩ := A_times.ex
  have m_times := PySem.W.mg_of X GN a_times
  obtain ⟨f_told, fd_told, F_told, a_told⟩ := A_told.ex
  have m_told := PySem.W.mg_of X GN a_told
  obtain ⟨f_told_plan, fd_told_plan, F_told_plan, a_told_plan⟩ := A_told_plan.ex
  have m_told_plan := PySem.W.mg_of X GN a_told_plan
  obtain ⟨f_total, fd_total, F_total, a_total⟩ := A_total.ex
  have m_total := PySem.W.mg_of X GN a_total
  obtain ⟨f_value_of, fd_value_of, F_value_of, a_value_of⟩ := A_value_of.ex
  have m_value_of := PySem.W.mg_of X GN a_value_of
  obtain ⟨f_way_back, fd_way_back, F_way_back, a_way_back⟩ := A_way_back.ex
  have m_way_back := PySem.W.mg_of X GN a_way_back
  obtain ⟨f_with_fractions, fd_with_fractions, F_with_fractions, a_with_fractions⟩ := A_with_fractions.ex
  have m_with_fractions := PySem.W.mg_of X GN a_with_fractions
  obtain ⟨fd_set_edge, F_set_edge, a_set_edge⟩ := A_set_edge.ex
  have m_set_edge := PySem.W.mg_of X GN a_set_edge
  obtain ⟨fd_set_distribution, F_set_distribution, a_set_distribution⟩ := A_set_distribution.ex
  have m_set_distribution := PySem.W.mg_of X GN a_set_distribution
  obtain ⟨fd_distribution, F_distribution, a_distribution⟩ := A_distribution.ex
  have m_distribution := PySem.W.mg_of X GN a_distribution
  obtain ⟨fd_distance, F_distance, a_distance⟩ := A_distance.ex
  have m_distance := PySem.W.mg_of X GN a_distance
  obtain ⟨fd_min_cost, F_min_cost, a_min_cost⟩ := A_min_cost.ex
  have m_min_cost := PySem.W.mg_of X GN a_min_cost
  obtain ⟨fd_tell_optimal_plan, F_tell_optimal_plan, a_tell_optimal_plan⟩ := A_tell_optimal_plan.ex
  have m_tell_optimal_plan := PySem.W.mg_of X GN a_tell_optimal_plan
  obtain ⟨fd_tell_optimal_potentials, F_tell_optimal_potentials, a_tell_optimal_potentials⟩ := A_tell_optimal_potentials.ex
  have m_tell_optimal_potentials := PySem.W.mg_of X GN a_tell_optimal_potentials
  obtain ⟨fd_check_plan, F_check_plan, a_check_plan⟩ := A_check_plan.ex
  have m_check_plan := PySem.W.mg_of X GN a_check_plan
  obtain ⟨fd_check_potentials, F_check_potentials, a_check_potentials⟩ := A_check_potentials.ex
  have m_check_potentials := PySem.W.mg_of X GN a_check_potentials
  obtain ⟨fd_compose_plans, F_compose_plans, a_compose_plans⟩ := A_compose_plans.ex
  have m_compose_plans := PySem.W.mg_of X GN a_compose_plans
  obtain ⟨fd_map_distribution, F_map_distribution, a_map_distribution⟩ := A_map_distribution.ex
  have m_map_distribution := PySem.W.mg_of X GN a_map_distribution
  obtain ⟨fd_average, F_average, a_average⟩ := A_average.ex
  have m_average := PySem.W.mg_of X GN a_average
  obtain ⟨fd_tell_connected, F_tell_connected, a_tell_connected⟩ := A_tell_connected.ex
  have m_tell_connected := PySem.W.mg_of X GN a_tell_connected
  obtain ⟨f_Desk_answer, fd_Desk_answer, F_Desk_answer, m_Desk_answer⟩ := A_Desk_answer.ex
  obtain ⟨f_Call___init__, fd_Call___init__, F_Call___init__, M_Call___init__⟩ := I_Call.ex
  obtain ⟨f_Desk_create, fd_Desk_create, F_Desk_create, m_Desk_create⟩ := A_Desk_create.ex
  obtain ⟨f_Desk___init__, fd_Desk___init__, F_Desk___init__, M_Desk___init__⟩ := I_Desk.ex
  obtain ⟨f_Desk_done, fd_Desk_done, F_Desk_done, m_Desk_done⟩ := A_Desk_done.ex
  obtain ⟨f_Instance___init__, fd_Instance___init__, F_Instance___init__, M_Instance___init__⟩ := I_Instance.ex
  obtain ⟨f_Instance_look_points, fd_Instance_look_points, F_Instance_look_points, m_Instance_look_points⟩ := A_Instance_look_points.ex
  obtain ⟨f_Instance_points, fd_Instance_points, F_Instance_points, m_Instance_points⟩ := A_Instance_points.ex
  obtain ⟨f_Instance_set_length, fd_Instance_set_length, F_Instance_set_length, m_Instance_set_length⟩ := A_Instance_set_length.ex
  have m_I := PySem.W.mg_of X GN a_I
  have m_C := PySem.W.mg_of X GN a_C
  have m_D := PySem.W.mg_of X GN a_D
  obtain ⟨f_answers, fd_answers, F_answers, a_answers⟩ := AA.ex
  have e_answers := hfa.symm.trans (PySem.W.mg_of X GN a_answers)
  cases e_answers
  have B := NB.nb X GN
  have G := CA.gs X GN
  have Fm := FA
  have RT := RA.t X GN
  obtain ⟨f_Refused___init__, fd_Refused___init__, i1, i2, F_Refused___init__⟩ := RA.ex
  obtain ⟨fd_nearest_column, F_nearest_column, a_nearest_column, hTab, nT⟩ := NA.ex
  have m_nearest_column := PySem.W.mg_of X GN a_nearest_column
  obtain ⟨d, hd⟩ : ∃ d, (recsOf q).find? (fun e => e.name == ("nearest_column" : Str)) = some d := by
    cases e : (recsOf q).find? (fun e => e.name == ("nearest_column" : Str)) with
    | some d => exact ⟨d, rfl⟩
    | none =>
      obtain ⟨y, hy, hz⟩ := List.any_eq_true.mp hq
      exact absurd hz (by have := List.find?_eq_none.mp e y hy; exact this)
  refine ⟨fd_answers, "nearest_column", d, c0, P0, hd, hTab, nT, ?_, fun base _ _ TB => ?_⟩
  · obtain ⟨oc, od, kV, doc, pm, an, cdv, ct, osl, rfl, lk, hcd⟩ := F_answers.ex
    exact fun s us hu => match us, hu with | [_], _ => .of_eq rfl
  have c_amounts := EW.df_amounts (P := PP) (w := w) (mg := mg) (base := base) B m_amounts F_amounts
  have c_arcs_of := EW.df_arcs (P := PP) (w := w) (mg := mg) (base := base) B G m_arcs_of F_arcs_of
  have c_are_between := EW.df_are_between (P := PP) (w := w) (mg := mg) (base := base) B G m_are_between F_are_between
  have c_bounds_of := EW.df_bounds (P := PP) (w := w) (mg := mg) (base := base) B G m_bounds_of F_bounds_of
  have c_empty_lengths := EW.df_empty (P := PP) (w := w) (mg := mg) (base := base) B G m_empty_lengths F_empty_lengths
  have c_empty_plan := EW.df_empty_plan (P := PP) (w := w) (mg := mg) (base := base) B G m_empty_plan F_empty_plan
  have c_first_distribution := EW.df_first_distribution (P := PP) (w := w) (mg := mg) (base := base) B G m_first_distribution F_first_distribution
  have c_greatest_divisor := EW.df_gd (P := PP) (w := w) (mg := mg) (base := base) B m_greatest_divisor F_greatest_divisor
  have c_lowered := EW.df_lowered (P := PP) (w := w) (mg := mg) (base := base) B G m_lowered F_lowered
  have c_nearest_column := EW.df_nearest (P := PP) (w := w) (mg := mg) (base := base) B G TB m_nearest_column F_nearest_column
  have c_next_nodes := EW.df_next (P := PP) (w := w) (mg := mg) (base := base) B G m_next_nodes F_next_nodes
  have c_pairs := EW.df_pairs (P := PP) (w := w) (mg := mg) (base := base) B G m_pairs F_pairs
  have c_parents_from := EW.df_parents (P := PP) (w := w) (mg := mg) (base := base) B G m_parents_from F_parents_from c_next_nodes
  have c_path_to := EW.df_path_to (P := PP) (w := w) (mg := mg) (base := base) B G m_path_to F_path_to
  have c_raised := EW.df_raised (P := PP) (w := w) (mg := mg) (base := base) B G m_raised F_raised
  have c_ratio := EW.df_ratio (P := PP) (w := w) (mg := mg) (base := base) B m_ratio F_ratio c_greatest_divisor
  have c_relax := EW.df_relax (P := PP) (w := w) (mg := mg) (base := base) B G m_relax F_relax
  have c_shortest := EW.df_shortest (P := PP) (w := w) (mg := mg) (base := base) B G m_shortest F_shortest c_relax
  have c_step_length := EW.df_step (P := PP) (w := w) (mg := mg) (base := base) B G m_step_length F_step_length
  have c_through := EW.df_through (P := PP) (w := w) (mg := mg) (base := base) B G m_through F_through
  have c_tight_entries := EW.df_tight (P := PP) (w := w) (mg := mg) (base := base) B G m_tight_entries F_tight_entries
  have c_times := EW.df_times (P := PP) (w := w) (mg := mg) (base := base) B m_times F_times c_ratio
  have c_told := EW.df_told (P := PP) (w := w) (mg := mg) (base := base) B m_told F_told
  have c_way_back := EW.df_way_back (P := PP) (w := w) (mg := mg) (base := base) B G m_way_back F_way_back c_parents_from
  have c_with_fractions := EW.df_with_fractions (P := PP) (w := w) (mg := mg) (base := base) B G m_with_fractions F_with_fractions c_ratio
  have I_Call := EW.df_cinit (P := PP) (w := w) (mg := mg) (base := base) F_Call___init__ TC
  have b_Call := F_Call___init__.binds (ps := ["self", "operation", "numbers", "row", "end"]) fun _ _ _ _ _ _ us hl => match us, hl with | [_, _, _, _, _], _ => rfl
  have c_Call : MkD PP w K mg base 1 "Call" CC _ := ⟨⟨_, _, _, M_Call___init__, I_Call, b_Call⟩, m_C⟩
  have I_Desk := EW.df_dinit (P := PP) (w := w) (mg := mg) (base := base) F_Desk___init__ TD
  have b_Desk := F_Desk___init__.binds (ps := ["self"]) fun _ _ _ _ _ _ us hl => match us, hl with | [_], _ => rfl
  have c_Desk : MkD PP w K mg base 1 "Desk" CD _ := ⟨⟨_, _, _, M_Desk___init__, I_Desk, b_Desk⟩, m_D⟩
  have I_Instance := EW.df_init (P := PP) (w := w) (mg := mg) (base := base) B G TI F_Instance___init__ c_empty_lengths c_first_distribution
  have b_Instance := F_Instance___init__.binds (ps := ["self", "n"]) fun _ _ _ _ _ _ us hl => match us, hl with | [_, _], _ => rfl
  have c_Instance : MkD PP w K mg base 2 "Instance" CI _ := ⟨⟨_, _, _, M_Instance___init__, I_Instance, b_Instance⟩, m_I⟩
  have c_points := EW.df_points (P := PP) (w := w) (mg := mg) (base := base) B TI m_Instance_points F_Instance_points
  have I_Refused := EW.df_ref (P := PP) (w := w) (mg := mg) (base := base) B F_Refused___init__ RT.vV
  have b_Refused := F_Refused___init__.binds (ps := ["self", "code"]) fun _ _ _ _ _ _ us hl => match us, hl with | [_, _], _ => rfl
  have RD : RefD PP w K mg base CR := ⟨RT, _, _, _, i1, i2, I_Refused, b_Refused⟩
  have c_set_length := EW.df_set_length (P := PP) (w := w) (mg := mg) (base := base) B TI m_Instance_set_length F_Instance_set_length
  have c_call_at := EW.df_call_at (P := PP) (w := w) (mg := mg) (base := base) B G m_call_at F_call_at Fm c_Call
  have c_change := EW.df_change (P := PP) (w := w) (mg := mg) (base := base) B G m_change F_change c_lowered c_raised
  have c_common_denominator := EW.df_common (P := PP) (w := w) (mg := mg) (base := base) B m_common_denominator F_common_denominator c_greatest_divisor
  have c_distances := EW.df_distances (P := PP) (w := w) (mg := mg) (base := base) B G m_distances F_distances c_step_length c_through
  have c_divided := EW.df_divided (P := PP) (w := w) (mg := mg) (base := base) B m_divided F_divided c_ratio
  have c_are_feasible := EW.df_feasible (P := PP) (w := w) (mg := mg) (base := base) B G m_are_feasible F_are_feasible c_pairs
  have c_is_connected := EW.df_is_connected (P := PP) (w := w) (mg := mg) (base := base) B G m_is_connected F_is_connected c_distances
  have c_look_connected := EW.df_look_connected (P := PP) (w := w) (mg := mg) (base := base) B m_look_connected F_look_connected RD TI c_is_connected
  have c_look_row := EW.df_look_row (P := PP) (w := w) (mg := mg) (base := base) B m_look_row F_look_row RD c_are_between
  have c_look_slots := EW.df_look_slots (P := PP) (w := w) (mg := mg) (base := base) B G m_look_slots F_look_slots RD
  have c_look_transport := EW.df_look_transport (P := PP) (w := w) (mg := mg) (base := base) B m_look_transport F_look_transport c_look_slots c_look_connected
  have c_matrix_of := EW.df_matrix_of (P := PP) (w := w) (mg := mg) (base := base) B G m_matrix_of F_matrix_of c_ratio
  have c_minus := EW.df_minus (P := PP) (w := w) (mg := mg) (base := base) B m_minus F_minus c_ratio
  have c_plus := EW.df_plus (P := PP) (w := w) (mg := mg) (base := base) B m_plus F_plus c_ratio
  have c_greatest_potentials := EW.df_potentials (P := PP) (w := w) (mg := mg) (base := base) B G m_greatest_potentials F_greatest_potentials c_bounds_of c_shortest
  have c_raise_entry := EW.df_raise (P := PP) (w := w) (mg := mg) (base := base) B G m_raise_entry F_raise_entry c_way_back c_lowered c_change
  have c_send := EW.df_send (P := PP) (w := w) (mg := mg) (base := base) B G TB m_send F_send c_shortest c_arcs_of c_nearest_column c_path_to c_lowered c_change
  have c_set_distribution := EW.df_set_distribution (P := PP) (w := w) (mg := mg) (base := base) (P0 := P0) (C := CI) (CR := CR) B G TI m_set_distribution F_set_distribution RD c_look_slots c_look_row c_points c_ratio
  have c_tell_connected := EW.df_tell_connected (P := PP) (w := w) (mg := mg) (base := base) (P0 := P0) (C := CI) (CR := CR) B TI m_tell_connected F_tell_connected c_is_connected
  have c_total := EW.df_total (P := PP) (w := w) (mg := mg) (base := base) B G m_total F_total c_plus
  have c_value_of := EW.df_value_of (P := PP) (w := w) (mg := mg) (base := base) B G m_value_of F_value_of c_plus c_minus c_times
  have c_create := EW.df_create (P := PP) (w := w) (mg := mg) (base := base) B G m_Desk_create F_Desk_create TD RD c_Instance
  have c_look_points := EW.df_look_points (P := PP) (w := w) (mg := mg) (base := base) B TI m_Instance_look_points F_Instance_look_points RD c_points
  have c_average := EW.df_average (P := PP) (w := w) (mg := mg) (base := base) (P0 := P0) (C := CI) (CR := CR) B G TI m_average F_average RD c_look_slots c_plus c_times
  have c_cheapest_plan := EW.df_cheapest_plan (P := PP) (w := w) (mg := mg) (base := base) B G TB m_cheapest_plan F_cheapest_plan c_empty_plan c_send
  have c_check_potentials := EW.df_check_potentials (P := PP) (w := w) (mg := mg) (base := base) (P0 := P0) (C := CI) (CR := CR) B G TI m_check_potentials F_check_potentials c_look_slots c_look_row c_look_connected c_points c_value_of c_are_feasible c_distances c_told
  have c_column_sums := EW.df_column_sums (P := PP) (w := w) (mg := mg) (base := base) B G m_column_sums F_column_sums c_total
  have c_composed_entry := EW.df_composed_entry (P := PP) (w := w) (mg := mg) (base := base) B G m_composed_entry F_composed_entry c_total c_times c_divided
  have c_composition := EW.df_composition (P := PP) (w := w) (mg := mg) (base := base) B G m_composition F_composition c_composed_entry
  have c_cost_of := EW.df_cost_of (P := PP) (w := w) (mg := mg) (base := base) B G m_cost_of F_cost_of c_times c_total c_pairs
  have c_distance := EW.df_distance (P := PP) (w := w) (mg := mg) (base := base) (P0 := P0) (C := CI) (CR := CR) B G TI m_distance F_distance RD c_look_points c_distances
  have c_distribution := EW.df_distribution (P := PP) (w := w) (mg := mg) (base := base) (P0 := P0) (C := CI) (CR := CR) B TI m_distribution F_distribution c_look_slots c_points c_told
  have c_greatest_plan := EW.df_greatest_plan (P := PP) (w := w) (mg := mg) (base := base) B G m_greatest_plan F_greatest_plan c_tight_entries c_raise_entry
  have c_mapped := EW.df_mapped (P := PP) (w := w) (mg := mg) (base := base) B G m_mapped F_mapped c_plus
  have c_row_sums := EW.df_row_sums (P := PP) (w := w) (mg := mg) (base := base) B G m_row_sums F_row_sums c_total
  have c_set_edge := EW.df_set_edge (P := PP) (w := w) (mg := mg) (base := base) (P0 := P0) (C := CI) (CR := CR) B G TI m_set_edge F_set_edge RD c_look_points c_set_length c_are_between
  have c_told_plan := EW.df_told_plan (P := PP) (w := w) (mg := mg) (base := base) B G m_told_plan F_told_plan c_told c_cost_of
  have c_cheapest_amounts := EW.df_cheapest_amounts (P := PP) (w := w) (mg := mg) (base := base) B G TB m_cheapest_amounts F_cheapest_amounts c_common_denominator c_amounts c_cheapest_plan
  have c_is_plan := EW.df_is_plan (P := PP) (w := w) (mg := mg) (base := base) B G m_is_plan F_is_plan c_pairs c_row_sums c_column_sums
  have c_lowest_cost := EW.df_lowest_cost (P := PP) (w := w) (mg := mg) (base := base) B G m_lowest_cost F_lowest_cost c_cheapest_amounts c_with_fractions c_cost_of
  have c_map_distribution := EW.df_map_distribution (P := PP) (w := w) (mg := mg) (base := base) (P0 := P0) (C := CI) (CR := CR) B G TI m_map_distribution F_map_distribution c_look_slots c_look_row c_points c_mapped
  have c_min_cost := EW.df_min_cost (P := PP) (w := w) (mg := mg) (base := base) (P0 := P0) (C := CI) (CR := CR) B TI m_min_cost F_min_cost c_look_transport c_distances c_lowest_cost c_told
  have c_optimal_plan := EW.df_optimal_plan (P := PP) (w := w) (mg := mg) (base := base) B G m_optimal_plan F_optimal_plan c_cheapest_amounts c_with_fractions c_greatest_potentials c_greatest_plan
  have c_optimal_potentials := EW.df_optimal_potentials (P := PP) (w := w) (mg := mg) (base := base) B G m_optimal_potentials F_optimal_potentials c_cheapest_amounts c_greatest_potentials
  have c_tell_optimal_plan := EW.df_tell_optimal_plan (P := PP) (w := w) (mg := mg) (base := base) (P0 := P0) (C := CI) (CR := CR) TI m_tell_optimal_plan F_tell_optimal_plan c_look_transport c_distances c_optimal_plan c_told_plan
  have c_tell_optimal_potentials := EW.df_tell_optimal_potentials (P := PP) (w := w) (mg := mg) (base := base) (P0 := P0) (C := CI) (CR := CR) B TI m_tell_optimal_potentials F_tell_optimal_potentials c_look_transport c_distances c_optimal_potentials c_value_of c_told
  have c_check_plan := EW.df_check_plan (P := PP) (w := w) (mg := mg) (base := base) (P0 := P0) (C := CI) (CR := CR) B G TI m_check_plan F_check_plan RD c_look_slots c_look_connected c_points c_matrix_of c_is_plan c_cost_of c_distances c_told
  have c_compose_plans := EW.df_compose_plans (P := PP) (w := w) (mg := mg) (base := base) (P0 := P0) (C := CI) (CR := CR) B TI m_compose_plans F_compose_plans c_look_transport c_distances c_optimal_plan c_composition c_told_plan
  have O : OpsT PP w K mg base A0 P0 CI CR := OA.ops fun i f hi => by
    match i, hi with
    | 0, hi => cases hi; exact c_set_edge.deed m_set_edge (by decide)
    | 1, hi => cases hi; exact c_set_distribution.deed m_set_distribution (by decide)
    | 2, hi => cases hi; exact c_distribution.deed m_distribution (by decide)
    | 3, hi => cases hi; exact c_distance.deed m_distance (by decide)
    | 4, hi => cases hi; exact c_min_cost.deed m_min_cost (by decide)
    | 5, hi => cases hi; exact c_tell_optimal_plan.deed m_tell_optimal_plan (by decide)
    | 6, hi => cases hi; exact c_tell_optimal_potentials.deed m_tell_optimal_potentials (by decide)
    | 7, hi => cases hi; exact c_check_plan.deed m_check_plan (by decide)
    | 8, hi => cases hi; exact c_check_potentials.deed m_check_potentials (by decide)
    | 9, hi => cases hi; exact c_compose_plans.deed m_compose_plans (by decide)
    | 10, hi => cases hi; exact c_map_distribution.deed m_map_distribution (by decide)
    | 11, hi => cases hi; exact c_average.deed m_average (by decide)
    | 12, hi => cases hi; exact c_tell_connected.deed m_tell_connected (by decide)
    | i + 13, hi => simp at hi
  have c_done := EW.df_done (P := PP) (w := w) (mg := mg) (base := base) B G m_Desk_done F_Desk_done TD TC RD O c_create
  have c_answer := EW.df_answer (P := PP) (w := w) (mg := mg) (base := base) m_Desk_answer F_Desk_answer TD RT c_done
  exact df_answers (P := PP) (w := w) (mg := mg) (base := base) B G F_answers TD TC c_Desk c_call_at c_answer
end EW
end

/-! ## End -/
section
set_option Elab.async false
set_option linter.all false
set_option maxRecDepth 100000
set_option maxHeartbeats 8000000


open PySem PySem.W PyProof.Rows

set_option maxRecDepth 100000 in
set_option maxHeartbeats 0 in
theorem PySem.Challenge.cw_earthheaps_s01_answers_holds : PySem.Challenge.rw_earthheaps_s01_answers.Holds := by
  w_on; k_headS; (case hw => exact ⟨[.list [.int 13]], by decide +kernel, by decide +kernel⟩)
  k_fillS
  refine EWT.walk_specT (r := PySem.Challenge.rw_earthheaps_s01_answers) (k := 11) (CX := L2.CX0) (ps := ["calls"]) (sp := EW.spAnswers) (by decide +kernel) rfl rfl ⟨rfl, by decide, by decide⟩ (fun w h Y => PySem.W.kIn_of Y) ?F ?S (fun _ _ _ _ z => z)
  case F =>
    intro w mg fa h Y KX G hmg

    refine' EW.all_mk (A0 := ⟨_, _, _, _, _⟩) KX G hmg ?hq ?a_I ?a_C ?a_D ?TI ?TC ?TD ?RA ?NB ?CA ?FA ?OA ?NA ?AA ?A_amounts ?A_arcs_of ?A_are_between ?A_bounds_of ?A_call_at ?A_change ?A_cheapest_amounts ?A_cheapest_plan ?A_column_sums ?A_common_denominator ?A_composed_entry ?A_composition ?A_cost_of ?A_distances ?A_divided ?A_empty_lengths ?A_empty_plan ?A_are_feasible ?A_first_distribution ?A_greatest_divisor ?A_greatest_plan ?A_is_connected ?A_is_plan ?A_look_connected ?A_look_row ?A_look_slots ?A_look_transport ?A_lowered ?A_lowest_cost ?A_mapped ?A_matrix_of ?A_minus ?A_next_nodes ?A_optimal_plan ?A_optimal_potentials ?A_pairs ?A_parents_from ?A_path_to ?A_plus ?A_greatest_potentials ?A_raise_entry ?A_raised ?A_ratio ?A_relax ?A_row_sums ?A_send ?A_shortest ?A_step_length ?A_through ?A_tight_entries ?A_times ?A_told ?A_told_plan ?A_total ?A_value_of ?A_way_back ?A_with_fractions ?A_set_edge ?A_set_distribution ?A_distribution ?A_distance ?A_min_cost ?A_tell_optimal_plan ?A_tell_optimal_potentials ?A_check_plan ?A_check_potentials ?A_compose_plans ?A_map_distribution ?A_average ?A_tell_connected ?A_Desk_answer ?I_Call ?A_Desk_create ?I_Desk ?A_Desk_done ?I_Instance ?A_Instance_look_points ?A_Instance_points ?A_Instance_set_length
    (case hq => decide +kernel)
    (case a_I => k_is); (case a_C => k_is); (case a_D => k_is)
    (case TI => (refine' EW.box_mk ?bz ?ba ?bb; (case bz => (refine' L2.Cls.mk ?a_82 ?b_82 ?c_82 ?d_82; (case a_82 => k_is); (case b_82 => k_is); (case c_82 => k_is); (case d_82 => k_is))); (case ba => k_is); (case bb => k_is)))
    (case TC => (refine' EW.call_mk ?cz ?ca ?cb ?cc ?cd; (case cz => (refine' L2.Cls.mk ?a_83 ?b_83 ?c_83 ?d_83; (case a_83 => k_is); (case b_83 => k_is); (case c_83 => k_is); (case d_83 => k_is))); (case ca => k_is); (case cb => k_is); (case cc => k_is); (case cd => k_is)))
    (case TD => (refine' EW.desk_mk ?dz ?da; (case dz => (refine' L2.Cls.mk ?a_84 ?b_84 ?c_84 ?d_84; (case a_84 => k_is); (case b_84 => k_is); (case c_84 => k_is); (case d_84 => k_is))); (case da => k_is)))
    (case RA => (refine' EW.ref_mk ?a_85 ?xL_85 ?sa_85 ?ga_85 ?gg_85 ?nc_85 ?vV_85 ?kC_85 ?eC_85 ?tC_85 ?hC_85 ?iC_85 ?sC_85 ?i_85 ?t_85 ?l_85 ?c_85 ?k_85; (case a_85 => k_is); (case xL_85 => k_is); (case sa_85 => k_is); (case ga_85 => k_is); (case gg_85 => k_is); (case nc_85 => k_is); (case vV_85 => k_is); (case kC_85 => k_is); (case eC_85 => k_is); (case tC_85 => k_is); (case hC_85 => k_is); (case iC_85 => k_is); (case sC_85 => first | rfl | k_is); (case i_85 => k_is); (case t_85 => k_is); (case l_85 => k_is); (case c_85 => k_is); (case k_85 => k_is)))
    (case NB => (refine' EW.NbA.mk ?a0 ?a1 ?a2 ?a3 ?a4 ?a5 ?a6 ?a7 ?a8 ?a9 ?a10; (case a0 => k_is); (case a1 => k_is); (case a2 => k_is); (case a3 => k_is); (case a4 => k_is); (case a5 => k_is); (case a6 => k_is); (case a7 => k_is); (case a8 => k_is); (case a9 => k_is); (case a10 => k_is)))
    (case CA => (refine' EW.gs_mk ?e1 ?e2 ?e3 ?e4 ?e5 ?e6 ?e7 ?e8 ?r1 ?r2 ?r3 ?r4 ?r5 ?l1 ?l2 ?l3; (case e1 => k_is); (case e2 => k_is); (case e3 => k_is); (case e4 => k_is); (case e5 => k_is); (case e6 => k_is); (case e7 => k_is); (case e8 => k_is); (case r1 => k_is); (case r2 => k_is); (case r3 => k_is); (case r4 => k_is); (case r5 => k_is); (case l1 => k_is); (case l2 => k_is); (case l3 => k_is)))
    (case FA => (refine' EW.forms_mk ?fl ?f0 ?f1 ?f2 ?f3 ?f4 ?f5 ?f6 ?f7 ?f8 ?f9 ?f10 ?f11 ?f12 ?f13; (case fl => k_is); (case f0 => (refine' EW.fo_mk ?l_86; (case l_86 => k_is))); (case f1 => (refine' EW.fo_mk ?l_87; (case l_87 => k_is))); (case f2 => (refine' EW.fo_mk ?l_88; (case l_88 => k_is))); (case f3 => (refine' EW.fo_mk ?l_89; (case l_89 => k_is))); (case f4 => (refine' EW.fo_mk ?l_90; (case l_90 => k_is))); (case f5 => (refine' EW.fo_mk ?l_91; (case l_91 => k_is))); (case f6 => (refine' EW.fo_mk ?l_92; (case l_92 => k_is))); (case f7 => (refine' EW.fo_mk ?l_93; (case l_93 => k_is))); (case f8 => (refine' EW.fo_mk ?l_94; (case l_94 => k_is))); (case f9 => (refine' EW.fo_mk ?l_95; (case l_95 => k_is))); (case f10 => (refine' EW.fo_mk ?l_96; (case l_96 => k_is))); (case f11 => (refine' EW.fo_mk ?l_97; (case l_97 => k_is))); (case f12 => (refine' EW.fo_mk ?l_98; (case l_98 => k_is))); (case f13 => (refine' EW.fo_mk ?l_99; (case l_99 => k_is)))))
    (case OA => (refine' EW.ops_mk ?ol; (case ol => k_is)))
    (case NA => (refine' EW.near_mk ?a_81 ?l_81 ?c_81 ?k_81 ?m_81 ?v_81 ?n_81; (case a_81 => k_is); (case l_81 => k_is); (case c_81 => k_is); (case k_81 => k_is); (case m_81 => k_is); (case v_81 => exact rfl); (case n_81 => kernel_rfl)))
    (case AA => (refine' EW.fat_mk ?a_1 ?l_1 ?c_1 ?k_1; (case a_1 => k_is); (case l_1 => k_is); (case c_1 => k_is); (case k_1 => k_is)))
    (case A_amounts => (refine' EW.fat_mk ?a_2 ?l_2 ?c_2 ?k_2; (case a_2 => k_is); (case l_2 => k_is); (case c_2 => k_is); (case k_2 => k_is)))
    (case A_arcs_of => (refine' EW.fat_mk ?a_3 ?l_3 ?c_3 ?k_3; (case a_3 => k_is); (case l_3 => k_is); (case c_3 => k_is); (case k_3 => k_is)))
    (case A_are_between => (refine' EW.fat_mk ?a_4 ?l_4 ?c_4 ?k_4; (case a_4 => k_is); (case l_4 => k_is); (case c_4 => k_is); (case k_4 => k_is)))
    (case A_bounds_of => (refine' EW.fat_mk ?a_5 ?l_5 ?c_5 ?k_5; (case a_5 => k_is); (case l_5 => k_is); (case c_5 => k_is); (case k_5 => k_is)))
    (case A_call_at => (refine' EW.fat_mk ?a_6 ?l_6 ?c_6 ?k_6; (case a_6 => k_is); (case l_6 => k_is); (case c_6 => k_is); (case k_6 => k_is)))
    (case A_change => (refine' EW.fat_mk ?a_7 ?l_7 ?c_7 ?k_7; (case a_7 => k_is); (case l_7 => k_is); (case c_7 => k_is); (case k_7 => k_is)))
    (case A_cheapest_amounts => (refine' EW.fat_mk ?a_8 ?l_8 ?c_8 ?k_8; (case a_8 => k_is); (case l_8 => k_is); (case c_8 => k_is); (case k_8 => k_is)))
    (case A_cheapest_plan => (refine' EW.fat_mk ?a_9 ?l_9 ?c_9 ?k_9; (case a_9 => k_is); (case l_9 => k_is); (case c_9 => k_is); (case k_9 => k_is)))
    (case A_column_sums => (refine' EW.fat_mk ?a_10 ?l_10 ?c_10 ?k_10; (case a_10 => k_is); (case l_10 => k_is); (case c_10 => k_is); (case k_10 => k_is)))
    (case A_common_denominator => (refine' EW.fat_mk ?a_11 ?l_11 ?c_11 ?k_11; (case a_11 => k_is); (case l_11 => k_is); (case c_11 => k_is); (case k_11 => k_is)))
    (case A_composed_entry => (refine' EW.fat_mk ?a_12 ?l_12 ?c_12 ?k_12; (case a_12 => k_is); (case l_12 => k_is); (case c_12 => k_is); (case k_12 => k_is)))
    (case A_composition => (refine' EW.fat_mk ?a_13 ?l_13 ?c_13 ?k_13; (case a_13 => k_is); (case l_13 => k_is); (case c_13 => k_is); (case k_13 => k_is)))
    (case A_cost_of => (refine' EW.fat_mk ?a_14 ?l_14 ?c_14 ?k_14; (case a_14 => k_is); (case l_14 => k_is); (case c_14 => k_is); (case k_14 => k_is)))
    (case A_distances => (refine' EW.fat_mk ?a_15 ?l_15 ?c_15 ?k_15; (case a_15 => k_is); (case l_15 => k_is); (case c_15 => k_is); (case k_15 => k_is)))
    (case A_divided => (refine' EW.fat_mk ?a_16 ?l_16 ?c_16 ?k_16; (case a_16 => k_is); (case l_16 => k_is); (case c_16 => k_is); (case k_16 => k_is)))
    (case A_empty_lengths => (refine' EW.fat_mk ?a_17 ?l_17 ?c_17 ?k_17; (case a_17 => k_is); (case l_17 => k_is); (case c_17 => k_is); (case k_17 => k_is)))
    (case A_empty_plan => (refine' EW.fat_mk ?a_18 ?l_18 ?c_18 ?k_18; (case a_18 => k_is); (case l_18 => k_is); (case c_18 => k_is); (case k_18 => k_is)))
    (case A_are_feasible => (refine' EW.fat_mk ?a_19 ?l_19 ?c_19 ?k_19; (case a_19 => k_is); (case l_19 => k_is); (case c_19 => k_is); (case k_19 => k_is)))
    (case A_first_distribution => (refine' EW.fat_mk ?a_20 ?l_20 ?c_20 ?k_20; (case a_20 => k_is); (case l_20 => k_is); (case c_20 => k_is); (case k_20 => k_is)))
    (case A_greatest_divisor => (refine' EW.fat_mk ?a_21 ?l_21 ?c_21 ?k_21; (case a_21 => k_is); (case l_21 => k_is); (case c_21 => k_is); (case k_21 => k_is)))
    (case A_greatest_plan => (refine' EW.fat_mk ?a_22 ?l_22 ?c_22 ?k_22; (case a_22 => k_is); (case l_22 => k_is); (case c_22 => k_is); (case k_22 => k_is)))
    (case A_is_connected => (refine' EW.fat_mk ?a_23 ?l_23 ?c_23 ?k_23; (case a_23 => k_is); (case l_23 => k_is); (case c_23 => k_is); (case k_23 => k_is)))
    (case A_is_plan => (refine' EW.fat_mk ?a_24 ?l_24 ?c_24 ?k_24; (case a_24 => k_is); (case l_24 => k_is); (case c_24 => k_is); (case k_24 => k_is)))
    (case A_look_connected => (refine' EW.fat_mk ?a_25 ?l_25 ?c_25 ?k_25; (case a_25 => k_is); (case l_25 => k_is); (case c_25 => k_is); (case k_25 => k_is)))
    (case A_look_row => (refine' EW.fat_mk ?a_26 ?l_26 ?c_26 ?k_26; (case a_26 => k_is); (case l_26 => k_is); (case c_26 => k_is); (case k_26 => k_is)))
    (case A_look_slots => (refine' EW.fat_mk ?a_27 ?l_27 ?c_27 ?k_27; (case a_27 => k_is); (case l_27 => k_is); (case c_27 => k_is); (case k_27 => k_is)))
    (case A_look_transport => (refine' EW.fat_mk ?a_28 ?l_28 ?c_28 ?k_28; (case a_28 => k_is); (case l_28 => k_is); (case c_28 => k_is); (case k_28 => k_is)))
    (case A_lowered => (refine' EW.fat_mk ?a_29 ?l_29 ?c_29 ?k_29; (case a_29 => k_is); (case l_29 => k_is); (case c_29 => k_is); (case k_29 => k_is)))
    (case A_lowest_cost => (refine' EW.fat_mk ?a_30 ?l_30 ?c_30 ?k_30; (case a_30 => k_is); (case l_30 => k_is); (case c_30 => k_is); (case k_30 => k_is)))
    (case A_mapped => (refine' EW.fat_mk ?a_31 ?l_31 ?c_31 ?k_31; (case a_31 => k_is); (case l_31 => k_is); (case c_31 => k_is); (case k_31 => k_is)))
    (case A_matrix_of => (refine' EW.fat_mk ?a_32 ?l_32 ?c_32 ?k_32; (case a_32 => k_is); (case l_32 => k_is); (case c_32 => k_is); (case k_32 => k_is)))
    (case A_minus => (refine' EW.fat_mk ?a_33 ?l_33 ?c_33 ?k_33; (case a_33 => k_is); (case l_33 => k_is); (case c_33 => k_is); (case k_33 => k_is)))
    (case A_next_nodes => (refine' EW.fat_mk ?a_34 ?l_34 ?c_34 ?k_34; (case a_34 => k_is); (case l_34 => k_is); (case c_34 => k_is); (case k_34 => k_is)))
    (case A_optimal_plan => (refine' EW.fat_mk ?a_35 ?l_35 ?c_35 ?k_35; (case a_35 => k_is); (case l_35 => k_is); (case c_35 => k_is); (case k_35 => k_is)))
    (case A_optimal_potentials => (refine' EW.fat_mk ?a_36 ?l_36 ?c_36 ?k_36; (case a_36 => k_is); (case l_36 => k_is); (case c_36 => k_is); (case k_36 => k_is)))
    (case A_pairs => (refine' EW.fat_mk ?a_37 ?l_37 ?c_37 ?k_37; (case a_37 => k_is); (case l_37 => k_is); (case c_37 => k_is); (case k_37 => k_is)))
    (case A_parents_from => (refine' EW.fat_mk ?a_38 ?l_38 ?c_38 ?k_38; (case a_38 => k_is); (case l_38 => k_is); (case c_38 => k_is); (case k_38 => k_is)))
    (case A_path_to => (refine' EW.fat_mk ?a_39 ?l_39 ?c_39 ?k_39; (case a_39 => k_is); (case l_39 => k_is); (case c_39 => k_is); (case k_39 => k_is)))
    (case A_plus => (refine' EW.fat_mk ?a_40 ?l_40 ?c_40 ?k_40; (case a_40 => k_is); (case l_40 => k_is); (case c_40 => k_is); (case k_40 => k_is)))
    (case A_greatest_potentials => (refine' EW.fat_mk ?a_41 ?l_41 ?c_41 ?k_41; (case a_41 => k_is); (case l_41 => k_is); (case c_41 => k_is); (case k_41 => k_is)))
    (case A_raise_entry => (refine' EW.fat_mk ?a_42 ?l_42 ?c_42 ?k_42; (case a_42 => k_is); (case l_42 => k_is); (case c_42 => k_is); (case k_42 => k_is)))
    (case A_raised => (refine' EW.fat_mk ?a_43 ?l_43 ?c_43 ?k_43; (case a_43 => k_is); (case l_43 => k_is); (case c_43 => k_is); (case k_43 => k_is)))
    (case A_ratio => (refine' EW.fat_mk ?a_44 ?l_44 ?c_44 ?k_44; (case a_44 => k_is); (case l_44 => k_is); (case c_44 => k_is); (case k_44 => k_is)))
    (case A_relax => (refine' EW.fat_mk ?a_45 ?l_45 ?c_45 ?k_45; (case a_45 => k_is); (case l_45 => k_is); (case c_45 => k_is); (case k_45 => k_is)))
    (case A_row_sums => (refine' EW.fat_mk ?a_46 ?l_46 ?c_46 ?k_46; (case a_46 => k_is); (case l_46 => k_is); (case c_46 => k_is); (case k_46 => k_is)))
    (case A_send => (refine' EW.fat_mk ?a_47 ?l_47 ?c_47 ?k_47; (case a_47 => k_is); (case l_47 => k_is); (case c_47 => k_is); (case k_47 => k_is)))
    (case A_shortest => (refine' EW.fat_mk ?a_48 ?l_48 ?c_48 ?k_48; (case a_48 => k_is); (case l_48 => k_is); (case c_48 => k_is); (case k_48 => k_is)))
    (case A_step_length => (refine' EW.fat_mk ?a_49 ?l_49 ?c_49 ?k_49; (case a_49 => k_is); (case l_49 => k_is); (case c_49 => k_is); (case k_49 => k_is)))
    (case A_through => (refine' EW.fat_mk ?a_50 ?l_50 ?c_50 ?k_50; (case a_50 => k_is); (case l_50 => k_is); (case c_50 => k_is); (case k_50 => k_is)))
    (case A_tight_entries => (refine' EW.fat_mk ?a_51 ?l_51 ?c_51 ?k_51; (case a_51 => k_is); (case l_51 => k_is); (case c_51 => k_is); (case k_51 => k_is)))
    (case A_times => (refine' EW.fat_mk ?a_52 ?l_52 ?c_52 ?k_52; (case a_52 => k_is); (case l_52 => k_is); (case c_52 => k_is); (case k_52 => k_is)))
    (case A_told => (refine' EW.fat_mk ?a_53 ?l_53 ?c_53 ?k_53; (case a_53 => k_is); (case l_53 => k_is); (case c_53 => k_is); (case k_53 => k_is)))
    (case A_told_plan => (refine' EW.fat_mk ?a_54 ?l_54 ?c_54 ?k_54; (case a_54 => k_is); (case l_54 => k_is); (case c_54 => k_is); (case k_54 => k_is)))
    (case A_total => (refine' EW.fat_mk ?a_55 ?l_55 ?c_55 ?k_55; (case a_55 => k_is); (case l_55 => k_is); (case c_55 => k_is); (case k_55 => k_is)))
    (case A_value_of => (refine' EW.fat_mk ?a_56 ?l_56 ?c_56 ?k_56; (case a_56 => k_is); (case l_56 => k_is); (case c_56 => k_is); (case k_56 => k_is)))
    (case A_way_back => (refine' EW.fat_mk ?a_57 ?l_57 ?c_57 ?k_57; (case a_57 => k_is); (case l_57 => k_is); (case c_57 => k_is); (case k_57 => k_is)))
    (case A_with_fractions => (refine' EW.fat_mk ?a_58 ?l_58 ?c_58 ?k_58; (case a_58 => k_is); (case l_58 => k_is); (case c_58 => k_is); (case k_58 => k_is)))
    (case A_set_edge => (refine' EW.fata_mk ?a_59 ?l_59 ?c_59 ?k_59; (case a_59 => k_is); (case l_59 => k_is); (case c_59 => k_is); (case k_59 => k_is)))
    (case A_set_distribution => (refine' EW.fata_mk ?a_60 ?l_60 ?c_60 ?k_60; (case a_60 => k_is); (case l_60 => k_is); (case c_60 => k_is); (case k_60 => k_is)))
    (case A_distribution => (refine' EW.fata_mk ?a_61 ?l_61 ?c_61 ?k_61; (case a_61 => k_is); (case l_61 => k_is); (case c_61 => k_is); (case k_61 => k_is)))
    (case A_distance => (refine' EW.fata_mk ?a_62 ?l_62 ?c_62 ?k_62; (case a_62 => k_is); (case l_62 => k_is); (case c_62 => k_is); (case k_62 => k_is)))
    (case A_min_cost => (refine' EW.fata_mk ?a_63 ?l_63 ?c_63 ?k_63; (case a_63 => k_is); (case l_63 => k_is); (case c_63 => k_is); (case k_63 => k_is)))
    (case A_tell_optimal_plan => (refine' EW.fata_mk ?a_64 ?l_64 ?c_64 ?k_64; (case a_64 => k_is); (case l_64 => k_is); (case c_64 => k_is); (case k_64 => k_is)))
    (case A_tell_optimal_potentials => (refine' EW.fata_mk ?a_65 ?l_65 ?c_65 ?k_65; (case a_65 => k_is); (case l_65 => k_is); (case c_65 => k_is); (case k_65 => k_is)))
    (case A_check_plan => (refine' EW.fata_mk ?a_66 ?l_66 ?c_66 ?k_66; (case a_66 => k_is); (case l_66 => k_is); (case c_66 => k_is); (case k_66 => k_is)))
    (case A_check_potentials => (refine' EW.fata_mk ?a_67 ?l_67 ?c_67 ?k_67; (case a_67 => k_is); (case l_67 => k_is); (case c_67 => k_is); (case k_67 => k_is)))
    (case A_compose_plans => (refine' EW.fata_mk ?a_68 ?l_68 ?c_68 ?k_68; (case a_68 => k_is); (case l_68 => k_is); (case c_68 => k_is); (case k_68 => k_is)))
    (case A_map_distribution => (refine' EW.fata_mk ?a_69 ?l_69 ?c_69 ?k_69; (case a_69 => k_is); (case l_69 => k_is); (case c_69 => k_is); (case k_69 => k_is)))
    (case A_average => (refine' EW.fata_mk ?a_70 ?l_70 ?c_70 ?k_70; (case a_70 => k_is); (case l_70 => k_is); (case c_70 => k_is); (case k_70 => k_is)))
    (case A_tell_connected => (refine' EW.fata_mk ?a_71 ?l_71 ?c_71 ?k_71; (case a_71 => k_is); (case l_71 => k_is); (case c_71 => k_is); (case k_71 => k_is)))
    (case A_Desk_answer => (refine' EW.mat_mk ?a_72 ?i_72 ?l_72 ?c_72 ?k_72; (case a_72 => k_is); (case i_72 => k_is); (case l_72 => k_is); (case c_72 => k_is); (case k_72 => k_is)))
    (case I_Call => (refine' EW.iat_mk ?n_78 ?z_78 ?a_78 ?i_78 ?l_78 ?c_78 ?k_78; (case n_78 => k_is); (case z_78 => k_is); (case a_78 => k_is); (case i_78 => k_is); (case l_78 => k_is); (case c_78 => k_is); (case k_78 => k_is)))
    (case A_Desk_create => (refine' EW.mat_mk ?a_73 ?i_73 ?l_73 ?c_73 ?k_73; (case a_73 => k_is); (case i_73 => k_is); (case l_73 => k_is); (case c_73 => k_is); (case k_73 => k_is)))
    (case I_Desk => (refine' EW.iat_mk ?n_79 ?z_79 ?a_79 ?i_79 ?l_79 ?c_79 ?k_79; (case n_79 => k_is); (case z_79 => k_is); (case a_79 => k_is); (case i_79 => k_is); (case l_79 => k_is); (case c_79 => k_is); (case k_79 => k_is)))
    (case A_Desk_done => (refine' EW.mat_mk ?a_74 ?i_74 ?l_74 ?c_74 ?k_74; (case a_74 => k_is); (case i_74 => k_is); (case l_74 => k_is); (case c_74 => k_is); (case k_74 => k_is)))
    (case I_Instance => (refine' EW.iat_mk ?n_80 ?z_80 ?a_80 ?i_80 ?l_80 ?c_80 ?k_80; (case n_80 => k_is); (case z_80 => k_is); (case a_80 => k_is); (case i_80 => k_is); (case l_80 => k_is); (case c_80 => k_is); (case k_80 => k_is)))
    (case A_Instance_look_points => (refine' EW.mat_mk ?a_75 ?i_75 ?l_75 ?c_75 ?k_75; (case a_75 => k_is); (case i_75 => k_is); (case l_75 => k_is); (case c_75 => k_is); (case k_75 => k_is)))
    (case A_Instance_points => (refine' EW.mat_mk ?a_76 ?i_76 ?l_76 ?c_76 ?k_76; (case a_76 => k_is); (case i_76 => k_is); (case l_76 => k_is); (case c_76 => k_is); (case k_76 => k_is)))
    (case A_Instance_set_length => (refine' EW.mat_mk ?a_77 ?i_77 ?l_77 ?c_77 ?k_77; (case a_77 => k_is); (case i_77 => k_is); (case l_77 => k_is); (case c_77 => k_is); (case k_77 => k_is)))
  case S =>
    intro K P0 H xs a hP hwi hask hx
    cases hx with
    | cons h1 h2 =>
      cases h2
      cases h1 with
      | lst hs ha =>
        have e := L2.ints_dw a.1 _ ha
        subst e
        exact ⟨_, a.1, rfl, hs, hask, EW.tabs_start hP, fun H' p hp => .lst (L2.SqL.of hp) (L2.dw_ints _)⟩
end
