import PyProof.Rows.All
import Wide.All
import OpenK.AllK
import Wide.FinOn
import KE.KStateDown
import Lean
import HandS.ForMost
import HandS.Defaults
import HandS.Head0
import HandS.Head1
import HandS.Head2
import HandS.HeadEnd
import HandS.HeadHook1
import HandS.HeadHook2
import PySem.Challenge.RW_nearhours_k14_whole_clashing_rings
import KE.GoesMore
import KE.KDictPairs
import KE.KDictCopyH
import PyProof.ReprRoads
import HandS.TupLe
import HandS.Zip
import HandS.Evl
import HandS.ListItems
import HandS.TupAny
import HandS.IsInst
import HandS.Walk
import HandS.Style
import HandS.HeadHook4
set_option linter.all false
/-! The mathematics: least sums by laps, rings, the search through all rings; no program in sight. -/
namespace NH

/-! ### lists -/
theorem length_le_of_sub {α : Type} [DecidableEq α] : ∀ {l m : List α}, l.Nodup → (∀ x ∈ l, x ∈ m) → l.length ≤ m.length
  | [], _, _, _ => Nat.zero_le _
  | x :: l, m, hn, hs => by
    obtain ⟨h1, h2⟩ := List.nodup_cons.mp hn
    have hx : x ∈ m := hs x List.mem_cons_self
    have ih := length_le_of_sub (l := l) (m := m.erase x) h2 fun y hy => by
      have hne : y ≠ x := fun e => h1 (e ▸ hy)
      exact (List.mem_erase_of_ne hne).mpr (hs y (List.mem_cons_of_mem _ hy))
    have hl := List.length_erase_of_mem hx
    have hp : 0 < m.length := List.length_pos_of_mem hx
    rw [List.length_cons]
    omega
theorem dup_split {α : Type} [DecidableEq α] : ∀ {l : List α}, ¬ l.Nodup → ∃ a v b d, l = a ++ v :: (b ++ v :: d)
  | [], h => (h List.nodup_nil).elim
  | x :: l, h => by
    by_cases hx : x ∈ l
    · obtain ⟨b, d, e⟩ := List.append_of_mem hx
      exact ⟨[], x, b, d, by rw [e]; rfl⟩
    · obtain ⟨a, v, b, d, e⟩ := dup_split (l := l) fun hn => h (List.nodup_cons.mpr ⟨hx, hn⟩)
      exact ⟨x :: a, v, b, d, by rw [e]; rfl⟩

/-! ### laps -/
structure Tie (N : Type) where
  one : N
  other : N
  most : Int
  idx : Nat
structure BF (N : Type) where
  L : N → Int
  P : N → Option (N × Nat)
  here : Option N
section
variable {N : Type} [DecidableEq N]
def relax (S : BF N) (t : Tie N) : BF N :=
  if S.L t.one + t.most < S.L t.other then
    { L := fun x => if x = t.other then S.L t.one + t.most else S.L x
      P := fun x => if x = t.other then some (t.one, t.idx) else S.P x
      here := some t.other }
  else S
def part (ts : List (Tie N)) (S : BF N) : BF N := ts.foldl relax { S with here := none }
def laps (ts : List (Tie N)) : Nat → BF N
  | 0 => ⟨fun _ => 0, fun _ => none, none⟩
  | k + 1 => part ts (laps ts k)
theorem part_snoc (ts : List (Tie N)) (t : Tie N) (S : BF N) : part (ts ++ [t]) S = relax (part ts S) t := by
  unfold part
  rw [List.foldl_append]
  rfl

structure GInv (ts : List (Tie N)) (l : Nat) (done rest : List (Tie N)) (S : BF N) (T A : N → Nat) (c : Nat) : Prop where
  tl : ∀ x, T x ≤ c
  pe : ∀ v u i, S.P v = some (u, i) → ∃ w, (⟨u, v, w, i⟩ : Tie N) ∈ ts ∧ S.L u + w ≤ S.L v ∧ (T u < T v ∨ S.L u + w < S.L v)
  ap : ∀ v u i, S.P v = some (u, i) → A v ≤ A u + 1
  a0 : ∀ v, 1 ≤ A v → ∃ q, S.P v = some q
  al : ∀ v, A v ≤ l
  dn : ∀ t ∈ done, S.L t.other ≤ S.L t.one + t.most ∨ l ≤ A t.one
  rs : ∀ t ∈ rest, S.L t.other ≤ S.L t.one + t.most ∨ l ≤ A t.one + 1
  hr : ∀ h, S.here = some h → A h = l
  hn : S.here = none → 1 ≤ l → ∀ v, A v < l

theorem GInv.step {ts : List (Tie N)} {l : Nat} {done rest : List (Tie N)} {t : Tie N} {S : BF N} {T A : N → Nat} {c : Nat} (hts : t ∈ ts) (hne : t.one ≠ t.other)
    (G : GInv ts l done (t :: rest) S T A c) : ∃ T' A' c', GInv ts l (done ++ [t]) rest (relax S t) T' A' c' := by
  unfold relax
  by_cases h : S.L t.one + t.most < S.L t.other
  · rw [if_pos h]
    have hA : l ≤ A t.one + 1 := by
      rcases G.rs t List.mem_cons_self with q | q
      · omega
      · exact q
    refine ⟨fun x => if x = t.other then c + 1 else T x, fun x => if x = t.other then l else A x, c + 1, ?_, ?_, ?_, ?_, ?_, ?_, ?_, ?_, ?_⟩
    · intro x
      by_cases hx : x = t.other
      · simp only [if_pos hx]; omega
      · simp only [if_neg hx]
        have := G.tl x
        omega
    · intro v u i e
      by_cases hv : v = t.other
      · simp only [if_pos hv] at e
        have e1 : t.one = u := congrArg Prod.fst (Option.some.inj e)
        have e2 : t.idx = i := congrArg Prod.snd (Option.some.inj e)
        subst e1 e2
        refine ⟨t.most, by rw [hv]; exact hts, ?_, .inl ?_⟩
        · simp only [if_pos hv, if_neg hne]
          omega
        · simp only [if_pos hv, if_neg hne]
          have := G.tl t.one
          omega
      · simp only [if_neg hv] at e
        obtain ⟨w, h1, h2, h3⟩ := G.pe v u i e
        by_cases hu : u = t.other
        · refine ⟨w, h1, ?_, .inr ?_⟩
          · simp only [if_neg hv, if_pos hu]
            rw [hu] at h2
            omega
          · simp only [if_neg hv, if_pos hu]
            rw [hu] at h2
            omega
        · refine ⟨w, h1, ?_, ?_⟩
          · simp only [if_neg hv, if_neg hu]
            exact h2
          · simp only [if_neg hv, if_neg hu]
            exact h3
    · intro v u i e
      by_cases hv : v = t.other
      · simp only [if_pos hv] at e
        have e1 : t.one = u := congrArg Prod.fst (Option.some.inj e)
        subst e1
        simp only [if_pos hv, if_neg hne]
        exact hA
      · simp only [if_neg hv] at e
        have h1 := G.ap v u i e
        by_cases hu : u = t.other
        · simp only [if_neg hv, if_pos hu]
          have := G.al u
          omega
        · simp only [if_neg hv, if_neg hu]
          exact h1
    · intro v hv1
      by_cases hv : v = t.other
      · exact ⟨_, if_pos hv⟩
      · simp only [if_neg hv] at hv1
        obtain ⟨q, e⟩ := G.a0 v hv1
        exact ⟨q, (if_neg hv).trans e⟩
    · intro v
      by_cases hv : v = t.other
      · simp only [if_pos hv]; exact Nat.le_refl _
      · simp only [if_neg hv]; exact G.al v
    · intro x hx
      rcases List.mem_append.mp hx with hx | hx
      · by_cases h1 : x.one = t.other
        · right
          simp only [if_pos h1]
          exact Nat.le_refl _
        · rcases G.dn x hx with q | q
          · left
            by_cases h2 : x.other = t.other
            · simp only [if_neg h1, if_pos h2]
              rw [h2] at q
              omega
            · simp only [if_neg h1, if_neg h2]
              exact q
          · right
            simp only [if_neg h1]
            exact q
      · have e : x = t := List.mem_singleton.mp hx
        subst e
        left
        simp only [if_neg hne, if_true]
        exact Int.le_refl _
    · intro x hx
      by_cases h1 : x.one = t.other
      · right
        simp only [if_pos h1]
        omega
      · rcases G.rs x (List.mem_cons_of_mem _ hx) with q | q
        · left
          by_cases h2 : x.other = t.other
          · simp only [if_neg h1, if_pos h2]
            rw [h2] at q
            omega
          · simp only [if_neg h1, if_neg h2]
            exact q
        · right
          simp only [if_neg h1]
          exact q
    · intro x e
      have e1 : t.other = x := Option.some.inj e
      simp only [if_pos e1.symm]
    · intro e
      cases e
  · rw [if_neg h]
    refine ⟨T, A, c, G.tl, G.pe, G.ap, G.a0, G.al, fun x hx => ?_, fun x hx => G.rs x (List.mem_cons_of_mem _ hx), G.hr, G.hn⟩
    rcases List.mem_append.mp hx with hx | hx
    · exact G.dn x hx
    · have e : x = t := List.mem_singleton.mp hx
      subst e
      left
      omega
theorem GInv.run {ts : List (Tie N)} {l : Nat} (hne : ∀ t ∈ ts, t.one ≠ t.other) : ∀ {rest done : List (Tie N)} {S : BF N} {T A : N → Nat} {c : Nat}, (∀ t ∈ rest, t ∈ ts) → GInv ts l done rest S T A c →
    ∃ T' A' c', GInv ts l (done ++ rest) [] (rest.foldl relax S) T' A' c'
  | [], done, S, T, A, c, _, G => by
    rw [List.append_nil]
    exact ⟨T, A, c, G⟩
  | t :: rest, done, S, T, A, c, hs, G => by
    obtain ⟨T1, A1, c1, G1⟩ := G.step (hs t List.mem_cons_self) (hne t (hs t List.mem_cons_self))
    obtain ⟨T2, A2, c2, G2⟩ := GInv.run hne (fun x hx => hs x (List.mem_cons_of_mem _ hx)) G1
    refine ⟨T2, A2, c2, ?_⟩
    rw [List.append_assoc] at G2
    exact G2
theorem laps_inv {ts : List (Tie N)} (hne : ∀ t ∈ ts, t.one ≠ t.other) : ∀ k : Nat, ∃ T A c, GInv ts k ts [] (laps ts k) T A c
  | 0 => ⟨fun _ => 0, fun _ => 0, 0, fun _ => Nat.le_refl _, fun _ _ _ e => (by cases e), fun _ _ _ e => (by cases e), fun _ h => (by omega), fun _ => Nat.le_refl _, fun _ _ => .inr (Nat.zero_le _), fun _ h => (by cases h),
      fun _ e => (by cases e), fun _ h => (by omega)⟩
  | k + 1 => by
    obtain ⟨T, A, c, G⟩ := laps_inv hne k
    have G0 : GInv ts (k + 1) [] ts { laps ts k with here := none } T A c :=
      ⟨G.tl, G.pe, G.ap, G.a0, fun v => Nat.le_succ_of_le (G.al v), fun _ h => (by cases h), fun t ht => (G.dn t ht).imp id fun q => Nat.succ_le_succ q, fun _ e => (by cases e), fun _ _ v => Nat.lt_succ_of_le (G.al v)⟩
    exact GInv.run hne (fun _ h => h) G0
/-- a lap that lessens nothing: the sums are gains that fit -/
theorem settled {ts : List (Tie N)} (hne : ∀ t ∈ ts, t.one ≠ t.other) {k : Nat} (h : (laps ts (k + 1)).here = none) : ∀ t ∈ ts, (laps ts (k + 1)).L t.other ≤ (laps ts (k + 1)).L t.one + t.most := by
  obtain ⟨T, A, c, G⟩ := laps_inv hne (k + 1)
  intro t ht
  have h1 := G.hn h (by omega) t.one
  rcases G.dn t ht with q | q
  · exact q
  · omega

/-! ### going back -/
def it (f : N → N) : Nat → N → N
  | 0, x => x
  | k + 1, x => f (it f k x)
theorem it_add (f : N → N) (a : Nat) : ∀ (b : Nat) (x : N), it f (a + b) x = it f b (it f a x)
  | 0, _ => rfl
  | b + 1, x => by
    show f (it f (a + b) x) = f (it f b (it f a x))
    rw [it_add f a b x]
def prev (P : N → Option (N × Nat)) (x : N) : N := match P x with
  | some q => q.1
  | none => x
def ixOf (P : N → Option (N × Nat)) (x : N) : Nat := match P x with
  | some q => q.2
  | none => 0
theorem prev_ix {P : N → Option (N × Nat)} {x : N} {q : N × Nat} (h : P x = some q) : P x = some (prev P x, ixOf P x) := by
  unfold prev ixOf
  rw [h]
/-- every step back goes on, and the walk comes round -/
theorem comes_round {ts : List (Tie N)} (hne : ∀ t ∈ ts, t.one ≠ t.other) {V : List N} (hV : ∀ t ∈ ts, t.one ∈ V ∧ t.other ∈ V) {h : N} (hh : (laps ts (V.length + 1)).here = some h) :
    (∀ k, ∃ q, (laps ts (V.length + 1)).P (it (prev (laps ts (V.length + 1)).P) k h) = some q) ∧
    ∃ d, 1 ≤ d ∧ d ≤ V.length ∧ it (prev (laps ts (V.length + 1)).P) d (it (prev (laps ts (V.length + 1)).P) (V.length + 1) h) = it (prev (laps ts (V.length + 1)).P) (V.length + 1) h := by
  obtain ⟨T, A, c, G⟩ := laps_inv hne (V.length + 1)
  generalize hn : V.length = n at *
  generalize laps ts (n + 1) = S at *
  have low : ∀ j, j ≤ n → n + 1 ≤ A (it (prev S.P) j h) + j := by
    intro j
    induction j with
    | zero => intro _; have := G.hr h hh; show n + 1 ≤ A h + 0; omega
    | succ j ih =>
      intro hj
      have h1 := ih (by omega)
      obtain ⟨q, e⟩ := G.a0 (it (prev S.P) j h) (by omega)
      have h2 := G.ap _ _ _ (prev_ix e)
      show n + 1 ≤ A (prev S.P (it (prev S.P) j h)) + (j + 1)
      omega
  have pr : ∀ j, j ≤ n → ∃ q, S.P (it (prev S.P) j h) = some q := fun j hj => G.a0 _ (by have := low j hj; omega)
  have inV : ∀ j, j ≤ n → it (prev S.P) j h ∈ V := fun j hj => by
    obtain ⟨q, e⟩ := pr j hj
    obtain ⟨w, h1, _⟩ := G.pe _ _ _ (prev_ix e)
    exact (hV _ h1).2
  have dup : ∃ i j, i < j ∧ j ≤ n ∧ it (prev S.P) i h = it (prev S.P) j h := by
    refine Classical.byContradiction fun hno => ?_
    have hnd : ((List.range (n + 1)).map fun j => it (prev S.P) j h).Nodup := by
      refine List.pairwise_iff_getElem.mpr fun i j hi hj hij => ?_
      rw [List.length_map, List.length_range] at hi hj
      rw [List.getElem_map, List.getElem_map, List.getElem_range, List.getElem_range]
      exact fun e => hno ⟨i, j, hij, by omega, e⟩
    have h1 := length_le_of_sub (m := V) hnd fun x hx => by
      obtain ⟨j, hj, e⟩ := List.mem_map.mp hx
      rw [← e]
      exact inV j (by have := List.mem_range.mp hj; omega)
    rw [List.length_map, List.length_range] at h1
    omega
  obtain ⟨i, j, hij, hj, e⟩ := dup
  have per : ∀ k, it (prev S.P) (j + k) h = it (prev S.P) (i + k) h := fun k => by rw [it_add, it_add, e]
  have back : it (prev S.P) (n + 1) h = it (prev S.P) (n + 1 - (j - i)) h := by
    have q := per (n + 1 - j)
    rw [show j + (n + 1 - j) = n + 1 by omega, show i + (n + 1 - j) = n + 1 - (j - i) by omega] at q
    exact q
  have all : ∀ k, ∃ m, m ≤ n ∧ it (prev S.P) k h = it (prev S.P) m h := by
    intro k
    induction k with
    | zero => exact ⟨0, Nat.zero_le _, rfl⟩
    | succ k ih =>
      obtain ⟨m, hm, em⟩ := ih
      have e1 : it (prev S.P) (k + 1) h = it (prev S.P) (m + 1) h := by
        show prev S.P (it (prev S.P) k h) = prev S.P (it (prev S.P) m h)
        rw [em]
      by_cases hmn : m < n
      · exact ⟨m + 1, hmn, e1⟩
      · have : m = n := by omega
        subst this
        exact ⟨_, by omega, e1.trans back⟩
  refine ⟨fun k => ?_, j - i, by omega, by omega, ?_⟩
  · obtain ⟨m, hm, em⟩ := all k
    rw [em]
    exact pr m hm
  · rw [← it_add]
    have q := per (n + 1 - i)
    rw [show j + (n + 1 - i) = n + 1 + (j - i) by omega, show i + (n + 1 - i) = n + 1 by omega] at q
    exact q

/-! ### chains -/
inductive Chain (ts : List (Tie N)) : N → List (Nat × N) → N → Int → Prop where
  | nil (b : N) : Chain ts b [] b 0
  | cons {b v e : N} {w t : Int} {i : Nat} {r : List (Nat × N)} : (⟨b, v, w, i⟩ : Tie N) ∈ ts → Chain ts v r e t → Chain ts b ((i, v) :: r) e (w + t)
def down {α : Type} (f : Nat → α) : Nat → List α
  | 0 => []
  | k + 1 => f k :: down f k
theorem down_eq {α : Type} (f : Nat → α) : ∀ k : Nat, ((List.range k).map f).reverse = down f k
  | 0 => rfl
  | k + 1 => by
    rw [List.range_succ, List.map_append, List.reverse_append, down_eq f k]
    rfl
/-- the ring that the steps back make clashes -/
theorem ring_of {ts : List (Tie N)} (hne : ∀ t ∈ ts, t.one ≠ t.other) {k m : Nat} {a : N} (hm : 1 ≤ m) (ha : it (prev (laps ts k).P) m a = a) (hp : ∀ j, ∃ q, (laps ts k).P (it (prev (laps ts k).P) j a) = some q) :
    ∃ t, t < 0 ∧ Chain ts a (down (fun j => (ixOf (laps ts k).P (it (prev (laps ts k).P) j a), it (prev (laps ts k).P) j a)) m) a t := by
  obtain ⟨T, A, c, G⟩ := laps_inv hne k
  generalize laps ts k = S at *
  have main : ∀ j, ∃ t, Chain ts (it (prev S.P) j a) (down (fun j => (ixOf S.P (it (prev S.P) j a), it (prev S.P) j a)) j) a t ∧
      (j = 0 ∨ t < S.L a - S.L (it (prev S.P) j a) ∨ (t ≤ S.L a - S.L (it (prev S.P) j a) ∧ T (it (prev S.P) j a) < T a)) ∧ (j = 0 → t = 0) := by
    intro j
    induction j with
    | zero => exact ⟨0, .nil _, .inl rfl, fun _ => rfl⟩
    | succ j ih =>
      obtain ⟨t, h1, h2, h3⟩ := ih
      obtain ⟨q, e⟩ := hp j
      obtain ⟨w, g1, g2, g3⟩ := G.pe _ _ _ (prev_ix e)
      refine ⟨w + t, .cons g1 h1, .inr ?_, fun z => by omega⟩
      show w + t < S.L a - S.L (prev S.P (it (prev S.P) j a)) ∨ (w + t ≤ S.L a - S.L (prev S.P (it (prev S.P) j a)) ∧ T (prev S.P (it (prev S.P) j a)) < T a)
      by_cases hj : j = 0
      · subst hj
        have t0 := h3 rfl
        subst t0
        have g2 : S.L (prev S.P a) + w ≤ S.L a := g2
        have g3 : T (prev S.P a) < T a ∨ S.L (prev S.P a) + w < S.L a := g3
        show w + 0 < S.L a - S.L (prev S.P a) ∨ (w + 0 ≤ S.L a - S.L (prev S.P a) ∧ T (prev S.P a) < T a)
        omega
      · omega
  obtain ⟨t, h1, h2, _⟩ := main m
  rw [ha] at h1 h2
  exact ⟨t, by omega, h1⟩

/-! ### least ties, rings of unlike towers -/
def lfStep (W : N → N → Option Int) (t : Tie N) : N → N → Option Int := fun a b => if a = t.one ∧ b = t.other then some (min t.most ((W a b).getD t.most)) else W a b
def leastOf (ts : List (Tie N)) : N → N → Option Int := ts.foldl lfStep fun _ _ => none
theorem leastOf_snoc (ts : List (Tie N)) (t : Tie N) : leastOf (ts ++ [t]) = lfStep (leastOf ts) t := by
  unfold leastOf
  rw [List.foldl_append]
  rfl
theorem lf_le (W : N → N → Option Int) (t : Tie N) {a b : N} {w : Int} (h : W a b = some w) : ∃ w', w' ≤ w ∧ lfStep W t a b = some w' := by
  unfold lfStep
  by_cases c : a = t.one ∧ b = t.other
  · rw [if_pos c, h]
    exact ⟨_, Int.min_le_right _ _, rfl⟩
  · rw [if_neg c]
    exact ⟨w, Int.le_refl _, h⟩
theorem fold_le : ∀ (ts : List (Tie N)) (W : N → N → Option Int) {a b : N} {w : Int}, W a b = some w → ∃ w', w' ≤ w ∧ ts.foldl lfStep W a b = some w'
  | [], W, _, _, w, h => ⟨w, Int.le_refl _, h⟩
  | t :: ts, W, a, b, w, h => by
    obtain ⟨w1, h1, e1⟩ := lf_le W t h
    obtain ⟨w2, h2, e2⟩ := fold_le ts (lfStep W t) e1
    exact ⟨w2, Int.le_trans h2 h1, e2⟩
theorem fold_tie : ∀ (ts : List (Tie N)) (W : N → N → Option Int) {t : Tie N}, t ∈ ts → ∃ w, w ≤ t.most ∧ ts.foldl lfStep W t.one t.other = some w
  | x :: ts, W, t, h => by
    rcases List.mem_cons.mp h with e | h
    · subst e
      have e1 : lfStep W t t.one t.other = some (min t.most ((W t.one t.other).getD t.most)) := by
        unfold lfStep
        rw [if_pos ⟨rfl, rfl⟩]
      obtain ⟨w, h1, h2⟩ := fold_le ts (lfStep W t) e1
      exact ⟨w, Int.le_trans h1 (Int.min_le_left _ _), h2⟩
    · exact fold_tie ts (lfStep W x) h
theorem leastOf_le {ts : List (Tie N)} {t : Tie N} (h : t ∈ ts) : ∃ w, w ≤ t.most ∧ leastOf ts t.one t.other = some w := fold_tie ts _ h
theorem fold_is : ∀ (ts : List (Tie N)) (W : N → N → Option Int) {a b : N} {w : Int}, ts.foldl lfStep W a b = some w → W a b = some w ∨ ∃ t ∈ ts, t.one = a ∧ t.other = b ∧ t.most = w
  | [], _, _, _, _, h => .inl h
  | x :: ts, W, a, b, w, h => by
    rcases fold_is ts (lfStep W x) h with h1 | ⟨t, h1, h2⟩
    · unfold lfStep at h1
      by_cases c : a = x.one ∧ b = x.other
      · rw [if_pos c] at h1
        have e := Option.some.inj h1
        cases q : W a b with
        | none =>
          rw [q] at e
          refine .inr ⟨x, List.mem_cons_self, c.1.symm, c.2.symm, ?_⟩
          have e' : min x.most x.most = w := e
          omega
        | some v =>
          rw [q] at e
          have e' : min x.most v = w := e
          by_cases hv : v = w
          · exact .inl (by rw [hv])
          · exact .inr ⟨x, List.mem_cons_self, c.1.symm, c.2.symm, by omega⟩
      · rw [if_neg c] at h1
        exact .inl h1
    · exact .inr ⟨t, List.mem_cons_of_mem _ h1, h2⟩
theorem leastOf_is {ts : List (Tie N)} {a b : N} {w : Int} (h : leastOf ts a b = some w) : ∃ t ∈ ts, t.one = a ∧ t.other = b ∧ t.most = w := by
  rcases fold_is ts _ h with q | q
  · cases q
  · exact q

/-! ### sums of walks by least ties -/
def wsum (W : N → N → Option Int) : N → List N → Option Int
  | _, [] => some 0
  | x, y :: r => match W x y with
    | none => none
    | some w => (wsum W y r).map fun t => w + t
theorem wsum_cons {W : N → N → Option Int} {x y : N} {r : List N} {t : Int} : wsum W x (y :: r) = some t ↔ ∃ w u, W x y = some w ∧ wsum W y r = some u ∧ t = w + u := by
  show (match W x y with
    | none => none
    | some w => (wsum W y r).map fun t => w + t) = some t ↔ _
  cases h : W x y with
  | none =>
    constructor
    · intro e; cases e
    · rintro ⟨w, u, e, _⟩; cases e
  | some w =>
    cases h2 : wsum W y r with
    | none =>
      constructor
      · intro e; cases e
      · rintro ⟨w, u, _, e, _⟩; cases e
    | some u =>
      constructor
      · intro e
        exact ⟨w, u, rfl, rfl, (Option.some.inj e).symm⟩
      · rintro ⟨w', u', e1, e2, e3⟩
        cases e1
        cases e2
        rw [e3]
        rfl
theorem wsum_app {W : N → N → Option Int} {v : N} {b : List N} : ∀ {a : List N} {x : N} {t : Int}, wsum W x (a ++ v :: b) = some t ↔ ∃ p q, wsum W x (a ++ [v]) = some p ∧ wsum W v b = some q ∧ t = p + q
  | [], x, t => by
    show wsum W x (v :: b) = some t ↔ ∃ p q, wsum W x [v] = some p ∧ wsum W v b = some q ∧ t = p + q
    rw [wsum_cons]
    constructor
    · rintro ⟨w, u, h1, h2, h3⟩
      exact ⟨w + 0, u, wsum_cons.mpr ⟨w, 0, h1, rfl, rfl⟩, h2, by omega⟩
    · rintro ⟨p, q, h1, h2, h3⟩
      obtain ⟨w, u, g1, g2, g3⟩ := wsum_cons.mp h1
      have : u = 0 := (Option.some.inj g2).symm
      exact ⟨w, q, g1, h2, by omega⟩
  | y :: a, x, t => by
    show wsum W x (y :: (a ++ v :: b)) = some t ↔ ∃ p q, wsum W x (y :: (a ++ [v])) = some p ∧ wsum W v b = some q ∧ t = p + q
    rw [wsum_cons]
    constructor
    · rintro ⟨w, u, h1, h2, h3⟩
      obtain ⟨p, q, g1, g2, g3⟩ := wsum_app.mp h2
      exact ⟨w + p, q, wsum_cons.mpr ⟨w, p, h1, g1, rfl⟩, g2, by omega⟩
    · rintro ⟨p, q, h1, h2, h3⟩
      obtain ⟨w, u, g1, g2, g3⟩ := wsum_cons.mp h1
      exact ⟨w, u + q, g1, wsum_app.mpr ⟨u, q, g2, h2, rfl⟩, by omega⟩
/-- a ring's sum: from x along r and back to x -/
def rsum (W : N → N → Option Int) (x : N) (r : List N) : Option Int := wsum W x (r ++ [x])
/-- a ring below 0 holds one of unlike towers -/
theorem simple_ring {W : N → N → Option Int} : ∀ (k : Nat) {x : N} {r : List N} {t : Int}, r.length ≤ k → rsum W x r = some t → t < 0 →
    ∃ y s u, (y :: s).Nodup ∧ (∀ z ∈ y :: s, z ∈ x :: r) ∧ rsum W y s = some u ∧ u < 0 := by
  intro k
  induction k with
  | zero =>
    intro x r t hk h ht
    have e : r = [] := List.length_eq_zero_iff.mp (by omega)
    subst e
    exact ⟨x, [], t, by simp, fun z hz => hz, h, ht⟩
  | succ k ih =>
    intro x r t hk h ht
    by_cases hn : (x :: r).Nodup
    · exact ⟨x, r, t, hn, fun z hz => hz, h, ht⟩
    · obtain ⟨a, v, b, d, e⟩ := dup_split hn
      cases a with
      | nil =>
        have e1 : x = v := (List.cons.inj e).1
        have e2 : r = b ++ v :: d := (List.cons.inj e).2
        subst e1
        subst e2
        unfold rsum at h
        rw [List.append_assoc] at h
        obtain ⟨p, q, h1, h2, h3⟩ := wsum_app.mp (show wsum W x (b ++ x :: (d ++ [x])) = some t from h)
        rw [List.length_append, List.length_cons] at hk
        by_cases hp : p < 0
        · obtain ⟨y, s, u, g1, g2, g3, g4⟩ := ih (x := x) (r := b) (by omega) h1 hp
          refine ⟨y, s, u, g1, fun z hz => ?_, g3, g4⟩
          have := g2 z hz
          simp only [List.mem_cons, List.mem_append] at this ⊢
          rcases this with q | q
          · exact .inl q
          · exact .inr (.inl q)
        · obtain ⟨y, s, u, g1, g2, g3, g4⟩ := ih (x := x) (r := d) (by omega) h2 (by omega)
          refine ⟨y, s, u, g1, fun z hz => ?_, g3, g4⟩
          have := g2 z hz
          simp only [List.mem_cons, List.mem_append] at this ⊢
          rcases this with q | q
          · exact .inl q
          · exact .inr (.inr (.inr q))
      | cons c a =>
        have e1 : x = c := (List.cons.inj e).1
        have e2 : r = a ++ v :: (b ++ v :: d) := (List.cons.inj e).2
        subst e1
        subst e2
        unfold rsum at h
        rw [List.append_assoc] at h
        obtain ⟨p, q, h1, h2, h3⟩ := wsum_app.mp (show wsum W x (a ++ v :: ((b ++ v :: d) ++ [x])) = some t from h)
        rw [List.append_assoc] at h2
        obtain ⟨p2, q2, h4, h5, h6⟩ := wsum_app.mp (show wsum W v (b ++ v :: (d ++ [x])) = some q from h2)
        rw [List.length_append, List.length_cons, List.length_append, List.length_cons] at hk
        by_cases hp : p2 < 0
        · obtain ⟨y, s, u, g1, g2, g3, g4⟩ := ih (x := v) (r := b) (by omega) h4 hp
          refine ⟨y, s, u, g1, fun z hz => ?_, g3, g4⟩
          have := g2 z hz
          simp only [List.mem_cons, List.mem_append] at this ⊢
          rcases this with q | q
          · exact .inr (.inr (.inl q))
          · exact .inr (.inr (.inr (.inl q)))
        · have h7 : rsum W x (a ++ v :: d) = some (p + q2) := by
            unfold rsum
            rw [List.append_assoc]
            exact wsum_app.mpr ⟨p, q2, h1, h5, rfl⟩
          obtain ⟨y, s, u, g1, g2, g3, g4⟩ := ih (x := x) (r := a ++ v :: d) (by rw [List.length_append, List.length_cons]; omega) h7 (by omega)
          refine ⟨y, s, u, g1, fun z hz => ?_, g3, g4⟩
          have := g2 z hz
          simp only [List.mem_cons, List.mem_append] at this ⊢
          rcases this with q | q | q | q
          · exact .inl q
          · exact .inr (.inl q)
          · exact .inr (.inr (.inl q))
          · exact .inr (.inr (.inr (.inr (.inr q))))
/-- an order of the towers -/
structure Ord (lt : N → N → Prop) : Prop where
  irr : ∀ a, ¬ lt a a
  tr : ∀ a b c, lt a b → lt b c → lt a c
  tot : ∀ a b, a ≠ b → lt a b ∨ lt b a
theorem least_of {lt : N → N → Prop} (o : Ord lt) : ∀ {x : N} {r : List N}, ∃ m, m ∈ x :: r ∧ ∀ y ∈ x :: r, y ≠ m → lt m y
  | x, [] => ⟨x, List.mem_cons_self, fun y hy hne => (hne (List.mem_singleton.mp hy)).elim⟩
  | x, y :: r => by
    obtain ⟨m, h1, h2⟩ := least_of o (x := y) (r := r)
    by_cases hx : x = m
    · exact ⟨m, List.mem_cons_of_mem _ h1, fun z hz hne => by
        rcases List.mem_cons.mp hz with e | hz
        · exact (hne (e.trans hx)).elim
        · exact h2 z hz hne⟩
    · rcases o.tot x m hx with q | q
      · refine ⟨x, List.mem_cons_self, fun z hz hne => ?_⟩
        rcases List.mem_cons.mp hz with e | hz
        · exact (hne e).elim
        · by_cases hz2 : z = m
          · rw [hz2]; exact q
          · exact o.tr _ _ _ q (h2 z hz hz2)
      · refine ⟨m, List.mem_cons_of_mem _ h1, fun z hz hne => ?_⟩
        rcases List.mem_cons.mp hz with e | hz
        · rw [e]; exact q
        · exact h2 z hz hne
/-- .. that begins at its least tower -/
theorem least_ring {lt : N → N → Prop} (o : Ord lt) {W : N → N → Option Int} {y : N} {s : List N} {u : Int} (hn : (y :: s).Nodup) (h : rsum W y s = some u) :
    ∃ f r, (f :: r).Nodup ∧ (∀ z ∈ r, lt f z) ∧ (∀ z ∈ f :: r, z ∈ y :: s) ∧ rsum W f r = some u := by
  obtain ⟨m, h1, h2⟩ := least_of o (x := y) (r := s)
  rcases List.mem_cons.mp h1 with e | h1
  · subst e
    refine ⟨m, s, hn, fun z hz => h2 z (List.mem_cons_of_mem _ hz) fun e => ?_, fun z hz => hz, h⟩
    exact (List.nodup_cons.mp hn).1 (e ▸ hz)
  · obtain ⟨a, b, e⟩ := List.append_of_mem h1
    subst e
    have pm : (m :: (b ++ y :: a)).Perm (y :: (a ++ m :: b)) := by
      have := List.perm_append_comm (l₁ := m :: b) (l₂ := y :: a)
      exact this
    have hn2 : (m :: (b ++ y :: a)).Nodup := pm.nodup_iff.mpr hn
    refine ⟨m, b ++ y :: a, hn2, fun z hz => h2 z (pm.mem_iff.mp (List.mem_cons_of_mem _ hz)) fun e => ?_, fun z hz => pm.mem_iff.mp hz, ?_⟩
    · exact (List.nodup_cons.mp hn2).1 (e ▸ hz)
    · unfold rsum at h ⊢
      rw [List.append_assoc] at h ⊢
      obtain ⟨p, q, g1, g2, g3⟩ := wsum_app.mp (show wsum W y (a ++ m :: (b ++ [y])) = some u from h)
      exact wsum_app.mpr ⟨q, p, g2, g1, by omega⟩

/-! ### the search -/
abbrev El (N : Type) := List N × Int
structure Good (lt : N → N → Prop) (names : List N) (W : N → N → Option Int) (q : List N) (t : Int) : Prop where
  ex : ∃ f r, q = f :: r ∧ (∀ y ∈ r, lt f y) ∧ wsum W f r = some t
  nd : q.Nodup
  mem : ∀ y ∈ q, y ∈ names
/-- a path closes: more than one tower, and back to its first below 0 -/
def Closes (W : N → N → Option Int) (q : List N) (t : Int) : Prop := 1 < q.length ∧ ∃ f l w, q.head? = some f ∧ q.getLast? = some l ∧ W l f = some w ∧ t + w < 0
structure DInv (lt : N → N → Prop) (names : List N) (W : N → N → Option Int) (st : List (El N)) (found : List (List N)) : Prop where
  good : ∀ e ∈ st, Good lt names W e.1 e.2
  fnd : ∀ q ∈ found, ∃ t, Good lt names W q t ∧ Closes W q t
  cmp : ∀ q t, Good lt names W q t → Closes W q t → q ∈ found ∨ ∃ e ∈ st, e.1 <+: q
def exts (lt : N → N → Prop) [DecidableRel lt] (W : N → N → Option Int) (f l : N) (q : List N) (t : Int) (names : List N) : List (El N) :=
  names.flatMap fun y => if lt f y ∧ y ∉ q then (match W l y with
    | some w => [(q ++ [y], t + w)]
    | none => []) else []
theorem exts_snoc (lt : N → N → Prop) [DecidableRel lt] (W : N → N → Option Int) (f l : N) (q : List N) (t : Int) (names : List N) (y : N) :
    exts lt W f l q t (names ++ [y]) = exts lt W f l q t names ++ (if lt f y ∧ y ∉ q then (match W l y with
      | some w => [(q ++ [y], t + w)]
      | none => []) else []) := by
  unfold exts
  rw [List.flatMap_append, List.flatMap_cons, List.flatMap_nil, List.append_nil]
theorem mem_exts {lt : N → N → Prop} [DecidableRel lt] {W : N → N → Option Int} {f l : N} {q : List N} {t : Int} {names : List N} {e : El N} :
    e ∈ exts lt W f l q t names ↔ ∃ y w, y ∈ names ∧ lt f y ∧ y ∉ q ∧ W l y = some w ∧ e = (q ++ [y], t + w) := by
  unfold exts
  rw [List.mem_flatMap]
  constructor
  · rintro ⟨y, hy, he⟩
    by_cases c : lt f y ∧ y ∉ q
    · rw [if_pos c] at he
      cases h : W l y with
      | none => rw [h] at he; cases he
      | some w =>
        rw [h] at he
        exact ⟨y, w, hy, c.1, c.2, h, List.mem_singleton.mp he⟩
    · rw [if_neg c] at he
      cases he
  · rintro ⟨y, w, hy, h1, h2, h3, h4⟩
    refine ⟨y, hy, ?_⟩
    rw [if_pos ⟨h1, h2⟩, h3]
    exact List.mem_singleton.mpr h4
theorem exts_len {lt : N → N → Prop} [DecidableRel lt] {W : N → N → Option Int} {f l : N} {q : List N} {t : Int} : ∀ names : List N, (exts lt W f l q t names).length ≤ names.length
  | [] => Nat.le_refl _
  | y :: r => by
    have ih := exts_len (lt := lt) (W := W) (f := f) (l := l) (q := q) (t := t) r
    unfold exts at ih ⊢
    rw [List.flatMap_cons, List.length_append, List.length_cons]
    have : (if lt f y ∧ y ∉ q then (match W l y with
      | some w => [(q ++ [y], t + w)]
      | none => []) else ([] : List (El N))).length ≤ 1 := by
      split
      · cases W l y <;> simp
      · simp
    omega
/-- the measure: what can still come of a stack -/
def wgt (n : Nat) (q : List N) : Nat := (n + 1) ^ (n + 1 - q.length)
def mu (n : Nat) (st : List (El N)) : Nat := (st.map fun e => wgt n e.1).sum
theorem mu_app (n : Nat) (a b : List (El N)) : mu n (a ++ b) = mu n a + mu n b := by
  unfold mu
  rw [List.map_append, List.sum_append]
theorem wgt_pos (n : Nat) (q : List N) : 1 ≤ wgt n q := Nat.pow_pos (by omega)
theorem len_mu (n : Nat) : ∀ st : List (El N), st.length ≤ mu n st
  | [] => Nat.zero_le _
  | e :: r => by
    have ih := len_mu n r
    have h := wgt_pos n e.1
    unfold mu at ih ⊢
    rw [List.length_cons, List.map_cons, List.sum_cons]
    omega
theorem mu_all {n b : Nat} : ∀ {st : List (El N)}, (∀ e ∈ st, wgt n e.1 = b) → mu n st = st.length * b
  | [], _ => by simp [mu]
  | e :: r, h => by
    have ih := mu_all (st := r) fun x hx => h x (List.mem_cons_of_mem _ hx)
    have h1 := h e List.mem_cons_self
    unfold mu at ih ⊢
    rw [List.map_cons, List.sum_cons, List.length_cons, ih, h1, Nat.succ_mul]
    omega
theorem exts_mu {lt : N → N → Prop} [DecidableRel lt] {W : N → N → Option Int} {f l : N} {q : List N} {t : Int} {names : List N} (hq : q.length ≤ names.length) : mu names.length (exts lt W f l q t names) < wgt names.length q := by
  have h1 : mu names.length (exts lt W f l q t names) = (exts lt W f l q t names).length * (names.length + 1) ^ (names.length - q.length) := mu_all fun e he => by
    obtain ⟨y, w, _, _, _, _, e1⟩ := mem_exts.mp he
    subst e1
    unfold wgt
    rw [List.length_append, List.length_singleton]
    congr 1
    omega
  have h2 := exts_len (lt := lt) (W := W) (f := f) (l := l) (q := q) (t := t) names
  have h3 : wgt names.length q = (names.length + 1) ^ (names.length - q.length) * (names.length + 1) := by
    unfold wgt
    rw [← Nat.pow_succ]
    congr 1
    omega
  have h4 : 0 < (names.length + 1) ^ (names.length - q.length) := Nat.pow_pos (by omega)
  rw [h1, h3, Nat.mul_comm ((names.length + 1) ^ (names.length - q.length))]
  exact Nat.mul_lt_mul_of_pos_right (by omega) h4
theorem Good.len {lt : N → N → Prop} {names : List N} {W : N → N → Option Int} {q : List N} {t : Int} (g : Good lt names W q t) : q.length ≤ names.length := length_le_of_sub g.nd g.mem
theorem good_snoc {lt : N → N → Prop} {names : List N} {W : N → N → Option Int} {q : List N} {t w : Int} {f l y : N} (g : Good lt names W q t) (hf : q.head? = some f) (hl : q.getLast? = some l) (hy : y ∈ names) (h1 : lt f y) (h2 : y ∉ q) (h3 : W l y = some w) :
    Good lt names W (q ++ [y]) (t + w) := by
  obtain ⟨f', r, e, h4, h5⟩ := g.ex
  subst e
  have ef : f' = f := Option.some.inj hf
  subst ef
  refine ⟨⟨f', r ++ [y], rfl, fun z hz => ?_, ?_⟩, ?_, fun z hz => ?_⟩
  · rcases List.mem_append.mp hz with hz | hz
    · exact h4 z hz
    · rw [List.mem_singleton.mp hz]; exact h1
  · rcases List.eq_nil_or_concat r with e | ⟨r', z, e⟩
    · subst e
      have el : f' = l := Option.some.inj hl
      subst el
      have t0 : t = 0 := (Option.some.inj h5).symm
      exact wsum_cons.mpr ⟨w, 0, h3, rfl, by omega⟩
    · rw [List.concat_eq_append] at e
      subst e
      have el : z = l := by
        rw [← List.cons_append, List.getLast?_append] at hl
        exact Option.some.inj hl
      subst el
      rw [List.append_assoc]
      exact wsum_app.mpr ⟨t, w + 0, h5, wsum_cons.mpr ⟨w, 0, h3, rfl, rfl⟩, by omega⟩
  · have g1 := g.nd
    refine List.nodup_append.mpr ⟨g1, by simp, fun a ha b hb => ?_⟩
    rw [List.mem_singleton.mp hb]
    exact fun e => h2 (e ▸ ha)
  · rcases List.mem_append.mp hz with hz | hz
    · exact g.mem z hz
    · rw [List.mem_singleton.mp hz]; exact hy
theorem good_ext {lt : N → N → Prop} {names : List N} {W : N → N → Option Int} {q l : List N} {t t' : Int} {y : N} {f z : N} (g : Good lt names W q t) (g' : Good lt names W (q ++ y :: l) t') (hf : q.head? = some f) (hz : q.getLast? = some z) :
    y ∈ names ∧ lt f y ∧ y ∉ q ∧ ∃ w, W z y = some w := by
  obtain ⟨f1, r, e, h4, h5⟩ := g.ex
  subst e
  have ef : f1 = f := Option.some.inj hf
  subst ef
  obtain ⟨f2, r2, e2, h6, h7⟩ := g'.ex
  have e3 : f1 = f2 := (List.cons.inj e2).1
  have e4 : r ++ y :: l = r2 := (List.cons.inj e2).2
  subst e3
  subst e4
  refine ⟨g'.mem y (by simp), h6 y (by simp), fun hm => ?_, ?_⟩
  · have := List.nodup_append.mp g'.nd
    exact this.2.2 y hm y List.mem_cons_self rfl
  · rcases List.eq_nil_or_concat r with e | ⟨r', z', e⟩
    · subst e
      have el : f1 = z := Option.some.inj hz
      subst el
      obtain ⟨w, u, h8, _⟩ := wsum_cons.mp (show wsum W f1 (y :: l) = some t' from h7)
      exact ⟨w, h8⟩
    · rw [List.concat_eq_append] at e
      subst e
      have el : z' = z := by
        rw [← List.cons_append, List.getLast?_append] at hz
        exact Option.some.inj hz
      subst el
      rw [List.append_assoc] at h7
      obtain ⟨p, q, _, h8, _⟩ := wsum_app.mp (show wsum W f1 (r' ++ z' :: (y :: l)) = some t' from h7)
      obtain ⟨w, u, h9, _⟩ := wsum_cons.mp h8
      exact ⟨w, h9⟩
theorem good_sum {lt : N → N → Prop} {names : List N} {W : N → N → Option Int} {q : List N} {t t' : Int} (g : Good lt names W q t) (g' : Good lt names W q t') : t = t' := by
  obtain ⟨f1, r, e, _, h5⟩ := g.ex
  obtain ⟨f2, r2, e2, _, h7⟩ := g'.ex
  subst e
  have e3 : f1 = f2 := (List.cons.inj e2).1
  have e4 : r = r2 := (List.cons.inj e2).2
  subst e3
  subst e4
  exact Option.some.inj (h5.symm.trans h7)
open Classical in
/-- one turn of the search -/
theorem DInv.step {lt : N → N → Prop} [DecidableRel lt] {names : List N} {W : N → N → Option Int} {st : List (El N)} {found : List (List N)} {q : List N} {t : Int} {f l : N} (d : DInv lt names W (st ++ [(q, t)]) found)
    (hf : q.head? = some f) (hl : q.getLast? = some l) {found' : List (List N)} (hfd : (Closes W q t ∧ found' = found ++ [q]) ∨ (¬ Closes W q t ∧ found' = found)) :
    DInv lt names W (st ++ exts lt W f l q t names) found' := by
  have g : Good lt names W q t := d.good (q, t) (List.mem_append_right _ List.mem_cons_self)
  refine ⟨fun e he => ?_, fun x hx => ?_, fun x u gx cx => ?_⟩
  · rcases List.mem_append.mp he with he | he
    · exact d.good e (List.mem_append_left _ he)
    · obtain ⟨y, w, h1, h2, h3, h4, e1⟩ := mem_exts.mp he
      subst e1
      exact good_snoc g hf hl h1 h2 h3 h4
  · rcases hfd with ⟨c, e⟩ | ⟨_, e⟩
    · subst e
      rcases List.mem_append.mp hx with hx | hx
      · exact d.fnd x hx
      · rw [List.mem_singleton.mp hx]
        exact ⟨t, g, c⟩
    · subst e
      exact d.fnd x hx
  · have sub : x ∈ found → x ∈ found' := fun hx => by
      rcases hfd with ⟨_, e⟩ | ⟨_, e⟩
      · rw [e]; exact List.mem_append_left _ hx
      · rw [e]; exact hx
    rcases d.cmp x u gx cx with hx | ⟨e, he, hp⟩
    · exact .inl (sub hx)
    · rcases List.mem_append.mp he with he | he
      · exact .inr ⟨e, List.mem_append_left _ he, hp⟩
      · have e1 : e = (q, t) := List.mem_singleton.mp he
        subst e1
        obtain ⟨s, es⟩ := hp
        cases s with
        | nil =>
          have e2 : q = x := by
            rw [← es]
            exact (List.append_nil _).symm
          subst e2
          have e3 := good_sum g gx
          subst e3
          rcases hfd with ⟨_, e⟩ | ⟨nc, _⟩
          · rw [e]; exact .inl (List.mem_append_right _ List.mem_cons_self)
          · exact (nc cx).elim
        | cons y r =>
          have es : q ++ y :: r = x := es
          subst es
          obtain ⟨h1, h2, h3, w, h4⟩ := good_ext g gx hf hl
          exact .inr ⟨(q ++ [y], t + w), List.mem_append_right _ (mem_exts.mpr ⟨y, w, h1, h2, h3, h4, rfl⟩), ⟨r, by simp⟩⟩
theorem DInv.start {lt : N → N → Prop} {names : List N} {W : N → N → Option Int} : DInv lt names W (names.map fun x => ([x], 0)) [] := by
  refine ⟨fun e he => ?_, fun _ h => (by cases h), fun q t g c => .inr ?_⟩
  · obtain ⟨x, hx, e1⟩ := List.mem_map.mp he
    subst e1
    exact ⟨⟨x, [], rfl, fun _ h => (by cases h), rfl⟩, by simp, fun y hy => by rw [List.mem_singleton.mp hy]; exact hx⟩
  · obtain ⟨f, r, e, _, _⟩ := g.ex
    subst e
    exact ⟨([f], 0), List.mem_map.mpr ⟨f, g.mem f List.mem_cons_self, rfl⟩, ⟨r, rfl⟩⟩
theorem mu_start (names : List N) : mu names.length (names.map fun x => (([x], 0) : El N)) = names.length * (names.length + 1) ^ names.length := by
  rw [mu_all (b := (names.length + 1) ^ names.length) fun e he => ?_, List.length_map]
  obtain ⟨x, _, e1⟩ := List.mem_map.mp he
  subst e1
  rfl

/-! ### what the two readings have to do with each other -/
/-- a chain that comes round, by least ties: a ring's sum, no more -/
theorem chain_wsum {ts : List (Tie N)} {W : N → N → Option Int} (hW : ∀ t ∈ ts, ∃ w, w ≤ t.most ∧ W t.one t.other = some w) : ∀ {b e : N} {r : List (Nat × N)} {t : Int}, Chain ts b r e t → ∃ u, u ≤ t ∧ wsum W b (r.map Prod.snd) = some u
  | _, _, _, _, .nil _ => ⟨0, Int.le_refl _, rfl⟩
  | b, e, _, _, .cons (v := v) (w := w) (t := t) (i := i) (r := r) h c => by
    obtain ⟨u, h1, h2⟩ := chain_wsum hW c
    obtain ⟨w', h3, h4⟩ := hW _ h
    have h3 : w' ≤ w := h3
    exact ⟨w' + u, by omega, wsum_cons.mpr ⟨w', u, h4, h2, rfl⟩⟩
theorem chain_last {ts : List (Tie N)} : ∀ {b e : N} {r : List (Nat × N)} {t : Int}, Chain ts b r e t → (r = [] ∧ b = e) ∨ ∃ s, r.map Prod.snd = s ++ [e]
  | _, _, _, _, .nil _ => .inl ⟨rfl, rfl⟩
  | b, e, _, _, .cons (v := v) (i := i) (r := r) h c => by
    rcases chain_last c with ⟨e1, e2⟩ | ⟨s, es⟩
    · subst e1
      subst e2
      exact .inr ⟨[], rfl⟩
    · refine .inr ⟨v :: s, ?_⟩
      rw [List.map_cons, es]
      rfl
theorem chain_mem {ts : List (Tie N)} {p : N → Prop} (hp : ∀ t ∈ ts, p t.other) : ∀ {b e : N} {r : List (Nat × N)} {t : Int}, Chain ts b r e t → ∀ x ∈ r.map Prod.snd, p x
  | _, _, _, _, .nil _, x, hx => by cases hx
  | b, e, _, _, .cons (v := v) (r := r) h c, x, hx => by
    rcases List.mem_cons.mp hx with q | q
    · rw [q]
      exact hp _ h
    · exact chain_mem hp c x q
/-- a clashing ring without a lot: one of the rings found is without it -/
theorem found_of {lt : N → N → Prop} (o : Ord lt) {names : List N} {ts full : List (Tie N)} {p : N → Prop} (hsub : ∀ t ∈ ts, t ∈ full) (hp : ∀ t ∈ ts, p t.other) (hnm : ∀ t ∈ full, t.other ∈ names) (hne : ∀ t ∈ full, t.one ≠ t.other)
    {found : List (List N)} (hd : DInv lt names (leastOf full) [] found) {a : N} {r : List (Nat × N)} {t : Int} (c : Chain ts a r a t) (ht : t < 0) : ∃ q ∈ found, ∀ x ∈ q, p x := by
  obtain ⟨u, hu, hw⟩ := chain_wsum (W := leastOf full) (fun x hx => leastOf_le (hsub x hx)) c
  rcases chain_last c with ⟨e1, _⟩ | ⟨s, es⟩
  · subst e1
    have : u = 0 := (Option.some.inj hw).symm
    cases c
    omega
  · rw [es] at hw
    have pa : ∀ x ∈ a :: s, p x := fun x hx => chain_mem hp c x (by
      rw [es]
      simp only [List.mem_cons, List.mem_append] at hx ⊢
      rcases hx with q | q
      · exact .inr (.inl q)
      · exact .inl q)
    have pn : ∀ x ∈ a :: s, x ∈ names := fun x hx => chain_mem (fun t ht => hnm t (hsub t ht)) c x (by
      rw [es]
      simp only [List.mem_cons, List.mem_append] at hx ⊢
      rcases hx with q | q
      · exact .inr (.inl q)
      · exact .inl q)
    obtain ⟨y, s', u', h1, h2, h3, h4⟩ := simple_ring s.length (Nat.le_refl _) (show rsum (leastOf full) a s = some u from hw) (by omega)
    obtain ⟨f, r', g1, g2, g3, g4⟩ := least_ring o h1 h3
    have key : ∃ t', Good lt names (leastOf full) (f :: r') t' ∧ Closes (leastOf full) (f :: r') t' := by
      rcases List.eq_nil_or_concat r' with e | ⟨r2, z, e⟩
      · subst e
        obtain ⟨w, _, h5, _⟩ := wsum_cons.mp (show wsum (leastOf full) f [f] = some u' from g4)
        obtain ⟨t0, h6, h7, h8, _⟩ := leastOf_is h5
        exact (hne t0 h6 (h7.trans h8.symm)).elim
      · rw [List.concat_eq_append] at e
        subst e
        unfold rsum at g4
        rw [List.append_assoc] at g4
        obtain ⟨p1, q1, h5, h6, h7⟩ := wsum_app.mp (show wsum (leastOf full) f (r2 ++ z :: [f]) = some u' from g4)
        obtain ⟨w, z0, h8, h9, h10⟩ := wsum_cons.mp h6
        have : z0 = 0 := (Option.some.inj h9).symm
        refine ⟨p1, ⟨⟨f, r2 ++ [z], rfl, g2, h5⟩, g1, fun x hx => pn x (h2 x (g3 x hx))⟩, by simp, f, z, w, rfl, ?_, h8, by omega⟩
        rw [← List.cons_append, List.getLast?_append]
        rfl
    obtain ⟨t', k1, k2⟩ := key
    rcases hd.cmp _ _ k1 k2 with q | ⟨_, he, _⟩
    · exact ⟨_, q, fun x hx => pa x (h2 x (g3 x hx))⟩
    · cases he
theorem wsum_pot {W : N → N → Option Int} {L : N → Int} {p : N → Prop} (h : ∀ u v w, p u → p v → W u v = some w → L v ≤ L u + w) : ∀ {r : List N} {x : N} {t : Int}, (∀ y ∈ x :: r, p y) → wsum W x r = some t → L ((x :: r).getLast (by simp)) ≤ L x + t
  | [], x, t, _, e => by
    have : t = 0 := (Option.some.inj e).symm
    show L x ≤ L x + t
    omega
  | y :: r, x, t, hp, e => by
    obtain ⟨w, u, h1, h2, h3⟩ := wsum_cons.mp e
    have h4 := wsum_pot h (r := r) (x := y) (fun z hz => hp z (List.mem_cons_of_mem _ hz)) h2
    have h5 := h x y w (hp x List.mem_cons_self) (hp y (List.mem_cons_of_mem _ List.mem_cons_self)) h1
    rw [List.getLast_cons (by simp)]
    omega
/-- gains that fit: no ring found is without the lot -/
theorem none_found {lt : N → N → Prop} {names : List N} {full : List (Tie N)} {p : N → Prop} {L : N → Int} (hL : ∀ t ∈ full, p t.one → p t.other → L t.other ≤ L t.one + t.most) {found : List (List N)} (hd : DInv lt names (leastOf full) [] found) :
    ∀ q ∈ found, ¬ ∀ x ∈ q, p x := by
  intro q hq hp
  obtain ⟨t, g, _, f, l, w, h1, h2, h3, h4⟩ := hd.fnd q hq
  obtain ⟨f1, r, e, _, h5⟩ := g.ex
  subst e
  have ef : f1 = f := Option.some.inj h1
  subst ef
  have pot : ∀ u v w, p u → p v → leastOf full u v = some w → L v ≤ L u + w := fun u v w hu hv e => by
    obtain ⟨t0, k1, k2, k3, k4⟩ := leastOf_is e
    subst k2
    subst k3
    rw [← k4]
    exact hL t0 k1 hu hv
  have h6 := wsum_pot pot hp h5
  have el : (f1 :: r).getLast (by simp) = l := by
    rw [List.getLast?_eq_some_getLast (by simp)] at h2
    exact Option.some.inj h2
  rw [el] at h6
  have h7 := pot l f1 w (hp l (by rw [← el]; exact List.getLast_mem _)) (hp f1 List.mem_cons_self) h3
  omega
end
end NH
set_option Elab.async false
set_option linter.all false
set_option maxRecDepth 100000
set_option maxHeartbeats 0
namespace K14
open PySem PySem.Spec PyProof.Rows L2

def topS (i : Nat) : Stmt := PySem.Challenge.pw_nearhours_k14_whole_clashing_rings.main.body.getD i (.Pass ⟨0, 0, 0, 0⟩)
abbrev s_is_integer : Stmt := topS 3
abbrev s_is_tuple_of : Stmt := topS 4
abbrev s_are_integers : Stmt := topS 5
abbrev s_are_ascending : Stmt := topS 6
abbrev s_is_name : Stmt := topS 7
abbrev s_are_names : Stmt := topS 8
abbrev s_is_towers : Stmt := topS 9
abbrev s_widths_by : Stmt := topS 11
abbrev s_is_outside : Stmt := topS 12
abbrev s_ties_by : Stmt := topS 13
abbrev s_outside_by : Stmt := topS 14
abbrev s_settled_by : Stmt := topS 15
abbrev s_all_noughts : Stmt := topS 16
abbrev s_ring_back : Stmt := topS 17
abbrev s_clash_by : Stmt := topS 18
abbrev s_does_explain_by : Stmt := topS 19
abbrev s_is_wire_for : Stmt := topS 25
abbrev s_wire_fault : Stmt := topS 26
abbrev s_town_fault : Stmt := topS 27
abbrev s_is_tower_of : Stmt := topS 28
abbrev s_bounds_in : Stmt := topS 29
abbrev s_letter_fault : Stmt := topS 31
abbrev s_run_fault : Stmt := topS 32
abbrev s_want : Stmt := topS 34
abbrev s_want_town : Stmt := topS 35
abbrev s_want_run : Stmt := topS 36
abbrev s_is_lot : Stmt := topS 37
abbrev s_want_lot : Stmt := topS 38
abbrev s_want_ground : Stmt := topS 40
abbrev s_clash : Stmt := topS 42
abbrev s_does_explain : Stmt := topS 44
abbrev s_law_feed : Stmt := topS 46
abbrev s_law_draw : Stmt := topS 47
abbrev s_law_any : Stmt := topS 48
abbrev s_law_same : Stmt := topS 49
abbrev s_law_place : Stmt := topS 50
abbrev s_law_sent : Stmt := topS 51
abbrev s_law_bounds : Stmt := topS 52
abbrev s_law_ties : Stmt := topS 53
abbrev s_law_chain_fault : Stmt := topS 54
abbrev s_law_ring_due : Stmt := topS 55
abbrev s_law_ring_rows : Stmt := topS 56
abbrev s_law_lots : Stmt := topS 57
abbrev s_law_is_lot_right : Stmt := topS 58
abbrev s_law : Stmt := topS 59
def d_is_integer : He.DefD := ⟨("is_integer", none), "is_integer", "is_integer", defArgs s_is_integer, defBody s_is_integer, defScope s_is_integer, [], []⟩
def d_is_tuple_of : He.DefD := ⟨("is_tuple_of", none), "is_tuple_of", "is_tuple_of", defArgs s_is_tuple_of, defBody s_is_tuple_of, defScope s_is_tuple_of, [], []⟩
def d_are_integers : He.DefD := ⟨("are_integers", none), "are_integers", "are_integers", defArgs s_are_integers, defBody s_are_integers, defScope s_are_integers, [], []⟩
def d_are_ascending : He.DefD := ⟨("are_ascending", none), "are_ascending", "are_ascending", defArgs s_are_ascending, defBody s_are_ascending, defScope s_are_ascending, [], []⟩
def d_is_name : He.DefD := ⟨("is_name", none), "is_name", "is_name", defArgs s_is_name, defBody s_is_name, defScope s_is_name, [], []⟩
def d_are_names : He.DefD := ⟨("are_names", none), "are_names", "are_names", defArgs s_are_names, defBody s_are_names, defScope s_are_names, [], []⟩
def d_is_towers : He.DefD := ⟨("is_towers", none), "is_towers", "is_towers", defArgs s_is_towers, defBody s_is_towers, defScope s_is_towers, [], []⟩
def d_widths_by : He.DefD := ⟨("widths_by", none), "widths_by", "widths_by", defArgs s_widths_by, defBody s_widths_by, defScope s_widths_by, [], []⟩
def d_is_outside : He.DefD := ⟨("is_outside", none), "is_outside", "is_outside", defArgs s_is_outside, defBody s_is_outside, defScope s_is_outside, [], []⟩
def d_ties_by : He.DefD := ⟨("ties_by", none), "ties_by", "ties_by", defArgs s_ties_by, defBody s_ties_by, defScope s_ties_by, [], []⟩
def d_outside_by : He.DefD := ⟨("outside_by", none), "outside_by", "outside_by", defArgs s_outside_by, defBody s_outside_by, defScope s_outside_by, [], []⟩
def d_settled_by : He.DefD := ⟨("settled_by", none), "settled_by", "settled_by", defArgs s_settled_by, defBody s_settled_by, defScope s_settled_by, [], []⟩
def d_all_noughts : He.DefD := ⟨("all_noughts", none), "all_noughts", "all_noughts", defArgs s_all_noughts, defBody s_all_noughts, defScope s_all_noughts, [], []⟩
def d_ring_back : He.DefD := ⟨("ring_back", none), "ring_back", "ring_back", defArgs s_ring_back, defBody s_ring_back, defScope s_ring_back, [], []⟩
def d_clash_by : He.DefD := ⟨("clash_by", none), "clash_by", "clash_by", defArgs s_clash_by, defBody s_clash_by, defScope s_clash_by, [], []⟩
def d_does_explain_by : He.DefD := ⟨("does_explain_by", none), "does_explain_by", "does_explain_by", defArgs s_does_explain_by, defBody s_does_explain_by, defScope s_does_explain_by, [], []⟩
def d_is_wire_for : He.DefD := ⟨("is_wire_for", none), "is_wire_for", "is_wire_for", defArgs s_is_wire_for, defBody s_is_wire_for, defScope s_is_wire_for, [], []⟩
def d_wire_fault : He.DefD := ⟨("wire_fault", none), "wire_fault", "wire_fault", defArgs s_wire_fault, defBody s_wire_fault, defScope s_wire_fault, [], []⟩
def d_town_fault : He.DefD := ⟨("town_fault", none), "town_fault", "town_fault", defArgs s_town_fault, defBody s_town_fault, defScope s_town_fault, [], []⟩
def d_is_tower_of : He.DefD := ⟨("is_tower_of", none), "is_tower_of", "is_tower_of", defArgs s_is_tower_of, defBody s_is_tower_of, defScope s_is_tower_of, [], []⟩
def d_bounds_in : He.DefD := ⟨("bounds_in", none), "bounds_in", "bounds_in", defArgs s_bounds_in, defBody s_bounds_in, defScope s_bounds_in, [], []⟩
def d_letter_fault : He.DefD := ⟨("letter_fault", none), "letter_fault", "letter_fault", defArgs s_letter_fault, defBody s_letter_fault, defScope s_letter_fault, [], []⟩
def d_run_fault : He.DefD := ⟨("run_fault", none), "run_fault", "run_fault", defArgs s_run_fault, defBody s_run_fault, defScope s_run_fault, [], []⟩
def d_want : He.DefD := ⟨("want", none), "want", "want", defArgs s_want, defBody s_want, defScope s_want, [He.Dv.int (-1)], []⟩
def d_want_town : He.DefD := ⟨("want_town", none), "want_town", "want_town", defArgs s_want_town, defBody s_want_town, defScope s_want_town, [], []⟩
def d_want_run : He.DefD := ⟨("want_run", none), "want_run", "want_run", defArgs s_want_run, defBody s_want_run, defScope s_want_run, [], []⟩
def d_is_lot : He.DefD := ⟨("is_lot", none), "is_lot", "is_lot", defArgs s_is_lot, defBody s_is_lot, defScope s_is_lot, [], []⟩
def d_want_lot : He.DefD := ⟨("want_lot", none), "want_lot", "want_lot", defArgs s_want_lot, defBody s_want_lot, defScope s_want_lot, [], []⟩
def d_want_ground : He.DefD := ⟨("want_ground", none), "want_ground", "want_ground", defArgs s_want_ground, defBody s_want_ground, defScope s_want_ground, [], []⟩
def d_clash : He.DefD := ⟨("clash", none), "clash", "clash", defArgs s_clash, defBody s_clash, defScope s_clash, [], []⟩
def d_does_explain : He.DefD := ⟨("does_explain", none), "does_explain", "does_explain", defArgs s_does_explain, defBody s_does_explain, defScope s_does_explain, [], []⟩
def d_law_feed : He.DefD := ⟨("_law_feed", none), "_law_feed", "_law_feed", defArgs s_law_feed, defBody s_law_feed, defScope s_law_feed, [], []⟩
def d_law_draw : He.DefD := ⟨("_law_draw", none), "_law_draw", "_law_draw", defArgs s_law_draw, defBody s_law_draw, defScope s_law_draw, [], []⟩
def d_law_any : He.DefD := ⟨("_law_any", none), "_law_any", "_law_any", defArgs s_law_any, defBody s_law_any, defScope s_law_any, [], []⟩
def d_law_same : He.DefD := ⟨("_law_same", none), "_law_same", "_law_same", defArgs s_law_same, defBody s_law_same, defScope s_law_same, [], []⟩
def d_law_place : He.DefD := ⟨("_law_place", none), "_law_place", "_law_place", defArgs s_law_place, defBody s_law_place, defScope s_law_place, [], []⟩
def d_law_sent : He.DefD := ⟨("_law_sent", none), "_law_sent", "_law_sent", defArgs s_law_sent, defBody s_law_sent, defScope s_law_sent, [], []⟩
def d_law_bounds : He.DefD := ⟨("_law_bounds", none), "_law_bounds", "_law_bounds", defArgs s_law_bounds, defBody s_law_bounds, defScope s_law_bounds, [], []⟩
def d_law_ties : He.DefD := ⟨("_law_ties", none), "_law_ties", "_law_ties", defArgs s_law_ties, defBody s_law_ties, defScope s_law_ties, [], []⟩
def d_law_chain_fault : He.DefD := ⟨("_law_chain_fault", none), "_law_chain_fault", "_law_chain_fault", defArgs s_law_chain_fault, defBody s_law_chain_fault, defScope s_law_chain_fault, [], []⟩
def d_law_ring_due : He.DefD := ⟨("_law_ring_due", none), "_law_ring_due", "_law_ring_due", defArgs s_law_ring_due, defBody s_law_ring_due, defScope s_law_ring_due, [], []⟩
def d_law_ring_rows : He.DefD := ⟨("_law_ring_rows", none), "_law_ring_rows", "_law_ring_rows", defArgs s_law_ring_rows, defBody s_law_ring_rows, defScope s_law_ring_rows, [], []⟩
def d_law_lots : He.DefD := ⟨("_law_lots", none), "_law_lots", "_law_lots", defArgs s_law_lots, defBody s_law_lots, defScope s_law_lots, [], []⟩
def d_law_is_lot_right : He.DefD := ⟨("_law_is_lot_right", none), "_law_is_lot_right", "_law_is_lot_right", defArgs s_law_is_lot_right, defBody s_law_is_lot_right, defScope s_law_is_lot_right, [], []⟩
def d_law : He.DefD := ⟨("law", none), "law", "law", defArgs s_law, defBody s_law, defScope s_law, [], []⟩
def fn1 : List He.DefD := [d_is_integer, d_is_tuple_of, d_are_integers, d_are_ascending, d_is_name, d_are_names, d_is_towers, d_widths_by, d_is_outside, d_ties_by, d_outside_by, d_settled_by, d_all_noughts, d_ring_back, d_clash_by, d_does_explain_by, d_is_wire_for, d_wire_fault, d_town_fault, d_is_tower_of, d_bounds_in, d_letter_fault, d_run_fault]
def fn2 : List He.DefD := [d_want, d_want_town, d_want_run, d_is_lot, d_want_lot, d_want_ground, d_clash, d_does_explain, d_law_feed, d_law_draw, d_law_any, d_law_same, d_law_place, d_law_sent, d_law_bounds, d_law_ties, d_law_chain_fault, d_law_ring_due, d_law_ring_rows, d_law_lots, d_law_is_lot_right, d_law]
def fn : List He.DefD := fn1 ++ fn2
def fa1 : List He.Fa := [.glo "is_integer", .glo "is_tuple_of", .glo "are_integers", .glo "are_ascending", .glo "is_name", .glo "are_names", .glo "is_towers", .glo "widths_by", .glo "is_outside", .glo "ties_by", .glo "outside_by", .glo "settled_by", .glo "all_noughts", .glo "ring_back", .glo "clash_by", .glo "does_explain_by", .glo "is_wire_for", .glo "wire_fault", .glo "town_fault", .glo "is_tower_of", .glo "bounds_in", .glo "letter_fault", .glo "run_fault"]
def fa2 : List He.Fa := [.glo "want", .glo "want_town", .glo "want_run", .glo "is_lot", .glo "want_lot", .glo "want_ground", .glo "clash", .glo "does_explain", .glo "_law_feed", .glo "_law_draw", .glo "_law_any", .glo "_law_same", .glo "_law_place", .glo "_law_sent", .glo "_law_bounds", .glo "_law_ties", .glo "_law_chain_fault", .glo "_law_ring_due", .glo "_law_ring_rows", .glo "_law_lots", .glo "_law_is_lot_right", .glo "law"]
def fa3 : List He.Fa := [.free "isinstance", .free "int", .free "bool", .free "str", .free "tuple", .free "len", .free "all", .free "zip", .free "dict", .free "enumerate", .free "range", .free "min", .free "repr", .free "list", .str "LETTERS" "abcdefghijklmnopqrstuvwxyz", .int "MOST_LETTERS" 8]
def fa : List He.Fa := fa1 ++ fa2 ++ fa3
def loose1 : List PySem.Str := ["LETTERS", "MOST_LETTERS", "is_integer", "is_tuple_of", "are_integers", "are_ascending", "is_name", "are_names", "is_towers", "widths_by", "is_outside", "ties_by", "outside_by", "settled_by", "all_noughts", "ring_back", "clash_by", "does_explain_by", "HourError", "TownError", "NotUsable", "is_wire_for", "wire_fault", "town_fault", "is_tower_of", "bounds_in", "letter_fault", "run_fault", "want", "want_town"]
def loose2 : List PySem.Str := ["want_run", "is_lot", "want_lot", "want_ground", "clash", "does_explain", "_law_feed", "_law_draw", "_law_any", "_law_same", "_law_place", "_law_sent", "_law_bounds", "_law_ties", "_law_chain_fault", "_law_ring_due", "_law_ring_rows", "_law_lots", "_law_is_lot_right"]
def loose : List PySem.Str := loose1 ++ loose2
abbrev R : PySem.W.OpenRow := PySem.W.OpenLaw.row PySem.Challenge.rw_nearhours_k14_whole_clashing_rings
abbrev hk : PySem.W.Hook := He.hookD 4 fa fn
def ob (s : PySem.W.SharedT) : He.AlD := He.obsDG 4 fa fn (HandSHeadRun.getT s)
theorem ob_eq (s : PySem.W.SharedT) : ob s = hk.obs s.abs := He.obsDG_eq (HandSHeadRun.getT_eq s)
theorem run (w : World) : HandSHeadRun.RunEq R (PySem.W.view R.prog [59]) hk ob 4000 loose w := by
  intro os
  kernel_rfl
end K14
set_option Elab.async false
set_option linter.all false
set_option maxRecDepth 100000
set_option maxHeartbeats 4000000
namespace K14
open PySem PySem.Spec PyProof.Rows L2

/-! ### promises of defs that run where no repr is under way -/
structure FnG (P : Program) (w : World) (K : PySem.W.Frag) (mg : Str → Option Value) (base : Heap) (k : Nat) (f : Addr) (fd : FuncData) (ps : List Str) (sp : Sp) : Prop where
  size : ∀ vs H Q E, sp vs H Q E → vs.length = ps.length
  goes : ∀ {A : Around} {outer : List Env} {s : Shared} {H : Hp} {args : Args} {us : List Value} {vs : List V} {Q : VK} {E : XK}, A.guards = some [] → Room k A → Env0 P w K mg base A outer s H →
    BindsTo s fd args (ps.zip us) → Vals vs us → sp vs H Q E → codeAny (model P w) A (.call (.ref f) args) (CR CX0 outer P w H s Q E) s
section
variable {X : Cx} {k : Nat} {f : Addr} {fd : FuncData} {ps : List Str} {sp : Sp} {E : XK} {x : Str} {p pos : Pos} {e : Expr} {es : List Expr} {t : TA}
theorem pe_callG (F : FnG X.prog X.w X.K X.mg X.base k f fd ps sp) (gd : X.A.guards = some []) (hr : Room k X.A) (hg : Gl X x) (hm : X.mg x = some (.ref f)) (hk : PySem.W.keepIn X.K (.ref f) = true) (hb : Binds X.K fd ps [])
    (ha : PA X (e :: es) t) (hdb : (x == ("__debug__" : Str)) = false := by decide) (he : starEach (e :: es) X.env = (false, eval e X.env) :: starEach es X.env := by rfl)
    (hpl : (backTo pos (starEach es X.env)).any (·.1) = false := by rfl) : PE X (.Call (.Name x p) (e :: es) [] pos) (tCall sp [] E0 t) where
  run := fun pins s σ H Q I h => by
    refine wpAny_Call_Name_kw (ld_glob I hg hm (PySem.W.callWith_K (h₀ := X.base) I.ok.mod.kin hk (thn (ha.run pos pins s σ H _ I h) fun us s1 ⟨vs, H1, I1, r, q⟩ => ⟨I1.kIn, ?_⟩) he hpl) hdb)
    have q0 : sp vs H1 Q E0 := by
      have z : sp (vs ++ []) H1 Q E0 := q
      rwa [List.append_nil] at z
    have n1 : us.length = ps.length := r.length.symm.trans (F.size _ _ _ _ q0)
    have b1 : BindsTo s1 fd ⟨us, []⟩ (ps.zip us) := by
      have z := hb s1 us I1.kIn (by rw [List.append_nil]; exact n1)
      rwa [List.append_nil] at z
    refine wpAny_call (codeAny_mono (F.goes gd hr I1.env0 b1 r q0) fun res s2 hq => ?_)
    cases res with
    | error _ => exact hq.elim
    | ok fl =>
      cases fl with
      | ret _ => exact I1.after hq
      | _ => exact hq.elim
end
/-- a def's body as a term and its reading -/
theorem fnG_of {P : Program} {w : World} {K : PySem.W.Frag} {mg : Str → Option Value} {base : Heap} {x qual : Str} {params : Arguments} {body : List Stmt} {scope : Scope} {f : Addr} {fd : FuncData} {N ps : List Str} {k : Nat} {sp : Sp}
    (F : FunD K x qual params body scope [] [] f fd) (S : FnScope N ps scope) (size : ∀ vs H Q E, sp vs H Q E → vs.length = ps.length)
    (hb : ∀ {cdv : Value} {A : Around} {outer : List Env} {s : Shared} {H : Hp} {vs : List V} {Q : VK} {E : XK}, A.guards = some [] → Room k (A.deeper (envOfC qual scope s.heap.objs.size f cdv)) → sp vs H Q E →
      ∃ t, PSs (cxOf CX0 P w K mg base N qual scope f cdv A outer s H E) body t ∧ t { nx := fun _ H' => Q .non H', rt := Q } (start N vs) H) : FnG P w K mg base (k + 1) f fd ps sp where
  size := size
  goes := fun {A outer s H args us vs Q E} gd hr e0 hbind r hsp => by
    obtain ⟨oc, od, dV, kV, doc, pm, an, cdv, ct, osl, ef, lk, hcd, _, _⟩ := F.ex
    subst ef
    have inK : K.In s.heap := e0.mod.kin.keeps fun b o z => (e0.bs b o z).1
    have par : ∀ y ∈ ps.zip us, scope.names.lookup y.1 = some .local ∨ (scope.names.lookup y.1 = some .cell ∧ ((cellsFrom (s.heap.objs.size + 1) scope.names []).lookup y.1).isSome = true) := by
      rintro ⟨n, v⟩ hy
      have hn := S.par n (List.of_mem_zip hy).1
      exact hn.imp id fun c => ⟨c, PySem.W.cellsFrom_some _ _ _ (Or.inl c)⟩
    refine codeAny_call_function hr.depth (inK _ _ lk) rfl S.co S.gen rfl (PySem.W.codeRec_of inK hcd) (hbind _ _ _ _ (wpAny_newFunctionEnv_cells S.kind par fun env he s1 z => ?_))
    subst he
    have nl : s1.heap.NoLimit := (e0.mod.nolimit.keeps fun b o q => (e0.bs b o q).1).keeps z.toInCall.keep
    refine ⟨nl, codeAny_func ?_⟩
    obtain ⟨t, ht, hq⟩ := hb (cdv := cdv) (outer := outer) gd (hr.deeper _) hsp
    have I := inv_start (CX := CX0) (E := E) S hr.hd e0 (size _ _ _ _ hsp) r z
    refine wpAny_mono (ht.run [] s1 (start N vs) H _ I hq) (fun fl s2 hs => ?_) fun _ _ hs => hs
    have fin : ∀ {σ' : L2.St} {H' : Hp} {v : V} {u : Value}, L2.Inv (cxOf CX0 P w K mg base N qual scope f cdv A outer s H E) [] σ' H' s2 → RelV v u → Q v H' → CE outer P w H s Q u s2 := fun J rv q => ⟨_, _, J.os, J.bare, J.base, J.hok, rv, q⟩
    cases fl with
    | ret u =>
      obtain ⟨v, σ', H', J, rv, q⟩ := hs
      exact fin J rv q
    | next =>
      obtain ⟨σ', H', J, q⟩ := hs
      exact fin (v := V.non) (u := Value.none) J rfl q
    | brk =>
      obtain ⟨_, _, _, q⟩ := hs
      exact q.elim
    | cont =>
      obtain ⟨_, _, _, q⟩ := hs
      exact q.elim
/-- the law's call: what enters is the script -/
theorem enter_g {P : Program} {w : World} {K : PySem.W.Frag} {mg mb : Str → Option Value} {k : Nat} {fa a : Addr} {fd : FuncData} {x : Str} {sp : Sp} {s1 : Shared} {vs : List Value} {ns : List Int}
    (inK : K.In s1.heap) (gm : s1.heap.Ns mainGlobals mg) (gb : s1.heap.Ns builtinsNs mb) (bb : ∀ x : Str, x ≠ "__name__" → mb x = bootBuiltins x) (nl : s1.heap.NoLimit) (ng : s1.gens = #[])
    (oa : s1.heap.get? a = some { cls := .type "list", data := .seq vs.toArray }) (hi : IntsAre vs ns) (hl : ns.length ≤ sizeLine) (hr : Room k callerA)
    (F : ∀ base : Heap, K.In base → base.Ns mainGlobals mg → FnG P w K mg base k fa fd [x] sp) (bd : ∀ (s : Shared) (u : Value), BindsTo s fd ⟨[u], []⟩ [(x, u)])
    (hsp : ∀ H : Hp, (∀ b, H b = none ∨ ∃ o xs, H b = some (.frz o (.lst xs))) → SqL K H a (ns.map V.int) → sp [.ref a] H (fun v _ => v = .bl true) fun _ _ _ => False) :
    codeAny (model P w) callerA (.call (.ref fa) ⟨[.ref a], []⟩) (fun r s' => r = .ok (.ret (.bool true)) ∧ OldK s1.heap s'.heap ∧ s'.os = s1.os ∧ AllBare s'.gens) s1 := by
  classical
  have rv := vals_ints hi
  have nv := hi.length
  -- the script is tracked as a known list, if the written part does not hold it
  let H : Hp := fun b => if b = a ∧ K.lookup a = none then some (.frz { cls := .type "list", data := .seq vs.toArray } (.lst (ns.map V.int))) else none
  have Hy : ∀ {b u}, H b = some u → b = a ∧ K.lookup a = none ∧ u = .frz { cls := .type "list", data := .seq vs.toArray } (.lst (ns.map V.int)) := fun {b u} z => by
    by_cases c : b = a ∧ K.lookup a = none
    · have z1 := (if_pos c).symm.trans (show H b = some u from z)
      exact ⟨c.1, c.2, (Option.some.inj z1).symm⟩
    · have z1 := (if_neg c).symm.trans (show H b = some u from z)
      cases z1
  have only : ∀ b, H b = none ∨ ∃ o xs, H b = some (.frz o (.lst xs)) := fun b => by
    by_cases c : b = a ∧ K.lookup a = none
    · exact Or.inr ⟨_, _, if_pos c⟩
    · exact Or.inl (if_neg c)
  have hok : HOk P w H s1.heap := fun b u z => by
    obtain ⟨rfl, _, rfl⟩ := Hy z
    exact ⟨oa, by rw [List.length_map]; exact hl, vs, _, rv, oa⟩
  have seq : SqL K H a (ns.map V.int) := by
    cases q : K.lookup a with
    | none => exact Or.inl (Or.inr ⟨_, if_pos ⟨rfl, q⟩⟩)
    | some o =>
      have z := inK a o q
      rw [oa] at z
      cases z
      exact Or.inr ⟨_, vs.toArray, _, q, rfl, rfl, rfl, by rw [List.size_toArray, nv]; exact hl, by simpa using rv⟩
  have away : ∀ {b o es ep}, s1.heap.get? b = some o → o.data = .dict es ep → H b = none := fun {b o es ep} z d => by
    cases q : H b with
    | none => rfl
    | some u =>
      obtain ⟨rfl, _, _⟩ := Hy q
      rw [oa] at z
      cases z
      exact nomatch d
  have names : ∀ {b m}, s1.heap.Ns b m → (hidT s1.heap H).Ns b m := fun {b m} ⟨o, es, ep, z, d, r⟩ => ⟨o, es, ep, hidT_get z (away z d), d, r⟩
  have inB : K.In (hidT s1.heap H) := fun b o z => hidT_get (inK b o z) (by
    cases q : H b with
    | none => rfl
    | some u =>
      obtain ⟨rfl, n, _⟩ := Hy q
      rw [n] at z
      cases z)
  obtain ⟨mc, l1, l2⟩ := nl
  have md : Mod K mg (hidT s1.heap H) := { kin := inB, glob := names gm, blt := ⟨mb, names gb, bb⟩, nolimit := ⟨mc, names l1, l2⟩ }
  have e0 : Env0 P w K mg (hidT s1.heap H) callerA [] s1 H := { frames := rfl, mod := md, bs := fun b o z => of_hidT z, bsz := Nat.le_of_eq (hidT_size _ _), funs := trivial, frf := fun b z => (nomatch z), hok := hok, bare := AllBare.of_eq ng }
  have go := (F _ inB (names gm)).goes (args := ⟨[.ref a], []⟩) (us := [.ref a]) (vs := [.ref a]) rfl hr e0 (bd s1 (.ref a)) (.cons (show RelV (.ref a) (.ref a) from rfl) .nil) (hsp H only seq)
  refine codeAny_mono go fun r s2 hq => ?_
  cases r with
  | error _ => exact hq.elim
  | ok fl =>
    cases fl with
    | next => exact hq.elim
    | brk => exact hq.elim
    | cont => exact hq.elim
    | ret u =>
      obtain ⟨v, H', os, bare, un, hok', ru, qv⟩ := hq
      have ev : v = .bl true := qv
      subst ev
      have eu : u = Value.bool true := ru
      subst eu
      refine ⟨rfl, OldK.of_keep fun b o z => ?_, os, bare⟩
      rcases only b with n | ⟨ob, xs, y⟩
      · exact un.keep b o z n (fun m => nomatch m) (fun m => nomatch m)
      · have y2 := un.frzs b ob _ y
        have t1 := (hok b _ y).1
        have t2 := (hok' b _ y2).1
        rw [z] at t1
        cases t1
        exact t2
/-- the end of a law whose def is told so -/
theorem walk_g {l : PySem.W.OpenLaw} {n k : Nat} {q : Program} {loose : List Str} {XP : (Str → Option Value) → Heap → Prop} {YP : World → Heap → Prop} {d : DefRec} {x : Str}
    (hn : l.most = some n) (hn2 : n ≤ sizeLine) (hdf : d.params.defaults = []) (hr : Room k callerA)
    (F : ∀ (w : World) (mg : Str → Option Value) (fa : Addr) (h : Heap), YP w h → h.Ns mainGlobals mg → mg d.name = some (.ref fa) →
      ∃ (K : PySem.W.Frag) (fd : FuncData) (sp : Sp), K.In h ∧ (∀ (s : Shared) (u : Value), BindsTo s fd ⟨[u], []⟩ [(x, u)]) ∧
        (∀ (H : Hp) (a : Addr) (ns : List Int), ns.length ≤ n → SqL K H a (ns.map V.int) → sp [.ref a] H (fun v _ => v = .bl true) fun _ _ _ => False) ∧
        ∀ base : Heap, K.In base → base.Ns mainGlobals mg → FnG l.prog w K mg base k fa fd [x] sp) :
    PySem.W.WalkO q loose XP YP l.row.toRowW d [] (fun f vs => PySem.call f vs) :=
  Att.attach_call hn hdf fun w s0 s1 mg mb fa o pm cd doc a vs ns G Y _ _ _ hmg oa hi hlen ng => by
    obtain ⟨K, fd, sp, inK, bd, hsp, hF⟩ := F w mg fa _ Y G.T.g hmg
    exact enter_g inK G.T.g G.T.b G.T.builtins G.T.nolimit ng oa hi (Nat.le_trans hlen hn2) hr hF bd fun H _ hS => hsp H a ns hlen hS

end K14
set_option Elab.async false
set_option linter.all false
set_option maxRecDepth 100000
set_option maxHeartbeats 4000000
namespace K14
open PySem PySem.Spec PyProof.Rows L2
section
variable {X : Cx}
/-! ### repr of a list of two truth values -/
def show2 (a b : Bool) : Str := (PyData.list [.bool a, .bool b]).shown
theorem show2_inj {a b c d : Bool} : (show2 a b = show2 c d) ↔ (a = c ∧ b = d) := by
  revert a b c d
  decide +kernel
theorem show2_len : ∀ a b : Bool, (show2 a b).length ≤ 100 := by decide +kernel
def rRepB (K : PySem.W.Frag) : List V → Hp → VK → Prop := fun xs H Q => ∃ (p : Addr) (a b : Bool), xs = [.ref p] ∧ SqL K H p [.bl a, .bl b] ∧ Q (.str (show2 a b)) H
theorem call_repB (gd : X.A.guards = some []) (hu : X.A.units + 64 < cLine) : CallR X (.builtin "repr") (rRepB X.K) := by
  intro pins s σ H xs us Q I r h
  obtain ⟨p, a, b, rfl, hs, q⟩ := h
  obtain ⟨u, rfl, ru⟩ := vals1 r
  cases (show u = Value.ref p from ru)
  obtain ⟨its, rv, pl, _⟩ := I.list hs
  obtain ⟨u1, u2, rfl, r1, r2⟩ := vals2 rv
  cases (show u1 = Value.bool a from r1)
  cases (show u2 = Value.bool b from r2)
  obtain ⟨o, n, ho, hc, hd, hdat⟩ := pl
  have rd : Reads s.heap (.ref p) (.list [.bool a, .bool b]) (p :: ([] ++ ([] ++ []))) := Reads.list ho hc hdat (ReadsAll.cons (Reads.bool a) (ReadsAll.cons (Reads.bool b) ReadsAll.nil))
  refine repr_of_reads' rd (by simp [PyData.showable, PyData.showableAll]) (fun z => by simp [PyData.hasDict, PyData.hasDictAll] at z) gd ?_ (fun _ _ e => e) (fun h' u tk hk => ?_) ?_
  · have : (PyData.list [.bool a, .bool b]).depth ≤ 8 := by cases a <;> cases b <;> decide
    omega
  · exact ⟨.str (show2 a b), H, I.kept (t' := tk) hk, ⟨u, rfl⟩, q⟩
  · exact Nat.le_trans (show2_len a b) (by rw [sizeLine_eq]; omega)
/-! ### tuple >= tuple, of texts -/
def geT (ps qs : List Str) : Bool := Ob.lexAt (fun j => decide (ps.getD j Str.empty = qs.getD j Str.empty)) (fun j => !decide ((ps.getD j Str.empty).cps.toList < (qs.getD j Str.empty).cps.toList)) (decide (qs.length ≤ ps.length)) 0 (min ps.length qs.length)
def rGeS (K : PySem.W.Frag) : R2 := fun x y H Q => ∃ (a b : Addr) (ps qs : List Str), x = .ref a ∧ y = .ref b ∧ SqT K H a (ps.map V.str) ∧ SqT K H b (qs.map V.str) ∧ Q (.bl (geT ps qs)) H
theorem texts_at : ∀ {ps : List Str} {us : List Value}, Vals (ps.map V.str) us → us.length = ps.length ∧ ∀ (j : Nat) (h : j < us.length), ∃ t, us[j] = .str (ps.getD j Str.empty) t
  | [], _, .nil => ⟨rfl, fun j h => by cases h⟩
  | p :: ps, _, .cons r t => by
    obtain ⟨h1, h2⟩ := texts_at t
    refine ⟨congrArg Nat.succ h1, fun j h => ?_⟩
    cases j with
    | zero => exact r
    | succ j =>
      obtain ⟨t, e⟩ := h2 j (Nat.lt_of_succ_lt_succ h)
      exact ⟨t, e⟩
theorem op_geS (hu : X.A.units < cLine) : OpR X (compareOp .GtE) (rGeS X.K) := by
  intro pins s σ H x y v u Q I rx ry h
  obtain ⟨a, b, ps, qs, rfl, rfl, ha, hb, q⟩ := h
  cases rx
  cases ry
  obtain ⟨us, r1, p1, _⟩ := I.tuple ha
  obtain ⟨ws, r2, p2, _⟩ := I.tuple hb
  obtain ⟨l1, t1⟩ := texts_at r1
  obtain ⟨l2, t2⟩ := texts_at r2
  have R := Ob.RcOp.tuples_ge (A := X.A) (s := s) (e := fun j => decide (ps.getD j Str.empty = qs.getD j Str.empty)) (r := fun j => !decide ((ps.getD j Str.empty).cps.toList < (qs.getD j Str.empty).cps.toList)) p1 p2 hu (fun j h1 h2 => by
    obtain ⟨t, et⟩ := t1 j (by simpa using h1)
    obtain ⟨t', et'⟩ := t2 j (by simpa using h2)
    simp only [List.getElem_toArray]
    rw [et, et']
    have z : decide (ps.getD j Str.empty = qs.getD j Str.empty) = (ps.getD j Str.empty == qs.getD j Str.empty) := by
      by_cases c : ps.getD j Str.empty = qs.getD j Str.empty
      · rw [decide_eq_true c]; exact (beq_iff_eq.mpr c).symm
      · rw [decide_eq_false c]; exact (beq_eq_false_iff_ne.mpr c).symm
    show SeqAt.EqAt _ _ _ _ (decide (ps.getD j Str.empty = qs.getD j Str.empty))
    rw [z]
    exact SeqAt.EqAt.str_str _ _ _ _) (fun j h1 h2 _ => by
    obtain ⟨t, et⟩ := t1 j (by simpa using h1)
    obtain ⟨t', et'⟩ := t2 j (by simpa using h2)
    simp only [List.getElem_toArray]
    rw [et, et']
    intro prog w E Q hq
    exact PySem.P.ge_str hq)
  rw [show us.toArray.size = ps.length by rw [List.size_toArray]; exact l1, show ws.toArray.size = qs.length by rw [List.size_toArray]; exact l2] at R
  exact R X.prog X.w X.xe (EP X pins σ Q) ⟨.bl _, H, I, rfl, q⟩
end
end K14
set_option Elab.async false
set_option linter.all false
set_option maxRecDepth 100000
set_option maxHeartbeats 4000000
namespace K14
open PySem PySem.Spec PyProof.Rows L2
/-! ### enumerate of a tuple -/
theorem new_enumT (t : Addr) (items : Array Value) (n : Nat) (dct : Option Addr) (sl : Array (Option Value)) :
    Meets (Builtin.«enumerate.__new__» ⟨[.type "enumerate", .ref t], []⟩) (fun _ R s => s.heap.get? t = some { cls := .type "tuple", dict := dct, data := .seq items n, slots := sl } ∧
      R (.ok (.ret (.ref (s.heap.push { cls := .type "tuple_iterator", data := .fields #[.ref t, .int 0 0] }).objs.size)))
        { s with heap := (s.heap.push { cls := .type "tuple_iterator", data := .fields #[.ref t, .int 0 0] }).push { cls := .type "enumerate", data := .fields #[.none, .bool false, .ref s.heap.objs.size, rawInt 0, .none, .none] } }) :=
  .of_wp fun prog w A R s h => by
    obtain ⟨hp, g, d, tk, os⟩ := s
    obtain ⟨ht, h⟩ := h
    have z := sub_enumerate
    have isT : Heap.IsTuple (Shared.heap ⟨hp, g, d, tk, os⟩) t items := ⟨_, ht, rfl, n, rfl⟩
    wp_walk using AutoSeq1.wpAny_loadPart' ht
    refine wpAny_stack_any fun st => wpAny_pure ?_
    split
    · rename_i c _ _ _ _ _
      cases (c == Value.type "enumerate") <;> (wp_walk using AutoSeq1.wpAny_loadPart' ht, wpAny_pyIter_tuple isT; exact ⟨_, rfl, h⟩)
    · wp_walk using AutoSeq1.wpAny_loadPart' ht, wpAny_pyIter_tuple isT
      exact ⟨_, rfl, h⟩

/-- the tuple at a as it stands at each turn, each item in a new pair with its place -/
def IteT (K : PySem.W.Frag) (a : Addr) : It where
  go := fun i H => ∃ (xs : List V) (x : V), SqT K H a xs ∧ xs[i]? = some x
  yld := fun i H v H' => ∃ T x, v = .ref T ∧ H T = none ∧ H' = upd H T (.tup [.int (i : Nat), x]) ∧ ∀ xs, SqT K H a xs → xs[i]? = some x
  stop := fun i H => ∃ xs : List V, SqT K H a xs ∧ xs.length ≤ i
theorem two_mem {e it b : Addr} (h : b ∈ [e, it]) : b = e ∨ b = it := by simpa using h
theorem turn_enumT {P : Program} {w : World} {K : PySem.W.Frag} {elts : List Expr} {kk : Nat} {tpos : Pos} (a e it : Addr) :
    Turn P w K (.Tuple elts kk tpos) (IteT K a) [e, it] e (fun i h => (∃ old, IsEnum h e it ((i : Nat) : Int) old) ∧ h.IsTupleIter it a i ∧ e ≠ it ∧ a ≠ it ∧ a ≠ e) where
  mem := List.mem_cons_self
  obj := by
    rintro i h ⟨⟨old, he⟩, ⟨o, ho, _, hd⟩, _⟩ b hb
    rcases two_mem hb with rfl | rfl
    · exact ⟨_, he, fun v q => nomatch q⟩
    · exact ⟨o, ho, fun v q => by rw [hd] at q; cases q⟩
  keep := by
    rintro i h h' ⟨⟨old, he⟩, hi, ne, na, nb⟩ k
    exact ⟨⟨old, k e (by simp) _ he⟩, hi.at fun o q => k it (by simp) o q, ne, na, nb⟩
  item := by
    rintro X rfl rfl rfl hc i pins s σ H E I hf ⟨⟨old, he⟩, hit, ne, na, nb⟩ ⟨xs, x, hq, hx⟩
    obtain ⟨its, rv, p, hz⟩ := I.tuple hq
    obtain ⟨u, hu, ru⟩ := rv.get hx
    have le : e < s.heap.objs.size := Heap.lt_size he
    have li : it < s.heap.objs.size := by
      obtain ⟨_, q, _⟩ := hit
      exact Heap.lt_size q
    have hi : i < its.toArray.size := by
      rw [List.size_toArray]
      exact (List.getElem?_eq_some_iff.mp hu).1
    refine wpAny_pyNext_enum_itemD (Draws.tuple (A := X.A.in1) (I.ok.hd hc) it a na its.toArray) he ⟨hit, p⟩ hi ne (fun z => ?_) fun y h' tk hy ho st' hT _ hk => ⟨_, rfl, wpAny_letOwnedTupleGo_enum (s := { s with heap := h', toks := tk + 1 }) ho fun h2 he2 sb => ?_⟩
    · have z : e = it ∨ e = a := by simpa using z
      rcases z with z | z
      · exact ne z
      · exact nb z.symm
    have ey : y = u := by
      have hy : its.toArray[i]? = some y := hy
      rw [List.getElem?_toArray, hu] at hy
      exact (Option.some.inj hy).symm
    subst ey
    have hT2 : h2.get? s.heap.objs.size = some { cls := .type "tuple", data := .seq #[.int i tk, y] } := (sb.2 _ (Nat.ne_of_gt le)).trans hT
    have kept : ∀ b ob, b ∉ [e, it] → s.heap.get? b = some ob → h2.get? b = some ob := fun b ob hb q => by
      have n1 : b ≠ e := fun z => hb (by simp [z])
      have n2 : b ≠ it := fun z => hb (by simp [z])
      exact (sb.2 b n1).trans (hk b ob n1 n2 q)
    have new : ObjOk X.prog X.w (upd H s.heap.objs.size (.tup [.int (i : Nat), x])) h2 s.heap.objs.size (.tup [.int (i : Nat), x]) :=
      ⟨by show 2 ≤ sizeLine; decide, [.int i tk, y], .cons (show RelV (.int (i : Nat)) (.int i tk) from ⟨_, rfl⟩) (.cons ru .nil), _, hT2, rfl, _, rfl⟩
    refine ⟨.ref s.heap.objs.size, _, I.turnedNew (t' := tk + 1) kept hf (Nat.le_refl _) new, rfl, ⟨_, x, rfl, I.hok.fresh (Nat.le_refl _), rfl, fun ys hy => ?_⟩, ⟨⟨y, ?_⟩, st'.1.at fun o q => (sb.2 it ne.symm).trans q, ne, na, nb⟩, fun b hb => ?_⟩
    · rw [I.tuple_inj hy hq]
      exact hx
    · have e1 : ((i + 1 : Nat) : Int) = (i : Int) + 1 := by omega
      rw [e1]
      exact he2
    · have lb : b < s.heap.objs.size := by
        rcases two_mem hb with rfl | rfl
        · exact le
        · exact li
      rw [upd_ne (Nat.ne_of_lt lb)]
      exact (hf b hb).1
  done := by
    rintro X rfl rfl rfl hc i pins s σ H E I hf ⟨⟨old, he⟩, hit, ne, na, nb⟩ ⟨xs, hq, hx⟩
    obtain ⟨its, rv, p, hz⟩ := I.tuple hq
    obtain ⟨f0, f1, f2, f3, f4, f5⟩ := hf it (by simp)
    have D := Draws.tuple (prog := X.prog) (w := X.w) (A := X.A.in1) (I.ok.hd hc) it a na its.toArray
    have hn : its.toArray.size ≤ i := by
      rw [List.size_toArray, ← rv.length]
      exact hx
    have hT : s.TypeIs (.ref e) "enumerate" := ⟨_, he, rfl⟩
    unfold pyNext
    refine wpAny_bind (wpAny_attempt (wpAny_callSpecial?_slot (name := Str.ofString "__next__") hT F.slot_enumerate_next (wpAny_call_entry F.slot_enumerate_next hT F.entry_enumerate_next ?_ (F.args_enumerate_next_1 _))))
    show wpAny _ _ (field (.ref e) 2 >>= _) _ _ _
    refine wpAny_bind (wpAny_field he rfl (x := .ref it) rfl ?_)
    refine wpAny_bind (wpAny_nextOf_tuple_end (I.ok.hd hc) hit p (Array.getElem?_eq_none hn) fun h' y he' hy => ?_)
    obtain ⟨o, ho, hc'⟩ := hy
    refine wpAny_bind (wpAny_isInstance (T := "StopIteration") (b := true) ⟨o, ho, hc'⟩ isSubtype_stop ?_)
    exact wpAny_pure ⟨rfl, I.turned (t' := s.toks) (fun b o hb q => he' b o hb q) f0 f1 f3 f4 f5⟩
  self := fun A i s Q E st h => wpAny_pyIter_enum st.1.choose_spec h
end K14
set_option Elab.async false
set_option linter.all false
set_option maxRecDepth 100000
set_option maxHeartbeats 4000000
namespace K14
open PySem PySem.Spec PyProof.Rows L2
theorem call_enumT {prog : Program} {w : World} {A : Around} {E : Value → Shared → Prop} {s : Shared} {t : Addr} {items : Array Value} {Q : Value → Shared → Prop} (ht : s.heap.IsTuple t items)
    (h : ∀ h', IsEnum h' (s.heap.objs.size + 1) s.heap.objs.size 0 .none → h'.IsTupleIter s.heap.objs.size t 0 → (∀ b o, s.heap.get? b = some o → h'.get? b = some o) → Q (.ref (s.heap.objs.size + 1)) { s with heap := h' }) :
    wpAny (model prog w) A (call (.type "enumerate") [.ref t]) Q E s := by
  obtain ⟨⟨c, dct, dt, sl⟩, hl, hc, n, hd⟩ := ht
  obtain rfl : c = .type "tuple" := hc
  obtain rfl : dt = .seq items n := hd
  refine callType_new F.called_enumerate (by decide) (F.typeCall_enumerate_1 _) (F.newCall_enumerate_1 _) (fun obj => F.args_object_init_2 obj _) F.entry_enumerate_new (new_enumT t items n dct sl) ⟨hl, ?_⟩
  have z1 : (s.heap.push { cls := .type "tuple_iterator", data := .fields #[.ref t, .int 0 0] }).objs.size = s.heap.objs.size + 1 := Heap.size_push ..
  show _ ∧ _
  rw [z1]
  have en := Heap.get?_push_size (s.heap.push { cls := .type "tuple_iterator", data := .fields #[.ref t, .int 0 0] }) (o := { cls := .type "enumerate", data := .fields #[.none, .bool false, .ref s.heap.objs.size, rawInt 0, .none, .none] }) rfl
  rw [z1] at en
  exact ⟨⟨_, en, rfl⟩, h _ en ⟨_, Heap.get?_push_of_some _ (Heap.get?_push_size _ rfl), rfl, rfl⟩ fun b o x => Heap.get?_push_of_some _ (Heap.get?_push_of_some _ x)⟩
def iEnumT (K : PySem.W.Frag) (ta : TA) : TI := fun σ H R => ta σ H fun vs H1 => ∃ a xs, vs = [.ref a] ∧ SqT K H1 a xs ∧ R (IteT K a) H1
section
variable {X : Cx}
theorem pi_enumT {e : Expr} {ta : TA} {p pos tpos : Pos} {elts : List Expr} {kk : Nat} (hg : Gl X "enumerate") (hm : X.mg "enumerate" = none) (ha : PA X [e] ta) (hs : starEach [e] X.env = [(false, eval e X.env)] := by rfl) :
    PI X (.Tuple elts kk tpos) (.Call (.Name "enumerate" p) [e] [] pos) (iEnumT X.K ta) where
  run := fun pins s σ H R I h => by
    refine Call_ (ld_blt I hg hm boot_enumerate (PyProof.Rows.callWith_type1 (thn (ha.run pos pins s σ H _ I h) fun us s1 ⟨vs, H1, I1, r1, a, xs, ev, hq, q⟩ => ?_) hs rfl))
    subst ev
    obtain ⟨u, rfl, ru⟩ := vals1 r1
    cases (show u = Value.ref a from ru)
    obtain ⟨its, rv, pt, _⟩ := I1.tuple hq
    refine call_enumT pt fun h' he hit hk => wpAny_pyIter_enum he ?_
    have la : a < s1.heap.objs.size := by
      obtain ⟨_, q, _⟩ := pt
      exact Heap.lt_size q
    refine ⟨s1.heap.objs.size + 1, [s1.heap.objs.size + 1, s1.heap.objs.size], _, _, H1, rfl, I1.kept (t' := s1.toks) hk, turn_enumT a _ _, ⟨⟨.none, he⟩, hit, Nat.succ_ne_self _, Nat.ne_of_lt la, Nat.ne_of_lt (Nat.lt_succ_of_lt la)⟩, fun b hb => ?_, q⟩
    have hle : s1.heap.objs.size ≤ b := by
      rcases two_mem hb with rfl | rfl
      · exact Nat.le_succ _
      · exact Nat.le_refl _
    exact I1.fpOk hle (I1.hok.fresh hle)
/-! ### dict(a list of pairs whose keys are tuples), no key twice -/
def rDictT (K : PySem.W.Frag) : List V → Hp → VK → Prop := fun xs H Q => ∃ (a : Addr) (ps : List Addr) (ks : List (List Key × Addr × V)), xs = [.ref a] ∧ SqL K H a (ps.map V.ref) ∧
  Paired (fun p (k : List Key × Addr × V) => H p = some (.tup [.ref k.2.1, k.2.2]) ∧ H k.2.1 = some (.tup (k.1.map kV))) ps ks ∧ (ks.map (·.1)).Nodup ∧
  ∀ p, H p = none → Q (.ref p) (upd H p (.dT (ks.map fun k => (k.1, k.2.2))))
theorem pairsT_of {pins : List (Addr × Obj)} {σ : L2.St} {H : Hp} {s : Shared} (I : L2.Inv X pins σ H s) : ∀ {ps : List Addr} {ks : List (List Key × Addr × V)},
    Paired (fun p (k : List Key × Addr × V) => H p = some (.tup [.ref k.2.1, k.2.2]) ∧ H k.2.1 = some (.tup (k.1.map kV))) ps ks →
    ∃ qs : List (List Key × Addr × Value), Paired (fun (k : List Key × Addr × V) (q : List Key × Addr × Value) => k.1 = q.1 ∧ k.2.1 = q.2.1 ∧ RelV k.2.2 q.2.2 ∧ H q.2.1 = some (.tup (q.1.map kV))) ks qs ∧ qs.length = ps.length ∧
      (∀ q ∈ qs, (tupleKind (mixKind X.prog X.w)).is s.heap q.1 q.2.1) ∧ ∀ (j : Nat) (q : List Key × Addr × Value), qs[j]? = some q → ∃ b, ps[j]? = some b ∧ PairAt s.heap b (.ref q.2.1) q.2.2
  | _, _, .nil => ⟨[], .nil, rfl, fun q hq => (nomatch hq), fun j q e => by simp at e⟩
  | _, _, .cons (a := p) (b := k) h t => by
    obtain ⟨qs, r, hl, hk, hp⟩ := pairsT_of I t
    obtain ⟨its, rv, ht, _⟩ := I.tuple (X := X) (Or.inl (Or.inl h.1))
    obtain ⟨u, y, ei, ru, ry⟩ := vals2 rv
    subst ei
    obtain rfl : u = Value.ref k.2.1 := ru
    refine ⟨(k.1, k.2.1, y) :: qs, .cons ⟨rfl, rfl, ry, h.2⟩ r, congrArg Nat.succ hl, fun q hq => ?_, fun j q e => ?_⟩
    · rcases List.mem_cons.mp hq with rfl | hq
      · exact key_of I.hok h.2
      · exact hk q hq
    · cases j with
      | zero =>
        have e' : (k.1, k.2.1, y) = q := Option.some.inj e
        subst e'
        exact ⟨p, rfl, Or.inl ht⟩
      | succ j => exact hp j q e
theorem paired_map {α β γ : Type} {F : α → β → Prop} {G : γ → β → Prop} {f : α → γ} (h : ∀ a b, F a b → G (f a) b) : ∀ {l : List α} {m : List β}, Paired F l m → Paired G (l.map f) m
  | _, _, .nil => .nil
  | _, _, .cons r t => .cons (h _ _ r) (paired_map h t)
theorem call_dictT (hcalm : X.calm = true) (hu : X.A.units + 64 < cLine) : CallR X (.type "dict") (rDictT X.K) := by
  intro pins s σ H xs us Q I r h
  obtain ⟨a, ps, ks, rfl, hl, hp, hn, q⟩ := h
  obtain ⟨u, rfl, ru⟩ := vals1 r
  cases (show u = Value.ref a from ru)
  obtain ⟨its, rv, pl, hz⟩ := I.list hl
  have ei := refs_at rv
  subst ei
  rw [List.length_map] at hz
  obtain ⟨qs, rq, lq, kq, pq⟩ := pairsT_of I hp
  obtain ⟨o, n, ho, hc, hd, hdat⟩ := pl
  have nd : (qs.map (·.1)).Nodup := by
    have e : ∀ {l : List (List Key × Addr × V)} {m : List (List Key × Addr × Value)}, Paired (fun (k : List Key × Addr × V) (q : List Key × Addr × Value) => k.1 = q.1 ∧ k.2.1 = q.2.1 ∧ RelV k.2.2 q.2.2 ∧ H q.2.1 = some (.tup (q.1.map kV))) l m → l.map (·.1) = m.map (·.1) := by
      intro l m z
      induction z with
      | nil => rfl
      | cons r _ ih => rw [List.map_cons, List.map_cons, ih, r.1]
    rw [← e rq]
    exact hn
  have sz : ∀ x ∈ qs, x.2.1 < s.heap.objs.size := fun x hx => by
    obtain ⟨o, vs, n, h1, _⟩ := kq x hx
    exact Heap.lt_size h1
  have P := PairArg.list (prog := X.prog) (w := X.w) a (ps.map Value.ref).toArray (fun j => ps.getD j 0) (qs.map fun q => (.ref q.2.1, q.2.2))
  refine call_dict_pairsH (A := X.A) (knd := tupleKind (mixKind X.prog X.w)) (ps := qs) P (I.ok.hd hcalm) (show X.A.units + 1 + 1 < cLine by omega) ⟨⟨o, n, ho, hc, hd, hdat⟩, by simp [lq], fun j k v e => ?_⟩ ⟨by simp, fun i key v e => ?_⟩ (fun h' hk x hx => ?_) (by rw [List.length_map, lq]; exact hz) fun h' tk hd' hk => ?_
  · rw [List.getElem?_map] at e
    cases ej : qs[j]? with
    | none => rw [ej] at e; cases e
    | some q0 =>
      rw [ej] at e
      cases e
      obtain ⟨b, e1, e2⟩ := pq j q0 ej
      refine ⟨by simp [e1], ?_⟩
      show PairAt s.heap (ps.getD j 0) _ _
      rw [List.getD_eq_getElem?_getD, e1]
      exact e2
  · have e : (qs.map fun q => ((.ref q.2.1, q.2.2) : Value × Value))[i]? = some (key, v) := e
    rw [List.getElem?_map] at e
    cases ej : qs[i]? with
    | none => rw [ej] at e; cases e
    | some q0 =>
      rw [ej] at e
      cases e
      exact ⟨q0.1, q0.2.1, rfl, rfl⟩
  · obtain ⟨o, vs, n, h1, rest⟩ := kq x hx
    exact ⟨o, vs, n, hk _ _ (Nat.ne_of_lt (sz x hx)) (fun z => nomatch z) h1, rest⟩
  · rw [storedAllH_nil_of_nodup qs nd] at hd'
    have hm : (s.heap.objs.size == sysModules) = false := beq_eq_false_iff_ne.mpr (Nat.ne_of_gt I.big)
    have kp : ∀ b o, s.heap.get? b = some o → h'.get? b = some o := fun b o e => hk b o (fun z => nomatch z) e
    obtain ⟨o2, es, ep, g1, g2, g3, g4, _, g5⟩ := hd'
    have nw : H s.heap.objs.size = none := I.hok.fresh (Nat.le_refl _)
    refine ⟨.ref s.heap.objs.size, upd H s.heap.objs.size (.dT (ks.map fun k => (k.1, k.2.2))), I.laid (t' := tk) kp (Nat.le_refl _) ?_, rfl, q _ nw⟩
    refine ⟨?_, hm, qs, paired_map (fun k q0 z => ⟨z.1, ?_, z.2.2.1⟩) rq, o2, es, ep, g1, g2, g3, g4, g5⟩
    · rw [List.length_map, rq.length, lq]
      exact hz
    · have e : H q0.2.1 = some (.tup (q0.1.map kV)) := z.2.2.2
      show upd H s.heap.objs.size _ q0.2.1 = some (.tup (k.1.map kV))
      rw [upd_ne (ne_of_none e nw), z.1]
      exact e
end
end K14
set_option Elab.async false
set_option linter.all false
set_option maxRecDepth 100000
set_option maxHeartbeats 4000000
namespace K14
open PySem PySem.Spec PyProof.Rows L2 Evl

/-! ### what the top has left -/
structure Top (K : PySem.W.Frag) (mg : Str → Option Value) : Prop where
  fns : ∀ (i : Nat) (d : He.DefD), fn[i]? = some d → (∃ fd, FunD K d.name d.qual d.params d.body d.scope (d.dvs K) (d.kws K) (He.fAd K d.at_) fd) ∧ mg d.name = some (.ref (He.fAd K d.at_))
  b_isinstance : mg "isinstance" = none
  b_int : mg "int" = none
  b_bool : mg "bool" = none
  b_str : mg "str" = none
  b_tuple : mg "tuple" = none
  b_len : mg "len" = none
  b_all : mg "all" = none
  b_zip : mg "zip" = none
  b_dict : mg "dict" = none
  b_enumerate : mg "enumerate" = none
  b_range : mg "range" = none
  b_min : mg "min" = none
  b_repr : mg "repr" = none
  b_list : mg "list" = none
  g_LETTERS : ∃ t, mg "LETTERS" = some (.str "abcdefghijklmnopqrstuvwxyz" t)
  g_MOST_LETTERS : ∃ t, mg "MOST_LETTERS" = some (.int 8 t)
structure Cal (P : Program) (w : World) (K : PySem.W.Frag) (mg : Str → Option Value) (base : Heap) (k : Nat) (x : Str) (ps : List Str) (sp : Sp) (f : Addr) (fd : FuncData) : Prop where
  ok : FnOk P w K mg base CX0 k f fd ps sp
  mg : mg x = some (.ref f)
  kp : PySem.W.keepIn K (.ref f) = true
  bd : Binds K fd ps []
structure CalG (P : Program) (w : World) (K : PySem.W.Frag) (mg : Str → Option Value) (base : Heap) (k : Nat) (x : Str) (ps : List Str) (sp : Sp) (f : Addr) (fd : FuncData) : Prop where
  ok : FnG P w K mg base k f fd ps sp
  mg : mg x = some (.ref f)
  kp : PySem.W.keepIn K (.ref f) = true
  bd : Binds K fd ps []
section
variable {P : Program} {w : World} {K : PySem.W.Frag} {mg : Str → Option Value} {base : Heap}
theorem cal_mk {x : Str} {st : Stmt} {N ps : List Str} {sp : Sp} {k i : Nat} (T : Top K mg) (hi : fn[i]? = some ⟨(x, none), x, x, defArgs st, defBody st, defScope st, [], []⟩) (S : FnScope N ps (defScope st))
    (bd : ∀ (kV doc pm : Value) (an : Option Addr) (cdv ct : Value) (us : List Value), us.length = ps.length → bindArgs (PySem.W.fnOf x x (defArgs st) (defBody st) (defScope st) .none kV doc pm an cdv ct) ⟨us, []⟩ = pure (ps.zip us))
    (len : ∀ vs H Q E, sp vs H Q E → vs.length = ps.length)
    (hb : ∀ {f : Addr} {cdv : Value} {A : Around} {outer : List Env} {s : Shared} {H : Hp} {vs : List V} {Q : VK} {E : XK}, Room k (A.deeper (envOfC x (defScope st) s.heap.objs.size f cdv)) → sp vs H Q E →
      ∃ t, PSs (cxOf CX0 P w K mg base N x (defScope st) f cdv A outer s H E).nox (defBody st) t ∧ t { nx := fun _ H' => Q .non H', rt := Q } (start N vs) H) : ∃ f fd, Cal P w K mg base (k + 1) x ps sp f fd := by
  obtain ⟨⟨fd, F⟩, m⟩ := T.fns i _ hi
  refine ⟨_, fd, FunD.ok F S len fun cdv A outer s H vs Q E hr h => ?_, m, F.kp, FunD.bindsN F bd⟩
  obtain ⟨t, h1, h2⟩ := hb hr h
  exact ⟨t, PSs.nox h1, h2⟩
theorem calG_mk {x : Str} {st : Stmt} {N ps : List Str} {sp : Sp} {k i : Nat} (T : Top K mg) (hi : fn[i]? = some ⟨(x, none), x, x, defArgs st, defBody st, defScope st, [], []⟩) (S : FnScope N ps (defScope st))
    (bd : ∀ (kV doc pm : Value) (an : Option Addr) (cdv ct : Value) (us : List Value), us.length = ps.length → bindArgs (PySem.W.fnOf x x (defArgs st) (defBody st) (defScope st) .none kV doc pm an cdv ct) ⟨us, []⟩ = pure (ps.zip us))
    (len : ∀ vs H Q E, sp vs H Q E → vs.length = ps.length)
    (hb : ∀ {f : Addr} {cdv : Value} {A : Around} {outer : List Env} {s : Shared} {H : Hp} {vs : List V} {Q : VK} {E : XK}, A.guards = some [] → Room k (A.deeper (envOfC x (defScope st) s.heap.objs.size f cdv)) → sp vs H Q E →
      ∃ t, PSs (cxOf CX0 P w K mg base N x (defScope st) f cdv A outer s H E).nox (defBody st) t ∧ t { nx := fun _ H' => Q .non H', rt := Q } (start N vs) H) : ∃ f fd, CalG P w K mg base (k + 1) x ps sp f fd := by
  obtain ⟨⟨fd, F⟩, m⟩ := T.fns i _ hi
  refine ⟨_, fd, fnG_of F S len fun gd hr h => ?_, m, F.kp, FunD.bindsN F bd⟩
  obtain ⟨t, h1, h2⟩ := hb gd hr h
  exact ⟨t, PSs.nox h1, h2⟩
end

/-! ### what evaluates to something of a kind -/
def EvR (te : TE) (σ : L2.St) (H : Hp) (R : V → Hp → Prop) : Prop := ∀ H1, Ex H H1 → ∀ Q : VK, (∀ v H2, Ex H1 H2 → R v H2 → Q v H2) → te σ H1 Q
def RetR (R : V → Hp → Prop) (H : Hp) (Q : VK) : Prop := ∀ v H2, Ex H H2 → R v H2 → Q v H2
def SpR (sp : Sp) (vs : List V) (H : Hp) (R : V → Hp → Prop) : Prop := ∀ H1, Ex H H1 → ∀ Q : VK, RetR R H1 Q → ∀ E : XK, sp vs H1 Q E
section
variable {K : PySem.W.Frag} {σ : L2.St} {H H' : Hp} {ta tb te tx : TE} {t u : TT} {x y z v : V} {r : R2} {R : V → Hp → Prop} {D : Ends} {tz : TS}
theorem er_of (h : Ev te σ H v) : EvR te σ H fun x _ => x = v := fun H1 e Q q => h H1 e Q fun H2 e2 => q v H2 e2 rfl
theorem er_imp {R' : V → Hp → Prop} (h : EvR te σ H R) (k : ∀ v H2, Ex H H2 → R v H2 → R' v H2) : EvR te σ H R' := fun H1 e Q q => h H1 e Q fun v H2 e2 hr => q v H2 e2 (k v H2 (e.trans e2) hr)
theorem EvR.mono (e : Ex H H') (h : EvR te σ H R) : EvR te σ H' R := fun H1 a Q q => h H1 (e.trans a) Q q
theorem er_call {sp : Sp} {vs : List V} {E : XK} {ta : TA} (h : EvA ta σ H vs) (hs : SpR sp vs H R) : EvR (tCall sp [] E ta) σ H R := fun H1 e Q q =>
  h H1 e _ fun H2 e2 => by
    have g := hs H2 (e.trans e2) Q (fun v H3 e3 hr => q v H3 (e2.trans e3) hr) E
    show sp (vs ++ []) H2 Q E
    rw [List.append_nil]
    exact g
theorem ev_callV {sp : Sp} {vs : List V} {E : XK} {ta : TA} (h : EvA ta σ H vs) (hs : ∀ H1, Ex H H1 → ∀ Q : VK, RetV z H1 Q → ∀ E : XK, sp vs H1 Q E) : Ev (tCall sp [] E ta) σ H z := fun H1 e Q q =>
  h H1 e _ fun H2 e2 => by
    have g := hs H2 (e.trans e2) Q (fun H3 e3 => q H3 (e2.trans e3)) E
    show sp (vs ++ []) H2 Q E
    rw [List.append_nil]
    exact g
theorem s_asgR {i : Nat} (h : EvR te σ H R) (k : ∀ v H1, Ex H H1 → R v H1 → D.nx (σ.set i (some v)) H1) : tAsg te (gName i) D σ H := h H (Ex.refl H) _ fun v H1 e hr => k v H1 e hr
theorem q_asgR {i : Nat} (h : EvR te σ H R) (k : ∀ v H1, Ex H H1 → R v H1 → tz D (σ.set i (some v)) H1) : tSeq (tAsg te (gName i)) tz D σ H := h H (Ex.refl H) _ fun v H1 e hr => k v H1 e hr
theorem s_retR (h : EvR te σ H R) (k : ∀ v H1, Ex H H1 → R v H1 → D.rt v H1) : tRet te D σ H := h H (Ex.refl H) _ fun v H1 e hr => k v H1 e hr
theorem s_dropR (h : EvR te σ H R) (k : ∀ v H1, Ex H H1 → R v H1 → D.nx σ H1) : tDrop te D σ H := h H (Ex.refl H) _ fun v H1 e hr => k v H1 e hr
/-- isinstance(x, a built-in class) -/
theorem ev_isi {s n : String} {b : Bool} (h : Ev ta σ H x) (ty : ∀ H1, Ex H H1 → TyX K H1 x (.type s)) (k : kitB s n = some b) : Ev (tCB (rIsi K) (tCons ta (tCons (tC (.ty n)) tNil))) σ H (.bl b) := fun H1 e Q q =>
  h H1 e _ fun H2 e2 => ⟨x, .ty n, .type s, .type n, b, rfl, .ty n, ty H2 (e.trans e2), kit_ty k, q H2 e2⟩
theorem ty_tup {a : Addr} {xs : List V} (h : H a = some (.tup xs)) : ∀ H1, Ex H H1 → TyX K H1 (.ref a) (.type "tuple") := fun H1 e => .base (.tup (e a _ h))
theorem ty_int {i : Int} : ∀ H1, Ex H H1 → TyX K H1 (.int i) (.type "int") := fun _ _ => .base (.int i)
theorem ty_str {s : Str} : ∀ H1, Ex H H1 → TyX K H1 (.str s) (.type "str") := fun _ _ => .base (.str s)
theorem ev_lenT {p : Addr} {xs : List V} (ha : Ev ta σ H (.ref p)) (h : SqT K H p xs) : Ev (tCB (rLenS K) (tCons ta tNil)) σ H (.int (xs.length : Int)) := fun H1 e Q q =>
  ha H1 e _ fun H2 e2 => ⟨p, xs, rfl, Or.inr (ex_t (e.trans e2) h), q H2 e2⟩
theorem given_len1 {n : Nat} {f : Nat → Bool} {g : Nat → V} (hf : ∀ i, f i = true) : given n f g = (List.range n).map g := by
  unfold given
  rw [List.filter_eq_self.mpr fun i _ => hf i]
theorem ev_allT {tl : TE} {n : Nat} (h : EvL tl σ H (given n (fun _ => true) fun _ => .bl true)) : Ev (tCB (rAll K) (tCons tl tNil)) σ H (.bl true) := fun H1 e Q q =>
  h H1 e _ fun p H2 _ e2 hp => ⟨p, List.replicate n true, rfl, by
    rw [given_len1 fun _ => rfl] at hp
    refine Or.inl (Or.inl (hp.trans ?_))
    congr 2
    rw [List.map_const', List.length_range, List.map_replicate], by
    have e1 : (List.replicate n true).all id = true := List.all_eq_true.mpr fun x hx => by rw [(List.mem_replicate.mp hx).2]; rfl
    rw [e1]
    exact q H2 e2⟩
/-- a comprehension over a tuple, into values -/
theorem el_lcT {a : Addr} {xs : List V} {tl : TE} {j : Nat} {vs : List Nat} (f : Nat → Bool) (g : Nat → V) (h : Ev tl σ H (.ref a)) (hx : SqT K H a xs) (hz : xs.length ≤ 40000) (hw : ∀ x, wipe ((wipe σ vs).set j (some x)) vs = wipe σ vs)
    (ht : ∀ (i : Nat) (x : V) H1, Ex H H1 → xs[i]? = some x → EvT t ((wipe σ vs).set j (some x)) H1 (f i)) (he : ∀ (i : Nat) (x : V) H1, Ex H H1 → xs[i]? = some x → f i = true → Ev te ((wipe σ vs).set j (some x)) H1 (g i)) :
    EvL (tLc (iTup K tl) (gName j) t te vs) σ H (given xs.length f g) := fun H0 e Q q => h H0 e _ fun H1 e1 => ⟨a, rfl, ⟨xs, ex_t (e.trans e1) hx⟩, fun Dl hD =>
  lc_tup (xs := xs) (Cw H1 f g Dl) ⟨hD, Ex.new hD, upd_same⟩ (fun i H' _ p => ex_t ((e.trans e1).trans p.2.1) hx) (fun i x H' hi p => ⟨hw x, cw_turn p (by have := (List.getElem?_eq_some_iff.mp hi).1; omega) (ht i x H1 (e.trans e1) hi) (fun hf => he i x H1 (e.trans e1) hi hf)⟩)
    (fun H' p => q Dl H' (fresh_back e1 p.1) (e1.trans p.2.1) p.2.2)⟩
theorem et_yes : EvT tYes σ H true := fun H1 _ _ q => q H1 (Ex.refl H1)
end
/-! ### tuples stay -/
def Tx (H H' : Hp) : Prop := ∀ a xs, H a = some (.tup xs) → H' a = some (.tup xs)
theorem Tx.refl (H : Hp) : Tx H H := fun _ _ h => h
theorem Tx.trans {H H1 H2 : Hp} (a : Tx H H1) (b : Tx H1 H2) : Tx H H2 := fun x o h => b x o (a x o h)
theorem Tx.of {H H' : Hp} (e : Ex H H') : Tx H H' := fun a xs h => e a _ h
theorem Tx.upd {H : Hp} {p : Addr} {o : HO} (h : ∀ xs, H p ≠ some (.tup xs)) : Tx H (upd H p o) := fun a xs e => by
  have n : a ≠ p := fun z => h xs (by rw [← z]; exact e)
  rw [upd_ne n]
  exact e
theorem Tx.lst {H : Hp} {p : Addr} {ys : List V} {o : HO} (h : H p = some (.lst ys)) : Tx H (L2.upd H p o) := Tx.upd fun xs e => by rw [h] at e; cases e
theorem Tx.dK {H : Hp} {p : Addr} {ys : List (Key × V)} {o : HO} (h : H p = some (.dK ys)) : Tx H (L2.upd H p o) := Tx.upd fun xs e => by rw [h] at e; cases e
theorem Tx.dT {H : Hp} {p : Addr} {ys : List (List Key × V)} {o : HO} (h : H p = some (.dT ys)) : Tx H (L2.upd H p o) := Tx.upd fun xs e => by rw [h] at e; cases e
theorem Tx.new {H : Hp} {p : Addr} {o : HO} (h : H p = none) : Tx H (L2.upd H p o) := Tx.of (Ex.new h)
section
variable {K : PySem.W.Frag} {σ : L2.St} {H H' : Hp} {ta tb te tx : TE} {t u tt : TT} {x y z v : V} {D : Ends}
theorem paired_snoc {α β : Type} {F : α → β → Prop} : ∀ {l : List α} {m : List β} {a : α} {b : β}, Paired F l m → F a b → Paired F (l ++ [a]) (m ++ [b])
  | _, _, _, _, .nil, h => .cons h .nil
  | _, _, _, _, .cons r t, h => .cons r (paired_snoc t h)
theorem paired_len {α β : Type} {F : α → β → Prop} {l : List α} {m : List β} (h : Paired F l m) : l.length = m.length := Paired.length h
theorem paired_imp {α β : Type} {F G : α → β → Prop} (h : ∀ a b, F a b → G a b) {l : List α} {m : List β} (p : Paired F l m) : Paired G l m := Paired.mapP p h
/-- a comprehension of any walk: each turn that is kept gives something of a kind -/
theorem lc_rel {J : It} {n : Nat} {G : Hp → Prop} {Y : Nat → Hp → V → Hp → Prop} {g : TG} {vs : List Nat} {H1 : Hp} {Dl : Addr} {f : Nat → Bool} {R : Nat → V → Hp → Prop} {Qd : Hp → Prop} (wk : Walk J n G Y) (hD : H1 Dl = none) (hn : n < 50000)
    (hG : ∀ H2, Ex H1 H2 → G H2) (hY : ∀ i H2 x H3, Y i H2 x H3 → Ex H2 H3) (hR : ∀ j y H2 H3, Tx H2 H3 → R j y H2 → R j y H3)
    (ht : ∀ i H2 x H3, i < n → Ex H1 H2 → Y i H2 x H3 → ∀ k : L2.St → Hp → Prop, (∀ σ2, wipe σ2 vs = wipe σ vs → EvT tt σ2 H3 (f i) → (f i = true → EvR te σ2 H3 (R i)) → k σ2 H3) → g x (wipe σ vs) H3 k)
    (hd : ∀ ys H2, Ex H1 H2 → H2 Dl = some (.lst ys) → Paired (fun y i => R i y H2) ys ((List.range n).filter f) → Qd H2) :
    ∃ W : Nat → Nat → Hp → Prop, (∃ m, W 0 m (upd H1 Dl (.lst []))) ∧ ∀ i m H, W i m H →
      (J.stop i H ∧ Qd H) ∨ (J.go i H ∧ ∃ Nx : Hp → Prop, (∀ H', Nx H' → ∃ m', m' < m ∧ W (i + 1) m' H') ∧ ∀ x H', J.yld i H x H' → g x (wipe σ vs) H' fun σ2 H2 => wipe σ2 vs = wipe σ vs ∧ tt σ2 H2 fun b H3 =>
        if b = true then te σ2 H3 fun y H4 => ∃ acc, H4 Dl = some (.lst acc) ∧ acc.length < sizeLine ∧ Nx (upd H4 Dl (.lst (acc ++ [y]))) else Nx H3) :=
  lc_it wk (fun i H2 => Ex H1 H2 ∧ ∃ ys, H2 Dl = some (.lst ys) ∧ Paired (fun y i => R i y H2) ys ((List.range i).filter f)) ⟨Ex.new hD, [], upd_same, .nil⟩ (fun i H2 _ p => hG H2 p.1)
    (fun i x H2 H3 hi ⟨e1, ys, h1, h2⟩ y => by
      refine ht i H2 x H3 hi e1 y _ fun σ2 w1 w2 w3 => ⟨w1, ?_⟩
      have e3 := hY i H2 x H3 y
      have ly : ys.length ≤ i := by
        rw [paired_len h2]
        exact Nat.le_trans (List.length_filter_le ..) (by rw [List.length_range]; exact Nat.le_refl _)
      refine w2 H3 (Ex.refl H3) _ fun H4 e4 => ?_
      cases hf : f i with
      | true =>
        show te σ2 H4 _
        refine w3 hf H4 e4 _ fun v H5 e5 hr => ?_
        have e6 := (e3.trans e4).trans e5
        have h5 : H5 Dl = some (.lst ys) := e6 _ _ h1
        refine ⟨ys, h5, sz_lt (by omega), Ex.mut (e1.trans e6) hD, ys ++ [v], upd_same, ?_⟩
        rw [List.range_succ, List.filter_append, List.filter_cons, if_pos hf]
        refine paired_snoc (paired_imp (fun y j q => hR _ _ _ _ ((Tx.of e6).trans (Tx.lst h5)) q) h2) (hR _ _ _ _ (Tx.lst h5) hr)
      | false =>
        show _ ∧ _
        refine ⟨(e1.trans e3).trans e4, ys, e4 _ _ (e3 _ _ h1), ?_⟩
        rw [List.range_succ, List.filter_append, List.filter_cons, if_neg (by rw [hf]; exact Bool.false_ne_true)]
        show Paired _ ys (_ ++ [])
        rw [List.append_nil]
        exact paired_imp (fun y j q => hR _ _ _ _ (Tx.of (e3.trans e4)) q) h2)
    (fun H2 ⟨e1, ys, h1, h2⟩ => hd ys H2 e1 h1 h2)
theorem filter_tt (n : Nat) : (List.range n).filter (fun _ => true) = List.range n := List.filter_eq_self.mpr fun _ _ => rfl
theorem paired_get {α β : Type} {F : α → β → Prop} : ∀ {l : List α} {m : List β} {i : Nat} {a : α} {b : β}, Paired F l m → l[i]? = some a → m[i]? = some b → F a b
  | _, _, _, _, _, .nil, h, _ => by simp at h
  | _, _, 0, _, _, .cons r _, h1, h2 => by
    cases h1
    cases h2
    exact r
  | _, _, i + 1, _, _, .cons _ t, h1, h2 => paired_get (i := i) t h1 h2
end
end K14
set_option Elab.async false
set_option linter.all false
set_option maxRecDepth 100000
set_option maxHeartbeats 4000000
namespace K14
open PySem PySem.Spec PyProof.Rows L2 Evl
/-- a promise: what the arguments are, what is asked, what is given -/
def spOf {δ : Type} (args : δ → List V) (pre : δ → Hp → Prop) (post : δ → Hp → VK → Prop) : Sp := fun vs H Q _ => ∃ d, vs = args d ∧ pre d H ∧ post d H Q

/-! ### data in the heap -/
abbrev Q4 := Str × Str × Int × Int
def IsT4 (H : Hp) (a : Addr) (q : Q4) : Prop := H a = some (.tup [.str q.1, .str q.2.1, .int q.2.2.1, .int q.2.2.2])
def IsTs (H : Hp) (a : Addr) (xs : List Str) : Prop := H a = some (.tup (xs.map V.str))
def TupOf {α : Type} (R : Hp → Addr → α → Prop) (H : Hp) (a : Addr) (xs : List α) : Prop := ∃ as : List Addr, H a = some (.tup (as.map V.ref)) ∧ Paired (R H) as xs
def LstOf {α : Type} (R : Hp → Addr → α → Prop) (H : Hp) (a : Addr) (xs : List α) : Prop := ∃ as : List Addr, H a = some (.lst (as.map V.ref)) ∧ Paired (R H) as xs
structure Twn where
  names : List Str
  wires : List Q4
def IsTown (H : Hp) (a : Addr) (T : Twn) : Prop := ∃ x y, H a = some (.tup [.ref x, .ref y]) ∧ IsTs H x T.names ∧ TupOf IsT4 H y T.wires
section
variable {H H' : Hp} {a : Addr}
theorem IsT4.tx {q : Q4} (e : Tx H H') (h : IsT4 H a q) : IsT4 H' a q := e _ _ h
theorem IsTs.tx {xs : List Str} (e : Tx H H') (h : IsTs H a xs) : IsTs H' a xs := e _ _ h
theorem TupOf.tx {α : Type} {R : Hp → Addr → α → Prop} {xs : List α} (hR : ∀ b x, R H b x → R H' b x) (e : Tx H H') (h : TupOf R H a xs) : TupOf R H' a xs := let ⟨as, h1, h2⟩ := h; ⟨as, e _ _ h1, paired_imp hR h2⟩
theorem LstOf.ex {α : Type} {R : Hp → Addr → α → Prop} {xs : List α} (hR : ∀ b x, R H b x → R H' b x) (e : Ex H H') (h : LstOf R H a xs) : LstOf R H' a xs := let ⟨as, h1, h2⟩ := h; ⟨as, e _ _ h1, paired_imp hR h2⟩
theorem IsTown.tx {T : Twn} (e : Tx H H') (h : IsTown H a T) : IsTown H' a T := let ⟨x, y, h1, h2, h3⟩ := h; ⟨x, y, e _ _ h1, h2.tx e, h3.tx (fun _ _ q => IsT4.tx e q) e⟩
theorem T4s.tx {xs : List Q4} (e : Tx H H') (h : TupOf IsT4 H a xs) : TupOf IsT4 H' a xs := h.tx (fun _ _ q => IsT4.tx e q) e
end
/-! ### names -/
def lt (a b : Str) : Prop := a.cps.toList < b.cps.toList
instance : DecidableRel lt := fun a b => inferInstanceAs (Decidable (a.cps.toList < b.cps.toList))
theorem ord_lt : NH.Ord lt where
  irr := fun a h => List.lt_irrefl _ h
  tr := fun a b c h1 h2 => List.lt_trans h1 h2
  tot := fun a b hne => by
    rcases Classical.em (a.cps.toList < b.cps.toList) with h | h
    · exact Or.inl h
    · rcases Classical.em (b.cps.toList < a.cps.toList) with h2 | h2
      · exact Or.inr h2
      · exact (hne (Str.ext' (Array.toList_inj.mp (List.le_antisymm (List.not_lt.mp h2) (List.not_lt.mp h))))).elim
def letters : Str := "abcdefghijklmnopqrstuvwxyz"
def goodName (s : Str) : Bool := decide (1 ≤ s.length) && decide (s.length ≤ 8) && s.cps.toList.all fun c => decide (c ∈ letters.cps.toList)
structure GoodNames (xs : List Str) : Prop where
  nm : ∀ x ∈ xs, goodName x = true
  asc : xs.Pairwise lt
  len : xs.length ≤ 5
/-- the bounds of the wire of two towers -/
def bnd (ws : List Q4) (a b : Str) : Option (Int × Int) := (ws.find? fun w => decide ((w.1 = a ∧ w.2.1 = b) ∨ (w.2.1 = a ∧ w.1 = b))).map fun w => (w.2.2.1, w.2.2.2)
structure GoodTown (T : Twn) : Prop where
  nms : GoodNames T.names
  ne : T.names ≠ []
  ends : ∀ w ∈ T.wires, w.1 ∈ T.names ∧ w.2.1 ∈ T.names ∧ lt w.1 w.2.1 ∧ w.2.2.1 ≤ w.2.2.2 ∧ w.2.2.2 ≤ w.2.2.1 + 3
  asc : T.wires.Pairwise fun v w => lt v.1 w.1 ∨ (v.1 = w.1 ∧ lt v.2.1 w.2.1)
  len : T.wires.length ≤ 10
def GoodRun (T : Twn) (run : List Q4) : Prop := (∀ l ∈ run, ∃ p, bnd T.wires l.1 l.2.1 = some p) ∧ run.length ≤ 20
def GoodLot (T : Twn) (lot : List Str) : Prop := lot.Sublist T.names
/-- the ties of a run without a lot -/
def tiesAt (T : Twn) (lot : List Str) (k : Nat) (l : Q4) : List (NH.Tie Str) :=
  if l.1 ∉ lot ∧ l.2.1 ∉ lot then
    let p := (bnd T.wires l.1 l.2.1).getD (0, 0)
    [⟨l.1, l.2.1, l.2.2.2 - l.2.2.1 - p.1, k⟩, ⟨l.2.1, l.1, p.2 - l.2.2.2 + l.2.2.1, k⟩]
  else []
def tiesFrom (T : Twn) (lot : List Str) : Nat → List Q4 → List (NH.Tie Str)
  | _, [] => []
  | k, l :: r => tiesAt T lot k l ++ tiesFrom T lot (k + 1) r
def tiesOf (T : Twn) (run : List Q4) (lot : List Str) : List (NH.Tie Str) := tiesFrom T lot 0 run
def IsTie (H : Hp) (a : Addr) (t : NH.Tie Str) : Prop := H a = some (.tup [.str t.one, .str t.other, .int t.most, .int t.idx])
theorem IsTie.tx {H H' : Hp} {a : Addr} {t : NH.Tie Str} (e : Tx H H') (h : IsTie H a t) : IsTie H' a t := e _ _ h
/-! ### laws of these -/
theorem lt_ne {a b : Str} (h : lt a b) : a ≠ b := fun e => ord_lt.irr b (e ▸ h)
theorem bnd_mem {ws : List Q4} {a b : Str} {p : Int × Int} (h : bnd ws a b = some p) : ∃ w ∈ ws, ((w.1 = a ∧ w.2.1 = b) ∨ (w.2.1 = a ∧ w.1 = b)) ∧ p = (w.2.2.1, w.2.2.2) := by
  unfold bnd at h
  cases e : ws.find? fun w => decide ((w.1 = a ∧ w.2.1 = b) ∨ (w.2.1 = a ∧ w.1 = b)) with
  | none =>
    rw [e] at h
    cases h
  | some w =>
    rw [e] at h
    exact ⟨w, List.mem_of_find?_eq_some e, of_decide_eq_true (List.find?_some (p := fun w : Q4 => decide ((w.1 = a ∧ w.2.1 = b) ∨ (w.2.1 = a ∧ w.1 = b))) e), (Option.some.inj h).symm⟩
theorem bnd_comm {ws : List Q4} {a b : Str} : bnd ws a b = bnd ws b a := by
  unfold bnd
  congr 1
  congr 1
  funext w
  congr 1
  apply propext
  constructor
  · rintro (⟨h1, h2⟩ | ⟨h1, h2⟩)
    · exact Or.inr ⟨h2, h1⟩
    · exact Or.inl ⟨h2, h1⟩
  · rintro (⟨h1, h2⟩ | ⟨h1, h2⟩)
    · exact Or.inr ⟨h2, h1⟩
    · exact Or.inl ⟨h2, h1⟩
section
variable {T : Twn} (G : GoodTown T)
include G
theorem bnd_ends {a b : Str} {p : Int × Int} (h : bnd T.wires a b = some p) : a ∈ T.names ∧ b ∈ T.names ∧ a ≠ b ∧ p.1 ≤ p.2 := by
  obtain ⟨w, hw, h1, rfl⟩ := bnd_mem h
  obtain ⟨e1, e2, e3, e4, _⟩ := G.ends w hw
  rcases h1 with ⟨rfl, rfl⟩ | ⟨rfl, rfl⟩
  · exact ⟨e1, e2, lt_ne e3, e4⟩
  · exact ⟨e2, e1, (lt_ne e3).symm, e4⟩
end
theorem GoodLot.names {T : Twn} {lot : List Str} (G : GoodTown T) (h : GoodLot T lot) : GoodNames lot where
  nm := fun x hx => G.nms.nm x (h.subset hx)
  asc := G.nms.asc.sublist h
  len := Nat.le_trans h.length_le G.nms.len
end K14
set_option Elab.async false
set_option linter.all false
set_option maxRecDepth 100000
set_option maxHeartbeats 4000000
namespace K14
open PySem PySem.Spec PyProof.Rows L2 Evl
def gTrue {δ : Type} : δ → Hp → VK → Prop := fun _ H Q => RetV (.bl true) H Q
def gNone {δ : Type} : δ → Hp → VK → Prop := fun _ H Q => RetV .non H Q
def sp_is_integer : Sp := spOf (fun i : Int => [.int i]) (fun _ _ => True) gTrue
def sp_is_tuple_of : Sp := spOf (fun d : Addr × List V × Int => [.ref d.1, .int d.2.2]) (fun d H => H d.1 = some (.tup d.2.1) ∧ (d.2.1.length : Int) = d.2.2) gTrue
def sp_are_integers : Sp := spOf (fun d : Addr × Int × Int => [.ref d.1, .int 2]) (fun d H => H d.1 = some (.tup [.int d.2.1, .int d.2.2])) gTrue
def sp_are_ascending : Sp := spOf (fun d : Addr × List Str => [.ref d.1]) (fun d H => IsTs H d.1 d.2 ∧ d.2.Pairwise lt ∧ d.2.length ≤ 5) gTrue
def sp_is_name : Sp := spOf (fun s : Str => [.str s]) (fun s _ => goodName s = true) gTrue
def sp_are_names : Sp := spOf (fun d : Addr × List Str => [.ref d.1]) (fun d H => IsTs H d.1 d.2 ∧ GoodNames d.2) gTrue
def sp_is_towers : Sp := spOf (fun d : Addr × List Str => [.ref d.1]) (fun d H => IsTs H d.1 d.2 ∧ GoodNames d.2 ∧ d.2 ≠ []) gTrue
def sp_is_tower_of : Sp := spOf (fun d : Addr × Twn × Str => [.ref d.1, .str d.2.2]) (fun d H => IsTown H d.1 d.2.1 ∧ d.2.2 ∈ d.2.1.names) gTrue
def IsBnds (H : Hp) (v : V) (T : Twn) : Prop := ∃ p kvs, v = .ref p ∧ H p = some (.dT kvs) ∧ ∀ a b lo hi, bnd T.wires a b = some (lo, hi) → ∃ t, valV kvs [.inr a, .inr b] = some (.ref t) ∧ H t = some (.tup [.int lo, .int hi])
theorem IsBnds.ex {H H' : Hp} {v : V} {T : Twn} (e : Ex H H') (h : IsBnds H v T) : IsBnds H' v T :=
  let ⟨p, kvs, h1, h2, h3⟩ := h; ⟨p, kvs, h1, e _ _ h2, fun a b lo hi z => let ⟨t, h4, h5⟩ := h3 a b lo hi z; ⟨t, h4, e _ _ h5⟩⟩
def sp_widths_by : Sp := spOf (fun d : Addr × Twn => [.ref d.1]) (fun d H => IsTown H d.1 d.2 ∧ GoodTown d.2) fun d H Q => RetR (fun v H2 => IsBnds H2 v d.2) H Q
def sp_is_outside : Sp := spOf (fun d : (Addr × Addr) × List Str × Q4 => [.ref d.1.1, .ref d.1.2]) (fun d H => IsTs H d.1.1 d.2.1 ∧ IsT4 H d.1.2 d.2.2) fun d H Q => RetV (.bl (decide (d.2.2.1 ∉ d.2.1 ∧ d.2.2.2.1 ∉ d.2.1))) H Q
/-- a town, a run, a lot -/
abbrev GD := (Addr × Addr × Addr) × Twn × List Q4 × List Str
abbrev GD.args (d : GD) : List V := [.ref d.1.1, .ref d.1.2.1, .ref d.1.2.2]
structure GD.Ok (d : GD) (H : Hp) : Prop where
  town : IsTown H d.1.1 d.2.1
  run : TupOf IsT4 H d.1.2.1 d.2.2.1
  lot : IsTs H d.1.2.2 d.2.2.2
  gt : GoodTown d.2.1
  gr : GoodRun d.2.1 d.2.2.1
theorem GD.Ok.tx {d : GD} {H H' : Hp} (e : Tx H H') (h : d.Ok H) : d.Ok H' := ⟨h.town.tx e, T4s.tx e h.run, h.lot.tx e, h.gt, h.gr⟩
abbrev GD.ties (d : GD) : List (NH.Tie Str) := tiesOf d.2.1 d.2.2.1 d.2.2.2
def RTies (d : GD) : V → Hp → Prop := fun v H2 => ∃ p, v = .ref p ∧ LstOf IsTie H2 p d.ties
def sp_ties_by : Sp := spOf GD.args GD.Ok fun d H Q => RetR (RTies d) H Q
def outs (T : Twn) (lot : List Str) : List Str := T.names.filter fun x => decide (x ∉ lot)
def sp_outside_by : Sp := spOf (fun d : (Addr × Addr) × Twn × List Str => [.ref d.1.1, .ref d.1.2]) (fun d H => IsTown H d.1.1 d.2.1 ∧ IsTs H d.1.2 d.2.2 ∧ d.2.1.names.length ≤ 5) fun d H Q => RetR (fun v H2 => ∃ p, v = .ref p ∧ IsTs H2 p (outs d.2.1 d.2.2)) H Q
def lpairs (vs : List Str) (L : Str → Int) : List (Key × V) := vs.map fun x => (Sum.inr x, V.int (L x))
def IsP (H : Hp) (b : Addr) (vs : List Str) (P : Str → Option (Str × Nat)) : Prop := ∃ kvs : List (Key × V), H b = some (.dK kvs) ∧ (kvs.map (·.1)).Nodup ∧ (∀ k ∈ kvs.map (·.1), ∃ x ∈ vs, k = .inr x) ∧
  ∀ x u i, P x = some (u, i) → ∃ t, valV kvs (.inr x) = some (.ref t) ∧ H t = some (.tup [.str u, .int (i : Nat)])
abbrev SD := (Addr × Addr) × List (NH.Tie Str) × List Str × Nat
structure SD.Ok (d : SD) (H : Hp) : Prop where
  ties : LstOf IsTie H d.1.1 d.2.1
  sums : H d.1.2 = some (.dK (lpairs d.2.2.1 fun _ => 0))
  nd : d.2.2.1.Nodup
  ends : ∀ t ∈ d.2.1, t.one ∈ d.2.2.1 ∧ t.other ∈ d.2.2.1
  few : d.2.2.1.length ≤ 5
  laps : d.2.2.2 ≤ 10
def RSettled (d : SD) : V → Hp → Prop := fun v H2 => ∃ p a b z j, v = .ref p ∧ H2 p = some (.tup [.ref a, .ref b, z]) ∧ H2 a = some (.dK (lpairs d.2.2.1 (NH.laps d.2.1 j).L)) ∧ IsP H2 b d.2.2.1 (NH.laps d.2.1 j).P ∧ 1 ≤ j ∧
  (((NH.laps d.2.1 j).here = none ∧ z = .non) ∨ ∃ h, (NH.laps d.2.1 j).here = some h ∧ z = .str h ∧ j = d.2.2.2 + 1)
def sp_settled_by : Sp := spOf (fun d : SD => [.ref d.1.1, .ref d.1.2, .int ((d.2.2.2 : Int) + 1)]) SD.Ok fun d H Q => RetR (RSettled d) H Q
def sp_all_noughts : Sp := spOf (fun d : Addr × List Str => [.ref d.1]) (fun d H => IsTs H d.1 d.2 ∧ d.2.Nodup ∧ d.2.length ≤ 5) fun d H Q => RetR (fun v H2 => ∃ p, v = .ref p ∧ H2 p = some (.dK (lpairs d.2 fun _ => 0))) H Q
def IsStep (H : Hp) (a : Addr) (s : Nat × Str) : Prop := H a = some (.tup [.int (s.1 : Nat), .str s.2])
theorem IsStep.tx {H H' : Hp} {a : Addr} {s : Nat × Str} (e : Tx H H') (h : IsStep H a s) : IsStep H' a s := e _ _ h
structure RD where
  b : Addr
  vs : List Str
  P : Str → Option (Str × Nat)
  h : Str
  m : Nat
  d : Nat
abbrev RD.a (r : RD) : Str := NH.it (NH.prev r.P) r.m r.h
def RD.f (r : RD) (j : Nat) : Nat × Str := (NH.ixOf r.P (NH.it (NH.prev r.P) j r.a), NH.it (NH.prev r.P) j r.a)
structure RD.Ok (r : RD) (H : Hp) : Prop where
  isP : IsP H r.b r.vs r.P
  back : ∀ k, ∃ q, r.P (NH.it (NH.prev r.P) k r.h) = some q
  d1 : 1 ≤ r.d
  d2 : r.d ≤ 10
  m10 : r.m ≤ 10
  round : NH.it (NH.prev r.P) r.d r.a = r.a
def RRing (r : RD) : V → Hp → Prop := fun v H2 => ∃ p n, v = .ref p ∧ TupOf IsStep H2 p (NH.down r.f n) ∧ 1 ≤ n ∧ n ≤ 10 ∧ NH.it (NH.prev r.P) n r.a = r.a
def sp_ring_back : Sp := spOf (fun r : RD => [.ref r.b, .str r.h, .int (r.m : Nat)]) RD.Ok fun r H Q => RetR (RRing r) H Q
def Fits (ts : List (NH.Tie Str)) : Prop := ∃ L : Str → Int, ∀ t ∈ ts, L t.other ≤ L t.one + t.most
def Clashes (ts : List (NH.Tie Str)) : Prop := ∃ a r s, NH.Chain ts a r a s ∧ s < 0
def RClash (d : GD) : V → Hp → Prop := fun v H2 => (v = .non ∧ Fits d.ties) ∨ ∃ p steps a s, v = .ref p ∧ TupOf IsStep H2 p steps ∧ steps ≠ [] ∧ steps.length ≤ 10 ∧ NH.Chain d.ties a steps a s ∧ s < 0
def RExpl (d : GD) : V → Hp → Prop := fun v _ => (v = .bl true ∧ Fits d.ties) ∨ (v = .bl false ∧ Clashes d.ties)
def sp_clash_by : Sp := spOf GD.args GD.Ok fun d H Q => RetR (RClash d) H Q
def sp_does_explain_by : Sp := spOf GD.args GD.Ok fun d H Q => RetR (RExpl d) H Q
def sp_is_wire_for : Sp := spOf (fun d : (Addr × Addr) × List Str × Q4 => [.ref d.1.1, .ref d.1.2]) (fun d H => IsTs H d.1.1 d.2.1 ∧ IsT4 H d.1.2 d.2.2 ∧ d.2.2.1 ∈ d.2.1 ∧ d.2.2.2.1 ∈ d.2.1 ∧ lt d.2.2.1 d.2.2.2.1) gTrue
abbrev WD := (Addr × Addr) × Twn × Nat
def sp_wire_fault : Sp := spOf (fun d : WD => [.ref d.1.1, .ref d.1.2, .int (d.2.2 : Nat)]) (fun d H => IsTs H d.1.1 d.2.1.names ∧ TupOf IsT4 H d.1.2 d.2.1.wires ∧ GoodTown d.2.1 ∧ d.2.2 < d.2.1.wires.length) gNone
def sp_town_fault : Sp := spOf (fun d : Addr × Twn => [.ref d.1]) (fun d H => IsTown H d.1 d.2 ∧ GoodTown d.2) gNone
def sp_bounds_in : Sp := spOf (fun d : Addr × Twn × Str × Str => [.ref d.1, .str d.2.2.1, .str d.2.2.2]) (fun d H => IsTown H d.1 d.2.1 ∧ GoodTown d.2.1 ∧ ∃ p, bnd d.2.1.wires d.2.2.1 d.2.2.2 = some p) fun d H Q => RetR (fun v _ => ∃ p, v = .ref p) H Q
def sp_letter_fault : Sp := spOf (fun d : (Addr × Addr) × Twn × Q4 => [.ref d.1.1, .ref d.1.2]) (fun d H => IsTown H d.1.1 d.2.1 ∧ GoodTown d.2.1 ∧ IsT4 H d.1.2 d.2.2 ∧ ∃ p, bnd d.2.1.wires d.2.2.1 d.2.2.2.1 = some p) gNone
def sp_run_fault : Sp := spOf (fun d : (Addr × Addr) × Twn × List Q4 => [.ref d.1.1, .ref d.1.2]) (fun d H => IsTown H d.1.1 d.2.1 ∧ GoodTown d.2.1 ∧ TupOf IsT4 H d.1.2 d.2.2 ∧ GoodRun d.2.1 d.2.2) gNone
def sp_want : Sp := spOf (fun d : V × V => [.bl true, d.1, d.2]) (fun _ _ => True) gNone
def sp_want_town : Sp := sp_town_fault
def sp_want_run : Sp := sp_run_fault
def sp_is_lot : Sp := spOf (fun d : (Addr × Addr) × Twn × List Str => [.ref d.1.1, .ref d.1.2]) (fun d H => IsTown H d.1.1 d.2.1 ∧ GoodTown d.2.1 ∧ IsTs H d.1.2 d.2.2 ∧ GoodLot d.2.1 d.2.2) gTrue
def sp_want_lot : Sp := spOf (fun d : (Addr × Addr) × Twn × List Str => [.ref d.1.1, .ref d.1.2]) (fun d H => IsTown H d.1.1 d.2.1 ∧ GoodTown d.2.1 ∧ IsTs H d.1.2 d.2.2 ∧ GoodLot d.2.1 d.2.2) gNone
def GD.OkL (d : GD) (H : Hp) : Prop := d.Ok H ∧ GoodLot d.2.1 d.2.2.2
def sp_want_ground : Sp := spOf GD.args GD.OkL gNone
def sp_clash : Sp := spOf GD.args GD.OkL fun d H Q => RetR (RClash d) H Q
def sp_does_explain : Sp := spOf GD.args GD.OkL fun d H Q => RetR (RExpl d) H Q
/-! ### the law's own -/
def Exb (d : Addr) (H H' : Hp) : Prop := ∀ a o, a ≠ d → H a = some o → H' a = some o
def feedO (c : Addr) (sp ov tu : Int) : HO := .dK [(.inr "cells", .ref c), (.inr "spot", .int sp), (.inr "over", .int ov), (.inr "turn", .int tu)]
def IsFeed (H : Hp) (d c : Addr) : Prop := ∃ cells sp ov tu, H d = some (feedO c sp ov tu) ∧ H c = some (.lst ((cells : List Int).map V.int)) ∧ cells.length ≤ 63
def sp_law_feed (K : PySem.W.Frag) : Sp := spOf (fun d : Addr × List Int => [.ref d.1]) (fun d H => SqL K H d.1 (d.2.map V.int) ∧ d.2.length ≤ 63) fun d H Q => ∀ p c H2, Ex H H2 → H p = none → IsFeed H2 p c → Q (.ref p) H2
def sp_law_draw : Sp := spOf (fun d : (Addr × Addr) × Int => [.ref d.1.1, .int d.2]) (fun d H => IsFeed H d.1.1 d.1.2 ∧ 0 < d.2 ∧ d.2 < 1000000) fun d H Q => ∀ r H2, Exb d.1.1 H H2 → IsFeed H2 d.1.1 d.1.2 → 0 ≤ r → r < d.2 → Q (.int r) H2
def sp_law_any : Sp := spOf (fun d : (Addr × Addr × Addr) × List V => [.ref d.1.1, .ref d.1.2.1]) (fun d H => IsFeed H d.1.1 d.1.2.2 ∧ H d.1.2.1 = some (.lst d.2) ∧ d.2 ≠ [] ∧ d.2.length < 1000) fun d H Q => ∀ v H2, Exb d.1.1 H H2 → IsFeed H2 d.1.1 d.1.2.2 → v ∈ d.2 → Q v H2
def sp_law_same : Sp := spOf (fun d : (Addr × Addr) × (Bool × Bool) × Bool × Bool => [.ref d.1.1, .ref d.1.2]) (fun d H => H d.1.1 = some (.lst [.bl d.2.1.1, .bl d.2.1.2]) ∧ H d.1.2 = some (.lst [.bl d.2.2.1, .bl d.2.2.2])) fun d H Q => RetV (.bl (decide (d.2.1 = d.2.2))) H Q
def sp_law_place : Sp := spOf (fun d : Addr × Addr => [.ref d.1]) (fun d H => IsFeed H d.1 d.2) fun d H Q => ∀ p T H2, Exb d.1 H H2 → IsFeed H2 d.1 d.2 → IsTown H2 p T → GoodTown T → Q (.ref p) H2
def sp_law_sent : Sp := spOf (fun d : (Addr × Addr × Addr) × Twn => [.ref d.1.1, .ref d.1.2.1, .int 8]) (fun d H => IsFeed H d.1.1 d.1.2.2 ∧ IsTown H d.1.2.1 d.2 ∧ GoodTown d.2) fun d H Q => ∀ p run H2, Exb d.1.1 H H2 → IsFeed H2 d.1.1 d.1.2.2 → TupOf IsT4 H2 p run → GoodRun d.2 run → Q (.ref p) H2
def sp_law_bounds : Sp := spOf (fun d : Addr × Twn × (Str × Str) × Int × Int => [.ref d.1, .str d.2.2.1.1, .str d.2.2.1.2]) (fun d H => IsTown H d.1 d.2.1 ∧ GoodTown d.2.1 ∧ bnd d.2.1.wires d.2.2.1.1 d.2.2.1.2 = some d.2.2.2) fun d H Q => RetR (fun v H2 => ∃ p, v = .ref p ∧ H2 p = some (.tup [.int d.2.2.2.1, .int d.2.2.2.2])) H Q
def sp_law_ties : Sp := spOf GD.args GD.Ok fun d H Q => RetR (RTies d) H Q
structure CD where
  g : GD
  s : Addr
  steps : List (Nat × Str)
  a : Str
  e : Str
  tot : Int
structure CD.Ok (c : CD) (H : Hp) : Prop where
  g : c.g.Ok H
  st : TupOf IsStep H c.s c.steps
  ne : c.steps ≠ []
  few : c.steps.length ≤ 10
  ch : NH.Chain c.g.ties c.a c.steps c.e c.tot
abbrev CD.args (c : CD) : List V := [.ref c.g.1.1, .ref c.g.1.2.1, .ref c.g.1.2.2, .ref c.s]
def sp_law_chain_fault : Sp := spOf CD.args CD.Ok fun c H Q => RetR (fun v H2 => ∃ p, v = .ref p ∧ H2 p = some (.tup [.str "sum", .int c.tot, .str c.a, .str c.e])) H Q
def sp_law_ring_due : Sp := spOf CD.args (fun c H => c.Ok H ∧ c.a = c.e ∧ c.tot < 0) gNone
abbrev DD (T : Twn) (run : List Q4) (found : List (List Str)) : Prop := NH.DInv lt T.names (NH.leastOf (tiesOf T run [])) [] found
def sp_law_ring_rows : Sp := spOf (fun d : (Addr × Addr) × Twn × List Q4 => [.ref d.1.1, .ref d.1.2]) (fun d H => IsTown H d.1.1 d.2.1 ∧ TupOf IsT4 H d.1.2 d.2.2 ∧ GoodTown d.2.1 ∧ GoodRun d.2.1 d.2.2)
  fun d H Q => RetR (fun v H2 => ∃ p found, v = .ref p ∧ LstOf IsTs H2 p found ∧ DD d.2.1 d.2.2 found ∧ found.length ≤ 39000) H Q
def sp_law_lots : Sp := spOf (fun d : Addr × List Str => [.ref d.1]) (fun d H => IsTs H d.1 d.2 ∧ d.2.length ≤ 5) fun d H Q => RetR (fun v H2 => ∃ p lots, v = .ref p ∧ LstOf IsTs H2 p lots ∧ (∀ l ∈ lots, l.Sublist d.2) ∧ lots ≠ [] ∧ lots.length ≤ 32) H Q
structure LD where
  t : Addr
  m : Addr
  r : Addr
  o : Addr
  T : Twn
  run : List Q4
  found : List (List Str)
  lot : List Str
structure LD.Ok (d : LD) (H : Hp) : Prop where
  town : IsTown H d.t d.T
  run : TupOf IsT4 H d.m d.run
  rings : LstOf IsTs H d.r d.found
  lot : IsTs H d.o d.lot
  gt : GoodTown d.T
  gr : GoodRun d.T d.run
  gl : GoodLot d.T d.lot
  dd : DD d.T d.run d.found
  few : d.found.length ≤ 39000
def sp_law_is_lot_right : Sp := spOf (fun d : LD => [.ref d.t, .ref d.m, .ref d.r, .ref d.o]) LD.Ok gTrue
def sp_law (K : PySem.W.Frag) : Sp := spOf (fun d : Addr × List Int => [.ref d.1]) (fun d H => SqL K H d.1 (d.2.map V.int) ∧ d.2.length ≤ 63) fun _ _ Q => ∀ H2, Q (.bl true) H2
end K14
set_option Elab.async false
set_option linter.all false
set_option maxRecDepth 100000
set_option maxHeartbeats 4000000
namespace K14
open PySem PySem.Spec PyProof.Rows L2 Evl
/-! ### want: a def with a default -/
structure CalD (P : Program) (w : World) (K : PySem.W.Frag) (mg : Str → Option Value) (base : Heap) (k : Nat) (x : Str) (ps : List Str) (sp : Sp) (f : Addr) (fd : FuncData) : Prop where
  ok : FnOk P w K mg base CX0 k f fd ps sp
  mg : mg x = some (.ref f)
  kp : PySem.W.keepIn K (.ref f) = true
  bd : ∃ ds, Vals [V.int (-1)] ds ∧ Binds K fd ps ds
theorem calD_mk {P : Program} {w : World} {K : PySem.W.Frag} {mg : Str → Option Value} {base : Heap} {N : List Str} {sp : Sp} {k : Nat} (T : Top K mg) (S : FnScope N ["is_right", "word", "at"] (defScope s_want))
    (len : ∀ vs H Q E, sp vs H Q E → vs.length = 3)
    (hb : ∀ {f : Addr} {cdv : Value} {A : Around} {outer : List Env} {s : Shared} {H : Hp} {vs : List V} {Q : VK} {E : XK}, Room k (A.deeper (envOfC "want" (defScope s_want) s.heap.objs.size f cdv)) → sp vs H Q E →
      ∃ t, PSs (cxOf CX0 P w K mg base N "want" (defScope s_want) f cdv A outer s H E).nox (defBody s_want) t ∧ t { nx := fun _ H' => Q .non H', rt := Q } (start N vs) H) : ∃ f fd, CalD P w K mg base (k + 1) "want" ["is_right", "word", "at"] sp f fd := by
  obtain ⟨⟨fd, F⟩, m⟩ := T.fns 23 d_want rfl
  refine ⟨_, fd, FunD.ok F S len fun cdv A outer s H vs Q E hr h => ?_, m, F.kp, ?_⟩
  · obtain ⟨t, h1, h2⟩ := hb hr h
    exact ⟨t, PSs.nox h1, h2⟩
  · refine FunD.binds1 (ps := ["is_right", "word", "at"]) F 2 0 (by simp [He.DefD.dvs, d_want]) rfl fun T kV doc pm an cdv ct us its hu hi => ?_
    match us, hu, its, hi with
    | [_, _], _, [_], _ => exact ⟨_, rfl, rfl⟩
/-! ### more walks -/
section
variable {K : PySem.W.Frag} {σ : L2.St} {H H' : Hp} {ta tb te tx : TE} {t u tt : TT} {x y z v : V} {D : Ends}
theorem walk_zipT {a b : Addr} {xs ys : List V} {n : Nat} (hn : n = min xs.length ys.length) : Walk (RZ.ItzT K a b) n (fun H => SqT K H a xs ∧ SqT K H b ys) (YPair (fun i => xs[i]?) (fun i => ys[i]?)) where
  goes := fun i H hi ⟨h1, h2⟩ => by
    have l1 : i < xs.length := by omega
    have l2 : i < ys.length := by omega
    exact ⟨xs, ys, _, _, h1, h2, List.getElem?_eq_getElem l1, List.getElem?_eq_getElem l2⟩
  stops := fun H ⟨h1, h2⟩ => ⟨xs, ys, h1, h2, by omega⟩
  yields := fun i H v H' _ ⟨h1, h2⟩ ⟨T, x, y, e1, e2, e3, e4, e5⟩ => ⟨T, x, y, e1, e2, e3, e4 xs h1, e5 ys h2⟩
theorem walk_enumT {a : Addr} {xs : List V} : Walk (IteT K a) xs.length (fun H => SqT K H a xs) (YPair (fun i => some (.int (i : Nat))) (fun i => xs[i]?)) where
  goes := fun i H hi h1 => ⟨xs, _, h1, List.getElem?_eq_getElem hi⟩
  stops := fun H h1 => ⟨xs, h1, Nat.le_refl _⟩
  yields := fun i H v H' _ h1 ⟨T, x, e1, e2, e3, e4⟩ => ⟨T, _, x, e1, e2, e3, rfl, e4 xs h1⟩
theorem ypair_ex {xs ys : Nat → Option V} {i : Nat} {H H' : Hp} {v : V} (h : YPair xs ys i H v H') : Ex H H' := by
  obtain ⟨T, x, y, _, e2, e3, _⟩ := h
  subst e3
  exact Ex.new e2
theorem yat_ex {xs : List V} {i : Nat} {H H' : Hp} {v : V} (h : YAt xs i H v H') : Ex H H' := by
  obtain ⟨e, _⟩ := h
  subst e
  exact Ex.refl _
/-- all(a list of what holds) -/
theorem ev_allR {tl : TE} (h : EvR tl σ H fun v H2 => ∃ p ys, v = .ref p ∧ H2 p = some (.lst ys) ∧ ∀ y ∈ ys, y = .bl true) : Ev (tCB (rAll K) (tCons tl tNil)) σ H (.bl true) := fun H1 e Q q =>
  h H1 e _ fun v H2 e2 ⟨p, ys, ev, hp, hy⟩ => by
    subst ev
    refine ⟨p, List.replicate ys.length true, rfl, Or.inl (Or.inl (hp.trans ?_)), ?_⟩
    · rw [List.map_replicate, List.eq_replicate_iff.mpr ⟨rfl, hy⟩, List.length_replicate]
    · have e1 : (List.replicate ys.length true).all id = true := List.all_eq_true.mpr fun x hx => by rw [(List.mem_replicate.mp hx).2]; rfl
      rw [e1]
      exact q H2 e2
theorem all_true {ys : List V} {ix : List Nat} (h : Paired (fun (y : V) (_ : Nat) => y = .bl true) ys ix) : ∀ y ∈ ys, y = .bl true := by
  induction h with
  | nil => intro y hy; cases hy
  | cons r _ ih =>
    intro y hy
    rcases List.mem_cons.mp hy with e | e
    · rw [e]; exact r
    · exact ih y e
theorem ev_lenS {s : Str} (h : Ev ta σ H (.str s)) (hz : s.length ≤ 1000) : Ev (tCB (fun xs H Q => ∃ z : Str, xs = [.str z] ∧ z.length ≤ sizeLine ∧ Q (.int z.length) H) (tCons ta tNil)) σ H (.int s.length) := fun H1 e Q q =>
  h H1 e _ fun H2 e2 => ⟨s, rfl, Nat.le_trans hz (by decide), q H2 e2⟩
theorem drop1_cut (xs : List V) : cutV xs (some 1) none = xs.drop 1 := by
  unfold cutV
  rw [show HT.sIx xs.length 0 (some 1) = min 1 xs.length from HT.sIx_nat xs.length 0 1, HT.sIx_none]
  cases xs with
  | nil => rfl
  | cons x r =>
    have e : min 1 (x :: r).length = 1 := by
      rw [List.length_cons]
      omega
    rw [e]
    show List.take ((x :: r).length - 1) r = r
    rw [List.length_cons, Nat.add_sub_cancel, List.take_length]
/-! ### names in a list of names -/
theorem eqV_str {a b : Str} : eqV (.str a) (.str b) = decide (a = b) := by
  unfold eqV
  by_cases h : a = b
  · subst h
    simp
  · simp [h]
theorem in_strs {s : Str} {xs : List Str} : inV (.str s) (xs.map V.str) = true ↔ s ∈ xs := by
  unfold inV
  rw [List.any_map, List.any_eq_true]
  constructor
  · rintro ⟨x, hx, e⟩
    have e : eqV (.str x) (.str s) = true := e
    rw [eqV_str, decide_eq_true_eq] at e
    exact e ▸ hx
  · intro h
    refine ⟨s, h, ?_⟩
    show eqV (.str s) (.str s) = true
    rw [eqV_str, decide_eq_true rfl]
theorem flat_strs {xs : List Str} : (xs.map V.str).all flatV = true := List.all_eq_true.mpr fun z hz => by
  obtain ⟨u, _, rfl⟩ := List.mem_map.mp hz
  rfl
theorem inV_strs {s : Str} {xs : List Str} : inV (.str s) (xs.map V.str) = decide (s ∈ xs) := by
  by_cases h : s ∈ xs
  · rw [decide_eq_true h]
    exact in_strs.mpr h
  · rw [decide_eq_false h]
    exact Bool.eq_false_iff.mpr fun z => h (in_strs.mp z)
end
section
variable {X : Cx} {K : PySem.W.Frag}
theorem op_in_seqK (h : X.K = K) : OpR X (compareOp .In) (rIn K false) := h ▸ op_in_seq
theorem op_notIn_seqK (h : X.K = K) : OpR X (compareOp .NotIn) (rIn K true) := h ▸ op_notIn_seq
theorem op_catAK (h : X.K = K) : OpR X (binaryOp .Add) (rCatA K) := h ▸ op_catA
theorem sl_tupAK (h : X.K = K) : SlR X (rSlA K) := h ▸ sl_tupA
theorem op_eqDK (h : X.K = K) (hu : X.A.units + 64 < cLine) : OpR X (compareOp .Eq) (rEqD K) := h ▸ op_eqD hu
theorem pi_tupK {tg l : Expr} {tl : TE} (h : X.K = K) (hl : PE X l tl) : PI X tg l (iTup K tl) := h ▸ pi_tup hl
theorem pi_listK {tg l : Expr} {tl : TE} (h : X.K = K) (hl : PE X l tl) : PI X tg l (iList K tl) := h ▸ pi_list hl
end
theorem given_filter {names : List Str} {p : Str → Bool} : given (names.map V.str).length (fun i => p (names.getD i Str.empty)) (fun i => .str (names.getD i Str.empty)) = (names.filter p).map V.str := by
  unfold given
  rw [List.length_map]
  have e : names = (List.range names.length).map fun i => names.getD i Str.empty := by
    refine List.ext_getElem? fun i => ?_
    rw [List.getElem?_map]
    by_cases h : i < names.length
    · rw [List.getElem?_range h, List.getElem?_eq_getElem h]
      simp [List.getD_eq_getElem?_getD, h]
    · rw [List.getElem?_eq_none (by omega), List.getElem?_eq_none (by rw [List.length_range]; omega)]
      rfl
  have z : (names.filter p).map V.str = (((List.range names.length).map fun i => names.getD i Str.empty).filter p).map V.str := by rw [← e]
  rw [z, List.filter_map, List.map_map]
  rfl
/-! ### arguments of a kind -/
def EvAR (ta : TA) (σ : L2.St) (H : Hp) (R : List V → Hp → Prop) : Prop := ∀ H1, Ex H H1 → ∀ Q : List V → Hp → Prop, (∀ vs H2, Ex H1 H2 → R vs H2 → Q vs H2) → ta σ H1 Q
section
variable {K : PySem.W.Frag} {σ : L2.St} {H H' : Hp} {ta tb te tx : TE} {t u tt : TT} {x y z v : V} {D : Ends} {r : R2} {R R1 R2' : V → Hp → Prop}
theorem ear_nil : EvAR tNil σ H fun vs _ => vs = [] := fun H1 _ Q q => q [] H1 (Ex.refl _) rfl
theorem ear_cons {tr : TA} {RA : List V → Hp → Prop} (h : EvR te σ H R1) (hs : ∀ v H1 H2, Ex H1 H2 → R1 v H1 → R1 v H2) (hr : EvAR tr σ H RA) : EvAR (tCons te tr) σ H fun vs H2 => ∃ v ws, vs = v :: ws ∧ R1 v H2 ∧ RA ws H2 := fun H1 e Q q =>
  h H1 e _ fun v H2 e2 h1 => hr H2 (e.trans e2) _ fun ws H3 e3 h3 => q (v :: ws) H3 (e2.trans e3) ⟨v, ws, rfl, hs v _ _ e3 h1, h3⟩
theorem ear_v {tr : TA} {RA : List V → Hp → Prop} (h : Ev te σ H v) (hr : EvAR tr σ H RA) : EvAR (tCons te tr) σ H fun vs H2 => ∃ ws, vs = v :: ws ∧ RA ws H2 := fun H1 e Q q =>
  h H1 e _ fun H2 e2 => hr H2 (e.trans e2) _ fun ws H3 e3 h3 => q (v :: ws) H3 (e2.trans e3) ⟨ws, rfl, h3⟩
theorem er_callA {sp : Sp} {E : XK} {ta : TA} {RA : List V → Hp → Prop} (h : EvAR ta σ H RA) (hs : ∀ vs H1, Ex H H1 → RA vs H1 → ∀ Q : VK, RetR R H1 Q → ∀ E : XK, sp vs H1 Q E) : EvR (tCall sp [] E ta) σ H R := fun H1 e Q q =>
  h H1 e _ fun vs H2 e2 ha => by
    have g := hs vs H2 (e.trans e2) ha Q (fun v H3 e3 hr => q v H3 (e2.trans e3) hr) E
    show sp (vs ++ []) H2 Q E
    rw [List.append_nil]
    exact g
theorem ev_callA {sp : Sp} {E : XK} {ta : TA} {RA : List V → Hp → Prop} (h : EvAR ta σ H RA) (hs : ∀ vs H1, Ex H H1 → RA vs H1 → ∀ Q : VK, RetV z H1 Q → ∀ E : XK, sp vs H1 Q E) : Ev (tCall sp [] E ta) σ H z := fun H1 e Q q =>
  h H1 e _ fun vs H2 e2 ha => by
    have g := hs vs H2 (e.trans e2) ha Q (fun H3 e3 => q H3 (e2.trans e3)) E
    show sp (vs ++ []) H2 Q E
    rw [List.append_nil]
    exact g
theorem ev_opR (ha : EvR ta σ H R1) (hs : ∀ v H1 H2, Ex H1 H2 → R1 v H1 → R1 v H2) (hb : EvR tb σ H R2') (hr : ∀ x y H1, Ex H H1 → R1 x H1 → R2' y H1 → RV r x y H1 z) : Ev (tOp r ta tb) σ H z := fun H1 e Q q =>
  ha H1 e _ fun v H2 e2 h1 => hb H2 (e.trans e2) _ fun w H3 e3 h3 => hr v w H3 ((e.trans e2).trans e3) (hs v _ _ e3 h1) h3 H3 (Ex.refl _) Q fun H4 e4 => q H4 ((e2.trans e3).trans e4)
theorem er_if {b : Bool} (h : EvT t σ H b) (h1 : b = true → EvR ta σ H R) (h2 : b = false → EvR tb σ H R) : EvR (tIf t ta tb) σ H R := fun H1 e Q q => h H1 e _ fun H2 e2 => by
  cases b with
  | true =>
    show ta σ H2 Q
    exact h1 rfl H2 (e.trans e2) Q fun v H3 e3 => q v H3 (e2.trans e3)
  | false =>
    show tb σ H2 Q
    exact h2 rfl H2 (e.trans e2) Q fun v H3 e3 => q v H3 (e2.trans e3)
def TupAt (xs : List V) : V → Hp → Prop := fun v H2 => ∃ p, v = .ref p ∧ H2 p = some (.tup xs)
theorem tupAt_ex {xs : List V} : ∀ v H1 H2, Ex H1 H2 → TupAt xs v H1 → TupAt xs v H2 := fun _ _ _ e ⟨p, h1, h2⟩ => ⟨p, h1, e _ _ h2⟩
theorem tupAt_tx {xs : List V} {v : V} {H1 H2 : Hp} (e : Tx H1 H2) : TupAt xs v H1 → TupAt xs v H2 := fun ⟨p, h1, h2⟩ => ⟨p, h1, e _ _ h2⟩
theorem er_tup {ta : TA} {vs : List V} (h : EvA ta σ H vs) (hl : vs.length ≤ 100) : EvR (tTup ta) σ H (TupAt vs) := fun H1 e Q q =>
  h H1 e _ fun H2 e2 => ⟨Nat.le_trans hl (by decide), fun p hp => q _ _ (e2.trans (Ex.new hp)) ⟨p, rfl, upd_same⟩⟩
theorem cut_whole {xs : List V} {lo hi : Option Int} (h : HT.sIx xs.length 0 lo = 0 ∧ HT.sIx xs.length xs.length hi = xs.length) : cutV xs lo hi = xs := by
  unfold cutV
  rw [h.1, h.2]
  simp
theorem er_slT {tl th : TO} {a : Addr} {xs : List V} {lo hi : Option Int} (h : Ev te σ H (.ref a)) (h1 : EvO tl σ H lo) (h2 : EvO th σ H hi) (hs : H a = some (.tup xs)) : EvR (tSl (rSlA K) te tl th) σ H (TupAt (cutV xs lo hi)) := fun H1 e Q q =>
  h H1 e _ fun H2 e2 => h1 H2 (e.trans e2) _ fun H3 e3 => h2 H3 ((e.trans e2).trans e3) _ fun H4 e4 => by
    have e14 := (e2.trans e3).trans e4
    refine ⟨a, xs, rfl, st_of ((e.trans e14) _ _ hs), fun hw => q _ H4 e14 ⟨a, rfl, ?_⟩, fun hw p hp => q _ _ (e14.trans (Ex.new hp)) ⟨p, rfl, upd_same⟩⟩
    rw [cut_whole hw]
    exact (e.trans e14) _ _ hs
theorem ev_isN : Ev te σ H .non → Ev (tOp (fun x y H Q => y = V.non ∧ Q (.bl (decide (x = .non))) H) te (tC .non)) σ H (.bl true) := fun h => ev_op h ev_c fun H1 _ Q q => ⟨rfl, q H1 (Ex.refl _)⟩
theorem ev_notN : Ev te σ H .non → Ev (tOp (fun x y H Q => y = V.non ∧ Q (.bl (!decide (x = .non))) H) te (tC .non)) σ H (.bl false) := fun h => ev_op h ev_c fun H1 _ Q q => ⟨rfl, q H1 (Ex.refl _)⟩
end
theorem geT_false {a b c d : Str} (h : lt a c ∨ (a = c ∧ lt b d)) : geT [a, b] [c, d] = false := by
  show (if decide (a = c) = true then (if decide (b = d) = true then decide (2 ≤ 2) else !decide (b.cps.toList < d.cps.toList)) else !decide (a.cps.toList < c.cps.toList)) = false
  rcases h with h | ⟨e, h⟩
  · rw [decide_eq_false (lt_ne h), if_neg Bool.false_ne_true, decide_eq_true (show a.cps.toList < c.cps.toList from h)]
    rfl
  · rw [decide_eq_true e, if_pos rfl, decide_eq_false (lt_ne h), if_neg Bool.false_ne_true, decide_eq_true (show b.cps.toList < d.cps.toList from h)]
    rfl
section
variable {K : PySem.W.Frag} {σ : L2.St} {H H' : Hp} {ta tb te tx tl : TE} {t u tt : TT} {x y z v : V} {R R1 : V → Hp → Prop} {r : List V → Hp → VK → Prop}
theorem er_cbL {xs : List V} (h : EvL tl σ H xs) (hr : ∀ p H1, Ex H H1 → H1 p = some (.lst xs) → ∀ Q : VK, RetR R H1 Q → r [.ref p] H1 Q) : EvR (tCB r (tCons tl tNil)) σ H R := fun H1 e Q q =>
  h H1 e _ fun p H2 _ e2 hp => hr p H2 (e.trans e2) hp Q fun v H3 e3 h3 => q v H3 (e2.trans e3) h3
theorem er_cbR (h : EvR te σ H R1) (hr : ∀ v H1, Ex H H1 → R1 v H1 → ∀ Q : VK, RetR R H1 Q → r [v] H1 Q) : EvR (tCB r (tCons te tNil)) σ H R := fun H1 e Q q =>
  h H1 e _ fun v H2 e2 h2 => hr v H2 (e.trans e2) h2 Q fun v H3 e3 h3 => q v H3 (e2.trans e3) h3
end
theorem eqv_two {a b c d : Str} : PyData.eqv (.tuple [.str a, .str b]) (.tuple [.str c, .str d]) = decide (a = c ∧ b = d) := by
  show ((a == c) && ((b == d) && true)) = decide (a = c ∧ b = d)
  by_cases h1 : a = c <;> by_cases h2 : b = d <;> simp [h1, h2]
theorem paired_head {α β : Type} {F : α → β → Prop} {a : α} {l : List α} : ∀ {m : List β}, Paired F (a :: l) m → ∃ b, F a b
  | _, .cons r _ => ⟨_, r⟩
theorem paired_mem {α β : Type} {F : α → β → Prop} : ∀ {l : List α} {m : List β} {a : α}, Paired F l m → a ∈ l → ∃ b ∈ m, F a b
  | _, _, _, .nil, h => by cases h
  | _, _, _, .cons r t, h => by
    rcases List.mem_cons.mp h with rfl | h
    · exact ⟨_, List.mem_cons_self, r⟩
    · obtain ⟨b, hb, z⟩ := paired_mem t h
      exact ⟨b, List.mem_cons_of_mem _ hb, z⟩
/-- the items of a comprehension over some names, as addresses -/
theorem refs_of {R : Addr → Str → Prop} {vs : List Str} {ys : List V} (h : Paired (fun v i => ∃ b, v = .ref b ∧ R b (vs.getD i Str.empty)) ys (List.range vs.length)) : ∃ as : List Addr, ys = as.map V.ref ∧ Paired R as vs := by
  have gen : ∀ {ys : List V} {ix : List Nat}, Paired (fun v i => ∃ b, v = .ref b ∧ R b (vs.getD i Str.empty)) ys ix → ∃ as : List Addr, ys = as.map V.ref ∧ Paired R as (ix.map fun i => vs.getD i Str.empty) := by
    intro ys ix p
    induction p with
    | nil => exact ⟨[], rfl, .nil⟩
    | cons r _ ih =>
      obtain ⟨b, e1, e2⟩ := r
      obtain ⟨as, e3, e4⟩ := ih
      exact ⟨b :: as, by rw [e1, e3]; rfl, .cons e2 e4⟩
  obtain ⟨as, e1, e2⟩ := gen h
  have e : vs = (List.range vs.length).map fun i => vs.getD i Str.empty := by
    refine List.ext_getElem? fun i => ?_
    rw [List.getElem?_map]
    by_cases h : i < vs.length
    · rw [List.getElem?_range h, List.getElem?_eq_getElem h]
      simp [List.getD_eq_getElem?_getD, h]
    · rw [List.getElem?_eq_none (by omega), List.getElem?_eq_none (by rw [List.length_range]; omega)]
      rfl
  rw [← e] at e2
  exact ⟨as, e1, e2⟩
theorem paired_mapR {α β γ : Type} {F : α → β → Prop} {G : α → γ → Prop} {f : β → γ} (h : ∀ a b, F a b → G a (f b)) : ∀ {l : List α} {m : List β}, Paired F l m → Paired G l (m.map f)
  | _, _, .nil => .nil
  | _, _, .cons r t => .cons (h _ _ r) (paired_mapR h t)
theorem merge_from : ∀ {kvs acc : List (Key × V)}, ((acc ++ kvs).map (·.1)).Nodup → mergeK acc kvs = acc ++ kvs
  | [], acc, _ => (List.append_nil acc).symm
  | p :: r, acc, h => by
    have e : acc ++ p :: r = (acc ++ [p]) ++ r := by simp
    rw [e] at h ⊢
    have n : valV acc p.1 = none := by
      cases z : valV acc p.1 with
      | none => rfl
      | some v =>
        have m := valV_in z
        rw [List.append_assoc, List.map_append, List.nodup_append] at h
        exact (h.2.2 _ m p.1 (by simp) rfl).elim
    have ih := merge_from (kvs := r) (acc := acc ++ [p]) h
    rw [← ih, ← putK_new p.2 n]
    rfl
theorem merge_nd {kvs : List (Key × V)} (h : (kvs.map (·.1)).Nodup) : mergeK [] kvs = kvs := by
  rw [merge_from (by rw [List.nil_append]; exact h), List.nil_append]
theorem letters_ok : ∀ c ∈ letters.cps.toList, c < 128 := by decide +kernel
theorem strOk_good {s : Str} (h : goodName s = true) : PyData.strOk s = true := by
  have h : (decide (1 ≤ s.length) && decide (s.length ≤ 8) && s.cps.toList.all fun c => decide (c ∈ letters.cps.toList)) = true := h
  rw [Bool.and_eq_true, List.all_eq_true] at h
  have hc := h.2
  show s.cps.all (fun c => decide (c < 0x110000)) = true
  rw [← Array.all_toList, List.all_eq_true]
  intro c hm
  have z := letters_ok c (of_decide_eq_true (hc c hm))
  exact decide_eq_true (by omega)
theorem shaped2 {a b : Str} (h1 : goodName a = true) (h2 : goodName b = true) : SeqAt.shaped (.tuple [.str a, .str b]) = true := by
  simp [SeqAt.shaped, PyData.canLay0, PyData.canLayAll0, PyData.depth, PyData.depthAll, strOk_good h1, strOk_good h2]
end K14
set_option Elab.async false
set_option linter.all false
set_option maxRecDepth 100000
set_option maxHeartbeats 4000000
namespace K14
open PySem PySem.Spec PyProof.Rows L2 Evl
section
variable {K : PySem.W.Frag} {σ : L2.St} {H H' : Hp} {ta tb td tk tv te tx : TE} {t u tt : TT} {x y z v : V} {D : Ends} {tz : TS} {r : R2} {R R1 R3 : V → Hp → Prop}
/-! ### dicts -/
theorem valV_mem {κ : Type} [DecidableEq κ] : ∀ {kvs : List (κ × V)} {k : κ} {v : V}, (kvs.map (·.1)).Nodup → (k, v) ∈ kvs → valV kvs k = some v
  | p :: r, k, v, hn, hm => by
    have hn : (p.1 :: r.map (·.1)).Nodup := hn
    obtain ⟨h1, h2⟩ := List.nodup_cons.mp hn
    unfold valV
    rw [List.find?_cons]
    rcases List.mem_cons.mp hm with e | hm
    · subst e
      simp
    · have ne : p.1 ≠ k := fun e => h1 (by rw [e]; exact List.mem_map.mpr ⟨_, hm, rfl⟩)
      rw [decide_eq_false ne]
      exact valV_mem h2 hm
theorem ev_dgetK {a : Addr} {kvs : List (Key × V)} {s : Str} (hd : Ev td σ H (.ref a)) (hk : Ev tk σ H (.str s)) (ha : H a = some (.dK kvs)) (hv : valV kvs (.inr s) = some v) : Ev (tDGet td tk) σ H v := fun H1 e Q q =>
  hd H1 e _ fun H2 e2 => hk H2 (e.trans e2) _ fun H3 e3 => ⟨a, v, rfl, by
    have z := DGet.k (k := .inr s) (((e.trans e2).trans e3) _ _ ha)
    rw [hv] at z
    exact z, q H3 (e2.trans e3)⟩
theorem ev_dgetT {a : Addr} {kvs : List (List Key × V)} {s1 s2 : Str} {ta : TA} (hd : Ev td σ H (.ref a)) (hk : EvA ta σ H [.str s1, .str s2]) (ha : H a = some (.dT kvs)) (hv : valV kvs [.inr s1, .inr s2] = some v) : Ev (tDGet td (tTup ta)) σ H v := fun H1 e Q q =>
  hd H1 e _ fun H2 e2 => hk H2 (e.trans e2) _ fun H3 e3 => ⟨Nat.le_of_ble_eq_true rfl, fun p hp => ⟨a, v, rfl, by
    have z := DGet.t (k := [.inr s1, .inr s2]) ((((e.trans e2).trans e3).trans (Ex.new hp)) _ _ ha) (show upd H3 p (.tup [.str s1, .str s2]) p = some (.tup ([Sum.inr s1, Sum.inr s2].map kV)) from upd_same)
    rw [hv] at z
    exact z, q _ ((e2.trans e3).trans (Ex.new hp))⟩⟩
theorem et_dinK {a : Addr} {kvs : List (Key × V)} {s : Str} (hd : Ev td σ H (.ref a)) (hk : Ev tk σ H (.str s)) (ha : H a = some (.dK kvs)) : EvT (tB (tDIn tk td)) σ H (valV kvs (.inr s)).isSome := fun H1 e Q q =>
  hk H1 e _ fun H2 e2 => hd H2 (e.trans e2) _ fun H3 e3 => ⟨a, _, rfl, DGet.k (k := .inr s) (((e.trans e2).trans e3) _ _ ha), _, rfl, q H3 (e2.trans e3)⟩
theorem et_dninK {a : Addr} {kvs : List (Key × V)} {s : Str} (hd : Ev td σ H (.ref a)) (hk : Ev tk σ H (.str s)) (ha : H a = some (.dK kvs)) : EvT (tB (tDNotIn tk td)) σ H (!(valV kvs (.inr s)).isSome) := fun H1 e Q q =>
  hk H1 e _ fun H2 e2 => hd H2 (e.trans e2) _ fun H3 e3 => ⟨a, _, rfl, DGet.k (k := .inr s) (((e.trans e2).trans e3) _ _ ha), _, rfl, q H3 (e2.trans e3)⟩
theorem et_dinT {a : Addr} {kvs : List (List Key × V)} {s1 s2 : Str} {ta : TA} (hd : Ev td σ H (.ref a)) (hk : EvA ta σ H [.str s1, .str s2]) (ha : H a = some (.dT kvs)) : EvT (tB (tDIn (tTup ta) td)) σ H (valV kvs [.inr s1, .inr s2]).isSome := fun H1 e Q q =>
  hk H1 e _ fun H2 e2 => ⟨Nat.le_of_ble_eq_true rfl, fun p hp => hd _ (e.trans (e2.trans (Ex.new hp))) _ fun H3 e3 => ⟨a, _, rfl,
    DGet.t (k := [.inr s1, .inr s2]) ((e.trans ((e2.trans (Ex.new hp)).trans e3)) _ _ ha) (e3 _ _ (show upd H2 p (.tup [.str s1, .str s2]) p = some (.tup ([Sum.inr s1, Sum.inr s2].map kV)) from upd_same)), _, rfl, q _ ((e2.trans (Ex.new hp)).trans e3)⟩⟩
theorem s_dputK {a : Addr} {kvs : List (Key × V)} {s : Str} (hv : Ev tv σ H v) (hd : Ev td σ H (.ref a)) (hk : Ev tk σ H (.str s)) (ha : H a = some (.dK kvs)) (hl : kvs.length < 100) (k : ∀ H1, Ex H H1 → D.nx σ (upd H1 a (.dK (putK kvs (.inr s) v)))) : sDPut td tk tv D σ H :=
  hv H (Ex.refl _) _ fun H1 e1 => hd H1 e1 _ fun H2 e2 => hk H2 (e1.trans e2) _ fun H3 e3 => ⟨a, _, rfl, DPut.k (k := .inr s) (((e1.trans e2).trans e3) _ _ ha) (sz_lt (by omega)), k H3 ((e1.trans e2).trans e3)⟩
theorem q_dputK {a : Addr} {kvs : List (Key × V)} {s : Str} (hv : Ev tv σ H v) (hd : Ev td σ H (.ref a)) (hk : Ev tk σ H (.str s)) (ha : H a = some (.dK kvs)) (hl : kvs.length < 100) (k : ∀ H1, Ex H H1 → tz D σ (upd H1 a (.dK (putK kvs (.inr s) v)))) : tSeq (sDPut td tk tv) tz D σ H :=
  s_dputK (D := { D with nx := tz D }) hv hd hk ha hl k
theorem q_dputR {a : Addr} {kvs : List (Key × V)} {s : Str} (hv : EvR tv σ H R1) (hs : ∀ v H1 H2, Ex H1 H2 → R1 v H1 → R1 v H2) (hd : Ev td σ H (.ref a)) (hk : Ev tk σ H (.str s)) (ha : H a = some (.dK kvs)) (hl : kvs.length < 100)
    (k : ∀ v H1, Ex H H1 → R1 v H1 → tz D σ (upd H1 a (.dK (putK kvs (.inr s) v)))) : tSeq (sDPut td tk tv) tz D σ H :=
  hv H (Ex.refl _) _ fun v H1 e1 h1 => hd H1 e1 _ fun H2 e2 => hk H2 (e1.trans e2) _ fun H3 e3 => ⟨a, _, rfl, DPut.k (k := .inr s) (((e1.trans e2).trans e3) _ _ ha) (sz_lt (by omega)), k v H3 ((e1.trans e2).trans e3) (hs _ _ _ (e2.trans e3) h1)⟩
theorem s_dputT {a : Addr} {kvs : List (List Key × V)} {s1 s2 : Str} {ta : TA} (hv : Ev tv σ H v) (hd : Ev td σ H (.ref a)) (hk : EvA ta σ H [.str s1, .str s2]) (ha : H a = some (.dT kvs)) (hl : kvs.length < 1000) (k : ∀ H1, Ex H H1 → D.nx σ (upd H1 a (.dT (putK kvs [.inr s1, .inr s2] v)))) :
    sDPut td (tTup ta) tv D σ H :=
  hv H (Ex.refl _) _ fun H1 e1 => hd H1 e1 _ fun H2 e2 => hk H2 (e1.trans e2) _ fun H3 e3 => ⟨Nat.le_of_ble_eq_true rfl, fun p hp => ⟨a, _, rfl, DPut.t (k := [.inr s1, .inr s2]) ((((e1.trans e2).trans e3).trans (Ex.new hp)) _ _ ha) (show upd H3 p (.tup [.str s1, .str s2]) p = some (.tup ([Sum.inr s1, Sum.inr s2].map kV)) from upd_same) (sz_lt (by omega)),
    k _ (((e1.trans e2).trans e3).trans (Ex.new hp))⟩⟩
/-! ### lists that grow by pairs -/
theorem s_extU {l : Addr} {xs q1 q2 : List V} {t1 t2 : TA} (hl : H l = some (.lst xs)) (ha : Ev ta σ H (.ref l)) (h1 : EvA t1 σ H q1) (h2 : EvA t2 σ H q2) (l1 : q1.length ≤ 100) (l2 : q2.length ≤ 100) (hz : xs.length < 1000)
    (k : ∀ a b H1, Ex H H1 → H1 a = some (.tup q1) → H1 b = some (.tup q2) → D.nx σ (upd H1 l (.lst (xs ++ [.ref a, .ref b])))) : tDrop (tBM K "list" rExtend ta (tCons (tLst (tCons (tTup t1) (tCons (tTup t2) tNil))) tNil)) D σ H :=
  ha H (Ex.refl _) _ fun H1 e1 => ⟨Or.inl ⟨rfl, xs, sq_of (e1 l _ hl)⟩, h1 H1 e1 _ fun H2 e2 => ⟨sz_of (by omega), fun a na => h2 _ ((e1.trans e2).trans (Ex.new na)) _ fun H3 e3 => ⟨sz_of (by omega), fun b nb => ⟨sz_of (Nat.le_of_ble_eq_true rfl), fun c nc => by
    have e03 := (((e1.trans e2).trans (Ex.new na)).trans e3)
    have e4 : Ex H3 (upd H3 b (.tup q2)) := Ex.new nb
    have e5 : Ex (upd H3 b (.tup q2)) (upd (upd H3 b (.tup q2)) c (.lst [.ref a, .ref b])) := Ex.new nc
    refine ⟨l, c, xs, [.ref a, .ref b], rfl, rfl, ((e03.trans e4).trans e5) _ _ hl, upd_same, sz_of (by show xs.length + 2 ≤ 100000; omega), k a b _ ((e03.trans e4).trans e5) ?_ ?_⟩
    · exact (e3.trans (e4.trans e5)) _ _ (upd_same (H := H2) (a := a))
    · exact e5 _ _ upd_same⟩⟩⟩⟩
theorem er_opR (ha : EvR ta σ H R1) (hs : ∀ v H1 H2, Ex H1 H2 → R1 v H1 → R1 v H2) (hb : EvR tb σ H R3) (hr : ∀ x y H1, Ex H H1 → R1 x H1 → R3 y H1 → ∀ Q : VK, RetR R H1 Q → r x y H1 Q) : EvR (tOp r ta tb) σ H R := fun H1 e Q q =>
  ha H1 e _ fun v H2 e2 h1 => hb H2 (e.trans e2) _ fun w H3 e3 h3 => hr v w H3 ((e.trans e2).trans e3) (hs v _ _ e3 h1) h3 Q fun v H4 e4 h4 => q v H4 ((e2.trans e3).trans e4) h4
theorem er_tup2R (ha : EvR ta σ H R1) (hs : ∀ v H1 H2, Ex H1 H2 → R1 v H1 → R1 v H2) (hb : EvR tb σ H R3) (hs3 : ∀ v H1 H2, Ex H1 H2 → R3 v H1 → R3 v H2) : EvR (tTup (tCons ta (tCons tb tNil))) σ H fun v H2 => ∃ b x y, v = .ref b ∧ H2 b = some (.tup [x, y]) ∧ R1 x H2 ∧ R3 y H2 := fun H1 e Q q =>
  ha H1 e _ fun v H2 e2 h1 => hb H2 (e.trans e2) _ fun w H3 e3 h3 => ⟨sz_of (Nat.le_of_ble_eq_true rfl), fun p np => q _ _ ((e2.trans e3).trans (Ex.new np)) ⟨p, v, w, rfl, upd_same, hs _ _ _ (e3.trans (Ex.new np)) h1, hs3 _ _ _ (Ex.new np) h3⟩⟩
theorem q_par {i j : Nat} {ta tb : TE} (ha : EvR ta σ H R1) (hs : ∀ v H1 H2, Ex H1 H2 → R1 v H1 → R1 v H2) (hb : EvR tb σ H R3) (k : ∀ x y H1, Ex H H1 → R1 x H1 → R3 y H1 → tz D ((σ.set i (some x)).set j (some y)) H1) : tSeq (tPar i j (tCons ta (tCons tb tNil))) tz D σ H :=
  ha H (Ex.refl _) _ fun v H1 e1 h1 => hb H1 e1 _ fun w H2 e2 h2 => ⟨v, w, rfl, k v w H2 (e1.trans e2) (hs _ _ _ e2 h1) h2⟩
theorem er_newL : EvR (tLst tNil) σ H fun v H2 => ∃ p, v = .ref p ∧ H2 p = some (.lst []) := fun H1 e Q q => ⟨Nat.zero_le _, fun p np => q _ _ (Ex.new np) ⟨p, rfl, upd_same⟩⟩
end
/-! ### addresses of the items of a comprehension -/
theorem refs_ofD {α : Type} {d : α} {R : Addr → α → Prop} {vs : List α} {ys : List V} (h : Paired (fun v i => ∃ b, v = .ref b ∧ R b (vs.getD i d)) ys (List.range vs.length)) : ∃ as : List Addr, ys = as.map V.ref ∧ Paired R as vs := by
  have gen : ∀ {ys : List V} {ix : List Nat}, Paired (fun v i => ∃ b, v = .ref b ∧ R b (vs.getD i d)) ys ix → ∃ as : List Addr, ys = as.map V.ref ∧ Paired R as (ix.map fun i => vs.getD i d) := by
    intro ys ix p
    induction p with
    | nil => exact ⟨[], rfl, .nil⟩
    | cons r _ ih =>
      obtain ⟨b, e1, e2⟩ := r
      obtain ⟨as, e3, e4⟩ := ih
      exact ⟨b :: as, by rw [e1, e3]; rfl, .cons e2 e4⟩
  obtain ⟨as, e1, e2⟩ := gen h
  have e : vs = (List.range vs.length).map fun i => vs.getD i d := by
    refine List.ext_getElem? fun i => ?_
    rw [List.getElem?_map]
    by_cases h : i < vs.length
    · rw [List.getElem?_range h, List.getElem?_eq_getElem h]
      simp [List.getD_eq_getElem?_getD, h]
    · rw [List.getElem?_eq_none (by omega), List.getElem?_eq_none (by rw [List.length_range]; omega)]
      rfl
  rw [← e] at e2
  exact ⟨as, e1, e2⟩
theorem paired_app {α β : Type} {F : α → β → Prop} : ∀ {l1 l2 : List α} {m1 m2 : List β}, Paired F l1 m1 → Paired F l2 m2 → Paired F (l1 ++ l2) (m1 ++ m2)
  | _, _, _, _, .nil, h => h
  | _, _, _, _, .cons r t, h => .cons r (paired_app t h)
theorem getD_at {α : Type} {l : List α} {i : Nat} {a d : α} (h : l[i]? = some a) : l.getD i d = a := by
  rw [List.getD_eq_getElem?_getD, h]
  rfl
/-! ### sums by name -/
theorem lp_keys {vs : List Str} {L : Str → Int} : (lpairs vs L).map (·.1) = vs.map Sum.inr := by
  unfold lpairs
  rw [List.map_map]
  rfl
theorem lp_nd {vs : List Str} {L : Str → Int} (h : vs.Nodup) : ((lpairs vs L).map (·.1)).Nodup := by
  rw [lp_keys]
  exact List.Pairwise.map _ (fun _ _ h e => h (Sum.inr.inj e)) h
theorem lp_val {vs : List Str} {L : Str → Int} {x : Str} (h : vs.Nodup) (hx : x ∈ vs) : valV (lpairs vs L) (.inr x) = some (.int (L x)) := valV_mem (lp_nd h) (List.mem_map.mpr ⟨x, hx, rfl⟩)
theorem lp_put {vs : List Str} {L : Str → Int} {x : Str} {n : Int} (hx : x ∈ vs) : putK (lpairs vs L) (.inr x) (.int n) = lpairs vs fun y => if y = x then n else L y := by
  unfold putK
  have a : ((lpairs vs L).any fun kv => decide (kv.1 = Sum.inr x)) = true := List.any_eq_true.mpr ⟨_, List.mem_map.mpr ⟨x, hx, rfl⟩, decide_eq_true rfl⟩
  rw [if_pos a]
  unfold lpairs
  rw [List.map_map]
  refine List.map_congr_left fun y _ => ?_
  show (if (Sum.inr y : Key) = Sum.inr x then _ else _) = _
  by_cases e : y = x
  · rw [if_pos (congrArg _ e)]
    show (Sum.inr y, V.int n) = (Sum.inr y, V.int (if y = x then n else L y))
    rw [if_pos e]
  · rw [if_neg (fun z => e (Sum.inr.inj z))]
    show (Sum.inr y, V.int (L y)) = (Sum.inr y, V.int (if y = x then n else L y))
    rw [if_neg e]
theorem lp_len {vs : List Str} {L : Str → Int} : (lpairs vs L).length = vs.length := List.length_map _
/-! ### the last ties -/
theorem IsP.tx {H H' : Hp} {b : Addr} {vs : List Str} {P : Str → Option (Str × Nat)} (h : IsP H b vs P) (e : Tx H H') (hb : H' b = H b) : IsP H' b vs P := by
  obtain ⟨kvs, h1, h2, h3, h4⟩ := h
  exact ⟨kvs, hb.trans h1, h2, h3, fun x u i z => let ⟨t, z1, z2⟩ := h4 x u i z; ⟨t, z1, e _ _ z2⟩⟩
theorem IsP.ex {H H' : Hp} {b : Addr} {vs : List Str} {P : Str → Option (Str × Nat)} (h : IsP H b vs P) (e : Ex H H') : IsP H' b vs P := by
  obtain ⟨kvs, h1, h2, h3, h4⟩ := h
  exact ⟨kvs, e _ _ h1, h2, h3, fun x u i z => let ⟨t, z1, z2⟩ := h4 x u i z; ⟨t, z1, e _ _ z2⟩⟩
theorem IsP.len {H : Hp} {b : Addr} {vs : List Str} {P : Str → Option (Str × Nat)} (h : IsP H b vs P) : ∃ kvs : List (Key × V), H b = some (.dK kvs) ∧ kvs.length ≤ vs.length ∧ (kvs.map (·.1)).Nodup ∧ (∀ k ∈ kvs.map (·.1), ∃ x ∈ vs, k = .inr x) ∧
    ∀ x u i, P x = some (u, i) → ∃ t, valV kvs (.inr x) = some (.ref t) ∧ H t = some (.tup [.str u, .int (i : Nat)]) := by
  obtain ⟨kvs, h1, h2, h3, h4⟩ := h
  refine ⟨kvs, h1, ?_, h2, h3, h4⟩
  have z := NH.length_le_of_sub (l := kvs.map (·.1)) (m := vs.map (Sum.inr : Str → Key)) h2 fun k hk => by
    obtain ⟨x, hx, e⟩ := h3 k hk
    exact List.mem_map.mpr ⟨x, hx, e.symm⟩
  rw [List.length_map, List.length_map] at z
  exact z
theorem put_keys {kvs : List (Key × V)} {k : Key} {v : V} (hn : (kvs.map (·.1)).Nodup) : ((putK kvs k v).map (·.1)).Nodup ∧ ∀ j ∈ (putK kvs k v).map (·.1), j = k ∨ j ∈ kvs.map (·.1) := by
  cases e : valV kvs k with
  | none =>
    rw [putK_new v e, List.map_append]
    refine ⟨nd_snoc hn (valV_not e), fun j hj => ?_⟩
    rcases List.mem_append.mp hj with h | h
    · exact Or.inr h
    · exact Or.inl (List.mem_singleton.mp h)
  | some w =>
    have a : (kvs.any fun kv => decide (kv.1 = k)) = true := by rw [valV_any, e]; rfl
    have z : (putK kvs k v).map (·.1) = kvs.map (·.1) := by
      unfold putK
      rw [if_pos a, List.map_map]
      refine List.map_congr_left fun p _ => ?_
      show (if p.1 = k then (p.1, v) else p).1 = p.1
      by_cases c : p.1 = k
      · rw [if_pos c]
      · rw [if_neg c]
    rw [z]
    exact ⟨hn, fun j hj => Or.inr hj⟩
section
variable {K : PySem.W.Frag} {σ : L2.St} {H : Hp}
/-- (a, b) == (c, d), good names -/
theorem ev_eqT2 {a b c d : Str} {ta tb : TA} (ga : goodName a = true) (gb : goodName b = true) (gc : goodName c = true) (gd : goodName d = true) (ha : EvA ta σ H [.str a, .str b]) (hb : EvA tb σ H [.str c, .str d]) :
    Ev (tOp (rEqD K) (tTup ta) (tTup tb)) σ H (.bl (decide (a = c ∧ b = d))) :=
  ev_opR (er_tup ha (Nat.le_of_ble_eq_true rfl)) tupAt_ex (er_tup hb (Nat.le_of_ble_eq_true rfl)) fun x y H1 e1 ⟨p, e2, hp⟩ ⟨q, e3, hq⟩ => by
    subst e2 e3
    intro H2 e2 Q k
    refine ⟨.tuple [.str a, .str b], .tuple [.str c, .str d], .tup (st_of (e2 _ _ hp)) (.cons (.str _) (.cons (.str _) .nil)), .tup (st_of (e2 _ _ hq)) (.cons (.str _) (.cons (.str _) .nil)), shaped2 ga gb, shaped2 gc gd, ?_⟩
    rw [eqv_two]
    exact k H2 (Ex.refl _)
end
theorem bnd_cons {w : Q4} {r : List Q4} {a b : Str} : bnd (w :: r) a b = if (w.1 = a ∧ w.2.1 = b) ∨ (w.2.1 = a ∧ w.1 = b) then some (w.2.2.1, w.2.2.2) else bnd r a b := by
  unfold bnd
  rw [List.find?_cons]
  by_cases c : (w.1 = a ∧ w.2.1 = b) ∨ (w.2.1 = a ∧ w.1 = b)
  · rw [decide_eq_true c, if_pos c]
    rfl
  · rw [decide_eq_false c, if_neg c]
/-- a tie tells its letter -/
theorem tie_is {T : Twn} {lot : List Str} {t : NH.Tie Str} : ∀ {run : List Q4} {k : Nat}, (∀ l ∈ run, ∃ p, bnd T.wires l.1 l.2.1 = some p) → t ∈ tiesFrom T lot k run →
    ∃ l lo hi, k ≤ t.idx ∧ run[t.idx - k]? = some l ∧ bnd T.wires l.1 l.2.1 = some (lo, hi) ∧ l.1 ∉ lot ∧ l.2.1 ∉ lot ∧
      ((t.one = l.1 ∧ t.other = l.2.1 ∧ t.most = l.2.2.2 - l.2.2.1 - lo) ∨ (t.one = l.2.1 ∧ t.other = l.1 ∧ t.most = hi - l.2.2.2 + l.2.2.1))
  | [], _, _, h => by cases h
  | l :: r, k, hb, h => by
    have h : t ∈ tiesAt T lot k l ++ tiesFrom T lot (k + 1) r := h
    rcases List.mem_append.mp h with h | h
    · obtain ⟨⟨lo, hi⟩, hp⟩ := hb l List.mem_cons_self
      unfold tiesAt at h
      by_cases c : l.1 ∉ lot ∧ l.2.1 ∉ lot
      · rw [if_pos c, hp] at h
        rcases List.mem_cons.mp h with e | h
        · subst e
          exact ⟨l, lo, hi, Nat.le_refl _, by show (l :: r)[k - k]? = some l; rw [Nat.sub_self]; rfl, hp, c.1, c.2, Or.inl ⟨rfl, rfl, rfl⟩⟩
        · have e := List.mem_singleton.mp h
          subst e
          exact ⟨l, lo, hi, Nat.le_refl _, by show (l :: r)[k - k]? = some l; rw [Nat.sub_self]; rfl, hp, c.1, c.2, Or.inr ⟨rfl, rfl, rfl⟩⟩
      · rw [if_neg c] at h
        cases h
    · obtain ⟨l', lo, hi, h1, h2, h3⟩ := tie_is (fun x hx => hb x (List.mem_cons_of_mem _ hx)) h
      refine ⟨l', lo, hi, by omega, ?_, h3⟩
      rw [show t.idx - k = (t.idx - (k + 1)) + 1 by omega]
      exact h2
theorem tiesFrom_snoc (T : Twn) (lot : List Str) (l : Q4) : ∀ (k : Nat) (r : List Q4), tiesFrom T lot k (r ++ [l]) = tiesFrom T lot k r ++ tiesAt T lot (k + r.length) l
  | k, [] => by
    show tiesAt T lot k l ++ [] = [] ++ tiesAt T lot (k + 0) l
    rw [List.append_nil, List.nil_append, Nat.add_zero]
  | k, a :: r => by
    show tiesAt T lot k a ++ tiesFrom T lot (k + 1) (r ++ [l]) = (tiesAt T lot k a ++ tiesFrom T lot (k + 1) r) ++ tiesAt T lot (k + (r.length + 1)) l
    rw [tiesFrom_snoc T lot l (k + 1) r, List.append_assoc, show k + 1 + r.length = k + (r.length + 1) by omega]
theorem tiesOf_take {T : Twn} {lot : List Str} {run : List Q4} {i : Nat} {l : Q4} (h : run[i]? = some l) : tiesOf T (run.take (i + 1)) lot = tiesOf T (run.take i) lot ++ tiesAt T lot i l := by
  obtain ⟨hi, _⟩ := List.getElem?_eq_some_iff.mp h
  have e : run.take (i + 1) = run.take i ++ [l] := by rw [List.take_add_one, h]; rfl
  unfold tiesOf
  rw [e, tiesFrom_snoc, List.length_take, Nat.min_eq_left (Nat.le_of_lt hi), Nat.zero_add]
theorem tiesOf_len {T : Twn} {lot : List Str} : ∀ (k : Nat) (r : List Q4), (tiesFrom T lot k r).length ≤ 2 * r.length
  | _, [] => Nat.zero_le _
  | k, a :: r => by
    have ih := tiesOf_len (T := T) (lot := lot) (k + 1) r
    have h1 : (tiesAt T lot k a).length ≤ 2 := by
      unfold tiesAt
      by_cases c : a.1 ∉ lot ∧ a.2.1 ∉ lot
      · rw [if_pos c]; exact Nat.le_refl _
      · rw [if_neg c]; exact Nat.zero_le _
    show (tiesAt T lot k a ++ tiesFrom T lot (k + 1) r).length ≤ 2 * (r.length + 1)
    rw [List.length_append]
    omega
theorem tiesAt_yes {T : Twn} {lot : List Str} {k : Nat} {l : Q4} {lo hi : Int} (h : l.1 ∉ lot ∧ l.2.1 ∉ lot) (hb : bnd T.wires l.1 l.2.1 = some (lo, hi)) :
    tiesAt T lot k l = [⟨l.1, l.2.1, l.2.2.2 - l.2.2.1 - lo, k⟩, ⟨l.2.1, l.1, hi - l.2.2.2 + l.2.2.1, k⟩] := by
  unfold tiesAt
  rw [if_pos h, hb]
  rfl
theorem tiesAt_no {T : Twn} {lot : List Str} {k : Nat} {l : Q4} (h : ¬ (l.1 ∉ lot ∧ l.2.1 ∉ lot)) : tiesAt T lot k l = [] := if_neg h
theorem tie_ends {T : Twn} (G : GoodTown T) {lot : List Str} : ∀ {run : List Q4} {k : Nat}, (∀ l ∈ run, ∃ p, bnd T.wires l.1 l.2.1 = some p) → ∀ t ∈ tiesFrom T lot k run, t.one ∈ outs T lot ∧ t.other ∈ outs T lot ∧ t.one ≠ t.other
  | [], _, _, t, ht => by cases ht
  | l :: r, k, h, t, ht => by
    have ht : t ∈ tiesAt T lot k l ++ tiesFrom T lot (k + 1) r := ht
    rcases List.mem_append.mp ht with ht | ht
    · obtain ⟨p, hp⟩ := h l List.mem_cons_self
      obtain ⟨m1, m2, ne, _⟩ := bnd_ends G hp
      unfold tiesAt at ht
      by_cases c : l.1 ∉ lot ∧ l.2.1 ∉ lot
      · rw [if_pos c] at ht
        have o1 : l.1 ∈ outs T lot := List.mem_filter.mpr ⟨m1, decide_eq_true c.1⟩
        have o2 : l.2.1 ∈ outs T lot := List.mem_filter.mpr ⟨m2, decide_eq_true c.2⟩
        rcases List.mem_cons.mp ht with e | ht
        · subst e
          exact ⟨o1, o2, ne⟩
        · have e := List.mem_singleton.mp ht
          subst e
          exact ⟨o2, o1, ne.symm⟩
      · rw [if_neg c] at ht
        cases ht
    · exact tie_ends G (fun x hx => h x (List.mem_cons_of_mem _ hx)) t ht
theorem outs_nd {T : Twn} (G : GoodTown T) {lot : List Str} : (outs T lot).Nodup := (List.Pairwise.imp (fun h => lt_ne h) G.nms.asc).filter _
theorem down_ne {α : Type} {f : Nat → α} {n : Nat} (h : 1 ≤ n) : NH.down f n ≠ [] := by
  cases n with
  | zero => omega
  | succ n => exact fun z => by cases z
theorem down_len {α : Type} {f : Nat → α} : ∀ n : Nat, (NH.down f n).length = n
  | 0 => rfl
  | n + 1 => congrArg Nat.succ (down_len n)
theorem er_lst1 {σ : L2.St} {H : Hp} {te : TE} {R1 : V → Hp → Prop} (h : EvR te σ H R1) (hs : ∀ v H1 H2, Ex H1 H2 → R1 v H1 → R1 v H2) : EvR (tLst (tCons te tNil)) σ H fun v H2 => ∃ p x, v = .ref p ∧ H p = none ∧ H2 p = some (.lst [x]) ∧ R1 x H2 := fun H1 e Q q =>
  h H1 e _ fun x H2 e2 h2 => ⟨sz_of (Nat.le_of_ble_eq_true rfl), fun p np => q _ _ (e2.trans (Ex.new np)) ⟨p, x, rfl, fresh_back (e.trans e2) np, upd_same, hs _ _ _ (Ex.new np) h2⟩⟩
theorem paired_rev {α β : Type} {F : α → β → Prop} : ∀ {l : List α} {m : List β}, Paired F l m → Paired F l.reverse m.reverse
  | _, _, .nil => .nil
  | _, _, .cons r t => by
    rw [List.reverse_cons, List.reverse_cons]
    exact paired_app (paired_rev t) (.cons r .nil)
theorem sz_of' {n : Nat} (h : n ≤ 100) : n ≤ 100000 := by omega
theorem q_asgT {σ : L2.St} {H : Hp} {te : TE} {R : V → Hp → Prop} {g : TG} {tz : TS} {D : Ends} (h : EvR te σ H R) (k : ∀ v H1, Ex H H1 → R v H1 → g v σ H1 (tz D)) : tSeq (tAsg te g) tz D σ H := h H (Ex.refl _) _ fun v H1 e hr => k v H1 e hr
theorem s_asgT {σ : L2.St} {H : Hp} {te : TE} {R : V → Hp → Prop} {g : TG} {D : Ends} (h : EvR te σ H R) (k : ∀ v H1, Ex H H1 → R v H1 → g v σ H1 D.nx) : tAsg te g D σ H := h H (Ex.refl _) _ fun v H1 e hr => k v H1 e hr
end K14
set_option Elab.async false
set_option linter.all false
set_option maxRecDepth 100000
set_option maxHeartbeats 4000000
namespace K14
open PySem PySem.Spec PyProof.Rows L2 Evl
/-! ### all stays but one object -/
theorem Exb.refl (d : Addr) (H : Hp) : Exb d H H := fun _ _ _ h => h
theorem Exb.trans {d : Addr} {H H1 H2 : Hp} (a : Exb d H H1) (b : Exb d H1 H2) : Exb d H H2 := fun x o n h => b x o n (a x o n h)
theorem Exb.of {d : Addr} {H H' : Hp} (e : Ex H H') : Exb d H H' := fun x o _ h => e x o h
theorem Exb.set {d : Addr} {H H' : Hp} {o : HO} (e : Exb d H H') : Exb d H (upd H' d o) := fun x u n h => by
  rw [upd_ne n]
  exact e x u n h
theorem Exb.ex {d : Addr} {H H1 H2 : Hp} (a : Exb d H H1) (e : Ex H1 H2) : Exb d H H2 := a.trans (Exb.of e)
theorem Exb.tx {d : Addr} {H H' : Hp} (e : Exb d H H') (h : ∀ xs, H d ≠ some (.tup xs)) : Tx H H' := fun a xs z => e a _ (fun q => h xs (q ▸ z)) z
theorem Exb.base {d : Addr} {H H1 H2 : Hp} (a : Ex H H1) (h : H d = none) (e : Exb d H1 H2) : Ex H H2 := fun x o z => e x o (fun q => by rw [q, h] at z; cases z) (a x o z)
section
variable {K : PySem.W.Frag} {σ : L2.St} {H H' : Hp} {ta tb td tk tv te tx : TE} {t u tt : TT} {x y z v : V} {D : Ends} {tz : TS} {r : R2} {R R1 R3 : V → Hp → Prop}
theorem ev_dget2T {a : Addr} {kvs : List (List Key × V)} {s1 s2 : Str} {ta : TA} (hd : Ev td σ H (.ref a)) (hk : EvA ta σ H [.str s1, .str s2]) (hx : Ev tx σ H v) (ha : H a = some (.dT kvs)) : Ev (tDGet2 td (tTup ta) tx) σ H ((valV kvs [.inr s1, .inr s2]).getD v) := fun H1 e Q q =>
  hd H1 e _ fun H2 e2 => ⟨a, rfl, Or.inr ⟨kvs, Or.inl ((e.trans e2) _ _ ha)⟩, hk H2 (e.trans e2) _ fun H3 e3 => ⟨Nat.le_of_ble_eq_true rfl, fun p hp => hx _ (((e.trans e2).trans e3).trans (Ex.new hp)) _ fun H4 e4 => ⟨valV kvs [.inr s1, .inr s2],
    DGet.t (k := [.inr s1, .inr s2]) (((((e.trans e2).trans e3).trans (Ex.new hp)).trans e4) _ _ ha) (e4 _ _ (show upd H3 p (.tup [.str s1, .str s2]) p = some (.tup ([Sum.inr s1, Sum.inr s2].map kV)) from upd_same)), q _ (((e2.trans e3).trans (Ex.new hp)).trans e4)⟩⟩⟩
theorem ev_min2 {i j : Int} (ha : Ev ta σ H (.int i)) (hb : Ev tb σ H (.int j)) : Ev (tCB (rMin K) (tCons (tLst (tCons ta (tCons tb tNil))) tNil)) σ H (.int (min i j)) := fun H1 e Q q =>
  ha H1 e _ fun H2 e2 => hb H2 (e.trans e2) _ fun H3 e3 => ⟨Nat.le_of_ble_eq_true rfl, fun p np => ⟨p, [i, j], rfl, sq_of upd_same, Nat.succ_pos _, fun m hm hy => by
    have e1 := hy i (by simp)
    have e4 := hy j (by simp)
    have e5 : m = min i j := by
      rcases List.mem_cons.mp hm with z | z
      · omega
      · have z := List.mem_singleton.mp z
        omega
    rw [e5]
    exact q _ ((e2.trans e3).trans (Ex.new np))⟩⟩
theorem er_newT : EvR tDNewT σ H fun v H2 => ∃ p, v = .ref p ∧ H p = none ∧ H2 p = some (.dT []) := fun H1 e Q q p np => q _ _ (Ex.new np) ⟨p, rfl, fresh_back e np, upd_same⟩
theorem er_newLF : EvR (tLst tNil) σ H fun v H2 => ∃ p, v = .ref p ∧ H p = none ∧ H2 p = some (.lst []) := fun H1 e Q q => ⟨Nat.zero_le _, fun p np => q _ _ (Ex.new np) ⟨p, rfl, fresh_back e np, upd_same⟩⟩
theorem s_appR {l : Addr} {xs : List V} (hl : H l = some (.lst xs)) (ha : Ev ta σ H (.ref l)) (h : EvR te σ H R1) (hz : xs.length < 100000) (k : ∀ v H1, Ex H H1 → R1 v H1 → D.nx σ (upd H1 l (.lst (xs ++ [v])))) :
    tDrop (tBM K "list" rAppend ta (tCons te tNil)) D σ H := ha H (Ex.refl H) _ fun H1 e1 =>
  ⟨Or.inl ⟨rfl, xs, sq_of (e1 l _ hl)⟩, h H1 e1 _ fun v H2 e2 h2 => ⟨l, xs, v, rfl, rfl, e2 l _ (e1 l _ hl), sz_lt hz, k v H2 (e1.trans e2) h2⟩⟩
theorem q_appR {l : Addr} {xs : List V} (hl : H l = some (.lst xs)) (ha : Ev ta σ H (.ref l)) (h : EvR te σ H R1) (hz : xs.length < 100000) (k : ∀ v H1, Ex H H1 → R1 v H1 → tz D σ (upd H1 l (.lst (xs ++ [v])))) :
    tSeq (tDrop (tBM K "list" rAppend ta (tCons te tNil))) tz D σ H := s_appR (D := { D with nx := tz D }) hl ha h hz k
/-- if c: l.append(e), then the rest from one word -/
theorem q_whenApp {b : Bool} {M : Hp → Prop} {l : Addr} {xs : List V} (h : EvT t σ H b) (hl : H l = some (.lst xs)) (ha : Ev ta σ H (.ref l)) (he : Ev te σ H v) (hz : xs.length < 100000) (h1 : b = true → ∀ H1, Ex H H1 → M (upd H1 l (.lst (xs ++ [v]))))
    (h2 : b = false → ∀ H1, Ex H H1 → M H1) (k : ∀ H1, M H1 → tz D σ H1) : tSeq (tIfS t (tDrop (tBM K "list" rAppend ta (tCons te tNil))) tNext) tz D σ H :=
  q_when h (fun hb H1 e1 => s_app (D := { D with nx := tz D }) (e1 _ _ hl) (ha.mono e1) (he.mono e1) hz fun H2 e2 => k _ (h1 hb H2 (e1.trans e2))) fun hb H1 e1 => k _ (h2 hb H1 e1)
theorem q_popT {l : Addr} {xs : List V} {g : TG} (hl : H l = some (.lst xs)) (ha : Ev ta σ H (.ref l)) (hy : xs[xs.length - 1]? = some v) (k : ∀ H1, Ex H H1 → g v σ (upd H1 l (.lst xs.dropLast)) (tz D)) : tSeq (tAsg (tBM0 K "list" rPop ta) g) tz D σ H :=
  ha H (Ex.refl _) _ fun H1 e1 => ⟨Or.inl ⟨rfl, xs, sq_of (e1 l _ hl)⟩, l, xs, v, rfl, rfl, e1 l _ hl, hy, k H1 e1⟩
end
theorem paired_unsnoc {α β : Type} {F : α → β → Prop} : ∀ {l : List α} {m : List β} {b : β}, Paired F l (m ++ [b]) → ∃ l0 a, l = l0 ++ [a] ∧ Paired F l0 m ∧ F a b
  | _, [], _, h => by
    cases h with
    | cons r t => cases t; exact ⟨[], _, rfl, .nil, r⟩
  | _, _ :: m, _, h => by
    cases h with
    | cons r t =>
      obtain ⟨l0, a, e, p, f⟩ := paired_unsnoc (m := m) t
      exact ⟨_ :: l0, a, by rw [e]; rfl, .cons r p, f⟩
/-! ### the search's stack -/
def IsEl (H : Hp) (b : Addr) (e : NH.El Str) : Prop := ∃ q, H b = some (.tup [.ref q, .int e.2]) ∧ IsTs H q e.1
theorem IsEl.tx {H H' : Hp} {b : Addr} {x : NH.El Str} (e : Tx H H') (h : IsEl H b x) : IsEl H' b x := let ⟨q, h1, h2⟩ := h; ⟨q, e _ _ h1, h2.tx e⟩
def del (e : NH.El Str) : PyData := .tuple [.tuple (e.1.map .str), .int e.2]
theorem dp_strs {K : PySem.W.Frag} {H : Hp} : ∀ {xs : List Str}, DpAll K H (xs.map V.str) (xs.map PyData.str)
  | [] => .nil
  | x :: _ => .cons (.str x) dp_strs
theorem dp_els {K : PySem.W.Frag} {H : Hp} {bs : List Addr} {st : List (NH.El Str)} (h : Paired (IsEl H) bs st) : DpAll K H (bs.map V.ref) (st.map del) := by
  induction h with
  | nil => exact .nil
  | cons r _ ih =>
    obtain ⟨q, h1, h2⟩ := r
    exact .cons (.tup (st_of h1) (.cons (.tup (st_of h2) dp_strs) (.cons (.int _) .nil))) ih
theorem dp_tups {K : PySem.W.Frag} {H : Hp} {bs : List Addr} {st : List (List Str)} (h : Paired (IsTs H) bs st) : DpAll K H (bs.map V.ref) (st.map fun l => .tuple (l.map PyData.str)) := by
  induction h with
  | nil => exact .nil
  | cons r _ ih => exact .cons (.tup (st_of r) dp_strs) ih
theorem lay_strs : ∀ {xs : List Str}, (∀ x ∈ xs, goodName x = true) → PyData.canLayAll0 (xs.map PyData.str) = true ∧ PyData.depthAll (xs.map PyData.str) ≤ 1
  | [], _ => ⟨rfl, Nat.zero_le _⟩
  | x :: r, h => by
    obtain ⟨h1, h2⟩ := lay_strs fun y hy => h y (List.mem_cons_of_mem _ hy)
    have h3 := strOk_good (h x List.mem_cons_self)
    refine ⟨by rw [List.map_cons]; simp [PyData.canLayAll0, PyData.canLay0, h1, h3], ?_⟩
    rw [List.map_cons]
    simp only [PyData.depthAll, PyData.depth]
    omega
theorem shaped_tups {st : List (List Str)} (h : ∀ l ∈ st, ∀ x ∈ l, goodName x = true) : SeqAt.shaped (.list (st.map fun l => .tuple (l.map PyData.str))) = true := by
  have h1 : ∀ m : List (List Str), (∀ l ∈ m, ∀ x ∈ l, goodName x = true) → PyData.canLayAll0 (m.map fun l => .tuple (l.map PyData.str)) = true ∧ PyData.depthAll (m.map fun l => .tuple (l.map PyData.str)) ≤ 2 := by
    intro m
    induction m with
    | nil => intro _; exact ⟨rfl, Nat.zero_le _⟩
    | cons s r ih =>
      intro hl
      obtain ⟨z1, z2⟩ := ih fun x hx => hl x (List.mem_cons_of_mem _ hx)
      obtain ⟨z3, z4⟩ := lay_strs (hl s List.mem_cons_self)
      refine ⟨by rw [List.map_cons]; simp [PyData.canLayAll0, PyData.canLay0, z1, z3], ?_⟩
      rw [List.map_cons]
      simp only [PyData.depthAll, PyData.depth]
      omega
  obtain ⟨z1, z2⟩ := h1 st h
  show (PyData.canLayAll0 _ && decide (PyData.depthAll _ + 1 ≤ 64)) = true
  rw [z1, Bool.true_and]
  exact decide_eq_true (by omega)
theorem shaped_els {st : List (NH.El Str)} (h : ∀ e ∈ st, ∀ x ∈ e.1, goodName x = true) : SeqAt.shaped (.list (st.map del)) = true := by
  have h1 : ∀ m : List (NH.El Str), (∀ e ∈ m, ∀ x ∈ e.1, goodName x = true) → PyData.canLayAll0 (m.map del) = true ∧ PyData.depthAll (m.map del) ≤ 3 := by
    intro m
    induction m with
    | nil => intro _; exact ⟨rfl, Nat.zero_le _⟩
    | cons s r ih =>
      intro hl
      obtain ⟨z1, z2⟩ := ih fun x hx => hl x (List.mem_cons_of_mem _ hx)
      obtain ⟨z3, z4⟩ := lay_strs (hl s List.mem_cons_self)
      refine ⟨by rw [List.map_cons]; simp [PyData.canLayAll0, PyData.canLay0, del, z1, z3], ?_⟩
      rw [List.map_cons]
      simp only [PyData.depthAll, PyData.depth, del]
      omega
  obtain ⟨z1, z2⟩ := h1 st h
  show (PyData.canLayAll0 _ && decide (PyData.depthAll _ + 1 ≤ 64)) = true
  rw [z1, Bool.true_and]
  exact decide_eq_true (by omega)
/-- comprehensions whose turns give something of a kind -/
theorem er_lcT {K : PySem.W.Frag} {σ : L2.St} {H : Hp} {tl te : TE} {tt : TT} {a : Addr} {xs : List V} {j : Nat} {vs : List Nat} {R' : V → Hp → Prop} {f : Nat → Bool} {R : Nat → V → Hp → Prop} (h : Ev tl σ H (.ref a)) (hx : SqT K H a xs) (hz : xs.length < 50000) (hw : ∀ x, wipe ((wipe σ vs).set j (some x)) vs = wipe σ vs) (hR : ∀ j y H2 H3, Tx H2 H3 → R j y H2 → R j y H3)
    (ht : ∀ i x H2, xs[i]? = some x → Ex H H2 → EvT tt ((wipe σ vs).set j (some x)) H2 (f i) ∧ (f i = true → EvR te ((wipe σ vs).set j (some x)) H2 (R i)))
    (hd : ∀ p ys H2, H p = none → Ex H H2 → H2 p = some (.lst ys) → Paired (fun y i => R i y H2) ys ((List.range xs.length).filter f) → R' (.ref p) H2) : EvR (tLc (iTup K tl) (gName j) tt te vs) σ H R' := fun H0 e Q q =>
  h H0 e _ fun H1 e1 => ⟨a, rfl, ⟨xs, ex_t (e.trans e1) hx⟩, fun Dl hD => lc_rel (f := f) (R := R) (walk_tup (xs := xs)) hD hz (fun H2 e2 => ex_t ((e.trans e1).trans e2) hx) (fun _ _ _ _ z => yat_ex z) hR (fun i H2 x H3 hi e2 yv _ kk => by
    obtain ⟨e3, hv⟩ := yv
    subst e3
    obtain ⟨z1, z2⟩ := ht i x H3 hv ((e.trans e1).trans e2)
    exact kk _ (hw x) z1 z2) fun ys H2 e2 h2 hp => q _ H2 (e1.trans e2) (hd Dl ys H2 (fresh_back (e.trans e1) hD) ((e.trans e1).trans e2) h2 hp)⟩
theorem er_lcL {K : PySem.W.Frag} {σ : L2.St} {H : Hp} {tl te : TE} {tt : TT} {a : Addr} {xs : List V} {j : Nat} {vs : List Nat} {R' : V → Hp → Prop} {f : Nat → Bool} {R : Nat → V → Hp → Prop} (h : Ev tl σ H (.ref a)) (hx : SqL K H a xs) (hz : xs.length < 50000) (hw : ∀ x, wipe ((wipe σ vs).set j (some x)) vs = wipe σ vs) (hR : ∀ j y H2 H3, Tx H2 H3 → R j y H2 → R j y H3)
    (ht : ∀ i x H2, xs[i]? = some x → Ex H H2 → EvT tt ((wipe σ vs).set j (some x)) H2 (f i) ∧ (f i = true → EvR te ((wipe σ vs).set j (some x)) H2 (R i)))
    (hd : ∀ p ys H2, H p = none → Ex H H2 → H2 p = some (.lst ys) → Paired (fun y i => R i y H2) ys ((List.range xs.length).filter f) → R' (.ref p) H2) : EvR (tLc (iList K tl) (gName j) tt te vs) σ H R' := fun H0 e Q q =>
  h H0 e _ fun H1 e1 => ⟨a, rfl, ⟨xs, ex_l (e.trans e1) hx⟩, fun Dl hD => lc_rel (f := f) (R := R) (walk_list (xs := xs)) hD hz (fun H2 e2 => ex_l ((e.trans e1).trans e2) hx) (fun _ _ _ _ z => yat_ex z) hR (fun i H2 x H3 hi e2 yv _ kk => by
    obtain ⟨e3, hv⟩ := yv
    subst e3
    obtain ⟨z1, z2⟩ := ht i x H3 hv ((e.trans e1).trans e2)
    exact kk _ (hw x) z1 z2) fun ys H2 e2 h2 hp => q _ H2 (e1.trans e2) (hd Dl ys H2 (fresh_back (e.trans e1) hD) ((e.trans e1).trans e2) h2 hp)⟩
theorem exts_yes {W : Str → Str → Option Int} {f l : Str} {q : List Str} {t w : Int} {names : List Str} {y : Str} (c1 : lt f y) (c2 : y ∉ q) (hw : W l y = some w) : NH.exts lt W f l q t (names ++ [y]) = NH.exts lt W f l q t names ++ [(q ++ [y], t + w)] := by
  rw [NH.exts_snoc, if_pos ⟨c1, c2⟩, hw]
theorem exts_no {W : Str → Str → Option Int} {f l : Str} {q : List Str} {t : Int} {names : List Str} {y : Str} (h : (decide (lt f y) && (!decide (y ∈ q) && (W l y).isSome)) = false) : NH.exts lt W f l q t (names ++ [y]) = NH.exts lt W f l q t names := by
  rw [NH.exts_snoc]
  by_cases c : lt f y ∧ y ∉ q
  · rw [if_pos c]
    rw [decide_eq_true c.1, decide_eq_false c.2] at h
    cases hw : W l y with
    | none => exact List.append_nil _
    | some w => rw [hw] at h; cases h
  · rw [if_neg c, List.append_nil]
/-- the dict of the least sums -/
def DictW (H : Hp) (l : Addr) (W : Str → Str → Option Int) (n : Nat) : Prop := ∃ kvs : List (List Key × V), H l = some (.dT kvs) ∧ kvs.length ≤ n ∧ ∀ a b, valV kvs [.inr a, .inr b] = (W a b).map V.int
end K14
set_option Elab.async false
set_option linter.all false
set_option maxRecDepth 100000
set_option maxHeartbeats 4000000
namespace K14
open PySem PySem.Spec PyProof.Rows L2 Evl
/-! ### the feed -/
def feedK (c : Addr) (sp ov tu : Int) : List (Key × V) := [(.inr "cells", .ref c), (.inr "spot", .int sp), (.inr "over", .int ov), (.inr "turn", .int tu)]
theorem feed_cells {c : Addr} {sp ov tu : Int} : valV (feedK c sp ov tu) (.inr "cells") = some (.ref c) := rfl
theorem feed_spot {c : Addr} {sp ov tu : Int} : valV (feedK c sp ov tu) (.inr "spot") = some (.int sp) := rfl
theorem feed_over {c : Addr} {sp ov tu : Int} : valV (feedK c sp ov tu) (.inr "over") = some (.int ov) := rfl
theorem feed_turn {c : Addr} {sp ov tu : Int} : valV (feedK c sp ov tu) (.inr "turn") = some (.int tu) := rfl
theorem feed_pspot {c : Addr} {sp ov tu n : Int} : putK (feedK c sp ov tu) (.inr "spot") (.int n) = feedK c n ov tu := rfl
theorem feed_pover {c : Addr} {sp ov tu n : Int} : putK (feedK c sp ov tu) (.inr "over") (.int n) = feedK c sp n tu := rfl
theorem feed_pturn {c : Addr} {sp ov tu n : Int} : putK (feedK c sp ov tu) (.inr "turn") (.int n) = feedK c sp ov n := rfl
theorem IsFeed.ex {H H' : Hp} {d c : Addr} (e : Ex H H') (h : IsFeed H d c) : IsFeed H' d c := let ⟨cells, sp, ov, tu, h1, h2, h3⟩ := h; ⟨cells, sp, ov, tu, e _ _ h1, e _ _ h2, h3⟩
theorem IsFeed.tx {H H' : Hp} {d c : Addr} (h : IsFeed H d c) (e : Exb d H H') : Tx H H' := e.tx fun xs z => by
  obtain ⟨cells, sp, ov, tu, h1, _⟩ := h
  rw [h1] at z
  cases z
section
variable {K : PySem.W.Frag} {σ : L2.St} {H H' : Hp} {ta tb td tk tv te tx tl : TE} {t u tt : TT} {x y z v : V} {D : Ends} {tz : TS} {r : R2} {R R1 R3 : V → Hp → Prop}
def rInt1 : List V → Hp → VK → Prop := fun xs H Q => (∃ i, xs = [.int i] ∧ Q (.int i) H) ∨ ∃ k, xs = [.bl k] ∧ Q (.int (if k then 1 else 0)) H
theorem ev_int1 {i : Int} (h : Ev te σ H (.int i)) : Ev (tCB rInt1 (tCons te tNil)) σ H (.int i) := fun H1 e Q q => h H1 e _ fun H2 e2 => Or.inl ⟨i, rfl, q H2 e2⟩
theorem el_slL {tl th : TO} {a : Addr} {xs : List V} {lo hi : Option Int} (h : Ev te σ H (.ref a)) (h1 : EvO tl σ H lo) (h2 : EvO th σ H hi) (hs : SqL K H a xs) : EvL (tSl (rSlL K) te tl th) σ H (cutV xs lo hi) := fun H1 e Q q =>
  h H1 e _ fun H2 e2 => h1 H2 (e.trans e2) _ fun H3 e3 => h2 H3 ((e.trans e2).trans e3) _ fun H4 e4 => ⟨a, xs, rfl, ex_l (e.trans ((e2.trans e3).trans e4)) hs, fun p np => q p _ (fresh_back ((e2.trans e3).trans e4) np) (((e2.trans e3).trans e4).trans (Ex.new np)) upd_same⟩
theorem er_lcN {xs : List V} {j : Nat} {vs : List Nat} {R' : V → Hp → Prop} {f : Nat → Bool} {R : Nat → V → Hp → Prop} (h : EvL tl σ H xs) (hz : xs.length < 50000) (hw : ∀ x, wipe ((wipe σ vs).set j (some x)) vs = wipe σ vs) (hR : ∀ j y H2 H3, Tx H2 H3 → R j y H2 → R j y H3)
    (ht : ∀ i x H2, xs[i]? = some x → Ex H H2 → EvT tt ((wipe σ vs).set j (some x)) H2 (f i) ∧ (f i = true → EvR te ((wipe σ vs).set j (some x)) H2 (R i)))
    (hd : ∀ p ys H2, H p = none → Ex H H2 → H2 p = some (.lst ys) → Paired (fun y i => R i y H2) ys ((List.range xs.length).filter f) → R' (.ref p) H2) : EvR (tLc (iList K tl) (gName j) tt te vs) σ H R' := fun H0 e Q q =>
  h H0 e _ fun a H1 na e1 ha => ⟨a, rfl, ⟨xs, sq_of ha⟩, fun Dl hD => lc_rel (f := f) (R := R) (walk_list (xs := xs)) hD hz (fun H2 e2 => sq_of (e2 _ _ ha)) (fun _ _ _ _ z => yat_ex z) hR (fun i H2 x H3 hi e2 yv _ kk => by
    obtain ⟨e3, hv⟩ := yv
    subst e3
    obtain ⟨z1, z2⟩ := ht i x H3 hv ((e.trans e1).trans e2)
    exact kk _ (hw x) z1 z2) fun ys H2 e2 h2 hp => q _ H2 (e1.trans e2) (hd Dl ys H2 (fresh_back (e.trans e1) hD) ((e.trans e1).trans e2) h2 hp)⟩
end
/-- the items of a comprehension, as whole numbers -/
theorem ints_ofD {ns : List Int} {ys : List V} (h : Paired (fun v i => v = .int (ns.getD i 0)) ys (List.range ns.length)) : ys = ns.map V.int := by
  have gen : ∀ {ys : List V} {ix : List Nat}, Paired (fun v i => v = .int (ns.getD i 0)) ys ix → ys = ix.map fun i => V.int (ns.getD i 0) := by
    intro ys ix p
    induction p with
    | nil => rfl
    | cons r _ ih => rw [r, ih]; rfl
  rw [gen h]
  refine List.ext_getElem? fun i => ?_
  rw [List.getElem?_map, List.getElem?_map]
  by_cases h : i < ns.length
  · rw [List.getElem?_range h, List.getElem?_eq_getElem h]
    simp [List.getD_eq_getElem?_getD, h]
  · rw [List.getElem?_eq_none (by rw [List.length_range]; omega), List.getElem?_eq_none (by omega)]
    rfl
theorem shaped_ints {ns : List Int} : SeqAt.shaped (.list (ns.map PyData.int)) = true := by
  have h1 : ∀ m : List Int, PyData.canLayAll0 (m.map PyData.int) = true ∧ PyData.depthAll (m.map PyData.int) ≤ 1 := by
    intro m
    induction m with
    | nil => exact ⟨rfl, Nat.zero_le _⟩
    | cons s r ih =>
      refine ⟨by rw [List.map_cons]; simp [PyData.canLayAll0, PyData.canLay0, ih.1], ?_⟩
      rw [List.map_cons]
      simp only [PyData.depthAll, PyData.depth]
      omega
  obtain ⟨z1, z2⟩ := h1 ns
  show (PyData.canLayAll0 _ && decide (PyData.depthAll _ + 1 ≤ 64)) = true
  rw [z1, Bool.true_and]
  exact decide_eq_true (by omega)
theorem dp_ints {K : PySem.W.Frag} {H : Hp} : ∀ {ns : List Int}, DpAll K H (ns.map V.int) (ns.map PyData.int)
  | [] => .nil
  | n :: _ => .cons (.int n) dp_ints
end K14
set_option Elab.async false
set_option linter.all false
set_option maxRecDepth 100000
set_option maxHeartbeats 4000000
namespace K14
open PySem PySem.Spec PyProof.Rows L2 Evl
/-! ### what evaluates while the feed is drawn from -/
structure FOk (d c : Addr) (H H' : Hp) : Prop where
  a : IsFeed H d c
  e : Exb d H H'
  b : IsFeed H' d c
section
variable {d c : Addr} {H H1 H2 H' : Hp}
theorem FOk.refl (h : IsFeed H d c) : FOk d c H H := ⟨h, Exb.refl _ _, h⟩
theorem FOk.trans (a : FOk d c H H1) (b : FOk d c H1 H2) : FOk d c H H2 := ⟨a.a, a.e.trans b.e, b.b⟩
theorem FOk.ex (a : FOk d c H H1) (e : Ex H1 H2) : FOk d c H H2 := ⟨a.a, a.e.ex e, a.b.ex e⟩
theorem FOk.of (h : IsFeed H d c) (e : Ex H H1) : FOk d c H H1 := ⟨h, Exb.of e, h.ex e⟩
theorem FOk.tx (a : FOk d c H H1) : Tx H H1 := a.a.tx a.e
theorem FOk.lst {l : Addr} {xs : List V} (a : FOk d c H H1) (h : H l = some (.lst xs)) : H1 l = some (.lst xs) := a.e _ _ (fun z => by
  obtain ⟨cells, sp, ov, tu, h1, _⟩ := a.a
  rw [z, h1] at h
  cases h) h
theorem FOk.dk {l : Addr} {kvs : List (Key × V)} (a : FOk d c H H1) (n : l ≠ d) (h : H l = some (.dK kvs)) : H1 l = some (.dK kvs) := a.e _ _ n h
theorem FOk.mut {l : Addr} {o : HO} (a : FOk d c H H1) (n : H l = none) : FOk d c H (upd H1 l o) := by
  obtain ⟨cells, sp, ov, tu, h1, h2, _⟩ := a.a
  have nd : d ≠ l := fun z => by rw [z, n] at h1; cases h1
  have nc : c ≠ l := fun z => by rw [z, n] at h2; cases h2
  obtain ⟨cells', sp', ov', tu', h3, h4, h5⟩ := a.b
  refine ⟨a.a, fun x u nx hx => ?_, cells', sp', ov', tu', ?_, ?_, h5⟩
  · have : x ≠ l := fun z => by rw [z, n] at hx; cases hx
    rw [upd_ne this]
    exact a.e x u nx hx
  · rw [upd_ne nd]; exact h3
  · rw [upd_ne nc]; exact h4
theorem FOk.nond {l : Addr} (a : FOk d c H H1) (n : H l = none) : l ≠ d := fun z => by
  obtain ⟨cells, sp, ov, tu, h1, _⟩ := a.a
  rw [← z, n] at h1
  cases h1
end
/-! ### kinds -/
def IntR (P : Int → Prop) : V → Hp → Prop := fun v _ => ∃ i, v = .int i ∧ P i
def EvF (d c : Addr) (te : TE) (σ : L2.St) (H : Hp) (R : V → Hp → Prop) : Prop := ∀ H1, FOk d c H H1 → ∀ Q : VK, (∀ v H2, FOk d c H1 H2 → R v H2 → Q v H2) → te σ H1 Q
def EvFA (d c : Addr) (ta : TA) (σ : L2.St) (H : Hp) (R : List V → Prop) : Prop := ∀ H1, FOk d c H H1 → ∀ Q : List V → Hp → Prop, (∀ vs H2, FOk d c H1 H2 → R vs → Q vs H2) → ta σ H1 Q
def EvFT (d c : Addr) (tt : TT) (σ : L2.St) (H : Hp) (P : Bool → Prop) : Prop := ∀ H1, FOk d c H H1 → ∀ Q : Bool → Hp → Prop, (∀ b H2, FOk d c H1 H2 → P b → Q b H2) → tt σ H1 Q
section
variable {d c : Addr} {K : PySem.W.Frag} {σ : L2.St} {H H' : Hp} {ta tb te tx : TE} {tr : TA} {t u tt : TT} {x y z v : V} {D : Ends} {tz tu tw : TS} {g : TG} {R R1 R3 : V → Hp → Prop} {P P1 P3 : Int → Prop} {PB PB1 : Bool → Prop}
theorem EvF.mono (e : FOk d c H H') (h : EvF d c te σ H R) : EvF d c te σ H' R := fun H1 a Q q => h H1 (e.trans a) Q q
theorem ef_of (h : ∀ H1, FOk d c H H1 → EvR te σ H1 R) : EvF d c te σ H R := fun H1 e Q q => h H1 e H1 (Ex.refl _) Q fun v H2 e2 hr => q v H2 ((FOk.of e.b e2)) hr
theorem ef_v (h : ∀ H1, FOk d c H H1 → Ev te σ H1 v) : EvF d c te σ H fun x _ => x = v := ef_of fun H1 e => er_of (h H1 e)
theorem ef_int {i : Int} (h : ∀ H1, FOk d c H H1 → Ev te σ H1 (.int i)) (hp : P i) : EvF d c te σ H (IntR P) := fun H1 e Q q => ef_v h H1 e Q fun v H2 e2 hv => q v H2 e2 ⟨i, hv, hp⟩
theorem ef_imp {R' : V → Hp → Prop} (h : EvF d c te σ H R) (k : ∀ v H2, FOk d c H H2 → R v H2 → R' v H2) : EvF d c te σ H R' := fun H1 e Q q => h H1 e Q fun v H2 e2 hr => q v H2 e2 (k v H2 (e.trans e2) hr)
theorem ef_draw {n : Int} {E : XK} (h : ∀ H1, FOk d c H H1 → EvA tr σ H1 [.ref d, .int n]) (h0 : 0 < n) (h1 : n < 1000000) : EvF d c (tCall sp_law_draw [] E tr) σ H (IntR fun r => 0 ≤ r ∧ r < n) := fun H1 e Q q =>
  h H1 e H1 (Ex.refl _) _ fun H2 e2 => ⟨((d, c), n), rfl, ⟨e.b.ex e2, h0, h1⟩, fun r H3 x3 f3 r0 r1 => q (.int r) H3 ⟨e.b, (Exb.of e2).trans x3, f3⟩ ⟨r, rfl, r0, r1⟩⟩
theorem ef_any {xs : List V} {E : XK} (h : ∀ H1, FOk d c H H1 → EvAR tr σ H1 fun vs H2 => ∃ l, vs = [.ref d, .ref l] ∧ H2 l = some (.lst xs)) (h0 : xs ≠ []) (h1 : xs.length < 1000) : EvF d c (tCall sp_law_any [] E tr) σ H fun v _ => v ∈ xs := fun H1 e Q q =>
  h H1 e H1 (Ex.refl _) _ fun vs H2 e2 ⟨l, ev, hl⟩ => by
    subst ev
    exact ⟨((d, l, c), xs), rfl, ⟨e.b.ex e2, hl, h0, h1⟩, fun v H3 x3 f3 hv => q v H3 ⟨e.b, (Exb.of e2).trans x3, f3⟩ hv⟩
theorem ef_I0 {f : Int → Int → Int} (ha : EvF d c ta σ H (IntR P1)) (hb : EvF d c tb σ H (IntR P3)) (hp : ∀ i j, P1 i → P3 j → P (f i j)) : EvF d c (tOp (rI0 fun i j => .int (f i j)) ta tb) σ H (IntR P) := fun H1 e Q q =>
  ha H1 e _ fun v H2 e2 ⟨i, ev, hi⟩ => hb H2 (e.trans e2) _ fun w H3 e3 ⟨j, ew, hj⟩ => ⟨i, j, ev, ew, q _ H3 (e2.trans e3) ⟨_, rfl, hp i j hi hj⟩⟩
theorem ef_B0 {f : Int → Int → Bool} (ha : EvF d c ta σ H (IntR P1)) (hb : EvF d c tb σ H (IntR P3)) : EvF d c (tOp (rI0 fun i j => .bl (f i j)) ta tb) σ H fun v _ => ∃ b, v = .bl b ∧ True := fun H1 e Q q =>
  ha H1 e _ fun v H2 e2 ⟨i, ev, hi⟩ => hb H2 (e.trans e2) _ fun w H3 e3 ⟨j, ew, hj⟩ => ⟨i, j, ev, ew, q _ H3 (e2.trans e3) ⟨_, rfl, True.intro⟩⟩
theorem ef_eq (ha : EvF d c ta σ H (IntR P1)) (hb : EvF d c tb σ H (IntR P3)) : EvF d c (tOp rEq ta tb) σ H fun v _ => ∃ b, v = .bl b ∧ True := fun H1 e Q q =>
  ha H1 e _ fun v H2 e2 ⟨i, ev, hi⟩ => hb H2 (e.trans e2) _ fun w H3 e3 ⟨j, ew, hj⟩ => by
    subst ev ew
    exact ⟨rfl, q _ H3 (e2.trans e3) ⟨_, rfl, True.intro⟩⟩
theorem eft_test (h : EvF d c te σ H fun v _ => ∃ b, v = .bl b ∧ PB b) : EvFT d c (tTest te) σ H PB := fun H1 e Q q => h H1 e _ fun v H2 e2 ⟨b, ev, hb⟩ => ⟨b, ev, q b H2 e2 hb⟩
theorem eft_of {b : Bool} (h : ∀ H1, FOk d c H H1 → EvT tt σ H1 b) : EvFT d c tt σ H fun b' => b' = b := fun H1 e Q q => h H1 e H1 (Ex.refl _) Q fun H2 e2 => q b H2 (FOk.of e.b e2) rfl
theorem eft_and (h1 : EvFT d c t σ H PB) (h2 : EvFT d c u σ H PB1) : EvFT d c (tAnd t u) σ H fun b => b = true → PB1 true := fun H1 e Q q => h1 H1 e _ fun b H2 e2 _ => by
  cases b with
  | true =>
    show u σ H2 Q
    exact h2 H2 (e.trans e2) Q fun b H3 e3 hb => q b H3 (e2.trans e3) fun z => z ▸ hb
  | false =>
    show Q false H2
    exact q false H2 e2 fun z => (by cases z)
theorem ef_if (h : EvFT d c t σ H PB) (h1 : PB true → EvF d c ta σ H R) (h2 : PB false → EvF d c tb σ H R) : EvF d c (tIf t ta tb) σ H R := fun H1 e Q q => h H1 e _ fun b H2 e2 hb => by
  cases b with
  | true =>
    show ta σ H2 Q
    exact h1 hb H2 (e.trans e2) Q fun v H3 e3 => q v H3 (e2.trans e3)
  | false =>
    show tb σ H2 Q
    exact h2 hb H2 (e.trans e2) Q fun v H3 e3 => q v H3 (e2.trans e3)
theorem efa_nil : EvFA d c tNil σ H fun vs => vs = [] := fun H1 e Q q => q [] H1 (FOk.refl e.b) rfl
theorem efa_cons {RV : V → Prop} {RA : List V → Prop} (h : EvF d c te σ H fun v _ => RV v) (hr : EvFA d c tr σ H RA) : EvFA d c (tCons te tr) σ H fun vs => ∃ v ws, vs = v :: ws ∧ RV v ∧ RA ws := fun H1 e Q q =>
  h H1 e _ fun v H2 e2 h1 => hr H2 (e.trans e2) _ fun ws H3 e3 h3 => q (v :: ws) H3 (e2.trans e3) ⟨v, ws, rfl, h1, h3⟩
theorem ef_tup {RA : List V → Prop} (h : EvFA d c tr σ H RA) (hl : ∀ vs, RA vs → vs.length ≤ 100) : EvF d c (tTup tr) σ H fun v H2 => ∃ p xs, v = .ref p ∧ H2 p = some (.tup xs) ∧ RA xs := fun H1 e Q q =>
  h H1 e _ fun vs H2 e2 hv => ⟨sz_of (sz_of' (hl vs hv)), fun p np => q _ _ (e2.ex (Ex.new np)) ⟨p, vs, rfl, upd_same, hv⟩⟩
/-! ### statements -/
theorem f_asg {i : Nat} (hf : IsFeed H d c) (h : EvF d c te σ H R) (k : ∀ v H1, FOk d c H H1 → R v H1 → D.nx (σ.set i (some v)) H1) : tAsg te (gName i) D σ H := h H (FOk.refl hf) _ fun v H1 e hr => k v H1 e hr
theorem fq_asg {i : Nat} (hf : IsFeed H d c) (h : EvF d c te σ H R) (k : ∀ v H1, FOk d c H H1 → R v H1 → tz D (σ.set i (some v)) H1) : tSeq (tAsg te (gName i)) tz D σ H := h H (FOk.refl hf) _ fun v H1 e hr => k v H1 e hr
theorem fq_asgT (hf : IsFeed H d c) (h : EvF d c te σ H R) (k : ∀ v H1, FOk d c H H1 → R v H1 → g v σ H1 (tz D)) : tSeq (tAsg te g) tz D σ H := h H (FOk.refl hf) _ fun v H1 e hr => k v H1 e hr
theorem f_when (hf : IsFeed H d c) (h : EvFT d c t σ H PB) (h1 : PB true → ∀ H1, FOk d c H H1 → tu D σ H1) (h2 : PB false → ∀ H1, FOk d c H H1 → D.nx σ H1) : tIfS t tu tNext D σ H := h H (FOk.refl hf) _ fun b H2 e2 hb => by
  cases b with
  | true => exact h1 hb H2 e2
  | false => exact h2 hb H2 e2
/-- if c: x = e, then the rest from one word -/
theorem fq_whenAsg {i : Nat} {v0 : V} {M : V → Hp → Prop} (hf : IsFeed H d c) (h : EvFT d c t σ H PB) (he : PB true → EvF d c te σ H R) (h0 : σ.set i (some v0) = σ) (k1 : ∀ v H1, FOk d c H H1 → R v H1 → M v H1) (k2 : PB false → ∀ H1, FOk d c H H1 → M v0 H1)
    (k : ∀ v H1, FOk d c H H1 → M v H1 → tz D (σ.set i (some v)) H1) : tSeq (tIfS t (tAsg te (gName i)) tNext) tz D σ H := h H (FOk.refl hf) _ fun b H2 e2 hb => by
  cases b with
  | true => exact he hb H2 e2 _ fun v H3 e3 hr => k v H3 (e2.trans e3) (k1 v H3 (e2.trans e3) hr)
  | false =>
    have z := k v0 H2 e2 (k2 hb H2 e2)
    rw [h0] at z
    exact z
theorem f_app {l : Addr} {xs : List V} (hf : IsFeed H d c) (hl : H l = some (.lst xs)) (ha : ∀ H1, FOk d c H H1 → Ev ta σ H1 (.ref l)) (h : EvF d c te σ H R) (hz : xs.length < 100000) (k : ∀ v H1, FOk d c H H1 → R v H1 → D.nx σ (upd H1 l (.lst (xs ++ [v])))) :
    tDrop (tBM K "list" rAppend ta (tCons te tNil)) D σ H := ha H (FOk.refl hf) H (Ex.refl _) _ fun H1 e1 =>
  ⟨Or.inl ⟨rfl, xs, sq_of (e1 l _ hl)⟩, h H1 (FOk.of hf e1) _ fun v H2 e2 h2 => ⟨l, xs, v, rfl, rfl, e2.lst (e1 l _ hl), sz_lt hz, k v H2 ((FOk.of hf e1).trans e2) h2⟩⟩
theorem fq_app {l : Addr} {xs : List V} (hf : IsFeed H d c) (hl : H l = some (.lst xs)) (ha : ∀ H1, FOk d c H H1 → Ev ta σ H1 (.ref l)) (h : EvF d c te σ H R) (hz : xs.length < 100000) (k : ∀ v H1, FOk d c H H1 → R v H1 → tz D σ (upd H1 l (.lst (xs ++ [v])))) :
    tSeq (tDrop (tBM K "list" rAppend ta (tCons te tNil))) tz D σ H := f_app (D := { D with nx := tz D }) hf hl ha h hz k
end
/-! ### a comprehension whose turns draw -/
theorem lc_feed {d c : Addr} {J : It} {n : Nat} {G : Hp → Prop} {Y : Nat → Hp → V → Hp → Prop} {σ : L2.St} {j : Nat} {vs : List Nat} {H1 : Hp} {Dl : Addr} {R : Nat → V → Hp → Prop} {Qd : Hp → Prop} {tt : TT} {te : TE} {PB : Nat → Bool → Prop} (wk : Walk J n G Y) (hf : IsFeed H1 d c) (hD : H1 Dl = none) (hn : n < 50000)
    (hw : ∀ x, wipe ((wipe σ vs).set j (some x)) vs = wipe σ vs) (hG : ∀ H2, FOk d c H1 H2 → G H2) (hY : ∀ i H2 x H3, Y i H2 x H3 → H3 = H2) (hR : ∀ j y H2 H3, Tx H2 H3 → R j y H2 → R j y H3)
    (ht : ∀ i H2 x, i < n → FOk d c H1 H2 → Y i H2 x H2 → EvFT d c tt ((wipe σ vs).set j (some x)) H2 (PB i) ∧ (PB i true → EvF d c te ((wipe σ vs).set j (some x)) H2 (R i)))
    (hd : ∀ ys ix H2, FOk d c H1 H2 → H2 Dl = some (.lst ys) → ((∀ i, PB i true) → (∀ i, ¬ PB i false) → ix = List.range n) → (∀ i ∈ ix, i < n) → ys.length ≤ n → Paired (fun y i => R i y H2) ys ix → Qd H2) :
    ∃ W : Nat → Nat → Hp → Prop, (∃ m, W 0 m (upd H1 Dl (.lst []))) ∧ ∀ i m H, W i m H →
      (J.stop i H ∧ Qd H) ∨ (J.go i H ∧ ∃ Nx : Hp → Prop, (∀ H', Nx H' → ∃ m', m' < m ∧ W (i + 1) m' H') ∧ ∀ x H', J.yld i H x H' → gName j x (wipe σ vs) H' fun σ2 H2 => wipe σ2 vs = wipe σ vs ∧ tt σ2 H2 fun b H3 =>
        if b = true then te σ2 H3 fun y H4 => ∃ acc, H4 Dl = some (.lst acc) ∧ acc.length < sizeLine ∧ Nx (upd H4 Dl (.lst (acc ++ [y]))) else Nx H3) :=
  lc_it wk (fun i H2 => FOk d c H1 H2 ∧ ∃ ys ix, H2 Dl = some (.lst ys) ∧ ys.length ≤ i ∧ ((∀ i, PB i true) → (∀ i, ¬ PB i false) → ix = List.range i) ∧ (∀ j ∈ ix, j < i) ∧ Paired (fun y i => R i y H2) ys ix) ⟨FOk.of hf (Ex.new hD), [], [], upd_same, Nat.le_refl _, fun _ _ => rfl, fun _ z => (by cases z), .nil⟩ (fun i H2 _ p => hG H2 p.1)
    (fun i x H2 H3 hi ⟨e1, ys, ix, h1, hl, hx, hlt, h2⟩ y => by
      have e3 := hY i H2 x H3 y
      subst e3
      obtain ⟨w2, w3⟩ := ht i H3 x hi e1 y
      refine ⟨hw x, w2 H3 (FOk.refl e1.b) _ fun b H4 e4 hb => ?_⟩
      cases b with
      | true =>
        show te _ H4 _
        refine w3 hb H4 e4 _ fun v H5 e5 hr => ?_
        have e6 := e4.trans e5
        have h5 : H5 Dl = some (.lst ys) := e6.lst h1
        refine ⟨ys, h5, sz_lt (by omega), (e1.trans e6).mut hD, ys ++ [v], ix ++ [i], upd_same, by rw [List.length_append]; exact Nat.succ_le_succ hl, fun a b => by rw [hx a b, List.range_succ], fun k hk => ?_, ?_⟩
        · rcases List.mem_append.mp hk with z | z
          · exact Nat.lt_succ_of_lt (hlt k z)
          · rw [List.mem_singleton.mp z]; exact Nat.lt_succ_self _
        · exact paired_snoc (paired_imp (fun y j q => hR _ _ _ _ (e6.tx.trans (Tx.lst h5)) q) h2) (hR _ _ _ _ (Tx.lst h5) hr)
      | false =>
        show _ ∧ _
        exact ⟨e1.trans e4, ys, ix, e4.lst h1, Nat.le_succ_of_le hl, fun a b => (b i hb).elim, fun k hk => Nat.lt_succ_of_lt (hlt k hk), paired_imp (fun y j q => hR _ _ _ _ e4.tx q) h2⟩)
    (fun H2 ⟨e1, ys, ix, h1, hl, hx, hlt, h2⟩ => hd ys ix H2 e1 h1 hx hlt hl h2)
/-- over a tuple -/
theorem ef_lcT {d c : Addr} {K : PySem.W.Frag} {σ : L2.St} {H : Hp} {tl te : TE} {tt : TT} {a : Addr} {xs : List V} {j : Nat} {vs : List Nat} {R' : V → Hp → Prop} {PB : Nat → Bool → Prop} {R : Nat → V → Hp → Prop} (h : ∀ H1, FOk d c H H1 → Ev tl σ H1 (.ref a)) (hx : H a = some (.tup xs)) (hz : xs.length < 50000) (hw : ∀ x, wipe ((wipe σ vs).set j (some x)) vs = wipe σ vs) (hR : ∀ j y H2 H3, Tx H2 H3 → R j y H2 → R j y H3)
    (ht : ∀ i x H2, xs[i]? = some x → FOk d c H H2 → EvFT d c tt ((wipe σ vs).set j (some x)) H2 (PB i) ∧ (PB i true → EvF d c te ((wipe σ vs).set j (some x)) H2 (R i)))
    (hd : ∀ p ys ix H2, H p = none → FOk d c H H2 → H2 p = some (.lst ys) → ((∀ i, PB i true) → (∀ i, ¬ PB i false) → ix = List.range xs.length) → (∀ i ∈ ix, i < xs.length) → ys.length ≤ xs.length → Paired (fun y i => R i y H2) ys ix → R' (.ref p) H2) : EvF d c (tLc (iTup K tl) (gName j) tt te vs) σ H R' := fun H0 e Q q =>
  h H0 e H0 (Ex.refl _) _ fun H1 e1 => ⟨a, rfl, ⟨xs, st_of ((e.ex e1).tx _ _ hx)⟩, fun Dl hD => lc_feed (PB := PB) (R := R) (walk_tup (xs := xs)) (e.b.ex e1) hD hz hw (fun H2 e2 => st_of (((e.ex e1).trans e2).tx _ _ hx)) (fun _ _ _ _ z => z.1) hR (fun i H2 x hi e2 yv => ht i x H2 yv.2 ((e.ex e1).trans e2))
    fun ys ix H2 e2 h2 h3 h4 h5 hp => q _ H2 ((FOk.of e.b e1).trans e2) (hd Dl ys ix H2 (by
      cases z : H Dl with
      | none => rfl
      | some o =>
        by_cases n : Dl = d
        · obtain ⟨cells, sp, ov, tu, k1, _⟩ := e.b.ex e1
          rw [n, k1] at hD
          cases hD
        · have := e1 _ _ (e.e _ _ n z)
          rw [this] at hD
          cases hD) ((e.ex e1).trans e2) h2 h3 h4 h5 hp)⟩
/-! ### a list of tuples of texts -/
def EvTs (ta : TA) (σ : L2.St) (H : Hp) (xss : List (List Str)) : Prop := EvAR ta σ H fun vs H2 => ∃ as : List Addr, vs = as.map V.ref ∧ Paired (IsTs H2) as xss
theorem ets_nil {σ : L2.St} {H : Hp} : EvTs tNil σ H [] := fun H1 _ Q q => q [] H1 (Ex.refl _) ⟨[], rfl, .nil⟩
theorem ets_cons {σ : L2.St} {H : Hp} {te : TE} {tr : TA} {xs : List Str} {xss : List (List Str)} (h : EvR te σ H (TupAt (xs.map V.str))) (hr : EvTs tr σ H xss) : EvTs (tCons te tr) σ H (xs :: xss) := fun H1 e Q q =>
  h H1 e _ fun v H2 e2 ⟨a, ev, ha⟩ => hr H2 (e.trans e2) _ fun ws H3 e3 ⟨as, ew, p⟩ => q (v :: ws) H3 (e2.trans e3) ⟨a :: as, by rw [ev, ew]; rfl, .cons (e3 _ _ ha) p⟩
theorem er_lstTs {σ : L2.St} {H : Hp} {ta : TA} {xss : List (List Str)} (h : EvTs ta σ H xss) (hl : xss.length ≤ 100) : EvR (tLst ta) σ H fun v H2 => ∃ l, v = .ref l ∧ LstOf IsTs H2 l xss := fun H1 e Q q =>
  h H1 e _ fun vs H2 e2 ⟨as, ev, p⟩ => ⟨by rw [ev, List.length_map, paired_len p]; exact sz_of (sz_of' hl), fun l nl => q _ _ (e2.trans (Ex.new nl)) ⟨l, rfl, as, by rw [upd_same, ev], paired_imp (fun _ _ z => z.tx (Tx.new nl)) p⟩⟩
theorem bnd_some {ws : List Q4} {w : Q4} {a b : Str} (hw : w ∈ ws) (h : (w.1 = a ∧ w.2.1 = b) ∨ (w.2.1 = a ∧ w.1 = b)) : ∃ p, bnd ws a b = some p := by
  unfold bnd
  cases e : ws.find? fun w => decide ((w.1 = a ∧ w.2.1 = b) ∨ (w.2.1 = a ∧ w.1 = b)) with
  | some v => exact ⟨_, rfl⟩
  | none => exact absurd h (by simpa using List.find?_eq_none.mp e w hw)
end K14
set_option Elab.async false
set_option linter.all false
set_option maxRecDepth 100000
set_option maxHeartbeats 4000000
namespace K14
open PySem PySem.Spec PyProof.Rows L2 Evl
theorem FOk.fresh {d c l : Addr} {H H1 : Hp} (a : FOk d c H H1) (n : H1 l = none) : H l = none := by
  cases z : H l with
  | none => rfl
  | some o =>
    by_cases e : l = d
    · obtain ⟨cells, sp, ov, tu, k1, _⟩ := a.b
      rw [e, k1] at n
      cases n
    · rw [a.e _ _ e z] at n
      cases n
section
variable {d c : Addr} {K : PySem.W.Frag} {σ : L2.St} {H H' : Hp} {ta tb te tx : TE} {tr : TA} {t u tt : TT} {x y z v : V} {D : Ends} {tz tu tw : TS} {g : TG} {R R1 R3 : V → Hp → Prop} {P P1 P3 : Int → Prop} {PB PB1 : Bool → Prop} {r : List V → Hp → VK → Prop}
theorem ef_cbR (h : EvF d c te σ H R1) (hr : ∀ v H1, FOk d c H H1 → R1 v H1 → ∀ Q : VK, (∀ v H2, FOk d c H1 H2 → R v H2 → Q v H2) → r [v] H1 Q) : EvF d c (tCB r (tCons te tNil)) σ H R := fun H1 e Q q =>
  h H1 e _ fun v H2 e2 h2 => hr v H2 (e.trans e2) h2 Q fun v H3 e3 h3 => q v H3 (e2.trans e3) h3
theorem ef_newLF : EvF d c (tLst tNil) σ H fun v H2 => ∃ p, v = .ref p ∧ H p = none ∧ H2 p = some (.lst []) := fun H1 e Q q => ⟨Nat.zero_le _, fun p np => q _ _ (FOk.of e.b (Ex.new np)) ⟨p, rfl, e.fresh np, upd_same⟩⟩
theorem fq_par {i j : Nat} (hf : IsFeed H d c) (ha : EvF d c ta σ H R1) (hs : ∀ v H1 H2, FOk d c H1 H2 → R1 v H1 → R1 v H2) (hb : EvF d c tb σ H R3) (k : ∀ x y H1, FOk d c H H1 → R1 x H1 → R3 y H1 → tz D ((σ.set i (some x)).set j (some y)) H1) : tSeq (tPar i j (tCons ta (tCons tb tNil))) tz D σ H :=
  ha H (FOk.refl hf) _ fun v H1 e1 h1 => hb H1 e1 _ fun w H2 e2 h2 => ⟨v, w, rfl, k v w H2 (e1.trans e2) (hs _ _ _ e2 h1) h2⟩
theorem ear_L {xs : List V} (h0 : Ev ta σ H v) (h : EvL te σ H xs) : EvAR (tCons ta (tCons te tNil)) σ H fun vs H2 => ∃ l, vs = [v, .ref l] ∧ H2 l = some (.lst xs) := fun H1 e Q q =>
  h0 H1 e _ fun H2 e2 => h H2 (e.trans e2) _ fun l H3 nl e3 h3 => q [v, .ref l] H3 (e2.trans e3) ⟨l, rfl, h3⟩
theorem el_listT {p : Addr} {xs : List V} (ha : Ev ta σ H (.ref p)) (h : SqT K H p xs) : EvL (tCB (rListS K) (tCons ta tNil)) σ H xs := fun H1 e Q q =>
  ha H1 e _ fun H2 e2 => ⟨p, xs, rfl, Or.inr (ex_t (e.trans e2) h), fun l hl => q l _ (fresh_back e2 hl) (e2.trans (Ex.new hl)) upd_same⟩
theorem fq_forR1 {j : Nat} (hf : IsFeed H d c) (h : EvF d c te σ H (IntR P)) (hP : ∀ n, P n → 0 ≤ n ∧ n ≤ 100000) (Pv : Nat → L2.St → Hp → Prop) (h0 : ∀ H1, FOk d c H H1 → Pv 0 σ H1)
    (hs : ∀ (n : Int) (i : Nat) σ' H', P n → (i : Int) < n → Pv i σ' H' → tu { D with nx := Pv (i + 1), ct := Pv (i + 1), bk := tz D } (σ'.set j (some (.int (i : Int)))) H') (hd : ∀ (n : Int) σ' H', P n → Pv n.toNat σ' H' → tz D σ' H') : tSeq (tFor (iRng1 (tCons te tNil)) (gName j) tu) tz D σ H :=
  h H (FOk.refl hf) _ fun v H1 e ⟨n, ev, hn⟩ => by
    subst ev
    have hb := hP n hn
    exact ⟨n, rfl, by omega, by omega, for_range (lo := 0) (n := n.toNat) Pv (h0 H1 e) (fun i σ' H' hi p => by
      have e0 : (0 : Int) + (i : Int) = (i : Int) := Int.zero_add _
      show tu { D with nx := Pv (i + 1), ct := Pv (i + 1), bk := tz D } (σ'.set j (some (.int ((0 : Int) + (i : Int))))) H'
      rw [e0]
      exact hs n i σ' H' hn (by omega) p) (fun σ' H' p => hd n σ' H' hn p)⟩
end
/-! ### texts and numbers, paired -/
theorem named_of {H : Hp} {names : List Str} {ys : List V} {ix : List Nat} (h : Paired (fun v i => ∃ b n, v = .ref b ∧ H b = some (.tup [.str (names.getD i Str.empty), .int n])) ys ix) :
    ∃ (as : List Addr) (kvs : List (Str × Int)), ys = as.map V.ref ∧ Paired (fun b (kv : Str × Int) => H b = some (.tup [.str kv.1, .int kv.2])) as kvs ∧ kvs.map Prod.fst = ix.map fun i => names.getD i Str.empty := by
  induction h with
  | nil => exact ⟨[], [], rfl, .nil, rfl⟩
  | cons r _ ih =>
    obtain ⟨b, n, e1, e2⟩ := r
    obtain ⟨as, kvs, e3, e4, e5⟩ := ih
    exact ⟨b :: as, (_, n) :: kvs, by rw [e1, e3]; rfl, .cons e2 e4, by rw [List.map_cons, e5]; rfl⟩
theorem range_names (names : List Str) : ((List.range names.length).map fun i => names.getD i Str.empty) = names := by
  refine List.ext_getElem? fun i => ?_
  rw [List.getElem?_map]
  by_cases h : i < names.length
  · rw [List.getElem?_range h, List.getElem?_eq_getElem h]
    simp [List.getD_eq_getElem?_getD, h]
  · rw [List.getElem?_eq_none (by rw [List.length_range]; omega), List.getElem?_eq_none (by omega)]
    rfl
theorem strs_of {H : Hp} {ys : List V} {ix : List Nat} (h : Paired (fun v (_ : Nat) => ∃ s, v = .str s) ys ix) : ∃ ss : List Str, ys = ss.map V.str := by
  induction h with
  | nil => exact ⟨[], rfl⟩
  | cons r _ ih =>
    obtain ⟨s, e1⟩ := r
    obtain ⟨ss, e2⟩ := ih
    exact ⟨s :: ss, by rw [e1, e2]; rfl⟩
def dkv (kvs : List (Str × Int)) : List (Key × V) := kvs.map fun p => (Sum.inr p.1, V.int p.2)
theorem dkv_keys {kvs : List (Str × Int)} : (dkv kvs).map (·.1) = (kvs.map Prod.fst).map Sum.inr := by
  unfold dkv
  rw [List.map_map, List.map_map]
  rfl
theorem dkv_nd {kvs : List (Str × Int)} (h : (kvs.map Prod.fst).Nodup) : ((dkv kvs).map (·.1)).Nodup := by
  rw [dkv_keys]
  exact List.Pairwise.map _ (fun _ _ h e => h (Sum.inr.inj e)) h
theorem dkv_val {kvs : List (Str × Int)} {s : Str} (h : (kvs.map Prod.fst).Nodup) (hs : s ∈ kvs.map Prod.fst) : ∃ n, valV (dkv kvs) (.inr s) = some (.int n) := by
  obtain ⟨p, hp, e⟩ := List.mem_map.mp hs
  subst e
  exact ⟨p.2, valV_mem (dkv_nd h) (List.mem_map.mpr ⟨p, hp, rfl⟩)⟩
/-! ### the wires, as data -/
def dt4 (w : Q4) : PyData := .tuple [.str w.1, .str w.2.1, .int w.2.2.1, .int w.2.2.2]
theorem dp_t4s {K : PySem.W.Frag} {H : Hp} {bs : List Addr} {ws : List Q4} (h : Paired (IsT4 H) bs ws) : DpAll K H (bs.map V.ref) (ws.map dt4) := by
  induction h with
  | nil => exact .nil
  | cons r _ ih => exact .cons (.tup (st_of r) (.cons (.str _) (.cons (.str _) (.cons (.int _) (.cons (.int _) .nil))))) ih
theorem shaped_t4s {ws : List Q4} (h : ∀ w ∈ ws, goodName w.1 = true ∧ goodName w.2.1 = true) : SeqAt.shaped (.tuple (ws.map dt4)) = true := by
  have h1 : ∀ m : List Q4, (∀ w ∈ m, goodName w.1 = true ∧ goodName w.2.1 = true) → PyData.canLayAll0 (m.map dt4) = true ∧ PyData.depthAll (m.map dt4) ≤ 2 := by
    intro m
    induction m with
    | nil => intro _; exact ⟨rfl, Nat.zero_le _⟩
    | cons s r ih =>
      intro hl
      obtain ⟨z1, z2⟩ := ih fun x hx => hl x (List.mem_cons_of_mem _ hx)
      obtain ⟨g1, g2⟩ := hl s List.mem_cons_self
      have z3 := strOk_good g1
      have z4 := strOk_good g2
      refine ⟨by rw [List.map_cons]; simp [PyData.canLayAll0, PyData.canLay0, dt4, z1, z3, z4], ?_⟩
      rw [List.map_cons]
      simp only [PyData.depthAll, PyData.depth, dt4]
      omega
  obtain ⟨z1, z2⟩ := h1 ws h
  show (PyData.canLayAll0 _ && decide (PyData.depthAll _ + 1 ≤ 64)) = true
  rw [z1, Bool.true_and]
  exact decide_eq_true (by omega)
end K14
set_option Elab.async false
set_option linter.all false
set_option maxRecDepth 100000
set_option maxHeartbeats 8000000
namespace K14
open PySem PySem.Spec PyProof.Rows L2 Evl
section
variable {P : Program} {w : World} {K : PySem.W.Frag} {mg : Str → Option Value} {base : Heap}
theorem sc_is_integer : FnScope ["thing"] ["thing"] (defScope s_is_integer) := ⟨rfl, rfl, rfl, by decide +kernel, rfl, by decide +kernel, by decide +kernel⟩
theorem c_is_integer (T : Top K mg) : ∃ f fd, Cal P w K mg base 1 "is_integer" ["thing"] sp_is_integer f fd := by
  refine cal_mk (k := 0) (i := 0) (st := s_is_integer) T rfl sc_is_integer (fun _ _ _ _ _ _ us hl => match us, hl with | [_], _ => rfl) (fun vs H Q E h => ?_) (fun {f cdv A outer s H vs Q E} hr h => ?_)
  · obtain ⟨_, rfl, _⟩ := h
    rfl
  have hu := hu_of hr
  refine ⟨_, (pss_one (ps_ret (pe_and (pe_callB call_isi (by rfl) T.b_isinstance boot_isinstance (pa_cons (pv 0) (pa_cons (pe_bltn (v := .ty "int") (by rfl) T.b_int boot_int rfl) pa_nil))) (pe_one (pe_not (pe_callB call_isi (by rfl) T.b_isinstance boot_isinstance (pa_cons (pv 0) (pa_cons (pe_bltn (v := .ty "bool") (by rfl) T.b_bool boot_bool rfl) pa_nil)))))))), ?_⟩
  obtain ⟨i, rfl, _, q⟩ := h
  exact s_ret (ev_andV (ev_isi (ev_var rfl) ty_int (show kitB "int" "int" = some true by decide +kernel)) fun _ => ev_notV (ev_isi (ev_var rfl) ty_int (show kitB "int" "bool" = some false by decide +kernel))) fun H1 e1 => q H1 e1
theorem sc_is_tuple_of : FnScope ["thing", "many"] ["thing", "many"] (defScope s_is_tuple_of) := ⟨rfl, rfl, rfl, by decide +kernel, rfl, by decide +kernel, by decide +kernel⟩
theorem c_is_tuple_of (T : Top K mg) : ∃ f fd, Cal P w K mg base 1 "is_tuple_of" ["thing", "many"] sp_is_tuple_of f fd := by
  refine cal_mk (k := 0) (i := 1) (st := s_is_tuple_of) T rfl sc_is_tuple_of (fun _ _ _ _ _ _ us hl => match us, hl with | [_, _], _ => rfl) (fun vs H Q E h => ?_) (fun {f cdv A outer s H vs Q E} hr h => ?_)
  · obtain ⟨_, rfl, _⟩ := h
    rfl
  have hu := hu_of hr
  refine ⟨_, (pss_one (ps_ret (pe_and (pe_callB call_isi (by rfl) T.b_isinstance boot_isinstance (pa_cons (pv 0) (pa_cons (pe_bltn (v := .ty "tuple") (by rfl) T.b_tuple boot_tuple rfl) pa_nil))) (pe_one (pe_cmpR op_eq (pe_callB call_len_seq (by rfl) T.b_len boot_len (pa_cons (pv 0) pa_nil)) (pv 1) (nomark _)))))), ?_⟩
  obtain ⟨⟨a, xs, n⟩, rfl, ⟨p, en⟩, q⟩ := h
  have en : (xs.length : Int) = n := en
  subst en
  refine s_ret (ev_andV (ev_isi (ev_var rfl) (ty_tup p) (show kitB "tuple" "tuple" = some true by decide +kernel)) fun _ => ev_op (ev_lenT (ev_var rfl) (st_of p)) (ev_var rfl) (rv_eq rfl)) fun H1 e1 => ?_
  rw [decide_eq_true rfl]
  exact q H1 e1
theorem sc_are_ascending : FnScope ["things", "one", "next_one"] ["things"] (defScope s_are_ascending) := ⟨rfl, rfl, rfl, by decide +kernel, rfl, by decide +kernel, by decide +kernel⟩
theorem c_are_ascending (T : Top K mg) : ∃ f fd, Cal P w K mg base 1 "are_ascending" ["things"] sp_are_ascending f fd := by
  refine cal_mk (k := 0) (i := 3) (st := s_are_ascending) T rfl sc_are_ascending (fun _ _ _ _ _ _ us hl => match us, hl with | [_], _ => rfl) (fun vs H Q E h => ?_) (fun {f cdv A outer s H vs Q E} hr h => ?_)
  · obtain ⟨_, rfl, _⟩ := h
    rfl
  have hu := hu_of hr
  refine ⟨_, (pss_one (ps_ret (pe_callB (cr_all rfl) (by rfl) T.b_all boot_all (pa_cons (pe_lc (own := [("one", 1), ("next_one", 2)]) (g := (gTup K 2 (gCons (gName 1) (gCons (gName 2) gNil)))) rfl sc_are_ascending.nd (RZ.pi_zipA (by rfl) T.b_zip (pa_cons (pv 0) (pa_cons (pe_slice sl_tupA (pv 0) (po_some pe_int) po_none) pa_nil))) (blkOk_by (own := [("one", 1), ("next_one", 2)]) (N := ["things", "one", "next_one"]) (sc := defScope s_are_ascending) (by decide +kernel)) (fun _ _ _ _ _ => (pg_tup rfl (pgs_cons (pg_name (i := 1) sc_are_ascending.nd rfl (Or.inl rfl)) (pgs_cons (pg_name (i := 2) sc_are_ascending.nd rfl (Or.inl rfl)) pgs_nil)))) (fun _ _ _ _ _ => pts_nil) (fun _ _ _ _ _ => (pe_cmpR op_lt_str (pv 1) (pv 2) (nomark _)))) pa_nil)))), ?_⟩
  obtain ⟨⟨a, xs⟩, rfl, ⟨p, pw, hl⟩, q⟩ := h
  have pw : xs.Pairwise lt := pw
  have hl : xs.length ≤ 5 := hl
  have go : ∀ (H1 : Hp) (b : Addr) (Rk : V → Hp → Prop), Ex H H1 → SqT K H1 b ((xs.map V.str).drop 1) → (∀ v H2, Ex H1 H2 → (∃ p ys, v = .ref p ∧ H2 p = some (.lst ys) ∧ ∀ y ∈ ys, y = .bl true) → Rk v H2) →
      ∀ D, H1 D = none → ∃ W : Nat → Nat → Hp → Prop, (∃ m, W 0 m (upd H1 D (.lst []))) ∧ ∀ i m H, W i m H → ((RZ.ItzT K a b).stop i H ∧ Rk (.ref D) H) ∨ _ := fun H1 b Rk e1 hb k D hD =>
    lc_rel (g := gTup K 2 (gCons (gName 1) (gCons (gName 2) gNil))) (tt := tYes) (σ := start ["things", "one", "next_one"] [.ref a]) (vs := [1, 2]) (te := tOp (fun x y H Q => ∃ i j, x = .str i ∧ y = .str j ∧ Q (.bl (decide (i.cps.toList < j.cps.toList))) H) (tVar 1) (tVar 2))
      (f := fun _ => true) (R := fun _ y _ => y = .bl true) (Qd := fun H2 => Rk (.ref D) H2) (walk_zipT (K := K) (xs := xs.map V.str) (ys := (xs.map V.str).drop 1) rfl) hD (by rw [List.length_drop, List.length_map]; omega) (fun H2 e2 => ⟨ex_t (e1.trans e2) (st_of p), ex_t e2 hb⟩) (fun _ _ _ _ z => ypair_ex z) (fun _ _ _ _ _ z => z)
      (fun i H2 x H3 hi e2 y _ kk => by
        obtain ⟨T, x1, x2, rfl, _, rfl, g1, g2⟩ := y
        have g1 : (xs.map V.str)[i]? = some x1 := g1
        have g2 : ((xs.map V.str).drop 1)[i]? = some x2 := g2
        rw [List.getElem?_map] at g1
        rw [List.getElem?_drop, List.getElem?_map] at g2
        obtain ⟨s1, h1, rfl⟩ := Option.map_eq_some_iff.mp g1
        obtain ⟨s2, h2, rfl⟩ := Option.map_eq_some_iff.mp g2
        have hlt : lt s1 s2 := by
          obtain ⟨l1, z1⟩ := List.getElem?_eq_some_iff.mp h1
          obtain ⟨l2, z2⟩ := List.getElem?_eq_some_iff.mp h2
          rw [← z1, ← z2]
          exact List.pairwise_iff_getElem.mp pw _ _ l1 l2 (by omega)
        refine ⟨T, [.str s1, .str s2], rfl, st_of upd_same, rfl, .str s1, [.str s2], rfl, .str s2, [], rfl, rfl, ?_⟩
        refine kk _ rfl et_yes fun _ => er_of (ev_op (ev_var rfl) (ev_var rfl) fun H4 _ Q q => ⟨s1, s2, rfl, rfl, ?_⟩)
        have e : decide (s1.cps.toList < s2.cps.toList) = true := decide_eq_true hlt
        rw [e]
        exact q H4 (Ex.refl _))
      (fun ys H2 e2 h2 hp => k _ H2 e2 ⟨D, ys, rfl, h2, all_true hp⟩)
  refine s_ret (ev_allR fun H0 e0 Rk k => ?_) fun H1 e1 => q H1 e1
  refine ⟨.ref a, rfl, .ref a, rfl, 1, rfl, a, xs.map V.str, rfl, ex_t e0 (st_of p), fun hw => ?_, fun hw b hb => ?_⟩
  · have nx : xs = [] := by
      have h1 := hw.1
      rw [show HT.sIx (xs.map V.str).length 0 (some 1) = min 1 (xs.map V.str).length from HT.sIx_nat _ 0 1, List.length_map] at h1
      exact List.eq_nil_of_length_eq_zero (by omega)
    subst nx
    exact ⟨a, a, [], [], rfl, Or.inr ⟨ex_t e0 (st_of p), ex_t e0 (st_of p), go H0 a Rk e0 (ex_t e0 (st_of p)) k⟩⟩
  · have hb2 : SqT K (upd H0 b (.tup (cutV (xs.map V.str) (some 1) none))) b ((xs.map V.str).drop 1) := by
      rw [drop1_cut]
      exact st_of upd_same
    exact ⟨a, b, xs.map V.str, (xs.map V.str).drop 1, rfl, Or.inr ⟨ex_t (e0.trans (Ex.new hb)) (st_of p), hb2, go _ b Rk (e0.trans (Ex.new hb)) hb2 fun v H2 e2 => k v H2 ((Ex.new hb).trans e2)⟩⟩
theorem sc_is_name : FnScope ["thing", "sign"] ["thing"] (defScope s_is_name) := ⟨rfl, rfl, rfl, by decide +kernel, rfl, by decide +kernel, by decide +kernel⟩
theorem c_is_name (T : Top K mg) : ∃ f fd, Cal P w K mg base 1 "is_name" ["thing"] sp_is_name f fd := by
  refine cal_mk (k := 0) (i := 4) (st := s_is_name) T rfl sc_is_name (fun _ _ _ _ _ _ us hl => match us, hl with | [_], _ => rfl) (fun vs H Q E h => ?_) (fun {f cdv A outer s H vs Q E} hr h => ?_)
  · obtain ⟨_, rfl, _⟩ := h
    rfl
  have hu := hu_of hr
  refine ⟨_, (pss_cons (ps_if (PW.pt (pw_or (pt_not (pt_val (pe_callB call_isi (by rfl) T.b_isinstance boot_isinstance (pa_cons (pv 0) (pa_cons (pe_bltn (v := .ty "str") (by rfl) T.b_str boot_str rfl) pa_nil))))) (pw_or (pt_cmpR op_lt (pe_callB call_len_str (by rfl) T.b_len boot_len (pa_cons (pv 0) pa_nil)) pe_int (nomark _)) (pw_or1 (pt_cmpR op_gt (pe_callB call_len_str (by rfl) T.b_len boot_len (pa_cons (pv 0) pa_nil)) (pe_glob (v := .int 8) (by rfl) T.g_MOST_LETTERS.choose_spec ⟨_, rfl⟩) (nomark _)))))) 
          (pss_one (ps_ret pe_bl)) pss_nil)
        (pss_one (ps_ret (pe_callB (cr_all rfl) (by rfl) T.b_all boot_all (pa_cons (pe_lc (own := [("sign", 1)]) (g := (gName 1)) rfl sc_is_name.nd (pi_str (pv 0)) (blkOk_by (own := [("sign", 1)]) (N := ["thing", "sign"]) (sc := defScope s_is_name) (by decide +kernel)) (fun _ _ _ _ _ => (pg_name (i := 1) sc_is_name.nd rfl (Or.inl rfl))) (fun _ _ _ _ _ => pts_nil) (fun _ _ _ _ _ => (pe_cmpR op_in_sign (pv 1) (pe_glob (v := .str "abcdefghijklmnopqrstuvwxyz") (by rfl) T.g_LETTERS.choose_spec ⟨_, rfl⟩) (by rfl)))) pa_nil))))), ?_⟩
  obtain ⟨s, rfl, hg, q⟩ := h
  have hg : (decide (1 ≤ s.length) && decide (s.length ≤ 8) && s.cps.toList.all fun c => decide (c ∈ letters.cps.toList)) = true := hg
  rw [Bool.and_eq_true, Bool.and_eq_true, decide_eq_true_eq, decide_eq_true_eq, List.all_eq_true] at hg
  obtain ⟨⟨h1, h8⟩, hc⟩ := hg
  refine q_when (et_is (et_or (et_not (et_B (ev_isi (ev_var rfl) ty_str (show kitB "str" "str" = some true by decide +kernel)))) fun _ => et_or (et_test (ev_op (ev_lenS (ev_var rfl) (by omega)) ev_c rv_I0)) fun _ => et_test (ev_op (ev_lenS (ev_var rfl) (by omega)) ev_c rv_I0)) (b := false) ?_) (fun z => by cases z) fun _ H1 e1 => ?_
  · have d1 : decide ((s.length : Int) < 1) = false := decide_eq_false (by omega)
    have d2 : decide ((8 : Int) < (s.length : Int)) = false := decide_eq_false (by omega)
    rw [d1, d2]
    rfl
  · refine s_ret (ev_allR fun H0 e0 Rk k => ?_) fun H2 e2 => q H2 (e1.trans e2)
    refine ⟨.str s, rfl, s, rfl, fun D hD => lc_rel (f := fun _ => true) (R := fun _ y _ => y = .bl true) walk_str hD (show s.length < 50000 by omega) (fun _ _ => trivial) (fun _ _ _ _ z => by rw [z.1]; exact Ex.refl _) (fun _ _ _ _ _ z => z) (fun i H2 x H3 hi e2 y _ kk => ?_) fun ys H2 e2 h2 hp => k _ H2 e2 ⟨D, ys, rfl, h2, all_true hp⟩⟩
    obtain ⟨rfl, c, g, rfl⟩ := y
    refine kk _ rfl et_yes fun _ => er_of (ev_op (ev_var rfl) ev_c fun H4 _ Q q => ⟨c, _, rfl, rfl, ?_⟩)
    have hm : c ∈ s.cps.toList := by
      obtain ⟨l1, z1⟩ := Array.getElem?_eq_some_iff.mp g
      rw [← z1]
      exact Array.getElem_mem_toList ..
    have e : decide (c ∈ letters.cps.toList) = true := hc c hm
    show Q (.bl (decide (c ∈ letters.cps.toList))) H4
    rw [e]
    exact q H4 (Ex.refl _)
theorem sc_widths_by : FnScope ["town", "bounds", "one", "other", "low", "high", "late"] ["town"] (defScope s_widths_by) := ⟨rfl, rfl, rfl, by decide +kernel, rfl, by decide +kernel, by decide +kernel⟩
def WP (rev : Bool) (H : Hp) (b : Addr) (w : Q4) : Prop := ∃ k l, H b = some (.tup [.ref k, .ref l]) ∧ H k = some (.tup (if rev then [.str w.2.1, .str w.1] else [.str w.1, .str w.2.1])) ∧ H l = some (.tup [.int w.2.2.1, .int w.2.2.2])
theorem WP.tx {rev : Bool} {H H' : Hp} {b : Addr} {w : Q4} (e : Tx H H') (h : WP rev H b w) : WP rev H' b w := let ⟨k, l, h1, h2, h3⟩ := h; ⟨k, l, e _ _ h1, e _ _ h2, e _ _ h3⟩
def wkey (rev : Bool) (w : Q4) : List Key := if rev then [.inr w.2.1, .inr w.1] else [.inr w.1, .inr w.2.1]
theorem wp_keys {rev : Bool} {H : Hp} {as : List Addr} {ws : List Q4} (h : Paired (WP rev H) as ws) : ∃ ks : List (List Key × Addr × V), Paired (fun p (k : List Key × Addr × V) => H p = some (.tup [.ref k.2.1, k.2.2]) ∧ H k.2.1 = some (.tup (k.1.map kV))) as ks ∧
    ks.map (·.1) = ws.map (wkey rev) ∧ ∀ w ∈ ws, ∃ l k, H l = some (.tup [.int w.2.2.1, .int w.2.2.2]) ∧ (wkey rev w, k, .ref l) ∈ ks := by
  induction h with
  | nil => exact ⟨[], .nil, rfl, fun w hw => by cases hw⟩
  | @cons b w as ws r _ ih =>
    obtain ⟨ks, h1, h2, h3⟩ := ih
    obtain ⟨k, l, g1, g2, g3⟩ := r
    refine ⟨(wkey rev w, k, .ref l) :: ks, .cons ⟨g1, ?_⟩ h1, by rw [List.map_cons, List.map_cons, h2], fun v hv => ?_⟩
    · show H k = some (.tup ((wkey rev w).map kV))
      rw [g2]
      cases rev <;> rfl
    · rcases List.mem_cons.mp hv with e | hv
      · subst e
        exact ⟨l, k, g3, List.mem_cons_self⟩
      · obtain ⟨l', k', z1, z2⟩ := h3 v hv
        exact ⟨l', k', z1, List.mem_cons_of_mem _ z2⟩
theorem wkeys_nd {T : Twn} (G : GoodTown T) : ((T.wires.map (wkey false)) ++ (T.wires.map (wkey true))).Nodup := by
  have key : ∀ a b c d : Str, ([.inr a, .inr b] : List Key) = [.inr c, .inr d] → a = c ∧ b = d := fun a b c d e => by
    injection e with e1 e2
    injection e2 with e2 _
    exact ⟨Sum.inr.inj e1, Sum.inr.inj e2⟩
  have one : ∀ rev, (T.wires.map (wkey rev)).Nodup := fun rev => by
    refine List.Pairwise.map _ (fun v w h e => ?_) G.asc
    have e2 : v.1 = w.1 ∧ v.2.1 = w.2.1 := by
      cases rev with
      | false => exact key _ _ _ _ e
      | true => exact (key _ _ _ _ e).symm
    rcases h with h | ⟨_, h⟩
    · exact lt_ne h e2.1
    · exact lt_ne h e2.2
  refine List.nodup_append.mpr ⟨one false, one true, fun a ha b hb e => ?_⟩
  obtain ⟨v, hv, ev⟩ := List.mem_map.mp ha
  obtain ⟨w, hw, ew⟩ := List.mem_map.mp hb
  have z := key _ _ _ _ (show ([.inr v.1, .inr v.2.1] : List Key) = [.inr w.2.1, .inr w.1] from ev.trans (e.trans ew.symm))
  have h1 := (G.ends v hv).2.2.1
  have h2 := (G.ends w hw).2.2.1
  rw [z.1, z.2] at h1
  exact ord_lt.irr _ (ord_lt.tr _ _ _ h1 h2)
theorem c_widths_by (T : Top K mg) : ∃ f fd, Cal P w K mg base 1 "widths_by" ["town"] sp_widths_by f fd := by
  refine cal_mk (k := 0) (i := 7) (st := s_widths_by) T rfl sc_widths_by (fun _ _ _ _ _ _ us hl => match us, hl with | [_], _ => rfl) (fun vs H Q E h => ?_) (fun {f cdv A outer s H vs Q E} hr h => ?_)
  · obtain ⟨_, rfl, _⟩ := h
    rfl
  have hu := hu_of hr
  refine ⟨_, (pss_cons (ps_setLc (i := 1) (own := [("one", 2), ("other", 3), ("low", 4), ("high", 5)]) (g := (gTup K 4 (gCons (gName 2) (gCons (gName 3) (gCons (gName 4) (gCons (gName 5) gNil)))))) rfl sc_widths_by.nd rfl rfl (sw_true rfl rfl rfl (by decide +kernel)) (pi_tup (pe_ix ix_tup (pv 0) pe_int (fun _ _ => rfl))) (blkOk_by (own := [("one", 2), ("other", 3), ("low", 4), ("high", 5)]) (N := ["town", "bounds", "one", "other", "low", "high", "late"]) (sc := defScope s_widths_by) (by decide +kernel)) (fun _ _ _ _ _ => (pg_tup rfl (pgs_cons (pg_name (i := 2) sc_widths_by.nd rfl (Or.inl rfl)) (pgs_cons (pg_name (i := 3) sc_widths_by.nd rfl (Or.inl rfl)) (pgs_cons (pg_name (i := 4) sc_widths_by.nd rfl (Or.inl rfl)) (pgs_cons (pg_name (i := 5) sc_widths_by.nd rfl (Or.inl rfl)) pgs_nil)))))) (fun _ _ _ _ _ => pts_nil) (fun _ _ _ _ _ => (pe_tup (pa_cons (pe_tup (pa_cons (pv 2) (pa_cons (pv 3) pa_nil))) (pa_cons (pe_tup (pa_cons (pv 4) (pa_cons (pv 5) pa_nil))) pa_nil)))))
        (pss_one (ps_ret (pe_callTy (call_dictT rfl hr.units) (by rfl) T.b_dict boot_dict (pa_cons (pe_op op_cat (pv 1) (pe_lc (own := [("one", 2), ("other", 3), ("late", 6)]) (g := (gTup K 2 (gCons (gTup K 2 (gCons (gName 2) (gCons (gName 3) gNil))) (gCons (gName 6) gNil)))) rfl sc_widths_by.nd (pi_list (pv 1)) (blkOk_by (own := [("one", 2), ("other", 3), ("late", 6)]) (N := ["town", "bounds", "one", "other", "low", "high", "late"]) (sc := defScope s_widths_by) (by decide +kernel)) (fun _ _ _ _ _ => (pg_tup rfl (pgs_cons (pg_tup rfl (pgs_cons (pg_name (i := 2) sc_widths_by.nd rfl (Or.inl rfl)) (pgs_cons (pg_name (i := 3) sc_widths_by.nd rfl (Or.inl rfl)) pgs_nil))) (pgs_cons (pg_name (i := 6) sc_widths_by.nd rfl (Or.inl rfl)) pgs_nil)))) (fun _ _ _ _ _ => pts_nil) (fun _ _ _ _ _ => (pe_tup (pa_cons (pe_tup (pa_cons (pv 3) (pa_cons (pv 2) pa_nil))) (pa_cons (pv 6) pa_nil)))))) pa_nil))))), ?_⟩
  obtain ⟨⟨t, W⟩, rfl, ⟨⟨x, y, pt, px, as, py, pr⟩, G⟩, q⟩ := h
  have pt : H t = some (.tup [.ref x, .ref y]) := pt
  have py : H y = some (.tup (as.map V.ref)) := py
  have pr : Paired (IsT4 H) as W.wires := pr
  have G : GoodTown W := G
  have la := paired_len pr
  have gl := G.len
  have at1 : Ev (tOp (rIxT K) (tVar 0) (tC (.int 1))) (start ["town", "bounds", "one", "other", "low", "high", "late"] [.ref t]) H (.ref y) := ev_op (ev_var rfl) ev_c (rv_ixT (st_of pt) (atI_nat (j := 1) rfl))
  have dflt : Q4 := (Str.empty, Str.empty, 0, 0)
  refine q_asgR (R := fun v H2 => ∃ p, v = .ref p ∧ LstOf (WP false) H2 p W.wires) (fun H0 e0 Rk k => at1 H0 e0 _ fun H2 e2 => ⟨y, rfl, ⟨as.map V.ref, st_of ((e0.trans e2) _ _ py)⟩, fun D hD => lc_rel (f := fun _ => true)
    (R := fun i v H3 => ∃ b, v = .ref b ∧ WP false H3 b (W.wires.getD i dflt)) (walk_tup (xs := as.map V.ref)) hD (by rw [List.length_map]; omega) (fun H3 e3 => st_of ((e0.trans (e2.trans e3)) _ _ py)) (fun _ _ _ _ z => yat_ex z) (fun _ _ _ _ e ⟨b, z1, z2⟩ => ⟨b, z1, z2.tx e⟩) (fun i H3 v H4 hil e3 yv _ kk => ?_) fun ys H3 e3 h3 hpr => ?_⟩) fun v H1 e1 hv => ?_
  · obtain ⟨e34, hv⟩ := yv
    subst e34
    have e04 := e0.trans (e2.trans e3)
    rw [List.getElem?_map] at hv
    obtain ⟨b0, hb0, eb0⟩ := Option.map_eq_some_iff.mp hv
    subst eb0
    obtain ⟨li, _⟩ := List.getElem?_eq_some_iff.mp hb0
    have hw := List.getElem?_eq_getElem (show i < W.wires.length by omega)
    have pb : H b0 = some (.tup [.str W.wires[i].1, .str W.wires[i].2.1, .int W.wires[i].2.2.1, .int W.wires[i].2.2.2]) := paired_get (F := IsT4 H) pr hb0 hw
    refine ⟨b0, _, rfl, st_of (e04 _ _ pb), rfl, _, _, rfl, _, _, rfl, _, _, rfl, _, _, rfl, rfl, ?_⟩
    refine kk _ rfl et_yes fun _ => er_imp (er_tup2R (er_tup (ea_cons (ev_var rfl) (ea_cons (ev_var rfl) ea_nil)) (Nat.le_of_ble_eq_true rfl)) tupAt_ex (er_tup (ea_cons (ev_var rfl) (ea_cons (ev_var rfl) ea_nil)) (Nat.le_of_ble_eq_true rfl)) tupAt_ex) fun v H5 _ ⟨b, x1, y1, z1, z2, ⟨k1, z3, z4⟩, ⟨l1, z5, z6⟩⟩ => ?_
    subst z3 z5
    rw [getD_at hw]
    exact ⟨b, z1, k1, l1, z2, z4, z6⟩
  · rw [filter_tt, List.length_map, la] at hpr
    obtain ⟨bs, eb, pb⟩ := refs_ofD (R := WP false H3) hpr
    subst eb
    exact k _ H3 (e2.trans e3) ⟨D, rfl, bs, h3, pb⟩
  · obtain ⟨p, ev, bs, hp, pb⟩ := hv
    subst ev
    have lb := paired_len pb
    refine s_retR (R := fun v H2 => IsBnds H2 v W) (er_cbR (R1 := fun v H2 => ∃ p2 cs, v = .ref p2 ∧ H2 p2 = some (.lst ((bs ++ cs).map V.ref)) ∧ Paired (WP false H2) bs W.wires ∧ Paired (WP true H2) cs W.wires) (er_opR (R1 := fun v _ => v = .ref p) (R3 := fun v H2 => ∃ p2, v = .ref p2 ∧ LstOf (WP true) H2 p2 W.wires) (er_of (ev_var rfl)) (fun _ _ _ _ z => z)
      (fun H0 e0 Rk k => ⟨_, rfl, p, rfl, ⟨bs.map V.ref, sq_of (e0 _ _ hp)⟩, fun D hD => lc_rel (f := fun _ => true) (R := fun i v H3 => ∃ b, v = .ref b ∧ WP true H3 b (W.wires.getD i dflt)) (walk_list (xs := bs.map V.ref)) hD (by rw [List.length_map]; omega) (fun H3 e3 => sq_of ((e0.trans e3) _ _ hp)) (fun _ _ _ _ z => yat_ex z)
        (fun _ _ _ _ e ⟨b, z1, z2⟩ => ⟨b, z1, z2.tx e⟩) (fun i H3 v H4 hil e3 yv _ kk => ?_) fun ys H3 e3 h3 hpr => ?_⟩) fun v1 v2 H2 e2 hv1 hv2 Rk k => ?_) fun v H2 e2 hv Rk k => ?_) fun v H2 e2 hv => q v H2 (e1.trans e2) hv
    · obtain ⟨e34, hv⟩ := yv
      subst e34
      have e04 := e0.trans e3
      rw [List.getElem?_map] at hv
      obtain ⟨b0, hb0, eb0⟩ := Option.map_eq_some_iff.mp hv
      subst eb0
      obtain ⟨li, _⟩ := List.getElem?_eq_some_iff.mp hb0
      have hw := List.getElem?_eq_getElem (show i < W.wires.length by omega)
      obtain ⟨k1, l1, g1, g2, g3⟩ := paired_get (F := WP false H1) pb hb0 hw
      have g2 : H1 k1 = some (.tup [.str W.wires[i].1, .str W.wires[i].2.1]) := g2
      refine ⟨b0, _, rfl, st_of (e04 _ _ g1), rfl, _, _, rfl, ⟨k1, _, rfl, st_of (e04 _ _ g2), rfl, _, _, rfl, _, _, rfl, rfl, _, _, rfl, rfl, ?_⟩⟩
      refine kk _ rfl et_yes fun _ => er_imp (er_tup2R (R3 := fun v _ => v = .ref l1) (er_tup (ea_cons (ev_var rfl) (ea_cons (ev_var rfl) ea_nil)) (Nat.le_of_ble_eq_true rfl)) tupAt_ex (er_of (ev_var rfl)) fun _ _ _ _ z => z) fun v H5 e5 ⟨b, x1, y1, z1, z2, ⟨k2, z3, z4⟩, z5⟩ => ?_
      subst z3 z5
      rw [getD_at hw]
      exact ⟨b, z1, k2, l1, z2, z4, (e04.trans e5) _ _ g3⟩
    · rw [filter_tt, List.length_map, lb] at hpr
      obtain ⟨cs, ec, pc⟩ := refs_ofD (R := WP true H3) hpr
      subst ec
      exact k _ H3 e3 ⟨D, rfl, cs, h3, pc⟩
    · obtain ⟨p2, ev2, cs, hc, pc⟩ := hv2
      subst hv1 ev2
      have lc := paired_len pc
      refine ⟨p, p2, _, _, rfl, rfl, e2 _ _ hp, hc, sz_of (by rw [List.length_map, List.length_map]; omega), fun u nu => k _ _ (Ex.new nu) ⟨u, cs, rfl, ?_, paired_imp (fun _ _ z => z.tx (Tx.of (e2.trans (Ex.new nu)))) pb, paired_imp (fun _ _ z => z.tx (Tx.of (Ex.new nu))) pc⟩⟩
      rw [upd_same, List.map_append]
    · obtain ⟨p2, cs, ev, h2, pb2, pc2⟩ := hv
      subst ev
      obtain ⟨k1, a1, a2, a3⟩ := wp_keys pb2
      obtain ⟨k2, b1, b2, b3⟩ := wp_keys pc2
      have nd : ((k1 ++ k2).map (·.1)).Nodup := by
        rw [List.map_append, a2, b2]
        exact wkeys_nd G
      refine ⟨p2, bs ++ cs, k1 ++ k2, rfl, sq_of h2, paired_app a1 b1, nd, fun u nu => k _ _ (Ex.new nu) ⟨u, _, rfl, upd_same, fun a b lo hi hb => ?_⟩⟩
      have nd2 : (((k1 ++ k2).map fun k => (k.1, k.2.2)).map (·.1)).Nodup := by
        rw [List.map_map]
        exact nd
      obtain ⟨w, hw, hab, ep⟩ := bnd_mem hb
      have e1 : lo = w.2.2.1 := congrArg Prod.fst ep
      have e2' : hi = w.2.2.2 := congrArg Prod.snd ep
      subst e1 e2'
      rcases hab with ⟨z1, z2⟩ | ⟨z1, z2⟩
      · subst z1 z2
        obtain ⟨l, k0, c1, c2⟩ := a3 w hw
        exact ⟨l, valV_mem nd2 (List.mem_map.mpr ⟨_, List.mem_append_left _ c2, rfl⟩), (Ex.new nu) _ _ c1⟩
      · subst z1 z2
        obtain ⟨l, k0, c1, c2⟩ := b3 w hw
        exact ⟨l, valV_mem nd2 (List.mem_map.mpr ⟨_, List.mem_append_right _ c2, rfl⟩), (Ex.new nu) _ _ c1⟩
theorem sc_is_outside : FnScope ["lot", "letter"] ["lot", "letter"] (defScope s_is_outside) := ⟨rfl, rfl, rfl, by decide +kernel, rfl, by decide +kernel, by decide +kernel⟩
theorem c_is_outside (T : Top K mg) : ∃ f fd, Cal P w K mg base 1 "is_outside" ["lot", "letter"] sp_is_outside f fd := by
  refine cal_mk (k := 0) (i := 8) (st := s_is_outside) T rfl sc_is_outside (fun _ _ _ _ _ _ us hl => match us, hl with | [_, _], _ => rfl) (fun vs H Q E h => ?_) (fun {f cdv A outer s H vs Q E} hr h => ?_)
  · obtain ⟨_, rfl, _⟩ := h
    rfl
  have hu := hu_of hr
  refine ⟨_, (pss_one (ps_ret (pe_and (pe_cmpR op_notIn_seq (pe_ix ix_tup (pv 1) pe_int (fun _ _ => rfl)) (pv 0) (by rfl)) (pe_one (pe_cmpR op_notIn_seq (pe_ix ix_tup (pv 1) pe_int (fun _ _ => rfl)) (pv 0) (by rfl)))))), ?_⟩
  obtain ⟨⟨⟨l, a⟩, lot, w4⟩, rfl, ⟨pl, pa⟩, q⟩ := h
  have pl : H l = some (.tup (lot.map V.str)) := pl
  have pa : H a = some (.tup [.str w4.1, .str w4.2.1, .int w4.2.2.1, .int w4.2.2.2]) := pa
  refine s_ret (ev_andV (ev_op (ev_op (ev_var rfl) ev_c (rv_ixT (st_of pa) (atI_nat (j := 0) rfl))) (ev_var rfl) (rv_niT (st_of pl) rfl flat_strs)) fun _ => ev_op (ev_op (ev_var rfl) ev_c (rv_ixT (st_of pa) (atI_nat (j := 1) rfl))) (ev_var rfl) (rv_niT (st_of pl) rfl flat_strs)) fun H1 e1 => ?_
  have e : (!inV (.str w4.1) (lot.map V.str) && !inV (.str w4.2.1) (lot.map V.str)) = decide (w4.1 ∉ lot ∧ w4.2.1 ∉ lot) := by
    rw [inV_strs, inV_strs, Bool.decide_and, decide_not, decide_not]
  show Q (.bl (!inV (.str w4.1) (lot.map V.str) && !inV (.str w4.2.1) (lot.map V.str))) H1
  rw [e]
  exact q H1 e1
theorem sc_outside_by : FnScope ["town", "lot", "tower"] ["town", "lot"] (defScope s_outside_by) := ⟨rfl, rfl, rfl, by decide +kernel, rfl, by decide +kernel, by decide +kernel⟩
theorem c_outside_by (T : Top K mg) : ∃ f fd, Cal P w K mg base 1 "outside_by" ["town", "lot"] sp_outside_by f fd := by
  refine cal_mk (k := 0) (i := 10) (st := s_outside_by) T rfl sc_outside_by (fun _ _ _ _ _ _ us hl => match us, hl with | [_, _], _ => rfl) (fun vs H Q E h => ?_) (fun {f cdv A outer s H vs Q E} hr h => ?_)
  · obtain ⟨_, rfl, _⟩ := h
    rfl
  have hu := hu_of hr
  refine ⟨_, (pss_one (ps_ret (pe_callTy call_tuple_of (by rfl) T.b_tuple boot_tuple (pa_cons (pe_lc (own := [("tower", 2)]) (g := (gName 2)) rfl sc_outside_by.nd (pi_tup (pe_ix ix_tup (pv 0) pe_int (fun _ _ => rfl))) (blkOk_by (own := [("tower", 2)]) (N := ["town", "lot", "tower"]) (sc := defScope s_outside_by) (by decide +kernel)) (fun _ _ _ _ _ => (pg_name (i := 2) sc_outside_by.nd rfl (Or.inl rfl))) (fun _ _ _ _ _ => (pts_one (pt_cmpR (op_notIn_seqK (K := K) rfl) (pv 2) (pv 1) (by rfl)))) (fun _ _ _ _ _ => (pv 2))) pa_nil)))), ?_⟩
  obtain ⟨⟨⟨t, l⟩, W, lot⟩, rfl, ⟨⟨x, y, pt, px, _⟩, pl, hl⟩, q⟩ := h
  have pt : H t = some (.tup [.ref x, .ref y]) := pt
  have px : H x = some (.tup (W.names.map V.str)) := px
  have pl : H l = some (.tup (lot.map V.str)) := pl
  have hl : W.names.length ≤ 5 := hl
  have el := el_lcT (K := K) (σ := start ["town", "lot", "tower"] [.ref t, .ref l]) (H := H) (te := tVar 2) (t := tTest (tOp (rIn K true) (tVar 2) (tVar 1))) (j := 2) (vs := [2]) (fun i => decide (W.names.getD i Str.empty ∉ lot)) (fun i => .str (W.names.getD i Str.empty))
    (ev_op (x := .ref t) (ev_var (i := 0) rfl) (ev_c (v := .int 0)) (rv_ixT (K := K) (st_of pt) (atI_nat (j := 0) rfl))) (st_of px) (by rw [List.length_map]; omega) (fun x => rfl) (fun i z H1 e1 hz => by
      rw [List.getElem?_map] at hz
      obtain ⟨s, h1, rfl⟩ := Option.map_eq_some_iff.mp hz
      refine et_is (et_test (ev_op (ev_var rfl) (ev_var rfl) (rv_niT (ex_t e1 (st_of pl)) rfl flat_strs))) ?_
      rw [inV_strs, List.getD_eq_getElem?_getD, h1, decide_not]
      rfl) (fun i z H1 e1 hz _ => by
      rw [List.getElem?_map] at hz
      obtain ⟨s, h1, rfl⟩ := Option.map_eq_some_iff.mp hz
      rw [List.getD_eq_getElem?_getD, h1]
      exact ev_var rfl)
  refine s_retR (R := fun v H2 => ∃ p, v = .ref p ∧ IsTs H2 p (outs W lot)) (er_cbL el fun p H1 e1 hp Rk k => ⟨p, _, rfl, Or.inl ⟨sq_of hp, fun u nu => k (.ref u) _ (Ex.new nu) ⟨u, rfl, ?_⟩⟩⟩) fun v H1 e1 r => q v H1 e1 r
  show upd H1 u _ u = some (.tup ((outs W lot).map V.str))
  rw [upd_same]
  exact congrArg (fun l => some (HO.tup l)) (given_filter (names := W.names) (p := fun s => decide (s ∉ lot)))
theorem sc_settled_by : FnScope ["ties", "sums", "laps", "least", "last", "here", "lap", "one", "other", "most", "index"] ["ties", "sums", "laps"] (defScope s_settled_by) := ⟨rfl, rfl, rfl, by decide +kernel, rfl, by decide +kernel, by decide +kernel⟩
def hereV : Option Str → V
  | none => .non
  | some s => .str s
structure Sv (H0 : Hp) (a b : Addr) (vs : List Str) (S : NH.BF Str) (H : Hp) : Prop where
  ex : Ex H0 H
  l : H a = some (.dK (lpairs vs S.L))
  p : IsP H b vs S.P
theorem Sv.mono {H0 : Hp} {a b : Addr} {vs : List Str} {S : NH.BF Str} {H H' : Hp} (h : Sv H0 a b vs S H) (e : Ex H H') : Sv H0 a b vs S H' := ⟨h.ex.trans e, e _ _ h.l, h.p.ex e⟩
theorem Sv.put {H0 : Hp} {a b : Addr} {vs : List Str} {S : NH.BF Str} {H H1 : Hp} {kvs : List (Key × V)} {t : NH.Tie Str} {u : Addr} (h : Sv H0 a b vs S H) (ha : H0 a = none) (hb : H0 b = none) (nab : a ≠ b) (m2 : t.other ∈ vs)
    (hk : H b = some (.dK kvs)) (k2 : (kvs.map (·.1)).Nodup) (k3 : ∀ k ∈ kvs.map (·.1), ∃ x ∈ vs, k = .inr x) (k4 : ∀ x u i, S.P x = some (u, i) → ∃ t, valV kvs (.inr x) = some (.ref t) ∧ H t = some (.tup [.str u, .int (i : Nat)]))
    (e : Ex (upd H a (.dK (putK (lpairs vs S.L) (.inr t.other) (.int (S.L t.one + t.most))))) H1) (hu : H1 u = some (.tup [.str t.one, .int (t.idx : Nat)])) (hlt : S.L t.one + t.most < S.L t.other) :
    Sv H0 a b vs (NH.relax S t) (upd H1 b (.dK (putK kvs (.inr t.other) (.ref u)))) := by
  have h1b : H1 b = some (.dK kvs) := e _ _ (by rw [upd_ne nab.symm]; exact hk)
  have tx : Tx H H1 := (Tx.dK h.l).trans (Tx.of e)
  have tx2 : Tx H1 (upd H1 b (.dK (putK kvs (.inr t.other) (.ref u)))) := Tx.dK h1b
  unfold NH.relax
  rw [if_pos hlt]
  obtain ⟨n1, n2⟩ := put_keys (v := .ref u) (k := .inr t.other) k2
  refine ⟨Ex.mut ((Ex.mut h.ex ha).trans e) hb, ?_, _, upd_same, n1, fun k hk' => ?_, fun x y i z => ?_⟩
  · rw [upd_ne nab, e _ _ upd_same, lp_put m2]
  · rcases n2 k hk' with z | z
    · exact ⟨t.other, m2, z⟩
    · exact k3 k z
  · have z : (if x = t.other then some (t.one, t.idx) else S.P x) = some (y, i) := z
    rw [valV_put]
    by_cases c : x = t.other
    · rw [if_pos c] at z
      cases z
      exact ⟨u, if_pos (congrArg _ c), tx2 _ _ hu⟩
    · rw [if_neg c] at z
      obtain ⟨t0, z1, z2⟩ := k4 x y i z
      exact ⟨t0, by rw [if_neg (fun q => c (Sum.inr.inj q))]; exact z1, tx2 _ _ (tx _ _ z2)⟩
theorem q_par3 {σ : L2.St} {H : Hp} {D : Ends} {tz : TS} {i j l : Nat} {ta tb tc : TE} {R1 R3 : V → Hp → Prop} {R2 : V → V → Hp → Prop} (ha : EvR ta σ H R1) (hb : ∀ x H1, Ex H H1 → R1 x H1 → EvR tb σ H1 (R2 x)) (s2 : ∀ x v H1 H2, Ex H1 H2 → R2 x v H1 → R2 x v H2) (hc : EvR tc σ H R3)
    (k : ∀ x y z H1, Ex H H1 → R2 x y H1 → R3 z H1 → tz D (((σ.set i (some x)).set j (some y)).set l (some z)) H1) : tSeq (tPar3 i j l (tCons ta (tCons tb (tCons tc tNil)))) tz D σ H :=
  ha H (Ex.refl _) _ fun x H1 e1 h1 => hb x H1 e1 h1 H1 (Ex.refl _) _ fun y H2 e2 h2 => hc H2 (e1.trans e2) _ fun z H3 e3 h3 => ⟨x, y, z, rfl, k x y z H3 ((e1.trans e2).trans e3) (s2 _ _ _ _ e3 h2) h3⟩
theorem c_settled_by (T : Top K mg) : ∃ f fd, Cal P w K mg base 1 "settled_by" ["ties", "sums", "laps"] sp_settled_by f fd := by
  refine cal_mk (k := 0) (i := 11) (st := s_settled_by) T rfl sc_settled_by (fun _ _ _ _ _ _ us hl => match us, hl with | [_, _, _], _ => rfl) (fun vs H Q E h => ?_) (fun {f cdv A outer s H vs Q E} hr h => ?_)
  · obtain ⟨_, rfl, _⟩ := h
    rfl
  have hu := hu_of hr
  refine ⟨_, (pss_cons (ps_par3 (i := 3) (j := 4) (l := 5) rfl sc_settled_by.nd rfl rfl rfl (by decide) (by decide) (by decide) rfl rfl rfl (pa_cons (pe_callTy (call_dictP rfl) (by rfl) T.b_dict boot_dict (pa_cons (LiI.pe_listItems rfl (pv 1) (by rfl) T.b_list boot_list) pa_nil)) (pa_cons pe_dnewK (pa_cons pe_non pa_nil))) (by rfl))
        (pss_cons (ps_for PassesOwn.never rfl (pi_range1 (by rfl) T.b_range (pa_cons (pv 2) pa_nil)) (pg_name (i := 6) sc_settled_by.nd rfl (Or.inl rfl)) 
          (pss_cons (ps_set (i := 5) sc_settled_by.nd rfl (Or.inl rfl) pe_non)
          (pss_cons (ps_for PassesOwn.never rfl (pi_list (pv 0)) (pg_tup rfl (pgs_cons (pg_name (i := 7) sc_settled_by.nd rfl (Or.inl rfl)) (pgs_cons (pg_name (i := 8) sc_settled_by.nd rfl (Or.inl rfl)) (pgs_cons (pg_name (i := 9) sc_settled_by.nd rfl (Or.inl rfl)) (pgs_cons (pg_name (i := 10) sc_settled_by.nd rfl (Or.inl rfl)) pgs_nil))))) 
            (pss_one (ps_if (PW.pt (pw_and (pt_cmp (pc_din hu (pv 7) (pv 3))) (pw_and1 (PW.pt (pw_or (pt_cmp (pc_dnotin hu (pv 8) (pv 3))) (pw_or1 (pt_cmpR op_lt (pe_op op_add (pe_dget hu (pv 3) (pv 7) (fun _ _ => rfl)) (pv 9)) (pe_dget hu (pv 3) (pv 8) (fun _ _ => rfl)) (nomark _)))))))) 
              (pss_cons (ps_dput hu (pv 3) (pv 8) (pe_op op_add (pe_dget hu (pv 3) (pv 7) (fun _ _ => rfl)) (pv 9)) rfl)
              (pss_cons (ps_dput hu (pv 4) (pv 8) (pe_tup (pa_cons (pv 7) (pa_cons (pv 10) pa_nil))) rfl)
              (pss_one (ps_set (i := 5) sc_settled_by.nd rfl (Or.inl rfl) (pv 8))))) pss_nil)))
          (pss_one (ps_if (pt_cmpR op_isN (pv 5) pe_non (nomark _)) 
            (pss_one (ps_ret (pe_tup (pa_cons (pv 3) (pa_cons (pv 4) (pa_cons pe_non pa_nil)))))) pss_nil)))))
        (pss_one (ps_ret (pe_tup (pa_cons (pv 3) (pa_cons (pv 4) (pa_cons (pv 5) pa_nil)))))))), ?_⟩
  obtain ⟨⟨⟨ta, sa⟩, ts, vs, k⟩, rfl, ⟨⟨as, hts, pts⟩, hsa, nd, ends, few, kk⟩, q⟩ := h
  have hts : H ta = some (.lst (as.map V.ref)) := hts
  have pts : Paired (IsTie H) as ts := pts
  have hsa : H sa = some (.dK (lpairs vs fun _ => 0)) := hsa
  have nd : vs.Nodup := nd
  have ends : ∀ t ∈ ts, t.one ∈ vs ∧ t.other ∈ vs := ends
  have few : vs.length ≤ 5 := few
  have kk : k ≤ 10 := kk
  have lts := paired_len pts
  refine q_par3 (R1 := fun v H2 => ∃ a, v = .ref a ∧ H a = none ∧ H2 a = some (.dK (lpairs vs fun _ => 0))) (R2 := fun x v H2 => ∃ a b, x = .ref a ∧ v = .ref b ∧ H a = none ∧ H b = none ∧ a ≠ b ∧ H2 a = some (.dK (lpairs vs fun _ => 0)) ∧ H2 b = some (.dK [])) (R3 := fun v _ => v = .non) ?r1 ?r2
    (fun _ _ _ _ e ⟨a, b, z1, z2, z3, z4, z5, z6, z7⟩ => ⟨a, b, z1, z2, z3, z4, z5, e _ _ z6, e _ _ z7⟩) (er_of ev_c) fun x y z H1 e1 hxy hz => ?_
  case r1 =>
    intro H1 e1 Rk kx
    refine ⟨_, rfl, sa, _, rfl, e1 _ _ hsa, fun H2 p us e2 np nus pn hp hpr => ⟨p, us, _, rfl, sq_of hp, paired_imp (fun _ _ z => st_of z) hpr, fun a na => kx _ _ (Ex.trans e2 (Ex.new na)) ⟨a, rfl, fresh_back (e1.trans e2) na, ?_⟩⟩⟩
    rw [upd_same, merge_nd (lp_nd nd)]
  case r2 => exact fun x H0 e0 ⟨a, z1, z2, z3⟩ H1 e1 Rk kx => fun b nb => kx _ _ (Ex.new nb) ⟨a, b, z1, rfl, z2, fresh_back (e0.trans e1) nb, ne_of_none (e1 _ _ z3) nb, (e1.trans (Ex.new nb)) _ _ z3, upd_same⟩
  obtain ⟨a, b, rfl, rfl, na, nb, nab, ha, hb⟩ := hxy
  subst hz
  have sv0 : Sv H a b vs (NH.laps ts 0) H1 := ⟨e1, ha, [], hb, List.nodup_nil, fun k hk => (by cases hk), fun x u i z => (by cases z)⟩
  have pk : ∀ {H' : Hp} {S : NH.BF Str} {σ : L2.St} {z : V} {tz : TE}, Sv H a b vs S H' → σ[3]? = some (some (.ref a)) → σ[4]? = some (some (.ref b)) → Ev tz σ H' z → EvR (tTup (tCons (tVar 3) (tCons (tVar 4) (tCons tz tNil)))) σ H' (TupAt [.ref a, .ref b, z]) := fun h s3 s4 hz => er_tup (ea_cons (ev_var s3) (ea_cons (ev_var s4) (ea_cons hz ea_nil))) (Nat.le_of_ble_eq_true rfl)
  refine q_forR1 (n := ((k + 1 : Nat) : Int)) (ea_cons (ev_var (v := .int ((k : Int) + 1)) rfl) ea_nil) (by omega) (fun j σ' H' => (∃ u6 u7 u8 u9 u10, σ' = [some (.ref ta), some (.ref sa), some (.int ((k : Int) + 1)), some (.ref a), some (.ref b), some (hereV (NH.laps ts j).here), u6, u7, u8, u9, u10]) ∧ Sv H a b vs (NH.laps ts j) H' ∧ (1 ≤ j → (NH.laps ts j).here ≠ none))
    (fun H2 e2 => ⟨⟨_, _, _, _, _, rfl⟩, sv0.mono e2, fun z => by omega⟩) (fun j σ' H' hj ⟨⟨u6, u7, u8, u9, u10, es⟩, sv, _⟩ => ?_) fun σ' H' ⟨⟨u6, u7, u8, u9, u10, es⟩, sv, hn⟩ => ?_
  · subst es
    have hj : (j : Int) < ((k + 1 : Nat) : Int) := hj
    refine q_asg (v := .non) ev_c fun H2 e2 => ?_
    have sv2 := sv.mono e2
    refine q_forL (xs := as.map V.ref) (ev_var rfl) (sq_of (sv2.ex _ _ hts)) (fun i σ' H' => (∃ u7 u8 u9 u10, σ' = [some (.ref ta), some (.ref sa), some (.int ((k : Int) + 1)), some (.ref a), some (.ref b), some (hereV ((ts.take i).foldl NH.relax { NH.laps ts j with here := none }).here), some (.int (j : Nat)), u7, u8, u9, u10]) ∧
        Sv H a b vs ((ts.take i).foldl NH.relax { NH.laps ts j with here := none }) H') (fun H3 e3 => ⟨⟨_, _, _, _, rfl⟩, (⟨(sv2.mono e3).ex, (sv2.mono e3).l, (sv2.mono e3).p⟩ : Sv H a b vs { NH.laps ts j with here := none } H3)⟩)
      (fun i σ' H' _ z => sq_of (z.2.ex _ _ hts)) (fun i x σ' H' hx ⟨⟨v7, v8, v9, v10, es⟩, sv3⟩ => ?_) fun σ' H' ⟨⟨v7, v8, v9, v10, es⟩, sv3⟩ => ?_
    · subst es
      rw [List.getElem?_map] at hx
      obtain ⟨c, hc, ec⟩ := Option.map_eq_some_iff.mp hx
      subst ec
      have li := (List.getElem?_eq_some_iff.mp hc).1
      have hw := List.getElem?_eq_getElem (show i < ts.length by omega)
      have pc := paired_get (F := IsTie H) pts hc hw
      obtain ⟨m1, m2⟩ := ends _ (List.getElem_mem (show i < ts.length by omega))
      have eS : (ts.take (i + 1)).foldl NH.relax { NH.laps ts j with here := none } = NH.relax ((ts.take i).foldl NH.relax { NH.laps ts j with here := none }) ts[i] := by
        rw [List.take_add_one, hw, List.foldl_append]
        rfl
      rw [eS]
      generalize ts[i] = t at hw pc m1 m2
      generalize (ts.take i).foldl NH.relax { NH.laps ts j with here := none } = S at sv3
      have pc : H c = some (.tup [.str t.one, .str t.other, .int t.most, .int (t.idx : Nat)]) := pc
      refine ⟨c, _, rfl, st_of (sv3.ex _ _ pc), rfl, _, _, rfl, _, _, rfl, _, _, rfl, _, _, rfl, rfl, ?_⟩
      dsimp only
      refine s_when (b := decide (S.L t.one + t.most < S.L t.other)) (et_is (et_and (a := true) (et_is (et_dinK (ev_var rfl) (ev_var rfl) sv3.l) (by rw [lp_val nd m1]; rfl)) fun _ => et_or (a := false) (et_is (et_dninK (ev_var rfl) (ev_var rfl) sv3.l) (by rw [lp_val nd m2]; rfl)) fun _ =>
        et_test (ev_op (ev_op (ev_dgetK (ev_var rfl) (ev_var rfl) sv3.l (lp_val nd m1)) (ev_var rfl) rv_I0) (ev_dgetK (ev_var rfl) (ev_var rfl) sv3.l (lp_val nd m2)) rv_I0)) (by rw [Bool.true_and, Bool.false_or])) (fun hlt H3 e3 => ?_) fun hlt H3 e3 => ?_
      · have hlt : S.L t.one + t.most < S.L t.other := of_decide_eq_true hlt
        have sv4 := sv3.mono e3
        obtain ⟨kvs, hkb, hkl, k2, k3, k4⟩ := sv4.p.len
        refine q_dputK (v := .int (S.L t.one + t.most)) (ev_op (ev_dgetK (ev_var rfl) (ev_var rfl) sv4.l (lp_val nd m1)) (ev_var rfl) rv_I0) (ev_var rfl) (ev_var rfl) sv4.l (by rw [lp_len]; omega) fun H4 e4 => ?_
        have sv5 := sv4.mono e4
        have hb5 : upd H4 a (.dK (putK (lpairs vs S.L) (.inr t.other) (.int (S.L t.one + t.most)))) b = some (.dK kvs) := by
          rw [upd_ne nab.symm]
          exact e4 _ _ hkb
        refine q_dputR (R1 := TupAt [.str t.one, .int (t.idx : Nat)]) (er_tup (ea_cons (ev_var rfl) (ea_cons (ev_var rfl) ea_nil)) (Nat.le_of_ble_eq_true rfl)) tupAt_ex (ev_var rfl) (ev_var rfl) hb5 (by omega) fun v H5 e5 hv => ?_
        obtain ⟨u, ev, hu⟩ := hv
        subst ev
        have fin := sv5.put na nb nab m2 (e4 _ _ hkb) k2 k3 (fun x u i z => by
          obtain ⟨t0, z1, z2⟩ := k4 x u i z
          exact ⟨t0, z1, e4 _ _ z2⟩) e5 hu hlt
        have eh : (NH.relax S t).here = some t.other := by
          unfold NH.relax
          rw [if_pos hlt]
        rw [eh]
        exact s_asg (v := .str t.other) (ev_var rfl) fun H6 e6 => ⟨⟨_, _, _, _, rfl⟩, fin.mono e6⟩
      · have hlt : ¬ S.L t.one + t.most < S.L t.other := of_decide_eq_false hlt
        have er : NH.relax S t = S := if_neg hlt
        rw [er]
        exact ⟨⟨_, _, _, _, rfl⟩, sv3.mono e3⟩
    · subst es
      have eT : ts.take (as.map V.ref).length = ts := List.take_of_length_le (by rw [List.length_map]; omega)
      rw [eT] at sv3 ⊢
      have eL : ts.foldl NH.relax { NH.laps ts j with here := none } = NH.laps ts (j + 1) := rfl
      rw [eL] at sv3 ⊢
      cases hh : (NH.laps ts (j + 1)).here with
      | none =>
        refine s_when (b := true) (et_test (ev_op (ev_var rfl) ev_c fun H5 _ Q q => ⟨rfl, q H5 (Ex.refl _)⟩)) (fun _ H3 e3 => ?_) fun z => by cases z
        have sv4 := sv3.mono e3
        refine s_retR (pk sv4 rfl rfl ev_c) fun v H4 e4 hv => ?_
        obtain ⟨p, ev, hp⟩ := hv
        subst ev
        have sv5 := sv4.mono e4
        exact q _ H4 sv5.ex ⟨p, a, b, _, j + 1, rfl, hp, sv5.l, sv5.p, by omega, Or.inl ⟨hh, rfl⟩⟩
      | some h0 =>
        refine s_when (b := false) (et_test (ev_op (ev_var rfl) ev_c fun H5 _ Q q => ⟨rfl, q H5 (Ex.refl _)⟩)) (fun z => by cases z) fun _ H3 e3 => ⟨⟨_, _, _, _, _, rfl⟩, sv3.mono e3, fun _ => fun z => by cases z⟩
  · subst es
    have ek : ((k + 1 : Nat) : Int).toNat = k + 1 := rfl
    rw [ek] at sv hn ⊢
    obtain ⟨h0, hh⟩ := Option.ne_none_iff_exists'.mp (hn (by omega))
    rw [hh]
    refine s_retR (D := { nx := fun _ H' => Q .non H', rt := Q }) (pk sv rfl rfl (ev_var rfl)) fun v H4 e4 hv => ?_
    obtain ⟨p, ev, hp⟩ := hv
    subst ev
    have sv5 := sv.mono e4
    exact q _ H4 sv5.ex ⟨p, a, b, _, k + 1, rfl, hp, sv5.l, sv5.p, by omega, Or.inr ⟨h0, hh, rfl, rfl⟩⟩
theorem sc_all_noughts : FnScope ["towers", "tower"] ["towers"] (defScope s_all_noughts) := ⟨rfl, rfl, rfl, by decide +kernel, rfl, by decide +kernel, by decide +kernel⟩
theorem c_all_noughts (T : Top K mg) : ∃ f fd, Cal P w K mg base 1 "all_noughts" ["towers"] sp_all_noughts f fd := by
  refine cal_mk (k := 0) (i := 12) (st := s_all_noughts) T rfl sc_all_noughts (fun _ _ _ _ _ _ us hl => match us, hl with | [_], _ => rfl) (fun vs H Q E h => ?_) (fun {f cdv A outer s H vs Q E} hr h => ?_)
  · obtain ⟨_, rfl, _⟩ := h
    rfl
  have hu := hu_of hr
  refine ⟨_, (pss_one (ps_ret (pe_callTy (call_dictP rfl) (by rfl) T.b_dict boot_dict (pa_cons (pe_lc (own := [("tower", 1)]) (g := (gName 1)) rfl sc_all_noughts.nd (pi_tup (pv 0)) (blkOk_by (own := [("tower", 1)]) (N := ["towers", "tower"]) (sc := defScope s_all_noughts) (by decide +kernel)) (fun _ _ _ _ _ => (pg_name (i := 1) sc_all_noughts.nd rfl (Or.inl rfl))) (fun _ _ _ _ _ => pts_nil) (fun _ _ _ _ _ => (pe_tup (pa_cons (pv 1) (pa_cons pe_int pa_nil))))) pa_nil)))), ?_⟩
  obtain ⟨⟨a, vs⟩, rfl, ⟨pa, nd, hl⟩, q⟩ := h
  have pa : H a = some (.tup (vs.map V.str)) := pa
  have nd : vs.Nodup := nd
  have hl : vs.length ≤ 5 := hl
  refine s_retR (R := fun v H2 => ∃ p, v = .ref p ∧ H2 p = some (.dK (lpairs vs fun _ => 0))) (er_cbR (R1 := fun v H2 => ∃ p, v = .ref p ∧ LstOf (fun H a x => H a = some (.tup [.str x, .int 0])) H2 p vs) (fun H0 e0 Rk k => ⟨_, rfl, a, rfl, ⟨_, st_of (e0 _ _ pa)⟩, fun D hD => lc_rel (f := fun _ => true) (R := fun i v H3 => ∃ b, v = .ref b ∧ H3 b = some (.tup [.str (vs.getD i Str.empty), .int 0]))
      (walk_tup (xs := vs.map V.str)) hD (by rw [List.length_map]; omega) (fun H3 e3 => st_of ((e0.trans e3) _ _ pa)) (fun _ _ _ _ z => yat_ex z) (fun _ _ _ _ t ⟨b, z1, z2⟩ => ⟨b, z1, t _ _ z2⟩) (fun i H3 v H4 hi e3 yv _ kk => ?_) fun ys H3 e3 h3 hpr => ?_⟩) fun v H1 e1 hv Rk k => ?_) fun v H1 e1 hv => q v H1 e1 hv
  · obtain ⟨e34, hv⟩ := yv
    subst e34
    rw [List.getElem?_map] at hv
    obtain ⟨s0, h0, es⟩ := Option.map_eq_some_iff.mp hv
    subst es
    have ew : vs.getD i Str.empty = s0 := by rw [List.getD_eq_getElem?_getD, h0]; rfl
    exact kk _ rfl et_yes fun _ => er_imp (er_tup (ea_cons (ev_var rfl) (ea_cons ev_c ea_nil)) (Nat.le_of_ble_eq_true rfl)) fun v H5 _ ⟨b, z1, z2⟩ => ⟨b, z1, by rw [ew]; exact z2⟩
  · rw [filter_tt, List.length_map] at hpr
    obtain ⟨as, ea, pr⟩ := refs_of (R := fun b s => H3 b = some (.tup [.str s, .int 0])) hpr
    subst ea
    exact k _ H3 e3 ⟨D, rfl, as, h3, pr⟩
  · obtain ⟨p, rfl, as, hp, pr⟩ := hv
    refine ⟨p, as, vs.map fun x => (Sum.inr x, V.int 0), rfl, sq_of hp, ?_, fun u nu => k _ _ (Ex.new nu) ⟨u, rfl, ?_⟩⟩
    · exact paired_mapR (G := fun p (kv : Key × V) => SqT K H1 p [kV kv.1, kv.2]) (fun b x z => st_of z) pr
    · rw [upd_same, merge_nd (by
        rw [List.map_map]
        exact List.Pairwise.map _ (fun _ _ h e => h (Sum.inr.inj e)) nd)]
      rfl
theorem sc_ring_back : FnScope ["last", "here", "laps", "lap", "steps", "tower"] ["last", "here", "laps"] (defScope s_ring_back) := ⟨rfl, rfl, rfl, by decide +kernel, rfl, by decide +kernel, by decide +kernel⟩
theorem c_ring_back (T : Top K mg) : ∃ f fd, Cal P w K mg base 1 "ring_back" ["last", "here", "laps"] sp_ring_back f fd := by
  refine cal_mk (k := 0) (i := 13) (st := s_ring_back) T rfl sc_ring_back (fun _ _ _ _ _ _ us hl => match us, hl with | [_, _, _], _ => rfl) (fun vs H Q E h => ?_) (fun {f cdv A outer s H vs Q E} hr h => ?_)
  · obtain ⟨_, rfl, _⟩ := h
    rfl
  have hu := hu_of hr
  refine ⟨_, (pss_cons (ps_for PassesOwn.never rfl (pi_range1 (by rfl) T.b_range (pa_cons (pv 2) pa_nil)) (pg_name (i := 3) sc_ring_back.nd rfl (Or.inl rfl)) 
          (pss_one (ps_set (i := 1) sc_ring_back.nd rfl (Or.inl rfl) (pe_ix ix_tup (pe_dget hu (pv 0) (pv 1) (fun _ _ => rfl)) pe_int (fun _ _ => rfl)))))
        (pss_cons (ps_par (i := 4) (j := 5) rfl sc_ring_back.nd rfl rfl (by decide) rfl rfl (pa_cons (pe_lst (pa_cons (pe_tup (pa_cons (pe_ix ix_tup (pe_dget hu (pv 0) (pv 1) (fun _ _ => rfl)) pe_int (fun _ _ => rfl)) (pa_cons (pv 1) pa_nil))) pa_nil)) (pa_cons (pe_ix ix_tup (pe_dget hu (pv 0) (pv 1) (fun _ _ => rfl)) pe_int (fun _ _ => rfl)) pa_nil)) (by rfl))
        (pss_cons (ps_while PassesOwn.never (pt_cmpR op_ne (pv 5) (pv 1) (nomark _)) 
          (pss_cons (ps_expr (pe_bm PySem.F.plainAttrs_list PySem.F.slot_list_append PySem.F.type_list_append mt_append (pv 4) (pa_cons (pe_tup (pa_cons (pe_ix ix_tup (pe_dget hu (pv 0) (pv 5) (fun _ _ => rfl)) pe_int (fun _ _ => rfl)) (pa_cons (pv 5) pa_nil))) pa_nil)))
          (pss_one (ps_set (i := 5) sc_ring_back.nd rfl (Or.inl rfl) (pe_ix ix_tup (pe_dget hu (pv 0) (pv 5) (fun _ _ => rfl)) pe_int (fun _ _ => rfl))))))
        (pss_one (ps_ret (pe_callTy call_tuple_of (by rfl) T.b_tuple boot_tuple (pa_cons (pe_revL (pv 4)) pa_nil))))))), ?_⟩
  obtain ⟨rd, rfl, k, q⟩ := h
  obtain ⟨kvs, hb, _, _, hk⟩ := k.isP
  have step : ∀ {H1 : Hp} {σ : L2.St} {j : Nat} {te : TE} {s : Str}, Ex H H1 → σ[0]? = some (some (.ref rd.b)) → s = NH.it (NH.prev rd.P) j rd.h → Ev te σ H1 (.str s) → ∃ t, Ev (tDGet (tVar 0) te) σ H1 (.ref t) ∧ H1 t = some (.tup [.str (NH.prev rd.P s), .int (NH.ixOf rd.P s : Nat)]) := fun {H1 σ j te s} e s0 es hs => by
    obtain ⟨q0, hq⟩ := k.back j
    rw [← es] at hq
    obtain ⟨t, h1, h2⟩ := hk _ _ _ (NH.prev_ix hq)
    exact ⟨t, ev_dgetK (ev_var s0) hs (e _ _ hb) h1, e _ _ h2⟩
  have m10 := k.m10
  have d10 := k.d2
  refine q_forR1 (n := (rd.m : Nat)) (ea_cons (ev_var rfl) ea_nil) (by omega) (fun i σ' H' => (∃ u v w, σ' = [some (.ref rd.b), some (.str (NH.it (NH.prev rd.P) i rd.h)), some (.int (rd.m : Nat)), u, v, w]) ∧ Ex H H') (fun H1 e1 => ⟨⟨_, _, _, rfl⟩, e1⟩) (fun i σ' H' hi ⟨⟨u, v, w, es⟩, e'⟩ => ?_) fun σ' H' ⟨⟨u, v, w, es⟩, e'⟩ => ?_
  · subst es
    obtain ⟨t, h1, h2⟩ := step (σ := ([some (.ref rd.b), some (.str (NH.it (NH.prev rd.P) i rd.h)), some (.int (rd.m : Nat)), u, v, w] : L2.St).set 3 (some (.int (i : Nat)))) (te := tVar 1) (j := i) e' rfl rfl (ev_var (i := 1) rfl)
    exact s_asg (v := .str (NH.prev rd.P (NH.it (NH.prev rd.P) i rd.h))) (ev_op h1 ev_c (rv_ixT (st_of h2) (atI_nat (j := 0) rfl))) fun H1 e1 => ⟨⟨_, _, _, rfl⟩, e'.trans e1⟩
  · subst es
    have ea : NH.it (NH.prev rd.P) (rd.m : Int).toNat rd.h = rd.a := rfl
    rw [ea]
    obtain ⟨t, h1, h2⟩ := step (σ := ([some (.ref rd.b), some (.str rd.a), some (.int (rd.m : Nat)), u, v, w] : L2.St)) (te := tVar 1) (j := rd.m) e' rfl rfl (ev_var (i := 1) rfl)
    refine q_par (R1 := fun v H2 => ∃ p b, v = .ref p ∧ H' p = none ∧ H2 p = some (.lst [.ref b]) ∧ IsStep H2 b (rd.f 0)) (R3 := fun v _ => v = .str (NH.prev rd.P rd.a)) (er_imp (er_lst1 (er_tup (vs := [.int (NH.ixOf rd.P rd.a : Nat), .str rd.a]) (ea_cons (ev_op h1 ev_c (rv_ixT (K := K) (st_of h2) (atI_nat (j := 1) rfl))) (ea_cons (ev_var (i := 1) rfl) ea_nil)) (Nat.le_of_ble_eq_true rfl)) tupAt_ex) fun v H5 _ ⟨p, x, z1, z2, z3, b, z4, z5⟩ => ⟨p, b, z1, z2, by rw [z3, z4], z5⟩) (fun _ _ _ e ⟨p, b, z1, z2, z3, z4⟩ => ⟨p, b, z1, z2, e _ _ z3, z4.tx (Tx.of e)⟩) (er_of (ev_op h1 ev_c (rv_ixT (K := K) (st_of h2) (atI_nat (j := 0) rfl)))) fun v1 v2 H1 e1 hv1 hv2 => ?_
    obtain ⟨p, b, ep, hp0, hp1, hbs⟩ := hv1
    subst ep hv2
    have hp00 : H p = none := fresh_back e' hp0
    have e01 := e'.trans e1
    refine q_while (fun m σ2 H2 => ∃ j as, j + m = rd.d ∧ 1 ≤ j ∧ σ2 = [some (.ref rd.b), some (.str rd.a), some (.int (rd.m : Nat)), u, some (.ref p), some (.str (NH.it (NH.prev rd.P) j rd.a))] ∧ Ex H H2 ∧ H2 p = some (.lst (as.map V.ref)) ∧ Paired (IsStep H2) as ((List.range j).map rd.f)) (rd.d - 1)
      ⟨1, [b], by have := k.d1; omega, Nat.le_refl _, rfl, e01, hp1, .cons hbs .nil⟩ (fun m σ2 H2 ⟨j, as, ej, j1, es, e2, h2p, pas⟩ => ?_)
    subst es
    have ja : NH.it (NH.prev rd.P) (rd.m + j) rd.h = NH.it (NH.prev rd.P) j rd.a := NH.it_add _ _ _ _
    refine ⟨!decide (NH.it (NH.prev rd.P) j rd.a = rd.a), et_is (et_test (ev_op (ev_var rfl) (ev_var rfl) (rv_ne rfl))) ?_, fun hne H3 e3 => ?_, fun heq H3 e3 => ?_⟩
    · congr 1
      exact decide_eq_decide.mpr ⟨fun z => V.str.inj z, fun z => congrArg V.str z⟩
    · have hne : NH.it (NH.prev rd.P) j rd.a ≠ rd.a := by simpa using hne
      have jd : j ≠ rd.d := fun z => hne (z ▸ k.round)
      have lj : as.length = j := by
        rw [paired_len pas, List.length_map, List.length_range]
      refine ⟨fun σ3 H4 => ∃ as, σ3 = [some (.ref rd.b), some (.str rd.a), some (.int (rd.m : Nat)), u, some (.ref p), some (.str (NH.it (NH.prev rd.P) (j + 1) rd.a))] ∧ Ex H H4 ∧ H4 p = some (.lst (as.map V.ref)) ∧ Paired (IsStep H4) as ((List.range (j + 1)).map rd.f),
        fun σ3 H4 ⟨as, es, e4, h4, p4⟩ => ⟨m - 1, by omega, j + 1, as, by omega, by omega, es, e4, h4, p4⟩, ?_⟩
      have h3p := e3 _ _ h2p
      obtain ⟨t3, g1, g2⟩ := step (σ := [some (.ref rd.b), some (.str rd.a), some (.int (rd.m : Nat)), u, some (.ref p), some (.str (NH.it (NH.prev rd.P) j rd.a))]) (te := tVar 5) (j := rd.m + j) (e2.trans e3) rfl ja.symm (ev_var (i := 5) rfl)
      refine q_appU (ys := [.int (NH.ixOf rd.P (NH.it (NH.prev rd.P) j rd.a) : Nat), .str (NH.it (NH.prev rd.P) j rd.a)]) h3p (ev_var rfl) (eu_tup (ea_cons (ev_op g1 ev_c (rv_ixT (K := K) (st_of g2) (atI_nat (j := 1) rfl))) (ea_cons (ev_var rfl) ea_nil)) (sz_of' (Nat.le_of_ble_eq_true rfl))) (by rw [List.length_map]; omega) fun c H4 _ e4 hc => ?_
      have h4p := e4 _ _ h3p
      have e04 := (e2.trans e3).trans e4
      have tl : Tx H4 (upd H4 p (.lst (as.map V.ref ++ [.ref c]))) := Tx.lst h4p
      obtain ⟨t4, g3, g4⟩ := step (H1 := upd H4 p (.lst (as.map V.ref ++ [.ref c]))) (σ := [some (.ref rd.b), some (.str rd.a), some (.int (rd.m : Nat)), u, some (.ref p), some (.str (NH.it (NH.prev rd.P) j rd.a))]) (te := tVar 5) (j := rd.m + j) (Ex.mut e04 hp00) rfl ja.symm (ev_var (i := 5) rfl)
      refine s_asg (v := .str (NH.prev rd.P (NH.it (NH.prev rd.P) j rd.a))) (ev_op g3 ev_c (rv_ixT (st_of g4) (atI_nat (j := 0) rfl))) fun H5 e5 => ⟨as ++ [c], rfl, (Ex.mut e04 hp00).trans e5, ?_, ?_⟩
      · rw [e5 _ _ upd_same, List.map_append]
        rfl
      · rw [List.range_succ, List.map_append]
        have tx : Tx H2 H5 := ((Tx.of (e3.trans e4)).trans tl).trans (Tx.of e5)
        exact paired_app (paired_imp (fun _ _ z => z.tx tx) pas) (.cons ((tl.trans (Tx.of e5)) _ _ hc) .nil)
    · have heq : NH.it (NH.prev rd.P) j rd.a = rd.a := by simpa using heq
      refine s_retR (D := { nx := fun _ H' => Q .non H', rt := Q }) (R := RRing rd) (er_cbR (R1 := fun v H5 => ∃ p2, v = .ref p2 ∧ H5 p2 = some (.lst (as.map V.ref).reverse)) (fun H4 e4 Rk kx => ⟨_, rfl, p, _, rfl, sq_of ((e3.trans e4) _ _ h2p), fun p2 np2 => kx _ _ (Ex.new np2) ⟨p2, rfl, upd_same⟩⟩) fun v H4 e4 hv Rk kx => ?_) fun v H4 e4 hv => q v H4 ((e2.trans e3).trans e4) hv
      obtain ⟨p2, ev, hp2⟩ := hv
      subst ev
      refine ⟨p2, _, rfl, Or.inl ⟨sq_of hp2, fun p3 np3 => kx _ _ (Ex.new np3) ⟨p3, j, rfl, ⟨as.reverse, ?_, ?_⟩, j1, by omega, heq⟩⟩⟩
      · rw [upd_same, List.map_reverse]
      · rw [← NH.down_eq]
        exact paired_rev (paired_imp (fun _ _ z => z.tx (Tx.of ((e3.trans e4).trans (Ex.new np3)))) pas)
theorem sc_is_tower_of : FnScope ["town", "thing"] ["town", "thing"] (defScope s_is_tower_of) := ⟨rfl, rfl, rfl, by decide +kernel, rfl, by decide +kernel, by decide +kernel⟩
theorem c_is_tower_of (T : Top K mg) : ∃ f fd, Cal P w K mg base 1 "is_tower_of" ["town", "thing"] sp_is_tower_of f fd := by
  refine cal_mk (k := 0) (i := 19) (st := s_is_tower_of) T rfl sc_is_tower_of (fun _ _ _ _ _ _ us hl => match us, hl with | [_, _], _ => rfl) (fun vs H Q E h => ?_) (fun {f cdv A outer s H vs Q E} hr h => ?_)
  · obtain ⟨_, rfl, _⟩ := h
    rfl
  have hu := hu_of hr
  refine ⟨_, (pss_one (ps_ret (pe_and (pe_callB call_isi (by rfl) T.b_isinstance boot_isinstance (pa_cons (pv 1) (pa_cons (pe_bltn (v := .ty "str") (by rfl) T.b_str boot_str rfl) pa_nil))) (pe_one (pe_cmpR op_in_seq (pv 1) (pe_ix ix_tup (pv 0) pe_int (fun _ _ => rfl)) (by rfl)))))), ?_⟩
  obtain ⟨⟨a, T, s⟩, rfl, ⟨⟨x, y, p, px, _⟩, hm⟩, q⟩ := h
  have hm : s ∈ T.names := hm
  refine s_ret (ev_andV (ev_isi (ev_var rfl) ty_str (show kitB "str" "str" = some true by decide +kernel)) fun _ => ev_op (ev_var rfl) (ev_op (ev_var rfl) ev_c (rv_ixT (st_of p) (atI_nat (j := 0) rfl))) (rv_isT (st_of px) rfl ?_)) fun H1 e1 => ?_
  · exact List.all_eq_true.mpr fun z hz => by
      obtain ⟨u, _, rfl⟩ := List.mem_map.mp hz
      rfl
  · have e : inV (.str s) (T.names.map V.str) = true := in_strs.mpr hm
    show Q (.bl (true && inV (.str s) (T.names.map V.str))) H1
    rw [e]
    exact q H1 e1
theorem sc_bounds_in : FnScope ["town", "one", "other", "both", "found", "wire"] ["town", "one", "other"] (defScope s_bounds_in) := ⟨rfl, rfl, rfl, by decide +kernel, rfl, by decide +kernel, by decide +kernel⟩
theorem c_bounds_in (T : Top K mg) : ∃ f fd, Cal P w K mg base 1 "bounds_in" ["town", "one", "other"] sp_bounds_in f fd := by
  refine cal_mk (k := 0) (i := 20) (st := s_bounds_in) T rfl sc_bounds_in (fun _ _ _ _ _ _ us hl => match us, hl with | [_, _, _], _ => rfl) (fun vs H Q E h => ?_) (fun {f cdv A outer s H vs Q E} hr h => ?_)
  · obtain ⟨_, rfl, _⟩ := h
    rfl
  have hu := hu_of hr
  refine ⟨_, (pss_cons (ps_set (i := 3) sc_bounds_in.nd rfl (Or.inr rfl) (pe_ifExp (pt_cmpR op_lt_str (pv 1) (pv 2) (nomark _)) (pe_tup (pa_cons (pv 1) (pa_cons (pv 2) pa_nil))) (pe_tup (pa_cons (pv 2) (pa_cons (pv 1) pa_nil)))))
        (pss_cons (ps_setLc (i := 4) (own := [("wire", 5)]) (g := (gName 5)) rfl sc_bounds_in.nd rfl rfl (sw_true rfl rfl rfl (by decide +kernel)) (pi_tup (pe_ix ix_tup (pv 0) pe_int (fun _ _ => rfl))) (blkOk_by (own := [("wire", 5)]) (N := ["town", "one", "other", "both", "found", "wire"]) (sc := defScope s_bounds_in) (by decide +kernel)) (fun _ _ _ _ _ => (pg_name (i := 5) sc_bounds_in.nd rfl (Or.inl rfl))) (fun _ _ _ _ _ => (pts_one (pt_cmpR (op_eqDK (K := K) rfl hr.units) (pe_slice (sl_tupAK (K := K) rfl) (pv 5) po_none (po_some pe_int)) (pv 3) (nomark _)))) (fun _ _ _ _ _ => (pe_slice (sl_tupAK (K := K) rfl) (pv 5) (po_some pe_int) po_none)))
        (pss_one (ps_ret (pe_ifExp (pt_cmpR op_gt (pe_callB call_len_seq (by rfl) T.b_len boot_len (pa_cons (pv 4) pa_nil)) pe_int (nomark _)) (pe_ix ix_list (pv 4) pe_int (fun _ _ => rfl)) pe_non))))), ?_⟩
  obtain ⟨⟨t, W, a, b⟩, rfl, ⟨⟨x, y, pt, px, as, pz, pr⟩, G, bp, hb⟩, q⟩ := h
  have pt : H t = some (.tup [.ref x, .ref y]) := pt
  have pz : H y = some (.tup (as.map V.ref)) := pz
  have pr : Paired (IsT4 H) as W.wires := pr
  have G : GoodTown W := G
  have hb : bnd W.wires a b = some bp := hb
  have la := paired_len pr
  have gl := G.len
  obtain ⟨lo, hi, elo, ehi⟩ : ∃ lo hi : Str, lo = (if lt a b then a else b) ∧ hi = (if lt a b then b else a) := ⟨_, _, rfl, rfl⟩
  obtain ⟨am, bm, _, _⟩ := bnd_ends G hb
  have good_lo : goodName lo = true := by
    rw [elo]
    by_cases z : lt a b
    · rw [if_pos z]; exact G.nms.nm _ am
    · rw [if_neg z]; exact G.nms.nm _ bm
  have good_hi : goodName hi = true := by
    rw [ehi]
    by_cases z : lt a b
    · rw [if_pos z]; exact G.nms.nm _ bm
    · rw [if_neg z]; exact G.nms.nm _ am
  refine q_asgR (R := TupAt [.str lo, .str hi]) (er_if (b := decide (lt a b)) (et_test (ev_op (ev_var rfl) (ev_var rfl) fun H1 _ Q q => ⟨a, b, rfl, rfl, q H1 (Ex.refl _)⟩)) (fun z => ?_) fun z => ?_) fun v H1 e1 hv => ?_
  · have z : lt a b := of_decide_eq_true z
    rw [elo, ehi, if_pos z, if_pos z]
    exact er_tup (ea_cons (ev_var rfl) (ea_cons (ev_var rfl) ea_nil)) (Nat.le_of_ble_eq_true rfl)
  · have z : ¬ lt a b := of_decide_eq_false z
    rw [elo, ehi, if_neg z, if_neg z]
    exact er_tup (ea_cons (ev_var rfl) (ea_cons (ev_var rfl) ea_nil)) (Nat.le_of_ble_eq_true rfl)
  · obtain ⟨p, ev, hp⟩ := hv
    subst ev
    have at1 : Ev (tOp (rIxT K) (tVar 0) (tC (.int 1))) (start ["town", "one", "other", "both", "found", "wire"] [.ref t, .str a, .str b] |>.set 3 (some (.ref p))) H1 (.ref y) := ev_op (ev_var rfl) ev_c (rv_ixT (st_of (e1 _ _ pt)) (atI_nat (j := 1) rfl))
    refine q_asgR (R := fun v H2 => ∃ u z zs, v = .ref u ∧ H2 u = some (.lst (.ref z :: zs))) (fun H0 e0 Rk k => at1 H0 e0 _ fun H2 e2 => ⟨y, rfl, ⟨as.map V.ref, st_of ((e1.trans e0).trans e2 _ _ pz)⟩, fun D hD => lc_rel (f := fun i => decide ((W.wires.getD i (Str.empty, Str.empty, 0, 0)).1 = lo ∧ (W.wires.getD i (Str.empty, Str.empty, 0, 0)).2.1 = hi))
      (R := fun i v H3 => ∃ u, v = .ref u) (walk_tup (xs := as.map V.ref)) hD (by rw [List.length_map]; omega) (fun H3 e3 => st_of (((e1.trans e0).trans (e2.trans e3)) _ _ pz)) (fun _ _ _ _ z => yat_ex z) (fun _ _ _ _ _ z => z) (fun i H3 v H4 hil e3 yv _ kk => ?_) fun ys H3 e3 h3 hpr => ?_⟩) fun v H2 e2 ⟨u, z, zs, ev, hu⟩ => ?_
    · obtain ⟨e34, hv⟩ := yv
      subst e34
      have e04 := (e1.trans e0).trans (e2.trans e3)
      rw [List.getElem?_map] at hv
      obtain ⟨b0, hb0, eb0⟩ := Option.map_eq_some_iff.mp hv
      subst eb0
      obtain ⟨li, _⟩ := List.getElem?_eq_some_iff.mp hb0
      have hw := List.getElem?_eq_getElem (show i < W.wires.length by omega)
      have pb : H b0 = some (.tup [.str W.wires[i].1, .str W.wires[i].2.1, .int W.wires[i].2.2.1, .int W.wires[i].2.2.2]) := paired_get (F := IsT4 H) pr hb0 hw
      have ew : W.wires.getD i (Str.empty, Str.empty, 0, 0) = W.wires[i] := by rw [List.getD_eq_getElem?_getD, hw]; rfl
      refine kk _ rfl (et_test (ev_opR (R2' := fun v _ => v = .ref p) (er_slT (ev_var rfl) eo_none (eo_some ev_c) (e04 _ _ pb)) tupAt_ex (er_of (ev_var rfl)) fun x1 x2 H5 e5 ⟨p1, z1, hp1⟩ z2 => ?_)) fun _ => er_imp (er_slT (ev_var rfl) (eo_some ev_c) eo_none (e04 _ _ pb)) fun v H5 _ ⟨u, z, _⟩ => ⟨u, z⟩
      subst z1 z2
      have hp2 := e5 _ _ (((e0.trans e2).trans e3) _ _ hp)
      intro H6 e6 Q q
      refine ⟨.tuple [.str W.wires[i].1, .str W.wires[i].2.1], .tuple [.str lo, .str hi], .tup (st_of (e6 _ _ hp1)) (.cons (.str _) (.cons (.str _) .nil)), .tup (st_of (e6 _ _ hp2)) (.cons (.str _) (.cons (.str _) .nil)), shaped2 (G.nms.nm _ (G.ends _ (List.getElem_mem _)).1) (G.nms.nm _ (G.ends _ (List.getElem_mem _)).2.1), shaped2 good_lo good_hi, ?_⟩
      have e : PyData.eqv (.tuple [.str W.wires[i].1, .str W.wires[i].2.1]) (.tuple [.str lo, .str hi]) = decide ((W.wires.getD i (Str.empty, Str.empty, 0, 0)).1 = lo ∧ (W.wires.getD i (Str.empty, Str.empty, 0, 0)).2.1 = hi) := by
        rw [ew]
        exact eqv_two
      rw [e]
      exact q H6 (Ex.refl _)
    · have hne : ys ≠ [] := by
        obtain ⟨w, hw, h2, _⟩ := bnd_mem hb
        obtain ⟨_, _, hlt, _⟩ := G.ends w hw
        obtain ⟨i, hi', ei⟩ := List.getElem_of_mem hw
        have key : w.1 = lo ∧ w.2.1 = hi := by
          rw [elo, ehi]
          rcases h2 with ⟨z1, z2⟩ | ⟨z1, z2⟩
          · rw [z1, z2] at hlt
            rw [if_pos hlt, if_pos hlt]
            exact ⟨z1, z2⟩
          · rw [z1, z2] at hlt
            have n : ¬ lt a b := fun z => ord_lt.irr a (ord_lt.tr _ _ _ z hlt)
            rw [if_neg n, if_neg n]
            exact ⟨z2, z1⟩
        intro z
        subst z
        have l0 := paired_len hpr
        have mem : i ∈ (List.range (as.map V.ref).length).filter fun i => decide ((W.wires.getD i (Str.empty, Str.empty, 0, 0)).1 = lo ∧ (W.wires.getD i (Str.empty, Str.empty, 0, 0)).2.1 = hi) := by
          refine List.mem_filter.mpr ⟨List.mem_range.mpr (by rw [List.length_map]; omega), decide_eq_true ?_⟩
          rw [List.getD_eq_getElem?_getD, List.getElem?_eq_getElem hi', Option.getD_some, ei]
          exact key
        rw [List.eq_nil_of_length_eq_zero l0.symm] at mem
        cases mem
      obtain ⟨y0, ys', rfl⟩ := List.exists_cons_of_ne_nil hne
      obtain ⟨_, u, eu⟩ := paired_head hpr
      exact k _ H3 (e2.trans e3) ⟨D, u, _, rfl, by rw [eu] at h3; exact h3⟩
    · subst ev
      refine s_ret (v := .ref z) (ev_if (b := true) (et_is (et_test (ev_op (ev_len (ev_var rfl) (sq_of hu)) ev_c rv_I0)) (decide_eq_true (by rw [List.length_cons]; omega))) (fun _ => ev_op (ev_var rfl) ev_c (rv_ixL (sq_of hu) (atI_nat (j := 0) rfl))) fun z => by cases z) fun H3 e3 => q _ H3 ((e1.trans e2).trans e3) ⟨z, rfl⟩
theorem sc_want : FnScope ["is_right", "word", "at"] ["is_right", "word", "at"] (defScope s_want) := ⟨rfl, rfl, rfl, by decide +kernel, rfl, by decide +kernel, by decide +kernel⟩
theorem c_want (T : Top K mg) : ∃ f fd, CalD P w K mg base 1 "want" ["is_right", "word", "at"] sp_want f fd := by
  refine calD_mk (k := 0) T sc_want (fun vs H Q E h => ?_) (fun {f cdv A outer s H vs Q E} hr h => ?_)
  · obtain ⟨_, rfl, _⟩ := h
    rfl
  have hu := hu_of hr
  refine ⟨_, (pss_one (ps_if (pt_not (pt_val (pv 0))) 
          (pss_one ps_never) pss_nil)), ?_⟩
  obtain ⟨⟨x, y⟩, rfl, _, q⟩ := h
  exact s_when (D := { nx := fun _ H' => Q .non H', rt := Q }) (et_not (et_B (ev_var rfl))) (fun z => by cases z) fun _ H1 e1 => q H1 e1
theorem sc_law_feed : FnScope ["_law_script", "_law_cell"] ["_law_script"] (defScope s_law_feed) := ⟨rfl, rfl, rfl, by decide +kernel, rfl, by decide +kernel, by decide +kernel⟩
theorem c_law_feed (T : Top K mg) : ∃ f fd, Cal P w K mg base 1 "_law_feed" ["_law_script"] (sp_law_feed K) f fd := by
  refine cal_mk (k := 0) (i := 31) (st := s_law_feed) T rfl sc_law_feed (fun _ _ _ _ _ _ us hl => match us, hl with | [_], _ => rfl) (fun vs H Q E h => ?_) (fun {f cdv A outer s H vs Q E} hr h => ?_)
  · obtain ⟨_, rfl, _⟩ := h
    rfl
  have hu := hu_of hr
  refine ⟨_, (pss_one (ps_ret (pe_disp (pps_cons pe_str (pe_lc (own := [("_law_cell", 1)]) (g := (gName 1)) rfl sc_law_feed.nd (pi_list (pe_slice sl_list (pv 0) po_none (po_some pe_int))) (blkOk_by (own := [("_law_cell", 1)]) (N := ["_law_script", "_law_cell"]) (sc := defScope s_law_feed) (by decide +kernel)) (fun _ _ _ _ _ => (pg_name (i := 1) sc_law_feed.nd rfl (Or.inl rfl))) (fun _ _ _ _ _ => pts_nil) (fun _ _ _ _ _ => (pe_callTy call_int1 (by rfl) T.b_int boot_int (pa_cons (pv 1) pa_nil)))) (pps_cons pe_str pe_int (pps_cons pe_str pe_int (pps_cons pe_str pe_int pps_nil)))) (by rfl) (by rfl) (fun z => by cases z) (by decide)))), ?_⟩
  obtain ⟨⟨a, ns⟩, rfl, ⟨hs, hl⟩, q⟩ := h
  have hs : SqL K H a (ns.map V.int) := hs
  have hl : ns.length ≤ 63 := hl
  intro p np
  have e1 : Ex H (upd H p (.dK [])) := Ex.new np
  have cut : cutV (ns.map V.int) none (some ((63 : Nat) : Int)) = ns.map V.int := cut_whole ⟨rfl, by rw [HT.sIx_nat, List.length_map]; omega⟩
  show tLc (iList K (tSl (rSlL K) (tVar 0) tNoPart (tPart (tC (.int (63 : Nat)))))) (gName 1) tYes (tCB rInt1 (tCons (tVar 1) tNil)) [1] (start ["_law_script", "_law_cell"] [.ref a]) (upd H p (.dK [])) (fun v H2 => H2 p = some (.dK []) ∧
    ∃ kvs : List (Key × V), [(V.str "cells", v), (.str "spot", .int 0), (.str "over", .int 0), (.str "turn", .int 0)] = kvs.map (fun kv => (kV kv.1, kv.2)) ∧ kvs.length ≤ 15 ∧ Q (.ref p) (upd H2 p (.dK (mergeK [] kvs))))
  refine er_lcN (K := K) (σ := start ["_law_script", "_law_cell"] [.ref a]) (vs := [1]) (j := 1) (R' := fun v H3 => ∃ c, v = .ref c ∧ H3 c = some (.lst (ns.map V.int))) (f := fun _ => true) (R := fun i v _ => v = .int (ns.getD i 0)) (tt := tYes) (te := tCB rInt1 (tCons (tVar 1) tNil)) (el_slL (ev_var (i := 0) rfl) eo_none (eo_some (ev_c (v := .int (63 : Nat)))) (ex_l e1 hs)) (by rw [cut, List.length_map]; omega) (fun _ => rfl) (fun _ _ _ _ _ z => z) (fun i v H3 hv e3 => ?_) (fun D ys H3 hD e3 h3 hpr => ?_) _ (Ex.refl _) _ fun v H2 e2 ⟨c, ev, hc⟩ => ?_
  · rw [cut, List.getElem?_map] at hv
    obtain ⟨n, hn, ev⟩ := Option.map_eq_some_iff.mp hv
    subst ev
    rw [getD_at hn]
    exact ⟨et_yes, fun _ => er_of (ev_int1 (ev_var rfl))⟩
  · rw [filter_tt, cut, List.length_map] at hpr
    exact ⟨D, rfl, by rw [h3, ints_ofD hpr]⟩
  · subst ev
    have hp2 := e2 _ _ (upd_same (H := H) (a := p) (o := .dK []))
    refine ⟨hp2, feedK c 0 0 0, rfl, Nat.le_of_ble_eq_true rfl, ?_⟩
    have cp : c ≠ p := fun z => by rw [z, hp2] at hc; cases hc
    refine q p c _ (Ex.mut (e1.trans e2) np) np ⟨ns, 0, 0, 0, ?_, ?_, hl⟩
    · rw [upd_same]
      rfl
    · rw [upd_ne cp]
      exact hc
theorem sc_law_draw : FnScope ["_law_feed_here", "_law_limit", "_law_digit", "_law_cells", "_law_spot", "_law_cell", "_law_stirred"] ["_law_feed_here", "_law_limit"] (defScope s_law_draw) := ⟨rfl, rfl, rfl, by decide +kernel, rfl, by decide +kernel, by decide +kernel⟩
theorem ev_mod {K : PySem.W.Frag} {σ : L2.St} {H : Hp} {ta tb : TE} {i j : Int} (ha : Ev ta σ H (.int i)) (hb : Ev tb σ H (.int j)) (hj : 0 < j) : Ev (tOp (rI (fun _ j => j ≠ 0) fun i j => .int (i.fmod j)) ta tb) σ H (.int (i.fmod j)) := ev_op ha hb (rv_I (by omega))
theorem ev_fdiv {K : PySem.W.Frag} {σ : L2.St} {H : Hp} {ta tb : TE} {i j : Int} (ha : Ev ta σ H (.int i)) (hb : Ev tb σ H (.int j)) (hj : 0 < j) (h2 : j < 1000000) : Ev (tOp (rI CDivN fun i j => .int (i.fdiv j)) ta tb) σ H (.int (i.fdiv j)) := ev_op ha hb (rv_I ⟨by omega, by omega⟩)
theorem ev_mulS {K : PySem.W.Frag} {σ : L2.St} {H : Hp} {ta tb : TE} {i j : Int} (ha : Ev ta σ H (.int i)) (hb : Ev tb σ H (.int j)) (h1 : 0 ≤ i) (h2 : i < 10000000000) : Ev (tOp (rI CMul fun i j => .int (i * j)) ta tb) σ H (.int (i * j)) := ev_op ha hb (rv_I (Or.inl ⟨by omega, by omega⟩))
theorem fmod_in {i j : Int} (hj : 0 < j) : 0 ≤ i.fmod j ∧ i.fmod j < j := ⟨Int.fmod_nonneg_of_pos i hj, Int.fmod_lt_of_pos i hj⟩
theorem feed_keep {H H' : Hp} {d c : Addr} {kvs : List (Key × V)} {o : HO} {xs : List V} (cd : c ≠ d) (h : H c = some (.lst xs)) (e : Ex H H') : upd H' d o c = some (.lst xs) := by
  rw [upd_ne cd]
  exact e _ _ h
theorem c_law_draw (T : Top K mg) : ∃ f fd, Cal P w K mg base 1 "_law_draw" ["_law_feed_here", "_law_limit"] sp_law_draw f fd := by
  refine cal_mk (k := 0) (i := 32) (st := s_law_draw) T rfl sc_law_draw (fun _ _ _ _ _ _ us hl => match us, hl with | [_, _], _ => rfl) (fun vs H Q E h => ?_) (fun {f cdv A outer s H vs Q E} hr h => ?_)
  · obtain ⟨_, rfl, _⟩ := h
    rfl
  have hu := hu_of hr
  refine ⟨_, (pss_cons (ps_dput hu (pv 0) pe_str (pe_op op_add (pe_dget hu (pv 0) pe_str (fun _ _ => rfl)) pe_int) rfl)
        (pss_cons (ps_if (pt_cmpR op_gt (pe_dget hu (pv 0) pe_str (fun _ _ => rfl)) pe_int (nomark _)) 
          (pss_cons (ps_set (i := 2) sc_law_draw.nd rfl (Or.inl rfl) (pe_op op_modN (pe_callTy call_int1 (by rfl) T.b_int boot_int (pa_cons (pe_dget hu (pv 0) pe_str (fun _ _ => rfl)) pa_nil)) (pv 1)))
          (pss_cons (ps_dput hu (pv 0) pe_str (pe_op op_fdivN (pe_dget hu (pv 0) pe_str (fun _ _ => rfl)) (pv 1)) rfl)
          (pss_one (ps_ret (pv 2))))) pss_nil)
        (pss_cons (ps_par (i := 3) (j := 4) rfl sc_law_draw.nd rfl rfl (by decide) rfl rfl (pa_cons (pe_dget hu (pv 0) pe_str (fun _ _ => rfl)) (pa_cons (pe_dget hu (pv 0) pe_str (fun _ _ => rfl)) pa_nil)) (by rfl))
        (pss_cons (ps_dput hu (pv 0) pe_str (pe_op op_add (pv 4) pe_int) rfl)
        (pss_cons (ps_set (i := 5) sc_law_draw.nd rfl (Or.inl rfl) (pe_ifExp (pt_cmpR (op_neD hr.units) (pv 3) (pe_lst pa_nil) (nomark _)) (pe_ix ix_list (pv 3) (pe_op op_modN (pe_callTy call_int1 (by rfl) T.b_int boot_int (pa_cons (pv 4) pa_nil)) (pe_callB call_len_seq (by rfl) T.b_len boot_len (pa_cons (pv 3) pa_nil))) (fun _ _ => rfl)) pe_int))
        (pss_cons (ps_if (PW.pt (pw_and (pt_cmpR op_ge (pv 5) (pe_op op_pow pe_int pe_int) (nomark _)) (pw_and1 (pt_cmpR op_lt (pv 4) (pe_callB call_len_seq (by rfl) T.b_len boot_len (pa_cons (pv 3) pa_nil)) (nomark _))))) 
          (pss_cons (ps_dput hu (pv 0) pe_str (pe_op op_fdivN (pv 5) (pv 1)) rfl)
          (pss_one (ps_ret (pe_op op_modN (pe_callTy call_int1 (by rfl) T.b_int boot_int (pa_cons (pv 5) pa_nil)) (pv 1))))) pss_nil)
        (pss_cons (ps_set (i := 6) sc_law_draw.nd rfl (Or.inl rfl) (pe_op op_modN (pe_callTy call_int1 (by rfl) T.b_int boot_int (pa_cons (pe_op op_add (pe_op op_add (pe_op op_modN (pe_callTy call_int1 (by rfl) T.b_int boot_int (pa_cons (pv 5) pa_nil)) pe_int) (pe_op op_mul pe_int (pe_dget hu (pv 0) pe_str (fun _ _ => rfl)))) pe_int) pa_nil)) pe_int))
        (pss_cons (ps_set (i := 6) sc_law_draw.nd rfl (Or.inl rfl) (pe_op op_modN (pe_callTy call_int1 (by rfl) T.b_int boot_int (pa_cons (pe_op op_add (pe_op op_add (pe_op op_mul (pv 6) (pv 6)) (pe_op op_mul pe_int (pe_dget hu (pv 0) pe_str (fun _ _ => rfl)))) pe_int) pa_nil)) pe_int))
        (pss_one (ps_ret (pe_op op_modN (pe_callTy call_int1 (by rfl) T.b_int boot_int (pa_cons (pe_op op_fdivN (pe_op op_modN (pe_callTy call_int1 (by rfl) T.b_int boot_int (pa_cons (pe_op op_add (pe_op op_mul (pv 6) (pv 6)) (pe_op op_mul pe_int (pv 6))) pa_nil)) pe_int) pe_int) pa_nil)) (pv 1)))))))))))), ?_⟩
  obtain ⟨⟨⟨d, c⟩, n⟩, rfl, ⟨⟨cells, sp, ov, tu, hd, hc, hl⟩, n0, n1⟩, q⟩ := h
  have n0 : 0 < n := n0
  have n1 : n < 1000000 := n1
  have hd : H d = some (.dK (feedK c sp ov tu)) := hd
  have hc : H c = some (.lst (cells.map V.int)) := hc
  have cd : c ≠ d := fun z => by rw [z, hd] at hc; cases hc
  refine q_dputK (a := d) (kvs := feedK c sp ov tu) (s := "turn") (v := .int (tu + 1)) (ev_op (ev_dgetK (ev_var rfl) ev_c hd feed_turn) ev_c rv_I0) (ev_var rfl) ev_c hd (Nat.le_of_ble_eq_true rfl) fun H1 e1 => ?_
  rw [feed_pturn]
  have x1 : Exb d H (upd H1 d (.dK (feedK c sp ov (tu + 1)))) := Exb.set (Exb.of e1)
  generalize h2 : upd H1 d (.dK (feedK c sp ov (tu + 1))) = H2 at x1
  have hd2 : H2 d = some (.dK (feedK c sp ov (tu + 1))) := by rw [← h2]; exact upd_same
  have hc2 := x1 _ _ cd hc
  refine q_when (et_test (ev_op (ev_dgetK (ev_var rfl) ev_c hd2 feed_over) ev_c rv_I0)) (fun b H3 e3 => ?_) fun b H3 e3 => ?_
  · have hd3 := e3 _ _ hd2
    refine q_asg (ev_mod (K := K) (ev_int1 (ev_dgetK (ev_var rfl) ev_c hd3 feed_over)) (ev_var rfl) n0) fun H4 e4 => ?_
    have hd4 := e4 _ _ hd3
    refine q_dputK (a := d) (kvs := feedK c sp ov (tu + 1)) (s := "over") (ev_fdiv (K := K) (ev_dgetK (ev_var rfl) ev_c hd4 feed_over) (ev_var rfl) n0 n1) (ev_var rfl) ev_c hd4 (Nat.le_of_ble_eq_true rfl) fun H5 e5 => ?_
    rw [feed_pover]
    refine s_ret (ev_var rfl) fun H6 e6 => ?_
    exact q (ov.fmod n) H6 ((Exb.set (x1.ex ((e3.trans e4).trans e5))).ex e6) ⟨cells, sp, _, _, e6 _ _ upd_same, e6 _ _ (feed_keep (kvs := []) cd hc2 ((e3.trans e4).trans e5)), hl⟩ (fmod_in n0).1 (fmod_in n0).2
  have hd3 := e3 _ _ hd2
  have hc3 := e3 _ _ hc2
  refine q_par (er_of (ev_dgetK (ev_var rfl) ev_c hd3 feed_cells)) (fun _ _ _ _ z => z) (er_of (ev_dgetK (ev_var rfl) ev_c hd3 feed_spot)) fun x y H4 e4 ex ey => ?_
  subst ex ey
  have hd4 := e4 _ _ hd3
  refine q_dputK (a := d) (kvs := feedK c sp ov (tu + 1)) (s := "spot") (v := .int (sp + 1)) (ev_op (ev_var rfl) ev_c rv_I0) (ev_var rfl) ev_c hd4 (Nat.le_of_ble_eq_true rfl) fun H5 e5 => ?_
  rw [feed_pspot]
  have x5 : Exb d H (upd H5 d (.dK (feedK c (sp + 1) ov (tu + 1)))) := Exb.set (x1.ex ((e3.trans e4).trans e5))
  have hc5 : upd H5 d (.dK (feedK c (sp + 1) ov (tu + 1))) c = _ := feed_keep (kvs := []) cd hc2 ((e3.trans e4).trans e5)
  generalize h6 : upd H5 d (.dK (feedK c (sp + 1) ov (tu + 1))) = H6 at x5 hc5
  have hd6 : H6 d = some (.dK (feedK c (sp + 1) ov (tu + 1))) := by rw [← h6]; exact upd_same
  have lenc : ∀ {H7 : Hp} {σ : L2.St}, Ex H6 H7 → σ[3]? = some (some (.ref c)) → Ev (tCB (rLenS K) (tCons (tVar 3) tNil)) σ H7 (.int (cells.length : Int)) := fun {H7 σ} e z => by
    have z2 := ev_len (K := K) (ev_var z) (sq_of (e _ _ hc5))
    rw [List.length_map] at z2
    exact z2
  refine q_asgR (R := fun v _ => ∃ m, v = .int m) (er_if (b := !decide (cells = [])) (et_test (ev_opR (R1 := fun v _ => v = .ref c) (er_of (ev_var rfl)) (fun _ _ _ _ z => z) er_newL fun x y H7 e7 hx ⟨p7, ey, hp7⟩ => ?_)) (fun hb => ?_) fun hb => er_imp (er_of ev_c) fun v _ _ z => ⟨_, z⟩) fun v H7 e7 ⟨m, ev⟩ => ?_
  · subst hx ey
    intro H8 e8 Q k
    refine ⟨.list (cells.map PyData.int), .list [], .lst (sq_of ((e7.trans e8) _ _ hc5)) dp_ints, .lst (sq_of (e8 _ _ hp7)) .nil, shaped_ints, rfl, ?_⟩
    cases cells with
    | nil => exact k H8 (Ex.refl _)
    | cons a b => exact k H8 (Ex.refl _)
  · have ne : cells ≠ [] := by simpa using hb
    have l0 : 0 < cells.length := List.length_pos_iff.mpr ne
    obtain ⟨f0, f1⟩ := fmod_in (i := sp) (show (0 : Int) < (cells.length : Nat) by omega)
    obtain ⟨j, ej⟩ := Int.eq_ofNat_of_zero_le f0
    have hj : j < cells.length := by omega
    refine er_imp (er_of (ev_op (x := .ref c) (z := .int cells[j]) (ev_var rfl) (ev_mod (K := K) (ev_int1 (ev_var rfl)) (by exact lenc (Ex.refl _) rfl) (by omega)) (rv_ixL (K := K) (sq_of hc5) ?_))) fun v _ _ z => ⟨_, z⟩
    rw [ej]
    exact atI_nat (by rw [List.getElem?_map, List.getElem?_eq_getElem hj]; rfl)
  subst ev
  have hd7 := e7 _ _ hd6
  have hc7 := e7 _ _ hc5
  have x7 := x5.ex e7
  refine q_when (b := decide ((10 : Int) ^ (18 : Int).toNat ≤ m) && decide (sp < cells.length)) (et_and (et_test (ev_op (ev_var rfl) (ev_op (ev_c (v := .int 10)) (ev_c (v := .int 18)) (rv_I ⟨by decide, by decide, by decide⟩)) rv_I0)) fun _ => et_test (ev_op (ev_var rfl) (by exact lenc e7 rfl) rv_I0)) (fun b H8 e8 => ?_) fun b H8 e8 => ?_
  · have hd8 := e8 _ _ hd7
    refine q_dputK (a := d) (kvs := feedK c (sp + 1) ov (tu + 1)) (s := "over") (ev_fdiv (K := K) (ev_var rfl) (ev_var rfl) n0 n1) (ev_var rfl) ev_c hd8 (Nat.le_of_ble_eq_true rfl) fun H9 e9 => ?_
    rw [feed_pover]
    refine s_ret (ev_mod (K := K) (ev_int1 (ev_var rfl)) (ev_var rfl) n0) fun H10 e10 => ?_
    exact q (m.fmod n) H10 ((Exb.set (x7.ex (e8.trans e9))).ex e10) ⟨cells, _, _, _, e10 _ _ upd_same, e10 _ _ (feed_keep (kvs := []) cd hc7 (e8.trans e9)), hl⟩ (fmod_in n0).1 (fmod_in n0).2
  have hd8 := e8 _ _ hd7
  refine q_asg (ev_mod (K := K) (ev_int1 (ev_op (ev_op (ev_mod (K := K) (ev_int1 (ev_var rfl)) (ev_c (v := .int 1000439217)) (by decide)) (ev_mulS (K := K) (ev_c (v := .int 542609)) (ev_dgetK (ev_var rfl) ev_c hd8 feed_turn) (by decide) (by decide)) rv_I0) (ev_c (v := .int 28599)) rv_I0)) (ev_c (v := .int 2147316265)) (by decide)) fun H9 e9 => ?_
  have hs := fmod_in (i := m.fmod 1000439217 + 542609 * (tu + 1) + 28599) (show (0 : Int) < 2147316265 by decide)
  generalize (m.fmod 1000439217 + 542609 * (tu + 1) + 28599).fmod 2147316265 = s1 at hs
  have hd9 := e9 _ _ hd8
  refine q_asg (ev_mod (K := K) (ev_int1 (ev_op (ev_op (ev_mulS (K := K) (ev_var (v := .int s1) rfl) (ev_var (v := .int s1) rfl) hs.1 (by omega)) (ev_mulS (K := K) (ev_c (v := .int 7397937)) (ev_dgetK (ev_var rfl) ev_c hd9 feed_turn) (by decide) (by decide)) rv_I0) (ev_c (v := .int 31891)) rv_I0)) (ev_c (v := .int 2147315309)) (by decide)) fun H10 e10 => ?_
  have hs2 := fmod_in (i := s1 * s1 + 7397937 * (tu + 1) + 31891) (show (0 : Int) < 2147315309 by decide)
  generalize (s1 * s1 + 7397937 * (tu + 1) + 31891).fmod 2147315309 = s2 at hs2
  refine s_ret (ev_mod (K := K) (ev_int1 (ev_fdiv (K := K) (ev_mod (K := K) (ev_int1 (ev_op (ev_mulS (K := K) (ev_var (v := .int s2) rfl) (ev_var (v := .int s2) rfl) hs2.1 (by omega)) (ev_mulS (K := K) (ev_c (v := .int 9863)) (ev_var (v := .int s2) rfl) (by decide) (by decide)) rv_I0)) (ev_c (v := .int 2147311347)) (by decide)) (ev_c (v := .int 32)) (by decide) (by decide))) (ev_var rfl) n0) fun H11 e11 => ?_
  have e711 := ((e8.trans e9).trans e10).trans e11
  exact q _ H11 (x7.ex e711) ⟨cells, _, _, _, e711 _ _ hd7, e711 _ _ hc7, hl⟩ (fmod_in n0).1 (fmod_in n0).2
theorem sc_law_same : FnScope ["_law_told", "_law_due"] ["_law_told", "_law_due"] (defScope s_law_same) := ⟨rfl, rfl, rfl, by decide +kernel, rfl, by decide +kernel, by decide +kernel⟩
theorem ev_rep {K : PySem.W.Frag} {σ : L2.St} {H : Hp} {te : TE} {p : Addr} {a b : Bool} (h : Ev te σ H (.ref p)) (hp : H p = some (.lst [.bl a, .bl b])) : Ev (tCB (rRepB K) (tCons te tNil)) σ H (.str (show2 a b)) := fun H1 e Q q =>
  h H1 e _ fun H2 e2 => ⟨p, a, b, rfl, sq_of ((e.trans e2) _ _ hp), q H2 e2⟩
theorem c_law_same (T : Top K mg) : ∃ f fd, CalG P w K mg base 1 "_law_same" ["_law_told", "_law_due"] sp_law_same f fd := by
  refine calG_mk (k := 0) (i := 34) (st := s_law_same) T rfl sc_law_same (fun _ _ _ _ _ _ us hl => match us, hl with | [_, _], _ => rfl) (fun vs H Q E h => ?_) (fun {f cdv A outer s H vs Q E} gd hr h => ?_)
  · obtain ⟨_, rfl, _⟩ := h
    rfl
  have hu := hu_of hr
  refine ⟨_, (pss_one (ps_ret (pe_cmpR op_eq (pe_callB (call_repB gd (hr.units)) (by rfl) T.b_repr boot_repr (pa_cons (pv 0) pa_nil)) (pe_callB (call_repB gd (hr.units)) (by rfl) T.b_repr boot_repr (pa_cons (pv 1) pa_nil)) (nomark _)))), ?_⟩
  obtain ⟨⟨⟨p, r⟩, ⟨a, b⟩, c, d⟩, rfl, ⟨hp, hq⟩, q⟩ := h
  refine s_ret (ev_op (ev_rep (ev_var rfl) hp) (ev_rep (ev_var rfl) hq) (rv_eq rfl)) fun H1 e1 => ?_
  have e : decide (V.str (show2 a b) = V.str (show2 c d)) = decide ((a, b) = (c, d)) := decide_eq_decide.mpr ⟨fun z => by
    obtain ⟨z1, z2⟩ := show2_inj.mp (V.str.inj z)
    rw [z1, z2], fun z => by
    cases z
    rfl⟩
  show Q (.bl (decide (V.str (show2 a b) = V.str (show2 c d)))) H1
  rw [e]
  exact q H1 e1
theorem sc_law_bounds : FnScope ["_law_place_here", "_law_first", "_law_second", "_law_one", "_law_two", "_law_low", "_law_high"] ["_law_place_here", "_law_first", "_law_second"] (defScope s_law_bounds) := ⟨rfl, rfl, rfl, by decide +kernel, rfl, by decide +kernel, by decide +kernel⟩
theorem c_law_bounds (T : Top K mg) : ∃ f fd, Cal P w K mg base 1 "_law_bounds" ["_law_place_here", "_law_first", "_law_second"] sp_law_bounds f fd := by
  refine cal_mk (k := 0) (i := 37) (st := s_law_bounds) T rfl sc_law_bounds (fun _ _ _ _ _ _ us hl => match us, hl with | [_, _, _], _ => rfl) (fun vs H Q E h => ?_) (fun {f cdv A outer s H vs Q E} hr h => ?_)
  · obtain ⟨_, rfl, _⟩ := h
    rfl
  have hu := hu_of hr
  refine ⟨_, (pss_cons (ps_for PassesOwn.never rfl (pi_tup (pe_ix ix_tup (pv 0) pe_int (fun _ _ => rfl))) (pg_tup rfl (pgs_cons (pg_name (i := 3) sc_law_bounds.nd rfl (Or.inl rfl)) (pgs_cons (pg_name (i := 4) sc_law_bounds.nd rfl (Or.inl rfl)) (pgs_cons (pg_name (i := 5) sc_law_bounds.nd rfl (Or.inl rfl)) (pgs_cons (pg_name (i := 6) sc_law_bounds.nd rfl (Or.inl rfl)) pgs_nil))))) 
          (pss_one (ps_if (PW.pt (pw_or (pt_cmpR (op_eqD hr.units) (pe_tup (pa_cons (pv 3) (pa_cons (pv 4) pa_nil))) (pe_tup (pa_cons (pv 1) (pa_cons (pv 2) pa_nil))) (nomark _)) (pw_or1 (pt_cmpR (op_eqD hr.units) (pe_tup (pa_cons (pv 4) (pa_cons (pv 3) pa_nil))) (pe_tup (pa_cons (pv 1) (pa_cons (pv 2) pa_nil))) (nomark _))))) 
            (pss_one (ps_ret (pe_tup (pa_cons (pv 5) (pa_cons (pv 6) pa_nil))))) pss_nil)))
        (pss_one (ps_ret pe_non))), ?_⟩
  obtain ⟨⟨t, W, ⟨a, b⟩, lo, hi⟩, rfl, ⟨⟨x, y, pt, px, as, py, pr⟩, G, hb⟩, q⟩ := h
  have pt : H t = some (.tup [.ref x, .ref y]) := pt
  have py : H y = some (.tup (as.map V.ref)) := py
  have pr : Paired (IsT4 H) as W.wires := pr
  have G : GoodTown W := G
  have hb : bnd W.wires a b = some (lo, hi) := hb
  have la := paired_len pr
  obtain ⟨am, bm, _, _⟩ := bnd_ends G hb
  have ga := G.nms.nm _ am
  have gb := G.nms.nm _ bm
  refine ev_op (x := .ref t) (y := .int 1) (ev_var rfl) ev_c (rv_ixT (K := K) (st_of pt) (atI_nat (j := 1) rfl)) H (Ex.refl _) _ fun H1 e1 => ⟨y, rfl, ⟨_, st_of (e1 _ _ py)⟩, for_it (walk_tup (xs := as.map V.ref)) (fun i σ' H' => (∃ u1 u2 u3 u4, σ' = [some (.ref t), some (.str a), some (.str b), u1, u2, u3, u4]) ∧ Ex H H' ∧ bnd (W.wires.drop i) a b = some (lo, hi))
    ⟨⟨_, _, _, _, rfl⟩, e1, hb⟩ (fun i σ' H' _ z => st_of (z.2.1 _ _ py)) (fun i v σ' H' H2 hil ⟨⟨u1, u2, u3, u4, es⟩, e', hd⟩ yv => ?_) fun σ' H' ⟨_, _, hd⟩ => ?_⟩
  · subst es
    obtain ⟨e34, hv⟩ := yv
    subst e34
    rw [List.getElem?_map] at hv
    obtain ⟨b0, hb0, eb0⟩ := Option.map_eq_some_iff.mp hv
    subst eb0
    obtain ⟨li, _⟩ := List.getElem?_eq_some_iff.mp hb0
    have hw := List.getElem?_eq_getElem (show i < W.wires.length by omega)
    have pb := paired_get (F := IsT4 H) pr hb0 hw
    have gw := G.ends _ (List.getElem_mem (show i < W.wires.length by omega))
    have edrop : W.wires.drop i = W.wires[i] :: W.wires.drop (i + 1) := List.drop_eq_getElem_cons (by omega)
    rw [edrop, bnd_cons] at hd
    generalize W.wires[i] = w4 at hw pb gw hd
    have pb : H b0 = some (.tup [.str w4.1, .str w4.2.1, .int w4.2.2.1, .int w4.2.2.2]) := pb
    have g1 := G.nms.nm _ gw.1
    have g2 := G.nms.nm _ gw.2.1
    refine ⟨b0, _, rfl, st_of (e' _ _ pb), rfl, _, _, rfl, _, _, rfl, _, _, rfl, _, _, rfl, rfl, ?_⟩
    dsimp only
    refine s_when (b := decide ((w4.1 = a ∧ w4.2.1 = b) ∨ (w4.2.1 = a ∧ w4.1 = b))) (et_is (et_or (et_test (ev_eqT2 g1 g2 ga gb (ea_cons (ev_var rfl) (ea_cons (ev_var rfl) ea_nil)) (ea_cons (ev_var rfl) (ea_cons (ev_var rfl) ea_nil)))) fun _ =>
      et_test (ev_eqT2 g2 g1 ga gb (ea_cons (ev_var rfl) (ea_cons (ev_var rfl) ea_nil)) (ea_cons (ev_var rfl) (ea_cons (ev_var rfl) ea_nil)))) (by rw [Bool.decide_or])) (fun z H3 e3 => ?_) fun z H3 e3 => ?_
    · have z := of_decide_eq_true z
      rw [if_pos z] at hd
      obtain ⟨z1, z2⟩ := Prod.mk.inj (Option.some.inj hd)
      subst z1 z2
      exact s_retR (er_tup (ea_cons (ev_var rfl) (ea_cons (ev_var rfl) ea_nil)) (Nat.le_of_ble_eq_true rfl)) fun v H4 e4 hv => q v H4 ((e'.trans e3).trans e4) hv
    · have z := of_decide_eq_false z
      rw [if_neg z] at hd
      exact ⟨⟨_, _, _, _, rfl⟩, e'.trans e3, hd⟩
  · rw [List.drop_of_length_le (by rw [List.length_map]; omega)] at hd
    cases hd
theorem sc_law_lots : FnScope ["_law_names", "_law_found", "_law_name", "_law_out"] ["_law_names"] (defScope s_law_lots) := ⟨rfl, rfl, rfl, by decide +kernel, rfl, by decide +kernel, by decide +kernel⟩
theorem c_law_lots (T : Top K mg) : ∃ f fd, Cal P w K mg base 1 "_law_lots" ["_law_names"] sp_law_lots f fd := by
  refine cal_mk (k := 0) (i := 42) (st := s_law_lots) T rfl sc_law_lots (fun _ _ _ _ _ _ us hl => match us, hl with | [_], _ => rfl) (fun vs H Q E h => ?_) (fun {f cdv A outer s H vs Q E} hr h => ?_)
  · obtain ⟨_, rfl, _⟩ := h
    rfl
  have hu := hu_of hr
  refine ⟨_, (pss_cons (ps_set (i := 1) sc_law_lots.nd rfl (Or.inl rfl) (pe_lst (pa_cons (pe_tup pa_nil) pa_nil)))
        (pss_cons (ps_for PassesOwn.never rfl (pi_tup (pv 0)) (pg_name (i := 2) sc_law_lots.nd rfl (Or.inr rfl)) 
          (pss_one (ps_set (i := 1) sc_law_lots.nd rfl (Or.inl rfl) (pe_op op_cat (pv 1) (pe_lc (own := [("_law_out", 3)]) (g := (gName 3)) rfl sc_law_lots.nd (pi_list (pv 1)) (blkOk_by (own := [("_law_out", 3)]) (N := ["_law_names", "_law_found", "_law_name", "_law_out"]) (sc := defScope s_law_lots) (by decide +kernel)) (fun _ _ _ _ _ => (pg_name (i := 3) sc_law_lots.nd rfl (Or.inl rfl))) (fun _ _ _ _ _ => pts_nil) (fun _ _ _ _ _ => (pe_op (op_catAK (K := K) rfl) (pv 3) (pe_tup (pa_cons (pv 2) pa_nil)))))))))
        (pss_one (ps_ret (pv 1))))), ?_⟩
  obtain ⟨⟨a, names⟩, rfl, ⟨pa, hl⟩, q⟩ := h
  have pa : H a = some (.tup (names.map V.str)) := pa
  have hl : names.length ≤ 5 := hl
  refine q_asgR (R := fun v H2 => ∃ p, v = .ref p ∧ LstOf IsTs H2 p [[]]) (er_imp (er_lst1 (er_tup (vs := []) ea_nil (Nat.zero_le _)) tupAt_ex) fun v H2 _ ⟨p, x, z1, _, z3, b, z4, z5⟩ => ⟨p, z1, [b], by rw [z3, z4]; rfl, .cons z5 .nil⟩) fun v H1 e1 ⟨p, ev, hp⟩ => ?_
  subst ev
  refine ⟨_, rfl, a, rfl, ⟨_, st_of (e1 _ _ pa)⟩, for_it (walk_tup (xs := names.map V.str)) (fun i σ' H' => (∃ p lots u2 u3, σ' = [some (.ref a), some (.ref p), u2, u3] ∧ LstOf IsTs H' p lots ∧ (∀ l ∈ lots, l.Sublist (names.take i)) ∧ lots ≠ [] ∧ lots.length = 2 ^ i) ∧ Ex H H')
    ⟨⟨p, [[]], _, _, rfl, hp, fun l hl => by rw [List.mem_singleton.mp hl]; exact List.nil_sublist _, by simp, rfl⟩, e1⟩ (fun i σ' H' _ z => st_of (z.2 _ _ pa)) (fun i v σ' H' H2 hi ⟨⟨p, lots, u2, u3, es, ⟨as, h1, pr⟩, hs, hne, hn⟩, e'⟩ yv => ?_) fun σ' H' ⟨⟨p, lots, u2, u3, es, h1, hs, hne, hn⟩, e'⟩ => ?_⟩
  · subst es
    obtain ⟨e34, hv⟩ := yv
    subst e34
    rw [List.getElem?_map] at hv
    obtain ⟨nm, hnm, ev⟩ := Option.map_eq_some_iff.mp hv
    subst ev
    have hi : i < names.length := (List.getElem?_eq_some_iff.mp hnm).1
    have la := paired_len pr
    have l16 : lots.length ≤ 16 := by
      rw [hn]
      have z : 2 ^ i ≤ 2 ^ 4 := Nat.pow_le_pow_right (by omega) (by omega)
      omega
    have tk : names.take (i + 1) = names.take i ++ [nm] := by rw [List.take_add_one, hnm]; rfl
    refine s_asgR (R := fun v H3 => ∃ p3, v = .ref p3 ∧ LstOf IsTs H3 p3 (lots ++ lots.map fun l => l ++ [nm])) (er_opR (R1 := fun v _ => v = .ref p) (R3 := fun v H3 => ∃ p3, v = .ref p3 ∧ LstOf IsTs H3 p3 (lots.map fun l => l ++ [nm])) (er_of (ev_var rfl)) (fun _ _ _ _ z => z)
      (fun H0 e0 Rk kx => ⟨_, rfl, p, rfl, ⟨_, sq_of (e0 _ _ h1)⟩, fun D hD => lc_rel (f := fun _ => true) (R := fun i v H3 => ∃ b, v = .ref b ∧ IsTs H3 b ((lots.map fun l => l ++ [nm]).getD i [])) (walk_list (xs := as.map V.ref)) hD (by rw [List.length_map]; omega) (fun H3 e3 => sq_of ((e0.trans e3) _ _ h1)) (fun _ _ _ _ z => yat_ex z)
        (fun _ _ _ _ e ⟨b, z1, z2⟩ => ⟨b, z1, z2.tx e⟩) (fun i2 H3 v H4 hil e3 yv _ kk => ?_) fun ys H3 e3 h3 hpr => ?_⟩) fun x y H3 e3 hx ⟨p3, ey, cs, hc, pc⟩ Rk kx => ?_) fun v H3 e3 ⟨p3, ev, h3⟩ => ?_
    · obtain ⟨e34, hv⟩ := yv
      subst e34
      rw [List.getElem?_map] at hv
      obtain ⟨b0, hb0, eb0⟩ := Option.map_eq_some_iff.mp hv
      subst eb0
      have li := (List.getElem?_eq_some_iff.mp hb0).1
      have hw := List.getElem?_eq_getElem (show i2 < lots.length by omega)
      have pb := paired_get (F := IsTs H2) pr hb0 hw
      have eg : (lots.map fun l => l ++ [nm]).getD i2 [] = lots[i2] ++ [nm] := getD_at (by rw [List.getElem?_map, hw]; rfl)
      have e03 := e0.trans e3
      have ln0 : lots[i2].length ≤ 5 := Nat.le_trans (hs _ (List.getElem_mem _)).length_le (by rw [List.length_take]; omega)
      generalize lots[i2] = lt0 at pb eg ln0
      have pb : H2 b0 = some (.tup (lt0.map V.str)) := pb
      refine kk _ rfl et_yes fun _ => er_opR (R1 := fun v _ => v = .ref b0) (er_of (ev_var rfl)) (fun _ _ _ _ z => z) (er_tup (vs := [.str nm]) (ea_cons (ev_var rfl) ea_nil) (Nat.le_of_ble_eq_true rfl)) fun x y H5 e5 hx ⟨p5, ey, h5⟩ Rk kx => ?_
      subst hx ey
      have hb5 := (e03.trans e5) _ _ pb
      refine ⟨b0, p5, lt0.map V.str, [.str nm], rfl, rfl, st_of hb5, st_of h5, ?_, fun z => ?_, fun _ z => (by cases z), fun _ _ u nu => kx _ _ (Ex.new nu) ⟨u, rfl, ?_⟩⟩
      · rw [List.length_map]
        exact sz_of (by show lt0.length + 1 ≤ 100000; omega)
      · have z : lt0 = [] := by simpa using z
        subst z
        exact kx _ _ (Ex.refl _) ⟨p5, rfl, by rw [eg]; exact h5⟩
      · rw [eg]
        show upd H5 u _ u = some (.tup ((lt0 ++ [nm]).map V.str))
        rw [upd_same, List.map_append]
        rfl
    · rw [filter_tt, List.length_map, la, show lots.length = (lots.map fun l => l ++ [nm]).length by rw [List.length_map]] at hpr
      obtain ⟨cs, ec, pc⟩ := refs_ofD (R := IsTs H3) hpr
      subst ec
      exact kx _ H3 e3 ⟨D, rfl, cs, h3, pc⟩
    · subst hx ey
      have lc := paired_len pc
      rw [List.length_map] at lc
      refine ⟨p, p3, _, _, rfl, rfl, e3 _ _ h1, hc, sz_of (by rw [List.length_map, List.length_map]; omega), fun u nu => kx _ _ (Ex.new nu) ⟨u, rfl, as ++ cs, ?_, paired_app (paired_imp (fun _ _ z => z.tx (Tx.of (e3.trans (Ex.new nu)))) pr) (paired_imp (fun _ _ z => z.tx (Tx.of (Ex.new nu))) pc)⟩⟩
      rw [upd_same, List.map_append]
    · subst ev
      refine ⟨⟨p3, _, _, _, rfl, h3, fun l hl => ?_, by simp [hne], ?_⟩, e'.trans e3⟩
      · rw [tk]
        rcases List.mem_append.mp hl with hl | hl
        · exact (hs l hl).trans (List.sublist_append_left _ _)
        · obtain ⟨l0, z1, z2⟩ := List.mem_map.mp hl
          subst z2
          exact (hs l0 z1).append_right _
      · rw [List.length_append, List.length_map, hn, Nat.pow_succ]
        omega
  · subst es
    have et : names.take (names.map V.str).length = names := List.take_of_length_le (by rw [List.length_map]; exact Nat.le_refl _)
    rw [et] at hs
    refine ⟨_, rfl, q _ H' e' ⟨p, lots, rfl, h1, hs, hne, ?_⟩⟩
    rw [hn, List.length_map]
    have z : 2 ^ names.length ≤ 2 ^ 5 := Nat.pow_le_pow_right (by omega) (by omega)
    omega
theorem sc_are_integers : FnScope ["thing", "many", "one"] ["thing", "many"] (defScope s_are_integers) := ⟨rfl, rfl, rfl, by decide +kernel, rfl, by decide +kernel, by decide +kernel⟩
theorem c_are_integers (T : Top K mg) : ∃ f fd, Cal P w K mg base 2 "are_integers" ["thing", "many"] sp_are_integers f fd := by
  obtain ⟨_, _, C_is_integer⟩ := c_is_integer (P := P) (w := w) (base := base) T
  obtain ⟨_, _, C_is_tuple_of⟩ := c_is_tuple_of (P := P) (w := w) (base := base) T
  refine cal_mk (k := 1) (i := 2) (st := s_are_integers) T rfl sc_are_integers (fun _ _ _ _ _ _ us hl => match us, hl with | [_, _], _ => rfl) (fun vs H Q E h => ?_) (fun {f cdv A outer s H vs Q E} hr h => ?_)
  · obtain ⟨_, rfl, _⟩ := h
    rfl
  have hu := hu_of hr
  refine ⟨_, (pss_one (ps_ret (pe_and (pe_call C_is_tuple_of.ok (hr.mono (by decide)) (by rfl) C_is_tuple_of.mg C_is_tuple_of.kp C_is_tuple_of.bd .nil pass0 (pa_cons (pv 0) (pa_cons (pv 1) pa_nil))) (pe_one (pe_callB (cr_all rfl) (by rfl) T.b_all boot_all (pa_cons (pe_lc (own := [("one", 2)]) (g := (gName 2)) rfl sc_are_integers.nd (pi_tup (pv 0)) (blkOk_by (own := [("one", 2)]) (N := ["thing", "many", "one"]) (sc := defScope s_are_integers) (by decide +kernel)) (fun _ _ _ _ _ => (pg_name (i := 2) sc_are_integers.nd rfl (Or.inl rfl))) (fun _ _ _ _ _ => pts_nil) (fun _ _ _ _ _ => (pe_call C_is_integer.ok (hr.mono (by decide)) (by rfl) C_is_integer.mg C_is_integer.kp C_is_integer.bd .nil pass0 (pa_cons (pv 2) pa_nil)))) pa_nil)))))), ?_⟩
  obtain ⟨⟨a, i, j⟩, rfl, p, q⟩ := h
  refine s_ret (ev_andV (b := true) (ev_callV (ea_cons (ev_var rfl) (ea_cons (ev_var rfl) ea_nil)) fun H1 e1 Q q E => ⟨(a, [.int i, .int j], 2), rfl, ⟨e1 _ _ p, rfl⟩, q⟩) fun _ => ev_allT (el_lcT (fun _ => true) (fun _ => .bl true) (ev_var rfl) (st_of p) (Nat.le_of_ble_eq_true rfl) (fun x => rfl) (fun _ _ _ _ _ => et_yes) fun k x H1 e1 hx _ => ?_)) fun H1 e1 => q H1 e1
  obtain ⟨n, rfl⟩ : ∃ n, x = .int n := by
    rcases k with _ | _ | k
    · exact ⟨_, (Option.some.inj hx).symm⟩
    · exact ⟨_, (Option.some.inj hx).symm⟩
    · cases hx
  exact ev_callV (ea_cons (ev_var rfl) ea_nil) fun H2 e2 Q q E => ⟨n, rfl, trivial, q⟩
theorem sc_are_names : FnScope ["thing", "one"] ["thing"] (defScope s_are_names) := ⟨rfl, rfl, rfl, by decide +kernel, rfl, by decide +kernel, by decide +kernel⟩
theorem c_are_names (T : Top K mg) : ∃ f fd, Cal P w K mg base 2 "are_names" ["thing"] sp_are_names f fd := by
  obtain ⟨_, _, C_are_ascending⟩ := c_are_ascending (P := P) (w := w) (base := base) T
  obtain ⟨_, _, C_is_name⟩ := c_is_name (P := P) (w := w) (base := base) T
  refine cal_mk (k := 1) (i := 5) (st := s_are_names) T rfl sc_are_names (fun _ _ _ _ _ _ us hl => match us, hl with | [_], _ => rfl) (fun vs H Q E h => ?_) (fun {f cdv A outer s H vs Q E} hr h => ?_)
  · obtain ⟨_, rfl, _⟩ := h
    rfl
  have hu := hu_of hr
  refine ⟨_, (pss_one (ps_ret (pe_and (pe_callB call_isi (by rfl) T.b_isinstance boot_isinstance (pa_cons (pv 0) (pa_cons (pe_bltn (v := .ty "tuple") (by rfl) T.b_tuple boot_tuple rfl) pa_nil))) (pe_and (pe_callB (cr_all rfl) (by rfl) T.b_all boot_all (pa_cons (pe_lc (own := [("one", 1)]) (g := (gName 1)) rfl sc_are_names.nd (pi_tup (pv 0)) (blkOk_by (own := [("one", 1)]) (N := ["thing", "one"]) (sc := defScope s_are_names) (by decide +kernel)) (fun _ _ _ _ _ => (pg_name (i := 1) sc_are_names.nd rfl (Or.inl rfl))) (fun _ _ _ _ _ => pts_nil) (fun _ _ _ _ _ => (pe_call C_is_name.ok (hr.mono (by decide)) (by rfl) C_is_name.mg C_is_name.kp C_is_name.bd .nil pass0 (pa_cons (pv 1) pa_nil)))) pa_nil)) (pe_one (pe_call C_are_ascending.ok (hr.mono (by decide)) (by rfl) C_are_ascending.mg C_are_ascending.kp C_are_ascending.bd .nil pass0 (pa_cons (pv 0) pa_nil))))))), ?_⟩
  obtain ⟨⟨a, xs⟩, rfl, ⟨p, g⟩, q⟩ := h
  have g : GoodNames xs := g
  have p : H a = some (.tup (xs.map V.str)) := p
  have gl := g.len
  refine s_ret (ev_andV (b := true) (ev_isi (ev_var rfl) (ty_tup p) (show kitB "tuple" "tuple" = some true by decide +kernel)) fun _ => ev_andV (b := true) (ev_allT (el_lcT (fun _ => true) (fun _ => .bl true) (ev_var rfl) (st_of p) (by rw [List.length_map]; omega) (fun x => rfl) (fun _ _ _ _ _ => et_yes) fun k x H1 e1 hx _ => ?_)) fun _ =>
    ev_callV (ea_cons (ev_var rfl) ea_nil) fun H1 e1 Q q E => ⟨(a, xs), rfl, ⟨e1 _ _ p, g.asc, g.len⟩, q⟩) fun H1 e1 => q H1 e1
  rw [List.getElem?_map] at hx
  obtain ⟨s, h1, rfl⟩ := Option.map_eq_some_iff.mp hx
  exact ev_callV (ea_cons (ev_var rfl) ea_nil) fun H2 e2 Q q E => ⟨s, rfl, g.nm s (List.mem_of_getElem? h1), q⟩
theorem sc_ties_by : FnScope ["town", "run", "lot", "bounds", "some", "index", "letter", "one", "other", "sent", "heard", "low", "high"] ["town", "run", "lot"] (defScope s_ties_by) := ⟨rfl, rfl, rfl, by decide +kernel, rfl, by decide +kernel, by decide +kernel⟩
theorem c_ties_by (T : Top K mg) : ∃ f fd, Cal P w K mg base 2 "ties_by" ["town", "run", "lot"] sp_ties_by f fd := by
  obtain ⟨_, _, C_is_outside⟩ := c_is_outside (P := P) (w := w) (base := base) T
  obtain ⟨_, _, C_widths_by⟩ := c_widths_by (P := P) (w := w) (base := base) T
  refine cal_mk (k := 1) (i := 9) (st := s_ties_by) T rfl sc_ties_by (fun _ _ _ _ _ _ us hl => match us, hl with | [_, _, _], _ => rfl) (fun vs H Q E h => ?_) (fun {f cdv A outer s H vs Q E} hr h => ?_)
  · obtain ⟨_, rfl, _⟩ := h
    rfl
  have hu := hu_of hr
  refine ⟨_, (pss_cons (ps_par (i := 3) (j := 4) rfl sc_ties_by.nd rfl rfl (by decide) rfl rfl (pa_cons (pe_call C_widths_by.ok (hr.mono (by decide)) (by rfl) C_widths_by.mg C_widths_by.kp C_widths_by.bd .nil pass0 (pa_cons (pv 0) pa_nil)) (pa_cons (pe_lst pa_nil) pa_nil)) (by rfl))
        (pss_cons (ps_for PassesOwn.never rfl (pi_enumT (by rfl) T.b_enumerate (pa_cons (pv 1) pa_nil)) (pg_tup rfl (pgs_cons (pg_name (i := 5) sc_ties_by.nd rfl (Or.inl rfl)) (pgs_cons (pg_name (i := 6) sc_ties_by.nd rfl (Or.inl rfl)) pgs_nil))) 
          (pss_one (ps_if (pt_val (pe_call C_is_outside.ok (hr.mono (by decide)) (by rfl) C_is_outside.mg C_is_outside.kp C_is_outside.bd .nil pass0 (pa_cons (pv 2) (pa_cons (pv 6) pa_nil)))) 
            (pss_cons (ps_asg (pv 6) (pg_tup rfl (pgs_cons (pg_name (i := 7) sc_ties_by.nd rfl (Or.inl rfl)) (pgs_cons (pg_name (i := 8) sc_ties_by.nd rfl (Or.inl rfl)) (pgs_cons (pg_name (i := 9) sc_ties_by.nd rfl (Or.inl rfl)) (pgs_cons (pg_name (i := 10) sc_ties_by.nd rfl (Or.inl rfl)) pgs_nil))))))
            (pss_cons (ps_asg (pe_dget hu (pv 3) (pe_tup (pa_cons (pv 7) (pa_cons (pv 8) pa_nil))) (fun _ _ => rfl)) (pg_tup rfl (pgs_cons (pg_name (i := 11) sc_ties_by.nd rfl (Or.inl rfl)) (pgs_cons (pg_name (i := 12) sc_ties_by.nd rfl (Or.inl rfl)) pgs_nil))))
            (pss_one (ps_expr (pe_bm PySem.F.plainAttrs_list PySem.F.slot_list_extend PySem.F.type_list_extend mt_extend (pv 4) (pa_cons (pe_lst (pa_cons (pe_tup (pa_cons (pv 7) (pa_cons (pv 8) (pa_cons (pe_op op_sub (pe_op op_sub (pv 10) (pv 9)) (pv 11)) (pa_cons (pv 5) pa_nil))))) (pa_cons (pe_tup (pa_cons (pv 8) (pa_cons (pv 7) (pa_cons (pe_op op_add (pe_op op_sub (pv 12) (pv 10)) (pv 9)) (pa_cons (pv 5) pa_nil))))) pa_nil))) pa_nil)))))) pss_nil)))
        (pss_one (ps_ret (pv 4))))), ?_⟩
  obtain ⟨⟨⟨t, r, l⟩, W, run, lot⟩, rfl, k0, q⟩ := h
  have pt : IsTown H t W := k0.town
  obtain ⟨as, pz, pr⟩ : TupOf IsT4 H r run := k0.run
  have pl : IsTs H l lot := k0.lot
  have G : GoodTown W := k0.gt
  have gr : ∀ l ∈ run, ∃ p, bnd W.wires l.1 l.2.1 = some p := k0.gr.1
  have gn : run.length ≤ 20 := k0.gr.2
  have la := paired_len pr
  refine q_par (R1 := fun v H2 => IsBnds H2 v W) (R3 := fun v H2 => ∃ p, v = .ref p ∧ H p = none ∧ H2 p = some (.lst [])) (er_call (ea_cons (ev_var rfl) ea_nil) fun H1 e1 Q q E => ⟨(t, W), rfl, ⟨pt.tx (Tx.of e1), G⟩, q⟩) (fun _ _ _ e z => z.ex e)
    (fun H1 e1 Q k => ⟨Nat.zero_le _, fun p np => k _ _ (Ex.new np) ⟨p, rfl, fresh_back e1 np, upd_same⟩⟩) fun bv v H1 e1 hb hp => ?_
  obtain ⟨p, ev, hp0, hp1⟩ := hp
  subst ev
  refine ⟨_, rfl, r, _, rfl, st_of (e1 _ _ pz), for_it (walk_enumT (xs := as.map V.ref)) (fun i σ' H' => (∃ u1 u2 u3 u4 u5 u6 u7 u8, σ' = [some (.ref t), some (.ref r), some (.ref l), some bv, some (.ref p), u1, u2, u3, u4, u5, u6, u7, u8]) ∧ Ex H H' ∧ IsBnds H' bv W ∧ LstOf IsTie H' p (tiesOf W (run.take i) lot))
    ⟨⟨_, _, _, _, _, _, _, _, rfl⟩, e1, hb, [], hp1, .nil⟩ (fun i σ' H' _ z => st_of (z.2.1 _ _ pz)) (fun i x σ' H' H2 hi ⟨⟨u1, u2, u3, u4, u5, u6, u7, u8, es⟩, e', hb', bs, hl, pb⟩ y => ?_) fun σ' H' ⟨⟨u1, u2, u3, u4, u5, u6, u7, u8, es⟩, e', hb', hl⟩ => ?_⟩
  · subst es
    have e2 := ypair_ex y
    obtain ⟨T0, x1, x2, rfl, _, rfl, g1, g2⟩ := y
    have g1 : some (V.int (i : Nat)) = some x1 := g1
    have g2 : (as.map V.ref)[i]? = some x2 := g2
    rw [List.getElem?_map] at g2
    obtain ⟨b, hbi, eb⟩ := Option.map_eq_some_iff.mp g2
    cases g1
    subst eb
    have li := (List.getElem?_eq_some_iff.mp hbi).1
    have hw := List.getElem?_eq_getElem (show i < run.length by omega)
    have pb4 : IsT4 H b run[i] := paired_get (F := IsT4 H) pr hbi hw
    obtain ⟨⟨lo, hi'⟩, hbd⟩ := gr _ (List.getElem_mem (show i < run.length by omega))
    generalize run[i] = w4 at hw pb4 hbd
    refine ⟨T0, _, rfl, st_of upd_same, rfl, _, _, rfl, _, _, rfl, rfl, ?_⟩
    have e02 := e'.trans e2
    have nl := tiesOf_len (T := W) (lot := lot) 0 (run.take i)
    have nl2 : bs.length ≤ 40 := by
      rw [paired_len pb]
      have : (run.take i).length ≤ run.length := by rw [List.length_take]; omega
      show (tiesFrom W lot 0 (run.take i)).length ≤ 40
      omega
    refine s_when (b := decide (w4.1 ∉ lot ∧ w4.2.1 ∉ lot)) (et_B (ev_callV (ea_cons (ev_var rfl) (ea_cons (ev_var rfl) ea_nil)) fun H5 e5 Q q E => ⟨((l, b), lot, w4), rfl, ⟨pl.tx (Tx.of (e02.trans e5)), pb4.tx (Tx.of (e02.trans e5))⟩, q⟩)) (fun z H5 e5 => ?_) fun z H5 e5 => ?_
    · have z : w4.1 ∉ lot ∧ w4.2.1 ∉ lot := of_decide_eq_true z
      have e05 := e02.trans e5
      refine ⟨_, rfl, b, _, rfl, st_of (e05 _ _ pb4), rfl, _, _, rfl, _, _, rfl, _, _, rfl, _, _, rfl, rfl, ?_⟩
      obtain ⟨dp, kvs, ebv, hd, hlook⟩ := (hb'.ex e2).ex e5
      subst ebv
      obtain ⟨bt, hbt, hbp⟩ := hlook _ _ _ _ hbd
      refine ev_dgetT (ev_var rfl) (ea_cons (ev_var rfl) (ea_cons (ev_var rfl) ea_nil)) hd hbt H5 (Ex.refl _) _ fun H6 e6 => ?_
      refine ⟨bt, _, rfl, st_of (e6 _ _ hbp), rfl, _, _, rfl, _, _, rfl, rfl, ?_⟩
      have h6 := (e2.trans (e5.trans e6)) _ _ hl
      refine s_extU (q1 := [.str w4.1, .str w4.2.1, .int (w4.2.2.2 - w4.2.2.1 - lo), .int (i : Nat)]) (q2 := [.str w4.2.1, .str w4.1, .int (hi' - w4.2.2.2 + w4.2.2.1), .int (i : Nat)]) h6 (ev_var rfl)
        (ea_cons (ev_var rfl) (ea_cons (ev_var rfl) (ea_cons (ev_op (ev_op (ev_var rfl) (ev_var rfl) rv_I0) (ev_var rfl) rv_I0) (ea_cons (ev_var rfl) ea_nil))))
        (ea_cons (ev_var rfl) (ea_cons (ev_var rfl) (ea_cons (ev_op (ev_op (ev_var rfl) (ev_var rfl) rv_I0) (ev_var rfl) rv_I0) (ea_cons (ev_var rfl) ea_nil)))) (Nat.le_of_ble_eq_true rfl) (Nat.le_of_ble_eq_true rfl) (by rw [List.length_map]; omega) fun c1 c2 H7 e7 hc1 hc2 => ?_
      have h7 := e7 _ _ h6
      have e07 := (e05.trans e6).trans e7
      have tl : Tx H7 (upd H7 p (.lst (bs.map V.ref ++ [.ref c1, .ref c2]))) := Tx.lst h7
      have ndp : dp ≠ p := ne_of hd ((e2.trans e5) _ _ hl) (by intro z; cases z)
      refine ⟨⟨_, _, _, _, _, _, _, _, rfl⟩, Ex.mut e07 hp0, ⟨dp, kvs, rfl, ?_, fun a b lo hi z => ?_⟩, bs ++ [c1, c2], ?_, ?_⟩
      · rw [upd_ne ndp]
        exact (e6.trans e7) _ _ hd
      · obtain ⟨t1, z1, z2⟩ := hlook a b lo hi z
        exact ⟨t1, z1, tl _ _ ((e6.trans e7) _ _ z2)⟩
      · rw [upd_same, List.map_append]
        rfl
      · rw [tiesOf_take hw, tiesAt_yes z hbd]
        exact paired_app (paired_imp (fun _ _ z => z.tx ((Tx.of (((e2.trans e5).trans e6).trans e7)).trans tl)) pb) (.cons (tl _ _ hc1) (.cons (tl _ _ hc2) .nil))
    · have z : ¬ (w4.1 ∉ lot ∧ w4.2.1 ∉ lot) := of_decide_eq_false z
      refine ⟨⟨_, _, _, _, _, _, _, _, rfl⟩, e02.trans e5, (hb'.ex e2).ex e5, bs, (e2.trans e5) _ _ hl, ?_⟩
      rw [tiesOf_take hw, tiesAt_no z, List.append_nil]
      exact paired_imp (fun _ _ z => z.tx (Tx.of (e2.trans e5))) pb
  · subst es
    rw [List.take_of_length_le (by rw [List.length_map]; omega)] at hl
    exact ⟨_, rfl, q _ H' e' ⟨p, rfl, hl⟩⟩
theorem sc_law_any : FnScope ["_law_feed_here", "_law_some"] ["_law_feed_here", "_law_some"] (defScope s_law_any) := ⟨rfl, rfl, rfl, by decide +kernel, rfl, by decide +kernel, by decide +kernel⟩
theorem c_law_any (T : Top K mg) : ∃ f fd, Cal P w K mg base 2 "_law_any" ["_law_feed_here", "_law_some"] sp_law_any f fd := by
  obtain ⟨_, _, C_law_draw⟩ := c_law_draw (P := P) (w := w) (base := base) T
  refine cal_mk (k := 1) (i := 33) (st := s_law_any) T rfl sc_law_any (fun _ _ _ _ _ _ us hl => match us, hl with | [_, _], _ => rfl) (fun vs H Q E h => ?_) (fun {f cdv A outer s H vs Q E} hr h => ?_)
  · obtain ⟨_, rfl, _⟩ := h
    rfl
  have hu := hu_of hr
  refine ⟨_, (pss_one (ps_ret (pe_ix ix_list (pv 1) (pe_call C_law_draw.ok (hr.mono (by decide)) (by rfl) C_law_draw.mg C_law_draw.kp C_law_draw.bd .nil pass0 (pa_cons (pv 0) (pa_cons (pe_callB call_len_seq (by rfl) T.b_len boot_len (pa_cons (pv 1) pa_nil)) pa_nil))) (fun _ _ => rfl)))), ?_⟩
  obtain ⟨⟨⟨d, l, c⟩, xs⟩, rfl, ⟨hf, hl, ne, few⟩, q⟩ := h
  have hf : IsFeed H d c := hf
  have hl : H l = some (.lst xs) := hl
  have ne : xs ≠ [] := ne
  have few : xs.length < 1000 := few
  have dl : l ≠ d := fun z => by
    obtain ⟨cells, sp, ov, tu, h1, _⟩ := hf
    rw [← z, hl] at h1
    cases h1
  have ln : 0 < xs.length := List.length_pos_iff.mpr ne
  refine ⟨.ref l, rfl, ?_⟩
  refine ea_cons (ev_var rfl) (ea_cons (ev_len (K := K) (ev_var rfl) (sq_of hl)) ea_nil) H (Ex.refl _) _ fun H1 e1 => ?_
  refine ⟨((d, c), (xs.length : Int)), rfl, ⟨hf.ex e1, by show (0 : Int) < (xs.length : Int); omega, by show (xs.length : Int) < 1000000; omega⟩, fun r H2 x2 f2 r0 r1 => ?_⟩
  have r1 : r < (xs.length : Int) := r1
  obtain ⟨j, rfl⟩ := Int.eq_ofNat_of_zero_le r0
  have hj : j < xs.length := by omega
  exact ⟨l, xs, (j : Int), xs[j], rfl, rfl, sq_of (x2 _ _ dl (e1 _ _ hl)), atI_nat (List.getElem?_eq_getElem hj), q _ H2 ((Exb.of e1).trans x2) f2 (List.getElem_mem hj)⟩
theorem sc_law_ties : FnScope ["_law_place_here", "_law_mail", "_law_out", "_law_found", "_law_k", "_law_start", "_law_end", "_law_hour", "_law_late", "_law_low", "_law_high"] ["_law_place_here", "_law_mail", "_law_out"] (defScope s_law_ties) := ⟨rfl, rfl, rfl, by decide +kernel, rfl, by decide +kernel, by decide +kernel⟩
theorem c_law_ties (T : Top K mg) : ∃ f fd, Cal P w K mg base 2 "_law_ties" ["_law_place_here", "_law_mail", "_law_out"] sp_law_ties f fd := by
  obtain ⟨_, _, C_law_bounds⟩ := c_law_bounds (P := P) (w := w) (base := base) T
  refine cal_mk (k := 1) (i := 38) (st := s_law_ties) T rfl sc_law_ties (fun _ _ _ _ _ _ us hl => match us, hl with | [_, _, _], _ => rfl) (fun vs H Q E h => ?_) (fun {f cdv A outer s H vs Q E} hr h => ?_)
  · obtain ⟨_, rfl, _⟩ := h
    rfl
  have hu := hu_of hr
  refine ⟨_, (pss_cons (ps_set (i := 3) sc_law_ties.nd rfl (Or.inl rfl) (pe_lst pa_nil))
        (pss_cons (ps_for PassesOwn.never rfl (pi_range1 (by rfl) T.b_range (pa_cons (pe_callB call_len_seq (by rfl) T.b_len boot_len (pa_cons (pv 1) pa_nil)) pa_nil)) (pg_name (i := 4) sc_law_ties.nd rfl (Or.inl rfl)) 
          (pss_cons (ps_asg (pe_ix ix_tup (pv 1) (pv 4) (fun _ _ => rfl)) (pg_tup rfl (pgs_cons (pg_name (i := 5) sc_law_ties.nd rfl (Or.inl rfl)) (pgs_cons (pg_name (i := 6) sc_law_ties.nd rfl (Or.inl rfl)) (pgs_cons (pg_name (i := 7) sc_law_ties.nd rfl (Or.inl rfl)) (pgs_cons (pg_name (i := 8) sc_law_ties.nd rfl (Or.inl rfl)) pgs_nil))))))
          (pss_one (ps_if (PW.pt (pw_and (pt_cmpR op_notIn_seq (pv 5) (pv 2) (by rfl)) (pw_and1 (pt_cmpR op_notIn_seq (pv 6) (pv 2) (by rfl))))) 
            (pss_cons (ps_asg (pe_call C_law_bounds.ok (hr.mono (by decide)) (by rfl) C_law_bounds.mg C_law_bounds.kp C_law_bounds.bd .nil pass0 (pa_cons (pv 0) (pa_cons (pv 5) (pa_cons (pv 6) pa_nil)))) (pg_tup rfl (pgs_cons (pg_name (i := 9) sc_law_ties.nd rfl (Or.inl rfl)) (pgs_cons (pg_name (i := 10) sc_law_ties.nd rfl (Or.inl rfl)) pgs_nil))))
            (pss_cons (ps_expr (pe_bm PySem.F.plainAttrs_list PySem.F.slot_list_append PySem.F.type_list_append mt_append (pv 3) (pa_cons (pe_tup (pa_cons (pv 5) (pa_cons (pv 6) (pa_cons (pe_op op_sub (pe_op op_sub (pv 8) (pv 7)) (pv 9)) (pa_cons (pv 4) pa_nil))))) pa_nil)))
            (pss_one (ps_expr (pe_bm PySem.F.plainAttrs_list PySem.F.slot_list_append PySem.F.type_list_append mt_append (pv 3) (pa_cons (pe_tup (pa_cons (pv 6) (pa_cons (pv 5) (pa_cons (pe_op op_add (pe_op op_sub (pv 10) (pv 8)) (pv 7)) (pa_cons (pv 4) pa_nil))))) pa_nil)))))) pss_nil))))
        (pss_one (ps_ret (pv 3))))), ?_⟩
  obtain ⟨⟨⟨t, r, l⟩, W, run, lot⟩, rfl, k0, q⟩ := h
  have pt : IsTown H t W := k0.town
  obtain ⟨as, pz, pr⟩ : TupOf IsT4 H r run := k0.run
  have pl : H l = some (.tup (lot.map V.str)) := k0.lot
  have G : GoodTown W := k0.gt
  have gr : ∀ l ∈ run, ∃ p, bnd W.wires l.1 l.2.1 = some p := k0.gr.1
  have gn : run.length ≤ 20 := k0.gr.2
  have la := paired_len pr
  refine q_asgR (R := fun v H2 => ∃ p, v = .ref p ∧ H p = none ∧ H2 p = some (.lst [])) (fun H1 e1 Q k => ⟨Nat.zero_le _, fun p np => k _ _ (Ex.new np) ⟨p, rfl, fresh_back e1 np, upd_same⟩⟩) fun v H1 e1 hp => ?_
  obtain ⟨p, ev, hp0, hp1⟩ := hp
  subst ev
  refine q_forR1 (n := (as.length : Nat)) (ea_cons (by
    have z := ev_lenT (K := K) (σ := (start ["_law_place_here", "_law_mail", "_law_out", "_law_found", "_law_k", "_law_start", "_law_end", "_law_hour", "_law_late", "_law_low", "_law_high"] [.ref t, .ref r, .ref l]).set 3 (some (.ref p))) (H := H1) (ev_var (i := 1) rfl) (st_of (e1 _ _ pz))
    rw [List.length_map] at z
    exact z) ea_nil) (by omega) (fun i σ' H' => (∃ u1 u2 u3 u4 u5 u6 u7, σ' = [some (.ref t), some (.ref r), some (.ref l), some (.ref p), u1, u2, u3, u4, u5, u6, u7]) ∧ Ex H H' ∧ LstOf IsTie H' p (tiesOf W (run.take i) lot))
    (fun H2 e2 => ⟨⟨_, _, _, _, _, _, _, rfl⟩, e1.trans e2, [], e2 _ _ hp1, .nil⟩) (fun i σ' H' hi ⟨⟨u1, u2, u3, u4, u5, u6, u7, es⟩, e', bs, hl, pb⟩ => ?_) fun σ' H' ⟨⟨u1, u2, u3, u4, u5, u6, u7, es⟩, e', hl⟩ => ?_
  · subst es
    have li : i < as.length := by omega
    have hai := List.getElem?_eq_getElem li
    have hw := List.getElem?_eq_getElem (show i < run.length by omega)
    have pb4 : IsT4 H as[i] run[i] := paired_get (F := IsT4 H) pr hai hw
    obtain ⟨⟨lo, hi'⟩, hbd⟩ := gr _ (List.getElem_mem (show i < run.length by omega))
    have g1 : (as.map V.ref)[i]? = some (.ref as[i]) := by rw [List.getElem?_map, hai]; rfl
    generalize as[i] = b at pb4 g1
    generalize run[i] = w4 at hw pb4 hbd
    have pb4 : H b = some (.tup [.str w4.1, .str w4.2.1, .int w4.2.2.1, .int w4.2.2.2]) := pb4
    have nl := tiesOf_len (T := W) (lot := lot) 0 (run.take i)
    have nl2 : bs.length ≤ 40 := by
      rw [paired_len pb]
      have : (run.take i).length ≤ run.length := by rw [List.length_take]; omega
      show (tiesFrom W lot 0 (run.take i)).length ≤ 40
      omega
    refine ev_op (ev_var (i := 1) rfl) (ev_var (i := 4) rfl) (rv_ixT (K := K) (st_of (e' _ _ pz)) (atI_nat g1)) H' (Ex.refl _) _ fun H2 e2 => ?_
    have e02 := e'.trans e2
    refine ⟨b, _, rfl, st_of (e02 _ _ pb4), rfl, _, _, rfl, _, _, rfl, _, _, rfl, _, _, rfl, rfl, ?_⟩
    dsimp only
    refine s_when (b := decide (w4.1 ∉ lot ∧ w4.2.1 ∉ lot)) (et_is (et_and (et_test (ev_op (ev_var rfl) (ev_var rfl) (rv_niT (st_of (e02 _ _ pl)) rfl flat_strs))) fun _ => et_test (ev_op (ev_var rfl) (ev_var rfl) (rv_niT (st_of (e02 _ _ pl)) rfl flat_strs))) (by rw [inV_strs, inV_strs, Bool.decide_and, decide_not, decide_not])) (fun z H5 e5 => ?_) fun z H5 e5 => ?_
    · have z : w4.1 ∉ lot ∧ w4.2.1 ∉ lot := of_decide_eq_true z
      have e05 := e02.trans e5
      refine er_call (ea_cons (ev_var rfl) (ea_cons (ev_var rfl) (ea_cons (ev_var rfl) ea_nil))) (fun H6 e6 Q q E => ⟨(t, W, (w4.1, w4.2.1), lo, hi'), rfl, ⟨pt.tx (Tx.of (e05.trans e6)), G, hbd⟩, q⟩) H5 (Ex.refl _) _ fun v H6 e6 hv => ?_
      obtain ⟨bt, ebt, hbp⟩ := hv
      subst ebt
      refine ⟨bt, _, rfl, st_of hbp, rfl, _, _, rfl, _, _, rfl, rfl, ?_⟩
      dsimp only
      have h6 := ((e2.trans e5).trans e6) _ _ hl
      refine q_appU (ys := [.str w4.1, .str w4.2.1, .int (w4.2.2.2 - w4.2.2.1 - lo), .int (i : Nat)]) h6 (ev_var rfl) (eu_tup (ea_cons (ev_var rfl) (ea_cons (ev_var rfl) (ea_cons (ev_op (ev_op (ev_var rfl) (ev_var rfl) rv_I0) (ev_var rfl) rv_I0) (ea_cons (ev_var rfl) ea_nil)))) (sz_of' (Nat.le_of_ble_eq_true rfl))) (by rw [List.length_map]; omega) fun c1 H7 _ e7 hc1 => ?_
      have h7 := e7 _ _ h6
      have e07 := (e05.trans e6).trans e7
      refine s_appU (ys := [.str w4.2.1, .str w4.1, .int (hi' - w4.2.2.2 + w4.2.2.1), .int (i : Nat)]) (upd_same (a := p)) (ev_var rfl) (eu_tup (ea_cons (ev_var rfl) (ea_cons (ev_var rfl) (ea_cons (ev_op (ev_op (ev_var rfl) (ev_var rfl) rv_I0) (ev_var rfl) rv_I0) (ea_cons (ev_var rfl) ea_nil)))) (sz_of' (Nat.le_of_ble_eq_true rfl))) (by rw [List.length_append, List.length_map]; show bs.length + 1 < 100000; omega) fun c2 H8 _ e8 hc2 => ?_
      have tl : Tx H7 (upd H7 p (.lst (bs.map V.ref ++ [.ref c1]))) := Tx.lst h7
      have h8 : H8 p = some (.lst (bs.map V.ref ++ [.ref c1])) := e8 _ _ upd_same
      have tl2 : Tx H8 (upd H8 p (.lst (bs.map V.ref ++ [.ref c1] ++ [.ref c2]))) := Tx.lst h8
      have t2 := (tl.trans (Tx.of e8)).trans tl2
      refine ⟨⟨_, _, _, _, _, _, _, rfl⟩, Ex.mut ((Ex.mut e07 hp0).trans e8) hp0, bs ++ [c1, c2], ?_, ?_⟩
      · rw [upd_same, List.map_append, List.append_assoc]
        rfl
      · rw [tiesOf_take hw, tiesAt_yes z hbd]
        exact paired_app (paired_imp (fun _ _ z => z.tx ((Tx.of (((e2.trans e5).trans e6).trans e7)).trans t2)) pb) (.cons (t2 _ _ hc1) (.cons (tl2 _ _ hc2) .nil))
    · have z : ¬ (w4.1 ∉ lot ∧ w4.2.1 ∉ lot) := of_decide_eq_false z
      refine ⟨⟨_, _, _, _, _, _, _, rfl⟩, e02.trans e5, bs, (e2.trans e5) _ _ hl, ?_⟩
      rw [tiesOf_take hw, tiesAt_no z, List.append_nil]
      exact paired_imp (fun _ _ z => z.tx (Tx.of (e2.trans e5))) pb
  · subst es
    have ek : ((as.length : Nat) : Int).toNat = as.length := rfl
    rw [ek, List.take_of_length_le (by omega)] at hl
    exact ⟨_, rfl, q _ H' e' ⟨p, rfl, hl⟩⟩
theorem sc_law_chain_fault : FnScope ["_law_place_here", "_law_mail", "_law_out", "_law_steps", "_law_total", "_law_here", "_law_begin", "_law_k", "_law_step", "_law_start", "_law_end", "_law_hour", "_law_late", "_law_goal", "_law_home", "_law_low", "_law_high"] ["_law_place_here", "_law_mail", "_law_out", "_law_steps"] (defScope s_law_chain_fault) := ⟨rfl, rfl, rfl, by decide +kernel, rfl, by decide +kernel, by decide +kernel⟩
theorem chain_inv {ts : List (NH.Tie Str)} {b e : Str} {t : Int} {s : Nat × Str} {r : List (Nat × Str)} (h : NH.Chain ts b (s :: r) e t) : ∃ w t', (⟨b, s.2, w, s.1⟩ : NH.Tie Str) ∈ ts ∧ NH.Chain ts s.2 r e t' ∧ t = w + t' := by
  cases h with
  | cons h1 h2 => exact ⟨_, _, h1, h2, rfl⟩
theorem chain_nil {ts : List (NH.Tie Str)} {b e : Str} {t : Int} (h : NH.Chain ts b [] e t) : b = e ∧ t = 0 := by
  cases h
  exact ⟨rfl, rfl⟩
/-- where the steps so far have led -/
def Led (c : CD) (i : Nat) (x : Str) (t : Int) (hv bv : V) : Prop := NH.Chain c.g.ties x (c.steps.drop i) c.e (c.tot - t) ∧ ((i = 0 ∧ x = c.a ∧ t = 0) ∨ (0 < i ∧ hv = .str x ∧ bv = .str c.a))
theorem c_law_chain_fault (T : Top K mg) : ∃ f fd, Cal P w K mg base 2 "_law_chain_fault" ["_law_place_here", "_law_mail", "_law_out", "_law_steps"] sp_law_chain_fault f fd := by
  obtain ⟨_, _, C_law_bounds⟩ := c_law_bounds (P := P) (w := w) (base := base) T
  refine cal_mk (k := 1) (i := 39) (st := s_law_chain_fault) T rfl sc_law_chain_fault (fun _ _ _ _ _ _ us hl => match us, hl with | [_, _, _, _], _ => rfl) (fun vs H Q E h => ?_) (fun {f cdv A outer s H vs Q E} hr h => ?_)
  · obtain ⟨_, rfl, _⟩ := h
    rfl
  have hu := hu_of hr
  refine ⟨_, (pss_cons (ps_asg (pe_tup (pa_cons pe_int (pa_cons pe_non (pa_cons pe_non pa_nil)))) (pg_tup rfl (pgs_cons (pg_name (i := 4) sc_law_chain_fault.nd rfl (Or.inl rfl)) (pgs_cons (pg_name (i := 5) sc_law_chain_fault.nd rfl (Or.inl rfl)) (pgs_cons (pg_name (i := 6) sc_law_chain_fault.nd rfl (Or.inl rfl)) pgs_nil)))))
        (pss_cons (ps_for PassesOwn.never rfl (pi_range1 (by rfl) T.b_range (pa_cons (pe_callB call_len_seq (by rfl) T.b_len boot_len (pa_cons (pv 3) pa_nil)) pa_nil)) (pg_name (i := 7) sc_law_chain_fault.nd rfl (Or.inl rfl)) 
          (pss_cons (ps_set (i := 8) sc_law_chain_fault.nd rfl (Or.inl rfl) (pe_ix ix_tup (pv 3) (pv 7) (fun _ _ => rfl)))
          (pss_cons (ps_if (PW.pt (pw_or (pt_not (pt_val (pe_callB call_isi (by rfl) T.b_isinstance boot_isinstance (pa_cons (pv 8) (pa_cons (pe_bltn (v := .ty "tuple") (by rfl) T.b_tuple boot_tuple rfl) pa_nil))))) (pw_or1 (pt_cmpR op_ne (pe_callB call_len_seq (by rfl) T.b_len boot_len (pa_cons (pv 8) pa_nil)) pe_int (nomark _))))) 
            (pss_one (ps_ret (pe_tup (pa_cons pe_str (pa_cons (pv 7) pa_nil))))) pss_nil)
          (pss_cons (ps_if (PW.pt (pw_or (pt_not (pt_val (pe_callB call_isi (by rfl) T.b_isinstance boot_isinstance (pa_cons (pe_ix ix_tup (pv 8) pe_int (fun _ _ => rfl)) (pa_cons (pe_bltn (v := .ty "int") (by rfl) T.b_int boot_int rfl) pa_nil))))) (pw_or1 (pt_val (pe_callB call_isi (by rfl) T.b_isinstance boot_isinstance (pa_cons (pe_ix ix_tup (pv 8) pe_int (fun _ _ => rfl)) (pa_cons (pe_bltn (v := .ty "bool") (by rfl) T.b_bool boot_bool rfl) pa_nil))))))) 
            (pss_one (ps_ret (pe_tup (pa_cons pe_str (pa_cons (pv 7) pa_nil))))) pss_nil)
          (pss_cons (ps_if (PW.pt (pw_or (pt_cmpR op_lt (pe_ix ix_tup (pv 8) pe_int (fun _ _ => rfl)) pe_int (nomark _)) (pw_or (pt_cmpR op_ge (pe_ix ix_tup (pv 8) pe_int (fun _ _ => rfl)) (pe_callB call_len_seq (by rfl) T.b_len boot_len (pa_cons (pv 1) pa_nil)) (nomark _)) (pw_or1 (pt_not (pt_val (pe_callB call_isi (by rfl) T.b_isinstance boot_isinstance (pa_cons (pe_ix ix_tup (pv 8) pe_int (fun _ _ => rfl)) (pa_cons (pe_bltn (v := .ty "str") (by rfl) T.b_str boot_str rfl) pa_nil))))))))) 
            (pss_one (ps_ret (pe_tup (pa_cons pe_str (pa_cons (pv 7) pa_nil))))) pss_nil)
          (pss_cons (ps_asg (pe_ix ix_tup (pv 1) (pe_ix ix_tup (pv 8) pe_int (fun _ _ => rfl)) (fun _ _ => rfl)) (pg_tup rfl (pgs_cons (pg_name (i := 9) sc_law_chain_fault.nd rfl (Or.inl rfl)) (pgs_cons (pg_name (i := 10) sc_law_chain_fault.nd rfl (Or.inl rfl)) (pgs_cons (pg_name (i := 11) sc_law_chain_fault.nd rfl (Or.inl rfl)) (pgs_cons (pg_name (i := 12) sc_law_chain_fault.nd rfl (Or.inl rfl)) pgs_nil))))))
          (pss_cons (ps_if (PW.pt (pw_or (pt_cmpR op_in_seq (pv 9) (pv 2) (by rfl)) (pw_or (pt_cmpR op_in_seq (pv 10) (pv 2) (by rfl)) (pw_or1 (pt_cmpR op_notIn_seq (pe_ix ix_tup (pv 8) pe_int (fun _ _ => rfl)) (pe_tup (pa_cons (pv 9) (pa_cons (pv 10) pa_nil))) (by rfl)))))) 
            (pss_one (ps_ret (pe_tup (pa_cons pe_str (pa_cons (pv 7) pa_nil))))) pss_nil)
          (pss_cons (ps_par (i := 13) (j := 14) rfl sc_law_chain_fault.nd rfl rfl (by decide) rfl rfl (pa_cons (pe_ix ix_tup (pv 8) pe_int (fun _ _ => rfl)) (pa_cons (pe_ifExp (pt_cmpR op_eq (pe_ix ix_tup (pv 8) pe_int (fun _ _ => rfl)) (pv 10) (nomark _)) (pv 9) (pv 10)) pa_nil)) (by rfl))
          (pss_cons (ps_asg (pe_call C_law_bounds.ok (hr.mono (by decide)) (by rfl) C_law_bounds.mg C_law_bounds.kp C_law_bounds.bd .nil pass0 (pa_cons (pv 0) (pa_cons (pv 9) (pa_cons (pv 10) pa_nil)))) (pg_tup rfl (pgs_cons (pg_name (i := 15) sc_law_chain_fault.nd rfl (Or.inl rfl)) (pgs_cons (pg_name (i := 16) sc_law_chain_fault.nd rfl (Or.inl rfl)) pgs_nil))))
          (pss_cons (ps_if (PW.pt (pw_and (pt_cmpR op_gt (pv 7) pe_int (nomark _)) (pw_and1 (pt_cmpR op_ne (pv 14) (pv 5) (nomark _))))) 
            (pss_one (ps_ret (pe_tup (pa_cons pe_str (pa_cons (pv 7) pa_nil))))) pss_nil)
          (pss_cons (ps_set (i := 4) sc_law_chain_fault.nd rfl (Or.inl rfl) (pe_op op_add (pv 4) (pe_ifExp (pt_cmpR op_eq (pv 13) (pv 10) (nomark _)) (pe_op op_sub (pe_op op_sub (pv 12) (pv 11)) (pv 15)) (pe_op op_add (pe_op op_sub (pv 16) (pv 12)) (pv 11)))))
          (pss_one (ps_par (i := 6) (j := 5) rfl sc_law_chain_fault.nd rfl rfl (by decide) rfl rfl (pa_cons (pe_ifExp (pt_cmpR op_eq (pv 7) pe_int (nomark _)) (pv 14) (pv 6)) (pa_cons (pv 13) pa_nil)) (by rfl))))))))))))))
        (pss_one (ps_ret (pe_tup (pa_cons pe_str (pa_cons (pv 4) (pa_cons (pv 6) (pa_cons (pv 5) pa_nil))))))))), ?_⟩
  obtain ⟨c, rfl, k, q⟩ := h
  obtain ⟨⟨⟨t, m, o⟩, W, run, lot⟩, sa, steps, ca, ce, tot⟩ := c
  have pt : IsTown H t W := k.g.town
  obtain ⟨as, pz, pr⟩ : TupOf IsT4 H m run := k.g.run
  have pl : H o = some (.tup (lot.map V.str)) := k.g.lot
  have G : GoodTown W := k.g.gt
  have gr : ∀ l ∈ run, ∃ p, bnd W.wires l.1 l.2.1 = some p := k.g.gr.1
  have gn : run.length ≤ 20 := k.g.gr.2
  obtain ⟨bs, ps, psr⟩ : TupOf IsStep H sa steps := k.st
  have few : steps.length ≤ 10 := k.few
  have hch : NH.Chain (tiesOf W run lot) ca steps ce tot := k.ch
  have hne : steps ≠ [] := k.ne
  have la := paired_len pr
  have lb := paired_len psr
  have lenm : ∀ {H2 : Hp} {σ : L2.St}, Ex H H2 → σ[1]? = some (some (.ref m)) → Ev (tCB (rLenS K) (tCons (tVar 1) tNil)) σ H2 (.int (run.length : Int)) := fun {H2 σ} e s => by
    have z := ev_lenT (K := K) (σ := σ) (H := H2) (ev_var (i := 1) s) (st_of (e _ _ pz))
    rw [List.length_map, la] at z
    exact z
  refine q_asgT (er_tup (vs := [.int 0, .non, .non]) (ea_cons ev_c (ea_cons ev_c (ea_cons ev_c ea_nil))) (Nat.le_of_ble_eq_true rfl)) fun v0 H0 e0 ⟨p0, ev0, hp0⟩ => ?_
  subst ev0
  refine ⟨p0, _, rfl, st_of hp0, rfl, _, _, rfl, _, _, rfl, _, _, rfl, rfl, ?_⟩
  dsimp only
  refine q_forR1 (n := (steps.length : Nat)) (ea_cons (by
    have z := ev_lenT (K := K) (σ := ((((start ["_law_place_here", "_law_mail", "_law_out", "_law_steps", "_law_total", "_law_here", "_law_begin", "_law_k", "_law_step", "_law_start", "_law_end", "_law_hour", "_law_late", "_law_goal", "_law_home", "_law_low", "_law_high"] [.ref t, .ref m, .ref o, .ref sa]).set 4 (some (.int 0))).set 5 (some .non)).set 6 (some .non))) (H := H0) (ev_var (i := 3) rfl) (st_of (e0 _ _ ps))
    rw [List.length_map, lb] at z
    exact z) ea_nil) (by omega) (fun i σ' H' => (∃ x s hv bv u7 u8 u9 u10 u11 u12 u13 u14 u15 u16, σ' = [some (.ref t), some (.ref m), some (.ref o), some (.ref sa), some (.int s), some hv, some bv, u7, u8, u9, u10, u11, u12, u13, u14, u15, u16] ∧ Led ⟨((t, m, o), W, run, lot), sa, steps, ca, ce, tot⟩ i x s hv bv) ∧ Ex H H')
    (fun H1 e1 => ⟨⟨ca, 0, .non, .non, _, _, _, _, _, _, _, _, _, _, rfl, ⟨by show NH.Chain _ ca (steps.drop 0) ce (tot - 0); rw [List.drop_zero, Int.sub_zero]; exact hch, Or.inl ⟨rfl, rfl, rfl⟩⟩⟩, e0.trans e1⟩) (fun i σ' H' hi ⟨⟨x, s, hv, bv, u7, u8, u9, u10, u11, u12, u13, u14, u15, u16, es, hd, hx⟩, e'⟩ => ?_) fun σ' H' ⟨⟨x, s, hv, bv, u7, u8, u9, u10, u11, u12, u13, u14, u15, u16, es, hd, hx⟩, e'⟩ => ?_
  · subst es
    have hi : i < steps.length := by omega
    have hd : NH.Chain (tiesOf W run lot) x (steps.drop i) ce (tot - s) := hd
    have edrop : steps.drop i = steps[i] :: steps.drop (i + 1) := List.drop_eq_getElem_cons hi
    rw [edrop] at hd
    obtain ⟨w, t', hmem, hd', et⟩ := chain_inv hd
    have hbi := List.getElem?_eq_getElem (show i < bs.length by omega)
    have pst := paired_get (F := IsStep H) psr hbi (List.getElem?_eq_getElem hi)
    have g1 : (bs.map V.ref)[i]? = some (.ref bs[i]) := by rw [List.getElem?_map, hbi]; rfl
    generalize bs[i] = b at pst g1
    generalize steps[i] = st at hmem hd' pst
    obtain ⟨ix, v⟩ := st
    have pst : H b = some (.tup [.int (ix : Nat), .str v]) := pst
    obtain ⟨l4, lo, hi', hk0, hrun, hbd, n1, n2, hcase⟩ := tie_is (k := 0) gr hmem
    rw [Nat.sub_zero] at hrun
    have hrun : run[ix]? = some l4 := hrun
    have hix := (List.getElem?_eq_some_iff.mp hrun).1
    have hai := List.getElem?_eq_getElem (show ix < as.length by omega)
    have pb4 := paired_get (F := IsT4 H) pr hai hrun
    have g2 : (as.map V.ref)[ix]? = some (.ref as[ix]) := by rw [List.getElem?_map, hai]; rfl
    generalize as[ix] = c4 at pb4 g2
    have pb4 : H c4 = some (.tup [.str l4.1, .str l4.2.1, .int l4.2.2.1, .int l4.2.2.2]) := pb4
    have hne4 : l4.1 ≠ l4.2.1 := (bnd_ends G hbd).2.2.1
    refine q_asg (v := .ref b) (ev_op (ev_var rfl) (ev_var rfl) (rv_ixT (st_of (e' _ _ ps)) (atI_nat g1))) fun H1 e1 => ?_
    have f1 := e'.trans e1
    refine q_when (b := false) (et_or (a := false) (et_not (a := true) (et_B (ev_isi (ev_var rfl) (ty_tup (f1 _ _ pst)) (show kitB "tuple" "tuple" = some true by decide +kernel)))) fun _ => et_is (et_test (ev_op (ev_lenT (ev_var rfl) (st_of (f1 _ _ pst))) ev_c (rv_ne rfl))) rfl) (fun z => by cases z) fun _ H2 e2 => ?_
    have f2 := f1.trans e2
    have st0 : ∀ {H3 : Hp} {σ : L2.St}, Ex H H3 → σ[8]? = some (some (.ref b)) → Ev (tOp (rIxT K) (tVar 8) (tC (.int 0))) σ H3 (.int (ix : Nat)) := fun e s => ev_op (ev_var s) ev_c (rv_ixT (st_of (e _ _ pst)) (atI_nat (j := 0) rfl))
    have st1 : ∀ {H3 : Hp} {σ : L2.St}, Ex H H3 → σ[8]? = some (some (.ref b)) → Ev (tOp (rIxT K) (tVar 8) (tC (.int 1))) σ H3 (.str v) := fun e s => ev_op (ev_var s) ev_c (rv_ixT (st_of (e _ _ pst)) (atI_nat (j := 1) rfl))
    refine q_when (b := false) (et_or (a := false) (et_not (a := true) (et_B (ev_isi (st0 f2 rfl) ty_int (show kitB "int" "int" = some true by decide +kernel)))) fun _ => et_B (ev_isi (st0 f2 rfl) ty_int (show kitB "int" "bool" = some false by decide +kernel))) (fun z => by cases z) fun _ H3 e3 => ?_
    have f3 := f2.trans e3
    refine q_when (b := false) (et_or (a := false) (et_is (et_test (ev_op (st0 f3 rfl) ev_c rv_I0)) (decide_eq_false (show ¬ ((ix : Nat) : Int) < 0 by omega))) fun _ => et_or (a := false) (et_is (et_test (ev_op (st0 f3 rfl) (lenm f3 rfl) rv_I0)) (decide_eq_false (show ¬ (run.length : Int) ≤ ((ix : Nat) : Int) by omega))) fun _ =>
      et_not (a := true) (et_B (ev_isi (st1 f3 rfl) ty_str (show kitB "str" "str" = some true by decide +kernel)))) (fun z => by cases z) fun _ H4 e4 => ?_
    have f4 := f3.trans e4
    refine ev_op (ev_var (i := 1) rfl) (st0 f4 rfl) (rv_ixT (K := K) (st_of (f4 _ _ pz)) (atI_nat g2)) H4 (Ex.refl _) _ fun H5 e5 => ?_
    have f5 := f4.trans e5
    refine ⟨c4, _, rfl, st_of (f5 _ _ pb4), rfl, _, _, rfl, _, _, rfl, _, _, rfl, _, _, rfl, rfl, ?_⟩
    dsimp only
    have vin : inV (.str v) [.str l4.1, .str l4.2.1] = true := by
      have z : inV (.str v) ([l4.1, l4.2.1].map V.str) = true := in_strs.mpr (by
        rcases hcase with ⟨_, z, _⟩ | ⟨_, z, _⟩
        · have z : v = l4.2.1 := z
          rw [z]; simp
        · have z : v = l4.1 := z
          rw [z]; simp)
      exact z
    refine q_when (b := false) (et_or (a := false) (et_is (et_test (ev_op (ev_var rfl) (ev_var rfl) (rv_isT (st_of (f5 _ _ pl)) rfl flat_strs))) (by rw [inV_strs]; exact decide_eq_false n1)) fun _ => et_or (a := false) (et_is (et_test (ev_op (ev_var rfl) (ev_var rfl) (rv_isT (st_of (f5 _ _ pl)) rfl flat_strs))) (by rw [inV_strs]; exact decide_eq_false n2)) fun _ =>
      et_is (et_test (ev_niU (st1 f5 rfl) (eu_tup (ea_cons (ev_var rfl) (ea_cons (ev_var rfl) ea_nil)) (sz_of' (Nat.le_of_ble_eq_true rfl))) rfl rfl)) (by rw [vin]; rfl)) (fun z => by cases z) fun _ H6 e6 => ?_
    have f6 := f5.trans e6
    have hx1 : x = l4.1 ∧ v = l4.2.1 ∧ w = l4.2.2.2 - l4.2.2.1 - lo ∨ x = l4.2.1 ∧ v = l4.1 ∧ w = hi' - l4.2.2.2 + l4.2.2.1 := hcase
    refine q_par (R1 := fun z _ => z = .str v) (R3 := fun z _ => z = .str x) (er_of (st1 f6 rfl)) (fun _ _ _ _ z => z) (er_of (ev_if (b := decide (v = l4.2.1)) (et_is (et_test (ev_op (st1 f6 rfl) (ev_var rfl) (rv_eq rfl))) (decide_eq_decide.mpr ⟨fun z => V.str.inj z, fun z => congrArg V.str z⟩)) (fun z => ev_is (ev_var rfl) ?_) fun z => ev_is (ev_var rfl) ?_)) fun z1 z2 H7 e7 hz1 hz2 => ?_
    · have z := of_decide_eq_true z
      rcases hx1 with ⟨h1, _, _⟩ | ⟨_, h2, _⟩
      · rw [h1]
      · exact (hne4 (h2.symm.trans z)).elim
    · have z := of_decide_eq_false z
      rcases hx1 with ⟨_, h2, _⟩ | ⟨h1, _, _⟩
      · exact (z h2).elim
      · rw [h1]
    subst hz1 hz2
    have f7 := f6.trans e7
    refine er_call (R := fun v H2 => ∃ p, v = .ref p ∧ H2 p = some (.tup [.int lo, .int hi'])) (ea_cons (ev_var rfl) (ea_cons (ev_var rfl) (ea_cons (ev_var rfl) ea_nil))) (fun H8 e8 Q q E => ⟨(t, W, (l4.1, l4.2.1), lo, hi'), rfl, ⟨pt.tx (Tx.of (f7.trans e8)), G, hbd⟩, q⟩) H7 (Ex.refl _) _ fun v8 H8 e8 hv8 => ?_
    obtain ⟨bt, ebt, hbp⟩ := hv8
    subst ebt
    refine ⟨bt, _, rfl, st_of hbp, rfl, _, _, rfl, _, _, rfl, rfl, ?_⟩
    dsimp only
    have f8 := f7.trans e8
    refine q_when (b := false) (et_is (et_and (a := decide (0 < i)) (b := false) (et_is (et_test (ev_op (ev_var rfl) ev_c rv_I0)) (decide_eq_decide.mpr (show (0 : Int) < ((i : Nat) : Int) ↔ 0 < i by omega))) fun z => ?_) (by rw [Bool.and_false])) (fun z => by cases z) fun _ H9 e9 => ?_
    · have z : 0 < i := of_decide_eq_true z
      rcases hx with ⟨h1, _⟩ | ⟨_, h2, _⟩
      · have h1 : i = 0 := h1
        omega
      · subst h2
        exact et_is (et_test (ev_op (ev_var rfl) (ev_var rfl) (rv_ne rfl))) (by rw [decide_eq_true rfl]; rfl)
    have f9 := f8.trans e9
    refine q_asg (v := .int (s + w)) (ev_op (ev_var rfl) (ev_if (v := .int w) (b := decide (v = l4.2.1)) (et_is (et_test (ev_op (ev_var rfl) (ev_var rfl) (rv_eq rfl))) (decide_eq_decide.mpr ⟨fun z => V.str.inj z, fun z => congrArg V.str z⟩)) (fun z => ev_is (ev_op (ev_op (ev_var rfl) (ev_var rfl) rv_I0) (ev_var rfl) rv_I0) ?_) fun z => ev_is (ev_op (ev_op (ev_var rfl) (ev_var rfl) rv_I0) (ev_var rfl) rv_I0) ?_) rv_I0) fun H10 e10 => ?_
    · have z := of_decide_eq_true z
      rcases hx1 with ⟨_, _, h3⟩ | ⟨_, h2, _⟩
      · rw [h3]
      · exact (hne4 (h2.symm.trans z)).elim
    · have z := of_decide_eq_false z
      rcases hx1 with ⟨_, h2, _⟩ | ⟨_, _, h3⟩
      · exact (z h2).elim
      · rw [h3]
    have f10 := f9.trans e10
    refine er_of (ev_if (v := .str ca) (b := decide (i = 0)) (et_is (et_test (ev_op (ev_var rfl) ev_c (rv_eq rfl))) (decide_eq_decide.mpr ⟨fun z => by have := V.int.inj z; omega, fun z => by subst z; rfl⟩)) (fun z => ev_is (ev_var rfl) ?_) fun z => ev_is (ev_var rfl) ?_) H10 (Ex.refl _) _ fun v11 H11 e11 hv11 => ev_var (i := 13) rfl H11 (Ex.refl _) _ fun H12 e12 => ⟨_, _, rfl, ?_⟩
    · have z : i = 0 := of_decide_eq_true z
      rcases hx with ⟨_, h2, _⟩ | ⟨h1, _⟩
      · have h2 : x = ca := h2
        rw [h2]
      · have h1 : 0 < i := h1
        omega
    · have z : ¬ i = 0 := of_decide_eq_false z
      rcases hx with ⟨h1, _⟩ | ⟨_, _, h3⟩
      · exact (z h1).elim
      · exact h3
    subst hv11
    refine ⟨⟨v, s + w, .str v, .str ca, _, _, _, _, _, _, _, _, _, _, rfl, ?_, Or.inr ⟨Nat.succ_pos _, rfl, rfl⟩⟩, (f10.trans e11).trans e12⟩
    show NH.Chain (tiesOf W run lot) v (steps.drop (i + 1)) ce (tot - (s + w))
    rw [show tot - (s + w) = t' by omega]
    exact hd'
  · subst es
    have ek : ((steps.length : Nat) : Int).toNat = steps.length := rfl
    rw [ek] at hd hx
    have hd : NH.Chain (tiesOf W run lot) x (steps.drop steps.length) ce (tot - s) := hd
    rw [List.drop_length] at hd
    obtain ⟨ex, es0⟩ := chain_nil hd
    have lp := List.length_pos_iff.mpr hne
    rcases hx with ⟨h1, _⟩ | ⟨_, h2, h3⟩
    · have h1 : steps.length = 0 := h1
      omega
    · subst h2 ex
      have h3 : bv = .str ca := h3
      subst h3
      have es1 : s = tot := by omega
      subst es1
      exact s_retR (D := { nx := fun _ H' => Q .non H', rt := Q }) (er_tup (ea_cons ev_c (ea_cons (ev_var rfl) (ea_cons (ev_var rfl) (ea_cons (ev_var rfl) ea_nil)))) (Nat.le_of_ble_eq_true rfl)) fun v H4 e4 hv => q v H4 (e'.trans e4) hv
theorem sc_is_towers : FnScope ["thing"] ["thing"] (defScope s_is_towers) := ⟨rfl, rfl, rfl, by decide +kernel, rfl, by decide +kernel, by decide +kernel⟩
theorem c_is_towers (T : Top K mg) : ∃ f fd, Cal P w K mg base 3 "is_towers" ["thing"] sp_is_towers f fd := by
  obtain ⟨_, _, C_are_names⟩ := c_are_names (P := P) (w := w) (base := base) T
  refine cal_mk (k := 2) (i := 6) (st := s_is_towers) T rfl sc_is_towers (fun _ _ _ _ _ _ us hl => match us, hl with | [_], _ => rfl) (fun vs H Q E h => ?_) (fun {f cdv A outer s H vs Q E} hr h => ?_)
  · obtain ⟨_, rfl, _⟩ := h
    rfl
  have hu := hu_of hr
  refine ⟨_, (pss_one (ps_ret (pe_and (pe_call C_are_names.ok (hr.mono (by decide)) (by rfl) C_are_names.mg C_are_names.kp C_are_names.bd .nil pass0 (pa_cons (pv 0) pa_nil)) (pe_one (pe_cmpR op_gt (pe_callB call_len_seq (by rfl) T.b_len boot_len (pa_cons (pv 0) pa_nil)) pe_int (nomark _)))))), ?_⟩
  obtain ⟨⟨a, xs⟩, rfl, ⟨p, g, ne⟩, q⟩ := h
  have p : H a = some (.tup (xs.map V.str)) := p
  have ne : xs ≠ [] := ne
  refine s_ret (ev_andV (ev_callV (ea_cons (ev_var rfl) ea_nil) fun H1 e1 Q q E => ⟨(a, xs), rfl, ⟨e1 _ _ p, g⟩, q⟩) fun _ => ev_op (ev_lenT (ev_var rfl) (st_of p)) ev_c rv_I0) fun H1 e1 => ?_
  have d : decide ((0 : Int) < ((xs.map V.str).length : Int)) = true := decide_eq_true (by
    rw [List.length_map]
    have := List.length_pos_iff.mpr ne
    omega)
  show Q (.bl (true && decide ((0 : Int) < ((xs.map V.str).length : Int)))) H1
  rw [d]
  exact q H1 e1
theorem sc_clash_by : FnScope ["town", "run", "lot", "towers", "least", "last", "here"] ["town", "run", "lot"] (defScope s_clash_by) := ⟨rfl, rfl, rfl, by decide +kernel, rfl, by decide +kernel, by decide +kernel⟩
theorem c_clash_by (T : Top K mg) : ∃ f fd, Cal P w K mg base 3 "clash_by" ["town", "run", "lot"] sp_clash_by f fd := by
  obtain ⟨_, _, C_all_noughts⟩ := c_all_noughts (P := P) (w := w) (base := base) T
  obtain ⟨_, _, C_outside_by⟩ := c_outside_by (P := P) (w := w) (base := base) T
  obtain ⟨_, _, C_ring_back⟩ := c_ring_back (P := P) (w := w) (base := base) T
  obtain ⟨_, _, C_settled_by⟩ := c_settled_by (P := P) (w := w) (base := base) T
  obtain ⟨_, _, C_ties_by⟩ := c_ties_by (P := P) (w := w) (base := base) T
  refine cal_mk (k := 2) (i := 14) (st := s_clash_by) T rfl sc_clash_by (fun _ _ _ _ _ _ us hl => match us, hl with | [_, _, _], _ => rfl) (fun vs H Q E h => ?_) (fun {f cdv A outer s H vs Q E} hr h => ?_)
  · obtain ⟨_, rfl, _⟩ := h
    rfl
  have hu := hu_of hr
  refine ⟨_, (pss_cons (ps_set (i := 3) sc_clash_by.nd rfl (Or.inl rfl) (pe_call C_outside_by.ok (hr.mono (by decide)) (by rfl) C_outside_by.mg C_outside_by.kp C_outside_by.bd .nil pass0 (pa_cons (pv 0) (pa_cons (pv 2) pa_nil))))
        (pss_cons (ps_asg (pe_call C_settled_by.ok (hr.mono (by decide)) (by rfl) C_settled_by.mg C_settled_by.kp C_settled_by.bd .nil pass0 (pa_cons (pe_call C_ties_by.ok (hr.mono (by decide)) (by rfl) C_ties_by.mg C_ties_by.kp C_ties_by.bd .nil pass0 (pa_cons (pv 0) (pa_cons (pv 1) (pa_cons (pv 2) pa_nil)))) (pa_cons (pe_call C_all_noughts.ok (hr.mono (by decide)) (by rfl) C_all_noughts.mg C_all_noughts.kp C_all_noughts.bd .nil pass0 (pa_cons (pv 3) pa_nil)) (pa_cons (pe_op op_add (pe_callB call_len_seq (by rfl) T.b_len boot_len (pa_cons (pv 3) pa_nil)) pe_int) pa_nil)))) (pg_tup rfl (pgs_cons (pg_name (i := 4) sc_clash_by.nd rfl (Or.inl rfl)) (pgs_cons (pg_name (i := 5) sc_clash_by.nd rfl (Or.inl rfl)) (pgs_cons (pg_name (i := 6) sc_clash_by.nd rfl (Or.inl rfl)) pgs_nil)))))
        (pss_one (ps_ret (pe_ifExp (pt_cmpR op_isN (pv 6) pe_non (nomark _)) pe_non (pe_call C_ring_back.ok (hr.mono (by decide)) (by rfl) C_ring_back.mg C_ring_back.kp C_ring_back.bd .nil pass0 (pa_cons (pv 5) (pa_cons (pv 6) (pa_cons (pe_op op_add (pe_callB call_len_seq (by rfl) T.b_len boot_len (pa_cons (pv 3) pa_nil)) pe_int) pa_nil))))))))), ?_⟩
  obtain ⟨⟨⟨t, r, l⟩, W, run, lot⟩, rfl, k0, q⟩ := h
  have pt : IsTown H t W := k0.town
  have pl : IsTs H l lot := k0.lot
  have G : GoodTown W := k0.gt
  have gr : ∀ l ∈ run, ∃ p, bnd W.wires l.1 l.2.1 = some p := k0.gr.1
  have g5 := G.nms.len
  have nd := outs_nd G (lot := lot)
  have lv : (outs W lot).length ≤ 5 := Nat.le_trans (List.length_filter_le ..) g5
  have ends := tie_ends G (lot := lot) (k := 0) gr
  have hne : ∀ t ∈ tiesOf W run lot, t.one ≠ t.other := fun t ht => (ends t ht).2.2
  have hV : ∀ t ∈ tiesOf W run lot, t.one ∈ outs W lot ∧ t.other ∈ outs W lot := fun t ht => ⟨(ends t ht).1, (ends t ht).2.1⟩
  refine q_asgR (R := fun v H2 => ∃ p, v = .ref p ∧ IsTs H2 p (outs W lot)) (er_call (ea_cons (ev_var rfl) (ea_cons (ev_var rfl) ea_nil)) fun H1 e1 Q q E => ⟨((t, l), W, lot), rfl, ⟨pt.tx (Tx.of e1), pl.tx (Tx.of e1), g5⟩, q⟩) fun v H1 e1 hv => ?_
  obtain ⟨pv, ev, hv⟩ := hv
  subst ev
  have lenv : ∀ {H2 : Hp} {σ : L2.St}, Ex H1 H2 → σ[3]? = some (some (.ref pv)) → Ev (tOp (rI0 fun i j => .int (i + j)) (tCB (rLenS K) (tCons (tVar 3) tNil)) (tC (.int 1))) σ H2 (.int (((outs W lot).length : Int) + 1)) := fun {H2 σ} e s => by
    have z := ev_lenT (K := K) (σ := σ) (H := H2) (ev_var (i := 3) s) (st_of (e _ _ hv))
    rw [List.length_map] at z
    exact ev_op z ev_c rv_I0
  let sd : Addr → Addr → SD := fun a b => ((a, b), tiesOf W run lot, outs W lot, (outs W lot).length)
  refine er_callA (R := fun v H2 => ∃ a b, RSettled (sd a b) v H2) (ear_cons (er_call (R := RTies ((t, r, l), W, run, lot)) (ea_cons (ev_var rfl) (ea_cons (ev_var rfl) (ea_cons (ev_var rfl) ea_nil))) fun H2 e2 Q q E => ⟨((t, r, l), W, run, lot), rfl, k0.tx (Tx.of (e1.trans e2)), q⟩)
    (fun v Ha Hb e ⟨p, z1, z2⟩ => ⟨p, z1, z2.ex (fun _ _ z => z.tx (Tx.of e)) e⟩)
    (ear_cons (R1 := fun v H2 => ∃ p, v = .ref p ∧ H2 p = some (.dK (lpairs (outs W lot) fun _ => 0))) (er_call (ea_cons (ev_var rfl) ea_nil) fun H2 e2 Q q E => ⟨(pv, outs W lot), rfl, ⟨e2 _ _ hv, nd, lv⟩, q⟩) (fun _ _ _ e ⟨p, z1, z2⟩ => ⟨p, z1, e _ _ z2⟩)
      (ear_v (lenv (Ex.refl _) rfl) ear_nil)))
    (fun vs H2 e2 ⟨v1, w1, ew1, ⟨p1, ep1, h1⟩, v2, w2, ew2, ⟨p2, ep2, h2⟩, w3, ew3, ew4⟩ Q qq E => ?_) H1 (Ex.refl _) _ fun v H2 e2 hs => ?_
  · obtain ⟨a0, b0, p, a, b, z, j, ev, hp, hL, hP, j1, hz⟩ := hs
    subst ev
    have e02 := e1.trans e2
    refine ⟨p, _, rfl, st_of hp, rfl, _, _, rfl, _, _, rfl, _, _, rfl, rfl, ?_⟩
    dsimp only
    rcases hz with ⟨hn, ez⟩ | ⟨h, hh, ez, ej⟩
    · subst ez
      refine s_retR (R := RClash ((t, r, l), W, run, lot)) (er_if (b := true) (et_test (ev_op (ev_var rfl) ev_c fun H5 _ Q q => ⟨rfl, q H5 (Ex.refl _)⟩)) (fun _ => er_imp (er_of ev_c) fun v H5 _ ez => Or.inl ⟨ez, (NH.laps (tiesOf W run lot) j).L, ?_⟩) fun z => by cases z) fun v H3 e3 hr => q v H3 (e02.trans e3) hr
      obtain ⟨j', rfl⟩ : ∃ j', j = j' + 1 := ⟨j - 1, by omega⟩
      exact NH.settled hne hn
    · subst ez
      have ej : j = (outs W lot).length + 1 := ej
      subst ej
      obtain ⟨back, d, d1, d2, round⟩ := NH.comes_round hne hV hh
      let rd : RD := ⟨b, outs W lot, (NH.laps (tiesOf W run lot) ((outs W lot).length + 1)).P, h, (outs W lot).length + 1, d⟩
      refine s_retR (R := RClash ((t, r, l), W, run, lot)) (er_if (b := false) (et_test (ev_op (ev_var rfl) ev_c fun H5 _ Q q => ⟨rfl, q H5 (Ex.refl _)⟩)) (fun z => by cases z) fun _ => er_imp (er_call (R := RRing rd) (ea_cons (ev_var rfl) (ea_cons (ev_var rfl) (ea_cons (lenv e2 rfl) ea_nil))) fun H3 e3 Q q E => ⟨rd, rfl, ⟨hP.ex e3, back, d1, by show d ≤ 10; omega, by show (outs W lot).length + 1 ≤ 10; omega, round⟩, q⟩) fun v H5 e5 hr => ?_) fun v H3 e3 hr => q v H3 (e02.trans e3) hr
      obtain ⟨p5, n, ev, hst, n1, n10, hround⟩ := hr
      obtain ⟨s, hs, hc⟩ := NH.ring_of hne n1 hround fun j => by
        have z := back (rd.m + j)
        rw [NH.it_add] at z
        exact z
      exact Or.inr ⟨p5, _, rd.a, s, ev, hst, down_ne n1, by rw [down_len]; exact n10, hc, hs⟩
  · subst ew1 ep1 ew2 ep2 ew3 ew4
    exact ⟨sd p1 p2, rfl, ⟨h1, h2, nd, hV, lv, by show (outs W lot).length ≤ 10; omega⟩, fun v H3 e3 hr => qq v H3 e3 ⟨p1, p2, hr⟩⟩
theorem sc_is_wire_for : FnScope ["towers", "thing"] ["towers", "thing"] (defScope s_is_wire_for) := ⟨rfl, rfl, rfl, by decide +kernel, rfl, by decide +kernel, by decide +kernel⟩
theorem c_is_wire_for (T : Top K mg) : ∃ f fd, Cal P w K mg base 3 "is_wire_for" ["towers", "thing"] sp_is_wire_for f fd := by
  obtain ⟨_, _, C_are_integers⟩ := c_are_integers (P := P) (w := w) (base := base) T
  obtain ⟨_, _, C_is_tuple_of⟩ := c_is_tuple_of (P := P) (w := w) (base := base) T
  refine cal_mk (k := 2) (i := 16) (st := s_is_wire_for) T rfl sc_is_wire_for (fun _ _ _ _ _ _ us hl => match us, hl with | [_, _], _ => rfl) (fun vs H Q E h => ?_) (fun {f cdv A outer s H vs Q E} hr h => ?_)
  · obtain ⟨_, rfl, _⟩ := h
    rfl
  have hu := hu_of hr
  refine ⟨_, (pss_cons (ps_if (PW.pt (pw_or (pt_not (pt_val (pe_call C_is_tuple_of.ok (hr.mono (by decide)) (by rfl) C_is_tuple_of.mg C_is_tuple_of.kp C_is_tuple_of.bd .nil pass0 (pa_cons (pv 1) (pa_cons pe_int pa_nil))))) (pw_or1 (pt_not (pt_val (pe_call C_are_integers.ok (hr.mono (by decide)) (by rfl) C_are_integers.mg C_are_integers.kp C_are_integers.bd .nil pass0 (pa_cons (pe_slice sl_tupA (pv 1) (po_some pe_int) po_none) (pa_cons pe_int pa_nil)))))))) 
          (pss_one (ps_ret pe_bl)) pss_nil)
        (pss_cons (ps_if (PW.pt (pw_or (pt_not (pt_val (pe_callB call_isi (by rfl) T.b_isinstance boot_isinstance (pa_cons (pe_ix ix_tup (pv 1) pe_int (fun _ _ => rfl)) (pa_cons (pe_bltn (v := .ty "str") (by rfl) T.b_str boot_str rfl) pa_nil))))) (pw_or1 (pt_not (pt_val (pe_callB call_isi (by rfl) T.b_isinstance boot_isinstance (pa_cons (pe_ix ix_tup (pv 1) pe_int (fun _ _ => rfl)) (pa_cons (pe_bltn (v := .ty "str") (by rfl) T.b_str boot_str rfl) pa_nil)))))))) 
          (pss_one (ps_ret pe_bl)) pss_nil)
        (pss_one (ps_ret (pe_and (pe_cmpR op_in_seq (pe_ix ix_tup (pv 1) pe_int (fun _ _ => rfl)) (pv 0) (by rfl)) (pe_and (pe_cmpR op_in_seq (pe_ix ix_tup (pv 1) pe_int (fun _ _ => rfl)) (pv 0) (by rfl)) (pe_one (pe_cmpR op_lt_str (pe_ix ix_tup (pv 1) pe_int (fun _ _ => rfl)) (pe_ix ix_tup (pv 1) pe_int (fun _ _ => rfl)) (nomark _))))))))), ?_⟩
  obtain ⟨⟨⟨a, b⟩, names, w4⟩, rfl, ⟨pa, pb, m1, m2, hlt⟩, q⟩ := h
  have pa : H a = some (.tup (names.map V.str)) := pa
  have pb : H b = some (.tup [.str w4.1, .str w4.2.1, .int w4.2.2.1, .int w4.2.2.2]) := pb
  have m1 : w4.1 ∈ names := m1
  have m2 : w4.2.1 ∈ names := m2
  have hlt : lt w4.1 w4.2.1 := hlt
  refine q_when (b := false) (et_or (a := false) (et_not (a := true) (et_B (ev_callV (ea_cons (ev_var rfl) (ea_cons ev_c ea_nil)) fun H1 e1 Q q E => ⟨(b, _, 4), rfl, ⟨e1 _ _ pb, rfl⟩, q⟩))) fun _ =>
    et_not (a := true) (et_B (ev_callA (ear_cons (er_slT (ev_var rfl) (eo_some ev_c) eo_none pb) tupAt_ex (ear_v ev_c ear_nil)) fun vs H1 e1 ⟨v, ws, ev, ⟨p, ep, hp⟩, ws2, ew, en⟩ Q q E => ?_))) (fun z => by cases z) fun _ H1 e1 => ?_
  · subst ev ep ew en
    exact ⟨(p, w4.2.2.1, w4.2.2.2), rfl, hp, q⟩
  · refine q_when (b := false) (et_or (a := false) (et_not (a := true) (et_B (ev_isi (ev_op (ev_var rfl) ev_c (rv_ixT (st_of (e1 _ _ pb)) (atI_nat (j := 0) rfl))) ty_str (show kitB "str" "str" = some true by decide +kernel)))) fun _ =>
      et_not (a := true) (et_B (ev_isi (ev_op (ev_var rfl) ev_c (rv_ixT (st_of (e1 _ _ pb)) (atI_nat (j := 1) rfl))) ty_str (show kitB "str" "str" = some true by decide +kernel)))) (fun z => by cases z) fun _ H2 e2 => ?_
    have e12 := e1.trans e2
    refine s_ret (ev_andV (ev_op (ev_op (ev_var rfl) ev_c (rv_ixT (st_of (e12 _ _ pb)) (atI_nat (j := 0) rfl))) (ev_var rfl) (rv_isT (st_of (e12 _ _ pa)) rfl flat_strs)) fun _ =>
      ev_andV (ev_op (ev_op (ev_var rfl) ev_c (rv_ixT (st_of (e12 _ _ pb)) (atI_nat (j := 1) rfl))) (ev_var rfl) (rv_isT (st_of (e12 _ _ pa)) rfl flat_strs)) fun _ =>
      ev_op (z := .bl true) (ev_op (ev_var rfl) ev_c (rv_ixT (st_of (e12 _ _ pb)) (atI_nat (j := 0) rfl))) (ev_op (ev_var rfl) ev_c (rv_ixT (st_of (e12 _ _ pb)) (atI_nat (j := 1) rfl))) fun H4 _ Q q => ⟨w4.1, w4.2.1, rfl, rfl, by
        rw [decide_eq_true (show w4.1.cps.toList < w4.2.1.cps.toList from hlt)]
        exact q H4 (Ex.refl _)⟩) fun H3 e3 => ?_
    rw [in_strs.mpr m1, in_strs.mpr m2]
    exact q H3 (e12.trans e3)
theorem sc_letter_fault : FnScope ["town", "thing", "one", "other", "sent", "heard"] ["town", "thing"] (defScope s_letter_fault) := ⟨rfl, rfl, rfl, by decide +kernel, rfl, by decide +kernel, by decide +kernel⟩
theorem c_letter_fault (T : Top K mg) : ∃ f fd, Cal P w K mg base 3 "letter_fault" ["town", "thing"] sp_letter_fault f fd := by
  obtain ⟨_, _, C_are_integers⟩ := c_are_integers (P := P) (w := w) (base := base) T
  obtain ⟨_, _, C_bounds_in⟩ := c_bounds_in (P := P) (w := w) (base := base) T
  obtain ⟨_, _, C_is_tower_of⟩ := c_is_tower_of (P := P) (w := w) (base := base) T
  obtain ⟨_, _, C_is_tuple_of⟩ := c_is_tuple_of (P := P) (w := w) (base := base) T
  refine cal_mk (k := 2) (i := 21) (st := s_letter_fault) T rfl sc_letter_fault (fun _ _ _ _ _ _ us hl => match us, hl with | [_, _], _ => rfl) (fun vs H Q E h => ?_) (fun {f cdv A outer s H vs Q E} hr h => ?_)
  · obtain ⟨_, rfl, _⟩ := h
    rfl
  have hu := hu_of hr
  refine ⟨_, (pss_cons (ps_if (pt_not (pt_val (pe_call C_is_tuple_of.ok (hr.mono (by decide)) (by rfl) C_is_tuple_of.mg C_is_tuple_of.kp C_is_tuple_of.bd .nil pass0 (pa_cons (pv 1) (pa_cons pe_int pa_nil))))) 
          (pss_one (ps_ret pe_str)) pss_nil)
        (pss_cons (ps_asg (pv 1) (pg_tup rfl (pgs_cons (pg_name (i := 2) sc_letter_fault.nd rfl (Or.inl rfl)) (pgs_cons (pg_name (i := 3) sc_letter_fault.nd rfl (Or.inl rfl)) (pgs_cons (pg_name (i := 4) sc_letter_fault.nd rfl (Or.inl rfl)) (pgs_cons (pg_name (i := 5) sc_letter_fault.nd rfl (Or.inl rfl)) pgs_nil))))))
        (pss_cons (ps_if (PW.pt (pw_or (pt_not (pt_val (pe_call C_is_tower_of.ok (hr.mono (by decide)) (by rfl) C_is_tower_of.mg C_is_tower_of.kp C_is_tower_of.bd .nil pass0 (pa_cons (pv 0) (pa_cons (pv 2) pa_nil))))) (pw_or1 (pt_not (pt_val (pe_call C_is_tower_of.ok (hr.mono (by decide)) (by rfl) C_is_tower_of.mg C_is_tower_of.kp C_is_tower_of.bd .nil pass0 (pa_cons (pv 0) (pa_cons (pv 3) pa_nil)))))))) 
          (pss_one (ps_ret pe_str)) pss_nil)
        (pss_cons (ps_if (PW.pt (pw_or (pt_cmpR op_eq (pv 2) (pv 3) (nomark _)) (pw_or1 (pt_cmpR op_isN (pe_call C_bounds_in.ok (hr.mono (by decide)) (by rfl) C_bounds_in.mg C_bounds_in.kp C_bounds_in.bd .nil pass0 (pa_cons (pv 0) (pa_cons (pv 2) (pa_cons (pv 3) pa_nil)))) pe_non (nomark _))))) 
          (pss_one (ps_ret pe_str)) pss_nil)
        (pss_one (ps_ret (pe_ifExp (pt_val (pe_call C_are_integers.ok (hr.mono (by decide)) (by rfl) C_are_integers.mg C_are_integers.kp C_are_integers.bd .nil pass0 (pa_cons (pe_tup (pa_cons (pv 4) (pa_cons (pv 5) pa_nil))) (pa_cons pe_int pa_nil)))) pe_non pe_str))))))), ?_⟩
  obtain ⟨⟨⟨t, b⟩, W, l4⟩, rfl, ⟨pt, G, pb, bp, hb⟩, q⟩ := h
  have pt : IsTown H t W := pt
  have G : GoodTown W := G
  have pb : H b = some (.tup [.str l4.1, .str l4.2.1, .int l4.2.2.1, .int l4.2.2.2]) := pb
  have hb : bnd W.wires l4.1 l4.2.1 = some bp := hb
  obtain ⟨m1, m2, hne, _⟩ := bnd_ends G hb
  refine q_when (b := false) (et_not (a := true) (et_B (ev_callV (ea_cons (ev_var rfl) (ea_cons ev_c ea_nil)) fun H1 e1 Q q E => ⟨(b, _, 4), rfl, ⟨e1 _ _ pb, rfl⟩, q⟩))) (fun z => by cases z) fun _ H1 e1 => ?_
  refine ⟨_, rfl, b, _, rfl, st_of (e1 _ _ pb), rfl, _, _, rfl, _, _, rfl, _, _, rfl, _, _, rfl, rfl, ?_⟩
  refine q_when (b := false) (et_or (a := false) (et_not (a := true) (et_B (ev_callV (ea_cons (ev_var rfl) (ea_cons (ev_var rfl) ea_nil)) fun H2 e2 Q q E => ⟨(t, W, l4.1), rfl, ⟨pt.tx (Tx.of (e1.trans e2)), m1⟩, q⟩))) fun _ =>
    et_not (a := true) (et_B (ev_callV (ea_cons (ev_var rfl) (ea_cons (ev_var rfl) ea_nil)) fun H2 e2 Q q E => ⟨(t, W, l4.2.1), rfl, ⟨pt.tx (Tx.of (e1.trans e2)), m2⟩, q⟩))) (fun z => by cases z) fun _ H2 e2 => ?_
  have e12 := e1.trans e2
  refine q_when (b := false) (et_or (a := false) (et_is (et_test (ev_op (ev_var rfl) (ev_var rfl) (rv_eq rfl))) (decide_eq_false fun z => hne (V.str.inj z))) fun _ => et_test (fun H3 e3 Q k => ?_)) (fun z => by cases z) fun _ H3 e3 => ?_
  · refine er_call (R := fun v _ => ∃ p, v = .ref p) (ea_cons (ev_var rfl) (ea_cons (ev_var rfl) (ea_cons (ev_var rfl) ea_nil))) (fun H4 e4 Q q E => ⟨(t, W, l4.1, l4.2.1), rfl, ⟨pt.tx (Tx.of (e12.trans e4)), G, _, hb⟩, q⟩) H3 e3 _ fun v H4 e4 hv => ?_
    obtain ⟨p, rfl⟩ := hv
    exact ⟨rfl, k H4 e4⟩
  · have e13 := e12.trans e3
    refine s_ret (v := .non) (ev_if (b := true) (et_B (ev_callA (ear_cons (er_tup (ea_cons (ev_var rfl) (ea_cons (ev_var rfl) ea_nil)) (Nat.le_of_ble_eq_true rfl)) tupAt_ex (ear_v ev_c ear_nil)) fun vs H4 e4 ⟨v, ws, ev, ⟨p, ep, hp⟩, ws2, ew, en⟩ Q q E => ?_)) (fun _ => ev_c) fun z => by cases z) fun H4 e4 => q H4 (e13.trans e4)
    subst ev ep ew en
    exact ⟨(p, l4.2.2.1, l4.2.2.2), rfl, hp, q⟩
theorem sc_is_lot : FnScope ["town", "thing", "one"] ["town", "thing"] (defScope s_is_lot) := ⟨rfl, rfl, rfl, by decide +kernel, rfl, by decide +kernel, by decide +kernel⟩
theorem c_is_lot (T : Top K mg) : ∃ f fd, Cal P w K mg base 3 "is_lot" ["town", "thing"] sp_is_lot f fd := by
  obtain ⟨_, _, C_are_names⟩ := c_are_names (P := P) (w := w) (base := base) T
  obtain ⟨_, _, C_is_tower_of⟩ := c_is_tower_of (P := P) (w := w) (base := base) T
  refine cal_mk (k := 2) (i := 26) (st := s_is_lot) T rfl sc_is_lot (fun _ _ _ _ _ _ us hl => match us, hl with | [_, _], _ => rfl) (fun vs H Q E h => ?_) (fun {f cdv A outer s H vs Q E} hr h => ?_)
  · obtain ⟨_, rfl, _⟩ := h
    rfl
  have hu := hu_of hr
  refine ⟨_, (pss_one (ps_ret (pe_and (pe_call C_are_names.ok (hr.mono (by decide)) (by rfl) C_are_names.mg C_are_names.kp C_are_names.bd .nil pass0 (pa_cons (pv 1) pa_nil)) (pe_one (pe_callB (cr_all rfl) (by rfl) T.b_all boot_all (pa_cons (pe_lc (own := [("one", 2)]) (g := (gName 2)) rfl sc_is_lot.nd (pi_tup (pv 1)) (blkOk_by (own := [("one", 2)]) (N := ["town", "thing", "one"]) (sc := defScope s_is_lot) (by decide +kernel)) (fun _ _ _ _ _ => (pg_name (i := 2) sc_is_lot.nd rfl (Or.inl rfl))) (fun _ _ _ _ _ => pts_nil) (fun _ _ _ _ _ => (pe_call C_is_tower_of.ok (hr.mono (by decide)) (by rfl) C_is_tower_of.mg C_is_tower_of.kp C_is_tower_of.bd .nil pass0 (pa_cons (pv 0) (pa_cons (pv 2) pa_nil))))) pa_nil)))))), ?_⟩
  obtain ⟨⟨⟨t, l⟩, W, lot⟩, rfl, ⟨pt, G, pl, gl⟩, q⟩ := h
  have pt : IsTown H t W := pt
  have G : GoodTown W := G
  have pl : H l = some (.tup (lot.map V.str)) := pl
  have gl : GoodLot W lot := gl
  have gn := gl.names G
  have gm := gn.len
  refine s_ret (ev_andV (b := true) (ev_callV (ea_cons (ev_var rfl) ea_nil) fun H1 e1 Q q E => ⟨(l, lot), rfl, ⟨e1 _ _ pl, gn⟩, q⟩) fun _ => ev_allT (el_lcT (fun _ => true) (fun _ => .bl true) (ev_var rfl) (st_of pl) (by rw [List.length_map]; omega) (fun x => rfl) (fun _ _ _ _ _ => et_yes) fun k x H1 e1 hx _ => ?_)) fun H1 e1 => q H1 e1
  rw [List.getElem?_map] at hx
  obtain ⟨s, h1, rfl⟩ := Option.map_eq_some_iff.mp hx
  exact ev_callV (ea_cons (ev_var rfl) (ea_cons (ev_var rfl) ea_nil)) fun H2 e2 Q q E => ⟨(t, W, s), rfl, ⟨pt.tx (Tx.of (e1.trans e2)), gl.subset (List.mem_of_getElem? h1)⟩, q⟩
theorem sc_law_place : FnScope ["_law_feed_here", "_law_some", "_law_names", "_law_wires", "_law_k", "_law_j", "_law_low"] ["_law_feed_here"] (defScope s_law_place) := ⟨rfl, rfl, rfl, by decide +kernel, rfl, by decide +kernel, by decide +kernel⟩
def menus : List (List Str) := [["a", "b"], ["a", "b", "c"], ["a", "b", "c"], ["a", "b", "c", "d"], ["ab", "b", "c", "z"], ["q"]]
def five : List Str := ["a", "b", "c", "d", "e"]
theorem menus_ok : ∀ m ∈ five :: menus, (∀ x ∈ m, goodName x = true) ∧ m.Pairwise lt ∧ m.length ≤ 5 ∧ m ≠ [] := by decide +kernel
theorem menu_good {m : List Str} (h : m ∈ five :: menus) : GoodNames m ∧ m ≠ [] := let ⟨a, b, c, e⟩ := menus_ok m h; ⟨⟨a, b, c⟩, e⟩
structure WiresAt (names : List Str) (k j : Nat) (ws : List Q4) : Prop where
  at_ : ∀ w ∈ ws, ∃ a b, names[a]? = some w.1 ∧ names[b]? = some w.2.1 ∧ a < b ∧ (a < k ∨ (a = k ∧ b < j)) ∧ w.2.2.1 ≤ w.2.2.2 ∧ w.2.2.2 ≤ w.2.2.1 + 3
  asc : ws.Pairwise fun v w => lt v.1 w.1 ∨ (v.1 = w.1 ∧ lt v.2.1 w.2.1)
  len : ws.length ≤ 8
theorem WiresAt.to {names : List Str} {k j k' j' : Nat} {ws : List Q4} (h : WiresAt names k j ws) (z : k < k' ∨ (k = k' ∧ j ≤ j')) : WiresAt names k' j' ws := ⟨fun w hw => by
  obtain ⟨a, b, h1, h2, h3, h4, h5⟩ := h.at_ w hw
  exact ⟨a, b, h1, h2, h3, by omega, h5⟩, h.asc, h.len⟩
theorem asc_lt {names : List Str} (G : names.Pairwise lt) {a b : Nat} {x y : Str} (ha : names[a]? = some x) (hb : names[b]? = some y) (h : a < b) : lt x y := by
  obtain ⟨la, rfl⟩ := List.getElem?_eq_some_iff.mp ha
  obtain ⟨lb, rfl⟩ := List.getElem?_eq_some_iff.mp hb
  exact List.pairwise_iff_getElem.mp G a b la lb h
theorem WiresAt.snoc {names : List Str} (G : names.Pairwise lt) {k j : Nat} {ws : List Q4} {w : Q4} (h : WiresAt names k j ws) (hk : names[k]? = some w.1) (hj : names[j]? = some w.2.1) (kj : k < j) (hl : ws.length < 8) (h1 : w.2.2.1 ≤ w.2.2.2) (h2 : w.2.2.2 ≤ w.2.2.1 + 3) : WiresAt names k (j + 1) (ws ++ [w]) where
  at_ := fun v hv => by
    rcases List.mem_append.mp hv with z | z
    · obtain ⟨a, b, z1, z2, z3, z4, z5⟩ := h.at_ v z
      exact ⟨a, b, z1, z2, z3, by omega, z5⟩
    · rw [List.mem_singleton.mp z]
      exact ⟨k, j, hk, hj, kj, by omega, h1, h2⟩
  asc := by
    rw [List.pairwise_append]
    refine ⟨h.asc, by simp, fun v hv u hu => ?_⟩
    rw [List.mem_singleton.mp hu]
    obtain ⟨a, b, z1, z2, z3, z4, z5⟩ := h.at_ v hv
    rcases z4 with z4 | ⟨z4, z6⟩
    · exact Or.inl (asc_lt G z1 hk z4)
    · subst z4
      exact Or.inr ⟨Option.some.inj (z1.symm.trans hk), asc_lt G z2 hj z6⟩
  len := by rw [List.length_append]; exact hl
theorem WiresAt.town {names : List Str} (G : GoodNames names) (ne : names ≠ []) {k j : Nat} {ws : List Q4} (h : WiresAt names k j ws) : GoodTown ⟨names, ws⟩ where
  nms := G
  ne := ne
  ends := fun w hw => by
    obtain ⟨a, b, z1, z2, z3, z4, z5, z6⟩ := h.at_ w hw
    exact ⟨List.mem_of_getElem? z1, List.mem_of_getElem? z2, asc_lt G.asc z1 z2 z3, z5, z6⟩
  asc := h.asc
  len := Nat.le_trans h.len (by decide)
theorem c_law_place (T : Top K mg) : ∃ f fd, Cal P w K mg base 3 "_law_place" ["_law_feed_here"] sp_law_place f fd := by
  obtain ⟨_, _, C_law_any⟩ := c_law_any (P := P) (w := w) (base := base) T
  obtain ⟨_, _, C_law_draw⟩ := c_law_draw (P := P) (w := w) (base := base) T
  refine cal_mk (k := 2) (i := 35) (st := s_law_place) T rfl sc_law_place (fun _ _ _ _ _ _ us hl => match us, hl with | [_], _ => rfl) (fun vs H Q E h => ?_) (fun {f cdv A outer s H vs Q E} hr h => ?_)
  · obtain ⟨_, rfl, _⟩ := h
    rfl
  have hu := hu_of hr
  refine ⟨_, (pss_cons (ps_set (i := 1) sc_law_place.nd rfl (Or.inl rfl) (pe_lst (pa_cons (pe_tup (pa_cons pe_str (pa_cons pe_str pa_nil))) (pa_cons (pe_tup (pa_cons pe_str (pa_cons pe_str (pa_cons pe_str pa_nil)))) (pa_cons (pe_tup (pa_cons pe_str (pa_cons pe_str (pa_cons pe_str pa_nil)))) (pa_cons (pe_tup (pa_cons pe_str (pa_cons pe_str (pa_cons pe_str (pa_cons pe_str pa_nil))))) (pa_cons (pe_tup (pa_cons pe_str (pa_cons pe_str (pa_cons pe_str (pa_cons pe_str pa_nil))))) (pa_cons (pe_tup (pa_cons pe_str pa_nil)) pa_nil))))))))
        (pss_cons (ps_set (i := 2) sc_law_place.nd rfl (Or.inl rfl) (pe_call C_law_any.ok (hr.mono (by decide)) (by rfl) C_law_any.mg C_law_any.kp C_law_any.bd .nil pass0 (pa_cons (pv 0) (pa_cons (pv 1) pa_nil))))
        (pss_cons (ps_if (pt_cmpR op_eq (pe_call C_law_draw.ok (hr.mono (by decide)) (by rfl) C_law_draw.mg C_law_draw.kp C_law_draw.bd .nil pass0 (pa_cons (pv 0) (pa_cons pe_int pa_nil))) pe_int (nomark _)) 
          (pss_one (ps_set (i := 2) sc_law_place.nd rfl (Or.inl rfl) (pe_tup (pa_cons pe_str (pa_cons pe_str (pa_cons pe_str (pa_cons pe_str (pa_cons pe_str pa_nil)))))))) pss_nil)
        (pss_cons (ps_set (i := 3) sc_law_place.nd rfl (Or.inl rfl) (pe_lst pa_nil))
        (pss_cons (ps_for PassesOwn.never rfl (pi_range1 (by rfl) T.b_range (pa_cons (pe_callB call_len_seq (by rfl) T.b_len boot_len (pa_cons (pv 2) pa_nil)) pa_nil)) (pg_name (i := 4) sc_law_place.nd rfl (Or.inl rfl)) 
          (pss_one (ps_for PassesOwn.never rfl (pi_range2 (by rfl) T.b_range (pa_cons (pe_op op_add (pv 4) pe_int) (pa_cons (pe_callB call_len_seq (by rfl) T.b_len boot_len (pa_cons (pv 2) pa_nil)) pa_nil))) (pg_name (i := 5) sc_law_place.nd rfl (Or.inl rfl)) 
            (pss_one (ps_if (PW.pt (pw_and (pt_cmpR op_gt (pe_call C_law_draw.ok (hr.mono (by decide)) (by rfl) C_law_draw.mg C_law_draw.kp C_law_draw.bd .nil pass0 (pa_cons (pv 0) (pa_cons pe_int pa_nil))) pe_int (nomark _)) (pw_and1 (pt_cmpR op_lt (pe_callB call_len_seq (by rfl) T.b_len boot_len (pa_cons (pv 3) pa_nil)) pe_int (nomark _))))) 
              (pss_cons (ps_set (i := 6) sc_law_place.nd rfl (Or.inl rfl) (pe_op op_sub (pe_call C_law_draw.ok (hr.mono (by decide)) (by rfl) C_law_draw.mg C_law_draw.kp C_law_draw.bd .nil pass0 (pa_cons (pv 0) (pa_cons pe_int pa_nil))) pe_int))
              (pss_one (ps_expr (pe_bm PySem.F.plainAttrs_list PySem.F.slot_list_append PySem.F.type_list_append mt_append (pv 3) (pa_cons (pe_tup (pa_cons (pe_ix ix_tup (pv 2) (pv 4) (fun _ _ => rfl)) (pa_cons (pe_ix ix_tup (pv 2) (pv 5) (fun _ _ => rfl)) (pa_cons (pv 6) (pa_cons (pe_op op_add (pv 6) (pe_call C_law_draw.ok (hr.mono (by decide)) (by rfl) C_law_draw.mg C_law_draw.kp C_law_draw.bd .nil pass0 (pa_cons (pv 0) (pa_cons pe_int pa_nil)))) pa_nil))))) pa_nil))))) pss_nil)))))
        (pss_one (ps_ret (pe_tup (pa_cons (pv 2) (pa_cons (pe_callTy call_tuple_of (by rfl) T.b_tuple boot_tuple (pa_cons (pv 3) pa_nil)) pa_nil)))))))))), ?_⟩
  obtain ⟨⟨d, c⟩, rfl, hf, q⟩ := h
  have hf : IsFeed H d c := hf
  refine q_asgR (er_lstTs (xss := menus) (ets_cons (er_tup (ea_cons ev_c (ea_cons ev_c ea_nil)) (Nat.le_of_ble_eq_true rfl)) (ets_cons (er_tup (ea_cons ev_c (ea_cons ev_c (ea_cons ev_c ea_nil))) (Nat.le_of_ble_eq_true rfl)) (ets_cons (er_tup (ea_cons ev_c (ea_cons ev_c (ea_cons ev_c ea_nil))) (Nat.le_of_ble_eq_true rfl))
    (ets_cons (er_tup (ea_cons ev_c (ea_cons ev_c (ea_cons ev_c (ea_cons ev_c ea_nil)))) (Nat.le_of_ble_eq_true rfl)) (ets_cons (er_tup (ea_cons ev_c (ea_cons ev_c (ea_cons ev_c (ea_cons ev_c ea_nil)))) (Nat.le_of_ble_eq_true rfl)) (ets_cons (er_tup (ea_cons ev_c ea_nil) (Nat.le_of_ble_eq_true rfl)) ets_nil)))))) (Nat.le_of_ble_eq_true rfl)) fun v H1 e1 ⟨l, ev, as, hl, pas⟩ => ?_
  subst ev
  have f1 := FOk.of hf e1
  have las := paired_len pas
  have las : as.length = 6 := las
  refine fq_asg f1.b (ef_any (xs := as.map V.ref) (fun H2 e2 => fun H3 e3 Q k => ea_cons (x := .ref d) (ev_var rfl) (ea_cons (x := .ref l) (ev_var rfl) ea_nil) H3 e3 Q fun H4 e4 => k _ H4 e4 ⟨l, rfl, e4 _ _ (e3 _ _ (e2.lst hl))⟩) (fun z => by rw [List.map_eq_nil_iff] at z; rw [z] at las; cases las) (by rw [List.length_map]; omega)) fun v H2 f2 hv => ?_
  obtain ⟨a0, ha0, ev⟩ := List.mem_map.mp hv
  subst ev
  obtain ⟨m0, hm0, ht0⟩ := paired_mem pas ha0
  have g0 := menu_good (List.mem_cons_of_mem _ hm0)
  refine fq_whenAsg (v0 := .ref a0) (R := TupAt (five.map V.str)) (M := fun v H3 => ∃ a names, v = .ref a ∧ IsTs H3 a names ∧ GoodNames names ∧ names ≠ []) f2.b (eft_test (ef_eq (ef_draw (n := 9) (fun H3 e3 => ea_cons (ev_var rfl) (ea_cons ev_c ea_nil)) (by decide) (by decide)) (ef_int (P := fun _ => True) (fun _ _ => ev_c) True.intro)))
    (fun _ => ef_of fun H3 e3 => er_tup (ea_cons ev_c (ea_cons ev_c (ea_cons ev_c (ea_cons ev_c (ea_cons ev_c ea_nil))))) (Nat.le_of_ble_eq_true rfl)) rfl (fun v H3 f3 ⟨a, ev, ha⟩ => ⟨a, five, ev, ha, menu_good List.mem_cons_self⟩) (fun _ H3 f3 => ⟨a0, m0, rfl, ht0.tx (f2.tx.trans f3.tx), g0⟩) fun v H3 f3 ⟨a, names, ev, ha, G, ne⟩ => ?_
  subst ev
  have ha : H3 a = some (.tup (names.map V.str)) := ha
  have n5 := G.len
  have f03 := (f1.trans f2).trans f3
  refine q_asgR er_newLF fun v H4 e4 ⟨wl, ev, nw, hw⟩ => ?_
  subst ev
  have hlen : ∀ {H5 : Hp} {σ : L2.St}, Ex H3 H5 ∨ FOk d c H3 H5 → σ[2]? = some (some (.ref a)) → Ev (tCB (rLenS K) (tCons (tVar 2) tNil)) σ H5 (.int (names.length : Int)) := fun {H5 σ} e z => by
    have z2 := ev_lenT (K := K) (xs := names.map V.str) (ev_var z) (st_of (e.elim (fun e => e _ _ ha) fun e => e.tx _ _ ha))
    rw [List.length_map] at z2
    exact z2
  refine q_forR1 (n := (names.length : Int)) (ea_cons (by exact hlen (Or.inl e4) rfl) ea_nil) (by omega) (fun i σ' H' => (∃ u4 u5 u6, σ' = [some (.ref d), some (.ref l), some (.ref a), some (.ref wl), u4, u5, u6]) ∧ FOk d c H3 H' ∧ ∃ ws, LstOf IsT4 H' wl ws ∧ WiresAt names i 0 ws)
    (fun H5 e5 => ⟨⟨_, _, _, rfl⟩, FOk.of f03.b (e4.trans e5), [], ⟨[], e5 _ _ hw, .nil⟩, ⟨fun w hw => (by cases hw), .nil, Nat.zero_le _⟩⟩) (fun i σ' H' hi ⟨⟨u4, u5, u6, es⟩, f', ws, hws, wa⟩ => ?_) fun σ' H' ⟨⟨u4, u5, u6, es⟩, f', ws, ⟨bs, hbs, pbs⟩, wa⟩ => ?_
  · subst es
    have hi : i < names.length := by omega
    refine s_forR2 (lo := (i : Int) + 1) (n := (names.length : Int)) (ea_cons (ev_op (ev_var (v := .int (i : Nat)) rfl) ev_c rv_I0) (ea_cons (by exact hlen (Or.inr f') rfl) ea_nil)) (by omega) (fun j σ' H' => (∃ u5 u6, σ' = [some (.ref d), some (.ref l), some (.ref a), some (.ref wl), some (.int (i : Nat)), u5, u6]) ∧ FOk d c H3 H' ∧ ∃ ws, LstOf IsT4 H' wl ws ∧ WiresAt names i (i + 1 + j) ws)
      (fun H5 e5 => ⟨⟨_, _, rfl⟩, f'.ex e5, ws, hws.ex (fun _ _ z => z.tx (Tx.of e5)) e5, wa.to (Or.inr ⟨rfl, by omega⟩)⟩) (fun j σ' H6 hj ⟨⟨u5, u6, es⟩, f6, ws6, ⟨bs, hbs, pbs⟩, wa6⟩ => ?_) fun σ' H6 ⟨⟨u5, u6, es⟩, f6, ws6, hws6, wa6⟩ => ?_
    · subst es
      have hj : i + 1 + j < names.length := by omega
      have ej : (i : Int) + 1 + (j : Int) = ((i + 1 + j : Nat) : Int) := by omega
      rw [ej]
      have lb := paired_len pbs
      have l8 := wa6.len
      have hk1 := List.getElem?_eq_getElem hi
      have hk2 := List.getElem?_eq_getElem hj
      generalize names[i] = s1 at hk1
      generalize names[i + 1 + j] = s2 at hk2
      refine f_when f6.b (eft_and (eft_test (ef_B0 (ef_draw (n := 4) (fun H7 e7 => ea_cons (ev_var rfl) (ea_cons ev_c ea_nil)) (by decide) (by decide)) (ef_int (P := fun _ => True) (fun _ _ => ev_c) True.intro))) (eft_of (b := decide (ws6.length < 8)) fun H7 f7 => ?_)) (fun hb H7 f7 => ?_) fun _ H7 f7 => ?_
      · have z := ev_len (K := K) (σ := [some (.ref d), some (.ref l), some (.ref a), some (.ref wl), some (.int (i : Nat)), u5, u6].set 5 (some (.int ((i + 1 + j : Nat) : Int)))) (H := H7) (ev_var (i := 3) rfl) (sq_of (f7.lst hbs))
        rw [List.length_map, lb] at z
        exact et_is (et_test (ev_op z ev_c rv_I0)) (decide_eq_decide.mpr (by omega))
      · have l7 : ws6.length < 8 := of_decide_eq_true (hb rfl).symm
        refine fq_asg f7.b (ef_I0 (P := fun _ => True) (ef_draw (n := 6) (fun H8 e8 => ea_cons (ev_var rfl) (ea_cons ev_c ea_nil)) (by decide) (by decide)) (ef_int (P := fun _ => True) (fun _ _ => ev_c) True.intro) fun _ _ _ _ => True.intro) fun v H8 f8 ⟨lo, ev, _⟩ => ?_
        subst ev
        have f78 := f7.trans f8
        refine f_app (R := fun v H2 => ∃ p hi, v = .ref p ∧ H2 p = some (.tup [.str s1, .str s2, .int lo, .int hi]) ∧ lo ≤ hi ∧ hi ≤ lo + 3) f8.b (f78.lst hbs) (fun _ _ => ev_var rfl) (ef_imp (ef_tup (efa_cons (RV := fun v => v = .str s1) (ef_v fun H9 f9 => ev_op (x := .ref a) (y := .int (i : Nat)) (ev_var rfl) (ev_var rfl) (rv_ixT (st_of (((f6.trans f78).trans f9).tx _ _ ha)) (atI_nat (by rw [List.getElem?_map, hk1]; rfl))))
          (efa_cons (RV := fun v => v = .str s2) (ef_v fun H9 f9 => ev_op (x := .ref a) (y := .int ((i + 1 + j : Nat) : Int)) (ev_var rfl) (ev_var rfl) (rv_ixT (st_of (((f6.trans f78).trans f9).tx _ _ ha)) (atI_nat (by rw [List.getElem?_map, hk2]; rfl))))
          (efa_cons (RV := fun v => v = .int lo) (ef_v fun H9 f9 => ev_var rfl) (efa_cons (RV := fun v => ∃ hi, v = .int hi ∧ lo ≤ hi ∧ hi ≤ lo + 3) (ef_I0 (P := fun hi => lo ≤ hi ∧ hi ≤ lo + 3) (P1 := fun x => x = lo) (ef_int (fun _ _ => ev_var rfl) rfl) (ef_draw (n := 4) (fun H9 e9 => ea_cons (ev_var rfl) (ea_cons ev_c ea_nil)) (by decide) (by decide)) fun x y hx hy => by omega) efa_nil)))) ?_) ?_) (by rw [List.length_map]; omega) fun v H9 f9 ⟨p, hh, ev, hp, g1, g2⟩ => ?_
        · rintro vs ⟨_, _, rfl, _, _, _, rfl, _, _, _, rfl, _, _, _, rfl, _, rfl⟩
          exact Nat.le_of_ble_eq_true rfl
        · rintro v H9 f9 ⟨p, xs, ev, hp, _, _, rfl, rfl, _, _, rfl, rfl, _, _, rfl, rfl, _, _, rfl, ⟨hh, rfl, g1, g2⟩, rfl⟩
          exact ⟨p, hh, ev, hp, g1, g2⟩
        · subst ev
          have f79 := f78.trans f9
          have hb9 := f79.lst hbs
          have t9 := Tx.lst (o := .lst (bs.map V.ref ++ [.ref p])) hb9
          refine ⟨⟨_, _, rfl⟩, (f6.trans f79).mut nw, ws6 ++ [(s1, s2, lo, hh)], ⟨bs ++ [p], by rw [upd_same, List.map_append]; rfl, ?_⟩, WiresAt.snoc G.asc wa6 hk1 hk2 (Nat.lt_of_lt_of_le (Nat.lt_succ_self i) (Nat.le_add_right _ _)) l7 g1 g2⟩
          exact paired_snoc (paired_imp (fun _ _ z => z.tx (f79.tx.trans t9)) pbs) (t9 _ _ hp)
      · exact ⟨⟨_, _, rfl⟩, f6.trans f7, ws6, ⟨bs, f7.lst hbs, paired_imp (fun _ _ z => z.tx f7.tx) pbs⟩, wa6.to (Or.inr ⟨rfl, by omega⟩)⟩
    · subst es
      exact ⟨⟨_, _, _, rfl⟩, f6, ws6, hws6, wa6.to (Or.inl (Nat.lt_succ_self _))⟩
  · subst es
    refine s_retR (er_tup2R (R1 := fun v _ => v = .ref a) (R3 := fun v H2 => ∃ y, v = .ref y ∧ TupOf IsT4 H2 y ws) (er_of (ev_var rfl)) (fun _ _ _ _ z => z) (er_cbR (er_of (ev_var (v := .ref wl) rfl)) fun v H5 e5 hv Q k => ?_) fun v H5 H6 e ⟨y, z1, z2⟩ => ⟨y, z1, z2.tx (fun _ _ q => q.tx (Tx.of e)) (Tx.of e)⟩) fun v H5 e5 ⟨p, x, y, ev, hp, hx, y2, ey, hy⟩ => ?_
    · subst hv
      exact ⟨wl, bs.map V.ref, rfl, Or.inl ⟨sq_of (e5 _ _ hbs), fun u nu => k _ _ (Ex.new nu) ⟨u, rfl, bs, upd_same, paired_imp (fun _ _ z => z.tx (Tx.of (e5.trans (Ex.new nu)))) pbs⟩⟩⟩
    · subst ev hx ey
      have f5 := (f03.trans f').ex e5
      exact q p ⟨names, ws⟩ H5 f5.e f5.b ⟨a, y2, hp, e5 _ _ (f'.tx _ _ ha), hy⟩ (wa.town G ne)
theorem sc_law_sent : FnScope ["_law_feed_here", "_law_place_here", "_law_most", "_law_names", "_law_wires", "_law_rest", "_law_name", "_law_liars", "_law_base", "_law_found", "_law_lap", "_law_first", "_law_second", "_law_low", "_law_high", "_law_start", "_law_end", "_law_hour", "_law_late"] ["_law_feed_here", "_law_place_here", "_law_most"] (defScope s_law_sent) := ⟨rfl, rfl, rfl, by decide +kernel, rfl, by decide +kernel, by decide +kernel⟩
theorem c_law_sent (T : Top K mg) : ∃ f fd, Cal P w K mg base 3 "_law_sent" ["_law_feed_here", "_law_place_here", "_law_most"] sp_law_sent f fd := by
  obtain ⟨_, _, C_law_any⟩ := c_law_any (P := P) (w := w) (base := base) T
  obtain ⟨_, _, C_law_draw⟩ := c_law_draw (P := P) (w := w) (base := base) T
  refine cal_mk (k := 2) (i := 36) (st := s_law_sent) T rfl sc_law_sent (fun _ _ _ _ _ _ us hl => match us, hl with | [_, _, _], _ => rfl) (fun vs H Q E h => ?_) (fun {f cdv A outer s H vs Q E} hr h => ?_)
  · obtain ⟨_, rfl, _⟩ := h
    rfl
  have hu := hu_of hr
  refine ⟨_, (pss_cons (ps_asg (pv 1) (pg_tup rfl (pgs_cons (pg_name (i := 3) sc_law_sent.nd rfl (Or.inl rfl)) (pgs_cons (pg_name (i := 4) sc_law_sent.nd rfl (Or.inl rfl)) pgs_nil))))
        (pss_cons (ps_set (i := 5) sc_law_sent.nd rfl (Or.inl rfl) (pe_callTy (call_dictP rfl) (by rfl) T.b_dict boot_dict (pa_cons (pe_lc (own := [("_law_name", 6)]) (g := (gName 6)) rfl sc_law_sent.nd (pi_tup (pv 3)) (blkOk_by (own := [("_law_name", 6)]) (N := ["_law_feed_here", "_law_place_here", "_law_most", "_law_names", "_law_wires", "_law_rest", "_law_name", "_law_liars", "_law_base", "_law_found", "_law_lap", "_law_first", "_law_second", "_law_low", "_law_high", "_law_start", "_law_end", "_law_hour", "_law_late"]) (sc := defScope s_law_sent) (by decide +kernel)) (fun _ _ _ _ _ => (pg_name (i := 6) sc_law_sent.nd rfl (Or.inl rfl))) (fun _ _ _ _ _ => pts_nil) (fun _ _ _ _ _ => (pe_tup (pa_cons (pv 6) (pa_cons (pe_op op_sub (pe_call C_law_draw.ok (hr.mono (by decide)) (by rfl) C_law_draw.mg C_law_draw.kp C_law_draw.bd .nil pass0 (pa_cons (pv 0) (pa_cons pe_int pa_nil))) pe_int) pa_nil))))) pa_nil)))
        (pss_cons (ps_setLc (i := 7) (own := [("_law_name", 6)]) (g := (gName 6)) rfl sc_law_sent.nd rfl rfl (sw_true rfl rfl rfl (by decide +kernel)) (pi_tup (pv 3)) (blkOk_by (own := [("_law_name", 6)]) (N := ["_law_feed_here", "_law_place_here", "_law_most", "_law_names", "_law_wires", "_law_rest", "_law_name", "_law_liars", "_law_base", "_law_found", "_law_lap", "_law_first", "_law_second", "_law_low", "_law_high", "_law_start", "_law_end", "_law_hour", "_law_late"]) (sc := defScope s_law_sent) (by decide +kernel)) (fun _ _ _ _ _ => (pg_name (i := 6) sc_law_sent.nd rfl (Or.inl rfl))) (fun _ _ _ _ _ => (pts_one (pt_cmpR op_eq (pe_call C_law_draw.ok (hr.mono (by decide)) (by rfl) C_law_draw.mg C_law_draw.kp C_law_draw.bd .nil pass0 (pa_cons (pv 0) (pa_cons pe_int pa_nil))) pe_int (nomark _)))) (fun _ _ _ _ _ => (pv 6)))
        (pss_cons (ps_par (i := 8) (j := 9) rfl sc_law_sent.nd rfl rfl (by decide) rfl rfl (pa_cons (pe_call C_law_any.ok (hr.mono (by decide)) (by rfl) C_law_any.mg C_law_any.kp C_law_any.bd .nil pass0 (pa_cons (pv 0) (pa_cons (pe_lst (pa_cons pe_int (pa_cons pe_int (pa_cons pe_int (pa_cons (pe_op op_pow pe_int pe_int) pa_nil))))) pa_nil))) (pa_cons (pe_lst pa_nil) pa_nil)) (by rfl))
        (pss_cons (ps_for PassesOwn.never rfl (pi_range1 (by rfl) T.b_range (pa_cons (pe_ifExp (pt_cmpR (op_neD hr.units) (pv 4) (pe_tup pa_nil) (nomark _)) (pe_call C_law_draw.ok (hr.mono (by decide)) (by rfl) C_law_draw.mg C_law_draw.kp C_law_draw.bd .nil pass0 (pa_cons (pv 0) (pa_cons (pv 2) pa_nil))) pe_int) pa_nil)) (pg_name (i := 10) sc_law_sent.nd rfl (Or.inl rfl)) 
          (pss_cons (ps_asg (pe_call C_law_any.ok (hr.mono (by decide)) (by rfl) C_law_any.mg C_law_any.kp C_law_any.bd .nil pass0 (pa_cons (pv 0) (pa_cons (pe_callTy call_list_of (by rfl) T.b_list boot_list (pa_cons (pv 4) pa_nil)) pa_nil))) (pg_tup rfl (pgs_cons (pg_name (i := 11) sc_law_sent.nd rfl (Or.inl rfl)) (pgs_cons (pg_name (i := 12) sc_law_sent.nd rfl (Or.inl rfl)) (pgs_cons (pg_name (i := 13) sc_law_sent.nd rfl (Or.inl rfl)) (pgs_cons (pg_name (i := 14) sc_law_sent.nd rfl (Or.inl rfl)) pgs_nil))))))
          (pss_cons (ps_asg (pe_ifExp (pt_cmpR op_eq (pe_call C_law_draw.ok (hr.mono (by decide)) (by rfl) C_law_draw.mg C_law_draw.kp C_law_draw.bd .nil pass0 (pa_cons (pv 0) (pa_cons pe_int pa_nil))) pe_int (nomark _)) (pe_tup (pa_cons (pv 11) (pa_cons (pv 12) pa_nil))) (pe_tup (pa_cons (pv 12) (pa_cons (pv 11) pa_nil)))) (pg_tup rfl (pgs_cons (pg_name (i := 15) sc_law_sent.nd rfl (Or.inl rfl)) (pgs_cons (pg_name (i := 16) sc_law_sent.nd rfl (Or.inl rfl)) pgs_nil))))
          (pss_cons (ps_set (i := 17) sc_law_sent.nd rfl (Or.inl rfl) (pe_op op_sub (pe_op op_add (pv 8) (pe_call C_law_draw.ok (hr.mono (by decide)) (by rfl) C_law_draw.mg C_law_draw.kp C_law_draw.bd .nil pass0 (pa_cons (pv 0) (pa_cons pe_int pa_nil)))) pe_int))
          (pss_cons (ps_set (i := 18) sc_law_sent.nd rfl (Or.inl rfl) (pe_op op_add (pe_op op_sub (pe_op op_add (pe_op op_add (pv 17) (pv 13)) (pe_call C_law_draw.ok (hr.mono (by decide)) (by rfl) C_law_draw.mg C_law_draw.kp C_law_draw.bd .nil pass0 (pa_cons (pv 0) (pa_cons (pe_op op_add (pe_op op_sub (pv 14) (pv 13)) pe_int) pa_nil)))) (pe_dget hu (pv 5) (pv 15) (fun _ _ => rfl))) (pe_dget hu (pv 5) (pv 16) (fun _ _ => rfl))))
          (pss_cons (ps_if (PW.pt (pw_or (pt_cmpR op_in_seq (pv 15) (pv 7) (by rfl)) (pw_or1 (pt_cmpR op_in_seq (pv 16) (pv 7) (by rfl))))) 
            (pss_one (ps_set (i := 18) sc_law_sent.nd rfl (Or.inl rfl) (pe_op op_sub (pe_op op_add (pv 18) (pe_call C_law_draw.ok (hr.mono (by decide)) (by rfl) C_law_draw.mg C_law_draw.kp C_law_draw.bd .nil pass0 (pa_cons (pv 0) (pa_cons pe_int pa_nil)))) pe_int))) pss_nil)
          (pss_cons (ps_expr (pe_bm PySem.F.plainAttrs_list PySem.F.slot_list_append PySem.F.type_list_append mt_append (pv 9) (pa_cons (pe_tup (pa_cons (pv 15) (pa_cons (pv 16) (pa_cons (pv 17) (pa_cons (pv 18) pa_nil))))) pa_nil)))
          (pss_one (ps_if (pt_cmpR op_eq (pe_call C_law_draw.ok (hr.mono (by decide)) (by rfl) C_law_draw.mg C_law_draw.kp C_law_draw.bd .nil pass0 (pa_cons (pv 0) (pa_cons pe_int pa_nil))) pe_int (nomark _)) 
            (pss_one (ps_expr (pe_bm PySem.F.plainAttrs_list PySem.F.slot_list_append PySem.F.type_list_append mt_append (pv 9) (pa_cons (pe_ix ix_list (pv 9) pe_int (fun _ _ => rfl)) pa_nil)))) pss_nil)))))))))
        (pss_one (ps_ret (pe_callTy call_tuple_of (by rfl) T.b_tuple boot_tuple (pa_cons (pv 9) pa_nil))))))))), ?_⟩
  obtain ⟨⟨⟨d, p, c⟩, T⟩, rfl, ⟨hf, ⟨x, y, hp, hx, bs, hy, py⟩, G⟩, q⟩ := h
  have hf : IsFeed H d c := hf
  have hp : H p = some (.tup [.ref x, .ref y]) := hp
  have hx : H x = some (.tup (T.names.map V.str)) := hx
  have hy : H y = some (.tup (bs.map V.ref)) := hy
  have py : Paired (IsT4 H) bs T.wires := py
  have G : GoodTown T := G
  have n5 := G.nms.len
  have nd : T.names.Nodup := List.Pairwise.imp (fun h => lt_ne h) G.nms.asc
  have lb := paired_len py
  have lw := G.len
  have wn : ∀ w ∈ T.wires, goodName w.1 = true ∧ goodName w.2.1 = true := fun w hw => ⟨G.nms.nm _ (G.ends w hw).1, G.nms.nm _ (G.ends w hw).2.1⟩
  have dr : ∀ {σ : L2.St} {H1 : Hp} {E : XK} {n : Int}, σ[0]? = some (some (.ref d)) → 0 < n → n < 1000000 → EvF d c (tCall sp_law_draw [] E (tCons (tVar 0) (tCons (tC (.int n)) tNil))) σ H1 (IntR fun r => 0 ≤ r ∧ r < n) := fun z h0 h1 => ef_draw (fun H3 e3 => ea_cons (ev_var z) (ea_cons ev_c ea_nil)) h0 h1
  have kn : ∀ {σ : L2.St} {H1 : Hp} {n : Int}, EvF d c (tC (.int n)) σ H1 (IntR fun r => r = n) := fun {_ _ n} => ef_int (fun _ _ => ev_c) rfl
  refine q_asgT (er_of (ev_var (i := 1) rfl)) fun v H1 e1 ev => ?_
  subst ev
  refine ⟨p, _, rfl, st_of (e1 _ _ hp), rfl, _, _, rfl, _, _, rfl, rfl, ?_⟩
  dsimp only
  have f1 := FOk.of hf e1
  refine fq_asg (R := fun v H2 => ∃ r kvs, v = .ref r ∧ r ≠ d ∧ H2 r = some (.dK (dkv kvs)) ∧ kvs.map Prod.fst = T.names) f1.b (ef_cbR (ef_lcT (xs := T.names.map V.str) (R' := fun v H2 => ∃ l as kvs, v = .ref l ∧ H2 l = some (.lst (as.map V.ref)) ∧ Paired (fun b (kv : Str × Int) => H2 b = some (.tup [.str kv.1, .int kv.2])) as kvs ∧ kvs.map Prod.fst = T.names)
    (PB := fun _ b => b = true) (R := fun i v H2 => ∃ b n, v = .ref b ∧ H2 b = some (.tup [.str (T.names.getD i Str.empty), .int n])) (fun _ _ => ev_var rfl) (e1 _ _ hx) (by rw [List.length_map]; omega) (fun _ => rfl) (fun _ _ _ _ e ⟨b, n, z1, z2⟩ => ⟨b, n, z1, e _ _ z2⟩) (fun i v H2 hv f2 => ?_) fun l ys ix H2 nl f2 h2 hix _ hys hpr => ?_) fun v H2 f2 ⟨l, as, kvs, ev, hl, pk, ek⟩ Q k => ?_) fun v H2 f2 ⟨r, kvs, ev, nr, hr, ek⟩ => ?_
  · rw [List.getElem?_map] at hv
    obtain ⟨s0, hs, ev⟩ := Option.map_eq_some_iff.mp hv
    subst ev
    rw [getD_at hs]
    refine ⟨eft_of fun _ _ => et_yes, fun _ => ef_imp (ef_tup (efa_cons (RV := fun v => v = .str s0) (ef_v fun _ _ => ev_var rfl) (efa_cons (RV := fun v => ∃ n, v = .int n ∧ True) (ef_I0 (P := fun _ => True) (dr (n := 13) rfl (by decide) (by decide)) (kn (n := 6)) fun _ _ _ _ => True.intro) efa_nil)) ?_) ?_⟩
    · rintro vs ⟨_, _, rfl, _, _, _, rfl, _, rfl⟩
      exact Nat.le_of_ble_eq_true rfl
    · rintro v H3 f3 ⟨b, xs, ev, hb, _, _, rfl, rfl, _, _, rfl, ⟨n, rfl, _⟩, rfl⟩
      exact ⟨b, n, ev, hb⟩
  · rw [List.length_map] at hix
    obtain ⟨as, kvs, ey, pk, ek⟩ := named_of hpr
    rw [hix (fun _ => rfl) (fun _ z => by cases z), range_names] at ek
    exact ⟨l, as, kvs, rfl, by rw [h2, ey], pk, ek⟩
  · subst ev
    have ndk : (kvs.map Prod.fst).Nodup := by rw [ek]; exact nd
    refine ⟨l, as, dkv kvs, rfl, sq_of hl, paired_mapR (G := fun p (kv : Key × V) => SqT K H2 p [kV kv.1, kv.2]) (f := fun kv : Str × Int => ((Sum.inr kv.1, V.int kv.2) : Key × V)) (fun b x z => st_of z) pk, fun u nu => ?_⟩
    refine k _ _ (FOk.of f2.b (Ex.new nu)) ⟨u, kvs, rfl, (FOk.refl f2.b).nond nu, ?_, ek⟩
    rw [upd_same, merge_nd (dkv_nd ndk)]
  subst ev
  have f02 := f1.trans f2
  refine fq_asg (R := fun v H3 => ∃ (l : Addr) (ss : List Str), v = .ref l ∧ H3 l = some (.lst (ss.map V.str))) f2.b (ef_lcT (xs := T.names.map V.str) (PB := fun _ _ => True) (R := fun i v H2 => ∃ s, v = .str s) (fun _ _ => ev_var rfl) (f02.tx _ _ hx) (by rw [List.length_map]; omega) (fun _ => rfl) (fun _ _ _ _ e z => z) (fun i v H3 hv f3 => ?_) fun l ys ix H3 nl f3 h3 hix _ hys hpr => ?_) fun v H3 f3 ⟨li, ss, ev, hli⟩ => ?_
  · rw [List.getElem?_map] at hv
    obtain ⟨s0, hs, ev⟩ := Option.map_eq_some_iff.mp hv
    subst ev
    exact ⟨eft_test (ef_eq (dr (n := 4) rfl (by decide) (by decide)) (kn (n := 0))), fun _ => ef_imp (ef_v fun _ _ => ev_var rfl) fun v _ _ z => ⟨s0, z⟩⟩
  · obtain ⟨ss, es⟩ := strs_of (H := H3) hpr
    exact ⟨l, ss, rfl, by rw [h3, es]⟩
  subst ev
  have f03 := f02.trans f3
  have hr3 := f3.dk nr hr
  refine fq_par (R1 := IntR fun _ => True) f3.b (ef_imp (ef_any (xs := [.int 0, .int 0, .int 0, .int ((10 : Int) ^ (40 : Int).toNat)]) (fun H4 f4 => ear_L (ev_var rfl) (el_lst (ea_cons ev_c (ea_cons ev_c (ea_cons ev_c (ea_cons (ev_op (ev_c (v := .int 10)) (ev_c (v := .int 40)) (rv_I ⟨by decide, by decide, by decide⟩)) ea_nil)))) (Nat.le_of_ble_eq_true rfl))) (fun z => by cases z) (Nat.le_of_ble_eq_true rfl)) fun v H4 f4 hv => ?_) (fun _ _ _ _ z => z) ef_newLF fun v w H4 f4 ⟨b0, ev, _⟩ ⟨f, ew, nf, hfl⟩ => ?_
  · simp only [List.mem_cons, List.not_mem_nil, or_false] at hv
    rcases hv with z | z | z | z <;> exact ⟨_, z, True.intro⟩
  subst ev ew
  have hr4 := f4.dk nr hr3
  have hli4 := f4.lst hli
  have f04 := f03.trans f4
  have nwr : f ≠ r := fun z => by rw [z, hr3] at nf; cases nf
  have nwl : f ≠ li := fun z => by rw [z, hli] at nf; cases nf
  refine fq_forR1 (P := fun n => 0 ≤ n ∧ n < 8 ∧ (T.wires = [] → n = 0)) f4.b (ef_if (PB := fun b => b = !decide (T.wires = [])) (eft_of fun H5 f5 => et_test (ev_opR (R1 := fun v _ => v = .ref y) (er_of (ev_var rfl)) (fun _ _ _ _ z => z) (er_tup (vs := []) ea_nil (Nat.zero_le _)) fun x1 y1 H6 e6 hx1 ⟨p6, ey1, hp6⟩ => ?_)) (fun hb => ef_imp (ef_draw (n := 8) (fun H3 e3 => ea_cons (ev_var rfl) (ea_cons (ev_var rfl) ea_nil)) (by decide) (by decide)) fun v _ _ ⟨n, ev, n0, n1⟩ => ⟨n, ev, n0, n1, fun z => by rw [z] at hb; cases hb⟩) fun _ => ef_int (fun _ _ => ev_c) ⟨by decide, by decide, fun _ => rfl⟩) (fun n hn => by omega)
    (fun i σ' H' => (∃ u6 u10 u11 u12 u13 u14 u15 u16 u17 u18, σ' = [some (.ref d), some (.ref p), some (.int 8), some (.ref x), some (.ref y), some (.ref r), u6, some (.ref li), some (.int b0), some (.ref f), u10, u11, u12, u13, u14, u15, u16, u17, u18]) ∧ FOk d c H3 H' ∧ H' r = some (.dK (dkv kvs)) ∧ H' li = some (.lst (ss.map V.str)) ∧ ∃ run, LstOf IsT4 H' f run ∧ (∀ l ∈ run, ∃ p, bnd T.wires l.1 l.2.1 = some p) ∧ run.length ≤ 2 * i)
    (fun H5 f5 => ⟨⟨_, _, _, _, _, _, _, _, _, _, rfl⟩, f4.trans f5, f5.dk nr hr4, f5.lst hli4, [], ⟨[], f5.lst hfl, .nil⟩, fun l hl => (by cases hl), Nat.zero_le _⟩) (fun n i σ' H5 hn hi ⟨⟨u6, u10, u11, u12, u13, u14, u15, u16, u17, u18, es⟩, f5, hr5, hli5, run, ⟨cs, hcs, pcs⟩, hbd, hrl⟩ => ?_) fun n σ' H5 hn ⟨⟨u6, u10, u11, u12, u13, u14, u15, u16, u17, u18, es⟩, f5, hr5, hli5, run, ⟨cs, hcs, pcs⟩, hbd, hrl⟩ => ?_
  · subst hx1 ey1
    intro H7 e7 Q k
    refine ⟨.tuple (T.wires.map dt4), .tuple [], .tup (st_of (((f04.trans f5).ex (e6.trans e7)).tx _ _ hy)) (dp_t4s (paired_imp (fun _ _ z => z.tx ((f04.trans f5).ex (e6.trans e7)).tx) py)), .tup (st_of (e7 _ _ hp6)) .nil, shaped_t4s wn, rfl, ?_⟩
    cases hw : T.wires with
    | nil =>
      rw [hw] at k
      exact k H7 (Ex.refl _)
    | cons a b =>
      rw [hw] at k
      exact k H7 (Ex.refl _)
  · subst es
    obtain ⟨n0, n8, nw⟩ := hn
    have wne : T.wires ≠ [] := fun z => by have := nw z; omega
    have f05 := f03.trans f5
    have clr := paired_len pcs
    refine fq_asgT f5.b (ef_any (xs := bs.map V.ref) (fun H6 f6 => ear_L (ev_var rfl) (el_listT (K := K) (ev_var rfl) (st_of ((f05.trans f6).tx _ _ hy)))) (fun z => by rw [List.map_eq_nil_iff] at z; rw [z] at lb; exact wne (List.length_eq_zero_iff.mp lb.symm)) (by rw [List.length_map]; omega)) fun v H6 f6 hv => ?_
    obtain ⟨b, hb, ev⟩ := List.mem_map.mp hv
    subst ev
    obtain ⟨w, hw, pw⟩ := paired_mem py hb
    obtain ⟨m1, m2, lt12, le1, le2⟩ := G.ends w hw
    have f06 := f05.trans f6
    have pw6 : H6 b = some (.tup [.str w.1, .str w.2.1, .int w.2.2.1, .int w.2.2.2]) := f06.tx _ _ pw
    refine ⟨b, _, rfl, st_of pw6, rfl, _, _, rfl, _, _, rfl, _, _, rfl, _, _, rfl, rfl, ?_⟩
    dsimp only
    refine fq_asgT (R := fun v H7 => ∃ a e, TupAt [.str a, .str e] v H7 ∧ ((w.1 = a ∧ w.2.1 = e) ∨ (w.2.1 = a ∧ w.1 = e))) f6.b (ef_if (PB := fun _ => True) (eft_test (ef_eq (dr (n := 2) rfl (by decide) (by decide)) (kn (n := 0)))) (fun _ => ef_of fun H7 f7 => er_imp (er_tup (ea_cons (ev_var rfl) (ea_cons (ev_var rfl) ea_nil)) (Nat.le_of_ble_eq_true rfl)) fun v _ _ z => ⟨_, _, z, Or.inl ⟨rfl, rfl⟩⟩)
      fun _ => ef_of fun H7 f7 => er_imp (er_tup (ea_cons (ev_var rfl) (ea_cons (ev_var rfl) ea_nil)) (Nat.le_of_ble_eq_true rfl)) fun v _ _ z => ⟨_, _, z, Or.inr ⟨rfl, rfl⟩⟩) fun v H7 f7 ⟨a, e, ⟨t7, ev, ht7⟩, hae⟩ => ?_
    subst ev
    refine ⟨t7, _, rfl, st_of ht7, rfl, _, _, rfl, _, _, rfl, rfl, ?_⟩
    have ma : a ∈ kvs.map Prod.fst := by rw [ek]; rcases hae with ⟨z, _⟩ | ⟨z, _⟩ <;> rw [← z] <;> assumption
    have me : e ∈ kvs.map Prod.fst := by rw [ek]; rcases hae with ⟨_, z⟩ | ⟨_, z⟩ <;> rw [← z] <;> assumption
    have ndk : (kvs.map Prod.fst).Nodup := by rw [ek]; exact nd
    obtain ⟨na, hna⟩ := dkv_val ndk ma
    obtain ⟨ne, hne⟩ := dkv_val ndk me
    obtain ⟨bp, hbp⟩ := bnd_some hw hae
    refine fq_asg f7.b (ef_I0 (P := fun _ => True) (P1 := fun _ => True) (ef_I0 (P1 := fun _ => True) (ef_int (fun _ _ => ev_var rfl) True.intro) (dr (n := 30) rfl (by decide) (by decide)) fun _ _ _ _ => True.intro) (kn (n := 9)) fun _ _ _ _ => True.intro) fun v H8 f8 ⟨hour, ev, _⟩ => ?_
    subst ev
    have f58 := (f6.trans f7).trans f8
    have hr8 := f58.dk nr hr5
    refine fq_asg f8.b (ef_I0 (P := fun _ => True) (P1 := fun _ => True) (P3 := fun _ => True) (ef_I0 (P1 := fun _ => True) (P3 := fun _ => True) (ef_I0 (P1 := fun _ => True) (ef_int (fun _ _ => ev_op (ev_var rfl) (ev_var rfl) rv_I0) True.intro)
      (ef_draw (n := w.2.2.2 - w.2.2.1 + 1) (fun H9 e9 => ea_cons (ev_var rfl) (ea_cons (ev_op (ev_op (ev_var rfl) (ev_var rfl) rv_I0) ev_c rv_I0) ea_nil)) (by omega) (by omega)) fun _ _ _ _ => True.intro)
      (ef_int (fun H9 f9 => ev_dgetK (ev_var rfl) (ev_var rfl) (f9.dk nr hr8) hna) True.intro) fun _ _ _ _ => True.intro) (ef_int (fun H9 f9 => ev_dgetK (ev_var rfl) (ev_var rfl) (f9.dk nr hr8) hne) True.intro) fun _ _ _ _ => True.intro) fun v H9 f9 ⟨late, ev, _⟩ => ?_
    subst ev
    have f59 := f58.trans f9
    have hli9 := f59.lst hli5
    refine fq_whenAsg (v0 := .int late) (R := IntR fun _ => True) (M := fun v _ => ∃ i, v = .int i) f9.b (eft_of fun H10 f10 => et_or (et_test (ev_op (ev_var rfl) (ev_var rfl) (rv_isL (sq_of (f10.lst hli9)) rfl flat_strs))) fun _ => et_test (ev_op (ev_var rfl) (ev_var rfl) (rv_isL (sq_of (f10.lst hli9)) rfl flat_strs)))
      (fun _ => ef_I0 (P1 := fun _ => True) (ef_I0 (P1 := fun _ => True) (ef_int (fun _ _ => ev_var rfl) True.intro) (dr (n := 9) rfl (by decide) (by decide)) fun _ _ _ _ => True.intro) (kn (n := 4)) fun _ _ _ _ => True.intro) rfl (fun v _ _ ⟨i, z, _⟩ => ⟨i, z⟩) (fun _ _ _ => ⟨_, rfl⟩) fun v H10 f10 ⟨late2, ev⟩ => ?_
    subst ev
    have f510 := f59.trans f10
    have hcs10 := f510.lst hcs
    refine q_appU (ys := [.str a, .str e, .int hour, .int late2]) hcs10 (ev_var rfl) (eu_tup (ea_cons (ev_var rfl) (ea_cons (ev_var rfl) (ea_cons (ev_var rfl) (ea_cons (ev_var rfl) ea_nil)))) (sz_of' (Nat.le_of_ble_eq_true rfl))) (by rw [List.length_map]; omega) fun tq H11 ntq e11 htq => ?_
    have hcs11 := e11 _ _ hcs10
    have t11 := Tx.lst (o := .lst (cs.map V.ref ++ [.ref tq])) hcs11
    have f311 : FOk d c H3 (upd H11 f (.lst (cs.map V.ref ++ [.ref tq]))) := ((f5.trans f510).ex e11).mut nf
    have pcs2 : Paired (IsT4 (upd H11 f (.lst (cs.map V.ref ++ [.ref tq])))) (cs ++ [tq]) (run ++ [(a, e, hour, late2)]) := paired_snoc (paired_imp (fun _ _ z => z.tx ((f510.ex e11).tx.trans t11)) pcs) (t11 _ _ htq)
    have hcs12 : upd H11 f (.lst (cs.map V.ref ++ [.ref tq])) f = some (.lst ((cs ++ [tq]).map V.ref)) := by rw [upd_same, List.map_append]; rfl
    have hr12 : upd H11 f (.lst (cs.map V.ref ++ [.ref tq])) r = some (.dK (dkv kvs)) := by rw [upd_ne nwr.symm]; exact (f510.ex e11).dk nr hr5
    have hli12 : upd H11 f (.lst (cs.map V.ref ++ [.ref tq])) li = some (.lst (ss.map V.str)) := by rw [upd_ne nwl.symm]; exact (f510.ex e11).lst hli5
    generalize upd H11 f (.lst (cs.map V.ref ++ [.ref tq])) = H12 at f311 pcs2 hcs12 hr12 hli12
    have hbd2 : ∀ l ∈ run ++ [(a, e, hour, late2)], ∃ p, bnd T.wires l.1 l.2.1 = some p := fun l hl => by
      rcases List.mem_append.mp hl with z | z
      · exact hbd l z
      · rw [List.mem_singleton.mp z]; exact ⟨bp, hbp⟩
    have hrl2 : (run ++ [(a, e, hour, late2)]).length ≤ 2 * i + 1 := by rw [List.length_append]; exact Nat.succ_le_succ hrl
    obtain ⟨z1, cs1, ec⟩ : ∃ z r, cs ++ [tq] = z :: r := by cases cs with | nil => exact ⟨_, _, rfl⟩ | cons a b => exact ⟨_, _, rfl⟩
    have clr2 := paired_len pcs2
    generalize run ++ [(a, e, hour, late2)] = run2 at pcs2 hbd2 hrl2 clr2
    generalize cs ++ [tq] = cs2 at pcs2 hcs12 ec clr2
    subst ec
    refine f_when f311.b (eft_test (ef_eq (dr (n := 7) rfl (by decide) (by decide)) (kn (n := 0)))) (fun _ H13 f13 => ?_) fun _ H13 f13 => ?_
    · have hcs13 := f13.lst hcs12
      refine s_app (v := .ref z1) hcs13 (ev_var rfl) (ev_op (ev_var rfl) (ev_c (v := .int 0)) (rv_ixL (K := K) (sq_of hcs13) (atI_nat (j := 0) rfl))) (by rw [List.length_map]; omega) fun H14 e14 => ?_
      have hcs14 := e14 _ _ hcs13
      have t14 := Tx.lst (o := .lst ((z1 :: cs1).map V.ref ++ [.ref z1])) hcs14
      cases pcs2 with
      | @cons _ l0 _ run3 pz pt =>
        have tt := (f13.ex e14).tx.trans t14
        refine ⟨⟨_, _, _, _, _, _, _, _, _, _, rfl⟩, ((f311.trans f13).ex e14).mut nf, ?_, ?_, (l0 :: run3) ++ [l0], ⟨(z1 :: cs1) ++ [z1], by rw [upd_same, List.map_append]; rfl, paired_snoc (.cons (IsT4.tx tt pz) (paired_imp (fun _ _ z => IsT4.tx tt z) pt)) (IsT4.tx tt pz)⟩, fun l hl => ?_, ?_⟩
        · rw [upd_ne nwr.symm]; exact (f13.ex e14).dk nr hr12
        · rw [upd_ne nwl.symm]; exact (f13.ex e14).lst hli12
        · rcases List.mem_append.mp hl with z | z
          · exact hbd2 l z
          · rw [List.mem_singleton.mp z]; exact hbd2 l0 List.mem_cons_self
        · rw [List.length_append]
          show (l0 :: run3).length + 1 ≤ _
          omega
    · exact ⟨⟨_, _, _, _, _, _, _, _, _, _, rfl⟩, f311.trans f13, f13.dk nr hr12, f13.lst hli12, run2, ⟨z1 :: cs1, f13.lst hcs12, paired_imp (fun _ _ z => IsT4.tx f13.tx z) pcs2⟩, hbd2, by omega⟩
  · subst es
    refine s_retR (R := fun v H2 => ∃ y, v = .ref y ∧ TupOf IsT4 H2 y run) (er_cbR (er_of (ev_var (v := .ref f) rfl)) fun v H6 e6 hv Q k => ?_) fun v H6 e6 ⟨z, ev, hz⟩ => ?_
    · subst hv
      exact ⟨f, cs.map V.ref, rfl, Or.inl ⟨sq_of (e6 _ _ hcs), fun u nu => k _ _ (Ex.new nu) ⟨u, rfl, cs, upd_same, paired_imp (fun _ _ z => z.tx (Tx.of (e6.trans (Ex.new nu)))) pcs⟩⟩⟩
    · subst ev
      have f6 := (f03.trans f5).ex e6
      exact q z run H6 f6.e f6.b hz ⟨hbd, by omega⟩
theorem sc_law_ring_due : FnScope ["_law_place_here", "_law_mail", "_law_out", "_law_steps", "_law_found"] ["_law_place_here", "_law_mail", "_law_out", "_law_steps"] (defScope s_law_ring_due) := ⟨rfl, rfl, rfl, by decide +kernel, rfl, by decide +kernel, by decide +kernel⟩
def dstep (s : Nat × Str) : PyData := .tuple [.int (s.1 : Nat), .str s.2]
theorem dp_steps {K : PySem.W.Frag} {H : Hp} {bs : List Addr} {steps : List (Nat × Str)} (h : Paired (IsStep H) bs steps) : DpAll K H (bs.map V.ref) (steps.map dstep) := by
  induction h with
  | nil => exact .nil
  | cons r _ ih => exact .cons (.tup (st_of r) (.cons (.int _) (.cons (.str _) .nil))) ih
theorem shaped_steps {steps : List (Nat × Str)} (h : ∀ s ∈ steps, goodName s.2 = true) : SeqAt.shaped (.tuple (steps.map dstep)) = true := by
  have h1 : ∀ l : List (Nat × Str), (∀ s ∈ l, goodName s.2 = true) → PyData.canLayAll0 (l.map dstep) = true := by
    intro l
    induction l with
    | nil => intro _; simp [PyData.canLayAll0]
    | cons s r ih =>
      intro hl
      have z := ih fun x hx => hl x (List.mem_cons_of_mem _ hx)
      have z2 := strOk_good (hl s List.mem_cons_self)
      rw [List.map_cons]
      simp [PyData.canLayAll0, PyData.canLay0, dstep, z, z2]
  have h2 : ∀ l : List (Nat × Str), PyData.depthAll (l.map dstep) ≤ 1 := by
    intro l
    induction l with
    | nil => simp [PyData.depthAll]
    | cons s r ih =>
      rw [List.map_cons]
      simp only [PyData.depthAll, dstep, PyData.depth]
      omega
  have h3 := h2 steps
  unfold SeqAt.shaped
  show (PyData.canLayAll0 _ && decide (PyData.depthAll _ + 1 ≤ 64)) = true
  rw [h1 steps h, Bool.true_and]
  exact decide_eq_true (by omega)
theorem c_law_ring_due (T : Top K mg) : ∃ f fd, Cal P w K mg base 3 "_law_ring_due" ["_law_place_here", "_law_mail", "_law_out", "_law_steps"] sp_law_ring_due f fd := by
  obtain ⟨_, _, C_law_chain_fault⟩ := c_law_chain_fault (P := P) (w := w) (base := base) T
  refine cal_mk (k := 2) (i := 40) (st := s_law_ring_due) T rfl sc_law_ring_due (fun _ _ _ _ _ _ us hl => match us, hl with | [_, _, _, _], _ => rfl) (fun vs H Q E h => ?_) (fun {f cdv A outer s H vs Q E} hr h => ?_)
  · obtain ⟨_, rfl, _⟩ := h
    rfl
  have hu := hu_of hr
  refine ⟨_, (pss_cons (ps_if (pt_cmpR (op_eqD hr.units) (pv 3) (pe_tup pa_nil) (nomark _)) 
          (pss_one (ps_ret (pe_tup (pa_cons pe_str (pa_cons (pe_un un_neg pe_int) pa_nil))))) pss_nil)
        (pss_cons (ps_set (i := 4) sc_law_ring_due.nd rfl (Or.inl rfl) (pe_call C_law_chain_fault.ok (hr.mono (by decide)) (by rfl) C_law_chain_fault.mg C_law_chain_fault.kp C_law_chain_fault.bd .nil pass0 (pa_cons (pv 0) (pa_cons (pv 1) (pa_cons (pv 2) (pa_cons (pv 3) pa_nil))))))
        (pss_cons (ps_if (pt_cmpR op_ne (pe_ix ix_tup (pv 4) pe_int (fun _ _ => rfl)) pe_str (nomark _)) 
          (pss_one (ps_ret (pv 4))) pss_nil)
        (pss_cons (ps_if (pt_cmpR op_ne (pe_ix ix_tup (pv 4) pe_int (fun _ _ => rfl)) (pe_ix ix_tup (pv 4) pe_int (fun _ _ => rfl)) (nomark _)) 
          (pss_one (ps_ret (pe_tup (pa_cons pe_str (pa_cons pe_int pa_nil))))) pss_nil)
        (pss_one (ps_ret (pe_ifExp (pt_cmpR op_ge (pe_ix ix_tup (pv 4) pe_int (fun _ _ => rfl)) pe_int (nomark _)) (pe_tup (pa_cons pe_str (pa_cons (pe_un un_neg pe_int) pa_nil))) pe_non))))))), ?_⟩
  obtain ⟨c, rfl, ⟨k, eae, neg⟩, q⟩ := h
  have gd4 := k.g.gt
  obtain ⟨bs, ps, psr⟩ := id k.st
  have good : ∀ s ∈ c.steps, goodName s.2 = true := fun s hs => by
    have z := NH.chain_mem (p := fun x => x ∈ c.g.2.1.names) (fun t ht => (List.mem_filter.mp (tie_ends k.g.gt (lot := c.g.2.2.2) (k := 0) k.g.gr.1 t ht).2.1).1) k.ch s.2 (List.mem_map.mpr ⟨s, hs, rfl⟩)
    exact k.g.gt.nms.nm _ z
  obtain ⟨s0, sr, es⟩ := List.exists_cons_of_ne_nil k.ne
  refine q_when (b := false) (et_test (ev_opR (R1 := fun v _ => v = .ref c.s) (er_of (ev_var rfl)) (fun _ _ _ _ z => z) (er_tup (vs := []) ea_nil (Nat.zero_le _)) fun x y H1 e1 hx ⟨p, ey, hp⟩ => ?_)) (fun z => by cases z) fun _ H1 e1 => ?_
  · subst hx ey
    intro H2 e2 Q kq
    refine ⟨.tuple (c.steps.map dstep), .tuple [], .tup (st_of ((e1.trans e2) _ _ ps)) (dp_steps (paired_imp (fun _ _ z => z.tx (Tx.of (e1.trans e2))) psr)), .tup (st_of (e2 _ _ hp)) .nil, shaped_steps good, rfl, ?_⟩
    rw [es]
    exact kq H2 (Ex.refl _)
  refine q_asgR (er_call (R := fun v H2 => ∃ p, v = .ref p ∧ H2 p = some (.tup [.str "sum", .int c.tot, .str c.a, .str c.e])) (ea_cons (ev_var rfl) (ea_cons (ev_var rfl) (ea_cons (ev_var rfl) (ea_cons (ev_var rfl) ea_nil)))) fun H2 e2 Q q E => ⟨c, rfl, ⟨k.g.tx (Tx.of (e1.trans e2)), k.st.tx (fun _ _ z => z.tx (Tx.of (e1.trans e2))) (Tx.of (e1.trans e2)), k.ne, k.few, k.ch⟩, q⟩) fun v H2 e2 ⟨p, ev, hp⟩ => ?_
  subst ev
  have at_ : ∀ {H3 : Hp} {σ : L2.St} (j : Nat) {v : V}, Ex H2 H3 → σ[4]? = some (some (.ref p)) → ([.str "sum", .int c.tot, .str c.a, .str c.e] : List V)[j]? = some v → Ev (tOp (rIxT K) (tVar 4) (tC (.int (j : Nat)))) σ H3 v := fun {H3} {σ} j {v} e s hj => ev_op (ev_var s) ev_c (rv_ixT (st_of (e _ _ hp)) (atI_nat hj))
  refine q_when (b := false) (et_is (et_test (ev_op (at_ 0 (Ex.refl _) rfl rfl) ev_c (rv_ne rfl))) (by rw [decide_eq_true rfl]; rfl)) (fun z => by cases z) fun _ H3 e3 => ?_
  refine q_when (b := false) (et_is (et_test (ev_op (at_ 2 e3 rfl rfl) (at_ 3 e3 rfl rfl) (rv_ne rfl))) (by rw [eae, decide_eq_true rfl]; rfl)) (fun z => by cases z) fun _ H4 e4 => ?_
  exact s_ret (v := .non) (ev_if (b := false) (et_is (et_test (ev_op (at_ 1 (e3.trans e4) rfl rfl) ev_c rv_I0)) (decide_eq_false (Int.not_le.mpr neg))) (fun z => by cases z) fun _ => ev_c) fun H5 e5 => q H5 ((((e1.trans e2).trans e3).trans e4).trans e5)
theorem sc_law_ring_rows : FnScope ["_law_place_here", "_law_mail", "_law_least", "_law_found", "_law_start", "_law_end", "_law_most", "_law_k", "_law_rest", "_law_name", "_law_names", "_law_total", "_law_here", "_law_first"] ["_law_place_here", "_law_mail"] (defScope s_law_ring_rows) := ⟨rfl, rfl, rfl, by decide +kernel, rfl, by decide +kernel, by decide +kernel⟩
theorem mu_few {T : Twn} (G : GoodTown T) : NH.mu T.names.length (T.names.map fun x => (([x], 0) : NH.El Str)) ≤ 38880 := by
  rw [NH.mu_start]
  have h := G.nms.len
  have h2 : (T.names.length + 1) ^ T.names.length ≤ 6 ^ 5 := Nat.le_trans (Nat.pow_le_pow_left (by omega) _) (Nat.pow_le_pow_right (by omega) h)
  exact Nat.le_trans (Nat.mul_le_mul h h2) (by decide)
theorem dictW_step {H : Hp} {l : Addr} {ts : List (NH.Tie Str)} {t : NH.Tie Str} {kvs : List (List Key × V)} {n : Nat} (hn : kvs.length ≤ n) (h : ∀ a b, valV kvs [.inr a, .inr b] = (NH.leastOf ts a b).map V.int) :
    DictW (upd H l (.dT (putK kvs [.inr t.one, .inr t.other] (.int (min t.most ((NH.leastOf ts t.one t.other).getD t.most)))))) l (NH.leastOf (ts ++ [t])) (n + 1) := by
  refine ⟨_, upd_same, Nat.le_trans (length_putK _ _ _) (Nat.succ_le_succ hn), fun a b => ?_⟩
  rw [valV_put, NH.leastOf_snoc]
  unfold NH.lfStep
  by_cases c : a = t.one ∧ b = t.other
  · rw [if_pos c, if_pos (by rw [c.1, c.2])]
    obtain ⟨c1, c2⟩ := c
    subst c1 c2
    rfl
  · rw [if_neg c, if_neg (fun z => c (by simpa using z)), h]
theorem closes_iff {W : Str → Str → Option Int} {q : List Str} {t : Int} {f l : Str} (hf : q.head? = some f) (hl : q.getLast? = some l) :
    NH.Closes W q t ↔ (decide (1 < q.length) && ((W l f).isSome && decide (t + (W l f).getD 0 < 0))) = true := by
  unfold NH.Closes
  rw [Bool.and_eq_true, Bool.and_eq_true, decide_eq_true_eq, decide_eq_true_eq]
  constructor
  · rintro ⟨h1, f', l', w, z1, z2, z3, z4⟩
    have e1 : f = f' := Option.some.inj (hf.symm.trans z1)
    have e2 : l = l' := Option.some.inj (hl.symm.trans z2)
    subst e1 e2
    rw [z3]
    exact ⟨h1, rfl, z4⟩
  · rintro ⟨h1, h2, h3⟩
    obtain ⟨w, hw⟩ := Option.isSome_iff_exists.mp h2
    rw [hw] at h3
    exact ⟨h1, f, l, w, hf, hl, hw, h3⟩
theorem c_law_ring_rows (T : Top K mg) : ∃ f fd, Cal P w K mg base 3 "_law_ring_rows" ["_law_place_here", "_law_mail"] sp_law_ring_rows f fd := by
  obtain ⟨_, _, C_law_ties⟩ := c_law_ties (P := P) (w := w) (base := base) T
  refine cal_mk (k := 2) (i := 41) (st := s_law_ring_rows) T rfl sc_law_ring_rows (fun _ _ _ _ _ _ us hl => match us, hl with | [_, _], _ => rfl) (fun vs H Q E h => ?_) (fun {f cdv A outer s H vs Q E} hr h => ?_)
  · obtain ⟨_, rfl, _⟩ := h
    rfl
  have hu := hu_of hr
  refine ⟨_, (pss_cons (ps_par (i := 2) (j := 3) rfl sc_law_ring_rows.nd rfl rfl (by decide) rfl rfl (pa_cons pe_dnewT (pa_cons (pe_lst pa_nil) pa_nil)) (by rfl))
        (pss_cons (ps_for PassesOwn.never rfl (pi_list (pe_call C_law_ties.ok (hr.mono (by decide)) (by rfl) C_law_ties.mg C_law_ties.kp C_law_ties.bd .nil pass0 (pa_cons (pv 0) (pa_cons (pv 1) (pa_cons (pe_tup pa_nil) pa_nil))))) (pg_tup rfl (pgs_cons (pg_name (i := 4) sc_law_ring_rows.nd rfl (Or.inl rfl)) (pgs_cons (pg_name (i := 5) sc_law_ring_rows.nd rfl (Or.inl rfl)) (pgs_cons (pg_name (i := 6) sc_law_ring_rows.nd rfl (Or.inl rfl)) (pgs_cons (pg_name (i := 7) sc_law_ring_rows.nd rfl (Or.inl rfl)) pgs_nil))))) 
          (pss_one (ps_dput hu (pv 2) (pe_tup (pa_cons (pv 4) (pa_cons (pv 5) pa_nil))) (pe_callB (cr_min rfl) (by rfl) T.b_min boot_min (pa_cons (pe_lst (pa_cons (pv 6) (pa_cons (pe_dget2 hu (pv 2) (pe_tup (pa_cons (pv 4) (pa_cons (pv 5) pa_nil))) (pv 6) ⟨rfl, rfl, rfl, rfl⟩) pa_nil))) pa_nil)) rfl)))
        (pss_cons (ps_setLc (i := 8) (own := [("_law_name", 9)]) (g := (gName 9)) rfl sc_law_ring_rows.nd rfl rfl (sw_true rfl rfl rfl (by decide +kernel)) (pi_tup (pe_ix ix_tup (pv 0) pe_int (fun _ _ => rfl))) (blkOk_by (own := [("_law_name", 9)]) (N := ["_law_place_here", "_law_mail", "_law_least", "_law_found", "_law_start", "_law_end", "_law_most", "_law_k", "_law_rest", "_law_name", "_law_names", "_law_total", "_law_here", "_law_first"]) (sc := defScope s_law_ring_rows) (by decide +kernel)) (fun _ _ _ _ _ => (pg_name (i := 9) sc_law_ring_rows.nd rfl (Or.inl rfl))) (fun _ _ _ _ _ => pts_nil) (fun _ _ _ _ _ => (pe_tup (pa_cons (pe_tup (pa_cons (pv 9) pa_nil)) (pa_cons pe_int pa_nil)))))
        (pss_cons (ps_while PassesOwn.never (pt_cmpR (op_neD hr.units) (pv 8) (pe_lst pa_nil) (nomark _)) 
          (pss_cons (ps_asg (pe_bm0 PySem.F.plainAttrs_list PySem.F.slot_list_pop PySem.F.type_list_pop mt_pop (pv 8)) (pg_tup rfl (pgs_cons (pg_name (i := 10) sc_law_ring_rows.nd rfl (Or.inl rfl)) (pgs_cons (pg_name (i := 11) sc_law_ring_rows.nd rfl (Or.inl rfl)) pgs_nil))))
          (pss_cons (ps_par (i := 12) (j := 13) rfl sc_law_ring_rows.nd rfl rfl (by decide) rfl rfl (pa_cons (pe_ix ix_tup (pv 10) (pe_un un_neg pe_int) (fun _ _ => rfl)) (pa_cons (pe_ix ix_tup (pv 10) pe_int (fun _ _ => rfl)) pa_nil)) (by rfl))
          (pss_cons (ps_if (PW.pt (pw_and (pt_cmpR op_gt (pe_callB call_len_seq (by rfl) T.b_len boot_len (pa_cons (pv 10) pa_nil)) pe_int (nomark _)) (pw_and (pt_cmp (pc_din hu (pe_tup (pa_cons (pv 12) (pa_cons (pv 13) pa_nil))) (pv 2))) (pw_and1 (pt_cmpR op_lt (pe_op op_add (pv 11) (pe_dget hu (pv 2) (pe_tup (pa_cons (pv 12) (pa_cons (pv 13) pa_nil))) (fun _ _ => rfl))) pe_int (nomark _)))))) 
            (pss_one (ps_expr (pe_bm PySem.F.plainAttrs_list PySem.F.slot_list_append PySem.F.type_list_append mt_append (pv 3) (pa_cons (pv 10) pa_nil)))) pss_nil)
          (pss_one (ps_for PassesOwn.never rfl (pi_tup (pe_ix ix_tup (pv 0) pe_int (fun _ _ => rfl))) (pg_name (i := 9) sc_law_ring_rows.nd rfl (Or.inl rfl)) 
            (pss_one (ps_if (PW.pt (pw_and (pt_cmpR op_gt_str (pv 9) (pv 13) (nomark _)) (pw_and (pt_cmpR op_notIn_seq (pv 9) (pv 10) (by rfl)) (pw_and1 (pt_cmp (pc_din hu (pe_tup (pa_cons (pv 12) (pa_cons (pv 9) pa_nil))) (pv 2))))))) 
              (pss_one (ps_expr (pe_bm PySem.F.plainAttrs_list PySem.F.slot_list_append PySem.F.type_list_append mt_append (pv 8) (pa_cons (pe_tup (pa_cons (pe_op op_catA (pv 10) (pe_tup (pa_cons (pv 9) pa_nil))) (pa_cons (pe_op op_add (pv 11) (pe_dget hu (pv 2) (pe_tup (pa_cons (pv 12) (pa_cons (pv 9) pa_nil))) (fun _ _ => rfl))) pa_nil))) pa_nil)))) pss_nil))))))))
        (pss_one (ps_ret (pv 3))))))), ?_⟩
  obtain ⟨⟨⟨t, r⟩, T, run⟩, rfl, ⟨pt, pr, G, R⟩, q⟩ := h
  have pt : IsTown H t T := pt
  have pr : TupOf IsT4 H r run := pr
  have G : GoodTown T := G
  have R : GoodRun T run := R
  have n5 := G.nms.len
  refine q_par er_newT (fun v H1 H2 e ⟨p, h1, h2, h3⟩ => ⟨p, h1, h2, e _ _ h3⟩) er_newLF fun x y H1 e1 ⟨l, ex, nl, hl⟩ ⟨f, ey, nf, hf⟩ => ?_
  subst ex ey
  have lf : l ≠ f := fun z => by rw [z, hf] at hl; cases hl
  refine er_callA (ear_v (ev_var (i := 0) rfl) (ear_v (ev_var (i := 1) rfl) (ear_cons (er_tup (vs := []) ea_nil (Nat.zero_le _)) tupAt_ex ear_nil))) (R := RTies ((0, 0, 0), T, run, [])) (fun vs H2 e2 ⟨ws, ev, ws2, ev2, v0, ws3, ev3, ⟨o, eo, ho⟩, ev4⟩ Q q E => ?_) H1 (Ex.refl _) _ fun v H2 e2 ⟨p, ev, bs, hp, pb⟩ => ?_
  rotate_left
  · subst ev ev2 ev3 eo ev4
    exact ⟨((t, r, o), T, run, []), rfl, ⟨pt.tx (Tx.of (e1.trans e2)), T4s.tx (Tx.of (e1.trans e2)) pr, ho, G, R⟩, q⟩
  subst ev
  have hp : H2 p = some (.lst (bs.map V.ref)) := hp
  have pb : Paired (IsTie H2) bs (tiesOf T run []) := pb
  have lp : l ≠ p := fun z => by have := e2 _ _ hl; rw [z, hp] at this; cases this
  have lb := paired_len pb
  have nb : bs.length ≤ 40 := by
    have z := tiesOf_len (T := T) (lot := []) 0 run
    have z2 := R.2
    rw [lb]
    show (tiesFrom T [] 0 run).length ≤ 40
    omega
  have e02 := e1.trans e2
  refine ⟨p, rfl, ⟨_, sq_of hp⟩, for_it (walk_list (xs := bs.map V.ref)) (fun i σ' H' => (∃ u4 u5 u6 u7 u8 u9 u10 u11 u12 u13, σ' = [some (.ref t), some (.ref r), some (.ref l), some (.ref f), u4, u5, u6, u7, u8, u9, u10, u11, u12, u13]) ∧ Exb l H2 H' ∧ DictW H' l (NH.leastOf ((tiesOf T run []).take i)) i)
    ⟨⟨_, _, _, _, _, _, _, _, _, _, rfl⟩, Exb.refl _ _, [], e2 _ _ hl, Nat.le_refl _, fun a b => rfl⟩ (fun i σ' H' _ z => sq_of (z.2.1 _ _ lp.symm hp)) (fun i v σ' H' H3 hi ⟨⟨u4, u5, u6, u7, u8, u9, u10, u11, u12, u13, es⟩, e', kvs, hk, hkl, hkv⟩ yv => ?_) fun σ' H' ⟨⟨u4, u5, u6, u7, u8, u9, u10, u11, u12, u13, es⟩, e', hd⟩ => ?_⟩
  · subst es
    obtain ⟨e34, hv⟩ := yv
    subst e34
    rw [List.getElem?_map] at hv
    obtain ⟨b0, hb0, eb0⟩ := Option.map_eq_some_iff.mp hv
    subst eb0
    have li := (List.getElem?_eq_some_iff.mp hb0).1
    have hw := List.getElem?_eq_getElem (show i < (tiesOf T run []).length by omega)
    have pb0 := paired_get (F := IsTie H2) pb hb0 hw
    have tk : (tiesOf T run []).take (i + 1) = (tiesOf T run []).take i ++ [(tiesOf T run [])[i]] := by rw [List.take_add_one, hw]; rfl
    rw [tk]
    generalize (tiesOf T run [])[i] = ti at pb0
    generalize (tiesOf T run []).take i = ts at hkv
    have tx : Tx H2 H3 := e'.tx fun xs z => by rw [e2 _ _ hl] at z; cases z
    have pb0 : H3 b0 = some (.tup [.str ti.one, .str ti.other, .int ti.most, .int ti.idx]) := tx _ _ pb0
    refine ⟨b0, _, rfl, st_of pb0, rfl, _, _, rfl, _, _, rfl, _, _, rfl, _, _, rfl, rfl, ?_⟩
    dsimp only
    have hg : (valV kvs [.inr ti.one, .inr ti.other]).getD (.int ti.most) = .int ((NH.leastOf ts ti.one ti.other).getD ti.most) := by
      rw [hkv]
      cases NH.leastOf ts ti.one ti.other <;> rfl
    refine s_dputT (v := .int (min ti.most ((NH.leastOf ts ti.one ti.other).getD ti.most))) (ev_min2 (ev_var rfl) (ev_is (ev_dget2T (ev_var rfl) (ea_cons (ev_var rfl) (ea_cons (ev_var rfl) ea_nil)) (ev_var rfl) hk) hg)) (ev_var rfl) (ea_cons (ev_var rfl) (ea_cons (ev_var rfl) ea_nil)) hk (by omega) fun H4 e4 => ?_
    exact ⟨⟨_, _, _, _, _, _, _, _, _, _, rfl⟩, Exb.set (e'.ex e4), dictW_step hkl hkv⟩
  subst es
  rw [List.length_map, lb, List.take_length] at hd
  have e0' : Ex H H' := Exb.base e02 nl e'
  have hf' : H' f = some (.lst []) := e' _ _ lf.symm (e2 _ _ hf)
  obtain ⟨x, y, pt0, px, py⟩ := pt
  have px : H x = some (.tup (T.names.map V.str)) := px
  have place : ∀ {σ : L2.St} {H3 : Hp}, Ex H H3 → σ[0]? = some (some (.ref t)) → Ev (tOp (rIxT K) (tVar 0) (tC (.int 0))) σ H3 (.ref x) := fun {σ H3} e z => ev_op (ev_var z) ev_c (rv_ixT (st_of (e _ _ pt0)) (atI_nat (j := 0) rfl))
  refine q_asgR (R := fun v H3 => ∃ s, v = .ref s ∧ H' s = none ∧ LstOf IsEl H3 s (T.names.map fun x => ([x], 0))) (er_lcT (f := fun _ => true) (R := fun i v H3 => ∃ b, v = .ref b ∧ IsEl H3 b ((T.names.map fun x => (([x], 0) : NH.El Str)).getD i ([], 0))) (place e0' rfl) (st_of (e0' _ _ px)) (by rw [List.length_map]; omega) (fun _ => rfl)
    (fun _ _ _ _ e ⟨b, z1, z2⟩ => ⟨b, z1, z2.tx e⟩) (fun i2 v H3 hv e3 => ?_) fun D ys H3 hD e3 h3 hpr => ?_) fun v H3 e3 ⟨s, ev, ns, hs⟩ => ?_
  · rw [List.getElem?_map] at hv
    obtain ⟨nm, hnm, ev⟩ := Option.map_eq_some_iff.mp hv
    subst ev
    have eg : (T.names.map fun x => (([x], 0) : NH.El Str)).getD i2 ([], 0) = ([nm], 0) := getD_at (by rw [List.getElem?_map, hnm]; rfl)
    rw [eg]
    refine ⟨et_yes, fun _ => er_imp (er_tup2R (er_tup (vs := [.str nm]) (ea_cons (ev_var rfl) ea_nil) (Nat.le_of_ble_eq_true rfl)) tupAt_ex (er_of (ev_c (v := .int 0))) (fun _ _ _ _ z => z)) ?_⟩
    rintro v H5 e5 ⟨b, x1, y1, ev, hb, ⟨q1, e6, hq⟩, e7⟩
    subst e6 e7
    exact ⟨b, ev, q1, hb, hq⟩
  · rw [filter_tt, List.length_map, show T.names.length = (T.names.map fun x => (([x], 0) : NH.El Str)).length by rw [List.length_map]] at hpr
    obtain ⟨cs, ec, pc⟩ := refs_ofD (R := IsEl H3) hpr
    subst ec
    exact ⟨D, rfl, hD, cs, h3, pc⟩
  subst ev
  have fs : f ≠ s := fun z => by rw [z, ns] at hf'; cases hf'
  have ls : l ≠ s := fun z => by obtain ⟨kvs, z1, _⟩ := hd; rw [z, ns] at z1; cases z1
  have n0 := mu_few G
  generalize hWd : NH.leastOf (tiesOf T run []) = W at hd
  refine q_while (fun m σ' H4 => (∃ u4 u5 u6 u7 u9 u10 u11 u12 u13, σ' = [some (.ref t), some (.ref r), some (.ref l), some (.ref f), u4, u5, u6, u7, some (.ref s), u9, u10, u11, u12, u13]) ∧ Ex H H4 ∧ DictW H4 l W 40 ∧ ∃ st found, LstOf IsTs H4 f found ∧ LstOf IsEl H4 s st ∧ NH.DInv lt T.names W st found ∧ found.length + m ≤ 38880 ∧ m = NH.mu T.names.length st)
    (NH.mu T.names.length (T.names.map fun x => (([x], 0) : NH.El Str))) ?_ (fun m σ' H4 ⟨⟨u4, u5, u6, u7, u9, u10, u11, u12, u13, es⟩, e4, ⟨kvs, hk, hkl, hkv⟩, st, found, ⟨fa, hf4, pf⟩, ⟨sa, hs4, ps⟩, dv, hm, em⟩ => ?_)
  · obtain ⟨kvs, z1, z2, z3⟩ := hd
    refine ⟨⟨_, _, _, _, _, _, _, _, _, rfl⟩, e0'.trans e3, ⟨kvs, e3 _ _ z1, by omega, z3⟩, _, [], ⟨[], e3 _ _ hf', .nil⟩, hs, NH.DInv.start, ?_, rfl⟩
    show 0 + _ ≤ _
    omega
  subst es
  have gd : ∀ e ∈ st, ∀ x ∈ e.1, goodName x = true := fun e he x hx => G.nms.nm _ ((dv.good e he).mem x hx)
  refine ⟨!decide (st = []), et_test (ev_opR (R1 := fun v _ => v = .ref s) (er_of (ev_var rfl)) (fun _ _ _ _ z => z) (er_newL) fun x y H5 e5 hx ⟨p5, ey, hp5⟩ => ?_), fun hb H5 e5 => ?_, fun hb H5 e5 => ?_⟩
  · subst hx ey
    intro H6 e6 Q k
    refine ⟨.list (st.map del), .list [], .lst (sq_of ((e5.trans e6) _ _ hs4)) (dp_els (paired_imp (fun _ _ z => z.tx (Tx.of (e5.trans e6))) ps)), .lst (sq_of (e6 _ _ hp5)) .nil, shaped_els gd, rfl, ?_⟩
    cases st with
    | nil => exact k H6 (Ex.refl _)
    | cons a b => exact k H6 (Ex.refl _)
  · have ne : st ≠ [] := fun z => by subst z; exact absurd hb (by decide)
    have e45 := e4.trans e5
    obtain ⟨st0, ⟨qn, tt⟩, est⟩ : ∃ a b, st = a ++ [b] := ⟨st.dropLast, st.getLast ne, (List.dropLast_concat_getLast ne).symm⟩
    subst est
    obtain ⟨sa0, b, esa, ps0, qa, hb1, hb2⟩ := paired_unsnoc ps
    subst esa
    have gq := dv.good (qn, tt) (List.mem_append_right _ List.mem_cons_self)
    obtain ⟨fst, qr, eq, _, _⟩ := gq.ex
    have eq : qn = fst :: qr := eq
    have hfst : qn.head? = some fst := by rw [eq]; rfl
    obtain ⟨lst, hlst⟩ : ∃ z, qn.getLast? = some z := by
      cases h : qn.getLast? with
      | some z => exact ⟨z, rfl⟩
      | none => rw [List.getLast?_eq_none_iff.mp h] at eq; cases eq
    have ql := gq.len
    have ql : qn.length ≤ T.names.length := ql
    have hb1 : H4 b = some (.tup [.ref qa, .int tt]) := hb1
    have hb2 : H4 qa = some (.tup (qn.map V.str)) := hb2
    have m0 : NH.mu T.names.length (st0 ++ [(qn, tt)]) = NH.mu T.names.length st0 + NH.wgt T.names.length qn := by
      rw [NH.mu_app]
      simp [NH.mu]
    have w0 := NH.wgt_pos T.names.length qn
    have stl := NH.len_mu T.names.length st0
    refine ⟨fun σ6 H6 => ∃ m', m' < m ∧ ((∃ u4 u5 u6 u7 u9 u10 u11 u12 u13, σ6 = [some (.ref t), some (.ref r), some (.ref l), some (.ref f), u4, u5, u6, u7, some (.ref s), u9, u10, u11, u12, u13]) ∧ Ex H H6 ∧ DictW H6 l W 40 ∧ ∃ st found, LstOf IsTs H6 f found ∧ LstOf IsEl H6 s st ∧ NH.DInv lt T.names W st found ∧ found.length + m' ≤ 38880 ∧ m' = NH.mu T.names.length st), fun _ _ z => z, ?_⟩
    refine q_popT (v := .ref b) (e5 _ _ hs4) (ev_var rfl) (by simp) fun H6 e6 => ?_
    have ed : ((sa0 ++ [b]).map V.ref).dropLast = sa0.map V.ref := by simp
    rw [ed]
    have hs6 : H6 s = _ := (e5.trans e6) _ _ hs4
    have t6 : Tx H6 (upd H6 s (.lst (sa0.map V.ref))) := Tx.lst hs6
    have t46 : Tx H4 (upd H6 s (.lst (sa0.map V.ref))) := (Tx.of (e5.trans e6)).trans t6
    have ex6 : Exb s H4 (upd H6 s (.lst (sa0.map V.ref))) := Exb.set (Exb.of (e5.trans e6))
    have ns0 : H s = none := fresh_back e0' ns
    have e06 : Ex H (upd H6 s (.lst (sa0.map V.ref))) := Exb.base e4 ns0 ex6
    generalize h7 : upd H6 s (.lst (sa0.map V.ref)) = H7 at t46 ex6 e06
    have hs7 : H7 s = some (.lst (sa0.map V.ref)) := by rw [← h7]; exact upd_same
    have hk7 : H7 l = some (.dT kvs) := ex6 _ _ ls hk
    have hf7 : H7 f = some (.lst (fa.map V.ref)) := ex6 _ _ fs hf4
    have pf7 := paired_imp (fun _ _ z => IsTs.tx t46 z) pf
    have ps7 := paired_imp (fun _ _ z => IsEl.tx t46 z) ps0
    have hq7 : H7 qa = some (.tup (qn.map V.str)) := t46 _ _ hb2
    refine ⟨b, _, rfl, st_of (t46 _ _ hb1), rfl, _, _, rfl, _, _, rfl, rfl, ?_⟩
    dsimp only
    have i1 : atI (qn.map V.str) (-1) = some (.str lst) := by
      obtain ⟨z, hz⟩ := List.getLast?_eq_some_iff.mp hlst
      rw [hz, List.map_append]
      exact atI_last _ _
    have i0 : atI (qn.map V.str) 0 = some (.str fst) := by rw [eq]; exact atI_nat (j := 0) rfl
    refine q_par (er_of (ev_op (ev_var rfl) (ev_un (ev_c (v := .int 1)) ru_neg) (rv_ixT (K := K) (st_of hq7) i1))) (fun _ _ _ _ z => z) (er_of (ev_op (ev_var rfl) (ev_c (v := .int 0)) (rv_ixT (K := K) (st_of hq7) i0))) fun x1 y1 H8 e8 ex1 ey1 => ?_
    subst ex1 ey1
    have hk8 := e8 _ _ hk7
    have fl : fa.length ≤ 38880 := by rw [paired_len pf]; omega
    refine q_whenApp (b := decide (1 < qn.length) && ((W lst fst).isSome && decide (tt + (W lst fst).getD 0 < 0))) (v := .ref qa) (M := fun H9 => ∃ found', Tx H8 H9 ∧ Exb f H8 H9 ∧ LstOf IsTs H9 f found' ∧ ((NH.Closes W qn tt ∧ found' = found ++ [qn]) ∨ (¬ NH.Closes W qn tt ∧ found' = found)))
      (et_and (et_test (ev_is (ev_op (ev_lenT (K := K) (ev_var rfl) (st_of (e8 _ _ hq7))) (ev_c (v := .int 1)) rv_I0) (congrArg V.bl (decide_eq_decide.mpr (by rw [List.length_map]; omega))))) fun _ => et_and (et_is (et_dinT (ev_var rfl) (ea_cons (ev_var rfl) (ea_cons (ev_var rfl) ea_nil)) hk8) (by rw [hkv, Option.isSome_map])) fun hw =>
        et_test (ev_op (ev_op (ev_var rfl) (ev_dgetT (v := .int ((W lst fst).getD 0)) (ev_var rfl) (ea_cons (ev_var rfl) (ea_cons (ev_var rfl) ea_nil)) hk8 (by rw [hkv]; obtain ⟨w, hw⟩ := Option.isSome_iff_exists.mp hw; rw [hw]; rfl)) rv_I0) ev_c rv_I0))
      (e8 _ _ hf7) (ev_var rfl) (ev_var rfl) (by rw [List.length_map]; omega) (fun hc H9 e9 => ?_) (fun hc H9 e9 => ?_) fun H9 ⟨found', t9, x9, ⟨fa9, hf9, pf9⟩, hfd⟩ => ?_
    · have hf9 := e9 _ _ (e8 _ _ hf7)
      have t9 := Tx.lst (o := .lst (fa.map V.ref ++ [.ref qa])) hf9
      refine ⟨found ++ [qn], (Tx.of e9).trans t9, Exb.set (Exb.of e9), ⟨fa ++ [qa], by rw [upd_same, List.map_append]; rfl, ?_⟩, Or.inl ⟨(closes_iff hfst hlst).mpr hc, rfl⟩⟩
      exact paired_snoc (paired_imp (fun _ _ z => z.tx ((Tx.of (e8.trans e9)).trans t9)) pf7) (show IsTs _ qa qn from t9 _ _ ((e8.trans e9) _ _ hq7))
    · exact ⟨found, Tx.of e9, Exb.of e9, ⟨fa, (e8.trans e9) _ _ hf7, paired_imp (fun _ _ z => z.tx (Tx.of (e8.trans e9))) pf7⟩, Or.inr ⟨fun z => (by rw [(closes_iff hfst hlst).mp z] at hc; cases hc), rfl⟩⟩
    have fl9 : found'.length ≤ found.length + 1 := by
      rcases hfd with ⟨_, z⟩ | ⟨_, z⟩
      · rw [z, List.length_append]; exact Nat.le_refl _
      · rw [z]; omega
    have hs9 : H9 s = some (.lst (sa0.map V.ref)) := x9 _ _ fs.symm (e8 _ _ hs7)
    have hk9 : H9 l = some (.dT kvs) := x9 _ _ lf hk8
    have nf0 : H f = none := nf
    have e09 : Ex H H9 := Exb.base (e06.trans e8) nf0 x9
    have hq9 : H9 qa = some (.tup (qn.map V.str)) := t9 _ _ (e8 _ _ hq7)
    have t79 : Tx H7 H9 := (Tx.of e8).trans t9
    have el5 := NH.exts_mu (lt := lt) (W := W) (f := fst) (l := lst) (q := qn) (t := tt) ql
    refine place e09 rfl H9 (Ex.refl _) _ fun H10 e10 => ⟨x, rfl, ⟨_, st_of ((e09.trans e10) _ _ px)⟩, for_it (walk_tup (xs := T.names.map V.str)) (fun i σ' H11 => (∃ u9, σ' = [some (.ref t), some (.ref r), some (.ref l), some (.ref f), u4, u5, u6, u7, some (.ref s), u9, some (.ref qa), some (.int tt), some (.str lst), some (.str fst)]) ∧ Exb s H9 H11 ∧ LstOf IsEl H11 s (st0 ++ NH.exts lt W fst lst qn tt (T.names.take i)))
      ⟨⟨_, rfl⟩, Exb.of e10, sa0, e10 _ _ hs9, by rw [show NH.exts lt W fst lst qn tt (T.names.take 0) = [] from rfl, List.append_nil]; exact paired_imp (fun _ _ z => z.tx (t79.trans (Tx.of e10))) ps7⟩ (fun i σ' H' _ z => st_of (Exb.base e09 ns0 z.2.1 _ _ px)) (fun i v σ' H11 H12 hi ⟨⟨u9, es⟩, x11, sa, hs11, ps11⟩ yv => ?_) fun σ' H11 ⟨⟨u9, es⟩, x11, hs11⟩ => ?_⟩
    · subst es
      obtain ⟨e34, hv⟩ := yv
      subst e34
      rw [List.getElem?_map] at hv
      obtain ⟨nm, hnm, ev⟩ := Option.map_eq_some_iff.mp hv
      subst ev
      have tk : T.names.take (i + 1) = T.names.take i ++ [nm] := by rw [List.take_add_one, hnm]; rfl
      rw [tk]
      have tx : Tx H9 H12 := x11.tx fun xs z => by rw [hs9] at z; cases z
      have hq11 := tx _ _ hq9
      have hk11 := x11 _ _ ls hk9
      have sl : sa.length < 50000 := by
        have z := paired_len ps11
        rw [List.length_append] at z
        have z2 := NH.exts_len (lt := lt) (W := W) (f := fst) (l := lst) (q := qn) (t := tt) (T.names.take i)
        have z3 : (T.names.take i).length ≤ 5 := by rw [List.length_take]; omega
        omega
      refine s_when (b := decide (lt fst nm) && (!decide (nm ∈ qn) && (W lst nm).isSome)) (et_and (et_test (ev_op (ev_var rfl) (ev_var rfl) (rv_val fun H1 _ Q q => ⟨nm, fst, rfl, rfl, q⟩))) fun _ => et_and (et_is (et_test (ev_op (ev_var rfl) (ev_var rfl) (rv_niT (st_of hq11) rfl flat_strs))) (by rw [inV_strs])) fun _ => et_is (et_dinT (ev_var rfl) (ea_cons (ev_var rfl) (ea_cons (ev_var rfl) ea_nil)) hk11) (by rw [hkv, Option.isSome_map]))
        (fun hc H13 e13 => ?_) fun hc H13 e13 => ?_
      · rw [Bool.and_eq_true, Bool.and_eq_true] at hc
        obtain ⟨c1, c2, c3⟩ := hc
        have c1 : lt fst nm := of_decide_eq_true c1
        have c2 : nm ∉ qn := by simpa using c2
        obtain ⟨w, hw⟩ := Option.isSome_iff_exists.mp c3
        rw [exts_yes c1 c2 hw]
        refine s_appR (R1 := fun v H14 => ∃ b, v = .ref b ∧ IsEl H14 b (qn ++ [nm], tt + w)) (e13 _ _ hs11) (ev_var rfl) (er_imp (er_tup2R (R1 := TupAt ((qn ++ [nm]).map V.str)) (er_opR (R1 := fun v _ => v = .ref qa) (er_of (ev_var rfl)) (fun _ _ _ _ z => z) (er_tup (vs := [.str nm]) (ea_cons (ev_var rfl) ea_nil) (Nat.le_of_ble_eq_true rfl)) fun x y H5 e5 hx ⟨p5, ey, h5⟩ Rk kx => ?_) tupAt_ex
          (er_of (ev_op (ev_var rfl) (ev_dgetT (v := .int w) (ev_var rfl) (ea_cons (ev_var rfl) (ea_cons (ev_var rfl) ea_nil)) (e13 _ _ hk11) (by rw [hkv, hw]; rfl)) rv_I0)) (fun _ _ _ _ z => z)) ?_) (by rw [List.length_map]; omega) fun v H14 e14 ⟨b, ev, hb⟩ => ?_
        · subst hx ey
          have hb5 := (e13.trans e5) _ _ hq11
          refine ⟨qa, p5, qn.map V.str, [.str nm], rfl, rfl, st_of hb5, st_of h5, ?_, fun z => (by rw [eq] at z; cases z), fun _ z => (by cases z), fun _ _ u nu => kx _ _ (Ex.new nu) ⟨u, rfl, ?_⟩⟩
          · rw [List.length_map]
            exact sz_of (by show qn.length + 1 ≤ 100000; omega)
          · rw [upd_same, List.map_append]
            rfl
        · rintro v H5 e5 ⟨b, x1, y1, ev, hb, ⟨q1, e6, hq⟩, e7⟩
          subst e6 e7
          exact ⟨b, ev, q1, hb, hq⟩
        · subst ev
          have hs14 := (e13.trans e14) _ _ hs11
          have t14 := Tx.lst (o := .lst (sa.map V.ref ++ [.ref b])) hs14
          refine ⟨⟨_, rfl⟩, Exb.set (x11.ex (e13.trans e14)), sa ++ [b], by rw [upd_same, List.map_append]; rfl, ?_⟩
          rw [← List.append_assoc]
          exact paired_snoc (paired_imp (fun _ _ z => z.tx ((Tx.of (e13.trans e14)).trans t14)) ps11) (hb.tx t14)
      · rw [exts_no hc]
        exact ⟨⟨_, rfl⟩, x11.ex e13, sa, e13 _ _ hs11, paired_imp (fun _ _ z => z.tx (Tx.of e13)) ps11⟩
    · subst es
      rw [List.length_map, List.take_length] at hs11
      have tx : Tx H9 H11 := x11.tx fun xs z => by rw [hs9] at z; cases z
      have mm : NH.mu T.names.length (st0 ++ NH.exts lt W fst lst qn tt T.names) = NH.mu T.names.length st0 + NH.mu T.names.length (NH.exts lt W fst lst qn tt T.names) := NH.mu_app _ _ _
      refine ⟨NH.mu T.names.length (st0 ++ NH.exts lt W fst lst qn tt T.names), by omega, ⟨_, _, _, _, _, _, _, _, _, rfl⟩, Exb.base e09 ns0 x11, ⟨kvs, x11 _ _ ls hk9, hkl, hkv⟩, _, found', ⟨fa9, x11 _ _ fs hf9, paired_imp (fun _ _ z => IsTs.tx tx z) pf9⟩, hs11, NH.DInv.step dv hfst hlst hfd, by omega, rfl⟩
  · have z : st = [] := by simpa using hb
    subst z
    rw [← hWd] at dv
    exact ⟨_, rfl, q _ _ (e4.trans e5) ⟨f, found, rfl, ⟨fa, e5 _ _ hf4, paired_imp (fun _ _ z => IsTs.tx (Tx.of e5) z) pf⟩, dv, by omega⟩⟩
theorem sc_does_explain_by : FnScope ["town", "run", "lot"] ["town", "run", "lot"] (defScope s_does_explain_by) := ⟨rfl, rfl, rfl, by decide +kernel, rfl, by decide +kernel, by decide +kernel⟩
theorem c_does_explain_by (T : Top K mg) : ∃ f fd, Cal P w K mg base 4 "does_explain_by" ["town", "run", "lot"] sp_does_explain_by f fd := by
  obtain ⟨_, _, C_clash_by⟩ := c_clash_by (P := P) (w := w) (base := base) T
  refine cal_mk (k := 3) (i := 15) (st := s_does_explain_by) T rfl sc_does_explain_by (fun _ _ _ _ _ _ us hl => match us, hl with | [_, _, _], _ => rfl) (fun vs H Q E h => ?_) (fun {f cdv A outer s H vs Q E} hr h => ?_)
  · obtain ⟨_, rfl, _⟩ := h
    rfl
  have hu := hu_of hr
  refine ⟨_, (pss_one (ps_ret (pe_cmpR op_isN (pe_call C_clash_by.ok (hr.mono (by decide)) (by rfl) C_clash_by.mg C_clash_by.kp C_clash_by.bd .nil pass0 (pa_cons (pv 0) (pa_cons (pv 1) (pa_cons (pv 2) pa_nil)))) pe_non (nomark _)))), ?_⟩
  obtain ⟨d, rfl, k, q⟩ := h
  refine s_retR (R := RExpl d) (fun H1 e1 Rk kk => er_call (R := RClash d) (ea_cons (ev_var rfl) (ea_cons (ev_var rfl) (ea_cons (ev_var rfl) ea_nil))) (fun H2 e2 Q q E => ⟨d, rfl, k.tx (Tx.of e2), q⟩) H1 e1 _ fun v H2 e2 hv => ?_) fun v H2 e2 hv => q v H2 e2 hv
  rcases hv with ⟨rfl, hf⟩ | ⟨p, steps, a, s, rfl, _, _, _, hc, hs⟩
  · exact ⟨rfl, kk _ H2 e2 (Or.inl ⟨rfl, hf⟩)⟩
  · exact ⟨rfl, kk _ H2 e2 (Or.inr ⟨rfl, a, steps, s, hc, hs⟩)⟩
theorem sc_wire_fault : FnScope ["towers", "wires", "k"] ["towers", "wires", "k"] (defScope s_wire_fault) := ⟨rfl, rfl, rfl, by decide +kernel, rfl, by decide +kernel, by decide +kernel⟩
theorem c_wire_fault (T : Top K mg) : ∃ f fd, Cal P w K mg base 4 "wire_fault" ["towers", "wires", "k"] sp_wire_fault f fd := by
  obtain ⟨_, _, C_is_wire_for⟩ := c_is_wire_for (P := P) (w := w) (base := base) T
  refine cal_mk (k := 3) (i := 17) (st := s_wire_fault) T rfl sc_wire_fault (fun _ _ _ _ _ _ us hl => match us, hl with | [_, _, _], _ => rfl) (fun vs H Q E h => ?_) (fun {f cdv A outer s H vs Q E} hr h => ?_)
  · obtain ⟨_, rfl, _⟩ := h
    rfl
  have hu := hu_of hr
  refine ⟨_, (pss_cons (ps_if (pt_not (pt_val (pe_call C_is_wire_for.ok (hr.mono (by decide)) (by rfl) C_is_wire_for.mg C_is_wire_for.kp C_is_wire_for.bd .nil pass0 (pa_cons (pv 0) (pa_cons (pe_ix ix_tup (pv 1) (pv 2) (fun _ _ => rfl)) pa_nil))))) 
          (pss_one (ps_ret (pe_tup (pa_cons pe_str (pa_cons (pv 2) pa_nil))))) pss_nil)
        (pss_cons (ps_if (pt_cmpR op_gt (pe_ix ix_tup (pe_ix ix_tup (pv 1) (pv 2) (fun _ _ => rfl)) pe_int (fun _ _ => rfl)) (pe_ix ix_tup (pe_ix ix_tup (pv 1) (pv 2) (fun _ _ => rfl)) pe_int (fun _ _ => rfl)) (nomark _)) 
          (pss_one (ps_ret (pe_tup (pa_cons pe_str (pa_cons (pv 2) pa_nil))))) pss_nil)
        (pss_one (ps_ret (pe_ifExp (PW.pt (pw_and (pt_cmpR op_gt (pv 2) pe_int (nomark _)) (pw_and1 (pt_cmpR (op_geS hr.units0) (pe_slice sl_tupA (pe_ix ix_tup (pv 1) (pe_op op_sub (pv 2) pe_int) (fun _ _ => rfl)) po_none (po_some pe_int)) (pe_slice sl_tupA (pe_ix ix_tup (pv 1) (pv 2) (fun _ _ => rfl)) po_none (po_some pe_int)) (nomark _))))) (pe_tup (pa_cons pe_str (pa_cons (pv 2) pa_nil))) pe_non))))), ?_⟩
  obtain ⟨⟨⟨a, y⟩, W, k⟩, rfl, ⟨pa, ⟨as, py, pr⟩, G, hk⟩, q⟩ := h
  have pa : H a = some (.tup (W.names.map V.str)) := pa
  have py : H y = some (.tup (as.map V.ref)) := py
  have pr : Paired (IsT4 H) as W.wires := pr
  have G : GoodTown W := G
  have hk : k < W.wires.length := hk
  have item : ∀ j, j < W.wires.length → ∃ b w, (as.map V.ref)[j]? = some (.ref b) ∧ H b = some (.tup [.str w.1, .str w.2.1, .int w.2.2.1, .int w.2.2.2]) ∧ W.wires[j]? = some w := fun j hj => by
    have la : j < as.length := by rw [paired_len pr]; exact hj
    have h1 := List.getElem?_eq_getElem la
    have h2 := List.getElem?_eq_getElem hj
    exact ⟨_, _, by rw [List.getElem?_map, h1]; rfl, paired_get (F := IsT4 H) pr h1 h2, h2⟩
  obtain ⟨b, w4, ib, pb, iw⟩ := item k hk
  obtain ⟨m1, m2, hlt, hle, _⟩ := G.ends w4 (List.mem_of_getElem? iw)
  have at_k : ∀ {H1 : Hp} {σ : L2.St}, Ex H H1 → σ[1]? = some (some (.ref y)) → σ[2]? = some (some (.int (k : Nat))) → Ev (tOp (rIxT K) (tVar 1) (tVar 2)) σ H1 (.ref b) := fun e s1 s2 => ev_op (ev_var s1) (ev_var s2) (rv_ixT (st_of (e _ _ py)) (atI_nat ib))
  refine q_when (b := false) (et_not (a := true) (et_B (ev_callV (ea_cons (ev_var rfl) (ea_cons (at_k (Ex.refl _) rfl rfl) ea_nil)) fun H1 e1 Q q E => ⟨((a, b), W.names, w4), rfl, ⟨e1 _ _ pa, e1 _ _ pb, m1, m2, hlt⟩, q⟩))) (fun z => by cases z) fun _ H1 e1 => ?_
  refine q_when (et_is (et_test (ev_op (ev_op (at_k e1 rfl rfl) ev_c (rv_ixT (st_of (e1 _ _ pb)) (atI_nat (j := 2) rfl))) (ev_op (at_k e1 rfl rfl) ev_c (rv_ixT (st_of (e1 _ _ pb)) (atI_nat (j := 3) rfl))) rv_I0)) (decide_eq_false (Int.not_lt.mpr hle) : _ = false)) (fun z => by cases z) fun _ H2 e2 => ?_
  have e12 := e1.trans e2
  refine s_ret (v := .non) (ev_if (b := false) (et_is (et_and (a := decide (0 < k)) (b := false) (et_is (et_test (ev_op (ev_var rfl) ev_c rv_I0)) ?_) fun hk0 => ?_) (by rw [Bool.and_false])) (fun z => by cases z) fun _ => ev_c) fun H3 e3 => q H3 (e12.trans e3)
  · exact decide_eq_decide.mpr (show (0 : Int) < ((k : Nat) : Int) ↔ 0 < k by omega)
  · have hk0 : 0 < k := of_decide_eq_true hk0
    obtain ⟨c, v4, ic, pc, iv⟩ := item (k - 1) (by omega)
    have at_p : Ev (tOp (rIxT K) (tVar 1) (tOp (rI0 fun i j => .int (i - j)) (tVar 2) (tC (.int 1)))) (start ["towers", "wires", "k"] [.ref a, .ref y, .int (k : Nat)]) H2 (.ref c) := ev_op (ev_var rfl) (ev_op (ev_var rfl) ev_c rv_I0) (rv_ixT (st_of (e12 _ _ py)) (by
      rw [show ((k : Nat) : Int) - 1 = ((k - 1 : Nat) : Int) by omega]
      exact atI_nat ic))
    refine et_test (ev_opR (er_slT at_p eo_none (eo_some ev_c) (e12 _ _ pc)) tupAt_ex (er_slT (at_k e12 rfl rfl) eo_none (eo_some ev_c) (e12 _ _ pb)) fun x1 x2 H4 e4 ⟨p1, z1, hp1⟩ ⟨p2, z2, hp2⟩ => ?_)
    subst z1 z2
    intro H5 e5 Q q
    refine ⟨p1, p2, [v4.1, v4.2.1], [w4.1, w4.2.1], rfl, rfl, st_of (e5 _ _ hp1), st_of (e5 _ _ hp2), ?_⟩
    rw [geT_false ?_]
    · exact q H5 (Ex.refl _)
    · obtain ⟨l1, z1⟩ := List.getElem?_eq_some_iff.mp iv
      obtain ⟨l2, z2⟩ := List.getElem?_eq_some_iff.mp iw
      rw [← z1, ← z2]
      exact List.pairwise_iff_getElem.mp G.asc _ _ l1 l2 (by omega)
theorem sc_run_fault : FnScope ["town", "thing", "k", "letter", "word"] ["town", "thing"] (defScope s_run_fault) := ⟨rfl, rfl, rfl, by decide +kernel, rfl, by decide +kernel, by decide +kernel⟩
theorem c_run_fault (T : Top K mg) : ∃ f fd, Cal P w K mg base 4 "run_fault" ["town", "thing"] sp_run_fault f fd := by
  obtain ⟨_, _, C_letter_fault⟩ := c_letter_fault (P := P) (w := w) (base := base) T
  refine cal_mk (k := 3) (i := 22) (st := s_run_fault) T rfl sc_run_fault (fun _ _ _ _ _ _ us hl => match us, hl with | [_, _], _ => rfl) (fun vs H Q E h => ?_) (fun {f cdv A outer s H vs Q E} hr h => ?_)
  · obtain ⟨_, rfl, _⟩ := h
    rfl
  have hu := hu_of hr
  refine ⟨_, (pss_cons (ps_if (pt_not (pt_val (pe_callB call_isi (by rfl) T.b_isinstance boot_isinstance (pa_cons (pv 1) (pa_cons (pe_bltn (v := .ty "tuple") (by rfl) T.b_tuple boot_tuple rfl) pa_nil))))) 
          (pss_one (ps_ret (pe_tup (pa_cons pe_str (pa_cons (pe_un un_neg pe_int) pa_nil))))) pss_nil)
        (pss_cons (ps_for PassesOwn.never rfl (pi_enumT (by rfl) T.b_enumerate (pa_cons (pv 1) pa_nil)) (pg_tup rfl (pgs_cons (pg_name (i := 2) sc_run_fault.nd rfl (Or.inl rfl)) (pgs_cons (pg_name (i := 3) sc_run_fault.nd rfl (Or.inl rfl)) pgs_nil))) 
          (pss_cons (ps_set (i := 4) sc_run_fault.nd rfl (Or.inl rfl) (pe_call C_letter_fault.ok (hr.mono (by decide)) (by rfl) C_letter_fault.mg C_letter_fault.kp C_letter_fault.bd .nil pass0 (pa_cons (pv 0) (pa_cons (pv 3) pa_nil))))
          (pss_one (ps_if (pt_cmpR op_notN (pv 4) pe_non (nomark _)) 
            (pss_one (ps_ret (pe_tup (pa_cons (pv 4) (pa_cons (pv 2) pa_nil))))) pss_nil))))
        (pss_one (ps_ret pe_non)))), ?_⟩
  obtain ⟨⟨⟨t, r⟩, W, run⟩, rfl, ⟨pt, G, ⟨as, pz, pr⟩, gr, gn⟩, q⟩ := h
  have pt : IsTown H t W := pt
  have G : GoodTown W := G
  have pz : H r = some (.tup (as.map V.ref)) := pz
  have pr : Paired (IsT4 H) as run := pr
  have gr : ∀ l ∈ run, ∃ p, bnd W.wires l.1 l.2.1 = some p := gr
  have gn : run.length ≤ 20 := gn
  have la := paired_len pr
  refine q_when (b := false) (et_not (a := true) (et_B (ev_isi (ev_var rfl) (ty_tup pz) (show kitB "tuple" "tuple" = some true by decide +kernel)))) (fun z => by cases z) fun _ H1 e1 => ?_
  refine ⟨_, rfl, r, _, rfl, st_of (e1 _ _ pz), for_it (walk_enumT (xs := as.map V.ref)) (fun i σ' H' => (∃ u v z, σ' = [some (.ref t), some (.ref r), u, v, z]) ∧ Ex H H') ⟨⟨_, _, _, rfl⟩, e1⟩ (fun i σ' H' _ p => st_of (p.2 _ _ pz)) (fun i x σ' H' H2 hi ⟨⟨u, v, z, es⟩, e'⟩ y => ?_) fun σ' H' ⟨⟨u, v, z, es⟩, e'⟩ => ?_⟩
  · subst es
    have e2 := ypair_ex y
    obtain ⟨T0, x1, x2, rfl, _, rfl, g1, g2⟩ := y
    have g1 : some (V.int (i : Nat)) = some x1 := g1
    have g2 : (as.map V.ref)[i]? = some x2 := g2
    rw [List.getElem?_map] at g2
    obtain ⟨b, hb, eb⟩ := Option.map_eq_some_iff.mp g2
    cases g1
    subst eb
    have li := (List.getElem?_eq_some_iff.mp hb).1
    have hw := List.getElem?_eq_getElem (show i < run.length by omega)
    have pb : IsT4 H b run[i] := paired_get (F := IsT4 H) pr hb hw
    refine ⟨T0, _, rfl, st_of upd_same, rfl, _, _, rfl, _, _, rfl, rfl, ?_⟩
    refine q_asg (v := .non) (ev_callV (ea_cons (ev_var rfl) (ea_cons (ev_var rfl) ea_nil)) fun H5 e5 Q q E => ⟨((t, b), W, run[i]), rfl, ⟨pt.tx (Tx.of ((e'.trans e2).trans e5)), G, pb.tx (Tx.of ((e'.trans e2).trans e5)), gr _ (List.getElem_mem _)⟩, q⟩) fun H5 e5 => ?_
    exact s_when (et_test (ev_notN (ev_var rfl))) (fun z => by cases z) fun _ H6 e6 => ⟨⟨_, _, _, rfl⟩, ((e'.trans e2).trans e5).trans e6⟩
  · subst es
    exact q H' e'
theorem sc_want_lot : FnScope ["town", "lot"] ["town", "lot"] (defScope s_want_lot) := ⟨rfl, rfl, rfl, by decide +kernel, rfl, by decide +kernel, by decide +kernel⟩
theorem c_want_lot (T : Top K mg) : ∃ f fd, Cal P w K mg base 4 "want_lot" ["town", "lot"] sp_want_lot f fd := by
  obtain ⟨_, _, C_is_lot⟩ := c_is_lot (P := P) (w := w) (base := base) T
  obtain ⟨_, _, C_want⟩ := c_want (P := P) (w := w) (base := base) T
  obtain ⟨ds_want, dv_want, bd_want⟩ := C_want.bd
  refine cal_mk (k := 3) (i := 27) (st := s_want_lot) T rfl sc_want_lot (fun _ _ _ _ _ _ us hl => match us, hl with | [_, _], _ => rfl) (fun vs H Q E h => ?_) (fun {f cdv A outer s H vs Q E} hr h => ?_)
  · obtain ⟨_, rfl, _⟩ := h
    rfl
  have hu := hu_of hr
  refine ⟨_, (pss_one (ps_expr (pe_call C_want.ok (hr.mono (by decide)) (by rfl) C_want.mg C_want.kp bd_want dv_want pass0 (pa_cons (pe_call C_is_lot.ok (hr.mono (by decide)) (by rfl) C_is_lot.mg C_is_lot.kp C_is_lot.bd .nil pass0 (pa_cons (pv 0) (pa_cons (pv 1) pa_nil))) (pa_cons pe_str pa_nil))))), ?_⟩
  obtain ⟨⟨⟨t, l⟩, W, lot⟩, rfl, ⟨pt, G, pl, gl⟩, q⟩ := h
  exact s_drop (ev_call (dvs := [V.int (-1)]) (ea_cons (ev_callV (ea_cons (ev_var rfl) (ea_cons (ev_var rfl) ea_nil)) fun H1 e1 Q q E => ⟨((t, l), W, lot), rfl, ⟨pt.tx (Tx.of e1), G, pl.tx (Tx.of e1), gl⟩, q⟩) (ea_cons ev_c ea_nil)) fun H1 e1 Q q E => ⟨(_, _), rfl, trivial, q⟩) fun H1 e1 => q H1 e1
theorem sc_town_fault : FnScope ["thing", "k", "fault"] ["thing"] (defScope s_town_fault) := ⟨rfl, rfl, rfl, by decide +kernel, rfl, by decide +kernel, by decide +kernel⟩
theorem c_town_fault (T : Top K mg) : ∃ f fd, Cal P w K mg base 5 "town_fault" ["thing"] sp_town_fault f fd := by
  obtain ⟨_, _, C_is_towers⟩ := c_is_towers (P := P) (w := w) (base := base) T
  obtain ⟨_, _, C_is_tuple_of⟩ := c_is_tuple_of (P := P) (w := w) (base := base) T
  obtain ⟨_, _, C_wire_fault⟩ := c_wire_fault (P := P) (w := w) (base := base) T
  refine cal_mk (k := 4) (i := 18) (st := s_town_fault) T rfl sc_town_fault (fun _ _ _ _ _ _ us hl => match us, hl with | [_], _ => rfl) (fun vs H Q E h => ?_) (fun {f cdv A outer s H vs Q E} hr h => ?_)
  · obtain ⟨_, rfl, _⟩ := h
    rfl
  have hu := hu_of hr
  refine ⟨_, (pss_cons (ps_if (pt_not (pt_val (pe_call C_is_tuple_of.ok (hr.mono (by decide)) (by rfl) C_is_tuple_of.mg C_is_tuple_of.kp C_is_tuple_of.bd .nil pass0 (pa_cons (pv 0) (pa_cons pe_int pa_nil))))) 
          (pss_one (ps_ret (pe_tup (pa_cons pe_str (pa_cons (pe_un un_neg pe_int) pa_nil))))) pss_nil)
        (pss_cons (ps_if (pt_not (pt_val (pe_call C_is_towers.ok (hr.mono (by decide)) (by rfl) C_is_towers.mg C_is_towers.kp C_is_towers.bd .nil pass0 (pa_cons (pe_ix ix_tup (pv 0) pe_int (fun _ _ => rfl)) pa_nil)))) 
          (pss_one (ps_ret (pe_tup (pa_cons pe_str (pa_cons (pe_un un_neg pe_int) pa_nil))))) pss_nil)
        (pss_cons (ps_if (pt_not (pt_val (pe_callB call_isi (by rfl) T.b_isinstance boot_isinstance (pa_cons (pe_ix ix_tup (pv 0) pe_int (fun _ _ => rfl)) (pa_cons (pe_bltn (v := .ty "tuple") (by rfl) T.b_tuple boot_tuple rfl) pa_nil))))) 
          (pss_one (ps_ret (pe_tup (pa_cons pe_str (pa_cons (pe_un un_neg pe_int) pa_nil))))) pss_nil)
        (pss_cons (ps_for PassesOwn.never rfl (pi_range1 (by rfl) T.b_range (pa_cons (pe_callB call_len_seq (by rfl) T.b_len boot_len (pa_cons (pe_ix ix_tup (pv 0) pe_int (fun _ _ => rfl)) pa_nil)) pa_nil)) (pg_name (i := 1) sc_town_fault.nd rfl (Or.inl rfl)) 
          (pss_cons (ps_set (i := 2) sc_town_fault.nd rfl (Or.inl rfl) (pe_call C_wire_fault.ok (hr.mono (by decide)) (by rfl) C_wire_fault.mg C_wire_fault.kp C_wire_fault.bd .nil pass0 (pa_cons (pe_ix ix_tup (pv 0) pe_int (fun _ _ => rfl)) (pa_cons (pe_ix ix_tup (pv 0) pe_int (fun _ _ => rfl)) (pa_cons (pv 1) pa_nil)))))
          (pss_one (ps_if (pt_cmpR op_notN (pv 2) pe_non (nomark _)) 
            (pss_one (ps_ret (pv 2))) pss_nil))))
        (pss_one (ps_ret pe_non)))))), ?_⟩
  obtain ⟨⟨t, W⟩, rfl, ⟨⟨x, y, pt, px, py⟩, G⟩, q⟩ := h
  have pt : H t = some (.tup [.ref x, .ref y]) := pt
  have px : H x = some (.tup (W.names.map V.str)) := px
  have py : TupOf IsT4 H y W.wires := py
  have G : GoodTown W := G
  obtain ⟨as, pz, pr⟩ := id py
  have la := paired_len pr
  have at0 : ∀ {H1 : Hp} {σ : L2.St}, Ex H H1 → σ[0]? = some (some (.ref t)) → Ev (tOp (rIxT K) (tVar 0) (tC (.int 0))) σ H1 (.ref x) := fun e s1 => ev_op (ev_var s1) ev_c (rv_ixT (st_of (e _ _ pt)) (atI_nat (j := 0) rfl))
  have at1 : ∀ {H1 : Hp} {σ : L2.St}, Ex H H1 → σ[0]? = some (some (.ref t)) → Ev (tOp (rIxT K) (tVar 0) (tC (.int 1))) σ H1 (.ref y) := fun e s1 => ev_op (ev_var s1) ev_c (rv_ixT (st_of (e _ _ pt)) (atI_nat (j := 1) rfl))
  refine q_when (b := false) (et_not (a := true) (et_B (ev_callV (ea_cons (ev_var rfl) (ea_cons ev_c ea_nil)) fun H1 e1 Q q E => ⟨(t, _, 2), rfl, ⟨e1 _ _ pt, rfl⟩, q⟩))) (fun z => by cases z) fun _ H1 e1 => ?_
  refine q_when (b := false) (et_not (a := true) (et_B (ev_callV (ea_cons (at0 e1 rfl) ea_nil) fun H2 e2 Q q E => ⟨(x, W.names), rfl, ⟨e2 _ _ (e1 _ _ px), G.nms, G.ne⟩, q⟩))) (fun z => by cases z) fun _ H2 e2 => ?_
  have e12 := e1.trans e2
  refine q_when (b := false) (et_not (a := true) (et_B (ev_isi (at1 e12 rfl) (ty_tup (e12 _ _ pz)) (show kitB "tuple" "tuple" = some true by decide +kernel)))) (fun z => by cases z) fun _ H3 e3 => ?_
  have e13 := e12.trans e3
  have gl := G.len
  refine q_forR1 (n := (as.length : Nat)) (ea_cons (by
    have z := ev_lenT (K := K) (at1 (σ := start ["thing", "k", "fault"] [.ref t]) e13 rfl) (st_of (e13 _ _ pz))
    rw [List.length_map] at z
    exact z) ea_nil) (by omega) (fun i σ' H' => (∃ u v, σ' = [some (.ref t), u, v]) ∧ Ex H H') (fun H4 e4 => ⟨⟨_, _, rfl⟩, e13.trans e4⟩) (fun i σ' H' hi ⟨⟨u, v, es⟩, e'⟩ => ?_) fun σ' H' ⟨⟨u, v, es⟩, e'⟩ => ?_
  · subst es
    refine q_asg (v := .non) (ev_callV (ea_cons (at0 e' rfl) (ea_cons (at1 e' rfl) (ea_cons (ev_var rfl) ea_nil))) fun H5 e5 Q q E => ⟨((x, y), W, i), rfl, ⟨(e'.trans e5) _ _ px, py.tx (fun b w => IsT4.tx (Tx.of (e'.trans e5))) (Tx.of (e'.trans e5)), G, by show i < W.wires.length; omega⟩, q⟩) fun H5 e5 => ?_
    exact s_when (et_test (ev_notN (ev_var rfl))) (fun z => by cases z) fun _ H6 e6 => ⟨⟨_, _, rfl⟩, (e'.trans e5).trans e6⟩
  · subst es
    exact s_ret ev_c fun H5 e5 => q H5 (e'.trans e5)
theorem sc_want_run : FnScope ["town", "run"] ["town", "run"] (defScope s_want_run) := ⟨rfl, rfl, rfl, by decide +kernel, rfl, by decide +kernel, by decide +kernel⟩
theorem c_want_run (T : Top K mg) : ∃ f fd, Cal P w K mg base 5 "want_run" ["town", "run"] sp_want_run f fd := by
  obtain ⟨_, _, C_run_fault⟩ := c_run_fault (P := P) (w := w) (base := base) T
  obtain ⟨_, _, C_want⟩ := c_want (P := P) (w := w) (base := base) T
  obtain ⟨ds_want, dv_want, bd_want⟩ := C_want.bd
  refine cal_mk (k := 4) (i := 25) (st := s_want_run) T rfl sc_want_run (fun _ _ _ _ _ _ us hl => match us, hl with | [_, _], _ => rfl) (fun vs H Q E h => ?_) (fun {f cdv A outer s H vs Q E} hr h => ?_)
  · obtain ⟨_, rfl, _⟩ := h
    rfl
  have hu := hu_of hr
  refine ⟨_, (pss_one (ps_expr (pe_call C_want.ok (hr.mono (by decide)) (by rfl) C_want.mg C_want.kp bd_want dv_want pass0 (pa_cons (pe_cmpR op_isN (pe_call C_run_fault.ok (hr.mono (by decide)) (by rfl) C_run_fault.mg C_run_fault.kp C_run_fault.bd .nil pass0 (pa_cons (pv 0) (pa_cons (pv 1) pa_nil))) pe_non (nomark _)) (pa_cons pe_str pa_nil))))), ?_⟩
  obtain ⟨⟨⟨t, r⟩, W, run⟩, rfl, ⟨pt, G, pr, gr⟩, q⟩ := h
  exact s_drop (ev_call (dvs := [V.int (-1)]) (ea_cons (ev_isN (ev_callV (ea_cons (ev_var rfl) (ea_cons (ev_var rfl) ea_nil)) fun H1 e1 Q q E => ⟨((t, r), W, run), rfl, ⟨pt.tx (Tx.of e1), G, T4s.tx (Tx.of e1) pr, gr⟩, q⟩)) (ea_cons ev_c ea_nil)) fun H1 e1 Q q E => ⟨(_, _), rfl, trivial, q⟩) fun H1 e1 => q H1 e1
theorem sc_want_town : FnScope ["town"] ["town"] (defScope s_want_town) := ⟨rfl, rfl, rfl, by decide +kernel, rfl, by decide +kernel, by decide +kernel⟩
theorem c_want_town (T : Top K mg) : ∃ f fd, Cal P w K mg base 6 "want_town" ["town"] sp_want_town f fd := by
  obtain ⟨_, _, C_town_fault⟩ := c_town_fault (P := P) (w := w) (base := base) T
  obtain ⟨_, _, C_want⟩ := c_want (P := P) (w := w) (base := base) T
  obtain ⟨ds_want, dv_want, bd_want⟩ := C_want.bd
  refine cal_mk (k := 5) (i := 24) (st := s_want_town) T rfl sc_want_town (fun _ _ _ _ _ _ us hl => match us, hl with | [_], _ => rfl) (fun vs H Q E h => ?_) (fun {f cdv A outer s H vs Q E} hr h => ?_)
  · obtain ⟨_, rfl, _⟩ := h
    rfl
  have hu := hu_of hr
  refine ⟨_, (pss_one (ps_expr (pe_call C_want.ok (hr.mono (by decide)) (by rfl) C_want.mg C_want.kp bd_want dv_want pass0 (pa_cons (pe_cmpR op_isN (pe_call C_town_fault.ok (hr.mono (by decide)) (by rfl) C_town_fault.mg C_town_fault.kp C_town_fault.bd .nil pass0 (pa_cons (pv 0) pa_nil)) pe_non (nomark _)) (pa_cons pe_str pa_nil))))), ?_⟩
  obtain ⟨⟨t, W⟩, rfl, ⟨pt, G⟩, q⟩ := h
  exact s_drop (ev_call (dvs := [V.int (-1)]) (ea_cons (ev_isN (ev_callV (ea_cons (ev_var rfl) ea_nil) fun H1 e1 Q q E => ⟨(t, W), rfl, ⟨pt.tx (Tx.of e1), G⟩, q⟩)) (ea_cons ev_c ea_nil)) fun H1 e1 Q q E => ⟨(_, _), rfl, trivial, q⟩) fun H1 e1 => q H1 e1
theorem sc_want_ground : FnScope ["town", "run", "lot"] ["town", "run", "lot"] (defScope s_want_ground) := ⟨rfl, rfl, rfl, by decide +kernel, rfl, by decide +kernel, by decide +kernel⟩
theorem c_want_ground (T : Top K mg) : ∃ f fd, Cal P w K mg base 7 "want_ground" ["town", "run", "lot"] sp_want_ground f fd := by
  obtain ⟨_, _, C_want_lot⟩ := c_want_lot (P := P) (w := w) (base := base) T
  obtain ⟨_, _, C_want_run⟩ := c_want_run (P := P) (w := w) (base := base) T
  obtain ⟨_, _, C_want_town⟩ := c_want_town (P := P) (w := w) (base := base) T
  refine cal_mk (k := 6) (i := 28) (st := s_want_ground) T rfl sc_want_ground (fun _ _ _ _ _ _ us hl => match us, hl with | [_, _, _], _ => rfl) (fun vs H Q E h => ?_) (fun {f cdv A outer s H vs Q E} hr h => ?_)
  · obtain ⟨_, rfl, _⟩ := h
    rfl
  have hu := hu_of hr
  refine ⟨_, (pss_cons (ps_expr (pe_call C_want_town.ok (hr.mono (by decide)) (by rfl) C_want_town.mg C_want_town.kp C_want_town.bd .nil pass0 (pa_cons (pv 0) pa_nil)))
        (pss_cons (ps_expr (pe_call C_want_run.ok (hr.mono (by decide)) (by rfl) C_want_run.mg C_want_run.kp C_want_run.bd .nil pass0 (pa_cons (pv 0) (pa_cons (pv 1) pa_nil))))
        (pss_one (ps_expr (pe_call C_want_lot.ok (hr.mono (by decide)) (by rfl) C_want_lot.mg C_want_lot.kp C_want_lot.bd .nil pass0 (pa_cons (pv 0) (pa_cons (pv 2) pa_nil))))))), ?_⟩
  obtain ⟨d, rfl, ⟨k, gl⟩, q⟩ := h
  refine q_drop (ev_callV (ea_cons (ev_var rfl) ea_nil) fun H1 e1 Q q E => ⟨(d.1.1, d.2.1), rfl, ⟨k.town.tx (Tx.of e1), k.gt⟩, q⟩) fun H1 e1 => ?_
  refine q_drop (ev_callV (ea_cons (ev_var rfl) (ea_cons (ev_var rfl) ea_nil)) fun H2 e2 Q q E => ⟨((d.1.1, d.1.2.1), d.2.1, d.2.2.1), rfl, ⟨k.town.tx (Tx.of (e1.trans e2)), k.gt, T4s.tx (Tx.of (e1.trans e2)) k.run, k.gr⟩, q⟩) fun H2 e2 => ?_
  have e12 := e1.trans e2
  exact s_drop (ev_callV (ea_cons (ev_var rfl) (ea_cons (ev_var rfl) ea_nil)) fun H3 e3 Q q E => ⟨((d.1.1, d.1.2.2), d.2.1, d.2.2.2), rfl, ⟨k.town.tx (Tx.of (e12.trans e3)), k.gt, k.lot.tx (Tx.of (e12.trans e3)), gl⟩, q⟩) fun H3 e3 => q H3 (e12.trans e3)
theorem sc_clash : FnScope ["town", "run", "lot"] ["town", "run", "lot"] (defScope s_clash) := ⟨rfl, rfl, rfl, by decide +kernel, rfl, by decide +kernel, by decide +kernel⟩
theorem c_clash (T : Top K mg) : ∃ f fd, Cal P w K mg base 8 "clash" ["town", "run", "lot"] sp_clash f fd := by
  obtain ⟨_, _, C_clash_by⟩ := c_clash_by (P := P) (w := w) (base := base) T
  obtain ⟨_, _, C_want_ground⟩ := c_want_ground (P := P) (w := w) (base := base) T
  refine cal_mk (k := 7) (i := 29) (st := s_clash) T rfl sc_clash (fun _ _ _ _ _ _ us hl => match us, hl with | [_, _, _], _ => rfl) (fun vs H Q E h => ?_) (fun {f cdv A outer s H vs Q E} hr h => ?_)
  · obtain ⟨_, rfl, _⟩ := h
    rfl
  have hu := hu_of hr
  refine ⟨_, (pss_cons (ps_expr (pe_call C_want_ground.ok (hr.mono (by decide)) (by rfl) C_want_ground.mg C_want_ground.kp C_want_ground.bd .nil pass0 (pa_cons (pv 0) (pa_cons (pv 1) (pa_cons (pv 2) pa_nil)))))
        (pss_one (ps_ret (pe_call C_clash_by.ok (hr.mono (by decide)) (by rfl) C_clash_by.mg C_clash_by.kp C_clash_by.bd .nil pass0 (pa_cons (pv 0) (pa_cons (pv 1) (pa_cons (pv 2) pa_nil))))))), ?_⟩
  obtain ⟨d, rfl, ⟨k, gl⟩, q⟩ := h
  refine q_drop (ev_callV (ea_cons (ev_var rfl) (ea_cons (ev_var rfl) (ea_cons (ev_var rfl) ea_nil))) fun H1 e1 Q q E => ⟨d, rfl, ⟨k.tx (Tx.of e1), gl⟩, q⟩) fun H1 e1 => ?_
  exact s_retR (R := RClash d) (er_call (ea_cons (ev_var rfl) (ea_cons (ev_var rfl) (ea_cons (ev_var rfl) ea_nil))) fun H2 e2 Q q E => ⟨d, rfl, k.tx (Tx.of (e1.trans e2)), q⟩) fun v H2 e2 hv => q v H2 (e1.trans e2) hv
theorem sc_does_explain : FnScope ["town", "run", "lot"] ["town", "run", "lot"] (defScope s_does_explain) := ⟨rfl, rfl, rfl, by decide +kernel, rfl, by decide +kernel, by decide +kernel⟩
theorem c_does_explain (T : Top K mg) : ∃ f fd, Cal P w K mg base 8 "does_explain" ["town", "run", "lot"] sp_does_explain f fd := by
  obtain ⟨_, _, C_does_explain_by⟩ := c_does_explain_by (P := P) (w := w) (base := base) T
  obtain ⟨_, _, C_want_ground⟩ := c_want_ground (P := P) (w := w) (base := base) T
  refine cal_mk (k := 7) (i := 30) (st := s_does_explain) T rfl sc_does_explain (fun _ _ _ _ _ _ us hl => match us, hl with | [_, _, _], _ => rfl) (fun vs H Q E h => ?_) (fun {f cdv A outer s H vs Q E} hr h => ?_)
  · obtain ⟨_, rfl, _⟩ := h
    rfl
  have hu := hu_of hr
  refine ⟨_, (pss_cons (ps_expr (pe_call C_want_ground.ok (hr.mono (by decide)) (by rfl) C_want_ground.mg C_want_ground.kp C_want_ground.bd .nil pass0 (pa_cons (pv 0) (pa_cons (pv 1) (pa_cons (pv 2) pa_nil)))))
        (pss_one (ps_ret (pe_call C_does_explain_by.ok (hr.mono (by decide)) (by rfl) C_does_explain_by.mg C_does_explain_by.kp C_does_explain_by.bd .nil pass0 (pa_cons (pv 0) (pa_cons (pv 1) (pa_cons (pv 2) pa_nil))))))), ?_⟩
  obtain ⟨d, rfl, ⟨k, gl⟩, q⟩ := h
  refine q_drop (ev_callV (ea_cons (ev_var rfl) (ea_cons (ev_var rfl) (ea_cons (ev_var rfl) ea_nil))) fun H1 e1 Q q E => ⟨d, rfl, ⟨k.tx (Tx.of e1), gl⟩, q⟩) fun H1 e1 => ?_
  exact s_retR (R := RExpl d) (er_call (ea_cons (ev_var rfl) (ea_cons (ev_var rfl) (ea_cons (ev_var rfl) ea_nil))) fun H2 e2 Q q E => ⟨d, rfl, k.tx (Tx.of (e1.trans e2)), q⟩) fun v H2 e2 hv => q v H2 (e1.trans e2) hv
theorem sc_law_is_lot_right : FnScope ["_law_place_here", "_law_mail", "_law_rings", "_law_out", "_law_due", "_law_names", "_law_name", "_law_told"] ["_law_place_here", "_law_mail", "_law_rings", "_law_out"] (defScope s_law_is_lot_right) := ⟨rfl, rfl, rfl, by decide +kernel, rfl, by decide +kernel, by decide +kernel⟩
theorem at_lot {T : Twn} {lot : List Str} {k : Nat} {l : Q4} {t : NH.Tie Str} : t ∈ tiesAt T lot k l ↔ t ∈ tiesAt T [] k l ∧ t.one ∉ lot ∧ t.other ∉ lot := by
  unfold tiesAt
  rw [if_pos (show l.1 ∉ ([] : List Str) ∧ l.2.1 ∉ ([] : List Str) from ⟨by simp, by simp⟩)]
  by_cases c : l.1 ∉ lot ∧ l.2.1 ∉ lot
  · rw [if_pos c]
    constructor
    · intro h
      refine ⟨h, ?_⟩
      rcases List.mem_cons.mp h with e | h
      · rw [e]; exact c
      · rw [List.mem_singleton.mp h]; exact c.symm
    · exact fun h => h.1
  · rw [if_neg c]
    constructor
    · intro h; cases h
    · rintro ⟨h, h1, h2⟩
      rcases List.mem_cons.mp h with e | h
      · subst e; exact (c ⟨h1, h2⟩).elim
      · have e := List.mem_singleton.mp h
        subst e; exact (c ⟨h2, h1⟩).elim
theorem from_lot {T : Twn} {lot : List Str} {t : NH.Tie Str} : ∀ {run : List Q4} {k : Nat}, t ∈ tiesFrom T lot k run ↔ t ∈ tiesFrom T [] k run ∧ t.one ∉ lot ∧ t.other ∉ lot
  | [], _ => ⟨fun h => (by cases h), fun h => (by cases h.1)⟩
  | l :: r, k => by
    have ih := from_lot (T := T) (lot := lot) (t := t) (run := r) (k := k + 1)
    show t ∈ tiesAt T lot k l ++ tiesFrom T lot (k + 1) r ↔ t ∈ tiesAt T [] k l ++ tiesFrom T [] (k + 1) r ∧ _
    rw [List.mem_append, List.mem_append, at_lot, ih]
    constructor
    · rintro (⟨a, b⟩ | ⟨a, b⟩)
      · exact ⟨Or.inl a, b⟩
      · exact ⟨Or.inr a, b⟩
    · rintro ⟨a | a, b⟩
      · exact Or.inl ⟨a, b⟩
      · exact Or.inr ⟨a, b⟩
theorem of_lot {T : Twn} {run : List Q4} {lot : List Str} {t : NH.Tie Str} : t ∈ tiesOf T run lot ↔ t ∈ tiesOf T run [] ∧ t.one ∉ lot ∧ t.other ∉ lot := from_lot
/-- some ring found is without the lot, or none -/
def clean (found : List (List Str)) (lot : List Str) : Bool := found.any fun q => decide (∀ x ∈ q, x ∉ lot)
theorem clean_of {T : Twn} (G : GoodTown T) {run : List Q4} (R : GoodRun T run) {lot : List Str} {found : List (List Str)} (D : DD T run found) (c : Clashes (tiesOf T run lot)) : clean found lot = true := by
  obtain ⟨a, r, s, ch, hs⟩ := c
  have e := fun t ht => tie_ends G (lot := []) (k := 0) R.1 t ht
  obtain ⟨q, hq, hp⟩ := NH.found_of ord_lt (p := fun x => x ∉ lot) (fun t ht => (of_lot.mp ht).1) (fun t ht => (of_lot.mp ht).2.2) (fun t ht => (List.mem_filter.mp (e t ht).2.1).1) (fun t ht => (e t ht).2.2) D ch hs
  exact List.any_eq_true.mpr ⟨q, hq, decide_eq_true hp⟩
theorem fits_not {T : Twn} {run : List Q4} {lot : List Str} {found : List (List Str)} (D : DD T run found) (c : Fits (tiesOf T run lot)) : clean found lot = false := by
  obtain ⟨L, hL⟩ := c
  have z := NH.none_found (p := fun x => x ∉ lot) (L := L) (fun t ht h1 h2 => hL t (of_lot.mpr ⟨ht, h1, h2⟩)) D
  refine Bool.eq_false_iff.mpr fun h => ?_
  obtain ⟨q, hq, hp⟩ := List.any_eq_true.mp h
  exact z q hq (of_decide_eq_true hp)
theorem filt_nil {α : Type} {l : List α} {d : α} {p : α → Bool} : (((List.range l.length).filter fun i => p (l.getD i d)).map fun i => l.getD i d) = [] ↔ ∀ x ∈ l, p x = false := by
  rw [List.map_eq_nil_iff, List.filter_eq_nil_iff]
  constructor
  · intro h x hx
    obtain ⟨i, hi, e⟩ := List.mem_iff_getElem.mp hx
    have z := h i (List.mem_range.mpr hi)
    rw [getD_at (List.getElem?_eq_getElem hi), e] at z
    exact Bool.eq_false_iff.mpr z
  · intro h i hi
    have hi := List.mem_range.mp hi
    rw [getD_at (List.getElem?_eq_getElem hi), h _ (List.getElem_mem hi)]
    exact Bool.false_ne_true
theorem ev_eqNil {K : PySem.W.Frag} {σ : L2.St} {H : Hp} {te : TE} {b : Bool} (h : EvR te σ H fun v H2 => ∃ p ys ds, v = .ref p ∧ H2 p = some (.lst ys) ∧ (∀ H3, Ex H2 H3 → DpAll K H3 ys ds) ∧ SeqAt.shaped (.list ds) = true ∧ ds.isEmpty = b) : Ev (tOp (rEqD K) te (tLst tNil)) σ H (.bl b) :=
  ev_opR h (fun v H1 H2 e ⟨p, ys, ds, h1, h2, h3, h4, h5⟩ => ⟨p, ys, ds, h1, e _ _ h2, fun H3 e3 => h3 H3 (e.trans e3), h4, h5⟩) er_newL fun x y H1 e1 ⟨p, ys, ds, h1, h2, h3, h4, h5⟩ ⟨p2, ey, hp2⟩ => by
    subst h1 ey
    intro H2 e2 Q k
    refine ⟨.list ds, .list [], .lst (sq_of (e2 _ _ h2)) (h3 H2 e2), .lst (sq_of (e2 _ _ hp2)) .nil, h4, rfl, ?_⟩
    subst h5
    cases ds with
    | nil => exact k H2 (Ex.refl _)
    | cons a l => exact k H2 (Ex.refl _)
theorem strsI_of {H : Hp} {q : List Str} {ys : List V} {ix : List Nat} (h : Paired (fun (v : V) (i : Nat) => v = .str (q.getD i Str.empty)) ys ix) : ys = (ix.map fun i => q.getD i Str.empty).map V.str := by
  induction h with
  | nil => rfl
  | cons r _ ih => rw [r, ih]; rfl
theorem tupsI_of {H : Hp} {f : List (List Str)} {ys : List V} {ix : List Nat} (h : Paired (fun (v : V) (i : Nat) => ∃ b, v = .ref b ∧ IsTs H b (f.getD i [])) ys ix) : ∃ as : List Addr, ys = as.map V.ref ∧ Paired (IsTs H) as (ix.map fun i => f.getD i []) := by
  induction h with
  | nil => exact ⟨[], rfl, .nil⟩
  | cons r _ ih =>
    obtain ⟨b, e1, e2⟩ := r
    obtain ⟨as, e3, e4⟩ := ih
    exact ⟨b :: as, by rw [e1, e3]; rfl, .cons e2 e4⟩
theorem shaped_strs {ss : List Str} (h : ∀ x ∈ ss, goodName x = true) : SeqAt.shaped (.list (ss.map PyData.str)) = true := by
  obtain ⟨z1, z2⟩ := lay_strs h
  show (PyData.canLayAll0 _ && decide (PyData.depthAll _ + 1 ≤ 64)) = true
  rw [z1, Bool.true_and]
  exact decide_eq_true (by omega)
theorem er_lst2 {σ : L2.St} {H : Hp} {ta tb : TE} {R1 R3 : V → Hp → Prop} (ha : EvR ta σ H R1) (hs : ∀ v H1 H2, Ex H1 H2 → R1 v H1 → R1 v H2) (hb : EvR tb σ H R3) (hs3 : ∀ v H1 H2, Ex H1 H2 → R3 v H1 → R3 v H2) : EvR (tLst (tCons ta (tCons tb tNil))) σ H fun v H2 => ∃ b x y, v = .ref b ∧ H2 b = some (.lst [x, y]) ∧ R1 x H2 ∧ R3 y H2 := fun H1 e Q q =>
  ha H1 e _ fun v H2 e2 h1 => hb H2 (e.trans e2) _ fun w H3 e3 h3 => ⟨sz_of (Nat.le_of_ble_eq_true rfl), fun p np => q _ _ ((e2.trans e3).trans (Ex.new np)) ⟨p, v, w, rfl, upd_same, hs _ _ _ (e3.trans (Ex.new np)) h1, hs3 _ _ _ (Ex.new np) h3⟩⟩
theorem isEmpty_map {α β : Type} {f : α → β} : ∀ {l : List α}, (l.map f).isEmpty = l.isEmpty
  | [] => rfl
  | _ :: _ => rfl
theorem c_law_is_lot_right (T : Top K mg) : ∃ f fd, CalG P w K mg base 9 "_law_is_lot_right" ["_law_place_here", "_law_mail", "_law_rings", "_law_out"] sp_law_is_lot_right f fd := by
  obtain ⟨_, _, C_law_ring_due⟩ := c_law_ring_due (P := P) (w := w) (base := base) T
  obtain ⟨_, _, C_law_same⟩ := c_law_same (P := P) (w := w) (base := base) T
  obtain ⟨_, _, C_clash⟩ := c_clash (P := P) (w := w) (base := base) T
  obtain ⟨_, _, C_does_explain⟩ := c_does_explain (P := P) (w := w) (base := base) T
  refine calG_mk (k := 8) (i := 43) (st := s_law_is_lot_right) T rfl sc_law_is_lot_right (fun _ _ _ _ _ _ us hl => match us, hl with | [_, _, _, _], _ => rfl) (fun vs H Q E h => ?_) (fun {f cdv A outer s H vs Q E} gd hr h => ?_)
  · obtain ⟨_, rfl, _⟩ := h
    rfl
  have hu := hu_of hr
  refine ⟨_, (pss_cons (ps_set (i := 4) sc_law_is_lot_right.nd rfl (Or.inl rfl) (pe_cmpR (op_eqD hr.units) (pe_lc (own := [("_law_names", 5)]) (g := (gName 5)) rfl sc_law_is_lot_right.nd (pi_list (pv 2)) (blkOk_by (own := [("_law_names", 5)]) (N := ["_law_place_here", "_law_mail", "_law_rings", "_law_out", "_law_due", "_law_names", "_law_name", "_law_told"]) (sc := defScope s_law_is_lot_right) (by decide +kernel)) (fun _ _ _ _ _ => (pg_name (i := 5) sc_law_is_lot_right.nd rfl (Or.inl rfl))) (fun _ _ _ _ _ => (pts_one (pt_cmpR (op_eqDK (K := K) rfl hr.units) (pe_lc (own := [("_law_name", 6)]) (g := (gName 6)) rfl sc_law_is_lot_right.nd (pi_tupK (K := K) rfl (pv 5)) (blkOk_by (own := [("_law_name", 6)]) (N := ["_law_place_here", "_law_mail", "_law_rings", "_law_out", "_law_due", "_law_names", "_law_name", "_law_told"]) (sc := { kind := ScopeKind.function, names := [(".0", NameKind.local), ("_law_names", NameKind.local), ("_law_out", NameKind.cell)], isGenerator := false, isCoroutine := false }) (by decide +kernel)) (fun _ _ _ _ _ => (pg_name (i := 6) sc_law_is_lot_right.nd rfl (Or.inl rfl))) (fun _ _ _ _ _ => (pts_one (pt_cmpR (op_in_seqK (K := K) rfl) (pv 6) (pv 3) (by rfl)))) (fun _ _ _ _ _ => (pv 6))) (pe_lst pa_nil) (nomark _)))) (fun _ _ _ _ _ => (pv 5))) (pe_lst pa_nil) (nomark _)))
        (pss_cons (ps_set (i := 7) sc_law_is_lot_right.nd rfl (Or.inl rfl) (pe_call C_clash.ok (hr.mono (by decide)) (by rfl) C_clash.mg C_clash.kp C_clash.bd .nil pass0 (pa_cons (pv 0) (pa_cons (pv 1) (pa_cons (pv 3) pa_nil)))))
        (pss_cons (ps_if (pt_not (pt_val (pe_callG C_law_same.ok gd (hr.mono (by decide)) (by rfl) C_law_same.mg C_law_same.kp C_law_same.bd (pa_cons (pe_lst (pa_cons (pe_call C_does_explain.ok (hr.mono (by decide)) (by rfl) C_does_explain.mg C_does_explain.kp C_does_explain.bd .nil pass0 (pa_cons (pv 0) (pa_cons (pv 1) (pa_cons (pv 3) pa_nil)))) (pa_cons (pe_cmpR op_isN (pv 7) pe_non (nomark _)) pa_nil))) (pa_cons (pe_lst (pa_cons (pv 4) (pa_cons (pv 4) pa_nil))) pa_nil))))) 
          (pss_one (ps_ret pe_bl)) pss_nil)
        (pss_one (ps_ret (pe_or (pe_cmpR op_isN (pv 7) pe_non (nomark _)) (pe_one (pe_and (pe_callB call_isi (by rfl) T.b_isinstance boot_isinstance (pa_cons (pv 7) (pa_cons (pe_bltn (v := .ty "tuple") (by rfl) T.b_tuple boot_tuple rfl) pa_nil))) (pe_one (pe_cmpR op_isN (pe_call C_law_ring_due.ok (hr.mono (by decide)) (by rfl) C_law_ring_due.mg C_law_ring_due.kp C_law_ring_due.bd .nil pass0 (pa_cons (pv 0) (pa_cons (pv 1) (pa_cons (pv 3) (pa_cons (pv 7) pa_nil))))) pe_non (nomark _))))))))))), ?_⟩
  obtain ⟨⟨t, m, r, o, T, run, found, lot⟩, rfl, k, q⟩ := h
  have G : GoodTown T := k.gt
  have R : GoodRun T run := k.gr
  have GL : GoodLot T lot := k.gl
  have D : DD T run found := k.dd
  have few : found.length ≤ 39000 := k.few
  have pt : IsTown H t T := k.town
  have pm : TupOf IsT4 H m run := k.run
  have po : H o = some (.tup (lot.map V.str)) := k.lot
  obtain ⟨as, hr1, pas⟩ : LstOf IsTs H r found := k.rings
  have las := paired_len pas
  have gf : ∀ q ∈ found, ∀ x ∈ q, goodName x = true := fun q hq x hx => by
    obtain ⟨_, g, _⟩ := D.fnd q hq
    exact G.nms.nm _ (g.mem x hx)
  refine q_asg (v := .bl (!clean found lot)) (ev_eqNil (er_lcL (K := K) (σ := start ["_law_place_here", "_law_mail", "_law_rings", "_law_out", "_law_due", "_law_names", "_law_name", "_law_told"] [.ref t, .ref m, .ref r, .ref o]) (j := 5) (vs := [5]) (f := fun i => decide (∀ x ∈ found.getD i [], x ∉ lot)) (R := fun i v H2 => ∃ b, v = .ref b ∧ IsTs H2 b (found.getD i [])) (tl := tVar 2) (ev_var rfl) (sq_of hr1) (by rw [List.length_map]; omega) (fun _ => rfl) (fun _ _ _ _ e ⟨b, z1, z2⟩ => ⟨b, z1, z2.tx e⟩) (fun i v H2 hv e2 => ?_) fun p ys H2 np e2 hp hpr => ?_)) fun H1 e1 => ?_
  · rw [List.getElem?_map] at hv
    obtain ⟨b, hb, ev⟩ := Option.map_eq_some_iff.mp hv
    subst ev
    have li : i < found.length := by rw [← las]; exact (List.getElem?_eq_some_iff.mp hb).1
    have hw := List.getElem?_eq_getElem li
    have pb := paired_get (F := IsTs H) pas hb hw
    have gq := gf _ (List.getElem_mem li)
    rw [getD_at hw]
    have lq : found[i].length ≤ 5 := by
      obtain ⟨_, g, _⟩ := D.fnd found[i] (List.getElem_mem li)
      exact Nat.le_trans g.len G.nms.len
    generalize found[i] = qn at pb gq lq
    have pb2 : H2 b = some (.tup (qn.map V.str)) := e2 _ _ pb
    refine ⟨et_test (ev_eqNil (er_lcT (K := K) (σ := (wipe (start ["_law_place_here", "_law_mail", "_law_rings", "_law_out", "_law_due", "_law_names", "_law_name", "_law_told"] [.ref t, .ref m, .ref r, .ref o]) [5]).set 5 (some (.ref b))) (j := 6) (vs := [6]) (f := fun i => decide (qn.getD i Str.empty ∈ lot)) (R := fun i v _ => v = .str (qn.getD i Str.empty)) (tl := tVar 5) (ev_var rfl) (st_of pb2) ?_ (fun _ => rfl) (fun _ _ _ _ _ z => z) (fun i2 v H3 hv e3 => ?_) fun p ys H3 np e3 hp hpr => ?_)), fun _ => er_imp (er_of (ev_var rfl)) fun v H3 e3 z => ⟨b, z, e3 _ _ pb2⟩⟩
    · rw [List.length_map]
      omega
    · rw [List.getElem?_map] at hv
      obtain ⟨s0, hs, ev⟩ := Option.map_eq_some_iff.mp hv
      subst ev
      rw [getD_at hs]
      exact ⟨et_is (et_test (ev_op (ev_var rfl) (ev_var rfl) (rv_isT (st_of ((e2.trans e3) _ _ po)) rfl flat_strs))) inV_strs, fun _ => er_of (ev_var rfl)⟩
    · rw [List.length_map] at hpr
      have es := strsI_of (H := H3) hpr
      refine ⟨p, ys, _, rfl, hp, fun H4 e4 => by rw [es]; exact dp_strs, shaped_strs fun x hx => ?_, ?_⟩
      · obtain ⟨j, hj, e⟩ := List.mem_map.mp hx
        have hj := List.mem_range.mp (List.mem_filter.mp hj).1
        rw [getD_at (List.getElem?_eq_getElem hj)] at e
        rw [← e]
        exact gq _ (List.getElem_mem hj)
      · rw [isEmpty_map, Bool.eq_iff_iff, List.isEmpty_iff, decide_eq_true_eq]
        refine Iff.trans (filt_nil (l := qn) (d := Str.empty) (p := fun x => decide (x ∈ lot))) ?_
        exact ⟨fun z x hx => of_decide_eq_false (z x hx), fun z x hx => decide_eq_false (z x hx)⟩
  · rw [List.length_map, las] at hpr
    obtain ⟨bs, es, pbs⟩ := tupsI_of hpr
    subst es
    refine ⟨p, _, _, rfl, hp, fun H3 e3 => dp_tups (paired_imp (fun _ _ z => z.tx (Tx.of e3)) pbs), shaped_tups fun l hl => ?_, ?_⟩
    · obtain ⟨j, hj, e⟩ := List.mem_map.mp hl
      have hj := List.mem_range.mp (List.mem_filter.mp hj).1
      rw [getD_at (List.getElem?_eq_getElem hj)] at e
      rw [← e]
      exact gf _ (List.getElem_mem hj)
    · rw [isEmpty_map, Bool.eq_iff_iff, List.isEmpty_iff, Bool.not_eq_true', ← Bool.not_eq_true, clean, List.any_eq_true]
      refine Iff.trans (filt_nil (l := found) (d := []) (p := fun q => decide (∀ x ∈ q, x ∉ lot))) ?_
      exact ⟨fun z ⟨x, hx, h2⟩ => (by rw [z x hx] at h2; cases h2), fun z x hx => Bool.eq_false_iff.mpr fun h2 => z ⟨x, hx, h2⟩⟩
  have gk : GD.OkL ((t, m, o), T, run, lot) H := ⟨⟨pt, pm, po, G, R⟩, GL⟩
  have gkx : ∀ {H2 : Hp}, Ex H H2 → GD.OkL ((t, m, o), T, run, lot) H2 := fun e => ⟨gk.1.tx (Tx.of e), gk.2⟩
  refine q_asgR (R := RClash ((t, m, o), T, run, lot)) (er_call (vs := [.ref t, .ref m, .ref o]) (ea_cons (ev_var rfl) (ea_cons (ev_var rfl) (ea_cons (ev_var rfl) ea_nil))) fun H2 e2 Q q E => ⟨((t, m, o), T, run, lot), rfl, gkx (e1.trans e2), q⟩) fun v H2 e2 hv => ?_
  have e02 := e1.trans e2
  have hdue : v = .non ∧ clean found lot = false ∨ (∃ p, v = .ref p) ∧ clean found lot = true := by
    rcases hv with ⟨a, b⟩ | ⟨p, steps, a, s, e, _, _, _, ch, neg⟩
    · exact Or.inl ⟨a, fits_not D b⟩
    · exact Or.inr ⟨⟨p, e⟩, clean_of G R D ⟨a, steps, s, ch, neg⟩⟩
  have his : decide (v = V.non) = !clean found lot := by
    rcases hdue with ⟨a, b⟩ | ⟨⟨p, a⟩, b⟩
    · rw [a, b]; rfl
    · rw [a, b]; rfl
  have isN : ∀ {σ : L2.St} {H3 : Hp}, σ[7]? = some (some v) → Ev (tOp (fun x y H Q => y = V.non ∧ Q (.bl (decide (x = .non))) H) (tVar 7) (tC .non)) σ H3 (.bl (!clean found lot)) := fun z => by
    rw [← his]
    exact ev_op (ev_var z) ev_c fun H1 _ Q q => ⟨rfl, q H1 (Ex.refl _)⟩
  refine q_when (b := false) (et_not (a := true) (et_B (ev_callA (ear_cons (er_lst2 (R1 := fun v _ => v = .bl (!clean found lot)) (er_imp (er_call (R := RExpl ((t, m, o), T, run, lot)) (vs := [.ref t, .ref m, .ref o]) (ea_cons (ev_var rfl) (ea_cons (ev_var rfl) (ea_cons (ev_var rfl) ea_nil))) fun H3 e3 Q q E => ⟨((t, m, o), T, run, lot), rfl, gkx (e02.trans e3), q⟩) fun v _ _ hx => ?_) (fun _ _ _ _ z => z) (er_of (isN rfl)) fun _ _ _ _ z => z) (fun v H1 H2 e ⟨b, x, y, z1, z2, z3⟩ => ⟨b, x, y, z1, e _ _ z2, z3⟩)
    (ear_cons (er_lst2 (er_of (ev_var rfl)) (fun _ _ _ _ z => z) (er_of (ev_var rfl)) fun _ _ _ _ z => z) (fun v H1 H2 e ⟨b, x, y, z1, z2, z3⟩ => ⟨b, x, y, z1, e _ _ z2, z3⟩) ear_nil)) fun vs H3 e3 hvs Q q E => ?_))) (fun z => by cases z) fun _ H3 e3 => ?_
  · rcases hx with ⟨a, b⟩ | ⟨a, b⟩
    · rw [a, fits_not D b]; rfl
    · rw [a, clean_of G R D b]; rfl
  · obtain ⟨_, _, rfl, ⟨b1, x1, y1, rfl, h1, rfl, rfl⟩, _, _, rfl, ⟨b2, x2, y2, rfl, h2, rfl, rfl⟩, rfl⟩ := hvs
    refine ⟨((b1, b2), (!clean found lot, !clean found lot), (!clean found lot, !clean found lot)), rfl, ⟨h1, h2⟩, ?_⟩
    show RetV (.bl (decide ((!clean found lot, !clean found lot) = (!clean found lot, !clean found lot)))) H3 Q
    rw [decide_eq_true rfl]
    exact q
  have e03 := e02.trans e3
  rcases hdue with ⟨ev, hcl⟩ | ⟨⟨p, ev⟩, hcl⟩
  · refine s_ret (v := .bl true) (ev_orV (a := true) (b := true) (ev_is (isN rfl) (by rw [hcl]; rfl)) fun z => by cases z) fun H4 e4 => q H4 (e03.trans e4)
  · subst ev
    rcases hv with ⟨a, _⟩ | ⟨p', steps, a, s, e, hst, hne, h10, ch, neg⟩
    · cases a
    · cases e
      obtain ⟨cs, hcs, _⟩ := id hst
      refine s_ret (v := .bl true) (ev_orV (a := false) (b := true) (ev_is (isN rfl) (by rw [hcl]; rfl)) fun _ => ev_andV (a := true) (b := true) (ev_isi (x := .ref p) (s := "tuple") (n := "tuple") (ev_var rfl) (ty_tup (e3 _ _ hcs)) rfl) fun _ => ev_op (x := .non) (ev_callV (vs := [.ref t, .ref m, .ref o, .ref p]) (ea_cons (ev_var rfl) (ea_cons (ev_var rfl) (ea_cons (ev_var rfl) (ea_cons (ev_var rfl) ea_nil)))) fun H4 e4 Q q E => ⟨⟨((t, m, o), T, run, lot), p, steps, a, a, s⟩, rfl, ⟨⟨(gkx (e03.trans e4)).1, hst.tx (fun _ _ z => z.tx (Tx.of (e3.trans e4))) (Tx.of (e3.trans e4)), hne, h10, ch⟩, rfl, neg⟩, q⟩) ev_c fun H1 _ Q q => ⟨rfl, q H1 (Ex.refl _)⟩) fun H4 e4 => q H4 (e03.trans e4)
theorem sc_law : FnScope ["_law_script", "_law_feed_here", "_law_lap", "_law_place_here", "_law_mail", "_law_rings", "_law_lots_here", "_law_turn", "_law_out"] ["_law_script"] (defScope s_law) := ⟨rfl, rfl, rfl, by decide +kernel, rfl, by decide +kernel, by decide +kernel⟩
theorem lawG_mk {P : Program} {w : World} {K : PySem.W.Frag} {mg : Str → Option Value} {N : List Str} {sp : Sp} {k : Nat} (T : Top K mg) (hi : fn[44]? = some ⟨("law", none), "law", "law", defArgs s_law, defBody s_law, defScope s_law, [], []⟩) (S : FnScope N ["_law_script"] (defScope s_law))
    (len : ∀ vs H Q E, sp vs H Q E → vs.length = 1)
    (hb : ∀ (base : Heap) {f : Addr} {cdv : Value} {A : Around} {outer : List Env} {s : Shared} {H : Hp} {vs : List V} {Q : VK} {E : XK}, A.guards = some [] → Room k (A.deeper (envOfC "law" (defScope s_law) s.heap.objs.size f cdv)) → sp vs H Q E →
      ∃ t, PSs (cxOf CX0 P w K mg base N "law" (defScope s_law) f cdv A outer s H E).nox (defBody s_law) t ∧ t { nx := fun _ H' => Q .non H', rt := Q } (start N vs) H) :
    ∃ f fd, mg "law" = some (.ref f) ∧ (∀ (s : Shared) (u : Value), BindsTo s fd ⟨[u], []⟩ [("_law_script", u)]) ∧ ∀ base : Heap, FnG P w K mg base (k + 1) f fd ["_law_script"] sp := by
  obtain ⟨⟨fd, F⟩, m⟩ := T.fns 44 _ hi
  have b := FunD.bindsA (ps := ["_law_script"]) F fun _ _ _ _ _ _ us hl => match us, hl with | [_], _ => rfl
  refine ⟨_, fd, m, fun s u => b s [u] rfl, fun base => fnG_of F S len fun gd hr h => ?_⟩
  obtain ⟨t, h1, h2⟩ := hb base gd hr h
  exact ⟨t, PSs.nox h1, h2⟩
theorem ef_op2 {d c : Addr} {σ : L2.St} {H : Hp} {ta tb : TE} {r : R2} {R R1 R3 : V → Hp → Prop} (ha : EvF d c ta σ H R1) (hs : ∀ v H1 H2, FOk d c H1 H2 → R1 v H1 → R1 v H2) (hb : EvF d c tb σ H R3) (hr : ∀ x y H1, FOk d c H H1 → R1 x H1 → R3 y H1 → ∀ Q : VK, (∀ v H2, FOk d c H1 H2 → R v H2 → Q v H2) → r x y H1 Q) : EvF d c (tOp r ta tb) σ H R := fun H1 e Q q =>
  ha H1 e _ fun v H2 e2 h1 => hb H2 (e.trans e2) _ fun w H3 e3 h3 => hr v w H3 ((e.trans e2).trans e3) (hs v _ _ e3 h1) h3 Q fun v H4 e4 h4 => q v H4 ((e2.trans e3).trans e4) h4
theorem ef_lcR {d c : Addr} {σ : L2.St} {H : Hp} {ta : TA} {te : TE} {tt : TT} {n : Nat} {j : Nat} {vs : List Nat} {R' : V → Hp → Prop} {PB : Nat → Bool → Prop} {R : Nat → V → Hp → Prop} (h : ∀ H1, FOk d c H H1 → EvA ta σ H1 [.int (n : Nat)]) (hz : n < 50000) (hw : ∀ x, wipe ((wipe σ vs).set j (some x)) vs = wipe σ vs) (hR : ∀ j y H2 H3, Tx H2 H3 → R j y H2 → R j y H3)
    (ht : ∀ i x H2, FOk d c H H2 → EvFT d c tt ((wipe σ vs).set j (some x)) H2 (PB i) ∧ (PB i true → EvF d c te ((wipe σ vs).set j (some x)) H2 (R i)))
    (hd : ∀ p ys ix H2, FOk d c H H2 → H2 p = some (.lst ys) → ys.length ≤ n → Paired (fun y i => R i y H2) ys ix → R' (.ref p) H2) : EvF d c (tLc (iRng1 ta) (gName j) tt te vs) σ H R' := fun H0 e Q q =>
  h H0 e H0 (Ex.refl _) _ fun H1 e1 => ⟨(n : Nat), rfl, by omega, by omega, fun Dl hD => by
    have en : ((n : Nat) : Int).toNat = n := Int.toNat_natCast n
    rw [en]
    exact lc_feed (PB := PB) (R := R) (walk_range (lo := 0) (n := n)) (e.b.ex e1) hD hz hw (fun _ _ => True.intro) (fun _ _ _ _ z => z.1) hR (fun i H2 x hi e2 yv => ht i x H2 ((e.ex e1).trans e2))
      fun ys ix H2 e2 h2 h3 h4 h5 hp => q _ H2 ((FOk.of e.b e1).trans e2) (hd Dl ys ix H2 ((e.ex e1).trans e2) h2 h5 hp)⟩
theorem lots_of {H : Hp} {P : List Str → Prop} {ys : List V} {ix : List Nat} (h : Paired (fun (v : V) (_ : Nat) => ∃ b l, v = .ref b ∧ IsTs H b l ∧ P l) ys ix) : ∃ (as : List Addr) (ls : List (List Str)), ys = as.map V.ref ∧ Paired (IsTs H) as ls ∧ ∀ l ∈ ls, P l := by
  induction h with
  | nil => exact ⟨[], [], rfl, .nil, fun l hl => by cases hl⟩
  | cons r _ ih =>
    obtain ⟨b, l, e1, e2, e3⟩ := r
    obtain ⟨as, ls, e4, e5, e6⟩ := ih
    refine ⟨b :: as, l :: ls, by rw [e1, e4]; rfl, .cons e2 e5, fun m hm => ?_⟩
    rcases List.mem_cons.mp hm with z | z
    · rw [z]; exact e3
    · exact e6 m z
theorem c_law (T : Top K mg) : ∃ f fd, mg "law" = some (.ref f) ∧ (∀ (s : Shared) (u : Value), BindsTo s fd ⟨[u], []⟩ [("_law_script", u)]) ∧ ∀ base : Heap, FnG P w K mg base 10 f fd ["_law_script"] (sp_law K) := by
  refine lawG_mk (k := 9) T rfl sc_law (fun vs H Q E h => ?_) (fun base {f cdv A outer s H vs Q E} gd hr h => ?_)
  · obtain ⟨_, rfl, _⟩ := h
    rfl
  have hu := hu_of hr
  obtain ⟨_, _, C_law_any⟩ := c_law_any (P := P) (w := w) (base := base) T
  obtain ⟨_, _, C_law_feed⟩ := c_law_feed (P := P) (w := w) (base := base) T
  obtain ⟨_, _, C_law_is_lot_right⟩ := c_law_is_lot_right (P := P) (w := w) (base := base) T
  obtain ⟨_, _, C_law_lots⟩ := c_law_lots (P := P) (w := w) (base := base) T
  obtain ⟨_, _, C_law_place⟩ := c_law_place (P := P) (w := w) (base := base) T
  obtain ⟨_, _, C_law_ring_rows⟩ := c_law_ring_rows (P := P) (w := w) (base := base) T
  obtain ⟨_, _, C_law_sent⟩ := c_law_sent (P := P) (w := w) (base := base) T
  refine ⟨_, (pss_cons (ps_set (i := 1) sc_law.nd rfl (Or.inr rfl) (pe_call C_law_feed.ok (hr.mono (by decide)) (by rfl) C_law_feed.mg C_law_feed.kp C_law_feed.bd .nil pass0 (pa_cons (pv 0) pa_nil)))
        (pss_cons (ps_for PassesOwn.never rfl (pi_range1 (by rfl) T.b_range (pa_cons pe_int pa_nil)) (pg_name (i := 2) sc_law.nd rfl (Or.inl rfl)) 
          (pss_cons (ps_set (i := 3) sc_law.nd rfl (Or.inl rfl) (pe_call C_law_place.ok (hr.mono (by decide)) (by rfl) C_law_place.mg C_law_place.kp C_law_place.bd .nil pass0 (pa_cons (pv 1) pa_nil)))
          (pss_cons (ps_set (i := 4) sc_law.nd rfl (Or.inl rfl) (pe_call C_law_sent.ok (hr.mono (by decide)) (by rfl) C_law_sent.mg C_law_sent.kp C_law_sent.bd .nil pass0 (pa_cons (pv 1) (pa_cons (pv 3) (pa_cons pe_int pa_nil)))))
          (pss_cons (ps_asg (pe_tup (pa_cons (pe_call C_law_ring_rows.ok (hr.mono (by decide)) (by rfl) C_law_ring_rows.mg C_law_ring_rows.kp C_law_ring_rows.bd .nil pass0 (pa_cons (pv 3) (pa_cons (pv 4) pa_nil))) (pa_cons (pe_call C_law_lots.ok (hr.mono (by decide)) (by rfl) C_law_lots.mg C_law_lots.kp C_law_lots.bd .nil pass0 (pa_cons (pe_ix ix_tup (pv 3) pe_int (fun _ _ => rfl)) pa_nil)) pa_nil))) (pg_tup rfl (pgs_cons (pg_name (i := 5) sc_law.nd rfl (Or.inl rfl)) (pgs_cons (pg_name (i := 6) sc_law.nd rfl (Or.inr rfl)) pgs_nil))))
          (pss_cons (ps_if (pt_cmpR op_gt (pe_callB call_len_seq (by rfl) T.b_len boot_len (pa_cons (pv 6) pa_nil)) pe_int (nomark _)) 
            (pss_one (ps_set (i := 6) sc_law.nd rfl (Or.inr rfl) (pe_op op_cat (pe_lst (pa_cons (pe_tup pa_nil) pa_nil)) (pe_lc (own := [("_law_turn", 7)]) (g := (gName 7)) rfl sc_law.nd (pi_range1 (by rfl) T.b_range (pa_cons pe_int pa_nil)) (blkOk_by (own := [("_law_turn", 7)]) (N := ["_law_script", "_law_feed_here", "_law_lap", "_law_place_here", "_law_mail", "_law_rings", "_law_lots_here", "_law_turn", "_law_out"]) (sc := defScope s_law) (by decide +kernel)) (fun _ _ _ _ _ => (pg_name (i := 7) sc_law.nd rfl (Or.inl rfl))) (fun _ _ _ _ _ => pts_nil) (fun _ _ _ _ _ => (pe_call C_law_any.ok (hr.mono (by decide)) (by rfl) C_law_any.mg C_law_any.kp C_law_any.bd .nil pass0 (pa_cons (pv 1) (pa_cons (pv 6) pa_nil)))))))) pss_nil)
          (pss_one (ps_for PassesOwn.never rfl (pi_list (pv 6)) (pg_name (i := 8) sc_law.nd rfl (Or.inl rfl)) 
            (pss_one (ps_if (pt_not (pt_val (pe_callG C_law_is_lot_right.ok gd (hr.mono (by decide)) (by rfl) C_law_is_lot_right.mg C_law_is_lot_right.kp C_law_is_lot_right.bd (pa_cons (pv 3) (pa_cons (pv 4) (pa_cons (pv 5) (pa_cons (pv 8) pa_nil))))))) 
              (pss_one (ps_ret pe_bl)) pss_nil)))))))))
        (pss_one (ps_ret pe_bl)))), ?_⟩
  obtain ⟨⟨s0, ns⟩, rfl, ⟨hs, hl⟩, q⟩ := h
  have hs : SqL K H s0 (ns.map V.int) := hs
  have hl : ns.length ≤ 63 := hl
  have q : ∀ H2, Q (.bl true) H2 := q
  refine q_asgR (R := fun v H2 => ∃ p c, v = .ref p ∧ H p = none ∧ IsFeed H2 p c) (er_call (vs := [.ref s0]) (ea_cons (ev_var rfl) ea_nil) fun H1 e1 Q q E => ⟨(s0, ns), rfl, ⟨ex_l e1 hs, hl⟩, fun p c H2 e2 np hf => q (.ref p) H2 e2 ⟨p, c, rfl, fresh_back e1 np, hf⟩⟩) fun v H1 e1 ⟨d, c, ev, nd, hf⟩ => ?_
  subst ev
  refine q_forR1 (n := 4) (ea_cons (ev_c (v := .int 4)) ea_nil) (by decide) (fun i σ' H' => (∃ u2 u3 u4 u5 u6 u7 u8, σ' = [some (.ref s0), some (.ref d), u2, u3, u4, u5, u6, u7, u8]) ∧ IsFeed H' d c) (fun H2 e2 => ⟨⟨_, _, _, _, _, _, _, rfl⟩, hf.ex e2⟩) (fun i σ' H2 hi ⟨⟨u2, u3, u4, u5, u6, u7, u8, es⟩, f2⟩ => ?_) fun σ' H2 ⟨⟨u2, u3, u4, u5, u6, u7, u8, es⟩, f2⟩ => s_ret (v := .bl true) ev_c fun H3 e3 => q H3
  subst es
  refine fq_asg (R := fun v H3 => ∃ p T, v = .ref p ∧ IsTown H3 p T ∧ GoodTown T) f2 (fun H3 f3 Q q => ea_cons (ev_var rfl) ea_nil H3 (Ex.refl _) _ fun H4 e4 => ⟨(d, c), rfl, f3.b.ex e4, fun p T H5 x5 f5 ht G => q _ H5 ⟨f3.b, (Exb.of e4).trans x5, f5⟩ ⟨p, T, rfl, ht, G⟩⟩) fun v H3 f3 ⟨t, T, ev, ht, G⟩ => ?_
  subst ev
  refine fq_asg (R := fun v H4 => ∃ p run, v = .ref p ∧ TupOf IsT4 H4 p run ∧ GoodRun T run) f3.b (fun H4 f4 Q q => ea_cons (ev_var (v := .ref d) rfl) (ea_cons (ev_var (v := .ref t) rfl) (ea_cons (ev_c (v := .int 8)) ea_nil)) H4 (Ex.refl _) _ fun H5 e5 => ⟨((d, t, c), T), rfl, ⟨f4.b.ex e5, ht.tx (f4.tx.trans (Tx.of e5)), G⟩, fun p run H6 x6 f6 hr GR => q _ H6 ⟨f4.b, (Exb.of e5).trans x6, f6⟩ ⟨p, run, rfl, hr, GR⟩⟩) fun v H4 f4 ⟨m, run, ev, hm, GR⟩ => ?_
  subst ev
  have ht4 := ht.tx f4.tx
  obtain ⟨x, y, pt0, px, py⟩ := id ht4
  have n5 := G.nms.len
  refine q_asgT (er_tup2R (R1 := fun v H2 => ∃ p found, v = .ref p ∧ LstOf IsTs H2 p found ∧ DD T run found ∧ found.length ≤ 39000) (R3 := fun v H2 => ∃ p lots, v = .ref p ∧ LstOf IsTs H2 p lots ∧ (∀ l ∈ lots, l.Sublist T.names) ∧ lots ≠ [] ∧ lots.length ≤ 32) (er_call (vs := [.ref t, .ref m]) (ea_cons (ev_var rfl) (ea_cons (ev_var rfl) ea_nil)) fun H5 e5 Q q E => ⟨((t, m), T, run), rfl, ⟨ht4.tx (Tx.of e5), T4s.tx (Tx.of e5) hm, G, GR⟩, q⟩) (fun v H1 H2 e ⟨p, fd, z1, z2, z3⟩ => ⟨p, fd, z1, z2.ex (fun _ _ z => z.tx (Tx.of e)) e, z3⟩)
    (er_call (vs := [.ref x]) (ea_cons (ev_op (x := .ref t) (ev_var rfl) (ev_c (v := .int 0)) (rv_ixT (K := K) (st_of pt0) (atI_nat (j := 0) rfl))) ea_nil) fun H5 e5 Q q E => ⟨(x, T.names), rfl, ⟨px.tx (Tx.of e5), n5⟩, q⟩) (fun v H1 H2 e ⟨p, fd, z1, z2, z3⟩ => ⟨p, fd, z1, z2.ex (fun _ _ z => z.tx (Tx.of e)) e, z3⟩)) fun v H5 e5 ⟨b, x1, y1, ev, hb, ⟨r, found, ex1, hr5, dd, few⟩, lo, lots, ey1, hlo5, hsub, hne, h32⟩ => ?_
  subst ev ex1 ey1
  refine ⟨b, _, rfl, st_of hb, rfl, _, _, rfl, _, _, rfl, rfl, ?_⟩
  have f5 := f4.ex e5
  obtain ⟨las, hlo1, plo⟩ := id hlo5
  have lla := paired_len plo
  refine fq_whenAsg (v0 := .ref lo) (R := fun v H6 => ∃ p ls, v = .ref p ∧ LstOf IsTs H6 p ls ∧ (∀ l ∈ ls, l.Sublist T.names)) (M := fun v H6 => ∃ p ls, v = .ref p ∧ LstOf IsTs H6 p ls ∧ (∀ l ∈ ls, l.Sublist T.names)) f5.b (eft_of (b := decide (16 < lots.length)) fun H6 f6 => ?_) (fun _ => ?_) rfl (fun v H6 f6 z => z) (fun _ H6 f6 => ⟨lo, lots, rfl, ⟨las, f6.lst hlo1, paired_imp (fun _ _ z => z.tx f6.tx) plo⟩, hsub⟩) fun v H6 f6 ⟨lo2, ls, ev, hls, hsub2⟩ => ?_
  · have z := ev_len (K := K) (σ := [some (.ref s0), some (.ref d), some (.int (i : Int)), some (.ref t), some (.ref m), some (.ref r), some (.ref lo), u7, u8]) (H := H6) (ev_var (i := 6) rfl) (sq_of (f6.lst hlo1))
    rw [List.length_map, lla] at z
    exact et_is (et_test (ev_op z (ev_c (v := .int 16)) rv_I0)) (decide_eq_decide.mpr (by omega))
  · refine ef_op2 (R1 := fun v H7 => ∃ p b, v = .ref p ∧ H7 p = some (.lst [.ref b]) ∧ H7 b = some (.tup [])) (R3 := fun v H7 => ∃ p as ls, v = .ref p ∧ H7 p = some (.lst ((as : List Addr).map V.ref)) ∧ Paired (IsTs H7) as ls ∧ (∀ l ∈ ls, l.Sublist T.names) ∧ as.length ≤ 9) (ef_of fun H7 f7 => er_imp (er_lst1 (er_tup (vs := []) ea_nil (Nat.zero_le _)) tupAt_ex) fun v H8 _ ⟨p, x, z1, _, z3, b, z4, z5⟩ => ⟨p, b, z1, by rw [z3, z4], z5⟩) (fun v H1 H2 e ⟨p, b, z1, z2, z3⟩ => ⟨p, b, z1, e.lst z2, e.tx _ _ z3⟩)
      (ef_lcR (n := 9) (PB := fun _ b => b = true) (R := fun i v H => ∃ b l, v = .ref b ∧ IsTs H b l ∧ l.Sublist T.names) (fun H7 f7 => ea_cons (ev_c (v := .int (9 : Nat))) ea_nil) (by decide) (fun _ => rfl) (fun _ _ _ _ e ⟨b, l, z1, z2, z3⟩ => ⟨b, l, z1, z2.tx e, z3⟩) (fun i2 x2 H7 f7 => ⟨eft_of fun _ _ => et_yes, fun _ => ef_imp (ef_any (xs := las.map V.ref) (fun H8 f8 => fun H9 e9 Q k => ea_cons (x := .ref d) (ev_var rfl) (ea_cons (x := .ref lo) (ev_var rfl) ea_nil) H9 e9 Q fun H10 e10 => k _ H10 e10 ⟨lo, rfl, e10 _ _ (e9 _ _ ((f7.trans f8).lst hlo1))⟩) (fun z => by rw [List.map_eq_nil_iff] at z; rw [z] at lla; exact hne (List.length_eq_zero_iff.mp lla.symm)) (by rw [List.length_map]; omega)) fun v H8 f8 hv => ?_⟩) fun p ys ix H7 f7 hp hyl hpr => ?_)
      fun x2 y2 H7 f7 ⟨p1, b1, ex, hp1, hb1⟩ ⟨p2, as2, ls2, ey, hp2, pas2, hs2, l9⟩ Q k => ?_
    · obtain ⟨b, hb, ev⟩ := List.mem_map.mp hv
      obtain ⟨l, hl, pb⟩ := paired_mem plo hb
      exact ⟨b, l, ev.symm, pb.tx (f7.trans f8).tx, hsub l hl⟩
    · obtain ⟨as, ls, es, pas, hs⟩ := lots_of hpr
      subst es
      rw [List.length_map] at hyl
      exact ⟨p, as, ls, rfl, hp, pas, hs, hyl⟩
    · subst ex ey
      refine ⟨p1, p2, _, _, rfl, rfl, hp1, hp2, ?_, fun u nu => k _ _ (FOk.of f7.b (Ex.new nu)) ⟨u, [] :: ls2, rfl, ⟨b1 :: as2, upd_same, .cons (Tx.new nu _ _ hb1) (paired_imp (fun _ _ z => z.tx (Tx.new nu)) pas2)⟩, fun l hl => ?_⟩⟩
      · rw [List.length_map]
        exact sz_of (by show 1 + as2.length ≤ 100000; omega)
      · rcases List.mem_cons.mp hl with z | z
        · rw [z]; exact List.nil_sublist _
        · exact hs2 l z
  · subst ev
    obtain ⟨as3, hl3, pas3⟩ := hls
    have f56 := f6
    refine s_forLn (K := K) (a := lo2) (ev_var rfl) (sq_of hl3) (fun j σ' H' => (∃ u8, σ' = [some (.ref s0), some (.ref d), some (.int (i : Int)), some (.ref t), some (.ref m), some (.ref r), some (.ref lo2), u7, u8]) ∧ Ex H6 H') (fun H7 e7 => ⟨⟨_, rfl⟩, e7⟩) (fun j σ' H' _ z => sq_of (z.2 _ _ hl3)) (fun j v σ' H7 hv ⟨⟨u8, es⟩, e7⟩ => ?_) fun σ' H7 ⟨⟨u8, es⟩, e7⟩ => ?_
    · subst es
      rw [List.getElem?_map] at hv
      obtain ⟨b, hb, ev⟩ := Option.map_eq_some_iff.mp hv
      subst ev
      obtain ⟨lot, hlot, pb⟩ := paired_mem pas3 (List.mem_of_getElem? hb)
      have tx7 : Tx H5 H7 := f6.tx.trans (Tx.of e7)
      obtain ⟨fas, hfas, pfas⟩ := id hr5
      refine s_when (b := false) (et_not (a := true) (et_B (ev_callV (vs := [.ref t, .ref m, .ref r, .ref b]) (ea_cons (ev_var rfl) (ea_cons (ev_var rfl) (ea_cons (ev_var rfl) (ea_cons (ev_var rfl) ea_nil)))) fun H8 e8 Q q E => ⟨⟨t, m, r, b, T, run, found, lot⟩, rfl, ⟨ht4.tx ((Tx.of e5).trans (tx7.trans (Tx.of e8))), T4s.tx ((Tx.of e5).trans (tx7.trans (Tx.of e8))) hm, ⟨fas, ((f6.ex e7).ex e8).lst hfas, paired_imp (fun _ _ z => z.tx (tx7.trans (Tx.of e8))) pfas⟩, pb.tx (Tx.of (e7.trans e8)), G, GR, hsub2 lot hlot, dd, few⟩, q⟩))) (fun z => by cases z) fun _ H8 e8 => ⟨⟨_, rfl⟩, e7.trans e8⟩
    · subst es
      exact ⟨⟨_, _, _, _, _, _, _, rfl⟩, f6.b.ex e7⟩
end
end K14
set_option Elab.async false
set_option linter.all false
set_option maxRecDepth 100000
set_option maxHeartbeats 0
namespace K14
open PySem PySem.Spec PyProof.Rows L2
def gloIn (x : Str) : List He.Fa → Bool
  | [] => false
  | .glo y :: r => decide (x = y) || gloIn x r
  | _ :: r => gloIn x r
theorem gloIn_mem {x : Str} : ∀ {l : List He.Fa}, gloIn x l = true → He.Fa.glo x ∈ l
  | [], h => by cases h
  | f :: r, h => by
    cases f with
    | glo y =>
      have h : (decide (x = y) || gloIn x r) = true := h
      rcases (Bool.or_eq_true _ _).mp h with z | z
      · have e : x = y := of_decide_eq_true z
        subst e
        exact List.mem_cons_self
      · exact List.mem_cons_of_mem _ (gloIn_mem z)
    | _ => exact List.mem_cons_of_mem _ (gloIn_mem h)
theorem fn_glo : ∀ d ∈ fn, gloIn d.name fa = true ∧ d.at_ = (d.name, none) := by decide +kernel
theorem top_of {K : PySem.W.Frag} {h : Heap} {mg : Str → Option Value} (X : K.In h) (G : h.Ns mainGlobals mg) (c : He.SaysD fa fn K) : Top K mg where
  fns := fun i d hd => by
    obtain ⟨z1, z2⟩ := fn_glo d (List.mem_of_getElem? hd)
    refine ⟨c.def_ i hd, ?_⟩
    rw [z2]
    exact He.glo_ok X G (c.facts (gloIn_mem z1))
  b_isinstance := He.free_ok X G (c.fact 45 (f := .free "isinstance") rfl)
  b_int := He.free_ok X G (c.fact 46 (f := .free "int") rfl)
  b_bool := He.free_ok X G (c.fact 47 (f := .free "bool") rfl)
  b_str := He.free_ok X G (c.fact 48 (f := .free "str") rfl)
  b_tuple := He.free_ok X G (c.fact 49 (f := .free "tuple") rfl)
  b_len := He.free_ok X G (c.fact 50 (f := .free "len") rfl)
  b_all := He.free_ok X G (c.fact 51 (f := .free "all") rfl)
  b_zip := He.free_ok X G (c.fact 52 (f := .free "zip") rfl)
  b_dict := He.free_ok X G (c.fact 53 (f := .free "dict") rfl)
  b_enumerate := He.free_ok X G (c.fact 54 (f := .free "enumerate") rfl)
  b_range := He.free_ok X G (c.fact 55 (f := .free "range") rfl)
  b_min := He.free_ok X G (c.fact 56 (f := .free "min") rfl)
  b_repr := He.free_ok X G (c.fact 57 (f := .free "repr") rfl)
  b_list := He.free_ok X G (c.fact 58 (f := .free "list") rfl)
  g_LETTERS := He.str_ok X G (c.fact 59 (f := .str "LETTERS" "abcdefghijklmnopqrstuvwxyz") rfl)
  g_MOST_LETTERS := He.int_ok X G (c.fact 60 (f := .int "MOST_LETTERS" 8) rfl)
end K14
open PySem PySem.W PySem.Calls PyProof.Rows
theorem PySem.Challenge.cw_nearhours_k14_whole_clashing_rings_holds : PySem.Challenge.rw_nearhours_k14_whole_clashing_rings.Holds := by
  w_on; o_law
  refine HandSHeadRun.head_any (r := OpenLaw.row PySem.Challenge.rw_nearhours_k14_whole_clashing_rings) (q := view (OpenLaw.row PySem.Challenge.rw_nearhours_k14_whole_clashing_rings).prog [59]) (H := K14.hk) (ob := K14.ob) (M := 4000) (loose := K14.loose) (d := HandSHeadRun.topDef (OpenLaw.row PySem.Challenge.rw_nearhours_k14_whole_clashing_rings).prog 59) (kwd := []) K14.ob_eq
    (by kernel_rfl) (fun s => by kernel_rfl) K14.run (by kernel_rfl) (by kernel_rfl) (by kernel_rfl) (by rfl) (by first | assumption | decide +kernel) (by decide +kernel) ⟨rfl, rfl, rfl, rfl, rfl, by decide +kernel⟩ ?hw ?hc
  case hw => w_witness2
  case hc =>
    refine K14.walk_g (l := PySem.Challenge.rw_nearhours_k14_whole_clashing_rings) (n := 63) (k := 10) (x := "_law_script") rfl (by decide) (by kernel_rfl) ⟨rfl, by decide, by decide⟩ ?F
    intro w mg fa h Y G hmg0
    obtain ⟨K, KX, c⟩ := Y
    have hmg : mg ("law" : PySem.Str) = some (.ref fa) := by
      have e : (HandSHeadRun.topDef (OpenLaw.row PySem.Challenge.rw_nearhours_k14_whole_clashing_rings).prog 59).name = ("law" : PySem.Str) := by kernel_rfl
      rw [← e]
      exact hmg0
    obtain ⟨f, fd, hf, hb, hF⟩ := K14.c_law (P := (PySem.Challenge.rw_nearhours_k14_whole_clashing_rings).prog) (w := w) (K14.top_of KX G c)
    cases hmg.symm.trans hf
    exact ⟨K, fd, K14.sp_law K, KX, hb, fun H a ns hl hS => ⟨(a, ns), rfl, ⟨hS, hl⟩, fun _ => rfl⟩, fun base _ _ => hF base⟩
