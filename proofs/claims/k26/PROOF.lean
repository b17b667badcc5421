import PyProof.Rows.All
import Wide.All
import OpenK.AllK
import Wide.FinOn
import KE.KStateDown
import KE.GoesEnum
import KE.SortData
import PyProof.ReprRoads
import PyProof.ReprReads
import HandS.ForMost
import HandS.Defaults
import HandS.Style
import HandS.Flow
import HandS.TupAny
import HandS.TupSets
import HandS.IsInst
import HandS.Deep
import HandS.Strs
import HandS.Conv
import HandS.Walk
import HandS.Zip
import HandS.HeadEnd
import PySem.Challenge.RW_lastpairs_k26_whole_two_partings
import HandS.Evl
import HandS.Codes
import HandS.Text
import PyProof.ReprBulk
import HandS.Head0
import HandS.Head1
import HandS.Head2
import HandS.HeadHook1
import HandS.HeadHook2
set_option Elab.async false
set_option linter.all false
set_option maxRecDepth 100000
set_option maxHeartbeats 0
/-! ## KMath -/
/-! Lasting partings by plain Lean: stable matchings of the double cover, by ranks. No program in sight. -/
namespace KM

/-- A sequence of numbers below n meets one number twice. -/
theorem nodup_len : ∀ (l d : List Nat), l.Nodup → (∀ x ∈ l, x ∈ d) → l.length ≤ d.length
  | [], _, _, _ => Nat.zero_le _
  | x :: l, d, hn, hs => by
    have hx : x ∈ d := hs x (List.mem_cons_self)
    have hn' := List.nodup_cons.mp hn
    have ih := nodup_len l (d.erase x) hn'.2 (fun y hy => by
      have hyd := hs y (List.mem_cons_of_mem _ hy)
      have hne : y ≠ x := by
        rintro rfl
        exact hn'.1 hy
      exact (List.mem_erase_of_ne hne).mpr hyd)
    rw [List.length_erase_of_mem hx] at ih
    have hp : 0 < d.length := List.length_pos_of_mem hx
    simp only [List.length_cons]
    omega

theorem twice (n : Nat) (g : Nat → Nat) (h : ∀ k, g k < n) : ∃ i j, i < j ∧ g i = g j := by
  by_cases hc : ∃ i j, i < j ∧ g i = g j
  · exact hc
  · exfalso
    have inj : ∀ i j, i < j → g i ≠ g j := fun i j hij e => hc ⟨i, j, hij, e⟩
    have hn : ((List.range (n + 1)).map g).Nodup := by
      rw [List.nodup_iff_pairwise_ne, List.pairwise_map]
      exact List.Pairwise.imp (fun {a b} hab => inj a b hab) List.pairwise_lt_range
    have := nodup_len _ (List.range n) hn (fun x hx => by
      obtain ⟨k, _, rfl⟩ := List.mem_map.mp hx
      exact List.mem_range.mpr (h k))
    simp only [List.length_map, List.length_range] at this
    omega

def it (f : Nat → Nat) : Nat → Nat → Nat
  | 0, x => x
  | k + 1, x => f (it f k x)

theorem it_succ (f : Nat → Nat) : ∀ k x, it f (k + 1) x = it f k (f x)
  | 0, _ => rfl
  | k + 1, x => by
    show f (it f (k + 1) x) = f (it f k (f x))
    rw [it_succ f k x]

theorem it_add (f : Nat → Nat) (j x : Nat) : ∀ i, it f (i + j) x = it f i (it f j x)
  | 0 => by rw [Nat.zero_add]; rfl
  | i + 1 => by
    rw [Nat.succ_add]
    show f (it f (i + j) x) = f (it f i (it f j x))
    rw [it_add f j x i]

theorem it_mul (f : Nat → Nat) {m x : Nat} (h : it f m x = x) : ∀ k, it f (m * k) x = x
  | 0 => rfl
  | k + 1 => by
    rw [Nat.mul_succ, it_add, h, it_mul f h k]

theorem it_in (f : Nat → Nat) (A : Nat → Prop) (hA : ∀ x, A x → A (f x)) {x : Nat} (hx : A x) : ∀ k, A (it f k x)
  | 0 => hx
  | k + 1 => hA _ (it_in f A hA hx k)

/-- An injective function of a lot of numbers below n into itself reaches all of it. -/
theorem onto {n : Nat} {A : Nat → Prop} (hb : ∀ x, A x → x < n) {f : Nat → Nat} (hf : ∀ x, A x → A (f x))
    (hi : ∀ x y, A x → A y → f x = f y → x = y) : ∀ z, A z → ∃ x, A x ∧ f x = z := by
  intro z hz
  obtain ⟨i, j, hij, e⟩ := twice n (fun k => it f k z) (fun k => hb _ (it_in f A hf hz k))
  have e : it f i z = it f j z := e
  have key : ∀ i d, it f i z = it f (i + d) z → z = it f d z := by
    intro i
    induction i with
    | zero =>
      intro d h
      rw [Nat.zero_add] at h
      exact h
    | succ i ih =>
      intro d h
      refine ih d (hi _ _ (it_in f A hf hz i) (it_in f A hf hz (i + d)) ?_)
      rw [Nat.succ_add] at h
      exact h
  have hz' := key i (j - i) (by
    rw [Nat.add_sub_cancel' (Nat.le_of_lt hij)]
    exact e)
  obtain ⟨d, hd⟩ : ∃ d, j - i = d + 1 := ⟨j - i - 1, by omega⟩
  rw [hd] at hz'
  exact ⟨it f d z, it_in f A hf hz d, hz'.symm⟩

/-- n persons; E i j: j is on the list of i; r i j: its rank there; len i: how long the list is. -/
structure Inst (n : Nat) (E : Nat → Nat → Prop) (r : Nat → Nat → Nat) (len : Nat → Nat) : Prop where
  bd : ∀ i j, E i j → i < n
  sy : ∀ i j, E i j → E j i
  lt : ∀ i j, E i j → r i j < len i
  inj : ∀ i j k, E i j → E i k → r i j = r i k → j = k
  at_ : ∀ i, i < n → ∀ k, k < len i → ∃ j, E i j ∧ r i j = k

section
variable {n : Nat} {E : Nat → Nat → Prop} {r : Nat → Nat → Nat} {len : Nat → Nat}

/-- a: ranks of the next ones, b: ranks of those before. -/
structure SM (n : Nat) (E : Nat → Nat → Prop) (r : Nat → Nat → Nat) (len : Nat → Nat) (a b : Nat → Nat) : Prop where
  la : ∀ i, i < n → a i ≤ len i
  lb : ∀ i, i < n → b i ≤ len i
  nx : ∀ i, i < n → a i < len i → ∃ j, E i j ∧ r i j = a i ∧ r j i = b j
  bf : ∀ j, j < n → b j < len j → ∃ i, E j i ∧ r j i = b j ∧ r i j = a i
  ok : ∀ i j, E i j → r i j < a i → r j i < b j → False

theorem SM.flip (I : Inst n E r len) {a b : Nat → Nat} (S : SM n E r len a b) : SM n E r len b a :=
  ⟨S.lb, S.la, S.bf, S.nx, fun i j e h1 h2 => S.ok j i (I.sy _ _ e) h2 h1⟩

/-- who is higher in the first of two: its next one is lower there; and round. -/
theorem SM.down (I : Inst n E r len) {a b c d : Nat → Nat} (S : SM n E r len a b) (T : SM n E r len c d)
    {i : Nat} (hi : i < n) (h : a i < c i) : ∃ j, E i j ∧ r i j = a i ∧ r j i = b j ∧ d j < b j := by
  obtain ⟨j, e, h1, h2⟩ := S.nx i hi (Nat.lt_of_lt_of_le h (T.la i hi))
  refine ⟨j, e, h1, h2, ?_⟩
  have hj : j < n := I.bd _ _ (I.sy _ _ e)
  have n1 : ¬ r j i < d j := fun q => T.ok i j e (by omega) q
  have l1 := I.lt _ _ (I.sy _ _ e)
  rcases Nat.lt_or_ge (d j) (b j) with q | q
  · exact q
  · exfalso
    have eq : d j = r j i := by omega
    obtain ⟨i', e', g1, g2⟩ := T.bf j hj (by omega)
    have : i' = i := I.inj j i' i e' (I.sy _ _ e) (by omega)
    subst this
    omega

theorem SM.compare (I : Inst n E r len) {a b c d : Nat → Nat} (S : SM n E r len a b) (T : SM n E r len c d)
    {i : Nat} (hi : i < n) (h : a i < c i) : ∃ j, E i j ∧ r i j = c i ∧ r j i = d j ∧ d j < b j := by
  have ex : ∀ x, ∃ p : Nat × Nat, x < n ∧ a x < c x → (E x p.1 ∧ r x p.1 = a x ∧ r p.1 x = b p.1 ∧ d p.1 < b p.1) ∧
      E p.1 p.2 ∧ r p.1 p.2 = d p.1 ∧ r p.2 p.1 = c p.2 ∧ a p.2 < c p.2 := by
    intro x
    by_cases hx : x < n ∧ a x < c x
    · obtain ⟨y, e, h1, h2, h3⟩ := S.down I T hx.1 hx.2
      obtain ⟨z, e', g1, g2, g3⟩ := (T.flip I).down I (S.flip I) (I.bd _ _ (I.sy _ _ e)) h3
      exact ⟨(y, z), fun _ => ⟨⟨e, h1, h2, h3⟩, e', g1, g2, g3⟩⟩
    · exact ⟨(0, 0), fun q => absurd q hx⟩
  obtain ⟨f, hf⟩ := Classical.axiomOfChoice ex
  obtain ⟨x, hx, ex⟩ := onto (n := n) (A := fun x => x < n ∧ a x < c x) (fun x hx => hx.1) (f := fun x => (f x).2)
    (fun x hx => ⟨I.bd _ _ (I.sy _ _ (hf x hx).2.1), (hf x hx).2.2.2.2⟩)
    (fun x y hx hy e => by
      have e : (f x).2 = (f y).2 := e
      obtain ⟨⟨e1, p1, q1, r1⟩, e2, p2, q2, r2⟩ := hf x hx
      obtain ⟨⟨e3, p3, q3, r3⟩, e4, p4, q4, r4⟩ := hf y hy
      have e5 : (f x).1 = (f y).1 := by
        refine I.inj (f x).2 _ _ (I.sy _ _ e2) (by rw [e]; exact I.sy _ _ e4) ?_
        rw [q2, e, q4]
      refine I.inj (f x).1 x y (I.sy _ _ e1) (by rw [e5]; exact I.sy _ _ e3) ?_
      rw [q1, e5, q3]) i ⟨hi, h⟩
  have ex : (f x).2 = i := ex
  obtain ⟨⟨e1, p1, q1, r1⟩, e2, p2, q2, r2⟩ := hf x hx
  rw [ex] at e2 p2 q2
  exact ⟨(f x).1, I.sy _ _ e2, q2, p2, r1⟩

/-- j is the next one of i in the second of two. -/
theorem SM.up_iff (I : Inst n E r len) {a b c d : Nat → Nat} (S : SM n E r len a b) (T : SM n E r len c d)
    {i j : Nat} (e : E i j) (h1 : r i j = c i) (h2 : r j i = d j) : a i < c i ↔ d j < b j := by
  constructor
  · intro h
    obtain ⟨j', e', g1, g2, g3⟩ := S.compare I T (I.bd _ _ e) h
    have : j' = j := I.inj i j' j e' e (by omega)
    subst this
    exact g3
  · intro h
    obtain ⟨i', e', g1, g2, g3⟩ := (T.flip I).down I (S.flip I) (I.bd _ _ (I.sy _ _ e)) h
    have : i' = i := I.inj j i' i e' (I.sy _ _ e) (by omega)
    subst this
    exact g3

theorem SM.down_iff (I : Inst n E r len) {a b c d : Nat → Nat} (S : SM n E r len a b) (T : SM n E r len c d)
    {i j : Nat} (e : E i j) (h1 : r i j = c i) (h2 : r j i = d j) : c i < a i ↔ b j < d j :=
  ((S.flip I).up_iff I (T.flip I) (I.sy _ _ e) h2 h1).symm

/-- who is single in one, is single in the other. -/
theorem SM.single (I : Inst n E r len) {a b c d : Nat → Nat} (S : SM n E r len a b) (T : SM n E r len c d)
    {i : Nat} (hi : i < n) (h : c i = len i) : a i = len i := by
  rcases Nat.lt_or_ge (a i) (c i) with q | q
  · obtain ⟨j, e, g1, _⟩ := S.compare I T hi q
    have := I.lt _ _ e
    omega
  · have := S.la i hi
    omega

theorem SM.join (I : Inst n E r len) {a b c d : Nat → Nat} (S : SM n E r len a b) (T : SM n E r len c d) :
    SM n E r len (fun i => min (a i) (c i)) (fun i => max (b i) (d i)) := by
  have half : ∀ {a b c d : Nat → Nat}, SM n E r len a b → SM n E r len c d → ∀ i, i < n → a i ≤ c i → a i < len i →
      ∃ j, E i j ∧ r i j = a i ∧ r j i = b j ∧ d j ≤ b j := by
    intro a b c d S T i hi hle hl
    rcases Nat.lt_or_ge (a i) (c i) with q | q
    · obtain ⟨j, e, h1, h2, h3⟩ := S.down I T hi q
      exact ⟨j, e, h1, h2, Nat.le_of_lt h3⟩
    · have eq : a i = c i := by omega
      obtain ⟨j, e, h1, h2⟩ := S.nx i hi hl
      obtain ⟨j', e', g1, g2⟩ := T.nx i hi (by omega)
      have : j' = j := I.inj i j' j e' e (by omega)
      subst this
      exact ⟨j', e, h1, h2, by omega⟩
  have half2 : ∀ {a b c d : Nat → Nat}, SM n E r len a b → SM n E r len c d → ∀ j, j < n → d j ≤ b j → b j < len j →
      ∃ i, E j i ∧ r j i = b j ∧ r i j = a i ∧ a i ≤ c i := by
    intro a b c d S T j hj hle hl
    obtain ⟨i, e, h1, h2⟩ := S.bf j hj hl
    refine ⟨i, e, h1, h2, ?_⟩
    rcases Nat.lt_or_ge (d j) (b j) with q | q
    · have := (T.down_iff I S (I.sy _ _ e) h2 h1).mpr q
      omega
    · have eq : b j = d j := by omega
      obtain ⟨i', e', g1, g2⟩ := T.bf j hj (by omega)
      have : i' = i := I.inj j i' i e' e (by omega)
      subst this
      omega
  refine ⟨fun i hi => ?_, fun i hi => ?_, fun i hi h => ?_, fun j hj h => ?_, fun i j e h1 h2 => ?_⟩
  · have := S.la i hi
    show min (a i) (c i) ≤ len i
    omega
  · have := S.lb i hi
    have := T.lb i hi
    show max (b i) (d i) ≤ len i
    omega
  · have h : min (a i) (c i) < len i := h
    show ∃ j, E i j ∧ r i j = min (a i) (c i) ∧ r j i = max (b j) (d j)
    rcases Nat.le_total (a i) (c i) with q | q
    · obtain ⟨j, e, h1, h2, h3⟩ := half S T i hi q (by omega)
      exact ⟨j, e, by omega, by omega⟩
    · obtain ⟨j, e, h1, h2, h3⟩ := half T S i hi q (by omega)
      exact ⟨j, e, by omega, by omega⟩
  · have h : max (b j) (d j) < len j := h
    show ∃ i, E j i ∧ r j i = max (b j) (d j) ∧ r i j = min (a i) (c i)
    rcases Nat.le_total (d j) (b j) with q | q
    · obtain ⟨i, e, h1, h2, h3⟩ := half2 S T j hj q (by omega)
      exact ⟨i, e, by omega, by omega⟩
    · obtain ⟨i, e, h1, h2, h3⟩ := half2 T S j hj q (by omega)
      exact ⟨i, e, by omega, by omega⟩
  · have h1 : r i j < min (a i) (c i) := h1
    have h2 : r j i < max (b j) (d j) := h2
    rcases Nat.le_total (d j) (b j) with q | q
    · exact S.ok i j e (by omega) (by omega)
    · exact T.ok i j e (by omega) (by omega)

/-- the ranks of the next ones are told by those of the ones before. -/
theorem SM.same (I : Inst n E r len) {a b c d : Nat → Nat} (S : SM n E r len a b) (T : SM n E r len c d) (h : ∀ i, i < n → b i = d i) {i : Nat} (hi : i < n) : a i = c i := by
  have : ∀ {a b c d : Nat → Nat}, SM n E r len a b → SM n E r len c d → (∀ i, i < n → b i = d i) → ¬ a i < c i := by
    intro a b c d S T hbd h
    obtain ⟨j, e, h1, h2, h3⟩ := S.down I T hi h
    have := hbd j (I.bd _ _ (I.sy _ _ e))
    omega
  have h1 := this S T h
  have h2 := this T S (fun i hi => (h i hi).symm)
  omega

theorem least (P : Nat → Prop) (h : ∃ k, P k) : ∃ k, P k ∧ ∀ m, P m → k ≤ m := by
  obtain ⟨k, hk⟩ := h
  induction k using Nat.strongRecOn with
  | ind k ih =>
    by_cases q : ∃ m, m < k ∧ P m
    · obtain ⟨m, hm, pm⟩ := q
      exact ih m hm pm
    · refine ⟨k, hk, fun m pm => ?_⟩
      rcases Nat.lt_or_ge m k with z | z
      · exact absurd ⟨m, z, pm⟩ q
      · exact z

theorem phi_ex (E : Nat → Nat → Prop) (r : Nat → Nat → Nat) (len t : Nat → Nat) (i : Nat) :
    ∃ k, (k = len i ∨ ∃ j, E i j ∧ r i j = k ∧ r j i ≤ t j) ∧ ∀ m, (m = len i ∨ ∃ j, E i j ∧ r i j = m ∧ r j i ≤ t j) → k ≤ m :=
  least (fun k => k = len i ∨ ∃ j, E i j ∧ r i j = k ∧ r j i ≤ t j) ⟨len i, .inl rfl⟩

/-- the best rank that somebody on the list of i lets it have, who has the rank t now -/
noncomputable def phi (E : Nat → Nat → Prop) (r : Nat → Nat → Nat) (len t : Nat → Nat) (i : Nat) : Nat := Classical.choose (phi_ex E r len t i)

theorem phi_le (t : Nat → Nat) (i : Nat) : phi E r len t i ≤ len i := (Classical.choose_spec (phi_ex E r len t i)).2 _ (.inl rfl)

theorem phi_at {t : Nat → Nat} {i : Nat} (h : phi E r len t i < len i) : ∃ j, E i j ∧ r i j = phi E r len t i ∧ r j i ≤ t j := by
  rcases (Classical.choose_spec (phi_ex E r len t i)).1 with q | q
  · have q : phi E r len t i = len i := q
    omega
  · exact q

theorem phi_min {t : Nat → Nat} {i j : Nat} (e : E i j) (h : r j i ≤ t j) : phi E r len t i ≤ r i j :=
  (Classical.choose_spec (phi_ex E r len t i)).2 _ (.inr ⟨j, e, rfl, h⟩)

theorem phi_anti (I : Inst n E r len) {t t' : Nat → Nat} (h : ∀ j, j < n → t j ≤ t' j) (i : Nat) : phi E r len t' i ≤ phi E r len t i := by
  rcases Nat.lt_or_ge (phi E r len t i) (len i) with q | q
  · obtain ⟨j, e, h1, h2⟩ := phi_at q
    have := phi_min (E := E) (r := r) (len := len) (t := t') e (Nat.le_trans h2 (h j (I.bd _ _ (I.sy _ _ e))))
    omega
  · exact Nat.le_trans (phi_le t' i) q

def total (n : Nat) (t : Nat → Nat) : Nat := match n with
  | 0 => 0
  | n + 1 => total n t + t n

theorem total_le : ∀ {n : Nat} {a b : Nat → Nat}, (∀ i, i < n → a i ≤ b i) → total n a ≤ total n b
  | 0, _, _, _ => Nat.le_refl _
  | n + 1, a, b, h => by
    have := total_le (n := n) (a := a) (b := b) fun i hi => h i (by omega)
    have := h n (by omega)
    simp only [total]
    omega

theorem total_eq : ∀ {n : Nat} {a b : Nat → Nat}, (∀ i, i < n → a i ≤ b i) → total n b ≤ total n a → ∀ i, i < n → a i = b i
  | 0, _, _, _, _ => fun i hi => absurd hi (Nat.not_lt_zero i)
  | n + 1, a, b, h, ht => by
    intro i hi
    have h0 := total_le (n := n) (a := a) (b := b) fun i hi => h i (by omega)
    have h1 := h n (by omega)
    simp only [total] at ht
    rcases Nat.lt_or_ge i n with q | q
    · exact total_eq (n := n) (fun i hi => h i (by omega)) (by omega) i q
    · have : i = n := by omega
      subst this
      omega

structure Wt (n : Nat) (E : Nat → Nat → Prop) (r : Nat → Nat → Nat) (len t : Nat → Nat) : Prop where
  le : ∀ i, i < n → t i ≤ len i
  up : ∀ i, i < n → phi E r len t i ≤ t i
  two : ∀ i, i < n → phi E r len (phi E r len t) i ≤ t i

theorem SM.wt (I : Inst n E r len) {a b : Nat → Nat} (S : SM n E r len a b) (h : ∀ i, i < n → a i ≤ b i) : Wt n E r len b := by
  refine ⟨S.lb, fun i hi => ?_, fun i hi => ?_⟩
  · refine Nat.le_trans ?_ (h i hi)
    rcases Nat.lt_or_ge (a i) (len i) with q | q
    · obtain ⟨j, e, h1, h2⟩ := S.nx i hi q
      have := phi_min (E := E) (r := r) (len := len) (t := b) e (by omega)
      omega
    · exact Nat.le_trans (phi_le b i) q
  · rcases Nat.lt_or_ge (b i) (len i) with q | q
    · obtain ⟨x, e, h1, h2⟩ := S.bf i hi q
      have hx : x < n := I.bd _ _ (I.sy _ _ e)
      have key : a x ≤ phi E r len b x := by
        rcases Nat.lt_or_ge (phi E r len b x) (len x) with z | z
        · obtain ⟨j, e', g1, g2⟩ := phi_at z
          rcases Nat.lt_or_ge (phi E r len b x) (a x) with y | y
          · exfalso
            have n1 : ¬ r j x < b j := fun k => S.ok x j e' (by omega) k
            have l1 := I.lt _ _ (I.sy _ _ e')
            obtain ⟨x', e2, k1, k2⟩ := S.bf j (I.bd _ _ (I.sy _ _ e')) (by omega)
            have : x' = x := I.inj j x' x e2 (I.sy _ _ e') (by omega)
            subst this
            omega
          · exact y
        · exact Nat.le_trans (S.la x hx) z
      have := phi_min (E := E) (r := r) (len := len) (t := phi E r len b) e (by omega)
      omega
    · exact Nat.le_trans (phi_le _ i) q

/-- a steady pair whose second part is least -/
theorem steady (I : Inst n E r len) : ∃ u t, SM n E r len u t ∧ (∀ i, i < n → u i ≤ t i) ∧
    ∀ a b, SM n E r len a b → (∀ i, i < n → a i ≤ b i) → (∀ i, i < n → b i ≤ t i) → ∀ i, i < n → b i = t i := by
  obtain ⟨k, ⟨t, W, ek⟩, hmin⟩ := least (fun k => ∃ t, Wt n E r len t ∧ total n t = k) ⟨_, len, ⟨fun i _ => Nat.le_refl _, fun i _ => phi_le _ i, fun i _ => phi_le _ i⟩, rfl⟩
  have hm : ∀ b, Wt n E r len b → total n t ≤ total n b := fun b hb => by
    rw [ek]
    exact hmin _ ⟨b, hb, rfl⟩
  have u1 : ∀ i, phi E r len t i ≤ phi E r len (phi E r len t) i := fun i => phi_anti I W.up i
  have W' : Wt n E r len (phi E r len (phi E r len t)) := by
    refine ⟨fun i _ => phi_le _ i, fun i hi => ?_, fun i hi => ?_⟩
    · exact phi_anti I (fun j _ => u1 j) i
    · refine phi_anti I (fun j hj => ?_) i
      exact phi_anti I W.two j
  have eq : ∀ i, i < n → phi E r len (phi E r len t) i = t i := total_eq W.two (hm _ W')
  refine ⟨phi E r len t, t, ⟨fun i _ => phi_le _ i, W.le, fun i hi h => ?_, fun j hj h => ?_, fun i j e h1 h2 => ?_⟩, W.up, fun a b S hab hbt => ?_⟩
  · obtain ⟨j, e, h1, h2⟩ := phi_at h
    have h3 := phi_min (E := E) (r := r) (len := len) (t := phi E r len t) (I.sy _ _ e) (by omega)
    have h4 := eq j (I.bd _ _ (I.sy _ _ e))
    exact ⟨j, e, h1, by omega⟩
  · have h4 := eq j hj
    obtain ⟨i, e, h1, h2⟩ := phi_at (E := E) (r := r) (len := len) (t := phi E r len t) (i := j) (by omega)
    have h3 := phi_min (E := E) (r := r) (len := len) (t := t) (I.sy _ _ e) (by omega)
    exact ⟨i, e, by omega, by omega⟩
  · have := phi_min (E := E) (r := r) (len := len) (t := t) e (by omega)
    omega
  · exact total_eq hbt (hm _ (S.wt I hab))

/-- with the second part least nothing bars: there is a lasting parting -/
theorem exists_lasting (I : Inst n E r len) : ∃ u t, SM n E r len u t ∧ (∀ i, i < n → u i ≤ t i) ∧
    ∀ i j, E i j → r i j < t i → r j i < t j → False := by
  obtain ⟨u, t, S, ut, hmin⟩ := steady I
  refine ⟨u, t, S, ut, ?_⟩
  -- what is between
  have two : ∀ a b, SM n E r len a b → (∀ i, i < n → a i ≤ t i) → (∀ i, i < n → b i ≤ t i) →
      ∀ i, i < n → min (a i) (b i) = u i ∧ max (b i) (a i) = t i := by
    intro a b T ha hb
    have J := T.join I (T.flip I)
    have e := hmin _ _ J (fun i _ => by show min (a i) (b i) ≤ max (b i) (a i); omega) (fun i hi => by
      have := ha i hi
      have := hb i hi
      show max (b i) (a i) ≤ t i
      omega)
    exact fun i hi => ⟨J.same I S e hi, e i hi⟩
  -- who lets one have it, is no better than the next one
  have L1 : ∀ i j, E i j → r j i ≤ t j → u i ≤ r i j := by
    intro i j e h
    rcases Nat.lt_or_ge (r i j) (u i) with q | q
    · exfalso
      have n1 : ¬ r j i < t j := fun z => S.ok i j e q z
      have l1 := I.lt _ _ (I.sy _ _ e)
      obtain ⟨i', e', g1, g2⟩ := S.bf j (I.bd _ _ (I.sy _ _ e)) (by omega)
      have : i' = i := I.inj j i' i e' (I.sy _ _ e) (by omega)
      subst this
      omega
    · exact q
  -- the one before
  have Q : ∀ y, y < n → t y < len y → ∀ z, E y z → r y z = t y → r z y = u z := by
    intro y hy hl z e h
    obtain ⟨i', e', g1, g2⟩ := S.bf y hy hl
    have : i' = z := I.inj y i' z e' e (by omega)
    subst this
    exact g2
  have P : ∀ x, x < n → ∀ y, E x y → r x y = u x → r y x = t y := by
    intro x hx y e h
    obtain ⟨j, e', g1, g2⟩ := S.nx x hx (by have := I.lt _ _ e; omega)
    have : j = y := I.inj x j y e' e (by omega)
    subst this
    exact g2
  -- the second one, and who has it now
  have ex : ∀ x, ∃ p : Nat × Nat, x < n ∧ u x < t x → E x p.1 ∧ u x < r x p.1 ∧ r p.1 x < t p.1 ∧ r x p.1 ≤ t x ∧
      (∀ y, E x y → u x < r x y → r y x < t y → r x p.1 ≤ r x y) ∧ E p.1 p.2 ∧ r p.1 p.2 = t p.1 ∧ r p.2 p.1 = u p.2 ∧ p.2 < n ∧ u p.2 < t p.2 := by
    intro x
    by_cases hx : x < n ∧ u x < t x
    · obtain ⟨hx, hut⟩ := hx
      have tl : t x < len x := by
        rcases Nat.lt_or_ge (t x) (len x) with q | q
        · exact q
        · have := S.single I (S.flip I) hx (Nat.le_antisymm (S.lb x hx) q)
          have := S.lb x hx
          omega
      obtain ⟨w, ew, w1, w2⟩ := S.bf x hx tl
      have hw : w < n := I.bd _ _ (I.sy _ _ ew)
      have w3 : r w x < t w := by
        have h1 := ut w hw
        rcases Nat.lt_or_ge (r w x) (t w) with q | q
        · exact q
        · exfalso
          have l1 := I.lt _ _ (I.sy _ _ ew)
          have := Q w hw (by omega) x (I.sy _ _ ew) (by omega)
          omega
      obtain ⟨k, ⟨y, ey, k1, k2, k3⟩, km⟩ := least (fun k => ∃ y, E x y ∧ r x y = k ∧ u x < k ∧ r y x < t y) ⟨r x w, w, ew, rfl, by omega, w3⟩
      have kt : k ≤ t x := by
        rw [← w1]
        exact km _ ⟨w, ew, rfl, by omega, w3⟩
      have hy : y < n := I.bd _ _ (I.sy _ _ ey)
      have uy : u y ≤ r y x := L1 y x (I.sy _ _ ey) (by omega)
      have tyl : t y < len y := by
        rcases Nat.lt_or_ge (t y) (len y) with q | q
        · exact q
        · have h1 := S.single I (S.flip I) hy (Nat.le_antisymm (S.lb y hy) q)
          have h2 := I.lt _ _ (I.sy _ _ ey)
          omega
      obtain ⟨z, ez, z1, z2⟩ := S.bf y hy tyl
      have hz : z < n := I.bd _ _ (I.sy _ _ ez)
      refine ⟨(y, z), fun _ => ⟨ey, by show u x < r x y; omega, k3, by show r x y ≤ t x; omega, fun y' ey' g1 g2 => by
        show r x y ≤ r x y'
        rw [k1]
        exact km _ ⟨y', ey', rfl, g1, g2⟩, ez, z1, z2, hz, ?_⟩⟩
      show u z < t z
      have h1 := ut z hz
      rcases Nat.lt_or_ge (u z) (t z) with q | q
      · exact q
      · exfalso
        have l1 := I.lt _ _ (I.sy _ _ ez)
        have := Q z hz (by omega) y (I.sy _ _ ez) (by omega)
        omega
    · exact ⟨(0, 0), fun q => absurd q hx⟩
  obtain ⟨g, hg⟩ := Classical.axiomOfChoice ex
  obtain ⟨X, hX⟩ : ∃ X : Nat → Prop, X = fun x => x < n ∧ u x < t x := ⟨_, rfl⟩
  have toX : ∀ {x}, x < n → u x < t x → X x := fun h1 h2 => by
    rw [hX]
    exact ⟨h1, h2⟩
  have ofX : ∀ {x}, X x → x < n ∧ u x < t x := fun h => by
    rw [hX] at h
    exact h
  obtain ⟨s, hs⟩ : ∃ s : Nat → Nat, s = fun x => (g x).1 := ⟨_, rfl⟩
  obtain ⟨f, hf⟩ : ∃ f : Nat → Nat, f = fun x => (g x).2 := ⟨_, rfl⟩
  have F : ∀ x, X x → E x (s x) ∧ u x < r x (s x) ∧ r (s x) x < t (s x) ∧ r x (s x) ≤ t x ∧
      (∀ y, E x y → u x < r x y → r y x < t y → r x (s x) ≤ r x y) ∧ E (s x) (f x) ∧ r (s x) (f x) = t (s x) ∧ r (f x) (s x) = u (f x) ∧ X (f x) := by
    intro x hx
    obtain ⟨h1, h2, h3, h4, h5, h6, h7, h8, h9, h10⟩ := hg x (ofX hx)
    rw [hs, hf]
    exact ⟨h1, h2, h3, h4, h5, h6, h7, h8, toX h9 h10⟩
  clear hg hs hf ex
  -- the rings
  obtain ⟨C, hC⟩ : ∃ C : Nat → Prop, C = fun x => X x ∧ ∃ m, 0 < m ∧ it f m x = x := ⟨_, rfl⟩
  have CX : ∀ {x}, C x → X x := fun h => by
    rw [hC] at h
    exact h.1
  have Cper : ∀ {x}, C x → ∃ m, 0 < m ∧ it f m x = x := fun h => by
    rw [hC] at h
    exact h.2
  have toC : ∀ {x m}, X x → 0 < m → it f m x = x → C x := fun h1 h2 h3 => by
    rw [hC]
    exact ⟨h1, _, h2, h3⟩
  have fX : ∀ x, X x → X (f x) := fun x hx => (F x hx).2.2.2.2.2.2.2.2
  have Cf : ∀ x, C x → C (f x) := fun x hx => by
    obtain ⟨m, hm, e⟩ := Cper hx
    refine toC (m := m) (fX x (CX hx)) hm ?_
    rw [← it_succ]
    show f (it f m x) = f x
    rw [e]
  have Cinj : ∀ x y, C x → C y → f x = f y → x = y := fun x y hx hy e => by
    obtain ⟨m, hm, e1⟩ := Cper hx
    obtain ⟨k, hk, e2⟩ := Cper hy
    have g1 := it_mul f e1 k
    have g2 := it_mul f e2 m
    rw [Nat.mul_comm k m] at g2
    obtain ⟨d, hd⟩ : ∃ d, m * k = d + 1 := ⟨m * k - 1, by have := Nat.mul_pos hm hk; omega⟩
    rw [hd, it_succ] at g1 g2
    rw [← g1, ← g2, e]
  have Csur : ∀ x, C x → ∃ z, C z ∧ f z = x := fun x hx => by
    obtain ⟨m, hm, e⟩ := Cper hx
    obtain ⟨d, hd⟩ : ∃ d, m = d + 1 := ⟨m - 1, by omega⟩
    rw [hd] at e
    exact ⟨it f d x, it_in f C Cf hx d, e⟩
  have sinj : ∀ x y, C x → C y → s x = s y → x = y := fun x y hx hy e => by
    refine Cinj x y hx hy ?_
    obtain ⟨_, _, _, _, _, h6, h7, _⟩ := F x (CX hx)
    obtain ⟨_, _, _, _, _, g6, g7, _⟩ := F y (CX hy)
    rw [← e] at g6 g7
    exact I.inj _ _ _ h6 g6 (by omega)
  -- turned out
  have exa : ∀ x, ∃ k, (C x → k = r x (s x)) ∧ (¬ C x → k = u x) := fun x => by
    by_cases h : C x
    · exact ⟨_, fun _ => rfl, fun q => absurd h q⟩
    · exact ⟨_, fun q => absurd q h, fun _ => rfl⟩
  have exb : ∀ y, ∃ k, (∀ x, C x → s x = y → k = r y x) ∧ ((∀ x, C x → s x ≠ y) → k = t y) := fun y => by
    by_cases h : ∃ x, C x ∧ s x = y
    · obtain ⟨x, hx, e⟩ := h
      refine ⟨r y x, fun x' hx' e' => ?_, fun q => absurd e (q x hx)⟩
      rw [sinj x x' hx hx' (by rw [e, e'])]
    · exact ⟨t y, fun x hx e => absurd ⟨x, hx, e⟩ h, fun _ => rfl⟩
  obtain ⟨a, ha⟩ := Classical.axiomOfChoice exa
  obtain ⟨b, hb⟩ := Classical.axiomOfChoice exb
  have bt : ∀ y, y < n → b y ≤ t y := fun y hy => by
    by_cases h : ∃ x, C x ∧ s x = y
    · obtain ⟨x, hx, e⟩ := h
      have h1 := (hb y).1 x hx e
      have h2 := (F x (CX hx)).2.2.1
      rw [e] at h2
      omega
    · have h1 := (hb y).2 fun x hx e => h ⟨x, hx, e⟩
      omega
  have at_ : ∀ x, x < n → a x ≤ t x := fun x hx => by
    by_cases h : C x
    · have h1 := (ha x).1 h
      have h2 := (F x (CX h)).2.2.2.1
      omega
    · have h1 := (ha x).2 h
      have := ut x hx
      omega
  have T : SM n E r len a b := by
    refine ⟨fun i hi => Nat.le_trans (at_ i hi) (S.lb i hi), fun i hi => Nat.le_trans (bt i hi) (S.lb i hi), fun x hx h => ?_, fun y hy h => ?_, fun x y e h1 h2 => ?_⟩
    · by_cases hc : C x
      · have e := (F x (CX hc)).1
        exact ⟨s x, e, ((ha x).1 hc).symm, ((hb (s x)).1 x hc rfl).symm⟩
      · have h1 := (ha x).2 hc
        obtain ⟨j, e, g1, g2⟩ := S.nx x hx (by omega)
        refine ⟨j, e, by omega, ?_⟩
        rw [g2]
        refine ((hb j).2 fun x' hx' e' => ?_).symm
        obtain ⟨_, _, _, _, _, h6, h7, _⟩ := F x' (CX hx')
        rw [e'] at h6 h7
        have : f x' = x := I.inj j _ _ h6 (I.sy _ _ e) (by omega)
        rw [← this] at hc
        exact hc (Cf x' hx')
    · by_cases hc : ∃ x, C x ∧ s x = y
      · obtain ⟨x, hc, rfl⟩ := hc
        have e := (F x (CX hc)).1
        exact ⟨x, I.sy _ _ e, ((hb (s x)).1 x hc rfl).symm, ((ha x).1 hc).symm⟩
      · have h1 := (hb y).2 fun x hx e => hc ⟨x, hx, e⟩
        obtain ⟨i, e, g1, g2⟩ := S.bf y hy (by omega)
        refine ⟨i, e, by omega, ?_⟩
        rw [g2]
        refine ((ha i).2 fun q => ?_).symm
        obtain ⟨z, hz, ez⟩ := Csur i q
        obtain ⟨_, _, _, _, _, h6, h7, h8, _⟩ := F z (CX hz)
        rw [ez] at h6 h7 h8
        have : s z = y := I.inj i _ _ (I.sy _ _ h6) (I.sy _ _ e) (by omega)
        exact hc ⟨z, hz, this⟩
    · have hy : y < n := I.bd _ _ (I.sy _ _ e)
      have hx : x < n := I.bd _ _ e
      have h3 := bt y hy
      by_cases hc : C x
      · have h4 := (ha x).1 hc
        obtain ⟨_, _, _, _, h5, _⟩ := F x (CX hc)
        rcases Nat.lt_trichotomy (r x y) (u x) with q | q | q
        · exact S.ok x y e q (by omega)
        · have := P x hx y e q
          omega
        · have := h5 y e q (by omega)
          omega
      · have h4 := (ha x).2 hc
        exact S.ok x y e (by omega) (by omega)
  have TW := two a b T at_ bt
  have R1 : ∀ x, C x → r x (s x) = t x ∧ b x = u x := fun x hx => by
    obtain ⟨h1, h2⟩ := ofX (CX hx)
    have h3 := (ha x).1 hx
    have h4 := (F x (CX hx)).2.1
    obtain ⟨h5, h6⟩ := TW x h1
    omega
  have R2 : ∀ x, C x → ∃ z, C z ∧ s z = x ∧ r x z = u x := fun x hx => by
    obtain ⟨h1, h2⟩ := R1 x hx
    have h3 := (ofX (CX hx)).2
    by_cases hc : ∃ z, C z ∧ s z = x
    · obtain ⟨z, hz, e⟩ := hc
      exact ⟨z, hz, e, by rw [← (hb x).1 z hz e, h2]⟩
    · have := (hb x).2 fun z hz e => hc ⟨z, hz, e⟩
      omega
  have V : ∀ x y, C x → E x y → u x < r x y → r x y < t x → r y x < t y → False := fun x y hx e h1 h2 h3 => by
    have h4 := (F x (CX hx)).2.2.2.2.1 y e h1 h3
    have h5 := (R1 x hx).1
    omega
  have back : ∀ z, X z → C (f z) → C z := by
    intro z hz hx
    obtain ⟨h1, h2, h3, h4, h5, h6, h7, h8, h9⟩ := F z hz
    obtain ⟨y, hy, ey, ry⟩ := R2 _ hx
    have : y = s z := I.inj (f z) _ _ (by
      have := (F y (CX hy)).1
      rw [ey] at this
      exact I.sy _ _ this) (I.sy _ _ h6) (by omega)
    rw [this] at hy
    have h10 := L1 (s z) z (I.sy _ _ h1) (by omega)
    have h11 : r (s z) z = u (s z) := by
      rcases Nat.lt_or_ge (u (s z)) (r (s z) z) with q | q
      · exfalso
        rcases Nat.lt_or_ge (r z (s z)) (t z) with w | w
        · exact V (s z) z hy (I.sy _ _ h1) q h3 w
        · have l1 := I.lt _ _ h1
          have := Q z (ofX hz).1 (by omega) (s z) h1 (by omega)
          omega
      · omega
    obtain ⟨w, hw, ew, rw'⟩ := R2 _ hy
    have : w = z := I.inj (s z) _ _ (by
      have := (F w (CX hw)).1
      rw [ew] at this
      exact I.sy _ _ this) (I.sy _ _ h1) (by omega)
    rw [this] at hw
    exact hw
  intro i j e h1 h2
  have hi : i < n := I.bd _ _ e
  have h3 := L1 i j e (by omega)
  have hX0 : X i := toX hi (by omega)
  obtain ⟨p, q, hpq, epq⟩ := twice n (fun k => it f k i) (fun k => (ofX (it_in f X fX hX0 k)).1)
  have epq : it f p i = it f q i := epq
  have hCp : C (it f p i) := by
    refine toC (m := q - p) (it_in f X fX hX0 p) (by omega) ?_
    rw [← it_add, Nat.sub_add_cancel (Nat.le_of_lt hpq)]
    exact epq.symm
  have down : ∀ p, C (it f p i) → C i := by
    intro p
    induction p with
    | zero => exact fun h => h
    | succ p ih => exact fun h => ih (back _ (it_in f X fX hX0 p) h)
  have hCi := down p hCp
  refine V i j hCi e ?_ h1 h2
  rcases Nat.lt_or_ge (u i) (r i j) with q | q
  · exact q
  · have := P i hi j e (by omega)
    omega
end
end KM

/-! ## KMath2 -/
/-! Lists of wishes and partings as lists of numbers. -/
namespace KM

abbrev lst (ls : List (List Nat)) (i : Nat) : List Nat := ls.getD i []
/-- the rank of somebody; of the person itself: behind all -/
def rnk (ls : List (List Nat)) (i j : Nat) : Nat := if j = i then (lst ls i).length else (lst ls i).idxOf j

structure WF (ls : List (List Nat)) : Prop where
  nd : ∀ i, i < ls.length → (lst ls i).Nodup
  lt : ∀ i, i < ls.length → ∀ j ∈ lst ls i, j < ls.length
  ne : ∀ i, i < ls.length → ∀ j ∈ lst ls i, j ≠ i
  sy : ∀ i, i < ls.length → ∀ j ∈ lst ls i, i ∈ lst ls j

abbrev Ed (ls : List (List Nat)) (i j : Nat) : Prop := i < ls.length ∧ j ∈ lst ls i

theorem WF.inst {ls : List (List Nat)} (W : WF ls) : Inst ls.length (Ed ls) (fun i j => (lst ls i).idxOf j) (fun i => (lst ls i).length) where
  bd := fun i j e => e.1
  sy := fun i j e => ⟨W.lt i e.1 j e.2, W.sy i e.1 j e.2⟩
  lt := fun i j e => List.idxOf_lt_length_of_mem e.2
  inj := fun i j k e1 e2 h => by
    have h : (lst ls i).idxOf j = (lst ls i).idxOf k := h
    have h1 := List.getElem_idxOf (List.idxOf_lt_length_of_mem e1.2)
    have h2 := List.getElem_idxOf (List.idxOf_lt_length_of_mem e2.2)
    rw [← h1, ← h2]
    congr 1
  at_ := fun i hi k hk => ⟨(lst ls i)[k], ⟨hi, List.getElem_mem hk⟩, by
    show (lst ls i).idxOf (lst ls i)[k] = k
    exact (W.nd i hi).idxOf_getElem k hk⟩

theorem rnk_self (ls : List (List Nat)) (i : Nat) : rnk ls i i = (lst ls i).length := if_pos rfl
theorem rnk_ne {ls : List (List Nat)} {i j : Nat} (h : j ≠ i) : rnk ls i j = (lst ls i).idxOf j := if_neg h

structure Par (ls : List (List Nat)) (p : List Nat) : Prop where
  len : p.length = ls.length
  nd : p.Nodup
  ok : ∀ i, i < ls.length → p.getD i 0 = i ∨ p.getD i 0 ∈ lst ls i

theorem Par.lt {ls : List (List Nat)} {p : List Nat} (W : WF ls) (h : Par ls p) {i : Nat} (hi : i < ls.length) : p.getD i 0 < ls.length := by
  rcases h.ok i hi with e | e
  · rw [e]
    exact hi
  · exact W.lt i hi _ e
theorem getD_of_lt {p : List Nat} {i : Nat} (h : i < p.length) : p.getD i 0 = p[i] := by
  rw [List.getD_eq_getElem?_getD, List.getElem?_eq_getElem h]
  rfl
theorem Par.mem {ls : List (List Nat)} {p : List Nat} (W : WF ls) (h : Par ls p) {i : Nat} (hi : i < ls.length) : i ∈ p := by
  have sub : ∀ x ∈ p, x ∈ List.range ls.length := fun x hx => by
    obtain ⟨k, hk, rfl⟩ := List.getElem_of_mem hx
    have := h.lt W (i := k) (by rw [← h.len]; exact hk)
    rw [getD_of_lt hk] at this
    exact List.mem_range.mpr this
  obtain ⟨x, hx, e⟩ := onto (n := ls.length) (A := fun x => x < ls.length) (fun x hx => hx) (f := fun x => p.getD x 0) (fun x hx => h.lt W hx)
    (fun x y hx hy e => by
      have hx' : x < p.length := by rw [h.len]; exact hx
      have hy' : y < p.length := by rw [h.len]; exact hy
      have e : p.getD x 0 = p.getD y 0 := e
      rw [getD_of_lt hx', getD_of_lt hy'] at e
      exact (List.getElem_inj h.nd).mp e) i hi
  have hx' : x < p.length := by rw [h.len]; exact hx
  have e : p.getD x 0 = i := e
  rw [getD_of_lt hx'] at e
  rw [← e]
  exact List.getElem_mem hx'
theorem Par.idx_lt {ls : List (List Nat)} {p : List Nat} (W : WF ls) (h : Par ls p) {i : Nat} (hi : i < ls.length) : p.idxOf i < ls.length := by
  rw [← h.len]
  exact List.idxOf_lt_length_of_mem (h.mem W hi)
theorem Par.nx_bf {ls : List (List Nat)} {p : List Nat} (W : WF ls) (h : Par ls p) {i : Nat} (hi : i < ls.length) : p.getD (p.idxOf i) 0 = i := by
  have h1 := List.idxOf_lt_length_of_mem (h.mem W hi)
  rw [getD_of_lt h1]
  exact List.getElem_idxOf h1
theorem Par.bf_nx {ls : List (List Nat)} {p : List Nat} (h : Par ls p) {i : Nat} (hi : i < ls.length) : p.idxOf (p.getD i 0) = i := by
  have h1 : i < p.length := by rw [h.len]; exact hi
  rw [getD_of_lt h1]
  exact h.nd.idxOf_getElem i h1
/-- j stands before i exactly if i is its next one -/
theorem Par.bf_iff {ls : List (List Nat)} {p : List Nat} (W : WF ls) (h : Par ls p) {i j : Nat} (hi : i < ls.length) (hj : j < ls.length) : p.idxOf i = j ↔ p.getD j 0 = i := by
  constructor
  · intro e
    rw [← e]
    exact h.nx_bf W hi
  · intro e
    rw [← e]
    exact h.bf_nx hj

/-- as the law asks it -/
structure Lasts (ls : List (List Nat)) (p : List Nat) : Prop where
  up : ∀ i, i < ls.length → rnk ls i (p.getD i 0) ≤ rnk ls i (p.idxOf i)
  no : ∀ i, i < ls.length → ∀ j ∈ lst ls i, (lst ls i).idxOf j < rnk ls i (p.idxOf i) → p.getD i 0 ≠ j → p.getD j 0 ≠ i → ¬ rnk ls j i < rnk ls j (p.idxOf j)

def ru (ls : List (List Nat)) (p : List Nat) (i : Nat) : Nat := rnk ls i (p.getD i 0)
def rd (ls : List (List Nat)) (p : List Nat) (i : Nat) : Nat := rnk ls i (p.idxOf i)

theorem rnk_le (ls : List (List Nat)) (i j : Nat) : rnk ls i j ≤ (lst ls i).length := by
  unfold rnk
  split
  · exact Nat.le_refl _
  · exact List.idxOf_le_length

theorem Lasts.bar {ls : List (List Nat)} {p : List Nat} (W : WF ls) (h : Par ls p) (L : Lasts ls p) {i j : Nat} (e : Ed ls i j) (h1 : (lst ls i).idxOf j < rd ls p i) (h2 : (lst ls j).idxOf i < rd ls p j) : False := by
  have hj : j < ls.length := W.lt i e.1 j e.2
  have ne : j ≠ i := W.ne i e.1 j e.2
  have r1 : rnk ls j i = (lst ls j).idxOf i := rnk_ne ne.symm
  refine L.no i e.1 j e.2 h1 (fun q => ?_) (fun q => ?_) (by rw [r1]; exact h2)
  · have : p.idxOf j = i := (h.bf_iff W hj e.1).mpr q
    unfold rd at h2
    rw [this, r1] at h2
    omega
  · have : p.idxOf i = j := (h.bf_iff W e.1 hj).mpr q
    unfold rd at h1
    rw [this, rnk_ne ne] at h1
    omega

theorem Lasts.sm {ls : List (List Nat)} {p : List Nat} (W : WF ls) (h : Par ls p) (L : Lasts ls p) :
    SM ls.length (Ed ls) (fun i j => (lst ls i).idxOf j) (fun i => (lst ls i).length) (ru ls p) (rd ls p) := by
  refine ⟨fun i _ => rnk_le ls i _, fun i _ => rnk_le ls i _, fun i hi hl => ?_, fun j hj hl => ?_, fun i j e h1 h2 => ?_⟩
  · have hl : rnk ls i (p.getD i 0) < (lst ls i).length := hl
    rcases h.ok i hi with e | e
    · rw [e, rnk_self] at hl
      omega
    · have ne := W.ne i hi _ e
      have hj := W.lt i hi _ e
      refine ⟨p.getD i 0, ⟨hi, e⟩, ?_, ?_⟩
      · show _ = rnk ls i (p.getD i 0)
        rw [rnk_ne ne]
      · show _ = rnk ls (p.getD i 0) (p.idxOf (p.getD i 0))
        rw [h.bf_nx hi, rnk_ne ne.symm]
  · have hl : rnk ls j (p.idxOf j) < (lst ls j).length := hl
    have hq := h.idx_lt W hj
    have e0 := h.nx_bf W hj
    rcases h.ok _ hq with e | e
    · rw [e0] at e
      rw [← e, rnk_self] at hl
      omega
    · rw [e0] at e
      have ne := W.ne _ hq _ e
      refine ⟨p.idxOf j, ⟨hj, W.sy _ hq _ e⟩, ?_, ?_⟩
      · show _ = rnk ls j (p.idxOf j)
        rw [rnk_ne ne.symm]
      · show _ = rnk ls (p.idxOf j) (p.getD (p.idxOf j) 0)
        rw [e0, rnk_ne ne]
  · refine L.bar W h e ?_ h2
    have := L.up i e.1
    have h1 : (lst ls i).idxOf j < rnk ls i (p.getD i 0) := h1
    show (lst ls i).idxOf j < rnk ls i (p.idxOf i)
    omega

/-- there is a lasting parting -/
theorem lasting_exists {ls : List (List Nat)} (W : WF ls) : ∃ p, Par ls p ∧ Lasts ls p := by
  have I := W.inst
  obtain ⟨u, t, S, ut, no⟩ := exists_lasting I
  obtain ⟨f, hf⟩ : ∃ f : Nat → Nat, f = fun i => if u i < (lst ls i).length then (lst ls i).getD (u i) 0 else i := ⟨_, rfl⟩
  have f1 : ∀ i, i < ls.length → u i < (lst ls i).length → Ed ls i (f i) ∧ (lst ls i).idxOf (f i) = u i ∧ (lst ls (f i)).idxOf i = t (f i) := by
    intro i hi hl
    obtain ⟨j, e, g1, g2⟩ := S.nx i hi hl
    have ej : f i = j := by
      rw [hf]
      show (if u i < (lst ls i).length then (lst ls i).getD (u i) 0 else i) = j
      rw [if_pos hl, getD_of_lt hl]
      have g1 : (lst ls i).idxOf j = u i := g1
      have := List.getElem_idxOf (List.idxOf_lt_length_of_mem e.2)
      rw [← this]
      congr 1
      exact g1.symm
    rw [ej]
    exact ⟨e, g1, g2⟩
  have f2 : ∀ i, ¬ u i < (lst ls i).length → f i = i := by
    intro i hl
    rw [hf]
    exact if_neg hl
  have sing : ∀ i, i < ls.length → ¬ u i < (lst ls i).length → t i = (lst ls i).length := by
    intro i hi hl
    have h1 := S.la i hi
    have h2 := S.lb i hi
    have h3 := ut i hi
    have h1 : u i ≤ (lst ls i).length := h1
    have h2 : t i ≤ (lst ls i).length := h2
    omega
  have flt : ∀ i, i < ls.length → f i < ls.length := by
    intro i hi
    by_cases hl : u i < (lst ls i).length
    · exact W.lt i hi _ (f1 i hi hl).1.2
    · rw [f2 i hl]
      exact hi
  have finj : ∀ i j, i < ls.length → j < ls.length → f i = f j → i = j := by
    have one : ∀ i j, i < ls.length → j < ls.length → u i < (lst ls i).length → ¬ u j < (lst ls j).length → f i ≠ f j := by
      intro i j hi hj h1 h2 e
      obtain ⟨e1, g1, g2⟩ := f1 i hi h1
      rw [e, f2 j h2] at e1 g2
      have h3 := sing j hj h2
      have := List.idxOf_lt_length_of_mem (I.sy _ _ e1).2
      omega
    intro i j hi hj e
    by_cases h1 : u i < (lst ls i).length
    · by_cases h2 : u j < (lst ls j).length
      · obtain ⟨e1, g1, g2⟩ := f1 i hi h1
        obtain ⟨e2, k1, k2⟩ := f1 j hj h2
        rw [e] at e1 g2
        exact I.inj (f j) i j (I.sy _ _ e1) (I.sy _ _ e2) (by show (lst ls (f j)).idxOf i = (lst ls (f j)).idxOf j; omega)
      · exact absurd e (one i j hi hj h1 h2)
    · by_cases h2 : u j < (lst ls j).length
      · exact absurd e.symm (one j i hj hi h2 h1)
      · rw [f2 i h1, f2 j h2] at e
        exact e
  have gd : ∀ i, i < ls.length → ((List.range ls.length).map f).getD i 0 = f i := by
    intro i hi
    rw [getD_of_lt (by simpa using hi)]
    simp
  have P : Par ls ((List.range ls.length).map f) := by
    refine ⟨by simp, ?_, fun i hi => ?_⟩
    · rw [List.nodup_iff_pairwise_ne, List.pairwise_map]
      refine List.Pairwise.imp_of_mem (fun {a b} ha hb h => ?_) List.pairwise_lt_range
      intro e
      have := finj a b (List.mem_range.mp ha) (List.mem_range.mp hb) e
      omega
    · rw [gd i hi]
      by_cases hl : u i < (lst ls i).length
      · exact .inr (f1 i hi hl).1.2
      · exact .inl (f2 i hl)
  have bfE : ∀ i j, i < ls.length → j < ls.length → f j = i → ((List.range ls.length).map f).idxOf i = j := by
    intro i j hi hj e
    exact (P.bf_iff W hi hj).mpr (by rw [gd j hj]; exact e)
  have eu : ∀ i, i < ls.length → rnk ls i (((List.range ls.length).map f).getD i 0) = u i := by
    intro i hi
    rw [gd i hi]
    by_cases hl : u i < (lst ls i).length
    · obtain ⟨e, g1, g2⟩ := f1 i hi hl
      rw [rnk_ne (W.ne i hi _ e.2)]
      exact g1
    · rw [f2 i hl, rnk_self]
      have h1 : u i ≤ (lst ls i).length := S.la i hi
      omega
  have et : ∀ i, i < ls.length → rnk ls i (((List.range ls.length).map f).idxOf i) = t i := by
    intro i hi
    by_cases hl : t i < (lst ls i).length
    · obtain ⟨w, e, g1, g2⟩ := S.bf i hi hl
      have g1 : (lst ls i).idxOf w = t i := g1
      have g2 : (lst ls w).idxOf i = u w := g2
      have ew := I.sy _ _ e
      have hwl : u w < (lst ls w).length := by
        rw [← g2]
        exact List.idxOf_lt_length_of_mem ew.2
      obtain ⟨e1, k1, k2⟩ := f1 w ew.1 hwl
      have : f w = i := I.inj w (f w) i e1 ew (by show (lst ls w).idxOf (f w) = (lst ls w).idxOf i; omega)
      rw [bfE i w hi ew.1 this, rnk_ne (W.ne i hi _ e.2)]
      exact g1
    · have h2 : t i ≤ (lst ls i).length := S.lb i hi
      have h4 : t i = (lst ls i).length := by omega
      have h5 := S.single I (S.flip I) hi h4
      have h5 : u i = (lst ls i).length := h5
      rw [bfE i i hi hi (f2 i (by omega)), rnk_self]
      exact h4.symm
  refine ⟨_, P, fun i hi => ?_, fun i hi j hj h1 _ _ h2 => ?_⟩
  · rw [eu i hi, et i hi]
    exact ut i hi
  · have hjn := W.lt i hi j hj
    have ne := W.ne i hi j hj
    rw [et i hi] at h1
    rw [et j hjn, rnk_ne ne.symm] at h2
    exact no i j ⟨hi, hj⟩ h1 h2
end KM

/-! ## KMath3 -/
/-! Two partings beside one another: neighbours, risen pairs, halves. -/
namespace KM

/-- next to one another -/
def adj (p : List Nat) (i j : Nat) : Bool := p.getD i 0 == j || p.getD j 0 == i
def edges (p : List Nat) : List (Nat × Nat) := (List.range p.length).flatMap fun i => ((List.range p.length).filter fun j => decide (i < j) && adj p i j).map fun j => (i, j)
def rise (ls : List (List Nat)) (one : List Nat) (i j : Nat) : Bool := decide (rnk ls i j < rnk ls i (one.getD i 0)) && decide (rnk ls j (one.idxOf j) < rnk ls j i)
def both (e : Nat × Nat) : List (Nat × Nat) := [e, (e.2, e.1)]
def found (ls : List (List Nat)) (one other : List Nat) : List (Nat × Nat) := (edges other).flatMap fun e => (both e).filter fun x => !(edges one).contains e && rise ls one x.1 x.2

theorem adj_iff {p : List Nat} {i j : Nat} : adj p i j = true ↔ p.getD i 0 = j ∨ p.getD j 0 = i := by
  unfold adj
  simp
theorem mem_edges {p : List Nat} {i j : Nat} : (i, j) ∈ edges p ↔ i < j ∧ j < p.length ∧ (p.getD i 0 = j ∨ p.getD j 0 = i) := by
  unfold edges
  simp only [List.mem_flatMap, List.mem_range, List.mem_map, List.mem_filter, Bool.and_eq_true, decide_eq_true_eq, adj_iff, Prod.mk.injEq]
  constructor
  · rintro ⟨a, ha, b, ⟨hb, h1, h2⟩, rfl, rfl⟩
    exact ⟨h1, hb, h2⟩
  · rintro ⟨h1, h2, h3⟩
    exact ⟨i, by omega, j, ⟨h2, h1, h3⟩, rfl, rfl⟩
def lexP (a b : Nat × Nat) : Prop := a.1 < b.1 ∨ (a.1 = b.1 ∧ a.2 < b.2)
theorem edges_sorted (p : List Nat) : (edges p).Pairwise lexP := by
  unfold edges
  rw [List.pairwise_flatMap]
  constructor
  · intro i hi
    rw [List.pairwise_map]
    exact List.Pairwise.imp (fun {a b} h => Or.inr ⟨rfl, h⟩) (List.Pairwise.filter _ List.pairwise_lt_range)
  · refine List.Pairwise.imp (fun {a b} h => ?_) List.pairwise_lt_range
    intro x hx y hy
    obtain ⟨c, _, rfl⟩ := List.mem_map.mp hx
    obtain ⟨d, _, rfl⟩ := List.mem_map.mp hy
    exact Or.inl h
theorem lexP_irrefl (a : Nat × Nat) : ¬ lexP a a := by
  unfold lexP
  omega
theorem lexP_asymm {a b : Nat × Nat} (h : lexP a b) (h' : lexP b a) : False := by
  unfold lexP at h h'
  omega
theorem lexP_trans {a b c : Nat × Nat} (h : lexP a b) (h' : lexP b c) : lexP a c := by
  unfold lexP at *
  omega
theorem edges_nodup (p : List Nat) : (edges p).Nodup := by
  rw [List.nodup_iff_pairwise_ne]
  refine List.Pairwise.imp (fun {a b} h e => ?_) (edges_sorted p)
  subst e
  exact lexP_irrefl a h
/-- two lists, ascending, with the same members, are one -/
theorem sorted_unique : ∀ {l m : List (Nat × Nat)}, l.Pairwise lexP → m.Pairwise lexP → (∀ e, e ∈ l ↔ e ∈ m) → l = m
  | [], [], _, _, _ => rfl
  | [], b :: m, _, _, h => absurd ((h b).mpr List.mem_cons_self) List.not_mem_nil
  | a :: l, [], _, _, h => absurd ((h a).mp List.mem_cons_self) List.not_mem_nil
  | a :: l, b :: m, hl, hm, h => by
    obtain ⟨l1, l2⟩ := List.pairwise_cons.mp hl
    obtain ⟨m1, m2⟩ := List.pairwise_cons.mp hm
    have e : a = b := by
      rcases List.mem_cons.mp ((h a).mp List.mem_cons_self) with e | e
      · exact e
      · rcases List.mem_cons.mp ((h b).mpr List.mem_cons_self) with e' | e'
        · exact e'.symm
        · exact (lexP_asymm (l1 b e') (m1 a e)).elim
    subst e
    rw [sorted_unique l2 m2 fun e => ?_]
    constructor
    · intro q
      rcases List.mem_cons.mp ((h e).mp (List.mem_cons_of_mem _ q)) with z | z
      · subst z
        exact (lexP_irrefl _ (l1 _ q)).elim
      · exact z
    · intro q
      rcases List.mem_cons.mp ((h e).mpr (List.mem_cons_of_mem _ q)) with z | z
      · subst z
        exact (lexP_irrefl _ (m1 _ q)).elim
      · exact z

theorem mem_found {ls : List (List Nat)} {one other : List Nat} {i j : Nat} (hl : one.length = other.length) : (i, j) ∈ found ls one other ↔ i ≠ j ∧ i < other.length ∧ j < other.length ∧ adj other i j = true ∧ ¬ adj one i j = true ∧ rise ls one i j = true := by
  unfold found both
  simp only [List.mem_flatMap, List.mem_filter, Bool.and_eq_true, Bool.not_eq_true', List.contains_eq_mem, decide_eq_false_iff_not, List.mem_cons, List.not_mem_nil, or_false]
  constructor
  · rintro ⟨⟨a, b⟩, he, hx, hn, hr⟩
    obtain ⟨h1, h2, h3⟩ := mem_edges.mp he
    have hn : ¬ (a, b) ∈ edges one := hn
    have na : ¬ adj one a b = true := fun q => hn (mem_edges.mpr ⟨h1, by omega, adj_iff.mp q⟩)
    rcases hx with e | e
    · cases e
      exact ⟨by omega, by omega, h2, adj_iff.mpr h3, na, hr⟩
    · cases e
      exact ⟨by omega, h2, by omega, adj_iff.mpr h3.symm, fun q => na (adj_iff.mpr (adj_iff.mp q).symm), hr⟩
  · rintro ⟨h1, h2, h3, h4, h5, h6⟩
    rcases Nat.lt_or_ge i j with q | q
    · exact ⟨(i, j), mem_edges.mpr ⟨q, h3, adj_iff.mp h4⟩, Or.inl rfl, fun z => h5 (adj_iff.mpr (mem_edges.mp z).2.2), h6⟩
    · exact ⟨(j, i), mem_edges.mpr ⟨by omega, h2, (adj_iff.mp h4).symm⟩, Or.inr rfl, fun z => h5 (adj_iff.mpr (mem_edges.mp z).2.2.symm), h6⟩
theorem found_nodup (ls : List (List Nat)) (one other : List Nat) : (found ls one other).Nodup := by
  unfold found
  rw [List.nodup_iff_pairwise_ne, List.pairwise_flatMap]
  constructor
  · rintro ⟨a, b⟩ he
    have hab := (mem_edges.mp he).1
    refine List.Pairwise.filter _ ?_
    unfold both
    simp only [List.pairwise_cons, List.mem_cons, List.not_mem_nil, or_false, forall_eq, List.Pairwise.nil, and_true, false_implies, implies_true, ne_eq, Prod.mk.injEq]
    omega
  · refine List.Pairwise.imp_of_mem (fun {a b} ha hb h => ?_) (edges_sorted other)
    intro x hx y hy e
    subst e
    have h1 := (List.mem_filter.mp hx).1
    have h2 := (List.mem_filter.mp hy).1
    have a1 := (mem_edges.mp (show (a.1, a.2) ∈ edges other from ha)).1
    have b1 := (mem_edges.mp (show (b.1, b.2) ∈ edges other from hb)).1
    unfold both at h1 h2
    simp only [List.mem_cons, List.not_mem_nil, or_false] at h1 h2
    rcases h1 with h1 | h1 <;> rcases h2 with h2 | h2
    · rw [h1] at h2
      rw [h2] at h
      exact lexP_irrefl _ h
    · rw [h1] at h2
      rw [h2] at a1
      have a1 : b.2 < b.1 := a1
      omega
    · rw [h1] at h2
      have e1 : a.2 = b.1 := congrArg (·.1) h2
      have e2 : a.1 = b.2 := congrArg (·.2) h2
      omega
    · rw [h1] at h2
      have e1 : a.2 = b.2 := congrArg (·.1) h2
      have e2 : a.1 = b.1 := congrArg (·.2) h2
      unfold lexP at h
      omega

section
variable {ls : List (List Nat)} {one other : List Nat}
theorem rise_iff (i j : Nat) : rise ls one i j = true ↔ rnk ls i j < ru ls one i ∧ rd ls one j < rnk ls j i := by
  unfold rise ru rd
  simp

/-- i and j matched in the other parting (either way): risen tells the ranks -/
theorem risen_at (W : WF ls) (h1 : Par ls one) (L1 : Lasts ls one) {c d : Nat → Nat} (T : SM ls.length (Ed ls) (fun i j => (lst ls i).idxOf j) (fun i => (lst ls i).length) c d)
    {i j : Nat} (e : Ed ls i j) (g1 : (lst ls i).idxOf j = c i) (g2 : (lst ls j).idxOf i = d j) :
    ((¬ adj one i j = true ∧ rise ls one i j = true) ↔ c i < ru ls one i) ∧ (c i < ru ls one i ↔ rd ls one j < d j) := by
  have I := W.inst
  have S := L1.sm W h1
  have ne := W.ne i e.1 j e.2
  have hj := W.lt i e.1 j e.2
  have key : c i < ru ls one i ↔ rd ls one j < d j := S.down_iff I T e g1 g2
  refine ⟨?_, key⟩
  rw [rise_iff, rnk_ne ne, rnk_ne ne.symm, g1, g2]
  constructor
  · exact fun h => h.2.1
  · intro h
    refine ⟨fun q => ?_, h, key.mp h⟩
    have u1 := L1.up i e.1
    have u1 : ru ls one i ≤ rd ls one i := u1
    rcases adj_iff.mp q with z | z
    · have : ru ls one i = c i := by
        unfold ru
        rw [z, rnk_ne ne, g1]
      omega
    · have z2 := (h1.bf_iff W e.1 hj).mpr z
      have : rd ls one i = c i := by
        unfold rd
        rw [z2, rnk_ne ne, g1]
      omega

/-- each pair next to one another in the other lasting parting alone is risen in just one sequence -/
theorem risen_once (W : WF ls) (h1 : Par ls one) (L1 : Lasts ls one) (h2 : Par ls other) (L2 : Lasts ls other) {i j : Nat} (hi : i < ls.length) (hj : j < ls.length) (hij : i ≠ j) (ha : adj other i j = true) (hn : ¬ adj one i j = true) :
    rise ls one i j = true ↔ ¬ rise ls one j i = true := by
  have main : ∀ i j, i < ls.length → j < ls.length → i ≠ j → other.getD i 0 = j → ¬ adj one i j = true → (rise ls one i j = true ↔ ¬ rise ls one j i = true) := by
    intro i j hi hj hij hp hn
    have I := W.inst
    have S := L1.sm W h1
    have T := L2.sm W h2
    have e : Ed ls i j := by
      rcases h2.ok i hi with q | q
      · exact absurd (q.symm.trans hp) hij
      · rw [hp] at q
        exact ⟨hi, q⟩
    have e' := I.sy _ _ e
    have hq : other.idxOf j = i := (h2.bf_iff W hj hi).mpr hp
    have g1 : (lst ls i).idxOf j = ru ls other i := by
      unfold ru
      rw [hp, rnk_ne hij.symm]
    have g2 : (lst ls j).idxOf i = rd ls other j := by
      unfold rd
      rw [hq, rnk_ne hij]
    obtain ⟨a1, a2⟩ := risen_at W h1 L1 T e g1 g2
    obtain ⟨b1, b2⟩ := risen_at W h1 L1 (T.flip I) e' g2 g1
    have nsym : ¬ adj one j i = true := fun q => hn (adj_iff.mpr (adj_iff.mp q).symm)
    have r1 : rise ls one i j = true ↔ ru ls other i < ru ls one i := by
      rw [← a1]
      exact ⟨fun z => ⟨hn, z⟩, fun z => z.2⟩
    have r2 : rise ls one j i = true ↔ rd ls one i < ru ls other i := by
      rw [← b2, ← b1]
      exact ⟨fun z => ⟨nsym, z⟩, fun z => z.2⟩
    have u1 : ru ls one i ≤ rd ls one i := L1.up i hi
    rw [r1, r2]
    constructor
    · intro h
      omega
    · intro h
      rcases Nat.lt_or_ge (ru ls other i) (ru ls one i) with q | q
      · exact q
      · exfalso
        have n1 : ru ls other i ≠ ru ls one i := by
          intro z
          apply hn
          apply adj_iff.mpr
          left
          rcases h1.ok i hi with k | k
          · have : ru ls one i = (lst ls i).length := by
              unfold ru
              rw [k, rnk_self]
            have := List.idxOf_lt_length_of_mem e.2
            omega
          · have k2 : (lst ls i).idxOf (one.getD i 0) = ru ls one i := by
              unfold ru
              rw [rnk_ne (W.ne i hi _ k)]
            exact I.inj i _ _ ⟨hi, k⟩ e (by show (lst ls i).idxOf (one.getD i 0) = (lst ls i).idxOf j; omega)
        have n2 : ru ls other i ≠ rd ls one i := by
          intro z
          apply hn
          apply adj_iff.mpr
          right
          have hq1 := h1.idx_lt W hi
          have eq1 := h1.nx_bf W hi
          rcases h1.ok _ hq1 with k | k
          · rw [eq1] at k
            have : rd ls one i = (lst ls i).length := by
              unfold rd
              rw [← k, rnk_self]
            have := List.idxOf_lt_length_of_mem e.2
            omega
          · rw [eq1] at k
            have k3 := W.sy _ hq1 _ k
            have k2 : (lst ls i).idxOf (one.idxOf i) = rd ls one i := by
              unfold rd
              rw [rnk_ne (W.ne i hi _ k3)]
            have : one.idxOf i = j := I.inj i _ _ ⟨hi, k3⟩ e (by show (lst ls i).idxOf (one.idxOf i) = (lst ls i).idxOf j; omega)
            exact (h1.bf_iff W hi hj).mp this
        have lt1 : ru ls one i < ru ls other i := by omega
        have lt2 : ru ls other i < rd ls one i := by omega
        have := (S.up_iff I T e g1 g2).mp lt1
        exact L1.bar W h1 e (by omega) (by omega)
  rcases adj_iff.mp ha with q | q
  · exact main i j hi hj hij q hn
  · have := main j i hj hi hij.symm q fun z => hn (adj_iff.mpr (adj_iff.mp z).symm)
    rw [this]
    cases rise ls one j i <;> simp
end

/-- the halves of two persons -/
def hv (p : List Nat) (i j : Nat) : Nat := (if p.getD i 0 = j then 1 else 0) + (if p.getD j 0 = i then 1 else 0)
def hsum (R : List (Nat × Nat)) (p : List Nat) (x : Nat) : Nat := (R.map fun e => if e.1 = x then hv p e.1 e.2 else 0).sum
def lsum (R : List (Nat × Nat)) (p : List Nat) (y : Nat) : Nat := (R.map fun e => if e.2 = y then hv p e.1 e.2 else 0).sum

theorem sum_one {a : Nat × Nat} : ∀ {R : List (Nat × Nat)}, R.Nodup → (R.map fun e => if e = a then 1 else 0).sum = if a ∈ R then 1 else 0
  | [], _ => by simp
  | b :: R, h => by
    obtain ⟨h1, h2⟩ := List.nodup_cons.mp h
    have ih := sum_one (a := a) h2
    rw [List.map_cons, List.sum_cons, ih]
    by_cases e : b = a
    · subst e
      simp [h1]
    · have e' : ¬ a = b := fun z => e z.symm
      simp [e, e']
theorem sum_add {α : Type} (f g : α → Nat) : ∀ R : List α, (R.map fun e => f e + g e).sum = (R.map f).sum + (R.map g).sum
  | [] => rfl
  | a :: R => by
    simp only [List.map_cons, List.sum_cons, sum_add f g R]
    omega
theorem hsum_eq {R : List (Nat × Nat)} {p : List Nat} {n : Nat} (hn : R.Nodup) (hR : ∀ e ∈ R, e.1 < n ∧ e.2 < n) (q : ∀ i j, i < n → j < n → (p.getD j 0 = i ↔ p.idxOf i = j)) (x : Nat) :
    hsum R p x = (if (x, p.getD x 0) ∈ R then 1 else 0) + (if (x, p.idxOf x) ∈ R then 1 else 0) := by
  rw [← sum_one hn, ← sum_one hn, ← sum_add]
  unfold hsum
  congr 1
  apply List.map_congr_left
  rintro ⟨i, j⟩ he
  obtain ⟨h1, h2⟩ := hR _ he
  have h1 : i < n := h1
  have h2 : j < n := h2
  simp only [Prod.mk.injEq]
  by_cases e : i = x
  · subst e
    simp only [true_and, if_true]
    unfold hv
    congr 1
    · by_cases z : p.getD i 0 = j
      · rw [if_pos z, if_pos z.symm]
      · rw [if_neg z, if_neg fun w => z w.symm]
    · by_cases z : p.getD j 0 = i
      · rw [if_pos z, if_pos ((q i j h1 h2).mp z).symm]
      · rw [if_neg z, if_neg fun w => z ((q i j h1 h2).mpr w.symm)]
  · simp [e]
theorem lsum_eq {R : List (Nat × Nat)} {p : List Nat} {n : Nat} (hn : R.Nodup) (hR : ∀ e ∈ R, e.1 < n ∧ e.2 < n) (q : ∀ i j, i < n → j < n → (p.getD j 0 = i ↔ p.idxOf i = j)) (y : Nat) :
    lsum R p y = (if (p.getD y 0, y) ∈ R then 1 else 0) + (if (p.idxOf y, y) ∈ R then 1 else 0) := by
  rw [← sum_one hn, ← sum_one hn, ← sum_add]
  unfold lsum
  congr 1
  apply List.map_congr_left
  rintro ⟨i, j⟩ he
  obtain ⟨h1, h2⟩ := hR _ he
  have h1 : i < n := h1
  have h2 : j < n := h2
  simp only [Prod.mk.injEq]
  by_cases e : j = y
  · subst e
    simp only [and_true, if_true]
    unfold hv
    rw [Nat.add_comm]
    congr 1
    · by_cases z : p.getD j 0 = i
      · rw [if_pos z, if_pos z.symm]
      · rw [if_neg z, if_neg fun w => z w.symm]
    · by_cases z : p.getD i 0 = j
      · rw [if_pos z, if_pos ((q j i h2 h1).mp z).symm]
      · rw [if_neg z, if_neg fun w => z ((q j i h2 h1).mpr w.symm)]
  · simp [e]

theorem ite_congr' {a b : Prop} [Decidable a] [Decidable b] (h : a ↔ b) : (if a then 1 else 0) = (if b then (1 : Nat) else 0) := by
  by_cases z : a
  · rw [if_pos z, if_pos (h.mp z)]
  · rw [if_neg z, if_neg fun w => z (h.mpr w)]

section
variable {ls : List (List Nat)} {one other : List Nat}
/-- how many are higher at a person, and lower at its next one -/
theorem counts (W : WF ls) (h1 : Par ls one) (L1 : Lasts ls one) (h2 : Par ls other) (L2 : Lasts ls other) {R : List (Nat × Nat)} (hn : R.Nodup) (hR : ∀ e, e ∈ R ↔ e ∈ found ls one other) {x : Nat} (hx : x < ls.length) :
    hsum R other x = lsum R other (one.getD x 0) := by
  have I := W.inst
  have S := L1.sm W h1
  have T := L2.sm W h2
  have len : one.length = other.length := by rw [h1.len, h2.len]
  have mem : ∀ i j, (i, j) ∈ R ↔ i ≠ j ∧ i < ls.length ∧ j < ls.length ∧ adj other i j = true ∧ ¬ adj one i j = true ∧ rise ls one i j = true := by
    intro i j
    rw [hR, mem_found len, h2.len]
  have bd : ∀ e ∈ R, e.1 < ls.length ∧ e.2 < ls.length := by
    rintro ⟨i, j⟩ he
    have := (mem i j).mp he
    exact ⟨this.2.1, this.2.2.1⟩
  have q2 : ∀ i j, i < ls.length → j < ls.length → (other.getD j 0 = i ↔ other.idxOf i = j) := fun i j hi hj => (h2.bf_iff W hi hj).symm
  rw [hsum_eq hn bd q2, lsum_eq hn bd q2]
  -- what is next and before, with its ranks
  have nxE : ∀ i, i < ls.length → other.getD i 0 ≠ i → Ed ls i (other.getD i 0) ∧ (lst ls i).idxOf (other.getD i 0) = ru ls other i ∧ (lst ls (other.getD i 0)).idxOf i = rd ls other (other.getD i 0) := by
    intro i hi hne
    rcases h2.ok i hi with k | k
    · exact absurd k hne
    · refine ⟨⟨hi, k⟩, ?_, ?_⟩
      · unfold ru
        rw [rnk_ne hne]
      · unfold rd
        rw [h2.bf_nx hi, rnk_ne fun z => hne z.symm]
  have bfE : ∀ i, i < ls.length → other.idxOf i ≠ i → Ed ls i (other.idxOf i) ∧ (lst ls i).idxOf (other.idxOf i) = rd ls other i ∧ (lst ls (other.idxOf i)).idxOf i = ru ls other (other.idxOf i) := by
    intro i hi hne
    have hq := h2.idx_lt W hi
    have e0 := h2.nx_bf W hi
    obtain ⟨e1, g1, g2⟩ := nxE _ hq (by rw [e0]; exact fun z => hne z.symm)
    rw [e0] at e1 g1 g2
    exact ⟨I.sy _ _ e1, g2, g1⟩
  have adjN : ∀ i, i < ls.length → adj other i (other.getD i 0) = true := fun i _ => adj_iff.mpr (Or.inl rfl)
  have adjB : ∀ i, i < ls.length → adj other i (other.idxOf i) = true := fun i hi => adj_iff.mpr (Or.inr (h2.nx_bf W hi))
  have adjsym : ∀ (p : List Nat) i j, adj p i j = true ↔ adj p j i = true := fun p i j => by
    rw [adj_iff, adj_iff]
    exact Or.comm
  have len_of : ∀ i, other.getD i 0 = i → ru ls other i = (lst ls i).length := fun i k => by
    unfold ru
    rw [k, rnk_self]
  have len_ofB : ∀ i, other.idxOf i = i → rd ls other i = (lst ls i).length := fun i k => by
    unfold rd
    rw [k, rnk_self]
  have u1le : ∀ i, ru ls one i ≤ (lst ls i).length := fun i => rnk_le ls i _
  have d1le : ∀ i, rd ls one i ≤ (lst ls i).length := fun i => rnk_le ls i _
  -- the four
  have A : ∀ i, i < ls.length → ((i, other.getD i 0) ∈ R ↔ ru ls other i < ru ls one i) := by
    intro i hi
    by_cases hne : other.getD i 0 = i
    · have := len_of i hne
      have := u1le i
      rw [mem]
      constructor
      · exact fun z => absurd hne.symm z.1
      · intro z
        omega
    · obtain ⟨e, g1, g2⟩ := nxE i hi hne
      rw [mem, ← (risen_at W h1 L1 T e g1 g2).1]
      exact ⟨fun z => ⟨z.2.2.2.2.1, z.2.2.2.2.2⟩, fun z => ⟨fun w => hne w.symm, hi, W.lt i hi _ e.2, adjN i hi, z.1, z.2⟩⟩
  have B : ∀ i, i < ls.length → ((i, other.idxOf i) ∈ R ↔ rd ls other i < ru ls one i) := by
    intro i hi
    by_cases hne : other.idxOf i = i
    · have := len_ofB i hne
      have := u1le i
      rw [mem]
      constructor
      · exact fun z => absurd hne.symm z.1
      · intro z
        omega
    · obtain ⟨e, g1, g2⟩ := bfE i hi hne
      rw [mem, ← (risen_at W h1 L1 (T.flip I) e g1 g2).1]
      exact ⟨fun z => ⟨z.2.2.2.2.1, z.2.2.2.2.2⟩, fun z => ⟨fun w => hne w.symm, hi, W.lt i hi _ e.2, adjB i hi, z.1, z.2⟩⟩
  have sing : ∀ i, i < ls.length → (ru ls other i = (lst ls i).length → rd ls one i = (lst ls i).length) ∧ (rd ls other i = (lst ls i).length → rd ls one i = (lst ls i).length) := fun i hi =>
    ⟨fun z => (S.flip I).single I T hi z, fun z => (S.flip I).single I (T.flip I) hi z⟩
  have C : ∀ j, j < ls.length → ((other.getD j 0, j) ∈ R ↔ rd ls one j < ru ls other j) := by
    intro j hj
    by_cases hne : other.getD j 0 = j
    · have h3 := len_of j hne
      have := (sing j hj).1 h3
      rw [mem]
      constructor
      · exact fun z => absurd hne z.1
      · intro z
        omega
    · obtain ⟨e, g1, g2⟩ := nxE j hj hne
      have r := risen_at W h1 L1 (T.flip I) (I.sy _ _ e) g2 g1
      rw [mem, ← r.2, ← r.1]
      exact ⟨fun z => ⟨z.2.2.2.2.1, z.2.2.2.2.2⟩, fun z => ⟨hne, W.lt j hj _ e.2, hj, (adjsym _ _ _).mp (adjN j hj), z.1, z.2⟩⟩
  have Dd : ∀ j, j < ls.length → ((other.idxOf j, j) ∈ R ↔ rd ls one j < rd ls other j) := by
    intro j hj
    by_cases hne : other.idxOf j = j
    · have h3 := len_ofB j hne
      have := (sing j hj).2 h3
      rw [mem]
      constructor
      · exact fun z => absurd hne z.1
      · intro z
        omega
    · obtain ⟨e, g1, g2⟩ := bfE j hj hne
      have r := risen_at W h1 L1 T (I.sy _ _ e) g2 g1
      rw [mem, ← r.2, ← r.1]
      exact ⟨fun z => ⟨z.2.2.2.2.1, z.2.2.2.2.2⟩, fun z => ⟨hne, W.lt j hj _ e.2, hj, (adjsym _ _ _).mp (adjB j hj), z.1, z.2⟩⟩
  have hy := h1.lt W hx
  rw [ite_congr' (A x hx), ite_congr' (B x hx), ite_congr' (C _ hy), ite_congr' (Dd _ hy)]
  rcases h1.ok x hx with k | k
  · -- single
    rw [k]
    have s1 : ru ls one x = (lst ls x).length := by
      unfold ru
      rw [k, rnk_self]
    have s2 : ru ls other x = (lst ls x).length := T.single I S hx s1
    have s3 : rd ls other x = (lst ls x).length := (T.flip I).single I S hx s1
    have s4 : rd ls one x = (lst ls x).length := (S.flip I).single I S hx s1
    simp [s1, s2, s3, s4]
  · have e : Ed ls x (one.getD x 0) := ⟨hx, k⟩
    have ne := W.ne x hx _ k
    have g1 : (lst ls x).idxOf (one.getD x 0) = ru ls one x := by
      unfold ru
      rw [rnk_ne ne]
    have g2 : (lst ls (one.getD x 0)).idxOf x = rd ls one (one.getD x 0) := by
      unfold rd
      rw [h1.bf_nx hx, rnk_ne ne.symm]
    have k1 : ru ls other x < ru ls one x ↔ rd ls one (one.getD x 0) < rd ls other (one.getD x 0) := T.up_iff I S e g1 g2
    have k2 : rd ls other x < ru ls one x ↔ rd ls one (one.getD x 0) < ru ls other (one.getD x 0) := (T.flip I).up_iff I S e g1 g2
    rw [ite_congr' k1, ite_congr' k2, Nat.add_comm]
end
end KM

/-! ## KMath4 -/
namespace KM
/-! the law's drawn lists: symmetric, each once, and a drawn parting's neighbours among them -/
def done (a b i j : Nat) : Prop := max i j < a ∨ (max i j = a ∧ min i j < b)
structure Sy (p : List Nat) (n a b : Nat) (L : List (List Nat)) : Prop where
  len : L.length = n
  nd : ∀ i, (lst L i).Nodup
  mem : ∀ i j, j ∈ lst L i → i ≠ j ∧ i < n ∧ j < n ∧ i ∈ lst L j ∧ done a b i j
  due : ∀ i j, i < n → j < n → i ≠ j → p.getD i 0 = j → done a b i j → j ∈ lst L i ∧ i ∈ lst L j
theorem done_succ {a b i j : Nat} (hb : b < a) : done a (b + 1) i j ↔ done a b i j ∨ (i = a ∧ j = b) ∨ (i = b ∧ j = a) := by
  unfold done
  omega
theorem lst_set {L : List (List Nat)} {k i : Nat} {r : List Nat} (h : k < L.length) : lst (L.set k r) i = if i = k then r else lst L i := by
  unfold lst
  rw [List.getD_eq_getElem?_getD, List.getD_eq_getElem?_getD, List.getElem?_set]
  by_cases e : k = i
  · subst e
    simp [h]
  · have e' : ¬ i = k := fun z => e z.symm
    simp [e, e']
theorem Sy.zero (p : List Nat) (n : Nat) : Sy p n 0 0 (List.replicate n []) where
  len := List.length_replicate
  nd := fun i => by
    have : lst (List.replicate n []) i = [] := by
      unfold lst
      rw [List.getD_eq_getElem?_getD, List.getElem?_replicate]
      split <;> rfl
    rw [this]
    exact List.nodup_nil
  mem := fun i j h => by
    have : lst (List.replicate n []) i = [] := by
      unfold lst
      rw [List.getD_eq_getElem?_getD, List.getElem?_replicate]
      split <;> rfl
    rw [this] at h
    cases h
  due := fun i j _ _ _ _ h => by
    unfold done at h
    omega
theorem Sy.next {p : List Nat} {n a : Nat} {L : List (List Nat)} (h : Sy p n a a L) : Sy p n (a + 1) 0 L where
  len := h.len
  nd := h.nd
  mem := fun i j hj => by
    obtain ⟨h1, h2, h3, h4, h5⟩ := h.mem i j hj
    refine ⟨h1, h2, h3, h4, ?_⟩
    unfold done at *
    omega
  due := fun i j hi hj ne e d => by
    refine h.due i j hi hj ne e ?_
    unfold done at *
    omega
theorem Sy.no {p : List Nat} {n a b : Nat} {L : List (List Nat)} (h : Sy p n a b L) (hb : b < a) (h1 : p.getD a 0 ≠ b) (h2 : p.getD b 0 ≠ a) : Sy p n a (b + 1) L where
  len := h.len
  nd := h.nd
  mem := fun i j hj => by
    obtain ⟨q1, q2, q3, q4, q5⟩ := h.mem i j hj
    exact ⟨q1, q2, q3, q4, (done_succ hb).mpr (Or.inl q5)⟩
  due := fun i j hi hj ne e d => by
    rcases (done_succ hb).mp d with d | ⟨rfl, rfl⟩ | ⟨rfl, rfl⟩
    · exact h.due i j hi hj ne e d
    · exact absurd e h1
    · exact absurd e h2
theorem Sy.yes {p : List Nat} {n a b : Nat} {L : List (List Nat)} (h : Sy p n a b L) (hb : b < a) (ha : a < n) : Sy p n a (b + 1) ((L.set a (lst L a ++ [b])).set b (lst L b ++ [a])) := by
  have l1 : a < L.length := by rw [h.len]; exact ha
  have l2 : b < (L.set a (lst L a ++ [b])).length := by rw [List.length_set, h.len]; omega
  have get : ∀ i, lst ((L.set a (lst L a ++ [b])).set b (lst L b ++ [a])) i = if i = b then lst L b ++ [a] else if i = a then lst L a ++ [b] else lst L i := fun i => by
    rw [lst_set l2, lst_set l1]
  have nb : b ∉ lst L a := fun m => by
    have := (h.mem a b m).2.2.2.2
    unfold done at this
    omega
  have na : a ∉ lst L b := fun m => nb (h.mem b a m).2.2.2.1
  have mi : ∀ i j, j ∈ lst ((L.set a (lst L a ++ [b])).set b (lst L b ++ [a])) i ↔ j ∈ lst L i ∨ (i = a ∧ j = b) ∨ (i = b ∧ j = a) := fun i j => by
    rw [get]
    by_cases e1 : i = b
    · subst e1
      have : ¬ i = a := by omega
      simp only [if_true, List.mem_append, List.mem_singleton]
      constructor
      · rintro (x | x)
        · exact Or.inl x
        · exact Or.inr (Or.inr ⟨trivial, x⟩)
      · rintro (x | ⟨x, _⟩ | ⟨_, x⟩)
        · exact Or.inl x
        · exact absurd x this
        · exact Or.inr x
    · rw [if_neg e1]
      by_cases e2 : i = a
      · subst e2
        simp only [if_true, List.mem_append, List.mem_singleton]
        constructor
        · rintro (x | x)
          · exact Or.inl x
          · exact Or.inr (Or.inl ⟨trivial, x⟩)
        · rintro (x | ⟨_, x⟩ | ⟨x, _⟩)
          · exact Or.inl x
          · exact Or.inr x
          · exact absurd x e1
      · rw [if_neg e2]
        constructor
        · exact Or.inl
        · rintro (x | ⟨x, _⟩ | ⟨x, _⟩)
          · exact x
          · exact absurd x e2
          · exact absurd x e1
  refine ⟨by rw [List.length_set, List.length_set]; exact h.len, fun i => ?_, fun i j hj => ?_, fun i j hi hj ne e d => ?_⟩
  · rw [get]
    have app : ∀ (l : List Nat) (x : Nat), l.Nodup → x ∉ l → (l ++ [x]).Nodup := fun l x hl hx => by
      rw [List.nodup_append]
      refine ⟨hl, List.nodup_cons.mpr ⟨List.not_mem_nil, List.nodup_nil⟩, fun y hy z hz e => ?_⟩
      rw [List.mem_singleton] at hz
      exact hx (by rw [← hz, ← e]; exact hy)
    by_cases e1 : i = b
    · rw [if_pos e1]
      exact app _ _ (h.nd b) na
    · rw [if_neg e1]
      by_cases e2 : i = a
      · rw [if_pos e2]
        exact app _ _ (h.nd a) nb
      · rw [if_neg e2]
        exact h.nd i
  · rcases (mi i j).mp hj with m | ⟨rfl, rfl⟩ | ⟨rfl, rfl⟩
    · obtain ⟨q1, q2, q3, q4, q5⟩ := h.mem i j m
      exact ⟨q1, q2, q3, (mi j i).mpr (Or.inl q4), (done_succ hb).mpr (Or.inl q5)⟩
    · exact ⟨by omega, by omega, by omega, (mi _ _).mpr (Or.inr (Or.inr ⟨rfl, rfl⟩)), (done_succ hb).mpr (Or.inr (Or.inl ⟨rfl, rfl⟩))⟩
    · exact ⟨by omega, by omega, by omega, (mi _ _).mpr (Or.inr (Or.inl ⟨rfl, rfl⟩)), (done_succ hb).mpr (Or.inr (Or.inr ⟨rfl, rfl⟩))⟩
  · rcases (done_succ hb).mp d with d | ⟨rfl, rfl⟩ | ⟨rfl, rfl⟩
    · obtain ⟨q1, q2⟩ := h.due i j hi hj ne e d
      exact ⟨(mi _ _).mpr (Or.inl q1), (mi _ _).mpr (Or.inl q2)⟩
    · exact ⟨(mi _ _).mpr (Or.inr (Or.inl ⟨rfl, rfl⟩)), (mi _ _).mpr (Or.inr (Or.inr ⟨rfl, rfl⟩))⟩
    · exact ⟨(mi _ _).mpr (Or.inr (Or.inr ⟨rfl, rfl⟩)), (mi _ _).mpr (Or.inr (Or.inl ⟨rfl, rfl⟩))⟩
/-- a row's members -/
def Like (r s : List Nat) : Prop := r.Nodup ∧ ∀ x, x ∈ r ↔ x ∈ s
theorem Sy.wf {p : List Nat} {n : Nat} {L ls : List (List Nat)} (h : Sy p n n 0 L) (hl : ls.length = n) (hr : ∀ i, i < n → Like (lst ls i) (lst L i)) : WF ls where
  nd := fun i hi => (hr i (by rw [← hl]; exact hi)).1
  lt := fun i hi j hj => by
    rw [hl] at hi ⊢
    exact (h.mem i j (((hr i hi).2 j).mp hj)).2.2.1
  ne := fun i hi j hj => by
    rw [hl] at hi
    exact fun e => (h.mem i j (((hr i hi).2 j).mp hj)).1 e.symm
  sy := fun i hi j hj => by
    rw [hl] at hi
    obtain ⟨_, _, h3, h4, _⟩ := h.mem i j (((hr i hi).2 j).mp hj)
    exact ((hr j h3).2 i).mpr h4
/-- some put ahead -/
def ahead (p : List Nat) (k : Nat) (ms : List Nat) : List Nat := ([p.getD k 0] ++ ms.filter fun o => decide (p.getD o 0 = k) && !decide (p.getD k 0 = o)).filter fun o => !decide (o = k)
theorem front_like {p : List Nat} {n k : Nat} {L : List (List Nat)} {ms : List Nat} (h : Sy p n n 0 L) (hp : ∀ i, i < n → p.getD i 0 < n) (hk : k < n) (hm : Like ms (lst L k)) :
    Like (ahead p k ms ++ ms.filter fun o => !(ahead p k ms).contains o) (lst L k) := by
  have ha : ∀ x, x ∈ ahead p k ms → x ∈ ms := fun x hx => by
    unfold ahead at hx
    rw [List.mem_filter, List.mem_append, List.mem_singleton, List.mem_filter] at hx
    obtain ⟨h1 | h1, h2⟩ := hx
    · have ne : k ≠ x := by
        intro e
        rw [e] at h2
        simp at h2
      have := h.due k x hk (by rw [h1]; exact hp k hk) ne h1.symm (by unfold done; have := hp k hk; omega)
      exact (hm.2 x).mpr this.1
    · exact h1.1
  have nA : (ahead p k ms).Nodup := by
    unfold ahead
    refine List.Nodup.sublist List.filter_sublist ?_
    rw [List.singleton_append, List.nodup_cons]
    refine ⟨fun m => ?_, List.Nodup.sublist List.filter_sublist hm.1⟩
    rw [List.mem_filter] at m
    simp at m
  refine ⟨?_, fun x => ?_⟩
  · rw [List.nodup_append]
    refine ⟨nA, List.Nodup.sublist List.filter_sublist hm.1, fun x hx y hy e => ?_⟩
    rw [List.mem_filter] at hy
    rw [← e] at hy
    have := hy.2
    simp [hx] at this
  · rw [← hm.2 x, List.mem_append, List.mem_filter]
    constructor
    · rintro (m | m)
      · exact ha x m
      · exact m.1
    · intro m
      by_cases q : x ∈ ahead p k ms
      · exact Or.inl q
      · exact Or.inr ⟨m, by simpa using q⟩
end KM

/-! ## KMath5 -/
namespace KM
/-! every parting, by trying -/
def optE (ls : List (List Nat)) (i : Nat) (b : List Nat) : List (List Nat) := ((i :: lst ls i).filter fun o => !b.contains o).map fun o => b ++ [o]
def stepE (ls : List (List Nat)) (i : Nat) (es : List (List Nat)) : List (List Nat) := es.flatMap fun b => optE ls i b
def evTo (ls : List (List Nat)) : Nat → List (List Nat)
  | 0 => [[]]
  | k + 1 => stepE ls k (evTo ls k)
theorem stepE_take {ls : List (List Nat)} {i m : Nat} {es : List (List Nat)} {b : List Nat} (h : es[m]? = some b) : stepE ls i (es.take (m + 1)) = stepE ls i (es.take m) ++ optE ls i b := by
  obtain ⟨h1, h2⟩ := List.getElem?_eq_some_iff.mp h
  unfold stepE
  rw [List.take_succ_eq_append_getElem h1, List.flatMap_append, h2]
  simp
theorem getD_snoc {b : List Nat} {o i : Nat} : (b ++ [o]).getD i 0 = if i < b.length then b.getD i 0 else if i = b.length then o else 0 := by
  rw [List.getD_eq_getElem?_getD, List.getElem?_append]
  by_cases h : i < b.length
  · rw [if_pos h, if_pos h, List.getD_eq_getElem?_getD]
  · rw [if_neg h, if_neg h]
    by_cases e : i = b.length
    · rw [if_pos e, e, Nat.sub_self]
      rfl
    · rw [if_neg e]
      rw [List.getElem?_eq_none]
      · rfl
      · simp
        omega
theorem mem_evTo {ls : List (List Nat)} : ∀ {k : Nat} {p : List Nat}, p ∈ evTo ls k ↔ p.length = k ∧ p.Nodup ∧ ∀ i, i < k → p.getD i 0 = i ∨ p.getD i 0 ∈ lst ls i
  | 0, p => by
    show p ∈ [[]] ↔ _
    rw [List.mem_singleton]
    constructor
    · rintro rfl
      exact ⟨rfl, List.nodup_nil, fun i hi => absurd hi (Nat.not_lt_zero _)⟩
    · rintro ⟨h, _⟩
      exact List.eq_nil_of_length_eq_zero h
  | k + 1, p => by
    show p ∈ stepE ls k (evTo ls k) ↔ _
    unfold stepE optE
    simp only [List.mem_flatMap, List.mem_map, List.mem_filter, Bool.not_eq_true', List.mem_cons]
    constructor
    · rintro ⟨b, hb, o, ⟨ho, hc⟩, rfl⟩
      obtain ⟨b1, b2, b3⟩ := mem_evTo.mp hb
      have nb : o ∉ b := fun m => by
        have : b.contains o = true := by
          rw [List.contains_iff_mem]
          exact m
        rw [this] at hc
        cases hc
      refine ⟨by rw [List.length_append, b1]; rfl, ?_, fun i hi => ?_⟩
      · rw [List.nodup_append]
        refine ⟨b2, List.nodup_cons.mpr ⟨List.not_mem_nil, List.nodup_nil⟩, fun y hy z hz e => ?_⟩
        rw [List.mem_singleton] at hz
        exact nb (by rw [← hz, ← e]; exact hy)
      · rw [getD_snoc]
        by_cases e : i < b.length
        · rw [if_pos e]
          exact b3 i (by omega)
        · have : i = k := by omega
          subst this
          rw [if_neg e, if_pos b1.symm]
          exact ho
    · rintro ⟨h1, h2, h3⟩
      have ne : p ≠ [] := fun e => by
        rw [e] at h1
        cases h1
      obtain ⟨b, o, rfl⟩ : ∃ b o, p = b ++ [o] := ⟨p.dropLast, p.getLast ne, (List.dropLast_concat_getLast ne).symm⟩
      rw [List.length_append] at h1
      have lb : b.length = k := by
        have : [o].length = 1 := rfl
        omega
      rw [List.nodup_append] at h2
      obtain ⟨n1, _, n3⟩ := h2
      refine ⟨b, mem_evTo.mpr ⟨lb, n1, fun i hi => ?_⟩, o, ⟨?_, ?_⟩, rfl⟩
      · have := h3 i (by omega)
        rw [getD_snoc, if_pos (by omega)] at this
        exact this
      · have := h3 k (by omega)
        rw [getD_snoc, if_neg (by omega), if_pos lb.symm] at this
        exact this
      · cases q : b.contains o with
        | false => rfl
        | true =>
          rw [List.contains_iff_mem] at q
          exact absurd rfl (n3 o q o (List.mem_singleton.mpr rfl))
theorem mem_every {ls : List (List Nat)} {p : List Nat} : p ∈ evTo ls ls.length ↔ Par ls p := by
  rw [mem_evTo]
  exact ⟨fun ⟨h1, h2, h3⟩ => ⟨h1, h2, h3⟩, fun h => ⟨h.len, h.nd, h.ok⟩⟩
theorem optE_len (ls : List (List Nat)) (i : Nat) (b : List Nat) : (optE ls i b).length ≤ (lst ls i).length + 1 := by
  unfold optE
  rw [List.length_map]
  exact Nat.le_trans (List.length_filter_le _ _) (Nat.le_refl _)
theorem stepE_len {ls : List (List Nat)} {i c : Nat} (h : (lst ls i).length + 1 ≤ c) : ∀ es : List (List Nat), (stepE ls i es).length ≤ es.length * c
  | [] => Nat.zero_le _
  | b :: es => by
    have ih := stepE_len h es
    have h1 := optE_len ls i b
    unfold stepE at ih ⊢
    rw [List.flatMap_cons, List.length_append, List.length_cons, Nat.add_one_mul]
    omega
theorem evTo_len {ls : List (List Nat)} {c n : Nat} (h : ∀ i, i < n → (lst ls i).length + 1 ≤ c) : ∀ k, k ≤ n → (evTo ls k).length ≤ c ^ k
  | 0, _ => Nat.le_refl _
  | k + 1, hk => by
    have ih := evTo_len h k (by omega)
    have h1 := stepE_len (h k (by omega)) (evTo ls k)
    show (stepE ls k (evTo ls k)).length ≤ _
    refine Nat.le_trans h1 ?_
    rw [Nat.pow_succ]
    exact Nat.mul_le_mul_right c ih
end KM

/-! ## KMath6 -/
namespace KM
/-! the ladders -/
def rung (i : Nat) : List (List Nat) := [[4 * i + 1, 4 * i + 3], [4 * i + 2, 4 * i], [4 * i + 3, 4 * i + 1], [4 * i, 4 * i + 2]]
def ladTo : Nat → List (List Nat)
  | 0 => []
  | k + 1 => ladTo k ++ rung k
def R3 : List (List Nat) := [[1, 2, 3, 0], [1, 0, 3, 2], [3, 2, 1, 0]]
def opts : Nat → List (List Nat)
  | 0 => [[]]
  | k + 1 => (opts k).flatMap fun p => R3.map fun r => p ++ r.map fun x => 4 * k + x
theorem opts_succ {k : Nat} {p r : List Nat} (hp : p ∈ opts k) (hr : r ∈ R3) : p ++ (r.map fun x => 4 * k + x) ∈ opts (k + 1) := List.mem_flatMap.mpr ⟨p, hp, List.mem_map.mpr ⟨r, hr, rfl⟩⟩
def wfP (ls : List (List Nat)) : Prop := (∀ i, i < ls.length → (lst ls i).Nodup) ∧ (∀ i, i < ls.length → ∀ j ∈ lst ls i, j < ls.length) ∧ (∀ i, i < ls.length → ∀ j ∈ lst ls i, j ≠ i) ∧ ∀ i, i < ls.length → ∀ j ∈ lst ls i, i ∈ lst ls j
instance (ls : List (List Nat)) : Decidable (wfP ls) := by unfold wfP; exact inferInstance
theorem wf_of {ls : List (List Nat)} (h : wfP ls) : WF ls := ⟨h.1, h.2.1, h.2.2.1, h.2.2.2⟩
def okP (ls : List (List Nat)) (p : List Nat) : Prop := (p.length = ls.length ∧ p.Nodup ∧ ∀ i, i < ls.length → p.getD i 0 = i ∨ p.getD i 0 ∈ lst ls i) ∧
  (∀ i, i < ls.length → rnk ls i (p.getD i 0) ≤ rnk ls i (p.idxOf i)) ∧ ∀ i, i < ls.length → ∀ j ∈ lst ls i, (lst ls i).idxOf j < rnk ls i (p.idxOf i) → p.getD i 0 ≠ j → p.getD j 0 ≠ i → ¬ rnk ls j i < rnk ls j (p.idxOf j)
instance (ls : List (List Nat)) (p : List Nat) : Decidable (okP ls p) := by unfold okP; exact inferInstance
theorem par_of {ls : List (List Nat)} {p : List Nat} (h : okP ls p) : Par ls p ∧ Lasts ls p := ⟨⟨h.1.1, h.1.2.1, h.1.2.2⟩, ⟨h.2.1, h.2.2⟩⟩
theorem lad1 : wfP (ladTo 1) ∧ ∀ p ∈ opts 1, okP (ladTo 1) p := by decide +kernel
theorem lad2 : wfP (ladTo 2) ∧ ∀ p ∈ opts 2, okP (ladTo 2) p := by decide +kernel
theorem lad_facts {b : Nat} (h : b = 1 ∨ b = 2) : WF (ladTo b) ∧ (ladTo b).length = 4 * b ∧ ∀ p ∈ opts b, Par (ladTo b) p ∧ Lasts (ladTo b) p := by
  rcases h with rfl | rfl
  · exact ⟨wf_of lad1.1, rfl, fun p hp => par_of (lad1.2 p hp)⟩
  · exact ⟨wf_of lad2.1, rfl, fun p hp => par_of (lad2.2 p hp)⟩
end KM

/-! ## KR1 -/
/-! Rules that the layer lacks: tuples whose own object is known, .index of them, enumerate of a tuple, keywords alone, t[::-1], repr, sorted lists of rows. -/
namespace KR
open PySem PySem.Spec PyProof.Rows L2

/-- a tuple of these stands at p, its object without a dict -/
def TpZ (H : Hp) (p : Addr) (xs : List V) : Prop := ∃ o : Obj, o.dict = none ∧ H p = some (.frz o (.tup xs))
theorem TpZ.sqT {K : PySem.W.Frag} {H : Hp} {p : Addr} {xs : List V} (h : TpZ H p xs) : SqT K H p xs :=
  let ⟨o, _, e⟩ := h
  .inl (.inr ⟨o, e⟩)
theorem TpZ.same {H H' : Hp} {p : Addr} {xs : List V} (h : TpZ H p xs) (s : Same H H') : TpZ H' p xs :=
  let ⟨o, d, e⟩ := h
  ⟨o, d, s _ _ e⟩
theorem same_sqT {K : PySem.W.Frag} {H H' : Hp} {p : Addr} {xs : List V} (s : Same H H') (h : SqT K H p xs) : SqT K H' p xs := by
  rcases h with (q | ⟨o, q⟩) | q
  · exact Or.inl (Or.inl (s _ _ q))
  · exact Or.inl (Or.inr ⟨o, s _ _ q⟩)
  · exact Or.inr q
theorem same_new {H : Hp} {p : Addr} {o : HO} (h : H p = none) : Same H (upd H p o) := fun b u e => by
  rw [upd_ne (ne_of_none e h)]
  exact e
theorem same_then {H H1 : Hp} {p : Addr} {o : HO} (s : Same H H1) (h : H1 p = none) : Same H (upd H1 p o) := s.trans (same_new h)

/-- the new tuple's place: any free one, any object without a dict -/
def NewT (xs : List V) (H : Hp) (Q : VK) : Prop := ∀ (p : Addr) (o : Obj), H p = none → o.dict = none → Q (.ref p) (upd H p (.frz o (.tup xs)))
theorem NewT.use {xs : List V} {H : Hp} {Q : VK} (h : ∀ p H', H p = none → Same H H' → TpZ H' p xs → Q (.ref p) H') : NewT xs H Q :=
  fun p o n d => h p _ n (same_new n) ⟨o, d, upd_same⟩
section
variable {X : Cx} {pins : List (Addr × Obj)} {σ : L2.St} {H : Hp} {s : Shared}
theorem laidZ {xs : List V} {us : List Value} {tk : Nat} {Q : VK} (I : Inv X pins σ H s) (r : Vals xs us) (z : xs.length ≤ sizeLine) (q : NewT xs H Q) :
    EP X pins σ Q (.ref s.heap.objs.size) { s with heap := s.heap.push { cls := .type "tuple", data := .seq us.toArray }, toks := tk } := by
  have fr := I.hok.fresh (Nat.le_refl s.heap.objs.size)
  have g : (s.heap.push { cls := .type "tuple", data := .seq us.toArray }).get? s.heap.objs.size = some { cls := .type "tuple", data := .seq us.toArray } := Heap.get?_push_size s.heap rfl
  have new : ObjOk X.prog X.w (upd H s.heap.objs.size (.frz { cls := .type "tuple", data := .seq us.toArray } (.tup xs))) (s.heap.push { cls := .type "tuple", data := .seq us.toArray }) s.heap.objs.size
      (.frz { cls := .type "tuple", data := .seq us.toArray } (.tup xs)) := ⟨g, z, us, r, _, g, rfl, _, rfl⟩
  exact ⟨.ref s.heap.objs.size, _, I.laid (t' := tk) (fun b u e => Heap.get?_push_of_some _ e) (Nat.le_refl _) new, rfl, q _ _ fr rfl⟩
end
section
variable {X : Cx} {es : List Expr} {t : TA} {pos : Pos}
/-- (a, b, ..) -/
def tTupZ (t : TA) : TE := fun σ H Q => t σ H fun xs H1 => xs.length ≤ sizeLine ∧ NewT xs H1 Q
theorem pe_tupZ {k : Nat} (h : PA X es t) : PE X (.Tuple es k pos) (tTupZ t) := by
  constructor
  intro pins s σ H Q I hq
  apply wpAny_Tuple_spliced
  apply thn (h.run pos pins s σ H _ I hq)
  rintro us s1 ⟨xs, H1, I1, r, z, q⟩
  exact ⟨by rw [← r.length]; exact z, laidZ I1 r z q⟩
/-- tuple(xs), xs a list -/
def rTupL (K : PySem.W.Frag) : List V → Hp → VK → Prop := fun xs H Q => ∃ p ys, xs = [V.ref p] ∧ SqL K H p ys ∧ NewT ys H Q
theorem cr_tupL : CallR X (.type "tuple") (rTupL X.K) := by
  intro pins s σ H xs us Q I r h
  obtain ⟨p, ys, rfl, hq, q⟩ := h
  obtain ⟨u, rfl, rx⟩ := vals1 r
  cases rx
  obtain ⟨its, r', pl, hz⟩ := I.list hq
  have hl : its.toArray.size ≤ sizeLine := by
    rw [List.size_toArray, ← r'.length]
    exact hz
  refine call_tuple_list pl.isList (fun h' kp => ?_) hl
  exact laidZ (I.kept (t' := s.toks) kp) r' hz fun p o n d => q p o n d
/-- a + b, tuples -/
def rCatZ (K : PySem.W.Frag) : R2 := fun x y H Q => ∃ a b xs ys, x = .ref a ∧ y = .ref b ∧ SqT K H a xs ∧ SqT K H b ys ∧ xs.length + ys.length ≤ sizeLine ∧
  (xs = [] → Q (.ref b) H) ∧ (xs ≠ [] → ys = [] → Q (.ref a) H) ∧ (xs ≠ [] → ys ≠ [] → NewT (xs ++ ys) H Q)
theorem op_catZ : OpR X (binaryOp .Add) (rCatZ X.K) := by
  intro pins s σ H x y v u Q I rx ry h
  obtain ⟨a, b, xs, ys, rfl, rfl, ha, hb, hz, q0, q1, q2⟩ := h
  by_cases hx : xs = []
  · refine op_catA pins s σ H _ _ v u Q I rx ry ⟨a, b, xs, ys, rfl, rfl, ha, hb, hz, q0, q1, fun n => absurd hx n⟩
  · cases rx
    cases ry
    obtain ⟨us, r1, p1, _⟩ := I.tuple ha
    obtain ⟨ws, r2, p2, _⟩ := I.tuple hb
    have nx : us ≠ [] := fun z => by
      subst z
      cases r1
      exact hx rfl
    refine HT.cat_tup p1 p2 nx (fun z => ?_) (fun z => ?_) (by rw [← r1.length, ← r2.length]; exact hz)
    · subst z
      cases r2
      exact ⟨.ref a, H, I, rfl, q1 hx rfl⟩
    · have ny : ys ≠ [] := fun e => by
        subst e
        cases r2
        exact z rfl
      exact laidZ I (r1.append r2) (by rw [List.length_append]; exact hz) (q2 hx ny)
end
section
variable {X : Cx} {o e : Expr} {to te : TE} {apos cpos : Pos}
/-- t.index(y), t a tuple whose object is known -/
def tTix (to te : TE) : TE := fun σ H Q => to σ H fun x H1 => ∃ p ys, x = .ref p ∧ TpZ H1 p ys ∧ te σ H1 fun y H2 => TpZ H2 p ys ∧ flatV y = true ∧ ys.all flatV = true ∧
  ∃ (j : Nat) (z : V), ys[j]? = some z ∧ eqV z y = true ∧ (∀ (m : Nat) (z' : V), m < j → ys[m]? = some z' → eqV z' y = false) ∧ Q (.int (j : Nat)) H2
theorem tup_index {pins : List (Addr × Obj)} {σ : L2.St} {H : Hp} {s : Shared} {p : Addr} {ys : List V} {y z : V} {u : Value} {j : Nat} {Q : VK} (I : Inv X pins σ H s) (ry : RelV y u) (hq : SqT X.K H p ys) (fy : flatV y = true) (fys : ys.all flatV = true)
    (hz : ys[j]? = some z) (he : eqV z y = true) (hno : ∀ (m : Nat) (z' : V), m < j → ys[m]? = some z' → eqV z' y = false) (q : Q (.int (j : Nat)) H) :
    wpAny (model X.prog X.w) X.A (call (.builtin "tuple.index") [.ref p, u]) (EP X pins σ Q) X.xe s := by
  obtain ⟨its, rv, pl, hlen⟩ := I.tuple hq
  obtain ⟨⟨cls, dd, dt, sl⟩, ho, hc, n, hd⟩ := pl
  simp only at hc hd
  subst hc hd
  obtain ⟨w, hw, rw'⟩ := rv.get hz
  obtain ⟨hjl, hje⟩ := List.getElem?_eq_some_iff.mp hw
  have hj : j < its.toArray.size := by simpa using hjl
  refine call_meets PySem.F.slot_tuple_index ⟨_, ho, rfl⟩ PySem.F.entry_tuple_index (PySem.F.args_tuple_index_2 _ _)
    (TI.tuple_indexAt p its.toArray n dd sl u (eqU y) j hj ?_ ?_) ⟨ho, fun w hw => mem_eqAt ry fy rv fys w (by simpa using hw), ⟨.int (j : Nat), H, I.tok _, ⟨_, rfl⟩, q⟩⟩
  · have e1 : its.toArray[j] = w := by simpa using hje
    rw [e1, eqU_of rw' (flat_at fys hz)]
    exact he
  · intro m hm hmj
    have hvl := rv.length
    have hm2 : m < its.length := by simpa using hm
    have hmy : ys[m]? = some (ys[m]'(by omega)) := List.getElem?_eq_getElem _
    obtain ⟨w2, hw2, rw2⟩ := rv.get hmy
    obtain ⟨_, hme⟩ := List.getElem?_eq_some_iff.mp hw2
    have e1 : its.toArray[m] = w2 := by simpa using hme
    rw [e1, eqU_of rw2 (flat_at fys hmy)]
    exact hno m _ hmj hmy
theorem pe_tix (ho : PE X o to) (he : PE X e te) (hb : attributeBase o "index" X.env (eval o X.env) = eval o X.env := by rfl)
    (hfew : ((backTo cpos (starEach [e] X.env)).all (fun x => !x.1) && (backToKw cpos (keywordEach [] X.env)).all (fun x => x.1.isSome) && decide (([e] : List Expr).length + ([] : List Keyword).length + (if ([] : List Keyword).isEmpty then 0 else 1) < 30)) = true := by rfl)
    (hline : (apos.endLine == cpos.line) = true := by rfl) (hst : starEach [e] X.env = (false, eval e X.env) :: starEach [] X.env := by rfl) :
    PE X (.Call (.Attribute o "index" apos) [e] [] cpos) (tTix to te) := by
  constructor
  intro pins s σ H Q I h
  refine wpAny_Call_method_late hb hfew hline rfl (thn (ho.run pins s σ H _ I h) fun v s1 hv => ?_)
  obtain ⟨x, H1, I1, r1, p, ys, rfl, hp, q1⟩ := hv
  cases r1
  obtain ⟨ob, hd, hH⟩ := hp
  have hg : s1.heap.get? p = some ob := (I1.hok p _ hH).1
  have hcl : ob.cls = .type "tuple" := by
    obtain ⟨_, _, _, o2, e2, c2, _⟩ := (I1.hok p _ hH).2
    rw [hg] at e2
    cases e2
    exact c2
  refine ⟨"tuple", "tuple.index", PySem.F.plainAttrs_tuple, PySem.F.slot_tuple_index, PySem.F.type_tuple_index, ⟨ob, hg, hcl⟩, fun a ea => ?_, ?_⟩
  · cases ea
    exact ⟨ob, hg, hd⟩
  · have hA := (pa_cons he pa_nil hst).run cpos pins s1 σ H1 (fun vs H2 => ∃ y, vs = [y] ∧ TpZ H2 p ys ∧ flatV y = true ∧ ys.all flatV = true ∧
        ∃ (j : Nat) (z : V), ys[j]? = some z ∧ eqV z y = true ∧ (∀ (m : Nat) (z' : V), m < j → ys[m]? = some z' → eqV z' y = false) ∧ Q (.int (j : Nat)) H2) I1 (by
      have q2 := q1
      exact (fun (k : te σ H1 _) => k) (by
        have : (fun (y : V) (H2 : Hp) => TpZ H2 p ys ∧ flatV y = true ∧ ys.all flatV = true ∧ ∃ (j : Nat) (z : V), ys[j]? = some z ∧ eqV z y = true ∧ (∀ (m : Nat) (z' : V), m < j → ys[m]? = some z' → eqV z' y = false) ∧ Q (.int (j : Nat)) H2) =
            fun (y : V) (H2 : Hp) => ∃ y', [y] = [y'] ∧ TpZ H2 p ys ∧ flatV y' = true ∧ ys.all flatV = true ∧ ∃ (j : Nat) (z : V), ys[j]? = some z ∧ eqV z y' = true ∧ (∀ (m : Nat) (z' : V), m < j → ys[m]? = some z' → eqV z' y' = false) ∧ Q (.int (j : Nat)) H2 := by
          funext y H2
          apply propext
          constructor
          · exact fun z => ⟨y, rfl, z⟩
          · rintro ⟨y', ey, z⟩
            cases ey
            exact z
        rw [this] at q2
        exact q2))
    rw [hst] at hA ⊢
    refine Calls.callWith_builtin rfl (Calls.evalArgs_plain ?_)
    refine thn hA fun us s2 h2 => ?_
    obtain ⟨vs, H2, I2, r2, y, rfl, hp2, fy, fys, j, z, hz, hez, hno, q⟩ := h2
    obtain ⟨u, rfl, ry⟩ := vals1 r2
    exact tup_index I2 ry hp2.sqT fy fys hz hez hno q
end
end KR

/-! ## KR2 -/
namespace KR
open PySem PySem.Spec PyProof.Rows L2

/-! ### t[::-1], t a pair -/
section
variable {prog : Program} {w : World} {A : Around} {E : Value → Shared → Prop} {s : Shared}
theorem sliceApplied_back {sl : Addr} {vs : Value} {Q : Int × Int × Nat → Shared → Prop} (hs : s.heap.IsSliceOf sl .none .none vs) (ps : IsPart vs (some (-1))) (h : Q (1, -1, 2) s) :
    wpAny (model prog w) A (Builtin.Slice.sliceApplied (.ref sl) (pure (2 : Int))) Q E s := by
  obtain ⟨os, hos, hcs, hds⟩ := id hs
  unfold Builtin.Slice.sliceApplied Builtin.Slice.sliceFields
  have f1 : wpAny (model prog w) A (field (.ref sl) 0) (fun v s' => v = .none ∧ s' = s) E s := wpAny_field hos hds (x := .none) rfl ⟨rfl, rfl⟩
  have f2 : wpAny (model prog w) A (field (.ref sl) 1) (fun v s' => v = .none ∧ s' = s) E s := wpAny_field hos hds (x := .none) rfl ⟨rfl, rfl⟩
  have f3 : wpAny (model prog w) A (field (.ref sl) 2) (fun v s' => v = vs ∧ s' = s) E s := wpAny_field hos hds (x := vs) rfl ⟨rfl, rfl⟩
  refine wpAny_bind (wpAny_bind (thn f1 fun _ _ ⟨e1, e2⟩ => ?_))
  subst e1 e2
  refine wpAny_bind (thn f2 fun _ _ ⟨e1, e2⟩ => ?_)
  subst e1 e2
  refine wpAny_bind (thn f3 fun _ _ ⟨e1, e2⟩ => ?_)
  subst e1 e2
  refine wpAny_pure ?_
  refine wpAny_bind (HT.slicePart_ ps ?_)
  show wpAny _ _ (if ((-1 : Int) == 0) = true then _ else _) _ _ _
  rw [if_neg (by decide)]
  refine wpAny_bind (HT.slicePart_ .none (wpAny_bind (HT.slicePart_ .none (wpAny_bind (wpAny_pure ?_)))))
  exact wpAny_pure h
theorem getItem_pair_back {t sl : Addr} {u v vs : Value} {Q : Value → Shared → Prop} (ht : IsTup s.heap t #[u, v]) (hs : s.heap.IsSliceOf sl .none .none vs) (ps : IsPart vs (some (-1)))
    (h : Q (.ref s.heap.objs.size) { s with heap := s.heap.push { cls := .type "tuple", data := .seq #[v, u] } }) : wpAny (model prog w) A (getItem (.ref t) (.ref sl)) Q E s := by
  obtain ⟨os, hos, hcs, hds⟩ := id hs
  have ty : s.TypeIs (.ref sl) "slice" := ⟨os, hos, hcs⟩
  unfold getItem
  try with_reducible refine wpAny_holding ?_
  first | refine wpAny_bind (wpAny_pure ?_) | skip
  refine wpAny_bind (wpAny_sequenceKey ht.typeIs (by decide) ?_)
  have go : wpAny (model prog w) A.in1 (Builtin.«tuple.__getitem__» ⟨[.ref t, .ref sl], []⟩) (fun f s' => ∃ r, f = .done (.ret r) ∧ Q r s') E s := by
    show wpAny _ _ (Builtin.Tuple.tupleItemsOf (.ref t) >>= _) _ _ s
    refine wpAny_bind (tupleItemsOf_ ht ?_)
    refine wpAny_bind (wpAny_typeOf ty ?_)
    rw [if_pos (by decide)]
    refine wpAny_bind (sliceApplied_back hs ps ?_)
    show wpAny _ _ (if (((1 : Int) == 0) && ((-1 : Int) == 1) && ((2 : Nat) == 2)) = true then _ else _) _ _ s
    rw [if_neg (by decide)]
    have e : ((List.range 2).filterMap fun (m : Nat) => (#[u, v] : Array Value)[((1 : Int) + (m : Int) * (-1)).toNat]?).toArray = #[v, u] := rfl
    have z : sizeOk (.seq #[v, u]) := by show (2 : Nat) ≤ sizeLine; decide
    show wpAny _ _ (Builtin.Tuple.tupleExact ((List.range 2).filterMap fun (m : Nat) => (#[u, v] : Array Value)[((1 : Int) + (m : Int) * (-1)).toNat]?).toArray >>= _) _ _ s
    rw [e]
    first
      | exact wpAny_bind (m := Builtin.Tuple.tupleExact _) (wpAny_newObj_type (wpAny_pure ⟨_, rfl, h⟩) z)
      | exact wpAny_bind (m := Builtin.Tuple.tupleExact _) (wpAny_newObj_type (wpAny_pure ⟨_, rfl, wpAny_pure h⟩) z)
      | exact wpAny_bind (m := Builtin.Tuple.tupleExact _) (wpAny_newObj_type (wpAny_bind (wpAny_pure (wpAny_pure ⟨_, rfl, h⟩))) z)
  exact wpAny_bind (wpAny_callSpecial?_slot (name := Str.ofString "__getitem__") ht.typeIs PyProof.Rows.slot_tuple_getitem
    (wpAny_call_entry PyProof.Rows.slot_tuple_getitem ht.typeIs entry_tuple_getitem (by first | exact go | exact wpAny_of_in1 go | exact thn go fun f s' ⟨r, e1, q⟩ => ⟨r, e1, wpAny_pure q⟩) (args_tuple_getitem _ _)))
end
section
variable {X : Cx} {e : Expr} {te : TE} {k : Nat} {p1 p2 p3 pos : Pos}
def tRevP (K : PySem.W.Frag) (te : TE) : TE := fun σ H Q => te σ H fun x H1 => ∃ a u v, x = .ref a ∧ SqT K H1 a [u, v] ∧ NewT [v, u] H1 Q
theorem pe_revP (he : PE X e te) : PE X (.Subscript e (.Slice none none (some (.UnaryOp .USub (.Constant (.int 1) k p1) p2)) p3) pos) (tRevP X.K te) := by
  constructor
  intro pins s σ H Q I h
  apply Subscript_
  apply thn (he.run pins s σ H _ I h)
  rintro v s1 ⟨x, H1, I1, r1, a, y, z, rfl, hx, q⟩
  cases r1
  have hst : PO X (some (.UnaryOp .USub (.Constant (.int 1) k p1) p2)) (tPart (tUn (rU fun i => .int (-i)) (tC (.int 1)))) := po_some (pe_un un_neg pe_int)
  apply wpAny_Slice
  rw [evalPart_none]
  refine wpAny_pure (wpAny_pure ?_)
  apply thn (hst.run pins s1 σ H1 (fun o H4 => o = some (-1) ∧ H4 = H1) I1 ⟨1, rfl, -1, rfl, rfl, rfl⟩)
  rintro vs s4 ⟨o, H4, I4, ps, rfl, rfl⟩
  have I5 : Inv X pins σ H4 { s4 with heap := s4.heap.push { cls := .type "slice", data := .fields #[.none, .none, vs] } } := I4.kept (t' := s4.toks) fun b ob q => Heap.get?_push_of_some _ q
  obtain ⟨its, r, ht, hz⟩ := I5.tuple hx
  obtain ⟨u1, u2, rfl, ru1, ru2⟩ : ∃ u1 u2, its = [u1, u2] ∧ RelV y u1 ∧ RelV z u2 := by
    cases r with
    | cons a1 t1 =>
      cases t1 with
      | cons a2 t2 =>
        cases t2
        exact ⟨_, _, rfl, a1, a2⟩
  show wpAny (model X.prog X.w) X.A (subscriptTail e (.Slice none none (some (.UnaryOp .USub (.Constant (.int 1) k p1) p2)) p3) (.ref a) (.ref s4.heap.objs.size)) (EP X pins σ Q) X.xe { s4 with heap := s4.heap.push { cls := .type "slice", data := .fields #[.none, .none, vs] } }
  refine tail_any (ops := [.ref a, .ref s4.heap.objs.size]) ht.typeIs PyProof.Rows.slot_tuple_getitem.lookup ?_ (by with_unfolding_all rfl)
  refine getItem_pair_back ht (Heap.IsSliceOf.new _ .none .none vs) ps ?_
  exact laidZ (tk := s4.toks) I5 (.cons ru2 (.cons ru1 .nil)) (by show 2 ≤ sizeLine; decide) q
end

/-! ### repr of data -/
section
variable {X : Cx}
def rRepr (K : PySem.W.Frag) : List V → Hp → VK → Prop := fun xs H Q => ∃ (a : Addr) (d : PyData), xs = [V.ref a] ∧ Dp K H (V.ref a) d ∧ d.showable = true ∧ d.hasDict = false ∧ d.depth ≤ 8 ∧ d.shown.length ≤ sizeLine ∧ Q (.str d.shown) H
theorem cr_repr (hg : X.A.guards = some []) (hu : X.A.units + 64 < cLine) : CallR X (.builtin "repr") (rRepr X.K) := by
  intro pins s σ H xs us Q I r h
  obtain ⟨a, d, rfl, hd, hs, hn, h8, hz, q⟩ := h
  obtain ⟨u, rfl, ru⟩ := vals1 r
  obtain ⟨as, rd⟩ := Dp.reads I d _ u hd ru
  cases ru
  refine repr_of_reads' rd hs (PyData.noDict_hsm hn) hg (by omega) (fun _ _ z => z) (fun h' t tk kp => ?_) hz
  exact ⟨.str d.shown, H, I.kept (t' := tk) kp, ⟨t, rfl⟩, q⟩
end

/-! ### sorted(xs), xs a list of tuples of ints, of any length -/
def rowD (l : List Int) : PyData := .tuple (l.map .int)
/-- the order in which Python has them -/
def rowLe (a b : List Int) : Bool := PySem.W.dataLe false rowD a b
def byRow (a b : Addr × List Int) : Bool := rowLe a.2 b.2
section
variable {X : Cx}
def rSortRows (K : PySem.W.Frag) : List V → Hp → VK → Prop := fun xs H Q => ∃ (a : Addr) (bs : List (Addr × List Int)), xs = [V.ref a] ∧ SqL K H a (bs.map fun b => V.ref b.1) ∧ (∀ b ∈ bs, SqT K H b.1 (b.2.map V.int) ∧ b.2 ≠ []) ∧
  ∀ p, H p = none → Q (.ref p) (upd H p (.lst ((bs.mergeSort byRow).map fun b => V.ref b.1)))
theorem refs_each (bs : List (Addr × List Int)) : PySem.W.EachIs (fun v (b : Addr × List Int) => v = Value.ref b.1) (bs.map fun b => Value.ref b.1) bs := by
  induction bs with
  | nil => exact .nil
  | cons b bs ih => exact .cons rfl ih
theorem vals_refs (bs : List (Addr × List Int)) : Vals (bs.map fun b => V.ref b.1) (bs.map fun b => Value.ref b.1) := by
  induction bs with
  | nil => exact .nil
  | cons b bs ih => exact .cons rfl ih
theorem each_refs {bs : List (Addr × List Int)} {us : List Value} (h : PySem.W.EachIs (fun v (b : Addr × List Int) => v = Value.ref b.1) us bs) : us = bs.map fun b => Value.ref b.1 := by
  induction h with
  | nil => rfl
  | cons e _ ih => rw [e, ih]; rfl
theorem dpAll_ints (K : PySem.W.Frag) (H : Hp) : ∀ l : List Int, DpAll K H (l.map V.int) (l.map PyData.int)
  | [] => .nil
  | i :: l => .cons (.int i) (dpAll_ints K H l)
theorem cr_sortRows (hu : X.A.units + 64 < cLine) : CallR X (.builtin "sorted") (rSortRows X.K) := by
  intro pins s σ H xs us Q I r h
  obtain ⟨a, bs, rfl, hl, hr, q⟩ := h
  obtain ⟨u, rfl, ru⟩ := vals1 r
  cases ru
  obtain ⟨its, rv, pl, hz⟩ := I.list hl
  have e0 : its = bs.map fun b => Value.ref b.1 := by
    clear pl q hr hl hz
    induction bs generalizing its with
    | nil =>
      cases rv
      rfl
    | cons b bs ih =>
      cases rv with
      | cons r1 r2 =>
        rw [ih _ r2]
        cases r1
        rfl
  subst e0
  have hlen : bs.length ≤ sizeLine := by
    rw [List.length_map] at hz
    exact hz
  have reads : PySem.W.EachIs (fun v (b : Addr × List Int) => ∃ as, Reads s.heap v (rowD b.2) as) (bs.map fun b => Value.ref b.1) bs := by
    have all : ∀ cs : List (Addr × List Int), (∀ b ∈ cs, b ∈ bs) → PySem.W.EachIs (fun v (b : Addr × List Int) => ∃ as, Reads s.heap v (rowD b.2) as) (cs.map fun b => Value.ref b.1) cs := by
      intro cs
      induction cs with
      | nil => exact fun _ => .nil
      | cons c cs ih =>
        intro hc
        refine .cons ?_ (ih fun b hb => hc b (List.mem_cons_of_mem _ hb))
        exact Dp.reads I (rowD c.2) (.ref c.1) (.ref c.1) (.tup (hr c (hc c List.mem_cons_self)).1 (dpAll_ints X.K H c.2)) rfl
    exact all bs fun _ h => h
  have alike : PySem.W.AllAlike (bs.map fun b => rowD b.2) := by
    intro d hd d' hd'
    obtain ⟨b, _, rfl⟩ := List.mem_map.mp hd
    obtain ⟨b', _, rfl⟩ := List.mem_map.mp hd'
    show PySem.W.alike (.tuple _) (.tuple _) = true
    rw [PySem.W.alike]
    exact PySem.W.alike_ints b.2 b'.2
  have srt : PySem.W.Sortable (bs.map fun b => rowD b.2) := .inl fun d hd => by
    obtain ⟨b, hb, rfl⟩ := List.mem_map.mp hd
    obtain ⟨x, l, e⟩ := List.exists_cons_of_ne_nil (hr b hb).2
    exact ⟨.int x, l.map .int, by rw [e]; rfl⟩
  have dep : ∀ b : Addr × List Int, (rowD b.2).depth ≤ 1 := fun b => by
    show PyData.depth (.tuple _) ≤ 1
    rw [PyData.depth, PySem.W.depth_ints]
    exact Nat.le_refl _
  refine PySem.W.sorted_data (enc := fun b : Addr × List Int => rowD b.2) pl.isList (refs_each bs) reads alike srt hlen (fun b _ => by have := dep b; omega) fun out ho he => ?_
  have e1 := each_refs he
  have el : out.length ≤ sizeLine := by omega
  obtain ⟨ep, g⟩ := PyProof.Rows.sortedAll_at s.heap (bs.map fun b => Value.ref b.1) out.toArray
  have hv : Vals ((bs.mergeSort byRow).map fun b => V.ref b.1) out.toArray.toList := by
    rw [List.toList_toArray, e1]
    exact vals_refs _
  have hl2 : ((bs.mergeSort byRow).map fun b => V.ref b.1).length ≤ sizeLine := by
    rw [List.length_map, List.length_mergeSort]
    exact hlen
  exact ⟨.ref _, _, I.laid (t' := s.toks) (o := .lst ((bs.mergeSort byRow).map fun b => V.ref b.1)) (fun _ _ => PyProof.Rows.sortedAll_old) (Nat.le_succ _) ⟨hl2, out.toArray.toList, ep, hv, g⟩, rfl, q _ (I.hok.fresh (Nat.le_succ _))⟩
end
end KR

/-! ## KR3 -/
namespace KR
open PySem PySem.Spec PyProof.Rows L2

/-! ### for i, x in enumerate(t), t a tuple -/
theorem enum_new1 {v : Value} {o : Obj} {H : Heap → Prop} (B : Begins v o H) :
    Meets (Builtin.«enumerate.__new__» ⟨[.type "enumerate", v], []⟩) (fun _ R s => H s.heap ∧
      R (.ok (.ret (.ref (s.heap.push o).objs.size))) { s with heap := (s.heap.push o).push { cls := .type "enumerate", data := .fields #[.none, .bool false, .ref s.heap.objs.size, rawInt 0, .none, .none] } }) :=
  .of_wp fun prog w A R s h => by
    obtain ⟨hp, g, d, tk, os⟩ := s
    obtain ⟨h1, h2⟩ := h
    have sub := sub_enumerate
    have it1 : ∀ {A' : Around} {E : Value → Shared → Prop} {Q : Value → Shared → Prop}, Q (.ref hp.objs.size) ⟨hp.push o, g, d, tk, os⟩ → wpAny (model prog w) A' (pyIter v) Q E ⟨hp, g, d, tk, os⟩ :=
      fun q => B.iter prog w _ _ ⟨hp, g, d, tk, os⟩ _ h1 q
    wp_walk using it1
    apply wpAny_stack_any
    intro st
    apply wpAny_pure
    split
    · rename_i c _ _ _ _ _
      cases (c == Value.type "enumerate")
      all_goals
        wp_walk using it1
        exact ⟨_, rfl, h2⟩
    · wp_walk using it1
      exact ⟨_, rfl, h2⟩
section
variable {prog : Program} {w : World} {A : Around} {E : Value → Shared → Prop} {s : Shared}
theorem enum_call1 {v : Value} {o : Obj} {H : Heap → Prop} {Q : Value → Shared → Prop} (B : Begins v o H) (h1 : H s.heap)
    (h : ∀ h', IsEnum h' (s.heap.objs.size + 1) s.heap.objs.size 0 .none → h'.get? s.heap.objs.size = some o → (∀ b o, s.heap.get? b = some o → h'.get? b = some o) → Q (.ref (s.heap.objs.size + 1)) { s with heap := h' }) :
    wpAny (model prog w) A (call (.type "enumerate") [v]) Q E s := by
  have z : (s.heap.push o).objs.size = s.heap.objs.size + 1 := Heap.size_push ..
  have en := Heap.get?_push_size (s.heap.push o) (o := { cls := .type "enumerate", data := .fields #[.none, .bool false, .ref s.heap.objs.size, rawInt 0, .none, .none] }) rfl
  rw [z] at en
  refine callType_new F.called_enumerate (by decide) (F.typeCall_enumerate_1 _) (F.newCall_enumerate_1 _) (fun obj => F.args_object_init_2 obj _) F.entry_enumerate_new (enum_new1 B) ⟨h1, ?_⟩
  show _ ∧ _
  rw [z]
  exact ⟨⟨_, en, rfl⟩, h _ en (Heap.get?_push_of_some _ (Heap.get?_push_size _ B.free)) fun b o x => Heap.get?_push_of_some _ (Heap.get?_push_of_some _ x)⟩
end
/-- the tuple at a as it stands at each turn, the items in new pairs -/
def IteT (K : PySem.W.Frag) (a : Addr) : It :=
  ⟨fun i H => ∃ xs x, SqT K H a xs ∧ xs[i]? = some x, fun i H v H' => ∃ T x, v = .ref T ∧ H T = none ∧ H' = upd H T (.tup [.int (i : Nat), x]) ∧ ∀ xs, SqT K H a xs → xs[i]? = some x,
    fun i H => ∃ xs, SqT K H a xs ∧ xs.length = i⟩
theorem turn_enumT {P : Program} {w : World} {K : PySem.W.Frag} {elts : List Expr} {kk : Nat} {tpos : Pos} {a e it : Addr} (hae : a ≠ e) (hai : a ≠ it) (hne : e ≠ it) :
    Turn P w K (.Tuple elts kk tpos) (IteT K a) [e, it] e (fun i h => (∃ old, IsEnum h e it ((i : Nat) : Int) old) ∧ h.IsTupleIter it a i) where
  mem := List.mem_cons_self
  obj := fun i h st b hb => by
    obtain ⟨⟨old, he⟩, o, ho, hc, hd⟩ := st
    rcases List.mem_cons.mp hb with rfl | hb
    · exact ⟨_, he, fun v q => by cases q⟩
    · have eb := List.mem_singleton.mp hb
      subst eb
      exact ⟨o, ho, fun v q => by rw [hd] at q; cases q⟩
  keep := fun i h h' st k => by
    obtain ⟨⟨old, he⟩, o, ho, hc, hd⟩ := st
    exact ⟨⟨old, k e List.mem_cons_self _ he⟩, o, k it (List.mem_cons_of_mem _ List.mem_cons_self) _ ho, hc, hd⟩
  item := by
    intro X hP hw hK hc i pins s σ H E I hf st hg
    subst hP hw hK
    obtain ⟨⟨old, he⟩, hit⟩ := st
    obtain ⟨xs, x, hq, hx⟩ := hg
    obtain ⟨its, rv, p, hz⟩ := I.tuple hq
    obtain ⟨u, hu, ru⟩ := rv.get hx
    have le : e < s.heap.objs.size := Heap.lt_size he
    have li : it < s.heap.objs.size := let ⟨_, q, _⟩ := hit; Heap.lt_size q
    have hlt : i < its.toArray.size := by
      have := (List.getElem?_eq_some_iff.mp hu).1
      simpa using this
    have D := Draws.tuple (prog := X.prog) (w := X.w) (A := X.A.in1) (I.ok.hd hc) it a hai its.toArray
    have hp : s.heap.IsTuple a its.toArray := p
    have nin : e ∉ [it, a] := fun z => by
      rcases List.mem_cons.mp z with z | z
      · exact hne z
      · exact hae (List.mem_singleton.mp z).symm
    apply wpAny_pyNext_enum_itemC D he ⟨hit, hp⟩ hlt hne nin
    intro y h' tk hy ho st' hT hsz hk
    have ey : y = u := by
      have q : its.toArray[i]? = some y := hy
      have q2 : its.toArray[i]? = some u := by simpa using hu
      rw [q2] at q
      exact (Option.some.inj q).symm
    subst ey
    refine ⟨_, rfl, wpAny_letOwnedTupleGo_enum (s := { s with heap := h', toks := tk + 1 }) ho fun h2 he2 sb => ?_⟩
    have hT2 : h2.get? s.heap.objs.size = some { cls := .type "tuple", data := .seq #[.int i tk, y] } := (sb.2 _ (Nat.ne_of_gt le)).trans hT
    have new : ObjOk X.prog X.w (upd H s.heap.objs.size (.tup [.int (i : Nat), x])) h2 s.heap.objs.size (.tup [.int (i : Nat), x]) :=
      ⟨by show 2 ≤ sizeLine; decide, [.int i tk, y], .cons ⟨_, rfl⟩ (.cons ru .nil), _, hT2, rfl, _, rfl⟩
    have keep : ∀ b ob, b ∉ [e, it] → s.heap.get? b = some ob → h2.get? b = some ob := fun b ob hb q => by
      have n1 : b ≠ e := fun z => hb (by simp [z])
      have n2 : b ≠ it := fun z => hb (by simp [z])
      exact (sb.2 b n1).trans (hk b ob n1 n2 q)
    have I1 : Inv X pins σ (upd H s.heap.objs.size (.tup [.int (i : Nat), x])) { s with heap := h2, toks := tk + 1 } := I.turnedNew (ch := [e, it]) keep hf (Nat.le_refl _) new
    refine ⟨.ref s.heap.objs.size, _, I1, rfl, ⟨_, x, rfl, I.hok.fresh (Nat.le_refl _), rfl, fun ys hy => by rw [I.tuple_inj hy hq]; exact hx⟩, ⟨⟨y, ?_⟩, ?_⟩, fun b hb => ?_⟩
    · have e1 : ((i + 1 : Nat) : Int) = (i : Int) + 1 := by omega
      rw [e1]
      exact he2
    · obtain ⟨o, q1, q2, q3⟩ := st'.1
      exact ⟨o, (sb.2 it hne.symm).trans q1, q2, q3⟩
    · have hb' : b < s.heap.objs.size := by
        rcases List.mem_cons.mp hb with z | z
        · rw [z]; exact le
        · rw [List.mem_singleton.mp z]; exact li
      rw [upd_ne (Nat.ne_of_lt hb')]
      exact (hf b hb).1
  done := by
    intro X hP hw hK hc i pins s σ H E I hf st hg
    subst hP hw hK
    obtain ⟨⟨old, he⟩, hit⟩ := st
    obtain ⟨xs, hq, hx⟩ := hg
    obtain ⟨its, rv, p, hz⟩ := I.tuple hq
    have hl := rv.length
    have D := Draws.tuple (prog := X.prog) (w := X.w) (A := X.A.in1) (I.ok.hd hc) it a hai its.toArray
    have hp : s.heap.IsTuple a its.toArray := p
    have ei : i = its.toArray.size := by
      rw [List.size_toArray, ← hl]
      exact hx.symm
    obtain ⟨f0, f1, f2, f3, f4, f5⟩ := hf it (by simp)
    exact wpAny_pyNext_enum_endD D he (by rw [← ei]; exact ⟨hit, hp⟩) fun h' eb => ⟨rfl, I.turned (t' := s.toks) (fun b o hb q => eb b o hb q) f0 f1 f3 f4 f5⟩
  self := fun A i s Q E st h => let ⟨⟨_, he⟩, _⟩ := st; wpAny_pyIter_enum he h
def iEnumT (K : PySem.W.Frag) (ta : TA) : TI := fun σ H R => ta σ H fun vs H1 => ∃ a xs, vs = [.ref a] ∧ SqT K H1 a xs ∧ R (IteT K a) H1
theorem pi_enumT {X : Cx} {e : Expr} {ta : TA} {p pos tpos : Pos} {elts : List Expr} {kk : Nat} (hg : Gl X "enumerate") (hm : X.mg "enumerate" = none) (ha : PA X [e] ta) (hs : starEach [e] X.env = [(false, eval e X.env)] := by rfl) :
    PI X (.Tuple elts kk tpos) (.Call (.Name "enumerate" p) [e] [] pos) (iEnumT X.K ta) := by
  constructor
  intro pins s σ H R I h
  refine Call_ (ld_blt I hg hm boot_enumerate (PyProof.Rows.callWith_type1 (thn (ha.run pos pins s σ H _ I h) ?_) hs rfl))
  rintro us s1 ⟨vs, H1, I1, r1, a, xs, rfl, hq, q⟩
  obtain ⟨u, rfl, ru⟩ := vals1 r1
  cases ru
  obtain ⟨its, rv, p', hz⟩ := I1.tuple hq
  have hp : s1.heap.IsTuple a its.toArray := p'
  have la : a < s1.heap.objs.size := p'.lt
  refine enum_call1 (begins_tuple a its.toArray) hp fun h' he ho hk => wpAny_pyIter_enum he ?_
  have I2 : Inv X pins σ H1 { s1 with heap := h' } := I1.kept (t' := s1.toks) hk
  have n0 : a ≠ s1.heap.objs.size := Nat.ne_of_lt la
  have n1 : a ≠ s1.heap.objs.size + 1 := Nat.ne_of_lt (Nat.lt_succ_of_lt la)
  refine ⟨s1.heap.objs.size + 1, [s1.heap.objs.size + 1, s1.heap.objs.size], _, _, H1, rfl, I2, turn_enumT n1 n0 (Nat.succ_ne_self _), ⟨⟨.none, he⟩, _, ho, rfl, rfl⟩, fun b hb => ?_, q⟩
  have hle : s1.heap.objs.size ≤ b := by
    rcases List.mem_cons.mp hb with z | z
    · rw [z]; exact Nat.le_succ _
    · rw [List.mem_singleton.mp z]; exact Nat.le_refl _
  exact I1.fpOk hle (I1.hok.fresh hle)
theorem walk_enumT {K : PySem.W.Frag} {a : Addr} {xs : List V} : Walk (IteT K a) xs.length (fun H => SqT K H a xs) (YPair (fun i => some (.int (i : Nat))) (fun i => xs[i]?)) := by
  constructor
  · intro i H hi q
    exact ⟨xs, xs[i], q, List.getElem?_eq_getElem hi⟩
  · intro H q
    exact ⟨xs, q, rfl⟩
  · intro i H v H' _ q y
    obtain ⟨T, x, h1, h2, h3, h4⟩ := y
    exact ⟨T, .int (i : Nat), x, h1, h2, h3, rfl, h4 xs q⟩

/-! ### f(k = v, ..) -/
section
variable {X : Cx} {CX : CXT} {k : Nat} {f : Addr} {fd : FuncData} {ps ks : List Str} {sp : Sp} {E : XK} {x : Str} {p pos : Pos} {kws : List Keyword} {tk : TA} {g : List Value → List Value → List Value} {gV : List V → List V → List V}
def tCallK0 (m : Nat) (sp : Sp) (gV : List V → List V → List V) (E : XK) (tk : TA) : TE := fun σ H Q => tk σ H fun zs H2 => zs.length = m ∧ sp (gV [] zs) H2 Q E
theorem pe_callK0 (F : FnOk X.prog X.w X.K X.mg X.base CX k f fd ps sp) (hr : Room k X.A) (hg : Gl X x) (hm : X.mg x = some (.ref f)) (hk : PySem.W.keepIn X.K (.ref f) = true) (hb : KBn X.K fd ps 0 ks g gV) (hx : Passes CX X E) (hkw : PK X kws tk)
    (hall : (backToKw pos (keywordEach kws X.env)).all (·.1.isSome) = true := by rfl) (hks : (backToKw pos (keywordEach kws X.env)).filterMap (·.1) = ks := by rfl) (hdb : (x == ("__debug__" : Str)) = false := by decide)
    (hpl : ((backTo pos (starEach [] X.env)).any (·.1) || (backToKw pos (keywordEach kws X.env)).any (·.1.isNone)) = false := by rfl) :
    PE X (.Call (.Name x p) [] kws pos) (tCallK0 ks.length sp gV E tk) := by
  constructor
  intro pins s σ H Q I h
  apply wpAny_Call_Name_kw
  apply ld_glob I hg hm ?_ hdb
  apply PySem.W.callWith_KW0 (h₀ := X.base) I.ok.mod.kin hk hall ?_ hpl
  apply thn (hkw.run pos pins s σ H _ I h)
  rintro ws s2 ⟨zs, H2, I2, rz, l2, q2⟩
  refine ⟨I2.kIn, ?_⟩
  rw [hks]
  exact run_fnN (us := []) (vs := []) F hr hb hx I2 .nil rz rfl l2 q2
end

/-! ### len(set(t)), t a tuple of unlike ints -/
section
variable {X : Cx}
def tLenSetT (K : PySem.W.Frag) (ta : TE) : TE := fun σ H Q => ta σ H fun x H1 => ∃ (l : Addr) (ns : List Int), x = V.ref l ∧ SqT K H1 l (ns.map V.int) ∧ ns.length < 64 ∧ ns.Nodup ∧ Q (.int ns.length) H1
end
end KR

/-! ## KR4 -/
namespace KR
open PySem PySem.Spec PyProof.Rows L2

theorem nodup_sub {α : Type} [DecidableEq α] : ∀ (l d : List α), l.Nodup → (∀ x ∈ l, x ∈ d) → l.length ≤ d.length
  | [], _, _, _ => Nat.zero_le _
  | x :: l, d, hn, hs => by
    have hx : x ∈ d := hs x List.mem_cons_self
    obtain ⟨n1, n2⟩ := List.nodup_cons.mp hn
    have ih := nodup_sub l (d.erase x) n2 fun y hy => by
      have ne : y ≠ x := fun e => n1 (e ▸ hy)
      exact (List.mem_erase_of_ne ne).mpr (hs y (List.mem_cons_of_mem _ hy))
    rw [List.length_erase_of_mem hx] at ih
    have := List.length_pos_of_mem hx
    simp only [List.length_cons]
    omega
section
variable {X : Cx}
theorem pe_lenSetT {a : Expr} {ta : TE} {p p2 q pos : Pos} (hc : X.calm = true) (hg : Gl X "len") (hm : X.mg "len" = none) (hg2 : Gl X "set") (hm2 : X.mg "set" = none) (ha : PE X a ta)
    (na : starEach [a] X.env = (false, eval a X.env) :: starEach [] X.env := by rfl) : PE X (.Call (.Name "len" p) [.Call (.Name "set" p2) [a] [] q] [] pos) (tLenSetT X.K ta) := by
  constructor
  intro pins s σ H Q I h
  apply Call_ (ld_blt I hg hm PySem.boot_len ?_)
  apply PyProof.Rows.callWith_builtin1 (PyProof.Rows.args_cons ?_ rfl) rfl rfl
  apply Call_ (ld_blt I hg2 hm2 PyProof.Rows.boot_set ?_)
  refine PyProof.Rows.callWith_type1 (PyProof.Rows.args_cons (thn (ha.run pins s σ H _ I h) ?_) na) na rfl
  rintro v s1 ⟨x, H1, I1, r1, l, ns, rfl, hq, h1, hnd, q1⟩
  cases r1
  apply PyProof.Rows.args_nil
  obtain ⟨its, r, pt, hz⟩ := I1.tuple hq
  have hi : IntsAre its.toArray.toList ns := ints_of_vals r
  refine call_set_tupI ns (I1.ok.hd hc) (show s1.heap.IsTuple l its.toArray from pt) hi (by unfold scanBound; omega) fun h' tk c R1 hcn hk => ?_
  apply PyProof.Rows.args_nil
  obtain ⟨o, es, ep, t, ho, hex, hd, g, nd, mem, _, hf, hn, _, _⟩ := R1
  have I2 : Inv X pins σ H1 { s1 with heap := h', toks := tk } := I1.kept hk
  have ec : c = ns.length := by
    refine Nat.le_antisymm hcn ?_
    have := nodup_sub ns (es.toList.map keyOf) hnd fun k hk => (mem k).mp (decide_eq_true hk)
    simp only [List.length_map, Array.length_toList] at this
    exact hn ▸ this
  refine call_len_set ho hex hd hf (by rw [hn]; omega) ⟨.int ns.length, H1, I2.tok _, ⟨_, by rw [hn, ec]⟩, q1⟩
end

/-! ### defs that are called where no repr is under way -/
/-- as FnOk, of calls where no repr is under way -/
structure FnG (P : Program) (w : World) (K : PySem.W.Frag) (mg : Str → Option Value) (base : Heap) (CX : CXT) (k : Nat) (f : Addr) (fd : FuncData) (ps : List Str) (sp : Sp) : Prop where
  len : ∀ vs H Q E, sp vs H Q E → vs.length = ps.length
  run : ∀ (A : Around) (outer : List Env) (s : Shared) (H : Hp) (args : Args) (us : List Value) (vs : List V) (Q : VK) (E : XK), A.guards = some [] → Room k A → Env0 P w K mg base A outer s H → BindsTo s fd args (ps.zip us) → Vals vs us → sp vs H Q E →
    codeAny (model P w) A (.call (.ref f) args) (CR CX outer P w H s Q E) s
section
variable {CX : CXT} {P : Program} {w : World} {K : PySem.W.Frag} {mg : Str → Option Value} {base : Heap} {k : Nat} {f : Addr} {fd : FuncData} {ps : List Str} {sp : Sp}
theorem FnG.of (F : FnOk P w K mg base CX k f fd ps sp) : FnG P w K mg base CX k f fd ps sp := ⟨F.len, fun A outer s H args us vs Q E _ => F.run A outer s H args us vs Q E⟩
theorem fnG_of {x qual : Str} {params : Arguments} {body : List Stmt} {scope : Scope} {dvs : List V} {kws : List (Str × V)} {N : List Str} (F : FunD K x qual params body scope dvs kws f fd) (S : FnScope N ps scope)
    (len : ∀ vs H Q E, sp vs H Q E → vs.length = ps.length)
    (hbody : ∀ (cdv : Value) (A : Around) (outer : List Env) (s : Shared) (H : Hp) (vs : List V) (Q : VK) (E : XK), (A.deeper (envOfC qual scope s.heap.objs.size f cdv)).guards = some [] → Room k (A.deeper (envOfC qual scope s.heap.objs.size f cdv)) → sp vs H Q E →
      ∃ t, PSs (cxOf CX P w K mg base N qual scope f cdv A outer s H E) body t ∧ t { nx := fun _ H' => Q .non H', rt := Q } (start N vs) H) : FnG P w K mg base CX (k + 1) f fd ps sp := by
  obtain ⟨oc, od, dV, kV, doc, pm, an, cdv, ct, osl, rfl, lk, hcd, _, _⟩ := F.ex
  refine ⟨len, fun A outer s H args us vs Q E gd hr e0 hb r hsp => ?_⟩
  have below : ∀ b o, base.get? b = some o → s.heap.get? b = some o := fun b o e => (e0.bs b o e).1
  have KX := e0.mod.kin.keeps below
  have LX := e0.mod.nolimit.keeps below
  have kinds : ∀ y ∈ ps.zip us, scope.names.lookup y.1 = some .local ∨ (scope.names.lookup y.1 = some .cell ∧ ((cellsFrom (s.heap.objs.size + 1) scope.names []).lookup y.1).isSome = true) := by
    rintro ⟨n, v⟩ hy
    cases S.par n (List.of_mem_zip hy).1 with
    | inl q => exact Or.inl q
    | inr q => exact Or.inr ⟨q, PySem.W.cellsFrom_some _ _ _ (Or.inl q)⟩
  apply codeAny_call_function hr.depth (KX _ _ lk) rfl S.co S.gen rfl (PySem.W.codeRec_of KX hcd)
  apply hb
  apply wpAny_newFunctionEnv_cells S.kind kinds
  rintro env rfl s1 x
  refine ⟨LX.keeps x.toInCall.keep, codeAny_func ?_⟩
  obtain ⟨t, ht, hq⟩ := hbody cdv A outer s H vs Q E gd (hr.deeper _) hsp
  have I := inv_start (CX := CX) (cd := cdv) (E := E) S hr.hd e0 (len _ _ _ _ hsp) r x
  apply wpAny_mono (ht.run [] s1 (start N vs) H _ I hq) ?_ (fun _ _ z => z)
  rintro fl s' hs
  cases fl with
  | next =>
    obtain ⟨σ', H', J, q⟩ := hs
    exact ⟨.non, H', J.os, J.bare, J.base, J.hok, rfl, q⟩
  | ret u =>
    obtain ⟨v, σ', H', J, rv, q⟩ := hs
    exact ⟨v, H', J.os, J.bare, J.base, J.hok, rv, q⟩
  | brk =>
    obtain ⟨_, _, _, q⟩ := hs
    exact q.elim
  | cont =>
    obtain ⟨_, _, _, q⟩ := hs
    exact q.elim
end
section
variable {X : Cx} {CX : CXT} {k : Nat} {f : Addr} {fd : FuncData} {ps : List Str} {sp : Sp} {E : XK} {x : Str} {p pos : Pos} {e : Expr} {es : List Expr} {t : TA} {ds : List Value} {dvs : List V}
theorem pe_callG (F : FnG X.prog X.w X.K X.mg X.base CX k f fd ps sp) (gd : X.A.guards = some []) (hr : Room k X.A) (hg : Gl X x) (hm : X.mg x = some (.ref f)) (hk : PySem.W.keepIn X.K (.ref f) = true) (hb : Binds X.K fd ps ds) (hd : Vals dvs ds) (hx : Passes CX X E)
    (ha : PA X (e :: es) t) (hdb : (x == ("__debug__" : Str)) = false := by decide) (he : starEach (e :: es) X.env = (false, eval e X.env) :: starEach es X.env := by rfl) (hpl : (backTo pos (starEach es X.env)).any (·.1) = false := by rfl) :
    PE X (.Call (.Name x p) (e :: es) [] pos) (tCall sp dvs E t) := by
  constructor
  intro pins s σ H Q I h
  apply wpAny_Call_Name_kw
  apply ld_glob I hg hm ?_ hdb
  refine PySem.W.callWith_K (h₀ := X.base) I.ok.mod.kin hk (thn (ha.run pos pins s σ H _ I h) ?_) he hpl
  rintro us s1 ⟨vs, H1, I1, r, q⟩
  refine ⟨I1.kIn, ?_⟩
  have r2 := r.append hd
  have hl : (us ++ ds).length = ps.length := by
    rw [← r2.length]
    exact F.len _ _ _ _ q
  apply wpAny_call
  apply codeAny_mono (F.run X.A X.stack s1 H1 ⟨us, []⟩ (us ++ ds) (vs ++ dvs) Q E gd hr I1.env0 (hb s1 us I1.kIn hl) r2 q)
  rintro (er | fl) s' hq
  · exact hx pins σ H1 s1 er s' I1 hq
  · cases fl with
    | ret u => exact I1.after hq
    | next => exact hq.elim
    | brk => exact hq.elim
    | cont => exact hq.elim
end
/-! ### the law's own call, of a def that wants no repr under way -/
section
variable {P : Program} {w : World} {K : PySem.W.Frag} {mg mb : Str → Option Value} {k : Nat} {fa a : Addr} {fd : FuncData} {x : Str} {sp : Sp} {s₁ : Shared} {vs : List Value} {ns : List Int}
/-- from an abstract heap that tracks the script alone, or nothing -/
theorem call_at (H : Hp) (KX : K.In s₁.heap) (hns : s₁.heap.Ns mainGlobals mg) (hb : s₁.heap.Ns builtinsNs mb) (hbb : ∀ x : Str, x ≠ "__name__" → mb x = bootBuiltins x) (hlim : s₁.heap.NoLimit) (hg : s₁.gens = #[])
    (ha : s₁.heap.get? a = some { cls := .type "list", data := .seq vs.toArray }) (hr : Room k callerA) (F : ∀ base : Heap, K.In base → base.Ns mainGlobals mg → FnG P w K mg base CX0 k fa fd [x] sp)
    (hbind : ∀ (s : Shared) (u : Value), BindsTo s fd ⟨[u], []⟩ [(x, u)]) (hsp : sp [.ref a] H (fun v _ => v = .bl true) fun _ _ _ => False) (hO : Only H) (ok : HOk P w H s₁.heap) (hA : ∀ b, H b ≠ none → b = a) (hK : H a ≠ none → K.lookup a = none) :
    codeAny (model P w) callerA (.call (.ref fa) ⟨[.ref a], []⟩) (fun r s' => r = .ok (.ret (.bool true)) ∧ OldK s₁.heap s'.heap ∧ s'.os = s₁.os ∧ AllBare s'.gens) s₁ := by
  have keep : ∀ {b : Addr} {o : Obj}, s₁.heap.get? b = some o → H b = none → (hidT s₁.heap H).get? b = some o := fun e n => hidT_get e n
  have isA : ∀ {b : Addr} {u : HO}, H b = some u → b = a := fun {b u} q => hA b fun z => by
    rw [z] at q
    cases q
  have dicts : ∀ {b : Addr} {m : Str → Option Value}, s₁.heap.Ns b m → (hidT s₁.heap H).Ns b m := by
    rintro b m ⟨o, es, ep, e, d, r⟩
    refine ⟨o, es, ep, keep e ?_, d, r⟩
    cases q : H b with
    | none => rfl
    | some u =>
      have eb := isA q
      subst eb
      rw [ha] at e
      cases e
      cases (show Data.seq vs.toArray _ = Data.dict es ep from d)
  have written : K.In (hidT s₁.heap H) := fun b o e => keep (KX b o e) (by
    cases q : H b with
    | none => rfl
    | some u =>
      have eb := isA q
      subst eb
      have := hK (by rw [q]; exact nofun)
      rw [this] at e
      cases e)
  obtain ⟨mc, l1, l2⟩ := hlim
  have M : Mod K mg (hidT s₁.heap H) := { kin := written, glob := dicts hns, blt := ⟨mb, dicts hb, hbb⟩, nolimit := ⟨mc, dicts l1, l2⟩ }
  have e0 : Env0 P w K mg (hidT s₁.heap H) callerA [] s₁ H := { frames := rfl, mod := M, bs := fun b o e => of_hidT e, bsz := Nat.le_of_eq (hidT_size _ _), funs := trivial, frf := fun b hb => (absurd (show b ∈ ([] : List Addr) from hb) List.not_mem_nil), hok := ok, bare := .of_eq hg }
  apply codeAny_mono ((F _ written (dicts hns)).run callerA [] s₁ H ⟨[.ref a], []⟩ [.ref a] [.ref a] _ _ rfl hr e0 (hbind s₁ (.ref a)) (.cons rfl .nil) hsp)
  rintro (er | fl) s' h
  · exact h.elim
  · cases fl with
    | next => exact h.elim
    | brk => exact h.elim
    | cont => exact h.elim
    | ret u =>
      obtain ⟨v, H', os, bare, un, ok', rv, q⟩ := h
      have ev : v = .bl true := q
      subst ev
      have eu : u = Value.bool true := rv
      subst eu
      refine ⟨rfl, OldK.of_keep fun b o e => ?_, os, bare⟩
      cases qb : H b with
      | none => exact un.keep b o e qb (fun z => absurd (show b ∈ ([] : List Addr) from z) List.not_mem_nil) (fun z => absurd z List.not_mem_nil)
      | some t =>
        rcases hO b with z | ⟨ob, xs, z⟩
        · rw [z] at qb
          cases qb
        · have g1 := (ok b _ z).1
          have g2 := (ok' b _ (un.frzs b ob _ z)).1
          rw [e] at g1
          cases g1
          exact g2
theorem law_callG (KX : K.In s₁.heap) (hns : s₁.heap.Ns mainGlobals mg) (hb : s₁.heap.Ns builtinsNs mb) (hbb : ∀ x : Str, x ≠ "__name__" → mb x = bootBuiltins x) (hlim : s₁.heap.NoLimit) (hg : s₁.gens = #[])
    (ha : s₁.heap.get? a = some { cls := .type "list", data := .seq vs.toArray }) (hi : IntsAre vs ns) (hl : ns.length ≤ sizeLine) (hr : Room k callerA) (F : ∀ base : Heap, K.In base → base.Ns mainGlobals mg → FnG P w K mg base CX0 k fa fd [x] sp)
    (hbind : ∀ (s : Shared) (u : Value), BindsTo s fd ⟨[u], []⟩ [(x, u)]) (hsp : ∀ H : Hp, Only H → SqL K H a (ns.map V.int) → sp [.ref a] H (fun v _ => v = .bl true) fun _ _ _ => False) :
    codeAny (model P w) callerA (.call (.ref fa) ⟨[.ref a], []⟩) (fun r s' => r = .ok (.ret (.bool true)) ∧ OldK s₁.heap s'.heap ∧ s'.os = s₁.os ∧ AllBare s'.gens) s₁ := by
  have rv := vals_ints hi
  have lenV := hi.length
  cases hk : K.lookup a with
  | some o =>
    have e := KX a o hk
    rw [ha] at e
    cases e
    have sq : SqL K (fun _ => none) a (ns.map V.int) := Or.inr ⟨_, vs.toArray, _, hk, rfl, rfl, rfl, by rw [List.size_toArray, lenV]; exact hl, by simpa using rv⟩
    exact call_at (fun _ => none) KX hns hb hbb hlim hg ha hr F hbind (hsp _ (fun _ => Or.inl rfl) sq) (fun _ => Or.inl rfl) (fun b u z => nomatch (show (none : Option HO) = some u from z)) (fun b z => absurd rfl z) fun z => absurd rfl z
  | none =>
    have lens : (ns.map V.int).length ≤ sizeLine := by
      rw [List.length_map]
      exact hl
    have at_a : upd (fun _ => none) a (.frz { cls := .type "list", data := .seq vs.toArray } (.lst (ns.map V.int))) a = some (.frz { cls := .type "list", data := .seq vs.toArray } (.lst (ns.map V.int))) := upd_same
    have off : ∀ b, b ≠ a → upd (fun _ => none) a (.frz { cls := .type "list", data := .seq vs.toArray } (.lst (ns.map V.int))) b = none := fun b h => upd_ne h
    have only : Only (upd (fun _ => none) a (.frz { cls := .type "list", data := .seq vs.toArray } (.lst (ns.map V.int)))) := fun b => by
      by_cases hb : b = a
      · exact Or.inr ⟨_, _, by rw [hb]; exact at_a⟩
      · exact Or.inl (off b hb)
    refine call_at _ KX hns hb hbb hlim hg ha hr F hbind (hsp _ only (Or.inl (Or.inr ⟨_, at_a⟩))) only (fun b u z => ?_) (fun b z => ?_) fun _ => hk
    · by_cases hb : b = a
      · subst hb
        rw [at_a] at z
        cases z
        exact ⟨ha, lens, vs, _, rv, ha⟩
      · rw [off b hb] at z
        cases z
    · by_cases hb : b = a
      · exact hb
      · exact absurd (off b hb) z
end
theorem walk_G {l : PySem.W.OpenLaw} {n k : Nat} {q : Program} {loose : List Str} {XP : (Str → Option Value) → Heap → Prop} {YP : World → Heap → Prop} {d : DefRec} {x : Str} (hn : l.most = some n) (hn2 : n ≤ sizeLine) (hdf : d.params.defaults = []) (hr : Room k callerA)
    (F : ∀ (w : World) (mg : Str → Option Value) (fa : Addr) (h : Heap), YP w h → h.Ns mainGlobals mg → mg d.name = some (.ref fa) → ∃ (K : PySem.W.Frag) (fd : FuncData) (sp : Sp), K.In h ∧ (∀ (s : Shared) (u : Value), BindsTo s fd ⟨[u], []⟩ [(x, u)]) ∧
      (∀ (H : Hp) (a : Addr) (ns : List Int), ns.length ≤ n → Only H → SqL K H a (ns.map V.int) → sp [.ref a] H (fun v _ => v = .bl true) fun _ _ _ => False) ∧ ∀ base : Heap, K.In base → base.Ns mainGlobals mg → FnG l.prog w K mg base CX0 k fa fd [x] sp) :
    PySem.W.WalkO q loose XP YP l.row.toRowW d [] (fun f vs => PySem.call f vs) := by
  apply Att.attach_call hn hdf
  intro w s₀ s₁ mg mb fa o pm cd doc a vs ns G Y ho hd hcd hmg hobj hints hlen hg
  obtain ⟨K, fd, sp, KX, hb, hsp, hF⟩ := F w mg fa _ Y G.T.g hmg
  exact law_callG KX G.T.g G.T.b G.T.builtins G.T.nolimit hg hobj hints (Nat.le_trans hlen hn2) hr hF hb fun H hO hS => hsp H a ns hlen hO hS
end KR

/-! ## KL -/
/-! What stands in the heap; how defs are told and called. -/
namespace KL
open PySem PySem.Spec PyProof.Rows L2 KR KM

def top (i : Nat) : Stmt := PySem.Challenge.pw_lastpairs_k26_whole_two_partings.main.body.getD i (.Pass ⟨0, 0, 0, 0⟩)
/-- a def of the text under its name -/
structure DefAt (K : PySem.W.Frag) (mg : Str → Option Value) (x : Str) (i : Nat) : Prop where
  ex : ∃ f fd, FunD K x x (defArgs (top i)) (defBody (top i)) (defScope (top i)) [] [] f fd ∧ mg x = some (.ref f)
/-- a def that may be called by its name -/
structure Call (P : Program) (w : World) (K : PySem.W.Frag) (mg : Str → Option Value) (base : Heap) (k : Nat) (x : Str) (ps : List Str) (sp : Sp) : Prop where
  ex : ∃ f fd, FnOk P w K mg base CX0 k f fd ps sp ∧ mg x = some (.ref f) ∧ PySem.W.keepIn K (.ref f) = true ∧ Binds K fd ps [] ∧ ∃ oc od osl, K.lookup f = some ⟨oc, od, .func fd, osl⟩
structure CallG (P : Program) (w : World) (K : PySem.W.Frag) (mg : Str → Option Value) (base : Heap) (k : Nat) (x : Str) (ps : List Str) (sp : Sp) : Prop where
  ex : ∃ f fd, FnG P w K mg base CX0 k f fd ps sp ∧ mg x = some (.ref f) ∧ PySem.W.keepIn K (.ref f) = true ∧ Binds K fd ps [] ∧ ∃ oc od osl, K.lookup f = some ⟨oc, od, .func fd, osl⟩
abbrev BindsAll (x : Str) (i : Nat) (ps : List Str) : Prop := ∀ (kV doc pm : Value) (an : Option Addr) (cdv ct : Value) (us : List Value), us.length = ps.length →
  bindArgs (PySem.W.fnOf x x (defArgs (top i)) (defBody (top i)) (defScope (top i)) .none kV doc pm an cdv ct) ⟨us, []⟩ = pure (ps.zip us)
section
variable {P : Program} {w : World} {K : PySem.W.Frag} {mg : Str → Option Value} {base : Heap} {k : Nat} {x : Str} {i : Nat} {N ps : List Str} {sp : Sp}
theorem Call.mk' (D : DefAt K mg x i) (S : FnScope N ps (defScope (top i))) (hb : BindsAll x i ps) (len : ∀ vs H Q E, sp vs H Q E → vs.length = ps.length)
    (hbody : ∀ (f : Addr) (cdv : Value) (A : Around) (outer : List Env) (s : Shared) (H : Hp) (vs : List V) (Q : VK) (E : XK), Room k (A.deeper (envOfC x (defScope (top i)) s.heap.objs.size f cdv)) → sp vs H Q E →
      ∃ t, PSs (cxOf CX0 P w K mg base N x (defScope (top i)) f cdv A outer s H E).nox (defBody (top i)) t ∧ t { nx := fun _ H' => Q .non H', rt := Q } (start N vs) H) : Call P w K mg base (k + 1) x ps sp := by
  obtain ⟨f, fd, F, hm⟩ := D.ex
  have look : ∃ oc od osl, K.lookup f = some ⟨oc, od, .func fd, osl⟩ := by
    obtain ⟨oc, od, dV, kV, doc, pm, an, cdv, ct, osl, _, lk, _⟩ := F.ex
    exact ⟨oc, od, osl, lk⟩
  refine ⟨f, fd, F.ok S len fun cdv A outer s H vs Q E hr h => ?_, hm, F.kp, F.bindsN hb, look⟩
  obtain ⟨t, h1, h2⟩ := hbody f cdv A outer s H vs Q E hr h
  exact ⟨t, h1.nox, h2⟩
theorem CallG.mk' (D : DefAt K mg x i) (S : FnScope N ps (defScope (top i))) (hb : BindsAll x i ps) (len : ∀ vs H Q E, sp vs H Q E → vs.length = ps.length)
    (hbody : ∀ (f : Addr) (cdv : Value) (A : Around) (outer : List Env) (s : Shared) (H : Hp) (vs : List V) (Q : VK) (E : XK), (A.deeper (envOfC x (defScope (top i)) s.heap.objs.size f cdv)).guards = some [] → Room k (A.deeper (envOfC x (defScope (top i)) s.heap.objs.size f cdv)) → sp vs H Q E →
      ∃ t, PSs (cxOf CX0 P w K mg base N x (defScope (top i)) f cdv A outer s H E).nox (defBody (top i)) t ∧ t { nx := fun _ H' => Q .non H', rt := Q } (start N vs) H) : CallG P w K mg base (k + 1) x ps sp := by
  obtain ⟨f, fd, F, hm⟩ := D.ex
  have look : ∃ oc od osl, K.lookup f = some ⟨oc, od, .func fd, osl⟩ := by
    obtain ⟨oc, od, dV, kV, doc, pm, an, cdv, ct, osl, _, lk, _⟩ := F.ex
    exact ⟨oc, od, osl, lk⟩
  refine ⟨f, fd, fnG_of F S len fun cdv A outer s H vs Q E gd hr h => ?_, hm, F.kp, F.bindsN hb, look⟩
  obtain ⟨t, h1, h2⟩ := hbody f cdv A outer s H vs Q E gd hr h
  exact ⟨t, h1.nox, h2⟩
theorem Call.imp {sp' : Sp} (c : Call P w K mg base k x ps sp) (h : ∀ vs H Q E, sp' vs H Q E → sp vs H Q E) : Call P w K mg base k x ps sp' := by
  obtain ⟨f, fd, F, r⟩ := c.ex
  exact ⟨f, fd, F.imp h, r⟩
end
section
variable {X : Cx} {k j : Nat} {x : Str} {ps : List Str} {sp : Sp} {p pos : Pos} {e : Expr} {es : List Expr} {t : TA}
theorem pe_k (c : Call X.prog X.w X.K X.mg X.base k x ps sp) (hr : Room j X.A) (hk : k ≤ j := by decide) (hg : Gl X x := by rfl) (ha : PA X (e :: es) t)
    (hdb : (x == ("__debug__" : Str)) = false := by decide) (he : starEach (e :: es) X.env = (false, eval e X.env) :: starEach es X.env := by rfl) (hpl : (backTo pos (starEach es X.env)).any (·.1) = false := by rfl) :
    PE X (.Call (.Name x p) (e :: es) [] pos) (tCall sp [] E0 t) := by
  obtain ⟨f, fd, F, hm, kp, b, _⟩ := c.ex
  exact pe_call F (hr.mono hk) hg hm kp b .nil pass0 ha hdb he hpl
/-- called by keywords alone, which name the parameters from the last to the first -/
theorem pe_kk {i : Nat} {kws : List Keyword} {tk : TA} (c : Call X.prog X.w X.K X.mg X.base k x ps sp) (D : DefAt X.K X.mg x i) (hr : Room j X.A) (hk : k ≤ j := by decide) (hg : Gl X x := by rfl) (ks : List Str)
    (hb : ∀ (kV doc pm : Value) (an : Option Addr) (cdv ct : Value) (ws : List Value), ws.length = ks.length → bindArgs (PySem.W.fnOf x x (defArgs (top i)) (defBody (top i)) (defScope (top i)) .none kV doc pm an cdv ct) ⟨[], ks.zip ws⟩ = pure (ps.zip ws.reverse))
    (hkw : PK X kws tk) (hall : (backToKw pos (keywordEach kws X.env)).all (·.1.isSome) = true := by rfl) (hks : (backToKw pos (keywordEach kws X.env)).filterMap (·.1) = ks := by rfl)
    (hdb : (x == ("__debug__" : Str)) = false := by decide) (hpl : ((backTo pos (starEach [] X.env)).any (·.1) || (backToKw pos (keywordEach kws X.env)).any (·.1.isNone)) = false := by rfl) :
    PE X (.Call (.Name x p) [] kws pos) (tCallK0 ks.length sp (fun _ zs => zs.reverse) E0 tk) := by
  obtain ⟨f, fd, F, hm, kp, _, oc, od, osl, lk⟩ := c.ex
  obtain ⟨f', fd', F', hm'⟩ := D.ex
  have ef : f' = f := by
    rw [hm] at hm'
    injection hm' with z
    injection z with z
    exact z.symm
  subst ef
  have KB : KBn X.K fd ps 0 ks (fun _ ws => ws.reverse) (fun _ zs => zs.reverse) := by
    obtain ⟨oc', od', dV, kV, doc, pm, an, cdv, ct, osl', rfl, lk', hcd, hD, hK⟩ := F'.ex
    rw [lk] at lk'
    injection lk' with z
    injection z with _ _ z _
    injection z with z
    subst z
    rcases hD with ⟨_, rfl⟩ | ⟨e, _⟩
    · exact ⟨fun s us ws _ l1 l2 => by
        have : us = [] := List.eq_nil_of_length_eq_zero l1
        subst this
        exact .of_eq (hb kV doc pm an cdv ct ws l2), fun _ r => r.reverse⟩
    · exact absurd rfl e
  exact pe_callK0 F (hr.mono hk) hg hm kp KB pass0 hkw hall hks hdb hpl
theorem pe_kG (c : CallG X.prog X.w X.K X.mg X.base k x ps sp) (gd : X.A.guards = some []) (hr : Room j X.A) (hk : k ≤ j := by decide) (hg : Gl X x := by rfl) (ha : PA X (e :: es) t)
    (hdb : (x == ("__debug__" : Str)) = false := by decide) (he : starEach (e :: es) X.env = (false, eval e X.env) :: starEach es X.env := by rfl) (hpl : (backTo pos (starEach es X.env)).any (·.1) = false := by rfl) :
    PE X (.Call (.Name x p) (e :: es) [] pos) (tCall sp [] E0 t) := by
  obtain ⟨f, fd, F, hm, kp, b, _⟩ := c.ex
  exact pe_callG F gd (hr.mono hk) hg hm kp b .nil pass0 ha hdb he hpl
end

/-! ### numbers, rows, lists of rows -/
def natV (n : Nat) : V := .int (n : Int)
def rowV (l : List Nat) : List V := l.map natV
theorem rowV_len (l : List Nat) : (rowV l).length = l.length := List.length_map _
theorem rowV_get {l : List Nat} {i : Nat} (h : i < l.length) : (rowV l)[i]? = some (natV (l.getD i 0)) := by
  unfold rowV
  rw [List.getElem?_map, List.getElem?_eq_getElem h, getD_of_lt h]
  rfl
theorem rowV_inv {l : List Nat} {i : Nat} {v : V} (h : (rowV l)[i]? = some v) : i < l.length ∧ v = natV (l.getD i 0) := by
  have hl := (List.getElem?_eq_some_iff.mp h).1
  rw [rowV_len] at hl
  rw [rowV_get hl] at h
  exact ⟨hl, (Option.some.inj h).symm⟩
theorem flat_rowV (l : List Nat) : (rowV l).all flatV = true := by
  rw [List.all_eq_true]
  intro v hv
  obtain ⟨n, _, rfl⟩ := List.mem_map.mp hv
  rfl
theorem atI_row {l : List Nat} {i : Nat} (h : i < l.length) : atI (rowV l) (i : Int) = some (natV (l.getD i 0)) := atI_nat (rowV_get h)
/-- a list or a tuple -/
def SqA (K : PySem.W.Frag) (H : Hp) (a : Addr) (xs : List V) : Prop := SqL K H a xs ∨ SqT K H a xs
theorem SqA.same {K : PySem.W.Frag} {H H' : Hp} {a : Addr} {xs : List V} (h : SqA K H a xs) (s : Same H H') : SqA K H' a xs := by
  rcases h with h | h
  · exact Or.inl (s.seq h)
  · exact Or.inr (same_sqT s h)
abbrev Row (H : Hp) (p : Addr) (l : List Nat) : Prop := TpZ H p (rowV l)
/-- these stand for those -/
abbrev All2 {α : Type} (R : Addr → α → Prop) (qs : List Addr) (ls : List α) : Prop := Paired R qs ls
theorem all2_get {α : Type} {R : Addr → α → Prop} : ∀ {qs : List Addr} {ls : List α} {i : Nat} {l : α}, All2 R qs ls → ls[i]? = some l → ∃ q, qs[i]? = some q ∧ R q l
  | _, _, 0, _, .cons r _, e => by
    cases e
    exact ⟨_, rfl, r⟩
  | _, _, i + 1, l, .cons _ t, e => by
    obtain ⟨q, h1, h2⟩ := all2_get (i := i) (l := l) t (by simpa using e)
    exact ⟨q, by simpa using h1, h2⟩
  | _, _, _, _, .nil, e => by simp at e
theorem all2_getQ {α : Type} {R : Addr → α → Prop} : ∀ {qs : List Addr} {ls : List α} {i : Nat} {q : Addr}, All2 R qs ls → qs[i]? = some q → ∃ l, ls[i]? = some l ∧ R q l
  | _, _, 0, _, .cons r _, e => by
    cases e
    exact ⟨_, rfl, r⟩
  | _, _, i + 1, q, .cons _ t, e => by
    obtain ⟨l, h1, h2⟩ := all2_getQ (i := i) (q := q) t (by simpa using e)
    exact ⟨l, by simpa using h1, h2⟩
  | _, _, _, _, .nil, e => by simp at e
theorem all2_len {α : Type} {R : Addr → α → Prop} : ∀ {qs : List Addr} {ls : List α}, All2 R qs ls → qs.length = ls.length
  | _, _, .nil => rfl
  | _, _, .cons _ t => by
    simp only [List.length_cons, all2_len t]
theorem all2_imp {α : Type} {R S : Addr → α → Prop} (h : ∀ q l, R q l → S q l) : ∀ {qs : List Addr} {ls : List α}, All2 R qs ls → All2 S qs ls
  | _, _, .nil => .nil
  | _, _, .cons r t => .cons (h _ _ r) (all2_imp h t)
theorem all2_app {α : Type} {R : Addr → α → Prop} : ∀ {qs rs : List Addr} {ls ms : List α}, All2 R qs ls → All2 R rs ms → All2 R (qs ++ rs) (ls ++ ms)
  | _, _, _, _, .nil, s => s
  | _, _, _, _, .cons r t, s => .cons r (all2_app t s)
theorem all2_one {α : Type} {R : Addr → α → Prop} {q : Addr} {l : α} (h : R q l) : All2 R [q] [l] := .cons h .nil
/-- at a a list or tuple of rows -/
def Rows (K : PySem.W.Frag) (H : Hp) (a : Addr) (ls : List (List Nat)) : Prop := ∃ qs : List Addr, SqA K H a (qs.map V.ref) ∧ All2 (Row H) qs ls
theorem Rows.same {K : PySem.W.Frag} {H H' : Hp} {a : Addr} {ls : List (List Nat)} (h : Rows K H a ls) (s : Same H H') : Rows K H' a ls := by
  obtain ⟨qs, h1, h2⟩ := h
  exact ⟨qs, h1.same s, all2_imp (fun q l r => TpZ.same r s) h2⟩
theorem Rows.at_ {K : PySem.W.Frag} {H : Hp} {a : Addr} {ls : List (List Nat)} (h : Rows K H a ls) {i : Nat} (hi : i < ls.length) : ∃ (xs : List V) (q : Addr), SqA K H a xs ∧ atI xs (i : Int) = some (.ref q) ∧ Row H q (lst ls i) := by
  obtain ⟨qs, h1, h2⟩ := h
  have e : ls[i]? = some (lst ls i) := by
    rw [List.getElem?_eq_getElem hi]
    unfold lst
    rw [List.getD_eq_getElem?_getD, List.getElem?_eq_getElem hi]
    rfl
  obtain ⟨q, g1, g2⟩ := all2_get h2 e
  exact ⟨_, q, h1, atI_nat (by rw [List.getElem?_map, g1]; rfl), g2⟩
theorem Rows.len {K : PySem.W.Frag} {H : Hp} {a : Addr} {ls : List (List Nat)} (h : Rows K H a ls) : ∃ xs : List V, SqA K H a xs ∧ xs.length = ls.length := by
  obtain ⟨qs, h1, h2⟩ := h
  exact ⟨_, h1, by rw [List.length_map, all2_len h2]⟩
section
variable {X : Cx}
/-- a[i], a a list or a tuple -/
def rIxA (K : PySem.W.Frag) : R2 := fun x y H Q => ∃ p xs i v, x = .ref p ∧ y = .int i ∧ SqA K H p xs ∧ atI xs i = some v ∧ Q v H
theorem ix_any : IxR X (rIxA X.K) := by
  intro value slice pins s σ H x y v u Q I rx ry h hs
  obtain ⟨p, xs, i, z, e1, e2, hq, hi, q⟩ := h
  refine ix_seq value slice pins s σ H x y v u Q I rx ry ?_ hs
  rcases hq with hq | hq
  · exact Or.inl ⟨p, xs, i, z, e1, e2, hq, hi, q⟩
  · exact Or.inr (Or.inl ⟨p, xs, i, z, e1, e2, hq, hi, q⟩)
/-- len(a) -/
def rLenA (K : PySem.W.Frag) : List V → Hp → VK → Prop := fun xs H Q => ∃ p ys, xs = [.ref p] ∧ SqA K H p ys ∧ Q (.int ys.length) H
theorem cr_lenA : CallR X (.builtin "len") (rLenA X.K) := call_len_seq
end
end KL

/-! ## KD1 -/
namespace KL
open PySem PySem.Spec PyProof.Rows L2 KR KM
/-- names of built-ins, untouched -/
structure Tx (mg : Str → Option Value) : Prop where
  len : mg "len" = none
  range : mg "range" = none
  list : mg "list" = none
  int : mg "int" = none
  tuple : mg "tuple" = none
  sorted : mg "sorted" = none
  set : mg "set" = none
  min : mg "min" = none
  max : mg "max" = none
  enum : mg "enumerate" = none
  isin : mg "isinstance" = none
  all : mg "all" = none
  repr : mg "repr" = none
  abs : mg "abs" = none
/-- the class of wishes -/
structure Wc (K : PySem.W.Frag) (C : Addr) : Prop where
  cl : Cls K C
  nN : NoAttr K C "names"
  nL : NoAttr K C "lists"
/-- wishes with these lists stand at p -/
def WAt (K : PySem.W.Frag) (C : Addr) (H : Hp) (p : Addr) (ls : List (List Nat)) : Prop := ∃ dx fs a, H p = some (.ins C dx fs) ∧ fs.lookup ("lists" : Str) = some (.ref a) ∧ Rows K H a ls
theorem WAt.same {K : PySem.W.Frag} {C : Addr} {H H' : Hp} {p : Addr} {ls : List (List Nat)} (h : WAt K C H p ls) (s : Same H H') : WAt K C H' p ls := by
  obtain ⟨dx, fs, a, h1, h2, h3⟩ := h
  exact ⟨dx, fs, a, s _ _ h1, h2, h3.same s⟩
theorem eqV_nat (i j : Nat) : eqV (natV i) (natV j) = decide (i = j) := by
  show eqV (.int (i : Int)) (.int (j : Int)) = decide (i = j)
  unfold eqV
  by_cases h : i = j
  · subst h
    simp
  · have : ¬ ((i : Int) = (j : Int)) := by omega
    simp [h, this]
theorem natV_inj {i j : Nat} : natV i = natV j ↔ i = j := by
  unfold natV
  constructor
  · intro z
    injection z with z
    omega
  · intro z
    rw [z]
theorem ifb {b : Bool} {A B : Prop} (h1 : b = true → A) (h2 : b = false → B) : if b = true then A else B := by
  cases b with
  | true => exact iteT (h1 rfl)
  | false => exact iteF (h2 rfl)
theorem ifd {c : Prop} [Decidable c] {A B : Prop} (h1 : c → A) (h2 : ¬ c → B) : if decide c = true then A else B :=
  ifb (fun e => h1 (of_decide_eq_true e)) fun e => h2 (of_decide_eq_false e)
/-- the place of somebody in a row -/
theorem ne_of_lt_idxOf {l : List Nat} {j m : Nat} (hm : m < l.idxOf j) (h1 : m < l.length := by assumption) : l[m] ≠ j := by
  intro e
  have : l.idxOf j ≤ m := by
    clear hm
    induction l generalizing m with
    | nil => exact absurd h1 (Nat.not_lt_zero _)
    | cons a l ih =>
      rw [List.idxOf_cons]
      cases m with
      | zero =>
        have e : a = j := e
        simp [e]
      | succ m =>
        have e : l[m]'(Nat.lt_of_succ_lt_succ h1) = j := e
        have := ih (Nat.lt_of_succ_lt_succ h1) e
        by_cases q : (a == j) = true
        · rw [q]
          exact Nat.zero_le _
        · have q' : (a == j) = false := by simpa using q
          rw [q']
          show l.idxOf j + 1 ≤ m + 1
          omega
  omega
theorem idx_at {l : List Nat} {j : Nat} (h : j ∈ l) : ∃ z, (rowV l)[l.idxOf j]? = some z ∧ eqV z (natV j) = true ∧ ∀ (m : Nat) (z' : V), m < l.idxOf j → (rowV l)[m]? = some z' → eqV z' (natV j) = false := by
  have hl := List.idxOf_lt_length_of_mem h
  refine ⟨_, rowV_get hl, ?_, ?_⟩
  · rw [getD_of_lt hl, List.getElem_idxOf hl, eqV_nat]
    simp
  · intro m z' hm hz
    obtain ⟨h1, rfl⟩ := rowV_inv hz
    rw [eqV_nat, getD_of_lt h1]
    rw [decide_eq_false_iff_not]
    exact ne_of_lt_idxOf hm
section
variable {P : Program} {w : World} {K : PySem.W.Frag} {mg : Str → Option Value} {base : Heap}

/-! ### rank_in -/
def spRankIn (K : PySem.W.Frag) (C : Addr) : Sp := fun vs H Q _ => ∃ (p : Addr) (ls : List (List Nat)) (i j : Nat), vs = [.ref p, natV i, natV j] ∧ WAt K C H p ls ∧ i < ls.length ∧ (j = i ∨ j ∈ lst ls i) ∧ Q (natV (rnk ls i j)) H
theorem scRankIn : FnScope ["wishes", "person", "other", "row"] ["wishes", "person", "other"] (defScope (top 18)) := ⟨rfl, rfl, rfl, by decide +kernel, rfl, by decide +kernel, by decide +kernel⟩
theorem ok_rank_in (T : Tx mg) {C : Addr} (c : Wc K C) (D : DefAt K mg "rank_in" 18) : Call P w K mg base 1 "rank_in" ["wishes", "person", "other"] (spRankIn K C) := by
  refine Call.mk' D scRankIn (fun _ _ _ _ _ _ us hl => match us, hl with | [_, _, _], _ => rfl) (fun vs H Q E h => ?_) (fun f cdv A outer s H vs Q E hr h => ?_)
  · obtain ⟨p, ls, i, j, rfl, _⟩ := h
    rfl
  · obtain ⟨p, ls, i, j, rfl, ⟨dx, fs, a, hp, hf, hR⟩, hi, hj, hQ⟩ := h
    obtain ⟨xs, q, hxs, hat, hrow⟩ := hR.at_ hi
    refine ⟨_, pss_cons (ps_set (i := 3) scRankIn.nd rfl (.inl rfl) (pe_ix ix_any (pe_fld (pv 0) rfl) (pv 1) (fun _ _ => rfl)))
      (pss_one (ps_ret (pe_ifExp (pt_cmpR op_eq (pv 2) (pv 1) (nomark _)) (pe_callB cr_lenA (by rfl) T.len boot_len (pa_cons (pv 3) pa_nil)) (pe_tix (pv 3) (pv 2))))), ?_⟩
    refine ⟨_, rfl, p, C, dx, fs, _, rfl, hp, c.cl, c.nL, hf, _, rfl, a, xs, (i : Int), _, rfl, rfl, hxs, hat, ?_⟩
    refine ⟨_, rfl, _, rfl, rfl, _, rfl, ?_⟩
    refine ifd (fun e => ?_) (fun e => ?_)
    · have e := natV_inj.mp e
      subst e
      refine ⟨_, rfl, q, _, rfl, Or.inr hrow.sqT, ?_⟩
      rw [rowV_len, ← rnk_self ls j]
      exact hQ
    · have e : ¬ j = i := fun z => e (natV_inj.mpr z)
      have hm : j ∈ lst ls i := hj.resolve_left e
      obtain ⟨z, z1, z2, z3⟩ := idx_at hm
      refine ⟨_, rfl, q, _, rfl, hrow, _, rfl, hrow, rfl, flat_rowV _, _, z, z1, z2, z3, ?_⟩
      rw [rnk_ne e] at hQ
      exact hQ
end
end KL

/-! ## KD2 -/
namespace KL
open PySem PySem.Spec PyProof.Rows L2 KR KM
theorem same_upd {H H' : Hp} {D : Addr} {o : HO} (s : Same H H') (n : H D = none) : Same H (upd H' D o) := fun b u e => by
  rw [upd_ne (ne_of_none e n)]
  exact s b u e
theorem line60 {n : Nat} (h : n ≤ 1000) : n < sizeLine := small1000 h
/-- the numbers below its length, each once -/
structure Pm (p : List Nat) : Prop where
  nd : p.Nodup
  lt : ∀ x ∈ p, x < p.length
  mem : ∀ j, j < p.length → j ∈ p
  few : p.length ≤ 60
theorem Pm.nx {p : List Nat} (h : Pm p) {i : Nat} (hi : i < p.length) : p.getD i 0 < p.length := by
  rw [getD_of_lt hi]
  exact h.lt _ (List.getElem_mem hi)
theorem Pm.bf {p : List Nat} (h : Pm p) {i : Nat} (hi : i < p.length) : p.idxOf i < p.length := List.idxOf_lt_length_of_mem (h.mem i hi)
theorem pm_of {ls : List (List Nat)} {p : List Nat} (W : WF ls) (h : Par ls p) (few : ls.length ≤ 60) : Pm p where
  nd := h.nd
  lt := fun x hx => by
    obtain ⟨k, hk, rfl⟩ := List.getElem_of_mem hx
    have := h.lt W (i := k) (by rw [← h.len]; exact hk)
    rw [getD_of_lt hk] at this
    rw [h.len]
    exact this
  mem := fun j hj => h.mem W (by rw [← h.len]; exact hj)
  few := by rw [h.len]; exact few
def bef (p : List Nat) : List Nat := (List.range p.length).map fun j => p.idxOf j
theorem bef_len (p : List Nat) : (bef p).length = p.length := by simp [bef]
theorem bef_get {p : List Nat} {i : Nat} (h : i < p.length) : (bef p).getD i 0 = p.idxOf i := by
  rw [getD_of_lt (by rw [bef_len]; exact h)]
  simp [bef]
section
variable {P : Program} {w : World} {K : PySem.W.Frag} {mg : Str → Option Value} {base : Heap}

/-! ### _law_rank -/
def spRank (K : PySem.W.Frag) : Sp := fun vs H Q _ => ∃ (a : Addr) (ls : List (List Nat)) (i j : Nat), vs = [.ref a, natV i, natV j] ∧ Rows K H a ls ∧ i < ls.length ∧ (j = i ∨ j ∈ lst ls i) ∧ Q (natV (rnk ls i j)) H
theorem scRank : FnScope ["_law_lists_here", "_law_person", "_law_other"] ["_law_lists_here", "_law_person", "_law_other"] (defScope (top 32)) := ⟨rfl, rfl, rfl, by decide +kernel, rfl, by decide +kernel, by decide +kernel⟩
theorem ok_rank (T : Tx mg) (D : DefAt K mg "_law_rank" 32) : Call P w K mg base 1 "_law_rank" ["_law_lists_here", "_law_person", "_law_other"] (spRank K) := by
  refine Call.mk' D scRank (fun _ _ _ _ _ _ us hl => match us, hl with | [_, _, _], _ => rfl) (fun vs H Q E h => ?_) (fun f cdv A outer s H vs Q E hr h => ?_)
  · obtain ⟨p, ls, i, j, rfl, _⟩ := h
    rfl
  · obtain ⟨a, ls, i, j, rfl, hR, hi, hj, hQ⟩ := h
    obtain ⟨xs, q, hxs, hat, hrow⟩ := hR.at_ hi
    refine ⟨_, pss_one (ps_ret (pe_ifExp (pt_cmpR op_eq (pv 2) (pv 1) (nomark _)) (pe_callB cr_lenA (by rfl) T.len boot_len (pa_cons (pe_ix ix_any (pv 0) (pv 1) (fun _ _ => rfl)) pa_nil))
      (pe_tix (pe_ix ix_any (pv 0) (pv 1) (fun _ _ => rfl)) (pv 2)))), ?_⟩
    refine ⟨_, rfl, _, rfl, rfl, _, rfl, ?_⟩
    refine ifd (fun e => ?_) (fun e => ?_)
    · have e := natV_inj.mp e
      subst e
      refine ⟨_, rfl, _, rfl, a, xs, _, _, rfl, rfl, hxs, hat, q, _, rfl, Or.inr hrow.sqT, ?_⟩
      rw [rowV_len, ← rnk_self ls j]
      exact hQ
    · have e : ¬ j = i := fun z => e (natV_inj.mpr z)
      have hm : j ∈ lst ls i := hj.resolve_left e
      obtain ⟨z, z1, z2, z3⟩ := idx_at hm
      refine ⟨_, rfl, _, rfl, a, xs, _, _, rfl, rfl, hxs, hat, q, _, rfl, hrow, _, rfl, hrow, rfl, flat_rowV _, _, z, z1, z2, z3, ?_⟩
      rw [rnk_ne e] at hQ
      exact hQ

/-! ### _law_before -/
def spBefore (K : PySem.W.Frag) : Sp := fun vs H Q _ => ∃ (a : Addr) (p : List Nat), vs = [.ref a] ∧ (Row H a p ∨ SqL K H a (rowV p)) ∧ Pm p ∧ ∀ D H', H D = none → Same H H' → H' D = some (.lst (rowV (bef p))) → Q (.ref D) H'
theorem scBefore : FnScope ["_law_parting", "_law_person"] ["_law_parting"] (defScope (top 33)) := ⟨rfl, rfl, rfl, by decide +kernel, rfl, by decide +kernel, by decide +kernel⟩
theorem bef_take {p : List Nat} {i : Nat} (h : i < p.length) : (bef p).take (i + 1) = (bef p).take i ++ [p.idxOf i] := by
  have h1 : i < (bef p).length := by rw [bef_len]; exact h
  rw [List.take_succ_eq_append_getElem h1]
  congr 1
  simp [bef]
theorem ok_before (T : Tx mg) (D : DefAt K mg "_law_before" 33) : Call P w K mg base 1 "_law_before" ["_law_parting"] (spBefore K) := by
  refine Call.mk' D scBefore (fun _ _ _ _ _ _ us hl => match us, hl with | [_], _ => rfl) (fun vs H Q E h => ?_) (fun f cdv A outer s H vs Q E hr h => ?_)
  · obtain ⟨a, p, rfl, _⟩ := h
    rfl
  · obtain ⟨a, p, rfl, hp, m, hQ⟩ := h
    have few := m.few
    have bound : -(2 ^ 62) ≤ (p.length : Int) ∧ (p.length : Int) < 2 ^ 62 := ⟨by omega, by omega⟩
    have pvE : ∀ {D : Addr} (hD : H D = none) (Pv : Nat → Hp → Prop), Pv = (fun i H' => Same H H' ∧ H' D = some (.lst (rowV ((bef p).take i)))) → ∀ i H', i < p.length → Pv i H' →
        ∃ acc, H' D = some (.lst acc) ∧ acc.length < sizeLine ∧ Pv (i + 1) (upd H' D (.lst (acc ++ [.int (p.idxOf i : Nat)]))) := by
      rintro D hD Pv rfl i H' hi ⟨s, e⟩
      refine ⟨_, e, ?_, same_upd s hD, ?_⟩
      · rw [rowV_len, List.length_take]
        exact line60 (by omega)
      · rw [upd_same, bef_take hi]
        show some (HO.lst _) = some (HO.lst (List.map natV _))
        rw [List.map_append]
        rfl
    rcases hp with hp | hp
    · refine ⟨_, pss_one (ps_ret (pe_lc (own := [("_law_person", 1)]) (g := gName 1) (tt := tYes) rfl scBefore.nd (pi_range1 rfl T.range (pa_cons (pe_callB cr_lenA (by rfl) T.len boot_len (pa_cons (pv 0) pa_nil)) pa_nil))
        (blkOk_by (own := [("_law_person", 1)]) (N := ["_law_parting", "_law_person"]) (sc := defScope (top 33)) (by decide +kernel)) (fun _ _ _ _ _ => pg_name (i := 1) scBefore.nd rfl (Or.inl rfl)) (fun _ _ _ _ _ => pts_nil) (fun _ _ _ _ _ => pe_tix (pv 0) (pv 1)))), ?_⟩
      refine ⟨_, rfl, a, _, rfl, Or.inr hp.sqT, _, rfl, by rw [rowV_len]; exact bound.1, by rw [rowV_len]; exact bound.2, ?_⟩
      intro D hD
      refine lc_range (lo := 0) (fun i H' => Same H H' ∧ H' D = some (.lst (rowV ((bef p).take i)))) ⟨same_new hD, by rw [upd_same]; rfl⟩ ?_ ?_
      · intro i H' hi pvi
        have hi : i < p.length := by
          rw [rowV_len] at hi
          simpa using hi
        obtain ⟨z, z1, z2, z3⟩ := idx_at (m.mem i hi)
        have hp' := TpZ.same hp pvi.1
        refine ⟨rfl, _, rfl, a, _, rfl, hp', .int (0 + i), rfl, hp', rfl, flat_rowV _, _, z, z1, ?_, ?_, ?_⟩
        · rw [Int.zero_add]
          exact z2
        · rw [Int.zero_add]
          exact z3
        · exact pvE hD _ rfl i H' hi pvi
      · rintro H' ⟨s, e⟩
        refine hQ D H' hD s ?_
        rw [e]
        congr 3
        rw [List.take_of_length_le]
        rw [bef_len, rowV_len]
        simp
    · refine ⟨_, pss_one (ps_ret (pe_lc (own := [("_law_person", 1)]) (g := gName 1) (tt := tYes) (te := tBM K "list" (rIndex K) (tVar 0) (tCons (tVar 1) tNil)) rfl scBefore.nd (pi_range1 rfl T.range (pa_cons (pe_callB cr_lenA (by rfl) T.len boot_len (pa_cons (pv 0) pa_nil)) pa_nil))
        (blkOk_by (own := [("_law_person", 1)]) (N := ["_law_parting", "_law_person"]) (sc := defScope (top 33)) (by decide +kernel)) (fun _ _ _ _ _ => pg_name (i := 1) scBefore.nd rfl (Or.inl rfl)) (fun _ _ _ _ _ => pts_nil)
        (fun _ _ _ _ _ => pe_bm PySem.F.plainAttrs_list PySem.F.slot_list_index PySem.F.type_list_index mt_index (pv 0) (pa_cons (pv 1) pa_nil)))), ?_⟩
      refine ⟨_, rfl, a, _, rfl, Or.inl hp, _, rfl, by rw [rowV_len]; exact bound.1, by rw [rowV_len]; exact bound.2, ?_⟩
      intro D hD
      refine lc_range (lo := 0) (fun i H' => Same H H' ∧ H' D = some (.lst (rowV ((bef p).take i)))) ⟨same_new hD, by rw [upd_same]; rfl⟩ ?_ ?_
      · intro i H' hi pvi
        have hi : i < p.length := by
          rw [rowV_len] at hi
          simpa using hi
        obtain ⟨z, z1, z2, z3⟩ := idx_at (m.mem i hi)
        have hp' := pvi.1.seq hp
        refine ⟨rfl, _, rfl, Or.inl ⟨rfl, _, hp'⟩, .int (0 + i), rfl, a, _, .int (0 + i), _, z, rfl, rfl, hp', rfl, flat_rowV _, z1, ?_, ?_, ?_⟩
        · rw [Int.zero_add]
          exact z2
        · rw [Int.zero_add]
          exact z3
        · exact pvE hD _ rfl i H' hi pvi
      · rintro H' ⟨s, e⟩
        refine hQ D H' hD s ?_
        rw [e]
        congr 3
        rw [List.take_of_length_le]
        rw [bef_len, rowV_len]
        simp
end
end KL

/-! ## KD3 -/
namespace KM
def prsTo (p : List Nat) (n : Nat) : List (Nat × Nat) := ((List.range n).filter fun i => decide (p.getD i 0 ≠ i)).map fun i => (min i (p.getD i 0), max i (p.getD i 0))
abbrev prs (p : List Nat) : List (Nat × Nat) := prsTo p p.length
theorem prsTo_succ (p : List Nat) (n : Nat) : prsTo p (n + 1) = prsTo p n ++ (if p.getD n 0 ≠ n then [(min n (p.getD n 0), max n (p.getD n 0))] else []) := by
  unfold prsTo
  rw [List.range_succ, List.filter_append, List.map_append]
  congr 1
  by_cases h : p.getD n 0 = n
  · rw [List.filter_cons_of_neg (by simpa using h), if_neg (by simpa using h)]
    rfl
  · rw [List.filter_cons_of_pos (by simpa using h), if_pos (by simpa using h)]
    rfl
theorem prsTo_len (p : List Nat) (n : Nat) : (prsTo p n).length ≤ n := by
  unfold prsTo
  rw [List.length_map]
  exact Nat.le_trans (List.length_filter_le _ _) (by simp)
end KM
namespace KL
open PySem PySem.Spec PyProof.Rows L2 KR KM
theorem mem_prs {p : List Nat} (m : Pm p) (e : Nat × Nat) : e ∈ prs p ↔ e ∈ edges p := by
  obtain ⟨a, b⟩ := e
  rw [mem_edges]
  unfold prs prsTo
  simp only [List.mem_map, List.mem_filter, List.mem_range, decide_eq_true_eq, Prod.mk.injEq]
  constructor
  · rintro ⟨i, ⟨hi, hne⟩, rfl, rfl⟩
    have := m.nx hi
    rcases Nat.lt_or_ge i (p.getD i 0) with q | q
    · rw [Nat.min_eq_left (by omega), Nat.max_eq_right (by omega)]
      exact ⟨q, this, Or.inl rfl⟩
    · rw [Nat.min_eq_right (by omega), Nat.max_eq_left (by omega)]
      exact ⟨by omega, hi, Or.inr rfl⟩
  · rintro ⟨h1, h2, h3 | h3⟩
    · exact ⟨a, ⟨by omega, by omega⟩, by omega, by omega⟩
    · exact ⟨b, ⟨by omega, by omega⟩, by omega, by omega⟩
/-- pairs of numbers -/
abbrev Prs (H : Hp) (qs : List Addr) (es : List (Nat × Nat)) : Prop := All2 (fun q (e : Nat × Nat) => TpZ H q [natV e.1, natV e.2]) qs es
theorem Prs.same {H H' : Hp} {qs : List Addr} {es : List (Nat × Nat)} (h : Prs H qs es) (s : Same H H') : Prs H' qs es := all2_imp (fun _ _ r => TpZ.same r s) h
def rowI (e : Nat × Nat) : List Int := [(e.1 : Int), (e.2 : Int)]
theorem rowI_V (e : Nat × Nat) : (rowI e).map V.int = [natV e.1, natV e.2] := rfl
theorem rowI_inj {a b : Nat × Nat} (h : rowI a = rowI b) : a = b := by
  unfold rowI at h
  injection h with h1 h2
  injection h2 with h2 _
  exact Prod.ext (by omega) (by omega)
theorem prs_ks {H : Hp} : ∀ {qs : List Addr} {es : List (Nat × Nat)}, Prs H qs es → ∃ ks : List (Addr × (Nat × Nat)), ks.map (·.1) = qs ∧ ks.map (·.2) = es ∧ ∀ k ∈ ks, TpZ H k.1 [natV k.2.1, natV k.2.2]
  | _, _, .nil => ⟨[], rfl, rfl, fun k h => absurd h List.not_mem_nil⟩
  | _, _, .cons r t => by
    obtain ⟨ks, h1, h2, h3⟩ := prs_ks t
    refine ⟨(_, _) :: ks, by rw [List.map_cons, h1], by rw [List.map_cons, h2], fun k hk => ?_⟩
    rcases List.mem_cons.mp hk with rfl | hk
    · exact r
    · exact h3 k hk
theorem ks_prs {H : Hp} : ∀ {ks : List (Addr × (Nat × Nat))}, (∀ k ∈ ks, TpZ H k.1 [natV k.2.1, natV k.2.2]) → Prs H (ks.map (·.1)) (ks.map (·.2))
  | [], _ => .nil
  | k :: ks, h => .cons (h k List.mem_cons_self) (ks_prs fun k hk => h k (List.mem_cons_of_mem _ hk))
/-- sorted(set(pairs)) of a parting's pairs: its neighbours -/
theorem edges_read {K : PySem.W.Frag} {P : Program} {w : World} {H : Hp} {l : Addr} {qs : List Addr} {p : List Nat} {Q : VK} (h : H l = some (.lst (qs.map V.ref))) (hq : Prs H qs (prs p)) (m : Pm p)
    (hQ : ∀ D qs' H', Same H H' → H D = none → H' D = some (.lst (qs'.map V.ref)) → Prs H' qs' (edges p) → Q (.ref D) H') : rSetOfT K P w [V.ref l] H (fun x H2 => rSortedT K P w [x] H2 Q) := by
  obtain ⟨ks, k1, k2, k3⟩ := prs_ks hq
  have few := m.few
  have klen : ks.length ≤ 60 := by
    have h1 : (ks.map (·.2)).length = (prs p).length := by rw [k2]
    rw [List.length_map] at h1
    have h2 := prsTo_len p p.length
    rw [h1]
    exact Nat.le_trans h2 few
  refine ⟨l, ks.map fun k => (k.1, rowI k.2), rfl, ?_, ?_, ?_, ?_⟩
  · rw [List.map_map]
    have : (List.map ((fun p : Addr × List Int => V.ref p.1) ∘ fun k : Addr × (Nat × Nat) => (k.1, rowI k.2)) ks) = qs.map V.ref := by
      rw [← k1, List.map_map]
      rfl
    rw [this]
    exact SqL.of h
  · intro x hx
    obtain ⟨k, hk, rfl⟩ := List.mem_map.mp hx
    exact (k3 k hk).sqT
  · rw [List.length_map]
    omega
  · intro a L ha hL1 hL2
    have s1 : Same H (upd H a (SetTO P w a L)) := same_new ha
    have src : ∀ q ∈ L, ∃ k ∈ ks, q = (k.1, rowI k.2) := fun q hq => by
      obtain ⟨k, hk, e⟩ := List.mem_map.mp (hL1 q hq)
      exact ⟨k, hk, e.symm⟩
    have inE : ∀ k ∈ ks, k.2 ∈ edges p := fun k hk => (mem_prs m _).mp (by rw [← k2]; exact List.mem_map.mpr ⟨k, hk, rfl⟩)
    have small : ∀ k ∈ ks, k.2.1 < k.2.2 ∧ k.2.2 < p.length := fun k hk => by
      have := mem_edges.mp (show (k.2.1, k.2.2) ∈ edges p from inE k hk)
      exact ⟨this.1, this.2.1⟩
    have bdI : ∀ k ∈ ks, ((0 : Int) ≤ (k.2.1 : Int) ∧ (k.2.1 : Int) < 64) ∧ ((0 : Int) ≤ (k.2.2 : Int) ∧ (k.2.2 : Int) < 64) := fun k hk => by
      have := small k hk
      omega
    refine ⟨a, L, 2, 64, rfl, upd_same, ?_, by decide, ?_, ?_⟩
    · intro q hq
      obtain ⟨k, hk, rfl⟩ := src q hq
      exact same_sqT s1 (k3 k hk).sqT
    · intro q hq
      obtain ⟨k, hk, rfl⟩ := src q hq
      refine ⟨rfl, fun x hx => ?_⟩
      have := bdI k hk
      rcases List.mem_cons.mp hx with e | hx
      · rw [e]
        exact this.1
      · rw [List.mem_singleton.mp hx]
        exact this.2
    · intro L' D pm nd hfew pw hD
      have hD0 : H D = none := s1.free hD
      have src' : ∀ q ∈ L', ∃ k ∈ ks, q = (k.1, rowI k.2) := fun q hq => src q (pm.mem_iff.mp hq)
      -- back to pairs of numbers
      obtain ⟨ks', e1, e2⟩ : ∃ ks' : List (Addr × (Nat × Nat)), L' = ks'.map (fun k => (k.1, rowI k.2)) ∧ ∀ k ∈ ks', k ∈ ks := by
        clear pm nd pw hfew
        induction L' with
        | nil => exact ⟨[], rfl, fun k h => absurd h List.not_mem_nil⟩
        | cons q L' ih =>
          obtain ⟨ks', i1, i2⟩ := ih fun q hq => src' q (List.mem_cons_of_mem _ hq)
          obtain ⟨k, hk, e⟩ := src' q List.mem_cons_self
          refine ⟨k :: ks', by rw [List.map_cons, ← i1, e], fun x hx => ?_⟩
          rcases List.mem_cons.mp hx with rfl | hx
          · exact hk
          · exact i2 x hx
      have es : ks'.map (·.2) = edges p := by
        refine sorted_unique ?_ (edges_sorted p) fun e => ?_
        · rw [List.pairwise_map]
          have nd2 : (ks'.map fun k => rowI k.2).Nodup := by
            rw [e1, List.map_map] at nd
            exact nd
          rw [e1, List.pairwise_map] at pw
          rw [List.nodup_iff_pairwise_ne, List.pairwise_map] at nd2
          refine List.Pairwise.imp_of_mem (fun {a b} ha hb h => ?_) (List.pairwise_and_iff.mpr ⟨pw, nd2⟩)
          have b1 := bdI a (e2 a ha)
          have b2 := bdI b (e2 b hb)
          have := pair_lt h.1 h.2 b1.1 b1.2 b2.1 b2.2
          unfold lexP
          omega
        · constructor
          · intro he
            obtain ⟨k, hk, rfl⟩ := List.mem_map.mp he
            exact inE k (e2 k hk)
          · intro he
            have he := (mem_prs m e).mpr he
            rw [← k2] at he
            obtain ⟨k, hk, rfl⟩ := List.mem_map.mp he
            have := hL2 _ (List.mem_map.mpr ⟨k, hk, rfl⟩)
            have : rowI k.2 ∈ L'.map (·.2) := (pm.map (·.2)).mem_iff.mpr this
            rw [e1, List.map_map] at this
            obtain ⟨k', hk', ee⟩ := List.mem_map.mp this
            rw [← rowI_inj ee]
            exact List.mem_map.mpr ⟨k', hk', rfl⟩
      have s2 : Same H (upd (upd H a (SetTO P w a L)) D (.lst (L'.map fun q => V.ref q.1))) := same_then s1 hD
      refine hQ D (ks'.map (·.1)) _ s2 hD0 ?_ ?_
      · rw [upd_same, e1, List.map_map, List.map_map]
        rfl
      · rw [← es]
        exact (ks_prs fun k hk => k3 k (e2 k hk)).same s2
end KL

/-! ## KD4 -/
namespace KL
open PySem PySem.Spec PyProof.Rows L2 KR KM
theorem ifnd {c : Prop} [Decidable c] {A B : Prop} (h1 : ¬ c → A) (h2 : c → B) : if (!decide c) = true then A else B :=
  ifb (fun e => h1 (by simpa using e)) fun e => h2 (by simpa using e)
theorem min_nat (i j : Nat) : (if (j : Int) < (i : Int) then (j : Int) else (i : Int)) = ((min i j : Nat) : Int) := by
  by_cases h : (j : Int) < (i : Int)
  · rw [if_pos h, Nat.min_eq_right (by omega)]
  · rw [if_neg h, Nat.min_eq_left (by omega)]
theorem max_nat (i j : Nat) : (if (j : Int) > (i : Int) then (j : Int) else (i : Int)) = ((max i j : Nat) : Int) := by
  by_cases h : (j : Int) > (i : Int)
  · rw [if_pos h, Nat.max_eq_right (by omega)]
  · rw [if_neg h, Nat.max_eq_left (by omega)]
theorem prs_more {H H' : Hp} {qs : List Addr} {es : List (Nat × Nat)} {q : Addr} {a b : Nat} (h : Prs H qs es) (s : Same H H') (t : TpZ H' q [natV a, natV b]) : Prs H' (qs ++ [q]) (es ++ [(a, b)]) :=
  all2_app (h.same s) (all2_one (R := fun q (e : Nat × Nat) => TpZ H' q [natV e.1, natV e.2]) t)
section
variable {P : Program} {w : World} {K : PySem.W.Frag} {mg : Str → Option Value} {base : Heap}
/-- what the comprehension has made -/
def PvE (H : Hp) (D : Addr) (p : List Nat) (i : Nat) (H' : Hp) : Prop := Same H H' ∧ ∃ qs, H' D = some (.lst (qs.map V.ref)) ∧ Prs H' qs (prsTo p i)
theorem PvE.zero {H : Hp} {D : Addr} {p : List Nat} (hD : H D = none) : PvE H D p 0 (upd H D (.lst [])) := ⟨same_new hD, [], upd_same, .nil⟩
theorem PvE.skip {H : Hp} {D : Addr} {p : List Nat} {i : Nat} {H' H2 : Hp} (h : PvE H D p i H') (s : Same H' H2) (e : p.getD i 0 = i) : PvE H D p (i + 1) H2 := by
  obtain ⟨s0, qs, h1, h2⟩ := h
  refine ⟨s0.trans s, qs, s _ _ h1, ?_⟩
  rw [prsTo_succ, if_neg (by simpa using e), List.append_nil]
  exact h2.same s
theorem PvE.more {H : Hp} {D : Addr} {p : List Nat} {i : Nat} {H' H2 : Hp} {q : Addr} (h : PvE H D p i H') (few : i < 60) (hD : H D = none) (s : Same H' H2) (e : p.getD i 0 ≠ i) (t : TpZ H2 q [natV (min i (p.getD i 0)), natV (max i (p.getD i 0))]) :
    ∃ acc, H2 D = some (.lst acc) ∧ acc.length < sizeLine ∧ PvE H D p (i + 1) (upd H2 D (.lst (acc ++ [.ref q]))) := by
  obtain ⟨s0, qs, h1, h2⟩ := h
  have n1 : ∀ (b : Addr) (o : Obj) (xs : List V), H2 b = some (.frz o (.tup xs)) → b ≠ D := fun b o xs e1 e2 => by
    rw [e2, s _ _ h1] at e1
    cases e1
  refine ⟨_, s _ _ h1, ?_, same_upd (s0.trans s) hD, qs ++ [q], ?_, ?_⟩
  · rw [List.length_map, all2_len h2]
    have := prsTo_len p i
    exact line60 (by omega)
  · rw [upd_same, List.map_append]
    rfl
  · rw [prsTo_succ, if_pos e]
    have mv : ∀ {q : Addr} {xs : List V}, TpZ H2 q xs → TpZ (upd H2 D (.lst (qs.map V.ref ++ [.ref q]))) q xs := fun {q xs} ⟨o, d, z⟩ => ⟨o, d, by rw [upd_ne (n1 _ _ _ z)]; exact z⟩
    have mv2 : ∀ {r : Addr} {xs : List V} (u : HO), TpZ H2 r xs → TpZ (upd H2 D u) r xs := fun {r xs} u ⟨o, d, z⟩ => ⟨o, d, by rw [upd_ne (n1 _ _ _ z)]; exact z⟩
    exact all2_app (all2_imp (fun _ _ r => mv2 _ (TpZ.same r s)) h2) (all2_one (R := fun q (e : Nat × Nat) => TpZ _ q [natV e.1, natV e.2]) (mv2 _ t))

/-! ### edges_of -/
def spEdgesOf (K : PySem.W.Frag) : Sp := fun vs H Q _ => ∃ (a : Addr) (p : List Nat), vs = [.ref a] ∧ SqT K H a (rowV p) ∧ Pm p ∧ ∀ D qs' H', Same H H' → H D = none → TpZ H' D (qs'.map V.ref) → Prs H' qs' (edges p) → Q (.ref D) H'
theorem scEdgesOf : FnScope ["parting", "pairs", "i", "j"] ["parting"] (defScope (top 20)) := ⟨rfl, rfl, rfl, by decide +kernel, rfl, by decide +kernel, by decide +kernel⟩
theorem ok_edges_of (T : Tx mg) (D : DefAt K mg "edges_of" 20) : Call P w K mg base 1 "edges_of" ["parting"] (spEdgesOf K) := by
  refine Call.mk' D scEdgesOf (fun _ _ _ _ _ _ us hl => match us, hl with | [_], _ => rfl) (fun vs H Q E h => ?_) (fun f cdv A outer s H vs Q E hr h => ?_)
  · obtain ⟨a, p, rfl, _⟩ := h
    rfl
  · obtain ⟨a, p, rfl, hp, m, hQ⟩ := h
    have few := m.few
    refine ⟨_, pss_cons (ps_setLc (i := 1) (own := [("i", 2), ("j", 3)]) (g := gTup K 2 (gCons (gName 2) (gCons (gName 3) gNil))) rfl scEdgesOf.nd rfl rfl (sw_true rfl rfl rfl (by decide +kernel)) (pi_enumT rfl T.enum (pa_cons (pv 0) pa_nil))
        (blkOk_by (own := [("i", 2), ("j", 3)]) (N := ["parting", "pairs", "i", "j"]) (sc := defScope (top 20)) (by decide +kernel))
        (fun _ _ _ _ _ => pg_tup rfl (pgs_cons (pg_name (i := 2) scEdgesOf.nd rfl (Or.inl rfl)) (pgs_cons (pg_name (i := 3) scEdgesOf.nd rfl (Or.inl rfl)) pgs_nil)))
        (fun _ _ _ _ _ => pts_one (pt_cmpR op_ne (pv 2) (pv 3) (nomark _)))
        (fun _ _ _ _ _ => pe_tupZ (pa_cons (pe_callB (call_min2 rfl) (by rfl) T.min (by decide +kernel) (pa_cons (pv 2) (pa_cons (pv 3) pa_nil))) (pa_cons (pe_callB (call_max2 rfl) (by rfl) T.max (by decide +kernel) (pa_cons (pv 2) (pa_cons (pv 3) pa_nil))) pa_nil))))
      (pss_one (ps_ret (pe_callTy cr_tupL (by rfl) T.tuple (by decide +kernel) (pa_cons (pe_callB (cr_sortedT rfl) (by rfl) T.sorted (by decide +kernel) (pa_cons (pe_callTy (cr_setOfT rfl hr.units) (by rfl) T.set (by decide +kernel) (pa_cons (pv 1) pa_nil)) pa_nil)) pa_nil)))), ?_⟩
    refine ⟨_, rfl, a, _, rfl, hp, fun D hD => lc_it walk_enumT (PvE H D p) (PvE.zero hD) (fun i H' _ pv => same_sqT pv.1 hp) ?_ ?_⟩
    · rintro i x H1 H2 hi pv ⟨T', u, v, rfl, hT, rfl, hu, hv⟩
      cases hu
      obtain ⟨hi', rfl⟩ := rowV_inv hv
      refine ⟨T', _, rfl, SqT.of upd_same, rfl, _, _, rfl, _, _, rfl, rfl, rfl, ?_⟩
      refine ⟨_, rfl, _, rfl, rfl, _, rfl, ?_⟩
      refine ifnd (fun e => ?_) (fun e => ?_)
      · have e : ¬ i = p.getD i 0 := fun z => e (natV_inj.mpr z)
        refine ⟨_, rfl, _, rfl, _, _, rfl, _, rfl, _, rfl, _, _, rfl, by show 2 ≤ sizeLine; decide, ?_⟩
        refine NewT.use fun q H3 hq s3 t => ?_
        refine PvE.more pv (by omega) hD (Same.trans (same_new hT) s3) (fun z => e z.symm) ?_
        have e1 := min_nat i (p.getD i 0)
        have e2 := max_nat i (p.getD i 0)
        unfold natV
        rw [← e1, ← e2]
        exact t
      · have e : i = p.getD i 0 := natV_inj.mp e
        exact PvE.skip pv (same_new hT) e.symm
    · rintro H1 ⟨s1, qs, h1, h2⟩
      have hl : (rowV p).length = p.length := rowV_len p
      rw [hl] at h2
      refine ⟨_, rfl, edges_read (K := K) (P := P) (w := w) (Q := fun x H2 => rTupL K [x] H2 Q) h1 h2 m fun D2 qs2 H2 s2 hD2 h3 h4 => ?_⟩
      refine ⟨D2, _, rfl, SqL.of h3, NewT.use fun q H3 hq s3 t => ?_⟩
      exact hQ q qs2 H3 ((s1.trans s2).trans s3) ((s1.trans s2).free hq) t (h4.same s3)
end
end KL

/-! ## KD5 -/
namespace KL
open PySem PySem.Spec PyProof.Rows L2 KR KM
def rMin2 : List V → Hp → VK → Prop := fun xs H Q => ∃ i j : Int, xs = [.int i, .int j] ∧ Q (.int (if j < i then j else i)) H
def rMax2 : List V → Hp → VK → Prop := fun xs H Q => ∃ i j : Int, xs = [.int i, .int j] ∧ Q (.int (if j > i then j else i)) H
theorem cr_min2 {X : Cx} (hc : X.calm = true) : CallR X (.builtin "min") rMin2 := call_min2 hc
theorem cr_max2 {X : Cx} (hc : X.calm = true) : CallR X (.builtin "max") rMax2 := call_max2 hc
section
variable {P : Program} {w : World} {K : PySem.W.Frag} {mg : Str → Option Value} {base : Heap}

/-! ### _law_edges -/
def spEdges (K : PySem.W.Frag) : Sp := fun vs H Q _ => ∃ (a : Addr) (p : List Nat), vs = [.ref a] ∧ SqA K H a (rowV p) ∧ Pm p ∧ ∀ D qs' H', Same H H' → H D = none → H' D = some (.lst (qs'.map V.ref)) → Prs H' qs' (edges p) → Q (.ref D) H'
theorem scEdges : FnScope ["_law_parting", "_law_pairs", "_law_one"] ["_law_parting"] (defScope (top 36)) := ⟨rfl, rfl, rfl, by decide +kernel, rfl, by decide +kernel, by decide +kernel⟩
theorem ok_edges (T : Tx mg) (D : DefAt K mg "_law_edges" 36) : Call P w K mg base 1 "_law_edges" ["_law_parting"] (spEdges K) := by
  refine Call.mk' D scEdges (fun _ _ _ _ _ _ us hl => match us, hl with | [_], _ => rfl) (fun vs H Q E h => ?_) (fun f cdv A outer s H vs Q E hr h => ?_)
  · obtain ⟨a, p, rfl, _⟩ := h
    rfl
  · obtain ⟨a, p, rfl, hp, m, hQ⟩ := h
    have few := m.few
    refine ⟨_, pss_cons (ps_setLc (i := 1) (own := [("_law_one", 2)]) (g := gName 2) (tt := tTest (tOp rNe (tOp (rIxA K) (tVar 0) (tVar 2)) (tVar 2)))
        (te := tTupZ (tCons (tCB rMin2 (tCons (tVar 2) (tCons (tOp (rIxA K) (tVar 0) (tVar 2)) tNil))) (tCons (tCB rMax2 (tCons (tVar 2) (tCons (tOp (rIxA K) (tVar 0) (tVar 2)) tNil))) tNil)))
        rfl scEdges.nd rfl rfl (sw_true rfl rfl rfl (by decide +kernel)) (pi_range1 rfl T.range (pa_cons (pe_callB cr_lenA (by rfl) T.len boot_len (pa_cons (pv 0) pa_nil)) pa_nil))
        (blkOk_by (own := [("_law_one", 2)]) (N := ["_law_parting", "_law_pairs", "_law_one"]) (sc := defScope (top 36)) (by decide +kernel))
        (fun _ _ _ _ _ => pg_name (i := 2) scEdges.nd rfl (Or.inl rfl))
        (fun _ _ _ _ _ => pts_one (pt_cmpR op_ne (pe_ix ix_any (pv 0) (pv 2) (fun _ _ => rfl)) (pv 2) (nomark _)))
        (fun _ _ _ _ _ => pe_tupZ (pa_cons (pe_callB (cr_min2 rfl) (by rfl) T.min (by decide +kernel) (pa_cons (pv 2) (pa_cons (pe_ix ix_any (pv 0) (pv 2) (fun _ _ => rfl)) pa_nil)))
          (pa_cons (pe_callB (cr_max2 rfl) (by rfl) T.max (by decide +kernel) (pa_cons (pv 2) (pa_cons (pe_ix ix_any (pv 0) (pv 2) (fun _ _ => rfl)) pa_nil))) pa_nil))))
      (pss_one (ps_ret (pe_callB (cr_sortedT rfl) (by rfl) T.sorted (by decide +kernel) (pa_cons (pe_callTy (cr_setOfT rfl hr.units) (by rfl) T.set (by decide +kernel) (pa_cons (pv 1) pa_nil)) pa_nil)))), ?_⟩
    refine ⟨_, rfl, a, _, rfl, hp, _, rfl, by rw [rowV_len]; omega, by rw [rowV_len]; omega, fun D hD => ?_⟩
    refine lc_range (lo := 0) (PvE H D p) (PvE.zero hD) (fun i H1 hi pv => ?_) ?_
    · have hi : i < p.length := by
        rw [rowV_len] at hi
        simpa using hi
      have e0 : (0 : Int) + (i : Int) = (i : Int) := Int.zero_add _
      rw [e0]
      have hp1 := hp.same pv.1
      have at1 := atI_row hi
      refine ⟨rfl, _, rfl, _, rfl, a, _, _, _, rfl, rfl, hp1, at1, _, rfl, rfl, _, rfl, ?_⟩
      refine ifnd (fun e => ?_) (fun e => ?_)
      · have e : ¬ p.getD i 0 = i := fun z => e (natV_inj.mpr z)
        refine ⟨_, rfl, _, rfl, _, rfl, a, _, _, _, rfl, rfl, hp1, at1, _, _, rfl, ?_⟩
        refine ⟨_, rfl, _, rfl, _, rfl, a, _, _, _, rfl, rfl, hp1, at1, _, _, rfl, ?_⟩
        refine ⟨by show 2 ≤ sizeLine; decide, NewT.use fun q H3 hq s3 t => ?_⟩
        refine PvE.more pv (by omega) hD s3 e ?_
        have e1 := min_nat i (p.getD i 0)
        have e2 := max_nat i (p.getD i 0)
        unfold natV
        rw [← e1, ← e2]
        exact t
      · exact PvE.skip pv (Same.refl _) (natV_inj.mp e)
    · rintro H1 ⟨s1, qs, h1, h2⟩
      have hl : ((rowV p).length : Int).toNat = p.length := by rw [rowV_len]; simp
      have h2 : Prs H1 qs (prs p) := by
        have : ((((rowV p).length : Nat) : Int) - 0).toNat = p.length := by rw [rowV_len]; simp
        simpa [hl] using h2
      refine ⟨_, rfl, edges_read (K := K) (P := P) (w := w) (Q := Q) h1 h2 m fun D2 qs2 H2 s2 hD2 h3 h4 => ?_⟩
      exact hQ D2 qs2 H2 (s1.trans s2) (s1.free hD2) h3 h4
end
end KL

/-! ## KD6 -/
namespace KL
open PySem PySem.Spec PyProof.Rows L2 KR KM
theorem dlt (a b : Nat) : decide ((a : Int) < (b : Int)) = decide (a < b) := by
  by_cases h : a < b
  · rw [decide_eq_true h, decide_eq_true (by omega)]
  · rw [decide_eq_false h, decide_eq_false (by omega)]
section
variable {P : Program} {w : World} {K : PySem.W.Frag} {mg : Str → Option Value} {base : Heap}

/-! ### is_high, is_low -/
def okAt (ls : List (List Nat)) (i j : Nat) : Prop := j = i ∨ j ∈ lst ls i
def spHigh (K : PySem.W.Frag) (C : Addr) : Sp := fun vs H Q _ => ∃ (p a : Addr) (ls : List (List Nat)) (r : List Nat) (i j : Nat), vs = [.ref p, .ref a, natV i, natV j] ∧ WAt K C H p ls ∧ SqA K H a (rowV r) ∧ r.length = ls.length ∧ i < ls.length ∧ okAt ls i j ∧ okAt ls i (r.getD i 0) ∧
  Q (.bl (decide (rnk ls i j < rnk ls i (r.getD i 0)))) H
theorem scHigh : FnScope ["wishes", "parting", "one", "other"] ["wishes", "parting", "one", "other"] (defScope (top 21)) := ⟨rfl, rfl, rfl, by decide +kernel, rfl, by decide +kernel, by decide +kernel⟩
theorem ok_high (T : Tx mg) {C : Addr} (D : DefAt K mg "is_high" 21) (cR : Call P w K mg base 1 "rank_in" ["wishes", "person", "other"] (spRankIn K C)) : Call P w K mg base 2 "is_high" ["wishes", "parting", "one", "other"] (spHigh K C) := by
  refine Call.mk' D scHigh (fun _ _ _ _ _ _ us hl => match us, hl with | [_, _, _, _], _ => rfl) (fun vs H Q E h => ?_) (fun f cdv A outer s H vs Q E hr h => ?_)
  · obtain ⟨p, a, ls, r, i, j, rfl, _⟩ := h
    rfl
  · obtain ⟨p, a, ls, r, i, j, rfl, hw, ha, hl, hi, h1, h2, hQ⟩ := h
    refine ⟨_, pss_one (ps_ret (pe_cmpR op_lt (pe_k cR hr (ha := pa_cons (pv 0) (pa_cons (pv 2) (pa_cons (pv 3) pa_nil)))) (pe_k cR hr (ha := pa_cons (pv 0) (pa_cons (pv 2) (pa_cons (pe_ix ix_any (pv 1) (pv 2) (fun _ _ => rfl)) pa_nil)))) (nomark _))), ?_⟩
    refine ⟨_, rfl, _, rfl, _, rfl, p, ls, i, j, rfl, hw, hi, h1, ?_⟩
    refine ⟨_, rfl, _, rfl, _, rfl, _, rfl, a, _, _, _, rfl, rfl, ha, atI_row (by rw [hl]; exact hi), p, ls, i, r.getD i 0, rfl, hw, hi, h2, _, _, rfl, rfl, ?_⟩
    show Q (.bl (decide (((rnk ls i j : Nat) : Int) < ((rnk ls i (r.getD i 0) : Nat) : Int)))) H
    rw [dlt]
    exact hQ
def spLow (K : PySem.W.Frag) (C : Addr) : Sp := fun vs H Q _ => ∃ (p a : Addr) (ls : List (List Nat)) (b : List Nat) (i j : Nat), vs = [.ref p, .ref a, natV i, natV j] ∧ WAt K C H p ls ∧ SqA K H a (rowV b) ∧ b.length = ls.length ∧ i < ls.length ∧ okAt ls i j ∧ okAt ls i (b.getD i 0) ∧
  Q (.bl (decide (rnk ls i (b.getD i 0) < rnk ls i j))) H
theorem scLow : FnScope ["wishes", "before", "one", "other"] ["wishes", "before", "one", "other"] (defScope (top 22)) := ⟨rfl, rfl, rfl, by decide +kernel, rfl, by decide +kernel, by decide +kernel⟩
theorem ok_low (T : Tx mg) {C : Addr} (D : DefAt K mg "is_low" 22) (cR : Call P w K mg base 1 "rank_in" ["wishes", "person", "other"] (spRankIn K C)) : Call P w K mg base 2 "is_low" ["wishes", "before", "one", "other"] (spLow K C) := by
  refine Call.mk' D scLow (fun _ _ _ _ _ _ us hl => match us, hl with | [_, _, _, _], _ => rfl) (fun vs H Q E h => ?_) (fun f cdv A outer s H vs Q E hr h => ?_)
  · obtain ⟨p, a, ls, r, i, j, rfl, _⟩ := h
    rfl
  · obtain ⟨p, a, ls, r, i, j, rfl, hw, ha, hl, hi, h1, h2, hQ⟩ := h
    refine ⟨_, pss_one (ps_ret (pe_cmpR op_lt (pe_k cR hr (ha := pa_cons (pv 0) (pa_cons (pv 2) (pa_cons (pe_ix ix_any (pv 1) (pv 2) (fun _ _ => rfl)) pa_nil)))) (pe_k cR hr (ha := pa_cons (pv 0) (pa_cons (pv 2) (pa_cons (pv 3) pa_nil)))) (nomark _))), ?_⟩
    refine ⟨_, rfl, _, rfl, _, rfl, _, rfl, a, _, _, _, rfl, rfl, ha, atI_row (by rw [hl]; exact hi), p, ls, i, r.getD i 0, rfl, hw, hi, h2, ?_⟩
    refine ⟨_, rfl, _, rfl, _, rfl, p, ls, i, j, rfl, hw, hi, h1, _, _, rfl, rfl, ?_⟩
    show Q (.bl (decide (((rnk ls i (r.getD i 0) : Nat) : Int) < ((rnk ls i j : Nat) : Int)))) H
    rw [dlt]
    exact hQ

/-! ### _law_halves -/
def spHalves (K : PySem.W.Frag) : Sp := fun vs H Q _ => ∃ (a : Addr) (p : List Nat) (i j : Nat), vs = [.ref a, natV i, natV j] ∧ SqA K H a (rowV p) ∧ i < p.length ∧ j < p.length ∧ Q (natV (hv p i j)) H
theorem scHalves : FnScope ["_law_parting", "_law_one", "_law_other"] ["_law_parting", "_law_one", "_law_other"] (defScope (top 39)) := ⟨rfl, rfl, rfl, by decide +kernel, rfl, by decide +kernel, by decide +kernel⟩
theorem one_nat (a b : Nat) : (if decide (natV a = natV b) = true then (1 : Int) else 0) = (((if a = b then 1 else 0) : Nat) : Int) := by
  by_cases h : a = b
  · subst h
    simp
  · have : ¬ natV a = natV b := fun z => h (natV_inj.mp z)
    simp [h, this]
theorem ok_halves (T : Tx mg) (D : DefAt K mg "_law_halves" 39) : Call P w K mg base 1 "_law_halves" ["_law_parting", "_law_one", "_law_other"] (spHalves K) := by
  refine Call.mk' D scHalves (fun _ _ _ _ _ _ us hl => match us, hl with | [_, _, _], _ => rfl) (fun vs H Q E h => ?_) (fun f cdv A outer s H vs Q E hr h => ?_)
  · obtain ⟨a, p, i, j, rfl, _⟩ := h
    rfl
  · obtain ⟨a, p, i, j, rfl, hp, hi, hj, hQ⟩ := h
    refine ⟨_, pss_one (ps_ret (pe_op op_add (pe_callTy call_int1 (by rfl) T.int (by decide +kernel) (pa_cons (pe_cmpR op_eq (pe_ix ix_any (pv 0) (pv 1) (fun _ _ => rfl)) (pv 2) (nomark _)) pa_nil))
      (pe_callTy call_int1 (by rfl) T.int (by decide +kernel) (pa_cons (pe_cmpR op_eq (pe_ix ix_any (pv 0) (pv 2) (fun _ _ => rfl)) (pv 1) (nomark _)) pa_nil)))), ?_⟩
    refine ⟨_, rfl, _, rfl, a, _, _, _, rfl, rfl, hp, atI_row hi, _, rfl, rfl, Or.inr ⟨_, rfl, ?_⟩⟩
    refine ⟨_, rfl, _, rfl, a, _, _, _, rfl, rfl, hp, atI_row hj, _, rfl, rfl, Or.inr ⟨_, rfl, ?_⟩⟩
    refine ⟨_, _, rfl, rfl, ?_⟩
    show Q (.int ((if decide (natV (p.getD i 0) = natV j) = true then (1 : Int) else 0) + (if decide (natV (p.getD j 0) = natV i) = true then (1 : Int) else 0))) H
    rw [one_nat, one_nat, ← Int.natCast_add]
    exact hQ

/-! ### before_in -/
def spBeforeIn (K : PySem.W.Frag) : Sp := fun vs H Q _ => ∃ (a : Addr) (p : List Nat), vs = [.ref a] ∧ SqT K H a (rowV p) ∧ Pm p ∧ ∀ D H', H D = none → Same H H' → TpZ H' D (rowV (bef p)) → Q (.ref D) H'
theorem scBeforeIn : FnScope ["parting", "found", "person", "other"] ["parting"] (defScope (top 17)) := ⟨rfl, rfl, rfl, by decide +kernel, rfl, by decide +kernel, by decide +kernel⟩
theorem getD_set {l : List Nat} {i j v : Nat} (hi : i < l.length) : (l.set i v).getD j 0 = if j = i then v else l.getD j 0 := by
  rw [List.getD_eq_getElem?_getD, List.getD_eq_getElem?_getD, List.getElem?_set]
  by_cases h : i = j
  · subst h
    simp [hi]
  · have h' : ¬ j = i := fun z => h z.symm
    simp [h, h']
theorem ok_before_in (T : Tx mg) (D : DefAt K mg "before_in" 17) : Call P w K mg base 1 "before_in" ["parting"] (spBeforeIn K) := by
  refine Call.mk' D scBeforeIn (fun _ _ _ _ _ _ us hl => match us, hl with | [_], _ => rfl) (fun vs H Q E h => ?_) (fun f cdv A outer s H vs Q E hr h => ?_)
  · obtain ⟨a, p, rfl, _⟩ := h
    rfl
  · obtain ⟨a, p, rfl, hp, m, hQ⟩ := h
    have few := m.few
    refine ⟨_, pss_cons (ps_set (i := 1) scBeforeIn.nd rfl (.inl rfl) (pe_op op_rep (pe_lst (pa_cons pe_int pa_nil)) (pe_callB cr_lenA (by rfl) T.len boot_len (pa_cons (pv 0) pa_nil))))
      (pss_cons (ps_for PassesOwn.never rfl (pi_enumT rfl T.enum (pa_cons (pv 0) pa_nil)) (pg_tup rfl (pgs_cons (pg_name (i := 2) scBeforeIn.nd rfl (.inl rfl)) (pgs_cons (pg_name (i := 3) scBeforeIn.nd rfl (.inl rfl)) pgs_nil)))
        (pss_one (ps_asg (pv 2) (pg_sub (pv 1) (pv 3) set_list))))
      (pss_one (ps_ret (pe_callTy cr_tupL (by rfl) T.tuple (by decide +kernel) (pa_cons (pv 1) pa_nil))))), ?_⟩
    -- [0] * len(parting)
    refine ⟨by show 1 ≤ sizeLine; decide, fun l0 hl0 => ?_⟩
    have s0 := same_new (o := .lst [.int 0]) hl0
    refine ⟨_, rfl, a, _, rfl, Or.inr (same_sqT s0 hp), _, _, _, rfl, rfl, upd_same, by rw [rowV_len]; omega, by rw [rowV_len]; omega, ?_, fun l hl => ?_⟩
    · rw [rowV_len]
      simp only [List.length_cons, List.length_nil, Int.toNat_natCast]
      have := line60 (n := p.length) (by omega)
      omega
    have s1 : ∀ o, Same H (upd (upd H l0 (.lst [.int 0])) l o) := fun o => same_then s0 hl
    have hl' : H l = none := s0.free hl
    refine ⟨_, rfl, a, _, rfl, same_sqT (s1 _) hp, for_it (walk_enumT (xs := rowV p)) (fun i σ H' => ∃ (u v : Option V) (F : List Nat), σ = [some (.ref a), some (.ref l), u, v] ∧ Same H H' ∧ H' l = some (.lst (rowV F)) ∧ F.length = p.length ∧ ∀ k, k < i → F.getD (p.getD k 0) 0 = k) ?_ ?_ ?_ ?_⟩
    · refine ⟨none, none, List.replicate p.length 0, rfl, s1 _, ?_, by simp, fun k hk => absurd hk (Nat.not_lt_zero _)⟩
      rw [upd_same]
      congr 2
      rw [rowV_len]
      simp [rowV, natV]
    · rintro i σ H' _ ⟨u, v, F, rfl, s2, _⟩
      exact same_sqT s2 hp
    · rintro i x σ H1 H2 hi ⟨u, v, F, rfl, s2, e2, hF, inv⟩ ⟨T', y, z, rfl, hT, rfl, hy, hz⟩
      cases hy
      obtain ⟨hi', rfl⟩ := rowV_inv hz
      have e3 : upd H1 T' (.tup [.int (i : Nat), natV (p.getD i 0)]) l = some (.lst (rowV F)) := by
        rw [upd_ne (ne_of_none e2 hT)]
        exact e2
      have hlt : p.getD i 0 < F.length := by rw [hF]; exact m.nx hi'
      refine ⟨T', _, rfl, SqT.of upd_same, rfl, _, _, rfl, _, _, rfl, rfl, ?_⟩
      refine ⟨_, rfl, _, rfl, _, rfl, ?_⟩
      refine ⟨l, _, _, p.getD i 0, rfl, rfl, e3, ?_, ?_⟩
      · unfold ixN
        have h0 : (0 : Int) ≤ (p.getD i 0 : Int) := by omega
        have h1 : ((p.getD i 0 : Nat) : Int) < (rowV F).length := by
          rw [rowV_len]
          omega
        rw [if_pos h0, if_pos h1]
        rfl
      · have er : (rowV F).set (p.getD i 0) (.int (i : Nat)) = rowV (F.set (p.getD i 0) i) := by
          unfold rowV
          rw [List.map_set]
          rfl
        rw [er]
        refine ⟨_, _, F.set (p.getD i 0) i, rfl, same_upd (s2.trans (same_new hT)) hl', upd_same, by rw [List.length_set]; exact hF, fun k hk => ?_⟩
        rw [getD_set hlt]
        by_cases e : p.getD k 0 = p.getD i 0
        · rw [if_pos e]
          have hk' : k < p.length := by omega
          rw [getD_of_lt hk', getD_of_lt hi'] at e
          exact ((List.getElem_inj m.nd).mp e).symm
        · rw [if_neg e]
          have : k ≠ i := fun z => e (by rw [z])
          exact inv k (by omega)
    · rintro σ H1 ⟨u, v, F, rfl, s2, e2, hF, inv⟩
      refine ⟨_, rfl, l, _, rfl, SqL.of e2, NewT.use fun q H3 hq s3 t => ?_⟩
      have : F = bef p := by
        apply List.ext_getElem
        · rw [hF, bef_len]
        · intro j h1 h2
          have hj : j < p.length := by rw [← hF]; exact h1
          have hk := m.bf hj
          have e1 := inv (p.idxOf j) (by rw [rowV_len]; exact hk)
          have e2 : p.getD (p.idxOf j) 0 = j := by
            rw [getD_of_lt hk]
            exact List.getElem_idxOf hk
          rw [e2, getD_of_lt h1] at e1
          rw [e1, ← getD_of_lt h2, bef_get hj]
      rw [this] at t
      exact hQ q H3 (s2.free hq) (s2.trans s3) t
end
end KL

/-! ## KD7 -/
namespace KM
def pick (ls : List (List Nat)) (one : List Nat) (e x : Nat × Nat) : Bool := !(edges one).contains e && rise ls one x.1 x.2
def foundTo (ls : List (List Nat)) (one other : List Nat) (i : Nat) : List (Nat × Nat) := ((edges other).take i).flatMap fun e => (both e).filter (pick ls one e)
theorem foundTo_all (ls : List (List Nat)) (one other : List Nat) : foundTo ls one other (edges other).length = found ls one other := by
  unfold foundTo
  rw [List.take_length]
  rfl
theorem foundTo_succ {ls : List (List Nat)} {one other : List Nat} {i : Nat} {e : Nat × Nat} (h : (edges other)[i]? = some e) : foundTo ls one other (i + 1) = foundTo ls one other i ++ (both e).filter (pick ls one e) := by
  unfold foundTo
  obtain ⟨h1, h2⟩ := List.getElem?_eq_some_iff.mp h
  rw [List.take_succ_eq_append_getElem h1, List.flatMap_append, h2]
  simp
theorem flat_len {α β : Type} {f : α → List β} {b : Nat} (h : ∀ a, (f a).length ≤ b) : ∀ l : List α, (l.flatMap f).length ≤ l.length * b
  | [] => by simp
  | a :: l => by
    have := flat_len h l
    have := h a
    rw [List.flatMap_cons, List.length_append, List.length_cons, Nat.add_mul, Nat.one_mul]
    omega
theorem edges_len (p : List Nat) : (edges p).length ≤ p.length * p.length := by
  unfold edges
  have := flat_len (b := p.length) (f := fun i => ((List.range p.length).filter fun j => decide (i < j) && adj p i j).map fun j => (i, j)) (fun i => by
    rw [List.length_map]
    exact Nat.le_trans (List.length_filter_le _ _) (by simp)) (List.range p.length)
  simpa using this
theorem foundTo_len (ls : List (List Nat)) (one other : List Nat) (i : Nat) : (foundTo ls one other i).length ≤ other.length * other.length * 2 := by
  unfold foundTo
  have h1 := flat_len (b := 2) (f := fun e => (both e).filter (pick ls one e)) (fun e => Nat.le_trans (List.length_filter_le _ _) (by simp [both])) ((edges other).take i)
  have h2 := edges_len other
  have h3 : ((edges other).take i).length ≤ (edges other).length := by rw [List.length_take]; exact Nat.min_le_right _ _
  have h4 : ((edges other).take i).length * 2 ≤ other.length * other.length * 2 := Nat.mul_le_mul_right 2 (Nat.le_trans h3 h2)
  exact Nat.le_trans h1 h4
end KM
namespace KL
open PySem PySem.Spec PyProof.Rows L2 KR KM
def leP (a b : Nat × Nat) : Bool := rowLe (rowI a) (rowI b)
/-- the risen pairs, as both hand them back -/
def risenL (ls : List (List Nat)) (one other : List Nat) : List (Nat × Nat) := (found ls one other).mergeSort leP
theorem tpz_lst {H : Hp} {D q : Addr} {xs ys zs : List V} (h : TpZ H q zs) (e : H D = some (.lst xs)) : TpZ (upd H D (.lst ys)) q zs := by
  obtain ⟨o, d, z⟩ := h
  refine ⟨o, d, ?_⟩
  rw [upd_ne fun q => ?_]
  · exact z
  · rw [q, e] at z
    cases z
theorem prs_lst {H : Hp} {D : Addr} {xs ys : List V} {qs : List Addr} {es : List (Nat × Nat)} (h : Prs H qs es) (e : H D = some (.lst xs)) : Prs (upd H D (.lst ys)) qs es := all2_imp (fun _ _ r => tpz_lst r e) h
theorem prs_push {H : Hp} {D q : Addr} {fq : List Addr} {es : List (Nat × Nat)} {a b : Nat} (e : H D = some (.lst (fq.map V.ref))) (h : Prs H fq es) (t : TpZ H q [natV a, natV b]) :
    upd H D (.lst (fq.map V.ref ++ [.ref q])) D = some (.lst ((fq ++ [q]).map V.ref)) ∧ Prs (upd H D (.lst (fq.map V.ref ++ [.ref q]))) (fq ++ [q]) (es ++ [(a, b)]) := by
  refine ⟨by rw [upd_same, List.map_append]; rfl, ?_⟩
  exact all2_app (prs_lst h e) (all2_one (R := fun q (e : Nat × Nat) => TpZ _ q [natV e.1, natV e.2]) (tpz_lst t e))
def pairD (e : Nat × Nat) : PyData := .tuple [.int (e.1 : Int), .int (e.2 : Int)]
theorem pair_dp {K : PySem.W.Frag} {H : Hp} {q : Addr} {e : Nat × Nat} (h : TpZ H q [natV e.1, natV e.2]) : Dp K H (.ref q) (pairD e) := .tup h.sqT (.cons (.int _) (.cons (.int _) .nil))
theorem prs_dp {K : PySem.W.Frag} {H : Hp} : ∀ {qs : List Addr} {es : List (Nat × Nat)}, Prs H qs es → DpAll K H (qs.map V.ref) (es.map pairD)
  | _, _, .nil => .nil
  | _, _, .cons r t => .cons (pair_dp r) (prs_dp t)
theorem pair_eqv (a b : Nat × Nat) : PyData.eqv (pairD a) (pairD b) = decide (a = b) := by
  obtain ⟨a1, a2⟩ := a
  obtain ⟨b1, b2⟩ := b
  unfold pairD
  simp only [PyData.eqv, PyData.eqvAll]
  by_cases h : (a1, a2) = (b1, b2)
  · cases h
    simp
  · rw [decide_eq_false h, Bool.eq_false_iff]
    intro z
    simp only [Bool.and_true, Bool.and_eq_true, beq_iff_eq] at z
    exact h (by rw [Prod.mk.injEq]; omega)
theorem any_eqv (es : List (Nat × Nat)) (e : Nat × Nat) : (es.map pairD).any (fun z => PyData.eqv z (pairD e)) = es.contains e := by
  induction es with
  | nil => rfl
  | cons a es ih =>
    rw [List.map_cons, List.any_cons, ih, pair_eqv, List.contains_cons]
    by_cases h : a = e
    · subst h
      simp
    · have h' : ¬ e = a := fun z => h z.symm
      simp [h, h']
theorem pair_lay (e : Nat × Nat) : (pairD e).canLay0 = true ∧ (pairD e).depth ≤ 1 := by
  unfold pairD
  constructor
  · simp [PyData.canLay0, PyData.canLayAll0]
  · simp [PyData.depth, PyData.depthAll]
theorem pairs_lay (es : List (Nat × Nat)) : PyData.canLayAll0 (es.map pairD) = true ∧ PyData.depthAll (es.map pairD) ≤ 1 := by
  induction es with
  | nil => exact ⟨by simp [PyData.canLayAll0], by simp [PyData.depthAll]⟩
  | cons a es ih =>
    obtain ⟨h1, h2⟩ := pair_lay a
    rw [List.map_cons, PyData.canLayAll0, PyData.depthAll]
    exact ⟨by rw [h1, ih.1]; rfl, Nat.max_le.mpr ⟨h2, ih.2⟩⟩
theorem shaped_of {d : PyData} (h1 : d.canLay0 = true) (h2 : d.depth ≤ 64) : SeqAt.shaped d = true := by
  unfold SeqAt.shaped
  rw [h1, decide_eq_true h2]
  rfl
theorem pair_shaped (e : Nat × Nat) : SeqAt.shaped (pairD e) = true := shaped_of (pair_lay e).1 (by have := (pair_lay e).2; omega)
theorem pairs_shapedL (es : List (Nat × Nat)) : SeqAt.shaped (.list (es.map pairD)) = true := by
  obtain ⟨h1, h2⟩ := pairs_lay es
  exact shaped_of (by rw [PyData.canLay0]; exact h1) (by rw [PyData.depth]; omega)
theorem pairs_shapedT (es : List (Nat × Nat)) : SeqAt.shaped (.tuple (es.map pairD)) = true := by
  obtain ⟨h1, h2⟩ := pairs_lay es
  exact shaped_of (by rw [PyData.canLay0]; exact h1) (by rw [PyData.depth]; omega)
end KL

/-! ## KD8 -/
namespace KL
open PySem PySem.Spec PyProof.Rows L2 KR KM
/-- as it was, but for the list at fl -/
def Sb (fl : Addr) (H H' : Hp) : Prop := ∀ b o, H b = some o → b ≠ fl → H' b = some o
theorem Sb.refl (fl : Addr) (H : Hp) : Sb fl H H := fun _ _ h _ => h
theorem Sb.same {fl : Addr} {H H' H2 : Hp} (s : Sb fl H H') (t : Same H' H2) : Sb fl H H2 := fun b o h n => t b o (s b o h n)
theorem Sb.upd {fl : Addr} {H H' : Hp} {o : HO} (s : Sb fl H H') : Sb fl H (upd H' fl o) := fun b u h n => by
  rw [upd_ne n]
  exact s b u h n
theorem Sb.of {fl : Addr} {H H' : Hp} (s : Same H H') : Sb fl H H' := fun b o h _ => s b o h
theorem Sb.trans {fl : Addr} {H H' H2 : Hp} (s : Sb fl H H') (t : Sb fl H' H2) : Sb fl H H2 := fun b o h n => t b o (s b o h n) n
theorem TpZ.sb {fl q : Addr} {H H' : Hp} {xs zs : List V} (h : TpZ H q zs) (s : Sb fl H H') (e : H fl = some (.lst xs)) : TpZ H' q zs := by
  obtain ⟨o, d, z⟩ := h
  refine ⟨o, d, s _ _ z fun w => ?_⟩
  rw [w, e] at z
  cases z
theorem Prs.sb {fl : Addr} {H H' : Hp} {xs : List V} {qs : List Addr} {es : List (Nat × Nat)} (h : Prs H qs es) (s : Sb fl H H') (e : H fl = some (.lst xs)) : Prs H' qs es := all2_imp (fun _ _ r => TpZ.sb r s e) h
theorem prs_get {H : Hp} {qs : List Addr} {es : List (Nat × Nat)} {i : Nat} {v : V} (h : Prs H qs es) (e : (qs.map V.ref)[i]? = some v) : ∃ q x, v = .ref q ∧ es[i]? = some x ∧ TpZ H q [natV x.1, natV x.2] := by
  rw [List.getElem?_map] at e
  cases z : qs[i]? with
  | none =>
    rw [z] at e
    cases e
  | some q =>
    rw [z] at e
    obtain ⟨x, h1, h2⟩ := all2_getQ h z
    exact ⟨q, x, (Option.some.inj e).symm, h1, h2⟩
theorem okAt_nx {ls : List (List Nat)} {p : List Nat} (h : Par ls p) {i : Nat} (hi : i < ls.length) : okAt ls i (p.getD i 0) := h.ok i hi
theorem okAt_bf {ls : List (List Nat)} {p : List Nat} (W : WF ls) (h : Par ls p) {i : Nat} (hi : i < ls.length) : okAt ls i (p.idxOf i) := by
  have hq := h.idx_lt W hi
  have e := h.nx_bf W hi
  rcases h.ok _ hq with z | z
  · rw [e] at z
    exact Or.inl z.symm
  · rw [e] at z
    exact Or.inr (W.sy _ hq _ z)
theorem okAt_edge {ls : List (List Nat)} {p : List Nat} (W : WF ls) (h : Par ls p) {a b : Nat} (he : (a, b) ∈ edges p) : a < ls.length ∧ b < ls.length ∧ okAt ls a b ∧ okAt ls b a := by
  obtain ⟨h1, h2, h3⟩ := mem_edges.mp he
  rw [h.len] at h2
  have h0 : a < ls.length := by omega
  rcases h3 with z | z
  · rcases h.ok a h0 with q | q
    · omega
    · rw [z] at q
      exact ⟨h0, h2, Or.inr q, Or.inr (W.sy a h0 b q)⟩
  · rcases h.ok b h2 with q | q
    · omega
    · rw [z] at q
      exact ⟨h0, h2, Or.inr (W.sy b h2 a q), Or.inr q⟩
theorem found_line {ls : List (List Nat)} {one other : List Nat} (few : other.length ≤ 60) (i : Nat) (n : Nat) (h : n ≤ (foundTo ls one other i).length + 2) : n < sizeLine := by
  have h1 := foundTo_len ls one other i
  have h2 : other.length * other.length ≤ 60 * 60 := Nat.mul_le_mul few few
  have := sizeLine_eq
  omega
/-- sorted(found) -/
theorem sort_read {K : PySem.W.Frag} {H : Hp} {fl : Addr} {fq : List Addr} {es : List (Nat × Nat)} {Q : VK} (e : H fl = some (.lst (fq.map V.ref))) (h : Prs H fq es)
    (hQ : ∀ D qs H', Same H H' → H D = none → H' D = some (.lst (qs.map V.ref)) → Prs H' qs (es.mergeSort leP) → Q (.ref D) H') : rSortRows K [.ref fl] H Q := by
  obtain ⟨ks, k1, k2, k3⟩ := prs_ks h
  refine ⟨fl, ks.map fun k => (k.1, rowI k.2), rfl, ?_, ?_, ?_⟩
  · rw [List.map_map]
    have : ks.map ((fun b : Addr × List Int => V.ref b.1) ∘ fun k : Addr × (Nat × Nat) => (k.1, rowI k.2)) = fq.map V.ref := by
      rw [← k1, List.map_map]
      rfl
    rw [this]
    exact SqL.of e
  · intro b hb
    obtain ⟨k, hk, rfl⟩ := List.mem_map.mp hb
    exact ⟨(k3 k hk).sqT, List.cons_ne_nil _ _⟩
  · intro D hD
    have s := same_new (o := .lst (((ks.map fun k => (k.1, rowI k.2)).mergeSort byRow).map fun b => V.ref b.1)) hD
    have m1 : (ks.map fun k => (k.1, rowI k.2)).mergeSort byRow = (ks.mergeSort fun a b => leP a.2 b.2).map fun k => (k.1, rowI k.2) :=
      (List.map_mergeSort (r := fun (a b : Addr × (Nat × Nat)) => leP a.2 b.2) (s := byRow) (f := fun k : Addr × (Nat × Nat) => (k.1, rowI k.2)) (fun _ _ _ _ => rfl)).symm
    have m2 : (ks.mergeSort fun a b => leP a.2 b.2).map (·.2) = es.mergeSort leP := by
      rw [← k2]
      exact List.map_mergeSort (r := fun (a b : Addr × (Nat × Nat)) => leP a.2 b.2) (s := leP) (f := fun k : Addr × (Nat × Nat) => k.2) (fun _ _ _ _ => rfl)
    refine hQ D ((ks.mergeSort fun a b => leP a.2 b.2).map (·.1)) _ s hD ?_ ?_
    · rw [upd_same, m1, List.map_map, List.map_map]
      rfl
    · rw [← m2]
      refine (ks_prs fun k hk => k3 k ?_).same s
      exact List.mem_mergeSort.mp hk
/-- what the loops keep -/
structure Fnd (H0 H2 : Hp) (fl : Addr) (es : List (Nat × Nat)) (H : Hp) : Prop where
  s0 : Same H0 H
  sb : Sb fl H2 H
  at_ : ∃ fq, H fl = some (.lst (fq.map V.ref)) ∧ Prs H fq es
theorem Fnd.same {H0 H2 : Hp} {fl : Addr} {es : List (Nat × Nat)} {H H' : Hp} (h : Fnd H0 H2 fl es H) (s : Same H H') : Fnd H0 H2 fl es H' := by
  obtain ⟨fq, e, p⟩ := h.at_
  exact ⟨h.s0.trans s, h.sb.same s, fq, s _ _ e, p.same s⟩
theorem Fnd.push {H0 H2 : Hp} {fl q : Addr} {es : List (Nat × Nat)} {H : Hp} {a b : Nat} (h : Fnd H0 H2 fl es H) (n : H0 fl = none) (t : TpZ H q [natV a, natV b]) :
    ∃ xs, H fl = some (.lst xs) ∧ xs.length = es.length ∧ Fnd H0 H2 fl (es ++ [(a, b)]) (upd H fl (.lst (xs ++ [.ref q]))) := by
  obtain ⟨fq, e, p⟩ := h.at_
  refine ⟨_, e, by rw [List.length_map, all2_len p], same_upd h.s0 n, h.sb.upd, fq ++ [q], ?_⟩
  exact prs_push e p t
end KL

/-! ## KD9 -/
namespace KL
open PySem PySem.Spec PyProof.Rows L2 KR KM
theorem hr65 {k : Nat} {A : Around} (hr : Room k A) : A.units + 65 < cLine := by
  have := hr.un
  omega
theorem both_filter {ls : List (List Nat)} {one : List Nat} {e x : Nat × Nat} {m : Nat} (h : (both e)[m]? = some x) : ((both e).take (m + 1)).filter (pick ls one e) = ((both e).take m).filter (pick ls one e) ++ (if pick ls one e x = true then [x] else []) := by
  obtain ⟨h1, h2⟩ := List.getElem?_eq_some_iff.mp h
  rw [List.take_succ_eq_append_getElem h1, List.filter_append, h2]
  congr 1
  by_cases q : pick ls one e x = true
  · rw [if_pos q, List.filter_cons_of_pos q]
    rfl
  · rw [if_neg q, List.filter_cons_of_neg q]
    rfl
section
variable {P : Program} {w : World} {K : PySem.W.Frag} {mg : Str → Option Value} {base : Heap}

/-! ### _law_risen -/
def spRisen (K : PySem.W.Frag) : Sp := fun vs H Q _ => ∃ (la oa ra : Addr) (ls : List (List Nat)) (one other : List Nat), vs = [.ref la, .ref oa, .ref ra] ∧ Rows K H la ls ∧ Row H oa one ∧ SqA K H ra (rowV other) ∧ WF ls ∧ Par ls one ∧ Par ls other ∧ ls.length ≤ 60 ∧
  ∀ D qs H', Same H H' → H D = none → H' D = some (.lst (qs.map V.ref)) → Prs H' qs (risenL ls one other) → Q (.ref D) H'
abbrev nRisen : List Str := ["_law_lists_here", "_law_one", "_law_other", "_law_before_here", "_law_edges_here", "_law_found", "_law_pair", "_law_i", "_law_j"]
theorem scRisen : FnScope nRisen ["_law_lists_here", "_law_one", "_law_other"] (defScope (top 37)) := ⟨rfl, rfl, rfl, by decide +kernel, rfl, by decide +kernel, by decide +kernel⟩
theorem ok_risen (T : Tx mg) (D : DefAt K mg "_law_risen" 37) (cB : Call P w K mg base 1 "_law_before" ["_law_parting"] (spBefore K)) (cE : Call P w K mg base 1 "_law_edges" ["_law_parting"] (spEdges K))
    (cR : Call P w K mg base 1 "_law_rank" ["_law_lists_here", "_law_person", "_law_other"] (spRank K)) : Call P w K mg base 2 "_law_risen" ["_law_lists_here", "_law_one", "_law_other"] (spRisen K) := by
  refine Call.mk' D scRisen (fun _ _ _ _ _ _ us hl => match us, hl with | [_, _, _], _ => rfl) (fun vs H Q E h => ?_) (fun f cdv A outer s H vs Q E hr h => ?_)
  · obtain ⟨la, oa, ra, ls, one, other, rfl, _⟩ := h
    rfl
  · obtain ⟨la, oa, ra, ls, one, other, rfl, hL, h1, h2, W, p1, p2, few, hQ⟩ := h
    have m1 := pm_of W p1 few
    have m2 := pm_of W p2 few
    refine ⟨_, pss_cons (ps_par3 (i := 3) (j := 4) (l := 5) rfl scRisen.nd rfl rfl rfl (by decide) (by decide) (by decide) rfl rfl rfl
          (pa_cons (pe_k cB hr (ha := pa_cons (pv 1) pa_nil)) (pa_cons (pe_k cE hr (ha := pa_cons (pv 1) pa_nil)) (pa_cons (pe_lst pa_nil) pa_nil))) (by rfl))
      (pss_cons (ps_for PassesOwn.never rfl (pi_list (pe_k cE hr (ha := pa_cons (pv 2) pa_nil))) (pg_name (i := 6) scRisen.nd rfl (.inl rfl))
        (pss_one (ps_for PassesOwn.never rfl (pi_list (pe_lst (pa_cons (pv 6) (pa_cons (pe_revP (pv 6)) pa_nil)))) (pg_tup rfl (pgs_cons (pg_name (i := 7) scRisen.nd rfl (.inl rfl)) (pgs_cons (pg_name (i := 8) scRisen.nd rfl (.inl rfl)) pgs_nil)))
          (pss_one (ps_if (PW.pt (pw_and (pt_cmpR (op_notInD (hr65 hr)) (pv 6) (pv 4) rfl)
              (pw_and (pt_cmpR op_lt (pe_k cR hr (ha := pa_cons (pv 0) (pa_cons (pv 7) (pa_cons (pv 8) pa_nil)))) (pe_k cR hr (ha := pa_cons (pv 0) (pa_cons (pv 7) (pa_cons (pe_ix ix_any (pv 1) (pv 7) (fun _ _ => rfl)) pa_nil)))) (nomark _))
              (pw_and1 (pt_cmpR op_lt (pe_k cR hr (ha := pa_cons (pv 0) (pa_cons (pv 8) (pa_cons (pe_ix ix_any (pv 3) (pv 8) (fun _ _ => rfl)) pa_nil)))) (pe_k cR hr (ha := pa_cons (pv 0) (pa_cons (pv 8) (pa_cons (pv 7) pa_nil)))) (nomark _))))))
            (pss_one (ps_expr (pe_bm PySem.F.plainAttrs_list PySem.F.slot_list_append PySem.F.type_list_append mt_append (pv 5) (pa_cons (pe_tupZ (pa_cons (pv 7) (pa_cons (pv 8) pa_nil))) pa_nil))))
            pss_nil)))))
      (pss_one (ps_ret (pe_callB (cr_sortRows hr.units) (by rfl) T.sorted (by decide +kernel) (pa_cons (pv 5) pa_nil))))), ?_⟩
    -- before, edges, []
    refine ⟨_, rfl, oa, one, rfl, Or.inl h1, m1, fun bh H1 hb s1 eb => ?_⟩
    refine ⟨_, rfl, oa, one, rfl, Or.inr (TpZ.same h1 s1).sqT, m1, fun eh eq H2 s2 he ee pe => ?_⟩
    refine ⟨by show 0 ≤ sizeLine; decide, fun fl hfl => ⟨_, _, _, rfl, ?_⟩⟩
    have s3 := same_new (o := .lst []) hfl
    have s03 := (s1.trans s2).trans s3
    have n0 : H fl = none := (s1.trans s2).free hfl
    have nb : bh ≠ fl := ne_of_none (s2 _ _ eb) hfl
    have ne' : eh ≠ fl := ne_of_none ee hfl
    -- for pair in edges of the other
    refine ⟨_, rfl, ra, other, rfl, h2.same s03, m2, fun D qs H4 s4 hD eD pD => ⟨D, rfl, ⟨_, SqL.of eD⟩, ?_⟩⟩
    have efl : H4 fl = some (.lst []) := s4 _ _ upd_same
    have nD : D ≠ fl := fun z => by
      rw [z, upd_same] at hD
      cases hD
    have start : Fnd H H4 fl (foundTo ls one other 0) H4 := ⟨s03.trans s4, Sb.refl _ _, [], efl, .nil⟩
    refine for_it (walk_list (xs := qs.map V.ref)) (fun i σ H' => ∃ u v x, σ = [some (.ref la), some (.ref oa), some (.ref ra), some (.ref bh), some (.ref eh), some (.ref fl), u, v, x] ∧ Fnd H H4 fl (foundTo ls one other i) H') ⟨none, none, none, rfl, start⟩ ?_ ?_ ?_
    · rintro i σ H' _ ⟨u, v, x, rfl, F⟩
      exact SqL.of (F.sb _ _ eD nD)
    · rintro i y σ H5 H5' hi ⟨u, v, x, rfl, F⟩ ⟨rfl, hy⟩
      obtain ⟨q, e, rfl, he', tq⟩ := prs_get pD hy
      have ein : (e.1, e.2) ∈ edges other := List.mem_of_getElem? he'
      obtain ⟨ea, eb', ok1, ok2⟩ := okAt_edge W p2 ein
      have tq5 := TpZ.sb tq F.sb efl
      -- for i, j in [pair, pair[::-1]]
      refine ⟨_, rfl, _, rfl, q, _, _, rfl, tq5.sqT, NewT.use fun q2 H6 hq2 s6 t2 => ?_⟩
      refine ⟨by show 2 ≤ sizeLine; decide, fun D3 hD3 => ⟨D3, rfl, ⟨_, SqL.of upd_same⟩, ?_⟩⟩
      have s7 := same_new (o := .lst [.ref q, .ref q2]) hD3
      have F7 := (F.same s6).same s7
      have tq7 := (TpZ.same tq5 s6).same s7
      have t27 := t2.same s7
      obtain ⟨fq7, e7, p7⟩ := F7.at_
      have n3 : D3 ≠ fl := fun z => by
        obtain ⟨_, e6, _⟩ := (F.same s6).at_
        rw [z, e6] at hD3
        cases hD3
      have start2 : Fnd H (upd H6 D3 (.lst [.ref q, .ref q2])) fl (foundTo ls one other i ++ ((both e).take 0).filter (pick ls one e)) (upd H6 D3 (.lst [.ref q, .ref q2])) := by
        refine ⟨F7.s0, Sb.refl _ _, fq7, e7, ?_⟩
        simpa using p7
      refine for_it (walk_list (xs := [.ref q, .ref q2])) (fun m σ H' => ∃ v x, σ = [some (.ref la), some (.ref oa), some (.ref ra), some (.ref bh), some (.ref eh), some (.ref fl), some (.ref q), v, x] ∧
        Fnd H (upd H6 D3 (.lst [.ref q, .ref q2])) fl (foundTo ls one other i ++ ((both e).take m).filter (pick ls one e)) H') ⟨v, x, rfl, start2⟩ ?_ ?_ ?_
      · rintro m σ H' _ ⟨v, x, rfl, G⟩
        exact SqL.of (G.sb _ _ upd_same n3)
      · rintro m y σ H8 H8' hm ⟨v, x, rfl, G⟩ ⟨rfl, hy⟩
        -- which of the two
        obtain ⟨r, z, rfl, hz, tr⟩ : ∃ r z, y = V.ref r ∧ (both e)[m]? = some z ∧ TpZ H8' r [natV z.1, natV z.2] := by
          match m, hm, hy with
          | 0, _, hy =>
            cases hy
            exact ⟨q, e, rfl, rfl, TpZ.sb tq7 G.sb e7⟩
          | 1, _, hy =>
            cases hy
            exact ⟨q2, (e.2, e.1), rfl, rfl, TpZ.sb t27 G.sb e7⟩
          | m + 2, hm, _ => exact absurd hm (by simp)
        have zok : z.1 < ls.length ∧ z.2 < ls.length ∧ okAt ls z.1 z.2 ∧ okAt ls z.2 z.1 := by
          match m, hm, hz with
          | 0, _, hz =>
            cases hz
            exact ⟨ea, eb', ok1, ok2⟩
          | 1, _, hz =>
            cases hz
            exact ⟨eb', ea, ok2, ok1⟩
          | m + 2, hm, _ => exact absurd hm (by simp)
        obtain ⟨z1, z2, zo1, zo2⟩ := zok
        have S8 := G.s0
        have L8 := hL.same S8
        have eh8 : H8' eh = some (.lst (eq.map V.ref)) := by
          refine G.sb _ _ (s7 _ _ (s6 _ _ (F.sb _ _ (s4 _ _ ?_) ne'))) ne'
          rw [upd_ne ne']
          exact ee
        have bh8 : H8' bh = some (.lst (rowV (bef one))) := by
          refine G.sb _ _ (s7 _ _ (s6 _ _ (F.sb _ _ (s4 _ _ ?_) nb))) nb
          rw [upd_ne nb]
          exact s2 _ _ eb
        have pe8 : Prs H8' eq (edges one) := by
          have q4 := (pe.same s3).same s4
          exact ((Prs.sb q4 F.sb efl).same s6 |>.same s7).sb G.sb e7
        have tq8 := TpZ.sb tq7 G.sb e7
        refine ⟨r, _, rfl, tr.sqT, rfl, _, _, rfl, _, _, rfl, rfl, ?_⟩
        have skip : pick ls one e z = false → Fnd H (upd H6 D3 (.lst [.ref q, .ref q2])) fl (foundTo ls one other i ++ ((both e).take (m + 1)).filter (pick ls one e)) H8' := fun hp => by
          rw [both_filter hz, if_neg (by rw [hp]; exact Bool.false_ne_true), List.append_nil]
          exact G
        -- pair not in edges_here
        refine ⟨_, rfl, _, rfl, pairD e, (edges one).map pairD, pair_dp tq8, .lst (SqL.of eh8) (prs_dp pe8), pair_shaped e, pairs_shapedL _, _, rfl, ?_⟩
        rw [any_eqv]
        refine ifb (fun c1 => ?_) (fun c1 => ?_)
        rotate_left
        · refine iteF ?_
          exact ⟨_, _, rfl, skip (by unfold pick; rw [c1]; rfl)⟩
        · refine ⟨_, rfl, _, rfl, _, rfl, la, ls, z.1, z.2, rfl, L8, z1, zo1, ?_⟩
          refine ⟨_, rfl, _, rfl, _, rfl, _, rfl, oa, _, _, _, rfl, rfl, Or.inr (TpZ.same h1 S8).sqT, atI_row (by rw [p1.len]; exact z1), la, ls, z.1, one.getD z.1 0, rfl, L8, z1, okAt_nx p1 z1, ?_⟩
          refine ⟨_, _, rfl, rfl, _, rfl, ?_⟩
          refine ifb (fun c2 => ?_) (fun c2 => ?_)
          rotate_left
          · have c2 : decide (((rnk ls z.1 z.2 : Nat) : Int) < ((rnk ls z.1 (one.getD z.1 0) : Nat) : Int)) = false := c2
            rw [dlt] at c2
            refine iteF ?_
            exact ⟨_, _, rfl, skip (by unfold pick rise; rw [c2, Bool.false_and, Bool.and_false])⟩
          · have c2 : decide (((rnk ls z.1 z.2 : Nat) : Int) < ((rnk ls z.1 (one.getD z.1 0) : Nat) : Int)) = true := c2
            rw [dlt] at c2
            refine ⟨_, rfl, _, rfl, _, rfl, _, rfl, bh, _, _, _, rfl, rfl, Or.inl (SqL.of bh8), atI_row (by rw [bef_len, p1.len]; exact z2), la, ls, z.2, (bef one).getD z.2 0, rfl, L8, z2, ?_, ?_⟩
            · rw [bef_get (by rw [p1.len]; exact z2)]
              exact okAt_bf W p1 z2
            · refine ⟨_, rfl, _, rfl, _, rfl, la, ls, z.2, z.1, rfl, L8, z2, zo2, ?_⟩
              refine ⟨_, _, rfl, rfl, _, rfl, ?_⟩
              refine ifb (fun c3 => ?_) (fun c3 => ?_)
              · have c3 : decide (((rnk ls z.2 ((bef one).getD z.2 0) : Nat) : Int) < ((rnk ls z.2 z.1 : Nat) : Int)) = true := c3
                rw [dlt, bef_get (by rw [p1.len]; exact z2)] at c3
                have hp : pick ls one e z = true := by
                  unfold pick rise
                  rw [c2, c3]
                  simpa using c1
                obtain ⟨fq8, e8, _⟩ := G.at_
                refine ⟨_, rfl, Or.inl ⟨rfl, _, SqL.of e8⟩, _, rfl, _, rfl, by show 2 ≤ sizeLine; decide, NewT.use fun q9 H9 hq9 s9 t9 => ?_⟩
                obtain ⟨xs, ex, lx, G9⟩ := (G.same s9).push n0 t9
                refine ⟨fl, xs, _, rfl, rfl, ex, ?_, _, _, rfl, ?_⟩
                · rw [lx]
                  refine found_line (ls := ls) (one := one) (by rw [p2.len]; exact few) i _ ?_
                  rw [List.length_append]
                  have : (((both e).take m).filter (pick ls one e)).length ≤ 2 := by
                    refine Nat.le_trans (List.length_filter_le _ _) ?_
                    rw [List.length_take]
                    exact Nat.min_le_right _ _
                  omega
                · rw [both_filter hz, if_pos hp, ← List.append_assoc]
                  exact G9
              · have c3 : decide (((rnk ls z.2 ((bef one).getD z.2 0) : Nat) : Int) < ((rnk ls z.2 z.1 : Nat) : Int)) = false := c3
                rw [dlt, bef_get (by rw [p1.len]; exact z2)] at c3
                exact ⟨_, _, rfl, skip (by unfold pick rise; rw [c3, Bool.and_false, Bool.and_false])⟩
      · rintro σ H9 ⟨v, x, rfl, G⟩
        have full : (both e).take [V.ref q, V.ref q2].length = both e := rfl
        rw [full] at G
        refine ⟨_, _, _, rfl, ?_⟩
        rw [foundTo_succ he']
        exact ⟨G.s0, fun b o hb nb' => G.sb b o (s7 _ _ (s6 _ _ (F.sb b o hb nb'))) nb', G.at_⟩
    · rintro σ H9 ⟨u, v, x, rfl, F⟩
      have len : (qs.map V.ref).length = (edges other).length := by rw [List.length_map, all2_len pD]
      rw [len, foundTo_all] at F
      obtain ⟨fq, e9, p9⟩ := F.at_
      refine ⟨_, rfl, sort_read e9 p9 fun D' qs' H' s' hD' eD' pD' => ?_⟩
      exact hQ D' qs' H' (F.s0.trans s') (F.s0.free hD') eD' pD'
end
end KL

/-! ## KD10 -/
namespace KL
open PySem PySem.Spec PyProof.Rows L2 KR KM
section
variable {X : Cx}
/-- x not in t, t a tuple of data -/
def rNotInT (K : PySem.W.Frag) : R2 := fun x y H Q => ∃ d ds, Dp K H x d ∧ Dp K H y (.tuple ds) ∧ SeqAt.shaped d = true ∧ PyData.canLayAll0 ds = true ∧ Q (.bl (!ds.any fun z => PyData.eqv z d)) H
theorem op_notInT (hu : X.A.units + 65 < cLine) : OpR X (compareOp .NotIn) (rNotInT X.K) := by
  intro pins s σ H x y v u Q I rx ry h
  obtain ⟨d, ds, hd, he, sd, se, q⟩ := h
  obtain ⟨as, r1⟩ := Dp.reads I d x v hd rx
  obtain ⟨bs, r2⟩ := Dp.reads I (.tuple ds) y u he ry
  refine SeqAt.notIn_tuple_reads r2 r1 se (SeqAt.canLay_of_shaped sd) ?_ ⟨.bl _, H, I, rfl, q⟩
  have h1 := SeqAt.depth_of_shaped sd
  have h2 := Nat.min_le_right (PyData.depthAll ds) d.depth
  omega
end
section
variable {P : Program} {w : World} {K : PySem.W.Frag} {mg : Str → Option Value} {base : Heap}

/-! ### risen_pairs -/
def spRisenPairs (K : PySem.W.Frag) (C : Addr) : Sp := fun vs H Q _ => ∃ (wp oa ra : Addr) (ls : List (List Nat)) (one other : List Nat), vs = [.ref wp, .ref oa, .ref ra] ∧ WAt K C H wp ls ∧ SqT K H oa (rowV one) ∧ SqT K H ra (rowV other) ∧ WF ls ∧ Par ls one ∧ Par ls other ∧ ls.length ≤ 60 ∧
  ∀ D qs H', Same H H' → H D = none → TpZ H' D (qs.map V.ref) → Prs H' qs (risenL ls one other) → Q (.ref D) H'
abbrev nRp : List Str := ["wishes", "one", "other", "before", "found", "pair", "i", "j"]
theorem scRp : FnScope nRp ["wishes", "one", "other"] (defScope (top 23)) := ⟨rfl, rfl, rfl, by decide +kernel, rfl, by decide +kernel, by decide +kernel⟩
theorem ok_risen_pairs (T : Tx mg) {C : Addr} (D : DefAt K mg "risen_pairs" 23) (cB : Call P w K mg base 1 "before_in" ["parting"] (spBeforeIn K)) (cE : Call P w K mg base 1 "edges_of" ["parting"] (spEdgesOf K))
    (cH : Call P w K mg base 2 "is_high" ["wishes", "parting", "one", "other"] (spHigh K C)) (cL : Call P w K mg base 2 "is_low" ["wishes", "before", "one", "other"] (spLow K C)) : Call P w K mg base 3 "risen_pairs" ["wishes", "one", "other"] (spRisenPairs K C) := by
  refine Call.mk' D scRp (fun _ _ _ _ _ _ us hl => match us, hl with | [_, _, _], _ => rfl) (fun vs H Q E h => ?_) (fun f cdv A outer s H vs Q E hr h => ?_)
  · obtain ⟨la, oa, ra, ls, one, other, rfl, _⟩ := h
    rfl
  · obtain ⟨wp, oa, ra, ls, one, other, rfl, hL, h1, h2, W, p1, p2, few, hQ⟩ := h
    have m1 := pm_of W p1 few
    have m2 := pm_of W p2 few
    refine ⟨_, pss_cons (ps_par (i := 3) (j := 4) rfl scRp.nd rfl rfl (by decide) rfl rfl (pa_cons (pe_k cB hr (ha := pa_cons (pv 1) pa_nil)) (pa_cons (pe_lst pa_nil) pa_nil)) (by rfl))
      (pss_cons (ps_for PassesOwn.never rfl (pi_tup (pe_k cE hr (ha := pa_cons (pv 2) pa_nil))) (pg_name (i := 5) scRp.nd rfl (.inl rfl))
        (pss_one (ps_for PassesOwn.never rfl (pi_tup (pe_tupZ (pa_cons (pv 5) (pa_cons (pe_revP (pv 5)) pa_nil)))) (pg_tup rfl (pgs_cons (pg_name (i := 6) scRp.nd rfl (.inl rfl)) (pgs_cons (pg_name (i := 7) scRp.nd rfl (.inl rfl)) pgs_nil)))
          (pss_one (ps_if (PW.pt (pw_and (pt_cmpR (op_notInT (hr65 hr)) (pv 5) (pe_k cE hr (ha := pa_cons (pv 1) pa_nil)) rfl)
              (pw_and (pt_val (pe_k cH hr (ha := pa_cons (pv 0) (pa_cons (pv 1) (pa_cons (pv 6) (pa_cons (pv 7) pa_nil))))))
              (pw_and1 (pt_val (pe_k cL hr (ha := pa_cons (pv 0) (pa_cons (pv 3) (pa_cons (pv 7) (pa_cons (pv 6) pa_nil))))))))))
            (pss_one (ps_expr (pe_bm PySem.F.plainAttrs_list PySem.F.slot_list_append PySem.F.type_list_append mt_append (pv 4) (pa_cons (pe_tupZ (pa_cons (pv 6) (pa_cons (pv 7) pa_nil))) pa_nil))))
            pss_nil)))))
      (pss_one (ps_ret (pe_callTy cr_tupL (by rfl) T.tuple (by decide +kernel) (pa_cons (pe_callB (cr_sortRows hr.units) (by rfl) T.sorted (by decide +kernel) (pa_cons (pv 4) pa_nil)) pa_nil))))), ?_⟩
    refine ⟨_, rfl, oa, one, rfl, h1, m1, fun bh H1 hb s1 eb => ?_⟩
    refine ⟨by show 0 ≤ sizeLine; decide, fun fl hfl => ⟨_, _, rfl, ?_⟩⟩
    have s3 := same_new (o := .lst []) hfl
    have s03 := s1.trans s3
    have n0 : H fl = none := s1.free hfl
    refine ⟨_, rfl, ra, other, rfl, same_sqT s03 h2, m2, fun D qs H4 s4 hD eD pD => ⟨D, rfl, ⟨_, eD.sqT⟩, ?_⟩⟩
    have efl : H4 fl = some (.lst []) := s4 _ _ upd_same
    have start : Fnd H H4 fl (foundTo ls one other 0) H4 := ⟨s03.trans s4, Sb.refl _ _, [], efl, .nil⟩
    refine for_it (walk_tup (xs := qs.map V.ref)) (fun i σ H' => ∃ u v x, σ = [some (.ref wp), some (.ref oa), some (.ref ra), some (.ref bh), some (.ref fl), u, v, x] ∧ Fnd H H4 fl (foundTo ls one other i) H') ⟨none, none, none, rfl, start⟩ ?_ ?_ ?_
    · rintro i σ H' _ ⟨u, v, x, rfl, F⟩
      exact (TpZ.sb eD F.sb efl).sqT
    · rintro i y σ H5 H5' hi ⟨u, v, x, rfl, F⟩ ⟨rfl, hy⟩
      obtain ⟨q, e, rfl, he', tq⟩ := prs_get pD hy
      have ein : (e.1, e.2) ∈ edges other := List.mem_of_getElem? he'
      obtain ⟨ea, eb', ok1, ok2⟩ := okAt_edge W p2 ein
      have tq5 := TpZ.sb tq F.sb efl
      refine ⟨_, rfl, _, rfl, q, _, _, rfl, tq5.sqT, NewT.use fun q2 H6 hq2 s6 t2 => ?_⟩
      refine ⟨by show 2 ≤ sizeLine; decide, NewT.use fun D3 H7 hD3 s7 tD => ⟨D3, rfl, ⟨_, tD.sqT⟩, ?_⟩⟩
      have F7 := (F.same s6).same s7
      have tq7 := (TpZ.same tq5 s6).same s7
      have t27 := t2.same s7
      obtain ⟨fq7, e7, p7⟩ := F7.at_
      have start2 : Fnd H H7 fl (foundTo ls one other i ++ ((both e).take 0).filter (pick ls one e)) H7 := by
        refine ⟨F7.s0, Sb.refl _ _, fq7, e7, ?_⟩
        simpa using p7
      refine for_it (walk_tup (xs := [.ref q, .ref q2])) (fun m σ H' => ∃ v x, σ = [some (.ref wp), some (.ref oa), some (.ref ra), some (.ref bh), some (.ref fl), some (.ref q), v, x] ∧
        Fnd H H7 fl (foundTo ls one other i ++ ((both e).take m).filter (pick ls one e)) H') ⟨v, x, rfl, start2⟩ ?_ ?_ ?_
      · rintro m σ H' _ ⟨v, x, rfl, G⟩
        exact (TpZ.sb tD G.sb e7).sqT
      · rintro m y σ H8 H8' hm ⟨v, x, rfl, G⟩ ⟨rfl, hy⟩
        obtain ⟨r, z, rfl, hz, tr⟩ : ∃ r z, y = V.ref r ∧ (both e)[m]? = some z ∧ TpZ H8' r [natV z.1, natV z.2] := by
          match m, hm, hy with
          | 0, _, hy =>
            cases hy
            exact ⟨q, e, rfl, rfl, TpZ.sb tq7 G.sb e7⟩
          | 1, _, hy =>
            cases hy
            exact ⟨q2, (e.2, e.1), rfl, rfl, TpZ.sb t27 G.sb e7⟩
          | m + 2, hm, _ => exact absurd hm (by simp)
        have zok : z.1 < ls.length ∧ z.2 < ls.length ∧ okAt ls z.1 z.2 ∧ okAt ls z.2 z.1 := by
          match m, hm, hz with
          | 0, _, hz =>
            cases hz
            exact ⟨ea, eb', ok1, ok2⟩
          | 1, _, hz =>
            cases hz
            exact ⟨eb', ea, ok2, ok1⟩
          | m + 2, hm, _ => exact absurd hm (by simp)
        obtain ⟨z1, z2, zo1, zo2⟩ := zok
        refine ⟨r, _, rfl, tr.sqT, rfl, _, _, rfl, _, _, rfl, rfl, ?_⟩
        -- pair not in edges_of(one)
        have h18 := same_sqT G.s0 h1
        refine ⟨_, rfl, _, rfl, oa, one, rfl, h18, m1, fun E1 eq H9 s9 hE1 tE1 pE1 => ?_⟩
        have G9 := G.same s9
        have tq9 := (TpZ.sb tq7 G.sb e7).same s9
        have L9 := hL.same G9.s0
        have bh9 : TpZ H9 bh (rowV (bef one)) := ((TpZ.sb (((TpZ.sb ((eb.same s3).same s4) F.sb efl).same s6).same s7) G.sb e7).same s9)
        have skip : pick ls one e z = false → Fnd H H7 fl (foundTo ls one other i ++ ((both e).take (m + 1)).filter (pick ls one e)) H9 := fun hp => by
          rw [both_filter hz, if_neg (by rw [hp]; exact Bool.false_ne_true), List.append_nil]
          exact G9
        refine ⟨pairD e, (edges one).map pairD, pair_dp tq9, .tup tE1.sqT (prs_dp pE1), pair_shaped e, (pairs_lay _).1, _, rfl, ?_⟩
        rw [any_eqv]
        refine ifb (fun c1 => ?_) (fun c1 => ?_)
        rotate_left
        · refine iteF ?_
          exact ⟨_, _, rfl, skip (by unfold pick; rw [c1]; rfl)⟩
        · refine ⟨_, rfl, _, rfl, _, rfl, _, rfl, wp, oa, ls, one, z.1, z.2, rfl, L9, Or.inr (same_sqT G9.s0 h1), p1.len, z1, zo1, okAt_nx p1 z1, _, rfl, ?_⟩
          refine ifb (fun c2 => ?_) (fun c2 => ?_)
          rotate_left
          · refine iteF ?_
            exact ⟨_, _, rfl, skip (by unfold pick rise; rw [c2, Bool.false_and, Bool.and_false])⟩
          · refine ⟨_, rfl, _, rfl, _, rfl, _, rfl, wp, bh, ls, bef one, z.2, z.1, rfl, L9, Or.inr bh9.sqT, by rw [bef_len, p1.len], z2, zo2, ?_, ?_⟩
            · rw [bef_get (by rw [p1.len]; exact z2)]
              exact okAt_bf W p1 z2
            · rw [bef_get (by rw [p1.len]; exact z2)]
              refine ⟨_, rfl, ?_⟩
              refine ifb (fun c3 => ?_) (fun c3 => ?_)
              · have hp : pick ls one e z = true := by
                  unfold pick rise
                  rw [c2, c3]
                  simpa using c1
                obtain ⟨fq8, e8, _⟩ := G9.at_
                refine ⟨_, rfl, Or.inl ⟨rfl, _, SqL.of e8⟩, _, rfl, _, rfl, by show 2 ≤ sizeLine; decide, NewT.use fun q9 H10 hq9 s10 t9 => ?_⟩
                obtain ⟨xs, ex, lx, G10⟩ := (G9.same s10).push n0 t9
                refine ⟨fl, xs, _, rfl, rfl, ex, ?_, _, _, rfl, ?_⟩
                · rw [lx]
                  refine found_line (ls := ls) (one := one) (by rw [p2.len]; exact few) i _ ?_
                  rw [List.length_append]
                  have : (((both e).take m).filter (pick ls one e)).length ≤ 2 := by
                    refine Nat.le_trans (List.length_filter_le _ _) ?_
                    rw [List.length_take]
                    exact Nat.min_le_right _ _
                  omega
                · rw [both_filter hz, if_pos hp, ← List.append_assoc]
                  exact G10
              · exact ⟨_, _, rfl, skip (by unfold pick rise; rw [c3, Bool.and_false, Bool.and_false])⟩
      · rintro σ H9 ⟨v, x, rfl, G⟩
        have full : (both e).take [V.ref q, V.ref q2].length = both e := rfl
        rw [full] at G
        refine ⟨_, _, _, rfl, ?_⟩
        rw [foundTo_succ he']
        exact ⟨G.s0, fun b o hb nb' => G.sb b o (s7 _ _ (s6 _ _ (F.sb b o hb nb'))) nb', G.at_⟩
    · rintro σ H9 ⟨u, v, x, rfl, F⟩
      have len : (qs.map V.ref).length = (edges other).length := by rw [List.length_map, all2_len pD]
      rw [len, foundTo_all] at F
      obtain ⟨fq, e9, p9⟩ := F.at_
      refine ⟨_, rfl, sort_read (K := K) (Q := fun x H2 => rTupL K [x] H2 Q) e9 p9 fun D' qs' H' s' hD' eD' pD' => ?_⟩
      refine ⟨D', _, rfl, SqL.of eD', NewT.use fun q H3 hq s3' t => ?_⟩
      exact hQ q qs' H3 ((F.s0.trans s').trans s3') ((F.s0.trans s').free hq) t (pD'.same s3')
end
end KL

/-! ## KE1 -/
namespace KL
open PySem PySem.Spec PyProof.Rows L2 KR KM
/-! ### draws -/
/-- the source of draws: its list at a, its great cells at c -/
def Src (a c : Addr) (H : Hp) : Prop := ∃ (cells : List Int) (s : Int), H a = some (.lst [.ref c, .int s]) ∧ H c = some (.lst (cells.map V.int)) ∧ cells.length ≤ 60
theorem Src.ne {a c : Addr} {H : Hp} (h : Src a c H) : a ≠ c := by
  obtain ⟨cells, s, h1, h2, _⟩ := h
  intro e
  rw [e, h2] at h1
  injection h1 with h1
  injection h1 with h1
  cases cells with
  | nil => cases h1
  | cons x l =>
    rw [List.map_cons] at h1
    injection h1 with h1 _
    cases h1
theorem Src.same {a c : Addr} {H H' : Hp} (h : Src a c H) (s : Same H H') : Src a c H' := by
  obtain ⟨cells, t, h1, h2, h3⟩ := h
  exact ⟨cells, t, s _ _ h1, s _ _ h2, h3⟩
/-- as it was, but for the source of draws -/
def Kp (a c : Addr) (H H' : Hp) : Prop := ∀ b o, H b = some o → b ≠ a → b ≠ c → H' b = some o
theorem Kp.refl (a c : Addr) (H : Hp) : Kp a c H H := fun _ _ h _ _ => h
theorem Kp.trans {a c : Addr} {H H1 H2 : Hp} (h : Kp a c H H1) (k : Kp a c H1 H2) : Kp a c H H2 := fun b o e n1 n2 => k b o (h b o e n1 n2) n1 n2
theorem Kp.of {a c : Addr} {H H1 : Hp} (h : Same H H1) : Kp a c H H1 := fun b o e _ _ => h b o e
theorem Kp.same {a c : Addr} {H H1 H2 : Hp} (h : Kp a c H H1) (k : Same H1 H2) : Kp a c H H2 := h.trans (Kp.of k)
theorem Kp.updA {a c : Addr} {H H1 : Hp} {o : HO} (h : Kp a c H H1) : Kp a c H (upd H1 a o) := fun b u e n1 n2 => by
  rw [upd_ne n1]
  exact h b u e n1 n2
theorem Kp.updC {a c : Addr} {H H1 : Hp} {o : HO} (h : Kp a c H H1) : Kp a c H (upd H1 c o) := fun b u e n1 n2 => by
  rw [upd_ne n2]
  exact h b u e n1 n2
theorem Kp.tpz {a c q : Addr} {H H' : Hp} {xs : List V} (h : TpZ H q xs) (S : Src a c H) (k : Kp a c H H') : TpZ H' q xs := by
  obtain ⟨o, d, z⟩ := h
  obtain ⟨cells, s, h1, h2, _⟩ := S
  refine ⟨o, d, k _ _ z (fun e => ?_) fun e => ?_⟩
  · rw [e, h1] at z
    cases z
  · rw [e, h2] at z
    cases z
theorem ints_dp {K : PySem.W.Frag} {H : Hp} {c : Addr} {cells : List Int} (h : H c = some (.lst (cells.map V.int))) : Dp K H (.ref c) (.list (cells.map PyData.int)) := .lst (SqL.of h) (dpAll_ints K H cells)
theorem ints_lay (l : List Int) : PyData.canLayAll0 (l.map PyData.int) = true ∧ PyData.depthAll (l.map PyData.int) = 0 := by
  refine ⟨?_, PySem.W.depth_ints l⟩
  induction l with
  | nil => simp [PyData.canLayAll0]
  | cons x l ih => rw [List.map_cons, PyData.canLayAll0, ih]; simp [PyData.canLay0]
theorem ints_shaped (l : List Int) : SeqAt.shaped (.list (l.map PyData.int)) = true := by
  obtain ⟨h1, h2⟩ := ints_lay l
  exact shaped_of (by rw [PyData.canLay0]; exact h1) (by rw [PyData.depth, h2]; decide)
theorem eqv_nil (l : List Int) : PyData.eqv (.list (l.map PyData.int)) (.list []) = l.isEmpty := by
  cases l <;> simp [PyData.eqv, PyData.eqvAll]
section
variable {P : Program} {w : World} {K : PySem.W.Frag} {mg : Str → Option Value} {base : Heap}
def spDraw : Sp := fun vs H Q _ => ∃ (a c : Addr) (m : Nat), vs = [.ref a, natV m] ∧ Src a c H ∧ 0 < m ∧ m < 1073741824 ∧ ∀ d H', d < m → Kp a c H H' → Src a c H' → Q (natV d) H'
abbrev nDraw : List Str := ["_law_heap_here", "_law_many", "_law_rest"]
theorem scDraw : FnScope nDraw ["_law_heap_here", "_law_many"] (defScope (top 26)) := ⟨rfl, rfl, rfl, by decide +kernel, rfl, by decide +kernel, by decide +kernel⟩
theorem mod_nat {x : Int} {m : Nat} (h : 0 < m) : ∃ d : Nat, d < m ∧ x % (m : Int) = (d : Int) := by
  have h1 := Int.emod_nonneg x (show (m : Int) ≠ 0 by omega)
  have h2 := Int.emod_lt_of_pos x (show (0 : Int) < m by omega)
  exact ⟨(x % (m : Int)).toNat, by omega, by omega⟩
/-- heap[0] != [] -/
theorem ne_nil_read {K : PySem.W.Frag} {H : Hp} {a c : Addr} {cells : List Int} {t : Int} (h1 : H a = some (.lst [.ref c, .int t])) (h2 : H c = some (.lst (cells.map V.int))) {σ : L2.St} {Q : Bool → Hp → Prop} (h0 : σ[0]? = some (some (.ref a)))
    (hQ : ∀ H', Same H H' → Q (!cells.isEmpty) H') : tTest (tOp (rNeD K) (tOp (rIxA K) (tVar 0) (tC (.int 0))) (tLst tNil)) σ H Q := by
  refine ⟨_, h0, a, _, 0, _, rfl, rfl, Or.inl (SqL.of h1), rfl, ?_⟩
  refine ⟨by show 0 ≤ sizeLine; decide, fun p hp => ?_⟩
  have s1 := same_new (o := .lst []) hp
  refine ⟨.list (cells.map PyData.int), .list [], ints_dp (s1 _ _ h2), .lst (SqL.of upd_same) .nil, ints_shaped cells, ints_shaped [], _, rfl, ?_⟩
  rw [eqv_nil]
  exact hQ _ s1
theorem ok_draw (T : Tx mg) (D : DefAt K mg "_law_draw" 26) : Call P w K mg base 1 "_law_draw" ["_law_heap_here", "_law_many"] spDraw := by
  refine Call.mk' D scDraw (fun _ _ _ _ _ _ us hl => match us, hl with | [_, _], _ => rfl) (fun vs H Q E h => ?_) (fun f cdv A outer s H vs Q E hr h => ?_)
  · obtain ⟨a, c, m, rfl, _⟩ := h
    rfl
  · obtain ⟨a, c, m, rfl, hS, m0, m1, hQ⟩ := h
    refine ⟨_, Evl.pss_cut (ps_while PassesOwn.never (PW.pt (pw_and (pt_cmpR (op_neD hr.units) (pe_ix ix_any (pv 0) pe_int (fun _ _ => rfl)) (pe_lst pa_nil) (nomark _))
          (pw_and1 (pt_cmpR op_eq (pe_ix ix_any (pe_ix ix_any (pv 0) pe_int (fun _ _ => rfl)) (pe_un un_neg pe_int) (fun _ _ => rfl)) pe_int (nomark _)))))
        (pss_one (ps_expr (pe_bm0 PySem.F.plainAttrs_list PySem.F.slot_list_pop PySem.F.type_list_pop mt_pop (pe_ix ix_any (pv 0) pe_int (fun _ _ => rfl))))))
      (pss_cons (ps_if (pt_cmpR (op_neD hr.units) (pe_ix ix_any (pv 0) pe_int (fun _ _ => rfl)) (pe_lst pa_nil) (nomark _))
        (pss_cons (ps_set (i := 2) scDraw.nd rfl (.inl rfl) (pe_bm0 PySem.F.plainAttrs_list PySem.F.slot_list_pop PySem.F.type_list_pop mt_pop (pe_ix ix_any (pv 0) pe_int (fun _ _ => rfl))))
          (pss_cons (ps_expr (pe_bm PySem.F.plainAttrs_list PySem.F.slot_list_append PySem.F.type_list_append mt_append (pe_ix ix_any (pv 0) pe_int (fun _ _ => rfl)) (pa_cons (pe_op op_fdiv (pv 2) (pv 1)) pa_nil)))
          (pss_one (ps_ret (pe_op op_mod (pe_callTy call_int1 (by rfl) T.int (by decide +kernel) (pa_cons (pv 2) pa_nil)) (pv 1)))))) pss_nil)
      (pss_cons (ps_asg (pe_op op_mod (pe_callTy call_int1 (by rfl) T.int (by decide +kernel) (pa_cons (pe_op op_add (pe_op op_mul (pe_ix ix_any (pv 0) pe_int (fun _ _ => rfl)) pe_int) pe_int) pa_nil)) pe_int) (pg_sub (pv 0) pe_int set_list))
      (pss_one (ps_ret (pe_op op_mod (pe_callTy call_int1 (by rfl) T.int (by decide +kernel) (pa_cons (pe_op op_fdiv (pe_ix ix_any (pv 0) pe_int (fun _ _ => rfl)) pe_int) pa_nil)) (pv 1)))))), ?_⟩
    obtain ⟨cells0, t0, a0, c0, l0⟩ := hS
    refine ⟨fun σ H' => ∃ (u : Option V) (cells : List Int) (t : Int), σ = [some (.ref a), some (natV m), u] ∧ Kp a c H H' ∧ H' a = some (.lst [.ref c, .int t]) ∧ H' c = some (.lst (cells.map V.int)) ∧ cells.length ≤ 60, ?_, ?_⟩
    · refine ⟨fun n σ H' => ∃ (u : Option V) (cells : List Int) (t : Int), σ = [some (.ref a), some (natV m), u] ∧ Kp a c H H' ∧ H' a = some (.lst [.ref c, .int t]) ∧ H' c = some (.lst (cells.map V.int)) ∧ cells.length = n ∧ n ≤ 60, ⟨_, none, cells0, t0, rfl, Kp.refl _ _ _, a0, c0, rfl, l0⟩, ?_⟩
      rintro n σ H1 ⟨u, cells, t, rfl, k1, a1, c1, ln, lm⟩
      have ac : a ≠ c := Src.ne ⟨cells, t, a1, c1, by omega⟩
      refine ne_nil_read (K := K) a1 c1 rfl fun H2 s2 => ?_
      have a2 := s2 _ _ a1
      have c2 := s2 _ _ c1
      have k2 := k1.same s2
      refine ifb (fun e => ?_) (fun e => ?_)
      rotate_left
      · refine iteF ?_
        exact ⟨u, cells, t, rfl, k2, a2, c2, by omega⟩
      · have ne : cells ≠ [] := fun z => by
          rw [z] at e
          cases e
        obtain ⟨init, x, ex⟩ : ∃ init x, cells = init ++ [x] := ⟨cells.dropLast, cells.getLast ne, (List.dropLast_concat_getLast ne).symm⟩
        subst ex
        have em : (init ++ [x]).map V.int = init.map V.int ++ [V.int x] := by rw [List.map_append]; rfl
        refine ⟨_, rfl, a, _, 0, _, rfl, rfl, Or.inl (SqL.of a2), rfl, 1, rfl, ?_⟩
        refine ⟨c, _, -1, .int x, rfl, rfl, Or.inl (SqL.of c2), by rw [em]; exact atI_last _ _, rfl, _, rfl, ?_⟩
        refine ifb (fun e2 => ?_) (fun e2 => ?_)
        rotate_left
        · skip
          exact ⟨u, _, t, rfl, k2, a2, c2, by omega⟩
        · refine ⟨fun σ' H' => ∃ (u : Option V) (cells : List Int) (t : Int), σ' = [some (.ref a), some (natV m), u] ∧ Kp a c H H' ∧ H' a = some (.lst [.ref c, .int t]) ∧ H' c = some (.lst (cells.map V.int)) ∧ cells.length + 1 = n, ?_, ?_⟩
          · rintro σ' H' ⟨u', cells', t', rfl, k', a', c', l'⟩
            exact ⟨cells'.length, by omega, u', cells', t', rfl, k', a', c', rfl, by omega⟩
          · refine ⟨_, rfl, a, _, 0, _, rfl, rfl, Or.inl (SqL.of a2), rfl, Or.inl ⟨rfl, _, SqL.of c2⟩, c, _, .int x, rfl, rfl, c2, ?_, ?_⟩
            · rw [em]
              simp
            · refine ⟨u, init, t, rfl, k2.updC, ?_, ?_, by simpa using ln⟩
              · rw [upd_ne ac]
                exact a2
              · rw [upd_same, em, List.dropLast_concat]
    · rintro σ H1 ⟨u, cells, t, rfl, k1, a1, c1, lm⟩
      have ac : a ≠ c := Src.ne ⟨cells, t, a1, c1, lm⟩
      refine ne_nil_read (K := K) a1 c1 rfl fun H2 s2 => ?_
      have a2 := s2 _ _ a1
      have c2 := s2 _ _ c1
      have k2 := k1.same s2
      refine ifb (fun e => ?_) (fun e => ?_)
      · -- rest = heap[0].pop(); heap[0].append(rest // many)
        have ne : cells ≠ [] := fun z => by
          rw [z] at e
          cases e
        obtain ⟨init, x, ex⟩ : ∃ init x, cells = init ++ [x] := ⟨cells.dropLast, cells.getLast ne, (List.dropLast_concat_getLast ne).symm⟩
        subst ex
        have em : (init ++ [x]).map V.int = init.map V.int ++ [V.int x] := by rw [List.map_append]; rfl
        have lm2 : init.length + 1 ≤ 60 := by simpa using lm
        refine ⟨_, rfl, a, _, 0, _, rfl, rfl, Or.inl (SqL.of a2), rfl, Or.inl ⟨rfl, _, SqL.of c2⟩, c, _, .int x, rfl, rfl, c2, by rw [em]; simp, ?_⟩
        have c3 : upd H2 c (.lst ((init ++ [x]).map V.int).dropLast) c = some (.lst (init.map V.int)) := by
          rw [upd_same, em, List.dropLast_concat]
        have a3 : upd H2 c (.lst ((init ++ [x]).map V.int).dropLast) a = some (.lst [.ref c, .int t]) := by
          rw [upd_ne ac]
          exact a2
        refine ⟨_, rfl, a, _, 0, _, rfl, rfl, Or.inl (SqL.of a3), rfl, Or.inl ⟨rfl, _, SqL.of c3⟩, ?_⟩
        refine ⟨_, rfl, _, rfl, x, (m : Int), rfl, rfl, ⟨by omega, by omega⟩, ?_⟩
        refine ⟨c, _, _, rfl, rfl, c3, by rw [List.length_map]; exact line60 (by omega), ?_⟩
        obtain ⟨d, d1, d2⟩ := mod_nat (x := x) m0
        refine ⟨_, rfl, Or.inl ⟨x, rfl, _, rfl, x, (m : Int), rfl, rfl, by omega, ?_⟩⟩
        have q := hQ d (upd (upd H2 c (.lst ((init ++ [x]).map V.int).dropLast)) c (.lst (init.map V.int ++ [.int (x / (m : Int))]))) d1 k2.updC.updC ?_
        · show Q (.int (x % (m : Int))) _
          rw [d2]
          exact q
        · refine ⟨init ++ [x / (m : Int)], t, ?_, ?_, by simpa using lm2⟩
          · rw [upd_ne ac]
            exact a3
          · rw [upd_same, List.map_append]
            rfl
      · -- heap[1] = ..
        refine ⟨_, rfl, a, _, 1, _, rfl, rfl, Or.inl (SqL.of a2), rfl, t, 69621, rfl, rfl, Or.inr ⟨by decide, by decide⟩, _, _, rfl, rfl, Or.inl ⟨_, rfl, _, 2147483647, rfl, rfl, (by omega : (0:Int) < 2147483647), ?_⟩⟩
        refine ⟨_, rfl, a, _, 1, 1, rfl, rfl, a2, rfl, ?_⟩
        have a3 : upd H2 a (.lst ([V.ref c, V.int t].set 1 (.int ((t * 69621 + 59) % 2147483647)))) a = some (.lst [.ref c, .int ((t * 69621 + 59) % 2147483647)]) := upd_same
        have c3 : upd H2 a (.lst ([V.ref c, V.int t].set 1 (.int ((t * 69621 + 59) % 2147483647)))) c = some (.lst (cells.map V.int)) := by
          rw [upd_ne ac.symm]
          exact c2
        obtain ⟨d, d1, d2⟩ := mod_nat (x := (t * 69621 + 59) % 2147483647 / 32) m0
        refine ⟨_, rfl, a, _, 1, _, rfl, rfl, Or.inl (SqL.of a3), rfl, _, 32, rfl, rfl, ⟨(by omega : (0:Int) < 32), (by omega : (32:Int) < 1073741824)⟩, Or.inl ⟨_, rfl, _, rfl, _, (m : Int), rfl, rfl, by omega, ?_⟩⟩
        have q := hQ d _ d1 (k2.updA (o := .lst ([V.ref c, V.int t].set 1 (.int ((t * 69621 + 59) % 2147483647))))) ⟨cells, _, a3, c3, lm⟩
        show Q (.int ((t * 69621 + 59) % 2147483647 / 32 % (m : Int))) _
        rw [d2]
        exact q
end
end KL

/-! ## KE2 -/
namespace KL
open PySem PySem.Spec PyProof.Rows L2 KR KM
theorem Kp.free {a c : Addr} {H H1 : Hp} {b : Addr} (k : Kp a c H H1) (S : Src a c H1) (h : H1 b = none) : H b = none := by
  obtain ⟨cells, t, h1, h2, _⟩ := S
  cases q : H b with
  | none => rfl
  | some o =>
    by_cases e1 : b = a
    · rw [e1, h1] at h
      cases h
    · by_cases e2 : b = c
      · rw [e2, h2] at h
        cases h
      · rw [k b o q e1 e2] at h
        cases h
theorem Kp.own {a c : Addr} {H H1 : Hp} {D : Addr} {o : HO} (k : Kp a c H H1) (h : H D = none) : Kp a c H (upd H1 D o) := fun b u e n1 n2 => by
  rw [upd_ne (ne_of_none e h)]
  exact k b u e n1 n2
theorem Src.off {a c : Addr} {H : Hp} {D : Addr} (S : Src a c H) (h : H D = none) : D ≠ a ∧ D ≠ c := by
  obtain ⟨cells, t, h1, h2, _⟩ := S
  refine ⟨fun e => ?_, fun e => ?_⟩
  · rw [e, h1] at h
    cases h
  · rw [e, h2] at h
    cases h
theorem Src.own {a c : Addr} {H H1 : Hp} {D : Addr} {o : HO} (S0 : Src a c H) (h : H D = none) (S : Src a c H1) : Src a c (upd H1 D o) := by
  obtain ⟨n1, n2⟩ := S0.off h
  obtain ⟨cells, t, h1, h2, h3⟩ := S
  exact ⟨cells, t, by rw [upd_ne n1.symm]; exact h1, by rw [upd_ne n2.symm]; exact h2, h3⟩
theorem Src.new {a c : Addr} {H : Hp} {D : Addr} {o : HO} (S : Src a c H) (h : H D = none) : Src a c (upd H D o) := S.own h S
theorem erase_perm : ∀ {α : Type} {l : List α} {k : Nat} {y : α}, l[k]? = some y → (y :: l.eraseIdx k).Perm l
  | _, [], _, _, h => by simp at h
  | _, x :: l, 0, y, h => by
    have h : x = y := by simpa using h
    subst h
    exact List.Perm.refl _
  | _, x :: l, k + 1, y, h => by
    have ih := erase_perm (l := l) (k := k) (y := y) (by simpa using h)
    show (y :: x :: l.eraseIdx k).Perm (x :: l)
    exact (List.Perm.swap x y _).trans (ih.cons x)
def num : V → Nat
  | .int i => i.toNat
  | _ => 0
theorem rowV_num (l : List Nat) : (rowV l).map num = l := by
  unfold rowV
  rw [List.map_map]
  have : (num ∘ natV) = id := by
    funext n
    show (n : Int).toNat = n
    omega
  rw [this, List.map_id]
theorem perm_row {ys : List V} {l : List Nat} (h : ys.Perm (rowV l)) : ∃ m, ys = rowV m ∧ m.Perm l := by
  refine ⟨ys.map num, ?_, ?_⟩
  · have : ∀ y ∈ ys, ∃ n, y = natV n := fun y hy => by
      obtain ⟨n, _, e⟩ := List.mem_map.mp (h.mem_iff.mp hy)
      exact ⟨n, e.symm⟩
    unfold rowV
    rw [List.map_map]
    have e : ys.map (natV ∘ num) = ys.map id := List.map_congr_left fun y hy => by
      obtain ⟨n, rfl⟩ := this y hy
      show natV (n : Int).toNat = natV n
      rw [Int.toNat_natCast]
    rw [e, List.map_id]
  · have := h.map num
    rwa [rowV_num] at this
section
variable {P : Program} {w : World} {K : PySem.W.Frag} {mg : Str → Option Value} {base : Heap}

/-! ### _law_pick -/
def spPick (K : PySem.W.Frag) : Sp := fun vs H Q _ => ∃ (a c b : Addr) (xs : List V), vs = [.ref a, .ref b] ∧ Src a c H ∧ (∀ H', Kp a c H H' → SqA K H' b xs) ∧ 0 < xs.length ∧ xs.length < 1073741824 ∧
  ∀ (i : Nat) (v : V) (H' : Hp), xs[i]? = some v → Kp a c H H' → Src a c H' → Q v H'
theorem scPick : FnScope ["_law_heap_here", "_law_some"] ["_law_heap_here", "_law_some"] (defScope (top 27)) := ⟨rfl, rfl, rfl, by decide +kernel, rfl, by decide +kernel, by decide +kernel⟩
theorem ok_pick (T : Tx mg) (D : DefAt K mg "_law_pick" 27) (cD : Call P w K mg base 1 "_law_draw" ["_law_heap_here", "_law_many"] spDraw) : Call P w K mg base 2 "_law_pick" ["_law_heap_here", "_law_some"] (spPick K) := by
  refine Call.mk' D scPick (fun _ _ _ _ _ _ us hl => match us, hl with | [_, _], _ => rfl) (fun vs H Q E h => ?_) (fun f cdv A outer s H vs Q E hr h => ?_)
  · obtain ⟨a, c, b, xs, rfl, _⟩ := h
    rfl
  · obtain ⟨a, c, b, xs, rfl, hS, hst, l0, l1, hQ⟩ := h
    refine ⟨_, pss_one (ps_ret (pe_ix ix_any (pv 1) (pe_k cD hr (ha := pa_cons (pv 0) (pa_cons (pe_callB cr_lenA (by rfl) T.len boot_len (pa_cons (pv 1) pa_nil)) pa_nil))) (fun _ _ => rfl))), ?_⟩
    refine ⟨_, rfl, _, rfl, _, rfl, b, _, rfl, hst _ (Kp.refl _ _ _), a, c, xs.length, rfl, hS, l0, l1, fun d H' hd k S => ?_⟩
    exact ⟨b, xs, _, _, rfl, rfl, hst _ k, atI_nat (List.getElem?_eq_getElem hd), hQ d _ H' (List.getElem?_eq_getElem hd) k S⟩

/-! ### _law_mixed -/
def spMixed (K : PySem.W.Frag) : Sp := fun vs H Q _ => ∃ (a c b : Addr) (xs : List V), vs = [.ref a, .ref b] ∧ Src a c H ∧ SqA K H b xs ∧ xs.length ≤ 60 ∧
  ∀ D ys H', ys.Perm xs → H D = none → Kp a c H H' → Src a c H' → H' D = some (.lst ys) → Q (.ref D) H'
theorem scMixed : FnScope ["_law_heap_here", "_law_some", "_law_left", "_law_found", "_law_turn"] ["_law_heap_here", "_law_some"] (defScope (top 28)) := ⟨rfl, rfl, rfl, by decide +kernel, rfl, by decide +kernel, by decide +kernel⟩
theorem ok_mixed (T : Tx mg) (D : DefAt K mg "_law_mixed" 28) (cD : Call P w K mg base 1 "_law_draw" ["_law_heap_here", "_law_many"] spDraw) : Call P w K mg base 2 "_law_mixed" ["_law_heap_here", "_law_some"] (spMixed K) := by
  refine Call.mk' D scMixed (fun _ _ _ _ _ _ us hl => match us, hl with | [_, _], _ => rfl) (fun vs H Q E h => ?_) (fun f cdv A outer s H vs Q E hr h => ?_)
  · obtain ⟨a, c, b, xs, rfl, _⟩ := h
    rfl
  · obtain ⟨a, c, b, xs, rfl, hS, hb, few, hQ⟩ := h
    refine ⟨_, pss_cons (ps_par (i := 2) (j := 3) rfl scMixed.nd rfl rfl (by decide) rfl rfl (pa_cons (pe_callTy call_list_of (by rfl) T.list (by decide +kernel) (pa_cons (pv 1) pa_nil)) (pa_cons (pe_lst pa_nil) pa_nil)) (by rfl))
      (pss_cons (ps_for PassesOwn.never rfl (pi_range1 rfl T.range (pa_cons (pe_callB cr_lenA (by rfl) T.len boot_len (pa_cons (pv 1) pa_nil)) pa_nil)) (pg_name (i := 4) scMixed.nd rfl (.inl rfl))
        (pss_one (ps_expr (pe_bm PySem.F.plainAttrs_list PySem.F.slot_list_append PySem.F.type_list_append mt_append (pv 3) (pa_cons
          (pe_bm PySem.F.plainAttrs_list PySem.F.slot_list_pop PySem.F.type_list_pop mt_popAt (pv 2) (pa_cons (pe_k cD hr (ha := pa_cons (pv 0) (pa_cons (pe_callB cr_lenA (by rfl) T.len boot_len (pa_cons (pv 2) pa_nil)) pa_nil))) pa_nil)) pa_nil)))))
      (pss_one (ps_ret (pv 3)))), ?_⟩
    refine ⟨_, rfl, b, _, rfl, hb, fun l hl => ?_⟩
    refine ⟨by show 0 ≤ sizeLine; decide, fun f hf => ⟨_, _, rfl, ?_⟩⟩
    have s1 := same_new (o := .lst xs) hl
    have f0 : H f = none := s1.free hf
    have lf : l ≠ f := fun e => by
      rw [e, upd_same] at hf
      cases hf
    have s2 := same_then (o := .lst []) s1 hf
    refine ⟨_, rfl, b, _, rfl, hb.same s2, _, rfl, by omega, by omega, ?_⟩
    refine for_range (lo := 0) (n := ((xs.length : Nat) : Int).toNat) (fun i σ H' => ∃ (u : Option V) (L F : List V), σ = [some (.ref a), some (.ref b), some (.ref l), some (.ref f), u] ∧ Kp a c H H' ∧ Src a c H' ∧ H' l = some (.lst L) ∧ H' f = some (.lst F) ∧ (F ++ L).Perm xs ∧ F.length = i)
      ⟨none, xs, [], rfl, Kp.of s2, hS.same s2, by rw [upd_ne lf]; exact upd_same, upd_same, List.Perm.refl _, rfl⟩ ?_ ?_
    · rintro i σ H1 hi ⟨u, L, F, rfl, k1, S1, eL, eF, pm, hl2⟩
      have hi : i < xs.length := by omega
      have hlen := pm.length_eq
      rw [List.length_append] at hlen
      refine ⟨_, rfl, Or.inl ⟨rfl, _, SqL.of eF⟩, _, rfl, Or.inl ⟨rfl, _, SqL.of eL⟩, _, rfl, _, rfl, l, _, rfl, Or.inl (SqL.of eL), a, c, L.length, rfl, S1, by omega, by omega, fun d H2 hd k S2 => ?_⟩
      obtain ⟨nl1, nl2⟩ := hS.off hl
      obtain ⟨nf1, nf2⟩ := hS.off f0
      have eL2 := k _ _ eL nl1 nl2
      have eF2 := k _ _ eF nf1 nf2
      refine ⟨l, L, (d : Int), d, _, rfl, rfl, eL2, by omega, by omega, ?_, List.getElem?_eq_getElem hd, ?_⟩
      · unfold seqIndex?
        have : ¬ ((d : Int) < 0) := by omega
        simp [this]
        omega
      · refine ⟨f, F, _, rfl, rfl, ?_, line60 (by omega), _, L.eraseIdx d, _, rfl, (k1.trans k).own hl |>.own f0, Src.own hS f0 (Src.own hS hl S2), ?_, upd_same, ?_, ?_⟩
        · rw [upd_ne lf.symm]
          exact eF2
        · rw [upd_ne lf]
          exact upd_same
        · rw [List.append_assoc]
          exact ((erase_perm (List.getElem?_eq_getElem hd)).append_left F).trans pm
        · rw [List.length_append, hl2]
          rfl
    · rintro σ H1 ⟨u, L, F, rfl, k1, S1, eL, eF, pm, hl2⟩
      have hlen := pm.length_eq
      rw [List.length_append] at hlen
      have : L = [] := List.eq_nil_of_length_eq_zero (by omega)
      subst this
      rw [List.append_nil] at pm
      exact ⟨_, rfl, hQ f F H1 pm f0 k1 S1 eF⟩
end
end KL

/-! ## KE3 -/
namespace KL
open PySem PySem.Spec PyProof.Rows L2 KR KM
theorem rgV_row (n : Nat) : rgV 0 (n : Int) = rowV (List.range n) := by
  unfold rgV rowV
  have : ((n : Int) - 0).toNat = n := by omega
  rw [this]
  refine List.map_congr_left fun i _ => ?_
  show V.int (0 + (i : Int)) = .int (i : Int)
  rw [Int.zero_add]
theorem cutV_row (l : List Nat) (lo hi : Option Int) : ∃ m, cutV (rowV l) lo hi = rowV m ∧ (∀ x ∈ m, x ∈ l) ∧ m.length ≤ l.length := by
  unfold cutV
  refine ⟨(l.drop (HT.sIx (rowV l).length 0 lo)).take (HT.sIx (rowV l).length (rowV l).length hi - HT.sIx (rowV l).length 0 lo), ?_, fun x hx => List.mem_of_mem_drop (List.mem_of_mem_take hx), ?_⟩
  · show (List.drop _ (List.map natV l)).take _ = List.map natV _
    rw [List.map_take, List.map_drop]
  · rw [List.length_take, List.length_drop]
    omega
section
variable {P : Program} {w : World} {K : PySem.W.Frag} {mg : Str → Option Value} {base : Heap}

/-! ### _law_rings -/
def spRings : Sp := fun vs H Q _ => ∃ (a c : Addr) (n : Nat), vs = [.ref a, natV n] ∧ Src a c H ∧ n ≤ 60 ∧ ∀ D p H', H D = none → Kp a c H H' → Src a c H' → H' D = some (.lst (rowV p)) → p.length = n → (∀ x ∈ p, x < n) → Q (.ref D) H'
abbrev nRings : List Str := ["_law_heap_here", "_law_many", "_law_left", "_law_parting", "_law_turn", "_law_size", "_law_ring", "_law_at"]
theorem scRings : FnScope nRings ["_law_heap_here", "_law_many"] (defScope (top 29)) := ⟨rfl, rfl, rfl, by decide +kernel, rfl, by decide +kernel, by decide +kernel⟩
/-- what stands in the turns -/
structure Rg (a c : Addr) (H : Hp) (n : Nat) (l pl : Addr) (H' : Hp) : Prop where
  kp : Kp a c H H'
  src : Src a c H'
  l0 : H l = none
  p0 : H pl = none
  lp : l ≠ pl
  lf : ∃ ms, H' l = some (.lst (rowV ms)) ∧ (∀ x ∈ ms, x < n) ∧ ms.length ≤ 60
  pt : ∃ p, H' pl = some (.lst (rowV p)) ∧ p.length = n ∧ ∀ x ∈ p, x < n
theorem Rg.kept {a c : Addr} {H : Hp} {n : Nat} {l pl : Addr} {H1 H2 : Hp} (S : Src a c H) (R : Rg a c H n l pl H1) (k : Kp a c H1 H2) (S2 : Src a c H2) : Rg a c H n l pl H2 := by
  obtain ⟨kp, src, l0, p0, lp, ⟨ms, e1, e2, e2'⟩, ⟨p, e3, e4, e5⟩⟩ := R
  obtain ⟨l1, l2⟩ := S.off l0
  obtain ⟨p1, p2⟩ := S.off p0
  exact ⟨kp.trans k, S2, l0, p0, lp, ⟨ms, k _ _ e1 l1 l2, e2, e2'⟩, ⟨p, k _ _ e3 p1 p2, e4, e5⟩⟩
theorem ok_rings (T : Tx mg) (D : DefAt K mg "_law_rings" 29) (cM : Call P w K mg base 2 "_law_mixed" ["_law_heap_here", "_law_some"] (spMixed K)) (cP : Call P w K mg base 2 "_law_pick" ["_law_heap_here", "_law_some"] (spPick K)) :
    Call P w K mg base 3 "_law_rings" ["_law_heap_here", "_law_many"] spRings := by
  refine Call.mk' D scRings (fun _ _ _ _ _ _ us hl => match us, hl with | [_, _], _ => rfl) (fun vs H Q E h => ?_) (fun f cdv A outer s H vs Q E hr h => ?_)
  · obtain ⟨a, c, n, rfl, _⟩ := h
    rfl
  · obtain ⟨a, c, n, rfl, hS, few, hQ⟩ := h
    refine ⟨_, pss_cons (ps_par (i := 2) (j := 3) rfl scRings.nd rfl rfl (by decide) rfl rfl (pa_cons (pe_k cM hr (ha := pa_cons (pv 0) (pa_cons (pe_listRg rfl (by rfl) T.list (prg_1 (by rfl) T.range (pv 1))) pa_nil)))
        (pa_cons (pe_listRg rfl (by rfl) T.list (prg_1 (by rfl) T.range (pv 1))) pa_nil)) (by rfl))
      (pss_cons (ps_for PassesOwn.never rfl (pi_range1 rfl T.range (pa_cons (pv 1) pa_nil)) (pg_name (i := 4) scRings.nd rfl (.inl rfl))
        (pss_cons (ps_set (i := 5) scRings.nd rfl (.inl rfl) (pe_k cP hr (ha := pa_cons (pv 0) (pa_cons (pe_lst (pa_cons pe_int (pa_cons pe_int (pa_cons pe_int (pa_cons pe_int (pa_cons pe_int (pa_cons pe_int pa_nil))))))) pa_nil))))
        (pss_cons (ps_par (i := 6) (j := 2) rfl scRings.nd rfl rfl (by decide) rfl rfl (pa_cons (pe_slice sl_list (pv 2) po_none (po_some (pv 5))) (pa_cons (pe_slice sl_list (pv 2) (po_some (pv 5)) po_none) pa_nil)) (by rfl))
        (pss_one (ps_for PassesOwn.never rfl (pi_range1 rfl T.range (pa_cons (pe_callB cr_lenA (by rfl) T.len boot_len (pa_cons (pv 6) pa_nil)) pa_nil)) (pg_name (i := 7) scRings.nd rfl (.inl rfl))
          (pss_one (ps_asg (pe_ix ix_any (pv 6) (pe_op op_mod (pe_callTy call_int1 (by rfl) T.int (by decide +kernel) (pa_cons (pe_op op_add (pv 7) pe_int) pa_nil)) (pe_callB cr_lenA (by rfl) T.len boot_len (pa_cons (pv 6) pa_nil))) (fun _ _ => rfl))
            (pg_sub (pv 3) (pe_ix ix_any (pv 6) (pv 7) (fun _ _ => rfl)) set_list))))))))
      (pss_one (ps_ret (pv 3)))), ?_⟩
    have rok : RgOk 0 (n : Int) := RgOk.of_le (by omega) (by omega) (by omega) (by omega)
    refine ⟨_, rfl, _, rfl, n, rfl, rok, fun q hq => ?_⟩
    rw [rgV_row]
    have sq := same_new (o := .lst (rowV (List.range n))) hq
    refine ⟨a, c, q, _, rfl, hS.same sq, Or.inl (SqL.of upd_same), by rw [rowV_len, List.length_range]; exact few, fun l ys H2 pm hl k2 S2 el => ?_⟩
    obtain ⟨ms, rfl, pm2⟩ := perm_row pm
    have l0 : H l = none := sq.free hl
    refine ⟨_, rfl, n, rfl, rok, fun pl hpl => ⟨_, _, rfl, ?_⟩⟩
    rw [rgV_row]
    have p0 : H pl = none := sq.free (k2.free S2 hpl)
    have lp : l ≠ pl := fun e => by
      rw [← e, el] at hpl
      cases hpl
    have R0 : Rg a c H n l pl (upd H2 pl (.lst (rowV (List.range n)))) := by
      refine ⟨((Kp.of sq).trans k2).same (same_new hpl), S2.new hpl, l0, p0, lp, ⟨ms, by rw [upd_ne lp]; exact el, fun x hx => ?_, ?_⟩, ⟨_, upd_same, List.length_range, fun x hx => List.mem_range.mp hx⟩⟩
      · exact List.mem_range.mp (pm2.mem_iff.mp hx)
      · rw [pm2.length_eq, List.length_range]
        exact few
    refine ⟨_, rfl, (n : Int), rfl, by omega, by omega, ?_⟩
    refine for_range (lo := 0) (n := (n : Int).toNat) (fun i σ H' => ∃ (u sz rg x : Option V) (l : Addr), σ = [some (.ref a), some (natV n), some (.ref l), some (.ref pl), u, sz, rg, x] ∧ Rg a c H n l pl H')
      ⟨none, none, none, none, l, rfl, R0⟩ ?_ ?_
    · clear R0 lp l0 el pm2 pm hl
      rintro i σ H3 hi ⟨u, sz, rg, x, l, rfl, R⟩
      -- the size
      refine ⟨_, rfl, by show 6 ≤ sizeLine; decide, fun b hb => ?_⟩
      have s4 := same_new (o := .lst (rowV [3, 2, 3, 1, 4, 5])) hb
      have S4 := R.src.same s4
      have R4 := R.kept hS (Kp.of s4) S4
      obtain ⟨b1, b2⟩ := R.src.off hb
      refine ⟨a, c, b, rowV [3, 2, 3, 1, 4, 5], rfl, S4, fun H' k => Or.inl (SqL.of (k _ _ upd_same b1 b2)), by decide, by decide, fun m v H5 hv k5 S5 => ?_⟩
      obtain ⟨_, rfl⟩ := rowV_inv hv
      have R5 := R4.kept hS k5 S5
      obtain ⟨ms, eL, hms, lms⟩ := R5.lf
      -- ring, left
      refine ⟨_, rfl, _, rfl, _, rfl, l, _, rfl, SqL.of eL, fun r hr' => ?_⟩
      have s6 := same_new (o := .lst (cutV (rowV ms) none (some (([3, 2, 3, 1, 4, 5] : List Nat).getD m 0 : Nat)))) hr'
      refine ⟨_, rfl, _, rfl, _, rfl, l, _, rfl, SqL.of (s6 _ _ eL), fun l2 hl2 => ⟨_, _, rfl, ?_⟩⟩
      have s7 := same_new (o := .lst (cutV (rowV ms) (some (([3, 2, 3, 1, 4, 5] : List Nat).getD m 0 : Nat)) none)) hl2
      obtain ⟨rs, er, hrs, lrs⟩ := cutV_row ms none (some (([3, 2, 3, 1, 4, 5] : List Nat).getD m 0 : Nat))
      obtain ⟨ls, es, hls, lls⟩ := cutV_row ms (some (([3, 2, 3, 1, 4, 5] : List Nat).getD m 0 : Nat)) none
      have R7 := (R5.kept hS (Kp.of s6) (R5.src.same s6)).kept hS (Kp.of s7) ((R5.src.same s6).same s7)
      have r0 : H r = none := R5.kp.free R5.src hr'
      have l20 : H l2 = none := R5.kp.free R5.src (s6.free hl2)
      have rl : r ≠ l2 := fun e => by
        rw [← e, upd_same] at hl2
        cases hl2
      have rp : r ≠ pl := fun e => by
        obtain ⟨p, ep, _⟩ := R5.pt
        rw [e, ep] at hr'
        cases hr'
      have l2p : l2 ≠ pl := fun e => by
        obtain ⟨p, ep, _⟩ := R5.pt
        have := s6.free hl2
        rw [e, ep] at this
        cases this
      have eR : upd (upd H5 r (.lst (cutV (rowV ms) none (some (([3, 2, 3, 1, 4, 5] : List Nat).getD m 0 : Nat))))) l2 (.lst (cutV (rowV ms) (some (([3, 2, 3, 1, 4, 5] : List Nat).getD m 0 : Nat)) none)) r = some (.lst (rowV rs)) := by
        rw [upd_ne rl, upd_same, er]
      have R8 : Rg a c H n l2 pl (upd (upd H5 r (.lst (cutV (rowV ms) none (some (([3, 2, 3, 1, 4, 5] : List Nat).getD m 0 : Nat))))) l2 (.lst (cutV (rowV ms) (some (([3, 2, 3, 1, 4, 5] : List Nat).getD m 0 : Nat)) none))) :=
        ⟨R7.kp, R7.src, l20, p0, l2p, ⟨ls, by rw [upd_same, es], fun x hx => hms x (hls x hx), by omega⟩, R7.pt⟩
      refine ⟨_, rfl, r, _, rfl, Or.inl (SqL.of eR), _, rfl, by rw [rowV_len]; omega, by rw [rowV_len]; omega, ?_⟩
      refine for_range (lo := 0) (fun j σ H' => ∃ (x : Option V), σ = [some (.ref a), some (natV n), some (.ref l2), some (.ref pl), some (.int (0 + (i : Int))), some (natV (([3, 2, 3, 1, 4, 5] : List Nat).getD m 0)), some (.ref r), x] ∧ Rg a c H n l2 pl H' ∧ H' r = some (.lst (rowV rs)))
        ⟨x, rfl, R8, eR⟩ ?_ ?_
      · rintro j σ H9 hj ⟨x, rfl, R9, e9⟩
        have hj : j < rs.length := by
          rw [rowV_len] at hj
          omega
        obtain ⟨p, ep, lp', hp⟩ := R9.pt
        have big : rs.length ≤ 60 := by omega
        have e0 : (0 : Int) + (j : Int) = (j : Int) := Int.zero_add _
        rw [e0]
        obtain ⟨d, d1, d2⟩ := mod_nat (x := (j : Int) + 1) (m := rs.length) (by omega)
        refine ⟨_, rfl, _, rfl, _, _, rfl, rfl, Or.inl ⟨_, rfl, _, rfl, r, _, rfl, Or.inl (SqL.of e9), _, _, rfl, rfl, by rw [rowV_len]; omega, ?_⟩⟩
        refine ⟨r, _, _, natV (rs.getD d 0), rfl, rfl, Or.inl (SqL.of e9), ?_, ?_⟩
        · rw [rowV_len, d2]
          exact atI_row d1
        · have hv : rs.getD j 0 < p.length := by
            rw [lp', getD_of_lt hj]
            exact hms _ (hrs _ (List.getElem_mem hj))
          refine ⟨_, rfl, _, rfl, _, rfl, r, _, _, _, rfl, rfl, Or.inl (SqL.of e9), atI_row hj, pl, _, _, rs.getD j 0, rfl, rfl, ep, ?_, ?_⟩
          · unfold ixN
            have h0 : (0 : Int) ≤ (rs.getD j 0 : Int) := by omega
            have h1 : ((rs.getD j 0 : Nat) : Int) < (rowV p).length := by
              rw [rowV_len]
              omega
            rw [if_pos h0, if_pos h1]
            rfl
          · have er : (rowV p).set (rs.getD j 0) (natV (rs.getD d 0)) = rowV (p.set (rs.getD j 0) (rs.getD d 0)) := by
              unfold rowV
              rw [List.map_set]
            rw [er]
            refine ⟨_, rfl, ⟨R9.kp.own p0, Src.own hS p0 R9.src, l20, p0, l2p, ?_, ⟨_, upd_same, by rw [List.length_set]; exact lp', fun x hx => ?_⟩⟩, by rw [upd_ne rp]; exact e9⟩
            · obtain ⟨ks, k1, k3⟩ := R9.lf
              exact ⟨ks, by rw [upd_ne l2p]; exact k1, k3⟩
            · rcases List.mem_or_eq_of_mem_set hx with hx | rfl
              · exact hp x hx
              · rw [getD_of_lt d1]
                exact hms _ (hrs _ (List.getElem_mem d1))
      · rintro σ H9 ⟨x, rfl, R9, _⟩
        exact ⟨_, _, _, _, l2, rfl, R9⟩
    · rintro σ H3 ⟨u, sz, rg, x, l, rfl, R⟩
      obtain ⟨p, ep, lp', hp⟩ := R.pt
      exact ⟨_, rfl, hQ pl p H3 p0 R.kp R.src ep lp' hp⟩
end
end KL

/-! ## KE4 -/
namespace KL
open PySem PySem.Spec PyProof.Rows L2 KR KM
theorem int_at {l : List Int} {i : Nat} {x : V} (h : (l.map V.int)[i]? = some x) : ∃ k, l[i]? = some k ∧ x = .int k := by
  rw [List.getElem?_map] at h
  cases q : l[i]? with
  | none =>
    rw [q] at h
    cases h
  | some k =>
    rw [q] at h
    cases h
    exact ⟨k, rfl, rfl⟩
section
variable {P : Program} {w : World} {K : PySem.W.Frag} {mg : Str → Option Value} {base : Heap}

/-! ### _law_heap -/
def spHeap (K : PySem.W.Frag) : Sp := fun vs H Q _ => ∃ (b : Addr) (ns : List Int), vs = [.ref b] ∧ SqL K H b (ns.map V.int) ∧ ∀ a c H', Same H H' → Src a c H' → Q (.ref a) H'
abbrev nHeap : List Str := ["_law_script", "_law_cells", "_law_stir", "_law_cell"]
theorem scHeap : FnScope nHeap ["_law_script"] (defScope (top 25)) := ⟨rfl, rfl, rfl, by decide +kernel, rfl, by decide +kernel, by decide +kernel⟩
theorem ok_heap (T : Tx mg) (D : DefAt K mg "_law_heap" 25) : Call P w K mg base 1 "_law_heap" ["_law_script"] (spHeap K) := by
  refine Call.mk' D scHeap (fun _ _ _ _ _ _ us hl => match us, hl with | [_], _ => rfl) (fun vs H Q E h => ?_) (fun f cdv A outer s H vs Q E hr h => ?_)
  · obtain ⟨b, ns, rfl, _⟩ := h
    rfl
  · obtain ⟨b, ns, rfl, hb, hQ⟩ := h
    refine ⟨_, pss_cons (ps_par (i := 1) (j := 2) rfl scHeap.nd rfl rfl (by decide) rfl rfl (pa_cons
        (pe_lc (own := [("_law_cell", 3)]) (g := gName 3) (tt := tYes) rfl scHeap.nd (pi_list (pe_slice sl_list (pv 0) po_none (po_some pe_int)))
          (blkOk_by (own := [("_law_cell", 3)]) (N := nHeap) (sc := defScope (top 25)) (by decide +kernel)) (fun _ _ _ _ _ => pg_name (i := 3) scHeap.nd rfl (Or.inl rfl)) (fun _ _ _ _ _ => pts_nil)
          (fun _ _ _ _ _ => pe_op op_add (pe_op op_mul pe_int (pe_callB call_abs (by rfl) T.abs (by decide +kernel) (pa_cons (pv 3) pa_nil)))
            (pe_callTy call_int1 (by rfl) T.int (by decide +kernel) (pa_cons (pe_cmpR op_lt (pv 3) pe_int (nomark _)) pa_nil))))
        (pa_cons pe_int pa_nil)) (by rfl))
      (pss_cons (ps_for PassesOwn.never rfl (pi_list (pv 1)) (pg_name (i := 3) scHeap.nd rfl (.inl rfl))
        (pss_one (ps_set (i := 2) scHeap.nd rfl (.inl rfl) (pe_op op_mod (pe_callTy call_int1 (by rfl) T.int (by decide +kernel)
          (pa_cons (pe_op op_add (pe_op op_add (pe_op op_mul (pv 2) pe_int) (pe_op op_mod (pe_callTy call_int1 (by rfl) T.int (by decide +kernel) (pa_cons (pv 3) pa_nil)) pe_int)) pe_int) pa_nil)) pe_int))))
      (pss_one (ps_ret (pe_lst (pa_cons (pe_revL (pe_lc (own := [("_law_cell", 3)]) (g := gName 3) (tt := tTest (tOp (rI0 fun i j => .bl (decide (j ≤ i))) (tVar 3) (tOp (rI CPow fun i j => .int (i ^ j.toNat)) (tC (.int 10)) (tC (.int 18))))) rfl scHeap.nd (pi_list (pv 1))
          (blkOk_by (own := [("_law_cell", 3)]) (N := nHeap) (sc := defScope (top 25)) (by decide +kernel)) (fun _ _ _ _ _ => pg_name (i := 3) scHeap.nd rfl (Or.inl rfl))
          (fun _ _ _ _ _ => pts_one (pt_cmpR op_ge (pv 3) (pe_op op_pow pe_int pe_int) (nomark _))) (fun _ _ _ _ _ => pv 3))) (pa_cons (pv 2) pa_nil)))))), ?_⟩
    refine ⟨_, rfl, 60, rfl, b, _, rfl, hb, fun p hp => ?_⟩
    obtain ⟨ms, em, lm⟩ : ∃ ms : List Int, cutV (ns.map V.int) none (some 60) = ms.map V.int ∧ ms.length ≤ 60 := by
      unfold cutV
      refine ⟨(ns.drop (HT.sIx (ns.map V.int).length 0 none)).take (HT.sIx (ns.map V.int).length (ns.map V.int).length (some 60) - HT.sIx (ns.map V.int).length 0 none), ?_, ?_⟩
      · rw [List.map_take, List.map_drop]
      · rw [List.length_take]
        have : HT.sIx (ns.map V.int).length (ns.map V.int).length (some 60) = min 60 (ns.map V.int).length := HT.sIx_nat _ _ 60
        rw [this]
        omega
    rw [em]
    have s1 := same_new (o := .lst (ms.map V.int)) hp
    refine ⟨p, rfl, ⟨_, SqL.of upd_same⟩, fun C hC => ?_⟩
    have hC0 : H C = none := s1.free hC
    have pC : p ≠ C := fun e => by
      rw [e, upd_same] at hC
      cases hC
    refine lc_list (K := K) (xs := ms.map V.int) (fun i H' => Same H H' ∧ H' p = some (.lst (ms.map V.int)) ∧ ∃ l : List Int, H' C = some (.lst (l.map V.int)) ∧ l.length = i)
      ⟨same_then s1 hC, by rw [upd_ne pC]; exact upd_same, [], upd_same, rfl⟩ (fun i H' _ q => SqL.of q.2.1) ?_ ?_
    · rintro i x H' hx ⟨s2, e1, l, e2, e3⟩
      obtain ⟨k, hk, rfl⟩ := int_at hx
      have hi : i < ms.length := (List.getElem?_eq_some_iff.mp hk).1
      refine ⟨rfl, _, rfl, k, rfl, _, _, rfl, rfl, Or.inl ⟨by decide, by decide⟩, ?_⟩
      refine ⟨_, rfl, k, 0, rfl, rfl, Or.inr ⟨_, rfl, _, _, rfl, rfl, ?_⟩⟩
      refine ⟨_, e2, by rw [List.length_map]; exact line60 (by omega), same_upd s2 hC0, by rw [upd_ne pC]; exact e1, l ++ [(2 * if k < 0 then -k else k) + (if decide (k < 0) = true then 1 else 0)], ?_, by rw [List.length_append, e3]; rfl⟩
      rw [upd_same, List.map_append]
      rfl
    · rintro H2 ⟨s2, e1, l, e2, e3⟩
      rw [List.length_map] at e3
      refine ⟨_, _, rfl, ?_⟩
      refine ⟨_, rfl, C, rfl, ⟨_, SqL.of e2⟩, ?_⟩
      refine for_it (walk_list (xs := l.map V.int)) (fun i σ H' => ∃ (st : Int) (u : Option V), σ = [some (.ref b), some (.ref C), some (.int st), u] ∧ H' = H2) ⟨_, _, rfl, rfl⟩ ?_ ?_ ?_
      · rintro i σ H' _ ⟨st, u, rfl, rfl⟩
        exact SqL.of e2
      · rintro i x σ H3 H4 hi ⟨st, u, rfl, rfl⟩ ⟨rfl, hx⟩
        obtain ⟨k, hk, rfl⟩ := int_at hx
        refine ⟨_, rfl, st, 48271, rfl, rfl, Or.inr ⟨by decide, by decide⟩, _, rfl, Or.inl ⟨k, rfl, _, 2147483563, rfl, rfl, (by omega : (0:Int) < 2147483563), ?_⟩⟩
        refine ⟨_, _, rfl, rfl, _, _, rfl, rfl, Or.inl ⟨_, rfl, _, 2147483647, rfl, rfl, (by omega : (0:Int) < 2147483647), ?_⟩⟩
        exact ⟨_, _, rfl, rfl⟩
      · rintro σ H3 ⟨st, u, rfl, rfl⟩
        refine ⟨_, rfl, C, rfl, ⟨_, SqL.of e2⟩, fun F hF => ?_⟩
        have hF0 : H F = none := s2.free hF
        have CF : C ≠ F := fun e => by
          rw [← e, e2] at hF
          cases hF
        refine lc_list (K := K) (xs := l.map V.int) (fun i H' => Same H H' ∧ H' C = some (.lst (l.map V.int)) ∧ ∃ g : List Int, H' F = some (.lst (g.map V.int)) ∧ g.length ≤ i)
          ⟨same_then s2 hF, by rw [upd_ne CF]; exact e2, [], upd_same, Nat.le_refl _⟩ (fun i H' _ q => SqL.of q.2.1) ?_ ?_
        · rintro i x H' hx ⟨s4, e4, g, e5, e6⟩
          obtain ⟨k, hk, rfl⟩ := int_at hx
          have hi : i < l.length := (List.getElem?_eq_some_iff.mp hk).1
          refine ⟨rfl, _, rfl, 10, 18, rfl, rfl, ⟨by decide, by decide, by decide⟩, k, _, rfl, rfl, _, rfl, ?_⟩
          refine ifd (fun e => ?_) (fun e => ?_)
          · refine ⟨_, rfl, _, e5, by rw [List.length_map]; exact line60 (by omega), same_upd s4 hF0, by rw [upd_ne CF]; exact e4, g ++ [k], ?_, by rw [List.length_append]; show g.length + 1 ≤ i + 1; omega⟩
            rw [upd_same, List.map_append]
            rfl
          · exact ⟨s4, e4, g, e5, by omega⟩
        · rintro H5 ⟨s4, e4, g, e5, e6⟩
          rw [List.length_map] at e6
          refine ⟨F, _, rfl, SqL.of e5, fun c hc => ?_⟩
          have s6 := same_then (o := .lst (g.map V.int).reverse) s4 hc
          refine ⟨_, rfl, by show 2 ≤ sizeLine; decide, fun a ha => ?_⟩
          have ca : c ≠ a := fun e => by
            rw [← e, upd_same] at ha
            cases ha
          refine hQ a c _ (same_then s6 ha) ⟨g.reverse, st, upd_same, ?_, by rw [List.length_reverse]; omega⟩
          rw [upd_ne ca, upd_same, List.map_reverse]
end
end KL

/-! ## KE5 -/
namespace KL
open PySem PySem.Spec PyProof.Rows L2 KR KM
theorem all2_set {α : Type} {R : Addr → α → Prop} {q : Addr} {l : α} : ∀ {qs : List Addr} {ls : List α} (k : Nat), All2 R qs ls → R q l → All2 R (qs.set k q) (ls.set k l)
  | _, _, _, .nil, _ => .nil
  | _, _, 0, .cons _ t, r => .cons r t
  | _, _, k + 1, .cons h t, r => .cons h (all2_set k t r)
theorem all2_snoc {α : Type} {R : Addr → α → Prop} {q : Addr} {l : α} {qs : List Addr} {ls : List α} (h : All2 R qs ls) (r : R q l) : All2 R (qs ++ [q]) (ls ++ [l]) := all2_app h (all2_one r)
theorem ixN_nat {n k : Nat} (h : k < n) : ixN n (k : Int) = some k := by
  unfold ixN
  have h0 : (0 : Int) ≤ (k : Int) := by omega
  have h1 : (k : Int) < (n : Int) := by omega
  rw [if_pos h0, if_pos h1]
  rfl
theorem take_filter {α : Type} {ms : List α} {f : α → Bool} {i : Nat} {o : α} (h : ms[i]? = some o) : (ms.take (i + 1)).filter f = (ms.take i).filter f ++ if f o = true then [o] else [] := by
  obtain ⟨h1, h2⟩ := List.getElem?_eq_some_iff.mp h
  rw [List.take_succ_eq_append_getElem h1, List.filter_append, h2]
  congr 1
  by_cases e : f o = true
  · rw [List.filter_cons_of_pos e, if_pos e]
    rfl
  · rw [List.filter_cons_of_neg e, if_neg e]
    rfl
theorem inV_row (o : Nat) (l : List Nat) : inV (natV o) (rowV l) = l.contains o := by
  unfold inV rowV
  rw [List.any_map]
  induction l with
  | nil => rfl
  | cons x l ih =>
    rw [List.any_cons, List.contains_cons, ih]
    congr 1
    show eqV (natV x) (natV o) = _
    rw [eqV_nat]
    by_cases e : x = o
    · subst e
      simp
    · have e' : ¬ o = x := fun z => e z.symm
      simp [e, e']
theorem row_get {l : List Nat} {i : Nat} {x : V} (h : (rowV l)[i]? = some x) : ∃ o, l[i]? = some o ∧ x = natV o := by
  unfold rowV at h
  rw [List.getElem?_map] at h
  cases q : l[i]? with
  | none =>
    rw [q] at h
    cases h
  | some k =>
    rw [q] at h
    cases h
    exact ⟨k, rfl, rfl⟩
theorem TpZ.own {H : Hp} {q D : Addr} {o : HO} {xs ys : List V} (h : TpZ H q xs) (e : H D = some (.lst ys)) : TpZ (upd H D o) q xs := by
  obtain ⟨u, d, z⟩ := h
  refine ⟨u, d, ?_⟩
  rw [upd_ne fun w => ?_]
  · exact z
  · rw [w, e] at z
    cases z
/-- lists of lists in the making -/
structure Lz (a c : Addr) (H : Hp) (n : Nat) (pl ll : Addr) (p : List Nat) (L : List (List Nat)) (H' : Hp) : Prop where
  kp : Kp a c H H'
  src : Src a c H'
  p0 : H pl = none
  l0 : H ll = none
  pt : H' pl = some (.lst (rowV p))
  len : p.length = n
  lt : ∀ x ∈ p, x < n
  ne : pl ≠ ll
  rows : ∃ qs : List Addr, H' ll = some (.lst (qs.map V.ref)) ∧ All2 (fun q r => H' q = some (.lst (rowV r)) ∧ H q = none ∧ q ≠ ll) qs L
theorem Lz.kept {a c : Addr} {H : Hp} {n : Nat} {pl ll : Addr} {p : List Nat} {L : List (List Nat)} {H1 H2 : Hp} (S : Src a c H) (Z : Lz a c H n pl ll p L H1) (k : Kp a c H1 H2) (S2 : Src a c H2) : Lz a c H n pl ll p L H2 := by
  obtain ⟨qs, h1, h2⟩ := Z.rows
  obtain ⟨l1, l2⟩ := S.off Z.l0
  obtain ⟨p1, p2⟩ := S.off Z.p0
  refine ⟨Z.kp.trans k, S2, Z.p0, Z.l0, k _ _ Z.pt p1 p2, Z.len, Z.lt, Z.ne, qs, k _ _ h1 l1 l2, all2_imp (fun q r h => ?_) h2⟩
  obtain ⟨q1, q2⟩ := S.off h.2.1
  exact ⟨k _ _ h.1 q1 q2, h.2⟩
theorem Lz.same {a c : Addr} {H : Hp} {n : Nat} {pl ll : Addr} {p : List Nat} {L : List (List Nat)} {H1 H2 : Hp} (S : Src a c H) (Z : Lz a c H n pl ll p L H1) (k : Same H1 H2) : Lz a c H n pl ll p L H2 := Z.kept S (Kp.of k) (Z.src.same k)
theorem Lz.at_ {a c : Addr} {H : Hp} {n : Nat} {pl ll : Addr} {p : List Nat} {L : List (List Nat)} {H1 : Hp} (Z : Lz a c H n pl ll p L H1) {k : Nat} (hk : k < L.length) :
    ∃ (xs : List V) (q : Addr), H1 ll = some (.lst xs) ∧ atI xs (k : Int) = some (.ref q) ∧ H1 q = some (.lst (rowV (lst L k))) := by
  obtain ⟨qs, h1, h2⟩ := Z.rows
  have e : L[k]? = some (lst L k) := by
    rw [List.getElem?_eq_getElem hk]
    unfold lst
    rw [List.getD_eq_getElem?_getD, List.getElem?_eq_getElem hk]
    rfl
  obtain ⟨q, g1, g2⟩ := all2_get h2 e
  exact ⟨_, q, h1, atI_nat (by rw [List.getElem?_map, g1]; rfl), g2.1⟩
theorem Lz.put {a c : Addr} {H : Hp} {n : Nat} {pl ll : Addr} {p : List Nat} {L : List (List Nat)} {H1 : Hp} (S : Src a c H) (Z : Lz a c H n pl ll p L H1) {k : Nat} {q : Addr} {r : List Nat} (hk : k < L.length)
    (h1 : H1 q = some (.lst (rowV r))) (h2 : H q = none) (h3 : q ≠ ll) : ∃ xs : List V, H1 ll = some (.lst xs) ∧ ixN xs.length (k : Int) = some k ∧ Lz a c H n pl ll p (L.set k r) (upd H1 ll (.lst (xs.set k (.ref q)))) := by
  obtain ⟨qs, g1, g2⟩ := Z.rows
  refine ⟨_, g1, ixN_nat (by rw [List.length_map, all2_len g2]; exact hk), Z.kp.own Z.l0, Src.own S Z.l0 Z.src, Z.p0, Z.l0, by rw [upd_ne Z.ne]; exact Z.pt, Z.len, Z.lt, Z.ne, qs.set k q, ?_, ?_⟩
  · rw [upd_same, List.map_set]
  · have i1 : All2 (fun q' r' => upd H1 ll (.lst ((qs.map V.ref).set k (.ref q))) q' = some (.lst (rowV r')) ∧ H q' = none ∧ q' ≠ ll) qs L := all2_imp (fun q' r' h => ⟨by
      rw [upd_ne h.2.2]
      exact h.1, h.2⟩) g2
    have i2 : upd H1 ll (.lst ((qs.map V.ref).set k (.ref q))) q = some (.lst (rowV r)) := by
      rw [upd_ne h3]
      exact h1
    exact all2_set k i1 ⟨i2, h2, h3⟩
/-- the test of the drawing -/
theorem or_read {K : PySem.W.Frag} {H : Hp} {a c pl : Addr} {p : List Nat} {m i j : Nat} {σ : L2.St} {Q : Bool → Hp → Prop} (S : Src a c H) (h0 : σ[0]? = some (some (.ref a))) (h2 : σ[2]? = some (some (natV m))) (h3 : σ[3]? = some (some (.ref pl))) (h6 : σ[6]? = some (some (natV i))) (h7 : σ[7]? = some (some (natV j)))
    (m0 : 0 < m) (m1 : m < 1073741824) (hp : H pl = some (.lst (rowV p))) (n1 : pl ≠ a) (n2 : pl ≠ c) (hi : i < p.length) (hj : j < p.length)
    (hQ : ∀ (b : Bool) H', Kp a c H H' → Src a c H' → (b = false → p.getD i 0 ≠ j ∧ p.getD j 0 ≠ i) → Q b H') :
    tOr (tTest (tOp (rI0 fun i j => .bl (decide (j < i))) (tCall spDraw [] E0 (tCons (tVar 0) (tCons (tVar 2) tNil))) (tC (.int 0)))) (tOr (tTest (tOp rEq (tOp (rIxA K) (tVar 3) (tVar 6)) (tVar 7))) (tTest (tOp rEq (tOp (rIxA K) (tVar 3) (tVar 7)) (tVar 6)))) σ H Q := by
  refine ⟨_, h0, _, h2, a, c, m, rfl, S, m0, m1, fun d H2 hd k S2 => ?_⟩
  have hp2 := k _ _ hp n1 n2
  refine ⟨_, _, rfl, rfl, _, rfl, ?_⟩
  refine ifb (fun _ => hQ true H2 k S2 nofun) (fun _ => ?_)
  refine ⟨_, h3, _, h6, pl, _, _, _, rfl, rfl, Or.inl (SqL.of hp2), atI_row hi, _, h7, rfl, _, rfl, ?_⟩
  refine ifd (fun _ => hQ true H2 k S2 nofun) (fun e1 => ?_)
  refine ⟨_, h3, _, h7, pl, _, _, _, rfl, rfl, Or.inl (SqL.of hp2), atI_row hj, _, h6, rfl, _, rfl, ?_⟩
  exact hQ _ H2 k S2 fun e2 => ⟨fun z => e1 (natV_inj.mpr z), fun z => (of_decide_eq_false e2) (natV_inj.mpr z)⟩
end KL

/-! ## KE6 -/
namespace KL
open PySem PySem.Spec PyProof.Rows L2 KR KM
/-- the found rows -/
structure Fz (H : Hp) (fl : Addr) (L : List (List Nat)) (k : Nat) (H' : Hp) : Prop where
  f0 : H fl = none
  rows : ∃ (ts : List Addr) (ls : List (List Nat)), H' fl = some (.lst (ts.map V.ref)) ∧ All2 (Row H') ts ls ∧ ls.length = k ∧ ∀ i, i < k → Like (lst ls i) (lst L i)
theorem Fz.kept {a c : Addr} {H : Hp} {fl : Addr} {L : List (List Nat)} {k : Nat} {H1 H2 : Hp} (S : Src a c H) (S1 : Src a c H1) (Z : Fz H fl L k H1) (kp : Kp a c H1 H2) : Fz H fl L k H2 := by
  obtain ⟨ts, ls, h1, h2, h3⟩ := Z.rows
  obtain ⟨f1, f2⟩ := S.off Z.f0
  exact ⟨Z.f0, ts, ls, kp _ _ h1 f1 f2, all2_imp (fun q l r => Kp.tpz r S1 kp) h2, h3⟩
theorem Fz.push {H : Hp} {fl : Addr} {L : List (List Nat)} {k : Nat} {H1 : Hp} (Z : Fz H fl L k H1) {q : Addr} {r : List Nat} (hq : Row H1 q r) (hr : Like r (lst L k)) :
    ∃ xs : List V, H1 fl = some (.lst xs) ∧ xs.length = k ∧ Fz H fl L (k + 1) (upd H1 fl (.lst (xs ++ [.ref q]))) := by
  obtain ⟨ts, ls, h1, h2, h3, h4⟩ := Z.rows
  refine ⟨_, h1, by rw [List.length_map, all2_len h2, h3], Z.f0, ts ++ [q], ls ++ [r], ?_, ?_, by rw [List.length_append, h3]; rfl, fun i hi => ?_⟩
  · rw [upd_same, List.map_append]
    rfl
  · exact all2_snoc (all2_imp (fun q l t => TpZ.own t h1) h2) (TpZ.own hq h1)
  · have g : lst (ls ++ [r]) i = if i < k then lst ls i else r := by
      unfold lst
      rw [List.getD_eq_getElem?_getD, List.getElem?_append, h3]
      by_cases e : i < k
      · rw [if_pos e, if_pos e, List.getD_eq_getElem?_getD]
      · rw [if_neg e, if_neg e]
        have : i - k = 0 := by omega
        rw [this]
        rfl
    rw [g]
    by_cases e : i < k
    · rw [if_pos e]
      exact h4 i e
    · rw [if_neg e]
      have : i = k := by omega
      rw [this]
      exact hr
def Ks (a c fl : Addr) (H H' : Hp) : Prop := ∀ b o, H b = some o → b ≠ a → b ≠ c → b ≠ fl → H' b = some o
theorem Lz.ks {a c fl : Addr} {H : Hp} {n : Nat} {pl ll : Addr} {p : List Nat} {L : List (List Nat)} {H1 H2 : Hp} (S : Src a c H) (Z : Lz a c H n pl ll p L H1) (hf : H1 fl = none) (k : Ks a c fl H1 H2) (kp : Kp a c H H2) (S2 : Src a c H2) : Lz a c H n pl ll p L H2 := by
  obtain ⟨qs, h1, h2⟩ := Z.rows
  obtain ⟨l1, l2⟩ := S.off Z.l0
  obtain ⟨p1, p2⟩ := S.off Z.p0
  have off : ∀ b o, H1 b = some o → b ≠ fl := fun b o e w => by
    rw [w, hf] at e
    cases e
  refine ⟨kp, S2, Z.p0, Z.l0, k _ _ Z.pt p1 p2 (off _ _ Z.pt), Z.len, Z.lt, Z.ne, qs, k _ _ h1 l1 l2 (off _ _ h1), all2_imp (fun q r h => ?_) h2⟩
  obtain ⟨q1, q2⟩ := S.off h.2.1
  exact ⟨k _ _ h.1 q1 q2 (off _ _ h.1), h.2⟩
/-- the turns of the second walk -/
structure Bz (a c : Addr) (H H8 : Hp) (fl : Addr) (L : List (List Nat)) (k : Nat) (H' : Hp) : Prop where
  ks : Ks a c fl H8 H'
  kp : Kp a c H H'
  src : Src a c H'
  fz : Fz H fl L k H'
theorem Bz.kept {a c : Addr} {H H8 : Hp} {fl : Addr} {L : List (List Nat)} {k : Nat} {H1 H2 : Hp} (S : Src a c H) (Z : Bz a c H H8 fl L k H1) (kp : Kp a c H1 H2) (S2 : Src a c H2) : Bz a c H H8 fl L k H2 :=
  ⟨fun b o e n1 n2 n3 => kp _ _ (Z.ks b o e n1 n2 n3) n1 n2, Z.kp.trans kp, S2, Z.fz.kept S Z.src kp⟩
theorem Bz.same {a c : Addr} {H H8 : Hp} {fl : Addr} {L : List (List Nat)} {k : Nat} {H1 H2 : Hp} (S : Src a c H) (Z : Bz a c H H8 fl L k H1) (s : Same H1 H2) : Bz a c H H8 fl L k H2 := Z.kept S (Kp.of s) (Z.src.same s)
theorem rowV_snoc (l : List Nat) (o : Nat) : rowV l ++ [natV o] = rowV (l ++ [o]) := by
  unfold rowV
  rw [List.map_append]
  rfl
theorem rowV_app (l m : List Nat) : rowV l ++ rowV m = rowV (l ++ m) := by
  unfold rowV
  rw [List.map_append]
/-- a filter's turns -/
theorem lc_row {K : PySem.W.Frag} {b : Addr} {ms : List Nat} {f : Nat → Bool} {j : Nat} {tt : TT} {σ : L2.St} {H0 H1 : Hp} {D : Addr} {Qd : Hp → Prop} (hj : j < σ.length) (hD : H1 D = none) (s0 : Same H0 H1) (hb : H1 b = some (.lst (rowV ms))) (few : ms.length ≤ 1000)
    (hs : ∀ (o : Nat) (H : Hp) (Q : Bool → Hp → Prop), o ∈ ms → Same H1 H → (∀ H3, Same H H3 → Q (f o) H3) → tt ((wipe σ [j]).set j (some (natV o))) H Q)
    (hd : ∀ H, Same H0 H → H D = some (.lst (rowV (ms.filter f))) → Qd H) :
    ∃ W : Nat → Nat → Hp → Prop, (∃ m, W 0 m (upd H1 D (.lst []))) ∧ ∀ i m H, W i m H →
      ((Itl K b).stop i H ∧ Qd H) ∨ ((Itl K b).go i H ∧ ∃ Nx : Hp → Prop, (∀ H', Nx H' → ∃ m', m' < m ∧ W (i + 1) m' H') ∧ ∀ x H', (Itl K b).yld i H x H' → gName j x (wipe σ [j]) H' fun σ2 H2 => wipe σ2 [j] = wipe σ [j] ∧ tt σ2 H2 fun b H3 =>
        if b = true then tVar j σ2 H3 fun y H4 => ∃ acc, H4 D = some (.lst acc) ∧ acc.length < sizeLine ∧ Nx (upd H4 D (.lst (acc ++ [y]))) else Nx H3) := by
  have bD : b ≠ D := fun e => by
    rw [e, hD] at hb
    cases hb
  refine lc_list (K := K) (xs := rowV ms) (fun i H' => Same H1 H' ∧ H' D = some (.lst (rowV ((ms.take i).filter f)))) ⟨same_new hD, by rw [upd_same]; rfl⟩ (fun i H' _ q => SqL.of (q.1 _ _ hb)) ?_ ?_
  · rintro i x H' hx ⟨s2, e2⟩
    obtain ⟨o, ho, rfl⟩ := row_get hx
    have ix : ((wipe σ [j]).set j (some (natV o)))[j]? = some (some (natV o)) := by
      have : j < (wipe σ [j]).length := by rw [wipe_length]; exact hj
      rw [List.getElem?_set_self this]
    refine ⟨?_, hs o H' _ (List.mem_of_getElem? ho) s2 fun H3 s3 => ?_⟩
    · show ((List.set σ j none).set j (some (natV o))).set j none = List.set σ j none
      rw [List.set_set, List.set_set]
    · have e3 := s3 _ _ e2
      refine ifb (fun e => ?_) (fun e => ?_)
      · refine ⟨_, ix, _, e3, ?_, same_upd (s2.trans s3) hD, ?_⟩
        · rw [rowV_len]
          have := List.length_filter_le f (ms.take i)
          rw [List.length_take] at this
          exact line60 (by omega)
        · rw [upd_same, rowV_snoc, take_filter ho, if_pos e]
      · refine ⟨s2.trans s3, ?_⟩
        rw [e3, take_filter ho, if_neg (by rw [e]; exact Bool.false_ne_true), List.append_nil]
  · rintro H ⟨s2, e2⟩
    refine hd H (s0.trans s2) ?_
    rw [rowV_len, List.take_length] at e2
    exact e2
section
variable {P : Program} {w : World} {K : PySem.W.Frag} {mg : Str → Option Value} {base : Heap}

/-! ### _law_lists -/
def spLists : Sp := fun vs H Q _ => ∃ (a c : Addr) (n : Nat), vs = [.ref a, natV n] ∧ Src a c H ∧ n ≤ 60 ∧
  ∀ D qs ls H', Kp a c H H' → Src a c H' → TpZ H' D (qs.map V.ref) → All2 (Row H') qs ls → WF ls → ls.length = n → Q (.ref D) H'
abbrev nLists : List Str := ["_law_heap_here", "_law_many", "_law_dense", "_law_parting", "_law_front", "_law_lists_here", "_law_one", "_law_other", "_law_found", "_law_person", "_law_some", "_law_ahead"]
theorem scLists : FnScope nLists ["_law_heap_here", "_law_many"] (defScope (top 30)) := ⟨rfl, rfl, rfl, by decide +kernel, rfl, by decide +kernel, by decide +kernel⟩
theorem ok_lists (T : Tx mg) (D : DefAt K mg "_law_lists" 30) (cD : Call P w K mg base 1 "_law_draw" ["_law_heap_here", "_law_many"] spDraw) (cP : Call P w K mg base 2 "_law_pick" ["_law_heap_here", "_law_some"] (spPick K))
    (cM : Call P w K mg base 2 "_law_mixed" ["_law_heap_here", "_law_some"] (spMixed K)) (cR : Call P w K mg base 3 "_law_rings" ["_law_heap_here", "_law_many"] spRings) : Call P w K mg base 4 "_law_lists" ["_law_heap_here", "_law_many"] spLists := by
  refine Call.mk' D scLists (fun _ _ _ _ _ _ us hl => match us, hl with | [_, _], _ => rfl) (fun vs H Q E h => ?_) (fun f cdv A outer s H vs Q E hr h => ?_)
  · obtain ⟨a, c, n, rfl, _⟩ := h
    rfl
  · obtain ⟨a, c, n, rfl, hS, few, hQ⟩ := h
    refine ⟨_, pss_cons (ps_asg (pe_tupZ (pa_cons (pe_k cP hr (ha := pa_cons (pv 0) (pa_cons (pe_lst (pa_cons pe_int (pa_cons pe_int (pa_cons pe_int (pa_cons pe_int pa_nil))))) pa_nil)))
          (pa_cons (pe_k cR hr (ha := pa_cons (pv 0) (pa_cons (pv 1) pa_nil))) pa_nil))) (pg_tup rfl (pgs_cons (pg_name (i := 2) scLists.nd rfl (.inl rfl)) (pgs_cons (pg_name (i := 3) scLists.nd rfl (.inr rfl)) pgs_nil))))
      (pss_cons (ps_par (i := 4) (j := 5) rfl scLists.nd rfl rfl (by decide) rfl rfl (pa_cons (pe_k cP hr (ha := pa_cons (pv 0) (pa_cons (pe_lst (pa_cons pe_int (pa_cons pe_int (pa_cons pe_int (pa_cons pe_int pa_nil))))) pa_nil)))
          (pa_cons (pe_lc (own := [("_law_person", 9)]) (g := gName 9) (tt := tYes) (te := tLst tNil) rfl scLists.nd (pi_range1 rfl T.range (pa_cons (pv 1) pa_nil))
            (blkOk_by (own := [("_law_person", 9)]) (N := nLists) (sc := defScope (top 30)) (by decide +kernel)) (fun _ _ _ _ _ => pg_name (i := 9) scLists.nd rfl (Or.inl rfl)) (fun _ _ _ _ _ => pts_nil) (fun _ _ _ _ _ => pe_lst pa_nil)) pa_nil)) (by rfl))
      (pss_cons (ps_for PassesOwn.never rfl (pi_range1 rfl T.range (pa_cons (pv 1) pa_nil)) (pg_name (i := 6) scLists.nd rfl (.inl rfl))
        (pss_one (ps_for PassesOwn.never rfl (pi_range1 rfl T.range (pa_cons (pv 6) pa_nil)) (pg_name (i := 7) scLists.nd rfl (.inl rfl))
          (pss_one (ps_if (PW.pt (pw_or (pt_cmpR op_gt (pe_k cD hr (ha := pa_cons (pv 0) (pa_cons (pv 2) pa_nil))) pe_int (nomark _))
              (pw_or (pt_cmpR op_eq (pe_ix ix_any (pv 3) (pv 6) (fun _ _ => rfl)) (pv 7) (nomark _)) (pw_or1 (pt_cmpR op_eq (pe_ix ix_any (pv 3) (pv 7) (fun _ _ => rfl)) (pv 6) (nomark _))))))
            (pss_one (ps_asg (pe_tupZ (pa_cons (pe_op op_cat (pe_ix ix_any (pv 5) (pv 6) (fun _ _ => rfl)) (pe_lst (pa_cons (pv 7) pa_nil))) (pa_cons (pe_op op_cat (pe_ix ix_any (pv 5) (pv 7) (fun _ _ => rfl)) (pe_lst (pa_cons (pv 6) pa_nil))) pa_nil)))
              (pg_tup rfl (pgs_cons (pg_sub (pv 5) (pv 6) set_list) (pgs_cons (pg_sub (pv 5) (pv 7) set_list) pgs_nil)))))
            pss_nil)))))
      (pss_cons (ps_set (i := 8) scLists.nd rfl (.inl rfl) (pe_lst pa_nil))
      (pss_cons (ps_for PassesOwn.never rfl (pi_range1 rfl T.range (pa_cons (pv 1) pa_nil)) (pg_name (i := 9) scLists.nd rfl (.inr rfl))
        (pss_cons (ps_set (i := 10) scLists.nd rfl (.inl rfl) (pe_k cM hr (ha := pa_cons (pv 0) (pa_cons (pe_ix ix_any (pv 5) (pv 9) (fun _ _ => rfl)) pa_nil))))
        (Evl.pss_cut (ps_if (pt_cmpR op_lt (pe_k cD hr (ha := pa_cons (pv 0) (pa_cons pe_int pa_nil))) (pv 4) (nomark _))
          (pss_cons (ps_set (i := 11) scLists.nd rfl (.inr rfl) (pe_op op_cat (pe_lst (pa_cons (pe_ix ix_any (pv 3) (pv 9) (fun _ _ => rfl)) pa_nil))
              (pe_lc (own := [("_law_other", 7)]) (g := gName 7) (tt := tAnd (tTest (tOp rEq (tOp (rIxA K) (tVar 3) (tVar 7)) (tVar 9))) (tTest (tOp rNe (tOp (rIxA K) (tVar 3) (tVar 9)) (tVar 7)))) rfl scLists.nd (pi_list (pv 10))
                (blkOk_by (own := [("_law_other", 7)]) (N := nLists) (sc := defScope (top 30)) (by decide +kernel)) (fun _ _ _ _ _ => pg_name (i := 7) scLists.nd rfl (Or.inl rfl))
                (fun _ _ _ _ _ => pts_one (PW.pt (pw_and (pt_cmpR op_eq (pe_ix ix_any (pv 3) (pv 7) (fun _ _ => rfl)) (pv 9) (nomark _)) (pw_and1 (pt_cmpR op_ne (pe_ix ix_any (pv 3) (pv 9) (fun _ _ => rfl)) (pv 7) (nomark _))))))
                (fun _ _ _ _ _ => pv 7))))
          (pss_cons (ps_set (i := 11) scLists.nd rfl (.inr rfl) (pe_lc (own := [("_law_other", 7)]) (g := gName 7) (tt := tTest (tOp rNe (tVar 7) (tVar 9))) rfl scLists.nd (pi_list (pv 11))
                (blkOk_by (own := [("_law_other", 7)]) (N := nLists) (sc := defScope (top 30)) (by decide +kernel)) (fun _ _ _ _ _ => pg_name (i := 7) scLists.nd rfl (Or.inl rfl))
                (fun _ _ _ _ _ => pts_one (pt_cmpR op_ne (pv 7) (pv 9) (nomark _))) (fun _ _ _ _ _ => pv 7)))
          (pss_one (ps_set (i := 10) scLists.nd rfl (.inl rfl) (pe_op op_cat (pv 11)
              (pe_lc (own := [("_law_other", 7)]) (g := gName 7) (tt := tTest (tOp (rIn K true) (tVar 7) (tVar 11))) rfl scLists.nd (pi_list (pv 10))
                (blkOk_by (own := [("_law_other", 7)]) (N := nLists) (sc := defScope (top 30)) (by decide +kernel)) (fun _ _ _ _ _ => pg_name (i := 7) scLists.nd rfl (Or.inl rfl))
                (fun _ _ _ _ _ => pts_one (pt_cmpR op_notIn_seq (pv 7) (pv 11) rfl)) (fun _ _ _ _ _ => pv 7))))))) pss_nil)
        (pss_one (ps_expr (pe_bm PySem.F.plainAttrs_list PySem.F.slot_list_append PySem.F.type_list_append mt_append (pv 8) (pa_cons (pe_callTy cr_tupL (by rfl) T.tuple (by decide +kernel) (pa_cons (pv 10) pa_nil)) pa_nil)))))))
      (pss_one (ps_ret (pe_callTy cr_tupL (by rfl) T.tuple (by decide +kernel) (pa_cons (pv 8) pa_nil)))))))), ?_⟩
    -- dense, parting
    refine ⟨_, rfl, by show 4 ≤ sizeLine; decide, fun b1 hb1 => ?_⟩
    have s1 := same_new (o := .lst (rowV [9, 9, 3, 2])) hb1
    obtain ⟨nb1, nb2⟩ := hS.off hb1
    refine ⟨a, c, b1, rowV [9, 9, 3, 2], rfl, hS.same s1, fun H' k => Or.inl (SqL.of (k _ _ upd_same nb1 nb2)), by decide, by decide, fun m v H2 hv k2 S2 => ?_⟩
    obtain ⟨dn, hdn, rfl⟩ := row_get hv
    have dn0 : 0 < dn ∧ dn < 1073741824 := by
      have := List.mem_of_getElem? hdn
      simp at this
      omega
    refine ⟨_, rfl, _, rfl, a, c, n, rfl, S2, few, fun pl p H3 hpl k3 S3 ep lp hp => ?_⟩
    have K2 : Kp a c H H2 := (Kp.of s1).trans k2
    have p0 : H pl = none := K2.free S2 hpl
    refine ⟨by show 2 ≤ sizeLine; decide, NewT.use fun tq H4 htq s4 tz => ?_⟩
    refine ⟨tq, _, rfl, tz.sqT, rfl, _, _, rfl, _, _, rfl, rfl, ?_⟩
    have K4 : Kp a c H H4 := (K2.trans k3).same s4
    have S4 := S3.same s4
    have ep4 := s4 _ _ ep
    -- front, lists
    refine ⟨_, rfl, by show 4 ≤ sizeLine; decide, fun b2 hb2 => ?_⟩
    have s5 := same_new (o := .lst (rowV [0, 2, 3, 9])) hb2
    obtain ⟨nb3, nb4⟩ := S4.off hb2
    refine ⟨a, c, b2, rowV [0, 2, 3, 9], rfl, S4.same s5, fun H' k => Or.inl (SqL.of (k _ _ upd_same nb3 nb4)), by decide, by decide, fun m2 v2 H6 hv2 k6 S6 => ?_⟩
    obtain ⟨fr, _, rfl⟩ := row_get hv2
    have K6 : Kp a c H H6 := (K4.same s5).trans k6
    obtain ⟨pa', pc'⟩ := hS.off p0
    have ep6 : H6 pl = some (.lst (rowV p)) := k6 _ _ (s5 _ _ ep4) pa' pc'
    refine ⟨_, rfl, (n : Int), rfl, by omega, by omega, fun ll hll => ?_⟩
    have l0 : H ll = none := K6.free S6 hll
    have pne : pl ≠ ll := fun e => by
      rw [← e, ep6] at hll
      cases hll
    refine lc_range (lo := 0) (n := (n : Int).toNat) (fun i H' => Same H6 H' ∧ ∃ qs : List Addr, H' ll = some (.lst (qs.map V.ref)) ∧ qs.length = i ∧ All2 (fun q r => H' q = some (.lst (rowV r)) ∧ H q = none ∧ q ≠ ll) qs (List.replicate i []))
      ⟨same_new hll, [], upd_same, rfl, .nil⟩ ?_ ?_
    · rintro i H7 hi ⟨s7, qs, e7, lq, r7⟩
      refine ⟨rfl, ?_⟩
      refine ⟨by show 0 ≤ sizeLine; decide, fun q hq => ?_⟩
      have qn : q ≠ ll := fun e => by
        rw [e, e7] at hq
        cases hq
      have hn : n = (n : Int).toNat := by omega
      refine ⟨_, by rw [upd_ne qn.symm]; exact e7, by rw [List.length_map, lq]; exact line60 (by omega), ?_⟩
      refine ⟨same_upd (same_then s7 hq) hll, qs ++ [q], by rw [upd_same, List.map_append]; rfl, by rw [List.length_append, lq]; rfl, ?_⟩
      rw [List.replicate_succ']
      refine all2_snoc (all2_imp (fun q' r' h => ⟨?_, h.2⟩) r7) ⟨?_, K6.free S6 (s7.free hq), qn⟩
      · rw [upd_ne qn, upd_same]
        rfl
      · rw [upd_ne h.2.2, upd_ne (ne_of_none h.1 hq)]
        exact h.1
    rintro H7 ⟨s7, qs, e7, lq, r7⟩
    have hn : (n : Int).toNat = n := by omega
    rw [hn] at lq r7
    refine ⟨_, _, rfl, ?_⟩
    have Z0 : Lz a c H n pl ll p (List.replicate n []) H7 := ⟨K6.same s7, S6.same s7, p0, l0, s7 _ _ ep6, lp, hp, pne, qs, e7, r7⟩
    refine ⟨_, rfl, (n : Int), rfl, by omega, by omega, ?_⟩
    refine for_range (lo := 0) (n := (n : Int).toNat) (fun i σ H' => ∃ (u x : Option V) (L : List (List Nat)), σ = [some (.ref a), some (natV n), some (natV dn), some (.ref pl), some (natV fr), some (.ref ll), u, x, none, none, none, none] ∧ Lz a c H n pl ll p L H' ∧ Sy p n i 0 L)
      ⟨none, none, _, rfl, Z0, Sy.zero p n⟩ ?_ ?_
    · rintro i σ H8 hi ⟨u, x, L, rfl, Z8, Y8⟩
      have hi : i < n := by omega
      have e0 : (0 : Int) + (i : Int) = (i : Int) := Int.zero_add _
      rw [e0]
      refine ⟨_, rfl, (i : Int), rfl, by omega, by omega, ?_⟩
      refine for_range (lo := 0) (n := (i : Int).toNat) (fun j σ H' => ∃ (x : Option V) (L : List (List Nat)), σ = [some (.ref a), some (natV n), some (natV dn), some (.ref pl), some (natV fr), some (.ref ll), some (natV i), x, none, none, none, none] ∧ Lz a c H n pl ll p L H' ∧ Sy p n i j L)
        ⟨x, L, rfl, Z8, Y8⟩ ?_ ?_
      · clear Y8 Z8 Z0
        rintro j σ H9 hj ⟨x, L, rfl, Z9, Y9⟩
        have hj : j < i := by omega
        have e1 : (0 : Int) + (j : Int) = (j : Int) := Int.zero_add _
        rw [e1]
        refine or_read (K := K) (i := i) (j := j) (m := dn) (p := p) (pl := pl) Z9.src rfl rfl rfl rfl rfl dn0.1 dn0.2 Z9.pt pa' pc' (by omega) (by omega) fun b H10 k10 S10 eb => ?_
        have Z10 := Z9.kept hS k10 S10
        refine ifb (fun hb => ?_) (fun hb => ?_)
        rotate_left
        · obtain ⟨g1, g2⟩ := eb hb
          exact ⟨_, L, rfl, Z10, Y9.no hj g1 g2⟩
        · have lL : L.length = n := Y9.len
          obtain ⟨xs, q1, x1, x2, x3⟩ := Z10.at_ (k := i) (by omega)
          refine ⟨_, rfl, _, rfl, ll, xs, _, _, rfl, rfl, Or.inl (SqL.of x1), x2, ?_⟩
          refine ⟨_, rfl, by show 1 ≤ sizeLine; decide, fun o1 ho1 => ?_⟩
          have t1 := same_new (o := .lst (rowV [j])) ho1
          have len1 : (lst L i).length ≤ n := by
            have := nodup_sub (lst L i) (List.range n) (Y9.nd i) fun x hx => List.mem_range.mpr (Y9.mem i x hx).2.2.1
            rwa [List.length_range] at this
          have len2 : (lst L j).length ≤ n := by
            have := nodup_sub (lst L j) (List.range n) (Y9.nd j) fun x hx => List.mem_range.mpr (Y9.mem j x hx).2.2.1
            rwa [List.length_range] at this
          refine ⟨q1, o1, rowV (lst L i), rowV [j], rfl, rfl, t1 _ _ x3, upd_same, by rw [rowV_len, rowV_len]; have := line60 (n := (lst L i).length + 1) (by omega); show (lst L i).length + 1 ≤ sizeLine; omega, fun r1 hr1 => ?_⟩
          have t2 := same_then (o := .lst (rowV (lst L i) ++ rowV [j])) t1 hr1
          have Z12 := Z10.same hS t2
          obtain ⟨ys, q2, y1, y2, y3⟩ := Z12.at_ (k := j) (by omega)
          refine ⟨_, rfl, _, rfl, ll, ys, _, _, rfl, rfl, Or.inl (SqL.of y1), y2, ?_⟩
          refine ⟨_, rfl, by show 1 ≤ sizeLine; decide, fun o2 ho2 => ?_⟩
          have t3 := same_new (o := .lst (rowV [i])) ho2
          refine ⟨q2, o2, rowV (lst L j), rowV [i], rfl, rfl, t3 _ _ y3, upd_same, by rw [rowV_len, rowV_len]; have := line60 (n := (lst L j).length + 1) (by omega); show (lst L j).length + 1 ≤ sizeLine; omega, fun r2 hr2 => ?_⟩
          have t4 := same_then (o := .lst (rowV (lst L j) ++ rowV [i])) t3 hr2
          refine ⟨by show 2 ≤ sizeLine; decide, NewT.use fun tt H14 htt s14 tz2 => ?_⟩
          have t5 := t4.trans s14
          have Z14 := Z12.same hS t5
          -- the two new rows
          have a1 : H14 r1 = some (.lst (rowV (lst L i ++ [j]))) := by
            refine t5 _ _ ?_
            rw [upd_same]
            unfold rowV
            rw [List.map_append]
          have a2 : H14 r2 = some (.lst (rowV (lst L j ++ [i]))) := by
            refine s14 _ _ ?_
            rw [upd_same]
            unfold rowV
            rw [List.map_append]
          have r10 : H r1 = none := Z10.kp.free Z10.src (t1.free hr1)
          have r20 : H r2 = none := Z12.kp.free Z12.src (t3.free hr2)
          have r1l : r1 ≠ ll := fun e => by
            rw [e] at hr1
            have h := t1 ll _ x1
            have z : (none : Option HO) = some _ := hr1.symm.trans h
            cases z
          have r2l : r2 ≠ ll := fun e => by
            rw [e] at hr2
            have h := t3 ll _ y1
            have z : (none : Option HO) = some _ := hr2.symm.trans h
            cases z
          obtain ⟨zs, z1, z2, Z15⟩ := Z14.put hS (k := i) (by omega) a1 r10 r1l
          refine ⟨tt, _, rfl, tz2.sqT, rfl, _, _, rfl, ?_⟩
          refine ⟨_, rfl, _, rfl, ll, zs, _, i, rfl, rfl, z1, z2, ?_⟩
          obtain ⟨ws, w1, w2, Z16⟩ := Z15.put hS (k := j) (r := lst L j ++ [i]) (q := r2) (by rw [List.length_set]; omega) (by rw [upd_ne r2l]; exact a2) r20 r2l
          refine ⟨_, _, rfl, ?_⟩
          refine ⟨_, rfl, _, rfl, ll, ws, _, j, rfl, rfl, w1, w2, ?_⟩
          exact ⟨rfl, _, _, rfl, Z16, Y9.yes hj hi⟩
      · rintro σ H9 ⟨x, L, rfl, Z9, Y9⟩
        have : (i : Int).toNat = i := by omega
        rw [this] at Y9
        exact ⟨_, _, L, rfl, Z9, Y9.next⟩
    rintro σ H8 ⟨u, x, L, rfl, Z8, Y8⟩
    rw [hn] at Y8
    refine ⟨by show 0 ≤ sizeLine; decide, fun fl hfl => ?_⟩
    have f0 : H fl = none := Z8.kp.free Z8.src hfl
    have B0 : Bz a c H H8 fl L 0 (upd H8 fl (.lst [])) := by
      refine ⟨fun b o e n1 n2 n3 => by rw [upd_ne n3]; exact e, Z8.kp.own f0, Src.own hS f0 Z8.src, f0, [], [], upd_same, .nil, rfl, fun i hi => absurd hi (Nat.not_lt_zero _)⟩
    refine ⟨_, rfl, (n : Int), rfl, by omega, by omega, ?_⟩
    have lL : L.length = n := Y8.len
    refine for_range (lo := 0) (n := (n : Int).toNat) (fun i σ H' => ∃ (u x y z v : Option V), σ = [some (.ref a), some (natV n), some (natV dn), some (.ref pl), some (natV fr), some (.ref ll), u, x, some (.ref fl), y, z, v] ∧ Bz a c H H8 fl L i H')
      ⟨_, _, _, _, _, rfl, B0⟩ ?_ ?_
    · clear B0
      rintro k σ H9 hk ⟨u, x, y, z, v, rfl, B9⟩
      have hk : k < n := by omega
      have e0 : (0 : Int) + (k : Int) = (k : Int) := Int.zero_add _
      rw [e0]
      have Z9 := Z8.ks hS hfl B9.ks B9.kp B9.src
      have lk : (lst L k).length ≤ n := by
        have := nodup_sub (lst L k) (List.range n) (Y8.nd k) fun x hx => List.mem_range.mpr (Y8.mem k x hx).2.2.1
        rwa [List.length_range] at this
      obtain ⟨xs, q, x1, x2, x3⟩ := Z9.at_ (k := k) (by omega)
      refine ⟨_, rfl, _, rfl, _, rfl, ll, xs, _, _, rfl, rfl, Or.inl (SqL.of x1), x2, a, c, q, rowV (lst L k), rfl, B9.src, Or.inl (SqL.of x3), by rw [rowV_len]; omega, fun M ys H10 pm hM k10 S10 eM => ?_⟩
      obtain ⟨ms, rfl, pm2⟩ := perm_row pm
      have lm : ms.length ≤ 60 := by rw [pm2.length_eq]; omega
      have Lm : Like ms (lst L k) := ⟨pm2.nodup_iff.mpr (Y8.nd k), fun x => pm2.mem_iff⟩
      have B10 := B9.kept hS k10 S10
      have M0 : H M = none := B9.kp.free B9.src hM
      obtain ⟨M1, M2⟩ := hS.off M0
      refine ⟨fun σ' H' => ∃ (u x v : Option V) (D' : Addr) (r : List Nat), σ' = [some (.ref a), some (natV n), some (natV dn), some (.ref pl), some (natV fr), some (.ref ll), u, x, some (.ref fl), some (natV k), some (.ref D'), v] ∧
        H' D' = some (.lst (rowV r)) ∧ Like r (lst L k) ∧ Bz a c H H8 fl L k H', ?_, ?_⟩
      · refine ⟨_, rfl, a, c, 9, rfl, S10, by omega, by omega, fun d H11 hd k11 S11 => ?_⟩
        have B11 := B10.kept hS k11 S11
        have eM11 := k11 _ _ eM M1 M2
        refine ⟨_, rfl, _, _, rfl, rfl, _, rfl, ?_⟩
        refine ifd (fun e => ?_) (fun e => ?_)
        rotate_left
        · exact ⟨u, x, v, M, ms, rfl, eM11, Lm, B11⟩
        · have Z11 := Z8.ks hS hfl B11.ks B11.kp B11.src
          have ep11 := Z11.pt
          have kp' : k < p.length := by omega
          have plt : ∀ o ∈ ms, o < p.length := fun o ho => by
            have := (Y8.mem k o ((Lm.2 o).mp ho)).2.2.1
            omega
          refine ⟨_, rfl, _, rfl, pl, _, _, _, rfl, rfl, Or.inl (SqL.of ep11), atI_row kp', by show 1 ≤ sizeLine; decide, fun o1 ho1 => ?_⟩
          have s12 := same_new (o := .lst (rowV [p.getD k 0])) ho1
          refine ⟨_, rfl, M, rfl, ⟨_, SqL.of (s12 _ _ eM11)⟩, fun F hF => ?_⟩
          refine lc_row (K := K) (f := fun o => decide (p.getD o 0 = k) && !decide (p.getD k 0 = o)) (by show 7 < 12; decide) hF (Same.refl _) (s12 _ _ eM11) (by omega) (fun o H13 Q13 ho s13 hq => ?_) fun H14 s14 e14 => ?_
          · have hom : o < p.length := plt o ho
            have ep13 := s13 _ _ (s12 _ _ ep11)
            refine ⟨_, rfl, _, rfl, pl, _, _, _, rfl, rfl, Or.inl (SqL.of ep13), atI_row hom, _, rfl, rfl, _, rfl, ?_⟩
            refine ifd (fun e1 => ?_) (fun e1 => ?_)
            · refine ⟨_, rfl, _, rfl, pl, _, _, _, rfl, rfl, Or.inl (SqL.of ep13), atI_row kp', _, rfl, rfl, _, rfl, ?_⟩
              have := hq _ (Same.refl _)
              rw [decide_eq_true (natV_inj.mp e1), Bool.true_and] at this
              have e2 : decide (natV (p.getD k 0) = natV o) = decide (p.getD k 0 = o) := by
                rw [decide_eq_decide]
                exact natV_inj
              show Q13 (!decide (natV (p.getD k 0) = natV o)) H13
              rw [e2]
              exact this
            · have := hq _ (Same.refl _)
              rw [decide_eq_false (fun z => e1 (natV_inj.mpr z)), Bool.false_and] at this
              exact this
          -- [..] + [..]
          have f14 := List.length_filter_le (fun o => decide (p.getD o 0 = k) && !decide (p.getD k 0 = o)) ms
          refine ⟨o1, F, rowV [p.getD k 0], _, rfl, rfl, s14 _ _ upd_same, e14, ?_, fun l2 hl2 => ?_⟩
          · rw [rowV_len, rowV_len]
            have := line60 (n := 61) (by omega)
            show 1 + _ ≤ sizeLine
            omega
          rw [rowV_app]
          have s15 := same_then (o := .lst (rowV ([p.getD k 0] ++ ms.filter fun o => decide (p.getD o 0 = k) && !decide (p.getD k 0 = o)))) (s12.trans s14) hl2
          refine ⟨_, rfl, l2, rfl, ⟨_, SqL.of upd_same⟩, fun F2 hF2 => ?_⟩
          refine lc_row (K := K) (f := fun o => !decide (o = k)) (by show 7 < 12; decide) hF2 s15 upd_same (by rw [List.length_append]; show 1 + _ ≤ 1000; omega) (fun o H15 Q15 ho s15 hq => ?_) fun H16 s16 e16 => ?_
          · refine ⟨_, rfl, _, rfl, rfl, _, rfl, ?_⟩
            have := hq _ (Same.refl _)
            have e2 : decide (natV o = natV k) = decide (o = k) := by
              rw [decide_eq_decide]
              exact natV_inj
            show Q15 (!decide (natV o = natV k)) H15
            rw [e2]
            exact this
          have e16 : H16 F2 = some (.lst (rowV (ahead p k ms))) := e16
          refine ⟨_, rfl, _, rfl, M, rfl, ⟨_, SqL.of (s16 _ _ eM11)⟩, fun F3 hF3 => ?_⟩
          refine lc_row (K := K) (f := fun o => !(ahead p k ms).contains o) (by show 7 < 12; decide) hF3 (Same.refl _) (s16 _ _ eM11) (by omega) (fun o H17 Q17 ho s17 hq => ?_) fun H17 s17 e17 => ?_
          · refine ⟨_, rfl, _, rfl, F2, rowV (ahead p k ms), rfl, Or.inl (SqL.of (s17 _ _ e16)), rfl, flat_rowV _, _, rfl, ?_⟩
            have := hq _ (Same.refl _)
            show Q17 (!inV (natV o) (rowV (ahead p k ms))) H17
            rw [inV_row]
            exact this
          have lk2 := front_like Y8 (fun i hi => by rw [getD_of_lt (by omega)]; exact hp _ (List.getElem_mem (by omega))) hk Lm
          have ll2 : (ahead p k ms ++ ms.filter fun o => !(ahead p k ms).contains o).length ≤ n := by
            have := nodup_sub _ (List.range n) lk2.1 fun x hx => List.mem_range.mpr (Y8.mem k x ((lk2.2 x).mp hx)).2.2.1
            rwa [List.length_range] at this
          rw [List.length_append] at ll2
          refine ⟨F2, F3, _, _, rfl, rfl, s17 _ _ e16, e17, ?_, fun l4 hl4 => ?_⟩
          · rw [rowV_len, rowV_len]
            have := line60 (n := 61) (by omega)
            omega
          rw [rowV_app]
          exact ⟨u, x, _, l4, _, rfl, upd_same, lk2, B11.same hS (same_then (s16.trans s17) hl4)⟩
      · rintro σ' H11 ⟨u, x, v, D', r, rfl, eD', lr, B11⟩
        obtain ⟨ts, ls, g1, g2, g3, g4⟩ := B11.fz.rows
        refine ⟨_, rfl, Or.inl ⟨rfl, _, SqL.of g1⟩, _, rfl, D', _, rfl, SqL.of eD', NewT.use fun tq H13 htq s13 tz => ?_⟩
        have B13 := B11.same hS s13
        obtain ⟨xs', ex, lx, Z13⟩ := B13.fz.push tz lr
        refine ⟨fl, xs', _, rfl, rfl, ex, by rw [lx]; exact line60 (by omega), _, _, _, _, _, rfl, fun b o e n1 n2 n3 => ?_, B13.kp.own f0, Src.own hS f0 B13.src, Z13⟩
        rw [upd_ne n3]
        exact B13.ks b o e n1 n2 n3
    rintro σ H9 ⟨u, x, y, z, v, rfl, B9⟩
    rw [hn] at B9
    obtain ⟨ts, ls, g1, g2, g3, g4⟩ := B9.fz.rows
    refine ⟨_, rfl, fl, _, rfl, SqL.of g1, NewT.use fun D' H' hD s t => ?_⟩
    exact hQ D' ts ls H' (B9.kp.same s) (B9.src.same s) t (all2_imp (fun q l r => TpZ.same r s) g2) (Y8.wf g3 g4) g3
end
end KL

/-! ## KF1 -/
namespace KL
open PySem PySem.Spec PyProof.Rows L2 KR KM
def AZ : Str := "abcdefghijklmnopqrstuvwxyz"
/-- the module's own constants, the names of types -/
structure Cn (mg : Str → Option Value) : Prop where
  az : ∃ u, mg "LETTERS" = some u ∧ RelV (.str AZ) u
  lon : ∃ u, mg "LONGEST_NAME" = some u ∧ RelV (.int 6) u
  most : ∃ u, mg "MOST_PERSONS" = some u ∧ RelV (.int 60) u
  str : mg "str" = none
  bool : mg "bool" = none
def GoodN (z : Str) : Prop := 1 ≤ z.length ∧ z.length ≤ 6 ∧ ∀ c ∈ z.cps.toList, c ∈ AZ.cps.toList
def Asc (zs : List Str) : Prop := ∀ (i : Nat) (x y : Str), zs[i]? = some x → zs[i + 1]? = some y → x.cps.toList < y.cps.toList
def strV (zs : List Str) : List V := zs.map V.str
theorem strV_len (zs : List Str) : (strV zs).length = zs.length := List.length_map _
theorem str_at {zs : List Str} {i : Nat} {x : V} (h : (strV zs)[i]? = some x) : ∃ z, zs[i]? = some z ∧ x = .str z := by
  unfold strV at h
  rw [List.getElem?_map] at h
  cases q : zs[i]? with
  | none =>
    rw [q] at h
    cases h
  | some k =>
    rw [q] at h
    cases h
    exact ⟨k, rfl, rfl⟩
/-- so many yes -/
def yesV (n : Nat) : List V := (List.replicate n true).map V.bl
theorem yes_snoc (n : Nat) : yesV n ++ [.bl true] = yesV (n + 1) := by
  unfold yesV
  rw [List.replicate_succ', List.map_append]
  rfl
theorem yesV_len (n : Nat) : (yesV n).length = n := by
  unfold yesV
  rw [List.length_map, List.length_replicate]
theorem all_yes {K : PySem.W.Frag} {H : Hp} {D : Addr} {n : Nat} {Q : VK} (h : H D = some (.lst (yesV n))) (q : Q (.bl true) H) : rAll K [.ref D] H Q := by
  refine ⟨D, List.replicate n true, rfl, SqL.of h, ?_⟩
  have : (List.replicate n true).all id = true := by
    rw [List.all_eq_true]
    intro x hx
    rw [List.eq_of_mem_replicate hx]
    rfl
  rw [this]
  exact q
section
variable {P : Program} {w : World} {K : PySem.W.Frag} {mg : Str → Option Value} {base : Heap}
/-- a comprehension whose every item is yes -/
theorem lc_yes {J : It} {n : Nat} {Y : Nat → Hp → V → Hp → Prop} {G : Hp → Prop} (W : Walk J n G Y) {g : TG} {te : TE} {vs : List Nat} {σ : L2.St} {H0 H1 : Hp} {D : Addr} {Qd : Hp → Prop} (hD : H1 D = none) (s0 : Same H0 H1) (few : n ≤ 1000) (hG : ∀ H, Same H1 H → G H)
    (hs : ∀ i x H H' (Q : VK), i < n → Same H1 H → Y i H x H' → (∀ H3, Same H H3 → Q (.bl true) H3) → g x (wipe σ vs) H' fun σ2 H2 => wipe σ2 vs = wipe σ vs ∧ te σ2 H2 Q)
    (hd : ∀ H, Same H0 H → H D = some (.lst (yesV n)) → Qd H) :
    ∃ W : Nat → Nat → Hp → Prop, (∃ m, W 0 m (upd H1 D (.lst []))) ∧ ∀ i m H, W i m H →
      (J.stop i H ∧ Qd H) ∨ (J.go i H ∧ ∃ Nx : Hp → Prop, (∀ H', Nx H' → ∃ m', m' < m ∧ W (i + 1) m' H') ∧ ∀ x H', J.yld i H x H' → g x (wipe σ vs) H' fun σ2 H2 => wipe σ2 vs = wipe σ vs ∧ tYes σ2 H2 fun b H3 =>
        if b = true then te σ2 H3 fun y H4 => ∃ acc, H4 D = some (.lst acc) ∧ acc.length < sizeLine ∧ Nx (upd H4 D (.lst (acc ++ [y]))) else Nx H3) := by
  refine lc_it W (fun i H' => Same H1 H' ∧ H' D = some (.lst (yesV i))) ⟨same_new hD, by rw [upd_same]; rfl⟩ (fun i H _ q => hG H q.1) ?_ ?_
  · rintro i x H H' hi ⟨s1, e1⟩ hy
    refine hs i x H H' _ hi s1 hy fun H3 s3 => ⟨_, s3 _ _ e1, by rw [yesV_len]; exact line60 (by omega), same_upd (s1.trans s3) hD, ?_⟩
    rw [upd_same, yes_snoc]
  · rintro H ⟨s1, e1⟩
    exact hd H (s0.trans s1) e1

/-! ### is_integer, is_number -/
def spIsInt : Sp := fun vs H Q _ => ∃ i : Int, vs = [.int i] ∧ Q (.bl true) H
theorem scIsInt : FnScope ["value"] ["value"] (defScope (top 6)) := ⟨rfl, rfl, rfl, by decide +kernel, rfl, by decide +kernel, by decide +kernel⟩
theorem ok_isInt (T : Tx mg) (C : Cn mg) (D : DefAt K mg "is_integer" 6) : Call P w K mg base 1 "is_integer" ["value"] spIsInt := by
  refine Call.mk' D scIsInt (fun _ _ _ _ _ _ us hl => match us, hl with | [_], _ => rfl) (fun vs H Q E h => ?_) (fun f cdv A outer s H vs Q E hr h => ?_)
  · obtain ⟨i, rfl, _⟩ := h
    rfl
  · obtain ⟨i, rfl, hQ⟩ := h
    refine ⟨_, pss_one (ps_ret (pe_and (pe_callB call_isi (by rfl) T.isin (by decide +kernel) (pa_cons (pv 0) (pa_cons (pe_bltn (v := .ty "int") (by rfl) T.int (by decide +kernel) rfl) pa_nil)))
      (pe_one (pe_not (pe_callB call_isi (by rfl) T.isin (by decide +kernel) (pa_cons (pv 0) (pa_cons (pe_bltn (v := .ty "bool") (by rfl) C.bool (by decide +kernel) rfl) pa_nil))))))), ?_⟩
    refine ⟨_, rfl, .int i, .ty "int", .type "int", .type "int", true, rfl, .ty _, .base (.int i), kit_ty (by decide +kernel), true, rfl, ?_⟩
    refine iteT ?_
    exact ⟨_, rfl, .int i, .ty "bool", .type "int", .type "bool", false, rfl, .ty _, .base (.int i), kit_ty (by decide +kernel), false, rfl, hQ⟩
def spIsNum : Sp := fun vs H Q _ => ∃ n : Nat, vs = [natV n] ∧ Q (.bl true) H
theorem scIsNum : FnScope ["value"] ["value"] (defScope (top 7)) := ⟨rfl, rfl, rfl, by decide +kernel, rfl, by decide +kernel, by decide +kernel⟩
theorem ok_isNum (D : DefAt K mg "is_number" 7) (cI : Call P w K mg base 1 "is_integer" ["value"] spIsInt) : Call P w K mg base 2 "is_number" ["value"] spIsNum := by
  refine Call.mk' D scIsNum (fun _ _ _ _ _ _ us hl => match us, hl with | [_], _ => rfl) (fun vs H Q E h => ?_) (fun f cdv A outer s H vs Q E hr h => ?_)
  · obtain ⟨i, rfl, _⟩ := h
    rfl
  · obtain ⟨n, rfl, hQ⟩ := h
    refine ⟨_, pss_one (ps_ret (pe_and (pe_k cI hr (ha := pa_cons (pv 0) pa_nil)) (pe_one (pe_cmpR op_ge (pv 0) pe_int (nomark _))))), ?_⟩
    refine ⟨_, rfl, (n : Int), rfl, true, rfl, iteT ?_⟩
    refine ⟨_, rfl, _, _, rfl, rfl, ?_⟩
    have : decide ((0 : Int) ≤ (n : Int)) = true := decide_eq_true (by omega)
    show Q (.bl (decide ((0 : Int) ≤ (n : Int)))) H
    rw [this]
    exact hQ

/-! ### is_name -/
def spIsName : Sp := fun vs H Q _ => ∃ z : Str, vs = [.str z] ∧ GoodN z ∧ ∀ H', Same H H' → Q (.bl true) H'
theorem scIsName : FnScope ["value", "sign"] ["value"] (defScope (top 8)) := ⟨rfl, rfl, rfl, by decide +kernel, rfl, by decide +kernel, by decide +kernel⟩
theorem ok_isName (T : Tx mg) (C : Cn mg) (D : DefAt K mg "is_name" 8) : Call P w K mg base 1 "is_name" ["value"] spIsName := by
  refine Call.mk' D scIsName (fun _ _ _ _ _ _ us hl => match us, hl with | [_], _ => rfl) (fun vs H Q E h => ?_) (fun f cdv A outer s H vs Q E hr h => ?_)
  · obtain ⟨z, rfl, _⟩ := h
    rfl
  · obtain ⟨z, rfl, ⟨g1, g2, g3⟩, hQ⟩ := h
    refine ⟨_, pss_cons (ps_if (PW.pt (pw_or (pt_not (pt_val (pe_callB call_isi (by rfl) T.isin (by decide +kernel) (pa_cons (pv 0) (pa_cons (pe_bltn (v := .ty "str") (by rfl) C.str (by decide +kernel) rfl) pa_nil)))))
        (pw_or1 (pt_not (pt_chain op_le op_le pe_int (pe_callB call_len_str (by rfl) T.len boot_len (pa_cons (pv 0) pa_nil)) (C8.pe_gc (by rfl) C.lon)))))) (pss_one (ps_ret pe_bl)) pss_nil)
      (pss_one (ps_ret (pe_callB (cr_all rfl) (by rfl) T.all (by decide +kernel) (pa_cons (pe_lc (own := [("sign", 1)]) (g := gName 1) (tt := tYes) (te := tOp (fun x y H Q => ∃ (c : Nat) (z : Str), x = V.str ⟨#[c]⟩ ∧ y = .str z ∧ Q (.bl (decide (c ∈ z.cps.toList))) H) (tVar 1) (tC (.str AZ))) rfl scIsName.nd (pi_str (pv 0))
        (blkOk_by (own := [("sign", 1)]) (N := ["value", "sign"]) (sc := defScope (top 8)) (by decide +kernel)) (fun _ _ _ _ _ => pg_name (i := 1) scIsName.nd rfl (Or.inl rfl)) (fun _ _ _ _ _ => pts_nil)
        (fun _ _ _ _ _ => pe_cmpR op_in_sign (pv 1) (C8.pe_gc (by rfl) C.az) rfl)) pa_nil)))), ?_⟩
    have zl : z.length ≤ sizeLine := Nat.le_of_lt (line60 (by omega))
    refine ⟨_, rfl, .str z, .ty "str", .type "str", .type "str", true, rfl, .ty _, .base (.str z), kit_ty (by decide +kernel), true, rfl, ?_⟩
    refine ⟨_, rfl, z, rfl, zl, _, _, rfl, rfl, ?_⟩
    have c1 : decide ((1 : Int) ≤ (z.length : Int)) = true := decide_eq_true (by omega)
    refine ⟨_, rfl, ?_⟩
    rw [c1]
    refine iteT ?_
    refine ⟨_, _, rfl, rfl, _, rfl, ?_⟩
    have c2 : decide ((z.length : Int) ≤ (6 : Int)) = true := decide_eq_true (by omega)
    rw [c2]
    refine iteF ?_
    refine ⟨_, rfl, z, rfl, fun D hD => ?_⟩
    refine lc_yes (walk_str (z := z)) hD (Same.refl _) (by show z.length ≤ 1000; omega) (fun _ _ => trivial) (fun i x H1 H2 Q hi s1 hy hq => ?_) fun H1 s1 e1 => ?_
    · obtain ⟨rfl, c, hc, rfl⟩ := hy
      have hm : c ∈ z.cps.toList := by
        have := Array.mem_of_getElem? hc
        simpa using this
      refine ⟨rfl, _, rfl, c, AZ, rfl, rfl, ?_⟩
      rw [decide_eq_true (g3 c hm)]
      exact hq _ (Same.refl _)
    · exact all_yes e1 (hQ _ s1)
end
end KL

/-! ## KF2 -/
namespace KL
open PySem PySem.Spec PyProof.Rows L2 KR KM
theorem isi_tup {K : PySem.W.Frag} {H : Hp} {a : Addr} {xs : List V} {Q : VK} (h : TpZ H a xs) (q : Q (.bl true) H) : rIsi K [.ref a, .ty "tuple"] H Q := by
  obtain ⟨o, _, e⟩ := h
  exact ⟨.ref a, .ty "tuple", .type "tuple", .type "tuple", true, rfl, .ty _, .fTuple e, kit_ty (by decide +kernel), q⟩
theorem rep_all (n : Nat) : (List.replicate n true).all id = true := by
  rw [List.all_eq_true]
  intro x hx
  rw [List.eq_of_mem_replicate hx]
  rfl
section
variable {P : Program} {w : World} {K : PySem.W.Frag} {mg : Str → Option Value} {base : Heap}

/-! ### are_numbers -/
def spAreNums : Sp := fun vs H Q _ => ∃ (a : Addr) (r : List Nat), vs = [.ref a] ∧ Row H a r ∧ r.length ≤ 60 ∧ ∀ H', Same H H' → Q (.bl true) H'
theorem scAreNums : FnScope ["value", "item"] ["value"] (defScope (top 9)) := ⟨rfl, rfl, rfl, by decide +kernel, rfl, by decide +kernel, by decide +kernel⟩
theorem ok_areNums (T : Tx mg) (D : DefAt K mg "are_numbers" 9) (cN : Call P w K mg base 2 "is_number" ["value"] spIsNum) : Call P w K mg base 3 "are_numbers" ["value"] spAreNums := by
  refine Call.mk' D scAreNums (fun _ _ _ _ _ _ us hl => match us, hl with | [_], _ => rfl) (fun vs H Q E h => ?_) (fun f cdv A outer s H vs Q E hr h => ?_)
  · obtain ⟨a, r, rfl, _⟩ := h
    rfl
  · obtain ⟨a, r, rfl, hR, few, hQ⟩ := h
    refine ⟨_, pss_one (ps_ret (pe_and (pe_callB call_isi (by rfl) T.isin (by decide +kernel) (pa_cons (pv 0) (pa_cons (pe_bltn (v := .ty "tuple") (by rfl) T.tuple (by decide +kernel) rfl) pa_nil)))
      (pe_one (pe_callB (cr_all rfl) (by rfl) T.all (by decide +kernel) (pa_cons (pe_lc (own := [("item", 1)]) (g := gName 1) (tt := tYes) (te := tCall spIsNum [] E0 (tCons (tVar 1) tNil)) rfl scAreNums.nd (pi_tup (pv 0))
        (blkOk_by (own := [("item", 1)]) (N := ["value", "item"]) (sc := defScope (top 9)) (by decide +kernel)) (fun _ _ _ _ _ => pg_name (i := 1) scAreNums.nd rfl (Or.inl rfl)) (fun _ _ _ _ _ => pts_nil)
        (fun _ _ _ _ _ => pe_k cN hr (ha := pa_cons (pv 1) pa_nil))) pa_nil))))), ?_⟩
    obtain ⟨ob, _, oe⟩ := id hR
    refine ⟨_, rfl, .ref a, .ty "tuple", .type "tuple", .type "tuple", true, rfl, .ty _, .fTuple oe, kit_ty (by decide +kernel), true, rfl, iteT ?_⟩
    refine ⟨_, rfl, a, rfl, ⟨_, hR.sqT⟩, fun D hD => ?_⟩
    refine lc_yes (walk_tup (K := K) (xs := rowV r)) hD (Same.refl _) (by rw [rowV_len]; omega) (fun H' s' => (TpZ.same hR s').sqT) (fun i x H1 H2 Q hi s1 hy hq => ?_) fun H1 s1 e1 => ?_
    · obtain ⟨rfl, hx⟩ := hy
      obtain ⟨o, _, rfl⟩ := row_get hx
      exact ⟨rfl, _, rfl, o, rfl, hq _ (Same.refl _)⟩
    · exact all_yes e1 (hQ _ s1)

/-! ### is_ascending -/
def spIsAsc : Sp := fun vs H Q _ => ∃ (a : Addr) (zs : List Str), vs = [.ref a] ∧ TpZ H a (strV zs) ∧ 1 ≤ zs.length ∧ zs.length ≤ 60 ∧ Asc zs ∧ ∀ H', Same H H' → Q (.bl true) H'
theorem scIsAsc : FnScope ["items", "at"] ["items"] (defScope (top 10)) := ⟨rfl, rfl, rfl, by decide +kernel, rfl, by decide +kernel, by decide +kernel⟩
def rLtS : R2 := fun x y H Q => ∃ i j, x = V.str i ∧ y = V.str j ∧ Q (.bl (decide (i.cps.toList < j.cps.toList))) H
theorem op_ltS {X : Cx} : OpR X (compareOp .Lt) rLtS := op_lt_str
theorem ok_isAsc (T : Tx mg) (D : DefAt K mg "is_ascending" 10) : Call P w K mg base 1 "is_ascending" ["items"] spIsAsc := by
  refine Call.mk' D scIsAsc (fun _ _ _ _ _ _ us hl => match us, hl with | [_], _ => rfl) (fun vs H Q E h => ?_) (fun f cdv A outer s H vs Q E hr h => ?_)
  · obtain ⟨a, r, rfl, _⟩ := h
    rfl
  · obtain ⟨a, zs, rfl, hR, one, few, asc, hQ⟩ := h
    refine ⟨_, pss_one (ps_ret (pe_callB (cr_all rfl) (by rfl) T.all (by decide +kernel) (pa_cons (pe_lc (own := [("at", 1)]) (g := gName 1) (tt := tYes)
        (te := tOp rLtS (tOp (rIxA K) (tVar 0) (tVar 1)) (tOp (rIxA K) (tVar 0) (tOp (rI0 fun i j => .int (i + j)) (tVar 1) (tC (.int 1))))) rfl scIsAsc.nd
        (pi_range1 rfl T.range (pa_cons (pe_op op_sub (pe_callB cr_lenA (by rfl) T.len boot_len (pa_cons (pv 0) pa_nil)) pe_int) pa_nil))
        (blkOk_by (own := [("at", 1)]) (N := ["items", "at"]) (sc := defScope (top 10)) (by decide +kernel)) (fun _ _ _ _ _ => pg_name (i := 1) scIsAsc.nd rfl (Or.inl rfl)) (fun _ _ _ _ _ => pts_nil)
        (fun _ _ _ _ _ => pe_cmpR op_ltS (pe_ix ix_any (pv 0) (pv 1) (fun _ _ => rfl)) (pe_ix ix_any (pv 0) (pe_op op_add (pv 1) pe_int) (fun _ _ => rfl)) (nomark _))) pa_nil))), ?_⟩
    refine ⟨_, rfl, a, _, rfl, Or.inr hR.sqT, _, _, rfl, rfl, _, rfl, by rw [strV_len]; omega, by rw [strV_len]; omega, fun D hD => ?_⟩
    refine lc_yes (walk_range (lo := 0)) hD (Same.refl _) (by rw [strV_len]; omega) (fun _ _ => trivial) (fun i x H1 H2 Q hi s1 hy hq => ?_) fun H1 s1 e1 => ?_
    · obtain ⟨rfl, rfl⟩ := hy
      rw [strV_len] at hi
      have hi : i + 1 < zs.length := by omega
      have e0 : (0 : Int) + (i : Int) = (i : Int) := Int.zero_add _
      show gName 1 (.int (0 + (i : Int))) _ _ _
      rw [e0]
      have g1 : zs[i]? = some (zs[i]'(by omega)) := List.getElem?_eq_getElem _
      have g2 : zs[i + 1]? = some (zs[i + 1]'hi) := List.getElem?_eq_getElem _
      have hR1 := TpZ.same hR s1
      refine ⟨rfl, _, rfl, _, rfl, a, _, _, .str _, rfl, rfl, Or.inr hR1.sqT, atI_nat (by unfold strV; rw [List.getElem?_map, g1]; rfl), ?_⟩
      refine ⟨_, rfl, _, rfl, _, _, rfl, rfl, a, _, _, .str (zs[i + 1]'hi), rfl, rfl, Or.inr hR1.sqT, ?_, _, _, rfl, rfl, ?_⟩
      · have : (i : Int) + 1 = ((i + 1 : Nat) : Int) := by omega
        rw [this]
        exact atI_nat (by unfold strV; rw [List.getElem?_map, g2]; rfl)
      · rw [decide_eq_true (asc i _ _ g1 g2)]
        exact hq _ (Same.refl _)
    · exact all_yes e1 (hQ _ s1)

/-! ### are_names -/
def spAreNames : Sp := fun vs H Q _ => ∃ (a : Addr) (zs : List Str), vs = [.ref a] ∧ TpZ H a (strV zs) ∧ 1 ≤ zs.length ∧ zs.length ≤ 60 ∧ Asc zs ∧ (∀ z ∈ zs, GoodN z) ∧ ∀ H', Same H H' → Q (.bl true) H'
theorem scAreNames : FnScope ["value", "name"] ["value"] (defScope (top 13)) := ⟨rfl, rfl, rfl, by decide +kernel, rfl, by decide +kernel, by decide +kernel⟩
theorem ok_areNames (T : Tx mg) (C : Cn mg) (D : DefAt K mg "are_names" 13) (cN : Call P w K mg base 1 "is_name" ["value"] spIsName) (cA : Call P w K mg base 1 "is_ascending" ["items"] spIsAsc) : Call P w K mg base 2 "are_names" ["value"] spAreNames := by
  refine Call.mk' D scAreNames (fun _ _ _ _ _ _ us hl => match us, hl with | [_], _ => rfl) (fun vs H Q E h => ?_) (fun f cdv A outer s H vs Q E hr h => ?_)
  · obtain ⟨a, r, rfl, _⟩ := h
    rfl
  · obtain ⟨a, zs, rfl, hR, one, few, asc, good, hQ⟩ := h
    refine ⟨_, pss_cons (ps_if (PW.pt (pw_or (pt_not (pt_val (pe_callB call_isi (by rfl) T.isin (by decide +kernel) (pa_cons (pv 0) (pa_cons (pe_bltn (v := .ty "tuple") (by rfl) T.tuple (by decide +kernel) rfl) pa_nil)))))
        (pw_or1 (pt_not (pt_chain op_le op_le pe_int (pe_callB cr_lenA (by rfl) T.len boot_len (pa_cons (pv 0) pa_nil)) (C8.pe_gc (by rfl) C.most)))))) (pss_one (ps_ret pe_bl)) pss_nil)
      (pss_one (ps_ret (pe_and (pe_callB (cr_all rfl) (by rfl) T.all (by decide +kernel) (pa_cons (pe_lc (own := [("name", 1)]) (g := gName 1) (tt := tYes) (te := tCall spIsName [] E0 (tCons (tVar 1) tNil)) rfl scAreNames.nd (pi_tup (pv 0))
        (blkOk_by (own := [("name", 1)]) (N := ["value", "name"]) (sc := defScope (top 13)) (by decide +kernel)) (fun _ _ _ _ _ => pg_name (i := 1) scAreNames.nd rfl (Or.inl rfl)) (fun _ _ _ _ _ => pts_nil)
        (fun _ _ _ _ _ => pe_k cN hr (ha := pa_cons (pv 1) pa_nil))) pa_nil)) (pe_one (pe_k cA hr (ha := pa_cons (pv 0) pa_nil)))))), ?_⟩
    obtain ⟨ob, _, oe⟩ := id hR
    refine ⟨_, rfl, .ref a, .ty "tuple", .type "tuple", .type "tuple", true, rfl, .ty _, .fTuple oe, kit_ty (by decide +kernel), true, rfl, ?_⟩
    refine iteF ?_
    refine ⟨_, rfl, a, _, rfl, Or.inr hR.sqT, _, _, rfl, rfl, ?_⟩
    have c1 : decide ((1 : Int) ≤ ((strV zs).length : Int)) = true := decide_eq_true (by rw [strV_len]; omega)
    refine ⟨_, rfl, ?_⟩
    rw [c1]
    refine iteT ?_
    refine ⟨_, _, rfl, rfl, _, rfl, ?_⟩
    have c2 : decide (((strV zs).length : Int) ≤ (60 : Int)) = true := decide_eq_true (by rw [strV_len]; omega)
    rw [c2]
    refine iteF ?_
    refine ⟨_, rfl, a, rfl, ⟨_, hR.sqT⟩, fun D hD => ?_⟩
    refine lc_yes (walk_tup (K := K) (xs := strV zs)) hD (Same.refl _) (by rw [strV_len]; omega) (fun H' s' => (TpZ.same hR s').sqT) (fun i x H1 H2 Q hi s1 hy hq => ?_) fun H1 s1 e1 => ?_
    · obtain ⟨rfl, hx⟩ := hy
      obtain ⟨z, hz, rfl⟩ := str_at hx
      exact ⟨rfl, _, rfl, z, rfl, good z (List.mem_of_getElem? hz), hq⟩
    · refine ⟨D, List.replicate _ true, rfl, SqL.of e1, true, by rw [rep_all], iteT ?_⟩
      exact ⟨_, rfl, a, zs, rfl, TpZ.same hR s1, one, few, asc, fun H2 s2 => hQ _ (s1.trans s2)⟩

/-! ### is_list -/
def spIsList : Sp := fun vs H Q _ => ∃ (a : Addr) (r : List Nat) (i n : Nat), vs = [.ref a, natV i, natV n] ∧ Row H a r ∧ r.length ≤ 60 ∧ r.Nodup ∧ (∀ x ∈ r, x < n ∧ x ≠ i) ∧ ∀ H', Same H H' → Q (.bl true) H'
theorem scIsList : FnScope ["value", "person", "many", "other"] ["value", "person", "many"] (defScope (top 14)) := ⟨rfl, rfl, rfl, by decide +kernel, rfl, by decide +kernel, by decide +kernel⟩
theorem ok_isList (T : Tx mg) (D : DefAt K mg "is_list" 14) (cN : Call P w K mg base 3 "are_numbers" ["value"] spAreNums) : Call P w K mg base 4 "is_list" ["value", "person", "many"] spIsList := by
  refine Call.mk' D scIsList (fun _ _ _ _ _ _ us hl => match us, hl with | [_, _, _], _ => rfl) (fun vs H Q E h => ?_) (fun f cdv A outer s H vs Q E hr h => ?_)
  · obtain ⟨a, r, i, n, rfl, _⟩ := h
    rfl
  · obtain ⟨a, r, i, n, rfl, hR, few, nd, ok, hQ⟩ := h
    refine ⟨_, pss_cons (ps_if (PW.pt (pw_or (pt_not (pt_val (pe_k cN hr (ha := pa_cons (pv 0) pa_nil))))
        (pw_or1 (pt_not (pt_val (pe_callB (cr_all rfl) (by rfl) T.all (by decide +kernel) (pa_cons (pe_lc (own := [("other", 3)]) (g := gName 3) (tt := tYes)
          (te := tAndV (tOp (rI0 fun i j => .bl (decide (i < j))) (tVar 3) (tVar 2)) (tOp rNe (tVar 3) (tVar 1))) rfl scIsList.nd (pi_tup (pv 0))
          (blkOk_by (own := [("other", 3)]) (N := ["value", "person", "many", "other"]) (sc := defScope (top 14)) (by decide +kernel)) (fun _ _ _ _ _ => pg_name (i := 3) scIsList.nd rfl (Or.inl rfl)) (fun _ _ _ _ _ => pts_nil)
          (fun _ _ _ _ _ => pe_and (pe_cmpR op_lt (pv 3) (pv 2) (nomark _)) (pe_one (pe_cmpR op_ne (pv 3) (pv 1) (nomark _))))) pa_nil))))))) (pss_one (ps_ret pe_bl)) pss_nil)
      (pss_one (ps_ret (pe_cmpR op_eq (pe_lenSetT rfl (by rfl) T.len (by rfl) T.set (pv 0)) (pe_callB cr_lenA (by rfl) T.len boot_len (pa_cons (pv 0) pa_nil)) (nomark _)))), ?_⟩
    refine ⟨_, rfl, a, r, rfl, hR, few, fun H1 s1 => ⟨true, rfl, ?_⟩⟩
    refine iteF ?_
    refine ⟨_, rfl, a, rfl, ⟨_, (TpZ.same hR s1).sqT⟩, fun D hD => ?_⟩
    refine lc_yes (walk_tup (K := K) (xs := rowV r)) hD s1 (by rw [rowV_len]; omega) (fun H' s' => (TpZ.same (TpZ.same hR s1) s').sqT) (fun i x H1 H2 Q hi s1 hy hq => ?_) fun H2 s2 e2 => ?_
    · obtain ⟨rfl, hx⟩ := hy
      obtain ⟨o, ho, rfl⟩ := row_get hx
      obtain ⟨o1, o2⟩ := ok o (List.mem_of_getElem? ho)
      refine ⟨rfl, _, rfl, _, rfl, _, _, rfl, rfl, _, rfl, ?_⟩
      have c1 : decide ((o : Int) < (n : Int)) = true := decide_eq_true (by omega)
      rw [c1]
      refine iteT ?_
      refine ⟨_, rfl, _, rfl, rfl, ?_⟩
      rw [decide_eq_false fun z => o2 (natV_inj.mp z)]
      exact hq _ (Same.refl _)
    · refine ⟨D, List.replicate _ true, rfl, SqL.of e2, true, by rw [rep_all], ?_⟩
      refine iteF ?_
      have hR2 := TpZ.same hR s2
      refine ⟨_, rfl, a, r.map fun n : Nat => (n : Int), rfl, ?_, ?_, ?_, _, rfl, a, _, rfl, Or.inr hR2.sqT, rfl, ?_⟩
      · have : (r.map fun n : Nat => (n : Int)).map V.int = rowV r := by
          rw [List.map_map]
          rfl
        rw [this]
        exact hR2.sqT
      · rw [List.length_map]
        omega
      · refine List.Pairwise.map _ (fun a b h => ?_) nd
        intro e
        exact h (by omega)
      · rw [List.length_map, rowV_len, decide_eq_true rfl]
        exact hQ _ s2
end
end KL

/-! ## KF3 -/
namespace KL
open PySem PySem.Spec PyProof.Rows L2 KR KM
abbrev sInit : Stmt := inClass (top 15) 0
/-- the class's def and the class as it is called -/
structure IniAt (K : PySem.W.Frag) (mg : Str → Option Value) (C : Addr) : Prop where
  ex : ∃ f fd, FunD K "__init__" "Wishes.__init__" (defArgs sInit) (defBody sInit) (defScope sInit) [] [] f fd ∧ Mk K C f
  at_ : mg "Wishes" = some (.ref C)
structure CallM (P : Program) (w : World) (K : PySem.W.Frag) (mg : Str → Option Value) (base : Heap) (k : Nat) (C : Addr) (ps : List Str) (sp : Sp) : Prop where
  ex : ∃ f fd, FnOk P w K mg base CX0 k f fd ps sp ∧ Mk K C f ∧ mg "Wishes" = some (.ref C) ∧ Binds K fd ps []
section
variable {X : Cx} {k j : Nat} {ps : List Str} {sp : Sp} {p pos : Pos} {e : Expr} {es : List Expr} {t : TA} {C : Addr}
theorem pe_mk (c : CallM X.prog X.w X.K X.mg X.base k C ps sp) (hr : Room j X.A) (hk : k + 1 ≤ j := by decide) (hg : Gl X "Wishes" := by rfl) (ha : PA X (e :: es) t)
    (he : starEach (e :: es) X.env = (false, eval e X.env) :: starEach es X.env := by rfl) (hpl : (backTo pos (starEach es X.env)).any (·.1) = false := by rfl) :
    PE X (.Call (.Name "Wishes" p) (e :: es) [] pos) (tMake C sp [] E0 t) := by
  obtain ⟨f, fd, F, M, hm, b⟩ := c.ex
  exact pe_make M F (hr.mono hk) hg hm b .nil pass0 ha (by decide) he hpl
end
theorem contains_of {l : List Nat} {x : Nat} (h : x ∈ l) : l.contains x = true := by
  rw [List.contains_iff_mem]
  exact h
section
variable {P : Program} {w : World} {K : PySem.W.Frag} {mg : Str → Option Value} {base : Heap}
def spInit (K : PySem.W.Frag) (C : Addr) : Sp := fun vs H Q _ => ∃ (x dx nt lt : Addr) (zs : List Str) (qs : List Addr) (ls : List (List Nat)), vs = [.ref x, .ref nt, .ref lt] ∧ H x = some (.ins C dx []) ∧ TpZ H nt (strV zs) ∧ TpZ H lt (qs.map V.ref) ∧ All2 (Row H) qs ls ∧ WF ls ∧ ls.length = zs.length ∧
  1 ≤ zs.length ∧ zs.length ≤ 60 ∧ Asc zs ∧ (∀ z ∈ zs, GoodN z) ∧ ∀ H', (∀ b o, H b = some o → b ≠ x → H' b = some o) → H' x = some (.ins C dx [("names", .ref nt), ("lists", .ref lt)]) → Q .non H'
abbrev nInit : List Str := ["self", "names", "lists", "person", "value", "other"]
theorem scInit : FnScope nInit ["self", "names", "lists"] (defScope sInit) := ⟨rfl, rfl, rfl, by decide +kernel, rfl, by decide +kernel, by decide +kernel⟩
theorem ok_init (T : Tx mg) {C : Addr} (c : Wc K C) (D : IniAt K mg C) (cN : Call P w K mg base 2 "are_names" ["value"] spAreNames) (cL : Call P w K mg base 4 "is_list" ["value", "person", "many"] spIsList) : CallM P w K mg base 5 C ["self", "names", "lists"] (spInit K C) := by
  obtain ⟨f, fd, F, M⟩ := D.ex
  refine ⟨f, fd, F.ok scInit (fun vs H Q E h => ?_) (fun cdv A outer s H vs Q E hr h => ?_), M, D.at_, F.bindsN (fun _ _ _ _ _ _ us hl => match us, hl with | [_, _, _], _ => rfl)⟩
  · obtain ⟨x, dx, nt, lt, zs, qs, ls, rfl, _⟩ := h
    rfl
  · obtain ⟨x, dx, nt, lt, zs, qs, ls, rfl, hx, hn, hl, hq, W, len, one, few, asc, good, hQ⟩ := h
    refine ⟨_, PSs.nox (pss_cons (ps_if (pt_not (pt_val (pe_k cN hr (ha := pa_cons (pv 1) pa_nil)))) (pss_one ps_never) pss_nil)
      (pss_cons (ps_if (PW.pt (pw_or (pt_not (pt_val (pe_callB call_isi (by rfl) T.isin (by decide +kernel) (pa_cons (pv 2) (pa_cons (pe_bltn (v := .ty "tuple") (by rfl) T.tuple (by decide +kernel) rfl) pa_nil)))))
        (pw_or1 (pt_cmpR op_ne (pe_callB cr_lenA (by rfl) T.len boot_len (pa_cons (pv 2) pa_nil)) (pe_callB cr_lenA (by rfl) T.len boot_len (pa_cons (pv 1) pa_nil)) (nomark _))))) (pss_one ps_never) pss_nil)
      (pss_cons (ps_for PassesOwn.never rfl (pi_enumT rfl T.enum (pa_cons (pv 2) pa_nil)) (pg_tup rfl (pgs_cons (pg_name (i := 3) scInit.nd rfl (.inr rfl)) (pgs_cons (pg_name (i := 4) scInit.nd rfl (.inl rfl)) pgs_nil)))
        (pss_one (ps_if (pt_not (pt_val (pe_k cL hr (ha := pa_cons (pv 4) (pa_cons (pv 3) (pa_cons (pe_callB cr_lenA (by rfl) T.len boot_len (pa_cons (pv 1) pa_nil)) pa_nil)))))) (pss_one ps_never) pss_nil)))
      (pss_cons (ps_for PassesOwn.never rfl (pi_enumT rfl T.enum (pa_cons (pv 2) pa_nil)) (pg_tup rfl (pgs_cons (pg_name (i := 3) scInit.nd rfl (.inr rfl)) (pgs_cons (pg_name (i := 4) scInit.nd rfl (.inl rfl)) pgs_nil)))
        (pss_one (ps_if (pt_not (pt_val (pe_callB (cr_all rfl) (by rfl) T.all (by decide +kernel) (pa_cons (pe_lc (own := [("other", 5)]) (g := gName 5) (tt := tYes) (te := tOp (rIn K false) (tVar 3) (tOp (rIxA K) (tVar 2) (tVar 5))) rfl scInit.nd (pi_tup (pv 4))
          (blkOk_by (own := [("other", 5)]) (N := nInit) (sc := defScope sInit) (by decide +kernel)) (fun _ _ _ _ _ => pg_name (i := 5) scInit.nd rfl (Or.inl rfl)) (fun _ _ _ _ _ => pts_nil)
          (fun _ _ _ _ _ => pe_cmpR op_in_seq (pv 3) (pe_ix ix_any (pv 2) (pv 5) (fun _ _ => rfl)) rfl)) pa_nil)))) (pss_one ps_never) pss_nil)))
      (pss_cons (ps_fld (pv 0) (pv 1) rfl) (pss_one (ps_fld (pv 0) (pv 2) rfl))))))), ?_⟩
    refine ⟨_, rfl, nt, zs, rfl, hn, one, few, asc, good, fun H1 s1 => ⟨true, rfl, ?_⟩⟩
    refine iteF ?_
    obtain ⟨ob, _, oe⟩ := TpZ.same hl s1
    refine ⟨_, rfl, .ref lt, .ty "tuple", .type "tuple", .type "tuple", true, rfl, .ty _, .fTuple oe, kit_ty (by decide +kernel), true, rfl, ?_⟩
    refine iteF ?_
    have lq : (qs.map V.ref).length = zs.length := by rw [List.length_map, all2_len hq, len]
    refine ⟨_, rfl, lt, _, rfl, Or.inr (TpZ.same hl s1).sqT, _, rfl, nt, _, rfl, Or.inr (TpZ.same hn s1).sqT, rfl, _, rfl, ?_⟩
    rw [lq, strV_len, decide_eq_true rfl]
    refine iteF ?_
    -- each list by itself
    refine ⟨_, rfl, lt, _, rfl, (TpZ.same hl s1).sqT, for_it (walk_enumT (xs := qs.map V.ref)) (fun i σ H' => ∃ (u v : Option V), σ = [some (.ref x), some (.ref nt), some (.ref lt), u, v, none] ∧ Same H H') ⟨none, none, rfl, s1⟩ ?_ ?_ ?_⟩
    · rintro i σ H' _ ⟨u, v, rfl, s2⟩
      exact (TpZ.same hl s2).sqT
    · rintro i y σ H2 H3 hi ⟨u, v, rfl, s2⟩ ⟨T', y, z, rfl, hT, rfl, hy, hz⟩
      cases hy
      have s3 := same_then (o := .tup [.int (i : Nat), z]) s2 hT
      rw [lq] at hi
      have e : ls[i]? = some (lst ls i) := by
        have hi : i < ls.length := by omega
        rw [List.getElem?_eq_getElem hi]
        unfold lst
        rw [List.getD_eq_getElem?_getD, List.getElem?_eq_getElem hi]
        rfl
      obtain ⟨q, g1, g2⟩ := all2_get hq e
      have ez : z = V.ref q := by
        have hz : (qs.map V.ref)[i]? = some z := hz
        rw [List.getElem?_map, g1] at hz
        cases hz
        rfl
      subst ez
      refine ⟨T', _, rfl, SqT.of upd_same, rfl, _, _, rfl, _, _, rfl, rfl, ?_⟩
      refine ⟨_, rfl, _, rfl, _, rfl, nt, _, rfl, Or.inr (TpZ.same hn s3).sqT, q, lst ls i, i, (strV zs).length, rfl, TpZ.same g2 s3, ?_, W.nd i (by omega), fun o ho => ⟨?_, W.ne i (by omega) o ho⟩, fun H4 s4 => ⟨true, rfl, ?_⟩⟩
      · have := nodup_sub (lst ls i) (List.range ls.length) (W.nd i (by omega)) fun x hx => List.mem_range.mpr (W.lt i (by omega) x hx)
        rw [List.length_range] at this
        omega
      · have := W.lt i (by omega) o ho
        rw [strV_len]
        omega
      · refine iteF ?_
        exact ⟨_, _, rfl, s3.trans s4⟩
    rintro σ H2 ⟨u, v, rfl, s2⟩
    -- each for the other
    refine ⟨_, rfl, lt, _, rfl, (TpZ.same hl s2).sqT, for_it (walk_enumT (xs := qs.map V.ref)) (fun i σ H' => ∃ (u v : Option V), σ = [some (.ref x), some (.ref nt), some (.ref lt), u, v, none] ∧ Same H H') ⟨u, v, rfl, s2⟩ ?_ ?_ ?_⟩
    · rintro i σ H' _ ⟨u, v, rfl, s2⟩
      exact (TpZ.same hl s2).sqT
    · rintro i y σ H2 H3 hi ⟨u, v, rfl, s2⟩ ⟨T', y, z, rfl, hT, rfl, hy, hz⟩
      cases hy
      have s3 := same_then (o := .tup [.int (i : Nat), z]) s2 hT
      rw [lq] at hi
      have e : ls[i]? = some (lst ls i) := by
        have hi : i < ls.length := by omega
        rw [List.getElem?_eq_getElem hi]
        unfold lst
        rw [List.getD_eq_getElem?_getD, List.getElem?_eq_getElem hi]
        rfl
      obtain ⟨q, g1, g2⟩ := all2_get hq e
      have ez : z = V.ref q := by
        have hz : (qs.map V.ref)[i]? = some z := hz
        rw [List.getElem?_map, g1] at hz
        cases hz
        rfl
      subst ez
      refine ⟨T', _, rfl, SqT.of upd_same, rfl, _, _, rfl, _, _, rfl, rfl, ?_⟩
      refine ⟨_, rfl, q, rfl, ⟨_, (TpZ.same g2 s3).sqT⟩, fun F hF => ?_⟩
      refine lc_yes (walk_tup (K := K) (xs := rowV (lst ls i))) hF s3 ?_ (fun H' s' => (TpZ.same g2 (s3.trans s')).sqT) (fun m y H4 H5 Q hm s4 hy hq' => ?_) fun H4 s4 e4 => ?_
      · rw [rowV_len]
        have := nodup_sub (lst ls i) (List.range ls.length) (W.nd i (by omega)) fun x hx => List.mem_range.mpr (W.lt i (by omega) x hx)
        rw [List.length_range] at this
        omega
      · obtain ⟨rfl, hx⟩ := hy
        obtain ⟨o, ho, rfl⟩ := row_get hx
        have hmem := List.mem_of_getElem? ho
        have olt := W.lt i (by omega) o hmem
        have back := W.sy i (by omega) o hmem
        have hR : Rows K H5 lt ls := ⟨qs, Or.inr (TpZ.same hl (s3.trans s4)).sqT, all2_imp (fun q l r => TpZ.same r (s3.trans s4)) hq⟩
        obtain ⟨xs, q2, x1, x2, x3⟩ := hR.at_ olt
        refine ⟨rfl, _, rfl, _, rfl, _, rfl, lt, xs, _, _, rfl, rfl, x1, x2, q2, _, rfl, Or.inr x3.sqT, rfl, flat_rowV _, ?_⟩
        have c1 : inV (natV i) (rowV (lst ls o)) = true := by
          rw [inV_row]
          exact contains_of back
        show Q (.bl (inV (natV i) (rowV (lst ls o)))) _
        rw [c1]
        exact hq' _ (Same.refl _)
      · refine ⟨F, List.replicate _ true, rfl, SqL.of e4, true, by rw [rep_all], ?_⟩
        refine iteF ?_
        exact ⟨_, _, rfl, s4⟩
    rintro σ H3 ⟨u, v, rfl, s3⟩
    have h3 := s3 _ _ hx
    refine ⟨_, rfl, _, rfl, x, C, dx, [], rfl, h3, c.cl, c.nN, by decide, ?_⟩
    refine ⟨_, rfl, _, rfl, x, C, dx, _, rfl, upd_same, c.cl, c.nL, by show 1 < 1000; decide, ?_⟩
    refine hQ _ (fun b o e n => ?_) ?_
    · rw [upd_ne n, upd_ne n]
      exact s3 _ _ e
    · rw [upd_same]
      rfl
end
end KL

/-! ## KF4 -/
namespace KL
open PySem PySem.Spec PyProof.Rows L2 KR KM
def nm (i d : Nat) : Str := (⟨#[97 + i]⟩ : Str) ++ cutS "name" (some (d : Int)) none
def goodB (z : Str) : Bool := decide (1 ≤ z.length) && decide (z.length ≤ 6) && z.cps.toList.all fun c => decide (c ∈ AZ.cps.toList)
theorem good_of {z : Str} (h : goodB z = true) : GoodN z := by
  unfold goodB at h
  simp only [Bool.and_eq_true, decide_eq_true_eq, List.all_eq_true] at h
  exact ⟨h.1.1, h.1.2, h.2⟩
theorem nm_good : ∀ i d : Nat, i < 8 → d < 5 → GoodN (nm i d) := fun i d hi hd => by
  have h : ∀ i : Fin 8, ∀ d : Fin 5, goodB (nm i.1 d.1) = true := by decide +kernel
  exact good_of (h ⟨i, hi⟩ ⟨d, hd⟩)
theorem nm_asc : ∀ i d e : Nat, i < 8 → d < 5 → e < 5 → (nm i d).cps.toList < (nm (i + 1) e).cps.toList := fun i d e hi hd he => by
  have h : ∀ i : Fin 8, ∀ d e : Fin 5, decide ((nm i.1 d.1).cps.toList < (nm (i.1 + 1) e.1).cps.toList) = true := by decide +kernel
  exact of_decide_eq_true (h ⟨i, hi⟩ ⟨d, hd⟩ ⟨e, he⟩)
theorem nm_at : ∀ i : Nat, i < 8 → atI AZ.cps.toList (i : Int) = some (97 + i) := fun i hi => by
  have h : ∀ i : Fin 8, decide (atI AZ.cps.toList (i.1 : Int) = some (97 + i.1)) = true := by decide +kernel
  exact of_decide_eq_true (h ⟨i, hi⟩)
theorem nm_len : ∀ i d : Nat, i < 8 → d < 5 → (⟨#[97 + i]⟩ : Str).length + (cutS "name" (some (d : Int)) none).length ≤ sizeLine := fun i d hi hd => by
  have h : ∀ i : Fin 8, ∀ d : Fin 5, decide ((⟨#[97 + i.1]⟩ : Str).length + (cutS "name" (some (d.1 : Int)) none).length ≤ 1000) = true := by decide +kernel
  have := of_decide_eq_true (h ⟨i, hi⟩ ⟨d, hd⟩)
  exact Nat.le_of_lt (line60 this)
def rAddS : R2 := fun x y H Q => ∃ i j, x = V.str i ∧ y = V.str j ∧ i.length + j.length ≤ sizeLine ∧ Q (.str (i ++ j)) H
theorem op_addS {X : Cx} : OpR X (binaryOp .Add) rAddS := op_add_str
theorem strV_snoc (l : List Str) (z : Str) : strV l ++ [.str z] = strV (l ++ [z]) := by
  unfold strV
  rw [List.map_append]
  rfl
/-- wishes whose tuples are known -/
def WZ (C : Addr) (H : Hp) (p : Addr) (ls : List (List Nat)) : Prop := ∃ dx fs a qs, H p = some (.ins C dx fs) ∧ fs.lookup ("lists" : Str) = some (.ref a) ∧ TpZ H a (qs.map V.ref) ∧ All2 (Row H) qs ls
theorem WZ.wat {K : PySem.W.Frag} {C : Addr} {H : Hp} {p : Addr} {ls : List (List Nat)} (h : WZ C H p ls) : WAt K C H p ls := by
  obtain ⟨dx, fs, a, qs, h1, h2, h3, h4⟩ := h
  exact ⟨dx, fs, a, h1, h2, qs, Or.inr h3.sqT, h4⟩
theorem WZ.kept {C a c : Addr} {H H' : Hp} {p : Addr} {ls : List (List Nat)} (h : WZ C H p ls) (S : Src a c H) (k : Kp a c H H') : WZ C H' p ls := by
  obtain ⟨dx, fs, q, qs, h1, h2, h3, h4⟩ := h
  refine ⟨dx, fs, q, qs, ?_, h2, Kp.tpz h3 S k, all2_imp (fun _ _ r => Kp.tpz r S k) h4⟩
  obtain ⟨cells, t, g1, g2, _⟩ := S
  refine k _ _ h1 (fun e => ?_) fun e => ?_
  · rw [e, g1] at h1
    cases h1
  · rw [e, g2] at h1
    cases h1
section
variable {P : Program} {w : World} {K : PySem.W.Frag} {mg : Str → Option Value} {base : Heap}
def spWishes (C : Addr) : Sp := fun vs H Q _ => ∃ (a c lt : Addr) (qs : List Addr) (ls : List (List Nat)), vs = [.ref a, .ref lt] ∧ Src a c H ∧ TpZ H lt (qs.map V.ref) ∧ All2 (Row H) qs ls ∧ WF ls ∧ 1 ≤ ls.length ∧ ls.length ≤ 8 ∧
  ∀ p H', Kp a c H H' → Src a c H' → WZ C H' p ls → Q (.ref p) H'
abbrev nWishes : List Str := ["_law_heap_here", "_law_lists_here", "_law_letters", "_law_at"]
theorem scWishes : FnScope nWishes ["_law_heap_here", "_law_lists_here"] (defScope (top 31)) := ⟨rfl, rfl, rfl, by decide +kernel, rfl, by decide +kernel, by decide +kernel⟩
theorem ok_wishes (T : Tx mg) {C : Addr} (D : DefAt K mg "_law_wishes" 31) (cD : Call P w K mg base 1 "_law_draw" ["_law_heap_here", "_law_many"] spDraw) (cI : CallM P w K mg base 5 C ["self", "names", "lists"] (spInit K C)) :
    Call P w K mg base 7 "_law_wishes" ["_law_heap_here", "_law_lists_here"] (spWishes C) := by
  refine Call.mk' D scWishes (fun _ _ _ _ _ _ us hl => match us, hl with | [_, _], _ => rfl) (fun vs H Q E h => ?_) (fun f cdv A outer s H vs Q E hr h => ?_)
  · obtain ⟨a, c, lt, qs, ls, rfl, _⟩ := h
    rfl
  · obtain ⟨a, c, lt, qs, ls, rfl, hS, hl, hq, W, one, few, hQ⟩ := h
    refine ⟨_, pss_cons (ps_set (i := 2) scWishes.nd rfl (.inr rfl) pe_str) (pss_one (ps_ret (pe_mk cI hr (ha := pa_cons (pe_callTy cr_tupL (by rfl) T.tuple (by decide +kernel) (pa_cons
        (pe_lc (own := [("_law_at", 3)]) (g := gName 3) (tt := tYes) (te := tOp rAddS (tOp rIxS (tVar 2) (tVar 3)) (tSl rSlS (tC (.str "name")) (tPart (tCall spDraw [] E0 (tCons (tVar 0) (tCons (tC (.int 5)) tNil)))) tNoPart)) rfl scWishes.nd
          (pi_range1 rfl T.range (pa_cons (pe_callB cr_lenA (by rfl) T.len boot_len (pa_cons (pv 1) pa_nil)) pa_nil))
          (blkOk_by (own := [("_law_at", 3)]) (N := nWishes) (sc := defScope (top 31)) (by decide +kernel)) (fun _ _ _ _ _ => pg_name (i := 3) scWishes.nd rfl (Or.inl rfl)) (fun _ _ _ _ _ => pts_nil)
          (fun _ _ _ _ _ => pe_op op_addS (pe_ix ix_str (pv 2) (pv 3) (fun _ _ => rfl)) (pe_slice sl_str pe_str (po_some (pe_k cD hr (ha := pa_cons (pv 0) (pa_cons pe_int pa_nil)))) po_none))) pa_nil)) (pa_cons (pv 1) pa_nil))))), ?_⟩
    have lq : (qs.map V.ref).length = ls.length := by rw [List.length_map, all2_len hq]
    refine ⟨_, rfl, lt, _, rfl, Or.inr hl.sqT, _, rfl, by omega, by omega, fun D hD => ?_⟩
    obtain ⟨D1, D2⟩ := hS.off hD
    refine lc_range (lo := 0) (n := (((qs.map V.ref).length : Nat) : Int).toNat) (fun i H' => Kp a c H H' ∧ Src a c H' ∧ ∃ zs : List Str, H' D = some (.lst (strV zs)) ∧ zs.length = i ∧ ∀ k z, zs[k]? = some z → ∃ d, d < 5 ∧ z = nm k d)
      ⟨Kp.of (same_new hD), hS.new hD, [], upd_same, rfl, fun k z h => by simp at h⟩ ?_ ?_
    · rintro i H1 hi ⟨k1, S1, zs, e1, l1, z1⟩
      have hi : i < 8 := by omega
      have e0 : (0 : Int) + (i : Int) = (i : Int) := Int.zero_add _
      rw [e0]
      refine ⟨rfl, _, rfl, _, rfl, AZ, _, 97 + i, rfl, rfl, Nat.le_of_lt (line60 (by decide)), nm_at i hi, ?_⟩
      refine ⟨_, rfl, a, c, 5, rfl, S1, by omega, by omega, fun d H2 hd k2 S2 => ?_⟩
      refine ⟨(d : Int), rfl, "name", rfl, Nat.le_of_lt (line60 (by decide)), ?_⟩
      refine ⟨_, _, rfl, rfl, nm_len i d hi hd, ?_⟩
      refine ⟨_, k2 _ _ e1 D1 D2, by rw [strV_len]; exact line60 (by omega), (k1.trans k2).own hD, Src.own hS hD S2, zs ++ [nm i d], ?_, by rw [List.length_append, l1]; rfl, fun k z hk => ?_⟩
      · rw [upd_same, ← strV_snoc]
        rfl
      · rw [List.getElem?_append] at hk
        by_cases e : k < zs.length
        · rw [if_pos e] at hk
          exact z1 k z hk
        · rw [if_neg e] at hk
          have : k - zs.length = 0 := by
            rcases Nat.eq_zero_or_pos (k - zs.length) with h | h
            · exact h
            · rw [List.getElem?_eq_none (by simp; omega)] at hk
              cases hk
          have ek : k = i := by omega
          rw [this] at hk
          have hk : some (nm i d) = some z := hk
          cases hk
          exact ⟨d, hd, by rw [ek]⟩
    · rintro H1 ⟨k1, S1, zs, e1, l1, z1⟩
      have lz : zs.length = ls.length := by omega
      refine ⟨D, _, rfl, SqL.of e1, NewT.use fun nt H2 hnt s2 t2 => ?_⟩
      have k2 := k1.same s2
      have S2 := S1.same s2
      have hl2 := Kp.tpz hl hS k2
      have hq2 : All2 (Row H2) qs ls := all2_imp (fun q l r => Kp.tpz r hS k2) hq
      refine ⟨_, rfl, fun x dx hx hdx dxx => ?_⟩
      have s3 : Same H2 (upd (upd H2 dx (.own x)) x (.ins C dx [])) := fun b o e => by
        rw [upd_ne (ne_of_none e hx), upd_ne (ne_of_none e hdx)]
        exact e
      refine ⟨x, dx, nt, lt, zs, qs, ls, rfl, upd_same, TpZ.same t2 s3, TpZ.same hl2 s3, all2_imp (fun q l r => TpZ.same r s3) hq2, W, lz.symm, by omega, by omega, fun k y z hy hz => ?_, fun z hz => ?_, fun H4 keep e4 => ⟨rfl, ?_⟩⟩
      · obtain ⟨d, hd, rfl⟩ := z1 k y hy
        obtain ⟨d2, hd2, rfl⟩ := z1 (k + 1) z hz
        have := (List.getElem?_eq_some_iff.mp hz).1
        exact nm_asc k d d2 (by omega) hd hd2
      · obtain ⟨k, hk, rfl⟩ := List.getElem_of_mem hz
        obtain ⟨d, hd, e⟩ := z1 k _ (List.getElem?_eq_getElem hk)
        rw [e]
        exact nm_good k d (by omega) hd
      · have s4 : Same H2 H4 := fun b o e => keep b o (s3 b o e) (ne_of_none e hx)
        refine hQ x H4 (k2.same s4) (S2.same s4) ⟨dx, _, lt, qs, e4, rfl, TpZ.same hl2 s4, all2_imp (fun q l r => TpZ.same r s4) hq2⟩
end
end KL

/-! ## KF5 -/
namespace KL
open PySem PySem.Spec PyProof.Rows L2 KR KM
def wst (ls : List (List Nat)) (p : List Nat) : List Nat := (List.range ls.length).map fun i => rnk ls i (p.idxOf i)
theorem wst_len (ls : List (List Nat)) (p : List Nat) : (wst ls p).length = ls.length := by simp [wst]
theorem wst_get {ls : List (List Nat)} {p : List Nat} {i : Nat} (h : i < ls.length) : (wst ls p).getD i 0 = rnk ls i (p.idxOf i) := by
  rw [getD_of_lt (by rw [wst_len]; exact h)]
  simp [wst]
theorem wst_take {ls : List (List Nat)} {p : List Nat} {i : Nat} (h : i < ls.length) : (wst ls p).take (i + 1) = (wst ls p).take i ++ [rnk ls i (p.idxOf i)] := by
  have h1 : i < (wst ls p).length := by rw [wst_len]; exact h
  rw [List.take_succ_eq_append_getElem h1]
  congr 1
  simp [wst]
theorem cut_take {r : List Nat} {k : Nat} : cutV (rowV r) none (some (k : Int)) = rowV (r.take k) := by
  unfold cutV
  have h1 : HT.sIx (rowV r).length 0 none = 0 := rfl
  have h2 : HT.sIx (rowV r).length (rowV r).length (some (k : Int)) = min k (rowV r).length := HT.sIx_nat _ _ k
  rw [h1, h2, List.drop_zero, Nat.sub_zero, rowV_len]
  unfold rowV
  rw [← List.map_take]
  congr 1
  rw [List.take_eq_take_iff]
  omega
theorem all_take {r : List Nat} {k : Nat} (h : HT.sIx (rowV r).length (rowV r).length (some (k : Int)) = (rowV r).length) : r.take k = r := by
  have h2 : HT.sIx (rowV r).length (rowV r).length (some (k : Int)) = min k (rowV r).length := HT.sIx_nat _ _ k
  rw [h2, rowV_len] at h
  exact List.take_of_length_le (by omega)
theorem idx_of_nodup {r : List Nat} {m o : Nat} (nd : r.Nodup) (h : r[m]? = some o) : r.idxOf o = m := by
  obtain ⟨h1, h2⟩ := List.getElem?_eq_some_iff.mp h
  subst h2
  have hm := List.idxOf_lt_length_of_mem (List.getElem_mem h1)
  exact (List.getElem_inj nd).mp (List.getElem_idxOf hm)
theorem sl_take {K : PySem.W.Frag} {H : Hp} {q : Addr} {r : List Nat} {k : Nat} {Q : VK} (h : SqT K H q (rowV r)) (hQ : ∀ t H', Same H H' → SqT K H' t (rowV (r.take k)) → Q (.ref t) H') : rSlA K (.ref q) none (some (k : Int)) H Q := by
  refine ⟨q, _, rfl, h, fun e => hQ q H (Same.refl _) ?_, fun _ p hp => hQ p _ (same_new hp) ?_⟩
  · rw [all_take e.2]
    exact h
  · rw [cut_take]
    exact SqT.of upd_same
section
variable {P : Program} {w : World} {K : PySem.W.Frag} {mg : Str → Option Value} {base : Heap}

/-! ### _law_lasts -/
def spLasts (K : PySem.W.Frag) : Sp := fun vs H Q _ => ∃ (la pa : Addr) (ls : List (List Nat)) (p : List Nat), vs = [.ref la, .ref pa] ∧ Rows K H la ls ∧ (Row H pa p ∨ SqL K H pa (rowV p)) ∧ WF ls ∧ Par ls p ∧ ls.length ≤ 60 ∧
  ∀ (b : Bool) H', (b = true ↔ Lasts ls p) → Same H H' → Q (.bl b) H'
abbrev nLasts : List Str := ["_law_lists_here", "_law_parting", "_law_before_here", "_law_worst", "_law_one", "_law_other", "_law_person"]
theorem scLasts : FnScope nLasts ["_law_lists_here", "_law_parting"] (defScope (top 34)) := ⟨rfl, rfl, rfl, by decide +kernel, rfl, by decide +kernel, by decide +kernel⟩
theorem ok_lasts (T : Tx mg) (D : DefAt K mg "_law_lasts" 34) (cR : Call P w K mg base 1 "_law_rank" ["_law_lists_here", "_law_person", "_law_other"] (spRank K)) (cB : Call P w K mg base 1 "_law_before" ["_law_parting"] (spBefore K)) :
    Call P w K mg base 2 "_law_lasts" ["_law_lists_here", "_law_parting"] (spLasts K) := by
  refine Call.mk' D scLasts (fun _ _ _ _ _ _ us hl => match us, hl with | [_, _], _ => rfl) (fun vs H Q E h => ?_) (fun f cdv A outer s H vs Q E hr h => ?_)
  · obtain ⟨la, pa, ls, p, rfl, _⟩ := h
    rfl
  · obtain ⟨la, pa, ls, p, rfl, hR, hp, W, pr, few, hQ⟩ := h
    have m := pm_of W pr few
    have hpA : ∀ H', Same H H' → SqA K H' pa (rowV p) := fun H' s => by
      rcases hp with h | h
      · exact Or.inr (TpZ.same h s).sqT
      · exact Or.inl (s.seq h)
    refine ⟨_, pss_cons (ps_set (i := 2) scLasts.nd rfl (.inr rfl) (pe_k cB hr (ha := pa_cons (pv 1) pa_nil)))
      (pss_cons (ps_setLc (i := 3) (own := [("_law_person", 6)]) (g := gName 6) (tt := tYes) (te := tCall (spRank K) [] E0 (tCons (tVar 0) (tCons (tVar 6) (tCons (tOp (rIxA K) (tVar 2) (tVar 6)) tNil))))
        rfl scLasts.nd rfl rfl (sw_true rfl rfl rfl (by decide +kernel)) (pi_range1 rfl T.range (pa_cons (pe_callB cr_lenA (by rfl) T.len boot_len (pa_cons (pv 0) pa_nil)) pa_nil))
        (blkOk_by (own := [("_law_person", 6)]) (N := nLasts) (sc := defScope (top 34)) (by decide +kernel)) (fun _ _ _ _ _ => pg_name (i := 6) scLasts.nd rfl (Or.inl rfl)) (fun _ _ _ _ _ => pts_nil)
        (fun _ _ _ _ _ => pe_k cR hr (ha := pa_cons (pv 0) (pa_cons (pv 6) (pa_cons (pe_ix ix_any (pv 2) (pv 6) (fun _ _ => rfl)) pa_nil)))))
      (pss_cons (ps_for PassesOwn.never rfl (pi_range1 rfl T.range (pa_cons (pe_callB cr_lenA (by rfl) T.len boot_len (pa_cons (pv 0) pa_nil)) pa_nil)) (pg_name (i := 4) scLasts.nd rfl (.inl rfl))
        (pss_cons (ps_if (pt_cmpR op_gt (pe_k cR hr (ha := pa_cons (pv 0) (pa_cons (pv 4) (pa_cons (pe_ix ix_any (pv 1) (pv 4) (fun _ _ => rfl)) pa_nil)))) (pe_ix ix_any (pv 3) (pv 4) (fun _ _ => rfl)) (nomark _)) (pss_one (ps_ret pe_bl)) pss_nil)
        (pss_one (ps_for PassesOwn.never rfl (pi_tup (pe_slice sl_tupA (pe_ix ix_any (pv 0) (pv 4) (fun _ _ => rfl)) po_none (po_some (pe_ix ix_any (pv 3) (pv 4) (fun _ _ => rfl))))) (pg_name (i := 5) scLasts.nd rfl (.inl rfl))
          (pss_one (ps_if (PW.pt (pw_and (pt_cmpR op_ne (pe_ix ix_any (pv 1) (pv 4) (fun _ _ => rfl)) (pv 5) (nomark _)) (pw_and (pt_cmpR op_ne (pe_ix ix_any (pv 1) (pv 5) (fun _ _ => rfl)) (pv 4) (nomark _))
              (pw_and1 (pt_cmpR op_lt (pe_k cR hr (ha := pa_cons (pv 0) (pa_cons (pv 5) (pa_cons (pv 4) pa_nil)))) (pe_ix ix_any (pv 3) (pv 5) (fun _ _ => rfl)) (nomark _))))))
            (pss_one (ps_ret pe_bl)) pss_nil))))))
      (pss_one (ps_ret pe_bl)))), ?_⟩
    refine ⟨_, rfl, pa, p, rfl, hp, m, fun bh H1 hb s1 eb => ?_⟩
    obtain ⟨xs0, x0, l0⟩ := hR.len
    refine ⟨_, rfl, la, xs0, rfl, x0.same s1, _, rfl, by omega, by omega, fun wl hwl => ?_⟩
    have w0 : H wl = none := s1.free hwl
    have bw : bh ≠ wl := fun e => by
      rw [← e, eb] at hwl
      cases hwl
    refine lc_range (lo := 0) (n := ((xs0.length : Nat) : Int).toNat) (fun i H' => Same H H' ∧ H' bh = some (.lst (rowV (bef p))) ∧ H' wl = some (.lst (rowV ((wst ls p).take i)))) ⟨same_then s1 hwl, by rw [upd_ne bw]; exact eb, upd_same⟩ ?_ ?_
    · rintro i H2 hi ⟨s2, e2, e3⟩
      have hi : i < ls.length := by omega
      have e0 : (0 : Int) + (i : Int) = (i : Int) := Int.zero_add _
      rw [e0]
      refine ⟨rfl, _, rfl, _, rfl, _, rfl, _, rfl, bh, _, _, _, rfl, rfl, Or.inl (SqL.of e2), atI_row (by rw [bef_len, pr.len]; exact hi), la, ls, i, (bef p).getD i 0, rfl, hR.same s2, hi, ?_, ?_⟩
      · rw [bef_get (by rw [pr.len]; exact hi)]
        exact okAt_bf W pr hi
      · refine ⟨_, e3, by rw [rowV_len, List.length_take, wst_len]; exact line60 (by omega), same_upd s2 w0, by rw [upd_ne bw]; exact e2, ?_⟩
        rw [upd_same, wst_take hi, bef_get (by rw [pr.len]; exact hi), rowV_snoc]
    rintro H2 ⟨s2, e2, e3⟩
    have e3 : H2 wl = some (.lst (rowV (wst ls p))) := by
      rw [e3, List.take_of_length_le]
      rw [wst_len]
      omega
    refine ⟨_, rfl, la, xs0, rfl, x0.same s2, _, rfl, by omega, by omega, ?_⟩
    have l0' : ((xs0.length : Nat) : Int).toNat = ls.length := by omega
    rw [l0']
    refine for_range (lo := 0) (n := ls.length) (fun i σ H' => ∃ (u x : Option V), σ = [some (.ref la), some (.ref pa), some (.ref bh), some (.ref wl), u, x, none] ∧ Same H2 H' ∧
        ∀ k, k < i → rnk ls k (p.getD k 0) ≤ rnk ls k (p.idxOf k) ∧ ∀ j ∈ lst ls k, (lst ls k).idxOf j < rnk ls k (p.idxOf k) → p.getD k 0 ≠ j → p.getD j 0 ≠ k → ¬ rnk ls j k < rnk ls j (p.idxOf j))
      ⟨none, none, rfl, Same.refl _, fun k hk => absurd hk (Nat.not_lt_zero _)⟩ ?_ ?_
    · rintro i σ H3 hi ⟨u, x, rfl, s3, inv⟩
      have e0 : (0 : Int) + (i : Int) = (i : Int) := Int.zero_add _
      rw [e0]
      have ip : i < p.length := by rw [pr.len]; exact hi
      refine ⟨_, rfl, _, rfl, _, rfl, _, rfl, pa, _, _, _, rfl, rfl, hpA _ (s2.trans s3), atI_row ip, la, ls, i, p.getD i 0, rfl, hR.same (s2.trans s3), hi, okAt_nx pr hi, ?_⟩
      refine ⟨_, rfl, _, rfl, wl, _, _, _, rfl, rfl, Or.inl (SqL.of (s3 _ _ e3)), atI_row (by rw [wst_len]; exact hi), _, _, rfl, rfl, _, rfl, ?_⟩
      rw [wst_get hi]
      refine ifd (fun c1 => ?_) (fun c1 => ?_)
      · refine hQ false H3 ⟨(fun h => nomatch h), fun L => ?_⟩ (s2.trans s3)
        have := L.up i hi
        omega
      · have up : rnk ls i (p.getD i 0) ≤ rnk ls i (p.idxOf i) := by omega
        obtain ⟨ys, q, y1, y2, y3⟩ := (hR.same (s2.trans s3)).at_ hi
        have nd := W.nd i hi
        refine ⟨_, rfl, _, rfl, la, ys, _, _, rfl, rfl, y1, y2, _, rfl, _, rfl, wl, _, _, _, rfl, rfl, Or.inl (SqL.of (s3 _ _ e3)), atI_row (by rw [wst_len]; exact hi), (((wst ls p).getD i 0 : Nat) : Int), rfl, ?_⟩
        rw [wst_get hi]
        show rSlA K _ _ _ _ _
        refine sl_take y3.sqT fun t H4 s4 ht => ?_
        refine ⟨t, rfl, ⟨_, ht⟩, ?_⟩
        refine for_it (walk_tup (xs := rowV ((lst ls i).take (rnk ls i (p.idxOf i))))) (fun m σ H' => ∃ (x : Option V), σ = [some (.ref la), some (.ref pa), some (.ref bh), some (.ref wl), some (natV i), x, none] ∧ Same H4 H' ∧
            ∀ k j, k < m → ((lst ls i).take (rnk ls i (p.idxOf i)))[k]? = some j → p.getD i 0 ≠ j → p.getD j 0 ≠ i → ¬ rnk ls j i < rnk ls j (p.idxOf j)) ⟨x, rfl, Same.refl _, fun k j hk => absurd hk (Nat.not_lt_zero _)⟩ ?_ ?_ ?_
        · rintro m σ H' _ ⟨x, rfl, s5, _⟩
          exact same_sqT s5 ht
        · rintro m y σ H5 H6 hm ⟨x, rfl, s5, inv2⟩ ⟨rfl, hy⟩
          obtain ⟨o, ho, rfl⟩ := row_get hy
          have hmem : o ∈ lst ls i := List.mem_of_mem_take (List.mem_of_getElem? ho)
          have olt := W.lt i hi o hmem
          have op : o < p.length := by rw [pr.len]; exact olt
          have S5 := (s2.trans s3).trans (s4.trans s5)
          have nxt : (p.getD i 0 ≠ o → p.getD o 0 ≠ i → ¬ rnk ls o i < rnk ls o (p.idxOf o)) → ∀ k j, k < m + 1 → ((lst ls i).take (rnk ls i (p.idxOf i)))[k]? = some j → p.getD i 0 ≠ j → p.getD j 0 ≠ i → ¬ rnk ls j i < rnk ls j (p.idxOf j) := fun h k j hk hj => by
            by_cases e : k = m
            · subst e
              rw [ho] at hj
              cases hj
              exact h
            · exact inv2 k j (by omega) hj
          refine ⟨_, rfl, _, rfl, pa, _, _, _, rfl, rfl, hpA _ S5, atI_row ip, _, rfl, rfl, _, rfl, ?_⟩
          refine ifnd (fun c2 => ?_) (fun c2 => ?_)
          rotate_left
          · refine iteF ?_
            exact ⟨_, rfl, s5, nxt fun h => absurd (natV_inj.mp c2) h⟩
          · refine ⟨_, rfl, _, rfl, pa, _, _, _, rfl, rfl, hpA _ S5, atI_row op, _, rfl, rfl, _, rfl, ?_⟩
            refine ifnd (fun c3 => ?_) (fun c3 => ?_)
            rotate_left
            · refine iteF ?_
              exact ⟨_, rfl, s5, nxt fun _ h => absurd (natV_inj.mp c3) h⟩
            · refine ⟨_, rfl, _, rfl, _, rfl, la, ls, o, i, rfl, hR.same S5, olt, Or.inr (W.sy i hi o hmem), ?_⟩
              refine ⟨_, rfl, _, rfl, wl, _, _, _, rfl, rfl, Or.inl (SqL.of ((s4.trans s5) _ _ (s3 _ _ e3))), atI_row (by rw [wst_len]; exact olt), _, _, rfl, rfl, _, rfl, ?_⟩
              rw [wst_get olt]
              refine ifd (fun c4 => ?_) (fun c4 => ?_)
              · refine hQ false H6 ⟨(fun h => nomatch h), fun L => ?_⟩ S5
                have hk : (lst ls i).idxOf o < rnk ls i (p.idxOf i) := by
                  have h1 := (List.getElem?_eq_some_iff.mp ho).1
                  rw [List.length_take] at h1
                  have h2 : (lst ls i)[m]? = some o := by
                    rw [List.getElem?_take] at ho
                    split at ho
                    · exact ho
                    · cases ho
                  rw [idx_of_nodup nd h2]
                  omega
                exact absurd (by omega : rnk ls o i < rnk ls o (p.idxOf o)) (L.no i hi o hmem hk (fun z => c2 (natV_inj.mpr z)) (fun z => c3 (natV_inj.mpr z)))
              · exact ⟨_, rfl, s5, nxt fun _ _ h => c4 (by omega)⟩
        · rintro σ H5 ⟨x, rfl, s5, inv2⟩
          refine ⟨_, _, rfl, s3.trans (s4.trans s5), fun k hk => ?_⟩
          by_cases e : k = i
          · subst e
            refine ⟨up, fun j hj hlt => ?_⟩
            refine inv2 ((lst ls k).idxOf j) j ?_ ?_
            · rw [rowV_len, List.length_take]
              have := List.idxOf_lt_length_of_mem hj
              omega
            · rw [List.getElem?_take, if_pos hlt, List.getElem?_eq_getElem (List.idxOf_lt_length_of_mem hj), List.getElem_idxOf]
          · exact inv k (by omega)
    · rintro σ H3 ⟨u, x, rfl, s3, inv⟩
      exact hQ true H3 ⟨fun _ => ⟨fun i hi => (inv i hi).1, fun i hi => (inv i hi).2⟩, fun _ => rfl⟩ (s2.trans s3)
end
end KL

/-! ## KF6 -/
namespace KL
open PySem PySem.Spec PyProof.Rows L2 KR KM
theorem row_ks {H : Hp} : ∀ {qs : List Addr} {es : List (List Nat)}, All2 (Row H) qs es → ∃ ks : List (Addr × List Nat), ks.map (·.1) = qs ∧ ks.map (·.2) = es ∧ ∀ k ∈ ks, Row H k.1 k.2
  | _, _, .nil => ⟨[], rfl, rfl, fun k h => absurd h List.not_mem_nil⟩
  | _, _, .cons r t => by
    obtain ⟨ks, h1, h2, h3⟩ := row_ks t
    refine ⟨(_, _) :: ks, by rw [List.map_cons, h1], by rw [List.map_cons, h2], fun k hk => ?_⟩
    rcases List.mem_cons.mp hk with rfl | hk
    · exact r
    · exact h3 k hk
theorem ks_row {H : Hp} : ∀ {ks : List (Addr × List Nat)}, (∀ k ∈ ks, Row H k.1 k.2) → All2 (Row H) (ks.map (·.1)) (ks.map (·.2))
  | [], _ => .nil
  | k :: ks, h => .cons (h k List.mem_cons_self) (ks_row fun k hk => h k (List.mem_cons_of_mem _ hk))
def rowZ (l : List Nat) : List Int := l.map fun n : Nat => (n : Int)
theorem rowZ_V (l : List Nat) : (rowZ l).map V.int = rowV l := by
  unfold rowZ rowV
  rw [List.map_map]
  rfl
theorem sort_rows {K : PySem.W.Frag} {H : Hp} {fl : Addr} {fq : List Addr} {es : List (List Nat)} {Q : VK} (e : H fl = some (.lst (fq.map V.ref))) (h : All2 (Row H) fq es) (ne : ∀ p ∈ es, p ≠ [])
    (hQ : ∀ D qs es' H', Same H H' → H D = none → H' D = some (.lst (qs.map V.ref)) → All2 (Row H') qs es' → (∀ p, p ∈ es' ↔ p ∈ es) → es'.length = es.length → Q (.ref D) H') : rSortRows K [.ref fl] H Q := by
  obtain ⟨ks, k1, k2, k3⟩ := row_ks h
  refine ⟨fl, ks.map fun k => (k.1, rowZ k.2), rfl, ?_, ?_, ?_⟩
  · rw [List.map_map]
    have : ks.map ((fun b : Addr × List Int => V.ref b.1) ∘ fun k : Addr × List Nat => (k.1, rowZ k.2)) = fq.map V.ref := by
      rw [← k1, List.map_map]
      rfl
    rw [this]
    exact SqL.of e
  · intro b hb
    obtain ⟨k, hk, rfl⟩ := List.mem_map.mp hb
    refine ⟨by rw [rowZ_V]; exact (k3 k hk).sqT, fun z => ?_⟩
    have : k.2 ∈ es := by
      rw [← k2]
      exact List.mem_map.mpr ⟨k, hk, rfl⟩
    exact ne _ this (List.map_eq_nil_iff.mp z)
  · intro D hD
    have s := same_new (o := .lst (((ks.map fun k => (k.1, rowZ k.2)).mergeSort byRow).map fun b => V.ref b.1)) hD
    have m1 : (ks.map fun k => (k.1, rowZ k.2)).mergeSort byRow = (ks.mergeSort fun a b => byRow (a.1, rowZ a.2) (b.1, rowZ b.2)).map fun k => (k.1, rowZ k.2) :=
      (List.map_mergeSort (r := fun (a b : Addr × List Nat) => byRow (a.1, rowZ a.2) (b.1, rowZ b.2)) (s := byRow) (f := fun k : Addr × List Nat => (k.1, rowZ k.2)) (fun _ _ _ _ => rfl)).symm
    refine hQ D ((ks.mergeSort fun a b => byRow (a.1, rowZ a.2) (b.1, rowZ b.2)).map (·.1)) ((ks.mergeSort fun a b => byRow (a.1, rowZ a.2) (b.1, rowZ b.2)).map (·.2)) _ s hD ?_ ?_ ?_ ?_
    · rw [upd_same, m1, List.map_map, List.map_map]
      rfl
    · refine all2_imp (fun q l r => TpZ.same r s) (ks_row fun k hk => k3 k ?_)
      exact List.mem_mergeSort.mp hk
    · intro p
      rw [← k2, List.mem_map, List.mem_map]
      constructor
      · rintro ⟨k, hk, rfl⟩
        exact ⟨k, List.mem_mergeSort.mp hk, rfl⟩
      · rintro ⟨k, hk, rfl⟩
        exact ⟨k, List.mem_mergeSort.mpr hk, rfl⟩
    · rw [List.length_map, List.length_mergeSort, ← k2, List.length_map]
theorem cat_read {K : PySem.W.Frag} {H : Hp} {a b : Addr} {xs ys : List V} {Q : VK} (ha : TpZ H a xs) (hb : TpZ H b ys) (hz : xs.length + ys.length ≤ sizeLine) (hQ : ∀ t H', Same H H' → TpZ H' t (xs ++ ys) → Q (.ref t) H') : rCatZ K (.ref a) (.ref b) H Q := by
  refine ⟨a, b, xs, ys, rfl, rfl, ha.sqT, hb.sqT, hz, fun e => hQ b H (Same.refl _) ?_, fun _ e => hQ a H (Same.refl _) ?_, fun _ _ => NewT.use fun p H' _ s t => hQ p H' s t⟩
  · rw [e, List.nil_append]
    exact hb
  · rw [e, List.append_nil]
    exact ha
section
variable {P : Program} {w : World} {K : PySem.W.Frag} {mg : Str → Option Value} {base : Heap}

/-! ### _law_every -/
def spEvery (K : PySem.W.Frag) : Sp := fun vs H Q _ => ∃ (la : Addr) (ls : List (List Nat)), vs = [.ref la] ∧ (∃ qs : List Addr, SqA K H la (qs.map V.ref) ∧ All2 (Row H) qs ls) ∧ WF ls ∧ 1 ≤ ls.length ∧ ls.length ≤ 6 ∧
  ∀ D qs es H', Same H H' → H D = none → H' D = some (.lst (qs.map V.ref)) → All2 (Row H') qs es → (∀ p, p ∈ es ↔ Par ls p) → es.length ≤ 46656 → Q (.ref D) H'
abbrev nEvery : List Str := ["_law_lists_here", "_law_found", "_law_person", "_law_longer", "_law_begun", "_law_other"]
theorem scEvery : FnScope nEvery ["_law_lists_here"] (defScope (top 35)) := ⟨rfl, rfl, rfl, by decide +kernel, rfl, by decide +kernel, by decide +kernel⟩
theorem ok_every (T : Tx mg) (D : DefAt K mg "_law_every" 35) : Call P w K mg base 1 "_law_every" ["_law_lists_here"] (spEvery K) := by
  refine Call.mk' D scEvery (fun _ _ _ _ _ _ us hl => match us, hl with | [_], _ => rfl) (fun vs H Q E h => ?_) (fun f cdv A outer s H vs Q E hr h => ?_)
  · obtain ⟨la, ls, rfl, _⟩ := h
    rfl
  · obtain ⟨la, ls, rfl, hR, W, one, few, hQ⟩ := h
    have hR : Rows K H la ls := hR
    have rlen : ∀ i, i < ls.length → (lst ls i).length + 1 ≤ 6 := fun i hi => by
      have := nodup_sub (i :: lst ls i) (List.range ls.length) (List.nodup_cons.mpr ⟨fun m => W.ne i hi i m rfl, W.nd i hi⟩) fun x hx => by
        rcases List.mem_cons.mp hx with rfl | hx
        · exact List.mem_range.mpr hi
        · exact List.mem_range.mpr (W.lt i hi x hx)
      rw [List.length_range, List.length_cons] at this
      omega
    have evl : ∀ k, k ≤ ls.length → (evTo ls k).length ≤ 46656 := fun k hk => by
      refine Nat.le_trans (evTo_len rlen k hk) ?_
      exact Nat.le_trans (Nat.pow_le_pow_right (by omega) (by omega : k ≤ 6)) (by decide)
    refine ⟨_, pss_cons (ps_set (i := 1) scEvery.nd rfl (.inl rfl) (pe_lst (pa_cons (pe_tupZ pa_nil) pa_nil)))
      (pss_cons (ps_for PassesOwn.never rfl (pi_range1 rfl T.range (pa_cons (pe_callB cr_lenA (by rfl) T.len boot_len (pa_cons (pv 0) pa_nil)) pa_nil)) (pg_name (i := 2) scEvery.nd rfl (.inl rfl))
        (pss_cons (ps_set (i := 3) scEvery.nd rfl (.inl rfl) (pe_lst pa_nil))
        (pss_cons (ps_for PassesOwn.never rfl (pi_list (pv 1)) (pg_name (i := 4) scEvery.nd rfl (.inr rfl))
          (pss_one (ps_set (i := 3) scEvery.nd rfl (.inl rfl) (pe_op op_cat (pv 3) (pe_lc (own := [("_law_other", 5)]) (g := gName 5) (tt := tTest (tOp (rIn K true) (tVar 5) (tVar 4)))
            (te := tOp (rCatZ K) (tVar 4) (tTupZ (tCons (tVar 5) tNil))) rfl scEvery.nd (pi_tup (pe_op op_catZ (pe_tupZ (pa_cons (pv 2) pa_nil)) (pe_ix ix_any (pv 0) (pv 2) (fun _ _ => rfl))))
            (blkOk_by (own := [("_law_other", 5)]) (N := nEvery) (sc := defScope (top 35)) (by decide +kernel)) (fun _ _ _ _ _ => pg_name (i := 5) scEvery.nd rfl (Or.inl rfl))
            (fun _ _ _ _ _ => pts_one (pt_cmpR op_notIn_seq (pv 5) (pv 4) rfl)) (fun _ _ _ _ _ => pe_op op_catZ (pv 4) (pe_tupZ (pa_cons (pv 5) pa_nil))))))))
        (pss_one (ps_set (i := 1) scEvery.nd rfl (.inl rfl) (pv 3))))))
      (pss_one (ps_ret (pe_callB (cr_sortRows hr.units) (by rfl) T.sorted (by decide +kernel) (pa_cons (pv 1) pa_nil))))), ?_⟩
    refine ⟨by show 0 ≤ sizeLine; decide, NewT.use fun e0 H1 he0 s1 t0 => ⟨by show 1 ≤ sizeLine; decide, fun F0 hF0 => ?_⟩⟩
    have s2 := same_then (o := .lst [.ref e0]) s1 hF0
    obtain ⟨xs0, x0, l0⟩ := hR.len
    refine ⟨_, rfl, la, xs0, rfl, x0.same s2, _, rfl, by omega, by omega, ?_⟩
    have l0' : ((xs0.length : Nat) : Int).toNat = ls.length := by omega
    rw [l0']
    refine for_range (lo := 0) (n := ls.length) (fun i σ H' => ∃ (F : Addr) (u v x : Option V), σ = [some (.ref la), some (.ref F), u, v, x, none] ∧ Same H H' ∧ ∃ qs : List Addr, H' F = some (.lst (qs.map V.ref)) ∧ All2 (Row H') qs (evTo ls i))
      ⟨F0, none, none, none, rfl, s2, [e0], upd_same, all2_one (TpZ.same t0 (same_new hF0))⟩ ?_ ?_
    · rintro i σ H3 hi ⟨F, u, v, x, rfl, s3, qs, eF, rF⟩
      have e0 : (0 : Int) + (i : Int) = (i : Int) := Int.zero_add _
      rw [e0]
      refine ⟨by show 0 ≤ sizeLine; decide, fun G0 hG0 => ?_⟩
      have s4 := same_new (o := .lst []) hG0
      refine ⟨_, rfl, F, rfl, ⟨_, SqL.of (s4 _ _ eF)⟩, ?_⟩
      refine for_it (walk_list (xs := qs.map V.ref)) (fun m σ H' => ∃ (G : Addr) (x : Option V), σ = [some (.ref la), some (.ref F), some (natV i), some (.ref G), x, none] ∧ Same H3 H' ∧ ∃ gs : List Addr, H' G = some (.lst (gs.map V.ref)) ∧ All2 (Row H') gs (stepE ls i ((evTo ls i).take m)))
        ⟨G0, x, rfl, s4, [], upd_same, .nil⟩ ?_ ?_ ?_
      · rintro m σ H' _ ⟨G, x, rfl, s5, _⟩
        exact SqL.of (s5 _ _ eF)
      · rintro m y σ H5 H6 hm ⟨G, x, rfl, s5, gs, eG, rG⟩ ⟨rfl, hy⟩
        obtain ⟨b, hb, rfl⟩ : ∃ b, qs[m]? = some b ∧ y = V.ref b := by
          rw [List.getElem?_map] at hy
          cases q : qs[m]? with
          | none =>
            rw [q] at hy
            cases hy
          | some b =>
            rw [q] at hy
            cases hy
            exact ⟨b, rfl, rfl⟩
        obtain ⟨e, he, re⟩ := all2_getQ rF hb
        have re6 := TpZ.same re s5
        have elen : e.length = i := (mem_evTo.mp (List.mem_of_getElem? he)).1
        refine ⟨_, rfl, _, rfl, by show 1 ≤ sizeLine; decide, NewT.use fun o1 H7 ho1 s7 t1 => ?_⟩
        have S7 := (s3.trans s5).trans s7
        obtain ⟨ys, q, y1, y2, y3⟩ := (hR.same S7).at_ hi
        refine ⟨_, rfl, _, rfl, la, ys, _, _, rfl, rfl, y1, y2, ?_⟩
        show rCatZ K _ _ _ _
        have rl := rlen i hi
        refine cat_read t1 y3 (by rw [rowV_len]; have := line60 (n := 7) (by omega); show 1 + _ ≤ sizeLine; omega) fun t H8 s8 t8 => ?_
        have t8 : TpZ H8 t (rowV (i :: lst ls i)) := t8
        have re8 := TpZ.same (TpZ.same re6 s7) s8
        refine ⟨t, rfl, ⟨_, t8.sqT⟩, fun Dn hDn => ?_⟩
        refine lc_it (walk_tup (K := K) (xs := rowV (i :: lst ls i))) (fun j H' => Same H8 H' ∧ ∃ gs : List Addr, H' Dn = some (.lst (gs.map V.ref)) ∧ All2 (Row H') gs ((((i :: lst ls i).take j).filter fun o => !e.contains o).map fun o => e ++ [o]))
          ⟨same_new hDn, [], upd_same, .nil⟩ (fun j H' _ h => (TpZ.same t8 h.1).sqT) ?_ ?_
        · rintro j y H9 H10 hj ⟨s9, gs2, e9, r9⟩ ⟨rfl, hy⟩
          obtain ⟨o, ho, rfl⟩ := row_get hy
          have re10 := TpZ.same re8 s9
          have lg : gs2.length ≤ 6 := by
            rw [all2_len r9, List.length_map]
            refine Nat.le_trans (List.length_filter_le _ _) ?_
            rw [List.length_take, List.length_cons]
            omega
          refine ⟨rfl, _, rfl, _, rfl, b, rowV e, rfl, Or.inr re10.sqT, rfl, flat_rowV _, _, rfl, ?_⟩
          show if (!inV (natV o) (rowV e)) = true then _ else _
          rw [inV_row]
          refine ifb (fun c => ?_) (fun c => ?_)
          · refine ⟨_, rfl, _, rfl, by show 1 ≤ sizeLine; decide, NewT.use fun o2 H11 ho2 s11 t11 => ?_⟩
            show rCatZ K _ _ _ _
            refine cat_read (TpZ.same re10 s11) t11 (by rw [rowV_len]; have := line60 (n := 61) (by omega); show _ + 1 ≤ sizeLine; omega) fun t2 H12 s12 t12 => ?_
            have t12 : TpZ H12 t2 (rowV (e ++ [o])) := by
              rw [← rowV_snoc]
              exact t12
            have S12 := s11.trans s12
            have e12 := S12 _ _ e9
            refine ⟨_, e12, by rw [List.length_map]; exact line60 (by omega), same_upd (s9.trans S12) hDn, gs2 ++ [t2], by rw [upd_same, List.map_append]; rfl, ?_⟩
            rw [take_filter ho, if_pos c, List.map_append]
            exact all2_snoc (all2_imp (fun q l r => TpZ.own (TpZ.same r S12) e12) r9) (TpZ.own t12 e12)
          · refine ⟨s9, gs2, e9, ?_⟩
            rw [take_filter ho, if_neg (by rw [c]; exact Bool.false_ne_true), List.append_nil]
            exact r9
        · rintro H9 ⟨s9, gs2, e9, r9⟩
          have full : (i :: lst ls i).take (rowV (i :: lst ls i)).length = i :: lst ls i := by
            rw [rowV_len, List.take_length]
          rw [full] at r9
          have S9 := (s7.trans s8).trans s9
          have l1 : gs.length ≤ 46656 * 6 := by
            rw [all2_len rG]
            refine Nat.le_trans (stepE_len rl _) ?_
            refine Nat.mul_le_mul_right 6 ?_
            rw [List.length_take]
            have := evl i (by omega)
            omega
          have l2 : gs2.length ≤ 6 := by
            rw [all2_len r9]
            exact Nat.le_trans (optE_len ls i e) rl
          refine ⟨G, Dn, _, _, rfl, rfl, S9 _ _ eG, e9, by rw [List.length_map, List.length_map]; show _ ≤ 2 ^ 24; omega, fun G2 hG2 => ?_⟩
          refine ⟨G2, _, rfl, same_then (s5.trans S9) hG2, gs ++ gs2, by rw [upd_same, List.map_append], ?_⟩
          rw [stepE_take he]
          exact all2_imp (fun q l r => TpZ.same r (same_new hG2)) (all2_app (all2_imp (fun q l r => TpZ.same r S9) rG) r9)
      · rintro σ H5 ⟨G, x, rfl, s5, gs, eG, rG⟩
        have full : (evTo ls i).take (qs.map V.ref).length = evTo ls i := by
          rw [List.length_map, all2_len rF, List.take_length]
        rw [full] at rG
        exact ⟨_, rfl, G, _, _, _, rfl, s3.trans s5, gs, eG, rG⟩
    · rintro σ H3 ⟨F, u, v, x, rfl, s3, qs, eF, rF⟩
      refine ⟨_, rfl, sort_rows eF rF (fun p hp z => ?_) fun D2 qs2 es2 H4 s4 hD2 e4 r4 m4 ll4 => ?_⟩
      · have := (mem_every.mp hp).len
        rw [z] at this
        have : 0 = ls.length := this
        omega
      · exact hQ D2 qs2 es2 H4 (s3.trans s4) (s3.free hD2) e4 r4 (fun p => (m4 p).trans mem_every) (by rw [ll4]; exact evl _ (Nat.le_refl _))
end
end KL

/-! ## KF7 -/
namespace KL
open PySem PySem.Spec PyProof.Rows L2 KR KM
theorem int_short {n : Nat} (h : n < 60) : (PyData.int (n : Int)).showable = true ∧ (PyData.int (n : Int)).leavesShort 8 = true := by
  have q : ∀ n : Fin 60, ((PyData.int (n.1 : Int)).showable && (PyData.int (n.1 : Int)).leavesShort 8) = true := by decide +kernel
  have := q ⟨n, h⟩
  rw [Bool.and_eq_true] at this
  exact this
theorem pairs_all : ∀ {es : List (Nat × Nat)}, (∀ e ∈ es, e.1 < 60 ∧ e.2 < 60) → PyData.showableAll (es.map pairD) = true ∧ PyData.hasDictAll (es.map pairD) = false ∧ PyData.leavesShortAll 8 (es.map pairD) = true ∧ PyData.bulkAll (es.map pairD) = 3 * es.length
  | [], _ => by simp [PyData.showableAll, PyData.hasDictAll, PyData.leavesShortAll, PyData.bulkAll]
  | e :: es, h => by
    obtain ⟨i1, i2, i3, i4⟩ := pairs_all (es := es) fun x hx => h x (List.mem_cons_of_mem _ hx)
    obtain ⟨e1, e2⟩ := h e List.mem_cons_self
    obtain ⟨a1, a2⟩ := int_short e1
    obtain ⟨b1, b2⟩ := int_short e2
    rw [List.map_cons]
    refine ⟨?_, ?_, ?_, ?_⟩
    · rw [PyData.showableAll, i1]
      simp only [pairD, PyData.showable, PyData.showableAll, Bool.and_true]
      simp only [PyData.showable] at a1 b1
      rw [a1, b1]
      rfl
    · rw [PyData.hasDictAll, i2]
      simp [pairD, PyData.hasDict, PyData.hasDictAll]
    · rw [PyData.leavesShortAll, i3]
      simp only [pairD, PyData.leavesShort, PyData.leavesShortAll, Bool.and_true]
      simp only [PyData.leavesShort] at a2 b2
      rw [a2, b2]
      rfl
    · rw [PyData.bulkAll, i4]
      simp only [pairD, PyData.bulk, PyData.bulkAll, List.length_cons]
      omega
theorem eqv_pairs : ∀ es : List (Nat × Nat), PyData.eqvAll (es.map pairD) (es.map pairD) = true
  | [] => by simp [PyData.eqvAll]
  | e :: es => by
    rw [List.map_cons, PyData.eqvAll, pair_eqv, decide_eq_true rfl, eqv_pairs es]
    rfl
theorem eqv_same (es : List (Nat × Nat)) : PyData.eqv (.tuple (es.map pairD)) (.tuple (es.map pairD)) = true := by
  rw [PyData.eqv]
  exact eqv_pairs es
theorem repr_pairs {K : PySem.W.Frag} {H : Hp} {a : Addr} {qs : List Addr} {es : List (Nat × Nat)} (h : TpZ H a (qs.map V.ref)) (hp : Prs H qs es) (hb : ∀ e ∈ es, e.1 < 60 ∧ e.2 < 60) (hl : es.length ≤ 10000) :
    Dp K H (.ref a) (.tuple (es.map pairD)) ∧ (PyData.tuple (es.map pairD)).showable = true ∧ (PyData.tuple (es.map pairD)).hasDict = false ∧ (PyData.tuple (es.map pairD)).depth ≤ 8 ∧ (PyData.tuple (es.map pairD)).shown.length ≤ sizeLine := by
  obtain ⟨i1, i2, i3, i4⟩ := pairs_all hb
  refine ⟨.tup h.sqT (prs_dp hp), by rw [PyData.showable]; exact i1, by rw [PyData.hasDict]; exact i2, ?_, ?_⟩
  · rw [PyData.depth]
    have := (pairs_lay es).2
    omega
  · have := PyData.shown_le_bulk 8 (by omega) (.tuple (es.map pairD)) (by rw [PyData.leavesShort]; exact i3)
    rw [PyData.bulk, i4] at this
    refine Nat.le_trans this ?_
    show _ ≤ 2 ^ 24
    omega
theorem risen_bd {ls : List (List Nat)} {one other : List Nat} (W : WF ls) (p2 : Par ls other) (few : ls.length ≤ 60) : (∀ e ∈ risenL ls one other, e.1 < 60 ∧ e.2 < 60) ∧ (risenL ls one other).length ≤ 10000 := by
  constructor
  · intro e he
    have he : e ∈ found ls one other := List.mem_mergeSort.mp he
    unfold found at he
    obtain ⟨x, hx, hy⟩ := List.mem_flatMap.mp he
    have hy := (List.mem_filter.mp hy).1
    obtain ⟨h1, h2, h3⟩ := mem_edges.mp (show (x.1, x.2) ∈ edges other from hx)
    rw [p2.len] at h2
    unfold both at hy
    rcases List.mem_cons.mp hy with rfl | hy
    · exact ⟨by omega, by omega⟩
    · rw [List.mem_singleton.mp hy]
      exact ⟨by show x.2 < 60; omega, by show x.1 < 60; omega⟩
  · unfold risenL
    rw [List.length_mergeSort]
    have := foundTo_len ls one other (edges other).length
    rw [foundTo_all, p2.len] at this
    have h2 : ls.length * ls.length ≤ 60 * 60 := Nat.mul_le_mul few few
    omega
theorem edges_bd {p : List Nat} (few : p.length ≤ 60) : (∀ e ∈ edges p, e.1 < 60 ∧ e.2 < 60) ∧ (edges p).length ≤ 10000 := by
  constructor
  · intro e he
    obtain ⟨h1, h2, h3⟩ := mem_edges.mp (show (e.1, e.2) ∈ edges p from he)
    omega
  · have := edges_len p
    have h2 : p.length * p.length ≤ 60 * 60 := Nat.mul_le_mul few few
    omega
section
variable {P : Program} {w : World} {K : PySem.W.Frag} {mg : Str → Option Value} {base : Heap}

/-! ### _law_pair_told -/
def spTold (K : PySem.W.Frag) (C : Addr) : Sp := fun vs H Q _ => ∃ (wp la oa ra : Addr) (ls : List (List Nat)) (one other : List Nat), vs = [.ref wp, .ref la, .ref oa, .ref ra] ∧ WAt K C H wp ls ∧ Rows K H la ls ∧ Row H oa one ∧ Row H ra other ∧ WF ls ∧ Par ls one ∧ Par ls other ∧ ls.length ≤ 60 ∧
  ∀ H', Same H H' → Q (.bl true) H'
abbrev nTold : List Str := ["_law_wishes_here", "_law_lists_here", "_law_one", "_law_other", "_law_due"]
theorem scTold : FnScope nTold ["_law_wishes_here", "_law_lists_here", "_law_one", "_law_other"] (defScope (top 38)) := ⟨rfl, rfl, rfl, by decide +kernel, rfl, by decide +kernel, by decide +kernel⟩
theorem ok_told (T : Tx mg) {C : Addr} (D : DefAt K mg "_law_pair_told" 38) (dP : DefAt K mg "risen_pairs" 23) (dE : DefAt K mg "edges_of" 20)
    (cP : Call P w K mg base 3 "risen_pairs" ["wishes", "one", "other"] (spRisenPairs K C)) (cE : Call P w K mg base 1 "edges_of" ["parting"] (spEdgesOf K))
    (cR : Call P w K mg base 2 "_law_risen" ["_law_lists_here", "_law_one", "_law_other"] (spRisen K)) (cL : Call P w K mg base 1 "_law_edges" ["_law_parting"] (spEdges K)) :
    CallG P w K mg base 4 "_law_pair_told" ["_law_wishes_here", "_law_lists_here", "_law_one", "_law_other"] (spTold K C) := by
  refine CallG.mk' D scTold (fun _ _ _ _ _ _ us hl => match us, hl with | [_, _, _, _], _ => rfl) (fun vs H Q E h => ?_) (fun f cdv A outer s H vs Q E gd hr h => ?_)
  · obtain ⟨wp, la, oa, ra, ls, one, other, rfl, _⟩ := h
    rfl
  · obtain ⟨wp, la, oa, ra, ls, one, other, rfl, hw, hR, h1, h2, W, p1, p2, few, hQ⟩ := h
    have m1 := pm_of W p1 few
    have m2 := pm_of W p2 few
    refine ⟨_, pss_cons (ps_set (i := 4) scTold.nd rfl (.inl rfl) (pe_callTy cr_tupL (by rfl) T.tuple (by decide +kernel) (pa_cons (pe_k cR hr (ha := pa_cons (pv 1) (pa_cons (pv 2) (pa_cons (pv 3) pa_nil)))) pa_nil)))
      (pss_cons (ps_if (PW.pt (pw_or (pt_cmpR op_ne (pe_callB (cr_repr gd hr.units) (by rfl) T.repr (by decide +kernel) (pa_cons (pe_k cP hr (ha := pa_cons (pv 0) (pa_cons (pv 2) (pa_cons (pv 3) pa_nil)))) pa_nil))
            (pe_callB (cr_repr gd hr.units) (by rfl) T.repr (by decide +kernel) (pa_cons (pv 4) pa_nil)) (nomark _))
          (pw_or1 (pt_cmpR (op_neD hr.units) (pe_kk cP dP hr (ks := ["other", "one", "wishes"]) (hb := fun _ _ _ _ _ _ ws hl => match ws, hl with | [_, _, _], _ => rfl) (hkw := pk_cons (pv 3) (pk_cons (pv 2) (pk_cons (pv 0) pk_nil)))) (pv 4) (nomark _)))))
        (pss_one (ps_ret pe_bl)) pss_nil)
      (pss_one (ps_ret (pe_and (pe_cmpR op_eq (pe_callB (cr_repr gd hr.units) (by rfl) T.repr (by decide +kernel) (pa_cons (pe_k cE hr (ha := pa_cons (pv 2) pa_nil)) pa_nil))
          (pe_callB (cr_repr gd hr.units) (by rfl) T.repr (by decide +kernel) (pa_cons (pe_callTy cr_tupL (by rfl) T.tuple (by decide +kernel) (pa_cons (pe_k cL hr (ha := pa_cons (pv 2) pa_nil)) pa_nil)) pa_nil)) (nomark _))
        (pe_one (pe_cmpR (op_eqD hr.units) (pe_kk cE dE hr (ks := ["parting"]) (hb := fun _ _ _ _ _ _ ws hl => match ws, hl with | [_], _ => rfl) (hkw := pk_cons (pv 3) pk_nil))
          (pe_callTy cr_tupL (by rfl) T.tuple (by decide +kernel) (pa_cons (pe_k cL hr (ha := pa_cons (pv 3) pa_nil)) pa_nil)) (nomark _))))))), ?_⟩
    refine ⟨_, rfl, _, rfl, _, rfl, la, oa, ra, ls, one, other, rfl, hR, h1, Or.inr h2.sqT, W, p1, p2, few, fun D1 qs1 H1 s1 hD1 e1 r1 => ?_⟩
    refine ⟨D1, _, rfl, SqL.of e1, NewT.use fun du H2 hdu s2 tdu => ?_⟩
    have S2 := s1.trans s2
    have rdu := r1.same s2
    obtain ⟨b1, b2⟩ := risen_bd (one := one) W p2 few
    -- the first pair of texts
    refine ⟨_, rfl, _, rfl, _, rfl, wp, oa, ra, ls, one, other, rfl, hw.same S2, (TpZ.same h1 S2).sqT, (TpZ.same h2 S2).sqT, W, p1, p2, few, fun R qs3 H3 s3 hR3 tR pR => ?_⟩
    obtain ⟨d1, d2, d3, d4, d5⟩ := repr_pairs (K := K) tR pR b1 b2
    refine ⟨R, _, rfl, d1, d2, d3, d4, d5, ?_⟩
    obtain ⟨f1, f2, f3, f4, f5⟩ := repr_pairs (K := K) (TpZ.same tdu s3) (rdu.same s3) b1 b2
    refine ⟨_, rfl, du, _, rfl, f1, f2, f3, f4, f5, rfl, _, rfl, ?_⟩
    rw [decide_eq_true rfl]
    refine iteF ?_
    -- by keywords
    have S3 := S2.trans s3
    refine ⟨_, rfl, _, rfl, _, rfl, rfl, wp, oa, ra, ls, one, other, rfl, hw.same S3, (TpZ.same h1 S3).sqT, (TpZ.same h2 S3).sqT, W, p1, p2, few, fun R4 qs4 H4 s4 hR4 tR4 pR4 => ?_⟩
    have s24 := s3.trans s4
    refine ⟨_, rfl, .tuple ((risenL ls one other).map pairD), .tuple ((risenL ls one other).map pairD), .tup tR4.sqT (prs_dp pR4), .tup (TpZ.same tdu s24).sqT (prs_dp (rdu.same s24)), pairs_shapedT _, pairs_shapedT _, _, rfl, ?_⟩
    rw [eqv_same]
    refine iteF ?_
    -- the edges
    have S4 := S2.trans s24
    obtain ⟨c1, c2⟩ := edges_bd m1.few
    refine ⟨_, rfl, oa, one, rfl, (TpZ.same h1 S4).sqT, m1, fun E1 qs5 H5 s5 hE1 tE1 pE1 => ?_⟩
    obtain ⟨g1, g2, g3, g4, g5⟩ := repr_pairs (K := K) tE1 pE1 c1 c2
    refine ⟨E1, _, rfl, g1, g2, g3, g4, g5, ?_⟩
    have S5 := S4.trans s5
    refine ⟨_, rfl, oa, one, rfl, Or.inr (TpZ.same h1 S5).sqT, m1, fun E2 qs6 H6 s6 hE2 eE2 pE2 => ?_⟩
    refine ⟨E2, _, rfl, SqL.of eE2, NewT.use fun E3 H7 hE3 s7 tE3 => ?_⟩
    obtain ⟨k1, k2, k3, k4, k5⟩ := repr_pairs (K := K) tE3 (pE2.same s7) c1 c2
    refine ⟨E3, _, rfl, k1, k2, k3, k4, k5, rfl, _, rfl, ?_⟩
    rw [decide_eq_true rfl]
    refine iteT ?_
    have S7 := S5.trans (s6.trans s7)
    refine ⟨_, rfl, rfl, ra, other, rfl, (TpZ.same h2 S7).sqT, m2, fun E4 qs8 H8 s8 hE4 tE4 pE4 => ?_⟩
    have S8 := S7.trans s8
    refine ⟨_, rfl, ra, other, rfl, Or.inr (TpZ.same h2 S8).sqT, m2, fun E5 qs9 H9 s9 hE5 eE5 pE5 => ?_⟩
    refine ⟨E5, _, rfl, SqL.of eE5, NewT.use fun E6 H10 hE6 s10 tE6 => ?_⟩
    have s810 := s9.trans s10
    refine ⟨.tuple ((edges other).map pairD), .tuple ((edges other).map pairD), .tup (TpZ.same tE4 s810).sqT (prs_dp (pE4.same s810)), .tup tE6.sqT (prs_dp (pE5.same s10)), pairs_shapedT _, pairs_shapedT _, ?_⟩
    rw [eqv_same]
    exact hQ _ (S8.trans s810)
end
end KL

/-! ## KF8 -/
namespace KL
open PySem PySem.Spec PyProof.Rows L2 KR KM
theorem hsum_take {R : List (Nat × Nat)} {p : List Nat} {m x : Nat} {e : Nat × Nat} (h : R[m]? = some e) : hsum (R.take (m + 1)) p x = hsum (R.take m) p x + if e.1 = x then hv p e.1 e.2 else 0 := by
  obtain ⟨h1, h2⟩ := List.getElem?_eq_some_iff.mp h
  unfold hsum
  rw [List.take_succ_eq_append_getElem h1, List.map_append, List.sum_append, h2]
  simp
theorem lsum_take {R : List (Nat × Nat)} {p : List Nat} {m x : Nat} {e : Nat × Nat} (h : R[m]? = some e) : lsum (R.take (m + 1)) p x = lsum (R.take m) p x + if e.2 = x then hv p e.1 e.2 else 0 := by
  obtain ⟨h1, h2⟩ := List.getElem?_eq_some_iff.mp h
  unfold lsum
  rw [List.take_succ_eq_append_getElem h1, List.map_append, List.sum_append, h2]
  simp
theorem mem_risenL {ls : List (List Nat)} {one other : List Nat} (e : Nat × Nat) : e ∈ risenL ls one other ↔ e ∈ found ls one other := List.mem_mergeSort
theorem once {ls : List (List Nat)} {one other : List Nat} (W : WF ls) (p1 : Par ls one) (L1 : Lasts ls one) (p2 : Par ls other) (L2 : Lasts ls other) {e : Nat × Nat} (he : e ∈ edges other) (hn : (edges one).contains e = false) :
    (if (risenL ls one other).contains e = true then (1 : Int) else 0) + (if (risenL ls one other).contains (e.2, e.1) = true then (1 : Int) else 0) = 1 := by
  obtain ⟨a, b⟩ := e
  obtain ⟨h1, h2, h3⟩ := mem_edges.mp he
  have h3' : adj other a b = true := adj_iff.mpr h3
  have len : one.length = other.length := by rw [p1.len, p2.len]
  have nadj : ¬ adj one a b = true := fun z => by
    have : (a, b) ∈ edges one := mem_edges.mpr ⟨h1, by rw [len]; exact h2, adj_iff.mp z⟩
    rw [show (edges one).contains (a, b) = true by rw [List.contains_iff_mem]; exact this] at hn
    cases hn
  have r := risen_once W p1 L1 p2 L2 (i := a) (j := b) (by rw [← p2.len]; omega) (by rw [← p2.len]; exact h2) (by omega) h3' nadj
  have m1 : (risenL ls one other).contains (a, b) = true ↔ rise ls one a b = true := by
    rw [List.contains_iff_mem, mem_risenL, mem_found len]
    exact ⟨fun h => h.2.2.2.2.2, fun h => ⟨by omega, by omega, h2, h3', nadj, h⟩⟩
  have sym : ∀ q : List Nat, adj q b a = adj q a b := fun q => by
    rw [Bool.eq_iff_iff, adj_iff, adj_iff]
    exact Or.comm
  have m2 : (risenL ls one other).contains (b, a) = true ↔ rise ls one b a = true := by
    rw [List.contains_iff_mem, mem_risenL, mem_found len, sym, sym]
    exact ⟨fun h => h.2.2.2.2.2, fun h => ⟨by omega, h2, by omega, h3', nadj, h⟩⟩
  show (if (risenL ls one other).contains (a, b) = true then (1 : Int) else 0) + (if (risenL ls one other).contains (b, a) = true then (1 : Int) else 0) = 1
  by_cases q : rise ls one a b = true
  · rw [if_pos (m1.mpr q), if_neg fun z => (r.mp q) (m2.mp z)]
    rfl
  · have : rise ls one b a = true := by
      cases z : rise ls one b a with
      | true => rfl
      | false => exact absurd (r.mpr (by rw [z]; exact Bool.false_ne_true)) q
    rw [if_neg fun z => q (m1.mp z), if_pos (m2.mpr this)]
    rfl
section
variable {P : Program} {w : World} {K : PySem.W.Frag} {mg : Str → Option Value} {base : Heap}
def spCounts (K : PySem.W.Frag) : Sp := fun vs H Q _ => ∃ (la oa ra : Addr) (ls : List (List Nat)) (one other : List Nat), vs = [.ref la, .ref oa, .ref ra] ∧ Rows K H la ls ∧ Row H oa one ∧ Row H ra other ∧ WF ls ∧ Par ls one ∧ Par ls other ∧ Lasts ls one ∧ Lasts ls other ∧ ls.length ≤ 60 ∧
  ∀ H', Same H H' → Q (.bl true) H'
abbrev nCounts : List Str := ["_law_lists_here", "_law_one", "_law_other", "_law_risen_here", "_law_edges_here", "_law_pair", "_law_high", "_law_low", "_law_i", "_law_j", "_law_person"]
theorem scCounts : FnScope nCounts ["_law_lists_here", "_law_one", "_law_other"] (defScope (top 40)) := ⟨rfl, rfl, rfl, by decide +kernel, rfl, by decide +kernel, by decide +kernel⟩
theorem ok_counts (T : Tx mg) (D : DefAt K mg "_law_counts_right" 40) (cR : Call P w K mg base 2 "_law_risen" ["_law_lists_here", "_law_one", "_law_other"] (spRisen K)) (cE : Call P w K mg base 1 "_law_edges" ["_law_parting"] (spEdges K))
    (cV : Call P w K mg base 1 "_law_halves" ["_law_parting", "_law_one", "_law_other"] (spHalves K)) : Call P w K mg base 3 "_law_counts_right" ["_law_lists_here", "_law_one", "_law_other"] (spCounts K) := by
  refine Call.mk' D scCounts (fun _ _ _ _ _ _ us hl => match us, hl with | [_, _, _], _ => rfl) (fun vs H Q E h => ?_) (fun f cdv A outer s H vs Q E hr h => ?_)
  · obtain ⟨la, oa, ra, ls, one, other, rfl, _⟩ := h
    rfl
  · obtain ⟨la, oa, ra, ls, one, other, rfl, hR, h1, h2, W, p1, p2, L1, L2, few, hQ⟩ := h
    have m1 := pm_of W p1 few
    have m2 := pm_of W p2 few
    refine ⟨_, pss_cons (ps_par (i := 3) (j := 4) rfl scCounts.nd rfl rfl (by decide) rfl rfl (pa_cons (pe_k cR hr (ha := pa_cons (pv 0) (pa_cons (pv 1) (pa_cons (pv 2) pa_nil)))) (pa_cons (pe_k cE hr (ha := pa_cons (pv 1) pa_nil)) pa_nil)) (by rfl))
      (pss_cons (ps_for PassesOwn.never rfl (pi_list (pe_k cE hr (ha := pa_cons (pv 2) pa_nil))) (pg_name (i := 5) scCounts.nd rfl (.inl rfl))
        (pss_one (ps_if (PW.pt (pw_and (pt_cmpR (op_notInD (hr65 hr)) (pv 5) (pv 4) rfl) (pw_and1 (pt_cmpR op_ne (pe_op op_add
            (pe_callTy call_int1 (by rfl) T.int (by decide +kernel) (pa_cons (pe_cmpR (op_inD (hr65 hr)) (pv 5) (pv 3) rfl) pa_nil))
            (pe_callTy call_int1 (by rfl) T.int (by decide +kernel) (pa_cons (pe_cmpR (op_inD (hr65 hr)) (pe_revP (pv 5)) (pv 3) rfl) pa_nil))) pe_int (nomark _))))) (pss_one (ps_ret pe_bl)) pss_nil)))
      (pss_cons (ps_asg (pe_tupZ (pa_cons (pe_op op_rep (pe_lst (pa_cons pe_int pa_nil)) (pe_callB cr_lenA (by rfl) T.len boot_len (pa_cons (pv 0) pa_nil))) (pa_cons (pe_op op_rep (pe_lst (pa_cons pe_int pa_nil)) (pe_callB cr_lenA (by rfl) T.len boot_len (pa_cons (pv 0) pa_nil))) pa_nil)))
        (pg_tup rfl (pgs_cons (pg_name (i := 6) scCounts.nd rfl (.inr rfl)) (pgs_cons (pg_name (i := 7) scCounts.nd rfl (.inr rfl)) pgs_nil))))
      (pss_cons (ps_for PassesOwn.never rfl (pi_list (pv 3)) (pg_tup rfl (pgs_cons (pg_name (i := 8) scCounts.nd rfl (.inl rfl)) (pgs_cons (pg_name (i := 9) scCounts.nd rfl (.inl rfl)) pgs_nil)))
        (pss_one (ps_asg (pe_tupZ (pa_cons (pe_op op_add (pe_ix ix_any (pv 6) (pv 8) (fun _ _ => rfl)) (pe_k cV hr (ha := pa_cons (pv 2) (pa_cons (pv 8) (pa_cons (pv 9) pa_nil)))))
            (pa_cons (pe_op op_add (pe_ix ix_any (pv 7) (pv 9) (fun _ _ => rfl)) (pe_k cV hr (ha := pa_cons (pv 2) (pa_cons (pv 8) (pa_cons (pv 9) pa_nil))))) pa_nil)))
          (pg_tup rfl (pgs_cons (pg_sub (pv 6) (pv 8) set_list) (pgs_cons (pg_sub (pv 7) (pv 9) set_list) pgs_nil))))))
      (pss_one (ps_ret (pe_callB (cr_all rfl) (by rfl) T.all (by decide +kernel) (pa_cons (pe_lc (own := [("_law_person", 10)]) (g := gName 10) (tt := tYes)
        (te := tOp rEq (tOp (rIxA K) (tVar 6) (tVar 10)) (tOp (rIxA K) (tVar 7) (tOp (rIxA K) (tVar 1) (tVar 10)))) rfl scCounts.nd (pi_range1 rfl T.range (pa_cons (pe_callB cr_lenA (by rfl) T.len boot_len (pa_cons (pv 0) pa_nil)) pa_nil))
        (blkOk_by (own := [("_law_person", 10)]) (N := nCounts) (sc := defScope (top 40)) (by decide +kernel)) (fun _ _ _ _ _ => pg_name (i := 10) scCounts.nd rfl (Or.inl rfl)) (fun _ _ _ _ _ => pts_nil)
        (fun _ _ _ _ _ => pe_cmpR op_eq (pe_ix ix_any (pv 6) (pv 10) (fun _ _ => rfl)) (pe_ix ix_any (pv 7) (pe_ix ix_any (pv 1) (pv 10) (fun _ _ => rfl)) (fun _ _ => rfl)) (nomark _))) pa_nil))))))), ?_⟩
    refine ⟨_, rfl, _, rfl, _, rfl, la, oa, ra, ls, one, other, rfl, hR, h1, Or.inr h2.sqT, W, p1, p2, few, fun rl qs1 H1 s1 hrl erl prl => ?_⟩
    refine ⟨_, rfl, oa, one, rfl, Or.inr (TpZ.same h1 s1).sqT, m1, fun el qs2 H2 s2 hel eel pel => ⟨_, _, rfl, ?_⟩⟩
    have S2 := s1.trans s2
    refine ⟨_, rfl, ra, other, rfl, Or.inr (TpZ.same h2 S2).sqT, m2, fun ol qs3 H3 s3 hol eol pol => ?_⟩
    refine ⟨ol, rfl, ⟨_, SqL.of eol⟩, ?_⟩
    have S3 := S2.trans s3
    refine for_it (walk_list (xs := qs3.map V.ref)) (fun m σ H' => ∃ (u : Option V), σ = [some (.ref la), some (.ref oa), some (.ref ra), some (.ref rl), some (.ref el), u, none, none, none, none, none] ∧ Same H3 H') ⟨none, rfl, Same.refl _⟩ ?_ ?_ ?_
    · rintro m σ H' _ ⟨u, rfl, s4⟩
      exact SqL.of (s4 _ _ eol)
    · rintro m y σ H4 H5 hm ⟨u, rfl, s4⟩ ⟨rfl, hy⟩
      obtain ⟨q, e, rfl, he, tq⟩ := prs_get pol hy
      have hmem := List.mem_of_getElem? he
      have tq4 := TpZ.same tq s4
      have erl4 := (s2.trans (s3.trans s4)) _ _ erl
      have prl4 := prl.same (s2.trans (s3.trans s4))
      have eel4 := (s3.trans s4) _ _ eel
      have pel4 := pel.same (s3.trans s4)
      refine ⟨_, rfl, _, rfl, pairD e, (edges one).map pairD, pair_dp tq4, .lst (SqL.of eel4) (prs_dp pel4), pair_shaped e, pairs_shapedL _, _, rfl, ?_⟩
      rw [any_eqv]
      refine ifb (fun c1 => ?_) (fun c1 => ?_)
      rotate_left
      · refine iteF ?_
        exact ⟨_, rfl, s4⟩
      · have hn : (edges one).contains e = false := by simpa using c1
        refine ⟨_, rfl, _, rfl, pairD e, (risenL ls one other).map pairD, pair_dp tq4, .lst (SqL.of erl4) (prs_dp prl4), pair_shaped e, pairs_shapedL _, Or.inr ⟨_, rfl, ?_⟩⟩
        rw [any_eqv]
        refine ⟨_, rfl, q, _, _, rfl, tq4.sqT, NewT.use fun q2 H6 hq2 s6 t2 => ?_⟩
        refine ⟨_, rfl, pairD (e.2, e.1), (risenL ls one other).map pairD, pair_dp t2, .lst (SqL.of (s6 _ _ erl4)) (prs_dp (prl4.same s6)), pair_shaped _, pairs_shapedL _, Or.inr ⟨_, rfl, ?_⟩⟩
        rw [any_eqv]
        refine ⟨_, _, rfl, rfl, rfl, _, rfl, ?_⟩
        have o1 := once W p1 L1 p2 L2 hmem hn
        have c2 : (!decide (V.int ((if (risenL ls one other).contains e = true then (1 : Int) else 0) + (if (risenL ls one other).contains (e.2, e.1) = true then (1 : Int) else 0)) = V.int 1)) = false := by
          rw [o1, decide_eq_true rfl]
          rfl
        refine ifb (fun z => ?_) (fun _ => ?_)
        · exact absurd ((show _ = true from z).symm.trans c2) (by decide)
        · exact ⟨_, rfl, s4.trans s6⟩
    rintro σ H4 ⟨u, rfl, s4⟩
    have S4 := S3.trans s4
    obtain ⟨xs0, x0, l0⟩ := hR.len
    -- [0] * n, twice
    refine ⟨by show 1 ≤ sizeLine; decide, fun z1 hz1 => ?_⟩
    have t1 := same_new (o := .lst [.int 0]) hz1
    have sz : ([V.int 0] : List V).length * ((xs0.length : Nat) : Int).toNat ≤ sizeLine := by
      have := line60 (n := ls.length) (by omega)
      simp only [List.length_cons, List.length_nil, Int.toNat_natCast]
      omega
    have zr : ∀ k : Nat, (List.replicate k [V.int 0]).flatten = rowV (List.replicate k 0) := fun k => by
      unfold rowV
      rw [List.map_replicate]
      induction k with
      | zero => rfl
      | succ k ih => rw [List.replicate_succ, List.flatten_cons, ih, List.replicate_succ]; rfl
    have ln : ((xs0.length : Nat) : Int).toNat = ls.length := by omega
    refine ⟨_, rfl, la, xs0, rfl, x0.same (S4.trans t1), _, _, _, rfl, rfl, upd_same, by omega, by omega, sz, fun hg hhg => ?_⟩
    have t2 := same_then (o := .lst (List.replicate ((xs0.length : Nat) : Int).toNat [V.int 0]).flatten) t1 hhg
    refine ⟨by show 1 ≤ sizeLine; decide, fun z2 hz2 => ?_⟩
    have t3 := same_then (o := .lst [.int 0]) t2 hz2
    refine ⟨_, rfl, la, xs0, rfl, x0.same (S4.trans t3), _, _, _, rfl, rfl, upd_same, by omega, by omega, sz, fun lw hlw => ?_⟩
    have t4 := same_then (o := .lst (List.replicate ((xs0.length : Nat) : Int).toNat [V.int 0]).flatten) t3 hlw
    refine ⟨by show 2 ≤ sizeLine; decide, NewT.use fun tq H5 htq s5 tz => ?_⟩
    refine ⟨tq, _, rfl, tz.sqT, rfl, _, _, rfl, _, _, rfl, rfl, ?_⟩
    have t5 := t4.trans s5
    have S5 := S4.trans t5
    have eh : H5 hg = some (.lst (rowV (List.replicate ls.length 0))) := by
      refine s5 _ _ ((same_new hlw) _ _ ((same_new hz2) _ _ ?_))
      rw [upd_same, zr, ln]
    have ew : H5 lw = some (.lst (rowV (List.replicate ls.length 0))) := by
      refine s5 _ _ ?_
      rw [upd_same, zr, ln]
    have hl : hg ≠ lw := ne_of_none ((same_new (o := .lst [.int 0]) hz2) hg _ upd_same) hlw
    have hg0 : H4 hg = none := t1.free hhg
    have lw0 : H4 lw = none := t3.free hlw
    have erl5 := (s2.trans (s3.trans (s4.trans t5))) _ _ erl
    have prl5 := prl.same (s2.trans (s3.trans (s4.trans t5)))
    have rlh : rl ≠ hg := ne_of_none ((s2.trans (s3.trans s4)) _ _ erl) hg0
    have rlw : rl ≠ lw := ne_of_none ((s2.trans (s3.trans s4)) _ _ erl) lw0
    refine ⟨_, rfl, rl, rfl, ⟨_, SqL.of erl5⟩, ?_⟩
    refine for_it (walk_list (xs := qs1.map V.ref)) (fun m σ H' => ∃ (i j : Option V) (F G : List Nat), σ = [some (.ref la), some (.ref oa), some (.ref ra), some (.ref rl), some (.ref el), u, some (.ref hg), some (.ref lw), i, j, none] ∧
        (∀ b o, H4 b = some o → H' b = some o) ∧ Prs H' qs1 (risenL ls one other) ∧ H' hg = some (.lst (rowV F)) ∧ H' lw = some (.lst (rowV G)) ∧ F.length = ls.length ∧ G.length = ls.length ∧
        (∀ x, x < ls.length → F.getD x 0 = hsum ((risenL ls one other).take m) other x) ∧ ∀ x, x < ls.length → G.getD x 0 = lsum ((risenL ls one other).take m) other x)
      ⟨_, _, _, _, rfl, t5, prl5, eh, ew, by simp, by simp, fun x hx => ?_, fun x hx => ?_⟩ ?_ ?_ ?_
    · rw [getD_of_lt (by simpa using hx)]
      simp [hsum]
    · rw [getD_of_lt (by simpa using hx)]
      simp [lsum]
    · rintro m σ H' _ ⟨i, j, F, G, rfl, keep, _⟩
      exact SqL.of (keep _ _ ((s2.trans (s3.trans s4)) _ _ erl))
    · rintro m y σ H6 H7 hm ⟨i0, j0, F, G, rfl, keep, pq, eF, eG, lF, lG, iF, iG⟩ ⟨rfl, hy⟩
      obtain ⟨q, e, rfl, he, tq⟩ := prs_get pq hy
      have hmem := (mem_risenL e).mp (List.mem_of_getElem? he)
      have len : one.length = other.length := by rw [p1.len, p2.len]
      obtain ⟨_, b1, b2, _⟩ := (mem_found len).mp (show (e.1, e.2) ∈ found ls one other from hmem)
      have c1 : e.1 < ls.length := by rw [← p2.len]; exact b1
      have c2 : e.2 < ls.length := by rw [← p2.len]; exact b2
      have h2' : SqA K H7 ra (rowV other) := Or.inr (same_sqT (fun b o h => keep b o h) (TpZ.same h2 S4).sqT)
      refine ⟨q, _, rfl, tq.sqT, rfl, _, _, rfl, _, _, rfl, rfl, ?_⟩
      refine ⟨_, rfl, _, rfl, hg, _, _, _, rfl, rfl, Or.inl (SqL.of eF), atI_row (by rw [lF]; exact c1), ?_⟩
      refine ⟨_, rfl, _, rfl, _, rfl, ra, other, e.1, e.2, rfl, h2', b1, b2, _, _, rfl, rfl, ?_⟩
      refine ⟨_, rfl, _, rfl, lw, _, _, _, rfl, rfl, Or.inl (SqL.of eG), atI_row (by rw [lG]; exact c2), ?_⟩
      refine ⟨_, rfl, _, rfl, _, rfl, ra, other, e.1, e.2, rfl, h2', b1, b2, _, _, rfl, rfl, ?_⟩
      refine ⟨by show 2 ≤ sizeLine; decide, NewT.use fun t8 H8 ht8 s8 tz8 => ?_⟩
      have eF8 := s8 _ _ eF
      have eG8 := s8 _ _ eG
      refine ⟨t8, _, rfl, tz8.sqT, rfl, _, _, rfl, ?_⟩
      refine ⟨_, rfl, _, rfl, hg, _, _, e.1, rfl, rfl, eF8, ixN_nat (by rw [rowV_len, lF]; exact c1), ?_⟩
      refine ⟨_, _, rfl, ?_⟩
      refine ⟨_, rfl, _, rfl, lw, _, _, e.2, rfl, rfl, by rw [upd_ne hl.symm]; exact eG8, ixN_nat (by rw [rowV_len, lG]; exact c2), ?_⟩
      have sF : (rowV F).set e.1 (.int ((F.getD e.1 0 : Nat) + (hv other e.1 e.2 : Nat))) = rowV (F.set e.1 (F.getD e.1 0 + hv other e.1 e.2)) := by
        unfold rowV
        rw [List.map_set]
        unfold natV
        rw [Int.natCast_add]
      have sG : (rowV G).set e.2 (.int ((G.getD e.2 0 : Nat) + (hv other e.1 e.2 : Nat))) = rowV (G.set e.2 (G.getD e.2 0 + hv other e.1 e.2)) := by
        unfold rowV
        rw [List.map_set]
        unfold natV
        rw [Int.natCast_add]
      refine ⟨rfl, _, _, F.set e.1 (F.getD e.1 0 + hv other e.1 e.2), G.set e.2 (G.getD e.2 0 + hv other e.1 e.2), rfl, fun b o h => ?_, ?_, ?_, ?_, by rw [List.length_set]; exact lF, by rw [List.length_set]; exact lG, fun x hx => ?_, fun x hx => ?_⟩
      · rw [upd_ne (ne_of_none h lw0), upd_ne (ne_of_none h hg0)]
        exact s8 _ _ (keep b o h)
      · refine all2_imp (fun q' e' r => ?_) (pq.same s8)
        exact TpZ.own (TpZ.own r eF8) (by rw [upd_ne hl.symm]; exact eG8)
      · rw [upd_ne hl, upd_same]
        exact congrArg (fun z => some (HO.lst z)) sF
      · rw [upd_same]
        exact congrArg (fun z => some (HO.lst z)) sG
      · rw [getD_set (by rw [lF]; exact c1), hsum_take he, iF e.1 c1]
        by_cases z : x = e.1
        · rw [if_pos z, if_pos z.symm, z]
        · rw [if_neg z, if_neg fun w => z w.symm, iF x hx, Nat.add_zero]
      · rw [getD_set (by rw [lG]; exact c2), lsum_take he, iG e.2 c2]
        by_cases z : x = e.2
        · rw [if_pos z, if_pos z.symm, z]
        · rw [if_neg z, if_neg fun w => z w.symm, iG x hx, Nat.add_zero]
    · rintro σ H6 ⟨i0, j0, F, G, rfl, keep, pq, eF, eG, lF, lG, iF, iG⟩
      have full : (risenL ls one other).take (qs1.map V.ref).length = risenL ls one other := by
        rw [List.length_map, all2_len prl, List.take_length]
      rw [full] at iF iG
      have S6 : Same H H6 := S4.trans keep
      refine ⟨_, rfl, la, xs0, rfl, x0.same S6, _, rfl, by omega, by omega, fun Dn hDn => ?_⟩
      rw [ln]
      refine lc_yes (walk_range (lo := 0)) hDn S6 (by omega) (fun _ _ => trivial) (fun x v H7 H8 Q hx s7 hy hq => ?_) fun H7 s7 e7 => ?_
      · obtain ⟨rfl, rfl⟩ := hy
        have e0 : (0 : Int) + (x : Int) = (x : Int) := Int.zero_add _
        show gName 10 (.int (0 + (x : Int))) _ _ _
        rw [e0]
        have nx := p1.lt W hx
        refine ⟨rfl, _, rfl, _, rfl, hg, _, _, _, rfl, rfl, Or.inl (SqL.of (s7 _ _ eF)), atI_row (by rw [lF]; exact hx), ?_⟩
        refine ⟨_, rfl, _, rfl, _, rfl, oa, _, _, _, rfl, rfl, Or.inr (TpZ.same h1 (S6.trans s7)).sqT, atI_row (by rw [p1.len]; exact hx), lw, _, _, _, rfl, rfl, Or.inl (SqL.of (s7 _ _ eG)), atI_row (by rw [lG]; exact nx), rfl, ?_⟩
        have := counts W p1 L1 p2 L2 (R := risenL ls one other) ((List.mergeSort_perm (found ls one other) leP).nodup_iff.mpr (found_nodup ls one other)) mem_risenL hx
        rw [iF x hx, iG _ nx, this, decide_eq_true rfl]
        exact hq _ (Same.refl _)
      · exact all_yes e7 (hQ _ s7)
end
end KL

/-! ## KF9 -/
namespace KL
open PySem PySem.Spec PyProof.Rows L2 KR KM
/-- a list of rows that draws may read -/
def Lp (a c : Addr) (H : Hp) (e : Addr) (F : List Nat → Prop) : Prop := e ≠ a ∧ e ≠ c ∧ ∃ (qs : List Addr) (es : List (List Nat)), H e = some (.lst (qs.map V.ref)) ∧ All2 (Row H) qs es ∧ (∀ p ∈ es, F p) ∧ 0 < es.length ∧ es.length < 1073741824
theorem Lp.kept {a c : Addr} {H H' : Hp} {e : Addr} {F : List Nat → Prop} (h : Lp a c H e F) (S : Src a c H) (k : Kp a c H H') : Lp a c H' e F := by
  obtain ⟨n1, n2, qs, es, h1, h2, h3⟩ := h
  exact ⟨n1, n2, qs, es, k _ _ h1 n1 n2, all2_imp (fun _ _ r => Kp.tpz r S k) h2, h3⟩
theorem pick_read {K : PySem.W.Frag} {a c : Addr} {H : Hp} {e : Addr} {F : List Nat → Prop} {Q : VK} {E : XK} (S : Src a c H) (L : Lp a c H e F) (hQ : ∀ q p H', Row H' q p → F p → Kp a c H H' → Src a c H' → Q (.ref q) H') : spPick K [.ref a, .ref e] H Q E := by
  obtain ⟨n1, n2, qs, es, h1, h2, h3, h4, h5⟩ := L
  have len := all2_len h2
  refine ⟨a, c, e, qs.map V.ref, rfl, S, fun H' k => Or.inl (SqL.of (k _ _ h1 n1 n2)), by rw [List.length_map]; omega, by rw [List.length_map]; omega, fun i v H' hv k S' => ?_⟩
  rw [List.getElem?_map] at hv
  cases g : qs[i]? with
  | none =>
    rw [g] at hv
    cases hv
  | some q =>
    rw [g] at hv
    cases hv
    obtain ⟨p, hp, r⟩ := all2_getQ h2 g
    exact hQ q p H' (Kp.tpz r S k) (h3 p (List.mem_of_getElem? hp)) k S'
/-- one case's things -/
structure Ca (C a c : Addr) (H : Hp) (ls : List (List Nat)) (lt wp ev sm : Addr) (H' : Hp) : Prop where
  kp : Kp a c H H'
  src : Src a c H'
  rows : ∃ qs : List Addr, TpZ H' lt (qs.map V.ref) ∧ All2 (Row H') qs ls
  wz : WZ C H' wp ls
  ev : Lp a c H' ev (fun p => Par ls p)
  sm : Lp a c H' sm (fun p => Par ls p ∧ Lasts ls p)
theorem Ca.kept {C a c : Addr} {H : Hp} {ls : List (List Nat)} {lt wp ev sm : Addr} {H1 H2 : Hp} (Z : Ca C a c H ls lt wp ev sm H1) (k : Kp a c H1 H2) (S : Src a c H2) : Ca C a c H ls lt wp ev sm H2 := by
  obtain ⟨qs, h1, h2⟩ := Z.rows
  exact ⟨Z.kp.trans k, S, ⟨qs, Kp.tpz h1 Z.src k, all2_imp (fun _ _ r => Kp.tpz r Z.src k) h2⟩, Z.wz.kept Z.src k, Z.ev.kept Z.src k, Z.sm.kept Z.src k⟩
theorem Ca.same {C a c : Addr} {H : Hp} {ls : List (List Nat)} {lt wp ev sm : Addr} {H1 H2 : Hp} (Z : Ca C a c H ls lt wp ev sm H1) (s : Same H1 H2) : Ca C a c H ls lt wp ev sm H2 := Z.kept (Kp.of s) (Z.src.same s)
theorem Ca.rw {C a c : Addr} {H : Hp} {ls : List (List Nat)} {lt wp ev sm : Addr} {H1 : Hp} (Z : Ca C a c H ls lt wp ev sm H1) {K : PySem.W.Frag} : Rows K H1 lt ls := by
  obtain ⟨qs, h1, h2⟩ := Z.rows
  exact ⟨qs, Or.inr h1.sqT, h2⟩
section
variable {P : Program} {w : World} {K : PySem.W.Frag} {mg : Str → Option Value} {base : Heap}
def spCase : Sp := fun vs H Q _ => ∃ (a c : Addr) (n : Nat), vs = [.ref a, natV n] ∧ Src a c H ∧ 1 ≤ n ∧ n ≤ 6 ∧ ∀ H', Kp a c H H' → Src a c H' → Q (.bl true) H'
abbrev nCase : List Str := ["_law_heap_here", "_law_many", "_law_lists_here", "_law_wishes_here", "_law_every_here", "_law_some", "_law_turn", "_law_one", "_law_other", "_law_parting"]
theorem scCase : FnScope nCase ["_law_heap_here", "_law_many"] (defScope (top 41)) := ⟨rfl, rfl, rfl, by decide +kernel, rfl, by decide +kernel, by decide +kernel⟩
theorem ok_case (T : Tx mg) {C : Addr} (D : DefAt K mg "_law_case_right" 41) (cP : Call P w K mg base 2 "_law_pick" ["_law_heap_here", "_law_some"] (spPick K)) (cL : Call P w K mg base 4 "_law_lists" ["_law_heap_here", "_law_many"] spLists)
    (cW : Call P w K mg base 7 "_law_wishes" ["_law_heap_here", "_law_lists_here"] (spWishes C)) (cE : Call P w K mg base 1 "_law_every" ["_law_lists_here"] (spEvery K)) (cA : Call P w K mg base 2 "_law_lasts" ["_law_lists_here", "_law_parting"] (spLasts K))
    (cT : CallG P w K mg base 4 "_law_pair_told" ["_law_wishes_here", "_law_lists_here", "_law_one", "_law_other"] (spTold K C)) (cC : Call P w K mg base 3 "_law_counts_right" ["_law_lists_here", "_law_one", "_law_other"] (spCounts K)) :
    CallG P w K mg base 8 "_law_case_right" ["_law_heap_here", "_law_many"] spCase := by
  refine CallG.mk' D scCase (fun _ _ _ _ _ _ us hl => match us, hl with | [_, _], _ => rfl) (fun vs H Q E h => ?_) (fun f cdv A outer s H vs Q E gd hr h => ?_)
  · obtain ⟨a, c, n, rfl, _⟩ := h
    rfl
  · obtain ⟨a, c, n, rfl, hS, one, few, hQ⟩ := h
    refine ⟨_, pss_cons (ps_set (i := 2) scCase.nd rfl (.inr rfl) (pe_k cL hr (ha := pa_cons (pv 0) (pa_cons (pv 1) pa_nil))))
      (pss_cons (ps_par (i := 3) (j := 4) rfl scCase.nd rfl rfl (by decide) rfl rfl (pa_cons (pe_k cW hr (ha := pa_cons (pv 0) (pa_cons (pv 2) pa_nil))) (pa_cons (pe_k cE hr (ha := pa_cons (pv 2) pa_nil)) pa_nil)) (by rfl))
      (pss_cons (ps_setLc (i := 5) (own := [("_law_parting", 9)]) (g := gName 9) (tt := tTest (tCall (spLasts K) [] E0 (tCons (tVar 2) (tCons (tVar 9) tNil)))) (te := tVar 9)
        rfl scCase.nd rfl rfl (sw_true rfl rfl rfl (by decide +kernel)) (pi_list (pv 4))
        (blkOk_by (own := [("_law_parting", 9)]) (N := nCase) (sc := defScope (top 41)) (by decide +kernel)) (fun _ _ _ _ _ => pg_name (i := 9) scCase.nd rfl (Or.inl rfl))
        (fun _ _ _ _ _ => pts_one (pt_val (pe_k cA hr (ha := pa_cons (pv 2) (pa_cons (pv 9) pa_nil))))) (fun _ _ _ _ _ => pv 9))
      (pss_cons (ps_for PassesOwn.never rfl (pi_range1 rfl T.range (pa_cons pe_int pa_nil)) (pg_name (i := 6) scCase.nd rfl (.inl rfl))
        (pss_cons (ps_par (i := 7) (j := 8) rfl scCase.nd rfl rfl (by decide) rfl rfl (pa_cons (pe_k cP hr (ha := pa_cons (pv 0) (pa_cons (pv 5) pa_nil))) (pa_cons (pe_k cP hr (ha := pa_cons (pv 0) (pa_cons (pv 5) pa_nil))) pa_nil)) (by rfl))
        (pss_one (ps_if (PW.pt (pw_or (pt_not (pt_val (pe_kG cT gd hr (ha := pa_cons (pv 3) (pa_cons (pv 2) (pa_cons (pv 7) (pa_cons (pv 8) pa_nil)))))))
            (pw_or1 (pt_not (pt_val (pe_k cC hr (ha := pa_cons (pv 2) (pa_cons (pv 7) (pa_cons (pv 8) pa_nil))))))))) (pss_one (ps_ret pe_bl)) pss_nil))))
      (pss_cons (ps_for PassesOwn.never rfl (pi_range1 rfl T.range (pa_cons pe_int pa_nil)) (pg_name (i := 6) scCase.nd rfl (.inl rfl))
        (pss_cons (ps_par (i := 7) (j := 8) rfl scCase.nd rfl rfl (by decide) rfl rfl (pa_cons (pe_k cP hr (ha := pa_cons (pv 0) (pa_cons (pv 4) pa_nil)))
            (pa_cons (pe_k cP hr (ha := pa_cons (pv 0) (pa_cons (pe_lst (pa_cons (pe_k cP hr (ha := pa_cons (pv 0) (pa_cons (pv 4) pa_nil))) (pa_cons (pe_k cP hr (ha := pa_cons (pv 0) (pa_cons (pv 4) pa_nil)))
              (pa_cons (pe_k cP hr (ha := pa_cons (pv 0) (pa_cons (pv 5) pa_nil))) pa_nil)))) pa_nil))) pa_nil)) (by rfl))
        (pss_one (ps_if (PW.pt (pw_or (pt_not (pt_val (pe_kG cT gd hr (ha := pa_cons (pv 3) (pa_cons (pv 2) (pa_cons (pv 7) (pa_cons (pv 8) pa_nil)))))))
            (pw_or1 (pt_not (pt_val (pe_kG cT gd hr (ha := pa_cons (pv 3) (pa_cons (pv 2) (pa_cons (pv 8) (pa_cons (pv 7) pa_nil)))))))))) (pss_one (ps_ret pe_bl)) pss_nil))))
      (pss_one (ps_ret pe_bl)))))), ?_⟩
    -- lists
    refine ⟨_, rfl, _, rfl, a, c, n, rfl, hS, by omega, fun lt qs ls H1 k1 S1 tl rl W ll => ?_⟩
    -- wishes
    refine ⟨_, rfl, _, rfl, a, c, lt, qs, ls, rfl, S1, tl, rl, W, by omega, by omega, fun wp H2 k2 S2 wz2 => ?_⟩
    have tl2 := Kp.tpz tl S1 k2
    have rl2 : All2 (Row H2) qs ls := all2_imp (fun _ _ r => Kp.tpz r S1 k2) rl
    -- every
    refine ⟨_, rfl, lt, ls, rfl, ⟨qs, Or.inr tl2.sqT, rl2⟩, W, by omega, by omega, fun ev eq es H3 s3 hev eev rev mev lev => ⟨_, _, rfl, ?_⟩⟩
    have S3 := S2.same s3
    have K3 : Kp a c H H3 := (k1.trans k2).same s3
    obtain ⟨ev1, ev2⟩ := S2.off hev
    -- some
    refine ⟨_, rfl, ev, rfl, ⟨_, SqL.of eev⟩, fun sm hsm => ?_⟩
    obtain ⟨sm1, sm2⟩ := S3.off hsm
    refine lc_list (K := K) (xs := eq.map V.ref) (fun i H' => Same H3 H' ∧ ∃ (gs : List Addr) (ms : List (List Nat)), H' sm = some (.lst (gs.map V.ref)) ∧ All2 (Row H') gs ms ∧ (∀ p, p ∈ ms ↔ p ∈ es.take i ∧ Lasts ls p) ∧ ms.length ≤ i)
      ⟨same_new hsm, [], [], upd_same, .nil, fun p => ⟨fun h => absurd h List.not_mem_nil, fun h => absurd h.1 List.not_mem_nil⟩, Nat.le_refl _⟩ (fun i H' _ h => SqL.of (h.1 _ _ eev)) ?_ ?_
    · rintro i x H4 hx ⟨s4, gs, ms, e4, r4, m4, l4⟩
      obtain ⟨b, hb, rfl⟩ : ∃ b, eq[i]? = some b ∧ x = V.ref b := by
        rw [List.getElem?_map] at hx
        cases q : eq[i]? with
        | none =>
          rw [q] at hx
          cases hx
        | some b =>
          rw [q] at hx
          cases hx
          exact ⟨b, rfl, rfl⟩
      obtain ⟨p, hp, rp⟩ := all2_getQ rev hb
      have hi : i < es.length := (List.getElem?_eq_some_iff.mp hp).1
      have pp : Par ls p := (mev p).mp (List.mem_of_getElem? hp)
      have rp4 := TpZ.same rp s4
      have s24 := s3.trans s4
      refine ⟨rfl, _, rfl, _, rfl, lt, b, ls, p, rfl, ⟨qs, Or.inr (TpZ.same tl2 s24).sqT, all2_imp (fun _ _ r => TpZ.same r s24) rl2⟩, Or.inl rp4, W, pp, by omega, fun d H5 hd s5 => ⟨d, rfl, ?_⟩⟩
      have tk : ∀ q, q ∈ es.take (i + 1) ↔ q ∈ es.take i ∨ q = p := fun q => by
        obtain ⟨h1, h2⟩ := List.getElem?_eq_some_iff.mp hp
        rw [List.take_succ_eq_append_getElem h1, List.mem_append, List.mem_singleton, h2]
      have e5 := s5 _ _ e4
      have r5 : All2 (Row H5) gs ms := all2_imp (fun _ _ r => TpZ.same r s5) r4
      refine ifb (fun c1 => ?_) (fun c1 => ?_)
      · refine ⟨_, rfl, _, e5, by rw [List.length_map, all2_len r5]; show _ < 2 ^ 24; omega, same_upd (s4.trans s5) hsm, gs ++ [b], ms ++ [p], by rw [upd_same, List.map_append]; rfl, ?_, fun q => ?_, by rw [List.length_append]; show ms.length + 1 ≤ i + 1; omega⟩
        · exact all2_snoc (all2_imp (fun _ _ r => TpZ.own r e5) r5) (TpZ.own (TpZ.same rp4 s5) e5)
        · rw [List.mem_append, List.mem_singleton, m4, tk]
          constructor
          · rintro (⟨h1, h2⟩ | rfl)
            · exact ⟨Or.inl h1, h2⟩
            · exact ⟨Or.inr rfl, hd.mp c1⟩
          · rintro ⟨h1 | h1, h2⟩
            · exact Or.inl ⟨h1, h2⟩
            · exact Or.inr h1
      · refine ⟨s4.trans s5, gs, ms, e5, r5, fun q => ?_, by omega⟩
        rw [m4, tk]
        constructor
        · rintro ⟨h1, h2⟩
          exact ⟨Or.inl h1, h2⟩
        · rintro ⟨h1 | rfl, h2⟩
          · exact ⟨h1, h2⟩
          · have := hd.mpr h2
            rw [c1] at this
            cases this
    rintro H4 ⟨s4, gs, ms, e4, r4, m4, l4⟩
    have lq : (eq.map V.ref).length = es.length := by rw [List.length_map, all2_len rev]
    rw [lq, List.take_length] at m4
    rw [lq] at l4
    obtain ⟨p0, P0, L0⟩ := lasting_exists W
    have mem0 : p0 ∈ es := (mev p0).mpr P0
    have s24 := s3.trans s4
    have Z4 : Ca C a c H ls lt wp ev sm H4 := ⟨K3.same s4, S3.same s4, ⟨qs, TpZ.same tl2 s24, all2_imp (fun _ _ r => TpZ.same r s24) rl2⟩, wz2.kept S2 (Kp.of s24),
      ⟨ev1, ev2, eq, es, s4 _ _ eev, all2_imp (fun _ _ r => TpZ.same r s4) rev, fun p hp => (mev p).mp hp, List.length_pos_of_mem mem0, by omega⟩,
      ⟨sm1, sm2, gs, ms, e4, r4, fun p hp => ⟨(mev p).mp ((m4 p).mp hp).1, ((m4 p).mp hp).2⟩, List.length_pos_of_mem ((m4 p0).mpr ⟨mem0, L0⟩), by omega⟩⟩
    have few' : ls.length ≤ 60 := by omega
    refine ⟨4, rfl, by decide, by decide, ?_⟩
    refine for_range (lo := 0) (n := (4 : Int).toNat) (fun i σ H' => ∃ (u x y : Option V), σ = [some (.ref a), some (natV n), some (.ref lt), some (.ref wp), some (.ref ev), some (.ref sm), u, x, y, none] ∧ Ca C a c H ls lt wp ev sm H') ⟨none, none, none, rfl, Z4⟩ ?_ ?_
    · rintro i σ H5 hi ⟨u, x, y, rfl, Z5⟩
      refine ⟨_, rfl, _, rfl, pick_read (K := K) (E := E0) Z5.src Z5.sm fun q1 p1 H6 r1 f1 k6 S6 => ?_⟩
      have Z6 := Z5.kept k6 S6
      refine ⟨_, rfl, _, rfl, pick_read (K := K) (E := E0) S6 Z6.sm fun q2 p2 H7 r2 f2 k7 S7 => ⟨_, _, rfl, ?_⟩⟩
      have Z7 := Z6.kept k7 S7
      have r17 := Kp.tpz r1 S6 k7
      refine ⟨_, rfl, _, rfl, _, rfl, _, rfl, wp, lt, q1, q2, ls, p1, p2, rfl, Z7.wz.wat, Z7.rw, r17, r2, W, f1.1, f2.1, few', fun H8 s8 => ⟨true, rfl, ?_⟩⟩
      refine iteF ?_
      have Z8 := Z7.same s8
      refine ⟨_, rfl, _, rfl, _, rfl, lt, q1, q2, ls, p1, p2, rfl, Z8.rw, TpZ.same r17 s8, TpZ.same r2 s8, W, f1.1, f2.1, f1.2, f2.2, few', fun H9 s9 => ⟨true, rfl, ?_⟩⟩
      refine iteF ?_
      exact ⟨_, _, _, rfl, Z8.same s9⟩
    rintro σ H5 ⟨u, x, y, rfl, Z5⟩
    refine ⟨4, rfl, by decide, by decide, ?_⟩
    refine for_range (lo := 0) (n := (4 : Int).toNat) (fun i σ H' => ∃ (u x y : Option V), σ = [some (.ref a), some (natV n), some (.ref lt), some (.ref wp), some (.ref ev), some (.ref sm), u, x, y, none] ∧ Ca C a c H ls lt wp ev sm H') ⟨u, x, y, rfl, Z5⟩ ?_ ?_
    · clear Z5
      rintro i σ H5 hi ⟨u, x, y, rfl, Z5⟩
      refine ⟨_, rfl, _, rfl, pick_read (K := K) (E := E0) Z5.src Z5.ev fun q1 p1 H6 r1 f1 k6 S6 => ?_⟩
      have Z6 := Z5.kept k6 S6
      refine ⟨_, rfl, _, rfl, _, rfl, pick_read (K := K) (E := E0) S6 Z6.ev fun q2 p2 H7 r2 f2 k7 S7 => ?_⟩
      have Z7 := Z6.kept k7 S7
      refine ⟨_, rfl, _, rfl, pick_read (K := K) (E := E0) S7 Z7.ev fun q3 p3 H8 r3 f3 k8 S8 => ?_⟩
      have Z8 := Z7.kept k8 S8
      refine ⟨_, rfl, _, rfl, pick_read (K := K) (E := E0) S8 Z8.sm fun q4 p4 H9 r4 f4 k9 S9 => ?_⟩
      have Z9 := Z8.kept k9 S9
      refine ⟨by show 3 ≤ sizeLine; decide, fun l hl => ?_⟩
      obtain ⟨l1, l2⟩ := S9.off hl
      have s10 := same_new (o := .lst [.ref q2, .ref q3, .ref q4]) hl
      have Z10 := Z9.same s10
      have r19 := Kp.tpz r1 S6 ((k7.trans k8).trans k9)
      have L10 : Lp a c (upd H9 l (.lst [.ref q2, .ref q3, .ref q4])) l (fun p => Par ls p) := by
        refine ⟨l1, l2, [q2, q3, q4], [p2, p3, p4], upd_same, .cons (TpZ.same (Kp.tpz r2 S7 (k8.trans k9)) s10) (.cons (TpZ.same (Kp.tpz r3 S8 k9) s10) (.cons (TpZ.same r4 s10) .nil)), fun p hp => ?_, by show 0 < 3; decide, by show 3 < 1073741824; decide⟩
        simp only [List.mem_cons, List.not_mem_nil, or_false] at hp
        rcases hp with rfl | rfl | rfl
        · exact f2
        · exact f3
        · exact f4.1
      refine pick_read (K := K) (E := E0) Z10.src L10 fun q5 p5 H11 r5 f5 k11 S11 => ⟨_, _, rfl, ?_⟩
      have Z11 := Z10.kept k11 S11
      have r111 := Kp.tpz (TpZ.same r19 s10) Z10.src k11
      refine ⟨_, rfl, _, rfl, _, rfl, _, rfl, wp, lt, q1, q5, ls, p1, p5, rfl, Z11.wz.wat, Z11.rw, r111, r5, W, f1, f5, few', fun H12 s12 => ⟨true, rfl, ?_⟩⟩
      refine iteF ?_
      have Z12 := Z11.same s12
      refine ⟨_, rfl, _, rfl, _, rfl, _, rfl, wp, lt, q5, q1, ls, p5, p1, rfl, Z12.wz.wat, Z12.rw, TpZ.same r5 s12, TpZ.same r111 s12, W, f5, f1, few', fun H13 s13 => ⟨true, rfl, ?_⟩⟩
      refine iteF ?_
      exact ⟨_, _, _, rfl, Z12.same s13⟩
    rintro σ H6 ⟨u, x, y, rfl, Z6⟩
    exact hQ H6 Z6.kp Z6.src
end
end KL

/-! ## KG1 -/
namespace KL
open PySem PySem.Spec PyProof.Rows L2 KR KM
/-- two partings in the making -/
structure La (a c : Addr) (H : Hp) (ol pl : Addr) (p1 p2 : List Nat) (H' : Hp) : Prop where
  kp : Kp a c H H'
  src : Src a c H'
  o0 : H ol = none
  q0 : H pl = none
  ne : ol ≠ pl
  e1 : H' ol = some (.lst (rowV p1))
  e2 : H' pl = some (.lst (rowV p2))
theorem La.kept {a c : Addr} {H : Hp} {ol pl : Addr} {p1 p2 : List Nat} {H1 H2 : Hp} (S : Src a c H) (Z : La a c H ol pl p1 p2 H1) (k : Kp a c H1 H2) (S2 : Src a c H2) : La a c H ol pl p1 p2 H2 := by
  obtain ⟨o1, o2⟩ := S.off Z.o0
  obtain ⟨q1, q2⟩ := S.off Z.q0
  exact ⟨Z.kp.trans k, S2, Z.o0, Z.q0, Z.ne, k _ _ Z.e1 o1 o2, k _ _ Z.e2 q1 q2⟩
theorem La.same {a c : Addr} {H : Hp} {ol pl : Addr} {p1 p2 : List Nat} {H1 H2 : Hp} (S : Src a c H) (Z : La a c H ol pl p1 p2 H1) (s : Same H1 H2) : La a c H ol pl p1 p2 H2 := Z.kept S (Kp.of s) (Z.src.same s)
theorem La.swap {a c : Addr} {H : Hp} {ol pl : Addr} {p1 p2 : List Nat} {H1 : Hp} (Z : La a c H ol pl p1 p2 H1) : La a c H pl ol p2 p1 H1 := ⟨Z.kp, Z.src, Z.q0, Z.o0, Z.ne.symm, Z.e2, Z.e1⟩
theorem La.push {a c : Addr} {H : Hp} {ol pl : Addr} {p1 p2 : List Nat} {H1 : Hp} (S : Src a c H) (Z : La a c H ol pl p1 p2 H1) (x : Nat) : La a c H ol pl (p1 ++ [x]) p2 (upd H1 ol (.lst (rowV p1 ++ [natV x]))) :=
  ⟨Z.kp.own Z.o0, Src.own S Z.o0 Z.src, Z.o0, Z.q0, Z.ne, by rw [upd_same, rowV_snoc], by rw [upd_ne Z.ne.symm]; exact Z.e2⟩
/-- the two by turns: at turn m the m-th grows -/
def Two (a c : Addr) (H : Hp) (ol pl D : Addr) (m : Nat) (cur oth : List Nat) (H' : Hp) : Prop := (m = 0 ∧ D = ol ∧ La a c H ol pl cur oth H') ∨ (m = 1 ∧ D = pl ∧ La a c H ol pl oth cur H')
theorem Two.kept {a c : Addr} {H : Hp} {ol pl D : Addr} {m : Nat} {cur oth : List Nat} {H1 H2 : Hp} (S : Src a c H) (Z : Two a c H ol pl D m cur oth H1) (k : Kp a c H1 H2) (S2 : Src a c H2) : Two a c H ol pl D m cur oth H2 := by
  rcases Z with ⟨h1, h2, Z⟩ | ⟨h1, h2, Z⟩
  · exact Or.inl ⟨h1, h2, Z.kept S k S2⟩
  · exact Or.inr ⟨h1, h2, Z.kept S k S2⟩
theorem Two.src {a c : Addr} {H : Hp} {ol pl D : Addr} {m : Nat} {cur oth : List Nat} {H1 : Hp} (Z : Two a c H ol pl D m cur oth H1) : Src a c H1 := by
  rcases Z with ⟨_, _, Z⟩ | ⟨_, _, Z⟩ <;> exact Z.src
theorem Two.at_ {a c : Addr} {H : Hp} {ol pl D : Addr} {m : Nat} {cur oth : List Nat} {H1 : Hp} (Z : Two a c H ol pl D m cur oth H1) : H D = none ∧ H1 D = some (.lst (rowV cur)) := by
  rcases Z with ⟨_, rfl, Z⟩ | ⟨_, rfl, Z⟩
  · exact ⟨Z.o0, Z.e1⟩
  · exact ⟨Z.q0, Z.e2⟩
theorem Two.push {a c : Addr} {H : Hp} {ol pl D : Addr} {m : Nat} {cur oth : List Nat} {H1 : Hp} (S : Src a c H) (Z : Two a c H ol pl D m cur oth H1) (x : Nat) : Two a c H ol pl D m (cur ++ [x]) oth (upd H1 D (.lst (rowV cur ++ [natV x]))) := by
  rcases Z with ⟨h1, rfl, Z⟩ | ⟨h1, rfl, Z⟩
  · exact Or.inl ⟨h1, rfl, Z.push S x⟩
  · exact Or.inr ⟨h1, rfl, (Z.swap.push S x).swap⟩
theorem rg4 {b : Nat} (h : b = 1 ∨ b = 2) : RgC 0 ((4 * b : Nat) : Int) 4 b := by
  rcases h with rfl | rfl
  · exact ⟨by decide, by decide, by decide +kernel, by decide +kernel⟩
  · exact ⟨by decide, by decide, by decide +kernel, by decide +kernel⟩
section
variable {P : Program} {w : World} {K : PySem.W.Frag} {mg : Str → Option Value} {base : Heap}
def spLadder : Sp := fun vs H Q _ => ∃ (a c : Addr), vs = [.ref a] ∧ Src a c H ∧ ∀ H', Kp a c H H' → Src a c H' → Q (.bl true) H'
abbrev nLadder : List Str := ["_law_heap_here", "_law_many", "_law_lists_here", "_law_at", "_law_wishes_here", "_law_one", "_law_other", "_law_parting", "_law_ring", "_law_step"]
theorem scLadder : FnScope nLadder ["_law_heap_here"] (defScope (top 42)) := ⟨rfl, rfl, rfl, by decide +kernel, rfl, by decide +kernel, by decide +kernel⟩
theorem ok_ladder (T : Tx mg) {C : Addr} (D : DefAt K mg "_law_ladder_right" 42) (cD : Call P w K mg base 1 "_law_draw" ["_law_heap_here", "_law_many"] spDraw) (cP : Call P w K mg base 2 "_law_pick" ["_law_heap_here", "_law_some"] (spPick K))
    (cW : Call P w K mg base 7 "_law_wishes" ["_law_heap_here", "_law_lists_here"] (spWishes C)) (cA : Call P w K mg base 2 "_law_lasts" ["_law_lists_here", "_law_parting"] (spLasts K))
    (cT : CallG P w K mg base 4 "_law_pair_told" ["_law_wishes_here", "_law_lists_here", "_law_one", "_law_other"] (spTold K C)) (cC : Call P w K mg base 3 "_law_counts_right" ["_law_lists_here", "_law_one", "_law_other"] (spCounts K)) :
    CallG P w K mg base 8 "_law_ladder_right" ["_law_heap_here"] spLadder := by
  refine CallG.mk' D scLadder (fun _ _ _ _ _ _ us hl => match us, hl with | [_], _ => rfl) (fun vs H Q E h => ?_) (fun f cdv A outer s H vs Q E gd hr h => ?_)
  · obtain ⟨a, c, rfl, _⟩ := h
    rfl
  · obtain ⟨a, c, rfl, hS, hQ⟩ := h
    refine ⟨_, pss_cons (ps_set (i := 1) scLadder.nd rfl (.inl rfl) (pe_op op_mul pe_int (pe_op op_add pe_int (pe_k cD hr (ha := pa_cons (pv 0) (pa_cons pe_int pa_nil))))))
      (pss_cons (ps_set (i := 2) scLadder.nd rfl (.inl rfl) (pe_lst pa_nil))
      (pss_cons (ps_for PassesOwn.never rfl (pi_range3 rfl T.range (pa_cons pe_int (pa_cons (pv 1) (pa_cons pe_int pa_nil)))) (pg_name (i := 3) scLadder.nd rfl (.inl rfl))
        (pss_one (ps_set (i := 2) scLadder.nd rfl (.inl rfl) (pe_op op_cat (pv 2) (pe_lst (pa_cons (pe_tupZ (pa_cons (pe_op op_add (pv 3) pe_int) (pa_cons (pe_op op_add (pv 3) pe_int) pa_nil)))
          (pa_cons (pe_tupZ (pa_cons (pe_op op_add (pv 3) pe_int) (pa_cons (pv 3) pa_nil))) (pa_cons (pe_tupZ (pa_cons (pe_op op_add (pv 3) pe_int) (pa_cons (pe_op op_add (pv 3) pe_int) pa_nil)))
          (pa_cons (pe_tupZ (pa_cons (pv 3) (pa_cons (pe_op op_add (pv 3) pe_int) pa_nil))) pa_nil)))))))))
      (pss_cons (ps_set (i := 4) scLadder.nd rfl (.inl rfl) (pe_k cW hr (ha := pa_cons (pv 0) (pa_cons (pe_callTy cr_tupL (by rfl) T.tuple (by decide +kernel) (pa_cons (pv 2) pa_nil)) pa_nil))))
      (pss_cons (ps_par (i := 5) (j := 6) rfl scLadder.nd rfl rfl (by decide) rfl rfl (pa_cons (pe_lst pa_nil) (pa_cons (pe_lst pa_nil) pa_nil)) (by rfl))
      (pss_cons (ps_for PassesOwn.never rfl (pi_range3 rfl T.range (pa_cons pe_int (pa_cons (pv 1) (pa_cons pe_int pa_nil)))) (pg_name (i := 3) scLadder.nd rfl (.inl rfl))
        (pss_one (ps_for PassesOwn.never rfl (pi_list (pe_lst (pa_cons (pv 5) (pa_cons (pv 6) pa_nil)))) (pg_name (i := 7) scLadder.nd rfl (.inl rfl))
          (pss_cons (ps_set (i := 8) scLadder.nd rfl (.inl rfl) (pe_k cP hr (ha := pa_cons (pv 0) (pa_cons (pe_lst (pa_cons (pe_lst (pa_cons pe_int (pa_cons pe_int (pa_cons pe_int (pa_cons pe_int pa_nil)))))
              (pa_cons (pe_lst (pa_cons pe_int (pa_cons pe_int (pa_cons pe_int (pa_cons pe_int pa_nil))))) (pa_cons (pe_lst (pa_cons pe_int (pa_cons pe_int (pa_cons pe_int (pa_cons pe_int pa_nil))))) pa_nil)))) pa_nil))))
          (pss_one (ps_for PassesOwn.never rfl (pi_list (pv 8)) (pg_name (i := 9) scLadder.nd rfl (.inl rfl))
            (pss_one (ps_expr (pe_bm PySem.F.plainAttrs_list PySem.F.slot_list_append PySem.F.type_list_append mt_append (pv 7) (pa_cons (pe_op op_add (pv 3) (pv 9)) pa_nil))))))))))
      (pss_cons (ps_if (PW.pt (pw_or (pt_not (pt_val (pe_k cA hr (ha := pa_cons (pv 2) (pa_cons (pv 5) pa_nil))))) (pw_or1 (pt_not (pt_val (pe_k cA hr (ha := pa_cons (pv 2) (pa_cons (pv 6) pa_nil)))))))) (pss_one (ps_ret pe_bl)) pss_nil)
      (pss_one (ps_ret (pe_and (pe_kG cT gd hr (ha := pa_cons (pv 4) (pa_cons (pv 2) (pa_cons (pe_callTy cr_tupL (by rfl) T.tuple (by decide +kernel) (pa_cons (pv 5) pa_nil)) (pa_cons (pe_callTy cr_tupL (by rfl) T.tuple (by decide +kernel) (pa_cons (pv 6) pa_nil)) pa_nil)))))
        (pe_one (pe_k cC hr (ha := pa_cons (pv 2) (pa_cons (pe_callTy cr_tupL (by rfl) T.tuple (by decide +kernel) (pa_cons (pv 5) pa_nil)) (pa_cons (pe_callTy cr_tupL (by rfl) T.tuple (by decide +kernel) (pa_cons (pv 6) pa_nil)) pa_nil)))))))))))))), ?_⟩
    refine ⟨_, rfl, a, c, 2, rfl, hS, by omega, by omega, fun d H1 hd k1 S1 => ⟨1, (d : Int), rfl, rfl, 4, 1 + (d : Int), rfl, rfl, Or.inl ⟨by decide, by decide⟩, ?_⟩⟩
    obtain ⟨b, hb, eb⟩ : ∃ b : Nat, (b = 1 ∨ b = 2) ∧ (4 : Int) * (1 + (d : Int)) = ((4 * b : Nat) : Int) := ⟨d + 1, by omega, by omega⟩
    have rg : RgC 0 ((4 : Int) * (1 + (d : Int))) 4 b := by
      rw [eb]
      exact rg4 hb
    obtain ⟨W, ll, facts⟩ := lad_facts hb
    -- the lists
    refine ⟨by show 0 ≤ sizeLine; decide, fun l0 hl0 => ?_⟩
    refine ⟨_, rfl, 0, (4 : Int) * (1 + (d : Int)), 4, b, rfl, rg, ?_⟩
    refine for_rangeC (lo := 0) (c := 4) (n := b) (fun i σ H' => ∃ (l : Addr) (u : Option V), σ = [some (.ref a), some (.int ((4 : Int) * (1 + (d : Int)))), some (.ref l), u, none, none, none, none, none, none] ∧ Same H1 H' ∧ H1 l = none ∧
        ∃ qs : List Addr, H' l = some (.lst (qs.map V.ref)) ∧ All2 (Row H') qs (ladTo i)) ⟨l0, none, rfl, same_new hl0, hl0, [], upd_same, .nil⟩ ?_ ?_
    · rintro i σ H2 hi ⟨l, u, rfl, s2, l1, qs, el, rq⟩
      have e0 : (0 : Int) + (i : Nat) * 4 = ((4 * i : Nat) : Int) := by omega
      rw [e0]
      refine ⟨_, rfl, ?_⟩
      refine ⟨_, rfl, _, _, rfl, rfl, _, rfl, _, _, rfl, rfl, by show 2 ≤ sizeLine; decide, NewT.use fun q1 H3 hq1 s3 t1 => ?_⟩
      refine ⟨_, rfl, _, _, rfl, rfl, _, rfl, by show 2 ≤ sizeLine; decide, NewT.use fun q2 H4 hq2 s4 t2 => ?_⟩
      refine ⟨_, rfl, _, _, rfl, rfl, _, rfl, _, _, rfl, rfl, by show 2 ≤ sizeLine; decide, NewT.use fun q3 H5 hq3 s5 t3 => ?_⟩
      refine ⟨_, rfl, _, rfl, _, _, rfl, rfl, by show 2 ≤ sizeLine; decide, NewT.use fun q4 H6 hq4 s6 t4 => ?_⟩
      refine ⟨by show 4 ≤ sizeLine; decide, fun n1 hn1 => ?_⟩
      have s7 := same_new (o := .lst [.ref q1, .ref q2, .ref q3, .ref q4]) hn1
      have s27 := s3.trans (s4.trans (s5.trans (s6.trans s7)))
      have lq : qs.length ≤ 8 := by
        have h1 := all2_len rq
        have h2 : ∀ k, (ladTo k).length = 4 * k := fun k => by
          induction k with
          | zero => rfl
          | succ k ih =>
            show (ladTo k ++ rung k).length = _
            rw [List.length_append, ih]
            show 4 * k + 4 = _
            omega
        rw [h2] at h1
        omega
      refine ⟨l, n1, _, _, rfl, rfl, s27 _ _ el, upd_same, by rw [List.length_map]; have := line60 (n := 20) (by omega); show _ + 4 ≤ sizeLine; omega, fun l2 hl2 => ?_⟩
      have s8 := same_then (o := .lst (qs.map V.ref ++ [.ref q1, .ref q2, .ref q3, .ref q4])) s27 hl2
      have s68 := same_then (o := .lst (qs.map V.ref ++ [.ref q1, .ref q2, .ref q3, .ref q4])) s7 hl2
      refine ⟨l2, _, rfl, s2.trans s8, (s2.trans s27).free hl2, qs ++ [q1, q2, q3, q4], by rw [upd_same, List.map_append]; rfl, ?_⟩
      have u1 : Row H3 q1 [4 * i + 1, 4 * i + 3] := t1
      have u2 : Row H4 q2 [4 * i + 2, 4 * i] := t2
      have u3 : Row H5 q3 [4 * i + 3, 4 * i + 1] := t3
      have u4 : Row H6 q4 [4 * i, 4 * i + 2] := t4
      refine all2_app (all2_imp (fun _ _ r => TpZ.same r s8) rq) ?_
      exact .cons (TpZ.same u1 (s4.trans (s5.trans (s6.trans s68)))) (.cons (TpZ.same u2 (s5.trans (s6.trans s68))) (.cons (TpZ.same u3 (s6.trans s68)) (.cons (TpZ.same u4 s68) .nil)))
    rintro σ H2 ⟨l, u, rfl, s2, l1, qs, el, rq⟩
    obtain ⟨la1, la2⟩ := S1.off l1
    have S2 := S1.same s2
    have rowsAt : ∀ H', Kp a c H2 H' → Rows K H' l (ladTo b) := fun H' k => ⟨qs, Or.inl (SqL.of (k _ _ el la1 la2)), all2_imp (fun _ _ r => Kp.tpz r S2 k) rq⟩
    have few : (ladTo b).length ≤ 60 := by omega
    -- the wishes
    refine ⟨_, rfl, _, rfl, l, _, rfl, SqL.of el, NewT.use fun lt H3 hlt s3 t3 => ?_⟩
    refine ⟨a, c, lt, qs, ladTo b, rfl, S2.same s3, t3, all2_imp (fun _ _ r => TpZ.same r s3) rq, W, by omega, by omega, fun wp H4 k4 S4 wz => ?_⟩
    have K24 : Kp a c H2 H4 := (Kp.of s3).trans k4
    -- one, other
    refine ⟨by show 0 ≤ sizeLine; decide, fun ol hol => ⟨by show 0 ≤ sizeLine; decide, fun pl hpl => ⟨_, _, rfl, ?_⟩⟩⟩
    have s5 := same_new (o := .lst []) hol
    have s6 := same_then (o := .lst []) s5 hpl
    have op : ol ≠ pl := ne_of_none (o := .lst []) upd_same hpl
    have Z6 : La a c H4 ol pl [] [] (upd (upd H4 ol (.lst [])) pl (.lst [])) := ⟨Kp.of s6, S4.same s6, hol, s5.free hpl, op, by rw [upd_ne op]; exact upd_same, upd_same⟩
    refine ⟨_, rfl, 0, (4 : Int) * (1 + (d : Int)), 4, b, rfl, rg, ?_⟩
    refine for_rangeC (lo := 0) (c := 4) (n := b) (fun k σ H' => ∃ (u x y z : Option V) (p1 p2 : List Nat), σ = [some (.ref a), some (.int ((4 : Int) * (1 + (d : Int)))), some (.ref l), u, some (.ref wp), some (.ref ol), some (.ref pl), x, y, z] ∧ La a c H4 ol pl p1 p2 H' ∧ p1 ∈ opts k ∧ p2 ∈ opts k)
      ⟨_, _, _, _, [], [], rfl, Z6, List.mem_singleton.mpr rfl, List.mem_singleton.mpr rfl⟩ ?_ ?_
    · clear Z6
      rintro k σ H7 hk ⟨u, x, y, z, p1, p2, rfl, Z7, m1, m2⟩
      have e0 : (0 : Int) + (k : Nat) * 4 = ((4 * k : Nat) : Int) := by omega
      rw [e0]
      refine ⟨_, rfl, _, rfl, by show 2 ≤ sizeLine; decide, fun t ht => ?_⟩
      have st := same_new (o := .lst [.ref ol, .ref pl]) ht
      obtain ⟨ta, tc⟩ := Z7.src.off ht
      have to_ : t ≠ ol := (ne_of_none Z7.e1 ht).symm
      have tp_ : t ≠ pl := (ne_of_none Z7.e2 ht).symm
      refine ⟨t, rfl, ⟨_, SqL.of upd_same⟩, ?_⟩
      refine for_it (walk_list (xs := [.ref ol, .ref pl])) (fun m σ H' => ∃ (x y z : Option V) (p1 p2 : List Nat), σ = [some (.ref a), some (.int ((4 : Int) * (1 + (d : Int)))), some (.ref l), some (natV (4 * k)), some (.ref wp), some (.ref ol), some (.ref pl), x, y, z] ∧ La a c H4 ol pl p1 p2 H' ∧ H' t = some (.lst [.ref ol, .ref pl]) ∧
          p1 ∈ opts (if 0 < m then k + 1 else k) ∧ p2 ∈ opts (if 1 < m then k + 1 else k)) ⟨x, y, z, p1, p2, rfl, Z7.same S4 st, upd_same, m1, m2⟩ ?_ ?_ ?_
      · rintro m σ H' _ ⟨x, y, z, p1, p2, rfl, _, et, _⟩
        exact SqL.of et
      · clear m1 m2 Z7
        rintro m v σ H8 H9 hm ⟨x, y, z, p1, p2, rfl, Z9, et, m1, m2⟩ ⟨rfl, hv⟩
        obtain ⟨D, cur, oth, rfl, Z9, mc, tD, fin⟩ : ∃ (D : Addr) (cur oth : List Nat), v = .ref D ∧ Two a c H4 ol pl D m cur oth H9 ∧ cur ∈ opts k ∧ t ≠ D ∧ ∀ (cur' : List Nat) (H' : Hp), cur' ∈ opts (k + 1) → Two a c H4 ol pl D m cur' oth H' →
            ∃ p1 p2, La a c H4 ol pl p1 p2 H' ∧ p1 ∈ opts (if 0 < m + 1 then k + 1 else k) ∧ p2 ∈ opts (if 1 < m + 1 then k + 1 else k) := by
          match m, hm, hv, m1, m2 with
          | 0, _, hv, m1, m2 =>
            cases hv
            refine ⟨ol, p1, p2, rfl, Or.inl ⟨rfl, rfl, Z9⟩, m1, to_, fun cur' H' hc Z => ?_⟩
            rcases Z with ⟨_, _, Z⟩ | ⟨h, _, _⟩
            · exact ⟨cur', p2, Z, hc, m2⟩
            · cases h
          | 1, _, hv, m1, m2 =>
            cases hv
            refine ⟨pl, p2, p1, rfl, Or.inr ⟨rfl, rfl, Z9⟩, m2, tp_, fun cur' H' hc Z => ?_⟩
            rcases Z with ⟨h, _, _⟩ | ⟨_, _, Z⟩
            · cases h
            · exact ⟨p1, cur', Z, m1, hc⟩
          | m + 2, hm, _, _, _ => exact absurd hm (by simp)
        have lcur : cur.length = 4 * k := by
          have : ∀ k, ∀ p ∈ opts k, p.length = 4 * k := fun k => by
            induction k with
            | zero =>
              intro p hp
              rw [List.mem_singleton.mp hp]
              rfl
            | succ k ih =>
              intro p hp
              obtain ⟨q, hq, hr⟩ := List.mem_flatMap.mp hp
              obtain ⟨r, hr3, rfl⟩ := List.mem_map.mp hr
              have l4 : r.length = 4 := by
                exact (by decide : ∀ r ∈ R3, r.length = 4) r hr3
              rw [List.length_append, List.length_map, ih q hq, l4]
              omega
          exact this k cur mc
        -- the ring
        refine ⟨_, rfl, by show 4 ≤ sizeLine; decide, fun r1 h1 => ⟨by show 4 ≤ sizeLine; decide, fun r2 h2 => ⟨by show 4 ≤ sizeLine; decide, fun r3 h3 => ⟨by show 3 ≤ sizeLine; decide, fun rr hrr => ?_⟩⟩⟩⟩
        have v1 := same_new (o := .lst (rowV [1, 2, 3, 0])) h1
        have v2 := same_new (o := .lst (rowV [1, 0, 3, 2])) h2
        have v3 := same_new (o := .lst (rowV [3, 2, 1, 0])) h3
        have v4 := same_new (o := .lst [.ref r1, .ref r2, .ref r3]) hrr
        have V4 := v1.trans (v2.trans (v3.trans v4))
        have S9 := Z9.src
        have S10 := S9.same V4
        obtain ⟨ra, rc⟩ := ((S9.same v1).same v2 |>.same v3).off hrr
        have g1 := (v2.trans (v3.trans v4)) r1 _ upd_same
        have g2 := (v3.trans v4) r2 _ upd_same
        have g3 := v4 r3 _ upd_same
        obtain ⟨a1, c1⟩ := S9.off h1
        obtain ⟨a2, c2⟩ := (S9.same v1).off h2
        obtain ⟨a3, c3⟩ := ((S9.same v1).same v2).off h3
        refine ⟨a, c, rr, [.ref r1, .ref r2, .ref r3], rfl, S10, fun H' k => Or.inl (SqL.of (k _ _ upd_same ra rc)), by show 0 < 3; decide, by show 3 < 1073741824; decide, fun ix v H11 hv k11 S11 => ?_⟩
        have eD9 := Z9.at_.2
        obtain ⟨r, ring, rfl, hring, er, rD, rt⟩ : ∃ (r : Addr) (ring : List Nat), v = .ref r ∧ ring ∈ R3 ∧ H11 r = some (.lst (rowV ring)) ∧ r ≠ D ∧ r ≠ t := by
          match ix, hv with
          | 0, hv =>
            cases hv
            exact ⟨r1, [1, 2, 3, 0], rfl, by decide, k11 _ _ g1 a1 c1, (ne_of_none eD9 h1).symm, (ne_of_none et h1).symm⟩
          | 1, hv =>
            cases hv
            exact ⟨r2, [1, 0, 3, 2], rfl, by decide, k11 _ _ g2 a2 c2, (ne_of_none (v1 _ _ eD9) h2).symm, (ne_of_none (v1 _ _ et) h2).symm⟩
          | 2, hv =>
            cases hv
            exact ⟨r3, [3, 2, 1, 0], rfl, by decide, k11 _ _ g3 a3 c3, (ne_of_none ((v1.trans v2) _ _ eD9) h3).symm, (ne_of_none ((v1.trans v2) _ _ et) h3).symm⟩
          | ix + 3, hv => exact absurd hv (by simp)
        have lr : ring.length = 4 := by
          exact (by decide : ∀ r ∈ R3, r.length = 4) ring hring
        have Z11 := Z9.kept S4 ((Kp.of V4).trans k11) S11
        have et11 := k11 _ _ (V4 _ _ et) ta tc
        refine ⟨_, rfl, r, rfl, ⟨_, SqL.of er⟩, ?_⟩
        refine for_it (walk_list (xs := rowV ring)) (fun j σ H' => ∃ (z : Option V), σ = [some (.ref a), some (.int ((4 : Int) * (1 + (d : Int)))), some (.ref l), some (natV (4 * k)), some (.ref wp), some (.ref ol), some (.ref pl), some (.ref D), some (.ref r), z] ∧
            Two a c H4 ol pl D m (cur ++ (ring.take j).map fun x => 4 * k + x) oth H' ∧ H' t = some (.lst [.ref ol, .ref pl]) ∧ H' r = some (.lst (rowV ring))) ⟨z, rfl, by simpa using Z11, et11, er⟩ ?_ ?_ ?_
        · rintro j σ H' _ ⟨z, rfl, _, _, er⟩
          exact SqL.of er
        · rintro j v σ H12 H13 hj ⟨z, rfl, Z13, et13, er13⟩ ⟨rfl, hv⟩
          obtain ⟨o, ho, rfl⟩ := row_get hv
          have eD := Z13.at_.2
          have nat : natV (4 * k + o) = V.int (((4 * k : Nat) : Int) + (o : Int)) := by
            unfold natV
            rw [Int.natCast_add]
          have P := Z13.push S4 (4 * k + o)
          rw [nat] at P
          have tk : cur ++ ((ring.take (j + 1)).map fun x => 4 * k + x) = cur ++ ((ring.take j).map fun x => 4 * k + x) ++ [4 * k + o] := by
            obtain ⟨h1, h2⟩ := List.getElem?_eq_some_iff.mp ho
            rw [List.take_succ_eq_append_getElem h1, List.map_append, h2, List.append_assoc]
            rfl
          refine ⟨_, rfl, Or.inl ⟨rfl, _, SqL.of eD⟩, _, rfl, _, rfl, _, _, rfl, rfl, D, _, _, rfl, rfl, eD, ?_, _, rfl, ?_, ?_, ?_⟩
          · rw [rowV_len, List.length_append, List.length_map, List.length_take]
            exact line60 (by omega)
          · rw [tk]
            exact P
          · rw [upd_ne tD]
            exact et13
          · rw [upd_ne rD]
            exact er13
        · rintro σ H12 ⟨z, rfl, Z12, et12, _⟩
          rw [rowV_len, List.take_length] at Z12
          obtain ⟨p1', p2', Z, n1, n2⟩ := fin _ H12 (opts_succ mc hring) Z12
          exact ⟨_, _, _, p1', p2', rfl, Z, et12, n1, n2⟩
      · rintro σ H8 ⟨x, y, z, p1, p2, rfl, Z8, _, n1, n2⟩
        exact ⟨_, _, _, _, p1, p2, rfl, Z8, n1, n2⟩
    rintro σ H7 ⟨u, x, y, z, p1, p2, rfl, Z7, m1, m2⟩
    obtain ⟨P1, L1⟩ := facts p1 m1
    obtain ⟨P2, L2⟩ := facts p2 m2
    have K27 : Kp a c H2 H7 := K24.trans Z7.kp
    refine ⟨_, rfl, _, rfl, l, ol, ladTo b, p1, rfl, rowsAt _ K27, Or.inr (SqL.of Z7.e1), W, P1, few, fun d1 H8 hd1 s8 => ⟨d1, rfl, ?_⟩⟩
    have d1t : d1 = true := hd1.mpr L1
    subst d1t
    refine iteF ?_
    refine ⟨_, rfl, _, rfl, l, pl, ladTo b, p2, rfl, rowsAt _ (K27.same s8), Or.inr (SqL.of (s8 _ _ Z7.e2)), W, P2, few, fun d2 H9 hd2 s9 => ⟨d2, rfl, ?_⟩⟩
    have d2t : d2 = true := hd2.mpr L2
    subst d2t
    refine iteF ?_
    have s79 := s8.trans s9
    refine ⟨_, rfl, _, rfl, _, rfl, ol, _, rfl, SqL.of (s79 _ _ Z7.e1), NewT.use fun t1 H10 ht1 s10 u1 => ?_⟩
    refine ⟨_, rfl, pl, _, rfl, SqL.of ((s79.trans s10) _ _ Z7.e2), NewT.use fun t2 H11 ht2 s11 u2 => ?_⟩
    have s7b := s79.trans (s10.trans s11)
    have KB := K27.same s7b
    refine ⟨wp, l, t1, t2, ladTo b, p1, p2, rfl, (wz.kept S4 (Z7.kp.same s7b)).wat, rowsAt _ KB, TpZ.same u1 s11, u2, W, P1, P2, few, fun H12 s12 => ⟨true, rfl, ?_⟩⟩
    refine iteT ?_
    have s7c := s7b.trans s12
    refine ⟨_, rfl, _, rfl, ol, _, rfl, SqL.of (s7c _ _ Z7.e1), NewT.use fun t3 H13 ht3 s13 u3 => ?_⟩
    refine ⟨_, rfl, pl, _, rfl, SqL.of ((s7c.trans s13) _ _ Z7.e2), NewT.use fun t4 H14 ht4 s14 u4 => ?_⟩
    have s7d := s7c.trans (s13.trans s14)
    refine ⟨l, t3, t4, ladTo b, p1, p2, rfl, rowsAt _ (K27.same s7d), TpZ.same u3 s14, u4, W, P1, P2, L1, L2, few, fun H15 s15 => ?_⟩
    have s7e := s7d.trans s15
    exact hQ H15 ((((k1.same s2).trans K24).trans Z7.kp).same s7e) (Z7.src.same s7e)
end
end KL

/-! ## KG2 -/
namespace KL
open PySem PySem.Spec PyProof.Rows L2 KR KM
theorem lp_no : leP (3, 0) (1, 2) = false := by decide +kernel
theorem ms_two : [(3, 0), (1, 2)].mergeSort leP = [(1, 2), (3, 0)] := by
  simp [List.mergeSort, List.MergeSort.Internal.splitInTwo, lp_no]
abbrev pA : List Nat := [1, 0, 3, 2]
abbrev pB : List Nat := [3, 2, 1, 0]
abbrev pI : List Nat := [1, 2, 3, 0]
theorem risen_AB : risenL (ladTo 1) pA pB = [(1, 2), (3, 0)] := by
  unfold risenL
  have : found (ladTo 1) pA pB = [(3, 0), (1, 2)] := by decide +kernel
  rw [this, ms_two]
theorem risen_AI : risenL (ladTo 1) pA pI = [(1, 2), (3, 0)] := by
  unfold risenL
  have : found (ladTo 1) pA pI = [(3, 0), (1, 2)] := by decide +kernel
  rw [this, ms_two]
theorem risen_IA : risenL (ladTo 1) pI pA = [] := by
  unfold risenL
  have : found (ladTo 1) pI pA = [] := by decide +kernel
  rw [this]
  exact List.mergeSort_of_pairwise .nil
theorem par1 {p : List Nat} (h : p ∈ opts 1) : Par (ladTo 1) p := (par_of (lad1.2 p h)).1
def zs4 : List Str := ["a", "b", "c", "d"]
theorem zs4_good : ∀ z ∈ zs4, GoodN z := fun z hz => by
  have h : ∀ z ∈ zs4, goodB z = true := by decide +kernel
  exact good_of (h z hz)
theorem zs4_asc : Asc zs4 := fun i x y hx hy => by
  match i, hx, hy with
  | 0, hx, hy =>
    cases hx
    cases hy
    decide +kernel
  | 1, hx, hy =>
    cases hx
    cases hy
    decide +kernel
  | 2, hx, hy =>
    cases hx
    cases hy
    decide +kernel
  | i + 3, hx, hy => exact absurd hy (by simp [zs4])
theorem pm01 : Pm [0, 1] where
  nd := by decide
  lt := by decide
  mem := by decide
  few := by decide
section
variable {P : Program} {w : World} {K : PySem.W.Frag} {mg : Str → Option Value} {base : Heap}
def spLaw (K : PySem.W.Frag) : Sp := fun vs H Q _ => ∃ (b : Addr) (ns : List Int), vs = [.ref b] ∧ SqL K H b (ns.map V.int) ∧ ∀ H', Q (.bl true) H'
abbrev nLaw : List Str := ["_law_script", "_law_heap_here", "_law_turn", "_law_four"]
theorem scLaw : FnScope nLaw ["_law_script"] (defScope (top 43)) := ⟨rfl, rfl, rfl, by decide +kernel, rfl, by decide +kernel, by decide +kernel⟩
theorem ok_law (T : Tx mg) {C : Addr} (c : Wc K C) (D : DefAt K mg "law" 43) (cH : Call P w K mg base 1 "_law_heap" ["_law_script"] (spHeap K)) (cP : Call P w K mg base 2 "_law_pick" ["_law_heap_here", "_law_some"] (spPick K))
    (cC : CallG P w K mg base 8 "_law_case_right" ["_law_heap_here", "_law_many"] spCase) (cL : CallG P w K mg base 8 "_law_ladder_right" ["_law_heap_here"] spLadder) (cI : CallM P w K mg base 5 C ["self", "names", "lists"] (spInit K C))
    (cR : Call P w K mg base 3 "risen_pairs" ["wishes", "one", "other"] (spRisenPairs K C)) (cE : Call P w K mg base 1 "edges_of" ["parting"] (spEdgesOf K)) : CallG P w K mg base 9 "law" ["_law_script"] (spLaw K) := by
  refine CallG.mk' D scLaw (fun _ _ _ _ _ _ us hl => match us, hl with | [_], _ => rfl) (fun vs H Q E h => ?_) (fun f cdv A outer s H vs Q E gd hr h => ?_)
  · obtain ⟨b, ns, rfl, _⟩ := h
    rfl
  · obtain ⟨b, ns, rfl, hb, hQ⟩ := h
    refine ⟨_, pss_cons (ps_set (i := 1) scLaw.nd rfl (.inl rfl) (pe_k cH hr (ha := pa_cons (pv 0) pa_nil)))
      (pss_cons (ps_for PassesOwn.never rfl (pi_range1 rfl T.range (pa_cons (pe_op op_add (pe_op op_add pe_int
            (pe_callTy call_int1 (by rfl) T.int (by decide +kernel) (pa_cons (pe_cmpR op_gt (pe_callB cr_lenA (by rfl) T.len boot_len (pa_cons (pv 0) pa_nil)) pe_int (nomark _)) pa_nil)))
            (pe_callTy call_int1 (by rfl) T.int (by decide +kernel) (pa_cons (pe_cmpR op_gt (pe_callB cr_lenA (by rfl) T.len boot_len (pa_cons (pv 0) pa_nil)) pe_int (nomark _)) pa_nil))) pa_nil)) (pg_name (i := 2) scLaw.nd rfl (.inl rfl))
        (pss_one (ps_if (PW.pt (pw_or (pt_not (pt_val (pe_kG cC gd hr (ha := pa_cons (pv 1) (pa_cons (pe_k cP hr (ha := pa_cons (pv 1) (pa_cons (pe_lst (pa_cons pe_int (pa_cons pe_int (pa_cons pe_int (pa_cons pe_int (pa_cons pe_int (pa_cons pe_int (pa_cons pe_int (pa_cons pe_int pa_nil))))))))) pa_nil))) pa_nil)))))
          (pw_or1 (pt_not (pt_val (pe_kG cL gd hr (ha := pa_cons (pv 1) pa_nil))))))) (pss_one (ps_ret pe_bl)) pss_nil)))
      (pss_cons (ps_set (i := 3) scLaw.nd rfl (.inl rfl) (pe_mk cI hr (ha := pa_cons (pe_tupZ (pa_cons pe_str (pa_cons pe_str (pa_cons pe_str (pa_cons pe_str pa_nil))))) (pa_cons (pe_tupZ
          (pa_cons (pe_tupZ (pa_cons pe_int (pa_cons pe_int pa_nil))) (pa_cons (pe_tupZ (pa_cons pe_int (pa_cons pe_int pa_nil))) (pa_cons (pe_tupZ (pa_cons pe_int (pa_cons pe_int pa_nil))) (pa_cons (pe_tupZ (pa_cons pe_int (pa_cons pe_int pa_nil))) pa_nil))))) pa_nil))))
      (pss_cons (ps_if (PW.pt (pw_or (pt_cmpR (op_neD hr.units) (pe_k cR hr (ha := pa_cons (pv 3) (pa_cons (pe_tupZ (pa_cons pe_int (pa_cons pe_int (pa_cons pe_int (pa_cons pe_int pa_nil))))) (pa_cons (pe_tupZ (pa_cons pe_int (pa_cons pe_int (pa_cons pe_int (pa_cons pe_int pa_nil))))) pa_nil))))
            (pe_tupZ (pa_cons (pe_tupZ (pa_cons pe_int (pa_cons pe_int pa_nil))) (pa_cons (pe_tupZ (pa_cons pe_int (pa_cons pe_int pa_nil))) pa_nil))) (nomark _))
          (pw_or1 (pt_cmpR (op_neD hr.units) (pe_k cR hr (ha := pa_cons (pv 3) (pa_cons (pe_tupZ (pa_cons pe_int (pa_cons pe_int (pa_cons pe_int (pa_cons pe_int pa_nil))))) (pa_cons (pe_tupZ (pa_cons pe_int (pa_cons pe_int (pa_cons pe_int (pa_cons pe_int pa_nil))))) pa_nil))))
            (pe_tupZ pa_nil) (nomark _))))) (pss_one (ps_ret pe_bl)) pss_nil)
      (pss_cons (ps_if (PW.pt (pw_or (pt_cmpR (op_neD hr.units) (pe_k cE hr (ha := pa_cons (pe_tupZ (pa_cons pe_int (pa_cons pe_int (pa_cons pe_int (pa_cons pe_int pa_nil))))) pa_nil))
            (pe_tupZ (pa_cons (pe_tupZ (pa_cons pe_int (pa_cons pe_int pa_nil))) (pa_cons (pe_tupZ (pa_cons pe_int (pa_cons pe_int pa_nil))) (pa_cons (pe_tupZ (pa_cons pe_int (pa_cons pe_int pa_nil))) (pa_cons (pe_tupZ (pa_cons pe_int (pa_cons pe_int pa_nil))) pa_nil))))) (nomark _))
          (pw_or1 (pt_cmpR (op_neD hr.units) (pe_k cE hr (ha := pa_cons (pe_tupZ (pa_cons pe_int (pa_cons pe_int pa_nil))) pa_nil)) (pe_tupZ pa_nil) (nomark _))))) (pss_one (ps_ret pe_bl)) pss_nil)
      (pss_one (ps_ret (pe_cmpR (op_eqD hr.units) (pe_k cR hr (ha := pa_cons (pv 3) (pa_cons (pe_tupZ (pa_cons pe_int (pa_cons pe_int (pa_cons pe_int (pa_cons pe_int pa_nil))))) (pa_cons (pe_tupZ (pa_cons pe_int (pa_cons pe_int (pa_cons pe_int (pa_cons pe_int pa_nil))))) pa_nil))))
            (pe_tupZ (pa_cons (pe_tupZ (pa_cons pe_int (pa_cons pe_int pa_nil))) (pa_cons (pe_tupZ (pa_cons pe_int (pa_cons pe_int pa_nil))) pa_nil))) (nomark _)))))))), ?_⟩
    -- the source of draws
    refine ⟨_, rfl, b, ns, rfl, hb, fun a c1 H1 s1 S1 => ?_⟩
    have hb1 : SqA K H1 b (ns.map V.int) := Or.inl (s1.seq hb)
    refine ⟨_, rfl, b, _, rfl, hb1, _, _, rfl, rfl, Or.inr ⟨_, rfl, _, _, rfl, rfl, ?_⟩⟩
    refine ⟨_, rfl, b, _, rfl, hb1, _, _, rfl, rfl, Or.inr ⟨_, rfl, _, _, rfl, rfl, ?_⟩⟩
    have bd : ∀ x y : Bool, -(2 ^ 62) ≤ (1 + (if x = true then (1 : Int) else 0) + (if y = true then (1 : Int) else 0)) ∧ (1 + (if x = true then (1 : Int) else 0) + (if y = true then (1 : Int) else 0)) < 2 ^ 62 := fun x y => by
      cases x <;> cases y <;> exact ⟨by decide, by decide⟩
    refine ⟨_, rfl, (bd _ _).1, (bd _ _).2, ?_⟩
    refine for_it (walk_range (lo := 0)) (fun i σ H' => ∃ (u : Option V), σ = [some (.ref b), some (.ref a), u, none] ∧ Src a c1 H') ⟨none, rfl, S1⟩ (fun _ _ _ _ _ => trivial) ?_ ?_
    · rintro i v σ H2 H3 hi ⟨u, rfl, S2⟩ ⟨rfl, rfl⟩
      refine ⟨_, rfl, _, rfl, by show 8 ≤ sizeLine; decide, fun l hl => ?_⟩
      have s4 := same_new (o := .lst (rowV [5, 6, 4, 6, 5, 3, 2, 1])) hl
      obtain ⟨l1, l2⟩ := S2.off hl
      refine ⟨a, c1, l, rowV [5, 6, 4, 6, 5, 3, 2, 1], rfl, S2.same s4, fun H' k => Or.inl (SqL.of (k _ _ upd_same l1 l2)), by decide, by decide, fun ix v H5 hv k5 S5 => ?_⟩
      obtain ⟨n, hn, rfl⟩ := row_get hv
      have nb : 1 ≤ n ∧ n ≤ 6 := (by decide : ∀ x ∈ [5, 6, 4, 6, 5, 3, 2, 1], 1 ≤ x ∧ x ≤ 6) n (List.mem_of_getElem? hn)
      refine ⟨a, c1, n, rfl, S5, nb.1, nb.2, fun H6 k6 S6 => ⟨true, rfl, ?_⟩⟩
      refine iteF ?_
      refine ⟨_, rfl, a, c1, rfl, S6, fun H7 k7 S7 => ⟨true, rfl, ?_⟩⟩
      refine iteF ?_
      exact ⟨_, rfl, S7⟩
    rintro σ H2 ⟨u, rfl, S2⟩
    -- four
    refine ⟨by show 4 ≤ sizeLine; decide, NewT.use fun nt H3 hnt s3 t3 => ?_⟩
    refine ⟨by show 2 ≤ sizeLine; decide, NewT.use fun q1 H4 hq1 s4 t4 => ?_⟩
    refine ⟨by show 2 ≤ sizeLine; decide, NewT.use fun q2 H5 hq2 s5 t5 => ?_⟩
    refine ⟨by show 2 ≤ sizeLine; decide, NewT.use fun q3 H6 hq3 s6 t6 => ?_⟩
    refine ⟨by show 2 ≤ sizeLine; decide, NewT.use fun q4 H7 hq4 s7 t7 => ?_⟩
    refine ⟨by show 4 ≤ sizeLine; decide, NewT.use fun lt H8 hlt s8 t8 => ?_⟩
    have W : WF (ladTo 1) := wf_of lad1.1
    have u4 : Row H4 q1 [1, 3] := t4
    have u5 : Row H5 q2 [2, 0] := t5
    have u6 : Row H6 q3 [3, 1] := t6
    have u7 : Row H7 q4 [0, 2] := t7
    have rows : All2 (Row H8) [q1, q2, q3, q4] (ladTo 1) := .cons (TpZ.same u4 (s5.trans (s6.trans (s7.trans s8)))) (.cons (TpZ.same u5 (s6.trans (s7.trans s8))) (.cons (TpZ.same u6 (s7.trans s8)) (.cons (TpZ.same u7 s8) .nil)))
    have t3' : TpZ H3 nt (strV zs4) := t3
    refine fun x dx hx hdx dxx => ?_
    have s9 : Same H8 (upd (upd H8 dx (.own x)) x (.ins C dx [])) := fun b o e => by
      rw [upd_ne (ne_of_none e hx), upd_ne (ne_of_none e hdx)]
      exact e
    have s38 := s4.trans (s5.trans (s6.trans (s7.trans s8)))
    refine ⟨x, dx, nt, lt, zs4, [q1, q2, q3, q4], ladTo 1, rfl, upd_same, TpZ.same t3' (s38.trans s9), TpZ.same t8 s9, all2_imp (fun q l r => TpZ.same r s9) rows, W, rfl, by decide, by decide, zs4_asc, zs4_good, fun H9 keep e9 => ⟨rfl, ?_⟩⟩
    have s89 : Same H8 H9 := fun b o e => keep b o (s9 b o e) (ne_of_none e hx)
    have wz : WAt K C H9 x (ladTo 1) := ⟨dx, _, lt, e9, rfl, [q1, q2, q3, q4], Or.inr (TpZ.same t8 s89).sqT, all2_imp (fun q l r => TpZ.same r s89) rows⟩
    have PA : Par (ladTo 1) pA := par1 (by decide)
    have PB : Par (ladTo 1) pB := par1 (by decide)
    have PI : Par (ladTo 1) pI := par1 (by decide)
    -- the first
    refine ⟨_, rfl, by show 4 ≤ sizeLine; decide, NewT.use fun o1 H10 ho1 s10 t10 => ?_⟩
    refine ⟨by show 4 ≤ sizeLine; decide, NewT.use fun o2 H11 ho2 s11 t11 => ?_⟩
    have v10 : Row H10 o1 pA := t10
    have v11 : Row H11 o2 pB := t11
    refine ⟨x, o1, o2, ladTo 1, pA, pB, rfl, wz.same (s10.trans s11), (TpZ.same v10 s11).sqT, v11.sqT, W, PA, PB, by decide, fun R qs H12 s12 hR tR pR => ?_⟩
    rw [risen_AB] at pR
    refine ⟨by show 2 ≤ sizeLine; decide, NewT.use fun g1 H13 hg1 s13 y1 => ?_⟩
    refine ⟨by show 2 ≤ sizeLine; decide, NewT.use fun g2 H14 hg2 s14 y2 => ?_⟩
    refine ⟨by show 2 ≤ sizeLine; decide, NewT.use fun g3 H15 hg3 s15 y3 => ?_⟩
    have z1 : TpZ H13 g1 [natV 1, natV 2] := y1
    have z2 : TpZ H14 g2 [natV 3, natV 0] := y2
    have d15 : Prs H15 [g1, g2] [(1, 2), (3, 0)] := .cons (TpZ.same z1 (s14.trans s15)) (.cons (TpZ.same z2 s15) .nil)
    have S15 := s13.trans (s14.trans s15)
    refine ⟨.tuple ([(1, 2), (3, 0)].map pairD), .tuple ([(1, 2), (3, 0)].map pairD), .tup (TpZ.same tR S15).sqT (prs_dp (pR.same S15)), .tup y3.sqT (prs_dp d15), pairs_shapedT _, pairs_shapedT _, _, rfl, ?_⟩
    rw [eqv_same]
    refine iteF ?_
    -- the second
    have T15 : Same H9 H15 := (s10.trans s11).trans (s12.trans S15)
    refine ⟨_, rfl, by show 4 ≤ sizeLine; decide, NewT.use fun o3 H16 ho3 s16 t16 => ?_⟩
    refine ⟨by show 4 ≤ sizeLine; decide, NewT.use fun o4 H17 ho4 s17 t17 => ?_⟩
    have v16 : Row H16 o3 pI := t16
    have v17 : Row H17 o4 pA := t17
    refine ⟨x, o3, o4, ladTo 1, pI, pA, rfl, wz.same (T15.trans (s16.trans s17)), (TpZ.same v16 s17).sqT, v17.sqT, W, PI, PA, by decide, fun R2 qs2 H18 s18 hR2 tR2 pR2 => ?_⟩
    rw [risen_IA] at pR2
    refine ⟨by show 0 ≤ sizeLine; decide, NewT.use fun g4 H19 hg4 s19 y4 => ?_⟩
    have d19 : Prs H19 [] [] := .nil
    refine ⟨.tuple (([] : List (Nat × Nat)).map pairD), .tuple (([] : List (Nat × Nat)).map pairD), .tup (TpZ.same tR2 s19).sqT (prs_dp (pR2.same s19)), .tup y4.sqT (prs_dp d19), pairs_shapedT _, pairs_shapedT _, _, rfl, ?_⟩
    rw [eqv_same]
    refine iteF ?_
    have T19 : Same H9 H19 := T15.trans ((s16.trans s17).trans (s18.trans s19))
    -- the edges
    refine ⟨by show 4 ≤ sizeLine; decide, NewT.use fun o5 H20 ho5 s20 t20 => ?_⟩
    have v20 : Row H20 o5 pI := t20
    refine ⟨o5, pI, rfl, v20.sqT, pm_of W PI (by decide), fun E1 qs3 H21 s21 hE1 tE1 pE1 => ?_⟩
    have eI : edges pI = [(0, 1), (0, 3), (1, 2), (2, 3)] := by decide +kernel
    rw [eI] at pE1
    refine ⟨by show 2 ≤ sizeLine; decide, NewT.use fun h1 H22 hh1 s22 y5 => ?_⟩
    refine ⟨by show 2 ≤ sizeLine; decide, NewT.use fun h2 H23 hh2 s23 y6 => ?_⟩
    refine ⟨by show 2 ≤ sizeLine; decide, NewT.use fun h3 H24 hh3 s24 y7 => ?_⟩
    refine ⟨by show 2 ≤ sizeLine; decide, NewT.use fun h4 H25 hh4 s25 y8 => ?_⟩
    refine ⟨by show 4 ≤ sizeLine; decide, NewT.use fun h5 H26 hh5 s26 y9 => ?_⟩
    have w5 : TpZ H22 h1 [natV 0, natV 1] := y5
    have w6 : TpZ H23 h2 [natV 0, natV 3] := y6
    have w7 : TpZ H24 h3 [natV 1, natV 2] := y7
    have w8 : TpZ H25 h4 [natV 2, natV 3] := y8
    have d26 : Prs H26 [h1, h2, h3, h4] [(0, 1), (0, 3), (1, 2), (2, 3)] := .cons (TpZ.same w5 (s23.trans (s24.trans (s25.trans s26)))) (.cons (TpZ.same w6 (s24.trans (s25.trans s26))) (.cons (TpZ.same w7 (s25.trans s26)) (.cons (TpZ.same w8 s26) .nil)))
    have S26 := s22.trans (s23.trans (s24.trans (s25.trans s26)))
    refine ⟨.tuple ([(0, 1), (0, 3), (1, 2), (2, 3)].map pairD), .tuple ([(0, 1), (0, 3), (1, 2), (2, 3)].map pairD), .tup (TpZ.same tE1 S26).sqT (prs_dp (pE1.same S26)), .tup y9.sqT (prs_dp d26), pairs_shapedT _, pairs_shapedT _, _, rfl, ?_⟩
    rw [eqv_same]
    refine iteF ?_
    have T26 : Same H9 H26 := T19.trans (s20.trans (s21.trans S26))
    refine ⟨by show 2 ≤ sizeLine; decide, NewT.use fun o6 H27 ho6 s27 t27 => ?_⟩
    have v27 : Row H27 o6 [0, 1] := t27
    refine ⟨o6, [0, 1], rfl, v27.sqT, pm01, fun E2 qs4 H28 s28 hE2 tE2 pE2 => ?_⟩
    have e01 : edges [0, 1] = [] := by decide +kernel
    rw [e01] at pE2
    refine ⟨by show 0 ≤ sizeLine; decide, NewT.use fun g5 H29 hg5 s29 y10 => ?_⟩
    have d29 : Prs H29 [] [] := .nil
    refine ⟨.tuple (([] : List (Nat × Nat)).map pairD), .tuple (([] : List (Nat × Nat)).map pairD), .tup (TpZ.same tE2 s29).sqT (prs_dp (pE2.same s29)), .tup y10.sqT (prs_dp d29), pairs_shapedT _, pairs_shapedT _, _, rfl, ?_⟩
    rw [eqv_same]
    refine iteF ?_
    have T29 : Same H9 H29 := T26.trans (s27.trans (s28.trans s29))
    -- the third
    refine ⟨_, rfl, by show 4 ≤ sizeLine; decide, NewT.use fun o7 H30 ho7 s30 t30 => ?_⟩
    refine ⟨by show 4 ≤ sizeLine; decide, NewT.use fun o8 H31 ho8 s31 t31 => ?_⟩
    have v30 : Row H30 o7 pA := t30
    have v31 : Row H31 o8 pI := t31
    refine ⟨x, o7, o8, ladTo 1, pA, pI, rfl, wz.same (T29.trans (s30.trans s31)), (TpZ.same v30 s31).sqT, v31.sqT, W, PA, PI, by decide, fun R3 qs5 H32 s32 hR3 tR3 pR3 => ?_⟩
    rw [risen_AI] at pR3
    refine ⟨by show 2 ≤ sizeLine; decide, NewT.use fun g6 H33 hg6 s33 y11 => ?_⟩
    refine ⟨by show 2 ≤ sizeLine; decide, NewT.use fun g7 H34 hg7 s34 y12 => ?_⟩
    refine ⟨by show 2 ≤ sizeLine; decide, NewT.use fun g8 H35 hg8 s35 y13 => ?_⟩
    have z11 : TpZ H33 g6 [natV 1, natV 2] := y11
    have z12 : TpZ H34 g7 [natV 3, natV 0] := y12
    have d35 : Prs H35 [g6, g7] [(1, 2), (3, 0)] := .cons (TpZ.same z11 (s34.trans s35)) (.cons (TpZ.same z12 s35) .nil)
    have S35 := s33.trans (s34.trans s35)
    refine ⟨.tuple ([(1, 2), (3, 0)].map pairD), .tuple ([(1, 2), (3, 0)].map pairD), .tup (TpZ.same tR3 S35).sqT (prs_dp (pR3.same S35)), .tup y13.sqT (prs_dp d35), pairs_shapedT _, pairs_shapedT _, ?_⟩
    rw [eqv_same]
    exact hQ _
end
end KL

/-! ## KH1 -/
/-! The head: what stands when the law is called. -/
namespace KH
open PySem PySem.Spec PyProof.Rows L2 KR KM KL
def nms : List (PySem.Str × Nat) := ([("is_integer", 6), ("is_number", 7), ("is_name", 8), ("are_numbers", 9), ("is_ascending", 10), ("are_names", 13), ("is_list", 14), ("before_in", 17), ("rank_in", 18), ("edges_of", 20), ("is_high", 21), ("is_low", 22), ("risen_pairs", 23), ("_law_heap", 25), ("_law_draw", 26), ("_law_pick", 27)] : List (PySem.Str × Nat)) ++
  ([("_law_mixed", 28), ("_law_rings", 29), ("_law_lists", 30), ("_law_wishes", 31), ("_law_rank", 32), ("_law_before", 33), ("_law_lasts", 34), ("_law_every", 35), ("_law_edges", 36), ("_law_risen", 37), ("_law_pair_told", 38), ("_law_halves", 39), ("_law_counts_right", 40), ("_law_case_right", 41), ("_law_ladder_right", 42), ("law", 43)] : List (PySem.Str × Nat))
def mkD (p : PySem.Str × Nat) : He.DefD := ⟨(p.1, none), p.1, p.1, defArgs (top p.2), defBody (top p.2), defScope (top p.2), [], []⟩
def dInit : He.DefD := ⟨("Wishes", some "__init__"), "__init__", "Wishes.__init__", defArgs sInit, defBody sInit, defScope sInit, [], []⟩
def fn : List He.DefD := dInit :: nms.map mkD
def fa0 : List He.Fa := [.glo "Wishes", .cls "Wishes", .noat "Wishes" "names", .noat "Wishes" "lists", .mkr "Wishes", .str "LETTERS" AZ, .int "LONGEST_NAME" 6, .int "MOST_PERSONS" 60,
  .free "len", .free "range", .free "list", .free "int", .free "tuple", .free "sorted", .free "set", .free "min", .free "max", .free "enumerate", .free "isinstance", .free "all", .free "repr", .free "abs", .free "str", .free "bool"]
def fa : List He.Fa := fa0 ++ nms.map fun p => .glo p.1
abbrev R : PySem.W.OpenRow := PySem.W.OpenLaw.row PySem.Challenge.rw_lastpairs_k26_whole_two_partings
abbrev hk : PySem.W.Hook := He.hookD 6 fa fn
def ob (s : PySem.W.SharedT) : He.AlD := He.obsDG 6 fa fn (HandSHeadRun.getT s)
theorem ob_eq (s : PySem.W.SharedT) : ob s = hk.obs s.abs := He.obsDG_eq (HandSHeadRun.getT_eq s)
def loose : List PySem.Str := (["MateError", "InvalidWishes", "LETTERS", "LONGEST_NAME", "is_integer", "is_number", "is_name", "are_numbers", "is_ascending", "MOST_PERSONS", "are_names", "is_list", "Wishes", "before_in", "rank_in", "edges_of", "is_high", "is_low", "risen_pairs"] : List PySem.Str) ++ (["_law_heap", "_law_draw", "_law_pick", "_law_mixed", "_law_rings", "_law_lists", "_law_wishes", "_law_rank", "_law_before", "_law_lasts", "_law_every", "_law_edges", "_law_risen", "_law_pair_told", "_law_halves", "_law_counts_right", "_law_case_right", "_law_ladder_right"] : List PySem.Str)
theorem run (w : World) : HandSHeadRun.RunEq R (PySem.W.view R.prog [43]) hk ob 2000 loose w := by
  intro os
  kernel_rfl
end KH

/-! ## KH2 -/
namespace KH
open PySem PySem.Spec PyProof.Rows L2 KR KM KL
theorem dAt {K : PySem.W.Frag} {h : Heap} {mg : PySem.Str → Option Value} (X : K.In h) (G : h.Ns mainGlobals mg) (c : He.SaysD fa fn K) (k : Nat) {x : PySem.Str} {i : Nat} (e : nms[k]? = some (x, i)) : DefAt K mg x i := by
  have h1 : fn[k + 1]? = some (mkD (x, i)) := by
    show (dInit :: nms.map mkD)[k + 1]? = _
    rw [List.getElem?_cons_succ, List.getElem?_map, e]
    rfl
  have h2 : fa[k + 24]? = some (.glo x) := by
    show (fa0 ++ nms.map fun p => He.Fa.glo p.1)[k + 24]? = _
    rw [List.getElem?_append_right (by show 24 ≤ k + 24; omega)]
    have : k + 24 - fa0.length = k := by
      show k + 24 - 24 = k
      omega
    rw [this, List.getElem?_map, e]
    rfl
  obtain ⟨fd, F⟩ := c.def_ (k + 1) h1
  exact ⟨He.ga K x, fd, F, He.glo_ok X G (c.fact (k + 24) h2)⟩
theorem facts {P : Program} {w : World} {K : PySem.W.Frag} {h : Heap} {mg : PySem.Str → Option Value} (X : K.In h) (G : h.Ns mainGlobals mg) (c : He.SaysD fa fn K) (base : Heap) : CallG P w K mg base 9 "law" ["_law_script"] (spLaw K) := by
  have fr : ∀ (j : Nat) {x : PySem.Str}, fa[j]? = some (.free x) → mg x = none := fun j x e => He.free_ok X G (c.fact j e)
  have T : Tx mg := ⟨fr 8 rfl, fr 9 rfl, fr 10 rfl, fr 11 rfl, fr 12 rfl, fr 13 rfl, fr 14 rfl, fr 15 rfl, fr 16 rfl, fr 17 rfl, fr 18 rfl, fr 19 rfl, fr 20 rfl, fr 21 rfl⟩
  have CN : Cn mg := by
    refine ⟨?_, ?_, ?_, fr 22 rfl, fr 23 rfl⟩
    · obtain ⟨t, e⟩ := He.str_ok X G (c.fact 5 (f := .str "LETTERS" AZ) rfl)
      exact ⟨_, e, t, rfl⟩
    · obtain ⟨t, e⟩ := He.int_ok X G (c.fact 6 (f := .int "LONGEST_NAME" 6) rfl)
      exact ⟨_, e, t, rfl⟩
    · obtain ⟨t, e⟩ := He.int_ok X G (c.fact 7 (f := .int "MOST_PERSONS" 60) rfl)
      exact ⟨_, e, t, rfl⟩
  have C : Wc K (He.ga K "Wishes") := ⟨He.cls_ok (c.fact 1 (f := .cls "Wishes") rfl), He.noat_ok (c.fact 2 (f := .noat "Wishes" "names") rfl), He.noat_ok (c.fact 3 (f := .noat "Wishes" "lists") rfl)⟩
  have DI : IniAt K mg (He.ga K "Wishes") := by
    obtain ⟨fd, F⟩ := c.def_ 0 (d := dInit) rfl
    exact ⟨⟨_, fd, F, He.mkr_ok (c.fact 4 (f := .mkr "Wishes") rfl)⟩, He.glo_ok X G (c.fact 0 (f := .glo "Wishes") rfl)⟩
  have D : ∀ (k : Nat) {x : PySem.Str} {i : Nat}, nms[k]? = some (x, i) → DefAt K mg x i := fun k {x i} e => dAt X G c k e
  -- the checks
  have kInt : Call P w K mg base 1 "is_integer" ["value"] spIsInt := ok_isInt T CN (D 0 rfl)
  have kNum : Call P w K mg base 2 "is_number" ["value"] spIsNum := ok_isNum (D 1 rfl) kInt
  have kName : Call P w K mg base 1 "is_name" ["value"] spIsName := ok_isName T CN (D 2 rfl)
  have kNums : Call P w K mg base 3 "are_numbers" ["value"] spAreNums := ok_areNums T (D 3 rfl) kNum
  have kAsc : Call P w K mg base 1 "is_ascending" ["items"] spIsAsc := ok_isAsc T (D 4 rfl)
  have kNames : Call P w K mg base 2 "are_names" ["value"] spAreNames := ok_areNames T CN (D 5 rfl) kName kAsc
  have kList : Call P w K mg base 4 "is_list" ["value", "person", "many"] spIsList := ok_isList T (D 6 rfl) kNums
  have kInit : CallM P w K mg base 5 (He.ga K "Wishes") ["self", "names", "lists"] (spInit K (He.ga K "Wishes")) := ok_init T C DI kNames kList
  -- the program
  have kBi : Call P w K mg base 1 "before_in" ["parting"] (spBeforeIn K) := ok_before_in T (D 7 rfl)
  have kRi : Call P w K mg base 1 "rank_in" ["wishes", "person", "other"] (spRankIn K (He.ga K "Wishes")) := ok_rank_in T C (D 8 rfl)
  have kEo : Call P w K mg base 1 "edges_of" ["parting"] (spEdgesOf K) := ok_edges_of T (D 9 rfl)
  have kHi : Call P w K mg base 2 "is_high" ["wishes", "parting", "one", "other"] (spHigh K (He.ga K "Wishes")) := ok_high T (D 10 rfl) kRi
  have kLo : Call P w K mg base 2 "is_low" ["wishes", "before", "one", "other"] (spLow K (He.ga K "Wishes")) := ok_low T (D 11 rfl) kRi
  have kRp : Call P w K mg base 3 "risen_pairs" ["wishes", "one", "other"] (spRisenPairs K (He.ga K "Wishes")) := ok_risen_pairs T (D 12 rfl) kBi kEo kHi kLo
  -- the law's own
  have kHeap : Call P w K mg base 1 "_law_heap" ["_law_script"] (spHeap K) := ok_heap T (D 13 rfl)
  have kDraw : Call P w K mg base 1 "_law_draw" ["_law_heap_here", "_law_many"] spDraw := ok_draw T (D 14 rfl)
  have kPick : Call P w K mg base 2 "_law_pick" ["_law_heap_here", "_law_some"] (spPick K) := ok_pick T (D 15 rfl) kDraw
  have kMix : Call P w K mg base 2 "_law_mixed" ["_law_heap_here", "_law_some"] (spMixed K) := ok_mixed T (D 16 rfl) kDraw
  have kRings : Call P w K mg base 3 "_law_rings" ["_law_heap_here", "_law_many"] spRings := ok_rings T (D 17 rfl) kMix kPick
  have kLists : Call P w K mg base 4 "_law_lists" ["_law_heap_here", "_law_many"] spLists := ok_lists T (D 18 rfl) kDraw kPick kMix kRings
  have kWishes : Call P w K mg base 7 "_law_wishes" ["_law_heap_here", "_law_lists_here"] (spWishes (He.ga K "Wishes")) := ok_wishes T (D 19 rfl) kDraw kInit
  have kRank : Call P w K mg base 1 "_law_rank" ["_law_lists_here", "_law_person", "_law_other"] (spRank K) := ok_rank T (D 20 rfl)
  have kBef : Call P w K mg base 1 "_law_before" ["_law_parting"] (spBefore K) := ok_before T (D 21 rfl)
  have kLasts : Call P w K mg base 2 "_law_lasts" ["_law_lists_here", "_law_parting"] (spLasts K) := ok_lasts T (D 22 rfl) kRank kBef
  have kEvery : Call P w K mg base 1 "_law_every" ["_law_lists_here"] (spEvery K) := ok_every T (D 23 rfl)
  have kEdges : Call P w K mg base 1 "_law_edges" ["_law_parting"] (spEdges K) := ok_edges T (D 24 rfl)
  have kRisen : Call P w K mg base 2 "_law_risen" ["_law_lists_here", "_law_one", "_law_other"] (spRisen K) := ok_risen T (D 25 rfl) kBef kEdges kRank
  have kTold : CallG P w K mg base 4 "_law_pair_told" ["_law_wishes_here", "_law_lists_here", "_law_one", "_law_other"] (spTold K (He.ga K "Wishes")) := ok_told T (D 26 rfl) (D 12 rfl) (D 9 rfl) kRp kEo kRisen kEdges
  have kHalves : Call P w K mg base 1 "_law_halves" ["_law_parting", "_law_one", "_law_other"] (spHalves K) := ok_halves T (D 27 rfl)
  have kCounts : Call P w K mg base 3 "_law_counts_right" ["_law_lists_here", "_law_one", "_law_other"] (spCounts K) := ok_counts T (D 28 rfl) kRisen kEdges kHalves
  have kCase : CallG P w K mg base 8 "_law_case_right" ["_law_heap_here", "_law_many"] spCase := ok_case T (D 29 rfl) kPick kLists kWishes kEvery kLasts kTold kCounts
  have kLadder : CallG P w K mg base 8 "_law_ladder_right" ["_law_heap_here"] spLadder := ok_ladder T (D 30 rfl) kDraw kPick kWishes kLasts kTold kCounts
  exact ok_law T C (D 31 rfl) kHeap kPick kCase kLadder kInit kRp kEo
theorem atLaw {P : Program} {w : World} {K : PySem.W.Frag} {h : Heap} {mg : PySem.Str → Option Value} {f : Addr} (X : K.In h) (G : h.Ns mainGlobals mg) (hfa : mg ("law" : PySem.Str) = some (.ref f)) (c : He.SaysD fa fn K) :
    ∃ fd : FuncData, (∀ (s : Shared) (v : Value), BindsTo s fd ⟨[v], []⟩ [("_law_script", v)]) ∧ ∀ base : Heap, K.In base → base.Ns mainGlobals mg → FnG P w K mg base CX0 9 f fd ["_law_script"] (spLaw K) := by
  obtain ⟨f', fd, F, hm⟩ := (dAt X G c 31 (x := "law") (i := 43) rfl).ex
  have e := hfa.symm.trans hm
  injection e with e
  injection e with e
  subst e
  have b := FunD.bindsA (ps := ["_law_script"]) F fun _ _ _ _ _ _ us hl => match us, hl with | [_], _ => rfl
  refine ⟨fd, fun s v => b s [v] rfl, fun base _ _ => ?_⟩
  obtain ⟨f2, fd2, F2, hm2, _, _, oc, od, osl, lk⟩ := (facts (P := P) (w := w) X G c base).ex
  have e := hfa.symm.trans hm2
  injection e with e
  injection e with e
  subst e
  obtain ⟨oc', od', dV, kV, doc, pm, an, cdv, ct, osl', _, lk', _⟩ := F.ex
  rw [lk] at lk'
  injection lk' with z
  injection z with _ _ z _
  injection z with z
  subst z
  exact F2
end KH
open PySem PySem.W PySem.Calls PyProof.Rows
theorem PySem.Challenge.cw_lastpairs_k26_whole_two_partings_holds : PySem.Challenge.rw_lastpairs_k26_whole_two_partings.Holds := by
  w_on; o_law
  refine HandSHeadRun.head_any (r := OpenLaw.row PySem.Challenge.rw_lastpairs_k26_whole_two_partings) (q := view (OpenLaw.row PySem.Challenge.rw_lastpairs_k26_whole_two_partings).prog [43]) (H := KH.hk) (ob := KH.ob) (M := 2000) (loose := KH.loose)
    (d := HandSHeadRun.topDef (OpenLaw.row PySem.Challenge.rw_lastpairs_k26_whole_two_partings).prog 43) (kwd := []) KH.ob_eq
    (by kernel_rfl) (fun s => by kernel_rfl) KH.run (by kernel_rfl) (by kernel_rfl) (by kernel_rfl) (by rfl) (by first | assumption | decide +kernel) (by decide +kernel) ⟨rfl, rfl, rfl, rfl, rfl, by decide +kernel⟩ ?hw ?hc
  case hw => w_witness2
  case hc =>
    refine KR.walk_G (l := PySem.Challenge.rw_lastpairs_k26_whole_two_partings) (n := 63) (k := 9) (x := "_law_script") rfl (by decide) (by kernel_rfl) ⟨rfl, by decide, by decide⟩ ?F
    intro w mg fa h Y G hmg0
    obtain ⟨K, KX, c⟩ := Y
    have hmg : mg ("law" : PySem.Str) = some (.ref fa) := by
      have e : (HandSHeadRun.topDef (OpenLaw.row PySem.Challenge.rw_lastpairs_k26_whole_two_partings).prog 43).name = ("law" : PySem.Str) := by kernel_rfl
      rw [← e]
      exact hmg0
    obtain ⟨fd, hb, hF⟩ := KH.atLaw (P := (PySem.Challenge.rw_lastpairs_k26_whole_two_partings).prog) (w := w) KX G hmg c
    exact ⟨K, fd, KL.spLaw K, KX, hb, fun H a ns hl _ hS => ⟨a, ns, rfl, hS, fun _ => rfl⟩, hF⟩
