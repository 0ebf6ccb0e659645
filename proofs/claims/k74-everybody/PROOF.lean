import PyProof.Rows.All
import Wide.All
import OpenK.AllK
import Wide.FinOn
import HandS.ForMost
import HandS.Style
import HandS.TupSets
import HandS.TupAny
import HandS.Conv
import HandS.SetFor
import HandS.Strs
import HandS.IsInst
import HandS.Deep
import HandS.CallRecv
import PySem.Challenge.RW_hiddenforks_k74_whole_everybody
set_option Elab.async false
set_option linter.all false
set_option maxRecDepth 100000
set_option maxHeartbeats 4000000
namespace K74

/-! ## counting -/
noncomputable def ind (P : Prop) : Nat := @ite Nat P (Classical.propDecidable P) 1 0
theorem ind_t {P : Prop} (h : P) : ind P = 1 := by unfold ind; exact if_pos h
theorem ind_f {P : Prop} (h : ¬ P) : ind P = 0 := by unfold ind; exact if_neg h
theorem ind_le1 (P : Prop) : ind P ≤ 1 := by
  by_cases h : P
  · rw [ind_t h]; exact Nat.le_refl 1
  · rw [ind_f h]; exact Nat.zero_le 1
theorem ind_mono {P Q : Prop} (h : P → Q) : ind P ≤ ind Q := by
  by_cases hp : P
  · rw [ind_t hp, ind_t (h hp)]; exact Nat.le_refl 1
  · rw [ind_f hp]; exact Nat.zero_le _

def sm (f : Nat → Nat) : Nat → Nat
  | 0 => 0
  | k + 1 => sm f k + f k
theorem sm_le {f g : Nat → Nat} : ∀ k, (∀ i, i < k → f i ≤ g i) → sm f k ≤ sm g k
  | 0, _ => Nat.le_refl 0
  | k + 1, h => Nat.add_le_add (sm_le k fun i hi => h i (by omega)) (h k (by omega))
theorem sm_eq {f g : Nat → Nat} (k : Nat) (h : ∀ i, i < k → f i = g i) : sm f k = sm g k :=
  Nat.le_antisymm (sm_le k fun i hi => Nat.le_of_eq (h i hi)) (sm_le k fun i hi => Nat.le_of_eq (h i hi).symm)
theorem sm_add (f g : Nat → Nat) : ∀ k, sm (fun i => f i + g i) k = sm f k + sm g k
  | 0 => rfl
  | k + 1 => by
    show sm (fun i => f i + g i) k + (f k + g k) = (sm f k + f k) + (sm g k + g k)
    rw [sm_add f g k]; omega
theorem sm_const (c : Nat) : ∀ k, sm (fun _ => c) k = k * c
  | 0 => by show 0 = 0 * c; rw [Nat.zero_mul]
  | k + 1 => by show sm (fun _ => c) k + c = (k + 1) * c; rw [sm_const c k, Nat.succ_mul]
theorem sm_mul (c : Nat) (f : Nat → Nat) : ∀ k, sm (fun i => c * f i) k = c * sm f k
  | 0 => rfl
  | k + 1 => by show sm (fun i => c * f i) k + c * f k = c * (sm f k + f k); rw [sm_mul c f k, Nat.mul_add]
theorem sm_zero {f : Nat → Nat} (k : Nat) (h : ∀ i, i < k → f i = 0) : sm f k = 0 := by
  rw [sm_eq k (g := fun _ => 0) h, sm_const]; omega
theorem sm_swap (f : Nat → Nat → Nat) (l : Nat) : ∀ k, sm (fun i => sm (f i) l) k = sm (fun j => sm (fun i => f i j) k) l
  | 0 => by
    show 0 = sm (fun j => 0) l
    rw [sm_const]; omega
  | k + 1 => by
    show sm (fun i => sm (f i) l) k + sm (f k) l = sm (fun j => sm (fun i => f i j) k + f k j) l
    rw [sm_swap f l k, sm_add]
theorem sm_ge {f : Nat → Nat} : ∀ k i, i < k → f i ≤ sm f k
  | k + 1, i, h => by
    show f i ≤ sm f k + f k
    by_cases e : i = k
    · subst e; omega
    · have := sm_ge (f := f) k i (by omega); omega
theorem sm_ge2 {f : Nat → Nat} : ∀ k i j, i < k → j < k → i ≠ j → f i + f j ≤ sm f k
  | k + 1, i, j, hi, hj, ne => by
    show f i + f j ≤ sm f k + f k
    by_cases e : i = k
    · subst e
      have := sm_ge (f := f) i j (by omega); omega
    · by_cases e2 : j = k
      · subst e2
        have := sm_ge (f := f) j i (by omega); omega
      · have := sm_ge2 (f := f) k i j (by omega) (by omega) ne; omega
/-- the support of f is in {a} -/
theorem sm_one {f : Nat → Nat} (a : Nat) : ∀ k, (∀ i, i < k → i ≠ a → f i = 0) → sm f k ≤ f a
  | 0, _ => Nat.zero_le _
  | k + 1, h => by
    show sm f k + f k ≤ f a
    by_cases e : k = a
    · subst e
      rw [sm_zero k fun i hi => h i (by omega) (by omega)]; omega
    · rw [h k (by omega) e]
      have := sm_one a k fun i hi ne => h i (by omega) ne
      omega
/-- the support of f is in {a, b} -/
theorem sm_two {f : Nat → Nat} (a b : Nat) : ∀ k, (∀ i, i < k → i ≠ a → i ≠ b → f i = 0) → sm f k ≤ f a + f b
  | 0, _ => Nat.zero_le _
  | k + 1, h => by
    show sm f k + f k ≤ f a + f b
    by_cases e : k = a
    · subst e
      have := sm_one (f := f) b k fun i hi ne => h i (by omega) (by omega) ne
      omega
    · by_cases e2 : k = b
      · subst e2
        have := sm_one (f := f) a k fun i hi ne => h i (by omega) ne (by omega)
        omega
      · rw [h k (by omega) e e2]
        have := sm_two a b k fun i hi ne ne2 => h i (by omega) ne ne2
        omega
/-- at most one is not zero, and that is at most 1 -/
theorem sm_ind1 {P : Nat → Prop} (k : Nat) (h : ∀ i j, i < k → j < k → P i → P j → i = j) : sm (fun i => ind (P i)) k ≤ 1 := by
  by_cases e : ∃ i, i < k ∧ P i
  · obtain ⟨a, ha, pa⟩ := e
    have := sm_one (f := fun i => ind (P i)) a k fun i hi ne => ind_f fun pi => ne (h i a hi ha pi pa)
    have := ind_le1 (P a)
    omega
  · rw [sm_zero k fun i hi => ind_f fun pi => e ⟨i, hi, pi⟩]; omega
theorem sm_exP {P : Nat → Prop} {k i : Nat} (hi : i < k) (h : P i) : 1 ≤ sm (fun i => ind (P i)) k := by
  have := sm_ge (f := fun i => ind (P i)) k i hi
  have e : ind (P i) = 1 := ind_t h
  have this2 : ind (P i) ≤ sm (fun i => ind (P i)) k := this
  omega
theorem sm_pos {P : Nat → Prop} : ∀ {k : Nat}, 0 < sm (fun i => ind (P i)) k → ∃ i, i < k ∧ P i
  | 0, h => absurd h (Nat.lt_irrefl 0)
  | k + 1, h => by
    by_cases e : P k
    · exact ⟨k, by omega, e⟩
    · have h2 : 0 < sm (fun i => ind (P i)) k + ind (P k) := h
      rw [ind_f e] at h2
      obtain ⟨i, hi, pi⟩ := sm_pos (k := k) (by omega)
      exact ⟨i, by omega, pi⟩
theorem sm_none {P : Nat → Prop} {k i : Nat} (h : sm (fun i => ind (P i)) k = 0) (hi : i < k) : ¬ P i := fun p => by
  have := sm_exP (P := P) hi p
  omega

/-! ## schemes of calls -/
structure Sch where
  m : Nat
  n : Nat
  a : Nat → Nat
  b : Nat → Nat
  lt : Nat → Nat → Prop
  irr : ∀ i, ¬ lt i i
  tr : ∀ {i j k}, lt i j → lt j k → lt i k
  tot : ∀ i j, i ≠ j → lt i j ∨ lt j i
  mn : ∀ P : Nat → Prop, (∃ i, i < m ∧ P i) → ∃ i, i < m ∧ P i ∧ ∀ j, j < m → P j → ¬ lt j i
  mx : ∀ P : Nat → Prop, (∃ i, i < m ∧ P i) → ∃ i, i < m ∧ P i ∧ ∀ j, j < m → P j → ¬ lt i j
  ha : ∀ i, i < m → a i < n ∧ b i < n ∧ a i ≠ b i

namespace Sch
variable (S : Sch)
def inC (p i : Nat) : Prop := p = S.a i ∨ p = S.b i
def Step (i j : Nat) : Prop := i < S.m ∧ j < S.m ∧ S.lt i j ∧ ∃ p, S.inC p i ∧ S.inC p j
inductive Le : Nat → Nat → Prop
  | refl {i : Nat} : i < S.m → Le i i
  | tail {i j k : Nat} : Le i j → S.Step j k → Le i k
variable {S}
theorem Le.lt_right {i j : Nat} (h : S.Le i j) : j < S.m := by
  cases h with
  | refl h => exact h
  | tail _ s => exact s.2.1
theorem Le.lt_left {i j : Nat} (h : S.Le i j) : i < S.m := by
  induction h with
  | refl h => exact h
  | tail _ _ ih => exact ih
theorem Le.trans {i j k : Nat} (h : S.Le i j) (h2 : S.Le j k) : S.Le i k := by
  induction h2 with
  | refl _ => exact h
  | tail _ s ih => exact .tail ih s
theorem Le.one {i j : Nat} (h : S.Step i j) : S.Le i j := .tail (.refl h.1) h
theorem Le.eq_or_lt {i j : Nat} (h : S.Le i j) : i = j ∨ S.lt i j := by
  induction h with
  | refl _ => exact .inl rfl
  | tail _ s ih => exact .inr (ih.elim (fun e => e ▸ s.2.2.1) fun l => S.tr l s.2.2.1)
theorem Le.antisymm {i j : Nat} (h : S.Le i j) (h2 : S.Le j i) : i = j := by
  rcases h.eq_or_lt with e | l
  · exact e
  · rcases h2.eq_or_lt with e | l2
    · exact e.symm
    · exact absurd (S.tr l l2) (S.irr i)
theorem Le.not_lt {i j : Nat} (h : S.Le i j) : ¬ S.lt j i := fun l => by
  rcases h.eq_or_lt with e | l2
  · subst e; exact S.irr _ l
  · exact S.irr _ (S.tr l l2)
/-- the first step -/
theorem Le.head {i j : Nat} (h : S.Le i j) : i = j ∨ ∃ k, S.Step i k ∧ S.Le k j := by
  induction h with
  | refl _ => exact .inl rfl
  | @tail j k h s ih =>
    rcases ih with e | ⟨x, s1, l⟩
    · subst e; exact .inr ⟨k, s, .refl s.2.1⟩
    · exact .inr ⟨x, s1, .tail l s⟩
/-- the last step -/
theorem Le.last {i j : Nat} (h : S.Le i j) : i = j ∨ ∃ k, S.Le i k ∧ S.Step k j := by
  cases h with
  | refl _ => exact .inl rfl
  | tail h s => exact .inr ⟨_, h, s⟩
/-- two calls of one person -/
theorem Le.same {p i j : Nat} (hi : i < S.m) (hj : j < S.m) (pi : S.inC p i) (pj : S.inC p j) (h : ¬ S.lt j i) : S.Le i j := by
  by_cases e : i = j
  · subst e; exact .refl hi
  · rcases S.tot i j e with l | l
    · exact .one ⟨hi, hj, l, p, pi, pj⟩
    · exact absurd l h
theorem inC_lt {p i : Nat} (hi : i < S.m) (h : S.inC p i) : p < S.n := by
  rcases h with e | e
  · rw [e]; exact (S.ha i hi).1
  · rw [e]; exact (S.ha i hi).2.1

/-! ### the dual -/
def dual (S : Sch) : Sch where
  m := S.m
  n := S.n
  a := S.a
  b := S.b
  lt := fun i j => S.lt j i
  irr := S.irr
  tr := fun h h2 => S.tr h2 h
  tot := fun i j ne => (S.tot i j ne).symm
  mn := S.mx
  mx := S.mn
  ha := S.ha
theorem step_dual {i j : Nat} (h : S.Step i j) : S.dual.Step j i := by
  obtain ⟨hi, hj, l, p, pi, pj⟩ := h
  exact ⟨hj, hi, l, p, pj, pi⟩
theorem le_dual {i j : Nat} (h : S.Le i j) : S.dual.Le j i := by
  induction h with
  | refl h => exact .refl (S := S.dual) h
  | tail _ s ih => exact Le.trans (Le.one (step_dual s)) ih
theorem dual_dual : S.dual.dual = S := rfl
theorem le_dual' {i j : Nat} (h : S.dual.Le i j) : S.Le j i := le_dual (S := S.dual) h

/-! ### who hears of whom -/
variable (S)
def Comp : Prop := ∀ p q, p < S.n → q < S.n → ∃ i j, S.inC p i ∧ S.inC q j ∧ S.Le i j
/-- a call behind which all hear of it -/
def Out (i : Nat) : Prop := i < S.m ∧ ∀ q, q < S.n → ∃ j, S.inC q j ∧ S.Le i j
/-- a call that hears of all -/
def Inn (j : Nat) : Prop := j < S.m ∧ ∀ p, p < S.n → ∃ i, S.inC p i ∧ S.Le i j
/-- both knew already -/
def Mg (v j : Nat) : Prop := j ≠ v ∧ S.Le v j ∧ ∀ p, S.inC p j → ∃ i, S.lt i j ∧ S.Le v i ∧ S.inC p i
def Sp (h j : Nat) : Prop := j ≠ h ∧ S.Le j h ∧ ∀ p, S.inC p j → ∃ i, S.lt j i ∧ S.Le i h ∧ S.inC p i
variable {S}
theorem comp_dual (h : S.Comp) : S.dual.Comp := fun p q hp hq => by
  obtain ⟨i, j, a, b, l⟩ := h q p hq hp
  exact ⟨j, i, b, a, le_dual l⟩
theorem out_dual {i : Nat} (h : S.Out i) : S.dual.Inn i := ⟨h.1, fun q hq => by
  obtain ⟨j, a, l⟩ := h.2 q hq
  exact ⟨j, a, le_dual l⟩⟩
theorem inn_dual {i : Nat} (h : S.Inn i) : S.dual.Out i := ⟨h.1, fun q hq => by
  obtain ⟨j, a, l⟩ := h.2 q hq
  exact ⟨j, a, le_dual l⟩⟩
theorem mg_dual {h j : Nat} (x : S.Sp h j) : S.dual.Mg h j := ⟨x.1, le_dual x.2.1, fun p hp => by
  obtain ⟨i, l, a, b⟩ := x.2.2 p hp
  exact ⟨i, l, le_dual a, b⟩⟩
theorem out_down {i j : Nat} (h : S.Le i j) (o : S.Out j) : S.Out i := ⟨h.lt_left, fun q hq => by
  obtain ⟨k, a, l⟩ := o.2 q hq
  exact ⟨k, a, h.trans l⟩⟩
theorem inn_up {i j : Nat} (h : S.Le i j) (o : S.Inn i) : S.Inn j := ⟨h.lt_right, fun q hq => by
  obtain ⟨k, a, l⟩ := o.2 q hq
  exact ⟨k, a, l.trans h⟩⟩

/-! ### the count (1) -/
theorem count_out {v : Nat} (hv : S.Out v) :
    S.n + sm (fun j => ind (S.Mg v j)) S.m ≤ sm (fun j => ind (S.Le v j)) S.m + 1 := by
  let Ph : Nat → Nat → Prop := fun p j => S.Le v j ∧ S.inC p j ∧ ∀ i, i < S.m → (S.Le v i ∧ S.inC p i) → ¬ S.lt i j
  have h1 : S.n ≤ sm (fun p => sm (fun j => ind (Ph p j)) S.m) S.n := by
    have e : sm (fun _ => 1) S.n = S.n := by rw [sm_const]; omega
    rw [← e]
    have hle : sm (fun _ => 1) S.n ≤ sm (fun p => sm (fun j => ind (Ph p j)) S.m) S.n := by
      refine sm_le _ fun p hp => ?_
      obtain ⟨j, hj, l⟩ := hv.2 p hp
      obtain ⟨i, hi, ⟨l1, l2⟩, l3⟩ := S.mn (fun i => S.Le v i ∧ S.inC p i) ⟨j, l.lt_right, l, hj⟩
      exact sm_exP (P := fun j => Ph p j) hi ⟨l1, l2, l3⟩
    rw [e] at hle ⊢
    exact hle
  rw [sm_swap] at h1
  have h2 : sm (fun j => sm (fun p => ind (Ph p j)) S.n + ind (S.Mg v j)) S.m ≤ sm (fun j => ind (S.Le v j) + ind (j = v)) S.m := by
    refine sm_le _ fun j hj => ?_
    show sm (fun p => ind (Ph p j)) S.n + ind (S.Mg v j) ≤ ind (S.Le v j) + ind (j = v)
    have sup : sm (fun p => ind (Ph p j)) S.n ≤ ind (Ph (S.a j) j) + ind (Ph (S.b j) j) :=
      sm_two (f := fun p => ind (Ph p j)) (S.a j) (S.b j) S.n fun p hp n1 n2 => ind_f fun h => h.2.1.elim n1 n2
    by_cases ev : j = v
    · rw [ind_t ev, ind_f (P := S.Mg v j) fun h => h.1 ev, ind_t (P := S.Le v j) (by rw [ev]; exact .refl hv.1)]
      have := ind_le1 (Ph (S.a j) j)
      have := ind_le1 (Ph (S.b j) j)
      omega
    · rw [ind_f ev]
      by_cases lv : S.Le v j
      · rw [ind_t lv]
        by_cases mg : S.Mg v j
        · rw [ind_t mg]
          have z : ∀ p, S.inC p j → ind (Ph p j) = 0 := fun p hp => ind_f fun h => by
            obtain ⟨i, l, l2, l3⟩ := mg.2.2 p hp
            exact h.2.2 i l2.lt_right ⟨l2, l3⟩ l
          have := z _ (.inl rfl)
          have := z _ (.inr rfl)
          omega
        · rw [ind_f mg]
          have z : ∃ p, S.inC p j ∧ ind (Ph p j) = 0 := by
            rcases lv.last with e | ⟨k, l, s⟩
            · exact absurd e.symm ev
            · obtain ⟨_, _, lt, p, pk, pj⟩ := s
              exact ⟨p, pj, ind_f fun h => h.2.2 k l.lt_right ⟨l, pk⟩ lt⟩
          obtain ⟨p, pj, ez⟩ := z
          have := ind_le1 (Ph (S.a j) j)
          have := ind_le1 (Ph (S.b j) j)
          rcases pj with e | e
          · rw [e] at ez; omega
          · rw [e] at ez; omega
      · rw [ind_f (P := S.Mg v j) fun h => lv h.2.1, ind_f lv]
        have z : ∀ p, ind (Ph p j) = 0 := fun p => ind_f fun h => lv h.1
        have := z (S.a j)
        have := z (S.b j)
        omega
  rw [sm_add, sm_add] at h2
  have h3 : sm (fun j => ind (j = v)) S.m ≤ 1 := sm_ind1 S.m fun i j _ _ e e2 => e.trans e2.symm
  omega
theorem le_dual_iff {i j : Nat} : S.dual.Le i j ↔ S.Le j i := ⟨le_dual', le_dual⟩
theorem mg_dual_iff {h j : Nat} : S.dual.Mg h j ↔ S.Sp h j := by
  refine ⟨fun x => ⟨x.1, le_dual' x.2.1, fun p hp => ?_⟩, mg_dual⟩
  obtain ⟨i, l, a, b⟩ := x.2.2 p hp
  exact ⟨i, l, le_dual' a, b⟩
theorem count_inn {h : Nat} (hh : S.Inn h) :
    S.n + sm (fun j => ind (S.Sp h j)) S.m ≤ sm (fun j => ind (S.Le j h)) S.m + 1 := by
  have x := count_out (S := S.dual) (inn_dual hh)
  have e1 : sm (fun j => ind (S.dual.Mg h j)) S.m = sm (fun j => ind (S.Sp h j)) S.m :=
    sm_eq _ fun i _ => by rw [show S.dual.Mg h i ↔ S.Sp h i from mg_dual_iff]
  have e2 : sm (fun j => ind (S.dual.Le h j)) S.m = sm (fun j => ind (S.Le j h)) S.m :=
    sm_eq _ fun i _ => by rw [show S.dual.Le h i ↔ S.Le i h from le_dual_iff]
  have x' : S.n + sm (fun j => ind (S.dual.Mg h j)) S.m ≤ sm (fun j => ind (S.dual.Le h j)) S.m + 1 := x
  rw [e1, e2] at x'
  exact x'

/-! ### the count (2) -/
theorem count_J {v h : Nat} (hv : S.Out v) (hh : S.Inn h) :
    2 * S.n + sm (fun j => ind (S.Mg v j)) S.m + sm (fun j => ind (S.Sp h j)) S.m + sm (fun j => ind (¬ S.Le v j ∧ ¬ S.Le j h)) S.m
      ≤ S.m + 2 + sm (fun j => ind (S.Le v j ∧ S.Le j h)) S.m := by
  have a := count_out hv
  have b := count_inn hh
  have e : sm (fun j => (ind (S.Le v j) + ind (S.Le j h)) + ind (¬ S.Le v j ∧ ¬ S.Le j h)) S.m
      = sm (fun j => 1 + ind (S.Le v j ∧ S.Le j h)) S.m := by
    refine sm_eq _ fun j _ => ?_
    by_cases x : S.Le v j
    · by_cases y : S.Le j h
      · rw [ind_t x, ind_t y, ind_f fun z => z.1 x, ind_t ⟨x, y⟩]
      · rw [ind_t x, ind_f y, ind_f fun z => z.1 x, ind_f fun z => y z.2]
    · by_cases y : S.Le j h
      · rw [ind_f x, ind_t y, ind_f fun z => z.2 y, ind_f fun z => x z.1]
      · rw [ind_f x, ind_f y, ind_t ⟨x, y⟩, ind_f fun z => x z.1]
  rw [sm_add, sm_add, sm_add, sm_const] at e
  omega

/-! ### four in a ring -/
variable (S)
def Edge (p q : Nat) : Prop := ∃ i, i < S.m ∧ S.inC p i ∧ S.inC q i ∧ p ≠ q
def Ring : Prop := ∃ p q r s, S.Edge p q ∧ S.Edge q r ∧ S.Edge r s ∧ S.Edge s p ∧ p ≠ r ∧ q ≠ s
variable {S}
theorem ring_dual (h : S.dual.Ring) : S.Ring := h
theorem other {p i : Nat} (hi : i < S.m) (h : S.inC p i) : ∃ q, S.inC q i ∧ q ≠ p ∧ ∀ x, S.inC x i → x = p ∨ x = q := by
  rcases h with e | e
  · exact ⟨S.b i, .inr rfl, fun z => (S.ha i hi).2.2 (e ▸ z.symm), fun x hx => hx.elim (fun z => .inl (z.trans e.symm)) .inr⟩
  · exact ⟨S.a i, .inl rfl, fun z => (S.ha i hi).2.2 (e ▸ z), fun x hx => hx.elim .inr (fun z => .inl (z.trans e.symm))⟩

/-! ### (A) -/
theorem caseA {v h : Nat} (cp : S.Comp) (hvh : S.Le v h) (ne : v ≠ h)
    (J : ∀ j, S.Le v j → S.Le j h → j = v ∨ j = h)
    (nc : ∀ j, j < S.m → S.Le v j ∨ S.Le j h) (nM : ∀ j, ¬ S.Mg v j) (nS : ∀ j, ¬ S.Sp h j) : S.Ring := by
  have hv := hvh.lt_left
  have hh := hvh.lt_right
  have lvh : S.lt v h := hvh.eq_or_lt.resolve_left ne
  obtain ⟨s, sv, sh⟩ : ∃ s, S.inC s v ∧ S.inC s h := by
    rcases hvh.last with e | ⟨k, l, st⟩
    · exact absurd e ne
    · rcases J k l (.one st) with e | e
      · subst e; exact st.2.2.2
      · subst e; exact absurd st.2.2.1 (S.irr _)
  obtain ⟨r, rv, rs, vO⟩ := other hv sv
  obtain ⟨q, qh, qs, hO⟩ := other hh sh
  have qr : q ≠ r := fun e => nM h ⟨fun z => ne z.symm, hvh, fun p hp => by
    rcases hO p hp with e1 | e1
    · exact ⟨v, lvh, .refl hv, e1 ▸ sv⟩
    · exact ⟨v, lvh, .refl hv, e1.trans e ▸ rv⟩⟩
  have qv : ¬ S.inC q v := fun z => (vO q z).elim qs qr
  have rh : ¬ S.inC r h := fun z => (hO r z).elim rs fun e => qr e.symm
  -- a call of q ahead of h, with another one who meets a later call that is heard by h, is a split
  have noSplit : ∀ j k c, j < S.m → S.lt j h → S.inC q j → S.inC c j → c ≠ q → S.lt j k → S.Le k h → S.inC c k → False :=
    fun j k c hj ljh qj cj cq ljk lkh ck => by
    refine nS j ⟨fun e => S.irr h (e ▸ ljh), .one ⟨hj, hh, ljh, q, qj, qh⟩, fun p hp => ?_⟩
    obtain ⟨c', c'j, c'q, jO⟩ := other hj qj
    have ec : c = c' := (jO c cj).resolve_left cq
    rcases jO p hp with e | e
    · exact ⟨h, ljh, .refl hh, e ▸ qh⟩
    · exact ⟨k, ljk, lkh, e.trans ec.symm ▸ ck⟩
  -- no call of q ahead of h is one of somebody of v
  have noV : ∀ j x, j < S.m → S.lt j h → S.inC q j → S.inC x j → S.inC x v → False := fun j x hj ljh qj xj xv => by
    have xq : x ≠ q := fun e => qv (e ▸ xv)
    have jv : j ≠ v := fun e => qv (e ▸ qj)
    rcases S.tot j v jv with l | l
    · exact noSplit j v x hj ljh qj xj xq l hvh xv
    · rcases J j (.one ⟨hv, hj, l, x, xv, xj⟩) (.one ⟨hj, hh, ljh, q, qj, qh⟩) with e | e
      · exact jv e
      · exact S.irr h (e ▸ ljh)
  by_cases ring : S.Ring
  · exact ring
  exfalso
  have base : ∀ i, i < S.m → S.inC q i → (S.inC q i ∧ S.lt i h) ∨ (S.Le v i ∧ ¬ S.inC r i) := fun i hi qi => by
    by_cases l : S.lt i h
    · exact .inl ⟨qi, l⟩
    · have lhi : S.Le h i := Le.same hh hi qh qi l
      have lvi := hvh.trans lhi
      refine .inr ⟨lvi, fun ri => ?_⟩
      have nih : h ≠ i := fun e => rh (e ▸ ri)
      have lt2 : S.lt h i := lhi.eq_or_lt.resolve_left nih
      have nvi : i ≠ v := fun e => qv (e ▸ qi)
      obtain ⟨c, ci, cq, iO⟩ := other hi qi
      refine nM i ⟨nvi, lvi, fun p hp => ?_⟩
      rcases iO p hp with e | e
      · exact ⟨h, lt2, hvh, e ▸ qh⟩
      · have er : r = c := (iO r ri).resolve_left fun z => qr z.symm
        exact ⟨v, S.tr lvh lt2, .refl hv, e.trans er.symm ▸ rv⟩
  have walk : ∀ i j, S.Le i j → S.inC q i → (S.inC q j ∧ S.lt j h) ∨ (S.Le v j ∧ ¬ S.inC r j) := fun i j l qi => by
    induction l with
    | refl hi => exact base _ hi qi
    | @tail j k l st ih =>
      obtain ⟨hj, hk, ljk, c, cj, ck⟩ := st
      rcases ih with ⟨qj, ljh⟩ | ⟨lvj, nr⟩
      · by_cases ecq : c = q
        · subst ecq; exact base k hk ck
        · have nk : ¬ S.Le k h := fun z => noSplit j k c hj ljh qj cj ecq ljk z ck
          have lvk : S.Le v k := (nc k hk).resolve_right nk
          by_cases rk : S.inC r k
          · exfalso
            have cr : c ≠ r := fun e => noV j r hj ljh qj (e ▸ cj) rv
            have cs : c ≠ s := fun e => noV j s hj ljh qj (e ▸ cj) sv
            exact ring ⟨q, c, r, s, ⟨j, hj, qj, cj, fun e => ecq e.symm⟩, ⟨k, hk, ck, rk, cr⟩, ⟨v, hv, rv, sv, rs⟩, ⟨h, hh, sh, qh, fun e => qs e.symm⟩, qr, cs⟩
          · exact .inr ⟨lvk, rk⟩
      · have lvk : S.Le v k := .tail lvj ⟨hj, hk, ljk, c, cj, ck⟩
        refine .inr ⟨lvk, fun rk => ?_⟩
        have cr : c ≠ r := fun e => nr (e ▸ cj)
        have lvk2 : S.lt v k := by
          rcases lvj.eq_or_lt with e | l2
          · exact e ▸ ljk
          · exact S.tr l2 ljk
        obtain ⟨x, xk, xr, kO⟩ := other hk rk
        refine nM k ⟨fun e => S.irr v (e ▸ lvk2), lvk, fun p hp => ?_⟩
        rcases kO p hp with e | e
        · exact ⟨v, lvk2, .refl hv, e ▸ rv⟩
        · have ex : c = x := (kO c ck).resolve_left cr
          exact ⟨j, ljk, lvj, e.trans ex.symm ▸ cj⟩
  obtain ⟨i, j, qi, rj, l⟩ := cp q r (inC_lt hh qh) (inC_lt hv rv)
  rcases walk i j l qi with ⟨qj, ljh⟩ | ⟨_, nr⟩
  · exact noV j r l.lt_right ljh qj rj rv
  · exact nr rj

/-! ### (B) -/
variable (S)
def Mx (v : Nat) : Prop := S.Out v ∧ ∀ j, S.Out j → S.Le v j → j = v
def Mn (h : Nat) : Prop := S.Inn h ∧ ∀ j, S.Inn j → S.Le j h → j = h
def N (w : Nat) : Prop := w < S.m ∧ ¬ S.Out w ∧ ¬ S.Inn w
structure B : Prop where
  cp : S.Comp
  hm : S.m + 4 ≤ 2 * S.n
  hn : S.n ≤ 10
  hB : ∀ v h, S.Out v → S.Inn h → S.Le v h ∧ v ≠ h ∧ ∃ u, S.Le v u ∧ S.Le u h ∧ u ≠ v ∧ u ≠ h
variable {S}
theorem out_dual' {i : Nat} (h : S.dual.Out i) : S.Inn i := out_dual (S := S.dual) h
theorem inn_dual' {i : Nat} (h : S.dual.Inn i) : S.Out i := inn_dual (S := S.dual) h
theorem outD (i : Nat) : S.dual.Out i = S.Inn i := propext ⟨out_dual', inn_dual⟩
theorem innD (i : Nat) : S.dual.Inn i = S.Out i := propext ⟨inn_dual', out_dual⟩
theorem mxD (i : Nat) : S.dual.Mx i = S.Mn i := by
  refine propext ⟨fun h => ⟨out_dual' h.1, fun j hj l => h.2 j (inn_dual hj) (le_dual l)⟩, fun h => ⟨inn_dual h.1, fun j hj l => h.2 j (out_dual' hj) (le_dual' l)⟩⟩
theorem mnD (i : Nat) : S.dual.Mn i = S.Mx i := by
  have := mxD (S := S.dual) i
  exact this.symm
theorem nD (i : Nat) : S.dual.N i = S.N i := by
  refine propext ⟨fun h => ⟨h.1, fun z => h.2.2 (out_dual z), fun z => h.2.1 (inn_dual z)⟩, fun h => ⟨h.1, fun z => h.2.2 (out_dual' z), fun z => h.2.1 (inn_dual' z)⟩⟩
theorem B.dual (b : S.B) : S.dual.B where
  cp := comp_dual b.cp
  hm := b.hm
  hn := b.hn
  hB := fun v h hv hh => by
    obtain ⟨l, ne, u, l1, l2, n1, n2⟩ := b.hB h v (inn_dual' hh) (out_dual' hv)
    exact ⟨le_dual l, fun e => ne e.symm, u, le_dual l2, le_dual l1, n2, n1⟩
theorem B.disj (b : S.B) {v : Nat} (h : S.Out v) (h2 : S.Inn v) : False := (b.hB v v h h2).2.1 rfl

/-- somebody's first call is in Out -/
theorem first_out (cp : S.Comp) {p : Nat} (hp : p < S.n) : ∃ i, S.Out i ∧ S.inC p i := by
  obtain ⟨i, _, pi, _, l⟩ := cp p p hp hp
  obtain ⟨e, he, pe, me⟩ := S.mn (fun x => S.inC p x) ⟨i, l.lt_left, pi⟩
  refine ⟨e, ⟨he, fun q hq => ?_⟩, pe⟩
  obtain ⟨i, j, pi, qj, l⟩ := cp p q hp hq
  exact ⟨j, qj, (Le.same he l.lt_left pe pi (me i l.lt_left pi)).trans l⟩
theorem last_inn (cp : S.Comp) {p : Nat} (hp : p < S.n) : ∃ i, S.Inn i ∧ S.inC p i := by
  obtain ⟨i, h, pi⟩ := first_out (S := S.dual) (comp_dual cp) hp
  exact ⟨i, out_dual' h, pi⟩
theorem mx_unique {v v' p : Nat} (h : S.Mx v) (h' : S.Mx v') (pv : S.inC p v) (pv' : S.inC p v') : v = v' := by
  by_cases l : S.lt v' v
  · exact h'.2 v h.1 (.one ⟨h'.1.1, h.1.1, l, p, pv', pv⟩)
  · exact (h.2 v' h'.1 (Le.same h.1.1 h'.1.1 pv pv' l)).symm
theorem mn_unique {v v' p : Nat} (h : S.Mn v) (h' : S.Mn v') (pv : S.inC p v) (pv' : S.inC p v') : v = v' := by
  rw [← mxD] at h h'
  exact mx_unique h h' pv pv'
/-- below each one of Inn stands a least one -/
theorem mn_below {z : Nat} (hz : S.Inn z) : ∃ h, S.Mn h ∧ S.Le h z := by
  obtain ⟨h, _, ⟨i1, l1⟩, me⟩ := S.mn (fun x => S.Inn x ∧ S.Le x z) ⟨z, hz.1, hz, .refl hz.1⟩
  refine ⟨h, ⟨i1, fun j hj l => ?_⟩, l1⟩
  rcases l.eq_or_lt with e | lt
  · exact e
  · exact absurd lt (me j l.lt_left ⟨hj, l.trans l1⟩)

variable (S) in
/-- p's next call behind v is k -/
def Nx (p v k : Nat) : Prop := k < S.m ∧ S.inC p v ∧ S.inC p k ∧ S.lt v k ∧ ∀ x, x < S.m → S.inC p x → S.lt v x → ¬ S.lt x k
theorem Nx.le {p v k : Nat} (hv : v < S.m) (h : S.Nx p v k) : S.Le v k := .one ⟨hv, h.1, h.2.2.2.1, p, h.2.1, h.2.2.1⟩
theorem B.nextC (b : S.B) {v p : Nat} (hv : S.Out v) (pv : S.inC p v) : ∃ k, S.Nx p v k := by
  by_cases e : ∃ x, x < S.m ∧ (S.inC p x ∧ S.lt v x)
  · obtain ⟨k, hk, ⟨pk, lk⟩, me⟩ := S.mn _ e
    exact ⟨k, hk, pv, pk, lk, fun x hx px lx => me x hx ⟨px, lx⟩⟩
  · refine (b.disj hv ⟨hv.1, fun x hx => ?_⟩).elim
    obtain ⟨i, j, xi, pj, l⟩ := b.cp x p hx (inC_lt hv.1 pv)
    exact ⟨i, xi, l.trans (Le.same l.lt_right hv.1 pj pv fun z => e ⟨j, l.lt_right, pj, z⟩)⟩
/-- a step from v by p goes to the next call of p or behind it -/
theorem Nx.step {p v k x : Nat} (h : S.Nx p v k) (hx : x < S.m) (px : S.inC p x) (l : S.lt v x) : S.Le k x :=
  Le.same h.1 hx h.2.2.1 px (h.2.2.2.2 x hx px l)
/-- a way from v goes by the one or by the other one of v -/
theorem two_ways {v p p' k k' u : Nat} (hv : v < S.m) (pp : p ≠ p') (h : S.Nx p v k) (h' : S.Nx p' v k') (l : S.Le v u) (ne : u ≠ v) : S.Le k u ∨ S.Le k' u := by
  rcases l.head with e | ⟨x, ⟨_, hx, lx, c, cv, cx⟩, l2⟩
  · exact absurd e.symm ne
  · obtain ⟨o, ov, op, vO⟩ := other hv h.2.1
    have eo : p' = o := (vO p' h'.2.1).resolve_left fun e => pp e.symm
    rcases vO c cv with e | e
    · subst e; exact .inl ((h.step hx cx lx).trans l2)
    · rw [← eo] at e
      subst e; exact .inr ((h'.step hx cx lx).trans l2)
theorem B.nextN (b : S.B) {v p k : Nat} (hv : S.Mx v) (h : S.Nx p v k) : S.N k := by
  have lk := h.le hv.1.1
  have ne : k ≠ v := fun e => S.irr v (by have := h.2.2.2.1; rwa [e] at this)
  refine ⟨h.1, fun o => ne (hv.2 k o lk), fun ik => ?_⟩
  obtain ⟨p', pv', pne, _⟩ := other hv.1.1 h.2.1
  obtain ⟨k', h'⟩ := b.nextC hv.1 pv'
  have lk' := h'.le hv.1.1
  have ne' : k' ≠ v := fun e => S.irr v (by have := h'.2.2.2.1; rwa [e] at this)
  refine ne' (hv.2 k' ⟨h'.1, fun q hq => ?_⟩ lk')
  obtain ⟨z, iz, qz⟩ := last_inn b.cp hq
  refine ⟨z, qz, ?_⟩
  obtain ⟨g, mg, lg⟩ := mn_below iz
  obtain ⟨_, _, u, l1, l2, n1, n2⟩ := b.hB v g hv.1 mg.1
  rcases two_ways hv.1.1 (fun e => pne e.symm) h h' l1 n1 with l | l
  · exact absurd (mg.2 u (inn_up l ik) l2) n2
  · exact (l.trans l2).trans lg

/-! ### the counts of (B) -/
variable (S)
noncomputable def al : Nat := sm (fun v => ind (S.Mx v)) S.m
noncomputable def be : Nat := sm (fun v => ind (S.Mn v)) S.m
noncomputable def nu : Nat := sm (fun v => ind (S.N v)) S.m
def E (v p w : Nat) : Prop := S.Mx v ∧ S.N w ∧ S.Nx p v w
def Df (w : Nat) : Prop := S.N w ∧ ∃ p, S.inC p w ∧ ¬ ∃ v, S.E v p w
def WI (w : Nat) : Prop := S.N w ∧ ∃ u, S.N u ∧ S.Step u w
def WO (w : Nat) : Prop := S.N w ∧ ∃ u, S.N u ∧ S.Step w u
variable {S}
theorem wi_df {w : Nat} (h : S.WI w) : S.Df w := by
  obtain ⟨hw, u, hu, st⟩ := h
  obtain ⟨h1, h2, l, p, pu, pw⟩ := st
  refine ⟨hw, p, pw, fun ⟨v, mv, _, nx⟩ => ?_⟩
  have vu : v ≠ u := fun e => hu.2.1 (e ▸ mv.1)
  rcases S.tot v u vu with a | a
  · exact nx.2.2.2.2 u h1 pu a l
  · exact hu.2.1 (out_down (.one ⟨h1, mv.1.1, a, p, pu, nx.2.1⟩) mv.1)
theorem B.count_exit (b : S.B) : S.n ≤ sm (fun v => ind (S.Out v)) S.m + S.al := by
  let ep : Nat → Nat → Prop := fun p v => (S.Out v ∧ S.inC p v) ∧ ∀ j, j < S.m → (S.Out j ∧ S.inC p j) → ¬ S.lt v j
  have h1 : sm (fun _ => 1) S.n ≤ sm (fun p => sm (fun v => ind (ep p v)) S.m) S.n := by
    refine sm_le _ fun p hp => ?_
    obtain ⟨i, oi, pi⟩ := first_out b.cp hp
    obtain ⟨v, hv, ⟨h1, h2⟩, h3⟩ := S.mx (fun v => S.Out v ∧ S.inC p v) ⟨i, oi.1, oi, pi⟩
    exact sm_exP (P := ep p) hv ⟨⟨h1, h2⟩, h3⟩
  rw [sm_const, sm_swap] at h1
  have h2 : sm (fun v => sm (fun p => ind (ep p v)) S.n) S.m ≤ sm (fun v => ind (S.Out v) + ind (S.Mx v)) S.m := by
    refine sm_le _ fun v hv => ?_
    have sup : sm (fun p => ind (ep p v)) S.n ≤ ind (ep (S.a v) v) + ind (ep (S.b v) v) :=
      sm_two (f := fun p => ind (ep p v)) (S.a v) (S.b v) S.n fun p hp n1 n2 => ind_f fun h => h.1.2.elim n1 n2
    have := ind_le1 (ep (S.a v) v)
    have := ind_le1 (ep (S.b v) v)
    show sm (fun p => ind (ep p v)) S.n ≤ ind (S.Out v) + ind (S.Mx v)
    by_cases ov : S.Out v
    · rw [ind_t ov]
      by_cases mv : S.Mx v
      · rw [ind_t mv]; omega
      · obtain ⟨j, oj, lj, ne⟩ : ∃ j, S.Out j ∧ S.Le v j ∧ j ≠ v := by
          refine Classical.byContradiction fun z => mv ⟨ov, fun j oj lj => Classical.byContradiction fun ne => z ⟨j, oj, lj, ne⟩⟩
        rcases lj.head with e | ⟨k, ⟨_, hk, l, p, pv, pk⟩, l2⟩
        · exact absurd e.symm ne
        · have z : ind (ep p v) = 0 := ind_f fun h => h.2 k hk ⟨out_down l2 oj, pk⟩ l
          rcases pv with e | e
          · rw [e] at z; omega
          · rw [e] at z; omega
    · have z : ∀ p, ind (ep p v) = 0 := fun p => ind_f fun h => ov h.1.1
      have := z (S.a v)
      have := z (S.b v)
      omega
  rw [sm_add] at h2
  unfold al
  omega
theorem beD : S.dual.al = S.be := sm_eq _ fun i _ => by rw [mxD]
theorem alD : S.dual.be = S.al := sm_eq _ fun i _ => by rw [mnD]
theorem nuD : S.dual.nu = S.nu := sm_eq _ fun i _ => by rw [nD]
theorem B.count_exit' (b : S.B) : S.n ≤ sm (fun v => ind (S.Inn v)) S.m + S.be := by
  have h := b.dual.count_exit
  rw [beD] at h
  have e : sm (fun v => ind (S.dual.Out v)) S.m = sm (fun v => ind (S.Inn v)) S.m := sm_eq _ fun i _ => by rw [outD]
  have h' : S.n ≤ sm (fun v => ind (S.dual.Out v)) S.m + S.be := h
  omega
theorem B.count_nu (b : S.B) : S.nu + 4 ≤ S.al + S.be := by
  have h1 := b.count_exit
  have h2 := b.count_exit'
  have hm := b.hm
  have e : sm (fun v => (ind (S.Out v) + ind (S.Inn v)) + ind (S.N v)) S.m ≤ sm (fun _ => 1) S.m := by
    refine sm_le _ fun v hv => ?_
    show (ind (S.Out v) + ind (S.Inn v)) + ind (S.N v) ≤ 1
    by_cases ov : S.Out v
    · rw [ind_t ov, ind_f fun z => b.disj ov z, ind_f fun z => z.2.1 ov]; omega
    · by_cases iv : S.Inn v
      · rw [ind_f ov, ind_t iv, ind_f fun z => z.2.2 iv]; omega
      · rw [ind_f ov, ind_f iv]
        have := ind_le1 (S.N v)
        omega
  rw [sm_add, sm_add, sm_const] at e
  unfold nu
  omega
theorem count_al : 2 * S.al ≤ S.n := by
  have h1 : sm (fun v => 2 * ind (S.Mx v)) S.m ≤ sm (fun v => sm (fun p => ind (S.Mx v ∧ S.inC p v)) S.n) S.m := by
    refine sm_le _ fun v hv => ?_
    by_cases mv : S.Mx v
    · have := sm_ge2 (f := fun p => ind (S.Mx v ∧ S.inC p v)) S.n (S.a v) (S.b v) (S.ha v hv).1 (S.ha v hv).2.1 (S.ha v hv).2.2
      have e1 : ind (S.Mx v ∧ S.inC (S.a v) v) = 1 := ind_t ⟨mv, .inl rfl⟩
      have e2 : ind (S.Mx v ∧ S.inC (S.b v) v) = 1 := ind_t ⟨mv, .inr rfl⟩
      have e3 := ind_le1 (S.Mx v)
      show 2 * ind (S.Mx v) ≤ sm (fun p => ind (S.Mx v ∧ S.inC p v)) S.n
      omega
    · show 2 * ind (S.Mx v) ≤ _
      rw [ind_f mv]; omega
  rw [sm_mul, sm_swap] at h1
  have h2 : sm (fun p => sm (fun v => ind (S.Mx v ∧ S.inC p v)) S.m) S.n ≤ sm (fun _ => 1) S.n :=
    sm_le _ fun p _ => sm_ind1 _ fun i j _ _ h h' => mx_unique h.1 h'.1 h.2 h'.2
  rw [sm_const] at h2
  unfold al
  omega
theorem count_be : 2 * S.be ≤ S.n := by
  have := count_al (S := S.dual)
  rw [beD] at this
  exact this
/-- what arcs from the greatest ones of Out go to calls of X -/
theorem arcs_in (X : Nat → Prop) (f : Nat → Nat)
    (h : ∀ v, v < S.m → S.Mx v → f v ≤ sm (fun p => sm (fun w => ind (S.E v p w ∧ X w)) S.m) S.n) (h0 : ∀ v, v < S.m → ¬ S.Mx v → f v = 0) :
    sm f S.m + sm (fun w => ind (X w ∧ S.Df w)) S.m ≤ 2 * sm (fun w => ind (X w ∧ S.N w)) S.m := by
  have h1 : sm f S.m ≤ sm (fun v => sm (fun p => sm (fun w => ind (S.E v p w ∧ X w)) S.m) S.n) S.m := by
    refine sm_le _ fun v hv => ?_
    by_cases mv : S.Mx v
    · exact h v hv mv
    · rw [h0 v hv mv]; exact Nat.zero_le _
  have e1 : sm (fun v => sm (fun p => sm (fun w => ind (S.E v p w ∧ X w)) S.m) S.n) S.m = sm (fun w => sm (fun p => sm (fun v => ind (S.E v p w ∧ X w)) S.m) S.n) S.m := by
    rw [sm_swap (fun v p => sm (fun w => ind (S.E v p w ∧ X w)) S.m) S.n S.m]
    rw [sm_eq S.n (f := fun p => sm (fun v => sm (fun w => ind (S.E v p w ∧ X w)) S.m) S.m) (g := fun p => sm (fun w => sm (fun v => ind (S.E v p w ∧ X w)) S.m) S.m) fun p _ => sm_swap (fun v w => ind (S.E v p w ∧ X w)) S.m S.m]
    rw [sm_swap (fun p w => sm (fun v => ind (S.E v p w ∧ X w)) S.m) S.m S.n]
  rw [e1] at h1
  have h2 : sm (fun w => sm (fun p => sm (fun v => ind (S.E v p w ∧ X w)) S.m) S.n + ind (X w ∧ S.Df w)) S.m ≤ sm (fun w => 2 * ind (X w ∧ S.N w)) S.m := by
    refine sm_le _ fun w hw => ?_
    let g : Nat → Nat := fun p => sm (fun v => ind (S.E v p w ∧ X w)) S.m
    have g1 : ∀ p, g p ≤ 1 := fun p => sm_ind1 _ fun i j _ _ a b => mx_unique a.1.1 b.1.1 a.1.2.2.2.1 b.1.2.2.2.1
    have sup : sm g S.n ≤ g (S.a w) + g (S.b w) := sm_two (S.a w) (S.b w) S.n fun p hp n1 n2 =>
      sm_zero _ fun v hv => ind_f fun z => z.1.2.2.2.2.1.elim n1 n2
    have := g1 (S.a w)
    have := g1 (S.b w)
    show sm g S.n + ind (X w ∧ S.Df w) ≤ 2 * ind (X w ∧ S.N w)
    by_cases x : X w ∧ S.N w
    · rw [ind_t x]
      by_cases d : X w ∧ S.Df w
      · rw [ind_t d]
        obtain ⟨_, _, p, pw, no⟩ := d
        have z : g p = 0 := sm_zero _ fun v hv => ind_f fun z => no ⟨v, z.1⟩
        rcases pw with e | e
        · rw [e] at z; omega
        · rw [e] at z; omega
      · rw [ind_f d]; omega
    · rw [ind_f x, ind_f fun d => x ⟨d.1, d.2.1⟩]
      have z : ∀ p, g p = 0 := fun p => sm_zero _ fun v hv => ind_f fun z => x ⟨z.2, z.1.2.1⟩
      have := z (S.a w)
      have := z (S.b w)
      omega
  rw [sm_add, sm_mul] at h2
  omega
theorem B.exE (b : S.B) {v p : Nat} (hv : S.Mx v) (pv : S.inC p v) : ∃ k, S.E v p k := by
  obtain ⟨k, h⟩ := b.nextC hv.1 pv
  exact ⟨k, hv, b.nextN hv h, h⟩
theorem B.count_arcs (b : S.B) : 2 * S.al + sm (fun w => ind (S.Df w)) S.m ≤ 2 * S.nu := by
  have h := arcs_in (S := S) (fun _ => True) (fun v => 2 * ind (S.Mx v)) (fun v hv mv => by
    obtain ⟨k, hk⟩ := b.exE mv (p := S.a v) (.inl rfl)
    obtain ⟨k', hk'⟩ := b.exE mv (p := S.b v) (.inr rfl)
    have := sm_ge2 (f := fun p => sm (fun w => ind (S.E v p w ∧ True)) S.m) S.n (S.a v) (S.b v) (S.ha v hv).1 (S.ha v hv).2.1 (S.ha v hv).2.2
    have e1 := sm_exP (P := fun w => S.E v (S.a v) w ∧ True) hk.2.1.1 ⟨hk, trivial⟩
    have e2 := sm_exP (P := fun w => S.E v (S.b v) w ∧ True) hk'.2.1.1 ⟨hk', trivial⟩
    have e3 := ind_le1 (S.Mx v)
    show 2 * ind (S.Mx v) ≤ _
    omega) (fun v hv mv => by show 2 * ind (S.Mx v) = 0; rw [ind_f mv])
  rw [sm_mul] at h
  have e1 : sm (fun w => ind (True ∧ S.Df w)) S.m = sm (fun w => ind (S.Df w)) S.m := sm_eq _ fun i _ => by rw [true_and]
  have e2 : sm (fun w => ind (True ∧ S.N w)) S.m = sm (fun w => ind (S.N w)) S.m := sm_eq _ fun i _ => by rw [true_and]
  unfold al nu
  omega

/-! ### what the greatest ones reach -/
theorem B.hit (b : S.B) {v p p' k k' : Nat} (pp : p ≠ p') (e : S.E v p k) (e' : S.E v p' k') (no : ¬ S.WO k) (no' : ¬ S.WO k') {h : Nat} (hh : S.Mn h) :
    ∃ c, (S.inC c k ∨ S.inC c k') ∧ S.inC c h := by
  obtain ⟨_, _, u, l1, l2, n1, n2⟩ := b.hB v h e.1.1 hh.1
  have nIu : ¬ S.Inn u := fun z => n2 (hh.2 u z l2)
  have key : ∀ x, S.N x → ¬ S.WO x → S.Le x u → ∃ c, S.inC c x ∧ S.inC c h := fun x nx nw lx => by
    have nO : ∀ y, S.Step x y → ¬ S.Out y := fun y st o => nx.2.1 (out_down (.one st) o)
    have ux : x = u := by
      rcases lx.head with e | ⟨y, st, l⟩
      · exact e
      · exact absurd ⟨nx, y, ⟨st.2.1, nO y st, fun z => nIu (inn_up l z)⟩, st⟩ nw
    subst ux
    rcases l2.head with e | ⟨y, st, l⟩
    · exact absurd e n2
    · have iy : S.Inn y := Classical.byContradiction fun z => nw ⟨nx, y, ⟨st.2.1, nO y st, z⟩, st⟩
      have ey := hh.2 y iy l
      subst ey
      obtain ⟨_, _, _, c, cx, ch⟩ := st
      exact ⟨c, cx, ch⟩
  rcases two_ways e.1.1.1 pp e.2.2 e'.2.2 l1 n1 with l | l
  · obtain ⟨c, a, d⟩ := key k e.2.1 no l
    exact ⟨c, .inl a, d⟩
  · obtain ⟨c, a, d⟩ := key k' e'.2.1 no' l
    exact ⟨c, .inr a, d⟩
/-- people of X, one of whom is in each least one of Inn -/
theorem hit_count (X : Nat → Prop) (hX : ∀ h, S.Mn h → ∃ c, X c ∧ S.inC c h) :
    S.be + sm (fun h => ind (S.Mn h ∧ X (S.a h) ∧ X (S.b h))) S.m ≤ sm (fun c => ind (X c)) S.n := by
  have h1 : sm (fun h => ind (S.Mn h) + ind (S.Mn h ∧ X (S.a h) ∧ X (S.b h))) S.m ≤ sm (fun h => sm (fun c => ind (S.Mn h ∧ S.inC c h ∧ X c)) S.n) S.m := by
    refine sm_le _ fun h hh => ?_
    show ind (S.Mn h) + ind (S.Mn h ∧ X (S.a h) ∧ X (S.b h)) ≤ sm (fun c => ind (S.Mn h ∧ S.inC c h ∧ X c)) S.n
    by_cases mh : S.Mn h
    · rw [ind_t mh]
      by_cases two : S.Mn h ∧ X (S.a h) ∧ X (S.b h)
      · rw [ind_t two]
        have := sm_ge2 (f := fun c => ind (S.Mn h ∧ S.inC c h ∧ X c)) S.n (S.a h) (S.b h) (S.ha h hh).1 (S.ha h hh).2.1 (S.ha h hh).2.2
        have e1 : ind (S.Mn h ∧ S.inC (S.a h) h ∧ X (S.a h)) = 1 := ind_t ⟨mh, .inl rfl, two.2.1⟩
        have e2 : ind (S.Mn h ∧ S.inC (S.b h) h ∧ X (S.b h)) = 1 := ind_t ⟨mh, .inr rfl, two.2.2⟩
        omega
      · rw [ind_f two]
        obtain ⟨c, xc, ch⟩ := hX h mh
        exact sm_exP (P := fun c => S.Mn h ∧ S.inC c h ∧ X c) (inC_lt hh ch) ⟨mh, ch, xc⟩
    · rw [ind_f mh, ind_f fun z => mh z.1]; exact Nat.zero_le _
  rw [sm_add, sm_swap] at h1
  have h2 : sm (fun c => sm (fun h => ind (S.Mn h ∧ S.inC c h ∧ X c)) S.m) S.n ≤ sm (fun c => ind (X c)) S.n := by
    refine sm_le _ fun c _ => ?_
    by_cases x : X c
    · show sm (fun h => ind (S.Mn h ∧ S.inC c h ∧ X c)) S.m ≤ ind (X c)
      rw [ind_t x]
      exact sm_ind1 _ fun i j _ _ a d => mn_unique a.1 d.1 a.2.1 d.2.1
    · rw [sm_zero _ fun h _ => ind_f fun z => x z.2.2]; exact Nat.zero_le _
  unfold be
  omega
theorem two_calls (k k' : Nat) : sm (fun c => ind (S.inC c k ∨ S.inC c k')) S.n ≤ 4 := by
  have h1 : sm (fun c => ind (S.inC c k ∨ S.inC c k')) S.n ≤ sm (fun c => ind (S.inC c k) + ind (S.inC c k')) S.n := by
    refine sm_le _ fun c _ => ?_
    show ind (S.inC c k ∨ S.inC c k') ≤ ind (S.inC c k) + ind (S.inC c k')
    by_cases x : S.inC c k
    · rw [ind_t x]
      have := ind_le1 (S.inC c k ∨ S.inC c k')
      omega
    · have := ind_mono (P := S.inC c k ∨ S.inC c k') (Q := S.inC c k') fun z => z.resolve_left x
      omega
  have one : ∀ k, sm (fun c => ind (S.inC c k)) S.n ≤ 2 := fun k => by
    have := sm_two (f := fun c => ind (S.inC c k)) (S.a k) (S.b k) S.n fun p _ n1 n2 => ind_f fun z => z.elim n1 n2
    have := ind_le1 (S.inC (S.a k) k)
    have := ind_le1 (S.inC (S.b k) k)
    omega
  rw [sm_add] at h1
  have := one k
  have := one k'
  omega
theorem B.count_wo (b : S.B) (h5 : 5 ≤ S.be) : S.al ≤ 2 * sm (fun w => ind (S.WO w)) S.m := by
  have h := arcs_in (S := S) (fun w => S.WO w) (fun v => ind (S.Mx v)) (fun v hv mv => by
    obtain ⟨k, hk⟩ := b.exE mv (p := S.a v) (.inl rfl)
    obtain ⟨k', hk'⟩ := b.exE mv (p := S.b v) (.inr rfl)
    have big : S.WO k ∨ S.WO k' := Classical.byContradiction fun z => by
      have := hit_count (S := S) (fun c => S.inC c k ∨ S.inC c k') fun h hh => b.hit (S.ha v hv).2.2 hk hk' (fun y => z (.inl y)) (fun y => z (.inr y)) hh
      have := two_calls (S := S) k k'
      omega
    show ind (S.Mx v) ≤ _
    rw [ind_t mv]
    rcases big with w | w
    · have e1 := sm_exP (P := fun w => S.E v (S.a v) w ∧ S.WO w) hk.2.1.1 ⟨hk, w⟩
      have := sm_ge (f := fun p => sm (fun w => ind (S.E v p w ∧ S.WO w)) S.m) S.n (S.a v) (S.ha v hv).1
      omega
    · have e1 := sm_exP (P := fun w => S.E v (S.b v) w ∧ S.WO w) hk'.2.1.1 ⟨hk', w⟩
      have := sm_ge (f := fun p => sm (fun w => ind (S.E v p w ∧ S.WO w)) S.m) S.n (S.b v) (S.ha v hv).2.1
      omega) (fun v hv mv => ind_f mv)
  have e2 : sm (fun w => ind (S.WO w ∧ S.N w)) S.m = sm (fun w => ind (S.WO w)) S.m := sm_eq _ fun i _ => by
    rw [show (S.WO i ∧ S.N i) = S.WO i from propext ⟨fun z => z.1, fun z => ⟨z, z.1⟩⟩]
  unfold al
  omega
theorem woD (w : Nat) : S.dual.WI w = S.WO w := by
  refine propext ⟨fun ⟨h, u, hu, st⟩ => ?_, fun ⟨h, u, hu, st⟩ => ?_⟩
  · rw [nD] at h hu
    exact ⟨h, u, hu, step_dual st⟩
  · rw [← nD] at h hu
    exact ⟨h, u, hu, step_dual st⟩
theorem wiD (w : Nat) : S.dual.WO w = S.WI w := (woD (S := S.dual) w).symm
theorem B.fours (b : S.B) : S.al = 4 ∧ S.be = 4 ∧ S.nu = 4 ∧ sm (fun w => ind (S.Df w)) S.m = 0 ∧ sm (fun w => ind (S.dual.Df w)) S.m = 0 := by
  have hn := b.hn
  have a1 := b.count_nu
  have a2 := count_al (S := S)
  have a3 := count_be (S := S)
  have a4 := b.count_arcs
  have a5 := b.dual.count_arcs
  have a6 := b.count_wo
  have a7 := b.dual.count_wo
  rw [beD, nuD] at a5
  rw [alD, beD] at a7
  have e1 : sm (fun w => ind (S.WO w)) S.m ≤ sm (fun w => ind (S.dual.Df w)) S.m := sm_le _ fun w _ => ind_mono fun z => wi_df (S := S.dual) (by rw [woD]; exact z)
  have e2 : sm (fun w => ind (S.WI w)) S.m ≤ sm (fun w => ind (S.Df w)) S.m := sm_le _ fun w _ => ind_mono fun z => wi_df z
  have e3 : sm (fun w => ind (S.dual.WO w)) S.m = sm (fun w => ind (S.WI w)) S.m := sm_eq _ fun i _ => by rw [wiD]
  have a5' : 2 * S.be + sm (fun w => ind (S.dual.Df w)) S.m ≤ 2 * S.nu := a5
  have a7' : 5 ≤ S.al → S.be ≤ 2 * sm (fun w => ind (S.dual.WO w)) S.m := a7
  rw [e3] at a7'
  have b4 : S.be < 5 := by
    apply Nat.lt_of_not_le
    intro h5
    have := a6 h5
    omega
  have c4 : S.al < 5 := by
    apply Nat.lt_of_not_le
    intro h5
    have := a7' h5
    omega
  omega
theorem sm_three {f : Nat → Nat} (a b c k : Nat) (h : ∀ i, i < k → i ≠ a → i ≠ b → i ≠ c → f i = 0) : sm f k ≤ f a + f b + f c := by
  have h1 : sm f k ≤ sm (fun i => f i * ind (i = a) + f i * ind (i ≠ a)) k := sm_le _ fun i _ => by
    by_cases e : i = a
    · show f i ≤ f i * ind (i = a) + f i * ind (i ≠ a)
      rw [ind_t e]; omega
    · show f i ≤ f i * ind (i = a) + f i * ind (i ≠ a)
      rw [ind_t (P := i ≠ a) e]; omega
  rw [sm_add] at h1
  have h2 := sm_one (f := fun i => f i * ind (i = a)) a k fun i _ ne => by
    show f i * ind (i = a) = 0
    rw [ind_f ne]; omega
  have h3 := sm_two (f := fun i => f i * ind (i ≠ a)) b c k fun i hi n1 n2 => by
    show f i * ind (i ≠ a) = 0
    by_cases e : i = a
    · rw [ind_f fun z => z e]; omega
    · rw [h i hi e n1 n2]; omega
  have h2' : sm (fun i => f i * ind (i = a)) k ≤ f a * ind (a = a) := h2
  have h3' : sm (fun i => f i * ind (i ≠ a)) k ≤ f b * ind (b ≠ a) + f c * ind (c ≠ a) := h3
  have l1 : f a * ind (a = a) ≤ f a * 1 := Nat.mul_le_mul_left _ (ind_le1 _)
  have l2 : f b * ind (b ≠ a) ≤ f b * 1 := Nat.mul_le_mul_left _ (ind_le1 _)
  have l3 : f c * ind (c ≠ a) ≤ f c * 1 := Nat.mul_le_mul_left _ (ind_le1 _)
  omega
/-- four people of two calls by which all four least ones are hit: they are four, and no least one has two of them -/
theorem four_hit (b4 : S.be = 4) {k k' p q p' q' : Nat} (pk : ∀ x, S.inC x k → x = p ∨ x = q) (pk' : ∀ x, S.inC x k' → x = p' ∨ x = q')
    (hX : ∀ h, S.Mn h → ∃ c, (S.inC c k ∨ S.inC c k') ∧ S.inC c h) :
    p ≠ p' ∧ p ≠ q' ∧ q ≠ p' ∧ q ≠ q' ∧ ∀ h x y, S.Mn h → S.inC x h → S.inC y h → x ≠ y → (S.inC x k ∨ S.inC x k') → (S.inC y k ∨ S.inC y k') → False := by
  have hc := hit_count (S := S) _ hX
  have h4 := two_calls (S := S) k k'
  have le1 : ∀ x, ind (S.inC x k ∨ S.inC x k') ≤ 1 := fun x => ind_le1 _
  have tri : ∀ a b c : Nat, (∀ x, (S.inC x k ∨ S.inC x k') → x = a ∨ x = b ∨ x = c) → False := fun a b c h => by
    have := sm_three (f := fun c => ind (S.inC c k ∨ S.inC c k')) a b c S.n fun i _ n1 n2 n3 => ind_f fun z => (h i z).elim n1 fun y => y.elim n2 n3
    have := le1 a
    have := le1 b
    have := le1 c
    omega
  refine ⟨fun e => tri p q q' fun x hx => ?_, fun e => tri p q p' fun x hx => ?_, fun e => tri p q q' fun x hx => ?_, fun e => tri p q p' fun x hx => ?_, fun h x y mh xh yh ne hx hy => ?_⟩
  · rcases hx with z | z
    · exact (pk x z).elim .inl fun y => .inr (.inl y)
    · exact (pk' x z).elim (fun y => .inl (y.trans e.symm)) fun y => .inr (.inr y)
  · rcases hx with z | z
    · exact (pk x z).elim .inl fun y => .inr (.inl y)
    · exact (pk' x z).elim (fun y => .inr (.inr y)) fun y => .inl (y.trans e.symm)
  · rcases hx with z | z
    · exact (pk x z).elim .inl fun y => .inr (.inl y)
    · exact (pk' x z).elim (fun y => .inr (.inl (y.trans e.symm))) fun y => .inr (.inr y)
  · rcases hx with z | z
    · exact (pk x z).elim .inl fun y => .inr (.inl y)
    · exact (pk' x z).elim (fun y => .inr (.inr y)) fun y => .inr (.inl (y.trans e.symm))
  · have both : (S.inC (S.a h) k ∨ S.inC (S.a h) k') ∧ (S.inC (S.b h) k ∨ S.inC (S.b h) k') := by
      rcases xh with e | e <;> rcases yh with e2 | e2
      · exact absurd (e.trans e2.symm) ne
      · exact ⟨e ▸ hx, e2 ▸ hy⟩
      · exact ⟨e2 ▸ hy, e ▸ hx⟩
      · exact absurd (e.trans e2.symm) ne
    have := sm_exP (P := fun h => S.Mn h ∧ (S.inC (S.a h) k ∨ S.inC (S.a h) k') ∧ (S.inC (S.b h) k ∨ S.inC (S.b h) k')) mh.1.1 ⟨mh, both⟩
    omega
theorem edge_of {p q i : Nat} (hi : i < S.m) (a : S.inC p i) (b : S.inC q i) (ne : p ≠ q) : S.Edge p q := ⟨i, hi, a, b, ne⟩
theorem B.ring (b : S.B) : S.Ring := by
  obtain ⟨a4, b4, n4, d1, d2⟩ := b.fours
  have noDf : ∀ w, S.N w → ¬ S.Df w := fun w hw => sm_none d1 hw.1
  have noDf' : ∀ w, S.N w → ¬ S.dual.Df w := fun w hw => sm_none (P := fun w => S.dual.Df w) d2 hw.1
  have noWO : ∀ w, ¬ S.WO w := fun w z => noDf' w z.1 (wi_df (S := S.dual) (by rw [woD]; exact z))
  have oneN : ∀ x w w', S.N w → S.N w' → S.inC x w → S.inC x w' → w = w' := fun x w w' nw nw' xw xw' =>
    Classical.byContradiction fun ne => by
      rcases S.tot w w' ne with l | l
      · exact noWO w ⟨nw, w', nw', nw.1, nw'.1, l, x, xw, xw'⟩
      · exact noWO w' ⟨nw', w, nw, nw'.1, nw.1, l, x, xw', xw⟩
  have up : ∀ w p, S.N w → S.inC p w → ∃ v, S.E v p w := fun w p hw pw =>
    Classical.byContradiction fun z => noDf w hw ⟨hw, p, pw, z⟩
  have down : ∀ w p, S.N w → S.inC p w → ∃ h, S.Mn h ∧ S.inC p h := fun w p hw pw =>
    Classical.byContradiction fun z => noDf' w hw ⟨by rw [nD]; exact hw, p, pw, fun ⟨v, mv, _, nx⟩ => z ⟨v, by rw [← mxD]; exact mv, nx.2.1⟩⟩
  obtain ⟨v1, hv1, mv1⟩ := sm_pos (P := fun v => S.Mx v) (k := S.m) (by
    have : S.al = sm (fun v => ind (S.Mx v)) S.m := rfl
    omega)
  let p := S.a v1
  let p' := S.b v1
  have pv : S.inC p v1 := .inl rfl
  have pv' : S.inC p' v1 := .inr rfl
  have pp : p ≠ p' := (S.ha v1 hv1).2.2
  obtain ⟨w1, e1⟩ := b.exE mv1 pv
  obtain ⟨w2, e2⟩ := b.exE mv1 pv'
  have pw1 : S.inC p w1 := e1.2.2.2.2.1
  have pw2 : S.inC p' w2 := e2.2.2.2.2.1
  obtain ⟨q, qw1, qp, w1O⟩ := other e1.2.1.1 pw1
  obtain ⟨q', qw2, qp', w2O⟩ := other e2.2.1.1 pw2
  obtain ⟨_, d2, d3, d4, noTwo⟩ := four_hit b4 w1O w2O fun h hh => b.hit pp e1 e2 (noWO _) (noWO _) hh
  obtain ⟨v2, e3⟩ := up w1 q e1.2.1 qw1
  have qv2 : S.inC q v2 := e3.2.2.2.1
  have v12 : v2 ≠ v1 := fun e => by
    rw [e] at qv2
    rcases qv2 with z | z
    · exact qp z
    · exact d3 z
  have hv2 := e3.1.1.1
  obtain ⟨t, tv2, tq, v2O⟩ := other hv2 qv2
  obtain ⟨y, e4⟩ := b.exE e3.1 tv2
  have ty : S.inC t y := e4.2.2.2.2.1
  obtain ⟨t', ty', tt, yO⟩ := other e4.2.1.1 ty
  have hit2 : ∀ h, S.Mn h → ∃ c, (S.inC c w1 ∨ S.inC c y) ∧ S.inC c h := fun h hh => b.hit (fun e => tq e.symm) e3 e4 (noWO _) (noWO _) hh
  have tp' : t ≠ p' := fun e => v12 (mx_unique e3.1 mv1 tv2 (e ▸ pv'))
  have w1m := e1.2.1.1
  have w2m := e2.2.1.1
  by_cases same : y = w2
  · -- the two next ones are the same
    have tq' : t = q' := by
      rw [same] at ty
      exact (w2O t ty).resolve_left tp'
    exact ⟨p, p', q', q, edge_of hv1 pv pv' pp, edge_of w2m pw2 qw2 (fun e => qp' e.symm), edge_of hv2 (tq' ▸ tv2) qv2 (fun e => d4 e.symm), edge_of w1m qw1 pw1 qp, d2, fun e => d3 e.symm⟩
  · have np : ¬ S.inC p' y := fun z => same (oneN p' y w2 e4.2.1 e2.2.1 z pw2)
    have nq : ¬ S.inC q' y := fun z => same (oneN q' y w2 e4.2.1 e2.2.1 z qw2)
    obtain ⟨h3, m3, p3⟩ := down w2 p' e2.2.1 pw2
    obtain ⟨h4, m4, q4⟩ := down w2 q' e2.2.1 qw2
    have key : ∀ h x, S.Mn h → S.inC x h → S.inC x w2 → ∃ c, S.inC c y ∧ S.inC c h := fun h x mh xh xw => by
      obtain ⟨c, cw, ch⟩ := hit2 h mh
      rcases cw with z | z
      · exfalso
        have xc : x ≠ c := fun e => by
          rcases w1O c z with y1 | y1 <;> rcases w2O x xw with y2 | y2
          · exact pp (y1.symm.trans (e.symm.trans y2))
          · exact d2 (y1.symm.trans (e.symm.trans y2))
          · exact d3 (y1.symm.trans (e.symm.trans y2))
          · exact d4 (y1.symm.trans (e.symm.trans y2))
        exact noTwo h x c mh xh ch xc (.inr xw) (.inl z)
      · exact ⟨c, z, ch⟩
    have h34 : h3 ≠ h4 := fun e => noTwo h3 p' q' m3 p3 (e ▸ q4) (fun z => qp' z.symm) (.inr pw2) (.inr qw2)
    obtain ⟨x, xy, x3⟩ := key h3 p' m3 p3 pw2
    obtain ⟨x', xy', x4⟩ := key h4 q' m4 q4 qw2
    have xx : x ≠ x' := fun e => h34 (mn_unique m3 m4 x3 (e ▸ x4))
    exact ⟨p', q', x', x, edge_of w2m pw2 qw2 (fun e => qp' e.symm), edge_of m4.1.1 q4 x4 (fun e => nq (e ▸ xy')), edge_of e4.2.1.1 xy' xy (fun e => xx e.symm), edge_of m3.1.1 x3 p3 (fun e => np (e ▸ xy)), fun e => np (e ▸ xy'), fun e => nq (e ▸ xy)⟩

/-- the whole -/
theorem gossip (cp : S.Comp) (hm : S.m + 4 ≤ 2 * S.n) (hn : S.n ≤ 10) : S.m + 4 = 2 * S.n ∧ S.Ring := by
  have J2 : ∀ v h, S.Out v → S.Inn h → S.Le v h ∧ v ≠ h := fun v h hv hh => by
    have c := count_J hv hh
    have ex : ∃ j, j < S.m ∧ (S.Le v j ∧ S.Le j h) := sm_pos (by omega)
    obtain ⟨j, _, l1, l2⟩ := ex
    refine ⟨l1.trans l2, fun e => ?_⟩
    subst e
    have : sm (fun j => ind (S.Le v j ∧ S.Le j v)) S.m ≤ 1 := sm_ind1 _ fun i j _ _ a b => (a.1.antisymm a.2).symm.trans (b.1.antisymm b.2)
    omega
  by_cases caseB : ∀ v h, S.Out v → S.Inn h → ∃ u, S.Le v u ∧ S.Le u h ∧ u ≠ v ∧ u ≠ h
  · have b : S.B := ⟨cp, hm, hn, fun v h hv hh => ⟨(J2 v h hv hh).1, (J2 v h hv hh).2, caseB v h hv hh⟩⟩
    refine ⟨?_, b.ring⟩
    obtain ⟨a4, b4, n4, _⟩ := b.fours
    have h1 := b.count_exit
    have h2 := b.count_exit'
    have e : sm (fun v => (ind (S.Out v) + ind (S.Inn v)) + ind (S.N v)) S.m ≤ sm (fun _ => 1) S.m := by
      refine sm_le _ fun v hv => ?_
      show (ind (S.Out v) + ind (S.Inn v)) + ind (S.N v) ≤ 1
      by_cases ov : S.Out v
      · rw [ind_t ov, ind_f fun z => b.disj ov z, ind_f fun z => z.2.1 ov]; omega
      · by_cases iv : S.Inn v
        · rw [ind_f ov, ind_t iv, ind_f fun z => z.2.2 iv]; omega
        · rw [ind_f ov, ind_f iv]
          have := ind_le1 (S.N v)
          omega
    rw [sm_add, sm_add, sm_const] at e
    have n4' : sm (fun v => ind (S.N v)) S.m = 4 := n4
    omega
  · obtain ⟨v, h, hv, hh, no⟩ : ∃ v h, S.Out v ∧ S.Inn h ∧ ¬ ∃ u, S.Le v u ∧ S.Le u h ∧ u ≠ v ∧ u ≠ h :=
      Classical.byContradiction fun z => caseB fun v h hv hh => Classical.byContradiction fun y => z ⟨v, h, hv, hh, y⟩
    have J : ∀ j, S.Le v j → S.Le j h → j = v ∨ j = h := fun j a b =>
      Classical.byContradiction fun z => no ⟨j, a, b, fun e => z (.inl e), fun e => z (.inr e)⟩
    have c := count_J hv hh
    have le2 : sm (fun j => ind (S.Le v j ∧ S.Le j h)) S.m ≤ 2 := by
      have := sm_two (f := fun j => ind (S.Le v j ∧ S.Le j h)) v h S.m fun i _ n1 n2 => ind_f fun z => (J i z.1 z.2).elim n1 n2
      have := ind_le1 (S.Le v v ∧ S.Le v h)
      have := ind_le1 (S.Le v h ∧ S.Le h h)
      omega
    have lt_of : ∀ j, S.Mg v j → j < S.m := fun j z => z.2.1.lt_right
    refine ⟨by omega, caseA cp (J2 v h hv hh).1 (J2 v h hv hh).2 J (fun j hj => ?_) (fun j z => ?_) (fun j z => ?_)⟩
    · have z := sm_none (P := fun j => ¬ S.Le v j ∧ ¬ S.Le j h) (by omega) hj
      exact Classical.byContradiction fun y => z ⟨fun a => y (.inl a), fun a => y (.inr a)⟩
    · exact sm_none (P := fun j => S.Mg v j) (by omega) z.2.1.lt_right z
    · exact sm_none (P := fun j => S.Sp h j) (by omega) z.2.1.lt_left z
end Sch
end K74


namespace K74
abbrev NP := Nat × Nat
def stepK (f : Nat → Nat → Bool) (c : NP) : Nat → Nat → Bool := fun p x => if p = c.1 ∨ p = c.2 then f c.1 x || f c.2 x else f p x
def k0 : Nat → Nat → Bool := fun p x => p == x
def Kn (plan : List NP) : Nat → Nat → Bool := plan.foldl stepK k0
def All (n : Nat) (plan : List NP) : Prop := ∀ p, p < n → ∀ x, x < n → Kn plan p x = true
def adj (ps : List NP) (p q : Nat) : Prop := (p, q) ∈ ps ∨ (q, p) ∈ ps
def RingIn (ps : List NP) : Prop := ∃ p q r s, adj ps p q ∧ adj ps q r ∧ adj ps r s ∧ adj ps s p ∧ p ≠ r ∧ q ≠ s
def Valid (n : Nat) (plan : List NP) : Prop := ∀ c ∈ plan, c.1 < n ∧ c.2 < n ∧ c.1 ≠ c.2

theorem adj_symm {ps : List NP} {p q : Nat} (h : adj ps p q) : adj ps q p := h.symm
theorem adj_mono {ps qs : List NP} (h : ∀ c ∈ ps, c ∈ qs) {p q : Nat} (a : adj ps p q) : adj qs p q := a.imp (h _) (h _)
theorem ring_mono {ps qs : List NP} (h : ∀ c ∈ ps, c ∈ qs) (r : RingIn ps) : RingIn qs := by
  obtain ⟨p, q, r, s, a, b, c, d, e⟩ := r
  exact ⟨p, q, r, s, adj_mono h a, adj_mono h b, adj_mono h c, adj_mono h d, e⟩

/-! ## plans as schemes -/
theorem least (P : Nat → Prop) : ∀ m, (∃ i, i < m ∧ P i) → ∃ i, i < m ∧ P i ∧ ∀ j, j < m → P j → ¬ j < i
  | 0, ⟨i, h, _⟩ => absurd h (Nat.not_lt_zero i)
  | m + 1, ⟨i, h, p⟩ => by
    by_cases e : ∃ i, i < m ∧ P i
    · obtain ⟨k, hk, pk, mk⟩ := least P m e
      refine ⟨k, by omega, pk, fun j hj pj l => ?_⟩
      by_cases e2 : j < m
      · exact mk j e2 pj l
      · omega
    · have ei : i = m := by
        by_cases l : i < m
        · exact absurd ⟨i, l, p⟩ e
        · omega
      refine ⟨i, h, p, fun j hj pj l => e ⟨j, by omega, pj⟩⟩
theorem greatest (P : Nat → Prop) : ∀ m, (∃ i, i < m ∧ P i) → ∃ i, i < m ∧ P i ∧ ∀ j, j < m → P j → ¬ i < j
  | 0, ⟨i, h, _⟩ => absurd h (Nat.not_lt_zero i)
  | m + 1, ⟨i, h, p⟩ => by
    by_cases e : P m
    · exact ⟨m, by omega, e, fun j hj _ l => by omega⟩
    · have hi : i < m := by
        by_cases l : i = m
        · rw [l] at p; exact absurd p e
        · omega
      obtain ⟨k, hk, pk, mk⟩ := greatest P m ⟨i, hi, p⟩
      refine ⟨k, by omega, pk, fun j hj pj l => ?_⟩
      by_cases e2 : j < m
      · exact mk j e2 pj l
      · have : j = m := by omega
        subst this
        exact e pj
def schOf (n : Nat) (plan : List NP) (h : Valid n plan) : Sch where
  m := plan.length
  n := n
  a := fun i => (plan.getD i (0, 1)).1
  b := fun i => (plan.getD i (0, 1)).2
  lt := fun i j => i < j
  irr := Nat.lt_irrefl
  tr := Nat.lt_trans
  tot := fun i j ne => Nat.lt_or_gt_of_ne ne
  mn := fun P e => least P _ e
  mx := fun P e => greatest P _ e
  ha := fun i hi => by
    have : plan.getD i (0, 1) ∈ plan := by
      rw [List.getD_eq_getElem?_getD, List.getElem?_eq_getElem hi]
      exact List.getElem_mem hi
    exact h _ this
theorem take_step {plan : List NP} {k : Nat} (h : k < plan.length) : Kn (plan.take (k + 1)) = stepK (Kn (plan.take k)) (plan.getD k (0, 1)) := by
  unfold Kn
  rw [List.take_add_one, List.getElem?_eq_getElem h, List.foldl_append, List.getD_eq_getElem?_getD, List.getElem?_eq_getElem h]
  rfl
theorem kn_le {n : Nat} {plan : List NP} (v : Valid n plan) : ∀ k, k ≤ plan.length → ∀ p x, Kn (plan.take k) p x = true →
    p = x ∨ ∃ i j, j < k ∧ (schOf n plan v).inC x i ∧ (schOf n plan v).inC p j ∧ (schOf n plan v).Le i j
  | 0, _, p, x, h => by
    have : (p == x) = true := h
    exact .inl (by simpa using this)
  | k + 1, hk, p, x, h => by
    rw [take_step (by omega)] at h
    unfold stepK at h
    have hkm : k < (schOf n plan v).m := by show k < plan.length; omega
    by_cases e : p = (plan.getD k (0, 1)).1 ∨ p = (plan.getD k (0, 1)).2
    · rw [if_pos e] at h
      have hp : (schOf n plan v).inC p k := e
      have key : ∀ p', (schOf n plan v).inC p' k → Kn (plan.take k) p' x = true → ∃ i j, j < k + 1 ∧ (schOf n plan v).inC x i ∧ (schOf n plan v).inC p j ∧ (schOf n plan v).Le i j := fun p' hp' h' => by
        rcases kn_le v k (by omega) p' x h' with e1 | ⟨i, j, hj, a, b, l⟩
        · exact ⟨k, k, by omega, e1 ▸ hp', hp, .refl hkm⟩
        · exact ⟨i, k, by omega, a, hp, .tail l ⟨l.lt_right, hkm, hj, p', b, hp'⟩⟩
      rcases Bool.or_eq_true_iff.mp h with h1 | h1
      · exact .inr (key _ (.inl rfl) h1)
      · exact .inr (key _ (.inr rfl) h1)
    · rw [if_neg e] at h
      rcases kn_le v k (by omega) p x h with e1 | ⟨i, j, hj, r⟩
      · exact .inl e1
      · exact .inr ⟨i, j, by omega, r⟩
theorem gossip_plan {n : Nat} {plan : List NP} (h2 : 2 ≤ n) (h10 : n ≤ 10) (v : Valid n plan) (all : All n plan) (hm : plan.length + 4 ≤ 2 * n) :
    plan.length + 4 = 2 * n ∧ RingIn plan := by
  have ne : ∀ p x, p < n → x < n → p ≠ x → ∃ i j, (schOf n plan v).inC x i ∧ (schOf n plan v).inC p j ∧ (schOf n plan v).Le i j := fun p x hp hx e => by
    have h := all p hp x hx
    have h' : Kn (plan.take plan.length) p x = true := by rw [List.take_length]; exact h
    rcases kn_le v _ (Nat.le_refl _) p x h' with e1 | ⟨i, j, _, r⟩
    · exact absurd e1 e
    · exact ⟨i, j, r⟩
  have cp : (schOf n plan v).Comp := fun p q hp hq => by
    have hp' : p < n := hp
    have hq' : q < n := hq
    by_cases e : q = p
    · subst e
      obtain ⟨x, hx, nx⟩ : ∃ x, x < n ∧ q ≠ x := by
        by_cases z : q = 0
        · exact ⟨1, by omega, by omega⟩
        · exact ⟨0, by omega, z⟩
      obtain ⟨i, j, _, b, l⟩ := ne q x hq' hx nx
      exact ⟨j, j, b, b, .refl l.lt_right⟩
    · exact ne q p hq' hp' e
  have ed : ∀ p q, (schOf n plan v).Edge p q → adj plan p q := fun p q ⟨i, hi, x, y, ne⟩ => by
    have hi' : i < plan.length := hi
    have hm : plan.getD i (0, 1) ∈ plan := by
      rw [List.getD_eq_getElem?_getD, List.getElem?_eq_getElem hi']
      exact List.getElem_mem hi'
    have x' : p = (plan.getD i (0, 1)).1 ∨ p = (plan.getD i (0, 1)).2 := x
    have y' : q = (plan.getD i (0, 1)).1 ∨ q = (plan.getD i (0, 1)).2 := y
    rcases x' with x' | x' <;> rcases y' with y' | y'
    · exact absurd (x'.trans y'.symm) ne
    · refine .inl ?_
      rw [x', y']
      exact hm
    · refine .inr ?_
      rw [x', y']
      exact hm
    · exact absurd (x'.trans y'.symm) ne
  obtain ⟨h1, p, q, r, s, a, b, c, d, e1, e2⟩ := Sch.gossip (S := schOf n plan v) cp hm h10
  exact ⟨h1, p, q, r, s, ed _ _ a, ed _ _ b, ed _ _ c, ed _ _ d, e1, e2⟩

/-! ## what is asked -/
structure Web (n : Nat) (ps : List NP) : Prop where
  lt : ∀ c ∈ ps, c.1 < c.2 ∧ c.2 < n
  nd : ps.Nodup
  cn : ∀ C : Nat → Prop, (∃ r, r < n ∧ C r) → (∀ x y, adj ps x y → C x → C y) → ∀ x, x < n → C x
noncomputable def due (n : Nat) (ps : List NP) : Nat := @ite _ (RingIn ps) (Classical.propDecidable _) (2 * n - 4) (2 * n - 3)
theorem due_ring {n : Nat} {ps : List NP} (h : RingIn ps) : due n ps = 2 * n - 4 := if_pos h
theorem due_none {n : Nat} {ps : List NP} (h : ¬ RingIn ps) : due n ps = 2 * n - 3 := if_neg h
theorem Web.adj {n : Nat} {ps : List NP} (w : Web n ps) {p q : Nat} (a : adj ps p q) : p < n ∧ q < n ∧ p ≠ q := by
  rcases a with a | a
  · have h := w.lt _ a
    dsimp only at h
    omega
  · have h := w.lt _ a
    dsimp only at h
    omega
/-- a ring wants four people -/
theorem ring_four {n : Nat} {ps : List NP} (w : Web n ps) (r : RingIn ps) : 4 ≤ n := by
  obtain ⟨p, q, r, s, a, b, c, d, e1, e2⟩ := r
  have h1 := w.adj a
  have h2 := w.adj b
  have h3 := w.adj c
  have h4 := w.adj d
  omega
theorem short_fails {n : Nat} {ps plan : List NP} (h2 : 2 ≤ n) (h10 : n ≤ 10) (w : Web n ps) (sub : ∀ c ∈ plan, c ∈ ps) (hl : plan.length + 1 = due n ps) : ¬ All n plan := fun all => by
  have v : Valid n plan := fun c hc => by
    have := w.lt c (sub c hc)
    omega
  by_cases r : RingIn ps
  · rw [due_ring r] at hl
    have := (gossip_plan h2 h10 v all (by omega)).1
    omega
  · rw [due_none r] at hl
    exact r (ring_mono sub (gossip_plan h2 h10 v all (by omega)).2)

/-! ## the told plan -/
def srt (c : NP) : NP := (min c.1 c.2, max c.1 c.2)
theorem stepK_srt (f : Nat → Nat → Bool) (c : NP) : stepK f (srt c) = stepK f c := by
  funext p x
  unfold stepK srt
  dsimp only
  by_cases h : c.1 ≤ c.2
  · rw [Nat.min_eq_left h, Nat.max_eq_right h]
  · rw [Nat.min_eq_right (by omega), Nat.max_eq_left (by omega), Bool.or_comm (f c.2 x)]
    by_cases e : p = c.1 ∨ p = c.2
    · rw [if_pos e, if_pos e.symm]
    · rw [if_neg e, if_neg fun z => e z.symm]
theorem fold_srt : ∀ (l : List NP) (f : Nat → Nat → Bool), (l.map srt).foldl stepK f = l.foldl stepK f
  | [], _ => rfl
  | c :: l, f => by
    show (l.map srt).foldl stepK (stepK f (srt c)) = l.foldl stepK (stepK f c)
    rw [stepK_srt, fold_srt l]
theorem kn_srt (l : List NP) : Kn (l.map srt) = Kn l := fold_srt l k0
theorem all_srt {n : Nat} {l : List NP} (h : All n l) : All n (l.map srt) := by
  unfold All
  rw [kn_srt]
  exact h
theorem Web.srt_mem {n : Nat} {ps : List NP} (w : Web n ps) {c : NP} (a : K74.adj ps c.1 c.2) : srt c ∈ ps := by
  obtain ⟨x, y⟩ := c
  rcases a with a | a
  · have h := w.lt _ a
    dsimp only at h a
    unfold srt
    dsimp only
    rw [Nat.min_eq_left (by omega), Nat.max_eq_right (by omega)]
    exact a
  · have h := w.lt _ a
    dsimp only at h a
    unfold srt
    dsimp only
    rw [Nat.min_eq_right (by omega), Nat.max_eq_left (by omega)]
    exact a

theorem stepK_mono {f : Nat → Nat → Bool} {c : NP} {p x : Nat} (h : f p x = true) : stepK f c p x = true := by
  unfold stepK
  by_cases e : p = c.1 ∨ p = c.2
  · rw [if_pos e]
    rcases e with e | e
    · rw [← e, h, Bool.true_or]
    · rw [← e, h, Bool.or_true]
  · rw [if_neg e]; exact h
theorem fold_mono : ∀ (l : List NP) {f : Nat → Nat → Bool} {p x : Nat}, f p x = true → l.foldl stepK f p x = true
  | [], _, _, _, h => h
  | c :: l, _, _, _, h => fold_mono l (stepK_mono h)
theorem stepK_both {f : Nat → Nat → Bool} {c : NP} {p q x : Nat} (hp : p = c.1 ∨ p = c.2) (hq : q = c.1 ∨ q = c.2) (h : f p x = true) : stepK f c q x = true := by
  unfold stepK
  rw [if_pos hq]
  rcases hp with e | e
  · rw [← e, h, Bool.true_or]
  · rw [← e, h, Bool.or_true]

/-- a forest: each pair is a new person and one that is there -/
structure Forest (ps : List NP) (S : List Nat) (fs : List NP) : Prop where
  nd : (S ++ fs.map (·.1)).Nodup
  st : ∀ i c, fs[i]? = some c → adj ps c.1 c.2 ∧ c.2 ∈ S ++ (fs.take i).map (·.1)
  cl : ∀ x ∈ S ++ fs.map (·.1), ∀ y, adj ps x y → y ∈ S ++ fs.map (·.1)
/-- the order alone -/
def Ord (S : List Nat) (fs : List NP) : Prop := ∀ i c, fs[i]? = some c → c.2 ∈ S ++ (fs.take i).map (·.1)
theorem ord_init {S : List Nat} {fs : List NP} {c : NP} (h : Ord S (fs ++ [c])) : Ord S fs ∧ c.2 ∈ S ++ fs.map (·.1) := by
  refine ⟨fun i d hd => ?_, ?_⟩
  · have hi : i < fs.length := (List.getElem?_eq_some_iff.mp hd).1
    have := h i d (by rw [List.getElem?_append_left hi]; exact hd)
    rwa [List.take_append_of_le_length (by omega)] at this
  · have := h fs.length c (by rw [List.getElem?_append_right (Nat.le_refl _), Nat.sub_self]; rfl)
    rwa [List.take_append_of_le_length (Nat.le_refl _), List.take_length] at this
theorem snoc_ind {α : Type} {P : List α → Prop} (h0 : P []) (hs : ∀ l c, P l → P (l ++ [c])) (l : List α) : P l := by
  have : P l.reverse.reverse := by
    induction l.reverse with
    | nil => exact h0
    | cons c l ih => rw [List.reverse_cons]; exact hs _ _ ih
  rwa [List.reverse_reverse] at this
theorem gather {S : List Nat} (fs : List NP) : Ord S fs → ∀ (f : Nat → Nat → Bool) (z u : Nat), z ∈ S ++ fs.map (·.1) → f z u = true → ∃ s, s ∈ S ∧ fs.reverse.foldl stepK f s u = true := by
  refine snoc_ind (P := fun fs => Ord S fs → ∀ (f : Nat → Nat → Bool) (z u : Nat), z ∈ S ++ fs.map (·.1) → f z u = true → ∃ s, s ∈ S ∧ fs.reverse.foldl stepK f s u = true) ?_ ?_ fs
  · intro _ f z u hz h
    rw [List.map_nil, List.append_nil] at hz
    exact ⟨z, hz, h⟩
  · intro l c ih o f z u hz h
    obtain ⟨o1, o2⟩ := ord_init o
    rw [List.reverse_append, List.reverse_cons, List.reverse_nil, List.nil_append, List.singleton_append]
    show ∃ s, s ∈ S ∧ l.reverse.foldl stepK (stepK f c) s u = true
    rw [List.map_append, ← List.append_assoc] at hz
    rcases List.mem_append.mp hz with hz | hz
    · exact ih o1 _ z u hz (stepK_mono h)
    · have ez : z = c.1 := by simpa using hz
      exact ih o1 _ c.2 u o2 (stepK_both (.inl ez) (.inr rfl) h)
theorem spread {S : List Nat} {n : Nat} (fs : List NP) : Ord S fs → ∀ f : Nat → Nat → Bool, (∀ s, s ∈ S → ∀ u, u < n → f s u = true) → ∀ z, z ∈ S ++ fs.map (·.1) → ∀ u, u < n → fs.foldl stepK f z u = true := by
  refine snoc_ind (P := fun fs => Ord S fs → ∀ f : Nat → Nat → Bool, (∀ s, s ∈ S → ∀ u, u < n → f s u = true) → ∀ z, z ∈ S ++ fs.map (·.1) → ∀ u, u < n → fs.foldl stepK f z u = true) ?_ ?_ fs
  · intro _ f h z hz u hu
    rw [List.map_nil, List.append_nil] at hz
    exact h z hz u hu
  · intro l c ih o f h z hz u hu
    obtain ⟨o1, o2⟩ := ord_init o
    rw [List.foldl_append]
    show stepK (l.foldl stepK f) c z u = true
    rw [List.map_append, ← List.append_assoc] at hz
    rcases List.mem_append.mp hz with hz | hz
    · exact stepK_mono (ih o1 f h z hz u hu)
    · have ez : z = c.1 := by simpa using hz
      exact stepK_both (.inr rfl) (.inl ez) (ih o1 f h c.2 o2 u hu)
theorem Forest.ord {ps : List NP} {S : List Nat} {fs : List NP} (F : Forest ps S fs) : Ord S fs := fun i c h => (F.st i c h).2
/-- all are reached -/
theorem Forest.all {n : Nat} {ps : List NP} {S : List Nat} {fs : List NP} (w : Web n ps) (F : Forest ps S fs) {r : Nat} (hr : r ∈ S) (hn : r < n) : ∀ x, x < n → x ∈ S ++ fs.map (·.1) :=
  w.cn (fun x => x ∈ S ++ fs.map (·.1)) ⟨r, hn, List.mem_append_left _ hr⟩ fun x y a hx => F.cl x hx y a
theorem nodup_lt_length : ∀ (n : Nat) (l : List Nat), l.Nodup → (∀ x ∈ l, x < n) → l.length ≤ n
  | 0, [], _, _ => Nat.le_refl 0
  | 0, x :: _, _, h => absurd (h x List.mem_cons_self) (Nat.not_lt_zero x)
  | n + 1, l, nd, h => by
    have h1 := nodup_lt_length n (l.erase n) (nd.erase n) fun x hx => by
      have h2 := h x (List.mem_of_mem_erase hx)
      have h3 : x ≠ n := fun e => by
        rw [e] at hx
        exact nd.not_mem_erase hx
      omega
    have := List.length_erase (a := n) (l := l)
    by_cases e : n ∈ l
    · rw [if_pos e] at this
      omega
    · rw [if_neg e] at this
      omega
theorem all_lt_length : ∀ (n : Nat) (l : List Nat), (∀ x, x < n → x ∈ l) → n ≤ l.length
  | 0, _, _ => Nat.zero_le _
  | n + 1, l, h => by
    have hm := h n (by omega)
    have h1 := all_lt_length n (l.erase n) fun x hx => (List.mem_erase_of_ne (show x ≠ n by omega)).mpr (h x (by omega))
    have h2 := List.length_erase (a := n) (l := l)
    rw [if_pos hm] at h2
    have h3 : 0 < l.length := List.length_pos_of_mem hm
    omega
theorem Forest.length {n : Nat} {ps : List NP} {S : List Nat} {fs : List NP} (w : Web n ps) (F : Forest ps S fs) {r : Nat} (hr : r ∈ S) (hS : ∀ x ∈ S, x < n) : S.length + fs.length = n := by
  have h1 := nodup_lt_length n _ F.nd fun x hx => by
    rcases List.mem_append.mp hx with hx | hx
    · exact hS x hx
    · obtain ⟨c, hc, rfl⟩ := List.mem_map.mp hx
      obtain ⟨i, hi⟩ := List.getElem?_of_mem hc
      exact (w.adj (F.st i c hi).1).1
  have h2 := all_lt_length n _ (F.all w hr (hS r hr))
  rw [List.length_append, List.length_map] at h1 h2
  omega
theorem kn_self (l : List NP) (p : Nat) : Kn l p p = true := fold_mono l (by unfold k0; simp)
theorem k0_self (p : Nat) : k0 p p = true := by unfold k0; simp

/-- no ring: all to one, and back -/
theorem tree_plan {n : Nat} {ps fs : List NP} (w : Web n ps) (hn : 2 ≤ n) (F : Forest ps [0] fs) : All n (fs.reverse ++ fs.reverse.dropLast.reverse) := by
  have hl := F.length w List.mem_cons_self fun x hx => by
    have : x = 0 := by simpa using hx
    omega
  have hl' : fs.length + 1 = n := by
    rw [← hl]; simp; omega
  match fs, F, hl' with
  | [], _, h => exact absurd h (by simp; omega)
  | c :: l, F, _ =>
    have e : (c :: l).reverse.dropLast.reverse = l := by
      rw [List.reverse_cons, List.dropLast_concat, List.reverse_reverse]
    rw [e]
    have hc2 : c.2 = 0 := by
      have := F.ord 0 c rfl
      simpa using this
    intro p hp x hx
    have in_all := F.all w (r := 0) List.mem_cons_self (by omega)
    unfold Kn
    rw [List.foldl_append]
    have o : Ord [0, c.1] l := fun i d hd => by
      have := F.ord (i + 1) d hd
      rw [List.take_succ_cons, List.map_cons] at this
      simpa using this
    refine spread (n := n) l o _ (fun s hs u hu => ?_) p (by simpa using in_all p hp) x hx
    have zero : (c :: l).reverse.foldl stepK k0 0 u = true := by
      obtain ⟨s, hs, h⟩ := gather (c :: l) F.ord k0 u u (in_all u hu) (k0_self u)
      have es : s = 0 := by simpa using hs
      rw [es] at h
      exact h
    have hs' : s = 0 ∨ s = c.1 := by simpa using hs
    rcases hs' with e0 | e1
    · rw [e0]; exact zero
    · rw [List.reverse_cons, List.foldl_append] at zero ⊢
      show stepK (l.reverse.foldl stepK k0) c s u = true
      have zero' : stepK (l.reverse.foldl stepK k0) c 0 u = true := zero
      unfold stepK at zero' ⊢
      rw [if_pos (.inr hc2.symm)] at zero'
      rw [if_pos (.inl e1)]
      exact zero'
theorem ring_plan {n : Nat} {ps fs : List NP} {a b c d : Nat} (w : Web n ps) (ha : a < n) (F : Forest ps [a, b, c, d] fs) :
    All n (fs.reverse ++ [(a, b), (c, d), (b, c), (a, d)] ++ fs) := by
  intro p hp x hx
  have in_all := F.all w (r := a) List.mem_cons_self ha
  unfold Kn
  rw [List.foldl_append, List.foldl_append]
  refine spread (n := n) fs F.ord _ (fun s hs u hu => ?_) p (in_all p hp) x hx
  obtain ⟨s0, hs0, h⟩ := gather fs F.ord k0 u u (in_all u hu) (k0_self u)
  generalize fs.reverse.foldl stepK k0 = f at h
  show stepK (stepK (stepK (stepK f (a, b)) (c, d)) (b, c)) (a, d) s u = true
  have hs0' : s0 = a ∨ s0 = b ∨ s0 = c ∨ s0 = d := by simpa using hs0
  have hs' : s = a ∨ s = b ∨ s = c ∨ s = d := by simpa using hs
  -- behind the first two calls a and b know it, or c and d do
  have two : (∀ t, t = a ∨ t = b → stepK (stepK f (a, b)) (c, d) t u = true) ∨ (∀ t, t = c ∨ t = d → stepK (stepK f (a, b)) (c, d) t u = true) := by
    rcases hs0' with e | e | e | e
    · exact .inl fun t ht => stepK_mono (stepK_both (.inl e) ht h)
    · exact .inl fun t ht => stepK_mono (stepK_both (.inr e) ht h)
    · exact .inr fun t ht => stepK_both (.inl e) ht (stepK_mono h)
    · exact .inr fun t ht => stepK_both (.inr e) ht (stepK_mono h)
  generalize stepK (stepK f (a, b)) (c, d) = g at two
  have hb : stepK g (b, c) b u = true ∧ stepK g (b, c) c u = true := by
    rcases two with t | t
    · exact ⟨stepK_mono (t b (.inr rfl)), stepK_both (.inl rfl) (.inr rfl) (t b (.inr rfl))⟩
    · exact ⟨stepK_both (.inr rfl) (.inl rfl) (t c (.inl rfl)), stepK_mono (t c (.inl rfl))⟩
  have had : stepK g (b, c) a u = true ∨ stepK g (b, c) d u = true := by
    rcases two with t | t
    · exact .inl (stepK_mono (t a (.inl rfl)))
    · exact .inr (stepK_mono (t d (.inr rfl)))
  rcases hs' with e | e | e | e
  · rcases had with t | t
    · rw [e]; exact stepK_mono t
    · exact stepK_both (.inr rfl) (.inl e) t
  · rw [e]; exact stepK_mono hb.1
  · rw [e]; exact stepK_mono hb.2
  · rcases had with t | t
    · exact stepK_both (.inl rfl) (.inr e) t
    · rw [e]; exact stepK_mono t
end K74


/-! Rules of our own: the back slice from -2 on, sorted of a tuple of ints, set of a list of ints. -/
namespace K74
open PySem PySem.Spec PyProof.Rows L2

/-! ### xs[-2::-1] -/
theorem fm_congr {α β : Type} {f g : α → Option β} : ∀ {l : List α}, (∀ x ∈ l, f x = g x) → l.filterMap f = l.filterMap g
  | [], _ => rfl
  | x :: l, h => by
    rw [List.filterMap_cons, List.filterMap_cons, h x List.mem_cons_self, fm_congr fun y hy => h y (List.mem_cons_of_mem _ hy)]
theorem pick_back2 (its : List Value) : slicePick its.toArray (some (-2)) none (some (-1)) = its.dropLast.reverse.toArray := by
  have hb : sliceBounds (some (-2)) none (some (-1)) its.toArray.size = (((its.length - 1 : Nat) : Int) - 1, -1, -1) := by
    unfold sliceBounds
    simp only [List.size_toArray, Option.getD_some]
    refine Prod.ext ?_ (Prod.ext ?_ rfl)
    · show (if (-1 : Int) > 0 then max 0 (min (if (-2 : Int) < 0 then -2 + (its.length : Int) else -2) its.length) else max (-1) (min (if (-2 : Int) < 0 then -2 + (its.length : Int) else -2) ((its.length : Int) - 1))) = _
      rw [if_neg (by decide), if_pos (by decide)]
      omega
    · rfl
  unfold slicePick
  rw [hb]
  have key := PySem.W.krv_pick its.dropLast.toArray
  unfold slicePick at key
  rw [PySem.W.krv_bounds] at key
  simp only [List.size_toArray, List.length_dropLast] at key
  show ((sliceRange (((its.length - 1 : Nat) : Int) - 1) (-1) (-1)).filterMap (its.toArray[·]?)).toArray = _
  have e : (sliceRange (((its.length - 1 : Nat) : Int) - 1) (-1) (-1)).filterMap (its.toArray[·]?) = (sliceRange (((its.length - 1 : Nat) : Int) - 1) (-1) (-1)).filterMap (its.dropLast.toArray[·]?) := by
    rw [PySem.W.krv_sliceRange]
    refine fm_congr fun k hk => ?_
    obtain ⟨j, hj, rfl⟩ := List.mem_map.mp hk
    have hj' := List.mem_range.mp hj
    rw [List.getElem?_toArray, List.getElem?_toArray, List.getElem?_dropLast, if_pos (by omega)]
  rw [e]
  exact key
section
variable {X : Cx}
def tBack2 (K : PySem.W.Frag) (te : TE) : TE := fun σ H Q => te σ H fun x H1 => ∃ a xs, x = .ref a ∧ SqL K H1 a xs ∧ ∀ p, H1 p = none → Q (.ref p) (upd H1 p (.lst xs.dropLast.reverse))
theorem vals_dropLast : ∀ {xs : List V} {us : List Value}, Vals xs us → Vals xs.dropLast us.dropLast := fun {xs us} r => by
  rw [List.dropLast_eq_take, List.dropLast_eq_take, r.length]
  exact r.take _
theorem pe_back2 {e : Expr} {te : TE} {k k2 : Nat} {p1 p2 p3 p4 p5 pos : Pos} (he : PE X e te) :
    PE X (.Subscript e (.Slice (some (.UnaryOp .USub (.Constant (.int 2) k2 p4) p5)) none (some (.UnaryOp .USub (.Constant (.int 1) k p1) p2)) p3) pos) (tBack2 X.K te) := by
  refine ⟨fun pins s σ H Q I h => ?_⟩
  refine Subscript_ (thn (he.run pins s σ H _ I h) fun v s1 ⟨x, H1, I1, r1, q1⟩ => ?_)
  obtain ⟨a, xs, ex, hx, q⟩ := q1
  subst ex
  cases r1
  have hlo : PO X (some (.UnaryOp .USub (.Constant (.int 2) k2 p4) p5)) (tPart (tUn (rU fun i => .int (-i)) (tC (.int 2)))) := po_some (pe_un un_neg pe_int)
  have hst : PO X (some (.UnaryOp .USub (.Constant (.int 1) k p1) p2)) (tPart (tUn (rU fun i => .int (-i)) (tC (.int 1)))) := po_some (pe_un un_neg pe_int)
  refine wpAny_Slice (thn (hlo.run pins s1 σ H1 (fun o H2 => o = some (-2) ∧ H2 = H1) I1 ⟨2, rfl, -2, rfl, rfl, rfl⟩) fun vl s2 ⟨lo, H2, I2, pl, e1, e2⟩ => ?_)
  subst e1 e2
  refine thn (po_none.run pins s2 σ H2 (fun o H3 => o = none ∧ H3 = H2) I2 ⟨rfl, rfl⟩) fun vu s3 ⟨hi, H3, I3, pu, e3, e4⟩ => ?_
  subst e3 e4
  refine thn (hst.run pins s3 σ H3 (fun o H4 => o = some (-1) ∧ H4 = H3) I3 ⟨1, rfl, -1, rfl, rfl, rfl⟩) fun vs s4 ⟨st, H4, I4, ps, e5, e6⟩ => ?_
  subst e5 e6
  have I5 : Inv X pins σ H4 { s4 with heap := s4.heap.push { cls := .type "slice", data := .fields #[vl, vu, vs] } } :=
    I4.kept (t' := s4.toks) fun b ob z => Heap.get?_push_of_some _ z
  obtain ⟨its, rv, pL, hz⟩ := I5.list hx
  have hlen := rv.length
  show wpAny (model X.prog X.w) X.A (subscriptTail e (.Slice (some (.UnaryOp .USub (.Constant (.int 2) k2 p4) p5)) none (some (.UnaryOp .USub (.Constant (.int 1) k p1) p2)) p3) (.ref a) (.ref s4.heap.objs.size)) (EP X pins σ Q) X.xe
    { s4 with heap := s4.heap.push { cls := .type "slice", data := .fields #[vl, vu, vs] } }
  refine tail_any (ops := [.ref a, .ref s4.heap.objs.size]) pL.isList.typeIs (PySem.slot_list_getitem.lookup) ?_ (by with_unfolding_all rfl)
  refine wpAny_getItem_list_slice pL.isList (Heap.IsSliceOf.new _ vl vu vs) pl pu ps (by decide) ?_ (by rw [List.size_toArray]; omega)
  rw [pick_back2]
  have hn : (xs.dropLast.reverse).length ≤ sizeLine := by
    rw [List.length_reverse, List.length_dropLast]
    exact Nat.le_trans (Nat.sub_le _ _) hz
  exact ⟨.ref _, _, I5.laid (t' := s4.toks) (o := .lst xs.dropLast.reverse) (fun b ob z => Heap.get?_push_of_some _ z) (Nat.le_refl _) ⟨hn, _, 0, (vals_dropLast rv).reverse, Heap.get?_push_size _ rfl⟩, rfl,
    q _ (I5.hok.fresh (Nat.le_refl _))⟩
end

/-! ### sorted(t), t a tuple of ints -/
section
variable {prog : Program} {w : World} {A : Around} {E : Value → Shared → Prop} {s : Shared}
theorem collect_tup {l : Addr} {vs : List Value} {Q : List Value → Shared → Prop} (hl : IsTup s.heap l vs.toArray)
    (h : Q vs { s with heap := (s.heap.push (seqObj "list" #[] 0)).update s.heap.objs.size (Obj.mapSeq (· ++ vs.toArray)) }) (hsz : vs.length ≤ sizeLine) :
    wpAny (model prog w) A (collect (.ref l)) Q E s := by
  obtain ⟨o, ho, hc, n, hd⟩ := hl
  have ho2 : (s.heap.push (seqObj "list" #[] 0)).get? l = some o := Heap.get?_push_of_some _ ho
  unfold collect
  refine wpAny_bind (wpAny_runValue (codeAny_builtin entry_proto_collect' ?_))
  show wpAny _ _ (do again (.builtin "list.__iadd__" ⟨[← newList [], .ref l], []⟩)) _ _ s
  refine wpAny_bind (wpAny_newList (wpAny_pure ⟨Code.quiet_builtin _ (by decide +kernel), codeAny_builtin entry_list_iadd' ?_⟩))
  show wpAny _ _ (Builtin.List.listExtendWith (.ref s.heap.objs.size) (.ref l) (.ref s.heap.objs.size)) _ _ { s with heap := s.heap.push (seqObj "list" #[] 0) }
  unfold Builtin.List.listExtendWith
  refine wpAny_bind (wpAny_typeOf (T := "tuple") ⟨o, ho2, hc⟩ ?_)
  rw [if_pos (show _ = true by rw [show (Value.type "tuple" == Value.type "tuple") = true from rfl]; simp)]
  refine wpAny_bind (listItems_at ho2 hd ?_)
  refine wpAny_bind (listItems_at (xs := #[]) (n := 0) (Heap.get?_push_size _ rfl) rfl ?_)
  rw [if_neg (by simp)]
  refine wpAny_bind (listUpdate_at (xs := #[]) (n := 0) (Heap.get?_push_size _ rfl) rfl ?_ (Nat.zero_le _) (by
    show (#[] ++ vs.toArray).size ≤ sizeLine + 1
    simp only [Array.size_append, List.size_toArray, List.length_nil]
    omega))
  refine wpAny_pure ?_
  show wpAny (model prog w) A (do
      let o ← load s.heap.objs.size
      match o.data with
      | .seq xs _ => pure xs.toList
      | _ => unsupported "internal:collect") Q E { s with heap := (s.heap.push (seqObj "list" #[] 0)).update s.heap.objs.size (Obj.mapSeq (· ++ vs.toArray)) }
  refine wpAny_bind (wpAny_load (get?_update_seq (Heap.get?_push_size _ rfl) _) ?_)
  have e : ((#[] : Array Value) ++ vs.toArray).toList = vs := by simp
  show wpAny _ _ (pure ((#[] : Array Value) ++ vs.toArray).toList) Q E _
  rw [e]
  exact wpAny_pure h
theorem sorted_tupI {l : Addr} {vs : List Value} {ns : List Int} {Q : Value → Shared → Prop} (hl : IsTup s.heap l vs.toArray) (hI : IntsAre vs ns) (h64 : vs.length < 64)
    (h : ∀ (out : Array Value) (ns' : List Int), IntsAre out.toList ns' → ns'.Perm ns → ns'.Pairwise (· ≤ ·) → Q (.ref (s.heap.objs.size + 1)) { s with heap := sortedAll s.heap vs out }) :
    wpAny (model prog w) A (call (.builtin "sorted") [.ref l]) Q E s := by
  have hz : ((s.heap.push (seqObj "list" #[] 0)).update s.heap.objs.size (Obj.mapSeq (· ++ vs.toArray))).objs.size = s.heap.objs.size + 1 := by
    rw [Heap.size_update, size_push']
  have hL : (((s.heap.push (seqObj "list" #[] 0)).update s.heap.objs.size (Obj.mapSeq (· ++ vs.toArray))).push (seqObj "list" vs.toArray 0)).get? (s.heap.objs.size + 1) = some (seqObj "list" vs.toArray 0) :=
    hz ▸ Heap.get?_push_size _ rfl
  refine Calls.call_function_entry kind_sorted plain_sorted entry_sorted (args_sorted1 _) ?_
  unfold Builtin.«sorted»
  refine wpAny_bind (m := checkCount "sorted" 1 1 _) (wpAny_pure ?_)
  refine wpAny_bind (collect_tup hl ?_ (by rw [sizeLine_eq]; omega))
  refine wpAny_bind (wpAny_newList ?_)
  show wpAny _ _ _ _ _ { s with heap := ((s.heap.push (seqObj "list" #[] 0)).update s.heap.objs.size (Obj.mapSeq (· ++ vs.toArray))).push (seqObj "list" vs.toArray 0) }
  rw [hz]
  refine wpAny_bind (wpAny_holding (wpAny_call_entry slot_list_sort ⟨_, hL, rfl⟩ entry_list_sort (list_sort_tree hL hI h64 fun out ns' b1 b2 b3 => ⟨_, rfl, wpAny_pure ⟨_, rfl, h out ns' b1 b2 b3⟩⟩) (args_list_sort _)))
end
section
variable {X : Cx}
def rSortedTI (K : PySem.W.Frag) : List V → Hp → VK → Prop := fun vs H Q => ∃ (a : Addr) (ns : List Int), vs = [V.ref a] ∧ SqT K H a (ns.map V.int) ∧ ns.length < 64 ∧
  ∀ (ns' : List Int) (p : Addr), ns'.Perm ns → ns'.Pairwise (· ≤ ·) → H p = none → Q (.ref p) (upd H p (.lst (ns'.map V.int)))
theorem cr_sortedTI : CallR X (.builtin "sorted") (rSortedTI X.K) := by
  intro pins s σ H vs us Q I r h
  obtain ⟨a, ns, rfl, hs, h64, q⟩ := h
  obtain ⟨its, rv, hl, _⟩ := I.tuple hs
  rw [Vals.ref1 r]
  refine sorted_tupI hl rv.ints (by rw [rv.ints.length]; exact h64) fun out ns' b1 b2 b3 => ?_
  obtain ⟨ep, he⟩ := PyProof.Rows.sortedAll_at s.heap its out
  have hn : (ns'.map V.int).length ≤ sizeLine := by
    rw [List.length_map, b2.length_eq]
    exact small64 h64
  exact ⟨.ref _, _, I.laid (t' := s.toks) (a := s.heap.objs.size + 1) (o := .lst (ns'.map V.int)) (fun _ _ => PyProof.Rows.sortedAll_old) (Nat.le_succ _) ⟨hn, out.toList, ep, vals_of_ints b1, he⟩, rfl, q ns' _ b2 b3 (I.hok.fresh (Nat.le_succ _))⟩
end

/-! ### set(xs), xs a list of ints -/
section
variable {P : Program} {w : World} {A : Around} {E : Value → Shared → Prop} {s : Shared}
/-- the heap with the empty set laid on it -/
abbrev setHeap (w : World) (h : Heap) : Heap := h.push { cls := .type "set", dict := none, data := .set #[] 0 (.fresh 0 0 (!w.params.followText "set-order")) }
set_option maxHeartbeats 6400000 in
theorem call_set_listI {l : Addr} {items : Array Value} (ns : List Int) {Q : Value → Shared → Prop} (hh : A.handled = none) (hl : s.heap.IsList l items) (hit : IntsAre items.toList ns) (hb : ns.length + 1 < scanBound)
    (h : ∀ (h' : Heap) (tk c : Nat), SetR w h' s.heap.objs.size (fun j => decide (j ∈ ns)) c → c ≤ ns.length → (∀ b o, s.heap.get? b = some o → h'.get? b = some o) → Q (.ref s.heap.objs.size) { s with heap := h', toks := tk }) :
    wpAny (model P w) A (call (.type "set") [.ref l]) Q E s := by
  have hisz : items.size = ns.length := (Array.length_toList (xs := items)).symm.trans (IntsAre.length hit)
  obtain ⟨c, tl, hmro⟩ := F.called_set.mro
  have hmade := F.called_set.made
  have hsub := F.called_set.sub
  have h1 := F.called_set.notType
  have h2 := F.called_set.canCreate
  have hct := F.typeCall_set_1 (.ref l)
  refine wpAny_call (codeAny_of_tree ?_)
  show wpAny _ _ (callAny (.type "set") _) _ _ _
  refine wpAny_pure ⟨Code.quiet_builtin _ (by decide +kernel), codeAny_builtin F.entry_type_call ?_⟩
  rw [Around.under_plain (weight_type_call_type "set" [.ref l] []) rfl]
  repeat (any_goals (first | assumption | wp_step))
  refine codeAny_mono (code_set_led1 (.ref l) (E := E) (Q₁ := fun obj s₁ => obj = .ref s.heap.objs.size ∧ s₁ = { s with heap := setHeap w s.heap }) ⟨rfl, rfl⟩) fun r s₁ hr => ?_
  cases r with
  | error e => exact hr
  | ok fl =>
    cases fl with
    | ret obj =>
      obtain ⟨rfl, rfl⟩ := hr
      have hS : (setHeap w s.heap).get? s.heap.objs.size = some { cls := .type "set", dict := none, data := .set #[] 0 (.fresh 0 0 (!w.params.followText "set-order")) } := Heap.get?_push_size _ rfl
      have hT : Shared.TypeIs { s with heap := setHeap w s.heap } (.ref s.heap.objs.size) "set" := ⟨_, hS, rfl⟩
      have hli := F.called_set.init.lookup
      have hbi := F.called_set.init.bind (.ref s.heap.objs.size)
      repeat (any_goals (first | assumption | wp_step))
      refine codeAny_mono (codeAny_call_builtin (R := wants (fun r s₂ => r = .none ∧ ∃ h' tk c, s₂ = { s with heap := h', toks := tk } ∧ SetR w h' s.heap.objs.size (fun j => decide (j ∈ ns)) c ∧ c ≤ ns.length ∧
          (∀ b o, s.heap.get? b = some o → h'.get? b = some o)) E) F.called_set.init.plain F.entry_set_init (check_set_init_1 hT ?_)) fun r₂ s₂ hr₂ => ?_
      · have hl1 : (setHeap w s.heap).IsList l items := hl.push _
        obtain ⟨ol, hol, hcl, nl, hdl⟩ := hl
        obtain ⟨ocls, odict, odata, oslots⟩ := ol
        simp only at hcl hdl
        subst hcl; subst hdl
        have hol' : (setHeap w s.heap).get? l = some { cls := .type "list", dict := odict, data := .seq items nl, slots := oslots } := Heap.get?_push_of_some _ hol
        have hsls := F.sub_list_set
        have hslf := F.sub_list_frozenset
        have hne : (Value.type "list" == Value.type "dict") = false := by decide
        unfold Builtin.«set.__init__» noKeywords Builtin.Frozenset.updateFrom
        generalize hPI : pyIter = PI
        wp_walk
        subst hPI
        refine wpAny_pyIter_list hl1 (wpAny_bind (wpAny_runValue ?_))
        have hlS : l < s.heap.objs.size := Heap.lt_size hol
        have hsz1 : (setHeap w s.heap).objs.size = s.heap.objs.size + 1 := Heap.size_push ..
        have hSf : s.heap.objs.size ∉ [(setHeap w s.heap).objs.size, l] := by
          rw [hsz1]
          intro z
          rcases List.mem_cons.mp z with z | z
          · exact Nat.ne_of_lt (Nat.lt_succ_self _) z
          · exact Nat.ne_of_gt hlS (List.mem_singleton.mp z)
        have hval : ∀ (i : Nat) (v : Value), items[i]? = some v → ∃ k t, ns[i]? = some k ∧ v = .int k t := fun i v hv => by
          have hi : i < ns.length := hisz ▸ (Array.getElem?_eq_some_iff.mp hv).1
          obtain ⟨t, e⟩ := PyProof.Rows.IntsAre.int_at hit i v (by rw [Array.getElem?_toList]; exact hv)
          rw [List.getD_eq_getElem?_getD, List.getElem?_eq_getElem hi] at e
          exact ⟨ns[i], t, List.getElem?_eq_getElem hi, e⟩
        refine set_update_ints ((Walks.list (by simp [hh]) _ l (by rw [hsz1]; exact Nat.ne_of_lt (Nat.lt_succ_of_lt hlS)) items).toS) s.heap.objs.size hSf ns hisz hb hval (items.size - 0) 0 _ (by omega) (Nat.zero_le _)
          ⟨⟨_, Heap.get?_push_size _ rfl, rfl, rfl⟩, hl1.push _⟩ ⟨0, Nat.le_refl 0, setR_new_at (Heap.get?_push_of_some _ hS)⟩ fun s' c' hm hc' hS' => ?_
        obtain ⟨h', g2, d', tk', os'⟩ := s'
        have eg : g2 = s.gens := hm.gens
        have ed : d' = s.drawn := hm.drawn
        have eo : os' = s.os := hm.os
        subst eg; subst ed; subst eo
        show wpAny _ _ _ _ _ _
        refine wpAny_pure ?_
        show wpAny _ _ (ret Value.none) _ _ _
        refine wpAny_pure ⟨rfl, h', tk', c', rfl, hS', hisz ▸ hc', fun b o e => ?_⟩
        have hb0 : b < s.heap.objs.size := Heap.lt_size e
        refine hm.heap b o (fun z => ?_) (Heap.get?_push_of_some _ (Heap.get?_push_of_some _ e))
        rcases List.mem_cons.mp z with z | z
        · exact Nat.ne_of_lt hb0 z
        · rcases List.mem_cons.mp z with z | z
          · exact Nat.ne_of_lt (Nat.lt_succ_of_lt hb0) (z.trans hsz1)
          · cases z
      · cases r₂ with
        | error e => exact hr₂
        | ok fl₂ =>
          cases fl₂ with
          | ret r =>
            obtain ⟨rfl, h', tk, c', rfl, hS', hc', hk'⟩ := hr₂
            repeat (any_goals (first | assumption | wp_step))
            exact h _ _ _ hS' hc' hk'
          | _ => exact hr₂.elim
    | _ => exact hr.elim
end
section
variable {X : Cx}
def rSetOfI (K : PySem.W.Frag) (w : World) : List V → Hp → VK → Prop := fun xs H Q => ∃ (l : Addr) (ns : List Int), xs = [V.ref l] ∧ SqL K H l (ns.map V.int) ∧ ns.length < 1000 ∧
  ∀ a c, H a = none → c ≤ ns.length → Q (.ref a) (upd H a (SetO w a (fun j => decide (j ∈ ns)) c))
theorem cr_setOfI (hc : X.calm = true) : CallR X (.type "set") (rSetOfI X.K X.w) := by
  intro pins s σ H xs us Q I r h
  obtain ⟨l, ns, rfl, hl, hn, q⟩ := h
  rw [Vals.ref1 r]
  obtain ⟨its, rv, pl, hz⟩ := I.list hl
  have hi : IntsAre its.toArray.toList ns := by
    have := rv.ints
    simpa using this
  refine call_set_listI (P := X.prog) (w := X.w) ns (I.ok.hd hc) pl.isList hi (by unfold scanBound; omega) fun h' tk c R hcn k => ?_
  exact ⟨.ref s.heap.objs.size, _, I.laid (t' := tk) k (Nat.le_refl _) (setO_new R), rfl, q _ c (I.hok.fresh (Nat.le_refl _)) hcn⟩
end
end K74


namespace K74
open PySem PySem.Spec PyProof.Rows L2

/-! ### the text by places -/
def topS (i : Nat) : Stmt := PySem.Challenge.pw_hiddenforks_k74_whole_everybody.main.body.getD i (.Pass ⟨0, 0, 0, 0⟩)
abbrev sAsT : Stmt := topS 1
abbrev sKnown : Stmt := topS 5
abbrev sPairs : Stmt := topS 6
abbrev sHas : Stmt := topS 7
abbrev sAgainst : Stmt := topS 9
abbrev sReaches : Stmt := topS 10
abbrev sInit : Stmt := inClass (topS 11) 0
abbrev sNexts : Stmt := inClass (topS 11) 1
abbrev sBacks : Stmt := inClass (topS 11) 2
abbrev sForest : Stmt := inClass (topS 11) 3
abbrev sInward : Stmt := inClass (topS 11) 4
abbrev sRing : Stmt := inClass (topS 11) 5
abbrev sMetAll : Stmt := inClass (topS 11) 7
abbrev sPlan : Stmt := inClass (topS 11) 8
abbrev sMeeting : Stmt := topS 12
abbrev sFewest : Stmt := topS 13
abbrev sBox : Stmt := topS 15
abbrev sTake : Stmt := topS 16
abbrev sOf : Stmt := topS 17
abbrev sTree : Stmt := topS 18
abbrev sMay : Stmt := topS 19
abbrev sHasRing : Stmt := topS 20
abbrev sRight : Stmt := topS 21
abbrev sLaw : Stmt := topS 22

/-! ### data in the heap -/
abbrev iv (k : Nat) : V := .int (k : Int)
abbrev pr (p : NP) : List V := [iv p.1, iv p.2]
abbrev AL := List (Addr × NP)
abbrev rfs (L : AL) : List V := L.map fun q => V.ref q.1
abbrev prs (L : AL) : List NP := L.map fun q => q.2
/-- the pairs of L stand at their addresses -/
def PL (H : Hp) (L : AL) : Prop := ∀ q ∈ L, H q.1 = some (.tup (pr q.2))
theorem PL.same {H H' : Hp} {L : AL} (h : PL H L) (s : Same H H') : PL H' L := fun q hq => s _ _ (h q hq)
theorem PL.append {H : Hp} {L M : AL} (h : PL H L) (h2 : PL H M) : PL H (L ++ M) := fun q hq => (List.mem_append.mp hq).elim (h q) (h2 q)
theorem PL.sub {H : Hp} {L M : AL} (h : PL H L) (s : ∀ q ∈ M, q ∈ L) : PL H M := fun q hq => h q (s q hq)
theorem PL.nil {H : Hp} : PL H [] := fun q hq => absurd hq (by simp)
theorem same_upd {H : Hp} {p : Addr} {o : HO} (h : H p = none) : Same H (upd H p o) := fun b x e => by
  rw [upd_ne (ne_of_none e h)]
  exact e
theorem same_put {H0 H : Hp} {p : Addr} {o : HO} (s : Same H0 H) (h : H0 p = none) : Same H0 (upd H p o) := fun b x e => by
  rw [upd_ne (ne_of_none e h)]
  exact s _ _ e
theorem at_upd {H : Hp} {a p : Addr} {o x : HO} (e : H a = some x) (h : H p = none) : upd H p o a = some x := same_upd h _ _ e
theorem at_put {H : Hp} {a p : Addr} {o x : HO} (e : H a = some x) (h : a ≠ p) : upd H p o a = some x := by
  rw [upd_ne h]
  exact e
theorem ne_new {H0 H : Hp} {p D : Addr} {x : HO} (e : H D = some x) (h : H p = none) : D ≠ p := ne_of_none e h
/-- all but what stands at b is as it was -/
def But (b : Addr) (H H' : Hp) : Prop := ∀ c o, c ≠ b → H c = some o → H' c = some o
theorem But.refl (b : Addr) (H : Hp) : But b H H := fun _ _ _ h => h
theorem But.trans {b : Addr} {H H1 H2 : Hp} (a : But b H H1) (c : But b H1 H2) : But b H H2 := fun x o n h => c x o n (a x o n h)
theorem But.of {b : Addr} {H H' : Hp} (s : Same H H') : But b H H' := fun c o _ h => s c o h
theorem PL.but {H H' : Hp} {b : Addr} {L : AL} {zs : List V} (h : PL H L) (s : But b H H') (hb : H b = some (.lst zs)) : PL H' L := fun q hq => s _ _ (ne_of (h q hq) hb (by intro z; cases z)) (h q hq)
theorem iv_inj {a b : Nat} (h : iv a = iv b) : a = b := by
  have := V.int.inj h
  omega
theorem iv_eq (a b : Nat) : decide (iv a = iv b) = decide (a = b) := by
  by_cases h : a = b
  · rw [decide_eq_true h, decide_eq_true (by rw [h])]
  · rw [decide_eq_false h, decide_eq_false fun e => h (iv_inj e)]
theorem small {n : Nat} (h : n ≤ 1000) : n < sizeLine := small1000 h
theorem small' {n : Nat} (h : n ≤ 1000) : n ≤ sizeLine := Nat.le_of_lt (small1000 h)
theorem getElem?_snoc {α : Type} (l : List α) (i : Nat) (x : α) (h : l[i]? = some x) : l.take (i + 1) = l.take i ++ [x] := by
  rw [List.take_add_one, h]
  rfl
theorem rfs_snoc (M : AL) (u : Addr) (p : NP) : rfs (M ++ [(u, p)]) = rfs M ++ [V.ref u] := List.map_append
theorem prs_snoc (M : AL) (u : Addr) (p : NP) : prs (M ++ [(u, p)]) = prs M ++ [p] := List.map_append
theorem rfs_get {L : AL} {i : Nat} {x : V} (h : (rfs L)[i]? = some x) : ∃ c, L[i]? = some c ∧ x = .ref c.1 ∧ c ∈ L := by
  rw [List.getElem?_map] at h
  cases e : L[i]? with
  | none => rw [e] at h; cases h
  | some c => rw [e] at h; exact ⟨c, rfl, (Option.some.inj h).symm, List.mem_of_getElem? e⟩
theorem prs_get {L : AL} {i : Nat} {c : Addr × NP} (h : L[i]? = some c) : (prs L)[i]? = some c.2 := by
  rw [List.getElem?_map, h]
  rfl
/-- a new pair at the end of the list at D -/
theorem PL.put {H : Hp} {M : AL} {D : Addr} {zs ys : List V} (h : PL H M) (eD : H D = some (.lst zs)) : PL (upd H D (.lst ys)) M := fun q hq =>
  at_put (h q hq) (ne_of (h q hq) eD (by intro z; cases z))
theorem PL.snoc {H : Hp} {M : AL} {u : Addr} {p : NP} (h : PL H M) (eu : H u = some (.tup (pr p))) : PL H (M ++ [(u, p)]) :=
  h.append fun q hq => by
    have : q = (u, p) := by simpa using hq
    subst this
    exact eu
/-- an expression that is never reached -/
theorem pe_never {X : Cx} {e : Expr} : PE X e (fun _ _ _ => False) := ⟨fun _ _ _ _ _ _ h => h.elim⟩

/-! ### what the top holds -/
structure Bn (mg : Str → Option Value) : Prop where
  list_ : mg "list" = none
  tuple_ : mg "tuple" = none
  isi : mg "isinstance" = none
  range_ : mg "range" = none
  sorted_ : mg "sorted" = none
  set_ : mg "set" = none
  len_ : mg "len" = none
  enum_ : mg "enumerate" = none
  min_ : mg "min" = none
  max_ : mg "max" = none
  int_ : mg "int" = none
  abs_ : mg "abs" = none
  all_ : mg "all" = none
  meet_ : ∃ t, mg "MEET" = some (.str "meet" t)
  some_ : ∃ t, mg "SOMEBODY" = some (.str "somebody" t)
/-- a def that may be called -/
structure Cal (P : Program) (w : World) (K : PySem.W.Frag) (mg : Str → Option Value) (base : Heap) (k : Nat) (x : Str) (f : Addr) (fd : FuncData) (ps : List Str) (sp : Sp) : Prop where
  G : FnOk P w K mg base CX0 k f fd ps sp
  mf : mg x = some (.ref f)
  kp : PySem.W.keepIn K (.ref f) = true
  b : Binds K fd ps []
end K74


namespace K74
open PySem PySem.Spec PyProof.Rows L2
section
variable {P : Program} {w : World} {K : PySem.W.Frag} {mg : Str → Option Value} {base : Heap}

/-! ### has_both -/
theorem scHas : FnScope ["some", "pair"] ["some", "pair"] (defScope sHas) := ⟨rfl, rfl, rfl, by decide +kernel, rfl, by decide +kernel, by decide +kernel⟩
def spHas : Sp := fun vs H Q _ => ∃ (s t : Addr) (row : List Nat) (p : NP), vs = [.ref s, .ref t] ∧ H s = some (.lst (row.map iv)) ∧ H t = some (.tup (pr p)) ∧ Q (.bl (decide (p.1 ∈ row ∧ p.2 ∈ row))) H
theorem inV_row (row : List Nat) (x : Nat) : inV (iv x) (row.map iv) = decide (x ∈ row) := by
  induction row with
  | nil => rfl
  | cons y r ih =>
    show (((y : Int) == (x : Int)) || inV (iv x) (r.map iv)) = decide (x ∈ y :: r)
    rw [ih]
    by_cases h : x = y
    · subst h
      simp
    · have h2 : ((y : Int) == (x : Int)) = false := by
        rw [beq_eq_false_iff_ne]
        omega
      rw [h2, Bool.false_or]
      simp [h]
theorem flat_row (row : List Nat) : (row.map iv).all flatV = true := by
  rw [List.all_map, List.all_eq_true]
  intro x _
  rfl
theorem ok_has {f : Addr} {fd : FuncData} (F : Fun K "has_both" "has_both" sHas f fd) : FnOk P w K mg base CX0 1 f fd ["some", "pair"] spHas := by
  refine F.ok scHas (fun vs H Q E h => ?_) (fun cdv A outer s H vs Q E hr h => ?_)
  · obtain ⟨s, t, row, p, rfl, _⟩ := h
    rfl
  · obtain ⟨s, t, row, p, rfl, hs, ht, q⟩ := h
    refine ⟨_, pss_one (ps_ret (pe_and (pe_cmpR op_in_seq (pe_ix ix_tup (pv 1) pe_int (fun _ _ => rfl)) (pv 0) (by rfl)) (pe_one (pe_cmpR op_in_seq (pe_ix ix_tup (pv 1) pe_int (fun _ _ => rfl)) (pv 0) (by rfl))))), ?_⟩
    refine ⟨.ref t, rfl, t, pr p, 0, iv p.1, rfl, rfl, SqT.of ht, rfl, .ref s, rfl, s, row.map iv, rfl, .inl (SqL.of hs), rfl, flat_row row, _, rfl, ?_⟩
    show if inV (iv p.1) (row.map iv) = true then _ else _
    rw [inV_row]
    refine ite2 (fun e => ?_) (fun e => ?_)
    · refine ⟨.ref t, rfl, t, pr p, 1, iv p.2, rfl, rfl, SqT.of ht, rfl, .ref s, rfl, s, row.map iv, rfl, .inl (SqL.of hs), rfl, flat_row row, ?_⟩
      show Q (.bl (inV (iv p.2) (row.map iv))) H
      rw [inV_row]
      have e' := of_decide_eq_true e
      have e2 : decide (p.1 ∈ row ∧ p.2 ∈ row) = decide (p.2 ∈ row) := by simp [e']
      rw [← e2]
      exact q
    · have e' : p.1 ∉ row := fun z => e (decide_eq_true z)
      have e2 : decide (p.1 ∈ row ∧ p.2 ∈ row) = false := by simp [e']
      rw [e2] at q
      exact q

/-! ### as_tuples -/
theorem scAsT : FnScope ["thing", "part"] ["thing"] (defScope sAsT) := ⟨rfl, rfl, rfl, by decide +kernel, rfl, by decide +kernel, by decide +kernel⟩
def spAsI : Sp := fun vs H Q _ => ∃ (z : Int), vs = [.int z] ∧ ∀ H', Same H H' → Q (.int z) H'
def spAsP : Sp := fun vs H Q _ => ∃ (t : Addr) (p : NP), vs = [.ref t] ∧ H t = some (.tup (pr p)) ∧ ∀ H' u, Same H H' → H u = none → H' u = some (.tup (pr p)) → Q (.ref u) H'
def spAsT : Sp := fun vs H Q _ => ∃ (t : Addr) (L : AL), vs = [.ref t] ∧ H t = some (.tup (rfs L)) ∧ PL H L ∧ L.length ≤ 1000 ∧
  ∀ H' u L', Same H H' → H u = none → H' u = some (.tup (rfs L')) → PL H' L' → prs L' = prs L → Q (.ref u) H'
theorem kit_int (K : PySem.W.Frag) : PySem.W.kitAny K (.type "int") [.type "list", .type "tuple"] = some false :=
  kitAny_cons (b := false) (kit_ty (by decide +kernel)) (fun _ => kitAny_cons (b := false) (kit_ty (by decide +kernel)) (fun _ => kitAny_nil) (fun z => nomatch z)) (fun z => nomatch z)
theorem kit_tup (K : PySem.W.Frag) : PySem.W.kitAny K (.type "tuple") [.type "list", .type "tuple"] = some true :=
  kitAny_cons (b := false) (kit_ty (by decide +kernel)) (fun _ => kitAny_cons (b := true) (kit_ty (by decide +kernel)) (fun z => nomatch z) (fun _ => rfl)) (fun z => nomatch z)
theorem ok_asI {f : Addr} {fd : FuncData} (F : Fun K "as_tuples" "as_tuples" sAsT f fd) (B : Bn mg) : FnOk P w K mg base CX0 1 f fd ["thing"] spAsI := by
  refine F.ok scAsT (fun vs H Q E h => ?_) (fun cdv A outer s H vs Q E hr h => ?_)
  · obtain ⟨z, rfl, _⟩ := h
    rfl
  · obtain ⟨z, rfl, q⟩ := h
    refine ⟨_, pss_one (ps_ret (pe_ifExp (pt_val (pe_callB call_isiT (by rfl) B.isi (by decide +kernel) (pa_cons (pv 0) (pa_cons (pe_tup (pa_cons (pe_bltn (by rfl) B.list_ (by decide +kernel) (v := .ty "list") rfl) (pa_cons (pe_bltn (by rfl) B.tuple_ (by decide +kernel) (v := .ty "tuple") rfl) pa_nil))) pa_nil)))) pe_never (pv 0))), ?_⟩
    refine ⟨.int z, rfl, by show 2 ≤ sizeLine; decide, fun p np => ?_⟩
    refine ⟨.int z, p, _, .type "int", [.type "list", .type "tuple"], false, rfl, upd_same, .cons (.ty _) (.cons (.ty _) .nil), ?_, kit_int K, ?_⟩
    · exact .base (by constructor)
    · refine ⟨false, rfl, ?_⟩
      refine iteF ?_
      exact ⟨.int z, rfl, q _ (same_upd np)⟩
theorem ok_asP {f : Addr} {fd : FuncData} (F : Fun K "as_tuples" "as_tuples" sAsT f fd) (B : Bn mg) (C : Cal P w K mg base 1 "as_tuples" f fd ["thing"] spAsI) : FnOk P w K mg base CX0 2 f fd ["thing"] spAsP := by
  refine F.ok scAsT (fun vs H Q E h => ?_) (fun cdv A outer s H vs Q E hr h => ?_)
  · obtain ⟨t, p, rfl, _⟩ := h
    rfl
  · obtain ⟨t, p, rfl, ht, q⟩ := h
    have hr1 : Room 1 _ := hr.mono (by decide)
    refine ⟨_, pss_one (ps_ret (pe_ifExp (pt_val (pe_callB call_isiT (by rfl) B.isi (by decide +kernel) (pa_cons (pv 0) (pa_cons (pe_tup (pa_cons (pe_bltn (by rfl) B.list_ (by decide +kernel) (v := .ty "list") rfl) (pa_cons (pe_bltn (by rfl) B.tuple_ (by decide +kernel) (v := .ty "tuple") rfl) pa_nil))) pa_nil))))
      (pe_callTy call_tuple_of (by rfl) B.tuple_ (by decide +kernel) (pa_cons (pe_lc (own := [("part", 1)]) (g := gName 1) (tt := tYes) (by rfl) scAsT.nd (pi_tup (pv 0)) (blkOk_by (N := ["thing", "part"]) (sc := defScope sAsT) (by decide +kernel))
        (fun _ _ _ _ _ => pg_name (i := 1) scAsT.nd rfl (Or.inl rfl)) (fun _ _ _ _ _ => pts_nil) (fun _ _ _ _ _ => pe_call C.G hr1 (by rfl) C.mf C.kp C.b .nil pass0 (pa_cons (pv 1) pa_nil))) pa_nil)) (pv 0))), ?_⟩
    refine ⟨.ref t, rfl, by show 2 ≤ sizeLine; decide, fun c nc => ?_⟩
    have s1 : Same H (upd H c (.tup [.ty "list", .ty "tuple"])) := same_upd nc
    refine ⟨.ref t, c, _, .type "tuple", [.type "list", .type "tuple"], true, rfl, upd_same, .cons (.ty _) (.cons (.ty _) .nil), .base (.tup (s1 _ _ ht)), kit_tup K, true, rfl, iteT ?_⟩
    refine ⟨.ref t, rfl, t, rfl, ⟨_, SqT.of (s1 _ _ ht)⟩, fun D nD => ?_⟩
    have nD0 : H D = none := s1.free nD
    refine lc_tup (K := K) (a := t) (xs := pr p) (fun i H2 => Same H H2 ∧ H2 D = some (.lst ((pr p).take i))) ⟨s1.trans (same_upd nD), upd_same⟩ (fun i H2 _ h2 => SqT.of (h2.1 _ _ ht)) (fun i x H2 hx h2 => ?_) (fun H2 h2 => ?_)
    · have hz : ∃ z : Int, x = .int z := by
        match i, hx with
        | 0, hx => exact ⟨_, (Option.some.inj hx).symm⟩
        | 1, hx => exact ⟨_, (Option.some.inj hx).symm⟩
        | k + 2, hx => exact absurd hx (by simp [pr])
      obtain ⟨z, rfl⟩ := hz
      refine ⟨rfl, .int z, rfl, z, rfl, fun H3 s3 => ⟨_, s3 _ _ h2.2, ?_, same_put (h2.1.trans s3) nD0, ?_⟩⟩
      · rw [List.length_take]
        exact small (by show min i 2 ≤ 1000; omega)
      · rw [upd_same, getElem?_snoc _ _ _ hx]
    · have e2 : H2 D = some (.lst (pr p)) := h2.2
      refine ⟨D, pr p, rfl, .inl ⟨SqL.of e2, fun u nu => ?_⟩⟩
      exact q _ u (h2.1.trans (same_upd nu)) (h2.1.free nu) upd_same
theorem ok_asT {f : Addr} {fd : FuncData} (F : Fun K "as_tuples" "as_tuples" sAsT f fd) (B : Bn mg) (C : Cal P w K mg base 2 "as_tuples" f fd ["thing"] spAsP) : FnOk P w K mg base CX0 3 f fd ["thing"] spAsT := by
  refine F.ok scAsT (fun vs H Q E h => ?_) (fun cdv A outer s H vs Q E hr h => ?_)
  · obtain ⟨t, L, rfl, _⟩ := h
    rfl
  · obtain ⟨t, L, rfl, ht, hL, hlen, q⟩ := h
    have hr1 : Room 2 _ := hr.mono (by decide)
    refine ⟨_, pss_one (ps_ret (pe_ifExp (pt_val (pe_callB call_isiT (by rfl) B.isi (by decide +kernel) (pa_cons (pv 0) (pa_cons (pe_tup (pa_cons (pe_bltn (by rfl) B.list_ (by decide +kernel) (v := .ty "list") rfl) (pa_cons (pe_bltn (by rfl) B.tuple_ (by decide +kernel) (v := .ty "tuple") rfl) pa_nil))) pa_nil))))
      (pe_callTy call_tuple_of (by rfl) B.tuple_ (by decide +kernel) (pa_cons (pe_lc (own := [("part", 1)]) (g := gName 1) (tt := tYes) (by rfl) scAsT.nd (pi_tup (pv 0)) (blkOk_by (N := ["thing", "part"]) (sc := defScope sAsT) (by decide +kernel))
        (fun _ _ _ _ _ => pg_name (i := 1) scAsT.nd rfl (Or.inl rfl)) (fun _ _ _ _ _ => pts_nil) (fun _ _ _ _ _ => pe_call C.G hr1 (by rfl) C.mf C.kp C.b .nil pass0 (pa_cons (pv 1) pa_nil))) pa_nil)) (pv 0))), ?_⟩
    refine ⟨.ref t, rfl, by show 2 ≤ sizeLine; decide, fun c nc => ?_⟩
    have s1 : Same H (upd H c (.tup [.ty "list", .ty "tuple"])) := same_upd nc
    refine ⟨.ref t, c, _, .type "tuple", [.type "list", .type "tuple"], true, rfl, upd_same, .cons (.ty _) (.cons (.ty _) .nil), .base (.tup (s1 _ _ ht)), kit_tup K, true, rfl, iteT ?_⟩
    refine ⟨.ref t, rfl, t, rfl, ⟨_, SqT.of (s1 _ _ ht)⟩, fun D nD => ?_⟩
    have nD0 : H D = none := s1.free nD
    refine lc_tup (K := K) (a := t) (xs := rfs L) (fun i H2 => Same H H2 ∧ ∃ M : AL, H2 D = some (.lst (rfs M)) ∧ PL H2 M ∧ prs M = (prs L).take i) ⟨s1.trans (same_upd nD), [], upd_same, PL.nil, rfl⟩ (fun i H2 _ h2 => SqT.of (h2.1 _ _ ht)) (fun i x H2 hx h2 => ?_) (fun H2 h2 => ?_)
    · obtain ⟨s2, M, eD, pM, eM⟩ := h2
      obtain ⟨c, hc, rfl, hcm⟩ := rfs_get hx
      refine ⟨rfl, .ref c.1, rfl, c.1, c.2, rfl, s2 _ _ (hL c hcm), fun H3 u s3 nu eu => ?_⟩
      have e3 : H3 D = some (.lst (rfs M)) := s3 _ _ eD
      have hML : M.length ≤ 1000 := by
        have := congrArg List.length eM
        rw [List.length_map, List.length_take, List.length_map] at this
        omega
      refine ⟨rfs M, e3, by rw [List.length_map]; exact small hML, same_put (s2.trans s3) nD0, M ++ [(u, c.2)], ?_, ?_, ?_⟩
      · rw [upd_same, rfs_snoc]
      · exact ((pM.same s3).snoc eu).put e3
      · rw [prs_snoc, eM, getElem?_snoc _ _ _ (prs_get hc)]
    · obtain ⟨s2, M, eD, pM, eM⟩ := h2
      refine ⟨D, rfs M, rfl, .inl ⟨SqL.of eD, fun u nu => ?_⟩⟩
      refine q _ u M (s2.trans (same_upd nu)) (s2.free nu) upd_same (pM.same (same_upd nu)) ?_
      rw [eM, List.take_of_length_le]
      rw [List.length_map, List.length_map]
      exact Nat.le_refl _
end
end K74


namespace K74
open PySem PySem.Spec PyProof.Rows L2
/-! ### loops, the body a letter -/
theorem lp_range {lo : Int} {n : Nat} {S0 : Hp} {body : V → Hp → (Hp → Prop) → Prop} {Qd : Hp → Prop} (Pv : Nat → Hp → Prop) (h0 : Pv 0 S0)
    (hs : ∀ i H, i < n → Pv i H → body (.int (lo + i)) H (Pv (i + 1))) (hd : ∀ H, Pv n H → Qd H) :
    ∃ W : Nat → Nat → Hp → Prop, (∃ m, W 0 m S0) ∧ ∀ i m H, W i m H →
      ((Itr lo n).stop i H ∧ Qd H) ∨ ((Itr lo n).go i H ∧ ∃ Nx : Hp → Prop, (∀ H', Nx H' → ∃ m', m' < m ∧ W (i + 1) m' H') ∧ ∀ x H', (Itr lo n).yld i H x H' → body x H' Nx) := by
  refine ⟨fun i m H => m = n - i ∧ i ≤ n ∧ Pv i H, ⟨n, by simp, Nat.zero_le _, h0⟩, ?_⟩
  rintro i m H ⟨rfl, hi, p⟩
  by_cases hlt : i < n
  · refine .inr ⟨hlt, Pv (i + 1), fun H' p' => ⟨n - (i + 1), by omega, rfl, hlt, p'⟩, fun x H' y => ?_⟩
    obtain ⟨rfl, rfl⟩ := y
    exact hs i _ hlt p
  · have e : i = n := by omega
    subst e
    exact .inl ⟨Nat.le_refl _, hd H p⟩
section
variable {P : Program} {w : World} {K : PySem.W.Frag} {mg : Str → Option Value} {base : Heap}

/-! ### all_pairs -/
theorem scPairs : FnScope ["people", "one", "other"] ["people"] (defScope sPairs) := ⟨rfl, rfl, rfl, by decide +kernel, rfl, by decide +kernel, by decide +kernel⟩
def spPairs : Sp := fun vs H Q _ => ∃ (n : Nat), vs = [iv n] ∧ n ≤ 10 ∧
  ∀ H' D L, Same H H' → H D = none → H' D = some (.lst (rfs L)) → PL H' L → L.length ≤ 100 → (∀ q ∈ L, q.2.1 < q.2.2 ∧ q.2.2 < n) → (∀ x y, x < y → y < n → (x, y) ∈ prs L) → Q (.ref D) H'
theorem ok_pairs {f : Addr} {fd : FuncData} (F : Fun K "all_pairs" "all_pairs" sPairs f fd) (B : Bn mg) : FnOk P w K mg base CX0 1 f fd ["people"] spPairs := by
  refine F.ok scPairs (fun vs H Q E h => ?_) (fun cdv A outer s H vs Q E hr h => ?_)
  · obtain ⟨n, rfl, _⟩ := h
    rfl
  · obtain ⟨n, rfl, hn, q⟩ := h
    refine ⟨_, pss_one (ps_ret (pe_lc2 (own := [("one", 1), ("other", 2)]) (vs1 := [2]) (g := gName 1) (g1 := gName 2) (tt := tYes) (tt1 := tYes) (by rfl) scPairs.nd (pi_range1 (by rfl) B.range_ (pa_cons (pv 0) pa_nil))
      (blkOk_by (N := ["people", "one", "other"]) (sc := defScope sPairs) (by decide +kernel)) (by decide)
      (fun _ _ _ _ _ => pg_name (i := 1) scPairs.nd rfl (Or.inl rfl)) (fun _ _ _ _ _ => pts_nil)
      (fun _ _ _ _ _ => pi_range2 (by rfl) B.range_ (pa_cons (pe_op op_add (pv 1) pe_int) (pa_cons (pv 0) pa_nil)))
      (fun _ _ _ _ _ => pg_name (i := 2) scPairs.nd rfl (Or.inl rfl)) (fun _ _ _ _ _ => pts_nil)
      (fun _ _ _ _ _ => pe_tup (pa_cons (pv 1) (pa_cons (pv 2) pa_nil))))), ?_⟩
    refine ⟨iv n, rfl, (n : Int), rfl, by omega, by omega, fun D nD => ?_⟩
    refine lp_range (fun i H2 => Same H H2 ∧ ∃ M : AL, H2 D = some (.lst (rfs M)) ∧ PL H2 M ∧ M.length ≤ i * 10 ∧ (∀ q ∈ M, q.2.1 < q.2.2 ∧ q.2.2 < n) ∧ ∀ x y, x < i → x < y → y < n → (x, y) ∈ prs M)
      ⟨same_upd nD, [], upd_same, PL.nil, Nat.zero_le _, fun q hq => absurd hq (by simp), fun x y h => absurd h (Nat.not_lt_zero _)⟩ (fun i H2 hi h2 => ?_) (fun H2 h2 => ?_)
    · have hi' : i < n := by
        have : i < ((n : Int)).toNat := hi
        omega
      refine ⟨rfl, ?_⟩
      obtain ⟨s2, M0, eD0, pM0, lM0, mM0, aM0⟩ := h2
      refine ⟨.int (0 + (i : Int)), rfl, 0 + (i : Int), 1, rfl, rfl, iv n, rfl, 0 + (i : Int) + 1, (n : Int), rfl, ⟨by omega, by omega, by omega, by omega⟩, ?_⟩
      refine lp_range (fun j H2 => Same H H2 ∧ ∃ M : AL, H2 D = some (.lst (rfs M)) ∧ PL H2 M ∧ M.length ≤ i * 10 + j ∧ (∀ q ∈ M, q.2.1 < q.2.2 ∧ q.2.2 < n) ∧ (∀ x y, x < i → x < y → y < n → (x, y) ∈ prs M) ∧ ∀ y, i < y → y < i + 1 + j → (i, y) ∈ prs M)
        ⟨s2, M0, eD0, pM0, lM0, mM0, aM0, fun y h1 h2 => absurd h1 (by omega)⟩ (fun j H2 hj h2 => ?_) (fun H2 h2 => ?_)
      · obtain ⟨s2, M, eD, pM, lM, mM, aM, bM⟩ := h2
        have hj' : i + 1 + j < n := by omega
        have e1 : V.int (0 + (i : Int)) = iv i := by rw [Int.zero_add]
        have e2 : V.int (0 + (i : Int) + 1 + (j : Int)) = iv (i + 1 + j) := by
          show V.int _ = V.int _
          congr 1
          omega
        refine ⟨rfl, .int (0 + (i : Int)), rfl, .int (0 + (i : Int) + 1 + (j : Int)), rfl, by show 2 ≤ sizeLine; decide, fun u nu => ?_⟩
        rw [e1, e2]
        have s3 : Same H2 (upd H2 u (.tup (pr (i, i + 1 + j)))) := same_upd nu
        refine ⟨rfs M, s3 _ _ eD, by rw [List.length_map]; exact small (by omega), same_put (s2.trans s3) (h := nD), M ++ [(u, (i, i + 1 + j))], ?_, ?_, ?_, ?_, ?_, ?_⟩
        · rw [upd_same, rfs_snoc]
        · exact ((pM.same s3).snoc upd_same).put (s3 _ _ eD)
        · rw [List.length_append]
          show M.length + 1 ≤ _
          omega
        · intro q' hq'
          rcases List.mem_append.mp hq' with z | z
          · exact mM q' z
          · have : q' = (u, (i, i + 1 + j)) := by simpa using z
            subst this
            exact ⟨by show i < i + 1 + j; omega, hj'⟩
        · intro x y h1 h2 h3
          rw [prs_snoc]
          exact List.mem_append_left _ (aM x y h1 h2 h3)
        · intro y h1 h2
          rw [prs_snoc]
          by_cases e : y = i + 1 + j
          · rw [e]
            exact List.mem_append_right _ (by simp)
          · exact List.mem_append_left _ (bM y h1 (by omega))
      · obtain ⟨s2, M, eD, pM, lM, mM, aM, bM⟩ := h2
        have en : (((n : Int) - (0 + (i : Int) + 1)).toNat) = n - (i + 1) := by omega
        rw [en] at lM bM
        refine ⟨s2, M, eD, pM, by omega, mM, fun x y h1 h2 h3 => ?_⟩
        by_cases e : x = i
        · subst e
          exact bM y h2 (by omega)
        · exact aM x y (by omega) h2 h3
    · obtain ⟨s2, M, eD, pM, lM, mM, aM⟩ := h2
      have hn' : ((n : Int)).toNat = n := by omega
      rw [hn'] at lM aM
      exact q H2 D M s2 nD eD pM (by omega) mM fun x y hxy hy => aM x y (by omega) hxy hy

/-! ### known_by -/
abbrev RL := List (Addr × List Nat)
abbrev rrf (R : RL) : List V := R.map fun q => V.ref q.1
def RH (H : Hp) (D : Addr) (R : RL) : Prop := ∀ q ∈ R, H q.1 = some (.lst (q.2.map iv)) ∧ q.1 ≠ D
structure RowsOk (n : Nat) (f : Nat → Nat → Bool) (R : RL) : Prop where
  len : R.length = n
  mem : ∀ p r, R[p]? = some r → r.2.length ≤ n ∧ ∀ x, x ∈ r.2 ↔ x < n ∧ f p x = true
theorem RH.same {H H' : Hp} {D : Addr} {R : RL} (h : RH H D R) (s : Same H H') : RH H' D R := fun q hq => ⟨s _ _ (h q hq).1, (h q hq).2⟩
theorem RH.put {H : Hp} {D : Addr} {R : RL} {zs : List V} (h : RH H D R) : RH (upd H D (.lst zs)) D R := fun q hq => ⟨at_put (h q hq).1 (h q hq).2, (h q hq).2⟩
theorem RH.set {H : Hp} {D : Addr} {R : RL} {i : Nat} {b : Addr} {row : List Nat} (h : RH H D R) (eb : H b = some (.lst (row.map iv))) (nb : b ≠ D) : RH H D (R.set i (b, row)) := fun q hq => by
  rcases List.mem_or_eq_of_mem_set hq with z | z
  · exact h q z
  · subst z
    exact ⟨eb, nb⟩
theorem rrf_set (R : RL) (i : Nat) (b : Addr) (row : List Nat) : rrf (R.set i (b, row)) = (rrf R).set i (.ref b) := List.map_set
theorem ivs_int (row : List Nat) : (row.map fun k : Nat => (k : Int)).map V.int = row.map iv := by rw [List.map_map]; rfl
/-- the sorted set of two rows is a row -/
theorem merged {n : Nat} {ra rb : List Nat} {ns : List Int} (hs : ns.Pairwise (· < ·)) (hm : ∀ k : Int, k ∈ ns ↔ decide (k ∈ (ra ++ rb).map fun k : Nat => (k : Int)) = true)
    (ha : ∀ x ∈ ra, x < n) (hb : ∀ x ∈ rb, x < n) : ∃ row : List Nat, ns.map V.int = row.map iv ∧ row.length ≤ n ∧ ∀ x, x ∈ row ↔ x ∈ ra ∨ x ∈ rb := by
  have e : ns = (ns.map Int.toNat).map fun k : Nat => (k : Int) := by
    rw [List.map_map]
    conv => lhs; rw [← List.map_id ns]
    refine List.map_congr_left fun k hk => ?_
    have h := of_decide_eq_true ((hm k).mp hk)
    obtain ⟨j, _, rfl⟩ := List.mem_map.mp h
    rfl
  have hmem : ∀ x, x ∈ ns.map Int.toNat ↔ x ∈ ra ∨ x ∈ rb := fun x => by
    have h1 : x ∈ ns.map Int.toNat ↔ (x : Int) ∈ ns := by
      conv => rhs; rw [e]
      constructor
      · intro h; exact List.mem_map.mpr ⟨x, h, rfl⟩
      · intro h
        obtain ⟨y, hy, e2⟩ := List.mem_map.mp h
        have : y = x := by omega
        rw [← this]; exact hy
    rw [h1, hm, decide_eq_true_iff]
    constructor
    · intro h
      obtain ⟨y, hy, e2⟩ := List.mem_map.mp h
      have : y = x := by omega
      rw [this] at hy
      exact List.mem_append.mp hy
    · intro h
      exact List.mem_map.mpr ⟨x, List.mem_append.mpr h, rfl⟩
  refine ⟨ns.map Int.toNat, by rw [← ivs_int, ← e], ?_, hmem⟩
  refine nodup_lt_length n _ ?_ fun x hx => ?_
  · have hp : ((ns.map Int.toNat).map fun k : Nat => (k : Int)).Nodup := by
      rw [← e]
      exact hs.imp fun h => Int.ne_of_lt h
    exact (List.pairwise_map.mp hp).imp fun h e => h (congrArg _ e)
  · rcases (hmem x).mp hx with h | h
    · exact ha x h
    · exact hb x h
theorem RowsOk.step {n : Nat} {f : Nat → Nat → Bool} {R : RL} {c : NP} (h : RowsOk n f R) (hc : c.1 < n ∧ c.2 < n) {ra rb : Addr × List Nat} (ea : R[c.1]? = some ra) (eb : R[c.2]? = some rb)
    {row : List Nat} {x y : Addr} (lr : row.length ≤ n) (mr : ∀ x, x ∈ row ↔ x ∈ ra.2 ∨ x ∈ rb.2) : RowsOk n (stepK f c) ((R.set c.2 (x, row)).set c.1 (y, row)) := by
  have hrow : ∀ p, p = c.1 ∨ p = c.2 → ∀ z, z ∈ row ↔ z < n ∧ stepK f c p z = true := fun p hp z => by
    rw [mr, (h.mem _ _ ea).2 z, (h.mem _ _ eb).2 z]
    unfold stepK
    rw [if_pos hp, Bool.or_eq_true]
    constructor
    · rintro (⟨l, t⟩ | ⟨l, t⟩)
      · exact ⟨l, .inl t⟩
      · exact ⟨l, .inr t⟩
    · rintro ⟨l, t | t⟩
      · exact .inl ⟨l, t⟩
      · exact .inr ⟨l, t⟩
  refine ⟨by rw [List.length_set, List.length_set, h.len], fun p r hr => ?_⟩
  by_cases e1 : p = c.1
  · rw [← e1, List.getElem?_set_self (by rw [List.length_set, h.len]; omega)] at hr
    have := Option.some.inj hr
    subst this
    exact ⟨lr, hrow p (.inl e1)⟩
  · rw [List.getElem?_set_ne (fun z => e1 z.symm)] at hr
    by_cases e2 : p = c.2
    · rw [← e2, List.getElem?_set_self (by rw [h.len]; omega)] at hr
      have := Option.some.inj hr
      subst this
      exact ⟨lr, hrow p (.inr e2)⟩
    · rw [List.getElem?_set_ne (fun z => e2 z.symm)] at hr
      have hm := h.mem p r hr
      refine ⟨hm.1, fun z => ?_⟩
      rw [hm.2 z]
      unfold stepK
      rw [if_neg fun q => q.elim e1 e2]
theorem scKnown : FnScope ["people", "way", "plan", "person", "known", "other", "both"] ["people", "way", "plan"] (defScope sKnown) := ⟨rfl, rfl, rfl, by decide +kernel, rfl, by decide +kernel, by decide +kernel⟩
def spKnown : Sp := fun vs H Q _ => ∃ (n : Nat) (t : Addr) (L : AL), vs = [iv n, .str "meet", .ref t] ∧ n ≤ 10 ∧ H t = some (.tup (rfs L)) ∧ PL H L ∧ (∀ c ∈ prs L, c.1 < n ∧ c.2 < n) ∧
  ∀ H' D R, Same H H' → H D = none → H' D = some (.lst (rrf R)) → RH H' D R → RowsOk n (Kn (prs L)) R → Q (.ref D) H'
theorem RowsOk.get {n : Nat} {f : Nat → Nat → Bool} {R : RL} (h : RowsOk n f R) {p : Nat} (hp : p < n) : ∃ r, R[p]? = some r ∧ (rrf R)[p]? = some (.ref r.1) ∧ r ∈ R := by
  have hl : p < R.length := by rw [h.len]; exact hp
  refine ⟨R[p], List.getElem?_eq_getElem hl, ?_, List.getElem_mem hl⟩
  rw [List.getElem?_map, List.getElem?_eq_getElem hl]
  rfl
theorem ixN_lt {n i : Nat} (h : i < n) : ixN n (i : Int) = some i := by
  unfold ixN
  rw [if_pos (by omega), if_pos (by omega)]
  rfl
theorem ok_known {f : Addr} {fd : FuncData} (F : Fun K "known_by" "known_by" sKnown f fd) (B : Bn mg) : FnOk P w K mg base CX0 1 f fd ["people", "way", "plan"] spKnown := by
  refine F.ok scKnown (fun vs H Q E h => ?_) (fun cdv A outer s H vs Q E hr h => ?_)
  · obtain ⟨n, t, L, rfl, _⟩ := h
    rfl
  · obtain ⟨n, t, L, rfl, hn, ht, hL, hlt, q⟩ := h
    obtain ⟨tm, hmeet⟩ := B.meet_
    refine ⟨_, pss_cons (ps_setLc (i := 4) (own := [("person", 3)]) (g := gName 3) (tt := tYes) (by rfl) scKnown.nd rfl rfl (sw_true rfl rfl rfl (by decide +kernel)) (pi_range1 (by rfl) B.range_ (pa_cons (pv 0) pa_nil))
        (blkOk_by (N := ["people", "way", "plan", "person", "known", "other", "both"]) (sc := defScope sKnown) (by decide +kernel)) (fun _ _ _ _ _ => pg_name (i := 3) scKnown.nd rfl (Or.inl rfl)) (fun _ _ _ _ _ => pts_nil) (fun _ _ _ _ _ => pe_lst (pa_cons (pv 3) pa_nil)))
      (pss_cons (ps_for PassesOwn.never rfl (pi_tup (pv 2)) (pg_tup rfl (pgs_cons (pg_name (i := 3) scKnown.nd rfl (.inl rfl)) (pgs_cons (pg_name (i := 5) scKnown.nd rfl (.inl rfl)) pgs_nil)))
        (pss_cons (ps_set (i := 6) scKnown.nd rfl (.inl rfl) (pe_callB (cr_sortedSet (by rfl)) (by rfl) B.sorted_ (by decide +kernel) (pa_cons (pe_callTy (cr_setOfI (by rfl)) (by rfl) B.set_ (by decide +kernel)
            (pa_cons (pe_op op_cat (pe_ix ix_list (pv 4) (pv 3) (fun _ _ => rfl)) (pe_ix ix_list (pv 4) (pv 5) (fun _ _ => rfl))) pa_nil)) pa_nil)))
        (pss_cons (ps_asg (pv 6) (pg_sub (pv 4) (pv 5) set_list))
        (pss_one (ps_if (pt_cmpR op_eq (pv 1) (pe_glob (v := .str "meet") (by rfl) hmeet ⟨_, rfl⟩) (nomark _))
          (pss_one (ps_asg (pe_callTy call_list_of (by rfl) B.list_ (by decide +kernel) (pa_cons (pv 6) pa_nil)) (pg_sub (pv 4) (pv 3) set_list))) pss_nil)))))
      (pss_one (ps_ret (pv 4)))), ?_⟩
    -- known = [[person] for person in range(people)]
    refine ⟨iv n, rfl, (n : Int), rfl, by omega, by omega, fun D nD => ?_⟩
    refine lc_range (fun i H2 => Same H H2 ∧ ∃ R : RL, H2 D = some (.lst (rrf R)) ∧ RH H2 D R ∧ R.length = i ∧ ∀ (p : Nat) (r : Addr × List Nat), R[p]? = some r → r.2 = [p]) ⟨same_upd nD, [], upd_same, fun q hq => absurd hq (by simp), rfl, fun p r h => absurd (show ([] : RL)[p]? = some r from h) (by simp)⟩ (fun i H2 hi h2 => ?_) (fun H2 h2 => ?_)
    · obtain ⟨s2, R, eD, hR, lR, mR⟩ := h2
      have hi' : i < n := by
        have : i < ((n : Int)).toNat := hi
        omega
      refine ⟨rfl, .int (0 + (i : Int)), rfl, by show 1 ≤ sizeLine; decide, fun u nu => ?_⟩
      have e1 : V.int (0 + (i : Int)) = iv i := by rw [Int.zero_add]
      rw [e1]
      have s3 : Same H2 (upd H2 u (.lst [iv i])) := same_upd nu
      have uD : u ≠ D := (ne_of_none eD nu).symm
      refine ⟨rrf R, s3 _ _ eD, by rw [List.length_map]; exact small (by omega), same_put (s2.trans s3) nD, R ++ [(u, [i])], ?_, ?_, ?_, ?_⟩
      · rw [upd_same, rrf, rrf, List.map_append]
        rfl
      · refine RH.put fun q hq => ?_
        rcases List.mem_append.mp hq with z | z
        · exact (hR.same s3) q z
        · have : q = (u, [i]) := by simpa using z
          subst this
          exact ⟨upd_same, uD⟩
      · rw [List.length_append, lR]
        rfl
      · intro p r hp
        by_cases hlt : p < R.length
        · rw [List.getElem?_append_left hlt] at hp
          exact mR p r hp
        · have hp2 := (List.getElem?_eq_some_iff.mp hp).1
          rw [List.length_append, lR] at hp2
          have hp3 : p = i := by
            have : p < i + 1 := hp2
            omega
          subst hp3
          rw [List.getElem?_append_right (by omega), lR, Nat.sub_self] at hp
          have := Option.some.inj hp
          subst this
          rfl
    · obtain ⟨s2, R0, eD0, hR0, lR0, mR0⟩ := h2
      have hn' : ((n : Int)).toNat = n := by omega
      rw [hn'] at lR0
      have ok0 : RowsOk n k0 R0 := ⟨lR0, fun p r hp => by
        have hp2 := (List.getElem?_eq_some_iff.mp hp).1
        rw [mR0 p r hp]
        refine ⟨by show 1 ≤ n; omega, fun x => ?_⟩
        unfold k0
        constructor
        · intro z
          have : x = p := by simpa using z
          subst this
          exact ⟨by omega, by simp⟩
        · rintro ⟨_, z⟩
          have : p = x := by simpa using z
          rw [this]
          simp⟩
      -- for person, other in plan
      refine ⟨.ref t, rfl, t, rfl, ⟨_, SqT.of (s2 _ _ ht)⟩, for_tup (K := K) (a := t) (xs := rfs L) (fun i σ H3 => ∃ v3 v5 v6, σ = [some (iv n), some (.str "meet"), some (.ref t), v3, some (.ref D), v5, v6] ∧ Same H H3 ∧ ∃ R : RL, H3 D = some (.lst (rrf R)) ∧ RH H3 D R ∧ RowsOk n (Kn ((prs L).take i)) R)
        ⟨_, _, _, rfl, s2, R0, eD0, hR0, ok0⟩ (fun i σ H3 _ ⟨_, _, _, _, s3, _⟩ => SqT.of (s3 _ _ ht)) (fun i x σ H3 hx h3 => ?_) (fun σ H3 h3 => ?_)⟩
      · obtain ⟨v3, v5, v6, rfl, s3, R, eD, hR, okR⟩ := h3
        obtain ⟨c, hc, rfl, hcm⟩ := rfs_get hx
        have hcl := hlt c.2 (List.mem_map.mpr ⟨c, hcm, rfl⟩)
        obtain ⟨ra, ga, fa, ma⟩ := okR.get hcl.1
        obtain ⟨rb, gb, fb, mb⟩ := okR.get hcl.2
        have ha := okR.mem _ _ ga
        have hb := okR.mem _ _ gb
        refine ⟨c.1, pr c.2, rfl, SqT.of (s3 _ _ (hL c hcm)), rfl, iv c.2.1, [iv c.2.2], rfl, iv c.2.2, [], rfl, rfl, ?_⟩
        -- both = sorted(set(known[person] + known[other]))
        refine ⟨.ref D, rfl, iv c.2.1, rfl, D, rrf R, (c.2.1 : Int), .ref ra.1, rfl, rfl, SqL.of eD, atI_nat fa, .ref D, rfl, iv c.2.2, rfl, D, rrf R, (c.2.2 : Int), .ref rb.1, rfl, rfl, SqL.of eD, atI_nat fb, ?_⟩
        refine ⟨ra.1, rb.1, _, _, rfl, rfl, (hR _ ma).1, (hR _ mb).1, by rw [List.length_map, List.length_map]; exact small' (by omega), fun u nu => ?_⟩
        have s4 := same_upd (o := .lst (ra.2.map iv ++ rb.2.map iv)) nu
        refine ⟨u, (ra.2 ++ rb.2).map fun k : Nat => (k : Int), rfl, ?_, by rw [List.length_map, List.length_append]; omega, fun sa cn nsa hcn => ?_⟩
        · rw [ivs_int, List.map_append]
          exact SqL.of upd_same
        · have s5 := s4.trans (same_upd (o := SetO w sa (fun j => decide (j ∈ (ra.2 ++ rb.2).map fun k : Nat => (k : Int))) cn) nsa)
          refine ⟨sa, _, cn, rfl, upd_same, ?_, fun ns b hs hm hl nb => ?_⟩
          · rw [List.length_map, List.length_append] at hcn
            omega
          · obtain ⟨row, erow, lrow, mrow⟩ := merged hs hm (fun x hx => ((ha.2 x).mp hx).1) (fun x hx => ((hb.2 x).mp hx).1)
            rw [erow]
            have s6 := s5.trans (same_upd (o := .lst (row.map iv)) nb)
            have eD6 := s6 _ _ eD
            have bD : b ≠ D := (ne_of_none (s5 _ _ eD) nb).symm
            have nD6 : H D = none := nD
            -- known[other] = both
            refine ⟨.ref b, rfl, .ref D, rfl, iv c.2.2, rfl, D, rrf R, (c.2.2 : Int), c.2.2, rfl, rfl, eD6, ixN_lt (by rw [List.length_map, okR.len]; exact hcl.2), ?_⟩
            rw [← rrf_set R c.2.2 b row]
            have hR7 : RH (upd (upd (upd (upd H3 u (.lst (ra.2.map iv ++ rb.2.map iv))) sa (SetO w sa (fun j => decide (j ∈ (ra.2 ++ rb.2).map fun k : Nat => (k : Int))) cn)) b (.lst (row.map iv))) D (.lst (rrf (R.set c.2.2 (b, row))))) D (R.set c.2.2 (b, row)) :=
              RH.put (RH.set (hR.same s6) upd_same bD)
            -- if way == MEET: known[person] = list(both)
            refine ⟨.str "meet", rfl, rfl, _, rfl, ?_⟩
            have et : decide (V.str "meet" = V.str "meet") = true := decide_eq_true rfl
            show if decide (V.str "meet" = V.str "meet") = true then _ else _
            rw [et]
            refine iteT ?_
            refine ⟨.ref b, rfl, b, row.map iv, rfl, .inl (SqL.of (at_put upd_same bD)), fun l nl => ?_⟩
            have eD8 := at_upd (o := .lst (row.map iv)) (upd_same (H := upd (upd (upd H3 u (.lst (ra.2.map iv ++ rb.2.map iv))) sa (SetO w sa (fun j => decide (j ∈ (ra.2 ++ rb.2).map fun k : Nat => (k : Int))) cn)) b (.lst (row.map iv))) (a := D) (o := .lst (rrf (R.set c.2.2 (b, row))))) nl
            have lD : l ≠ D := (ne_of_none upd_same nl).symm
            refine ⟨.ref D, rfl, iv c.2.1, rfl, D, rrf (R.set c.2.2 (b, row)), (c.2.1 : Int), c.2.1, rfl, rfl, eD8, ixN_lt (by rw [List.length_map, List.length_set, okR.len]; exact hcl.1), ?_⟩
            rw [← rrf_set (R.set c.2.2 (b, row)) c.2.1 l row]
            refine ⟨_, _, _, rfl, ?_, _, upd_same, RH.put (RH.set (hR7.same (same_upd nl)) upd_same lD), ?_⟩
            · refine same_put ?_ nD
              refine Same.trans ?_ (same_upd nl)
              exact same_put (s3.trans s6) nD
            · have hstep := okR.step (c := c.2) hcl ga gb (x := b) (y := l) lrow mrow
              have ek : Kn ((prs L).take (i + 1)) = stepK (Kn ((prs L).take i)) c.2 := by
                unfold Kn
                rw [getElem?_snoc _ _ _ (prs_get hc), List.foldl_append]
                rfl
              rw [ek]
              exact hstep
      · obtain ⟨v3, v5, v6, rfl, s3, R, eD, hR, okR⟩ := h3
        refine ⟨.ref D, rfl, q H3 D R s3 nD eD hR ?_⟩
        rw [List.take_of_length_le (by rw [List.length_map, List.length_map]; exact Nat.le_refl _)] at okR
        exact okR
end
end K74


namespace K74
open PySem PySem.Spec PyProof.Rows L2
theorem for_enum {K : PySem.W.Frag} {a : Addr} {xs : List V} {g : TG} {tb : TS} {D : Ends} {σ : L2.St} {H : Hp} (Pv : Nat → L2.St → Hp → Prop) (h0 : Pv 0 σ H) (hl : ∀ i σ H, i ≤ xs.length → Pv i σ H → SqL K H a xs)
    (hs : ∀ i x σ H T, xs[i]? = some x → Pv i σ H → H T = none → g (.ref T) σ (upd H T (.tup [.int (i : Nat), x])) fun σ2 H2 => tb { D with nx := Pv (i + 1), ct := Pv (i + 1), bk := D.nx } σ2 H2) (hd : ∀ σ H, Pv xs.length σ H → D.nx σ H) :
    ∃ W : Nat → Nat → L2.St → Hp → Prop, (∃ m, W 0 m σ H) ∧ ∀ i m σ H, W i m σ H →
      ((Ite K a).stop i H ∧ D.nx σ H) ∨ ((Ite K a).go i H ∧ ∃ N : L2.St → Hp → Prop, (∀ σ' H', N σ' H' → ∃ m', m' < m ∧ W (i + 1) m' σ' H') ∧ ∀ x H', (Ite K a).yld i H x H' → g x σ H' fun σ2 H2 => tb { D with nx := N, ct := N, bk := D.nx } σ2 H2) := by
  refine ⟨fun i m σ H => m = xs.length - i ∧ i ≤ xs.length ∧ Pv i σ H, ⟨xs.length, by simp, Nat.zero_le _, h0⟩, ?_⟩
  rintro i m σ H ⟨rfl, hi, p⟩
  have q := hl i σ H hi p
  by_cases hlt : i < xs.length
  · refine .inr ⟨⟨xs, xs[i], q, List.getElem?_eq_getElem hlt⟩, Pv (i + 1), fun σ' H' p' => ⟨xs.length - (i + 1), by omega, rfl, hlt, p'⟩, fun x H' y => ?_⟩
    obtain ⟨T, z, rfl, nT, rfl, hz⟩ := y
    exact hs i z σ H T (hz xs q) p nT
  · have e : i = xs.length := by omega
    subst e
    exact .inl ⟨⟨xs, q, Nat.le_refl _⟩, hd σ H p⟩
section
variable {P : Program} {w : World} {K : PySem.W.Frag} {mg : Str → Option Value} {base : Heap}

/-! ### against -/
abbrev nAg : List Str := ["people", "way", "plan", "goal", "found", "known", "pair", "person", "some"]
theorem scAg : FnScope nAg ["people", "way", "plan", "goal"] (defScope sAgainst) := ⟨rfl, rfl, rfl, by decide +kernel, rfl, by decide +kernel, by decide +kernel⟩
/-- what against and reaches are told -/
def Told (H : Hp) (n : Nat) (t : Addr) (L : AL) : Prop := (2 ≤ n ∧ n ≤ 10) ∧ H t = some (.tup (rfs L)) ∧ PL H L ∧ ∀ c ∈ prs L, c.1 < n ∧ c.2 < n
def spAgainst : Sp := fun vs H Q _ => ∃ (n : Nat) (t : Addr) (L : AL), vs = [iv n, .str "meet", .ref t, .str "everybody"] ∧ Told H n t L ∧
  ∀ v H', Same H H' → (v = .non ↔ All n (prs L)) → Q v H'
def spReaches : Sp := fun vs H Q _ => ∃ (n : Nat) (t : Addr) (L : AL), vs = [iv n, .str "meet", .ref t, .str "everybody"] ∧ Told H n t L ∧
  ∀ b H', Same H H' → (b = true ↔ All n (prs L)) → Q (.bl b) H'
theorem text_ne : decide (V.str "everybody" = V.str "somebody") = false := by decide +kernel
theorem all_pairs_iff {n : Nat} (h2 : 2 ≤ n) (plan : List NP) : (∀ x y, x < y → y < n → ∀ p, p < n → Kn plan p x = true ∧ Kn plan p y = true) ↔ All n plan := by
  constructor
  · intro h p hp x hx
    by_cases e : x = 0
    · exact (h x 1 (by omega) (by omega) p hp).1
    · exact (h 0 x (by omega) hx p hp).2
  · intro h x y hxy hy p hp
    exact ⟨h p hp x (by omega), h p hp y hy⟩
theorem ok_against {f fK fA fH : Addr} {fd fdK fdA fdH : FuncData} (F : Fun K "against" "against" sAgainst f fd) (B : Bn mg) (CK : Cal P w K mg base 1 "known_by" fK fdK ["people", "way", "plan"] spKnown)
    (CA : Cal P w K mg base 1 "all_pairs" fA fdA ["people"] spPairs) (CH : Cal P w K mg base 1 "has_both" fH fdH ["some", "pair"] spHas) : FnOk P w K mg base CX0 2 f fd ["people", "way", "plan", "goal"] spAgainst := by
  refine F.ok scAg (fun vs H Q E h => ?_) (fun cdv A outer s H vs Q E hr h => ?_)
  · obtain ⟨n, t, L, rfl, _⟩ := h
    rfl
  · obtain ⟨n, t, L, rfl, ⟨⟨h2, hn⟩, ht, hL, hlt⟩, q⟩ := h
    obtain ⟨tm, hsome⟩ := B.some_
    have hr1 : Room 1 _ := hr.mono (by decide)
    refine ⟨_, pss_cons (ps_if (pt_cmpR op_eq (pv 3) (pe_glob (v := .str "somebody") (by rfl) hsome ⟨_, rfl⟩) (nomark _)) pss_never pss_nil)
      (pss_cons (ps_set (i := 5) scAg.nd rfl (.inl rfl) (pe_call CK.G hr1 (by rfl) CK.mf CK.kp CK.b .nil pass0 (pa_cons (pv 0) (pa_cons (pv 1) (pa_cons (pv 2) pa_nil)))))
      (pss_cons (ps_for PassesOwn.never rfl (pi_list (pe_call CA.G hr1 (by rfl) CA.mf CA.kp CA.b .nil pass0 (pa_cons (pv 0) pa_nil))) (pg_name (i := 6) scAg.nd rfl (.inl rfl))
        (pss_one (ps_for PassesOwn.never rfl (pi_enum (by rfl) B.enum_ (pa_cons (pv 5) pa_nil)) (pg_tup rfl (pgs_cons (pg_name (i := 7) scAg.nd rfl (.inl rfl)) (pgs_cons (pg_name (i := 8) scAg.nd rfl (.inl rfl)) pgs_nil)))
          (pss_one (ps_if (pt_not (pt_val (pe_call CH.G hr1 (by rfl) CH.mf CH.kp CH.b .nil pass0 (pa_cons (pv 8) (pa_cons (pv 6) pa_nil))))) (pss_one (ps_ret (pe_tup (pa_cons (pv 6) (pa_cons (pv 7) pa_nil))))) pss_nil)))))
      (pss_one (ps_ret pe_non)))), ?_⟩
    refine ⟨.str "everybody", rfl, rfl, _, rfl, ?_⟩
    show if decide (V.str "everybody" = V.str "somebody") = true then _ else _
    rw [text_ne]
    refine iteF ?_
    -- known = known_by(people, way, plan)
    refine ⟨iv n, rfl, .str "meet", rfl, .ref t, rfl, n, t, L, rfl, hn, ht, hL, hlt, fun H1 D R s1 nD eD hR okR => ?_⟩
    -- for pair in all_pairs(people)
    refine ⟨iv n, rfl, n, rfl, hn, fun H2 M LM s2 nM eM pM lM mM aM => ?_⟩
    have s12 := s1.trans s2
    refine ⟨M, rfl, ⟨_, SqL.of eM⟩, for_list (K := K) (a := M) (xs := rfs LM) (fun i σ H3 => ∃ v6 v7 v8, σ = [some (iv n), some (.str "meet"), some (.ref t), some (.str "everybody"), none, some (.ref D), v6, v7, v8] ∧ Same H2 H3 ∧ ∀ c ∈ (prs LM).take i, ∀ p, p < n → Kn (prs L) p c.1 = true ∧ Kn (prs L) p c.2 = true)
      ⟨_, _, _, rfl, Same.refl _, fun c hc => absurd hc (by simp)⟩ (fun i σ H3 _ ⟨_, _, _, _, s3, _⟩ => SqL.of (s3 _ _ eM)) (fun i x σ H3 hx h3 => ?_) (fun σ H3 h3 => ?_)⟩
    · obtain ⟨v6, v7, v8, rfl, s3, hk⟩ := h3
      obtain ⟨c, hc, rfl, hcm⟩ := rfs_get hx
      have hcl := mM c hcm
      refine ⟨.ref D, rfl, D, rrf R, rfl, SqL.of (s3 _ _ (s2 _ _ eD)), for_enum (K := K) (a := D) (xs := rrf R) (fun j σ H4 => ∃ v7 v8, σ = [some (iv n), some (.str "meet"), some (.ref t), some (.str "everybody"), none, some (.ref D), some (.ref c.1), v7, v8] ∧ Same H2 H4 ∧ ∀ p, p < j → p < n → Kn (prs L) p c.2.1 = true ∧ Kn (prs L) p c.2.2 = true)
        ⟨_, _, rfl, s3, fun p h => absurd h (Nat.not_lt_zero p)⟩ (fun j σ H4 _ ⟨_, _, _, s4, _⟩ => SqL.of (s4 _ _ (s2 _ _ eD))) (fun j y σ H4 T hy h4 nT => ?_) (fun σ H4 h4 => ?_)⟩
      · obtain ⟨u7, u8, rfl, s4, hk4⟩ := h4
        have hjl : j < n := by
          have := (List.getElem?_eq_some_iff.mp hy).1
          rw [List.length_map, okR.len] at this
          exact this
        obtain ⟨r, gr, fr, mr⟩ := okR.get hjl
        have ey : y = .ref r.1 := Option.some.inj (hy.symm.trans fr)
        subst ey
        have hrow := okR.mem _ _ gr
        have s5 : Same H4 (upd H4 T (.tup [iv j, .ref r.1])) := same_upd nT
        refine ⟨T, [iv j, .ref r.1], rfl, SqT.of upd_same, rfl, iv j, [.ref r.1], rfl, .ref r.1, [], rfl, rfl, ?_⟩
        refine ⟨.ref r.1, rfl, .ref c.1, rfl, r.1, c.1, r.2, c.2, rfl, s5 _ _ (s4 _ _ (s2 _ _ (hR r mr).1)), s5 _ _ (s4 _ _ (pM c hcm)), ?_⟩
        refine ⟨_, rfl, ?_⟩
        refine ite2 (fun e => ?_) (fun e => ?_)
        · have e' : decide (c.2.1 ∈ r.2 ∧ c.2.2 ∈ r.2) = false := by
            cases h : decide (c.2.1 ∈ r.2 ∧ c.2.2 ∈ r.2) with
            | false => rfl
            | true => rw [h] at e; cases e
          refine ⟨.ref c.1, rfl, iv j, rfl, by show 2 ≤ sizeLine; decide, fun u nu => ?_⟩
          refine q _ _ ((s12.trans (s4.trans s5)).trans (same_upd nu)) ⟨fun z => (nomatch z), fun all => ?_⟩
          refine absurd ?_ (of_decide_eq_false e')
          exact ⟨((hrow.2 _).mpr ⟨by omega, all j hjl _ (by omega)⟩), ((hrow.2 _).mpr ⟨hcl.2, all j hjl _ hcl.2⟩)⟩
        · have e' : c.2.1 ∈ r.2 ∧ c.2.2 ∈ r.2 := by
            refine Classical.byContradiction fun z => e ?_
            rw [decide_eq_false z]
            rfl
          refine ⟨_, _, rfl, s4.trans s5, fun p hp hpn => ?_⟩
          by_cases ep : p = j
          · subst ep
            exact ⟨((hrow.2 _).mp e'.1).2, ((hrow.2 _).mp e'.2).2⟩
          · exact hk4 p (by omega) hpn
      · obtain ⟨u7, u8, rfl, s4, hk4⟩ := h4
        rw [List.length_map, okR.len] at hk4
        refine ⟨_, _, _, rfl, s4, fun d hd p hp => ?_⟩
        rw [getElem?_snoc _ _ _ (prs_get hc)] at hd
        rcases List.mem_append.mp hd with z | z
        · exact hk d z p hp
        · have : d = c.2 := by simpa using z
          rw [this]
          exact hk4 p hp hp
    · obtain ⟨v6, v7, v8, rfl, s3, hk⟩ := h3
      refine q .non H3 (s12.trans s3) ⟨fun _ => (all_pairs_iff h2 _).mp fun x y hxy hy p hp => ?_, fun _ => rfl⟩
      have hm := aM x y hxy hy
      exact hk (x, y) (by rw [List.take_of_length_le (by rw [List.length_map, List.length_map]; exact Nat.le_refl _)]; exact hm) p hp

/-! ### reaches -/
theorem scRe : FnScope ["people", "way", "plan", "goal"] ["people", "way", "plan", "goal"] (defScope sReaches) := ⟨rfl, rfl, rfl, by decide +kernel, rfl, by decide +kernel, by decide +kernel⟩
theorem ok_reaches {f fA : Addr} {fd fdA : FuncData} (F : Fun K "reaches" "reaches" sReaches f fd) (C : Cal P w K mg base 2 "against" fA fdA ["people", "way", "plan", "goal"] spAgainst) : FnOk P w K mg base CX0 3 f fd ["people", "way", "plan", "goal"] spReaches := by
  refine F.ok scRe (fun vs H Q E h => ?_) (fun cdv A outer s H vs Q E hr h => ?_)
  · obtain ⟨n, t, L, rfl, _⟩ := h
    rfl
  · obtain ⟨n, t, L, rfl, hT, q⟩ := h
    have hr1 : Room 2 _ := hr.mono (by decide)
    refine ⟨_, pss_one (ps_ret (pe_cmpR op_isN (pe_call C.G hr1 (by rfl) C.mf C.kp C.b .nil pass0 (pa_cons (pv 0) (pa_cons (pv 1) (pa_cons (pv 2) (pa_cons (pv 3) pa_nil))))) pe_non (nomark _))), ?_⟩
    refine ⟨iv n, rfl, .str "meet", rfl, .ref t, rfl, .str "everybody", rfl, n, t, L, rfl, hT, fun v H1 s1 hv => ⟨rfl, ?_⟩⟩
    exact q _ H1 s1 (by rw [decide_eq_true_iff]; exact hv)
end
end K74


namespace K74
open PySem PySem.Spec PyProof.Rows L2
/-! ### the class Ways -/
theorem k12 : ¬ (("own_people" : Str) = "own_is_meet") := by decide +kernel
theorem k13 : ¬ (("own_people" : Str) = "own_pairs") := by decide +kernel
theorem k23 : ¬ (("own_is_meet" : Str) = "own_pairs") := by decide +kernel
def wf1 (n : Nat) : List (Str × V) := putF "own_people" (iv n) []
def wf2 (n : Nat) : List (Str × V) := putF "own_is_meet" (.bl true) (wf1 n)
def wf (n : Nat) (u : Addr) : List (Str × V) := putF "own_pairs" (.ref u) (wf2 n)
theorem wf1_len (n : Nat) : (wf1 n).length < 1000 := by show 1 < 1000; decide
theorem wf2_len (n : Nat) : (wf2 n).length < 1000 := by
  have e : wf2 n = ([("own_people", iv n), ("own_is_meet", V.bl true)] : List (Str × V)) := by
    show (if ("own_people" : Str) = "own_is_meet" then [(("own_people" : Str), V.bl true)] else (("own_people" : Str), iv n) :: putF "own_is_meet" (V.bl true) []) = _
    rw [if_neg k12]
    rfl
  rw [e]
  show 2 < 1000
  decide
theorem wf_people (n : Nat) (u : Addr) : (wf n u).lookup ("own_people" : Str) = some (iv n) := by
  unfold wf wf2 wf1
  rw [lookup_putF, if_neg k13, lookup_putF, if_neg k12, lookup_putF, if_pos rfl]
theorem wf_meet (n : Nat) (u : Addr) : (wf n u).lookup ("own_is_meet" : Str) = some (.bl true) := by
  unfold wf wf2 wf1
  rw [lookup_putF, if_neg k23, lookup_putF, if_pos rfl]
theorem wf_pairs (n : Nat) (u : Addr) : (wf n u).lookup ("own_pairs" : Str) = some (.ref u) := by
  unfold wf
  rw [lookup_putF, if_pos rfl]
theorem wf_no (n : Nat) (u : Addr) {m : Str} (h1 : ¬ m = "own_people") (h2 : ¬ m = "own_is_meet") (h3 : ¬ m = "own_pairs") : (wf n u).lookup m = none := by
  unfold wf wf2 wf1
  rw [lookup_putF, if_neg h3, lookup_putF, if_neg h2, lookup_putF, if_neg h1]
  rfl
structure CT (K : PySem.W.Frag) (mg : Str → Option Value) (C : Addr) : Prop where
  cl : Cls K C
  n1 : NoAttr K C "own_people"
  n2 : NoAttr K C "own_is_meet"
  n3 : NoAttr K C "own_pairs"
  mgC : mg "Ways" = some (.ref C)
/-- a Ways stands at p -/
def WaysAt (C : Addr) (H : Hp) (p : Addr) (n : Nat) (ps : List NP) : Prop :=
  ∃ (dx u : Addr) (L : AL), H p = some (.ins C dx (wf n u)) ∧ H u = some (.tup (rfs L)) ∧ PL H L ∧ prs L = ps
theorem WaysAt.same {C : Addr} {H H' : Hp} {p : Addr} {n : Nat} {ps : List NP} (h : WaysAt C H p n ps) (s : Same H H') : WaysAt C H' p n ps := by
  obtain ⟨dx, u, L, a, b, c, d⟩ := h
  exact ⟨dx, u, L, s _ _ a, s _ _ b, c.same s, d⟩
structure MCal (P : Program) (w : World) (K : PySem.W.Frag) (mg : Str → Option Value) (base : Heap) (C : Addr) (k : Nat) (m : Str) (f : Addr) (fd : FuncData) (ps : List Str) (sp : Sp) : Prop where
  G : FnOk P w K mg base CX0 k f fd ps sp
  hm : Meth K C m f
  b : Binds K fd ps []
section
variable {P : Program} {w : World} {K : PySem.W.Frag} {mg : Str → Option Value} {base : Heap}

/-! ### __init__ -/
theorem scInit : FnScope ["self", "people", "way", "graph"] ["self", "people", "way", "graph"] (defScope sInit) := ⟨rfl, rfl, rfl, by decide +kernel, rfl, by decide +kernel, by decide +kernel⟩
def spInit (C : Addr) : Sp := fun vs H Q _ => ∃ (p dx t : Addr) (n : Nat) (L : AL), vs = [.ref p, iv n, .str "meet", .ref t] ∧ H p = some (.ins C dx []) ∧ H t = some (.tup (rfs L)) ∧ PL H L ∧ L.length ≤ 1000 ∧
  ∀ H', (∀ b o, H b = some o → b ≠ p → H' b = some o) → WaysAt C H' p n (prs L) → Q .non H'
theorem ok_init {f fA C : Addr} {fd fdA : FuncData} (F : Fun K "__init__" "Ways.__init__" sInit f fd) (B : Bn mg) (T : CT K mg C) (CA : Cal P w K mg base 3 "as_tuples" fA fdA ["thing"] spAsT) :
    FnOk P w K mg base CX0 4 f fd ["self", "people", "way", "graph"] (spInit C) := by
  refine F.ok scInit (fun vs H Q E h => ?_) (fun cdv A outer s H vs Q E hr h => ?_)
  · obtain ⟨p, dx, t, n, L, rfl, _⟩ := h
    rfl
  · obtain ⟨p, dx, t, n, L, rfl, hp, ht, hL, hlen, q⟩ := h
    obtain ⟨tm, hmeet⟩ := B.meet_
    have hr1 : Room 3 _ := hr.mono (by decide)
    refine ⟨_, pss_cons (ps_fld (pv 0) (pv 1) rfl) (pss_cons (ps_fld (pv 0) (pe_cmpR op_eq (pv 2) (pe_glob (v := .str "meet") (by rfl) hmeet ⟨_, rfl⟩) (nomark _)) rfl)
      (pss_one (ps_fld (pv 0) (pe_call CA.G hr1 (by rfl) CA.mf CA.kp CA.b .nil pass0 (pa_cons (pv 3) pa_nil)) rfl))), ?_⟩
    refine ⟨iv n, rfl, .ref p, rfl, p, C, dx, [], rfl, hp, T.cl, T.n1, by show 0 < 1000; decide, ?_⟩
    have et : decide (V.str "meet" = V.str "meet") = true := decide_eq_true rfl
    refine ⟨.str "meet", rfl, rfl, ?_⟩
    rw [et]
    refine ⟨.ref p, rfl, p, C, dx, _, rfl, upd_same, T.cl, T.n2, wf1_len n, ?_⟩
    rw [upd_upd]
    have kp : ∀ (o : HO) (b : Addr) (x : HO), H b = some x → b ≠ p → upd H p o b = some x := fun o b x e nb => at_put e nb
    have tp : t ≠ p := ne_of ht hp (by intro z; cases z)
    have qp : ∀ q' ∈ L, q'.1 ≠ p := fun q' hq => ne_of (hL q' hq) hp (by intro z; cases z)
    refine ⟨.ref t, rfl, t, L, rfl, kp _ _ _ ht tp, fun q' hq => kp _ _ _ (hL q' hq) (qp q' hq), hlen, fun H1 u L' s1 nu eu pu eL => ?_⟩
    have hp1 : H1 p = some (.ins C dx (wf2 n)) := s1 _ _ upd_same
    have up : u ≠ p := ne_of eu hp1 (by intro z; cases z)
    refine ⟨.ref p, rfl, p, C, dx, _, rfl, hp1, T.cl, T.n3, wf2_len n, ?_⟩
    refine q _ (fun b o e nb => at_put (s1 _ _ (kp _ _ _ e nb)) nb) ⟨dx, u, L', upd_same, at_put eu up, fun q' hq => at_put (pu q' hq) (ne_of (pu q' hq) hp1 (by intro z; cases z)), eL⟩

/-! ### nexts, backs -/
def nx1 (ps : List NP) (x : Nat) : List Nat := (ps.filter fun c => decide (c.1 = x)).map (·.2)
def nx2 (ps : List NP) (x : Nat) : List Nat := (ps.filter fun c => decide (c.2 = x)).map (·.1)
theorem nx1_snoc (ps : List NP) (c : NP) (x : Nat) : nx1 (ps ++ [c]) x = if c.1 = x then nx1 ps x ++ [c.2] else nx1 ps x := by
  unfold nx1
  rw [List.filter_append, List.map_append]
  by_cases e : c.1 = x
  · rw [if_pos e, List.filter_cons, if_pos (decide_eq_true e)]
    rfl
  · rw [if_neg e, List.filter_cons, if_neg (by simp [e])]
    simp
theorem nx2_snoc (ps : List NP) (c : NP) (x : Nat) : nx2 (ps ++ [c]) x = if c.2 = x then nx2 ps x ++ [c.1] else nx2 ps x := by
  unfold nx2
  rw [List.filter_append, List.map_append]
  by_cases e : c.2 = x
  · rw [if_pos e, List.filter_cons, if_pos (decide_eq_true e)]
    rfl
  · rw [if_neg e, List.filter_cons, if_neg (by simp [e])]
    simp
theorem nx1_len (ps : List NP) (x : Nat) : (nx1 ps x).length ≤ ps.length := by
  unfold nx1
  rw [List.length_map]
  exact List.length_filter_le _ _
theorem nx2_len (ps : List NP) (x : Nat) : (nx2 ps x).length ≤ ps.length := by
  unfold nx2
  rw [List.length_map]
  exact List.length_filter_le _ _
abbrev nNx : List Str := ["self", "person", "found", "one", "other"]
theorem scNx : FnScope nNx ["self", "person"] (defScope sNexts) := ⟨rfl, rfl, rfl, by decide +kernel, rfl, by decide +kernel, by decide +kernel⟩
theorem scBk : FnScope nNx ["self", "person"] (defScope sBacks) := ⟨rfl, rfl, rfl, by decide +kernel, rfl, by decide +kernel, by decide +kernel⟩
def spNb (C : Addr) (g : List NP → Nat → List Nat) : Sp := fun vs H Q _ => ∃ (p : Addr) (n x : Nat) (ps : List NP), vs = [.ref p, iv x] ∧ WaysAt C H p n ps ∧ ps.length ≤ 100 ∧
  ∀ H' l, Same H H' → H l = none → H' l = some (.lst ((g ps x).map iv)) → Q (.ref l) H'
theorem ok_nexts {f C : Addr} {fd : FuncData} (F : Fun K "nexts" "Ways.nexts" sNexts f fd) (T : CT K mg C) : FnOk P w K mg base CX0 1 f fd ["self", "person"] (spNb C fun ps x => nx1 ps x ++ nx2 ps x) := by
  refine F.ok scNx (fun vs H Q E h => ?_) (fun cdv A outer s H vs Q E hr h => ?_)
  · obtain ⟨p, n, x, ps, rfl, _⟩ := h
    rfl
  · obtain ⟨p, n, x, ps, rfl, ⟨dx, u, L, hp, hu, hL, rfl⟩, hlen, q⟩ := h
    rw [List.length_map] at hlen
    refine ⟨_, pss_cons (ps_setLc (i := 2) (own := [("one", 3), ("other", 4)]) (g := gTup K 2 (gCons (gName 3) (gCons (gName 4) gNil))) (tt := tTest (tOp rEq (tVar 3) (tVar 1))) (by rfl) scNx.nd rfl rfl (sw_true rfl rfl rfl (by decide +kernel)) (pi_tup (pe_fld (pv 0) rfl))
        (blkOk_by (N := nNx) (sc := defScope sNexts) (by decide +kernel))
        (fun _ _ _ _ _ => pg_tup rfl (pgs_cons (pg_name (i := 3) scNx.nd rfl (.inl rfl)) (pgs_cons (pg_name (i := 4) scNx.nd rfl (.inl rfl)) pgs_nil)))
        (fun _ _ _ _ _ => pts_one (pt_cmpR op_eq (pv 3) (pv 1) (nomark _))) (fun _ _ _ _ _ => pv 4))
      (pss_one (ps_ret (pe_op op_cat (pv 2) (pe_lc (own := [("one", 3), ("other", 4)]) (g := gTup K 2 (gCons (gName 3) (gCons (gName 4) gNil))) (tt := tAnd (tTest (tOp rEq (tVar 4) (tVar 1))) (tB (tFld K (tVar 0) "own_is_meet"))) (by rfl) scNx.nd (pi_tup (pe_fld (pv 0) rfl)) (blkOk_by (N := nNx) (sc := defScope sNexts) (by decide +kernel))
        (fun _ _ _ _ _ => pg_tup rfl (pgs_cons (pg_name (i := 3) scNx.nd rfl (.inl rfl)) (pgs_cons (pg_name (i := 4) scNx.nd rfl (.inl rfl)) pgs_nil)))
        (fun _ _ _ _ _ => pts_one (PW.pt (pw_and (pt_cmpR op_eq (pv 4) (pv 1) (nomark _)) (pw_and1 (pt_val (pe_fld (pv 0) rfl)))))) (fun _ _ _ _ _ => pv 3))))), ?_⟩
    refine ⟨.ref p, rfl, p, C, dx, _, _, rfl, hp, T.cl, T.n3, wf_pairs _ _, u, rfl, ⟨_, SqT.of hu⟩, fun D nD => ?_⟩
    refine lc_tup (K := K) (a := u) (xs := rfs L) (fun i H2 => Same H H2 ∧ H2 D = some (.lst ((nx1 ((prs L).take i) x).map iv))) ⟨same_upd nD, upd_same⟩ (fun i H2 _ h2 => SqT.of (h2.1 _ _ hu)) (fun i y H2 hy h2 => ?_) (fun H2 h2 => ?_)
    · obtain ⟨s2, eD⟩ := h2
      obtain ⟨c, hc, rfl, hcm⟩ := rfs_get hy
      refine ⟨c.1, pr c.2, rfl, SqT.of (s2 _ _ (hL c hcm)), rfl, iv c.2.1, [iv c.2.2], rfl, iv c.2.2, [], rfl, rfl, rfl, iv c.2.1, rfl, iv x, rfl, rfl, _, rfl, ?_⟩
      rw [iv_eq, getElem?_snoc _ _ _ (prs_get hc), nx1_snoc]
      by_cases e : c.2.1 = x
      · rw [decide_eq_true e, if_pos e]
        refine iteT ⟨iv c.2.2, rfl, _, eD, ?_, same_put s2 nD, ?_⟩
        · rw [List.length_map]
          have := nx1_len ((prs L).take i) x
          rw [List.length_take, List.length_map] at this
          exact small (by omega)
        · rw [upd_same, List.map_append]
          rfl
      · rw [decide_eq_false e, if_neg e]
        exact iteF ⟨s2, eD⟩
    · obtain ⟨s2, eD⟩ := h2
      rw [List.take_of_length_le (by rw [List.length_map, List.length_map]; exact Nat.le_refl _)] at eD
      -- the second
      refine ⟨.ref D, rfl, .ref p, rfl, p, C, dx, _, _, rfl, s2 _ _ hp, T.cl, T.n3, wf_pairs _ _, u, rfl, ⟨_, SqT.of (s2 _ _ hu)⟩, fun D2 nD2 => ?_⟩
      refine lc_tup (K := K) (a := u) (xs := rfs L) (fun i H3 => Same H2 H3 ∧ H3 D2 = some (.lst ((nx2 ((prs L).take i) x).map iv))) ⟨same_upd nD2, upd_same⟩ (fun i H3 _ h3 => SqT.of (h3.1 _ _ (s2 _ _ hu))) (fun i y H3 hy h3 => ?_) (fun H3 h3 => ?_)
      · obtain ⟨s3, eD2⟩ := h3
        obtain ⟨c, hc, rfl, hcm⟩ := rfs_get hy
        refine ⟨c.1, pr c.2, rfl, SqT.of (s3 _ _ (s2 _ _ (hL c hcm))), rfl, iv c.2.1, [iv c.2.2], rfl, iv c.2.2, [], rfl, rfl, rfl, iv c.2.2, rfl, iv x, rfl, rfl, _, rfl, ?_⟩
        rw [iv_eq, getElem?_snoc _ _ _ (prs_get hc), nx2_snoc]
        by_cases e : c.2.2 = x
        · rw [decide_eq_true e, if_pos e]
          refine iteT ⟨.ref p, rfl, p, C, dx, _, _, rfl, s3 _ _ (s2 _ _ hp), T.cl, T.n2, wf_meet _ _, true, rfl, iteT ⟨iv c.2.1, rfl, _, eD2, ?_, same_put s3 nD2, ?_⟩⟩
          · rw [List.length_map]
            have := nx2_len ((prs L).take i) x
            rw [List.length_take, List.length_map] at this
            exact small (by omega)
          · rw [upd_same, List.map_append]
            rfl
        · rw [decide_eq_false e, if_neg e]
          exact iteF ⟨s3, eD2⟩
      · obtain ⟨s3, eD2⟩ := h3
        rw [List.take_of_length_le (by rw [List.length_map, List.length_map]; exact Nat.le_refl _)] at eD2
        have l1 := nx1_len (prs L) x
        have l2 := nx2_len (prs L) x
        rw [List.length_map] at l1 l2
        refine ⟨D, D2, _, _, rfl, rfl, s3 _ _ eD, eD2, by rw [List.length_map, List.length_map]; exact small' (by omega), fun l nl => ?_⟩
        refine q _ l ((s2.trans s3).trans (same_upd nl)) ((s2.trans s3).free nl) ?_
        rw [upd_same, List.map_append]
theorem ok_backs {f C : Addr} {fd : FuncData} (F : Fun K "backs" "Ways.backs" sBacks f fd) (T : CT K mg C) : FnOk P w K mg base CX0 1 f fd ["self", "person"] (spNb C fun ps x => nx2 ps x ++ nx1 ps x) := by
  refine F.ok scBk (fun vs H Q E h => ?_) (fun cdv A outer s H vs Q E hr h => ?_)
  · obtain ⟨p, n, x, ps, rfl, _⟩ := h
    rfl
  · obtain ⟨p, n, x, ps, rfl, ⟨dx, u, L, hp, hu, hL, rfl⟩, hlen, q⟩ := h
    rw [List.length_map] at hlen
    refine ⟨_, pss_cons (ps_setLc (i := 2) (own := [("one", 3), ("other", 4)]) (g := gTup K 2 (gCons (gName 3) (gCons (gName 4) gNil))) (tt := tTest (tOp rEq (tVar 4) (tVar 1))) (by rfl) scBk.nd rfl rfl (sw_true rfl rfl rfl (by decide +kernel)) (pi_tup (pe_fld (pv 0) rfl))
        (blkOk_by (N := nNx) (sc := defScope sBacks) (by decide +kernel))
        (fun _ _ _ _ _ => pg_tup rfl (pgs_cons (pg_name (i := 3) scBk.nd rfl (.inl rfl)) (pgs_cons (pg_name (i := 4) scBk.nd rfl (.inl rfl)) pgs_nil)))
        (fun _ _ _ _ _ => pts_one (pt_cmpR op_eq (pv 4) (pv 1) (nomark _))) (fun _ _ _ _ _ => pv 3))
      (pss_one (ps_ret (pe_op op_cat (pv 2) (pe_lc (own := [("one", 3), ("other", 4)]) (g := gTup K 2 (gCons (gName 3) (gCons (gName 4) gNil))) (tt := tAnd (tTest (tOp rEq (tVar 3) (tVar 1))) (tB (tFld K (tVar 0) "own_is_meet"))) (by rfl) scBk.nd (pi_tup (pe_fld (pv 0) rfl)) (blkOk_by (N := nNx) (sc := defScope sBacks) (by decide +kernel))
        (fun _ _ _ _ _ => pg_tup rfl (pgs_cons (pg_name (i := 3) scBk.nd rfl (.inl rfl)) (pgs_cons (pg_name (i := 4) scBk.nd rfl (.inl rfl)) pgs_nil)))
        (fun _ _ _ _ _ => pts_one (PW.pt (pw_and (pt_cmpR op_eq (pv 3) (pv 1) (nomark _)) (pw_and1 (pt_val (pe_fld (pv 0) rfl)))))) (fun _ _ _ _ _ => pv 4))))), ?_⟩
    refine ⟨.ref p, rfl, p, C, dx, _, _, rfl, hp, T.cl, T.n3, wf_pairs _ _, u, rfl, ⟨_, SqT.of hu⟩, fun D nD => ?_⟩
    refine lc_tup (K := K) (a := u) (xs := rfs L) (fun i H2 => Same H H2 ∧ H2 D = some (.lst ((nx2 ((prs L).take i) x).map iv))) ⟨same_upd nD, upd_same⟩ (fun i H2 _ h2 => SqT.of (h2.1 _ _ hu)) (fun i y H2 hy h2 => ?_) (fun H2 h2 => ?_)
    · obtain ⟨s2, eD⟩ := h2
      obtain ⟨c, hc, rfl, hcm⟩ := rfs_get hy
      refine ⟨c.1, pr c.2, rfl, SqT.of (s2 _ _ (hL c hcm)), rfl, iv c.2.1, [iv c.2.2], rfl, iv c.2.2, [], rfl, rfl, rfl, iv c.2.2, rfl, iv x, rfl, rfl, _, rfl, ?_⟩
      rw [iv_eq, getElem?_snoc _ _ _ (prs_get hc), nx2_snoc]
      by_cases e : c.2.2 = x
      · rw [decide_eq_true e, if_pos e]
        refine iteT ⟨iv c.2.1, rfl, _, eD, ?_, same_put s2 nD, ?_⟩
        · rw [List.length_map]
          have := nx2_len ((prs L).take i) x
          rw [List.length_take, List.length_map] at this
          exact small (by omega)
        · rw [upd_same, List.map_append]
          rfl
      · rw [decide_eq_false e, if_neg e]
        exact iteF ⟨s2, eD⟩
    · obtain ⟨s2, eD⟩ := h2
      rw [List.take_of_length_le (by rw [List.length_map, List.length_map]; exact Nat.le_refl _)] at eD
      -- the second
      refine ⟨.ref D, rfl, .ref p, rfl, p, C, dx, _, _, rfl, s2 _ _ hp, T.cl, T.n3, wf_pairs _ _, u, rfl, ⟨_, SqT.of (s2 _ _ hu)⟩, fun D2 nD2 => ?_⟩
      refine lc_tup (K := K) (a := u) (xs := rfs L) (fun i H3 => Same H2 H3 ∧ H3 D2 = some (.lst ((nx1 ((prs L).take i) x).map iv))) ⟨same_upd nD2, upd_same⟩ (fun i H3 _ h3 => SqT.of (h3.1 _ _ (s2 _ _ hu))) (fun i y H3 hy h3 => ?_) (fun H3 h3 => ?_)
      · obtain ⟨s3, eD2⟩ := h3
        obtain ⟨c, hc, rfl, hcm⟩ := rfs_get hy
        refine ⟨c.1, pr c.2, rfl, SqT.of (s3 _ _ (s2 _ _ (hL c hcm))), rfl, iv c.2.1, [iv c.2.2], rfl, iv c.2.2, [], rfl, rfl, rfl, iv c.2.1, rfl, iv x, rfl, rfl, _, rfl, ?_⟩
        rw [iv_eq, getElem?_snoc _ _ _ (prs_get hc), nx1_snoc]
        by_cases e : c.2.1 = x
        · rw [decide_eq_true e, if_pos e]
          refine iteT ⟨.ref p, rfl, p, C, dx, _, _, rfl, s3 _ _ (s2 _ _ hp), T.cl, T.n2, wf_meet _ _, true, rfl, iteT ⟨iv c.2.2, rfl, _, eD2, ?_, same_put s3 nD2, ?_⟩⟩
          · rw [List.length_map]
            have := nx1_len ((prs L).take i) x
            rw [List.length_take, List.length_map] at this
            exact small (by omega)
          · rw [upd_same, List.map_append]
            rfl
        · rw [decide_eq_false e, if_neg e]
          exact iteF ⟨s3, eD2⟩
      · obtain ⟨s3, eD2⟩ := h3
        rw [List.take_of_length_le (by rw [List.length_map, List.length_map]; exact Nat.le_refl _)] at eD2
        have l1 := nx2_len (prs L) x
        have l2 := nx1_len (prs L) x
        rw [List.length_map] at l1 l2
        refine ⟨D, D2, _, _, rfl, rfl, s3 _ _ eD, eD2, by rw [List.length_map, List.length_map]; exact small' (by omega), fun l nl => ?_⟩
        refine q _ l ((s2.trans s3).trans (same_upd nl)) ((s2.trans s3).free nl) ?_
        rw [upd_same, List.map_append]
end
end K74


namespace K74
open PySem PySem.Spec PyProof.Rows L2
/-! ### forest -/
theorem mem_nb (ps : List NP) (x y : Nat) : y ∈ nx2 ps x ++ nx1 ps x ↔ adj ps x y := by
  unfold nx1 nx2 adj
  rw [List.mem_append]
  constructor
  · rintro (h | h)
    · obtain ⟨c, hc, rfl⟩ := List.mem_map.mp h
      obtain ⟨h1, h2⟩ := List.mem_filter.mp hc
      have := of_decide_eq_true h2
      exact .inr (by rw [← this]; exact h1)
    · obtain ⟨c, hc, rfl⟩ := List.mem_map.mp h
      obtain ⟨h1, h2⟩ := List.mem_filter.mp hc
      have := of_decide_eq_true h2
      exact .inl (by rw [← this]; exact h1)
  · rintro (h | h)
    · exact .inr (List.mem_map.mpr ⟨(x, y), List.mem_filter.mpr ⟨h, decide_eq_true rfl⟩, rfl⟩)
    · exact .inl (List.mem_map.mpr ⟨(y, x), List.mem_filter.mpr ⟨h, decide_eq_true rfl⟩, rfl⟩)
structure FS (ps : List NP) (S : List Nat) (n : Nat) (ks : List Nat) (fs : List NP) (at_ : Nat) : Prop where
  eq : ks = S ++ fs.map (·.1)
  nd : ks.Nodup
  lt : ∀ x ∈ ks, x < n
  st : ∀ i c, fs[i]? = some c → adj ps c.1 c.2 ∧ c.2 ∈ S ++ (fs.take i).map (·.1)
  cl : ∀ i x, i < at_ → ks[i]? = some x → ∀ y, adj ps x y → y ∈ ks
theorem FS.len {ps : List NP} {S : List Nat} {n : Nat} {ks : List Nat} {fs : List NP} {a : Nat} (h : FS ps S n ks fs a) : ks.length ≤ n := nodup_lt_length n ks h.nd h.lt
theorem FS.flen {ps : List NP} {S : List Nat} {n : Nat} {ks : List Nat} {fs : List NP} {a : Nat} (h : FS ps S n ks fs a) : fs.length ≤ n := by
  have h1 := h.len
  rw [h.eq, List.length_append, List.length_map] at h1
  omega
theorem FS.push {ps : List NP} {S : List Nat} {n : Nat} {ks : List Nat} {fs : List NP} {a : Nat} (h : FS ps S n ks fs a) {y k : Nat} (hy : y ∉ ks) (yn : y < n) (hk : ks[a]? = some k) (adjk : adj ps y k) : FS ps S n (ks ++ [y]) (fs ++ [(y, k)]) a := by
  have ha : a < ks.length := (List.getElem?_eq_some_iff.mp hk).1
  refine ⟨by rw [h.eq, List.map_append, List.append_assoc]; rfl, ?_, ?_, ?_, ?_⟩
  · rw [List.nodup_append]
    refine ⟨h.nd, by simp, fun x hx z hz e => ?_⟩
    have : z = y := by simpa using hz
    rw [e, this] at hx
    exact hy hx
  · intro x hx
    rcases List.mem_append.mp hx with z | z
    · exact h.lt x z
    · have : x = y := by simpa using z
      rw [this]
      exact yn
  · intro i c hc
    by_cases hi : i < fs.length
    · rw [List.getElem?_append_left hi] at hc
      rw [List.take_append_of_le_length (by omega)]
      exact h.st i c hc
    · have h2 := (List.getElem?_eq_some_iff.mp hc).1
      rw [List.length_append] at h2
      have h3 : i = fs.length := by
        have : i < fs.length + 1 := h2
        omega
      subst h3
      rw [List.getElem?_append_right (Nat.le_refl _), Nat.sub_self] at hc
      have := Option.some.inj hc
      subst this
      rw [List.take_append_of_le_length (Nat.le_refl _), List.take_length]
      refine ⟨adjk, ?_⟩
      rw [← h.eq]
      exact List.mem_of_getElem? hk
  · intro i x hi hx z az
    rw [List.getElem?_append_left (by omega)] at hx
    exact List.mem_append_left _ (h.cl i x hi hx z az)
abbrev nFo : List Str := ["self", "sources", "is_back", "known", "found", "at", "other"]
theorem scFo : FnScope nFo ["self", "sources", "is_back"] (defScope sForest) := ⟨rfl, rfl, rfl, by decide +kernel, rfl, by decide +kernel, by decide +kernel⟩
section
variable {P : Program} {w : World} {K : PySem.W.Frag} {mg : Str → Option Value} {base : Heap}
def spForest (K : PySem.W.Frag) (C : Addr) : Sp := fun vs H Q _ => ∃ (p s : Addr) (n : Nat) (ps : List NP) (S : List Nat), vs = [.ref p, .ref s, .bl true] ∧ WaysAt C H p n ps ∧ n ≤ 10 ∧ ps.length ≤ 100 ∧ (∀ c ∈ ps, c.1 < n ∧ c.2 < n) ∧
  (SqL K H s (S.map iv) ∨ SqT K H s (S.map iv)) ∧ S.Nodup ∧ (∀ x ∈ S, x < n) ∧
  ∀ H' l F, Same H H' → H l = none → H' l = some (.lst (rfs F)) → PL H' F → Forest ps S (prs F) → F.length ≤ 10 → Q (.ref l) H'
abbrev gBk : List NP → Nat → List Nat := fun ps x => nx2 ps x ++ nx1 ps x
abbrev gNx : List NP → Nat → List Nat := fun ps x => nx1 ps x ++ nx2 ps x
theorem ok_forest {f fN fB C : Addr} {fd fdN fdB : FuncData} (F : Fun K "forest" "Ways.forest" sForest f fd) (B : Bn mg) (T : CT K mg C)
    (MB : MCal P w K mg base C 1 "backs" fB fdB ["self", "person"] (spNb C gBk)) (MN : MCal P w K mg base C 1 "nexts" fN fdN ["self", "person"] (spNb C gNx)) :
    FnOk P w K mg base CX0 2 f fd ["self", "sources", "is_back"] (spForest K C) := by
  refine F.ok scFo (fun vs H Q E h => ?_) (fun cdv A outer s H vs Q E hr h => ?_)
  · obtain ⟨p, s, n, ps, S, rfl, _⟩ := h
    rfl
  · obtain ⟨p, s, n, ps, S, rfl, hW, hn, hps, hlt, hS, Snd, Slt, q⟩ := h
    have hr1 : Room 1 _ := hr.mono (by decide)
    refine ⟨_, pss_cons (ps_par3 (i := 3) (j := 4) (l := 5) (by rfl) scFo.nd rfl rfl rfl (by decide) (by decide) (by decide) rfl rfl rfl (pa_cons (pe_callTy call_list_of (by rfl) B.list_ (by decide +kernel) (pa_cons (pv 1) pa_nil)) (pa_cons (pe_lst pa_nil) (pa_cons pe_int pa_nil))) (by rfl))
      (pss_cons (ps_while PassesOwn.never (pt_cmpR op_lt (pv 5) (pe_callB call_len_seq (by rfl) B.len_ PySem.boot_len (pa_cons (pv 3) pa_nil)) (nomark _))
        (pss_cons (ps_for PassesOwn.never rfl (pi_list (pe_ifExp (pt_val (pv 2)) (pe_meth (pv 0) T.cl MB.hm MB.G hr1 MB.b .nil pass0 (pa_cons (pe_ix ix_list (pv 3) (pv 5) (fun _ _ => rfl)) pa_nil)) (pe_meth (pv 0) T.cl MN.hm MN.G hr1 MN.b .nil pass0 (pa_cons (pe_ix ix_list (pv 3) (pv 5) (fun _ _ => rfl)) pa_nil))))
          (pg_name (i := 6) scFo.nd rfl (.inl rfl))
          (pss_one (ps_if (pt_cmpR op_notIn_seq (pv 6) (pv 3) (by rfl))
            (pss_cons (ps_expr (pe_bm PySem.F.plainAttrs_list PySem.F.slot_list_append PySem.F.type_list_append mt_append (pv 3) (pa_cons (pv 6) pa_nil)))
              (pss_one (ps_expr (pe_bm PySem.F.plainAttrs_list PySem.F.slot_list_append PySem.F.type_list_append mt_append (pv 4) (pa_cons (pe_tup (pa_cons (pv 6) (pa_cons (pe_ix ix_list (pv 3) (pv 5) (fun _ _ => rfl)) pa_nil))) pa_nil))))) pss_nil)))
        (pss_one (ps_aug (i := 5) scFo.nd rfl (.inl rfl) pe_int ip_add))))
      (pss_one (ps_ret (pv 4)))), ?_⟩
    refine ⟨.ref s, rfl, s, S.map iv, rfl, hS, fun DK nDK => ?_⟩
    have s1 : Same H (upd H DK (.lst (S.map iv))) := same_upd nDK
    refine ⟨Nat.zero_le _, fun DF nDF => ⟨_, _, _, rfl, ?_⟩⟩
    have s2 := s1.trans (same_upd (o := .lst []) nDF)
    have nDF0 : H DF = none := s1.free nDF
    have nKF : DK ≠ DF := ne_of_none upd_same nDF
    refine ⟨fun m σ H2 => ∃ (a : Nat) (ks : List Nat) (M : AL) (v6 : Option V), m = n - a ∧ σ = [some (.ref p), some (.ref s), some (.bl true), some (.ref DK), some (.ref DF), some (iv a), v6] ∧ Same H H2 ∧ H2 DK = some (.lst (ks.map iv)) ∧ H2 DF = some (.lst (rfs M)) ∧ PL H2 M ∧ FS ps S n ks (prs M) a,
      ⟨n - 0, 0, S, [], none, rfl, rfl, s2, at_upd upd_same nDF, upd_same, PL.nil, ⟨by simp, Snd, Slt, fun i c h => absurd h (by simp), fun i x h => absurd h (Nat.not_lt_zero i)⟩⟩, fun m σ H2 hW2 => ?_⟩
    obtain ⟨a, ks, M, v6, rfl, rfl, s3, eK, eF, pM, fsM⟩ := hW2
    have hkl := fsM.len
    refine ⟨iv a, rfl, .ref DK, rfl, DK, ks.map iv, rfl, .inl (SqL.of eK), (a : Int), ((ks.map iv).length : Int), rfl, rfl, _, rfl, ?_⟩
    rw [List.length_map]
    refine ite2 (fun e => ?_) (fun e => ?_)
    · have ha : a < ks.length := by
        have := of_decide_eq_true e
        omega
      obtain ⟨k, hk⟩ : ∃ k, ks[a]? = some k := ⟨_, List.getElem?_eq_getElem ha⟩
      have hkV : (ks.map iv)[a]? = some (iv k) := by rw [List.getElem?_map, hk]; rfl
      have kn : k < n := fsM.lt k (List.mem_of_getElem? hk)
      have W3 := hW.same s3
      obtain ⟨dx, u, L, hp3, hu3, hL3, eL⟩ := id W3
      refine ⟨fun σ' H' => ∃ (ks : List Nat) (M : AL) (v6 : Option V), σ' = [some (.ref p), some (.ref s), some (.bl true), some (.ref DK), some (.ref DF), some (iv (a + 1)), v6] ∧ Same H H' ∧ H' DK = some (.lst (ks.map iv)) ∧ H' DF = some (.lst (rfs M)) ∧ PL H' M ∧ FS ps S n ks (prs M) (a + 1),
        fun σ' H' h => ?_, ?_⟩
      · obtain ⟨ks', M', v6', h1, h2, h3, h4, h5, h6⟩ := h
        exact ⟨n - (a + 1), by omega, a + 1, ks', M', v6', rfl, h1, h2, h3, h4, h5, h6⟩
      -- for other in self.backs(known[at])
      refine ⟨.bl true, rfl, true, rfl, iteT ?_⟩
      refine ⟨.ref p, rfl, p, dx, _, rfl, hp3, wf_no _ _ (by decide +kernel) (by decide +kernel) (by decide +kernel), .ref DK, rfl, iv a, rfl, DK, ks.map iv, (a : Int), iv k, rfl, rfl, SqL.of eK, atI_nat hkV, p, n, k, ps, rfl, W3, hps, fun H4 l s4 nl el => ?_⟩
      have lK : l ≠ DK := (ne_of_none eK nl).symm
      have lF : l ≠ DF := (ne_of_none eF nl).symm
      refine ⟨l, rfl, ⟨_, SqL.of el⟩, for_list (K := K) (a := l) (xs := (gBk ps k).map iv) (fun j σ' H' => ∃ (ks' : List Nat) (M' : AL) (v6 : Option V), σ' = [some (.ref p), some (.ref s), some (.bl true), some (.ref DK), some (.ref DF), some (iv a), v6] ∧ Same H H' ∧ H' l = some (.lst ((gBk ps k).map iv)) ∧ H' DK = some (.lst (ks'.map iv)) ∧ H' DF = some (.lst (rfs M')) ∧ PL H' M' ∧ FS ps S n ks' (prs M') a ∧ ks'[a]? = some k ∧ ∀ y ∈ (gBk ps k).take j, y ∈ ks')
        ⟨ks, M, _, rfl, s3.trans s4, el, s4 _ _ eK, s4 _ _ eF, pM.same s4, fsM, hk, fun y hy => absurd hy (by simp)⟩ (fun j σ' H' _ ⟨_, _, _, _, _, e, _⟩ => SqL.of e) (fun j x σ' H' hx h' => ?_) (fun σ' H' h' => ?_)⟩
      · obtain ⟨ks', M', u6, rfl, s5, el5, eK5, eF5, pM5, fs5, hk5, cl5⟩ := h'
        obtain ⟨y, hy, rfl⟩ : ∃ y, (gBk ps k)[j]? = some y ∧ iv y = x := by
          rw [List.getElem?_map] at hx
          cases e : (gBk ps k)[j]? with
          | none => rw [e] at hx; cases hx
          | some y => rw [e] at hx; exact ⟨y, rfl, Option.some.inj hx⟩
        have ay : adj ps k y := (mem_nb ps k y).mp (List.mem_of_getElem? hy)
        have yn : y < n := by
          rcases ay with h | h
          · exact (hlt _ h).2
          · exact (hlt _ h).1
        have hkV5 : (ks'.map iv)[a]? = some (iv k) := by rw [List.getElem?_map, hk5]; rfl
        have hl5 := fs5.len
        have hf5 := fs5.flen
        rw [List.length_map] at hf5
        refine ⟨iv y, rfl, .ref DK, rfl, DK, ks'.map iv, rfl, .inl (SqL.of eK5), rfl, flat_row ks', _, rfl, ?_⟩
        show if (!inV (iv y) (ks'.map iv)) = true then _ else _
        rw [inV_row]
        by_cases hin : y ∈ ks'
        · rw [decide_eq_true hin]
          refine iteF ⟨ks', M', _, rfl, s5, el5, eK5, eF5, pM5, fs5, hk5, fun z hz => ?_⟩
          rw [getElem?_snoc _ _ _ hy] at hz
          rcases List.mem_append.mp hz with h | h
          · exact cl5 z h
          · have : z = y := by simpa using h
            rw [this]
            exact hin
        · rw [decide_eq_false hin]
          refine iteT ?_
          -- known.append(other)
          refine ⟨.ref DK, rfl, .inl ⟨rfl, _, SqL.of eK5⟩, iv y, rfl, DK, _, _, rfl, rfl, eK5, by rw [List.length_map]; exact small (by omega), ?_⟩
          have e6 : ks'.map iv ++ [iv y] = (ks' ++ [y]).map iv := by rw [List.map_append]; rfl
          rw [e6]
          have s6 : Same H (upd H' DK (.lst ((ks' ++ [y]).map iv))) := same_put s5 nDK
          have eF6 : upd H' DK (.lst ((ks' ++ [y]).map iv)) DF = some (.lst (rfs M')) := at_put eF5 nKF.symm
          -- found.append((other, known[at]))
          have hkV6 : ((ks' ++ [y]).map iv)[a]? = some (iv k) := by
            rw [List.getElem?_map, List.getElem?_append_left (List.getElem?_eq_some_iff.mp hk5).1, hk5]
            rfl
          refine ⟨.ref DF, rfl, .inl ⟨rfl, _, SqL.of eF6⟩, iv y, rfl, .ref DK, rfl, iv a, rfl, DK, _, (a : Int), iv k, rfl, rfl, SqL.of upd_same, atI_nat hkV6, by show 2 ≤ sizeLine; decide, fun v nv => ?_⟩
          have s7 : Same (upd H' DK (.lst ((ks' ++ [y]).map iv))) (upd (upd H' DK (.lst ((ks' ++ [y]).map iv))) v (.tup (pr (y, k)))) := same_upd nv
          have vF : v ≠ DF := (ne_of_none eF6 nv).symm
          refine ⟨DF, rfs M', _, rfl, rfl, s7 _ _ eF6, by rw [List.length_map]; exact small (by omega), ?_⟩
          rw [← rfs_snoc M' v (y, k)]
          have pM6 : PL (upd H' DK (.lst ((ks' ++ [y]).map iv))) M' := pM5.put eK5
          refine ⟨ks' ++ [y], M' ++ [(v, (y, k))], _, rfl, same_put (s6.trans s7) nDF0, at_put (s7 _ _ (at_put el5 lK)) lF, at_put (s7 _ _ upd_same) nKF, upd_same, ((pM6.same s7).snoc upd_same).put (s7 _ _ eF6), ?_, ?_, fun z hz => ?_⟩
          · rw [prs_snoc]
            exact fs5.push hin yn hk5 (adj_symm ay)
          · rw [List.getElem?_append_left (List.getElem?_eq_some_iff.mp hk5).1]
            exact hk5
          · rw [getElem?_snoc _ _ _ hy] at hz
            rcases List.mem_append.mp hz with h | h
            · exact List.mem_append_left _ (cl5 z h)
            · exact List.mem_append_right _ h
      · -- at += 1
        obtain ⟨ks', M', u6, rfl, s5, el5, eK5, eF5, pM5, fs5, hk5, cl5⟩ := h'
        rw [List.take_of_length_le (by rw [List.length_map]; exact Nat.le_refl _)] at cl5
        refine ⟨iv a, rfl, (a : Int), 1, rfl, rfl, ks', M', u6, rfl, s5, eK5, eF5, pM5, ⟨fs5.eq, fs5.nd, fs5.lt, fs5.st, fun i x hi hx y ay => ?_⟩⟩
        by_cases ei : i = a
        · subst ei
          have : k = x := Option.some.inj (hk5.symm.trans hx)
          subst this
          exact cl5 y ((mem_nb ps k y).mpr ay)
        · exact fs5.cl i x (by omega) hx y ay
    · refine ⟨.ref DF, rfl, q H2 DF M s3 nDF0 eF pM ⟨?_, fsM.st, ?_⟩ ?_⟩
      · rw [← fsM.eq]
        exact fsM.nd
      · rw [← fsM.eq]
        intro x hx y ay
        obtain ⟨i, hi⟩ := List.getElem?_of_mem hx
        have hil := (List.getElem?_eq_some_iff.mp hi).1
        refine fsM.cl i x ?_ hi y ay
        have : ¬ ((a : Int) < (ks.length : Int)) := fun z => e (decide_eq_true z)
        omega
      · have := fsM.flen
        rw [List.length_map] at this
        omega
end
end K74


namespace K74
open PySem PySem.Spec PyProof.Rows L2
/-! ### inward, ring -/
theorem scIn : FnScope ["self", "root", "found"] ["self"] (defScope sInward) := ⟨rfl, rfl, rfl, by decide +kernel, rfl, by decide +kernel, by decide +kernel⟩
/-- what the methods of a Ways are told -/
def Wy (C : Addr) (H : Hp) (p : Addr) (n : Nat) (ps : List NP) : Prop := WaysAt C H p n ps ∧ (2 ≤ n ∧ n ≤ 10) ∧ ps.length ≤ 100 ∧ Web n ps
theorem Wy.same {C : Addr} {H H' : Hp} {p : Addr} {n : Nat} {ps : List NP} (h : Wy C H p n ps) (s : Same H H') : Wy C H' p n ps := ⟨h.1.same s, h.2⟩
theorem Web.lts {n : Nat} {ps : List NP} (w : Web n ps) : ∀ c ∈ ps, c.1 < n ∧ c.2 < n := fun c hc => by
  have := w.lt c hc
  omega
section
variable {P : Program} {w : World} {K : PySem.W.Frag} {mg : Str → Option Value} {base : Heap}
def spInward (C : Addr) : Sp := fun vs H Q _ => ∃ (p : Addr) (n : Nat) (ps : List NP), vs = [.ref p] ∧ Wy C H p n ps ∧
  ∀ H' t l F, Same H H' → H' t = some (.tup [.ref l, iv 0]) → H' l = some (.lst (rfs F).reverse) → PL H' F → Forest ps [0] (prs F) → F.length ≤ 10 → Q (.ref t) H'
theorem ok_inward {f fF C : Addr} {fd fdF : FuncData} (F : Fun K "inward" "Ways.inward" sInward f fd) (B : Bn mg) (T : CT K mg C)
    (MF : MCal P w K mg base C 2 "forest" fF fdF ["self", "sources", "is_back"] (spForest K C)) : FnOk P w K mg base CX0 3 f fd ["self"] (spInward C) := by
  refine F.ok scIn (fun vs H Q E h => ?_) (fun cdv A outer s H vs Q E hr h => ?_)
  · obtain ⟨p, n, ps, rfl, _⟩ := h
    rfl
  · obtain ⟨p, n, ps, rfl, hW, q⟩ := h
    obtain ⟨⟨dx, u, L, hp, hu, hL, eL⟩, ⟨h2, hn⟩, hps, hweb⟩ := id hW
    have hr1 : Room 2 _ := hr.mono (by decide)
    refine ⟨_, pss_cons (ps_for PassesOwn.never rfl (pi_range1 (by rfl) B.range_ (pa_cons (pe_fld (pv 0) rfl) pa_nil)) (pg_name (i := 1) scIn.nd rfl (.inl rfl))
        (pss_cons (ps_set (i := 2) scIn.nd rfl (.inl rfl) (pe_meth (pv 0) T.cl MF.hm MF.G hr1 MF.b .nil pass0 (pa_cons (pe_lst (pa_cons (pv 1) pa_nil)) (pa_cons pe_bl pa_nil))))
        (pss_one (ps_if (pt_cmpR op_eq (pe_callB call_len_seq (by rfl) B.len_ PySem.boot_len (pa_cons (pv 2) pa_nil)) (pe_op op_sub (pe_fld (pv 0) rfl) pe_int) (nomark _))
          (pss_one (ps_ret (pe_tup (pa_cons (pe_revL (pv 2)) (pa_cons (pv 1) pa_nil))))) pss_nil))))
      (pss_one (ps_ret pe_non)), ?_⟩
    refine ⟨.ref p, rfl, p, C, dx, _, _, rfl, hp, T.cl, T.n1, wf_people _ _, (n : Int), rfl, by omega, by omega, ?_⟩
    refine ⟨fun i m σ H' => i = 0 ∧ σ = [some (.ref p), none, none] ∧ H' = H, ⟨0, rfl, rfl, rfl⟩, fun i m σ H' h => ?_⟩
    obtain ⟨rfl, rfl, rfl⟩ := h
    refine .inr ⟨by show 0 < ((n : Int)).toNat; omega, fun _ _ => False, fun _ _ h => h.elim, fun x H1 y => ?_⟩
    obtain ⟨rfl, rfl⟩ := y
    have e0 : V.int (0 + ((0 : Nat) : Int)) = iv 0 := rfl
    rw [e0]
    refine ⟨.ref p, rfl, p, dx, _, rfl, hp, wf_no _ _ (by decide +kernel) (by decide +kernel) (by decide +kernel), iv 0, rfl, by show 1 ≤ sizeLine; decide, fun sl nsl => ?_⟩
    have s1 : Same H1 (upd H1 sl (.lst [iv 0])) := same_upd nsl
    refine ⟨p, sl, n, ps, [0], rfl, hW.1.same s1, hn, hps, hweb.lts, .inl (SqL.of upd_same), by simp, fun x hx => ?_, fun H2 l F s2 nl el pF fF lF => ?_⟩
    · have : x = 0 := by simpa using hx
      omega
    · have s12 := s1.trans s2
      have hlen := fF.length hweb (r := 0) List.mem_cons_self (fun x hx => by
        have : x = 0 := by simpa using hx
        omega)
      rw [List.length_map] at hlen
      have hlen' : F.length + 1 = n := by
        rw [← hlen]
        simp
        omega
      refine ⟨.ref l, rfl, l, rfs F, rfl, .inl (SqL.of el), .ref p, rfl, p, C, dx, _, _, rfl, s12 _ _ hp, T.cl, T.n1, wf_people _ _, (n : Int), 1, rfl, rfl, rfl, _, rfl, ?_⟩
      have ee : decide (V.int ((rfs F).length : Int) = V.int ((n : Int) - 1)) = true := decide_eq_true (by
        rw [List.length_map]
        congr 1
        omega)
      show if decide (V.int ((rfs F).length : Int) = V.int ((n : Int) - 1)) = true then _ else _
      rw [ee]
      refine iteT ?_
      refine ⟨.ref l, rfl, l, rfs F, rfl, SqL.of el, fun r nr => ⟨iv 0, rfl, by show 2 ≤ sizeLine; decide, fun t nt => ?_⟩⟩
      have s3 : Same H2 (upd H2 r (.lst (rfs F).reverse)) := same_upd nr
      have s4 := s3.trans (same_upd (o := .tup [.ref r, iv 0]) nt)
      exact q _ t r F (s12.trans s4) upd_same (at_upd upd_same nt) (pF.same s4) fF lF

/-! ### ring -/
abbrev nRi : List Str := ["self", "one", "other", "both", "person"]
theorem scRi : FnScope nRi ["self"] (defScope sRing) := ⟨rfl, rfl, rfl, by decide +kernel, rfl, by decide +kernel, by decide +kernel⟩
def NoR (ps : List NP) (a c : Nat) : Prop := ¬ ∃ b d, b ≠ d ∧ adj ps a b ∧ adj ps b c ∧ adj ps c d ∧ adj ps d a
theorem no_ring {n : Nat} {ps : List NP} (w : Web n ps) (h : ∀ a c, a < c → c < n → NoR ps a c) : ¬ RingIn ps := fun ⟨p, q, r, s, a, b, c, d, e1, e2⟩ => by
  have h1 := w.adj a
  have h3 := w.adj c
  by_cases l : p < r
  · exact h p r l h3.1 ⟨q, s, e2, a, b, c, d⟩
  · exact h r p (by omega) h1.1 ⟨q, s, e2, adj_symm b, adj_symm a, adj_symm d, adj_symm c⟩
def bothOf (ps : List NP) (a c : Nat) : List Nat := (gNx ps a).filter fun y => decide (y ∈ gNx ps c)
theorem mem_gNx (ps : List NP) (x y : Nat) : y ∈ gNx ps x ↔ adj ps x y := by
  rw [← mem_nb ps x y]
  show y ∈ nx1 ps x ++ nx2 ps x ↔ y ∈ nx2 ps x ++ nx1 ps x
  rw [List.mem_append, List.mem_append]
  exact Or.comm
theorem mem_both (ps : List NP) (a c y : Nat) : y ∈ bothOf ps a c ↔ adj ps a y ∧ adj ps c y := by
  unfold bothOf
  rw [List.mem_filter, decide_eq_true_iff, mem_gNx, mem_gNx]
theorem map_nodup {α β : Type} {f : α → β} {l : List α} (nd : l.Nodup) (inj : ∀ a ∈ l, ∀ b ∈ l, f a = f b → a = b) : (l.map f).Nodup :=
  List.pairwise_map.mpr (nd.imp_of_mem fun ha hb ne e => ne (inj _ ha _ hb e))
theorem nx_nodup {n : Nat} {ps : List NP} (w : Web n ps) (x : Nat) : (gNx ps x).Nodup := by
  show (nx1 ps x ++ nx2 ps x).Nodup
  rw [List.nodup_append]
  refine ⟨map_nodup (w.nd.filter _) fun a ha b hb e => ?_, map_nodup (w.nd.filter _) fun a ha b hb e => ?_, fun y hy z hz e => ?_⟩
  · have h1 := of_decide_eq_true (List.mem_filter.mp ha).2
    have h2 := of_decide_eq_true (List.mem_filter.mp hb).2
    exact Prod.ext (h1.trans h2.symm) e
  · have h1 := of_decide_eq_true (List.mem_filter.mp ha).2
    have h2 := of_decide_eq_true (List.mem_filter.mp hb).2
    exact Prod.ext e (h1.trans h2.symm)
  · unfold nx1 at hy
    unfold nx2 at hz
    obtain ⟨c, hc, rfl⟩ := List.mem_map.mp hy
    obtain ⟨d, hd, e2⟩ := List.mem_map.mp hz
    obtain ⟨c1, c2⟩ := List.mem_filter.mp hc
    obtain ⟨d1, d2⟩ := List.mem_filter.mp hd
    have c3 := of_decide_eq_true c2
    have d3 := of_decide_eq_true d2
    have := w.lt c c1
    have := w.lt d d1
    omega
theorem both_nodup {n : Nat} {ps : List NP} (w : Web n ps) (a c : Nat) : (bothOf ps a c).Nodup := (nx_nodup w a).filter _
theorem two_len {l : List Nat} {x y : Nat} (hx : x ∈ l) (hy : y ∈ l) (ne : x ≠ y) : 1 < l.length := by
  match l, hx, hy with
  | [a], hx, hy => exact absurd ((List.mem_singleton.mp hx).trans (List.mem_singleton.mp hy).symm) ne
  | a :: b :: r, _, _ => simp
def spRing (C : Addr) : Sp := fun vs H Q _ => ∃ (p : Addr) (n : Nat) (ps : List NP), vs = [.ref p] ∧ Wy C H p n ps ∧
  (¬ RingIn ps → ∀ H', Same H H' → Q .non H') ∧
  ∀ H' t a b c d, Same H H' → H' t = some (.tup [iv a, iv b, iv c, iv d]) → adj ps a b → adj ps b c → adj ps c d → adj ps a d → a ≠ c → b ≠ d → Q (.ref t) H'
theorem ok_ring {f fN C : Addr} {fd fdN : FuncData} (F : Fun K "ring" "Ways.ring" sRing f fd) (B : Bn mg) (T : CT K mg C)
    (MN : MCal P w K mg base C 1 "nexts" fN fdN ["self", "person"] (spNb C gNx)) : FnOk P w K mg base CX0 2 f fd ["self"] (spRing C) := by
  refine F.ok scRi (fun vs H Q E h => ?_) (fun cdv A outer s H vs Q E hr h => ?_)
  · obtain ⟨p, n, ps, rfl, _⟩ := h
    rfl
  · obtain ⟨p, n, ps, rfl, hW, q1, q2⟩ := h
    obtain ⟨⟨dx, u, L, hp, hu, hL, eL⟩, ⟨h2, hn⟩, hps, hweb⟩ := id hW
    have hr1 : Room 1 _ := hr.mono (by decide)
    refine ⟨_, pss_cons (ps_for PassesOwn.never rfl (pi_range1 (by rfl) B.range_ (pa_cons (pe_fld (pv 0) rfl) pa_nil)) (pg_name (i := 1) scRi.nd rfl (.inl rfl))
        (pss_one (ps_for PassesOwn.never rfl (pi_range2 (by rfl) B.range_ (pa_cons (pe_op op_add (pv 1) pe_int) (pa_cons (pe_fld (pv 0) rfl) pa_nil))) (pg_name (i := 2) scRi.nd rfl (.inr rfl))
          (pss_cons (ps_setLc (i := 3) (own := [("person", 4)]) (g := gName 4) (tt := tTest (tOp (rIn K false) (tVar 4) (tMeth C "nexts" (spNb C gNx) [] E0 (tVar 0) (tCons (tVar 2) tNil)))) (by rfl) scRi.nd rfl rfl (sw_true rfl rfl rfl (by decide +kernel))
              (pi_list (pe_meth (pv 0) T.cl MN.hm MN.G hr1 MN.b .nil pass0 (pa_cons (pv 1) pa_nil))) (blkOk_by (N := nRi) (sc := defScope sRing) (by decide +kernel))
              (fun _ _ _ _ _ => pg_name (i := 4) scRi.nd rfl (.inl rfl)) (fun _ _ _ _ _ => pts_one (pt_cmpR op_in_seq (pv 4) (pe_meth (pv 0) T.cl MN.hm MN.G hr1 MN.b .nil pass0 (pa_cons (pv 2) pa_nil)) (by rfl))) (fun _ _ _ _ _ => pv 4))
          (pss_one (ps_if (pt_cmpR op_gt (pe_callB call_len_seq (by rfl) B.len_ PySem.boot_len (pa_cons (pv 3) pa_nil)) pe_int (nomark _))
            (pss_one (ps_ret (pe_tup (pa_cons (pv 1) (pa_cons (pe_ix ix_list (pv 3) pe_int (fun _ _ => rfl)) (pa_cons (pv 2) (pa_cons (pe_ix ix_list (pv 3) pe_int (fun _ _ => rfl)) pa_nil))))))) pss_nil))))))
      (pss_one (ps_ret pe_non)), ?_⟩
    refine ⟨.ref p, rfl, p, C, dx, _, _, rfl, hp, T.cl, T.n1, wf_people _ _, (n : Int), rfl, by omega, by omega, ?_⟩
    refine for_range (fun i σ H2 => ∃ v1 v2 v3 v4, σ = [some (.ref p), v1, v2, v3, v4] ∧ Same H H2 ∧ ∀ a c, a < i → a < c → c < n → NoR ps a c) ⟨none, none, none, none, rfl, Same.refl _, fun a c h => absurd h (Nat.not_lt_zero a)⟩ (fun i σ H2 hi h => ?_) (fun σ H2 h => ?_)
    · obtain ⟨v1, v2, v3, v4, rfl, s2, no⟩ := h
      have hi' : i < n := by
        have : i < ((n : Int)).toNat := hi
        omega
      have e1 : V.int (0 + (i : Int)) = iv i := by rw [Int.zero_add]
      rw [e1]
      refine ⟨iv i, rfl, (i : Int), 1, rfl, rfl, .ref p, rfl, p, C, dx, _, _, rfl, s2 _ _ hp, T.cl, T.n1, wf_people _ _, (i : Int) + 1, (n : Int), rfl, ⟨by omega, by omega, by omega, by omega⟩, ?_⟩
      refine for_range (fun j σ H3 => ∃ v2 v3 v4, σ = [some (.ref p), some (iv i), v2, v3, v4] ∧ Same H H3 ∧ ∀ c, i < c → c < i + 1 + j → NoR ps i c) ⟨_, _, _, rfl, s2, fun c h1 h2 => absurd h1 (by omega)⟩ (fun j σ H3 hj h => ?_) (fun σ H3 h => ?_)
      · obtain ⟨u2, u3, u4, rfl, s3, no3⟩ := h
        have hj' : i + 1 + j < n := by
          have : j < ((n : Int) - ((i : Int) + 1)).toNat := hj
          omega
        have e2 : V.int ((i : Int) + 1 + (j : Int)) = iv (i + 1 + j) := congrArg V.int (by omega)
        rw [e2]
        -- both = [person for person in self.nexts(one) if person in self.nexts(other)]
        refine ⟨.ref p, rfl, p, dx, _, rfl, s3 _ _ hp, wf_no _ _ (by decide +kernel) (by decide +kernel) (by decide +kernel), iv i, rfl, p, n, i, ps, rfl, hW.1.same s3, hps, fun H4 l s4 nl el => ?_⟩
        have s34 := s3.trans s4
        have ll : (gNx ps i).length ≤ 200 := by
          show (nx1 ps i ++ nx2 ps i).length ≤ 200
          have := nx1_len ps i
          have := nx2_len ps i
          rw [List.length_append]
          omega
        refine ⟨l, rfl, ⟨_, SqL.of el⟩, fun D nD => ?_⟩
        refine lc_list (K := K) (a := l) (xs := (gNx ps i).map iv) (fun j' H5 => Same H4 H5 ∧ H5 D = some (.lst ((((gNx ps i).take j').filter fun y => decide (y ∈ gNx ps (i + 1 + j))).map iv))) ⟨same_upd nD, upd_same⟩ (fun j' H5 _ h5 => SqL.of (h5.1 _ _ el)) (fun j' x H5 hx h5 => ?_) (fun H5 h5 => ?_)
        · obtain ⟨s5, eD⟩ := h5
          obtain ⟨y, hy, rfl⟩ : ∃ y, (gNx ps i)[j']? = some y ∧ iv y = x := by
            rw [List.getElem?_map] at hx
            cases e : (gNx ps i)[j']? with
            | none => rw [e] at hx; cases hx
            | some y => rw [e] at hx; exact ⟨y, rfl, Option.some.inj hx⟩
          have s345 := s34.trans s5
          refine ⟨rfl, iv y, rfl, .ref p, rfl, p, dx, _, rfl, s345 _ _ hp, wf_no _ _ (by decide +kernel) (by decide +kernel) (by decide +kernel), iv (i + 1 + j), rfl, p, n, i + 1 + j, ps, rfl, hW.1.same s345, hps, fun H6 l6 s6 nl6 el6 => ?_⟩
          refine ⟨l6, _, rfl, .inl (SqL.of el6), rfl, flat_row _, _, rfl, ?_⟩
          show if inV (iv y) ((gNx ps (i + 1 + j)).map iv) = true then _ else _
          rw [inV_row, getElem?_snoc _ _ _ hy, List.filter_append, List.filter_cons, List.filter_nil]
          by_cases e : y ∈ gNx ps (i + 1 + j)
          · rw [decide_eq_true e]
            refine iteT ⟨iv y, rfl, _, s6 _ _ eD, ?_, same_put (s5.trans s6) nD, ?_⟩
            · rw [List.length_map]
              have := List.length_filter_le (fun y => decide (y ∈ gNx ps (i + 1 + j))) ((gNx ps i).take j')
              rw [List.length_take] at this
              exact small (by omega)
            · rw [upd_same, if_pos rfl, List.map_append]
              rfl
          · rw [decide_eq_false e]
            refine iteF ⟨s5.trans s6, ?_⟩
            rw [s6 _ _ eD]
            simp
        · obtain ⟨s5, eD⟩ := h5
          rw [List.take_of_length_le (by rw [List.length_map]; exact Nat.le_refl _)] at eD
          have eD' : H5 D = some (.lst ((bothOf ps i (i + 1 + j)).map iv)) := eD
          have s345 := s34.trans s5
          -- if len(both) > 1
          refine ⟨.ref D, rfl, D, _, rfl, .inl (SqL.of eD'), _, 1, rfl, rfl, _, rfl, ?_⟩
          rw [List.length_map]
          refine ite2 (fun e => ?_) (fun e => ?_)
          · have hl : 1 < (bothOf ps i (i + 1 + j)).length := by
              have := of_decide_eq_true e
              omega
            obtain ⟨b, d, r, eb⟩ : ∃ b d r, bothOf ps i (i + 1 + j) = b :: d :: r := by
              match bothOf ps i (i + 1 + j), hl with
              | b :: d :: r, _ => exact ⟨b, d, r, rfl⟩
              | [x], h => exact absurd h (by simp)
              | [], h => exact absurd h (by simp)
            have mb := (mem_both ps i (i + 1 + j) b).mp (by rw [eb]; exact List.mem_cons_self)
            have md := (mem_both ps i (i + 1 + j) d).mp (by rw [eb]; exact List.mem_cons_of_mem _ List.mem_cons_self)
            have nbd : b ≠ d := by
              have := both_nodup hweb i (i + 1 + j)
              rw [eb] at this
              exact fun z => (List.nodup_cons.mp this).1 (by rw [z]; exact List.mem_cons_self)
            rw [eb] at eD'
            refine ⟨iv i, rfl, .ref D, rfl, D, _, 0, iv b, rfl, rfl, SqL.of eD', atI_nat (j := 0) rfl, iv (i + 1 + j), rfl, .ref D, rfl, D, _, 1, iv d, rfl, rfl, SqL.of eD', atI_nat (j := 1) rfl, by show 4 ≤ sizeLine; decide, fun t nt => ?_⟩
            exact q2 _ t i b (i + 1 + j) d (s345.trans (same_upd nt)) upd_same mb.1 (adj_symm mb.2) md.2 md.1 (by omega) nbd
          · refine ⟨_, _, _, rfl, s345, fun c h1 h2 => ?_⟩
            by_cases ec : c = i + 1 + j
            · rw [ec]
              rintro ⟨b, d, ne, a1, a2, a3, a4⟩
              refine e (decide_eq_true ?_)
              have := two_len ((mem_both ps i (i + 1 + j) b).mpr ⟨a1, adj_symm a2⟩) ((mem_both ps i (i + 1 + j) d).mpr ⟨adj_symm a4, a3⟩) ne
              omega
            · exact no3 c h1 (by omega)
      · obtain ⟨u2, u3, u4, rfl, s3, no3⟩ := h
        refine ⟨_, _, _, _, rfl, s3, fun a c h1 h2 h3 => ?_⟩
        by_cases ea : a = i
        · subst ea
          exact no3 c h2 (by omega)
        · exact no a c (by omega) h2 h3
    · obtain ⟨v1, v2, v3, v4, rfl, s2, no⟩ := h
      exact q1 (no_ring hweb fun a c h1 h2 => no a c (by omega) h1 h2) H2 s2
end
end K74


namespace K74
open PySem PySem.Spec PyProof.Rows L2
/-! ### met_all -/
structure PlanOk (n : Nat) (ps plan : List NP) : Prop where
  len : plan.length = due n ps
  ad : ∀ c ∈ plan, adj ps c.1 c.2
  all : All n plan
theorem forest_adj {ps : List NP} {S : List Nat} {fs : List NP} (F : Forest ps S fs) : ∀ c ∈ fs, adj ps c.1 c.2 := fun c hc => by
  obtain ⟨i, hi⟩ := List.getElem?_of_mem hc
  exact (F.st i c hi).1
theorem tree_ok {n : Nat} {ps fs : List NP} (w : Web n ps) (h2 : 2 ≤ n) (F : Forest ps [0] fs) (no : ¬ RingIn ps) : PlanOk n ps (fs.reverse ++ fs.reverse.dropLast.reverse) := by
  have hl := F.length w (r := 0) List.mem_cons_self fun x hx => by
    have : x = 0 := by simpa using hx
    omega
  have hl' : fs.length + 1 = n := by
    rw [← hl]
    simp
    omega
  refine ⟨?_, fun c hc => ?_, tree_plan w h2 F⟩
  · rw [due_none no, List.length_append, List.length_reverse, List.length_reverse, List.length_dropLast, List.length_reverse]
    omega
  · rcases List.mem_append.mp hc with h | h
    · exact forest_adj F c (List.mem_reverse.mp h)
    · exact forest_adj F c (List.mem_reverse.mp (List.dropLast_subset _ (List.mem_reverse.mp h)))
theorem ring_ok {n : Nat} {ps fs : List NP} {a b c d : Nat} (w : Web n ps) (F : Forest ps [a, b, c, d] fs) (ab : adj ps a b) (bc : adj ps b c) (cd : adj ps c d) (ad : adj ps a d) (ac : a ≠ c) (bd : b ≠ d) :
    PlanOk n ps (fs.reverse ++ [(a, b), (c, d), (b, c), (a, d)] ++ fs) := by
  have h1 := w.adj ab
  have h3 := w.adj cd
  have hl := F.length w (r := a) List.mem_cons_self fun x hx => by
    have : x = a ∨ x = b ∨ x = c ∨ x = d := by simpa using hx
    omega
  have hl' : fs.length + 4 = n := by
    rw [← hl]
    simp
    omega
  refine ⟨?_, fun e he => ?_, ring_plan w h1.1 F⟩
  · rw [due_ring ⟨a, b, c, d, ab, bc, cd, adj_symm ad, ac, bd⟩, List.length_append, List.length_append, List.length_reverse]
    show fs.length + 4 + fs.length = _
    omega
  · rcases List.mem_append.mp he with h | h
    · rcases List.mem_append.mp h with h | h
      · exact forest_adj F e (List.mem_reverse.mp h)
      · have : e = (a, b) ∨ e = (c, d) ∨ e = (b, c) ∨ e = (a, d) := by simpa using h
        rcases this with z | z | z | z
        · rw [z]; exact ab
        · rw [z]; exact cd
        · rw [z]; exact bc
        · rw [z]; exact ad
    · exact forest_adj F e h
theorem four_nodup {a b c d : Nat} (h1 : a ≠ b) (h2 : a ≠ c) (h3 : a ≠ d) (h4 : b ≠ c) (h5 : b ≠ d) (h6 : c ≠ d) : [a, b, c, d].Nodup := by
  simp [h1, h2, h3, h4, h5, h6]
abbrev nMa : List Str := ["self", "inward", "ring", "far", "one", "two", "three", "four"]
theorem scMa : FnScope nMa ["self", "inward"] (defScope sMetAll) := ⟨rfl, rfl, rfl, by decide +kernel, rfl, by decide +kernel, by decide +kernel⟩
section
variable {P : Program} {w : World} {K : PySem.W.Frag} {mg : Str → Option Value} {base : Heap}
def spMetAll (C : Addr) : Sp := fun vs H Q _ => ∃ (p l : Addr) (n : Nat) (ps : List NP) (F : AL), vs = [.ref p, .ref l] ∧ Wy C H p n ps ∧ H l = some (.lst (rfs F).reverse) ∧ PL H F ∧ Forest ps [0] (prs F) ∧ F.length ≤ 10 ∧
  ∀ H' r R, Same H H' → H' r = some (.lst (rfs R)) → PL H' R → PlanOk n ps (prs R) → R.length ≤ 100 → Q (.ref r) H'
theorem ok_metAll {f fF fR C : Addr} {fd fdF fdR : FuncData} (F : Fun K "met_all" "Ways.met_all" sMetAll f fd) (T : CT K mg C)
    (MF : MCal P w K mg base C 2 "forest" fF fdF ["self", "sources", "is_back"] (spForest K C)) (MR : MCal P w K mg base C 2 "ring" fR fdR ["self"] (spRing C)) : FnOk P w K mg base CX0 3 f fd ["self", "inward"] (spMetAll C) := by
  refine F.ok scMa (fun vs H Q E h => ?_) (fun cdv A outer s H vs Q E hr h => ?_)
  · obtain ⟨p, l, n, ps, FF, rfl, _⟩ := h
    rfl
  · obtain ⟨p, l, n, ps, FF, rfl, hW, hl, hFF, forF, lF, q⟩ := h
    obtain ⟨⟨dx, u, L, hp, hu, hL, eL⟩, ⟨h2, hn⟩, hps, hweb⟩ := id hW
    have hr1 : Room 2 _ := hr.mono (by decide)
    refine ⟨_, pss_cons (ps_set (i := 2) scMa.nd rfl (.inl rfl) (pe_meth0 (pv 0) T.cl MR.hm MR.G hr1 MR.b .nil pass0))
      (pss_cons (ps_if (pt_cmpR op_isN (pv 2) pe_non (nomark _)) (pss_one (ps_ret (pe_op op_cat (pv 1) (pe_back2 (pv 1))))) pss_nil)
      (pss_cons (ps_set (i := 3) scMa.nd rfl (.inl rfl) (pe_meth (pv 0) T.cl MF.hm MF.G hr1 MF.b .nil pass0 (pa_cons (pv 2) (pa_cons pe_bl pa_nil))))
      (pss_cons (ps_asg (pv 2) (pg_tup rfl (pgs_cons (pg_name (i := 4) scMa.nd rfl (.inl rfl)) (pgs_cons (pg_name (i := 5) scMa.nd rfl (.inl rfl)) (pgs_cons (pg_name (i := 6) scMa.nd rfl (.inl rfl)) (pgs_cons (pg_name (i := 7) scMa.nd rfl (.inl rfl)) pgs_nil))))))
      (pss_one (ps_ret (pe_op op_cat (pe_op op_cat (pe_revL (pv 3)) (pe_lst (pa_cons (pe_tup (pa_cons (pv 4) (pa_cons (pv 5) pa_nil))) (pa_cons (pe_tup (pa_cons (pv 6) (pa_cons (pv 7) pa_nil))) (pa_cons (pe_tup (pa_cons (pv 5) (pa_cons (pv 6) pa_nil)))
        (pa_cons (pe_tup (pa_cons (pv 4) (pa_cons (pv 7) pa_nil))) pa_nil)))))) (pv 3))))))), ?_⟩
    refine ⟨.ref p, rfl, p, dx, _, rfl, hp, wf_no _ _ (by decide +kernel) (by decide +kernel) (by decide +kernel), p, n, ps, rfl, hW, fun no H1 s1 => ?_, fun H1 t a b c d s1 et ab bc cd ad ac bd => ?_⟩
    · -- no ring
      refine ⟨.non, rfl, rfl, _, rfl, ?_⟩
      have e : decide (V.non = V.non) = true := decide_eq_true rfl
      show if decide (V.non = V.non) = true then _ else _
      rw [e]
      refine iteT ?_
      refine ⟨.ref l, rfl, .ref l, rfl, l, (rfs FF).reverse, rfl, SqL.of (s1 _ _ hl), fun r nr => ?_⟩
      have s2 := s1.trans (same_upd (o := .lst (rfs FF).reverse.dropLast.reverse) nr)
      refine ⟨l, r, _, _, rfl, rfl, s2 _ _ hl, upd_same, ?_, fun v nv => ?_⟩
      · rw [List.length_reverse, List.length_reverse, List.length_dropLast, List.length_reverse, List.length_map]
        exact small' (by omega)
      · have s3 := s2.trans (same_upd (o := .lst ((rfs FF).reverse ++ (rfs FF).reverse.dropLast.reverse)) nv)
        have e1 : (rfs FF).reverse ++ (rfs FF).reverse.dropLast.reverse = rfs (FF.reverse ++ FF.reverse.dropLast.reverse) := by
          show (FF.map _).reverse ++ (FF.map _).reverse.dropLast.reverse = (FF.reverse ++ FF.reverse.dropLast.reverse).map _
          rw [List.map_append, List.map_reverse, List.map_reverse, List.map_dropLast, List.map_reverse]
        have e2 : prs (FF.reverse ++ FF.reverse.dropLast.reverse) = (prs FF).reverse ++ (prs FF).reverse.dropLast.reverse := by
          show (FF.reverse ++ FF.reverse.dropLast.reverse).map _ = (FF.map _).reverse ++ (FF.map _).reverse.dropLast.reverse
          rw [List.map_append, List.map_reverse, List.map_reverse, List.map_dropLast, List.map_reverse]
        rw [e1] at s3 ⊢
        refine q _ v _ s3 upd_same (PL.sub (hFF.same s3) fun x hx => ?_) (by rw [e2]; exact tree_ok hweb h2 forF no) ?_
        · rcases List.mem_append.mp hx with z | z
          · exact List.mem_reverse.mp z
          · exact List.mem_reverse.mp (List.dropLast_subset _ (List.mem_reverse.mp z))
        · rw [List.length_append, List.length_reverse, List.length_reverse, List.length_dropLast, List.length_reverse]
          omega
    · -- a ring
      have g1 := hweb.adj ab
      have g2 := hweb.adj bc
      have g3 := hweb.adj cd
      have g4 := hweb.adj ad
      refine ⟨.ref t, rfl, rfl, _, rfl, ?_⟩
      have e : decide (V.ref t = V.non) = false := decide_eq_false fun z => nomatch z
      show if decide (V.ref t = V.non) = true then _ else _
      rw [e]
      refine iteF ?_
      refine ⟨.ref p, rfl, p, dx, _, rfl, s1 _ _ hp, wf_no _ _ (by decide +kernel) (by decide +kernel) (by decide +kernel), .ref t, rfl, p, t, n, ps, [a, b, c, d], rfl, hW.1.same s1, hn, hps, hweb.lts, .inr (SqT.of et), four_nodup g1.2.2 ac g4.2.2 g2.2.2 bd g3.2.2, fun x hx => ?_, fun H2 lf FA s2 nlf elf pFA forA lFA => ?_⟩
      · have : x = a ∨ x = b ∨ x = c ∨ x = d := by simpa using hx
        omega
      have s12 := s1.trans s2
      refine ⟨.ref t, rfl, t, _, rfl, SqT.of (s2 _ _ et), rfl, iv a, _, rfl, iv b, _, rfl, iv c, _, rfl, iv d, [], rfl, rfl, ?_⟩
      refine ⟨.ref lf, rfl, lf, rfs FA, rfl, SqL.of elf, fun r nr => ?_⟩
      have s3 := same_upd (o := .lst (rfs FA).reverse) nr
      refine ⟨iv a, rfl, iv b, rfl, by show 2 ≤ sizeLine; decide, fun t1 n1 => ?_⟩
      have s4 := s3.trans (same_upd (o := .tup (pr (a, b))) n1)
      refine ⟨iv c, rfl, iv d, rfl, by show 2 ≤ sizeLine; decide, fun t2 n2 => ?_⟩
      have s5 := s4.trans (same_upd (o := .tup (pr (c, d))) n2)
      refine ⟨iv b, rfl, iv c, rfl, by show 2 ≤ sizeLine; decide, fun t3 n3 => ?_⟩
      have s6 := s5.trans (same_upd (o := .tup (pr (b, c))) n3)
      refine ⟨iv a, rfl, iv d, rfl, by show 2 ≤ sizeLine; decide, fun t4 n4 => ?_⟩
      have s7 := s6.trans (same_upd (o := .tup (pr (a, d))) n4)
      refine ⟨by show 4 ≤ sizeLine; decide, fun l4 nl4 => ?_⟩
      have s8 := s7.trans (same_upd (o := .lst [.ref t1, .ref t2, .ref t3, .ref t4]) nl4)
      have hr8 := at_upd (o := .lst [.ref t1, .ref t2, .ref t3, .ref t4]) (at_upd (o := .tup (pr (a, d))) (at_upd (o := .tup (pr (b, c))) (at_upd (o := .tup (pr (c, d))) (at_upd (o := .tup (pr (a, b))) (upd_same (H := H2) (a := r) (o := .lst (rfs FA).reverse)) n1) n2) n3) n4) nl4
      refine ⟨r, l4, _, _, rfl, rfl, hr8, upd_same, ?_, fun v nv => ?_⟩
      · rw [List.length_reverse, List.length_map]
        exact small' (by show FA.length + 4 ≤ 1000; omega)
      have s9 := s8.trans (same_upd (o := .lst ((rfs FA).reverse ++ [.ref t1, .ref t2, .ref t3, .ref t4])) nv)
      refine ⟨.ref lf, rfl, v, lf, _, _, rfl, rfl, upd_same, s9 _ _ elf, ?_, fun z nz => ?_⟩
      · rw [List.length_append, List.length_reverse, List.length_map]
        exact small' (by show FA.length + 4 + FA.length ≤ 1000; omega)
      have sA := s9.trans (same_upd (o := .lst ((rfs FA).reverse ++ [.ref t1, .ref t2, .ref t3, .ref t4] ++ rfs FA)) nz)
      have e1 : (rfs FA).reverse ++ [V.ref t1, .ref t2, .ref t3, .ref t4] ++ rfs FA = rfs (FA.reverse ++ [(t1, (a, b)), (t2, (c, d)), (t3, (b, c)), (t4, (a, d))] ++ FA) := by
        show (FA.map _).reverse ++ _ ++ FA.map _ = (FA.reverse ++ [(t1, (a, b)), (t2, (c, d)), (t3, (b, c)), (t4, (a, d))] ++ FA).map _
        rw [List.map_append, List.map_append, List.map_reverse]
        rfl
      have e2 : prs (FA.reverse ++ [(t1, (a, b)), (t2, (c, d)), (t3, (b, c)), (t4, (a, d))] ++ FA) = (prs FA).reverse ++ [(a, b), (c, d), (b, c), (a, d)] ++ prs FA := by
        show (FA.reverse ++ [(t1, (a, b)), (t2, (c, d)), (t3, (b, c)), (t4, (a, d))] ++ FA).map _ = (FA.map _).reverse ++ _ ++ FA.map _
        rw [List.map_append, List.map_append, List.map_reverse]
        rfl
      rw [e1] at sA ⊢
      have k1 := at_upd (o := .lst (rfs (FA.reverse ++ [(t1, (a, b)), (t2, (c, d)), (t3, (b, c)), (t4, (a, d))] ++ FA))) (at_upd (o := .lst ((rfs FA).reverse ++ [.ref t1, .ref t2, .ref t3, .ref t4])) (at_upd (o := .lst [.ref t1, .ref t2, .ref t3, .ref t4]) (at_upd (o := .tup (pr (a, d))) (at_upd (o := .tup (pr (b, c))) (at_upd (o := .tup (pr (c, d))) (upd_same (H := upd H2 r (.lst (rfs FA).reverse)) (a := t1) (o := .tup (pr (a, b)))) n2) n3) n4) nl4) nv) nz
      have k2 := at_upd (o := .lst (rfs (FA.reverse ++ [(t1, (a, b)), (t2, (c, d)), (t3, (b, c)), (t4, (a, d))] ++ FA))) (at_upd (o := .lst ((rfs FA).reverse ++ [.ref t1, .ref t2, .ref t3, .ref t4])) (at_upd (o := .lst [.ref t1, .ref t2, .ref t3, .ref t4]) (at_upd (o := .tup (pr (a, d))) (at_upd (o := .tup (pr (b, c))) (upd_same (H := upd (upd H2 r (.lst (rfs FA).reverse)) t1 (.tup (pr (a, b)))) (a := t2) (o := .tup (pr (c, d)))) n3) n4) nl4) nv) nz
      have k3 := at_upd (o := .lst (rfs (FA.reverse ++ [(t1, (a, b)), (t2, (c, d)), (t3, (b, c)), (t4, (a, d))] ++ FA))) (at_upd (o := .lst ((rfs FA).reverse ++ [.ref t1, .ref t2, .ref t3, .ref t4])) (at_upd (o := .lst [.ref t1, .ref t2, .ref t3, .ref t4]) (at_upd (o := .tup (pr (a, d))) (upd_same (H := upd (upd (upd H2 r (.lst (rfs FA).reverse)) t1 (.tup (pr (a, b)))) t2 (.tup (pr (c, d)))) (a := t3) (o := .tup (pr (b, c)))) n4) nl4) nv) nz
      have k4 := at_upd (o := .lst (rfs (FA.reverse ++ [(t1, (a, b)), (t2, (c, d)), (t3, (b, c)), (t4, (a, d))] ++ FA))) (at_upd (o := .lst ((rfs FA).reverse ++ [.ref t1, .ref t2, .ref t3, .ref t4])) (at_upd (o := .lst [.ref t1, .ref t2, .ref t3, .ref t4]) (upd_same (H := upd (upd (upd (upd H2 r (.lst (rfs FA).reverse)) t1 (.tup (pr (a, b)))) t2 (.tup (pr (c, d)))) t3 (.tup (pr (b, c)))) (a := t4) (o := .tup (pr (a, d)))) nl4) nv) nz
      refine q _ z _ (s12.trans sA) upd_same (PL.append (PL.append (PL.sub (pFA.same sA) fun x hx => List.mem_reverse.mp hx) fun x hx => ?_) (pFA.same sA)) (by rw [e2]; exact ring_ok hweb forA ab bc cd ad ac bd) ?_
      · have : x = (t1, (a, b)) ∨ x = (t2, (c, d)) ∨ x = (t3, (b, c)) ∨ x = (t4, (a, d)) := by simpa using hx
        rcases this with y | y | y | y
        · subst y; exact k1
        · subst y; exact k2
        · subst y; exact k3
        · subst y; exact k4
      · rw [List.length_append, List.length_append, List.length_reverse]
        show FA.length + 4 + FA.length ≤ 100
        omega
end
end K74


namespace K74
open PySem PySem.Spec PyProof.Rows L2
/-! ### plan -/
theorem scPl : FnScope ["self", "goal", "some"] ["self", "goal"] (defScope sPlan) := ⟨rfl, rfl, rfl, by decide +kernel, rfl, by decide +kernel, by decide +kernel⟩
/-- the receiver C(a, ..) asks nothing -/
theorem abase_callA {id attr : Str} {p pos : Pos} {env : Env} {whole : Sem Value} {a : Expr} {args : List Expr} {kws : List Keyword} : attributeBase (.Call (.Name id p) (a :: args) kws pos) attr env whole = whole := rfl
/-- tuple(xs), by its rule's name -/
abbrev rTupOf (K : PySem.W.Frag) : List V → Hp → VK → Prop := fun xs H Q => ∃ p ys, xs = [.ref p] ∧ ((SqL K H p ys ∧ ∀ l, H l = none → Q (.ref l) (upd H l (.tup ys))) ∨ (SqT K H p ys ∧ Q (.ref p) H))
section
variable {P : Program} {w : World} {K : PySem.W.Frag} {mg : Str → Option Value} {base : Heap}
def spPlan (C : Addr) : Sp := fun vs H Q _ => ∃ (p : Addr) (n : Nat) (ps : List NP), vs = [.ref p, .str "everybody"] ∧ Wy C H p n ps ∧
  ∀ H' r R, Same H H' → H' r = some (.lst (rfs R)) → PL H' R → PlanOk n ps (prs R) → R.length ≤ 100 → Q (.ref r) H'
theorem ok_plan {f fI fM C : Addr} {fd fdI fdM : FuncData} (F : Fun K "plan" "Ways.plan" sPlan f fd) (B : Bn mg) (T : CT K mg C)
    (MI : MCal P w K mg base C 3 "inward" fI fdI ["self"] (spInward C)) (MM : MCal P w K mg base C 3 "met_all" fM fdM ["self", "inward"] (spMetAll C)) : FnOk P w K mg base CX0 4 f fd ["self", "goal"] (spPlan C) := by
  refine F.ok scPl (fun vs H Q E h => ?_) (fun cdv A outer s H vs Q E hr h => ?_)
  · obtain ⟨p, n, ps, rfl, _⟩ := h
    rfl
  · obtain ⟨p, n, ps, rfl, hW, q⟩ := h
    obtain ⟨⟨dx, u, L, hp, hu, hL, eL⟩, ⟨h2, hn⟩, hps, hweb⟩ := id hW
    have hr1 : Room 3 _ := hr.mono (by decide)
    obtain ⟨tm, hsome⟩ := B.some_
    refine ⟨_, pss_cons (ps_set (i := 2) scPl.nd rfl (.inl rfl) (pe_meth0 (pv 0) T.cl MI.hm MI.G hr1 MI.b .nil pass0))
      (pss_cons (ps_if (PW.pt (pw_or (pt_cmpR op_isN (pv 2) pe_non (nomark _)) (pw_or1 (pt_cmpR op_eq (pv 1) (pe_glob (v := .str "somebody") (by rfl) hsome ⟨_, rfl⟩) (nomark _))))) pss_never pss_nil)
      (pss_one (ps_ret (pe_ifExp (pt_val (pe_fld (pv 0) rfl)) (pe_meth (pv 0) T.cl MM.hm MM.G hr1 MM.b .nil pass0 (pa_cons (pe_ix ix_tup (pv 2) pe_int (fun _ _ => rfl)) pa_nil)) pe_never)))), ?_⟩
    refine ⟨.ref p, rfl, p, dx, _, rfl, hp, wf_no _ _ (by decide +kernel) (by decide +kernel) (by decide +kernel), p, n, ps, rfl, hW, fun H1 t l FF s1 et el pF forF lF => ?_⟩
    refine ⟨.ref t, rfl, rfl, _, rfl, ?_⟩
    have e : decide (V.ref t = V.non) = false := decide_eq_false fun z => nomatch z
    show if decide (V.ref t = V.non) = true then _ else _
    rw [e]
    refine iteF ?_
    refine ⟨.str "everybody", rfl, rfl, _, rfl, ?_⟩
    show if decide (V.str "everybody" = V.str "somebody") = true then _ else _
    rw [text_ne]
    refine iteF ?_
    refine ⟨.ref p, rfl, p, C, dx, _, _, rfl, s1 _ _ hp, T.cl, T.n2, wf_meet _ _, true, rfl, iteT ?_⟩
    refine ⟨.ref p, rfl, p, dx, _, rfl, s1 _ _ hp, wf_no _ _ (by decide +kernel) (by decide +kernel) (by decide +kernel), .ref t, rfl, t, _, 0, .ref l, rfl, rfl, SqT.of et, atI_nat (j := 0) rfl, ?_⟩
    exact ⟨p, l, n, ps, FF, rfl, hW.same s1, el, pF, forF, lF, fun H2 r R s2 er pR ok lR => q H2 r R (s1.trans s2) er pR ok lR⟩

/-! ### meeting_plan -/
structure PlanFin (n : Nat) (ps plan : List NP) : Prop where
  len : plan.length = due n ps
  sub : ∀ c ∈ plan, c ∈ ps
  all : All n plan
theorem PlanOk.fin {n : Nat} {ps plan : List NP} (w : Web n ps) (h : PlanOk n ps plan) : PlanFin n ps (plan.map srt) := by
  refine ⟨by rw [List.length_map]; exact h.len, fun c hc => ?_, all_srt h.all⟩
  obtain ⟨d, hd, rfl⟩ := List.mem_map.mp hc
  exact w.srt_mem (h.ad d hd)
theorem sort2 {a b : Nat} {ns : List Int} (hp : ns.Perm [(a : Int), (b : Int)]) (hs : ns.Pairwise (· ≤ ·)) : ns.map V.int = pr (srt (a, b)) := by
  have hl := hp.length_eq
  match ns, hl with
  | [x, y], _ =>
    have hxy : x ≤ y := by
      have := List.pairwise_cons.mp hs
      exact this.1 y List.mem_cons_self
    have h1 : x = a ∨ x = b := by
      have := hp.mem_iff.mp (List.mem_cons_self (a := x) (l := [y]))
      simpa using this
    have h2 : y = a ∨ y = b := by
      have := hp.mem_iff.mp (List.mem_cons_of_mem x (List.mem_cons_self (a := y) (l := [])))
      simpa using this
    have h3 : (a : Int) = x ∨ (a : Int) = y := by
      have := hp.mem_iff.mpr (List.mem_cons_self (a := (a : Int)) (l := [(b : Int)]))
      simpa using this
    have h4 : (b : Int) = x ∨ (b : Int) = y := by
      have := hp.mem_iff.mpr (List.mem_cons_of_mem (a : Int) (List.mem_cons_self (a := (b : Int)) (l := [])))
      simpa using this
    unfold srt
    dsimp only
    show [V.int x, V.int y] = [iv (min a b), iv (max a b)]
    have e1 : x = ((min a b : Nat) : Int) := by omega
    have e2 : y = ((max a b : Nat) : Int) := by omega
    rw [e1, e2]
abbrev nMp : List Str := ["people", "way", "graph", "goal", "found", "pair"]
theorem scMp : FnScope nMp ["people", "way", "graph", "goal"] (defScope sMeeting) := ⟨rfl, rfl, rfl, by decide +kernel, rfl, by decide +kernel, by decide +kernel⟩
/-- a GRAPH stands at t -/
def GraphAt (H : Hp) (n : Nat) (t : Addr) (L : AL) : Prop := H t = some (.tup (rfs L)) ∧ PL H L ∧ (2 ≤ n ∧ n ≤ 10) ∧ L.length ≤ 100 ∧ Web n (prs L)
theorem GraphAt.same {H H' : Hp} {n : Nat} {t : Addr} {L : AL} (h : GraphAt H n t L) (s : Same H H') : GraphAt H' n t L := ⟨s _ _ h.1, h.2.1.same s, h.2.2⟩
def spMeet : Sp := fun vs H Q _ => ∃ (n : Nat) (t : Addr) (L : AL), vs = [iv n, .str "meet", .ref t, .str "everybody"] ∧ GraphAt H n t L ∧
  ∀ H' u M, Same H H' → H' u = some (.tup (rfs M)) → PL H' M → PlanFin n (prs L) (prs M) → M.length ≤ 100 → Q (.ref u) H'
theorem ok_meeting {f fI fP C : Addr} {fd fdI fdP : FuncData} (F : Fun K "meeting_plan" "meeting_plan" sMeeting f fd) (B : Bn mg) (T : CT K mg C) (M : Mk K C fI)
    (GI : FnOk P w K mg base CX0 4 fI fdI ["self", "people", "way", "graph"] (spInit C)) (bI : Binds K fdI ["self", "people", "way", "graph"] [])
    (MP : MCal P w K mg base C 4 "plan" fP fdP ["self", "goal"] (spPlan C)) : FnOk P w K mg base CX0 6 f fd ["people", "way", "graph", "goal"] spMeet := by
  refine F.ok scMp (fun vs H Q E h => ?_) (fun cdv A outer s H vs Q E hr h => ?_)
  · obtain ⟨n, t, L, rfl, _⟩ := h
    rfl
  · obtain ⟨n, t, L, rfl, hG, q⟩ := h
    obtain ⟨ht, hL, ⟨h2, hn⟩, hlen, hweb⟩ := id hG
    have hr4 : Room 4 _ := hr.mono (by decide)
    obtain ⟨tm, hmeet⟩ := B.meet_
    refine ⟨_, pss_cons (ps_set (i := 4) scMp.nd rfl (.inl rfl) (pe_meth (pe_make M GI hr (by rfl) T.mgC bI .nil pass0 (pa_cons (pv 0) (pa_cons (pv 1) (pa_cons (pv 2) pa_nil)))) T.cl MP.hm MP.G hr4 MP.b .nil pass0 (pa_cons (pv 3) pa_nil)
        (ht := mcall_of abase_callA (fun ov => rfl))))
      (pss_cons (ps_if (pt_cmpR op_isN (pv 4) pe_non (nomark _)) (pss_one (ps_ret pe_non)) pss_nil)
      (pss_one (ps_ret (pe_callTy call_tuple_of (by rfl) B.tuple_ (by decide +kernel) (pa_cons (pe_lc (own := [("pair", 5)]) (g := gName 5) (tt := tYes) (te := tIf (tTest (tOp rEq (tVar 1) (tC (.str "meet")))) (tCB (rTupOf K) (tCons (tCB (rSortedTI K) (tCons (tVar 5) tNil)) tNil)) (tVar 5)) (by rfl) scMp.nd (pi_list (pv 4)) (blkOk_by (N := nMp) (sc := defScope sMeeting) (by decide +kernel))
        (fun _ _ _ _ _ => pg_name (i := 5) scMp.nd rfl (.inl rfl)) (fun _ _ _ _ _ => pts_nil)
        (fun _ _ _ _ _ => pe_ifExp (pt_cmpR op_eq (pv 1) (pe_glob (v := .str "meet") (by rfl) hmeet ⟨_, rfl⟩) (nomark _)) (pe_callTy call_tuple_of (by rfl) B.tuple_ (by decide +kernel) (pa_cons (pe_callB cr_sortedTI (by rfl) B.sorted_ (by decide +kernel) (pa_cons (pv 5) pa_nil)) pa_nil)) (pv 5))) pa_nil))))), ?_⟩
    -- found = Ways(people, way, graph).plan(goal)
    refine ⟨iv n, rfl, .str "meet", rfl, .ref t, rfl, fun x dx nx ndx nex => ?_⟩
    have s0 : Same H (upd (upd H dx (.own x)) x (.ins C dx [])) := fun b o e => by
      rw [upd_ne (ne_of_none e nx), upd_ne (ne_of_none e ndx)]
      exact e
    refine ⟨x, dx, t, n, L, rfl, upd_same, s0 _ _ ht, hL.same s0, by omega, fun H1 kp hWA => ⟨rfl, ?_⟩⟩
    have s1 : Same H H1 := fun b o e => kp b o (s0 b o e) (ne_of_none e nx)
    have hW : Wy C H1 x n (prs L) := ⟨hWA, ⟨h2, hn⟩, by rw [List.length_map]; exact hlen, hweb⟩
    obtain ⟨dy, u, L', hp, hu, hL', eL'⟩ := id hWA
    refine ⟨x, dy, _, rfl, hp, wf_no _ _ (by decide +kernel) (by decide +kernel) (by decide +kernel), .str "everybody", rfl, x, n, prs L, rfl, hW, fun H2 r R s2 er pR okR lR => ?_⟩
    have s12 := s1.trans s2
    -- if found is None
    refine ⟨.ref r, rfl, rfl, _, rfl, ?_⟩
    have e : decide (V.ref r = V.non) = false := decide_eq_false fun z => nomatch z
    show if decide (V.ref r = V.non) = true then _ else _
    rw [e]
    refine iteF ?_
    refine ⟨.ref r, rfl, r, rfl, ⟨_, SqL.of er⟩, fun D nD => ?_⟩
    refine lc_list (K := K) (a := r) (xs := rfs R) (fun i H3 => Same H2 H3 ∧ ∃ M : AL, H3 D = some (.lst (rfs M)) ∧ PL H3 M ∧ prs M = ((prs R).take i).map srt) ⟨same_upd nD, [], upd_same, PL.nil, rfl⟩ (fun i H3 _ h3 => SqL.of (h3.1 _ _ er)) (fun i y H3 hy h3 => ?_) (fun H3 h3 => ?_)
    · obtain ⟨s3, M', eD, pM, eM⟩ := h3
      obtain ⟨c, hc, rfl, hcm⟩ := rfs_get hy
      have et : decide (V.str "meet" = V.str "meet") = true := decide_eq_true rfl
      have hML : M'.length ≤ 100 := by
        have := congrArg List.length eM
        rw [List.length_map, List.length_map, List.length_take, List.length_map] at this
        omega
      refine ⟨rfl, .str "meet", rfl, rfl, _, rfl, ?_⟩
      show if decide (V.str "meet" = V.str "meet") = true then _ else _
      rw [et]
      refine iteT ?_
      refine ⟨.ref c.1, rfl, c.1, [(c.2.1 : Int), (c.2.2 : Int)], rfl, SqT.of (s3 _ _ (pR c hcm)), by show 2 < 64; decide, fun ns a hp1 hs1 na => ?_⟩
      rw [sort2 hp1 hs1]
      have s4 := s3.trans (same_upd (o := .lst (pr (srt (c.2.1, c.2.2)))) na)
      refine ⟨a, _, rfl, .inl ⟨SqL.of upd_same, fun v nv => ?_⟩⟩
      have s45 : Same H3 (upd (upd H3 a (.lst (pr (srt (c.2.1, c.2.2))))) v (.tup (pr (srt (c.2.1, c.2.2))))) := (same_upd na).trans (same_upd nv)
      refine ⟨rfs M', s45 _ _ eD, by rw [List.length_map]; exact small (by omega), same_put (s3.trans s45) nD, M' ++ [(v, srt (c.2.1, c.2.2))], ?_, ?_, ?_⟩
      · rw [upd_same, rfs_snoc]
      · exact ((pM.same s45).snoc upd_same).put (s45 _ _ eD)
      · rw [prs_snoc, eM, getElem?_snoc _ _ _ (prs_get hc), List.map_append]
        rfl
    · obtain ⟨s3, M', eD, pM, eM⟩ := h3
      rw [List.take_of_length_le (by rw [List.length_map, List.length_map]; exact Nat.le_refl _)] at eM
      have hML : M'.length ≤ 100 := by
        have := congrArg List.length eM
        rw [List.length_map, List.length_map, List.length_map] at this
        omega
      refine ⟨D, _, rfl, .inl ⟨SqL.of eD, fun v nv => ?_⟩⟩
      refine q _ v M' ((s12.trans s3).trans (same_upd nv)) upd_same (pM.same (same_upd nv)) ?_ hML
      rw [eM]
      exact okR.fin hweb

/-! ### fewest_meetings -/
theorem scFm : FnScope ["people", "way", "graph", "goal", "found"] ["people", "way", "graph", "goal"] (defScope sFewest) := ⟨rfl, rfl, rfl, by decide +kernel, rfl, by decide +kernel, by decide +kernel⟩
def spFewest : Sp := fun vs H Q _ => ∃ (n : Nat) (t : Addr) (L : AL), vs = [iv n, .str "meet", .ref t, .str "everybody"] ∧ GraphAt H n t L ∧ ∀ H', Same H H' → Q (iv (due n (prs L))) H'
theorem ok_fewest {f fM : Addr} {fd fdM : FuncData} (F : Fun K "fewest_meetings" "fewest_meetings" sFewest f fd) (B : Bn mg) (C : Cal P w K mg base 6 "meeting_plan" fM fdM ["people", "way", "graph", "goal"] spMeet) : FnOk P w K mg base CX0 7 f fd ["people", "way", "graph", "goal"] spFewest := by
  refine F.ok scFm (fun vs H Q E h => ?_) (fun cdv A outer s H vs Q E hr h => ?_)
  · obtain ⟨n, t, L, rfl, _⟩ := h
    rfl
  · obtain ⟨n, t, L, rfl, hG, q⟩ := h
    have hr1 : Room 6 _ := hr.mono (by decide)
    refine ⟨_, pss_cons (ps_set (i := 4) scFm.nd rfl (.inl rfl) (pe_call C.G hr1 (by rfl) C.mf C.kp C.b .nil pass0 (pa_cons (pv 0) (pa_cons (pv 1) (pa_cons (pv 2) (pa_cons (pv 3) pa_nil))))))
      (pss_one (ps_ret (pe_ifExp (pt_cmpR op_isN (pv 4) pe_non (nomark _)) pe_non (pe_callB call_len_seq (by rfl) B.len_ PySem.boot_len (pa_cons (pv 4) pa_nil))))), ?_⟩
    refine ⟨iv n, rfl, .str "meet", rfl, .ref t, rfl, .str "everybody", rfl, n, t, L, rfl, hG, fun H1 u M s1 eu pM fin lM => ?_⟩
    refine ⟨.ref u, rfl, rfl, _, rfl, ?_⟩
    have e : decide (V.ref u = V.non) = false := decide_eq_false fun z => nomatch z
    show if decide (V.ref u = V.non) = true then _ else _
    rw [e]
    refine iteF ?_
    refine ⟨.ref u, rfl, u, _, rfl, .inr (SqT.of eu), ?_⟩
    have el : (rfs M).length = due n (prs L) := by
      have := fin.len
      rw [List.length_map] at this
      rw [List.length_map]
      exact this
    rw [el]
    exact q H1 s1
end
end K74


namespace K74
open PySem PySem.Spec PyProof.Rows L2
/-! ### a pair in a tuple, a list of pairs -/
def pD (p : NP) : PyData := .tuple [.int p.1, .int p.2]
theorem pD_lay (p : NP) : (pD p).canLay0 = true := by simp [pD, PyData.canLay0, PyData.canLayAll0]
theorem pD_depth (p : NP) : (pD p).depth = 1 := by simp [pD, PyData.depth, PyData.depthAll]
theorem pDs_lay : ∀ ps : List NP, PyData.canLayAll0 (ps.map pD) = true
  | [] => by simp [PyData.canLayAll0]
  | p :: ps => by simp [PyData.canLayAll0, pD_lay p, pDs_lay ps]
theorem pD_eqv (p q : NP) : PyData.eqv (pD p) (pD q) = decide (p = q) := by
  obtain ⟨a, b⟩ := p
  obtain ⟨c, d⟩ := q
  have e : PyData.eqv (pD (a, b)) (pD (c, d)) = (((a : Int) == (c : Int)) && (((b : Int) == (d : Int)) && true)) := by simp only [pD, PyData.eqv, PyData.eqvAll]
  rw [e, Bool.and_true]
  by_cases h1 : a = c
  · by_cases h2 : b = d
    · subst h1; subst h2
      simp
    · rw [decide_eq_false fun z => h2 (Prod.mk.inj z).2, show ((b : Int) == (d : Int)) = false from beq_eq_false_iff_ne.mpr (by omega), Bool.and_false]
  · rw [decide_eq_false fun z => h1 (Prod.mk.inj z).1, show ((a : Int) == (c : Int)) = false from beq_eq_false_iff_ne.mpr (by omega), Bool.false_and]
theorem pD_any (ps : List NP) (p : NP) : ((ps.map pD).any fun z => PyData.eqv z (pD p)) = decide (p ∈ ps) := by
  induction ps with
  | nil => simp
  | cons q ps ih =>
    rw [List.map_cons, List.any_cons, ih, pD_eqv]
    by_cases h : q = p
    · subst h
      simp
    · have h' : p ≠ q := fun e => h e.symm
      simp [h, h']
theorem dpP {K : PySem.W.Frag} {H : Hp} {t : Addr} {p : NP} (h : H t = some (.tup (pr p))) : Dp K H (.ref t) (pD p) := .tup (SqT.of h) (.cons (.int _) (.cons (.int _) .nil))
theorem dpL {K : PySem.W.Frag} {H : Hp} : ∀ {L : AL}, PL H L → DpAll K H (rfs L) ((prs L).map pD)
  | [], _ => .nil
  | c :: L, h => .cons (dpP (h c List.mem_cons_self)) (dpL fun q hq => h q (List.mem_cons_of_mem _ hq))
theorem pD_room {A : Around} (hu : A.units + 65 < cLine) (xs : List PyData) (p : NP) : A.units + 1 + min (PyData.depthAll xs) (pD p).depth < cLine := by
  have := pD_depth p
  omega
section
variable {X : Cx}
def rInP (neg : Bool) : R2 := fun x y H Q => ∃ (t a : Addr) (p : NP) (L : AL), x = .ref t ∧ y = .ref a ∧ H t = some (.tup (pr p)) ∧ H a = some (.tup (rfs L)) ∧ PL H L ∧ Q (.bl (if neg then !decide (p ∈ prs L) else decide (p ∈ prs L))) H
def rNotInPL : R2 := fun x y H Q => ∃ (t a : Addr) (p : NP) (L : AL), x = .ref t ∧ y = .ref a ∧ H t = some (.tup (pr p)) ∧ H a = some (.lst (rfs L)) ∧ PL H L ∧ Q (.bl (!decide (p ∈ prs L))) H
theorem op_inP (hu : X.A.units + 65 < cLine) : OpR X (compareOp .In) (rInP false) := by
  intro pins s σ H x y v u Q I rx ry h
  obtain ⟨t, a, p, L, rfl, rfl, ht, ha, hL, q⟩ := h
  obtain ⟨as, r1⟩ := Dp.reads I (pD p) (.ref t) v (dpP ht) rx
  obtain ⟨bs, r2⟩ := Dp.reads I (.tuple ((prs L).map pD)) (.ref a) u (.tup (SqT.of ha) (dpL hL)) ry
  exact SeqAt.in_tuple_reads r2 r1 (pDs_lay _) (pD_lay p) (pD_room hu _ p) (by rw [pD_any]; exact ⟨.bl _, H, I, rfl, q⟩)
theorem op_notInP (hu : X.A.units + 65 < cLine) : OpR X (compareOp .NotIn) (rInP true) := by
  intro pins s σ H x y v u Q I rx ry h
  obtain ⟨t, a, p, L, rfl, rfl, ht, ha, hL, q⟩ := h
  obtain ⟨as, r1⟩ := Dp.reads I (pD p) (.ref t) v (dpP ht) rx
  obtain ⟨bs, r2⟩ := Dp.reads I (.tuple ((prs L).map pD)) (.ref a) u (.tup (SqT.of ha) (dpL hL)) ry
  exact SeqAt.notIn_tuple_reads r2 r1 (pDs_lay _) (pD_lay p) (pD_room hu _ p) (by rw [pD_any]; exact ⟨.bl _, H, I, rfl, q⟩)
theorem op_notInPL (hu : X.A.units + 65 < cLine) : OpR X (compareOp .NotIn) rNotInPL := by
  intro pins s σ H x y v u Q I rx ry h
  obtain ⟨t, a, p, L, rfl, rfl, ht, ha, hL, q⟩ := h
  obtain ⟨as, r1⟩ := Dp.reads I (pD p) (.ref t) v (dpP ht) rx
  obtain ⟨bs, r2⟩ := Dp.reads I (.list ((prs L).map pD)) (.ref a) u (.lst (SqL.of ha) (dpL hL)) ry
  exact SeqAt.notIn_list_reads r2 r1 (pDs_lay _) (pD_lay p) (pD_room hu _ p) (by rw [pD_any]; exact ⟨.bl _, H, I, rfl, q⟩)
end

/-! ### the law's box of draws -/
def BoxAt (H : Hp) (b : Addr) (c : Nat) : Prop := ∃ x s k : Int, H b = some (.lst [.int x, .int s, .int k]) ∧ 0 ≤ x ∧ (0 ≤ s ∧ s < 2147483563) ∧ 0 ≤ k ∧ k ≤ c
theorem BoxAt.same {H H' : Hp} {b : Addr} {c : Nat} (h : BoxAt H b c) (s : Same H H') : BoxAt H' b c := by
  obtain ⟨x, y, k, e, r⟩ := h
  exact ⟨x, y, k, s _ _ e, r⟩
theorem BoxAt.le {H : Hp} {b : Addr} {c d : Nat} (h : BoxAt H b c) (l : c ≤ d) : BoxAt H b d := by
  obtain ⟨x, y, k, e, r1, r2, r3, r4⟩ := h
  exact ⟨x, y, k, e, r1, r2, r3, by omega⟩
theorem BoxAt.lst {H : Hp} {b : Addr} {c : Nat} (h : BoxAt H b c) : ∃ zs, H b = some (.lst zs) := by
  obtain ⟨x, y, k, e, _⟩ := h
  exact ⟨_, e⟩
section
variable {P : Program} {w : World} {K : PySem.W.Frag} {mg : Str → Option Value} {base : Heap}
theorem bit_small (b : Bool) : -(2 ^ 64) < (if b = true then (1 : Int) else 0) ∧ (if b = true then (1 : Int) else 0) < 2 ^ 64 := by
  cases b <;> decide
theorem abs_bit (z : Int) (b : Bool) : 0 ≤ (if z < 0 then -z else z) * (if b = true then (1 : Int) else 0) := by
  cases b
  · simp
  · simp
    split <;> omega
theorem scBox : FnScope ["_law_script", "_law_k", "_law_cell", "_law_seed"] ["_law_script", "_law_k"] (defScope sBox) := ⟨rfl, rfl, rfl, by decide +kernel, rfl, by decide +kernel, by decide +kernel⟩
def spBox (K : PySem.W.Frag) : Sp := fun vs H Q _ => ∃ (a : Addr) (ns : List Int) (k : Nat), vs = [.ref a, iv k] ∧ SqL K H a (ns.map V.int) ∧ ns.length ≤ 63 ∧ k ≤ 1 ∧ ∀ H' b, Same H H' → H b = none → BoxAt H' b 0 → Q (.ref b) H'
theorem ok_box {f : Addr} {fd : FuncData} (F : Fun K "_law_box" "_law_box" sBox f fd) (B : Bn mg) : FnOk P w K mg base CX0 1 f fd ["_law_script", "_law_k"] (spBox K) := by
  refine F.ok scBox (fun vs H Q E h => ?_) (fun cdv A outer s H vs Q E hr h => ?_)
  · obtain ⟨a, ns, k, rfl, _⟩ := h
    rfl
  · obtain ⟨a, ns, k, rfl, hS, hlen, hk, q⟩ := h
    refine ⟨_, pss_cons (ps_set (i := 2) scBox.nd rfl (.inl rfl) (pe_ifExp (pt_cmpR op_lt (pv 1) (pe_callB call_len_seq (by rfl) B.len_ PySem.boot_len (pa_cons (pv 0) pa_nil)) (nomark _)) (pe_ix ix_list (pv 0) (pv 1) (fun _ _ => rfl)) pe_int))
      (pss_cons (ps_set (i := 3) scBox.nd rfl (.inl rfl) (pe_op op_mod (pe_callTy call_int1 (by rfl) B.int_ (by decide +kernel) (pa_cons (pe_op op_mul (pe_op op_add (pe_op op_add (pe_op op_mod (pe_callTy call_int1 (by rfl) B.int_ (by decide +kernel) (pa_cons (pv 2) pa_nil)) pe_int)
          (pe_op op_mul pe_int (pv 1))) pe_int) pe_int) pa_nil)) pe_int))
      (pss_one (ps_ret (pe_lst (pa_cons (pe_op op_mul (pe_callB call_abs (by rfl) B.abs_ (by decide +kernel) (pa_cons (pv 2) pa_nil)) (pe_callTy call_int1 (by rfl) B.int_ (by decide +kernel) (pa_cons (pe_cmpR op_ge (pe_callB call_abs (by rfl) B.abs_ (by decide +kernel) (pa_cons (pv 2) pa_nil))
          (pe_op op_pow pe_int pe_int) (nomark _)) pa_nil))) (pa_cons (pv 3) (pa_cons pe_int pa_nil))))))), ?_⟩
    refine ⟨iv k, rfl, .ref a, rfl, a, _, rfl, .inl hS, _, _, rfl, rfl, _, rfl, ?_⟩
    rw [List.length_map]
    refine ite2 (fun e => ?_) (fun e => ?_)
    · have hkl : k < ns.length := by
        have := of_decide_eq_true e
        omega
      refine ⟨.ref a, rfl, iv k, rfl, a, _, (k : Int), .int ns[k], rfl, rfl, hS, atI_nat (by rw [List.getElem?_map, List.getElem?_eq_getElem hkl]; rfl), ?_⟩
      refine ⟨_, rfl, .inl ⟨_, rfl, _, _, rfl, rfl, (by decide : (0 : Int) < 2305843009213693921), iv k, rfl, _, _, rfl, rfl, .inl ⟨by decide, by decide⟩, _, _, rfl, rfl, _, _, rfl, rfl, _, _, rfl, rfl, .inr ⟨by decide, by decide⟩,
        .inl ⟨_, rfl, _, _, rfl, rfl, (by decide : (0 : Int) < 2147483563), ?_⟩⟩⟩
      refine ⟨_, rfl, _, rfl, _, rfl, _, rfl, _, _, rfl, rfl, ⟨by decide, by decide, by decide⟩, _, _, rfl, rfl, .inr ⟨_, rfl, _, _, rfl, rfl, .inr (bit_small _), _, rfl, by show 3 ≤ sizeLine; decide, fun b nb => ?_⟩⟩
      exact q _ b (same_upd nb) nb ⟨_, _, _, upd_same, abs_bit _ _, ⟨Int.emod_nonneg _ (by decide), Int.emod_lt_of_pos _ (by decide)⟩, Int.le_refl 0, Int.le_refl 0⟩
    · refine ⟨_, rfl, .inl ⟨_, rfl, _, _, rfl, rfl, (by decide : (0 : Int) < 2305843009213693921), iv k, rfl, _, _, rfl, rfl, .inl ⟨by decide, by decide⟩, _, _, rfl, rfl, _, _, rfl, rfl, _, _, rfl, rfl, .inr ⟨by decide, by decide⟩,
        .inl ⟨_, rfl, _, _, rfl, rfl, (by decide : (0 : Int) < 2147483563), ?_⟩⟩⟩
      refine ⟨_, rfl, _, rfl, _, rfl, _, rfl, _, _, rfl, rfl, ⟨by decide, by decide, by decide⟩, _, _, rfl, rfl, .inr ⟨_, rfl, _, _, rfl, rfl, .inr (bit_small _), _, rfl, by show 3 ≤ sizeLine; decide, fun b nb => ?_⟩⟩
      exact q _ b (same_upd nb) nb ⟨_, _, _, upd_same, abs_bit _ _, ⟨Int.emod_nonneg _ (by decide), Int.emod_lt_of_pos _ (by decide)⟩, Int.le_refl 0, Int.le_refl 0⟩

/-! ### _law_take, _law_of -/
abbrev nTk : List Str := ["_law_box_here", "_law_span", "_law_found", "_law_once", "_law_odd"]
theorem scTk : FnScope nTk ["_law_box_here", "_law_span"] (defScope sTake) := ⟨rfl, rfl, rfl, by decide +kernel, rfl, by decide +kernel, by decide +kernel⟩
def spTake : Sp := fun vs H Q _ => ∃ (b : Addr) (c m : Nat), vs = [.ref b, iv m] ∧ BoxAt H b c ∧ c ≤ 100000 ∧ 0 < m ∧ m ≤ 1000 ∧ ∀ (r : Nat) H', r < m → But b H H' → BoxAt H' b (c + 1) → Q (iv r) H'
theorem nat_of {z : Int} {m : Nat} (h0 : 0 ≤ z) (h1 : z < m) : ∃ r : Nat, r < m ∧ V.int z = iv r := ⟨z.toNat, by omega, by
  show V.int z = V.int _
  congr 1
  omega⟩
theorem ok_take {f : Addr} {fd : FuncData} (F : Fun K "_law_take" "_law_take" sTake f fd) (B : Bn mg) : FnOk P w K mg base CX0 1 f fd ["_law_box_here", "_law_span"] spTake := by
  refine F.ok scTk (fun vs H Q E h => ?_) (fun cdv A outer s H vs Q E hr h => ?_)
  · obtain ⟨b, c, m, rfl, _⟩ := h
    rfl
  · obtain ⟨b, c, m, rfl, ⟨x, y, k, hb, hx, ⟨hy0, hy1⟩, hk0, hk1⟩, hc, hm0, hm1, q⟩ := h
    refine ⟨_, pss_cons (ps_if (pt_cmpR op_gt (pe_ix ix_list (pv 0) pe_int (fun _ _ => rfl)) pe_int (nomark _))
        (pss_cons (ps_set (i := 2) scTk.nd rfl (.inl rfl) (pe_op op_mod (pe_callTy call_int1 (by rfl) B.int_ (by decide +kernel) (pa_cons (pe_ix ix_list (pv 0) pe_int (fun _ _ => rfl)) pa_nil)) (pv 1)))
        (pss_cons (ps_asg (pe_op op_fdivN (pe_ix ix_list (pv 0) pe_int (fun _ _ => rfl)) (pv 1)) (pg_sub (pv 0) pe_int set_list))
        (pss_one (ps_ret (pv 2))))) pss_nil)
      (pss_cons (ps_asg (pe_op op_add (pe_ix ix_list (pv 0) pe_int (fun _ _ => rfl)) pe_int) (pg_sub (pv 0) pe_int set_list))
      (pss_cons (ps_set (i := 3) scTk.nd rfl (.inl rfl) (pe_op op_mod (pe_callTy call_int1 (by rfl) B.int_ (by decide +kernel) (pa_cons (pe_op op_pow (pe_op op_add (pe_ix ix_list (pv 0) pe_int (fun _ _ => rfl)) (pe_op op_mul pe_int (pe_ix ix_list (pv 0) pe_int (fun _ _ => rfl)))) pe_int) pa_nil)) pe_int))
      (pss_cons (ps_set (i := 4) scTk.nd rfl (.inl rfl) (pe_op op_add (pe_op op_mod (pe_callTy call_int1 (by rfl) B.int_ (by decide +kernel) (pa_cons (pv 3) pa_nil)) pe_int) pe_int))
      (pss_one (ps_ret (pe_op op_mod (pe_callTy call_int1 (by rfl) B.int_ (by decide +kernel) (pa_cons (pe_op op_fdivN (pe_op op_mod (pe_callTy call_int1 (by rfl) B.int_ (by decide +kernel) (pa_cons (pe_op op_add (pe_op op_mul (pv 3) (pv 4)) (pe_op op_mul (pe_ix ix_list (pv 0) pe_int (fun _ _ => rfl)) pe_int)) pa_nil)) pe_int) pe_int) pa_nil)) (pv 1))))))), ?_⟩
    refine ⟨.ref b, rfl, b, _, 0, .int x, rfl, rfl, SqL.of hb, atI_nat (j := 0) rfl, _, _, rfl, rfl, _, rfl, ?_⟩
    have mpos : (0 : Int) < (m : Int) := by omega
    refine ite2 (fun e => ?_) (fun e => ?_)
    · -- the digits of a great number
      refine ⟨.ref b, rfl, b, _, 0, .int x, rfl, rfl, SqL.of hb, atI_nat (j := 0) rfl, .inl ⟨_, rfl, iv m, rfl, _, _, rfl, rfl, mpos, ?_⟩⟩
      refine ⟨.ref b, rfl, b, _, 0, .int x, rfl, rfl, SqL.of hb, atI_nat (j := 0) rfl, iv m, rfl, _, _, rfl, rfl, ⟨by omega, by omega⟩, ?_⟩
      refine ⟨.ref b, rfl, b, _, 0, 0, rfl, rfl, hb, rfl, ?_⟩
      obtain ⟨r, hr1, hr2⟩ := nat_of (Int.emod_nonneg x (by omega)) (Int.emod_lt_of_pos x mpos)
      refine ⟨_, rfl, ?_⟩
      show Q (V.int (x % (m : Int))) (upd H b (.lst [.int (x.fdiv (m : Int)), .int y, .int k]))
      rw [hr2]
      refine q r _ hr1 (fun c' o nc e => at_put e nc) ⟨_, _, _, upd_same, ?_, ⟨hy0, hy1⟩, hk0, by omega⟩
      rw [Int.fdiv_eq_ediv_of_nonneg _ (by omega)]
      exact Int.ediv_nonneg hx (by omega)
    · -- numbers that are mixed
      refine ⟨.ref b, rfl, b, _, 2, .int k, rfl, rfl, SqL.of hb, atI_nat (j := 2) rfl, _, _, rfl, rfl, ?_⟩
      refine ⟨.ref b, rfl, b, _, 2, 2, rfl, rfl, hb, rfl, ?_⟩
      have hb2 : upd H b (.lst [.int x, .int y, .int (k + 1)]) b = some (.lst [.int x, .int y, .int (k + 1)]) := upd_same
      refine ⟨.ref b, rfl, b, [.int x, .int y, .int (k + 1)], 1, .int y, rfl, rfl, SqL.of hb2, atI_nat (j := 1) rfl, .ref b, rfl, b, [.int x, .int y, .int (k + 1)], 2, .int (k + 1), rfl, rfl, SqL.of hb2, atI_nat (j := 2) rfl, _, _, rfl, rfl, .inl ⟨by decide, by decide⟩, _, _, rfl, rfl,
        _, _, rfl, rfl, ⟨by decide, by decide, by omega⟩, .inl ⟨_, rfl, _, _, rfl, rfl, (by decide : (0 : Int) < 2147483549), ?_⟩⟩
      have g1 := Int.emod_nonneg ((y + 51749 * (k + 1)) ^ (3 : Int).toNat) (show (2147483549 : Int) ≠ 0 by decide)
      have g2 := Int.emod_lt_of_pos ((y + 51749 * (k + 1)) ^ (3 : Int).toNat) (show (0 : Int) < 2147483549 by decide)
      obtain ⟨o, ho⟩ : ∃ o, (y + 51749 * (k + 1)) ^ (3 : Int).toNat % 2147483549 = o := ⟨_, rfl⟩
      rw [ho] at g1 g2
      refine ⟨.int o, by rw [← ho]; rfl, .inl ⟨_, rfl, _, _, rfl, rfl, (by decide : (0 : Int) < 30011), _, _, rfl, rfl, ?_⟩⟩
      refine ⟨.int o, by rw [← ho]; rfl, .int (o % 30011 + 17), rfl, _, _, rfl, rfl, .inl ⟨by omega, by omega⟩, .ref b, rfl, b, [.int x, .int y, .int (k + 1)], 2, .int (k + 1), rfl, rfl, SqL.of hb2, atI_nat (j := 2) rfl, _, _, rfl, rfl, .inr ⟨by decide, by decide⟩, _, _, rfl, rfl,
        .inl ⟨_, rfl, _, _, rfl, rfl, (by decide : (0 : Int) < 2147483629), _, _, rfl, rfl, ⟨by decide, by decide⟩, .inl ⟨_, rfl, iv m, rfl, _, _, rfl, rfl, mpos, ?_⟩⟩⟩
      have fin : ∀ v : Int, Q (V.int (v % (m : Int))) (upd H b (.lst [.int x, .int y, .int (k + 1)])) := fun v => by
        obtain ⟨r, hr1, hr2⟩ := nat_of (Int.emod_nonneg v (by omega)) (Int.emod_lt_of_pos v mpos)
        rw [hr2]
        exact q r _ hr1 (fun c' o nc e => at_put e nc) ⟨_, _, _, hb2, hx, ⟨hy0, hy1⟩, by omega, by omega⟩
      exact fin _
theorem scOf : FnScope ["_law_box_here", "_law_some"] ["_law_box_here", "_law_some"] (defScope sOf) := ⟨rfl, rfl, rfl, by decide +kernel, rfl, by decide +kernel, by decide +kernel⟩
def spOf : Sp := fun vs H Q _ => ∃ (b s : Addr) (c : Nat) (xs : List V), vs = [.ref b, .ref s] ∧ BoxAt H b c ∧ c ≤ 100000 ∧ (H s = some (.lst xs) ∨ H s = some (.tup xs)) ∧ s ≠ b ∧ 0 < xs.length ∧ xs.length ≤ 1000 ∧
  ∀ (v : V) H', v ∈ xs → But b H H' → BoxAt H' b (c + 1) → Q v H'
theorem ok_of {f fT : Addr} {fd fdT : FuncData} (F : Fun K "_law_of" "_law_of" sOf f fd) (B : Bn mg) (C : Cal P w K mg base 1 "_law_take" fT fdT ["_law_box_here", "_law_span"] spTake) : FnOk P w K mg base CX0 2 f fd ["_law_box_here", "_law_some"] spOf := by
  refine F.ok scOf (fun vs H Q E h => ?_) (fun cdv A outer s H vs Q E hr h => ?_)
  · obtain ⟨b, s, c, xs, rfl, _⟩ := h
    rfl
  · obtain ⟨b, a, c, xs, rfl, hB, hc, ha, nab, h0, h1, q⟩ := h
    have hr1 : Room 1 _ := hr.mono (by decide)
    refine ⟨_, pss_one (ps_ret (pe_ix ix_seq (pv 1) (pe_call C.G hr1 (by rfl) C.mf C.kp C.b .nil pass0 (pa_cons (pv 0) (pa_cons (pe_callB call_len_seq (by rfl) B.len_ PySem.boot_len (pa_cons (pv 1) pa_nil)) pa_nil))) (fun _ _ => rfl))), ?_⟩
    refine ⟨.ref a, rfl, .ref b, rfl, .ref a, rfl, a, xs, rfl, ha.imp SqL.of SqT.of, b, c, xs.length, rfl, hB, hc, h0, h1, fun r H1 hr1 bt hB1 => ?_⟩
    have hg : xs[r]? = some xs[r] := List.getElem?_eq_getElem hr1
    rcases ha with ha | ha
    · exact .inl ⟨a, xs, (r : Int), xs[r], rfl, rfl, SqL.of (bt _ _ nab ha), atI_nat hg, q _ H1 (List.getElem_mem hr1) bt hB1⟩
    · exact .inr (.inl ⟨a, xs, (r : Int), xs[r], rfl, rfl, SqT.of (bt _ _ nab ha), atI_nat hg, q _ H1 (List.getElem_mem hr1) bt hB1⟩)
end
end K74


namespace K74
open PySem PySem.Spec PyProof.Rows L2
theorem may_adj {n : Nat} {ps : List NP} (w : Web n ps) (p q : Nat) : (min p q, max p q) ∈ ps ↔ adj ps p q := by
  constructor
  · intro h
    by_cases l : p ≤ q
    · rw [Nat.min_eq_left l, Nat.max_eq_right l] at h
      exact .inl h
    · rw [Nat.min_eq_right (by omega), Nat.max_eq_left (by omega)] at h
      exact .inr h
  · intro h
    exact w.srt_mem (c := (p, q)) h
theorem min_iv (p q : Nat) : V.int (if (q : Int) < (p : Int) then (q : Int) else (p : Int)) = iv (min p q) := by
  show V.int _ = V.int _
  congr 1
  split <;> omega
theorem max_iv (p q : Nat) : V.int (if (q : Int) > (p : Int) then (q : Int) else (p : Int)) = iv (max p q) := by
  show V.int _ = V.int _
  congr 1
  split <;> omega
theorem hu65 {A : Around} {k : Nat} (hr : Room k A) : A.units + 65 < cLine := by
  have := hr.un
  omega
section
variable {P : Program} {w : World} {K : PySem.W.Frag} {mg : Str → Option Value} {base : Heap}
/-! ### _law_may -/
theorem scMy : FnScope ["_law_web", "_law_p", "_law_q"] ["_law_web", "_law_p", "_law_q"] (defScope sMay) := ⟨rfl, rfl, rfl, by decide +kernel, rfl, by decide +kernel, by decide +kernel⟩
def spMay : Sp := fun vs H Q _ => ∃ (t : Addr) (p q : Nat) (L : AL), vs = [.ref t, iv p, iv q] ∧ H t = some (.tup (rfs L)) ∧ PL H L ∧ ∀ H', Same H H' → Q (.bl (decide ((min p q, max p q) ∈ prs L))) H'
theorem ok_may {f : Addr} {fd : FuncData} (F : Fun K "_law_may" "_law_may" sMay f fd) (B : Bn mg) : FnOk P w K mg base CX0 1 f fd ["_law_web", "_law_p", "_law_q"] spMay := by
  refine F.ok scMy (fun vs H Q E h => ?_) (fun cdv A outer s H vs Q E hr h => ?_)
  · obtain ⟨t, p, q, L, rfl, _⟩ := h
    rfl
  · obtain ⟨t, p, q, L, rfl, ht, hL, qq⟩ := h
    refine ⟨_, pss_one (ps_ret (pe_cmpR (op_inP (hu65 hr)) (pe_tup (pa_cons (pe_callB (call_min2 rfl) (by rfl) B.min_ (by decide +kernel) (pa_cons (pv 1) (pa_cons (pv 2) pa_nil))) (pa_cons (pe_callB (call_max2 rfl) (by rfl) B.max_ (by decide +kernel) (pa_cons (pv 1) (pa_cons (pv 2) pa_nil))) pa_nil))) (pv 0) (by rfl))), ?_⟩
    refine ⟨iv p, rfl, iv q, rfl, _, _, rfl, iv p, rfl, iv q, rfl, _, _, rfl, by show 2 ≤ sizeLine; decide, fun u nu => ?_⟩
    rw [min_iv, max_iv]
    exact ⟨.ref t, rfl, u, t, (min p q, max p q), L, rfl, rfl, upd_same, at_upd ht nu, hL.same (same_upd nu), qq _ (same_upd nu)⟩

/-! ### _law_has_ring -/
abbrev nHr : List Str := ["_law_crowd", "_law_web", "_law_one", "_law_other", "_law_both", "_law_p"]
theorem scHr : FnScope nHr ["_law_crowd", "_law_web"] (defScope sHasRing) := ⟨rfl, rfl, rfl, by decide +kernel, rfl, by decide +kernel, by decide +kernel⟩
def mayB (ps : List NP) (p q : Nat) : Bool := decide ((min p q, max p q) ∈ ps)
def bothL (ps : List NP) (a c : Nat) (l : List Nat) : List Nat := l.filter fun p => mayB ps p a && mayB ps p c
theorem mem_bothL {n : Nat} {ps : List NP} (w : Web n ps) (a c y : Nat) : y ∈ bothL ps a c (List.range n) ↔ adj ps y a ∧ adj ps y c := by
  unfold bothL mayB
  rw [List.mem_filter, Bool.and_eq_true, decide_eq_true_iff, decide_eq_true_iff, may_adj w, may_adj w]
  constructor
  · exact fun h => h.2
  · exact fun h => ⟨List.mem_range.mpr (w.adj h.1).1, h⟩
theorem two_of {l : List Nat} (nd : l.Nodup) (h : 1 < l.length) : ∃ b d, b ∈ l ∧ d ∈ l ∧ b ≠ d := by
  match l, nd, h with
  | b :: d :: r, nd, _ => exact ⟨b, d, List.mem_cons_self, List.mem_cons_of_mem _ List.mem_cons_self, fun z => (List.nodup_cons.mp nd).1 (by rw [z]; exact List.mem_cons_self)⟩
  | [x], _, h => exact absurd h (by simp)
  | [], _, h => exact absurd h (by simp)
theorem range_snoc (i : Nat) : List.range (i + 1) = List.range i ++ [i] := List.range_succ
def spHasRing : Sp := fun vs H Q _ => ∃ (n : Nat) (t : Addr) (L : AL), vs = [iv n, .ref t] ∧ GraphAt H n t L ∧ ∀ b H', Same H H' → (b = true ↔ RingIn (prs L)) → Q (.bl b) H'
theorem ok_hasRing {f fM : Addr} {fd fdM : FuncData} (F : Fun K "_law_has_ring" "_law_has_ring" sHasRing f fd) (B : Bn mg) (C : Cal P w K mg base 1 "_law_may" fM fdM ["_law_web", "_law_p", "_law_q"] spMay) : FnOk P w K mg base CX0 2 f fd ["_law_crowd", "_law_web"] spHasRing := by
  refine F.ok scHr (fun vs H Q E h => ?_) (fun cdv A outer s H vs Q E hr h => ?_)
  · obtain ⟨n, t, L, rfl, _⟩ := h
    rfl
  · obtain ⟨n, t, L, rfl, ⟨ht, hL, ⟨h2, hn⟩, hlen, hweb⟩, q⟩ := h
    have hr1 : Room 1 _ := hr.mono (by decide)
    refine ⟨_, pss_cons (ps_for PassesOwn.never rfl (pi_range1 (by rfl) B.range_ (pa_cons (pv 0) pa_nil)) (pg_name (i := 2) scHr.nd rfl (.inr rfl))
        (pss_one (ps_for PassesOwn.never rfl (pi_range1 (by rfl) B.range_ (pa_cons (pv 2) pa_nil)) (pg_name (i := 3) scHr.nd rfl (.inr rfl))
          (pss_cons (ps_setLc (i := 4) (own := [("_law_p", 5)]) (g := gName 5) (tt := tAnd (tB (tCall spMay [] E0 (tCons (tVar 1) (tCons (tVar 5) (tCons (tVar 2) tNil))))) (tB (tCall spMay [] E0 (tCons (tVar 1) (tCons (tVar 5) (tCons (tVar 3) tNil)))))) (by rfl) scHr.nd rfl rfl (sw_true rfl rfl rfl (by decide +kernel))
              (pi_range1 (by rfl) B.range_ (pa_cons (pv 0) pa_nil)) (blkOk_by (N := nHr) (sc := defScope sHasRing) (by decide +kernel)) (fun _ _ _ _ _ => pg_name (i := 5) scHr.nd rfl (.inl rfl))
              (fun _ _ _ _ _ => pts_one (PW.pt (pw_and (pt_val (pe_call C.G hr1 (by rfl) C.mf C.kp C.b .nil pass0 (pa_cons (pv 1) (pa_cons (pv 5) (pa_cons (pv 2) pa_nil))))) (pw_and1 (pt_val (pe_call C.G hr1 (by rfl) C.mf C.kp C.b .nil pass0 (pa_cons (pv 1) (pa_cons (pv 5) (pa_cons (pv 3) pa_nil)))))))))
              (fun _ _ _ _ _ => pv 5))
          (pss_one (ps_if (pt_cmpR op_gt (pe_callB call_len_seq (by rfl) B.len_ PySem.boot_len (pa_cons (pv 4) pa_nil)) pe_int (nomark _)) (pss_one (ps_ret pe_bl)) pss_nil))))))
      (pss_one (ps_ret pe_bl)), ?_⟩
    refine ⟨iv n, rfl, (n : Int), rfl, by omega, by omega, ?_⟩
    refine for_range (fun i σ H2 => ∃ v2 v3 v4 v5, σ = [some (iv n), some (.ref t), v2, v3, v4, v5] ∧ Same H H2 ∧ ∀ a c, a < i → c < a → NoR (prs L) c a) ⟨none, none, none, none, rfl, Same.refl _, fun a c h => absurd h (Nat.not_lt_zero a)⟩ (fun i σ H2 hi h => ?_) (fun σ H2 h => ?_)
    · obtain ⟨v2, v3, v4, v5, rfl, s2, no⟩ := h
      have hi' : i < n := by
        have : i < ((n : Int)).toNat := hi
        omega
      have e1 : V.int (0 + (i : Int)) = iv i := by rw [Int.zero_add]
      rw [e1]
      refine ⟨iv i, rfl, (i : Int), rfl, by omega, by omega, ?_⟩
      refine for_range (fun j σ H3 => ∃ v3 v4 v5, σ = [some (iv n), some (.ref t), some (iv i), v3, v4, v5] ∧ Same H H3 ∧ ∀ c, c < j → c < i → NoR (prs L) c i) ⟨_, _, _, rfl, s2, fun c h => absurd h (Nat.not_lt_zero c)⟩ (fun j σ H3 hj h => ?_) (fun σ H3 h => ?_)
      · obtain ⟨u3, u4, u5, rfl, s3, no3⟩ := h
        have hj' : j < i := by
          have : j < ((i : Int)).toNat := hj
          omega
        have e2 : V.int (0 + (j : Int)) = iv j := by rw [Int.zero_add]
        rw [e2]
        refine ⟨iv n, rfl, (n : Int), rfl, by omega, by omega, fun D nD => ?_⟩
        refine lc_range (fun k H5 => Same H3 H5 ∧ H5 D = some (.lst ((bothL (prs L) i j (List.range k)).map iv))) ⟨same_upd nD, upd_same⟩ (fun k H5 hk h5 => ?_) (fun H5 h5 => ?_)
        · obtain ⟨s5, eD⟩ := h5
          have hk' : k < n := by
            have : k < ((n : Int)).toNat := hk
            omega
          have e3 : V.int (0 + (k : Int)) = iv k := by rw [Int.zero_add]
          rw [e3]
          have s35 := s3.trans s5
          have eb : bothL (prs L) i j (List.range (k + 1)) = bothL (prs L) i j (List.range k) ++ (if mayB (prs L) k i && mayB (prs L) k j then [k] else []) := by
            unfold bothL
            rw [range_snoc, List.filter_append, List.filter_cons]
            rfl
          rw [eb]
          have lk : (bothL (prs L) i j (List.range k)).length ≤ 10 := by
            have := List.length_filter_le (fun p => mayB (prs L) p i && mayB (prs L) p j) (List.range k)
            rw [List.length_range] at this
            unfold bothL
            omega
          refine ⟨rfl, .ref t, rfl, iv k, rfl, iv i, rfl, t, k, i, L, rfl, s35 _ _ ht, hL.same s35, fun H6 s6 => ⟨_, rfl, ?_⟩⟩
          have s36 := s35.trans s6
          show if mayB (prs L) k i = true then _ else _
          cases m1 : mayB (prs L) k i with
          | false =>
            refine iteF (iteF ⟨s5.trans s6, ?_⟩)
            rw [s6 _ _ eD]
            simp
          | true =>
            refine iteT ⟨.ref t, rfl, iv k, rfl, iv j, rfl, t, k, j, L, rfl, s36 _ _ ht, hL.same s36, fun H7 s7 => ⟨_, rfl, ?_⟩⟩
            show if mayB (prs L) k j = true then _ else _
            cases m2 : mayB (prs L) k j with
            | false =>
              refine iteF ⟨(s5.trans s6).trans s7, ?_⟩
              rw [s7 _ _ (s6 _ _ eD)]
              simp
            | true =>
              refine iteT ⟨iv k, rfl, _, s7 _ _ (s6 _ _ eD), ?_, same_put ((s5.trans s6).trans s7) nD, ?_⟩
              · rw [List.length_map]
                exact small (by omega)
              · rw [upd_same]
                simp
        · obtain ⟨s5, eD⟩ := h5
          have en : ((n : Int)).toNat = n := by omega
          rw [en] at eD
          have s35 := s3.trans s5
          refine ⟨.ref D, rfl, D, _, rfl, .inl (SqL.of eD), _, 1, rfl, rfl, _, rfl, ?_⟩
          rw [List.length_map]
          refine ite2 (fun e => ?_) (fun e => ?_)
          · have hl : 1 < (bothL (prs L) i j (List.range n)).length := by
              have := of_decide_eq_true e
              omega
            obtain ⟨b, d, mb, md, ne⟩ := two_of (List.nodup_range.filter _) hl
            have gb := (mem_bothL hweb i j b).mp mb
            have gd := (mem_bothL hweb i j d).mp md
            refine q true H5 s35 ⟨fun _ => ⟨i, b, j, d, adj_symm gb.1, gb.2, adj_symm gd.2, gd.1, by omega, ne⟩, fun _ => rfl⟩
          · refine ⟨_, _, _, rfl, s35, fun c h1 h2 => ?_⟩
            by_cases ec : c = j
            · subst ec
              rintro ⟨b, d, ne, a1, a2, a3, a4⟩
              refine e (decide_eq_true ?_)
              have := two_len ((mem_bothL hweb i c b).mpr ⟨a2, adj_symm a1⟩) ((mem_bothL hweb i c d).mpr ⟨adj_symm a3, a4⟩) ne
              omega
            · exact no3 c (by omega) h2
      · obtain ⟨u3, u4, u5, rfl, s3, no3⟩ := h
        refine ⟨_, _, _, _, rfl, s3, fun a c h1 h2 => ?_⟩
        by_cases ea : a = i
        · subst ea
          exact no3 c (by omega) h2
        · exact no a c (by omega) h2
    · obtain ⟨v2, v3, v4, v5, rfl, s2, no⟩ := h
      refine q false H2 s2 ⟨fun z => (nomatch z), fun z => absurd z (no_ring hweb fun a c h1 h2 => no c a (by omega) h1)⟩
end
end K74


namespace K74
open PySem PySem.Spec PyProof.Rows L2
/-! ### the drawn tree, its names -/
/-- pairs of 0 .. n - 1, the lesser one first, each but 0 with one below it -/
structure Tr (n : Nat) (ps : List NP) : Prop where
  lt : ∀ c ∈ ps, c.1 < c.2 ∧ c.2 < n
  nd : ps.Nodup
  up : ∀ q, 0 < q → q < n → ∃ p, p < q ∧ (p, q) ∈ ps
theorem web_of {n : Nat} {ps : List NP} {ns : List Nat} (T : Tr n ps) (hp : ns.Perm (List.range n)) : Web n (ps.map fun c => srt (ns.getD c.1 0, ns.getD c.2 0)) := by
  have hl : ns.length = n := by rw [hp.length_eq, List.length_range]
  have hnd : ns.Nodup := hp.nodup_iff.mpr List.nodup_range
  have hlt : ∀ p, p < n → ns.getD p 0 < n := fun p h => by
    rw [List.getD_eq_getElem?_getD, List.getElem?_eq_getElem (by omega)]
    exact List.mem_range.mp (hp.mem_iff.mp (List.getElem_mem (by omega)))
  have inj : ∀ p q, p < n → q < n → ns.getD p 0 = ns.getD q 0 → p = q := fun p q h1 h2 e => by
    rw [List.getD_eq_getElem?_getD, List.getD_eq_getElem?_getD, List.getElem?_eq_getElem (by omega), List.getElem?_eq_getElem (by omega)] at e
    exact (List.getElem_inj (h₀ := by omega) (h₁ := by omega) hnd).mp e
  have onto : ∀ x, x < n → ∃ p, p < n ∧ ns.getD p 0 = x := fun x h => by
    have hx : x ∈ ns := hp.mem_iff.mpr (List.mem_range.mpr h)
    obtain ⟨i, hi⟩ := List.getElem?_of_mem hx
    have := (List.getElem?_eq_some_iff.mp hi).1
    refine ⟨i, by omega, ?_⟩
    rw [List.getD_eq_getElem?_getD, hi]
    rfl
  refine ⟨fun c hc => ?_, map_nodup T.nd fun a ha b hb e => ?_, fun C hC cl x hx => ?_⟩
  · obtain ⟨d, hd, rfl⟩ := List.mem_map.mp hc
    have h := T.lt d hd
    have h1 := hlt d.1 (by omega)
    have h2 := hlt d.2 h.2
    have h3 : ns.getD d.1 0 ≠ ns.getD d.2 0 := fun e => by
      have := inj _ _ (by omega) h.2 e
      omega
    unfold srt
    dsimp only
    omega
  · have h := T.lt a ha
    have h' := T.lt b hb
    unfold srt at e
    dsimp only at e
    have e1 := (Prod.mk.inj e).1
    have e2 := (Prod.mk.inj e).2
    have key : (ns.getD a.1 0 = ns.getD b.1 0 ∧ ns.getD a.2 0 = ns.getD b.2 0) ∨ (ns.getD a.1 0 = ns.getD b.2 0 ∧ ns.getD a.2 0 = ns.getD b.1 0) := by omega
    rcases key with ⟨k1, k2⟩ | ⟨k1, k2⟩
    · exact Prod.ext (inj _ _ (by omega) (by omega) k1) (inj _ _ (by omega) (by omega) k2)
    · have g1 := inj _ _ (by omega) (by omega) k1
      have g2 := inj _ _ (by omega) (by omega) k2
      omega
  · have ad : ∀ p q, (p, q) ∈ ps → adj (ps.map fun c => srt (ns.getD c.1 0, ns.getD c.2 0)) (ns.getD p 0) (ns.getD q 0) := fun p q h => by
      have hm : srt (ns.getD p 0, ns.getD q 0) ∈ ps.map fun c => srt (ns.getD c.1 0, ns.getD c.2 0) := List.mem_map.mpr ⟨(p, q), h, rfl⟩
      unfold srt at hm
      dsimp only at hm
      by_cases l : ns.getD p 0 ≤ ns.getD q 0
      · rw [Nat.min_eq_left l, Nat.max_eq_right l] at hm
        exact .inl hm
      · rw [Nat.min_eq_right (by omega), Nat.max_eq_left (by omega)] at hm
        exact .inr hm
    have down : ∀ k, k < n → C (ns.getD k 0) → C (ns.getD 0 0) := fun k => by
      induction k using Nat.strongRecOn with
      | ind k ih =>
        intro hk hc
        by_cases e : k = 0
        · rw [e] at hc
          exact hc
        · obtain ⟨p, hpk, hm⟩ := T.up k (by omega) hk
          exact ih p hpk (by omega) (cl _ _ (adj_symm (ad p k hm)) hc)
    obtain ⟨r, hr, cr⟩ := hC
    obtain ⟨kr, hkr, rfl⟩ := onto r hr
    have zero := down kr hkr cr
    have all : ∀ k, k < n → C (ns.getD k 0) := fun k => by
      induction k using Nat.strongRecOn with
      | ind k ih =>
        intro hk
        by_cases e : k = 0
        · rw [e]
          exact zero
        · obtain ⟨p, hpk, hm⟩ := T.up k (by omega) hk
          exact cl _ _ (ad p k hm) (ih p hpk (by omega))
    obtain ⟨k, hk, rfl⟩ := onto x hx
    exact all k hk
theorem Web.perm {n : Nat} {ps qs : List NP} (w : Web n ps) (h : qs.Perm ps) : Web n qs :=
  ⟨fun c hc => w.lt c (h.mem_iff.mp hc), h.nodup_iff.mpr w.nd, fun C hC cl => w.cn C hC fun x y a => cl x y (a.imp h.mem_iff.mpr h.mem_iff.mpr)⟩
theorem perm_map_inv {α β : Type} {f : α → β} : ∀ {ys zs : List β}, ys.Perm zs → ∀ l : List α, zs = l.map f → ∃ l' : List α, l'.Perm l ∧ ys = l'.map f := by
  intro ys zs h
  induction h with
  | nil =>
    intro l e
    exact ⟨l, .refl _, e⟩
  | cons x _ ih =>
    intro l e
    match l, e with
    | a :: l, e =>
      obtain ⟨e1, e2⟩ := List.cons.inj e
      obtain ⟨l', p, e3⟩ := ih l e2
      exact ⟨a :: l', p.cons a, by rw [List.map_cons, ← e3, e1]⟩
  | swap x y t =>
    intro l e
    match l, e with
    | a :: b :: l, e =>
      obtain ⟨e1, e2⟩ := List.cons.inj e
      obtain ⟨e3, e4⟩ := List.cons.inj e2
      exact ⟨b :: a :: l, .swap a b l, by rw [List.map_cons, List.map_cons, ← e4, e1, e3]⟩
  | trans _ _ ih1 ih2 =>
    intro l e
    obtain ⟨l2, p2, e2⟩ := ih2 l e
    obtain ⟨l1, p1, e1⟩ := ih1 l2 e2
    exact ⟨l1, p1.trans p2, e1⟩

theorem Tr.push {n p : Nat} {ps : List NP} (T : Tr n ps) (h : p < n) (h0 : 0 < n) : Tr (n + 1) (ps ++ [(p, n)]) := by
  refine ⟨fun c hc => ?_, ?_, fun q h1 h2 => ?_⟩
  · rcases List.mem_append.mp hc with z | z
    · have := T.lt c z
      omega
    · have : c = (p, n) := by simpa using z
      subst this
      exact ⟨h, Nat.lt_succ_self n⟩
  · rw [List.nodup_append]
    refine ⟨T.nd, by simp, fun x hx z hz e => ?_⟩
    have : z = (p, n) := by simpa using hz
    rw [this] at e
    have := T.lt x hx
    rw [e] at this
    exact Nat.lt_irrefl _ this.2
  · by_cases e : q = n
    · rw [e]
      exact ⟨p, h, List.mem_append_right _ (by simp)⟩
    · obtain ⟨r, h3, h4⟩ := T.up q h1 (by omega)
      exact ⟨r, h3, List.mem_append_left _ h4⟩
theorem Tr.more {n p q : Nat} {ps : List NP} (T : Tr n ps) (hp : p < n) (hq : q < n) (ne : p ≠ q) (hm : (min p q, max p q) ∉ ps) : Tr n (ps ++ [(min p q, max p q)]) := by
  refine ⟨fun c hc => ?_, ?_, fun r h1 h2 => ?_⟩
  · rcases List.mem_append.mp hc with z | z
    · exact T.lt c z
    · have : c = (min p q, max p q) := by simpa using z
      subst this
      dsimp only
      omega
  · rw [List.nodup_append]
    refine ⟨T.nd, by simp, fun x hx z hz e => ?_⟩
    have : z = (min p q, max p q) := by simpa using hz
    rw [this] at e
    rw [e] at hx
    exact hm hx
  · obtain ⟨s, h3, h4⟩ := T.up r h1 h2
    exact ⟨s, h3, List.mem_append_left _ h4⟩
theorem but_put {b D : Addr} {H H' : Hp} {o : HO} (s : But b H H') (h : H D = none) : But b H (upd H' D o) := fun c x n e => at_put (s c x n e) (ne_of_none e h)
theorem BoxAt.put {H : Hp} {b D : Addr} {c : Nat} {o : HO} (h : BoxAt H b c) (ne : D ≠ b) : BoxAt (upd H D o) b c := by
  obtain ⟨x, y, k, e, r⟩ := h
  exact ⟨x, y, k, at_put e (fun z => ne z.symm), r⟩
theorem BoxAt.ne {H : Hp} {b D : Addr} {c : Nat} (h : BoxAt H b c) (n : H D = none) : D ≠ b := by
  obtain ⟨x, y, k, e, r⟩ := h
  exact (ne_of_none e n).symm
theorem PE.mono' {X : Cx} {e : Expr} {t t' : TE} (h : PE X e t) (m : ∀ σ H Q, t' σ H Q → t σ H Q) : PE X e t' := ⟨fun pins s σ H Q I q => h.run pins s σ H Q I (m σ H Q q)⟩
theorem seq_nat {r n : Nat} (h : r < n) : PySem.seqIndex? (r : Int) n = some r := by
  unfold PySem.seqIndex?
  rw [if_neg (show ¬ ((r : Int) < 0) by omega)]
  dsimp only
  rw [if_pos (by
    rw [Bool.and_eq_true, decide_eq_true_iff, decide_eq_true_iff]
    omega)]
  rfl
theorem erase_map : ∀ (l : List Nat) (j : Nat), (l.map iv).eraseIdx j = (l.eraseIdx j).map iv
  | [], _ => rfl
  | _ :: _, 0 => rfl
  | x :: l, j + 1 => congrArg (iv x :: ·) (erase_map l j)
/-! lists of ints as data -/
theorem dpI {K : PySem.W.Frag} {H : Hp} : ∀ rs : List Nat, DpAll K H (rs.map iv) (rs.map fun k : Nat => PyData.int (k : Int))
  | [] => .nil
  | _ :: rs => .cons (.int _) (dpI rs)
theorem ints_shaped (rs : List Nat) : SeqAt.shaped (.list (rs.map fun k : Nat => PyData.int (k : Int))) = true := by
  have h1 : PyData.canLayAll0 (rs.map fun k : Nat => PyData.int (k : Int)) = true := by
    induction rs with
    | nil => simp [PyData.canLayAll0]
    | cons k rs ih => simp [PyData.canLayAll0, PyData.canLay0, ih]
  have h2 : PyData.depthAll (rs.map fun k : Nat => PyData.int (k : Int)) = 0 := by
    induction rs with
    | nil => simp [PyData.depthAll]
    | cons k rs ih =>
      have h3 : PyData.canLayAll0 (rs.map fun k : Nat => PyData.int (k : Int)) = true := by
        rw [List.map_cons] at h1
        simp only [PyData.canLayAll0, Bool.and_eq_true] at h1
        exact h1.2
      simp [PyData.depthAll, PyData.depth, ih h3]
  show (PyData.canLay0 (.list (rs.map fun k : Nat => PyData.int (k : Int))) && decide (PyData.depth (.list (rs.map fun k : Nat => PyData.int (k : Int))) ≤ 64)) = true
  rw [Bool.and_eq_true]
  refine ⟨by simp only [PyData.canLay0]; exact h1, decide_eq_true ?_⟩
  simp only [PyData.depth]
  omega
theorem eqv_nil (rs : List Nat) : PyData.eqv (.list (rs.map fun k : Nat => PyData.int (k : Int))) (.list []) = rs.isEmpty := by
  cases rs with
  | nil => simp [PyData.eqv, PyData.eqvAll]
  | cons k rs => simp [PyData.eqv, PyData.eqvAll]
abbrev nTr : List Str := ["_law_box_here", "_law_crowd", "_law_more", "_law_found", "_law_p", "_law_turn", "_law_q", "_law_pair", "_law_names", "_law_rest_so", "_law_pairs_so"]
theorem scTr : FnScope nTr ["_law_box_here", "_law_crowd", "_law_more"] (defScope sTree) := ⟨rfl, rfl, rfl, by decide +kernel, rfl, by decide +kernel, by decide +kernel⟩
section
variable {P : Program} {w : World} {K : PySem.W.Frag} {mg : Str → Option Value} {base : Heap}
def spTree : Sp := fun vs H Q _ => ∃ (b : Addr) (n m c : Nat), vs = [.ref b, iv n, iv m] ∧ BoxAt H b c ∧ c + 1000 ≤ 100000 ∧ (2 ≤ n ∧ n ≤ 10) ∧ m ≤ 9 ∧
  ∀ H' t L, But b H H' → BoxAt H' b (c + 60) → GraphAt H' n t L → 0 < L.length → H t = none → Q (.ref t) H'
/-- the test of a further pair -/
def tCond : TE := fun σ H Q => ∃ (p q : Nat) (t D : Addr) (M : AL), σ[4]? = some (some (iv p)) ∧ σ[6]? = some (some (iv q)) ∧ σ[7]? = some (some (.ref t)) ∧ σ[3]? = some (some (.ref D)) ∧ H t = some (.tup (pr (min p q, max p q))) ∧ H D = some (.lst (rfs M)) ∧ PL H M ∧
  Q (.bl (decide (p ≠ q ∧ (min p q, max p q) ∉ prs M))) H
theorem cond_mono (σ : L2.St) (H : Hp) (Q : VK) (h : tCond σ H Q) : tAndV (tOp rNe (tVar 4) (tVar 6)) (tOp rNotInPL (tVar 7) (tVar 3)) σ H Q := by
  obtain ⟨p, q, t, D, M, h4, h6, h7, h3, ht, hD, pM, qq⟩ := h
  refine ⟨iv p, h4, iv q, h6, rfl, _, rfl, ?_⟩
  rw [iv_eq]
  by_cases e : p = q
  · rw [decide_eq_true e]
    refine iteF ?_
    rw [decide_eq_false fun z => z.1 e] at qq
    exact qq
  · rw [decide_eq_false e]
    refine iteT ⟨.ref t, h7, .ref D, h3, t, D, (min p q, max p q), M, rfl, rfl, ht, hD, pM, ?_⟩
    by_cases e2 : (min p q, max p q) ∈ prs M
    · rw [decide_eq_true e2]
      rw [decide_eq_false fun z => z.2 e2] at qq
      exact qq
    · rw [decide_eq_false e2]
      rw [decide_eq_true ⟨e, e2⟩] at qq
      exact qq
theorem ok_tree {f fT : Addr} {fd fdT : FuncData} (F : Fun K "_law_tree" "_law_tree" sTree f fd) (B : Bn mg) (C : Cal P w K mg base 1 "_law_take" fT fdT ["_law_box_here", "_law_span"] spTake) : FnOk P w K mg base CX0 2 f fd ["_law_box_here", "_law_crowd", "_law_more"] spTree := by
  refine F.ok scTr (fun vs H Q E h => ?_) (fun cdv A outer s H vs Q E hr h => ?_)
  · obtain ⟨b, n, m, c, rfl, _⟩ := h
    rfl
  · obtain ⟨b, n, m, c, rfl, hB, hc, ⟨h2, hn⟩, hm, q⟩ := h
    have hr1 : Room 1 _ := hr.mono (by decide)
    have hu := hu65 hr
    refine ⟨_, pss_cons (ps_set (i := 3) scTr.nd rfl (.inl rfl) (pe_lst pa_nil))
      (pss_cons (ps_for PassesOwn.never rfl (pi_range2 (by rfl) B.range_ (pa_cons pe_int (pa_cons (pv 1) pa_nil))) (pg_name (i := 4) scTr.nd rfl (.inl rfl))
        (pss_one (ps_expr (pe_bm PySem.F.plainAttrs_list PySem.F.slot_list_append PySem.F.type_list_append mt_append (pv 3) (pa_cons (pe_tup (pa_cons (pe_call C.G hr1 (by rfl) C.mf C.kp C.b .nil pass0 (pa_cons (pv 0) (pa_cons (pv 4) pa_nil))) (pa_cons (pv 4) pa_nil))) pa_nil)))))
      (pss_cons (ps_for PassesOwn.never rfl (pi_range1 (by rfl) B.range_ (pa_cons (pv 2) pa_nil)) (pg_name (i := 5) scTr.nd rfl (.inl rfl))
        (pss_cons (ps_par (i := 4) (j := 6) (by rfl) scTr.nd rfl rfl (by decide) rfl rfl (pa_cons (pe_call C.G hr1 (by rfl) C.mf C.kp C.b .nil pass0 (pa_cons (pv 0) (pa_cons (pv 1) pa_nil))) (pa_cons (pe_call C.G hr1 (by rfl) C.mf C.kp C.b .nil pass0 (pa_cons (pv 0) (pa_cons (pv 1) pa_nil))) pa_nil)) (by rfl))
        (pss_cons (ps_set (i := 7) scTr.nd rfl (.inl rfl) (pe_tup (pa_cons (pe_callB (call_min2 rfl) (by rfl) B.min_ (by decide +kernel) (pa_cons (pv 4) (pa_cons (pv 6) pa_nil))) (pa_cons (pe_callB (call_max2 rfl) (by rfl) B.max_ (by decide +kernel) (pa_cons (pv 4) (pa_cons (pv 6) pa_nil))) pa_nil))))
        (pss_one (ps_set (i := 3) scTr.nd rfl (.inl rfl) (pe_op op_cat (pv 3) (pe_op op_rep (pe_lst (pa_cons (pv 7) pa_nil)) (pe_callTy call_int1 (by rfl) B.int_ (by decide +kernel) (pa_cons (PE.mono' (t' := tCond) (pe_and (pe_cmpR op_ne (pv 4) (pv 6) (nomark _)) (pe_one (pe_cmpR (op_notInPL hu) (pv 7) (pv 3) (by rfl)))) cond_mono) pa_nil)))))))))
      (pss_cons (ps_asg (pe_tup (pa_cons (pe_lst pa_nil) (pa_cons (pe_listRg (by rfl) (by rfl) B.list_ (prg_1 (by rfl) B.range_ (pv 1))) pa_nil))) (pg_tup rfl (pgs_cons (pg_name (i := 8) scTr.nd rfl (.inr rfl)) (pgs_cons (pg_name (i := 9) scTr.nd rfl (.inl rfl)) pgs_nil))))
      (pss_cons (ps_while PassesOwn.never (pt_cmpR (op_neD (Nat.lt_of_succ_lt hu)) (pv 9) (pe_lst pa_nil) (nomark _))
        (pss_one (ps_expr (pe_bm PySem.F.plainAttrs_list PySem.F.slot_list_append PySem.F.type_list_append mt_append (pv 8) (pa_cons (pe_bm PySem.F.plainAttrs_list PySem.F.slot_list_pop PySem.F.type_list_pop mt_popAt (pv 9)
          (pa_cons (pe_call C.G hr1 (by rfl) C.mf C.kp C.b .nil pass0 (pa_cons (pv 0) (pa_cons (pe_callB call_len_seq (by rfl) B.len_ PySem.boot_len (pa_cons (pv 9) pa_nil)) pa_nil))) pa_nil)) pa_nil)))))
      (pss_cons (ps_setLc (i := 10) (own := [("_law_p", 4), ("_law_q", 6)]) (g := gTup K 2 (gCons (gName 4) (gCons (gName 6) gNil))) (tt := tYes) (te := tCB (rSorted K) (tCons (tLst (tCons (tOp (rIxL K) (tVar 8) (tVar 4)) (tCons (tOp (rIxL K) (tVar 8) (tVar 6)) tNil))) tNil)) (by rfl) scTr.nd rfl rfl (sw_true rfl rfl rfl (by decide +kernel)) (pi_list (pv 3))
          (blkOk_by (N := nTr) (sc := defScope sTree) (by decide +kernel)) (fun _ _ _ _ _ => pg_tup rfl (pgs_cons (pg_name (i := 4) scTr.nd rfl (.inl rfl)) (pgs_cons (pg_name (i := 6) scTr.nd rfl (.inl rfl)) pgs_nil))) (fun _ _ _ _ _ => pts_nil)
          (fun _ _ _ _ _ => pe_callB cr_sorted (by rfl) B.sorted_ (by decide +kernel) (pa_cons (pe_lst (pa_cons (pe_ix ix_list (pv 8) (pv 4) (fun _ _ => rfl)) (pa_cons (pe_ix ix_list (pv 8) (pv 6) (fun _ _ => rfl)) pa_nil))) pa_nil)))
      (pss_one (ps_ret (pe_callTy call_tuple_of (by rfl) B.tuple_ (by decide +kernel) (pa_cons (pe_callB (cr_sortT (d := 2) (B := 64) (by decide)) (by rfl) B.sorted_ (by decide +kernel) (pa_cons
        (pe_lc (own := [("_law_pair", 7)]) (g := gName 7) (tt := tYes) (te := tCB (rTupOf K) (tCons (tVar 7) tNil)) (by rfl) scTr.nd (pi_list (pv 10)) (blkOk_by (N := nTr) (sc := defScope sTree) (by decide +kernel))
          (fun _ _ _ _ _ => pg_name (i := 7) scTr.nd rfl (.inl rfl)) (fun _ _ _ _ _ => pts_nil) (fun _ _ _ _ _ => pe_callTy call_tuple_of (by rfl) B.tuple_ (by decide +kernel) (pa_cons (pv 7) pa_nil))) pa_nil)) pa_nil))))))))), ?_⟩
    -- found = []
    refine ⟨Nat.zero_le _, fun D nD => ?_⟩
    have nDb : D ≠ b := hB.ne nD
    have b1 : But b H (upd H D (.lst [])) := but_put (But.refl b H) nD
    have ebc : ∀ z : Int, V.int (1 + z) = V.int (1 + z) := fun _ => rfl
    -- for _law_p in range(1, _law_crowd)
    refine ⟨iv n, rfl, 1, (n : Int), rfl, ⟨by decide, by decide, by omega, by omega⟩, ?_⟩
    refine for_range (fun i σ H2 => ∃ v4, σ = [some (.ref b), some (iv n), some (iv m), some (.ref D), v4, none, none, none, none, none, none] ∧ But b H H2 ∧ BoxAt H2 b (c + i) ∧ ∃ M : AL, H2 D = some (.lst (rfs M)) ∧ PL H2 M ∧ Tr (i + 1) (prs M) ∧ M.length = i)
      ⟨none, rfl, b1, hB.put nDb, [], upd_same, PL.nil, ⟨fun c hc => absurd hc (by simp), by simp, fun q h1 h2 => absurd h1 (by omega)⟩, rfl⟩ (fun i σ H2 hi h => ?_) (fun σ H2 h => ?_)
    · obtain ⟨v4, rfl, b2, B2, M, eD, pM, tM, lM⟩ := h
      have hi' : i + 1 < n := by
        have : i < ((n : Int) - 1).toNat := hi
        omega
      have e1 : V.int (1 + (i : Int)) = iv (i + 1) := congrArg V.int (by omega)
      rw [e1]
      refine ⟨.ref D, rfl, .inl ⟨rfl, _, SqL.of eD⟩, .ref b, rfl, iv (i + 1), rfl, b, c + i, i + 1, rfl, B2, by omega, by omega, by omega, fun r H3 hr3 b3 B3 => ⟨iv (i + 1), rfl, by show 2 ≤ sizeLine; decide, fun t nt => ?_⟩⟩
      have eD3 : H3 D = some (.lst (rfs M)) := b3 _ _ nDb eD
      have pM3 : PL H3 M := by
        obtain ⟨zs, ez⟩ := B2.lst
        exact pM.but b3 ez
      have s4 : Same H3 (upd H3 t (.tup (pr (r, i + 1)))) := same_upd nt
      have tb : t ≠ b := B3.ne nt
      refine ⟨D, rfs M, _, rfl, rfl, s4 _ _ eD3, by rw [List.length_map]; exact small (by omega), ?_⟩
      refine ⟨_, rfl, but_put ((b2.trans b3).trans (.of s4)) nD, (B3.same s4).put nDb, M ++ [(t, (r, i + 1))], ?_, ((pM3.same s4).snoc upd_same).put (s4 _ _ eD3), ?_, ?_⟩
      · rw [upd_same, rfs_snoc]
      · rw [prs_snoc]
        exact tM.push hr3 (by omega)
      · rw [List.length_append, lM]
        rfl
    obtain ⟨v4, rfl, b2, B2, M0, eD0, pM0, tM0, lM0⟩ := h
    have en : ((n : Int) - 1).toNat = n - 1 := by omega
    rw [en] at B2 tM0 lM0
    rw [show n - 1 + 1 = n by omega] at tM0
    -- for _law_turn in range(_law_more)
    refine ⟨iv m, rfl, (m : Int), rfl, by omega, by omega, ?_⟩
    refine for_range (fun i σ H3 => ∃ (D : Addr) (v4 v5 v6 v7 : Option V), σ = [some (.ref b), some (iv n), some (iv m), some (.ref D), v4, v5, v6, v7, none, none, none] ∧ H D = none ∧ D ≠ b ∧ But b H H3 ∧ BoxAt H3 b (c + 9 + 2 * i) ∧ ∃ M : AL, H3 D = some (.lst (rfs M)) ∧ PL H3 M ∧ Tr n (prs M) ∧ M.length ≤ 9 + i ∧ n - 1 ≤ M.length)
      ⟨D, _, none, none, none, rfl, nD, nDb, b2, B2.le (by omega), M0, eD0, pM0, tM0, by omega, by omega⟩ (fun i σ H3 hi h => ?_) (fun σ H3 h => ?_)
    · obtain ⟨D, v4, v5, v6, v7, rfl, nD, nDb, b3, B3, M, eD, pM, tM, lM, lM2⟩ := h
      have hi' : i < m := by
        have : i < ((m : Int)).toNat := hi
        omega
      -- _law_p, _law_q = take, take
      refine ⟨.ref b, rfl, iv n, rfl, b, _, n, rfl, B3, by omega, by omega, by omega, fun p H4 hp b4 B4 => ?_⟩
      refine ⟨.ref b, rfl, iv n, rfl, b, _, n, rfl, B4, by omega, by omega, by omega, fun q' H5 hq b5 B5 => ⟨_, _, rfl, ?_⟩⟩
      have pM5 : PL H5 M := by
        obtain ⟨zs, ez⟩ := B3.lst
        obtain ⟨ys, ey⟩ := B4.lst
        exact (pM.but b4 ez).but b5 ey
      have eD5 : H5 D = some (.lst (rfs M)) := b5 _ _ nDb (b4 _ _ nDb eD)
      -- _law_pair
      refine ⟨iv p, rfl, iv q', rfl, _, _, rfl, iv p, rfl, iv q', rfl, _, _, rfl, by show 2 ≤ sizeLine; decide, fun t nt => ?_⟩
      rw [min_iv, max_iv]
      have s6 : Same H5 (upd H5 t (.tup (pr (min p q', max p q')))) := same_upd nt
      -- found + [pair] * int(..)
      refine ⟨.ref D, rfl, .ref t, rfl, by show 1 ≤ sizeLine; decide, fun l1 n1 => ?_⟩
      have s7 := s6.trans (same_upd (o := .lst [.ref t]) n1)
      refine ⟨p, q', t, D, M, rfl, rfl, rfl, rfl, at_upd upd_same n1, s7 _ _ eD5, pM5.same s7, ?_⟩
      have fin : ∀ (k : Bool), (k = true → p ≠ q' ∧ (min p q', max p q') ∉ prs M) → ∃ ex : List (Addr × NP), (List.replicate (if k then (1 : Int) else 0).toNat [V.ref t]).flatten = rfs ex ∧ (∀ x ∈ ex, x = (t, (min p q', max p q'))) ∧ ex.length ≤ 1 ∧ Tr n (prs (M ++ ex)) := fun k hk => by
        cases k with
        | false => exact ⟨[], rfl, fun x hx => absurd hx (by simp), Nat.zero_le _, by rw [List.append_nil]; exact tM⟩
        | true =>
          refine ⟨[(t, (min p q', max p q'))], rfl, fun x hx => by simpa using hx, Nat.le_refl _, ?_⟩
          rw [prs_snoc]
          exact tM.more hp hq (hk rfl).1 (hk rfl).2
      obtain ⟨ex, e1, e2, e3, e4⟩ := fin (decide (p ≠ q' ∧ (min p q', max p q') ∉ prs M)) fun z => of_decide_eq_true z
      have kb : -(2 ^ 63) ≤ (if decide (p ≠ q' ∧ (min p q', max p q') ∉ prs M) then (1 : Int) else 0) ∧ (if decide (p ≠ q' ∧ (min p q', max p q') ∉ prs M) then (1 : Int) else 0) < 2 ^ 63 ∧ 1 * (if decide (p ≠ q' ∧ (min p q', max p q') ∉ prs M) then (1 : Int) else 0).toNat ≤ sizeLine := by
        cases decide (p ≠ q' ∧ (min p q', max p q') ∉ prs M) <;> decide
      refine .inr ⟨_, rfl, l1, _, [.ref t], rfl, rfl, upd_same, kb.1, kb.2.1, kb.2.2, fun l2 n2 => ?_⟩
      rw [e1]
      have s8 := s7.trans (same_upd (o := .lst (rfs ex)) n2)
      have D2 : D ≠ l2 := ne_of_none (s7 _ _ eD5) n2
      refine ⟨D, l2, rfs M, rfs ex, rfl, rfl, s8 _ _ eD5, upd_same, ?_, fun D' nD' => ?_⟩
      · rw [List.length_map, List.length_map]
        exact small' (by omega)
      have e5 : rfs M ++ rfs ex = rfs (M ++ ex) := List.map_append.symm
      rw [e5]
      have s9 := s8.trans (same_upd (o := .lst (rfs (M ++ ex))) nD')
      have bAll : But b H H5 := (b3.trans b4).trans b5
      have nDb' : D' ≠ b := (B5.same s8).ne nD'
      have nD0 : H D' = none := by
        cases z : H D' with
        | none => rfl
        | some o =>
          have := s8 _ _ (bAll _ _ nDb' z)
          rw [this] at nD'
          cases nD'
      refine ⟨D', _, _, _, _, rfl, nD0, nDb', bAll.trans (.of s9), (B5.same s9).le (by omega), M ++ ex, upd_same, PL.append (pM5.same s9) fun x hx => ?_, e4, by rw [List.length_append]; omega, by rw [List.length_append]; omega⟩
      rw [e2 x hx]
      exact at_upd (at_upd (at_upd upd_same n1) n2) nD'
    obtain ⟨D, v4, v5, v6, v7, rfl, nD, nDb, b3, B3, M, eD, pM, tM, lM, lM2⟩ := h
    have em : ((m : Int)).toNat = m := by omega
    rw [em] at B3 lM
    -- _law_names, _law_rest_so = [], list(range(_law_crowd))
    refine ⟨Nat.zero_le _, fun N nN => ⟨iv n, rfl, (n : Int), rfl, RgOk.of_le (by omega) (by omega) (by omega) (by omega), fun R nR => ⟨by show 2 ≤ sizeLine; decide, fun t nt => ?_⟩⟩⟩
    have s4 : Same H3 (upd H3 N (.lst [])) := same_upd nN
    have s5 := s4.trans (same_upd (o := .lst (rgV 0 (n : Int))) nR)
    have s6 := s5.trans (same_upd (o := .tup [.ref N, .ref R]) nt)
    have eN : upd (upd (upd H3 N (.lst [])) R (.lst (rgV 0 (n : Int)))) t (.tup [.ref N, .ref R]) N = some (.lst []) := at_upd (at_upd upd_same nR) nt
    have eR : upd (upd (upd H3 N (.lst [])) R (.lst (rgV 0 (n : Int)))) t (.tup [.ref N, .ref R]) R = some (.lst (rgV 0 (n : Int))) := at_upd upd_same nt
    have NR : N ≠ R := ne_of_none upd_same nR
    have ND : D ≠ N := ne_of_none eD nN
    have RD : D ≠ R := ne_of_none (s4 _ _ eD) nR
    have Nb : N ≠ b := B3.ne nN
    have Rb : R ≠ b := (B3.same s4).ne nR
    have nN0 : H N = none := by
      cases z : H N with
      | none => rfl
      | some o =>
        have := b3 _ _ Nb z
        rw [this] at nN
        cases nN
    have nR0 : H R = none := by
      cases z : H R with
      | none => rfl
      | some o =>
        have := s4 _ _ (b3 _ _ Rb z)
        rw [this] at nR
        cases nR
    have erg : rgV 0 (n : Int) = (List.range n).map iv := by
      unfold rgV
      rw [show ((n : Int) - 0).toNat = n by omega]
      refine List.map_congr_left fun k _ => ?_
      show V.int (0 + (k : Int)) = iv k
      rw [Int.zero_add]
    rw [erg] at eR s5 s6 eN
    rw [erg]
    refine ⟨t, _, rfl, SqT.of upd_same, rfl, .ref N, _, rfl, .ref R, [], rfl, rfl, ?_⟩
    -- while _law_rest_so != []
    refine ⟨fun k σ H4 => ∃ ns rs : List Nat, k = rs.length ∧ σ = [some (.ref b), some (iv n), some (iv m), some (.ref D), v4, v5, v6, v7, some (.ref N), some (.ref R), none] ∧ But b H H4 ∧ BoxAt H4 b (c + 27 + ns.length) ∧ H4 N = some (.lst (ns.map iv)) ∧ H4 R = some (.lst (rs.map iv)) ∧ H4 D = some (.lst (rfs M)) ∧ PL H4 M ∧ (ns ++ rs).Perm (List.range n),
      ⟨(List.range n).length, [], List.range n, rfl, rfl, b3.trans (.of s6), (B3.same s6).le (by show c + 9 + 2 * m ≤ c + 27 + 0; omega), eN, eR, s6 _ _ eD, pM.same s6, by rw [List.nil_append]⟩, fun k σ H4 h => ?_⟩
    obtain ⟨ns, rs, rfl, rfl, b4, B4, eN4, eR4, eD4, pM4, pp⟩ := h
    have hnl : ns.length + rs.length = n := by
      have := pp.length_eq
      rw [List.length_append, List.length_range] at this
      exact this
    refine ⟨.ref R, rfl, Nat.zero_le _, fun e ne => ⟨.list (rs.map fun k : Nat => PyData.int (k : Int)), .list [], .lst (SqL.of (at_upd eR4 ne)) (dpI rs), .lst (SqL.of upd_same) .nil, ints_shaped rs, ints_shaped [], _, rfl, ?_⟩⟩
    rw [eqv_nil]
    have s7 : Same H4 (upd H4 e (.lst [])) := same_upd ne
    match rs, eR4, pp, hnl with
    | y :: ys, eR4, pp, hnl =>
      refine iteT ⟨fun σ' H' => ∃ ns' rs' : List Nat, rs'.length < (y :: ys).length ∧ σ' = [some (.ref b), some (iv n), some (iv m), some (.ref D), v4, v5, v6, v7, some (.ref N), some (.ref R), none] ∧ But b H H' ∧ BoxAt H' b (c + 27 + ns'.length) ∧ H' N = some (.lst (ns'.map iv)) ∧ H' R = some (.lst (rs'.map iv)) ∧ H' D = some (.lst (rfs M)) ∧ PL H' M ∧ (ns' ++ rs').Perm (List.range n),
        fun σ' H' h => ?_, ?_⟩
      · obtain ⟨ns', rs', h1, h2⟩ := h
        exact ⟨rs'.length, h1, ns', rs', rfl, h2⟩
      · have B5 := B4.same s7
        refine ⟨.ref N, rfl, .inl ⟨rfl, _, SqL.of (s7 _ _ eN4)⟩, .ref R, rfl, .inl ⟨rfl, _, SqL.of (s7 _ _ eR4)⟩, .ref b, rfl, .ref R, rfl, R, _, rfl, .inl (SqL.of (s7 _ _ eR4)), b, _, (y :: ys).length, by rw [List.length_map]; rfl, B5, ?_, by simp, ?_, fun r H6 hr6 b6 B6 => ?_⟩
        · have : ns.length ≤ n := by omega
          omega
        · omega
        have eN6 := b6 _ _ Nb (s7 _ _ eN4)
        have eR6 := b6 _ _ Rb (s7 _ _ eR4)
        have eD6 := b6 _ _ nDb (s7 _ _ eD4)
        have pM6 : PL H6 M := by
          obtain ⟨zs, ez⟩ := B5.lst
          exact (pM4.same s7).but b6 ez
        have hg : (y :: ys)[r]? = some (y :: ys)[r] := List.getElem?_eq_getElem hr6
        refine ⟨R, (y :: ys).map iv, (r : Int), r, iv (y :: ys)[r], rfl, rfl, eR6, by omega, by have := hr6; omega, ?_, by rw [List.getElem?_map, hg]; rfl, ?_⟩
        · rw [List.length_map]
          exact seq_nat hr6
        have e8 : ((y :: ys).map iv).eraseIdx r = ((y :: ys).eraseIdx r).map iv := erase_map _ _
        rw [e8]
        refine ⟨N, _, _, rfl, rfl, at_put eN6 NR, by rw [List.length_map]; exact small (by omega), ?_⟩
        have e9 : ns.map iv ++ [iv (y :: ys)[r]] = (ns ++ [(y :: ys)[r]]).map iv := by rw [List.map_append]; rfl
        rw [e9]
        have pe := erase_perm (y :: ys) r _ hg
        have hlen2 : ((y :: ys).eraseIdx r).length + 1 = (y :: ys).length := by
          have := pe.length_eq
          rw [List.length_cons] at this
          exact this
        refine ⟨ns ++ [(y :: ys)[r]], (y :: ys).eraseIdx r, by omega, rfl, but_put (but_put ((b4.trans (.of s7)).trans b6) nR0) nN0, ?_, upd_same, at_put upd_same NR.symm, at_put (at_put eD6 RD) ND, fun x hx => ?_, ?_⟩
        · have := ((B6.put (o := .lst (((y :: ys).eraseIdx r).map iv)) Rb).put (o := .lst ((ns ++ [(y :: ys)[r]]).map iv)) Nb)
          rw [List.length_append]
          exact this
        · have hx6 := pM6 x hx
          exact at_put (at_put hx6 (ne_of hx6 eR6 (by intro z; cases z))) (ne_of hx6 eN6 (by intro z; cases z))
        · rw [List.append_assoc]
          exact ((pe.append_left ns)).trans pp
    | [], eR4, pp, hnl =>
      refine iteF ?_
      rw [List.append_nil] at pp
      have hns : ns.length = n := by
        have : ns.length + 0 = n := hnl
        omega
      rw [hns] at B4
      have hgv : ∀ p, p < n → (ns.map iv)[p]? = some (iv (ns.getD p 0)) := fun p h => by
        rw [List.getElem?_map, List.getD_eq_getElem?_getD, List.getElem?_eq_getElem (by omega)]
        rfl
      have b5 : But b H (upd H4 e (.lst [])) := b4.trans (.of s7)
      have B5 := B4.same s7
      have eN5 := s7 _ _ eN4
      have eD5 := s7 _ _ eD4
      have pM5 := pM4.same s7
      generalize upd H4 e (.lst []) = H5 at b5 B5 eN5 eD5 pM5
      -- _law_pairs_so
      refine ⟨.ref D, rfl, D, rfl, ⟨_, SqL.of eD5⟩, fun G nG => ?_⟩
      refine lc_list (K := K) (a := D) (xs := rfs M) (fun i H6 => Same H5 H6 ∧ ∃ Z : AL, H6 G = some (.lst (rfs Z)) ∧ (∀ q ∈ Z, H6 q.1 = some (.lst (pr q.2)) ∧ q.1 ≠ G) ∧ prs Z = ((prs M).take i).map fun c => srt (ns.getD c.1 0, ns.getD c.2 0))
        ⟨same_upd nG, [], upd_same, fun q hq => absurd hq (by simp), rfl⟩ (fun i H6 _ h => SqL.of (h.1 _ _ eD5)) (fun i x H6 hx h => ?_) (fun H6 h => ?_)
      · obtain ⟨s6', Z, eG, pZ, eZ⟩ := h
        obtain ⟨d, hd, rfl, hdm⟩ := rfs_get hx
        have hdl := tM.lt d.2 (List.mem_map.mpr ⟨d, hdm, rfl⟩)
        have hZl : Z.length ≤ 20 := by
          have := congrArg List.length eZ
          rw [List.length_map, List.length_map, List.length_take, List.length_map] at this
          omega
        refine ⟨d.1, pr d.2, rfl, SqT.of (s6' _ _ (pM5 d hdm)), rfl, iv d.2.1, _, rfl, iv d.2.2, [], rfl, rfl, rfl, ?_⟩
        refine ⟨.ref N, rfl, iv d.2.1, rfl, N, _, (d.2.1 : Int), _, rfl, rfl, SqL.of (s6' _ _ eN5), atI_nat (hgv d.2.1 (by omega)), .ref N, rfl, iv d.2.2, rfl, N, _, (d.2.2 : Int), _, rfl, rfl, SqL.of (s6' _ _ eN5), atI_nat (hgv d.2.2 hdl.2), by show 2 ≤ sizeLine; decide, fun u nu => ?_⟩
        have s7' := s6'.trans (same_upd (o := .lst [iv (ns.getD d.2.1 0), iv (ns.getD d.2.2 0)]) nu)
        refine ⟨u, [((ns.getD d.2.1 0 : Nat) : Int), ((ns.getD d.2.2 0 : Nat) : Int)], rfl, SqL.of upd_same, by show 2 < 64; decide, fun zs v hp1 hs1 nv => ?_⟩
        rw [sort2 hp1 hs1]
        have s8' := s7'.trans (same_upd (o := .lst (pr (srt (ns.getD d.2.1 0, ns.getD d.2.2 0)))) nv)
        have s68 : Same H6 _ := (same_upd (o := .lst [iv (ns.getD d.2.1 0), iv (ns.getD d.2.2 0)]) nu).trans (same_upd (o := .lst (pr (srt (ns.getD d.2.1 0, ns.getD d.2.2 0)))) nv)
        have vG : v ≠ G := (ne_of_none ((same_upd (o := .lst [iv (ns.getD d.2.1 0), iv (ns.getD d.2.2 0)]) nu) _ _ eG) nv).symm
        refine ⟨rfs Z, s68 _ _ eG, by rw [List.length_map]; exact small (by omega), same_put s8' nG, Z ++ [(v, srt (ns.getD d.2.1 0, ns.getD d.2.2 0))], ?_, fun q' hq' => ?_, ?_⟩
        · rw [upd_same, rfs_snoc]
        · rcases List.mem_append.mp hq' with z | z
          · exact ⟨at_put (s68 _ _ (pZ q' z).1) (pZ q' z).2, (pZ q' z).2⟩
          · have : q' = (v, srt (ns.getD d.2.1 0, ns.getD d.2.2 0)) := by simpa using z
            subst this
            exact ⟨at_put upd_same vG, vG⟩
        · rw [prs_snoc, eZ, getElem?_snoc _ _ _ (prs_get hd), List.map_append]
          rfl
      · obtain ⟨s6', Z, eG, pZ, eZ⟩ := h
        rw [List.take_of_length_le (by rw [List.length_map, List.length_map]; exact Nat.le_refl _)] at eZ
        have hZl : Z.length = M.length := by
          have := congrArg List.length eZ
          rw [List.length_map, List.length_map, List.length_map] at this
          exact this
        have webZ : Web n (prs Z) := by
          rw [eZ]
          exact web_of tM pp
        -- the tuples
        refine ⟨.ref G, rfl, G, rfl, ⟨_, SqL.of eG⟩, fun G2 nG2 => ?_⟩
        refine lc_list (K := K) (a := G) (xs := rfs Z) (fun i H7 => Same H6 H7 ∧ ∃ Y : AL, H7 G2 = some (.lst (rfs Y)) ∧ PL H7 Y ∧ prs Y = (prs Z).take i) ⟨same_upd nG2, [], upd_same, PL.nil, rfl⟩ (fun i H7 _ h => SqL.of (h.1 _ _ eG)) (fun i x H7 hx h => ?_) (fun H7 h => ?_)
        · obtain ⟨s7', Y, eG2, pY, eY⟩ := h
          obtain ⟨d, hd, rfl, hdm⟩ := rfs_get hx
          have hYl : Y.length ≤ 20 := by
            have := congrArg List.length eY
            rw [List.length_map, List.length_take, List.length_map] at this
            omega
          refine ⟨rfl, .ref d.1, rfl, d.1, pr d.2, rfl, .inl ⟨SqL.of (s7' _ _ (pZ d hdm).1), fun v nv => ?_⟩⟩
          have s8' : Same H7 (upd H7 v (.tup (pr d.2))) := same_upd nv
          refine ⟨rfs Y, s8' _ _ eG2, by rw [List.length_map]; exact small (by omega), same_put (s7'.trans s8') nG2, Y ++ [(v, d.2)], ?_, ((pY.same s8').snoc upd_same).put (s8' _ _ eG2), ?_⟩
          · rw [upd_same, rfs_snoc]
          · rw [prs_snoc, eY, getElem?_snoc _ _ _ (prs_get hd)]
        · obtain ⟨s7', Y, eG2, pY, eY⟩ := h
          rw [List.take_of_length_le (by rw [List.length_map, List.length_map]; exact Nat.le_refl _)] at eY
          have hYl : Y.length = M.length := by
            have := congrArg List.length eY
            rw [List.length_map, List.length_map, hZl] at this
            exact this
          have webY : Web n (prs Y) := by rw [eY]; exact webZ
          refine ⟨G2, rfs Y, rfl, SqL.of eG2, by rw [List.length_map]; omega, fun x hx => ?_, fun ys u pys _ nu => ?_⟩
          · obtain ⟨d, hd, rfl⟩ := List.mem_map.mp hx
            have hdl := webY.lt d.2 (List.mem_map.mpr ⟨d, hd, rfl⟩)
            refine ⟨[(d.2.1 : Int), (d.2.2 : Int)], ⟨d.1, rfl, SqT.of (pY d hd)⟩, rfl, ?_⟩
            intro z hz
            have : z = (d.2.1 : Int) ∨ z = (d.2.2 : Int) := by simpa using hz
            omega
          · obtain ⟨Y', pY', rfl⟩ := perm_map_inv pys Y rfl
            have s8' : Same H7 (upd H7 u (.lst (rfs Y'))) := same_upd nu
            refine ⟨u, rfs Y', rfl, .inl ⟨SqL.of upd_same, fun v nv => ?_⟩⟩
            have s9' := s8'.trans (same_upd (o := .tup (rfs Y')) nv)
            have s59 := (s6'.trans s7').trans s9'
            refine q _ v Y' (b5.trans (.of s59)) ((B5.same s59).le (by omega)) ⟨upd_same, fun x hx => s9' _ _ (pY x (pY'.mem_iff.mp hx)), ⟨h2, hn⟩, by rw [pY'.length_eq]; omega, webY.perm (pY'.map _)⟩ (by rw [pY'.length_eq]; omega) ?_
            have vb : v ≠ b := ((B5.same ((s6'.trans s7').trans s8'))).ne nv
            cases z : H v with
            | none => rfl
            | some o =>
              have := s8' _ _ (s7' _ _ (s6' _ _ (b5 _ _ vb z)))
              rw [this] at nv
              cases nv
end
end K74


namespace K74
open PySem PySem.Spec PyProof.Rows L2
/-! ### a plan without one of its pairs -/
def tCut : TE := fun σ H Q => ∃ (t : Addr) (k : Nat) (M : AL), σ[4]? = some (some (.ref t)) ∧ σ[5]? = some (some (iv k)) ∧ H t = some (.tup (rfs M)) ∧ k < M.length ∧ M.length ≤ 1000 ∧
  ∀ H' u, Same H H' → H' u = some (.tup (rfs (M.take k ++ M.drop (k + 1)))) → Q (.ref u) H'
theorem cutV_take (M : AL) (k : Nat) (h : k < M.length) : cutV (rfs M) none (some (k : Int)) = rfs (M.take k) := by
  unfold cutV
  rw [HT.sIx_none, HT.sIx_nat, List.length_map]
  show (rfs M).take (min k M.length - 0) = (M.take k).map _
  rw [Nat.min_eq_left (by omega), Nat.sub_zero, List.map_take]
theorem cutV_drop (M : AL) (k : Nat) (h : k < M.length) : cutV (rfs M) (some ((k : Int) + 1)) none = rfs (M.drop (k + 1)) := by
  unfold cutV
  have e : ((k : Int) + 1) = ((k + 1 : Nat) : Int) := by omega
  rw [e, HT.sIx_none, HT.sIx_nat, List.length_map, Nat.min_eq_left (by omega)]
  show ((rfs M).drop (k + 1)).take (M.length - (k + 1)) = (M.drop (k + 1)).map _
  rw [List.map_drop, List.take_of_length_le]
  rw [List.length_drop, List.length_map]
  exact Nat.le_refl _
theorem cut_mono {K : PySem.W.Frag} (σ : L2.St) (H : Hp) (Q : VK) (h : tCut σ H Q) :
    tOp (rCatA K) (tSl (rSlA K) (tVar 4) tNoPart (tPart (tVar 5))) (tSl (rSlA K) (tVar 4) (tPart (tOp (rI0 fun i j => .int (i + j)) (tVar 5) (tC (.int 1)))) tNoPart) σ H Q := by
  obtain ⟨t, k, M, h4, h5, ht, hk, hl, q⟩ := h
  refine ⟨.ref t, h4, iv k, h5, (k : Int), rfl, t, rfs M, rfl, SqT.of ht, fun z => ?_, fun _ p np => ?_⟩
  · exfalso
    have := z.2
    rw [HT.sIx_nat, List.length_map] at this
    omega
  rw [cutV_take M k hk]
  have s1 : Same H (upd H p (.tup (rfs (M.take k)))) := same_upd np
  refine ⟨.ref t, h4, iv k, h5, (k : Int), 1, rfl, rfl, (k : Int) + 1, rfl, t, rfs M, rfl, SqT.of (s1 _ _ ht), fun z => ?_, fun _ r nr => ?_⟩
  · exfalso
    have := z.1
    have e : ((k : Int) + 1) = ((k + 1 : Nat) : Int) := by omega
    rw [e, HT.sIx_nat, List.length_map] at this
    omega
  rw [cutV_drop M k hk]
  have s2 := s1.trans (same_upd (o := .tup (rfs (M.drop (k + 1)))) nr)
  have hp2 := at_upd (o := .tup (rfs (M.drop (k + 1)))) (upd_same (H := H) (a := p) (o := .tup (rfs (M.take k)))) nr
  have ea : rfs (M.take k) ++ rfs (M.drop (k + 1)) = rfs (M.take k ++ M.drop (k + 1)) := List.map_append.symm
  refine ⟨p, r, _, _, rfl, rfl, SqT.of hp2, SqT.of upd_same, ?_, fun e => ?_, fun _ e => ?_, fun _ _ v nv => ?_⟩
  · rw [List.length_map, List.length_map, List.length_take, List.length_drop]
    exact small' (by omega)
  · refine q _ r s2 ?_
    have e3 : rfs (M.take k ++ M.drop (k + 1)) = rfs (M.drop (k + 1)) := by
      rw [← ea, e, List.nil_append]
    rw [e3]
    exact upd_same
  · refine q _ p s2 ?_
    have e3 : rfs (M.take k ++ M.drop (k + 1)) = rfs (M.take k) := by
      rw [← ea, e, List.append_nil]
    rw [e3]
    exact hp2
  · rw [ea]
    exact q _ v (s2.trans (same_upd nv)) upd_same
/-- the number that is due -/
noncomputable def tDue : TE := fun σ H Q => ∃ (n : Nat) (t : Addr) (L : AL), σ[1]? = some (some (iv n)) ∧ σ[2]? = some (some (.ref t)) ∧ GraphAt H n t L ∧ ∀ H', Same H H' → Q (iv (due n (prs L))) H'
theorem due_mono (σ : L2.St) (H : Hp) (Q : VK) (h : tDue σ H Q) :
    tIf (tB (tCall spHasRing [] E0 (tCons (tVar 1) (tCons (tVar 2) tNil)))) (tOp (rI0 fun i j => .int (i - j)) (tOp (rI CMul fun i j => .int (i * j)) (tC (.int 2)) (tVar 1)) (tC (.int 4)))
      (tOp (rI0 fun i j => .int (i - j)) (tOp (rI CMul fun i j => .int (i * j)) (tC (.int 2)) (tVar 1)) (tC (.int 3))) σ H Q := by
  obtain ⟨n, t, L, h1, h2, G, q⟩ := h
  obtain ⟨ht, hL, ⟨n2, n10⟩, hlen, hweb⟩ := id G
  refine ⟨iv n, h1, .ref t, h2, n, t, L, rfl, G, fun k H4 s4 hk => ⟨k, rfl, ?_⟩⟩
  have q4 := q H4 s4
  cases k with
  | true =>
    have hr := hk.mp rfl
    have h4 := ring_four hweb hr
    rw [due_ring hr] at q4
    have e : V.int (2 * (n : Int) - 4) = iv (2 * n - 4) := congrArg V.int (by omega)
    refine iteT ⟨iv n, h1, 2, (n : Int), rfl, rfl, .inl ⟨by decide, by decide⟩, 2 * (n : Int), 4, rfl, rfl, ?_⟩
    show Q (V.int (2 * (n : Int) - 4)) H4
    rw [e]
    exact q4
  | false =>
    have hr : ¬ RingIn (prs L) := fun z => nomatch hk.mpr z
    rw [due_none hr] at q4
    have e : V.int (2 * (n : Int) - 3) = iv (2 * n - 3) := congrArg V.int (by omega)
    refine iteF ⟨iv n, h1, 2, (n : Int), rfl, rfl, .inl ⟨by decide, by decide⟩, 2 * (n : Int), 3, rfl, rfl, ?_⟩
    show Q (V.int (2 * (n : Int) - 3)) H4
    rw [e]
    exact q4
abbrev nRt : List Str := ["_law_box_here", "_law_crowd", "_law_web", "_law_due", "_law_some", "_law_k", "_law_short", "_law_pair", "_law_turn"]
theorem scRt : FnScope nRt ["_law_box_here"] (defScope sRight) := ⟨rfl, rfl, rfl, by decide +kernel, rfl, by decide +kernel, by decide +kernel⟩
section
variable {P : Program} {w : World} {K : PySem.W.Frag} {mg : Str → Option Value} {base : Heap}
def spRight : Sp := fun vs H Q _ => ∃ (b : Addr) (c : Nat), vs = [.ref b] ∧ BoxAt H b c ∧ c + 2000 ≤ 100000 ∧ ∀ H', But b H H' → BoxAt H' b (c + 200) → Q (.bl true) H'
/-- the callees of _law_right -/
structure RtCal (P : Program) (w : World) (K : PySem.W.Frag) (mg : Str → Option Value) (base : Heap) : Prop where
  take : ∃ f fd, Cal P w K mg base 1 "_law_take" f fd ["_law_box_here", "_law_span"] spTake
  of_ : ∃ f fd, Cal P w K mg base 2 "_law_of" f fd ["_law_box_here", "_law_some"] spOf
  tree : ∃ f fd, Cal P w K mg base 2 "_law_tree" f fd ["_law_box_here", "_law_crowd", "_law_more"] spTree
  ring : ∃ f fd, Cal P w K mg base 2 "_law_has_ring" f fd ["_law_crowd", "_law_web"] spHasRing
  meet : ∃ f fd, Cal P w K mg base 6 "meeting_plan" f fd ["people", "way", "graph", "goal"] spMeet
  few : ∃ f fd, Cal P w K mg base 7 "fewest_meetings" f fd ["people", "way", "graph", "goal"] spFewest
  reach : ∃ f fd, Cal P w K mg base 3 "reaches" f fd ["people", "way", "plan", "goal"] spReaches
  aga : ∃ f fd, Cal P w K mg base 2 "against" f fd ["people", "way", "plan", "goal"] spAgainst
theorem ok_right {f : Addr} {fd : FuncData} (F : Fun K "_law_right" "_law_right" sRight f fd) (B : Bn mg) (R : RtCal P w K mg base) : FnOk P w K mg base CX0 8 f fd ["_law_box_here"] spRight := by
  obtain ⟨fT, fdT, CT⟩ := R.take
  obtain ⟨fO, fdO, CO⟩ := R.of_
  obtain ⟨fW, fdW, CW⟩ := R.tree
  obtain ⟨fR, fdR, CR⟩ := R.ring
  obtain ⟨fM, fdM, CM⟩ := R.meet
  obtain ⟨fF, fdF, CF⟩ := R.few
  obtain ⟨fX, fdX, CX⟩ := R.reach
  obtain ⟨fA, fdA, CA⟩ := R.aga
  refine F.ok scRt (fun vs H Q E h => ?_) (fun cdv A outer s H vs Q E hr h => ?_)
  · obtain ⟨b, c, rfl, _⟩ := h
    rfl
  · obtain ⟨b, c, rfl, hB, hc, q⟩ := h
    have hr1 : Room 1 _ := hr.mono (by decide)
    have hr2 : Room 2 _ := hr.mono (by decide)
    have hr3 : Room 3 _ := hr.mono (by decide)
    have hr6 : Room 6 _ := hr.mono (by decide)
    have hu := hu65 hr
    refine ⟨_, pss_cons (ps_set (i := 1) scRt.nd rfl (.inl rfl) (pe_op op_add pe_int (pe_call CT.G hr1 (by rfl) CT.mf CT.kp CT.b .nil pass0 (pa_cons (pv 0) (pa_cons pe_int pa_nil)))))
      (pss_cons (ps_set (i := 2) scRt.nd rfl (.inr rfl) (pe_call CW.G hr2 (by rfl) CW.mf CW.kp CW.b .nil pass0 (pa_cons (pv 0) (pa_cons (pv 1) (pa_cons (pe_call CO.G hr2 (by rfl) CO.mf CO.kp CO.b .nil pass0 (pa_cons (pv 0) (pa_cons (pe_lst (pa_cons pe_int (pa_cons pe_int (pa_cons pe_int (pa_cons pe_int (pa_cons pe_int pa_nil)))))) pa_nil))) pa_nil)))))
      (pss_cons (ps_set (i := 3) scRt.nd rfl (.inl rfl) (PE.mono' (t' := tDue) (pe_ifExp (pt_val (pe_call CR.G hr2 (by rfl) CR.mf CR.kp CR.b .nil pass0 (pa_cons (pv 1) (pa_cons (pv 2) pa_nil)))) (pe_op op_sub (pe_op op_mul pe_int (pv 1)) pe_int) (pe_op op_sub (pe_op op_mul pe_int (pv 1)) pe_int)) due_mono))
      (pss_cons (ps_set (i := 4) scRt.nd rfl (.inl rfl) (pe_call CM.G hr6 (by rfl) CM.mf CM.kp CM.b .nil pass0 (pa_cons (pv 1) (pa_cons pe_str (pa_cons (pv 2) (pa_cons pe_str pa_nil))))))
      (pss_cons (ps_if (PW.pt (pw_or (pt_cmpR op_ne (pe_call CF.G hr (by rfl) CF.mf CF.kp CF.b .nil pass0 (pa_cons (pv 1) (pa_cons pe_str (pa_cons (pv 2) (pa_cons pe_str pa_nil))))) (pv 3) (nomark _)) (pw_or1 (pt_cmpR op_ne (pe_callB call_len_seq (by rfl) B.len_ PySem.boot_len (pa_cons (pv 4) pa_nil)) (pv 3) (nomark _))))) (pss_one (ps_ret pe_bl)) pss_nil)
      (pss_cons (ps_if (PW.pt (pw_or (pt_cmpR (op_neD (Nat.lt_of_succ_lt hu)) (pe_lc (own := [("_law_pair", 7)]) (g := gName 7) (tt := tTest (tOp (rInP true) (tVar 7) (tVar 2))) (te := tVar 7) (by rfl) scRt.nd (pi_tup (pv 4)) (blkOk_by (N := nRt) (sc := defScope sRight) (by decide +kernel))
            (fun _ _ _ _ _ => pg_name (i := 7) scRt.nd rfl (.inl rfl)) (fun _ _ _ _ _ => pts_one (pt_cmpR (op_notInP hu) (pv 7) (pv 2) (by rfl))) (fun _ _ _ _ _ => pv 7)) (pe_lst pa_nil) (nomark _))
          (pw_or1 (pt_not (pt_val (pe_call CX.G hr3 (by rfl) CX.mf CX.kp CX.b .nil pass0 (pa_cons (pv 1) (pa_cons pe_str (pa_cons (pv 4) (pa_cons pe_str pa_nil)))))))))) (pss_one (ps_ret pe_bl)) pss_nil)
      (pss_cons (ps_for PassesOwn.never rfl (pi_range1 (by rfl) B.range_ (pa_cons (pe_callB call_len_seq (by rfl) B.len_ PySem.boot_len (pa_cons (pv 4) pa_nil)) pa_nil)) (pg_name (i := 5) scRt.nd rfl (.inl rfl))
        (pss_one (ps_if (pt_cmpR op_isN (pe_call CA.G hr2 (by rfl) CA.mf CA.kp CA.b .nil pass0 (pa_cons (pv 1) (pa_cons pe_str (pa_cons (PE.mono' (t' := tCut) (pe_op op_catA (pe_slice sl_tupA (pv 4) po_none (po_some (pv 5))) (pe_slice sl_tupA (pv 4) (po_some (pe_op op_add (pv 5) pe_int)) po_none)) cut_mono) (pa_cons pe_str pa_nil))))) pe_non (nomark _)) (pss_one (ps_ret pe_bl)) pss_nil)))
      (pss_cons (ps_set (i := 6) scRt.nd rfl (.inl rfl) (pe_callTy call_tuple_of (by rfl) B.tuple_ (by decide +kernel) (pa_cons (pe_lc (own := [("_law_turn", 8)]) (g := gName 8) (tt := tYes) (te := tCall spOf [] E0 (tCons (tVar 0) (tCons (tVar 2) tNil))) (by rfl) scRt.nd (pi_range1 (by rfl) B.range_ (pa_cons (pe_op op_sub (pv 3) pe_int) pa_nil))
          (blkOk_by (N := nRt) (sc := defScope sRight) (by decide +kernel)) (fun _ _ _ _ _ => pg_name (i := 8) scRt.nd rfl (.inl rfl)) (fun _ _ _ _ _ => pts_nil) (fun _ _ _ _ _ => pe_call CO.G hr2 (by rfl) CO.mf CO.kp CO.b .nil pass0 (pa_cons (pv 0) (pa_cons (pv 2) pa_nil)))) pa_nil)))
      (pss_one (ps_ret (pe_not (pe_call CX.G hr3 (by rfl) CX.mf CX.kp CX.b .nil pass0 (pa_cons (pv 1) (pa_cons pe_str (pa_cons (pv 6) (pa_cons pe_str pa_nil))))))))))))))), ?_⟩
    -- _law_crowd
    refine ⟨.ref b, rfl, b, c, 9, rfl, hB, by omega, by decide, by decide, fun r H1 hr9 b1 B1 => ⟨2, (r : Int), rfl, rfl, ?_⟩⟩
    obtain ⟨n, hnr⟩ : ∃ n : Nat, n = 2 + r := ⟨_, rfl⟩
    have en : V.int (2 + (r : Int)) = iv n := congrArg V.int (by omega)
    have n2 : 2 ≤ n := by omega
    have n10 : n ≤ 10 := by omega
    show gName 1 (V.int (2 + (r : Int))) _ _ _
    rw [en]
    -- _law_web
    refine ⟨.ref b, rfl, iv n, rfl, .ref b, rfl, by show 5 ≤ sizeLine; decide, fun l nl => ?_⟩
    have s2 : Same H1 (upd H1 l (.lst [.int 0, .int 0, .int 1, .int 3, .int 9])) := same_upd nl
    have lb : l ≠ b := B1.ne nl
    refine ⟨b, l, c + 1, [.int 0, .int 0, .int 1, .int 3, .int 9], rfl, B1.same s2, by omega, .inl upd_same, lb, by decide, by decide, fun v H2 hv b2 B2 => ?_⟩
    obtain ⟨m, rfl, hm⟩ : ∃ m : Nat, v = iv m ∧ m ≤ 9 := by
      have : v = .int 0 ∨ v = .int 1 ∨ v = .int 3 ∨ v = .int 9 := by simpa using hv
      rcases this with z | z | z | z
      · exact ⟨0, z, by decide⟩
      · exact ⟨1, z, by decide⟩
      · exact ⟨3, z, by decide⟩
      · exact ⟨9, z, by decide⟩
    refine ⟨b, n, m, c + 2, rfl, B2, by omega, ⟨n2, n10⟩, hm, fun H3 t L b3 B3 G3 L0 _ => ?_⟩
    have bt : But b H H3 := ((b1.trans (.of s2)).trans b2).trans b3
    obtain ⟨ht, hL, _, hlen, hweb⟩ := id G3
    have tb : t ≠ b := by
      obtain ⟨zs, ez⟩ := B3.lst
      exact ne_of ht ez (by intro z; cases z)
    -- _law_due
    refine ⟨n, t, L, rfl, rfl, G3, fun H4 s4 => ?_⟩
    have G4 := G3.same s4
    -- _law_some
    refine ⟨iv n, rfl, .ref t, rfl, n, t, L, rfl, G4, fun H5 u M s5 eu pM fin lM => ?_⟩
    have G5 := G4.same s5
    -- fewest_meetings(..) != due or len(some) != due
    refine ⟨iv n, rfl, .ref t, rfl, n, t, L, rfl, G5, fun H6 s6 => ?_⟩
    refine ⟨iv (due n (prs L)), rfl, rfl, _, rfl, ?_⟩
    have ed : (!decide (iv (due n (prs L)) = iv (due n (prs L)))) = false := by rw [decide_eq_true rfl]; rfl
    show if (!decide (iv (due n (prs L)) = iv (due n (prs L)))) = true then _ else _
    rw [ed]
    refine iteF ?_
    have el : ((rfs M).length : Int) = ((due n (prs L) : Nat) : Int) := by
      have := fin.len
      rw [List.length_map] at this
      rw [List.length_map, this]
    refine ⟨.ref u, rfl, u, _, rfl, .inr (SqT.of (s6 _ _ eu)), ?_⟩
    rw [el]
    refine ⟨iv (due n (prs L)), rfl, rfl, _, rfl, ?_⟩
    show if (!decide (iv (due n (prs L)) = iv (due n (prs L)))) = true then _ else _
    rw [ed]
    refine iteF ?_
    -- [pair for pair in some if pair not in web] != []
    have s56 := s5.trans s6
    have G6 := G5.same s6
    have eu6 := s6 _ _ eu
    have pM6 := pM.same s6
    refine ⟨.ref u, rfl, u, rfl, ⟨_, SqT.of eu6⟩, fun D nD => ?_⟩
    refine lc_tup (K := K) (a := u) (xs := rfs M) (fun i H7 => Same H6 H7 ∧ H7 D = some (.lst [])) ⟨same_upd nD, upd_same⟩ (fun i H7 _ h => SqT.of (h.1 _ _ eu6)) (fun i x H7 hx h => ?_) (fun H7 h => ?_)
    · obtain ⟨s7, eD⟩ := h
      obtain ⟨d, hd, rfl, hdm⟩ := rfs_get hx
      have G7 := G6.same s7
      refine ⟨rfl, .ref d.1, rfl, .ref t, rfl, d.1, t, d.2, L, rfl, rfl, s7 _ _ (pM6 d hdm), G7.1, G7.2.1, _, rfl, ?_⟩
      have hin : d.2 ∈ prs L := fin.sub d.2 (List.mem_map.mpr ⟨d, hdm, rfl⟩)
      show if (!decide (d.2 ∈ prs L)) = true then _ else _
      rw [decide_eq_true hin]
      exact iteF ⟨s7, eD⟩
    obtain ⟨s7, eD⟩ := h
    have G7 := G6.same s7
    refine ⟨Nat.zero_le _, fun e ne => ⟨.list [], .list [], .lst (SqL.of (at_upd eD ne)) .nil, .lst (SqL.of upd_same) .nil, ints_shaped [], ints_shaped [], _, rfl, ?_⟩⟩
    have ee : PyData.eqv (.list []) (.list []) = true := eqv_nil []
    rw [ee]
    refine iteF ?_
    have s8 : Same H7 (upd H7 e (.lst [])) := same_upd ne
    have G8 := G7.same s8
    have eu8 := s8 _ _ (s7 _ _ eu6)
    have pM8 := (pM6.same s7).same s8
    have hMlt : ∀ x ∈ prs M, x.1 < n ∧ x.2 < n := fun x hx => hweb.lts x (fin.sub x hx)
    have hLlt := hweb.lts
    have sAll : Same H3 (upd H7 e (.lst [])) := ((s4.trans s56).trans s7).trans s8
    generalize upd H7 e (.lst []) = H8 at G8 eu8 pM8 sAll
    -- reaches
    refine ⟨iv n, rfl, .ref u, rfl, n, u, M, rfl, ⟨⟨n2, n10⟩, eu8, pM8, hMlt⟩, fun k H9 s9 hk => ⟨k, rfl, ?_⟩⟩
    have hk' : k = true := hk.mpr fin.all
    subst hk'
    refine iteF ?_
    have eu9 := s9 _ _ eu8
    have pM9 := pM8.same s9
    have sAll9 := sAll.trans s9
    have lM' : M.length = due n (prs L) := by
      have := fin.len
      rw [List.length_map] at this
      exact this
    -- for _law_k in range(len(some))
    refine ⟨.ref u, rfl, u, _, rfl, .inr (SqT.of eu9), ((rfs M).length : Int), rfl, by omega, by rw [List.length_map]; omega, ?_⟩
    refine for_range (fun i σ HA => ∃ v5, σ = [some (.ref b), some (iv n), some (.ref t), some (iv (due n (prs L))), some (.ref u), v5, none, none, none] ∧ Same H9 HA) ⟨none, rfl, Same.refl _⟩ (fun i σ HA hi h => ?_) (fun σ HA h => ?_)
    · obtain ⟨v5, rfl, sA⟩ := h
      have hi' : i < M.length := by
        have : i < (((rfs M).length : Nat) : Int).toNat := hi
        rw [List.length_map] at this
        omega
      have e1 : V.int (0 + (i : Int)) = iv i := by rw [Int.zero_add]
      rw [e1]
      refine ⟨iv n, rfl, u, i, M, rfl, rfl, sA _ _ eu9, hi', by omega, fun HB z sB ez => ?_⟩
      have pMB := (pM9.same sA).same sB
      have sub : ∀ x ∈ M.take i ++ M.drop (i + 1), x ∈ M := fun x hx => (List.mem_append.mp hx).elim List.mem_of_mem_take List.mem_of_mem_drop
      refine ⟨n, z, M.take i ++ M.drop (i + 1), rfl, ⟨⟨n2, n10⟩, ez, pMB.sub sub, fun x hx => ?_⟩, fun v HC sC hv => ⟨rfl, _, rfl, ?_⟩⟩
      · obtain ⟨y, hy, rfl⟩ := List.mem_map.mp hx
        exact hMlt _ (List.mem_map.mpr ⟨y, sub y hy, rfl⟩)
      have nv : v ≠ .non := fun ev => by
        refine short_fails n2 n10 hweb (plan := prs (M.take i ++ M.drop (i + 1))) (fun x hx => ?_) ?_ (hv.mp ev)
        · obtain ⟨y, hy, rfl⟩ := List.mem_map.mp hx
          exact fin.sub _ (List.mem_map.mpr ⟨y, sub y hy, rfl⟩)
        · rw [List.length_map, List.length_append, List.length_take, List.length_drop, ← lM']
          omega
      rw [decide_eq_false nv]
      exact iteF ⟨_, rfl, (sA.trans sB).trans sC⟩
    obtain ⟨v5, rfl, sA⟩ := h
    have GA : GraphAt HA n t L := (G8.same s9).same sA
    have BA : BoxAt HA b (c + 62) := (B3.same (sAll9.trans sA)).le (by omega)
    have d0 : 1 ≤ due n (prs L) ∧ due n (prs L) ≤ 17 := by
      by_cases hr : RingIn (prs L)
      · have := ring_four hweb hr
        rw [due_ring hr]
        omega
      · rw [due_none hr]
        omega
    -- _law_short
    refine ⟨iv (due n (prs L)), rfl, ((due n (prs L) : Nat) : Int), 1, rfl, rfl, ((due n (prs L) : Nat) : Int) - 1, rfl, by omega, by omega, fun G nG => ?_⟩
    have Gb : G ≠ b := BA.ne nG
    refine lc_range (fun i HB => But b HA HB ∧ BoxAt HB b (c + 62 + i) ∧ ∃ Z : AL, HB G = some (.lst (rfs Z)) ∧ Z.length = i ∧ (∀ x ∈ Z, x ∈ L)) ⟨but_put (But.refl b HA) nG, BA.put Gb, [], upd_same, rfl, fun x hx => absurd hx (by simp)⟩ (fun i HB hi h => ?_) (fun HB h => ?_)
    · obtain ⟨bB, BB, Z, eG, lZ, mZ⟩ := h
      have hi' : i < 17 := by
        have : i < (((due n (prs L) : Nat) : Int) - 1).toNat := hi
        omega
      refine ⟨rfl, .ref b, rfl, .ref t, rfl, b, t, _, rfs L, rfl, BB, by omega, .inr (bB _ _ tb GA.1), tb, by rw [List.length_map]; exact L0, by rw [List.length_map]; omega, fun v HC hv bC BC => ?_⟩
      obtain ⟨d, hd, rfl⟩ := List.mem_map.mp hv
      refine ⟨rfs Z, bC _ _ Gb eG, by rw [List.length_map]; exact small (by omega), but_put (bB.trans bC) nG, BC.put Gb, Z ++ [(d.1, d.2)], ?_, by rw [List.length_append, lZ]; rfl, fun x hx => ?_⟩
      · rw [upd_same, rfs_snoc]
      · rcases List.mem_append.mp hx with z | z
        · exact mZ x z
        · have : x = (d.1, d.2) := by simpa using z
          rw [this]
          exact hd
    obtain ⟨bB, BB, Z, eG, lZ, mZ⟩ := h
    have eZ : (((due n (prs L) : Nat) : Int) - 1).toNat = due n (prs L) - 1 := by omega
    rw [eZ] at lZ BB
    refine ⟨G, _, rfl, .inl ⟨SqL.of eG, fun z nz => ?_⟩⟩
    have sZ : Same HB (upd HB z (.tup (rfs Z))) := same_upd nz
    have pZ : PL (upd HB z (.tup (rfs Z))) Z := fun x hx => sZ _ _ (by
      have hx6 := GA.2.1 x (mZ x hx)
      obtain ⟨ys, ey⟩ := BA.lst
      exact bB _ _ (ne_of hx6 ey (by intro z; cases z)) hx6)
    have subZ : ∀ x ∈ prs Z, x ∈ prs L := fun x hx => by
      obtain ⟨y, hy, rfl⟩ := List.mem_map.mp hx
      exact List.mem_map.mpr ⟨y, mZ y hy, rfl⟩
    refine ⟨iv n, rfl, .ref z, rfl, n, z, Z, rfl, ⟨⟨n2, n10⟩, upd_same, pZ, fun x hx => hLlt x (subZ x hx)⟩, fun k HC sC hk => ⟨k, rfl, ?_⟩⟩
    have hkf : k = false := by
      cases k with
      | false => rfl
      | true =>
        refine absurd (hk.mp rfl) (short_fails n2 n10 hweb subZ ?_)
        rw [List.length_map, lZ]
        omega
    subst hkf
    exact q HC ((((bt.trans (.of (sAll9.trans sA))).trans bB).trans (.of sZ)).trans (.of sC)) (((BB.same sZ).same sC).le (by omega))
end
end K74


namespace K74
open PySem PySem.Spec PyProof.Rows L2
theorem scLw : FnScope ["_law_script", "_law_k", "_law_box_here", "_law_lap"] ["_law_script"] (defScope sLaw) := ⟨rfl, rfl, rfl, by decide +kernel, rfl, by decide +kernel, by decide +kernel⟩
section
variable {P : Program} {w : World} {K : PySem.W.Frag} {mg : Str → Option Value} {base : Heap}
def spLaw (K : PySem.W.Frag) : Sp := fun vs H Q _ => ∃ (a : Addr) (ns : List Int), vs = [.ref a] ∧ SqL K H a (ns.map V.int) ∧ ns.length ≤ 63 ∧ ∀ H', Q (.bl true) H'
theorem all_true (i : Nat) : (List.replicate i true).all id = true := by
  rw [List.all_eq_true]
  intro x hx
  rw [(List.mem_replicate.mp hx).2]
  rfl
theorem ok_law {f fB fR : Addr} {fd fdB fdR : FuncData} (F : Fun K "law" "law" sLaw f fd) (B : Bn mg) (CB : Cal P w K mg base 1 "_law_box" fB fdB ["_law_script", "_law_k"] (spBox K)) (CR : Cal P w K mg base 8 "_law_right" fR fdR ["_law_box_here"] spRight) :
    FnOk P w K mg base CX0 9 f fd ["_law_script"] (spLaw K) := by
  refine F.ok scLw (fun vs H Q E h => ?_) (fun cdv A outer s H vs Q E hr h => ?_)
  · obtain ⟨a, ns, rfl, _⟩ := h
    rfl
  · obtain ⟨a, ns, rfl, hS, hlen, q⟩ := h
    have hr1 : Room 1 _ := hr.mono (by decide)
    refine ⟨_, pss_cons (ps_for PassesOwn.never rfl (pi_range1 (by rfl) B.range_ (pa_cons (pe_op op_add pe_int (pe_callB (call_min2 rfl) (by rfl) B.min_ (by decide +kernel) (pa_cons pe_int (pa_cons (pe_callB call_len_seq (by rfl) B.len_ PySem.boot_len (pa_cons (pv 0) pa_nil)) pa_nil)))) pa_nil)) (pg_name (i := 1) scLw.nd rfl (.inl rfl))
        (pss_cons (ps_set (i := 2) scLw.nd rfl (.inr rfl) (pe_call CB.G hr1 (by rfl) CB.mf CB.kp CB.b .nil pass0 (pa_cons (pv 0) (pa_cons (pv 1) pa_nil))))
        (pss_one (ps_if (pt_not (pt_val (pe_callB (cr_all (by rfl)) (by rfl) B.all_ (by decide +kernel) (pa_cons (pe_lc (own := [("_law_lap", 3)]) (g := gName 3) (tt := tYes) (te := tCall spRight [] E0 (tCons (tVar 2) tNil)) (by rfl) scLw.nd (pi_range1 (by rfl) B.range_ (pa_cons pe_int pa_nil))
            (blkOk_by (N := ["_law_script", "_law_k", "_law_box_here", "_law_lap"]) (sc := defScope sLaw) (by decide +kernel)) (fun _ _ _ _ _ => pg_name (i := 3) scLw.nd rfl (.inl rfl)) (fun _ _ _ _ _ => pts_nil) (fun _ _ _ _ _ => pe_call CR.G hr (by rfl) CR.mf CR.kp CR.b .nil pass0 (pa_cons (pv 2) pa_nil))) pa_nil)))) (pss_one (ps_ret pe_bl)) pss_nil))))
      (pss_one (ps_ret pe_bl)), ?_⟩
    have hmin : ∃ j : Nat, j ≤ 1 ∧ (if (((ns.map V.int).length : Nat) : Int) < 1 then (((ns.map V.int).length : Nat) : Int) else 1) = (j : Int) := by
      split
      · exact ⟨0, by decide, by omega⟩
      · exact ⟨1, by decide, rfl⟩
    obtain ⟨j, hj, ej⟩ := hmin
    refine ⟨.ref a, rfl, a, _, rfl, .inl hS, _, _, rfl, _, _, rfl, rfl, 1 + (j : Int), by rw [← ej], by omega, by omega, ?_⟩
    refine for_range (fun i σ H2 => ∃ v1 v2, σ = [some (.ref a), v1, v2, none] ∧ Same H H2) ⟨none, none, rfl, Same.refl _⟩ (fun i σ H2 hi h => ?_) (fun σ H2 h => ?_)
    · obtain ⟨v1, v2, rfl, s2⟩ := h
      have hi' : i ≤ 1 := by
        have : i < (1 + (j : Int)).toNat := hi
        omega
      have e1 : V.int (0 + (i : Int)) = iv i := by rw [Int.zero_add]
      rw [e1]
      refine ⟨.ref a, rfl, iv i, rfl, a, ns, i, rfl, s2.seq hS, hlen, hi', fun H3 b s3 nb B3 => ?_⟩
      refine ⟨4, rfl, by decide, by decide, fun D nD => ?_⟩
      have Db : D ≠ b := B3.ne nD
      refine lc_range (fun k H4 => But b H3 H4 ∧ BoxAt H4 b (k * 200) ∧ H4 D = some (.lst ((List.replicate k true).map V.bl))) ⟨but_put (But.refl b H3) nD, (B3.put Db).le (by omega), upd_same⟩ (fun k H4 hk h => ?_) (fun H4 h => ?_)
      · obtain ⟨b4, B4, eD⟩ := h
        have hk' : k < 4 := hk
        refine ⟨rfl, .ref b, rfl, b, _, rfl, B4, by omega, fun H5 b5 B5 => ?_⟩
        have eD5 := b5 _ _ Db eD
        refine ⟨_, eD5, by rw [List.length_map, List.length_replicate]; exact small (by omega), but_put (b4.trans b5) nD, (B5.put Db).le (by omega), ?_⟩
        rw [upd_same, List.replicate_succ', List.map_append]
        rfl
      · obtain ⟨b4, B4, eD⟩ := h
        refine ⟨D, _, rfl, SqL.of eD, _, rfl, ?_⟩
        rw [all_true]
        refine iteF ⟨_, _, rfl, fun c o e => ?_⟩
        have e3 := s3 _ _ (s2 _ _ e)
        exact b4 c o (ne_of_none (s2 _ _ e) nb) e3
    · exact q H2
end
end K74


namespace K74
open PySem PySem.Spec PyProof.Rows L2
/-! ### what the top has written -/
structure TopCls (K : PySem.W.Frag) (C : Addr) : Prop where
  pg : PySem.W.plainGet K C Str.empty = true
  hd : PySem.W.hasDictIn K C = true
  po : PySem.W.plainOver K C = true
  sa : PySem.W.findIn K (.ref C) "__setattr__" = some (some (.builtin "object.__setattr__"))
  mks : PySem.W.makesIn K C = true
  kc : PySem.W.keepIn K (.ref C) = true
  n1 : PySem.W.findIn K (.ref C) "own_people" = some none
  n2 : PySem.W.findIn K (.ref C) "own_is_meet" = some none
  n3 : PySem.W.findIn K (.ref C) "own_pairs" = some none
  init : ∃ f fd, PySem.W.findIn K (.ref C) "__init__" = some (some (.ref f)) ∧ PySem.W.isFn K (.ref f) = true ∧ Fun K "__init__" "Ways.__init__" sInit f fd
  nexts : ∃ f fd, PySem.W.findIn K (.ref C) "nexts" = some (some (.ref f)) ∧ PySem.W.isFn K (.ref f) = true ∧ Fun K "nexts" "Ways.nexts" sNexts f fd
  backs : ∃ f fd, PySem.W.findIn K (.ref C) "backs" = some (some (.ref f)) ∧ PySem.W.isFn K (.ref f) = true ∧ Fun K "backs" "Ways.backs" sBacks f fd
  forest : ∃ f fd, PySem.W.findIn K (.ref C) "forest" = some (some (.ref f)) ∧ PySem.W.isFn K (.ref f) = true ∧ Fun K "forest" "Ways.forest" sForest f fd
  inward : ∃ f fd, PySem.W.findIn K (.ref C) "inward" = some (some (.ref f)) ∧ PySem.W.isFn K (.ref f) = true ∧ Fun K "inward" "Ways.inward" sInward f fd
  ring : ∃ f fd, PySem.W.findIn K (.ref C) "ring" = some (some (.ref f)) ∧ PySem.W.isFn K (.ref f) = true ∧ Fun K "ring" "Ways.ring" sRing f fd
  metAll : ∃ f fd, PySem.W.findIn K (.ref C) "met_all" = some (some (.ref f)) ∧ PySem.W.isFn K (.ref f) = true ∧ Fun K "met_all" "Ways.met_all" sMetAll f fd
  plan : ∃ f fd, PySem.W.findIn K (.ref C) "plan" = some (some (.ref f)) ∧ PySem.W.isFn K (.ref f) = true ∧ Fun K "plan" "Ways.plan" sPlan f fd
structure TopOk (K : PySem.W.Frag) : Prop where
  asT : ∃ f fd, PySem.W.nsIn K mainGlobals "as_tuples" = some (some (.ref f)) ∧ Fun K "as_tuples" "as_tuples" sAsT f fd
  known : ∃ f fd, PySem.W.nsIn K mainGlobals "known_by" = some (some (.ref f)) ∧ Fun K "known_by" "known_by" sKnown f fd
  pairs : ∃ f fd, PySem.W.nsIn K mainGlobals "all_pairs" = some (some (.ref f)) ∧ Fun K "all_pairs" "all_pairs" sPairs f fd
  has : ∃ f fd, PySem.W.nsIn K mainGlobals "has_both" = some (some (.ref f)) ∧ Fun K "has_both" "has_both" sHas f fd
  aga : ∃ f fd, PySem.W.nsIn K mainGlobals "against" = some (some (.ref f)) ∧ Fun K "against" "against" sAgainst f fd
  rea : ∃ f fd, PySem.W.nsIn K mainGlobals "reaches" = some (some (.ref f)) ∧ Fun K "reaches" "reaches" sReaches f fd
  meeting : ∃ f fd, PySem.W.nsIn K mainGlobals "meeting_plan" = some (some (.ref f)) ∧ Fun K "meeting_plan" "meeting_plan" sMeeting f fd
  few : ∃ f fd, PySem.W.nsIn K mainGlobals "fewest_meetings" = some (some (.ref f)) ∧ Fun K "fewest_meetings" "fewest_meetings" sFewest f fd
  box : ∃ f fd, PySem.W.nsIn K mainGlobals "_law_box" = some (some (.ref f)) ∧ Fun K "_law_box" "_law_box" sBox f fd
  take : ∃ f fd, PySem.W.nsIn K mainGlobals "_law_take" = some (some (.ref f)) ∧ Fun K "_law_take" "_law_take" sTake f fd
  of_ : ∃ f fd, PySem.W.nsIn K mainGlobals "_law_of" = some (some (.ref f)) ∧ Fun K "_law_of" "_law_of" sOf f fd
  tree : ∃ f fd, PySem.W.nsIn K mainGlobals "_law_tree" = some (some (.ref f)) ∧ Fun K "_law_tree" "_law_tree" sTree f fd
  may : ∃ f fd, PySem.W.nsIn K mainGlobals "_law_may" = some (some (.ref f)) ∧ Fun K "_law_may" "_law_may" sMay f fd
  hasr : ∃ f fd, PySem.W.nsIn K mainGlobals "_law_has_ring" = some (some (.ref f)) ∧ Fun K "_law_has_ring" "_law_has_ring" sHasRing f fd
  right : ∃ f fd, PySem.W.nsIn K mainGlobals "_law_right" = some (some (.ref f)) ∧ Fun K "_law_right" "_law_right" sRight f fd
  law : ∃ f fd, PySem.W.nsIn K mainGlobals "law" = some (some (.ref f)) ∧ Fun K "law" "law" sLaw f fd
  ways : ∃ C, PySem.W.nsIn K mainGlobals "Ways" = some (some (.ref C)) ∧ TopCls K C
  list_ : PySem.W.nsIn K mainGlobals "list" = some none
  tuple_ : PySem.W.nsIn K mainGlobals "tuple" = some none
  isi : PySem.W.nsIn K mainGlobals "isinstance" = some none
  range_ : PySem.W.nsIn K mainGlobals "range" = some none
  sorted_ : PySem.W.nsIn K mainGlobals "sorted" = some none
  set_ : PySem.W.nsIn K mainGlobals "set" = some none
  len_ : PySem.W.nsIn K mainGlobals "len" = some none
  enum_ : PySem.W.nsIn K mainGlobals "enumerate" = some none
  min_ : PySem.W.nsIn K mainGlobals "min" = some none
  max_ : PySem.W.nsIn K mainGlobals "max" = some none
  int_ : PySem.W.nsIn K mainGlobals "int" = some none
  abs_ : PySem.W.nsIn K mainGlobals "abs" = some none
  all_ : PySem.W.nsIn K mainGlobals "all" = some none
theorem all_mk {l : PySem.W.OpenLaw} {w : World} {K : PySem.W.Frag} {h : Heap} {mg : Str → Option Value} {fa : Addr} (X : K.In h) (G : h.Ns mainGlobals mg) (hfa : mg "law" = some (.ref fa)) {tm ts : Tok}
    (hm : PySem.W.nsIn K mainGlobals "MEET" = some (some (.str "meet" tm))) (hs : PySem.W.nsIn K mainGlobals "SOMEBODY" = some (some (.str "somebody" ts))) (T : TopOk K) :
    ∃ fd : FuncData, (∀ (s : Shared) (v : Value), BindsTo s fd ⟨[v], []⟩ [("_law_script", v)]) ∧ ∀ base : Heap, K.In base → base.Ns mainGlobals mg → FnOk l.prog w K mg base CX0 9 fa fd ["_law_script"] (spLaw K) := by
  have B : Bn mg := ⟨PySem.W.mg_none_of X G T.list_, PySem.W.mg_none_of X G T.tuple_, PySem.W.mg_none_of X G T.isi, PySem.W.mg_none_of X G T.range_, PySem.W.mg_none_of X G T.sorted_, PySem.W.mg_none_of X G T.set_, PySem.W.mg_none_of X G T.len_, PySem.W.mg_none_of X G T.enum_, PySem.W.mg_none_of X G T.min_, PySem.W.mg_none_of X G T.max_, PySem.W.mg_none_of X G T.int_, PySem.W.mg_none_of X G T.abs_, PySem.W.mg_none_of X G T.all_, ⟨tm, PySem.W.mg_of X G hm⟩, ⟨ts, PySem.W.mg_of X G hs⟩⟩
  obtain ⟨f_asT, d_asT, n_asT, F_asT⟩ := T.asT
  obtain ⟨f_known, d_known, n_known, F_known⟩ := T.known
  obtain ⟨f_pairs, d_pairs, n_pairs, F_pairs⟩ := T.pairs
  obtain ⟨f_has, d_has, n_has, F_has⟩ := T.has
  obtain ⟨f_aga, d_aga, n_aga, F_aga⟩ := T.aga
  obtain ⟨f_rea, d_rea, n_rea, F_rea⟩ := T.rea
  obtain ⟨f_meeting, d_meeting, n_meeting, F_meeting⟩ := T.meeting
  obtain ⟨f_few, d_few, n_few, F_few⟩ := T.few
  obtain ⟨f_box, d_box, n_box, F_box⟩ := T.box
  obtain ⟨f_take, d_take, n_take, F_take⟩ := T.take
  obtain ⟨f_of_, d_of_, n_of_, F_of_⟩ := T.of_
  obtain ⟨f_tree, d_tree, n_tree, F_tree⟩ := T.tree
  obtain ⟨f_may, d_may, n_may, F_may⟩ := T.may
  obtain ⟨f_hasr, d_hasr, n_hasr, F_hasr⟩ := T.hasr
  obtain ⟨f_right, d_right, n_right, F_right⟩ := T.right
  obtain ⟨f_law, d_law, n_law, F_law⟩ := T.law
  obtain ⟨C, nC, TC⟩ := T.ways
  obtain ⟨g_init, e_init, m_init, i_init, M_init⟩ := TC.init
  obtain ⟨g_nexts, e_nexts, m_nexts, i_nexts, M_nexts⟩ := TC.nexts
  obtain ⟨g_backs, e_backs, m_backs, i_backs, M_backs⟩ := TC.backs
  obtain ⟨g_forest, e_forest, m_forest, i_forest, M_forest⟩ := TC.forest
  obtain ⟨g_inward, e_inward, m_inward, i_inward, M_inward⟩ := TC.inward
  obtain ⟨g_ring, e_ring, m_ring, i_ring, M_ring⟩ := TC.ring
  obtain ⟨g_metAll, e_metAll, m_metAll, i_metAll, M_metAll⟩ := TC.metAll
  obtain ⟨g_plan, e_plan, m_plan, i_plan, M_plan⟩ := TC.plan
  have CT1 : CT K mg C := ⟨⟨TC.pg, TC.hd, TC.po, TC.sa⟩, TC.n1, TC.n2, TC.n3, PySem.W.mg_of X G nC⟩
  have b_asT : Binds K d_asT ["thing"] [] := F_asT.binds fun _ _ _ _ _ _ us hl => match us, hl with | [_], _ => rfl
  have b_known : Binds K d_known ["people", "way", "plan"] [] := F_known.binds fun _ _ _ _ _ _ us hl => match us, hl with | [_, _, _], _ => rfl
  have b_pairs : Binds K d_pairs ["people"] [] := F_pairs.binds fun _ _ _ _ _ _ us hl => match us, hl with | [_], _ => rfl
  have b_has : Binds K d_has ["some", "pair"] [] := F_has.binds fun _ _ _ _ _ _ us hl => match us, hl with | [_, _], _ => rfl
  have b_aga : Binds K d_aga ["people", "way", "plan", "goal"] [] := F_aga.binds fun _ _ _ _ _ _ us hl => match us, hl with | [_, _, _, _], _ => rfl
  have b_rea : Binds K d_rea ["people", "way", "plan", "goal"] [] := F_rea.binds fun _ _ _ _ _ _ us hl => match us, hl with | [_, _, _, _], _ => rfl
  have b_meeting : Binds K d_meeting ["people", "way", "graph", "goal"] [] := F_meeting.binds fun _ _ _ _ _ _ us hl => match us, hl with | [_, _, _, _], _ => rfl
  have b_few : Binds K d_few ["people", "way", "graph", "goal"] [] := F_few.binds fun _ _ _ _ _ _ us hl => match us, hl with | [_, _, _, _], _ => rfl
  have b_box : Binds K d_box ["_law_script", "_law_k"] [] := F_box.binds fun _ _ _ _ _ _ us hl => match us, hl with | [_, _], _ => rfl
  have b_take : Binds K d_take ["_law_box_here", "_law_span"] [] := F_take.binds fun _ _ _ _ _ _ us hl => match us, hl with | [_, _], _ => rfl
  have b_of_ : Binds K d_of_ ["_law_box_here", "_law_some"] [] := F_of_.binds fun _ _ _ _ _ _ us hl => match us, hl with | [_, _], _ => rfl
  have b_tree : Binds K d_tree ["_law_box_here", "_law_crowd", "_law_more"] [] := F_tree.binds fun _ _ _ _ _ _ us hl => match us, hl with | [_, _, _], _ => rfl
  have b_may : Binds K d_may ["_law_web", "_law_p", "_law_q"] [] := F_may.binds fun _ _ _ _ _ _ us hl => match us, hl with | [_, _, _], _ => rfl
  have b_hasr : Binds K d_hasr ["_law_crowd", "_law_web"] [] := F_hasr.binds fun _ _ _ _ _ _ us hl => match us, hl with | [_, _], _ => rfl
  have b_right : Binds K d_right ["_law_box_here"] [] := F_right.binds fun _ _ _ _ _ _ us hl => match us, hl with | [_], _ => rfl
  have b2_init : Binds K e_init ["self", "people", "way", "graph"] [] := M_init.binds fun _ _ _ _ _ _ us hl => match us, hl with | [_, _, _, _], _ => rfl
  have b2_nexts : Binds K e_nexts ["self", "person"] [] := M_nexts.binds fun _ _ _ _ _ _ us hl => match us, hl with | [_, _], _ => rfl
  have b2_backs : Binds K e_backs ["self", "person"] [] := M_backs.binds fun _ _ _ _ _ _ us hl => match us, hl with | [_, _], _ => rfl
  have b2_forest : Binds K e_forest ["self", "sources", "is_back"] [] := M_forest.binds fun _ _ _ _ _ _ us hl => match us, hl with | [_, _, _], _ => rfl
  have b2_inward : Binds K e_inward ["self"] [] := M_inward.binds fun _ _ _ _ _ _ us hl => match us, hl with | [_], _ => rfl
  have b2_ring : Binds K e_ring ["self"] [] := M_ring.binds fun _ _ _ _ _ _ us hl => match us, hl with | [_], _ => rfl
  have b2_metAll : Binds K e_metAll ["self", "inward"] [] := M_metAll.binds fun _ _ _ _ _ _ us hl => match us, hl with | [_, _], _ => rfl
  have b2_plan : Binds K e_plan ["self", "goal"] [] := M_plan.binds fun _ _ _ _ _ _ us hl => match us, hl with | [_, _], _ => rfl
  obtain ⟨oc, od, kV, doc, pm, an, cdv, ct, osl, rfl, lk, hcd⟩ := F_law.ex
  have ef : fa = f_law := by
    have e := hfa.symm.trans (PySem.W.mg_of X G n_law)
    cases e
    rfl
  subst ef
  refine ⟨PySem.W.fnOf "law" "law" (defArgs sLaw) (defBody sLaw) (defScope sLaw) .none kV doc pm an cdv ct, fun s v => .of_eq rfl, fun base _ _ => ?_⟩
  have c_asI : Cal l.prog w K mg base 1 "as_tuples" f_asT d_asT ["thing"] spAsI := ⟨ok_asI F_asT B, PySem.W.mg_of X G n_asT, F_asT.kp, b_asT⟩
  have c_asP : Cal l.prog w K mg base 2 "as_tuples" f_asT d_asT ["thing"] spAsP := ⟨ok_asP F_asT B c_asI, PySem.W.mg_of X G n_asT, F_asT.kp, b_asT⟩
  have c_asT : Cal l.prog w K mg base 3 "as_tuples" f_asT d_asT ["thing"] spAsT := ⟨ok_asT F_asT B c_asP, PySem.W.mg_of X G n_asT, F_asT.kp, b_asT⟩
  have c_known : Cal l.prog w K mg base 1 "known_by" f_known d_known ["people", "way", "plan"] spKnown := ⟨ok_known F_known B, PySem.W.mg_of X G n_known, F_known.kp, b_known⟩
  have c_pairs : Cal l.prog w K mg base 1 "all_pairs" f_pairs d_pairs ["people"] spPairs := ⟨ok_pairs F_pairs B, PySem.W.mg_of X G n_pairs, F_pairs.kp, b_pairs⟩
  have c_has : Cal l.prog w K mg base 1 "has_both" f_has d_has ["some", "pair"] spHas := ⟨ok_has F_has, PySem.W.mg_of X G n_has, F_has.kp, b_has⟩
  have c_aga : Cal l.prog w K mg base 2 "against" f_aga d_aga ["people", "way", "plan", "goal"] spAgainst := ⟨ok_against F_aga B c_known c_pairs c_has, PySem.W.mg_of X G n_aga, F_aga.kp, b_aga⟩
  have c_rea : Cal l.prog w K mg base 3 "reaches" f_rea d_rea ["people", "way", "plan", "goal"] spReaches := ⟨ok_reaches F_rea c_aga, PySem.W.mg_of X G n_rea, F_rea.kp, b_rea⟩
  have m2_nexts : MCal l.prog w K mg base C 1 "nexts" g_nexts e_nexts ["self", "person"] (spNb C gNx) := ⟨ok_nexts M_nexts CT1, ⟨m_nexts, i_nexts, M_nexts.kp⟩, b2_nexts⟩
  have m2_backs : MCal l.prog w K mg base C 1 "backs" g_backs e_backs ["self", "person"] (spNb C gBk) := ⟨ok_backs M_backs CT1, ⟨m_backs, i_backs, M_backs.kp⟩, b2_backs⟩
  have m2_forest : MCal l.prog w K mg base C 2 "forest" g_forest e_forest ["self", "sources", "is_back"] (spForest K C) := ⟨ok_forest M_forest B CT1 m2_backs m2_nexts, ⟨m_forest, i_forest, M_forest.kp⟩, b2_forest⟩
  have m2_inward : MCal l.prog w K mg base C 3 "inward" g_inward e_inward ["self"] (spInward C) := ⟨ok_inward M_inward B CT1 m2_forest, ⟨m_inward, i_inward, M_inward.kp⟩, b2_inward⟩
  have m2_ring : MCal l.prog w K mg base C 2 "ring" g_ring e_ring ["self"] (spRing C) := ⟨ok_ring M_ring B CT1 m2_nexts, ⟨m_ring, i_ring, M_ring.kp⟩, b2_ring⟩
  have m2_metAll : MCal l.prog w K mg base C 3 "met_all" g_metAll e_metAll ["self", "inward"] (spMetAll C) := ⟨ok_metAll M_metAll CT1 m2_forest m2_ring, ⟨m_metAll, i_metAll, M_metAll.kp⟩, b2_metAll⟩
  have m2_plan : MCal l.prog w K mg base C 4 "plan" g_plan e_plan ["self", "goal"] (spPlan C) := ⟨ok_plan M_plan B CT1 m2_inward m2_metAll, ⟨m_plan, i_plan, M_plan.kp⟩, b2_plan⟩
  have g_ini : FnOk l.prog w K mg base CX0 4 g_init e_init ["self", "people", "way", "graph"] (spInit C) := ok_init M_init B CT1 c_asT
  have c_meeting : Cal l.prog w K mg base 6 "meeting_plan" f_meeting d_meeting ["people", "way", "graph", "goal"] spMeet := ⟨ok_meeting F_meeting B CT1 ⟨TC.mks, m_init, i_init, TC.kc⟩ g_ini b2_init m2_plan, PySem.W.mg_of X G n_meeting, F_meeting.kp, b_meeting⟩
  have c_few : Cal l.prog w K mg base 7 "fewest_meetings" f_few d_few ["people", "way", "graph", "goal"] spFewest := ⟨ok_fewest F_few B c_meeting, PySem.W.mg_of X G n_few, F_few.kp, b_few⟩
  have c_box : Cal l.prog w K mg base 1 "_law_box" f_box d_box ["_law_script", "_law_k"] (spBox K) := ⟨ok_box F_box B, PySem.W.mg_of X G n_box, F_box.kp, b_box⟩
  have c_take : Cal l.prog w K mg base 1 "_law_take" f_take d_take ["_law_box_here", "_law_span"] spTake := ⟨ok_take F_take B, PySem.W.mg_of X G n_take, F_take.kp, b_take⟩
  have c_of_ : Cal l.prog w K mg base 2 "_law_of" f_of_ d_of_ ["_law_box_here", "_law_some"] spOf := ⟨ok_of F_of_ B c_take, PySem.W.mg_of X G n_of_, F_of_.kp, b_of_⟩
  have c_tree : Cal l.prog w K mg base 2 "_law_tree" f_tree d_tree ["_law_box_here", "_law_crowd", "_law_more"] spTree := ⟨ok_tree F_tree B c_take, PySem.W.mg_of X G n_tree, F_tree.kp, b_tree⟩
  have c_may : Cal l.prog w K mg base 1 "_law_may" f_may d_may ["_law_web", "_law_p", "_law_q"] spMay := ⟨ok_may F_may B, PySem.W.mg_of X G n_may, F_may.kp, b_may⟩
  have c_hasr : Cal l.prog w K mg base 2 "_law_has_ring" f_hasr d_hasr ["_law_crowd", "_law_web"] spHasRing := ⟨ok_hasRing F_hasr B c_may, PySem.W.mg_of X G n_hasr, F_hasr.kp, b_hasr⟩
  have c_right : Cal l.prog w K mg base 8 "_law_right" f_right d_right ["_law_box_here"] spRight := ⟨ok_right F_right B ⟨⟨_, _, c_take⟩, ⟨_, _, c_of_⟩, ⟨_, _, c_tree⟩, ⟨_, _, c_hasr⟩, ⟨_, _, c_meeting⟩, ⟨_, _, c_few⟩, ⟨_, _, c_rea⟩, ⟨_, _, c_aga⟩⟩, PySem.W.mg_of X G n_right, F_right.kp, b_right⟩
  exact ok_law F_law B c_box c_right
end K74


open PySem PySem.W PyProof.Rows in
set_option maxRecDepth 100000 in
set_option maxHeartbeats 0 in
theorem PySem.Challenge.cw_hiddenforks_k74_whole_everybody_holds : PySem.Challenge.rw_hiddenforks_k74_whole_everybody.Holds := by
  w_on; o_law; k_head; (case hw => w_witness2)
  k_fill
  refine L2.walk_of (l := PySem.Challenge.rw_hiddenforks_k74_whole_everybody) (n := 63) (k := 9) (x := "_law_script") (CX := fun _ => L2.CX0) (sp := fun w => K74.spLaw _) rfl (by decide) rfl ⟨rfl, by decide, by decide⟩ (fun w h Y => PySem.W.kIn_of Y) ?F (fun _ _ a ns hl _ hS => ⟨a, ns, rfl, hS, hl, fun _ => rfl⟩) (fun _ _ _ _ _ h => h)
  case F =>
    intro w mg fa h KX G hmg
    refine' K74.all_mk KX G hmg ?z_meet ?z_some ⟨⟨_, _, ?a_asT, L2.fun_mk ?l_asT ?c_asT ?k_asT⟩, ⟨_, _, ?a_known, L2.fun_mk ?l_known ?c_known ?k_known⟩, ⟨_, _, ?a_pairs, L2.fun_mk ?l_pairs ?c_pairs ?k_pairs⟩, ⟨_, _, ?a_has, L2.fun_mk ?l_has ?c_has ?k_has⟩, ⟨_, _, ?a_aga, L2.fun_mk ?l_aga ?c_aga ?k_aga⟩, ⟨_, _, ?a_rea, L2.fun_mk ?l_rea ?c_rea ?k_rea⟩, ⟨_, _, ?a_meeting, L2.fun_mk ?l_meeting ?c_meeting ?k_meeting⟩, ⟨_, _, ?a_few, L2.fun_mk ?l_few ?c_few ?k_few⟩, ⟨_, _, ?a_box, L2.fun_mk ?l_box ?c_box ?k_box⟩, ⟨_, _, ?a_take, L2.fun_mk ?l_take ?c_take ?k_take⟩, ⟨_, _, ?a_of_, L2.fun_mk ?l_of_ ?c_of_ ?k_of_⟩, ⟨_, _, ?a_tree, L2.fun_mk ?l_tree ?c_tree ?k_tree⟩, ⟨_, _, ?a_may, L2.fun_mk ?l_may ?c_may ?k_may⟩, ⟨_, _, ?a_hasr, L2.fun_mk ?l_hasr ?c_hasr ?k_hasr⟩, ⟨_, _, ?a_right, L2.fun_mk ?l_right ?c_right ?k_right⟩, ⟨_, _, ?a_law, L2.fun_mk ?l_law ?c_law ?k_law⟩, ⟨_, ?aC, ⟨?pg, ?hd, ?po, ?sa, ?mk, ?kc, ?n1, ?n2, ?n3, ⟨_, _, ?ma_init, ?mi_init, L2.fun_mk ?ml_init ?mc_init ?mk_init⟩, ⟨_, _, ?ma_nexts, ?mi_nexts, L2.fun_mk ?ml_nexts ?mc_nexts ?mk_nexts⟩, ⟨_, _, ?ma_backs, ?mi_backs, L2.fun_mk ?ml_backs ?mc_backs ?mk_backs⟩, ⟨_, _, ?ma_forest, ?mi_forest, L2.fun_mk ?ml_forest ?mc_forest ?mk_forest⟩, ⟨_, _, ?ma_inward, ?mi_inward, L2.fun_mk ?ml_inward ?mc_inward ?mk_inward⟩, ⟨_, _, ?ma_ring, ?mi_ring, L2.fun_mk ?ml_ring ?mc_ring ?mk_ring⟩, ⟨_, _, ?ma_metAll, ?mi_metAll, L2.fun_mk ?ml_metAll ?mc_metAll ?mk_metAll⟩, ⟨_, _, ?ma_plan, ?mi_plan, L2.fun_mk ?ml_plan ?mc_plan ?mk_plan⟩⟩⟩, ?z_list_, ?z_tuple_, ?z_isi, ?z_range_, ?z_sorted_, ?z_set_, ?z_len_, ?z_enum_, ?z_min_, ?z_max_, ?z_int_, ?z_abs_, ?z_all_⟩
    (case a_asT => k_is)
    (case l_asT => k_is)
    (case c_asT => k_is)
    (case k_asT => k_is)
    (case a_known => k_is)
    (case l_known => k_is)
    (case c_known => k_is)
    (case k_known => k_is)
    (case a_pairs => k_is)
    (case l_pairs => k_is)
    (case c_pairs => k_is)
    (case k_pairs => k_is)
    (case a_has => k_is)
    (case l_has => k_is)
    (case c_has => k_is)
    (case k_has => k_is)
    (case a_aga => k_is)
    (case l_aga => k_is)
    (case c_aga => k_is)
    (case k_aga => k_is)
    (case a_rea => k_is)
    (case l_rea => k_is)
    (case c_rea => k_is)
    (case k_rea => k_is)
    (case a_meeting => k_is)
    (case l_meeting => k_is)
    (case c_meeting => k_is)
    (case k_meeting => k_is)
    (case a_few => k_is)
    (case l_few => k_is)
    (case c_few => k_is)
    (case k_few => k_is)
    (case a_box => k_is)
    (case l_box => k_is)
    (case c_box => k_is)
    (case k_box => k_is)
    (case a_take => k_is)
    (case l_take => k_is)
    (case c_take => k_is)
    (case k_take => k_is)
    (case a_of_ => k_is)
    (case l_of_ => k_is)
    (case c_of_ => k_is)
    (case k_of_ => k_is)
    (case a_tree => k_is)
    (case l_tree => k_is)
    (case c_tree => k_is)
    (case k_tree => k_is)
    (case a_may => k_is)
    (case l_may => k_is)
    (case c_may => k_is)
    (case k_may => k_is)
    (case a_hasr => k_is)
    (case l_hasr => k_is)
    (case c_hasr => k_is)
    (case k_hasr => k_is)
    (case a_right => k_is)
    (case l_right => k_is)
    (case c_right => k_is)
    (case k_right => k_is)
    (case a_law => k_is)
    (case l_law => k_is)
    (case c_law => k_is)
    (case k_law => k_is)
    (case aC => k_is)
    (case pg => k_is)
    (case hd => k_is)
    (case po => k_is)
    (case sa => k_is)
    (case mk => k_is)
    (case kc => k_is)
    (case n1 => k_is)
    (case n2 => k_is)
    (case n3 => k_is)
    (case ma_init => k_is)
    (case mi_init => k_is)
    (case ml_init => k_is)
    (case mc_init => k_is)
    (case mk_init => k_is)
    (case ma_nexts => k_is)
    (case mi_nexts => k_is)
    (case ml_nexts => k_is)
    (case mc_nexts => k_is)
    (case mk_nexts => k_is)
    (case ma_backs => k_is)
    (case mi_backs => k_is)
    (case ml_backs => k_is)
    (case mc_backs => k_is)
    (case mk_backs => k_is)
    (case ma_forest => k_is)
    (case mi_forest => k_is)
    (case ml_forest => k_is)
    (case mc_forest => k_is)
    (case mk_forest => k_is)
    (case ma_inward => k_is)
    (case mi_inward => k_is)
    (case ml_inward => k_is)
    (case mc_inward => k_is)
    (case mk_inward => k_is)
    (case ma_ring => k_is)
    (case mi_ring => k_is)
    (case ml_ring => k_is)
    (case mc_ring => k_is)
    (case mk_ring => k_is)
    (case ma_metAll => k_is)
    (case mi_metAll => k_is)
    (case ml_metAll => k_is)
    (case mc_metAll => k_is)
    (case mk_metAll => k_is)
    (case ma_plan => k_is)
    (case mi_plan => k_is)
    (case ml_plan => k_is)
    (case mc_plan => k_is)
    (case mk_plan => k_is)
    (case z_meet => k_is)
    (case z_some => k_is)
    (case z_list_ => k_is)
    (case z_tuple_ => k_is)
    (case z_isi => k_is)
    (case z_range_ => k_is)
    (case z_sorted_ => k_is)
    (case z_set_ => k_is)
    (case z_len_ => k_is)
    (case z_enum_ => k_is)
    (case z_min_ => k_is)
    (case z_max_ => k_is)
    (case z_int_ => k_is)
    (case z_abs_ => k_is)
    (case z_all_ => k_is)


