import PyProof.Rows.All
import Wide.All
import OpenK.AllK
import Wide.FinOn
import PyProof.EqAt
import PyProof.EqKinds
import PyProof.TupleCall
import HandS.ForMost
import HandS.ForExc
import HandS.Evl
import HandS.Conv
import HandS.IsInst
import HandS.Strs
import HandS.SetFor
import HandS.Style
import HandS.Flow
import HandS.Zip
import HandS.EndBits
import PySem.Challenge.RW_changeback_k03_whole_great
set_option linter.all false
/-! The mathematics: coins, walks in a strip, the fewest coins. Plain Lean. -/
namespace Chg

/-- a step: a coin given or back -/
def Stp (cs : List Int) (s : Int) : Prop := s ∈ cs ∨ -s ∈ cs
theorem Stp.neg {cs : List Int} {s : Int} (h : Stp cs s) : Stp cs (-s) := by
  rcases h with h | h
  · right; simpa using h
  · left; exact h
/-- k coins, given or back, come to t -/
def Reach (cs : List Int) (k : Nat) (t : Int) : Prop := ∃ l : List Int, l.length = k ∧ (∀ s ∈ l, Stp cs s) ∧ l.sum = t
/-- a walk of k steps from p to t, each place behind a step in [lo, hi) -/
def Walk (cs : List Int) (lo hi : Int) : Nat → Int → Int → Prop
  | 0, p, t => p = t
  | k + 1, p, t => ∃ s, Stp cs s ∧ lo ≤ p + s ∧ p + s < hi ∧ Walk cs lo hi k (p + s) t

theorem Walk.snoc {cs : List Int} {lo hi : Int} : ∀ {k : Nat} {p t s : Int}, Walk cs lo hi k p t → Stp cs s → lo ≤ t + s → t + s < hi → Walk cs lo hi (k + 1) p (t + s)
  | 0, p, t, s, h, hs, h1, h2 => by
    cases h
    exact ⟨s, hs, h1, h2, rfl⟩
  | k + 1, p, t, s, ⟨s', h', a, b, w⟩, hs, h1, h2 => ⟨s', h', a, b, Walk.snoc w hs h1 h2⟩
theorem Walk.unsnoc {cs : List Int} {lo hi : Int} : ∀ {k : Nat} {p t : Int}, Walk cs lo hi (k + 1) p t → ∃ s, Stp cs s ∧ lo ≤ t ∧ t < hi ∧ Walk cs lo hi k p (t - s)
  | 0, p, t, ⟨s, hs, a, b, w⟩ => by
    have w' : p + s = t := w
    exact ⟨s, hs, by omega, by omega, by show p = t - s; omega⟩
  | k + 1, p, t, ⟨s, hs, a, b, w⟩ => by
    obtain ⟨s2, h2, a2, b2, w2⟩ := Walk.unsnoc w
    exact ⟨s2, h2, a2, b2, s, hs, a, b, w2⟩
theorem Walk.reach {cs : List Int} {lo hi : Int} : ∀ {k : Nat} {p t : Int}, Walk cs lo hi k p t → Reach cs k (t - p)
  | 0, p, t, h => by
    cases h
    exact ⟨[], rfl, by simp, by simp⟩
  | k + 1, p, t, ⟨s, hs, a, b, w⟩ => by
    obtain ⟨l, h1, h2, h3⟩ := Walk.reach w
    refine ⟨s :: l, by simp [h1], ?_, ?_⟩
    · intro x hx
      rcases List.mem_cons.mp hx with rfl | hx
      · exact hs
      · exact h2 x hx
    · rw [List.sum_cons, h3]; omega
theorem sum_erase {l : List Int} {s : Int} (h : s ∈ l) : l.sum = s + (l.erase s).sum := by
  induction l with
  | nil => cases h
  | cons x r ih =>
    by_cases e : x = s
    · subst e; simp
    · rw [List.erase_cons_tail (by simpa using e)]
      have : s ∈ r := by
        rcases List.mem_cons.mp h with h | h
        · exact absurd h.symm e
        · exact h
      have := ih this
      simp only [List.sum_cons]
      omega
theorem sum_nonneg_of {l : List Int} (h : ∀ s ∈ l, 0 ≤ s) : 0 ≤ l.sum := by
  induction l with
  | nil => simp
  | cons x r ih =>
    have := ih (fun s hs => h s (List.mem_cons_of_mem _ hs))
    have := h x List.mem_cons_self
    simp only [List.sum_cons]; omega
theorem sum_nonpos_of {l : List Int} (h : ∀ s ∈ l, s ≤ 0) : l.sum ≤ 0 := by
  induction l with
  | nil => simp
  | cons x r ih =>
    have := ih (fun s hs => h s (List.mem_cons_of_mem _ hs))
    have := h x List.mem_cons_self
    simp only [List.sum_cons]; omega
theorem len_erase {l : List Int} {s : Int} {k : Nat} (h : s ∈ l) (hl : l.length = k + 1) : (l.erase s).length = k := by
  rw [List.length_erase_of_mem h]; omega
/-- steps can be put in such a turn that the strip is never left -/
theorem walk_of_steps {cs : List Int} {lo hi z : Int} (hc : ∀ w ∈ cs, 0 < w ∧ w ≤ z - lo ∧ w ≤ hi - z) : ∀ (k : Nat) (l : List Int) (p t : Int), l.length = k → (∀ s ∈ l, Stp cs s) → p + l.sum = t →
    lo ≤ p → p < hi → lo ≤ t → t < hi → Walk cs lo hi k p t
  | 0, l, p, t, hl, hs, e, _, _, _, _ => by
    have : l = [] := List.length_eq_zero_iff.mp hl
    subst this
    show p = t
    simpa using e
  | k + 1, l, p, t, hl, hs, e, h1, h2, h3, h4 => by
    have pos : ∀ s, Stp cs s → s ≠ 0 ∧ s ≤ z - lo ∧ -s ≤ z - lo ∧ s ≤ hi - z := fun s h => by
      rcases h with h | h
      · have := hc s h; omega
      · have := hc (-s) h; omega
    have take : ∀ s ∈ l, lo ≤ p + s → p + s < hi → Walk cs lo hi (k + 1) p t := fun s hm a b => by
      have e2 := sum_erase hm
      refine ⟨s, hs s hm, a, b, walk_of_steps hc k (l.erase s) (p + s) t (len_erase hm hl) (fun x hx => hs x (List.mem_of_mem_erase hx)) (by omega) a b h3 h4⟩
    have ne : ∃ s, s ∈ l := by
      cases l with
      | nil => simp at hl
      | cons x r => exact ⟨x, List.mem_cons_self⟩
    by_cases hp : z ≤ p
    · by_cases hn : ∃ s ∈ l, s < 0
      · obtain ⟨s, hm, hlt⟩ := hn
        have := pos s (hs s hm)
        exact take s hm (by omega) (by omega)
      · obtain ⟨s, hm⟩ := ne
        have hall : ∀ s ∈ l, 0 ≤ s := fun s hm => Int.not_lt.mp fun h => hn ⟨s, hm, h⟩
        have e2 := sum_erase hm
        have := sum_nonneg_of (l := l.erase s) fun x hx => hall x (List.mem_of_mem_erase hx)
        have := hall s hm
        exact take s hm (by omega) (by omega)
    · by_cases hn : ∃ s ∈ l, 0 < s
      · obtain ⟨s, hm, hlt⟩ := hn
        have := pos s (hs s hm)
        exact take s hm (by omega) (by omega)
      · obtain ⟨s, hm⟩ := ne
        have hall : ∀ s ∈ l, s ≤ 0 := fun s hm => Int.not_lt.mp fun h => hn ⟨s, hm, h⟩
        have e2 := sum_erase hm
        have := sum_nonpos_of (l := l.erase s) fun x hx => hall x (List.mem_of_mem_erase hx)
        have := hall s hm
        exact take s hm (by omega) (by omega)
theorem walk_iff {cs : List Int} {lo hi z : Int} (hc : ∀ w ∈ cs, 0 < w ∧ w ≤ z - lo ∧ w ≤ hi - z) {k : Nat} {t : Int} (hz : lo ≤ z ∧ z < hi) (ht : lo ≤ t ∧ t < hi) : Walk cs lo hi k z t ↔ Reach cs k (t - z) := by
  refine ⟨Walk.reach, fun ⟨l, h1, h2, h3⟩ => ?_⟩
  exact walk_of_steps hc k l z t h1 h2 (by omega) hz.1 hz.2 ht.1 ht.2

/-! ### reach -/
theorem Reach.add {cs : List Int} {k m : Nat} {t u : Int} : Reach cs k t → Reach cs m u → Reach cs (k + m) (t + u) := by
  rintro ⟨l, a, b, c⟩ ⟨l', a', b', c'⟩
  refine ⟨l ++ l', by simp [a, a'], ?_, by simp [c, c']⟩
  intro s hs
  rcases List.mem_append.mp hs with h | h
  · exact b s h
  · exact b' s h
theorem Reach.neg {cs : List Int} {k : Nat} {t : Int} : Reach cs k t → Reach cs k (-t) := by
  rintro ⟨l, a, b, c⟩
  refine ⟨l.map (- ·), by simp [a], ?_, ?_⟩
  · intro s hs
    obtain ⟨x, hx, rfl⟩ := List.mem_map.mp hs
    exact (b x hx).neg
  · rw [← c]
    clear a b c
    induction l with
    | nil => simp
    | cons x r ih => simp only [List.map_cons, List.sum_cons, ih]; omega
theorem reach_zero {cs : List Int} : Reach cs 0 0 := ⟨[], rfl, by simp, rfl⟩
theorem reach_coin {cs : List Int} {w : Int} (h : w ∈ cs) : Reach cs 1 w := ⟨[w], rfl, by simp; exact Or.inl h, by simp⟩
theorem reach_step {cs : List Int} {w : Int} (h : Stp cs w) : Reach cs 1 w := ⟨[w], rfl, by simp; exact h, by simp⟩
theorem Reach.mul {cs : List Int} {w : Int} (h : Stp cs w) : ∀ k : Nat, Reach cs k (k * w)
  | 0 => by simpa using reach_zero
  | k + 1 => by
    have := (Reach.mul h k).add (reach_step h)
    have e : ((k + 1 : Nat) : Int) * w = k * w + w := by rw [Int.natCast_add, Int.add_mul]; simp
    rw [e]; exact this
theorem Reach.sub {cs cs' : List Int} {k : Nat} {t : Int} (hs : ∀ w ∈ cs, w ∈ cs') : Reach cs k t → Reach cs' k t := by
  rintro ⟨l, a, b, c⟩
  refine ⟨l, a, fun s h => ?_, c⟩
  rcases b s h with z | z
  · exact Or.inl (hs _ z)
  · exact Or.inr (hs _ z)
/-- some coins come to it -/
def Can (cs : List Int) (t : Int) : Prop := ∃ k, Reach cs k t
theorem Can.add {cs : List Int} {t u : Int} : Can cs t → Can cs u → Can cs (t + u) := fun ⟨k, h⟩ ⟨m, h'⟩ => ⟨k + m, h.add h'⟩
theorem Can.neg {cs : List Int} {t : Int} : Can cs t → Can cs (-t) := fun ⟨k, h⟩ => ⟨k, h.neg⟩
theorem Can.nmul {cs : List Int} {t : Int} (h : Can cs t) : ∀ k : Nat, Can cs (k * t)
  | 0 => by
    have e : ((0 : Nat) : Int) * t = 0 := by simp
    rw [e]; exact ⟨0, reach_zero⟩
  | k + 1 => by
    have e : ((k + 1 : Nat) : Int) * t = k * t + t := by rw [Int.natCast_add, Int.add_mul]; simp
    rw [e]; exact (h.nmul k).add h
theorem Can.mul {cs : List Int} {t : Int} (h : Can cs t) (k : Int) : Can cs (k * t) := by
  rcases Int.lt_or_le k 0 with hk | hk
  · have := (h.nmul (-k).toNat).neg
    have e : ((-k).toNat : Int) = -k := by omega
    rw [e] at this
    have e2 : -(-k * t) = k * t := by rw [Int.neg_mul, Int.neg_neg]
    rw [e2] at this; exact this
  · have := h.nmul k.toNat
    have e : (k.toNat : Int) = k := by omega
    rw [e] at this; exact this
theorem Can.gcd {cs : List Int} : ∀ (m n : Nat), Can cs m → Can cs n → Can cs (Nat.gcd m n : Nat) := by
  intro m n
  induction m, n using Nat.gcd.induction with
  | H0 n => intro _ h; simpa using h
  | H1 m n hm ih =>
    intro h1 h2
    rw [Nat.gcd_rec]
    refine ih ?_ h1
    have := h2.add (h1.mul (-((n / m : Nat) : Int)))
    have e : (n : Int) + -((n / m : Nat) : Int) * (m : Int) = ((n % m : Nat) : Int) := by
      have := Nat.div_add_mod n m
      have e2 : ((m * (n / m) : Nat) : Int) + ((n % m : Nat) : Int) = n := by rw [← Int.natCast_add, this]
      rw [Int.natCast_mul] at e2
      rw [Int.neg_mul, Int.mul_comm]
      omega
    rw [e] at this; exact this

/-- the fewest -/
theorem least {P : Nat → Prop} : ∀ k, P k → ∃ m, m ≤ k ∧ P m ∧ ∀ j, j < m → ¬ P j := by
  intro k
  induction k using Nat.strongRecOn with
  | _ k ih =>
    intro h
    by_cases hx : ∃ j, j < k ∧ P j
    · obtain ⟨j, hj, pj⟩ := hx
      obtain ⟨m, a, b, c⟩ := ih j hj pj
      exact ⟨m, by omega, b, c⟩
    · exact ⟨k, Nat.le_refl _, h, fun j hj pj => hx ⟨j, hj, pj⟩⟩
/-- k is the least with P -/
def Least (P : Nat → Prop) (k : Nat) : Prop := P k ∧ ∀ j, j < k → ¬ P j
theorem Least.uniq {P : Nat → Prop} {a b : Nat} (h : Least P a) (h' : Least P b) : a = b := by
  rcases Nat.lt_trichotomy a b with z | z | z
  · exact absurd h.1 (h'.2 a z)
  · exact z
  · exact absurd h'.1 (h.2 b z)
open Classical in
/-- the least number with P, or -1 -/
noncomputable def leastI (P : Nat → Prop) : Int := if h : ∃ k, P k then ((Classical.choose (least (P := P) (Classical.choose h) (Classical.choose_spec h)) : Nat) : Int) else -1
theorem leastI_none {P : Nat → Prop} (h : ∀ k, ¬ P k) : leastI P = -1 := by
  unfold leastI
  rw [dif_neg (fun ⟨k, hk⟩ => h k hk)]
theorem leastI_some {P : Nat → Prop} {k : Nat} (h : Least P k) : leastI P = k := by
  unfold leastI
  have hx : ∃ k, P k := ⟨k, h.1⟩
  rw [dif_pos hx]
  have sp := Classical.choose_spec (least (P := P) (Classical.choose hx) (Classical.choose_spec hx))
  exact congrArg Int.ofNat (Least.uniq ⟨sp.2.1, sp.2.2⟩ h)
theorem leastI_iff {P Q : Nat → Prop} (h : ∀ k, P k ↔ Q k) : leastI P = leastI Q := by
  have : P = Q := funext fun k => propext (h k)
  rw [this]
theorem leastI_cases (P : Nat → Prop) : (leastI P = -1 ∧ ∀ k, ¬ P k) ∨ ∃ k : Nat, leastI P = k ∧ Least P k := by
  by_cases h : ∃ k, P k
  · obtain ⟨k, hk⟩ := h
    obtain ⟨m, _, a, b⟩ := least k hk
    exact .inr ⟨m, leastI_some ⟨a, b⟩, a, b⟩
  · have h' : ∀ k, ¬ P k := fun k hk => h ⟨k, hk⟩
    exact .inl ⟨leastI_none h', h'⟩
/-- the fewest coins that come to t (-1: none do) -/
noncomputable def few (cs : List Int) (t : Int) : Int := leastI fun k => Reach cs k t
end Chg

set_option linter.all false
namespace Chg
/-! ### the greatest number that goes into all -/
def gc (cs : List Int) : Int := cs.foldl (fun a w => (Int.gcd a w : Int)) 0
theorem gc_dvd_aux (cs : List Int) : ∀ a : Int, cs.foldl (fun a w => (Int.gcd a w : Int)) a ∣ a ∧ ∀ w ∈ cs, cs.foldl (fun a w => (Int.gcd a w : Int)) a ∣ w := by
  induction cs with
  | nil => intro a; simp
  | cons x r ih =>
    intro a
    rw [List.foldl_cons]
    obtain ⟨h1, h2⟩ := ih (Int.gcd a x)
    refine ⟨Int.dvd_trans h1 (Int.gcd_dvd_left _ _), fun w hw => ?_⟩
    rcases List.mem_cons.mp hw with rfl | hw
    · exact Int.dvd_trans h1 (Int.gcd_dvd_right _ _)
    · exact h2 w hw
theorem gc_dvd {cs : List Int} {w : Int} (h : w ∈ cs) : gc cs ∣ w := (gc_dvd_aux cs 0).2 w h
theorem gc_great_aux {d : Int} (cs : List Int) : ∀ a : Int, d ∣ a → (∀ w ∈ cs, d ∣ w) → d ∣ cs.foldl (fun a w => (Int.gcd a w : Int)) a := by
  induction cs with
  | nil => intro a h _; simpa using h
  | cons x r ih =>
    intro a h hs
    rw [List.foldl_cons]
    exact ih _ (Int.dvd_coe_gcd h (hs x List.mem_cons_self)) fun w hw => hs w (List.mem_cons_of_mem _ hw)
theorem gc_great {d : Int} {cs : List Int} (h : ∀ w ∈ cs, d ∣ w) : d ∣ gc cs := gc_great_aux cs 0 (Int.dvd_zero d) h
theorem gc_nonneg_aux (cs : List Int) : ∀ a : Int, 0 ≤ a → 0 ≤ cs.foldl (fun a w => (Int.gcd a w : Int)) a := by
  induction cs with
  | nil => intro a h; simpa using h
  | cons x r ih => intro a h; rw [List.foldl_cons]; exact ih _ (by omega)
theorem gc_nonneg (cs : List Int) : 0 ≤ gc cs := gc_nonneg_aux cs 0 (by omega)
theorem gc_pos {cs : List Int} {w : Int} (h : w ∈ cs) (hw : 0 < w) : 0 < gc cs := by
  have h1 := gc_nonneg cs
  have h2 := gc_dvd h
  rcases Int.lt_or_eq_of_le h1 with z | z
  · exact z
  · rw [← z] at h2
    have := Int.zero_dvd.mp h2
    omega
theorem can_gc_aux {cs0 : List Int} (cs : List Int) : ∀ a : Int, 0 ≤ a → Can cs0 a → (∀ w ∈ cs, Can cs0 w ∧ 0 ≤ w) → Can cs0 (cs.foldl (fun a w => (Int.gcd a w : Int)) a) := by
  induction cs with
  | nil => intro a _ h _; simpa using h
  | cons x r ih =>
    intro a ha h hs
    rw [List.foldl_cons]
    refine ih _ (by omega) ?_ fun w hw => hs w (List.mem_cons_of_mem _ hw)
    obtain ⟨hx, hx0⟩ := hs x List.mem_cons_self
    have := Can.gcd a.toNat x.toNat (by rw [show ((a.toNat : Nat) : Int) = a by omega]; exact h) (by rw [show ((x.toNat : Nat) : Int) = x by omega]; exact hx)
    have e : Nat.gcd a.toNat x.toNat = Int.gcd a x := by
      unfold Int.gcd
      rw [show a.natAbs = a.toNat by omega, show x.natAbs = x.toNat by omega]
    rw [e] at this
    exact this
theorem can_gc {cs : List Int} (h : ∀ w ∈ cs, 0 < w) : Can cs (gc cs) :=
  can_gc_aux cs 0 (by omega) ⟨0, reach_zero⟩ fun w hw => ⟨⟨1, reach_coin hw⟩, by have := h w hw; omega⟩
theorem dvd_sum {d : Int} {l : List Int} (h : ∀ s ∈ l, d ∣ s) : d ∣ l.sum := by
  induction l with
  | nil => simp
  | cons x r ih =>
    rw [List.sum_cons]
    exact Int.dvd_add (h x List.mem_cons_self) (ih fun s hs => h s (List.mem_cons_of_mem _ hs))
theorem can_iff {cs : List Int} (h : ∀ w ∈ cs, 0 < w) {t : Int} : Can cs t ↔ gc cs ∣ t := by
  refine ⟨fun ⟨k, l, _, b, c⟩ => ?_, fun ⟨m, e⟩ => ?_⟩
  · rw [← c]
    refine dvd_sum fun s hs => ?_
    rcases b s hs with z | z
    · exact gc_dvd z
    · exact (Int.dvd_neg).mp (gc_dvd z)
  · have := (can_gc h).mul m
    rw [e, Int.mul_comm]; exact this
/-- the loop of common -/
theorem gcd_step {a b : Int} (ha : 0 ≤ a) (hb : 0 < b) : Int.gcd b (a % b) = Int.gcd a b := by
  rw [Int.gcd_comm b]; unfold Int.gcd; rw [show (a % b).natAbs = a.natAbs % b.natAbs by rw [Int.natAbs_emod_of_nonneg ha]]; rw [← Nat.gcd_rec, Nat.gcd_comm]

/-! ### the queue -/
/-- the entry at a place -/
def ent (F : List Int) (x : Int) : Int := F.getD x.toNat 0
theorem ent_set_same {F : List Int} {x v : Int} (h0 : 0 ≤ x) (h : x < F.length) : ent (F.set x.toNat v) x = v := by
  unfold ent
  rw [List.getD_eq_getElem?_getD, List.getElem?_set_self (by omega)]; rfl
theorem ent_set_ne {F : List Int} {x y v : Int} (h0 : 0 ≤ x) (h1 : 0 ≤ y) (h : x ≠ y) : ent (F.set x.toNat v) y = ent F y := by
  unfold ent
  rw [List.getD_eq_getElem?_getD, List.getD_eq_getElem?_getD, List.getElem?_set_ne (by omega)]
/-- one neighbour looked at -/
def visit (here : Int) (st : List Int × List Int) (there : Int) : List Int × List Int :=
  if 0 ≤ there ∧ there < st.1.length ∧ ent st.1 there < 0 then (st.1.set there.toNat (ent st.1 here + 1), st.2 ++ [there]) else st
/-- how many entries are below 0 -/
def negs (F : List Int) : Nat := F.countP fun x => decide (x < 0)
theorem negs_set : ∀ {F : List Int} {i : Nat} {v : Int}, i < F.length → F.getD i 0 < 0 → 0 ≤ v → negs (F.set i v) + 1 = negs F
  | [], i, v, h, _, _ => by simp at h
  | x :: r, 0, v, h, h1, h2 => by
    have h1' : x < 0 := h1
    unfold negs
    rw [List.set_cons_zero, List.countP_cons, List.countP_cons]
    simp [h1', show ¬ v < 0 by omega]
  | x :: r, i + 1, v, h, h1, h2 => by
    have := negs_set (F := r) (i := i) (v := v) (by simpa using h) (by simpa using h1) h2
    unfold negs at *
    rw [List.set_cons_succ, List.countP_cons, List.countP_cons]
    omega
structure Bst (cs : List Int) (n g : Int) (F : List Int) : Prop where
  len : (F.length : Int) = n
  low : ∀ j, 0 ≤ j → j < n → -1 ≤ ent F j
  zero : ent F g = 0
  walk : ∀ j, 0 ≤ j → j < n → 0 ≤ ent F j → Walk cs 0 n (ent F j).toNat g j
/-- between two turns of the while -/
structure Bq (cs : List Int) (n g : Int) (F T : List Int) : Prop extends Bst cs n g F where
  turn : ∀ x ∈ T, 0 ≤ x ∧ x < n ∧ 0 ≤ ent F x
  srt : T.Pairwise fun x y => ent F x ≤ ent F y
  top : ∀ x ∈ T, ∀ j, 0 ≤ j → j < n → ent F j ≤ ent F x + 1
  done : ∀ j, 0 ≤ j → j < n → 0 ≤ ent F j → j ∉ T → ∀ s, Stp cs s → 0 ≤ j + s → j + s < n → 0 ≤ ent F (j + s) ∧ ent F (j + s) ≤ ent F j + 1
/-- while here's neighbours are looked at; S: the steps gone -/
structure Be (cs : List Int) (n g here d : Int) (S : Int → Prop) (F T : List Int) : Prop extends Bst cs n g F where
  h0 : 0 ≤ here
  hn : here < n
  hd : ent F here = d
  d0 : 0 ≤ d
  turn : ∀ x ∈ T, 0 ≤ x ∧ x < n ∧ d ≤ ent F x
  srt : T.Pairwise fun x y => ent F x ≤ ent F y
  top : ∀ j, 0 ≤ j → j < n → ent F j ≤ d + 1
  done : ∀ j, 0 ≤ j → j < n → j ≠ here → 0 ≤ ent F j → j ∉ T → ∀ s, Stp cs s → 0 ≤ j + s → j + s < n → 0 ≤ ent F (j + s) ∧ ent F (j + s) ≤ ent F j + 1
  mine : ∀ s, S s → 0 ≤ here + s → here + s < n → 0 ≤ ent F (here + s)
theorem Bq.pop {cs : List Int} {n g here : Int} {F T : List Int} (h : Bq cs n g F (here :: T)) : Be cs n g here (ent F here) (fun _ => False) F T where
  toBst := h.toBst
  h0 := (h.turn here List.mem_cons_self).1
  hn := (h.turn here List.mem_cons_self).2.1
  hd := rfl
  d0 := (h.turn here List.mem_cons_self).2.2
  turn := fun x hx => ⟨(h.turn x (List.mem_cons_of_mem _ hx)).1, (h.turn x (List.mem_cons_of_mem _ hx)).2.1, (List.pairwise_cons.mp h.srt).1 x hx⟩
  srt := (List.pairwise_cons.mp h.srt).2
  top := h.top here List.mem_cons_self
  done := fun j a b hj c d => h.done j a b c (by
    intro hm
    rcases List.mem_cons.mp hm with z | z
    · exact hj z
    · exact d z)
  mine := fun _ z => z.elim
theorem Be.fin {cs : List Int} {n g here d : Int} {S : Int → Prop} {F T : List Int} (h : Be cs n g here d S F T) (hS : ∀ s, Stp cs s → S s) : Bq cs n g F T where
  toBst := h.toBst
  turn := fun x hx => ⟨(h.turn x hx).1, (h.turn x hx).2.1, by have := (h.turn x hx).2.2; have := h.d0; omega⟩
  srt := h.srt
  top := fun x hx j a b => by have := h.top j a b; have := (h.turn x hx).2.2; omega
  done := fun j a b c e s hs h1 h2 => by
    by_cases hj : j = here
    · subst hj
      have := h.mine s (hS s hs) h1 h2
      have := h.top (j + s) h1 h2
      have := h.hd
      omega
    · exact h.done j a b hj c e s hs h1 h2
theorem Be.visit {cs : List Int} {n g here d s : Int} {S : Int → Prop} {F T : List Int} (h : Be cs n g here d S F T) (hs : Stp cs s) :
    Be cs n g here d (fun x => S x ∨ x = s) (visit here (F, T) (here + s)).1 (visit here (F, T) (here + s)).2 ∧
    negs (visit here (F, T) (here + s)).1 + (visit here (F, T) (here + s)).2.length = negs F + T.length := by
  unfold Chg.visit
  have hl := h.len
  split
  · rename_i c
    obtain ⟨c0, c1, c2⟩ := c
    dsimp only at c0 c1 c2 ⊢
    have hne : here + s ≠ here := by
      intro e
      rw [e, h.hd] at c2
      have := h.d0; omega
    have same : ent (F.set (here + s).toNat (ent F here + 1)) (here + s) = d + 1 := by rw [ent_set_same c0 c1, h.hd]
    have other : ∀ y, 0 ≤ y → y ≠ here + s → ent (F.set (here + s).toNat (ent F here + 1)) y = ent F y := fun y h1 h2 => ent_set_ne c0 h1 (Ne.symm h2)
    have nT : here + s ∉ T := fun hm => by
      have := (h.turn _ hm).2.2
      have := h.d0
      omega
    have keep : ∀ y, 0 ≤ y → 0 ≤ ent F y → ent (F.set (here + s).toNat (ent F here + 1)) y = ent F y := fun y h1 h2 => other y h1 (by rintro rfl; omega)
    have d0 := h.d0
    have eT : ∀ x ∈ T, ent (F.set (here + s).toNat (ent F here + 1)) x = ent F x := fun x hx => other x (h.turn x hx).1 (by rintro rfl; exact nT hx)
    refine ⟨?_, ?_⟩
    · refine { len := by rw [List.length_set]; exact hl, low := ?_, zero := ?_, walk := ?_, h0 := h.h0, hn := h.hn, hd := ?_, d0 := h.d0, turn := ?_, srt := ?_, top := ?_, done := ?_, mine := ?_ }
      · intro j a b
        by_cases e : j = here + s
        · subst e; omega
        · rw [other j a e]; exact h.low j a b
      · by_cases hg : 0 ≤ g
        · by_cases e : g = here + s
          · rw [← e, h.zero] at c2; omega
          · rw [other g hg e]; exact h.zero
        · have := h.zero
          have eg : ent F g = ent F 0 := by unfold ent; rw [show g.toNat = (0 : Int).toNat by omega]
          have eg2 : ent (F.set (here + s).toNat (ent F here + 1)) g = ent (F.set (here + s).toNat (ent F here + 1)) 0 := by unfold ent; rw [show g.toNat = (0 : Int).toNat by omega]
          rw [eg2, keep 0 (by omega) (by omega), ← eg]; exact this
      · intro j a b c
        by_cases e : j = here + s
        · subst e
          rw [same]
          have w := h.walk here h.h0 h.hn (by rw [h.hd]; exact d0)
          rw [h.hd] at w
          have e2 : (d + 1).toNat = d.toNat + 1 := by omega
          rw [e2]
          exact w.snoc hs c0 (by omega)
        · rw [other j a e] at c ⊢
          exact h.walk j a b c
      · rw [keep here h.h0 (by rw [h.hd]; exact d0)]; exact h.hd
      · intro x hx
        rcases List.mem_append.mp hx with hx | hx
        · rw [eT x hx]; exact h.turn x hx
        · have e : x = here + s := by simpa using hx
          subst e
          omega
      · rw [List.pairwise_append]
        refine ⟨?_, by simp, ?_⟩
        · exact h.srt.imp_of_mem fun {x y} hx hy q => by rw [eT x hx, eT y hy]; exact q
        · intro x hx y hy
          have e : y = here + s := by simpa using hy
          subst e
          rw [eT x hx, same]
          exact h.top x (h.turn x hx).1 (h.turn x hx).2.1
      · intro j a b
        by_cases e : j = here + s
        · subst e; omega
        · rw [other j a e]; exact h.top j a b
      · intro j a b hj c hT s' hs' h1 h2
        have hjT : j ∉ T := fun z => hT (List.mem_append_left _ z)
        have hj2 : j ≠ here + s := fun z => hT (List.mem_append_right _ (by simp [z]))
        rw [other j a hj2] at c ⊢
        have q := h.done j a b hj c hjT s' hs' h1 h2
        rw [keep (j + s') h1 q.1]
        exact q
      · intro x hx h1 h2
        rcases hx with hx | rfl
        · have := h.mine x hx h1 h2
          rw [keep _ h1 this]; exact this
        · rw [same]; omega
    · have := negs_set (F := F) (i := (here + s).toNat) (v := ent F here + 1) (by omega) c2 (by rw [h.hd]; omega)
      rw [List.length_append]
      show _ + (T.length + 1) = _
      omega
  · rename_i c
    refine ⟨{ toBst := h.toBst, h0 := h.h0, hn := h.hn, hd := h.hd, d0 := h.d0, turn := h.turn, srt := h.srt, top := h.top, done := h.done, mine := ?_ }, rfl⟩
    intro x hx h1 h2
    rcases hx with hx | rfl
    · exact h.mine x hx h1 h2
    · dsimp only at c
      by_cases q : 0 ≤ ent F (here + x)
      · exact q
      · exact absurd ⟨h1, by omega, by omega⟩ c
/-- at the end -/
theorem Bq.dist {cs : List Int} {n g : Int} {F : List Int} (h : Bq cs n g F []) (hg : 0 ≤ g ∧ g < n) : ∀ (k : Nat) (j : Int), Walk cs 0 n k g j → 0 ≤ ent F j ∧ ent F j ≤ k ∧ 0 ≤ j ∧ j < n
  | 0, j, w => by
    cases w
    rw [h.zero]; omega
  | k + 1, j, w => by
    obtain ⟨s, hs, a, b, w'⟩ := w.unsnoc
    obtain ⟨q1, q2, q3, q4⟩ := Bq.dist h hg k _ w'
    have := h.done (j - s) q3 q4 q1 (by simp) s hs (by omega) (by omega)
    have e : j - s + s = j := by omega
    rw [e] at this
    omega
/-- heights of a strip of n places, from g -/
noncomputable def hts (cs : List Int) (n g : Int) : List Int := (List.range n.toNat).map fun (j : Nat) => leastI fun k => Walk cs 0 n k g (j : Int)
theorem hts_len {cs : List Int} {n g : Int} : (hts cs n g).length = n.toNat := by unfold hts; simp
theorem hts_ent {cs : List Int} {n g j : Int} (h0 : 0 ≤ j) (h : j < n) : ent (hts cs n g) j = leastI fun k => Walk cs 0 n k g j := by
  unfold ent hts
  rw [List.getD_eq_getElem?_getD, List.getElem?_map, List.getElem?_range (by omega)]
  show leastI _ = _
  rw [show ((j.toNat : Nat) : Int) = j by omega]
theorem eq_of_ent {F G : List Int} {n : Int} (h1 : (F.length : Int) = n) (h2 : (G.length : Int) = n) (h : ∀ j, 0 ≤ j → j < n → ent F j = ent G j) : F = G := by
  refine List.ext_getElem (by omega) fun i a b => ?_
  have := h i (by omega) (by omega)
  unfold ent at this
  simpa [List.getD_eq_getElem?_getD, List.getElem?_eq_getElem a, List.getElem?_eq_getElem b] using this
theorem Bq.hts {cs : List Int} {n g : Int} {F : List Int} (h : Bq cs n g F []) (hg : 0 ≤ g ∧ g < n) : F = Chg.hts cs n g := by
  have hl := h.len
  refine eq_of_ent hl (by rw [hts_len]; omega) fun j a b => ?_
  rw [hts_ent a b]
  by_cases q : 0 ≤ ent F j
  · have w := h.walk j a b q
    have : Least (fun k => Walk cs 0 n k g j) (ent F j).toNat := ⟨w, fun k hk w' => by
      have := (h.dist hg k j w').2.1
      omega⟩
    rw [leastI_some this]; omega
  · rw [leastI_none fun k w => q (h.dist hg k j w).1]
    have := h.low j a b
    omega
theorem Bq.start {cs : List Int} {n g : Int} (hg : 0 ≤ g ∧ g < n) : Bq cs n g ((List.replicate n.toNat (-1)).set g.toNat 0) [g] := by
  have l : ((List.replicate n.toNat (-1 : Int)).length : Int) = n := by simp; omega
  have same : ent ((List.replicate n.toNat (-1)).set g.toNat 0) g = 0 := ent_set_same hg.1 (by omega)
  have other : ∀ j, 0 ≤ j → j < n → j ≠ g → ent ((List.replicate n.toNat (-1)).set g.toNat 0) j = -1 := fun j a b c => by
    rw [ent_set_ne hg.1 a (Ne.symm c)]
    unfold ent
    rw [List.getD_eq_getElem?_getD, List.getElem?_replicate_of_lt (by omega)]; rfl
  refine { len := by rw [List.length_set]; exact l, low := ?_, zero := same, walk := ?_, turn := ?_, srt := by simp, top := ?_, done := ?_ }
  · intro j a b
    by_cases e : j = g
    · subst e; omega
    · rw [other j a b e]; omega
  · intro j a b c
    by_cases e : j = g
    · subst e; rw [same]; rfl
    · rw [other j a b e] at c; omega
  · intro x hx
    have e : x = g := by simpa using hx
    subst e; omega
  · intro x hx j a b
    have e : x = g := by simpa using hx
    subst e
    by_cases e : j = x
    · subst e; omega
    · rw [other j a b e]; omega
  · intro j a b c d
    have e : j ≠ g := fun z => d (by simp [z])
    rw [other j a b e] at c; omega
end Chg

set_option linter.all false
namespace Chg
theorem few_cases (cs : List Int) (t : Int) : (few cs t = -1 ∧ ∀ k, ¬ Reach cs k t) ∨ ∃ k : Nat, few cs t = k ∧ Least (fun k => Reach cs k t) k := leastI_cases _
theorem few_of {cs : List Int} {t : Int} {k : Nat} (h : Least (fun k => Reach cs k t) k) : few cs t = k := leastI_some h
theorem few_can {cs : List Int} {t : Int} (h : Can cs t) : ∃ k : Nat, few cs t = k ∧ Least (fun k => Reach cs k t) k := by
  rcases few_cases cs t with ⟨_, z⟩ | z
  · obtain ⟨k, hk⟩ := h
    exact absurd hk (z k)
  · exact z
theorem few_le {cs : List Int} {t : Int} {k : Nat} (h : Reach cs k t) : few cs t ≤ k ∧ 0 ≤ few cs t := by
  obtain ⟨m, e, a, b⟩ := few_can ⟨k, h⟩
  rw [e]
  have : ¬ k < m := fun z => b k z h
  omega
theorem few_zero {cs : List Int} : few cs 0 = 0 := by
  have := few_le (cs := cs) reach_zero
  omega
theorem hts_few {cs : List Int} {n g a t : Int} (hc : ∀ w ∈ cs, 0 < w ∧ w ≤ g) (hg : 0 < g) (ha : 0 ≤ a) (hn : n = a + 2 * g) (h1 : -g ≤ t) (h2 : t < a + g) : ent (hts cs n g) (g + t) = few cs t := by
  rw [hts_ent (by omega) (by omega)]
  refine leastI_iff fun k => ?_
  rw [walk_iff (z := g) (fun w hw => by have := hc w hw; omega) (by omega) (by omega)]
  rw [show g + t - g = t by omega]
theorem few_add {cs : List Int} {t u : Int} (h : Can cs t) (h' : Can cs u) : few cs (t + u) ≤ few cs t + few cs u := by
  obtain ⟨k, e, a, _⟩ := few_can h
  obtain ⟨m, e', a', _⟩ := few_can h'
  have := (few_le (a.add a')).1
  omega
theorem few_sub {cs cs' : List Int} {t : Int} (hs : ∀ w ∈ cs, w ∈ cs') (h : Can cs t) : few cs' t ≤ few cs t := by
  obtain ⟨k, e, a, _⟩ := few_can h
  have := (few_le (a.sub hs)).1
  omega
theorem few_near {cs : List Int} {t g : Int} (h : Can cs t) (hg : g ∈ cs) : few cs (t + g) ≤ few cs t + 1 ∧ few cs t ≤ few cs (t + g) + 1 := by
  obtain ⟨k, e, a, _⟩ := few_can h
  have h1 := (few_le (a.add (reach_coin hg))).1
  obtain ⟨m, e', a', _⟩ := few_can (h.add ⟨1, reach_coin hg⟩)
  have h2 := (few_le (a'.add (reach_coin hg).neg)).1
  rw [show t + g + -g = t by omega] at h2
  omega
theorem sum_map_mul (c : Int) (l : List Int) : (l.map (c * ·)).sum = c * l.sum := by
  induction l with
  | nil => simp
  | cons x r ih => simp only [List.map_cons, List.sum_cons, ih, Int.mul_add]
theorem reach_times {cs : List Int} {c : Int} (hc : 0 < c) {k : Nat} {t : Int} : Reach (cs.map (c * ·)) k (c * t) ↔ Reach cs k t := by
  refine ⟨fun ⟨l, a, b, e⟩ => ?_, fun ⟨l, a, b, e⟩ => ?_⟩
  · have : ∀ s ∈ l, ∃ u, Stp cs u ∧ s = c * u := fun s hs => by
      rcases b s hs with z | z
      · obtain ⟨w, hw, e⟩ := List.mem_map.mp z
        exact ⟨w, .inl hw, e.symm⟩
      · obtain ⟨w, hw, e⟩ := List.mem_map.mp z
        exact ⟨-w, .inr (by simpa using hw), by rw [Int.mul_neg, e]; omega⟩
    have : ∃ l' : List Int, l'.length = l.length ∧ (∀ s ∈ l', Stp cs s) ∧ l = l'.map (c * ·) := by
      clear a b e
      induction l with
      | nil => exact ⟨[], rfl, by simp, rfl⟩
      | cons x r ih =>
        obtain ⟨l', h1, h2, h3⟩ := ih fun s hs => this s (List.mem_cons_of_mem _ hs)
        obtain ⟨u, hu, e⟩ := this x List.mem_cons_self
        refine ⟨u :: l', by simp [h1], ?_, by rw [e, h3]; rfl⟩
        intro s hs
        rcases List.mem_cons.mp hs with rfl | hs
        · exact hu
        · exact h2 s hs
    obtain ⟨l', h1, h2, h3⟩ := this
    refine ⟨l', by omega, h2, ?_⟩
    rw [h3, sum_map_mul] at e
    exact Int.eq_of_mul_eq_mul_left (by omega) e
  · refine ⟨l.map (c * ·), by simp [a], ?_, by rw [sum_map_mul, e]⟩
    intro s hs
    obtain ⟨u, hu, rfl⟩ := List.mem_map.mp hs
    rcases b u hu with z | z
    · exact .inl (List.mem_map.mpr ⟨u, z, rfl⟩)
    · exact .inr (List.mem_map.mpr ⟨-u, z, by rw [Int.mul_neg]⟩)
theorem few_times {cs : List Int} {c t : Int} (hc : 0 < c) : few (cs.map (c * ·)) (c * t) = few cs t := leastI_iff fun k => reach_times hc

/-! ### an amount more by the greatest worth -/
theorem pigeon : ∀ (G : Nat) (f : Nat → Nat), (∀ i, i ≤ G → f i < G) → ∃ i j, i < j ∧ j ≤ G ∧ f i = f j
  | 0, f, h => by have := h 0 (by omega); omega
  | G + 1, f, h => by
    by_cases hx : ∃ i, i ≤ G ∧ f i = f (G + 1)
    · obtain ⟨i, a, b⟩ := hx
      exact ⟨i, G + 1, by omega, by omega, b⟩
    · have hne : ∀ i, i ≤ G → f i ≠ f (G + 1) := fun i hi e => hx ⟨i, hi, e⟩
      have hv := h (G + 1) (by omega)
      obtain ⟨i, j, a, b, c⟩ := pigeon G (fun i => if f i > f (G + 1) then f i - 1 else f i) fun i hi => by
        have h1 := h i (by omega)
        have h2 := hne i hi
        split <;> omega
      refine ⟨i, j, a, by omega, ?_⟩
      have h1 := hne i (by omega)
      have h2 := hne j (by omega)
      split at c <;> split at c <;> omega
theorem sum_bound {l : List Int} {m : Int} (hm : 0 ≤ m) (h : ∀ s ∈ l, -m ≤ s ∧ s ≤ m) : -(l.length * m) ≤ l.sum ∧ l.sum ≤ l.length * m := by
  induction l with
  | nil => simp
  | cons x r ih =>
    have h1 := ih fun s hs => h s (List.mem_cons_of_mem _ hs)
    have h2 := h x List.mem_cons_self
    rw [List.sum_cons, List.length_cons, Int.natCast_add, Int.add_mul]
    simp only [Int.natCast_one, Int.one_mul]
    omega
theorem take_sum_split (L : List Int) (i j : Nat) (h : i ≤ j) : (L.take j).sum = (L.take i).sum + ((L.take j).drop i).sum := by
  have e : (L.take j).take i ++ (L.take j).drop i = L.take j := List.take_append_drop _ _
  have e2 : (L.take j).take i = L.take i := by rw [List.take_take, Nat.min_eq_left h]
  rw [e2] at e
  calc (L.take j).sum = (L.take i ++ (L.take j).drop i).sum := by rw [e]
    _ = _ := by rw [List.sum_append]
/-- among g steps some in a row come to a multiple of g -/
theorem block {g : Int} (hg : 0 < g) {L : List Int} (hL : g ≤ L.length) : ∃ a b c : List Int, L = a ++ b ++ c ∧ b ≠ [] ∧ g ∣ b.sum := by
  obtain ⟨i, j, h1, h2, h3⟩ := pigeon g.toNat (fun i => ((L.take i).sum % g).toNat) fun i _ => by
    have := Int.emod_nonneg (L.take i).sum (show g ≠ 0 by omega)
    have := Int.emod_lt_of_pos (L.take i).sum hg
    omega
  have ei : (L.take i).sum % g = (L.take j).sum % g := by
    have := Int.emod_nonneg (L.take i).sum (show g ≠ 0 by omega)
    have := Int.emod_nonneg (L.take j).sum (show g ≠ 0 by omega)
    omega
  refine ⟨L.take i, (L.take j).drop i, L.drop j, ?_, ?_, ?_⟩
  · have e1 : L.take i ++ (L.take j).drop i = L.take j := by
      have e : (L.take j).take i ++ (L.take j).drop i = L.take j := List.take_append_drop _ _
      rw [List.take_take, Nat.min_eq_left (by omega)] at e
      exact e
    rw [e1, List.take_append_drop]
  · intro e
    have : ((L.take j).drop i).length = 0 := by rw [e]; rfl
    rw [List.length_drop, List.length_take] at this
    omega
  · have := take_sum_split L i j (by omega)
    have e : ((L.take j).drop i).sum = (L.take j).sum - (L.take i).sum := by omega
    rw [e]
    exact Int.dvd_of_emod_eq_zero (by rw [Int.sub_emod, ei]; simp)
theorem part_sum (p : Int → Bool) (l : List Int) : l.sum = (l.filter p).sum + (l.filter fun x => !p x).sum ∧ l.length = (l.filter p).length + (l.filter fun x => !p x).length := by
  induction l with
  | nil => simp
  | cons x r ih =>
    obtain ⟨h1, h2⟩ := ih
    cases hp : p x
    · rw [List.filter_cons_of_neg (by simp [hp]), List.filter_cons_of_pos (by simp [hp])]
      simp only [List.sum_cons, List.length_cons]
      omega
    · rw [List.filter_cons_of_pos hp, List.filter_cons_of_neg (by simp [hp])]
      simp only [List.sum_cons, List.length_cons]
      omega
theorem mult_reach {cs : List Int} {g m : Int} (hg : g ∈ cs) : Reach cs m.natAbs (g * m) := by
  rcases Int.lt_or_le m 0 with h | h
  · have := Reach.mul (cs := cs) (w := -g) (.inr (by simpa using hg)) m.natAbs
    rw [show ((m.natAbs : Nat) : Int) = -m by omega, Int.neg_mul_neg, Int.mul_comm] at this
    exact this
  · have := Reach.mul (cs := cs) (w := g) (.inl hg) m.natAbs
    rw [show ((m.natAbs : Nat) : Int) = m by omega, Int.mul_comm] at this
    exact this
theorem great_has {cs : List Int} {g t : Int} (hc : ∀ w ∈ cs, 0 < w ∧ w ≤ g) (hg : g ∈ cs) (ht : g * g ≤ t) {l : List Int} (hs : ∀ s ∈ l, Stp cs s) (hl : l.sum = t + g)
    (hm : ∀ j, j < l.length → ¬ Reach cs j (t + g)) : g ∈ l := by
  by_cases hx : g ∈ l
  · exact hx
  have g0 := hc g hg
  exfalso
  obtain ⟨e1, e2⟩ := part_sum (fun s => decide (s ≠ -g)) l
  generalize hA : l.filter (fun s => decide (s ≠ -g)) = A at e1 e2
  generalize hB : l.filter (fun s => !decide (s ≠ -g)) = B at e1 e2
  have bA : ∀ s ∈ A, -(g - 1) ≤ s ∧ s ≤ g - 1 := fun s h => by
    rw [← hA] at h
    obtain ⟨h1, h2⟩ := List.mem_filter.mp h
    have h2 : s ≠ -g := by simpa using h2
    have h3 : s ≠ g := fun z => hx (z ▸ h1)
    rcases hs s h1 with z | z
    · have := hc s z; omega
    · have := hc (-s) z; omega
  have bB : B.sum ≤ 0 := sum_nonpos_of fun s h => by
    rw [← hB] at h
    have : s = -g := by simpa using (List.mem_filter.mp h).2
    omega
  have sA : ∀ s ∈ A, Stp cs s := fun s h => hs s (by rw [← hA] at h; exact (List.mem_filter.mp h).1)
  have sB : ∀ s ∈ B, Stp cs s := fun s h => hs s (by rw [← hB] at h; exact (List.mem_filter.mp h).1)
  by_cases hlen : g ≤ A.length
  · obtain ⟨a, b, c, ea, nb, m, em⟩ := block g0.1 hlen
    have bb := sum_bound (l := b) (m := g - 1) (by omega) fun s h => bA s (by rw [ea]; simp [h])
    have lb : 0 < b.length := List.length_pos_iff.mpr nb
    have hlt : m.natAbs < b.length := by
      rw [em] at bb
      have h1 : g * (m.natAbs : Int) ≤ b.length * (g - 1) := by
        rcases Int.lt_or_le m 0 with z | z
        · rw [show ((m.natAbs : Nat) : Int) = -m by omega, Int.mul_neg]; omega
        · rw [show ((m.natAbs : Nat) : Int) = m by omega]; omega
      have h2 : (b.length : Int) * (g - 1) < g * b.length := by
        rw [Int.mul_sub, Int.mul_comm g]; omega
      have h3 : g * (m.natAbs : Int) < g * (b.length : Int) := by omega
      have := Int.lt_of_mul_lt_mul_left h3 (by omega)
      omega
    have rest : Reach cs (a.length + c.length + B.length) ((a.sum + c.sum) + B.sum) := by
      refine ⟨a ++ c ++ B, by simp only [List.length_append], ?_, by simp only [List.sum_append]⟩
      intro s h
      rcases List.mem_append.mp h with h | h
      · refine sA s ?_
        rw [ea]
        rcases List.mem_append.mp h with h | h <;> simp [h]
      · exact sB s h
    have all := rest.add (mult_reach (m := m) hg)
    have es : a.sum + c.sum + B.sum + g * m = t + g := by
      rw [ea] at e1
      simp only [List.sum_append] at e1
      omega
    rw [es] at all
    refine hm _ ?_ all
    rw [ea] at e2
    simp only [List.length_append] at e2
    omega
  · have bb := sum_bound (l := A) (m := g - 1) (by omega) bA
    have h1 : (A.length : Int) * (g - 1) ≤ (g - 1) * (g - 1) := Int.mul_le_mul_of_nonneg_right (by omega) (by omega)
    have h2 : (g - 1) * (g - 1) = g * g - 2 * g + 1 := by
      rw [Int.mul_sub, Int.sub_mul]; omega
    omega
theorem few_great1 {cs : List Int} {g t : Int} (hc : ∀ w ∈ cs, 0 < w ∧ w ≤ g) (hg : g ∈ cs) (ht : g * g ≤ t) (h : Can cs t) : few cs (t + g) = few cs t + 1 := by
  have hu := (few_near h hg).1
  obtain ⟨k, e, ⟨l, a, b, c⟩, m⟩ := few_can (h.add ⟨1, reach_coin hg⟩)
  have hin : g ∈ l := great_has hc hg ht b c (by rw [a]; exact m)
  have e2 := sum_erase hin
  have lk : 0 < l.length := List.length_pos_of_mem hin
  have r : Reach cs (l.erase g).length t := ⟨l.erase g, rfl, fun s hs => b s (List.mem_of_mem_erase hs), by omega⟩
  have := (few_le r).1
  rw [List.length_erase_of_mem hin] at this
  omega
theorem few_great {cs : List Int} {g t : Int} (hc : ∀ w ∈ cs, 0 < w ∧ w ≤ g) (hg : g ∈ cs) (ht : g * g ≤ t) (h : Can cs t) : ∀ m : Nat, few cs (t + m * g) = few cs t + m
  | 0 => by simp
  | m + 1 => by
    have g0 := hc g hg
    have ih := few_great hc hg ht h m
    have h0 : (0 : Int) ≤ m * g := Int.mul_nonneg (by omega) (by omega)
    have e : t + ((m + 1 : Nat) : Int) * g = (t + m * g) + g := by rw [Int.natCast_add, Int.add_mul]; simp; omega
    have hcan : Can cs (t + m * g) := h.add ⟨m, Reach.mul (.inl hg) m⟩
    rw [e, few_great1 hc hg (by omega) hcan, ih]
    omega
/-- what fewest reckons -/
def moreOf (g a : Int) : Int := max 0 ((a - g * g) / g)
theorem more_left {g a : Int} (hg : 0 < g) (ha : 0 ≤ a) : 0 ≤ moreOf g a ∧ 0 ≤ a - moreOf g a * g ∧ a - moreOf g a * g < g * g + g ∧ (0 < moreOf g a → g * g ≤ a - moreOf g a * g) := by
  unfold moreOf
  have h1 := Int.mul_ediv_add_emod (a - g * g) g
  have h2 := Int.emod_nonneg (a - g * g) (show g ≠ 0 by omega)
  have h3 := Int.emod_lt_of_pos (a - g * g) hg
  have hgg : 0 ≤ g * g := Int.mul_nonneg (by omega) (by omega)
  rcases Int.le_total 0 ((a - g * g) / g) with z | z
  · rw [Int.max_eq_right z, Int.mul_comm ((a - g * g) / g) g]
    omega
  · rw [Int.max_eq_left z]
    have h4 : g * ((a - g * g) / g) ≤ 0 := by
      rw [Int.mul_comm]
      exact Int.mul_nonpos_of_nonpos_of_nonneg z (by omega)
    omega
theorem few_more {cs : List Int} {g a : Int} (hc : ∀ w ∈ cs, 0 < w ∧ w ≤ g) (hg : g ∈ cs) (ha : 0 ≤ a) (h : gc cs ∣ a) : few cs a = moreOf g a + few cs (a - moreOf g a * g) := by
  have g0 := hc g hg
  obtain ⟨h1, h2, h3, h4⟩ := more_left g0.1 ha
  rcases Int.lt_or_eq_of_le h1 with z | z
  · have hd : gc cs ∣ a - moreOf g a * g := Int.dvd_sub h (Int.dvd_mul_of_dvd_right (gc_dvd hg))
    have hcan : Can cs (a - moreOf g a * g) := (can_iff fun w hw => (hc w hw).1).mpr hd
    have := few_great hc hg (h4 z) hcan (moreOf g a).toNat
    rw [show (((moreOf g a).toNat : Nat) : Int) = moreOf g a by omega] at this
    rw [show a - moreOf g a * g + moreOf g a * g = a by omega] at this
    omega
  · rw [← z]; simp
end Chg

set_option linter.all false
/-! Two worths; what 3 times the worths pay. -/
namespace Chg
theorem reach2_of {a b : Int} {k : Nat} {t : Int} (h : Reach [a, b] k t) : ∃ x y : Int, t = a * x + b * y ∧ x.natAbs + y.natAbs ≤ k := by
  obtain ⟨l, hl, hs, e⟩ := h
  subst e
  induction l generalizing k with
  | nil => exact ⟨0, 0, by simp, by simp⟩
  | cons s r ih =>
    obtain ⟨x, y, e, hxy⟩ := ih (k := r.length) rfl fun s' h => hs s' (List.mem_cons_of_mem _ h)
    rw [List.length_cons] at hl
    rw [List.sum_cons, e]
    rcases hs s List.mem_cons_self with z | z
    · rcases List.mem_cons.mp z with z | z
      · exact ⟨x + 1, y, by rw [z, Int.mul_add]; omega, by omega⟩
      · have z : s = b := by simpa using z
        exact ⟨x, y + 1, by rw [z, Int.mul_add]; omega, by omega⟩
    · rcases List.mem_cons.mp z with z | z
      · exact ⟨x - 1, y, by rw [Int.mul_sub]; omega, by omega⟩
      · have z : -s = b := by simpa using z
        exact ⟨x, y - 1, by rw [Int.mul_sub]; omega, by omega⟩
theorem reach2 {a b : Int} (x y : Int) : Reach [a, b] (x.natAbs + y.natAbs) (a * x + b * y) :=
  (mult_reach (by simp)).add (mult_reach (by simp))
/-- the fewest of two worths, by a way and by a look at all others -/
theorem few2 {a b t k : Int} (x y : Int) (h1 : t = a * x + b * y) (h2 : k = x.natAbs + y.natAbs) (h : ∀ x y : Int, t = a * x + b * y → ¬ ((x.natAbs + y.natAbs : Int) < k)) : few [a, b] t = k := by
  have r : Reach [a, b] (x.natAbs + y.natAbs) t := h1 ▸ reach2 x y
  have : Least (fun k => Reach [a, b] k t) (x.natAbs + y.natAbs) := ⟨r, fun j hj hr => by
    obtain ⟨x', y', e, l⟩ := reach2_of hr
    exact h x' y' e (by omega)⟩
  rw [few_of this]; omega
theorem reach1_of {a : Int} {k : Nat} {t : Int} (h : Reach [a] k t) : ∃ x : Int, t = a * x ∧ x.natAbs ≤ k := by
  have : Reach [a, a] k t := h.sub (by simp)
  obtain ⟨x, y, e, l⟩ := reach2_of this
  exact ⟨x + y, by rw [Int.mul_add]; exact e, by omega⟩
theorem few1 {a t k : Int} (ha : 0 < a) (hk : 0 ≤ k) (h1 : t = a * k) : few [a] t = k := by
  have r : Reach [a] k.natAbs t := h1 ▸ mult_reach (by simp)
  have : Least (fun k => Reach [a] k t) k.natAbs := ⟨r, fun j hj hr => by
    obtain ⟨x, e, l⟩ := reach1_of hr
    rw [h1] at e
    have := Int.eq_of_mul_eq_mul_left (by omega) e
    omega⟩
  rw [few_of this]; omega
theorem gc_times {cs : List Int} {c t : Int} (hc : 0 < c) (h : ∀ w ∈ cs, 0 < w) (hd : gc cs ∣ t) : gc (cs.map (c * ·)) ∣ c * t := by
  obtain ⟨k, hk⟩ := (can_iff h).mpr hd
  refine (can_iff fun w hw => ?_).mp ⟨k, (reach_times hc).mpr hk⟩
  obtain ⟨u, hu, rfl⟩ := List.mem_map.mp hw
  exact Int.mul_pos hc (h u hu)
end Chg

set_option Elab.async false
set_option linter.all false
set_option maxRecDepth 100000
set_option maxHeartbeats 4000000
/-! Rules of my own over the layer, and short names for readings. -/
namespace Cb
open PySem PySem.Spec PyProof.Rows L2 Evl

/-! ### short names for readings -/
abbrev rAddI : R2 := rI0 fun i j => .int (i + j)
abbrev rSubI : R2 := rI0 fun i j => .int (i - j)
abbrev rMulI : R2 := rI (fun i j => IntMulOk i j) fun i j => .int (i * j)
abbrev rDivI : R2 := rI CDiv fun i j => .int (i / j)
abbrev rModI : R2 := rI (fun _ j => 0 < j) fun i j => .int (i % j)
abbrev rPowI : R2 := rI CPow fun i j => .int (i ^ j.toNat)
abbrev rLtI : R2 := rI0 fun i j => .bl (decide (i < j))
abbrev rLeI : R2 := rI0 fun i j => .bl (decide (i ≤ j))
abbrev rGtI : R2 := rI0 fun i j => .bl (decide (j < i))
abbrev rGeI : R2 := rI0 fun i j => .bl (decide (j ≤ i))
abbrev rNegI : V → Hp → VK → Prop := rU fun i => .int (-i)
abbrev rAbsI : List V → Hp → VK → Prop := fun xs H Q => ∃ i, xs = [.int i] ∧ Q (.int (if i < 0 then -i else i)) H
abbrev rMin2 : List V → Hp → VK → Prop := fun xs H Q => ∃ i j, xs = [.int i, .int j] ∧ Q (.int (if j < i then j else i)) H
abbrev ipAdd : TIp := ipI fun i j => i + j

section
variable {X : Cx}
theorem op_mulK : OpR X (binaryOp .Mult) rMulI := opI fun _ _ _ _ _ _ _ hc q => mul_int q hc
theorem mulOk_left {i j : Int} (h : -(2 ^ 64) < i ∧ i < 2 ^ 64) : IntMulOk i j := CMul.ok (.inl h)
theorem mulOk_right {i j : Int} (h : -(2 ^ 64) < j ∧ j < 2 ^ 64) : IntMulOk i j := CMul.ok (.inr h)

/-- xs[i] by values -/
theorem get_list : PGet X (rIxL X.K) := by
  intro pins s σ H o i ov iv Q I ro ri h
  obtain ⟨p, xs, k, z, rfl, rfl, hq, he, q⟩ := h
  cases ro
  obtain ⟨t, rfl⟩ := ri
  obtain ⟨its, r, pl, hz⟩ := I.list hq
  obtain ⟨j, h1, h2, h3, h4, h5⟩ := atI_get he
  obtain ⟨u, eu, ru⟩ := r.get h2
  have hl := r.length
  have hn := line63
  by_cases h0 : 0 ≤ k
  · have hj : k.toNat = j := by
      rw [seqIndex_of h0 h5] at h1
      exact Option.some.inj h1
    exact wpAny_getItem_list pl.isList h0 (by omega) (by rw [hj]; simpa using eu) ⟨z, H, I, ru, q⟩
  · have hj : (k + (its.toArray.size : Int)).toNat = j := by
      rw [seqIndex_neg (by omega) h4] at h1
      rw [List.size_toArray, ← hl]
      exact Option.some.inj h1
    exact wpAny_getItem_list_neg pl.isList (by omega) (by rw [List.size_toArray] <;> omega) (by omega) (by rw [hj]; simpa using eu) ⟨z, H, I, ru, q⟩
end

/-! ### a def that is called by its name -/
structure Cal (P : Program) (w : World) (K : PySem.W.Frag) (mg : Str → Option Value) (base : Heap) (CX : CXT) (k : Nat) (x : Str) (ps : List Str) (sp : Sp) : Prop where
  ex : ∃ (f : Addr) (fd : FuncData), FnOk P w K mg base CX k f fd ps sp ∧ mg x = some (.ref f) ∧ PySem.W.keepIn K (.ref f) = true ∧ Binds K fd ps []
theorem pc_call {X : Cx} {k : Nat} {x : Str} {ps : List Str} {sp : Sp} {e : Expr} {es : List Expr} {t : TA} {p pos : Pos} (C : Cal X.prog X.w X.K X.mg X.base CX0 k x ps sp) (hr : Room k X.A) (ha : PA X (e :: es) t)
    (hg : Gl X x := by rfl) (hdb : (x == ("__debug__" : Str)) = false := by decide) (he : starEach (e :: es) X.env = (false, eval e X.env) :: starEach es X.env := by rfl) (hpl : (backTo pos (starEach es X.env)).any (·.1) = false := by rfl) :
    PE X (.Call (.Name x p) (e :: es) [] pos) (tCall sp [] E0 t) := by
  obtain ⟨f, fd, F, hm, hk, hb⟩ := C.ex
  exact pe_call F hr hg hm hk hb .nil pass0 ha hdb he hpl
/-- a def of the text, and where it stands -/
structure FnAt (K : PySem.W.Frag) (mg : Str → Option Value) (x : Str) (st : Stmt) (ps : List Str) : Prop where
  ex : ∃ (f : Addr) (fd : FuncData), Fun K x x st f fd ∧ mg x = some (.ref f) ∧ Binds K fd ps []
/-- the same of a def at its place -/
theorem fun_ok {P : Program} {w : World} {K : PySem.W.Frag} {mg : Str → Option Value} {base : Heap} {x q : Str} {st : Stmt} {f : Addr} {fd : FuncData} {N ps : List Str} {k : Nat} {sp : Sp} {t : TS} (F : Fun K x q st f fd) (S : FnScope N ps (defScope st)) (len : ∀ vs H Q E, sp vs H Q E → vs.length = ps.length)
    (pure : ∀ vs H Q E, sp vs H Q E → t { nx := fun _ H' => Q .non H', rt := Q } (start N vs) H)
    (body : ∀ (f : Addr) (cdv : Value) (A : Around) (outer : List Env) (s : Shared) (H : Hp) (E : XK), Room k (A.deeper (envOfC q (defScope st) s.heap.objs.size f cdv)) →
      PSs (cxOf CX0 P w K mg base N q (defScope st) f cdv A outer s H E).nox (defBody st) t) : FnOk P w K mg base CX0 (k + 1) f fd ps sp :=
  F.ok S len fun cdv A outer s H vs Q E hr h => ⟨t, body f cdv A outer s H E hr, pure vs H Q E h⟩
theorem FnAt.ok {P : Program} {w : World} {K : PySem.W.Frag} {mg : Str → Option Value} {base : Heap} {x : Str} {st : Stmt} {N ps : List Str} {k : Nat} {sp : Sp} {t : TS} (F : FnAt K mg x st ps) (S : FnScope N ps (defScope st)) (len : ∀ vs H Q E, sp vs H Q E → vs.length = ps.length)
    (pure : ∀ vs H Q E, sp vs H Q E → t { nx := fun _ H' => Q .non H', rt := Q } (start N vs) H)
    (body : ∀ (f : Addr) (cdv : Value) (A : Around) (outer : List Env) (s : Shared) (H : Hp) (E : XK), Room k (A.deeper (envOfC x (defScope st) s.heap.objs.size f cdv)) →
      PSs (cxOf CX0 P w K mg base N x (defScope st) f cdv A outer s H E).nox (defBody st) t) : Cal P w K mg base CX0 (k + 1) x ps sp := by
  obtain ⟨f, fd, F, hm, hb⟩ := F.ex
  exact ⟨f, fd, F.ok S len fun cdv A outer s H vs Q E hr h => ⟨t, body f cdv A outer s H E hr, pure vs H Q E h⟩, hm, F.kp, hb⟩
end Cb

set_option Elab.async false
set_option linter.all false
set_option maxRecDepth 100000
set_option maxHeartbeats 4000000
/-! set(xs) of a list of ints, as a value whose members are known: the library's loop (set_update_ints) behind the library's making (code_set_led1). -/
namespace Cb
open PySem PySem.Spec PyProof.Rows L2 Evl

abbrev eSet (w : World) : Obj := { cls := .type "set", dict := none, data := .set #[] 0 (.fresh 0 0 (!w.params.followText "set-order")) }
theorem set_of_list {P : Program} {w : World} {A : Around} {E : Value → Shared → Prop} {s : Shared} {l : Addr} {its : Array Value} (ns : List Int) {Q : Value → Shared → Prop} (hh : A.handled = none) (hl : s.heap.IsList l its)
    (hi : IntsAre its.toList ns) (hb : ns.length + 1 < scanBound)
    (k : ∀ (g : Heap) (tk c : Nat), SetR w g s.heap.objs.size (fun j => decide (j ∈ ns)) c → c ≤ ns.length → (∀ b o, s.heap.get? b = some o → g.get? b = some o) → Q (.ref s.heap.objs.size) { s with heap := g, toks := tk }) :
    wpAny (model P w) A (call (.type "set") [.ref l]) Q E s := by
  have nI : its.size = ns.length := (Array.length_toList (xs := its)).symm.trans (IntsAre.length hi)
  obtain ⟨_, _, a1⟩ := F.called_set.mro
  have a2 := F.called_set.made
  have a3 := F.called_set.sub
  have a4 := F.called_set.notType
  have a5 := F.called_set.canCreate
  have a6 := F.typeCall_set_1 (.ref l)
  refine wpAny_call (codeAny_of_tree (wpAny_pure ⟨Code.quiet_builtin _ (by decide +kernel), codeAny_builtin F.entry_type_call ?_⟩))
  rw [Around.under_plain (weight_type_call_type "set" [.ref l] []) rfl]
  repeat (any_goals (first | assumption | wp_step))
  refine codeAny_mono (code_set_led1 (.ref l) (E := E) (Q₁ := fun v u => v = .ref s.heap.objs.size ∧ u = { s with heap := s.heap.push (eSet w) }) ⟨rfl, rfl⟩) fun r u hu => ?_
  match r, hu with
  | .error _, z => exact z
  | .ok .next, z => exact z.elim
  | .ok .brk, z => exact z.elim
  | .ok .cont, z => exact z.elim
  | .ok (.ret v), z =>
    obtain ⟨rfl, rfl⟩ := z
    have gS : (s.heap.push (eSet w)).get? s.heap.objs.size = some (eSet w) := Heap.get?_push_size _ rfl
    have tS : Shared.TypeIs { s with heap := s.heap.push (eSet w) } (.ref s.heap.objs.size) "set" := ⟨_, gS, rfl⟩
    have b1 := F.called_set.init.lookup
    have b2 := F.called_set.init.bind (.ref s.heap.objs.size)
    repeat (any_goals (first | assumption | wp_step))
    refine codeAny_mono (codeAny_call_builtin (R := wants (fun v u => v = .none ∧ ∃ g tk c, u = { s with heap := g, toks := tk } ∧ SetR w g s.heap.objs.size (fun j => decide (j ∈ ns)) c ∧ c ≤ ns.length ∧
      ∀ b o, s.heap.get? b = some o → g.get? b = some o) E) F.called_set.init.plain F.entry_set_init (check_set_init_1 tS ?_)) fun r2 u2 h2 => ?_
    · obtain ⟨⟨oc, od, odt, osl⟩, ho, e1, n1, e2⟩ := hl
      simp only at e1 e2
      subst e1 e2
      have ho1 : (s.heap.push (eSet w)).get? l = some { cls := .type "list", dict := od, data := .seq its n1, slots := osl } := Heap.get?_push_of_some _ ho
      have c1 := F.sub_list_set
      have c2 := F.sub_list_frozenset
      have c3 : (Value.type "list" == Value.type "dict") = false := by decide
      have hl1 : (s.heap.push (eSet w)).IsList l its := ⟨_, ho1, rfl, n1, rfl⟩
      unfold Builtin.«set.__init__» noKeywords Builtin.Frozenset.updateFrom
      generalize hPI : pyIter = PI
      wp_walk
      subst hPI
      refine wpAny_pyIter_list hl1 (wpAny_bind (wpAny_runValue ?_))
      have lt : l < s.heap.objs.size := Heap.lt_size ho
      have sz : (s.heap.push (eSet w)).objs.size = s.heap.objs.size + 1 := Heap.size_push ..
      have n2 : l ≠ (s.heap.push (eSet w)).objs.size := by rw [sz]; exact Nat.ne_of_lt (Nat.lt_succ_of_lt lt)
      have n3 : s.heap.objs.size ∉ [(s.heap.push (eSet w)).objs.size, l] := by
        rw [sz]
        simp only [List.mem_cons, List.not_mem_nil, or_false, not_or]
        exact ⟨Nat.ne_of_lt (Nat.lt_succ_self _), Nat.ne_of_gt lt⟩
      have vals : ∀ (i : Nat) (v : Value), its[i]? = some v → ∃ z t, ns[i]? = some z ∧ v = .int z t := fun i v hv => by
        have hlt : i < ns.length := nI ▸ (Array.getElem?_eq_some_iff.mp hv).1
        obtain ⟨t, e⟩ := IntsAre.int_at hi i v (by rw [Array.getElem?_toList]; exact hv)
        exact ⟨ns[i], t, List.getElem?_eq_getElem hlt, by rw [e, List.getD_eq_getElem?_getD, List.getElem?_eq_getElem hlt] <;> rfl⟩
      refine set_update_ints ((Walks.list (show A.in1.in1.in1.handled = none by simp [hh]) _ l n2 its).toS) s.heap.objs.size n3 ns nI hb vals (its.size - 0) 0 _ (by omega) (Nat.zero_le _)
        ⟨⟨_, Heap.get?_push_size _ rfl, rfl, rfl⟩, hl1.push _⟩ ⟨0, Nat.le_refl 0, setR_new_at (Heap.get?_push_of_some _ gS)⟩ fun u c hm hc hS => ?_
      obtain ⟨g, ug, ud, ut, uo⟩ := u
      obtain rfl : ug = s.gens := hm.gens
      obtain rfl : ud = s.drawn := hm.drawn
      obtain rfl : uo = s.os := hm.os
      show wpAny _ _ _ _ _ _
      refine wpAny_pure ?_
      show wpAny _ _ (ret Value.none) _ _ _
      refine wpAny_pure ⟨rfl, g, ut, c, rfl, hS, nI ▸ hc, fun b o e => ?_⟩
      have bl : b < s.heap.objs.size := Heap.lt_size e
      refine hm.heap b o ?_ (Heap.get?_push_of_some _ (Heap.get?_push_of_some _ e))
      rw [sz]
      simp only [List.mem_cons, List.not_mem_nil, or_false, not_or]
      exact ⟨Nat.ne_of_lt bl, Nat.ne_of_lt (Nat.lt_succ_of_lt bl)⟩
    · match r2, h2 with
      | .error _, z => exact z
      | .ok .next, z => exact z.elim
      | .ok .brk, z => exact z.elim
      | .ok .cont, z => exact z.elim
      | .ok (.ret _), z =>
        obtain ⟨rfl, g, tk, c, rfl, x1, x2, x3⟩ := z
        repeat (any_goals (first | assumption | wp_step))
        exact k _ _ _ x1 x2 x3
/-- set(xs), xs a list of few ints -/
def rSetI (K : PySem.W.Frag) (w : World) : List V → Hp → VK → Prop := fun vs H Q => ∃ (p : Addr) (ns : List Int), vs = [.ref p] ∧ SqL K H p (ns.map V.int) ∧ ns.length ≤ 60 ∧
  ∀ a n, H a = none → n ≤ ns.length → Q (.ref a) (upd H a (SetO w a (fun j => decide (j ∈ ns)) n))
theorem cr_setI {X : Cx} (hc : X.calm = true) : CallR X (.type "set") (rSetI X.K X.w) := by
  intro pins s σ H vs us Q I r h
  obtain ⟨p, ns, rfl, hq, hn, q⟩ := h
  rw [Vals.ref1 r]
  obtain ⟨its, rv, pl, _⟩ := I.list hq
  refine set_of_list ns (I.ok.hd hc) pl.isList (by simpa using intsAre_of rv) (by show ns.length + 1 < 4096; omega) fun g tk c hS hle hk => ?_
  exact ⟨.ref s.heap.objs.size, upd H s.heap.objs.size (SetO X.w s.heap.objs.size (fun j => decide (j ∈ ns)) c), I.laid (t' := tk) hk (Nat.le_refl _) (setO_new hS), rfl, q _ _ (I.hok.fresh (Nat.le_refl _)) hle⟩
end Cb

set_option Elab.async false
set_option linter.all false
set_option maxRecDepth 100000
set_option maxHeartbeats 4000000
namespace Cb
open PySem PySem.Spec PyProof.Rows L2 Evl
/-- the built-ins' names are not bound by the text -/
structure Blt (mg : Str → Option Value) : Prop where
  isinstance : mg "isinstance" = none
  int : mg "int" = none
  bool : mg "bool" = none
  list : mg "list" = none
  len : mg "len" = none
  all : mg "all" = none
  any : mg "any" = none
  zip : mg "zip" = none
  range : mg "range" = none
  max : mg "max" = none
  min : mg "min" = none
  abs : mg "abs" = none
  sum : mg "sum" = none
  enumerate : mg "enumerate" = none
  sorted : mg "sorted" = none
  set : mg "set" = none
  str : mg "str" = none
  tuple : mg "tuple" = none
end Cb

set_option Elab.async false
set_option linter.all false
set_option maxRecDepth 100000
set_option maxHeartbeats 4000000
/-! More of what evaluates to what (over HandS.Evl). -/
namespace Cb
open PySem PySem.Spec PyProof.Rows L2 Evl Chg
section
variable {K : PySem.W.Frag} {σ : L2.St} {H H' : Hp} {ta tb tc te : TE} {t u : TT} {x y z v : V} {r r' : R2} {Q : VK} {D : Ends}
theorem ev_go (h : Ev te σ H v) (k : ∀ H2, Ex H H2 → Q v H2) : te σ H Q := h H (Ex.refl H) Q k
theorem el_go {xs : List V} (h : EvL te σ H xs) (k : ∀ p H2, H p = none → Ex H H2 → H2 p = some (.lst xs) → Q (.ref p) H2) : te σ H Q := h H (Ex.refl H) Q k
theorem ev_eq (h : Ev te σ H x) (e : x = v) : Ev te σ H v := e ▸ h
theorem el_eq {xs ys : List V} (h : EvL te σ H xs) (e : xs = ys) : EvL te σ H ys := e ▸ h
theorem ev_chain {a b : Bool} (ha : Ev ta σ H x) (hb : Ev tb σ H y) (hr : RV r x y H (.bl a)) (hc : a = true → Ev tc σ H z) (hr' : a = true → RV r' y z H (.bl b)) : Ev (tChain r r' ta tb tc) σ H (.bl (a && b)) := fun H1 e Q q =>
  ha H1 e _ fun H2 e2 => hb H2 (e.trans e2) _ fun H3 e3 => hr H3 ((e.trans e2).trans e3) _ fun H4 e4 => ⟨a, rfl, by
    cases a with
    | false => exact q H4 ((e2.trans e3).trans e4)
    | true => exact hc rfl H4 (((e.trans e2).trans e3).trans e4) _ fun H5 e5 => hr' rfl H5 ((((e.trans e2).trans e3).trans e4).trans e5) Q fun H6 e6 => q H6 ((((e2.trans e3).trans e4).trans e5).trans e6)⟩
theorem ev_isi {K : PySem.W.Frag} {T c : String} {b : Bool} (ha : Ev ta σ H x) (ty : ∀ H1, Ex H H1 → TyX K H1 x (.type T)) (h : kitB T c = some b) : Ev (tCB (rIsi K) (tCons ta (tCons (tC (.ty c)) tNil))) σ H (.bl b) := fun H1 e Q q =>
  ha H1 e _ fun H2 e2 => ⟨x, .ty c, .type T, .type c, b, rfl, ClsV.ty _, ty H2 (e.trans e2), kit_ty h, q H2 e2⟩
theorem ev_allL {bs : List Bool} (h : EvL te σ H (bs.map V.bl)) : Ev (tCB (rAll K) (tCons te tNil)) σ H (.bl (bs.all id)) := fun H1 e Q q =>
  h H1 e _ fun p H2 _ e2 hp => ⟨p, bs, rfl, sq_of hp, q H2 e2⟩
theorem ev_anyL {bs : List Bool} (h : EvL te σ H (bs.map V.bl)) : Ev (tCB (rAny K) (tCons te tNil)) σ H (.bl (bs.any id)) := fun H1 e Q q =>
  h H1 e _ fun p H2 _ e2 hp => ⟨p, bs, rfl, sq_of hp, q H2 e2⟩
theorem ev_sumL {ns : List Int} (h : EvL te σ H (ns.map V.int)) : Ev (tCB (rSum K) (tCons te tNil)) σ H (.int ns.sum) := fun H1 e Q q =>
  h H1 e _ fun p H2 _ e2 hp => ⟨p, ns, rfl, sq_of hp, q H2 e2⟩
theorem ev_sumV {p : Addr} {ns : List Int} (h : Ev te σ H (.ref p)) (hp : SqL K H p (ns.map V.int)) : Ev (tCB (rSum K) (tCons te tNil)) σ H (.int ns.sum) := fun H1 e Q q =>
  h H1 e _ fun H2 e2 => ⟨p, ns, rfl, ex_l (e.trans e2) hp, q H2 e2⟩
theorem ev_abs {i : Int} (h : Ev te σ H (.int i)) : Ev (tCB rAbsI (tCons te tNil)) σ H (.int (if i < 0 then -i else i)) := fun H1 e Q q => h H1 e _ fun H2 e2 => ⟨i, rfl, q H2 e2⟩
theorem ev_max {i j : Int} (ha : Ev ta σ H (.int i)) (hb : Ev tb σ H (.int j)) : Ev (tCB rMax2 (tCons ta (tCons tb tNil))) σ H (.int (if j > i then j else i)) := ev_max2 ha hb
theorem ev_min {i j : Int} (ha : Ev ta σ H (.int i)) (hb : Ev tb σ H (.int j)) : Ev (tCB rMin2 (tCons ta (tCons tb tNil))) σ H (.int (if j < i then j else i)) := fun H1 e Q q =>
  ha H1 e _ fun H2 e2 => hb H2 (e.trans e2) _ fun H3 e3 => ⟨i, j, rfl, q H3 (e2.trans e3)⟩
theorem ev_ixL {p : Addr} {xs : List V} {i : Int} (ha : Ev ta σ H (.ref p)) (hb : Ev tb σ H (.int i)) (h : SqL K H p xs) (hi : atI xs i = some v) : Ev (tOp (rIxL K) ta tb) σ H v := ev_op ha hb (rv_ixL h hi)
theorem ev_ixNL {xs : List V} {i : Int} (ha : EvL ta σ H xs) (hb : Ev tb σ H (.int i)) (hi : atI xs i = some v) : Ev (tOp (rIxL K) ta tb) σ H v :=
  ev_opL1 ha (fun H1 e => hb.mono e) fun p H1 hp e => rv_ixL (sq_of hp) hi
theorem ev_ixNU {xs : List V} {i : Int} (ha : EvU ta σ H xs) (hb : Ev tb σ H (.int i)) (hi : atI xs i = some v) : Ev (tOp (rIxT K) ta tb) σ H v := fun H1 e Q q =>
  ha H1 e _ fun p H2 _ e2 hp => hb H2 (e.trans e2) _ fun H3 e3 => ⟨p, xs, i, v, rfl, rfl, st_of (e3 p _ hp), hi, q H3 (e2.trans e3)⟩
theorem ev_neg {i : Int} (h : Ev te σ H (.int i)) : Ev (tUn rNegI te) σ H (.int (-i)) := ev_un h ru_neg
theorem ev_m1 : Ev (tUn rNegI (tC (.int 1))) σ H (.int (-1)) := ev_neg ev_c
theorem ev_add {i j : Int} (ha : Ev ta σ H (.int i)) (hb : Ev tb σ H (.int j)) : Ev (tOp rAddI ta tb) σ H (.int (i + j)) := ev_op ha hb rv_I0
theorem ev_sub {i j : Int} (ha : Ev ta σ H (.int i)) (hb : Ev tb σ H (.int j)) : Ev (tOp rSubI ta tb) σ H (.int (i - j)) := ev_op ha hb rv_I0
theorem ev_mul {i j : Int} (ha : Ev ta σ H (.int i)) (hb : Ev tb σ H (.int j)) (h : IntMulOk i j) : Ev (tOp rMulI ta tb) σ H (.int (i * j)) := ev_op ha hb (rv_I h)
theorem ev_mod {i j : Int} (ha : Ev ta σ H (.int i)) (hb : Ev tb σ H (.int j)) (h : 0 < j) : Ev (tOp rModI ta tb) σ H (.int (i % j)) := ev_op ha hb (rv_I h)
theorem ev_div {i j : Int} (ha : Ev ta σ H (.int i)) (hb : Ev tb σ H (.int j)) (h : 0 < j ∧ j < 1073741824) : Ev (tOp rDivI ta tb) σ H (.int (i / j)) := ev_op ha hb (rv_I h)
theorem ev_pow {i j : Int} (ha : Ev ta σ H (.int i)) (hb : Ev tb σ H (.int j)) (h : 0 ≤ j ∧ j ≤ 1000000 ∧ i.natAbs < 2 ^ 64) : Ev (tOp rPowI ta tb) σ H (.int (i ^ j.toNat)) := ev_op ha hb (rv_I h)
theorem ev_cmp {i j : Int} {p : Int → Int → Bool} (ha : Ev ta σ H (.int i)) (hb : Ev tb σ H (.int j)) : Ev (tOp (rI0 fun i j => .bl (p i j)) ta tb) σ H (.bl (p i j)) := ev_op ha hb rv_I0
theorem ev_eqI {i j : Int} (ha : Ev ta σ H (.int i)) (hb : Ev tb σ H (.int j)) : Ev (tOp rEq ta tb) σ H (.bl (decide (i = j))) := ev_op ha hb (by
  have e : decide (V.int i = V.int j) = decide (i = j) := by
    by_cases q : i = j
    · subst q; simp
    · simp [q]
  rw [← e]; exact rv_eq rfl)
theorem ev_neI {i j : Int} (ha : Ev ta σ H (.int i)) (hb : Ev tb σ H (.int j)) : Ev (tOp rNe ta tb) σ H (.bl (decide (i ≠ j))) := ev_op ha hb (by
  have e : (!decide (V.int i = V.int j)) = decide (i ≠ j) := by
    by_cases q : i = j
    · subst q; simp
    · simp [q]
  rw [← e]; exact rv_ne rfl)
theorem et_chain {b : Bool} (h : Ev (tChain r r' ta tb tc) σ H (.bl b)) : EvT (tTest (tChain r r' ta tb tc)) σ H b := et_test h
/-- a def's call, by its promise -/
theorem ev_callV {sp : Sp} {vs : List V} {E : XK} {ta : TA} (h : EvA ta σ H vs) (hs : ∀ H1, Ex H H1 → ∀ Q, RetV z H1 Q → sp vs H1 Q E) : Ev (tCall sp [] E ta) σ H z := fun H1 e Q q =>
  h H1 e _ fun H2 e2 => by
    rw [List.append_nil]
    exact hs H2 (e.trans e2) Q fun H3 e3 => q H3 (e2.trans e3)
theorem el_callL {sp : Sp} {vs xs : List V} {E : XK} {ta : TA} (h : EvA ta σ H vs) (hs : ∀ H1, Ex H H1 → ∀ Q, RetL xs H1 Q → sp vs H1 Q E) : EvL (tCall sp [] E ta) σ H xs := fun H1 e Q q =>
  h H1 e _ fun H2 e2 => by
    rw [List.append_nil]
    exact hs H2 (e.trans e2) Q fun p H3 hp e3 h3 => q p H3 (fresh_back e2 hp) (e2.trans e3) h3

/-! ### statements -/
variable {tu tz : TS}
theorem q_forR3 {ta : TA} {j : Nat} {lo hi c : Int} {n : Nat} (h : EvA ta σ H [.int lo, .int hi, .int c]) (hn : RgC lo hi c n) (Pv : Nat → L2.St → Hp → Prop) (h0 : ∀ H1, Ex H H1 → Pv 0 σ H1)
    (hs : ∀ (i : Nat) σ' H', i < n → Pv i σ' H' → tu { D with nx := Pv (i + 1), ct := Pv (i + 1), bk := tz D } (σ'.set j (some (.int (lo + (i : Int) * c)))) H') (hd : ∀ σ' H', Pv n σ' H' → tz D σ' H') : tSeq (tFor (iRng3 ta) (gName j) tu) tz D σ H :=
  h H (Ex.refl H) _ fun H1 e => ⟨lo, hi, c, n, rfl, hn, for_rangeC Pv (h0 H1 e) hs hd⟩
/-- x = f(..), whatever f promises -/
theorem q_asgCall {sp : Sp} {vs : List V} {E : XK} {ta : TA} {i : Nat} (h : EvA ta σ H vs) (k : ∀ H1, Ex H H1 → sp vs H1 (fun v H2 => tz D (σ.set i (some v)) H2) E) : tSeq (tAsg (tCall sp [] E ta) (gName i)) tz D σ H :=
  h H (Ex.refl H) _ fun H1 e => by
    rw [List.append_nil]
    exact k H1 e
theorem q_par {i j : Nat} {v w : V} (ha : Ev ta σ H v) (hb : Ev tb σ H w) (k : ∀ H1, Ex H H1 → tz D ((σ.set i (some v)).set j (some w)) H1) : tSeq (tPar i j (tCons ta (tCons tb tNil))) tz D σ H :=
  ha H (Ex.refl H) _ fun H1 e1 => hb H1 e1 _ fun H2 e2 => ⟨v, w, rfl, k H2 (e1.trans e2)⟩
theorem s_par {i j : Nat} {v w : V} (ha : Ev ta σ H v) (hb : Ev tb σ H w) (k : ∀ H1, Ex H H1 → D.nx ((σ.set i (some v)).set j (some w)) H1) : tPar i j (tCons ta (tCons tb tNil)) D σ H :=
  ha H (Ex.refl H) _ fun H1 e1 => hb H1 e1 _ fun H2 e2 => ⟨v, w, rfl, k H2 (e1.trans e2)⟩

/-! ### comprehensions -/
theorem given_all {n : Nat} {f : Nat → V} : given n (fun _ => true) f = (List.range n).map f := by
  unfold given
  rw [List.filter_eq_self.mpr (fun _ _ => rfl)]
theorem range_map_get {α β : Type} (xs : List α) (f : α → β) (d : α) : (List.range xs.length).map (fun i => f (xs.getD i d)) = xs.map f := by
  refine List.ext_getElem (by simp) fun i h1 h2 => ?_
  have hi : i < xs.length := by simpa using h2
  simp [List.getD_eq_getElem?_getD, List.getElem?_eq_getElem hi]
theorem filter_range_get {α β : Type} (p : α → Bool) (f : α → β) (d : α) : ∀ xs : List α, (((List.range xs.length).filter fun i => p (xs.getD i d)).map fun i => f (xs.getD i d)) = (xs.filter p).map f := by
  intro xs
  induction xs with
  | nil => rfl
  | cons x r ih =>
    rw [List.length_cons, List.range_succ_eq_map, List.filter_cons]
    have e1 : (x :: r).getD 0 d = x := rfl
    rw [e1, List.filter_map]
    have e2 : ((fun i => p ((x :: r).getD i d)) ∘ Nat.succ) = fun i => p (r.getD i d) := rfl
    rw [e2, List.filter_cons]
    have e3 : (List.map (fun i => f ((x :: r).getD i d)) (List.map Nat.succ (List.filter (fun i => p (r.getD i d)) (List.range r.length)))) = (r.filter p).map f := by
      rw [List.map_map]
      exact ih
    split
    · rw [List.map_cons, List.map_cons, e3, e1]
    · exact e3
/-- [e for x in xs if t], xs a list that stands -/
theorem el_lc {a : Addr} {xs : List V} {tl : TE} {j : Nat} {vs : List Nat} (p : V → Bool) (f : V → V) (h : Ev tl σ H (.ref a)) (hx : SqL K H a xs) (hz : xs.length ≤ 40000) (hw : ∀ x, wipe ((wipe σ vs).set j (some x)) vs = wipe σ vs)
    (ht : ∀ (x : V) H1, x ∈ xs → Ex H H1 → EvT t ((wipe σ vs).set j (some x)) H1 (p x)) (he : ∀ (x : V) H1, x ∈ xs → Ex H H1 → p x = true → Ev te ((wipe σ vs).set j (some x)) H1 (f x)) :
    EvL (tLc (iList K tl) (gName j) t te vs) σ H ((xs.filter p).map f) := by
  have g := el_lcL (K := K) (t := t) (te := te) (tl := tl) (j := j) (vs := vs) (σ := σ) (H := H) (fun i => p (xs.getD i .non)) (fun i => f (xs.getD i .non)) h hx hz hw
    (fun i x H1 e hi => by
      have : xs.getD i .non = x := by rw [List.getD_eq_getElem?_getD, hi]; rfl
      rw [this]; exact ht x H1 (List.mem_of_getElem? hi) e)
    (fun i x H1 e hi hf => by
      have : xs.getD i .non = x := by rw [List.getD_eq_getElem?_getD, hi]; rfl
      rw [this] at hf ⊢; exact he x H1 (List.mem_of_getElem? hi) e hf)
  refine el_eq g ?_
  unfold given
  exact filter_range_get p f .non xs
/-- without a test -/
theorem el_lcY {a : Addr} {xs : List V} {tl : TE} {j : Nat} {vs : List Nat} (f : V → V) (h : Ev tl σ H (.ref a)) (hx : SqL K H a xs) (hz : xs.length ≤ 40000) (hw : ∀ x, wipe ((wipe σ vs).set j (some x)) vs = wipe σ vs)
    (he : ∀ (x : V) H1, x ∈ xs → Ex H H1 → Ev te ((wipe σ vs).set j (some x)) H1 (f x)) :
    EvL (tLc (iList K tl) (gName j) tYes te vs) σ H (xs.map f) := by
  have := el_lc (K := K) (t := tYes) (te := te) (tl := tl) (fun _ => true) f h hx hz hw (fun _ _ _ _ => fun H1 _ Q q => q H1 (Ex.refl H1)) (fun x H1 hm e _ => he x H1 hm e)
  rw [List.filter_eq_self.mpr (fun _ _ => rfl)] at this
  exact this
/-- over a new tuple -/
theorem el_lcNU {xs : List V} {tl : TE} {j : Nat} {vs : List Nat} (f : V → V) (h : EvU tl σ H xs) (hz : xs.length ≤ 40000) (hw : ∀ x, wipe ((wipe σ vs).set j (some x)) vs = wipe σ vs)
    (he : ∀ (x : V) H1, x ∈ xs → Ex H H1 → Ev te ((wipe σ vs).set j (some x)) H1 (f x)) :
    EvL (tLc (iTup K tl) (gName j) tYes te vs) σ H (xs.map f) := fun H0 e Q q => h H0 e _ fun a H1 ha e1 hx => ⟨a, rfl, ⟨xs, st_of hx⟩, fun Dl hD => by
  have key := lc_tup (K := K) (a := a) (xs := xs) (g := gName j) (tt := tYes) (te := te) (vs := vs) (σ := σ) (H1 := H1) (D := Dl) (Qd := fun H' => Q (.ref Dl) H') (Cw H1 (fun _ => true) (fun i => f (xs.getD i .non)) Dl) ⟨hD, Ex.new hD, upd_same⟩ (fun i H' _ p => st_of (p.2.1 a _ hx))
    (fun i x H' hi p => ⟨hw x, cw_turn (t := tYes) p (by have := (List.getElem?_eq_some_iff.mp hi).1; omega) (fun H1 _ Q q => q H1 (Ex.refl H1)) (fun _ => by
      have : xs.getD i .non = x := by rw [List.getD_eq_getElem?_getD, hi]; rfl
      rw [this]
      exact he x H1 (List.mem_of_getElem? hi) (e.trans e1))⟩)
    (fun H' p => q Dl H' (fresh_back e1 p.1) (e1.trans p.2.1) (by
      rw [p.2.2, given_all, range_map_get xs f .non]))
  exact key⟩
/-- over two lists side by side -/
theorem el_lcZ {a b : Addr} {xs ys : List V} {ti : TA} {j l : Nat} {vs : List Nat} (f : V → V → V) (h : ∀ H1, Ex H H1 → ∀ Q : List V → Hp → Prop, (∀ a b H2, Ex H1 H2 → SqL K H2 a xs → SqL K H2 b ys → Q [.ref a, .ref b] H2) → ti σ H1 Q)
    (hz : xs.length ≤ 40000) (hw : ∀ x y, wipe (((wipe σ vs).set j (some x)).set l (some y)) vs = wipe σ vs)
    (he : ∀ (i : Nat) (x y : V) H1, xs[i]? = some x → ys[i]? = some y → Ex H H1 → Ev te (((wipe σ vs).set j (some x)).set l (some y)) H1 (f x y)) :
    EvL (tLc (iZip K ti) (gTup K 2 (gCons (gName j) (gCons (gName l) gNil))) tYes te vs) σ H (List.zipWith f xs ys) := fun H0 e Q q => h H0 e _ fun a b H1 e1 ha hb => ⟨a, b, xs, ys, rfl, ha, hb, fun Dl hD => by
  refine ⟨fun i m H' => m = min xs.length ys.length - i ∧ i ≤ min xs.length ys.length ∧ Ex H1 H' ∧ H' Dl = some (.lst ((List.zipWith f xs ys).take i)), ⟨_, rfl, Nat.zero_le _, Ex.new hD, upd_same⟩, ?_⟩
  rintro i m H' ⟨rfl, hi, ex, hDl⟩
  have qa : SqL K H' a xs := ex_l ex ha
  have qb : SqL K H' b ys := ex_l ex hb
  have hzl : (List.zipWith f xs ys).length = min xs.length ys.length := List.length_zipWith
  by_cases hlt : i < min xs.length ys.length
  · have h1 : i < xs.length := by omega
    have h2 : i < ys.length := by omega
    refine .inr ⟨⟨xs, ys, xs[i], ys[i], qa, qb, List.getElem?_eq_getElem h1, List.getElem?_eq_getElem h2⟩, fun H'' => Ex H1 H'' ∧ H'' Dl = some (.lst ((List.zipWith f xs ys).take (i + 1))), fun H'' ⟨x1, x2⟩ => ⟨_, by omega, rfl, hlt, x1, x2⟩, fun x H'' hy => ?_⟩
    obtain ⟨T, x1, y1, rfl, nT, rfl, f1, f2⟩ := hy
    have g1 := f1 _ qa
    have g2 := f2 _ qb
    have exT : Ex H' (upd H' T (.tup [x1, y1])) := Ex.new nT
    refine ⟨T, [x1, y1], rfl, st_of upd_same, rfl, x1, [y1], rfl, y1, [], rfl, rfl, hw x1 y1, ?_⟩
    refine he i x1 y1 H' g1 g2 ((e.trans e1).trans ex) _ exT _ fun H3 e3 => ⟨_, e3 _ _ (exT _ _ hDl), ?_, ?_⟩
    · rw [List.length_take]
      exact sz_lt (by omega)
    · refine ⟨Ex.mut ((ex.trans exT).trans e3) hD, ?_⟩
      rw [upd_same, List.take_add_one]
      congr 2
      rw [List.getElem?_zipWith, g1, g2]
      rfl
  · have ei : i = min xs.length ys.length := by omega
    refine .inl ⟨⟨xs, ys, qa, qb, by omega⟩, ?_⟩
    refine q Dl H' (fresh_back e1 hD) (e1.trans ex) ?_
    rw [hDl, List.take_of_length_le (by omega)]⟩
end
end Cb

set_option Elab.async false
set_option linter.all false
set_option maxRecDepth 100000
set_option maxHeartbeats 4000000
/-! The promises. -/
namespace Cb
open PySem PySem.Spec PyProof.Rows L2 Evl Chg
/-- coins as the document has them -/
structure Coins (cs : List Int) : Prop where
  one : 1 ≤ cs.length
  six : cs.length ≤ 6
  wor : ∀ w ∈ cs, 1 ≤ w ∧ w ≤ 30
  ris : cs.Pairwise (· < ·)
def topC (cs : List Int) : Int := cs.getLastD 0
theorem Coins.ne {cs : List Int} (h : Coins cs) : cs ≠ [] := by
  intro e
  have := h.one
  rw [e] at this
  simp at this
theorem topC_eq {cs : List Int} (h : cs ≠ []) : topC cs = cs.getLast h := by
  unfold topC
  rw [List.getLastD_eq_getLast?, List.getLast?_eq_getLast h]; rfl
theorem topC_mem {cs : List Int} (h : cs ≠ []) : topC cs ∈ cs := by
  rw [topC_eq h]
  exact List.getLast_mem h
theorem topC_split {cs : List Int} (h : cs ≠ []) : cs = cs.dropLast ++ [topC cs] := by
  rw [topC_eq h, List.dropLast_concat_getLast]
theorem topC_at {cs : List Int} (h : cs ≠ []) : atI (cs.map V.int) (-1) = some (.int (topC cs)) := by
  rw [topC_split h, List.map_append]
  have e : topC (cs.dropLast ++ [topC cs]) = topC cs := by rw [← topC_split h]
  rw [e]
  exact atI_last _ _
theorem Coins.le_top {cs : List Int} (h : Coins cs) : ∀ w ∈ cs, 0 < w ∧ w ≤ topC cs := fun w hw => by
  refine ⟨by have := h.wor w hw; omega, ?_⟩
  have hr := h.ris
  rw [topC_split h.ne] at hr hw
  rcases List.mem_append.mp hw with z | z
  · have := (List.pairwise_append.mp hr).2.2 w z (topC cs) (by simp)
    omega
  · have : w = topC cs := by simpa using z
    omega
theorem Coins.top {cs : List Int} (h : Coins cs) : 1 ≤ topC cs ∧ topC cs ≤ 30 := h.wor _ (topC_mem h.ne)
theorem Coins.gpos {cs : List Int} (h : Coins cs) : 0 < gc cs := gc_pos (topC_mem h.ne) (by have := h.top; omega)
theorem gc_le_of {cs : List Int} {w : Int} (h : w ∈ cs) (hw : 0 < w) : gc cs ≤ w := Int.le_of_dvd hw (gc_dvd h)
/-- a list of ints that stands -/
abbrev Il (H : Hp) (p : Addr) (ns : List Int) : Prop := H p = some (.lst (ns.map V.int))
theorem atI_int {ns : List Int} {i : Int} (h0 : 0 ≤ i) (h : i < ns.length) : atI (ns.map V.int) i = some (.int (ent ns i)) := by
  have e : i = ((i.toNat : Nat) : Int) := by omega
  have hj : i.toNat < ns.length := by omega
  rw [e]
  refine atI_nat ?_
  rw [List.getElem?_map, List.getElem?_eq_getElem hj]
  show some (V.int ns[i.toNat]) = some (V.int (ent ns ((i.toNat : Nat) : Int)))
  congr 2
  unfold ent
  rw [Int.toNat_natCast, List.getD_eq_getElem?_getD, List.getElem?_eq_getElem hj]; rfl

/-! ### the program's -/
def sp_is_number (K : PySem.W.Frag) : Sp := fun vs H Q _ => ∃ (v : V) (T : String) (b1 b2 : Bool), vs = [v] ∧ (∀ H1, Ex H H1 → TyX K H1 v (.type T)) ∧ kitB T "int" = some b1 ∧ kitB T "bool" = some b2 ∧ RetV (.bl (b1 && !b2)) H Q
def sp_check_coins (K : PySem.W.Frag) : Sp := fun vs H Q _ => ∃ (p : Addr) (cs : List Int), vs = [.ref p] ∧ Il H p cs ∧ Coins cs ∧ RetV .non H Q
def sp_check_amount (K : PySem.W.Frag) : Sp := fun vs H Q _ => ∃ a m : Int, vs = [.int a, .int m] ∧ 0 ≤ a ∧ (0 ≤ m → a ≤ m) ∧ RetV .non H Q
def sp_common (K : PySem.W.Frag) : Sp := fun vs H Q _ => ∃ (p : Addr) (cs : List Int), vs = [.ref p] ∧ Il H p cs ∧ (∀ w ∈ cs, 0 ≤ w) ∧ cs.length ≤ 100 ∧ RetV (.int (gc cs)) H Q
def sp_strip (K : PySem.W.Frag) : Sp := fun vs H Q _ => ∃ (p : Addr) (cs : List Int) (a : Int), vs = [.ref p, .int a] ∧ Il H p cs ∧ cs ≠ [] ∧ (0 ≤ topC cs ∧ topC cs ≤ 1000) ∧ (0 ≤ a ∧ a ≤ 5000) ∧ RetL (rgV (-topC cs) (a + topC cs)) H Q
/-- the heights that heights_of makes -/
noncomputable def hOf (cs : List Int) (a : Int) : List Int := hts cs (a + 2 * topC cs) (topC cs)
def sp_heights_of (K : PySem.W.Frag) : Sp := fun vs H Q _ => ∃ (p : Addr) (cs : List Int) (a : Int), vs = [.ref p, .int a] ∧ Il H p cs ∧ Coins cs ∧ (0 ≤ a ∧ a ≤ 5000) ∧ RetL ((hOf cs a).map V.int) H Q
def sp_fewest (K : PySem.W.Frag) : Sp := fun vs H Q _ => ∃ (p : Addr) (cs : List Int) (a : Int), vs = [.ref p, .int a] ∧ Il H p cs ∧ Coins cs ∧ 0 ≤ a ∧ gc cs ∣ a ∧ RetV (.int (few cs a)) H Q

/-! ### the laws' helpers -/
def cellAt (ns : List Int) (k : Int) : Int := ent ns k
def sp__law_cell_at (K : PySem.W.Frag) : Sp := fun vs H Q _ => ∃ (p : Addr) (ns : List Int) (k : Int), vs = [.ref p, .int k] ∧ SqL K H p (ns.map V.int) ∧ 0 ≤ k ∧ RetV (.int (cellAt ns k)) H Q
def drawP : List Int := [1000003, 1000033, 1000037, 1000039, 1000081, 1000099, 1000117, 1000121, 1000133, 1000151, 1000159, 1000171, 1000183, 1000187, 1000193, 1000199]
def drawV (c k m : Int) : Int := (c * 48271 + k * 69621) % ent drawP (k % 16) % m
def sp__law_draw (K : PySem.W.Frag) : Sp := fun vs H Q _ => ∃ c k m : Int, vs = [.int c, .int k, .int m] ∧ (0 ≤ k ∧ k ≤ 1000) ∧ 0 < m ∧ RetV (.int (drawV c k m)) H Q
def numP : List Int := [1, 7, 49, 343, 2401]
def numV (c k m : Int) : Int := if 10 ^ 18 ≤ c then (c - 10 ^ 18) / ent numP (k % 5) % m else drawV ((c + 977 * k) * (c + 31 * k + 5)) (k % 9 + 1) 999983 % m
/-- not too great a cell -/
def Bits (c : Int) : Prop := Builtin.Int.intBits c ≤ 1048600
def sp__law_number (K : PySem.W.Frag) : Sp := fun vs H Q _ => ∃ c k m : Int, vs = [.int c, .int k, .int m] ∧ Bits c ∧ (0 ≤ k ∧ k ≤ 1000) ∧ 0 < m ∧ RetV (.int (numV c k m)) H Q
/-- what _law_coins makes: rising, one to most, worths to great -/
structure LCoins (most great : Int) (cs : List Int) : Prop where
  one : 1 ≤ cs.length
  top : (cs.length : Int) ≤ most
  wor : ∀ w ∈ cs, 1 ≤ w ∧ w ≤ great
  ris : cs.Pairwise (· < ·)
/-- the cells of a script -/
def Cells (ns : List Int) : Prop := ∀ k ∈ ns, Builtin.Int.intBits k ≤ 1048576
def sp__law_coins (K : PySem.W.Frag) : Sp := fun vs H Q _ => ∃ (p : Addr) (ns : List Int) (b m g : Int), vs = [.ref p, .int b, .int m, .int g] ∧ SqL K H p (ns.map V.int) ∧ Cells ns ∧ (0 ≤ b ∧ b ≤ 100) ∧ (1 ≤ m ∧ m ≤ 50) ∧ (3 ≤ g ∧ g ≤ 1000) ∧
  ∀ cs, LCoins m g cs → RetL (cs.map V.int) H Q
def sp__law_common (K : PySem.W.Frag) : Sp := fun vs H Q _ => ∃ (p : Addr) (cs : List Int), vs = [.ref p] ∧ Il H p cs ∧ cs ≠ [] ∧ cs.length ≤ 1000 ∧ (∀ w ∈ cs, 1 ≤ w ∧ w ≤ 1000) ∧ RetV (.int (gc cs)) H Q
end Cb

set_option Elab.async false
set_option linter.all false
set_option maxRecDepth 100000
set_option maxHeartbeats 4000000
/-! The readings of the defs' bodies (printed by gen/mk.py). -/
namespace Cb
open PySem PySem.Spec PyProof.Rows L2 Evl Chg
def t_is_number (K : PySem.W.Frag) : TS :=
  (tRet (tAndV (tCB (rIsi K) (tCons (tVar 0) (tCons (tC (.ty "int")) tNil))) (tNotV (tCB (rIsi K) (tCons (tVar 0) (tCons (tC (.ty "bool")) tNil))))))
def t_check_coins (K : PySem.W.Frag) : TS :=
  (tSeq (tIfS (tOr (tNot (tB (tCB (rIsi K) (tCons (tVar 0) (tCons (tC (.ty "list")) tNil))))) (tNot (tTest (tChain rLeI rLeI (tC (.int 1)) (tCB (rLenS K) (tCons (tVar 0) tNil)) (tC (.int 6)))))) tNever tNext)
  (tSeq (tIfS (tNot (tB (tCB (rAll K) (tCons (tLc (iList K (tVar 0)) (gName 1) tYes (tAndV (tCall (sp_is_number K) [] E0 (tCons (tVar 1) tNil)) (tChain rLeI rLeI (tC (.int 1)) (tVar 1) (tC (.int 30)))) [1]) tNil)))) tNever tNext)
  (tIfS (tB (tCB (rAny K) (tCons (tLc (iZip K (tCons (tVar 0) (tCons (tSl (rSlL K) (tVar 0) (tPart (tC (.int 1))) tNoPart) tNil))) (gTup K 2 (gCons (gName 2) (gCons (gName 3) gNil))) tYes (tOp rGeI (tVar 2) (tVar 3)) [2, 3]) tNil))) tNever tNext)))
def t_check_amount (K : PySem.W.Frag) : TS :=
  (tIfS (tOr (tNot (tB (tCall (sp_is_number K) [] E0 (tCons (tVar 0) tNil)))) (tOr (tTest (tOp rLtI (tVar 0) (tC (.int 0)))) (tTest (tChain rLeI rLtI (tC (.int 0)) (tVar 1) (tVar 0))))) tNever tNext)
def t_common (K : PySem.W.Frag) : TS :=
  (tSeq (tAsg (tC (.int 0)) (gName 1))
  (tSeq (tFor (iList K (tVar 0)) (gName 2) (tWhile (tTest (tOp rGtI (tVar 2) (tC (.int 0)))) (tPar 1 2 (tCons (tVar 2) (tCons (tOp rModI (tVar 1) (tVar 2)) tNil)))))
  (tRet (tVar 1))))
def t_strip (K : PySem.W.Frag) : TS :=
  (tRet (tLstRg (tRg2 (tUn rNegI (tOp (rIxL K) (tVar 0) (tUn rNegI (tC (.int 1))))) (tOp rAddI (tVar 1) (tOp (rIxL K) (tVar 0) (tUn rNegI (tC (.int 1))))))))
def t_heights_of (K : PySem.W.Frag) : TS :=
  (tSeq (tAsg (tCall (sp_strip K) [] E0 (tCons (tVar 0) (tCons (tVar 1) tNil))) (gName 2))
  (tSeq (tAsg (tOp rRep (tLst (tCons (tUn rNegI (tC (.int 1))) tNil)) (tCB (rLenS K) (tCons (tVar 2) tNil))) (gName 3))
  (tSeq (tAsg (tC (.int 0)) (gSub (tVar 3) (tOp (rIxL K) (tVar 0) (tUn rNegI (tC (.int 1)))) rSetL))
  (tSeq (tAsg (tLst (tCons (tOp (rIxL K) (tVar 0) (tUn rNegI (tC (.int 1)))) tNil)) (gName 4))
  (tSeq (tWhile (tTest (tOp (rNeD K) (tVar 4) (tLst tNil))) (tSeq (tAsg (tBM K "list" rPopAt (tVar 4) (tCons (tC (.int 0)) tNil)) (gName 5))
  (tFor (iList K (tVar 0)) (gName 6) (tFor (iTup K (tTup (tCons (tOp rSubI (tVar 5) (tVar 6)) (tCons (tOp rAddI (tVar 5) (tVar 6)) tNil)))) (gName 7) (tIfS (tAnd (tTest (tChain rLeI rLtI (tC (.int 0)) (tVar 7) (tCB (rLenS K) (tCons (tVar 2) tNil)))) (tTest (tOp rLtI (tOp (rIxL K) (tVar 3) (tVar 7)) (tC (.int 0))))) (tSeq (tAsg (tOp rAddI (tOp (rIxL K) (tVar 3) (tVar 5)) (tC (.int 1))) (gSub (tVar 3) (tVar 7) rSetL))
  (tDrop (tBM K "list" rAppend (tVar 4) (tCons (tVar 7) tNil)))) tNext)))))
  (tRet (tVar 3)))))))
def t_fewest (K : PySem.W.Frag) : TS :=
  (tSeq (tDrop (tCall (sp_check_coins K) [] E0 (tCons (tVar 0) tNil)))
  (tSeq (tDrop (tCall (sp_check_amount K) [] E0 (tCons (tVar 1) (tCons (tUn rNegI (tC (.int 1))) tNil))))
  (tSeq (tIfS (tTest (tOp rGtI (tOp rModI (tVar 1) (tCall (sp_common K) [] E0 (tCons (tVar 0) tNil))) (tC (.int 0)))) tNever tNext)
  (tSeq (tAsg (tOp (rIxL K) (tVar 0) (tUn rNegI (tC (.int 1)))) (gName 2))
  (tSeq (tAsg (tCB rMax2 (tCons (tC (.int 0)) (tCons (tOp rDivI (tOp rSubI (tVar 1) (tOp rMulI (tVar 2) (tVar 2))) (tVar 2)) tNil))) (gName 3))
  (tSeq (tAsg (tOp rSubI (tVar 1) (tOp rMulI (tVar 3) (tVar 2))) (gName 4))
  (tRet (tOp rAddI (tVar 3) (tOp (rIxL K) (tCall (sp_heights_of K) [] E0 (tCons (tVar 0) (tCons (tVar 4) tNil))) (tOp rAddI (tVar 2) (tVar 4)))))))))))
def t__law_cell_at (K : PySem.W.Frag) : TS :=
  (tSeq (tIfS (tTest (tOp rLtI (tVar 1) (tCB (rLenS K) (tCons (tVar 0) tNil)))) (tRet (tOp (rIxL K) (tVar 0) (tVar 1))) tNext)
  (tRet (tC (.int 0))))
def t__law_draw (K : PySem.W.Frag) : TS :=
  (tSeq (tAsg (tTup (tCons (tC (.int 1000003)) (tCons (tC (.int 1000033)) (tCons (tC (.int 1000037)) (tCons (tC (.int 1000039)) (tCons (tC (.int 1000081)) (tCons (tC (.int 1000099)) (tCons (tC (.int 1000117)) (tCons (tC (.int 1000121)) (tCons (tC (.int 1000133)) (tCons (tC (.int 1000151)) (tCons (tC (.int 1000159)) (tCons (tC (.int 1000171)) (tCons (tC (.int 1000183)) (tCons (tC (.int 1000187)) (tCons (tC (.int 1000193)) (tCons (tC (.int 1000199)) tNil))))))))))))))))) (gName 3))
  (tRet (tOp rModI (tOp rModI (tOp rAddI (tOp rMulI (tVar 0) (tC (.int 48271))) (tOp rMulI (tVar 1) (tC (.int 69621)))) (tOp (rIxT K) (tVar 3) (tOp rModI (tVar 1) (tC (.int 16))))) (tVar 2))))
def t__law_number (K : PySem.W.Frag) : TS :=
  (tSeq (tIfS (tTest (tOp rGeI (tVar 0) (tOp rPowI (tC (.int 10)) (tC (.int 18))))) (tRet (tOp rModI (tOp rDivI (tOp rSubI (tVar 0) (tOp rPowI (tC (.int 10)) (tC (.int 18)))) (tOp (rIxT K) (tTup (tCons (tC (.int 1)) (tCons (tC (.int 7)) (tCons (tC (.int 49)) (tCons (tC (.int 343)) (tCons (tC (.int 2401)) tNil)))))) (tOp rModI (tVar 1) (tC (.int 5))))) (tVar 2))) tNext)
  (tRet (tOp rModI (tCall (sp__law_draw K) [] E0 (tCons (tOp rMulI (tOp rAddI (tVar 0) (tOp rMulI (tC (.int 977)) (tVar 1))) (tOp rAddI (tOp rAddI (tVar 0) (tOp rMulI (tC (.int 31)) (tVar 1))) (tC (.int 5)))) (tCons (tOp rAddI (tOp rModI (tVar 1) (tC (.int 9))) (tC (.int 1))) (tCons (tC (.int 999983)) tNil)))) (tVar 2))))
def t__law_coins (K : PySem.W.Frag) (w : World) : TS :=
  (tSeq (tAsg (tCall (sp__law_cell_at K) [] E0 (tCons (tVar 0) (tCons (tVar 1) tNil))) (gName 4))
  (tSeq (tAsg (tOp (rIxT K) (tTup (tCons (tC (.int 1)) (tCons (tC (.int 1)) (tCons (tC (.int 1)) (tCons (tC (.int 2)) (tCons (tC (.int 3)) tNil)))))) (tCall (sp__law_number K) [] E0 (tCons (tVar 4) (tCons (tOp rAddI (tVar 1) (tC (.int 1))) (tCons (tC (.int 5)) tNil))))) (gName 5))
  (tSeq (tAsg (tLst tNil) (gName 6))
  (tSeq (tFor (iRng1 (tCons (tOp rAddI (tC (.int 1)) (tCall (sp__law_number K) [] E0 (tCons (tVar 4) (tCons (tOp rAddI (tVar 1) (tC (.int 2))) (tCons (tVar 2) tNil))))) tNil)) (gName 7) (tDrop (tBM K "list" rAppend (tVar 6) (tCons (tOp rMulI (tVar 5) (tOp rAddI (tC (.int 1)) (tCall (sp__law_number K) [] E0 (tCons (tOp rAddI (tCall (sp__law_cell_at K) [] E0 (tCons (tVar 0) (tCons (tOp rAddI (tVar 1) (tVar 7)) tNil))) (tOp rMulI (tC (.int 31)) (tVar 7))) (tCons (tOp rAddI (tOp rAddI (tVar 1) (tVar 7)) (tC (.int 3))) (tCons (tOp rDivI (tVar 3) (tVar 5)) tNil)))))) tNil))))
  (tRet (tCB (rSortedSet w) (tCons (tCB (rSetI K w) (tCons (tVar 6) tNil)) tNil)))))))
def t__law_common (K : PySem.W.Frag) : TS :=
  (tRet (tOp (rIxL K) (tLc (iRng2 (tCons (tC (.int 1)) (tCons (tOp rAddI (tOp (rIxL K) (tVar 0) (tC (.int 0))) (tC (.int 1))) tNil))) (gName 1) (tB (tCB (rAll K) (tCons (tLc (iList K (tVar 0)) (gName 2) tYes (tOp rEq (tOp rModI (tVar 2) (tVar 1)) (tC (.int 0))) [2]) tNil))) (tVar 1) [1]) (tUn rNegI (tC (.int 1)))))
end Cb

set_option Elab.async false
set_option linter.all false
set_option maxRecDepth 100000
set_option maxHeartbeats 4000000
/-! Each reading keeps its promise: the program's defs. -/
namespace Cb
open PySem PySem.Spec PyProof.Rows L2 Evl Chg
section
variable {K : PySem.W.Frag} {vs : List V} {H : Hp} {Q : VK} {E : XK}
abbrev endsOf (Q : VK) : Ends := { nx := fun _ H' => Q .non H', rt := Q }
theorem len_is_number (h : sp_is_number K vs H Q E) : vs.length = (["thing"] : List Str).length := by
  obtain ⟨v, T, b1, b2, rfl, _⟩ := h
  rfl
theorem pure_is_number (h : sp_is_number K vs H Q E) : t_is_number K (endsOf Q) (start ["thing"] vs) H := by
  obtain ⟨v, T, b1, b2, rfl, ty, e1, e2, q⟩ := h
  refine s_ret (v := .bl (b1 && !b2)) ?_ fun H1 e => q H1 e
  exact ev_andV (ev_isi (ev_var rfl) ty e1) fun _ => ev_notV (ev_isi (ev_var rfl) ty e2)
theorem is_int {i : Int} (hq : RetV (.bl true) H Q) : sp_is_number K [.int i] H Q E :=
  ⟨.int i, "int", true, false, rfl, fun _ _ => .base (.int i), by decide +kernel, by decide +kernel, hq⟩
theorem ev_isnum {σ : L2.St} {te : TE} {i : Int} (h : Ev te σ H (.int i)) : Ev (tCall (sp_is_number K) [] E (tCons te tNil)) σ H (.bl true) :=
  ev_callV (ea_cons h ea_nil) fun H1 _ Q q => is_int q

theorem len_check_coins (h : sp_check_coins K vs H Q E) : vs.length = (["coins"] : List Str).length := by
  obtain ⟨p, cs, rfl, _⟩ := h
  rfl
theorem all_map_true {α : Type} {xs : List α} {f : α → Bool} (h : ∀ x ∈ xs, f x = true) : (xs.map f).all id = true := by
  rw [List.all_map, List.all_eq_true]
  exact fun x hx => h x hx
theorem any_zip_false {cs : List Int} (h : cs.Pairwise (· < ·)) : (List.zipWith (fun a b : Int => decide (b ≤ a)) cs (cs.drop 1)).any id = false := by
  rw [Bool.eq_false_iff]
  intro hx
  obtain ⟨b, hb, e⟩ := List.any_eq_true.mp hx
  obtain ⟨i, hi, rfl⟩ := List.mem_iff_getElem.mp hb
  rw [List.length_zipWith, List.length_drop] at hi
  rw [List.getElem_zipWith, List.getElem_drop] at e
  have := List.pairwise_iff_getElem.mp h i (1 + i) (by omega) (by omega) (by omega)
  simp at e
  omega
theorem cut_one (xs : List V) : cutV xs (some 1) none = xs.drop 1 := by
  unfold cutV
  rw [show HT.sIx xs.length 0 (some 1) = min 1 xs.length from HT.sIx_nat xs.length 0 1, HT.sIx_none]
  cases xs with
  | nil => rfl
  | cons x r =>
    rw [show min 1 (x :: r).length = 1 by
      rw [List.length_cons]
      omega]
    rw [List.take_of_length_le (by rw [List.length_drop]; exact Nat.le_refl _)]
theorem pure_check_coins (h : sp_check_coins K vs H Q E) : t_check_coins K (endsOf Q) (start ["coins", "worth", "one", "other"] vs) H := by
  obtain ⟨p, cs, rfl, hp, hc, q⟩ := h
  have len : (cs.map V.int).length = cs.length := List.length_map ..
  have h1 := hc.one
  have h6 := hc.six
  refine q_when (b := false) ?_ (fun z => nomatch z) fun _ H1 e1 => ?_
  · refine et_is (et_or (a := false) (b := false) (et_is (et_not (et_B (ev_isi (T := "list") (b := true) (ev_var rfl) (fun H1 e => .base (.lst (e p _ hp))) (by decide +kernel)))) rfl) fun _ => et_is (et_not (et_chain (ev_chain (a := true) (b := true) ev_c (ev_len (ev_var rfl) (sq_of hp)) ?_ (fun _ => ev_c) fun _ => ?_))) rfl) rfl
    · have : RV (H := H) rLeI (.int 1) (.int ((cs.map V.int).length : Int)) (.bl (decide ((1 : Int) ≤ ((cs.map V.int).length : Int)))) := rv_I0
      rw [decide_eq_true (by rw [len]; omega)] at this
      exact this
    · have : RV (H := H) rLeI (.int ((cs.map V.int).length : Int)) (.int 6) (.bl (decide (((cs.map V.int).length : Int) ≤ 6))) := rv_I0
      rw [decide_eq_true (by rw [len]; omega)] at this
      exact this
  have hp1 := e1 p _ hp
  refine q_when (b := false) ?_ (fun z => nomatch z) fun _ H2 e2 => ?_
  · refine et_is (a := !true) (et_not (et_B ?_)) rfl
    have := ev_allL (K := K) (bs := (cs.map V.int).map fun _ => true) (σ := start ["coins", "worth", "one", "other"] [.ref p]) (H := H1) (te := tLc (iList K (tVar 0)) (gName 1) tYes (tAndV (tCall (sp_is_number K) [] E0 (tCons (tVar 1) tNil)) (tChain rLeI rLeI (tC (.int 1)) (tVar 1) (tC (.int 30)))) [1]) ?_
    · rw [all_map_true fun _ _ => rfl] at this
      exact this
    rw [List.map_map]
    refine el_lcY (fun _ => .bl true) (ev_var rfl) (sq_of hp1) (by rw [len]; omega) (fun _ => rfl) fun x H3 hx e3 => ?_
    obtain ⟨w, hw, rfl⟩ := List.mem_map.mp hx
    have hb := hc.wor w hw
    refine ev_eq (ev_andV (a := true) (b := true) (ev_isnum (ev_var rfl)) fun _ => ev_chain (a := true) (b := true) ev_c (ev_var rfl) ?_ (fun _ => ev_c) fun _ => ?_) rfl
    · have : RV (H := H3) rLeI (.int 1) (.int w) (.bl (decide ((1 : Int) ≤ w))) := rv_I0
      rw [decide_eq_true hb.1] at this
      exact this
    · have : RV (H := H3) rLeI (.int w) (.int 30) (.bl (decide (w ≤ (30 : Int)))) := rv_I0
      rw [decide_eq_true hb.2] at this
      exact this
  have hp2 := e2 p _ hp1
  refine s_when (b := false) ?_ (fun z => nomatch z) fun _ H3 e3 => q H3 ((e1.trans e2).trans e3)
  refine et_B ?_
  have := ev_anyL (K := K) (bs := List.zipWith (fun a b : Int => decide (b ≤ a)) cs (cs.drop 1)) (σ := start ["coins", "worth", "one", "other"] [.ref p]) (H := H2)
    (te := tLc (iZip K (tCons (tVar 0) (tCons (tSl (rSlL K) (tVar 0) (tPart (tC (.int 1))) tNoPart) tNil))) (gTup K 2 (gCons (gName 2) (gCons (gName 3) gNil))) tYes (tOp rGeI (tVar 2) (tVar 3)) [2, 3]) ?_
  · rw [any_zip_false hc.ris] at this
    exact this
  refine el_eq (el_lcZ (a := p) (b := p) (xs := cs.map V.int) (ys := (cs.drop 1).map V.int) (fun x y => match x, y with | .int a, .int b => .bl (decide (b ≤ a)) | _, _ => .non) (fun H3 e3 Q' k => ?_) (by rw [len]; omega) (fun _ _ => rfl) fun i x y H3 hx hy e3 => ?_) ?_
  · refine ⟨.ref p, rfl, ?_⟩
    refine el_go (el_sl (K := K) (ev_var rfl) (eo_some ev_c) eo_none (sq_of (e3 p _ hp2))) fun c H4 hc4 e4 h4 => ?_
    refine k p c H4 e4 (sq_of (e4 p _ (e3 p _ hp2))) (sq_of ?_)
    rw [h4, cut_one, List.map_drop]
  · obtain ⟨a, ha, rfl⟩ := List.mem_map.mp (List.mem_of_getElem? hx)
    obtain ⟨b, hb, rfl⟩ := List.mem_map.mp (List.mem_of_getElem? hy)
    exact ev_cmp (p := fun i j => decide (j ≤ i)) (ev_var rfl) (ev_var rfl)
  · rw [List.zipWith_map, List.map_zipWith]
theorem len_check_amount (h : sp_check_amount K vs H Q E) : vs.length = (["amount", "most"] : List Str).length := by
  obtain ⟨a, m, rfl, _⟩ := h
  rfl
theorem pure_check_amount (h : sp_check_amount K vs H Q E) : t_check_amount K (endsOf Q) (start ["amount", "most"] vs) H := by
  obtain ⟨a, m, rfl, h0, hm, q⟩ := h
  refine s_when (b := false) ?_ (fun z => nomatch z) fun _ H3 e3 => q H3 e3
  refine et_is (et_or (a := false) (b := false) (et_is (et_not (et_B (ev_isnum (ev_var rfl)))) rfl) fun _ => et_is (et_or (a := false) (b := false) (et_is (et_test (ev_cmp (p := fun i j => decide (i < j)) (ev_var rfl) ev_c)) (decide_eq_false (by omega))) fun _ =>
    et_is (et_chain (ev_chain (a := decide ((0 : Int) ≤ m)) (b := decide (m < a)) ev_c (ev_var rfl) rv_I0 (fun _ => ev_var rfl) fun _ => rv_I0)) ?_) rfl) rfl
  by_cases z : 0 ≤ m
  · have := hm z
    rw [decide_eq_false (show ¬ m < a by omega), Bool.and_false]
  · rw [decide_eq_false z, Bool.false_and]
theorem len_common (h : sp_common K vs H Q E) : vs.length = (["numbers"] : List Str).length := by
  obtain ⟨p, cs, rfl, _⟩ := h
  rfl
theorem gc_take {cs : List Int} {i : Nat} {w : Int} (h : cs[i]? = some w) : gc (cs.take (i + 1)) = Int.gcd (gc (cs.take i)) w := by
  unfold gc
  rw [List.take_add_one, h, List.foldl_append]
  rfl
theorem pure_common (h : sp_common K vs H Q E) : t_common K (endsOf Q) (start ["numbers", "found", "number"] vs) H := by
  obtain ⟨p, cs, rfl, hp, hw, hl, q⟩ := h
  refine q_asg ev_c fun H1 e1 => ?_
  refine q_forLn (xs := cs.map V.int) (ev_var rfl) (sq_of (e1 p _ hp)) (fun i σ' H' => Ex H1 H' ∧ ∃ y, σ' = [some (.ref p), some (.int (gc (cs.take i))), y]) (fun H2 e2 => ⟨e2, none, rfl⟩) (fun i σ' H' _ hP => sq_of (hP.1 p _ (e1 p _ hp))) (fun i x σ' H' hx hP => ?_) fun σ' H' hP => ?_
  · obtain ⟨e2, y, rfl⟩ := hP
    obtain ⟨w, hw1, rfl⟩ : ∃ w, cs[i]? = some w ∧ x = .int w := by
      rw [List.getElem?_map] at hx
      cases e : cs[i]? with
      | none => rw [e] at hx; cases hx
      | some w => rw [e] at hx; exact ⟨w, rfl, (Option.some.inj hx).symm⟩
    have w0 := hw w (List.mem_of_getElem? hw1)
    refine s_while (fun m σ2 H2 => Ex H1 H2 ∧ ∃ f n : Int, σ2 = [some (.ref p), some (.int f), some (.int n)] ∧ 0 ≤ f ∧ 0 ≤ n ∧ Int.gcd f n = Int.gcd (gc (cs.take i)) w ∧ m = n.toNat) w.toNat ⟨e2, _, _, rfl, gc_nonneg _, w0, rfl, rfl⟩ fun m σ2 H2 hW => ?_
    obtain ⟨e3, f, n, rfl, f0, n0, hg, rfl⟩ := hW
    refine ⟨decide (0 < n), et_test (ev_cmp (p := fun i j => decide (j < i)) (ev_var rfl) ev_c), fun hb H3 e4 => ?_, fun hb H3 e4 => ?_⟩
    · have hn : 0 < n := of_decide_eq_true hb
      refine ⟨fun σ3 H3 => Ex H1 H3 ∧ ∃ f' n' : Int, σ3 = [some (.ref p), some (.int f'), some (.int n')] ∧ 0 ≤ f' ∧ 0 ≤ n' ∧ Int.gcd f' n' = Int.gcd (gc (cs.take i)) w ∧ n' < n, fun σ3 H3 hN => ?_, ?_⟩
      · obtain ⟨e5, f', n', rfl, a, b, c, d⟩ := hN
        exact ⟨n'.toNat, by omega, e5, f', n', rfl, a, b, c, rfl⟩
      · refine ⟨.int n, rfl, ?_⟩
        refine ev_go (ev_mod (ev_var rfl) (ev_var rfl) hn) fun H4 e5 => ⟨.int n, .int (f % n), rfl, (e3.trans e4).trans e5, n, f % n, rfl, n0, Int.emod_nonneg _ (by omega), ?_, Int.emod_lt_of_pos _ hn⟩
        rw [gcd_step f0 hn]
        exact hg
    · have hn : ¬ 0 < n := of_decide_eq_false hb
      have e0 : n = 0 := by omega
      subst e0
      refine ⟨e3.trans e4, some (.int 0), ?_⟩
      rw [gc_take hw1, ← hg]
      have : (Int.gcd f 0 : Int) = f := by rw [Int.gcd_zero_right]; omega
      rw [this]
  · obtain ⟨e2, y, rfl⟩ := hP
    refine s_ret (ev_var rfl) fun H3 e3 => ?_
    rw [List.length_map, List.take_length]
    exact q H3 ((e1.trans e2).trans e3)
theorem len_strip (h : sp_strip K vs H Q E) : vs.length = (["coins", "amount"] : List Str).length := by
  obtain ⟨p, cs, a, rfl, _⟩ := h
  rfl
theorem pure_strip (h : sp_strip K vs H Q E) : t_strip K (endsOf Q) (start ["coins", "amount"] vs) H := by
  obtain ⟨p, cs, a, rfl, hp, ne, ht, ha, q⟩ := h
  have top : ∀ H1, Ex H H1 → Ev (tOp (rIxL K) (tVar 0) (tUn rNegI (tC (.int 1)))) (start ["coins", "amount"] [.ref p, .int a]) H1 (.int (topC cs)) := fun H1 e => ev_ixL (ev_var rfl) ev_m1 (sq_of (e p _ hp)) (topC_at ne)
  refine ev_go (Q := fun x H1 => _) (ev_neg (top H (Ex.refl H))) fun H1 e1 => ?_
  refine ev_go (Q := fun x H1 => _) (ev_add (ev_var (v := .int a) rfl) (top H1 e1)) fun H2 e2 => ⟨-topC cs, a + topC cs, rfl, rfl, ⟨by omega, by omega, by omega, by omega, by omega⟩, fun l hl => ?_⟩
  exact q l _ (fresh_back (e1.trans e2) hl) ((e1.trans e2).trans (Ex.new hl)) upd_same
end
end Cb

set_option Elab.async false
set_option linter.all false
set_option maxRecDepth 100000
set_option maxHeartbeats 4000000
/-! heights_of, fewest. -/
namespace Cb
open PySem PySem.Spec PyProof.Rows L2 Evl Chg
/-! ### == of lists of ints -/
theorem eqvAll_ints : ∀ xs ys : List Int, PyData.eqvAll (xs.map PyData.int) (ys.map PyData.int) = decide (xs = ys)
  | [], [] => by simp [PyData.eqvAll]
  | [], _ :: _ => by simp [PyData.eqvAll]
  | _ :: _, [] => by simp [PyData.eqvAll]
  | a :: r, b :: t => by
    rw [List.map_cons, List.map_cons, PyData.eqvAll, eqvAll_ints r t, PyData.eqv]
    by_cases h : a = b <;> by_cases h' : r = t <;> simp [h, h']
theorem eqv_ints (xs ys : List Int) : PyData.eqv (.list (xs.map PyData.int)) (.list (ys.map PyData.int)) = decide (xs = ys) := by
  rw [PyData.eqv]; exact eqvAll_ints xs ys
theorem dpAll_ints {K : PySem.W.Frag} {H : Hp} : ∀ xs : List Int, DpAll K H (xs.map V.int) (xs.map PyData.int)
  | [] => .nil
  | x :: r => .cons (.int x) (dpAll_ints r)
theorem dp_ints {K : PySem.W.Frag} {H : Hp} {p : Addr} {xs : List Int} (h : SqL K H p (xs.map V.int)) : Dp K H (.ref p) (.list (xs.map PyData.int)) := .lst h (dpAll_ints xs)
theorem flat_rep (x : V) : ∀ n : Nat, (List.replicate n [x]).flatten = List.replicate n x
  | 0 => rfl
  | n + 1 => by rw [List.replicate_succ, List.flatten_cons, List.replicate_succ, flat_rep x n]; rfl
section
variable {K : PySem.W.Frag} {σ : L2.St} {H : Hp} {ta tb : TE} {D : Ends}
theorem rv_neL {p q : Addr} {xs ys : List Int} (h1 : SqL K H p (xs.map V.int)) (h2 : SqL K H q (ys.map V.int)) : RV (rNeD K) (.ref p) (.ref q) H (.bl (!decide (xs = ys))) := fun H1 e Q k =>
  ⟨_, _, dp_ints (ex_l e h1), dp_ints (ex_l e h2), PySem.W.ke_shaped_ints _, PySem.W.ke_shaped_ints _, by rw [eqv_ints]; exact k H1 (Ex.refl H1)⟩
theorem rv_eqL {p q : Addr} {xs ys : List Int} (h1 : SqL K H p (xs.map V.int)) (h2 : SqL K H q (ys.map V.int)) : RV (rEqD K) (.ref p) (.ref q) H (.bl (decide (xs = ys))) := fun H1 e Q k =>
  ⟨_, _, dp_ints (ex_l e h1), dp_ints (ex_l e h2), PySem.W.ke_shaped_ints _, PySem.W.ke_shaped_ints _, by rw [eqv_ints]; exact k H1 (Ex.refl H1)⟩
/-- xs != [..] -/
theorem ev_neN {p : Addr} {xs ys : List Int} (ha : Ev ta σ H (.ref p)) (hp : SqL K H p (xs.map V.int)) (hb : EvL tb σ H (ys.map V.int)) : Ev (tOp (rNeD K) ta tb) σ H (.bl (!decide (xs = ys))) :=
  ev_opL ha hb fun q H1 hq e => rv_neL (ex_l e hp) (sq_of hq)
/-- x = xs.pop(0) -/
theorem s_pop0 {l : Addr} {x : V} {r : List V} {i : Nat} (ha : Ev ta σ H (.ref l)) (hl : H l = some (.lst (x :: r))) (k : ∀ H1, Ex H H1 → D.nx (σ.set i (some x)) (upd H1 l (.lst r))) :
    tAsg (tBM K "list" rPopAt ta (tCons (tC (.int 0)) tNil)) (gName i) D σ H := ha H (Ex.refl H) _ fun H1 e1 =>
  ⟨Or.inl ⟨rfl, x :: r, sq_of (e1 l _ hl)⟩, l, x :: r, 0, 0, x, rfl, rfl, e1 l _ hl, by decide, by decide, seqIndex_of (by decide) (by rw [List.length_cons]; omega), rfl, k H1 e1⟩
/-- for over a new tuple -/
theorem s_forNU {xs : List V} {tl : TE} {g : TG} {tu : TS} (h : EvU tl σ H xs) (k : ∀ p H1, H p = none → Ex H H1 → H1 p = some (.tup xs) → ∃ Pv : Nat → L2.St → Hp → Prop, Pv 0 σ H1 ∧ (∀ i σ' H', i ≤ xs.length → Pv i σ' H' → SqT K H' p xs) ∧
    (∀ i x σ' H', xs[i]? = some x → Pv i σ' H' → g x σ' H' fun σ2 H2 => tu { D with nx := Pv (i + 1), ct := Pv (i + 1), bk := D.nx } σ2 H2) ∧ ∀ σ' H', Pv xs.length σ' H' → D.nx σ' H') : tFor (iTup K tl) g tu D σ H :=
  h H (Ex.refl H) _ fun p H1 hp e h1 => ⟨p, rfl, ⟨xs, st_of h1⟩, by
    obtain ⟨Pv, a, b, c, d⟩ := k p H1 hp e h1
    exact for_tup Pv a b c d⟩
/-- [x] * n -/
theorem el_rep1 {x : V} {n : Nat} (ha : EvL ta σ H [x]) (hb : ∀ H1, Ex H H1 → Ev tb σ H1 (.int (n : Int))) (hn : n ≤ 100000) : EvL (tOp rRep ta tb) σ H (List.replicate n x) := fun H1 e Q q =>
  ha H1 e _ fun p H2 hp e2 h2 => hb H2 (e.trans e2) H2 (Ex.refl H2) _ fun H3 e3 => ⟨p, n, [x], rfl, rfl, e3 p _ h2, by omega, by omega, by
    show 1 * (n : Int).toNat ≤ sizeLine
    rw [Int.toNat_natCast, Nat.one_mul]; exact sz_of hn, fun l hl => by
    have er : (List.replicate (n : Int).toNat [x]).flatten = List.replicate n x := by rw [Int.toNat_natCast]; exact flat_rep x n
    rw [er]
    exact q l _ (fresh_back (e2.trans e3) hl) ((e2.trans e3).trans (Ex.new hl)) upd_same⟩
end
/-! ### heights_of -/
section
variable {K : PySem.W.Frag} {vs : List V} {H : Hp} {Q : VK} {E : XK}
theorem len_heights_of (h : sp_heights_of K vs H Q E) : vs.length = (["coins", "amount"] : List Str).length := by
  obtain ⟨p, cs, a, rfl, _⟩ := h
  rfl
/-- found at fo, turn at tu, over what stood in H1 -/
structure HW (H1 : Hp) (fo tu : Addr) (F T : List Int) (H' : Hp) : Prop where
  ex : Ex H1 H'
  nf : H1 fo = none
  nt : H1 tu = none
  ne : fo ≠ tu
  fo : Il H' fo F
  tu : Il H' tu T
theorem HW.mono {H1 H' H'' : Hp} {fo tu : Addr} {F T : List Int} (h : HW H1 fo tu F T H') (e : Ex H' H'') : HW H1 fo tu F T H'' := ⟨h.ex.trans e, h.nf, h.nt, h.ne, e _ _ h.fo, e _ _ h.tu⟩
theorem HW.setF {H1 H' : Hp} {fo tu : Addr} {F T F' : List Int} (h : HW H1 fo tu F T H') : HW H1 fo tu F' T (upd H' fo (.lst (F'.map V.int))) :=
  ⟨h.ex.mut h.nf, h.nf, h.nt, h.ne, upd_same, by rw [Il, upd_ne h.ne.symm]; exact h.tu⟩
theorem HW.setT {H1 H' : Hp} {fo tu : Addr} {F T T' : List Int} (h : HW H1 fo tu F T H') : HW H1 fo tu F T' (upd H' tu (.lst (T'.map V.int))) :=
  ⟨h.ex.mut h.nt, h.nf, h.nt, h.ne, by rw [Il, upd_ne h.ne]; exact h.fo, upd_same⟩
theorem rgV_len {a b : Int} : (rgV a b).length = (b - a).toNat := rgV_length a b
/-- one neighbour -/
theorem visit_step {D : Ends} {H1 H' : Hp} {p pl fo tu : Addr} {a here there n : Int} {y6 : Option V} {F T : List Int} {xs : List V} (hw : HW H1 fo tu F T H') (hpl : H1 pl = some (.lst xs)) (hn : (xs.length : Int) = n) (hF : (F.length : Int) = n) (hn2 : n ≤ 50000)
    (h0 : 0 ≤ here) (h1 : here < n) (hT : T.length < 50000)
    (k : ∀ H'', HW H1 fo tu (visit here (F, T) there).1 (visit here (F, T) there).2 H'' → (∀ b o, b ≠ fo → b ≠ tu → H' b = some o → H'' b = some o) → D.nx [some (.ref p), some (.int a), some (.ref pl), some (.ref fo), some (.ref tu), some (.int here), y6, some (.int there)] H'') :
    tIfS (tAnd (tTest (tChain rLeI rLtI (tC (.int 0)) (tVar 7) (tCB (rLenS K) (tCons (tVar 2) tNil)))) (tTest (tOp rLtI (tOp (rIxL K) (tVar 3) (tVar 7)) (tC (.int 0)))))
      (tSeq (tAsg (tOp rAddI (tOp (rIxL K) (tVar 3) (tVar 5)) (tC (.int 1))) (gSub (tVar 3) (tVar 7) rSetL)) (tDrop (tBM K "list" rAppend (tVar 4) (tCons (tVar 7) tNil)))) tNext D
      [some (.ref p), some (.int a), some (.ref pl), some (.ref fo), some (.ref tu), some (.int here), y6, some (.int there)] H' := by
  have lF : (F.map V.int).length = F.length := List.length_map ..
  refine s_when (b := (decide (0 ≤ there) && decide (there < n)) && decide (ent F there < 0)) ?_ (fun hb H2 e2 => ?_) fun hb H2 e2 => ?_
  · refine et_and (et_chain (ev_chain (a := decide (0 ≤ there)) (b := decide (there < n)) ev_c (ev_var rfl) rv_I0 (fun _ => ev_eq (ev_len (ev_var rfl) (sq_of (hw.ex _ _ hpl))) (by rw [hn])) fun _ => rv_I0)) fun hb => ?_
    rw [Bool.and_eq_true, decide_eq_true_eq, decide_eq_true_eq] at hb
    exact et_test (ev_cmp (p := fun i j => decide (i < j)) (ev_ixL (ev_var rfl) (ev_var rfl) (sq_of hw.fo) (atI_int hb.1 (by omega))) ev_c)
  · rw [Bool.and_eq_true, Bool.and_eq_true, decide_eq_true_eq, decide_eq_true_eq, decide_eq_true_eq] at hb
    obtain ⟨⟨b0, b1⟩, b2⟩ := hb
    have hw2 := hw.mono e2
    have ev : visit here (F, T) there = (F.set there.toNat (ent F here + 1), T ++ [there]) := if_pos ⟨b0, by show there < (F.length : Int); omega, b2⟩
    rw [ev] at k
    refine q_setL (xs := F.map V.int) (j := there.toNat) hw2.fo (ev_add (ev_ixL (ev_var rfl) (ev_var rfl) (sq_of hw2.fo) (atI_int h0 (by omega))) ev_c) (ev_var rfl) (ev_eq (ev_var rfl) (by rw [show ((there.toNat : Nat) : Int) = there by omega])) (by omega) fun H3 e3 => ?_
    have e4 : (F.map V.int).set there.toNat (.int (ent F here + 1)) = (F.set there.toNat (ent F here + 1)).map V.int := by rw [List.map_set]
    rw [e4]
    have hw3 := (hw2.mono e3).setF (F' := F.set there.toNat (ent F here + 1))
    refine s_app hw3.tu (ev_var rfl) (ev_var rfl) (by rw [List.length_map]; omega) fun H4 e5 => ?_
    have e6 : T.map V.int ++ [V.int there] = (T ++ [there]).map V.int := by rw [List.map_append]; rfl
    rw [e6]
    refine k _ ((hw3.mono e5).setT) fun b o n1 n2 hb => ?_
    rw [upd_ne n2]
    refine e5 _ _ ?_
    rw [upd_ne n1]
    exact e3 _ _ (e2 _ _ hb)
  · have ev : visit here (F, T) there = (F, T) := if_neg (by
      rintro ⟨z0, z1, z2⟩
      dsimp only at z0 z1 z2
      rw [decide_eq_true z0, decide_eq_true (show there < n by omega), decide_eq_true z2] at hb
      cases hb)
    rw [ev] at k
    exact k H2 (hw.mono e2) fun b o _ _ hb => e2 _ _ hb
theorem get_int {cs : List Int} {i : Nat} {x : V} (h : (cs.map V.int)[i]? = some x) : ∃ w, cs[i]? = some w ∧ x = .int w := by
  rw [List.getElem?_map] at h
  cases e : cs[i]? with
  | none => rw [e] at h; cases h
  | some w => rw [e] at h; exact ⟨w, rfl, (Option.some.inj h).symm⟩
theorem mem_take_succ {cs : List Int} {i : Nat} {w x : Int} (h : cs[i]? = some w) (hx : x ∈ cs.take (i + 1)) : x ∈ cs.take i ∨ x = w := by
  rw [List.take_add_one, h] at hx
  rcases List.mem_append.mp hx with z | z
  · exact .inl z
  · exact .inr (by simpa using z)
theorem _root_.Chg.Be.weak {cs : List Int} {n g here d : Int} {S S' : Int → Prop} {F T : List Int} (h : Be cs n g here d S F T) (hS : ∀ s, S' s → S s) : Be cs n g here d S' F T :=
  { toBst := h.toBst, h0 := h.h0, hn := h.hn, hd := h.hd, d0 := h.d0, turn := h.turn, srt := h.srt, top := h.top, done := h.done, mine := fun s hs => h.mine s (hS s hs) }
theorem be_len_ok {cs : List Int} {n g here d : Int} {S : Int → Prop} {F T : List Int} {M : Nat} (h : negs F + T.length = M) (hM : M < 50000) : T.length < 50000 := by omega
theorem negs_le (F : List Int) : negs F ≤ F.length := List.countP_le_length
theorem pure_heights_of (h : sp_heights_of K vs H Q E) : t_heights_of K (endsOf Q) (start ["coins", "amount", "places", "found", "turn", "here", "worth", "there"] vs) H := by
  obtain ⟨p, cs, a, rfl, hp, hc, ha, q⟩ := h
  have ht := hc.top
  have ne := hc.ne
  generalize hg : topC cs = g at ht
  have topEv : ∀ {σ : L2.St} {H1 : Hp}, Ex H H1 → σ[0]? = some (some (.ref p)) → Ev (tOp (rIxL K) (tVar 0) (tUn rNegI (tC (.int 1)))) σ H1 (.int g) := fun e hs => hg ▸ ev_ixL (ev_var hs) ev_m1 (sq_of (e p _ hp)) (topC_at ne)
  generalize hn : a + 2 * g = n
  -- places
  refine q_asgL (xs := rgV (-g) (a + g)) (el_callL (ea_cons (ev_var rfl) (ea_cons (ev_var rfl) ea_nil)) fun H1 e1 Q' q' => ⟨p, cs, a, rfl, e1 p _ hp, ne, by omega, by omega, by rw [hg]; exact q'⟩) fun pl H1 npl e1 hpl => ?_
  have lpl : ((rgV (-g) (a + g)).length : Int) = n := by rw [rgV_len]; omega
  -- found
  refine q_asgL (xs := List.replicate n.toNat (.int (-1))) (el_rep1 (el_lst (ea_cons ev_m1 ea_nil) (by simp)) (fun H2 e2 => ev_eq (ev_len (ev_var rfl) (sq_of (e2 _ _ hpl))) (by rw [lpl, show ((n.toNat : Nat) : Int) = n by omega])) (by omega)) fun fo H2 nfo e2 hfo => ?_
  have nfo1 : H1 fo = none := nfo
  have eF : List.replicate n.toNat (V.int (-1)) = (List.replicate n.toNat (-1 : Int)).map V.int := by rw [List.map_replicate]
  rw [eF] at hfo
  -- found[coins[-1]] = 0
  refine q_setL (xs := (List.replicate n.toNat (-1 : Int)).map V.int) (j := g.toNat) hfo ev_c (ev_var rfl) (ev_eq (topEv (e1.trans e2) rfl) (by rw [show ((g.toNat : Nat) : Int) = g by omega])) (by rw [List.length_map, List.length_replicate]; omega) fun H3 e3 => ?_
  have eF2 : ((List.replicate n.toNat (-1 : Int)).map V.int).set g.toNat (.int 0) = ((List.replicate n.toNat (-1 : Int)).set g.toNat 0).map V.int := by rw [List.map_set]
  rw [eF2]
  have e13 : Ex H1 (upd H3 fo (.lst (((List.replicate n.toNat (-1 : Int)).set g.toNat 0).map V.int))) := (e2.trans e3).mut nfo1
  -- turn
  refine q_asgL (xs := [.int g]) (el_lst (ea_cons (topEv (e1.trans e13) rfl) ea_nil) (by simp)) fun tu H4 ntu e4 htu => ?_
  have hw : HW H1 fo tu ((List.replicate n.toNat (-1 : Int)).set g.toNat 0) [g] H4 := ⟨e13.trans e4, nfo1, fresh_back e13 ntu, ne_of_none upd_same ntu, e4 _ _ upd_same, htu⟩
  -- the while
  refine q_while (fun m σ' H' => ∃ F T y5 y6 y7, σ' = [some (.ref p), some (.int a), some (.ref pl), some (.ref fo), some (.ref tu), y5, y6, y7] ∧ HW H1 fo tu F T H' ∧ Bq cs n g F T ∧ m = negs F + T.length ∧ m ≤ n.toNat + 1) _
    ⟨_, _, none, none, none, rfl, hw, Bq.start (by omega), rfl, ?_⟩ fun m σ' H' hW => ?_
  · have := negs_le ((List.replicate n.toNat (-1 : Int)).set g.toNat 0)
    rw [List.length_set, List.length_replicate] at this
    show _ + 1 ≤ _
    omega
  obtain ⟨F, T, y5, y6, y7, rfl, hw, hq, hm, hmle⟩ := hW
  have hlF := hq.len
  refine ⟨!decide (T = []), et_test (ev_neN (ev_var rfl) (sq_of hw.tu) (el_eq (el_lst ea_nil (by simp)) rfl)), fun hb H5 e5 => ?_, fun hb H5 e5 => ?_⟩
  · -- a turn
    have hw5 := hw.mono e5
    cases T with
    | nil => simp at hb
    | cons here T =>
      refine ⟨fun σ2 H2' => ∃ F' T' y5 y6 y7, σ2 = [some (.ref p), some (.int a), some (.ref pl), some (.ref fo), some (.ref tu), y5, y6, y7] ∧ HW H1 fo tu F' T' H2' ∧ Bq cs n g F' T' ∧ negs F' + T'.length = negs F + T.length, fun σ2 H2' hN => ?_, ?_⟩
      · obtain ⟨F', T', y5, y6, y7, e, a1, a2, a3⟩ := hN
        refine ⟨negs F' + T'.length, by rw [hm, List.length_cons]; omega, F', T', y5, y6, y7, e, a1, a2, rfl, ?_⟩
        rw [hm, List.length_cons] at hmle
        omega
      · refine s_pop0 (D := { nx := _, rt := _, bk := _, ct := _ }) (ev_var rfl) hw5.tu fun H6 e6 => ?_
        have hw6 : HW H1 fo tu F T (upd H6 tu (.lst (T.map V.int))) := (hw5.mono e6).setT
        have be := hq.pop
        have b0 := be.h0
        have b1 := be.hn
        generalize hd : ent F here = d at be
        rw [hm, List.length_cons] at hmle
        have hM : negs F + T.length < 50000 := by omega
        refine s_forLn (xs := cs.map V.int) (ev_var rfl) (sq_of (hw6.ex _ _ (e1 _ _ hp))) (fun i σ2 H2' => ∃ F' T' y6 y7, σ2 = [some (.ref p), some (.int a), some (.ref pl), some (.ref fo), some (.ref tu), some (.int here), y6, y7] ∧ HW H1 fo tu F' T' H2' ∧
          Be cs n g here d (fun s => ∃ w ∈ cs.take i, s = -w ∨ s = w) F' T' ∧ negs F' + T'.length = negs F + T.length) (fun H7 e7 => ⟨F, T, y6, y7, rfl, hw6.mono e7, be.weak (fun s ⟨w, hw, _⟩ => by simp at hw), rfl⟩)
          (fun i σ2 H2' _ ⟨F', T', y6, y7, _, h', _⟩ => sq_of (h'.ex _ _ (e1 _ _ hp))) (fun i x σ2 H2' hx hP => ?_) fun σ2 H2' hP => ?_
        · obtain ⟨F1, T1, z6, z7, rfl, w1, be1, m1⟩ := hP
          obtain ⟨w, hw0, rfl⟩ := get_int hx
          have hwm : w ∈ cs := List.mem_of_getElem? hw0
          -- the pair of neighbours
          have hu : EvU (tTup (tCons (tOp rSubI (tVar 5) (tVar 6)) (tCons (tOp rAddI (tVar 5) (tVar 6)) tNil))) [some (.ref p), some (.int a), some (.ref pl), some (.ref fo), some (.ref tu), some (.int here), some (.int w), z7] H2' [.int (here - w), .int (here + w)] :=
            eu_tup (ea_cons (ev_sub (ev_var rfl) (ev_var rfl)) (ea_cons (ev_add (ev_var rfl) (ev_var rfl)) ea_nil)) (by simp)
          refine s_forNU hu fun tp H7 ntp e7 htp => ?_
          have w7 := w1.mono e7
          have nfo' : tp ≠ fo := fun z => by rw [z, w1.fo] at ntp; cases ntp
          have ntu' : tp ≠ tu := fun z => by rw [z, w1.tu] at ntp; cases ntp
          refine ⟨fun j σ3 H3' => ∃ F2 T2 z7, σ3 = [some (.ref p), some (.int a), some (.ref pl), some (.ref fo), some (.ref tu), some (.int here), some (.int w), z7] ∧ HW H1 fo tu F2 T2 H3' ∧ H3' tp = some (.tup [.int (here - w), .int (here + w)]) ∧
            Be cs n g here d (fun s => (∃ w ∈ cs.take i, s = -w ∨ s = w) ∨ (1 ≤ j ∧ s = -w) ∨ (2 ≤ j ∧ s = w)) F2 T2 ∧ negs F2 + T2.length = negs F + T.length,
            ⟨F1, T1, z7, rfl, w7, htp, be1.weak (fun s h => by
              rcases h with h | h | h
              · exact h
              · omega
              · omega), m1⟩, fun j σ3 H3' _ ⟨F2, T2, z7, _, _, h, _⟩ => st_of h, fun j y σ3 H3' hy hP3 => ?_, fun σ3 H3' hP3 => ?_⟩
          · obtain ⟨F2, T2, z7, rfl, w2, ht2, be2, m2⟩ := hP3
            have l2 := be2.len
            obtain ⟨s, hs, ey, hS⟩ : ∃ s, Stp cs s ∧ y = .int (here + s) ∧ ∀ x, ((∃ w ∈ cs.take i, x = -w ∨ x = w) ∨ (1 ≤ j + 1 ∧ x = -w) ∨ (2 ≤ j + 1 ∧ x = w)) → ((∃ w ∈ cs.take i, x = -w ∨ x = w) ∨ (1 ≤ j ∧ x = -w) ∨ (2 ≤ j ∧ x = w)) ∨ x = s := by
              match j, hy with
              | 0, hy =>
                refine ⟨-w, .inr (by simpa using hwm), by rw [← Option.some.inj hy]; rfl, fun x hx => ?_⟩
                rcases hx with h | ⟨_, h⟩ | ⟨h, _⟩
                · exact .inl (.inl h)
                · exact .inr h
                · omega
              | 1, hy =>
                refine ⟨w, .inl hwm, (Option.some.inj hy).symm, fun x hx => ?_⟩
                rcases hx with h | ⟨_, h⟩ | ⟨_, h⟩
                · exact .inl (.inl h)
                · exact .inl (.inr (.inl ⟨by omega, h⟩))
                · exact .inr h
            subst ey
            obtain ⟨v1, v2⟩ := be2.visit hs
            refine visit_step (K := K) (y6 := some (.int w)) (p := p) (a := a) (there := here + s) w2 hpl lpl l2 (by omega) b0 b1 (by omega) fun H4' w4 k4 => ?_
            exact ⟨_, _, some (.int (here + s)), rfl, w4, k4 _ _ nfo' ntu' ht2, v1.weak hS, by rw [v2]; exact m2⟩
          · obtain ⟨F2, T2, z7, rfl, w2, ht2, be2, m2⟩ := hP3
            refine ⟨F2, T2, some (.int w), z7, rfl, w2, be2.weak fun s ⟨x, hx, hs⟩ => ?_, m2⟩
            rcases mem_take_succ hw0 hx with z | z
            · exact .inl ⟨x, z, hs⟩
            · subst z
              rcases hs with hs | hs
              · exact .inr (.inl ⟨by simp, hs⟩)
              · exact .inr (.inr ⟨by simp, hs⟩)
        · obtain ⟨F1, T1, z6, z7, rfl, w1, be1, m1⟩ := hP
          refine ⟨F1, T1, some (.int here), z6, z7, rfl, w1, be1.fin fun s hs => ?_, m1⟩
          rw [List.length_map, List.take_length]
          rcases hs with hs | hs
          · exact ⟨s, hs, .inr rfl⟩
          · exact ⟨-s, hs, .inl (by omega)⟩
  · -- the end
    have hw5 := hw.mono e5
    have eT : T = [] := by simpa using hb
    subst eT
    have eH := hq.hts (by omega)
    refine s_ret (ev_var rfl) fun H6 e6 => ?_
    refine q fo H6 (fresh_back e1 nfo1) (e1.trans ((hw5.mono e6).ex)) ?_
    have := (hw5.mono e6).fo
    rw [this, eH]
    unfold hOf
    rw [hg, hn]
end
end Cb

set_option Elab.async false
set_option linter.all false
set_option maxRecDepth 100000
set_option maxHeartbeats 4000000
/-! fewest; the laws' helpers. -/
namespace Cb
open PySem PySem.Spec PyProof.Rows L2 Evl Chg
section
variable {K : PySem.W.Frag} {vs : List V} {H : Hp} {Q : VK} {E : XK}
theorem len_fewest (h : sp_fewest K vs H Q E) : vs.length = (["coins", "amount"] : List Str).length := by
  obtain ⟨p, cs, a, rfl, _⟩ := h
  rfl
theorem hOf_at {cs : List Int} {a t : Int} (hc : Coins cs) (ha : 0 ≤ a) (h1 : -topC cs ≤ t) (h2 : t < a + topC cs) : ent (hOf cs a) (topC cs + t) = few cs t :=
  hts_few hc.le_top (by have := hc.top; omega) ha rfl h1 h2
theorem hOf_len {cs : List Int} {a : Int} (hc : Coins cs) (ha : 0 ≤ a) : ((hOf cs a).length : Int) = a + 2 * topC cs := by
  unfold hOf
  have := hc.top
  rw [hts_len]; omega
theorem max_more (g a : Int) : (if (a - g * g) / g > 0 then (a - g * g) / g else 0) = moreOf g a := by
  unfold moreOf
  split <;> omega
theorem ev_common {σ : L2.St} {te : TE} {p : Addr} {cs : List Int} (h : Ev te σ H (.ref p)) (hp : Il H p cs) (hc : Coins cs) : Ev (tCall (sp_common K) [] E (tCons te tNil)) σ H (.int (gc cs)) :=
  ev_callV (ea_cons h ea_nil) fun H1 e Q q => ⟨p, cs, rfl, e _ _ hp, fun w hw => by have := hc.wor w hw; omega, by have := hc.six; omega, q⟩
theorem ev_checkC {σ : L2.St} {te : TE} {p : Addr} {cs : List Int} (h : Ev te σ H (.ref p)) (hp : Il H p cs) (hc : Coins cs) : Ev (tCall (sp_check_coins K) [] E (tCons te tNil)) σ H .non :=
  ev_callV (ea_cons h ea_nil) fun H1 e Q q => ⟨p, cs, rfl, e _ _ hp, hc, q⟩
theorem ev_checkA {σ : L2.St} {te tm : TE} {a m : Int} (h : Ev te σ H (.int a)) (hm : Ev tm σ H (.int m)) (h0 : 0 ≤ a) (h1 : 0 ≤ m → a ≤ m) : Ev (tCall (sp_check_amount K) [] E (tCons te (tCons tm tNil))) σ H .non :=
  ev_callV (ea_cons h (ea_cons hm ea_nil)) fun H1 e Q q => ⟨a, m, rfl, h0, h1, q⟩
theorem el_heights {σ : L2.St} {te tm : TE} {p : Addr} {cs : List Int} {a : Int} (h : Ev te σ H (.ref p)) (hm : Ev tm σ H (.int a)) (hp : Il H p cs) (hc : Coins cs) (ha : 0 ≤ a ∧ a ≤ 5000) : EvL (tCall (sp_heights_of K) [] E (tCons te (tCons tm tNil))) σ H ((hOf cs a).map V.int) :=
  el_callL (ea_cons h (ea_cons hm ea_nil)) fun H1 e Q q => ⟨p, cs, a, rfl, e _ _ hp, hc, ha, q⟩
theorem small_mul {i j : Int} (h1 : -1000000 ≤ j ∧ j ≤ 1000000) : IntMulOk i j := mulOk_right (by omega)
/-- the part of fewest behind its checks -/
def t_fewest_rest (K : PySem.W.Frag) : TS :=
  (tSeq (tAsg (tOp (rIxL K) (tVar 0) (tUn rNegI (tC (.int 1)))) (gName 2))
  (tSeq (tAsg (tCB rMax2 (tCons (tC (.int 0)) (tCons (tOp rDivI (tOp rSubI (tVar 1) (tOp rMulI (tVar 2) (tVar 2))) (tVar 2)) tNil))) (gName 3))
  (tSeq (tAsg (tOp rSubI (tVar 1) (tOp rMulI (tVar 3) (tVar 2))) (gName 4))
  (tRet (tOp rAddI (tVar 3) (tOp (rIxL K) (tCall (sp_heights_of K) [] E0 (tCons (tVar 0) (tCons (tVar 4) tNil))) (tOp rAddI (tVar 2) (tVar 4))))))))
theorem fewest_rest {p : Addr} {cs : List Int} {a : Int} (hp : Il H p cs) (hc : Coins cs) (ha : 0 ≤ a) (hd : gc cs ∣ a) (q : RetV (.int (few cs a)) H Q) : t_fewest_rest K (endsOf Q) (start ["coins", "amount", "great", "more", "left"] [.ref p, .int a]) H := by
  have ht := hc.top
  obtain ⟨m1, m2, m3, m4⟩ := more_left (g := topC cs) (a := a) (by omega) ha
  have hgg : topC cs * topC cs ≤ 30 * 30 := Int.mul_le_mul ht.2 ht.2 (by omega) (by omega)
  refine q_asg (ev_ixL (ev_var rfl) ev_m1 (sq_of hp) (topC_at hc.ne)) fun H1 e1 => ?_
  refine q_asg (v := .int (moreOf (topC cs) a)) (ev_eq (ev_max ev_c (ev_div (ev_sub (ev_var rfl) (ev_mul (ev_var rfl) (ev_var rfl) (small_mul (by omega)))) (ev_var rfl) (by omega))) (by rw [max_more])) fun H2 e2 => ?_
  refine q_asg (ev_sub (ev_var rfl) (ev_mul (ev_var rfl) (ev_var rfl) (small_mul (by omega)))) fun H3 e3 => ?_
  have hp3 := e3 _ _ (e2 _ _ (e1 _ _ hp))
  refine s_ret (ev_add (ev_var rfl) (ev_ixNL (el_heights (ev_var rfl) (ev_var rfl) hp3 hc ⟨m2, by omega⟩) (ev_add (ev_var rfl) (ev_var rfl)) (atI_int (by omega) (by rw [hOf_len hc m2]; omega)))) fun H4 e4 => ?_
  rw [hOf_at hc m2 (by omega) (by omega), ← few_more hc.le_top (topC_mem hc.ne) ha hd]
  exact q H4 (((e1.trans e2).trans e3).trans e4)
theorem pure_fewest (h : sp_fewest K vs H Q E) : t_fewest K (endsOf Q) (start ["coins", "amount", "great", "more", "left"] vs) H := by
  obtain ⟨p, cs, a, rfl, hp, hc, ha, hd, q⟩ := h
  refine q_drop (ev_checkC (ev_var rfl) hp hc) fun H1 e1 => ?_
  have hp1 := e1 _ _ hp
  refine q_drop (ev_checkA (ev_var rfl) ev_m1 ha (by omega)) fun H2 e2 => ?_
  have hp2 := e2 _ _ hp1
  refine q_when (b := false) (et_test (ev_eq (ev_cmp (p := fun i j => decide (j < i)) (ev_mod (ev_var rfl) (ev_common (ev_var rfl) hp2 hc) hc.gpos) ev_c) ?_)) (fun z => nomatch z) fun _ H3 e3 => ?_
  · rw [Int.emod_eq_zero_of_dvd hd]; rfl
  exact fewest_rest (e3 _ _ hp2) hc ha hd fun H4 e4 => q H4 (((e1.trans e2).trans e3).trans e4)

/-! ### the laws' helpers -/
theorem len__law_cell_at (h : sp__law_cell_at K vs H Q E) : vs.length = (["_law_script", "_law_k"] : List Str).length := by
  obtain ⟨p, ns, k, rfl, _⟩ := h
  rfl
theorem pure__law_cell_at (h : sp__law_cell_at K vs H Q E) : t__law_cell_at K (endsOf Q) (start ["_law_script", "_law_k"] vs) H := by
  obtain ⟨p, ns, k, rfl, hp, hk, q⟩ := h
  have len : (ns.map V.int).length = ns.length := List.length_map ..
  refine q_when (et_test (ev_cmp (p := fun i j => decide (i < j)) (ev_var rfl) (ev_len (ev_var rfl) hp))) (fun hb H1 e1 => ?_) fun hb H1 e1 => ?_
  · rw [len, decide_eq_true_eq] at hb
    exact s_ret (ev_ixL (ev_var rfl) (ev_var rfl) (ex_l e1 hp) (atI_int hk hb)) fun H2 e2 => q H2 (e1.trans e2)
  · rw [len, decide_eq_false_iff_not] at hb
    have e : cellAt ns k = 0 := by
      unfold cellAt ent
      rw [List.getD_eq_getElem?_getD, List.getElem?_eq_none (by omega)]; rfl
    rw [e] at q
    exact s_ret ev_c fun H2 e2 => q H2 (e1.trans e2)
theorem len__law_draw (h : sp__law_draw K vs H Q E) : vs.length = (["_law_cell", "_law_k", "_law_most"] : List Str).length := by
  obtain ⟨c, k, m, rfl, _⟩ := h
  rfl
theorem ent_all {P : Int → Prop} {xs : List Int} (h : ∀ x ∈ xs, P x) {i : Int} (h0 : 0 ≤ i) (h1 : i < xs.length) : P (ent xs i) := by
  unfold ent
  have hj : i.toNat < xs.length := by omega
  rw [List.getD_eq_getElem?_getD, List.getElem?_eq_getElem hj]
  exact h _ (List.getElem_mem hj)
theorem pure__law_draw (h : sp__law_draw K vs H Q E) : t__law_draw K (endsOf Q) (start ["_law_cell", "_law_k", "_law_most", "_law_primes"] vs) H := by
  obtain ⟨c, k, m, rfl, hk, hm, q⟩ := h
  have hp : 0 < ent drawP (k % 16) := ent_all (P := fun x => 0 < x) (by decide) (by omega) (by show k % 16 < (16 : Nat); omega)
  refine q_asgU (xs := drawP.map V.int) (eu_tup (ea_cons ev_c (ea_cons ev_c (ea_cons ev_c (ea_cons ev_c (ea_cons ev_c (ea_cons ev_c (ea_cons ev_c (ea_cons ev_c (ea_cons ev_c (ea_cons ev_c (ea_cons ev_c (ea_cons ev_c (ea_cons ev_c (ea_cons ev_c (ea_cons ev_c (ea_cons ev_c ea_nil)))))))))))))))) (by decide)) fun p H1 hp1 e1 h1 => ?_
  refine s_ret (ev_mod (ev_mod (ev_add (ev_mul (ev_var rfl) ev_c (small_mul (by omega))) (ev_mul (ev_var rfl) ev_c (small_mul (by omega)))) (ev_op (ev_var rfl) (ev_mod (ev_var rfl) ev_c (by decide)) (rv_ixT (st_of h1) (atI_int (by omega) (by show k % 16 < (16 : Nat); omega)))) hp) (ev_var rfl) hm) fun H2 e2 => q H2 (e1.trans e2)
theorem len__law_number (h : sp__law_number K vs H Q E) : vs.length = (["_law_cell", "_law_k", "_law_limit"] : List Str).length := by
  obtain ⟨c, k, m, rfl, _⟩ := h
  rfl
theorem bits_small {x : Int} (h : -1000000 ≤ x ∧ x ≤ 1000000) : Builtin.Int.intBits x ≤ 64 := intBits_le_64 (by omega) (by omega)
theorem pure__law_number (h : sp__law_number K vs H Q E) : t__law_number K (endsOf Q) (start ["_law_cell", "_law_k", "_law_limit"] vs) H := by
  obtain ⟨c, k, m, rfl, hb, hk, hm, q⟩ := h
  have pw : ∀ {H1 : Hp} {σ : L2.St}, Ev (tOp rPowI (tC (.int 10)) (tC (.int 18))) σ H1 (.int (10 ^ 18)) := ev_pow ev_c ev_c (by decide)
  refine q_when (et_test (ev_cmp (p := fun i j => decide (j ≤ i)) (ev_var rfl) pw)) (fun hc H1 e1 => ?_) fun hc H1 e1 => ?_
  · have hc' : (10 : Int) ^ 18 ≤ c := of_decide_eq_true hc
    have ev : numV c k m = (c - 10 ^ 18) / ent numP (k % 5) % m := if_pos hc'
    rw [ev] at q
    have h5 : 0 < ent numP (k % 5) ∧ ent numP (k % 5) < 1073741824 := ent_all (P := fun x => 0 < x ∧ x < 1073741824) (by decide) (by omega) (by show k % 5 < (5 : Nat); omega)
    refine s_ret (ev_mod (ev_div (ev_sub (ev_var rfl) pw) (ev_ixNU (xs := numP.map V.int) (eu_tup (ea_cons ev_c (ea_cons ev_c (ea_cons ev_c (ea_cons ev_c (ea_cons ev_c ea_nil))))) (by decide)) (ev_mod (ev_var rfl) ev_c (by decide)) (atI_int (by omega) (by show k % 5 < (5 : Nat); omega))) h5) (ev_var rfl) hm) fun H2 e2 => q H2 (e1.trans e2)
  · have hc' : ¬ (10 : Int) ^ 18 ≤ c := of_decide_eq_false hc
    have ev : numV c k m = drawV ((c + 977 * k) * (c + 31 * k + 5)) (k % 9 + 1) 999983 % m := if_neg hc'
    rw [ev] at q
    have ok : IntMulOk (c + 977 * k) (c + 31 * k + 5) := by
      have h1 : Builtin.Int.intBits (c + 977 * k) ≤ max 1048600 64 + 1 := intBits_add_le hb (bits_small (by omega))
      have h2 : Builtin.Int.intBits (c + 31 * k) ≤ max 1048600 64 + 1 := intBits_add_le hb (bits_small (by omega))
      have h3 : Builtin.Int.intBits (c + 31 * k + 5) ≤ max (max 1048600 64 + 1) 64 + 1 := intBits_add_le h2 (bits_small (by omega))
      exact IntMulOk.of_le h1 h3 (by decide)
    refine s_ret (ev_mod (ev_callV (z := .int (drawV ((c + 977 * k) * (c + 31 * k + 5)) (k % 9 + 1) 999983)) (ea_cons (ev_mul (ev_add (ev_var rfl) (ev_mul ev_c (ev_var rfl) (small_mul (by omega)))) (ev_add (ev_add (ev_var rfl) (ev_mul ev_c (ev_var rfl) (small_mul (by omega)))) ev_c) ok) (ea_cons (ev_add (ev_mod (ev_var rfl) ev_c (by decide)) ev_c) (ea_cons ev_c ea_nil)))
      fun H2 e2 Q q => ⟨_, _, _, rfl, by omega, by decide, q⟩) (ev_var rfl) hm) fun H2 e2 => q H2 (e1.trans e2)
theorem num_bound {c k m : Int} (hm : 0 < m) : 0 ≤ numV c k m ∧ numV c k m < m := by
  unfold numV
  split
  · exact ⟨Int.emod_nonneg _ (by omega), Int.emod_lt_of_pos _ hm⟩
  · exact ⟨Int.emod_nonneg _ (by omega), Int.emod_lt_of_pos _ hm⟩
theorem ev_num {σ : L2.St} {tc tk tm : TE} {c k m : Int} (h1 : Ev tc σ H (.int c)) (h2 : Ev tk σ H (.int k)) (h3 : Ev tm σ H (.int m)) (hb : Bits c) (hk : 0 ≤ k ∧ k ≤ 1000) (hm : 0 < m) : Ev (tCall (sp__law_number K) [] E (tCons tc (tCons tk (tCons tm tNil)))) σ H (.int (numV c k m)) :=
  ev_callV (ea_cons h1 (ea_cons h2 (ea_cons h3 ea_nil))) fun H1 e Q q => ⟨c, k, m, rfl, hb, hk, hm, q⟩
theorem ev_cell {σ : L2.St} {ts tk : TE} {p : Addr} {ns : List Int} {k : Int} (h1 : Ev ts σ H (.ref p)) (h2 : Ev tk σ H (.int k)) (hp : SqL K H p (ns.map V.int)) (hk : 0 ≤ k) : Ev (tCall (sp__law_cell_at K) [] E (tCons ts (tCons tk tNil))) σ H (.int (cellAt ns k)) :=
  ev_callV (ea_cons h1 (ea_cons h2 ea_nil)) fun H1 e Q q => ⟨p, ns, k, rfl, ex_l e hp, hk, q⟩
theorem cell_bits {ns : List Int} (h : Cells ns) (k : Int) : Builtin.Int.intBits (cellAt ns k) ≤ 1048576 := by
  unfold cellAt ent
  rw [List.getD_eq_getElem?_getD]
  cases e : ns[k.toNat]? with
  | none => exact Nat.le_trans (bits_small (x := 0) (by decide)) (by decide)
  | some x => exact h x (List.mem_of_getElem? e)
theorem cell_Bits {ns : List Int} (h : Cells ns) (k : Int) : Bits (cellAt ns k) := Nat.le_trans (cell_bits h k) (by decide)
theorem cell_Bits2 {ns : List Int} (h : Cells ns) (k x : Int) (hx : -1000000 ≤ x ∧ x ≤ 1000000) : Bits (cellAt ns k + x) := Nat.le_trans (intBits_add_le (cell_bits h k) (bits_small hx)) (by decide)
end
end Cb

set_option Elab.async false
set_option linter.all false
set_option maxRecDepth 100000
set_option maxHeartbeats 4000000
/-! _law_coins, _law_common. -/
namespace Cb
open PySem PySem.Spec PyProof.Rows L2 Evl Chg
section
variable {K : PySem.W.Frag} {vs : List V} {H : Hp} {Q : VK} {E : XK}
theorem len__law_coins (h : sp__law_coins K vs H Q E) : vs.length = (["_law_script", "_law_by", "_law_most", "_law_great"] : List Str).length := by
  obtain ⟨p, ns, b, m, g, rfl, _⟩ := h
  rfl
def oftP : List Int := [1, 1, 1, 2, 3]
theorem pure__law_coins {w : World} (h : sp__law_coins K vs H Q E) : t__law_coins K w (endsOf Q) (start ["_law_script", "_law_by", "_law_most", "_law_great", "_law_cell", "_law_often", "_law_found", "_law_k"] vs) H := by
  obtain ⟨p, ns, b, m, g, rfl, hp, hcl, hb, hm, hg, q⟩ := h
  refine q_asg (ev_cell (ev_var rfl) (ev_var rfl) hp hb.1) fun H1 e1 => ?_
  generalize hc : cellAt ns b = c
  have hcb : Bits c := hc ▸ cell_Bits hcl b
  have n5 := num_bound (c := c) (k := b + 1) (m := 5) (by decide)
  have ho : 1 ≤ ent oftP (numV c (b + 1) 5) ∧ ent oftP (numV c (b + 1) 5) ≤ 3 := ent_all (P := fun x => 1 ≤ x ∧ x ≤ 3) (by decide) n5.1 n5.2
  refine q_asg (v := .int (ent oftP (numV c (b + 1) 5))) (ev_ixNU (xs := oftP.map V.int) (eu_tup (ea_cons ev_c (ea_cons ev_c (ea_cons ev_c (ea_cons ev_c (ea_cons ev_c ea_nil))))) (by decide)) (ev_num (ev_var rfl) (ev_add (ev_var rfl) ev_c) ev_c hcb (by omega) (by decide)) (atI_int n5.1 n5.2)) fun H2 e2 => ?_
  generalize ent oftP (numV c (b + 1) 5) = o at ho
  refine q_asgL (xs := []) (el_lst ea_nil (by simp)) fun fo H3 nfo e3 hfo => ?_
  have nm := num_bound (c := c) (k := b + 2) (m := m) (by omega)
  generalize hnm : numV c (b + 2) m = nn at nm
  have e13 := (e1.trans e2).trans e3
  have nfoH : H fo = none := fresh_back (e1.trans e2) nfo
  refine q_forR1 (n := 1 + nn) (ea_cons (hnm ▸ ev_add ev_c (ev_num (ev_var rfl) (ev_add (ev_var rfl) ev_c) (ev_var rfl) hcb (by omega) (by omega))) ea_nil) (by omega)
    (fun i σ' H' => ∃ (F : List Int) (y7 : Option V), σ' = [some (.ref p), some (.int b), some (.int m), some (.int g), some (.int c), some (.int o), some (.ref fo), y7] ∧ Ex H H' ∧ Il H' fo F ∧ F.length = i ∧ ∀ x ∈ F, 1 ≤ x ∧ x ≤ g)
    (fun H4 e4 => ⟨[], none, rfl, e13.trans e4, e4 _ _ hfo, rfl, by simp⟩) (fun i σ' H' hi hP => ?_) fun σ' H' hP => ?_
  · obtain ⟨F, y7, rfl, ex, hF, lF, bF⟩ := hP
    have hdiv : 0 < g / o := by
      have := Int.le_ediv_of_mul_le (a := 1) (b := g) (c := o) (by omega) (by omega)
      omega
    have nk := num_bound (c := cellAt ns (b + (i : Int)) + 31 * (i : Int)) (k := b + (i : Int) + 3) (m := g / o) hdiv
    refine s_app hF (ev_var rfl) (ev_mul (ev_var rfl) (ev_add ev_c (ev_num (ev_add (ev_cell (ev_var rfl) (ev_add (ev_var rfl) (ev_var rfl)) (ex_l ex hp) (by omega)) (ev_mul ev_c (ev_var rfl) (small_mul (by omega)))) (ev_add (ev_add (ev_var rfl) (ev_var rfl)) ev_c) (ev_div (ev_var rfl) (ev_var rfl) (by omega)) (cell_Bits2 hcl _ _ (by omega)) (by omega) hdiv)) (mulOk_left (by omega))) (by rw [List.length_map]; omega) fun H4 e4 => ?_
    refine ⟨F ++ [o * (1 + numV (cellAt ns (b + (i : Int)) + 31 * (i : Int)) (b + (i : Int) + 3) (g / o))], some (.int (i : Int)), rfl, (ex.trans e4).mut nfoH, ?_, by simp [lF], fun x hx => ?_⟩
    · rw [Il, upd_same, List.map_append]; rfl
    · rcases List.mem_append.mp hx with z | z
      · exact bF x z
      · have ex' : x = o * (1 + numV (cellAt ns (b + (i : Int)) + 31 * (i : Int)) (b + (i : Int) + 3) (g / o)) := by simpa using z
        generalize numV (cellAt ns (b + (i : Int)) + 31 * (i : Int)) (b + (i : Int) + 3) (g / o) = r at nk ex'
        subst ex'
        have h1 : o * (1 + r) ≤ o * (g / o) := Int.mul_le_mul_of_nonneg_left (by omega) (by omega)
        have h2 : o * (g / o) ≤ g := Int.mul_ediv_self_le (by omega)
        have h3 : 1 * 1 ≤ o * (1 + r) := Int.mul_le_mul ho.1 (by omega) (by omega) (by omega)
        omega
  · obtain ⟨F, y7, rfl, ex, hF, lF, bF⟩ := hP
    have lF' : (F.length : Int) = 1 + nn := by omega
    refine ⟨.ref fo, rfl, fo, F, rfl, sq_of hF, by omega, fun s c' hs hc' => ⟨s, _, c', rfl, upd_same, by omega, fun cs l ris mem len hl => ?_⟩⟩
    have hl' : H' l = none := by
      have : l ≠ s := fun z => by rw [z, upd_same] at hl; cases hl
      rw [upd_ne this] at hl; exact hl
    have mem' : ∀ k, k ∈ cs ↔ k ∈ F := fun k => by rw [mem k]; simp
    refine q cs ⟨?_, ?_, fun w hw => bF w ((mem' w).mp hw), ris⟩ l _ (fresh_back ex hl') ?_ upd_same
    · obtain ⟨x, hx⟩ : ∃ x, x ∈ F := by
        cases F with
        | nil => simp at lF'; omega
        | cons x r => exact ⟨x, List.mem_cons_self⟩
      have := (mem' x).mpr hx
      have := List.length_pos_of_mem this
      omega
    · rw [len]; omega
    · exact (ex.trans (Ex.new hs)).trans (Ex.new hl)
theorem len__law_common (h : sp__law_common K vs H Q E) : vs.length = (["_law_coins_here"] : List Str).length := by
  obtain ⟨p, cs, rfl, _⟩ := h
  rfl
/-- [e for x in range(lo, hi) if t] -/
theorem el_lcR2 {σ : L2.St} {t : TT} {te : TE} {ta : TA} {j : Nat} {vs : List Nat} {lo hi : Int} (f : Nat → Bool) (v : Nat → V) (h : EvA ta σ H [.int lo, .int hi]) (hn : (-40000 ≤ lo ∧ lo ≤ 40000) ∧ (-40000 ≤ hi ∧ hi ≤ 40000) ∧ hi - lo ≤ 40000) (hw : ∀ x, wipe ((wipe σ vs).set j (some x)) vs = wipe σ vs)
    (ht : ∀ (i : Nat) H1, Ex H H1 → lo + (i : Int) < hi → EvT t ((wipe σ vs).set j (some (.int (lo + (i : Int))))) H1 (f i)) (he : ∀ (i : Nat) H1, Ex H H1 → lo + (i : Int) < hi → f i = true → Ev te ((wipe σ vs).set j (some (.int (lo + (i : Int))))) H1 (v i)) :
    EvL (tLc (iRng2 ta) (gName j) t te vs) σ H (given (hi - lo).toNat f v) := fun H0 e Q q => h H0 e _ fun H1 e1 => ⟨lo, hi, rfl, ⟨by omega, by omega, by omega, by omega⟩, fun Dl hD =>
  lc_range (lo := lo) (n := (hi - lo).toNat) (Cw H1 f v Dl) ⟨hD, Ex.new hD, upd_same⟩ (fun i H' hi' p => ⟨hw _, cw_turn p (by omega) (ht i H1 (e.trans e1) (by omega)) (fun hf => he i H1 (e.trans e1) (by omega) hf)⟩) (fun H' p => q Dl H' (fresh_back e1 p.1) (e1.trans p.2.1) p.2.2)⟩
theorem range_filter_last (f : Nat → Bool) (G n : Nat) (h1 : G < n) (hG : f G = true) (hb : ∀ i, G < i → i < n → f i = false) : (List.range n).filter f = (List.range G).filter f ++ [G] := by
  have e : n = G + 1 + (n - (G + 1)) := by omega
  rw [e, List.range_add, List.filter_append, List.range_succ, List.filter_append, List.filter_cons, if_pos hG]
  have : ((List.range (n - (G + 1))).map (G + 1 + ·)).filter f = [] := by
    rw [List.filter_eq_nil_iff]
    intro x hx
    obtain ⟨y, hy, rfl⟩ := List.mem_map.mp hx
    have := List.mem_range.mp hy
    rw [hb _ (by omega) (by omega)]
    simp
  rw [this]
  simp
/-- whether a number goes into all -/
def goes (cs : List Int) (d : Int) : Bool := (cs.map fun w => decide (w % d = 0)).all id
theorem goes_iff {cs : List Int} {d : Int} (hd : 0 < d) : goes cs d = true ↔ ∀ w ∈ cs, d ∣ w := by
  unfold goes
  rw [List.all_map, List.all_eq_true]
  refine ⟨fun h w hw => ?_, fun h w hw => ?_⟩
  · have := h w hw
    simp at this
    exact Int.dvd_of_emod_eq_zero this
  · simp [Int.emod_eq_zero_of_dvd (h w hw)]
/-- all([w % d == 0 for w in cs]) -/
theorem ev_goes {σ : L2.St} {tl td : TE} {p : Addr} {cs : List Int} {d : Int} {j : Nat} {vs : List Nat} (h : Ev tl σ H (.ref p)) (hp : Il H p cs) (hl : cs.length ≤ 40000) (hd : 0 < d) (hw : ∀ x, wipe ((wipe σ vs).set j (some x)) vs = wipe σ vs)
    (hv : ∀ x H1, Ex H H1 → Ev (tVar j) ((wipe σ vs).set j (some x)) H1 x) (htd : ∀ x H1, Ex H H1 → Ev td ((wipe σ vs).set j (some x)) H1 (.int d)) :
    Ev (tCB (rAll K) (tCons (tLc (iList K tl) (gName j) tYes (tOp rEq (tOp rModI (tVar j) td) (tC (.int 0))) vs) tNil)) σ H (.bl (goes cs d)) := by
  refine ev_allL ?_
  rw [List.map_map]
  refine el_eq (el_lcY (xs := cs.map V.int) (fun x => match x with | .int w => .bl (decide (w % d = 0)) | _ => .non) h (sq_of hp) (by rw [List.length_map]; exact hl) hw fun x H1 hx e => ?_) (by rw [List.map_map]; rfl)
  obtain ⟨w, _, rfl⟩ := List.mem_map.mp hx
  exact ev_eqI (ev_mod (hv _ H1 e) (htd _ H1 e) hd) ev_c
theorem pure__law_common (h : sp__law_common K vs H Q E) : t__law_common K (endsOf Q) (start ["_law_coins_here", "_law_part", "_law_worth"] vs) H := by
  obtain ⟨p, cs, rfl, hp, ne, hl, hw, q⟩ := h
  obtain ⟨c0, r, rfl⟩ : ∃ c r, cs = c :: r := by
    cases cs with
    | nil => exact absurd rfl ne
    | cons c r => exact ⟨c, r, rfl⟩
  have h0 := hw c0 List.mem_cons_self
  have gp : 0 < gc (c0 :: r) := gc_pos List.mem_cons_self (by omega)
  have gl : gc (c0 :: r) ≤ c0 := gc_le_of List.mem_cons_self (by omega)
  refine s_ret (v := .int (gc (c0 :: r))) ?_ fun H1 e1 => q H1 e1
  have at0 : atI ((c0 :: r).map V.int) 0 = some (.int c0) := atI_nat (j := 0) rfl
  refine ev_ixNL (xs := given (c0 + 1 - 1).toNat (fun i => goes (c0 :: r) (1 + (i : Int))) fun i => .int (1 + (i : Int))) (el_lcR2 _ _ (ea_cons ev_c (ea_cons (ev_add (ev_ixL (ev_var rfl) ev_c (sq_of hp) at0) ev_c) ea_nil)) (by omega) (fun _ => rfl) (fun i H1 e1 hi => ?_) fun i H1 e1 hi hf => ev_var rfl) ev_m1 ?_
  · exact et_B (ev_goes (ev_var rfl) (e1 _ _ hp) (by omega) (by omega) (fun _ => rfl) (fun _ _ _ => ev_var rfl) (fun _ _ _ => ev_var rfl))
  · unfold given
    rw [range_filter_last _ (gc (c0 :: r) - 1).toNat _ (by omega) ?_ ?_]
    · rw [List.map_append]
      have e2 : (1 : Int) + (((gc (c0 :: r) - 1).toNat : Nat) : Int) = gc (c0 :: r) := by omega
      have := atI_last (List.map (fun (i : Nat) => V.int (1 + (i : Int))) ((List.range (gc (c0 :: r) - 1).toNat).filter fun i => goes (c0 :: r) (1 + (i : Int)))) (V.int (1 + (((gc (c0 :: r) - 1).toNat : Nat) : Int)))
      rw [e2] at this
      rw [List.map_cons, List.map_nil, e2]
      exact this
    · rw [show (1 : Int) + (((gc (c0 :: r) - 1).toNat : Nat) : Int) = gc (c0 :: r) by omega, goes_iff gp]
      exact fun w hw => gc_dvd hw
    · intro i h1 h2
      rw [Bool.eq_false_iff]
      intro hx
      have := (goes_iff (by omega)).mp hx
      have := Int.le_of_dvd gp (gc_great this)
      omega
end
end Cb

set_option Elab.async false
set_option linter.all false
set_option maxRecDepth 100000
set_option maxHeartbeats 4000000
namespace Cb
open PySem PySem.Spec PyProof.Rows L2 Evl Chg
def t_law_k03 (K : PySem.W.Frag) : TS :=
  (tSeq (tFor (iRng3 (tCons (tC (.int 0)) (tCons (tCB rMax2 (tCons (tC (.int 1)) (tCons (tCB rMin2 (tCons (tC (.int 8)) (tCons (tCB (rLenS K) (tCons (tVar 0) tNil)) tNil))) tNil))) (tCons (tC (.int 4)) tNil)))) (gName 1) (tSeq (tAsg (tCall (sp__law_coins K) [] E0 (tCons (tVar 0) (tCons (tVar 1) (tCons (tC (.int 6)) (tCons (tC (.int 12)) tNil))))) (gName 2))
  (tSeq (tPar 3 4 (tCons (tCall (sp__law_common K) [] E0 (tCons (tVar 2) tNil)) (tCons (tOp (rIxL K) (tVar 2) (tUn rNegI (tC (.int 1)))) tNil)))
  (tSeq (tAsg (tOp rAddI (tOp rMulI (tVar 4) (tVar 4)) (tOp rMulI (tVar 3) (tCall (sp__law_number K) [] E0 (tCons (tCall (sp__law_cell_at K) [] E0 (tCons (tVar 0) (tCons (tOp rAddI (tVar 1) (tC (.int 1))) tNil))) (tCons (tOp rAddI (tVar 1) (tC (.int 4))) (tCons (tC (.int 50)) tNil)))))) (gName 5))
  (tSeq (tAsg (tOp rAddI (tC (.int 1)) (tOp rModI (tCB rAbsI (tCons (tCall (sp__law_cell_at K) [] E0 (tCons (tVar 0) (tCons (tOp rAddI (tVar 1) (tC (.int 2))) tNil))) tNil)) (tOp rPowI (tC (.int 10)) (tC (.int 30))))) (gName 6))
  (tSeq (tAsg (tCall (sp_fewest K) [] E0 (tCons (tVar 2) (tCons (tVar 5) tNil))) (gName 7))
  (tSeq (tIfS (tOr (tTest (tOp rNe (tCall (sp_fewest K) [] E0 (tCons (tVar 2) (tCons (tOp rAddI (tVar 5) (tVar 4)) tNil))) (tOp rAddI (tVar 7) (tC (.int 1))))) (tTest (tOp rNe (tCall (sp_fewest K) [] E0 (tCons (tVar 2) (tCons (tOp rAddI (tVar 5) (tOp rMulI (tVar 6) (tVar 4))) tNil))) (tOp rAddI (tVar 7) (tVar 6))))) (tRet (tC (.bl false))) tNext)
  (tSeq (tPar 8 9 (tCons (tOp rMulI (tVar 3) (tCall (sp__law_number K) [] E0 (tCons (tCall (sp__law_cell_at K) [] E0 (tCons (tVar 0) (tCons (tVar 1) tNil))) (tCons (tOp rAddI (tVar 1) (tC (.int 7))) (tCons (tC (.int 40)) tNil))))) (tCons (tOp rMulI (tVar 3) (tOp rAddI (tOp rModI (tVar 1) (tC (.int 7))) (tC (.int 3)))) tNil)))
  (tSeq (tIfS (tTest (tOp rGtI (tCall (sp_fewest K) [] E0 (tCons (tVar 2) (tCons (tOp rAddI (tVar 8) (tVar 9)) tNil))) (tOp rAddI (tCall (sp_fewest K) [] E0 (tCons (tVar 2) (tCons (tVar 8) tNil))) (tCall (sp_fewest K) [] E0 (tCons (tVar 2) (tCons (tVar 9) tNil)))))) (tRet (tC (.bl false))) tNext)
  (tSeq (tIfS (tTest (tOp rGtI (tCB rAbsI (tCons (tOp rSubI (tCall (sp_fewest K) [] E0 (tCons (tVar 2) (tCons (tOp rAddI (tVar 8) (tVar 4)) tNil))) (tCall (sp_fewest K) [] E0 (tCons (tVar 2) (tCons (tVar 8) tNil)))) tNil)) (tC (.int 1)))) (tRet (tC (.bl false))) tNext)
  (tSeq (tAsg (tLc (iList K (tVar 2)) (gName 11) (tTest (tOp rLtI (tVar 11) (tC (.int 11)))) (tVar 11) [11]) (gName 10))
  (tIfS (tAnd (tTest (tOp (rNeD K) (tVar 10) (tLst tNil))) (tTest (tOp rEq (tOp rModI (tVar 8) (tCall (sp__law_common K) [] E0 (tCons (tVar 10) tNil))) (tC (.int 0))))) (tSeq (tAsg (tCall (sp_fewest K) [] E0 (tCons (tVar 10) (tCons (tVar 8) tNil))) (gName 12))
  (tIfS (tOr (tTest (tOp rNe (tCall (sp_fewest K) [] E0 (tCons (tLc (iList K (tVar 10)) (gName 11) tYes (tOp rMulI (tC (.int 3)) (tVar 11)) [11]) (tCons (tOp rMulI (tC (.int 3)) (tVar 8)) tNil))) (tVar 12))) (tTest (tOp rLtI (tVar 12) (tCall (sp_fewest K) [] E0 (tCons (tVar 2) (tCons (tVar 8) tNil)))))) (tRet (tC (.bl false))) tNext)) tNext))))))))))))
  (tSeq (tAsg (tLc (iTup K (tTup (tCons (tC (.int 200)) (tCons (tC (.int 230)) (tCons (tC (.int 290)) (tCons (tC (.int 405)) (tCons (tC (.int 435)) (tCons (tC (.int 465)) tNil)))))))) (gName 14) tYes (tCall (sp_fewest K) [] E0 (tCons (tLst (tCons (tC (.int 29)) (tCons (tC (.int 30)) tNil))) (tCons (tVar 14) tNil))) [14]) (gName 13))
  (tSeq (tIfS (tOr (tTest (tOp (rNeD K) (tVar 13) (tLst (tCons (tC (.int 13)) (tCons (tC (.int 12)) (tCons (tC (.int 10)) (tCons (tC (.int 16)) (tCons (tC (.int 15)) (tCons (tC (.int 16)) tNil))))))))) (tTest (tOp rNe (tCall (sp_fewest K) [] E0 (tCons (tLst (tCons (tC (.int 29)) (tCons (tC (.int 30)) tNil))) (tCons (tOp rPowI (tC (.int 10)) (tC (.int 20))) tNil))) (tOp rDivI (tOp rAddI (tOp rPowI (tC (.int 10)) (tC (.int 20))) (tC (.int 20))) (tC (.int 30)))))) (tRet (tC (.bl false))) tNext)
  (tSeq (tIfS (tTest (tOp rNe (tCall (sp_fewest K) [] E0 (tCons (tLst (tCons (tC (.int 1)) (tCons (tC (.int 7)) tNil))) (tCons (tOp rPowI (tC (.int 10)) (tC (.int 20))) tNil))) (tOp rAddI (tOp rDivI (tOp rPowI (tC (.int 10)) (tC (.int 20))) (tC (.int 7))) (tC (.int 2))))) (tRet (tC (.bl false))) tNext)
  (tRet (tOp rEq (tCall (sp_fewest K) [] E0 (tCons (tLst (tCons (tC (.int 2)) (tCons (tC (.int 3)) tNil))) (tCons (tOp rAddI (tOp rPowI (tC (.int 10)) (tC (.int 40))) (tC (.int 1))) tNil))) (tOp rAddI (tOp rDivI (tOp rAddI (tOp rPowI (tC (.int 10)) (tC (.int 40))) (tC (.int 1))) (tC (.int 3))) (tC (.int 1)))))))))
end Cb

set_option Elab.async false
set_option linter.all false
set_option maxRecDepth 100000
set_option maxHeartbeats 4000000
/-! The law k03. -/
namespace Cb
open PySem PySem.Spec PyProof.Rows L2 Evl Chg
def sp_law_k03 (K : PySem.W.Frag) : Sp := fun vs H Q _ => ∃ (p : Addr) (ns : List Int), vs = [.ref p] ∧ SqL K H p (ns.map V.int) ∧ Cells ns ∧ ns.length ≤ 63 ∧ ∀ H', Q (.bl true) H'
section
variable {K : PySem.W.Frag} {vs : List V} {H : Hp} {Q : VK} {E : XK}
theorem len_law_k03 (h : sp_law_k03 K vs H Q E) : vs.length = (["_law_script"] : List Str).length := by
  obtain ⟨p, ns, rfl, _⟩ := h
  rfl
theorem LCoins.coins {m g : Int} {cs : List Int} (h : LCoins m g cs) (hm : m ≤ 6) (hg : g ≤ 30) : Coins cs :=
  ⟨h.one, by have := h.top; omega, fun w hw => by have := h.wor w hw; omega, h.ris⟩
theorem ev_few {σ : L2.St} {tl ta : TE} {p : Addr} {cs : List Int} {a : Int} (h : Ev tl σ H (.ref p)) (h2 : Ev ta σ H (.int a)) (hp : Il H p cs) (hc : Coins cs) (ha : 0 ≤ a) (hd : gc cs ∣ a) : Ev (tCall (sp_fewest K) [] E (tCons tl (tCons ta tNil))) σ H (.int (few cs a)) :=
  ev_callV (ea_cons h (ea_cons h2 ea_nil)) fun H1 e Q q => ⟨p, cs, a, rfl, e _ _ hp, hc, ha, hd, q⟩
/-- of a list that is made on the spot -/
theorem ev_fewN {σ : L2.St} {tl ta : TE} {cs : List Int} {a : Int} (h : EvL tl σ H (cs.map V.int)) (h2 : Ev ta σ H (.int a)) (hc : Coins cs) (ha : 0 ≤ a) (hd : gc cs ∣ a) : Ev (tCall (sp_fewest K) [] E (tCons tl (tCons ta tNil))) σ H (.int (few cs a)) := fun H1 e Q q =>
  h H1 e _ fun p H2 hp e2 h2p => h2 H2 (e.trans e2) _ fun H3 e3 => ⟨p, cs, a, rfl, e3 _ _ h2p, hc, ha, hd, fun H4 e4 => q H4 ((e2.trans e3).trans e4)⟩
theorem rg4 {j : Int} (h : 1 ≤ j ∧ j ≤ 8) : ∃ n : Nat, RgC 0 j 4 n ∧ n ≤ 2 := by
  rcases (by omega : j = 1 ∨ j = 2 ∨ j = 3 ∨ j = 4 ∨ j = 5 ∨ j = 6 ∨ j = 7 ∨ j = 8) with rfl | rfl | rfl | rfl | rfl | rfl | rfl | rfl
  · exact ⟨1, ⟨by decide, by decide, by decide, by decide⟩, by decide⟩
  · exact ⟨1, ⟨by decide, by decide, by decide, by decide⟩, by decide⟩
  · exact ⟨1, ⟨by decide, by decide, by decide, by decide⟩, by decide⟩
  · exact ⟨1, ⟨by decide, by decide, by decide, by decide⟩, by decide⟩
  · exact ⟨2, ⟨by decide, by decide, by decide, by decide⟩, by decide⟩
  · exact ⟨2, ⟨by decide, by decide, by decide, by decide⟩, by decide⟩
  · exact ⟨2, ⟨by decide, by decide, by decide, by decide⟩, by decide⟩
  · exact ⟨2, ⟨by decide, by decide, by decide, by decide⟩, by decide⟩
theorem coins_filter {cs : List Int} (hc : Coins cs) (f : Int → Bool) (ne : cs.filter f ≠ []) : Coins (cs.filter f) :=
  ⟨by cases h : cs.filter f with
    | nil => exact absurd h ne
    | cons x r => simp,
   Nat.le_trans (List.length_filter_le _ _) hc.six, fun w hw => hc.wor w (List.mem_filter.mp hw).1, hc.ris.filter f⟩
theorem coins_times {cs : List Int} (hc : Coins cs) (h : ∀ w ∈ cs, w ≤ 10) : Coins (cs.map (3 * ·)) :=
  ⟨by rw [List.length_map]; exact hc.one, by rw [List.length_map]; exact hc.six, fun w hw => by
    obtain ⟨u, hu, rfl⟩ := List.mem_map.mp hw
    have := hc.wor u hu
    have := h u hu
    omega, List.pairwise_map.mpr (hc.ris.imp fun {a b} h => by omega)⟩
theorem coins2 {a b : Int} (h : 1 ≤ a ∧ a < b ∧ b ≤ 30) : Coins [a, b] :=
  ⟨by simp, by simp, by
    intro w hw
    rcases List.mem_cons.mp hw with z | z
    · omega
    · have : w = b := by simpa using z
      omega, by simp; omega⟩
theorem pure_law_k03 (h : sp_law_k03 K vs H Q E) : t_law_k03 K (endsOf Q) (start ["_law_script", "_law_by", "_law_coins_here", "_law_part", "_law_great", "_law_one", "_law_far", "_law_base", "_law_two", "_law_three", "_law_few", "_law_worth", "_law_alone", "_law_told", "_law_amount"] vs) H := by
  obtain ⟨p, ns, rfl, hp, hcl, hlen, q⟩ := h
  have len : (ns.map V.int).length = ns.length := List.length_map ..
  obtain ⟨n, hn, hn2⟩ := rg4 (j := if (if ((ns.map V.int).length : Int) < 8 then ((ns.map V.int).length : Int) else 8) > 1 then (if ((ns.map V.int).length : Int) < 8 then ((ns.map V.int).length : Int) else 8) else 1) (by split <;> (try split) <;> omega)
  refine q_forR3 (ea_cons ev_c (ea_cons (ev_max ev_c (ev_min ev_c (ev_len (ev_var rfl) hp))) (ea_cons ev_c ea_nil))) hn (fun i σ' H' => Ex H H' ∧ ∃ y1 y2 y3 y4 y5 y6 y7 y8 y9 y10 y11 y12 y13 y14 : Option V, σ' = [some (.ref p), y1, y2, y3, y4, y5, y6, y7, y8, y9, y10, y11, y12, y13, y14]) (fun H0 e0 => ⟨e0, _, _, _, _, _, _, _, _, _, _, _, _, _, _, rfl⟩) (fun i σ' H' hi hP => ?_) fun σ' H' hP => ?_
  · obtain ⟨ex, y1, y2, y3, y4, y5, y6, y7, y8, y9, y10, y11, y12, y13, y14, rfl⟩ := hP
    have hb : (0 : Int) ≤ 0 + (i : Int) * 4 ∧ 0 + (i : Int) * 4 ≤ 4 := by omega
    generalize (0 : Int) + (i : Int) * 4 = b at hb
    have hp0 := ex_l ex hp
    -- coins
    refine q_asgCall (ea_cons (ev_var rfl) (ea_cons (ev_var rfl) (ea_cons ev_c (ea_cons ev_c ea_nil)))) fun H1 e1 => ⟨p, ns, b, 6, 12, rfl, ex_l e1 hp0, hcl, by omega, by omega, by omega, fun cs hcs lc H2 nlc e2 hlc => ?_⟩
    have hc := hcs.coins (by omega) (by omega)
    have w12 := hcs.wor
    have ht : 1 ≤ topC cs ∧ topC cs ≤ 12 := w12 _ (topC_mem hc.ne)
    have gpos := hc.gpos
    have gle : gc cs ≤ 12 := by have := gc_le_of (topC_mem hc.ne) (by omega); omega
    have hp2 := ex_l (e1.trans e2) hp0
    -- part, great
    refine q_par (ev_callV (z := .int (gc cs)) (ea_cons (ev_var rfl) ea_nil) fun H3 e3 Q q => ⟨lc, cs, rfl, e3 _ _ hlc, hc.ne, by have := hc.six; omega, fun w hw => by have := hc.wor w hw; omega, q⟩) (ev_ixL (ev_var rfl) ev_m1 (sq_of hlc) (topC_at hc.ne)) fun H4 e4 => ?_
    have hlc4 := e4 _ _ hlc
    have hp4 := ex_l e4 hp2
    -- one
    have n50 := num_bound (c := cellAt ns (b + 1)) (k := b + 4) (m := 50) (by decide)
    refine q_asg (ev_add (ev_mul (ev_var rfl) (ev_var rfl) (small_mul (by omega))) (ev_mul (ev_var rfl) (ev_num (ev_cell (ev_var rfl) (ev_add (ev_var rfl) ev_c) hp4 (by omega)) (ev_add (ev_var rfl) ev_c) ev_c (cell_Bits hcl _) (by omega) (by decide)) (small_mul (by omega)))) fun H5 e5 => ?_
    generalize numV (cellAt ns (b + 1)) (b + 4) 50 = n50v at n50
    have hpn : 0 ≤ gc cs * n50v := Int.mul_nonneg (by omega) (by omega)
    have hone : gc cs ∣ topC cs * topC cs + gc cs * n50v := Int.dvd_add (Int.dvd_mul_of_dvd_left (gc_dvd (topC_mem hc.ne))) (Int.dvd_mul_right _ _)
    have hgg : 0 ≤ topC cs * topC cs := Int.mul_nonneg (by omega) (by omega)
    have hge : topC cs * topC cs ≤ topC cs * topC cs + gc cs * n50v := by omega
    generalize topC cs * topC cs + gc cs * n50v = one at hone hge
    -- far
    refine q_asg (ev_add ev_c (ev_mod (ev_abs (ev_cell (ev_var rfl) (ev_add (ev_var rfl) ev_c) (ex_l e5 hp4) (by omega))) (ev_pow ev_c ev_c (by decide)) (by decide))) fun H6 e6 => ?_
    have hfar : 0 < 1 + (if cellAt ns (b + 2) < 0 then -cellAt ns (b + 2) else cellAt ns (b + 2)) % (10 : Int) ^ (Int.toNat 30) := by
      have := Int.emod_nonneg (if cellAt ns (b + 2) < 0 then -cellAt ns (b + 2) else cellAt ns (b + 2)) (show (10 : Int) ^ (Int.toNat 30) ≠ 0 by decide)
      omega
    generalize 1 + (if cellAt ns (b + 2) < 0 then -cellAt ns (b + 2) else cellAt ns (b + 2)) % (10 : Int) ^ (Int.toNat 30) = far at hfar
    have hlc6 := e6 _ _ (e5 _ _ hlc4)
    have hp6 := ex_l (e5.trans e6) hp4
    -- base
    refine q_asg (ev_few (ev_var rfl) (ev_var rfl) hlc6 hc (by omega) hone) fun H7 e7 => ?_
    have hlc7 := e7 _ _ hlc6
    have dg : gc cs ∣ topC cs := gc_dvd (topC_mem hc.ne)
    have can1 : Can cs one := (can_iff fun w hw => (hc.le_top w hw).1).mpr hone
    have fg : 0 ≤ far * topC cs := Int.mul_nonneg (by omega) (by omega)
    refine q_when (b := false) (et_is (et_or (et_test (ev_neI (ev_few (ev_var rfl) (ev_add (ev_var rfl) (ev_var rfl)) hlc7 hc (by omega) (Int.dvd_add hone dg)) (ev_add (ev_var rfl) ev_c)))
      fun _ => et_test (ev_neI (ev_few (ev_var rfl) (ev_add (ev_var rfl) (ev_mul (ev_var rfl) (ev_var rfl) (small_mul (by omega)))) hlc7 hc (by omega) (Int.dvd_add hone (Int.dvd_mul_of_dvd_right dg))) (ev_add (ev_var rfl) (ev_var rfl)))) ?_) (fun z => nomatch z) fun _ H8 e8 => ?_
    · have z1 := few_great1 hc.le_top (topC_mem hc.ne) hge can1
      have z2 := few_great hc.le_top (topC_mem hc.ne) hge can1 far.toNat
      rw [show ((far.toNat : Nat) : Int) = far by omega] at z2
      rw [z1, z2]; simp
    have hlc8 := e8 _ _ hlc7
    have hp8 := ex_l (e7.trans e8) hp6
    -- two, three
    have n40 := num_bound (c := cellAt ns b) (k := b + 7) (m := 40) (by decide)
    refine q_par (ev_mul (ev_var rfl) (ev_num (ev_cell (ev_var rfl) (ev_var rfl) hp8 (by omega)) (ev_add (ev_var rfl) ev_c) ev_c (cell_Bits hcl _) (by omega) (by decide)) (small_mul (by omega))) (ev_mul (ev_var rfl) (ev_add (ev_mod (ev_var rfl) ev_c (by decide)) ev_c) (small_mul (by omega))) fun H10 e10 => ?_
    generalize numV (cellAt ns b) (b + 7) 40 = n40v at n40
    have h7 : 0 ≤ b % 7 + 3 := by omega
    generalize b % 7 + 3 = b7 at h7
    have two0 : 0 ≤ gc cs * n40v := Int.mul_nonneg (by omega) (by omega)
    have three0 : 0 ≤ gc cs * b7 := Int.mul_nonneg (by omega) (by omega)
    have d2 : gc cs ∣ gc cs * n40v := Int.dvd_mul_right _ _
    have d3 : gc cs ∣ gc cs * b7 := Int.dvd_mul_right _ _
    generalize gc cs * n40v = two at two0 d2
    generalize gc cs * b7 = three at three0 d3
    have can2 : Can cs two := (can_iff fun w hw => (hc.le_top w hw).1).mpr d2
    have can3 : Can cs three := (can_iff fun w hw => (hc.le_top w hw).1).mpr d3
    have hlc10 := e10 _ _ hlc8
    refine q_when (b := false) (et_is (et_test (ev_cmp (p := fun i j => decide (j < i)) (ev_few (ev_var rfl) (ev_add (ev_var rfl) (ev_var rfl)) hlc10 hc (by omega) (Int.dvd_add d2 d3)) (ev_add (ev_few (ev_var rfl) (ev_var rfl) hlc10 hc two0 d2) (ev_few (ev_var rfl) (ev_var rfl) hlc10 hc three0 d3)))) ?_) (fun z => nomatch z) fun _ H11 e11 => ?_
    · have := few_add can2 can3
      exact decide_eq_false (by omega)
    have hlc11 := e11 _ _ hlc10
    refine q_when (b := false) (et_is (et_test (ev_cmp (p := fun i j => decide (j < i)) (ev_abs (ev_sub (ev_few (ev_var rfl) (ev_add (ev_var rfl) (ev_var rfl)) hlc11 hc (by omega) (Int.dvd_add d2 dg)) (ev_few (ev_var rfl) (ev_var rfl) hlc11 hc two0 d2))) ev_c)) ?_) (fun z => nomatch z) fun _ H12 e12 => ?_
    · have := few_near can2 (topC_mem hc.ne)
      exact decide_eq_false (by split <;> omega)
    have hlc12 := e12 _ _ hlc11
    -- few
    refine q_asgL (xs := (cs.filter fun w => decide (w < 11)).map V.int) (el_eq (el_lc (xs := cs.map V.int) (fun x => match x with | .int w => decide (w < 11) | _ => false) id (ev_var rfl) (sq_of hlc12) (by rw [List.length_map]; have := hc.six; omega) (fun _ => rfl) (fun x H13 hx e13 => ?_) fun x H13 hx e13 _ => ev_var rfl) ?_) fun lf H13 nlf e13 hlf => ?_
    · obtain ⟨w, _, rfl⟩ := List.mem_map.mp hx
      exact et_test (ev_cmp (p := fun i j => decide (i < j)) (ev_var rfl) ev_c)
    · rw [List.map_id, List.filter_map]; rfl
    have hlc13 := e13 _ _ hlc12
    have ex13 : Ex H H13 := ex.trans (e1.trans (e2.trans (e4.trans (e5.trans (e6.trans (e7.trans (e8.trans (e10.trans (e11.trans (e12.trans e13))))))))))
    by_cases nef : cs.filter (fun w => decide (w < 11)) = []
    · refine s_when (b := false) (et_is (et_and (a := false) (b := false) (et_is (et_test (ev_neN (ys := []) (ev_var rfl) (sq_of hlf) (el_lst ea_nil (by simp)))) (by rw [nef]; rfl)) (fun z => nomatch z)) rfl) (fun z => nomatch z) fun _ H14 e14 => ⟨ex13.trans e14, _, _, _, _, _, _, _, _, _, _, _, _, _, _, rfl⟩
    have hcf := coins_filter hc _ nef
    generalize hfl : cs.filter (fun w => decide (w < 11)) = fl at hlf nef hcf
    have fl10 : ∀ w ∈ fl, w ≤ 10 := fun w hw => by
      rw [← hfl] at hw
      have := (List.mem_filter.mp hw).2
      simp at this; omega
    have flsub : ∀ w ∈ fl, w ∈ cs := fun w hw => by
      rw [← hfl] at hw
      exact (List.mem_filter.mp hw).1
    refine s_when (b := decide (two % gc fl = 0)) (et_is (et_and (a := true) (et_is (et_test (ev_neN (ys := []) (ev_var rfl) (sq_of hlf) (el_lst ea_nil (by simp)))) (by simp [nef])) fun _ => et_test (ev_eqI (ev_mod (ev_var rfl) (ev_callV (z := .int (gc fl)) (ea_cons (ev_var rfl) ea_nil) fun H3 e3 Q q => ⟨lf, fl, rfl, e3 _ _ hlf, nef, by have := hcf.six; omega, fun w hw => by have := hcf.wor w hw; omega, q⟩) hcf.gpos) ev_c)) (by rw [Bool.true_and])) (fun hb H14 e14 => ?_) fun _ H14 e14 => ⟨ex13.trans e14, _, _, _, _, _, _, _, _, _, _, _, _, _, _, rfl⟩
    have df : gc fl ∣ two := Int.dvd_of_emod_eq_zero (of_decide_eq_true hb)
    have canf : Can fl two := (can_iff fun w hw => (hcf.le_top w hw).1).mpr df
    have hlf14 := e14 _ _ hlf
    refine q_asg (ev_few (ev_var rfl) (ev_var rfl) hlf14 hcf two0 df) fun H15 e15 => ?_
    have hlf15 := e15 _ _ hlf14
    have hlc15 := e15 _ _ (e14 _ _ hlc13)
    refine s_when (b := false) (et_is (et_or (et_test (ev_neI (ev_fewN (cs := fl.map (3 * ·)) (el_eq (el_lcY (xs := fl.map V.int) (fun x => match x with | .int w => .int (3 * w) | _ => .non) (ev_var rfl) (sq_of hlf15) (by rw [List.length_map]; have := hcf.six; omega) (fun _ => rfl) fun x H16 hx e16 => ?_) ?_) (ev_mul ev_c (ev_var rfl) (mulOk_left (by omega))) (coins_times hcf fl10) (by omega) (gc_times (by omega) (fun w hw => (hcf.le_top w hw).1) df)) (ev_var rfl)))
      fun _ => et_test (ev_cmp (p := fun i j => decide (i < j)) (ev_var rfl) (ev_few (ev_var rfl) (ev_var rfl) hlc15 hc two0 d2))) ?_) (fun z => nomatch z) fun _ H16 e16 => ⟨(ex13.trans (e14.trans e15)).trans e16, _, _, _, _, _, _, _, _, _, _, _, _, _, _, rfl⟩
    · obtain ⟨w, _, rfl⟩ := List.mem_map.mp hx
      exact ev_mul ev_c (ev_var rfl) (mulOk_left (by omega))
    · rw [List.map_map, List.map_map]; rfl
    · have z1 := few_sub flsub canf
      rw [few_times (by omega), decide_eq_false (show ¬ few fl two < few cs two by omega)]
      simp
  · obtain ⟨ex, y1, y2, y3, y4, y5, y6, y7, y8, y9, y10, y11, y12, y13, y14, rfl⟩ := hP
    have l2 : ∀ {σ : L2.St} {H1 : Hp} {a b : Int}, EvL (tLst (tCons (tC (.int a)) (tCons (tC (.int b)) tNil))) σ H1 ([a, b].map V.int) := fun {σ H1 a b} => el_lst (ea_cons ev_c (ea_cons ev_c ea_nil)) (by simp)
    have c1 := coins2 (a := 29) (b := 30) (by decide)
    have c2 := coins2 (a := 1) (b := 7) (by decide)
    have c3 := coins2 (a := 2) (b := 3) (by decide)
    have g1 : gc [29, 30] = 1 := by decide
    have g2 : gc [1, 7] = 1 := by decide
    have g3 : gc [2, 3] = 1 := by decide
    refine q_asgL (xs := ([200, 230, 290, 405, 435, 465].map fun a => few [29, 30] a).map V.int) (el_eq (el_lcNU (xs := [200, 230, 290, 405, 435, 465].map V.int) (fun x => match x with | .int a => .int (few [29, 30] a) | _ => .non) (eu_tup (ea_cons ev_c (ea_cons ev_c (ea_cons ev_c (ea_cons ev_c (ea_cons ev_c (ea_cons ev_c ea_nil)))))) (by simp)) (by simp) (fun _ => rfl) fun x H1 hx e1 => ?_) rfl) fun lt H1 nlt e1 hlt => ?_
    · obtain ⟨a, ha, rfl⟩ := List.mem_map.mp hx
      have a0 : 0 ≤ a := (by decide : ∀ a ∈ ([200, 230, 290, 405, 435, 465] : List Int), 0 ≤ a) a ha
      exact ev_fewN l2 (ev_var rfl) c1 a0 (by rw [g1]; exact Int.one_dvd _)
    have p20 : ∀ {H1 : Hp} {σ : L2.St}, Ev (tOp rPowI (tC (.int 10)) (tC (.int 20))) σ H1 (.int 100000000000000000000) := ev_eq (ev_pow ev_c ev_c (by decide)) (by decide)
    have p40 : ∀ {H1 : Hp} {σ : L2.St}, Ev (tOp rPowI (tC (.int 10)) (tC (.int 40))) σ H1 (.int 10000000000000000000000000000000000000000) := ev_eq (ev_pow ev_c ev_c (by decide)) (by decide)
    have l6 : ∀ {H1 : Hp} {σ : L2.St}, EvL (tLst (tCons (tC (.int 13)) (tCons (tC (.int 12)) (tCons (tC (.int 10)) (tCons (tC (.int 16)) (tCons (tC (.int 15)) (tCons (tC (.int 16)) tNil))))))) σ H1 (([13, 12, 10, 16, 15, 16] : List Int).map V.int) := fun {H1 σ} => el_lst (ea_cons ev_c (ea_cons ev_c (ea_cons ev_c (ea_cons ev_c (ea_cons ev_c (ea_cons ev_c ea_nil)))))) (by simp)
    refine q_when (b := false) (et_is (et_or (et_test (ev_neN (ev_var rfl) (sq_of hlt) l6)) fun _ => et_test (ev_neI (ev_fewN l2 p20 c1 (by decide) (by rw [g1]; exact Int.one_dvd _)) (ev_div (ev_add p20 ev_c) ev_c (by decide)))) ?_) (fun z => nomatch z) fun _ H2 e2 => ?_
    · have f1 : few [29, 30] 200 = 13 := few2 (10) (-3) (by decide) (by decide) (by omega)
      have f2 : few [29, 30] 230 = 12 := few2 (10) (-2) (by decide) (by decide) (by omega)
      have f3 : few [29, 30] 290 = 10 := few2 (10) (0) (by decide) (by decide) (by omega)
      have f4 : few [29, 30] 405 = 16 := few2 (15) (-1) (by decide) (by decide) (by omega)
      have f5 : few [29, 30] 435 = 15 := few2 (15) (0) (by decide) (by decide) (by omega)
      have f6 : few [29, 30] 465 = 16 := few2 (15) (1) (by decide) (by decide) (by omega)
      have f7 : few [29, 30] 100000000000000000000 = 3333333333333333334 := few2 (20) (3333333333333333314) (by decide) (by decide) (by omega)
      rw [f7]
      simp only [List.map_cons, List.map_nil, f1, f2, f3, f4, f5, f6]
      decide
    refine q_when (b := false) (et_is (et_test (ev_neI (ev_fewN l2 p20 c2 (by decide) (by rw [g2]; exact Int.one_dvd _)) (ev_add (ev_div p20 ev_c (by decide)) ev_c))) ?_) (fun z => nomatch z) fun _ H3 e3 => ?_
    · have f1 : few [1, 7] 100000000000000000000 = 14285714285714285716 := few2 (2) (14285714285714285714) (by decide) (by decide) (by omega)
      rw [f1]; decide
    refine s_ret (ev_eqI (ev_fewN l2 (ev_add p40 ev_c) c3 (by decide) (by rw [g3]; exact Int.one_dvd _)) (ev_add (ev_div (ev_add p40 ev_c) ev_c (by decide)) ev_c)) fun H4 e4 => ?_
    have : few [2, 3] (10000000000000000000000000000000000000000 + 1) = (10000000000000000000000000000000000000000 + 1) / 3 + 1 := by
      have f1 : few [2, 3] 10000000000000000000000000000000000000001 = 3333333333333333333333333333333333333334 := few2 (1) (3333333333333333333333333333333333333333) (by decide) (by decide) (by omega)
      exact f1.trans (by decide)
    rw [this, decide_eq_true rfl]
    exact q H4
end
end Cb

set_option Elab.async false
set_option linter.all false
set_option maxRecDepth 100000
set_option maxHeartbeats 4000000
/-! The row: scopes, terms, the end. -/
namespace Cb
open PySem PySem.Spec PyProof.Rows L2 Evl Chg
def topS (i : Nat) : Stmt := PySem.Challenge.pw_changeback_k03_whole_great.main.body.getD i (.Pass ⟨0, 0, 0, 0⟩)
section
variable {P : Program} {w : World} {K : PySem.W.Frag} {mg : Str → Option Value} {base : Heap}
abbrev s_is_number : Stmt := topS 8
theorem sc_is_number : FnScope ["thing"] ["thing"] (defScope s_is_number) := ⟨rfl, rfl, rfl, by decide +kernel, rfl, by decide +kernel, by decide +kernel⟩
theorem ok_is_number (B : Blt mg) (F : FnAt K mg "is_number" s_is_number ["thing"]) : Cal P w K mg base CX0 1 "is_number" ["thing"] (sp_is_number K) :=
  F.ok (t := (t_is_number K)) (k := 0) sc_is_number (fun vs H Q E h => len_is_number h) (fun vs H Q E h => pure_is_number h) (fun f cdv A outer s H E hr => by
    have nd := sc_is_number.nd
    exact (pss_one (ps_ret (pe_and (pe_callB call_isi (by rfl) B.isinstance (by decide +kernel) (pa_cons (pv 0) (pa_cons (pe_bltn (v := .ty "int") (by rfl) B.int (by decide +kernel) rfl) pa_nil))) (pe_one (pe_not (pe_callB call_isi (by rfl) B.isinstance (by decide +kernel) (pa_cons (pv 0) (pa_cons (pe_bltn (v := .ty "bool") (by rfl) B.bool (by decide +kernel) rfl) pa_nil)))))))))
abbrev s_check_coins : Stmt := topS 9
theorem sc_check_coins : FnScope ["coins", "worth", "one", "other"] ["coins"] (defScope s_check_coins) := ⟨rfl, rfl, rfl, by decide +kernel, rfl, by decide +kernel, by decide +kernel⟩
theorem ok_check_coins (B : Blt mg) (M_MOST_COINS : ∃ t, mg "MOST_COINS" = some (.int 6 t)) (M_GREATEST : ∃ t, mg "GREATEST" = some (.int 30 t)) (C_is_number : Cal P w K mg base CX0 1 "is_number" ["thing"] (sp_is_number K)) (F : FnAt K mg "check_coins" s_check_coins ["coins"]) : Cal P w K mg base CX0 2 "check_coins" ["coins"] (sp_check_coins K) :=
  F.ok (t := (t_check_coins K)) (k := 1) sc_check_coins (fun vs H Q E h => len_check_coins h) (fun vs H Q E h => pure_check_coins h) (fun f cdv A outer s H E hr => by
    have nd := sc_check_coins.nd
    exact (pss_cons (ps_if (PW.pt (pw_or (pt_not (pt_val (pe_callB call_isi (by rfl) B.isinstance (by decide +kernel) (pa_cons (pv 0) (pa_cons (pe_bltn (v := .ty "list") (by rfl) B.list (by decide +kernel) rfl) pa_nil))))) (pw_or1 (pt_not (pt_chain op_le op_le pe_int (pe_callB call_len_seq (by rfl) B.len (by decide +kernel) (pa_cons (pv 0) pa_nil)) (pe_glob (by rfl) M_MOST_COINS.choose_spec ⟨_, rfl⟩)))))) (pss_one ps_never) pss_nil)
      (pss_cons (ps_if (pt_not (pt_val (pe_callB (cr_all rfl) (by rfl) B.all (by decide +kernel) (pa_cons (pe_lc (own := [("worth", 1)]) (g := (gName 1)) (tt := tYes) (by rfl) nd (pi_list (pv 0)) (blkOk_by (N := ["coins", "worth", "one", "other"]) (sc := (defScope s_check_coins)) (by decide +kernel)) (fun _ _ _ _ _ => (pg_name (i := 1) nd rfl (Or.inl rfl))) (fun _ _ _ _ _ => pts_nil) (fun _ _ _ _ _ => (pe_and (pc_call C_is_number (hr.mono (by decide)) (pa_cons (pv 1) pa_nil)) (pe_one (pe_chain op_le op_le pe_int (pv 1) (pe_glob (by rfl) M_GREATEST.choose_spec ⟨_, rfl⟩)))))) pa_nil)))) (pss_one ps_never) pss_nil)
      (pss_one (ps_if (pt_val (pe_callB (cr_any rfl) (by rfl) B.any (by decide +kernel) (pa_cons (pe_lc (own := [("one", 2), ("other", 3)]) (g := (gTup K 2 (gCons (gName 2) (gCons (gName 3) gNil)))) (tt := tYes) (by rfl) nd (pi_zip (by rfl) B.zip (pa_cons (pv 0) (pa_cons (pe_slice sl_list (pv 0) (po_some pe_int) po_none) pa_nil))) (blkOk_by (N := ["coins", "worth", "one", "other"]) (sc := (defScope s_check_coins)) (by decide +kernel)) (fun _ _ _ _ _ => (pg_tup rfl (pgs_cons (pg_name (i := 2) nd rfl (Or.inl rfl)) (pgs_cons (pg_name (i := 3) nd rfl (Or.inl rfl)) pgs_nil)))) (fun _ _ _ _ _ => pts_nil) (fun _ _ _ _ _ => (pe_cmpR op_ge (pv 2) (pv 3) (nomark _)))) pa_nil))) (pss_one ps_never) pss_nil)))))
abbrev s_check_amount : Stmt := topS 10
theorem sc_check_amount : FnScope ["amount", "most"] ["amount", "most"] (defScope s_check_amount) := ⟨rfl, rfl, rfl, by decide +kernel, rfl, by decide +kernel, by decide +kernel⟩
theorem ok_check_amount (B : Blt mg) (C_is_number : Cal P w K mg base CX0 1 "is_number" ["thing"] (sp_is_number K)) (F : FnAt K mg "check_amount" s_check_amount ["amount", "most"]) : Cal P w K mg base CX0 2 "check_amount" ["amount", "most"] (sp_check_amount K) :=
  F.ok (t := (t_check_amount K)) (k := 1) sc_check_amount (fun vs H Q E h => len_check_amount h) (fun vs H Q E h => pure_check_amount h) (fun f cdv A outer s H E hr => by
    have nd := sc_check_amount.nd
    exact (pss_one (ps_if (PW.pt (pw_or (pt_not (pt_val (pc_call C_is_number (hr.mono (by decide)) (pa_cons (pv 0) pa_nil)))) (pw_or (pt_cmpR op_lt (pv 0) pe_int (nomark _)) (pw_or1 (pt_chain op_le op_lt pe_int (pv 1) (pv 0)))))) (pss_one ps_never) pss_nil)))
abbrev s_common : Stmt := topS 11
theorem sc_common : FnScope ["numbers", "found", "number"] ["numbers"] (defScope s_common) := ⟨rfl, rfl, rfl, by decide +kernel, rfl, by decide +kernel, by decide +kernel⟩
theorem ok_common (B : Blt mg) (F : FnAt K mg "common" s_common ["numbers"]) : Cal P w K mg base CX0 1 "common" ["numbers"] (sp_common K) :=
  F.ok (t := (t_common K)) (k := 0) sc_common (fun vs H Q E h => len_common h) (fun vs H Q E h => pure_common h) (fun f cdv A outer s H E hr => by
    have nd := sc_common.nd
    exact (pss_cons (ps_set (i := 1) nd rfl (Or.inl rfl) pe_int)
      (pss_cons (ps_for PassesOwn.never rfl (pi_list (pv 0)) (pg_name (i := 2) nd rfl (Or.inl rfl)) (pss_one (ps_while PassesOwn.never (pt_cmpR op_gt (pv 2) pe_int (nomark _)) (pss_one (ps_par (by rfl) nd rfl rfl (by decide) rfl rfl (pa_cons (pv 2) (pa_cons (pe_op op_mod (pv 1) (pv 2)) pa_nil)) (by rfl))))))
      (pss_one (ps_ret (pv 1))))))
abbrev s_strip : Stmt := topS 12
theorem sc_strip : FnScope ["coins", "amount"] ["coins", "amount"] (defScope s_strip) := ⟨rfl, rfl, rfl, by decide +kernel, rfl, by decide +kernel, by decide +kernel⟩
theorem ok_strip (B : Blt mg) (F : FnAt K mg "strip" s_strip ["coins", "amount"]) : Cal P w K mg base CX0 1 "strip" ["coins", "amount"] (sp_strip K) :=
  F.ok (t := (t_strip K)) (k := 0) sc_strip (fun vs H Q E h => len_strip h) (fun vs H Q E h => pure_strip h) (fun f cdv A outer s H E hr => by
    have nd := sc_strip.nd
    exact (pss_one (ps_ret (pe_listRg rfl (by rfl) B.list (prg_2 (by rfl) B.range (pe_un un_neg (pe_ix ix_list (pv 0) (pe_un un_neg pe_int) (fun _ _ => rfl))) (pe_op op_add (pv 1) (pe_ix ix_list (pv 0) (pe_un un_neg pe_int) (fun _ _ => rfl))))))))
abbrev s_heights_of : Stmt := topS 13
theorem sc_heights_of : FnScope ["coins", "amount", "places", "found", "turn", "here", "worth", "there"] ["coins", "amount"] (defScope s_heights_of) := ⟨rfl, rfl, rfl, by decide +kernel, rfl, by decide +kernel, by decide +kernel⟩
theorem ok_heights_of (B : Blt mg) (C_strip : Cal P w K mg base CX0 1 "strip" ["coins", "amount"] (sp_strip K)) (F : FnAt K mg "heights_of" s_heights_of ["coins", "amount"]) : Cal P w K mg base CX0 2 "heights_of" ["coins", "amount"] (sp_heights_of K) :=
  F.ok (t := (t_heights_of K)) (k := 1) sc_heights_of (fun vs H Q E h => len_heights_of h) (fun vs H Q E h => pure_heights_of h) (fun f cdv A outer s H E hr => by
    have nd := sc_heights_of.nd
    exact (pss_cons (ps_set (i := 2) nd rfl (Or.inl rfl) (pc_call C_strip (hr.mono (by decide)) (pa_cons (pv 0) (pa_cons (pv 1) pa_nil))))
      (pss_cons (ps_set (i := 3) nd rfl (Or.inl rfl) (pe_op op_rep (pe_lst (pa_cons (pe_un un_neg pe_int) pa_nil)) (pe_callB call_len_seq (by rfl) B.len (by decide +kernel) (pa_cons (pv 2) pa_nil))))
      (pss_cons (ps_asg pe_int (pg_sub (pv 3) (pe_ix ix_list (pv 0) (pe_un un_neg pe_int) (fun _ _ => rfl)) set_list))
      (pss_cons (ps_set (i := 4) nd rfl (Or.inl rfl) (pe_lst (pa_cons (pe_ix ix_list (pv 0) (pe_un un_neg pe_int) (fun _ _ => rfl)) pa_nil)))
      (pss_cons (ps_while PassesOwn.never (pt_cmpR (op_neD hr.units) (pv 4) (pe_lst pa_nil) (nomark _)) (pss_cons (ps_set (i := 5) nd rfl (Or.inl rfl) (pe_bm PySem.F.plainAttrs_list PySem.F.slot_list_pop PySem.F.type_list_pop mt_popAt (pv 4) (pa_cons pe_int pa_nil)))
      (pss_one (ps_for PassesOwn.never rfl (pi_list (pv 0)) (pg_name (i := 6) nd rfl (Or.inl rfl)) (pss_one (ps_for PassesOwn.never rfl (pi_tup (pe_tup (pa_cons (pe_op op_sub (pv 5) (pv 6)) (pa_cons (pe_op op_add (pv 5) (pv 6)) pa_nil)))) (pg_name (i := 7) nd rfl (Or.inl rfl)) (pss_one (ps_if (PW.pt (pw_and (pt_chain op_le op_lt pe_int (pv 7) (pe_callB call_len_seq (by rfl) B.len (by decide +kernel) (pa_cons (pv 2) pa_nil))) (pw_and1 (pt_cmpR op_lt (pe_ix ix_list (pv 3) (pv 7) (fun _ _ => rfl)) pe_int (nomark _))))) (pss_cons (ps_asg (pe_op op_add (pe_ix ix_list (pv 3) (pv 5) (fun _ _ => rfl)) pe_int) (pg_sub (pv 3) (pv 7) set_list))
      (pss_one (ps_expr (pe_bm PySem.F.plainAttrs_list PySem.F.slot_list_append PySem.F.type_list_append mt_append (pv 4) (pa_cons (pv 7) pa_nil))))) pss_nil))))))))
      (pss_one (ps_ret (pv 3)))))))))
abbrev s_fewest : Stmt := topS 15
theorem sc_fewest : FnScope ["coins", "amount", "great", "more", "left"] ["coins", "amount"] (defScope s_fewest) := ⟨rfl, rfl, rfl, by decide +kernel, rfl, by decide +kernel, by decide +kernel⟩
theorem ok_fewest (B : Blt mg) (C_check_coins : Cal P w K mg base CX0 2 "check_coins" ["coins"] (sp_check_coins K)) (C_check_amount : Cal P w K mg base CX0 2 "check_amount" ["amount", "most"] (sp_check_amount K)) (C_common : Cal P w K mg base CX0 1 "common" ["numbers"] (sp_common K)) (C_heights_of : Cal P w K mg base CX0 2 "heights_of" ["coins", "amount"] (sp_heights_of K)) (F : FnAt K mg "fewest" s_fewest ["coins", "amount"]) : Cal P w K mg base CX0 3 "fewest" ["coins", "amount"] (sp_fewest K) :=
  F.ok (t := (t_fewest K)) (k := 2) sc_fewest (fun vs H Q E h => len_fewest h) (fun vs H Q E h => pure_fewest h) (fun f cdv A outer s H E hr => by
    have nd := sc_fewest.nd
    exact (pss_cons (ps_expr (pc_call C_check_coins (hr.mono (by decide)) (pa_cons (pv 0) pa_nil)))
      (pss_cons (ps_expr (pc_call C_check_amount (hr.mono (by decide)) (pa_cons (pv 1) (pa_cons (pe_un un_neg pe_int) pa_nil))))
      (pss_cons (ps_if (pt_cmpR op_gt (pe_op op_mod (pv 1) (pc_call C_common (hr.mono (by decide)) (pa_cons (pv 0) pa_nil))) pe_int (nomark _)) (pss_one ps_never) pss_nil)
      (pss_cons (ps_set (i := 2) nd rfl (Or.inl rfl) (pe_ix ix_list (pv 0) (pe_un un_neg pe_int) (fun _ _ => rfl)))
      (pss_cons (ps_set (i := 3) nd rfl (Or.inl rfl) (pe_callB (call_max2 rfl) (by rfl) B.max (by decide +kernel) (pa_cons pe_int (pa_cons (pe_op op_fdiv (pe_op op_sub (pv 1) (pe_op op_mulK (pv 2) (pv 2))) (pv 2)) pa_nil))))
      (pss_cons (ps_set (i := 4) nd rfl (Or.inl rfl) (pe_op op_sub (pv 1) (pe_op op_mulK (pv 3) (pv 2))))
      (pss_one (ps_ret (pe_op op_add (pv 3) (pe_ix ix_list (pc_call C_heights_of (hr.mono (by decide)) (pa_cons (pv 0) (pa_cons (pv 4) pa_nil))) (pe_op op_add (pv 2) (pv 4)) (fun _ _ => rfl))))))))))))
abbrev s__law_cell_at : Stmt := topS 17
theorem sc__law_cell_at : FnScope ["_law_script", "_law_k"] ["_law_script", "_law_k"] (defScope s__law_cell_at) := ⟨rfl, rfl, rfl, by decide +kernel, rfl, by decide +kernel, by decide +kernel⟩
theorem ok__law_cell_at (B : Blt mg) (F : FnAt K mg "_law_cell_at" s__law_cell_at ["_law_script", "_law_k"]) : Cal P w K mg base CX0 1 "_law_cell_at" ["_law_script", "_law_k"] (sp__law_cell_at K) :=
  F.ok (t := (t__law_cell_at K)) (k := 0) sc__law_cell_at (fun vs H Q E h => len__law_cell_at h) (fun vs H Q E h => pure__law_cell_at h) (fun f cdv A outer s H E hr => by
    have nd := sc__law_cell_at.nd
    exact (pss_cons (ps_if (pt_cmpR op_lt (pv 1) (pe_callB call_len_seq (by rfl) B.len (by decide +kernel) (pa_cons (pv 0) pa_nil)) (nomark _)) (pss_one (ps_ret (pe_ix ix_list (pv 0) (pv 1) (fun _ _ => rfl)))) pss_nil)
      (pss_one (ps_ret pe_int))))
abbrev s__law_draw : Stmt := topS 18
theorem sc__law_draw : FnScope ["_law_cell", "_law_k", "_law_most", "_law_primes"] ["_law_cell", "_law_k", "_law_most"] (defScope s__law_draw) := ⟨rfl, rfl, rfl, by decide +kernel, rfl, by decide +kernel, by decide +kernel⟩
theorem ok__law_draw (B : Blt mg) (F : FnAt K mg "_law_draw" s__law_draw ["_law_cell", "_law_k", "_law_most"]) : Cal P w K mg base CX0 1 "_law_draw" ["_law_cell", "_law_k", "_law_most"] (sp__law_draw K) :=
  F.ok (t := (t__law_draw K)) (k := 0) sc__law_draw (fun vs H Q E h => len__law_draw h) (fun vs H Q E h => pure__law_draw h) (fun f cdv A outer s H E hr => by
    have nd := sc__law_draw.nd
    exact (pss_cons (ps_set (i := 3) nd rfl (Or.inl rfl) (pe_tup (pa_cons pe_int (pa_cons pe_int (pa_cons pe_int (pa_cons pe_int (pa_cons pe_int (pa_cons pe_int (pa_cons pe_int (pa_cons pe_int (pa_cons pe_int (pa_cons pe_int (pa_cons pe_int (pa_cons pe_int (pa_cons pe_int (pa_cons pe_int (pa_cons pe_int (pa_cons pe_int pa_nil))))))))))))))))))
      (pss_one (ps_ret (pe_op op_mod (pe_op op_mod (pe_op op_add (pe_op op_mulK (pv 0) pe_int) (pe_op op_mulK (pv 1) pe_int)) (pe_ix ix_tup (pv 3) (pe_op op_mod (pv 1) pe_int) (fun _ _ => rfl))) (pv 2))))))
abbrev s__law_number : Stmt := topS 19
theorem sc__law_number : FnScope ["_law_cell", "_law_k", "_law_limit"] ["_law_cell", "_law_k", "_law_limit"] (defScope s__law_number) := ⟨rfl, rfl, rfl, by decide +kernel, rfl, by decide +kernel, by decide +kernel⟩
theorem ok__law_number (B : Blt mg) (C__law_draw : Cal P w K mg base CX0 1 "_law_draw" ["_law_cell", "_law_k", "_law_most"] (sp__law_draw K)) (F : FnAt K mg "_law_number" s__law_number ["_law_cell", "_law_k", "_law_limit"]) : Cal P w K mg base CX0 2 "_law_number" ["_law_cell", "_law_k", "_law_limit"] (sp__law_number K) :=
  F.ok (t := (t__law_number K)) (k := 1) sc__law_number (fun vs H Q E h => len__law_number h) (fun vs H Q E h => pure__law_number h) (fun f cdv A outer s H E hr => by
    have nd := sc__law_number.nd
    exact (pss_cons (ps_if (pt_cmpR op_ge (pv 0) (pe_op op_pow pe_int pe_int) (nomark _)) (pss_one (ps_ret (pe_op op_mod (pe_op op_fdiv (pe_op op_sub (pv 0) (pe_op op_pow pe_int pe_int)) (pe_ix ix_tup (pe_tup (pa_cons pe_int (pa_cons pe_int (pa_cons pe_int (pa_cons pe_int (pa_cons pe_int pa_nil)))))) (pe_op op_mod (pv 1) pe_int) (fun _ _ => rfl))) (pv 2)))) pss_nil)
      (pss_one (ps_ret (pe_op op_mod (pc_call C__law_draw (hr.mono (by decide)) (pa_cons (pe_op op_mulK (pe_op op_add (pv 0) (pe_op op_mulK pe_int (pv 1))) (pe_op op_add (pe_op op_add (pv 0) (pe_op op_mulK pe_int (pv 1))) pe_int)) (pa_cons (pe_op op_add (pe_op op_mod (pv 1) pe_int) pe_int) (pa_cons pe_int pa_nil)))) (pv 2))))))
abbrev s__law_coins : Stmt := topS 20
theorem sc__law_coins : FnScope ["_law_script", "_law_by", "_law_most", "_law_great", "_law_cell", "_law_often", "_law_found", "_law_k"] ["_law_script", "_law_by", "_law_most", "_law_great"] (defScope s__law_coins) := ⟨rfl, rfl, rfl, by decide +kernel, rfl, by decide +kernel, by decide +kernel⟩
theorem ok__law_coins (B : Blt mg) (C__law_cell_at : Cal P w K mg base CX0 1 "_law_cell_at" ["_law_script", "_law_k"] (sp__law_cell_at K)) (C__law_number : Cal P w K mg base CX0 2 "_law_number" ["_law_cell", "_law_k", "_law_limit"] (sp__law_number K)) (F : FnAt K mg "_law_coins" s__law_coins ["_law_script", "_law_by", "_law_most", "_law_great"]) : Cal P w K mg base CX0 3 "_law_coins" ["_law_script", "_law_by", "_law_most", "_law_great"] (sp__law_coins K) :=
  F.ok (t := (t__law_coins K w)) (k := 2) sc__law_coins (fun vs H Q E h => len__law_coins h) (fun vs H Q E h => pure__law_coins h) (fun f cdv A outer s H E hr => by
    have nd := sc__law_coins.nd
    exact (pss_cons (ps_set (i := 4) nd rfl (Or.inl rfl) (pc_call C__law_cell_at (hr.mono (by decide)) (pa_cons (pv 0) (pa_cons (pv 1) pa_nil))))
      (pss_cons (ps_set (i := 5) nd rfl (Or.inl rfl) (pe_ix ix_tup (pe_tup (pa_cons pe_int (pa_cons pe_int (pa_cons pe_int (pa_cons pe_int (pa_cons pe_int pa_nil)))))) (pc_call C__law_number (hr.mono (by decide)) (pa_cons (pv 4) (pa_cons (pe_op op_add (pv 1) pe_int) (pa_cons pe_int pa_nil)))) (fun _ _ => rfl)))
      (pss_cons (ps_set (i := 6) nd rfl (Or.inl rfl) (pe_lst pa_nil))
      (pss_cons (ps_for PassesOwn.never rfl (pi_range1 (by rfl) B.range (pa_cons (pe_op op_add pe_int (pc_call C__law_number (hr.mono (by decide)) (pa_cons (pv 4) (pa_cons (pe_op op_add (pv 1) pe_int) (pa_cons (pv 2) pa_nil))))) pa_nil)) (pg_name (i := 7) nd rfl (Or.inl rfl)) (pss_one (ps_expr (pe_bm PySem.F.plainAttrs_list PySem.F.slot_list_append PySem.F.type_list_append mt_append (pv 6) (pa_cons (pe_op op_mulK (pv 5) (pe_op op_add pe_int (pc_call C__law_number (hr.mono (by decide)) (pa_cons (pe_op op_add (pc_call C__law_cell_at (hr.mono (by decide)) (pa_cons (pv 0) (pa_cons (pe_op op_add (pv 1) (pv 7)) pa_nil))) (pe_op op_mulK pe_int (pv 7))) (pa_cons (pe_op op_add (pe_op op_add (pv 1) (pv 7)) pe_int) (pa_cons (pe_op op_fdiv (pv 3) (pv 5)) pa_nil)))))) pa_nil)))))
      (pss_one (ps_ret (pe_callB (cr_sortedSet rfl) (by rfl) B.sorted (by decide +kernel) (pa_cons (pe_callTy (cr_setI rfl) (by rfl) B.set (by decide +kernel) (pa_cons (pv 6) pa_nil)) pa_nil)))))))))
abbrev s__law_common : Stmt := topS 21
theorem sc__law_common : FnScope ["_law_coins_here", "_law_part", "_law_worth"] ["_law_coins_here"] (defScope s__law_common) := ⟨rfl, rfl, rfl, by decide +kernel, rfl, by decide +kernel, by decide +kernel⟩
theorem ok__law_common (B : Blt mg) (F : FnAt K mg "_law_common" s__law_common ["_law_coins_here"]) : Cal P w K mg base CX0 1 "_law_common" ["_law_coins_here"] (sp__law_common K) :=
  F.ok (t := (t__law_common K)) (k := 0) sc__law_common (fun vs H Q E h => len__law_common h) (fun vs H Q E h => pure__law_common h) (fun f cdv A outer s H E hr => by
    have nd := sc__law_common.nd
    exact (pss_one (ps_ret (pe_ix ix_list (pe_lc (own := [("_law_part", 1)]) (g := (gName 1)) (tt := (tB (tCB (rAll K) (tCons (tLc (iList K (tVar 0)) (gName 2) tYes (tOp rEq (tOp rModI (tVar 2) (tVar 1)) (tC (.int 0))) [2]) tNil)))) (by rfl) nd (pi_range2 (by rfl) B.range (pa_cons pe_int (pa_cons (pe_op op_add (pe_ix ix_list (pv 0) pe_int (fun _ _ => rfl)) pe_int) pa_nil))) (blkOk_by (N := ["_law_coins_here", "_law_part", "_law_worth"]) (sc := (defScope s__law_common)) (by decide +kernel)) (fun _ _ _ _ _ => (pg_name (i := 1) nd rfl (Or.inr rfl))) (fun _ _ _ _ _ => (pts_one (pt_val (pe_callB (cr_all rfl) (by rfl) B.all (by decide +kernel) (pa_cons (pe_lc (own := [("_law_worth", 2)]) (g := (gName 2)) (tt := tYes) (by rfl) nd (pi_list (pv 0)) (blkOk_by (N := ["_law_coins_here", "_law_part", "_law_worth"]) (sc := (relS _ (defScope s__law_common))) (by decide +kernel)) (fun _ _ _ _ _ => (pg_name (i := 2) nd rfl (Or.inl rfl))) (fun _ _ _ _ _ => pts_nil) (fun _ _ _ _ _ => (pe_cmpR op_eq (pe_op op_mod (pv 2) (pv 1)) pe_int (nomark _)))) pa_nil))))) (fun _ _ _ _ _ => (pv 1))) (pe_un un_neg pe_int) (fun _ _ => rfl)))))
abbrev s_law : Stmt := topS 22
theorem sc_law : FnScope ["_law_script", "_law_by", "_law_coins_here", "_law_part", "_law_great", "_law_one", "_law_far", "_law_base", "_law_two", "_law_three", "_law_few", "_law_worth", "_law_alone", "_law_told", "_law_amount"] ["_law_script"] (defScope s_law) := ⟨rfl, rfl, rfl, by decide +kernel, rfl, by decide +kernel, by decide +kernel⟩
theorem ok_law {f0 : Addr} {fd0 : FuncData} (B : Blt mg) (C__law_coins : Cal P w K mg base CX0 3 "_law_coins" ["_law_script", "_law_by", "_law_most", "_law_great"] (sp__law_coins K)) (C__law_common : Cal P w K mg base CX0 1 "_law_common" ["_law_coins_here"] (sp__law_common K)) (C__law_number : Cal P w K mg base CX0 2 "_law_number" ["_law_cell", "_law_k", "_law_limit"] (sp__law_number K)) (C__law_cell_at : Cal P w K mg base CX0 1 "_law_cell_at" ["_law_script", "_law_k"] (sp__law_cell_at K)) (C_fewest : Cal P w K mg base CX0 3 "fewest" ["coins", "amount"] (sp_fewest K)) (F : Fun K "law" "law" s_law f0 fd0) : FnOk P w K mg base CX0 4 f0 fd0 ["_law_script"] (sp_law_k03 K) :=
  fun_ok (t := (t_law_k03 K)) (k := 3) F sc_law (fun vs H Q E h => len_law_k03 h) (fun vs H Q E h => pure_law_k03 h) (fun f cdv A outer s H E hr => by
    have nd := sc_law.nd
    exact (pss_cons (ps_for PassesOwn.never rfl (pi_range3 (by rfl) B.range (pa_cons pe_int (pa_cons (pe_callB (call_max2 rfl) (by rfl) B.max (by decide +kernel) (pa_cons pe_int (pa_cons (pe_callB (call_min2 rfl) (by rfl) B.min (by decide +kernel) (pa_cons pe_int (pa_cons (pe_callB call_len_seq (by rfl) B.len (by decide +kernel) (pa_cons (pv 0) pa_nil)) pa_nil))) pa_nil))) (pa_cons pe_int pa_nil)))) (pg_name (i := 1) nd rfl (Or.inl rfl)) (pss_cons (ps_set (i := 2) nd rfl (Or.inl rfl) (pc_call C__law_coins (hr.mono (by decide)) (pa_cons (pv 0) (pa_cons (pv 1) (pa_cons pe_int (pa_cons pe_int pa_nil))))))
      (pss_cons (ps_par (by rfl) nd rfl rfl (by decide) rfl rfl (pa_cons (pc_call C__law_common (hr.mono (by decide)) (pa_cons (pv 2) pa_nil)) (pa_cons (pe_ix ix_list (pv 2) (pe_un un_neg pe_int) (fun _ _ => rfl)) pa_nil)) (by rfl))
      (pss_cons (ps_set (i := 5) nd rfl (Or.inl rfl) (pe_op op_add (pe_op op_mulK (pv 4) (pv 4)) (pe_op op_mulK (pv 3) (pc_call C__law_number (hr.mono (by decide)) (pa_cons (pc_call C__law_cell_at (hr.mono (by decide)) (pa_cons (pv 0) (pa_cons (pe_op op_add (pv 1) pe_int) pa_nil))) (pa_cons (pe_op op_add (pv 1) pe_int) (pa_cons pe_int pa_nil)))))))
      (pss_cons (ps_set (i := 6) nd rfl (Or.inl rfl) (pe_op op_add pe_int (pe_op op_mod (pe_callB call_abs (by rfl) B.abs (by decide +kernel) (pa_cons (pc_call C__law_cell_at (hr.mono (by decide)) (pa_cons (pv 0) (pa_cons (pe_op op_add (pv 1) pe_int) pa_nil))) pa_nil)) (pe_op op_pow pe_int pe_int))))
      (pss_cons (ps_set (i := 7) nd rfl (Or.inl rfl) (pc_call C_fewest (hr.mono (by decide)) (pa_cons (pv 2) (pa_cons (pv 5) pa_nil))))
      (pss_cons (ps_if (PW.pt (pw_or (pt_cmpR op_ne (pc_call C_fewest (hr.mono (by decide)) (pa_cons (pv 2) (pa_cons (pe_op op_add (pv 5) (pv 4)) pa_nil))) (pe_op op_add (pv 7) pe_int) (nomark _)) (pw_or1 (pt_cmpR op_ne (pc_call C_fewest (hr.mono (by decide)) (pa_cons (pv 2) (pa_cons (pe_op op_add (pv 5) (pe_op op_mulK (pv 6) (pv 4))) pa_nil))) (pe_op op_add (pv 7) (pv 6)) (nomark _))))) (pss_one (ps_ret pe_bl)) pss_nil)
      (pss_cons (ps_par (by rfl) nd rfl rfl (by decide) rfl rfl (pa_cons (pe_op op_mulK (pv 3) (pc_call C__law_number (hr.mono (by decide)) (pa_cons (pc_call C__law_cell_at (hr.mono (by decide)) (pa_cons (pv 0) (pa_cons (pv 1) pa_nil))) (pa_cons (pe_op op_add (pv 1) pe_int) (pa_cons pe_int pa_nil))))) (pa_cons (pe_op op_mulK (pv 3) (pe_op op_add (pe_op op_mod (pv 1) pe_int) pe_int)) pa_nil)) (by rfl))
      (pss_cons (ps_if (pt_cmpR op_gt (pc_call C_fewest (hr.mono (by decide)) (pa_cons (pv 2) (pa_cons (pe_op op_add (pv 8) (pv 9)) pa_nil))) (pe_op op_add (pc_call C_fewest (hr.mono (by decide)) (pa_cons (pv 2) (pa_cons (pv 8) pa_nil))) (pc_call C_fewest (hr.mono (by decide)) (pa_cons (pv 2) (pa_cons (pv 9) pa_nil)))) (nomark _)) (pss_one (ps_ret pe_bl)) pss_nil)
      (pss_cons (ps_if (pt_cmpR op_gt (pe_callB call_abs (by rfl) B.abs (by decide +kernel) (pa_cons (pe_op op_sub (pc_call C_fewest (hr.mono (by decide)) (pa_cons (pv 2) (pa_cons (pe_op op_add (pv 8) (pv 4)) pa_nil))) (pc_call C_fewest (hr.mono (by decide)) (pa_cons (pv 2) (pa_cons (pv 8) pa_nil)))) pa_nil)) pe_int (nomark _)) (pss_one (ps_ret pe_bl)) pss_nil)
      (pss_cons (ps_setLc (i := 10) (own := [("_law_worth", 11)]) (g := (gName 11)) (tt := (tTest (tOp rLtI (tVar 11) (tC (.int 11))))) (by rfl) nd rfl rfl (sw_true rfl rfl rfl (by decide +kernel)) (pi_list (pv 2)) (blkOk_by (N := ["_law_script", "_law_by", "_law_coins_here", "_law_part", "_law_great", "_law_one", "_law_far", "_law_base", "_law_two", "_law_three", "_law_few", "_law_worth", "_law_alone", "_law_told", "_law_amount"]) (sc := (defScope s_law)) (by decide +kernel)) (fun _ _ _ _ _ => (pg_name (i := 11) nd rfl (Or.inl rfl))) (fun _ _ _ _ _ => (pts_one (pt_cmpR op_lt (pv 11) pe_int (nomark _)))) (fun _ _ _ _ _ => (pv 11)))
      (pss_one (ps_if (PW.pt (pw_and (pt_cmpR (op_neD hr.units) (pv 10) (pe_lst pa_nil) (nomark _)) (pw_and1 (pt_cmpR op_eq (pe_op op_mod (pv 8) (pc_call C__law_common (hr.mono (by decide)) (pa_cons (pv 10) pa_nil))) pe_int (nomark _))))) (pss_cons (ps_set (i := 12) nd rfl (Or.inl rfl) (pc_call C_fewest (hr.mono (by decide)) (pa_cons (pv 10) (pa_cons (pv 8) pa_nil))))
      (pss_one (ps_if (PW.pt (pw_or (pt_cmpR op_ne (pc_call C_fewest (hr.mono (by decide)) (pa_cons (pe_lc (own := [("_law_worth", 11)]) (g := (gName 11)) (tt := tYes) (by rfl) nd (pi_list (pv 10)) (blkOk_by (N := ["_law_script", "_law_by", "_law_coins_here", "_law_part", "_law_great", "_law_one", "_law_far", "_law_base", "_law_two", "_law_three", "_law_few", "_law_worth", "_law_alone", "_law_told", "_law_amount"]) (sc := (defScope s_law)) (by decide +kernel)) (fun _ _ _ _ _ => (pg_name (i := 11) nd rfl (Or.inl rfl))) (fun _ _ _ _ _ => pts_nil) (fun _ _ _ _ _ => (pe_op op_mulK pe_int (pv 11)))) (pa_cons (pe_op op_mulK pe_int (pv 8)) pa_nil))) (pv 12) (nomark _)) (pw_or1 (pt_cmpR op_lt (pv 12) (pc_call C_fewest (hr.mono (by decide)) (pa_cons (pv 2) (pa_cons (pv 8) pa_nil))) (nomark _))))) (pss_one (ps_ret pe_bl)) pss_nil))) pss_nil)))))))))))))
      (pss_cons (ps_setLc (i := 13) (own := [("_law_amount", 14)]) (g := (gName 14)) (tt := tYes) (by rfl) nd rfl rfl (sw_true rfl rfl rfl (by decide +kernel)) (pi_tup (pe_tup (pa_cons pe_int (pa_cons pe_int (pa_cons pe_int (pa_cons pe_int (pa_cons pe_int (pa_cons pe_int pa_nil)))))))) (blkOk_by (N := ["_law_script", "_law_by", "_law_coins_here", "_law_part", "_law_great", "_law_one", "_law_far", "_law_base", "_law_two", "_law_three", "_law_few", "_law_worth", "_law_alone", "_law_told", "_law_amount"]) (sc := (defScope s_law)) (by decide +kernel)) (fun _ _ _ _ _ => (pg_name (i := 14) nd rfl (Or.inl rfl))) (fun _ _ _ _ _ => pts_nil) (fun _ _ _ _ _ => (pc_call C_fewest (hr.mono (by decide)) (pa_cons (pe_lst (pa_cons pe_int (pa_cons pe_int pa_nil))) (pa_cons (pv 14) pa_nil)))))
      (pss_cons (ps_if (PW.pt (pw_or (pt_cmpR (op_neD hr.units) (pv 13) (pe_lst (pa_cons pe_int (pa_cons pe_int (pa_cons pe_int (pa_cons pe_int (pa_cons pe_int (pa_cons pe_int pa_nil))))))) (nomark _)) (pw_or1 (pt_cmpR op_ne (pc_call C_fewest (hr.mono (by decide)) (pa_cons (pe_lst (pa_cons pe_int (pa_cons pe_int pa_nil))) (pa_cons (pe_op op_pow pe_int pe_int) pa_nil))) (pe_op op_fdiv (pe_op op_add (pe_op op_pow pe_int pe_int) pe_int) pe_int) (nomark _))))) (pss_one (ps_ret pe_bl)) pss_nil)
      (pss_cons (ps_if (pt_cmpR op_ne (pc_call C_fewest (hr.mono (by decide)) (pa_cons (pe_lst (pa_cons pe_int (pa_cons pe_int pa_nil))) (pa_cons (pe_op op_pow pe_int pe_int) pa_nil))) (pe_op op_add (pe_op op_fdiv (pe_op op_pow pe_int pe_int) pe_int) pe_int) (nomark _)) (pss_one (ps_ret pe_bl)) pss_nil)
      (pss_one (ps_ret (pe_cmpR op_eq (pc_call C_fewest (hr.mono (by decide)) (pa_cons (pe_lst (pa_cons pe_int (pa_cons pe_int pa_nil))) (pa_cons (pe_op op_add (pe_op op_pow pe_int pe_int) pe_int) pa_nil))) (pe_op op_add (pe_op op_fdiv (pe_op op_add (pe_op op_pow pe_int pe_int) pe_int) pe_int) pe_int) (nomark _)))))))))
end
theorem all_mk {l : PySem.W.OpenLaw} {w : World} {K : PySem.W.Frag} {h : Heap} {mg : Str → Option Value} {fa f0 f1 f2 f3 f4 f5 f6 f7 f8 f9 f10 f11 f12 : Addr} (X : K.In h) (G : h.Ns mainGlobals mg) (hfa : mg "law" = some (.ref fa))
    {od0 an0 : Option Addr} {sl0 : Array (Option Value)} {oc0 kV0 dc0 pm0 cd0 ct0 : Value}
    (a0 : PySem.W.nsIn K mainGlobals "is_number" = some (some (.ref f0))) (l0 : K.lookup f0 = some ⟨oc0, od0, .func (PySem.W.fnOf "is_number" "is_number" (defArgs s_is_number) (defBody s_is_number) (defScope s_is_number) .none kV0 dc0 pm0 an0 cd0 ct0), sl0⟩) (c0 : PySem.W.codeIn K cd0 "is_number" = true) (k0 : PySem.W.keepIn K (.ref f0) = true)
    {od1 an1 : Option Addr} {sl1 : Array (Option Value)} {oc1 kV1 dc1 pm1 cd1 ct1 : Value}
    (a1 : PySem.W.nsIn K mainGlobals "check_coins" = some (some (.ref f1))) (l1 : K.lookup f1 = some ⟨oc1, od1, .func (PySem.W.fnOf "check_coins" "check_coins" (defArgs s_check_coins) (defBody s_check_coins) (defScope s_check_coins) .none kV1 dc1 pm1 an1 cd1 ct1), sl1⟩) (c1 : PySem.W.codeIn K cd1 "check_coins" = true) (k1 : PySem.W.keepIn K (.ref f1) = true)
    {od2 an2 : Option Addr} {sl2 : Array (Option Value)} {oc2 kV2 dc2 pm2 cd2 ct2 : Value}
    (a2 : PySem.W.nsIn K mainGlobals "check_amount" = some (some (.ref f2))) (l2 : K.lookup f2 = some ⟨oc2, od2, .func (PySem.W.fnOf "check_amount" "check_amount" (defArgs s_check_amount) (defBody s_check_amount) (defScope s_check_amount) .none kV2 dc2 pm2 an2 cd2 ct2), sl2⟩) (c2 : PySem.W.codeIn K cd2 "check_amount" = true) (k2 : PySem.W.keepIn K (.ref f2) = true)
    {od3 an3 : Option Addr} {sl3 : Array (Option Value)} {oc3 kV3 dc3 pm3 cd3 ct3 : Value}
    (a3 : PySem.W.nsIn K mainGlobals "common" = some (some (.ref f3))) (l3 : K.lookup f3 = some ⟨oc3, od3, .func (PySem.W.fnOf "common" "common" (defArgs s_common) (defBody s_common) (defScope s_common) .none kV3 dc3 pm3 an3 cd3 ct3), sl3⟩) (c3 : PySem.W.codeIn K cd3 "common" = true) (k3 : PySem.W.keepIn K (.ref f3) = true)
    {od4 an4 : Option Addr} {sl4 : Array (Option Value)} {oc4 kV4 dc4 pm4 cd4 ct4 : Value}
    (a4 : PySem.W.nsIn K mainGlobals "strip" = some (some (.ref f4))) (l4 : K.lookup f4 = some ⟨oc4, od4, .func (PySem.W.fnOf "strip" "strip" (defArgs s_strip) (defBody s_strip) (defScope s_strip) .none kV4 dc4 pm4 an4 cd4 ct4), sl4⟩) (c4 : PySem.W.codeIn K cd4 "strip" = true) (k4 : PySem.W.keepIn K (.ref f4) = true)
    {od5 an5 : Option Addr} {sl5 : Array (Option Value)} {oc5 kV5 dc5 pm5 cd5 ct5 : Value}
    (a5 : PySem.W.nsIn K mainGlobals "heights_of" = some (some (.ref f5))) (l5 : K.lookup f5 = some ⟨oc5, od5, .func (PySem.W.fnOf "heights_of" "heights_of" (defArgs s_heights_of) (defBody s_heights_of) (defScope s_heights_of) .none kV5 dc5 pm5 an5 cd5 ct5), sl5⟩) (c5 : PySem.W.codeIn K cd5 "heights_of" = true) (k5 : PySem.W.keepIn K (.ref f5) = true)
    {od6 an6 : Option Addr} {sl6 : Array (Option Value)} {oc6 kV6 dc6 pm6 cd6 ct6 : Value}
    (a6 : PySem.W.nsIn K mainGlobals "fewest" = some (some (.ref f6))) (l6 : K.lookup f6 = some ⟨oc6, od6, .func (PySem.W.fnOf "fewest" "fewest" (defArgs s_fewest) (defBody s_fewest) (defScope s_fewest) .none kV6 dc6 pm6 an6 cd6 ct6), sl6⟩) (c6 : PySem.W.codeIn K cd6 "fewest" = true) (k6 : PySem.W.keepIn K (.ref f6) = true)
    {od7 an7 : Option Addr} {sl7 : Array (Option Value)} {oc7 kV7 dc7 pm7 cd7 ct7 : Value}
    (a7 : PySem.W.nsIn K mainGlobals "_law_cell_at" = some (some (.ref f7))) (l7 : K.lookup f7 = some ⟨oc7, od7, .func (PySem.W.fnOf "_law_cell_at" "_law_cell_at" (defArgs s__law_cell_at) (defBody s__law_cell_at) (defScope s__law_cell_at) .none kV7 dc7 pm7 an7 cd7 ct7), sl7⟩) (c7 : PySem.W.codeIn K cd7 "_law_cell_at" = true) (k7 : PySem.W.keepIn K (.ref f7) = true)
    {od8 an8 : Option Addr} {sl8 : Array (Option Value)} {oc8 kV8 dc8 pm8 cd8 ct8 : Value}
    (a8 : PySem.W.nsIn K mainGlobals "_law_draw" = some (some (.ref f8))) (l8 : K.lookup f8 = some ⟨oc8, od8, .func (PySem.W.fnOf "_law_draw" "_law_draw" (defArgs s__law_draw) (defBody s__law_draw) (defScope s__law_draw) .none kV8 dc8 pm8 an8 cd8 ct8), sl8⟩) (c8 : PySem.W.codeIn K cd8 "_law_draw" = true) (k8 : PySem.W.keepIn K (.ref f8) = true)
    {od9 an9 : Option Addr} {sl9 : Array (Option Value)} {oc9 kV9 dc9 pm9 cd9 ct9 : Value}
    (a9 : PySem.W.nsIn K mainGlobals "_law_number" = some (some (.ref f9))) (l9 : K.lookup f9 = some ⟨oc9, od9, .func (PySem.W.fnOf "_law_number" "_law_number" (defArgs s__law_number) (defBody s__law_number) (defScope s__law_number) .none kV9 dc9 pm9 an9 cd9 ct9), sl9⟩) (c9 : PySem.W.codeIn K cd9 "_law_number" = true) (k9 : PySem.W.keepIn K (.ref f9) = true)
    {od10 an10 : Option Addr} {sl10 : Array (Option Value)} {oc10 kV10 dc10 pm10 cd10 ct10 : Value}
    (a10 : PySem.W.nsIn K mainGlobals "_law_coins" = some (some (.ref f10))) (l10 : K.lookup f10 = some ⟨oc10, od10, .func (PySem.W.fnOf "_law_coins" "_law_coins" (defArgs s__law_coins) (defBody s__law_coins) (defScope s__law_coins) .none kV10 dc10 pm10 an10 cd10 ct10), sl10⟩) (c10 : PySem.W.codeIn K cd10 "_law_coins" = true) (k10 : PySem.W.keepIn K (.ref f10) = true)
    {od11 an11 : Option Addr} {sl11 : Array (Option Value)} {oc11 kV11 dc11 pm11 cd11 ct11 : Value}
    (a11 : PySem.W.nsIn K mainGlobals "_law_common" = some (some (.ref f11))) (l11 : K.lookup f11 = some ⟨oc11, od11, .func (PySem.W.fnOf "_law_common" "_law_common" (defArgs s__law_common) (defBody s__law_common) (defScope s__law_common) .none kV11 dc11 pm11 an11 cd11 ct11), sl11⟩) (c11 : PySem.W.codeIn K cd11 "_law_common" = true) (k11 : PySem.W.keepIn K (.ref f11) = true)
    {od12 an12 : Option Addr} {sl12 : Array (Option Value)} {oc12 kV12 dc12 pm12 cd12 ct12 : Value}
    (a12 : PySem.W.nsIn K mainGlobals "law" = some (some (.ref f12))) (l12 : K.lookup f12 = some ⟨oc12, od12, .func (PySem.W.fnOf "law" "law" (defArgs s_law) (defBody s_law) (defScope s_law) .none kV12 dc12 pm12 an12 cd12 ct12), sl12⟩) (c12 : PySem.W.codeIn K cd12 "law" = true) (k12 : PySem.W.keepIn K (.ref f12) = true)
    (z_isinstance : PySem.W.nsIn K mainGlobals "isinstance" = some none)
    (z_int : PySem.W.nsIn K mainGlobals "int" = some none)
    (z_bool : PySem.W.nsIn K mainGlobals "bool" = some none)
    (z_list : PySem.W.nsIn K mainGlobals "list" = some none)
    (z_len : PySem.W.nsIn K mainGlobals "len" = some none)
    (z_all : PySem.W.nsIn K mainGlobals "all" = some none)
    (z_any : PySem.W.nsIn K mainGlobals "any" = some none)
    (z_zip : PySem.W.nsIn K mainGlobals "zip" = some none)
    (z_range : PySem.W.nsIn K mainGlobals "range" = some none)
    (z_max : PySem.W.nsIn K mainGlobals "max" = some none)
    (z_min : PySem.W.nsIn K mainGlobals "min" = some none)
    (z_abs : PySem.W.nsIn K mainGlobals "abs" = some none)
    (z_sum : PySem.W.nsIn K mainGlobals "sum" = some none)
    (z_enumerate : PySem.W.nsIn K mainGlobals "enumerate" = some none)
    (z_sorted : PySem.W.nsIn K mainGlobals "sorted" = some none)
    (z_set : PySem.W.nsIn K mainGlobals "set" = some none)
    (z_str : PySem.W.nsIn K mainGlobals "str" = some none)
    (z_tuple : PySem.W.nsIn K mainGlobals "tuple" = some none)
    {t_MOST_COINS : Tok} (m_MOST_COINS : PySem.W.nsIn K mainGlobals "MOST_COINS" = some (some (.int 6 t_MOST_COINS)))
    {t_GREATEST : Tok} (m_GREATEST : PySem.W.nsIn K mainGlobals "GREATEST" = some (some (.int 30 t_GREATEST)))
    : ∃ fd : FuncData, (∀ (s : Shared) (v : Value), BindsTo s fd ⟨[v], []⟩ [("_law_script", v)]) ∧ ∀ base : Heap, K.In base → base.Ns mainGlobals mg → FnOk l.prog w K mg base CX0 4 fa fd ["_law_script"] (sp_law_k03 K) := by
  have e := hfa.symm.trans (PySem.W.mg_of X G a12)
  cases e
  have B : Blt mg := ⟨PySem.W.mg_none_of X G z_isinstance, PySem.W.mg_none_of X G z_int, PySem.W.mg_none_of X G z_bool, PySem.W.mg_none_of X G z_list, PySem.W.mg_none_of X G z_len, PySem.W.mg_none_of X G z_all, PySem.W.mg_none_of X G z_any, PySem.W.mg_none_of X G z_zip, PySem.W.mg_none_of X G z_range, PySem.W.mg_none_of X G z_max, PySem.W.mg_none_of X G z_min, PySem.W.mg_none_of X G z_abs, PySem.W.mg_none_of X G z_sum, PySem.W.mg_none_of X G z_enumerate, PySem.W.mg_none_of X G z_sorted, PySem.W.mg_none_of X G z_set, PySem.W.mg_none_of X G z_str, PySem.W.mg_none_of X G z_tuple⟩
  have M_MOST_COINS : ∃ t, mg "MOST_COINS" = some (.int 6 t) := ⟨_, PySem.W.mg_of X G m_MOST_COINS⟩
  have M_GREATEST : ∃ t, mg "GREATEST" = some (.int 30 t) := ⟨_, PySem.W.mg_of X G m_GREATEST⟩
  refine ⟨PySem.W.fnOf "law" "law" (defArgs s_law) (defBody s_law) (defScope s_law) .none kV12 dc12 pm12 an12 cd12 ct12, fun s v => .of_eq rfl, fun base _ _ => ?_⟩
  have F0 := fun_mk (st := s_is_number) l0 c0 k0
  have C_is_number := ok_is_number (P := l.prog) (w := w) (base := base) B ⟨f0, _, F0, PySem.W.mg_of X G a0, F0.binds (ps := ["thing"]) fun _ _ _ _ _ _ us hl => match us, hl with | [_], _ => rfl⟩
  have F1 := fun_mk (st := s_check_coins) l1 c1 k1
  have C_check_coins := ok_check_coins (P := l.prog) (w := w) (base := base) B M_MOST_COINS M_GREATEST C_is_number ⟨f1, _, F1, PySem.W.mg_of X G a1, F1.binds (ps := ["coins"]) fun _ _ _ _ _ _ us hl => match us, hl with | [_], _ => rfl⟩
  have F2 := fun_mk (st := s_check_amount) l2 c2 k2
  have C_check_amount := ok_check_amount (P := l.prog) (w := w) (base := base) B C_is_number ⟨f2, _, F2, PySem.W.mg_of X G a2, F2.binds (ps := ["amount", "most"]) fun _ _ _ _ _ _ us hl => match us, hl with | [_, _], _ => rfl⟩
  have F3 := fun_mk (st := s_common) l3 c3 k3
  have C_common := ok_common (P := l.prog) (w := w) (base := base) B ⟨f3, _, F3, PySem.W.mg_of X G a3, F3.binds (ps := ["numbers"]) fun _ _ _ _ _ _ us hl => match us, hl with | [_], _ => rfl⟩
  have F4 := fun_mk (st := s_strip) l4 c4 k4
  have C_strip := ok_strip (P := l.prog) (w := w) (base := base) B ⟨f4, _, F4, PySem.W.mg_of X G a4, F4.binds (ps := ["coins", "amount"]) fun _ _ _ _ _ _ us hl => match us, hl with | [_, _], _ => rfl⟩
  have F5 := fun_mk (st := s_heights_of) l5 c5 k5
  have C_heights_of := ok_heights_of (P := l.prog) (w := w) (base := base) B C_strip ⟨f5, _, F5, PySem.W.mg_of X G a5, F5.binds (ps := ["coins", "amount"]) fun _ _ _ _ _ _ us hl => match us, hl with | [_, _], _ => rfl⟩
  have F6 := fun_mk (st := s_fewest) l6 c6 k6
  have C_fewest := ok_fewest (P := l.prog) (w := w) (base := base) B C_check_coins C_check_amount C_common C_heights_of ⟨f6, _, F6, PySem.W.mg_of X G a6, F6.binds (ps := ["coins", "amount"]) fun _ _ _ _ _ _ us hl => match us, hl with | [_, _], _ => rfl⟩
  have F7 := fun_mk (st := s__law_cell_at) l7 c7 k7
  have C__law_cell_at := ok__law_cell_at (P := l.prog) (w := w) (base := base) B ⟨f7, _, F7, PySem.W.mg_of X G a7, F7.binds (ps := ["_law_script", "_law_k"]) fun _ _ _ _ _ _ us hl => match us, hl with | [_, _], _ => rfl⟩
  have F8 := fun_mk (st := s__law_draw) l8 c8 k8
  have C__law_draw := ok__law_draw (P := l.prog) (w := w) (base := base) B ⟨f8, _, F8, PySem.W.mg_of X G a8, F8.binds (ps := ["_law_cell", "_law_k", "_law_most"]) fun _ _ _ _ _ _ us hl => match us, hl with | [_, _, _], _ => rfl⟩
  have F9 := fun_mk (st := s__law_number) l9 c9 k9
  have C__law_number := ok__law_number (P := l.prog) (w := w) (base := base) B C__law_draw ⟨f9, _, F9, PySem.W.mg_of X G a9, F9.binds (ps := ["_law_cell", "_law_k", "_law_limit"]) fun _ _ _ _ _ _ us hl => match us, hl with | [_, _, _], _ => rfl⟩
  have F10 := fun_mk (st := s__law_coins) l10 c10 k10
  have C__law_coins := ok__law_coins (P := l.prog) (w := w) (base := base) B C__law_cell_at C__law_number ⟨f10, _, F10, PySem.W.mg_of X G a10, F10.binds (ps := ["_law_script", "_law_by", "_law_most", "_law_great"]) fun _ _ _ _ _ _ us hl => match us, hl with | [_, _, _, _], _ => rfl⟩
  have F11 := fun_mk (st := s__law_common) l11 c11 k11
  have C__law_common := ok__law_common (P := l.prog) (w := w) (base := base) B ⟨f11, _, F11, PySem.W.mg_of X G a11, F11.binds (ps := ["_law_coins_here"]) fun _ _ _ _ _ _ us hl => match us, hl with | [_], _ => rfl⟩
  have F12 := fun_mk (st := s_law) l12 c12 k12
  exact ok_law B C__law_coins C__law_common C__law_number C__law_cell_at C_fewest F12
end Cb
open PySem PySem.W PyProof.Rows
set_option maxRecDepth 100000 in
set_option maxHeartbeats 0 in
theorem PySem.Challenge.cw_changeback_k03_whole_great_holds : PySem.Challenge.rw_changeback_k03_whole_great.Holds := by
  w_on; o_law; k_head; (case hw => w_witness2)
  k_fill
  refine L2.walk_ofB (l := PySem.Challenge.rw_changeback_k03_whole_great) (n := 63) (k := 4) (x := "_law_script") (CX := fun _ => L2.CX0) (sp := fun w => Cb.sp_law_k03 _) rfl (by decide) rfl ⟨rfl, by decide, by decide⟩ (fun w h Y => PySem.W.kIn_of Y) ?F (fun _ _ a ns hl hb _ hS => ⟨a, ns, rfl, hS, hb, hl, fun _ => rfl⟩) (fun _ _ _ _ _ h => h)
  case F =>
    intro w mg fa h KX G hmg
    refine' Cb.all_mk KX G hmg ?a0 ?l0 ?c0 ?k0 ?a1 ?l1 ?c1 ?k1 ?a2 ?l2 ?c2 ?k2 ?a3 ?l3 ?c3 ?k3 ?a4 ?l4 ?c4 ?k4 ?a5 ?l5 ?c5 ?k5 ?a6 ?l6 ?c6 ?k6 ?a7 ?l7 ?c7 ?k7 ?a8 ?l8 ?c8 ?k8 ?a9 ?l9 ?c9 ?k9 ?a10 ?l10 ?c10 ?k10 ?a11 ?l11 ?c11 ?k11 ?a12 ?l12 ?c12 ?k12 ?z_isinstance ?z_int ?z_bool ?z_list ?z_len ?z_all ?z_any ?z_zip ?z_range ?z_max ?z_min ?z_abs ?z_sum ?z_enumerate ?z_sorted ?z_set ?z_str ?z_tuple ?m_MOST_COINS ?m_GREATEST
    (case a0 => k_is); (case l0 => k_is); (case c0 => k_is); (case k0 => k_is)
    (case a1 => k_is); (case l1 => k_is); (case c1 => k_is); (case k1 => k_is)
    (case a2 => k_is); (case l2 => k_is); (case c2 => k_is); (case k2 => k_is)
    (case a3 => k_is); (case l3 => k_is); (case c3 => k_is); (case k3 => k_is)
    (case a4 => k_is); (case l4 => k_is); (case c4 => k_is); (case k4 => k_is)
    (case a5 => k_is); (case l5 => k_is); (case c5 => k_is); (case k5 => k_is)
    (case a6 => k_is); (case l6 => k_is); (case c6 => k_is); (case k6 => k_is)
    (case a7 => k_is); (case l7 => k_is); (case c7 => k_is); (case k7 => k_is)
    (case a8 => k_is); (case l8 => k_is); (case c8 => k_is); (case k8 => k_is)
    (case a9 => k_is); (case l9 => k_is); (case c9 => k_is); (case k9 => k_is)
    (case a10 => k_is); (case l10 => k_is); (case c10 => k_is); (case k10 => k_is)
    (case a11 => k_is); (case l11 => k_is); (case c11 => k_is); (case k11 => k_is)
    (case a12 => k_is); (case l12 => k_is); (case c12 => k_is); (case k12 => k_is)
    (case z_isinstance => k_is); (case z_int => k_is); (case z_bool => k_is); (case z_list => k_is); (case z_len => k_is); (case z_all => k_is); (case z_any => k_is); (case z_zip => k_is); (case z_range => k_is); (case z_max => k_is); (case z_min => k_is); (case z_abs => k_is); (case z_sum => k_is); (case z_enumerate => k_is); (case z_sorted => k_is); (case z_set => k_is); (case z_str => k_is); (case z_tuple => k_is)
    (case m_MOST_COINS => k_is); (case m_GREATEST => k_is)
