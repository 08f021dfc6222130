import PyProof.Rows.All
import Wide.All
import OpenK.AllK
import Wide.FinOn
import HandS.ForMost
import HandS.ForExc
import HandS.Defaults
import HandS.Gcd
import HandS.Star
import HandS.Conv
import HandS.SortInts
import HandS.IsInst
import HandS.ExcIs
import HandS.Wide
import HandS.Walk
import PySem.Challenge.RW_matedsquares_k05_whole_text_and_back
set_option Elab.async false
set_option linter.all false
set_option maxRecDepth 100000
set_option maxHeartbeats 4000000
/-! K5, part A: plain mathematics, core Lean alone: a unit among 390 numbers one behind another, Euclid in 200 steps. -/
namespace K5

/-! ### a number coprime to n stands among any 390 in a row (n at most 1009^3) -/
theorem ge13 {x g : Nat} (h30 : x % 30 = 1) (h7 : x % 7 ≠ 0) (h11 : x % 11 ≠ 0) (hd : g ∣ x) (h1 : g ≠ 1) : 13 ≤ g := by
  obtain ⟨k, rfl⟩ := hd
  rcases Nat.lt_or_ge g 13 with h | h
  · exfalso
    have hg : g = 0 ∨ g = 2 ∨ g = 3 ∨ g = 4 ∨ g = 5 ∨ g = 6 ∨ g = 7 ∨ g = 8 ∨ g = 9 ∨ g = 10 ∨ g = 11 ∨ g = 12 := by omega
    rcases hg with e | e | e | e | e | e | e | e | e | e | e | e <;> subst e <;> omega
  · exact h

theorem apart_of {x y j i : Nat} (h30 : x % 30 = 1) (h7 : x % 7 ≠ 0) (h11 : x % 11 ≠ 0) (hy : y = x + 30 * (j - i)) (hij : i < j) (hj : j < 13) (n : Nat) : Nat.Coprime (Nat.gcd x n) (Nat.gcd y n) := by
  have hx1 : Nat.gcd (Nat.gcd x n) (Nat.gcd y n) ∣ x := Nat.dvd_trans (Nat.gcd_dvd_left _ _) (Nat.gcd_dvd_left _ _)
  have hy1 : Nat.gcd (Nat.gcd x n) (Nat.gcd y n) ∣ y := Nat.dvd_trans (Nat.gcd_dvd_right _ _) (Nat.gcd_dvd_left _ _)
  show Nat.gcd (Nat.gcd x n) (Nat.gcd y n) = 1
  generalize Nat.gcd (Nat.gcd x n) (Nat.gcd y n) = d at hx1 hy1
  apply Classical.byContradiction
  intro hne
  have h13 := ge13 h30 h7 h11 hx1 hne
  have h2 : d ∣ 30 * (j - i) := by
    have : d ∣ y - x := Nat.dvd_sub hy1 hx1
    rwa [hy, Nat.add_sub_cancel_left] at this
  have hc : Nat.Coprime d 30 := by
    have h3 : Nat.gcd d 30 ∣ Nat.gcd x 30 := Nat.dvd_gcd (Nat.dvd_trans (Nat.gcd_dvd_left _ _) hx1) (Nat.gcd_dvd_right _ _)
    have h4 : Nat.gcd x 30 = 1 := by
      rw [Nat.gcd_comm, Nat.gcd_rec, h30]
      rfl
    rw [h4] at h3
    exact Nat.dvd_one.mp h3
  have h5 : d ∣ j - i := hc.dvd_of_dvd_mul_left h2
  have h6 := Nat.le_of_dvd (by omega) h5
  omega

theorem prod_of (n : Nat) (hn : 0 < n) : ∀ L : List Nat, (∀ x ∈ L, 13 ≤ Nat.gcd x n) → L.Pairwise (fun x y => Nat.Coprime (Nat.gcd x n) (Nat.gcd y n)) →
    ∃ P, P ∣ n ∧ 13 ^ L.length ≤ P ∧ ∀ y, (∀ x ∈ L, Nat.Coprime (Nat.gcd y n) (Nat.gcd x n)) → Nat.Coprime (Nat.gcd y n) P
  | [], _, _ => ⟨1, Nat.one_dvd _, by simp, fun y _ => Nat.coprime_one_right _⟩
  | x :: L, h1, h2 => by
    obtain ⟨P, p1, p2, p3⟩ := prod_of n hn L (fun y hy => h1 y (List.mem_cons_of_mem _ hy)) (List.pairwise_cons.mp h2).2
    have hc : Nat.Coprime (Nat.gcd x n) P := p3 x (fun y hy => (List.pairwise_cons.mp h2).1 y hy)
    refine ⟨Nat.gcd x n * P, hc.mul_dvd_of_dvd_of_dvd (Nat.gcd_dvd_right _ _) p1, ?_, fun y hy => ?_⟩
    · rw [List.length_cons, Nat.pow_succ, Nat.mul_comm]
      exact Nat.mul_le_mul (h1 x List.mem_cons_self) p2
    · exact Nat.Coprime.mul_right (hy x List.mem_cons_self) (p3 y fun z hz => hy z (List.mem_cons_of_mem _ hz))

def good7 (r7 r11 j : Nat) : Bool := decide ((r7 + 30 * j) % 7 ≠ 0) && decide ((r11 + 30 * j) % 11 ≠ 0)
theorem nine : ∀ r7, r7 < 7 → ∀ r11, r11 < 11 → 9 ≤ ((List.range 13).filter (good7 r7 r11)).length := by decide

theorem unit_near {n s : Nat} (hn : 0 < n) (hb : n ≤ 1027243729) : ∃ i, i < 390 ∧ Nat.gcd (s + i) n = 1 := by
  apply Classical.byContradiction
  intro hno
  have hno' : ∀ i, i < 390 → Nat.gcd (s + i) n ≠ 1 := fun i hi e => hno ⟨i, hi, e⟩
  -- the first number that leaves 1 by 30
  let o := (31 - s % 30) % 30
  have ho : o < 30 := Nat.mod_lt _ (by decide)
  have hx0 : (s + o) % 30 = 1 := by
    show (s + (31 - s % 30) % 30) % 30 = 1
    omega
  let x0 := s + o
  let J := (List.range 13).filter (good7 (x0 % 7) (x0 % 11))
  let L := J.map fun j => x0 + 30 * j
  have hJ : ∀ j ∈ J, j < 13 ∧ (x0 + 30 * j) % 30 = 1 ∧ (x0 + 30 * j) % 7 ≠ 0 ∧ (x0 + 30 * j) % 11 ≠ 0 := by
    intro j hj
    obtain ⟨m1, m2⟩ := List.mem_filter.mp hj
    have h1 := List.mem_range.mp m1
    unfold good7 at m2
    rw [Bool.and_eq_true, decide_eq_true_eq, decide_eq_true_eq] at m2
    refine ⟨h1, ?_, ?_, ?_⟩
    · show (s + o + 30 * j) % 30 = 1
      omega
    · have := m2.1
      omega
    · have := m2.2
      omega
  have hL : ∀ x ∈ L, 13 ≤ Nat.gcd x n := by
    intro x hx
    obtain ⟨j, hj, rfl⟩ := List.mem_map.mp hx
    obtain ⟨h1, h2, h3, h4⟩ := hJ j hj
    refine ge13 h2 h3 h4 (Nat.gcd_dvd_left _ _) ?_
    have h5 := hno' (o + 30 * j) (by omega)
    rw [← Nat.add_assoc] at h5
    exact h5
  have hp : L.Pairwise (fun x y => Nat.Coprime (Nat.gcd x n) (Nat.gcd y n)) := by
    refine List.pairwise_map.mpr ?_
    have hs : J.Pairwise (fun i j => i < j) := List.Pairwise.filter _ List.pairwise_lt_range
    refine List.Pairwise.imp_of_mem (fun {i j} hi hj hij => ?_) hs
    obtain ⟨h1, h2, h3, h4⟩ := hJ i hi
    have h5 := (hJ j hj).1
    exact apart_of (i := i) (j := j) h2 h3 h4 (by omega) hij h5 n
  obtain ⟨P, p1, p2, _⟩ := prod_of n hn L hL hp
  have hlen : 9 ≤ L.length := by
    rw [List.length_map]
    exact nine _ (Nat.mod_lt _ (by decide)) _ (Nat.mod_lt _ (by decide))
  have h13 : 13 ^ 9 ≤ 13 ^ L.length := Nat.pow_le_pow_right (by decide) hlen
  have hPn := Nat.le_of_dvd hn p1
  have : (13 : Nat) ^ 9 = 10604499373 := by decide
  omega

/-- the walk of _law_unit: one step -/
def ustep (n f : Nat) : Nat := if Nat.gcd f n = 1 then f else f % n + 1
def uit (n : Nat) : Nat → Nat → Nat
  | 0, f => f
  | k + 1, f => uit n k (ustep n f)
theorem uit_done {n f : Nat} (h : Nat.gcd f n = 1) : ∀ k, uit n k f = f
  | 0 => rfl
  | k + 1 => by
    show uit n k (ustep n f) = f
    unfold ustep
    rw [if_pos h]
    exact uit_done h k
theorem gcd_one_left' (n : Nat) : Nat.gcd 1 n = 1 := Nat.gcd_one_left n
/-- from f, k steps reach a unit if one lies within the next k numbers -/
theorem uit_unit {n : Nat} (hn : 0 < n) : ∀ (k f : Nat), 1 ≤ f → f ≤ n → (∃ i, i < k ∧ Nat.gcd (f + i) n = 1) → Nat.gcd (uit n k f) n = 1 ∧ 1 ≤ uit n k f ∧ uit n k f ≤ n
  | 0, _, _, _, ⟨_, h, _⟩ => absurd h (Nat.not_lt_zero _)
  | k + 1, f, h1, h2, ⟨i, hi, hu⟩ => by
    by_cases hg : Nat.gcd f n = 1
    · rw [uit_done hg]
      exact ⟨hg, h1, h2⟩
    · show Nat.gcd (uit n k (ustep n f)) n = 1 ∧ 1 ≤ uit n k (ustep n f) ∧ uit n k (ustep n f) ≤ n
      unfold ustep
      rw [if_neg hg]
      by_cases hf : f = n
      · subst hf
        rw [Nat.mod_self, Nat.zero_add, uit_done (Nat.gcd_one_left _)]
        exact ⟨Nat.gcd_one_left _, Nat.le_refl _, h1⟩
      · have hlt : f < n := Nat.lt_of_le_of_ne h2 hf
        rw [Nat.mod_eq_of_lt hlt]
        cases i with
        | zero => exact absurd hu hg
        | succ i => exact uit_unit hn k (f + 1) (by omega) (by omega) ⟨i, by omega, by rw [show f + 1 + i = f + (i + 1) by omega]; exact hu⟩
theorem uit_400 {n f : Nat} (h1 : 1 ≤ f) (h2 : f ≤ n) (hb : n ≤ 1027243729) : Nat.gcd (uit n 400 f) n = 1 ∧ 1 ≤ uit n 400 f ∧ uit n 400 f ≤ n := by
  obtain ⟨i, hi, hu⟩ := unit_near (n := n) (s := f) (by omega) hb
  exact uit_unit (by omega) 400 f h1 h2 ⟨i, by omega, hu⟩
theorem uit_bound {n : Nat} : ∀ (k f : Nat), 1 ≤ f → f ≤ n → 1 ≤ uit n k f ∧ uit n k f ≤ n
  | 0, f, h1, h2 => ⟨h1, h2⟩
  | k + 1, f, h1, h2 => by
    show 1 ≤ uit n k (ustep n f) ∧ uit n k (ustep n f) ≤ n
    have : f % n < n := Nat.mod_lt _ (by omega)
    unfold ustep
    split
    · exact uit_bound k f h1 h2
    · exact uit_bound k _ (by omega) (by omega)
theorem uit_succ (n : Nat) : ∀ (k f : Nat), uit n (k + 1) f = ustep n (uit n k f)
  | 0, _ => rfl
  | k + 1, f => by
    show uit n (k + 1) (ustep n f) = ustep n (uit n k (ustep n f))
    exact uit_succ n k (ustep n f)

/-! ### Euclid -/
def est (p : Nat × Nat) : Nat × Nat := if p.2 = 0 then p else (p.2, p.1 % p.2)
def eit : Nat → Nat × Nat → Nat × Nat
  | 0, p => p
  | k + 1, p => est (eit k p)
theorem est_gcd (p : Nat × Nat) : Nat.gcd (est p).1 (est p).2 = Nat.gcd p.1 p.2 := by
  unfold est
  split
  · rfl
  · show Nat.gcd p.2 (p.1 % p.2) = _
    rw [Nat.gcd_comm p.1 p.2, Nat.gcd_rec p.2 p.1, Nat.gcd_comm]
theorem eit_gcd (p : Nat × Nat) : ∀ k, Nat.gcd (eit k p).1 (eit k p).2 = Nat.gcd p.1 p.2
  | 0 => rfl
  | k + 1 => (est_gcd _).trans (eit_gcd p k)
theorem est_le {p : Nat × Nat} {n : Nat} (h1 : p.1 ≤ n) (h2 : p.2 ≤ n) : (est p).1 ≤ n ∧ (est p).2 ≤ n := by
  unfold est
  split
  · exact ⟨h1, h2⟩
  · exact ⟨h2, Nat.le_trans (Nat.mod_le _ _) h1⟩
theorem eit_le {p : Nat × Nat} {n : Nat} (h1 : p.1 ≤ n) (h2 : p.2 ≤ n) : ∀ k, (eit k p).1 ≤ n ∧ (eit k p).2 ≤ n
  | 0 => ⟨h1, h2⟩
  | k + 1 => est_le (eit_le h1 h2 k).1 (eit_le h1 h2 k).2
theorem eit_small {a b : Nat} (hab : a ≤ b) : ∀ k, (eit (k + 1) (a, b)).2 = 0 ∨ ((eit (k + 1) (a, b)).2 < (eit (k + 1) (a, b)).1 ∧ (eit (k + 1) (a, b)).1 * (eit (k + 1) (a, b)).2 * 2 ^ k ≤ b * b)
  | 0 => by
    show (est (a, b)).2 = 0 ∨ ((est (a, b)).2 < (est (a, b)).1 ∧ (est (a, b)).1 * (est (a, b)).2 * 2 ^ 0 ≤ b * b)
    unfold est
    by_cases hb : b = 0
    · left
      rw [if_pos hb]
      exact hb
    · rw [if_neg hb]
      right
      show a % b < b ∧ b * (a % b) * 1 ≤ b * b
      have h := Nat.mod_lt a (Nat.pos_of_ne_zero hb)
      rw [Nat.mul_one]
      exact ⟨h, Nat.mul_le_mul_left _ (Nat.le_of_lt h)⟩
  | k + 1 => by
    have ih := eit_small hab k
    show (est (eit (k + 1) (a, b))).2 = 0 ∨ ((est (eit (k + 1) (a, b))).2 < (est (eit (k + 1) (a, b))).1 ∧ (est (eit (k + 1) (a, b))).1 * (est (eit (k + 1) (a, b))).2 * 2 ^ (k + 1) ≤ b * b)
    generalize eit (k + 1) (a, b) = p at ih
    obtain ⟨u, v⟩ := p
    show (est (u, v)).2 = 0 ∨ ((est (u, v)).2 < (est (u, v)).1 ∧ (est (u, v)).1 * (est (u, v)).2 * 2 ^ (k + 1) ≤ b * b)
    unfold est
    by_cases hv : v = 0
    · left
      rw [if_pos hv]
      exact hv
    · rw [if_neg hv]
      right
      show u % v < v ∧ v * (u % v) * 2 ^ (k + 1) ≤ b * b
      have h := Nat.mod_lt u (Nat.pos_of_ne_zero hv)
      refine ⟨h, ?_⟩
      rcases ih with ih | ⟨i1, i2⟩
      · exact absurd ih hv
      · have i1 : v < u := i1
        have i2 : u * v * 2 ^ k ≤ b * b := i2
        have h2 : 2 * (u % v) ≤ u := by
          have e := Nat.mod_add_div u v
          have : 1 ≤ u / v := (Nat.one_le_div_iff (Nat.pos_of_ne_zero hv)).mpr (Nat.le_of_lt i1)
          have h3 : v * 1 ≤ v * (u / v) := Nat.mul_le_mul_left _ this
          omega
        refine Nat.le_trans ?_ i2
        calc v * (u % v) * 2 ^ (k + 1) = v * (2 * (u % v)) * 2 ^ k := by
              rw [Nat.pow_succ, Nat.mul_comm (2 ^ k) 2, ← Nat.mul_assoc, Nat.mul_assoc v (u % v) 2, Nat.mul_comm (u % v) 2]
          _ ≤ v * u * 2 ^ k := Nat.mul_le_mul_right _ (Nat.mul_le_mul_left _ h2)
          _ = u * v * 2 ^ k := by rw [Nat.mul_comm v u]
theorem eit_200 {a b : Nat} (hab : a ≤ b) (hb : b ≤ 1027243729) : (eit 200 (a, b)).2 = 0 ∧ (eit 200 (a, b)).1 = Nat.gcd a b := by
  have h0 : (eit 200 (a, b)).2 = 0 := by
    rcases eit_small hab 199 with h | ⟨h1, h2⟩
    · exact h
    · apply Classical.byContradiction
      intro hne
      have p2 : 1 ≤ (eit 200 (a, b)).2 := Nat.pos_of_ne_zero hne
      have h1' : (eit 200 (a, b)).2 < (eit 200 (a, b)).1 := h1
      have h2' : (eit 200 (a, b)).1 * (eit 200 (a, b)).2 * 2 ^ 199 ≤ b * b := h2
      have p1 : 1 ≤ (eit 200 (a, b)).1 := by omega
      have h3 : 1 * 1 * 2 ^ 199 ≤ (eit 200 (a, b)).1 * (eit 200 (a, b)).2 * 2 ^ 199 := Nat.mul_le_mul_right _ (Nat.mul_le_mul p1 p2)
      have h4 : b * b ≤ 1027243729 * 1027243729 := Nat.mul_le_mul hb hb
      have h5 := Nat.le_trans h3 (Nat.le_trans h2' h4)
      exact absurd h5 (by decide)
  refine ⟨h0, ?_⟩
  have h := eit_gcd (a, b) 200
  rw [h0, Nat.gcd_zero_right] at h
  exact h
end K5
/-! K5, part B: trees of squares, what checked_part answers of them, their lines. -/
namespace K5
open PySem L2

/-- a tree as it is told; bad: ("product", S) -/
inductive T where
  | listed (rows : List (List Int))
  | sum (n a b : Int)
  | field (p k a : Int)
  | product (s t : T)
  | turned (s : T) (pl : List Int)
  | bad (s : T)

/-! ### primes, fields -/
def prGo (n : Nat) : Nat → Nat → Bool
  | 0, _ => true
  | f + 1, d => if d * d ≤ n then (if n % d = 0 then false else prGo n f (d + 1)) else true
def isPr (n : Int) : Bool := prGo n.toNat (n.toNat + 2) 2 && decide (1 < n)
def isFld (p k : Int) : Bool :=
  if k = 1 then decide (p ≤ 1000000) && isPr p
  else if (2 ≤ k ∧ k ≤ 12) ∧ (2 ≤ p ∧ p ≤ 97) then isPr p && decide (p ^ k.toNat ≤ 1000000000000000) else false

/-! ### what checked_part answers: the parts, the order -/
def rng (n : Nat) : List Int := (List.range n).map fun (i : Nat) => ((i : Nat) : Int)
def colOf (rows : List (List Int)) (c : Nat) : List Int := rows.map fun r => r.getD c 0
def chkRows (rows : List (List Int)) : Bool :=
  (decide (1 ≤ rows.length) && decide (rows.length ≤ 12)) && (rows.all (fun r => r.isPerm (rng rows.length)) && (List.range rows.length).all (fun c => (colOf rows c).isPerm (rng rows.length)))
def chkSum (n a b : Int) : Bool :=
  (decide (1 ≤ n) && decide (n ≤ 10 ^ 30)) && ((decide (1 ≤ a) && decide (a ≤ n)) && (decide (1 ≤ b) && decide (b ≤ n))) && (decide (Nat.gcd a.natAbs n.natAbs = 1) && decide (Nat.gcd b.natAbs n.natAbs = 1))
def chkFld (p k a : Int) : Bool := isFld p k && (decide (1 ≤ a) && decide (a < p ^ k.toNat))
/-- depth d -/
def chk : T → Nat → Option (Nat × Int)
  | .listed rows, d => if d ≤ 12 ∧ chkRows rows = true then some (1, (rows.length : Int)) else none
  | .sum n a b, d => if d ≤ 12 ∧ chkSum n a b = true then some (1, n) else none
  | .field p k a, d => if d ≤ 12 ∧ chkFld p k a = true then some (1, p ^ k.toNat) else none
  | .turned s pl, d => if d ≤ 12 then (match chk s (d + 1) with
      | none => none
      | some (m, c) => if pl.isPerm [0, 1, 2] = true ∧ m < 12 then some (m + 1, c) else none) else none
  | .product s t, d => if d ≤ 12 then (match chk s (d + 1) with
      | none => none
      | some (m, c) => match chk t (d + 1) with
        | none => none
        | some (m', c') => if m + m' < 12 ∧ c * c' ≤ 10 ^ 30 then some (m + m' + 1, c * c') else none) else none
  | .bad _, _ => none

/-! ### parts, order, a tree that is right but for its size -/
def many : T → Nat
  | .product s t => 1 + many s + many t
  | .turned s _ => 1 + many s
  | _ => 1
def ord : T → Int
  | .listed rows => rows.length
  | .sum n _ _ => n
  | .field p k _ => p ^ k.toNat
  | .product s t => ord s * ord t
  | .turned s _ => ord s
  | .bad s => ord s
def Val : T → Prop
  | .listed rows => chkRows rows = true
  | .sum n a b => chkSum n a b = true
  | .field p k a => chkFld p k a = true
  | .product s t => Val s ∧ Val t
  | .turned s pl => Val s ∧ pl.isPerm [0, 1, 2] = true
  | .bad _ => False
theorem many_pos : ∀ t : T, 1 ≤ many t
  | .listed _ => Nat.le_refl _
  | .sum .. => Nat.le_refl _
  | .field .. => Nat.le_refl _
  | .product .. => by unfold many; omega
  | .turned .. => by unfold many; omega
  | .bad _ => Nat.le_refl _
theorem chkRows_len {rows : List (List Int)} (h : chkRows rows = true) : 1 ≤ rows.length ∧ rows.length ≤ 12 := by
  unfold chkRows at h
  rw [Bool.and_eq_true, Bool.and_eq_true, decide_eq_true_eq, decide_eq_true_eq] at h
  exact h.1
theorem chkSum_iff {n a b : Int} : chkSum n a b = true ↔ ((1 ≤ n ∧ n ≤ 10 ^ 30) ∧ (1 ≤ a ∧ a ≤ n) ∧ (1 ≤ b ∧ b ≤ n)) ∧ (Nat.gcd a.natAbs n.natAbs = 1 ∧ Nat.gcd b.natAbs n.natAbs = 1) := by
  unfold chkSum
  simp only [Bool.and_eq_true, decide_eq_true_eq]
theorem chkFld_pos {p k a : Int} (h : chkFld p k a = true) : 1 ≤ a ∧ a < p ^ k.toNat := by
  unfold chkFld at h
  simp only [Bool.and_eq_true, decide_eq_true_eq] at h
  exact h.2
theorem ord_pos : ∀ t : T, Val t → 1 ≤ ord t
  | .listed rows, h => by
    have := (chkRows_len h).1
    unfold ord; omega
  | .sum n a b, h => (chkSum_iff.mp h).1.1.1
  | .field p k a, h => by
    have := chkFld_pos h
    unfold ord; omega
  | .product s t, h => by
    have h1 := ord_pos s h.1
    have h2 := ord_pos t h.2
    show 1 ≤ ord s * ord t
    have : 1 * 1 ≤ ord s * ord t := Int.mul_le_mul h1 h2 (by decide) (by omega)
    omega
  | .turned s pl, h => ord_pos s h.1
  | .bad _, h => h.elim
theorem chk_of : ∀ (t : T) (d : Nat), Val t → many t + d ≤ 13 → many t ≤ 12 → ord t ≤ 10 ^ 30 → chk t d = some (many t, ord t)
  | .listed rows, d, h, h1, h2, h3 => by
    unfold chk
    rw [if_pos ⟨by have : many (.listed rows) = 1 := rfl; omega, h⟩]
    rfl
  | .sum n a b, d, h, h1, h2, h3 => by
    unfold chk
    rw [if_pos ⟨by have : many (.sum n a b) = 1 := rfl; omega, h⟩]
    rfl
  | .field p k a, d, h, h1, h2, h3 => by
    unfold chk
    rw [if_pos ⟨by have : many (.field p k a) = 1 := rfl; omega, h⟩]
    rfl
  | .turned s pl, d, h, h1, h2, h3 => by
    have e : many (.turned s pl) = 1 + many s := rfl
    have hp := many_pos s
    unfold chk
    rw [if_pos (by omega), chk_of s (d + 1) h.1 (by omega) (by omega) h3]
    show (if pl.isPerm [0, 1, 2] = true ∧ many s < 12 then some (many s + 1, ord s) else none) = _
    rw [if_pos ⟨h.2, by omega⟩, e, Nat.add_comm]
    rfl
  | .product s t, d, h, h1, h2, h3 => by
    have e : many (.product s t) = 1 + many s + many t := rfl
    have hp := many_pos s
    have hp' := many_pos t
    have q1 := ord_pos s h.1
    have q2 := ord_pos t h.2
    have h3' : ord s * ord t ≤ 10 ^ 30 := h3
    have b1 : ord s * 1 ≤ ord s * ord t := Int.mul_le_mul_of_nonneg_left q2 (by omega)
    have b2 : 1 * ord t ≤ ord s * ord t := Int.mul_le_mul_of_nonneg_right q1 (by omega)
    unfold chk
    rw [if_pos (by omega), chk_of s (d + 1) h.1 (by omega) (by omega) (by omega), chk_of t (d + 1) h.2 (by omega) (by omega) (by omega)]
    show (if many s + many t < 12 ∧ ord s * ord t ≤ 10 ^ 30 then some (many s + many t + 1, ord s * ord t) else none) = _
    rw [if_pos ⟨by omega, h3'⟩, e, show 1 + many s + many t = many s + many t + 1 by omega]
    rfl
  | .bad _, _, h, _, _, _ => h.elim

/-! ### from chk back -/
theorem chk_val : ∀ {t : T} {d m : Nat} {c : Int}, chk t d = some (m, c) → Val t ∧ m = many t ∧ c = ord t ∧ m ≤ 12
  | .listed rows, d, m, c, h => by
    unfold chk at h
    split at h
    · rename_i h0
      have e := Prod.mk.inj (Option.some.inj h)
      exact ⟨h0.2, e.1.symm, e.2.symm, by omega⟩
    · cases h
  | .sum n a b, d, m, c, h => by
    unfold chk at h
    split at h
    · rename_i h0
      have e := Prod.mk.inj (Option.some.inj h)
      exact ⟨h0.2, e.1.symm, e.2.symm, by omega⟩
    · cases h
  | .field p k a, d, m, c, h => by
    unfold chk at h
    split at h
    · rename_i h0
      have e := Prod.mk.inj (Option.some.inj h)
      exact ⟨h0.2, e.1.symm, e.2.symm, by omega⟩
    · cases h
  | .turned s pl, d, m, c, h => by
    unfold chk at h
    split at h
    · split at h
      · cases h
      · rename_i m1 c1 e1
        split at h
        · rename_i h0
          have e := Prod.mk.inj (Option.some.inj h)
          obtain ⟨i1, i2, i3, i4⟩ := chk_val e1
          refine ⟨⟨i1, h0.1⟩, ?_, e.2.symm.trans i3, by omega⟩
          show m = 1 + many s
          omega
        · cases h
    · cases h
  | .product s t, d, m, c, h => by
    unfold chk at h
    split at h
    · split at h
      · cases h
      · rename_i m1 c1 e1
        split at h
        · cases h
        · rename_i m2 c2 e2
          split at h
          · rename_i h0
            have e := Prod.mk.inj (Option.some.inj h)
            obtain ⟨i1, i2, i3, i4⟩ := chk_val e1
            obtain ⟨j1, j2, j3, j4⟩ := chk_val e2
            refine ⟨⟨i1, j1⟩, ?_, ?_, by omega⟩
            · show m = 1 + many s + many t
              omega
            · show c = ord s * ord t
              rw [← e.2, i3, j3]
          · cases h
    · cases h
  | .bad _, _, _, _, h => by
    unfold chk at h
    cases h

/-! ### the texts -/
def num (i : Int) : Str := Str.ofString (toString i)
abbrev sp1 : Str := Str.ofString " "
abbrev nl1 : Str := Str.ofString "\n"
def ws (x : String) : Str := Str.ofString x
def wl : T → List (List Str)
  | .listed rows => [ws "listed", num rows.length] :: rows.map fun r => ws "row" :: r.map num
  | .sum n a b => [[ws "sum", num n, num a, num b]]
  | .field p k a => [[ws "field", num p, num k, num a]]
  | .product s t => [ws "product"] :: (wl s ++ wl t)
  | .turned s pl => (ws "turned" :: pl.map num) :: wl s
  | .bad _ => []
def ln (x : List Str) : Str := Str.join sp1 x
def lines (t : T) : List Str := (wl t).map ln
def textOf (t : T) : Str := Str.join nl1 (ws "square" :: lines t)
/-- the signs of some lines, each with one more -/
def szL (l : List Str) : Nat := (l.map fun x => x.length + 1).sum
theorem szL_cons (x : Str) (l : List Str) : szL (x :: l) = x.length + 1 + szL l := by unfold szL; rw [List.map_cons, List.sum_cons]
theorem szL_append (l m : List Str) : szL (l ++ m) = szL l + szL m := by unfold szL; rw [List.map_append, List.sum_append]
theorem szL_len (l : List Str) : (l.map (·.length)).sum + l.length = szL l := by
  induction l with
  | nil => rfl
  | cons x l ih => rw [szL_cons, List.map_cons, List.sum_cons, List.length_cons]; omega
end K5
/-! K5, part C: numbers as texts, lines cut and joined, sizes. -/
namespace K5
open PySem L2 TL

def nice (i : Int) : Prop := 0 ≤ i ∧ i ≤ 10 ^ 30
def Nn : T → Prop
  | .listed rows => 1 ≤ rows.length ∧ rows.length ≤ 12 ∧ ∀ r ∈ rows, 1 ≤ r.length ∧ r.length ≤ 12 ∧ ∀ x ∈ r, nice x
  | .sum n a b => nice n ∧ nice a ∧ nice b
  | .field p k a => nice p ∧ nice k ∧ nice a
  | .product s t => Nn s ∧ Nn t
  | .turned s pl => Nn s ∧ pl.length = 3 ∧ ∀ x ∈ pl, nice x
  | .bad _ => False

theorem rng_len (n : Nat) : (rng n).length = n := by unfold rng; rw [List.length_map, List.length_range]
theorem mem_rng {n : Nat} {x : Int} (h : x ∈ rng n) : 0 ≤ x ∧ x < n := by
  unfold rng at h
  obtain ⟨i, hi, rfl⟩ := List.mem_map.mp h
  have := List.mem_range.mp hi
  exact ⟨by omega, by omega⟩
theorem isFld_bd {p k : Int} (h : isFld p k = true) : (1 < p ∧ p ≤ 1000000) ∧ (1 ≤ k ∧ k ≤ 12) ∧ p ^ k.toNat ≤ 1000000000000000 := by
  unfold isFld at h
  split at h
  · rename_i hk
    subst hk
    unfold isPr at h
    simp only [Bool.and_eq_true, decide_eq_true_eq] at h
    refine ⟨⟨h.2.2, h.1⟩, ⟨by decide, by decide⟩, ?_⟩
    show p ^ 1 ≤ _
    rw [Int.pow_succ, Int.pow_zero, Int.one_mul]
    omega
  · split at h
    · rename_i hc
      unfold isPr at h
      simp only [Bool.and_eq_true, decide_eq_true_eq] at h
      exact ⟨⟨by omega, by omega⟩, ⟨by omega, by omega⟩, h.2⟩
    · cases h
theorem nn_of_val : ∀ t : T, Val t → Nn t
  | .listed rows, h => by
    have h1 := chkRows_len h
    unfold Val chkRows at h
    simp only [Bool.and_eq_true, decide_eq_true_eq] at h
    refine ⟨h1.1, h1.2, fun r hr => ?_⟩
    have hp := List.isPerm_iff.mp (List.all_eq_true.mp h.2.1 r hr)
    have hl := hp.length_eq
    rw [rng_len] at hl
    refine ⟨by omega, by omega, fun x hx => ?_⟩
    have := mem_rng (hp.mem_iff.mp hx)
    exact ⟨this.1, by omega⟩
  | .sum n a b, h => by
    have := chkSum_iff.mp h
    exact ⟨⟨by omega, by omega⟩, ⟨by omega, by omega⟩, ⟨by omega, by omega⟩⟩
  | .field p k a, h => by
    have h1 := chkFld_pos h
    unfold Val chkFld at h
    rw [Bool.and_eq_true] at h
    have h2 := isFld_bd h.1
    exact ⟨⟨by omega, by omega⟩, ⟨by omega, by omega⟩, ⟨by omega, by omega⟩⟩
  | .product s t, h => ⟨nn_of_val s h.1, nn_of_val t h.2⟩
  | .turned s pl, h => by
    have hp := List.isPerm_iff.mp h.2
    refine ⟨nn_of_val s h.1, hp.length_eq, fun x hx => ?_⟩
    have := hp.mem_iff.mp hx
    simp only [List.mem_cons, List.not_mem_nil, or_false] at this
    unfold nice
    omega
  | .bad _, h => h.elim

/-! ### numbers -/
theorem num_nat {i : Int} (h : 0 ≤ i) : num i = Str.ofString (toString ((i.toNat : Nat) : Int)) := by
  unfold num
  rw [Int.toNat_of_nonneg h]
theorem tl_num' {i : Int} (h : 0 ≤ i) : tl (num i) = numL i.toNat := by rw [num_nat h]; exact tl_num _
theorem num_free {i : Int} (h : 0 ≤ i) {s : Nat} (hs : s < 48 ∨ 57 < s) : s ∉ tl (num i) := by
  rw [tl_num' h]
  exact numL_free hs
theorem num_len {i : Int} (h : nice i) : 1 ≤ (num i).length ∧ (num i).length ≤ 31 := by
  rw [len_tl, tl_num' h.1]
  constructor
  · have := numL_ne i.toNat
    cases e : numL i.toNat with
    | nil => exact absurd e this
    | cons a l => rw [List.length_cons]; omega
  · refine numL_len (by decide) ?_
    have := h.2
    have h3 : (10 : Int) ^ 30 < 10 ^ 31 := by decide
    have h4 : (i.toNat : Int) < 10 ^ 31 := by rw [Int.toNat_of_nonneg h.1]; omega
    have h5 : ((10 ^ 31 : Nat) : Int) = 10 ^ 31 := by decide
    omega
theorem num_int {i : Int} (h : nice i) : intText? (num i) = some i := by
  have hl := (num_len h).2
  rw [len_tl, tl_num' h.1] at hl
  rw [num_nat h.1, int_num (by omega), Int.toNat_of_nonneg h.1]
theorem head_num : ∀ n : Nat, 0 < n → (numL n).head? ≠ some 48 := by
  intro n
  induction n using Nat.strongRecOn with
  | ind n ih =>
    intro hn
    by_cases h : n < 10
    · rw [numL_lt h]
      intro e
      have e' : 48 + n = 48 := Option.some.inj e
      omega
    · have h' : 10 ≤ n := by omega
      rw [numL_step h']
      have h0 : 0 < n / 10 := by omega
      have := ih (n / 10) (by omega) h0
      cases e : numL (n / 10) with
      | nil => exact absurd e (numL_ne _)
      | cons a l =>
        rw [e] at this
        exact this
theorem num_digit {i : Int} (h : 0 ≤ i) {c : Nat} (hc : c ∈ tl (num i)) : c ∈ tl (ws "0123456789") := by
  have h1 : 48 ≤ c ∧ c ≤ 57 := by
    apply Classical.byContradiction
    intro hne
    exact num_free h (s := c) (by omega) hc
  have : tl (ws "0123456789") = [48, 49, 50, 51, 52, 53, 54, 55, 56, 57] := by decide
  rw [this]
  have h2 : c = 48 ∨ c = 49 ∨ c = 50 ∨ c = 51 ∨ c = 52 ∨ c = 53 ∨ c = 54 ∨ c = 55 ∨ c = 56 ∨ c = 57 := by omega
  rcases h2 with e | e | e | e | e | e | e | e | e | e <;> subst e <;> decide
theorem num_head {i : Int} (h : nice i) : num i = ws "0" ∨ ∃ c r, tl (num i) = c :: r ∧ c ≠ 48 := by
  by_cases h0 : i = 0
  · left
    subst h0
    decide
  · right
    have h1 : 0 < i.toNat := by have := h.1; omega
    have h2 := head_num _ h1
    rw [tl_num' h.1]
    cases e : numL i.toNat with
    | nil => exact absurd e (numL_ne _)
    | cons a l =>
      rw [e] at h2
      exact ⟨a, l, rfl, fun q => h2 (by rw [q]; rfl)⟩

/-! ### lines and words -/
theorem mem_joinL {S : List Nat} {c : Nat} : ∀ {ps : List (List Nat)}, c ∈ joinL S ps → c ∈ S ∨ ∃ p ∈ ps, c ∈ p
  | [], h => by cases h
  | [p], h => .inr ⟨p, List.mem_cons_self, h⟩
  | p :: q :: r, h => by
    have h' : c ∈ p ++ (S ++ joinL S (q :: r)) := h
    rcases List.mem_append.mp h' with h1 | h1
    · exact .inr ⟨p, List.mem_cons_self, h1⟩
    · rcases List.mem_append.mp h1 with h2 | h2
      · exact .inl h2
      · rcases mem_joinL h2 with h3 | ⟨x, hx, hc⟩
        · exact .inl h3
        · exact .inr ⟨x, List.mem_cons_of_mem _ hx, hc⟩
/-- a word of a line: no blank, no newline in it -/
def okW (x : Str) : Prop := 32 ∉ tl x ∧ 10 ∉ tl x
theorem okW_num {i : Int} (h : 0 ≤ i) : okW (num i) := ⟨num_free h (.inl (by decide)), num_free h (.inl (by decide))⟩
theorem wl_ok : ∀ t : T, Nn t → ∀ w ∈ wl t, w ≠ [] ∧ ∀ x ∈ w, okW x
  | .listed rows, h, w, hw => by
    unfold wl at hw
    rcases List.mem_cons.mp hw with e | hw
    · subst e
      refine ⟨by simp, fun x hx => ?_⟩
      rcases List.mem_cons.mp hx with e | hx
      · subst e; exact ⟨by decide, by decide⟩
      · rcases List.mem_cons.mp hx with e | hx
        · subst e; exact okW_num (by omega)
        · cases hx
    · obtain ⟨r, hr, rfl⟩ := List.mem_map.mp hw
      refine ⟨by simp, fun x hx => ?_⟩
      rcases List.mem_cons.mp hx with e | hx
      · subst e; exact ⟨by decide, by decide⟩
      · obtain ⟨i, hi, rfl⟩ := List.mem_map.mp hx
        exact okW_num ((h.2.2 r hr).2.2 i hi).1
  | .sum n a b, h, w, hw => by
    unfold wl at hw
    rcases List.mem_cons.mp hw with e | hw
    · subst e
      refine ⟨by simp, fun x hx => ?_⟩
      simp only [List.mem_cons, List.not_mem_nil, or_false] at hx
      rcases hx with e | e | e | e
      · subst e; exact ⟨by decide, by decide⟩
      · subst e; exact okW_num h.1.1
      · subst e; exact okW_num h.2.1.1
      · subst e; exact okW_num h.2.2.1
    · cases hw
  | .field n a b, h, w, hw => by
    unfold wl at hw
    rcases List.mem_cons.mp hw with e | hw
    · subst e
      refine ⟨by simp, fun x hx => ?_⟩
      simp only [List.mem_cons, List.not_mem_nil, or_false] at hx
      rcases hx with e | e | e | e
      · subst e; exact ⟨by decide, by decide⟩
      · subst e; exact okW_num h.1.1
      · subst e; exact okW_num h.2.1.1
      · subst e; exact okW_num h.2.2.1
    · cases hw
  | .product s t, h, w, hw => by
    unfold wl at hw
    rcases List.mem_cons.mp hw with e | hw
    · subst e
      refine ⟨by simp, fun x hx => ?_⟩
      rcases List.mem_cons.mp hx with e | hx
      · subst e; exact ⟨by decide, by decide⟩
      · cases hx
    · rcases List.mem_append.mp hw with hw | hw
      · exact wl_ok s h.1 w hw
      · exact wl_ok t h.2 w hw
  | .turned s pl, h, w, hw => by
    unfold wl at hw
    rcases List.mem_cons.mp hw with e | hw
    · subst e
      refine ⟨by simp, fun x hx => ?_⟩
      rcases List.mem_cons.mp hx with e | hx
      · subst e; exact ⟨by decide, by decide⟩
      · obtain ⟨i, hi, rfl⟩ := List.mem_map.mp hx
        exact okW_num (h.2.2 i hi).1
    · exact wl_ok s h.1 w hw
  | .bad _, h, _, _ => h.elim
theorem ln_split {w : List Str} (h0 : w ≠ []) (h : ∀ x ∈ w, okW x) : Txt.split (ln w) sp1 = w := by
  have := split_join (y := sp1) (s := 32) (S := []) (by decide) (by decide +kernel) (parts := w) h0 (fun p hp => (h p hp).1)
  rw [join_eq] at this
  exact this
theorem ln_free {w : List Str} (h : ∀ x ∈ w, okW x) : 10 ∉ tl (ln w) := by
  intro hc
  unfold ln at hc
  rw [tl_join] at hc
  rcases mem_joinL hc with h1 | ⟨p, hp, h1⟩
  · exact absurd h1 (by decide)
  · obtain ⟨x, hx, rfl⟩ := List.mem_map.mp hp
    exact (h x hx).2 h1
theorem text_split {t : T} (h : Nn t) : Txt.split (textOf t) nl1 = ws "square" :: lines t := by
  have := split_join (y := nl1) (s := 10) (S := []) (by decide) (by decide +kernel) (parts := ws "square" :: lines t) (by simp) (fun p hp => ?_)
  · rw [join_eq] at this
    exact this
  · rcases List.mem_cons.mp hp with e | hp
    · subst e; decide
    · obtain ⟨w, hw, rfl⟩ := List.mem_map.mp hp
      exact ln_free (wl_ok t h w hw).2

/-! ### sizes -/
theorem joinL_len (S : List Nat) : ∀ ps : List (List Nat), (joinL S ps).length ≤ (ps.map fun p => p.length + S.length).sum
  | [] => Nat.le_refl _
  | [p] => by
    show p.length ≤ (p.length + S.length) + 0
    omega
  | p :: q :: r => by
    have ih := joinL_len S (q :: r)
    show (p ++ (S ++ joinL S (q :: r))).length ≤ _
    rw [List.length_append, List.length_append, List.map_cons, List.sum_cons]
    omega
theorem join_len1 {y : Str} (hy : y.length = 1) (l : List Str) : (Str.join y l).length ≤ szL l := by
  rw [len_tl, tl_join]
  refine Nat.le_trans (joinL_len _ _) ?_
  unfold szL
  rw [List.map_map]
  have : ((fun p => p.length + (tl y).length) ∘ tl) = fun x : Str => x.length + 1 := by
    funext x
    show (tl x).length + (tl y).length = _
    rw [← len_tl, ← len_tl, hy]
  rw [this]
  exact Nat.le_refl _
theorem ln_len (l : List Str) : (ln l).length ≤ szL l := join_len1 (by decide) l
theorem szL_le {B : Nat} : ∀ {l : List Str}, (∀ x ∈ l, x.length + 1 ≤ B) → szL l ≤ B * l.length
  | [], _ => Nat.le_refl _
  | x :: l, h => by
    have ih := szL_le (l := l) fun y hy => h y (List.mem_cons_of_mem _ hy)
    have := h x List.mem_cons_self
    rw [szL_cons, List.length_cons, Nat.mul_succ]
    omega
theorem szL_nums {l : List Int} (h : ∀ x ∈ l, nice x) (hl : l.length ≤ 12) : szL (l.map num) ≤ 384 := by
  have := szL_le (B := 32) (l := l.map num) (fun x hx => by
    obtain ⟨i, hi, rfl⟩ := List.mem_map.mp hx
    have := (num_len (h i hi)).2
    omega)
  rw [List.length_map] at this
  have h2 : 32 * l.length ≤ 32 * 12 := Nat.mul_le_mul_left _ hl
  omega
theorem line_sz {w : Str} {l : List Str} (hw : w.length ≤ 10) (hl : szL l ≤ 384) : (ln (w :: l)).length + 1 ≤ 400 := by
  have := ln_len (w :: l)
  rw [szL_cons] at this
  omega
theorem sz_lines : ∀ t : T, Nn t → szL (lines t) ≤ 6000 * many t ∧ (lines t).length ≤ 13 * many t
  | .listed rows, h => by
    have e : lines (.listed rows) = ln [ws "listed", num rows.length] :: rows.map (fun r => ln (ws "row" :: r.map num)) := by
      unfold lines wl
      rw [List.map_cons, List.map_map]
      rfl
    have e2 : many (.listed rows) = 1 := rfl
    rw [e, e2]
    have h1 : (ln [ws "listed", num (rows.length : Int)]).length + 1 ≤ 400 := line_sz (by decide) (by
      have := szL_nums (l := [(rows.length : Int)]) (fun x hx => by
        rcases List.mem_cons.mp hx with e | hx
        · subst e
          have := h.2.1
          exact ⟨by omega, by omega⟩
        · cases hx) (by simp)
      exact this)
    have h2 := szL_le (B := 400) (l := rows.map (fun r => ln (ws "row" :: r.map num))) (fun x hx => by
      obtain ⟨r, hr, rfl⟩ := List.mem_map.mp hx
      exact line_sz (by decide) (szL_nums (h.2.2 r hr).2.2 (h.2.2 r hr).2.1))
    rw [List.length_map] at h2
    have h3 := h.2.1
    have h4 : 400 * rows.length ≤ 400 * 12 := Nat.mul_le_mul_left _ h3
    rw [szL_cons, List.length_cons, List.length_map]
    omega
  | .sum n a b, h => by
    have e : lines (.sum n a b) = [ln (ws "sum" :: [n, a, b].map num)] := rfl
    have e2 : many (.sum n a b) = 1 := rfl
    rw [e, e2, szL_cons]
    have := line_sz (w := ws "sum") (by decide) (szL_nums (l := [n, a, b]) (fun x hx => by
      simp only [List.mem_cons, List.not_mem_nil, or_false] at hx
      rcases hx with e | e | e
      · subst e; exact h.1
      · subst e; exact h.2.1
      · subst e; exact h.2.2) (by simp))
    refine ⟨?_, by simp⟩
    show _ + 0 ≤ _
    omega
  | .field n a b, h => by
    have e : lines (.field n a b) = [ln (ws "field" :: [n, a, b].map num)] := rfl
    have e2 : many (.field n a b) = 1 := rfl
    rw [e, e2, szL_cons]
    have := line_sz (w := ws "field") (by decide) (szL_nums (l := [n, a, b]) (fun x hx => by
      simp only [List.mem_cons, List.not_mem_nil, or_false] at hx
      rcases hx with e | e | e
      · subst e; exact h.1
      · subst e; exact h.2.1
      · subst e; exact h.2.2) (by simp))
    refine ⟨?_, by simp⟩
    show _ + 0 ≤ _
    omega
  | .product s t, h => by
    have e : lines (.product s t) = ln [ws "product"] :: (lines s ++ lines t) := by
      unfold lines
      show (([ws "product"] :: (wl s ++ wl t)).map ln) = _
      rw [List.map_cons, List.map_append]
    have e2 : many (.product s t) = 1 + many s + many t := rfl
    have i1 := sz_lines s h.1
    have i2 := sz_lines t h.2
    rw [e, e2, szL_cons, szL_append, List.length_cons, List.length_append]
    have := line_sz (w := ws "product") (l := []) (by decide) (by decide)
    omega
  | .turned s pl, h => by
    have e : lines (.turned s pl) = ln (ws "turned" :: pl.map num) :: lines s := rfl
    have e2 : many (.turned s pl) = 1 + many s := rfl
    have i1 := sz_lines s h.1
    rw [e, e2, szL_cons, List.length_cons]
    have := line_sz (w := ws "turned") (by decide) (szL_nums h.2.2 (by rw [h.2.1]; decide))
    omega
  | .bad _, h => h.elim
end K5
/-! K5, walks: what the top has written; words for all walks. -/
namespace K5
open PySem PySem.Spec PyProof.Rows L2

def topS (i : Nat) : Stmt := PySem.Challenge.pw_matedsquares_k05_whole_text_and_back.main.body.getD i (.Pass ⟨0, 0, 0, 0⟩)

/-- built-ins that no name of the module hides -/
structure Bl (mg : Str → Option Value) : Prop where
  len : mg "len" = none
  range : mg "range" = none
  list : mg "list" = none
  sorted : mg "sorted" = none
  tuple : mg "tuple" = none
  all : mg "all" = none
  int : mg "int" = none
  str : mg "str" = none
  abs : mg "abs" = none
  max : mg "max" = none
  isinstance : mg "isinstance" = none
  ValueError : mg "ValueError" = none
/-- constants -/
structure Ct (mg : Str → Option Value) : Prop where
  mp : ∃ t, mg "MOST_PRIME" = some (.int 1000000 t)
  mb : ∃ t, mg "MOST_BASE" = some (.int 97 t)
  md : ∃ t, mg "MOST_DEGREE" = some (.int 12 t)
  ms : ∃ t, mg "MOST_SIZE" = some (.int 1000000000000000 t)
  mo : ∃ t, mg "MOST_ORDER" = some (.int 1000000000000000000000000000000 t)
  mparts : ∃ t, mg "MOST_PARTS" = some (.int 12 t)
  ml : ∃ t, mg "MOST_LISTED" = some (.int 12 t)
  row : ∃ t, mg "ROW" = some (.int 0 t)
  col : ∃ t, mg "COLUMN" = some (.int 1 t)
  sign : ∃ t, mg "SIGN" = some (.int 2 t)
  dig : ∃ t, mg "DIGITS" = some (.str "0123456789" t)
  mdig : ∃ t, mg "MOST_DIGITS" = some (.int 31 t)
  gcd : mg "gcd" = some (.builtin "math.gcd")
/-- a def as it stands, with its place and how it binds -/
structure Df (K : PySem.W.Frag) (mg : Str → Option Value) (x : String) (st : Stmt) (ps : List Str) (f : Addr) (fd : FuncData) : Prop where
  F : Fun K x x st f fd
  b : Binds K fd ps []
  m : mg x = some (.ref f)
theorem Df.kp {K : PySem.W.Frag} {mg : Str → Option Value} {x : String} {st : Stmt} {ps : List Str} {f : Addr} {fd : FuncData} (D : Df K mg x st ps f fd) : PySem.W.keepIn K (.ref f) = true := D.F.kp

section
variable {X : Cx} {x : Str} {pos : Pos}
/-- a module's int, text -/
theorem pe_gi {i : Int} (hm : ∃ t, X.mg x = some (.int i t)) (hg : Gl X x := by rfl) (hd : (x == ("__debug__" : Str)) = false := by decide) : PE X (.Name x pos) (tC (.int i)) := by
  obtain ⟨t, e⟩ := hm
  exact pe_glob hg e ⟨_, rfl⟩ hd
theorem pe_gs {i : Str} (hm : ∃ t, X.mg x = some (.str i t)) (hg : Gl X x := by rfl) (hd : (x == ("__debug__" : Str)) = false := by decide) : PE X (.Name x pos) (tC (.str i)) := by
  obtain ⟨t, e⟩ := hm
  exact pe_glob hg e ⟨_, rfl⟩ hd
theorem pe_gr {a : Addr} (hm : X.mg x = some (.ref a)) (hg : Gl X x := by rfl) (hd : (x == ("__debug__" : Str)) = false := by decide) : PE X (.Name x pos) (tC (.ref a)) := pe_glob hg hm rfl hd
end
theorem int_inj {i j : Int} (h : decide (V.int i = V.int j) = true) : i = j := by
  have := of_decide_eq_true h
  injection this
theorem int_ne {i j : Int} (h : ¬ decide (V.int i = V.int j) = true) : i ≠ j := fun e => h (decide_eq_true (by rw [e]))

/-- a test whose answer is known -/
theorem ifT {c : Bool} {A B : Prop} (e : c = true) (h : A) : if c = true then A else B := by rw [if_pos e]; exact h
theorem ifF {c : Bool} {A B : Prop} (e : c = false) (h : B) : if c = true then A else B := by rw [e, if_neg Bool.false_ne_true]; exact h

/-! ### heaps -/
theorem same_new {H : Hp} {p : Addr} (h : H p = none) (o : HO) : Same H (upd H p o) := fun b u q => by rw [upd_ne (ne_of_none q h)]; exact q
theorem small {n : Nat} (h : n ≤ 1000) : n ≤ sizeLine := Nat.le_of_lt (small1000 h)
theorem small7 {n : Nat} (h : n ≤ 10000000) : n ≤ sizeLine := by rw [sizeLine_eq]; omega
end K5
/-! K5, walks 1: is_prime, size_of, is_field. -/
namespace K5
open PySem PySem.Spec PyProof.Rows L2
abbrev sPrime : Stmt := topS 10
abbrev sSize : Stmt := topS 11
abbrev sField : Stmt := topS 12
def spPrime : Sp := fun vs H Q _ => ∃ n : Int, vs = [.int n] ∧ 0 ≤ n ∧ n ≤ 1000000 ∧ Q (.bl (isPr n)) H
theorem scPrime : FnScope ["number", "divisor"] ["number"] (defScope sPrime) := ⟨rfl, rfl, rfl, by decide +kernel, rfl, by decide +kernel, by decide +kernel⟩
theorem prGo_hit {n f d : Nat} (h1 : d * d ≤ n) (h2 : n % d = 0) (hf : 0 < f) : prGo n f d = false := by
  cases f with
  | zero => omega
  | succ f => unfold prGo; rw [if_pos h1, if_pos h2]
theorem prGo_step {n f d : Nat} (h1 : d * d ≤ n) (h2 : n % d ≠ 0) : prGo n (f + 1) d = prGo n f (d + 1) := by
  rw [prGo, if_pos h1, if_neg h2]
theorem prGo_end {n f d : Nat} (h1 : n < d * d) : prGo n f d = true := by
  cases f with
  | zero => rfl
  | succ f => unfold prGo; rw [if_neg (by omega)]
def wPrime (m : Nat) (H : Hp) : Nat → L2.St → Hp → Prop := fun k σ H' => ∃ d f : Nat, σ = [some (.int m), some (.int d)] ∧ H' = H ∧ 2 ≤ d ∧ f + d = m + 4 ∧ prGo m f d = prGo m (m + 2) 2 ∧ k = f
section
variable {P : Program} {w : World} {K : PySem.W.Frag} {mg : Str → Option Value} {base : Heap}
theorem ok_prime {f : Addr} {fd : FuncData} (F : Fun K "is_prime" "is_prime" sPrime f fd) : FnOk P w K mg base CX0 1 f fd ["number"] spPrime := by
  refine F.ok scPrime (fun vs H Q E h => ?_) (fun cdv A outer s H vs Q E hr h => ?_)
  · obtain ⟨n, rfl, _⟩ := h
    rfl
  obtain ⟨n, rfl, h0, h1, q⟩ := h
  refine ⟨_, pss_cons (ps_set (i := 1) scPrime.nd rfl (.inl rfl) pe_int)
    (pss_cons (ps_while PassesOwn.never (pt_cmpR op_le (pe_op op_mul (pv 1) (pv 1)) (pv 0) (nomark _))
      (pss_cons (ps_if (pt_cmpR op_eq (pe_op op_mod (pv 0) (pv 1)) pe_int (nomark _)) (pss_one (ps_ret pe_bl)) pss_nil)
        (pss_one (ps_aug (i := 1) scPrime.nd rfl (.inl rfl) pe_int ip_add))))
    (pss_one (ps_ret (pe_cmpR op_gt (pv 0) pe_int (nomark _))))), ?_⟩
  obtain ⟨m, rfl⟩ : ∃ m : Nat, n = (m : Int) := ⟨n.toNat, by omega⟩
  have hm : isPr (m : Int) = (prGo m (m + 2) 2 && decide ((1 : Int) < m)) := rfl
  refine ⟨wPrime m H, ⟨m + 2, 2, m + 2, rfl, rfl, by decide, rfl, rfl, rfl⟩, fun k σ H' hw => ?_⟩
  have hw0 := hw
  obtain ⟨d, _, rfl, rfl, h2, h3, h4, rfl⟩ := hw
  have hmul : ((d : Int) * (d : Int)) = ((d * d : Nat) : Int) := (Int.natCast_mul d d).symm
  refine ⟨_, rfl, _, rfl, _, _, rfl, rfl, .inl ⟨by omega, by omega⟩, _, rfl, _, _, rfl, rfl, _, rfl, ?_⟩
  refine ite2 (fun c => ?_) (fun c => ?_)
  · have c' := of_decide_eq_true c
    rw [hmul] at c'
    have c2 : d * d ≤ m := by omega
    have c3 : d ≤ m := Nat.le_trans (Nat.le_mul_self d) c2
    refine ⟨_, fun _ _ h => h, ?_⟩
    refine ⟨_, rfl, _, rfl, _, _, rfl, rfl, (by omega), rfl, _, rfl, ?_⟩
    refine ite2 (fun e => ?_) (fun e => ?_)
    · have e' : V.int ((m : Int) % d) = V.int 0 := of_decide_eq_true e
      injection e' with e'
      have e2 : m % d = 0 := by omega
      have := prGo_hit c2 e2 (f := k) (by omega)
      show Q (.bl false) H'
      rw [hm, ← h4, this] at q
      exact q
    · have e' : ¬ V.int ((m : Int) % d) = V.int 0 := of_decide_eq_false (Bool.eq_false_iff.mpr e)
      have e2 : m % d ≠ 0 := fun z => e' (by rw [show (m : Int) % d = 0 by omega])
      refine ⟨_, rfl, _, _, rfl, rfl, ?_⟩
      obtain ⟨f', rfl⟩ : ∃ f', k = f' + 1 := ⟨k - 1, by omega⟩
      exact ⟨f', by omega, d + 1, f', rfl, rfl, by omega, by omega, by rw [← h4, prGo_step c2 e2], rfl⟩
  · have c' := of_decide_eq_false (Bool.eq_false_iff.mpr c)
    rw [hmul] at c'
    have := prGo_end (n := m) (f := k) (d := d) (by omega)
    refine ⟨_, rfl, _, _, rfl, rfl, ?_⟩
    rw [hm, ← h4, this] at q
    exact q

def spSize : Sp := fun vs H Q _ => ∃ p k : Int, vs = [.int p, .int k] ∧ (0 ≤ p ∧ p ≤ 1000000) ∧ (0 ≤ k ∧ k ≤ 1000) ∧ Q (.int (p ^ k.toNat)) H
theorem scSize : FnScope ["prime", "degree", "size", "_"] ["prime", "degree"] (defScope sSize) := ⟨rfl, rfl, rfl, by decide +kernel, rfl, by decide +kernel, by decide +kernel⟩
theorem ok_size {f : Addr} {fd : FuncData} (B : Bl mg) (F : Fun K "size_of" "size_of" sSize f fd) : FnOk P w K mg base CX0 1 f fd ["prime", "degree"] spSize := by
  refine F.ok scSize (fun vs H Q E h => ?_) (fun cdv A outer s H vs Q E hr h => ?_)
  · obtain ⟨p, k, rfl, _⟩ := h
    rfl
  obtain ⟨p, k, rfl, hp, hk, q⟩ := h
  refine ⟨_, pss_cons (ps_set (i := 2) scSize.nd rfl (.inl rfl) pe_int)
    (pss_cons (ps_for PassesOwn.never rfl (pi_range1 rfl B.range (pa_cons (pv 1) pa_nil)) (pg_name (i := 3) scSize.nd rfl (.inl rfl))
      (pss_one (ps_aug (i := 2) scSize.nd rfl (.inl rfl) (pv 0) (iop_mul (X := Cx.nox _)))))
    (pss_one (ps_ret (pv 2)))), ?_⟩
  refine ⟨_, rfl, k, rfl, by omega, by omega, for_range (lo := 0) (n := k.toNat) (fun i σ H' => ∃ v, σ = [some (.int p), some (.int k), some (.int (p ^ i)), v] ∧ H' = H) ⟨none, by rw [Int.pow_zero]; rfl, rfl⟩ ?_ ?_⟩
  · rintro i σ H' hi ⟨v, rfl, rfl⟩
    exact ⟨_, rfl, _, rfl, _, _, rfl, rfl, .inr ⟨by omega, by omega⟩, some (.int (0 + i)), by rw [Int.pow_succ]; rfl, rfl⟩
  · rintro σ H' ⟨v, rfl, rfl⟩
    exact ⟨_, rfl, q⟩

def spField : Sp := fun vs H Q _ => ∃ p k : Int, vs = [.int p, .int k] ∧ (0 ≤ p ∧ p ≤ 1000000) ∧ (0 ≤ k ∧ k ≤ 1000) ∧ Q (.bl (isFld p k)) H
theorem scField : FnScope ["prime", "degree"] ["prime", "degree"] (defScope sField) := ⟨rfl, rfl, rfl, by decide +kernel, rfl, by decide +kernel, by decide +kernel⟩
theorem ok_field {f f1 f2 : Addr} {fd fd1 fd2 : FuncData} (C : Ct mg) (F : Fun K "is_field" "is_field" sField f fd) (D1 : Df K mg "is_prime" sPrime ["number"] f1 fd1) (G1 : FnOk P w K mg base CX0 1 f1 fd1 ["number"] spPrime)
    (D2 : Df K mg "size_of" sSize ["prime", "degree"] f2 fd2) (G2 : FnOk P w K mg base CX0 1 f2 fd2 ["prime", "degree"] spSize) : FnOk P w K mg base CX0 2 f fd ["prime", "degree"] spField := by
  refine F.ok scField (fun vs H Q E h => ?_) (fun cdv A outer s H vs Q E hr h => ?_)
  · obtain ⟨p, k, rfl, _⟩ := h
    rfl
  obtain ⟨p, k, rfl, hp, hk, q⟩ := h
  refine ⟨_, pss_cons (ps_if (pt_cmpR op_eq (pv 1) pe_int (nomark _)) (pss_one (ps_ret (pe_and (pe_cmpR op_le (pv 0) (pe_gi C.mp) (nomark _)) (pe_one (pe_call G1 hr rfl D1.m D1.kp D1.b .nil pass0 (pa_cons (pv 0) pa_nil)))))) pss_nil)
    (pss_cons (ps_if (PW.pt (pw_or (pt_not (pt_chain op_le op_le pe_int (pv 1) (pe_gi C.md))) (pw_or1 (pt_not (pt_chain op_le op_le pe_int (pv 0) (pe_gi C.mb)))))) (pss_one (ps_ret pe_bl)) pss_nil)
    (pss_one (ps_ret (pe_and (pe_call G1 hr rfl D1.m D1.kp D1.b .nil pass0 (pa_cons (pv 0) pa_nil)) (pe_one (pe_cmpR op_le (pe_call G2 hr rfl D2.m D2.kp D2.b .nil pass0 (pa_cons (pv 0) (pa_cons (pv 1) pa_nil))) (pe_gi C.ms) (nomark _))))))), ?_⟩
  refine ⟨_, rfl, rfl, _, rfl, ?_⟩
  refine ite2 (fun c => ?_) (fun c => ?_)
  · have c' : k = 1 := int_inj c
    subst c'
    have e : isFld p 1 = (decide (p ≤ 1000000) && isPr p) := if_pos rfl
    rw [e, decide_eq_true hp.2, Bool.true_and] at q
    refine ⟨_, rfl, _, _, rfl, rfl, _, rfl, ?_⟩
    refine ite2 (fun a => ?_) (fun a => ?_)
    · exact ⟨_, rfl, p, rfl, hp.1, hp.2, q⟩
    · exact absurd (decide_eq_true hp.2) a
  · have c2 : ¬ k = 1 := int_ne c
    unfold isFld at q
    rw [if_neg c2] at q
    by_cases a1 : 2 ≤ k
    · refine ⟨_, rfl, _, _, rfl, rfl, _, rfl, ifT (decide_eq_true a1) ⟨_, _, rfl, rfl, _, rfl, ?_⟩⟩
      by_cases a2 : k ≤ 12
      · refine ifF (c := !decide (k ≤ 12)) (by rw [decide_eq_true a2]; rfl) ?_
        by_cases b1 : 2 ≤ p
        · refine ⟨_, rfl, _, _, rfl, rfl, _, rfl, ifT (decide_eq_true b1) ⟨_, _, rfl, rfl, _, rfl, ?_⟩⟩
          by_cases b2 : p ≤ 97
          · refine ifF (c := !decide (p ≤ 97)) (by rw [decide_eq_true b2]; rfl) ?_
            rw [if_pos ⟨⟨a1, a2⟩, b1, b2⟩] at q
            refine ⟨_, rfl, p, rfl, hp.1, hp.2, _, rfl, ?_⟩
            by_cases e : isPr p = true
            · refine ifT e ?_
              rw [e, Bool.true_and] at q
              exact ⟨_, rfl, _, rfl, p, k, rfl, hp, hk, _, _, rfl, rfl, q⟩
            · have e' : isPr p = false := Bool.eq_false_iff.mpr e
              refine ifF e' ?_
              rw [e', Bool.false_and] at q
              exact q
          · rw [if_neg (fun z => b2 z.2.2)] at q
            exact ifT (c := !decide (p ≤ 97)) (by rw [decide_eq_false b2]; rfl) q
        · rw [if_neg (fun z => b1 z.2.1)] at q
          exact ⟨_, rfl, _, _, rfl, rfl, _, rfl, ifF (decide_eq_false b1) ⟨_, rfl, q⟩⟩
      · rw [if_neg (fun z => a2 z.1.2)] at q
        exact ifT (c := !decide (k ≤ 12)) (by rw [decide_eq_false a2]; rfl) q
    · rw [if_neg (fun z => a1 z.1.1)] at q
      exact ⟨_, rfl, _, _, rfl, rfl, _, rfl, ifF (decide_eq_false a1) ⟨_, rfl, q⟩⟩
end
end K5
/-! K5, walks: sorted of a tuple of ints; written dicts. -/
namespace K5
open PySem PySem.Spec PyProof.Rows L2
section
variable {prog : Program} {w : World} {A : Around} {E : Value → Shared → Prop} {s : Shared}
/-- sorted of a tuple: its items are gathered (h': all objects kept), a list of them is laid and sorted in place -/
theorem sorted_tupRaw {t : Addr} {o : Obj} {n : Nat} {vs : List Value} {ns : List Int} {Q : Value → Shared → Prop} (ho : s.heap.get? t = some o) (hc : o.cls = .type "tuple") (hd : o.data = .seq vs.toArray n) (hI : IntsAre vs ns) (h64 : vs.length < 64)
    (h : ∀ (h' : Heap) (out : Array Value) (ns' : List Int), (∀ b u, s.heap.get? b = some u → h'.get? b = some u) → (h'.push (seqObj "list" vs.toArray 0)).get? h'.objs.size = some (seqObj "list" vs.toArray 0) →
      IntsAre out.toList ns' → ns'.Perm ns → ns'.Pairwise (· ≤ ·) → Q (.ref h'.objs.size) { s with heap := sortedHeap (h'.push (seqObj "list" vs.toArray 0)) h'.objs.size vs out }) :
    wpAny (model prog w) A (call (.builtin "sorted") [.ref t]) Q E s := by
  refine Calls.call_function_entry kind_sorted plain_sorted entry_sorted (args_sorted1 _) ?_
  unfold Builtin.«sorted»
  refine wpAny_bind (m := checkCount "sorted" 1 1 _) (wpAny_pure (wpAny_bind (wpAny_collect_seq t (.inr rfl) ho hc hd (fun h' hk => ?_) (by rw [List.size_toArray]; exact small64 h64))))
  rw [show vs.toArray.toList = vs by simp]
  have hL : (h'.push (seqObj "list" vs.toArray 0)).get? h'.objs.size = some (seqObj "list" vs.toArray 0) := Heap.get?_push_size _ rfl
  refine wpAny_bind (wpAny_newList (wpAny_bind (wpAny_holding ?_)))
  show wpAny _ _ _ _ _ { s with heap := h'.push (seqObj "list" vs.toArray 0) }
  exact wpAny_call_entry slot_list_sort ⟨_, hL, rfl⟩ entry_list_sort (list_sort_tree hL hI h64 fun out ns' a1 a2 a3 => ⟨_, rfl, wpAny_pure ⟨_, rfl, h h' out ns' hk hL a1 a2 a3⟩⟩) (args_list_sort _)
end
section
variable {X : Cx}
/-- sorted(t), t a tuple or a list of ints -/
def rSortedS2 (K : PySem.W.Frag) : List V → Hp → VK → Prop := fun vs H Q => ∃ (a : Addr) (ns : List Int), vs = [V.ref a] ∧ (SqT K H a (ns.map V.int) ∨ SqL K H a (ns.map V.int)) ∧ ns.length < 64 ∧
  ∀ (ns' : List Int) (p : Addr), ns'.Perm ns → ns'.Pairwise (· ≤ ·) → H p = none → Q (.ref p) (upd H p (.lst (ns'.map V.int)))
theorem cr_sorted2 : CallR X (.builtin "sorted") (rSortedS2 X.K) := by
  intro pins s σ H vs us Q I r h
  obtain ⟨a, ns, rfl, hs, h64, q⟩ := h
  rcases hs with hs | hs
  · obtain ⟨its, rv, ⟨o, ho, hc, n, hd⟩, _⟩ := I.tuple hs
    rw [Vals.ref1 r]
    have hi := rv.ints
    refine sorted_tupRaw ho hc hd hi (by rw [hi.length]; exact h64) fun h' out ns' hk hL h1 h2 h3 => ?_
    have I1 : Inv X pins σ H { s with heap := h', toks := s.toks } := I.kept hk
    obtain ⟨ep, he'⟩ := PyProof.Rows.sortedHeap_at (vs := its) (out := out) hL
    have hlen : (ns'.map V.int).length ≤ sizeLine := by rw [List.length_map, h2.length_eq]; exact small64 h64
    refine ⟨.ref _, upd H h'.objs.size (.lst (ns'.map V.int)), I1.laid (t' := s.toks) (fun b u hb => ?_) (Nat.le_refl _) ⟨hlen, out.toList, ep, vals_of_ints h1, he'⟩, rfl, q ns' _ h2 h3 (I1.hok.fresh (Nat.le_refl _))⟩
    have hlt := Heap.lt_size hb
    rw [PyProof.Rows.sortedHeap_old (Nat.ne_of_lt hlt) (by rw [PyProof.Rows.size_push']; exact Nat.lt_succ_of_lt hlt)]
    exact Heap.get?_push_of_some _ hb
  · exact cr_sorted pins s σ H _ us Q I r ⟨a, ns, rfl, hs, h64, q⟩
end
end K5
/-! K5, part D: trees on the heap; their data for == and !=. -/
namespace K5
open PySem PySem.Spec PyProof.Rows L2

def RowsAt (H : Hp) : List V → List (List Int) → Prop := Paired fun v row => ∃ a, v = V.ref a ∧ H a = some (.tup (row.map V.int))
/-- the tree stands at v; the rows of a listed one in a tuple, or in a list at an address that L lets -/
def TreeAt (H : Hp) (L : Addr → Prop) : T → V → Prop
  | .listed rows, v => ∃ a r rs, v = .ref a ∧ H a = some (.tup [.str (ws "listed"), .ref r]) ∧ (H r = some (.tup rs) ∨ (L r ∧ H r = some (.lst rs))) ∧ RowsAt H rs rows
  | .sum n a b, v => ∃ p, v = .ref p ∧ H p = some (.tup [.str (ws "sum"), .int n, .int a, .int b])
  | .field n a b, v => ∃ p, v = .ref p ∧ H p = some (.tup [.str (ws "field"), .int n, .int a, .int b])
  | .product s t, v => ∃ p x y, v = .ref p ∧ H p = some (.tup [.str (ws "product"), x, y]) ∧ TreeAt H L s x ∧ TreeAt H L t y
  | .turned s pl, v => ∃ p x q, v = .ref p ∧ H p = some (.tup [.str (ws "turned"), x, .ref q]) ∧ TreeAt H L s x ∧ H q = some (.tup (pl.map V.int))
  | .bad s, v => ∃ p x, v = .ref p ∧ H p = some (.tup [.str (ws "product"), x]) ∧ TreeAt H L s x
abbrev no : Addr → Prop := fun _ => False
theorem RowsAt.mono {H H' : Hp} (ht : ∀ b xs, H b = some (.tup xs) → H' b = some (.tup xs)) : ∀ {rs : List V} {rows : List (List Int)}, RowsAt H rs rows → RowsAt H' rs rows
  | _, _, .nil => .nil
  | _, _, .cons ⟨a, e, h⟩ r => .cons ⟨a, e, ht _ _ h⟩ (RowsAt.mono ht r)
theorem TreeAt.mono {H H' : Hp} {L L' : Addr → Prop} (ht : ∀ b xs, H b = some (.tup xs) → H' b = some (.tup xs)) (hl : ∀ b xs, L b → H b = some (.lst xs) → L' b ∧ H' b = some (.lst xs)) : ∀ {t : T} {v : V}, TreeAt H L t v → TreeAt H' L' t v
  | .listed rows, v, ⟨a, r, rs, e, h1, h2, h3⟩ => ⟨a, r, rs, e, ht _ _ h1, h2.imp (ht _ _) (fun z => hl _ _ z.1 z.2), h3.mono ht⟩
  | .sum .., v, ⟨p, e, h⟩ => ⟨p, e, ht _ _ h⟩
  | .field .., v, ⟨p, e, h⟩ => ⟨p, e, ht _ _ h⟩
  | .product s t, v, ⟨p, x, y, e, h, h1, h2⟩ => ⟨p, x, y, e, ht _ _ h, h1.mono ht hl, h2.mono ht hl⟩
  | .turned s pl, v, ⟨p, x, q, e, h, h1, h2⟩ => ⟨p, x, q, e, ht _ _ h, h1.mono ht hl, ht _ _ h2⟩
  | .bad s, v, ⟨p, x, e, h, h1⟩ => ⟨p, x, e, ht _ _ h, h1.mono ht hl⟩
theorem TreeAt.same {H H' : Hp} {L : Addr → Prop} (s : Same H H') {t : T} {v : V} (h : TreeAt H L t v) : TreeAt H' L t v := h.mono (fun _ _ => s _ _) fun b xs hb q => ⟨hb, s _ _ q⟩
theorem TreeAt.weak {H : Hp} {L L' : Addr → Prop} (hl : ∀ b, L b → L' b) {t : T} {v : V} (h : TreeAt H L t v) : TreeAt H L' t v := h.mono (fun _ _ q => q) fun b xs hb q => ⟨hl b hb, q⟩
theorem TreeAt.ofNo {H : Hp} {L : Addr → Prop} {t : T} {v : V} (h : TreeAt H no t v) : TreeAt H L t v := h.weak fun _ z => z.elim

/-! ### as data -/
def rowD (r : List Int) : PyData := .tuple (r.map PyData.int)
def dat : T → PyData
  | .listed rows => .tuple [.str (ws "listed"), .tuple (rows.map rowD)]
  | .sum n a b => .tuple [.str (ws "sum"), .int n, .int a, .int b]
  | .field n a b => .tuple [.str (ws "field"), .int n, .int a, .int b]
  | .product s t => .tuple [.str (ws "product"), dat s, dat t]
  | .turned s pl => .tuple [.str (ws "turned"), dat s, rowD pl]
  | .bad s => .tuple [.str (ws "product"), dat s]
section
variable {K : PySem.W.Frag} {H : Hp}
theorem dpInts : ∀ r : List Int, DpAll K H (r.map V.int) (r.map PyData.int)
  | [] => .nil
  | i :: r => .cons (.int i) (dpInts r)
theorem dpRow {a : Addr} {r : List Int} (h : H a = some (.tup (r.map V.int))) : Dp K H (.ref a) (rowD r) := .tup (SqT.of h) (dpInts r)
theorem dpLst {a : Addr} {r : List Int} (h : H a = some (.lst (r.map V.int))) : Dp K H (.ref a) (.list (r.map PyData.int)) := .lst (SqL.of h) (dpInts r)
theorem dpRows : ∀ {rs : List V} {rows : List (List Int)}, RowsAt H rs rows → DpAll K H rs (rows.map rowD)
  | _, _, .nil => .nil
  | _, _, .cons ⟨a, e, h⟩ r => by subst e; exact .cons (dpRow h) (dpRows r)
theorem dpTree : ∀ {t : T} {v : V}, TreeAt H no t v → Dp K H v (dat t)
  | .listed rows, v, ⟨a, r, rs, e, h1, h2, h3⟩ => by
    subst e
    rcases h2 with h2 | ⟨z, _⟩
    · exact .tup (SqT.of h1) (.cons (.str _) (.cons (.tup (SqT.of h2) (dpRows h3)) .nil))
    · exact z.elim
  | .sum .., v, ⟨p, e, h⟩ => by subst e; exact .tup (SqT.of h) (.cons (.str _) (.cons (.int _) (.cons (.int _) (.cons (.int _) .nil))))
  | .field .., v, ⟨p, e, h⟩ => by subst e; exact .tup (SqT.of h) (.cons (.str _) (.cons (.int _) (.cons (.int _) (.cons (.int _) .nil))))
  | .product s t, v, ⟨p, x, y, e, h, h1, h2⟩ => by subst e; exact .tup (SqT.of h) (.cons (.str _) (.cons (dpTree h1) (.cons (dpTree h2) .nil)))
  | .turned s pl, v, ⟨p, x, q, e, h, h1, h2⟩ => by subst e; exact .tup (SqT.of h) (.cons (.str _) (.cons (dpTree h1) (.cons (dpRow h2) .nil)))
  | .bad s, v, ⟨p, x, e, h, h1⟩ => by subst e; exact .tup (SqT.of h) (.cons (.str _) (.cons (dpTree h1) .nil))
end
theorem canInts : ∀ r : List Int, PyData.canLayAll0 (r.map PyData.int) = true
  | [] => rfl
  | _ :: r => canInts r
theorem canRows : ∀ rows : List (List Int), PyData.canLayAll0 (rows.map rowD) = true
  | [] => rfl
  | r :: rows => by
    show (PyData.canLayAll0 (r.map PyData.int) && PyData.canLayAll0 (rows.map rowD)) = true
    rw [canInts, canRows rows]
    rfl
theorem can3 {x : Str} {a b : PyData} (hx : PyData.canLay0 (.str x) = true) (ha : a.canLay0 = true) (hb : b.canLay0 = true) : PyData.canLay0 (.tuple [.str x, a, b]) = true := by
  show (PyData.canLay0 (.str x) && (a.canLay0 && (b.canLay0 && true))) = true
  rw [hx, ha, hb]
  rfl
theorem can2 {x : Str} {a : PyData} (hx : PyData.canLay0 (.str x) = true) (ha : a.canLay0 = true) : PyData.canLay0 (.tuple [.str x, a]) = true := by
  show (PyData.canLay0 (.str x) && (a.canLay0 && true)) = true
  rw [hx, ha]
  rfl
theorem canDat : ∀ t : T, (dat t).canLay0 = true
  | .listed rows => can2 (by decide +kernel) (canRows rows)
  | .sum .. => can3 (b := .int _) (by decide +kernel) rfl rfl
  | .field .. => can3 (b := .int _) (by decide +kernel) rfl rfl
  | .product s t => can3 (by decide +kernel) (canDat s) (canDat t)
  | .turned s pl => can3 (by decide +kernel) (canDat s) (canInts pl)
  | .bad s => can2 (by decide +kernel) (canDat s)
theorem depInts : ∀ r : List Int, PyData.depthAll (r.map PyData.int) = 0
  | [] => rfl
  | _ :: r => by
    show max 0 (PyData.depthAll (r.map PyData.int)) = 0
    rw [depInts r]
    rfl
theorem depRows : ∀ rows : List (List Int), PyData.depthAll (rows.map rowD) ≤ 1
  | [] => Nat.zero_le _
  | r :: rows => by
    show max (PyData.depthAll (r.map PyData.int) + 1) (PyData.depthAll (rows.map rowD)) ≤ 1
    rw [depInts]
    exact Nat.max_le.mpr ⟨Nat.le_refl _, depRows rows⟩
theorem depDat : ∀ t : T, Val t → (dat t).depth ≤ many t + 2
  | .listed rows, _ => by
    have := depRows rows
    show max 0 (max (PyData.depthAll (rows.map rowD) + 1) 0) + 1 ≤ 1 + 2
    omega
  | .sum .., _ => by
    show max 0 (max 0 (max 0 (max 0 0))) + 1 ≤ 3
    decide
  | .field .., _ => by
    show max 0 (max 0 (max 0 (max 0 0))) + 1 ≤ 3
    decide
  | .product s t, h => by
    have h1 := depDat s h.1
    have h2 := depDat t h.2
    show max 0 (max (dat s).depth (max (dat t).depth 0)) + 1 ≤ (1 + many s + many t) + 2
    omega
  | .turned s pl, h => by
    have h1 := depDat s h.1
    have h2 := depInts pl
    show max 0 (max (dat s).depth (max (PyData.depthAll (pl.map PyData.int) + 1) 0)) + 1 ≤ (1 + many s) + 2
    omega
  | .bad s, h => h.elim
theorem shapedDat {t : T} (h : Val t) (hm : many t ≤ 12) : SeqAt.shaped (dat t) = true := by
  have h1 := depDat t h
  show ((dat t).canLay0 && decide ((dat t).depth ≤ 64)) = true
  rw [canDat, decide_eq_true (by omega)]
  rfl
theorem shapedInts (r : List Int) : SeqAt.shaped (.list (r.map PyData.int)) = true := by
  show (PyData.canLayAll0 (r.map PyData.int) && decide (PyData.depthAll (r.map PyData.int) + 1 ≤ 64)) = true
  rw [canInts, depInts]
  rfl
theorem eqvInts : ∀ a b : List Int, PyData.eqvAll (a.map PyData.int) (b.map PyData.int) = decide (a = b)
  | [], [] => rfl
  | [], _ :: _ => rfl
  | _ :: _, [] => rfl
  | x :: a, y :: b => by
    show ((x == y) && PyData.eqvAll (a.map PyData.int) (b.map PyData.int)) = _
    rw [eqvInts a b]
    by_cases h : x = y
    · subst h
      by_cases h2 : a = b
      · subst h2; simp
      · rw [decide_eq_false h2, decide_eq_false (fun z => h2 (List.cons.inj z).2)]; simp
    · rw [decide_eq_false (p := x :: a = y :: b) (fun z => h (List.cons.inj z).1), beq_eq_false_iff_ne.mpr h]
      rfl
theorem eqvIntsL (a b : List Int) : PyData.eqv (.list (a.map PyData.int)) (.list (b.map PyData.int)) = decide (a = b) := eqvInts a b
theorem sorted_is {a b r : List Int} (h1 : a.Perm r) (h2 : a.Pairwise (· ≤ ·)) (hb : b.Pairwise (· ≤ ·)) : (a = b) ↔ r.Perm b := by
  constructor
  · intro e
    subst e
    exact h1.symm
  · intro p
    exact (h1.trans p).eq_of_pairwise (le := (· ≤ ·)) (fun x y _ _ h1 h2 => Int.le_antisymm h1 h2) h2 hb
theorem rng_sorted (n : Nat) : (rng n).Pairwise (· ≤ ·) := by
  unfold rng
  refine List.pairwise_map.mpr ?_
  refine List.Pairwise.imp ?_ List.pairwise_lt_range
  intro a b h
  omega
end K5
/-! K5, walks 2: require, checked_rows. -/
namespace K5
open PySem PySem.Spec PyProof.Rows L2
abbrev sReq : Stmt := topS 21
abbrev sRows : Stmt := topS 22
/-- the error's class -/
structure Ex (K : PySem.W.Frag) (mg : Str → Option Value) (C : Addr) : Prop where
  gC : mg "InvalidSquare" = some (.ref C)
  xC : PySem.W.excIn K C [.type "ValueError", .type "Exception", .type "BaseException", .type "object"] "ValueError.__new__" = true
  kC : PySem.W.keepIn K (.ref C) = true
  bC : PySem.W.subIn K (.ref C) (.type "BaseException") = some true
  tC : PySem.W.typeIn K (.ref C) = some (.type "type")
def rTupT (K : PySem.W.Frag) : List V → Hp → VK → Prop := fun xs H Q => ∃ a ys, xs = [V.ref a] ∧ SqT K H a ys ∧ Q (V.ref a) H
theorem cr_tupT {X : Cx} : CallR X (.type "tuple") (rTupT X.K) := call_tupleT
def spReq (C : Addr) : Sp := fun vs H Q E => ∃ b : Bool, vs = [.bl b] ∧ (b = true → Q .non H) ∧ (b = false → E (.ref C) none H)
theorem scReq : FnScope ["holds"] ["holds"] (defScope sReq) := ⟨rfl, rfl, rfl, by decide +kernel, rfl, by decide +kernel, by decide +kernel⟩
theorem scRows : FnScope ["rows", "count", "signs", "row", "column"] ["rows"] (defScope sRows) := ⟨rfl, rfl, rfl, by decide +kernel, rfl, by decide +kernel, by decide +kernel⟩
theorem rgV_rng (n : Nat) : rgV 0 (n : Int) = (rng n).map V.int := by
  unfold rgV rng
  rw [List.map_map, show ((n : Int) - 0).toNat = n by omega]
  refine List.map_congr_left fun i _ => ?_
  show V.int (0 + (i : Int)) = V.int (i : Int)
  rw [Int.zero_add]
theorem RowsAt.at {H : Hp} : ∀ {rs : List V} {rows : List (List Int)}, RowsAt H rs rows → ∀ {i : Nat} {x : V}, rs[i]? = some x → ∃ row a, rows[i]? = some row ∧ x = .ref a ∧ H a = some (.tup (row.map V.int))
  | _, _, .nil, i, x, h => by simp at h
  | _, _, .cons ⟨a, e, h1⟩ r, 0, x, h => by
    have e2 := Option.some.inj h
    exact ⟨_, a, rfl, e2.symm.trans e, h1⟩
  | _, _, .cons _ r, i + 1, x, h => RowsAt.at r (i := i) (by simpa using h)
theorem take_snoc {α : Type} {l : List α} {i : Nat} {x : α} (h : l[i]? = some x) : l.take (i + 1) = l.take i ++ [x] := by
  rw [List.take_add_one, h]
  rfl
/-- what is asked of the rows' sizes -/
def WFr (rows : List (List Int)) : Prop := rows.length < 64 ∧ ∀ r ∈ rows, r.length < 64
def spRows (C : Addr) (b : Bool) : Sp := fun vs H Q E => ∃ (r : Addr) (rs : List V) (rows : List (List Int)), vs = [.ref r] ∧ (if b = true then H r = some (.lst rs) else H r = some (.tup rs)) ∧ RowsAt H rs rows ∧ WFr rows ∧
  (chkRows rows = true → ∀ (p : Addr) (H' : Hp) (rs' : List V), Same H H' → H' p = some (.tup rs') → RowsAt H' rs' rows → Q (.ref p) H') ∧ (chkRows rows = false → ∀ H', Same H H' → E (.ref C) none H')
def wRow (H : Hp) (r q : Addr) (rows : List (List Int)) : Nat → L2.St → Hp → Prop := fun i σ H' => ∃ v, σ = [some (.ref r), some (.int (rows.length : Nat)), some (.ref q), v, none] ∧ Same H H' ∧ ∀ row ∈ rows.take i, row.isPerm (rng rows.length) = true
def wCol (H : Hp) (r q : Addr) (rows : List (List Int)) : Nat → L2.St → Hp → Prop := fun i σ H' => ∃ v u, σ = [some (.ref r), some (.int (rows.length : Nat)), some (.ref q), v, u] ∧ Same H H' ∧ ∀ c, c < i → (colOf rows c).isPerm (rng rows.length) = true
theorem chkRows_iff {rows : List (List Int)} : chkRows rows = true ↔ (1 ≤ rows.length ∧ rows.length ≤ 12) ∧ (∀ row ∈ rows, row.isPerm (rng rows.length) = true) ∧ ∀ c, c < rows.length → (colOf rows c).isPerm (rng rows.length) = true := by
  unfold chkRows
  simp only [Bool.and_eq_true, decide_eq_true_eq, List.all_eq_true, List.mem_range]
theorem perm_dec {a ns : List Int} {n : Nat} (h1 : a.Perm ns) (h2 : a.Pairwise (· ≤ ·)) : decide (a = rng n) = ns.isPerm (rng n) := by
  by_cases h : a = rng n
  · rw [decide_eq_true h, List.isPerm_iff.mpr ((sorted_is h1 h2 (rng_sorted n)).mp h)]
  · rw [decide_eq_false h]
    cases e : ns.isPerm (rng n) with
    | false => rfl
    | true => exact absurd ((sorted_is h1 h2 (rng_sorted n)).mpr (List.isPerm_iff.mp e)) h
section
variable {P : Program} {w : World} {K : PySem.W.Frag} {mg : Str → Option Value} {base : Heap} {C : Addr}
theorem ok_req {f : Addr} {fd : FuncData} (X : Ex K mg C) (F : Fun K "require" "require" sReq f fd) : FnOk P w K mg base (L2.CX P w) 1 f fd ["holds"] (spReq C) := by
  refine F.okX scReq (fun vs H Q E h => ?_) (fun cdv A outer s H vs Q E hr h => ?_)
  · obtain ⟨b, rfl, _⟩ := h
    rfl
  obtain ⟨b, rfl, h1, h2⟩ := h
  refine ⟨_, pss_one (ps_if (pt_not (pt_val (pv 0))) (pss_one (ps_raise rfl (takes_of rfl rfl rfl rfl) (pmk_own PySem.F.excBase_ValueError X.xC X.gC X.kC (raises_own X.bC X.tC) rfl))) pss_nil), ?_⟩
  refine ⟨_, rfl, b, rfl, ?_⟩
  cases b with
  | true => exact ifF rfl (h1 rfl)
  | false => exact ifT rfl (h2 rfl)

theorem ok_rowsL {f fr : Addr} {fd fdr : FuncData} (B : Bl mg) (Cn : Ct mg) (F : Fun K "checked_rows" "checked_rows" sRows f fd) (D : Df K mg "require" sReq ["holds"] fr fdr) (G : FnOk P w K mg base (L2.CX P w) 1 fr fdr ["holds"] (spReq C)) :
    FnOk P w K mg base (L2.CX P w) 2 f fd ["rows"] (spRows C true) := by
  refine F.okX scRows (fun vs H Q E h => ?_) (fun cdv A outer s H vs Q E hr h => ?_)
  · obtain ⟨r, rs, rows, rfl, _⟩ := h
    rfl
  obtain ⟨r, rs, rows, rfl, hr0, hrows, hwf, k1, k2⟩ := h
  have hr1 : H r = some (.lst rs) := hr0
  have hlen : rs.length = rows.length := Paired.length hrows
  refine ⟨_, pss_cons (ps_set (i := 1) scRows.nd rfl (.inl rfl) (pe_callB call_len_seq rfl B.len PySem.boot_len (pa_cons (pv 0) pa_nil)))
    (pss_cons (ps_expr (pe_call G hr rfl D.m D.kp D.b .nil (passes_call (takes_of rfl rfl rfl rfl) (fun _ _ _ _ h => h)) (pa_cons (pe_chain op_le op_le pe_int (pv 1) (pe_gi Cn.ml)) pa_nil)))
    (pss_cons (ps_set (i := 2) scRows.nd rfl (.inl rfl) (pe_listRg rfl rfl B.list (prg_1 rfl B.range (pv 1))))
    (pss_cons (ps_for (passes_of rfl) rfl (pi_list (pv 0)) (pg_name (i := 3) scRows.nd rfl (.inl rfl))
      (pss_one (ps_expr (pe_call G hr rfl D.m D.kp D.b .nil (passes_call (takes_of rfl rfl rfl rfl) (fun _ _ _ _ h => h)) (pa_cons (pe_cmpR (op_eqD hr.units) (pe_callB cr_sorted2 rfl B.sorted PyProof.Rows.boot_sorted (pa_cons (pv 3) pa_nil)) (pv 2) (nomark _)) pa_nil)))))
    (pss_cons (ps_for (passes_of rfl) rfl (pi_range1 rfl B.range (pa_cons (pv 1) pa_nil)) (pg_name (i := 4) scRows.nd rfl (.inr rfl))
      (pss_one (ps_expr (pe_call G hr rfl D.m D.kp D.b .nil (passes_call (takes_of rfl rfl rfl rfl) (fun _ _ _ _ h => h)) (pa_cons (pe_cmpR (op_eqD hr.units)
        (pe_callB cr_sorted2 rfl B.sorted PyProof.Rows.boot_sorted (pa_cons (pe_lc (own := [("row", 3)]) (g := gName 3) (tt := tYes) rfl scRows.nd (pi_list (pv 0)) (blkOk_by (N := ["rows", "count", "signs", "row", "column"]) (sc := defScope sRows) (by decide +kernel))
          (fun _ _ _ _ _ => pg_name (i := 3) scRows.nd rfl (Or.inl rfl)) (fun _ _ _ _ _ => pts_nil) (te := tOp (rIxT K) (tVar 3) (tVar 4)) (fun _ _ _ _ _ => pe_ix ix_tup (pv 3) (pv 4) (fun _ _ => rfl))) pa_nil)) (pv 2) (nomark _)) pa_nil)))))
    (pss_one (ps_ret (pe_callTy call_tuple_of rfl B.tuple (by decide +kernel) (pa_cons (pe_lc (own := [("row", 3)]) (g := gName 3) (tt := tYes) rfl scRows.nd (pi_list (pv 0)) (blkOk_by (N := ["rows", "count", "signs", "row", "column"]) (sc := defScope sRows) (by decide +kernel))
          (fun _ _ _ _ _ => pg_name (i := 3) scRows.nd rfl (Or.inl rfl)) (fun _ _ _ _ _ => pts_nil) (te := tCB (rTupT K) (tCons (tVar 3) tNil)) (fun _ _ _ _ _ => pe_callTy (T := "tuple") cr_tupT rfl B.tuple (by decide +kernel) (pa_cons (pv 3) pa_nil))) pa_nil)))))))), ?_⟩
  refine ⟨_, rfl, r, rs, rfl, .inl (SqL.of hr1), ?_⟩
  have bad : ¬ (1 ≤ rows.length ∧ rows.length ≤ 12) → E (.ref C) none H := fun z => k2 (by
    cases e : chkRows rows with
    | false => rfl
    | true => exact absurd (chkRows_iff.mp e).1 z) H (Same.refl H)
  by_cases c1 : (1 : Int) ≤ (rs.length : Nat)
  case neg => exact ⟨_, rfl, _, _, rfl, rfl, _, rfl, ifF (decide_eq_false c1) ⟨_, rfl, fun z => (by cases z), fun _ => bad (by omega)⟩⟩
  refine ⟨_, rfl, _, _, rfl, rfl, _, rfl, ifT (decide_eq_true c1) ⟨_, _, rfl, rfl, _, rfl, fun z => ?_, fun z => bad (by have := of_decide_eq_false z; omega)⟩⟩
  have c2 := of_decide_eq_true z
  rw [hlen] at c1 c2
  refine ⟨_, rfl, _, rfl, .of_le (by omega) (by omega) (by omega) (by omega), fun q hq => ?_⟩
  have s1 := same_new hq (.lst (rgV 0 ((rs.length : Nat) : Int)))
  have eq1 : upd H q (.lst (rgV 0 ((rs.length : Nat) : Int))) q = some (.lst ((rng rows.length).map V.int)) := by rw [upd_same, hlen, rgV_rng]
  generalize upd H q (.lst (rgV 0 ((rs.length : Nat) : Int))) = H1 at s1 eq1
  -- the rows
  refine ⟨_, rfl, r, rfl, ⟨_, SqL.of (s1 _ _ hr1)⟩, for_list (xs := rs) (wRow H1 r q rows) ⟨none, by rw [hlen]; rfl, Same.refl _, fun row h => (by simp at h)⟩ (fun i σ H' _ ⟨_, _, s2, _⟩ => SqL.of (s2 _ _ (s1 _ _ hr1))) ?_ ?_⟩
  · rintro i x σ H' hx ⟨v, rfl, s2, hall⟩
    obtain ⟨row, a, hrow, rfl, ha⟩ := hrows.at hx
    have ha' := s2 _ _ (s1 _ _ ha)
    have hmem : row ∈ rows := List.mem_of_getElem? hrow
    refine ⟨_, rfl, a, row, rfl, .inl (SqT.of ha'), hwf.2 row hmem, fun ns' p hp1 hp2 hpn => ?_⟩
    have s3 := same_new hpn (.lst (ns'.map V.int))
    refine ⟨_, rfl, _, _, dpLst upd_same, dpLst (s3 _ _ (s2 _ _ eq1)), shapedInts _, shapedInts _, _, rfl, fun z => ?_, fun z => ?_⟩
    · rw [eqvIntsL, perm_dec hp1 hp2] at z
      refine ⟨some (.ref a), rfl, s2.trans s3, fun row' hm => ?_⟩
      rw [take_snoc hrow] at hm
      rcases List.mem_append.mp hm with hm | hm
      · exact hall _ hm
      · rcases List.mem_singleton.mp hm with rfl
        exact z
    · rw [eqvIntsL, perm_dec hp1 hp2] at z
      refine k2 ?_ _ (s1.trans (s2.trans s3))
      cases e : chkRows rows with
      | false => rfl
      | true =>
        rw [(chkRows_iff.mp e).2.1 row hmem] at z
        cases z
  rintro σ H2 ⟨v, rfl, s2, hall⟩
  rw [hlen, List.take_length] at hall
  -- the columns
  refine ⟨_, rfl, _, rfl, by omega, by omega, for_range (lo := 0) (n := ((rows.length : Nat) : Int).toNat) (wCol H2 r q rows) ⟨v, none, rfl, Same.refl _, fun c h => absurd h (Nat.not_lt_zero c)⟩ ?_ ?_⟩
  · rintro c σ H' hc ⟨v, u, rfl, s3, hcol⟩
    have hc' : c < rows.length := by omega
    refine ⟨_, rfl, r, rfl, ⟨_, SqL.of (s3 _ _ (s2 _ _ (s1 _ _ hr1)))⟩, fun Dl hD => lc_list (xs := rs) (fun j H4 => H4 = upd H' Dl (.lst (((rows.take j).map fun r => r.getD c 0).map V.int))) rfl ?_ ?_ ?_⟩
    · rintro j H4 _ rfl
      exact SqL.of (same_new hD _ _ _ (s3 _ _ (s2 _ _ (s1 _ _ hr1))))
    · rintro j x H4 hx rfl
      obtain ⟨row, a, hrow, rfl, ha⟩ := hrows.at hx
      have hmem : row ∈ rows := List.mem_of_getElem? hrow
      have hl := (List.isPerm_iff.mp (hall row hmem)).length_eq
      rw [rng_len] at hl
      have hca : c < row.length := by omega
      refine ⟨rfl, ?_⟩
      refine ⟨_, rfl, _, rfl, a, row.map V.int, 0 + (c : Int), .int (row.getD c 0), rfl, rfl, SqT.of (same_new hD _ _ _ (s3 _ _ (s2 _ _ (s1 _ _ ha)))), ?_, _, upd_same, ?_, ?_⟩
      · rw [Int.zero_add]
        refine atI_nat ?_
        rw [List.getElem?_map, List.getElem?_eq_getElem hca, List.getD_eq_getElem?_getD, List.getElem?_eq_getElem hca]
        rfl
      · rw [List.length_map, List.length_map, List.length_take]
        exact small1000 (by have := hwf.1; omega)
      · rw [upd_upd, take_snoc hrow, List.map_append, List.map_append]
        rfl
    · rintro H4 rfl
      rw [hlen, List.take_length]
      show ∃ (a : Addr) (ns : List Int), _
      have hcl : (colOf rows c).length = rows.length := List.length_map _
      refine ⟨Dl, colOf rows c, rfl, .inr (SqL.of upd_same), by have := hwf.1; omega, fun ns' p hp1 hp2 hpn => ?_⟩
      have s4 := same_new hD (.lst ((colOf rows c).map V.int))
      have s5 := same_new hpn (.lst (ns'.map V.int))
      refine ⟨_, rfl, _, _, dpLst upd_same, dpLst (s5 _ _ (s4 _ _ (s3 _ _ (s2 _ _ eq1)))), shapedInts _, shapedInts _, _, rfl, fun z => ?_, fun z => ?_⟩
      · rw [eqvIntsL, perm_dec hp1 hp2] at z
        refine ⟨v, some (.int (0 + (c : Int))), rfl, s3.trans (s4.trans s5), fun c' hc2 => ?_⟩
        rcases Nat.lt_or_ge c' c with hlt | hge
        · exact hcol c' hlt
        · have : c' = c := by omega
          subst this
          exact z
      · rw [eqvIntsL, perm_dec hp1 hp2] at z
        refine k2 ?_ _ (s1.trans (s2.trans (s3.trans (s4.trans s5))))
        cases e : chkRows rows with
        | false => rfl
        | true =>
          rw [(chkRows_iff.mp e).2.2 c hc'] at z
          cases z
  rintro σ H3 ⟨v, u, rfl, s3, hcol⟩
  rw [show ((rows.length : Nat) : Int).toNat = rows.length by omega] at hcol
  have s03 := s1.trans (s2.trans s3)
  -- tuple([tuple(row) for row in rows])
  refine ⟨_, rfl, r, rfl, ⟨_, SqL.of (s03 _ _ hr1)⟩, fun Dl hD => lc_list (xs := rs) (fun j H4 => H4 = upd H3 Dl (.lst (rs.take j))) rfl ?_ ?_ ?_⟩
  · rintro j H4 _ rfl
    exact SqL.of (same_new hD _ _ _ (s03 _ _ hr1))
  · rintro j x H4 hx rfl
    obtain ⟨row, a, hrow, rfl, ha⟩ := hrows.at hx
    refine ⟨rfl, ?_⟩
    refine ⟨_, rfl, a, row.map V.int, rfl, SqT.of (same_new hD _ _ _ (s03 _ _ ha)), _, upd_same, ?_, ?_⟩
    · rw [List.length_take]
      exact small1000 (by have := hwf.1; omega)
    · rw [upd_upd, take_snoc hx]
  · rintro H4 rfl
    rw [List.take_length]
    refine ⟨Dl, rs, rfl, .inl ⟨SqL.of upd_same, fun p hp => ?_⟩⟩
    have s6 := (s03.trans (same_new hD (.lst rs))).trans (same_new hp (.tup rs))
    exact k1 (chkRows_iff.mpr ⟨⟨by omega, by omega⟩, hall, hcol⟩) p _ rs s6 upd_same (hrows.mono fun b xs => s6 b _)

theorem ok_rowsT {f fr : Addr} {fd fdr : FuncData} (B : Bl mg) (Cn : Ct mg) (F : Fun K "checked_rows" "checked_rows" sRows f fd) (D : Df K mg "require" sReq ["holds"] fr fdr) (G : FnOk P w K mg base (L2.CX P w) 1 fr fdr ["holds"] (spReq C)) :
    FnOk P w K mg base (L2.CX P w) 2 f fd ["rows"] (spRows C false) := by
  refine F.okX scRows (fun vs H Q E h => ?_) (fun cdv A outer s H vs Q E hr h => ?_)
  · obtain ⟨r, rs, rows, rfl, _⟩ := h
    rfl
  obtain ⟨r, rs, rows, rfl, hr0, hrows, hwf, k1, k2⟩ := h
  have hr1 : H r = some (.tup rs) := hr0
  have hlen : rs.length = rows.length := Paired.length hrows
  refine ⟨_, pss_cons (ps_set (i := 1) scRows.nd rfl (.inl rfl) (pe_callB call_len_seq rfl B.len PySem.boot_len (pa_cons (pv 0) pa_nil)))
    (pss_cons (ps_expr (pe_call G hr rfl D.m D.kp D.b .nil (passes_call (takes_of rfl rfl rfl rfl) (fun _ _ _ _ h => h)) (pa_cons (pe_chain op_le op_le pe_int (pv 1) (pe_gi Cn.ml)) pa_nil)))
    (pss_cons (ps_set (i := 2) scRows.nd rfl (.inl rfl) (pe_listRg rfl rfl B.list (prg_1 rfl B.range (pv 1))))
    (pss_cons (ps_for (passes_of rfl) rfl (pi_tup (pv 0)) (pg_name (i := 3) scRows.nd rfl (.inl rfl))
      (pss_one (ps_expr (pe_call G hr rfl D.m D.kp D.b .nil (passes_call (takes_of rfl rfl rfl rfl) (fun _ _ _ _ h => h)) (pa_cons (pe_cmpR (op_eqD hr.units) (pe_callB cr_sorted2 rfl B.sorted PyProof.Rows.boot_sorted (pa_cons (pv 3) pa_nil)) (pv 2) (nomark _)) pa_nil)))))
    (pss_cons (ps_for (passes_of rfl) rfl (pi_range1 rfl B.range (pa_cons (pv 1) pa_nil)) (pg_name (i := 4) scRows.nd rfl (.inr rfl))
      (pss_one (ps_expr (pe_call G hr rfl D.m D.kp D.b .nil (passes_call (takes_of rfl rfl rfl rfl) (fun _ _ _ _ h => h)) (pa_cons (pe_cmpR (op_eqD hr.units)
        (pe_callB cr_sorted2 rfl B.sorted PyProof.Rows.boot_sorted (pa_cons (pe_lc (own := [("row", 3)]) (g := gName 3) (tt := tYes) rfl scRows.nd (pi_tup (pv 0)) (blkOk_by (N := ["rows", "count", "signs", "row", "column"]) (sc := defScope sRows) (by decide +kernel))
          (fun _ _ _ _ _ => pg_name (i := 3) scRows.nd rfl (Or.inl rfl)) (fun _ _ _ _ _ => pts_nil) (te := tOp (rIxT K) (tVar 3) (tVar 4)) (fun _ _ _ _ _ => pe_ix ix_tup (pv 3) (pv 4) (fun _ _ => rfl))) pa_nil)) (pv 2) (nomark _)) pa_nil)))))
    (pss_one (ps_ret (pe_callTy call_tuple_of rfl B.tuple (by decide +kernel) (pa_cons (pe_lc (own := [("row", 3)]) (g := gName 3) (tt := tYes) rfl scRows.nd (pi_tup (pv 0)) (blkOk_by (N := ["rows", "count", "signs", "row", "column"]) (sc := defScope sRows) (by decide +kernel))
          (fun _ _ _ _ _ => pg_name (i := 3) scRows.nd rfl (Or.inl rfl)) (fun _ _ _ _ _ => pts_nil) (te := tCB (rTupT K) (tCons (tVar 3) tNil)) (fun _ _ _ _ _ => pe_callTy (T := "tuple") cr_tupT rfl B.tuple (by decide +kernel) (pa_cons (pv 3) pa_nil))) pa_nil)))))))), ?_⟩
  refine ⟨_, rfl, r, rs, rfl, .inr (SqT.of hr1), ?_⟩
  have bad : ¬ (1 ≤ rows.length ∧ rows.length ≤ 12) → E (.ref C) none H := fun z => k2 (by
    cases e : chkRows rows with
    | false => rfl
    | true => exact absurd (chkRows_iff.mp e).1 z) H (Same.refl H)
  by_cases c1 : (1 : Int) ≤ (rs.length : Nat)
  case neg => exact ⟨_, rfl, _, _, rfl, rfl, _, rfl, ifF (decide_eq_false c1) ⟨_, rfl, fun z => (by cases z), fun _ => bad (by omega)⟩⟩
  refine ⟨_, rfl, _, _, rfl, rfl, _, rfl, ifT (decide_eq_true c1) ⟨_, _, rfl, rfl, _, rfl, fun z => ?_, fun z => bad (by have := of_decide_eq_false z; omega)⟩⟩
  have c2 := of_decide_eq_true z
  rw [hlen] at c1 c2
  refine ⟨_, rfl, _, rfl, .of_le (by omega) (by omega) (by omega) (by omega), fun q hq => ?_⟩
  have s1 := same_new hq (.lst (rgV 0 ((rs.length : Nat) : Int)))
  have eq1 : upd H q (.lst (rgV 0 ((rs.length : Nat) : Int))) q = some (.lst ((rng rows.length).map V.int)) := by rw [upd_same, hlen, rgV_rng]
  generalize upd H q (.lst (rgV 0 ((rs.length : Nat) : Int))) = H1 at s1 eq1
  -- the rows
  refine ⟨_, rfl, r, rfl, ⟨_, SqT.of (s1 _ _ hr1)⟩, for_tup (xs := rs) (wRow H1 r q rows) ⟨none, by rw [hlen]; rfl, Same.refl _, fun row h => (by simp at h)⟩ (fun i σ H' _ ⟨_, _, s2, _⟩ => SqT.of (s2 _ _ (s1 _ _ hr1))) ?_ ?_⟩
  · rintro i x σ H' hx ⟨v, rfl, s2, hall⟩
    obtain ⟨row, a, hrow, rfl, ha⟩ := hrows.at hx
    have ha' := s2 _ _ (s1 _ _ ha)
    have hmem : row ∈ rows := List.mem_of_getElem? hrow
    refine ⟨_, rfl, a, row, rfl, .inl (SqT.of ha'), hwf.2 row hmem, fun ns' p hp1 hp2 hpn => ?_⟩
    have s3 := same_new hpn (.lst (ns'.map V.int))
    refine ⟨_, rfl, _, _, dpLst upd_same, dpLst (s3 _ _ (s2 _ _ eq1)), shapedInts _, shapedInts _, _, rfl, fun z => ?_, fun z => ?_⟩
    · rw [eqvIntsL, perm_dec hp1 hp2] at z
      refine ⟨some (.ref a), rfl, s2.trans s3, fun row' hm => ?_⟩
      rw [take_snoc hrow] at hm
      rcases List.mem_append.mp hm with hm | hm
      · exact hall _ hm
      · rcases List.mem_singleton.mp hm with rfl
        exact z
    · rw [eqvIntsL, perm_dec hp1 hp2] at z
      refine k2 ?_ _ (s1.trans (s2.trans s3))
      cases e : chkRows rows with
      | false => rfl
      | true =>
        rw [(chkRows_iff.mp e).2.1 row hmem] at z
        cases z
  rintro σ H2 ⟨v, rfl, s2, hall⟩
  rw [hlen, List.take_length] at hall
  -- the columns
  refine ⟨_, rfl, _, rfl, by omega, by omega, for_range (lo := 0) (n := ((rows.length : Nat) : Int).toNat) (wCol H2 r q rows) ⟨v, none, rfl, Same.refl _, fun c h => absurd h (Nat.not_lt_zero c)⟩ ?_ ?_⟩
  · rintro c σ H' hc ⟨v, u, rfl, s3, hcol⟩
    have hc' : c < rows.length := by omega
    refine ⟨_, rfl, r, rfl, ⟨_, SqT.of (s3 _ _ (s2 _ _ (s1 _ _ hr1)))⟩, fun Dl hD => lc_tup (xs := rs) (fun j H4 => H4 = upd H' Dl (.lst (((rows.take j).map fun r => r.getD c 0).map V.int))) rfl ?_ ?_ ?_⟩
    · rintro j H4 _ rfl
      exact SqT.of (same_new hD _ _ _ (s3 _ _ (s2 _ _ (s1 _ _ hr1))))
    · rintro j x H4 hx rfl
      obtain ⟨row, a, hrow, rfl, ha⟩ := hrows.at hx
      have hmem : row ∈ rows := List.mem_of_getElem? hrow
      have hl := (List.isPerm_iff.mp (hall row hmem)).length_eq
      rw [rng_len] at hl
      have hca : c < row.length := by omega
      refine ⟨rfl, ?_⟩
      refine ⟨_, rfl, _, rfl, a, row.map V.int, 0 + (c : Int), .int (row.getD c 0), rfl, rfl, SqT.of (same_new hD _ _ _ (s3 _ _ (s2 _ _ (s1 _ _ ha)))), ?_, _, upd_same, ?_, ?_⟩
      · rw [Int.zero_add]
        refine atI_nat ?_
        rw [List.getElem?_map, List.getElem?_eq_getElem hca, List.getD_eq_getElem?_getD, List.getElem?_eq_getElem hca]
        rfl
      · rw [List.length_map, List.length_map, List.length_take]
        exact small1000 (by have := hwf.1; omega)
      · rw [upd_upd, take_snoc hrow, List.map_append, List.map_append]
        rfl
    · rintro H4 rfl
      rw [hlen, List.take_length]
      show ∃ (a : Addr) (ns : List Int), _
      have hcl : (colOf rows c).length = rows.length := List.length_map _
      refine ⟨Dl, colOf rows c, rfl, .inr (SqL.of upd_same), by have := hwf.1; omega, fun ns' p hp1 hp2 hpn => ?_⟩
      have s4 := same_new hD (.lst ((colOf rows c).map V.int))
      have s5 := same_new hpn (.lst (ns'.map V.int))
      refine ⟨_, rfl, _, _, dpLst upd_same, dpLst (s5 _ _ (s4 _ _ (s3 _ _ (s2 _ _ eq1)))), shapedInts _, shapedInts _, _, rfl, fun z => ?_, fun z => ?_⟩
      · rw [eqvIntsL, perm_dec hp1 hp2] at z
        refine ⟨v, some (.int (0 + (c : Int))), rfl, s3.trans (s4.trans s5), fun c' hc2 => ?_⟩
        rcases Nat.lt_or_ge c' c with hlt | hge
        · exact hcol c' hlt
        · have : c' = c := by omega
          subst this
          exact z
      · rw [eqvIntsL, perm_dec hp1 hp2] at z
        refine k2 ?_ _ (s1.trans (s2.trans (s3.trans (s4.trans s5))))
        cases e : chkRows rows with
        | false => rfl
        | true =>
          rw [(chkRows_iff.mp e).2.2 c hc'] at z
          cases z
  rintro σ H3 ⟨v, u, rfl, s3, hcol⟩
  rw [show ((rows.length : Nat) : Int).toNat = rows.length by omega] at hcol
  have s03 := s1.trans (s2.trans s3)
  -- tuple([tuple(row) for row in rows])
  refine ⟨_, rfl, r, rfl, ⟨_, SqT.of (s03 _ _ hr1)⟩, fun Dl hD => lc_tup (xs := rs) (fun j H4 => H4 = upd H3 Dl (.lst (rs.take j))) rfl ?_ ?_ ?_⟩
  · rintro j H4 _ rfl
    exact SqT.of (same_new hD _ _ _ (s03 _ _ hr1))
  · rintro j x H4 hx rfl
    obtain ⟨row, a, hrow, rfl, ha⟩ := hrows.at hx
    refine ⟨rfl, ?_⟩
    refine ⟨_, rfl, a, row.map V.int, rfl, SqT.of (same_new hD _ _ _ (s03 _ _ ha)), _, upd_same, ?_, ?_⟩
    · rw [List.length_take]
      exact small1000 (by have := hwf.1; omega)
    · rw [upd_upd, take_snoc hx]
  · rintro H4 rfl
    rw [List.take_length]
    refine ⟨Dl, rs, rfl, .inl ⟨SqL.of upd_same, fun p hp => ?_⟩⟩
    have s6 := (s03.trans (same_new hD (.lst rs))).trans (same_new hp (.tup rs))
    exact k1 (chkRows_iff.mpr ⟨⟨by omega, by omega⟩, hall, hcol⟩) p _ rs s6 upd_same (hrows.mono fun b xs => s6 b _)
end
end K5
/-! K5, walks 3: checked_leaf. -/
namespace K5
open PySem PySem.Spec PyProof.Rows L2
abbrev sLeaf : Stmt := topS 23
abbrev sPart : Stmt := topS 24
abbrev sChecked : Stmt := topS 25
/-! ### readings of what leaves the heap as it is -/
def Pu (t : TE) (σ : L2.St) (H : Hp) (v : V) : Prop := ∀ R : VK, R v H → t σ H R
section
variable {X : Cx} {a b c : Expr} {ta tb tc : TE} {pos : Pos} {rest : List Expr}
theorem PE.weak {e : Expr} {t t' : TE} (h : PE X e t) (w : ∀ σ H Q, t' σ H Q → t σ H Q) : PE X e t' := ⟨fun pins s σ H Q I z => h.run pins s σ H Q I (w _ _ _ z)⟩
/-- a <= b <= c -/
def tChainP (ta tb tc : TE) : TE := fun σ H Q => ∃ x y z : Int, Pu ta σ H (.int x) ∧ Pu tb σ H (.int y) ∧ Pu tc σ H (.int z) ∧ Q (.bl (decide (x ≤ y) && decide (y ≤ z))) H
theorem pe_chainP (ha : PE X a ta) (hb : PE X b tb) (hc : PE X c tc) (hm : lastMarks [.LtE, .LtE] [b, c] = false := by with_unfolding_all rfl) : PE X (.Compare a [.LtE, .LtE] [b, c] pos) (tChainP ta tb tc) := by
  refine PE.weak (pe_chain op_le op_le ha hb hc hm) fun σ H Q ⟨x, y, z, h1, h2, h3, q⟩ => ?_
  refine h1 _ (h2 _ ⟨_, _, rfl, rfl, _, rfl, ?_⟩)
  by_cases k : x ≤ y
  · rw [decide_eq_true k, Bool.true_and] at q
    exact ifT (decide_eq_true k) (h3 _ ⟨_, _, rfl, rfl, q⟩)
  · rw [decide_eq_false k, Bool.false_and] at q
    exact ifF (decide_eq_false k) q
/-- a <= b < c -/
def tChainQ (ta tb tc : TE) : TE := fun σ H Q => ∃ x y z : Int, Pu ta σ H (.int x) ∧ Pu tb σ H (.int y) ∧ Pu tc σ H (.int z) ∧ Q (.bl (decide (x ≤ y) && decide (y < z))) H
theorem pe_chainQ (ha : PE X a ta) (hb : PE X b tb) (hc : PE X c tc) (hm : lastMarks [.LtE, .Lt] [b, c] = false := by with_unfolding_all rfl) : PE X (.Compare a [.LtE, .Lt] [b, c] pos) (tChainQ ta tb tc) := by
  refine PE.weak (pe_chain op_le op_lt ha hb hc hm) fun σ H Q ⟨x, y, z, h1, h2, h3, q⟩ => ?_
  refine h1 _ (h2 _ ⟨_, _, rfl, rfl, _, rfl, ?_⟩)
  by_cases k : x ≤ y
  · rw [decide_eq_true k, Bool.true_and] at q
    exact ifT (decide_eq_true k) (h3 _ ⟨_, _, rfl, rfl, q⟩)
  · rw [decide_eq_false k, Bool.false_and] at q
    exact ifF (decide_eq_false k) q
/-- a and b, both True or False -/
def tAndP (ta tb : TE) : TE := fun σ H Q => ∃ x y : Bool, Pu ta σ H (.bl x) ∧ (x = true → Pu tb σ H (.bl y)) ∧ Q (.bl (x && y)) H
theorem pe_andP (ha : PE X a ta) (hb : PE X (.BoolOp .And (b :: rest) pos) tb) : PE X (.BoolOp .And (a :: b :: rest) pos) (tAndP ta tb) := by
  refine PE.weak (pe_and ha hb) fun σ H Q ⟨x, y, h1, h2, q⟩ => h1 _ ⟨_, rfl, ?_⟩
  cases x with
  | true => exact ifT rfl (h2 rfl _ (by rw [Bool.true_and] at q; exact q))
  | false => exact ifF rfl q
end
/-- what is asked of a tree's sizes -/
def WF : T → Prop
  | .listed rows => WFr rows
  | .sum .. => True
  | .field p k _ => (0 ≤ p ∧ p ≤ 1000000) ∧ (0 ≤ k ∧ k ≤ 1000)
  | .product s t => WF s ∧ WF t
  | .turned s pl => WF s ∧ pl.length < 64
  | .bad _ => True
def isLeaf : T → Prop
  | .listed _ => True
  | .sum .. => True
  | .field .. => True
  | _ => False
def spLeaf (C : Addr) : Sp := fun vs H Q E => ∃ (v : V) (t : T) (L : Addr → Prop), vs = [v] ∧ TreeAt H L t v ∧ isLeaf t ∧ WF t ∧
  (Val t → ∀ (a : Addr) (v' : V) (H' : Hp), Same H H' → TreeAt H' no t v' → H' a = some (.tup [v', .int (ord t)]) → Q (.ref a) H') ∧ (¬ Val t → ∀ H', Same H H' → E (.ref C) none H')
theorem scLeaf : FnScope ["tree", "rows", "_", "count", "a", "b", "prime", "power"] ["tree"] (defScope sLeaf) := ⟨rfl, rfl, rfl, by decide +kernel, rfl, by decide +kernel, by decide +kernel⟩
theorem str_ne {a b : String} {A B : Prop} (h : ws a ≠ ws b) (x : B) : if decide (V.str (ws a) = V.str (ws b)) = true then A else B := ifF (decide_eq_false fun e => h (V.str.inj e)) x
theorem str_eq {a : String} {A B : Prop} (x : A) : if decide (V.str (ws a) = V.str (ws a)) = true then A else B := ifT (decide_eq_true rfl) x
theorem dec_gcd {i : Nat} : decide (V.int ((i : Nat) : Int) = V.int 1) = decide (i = 1) := by
  by_cases h : i = 1
  · subst h; rfl
  · rw [decide_eq_false h, decide_eq_false]
    intro e
    have := V.int.inj e
    omega
theorem ten30 : (10 : Int) ^ 30 = 1000000000000000000000000000000 := by decide
section
variable {P : Program} {w : World} {K : PySem.W.Frag} {mg : Str → Option Value} {base : Heap} {C : Addr}
theorem FnOk.ofB {CX : CXT} {k : Nat} {f : Addr} {fd : FuncData} {ps : List Str} {sp : Bool → Sp} (F : ∀ b, FnOk P w K mg base CX k f fd ps (sp b)) : FnOk P w K mg base CX k f fd ps (fun vs H Q E => ∃ b, sp b vs H Q E) :=
  ⟨fun vs H Q E ⟨b, h⟩ => (F b).len vs H Q E h, fun A outer s H args us vs Q E x1 x2 x3 x4 ⟨b, h⟩ => (F b).run A outer s H args us vs Q E x1 x2 x3 x4 h⟩
theorem ok_leaf {f fr fo fi fz : Addr} {fd fdr fdo fdi fdz : FuncData} (B : Bl mg) (Cn : Ct mg) (F : Fun K "checked_leaf" "checked_leaf" sLeaf f fd) (D : Df K mg "require" sReq ["holds"] fr fdr) (G : FnOk P w K mg base (L2.CX P w) 1 fr fdr ["holds"] (spReq C))
    (Do : Df K mg "checked_rows" sRows ["rows"] fo fdo) (Go : FnOk P w K mg base (L2.CX P w) 2 fo fdo ["rows"] (fun vs H Q E => ∃ b, spRows C b vs H Q E))
    (Di : Df K mg "is_field" sField ["prime", "degree"] fi fdi) (Gi : FnOk P w K mg base CX0 2 fi fdi ["prime", "degree"] spField)
    (Dz : Df K mg "size_of" sSize ["prime", "degree"] fz fdz) (Gz : FnOk P w K mg base CX0 1 fz fdz ["prime", "degree"] spSize) :
    FnOk P w K mg base (L2.CX P w) 3 f fd ["tree"] (spLeaf C) := by
  refine F.okX scLeaf (fun vs H Q E h => ?_) (fun cdv A outer s H vs Q E hr h => ?_)
  · obtain ⟨v, t, L, rfl, _⟩ := h
    rfl
  obtain ⟨v, t, L, rfl, ht, hleaf, hwf, k1, k2⟩ := h
  have hr1 := hr.mono (by decide : 1 ≤ 2)
  refine ⟨_, pss_cons (ps_if (pt_cmpR op_eq (pe_ix ix_tup (pv 0) pe_int (fun _ _ => rfl)) pe_str (nomark _))
      (pss_cons (ps_set (i := 1) scLeaf.nd rfl (.inl rfl) (pe_call Go hr rfl Do.m Do.kp Do.b .nil (passes_call (takes_of rfl rfl rfl rfl) (fun _ _ _ _ h => h)) (pa_cons (pe_ix ix_tup (pv 0) pe_int (fun _ _ => rfl)) pa_nil)))
      (pss_one (ps_ret (pe_tup (pa_cons (pe_tup (pa_cons pe_str (pa_cons (pv 1) pa_nil))) (pa_cons (pe_callB call_len_seq rfl B.len PySem.boot_len (pa_cons (pv 1) pa_nil)) pa_nil)))))) pss_nil)
    (pss_cons (ps_if (pt_cmpR op_eq (pe_ix ix_tup (pv 0) pe_int (fun _ _ => rfl)) pe_str (nomark _))
      (pss_cons (ps_asg (pv 0) (pg_tup rfl (pgs_cons (pg_name (i := 2) scLeaf.nd rfl (.inl rfl)) (pgs_cons (pg_name (i := 3) scLeaf.nd rfl (.inl rfl)) (pgs_cons (pg_name (i := 4) scLeaf.nd rfl (.inl rfl)) (pgs_cons (pg_name (i := 5) scLeaf.nd rfl (.inl rfl)) pgs_nil))))))
      (pss_cons (ps_expr (pe_call G hr1 rfl D.m D.kp D.b .nil (passes_call (takes_of rfl rfl rfl rfl) (fun _ _ _ _ h => h)) (pa_cons (pe_andP (pe_chainP pe_int (pv 3) (pe_gi Cn.mo)) (pe_andP (pe_chainP pe_int (pv 4) (pv 3)) (pe_one (pe_chainP pe_int (pv 5) (pv 3))))) pa_nil)))
      (pss_cons (ps_expr (pe_call G hr1 rfl D.m D.kp D.b .nil (passes_call (takes_of rfl rfl rfl rfl) (fun _ _ _ _ h => h)) (pa_cons (pe_andP (pe_cmpR op_eq (pe_callBfun cr_gcd rfl Cn.gcd (pa_cons (pv 4) (pa_cons (pv 3) pa_nil))) pe_int (nomark _))
        (pe_one (pe_cmpR op_eq (pe_callBfun cr_gcd rfl Cn.gcd (pa_cons (pv 5) (pa_cons (pv 3) pa_nil))) pe_int (nomark _)))) pa_nil)))
      (pss_one (ps_ret (pe_tup (pa_cons (pe_callTy cr_tupT rfl B.tuple (by decide +kernel) (pa_cons (pv 0) pa_nil)) (pa_cons (pv 3) pa_nil)))))))) pss_nil)
    (pss_cons (ps_asg (pv 0) (pg_tup rfl (pgs_cons (pg_name (i := 2) scLeaf.nd rfl (.inl rfl)) (pgs_cons (pg_name (i := 6) scLeaf.nd rfl (.inl rfl)) (pgs_cons (pg_name (i := 7) scLeaf.nd rfl (.inl rfl)) (pgs_cons (pg_name (i := 4) scLeaf.nd rfl (.inl rfl)) pgs_nil))))))
    (pss_cons (ps_expr (pe_call G hr1 rfl D.m D.kp D.b .nil (passes_call (takes_of rfl rfl rfl rfl) (fun _ _ _ _ h => h)) (pa_cons (pe_call Gi hr rfl Di.m Di.kp Di.b .nil pass0 (pa_cons (pv 6) (pa_cons (pv 7) pa_nil))) pa_nil)))
    (pss_cons (ps_set (i := 3) scLeaf.nd rfl (.inl rfl) (pe_call Gz hr1 rfl Dz.m Dz.kp Dz.b .nil pass0 (pa_cons (pv 6) (pa_cons (pv 7) pa_nil))))
    (pss_cons (ps_expr (pe_call G hr1 rfl D.m D.kp D.b .nil (passes_call (takes_of rfl rfl rfl rfl) (fun _ _ _ _ h => h)) (pa_cons (pe_chainQ pe_int (pv 4) (pv 3)) pa_nil)))
    (pss_one (ps_ret (pe_tup (pa_cons (pe_callTy cr_tupT rfl B.tuple (by decide +kernel) (pa_cons (pv 0) pa_nil)) (pa_cons (pv 3) pa_nil)))))))))), ?_⟩
  cases t with
  | product s t => exact hleaf.elim
  | turned s pl => exact hleaf.elim
  | bad s => exact hleaf.elim
  | listed rows =>
    obtain ⟨a, r, rs, rfl, h1, h2, h3⟩ := ht
    refine ⟨_, rfl, a, _, _, _, rfl, rfl, SqT.of h1, atI_nat (j := 0) rfl, rfl, _, rfl, str_eq ?_⟩
    refine ⟨_, rfl, a, _, _, _, rfl, rfl, SqT.of h1, atI_nat (j := 1) rfl, ?_⟩
    have hb : ∃ b : Bool, (if b = true then H r = some (.lst rs) else H r = some (.tup rs)) := by
      rcases h2 with h2 | h2
      · exact ⟨false, h2⟩
      · exact ⟨true, h2.2⟩
    obtain ⟨b, hb⟩ := hb
    refine ⟨b, r, rs, rows, rfl, hb, h3, hwf, fun hc p H' rs' s1 hp hrs => ?_, fun hc => k2 (fun z => by rw [show chkRows rows = true from z] at hc; cases hc)⟩
    refine ⟨_, rfl, (by show 2 ≤ sizeLine; exact small (by decide)), fun q hq => ?_⟩
    have s2 := same_new hq (.tup [.str (ws "listed"), .ref p])
    refine ⟨_, rfl, p, rs', rfl, .inr (SqT.of (s2 _ _ hp)), (by show 2 ≤ sizeLine; exact small (by decide)), fun u hu => ?_⟩
    have s3 := same_new hu (.tup [.ref q, .int ((rs'.length : Nat) : Int)])
    refine k1 hc u (.ref q) _ (s1.trans (s2.trans s3)) ⟨q, p, rs', rfl, s3 _ _ upd_same, .inl (s3 _ _ (s2 _ _ hp)), hrs.mono fun b xs z => s3 _ _ (s2 _ _ z)⟩ ?_
    rw [upd_same, Paired.length hrs]
    rfl
  | sum n x y =>
    obtain ⟨a, rfl, h1⟩ := ht
    refine ⟨_, rfl, a, _, _, _, rfl, rfl, SqT.of h1, atI_nat (j := 0) rfl, rfl, _, rfl, str_ne (by decide) ?_⟩
    refine ⟨_, rfl, a, _, _, _, rfl, rfl, SqT.of h1, atI_nat (j := 0) rfl, rfl, _, rfl, str_eq ?_⟩
    refine ⟨_, rfl, a, _, rfl, SqT.of h1, rfl, _, _, rfl, _, _, rfl, _, _, rfl, _, _, rfl, rfl, ?_⟩
    refine ⟨_, _, fun R h => ⟨1, n, 1000000000000000000000000000000, fun R h => h, fun R h => ⟨_, rfl, h⟩, fun R h => h, h⟩, fun _ R h => ⟨_, _, fun R h => ⟨1, x, n, fun R h => h, fun R h => ⟨_, rfl, h⟩, fun R h => ⟨_, rfl, h⟩, h⟩, fun _ R h => ⟨1, y, n, fun R h => h, fun R h => ⟨_, rfl, h⟩, fun R h => ⟨_, rfl, h⟩, h⟩, h⟩, _, rfl, fun z => ?_, fun z => ?_⟩
    · refine ⟨_, _, fun R h => ⟨_, rfl, _, rfl, x, n, rfl, rfl, h⟩, fun _ R h => ⟨_, rfl, _, rfl, y, n, rfl, rfl, h⟩, _, rfl, fun z2 => ?_, fun z2 => ?_⟩
      · rw [dec_gcd, dec_gcd] at z2
        refine ⟨_, rfl, a, _, rfl, SqT.of h1, _, rfl, (by show 2 ≤ sizeLine; exact small (by decide)), fun u hu => ?_⟩
        have s3 := same_new hu (.tup [.ref a, .int n])
        refine k1 ?_ u (.ref a) _ s3 ⟨a, rfl, s3 _ _ h1⟩ upd_same
        show chkSum n x y = true
        unfold chkSum
        rw [ten30, z, z2]
        rfl
      · rw [dec_gcd, dec_gcd] at z2
        refine k2 (fun hv => ?_) H (Same.refl H)
        have hv' : chkSum n x y = true := hv
        unfold chkSum at hv'
        rw [z2, Bool.and_false] at hv'
        cases hv'
    · refine k2 (fun hv => ?_) H (Same.refl H)
      have hv' : chkSum n x y = true := hv
      unfold chkSum at hv'
      rw [ten30, z, Bool.false_and] at hv'
      cases hv'
  | field p k x =>
    obtain ⟨a, rfl, h1⟩ := ht
    refine ⟨_, rfl, a, _, _, _, rfl, rfl, SqT.of h1, atI_nat (j := 0) rfl, rfl, _, rfl, str_ne (by decide) ?_⟩
    refine ⟨_, rfl, a, _, _, _, rfl, rfl, SqT.of h1, atI_nat (j := 0) rfl, rfl, _, rfl, str_ne (by decide) ?_⟩
    refine ⟨_, rfl, a, _, rfl, SqT.of h1, rfl, _, _, rfl, _, _, rfl, _, _, rfl, _, _, rfl, rfl, ?_⟩
    refine ⟨_, rfl, _, rfl, p, k, rfl, hwf.1, hwf.2, _, rfl, fun z => ?_, fun z => ?_⟩
    · refine ⟨_, rfl, _, rfl, p, k, rfl, hwf.1, hwf.2, ?_⟩
      refine ⟨1, x, p ^ k.toNat, fun R h => h, fun R h => ⟨_, rfl, h⟩, fun R h => ⟨_, rfl, h⟩, _, rfl, fun z2 => ?_, fun z2 => ?_⟩
      · refine ⟨_, rfl, a, _, rfl, SqT.of h1, _, rfl, (by show 2 ≤ sizeLine; exact small (by decide)), fun u hu => ?_⟩
        have s3 := same_new hu (.tup [.ref a, .int (p ^ k.toNat)])
        refine k1 ?_ u (.ref a) _ s3 ⟨a, rfl, s3 _ _ h1⟩ upd_same
        show chkFld p k x = true
        unfold chkFld
        rw [z, z2]
        rfl
      · refine k2 (fun hv => ?_) H (Same.refl H)
        have hv' : chkFld p k x = true := hv
        unfold chkFld at hv'
        rw [z2, Bool.and_false] at hv'
        cases hv'
    · refine k2 (fun hv => ?_) H (Same.refl H)
      have hv' : chkFld p k x = true := hv
      unfold chkFld at hv'
      rw [z, Bool.false_and] at hv'
      cases hv'
end
end K5
/-! K5, walks 4: checked_part, checked. -/
namespace K5
open PySem PySem.Spec PyProof.Rows L2
theorem chk_le : ∀ {t : T} {d m : Nat} {c : Int}, chk t d = some (m, c) → c ≤ 10 ^ 30
  | .listed rows, d, m, c, h => by
    unfold chk at h
    split at h
    · rename_i h0
      have e := Prod.mk.inj (Option.some.inj h)
      have := (chkRows_len h0.2).2
      rw [ten30]
      omega
    · cases h
  | .sum n a b, d, m, c, h => by
    unfold chk at h
    split at h
    · rename_i h0
      have e := Prod.mk.inj (Option.some.inj h)
      have := (chkSum_iff.mp h0.2).1.1.2
      omega
    · cases h
  | .field p k a, d, m, c, h => by
    unfold chk at h
    split at h
    · rename_i h0
      have e := Prod.mk.inj (Option.some.inj h)
      have h1 := h0.2
      unfold chkFld at h1
      rw [Bool.and_eq_true] at h1
      have := (isFld_bd h1.1).2.2
      rw [ten30]
      omega
    · cases h
  | .turned s pl, d, m, c, h => by
    unfold chk at h
    split at h
    · split at h
      · cases h
      · rename_i m1 c1 e1
        split at h
        · have e := Prod.mk.inj (Option.some.inj h)
          have := chk_le e1
          omega
        · cases h
    · cases h
  | .product s t, d, m, c, h => by
    unfold chk at h
    split at h
    · split at h
      · cases h
      · split at h
        · cases h
        · split at h
          · rename_i h0
            have e := Prod.mk.inj (Option.some.inj h)
            omega
          · cases h
    · cases h
  | .bad _, _, _, _, h => by
    unfold chk at h
    cases h
theorem chk_bd {t : T} {d m : Nat} {c : Int} (h : chk t d = some (m, c)) : c.natAbs < 2 ^ 100 := by
  have h1 := chk_le h
  have h2 := chk_val h
  have h3 := ord_pos t h2.1
  rw [ten30] at h1
  have : (2 : Nat) ^ 100 = 1267650600228229401496703205376 := by decide
  omega
/-- a written dict with text keys -/
structure Tb (K : PySem.W.Frag) (w : World) (mg : Str → Option Value) (x : String) (d : Addr) (es : Array DictEntry) (n : Nat) (l : List (String × Int)) : Prop where
  m : mg x = some (.ref d)
  D : KDict K w d es n
  at_ : ∀ p ∈ l, ∃ u, PySem.W.nsIn K d (ws p.1) = some (some u) ∧ RelV (.int p.2) u
def members : List (String × Int) := [("sum", 4), ("field", 4), ("listed", 2), ("product", 3), ("turned", 3)]
def isBad : T → Bool
  | .bad _ => true
  | _ => false
theorem TreeAt.node {H : Hp} {L : Addr → Prop} : ∀ {t : T} {v : V}, TreeAt H L t v → ∃ (p : Addr) (k : String) (n : Int) (rest : List V), v = .ref p ∧ H p = some (.tup (.str (ws k) :: rest)) ∧ (k, n) ∈ members ∧ decide (V.int (((V.str (ws k) :: rest).length : Nat) : Int) = V.int n) = !isBad t
  | .listed rows, v, ⟨a, r, rs, e, h1, h2, h3⟩ => ⟨a, _, 2, _, e, h1, by decide, rfl⟩
  | .sum .., v, ⟨p, e, h⟩ => ⟨p, _, 4, _, e, h, by decide, rfl⟩
  | .field .., v, ⟨p, e, h⟩ => ⟨p, _, 4, _, e, h, by decide, rfl⟩
  | .product s t, v, ⟨p, x, y, e, h, h1, h2⟩ => ⟨p, _, 3, _, e, h, by decide, rfl⟩
  | .turned s pl, v, ⟨p, x, q, e, h, h1, h2⟩ => ⟨p, _, 3, _, e, h, by decide, rfl⟩
  | .bad s, v, ⟨p, x, e, h, h1⟩ => ⟨p, _, 3, _, e, h, by decide, rfl⟩
theorem chk_deep {t : T} {d : Nat} (h : ¬ d ≤ 12) : chk t d = none := by
  cases t <;> unfold chk <;> first | rfl | rw [if_neg h] | rw [if_neg (fun z => h z.1)]
theorem chk_leaf {t : T} (h : isLeaf t) {d : Nat} (hd : d ≤ 12) : (Val t → chk t d = some (1, ord t)) ∧ (¬ Val t → chk t d = none) := by
  cases t with
  | listed rows => exact ⟨fun v => by unfold chk; rw [if_pos ⟨hd, v⟩]; rfl, fun v => by unfold chk; rw [if_neg (fun z => v z.2)]⟩
  | sum n a b => exact ⟨fun v => by unfold chk; rw [if_pos ⟨hd, v⟩]; rfl, fun v => by unfold chk; rw [if_neg (fun z => v z.2)]⟩
  | field p k a => exact ⟨fun v => by unfold chk; rw [if_pos ⟨hd, v⟩]; rfl, fun v => by unfold chk; rw [if_neg (fun z => v z.2)]⟩
  | product s t => exact h.elim
  | turned s pl => exact h.elim
  | bad s => exact h.elim
theorem chk_turned_none {s : T} {pl : List Int} {d : Nat} (hd : d ≤ 12) (e : chk s (d + 1) = none) : chk (.turned s pl) d = none := by
  rw [chk, if_pos hd, e]
theorem chk_turned_some {s : T} {pl : List Int} {d m : Nat} {c : Int} (hd : d ≤ 12) (e : chk s (d + 1) = some (m, c)) : chk (.turned s pl) d = if pl.isPerm [0, 1, 2] = true ∧ m < 12 then some (m + 1, c) else none := by
  rw [chk, if_pos hd, e]
theorem chk_product_none {s t : T} {d : Nat} (hd : d ≤ 12) (e : chk s (d + 1) = none) : chk (.product s t) d = none := by
  rw [chk, if_pos hd, e]
theorem chk_product_none2 {s t : T} {d m : Nat} {c : Int} (hd : d ≤ 12) (e : chk s (d + 1) = some (m, c)) (e' : chk t (d + 1) = none) : chk (.product s t) d = none := by
  rw [chk, if_pos hd, e, e']
theorem chk_product_some {s t : T} {d m m' : Nat} {c c' : Int} (hd : d ≤ 12) (e : chk s (d + 1) = some (m, c)) (e' : chk t (d + 1) = some (m', c')) : chk (.product s t) d = if m + m' < 12 ∧ c * c' ≤ 10 ^ 30 then some (m + m' + 1, c * c') else none := by
  rw [chk, if_pos hd, e, e']
def spPart (C : Addr) (n : Nat) : Sp := fun vs H Q E => ∃ (v : V) (d : Nat) (t : T) (L : Addr → Prop), vs = [v, .int ((d : Nat) : Int)] ∧ TreeAt H L t v ∧ WF t ∧ d ≤ 13 ∧ 14 ≤ d + n ∧
  (∀ (m : Nat) (c : Int), chk t d = some (m, c) → ∀ (a : Addr) (v' : V) (H' : Hp), Same H H' → TreeAt H' no t v' → H' a = some (.tup [v', .int ((m : Nat) : Int), .int c]) → Q (.ref a) H') ∧ (chk t d = none → ∀ H', Same H H' → E (.ref C) none H')
abbrev nPart : List Str := ["tree", "depth", "part", "parts", "count", "one", "other", "more", "size", "leaf"]
theorem scPart : FnScope nPart ["tree", "depth"] (defScope sPart) := ⟨rfl, rfl, rfl, by decide +kernel, rfl, by decide +kernel, by decide +kernel⟩
theorem none_left {P : Program} {w : World} {K : PySem.W.Frag} {mg : Str → Option Value} {base : Heap} {CX : CXT} {k : Nat} {f : Addr} {fd : FuncData} {ps : List Str} {sp : Sp} (h : ∀ vs H Q E, ¬ sp vs H Q E) : FnOk P w K mg base CX k f fd ps sp :=
  ⟨fun vs H Q E z => absurd z (h vs H Q E), fun A outer s H args us vs Q E _ _ _ _ z => absurd z (h vs H Q E)⟩
section
variable {P : Program} {w : World} {K : PySem.W.Frag} {mg : Str → Option Value} {base : Heap} {C : Addr}
theorem ok_part {f fr fl dM : Addr} {fd fdr fdl : FuncData} {es : Array DictEntry} {nn : Nat} (B : Bl mg) (Cn : Ct mg) (M : Tb K w mg "MEMBERS" dM es nn members) (F : FunD K "checked_part" "checked_part" (defArgs sPart) (defBody sPart) (defScope sPart) [.int 1] [] f fd)
    (mF : mg "checked_part" = some (.ref f)) (bF : Binds K fd ["tree", "depth"] []) (D : Df K mg "require" sReq ["holds"] fr fdr) (G : FnOk P w K mg base (L2.CX P w) 1 fr fdr ["holds"] (spReq C))
    (Dl : Df K mg "checked_leaf" sLeaf ["tree"] fl fdl) (Gl : FnOk P w K mg base (L2.CX P w) 3 fl fdl ["tree"] (spLeaf C)) :
    ∀ n, FnOk P w K mg base (L2.CX P w) (3 + n) f fd ["tree", "depth"] (spPart C n)
  | 0 => none_left fun vs H Q E ⟨v, d, t, L, _, _, _, h1, h2, _⟩ => by omega
  | n + 1 => by
    have GP := ok_part B Cn M F mF bF D G Dl Gl n
    refine F.ok scPart (fun vs H Q E h => ?_) (fun cdv A outer s H vs Q E hr h => ?_)
    · obtain ⟨v, d, t, L, rfl, _⟩ := h
      rfl
    obtain ⟨v, d, t, L, rfl, ht, hwf, hd, hn, k1, k2⟩ := h
    have hr : Room (3 + n) _ := hr
    have hr1 := hr.mono (show 1 ≤ 3 + n by omega)
    have hr3 := hr.mono (show 3 ≤ 3 + n by omega)
    refine ⟨_, pss_cons (ps_expr (pe_call G hr1 rfl D.m D.kp D.b .nil (passes_call (takes_of rfl rfl rfl rfl) (fun _ _ _ _ h => h)) (pa_cons
        (pe_andP (pe_cmpR op_le (pv 1) (pe_gi Cn.mparts) (nomark _)) (pe_andP (pe_cmpR op_gt (pe_callB call_len_seq rfl B.len PySem.boot_len (pa_cons (pv 0) pa_nil)) pe_int (nomark _))
          (pe_andP (pe_cmpR (op_in_kd M.D) (pe_ix ix_tup (pv 0) pe_int (fun _ _ => rfl)) (pe_gr M.m) (by rfl))
            (pe_one (pe_cmpR op_eq (pe_callB call_len_seq rfl B.len PySem.boot_len (pa_cons (pv 0) pa_nil)) (pe_ix ix_kdict (pe_gr M.m) (pe_ix ix_tup (pv 0) pe_int (fun _ _ => rfl)) (fun _ _ => rfl)) (nomark _)))))) pa_nil)))
      (pss_cons (ps_if (pt_cmpR op_eq (pe_ix ix_tup (pv 0) pe_int (fun _ _ => rfl)) pe_str (nomark _))
        (pss_cons (ps_asg (pe_call GP hr rfl mF F.kp bF .nil (passes_call (takes_of rfl rfl rfl rfl) (fun _ _ _ _ h => h)) (pa_cons (pe_ix ix_tup (pv 0) pe_int (fun _ _ => rfl)) (pa_cons (pe_op op_add (pv 1) pe_int) pa_nil)))
          (pg_tup rfl (pgs_cons (pg_name (i := 2) scPart.nd rfl (.inl rfl)) (pgs_cons (pg_name (i := 3) scPart.nd rfl (.inl rfl)) (pgs_cons (pg_name (i := 4) scPart.nd rfl (.inl rfl)) pgs_nil)))))
        (pss_cons (ps_expr (pe_call G hr1 rfl D.m D.kp D.b .nil (passes_call (takes_of rfl rfl rfl rfl) (fun _ _ _ _ h => h)) (pa_cons
          (pe_and (pe_cmpR (op_eqD hr.units) (pe_callB cr_sorted2 rfl B.sorted PyProof.Rows.boot_sorted (pa_cons (pe_ix ix_tup (pv 0) pe_int (fun _ _ => rfl)) pa_nil)) (pe_lst (pa_cons (pe_gi Cn.row) (pa_cons (pe_gi Cn.col) (pa_cons (pe_gi Cn.sign) pa_nil)))) (nomark _))
            (pe_one (pe_cmpR op_lt (pv 3) (pe_gi Cn.mparts) (nomark _)))) pa_nil)))
        (pss_one (ps_ret (pe_tup (pa_cons (pe_tup (pa_cons pe_str (pa_cons (pv 2) (pa_cons (pe_callTy cr_tupT rfl B.tuple (by decide +kernel) (pa_cons (pe_ix ix_tup (pv 0) pe_int (fun _ _ => rfl)) pa_nil)) pa_nil)))) (pa_cons (pe_op op_add (pv 3) pe_int) (pa_cons (pv 4) pa_nil)))))))) pss_nil)
      (pss_cons (ps_if (pt_cmpR op_eq (pe_ix ix_tup (pv 0) pe_int (fun _ _ => rfl)) pe_str (nomark _))
        (pss_cons (ps_asg (pe_call GP hr rfl mF F.kp bF .nil (passes_call (takes_of rfl rfl rfl rfl) (fun _ _ _ _ h => h)) (pa_cons (pe_ix ix_tup (pv 0) pe_int (fun _ _ => rfl)) (pa_cons (pe_op op_add (pv 1) pe_int) pa_nil)))
          (pg_tup rfl (pgs_cons (pg_name (i := 5) scPart.nd rfl (.inl rfl)) (pgs_cons (pg_name (i := 3) scPart.nd rfl (.inl rfl)) (pgs_cons (pg_name (i := 4) scPart.nd rfl (.inl rfl)) pgs_nil)))))
        (pss_cons (ps_asg (pe_call GP hr rfl mF F.kp bF .nil (passes_call (takes_of rfl rfl rfl rfl) (fun _ _ _ _ h => h)) (pa_cons (pe_ix ix_tup (pv 0) pe_int (fun _ _ => rfl)) (pa_cons (pe_op op_add (pv 1) pe_int) pa_nil)))
          (pg_tup rfl (pgs_cons (pg_name (i := 6) scPart.nd rfl (.inl rfl)) (pgs_cons (pg_name (i := 7) scPart.nd rfl (.inl rfl)) (pgs_cons (pg_name (i := 8) scPart.nd rfl (.inl rfl)) pgs_nil)))))
        (pss_cons (ps_expr (pe_call G hr1 rfl D.m D.kp D.b .nil (passes_call (takes_of rfl rfl rfl rfl) (fun _ _ _ _ h => h)) (pa_cons
          (pe_andP (pe_cmpR op_lt (pe_op op_add (pv 3) (pv 7)) (pe_gi Cn.mparts) (nomark _)) (pe_one (pe_cmpR op_le (pe_op op_mulW (pv 4) (pv 8)) (pe_gi Cn.mo) (nomark _)))) pa_nil)))
        (pss_one (ps_ret (pe_tup (pa_cons (pe_tup (pa_cons pe_str (pa_cons (pv 5) (pa_cons (pv 6) pa_nil)))) (pa_cons (pe_op op_add (pe_op op_add (pv 3) (pv 7)) pe_int) (pa_cons (pe_op op_mulW (pv 4) (pv 8)) pa_nil))))))))) pss_nil)
      (pss_cons (ps_asg (pe_call Gl hr3 rfl Dl.m Dl.kp Dl.b .nil (passes_call (takes_of rfl rfl rfl rfl) (fun _ _ _ _ h => h)) (pa_cons (pv 0) pa_nil)) (pg_tup rfl (pgs_cons (pg_name (i := 9) scPart.nd rfl (.inl rfl)) (pgs_cons (pg_name (i := 4) scPart.nd rfl (.inl rfl)) pgs_nil))))
      (pss_one (ps_ret (pe_tup (pa_cons (pv 9) (pa_cons pe_int (pa_cons (pv 4) pa_nil))))))))), ?_⟩
    obtain ⟨p0, k0, n0, rest0, ev, hp0, hk0, hb0⟩ := ht.node
    obtain ⟨u0, hu0, ru0⟩ := M.at_ _ hk0
    subst ev
    refine ⟨_, _, fun R h => ⟨_, rfl, _, _, rfl, rfl, h⟩, fun _ R h => ⟨_, _, fun R h => ⟨_, rfl, p0, _, rfl, .inr (SqT.of hp0), _, _, rfl, rfl, h⟩, fun _ R h => ⟨_, _,
      fun R h => ⟨_, rfl, p0, _, _, _, rfl, rfl, SqT.of hp0, atI_nat (j := 0) rfl, _, _, rfl, rfl, hu0, h⟩,
      fun _ R h => ⟨_, rfl, p0, _, rfl, .inr (SqT.of hp0), _, rfl, p0, _, _, _, rfl, rfl, SqT.of hp0, atI_nat (j := 0) rfl, dM, _, .int n0, rfl, rfl, ⟨es, nn, u0, M.D.at_, M.D.lit, hu0, ru0⟩, rfl, h⟩, h⟩, h⟩, _, rfl, fun z => ?_, fun z => ?_⟩
    case refine_2 =>
      refine k2 ?_ H (Same.refl H)
      by_cases hd2 : d ≤ 12
      · rw [decide_eq_true (show ((d : Nat) : Int) ≤ 12 by omega)] at z
        cases t with
        | bad s => rfl
        | _ =>
          exfalso
          rw [hb0] at z
          have e : decide ((0 : Int) < (((V.str (ws k0) :: rest0).length : Nat) : Int)) = true := by
            rw [List.length_cons]
            exact decide_eq_true (by omega)
          have z' : (true && (decide ((0 : Int) < (((V.str (ws k0) :: rest0).length : Nat) : Int)) && (true && true))) = false := z
          rw [e] at z'
          cases z'
      · exact chk_deep hd2
    have hd12 : d ≤ 12 := by
      apply Classical.byContradiction
      intro hne
      rw [decide_eq_false (show ¬ ((d : Nat) : Int) ≤ 12 by omega)] at z
      cases z
    have hnb : isBad t = false := by
      have z' : (decide (((d : Nat) : Int) ≤ 12) && (decide ((0 : Int) < (((V.str (ws k0) :: rest0).length : Nat) : Int)) && (true && decide (V.int (((V.str (ws k0) :: rest0).length : Nat) : Int) = V.int n0)))) = true := z
      rw [hb0] at z'
      cases e : isBad t with
      | false => rfl
      | true =>
        rw [e] at z'
        simp at z'
    clear z hb0 hu0 ru0 hk0
    cases t with
    | bad s => cases hnb
    | listed rows =>
      obtain ⟨a, r, rs, ea, h1, h2, h3⟩ := id ht
      cases ea
      refine ⟨_, rfl, _, _, _, _, rfl, rfl, SqT.of h1, atI_nat (j := 0) rfl, rfl, _, rfl, str_ne (by decide) ?_⟩
      refine ⟨_, rfl, _, _, _, _, rfl, rfl, SqT.of h1, atI_nat (j := 0) rfl, rfl, _, rfl, str_ne (by decide) ?_⟩
      refine ⟨_, rfl, .ref p0, .listed rows, L, rfl, ht, trivial, hwf, fun hv a v' H' s1 ht' ha => ?_, fun hv H' s1 => k2 ((chk_leaf (t := .listed rows) trivial hd12).2 hv) H' s1⟩
      refine ⟨a, _, rfl, SqT.of ha, rfl, _, _, rfl, _, _, rfl, rfl, ?_⟩
      refine ⟨_, rfl, _, rfl, (by show 3 ≤ sizeLine; exact small (by decide)), fun u hu => ?_⟩
      have s2 := same_new hu (.tup [v', .int 1, .int (ord (.listed rows))])
      exact k1 1 _ ((chk_leaf (t := .listed rows) trivial hd12).1 hv) u v' _ (s1.trans s2) (ht'.same s2) upd_same
    | sum n x y =>
      obtain ⟨a, ea, h1⟩ := id ht
      cases ea
      refine ⟨_, rfl, _, _, _, _, rfl, rfl, SqT.of h1, atI_nat (j := 0) rfl, rfl, _, rfl, str_ne (by decide) ?_⟩
      refine ⟨_, rfl, _, _, _, _, rfl, rfl, SqT.of h1, atI_nat (j := 0) rfl, rfl, _, rfl, str_ne (by decide) ?_⟩
      refine ⟨_, rfl, .ref p0, .sum n x y, L, rfl, ht, trivial, hwf, fun hv a v' H' s1 ht' ha => ?_, fun hv H' s1 => k2 ((chk_leaf (t := .sum n x y) trivial hd12).2 hv) H' s1⟩
      refine ⟨a, _, rfl, SqT.of ha, rfl, _, _, rfl, _, _, rfl, rfl, ?_⟩
      refine ⟨_, rfl, _, rfl, (by show 3 ≤ sizeLine; exact small (by decide)), fun u hu => ?_⟩
      have s2 := same_new hu (.tup [v', .int 1, .int (ord (.sum n x y))])
      exact k1 1 _ ((chk_leaf (t := .sum n x y) trivial hd12).1 hv) u v' _ (s1.trans s2) (ht'.same s2) upd_same
    | field n x y =>
      obtain ⟨a, ea, h1⟩ := id ht
      cases ea
      refine ⟨_, rfl, _, _, _, _, rfl, rfl, SqT.of h1, atI_nat (j := 0) rfl, rfl, _, rfl, str_ne (by decide) ?_⟩
      refine ⟨_, rfl, _, _, _, _, rfl, rfl, SqT.of h1, atI_nat (j := 0) rfl, rfl, _, rfl, str_ne (by decide) ?_⟩
      refine ⟨_, rfl, .ref p0, .field n x y, L, rfl, ht, trivial, hwf, fun hv a v' H' s1 ht' ha => ?_, fun hv H' s1 => k2 ((chk_leaf (t := .field n x y) trivial hd12).2 hv) H' s1⟩
      refine ⟨a, _, rfl, SqT.of ha, rfl, _, _, rfl, _, _, rfl, rfl, ?_⟩
      refine ⟨_, rfl, _, rfl, (by show 3 ≤ sizeLine; exact small (by decide)), fun u hu => ?_⟩
      have s2 := same_new hu (.tup [v', .int 1, .int (ord (.field n x y))])
      exact k1 1 _ ((chk_leaf (t := .field n x y) trivial hd12).1 hv) u v' _ (s1.trans s2) (ht'.same s2) upd_same
    | turned s pl =>
      obtain ⟨a, x, q, ea, h1, hs, h2⟩ := id ht
      cases ea
      refine ⟨_, rfl, _, _, _, _, rfl, rfl, SqT.of h1, atI_nat (j := 0) rfl, rfl, _, rfl, str_eq ?_⟩
      refine ⟨_, rfl, _, _, _, _, rfl, rfl, SqT.of h1, atI_nat (j := 1) rfl, _, rfl, _, _, rfl, rfl, x, d + 1, s, L, rfl, hs, hwf.1, by omega, by omega, fun m c e a' v' H' s1 ht' ha' => ?_, fun e H' s1 => k2 (chk_turned_none hd12 e) H' s1⟩
      have ec := chk_turned_some (pl := pl) hd12 e
      refine ⟨a', _, rfl, SqT.of ha', rfl, _, _, rfl, _, _, rfl, _, _, rfl, rfl, ?_⟩
      refine ⟨_, rfl, _, _, _, _, rfl, rfl, SqT.of (s1 _ _ h1), atI_nat (j := 2) rfl, q, pl, rfl, .inl (SqT.of (s1 _ _ h2)), hwf.2, fun ns' r hp1 hp2 hr' => ?_⟩
      have s2 := same_new hr' (.lst (ns'.map V.int))
      refine ⟨(by show 3 ≤ sizeLine; exact small (by decide)), fun l hl => ?_⟩
      have s3 := same_new hl (.lst [.int 0, .int 1, .int 2])
      have s13 := s1.trans (s2.trans s3)
      have e3 : (upd (upd H' r (.lst (ns'.map V.int))) l (.lst [.int 0, .int 1, .int 2])) l = some (.lst (([0, 1, 2] : List Int).map V.int)) := upd_same
      refine ⟨_, _, dpLst (s3 _ _ upd_same), dpLst e3, shapedInts _, shapedInts _, _, rfl, ?_⟩
      have er : rng 3 = [0, 1, 2] := by decide
      have ep : PyData.eqv (.list (ns'.map PyData.int)) (.list (([0, 1, 2] : List Int).map PyData.int)) = pl.isPerm [0, 1, 2] := by
        rw [eqvIntsL, ← er]
        exact perm_dec hp1 hp2
      rw [ep]
      by_cases c1 : pl.isPerm [0, 1, 2] = true
      · refine ifT c1 ⟨_, rfl, _, _, rfl, rfl, _, rfl, fun z => ?_, fun z => ?_⟩
        · have hm : m < 12 := by have := of_decide_eq_true z; omega
          refine ⟨_, rfl, _, rfl, _, _, _, _, rfl, rfl, SqT.of (s13 _ _ h1), atI_nat (j := 2) rfl, q, _, rfl, SqT.of (s13 _ _ h2), (by show 3 ≤ sizeLine; exact small (by decide)), fun u hu => ?_⟩
          have s4 := same_new hu (.tup [.str (ws "turned"), v', .ref q])
          refine ⟨_, rfl, _, _, rfl, rfl, _, rfl, (by show 3 ≤ sizeLine; exact small (by decide)), fun u2 hu2 => ?_⟩
          have s5 := same_new hu2 (.tup [.ref u, .int (((m : Nat) : Int) + 1), .int c])
          refine k1 (m + 1) c (by rw [ec]; exact if_pos ⟨c1, hm⟩) u2 (.ref u) _ (s13.trans (s4.trans s5)) ⟨u, v', q, rfl, s5 _ _ upd_same, ?_, s5 _ _ (s4 _ _ (s13 _ _ h2))⟩ upd_same
          exact ht'.same ((s2.trans s3).trans (s4.trans s5))
        · have hm : ¬ m < 12 := by have := of_decide_eq_false z; omega
          exact k2 (by rw [ec]; exact if_neg (fun y => hm y.2)) _ s13
      · exact ifF (Bool.eq_false_iff.mpr c1) ⟨_, rfl, fun z => (by cases z), fun _ => k2 (by rw [ec]; exact if_neg (fun y => c1 y.1)) _ s13⟩
    | product s t =>
      obtain ⟨a, x, y, ea, h1, hs, ht2⟩ := id ht
      cases ea
      refine ⟨_, rfl, _, _, _, _, rfl, rfl, SqT.of h1, atI_nat (j := 0) rfl, rfl, _, rfl, str_ne (by decide) ?_⟩
      refine ⟨_, rfl, _, _, _, _, rfl, rfl, SqT.of h1, atI_nat (j := 0) rfl, rfl, _, rfl, str_eq ?_⟩
      refine ⟨_, rfl, _, _, _, _, rfl, rfl, SqT.of h1, atI_nat (j := 1) rfl, _, rfl, _, _, rfl, rfl, x, d + 1, s, L, rfl, hs, hwf.1, by omega, by omega, fun m c e a' v' H1 s1 ht' ha' => ?_, fun e H' s1 => k2 (chk_product_none hd12 e) H' s1⟩
      refine ⟨a', _, rfl, SqT.of ha', rfl, _, _, rfl, _, _, rfl, _, _, rfl, rfl, ?_⟩
      refine ⟨_, rfl, _, _, _, _, rfl, rfl, SqT.of (s1 _ _ h1), atI_nat (j := 2) rfl, _, rfl, _, _, rfl, rfl, y, d + 1, t, L, rfl, ht2.same s1, hwf.2, by omega, by omega, fun m' c' e' a'' v'' H2 s2 ht'' ha'' => ?_, fun e' H' s2 => k2 (chk_product_none2 hd12 e e') H' (s1.trans s2)⟩
      have hb1 := chk_bd e
      have hb2 := chk_bd e'
      have ec := chk_product_some hd12 e e'
      refine ⟨a'', _, rfl, SqT.of ha'', rfl, _, _, rfl, _, _, rfl, _, _, rfl, rfl, ?_⟩
      have s12 := s1.trans s2
      refine ⟨_, _, fun R h => ⟨_, rfl, _, rfl, _, _, rfl, rfl, _, _, rfl, rfl, h⟩, fun _ R h => ⟨_, rfl, _, rfl, _, _, rfl, rfl, wide_mul hb1 hb2 (by decide) (by decide) (by decide), _, _, rfl, rfl, h⟩, _, rfl, fun z => ?_, fun z => ?_⟩
      · rw [Bool.and_eq_true, decide_eq_true_eq, decide_eq_true_eq] at z
        refine ⟨_, rfl, _, rfl, (by show 3 ≤ sizeLine; exact small (by decide)), fun u hu => ?_⟩
        have s4 := same_new hu (.tup [.str (ws "product"), v', v''])
        refine ⟨_, rfl, _, rfl, _, _, rfl, rfl, _, _, rfl, rfl, _, rfl, _, rfl, _, _, rfl, rfl, wide_mul hb1 hb2 (by decide) (by decide) (by decide), (by show 3 ≤ sizeLine; exact small (by decide)), fun u2 hu2 => ?_⟩
        have s5 := same_new hu2 (.tup [.ref u, .int (((m : Nat) : Int) + ((m' : Nat) : Int) + 1), .int (c * c')])
        refine k1 (m + m' + 1) (c * c') (by rw [ec]; exact if_pos ⟨by omega, by rw [ten30]; exact z.2⟩) u2 (.ref u) _ (s12.trans (s4.trans s5)) ⟨u, v', v'', rfl, s5 _ _ upd_same, ht'.same (s2.trans (s4.trans s5)), ht''.same (s4.trans s5)⟩ upd_same
      · refine k2 ?_ _ s12
        rw [ec]
        refine if_neg fun y => ?_
        rw [Bool.and_eq_false_iff, decide_eq_false_iff_not, decide_eq_false_iff_not] at z
        rcases z with z | z
        · exact z (by have := y.1; omega)
        · exact z (by have := y.2; rw [ten30] at this; exact this)
/-- the whole tree: parts and order are dropped -/
def spChecked (C : Addr) : Sp := fun vs H Q E => ∃ (v : V) (t : T) (L : Addr → Prop), vs = [v] ∧ TreeAt H L t v ∧ WF t ∧
  (chk t 1 ≠ none → ∀ (v' : V) (H' : Hp), Same H H' → TreeAt H' no t v' → Q v' H') ∧ (chk t 1 = none → ∀ H', Same H H' → E (.ref C) none H')
theorem scChecked : FnScope ["tree"] ["tree"] (defScope sChecked) := ⟨rfl, rfl, rfl, by decide +kernel, rfl, by decide +kernel, by decide +kernel⟩
theorem ok_checked {f fp : Addr} {fd fdp : FuncData} {ds : List Value} (F : Fun K "checked" "checked" sChecked f fd) (mP : mg "checked_part" = some (.ref fp)) (kP : PySem.W.keepIn K (.ref fp) = true) (bP : Binds K fdp ["tree", "depth"] ds) (dP : Vals [.int 1] ds)
    (GP : FnOk P w K mg base (L2.CX P w) 16 fp fdp ["tree", "depth"] (spPart C 13)) : FnOk P w K mg base (L2.CX P w) 17 f fd ["tree"] (spChecked C) := by
  refine F.okX scChecked (fun vs H Q E h => ?_) (fun cdv A outer s H vs Q E hr h => ?_)
  · obtain ⟨v, t, L, rfl, _⟩ := h
    rfl
  obtain ⟨v, t, L, rfl, ht, hwf, k1, k2⟩ := h
  refine ⟨_, pss_one (ps_ret (pe_ix ix_tup (pe_call GP hr rfl mP kP bP dP (passes_call (takes_of rfl rfl rfl rfl) (fun _ _ _ _ h => h)) (pa_cons (pv 0) pa_nil)) pe_int (fun _ _ => rfl))), ?_⟩
  refine ⟨_, rfl, v, 1, t, L, rfl, ht, hwf, by decide, by decide, fun m c e a v' H' s1 ht' ha => ?_, fun e H' s1 => k2 e H' s1⟩
  exact ⟨a, _, _, _, rfl, rfl, SqT.of ha, atI_nat (j := 0) rfl, k1 (by rw [e]; simp) v' H' s1 ht'⟩
end
end K5
/-! K5, walks 5: line_of, lines_of, format_square. -/
namespace K5
open PySem PySem.Spec PyProof.Rows L2
abbrev sLine : Stmt := topS 31
abbrev sLines : Stmt := topS 32
abbrev sFormat : Stmt := topS 33
theorem nice_log {i : Int} (h : nice i) : i.natAbs.log2 < 1920 := by
  have h1 := h.2
  have h0 := h.1
  rw [ten30] at h1
  have h2 : i.natAbs < 2 ^ 100 := by
    have : (2 : Nat) ^ 100 = 1267650600228229401496703205376 := by decide
    omega
  by_cases e : i.natAbs = 0
  · rw [e]; decide
  · exact Nat.lt_trans ((Nat.log2_lt e).mpr h2) (by decide)
def rStrI : List V → Hp → VK → Prop := fun xs H Q => ∃ i, xs = [.int i] ∧ i.natAbs.log2 < 1920 ∧ Q (.str (num i)) H
theorem cr_strI {X : Cx} : CallR X (.type "str") rStrI := call_str_int
def spLine (b : Bool) : Sp := fun vs H Q _ => ∃ (w : Str) (a : Addr) (ns : List Int), vs = [.str w, .ref a] ∧ (if b = true then H a = some (.lst (ns.map V.int)) else H a = some (.tup (ns.map V.int))) ∧ (∀ x ∈ ns, nice x) ∧ ns.length ≤ 100 ∧ szL (w :: ns.map num) ≤ 1000000 ∧
  ∀ H', Same H H' → Q (.str (ln (w :: ns.map num))) H'
theorem scLine : FnScope ["word", "numbers", "number"] ["word", "numbers"] (defScope sLine) := ⟨rfl, rfl, rfl, by decide +kernel, rfl, by decide +kernel, by decide +kernel⟩
theorem map_at {α β : Type} {f : α → β} {l : List α} {i : Nat} {y : β} (h : (l.map f)[i]? = some y) : ∃ x, l[i]? = some x ∧ y = f x := by
  rw [List.getElem?_map] at h
  cases e : l[i]? with
  | none => rw [e] at h; cases h
  | some x => rw [e] at h; exact ⟨x, rfl, (Option.some.inj h).symm⟩
section
variable {P : Program} {w : World} {K : PySem.W.Frag} {mg : Str → Option Value} {base : Heap} {C : Addr}

theorem ok_lineL {f : Addr} {fd : FuncData} (B : Bl mg) (F : Fun K "line_of" "line_of" sLine f fd) : FnOk P w K mg base CX0 1 f fd ["word", "numbers"] (spLine true) := by
  refine F.ok scLine (fun vs H Q E h => ?_) (fun cdv A outer s H vs Q E hr h => ?_)
  · obtain ⟨x, a, ns, rfl, _⟩ := h
    rfl
  obtain ⟨x, a, ns, rfl, ha0, hnice, hlen, hsz, k⟩ := h
  have ha : H a = some (.lst (ns.map V.int)) := ha0
  refine ⟨_, pss_one (ps_ret (pe_join pe_str (pe_op op_cat (pe_lst (pa_cons (pv 0) pa_nil)) (pe_lc (own := [("number", 2)]) (g := gName 2) (tt := tYes) (te := tCB rStrI (tCons (tVar 2) tNil)) rfl scLine.nd (pi_list (pv 1))
    (blkOk_by (N := ["word", "numbers", "number"]) (sc := defScope sLine) (by decide +kernel)) (fun _ _ _ _ _ => pg_name (i := 2) scLine.nd rfl (Or.inl rfl)) (fun _ _ _ _ _ => pts_nil) (fun _ _ _ _ _ => pe_callTy (T := "str") cr_strI rfl B.str (by decide +kernel) (pa_cons (pv 2) pa_nil)))))), ?_⟩
  refine ⟨⟨_, rfl⟩, _, rfl, (by show 1 ≤ sizeLine; exact small (by decide)), fun p hp => ?_⟩
  have s1 := same_new hp (.lst [.str x])
  have e1 : upd H p (.lst [.str x]) p = some (.lst [.str x]) := upd_same
  generalize upd H p (.lst [.str x]) = H1 at s1 e1
  refine ⟨_, rfl, a, rfl, ⟨_, SqL.of (s1 _ _ ha)⟩, fun D hD => lc_list (xs := ns.map V.int) (fun j H4 => H4 = upd H1 D (.lst ((ns.take j).map fun i => .str (num i)))) rfl ?_ ?_ ?_⟩
  · rintro j H4 _ rfl
    exact SqL.of (same_new hD _ _ _ (s1 _ _ ha))
  · rintro j y H4 hx rfl
    obtain ⟨i, hi, rfl⟩ := map_at hx
    refine ⟨rfl, ?_⟩
    refine ⟨_, rfl, i, rfl, nice_log (hnice i (List.mem_of_getElem? hi)), _, upd_same, ?_, ?_⟩
    · rw [List.length_map, List.length_take]
      exact small1000 (by omega)
    · rw [upd_upd, take_snoc hi, List.map_append]
      rfl
  · rintro H4 rfl
    rw [List.length_map, List.take_length]
    have s2 := same_new hD (.lst (ns.map fun i => V.str (num i)))
    refine ⟨p, D, _, _, rfl, rfl, s2 _ _ e1, upd_same, ?_, fun q hq => ?_⟩
    · rw [List.length_map, List.length_singleton]
      exact small (by omega)
    have s3 := same_new hq (.lst ([.str x] ++ ns.map fun i => V.str (num i)))
    refine ⟨sp1, q, x :: ns.map num, rfl, rfl, .inl (SqL.of ?_), ?_, ?_⟩
    · rw [upd_same, List.map_cons, List.map_map]
      rfl
    · have e : (sp1 : Str).length = 1 := by decide
      rw [e, Nat.mul_one, szL_len]
      omega
    · rw [TL.join_eq]
      exact k _ (s1.trans (s2.trans s3))

theorem ok_lineT {f : Addr} {fd : FuncData} (B : Bl mg) (F : Fun K "line_of" "line_of" sLine f fd) : FnOk P w K mg base CX0 1 f fd ["word", "numbers"] (spLine false) := by
  refine F.ok scLine (fun vs H Q E h => ?_) (fun cdv A outer s H vs Q E hr h => ?_)
  · obtain ⟨x, a, ns, rfl, _⟩ := h
    rfl
  obtain ⟨x, a, ns, rfl, ha0, hnice, hlen, hsz, k⟩ := h
  have ha : H a = some (.tup (ns.map V.int)) := ha0
  refine ⟨_, pss_one (ps_ret (pe_join pe_str (pe_op op_cat (pe_lst (pa_cons (pv 0) pa_nil)) (pe_lc (own := [("number", 2)]) (g := gName 2) (tt := tYes) (te := tCB rStrI (tCons (tVar 2) tNil)) rfl scLine.nd (pi_tup (pv 1))
    (blkOk_by (N := ["word", "numbers", "number"]) (sc := defScope sLine) (by decide +kernel)) (fun _ _ _ _ _ => pg_name (i := 2) scLine.nd rfl (Or.inl rfl)) (fun _ _ _ _ _ => pts_nil) (fun _ _ _ _ _ => pe_callTy (T := "str") cr_strI rfl B.str (by decide +kernel) (pa_cons (pv 2) pa_nil)))))), ?_⟩
  refine ⟨⟨_, rfl⟩, _, rfl, (by show 1 ≤ sizeLine; exact small (by decide)), fun p hp => ?_⟩
  have s1 := same_new hp (.lst [.str x])
  have e1 : upd H p (.lst [.str x]) p = some (.lst [.str x]) := upd_same
  generalize upd H p (.lst [.str x]) = H1 at s1 e1
  refine ⟨_, rfl, a, rfl, ⟨_, SqT.of (s1 _ _ ha)⟩, fun D hD => lc_tup (xs := ns.map V.int) (fun j H4 => H4 = upd H1 D (.lst ((ns.take j).map fun i => .str (num i)))) rfl ?_ ?_ ?_⟩
  · rintro j H4 _ rfl
    exact SqT.of (same_new hD _ _ _ (s1 _ _ ha))
  · rintro j y H4 hx rfl
    obtain ⟨i, hi, rfl⟩ := map_at hx
    refine ⟨rfl, ?_⟩
    refine ⟨_, rfl, i, rfl, nice_log (hnice i (List.mem_of_getElem? hi)), _, upd_same, ?_, ?_⟩
    · rw [List.length_map, List.length_take]
      exact small1000 (by omega)
    · rw [upd_upd, take_snoc hi, List.map_append]
      rfl
  · rintro H4 rfl
    rw [List.length_map, List.take_length]
    have s2 := same_new hD (.lst (ns.map fun i => V.str (num i)))
    refine ⟨p, D, _, _, rfl, rfl, s2 _ _ e1, upd_same, ?_, fun q hq => ?_⟩
    · rw [List.length_map, List.length_singleton]
      exact small (by omega)
    have s3 := same_new hq (.lst ([.str x] ++ ns.map fun i => V.str (num i)))
    refine ⟨sp1, q, x :: ns.map num, rfl, rfl, .inl (SqL.of ?_), ?_, ?_⟩
    · rw [upd_same, List.map_cons, List.map_map]
      rfl
    · have e : (sp1 : Str).length = 1 := by decide
      rw [e, Nat.mul_one, szL_len]
      omega
    · rw [TL.join_eq]
      exact k _ (s1.trans (s2.trans s3))

def hg : T → Nat
  | .product s t => 1 + max (hg s) (hg t)
  | .turned s _ => 1 + hg s
  | _ => 1
theorem hg_pos : ∀ t : T, 1 ≤ hg t
  | .listed _ => Nat.le_refl _
  | .sum .. => Nat.le_refl _
  | .field .. => Nat.le_refl _
  | .product .. => by unfold hg; omega
  | .turned .. => by unfold hg; omega
  | .bad _ => Nat.le_refl _
theorem hg_many : ∀ t : T, hg t ≤ many t
  | .listed _ => Nat.le_refl _
  | .sum .. => Nat.le_refl _
  | .field .. => Nat.le_refl _
  | .product s t => by
    have h1 := hg_many s
    have h2 := hg_many t
    have h3 := many_pos s
    have h4 := many_pos t
    unfold hg many
    omega
  | .turned s _ => by
    have h1 := hg_many s
    unfold hg many
    omega
  | .bad _ => Nat.le_refl _
theorem lines_listed (rows : List (List Int)) : lines (.listed rows) = ln [ws "listed", num rows.length] :: rows.map (fun r => ln (ws "row" :: r.map num)) := by
  unfold lines wl
  rw [List.map_cons, List.map_map]
  rfl
theorem lines_product (s t : T) : lines (.product s t) = ws "product" :: (lines s ++ lines t) := by
  unfold lines
  show (([ws "product"] :: (wl s ++ wl t)).map ln) = _
  rw [List.map_cons, List.map_append]
  rfl
theorem szL_ln {w : Str} {l : List Str} (hw : w.length ≤ 10) (hl : szL l ≤ 384) : szL (w :: l) ≤ 1000000 := by rw [szL_cons]; omega
def spLines (n : Nat) : Sp := fun vs H Q _ => ∃ (v : V) (t : T), vs = [v] ∧ TreeAt H no t v ∧ Nn t ∧ hg t ≤ n ∧ many t ≤ 100 ∧ ∀ (p : Addr) (H' : Hp), Same H H' → H' p = some (.lst ((lines t).map V.str)) → Q (.ref p) H'
theorem scLines : FnScope ["tree", "kind", "row"] ["tree"] (defScope sLines) := ⟨rfl, rfl, rfl, by decide +kernel, rfl, by decide +kernel, by decide +kernel⟩
theorem len_ok {t : T} (h : Nn t) (hm : many t ≤ 100) : (lines t).length ≤ 1300 := by
  have := (sz_lines t h).2
  omega
theorem ok_lines {f fl : Addr} {fd fdl : FuncData} (B : Bl mg) (F : Df K mg "lines_of" sLines ["tree"] f fd) (D : Df K mg "line_of" sLine ["word", "numbers"] fl fdl) (G : FnOk P w K mg base CX0 1 fl fdl ["word", "numbers"] (fun vs H Q E => ∃ b, spLine b vs H Q E)) :
    ∀ n, FnOk P w K mg base CX0 (1 + n) f fd ["tree"] (spLines n)
  | 0 => none_left fun vs H Q E ⟨v, t, _, _, _, h, _⟩ => by have := hg_pos t; omega
  | n + 1 => by
    have GP := ok_lines B F D G n
    refine F.F.ok scLines (fun vs H Q E h => ?_) (fun cdv A outer s H vs Q E hr h => ?_)
    · obtain ⟨v, t, rfl, _⟩ := h
      rfl
    obtain ⟨v, t, rfl, ht, hnn, hhg, hmany, k⟩ := h
    have hr : Room (1 + n) _ := hr
    have hr1 := hr.mono (show 1 ≤ 1 + n by omega)
    refine ⟨_, pss_cons (ps_set (i := 1) scLines.nd rfl (.inl rfl) (pe_ix ix_tup (pv 0) pe_int (fun _ _ => rfl)))
      (pss_cons (ps_if (pt_cmpR op_eq (pv 1) pe_str (nomark _)) (pss_one (ps_ret (pe_op op_cat (pe_op op_cat (pe_lst (pa_cons (pv 1) pa_nil)) (pe_call GP hr rfl F.m F.kp F.b .nil pass0 (pa_cons (pe_ix ix_tup (pv 0) pe_int (fun _ _ => rfl)) pa_nil))) (pe_call GP hr rfl F.m F.kp F.b .nil pass0 (pa_cons (pe_ix ix_tup (pv 0) pe_int (fun _ _ => rfl)) pa_nil))))) pss_nil)
      (pss_cons (ps_if (pt_cmpR op_eq (pv 1) pe_str (nomark _)) (pss_one (ps_ret (pe_op op_cat (pe_lst (pa_cons (pe_call G hr1 rfl D.m D.kp D.b .nil pass0 (pa_cons (pv 1) (pa_cons (pe_ix ix_tup (pv 0) pe_int (fun _ _ => rfl)) pa_nil))) pa_nil)) (pe_call GP hr rfl F.m F.kp F.b .nil pass0 (pa_cons (pe_ix ix_tup (pv 0) pe_int (fun _ _ => rfl)) pa_nil))))) pss_nil)
      (pss_cons (ps_if (pt_cmpR op_eq (pv 1) pe_str (nomark _)) (pss_one (ps_ret (pe_op op_cat
          (pe_lst (pa_cons (pe_call G hr1 rfl D.m D.kp D.b .nil pass0 (pa_cons (pv 1) (pa_cons (pe_lst (pa_cons (pe_callB call_len_seq rfl B.len PySem.boot_len (pa_cons (pe_ix ix_tup (pv 0) pe_int (fun _ _ => rfl)) pa_nil)) pa_nil)) pa_nil))) pa_nil))
          (pe_lc (own := [("row", 2)]) (g := gName 2) (tt := tYes) (te := tCall (fun vs H Q E => ∃ b, spLine b vs H Q E) [] E0 (tCons (tC (.str (ws "row"))) (tCons (tVar 2) tNil))) rfl scLines.nd (pi_tup (pe_ix ix_tup (pv 0) pe_int (fun _ _ => rfl)))
            (blkOk_by (N := ["tree", "kind", "row"]) (sc := defScope sLines) (by decide +kernel)) (fun _ _ _ _ _ => pg_name (i := 2) scLines.nd rfl (Or.inl rfl)) (fun _ _ _ _ _ => pts_nil) (fun _ _ _ _ _ => pe_call G hr1 rfl D.m D.kp D.b .nil pass0 (pa_cons pe_str (pa_cons (pv 2) pa_nil))))))) pss_nil)
      (pss_one (ps_ret (pe_lst (pa_cons (pe_call G hr1 rfl D.m D.kp D.b .nil pass0 (pa_cons (pv 1) (pa_cons (pe_slice sl_tup (pv 0) (po_some pe_int) po_none) pa_nil))) pa_nil))))))), ?_⟩
    cases t with
    | bad s => exact hnn.elim
    | product s t =>
      obtain ⟨a, x, y, rfl, h1, hs, ht2⟩ := ht
      have hmm : many (.product s t) = 1 + many s + many t := rfl
      have hhh : hg (.product s t) = 1 + max (hg s) (hg t) := rfl
      refine ⟨_, rfl, _, _, _, _, rfl, rfl, SqT.of h1, atI_nat (j := 0) rfl, _, rfl, rfl, _, rfl, str_eq ?_⟩
      refine ⟨_, rfl, (by show 1 ≤ sizeLine; exact small (by decide)), fun p hp => ?_⟩
      have s1 := same_new hp (.lst [.str (ws "product")])
      have e1 : upd H p (.lst [.str (ws "product")]) p = some (.lst [.str (ws "product")]) := upd_same
      generalize upd H p (.lst [.str (ws "product")]) = H1 at s1 e1
      refine ⟨_, rfl, _, _, _, _, rfl, rfl, SqT.of (s1 _ _ h1), atI_nat (j := 1) rfl, x, s, rfl, hs.same s1, hnn.1, by omega, by omega, fun p2 H2 s2 e2 => ?_⟩
      have l1 := len_ok hnn.1 (by omega)
      have l2 := len_ok hnn.2 (by omega)
      refine ⟨p, p2, _, _, rfl, rfl, s2 _ _ e1, e2, ?_, fun p3 hp3 => ?_⟩
      · rw [List.length_map, List.length_singleton]
        exact small7 (by omega)
      have s3 := same_new hp3 (.lst ([.str (ws "product")] ++ (lines s).map V.str))
      have e3 : upd H2 p3 (.lst ([.str (ws "product")] ++ (lines s).map V.str)) p3 = some (.lst ([.str (ws "product")] ++ (lines s).map V.str)) := upd_same
      generalize upd H2 p3 (.lst ([.str (ws "product")] ++ (lines s).map V.str)) = H3 at s3 e3
      have s03 := s1.trans (s2.trans s3)
      refine ⟨_, rfl, _, _, _, _, rfl, rfl, SqT.of (s03 _ _ h1), atI_nat (j := 2) rfl, y, t, rfl, ht2.same s03, hnn.2, by omega, by omega, fun p4 H4 s4 e4 => ?_⟩
      refine ⟨p3, p4, _, _, rfl, rfl, s4 _ _ e3, e4, ?_, fun p5 hp5 => ?_⟩
      · rw [List.length_map, List.length_append, List.length_map, List.length_singleton]
        exact small7 (by omega)
      refine k p5 _ (s03.trans (s4.trans (same_new hp5 _))) ?_
      rw [upd_same, lines_product, List.map_cons, List.map_append]
      rfl
    | turned s pl =>
      obtain ⟨a, x, q, rfl, h1, hs, h2⟩ := ht
      have hmm : many (.turned s pl) = 1 + many s := rfl
      have hhh : hg (.turned s pl) = 1 + hg s := rfl
      refine ⟨_, rfl, _, _, _, _, rfl, rfl, SqT.of h1, atI_nat (j := 0) rfl, _, rfl, rfl, _, rfl, str_ne (by decide) ?_⟩
      refine ⟨_, rfl, rfl, _, rfl, str_eq ?_⟩
      refine ⟨_, rfl, _, rfl, _, _, _, _, rfl, rfl, SqT.of h1, atI_nat (j := 2) rfl, false, _, q, pl, rfl, h2, hnn.2.2, by have := hnn.2.1; omega, szL_ln (by decide) (szL_nums hnn.2.2 (by have := hnn.2.1; omega)), fun H1 s1 => ?_⟩
      refine ⟨(by show 1 ≤ sizeLine; exact small (by decide)), fun p hp => ?_⟩
      have s2 := same_new hp (.lst [.str (ln (ws "turned" :: pl.map num))])
      have e2 : upd H1 p (.lst [.str (ln (ws "turned" :: pl.map num))]) p = some (.lst [.str (ln (ws "turned" :: pl.map num))]) := upd_same
      generalize upd H1 p (.lst [.str (ln (ws "turned" :: pl.map num))]) = H2 at s2 e2
      have s02 := s1.trans s2
      refine ⟨_, rfl, _, _, _, _, rfl, rfl, SqT.of (s02 _ _ h1), atI_nat (j := 1) rfl, x, s, rfl, hs.same s02, hnn.1, by omega, by omega, fun p3 H3 s3 e3 => ?_⟩
      have l1 := len_ok hnn.1 (by omega)
      refine ⟨p, p3, _, _, rfl, rfl, s3 _ _ e2, e3, ?_, fun p4 hp4 => ?_⟩
      · rw [List.length_map, List.length_singleton]
        exact small7 (by omega)
      refine k p4 _ (s02.trans (s3.trans (same_new hp4 _))) ?_
      rw [upd_same]
      rfl
    | listed rows =>
      obtain ⟨a, r, rs, rfl, h1, h2, h3⟩ := ht
      have h2 : H r = some (.tup rs) := h2.elim (fun z => z) (fun z => z.1.elim)
      have hlen : rs.length = rows.length := Paired.length h3
      refine ⟨_, rfl, _, _, _, _, rfl, rfl, SqT.of h1, atI_nat (j := 0) rfl, _, rfl, rfl, _, rfl, str_ne (by decide) ?_⟩
      refine ⟨_, rfl, rfl, _, rfl, str_ne (by decide) ?_⟩
      refine ⟨_, rfl, rfl, _, rfl, str_eq ?_⟩
      refine ⟨_, rfl, _, rfl, _, _, _, _, rfl, rfl, SqT.of h1, atI_nat (j := 1) rfl, r, rs, rfl, .inr (SqT.of h2), (by show 1 ≤ sizeLine; exact small (by decide)), fun p0 hp0 => ?_⟩
      have s0 := same_new hp0 (.lst [.int ((rs.length : Nat) : Int)])
      have hni : ∀ x ∈ [((rs.length : Nat) : Int)], nice x := fun x hx => by
        rw [List.mem_singleton] at hx
        subst hx
        have := hnn.2.1
        exact ⟨by omega, by rw [ten30]; omega⟩
      refine ⟨true, _, p0, [((rs.length : Nat) : Int)], rfl, upd_same, hni, by simp, szL_ln (by decide) (szL_nums hni (by simp)), fun H1 s1 => ?_⟩
      refine ⟨(by show 1 ≤ sizeLine; exact small (by decide)), fun p hp => ?_⟩
      have s2 := same_new hp (.lst [.str (ln (ws "listed" :: [((rs.length : Nat) : Int)].map num))])
      have e2 : upd H1 p (.lst [.str (ln (ws "listed" :: [((rs.length : Nat) : Int)].map num))]) p = some (.lst [.str (ln (ws "listed" :: [((rs.length : Nat) : Int)].map num))]) := upd_same
      generalize upd H1 p (.lst [.str (ln (ws "listed" :: [((rs.length : Nat) : Int)].map num))]) = H2 at s2 e2
      have s02 := s0.trans (s1.trans s2)
      refine ⟨_, rfl, _, _, _, _, rfl, rfl, SqT.of (s02 _ _ h1), atI_nat (j := 1) rfl, r, rfl, ⟨_, SqT.of (s02 _ _ h2)⟩, fun Dl hD => lc_tup (xs := rs) (fun j H4 => Same H2 H4 ∧ H4 Dl = some (.lst ((rows.take j).map fun r => .str (ln (ws "row" :: r.map num))))) ⟨same_new hD _, upd_same⟩ ?_ ?_ ?_⟩
      · rintro j H4 _ ⟨s4, _⟩
        exact SqT.of (s4 _ _ (s02 _ _ h2))
      · rintro j x H4 hx ⟨s4, e4⟩
        obtain ⟨row, ar, hrow, rfl, har⟩ := h3.at hx
        have hm := hnn.2.2 row (List.mem_of_getElem? hrow)
        refine ⟨rfl, ?_⟩
        refine ⟨_, rfl, false, _, ar, row, rfl, s4 _ _ (s02 _ _ har), hm.2.2, by omega, szL_ln (by decide) (szL_nums hm.2.2 hm.2.1), fun H5 s5 => ?_⟩
        refine ⟨_, s5 _ _ e4, ?_, ?_, ?_⟩
        · rw [List.length_map, List.length_take]
          exact small1000 (by have := hnn.2.1; omega)
        · exact fun b o q => by rw [upd_ne (ne_of_none q hD)]; exact s5 _ _ (s4 _ _ q)
        · rw [upd_same, take_snoc hrow, List.map_append]
          rfl
      · rintro H4 ⟨s4, e4⟩
        rw [hlen, List.take_length] at e4
        refine ⟨p, Dl, _, _, rfl, rfl, s4 _ _ e2, e4, ?_, fun p5 hp5 => ?_⟩
        · rw [List.length_map, List.length_singleton]
          exact small (by have := hnn.2.1; omega)
        refine k p5 _ (s02.trans (s4.trans (same_new hp5 _))) ?_
        rw [upd_same, lines_listed, hlen]
        simp only [List.map_cons, List.map_map, List.map_nil, List.cons_append, List.nil_append]
        rfl
    | sum n x y =>
      obtain ⟨a, rfl, h1⟩ := ht
      refine ⟨_, rfl, _, _, _, _, rfl, rfl, SqT.of h1, atI_nat (j := 0) rfl, _, rfl, rfl, _, rfl, str_ne (by decide) ?_⟩
      refine ⟨_, rfl, rfl, _, rfl, str_ne (by decide) ?_⟩
      refine ⟨_, rfl, rfl, _, rfl, str_ne (by decide) ?_⟩
      refine ⟨_, rfl, _, rfl, _, rfl, a, _, rfl, SqT.of h1, (fun z => absurd (show (1 : Nat) = 0 from z.1) (by decide)), fun p0 hp0 => ?_⟩
      have hni : ∀ z ∈ [n, x, y], nice z := fun z hz => by
        simp only [List.mem_cons, List.not_mem_nil, or_false] at hz
        rcases hz with e | e | e
        · subst e; exact hnn.1
        · subst e; exact hnn.2.1
        · subst e; exact hnn.2.2
      refine ⟨false, _, p0, [n, x, y], rfl, upd_same, hni, by simp, szL_ln (by decide) (szL_nums hni (by simp)), fun H1 s1 => ?_⟩
      refine ⟨(by show 1 ≤ sizeLine; exact small (by decide)), fun p hp => ?_⟩
      exact k p _ ((same_new hp0 _).trans (s1.trans (same_new hp _))) upd_same
    | field n x y =>
      obtain ⟨a, rfl, h1⟩ := ht
      refine ⟨_, rfl, _, _, _, _, rfl, rfl, SqT.of h1, atI_nat (j := 0) rfl, _, rfl, rfl, _, rfl, str_ne (by decide) ?_⟩
      refine ⟨_, rfl, rfl, _, rfl, str_ne (by decide) ?_⟩
      refine ⟨_, rfl, rfl, _, rfl, str_ne (by decide) ?_⟩
      refine ⟨_, rfl, _, rfl, _, rfl, a, _, rfl, SqT.of h1, (fun z => absurd (show (1 : Nat) = 0 from z.1) (by decide)), fun p0 hp0 => ?_⟩
      have hni : ∀ z ∈ [n, x, y], nice z := fun z hz => by
        simp only [List.mem_cons, List.not_mem_nil, or_false] at hz
        rcases hz with e | e | e
        · subst e; exact hnn.1
        · subst e; exact hnn.2.1
        · subst e; exact hnn.2.2
      refine ⟨false, _, p0, [n, x, y], rfl, upd_same, hni, by simp, szL_ln (by decide) (szL_nums hni (by simp)), fun H1 s1 => ?_⟩
      refine ⟨(by show 1 ≤ sizeLine; exact small (by decide)), fun p hp => ?_⟩
      exact k p _ ((same_new hp0 _).trans (s1.trans (same_new hp _))) upd_same
theorem wf_of_nn : ∀ t : T, Val t → WF t
  | .listed rows, h => by
    have h1 := nn_of_val (.listed rows) h
    exact ⟨by have := h1.2.1; omega, fun r hr => by have := (h1.2.2 r hr).2.1; omega⟩
  | .sum .., _ => trivial
  | .field p k a, h => by
    unfold Val chkFld at h
    rw [Bool.and_eq_true] at h
    have h2 := isFld_bd h.1
    exact ⟨⟨by omega, by omega⟩, ⟨by omega, by omega⟩⟩
  | .product s t, h => ⟨wf_of_nn s h.1, wf_of_nn t h.2⟩
  | .turned s pl, h => ⟨wf_of_nn s h.1, by have := (List.isPerm_iff.mp h.2).length_eq; rw [this]; decide⟩
  | .bad _, h => h.elim
def spFormat (C : Addr) : Sp := fun vs H Q E => ∃ (v : V) (t : T) (L : Addr → Prop), vs = [v] ∧ TreeAt H L t v ∧ WF t ∧
  (chk t 1 ≠ none → ∀ H', Same H H' → Q (.str (textOf t)) H') ∧ (chk t 1 = none → ∀ H', Same H H' → E (.ref C) none H')
theorem scFormat : FnScope ["tree"] ["tree"] (defScope sFormat) := ⟨rfl, rfl, rfl, by decide +kernel, rfl, by decide +kernel, by decide +kernel⟩
theorem chk_some {t : T} {d : Nat} (h : chk t d ≠ none) : Val t ∧ many t ≤ 12 := by
  cases e : chk t d with
  | none => exact absurd e h
  | some p =>
    have := chk_val (t := t) (d := d) (m := p.1) (c := p.2) e
    exact ⟨this.1, by omega⟩
theorem ok_format {f fc fl : Addr} {fd fdc fdl : FuncData} (F : Fun K "format_square" "format_square" sFormat f fd) (Dc : Df K mg "checked" sChecked ["tree"] fc fdc) (Gc : FnOk P w K mg base (L2.CX P w) 17 fc fdc ["tree"] (spChecked C))
    (Dl : Df K mg "lines_of" sLines ["tree"] fl fdl) (Gl : FnOk P w K mg base CX0 13 fl fdl ["tree"] (spLines 12)) : FnOk P w K mg base (L2.CX P w) 18 f fd ["tree"] (spFormat C) := by
  refine F.okX scFormat (fun vs H Q E h => ?_) (fun cdv A outer s H vs Q E hr h => ?_)
  · obtain ⟨v, t, L, rfl, _⟩ := h
    rfl
  obtain ⟨v, t, L, rfl, ht, hwf, k1, k2⟩ := h
  have hrl := hr.mono (show 13 ≤ 17 by decide)
  refine ⟨_, pss_one (ps_ret (pe_join pe_str (pe_op op_cat (pe_lst (pa_cons pe_str pa_nil)) (pe_call Gl hrl rfl Dl.m Dl.kp Dl.b .nil pass0 (pa_cons (pe_call Gc hr rfl Dc.m Dc.kp Dc.b .nil (passes_call (takes_of rfl rfl rfl rfl) (fun _ _ _ _ h => h)) (pa_cons (pv 0) pa_nil)) pa_nil))))), ?_⟩
  refine ⟨⟨_, rfl⟩, (by show 1 ≤ sizeLine; exact small (by decide)), fun p hp => ?_⟩
  have s1 := same_new hp (.lst [.str (ws "square")])
  have e1 : upd H p (.lst [.str (ws "square")]) p = some (.lst [.str (ws "square")]) := upd_same
  refine ⟨_, rfl, v, t, L, rfl, ht.same s1, hwf, fun hc v' H2 s2 ht' => ?_, fun hc H' s2 => k2 hc H' (s1.trans s2)⟩
  obtain ⟨hv, hm⟩ := chk_some hc
  have hnn := nn_of_val t hv
  refine ⟨v', t, rfl, ht', hnn, Nat.le_trans (hg_many t) hm, by omega, fun p3 H3 s3 e3 => ?_⟩
  have l1 := len_ok hnn (by omega)
  have l2 := (sz_lines t hnn).1
  refine ⟨p, p3, _, _, rfl, rfl, s3 _ _ (s2 _ _ e1), e3, ?_, fun p4 hp4 => ?_⟩
  · rw [List.length_map, List.length_singleton]
    exact small7 (by omega)
  refine ⟨nl1, p4, ws "square" :: lines t, rfl, rfl, .inl (SqL.of ?_), ?_, ?_⟩
  · rw [upd_same, List.map_cons]
    rfl
  · have e : (nl1 : Str).length = 1 := by decide
    have e' : (ws "square").length = 6 := by decide
    rw [e, Nat.mul_one, szL_len, szL_cons, e']
    omega
  · rw [TL.join_eq]
    exact k1 hc _ (s1.trans (s2.trans (s3.trans (same_new hp4 _))))
end
end K5
/-! K5, walks 6: is_number, is_head, is_row, numbers_of, rows_from. -/
namespace K5
open PySem PySem.Spec PyProof.Rows L2
abbrev sNumber : Stmt := topS 34
abbrev sHead : Stmt := topS 35
abbrev sRow : Stmt := topS 36
abbrev sNums : Stmt := topS 37
abbrev sFrom : Stmt := topS 38
def spNumber : Sp := fun vs H Q _ => ∃ i : Int, vs = [.str (num i)] ∧ nice i ∧ ∀ H', Same H H' → Q (.bl true) H'
theorem scNumber : FnScope ["word", "char"] ["word"] (defScope sNumber) := ⟨rfl, rfl, rfl, by decide +kernel, rfl, by decide +kernel, by decide +kernel⟩
def numTab : List (String × Int) := [("sum", 3), ("field", 3), ("listed", 1), ("product", 0), ("turned", 3)]
def spHead : Sp := fun vs H Q _ => ∃ (a : Addr) (k : String) (ns : List Int), vs = [.ref a] ∧ H a = some (.lst ((ws k :: ns.map num).map V.str)) ∧ (k, ((ns.length : Nat) : Int)) ∈ numTab ∧ (∀ x ∈ ns, nice x) ∧ ∀ H', Same H H' → Q (.bl true) H'
theorem scHead : FnScope ["words", "word"] ["words"] (defScope sHead) := ⟨rfl, rfl, rfl, by decide +kernel, rfl, by decide +kernel, by decide +kernel⟩
def spRow : Sp := fun vs H Q _ => ∃ (a : Addr) (ss : List Str), vs = [.ref a] ∧ H a = some (.lst (ss.map V.str)) ∧
  ((∃ ns : List Int, ss = ws "row" :: ns.map num ∧ ns ≠ [] ∧ ns.length ≤ 100 ∧ (∀ x ∈ ns, nice x) ∧ ∀ H', Same H H' → Q (.bl true) H') ∨ (∃ x r, ss = x :: r ∧ x ≠ ws "row" ∧ ∀ H', Same H H' → Q (.bl false) H'))
theorem scRow : FnScope ["words", "word"] ["words"] (defScope sRow) := ⟨rfl, rfl, rfl, by decide +kernel, rfl, by decide +kernel, by decide +kernel⟩
def spNums : Sp := fun vs H Q _ => ∃ (a : Addr) (x : Str) (ns : List Int), vs = [.ref a] ∧ H a = some (.lst ((x :: ns.map num).map V.str)) ∧ ns.length ≤ 100 ∧ (∀ x ∈ ns, nice x) ∧ ∀ (p : Addr) (H' : Hp), Same H H' → H' p = some (.tup (ns.map V.int)) → Q (.ref p) H'
theorem scNums : FnScope ["words", "word"] ["words"] (defScope sNums) := ⟨rfl, rfl, rfl, by decide +kernel, rfl, by decide +kernel, by decide +kernel⟩
theorem cut1 (x : V) (l : List V) : cutV (x :: l) (some 1) none = l := by
  unfold cutV
  have e1 : HT.sIx (x :: l).length 0 (some 1) = 1 := by
    have := HT.sIx_nat (x :: l).length 0 1
    rw [List.length_cons] at this ⊢
    rw [show ((1 : Nat) : Int) = 1 from rfl] at this
    rw [this]
    omega
  rw [e1, HT.sIx_none, List.drop_succ_cons, List.drop_zero, List.length_cons, Nat.add_sub_cancel, List.take_length]
theorem all_true (n : Nat) : (List.replicate n true).all id = true := by
  induction n with
  | zero => rfl
  | succ n ih => rw [List.replicate_succ, List.all_cons, ih]; rfl
theorem rep_snoc (n : Nat) : (List.replicate (n + 1) true).map V.bl = (List.replicate n true).map V.bl ++ [.bl true] := by
  rw [List.replicate_succ', List.map_append]
  rfl
section
variable {P : Program} {w : World} {K : PySem.W.Frag} {mg : Str → Option Value} {base : Heap} {C : Addr}
theorem ok_number {f : Addr} {fd : FuncData} (B : Bl mg) (Cn : Ct mg) (F : Fun K "is_number" "is_number" sNumber f fd) : FnOk P w K mg base CX0 1 f fd ["word"] spNumber := by
  refine F.ok scNumber (fun vs H Q E h => ?_) (fun cdv A outer s H vs Q E hr h => ?_)
  · obtain ⟨i, rfl, _⟩ := h
    rfl
  obtain ⟨i, rfl, hi, k⟩ := h
  have hl := num_len hi
  refine ⟨_, pss_cons (ps_if (PW.pt (pw_or (pt_not (pt_chain op_le op_le pe_int (pe_callB call_len_str rfl B.len PySem.boot_len (pa_cons (pv 0) pa_nil)) (pe_gi Cn.mdig)))
      (pw_or1 (pt_not (pt_val (pe_callB (cr_all rfl) rfl B.all (by decide +kernel) (pa_cons (pe_lc (own := [("char", 1)]) (g := gName 1) (tt := tYes) (te := tOp (fun x y H Q => ∃ (c : Nat) (z : Str), x = .str ⟨#[c]⟩ ∧ y = .str z ∧ Q (.bl (decide (c ∈ z.cps.toList))) H) (tVar 1) (tC (.str "0123456789"))) rfl scNumber.nd (pi_str (pv 0))
        (blkOk_by (N := ["word", "char"]) (sc := defScope sNumber) (by decide +kernel)) (fun _ _ _ _ _ => pg_name (i := 1) scNumber.nd rfl (Or.inl rfl)) (fun _ _ _ _ _ => pts_nil) (fun _ _ _ _ _ => pe_cmpR op_in_sign (pv 1) (pe_gs Cn.dig) (by rfl))) pa_nil))))))) (pss_one (ps_ret pe_bl)) pss_nil)
    (pss_one (ps_ret (pe_or (pe_cmpR op_eq (pv 0) pe_str (nomark _)) (pe_one (pe_cmpR op_ne (pe_ix ix_str (pv 0) pe_int (fun _ _ => rfl)) pe_str (nomark _)))))), ?_⟩
  have hz : (num i).length ≤ sizeLine := small (by omega)
  refine ⟨_, rfl, _, rfl, hz, _, _, rfl, rfl, _, rfl, ifT (decide_eq_true (by omega)) ⟨_, _, rfl, rfl, _, rfl, ?_⟩⟩
  refine ifF (c := !decide (((num i).length : Int) ≤ 31)) (by rw [decide_eq_true (by omega)]; rfl) ?_
  refine ⟨_, rfl, _, rfl, fun D hD => lc_it (walk_str (z := num i)) (fun j H4 => H4 = upd H D (.lst ((List.replicate j true).map V.bl))) rfl (fun _ _ _ _ => trivial) ?_ ?_⟩
  · rintro j x H4 H5 hj rfl ⟨rfl, c, hc, rfl⟩
    refine ⟨rfl, ?_⟩
    refine ⟨_, rfl, c, _, rfl, rfl, _, upd_same, ?_, ?_⟩
    · rw [List.length_map, List.length_replicate]
      have : (num i).cps.size = (num i).length := rfl
      exact small1000 (by omega)
    · have hm : c ∈ TL.tl (num i) := Array.mem_toList_iff.mpr (Array.mem_of_getElem? hc)
      have hd := num_digit hi.1 hm
      rw [upd_upd, rep_snoc, decide_eq_true (show c ∈ (Str.ofString "0123456789").cps.toList from hd)]
  rintro H4 rfl
  refine ⟨D, List.replicate (num i).cps.size true, rfl, SqL.of upd_same, _, rfl, ifF (by rw [all_true]; rfl) ?_⟩
  have s1 := same_new hD (.lst ((List.replicate (num i).cps.size true).map V.bl))
  refine ⟨_, rfl, rfl, _, rfl, ?_⟩
  by_cases h0 : num i = ws "0"
  · exact ifT (decide_eq_true (by rw [h0]; rfl)) (k _ s1)
  · refine ifF (decide_eq_false fun e => h0 (V.str.inj e)) ?_
    rcases num_head hi with h1 | ⟨c, r, h1, h2⟩
    · exact absurd h1 h0
    refine ⟨_, rfl, _, _, c, rfl, rfl, hz, atI_nat (j := 0) (by show (TL.tl (num i))[0]? = some c; rw [h1]; rfl), rfl, ?_⟩
    have e : (!decide (V.str ⟨#[c]⟩ = V.str (Str.ofString "0"))) = true := by
      rw [decide_eq_false]
      · rfl
      · intro e
        have e1 := congrArg TL.tl (V.str.inj e)
        have e2 : [c] = [48] := e1
        exact h2 (List.cons.inj e2).1
    rw [e]
    exact k _ s1
/-- [is_number(word) for word in words[1:]] -/
theorem ok_head {f fn dN : Addr} {fd fdn : FuncData} {es : Array DictEntry} {nn : Nat} (B : Bl mg) (M : Tb K w mg "NUMBERS" dN es nn numTab) (F : Fun K "is_head" "is_head" sHead f fd)
    (D : Df K mg "is_number" sNumber ["word"] fn fdn) (G : FnOk P w K mg base CX0 1 fn fdn ["word"] spNumber) : FnOk P w K mg base CX0 2 f fd ["words"] spHead := by
  refine F.ok scHead (fun vs H Q E h => ?_) (fun cdv A outer s H vs Q E hr h => ?_)
  · obtain ⟨a, k, ns, rfl, _⟩ := h
    rfl
  obtain ⟨a, kk, ns, rfl, ha, hk, hns, k⟩ := h
  obtain ⟨u0, hu0, ru0⟩ := M.at_ _ hk
  refine ⟨_, pss_cons (ps_if (PW.pt (pw_or (pt_cmpR (op_notIn_kd M.D) (pe_ix ix_list (pv 0) pe_int (fun _ _ => rfl)) (pe_gr M.m) (by rfl))
      (pw_or1 (pt_cmpR op_ne (pe_callB call_len_seq rfl B.len PySem.boot_len (pa_cons (pv 0) pa_nil)) (pe_op op_add (pe_ix ix_kdict (pe_gr M.m) (pe_ix ix_list (pv 0) pe_int (fun _ _ => rfl)) (fun _ _ => rfl)) pe_int) (nomark _))))) (pss_one (ps_ret pe_bl)) pss_nil)
    (pss_one (ps_ret (pe_callB (cr_all rfl) rfl B.all (by decide +kernel) (pa_cons (pe_lc (own := [("word", 1)]) (g := gName 1) (tt := tYes) (te := tCall spNumber [] E0 (tCons (tVar 1) tNil)) rfl scHead.nd (pi_list (pe_slice sl_list (pv 0) (po_some pe_int) po_none))
        (blkOk_by (N := ["words", "word"]) (sc := defScope sHead) (by decide +kernel)) (fun _ _ _ _ _ => pg_name (i := 1) scHead.nd rfl (Or.inl rfl)) (fun _ _ _ _ _ => pts_nil) (fun _ _ _ _ _ => pe_call G hr rfl D.m D.kp D.b .nil pass0 (pa_cons (pv 1) pa_nil))) pa_nil)))), ?_⟩
  have hl12 : ns.length ≤ 12 := by
    simp only [numTab, List.mem_cons, Prod.mk.injEq, List.not_mem_nil, or_false] at hk
    omega
  refine ⟨_, rfl, a, _, _, _, rfl, rfl, SqL.of ha, atI_nat (j := 0) rfl, _, _, rfl, rfl, hu0, _, rfl, ifF rfl ?_⟩
  refine ⟨_, rfl, a, _, rfl, .inl (SqL.of ha), _, rfl, a, _, _, _, rfl, rfl, SqL.of ha, atI_nat (j := 0) rfl, dN, _, .int ((ns.length : Nat) : Int), rfl, rfl, ⟨es, nn, u0, M.D.at_, M.D.lit, hu0, ru0⟩, _, _, rfl, rfl, rfl, _, rfl, ifF ?_ ?_⟩
  · rw [decide_eq_true]
    · rfl
    · rw [List.length_map, List.length_cons, List.length_map]
      rfl
  refine ⟨_, rfl, _, rfl, a, _, rfl, SqL.of ha, fun p hp => ?_⟩
  rw [show cutV ((ws kk :: ns.map num).map V.str) (some 1) none = (ns.map num).map V.str from cut1 _ _]
  have s1 := same_new hp (.lst ((ns.map num).map V.str))
  have e1 : upd H p (.lst ((ns.map num).map V.str)) p = some (.lst ((ns.map num).map V.str)) := upd_same
  generalize upd H p (.lst ((ns.map num).map V.str)) = H1 at s1 e1
  refine ⟨p, rfl, ⟨_, SqL.of e1⟩, fun Dl hD => lc_list (xs := (ns.map num).map V.str) (fun j H4 => Same H1 H4 ∧ H4 Dl = some (.lst ((List.replicate j true).map V.bl))) ⟨same_new hD _, upd_same⟩ ?_ ?_ ?_⟩
  · rintro j H4 _ ⟨s4, _⟩
    exact SqL.of (s4 _ _ e1)
  · rintro j x H4 hx ⟨s4, e4⟩
    obtain ⟨y, hy, rfl⟩ := map_at hx
    obtain ⟨i, hi, rfl⟩ := map_at hy
    have hj : j < ns.length := (List.getElem?_eq_some_iff.mp hi).1
    refine ⟨rfl, ?_⟩
    refine ⟨_, rfl, i, rfl, hns i (List.mem_of_getElem? hi), fun H5 s5 => ⟨_, s5 _ _ e4, ?_, ?_, ?_⟩⟩
    · rw [List.length_map, List.length_replicate]
      exact small1000 (by omega)
    · exact fun b o q => by rw [upd_ne (ne_of_none q hD)]; exact s5 _ _ (s4 _ _ q)
    · rw [upd_same, rep_snoc]
  · rintro H4 ⟨s4, e4⟩
    refine ⟨Dl, _, rfl, SqL.of e4, ?_⟩
    rw [all_true]
    exact k _ (s1.trans s4)
theorem ok_row {f fn : Addr} {fd fdn : FuncData} (B : Bl mg) (F : Fun K "is_row" "is_row" sRow f fd)
    (D : Df K mg "is_number" sNumber ["word"] fn fdn) (G : FnOk P w K mg base CX0 1 fn fdn ["word"] spNumber) : FnOk P w K mg base CX0 2 f fd ["words"] spRow := by
  refine F.ok scRow (fun vs H Q E h => ?_) (fun cdv A outer s H vs Q E hr h => ?_)
  · obtain ⟨a, ss, rfl, _⟩ := h
    rfl
  obtain ⟨a, ss, rfl, ha, hcase⟩ := h
  refine ⟨_, pss_one (ps_ret (pe_and (pe_cmpR op_gt (pe_callB call_len_seq rfl B.len PySem.boot_len (pa_cons (pv 0) pa_nil)) pe_int (nomark _)) (pe_and (pe_cmpR op_eq (pe_ix ix_list (pv 0) pe_int (fun _ _ => rfl)) pe_str (nomark _))
    (pe_one (pe_callB (cr_all rfl) rfl B.all (by decide +kernel) (pa_cons (pe_lc (own := [("word", 1)]) (g := gName 1) (tt := tYes) (te := tCall spNumber [] E0 (tCons (tVar 1) tNil)) rfl scRow.nd (pi_list (pe_slice sl_list (pv 0) (po_some pe_int) po_none))
        (blkOk_by (N := ["words", "word"]) (sc := defScope sRow) (by decide +kernel)) (fun _ _ _ _ _ => pg_name (i := 1) scRow.nd rfl (Or.inl rfl)) (fun _ _ _ _ _ => pts_nil) (fun _ _ _ _ _ => pe_call G hr rfl D.m D.kp D.b .nil pass0 (pa_cons (pv 1) pa_nil))) pa_nil)))))), ?_⟩
  rcases hcase with ⟨ns, rfl, hne, hl100, hns, k⟩ | ⟨x, r, rfl, hx, k⟩
  · have hpos : 0 < ns.length := List.length_pos_iff.mpr hne
    refine ⟨_, rfl, a, _, rfl, .inl (SqL.of ha), _, _, rfl, rfl, _, rfl, ifT ?_ ?_⟩
    · rw [List.length_map, List.length_cons, List.length_map]
      exact decide_eq_true (by omega)
    refine ⟨_, rfl, a, _, _, _, rfl, rfl, SqL.of ha, atI_nat (j := 0) rfl, rfl, _, rfl, ifT (decide_eq_true rfl) ?_⟩
    refine ⟨_, rfl, _, rfl, a, _, rfl, SqL.of ha, fun p hp => ?_⟩
    rw [show cutV ((ws "row" :: ns.map num).map V.str) (some 1) none = (ns.map num).map V.str from cut1 _ _]
    have s1 := same_new hp (.lst ((ns.map num).map V.str))
    have e1 : upd H p (.lst ((ns.map num).map V.str)) p = some (.lst ((ns.map num).map V.str)) := upd_same
    generalize upd H p (.lst ((ns.map num).map V.str)) = H1 at s1 e1
    refine ⟨p, rfl, ⟨_, SqL.of e1⟩, fun Dl hD => lc_list (xs := (ns.map num).map V.str) (fun j H4 => Same H1 H4 ∧ H4 Dl = some (.lst ((List.replicate j true).map V.bl))) ⟨same_new hD _, upd_same⟩ ?_ ?_ ?_⟩
    · rintro j H4 _ ⟨s4, _⟩
      exact SqL.of (s4 _ _ e1)
    · rintro j x H4 hx ⟨s4, e4⟩
      obtain ⟨y, hy, rfl⟩ := map_at hx
      obtain ⟨i, hi, rfl⟩ := map_at hy
      have hj : j < ns.length := (List.getElem?_eq_some_iff.mp hi).1
      refine ⟨rfl, ?_⟩
      refine ⟨_, rfl, i, rfl, hns i (List.mem_of_getElem? hi), fun H5 s5 => ⟨_, s5 _ _ e4, ?_, ?_, ?_⟩⟩
      · rw [List.length_map, List.length_replicate]
        exact small1000 (by omega)
      · exact fun b o q => by rw [upd_ne (ne_of_none q hD)]; exact s5 _ _ (s4 _ _ q)
      · rw [upd_same, rep_snoc]
    · rintro H4 ⟨s4, e4⟩
      refine ⟨Dl, _, rfl, SqL.of e4, ?_⟩
      rw [all_true]
      exact k _ (s1.trans s4)
  · refine ⟨_, rfl, a, _, rfl, .inl (SqL.of ha), _, _, rfl, rfl, _, rfl, ite2 (fun _ => ?_) (fun e => ?_)⟩
    · refine ⟨_, rfl, a, _, _, _, rfl, rfl, SqL.of ha, atI_nat (j := 0) rfl, rfl, _, rfl, ifF (decide_eq_false fun e => hx (V.str.inj e)) ?_⟩
      exact k _ (Same.refl H)
    · exact k _ (Same.refl H)
def rIntS : List V → Hp → VK → Prop := fun xs H Q => ∃ a n, xs = [.str a] ∧ PySem.intText? a = some n ∧ a.length ≤ 640 ∧ Q (.int n) H
theorem cr_intS {X : Cx} : CallR X (.type "int") rIntS := call_int_str
theorem ok_nums {f : Addr} {fd : FuncData} (B : Bl mg) (F : Fun K "numbers_of" "numbers_of" sNums f fd) : FnOk P w K mg base CX0 1 f fd ["words"] spNums := by
  refine F.ok scNums (fun vs H Q E h => ?_) (fun cdv A outer s H vs Q E hr h => ?_)
  · obtain ⟨a, x, ns, rfl, _⟩ := h
    rfl
  obtain ⟨a, x, ns, rfl, ha, hlen, hns, k⟩ := h
  refine ⟨_, pss_one (ps_ret (pe_callTy call_tuple_of rfl B.tuple (by decide +kernel) (pa_cons (pe_lc (own := [("word", 1)]) (g := gName 1) (tt := tYes) (te := tCB rIntS (tCons (tVar 1) tNil)) rfl scNums.nd (pi_list (pe_slice sl_list (pv 0) (po_some pe_int) po_none))
        (blkOk_by (N := ["words", "word"]) (sc := defScope sNums) (by decide +kernel)) (fun _ _ _ _ _ => pg_name (i := 1) scNums.nd rfl (Or.inl rfl)) (fun _ _ _ _ _ => pts_nil) (fun _ _ _ _ _ => pe_callTy (T := "int") cr_intS rfl B.int (by decide +kernel) (pa_cons (pv 1) pa_nil))) pa_nil))), ?_⟩
  refine ⟨_, rfl, _, rfl, a, _, rfl, SqL.of ha, fun p hp => ?_⟩
  rw [show cutV ((x :: ns.map num).map V.str) (some 1) none = (ns.map num).map V.str from cut1 _ _]
  have s1 := same_new hp (.lst ((ns.map num).map V.str))
  have e1 : upd H p (.lst ((ns.map num).map V.str)) p = some (.lst ((ns.map num).map V.str)) := upd_same
  generalize upd H p (.lst ((ns.map num).map V.str)) = H1 at s1 e1
  refine ⟨p, rfl, ⟨_, SqL.of e1⟩, fun Dl hD => lc_list (xs := (ns.map num).map V.str) (fun j H4 => H4 = upd H1 Dl (.lst ((ns.take j).map V.int))) rfl ?_ ?_ ?_⟩
  · rintro j H4 _ rfl
    exact SqL.of (same_new hD _ _ _ e1)
  · rintro j y H4 hx rfl
    obtain ⟨z, hz, rfl⟩ := map_at hx
    obtain ⟨i, hi, rfl⟩ := map_at hz
    have hni := hns i (List.mem_of_getElem? hi)
    refine ⟨rfl, ?_⟩
    refine ⟨_, rfl, _, i, rfl, num_int hni, by have := (num_len hni).2; omega, _, upd_same, ?_, ?_⟩
    · rw [List.length_map, List.length_take]
      exact small1000 (by omega)
    · rw [upd_upd, take_snoc hi, List.map_append]
      rfl
  · rintro H4 rfl
    rw [List.length_map, List.length_map, List.take_length]
    refine ⟨Dl, _, rfl, .inl ⟨SqL.of upd_same, fun q hq => ?_⟩⟩
    exact k q _ (s1.trans ((same_new hD _).trans (same_new hq _))) upd_same
end
end K5
/-! K5, walks 7: rows_from; the trees that wait; joined. -/
namespace K5
open PySem PySem.Spec PyProof.Rows L2
abbrev sJoined : Stmt := topS 39
def LinesAt (H : Hp) : List V → List (List Str) → Prop := Paired fun v w => ∃ a, v = V.ref a ∧ H a = some (.lst (w.map V.str))
theorem LinesAt.same {H H' : Hp} (s : Same H H') : ∀ {ls : List V} {wls : List (List Str)}, LinesAt H ls wls → LinesAt H' ls wls
  | _, _, .nil => .nil
  | _, _, .cons ⟨a, e, h⟩ r => .cons ⟨a, e, s _ _ h⟩ (LinesAt.same s r)
theorem LinesAt.at {H : Hp} : ∀ {ls : List V} {wls : List (List Str)}, LinesAt H ls wls → ∀ {i : Nat} {w : List Str}, wls[i]? = some w → ∃ a, ls[i]? = some (.ref a) ∧ H a = some (.lst (w.map V.str))
  | _, _, .nil, i, x, h => by simp at h
  | _, _, .cons ⟨a, e, h1⟩ r, 0, x, h => by
    have e2 := Option.some.inj h
    subst e2
    exact ⟨a, by rw [e]; rfl, h1⟩
  | _, _, .cons _ r, i + 1, x, h => by
    obtain ⟨a, e1, e2⟩ := LinesAt.at r (i := i) (w := x) (by simpa using h)
    exact ⟨a, by simpa using e1, e2⟩
def rowW (r : List Int) : List Str := ws "row" :: r.map num
def okRow (r : List Int) : Prop := r ≠ [] ∧ r.length ≤ 100 ∧ ∀ x ∈ r, nice x
def noRow (rest : List (List Str)) : Prop := rest = [] ∨ ∃ x r rs, rest = (x :: r) :: rs ∧ x ≠ ws "row"
def spFrom : Sp := fun vs H Q _ => ∃ (la : Addr) (i : Nat) (ls : List V) (wls : List (List Str)) (rows : List (List Int)) (rest : List (List Str)), vs = [.ref la, .int ((i : Nat) : Int)] ∧ H la = some (.lst ls) ∧ LinesAt H ls wls ∧ wls.length ≤ 1000000 ∧ wls.drop i = rows.map rowW ++ rest ∧ rows.length ≤ 100 ∧ (∀ r ∈ rows, okRow r) ∧ noRow rest ∧ i ≤ wls.length ∧
  ∀ (p : Addr) (H' : Hp) (rs : List V), H p = none → Same H H' → H' p = some (.lst rs) → RowsAt H' rs rows → Q (.ref p) H'
theorem scFrom : FnScope ["lines", "at", "found"] ["lines", "at"] (defScope sFrom) := ⟨rfl, rfl, rfl, by decide +kernel, rfl, by decide +kernel, by decide +kernel⟩
def wFrom (H : Hp) (la p : Addr) (i : Nat) (rows : List (List Int)) : Nat → L2.St → Hp → Prop := fun k σ H' => ∃ (j : Nat) (rs : List V), σ = [some (.ref la), some (.int ((i + j : Nat) : Int)), some (.ref p)] ∧ Same H H' ∧ H' p = some (.lst rs) ∧ RowsAt H' rs (rows.take j) ∧ j ≤ rows.length ∧ k = rows.length - j
theorem RowsAt.snoc {H : Hp} {a : Addr} {row : List Int} (h : H a = some (.tup (row.map V.int))) : ∀ {rs : List V} {rows : List (List Int)}, RowsAt H rs rows → RowsAt H (rs ++ [.ref a]) (rows ++ [row])
  | _, _, .nil => .cons ⟨a, rfl, h⟩ .nil
  | _, _, .cons q r => .cons q (RowsAt.snoc h r)
theorem drop_at {α : Type} {l m : List α} {i : Nat} (h : l.drop i = m) (j : Nat) : l[i + j]? = m[j]? := by rw [← h, List.getElem?_drop]
section
variable {P : Program} {w : World} {K : PySem.W.Frag} {mg : Str → Option Value} {base : Heap} {C : Addr}
theorem ok_from {f fr fn : Addr} {fd fdr fdn : FuncData} (B : Bl mg) (F : Fun K "rows_from" "rows_from" sFrom f fd) (Dr : Df K mg "is_row" sRow ["words"] fr fdr) (Gr : FnOk P w K mg base CX0 2 fr fdr ["words"] spRow)
    (Dn : Df K mg "numbers_of" sNums ["words"] fn fdn) (Gn : FnOk P w K mg base CX0 1 fn fdn ["words"] spNums) : FnOk P w K mg base CX0 3 f fd ["lines", "at"] spFrom := by
  refine F.ok scFrom (fun vs H Q E h => ?_) (fun cdv A outer s H vs Q E hr h => ?_)
  · obtain ⟨la, i, ls, wls, rows, rest, rfl, _⟩ := h
    rfl
  obtain ⟨la, i, ls, wls, rows, rest, rfl, hla, hls, hlen, hdrop, hr100, hok, hno, hi, k⟩ := h
  have hr1 := hr.mono (by decide : 1 ≤ 2)
  have hll : ls.length = wls.length := Paired.length hls
  have hdl : wls.length = i + (rows.length + rest.length) := by
    have := congrArg List.length hdrop
    rw [List.length_drop, List.length_append, List.length_map] at this
    omega
  refine ⟨_, pss_cons (ps_set (i := 2) scFrom.nd rfl (.inl rfl) (pe_lst pa_nil))
    (pss_cons (ps_while PassesOwn.never (PW.pt (pw_and (pt_cmpR op_lt (pv 1) (pe_callB call_len_seq rfl B.len PySem.boot_len (pa_cons (pv 0) pa_nil)) (nomark _)) (pw_and1 (pt_val (pe_call Gr hr rfl Dr.m Dr.kp Dr.b .nil pass0 (pa_cons (pe_ix ix_list (pv 0) (pv 1) (fun _ _ => rfl)) pa_nil))))))
      (pss_cons (ps_expr (pe_bm PySem.F.plainAttrs_list PySem.F.slot_list_append PySem.F.type_list_append mt_append (pv 2) (pa_cons (pe_call Gn hr1 rfl Dn.m Dn.kp Dn.b .nil pass0 (pa_cons (pe_ix ix_list (pv 0) (pv 1) (fun _ _ => rfl)) pa_nil)) pa_nil)))
      (pss_one (ps_aug (i := 1) scFrom.nd rfl (.inl rfl) pe_int ip_add))))
    (pss_one (ps_ret (pv 2)))), ?_⟩
  refine ⟨(by show 0 ≤ sizeLine; exact Nat.zero_le _), fun p hp => ?_⟩
  have s1 := same_new hp (.lst [])
  refine ⟨wFrom H la p i rows, ⟨rows.length, 0, [], rfl, s1, upd_same, .nil, Nat.zero_le _, rfl⟩, fun m σ H' hw => ?_⟩
  obtain ⟨j, rs, rfl, s2, hp', hrs, hj, rfl⟩ := hw
  have hrl : rs.length = j := by
    have := Paired.length hrs
    rw [List.length_take] at this
    omega
  have fin : j = rows.length → Q (.ref p) H' := fun e => k p H' rs hp s2 hp' (by rw [e, List.take_length] at hrs; exact hrs)
  refine ⟨_, rfl, _, rfl, la, ls, rfl, .inl (SqL.of (s2 _ _ hla)), _, _, rfl, rfl, _, rfl, ?_⟩
  by_cases c : i + j < wls.length
  case neg => exact ifF (decide_eq_false (by omega)) ⟨_, rfl, fin (by omega)⟩
  refine ifT (decide_eq_true (by omega)) ?_
  by_cases c2 : j < rows.length
  · have hrow : rows[j]? = some rows[j] := List.getElem?_eq_getElem c2
    have hw : wls[i + j]? = some (rowW rows[j]) := by
      rw [drop_at hdrop j, List.getElem?_append_left (by rw [List.length_map]; exact c2), List.getElem?_map, hrow]
      rfl
    obtain ⟨a, hla2, ha⟩ := hls.at hw
    have hk := hok _ (List.mem_of_getElem? hrow)
    refine ⟨_, rfl, _, rfl, la, ls, _, _, rfl, rfl, SqL.of (s2 _ _ hla), atI_nat hla2, a, rowW rows[j], rfl, s2 _ _ ha, .inl ⟨rows[j], rfl, hk.1, hk.2.1, hk.2.2, fun H3 s3 => ?_⟩⟩
    refine ⟨_, rfl, ifT rfl ⟨_, fun _ _ h => h, ?_⟩⟩
    refine ⟨_, rfl, .inl ⟨rfl, _, SqL.of (s3 _ _ hp')⟩, _, rfl, _, rfl, la, ls, _, _, rfl, rfl, SqL.of (s3 _ _ (s2 _ _ hla)), atI_nat hla2, a, ws "row", rows[j], rfl, s3 _ _ (s2 _ _ ha), hk.2.1, hk.2.2, fun q H4 s4 hq => ?_⟩
    have hp4 := s4 _ _ (s3 _ _ hp')
    refine ⟨p, rs, _, rfl, rfl, hp4, small1000 (by omega), ?_⟩
    have st : ∀ b xs, H4 b = some (.tup xs) → upd H4 p (.lst (rs ++ [.ref q])) b = some (.tup xs) := fun b xs z => by
      rw [upd_ne (ne_of z hp4 (by intro y; cases y))]
      exact z
    refine ⟨_, rfl, _, _, rfl, rfl, rows.length - (j + 1), by omega, j + 1, rs ++ [.ref q], rfl, ?_, upd_same, ?_, by omega, rfl⟩
    · intro b o z
      rw [upd_ne (ne_of_none z hp)]
      exact s4 _ _ (s3 _ _ (s2 _ _ z))
    · rw [take_snoc hrow]
      exact RowsAt.snoc (st _ _ hq) ((hrs.mono fun b xs z => s4 _ _ (s3 _ _ z)).mono st)
  · have ej : j = rows.length := by omega
    rcases hno with rfl | ⟨x, r, rs', rfl, hx⟩
    · rw [List.length_nil] at hdl
      omega
    · have hw : wls[i + j]? = some (x :: r) := by
        rw [drop_at hdrop j, List.getElem?_append_right (by rw [List.length_map]; omega), List.length_map, ej, Nat.sub_self]
        rfl
      obtain ⟨a, hla2, ha⟩ := hls.at hw
      refine ⟨_, rfl, _, rfl, la, ls, _, _, rfl, rfl, SqL.of (s2 _ _ hla), atI_nat hla2, a, x :: r, rfl, s2 _ _ ha, .inr ⟨x, r, rfl, hx, fun H3 s3 => ?_⟩⟩
      refine ⟨_, rfl, ifF rfl ⟨_, rfl, ?_⟩⟩
      exact k p H3 rs hp (s2.trans s3) (s3 _ _ hp') (by rw [ej, List.take_length] at hrs; exact hrs.mono fun b xs => s3 _ _)
end

/-! ### the trees that wait for a part; the innermost first -/
inductive Fm where
  /-- a product without a part; its second part is still to be read -/
  | pr0 (t : T)
  /-- a product with its first part -/
  | pr1 (s : T)
  /-- a turned one -/
  | tu (pl : List Int)
inductive Res where
  | done (t : T)
  | more (c : List Fm) (t : T)
def climb : List Fm → T → Res
  | [], x => .done x
  | .pr0 t :: c, x => .more (.pr1 x :: c) t
  | .pr1 s :: c, x => climb c (.product s x)
  | .tu pl :: c, x => climb c (.turned x pl)
def plug : List Fm → T → T
  | [], x => x
  | .pr0 t :: c, x => plug c (.product x t)
  | .pr1 s :: c, x => plug c (.product s x)
  | .tu pl :: c, x => plug c (.turned x pl)
def restW : List Fm → List (List Str)
  | [] => []
  | .pr0 t :: c => wl t ++ restW c
  | .pr1 _ :: c => restW c
  | .tu _ :: c => restW c
theorem climb_is : ∀ (c : List Fm) (x : T), match climb c x with
    | .done y => y = plug c x ∧ restW c = []
    | .more c' t' => plug c' t' = plug c x ∧ restW c = wl t' ++ restW c' ∧ c'.length ≤ c.length
  | [], x => ⟨rfl, rfl⟩
  | .pr0 t :: c, x => ⟨rfl, rfl, Nat.le_refl _⟩
  | .pr1 s :: c, x => by
    have ih := climb_is c (.product s x)
    show (match climb c (.product s x) with
      | .done y => y = plug (.pr1 s :: c) x ∧ restW (.pr1 s :: c) = []
      | .more c' t' => plug c' t' = plug (.pr1 s :: c) x ∧ restW (.pr1 s :: c) = wl t' ++ restW c' ∧ c'.length ≤ (Fm.pr1 s :: c).length)
    cases e : climb c (.product s x) with
    | done y => rw [e] at ih; exact ih
    | more c' t' => rw [e] at ih; exact ⟨ih.1, ih.2.1, Nat.le_succ_of_le ih.2.2⟩
  | .tu pl :: c, x => by
    have ih := climb_is c (.turned x pl)
    show (match climb c (.turned x pl) with
      | .done y => y = plug (.tu pl :: c) x ∧ restW (.tu pl :: c) = []
      | .more c' t' => plug c' t' = plug (.tu pl :: c) x ∧ restW (.tu pl :: c) = wl t' ++ restW c' ∧ c'.length ≤ (Fm.tu pl :: c).length)
    cases e : climb c (.turned x pl) with
    | done y => rw [e] at ih; exact ih
    | more c' t' => rw [e] at ih; exact ⟨ih.1, ih.2.1, Nat.le_succ_of_le ih.2.2⟩
theorem nn_plug : ∀ (c : List Fm) {x : T}, Nn (plug c x) → Nn x
  | [], _, h => h
  | .pr0 t :: c, x, h => (nn_plug c (x := .product x t) h).1
  | .pr1 s :: c, x, h => (nn_plug c (x := .product s x) h).2
  | .tu pl :: c, x, h => (nn_plug c (x := .turned x pl) h).1
/-! ### on the heap: M, the lists that change -/
abbrev off (M : List Addr) : Addr → Prop := fun b => b ∉ M
def MOk (M : List Addr) (H : Hp) : Prop := ∀ b ∈ M, ∃ xs, H b = some (.lst xs)
structure Keep (M : List Addr) (H H' : Hp) : Prop where
  keep : ∀ b o, b ∉ M → H b = some o → H' b = some o
  mok : MOk M H'
theorem Keep.refl {M : List Addr} {H : Hp} (h : MOk M H) : Keep M H H := ⟨fun _ _ _ q => q, h⟩
theorem Keep.trans {M : List Addr} {H H1 H2 : Hp} (a : Keep M H H1) (b : Keep M H1 H2) : Keep M H H2 := ⟨fun c o n q => b.keep c o n (a.keep c o n q), b.mok⟩
theorem Keep.of_same {M : List Addr} {H H' : Hp} (h : MOk M H) (s : Same H H') : Keep M H H' := ⟨fun _ _ _ q => s _ _ q, fun b hb => let ⟨xs, q⟩ := h b hb; ⟨xs, s _ _ q⟩⟩
theorem Keep.write {M : List Addr} {H : Hp} {a : Addr} {xs : List V} (h : MOk M H) (ha : a ∈ M) : Keep M H (upd H a (.lst xs)) :=
  ⟨fun b o n q => by rw [upd_ne (fun e => n (by rw [e]; exact ha))]; exact q, fun b hb => by
    by_cases e : b = a
    · subst e; exact ⟨_, upd_same⟩
    · rw [upd_ne e]; exact h b hb⟩
theorem MOk.off {M : List Addr} {H : Hp} (h : MOk M H) {b : Addr} {xs : List V} (q : H b = some (.tup xs)) : b ∉ M := fun hb => by
  obtain ⟨ys, e⟩ := h b hb
  rw [q] at e
  cases e
theorem Keep.tup {M : List Addr} {H H' : Hp} (m : MOk M H) (k : Keep M H H') {b : Addr} {xs : List V} (q : H b = some (.tup xs)) : H' b = some (.tup xs) := k.keep _ _ (m.off q) q
theorem Keep.tree {M : List Addr} {H H' : Hp} (m : MOk M H) (k : Keep M H H') {t : T} {v : V} (h : TreeAt H (off M) t v) : TreeAt H' (off M) t v := h.mono (fun b xs q => k.tup m q) fun b xs hb q => ⟨hb, k.keep _ _ hb q⟩
def FmAt (H : Hp) (M : List Addr) : Fm → Addr → Addr → Addr → Prop
  | .pr0 _, f, na, pa => H f = some (.tup [.str (ws "product"), .ref na, .ref pa]) ∧ H na = some (.tup []) ∧ H pa = some (.lst [])
  | .pr1 s, f, na, pa => H f = some (.tup [.str (ws "product"), .ref na, .ref pa]) ∧ H na = some (.tup []) ∧ ∃ x, H pa = some (.lst [x]) ∧ TreeAt H (off M) s x
  | .tu pl, f, na, pa => H f = some (.tup [.str (ws "turned"), .ref na, .ref pa]) ∧ H na = some (.tup (pl.map V.int)) ∧ H pa = some (.lst [])
def CtxAt (H : Hp) (M : List Addr) : List V → List Addr → List Fm → Prop
  | [], [], [] => True
  | v :: fs, pa :: pas, fm :: c => (∃ f na, v = .ref f ∧ FmAt H M fm f na pa ∧ pa ∈ M) ∧ CtxAt H M fs pas c
  | _, _, _ => False
theorem FmAt.keep {M : List Addr} {H H' : Hp} (m : MOk M H) (k : Keep M H H') {f na pa : Addr} (hpa : ∀ xs, H pa = some (.lst xs) → H' pa = some (.lst xs)) : ∀ {fm : Fm}, FmAt H M fm f na pa → FmAt H' M fm f na pa
  | .pr0 t, ⟨a, b, c⟩ => ⟨k.tup m a, k.tup m b, hpa _ c⟩
  | .pr1 s, ⟨a, b, x, c, d⟩ => ⟨k.tup m a, k.tup m b, x, hpa _ c, k.tree m d⟩
  | .tu pl, ⟨a, b, c⟩ => ⟨k.tup m a, k.tup m b, hpa _ c⟩
theorem CtxAt.keep {M : List Addr} {H H' : Hp} (m : MOk M H) (k : Keep M H H') : ∀ {fs : List V} {pas : List Addr} {c : List Fm}, (∀ pa ∈ pas, ∀ xs, H pa = some (.lst xs) → H' pa = some (.lst xs)) → CtxAt H M fs pas c → CtxAt H' M fs pas c
  | [], [], [], _, _ => trivial
  | v :: fs, pa :: pas, fm :: c, hp, ⟨⟨f, na, e, h, hm⟩, r⟩ => ⟨⟨f, na, e, h.keep m k (hp pa List.mem_cons_self), hm⟩, CtxAt.keep m k (fun q hq => hp q (List.mem_cons_of_mem _ hq)) r⟩
theorem CtxAt.len {M : List Addr} {H : Hp} : ∀ {fs : List V} {pas : List Addr} {c : List Fm}, CtxAt H M fs pas c → fs.length = c.length
  | [], [], [], _ => rfl
  | _ :: _, _ :: _, _ :: _, ⟨_, r⟩ => congrArg (· + 1) (CtxAt.len r)
end K5
/-! K5, walks 8: joined. -/
namespace K5
open PySem PySem.Spec PyProof.Rows L2
def armsTab : List (String × Int) := [("sum", 0), ("field", 0), ("listed", 0), ("product", 2), ("turned", 1)]
def spJoined : Sp := fun vs H Q _ => ∃ (wa : Addr) (x : V) (fs : List V) (pas : List Addr) (c : List Fm) (t : T) (M : List Addr), vs = [.ref wa, x] ∧ H wa = some (.lst fs.reverse) ∧ CtxAt H M fs pas c ∧ (wa :: pas).Nodup ∧ wa ∈ M ∧ MOk M H ∧ TreeAt H (off M) t x ∧ c.length ≤ 1000 ∧
  (∀ y, climb c t = .done y → ∀ x' H', Keep M H H' → TreeAt H' (off M) y x' → Q x' H') ∧
  (∀ c' t', climb c t = .more c' t' → ∀ fs' pas' H', Keep M H H' → H' wa = some (.lst fs'.reverse) → CtxAt H' M fs' pas' c' → (wa :: pas').Nodup → Q .non H')
theorem scJoined : FnScope ["waiting", "part", "kind", "numbers", "parts"] ["waiting", "part"] (defScope sJoined) := ⟨rfl, rfl, rfl, by decide +kernel, rfl, by decide +kernel, by decide +kernel⟩
def wJoin (H : Hp) (wa : Addr) (M : List Addr) (c0 : List Fm) (t0 : T) : Nat → L2.St → Hp → Prop := fun k σ H' => ∃ (x : V) (fs : List V) (pas : List Addr) (c : List Fm) (t : T) (u2 u3 u4 : Option V), σ = [some (.ref wa), some x, u2, u3, u4] ∧ Keep M H H' ∧ H' wa = some (.lst fs.reverse) ∧ CtxAt H' M fs pas c ∧ (wa :: pas).Nodup ∧
  TreeAt H' (off M) t x ∧ climb c t = climb c0 t0 ∧ c.length ≤ 1000 ∧ k = c.length
/-- the write to the parts' list -/
theorem ctx_write {M : List Addr} {H : Hp} {a : Addr} {xs : List V} (m : MOk M H) (ha : a ∈ M) {fs : List V} {pas : List Addr} {c : List Fm} (hn : a ∉ pas) (h : CtxAt H M fs pas c) : CtxAt (upd H a (.lst xs)) M fs pas c :=
  h.keep m (Keep.write m ha) fun pa hpa ys q => by rw [upd_ne (fun e => hn (by rw [← e]; exact hpa))]; exact q
theorem CtxAt.inv {M : List Addr} {H : Hp} {fm : Fm} {c : List Fm} : ∀ {fs : List V} {pas : List Addr}, CtxAt H M fs pas (fm :: c) → ∃ (f na : Addr) (fs' : List V) (pa : Addr) (pas' : List Addr), fs = .ref f :: fs' ∧ pas = pa :: pas' ∧ FmAt H M fm f na pa ∧ pa ∈ M ∧ CtxAt H M fs' pas' c
  | [], [], h => False.elim h
  | [], _ :: _, h => False.elim h
  | _ :: _, [], h => False.elim h
  | v :: fs, pa :: pas, ⟨⟨f, na, e, h1, h2⟩, r⟩ => ⟨f, na, fs, pa, pas, by rw [e], rfl, h1, h2, r⟩
theorem FmAt.info {M : List Addr} {H : Hp} {f na pa : Addr} : ∀ {fm : Fm}, FmAt H M fm f na pa → ∃ (kd : String) (n : Int) (xs : List V), H f = some (.tup [.str (ws kd), .ref na, .ref pa]) ∧ (kd, n) ∈ armsTab ∧ H pa = some (.lst xs) ∧ xs.length ≤ 1 ∧
    ((∃ t, fm = .pr0 t ∧ kd = "product" ∧ n = 2 ∧ xs = []) ∨ (∃ s y, fm = .pr1 s ∧ kd = "product" ∧ n = 2 ∧ xs = [y] ∧ TreeAt H (off M) s y) ∨ (∃ pl, fm = .tu pl ∧ kd = "turned" ∧ n = 1 ∧ xs = [] ∧ H na = some (.tup (pl.map V.int))))
  | .pr0 t, ⟨a, b, c⟩ => ⟨"product", 2, [], a, by decide, c, by decide, .inl ⟨t, rfl, rfl, rfl, rfl⟩⟩
  | .pr1 s, ⟨a, b, x, c, d⟩ => ⟨"product", 2, [x], a, by decide, c, Nat.le_refl _, .inr (.inl ⟨s, x, rfl, rfl, rfl, rfl, d⟩)⟩
  | .tu pl, ⟨a, b, c⟩ => ⟨"turned", 1, [], a, by decide, c, by decide, .inr (.inr ⟨pl, rfl, rfl, rfl, rfl, b⟩)⟩
section
variable {P : Program} {w : World} {K : PySem.W.Frag} {mg : Str → Option Value} {base : Heap} {C : Addr}
theorem ok_joined {f dA : Addr} {fd : FuncData} {es : Array DictEntry} {nn : Nat} (B : Bl mg) (A_ : Tb K w mg "ARMS" dA es nn armsTab) (F : Fun K "joined" "joined" sJoined f fd) : FnOk P w K mg base CX0 1 f fd ["waiting", "part"] spJoined := by
  refine F.ok scJoined (fun vs H Q E h => ?_) (fun cdv A outer s H vs Q E hr h => ?_)
  · obtain ⟨wa, x, fs, pas, c, t, M, rfl, _⟩ := h
    rfl
  obtain ⟨wa, x, fs, pas, c, t, M, rfl, hwa, hctx, hnd, hwM, hm, ht, hlen, k1, k2⟩ := h
  refine ⟨_, pss_cons (ps_while PassesOwn.never (pt_truth (pv 0) (by intro _; rfl))
      (pss_cons (ps_asg (pe_ix ix_list (pv 0) (pe_un un_neg pe_int) (fun _ _ => rfl)) (pg_tup rfl (pgs_cons (pg_name (i := 2) scJoined.nd rfl (.inl rfl)) (pgs_cons (pg_name (i := 3) scJoined.nd rfl (.inl rfl)) (pgs_cons (pg_name (i := 4) scJoined.nd rfl (.inl rfl)) pgs_nil)))))
      (pss_cons (ps_expr (pe_bm PySem.F.plainAttrs_list PySem.F.slot_list_append PySem.F.type_list_append mt_append (pv 4) (pa_cons (pv 1) pa_nil)))
      (pss_cons (ps_if (pt_cmpR op_lt (pe_callB call_len_seq rfl B.len PySem.boot_len (pa_cons (pv 4) pa_nil)) (pe_ix ix_kdict (pe_gr A_.m) (pv 2) (fun _ _ => rfl)) (nomark _)) (pss_one (ps_ret pe_non)) pss_nil)
      (pss_cons (ps_expr (pe_bm0 PySem.F.plainAttrs_list PySem.F.slot_list_pop PySem.F.type_list_pop mt_pop (pv 0)))
      (pss_one (ps_set (i := 1) scJoined.nd rfl (.inl rfl) (pe_ifExp (pt_cmpR op_eq (pv 2) pe_str (nomark _)) (pe_tup (pa_cons (pv 2) (StX.pa_star (pv 4) (pa_cons (pv 3) pa_nil)))) (pe_tup (pa_cons (pv 2) (StX.pa_star (pv 4) pa_nil)))))))))))
    (pss_one (ps_ret (pv 1))), ?_⟩
  refine ⟨wJoin H wa M c t, ⟨_, x, fs, pas, c, t, none, none, none, rfl, Keep.refl hm, hwa, hctx, hnd, ht, rfl, hlen, rfl⟩, fun m σ H' hw => ?_⟩
  obtain ⟨x, fs, pas, c2, t2, u2, u3, u4, rfl, kp, hwa, hctx, hnd, ht, hcl, hlen2, rfl⟩ := hw
  have hm' := kp.mok
  cases c2 with
  | nil =>
    have hfs : fs = [] := List.eq_nil_of_length_eq_zero (CtxAt.len hctx)
    subst hfs
    refine ⟨_, rfl, false, .inl ⟨_, SqL.of hwa, rfl⟩, ifF rfl ?_⟩
    exact ⟨_, rfl, k1 t2 (by rw [← hcl]; rfl) x H' kp ht⟩
  | cons fm c2 =>
    obtain ⟨fa, na, fs', pa, pas', rfl, rfl, hfm, hpaM, hctx⟩ := CtxAt.inv hctx
    have hwp : wa ≠ pa := fun e => (List.nodup_cons.mp hnd).1 (by rw [e]; exact List.mem_cons_self)
    have hnd2 : (wa :: pas').Nodup := by
      have h1 := List.nodup_cons.mp hnd
      have h2 := List.nodup_cons.mp h1.2
      exact List.nodup_cons.mpr ⟨fun z => h1.1 (List.mem_cons_of_mem _ z), h2.2⟩
    have hpn : pa ∉ pas' := (List.nodup_cons.mp (List.nodup_cons.mp hnd).2).1
    have hwn : wa ∉ pas' := (List.nodup_cons.mp hnd2).1
    have hfl : fs'.length = c2.length := CtxAt.len hctx
    rw [List.length_cons] at hlen2
    rw [List.reverse_cons] at hwa
    have hne : (!(fs'.reverse ++ [V.ref fa]).isEmpty) = true := by
      cases fs'.reverse <;> rfl
    refine ⟨_, rfl, true, .inl ⟨_, SqL.of hwa, hne.symm⟩, ifT rfl ⟨_, fun _ _ h => h, ?_⟩⟩
    obtain ⟨kd, n, xs, hf, hk, hpa, hx1, hinfo⟩ := FmAt.info hfm
    obtain ⟨u0, hu0, ru0⟩ := A_.at_ _ hk
    refine ⟨_, rfl, _, rfl, wa, _, _, _, rfl, rfl, SqL.of hwa, atI_last _ _, fa, _, rfl, SqT.of hf, rfl, _, _, rfl, _, _, rfl, _, _, rfl, rfl, ?_⟩
    refine ⟨_, rfl, .inl ⟨rfl, _, SqL.of hpa⟩, _, rfl, pa, xs, x, rfl, rfl, hpa, small1000 (by omega), ?_⟩
    have kp1 : Keep M H' (upd H' pa (.lst (xs ++ [x]))) := Keep.write hm' hpaM
    have ctx1 := ctx_write (xs := xs ++ [x]) hm' hpaM hpn hctx
    have hwa1 : upd H' pa (.lst (xs ++ [x])) wa = some (.lst (fs'.reverse ++ [.ref fa])) := by rw [upd_ne hwp]; exact hwa
    have hpa1 : upd H' pa (.lst (xs ++ [x])) pa = some (.lst (xs ++ [x])) := upd_same
    have ht1 := kp1.tree hm' ht
    refine ⟨_, rfl, pa, _, rfl, .inl (SqL.of hpa1), _, rfl, dA, _, .int n, rfl, rfl, ⟨es, nn, u0, A_.D.at_, A_.D.lit, hu0, ru0⟩, _, _, rfl, rfl, _, rfl, ?_⟩
    rw [List.length_append, List.length_singleton]
    generalize upd H' pa (.lst (xs ++ [x])) = H1 at kp1 ctx1 hwa1 hpa1 ht1
    have hf1 := kp1.tup hm' hf
    have hm1 := kp1.mok
    -- what comes behind the pop
    have pop : ∀ (p : Addr) (o : HO), upd H1 wa (.lst fs'.reverse) p = none → Keep M H1 (upd (upd H1 wa (.lst fs'.reverse)) p o) ∧ CtxAt (upd (upd H1 wa (.lst fs'.reverse)) p o) M fs' pas' c2 ∧ upd (upd H1 wa (.lst fs'.reverse)) p o wa = some (.lst fs'.reverse) := fun p o hp => by
      have kw : Keep M H1 (upd H1 wa (.lst fs'.reverse)) := Keep.write hm1 hwM
      have sp := same_new hp o
      have k3 := Keep.of_same kw.mok sp
      exact ⟨kw.trans k3, (ctx_write hm1 hwM hwn ctx1).keep kw.mok k3 fun pa _ ys q => sp _ _ q, sp _ _ upd_same⟩
    have hdl : (fs'.reverse ++ [V.ref fa]).dropLast = fs'.reverse := List.dropLast_concat
    have hlast : (fs'.reverse ++ [V.ref fa])[(fs'.reverse ++ [V.ref fa]).length - 1]? = some (V.ref fa) := by
      rw [List.length_append, List.length_singleton, Nat.add_sub_cancel, List.getElem?_append_right (Nat.le_refl _), Nat.sub_self]
      rfl
    rcases hinfo with ⟨tp, rfl, rfl, rfl, rfl⟩ | ⟨s0, y, rfl, rfl, rfl, rfl, hs0⟩ | ⟨pl, rfl, rfl, rfl, rfl, hna⟩
    · refine ifT (by decide) ?_
      have hna := hfm.2.1
      exact k2 (.pr1 t2 :: c2) tp (by rw [← hcl]; rfl) (.ref fa :: fs') (pa :: pas') H1 (kp.trans kp1) (by rw [List.reverse_cons]; exact hwa1) ⟨⟨fa, na, rfl, ⟨hf1, kp1.tup hm' hna, x, hpa1, ht1⟩, hpaM⟩, ctx1⟩ hnd
    · refine ifF (show decide (((1 + 1 : Nat) : Int) < 2) = false by decide) ?_
      refine ⟨_, rfl, .inl ⟨rfl, _, SqL.of hwa1⟩, wa, _, _, rfl, rfl, hwa1, hlast, ?_⟩
      rw [hdl]
      refine ⟨_, rfl, rfl, _, rfl, str_ne (by decide) ?_⟩
      have hpa2 : upd H1 wa (.lst fs'.reverse) pa = some (.lst [y, x]) := by rw [upd_ne (Ne.symm hwp)]; exact hpa1
      refine ⟨_, rfl, _, rfl, pa, _, rfl, .inr (SqL.of hpa2), (by show 3 ≤ sizeLine; exact small (by decide)), fun p hp => ?_⟩
      obtain ⟨q1, q2, q3⟩ := pop p (.tup [.str (ws "product"), y, x]) hp
      refine ⟨_, Nat.lt_succ_self _, .ref p, fs', pas', c2, .product s0 t2, _, _, _, rfl, kp.trans (kp1.trans q1), q3, q2, hnd2, ⟨p, y, x, rfl, upd_same, q1.tree hm1 (kp1.tree hm' hs0), q1.tree hm1 ht1⟩, hcl, by omega, rfl⟩
    · refine ifF (by decide) ?_
      refine ⟨_, rfl, .inl ⟨rfl, _, SqL.of hwa1⟩, wa, _, _, rfl, rfl, hwa1, hlast, ?_⟩
      rw [hdl]
      refine ⟨_, rfl, rfl, _, rfl, str_eq ?_⟩
      have hpa2 : upd H1 wa (.lst fs'.reverse) pa = some (.lst [x]) := by rw [upd_ne (Ne.symm hwp)]; exact hpa1
      refine ⟨_, rfl, _, rfl, pa, _, rfl, .inr (SqL.of hpa2), _, rfl, (by show 3 ≤ sizeLine; exact small (by decide)), fun p hp => ?_⟩
      obtain ⟨q1, q2, q3⟩ := pop p (.tup [.str (ws "turned"), x, .ref na]) hp
      refine ⟨_, Nat.lt_succ_self _, .ref p, fs', pas', c2, .turned t2 pl, _, _, _, rfl, kp.trans (kp1.trans q1), q3, q2, hnd2, ⟨p, x, na, rfl, upd_same, q1.tree hm1 ht1, q1.tup hm1 (kp1.tup hm' hna)⟩, hcl, by omega, rfl⟩
end
end K5
/-! K5, walks 9: parse_square. -/
namespace K5
open PySem PySem.Spec PyProof.Rows L2
abbrev sParse : Stmt := topS 40
def headK : T → String
  | .listed _ => "listed"
  | .sum .. => "sum"
  | .field .. => "field"
  | .product .. => "product"
  | .turned .. => "turned"
  | .bad _ => ""
def headN : T → List Int
  | .listed rows => [((rows.length : Nat) : Int)]
  | .sum n a b => [n, a, b]
  | .field n a b => [n, a, b]
  | .product .. => []
  | .turned _ pl => pl
  | .bad _ => []
def tailW : T → List (List Str)
  | .listed rows => rows.map rowW
  | .sum .. => []
  | .field .. => []
  | .product s t => wl s ++ wl t
  | .turned s _ => wl s
  | .bad _ => []
theorem wl_head {f : T} (h : Nn f) : wl f = (ws (headK f) :: (headN f).map num) :: tailW f := by
  cases f with
  | bad s => exact h.elim
  | _ => rfl
theorem head_in {f : T} (h : Nn f) : (headK f, (((headN f).length : Nat) : Int)) ∈ numTab ∧ (∀ x ∈ headN f, nice x) ∧ (headN f).length ≤ 3 := by
  cases f with
  | bad s => exact h.elim
  | listed rows =>
    refine ⟨by show ("listed", (1 : Int)) ∈ numTab; decide, fun x hx => ?_, by show 1 ≤ 3; decide⟩
    have hx : x ∈ [((rows.length : Nat) : Int)] := hx
    rw [List.mem_singleton] at hx
    subst hx
    have := h.2.1
    exact ⟨by omega, by rw [ten30]; omega⟩
  | sum n a b =>
    refine ⟨by show ("sum", (3 : Int)) ∈ numTab; decide, fun x hx => ?_, by show 3 ≤ 3; decide⟩
    have hx : x ∈ [n, a, b] := hx
    simp only [List.mem_cons, List.not_mem_nil, or_false] at hx
    rcases hx with e | e | e
    · subst e; exact h.1
    · subst e; exact h.2.1
    · subst e; exact h.2.2
  | field n a b =>
    refine ⟨by show ("field", (3 : Int)) ∈ numTab; decide, fun x hx => ?_, by show 3 ≤ 3; decide⟩
    have hx : x ∈ [n, a, b] := hx
    simp only [List.mem_cons, List.not_mem_nil, or_false] at hx
    rcases hx with e | e | e
    · subst e; exact h.1
    · subst e; exact h.2.1
    · subst e; exact h.2.2
  | product s t => exact ⟨(by show ("product", (0 : Int)) ∈ numTab; decide), (fun x hx => by cases hx), (by show 0 ≤ 3; decide)⟩
  | turned s pl =>
    have e : (headN (.turned s pl)).length = 3 := h.2.1
    refine ⟨by rw [e]; show ("turned", (3 : Int)) ∈ numTab; decide, h.2.2, by rw [e]; decide⟩
def armN : T → Int
  | .product .. => 2
  | .turned .. => 1
  | _ => 0
theorem arm_in {f : T} (h : Nn f) : (headK f, armN f) ∈ armsTab := by
  cases f with
  | bad s => exact h.elim
  | listed rows => show ("listed", (0 : Int)) ∈ armsTab; decide
  | sum n a b => show ("sum", (0 : Int)) ∈ armsTab; decide
  | field n a b => show ("field", (0 : Int)) ∈ armsTab; decide
  | product s t => show ("product", (2 : Int)) ∈ armsTab; decide
  | turned s pl => show ("turned", (1 : Int)) ∈ armsTab; decide
theorem noRow_wl {f : T} (h : Nn f) (r : List (List Str)) : noRow (wl f ++ r) := by
  rw [wl_head h]
  refine .inr ⟨_, _, _, rfl, ?_⟩
  cases f with
  | bad s => exact h.elim
  | listed rows => show ws "listed" ≠ ws "row"; decide
  | sum n a b => show ws "sum" ≠ ws "row"; decide
  | field n a b => show ws "field" ≠ ws "row"; decide
  | product s t => show ws "product" ≠ ws "row"; decide
  | turned s pl => show ws "turned" ≠ ws "row"; decide
theorem noRow_ctx : ∀ (c : List Fm) {x : T}, Nn (plug c x) → noRow (restW c)
  | [], _, _ => .inl rfl
  | .pr0 t :: c, x, h => noRow_wl (nn_plug c (x := .product x t) h).2 _
  | .pr1 s :: c, x, h => noRow_ctx c (x := .product s x) h
  | .tu pl :: c, x, h => noRow_ctx c (x := .turned x pl) h
theorem szL_mem {x : Str} : ∀ {l : List Str}, x ∈ l → x.length + 1 ≤ szL l
  | y :: l, h => by
    rw [szL_cons]
    rcases List.mem_cons.mp h with e | h
    · subst e; omega
    · have := szL_mem h; omega
theorem text_len {t : T} (h : Nn t) (hm : many t ≤ 12) : (textOf t).length ≤ 80000 := by
  have h1 := join_len1 (y := nl1) (by decide) (ws "square" :: lines t)
  have h2 := (sz_lines t h).1
  rw [szL_cons] at h1
  have e : (ws "square").length = 6 := by decide
  unfold textOf
  omega
/-- the lines, each a list at a place that is not D -/
def LnsD (H : Hp) (D : Addr) : List V → List (List Str) → Prop := Paired fun v w => ∃ a, v = V.ref a ∧ a ≠ D ∧ H a = some (.lst (w.map V.str))
theorem LnsD.lines {H : Hp} {D : Addr} : ∀ {ls : List V} {W : List (List Str)}, LnsD H D ls W → LinesAt H ls W
  | _, _, .nil => .nil
  | _, _, .cons ⟨a, e, _, h⟩ r => .cons ⟨a, e, h⟩ (LnsD.lines r)
theorem LnsD.step {H H' : Hp} {D : Addr} (s : ∀ b o, b ≠ D → H b = some o → H' b = some o) : ∀ {ls : List V} {W : List (List Str)}, LnsD H D ls W → LnsD H' D ls W
  | _, _, .nil => .nil
  | _, _, .cons ⟨a, e, n, h⟩ r => .cons ⟨a, e, n, s _ _ n h⟩ (LnsD.step s r)
theorem LnsD.snoc {H : Hp} {D a : Addr} {w : List Str} (n : a ≠ D) (h : H a = some (.lst (w.map V.str))) : ∀ {ls : List V} {W : List (List Str)}, LnsD H D ls W → LnsD H D (ls ++ [.ref a]) (W ++ [w])
  | _, _, .nil => .cons ⟨a, rfl, n, h⟩ .nil
  | _, _, .cons q r => .cons q (LnsD.snoc n h r)
/-- one more list that changes -/
theorem TreeAt.grow {H : Hp} {M : List Addr} {p : Addr} {o : HO} (hp : H p = none) {t : T} {v : V} (h : TreeAt H (off M) t v) : TreeAt (upd H p o) (off (p :: M)) t v :=
  h.mono (fun b xs q => same_new hp o _ _ q) fun b xs hb q => ⟨fun z => (List.mem_cons.mp z).elim (ne_of_none q hp) hb, same_new hp o _ _ q⟩
theorem FmAt.grow {H : Hp} {M : List Addr} {p : Addr} {o : HO} (hp : H p = none) {f na pa : Addr} : ∀ {fm : Fm}, FmAt H M fm f na pa → FmAt (upd H p o) (p :: M) fm f na pa
  | .pr0 t, ⟨a, b, c⟩ => ⟨same_new hp o _ _ a, same_new hp o _ _ b, same_new hp o _ _ c⟩
  | .pr1 s, ⟨a, b, x, c, d⟩ => ⟨same_new hp o _ _ a, same_new hp o _ _ b, x, same_new hp o _ _ c, d.grow hp⟩
  | .tu pl, ⟨a, b, c⟩ => ⟨same_new hp o _ _ a, same_new hp o _ _ b, same_new hp o _ _ c⟩
theorem CtxAt.grow {H : Hp} {M : List Addr} {p : Addr} {o : HO} (hp : H p = none) : ∀ {fs : List V} {pas : List Addr} {c : List Fm}, CtxAt H M fs pas c → CtxAt (upd H p o) (p :: M) fs pas c
  | [], [], [], _ => trivial
  | v :: fs, pa :: pas, fm :: c, ⟨⟨f, na, e, h, hm⟩, r⟩ => ⟨⟨f, na, e, h.grow hp, List.mem_cons_of_mem _ hm⟩, CtxAt.grow hp r⟩
theorem CtxAt.pas {M : List Addr} {H : Hp} : ∀ {fs : List V} {pas : List Addr} {c : List Fm}, CtxAt H M fs pas c → ∀ pa ∈ pas, pa ∈ M
  | [], [], [], _, p, hp => by cases hp
  | _ :: _, _ :: _, _ :: _, ⟨⟨f, na, e, h, hm⟩, r⟩, p, hp => by
    rcases List.mem_cons.mp hp with e | hp
    · subst e; exact hm
    · exact CtxAt.pas r p hp
def rSplit : V → List V → Hp → VK → Prop := fun x xs H Q => ∃ a b, x = .str a ∧ xs = [.str b] ∧ (b.length == 0) = false ∧ a.length + 2 ≤ sizeLine ∧ rNewStrs (Txt.split a b) H Q
def spParse : Sp := fun vs H Q _ => ∃ t : T, vs = [.str (textOf t)] ∧ chk t 1 ≠ none ∧ ∀ (v : V) (H' : Hp), Same H H' → TreeAt H' no t v → Q v H'
abbrev nParse : List Str := ["text", "lines", "at", "tree", "waiting", "counted", "kind", "numbers", "part", "rows", "line"]
theorem scParse : FnScope nParse ["text"] (defScope sParse) := ⟨rfl, rfl, rfl, by decide +kernel, rfl, by decide +kernel, by decide +kernel⟩
def wParse (H1 : Hp) (tx : V) (D wa : Addr) (W : List (List Str)) (t : T) : Nat → L2.St → Hp → Prop := fun k σ H' =>
  (∃ (i : Nat) (f : T) (c : List Fm) (fs : List V) (pas M : List Addr) (u6 u7 u8 u9 : Option V), σ = [some tx, some (.ref D), some (.int ((i : Nat) : Int)), some .non, some (.ref wa), some (.bl true), u6, u7, u8, u9, none] ∧ Same H1 H' ∧ (∀ b ∈ M, H1 b = none) ∧ MOk M H' ∧
    H' wa = some (.lst fs.reverse) ∧ CtxAt H' M fs pas c ∧ (wa :: pas).Nodup ∧ wa ∈ M ∧ W.drop i = wl f ++ restW c ∧ plug c f = t ∧ i ≤ W.length ∧ c.length ≤ i ∧ k = W.length - i + 1) ∨
  (∃ (v : V) (M : List Addr) (u6 u7 u8 u9 : Option V), σ = [some tx, some (.ref D), some (.int ((W.length : Nat) : Int)), some v, some (.ref wa), some (.bl true), u6, u7, u8, u9, none] ∧ Same H1 H' ∧ TreeAt H' (off M) t v ∧ k = 0)
theorem TreeAt.nn {H : Hp} {L : Addr → Prop} {t : T} {v : V} (h : TreeAt H L t v) : v ≠ .non := by
  obtain ⟨p, k, n, rest, e, _⟩ := h.node
  rw [e]
  intro z
  cases z
section
variable {P : Program} {w : World} {K : PySem.W.Frag} {mg : Str → Option Value} {base : Heap} {C : Addr}
theorem ok_parse {f fh fn ff fj fc dA : Addr} {fd fdh fdn fdf fdj fdc : FuncData} {es : Array DictEntry} {nn : Nat} (B : Bl mg) (A_ : Tb K w mg "ARMS" dA es nn armsTab) (F : Fun K "parse_square" "parse_square" sParse f fd)
    (Dh : Df K mg "is_head" sHead ["words"] fh fdh) (Gh : FnOk P w K mg base CX0 2 fh fdh ["words"] spHead) (Dn : Df K mg "numbers_of" sNums ["words"] fn fdn) (Gn : FnOk P w K mg base CX0 1 fn fdn ["words"] spNums)
    (Df_ : Df K mg "rows_from" sFrom ["lines", "at"] ff fdf) (Gf : FnOk P w K mg base CX0 3 ff fdf ["lines", "at"] spFrom) (Dj : Df K mg "joined" sJoined ["waiting", "part"] fj fdj) (Gj : FnOk P w K mg base CX0 1 fj fdj ["waiting", "part"] spJoined)
    (Dc : Df K mg "checked" sChecked ["tree"] fc fdc) (Gc : FnOk P w K mg base (L2.CX P w) 17 fc fdc ["tree"] (spChecked C)) : FnOk P w K mg base (L2.CX P w) 18 f fd ["text"] spParse := by
  refine F.okX scParse (fun vs H Q E h => ?_) (fun cdv A outer s H vs Q E hr h => ?_)
  · obtain ⟨t, rfl, _⟩ := h
    rfl
  obtain ⟨t, rfl, hc, k⟩ := h
  obtain ⟨hv, hm⟩ := chk_some hc
  have hnn := nn_of_val t hv
  have hwf := wf_of_nn t hv
  have hr1 := hr.mono (by decide : 1 ≤ 17)
  have hr2 := hr.mono (by decide : 2 ≤ 17)
  have hr3 := hr.mono (by decide : 3 ≤ 17)
  refine ⟨_, pss_cons (ps_setLc (i := 1) (own := [("line", 10)]) (g := gName 10) (tt := tYes) (te := tM1 rSplit (tVar 10) (tC (.str (Str.ofString " ")))) rfl scParse.nd rfl rfl (sw_true rfl rfl rfl (by decide +kernel)) (pi_list (pe_split (pv 0) pe_str)) (blkOk_by (N := nParse) (sc := defScope sParse) (by decide +kernel)) (fun _ _ _ _ _ => pg_name (i := 10) scParse.nd rfl (Or.inl rfl)) (fun _ _ _ _ _ => pts_nil) (fun _ _ _ _ _ => pe_split (pv 10) pe_str))
    (pss_cons (ps_if (pt_cmpR (op_neD hr.units) (pe_ix ix_list (pv 1) pe_int (fun _ _ => rfl)) (pe_lst (pa_cons pe_str pa_nil)) (nomark _)) (pss_never) pss_nil)
    (pss_cons (ps_set (i := 2) scParse.nd rfl (.inl rfl) pe_int)
    (pss_cons (ps_set (i := 3) scParse.nd rfl (.inl rfl) pe_non)
    (pss_cons (ps_set (i := 4) scParse.nd rfl (.inl rfl) (pe_lst pa_nil))
    (pss_cons (ps_set (i := 5) scParse.nd rfl (.inl rfl) pe_bl)
    (pss_cons (ps_while (passes_of rfl) (pt_cmpR op_isN (pv 3) pe_non (nomark _)) (pss_cons (ps_if (PW.pt (pw_or (pt_cmpR op_eq (pv 2) (pe_callB call_len_seq rfl B.len PySem.boot_len (pa_cons (pv 1) pa_nil)) (nomark _)) (pw_or1 (pt_not (pt_val (pe_call Gh hr2 rfl Dh.m Dh.kp Dh.b .nil pass0 (pa_cons (pe_ix ix_list (pv 1) (pv 2) (fun _ _ => rfl)) pa_nil))))))) (pss_never) pss_nil)
    (pss_cons (ps_set (i := 6) scParse.nd rfl (.inl rfl) (pe_ix ix_list (pe_ix ix_list (pv 1) (pv 2) (fun _ _ => rfl)) pe_int (fun _ _ => rfl)))
    (pss_cons (ps_set (i := 7) scParse.nd rfl (.inl rfl) (pe_call Gn hr1 rfl Dn.m Dn.kp Dn.b .nil pass0 (pa_cons (pe_ix ix_list (pv 1) (pv 2) (fun _ _ => rfl)) pa_nil)))
    (pss_cons (ps_aug (i := 2) scParse.nd rfl (.inl rfl) pe_int ip_add)
    (pss_cons (ps_if (pt_cmpR op_gt (pe_ix ix_kdict (pe_gr A_.m) (pv 6) (fun _ _ => rfl)) pe_int (nomark _)) (pss_cons (ps_expr (pe_bm PySem.F.plainAttrs_list PySem.F.slot_list_append PySem.F.type_list_append mt_append (pv 4) (pa_cons (pe_tup (pa_cons (pv 6) (pa_cons (pv 7) (pa_cons (pe_lst pa_nil) pa_nil)))) pa_nil)))
    (pss_one (ps_continue))) pss_nil)
    (pss_cons (ps_set (i := 8) scParse.nd rfl (.inl rfl) (pe_tup (pa_cons (pv 6) (StX.pa_star (pv 7) pa_nil))))
    (pss_cons (ps_if (pt_cmpR op_eq (pv 6) pe_str (nomark _)) (pss_cons (ps_set (i := 9) scParse.nd rfl (.inl rfl) (pe_call Gf hr3 rfl Df_.m Df_.kp Df_.b .nil pass0 (pa_cons (pv 1) (pa_cons (pv 2) pa_nil))))
    (pss_cons (ps_aug (i := 2) scParse.nd rfl (.inl rfl) (pe_callB call_len_seq rfl B.len PySem.boot_len (pa_cons (pv 9) pa_nil)) ip_add)
    (pss_cons (ps_set (i := 5) scParse.nd rfl (.inl rfl) (pe_and (pv 5) (pe_one (pe_cmpR op_eq (pe_callB call_len_seq rfl B.len PySem.boot_len (pa_cons (pv 9) pa_nil)) (pe_ix ix_tup (pv 7) pe_int (fun _ _ => rfl)) (nomark _)))))
    (pss_one (ps_set (i := 8) scParse.nd rfl (.inl rfl) (pe_tup (pa_cons (pv 6) (pa_cons (pv 9) pa_nil)))))))) pss_nil)
    (pss_one (ps_set (i := 3) scParse.nd rfl (.inl rfl) (pe_call Gj hr1 rfl Dj.m Dj.kp Dj.b .nil pass0 (pa_cons (pv 4) (pa_cons (pv 8) pa_nil)))))))))))))
    (pss_cons (ps_if (pt_cmpR op_lt (pv 2) (pe_callB call_len_seq rfl B.len PySem.boot_len (pa_cons (pv 1) pa_nil)) (nomark _)) (pss_never) pss_nil)
    (pss_one (ps_ret (pe_call Gc hr rfl Dc.m Dc.kp Dc.b .nil (passes_call (takes_of rfl rfl rfl rfl) (fun _ _ _ _ h => h)) (pa_cons (pe_ifExp (pt_val (pv 5)) (pv 3) (pe_tup pa_nil)) pa_nil))))))))))), ?_⟩
  have htl := text_len hnn hm
  have hszl := sz_lines t hnn
  have htok := wl_ok t hnn
  obtain ⟨W, hW⟩ : ∃ W : List (List Str), W = [ws "square"] :: wl t := ⟨_, rfl⟩
  have hWl : W.map ln = ws "square" :: lines t := by rw [hW]; rfl
  have hWlen : W.length ≤ 200 := by
    have h1 := congrArg List.length hWl
    rw [List.length_map, List.length_cons] at h1
    have := hszl.2
    omega
  have hWok : ∀ x ∈ W, (x ≠ [] ∧ ∀ y ∈ x, okW y) ∧ (ln x).length ≤ 100000 := by
    intro x hx
    have hmem : ln x ∈ ws "square" :: lines t := by rw [← hWl]; exact List.mem_map.mpr ⟨x, hx, rfl⟩
    have hz := szL_mem hmem
    rw [szL_cons] at hz
    have e6 : (ws "square").length = 6 := by decide
    refine ⟨?_, by omega⟩
    rw [hW] at hx
    rcases List.mem_cons.mp hx with e | hx
    · subst e
      refine ⟨by simp, fun y hy => ?_⟩
      rw [List.mem_singleton] at hy
      subst hy
      exact ⟨by decide, by decide⟩
    · exact htok x hx
  refine ⟨_, rfl, ⟨_, rfl⟩, textOf t, nl1, rfl, rfl, by decide, by rw [sizeLine_eq]; omega, fun p hp => ?_⟩
  rw [text_split hnn, ← hWl]
  have s1 := same_new hp (.lst ((W.map ln).map V.str))
  have e1 : upd H p (.lst ((W.map ln).map V.str)) p = some (.lst ((W.map ln).map V.str)) := upd_same
  generalize upd H p (.lst ((W.map ln).map V.str)) = H1 at s1 e1
  refine ⟨p, rfl, ⟨_, SqL.of e1⟩, fun D hD => lc_list (xs := (W.map ln).map V.str) (fun j H4 => Same H1 H4 ∧ ∃ ls, H4 D = some (.lst ls) ∧ LnsD H4 D ls (W.take j)) ⟨same_new hD _, [], upd_same, .nil⟩ ?_ ?_ ?_⟩
  · rintro j H4 _ ⟨s4, _⟩
    exact SqL.of (s4 _ _ e1)
  · rintro j x H4 hx ⟨s4, ls, e4, hls⟩
    obtain ⟨y, hy, rfl⟩ := map_at hx
    obtain ⟨wd, hwd, rfl⟩ := map_at hy
    have hj : j < W.length := (List.getElem?_eq_some_iff.mp hwd).1
    have hok := hWok wd (List.mem_of_getElem? hwd)
    have hll : ls.length = (W.take j).length := Paired.length hls
    rw [List.length_take] at hll
    refine ⟨rfl, ?_⟩
    refine ⟨_, rfl, ⟨_, rfl⟩, ln wd, sp1, rfl, rfl, by decide, by rw [sizeLine_eq]; have := hok.2; omega, fun q hq => ?_⟩
    have e : Txt.split (ln wd) (Str.ofString " ") = wd := ln_split hok.1.1 hok.1.2
    have hqD : q ≠ D := Ne.symm (ne_of_none e4 hq)
    refine ⟨ls, same_new hq _ _ _ e4, small1000 (by omega), ?_, ls ++ [.ref q], upd_same, ?_⟩
    · exact fun b o z => by rw [upd_ne (ne_of_none z hD)]; exact same_new hq _ _ _ (s4 _ _ z)
    · rw [take_snoc hwd]
      refine LnsD.snoc hqD ?_ (hls.step fun b o hb z => ?_)
      · rw [upd_ne hqD, upd_same, e]
      · rw [upd_ne hb]; exact same_new hq _ _ _ z
  rintro H4 ⟨s4, ls, hDl, hls0⟩
  rw [List.length_map, List.length_map, List.take_length] at hls0
  have hls := hls0.lines
  have hlsl : ls.length = W.length := Paired.length hls
  obtain ⟨a0, ha0, hb0⟩ := hls.at (i := 0) (w := [ws "square"]) (by rw [hW]; rfl)
  have s04 := s1.trans s4
  refine ⟨_, rfl, D, ls, _, _, rfl, rfl, SqL.of hDl, atI_nat (j := 0) ha0, (by show 1 ≤ sizeLine; exact small (by decide)), fun l hl => ?_⟩
  have s5 := same_new hl (.lst [.str (Str.ofString "square")])
  refine ⟨.list [.str (ws "square")], .list [.str (ws "square")], .lst (SqL.of (s5 _ _ hb0)) (.cons (.str _) .nil), .lst (SqL.of upd_same) (.cons (.str _) .nil), by decide +kernel, by decide +kernel, _, rfl, ifF (by decide +kernel) ?_⟩
  have hDl := s5 _ _ hDl
  have hls := hls.same s5
  have s05 := s04.trans s5
  refine ⟨(by show 0 ≤ sizeLine; exact Nat.zero_le _), fun wa hwa => ?_⟩
  generalize upd H4 l (.lst [V.str (Str.ofString "square")]) = H5 at s05 hDl hls hwa
  have mok0 : MOk [wa] (upd H5 wa (.lst [])) := fun b hb => by
    rw [List.mem_singleton] at hb
    subst hb
    exact ⟨_, upd_same⟩
  refine ⟨wParse H5 (.str (textOf t)) D wa W t, ⟨W.length - 1 + 1, .inl ⟨1, t, [], [], [], [wa], none, none, none, none, rfl, same_new hwa _, fun b hb => (by rw [List.mem_singleton] at hb; subst hb; exact hwa), mok0, upd_same, trivial, by simp, by simp, ?_, rfl, ?_, by decide, rfl⟩⟩, fun m σ H' hw => ?_⟩
  · rw [hW]
    show wl t = wl t ++ []
    rw [List.append_nil]
  · rw [hW, List.length_cons]
    omega
  rcases hw with ⟨i, f, c, fs, pas, M, u6, u7, u8, u9, rfl, s6, hMf, hmok, hwa', hctx, hnd, hwM, hdrop, hplug, hi, hci, rfl⟩ | ⟨v, M, u6, u7, u8, u9, rfl, s6, htv, rfl⟩
  case inr =>
    refine ⟨_, rfl, rfl, _, rfl, ifF (decide_eq_false htv.nn) ?_⟩
    refine ⟨_, rfl, _, rfl, D, ls, rfl, .inl (SqL.of (s6 _ _ hDl)), _, _, rfl, rfl, _, rfl, ifF (decide_eq_false (by rw [hlsl]; omega)) ?_⟩
    refine ⟨_, rfl, true, rfl, ifT rfl ⟨_, rfl, v, t, off M, rfl, htv, hwf, fun _ v' H'' s7 ht' => k v' H'' (s05.trans (s6.trans s7)) ht', fun e => absurd e hc⟩⟩
  refine ⟨_, rfl, rfl, _, rfl, ifT (decide_eq_true rfl) ⟨_, fun _ _ h => h, ?_⟩⟩
  have hnf : Nn f := nn_plug c (by rw [hplug]; exact hnn)
  have hin := head_in hnf
  rw [wl_head hnf, List.cons_append] at hdrop
  have hi1 : i < W.length := by
    have := congrArg List.length hdrop
    rw [List.length_drop, List.length_cons] at this
    omega
  have hWi : W[i]? = some (ws (headK f) :: (headN f).map num) := by
    have := drop_at hdrop 0
    rw [Nat.add_zero] at this
    rw [this]
    rfl
  have hdrop1 : W.drop (i + 1) = tailW f ++ restW c := by
    rw [← List.drop_drop, hdrop]
    rfl
  obtain ⟨a, hla, ha⟩ := hls.at hWi
  have hDl' := s6 _ _ hDl
  have ha' := s6 _ _ ha
  have hna := arm_in hnf
  obtain ⟨u0, hu0, ru0⟩ := A_.at_ _ hna
  refine ⟨_, rfl, _, rfl, D, ls, rfl, .inl (SqL.of hDl'), rfl, _, rfl, ifF (decide_eq_false (fun e => by have := V.int.inj e; omega)) ?_⟩
  refine ⟨_, rfl, _, rfl, D, ls, _, _, rfl, rfl, SqL.of hDl', atI_nat hla, a, headK f, headN f, rfl, ha', hin.1, hin.2.1, fun H2 s2 => ?_⟩
  refine ⟨_, rfl, ifF rfl ?_⟩
  have hDl2 := s2 _ _ hDl'
  have ha2 := s2 _ _ ha'
  refine ⟨_, rfl, _, rfl, D, ls, _, _, rfl, rfl, SqL.of hDl2, atI_nat hla, a, _, _, _, rfl, rfl, SqL.of ha2, atI_nat (j := 0) rfl, ?_⟩
  refine ⟨_, rfl, _, rfl, D, ls, _, _, rfl, rfl, SqL.of hDl2, atI_nat hla, a, ws (headK f), headN f, rfl, ha2, by have := hin.2.2; omega, hin.2.1, fun q H3 s3 hq => ?_⟩
  have s23 := s2.trans s3
  have s63 := s6.trans s23
  have k3 := Keep.of_same hmok s23
  have hmok3 := k3.mok
  have hwa3 := s23 _ _ hwa'
  have hctx3 := hctx.keep hmok k3 fun pa _ xs z => s23 _ _ z
  have hDl3 := s63 _ _ hDl
  clear hmok hwa' hctx k3 hDl2 ha2 hDl' ha'
  refine ⟨_, rfl, _, _, rfl, rfl, ?_⟩
  refine ⟨_, rfl, dA, _, .int (armN f), rfl, rfl, ⟨es, nn, u0, A_.D.at_, A_.D.lit, hu0, ru0⟩, _, _, rfl, rfl, _, rfl, ?_⟩
  -- behind joined
  have fin : ∀ (i' : Nat) (H6 : Hp) (x : V) (u6 u7 u8 u9 : Option V), Same H3 H6 → TreeAt H6 (off M) f x → W.drop i' = restW c → i' ≤ W.length → i < i' →
      spJoined [.ref wa, x] H6 (fun v H7 => ∃ m', m' < W.length - i + 1 ∧ wParse H5 (.str (textOf t)) D wa W t m' [some (.str (textOf t)), some (.ref D), some (.int ((i' : Nat) : Int)), some v, some (.ref wa), some (.bl true), u6, u7, u8, u9, none] H7) E0 := fun i' H6 x u6 u7 u8 u9 s36 hx hd hi' hlt => by
    have k6 := Keep.of_same hmok3 s36
    have hcl := climb_is c f
    refine ⟨wa, x, fs, pas, c, f, M, rfl, s36 _ _ hwa3, hctx3.keep hmok3 k6 fun pa _ xs z => s36 _ _ z, hnd, hwM, k6.mok, hx, by omega, fun y e x' H7 k7 ht7 => ?_, fun c' t' e fs' pas' H7 k7 hwa7 hctx7 hnd7 => ?_⟩
    · rw [e] at hcl
      have hcl : y = plug c f ∧ restW c = [] := hcl
      have hiW : i' = W.length := by
        have := congrArg List.length hd
        rw [hcl.2, List.length_drop, List.length_nil] at this
        omega
      subst hiW
      refine ⟨0, by omega, .inr ⟨x', M, u6, u7, u8, u9, rfl, fun b o z => ?_, by rw [← hplug, ← hcl.1]; exact ht7, rfl⟩⟩
      exact k7.keep _ _ (fun hb => by have := hMf b hb; rw [z] at this; cases this) (s36 _ _ (s63 _ _ z))
    · rw [e] at hcl
      have hcl : plug c' t' = plug c f ∧ restW c = wl t' ++ restW c' ∧ c'.length ≤ c.length := hcl
      refine ⟨W.length - i' + 1, by omega, .inl ⟨i', t', c', fs', pas', M, u6, u7, u8, u9, rfl, fun b o z => ?_, hMf, k7.mok, hwa7, hctx7, hnd7, hwM, by rw [hd, hcl.2.1], by rw [hcl.1, hplug], hi', by omega, rfl⟩⟩
      exact k7.keep _ _ (fun hb => by have := hMf b hb; rw [z] at this; cases this) (s36 _ _ (s63 _ _ z))
  -- a part that waits for others
  have push : ∀ (fm : Fm) (g : T) (p1 p2 : Addr) (u8 u9 : Option V), H3 p1 = none → upd H3 p1 (.lst []) p2 = none →
      (∀ (pa : Addr) (H6 : Hp) (M6 : List Addr), H6 p2 = some (.tup [.str (ws (headK f)), .ref q, .ref pa]) → H6 q = some (.tup ((headN f).map V.int)) → H6 pa = some (.lst []) → FmAt H6 M6 fm p2 q pa) →
      W.drop (i + 1) = wl g ++ restW (fm :: c) → plug (fm :: c) g = t →
      ∃ m', m' < W.length - i + 1 ∧ wParse H5 (.str (textOf t)) D wa W t m' [some (.str (textOf t)), some (.ref D), some (.int (((i + 1 : Nat)) : Int)), some .non, some (.ref wa), some (.bl true), some (.str (ws (headK f))), some (.ref q), u8, u9, none]
        (upd (upd (upd H3 p1 (.lst [])) p2 (.tup [.str (ws (headK f)), .ref q, .ref p1])) wa (.lst (fs.reverse ++ [.ref p2]))) := fun fm g p1 p2 u8 u9 hp1 hp2 hfm hd hpl => by
    have sA := same_new hp1 (.lst [])
    have sB := same_new hp2 (.tup [.str (ws (headK f)), .ref q, .ref p1])
    have eA : upd (upd H3 p1 (.lst [])) p2 (.tup [.str (ws (headK f)), .ref q, .ref p1]) p1 = some (.lst []) := sB _ _ upd_same
    have hq6 := sB _ _ (sA _ _ hq)
    have e2 : upd (upd H3 p1 (.lst [])) p2 (.tup [.str (ws (headK f)), .ref q, .ref p1]) p2 = some (.tup [.str (ws (headK f)), .ref q, .ref p1]) := upd_same
    have mA : MOk (p1 :: M) (upd H3 p1 (.lst [])) := fun b hb => by
      rcases List.mem_cons.mp hb with e | hb
      · subst e; exact ⟨_, upd_same⟩
      · obtain ⟨xs, z⟩ := hmok3 b hb
        exact ⟨xs, sA _ _ z⟩
    have kB := Keep.of_same mA sB
    have cA := (hctx3.grow (o := .lst []) hp1).keep mA kB fun pa _ xs z => sB _ _ z
    have hwa6 := sB _ _ (sA _ _ hwa3)
    have h1w : p1 ≠ wa := Ne.symm (ne_of_none hwa3 hp1)
    have h2w : p2 ≠ wa := Ne.symm (ne_of_none (sA _ _ hwa3) hp2)
    have hqw : q ≠ wa := ne_of hq hwa3 (by intro z; cases z)
    have hf1 : H5 p1 = none := s63.free hp1
    have s56 : Same H5 (upd (upd H3 p1 (.lst [])) p2 (.tup [.str (ws (headK f)), .ref q, .ref p1])) := s63.trans (sA.trans sB)
    generalize upd (upd H3 p1 (.lst [])) p2 (.tup [.str (ws (headK f)), .ref q, .ref p1]) = H6 at eA hq6 e2 kB cA hwa6 s56
    have hwM' : wa ∈ p1 :: M := List.mem_cons_of_mem _ hwM
    have kC := Keep.write (xs := fs.reverse ++ [V.ref p2]) kB.mok hwM'
    have hwn : wa ∉ pas := (List.nodup_cons.mp hnd).1
    have hp1n : p1 ∉ pas := fun hz => by
      obtain ⟨xs, z⟩ := hmok3 p1 (hctx3.pas p1 hz)
      rw [hp1] at z
      cases z
    refine ⟨W.length - (i + 1) + 1, by omega, .inl ⟨i + 1, g, fm :: c, .ref p2 :: fs, p1 :: pas, p1 :: M, _, _, u8, u9, rfl, fun b o z => ?_, fun b hb => ?_, kC.mok, by rw [List.reverse_cons]; exact upd_same, ⟨⟨p2, q, rfl, hfm p1 _ _ ?_ ?_ ?_, List.mem_cons_self⟩, ?_⟩, ?_, hwM', hd, hpl, hi1, by rw [List.length_cons]; omega, rfl⟩⟩
    · rw [upd_ne (fun e => by subst e; have := hMf _ hwM; rw [z] at this; cases this)]
      exact s56 _ _ z
    · rcases List.mem_cons.mp hb with e | hb
      · subst e; exact hf1
      · exact hMf b hb
    · rw [upd_ne h2w]; exact e2
    · rw [upd_ne hqw]; exact hq6
    · rw [upd_ne h1w]; exact eA
    · exact ctx_write kB.mok hwM' hwn cA
    · exact List.nodup_cons.mpr ⟨fun hz => (List.mem_cons.mp hz).elim (fun e => h1w e.symm) hwn, List.nodup_cons.mpr ⟨hp1n, (List.nodup_cons.mp hnd).2⟩⟩
  cases f with
  | bad s => exact hnf.elim
  | product s g =>
    refine ifT (show decide ((0 : Int) < 2) = true by decide) ?_
    refine ⟨_, rfl, .inl ⟨rfl, _, SqL.of hwa3⟩, _, rfl, _, rfl, (by show 0 ≤ sizeLine; exact Nat.zero_le _), fun p1 hp1 => ⟨(by show 3 ≤ sizeLine; exact small (by decide)), fun p2 hp2 => ?_⟩⟩
    have hfl : fs.length = c.length := hctx3.len
    refine ⟨wa, fs.reverse, _, rfl, rfl, same_new hp2 _ _ _ (same_new hp1 _ _ _ hwa3), small1000 (by rw [List.length_reverse]; omega), ?_⟩
    exact push (.pr0 g) s p1 p2 _ _ hp1 hp2 (fun pa H6 M6 h1 h2 h3 => ⟨h1, h2, h3⟩) (by rw [hdrop1]; show (wl s ++ wl g) ++ restW c = wl s ++ (wl g ++ restW c); rw [List.append_assoc]) hplug
  | turned s pl =>
    refine ifT (show decide ((0 : Int) < 1) = true by decide) ?_
    refine ⟨_, rfl, .inl ⟨rfl, _, SqL.of hwa3⟩, _, rfl, _, rfl, (by show 0 ≤ sizeLine; exact Nat.zero_le _), fun p1 hp1 => ⟨(by show 3 ≤ sizeLine; exact small (by decide)), fun p2 hp2 => ?_⟩⟩
    have hfl : fs.length = c.length := hctx3.len
    refine ⟨wa, fs.reverse, _, rfl, rfl, same_new hp2 _ _ _ (same_new hp1 _ _ _ hwa3), small1000 (by rw [List.length_reverse]; omega), ?_⟩
    exact push (.tu pl) s p1 p2 _ _ hp1 hp2 (fun pa H6 M6 h1 h2 h3 => ⟨h1, h2, h3⟩) hdrop1 hplug
  | sum n x y =>
    refine ifF (show decide ((0 : Int) < 0) = false by decide) ?_
    refine ⟨_, rfl, _, rfl, q, _, rfl, .inl (SqT.of hq), (by show 4 ≤ sizeLine; exact small (by decide)), fun p hp => ?_⟩
    refine ⟨_, rfl, rfl, _, rfl, str_ne (show ws "sum" ≠ ws "listed" by decide) ?_⟩
    refine ⟨_, rfl, _, rfl, ?_⟩
    exact fin (i + 1) _ (.ref p) _ _ _ _ (same_new hp _) ⟨p, rfl, upd_same⟩ hdrop1 hi1 (Nat.lt_succ_self i)
  | field n x y =>
    refine ifF (show decide ((0 : Int) < 0) = false by decide) ?_
    refine ⟨_, rfl, _, rfl, q, _, rfl, .inl (SqT.of hq), (by show 4 ≤ sizeLine; exact small (by decide)), fun p hp => ?_⟩
    refine ⟨_, rfl, rfl, _, rfl, str_ne (show ws "field" ≠ ws "listed" by decide) ?_⟩
    refine ⟨_, rfl, _, rfl, ?_⟩
    exact fin (i + 1) _ (.ref p) _ _ _ _ (same_new hp _) ⟨p, rfl, upd_same⟩ hdrop1 hi1 (Nat.lt_succ_self i)
  | listed rows =>
    refine ifF (show decide ((0 : Int) < 0) = false by decide) ?_
    refine ⟨_, rfl, _, rfl, q, _, rfl, .inl (SqT.of hq), (by show 2 ≤ sizeLine; exact small (by decide)), fun p hp => ?_⟩
    have sC := same_new hp (.tup [.str (ws "listed"), .int ((rows.length : Nat) : Int)])
    refine ⟨_, rfl, rfl, _, rfl, str_eq ?_⟩
    have hrows : ∀ r ∈ rows, okRow r := fun r hr => by
      have := hnf.2.2 r hr
      refine ⟨fun e => ?_, by omega, this.2.2⟩
      rw [e] at this
      exact absurd this.1 (by decide)
    refine ⟨_, rfl, _, rfl, D, i + 1, ls, W, rows, restW c, rfl, sC _ _ hDl3, (hls.same s63).same sC, by omega, hdrop1, by have := hnf.2.1; omega, hrows, noRow_ctx c (x := .listed rows) (by rw [hplug]; exact hnn), hi1, fun r H6 rs hr6 s6' hr hrs => ?_⟩
    have hrl : rs.length = rows.length := Paired.length hrs
    refine ⟨_, rfl, _, rfl, r, rs, rfl, .inl (SqL.of hr), _, _, rfl, rfl, ?_⟩
    refine ⟨_, rfl, true, rfl, ifT rfl ⟨_, rfl, r, rs, rfl, .inl (SqL.of hr), _, rfl, q, _, _, _, rfl, rfl, SqT.of (s6' _ _ (sC _ _ hq)), atI_nat (j := 0) rfl, rfl, ?_⟩⟩
    rw [hrl, decide_eq_true rfl]
    refine ⟨_, rfl, _, rfl, (by show 2 ≤ sizeLine; exact small (by decide)), fun p7 hp7 => ?_⟩
    have sE := same_new hp7 (.tup [.str (ws "listed"), .ref r])
    have s37 := sC.trans (s6'.trans sE)
    have hrM : r ∉ M := fun hz => by
      obtain ⟨xs, z⟩ := hmok3 r hz
      have hr7 := (sC _ _ z).symm.trans hr6
      cases hr7
    have hlen' : W.length = i + 1 + (rows.length + (restW c).length) := by
      have := congrArg List.length hdrop1
      rw [List.length_drop, List.length_append] at this
      have e : (tailW (.listed rows)).length = rows.length := List.length_map _
      omega
    refine ⟨_, rfl, _, rfl, ?_⟩
    refine fin (i + 1 + rows.length) _ (.ref p7) _ _ _ _ s37 ⟨p7, r, rs, rfl, upd_same, .inr ⟨hrM, sE _ _ hr⟩, hrs.mono fun b xs => sE _ _⟩ ?_ (by omega) (by omega)
    rw [← List.drop_drop, hdrop1]
    have e : (tailW (.listed rows)).length = rows.length := List.length_map _
    rw [← e, List.drop_left]
end
end K5
/-! K5, walks 10: the law's numbers. -/
namespace K5
open PySem PySem.Spec PyProof.Rows L2
abbrev sLRow : Stmt := topS 42
abbrev sLNums : Stmt := topS 43
def b9 (ns : List Int) : Prop := ∀ x ∈ ns, 0 ≤ x ∧ x < 1009
theorem b9_snoc {ns : List Int} {x : Int} (h : b9 ns) (h0 : 0 ≤ x) (h1 : x < 1009) : b9 (ns ++ [x]) := fun y hy => by
  rcases List.mem_append.mp hy with hy | hy
  · exact h y hy
  · rw [List.mem_singleton] at hy
    subst hy
    exact ⟨h0, h1⟩
theorem lst_snoc (ns : List Int) (x : Int) : ns.map V.int ++ [.int x] = (ns ++ [x]).map V.int := by rw [List.map_append]; rfl
def spLRow : Sp := fun vs H Q _ => ∃ c n : Int, vs = [.int c, .int n] ∧ 0 ≤ n ∧ n ≤ 1000 ∧ ∀ (p : Addr) (H' : Hp) (ns : List Int), H p = none → Same H H' → H' p = some (.lst (ns.map V.int)) → (ns.length : Int) = n → b9 ns → Q (.ref p) H'
abbrev nLRow : List Str := ["_law_cell", "_law_many_here", "_law_row_here", "_law_rest", "_law_mixed", "_law_k"]
theorem scLRow : FnScope nLRow ["_law_cell", "_law_many_here"] (defScope sLRow) := ⟨rfl, rfl, rfl, by decide +kernel, rfl, by decide +kernel, by decide +kernel⟩
def spLNums (K : PySem.W.Frag) : Sp := fun vs H Q _ => ∃ (a : Addr) (ns : List Int), vs = [.ref a, .int 160] ∧ SqL K H a (ns.map V.int) ∧ ns.length ≤ 63 ∧ ∀ (p : Addr) (H' : Hp) (xs : List Int), Same H H' → H' p = some (.lst (xs.map V.int)) → xs.length = 160 → b9 xs → Q (.ref p) H'
abbrev nLNums : List Str := ["_law_script", "_law_many_here", "_law_cells", "_law_each", "_law_numbers_here", "_law_cell", "_law_number"]
theorem scLNums : FnScope nLNums ["_law_script", "_law_many_here"] (defScope sLNums) := ⟨rfl, rfl, rfl, by decide +kernel, rfl, by decide +kernel, by decide +kernel⟩
theorem cut0 (xs : List V) (k : Nat) : cutV xs none (some (k : Int)) = xs.take k := by
  unfold cutV
  rw [HT.sIx_none, HT.sIx_nat, List.drop_zero, Nat.sub_zero]
  rcases Nat.le_total k xs.length with h | h
  · rw [Nat.min_eq_left h]
  · rw [Nat.min_eq_right h, List.take_length, List.take_of_length_le h]
section
variable {P : Program} {w : World} {K : PySem.W.Frag} {mg : Str → Option Value} {base : Heap} {C : Addr}
theorem ok_lrow {f : Addr} {fd : FuncData} (B : Bl mg) (F : Fun K "_law_row" "_law_row" sLRow f fd) : FnOk P w K mg base CX0 1 f fd ["_law_cell", "_law_many_here"] spLRow := by
  refine F.ok scLRow (fun vs H Q E h => ?_) (fun cdv A outer s H vs Q E hr h => ?_)
  · obtain ⟨c, n, rfl, _⟩ := h
    rfl
  obtain ⟨c, n, rfl, h0, h1, k⟩ := h
  refine ⟨_, pss_cons (ps_set (i := 2) scLRow.nd rfl (.inl rfl) (pe_lst pa_nil))
    (pss_cons (ps_set (i := 3) scLRow.nd rfl (.inl rfl) (pe_callB call_abs rfl B.abs (by decide +kernel) (pa_cons (pv 0) pa_nil)))
    (pss_cons (ps_set (i := 4) scLRow.nd rfl (.inl rfl) (pe_op op_mod (pe_callTy call_int1 rfl B.int (by decide +kernel) (pa_cons (pe_op op_add (pe_op op_mul (pv 3) pe_int) pe_int) pa_nil)) pe_int))
    (pss_cons (ps_for PassesOwn.never rfl (pi_range1 rfl B.range (pa_cons (pv 1) pa_nil)) (pg_name (i := 5) scLRow.nd rfl (.inl rfl)) (pss_cons (ps_set (i := 4) scLRow.nd rfl (.inl rfl) (pe_op op_mod (pe_callTy call_int1 rfl B.int (by decide +kernel) (pa_cons (pe_op op_add (pe_op op_mul (pv 4) pe_int) (pe_op op_mul pe_int (pe_op op_add (pv 5) pe_int))) pa_nil)) pe_int))
    (pss_one (ps_if (pt_cmpR op_ge (pe_callB call_abs rfl B.abs (by decide +kernel) (pa_cons (pv 0) pa_nil)) (pe_op op_pow pe_int pe_int) (nomark _)) (pss_cons (ps_expr (pe_bm PySem.F.plainAttrs_list PySem.F.slot_list_append PySem.F.type_list_append mt_append (pv 2) (pa_cons (pe_op op_mod (pe_callTy call_int1 rfl B.int (by decide +kernel) (pa_cons (pv 3) pa_nil)) pe_int) pa_nil)))
    (pss_one (ps_set (i := 3) scLRow.nd rfl (.inl rfl) (pe_op op_fdiv (pv 3) pe_int)))) (pss_one (ps_expr (pe_bm PySem.F.plainAttrs_list PySem.F.slot_list_append PySem.F.type_list_append mt_append (pv 2) (pa_cons (pe_op op_mod (pe_callTy call_int1 rfl B.int (by decide +kernel) (pa_cons (pe_op op_fdiv (pv 4) pe_int) pa_nil)) pe_int) pa_nil))))))))
    (pss_one (ps_ret (pv 2)))))), ?_⟩
  refine ⟨(by show 0 ≤ sizeLine; exact Nat.zero_le _), fun p hp => ?_⟩
  refine ⟨_, rfl, _, rfl, ?_⟩
  refine ⟨_, rfl, _, _, rfl, rfl, .inr ⟨by decide, by decide⟩, _, _, rfl, rfl, .inl ⟨_, rfl, _, _, rfl, rfl, (by show (0 : Int) < 2147483647; decide), ?_⟩⟩
  refine ⟨_, rfl, n, rfl, by omega, by omega, for_range (lo := 0) (n := n.toNat) (fun i σ H' => ∃ (r m : Int) (v : Option V) (ns : List Int), σ = [some (.int c), some (.int n), some (.ref p), some (.int r), some (.int m), v] ∧ Same H H' ∧ H' p = some (.lst (ns.map V.int)) ∧ ns.length = i ∧ b9 ns)
    ⟨_, _, none, [], rfl, same_new hp _, upd_same, rfl, fun x hx => (by cases hx)⟩ ?_ ?_⟩
  · rintro i σ H' hi ⟨r, m, v, ns, rfl, s1, hl, hn, hb⟩
    refine ⟨_, rfl, _, _, rfl, rfl, .inr ⟨by decide, by decide⟩, _, rfl, _, _, rfl, rfl, _, _, rfl, rfl, .inl ⟨by decide, by decide⟩, _, _, rfl, rfl, .inl ⟨_, rfl, _, _, rfl, rfl, (by show (0 : Int) < 2147483629; decide), ?_⟩⟩
    refine ⟨_, rfl, _, rfl, _, _, rfl, rfl, ⟨by decide, by decide, by decide⟩, _, _, rfl, rfl, _, rfl, ite2 (fun _ => ?_) (fun _ => ?_)⟩
    · refine ⟨_, rfl, .inl ⟨rfl, _, SqL.of hl⟩, _, rfl, .inl ⟨_, rfl, _, _, rfl, rfl, (by show (0 : Int) < 1009; decide), p, _, _, rfl, rfl, hl, small1000 (by rw [List.length_map]; omega), ?_⟩⟩
      refine ⟨_, rfl, _, _, rfl, rfl, ⟨by decide, by decide⟩, _, _, _, _, rfl, fun b o z => ?_, by rw [upd_same, lst_snoc], by rw [List.length_append, hn]; rfl, b9_snoc hb (Int.emod_nonneg _ (by decide)) (Int.emod_lt_of_pos _ (by decide))⟩
      rw [upd_ne (ne_of_none z hp)]
      exact s1 _ _ z
    · refine ⟨_, rfl, .inl ⟨rfl, _, SqL.of hl⟩, _, rfl, _, _, rfl, rfl, ⟨by decide, by decide⟩, .inl ⟨_, rfl, _, _, rfl, rfl, (by show (0 : Int) < 1009; decide), p, _, _, rfl, rfl, hl, small1000 (by rw [List.length_map]; omega), ?_⟩⟩
      refine ⟨_, _, _, _, rfl, fun b o z => ?_, by rw [upd_same, lst_snoc], by rw [List.length_append, hn]; rfl, b9_snoc hb (Int.emod_nonneg _ (by decide)) (Int.emod_lt_of_pos _ (by decide))⟩
      rw [upd_ne (ne_of_none z hp)]
      exact s1 _ _ z
  · rintro σ H' ⟨r, m, v, ns, rfl, s1, hl, hn, hb⟩
    exact ⟨_, rfl, k p H' ns hp s1 hl (by omega) hb⟩
def wFill (H : Hp) (p a c : Addr) (e : V) (u5 u6 : Option V) : Nat → L2.St → Hp → Prop := fun k σ H' => ∃ xs : List Int, σ = [some (.ref a), some (.int 160), some (.ref c), some e, some (.ref p), u5, u6] ∧ Same H H' ∧ H' p = some (.lst (xs.map V.int)) ∧ b9 xs ∧ xs.length ≤ 11000 ∧ k = 160 - xs.length
theorem ok_lnums {f g : Addr} {fd gd : FuncData} (B : Bl mg) (F : Fun K "_law_numbers" "_law_numbers" sLNums f fd) (D : Df K mg "_law_row" sLRow ["_law_cell", "_law_many_here"] g gd) (G : FnOk P w K mg base CX0 1 g gd ["_law_cell", "_law_many_here"] spLRow) : FnOk P w K mg base CX0 2 f fd ["_law_script", "_law_many_here"] (spLNums K) := by
  refine F.ok scLNums (fun vs H Q E h => ?_) (fun cdv A outer s H vs Q E hr h => ?_)
  · obtain ⟨a, ns, rfl, _⟩ := h
    rfl
  obtain ⟨a, ns, rfl, ha, h63, k⟩ := h
  refine ⟨_, pss_cons (ps_set (i := 2) scLNums.nd rfl (.inl rfl) (pe_slice sl_list (pv 0) po_none (po_some pe_int)))
    (pss_cons (ps_set (i := 3) scLNums.nd rfl (.inl rfl) (pe_op op_add pe_int (pe_op op_fdiv (pv 1) (pe_callB (call_max2 rfl) rfl B.max (by decide +kernel) (pa_cons pe_int (pa_cons (pe_callB call_len_seq rfl B.len PySem.boot_len (pa_cons (pv 2) pa_nil)) pa_nil))))))
    (pss_cons (ps_set (i := 4) scLNums.nd rfl (.inl rfl) (pe_lst pa_nil))
    (pss_cons (ps_for PassesOwn.never rfl (pi_list (pv 2)) (pg_name (i := 5) scLNums.nd rfl (.inl rfl)) (pss_one (ps_for PassesOwn.never rfl (pi_list (pe_call G hr rfl D.m D.kp D.b .nil pass0 (pa_cons (pv 5) (pa_cons (pv 3) pa_nil)))) (pg_name (i := 6) scLNums.nd rfl (.inl rfl)) (pss_one (ps_expr (pe_bm PySem.F.plainAttrs_list PySem.F.slot_list_append PySem.F.type_list_append mt_append (pv 4) (pa_cons (pv 6) pa_nil)))))))
    (pss_cons (ps_while PassesOwn.never (pt_cmpR op_lt (pe_callB call_len_seq rfl B.len PySem.boot_len (pa_cons (pv 4) pa_nil)) (pv 1) (nomark _)) (pss_one (ps_expr (pe_bm PySem.F.plainAttrs_list PySem.F.slot_list_append PySem.F.type_list_append mt_append (pv 4) (pa_cons pe_int pa_nil)))))
    (pss_one (ps_ret (pe_slice sl_list (pv 4) po_none (po_some (pv 1))))))))), ?_⟩
  refine ⟨_, rfl, _, rfl, a, _, rfl, ha, fun c hc => ?_⟩
  rw [show cutV (ns.map V.int) none (some 63) = ns.map V.int from (cut0 _ 63).trans (List.take_of_length_le (by rw [List.length_map]; exact h63))]
  have s1 := same_new hc (.lst (ns.map V.int))
  have e1 : upd H c (.lst (ns.map V.int)) c = some (.lst (ns.map V.int)) := upd_same
  generalize upd H c (.lst (ns.map V.int)) = H1 at s1 e1
  have hmx : ∀ j : Nat, j ≤ 63 → CDiv 160 (if ((j : Nat) : Int) > 1 then ((j : Nat) : Int) else 1) := fun j hj => by
    unfold CDiv
    split <;> omega
  refine ⟨_, rfl, _, rfl, c, _, rfl, .inl (SqL.of e1), 1, _, rfl, _, _, rfl, rfl, hmx _ (by rw [List.length_map]; exact h63), _, _, rfl, rfl, ?_⟩
  rw [List.length_map]
  have hev : ∃ ev : Int, 1 + 160 / (if ((ns.length : Nat) : Int) > 1 then ((ns.length : Nat) : Int) else 1) = ev ∧ 0 ≤ ev ∧ ev ≤ 161 := by
    refine ⟨_, rfl, ?_⟩
    have h1 : 1 ≤ (if ((ns.length : Nat) : Int) > 1 then ((ns.length : Nat) : Int) else 1) := by split <;> omega
    generalize (if ((ns.length : Nat) : Int) > 1 then ((ns.length : Nat) : Int) else 1) = x at h1
    have h2 : 0 ≤ 160 / x := Int.ediv_nonneg (by decide) (by omega)
    have h3 : 160 / x ≤ 160 := Int.ediv_le_self _ (by decide)
    omega
  obtain ⟨ev, ee, he0, he1⟩ := hev
  show gName 3 (V.int (1 + 160 / (if ((ns.length : Nat) : Int) > 1 then ((ns.length : Nat) : Int) else 1))) _ H1 _
  rw [ee]
  refine ⟨(by show 0 ≤ sizeLine; exact Nat.zero_le _), fun p hp => ?_⟩
  have s2 := same_new hp (.lst [])
  refine ⟨_, rfl, c, rfl, ⟨_, SqL.of (s2 _ _ e1)⟩, for_list (xs := ns.map V.int) (fun i σ H' => ∃ (u5 u6 : Option V) (xs : List Int), σ = [some (.ref a), some (.int 160), some (.ref c), some (.int ev), some (.ref p), u5, u6] ∧ Same H1 H' ∧ H' p = some (.lst (xs.map V.int)) ∧ b9 xs ∧ xs.length ≤ i * 161)
    ⟨none, none, [], rfl, s2, upd_same, fun x hx => (by cases hx), by decide⟩ (fun i σ H' _ ⟨_, _, _, _, s3, _⟩ => SqL.of (s3 _ _ e1)) ?_ ?_⟩
  · rintro i x σ H' hx ⟨u5, u6, xs, rfl, s3, hl, hb, hle⟩
    obtain ⟨cell, hcell, rfl⟩ := map_at hx
    have hi : i < ns.length := (List.getElem?_eq_some_iff.mp hcell).1
    refine ⟨_, rfl, _, rfl, cell, ev, rfl, he0, by omega, fun r H3 ys hr0 s4 hr4 hlen hby => ?_⟩
    have hl4 := s4 _ _ hl
    have hrp : r ≠ p := Ne.symm (ne_of_none hl hr0)
    refine ⟨r, rfl, ⟨_, SqL.of hr4⟩, for_list (xs := ys.map V.int) (fun j σ H' => ∃ (u6 : Option V), σ = [some (.ref a), some (.int 160), some (.ref c), some (.int ev), some (.ref p), some (.int cell), u6] ∧ Same H1 H' ∧ H' p = some (.lst ((xs ++ ys.take j).map V.int)) ∧ H' r = some (.lst (ys.map V.int)))
      ⟨u6, rfl, s3.trans s4, by rw [List.take_zero, List.append_nil]; exact hl4, hr4⟩ (fun j σ H' _ ⟨_, _, _, _, z⟩ => SqL.of z) ?_ ?_⟩
    · rintro j y σ H5 hy ⟨u6, rfl, s5, hl5, hr5⟩
      obtain ⟨z, hz, rfl⟩ := map_at hy
      refine ⟨_, rfl, .inl ⟨rfl, _, SqL.of hl5⟩, _, rfl, p, _, _, rfl, rfl, hl5, ?_, _, rfl, fun b o q => ?_, ?_, ?_⟩
      · rw [List.length_map, List.length_append, List.length_take]
        refine Nat.lt_of_lt_of_le (m := 11000) ?_ (small7 (by decide))
        have : i * 161 ≤ 62 * 161 := Nat.mul_le_mul_right _ (by omega)
        omega
      · rw [upd_ne (ne_of_none q hp)]
        exact s5 _ _ q
      · rw [upd_same, lst_snoc, List.append_assoc, take_snoc hz]
      · rw [upd_ne hrp]
        exact hr5
    · rintro σ H5 ⟨u6, rfl, s5, hl5, hr5⟩
      rw [List.length_map, List.take_length] at hl5
      refine ⟨_, _, xs ++ ys, rfl, s5, hl5, fun x hx => (List.mem_append.mp hx).elim (hb x) (hby x), ?_⟩
      rw [List.length_append, Nat.succ_mul]
      omega
  rintro σ H3 ⟨u5, u6, xs, rfl, s3, hl, hb, hle⟩
  rw [List.length_map] at hle
  have hle2 : ns.length * 161 ≤ 63 * 161 := Nat.mul_le_mul_right _ h63
  refine ⟨wFill H1 p a c (.int ev) u5 u6, ⟨_, xs, rfl, s3, hl, hb, by omega, rfl⟩, fun m σ H' hw => ?_⟩
  obtain ⟨xs, rfl, s4, hl, hb, hle, rfl⟩ := hw
  refine ⟨_, rfl, p, _, rfl, .inl (SqL.of hl), _, rfl, _, _, rfl, rfl, _, rfl, ?_⟩
  rw [List.length_map]
  refine ite2 (fun z => ?_) (fun z => ?_)
  · have z' := of_decide_eq_true z
    refine ⟨_, fun _ _ h => h, ?_⟩
    refine ⟨_, rfl, .inl ⟨rfl, _, SqL.of hl⟩, p, _, _, rfl, rfl, hl, ?_, 160 - (xs.length + 1), by omega, xs ++ [0], rfl, fun b o q => ?_, by rw [upd_same, lst_snoc], b9_snoc hb (by decide) (by decide), by rw [List.length_append, List.length_singleton]; omega, by rw [List.length_append]; rfl⟩
    · rw [List.length_map]
      exact small1000 (by omega)
    · rw [upd_ne (ne_of_none q hp)]
      exact s4 _ _ q
  · have z' := of_decide_eq_false (Bool.eq_false_iff.mpr z)
    refine ⟨_, rfl, _, rfl, _, rfl, p, _, rfl, SqL.of hl, fun q hq => ?_⟩
    rw [show cutV (xs.map V.int) none (some 160) = (xs.take 160).map V.int from (cut0 _ 160).trans (List.map_take ..).symm]
    exact k q _ (xs.take 160) (s1.trans (s4.trans (same_new hq _))) upd_same (by rw [List.length_take]; omega) fun x hx => hb x (List.mem_of_mem_take hx)
end
end K5
/-! K5, walks 11: the law's plain squares. -/
namespace K5
open PySem PySem.Spec PyProof.Rows L2
abbrev sPlain : Stmt := topS 47
/-- lists of ints, none of them at D -/
def RowsD (H : Hp) (D : Addr) : List V → List (List Int) → Prop := Paired fun v w => ∃ a, v = V.ref a ∧ a ≠ D ∧ H a = some (.lst (w.map V.int))
def RowsL (H : Hp) : List V → List (List Int) → Prop := Paired fun v w => ∃ a, v = V.ref a ∧ H a = some (.lst (w.map V.int))
theorem RowsD.weak {H : Hp} {D : Addr} : ∀ {ls : List V} {W : List (List Int)}, RowsD H D ls W → RowsL H ls W
  | _, _, .nil => .nil
  | _, _, .cons ⟨a, e, _, h⟩ r => .cons ⟨a, e, h⟩ (RowsD.weak r)
theorem RowsD.step {H H' : Hp} {D : Addr} (s : ∀ b o, b ≠ D → H b = some o → H' b = some o) : ∀ {ls : List V} {W : List (List Int)}, RowsD H D ls W → RowsD H' D ls W
  | _, _, .nil => .nil
  | _, _, .cons ⟨a, e, n, h⟩ r => .cons ⟨a, e, n, s _ _ n h⟩ (RowsD.step s r)
theorem RowsD.snoc {H : Hp} {D a : Addr} {w : List Int} (n : a ≠ D) (h : H a = some (.lst (w.map V.int))) : ∀ {ls : List V} {W : List (List Int)}, RowsD H D ls W → RowsD H D (ls ++ [.ref a]) (W ++ [w])
  | _, _, .nil => .cons ⟨a, rfl, n, h⟩ .nil
  | _, _, .cons q r => .cons q (RowsD.snoc n h r)
theorem RowsL.same {H H' : Hp} (s : Same H H') : ∀ {ls : List V} {W : List (List Int)}, RowsL H ls W → RowsL H' ls W
  | _, _, .nil => .nil
  | _, _, .cons ⟨a, e, h⟩ r => .cons ⟨a, e, s _ _ h⟩ (RowsL.same s r)
theorem RowsL.at {H : Hp} : ∀ {rs : List V} {rows : List (List Int)}, RowsL H rs rows → ∀ {i : Nat} {row : List Int}, rows[i]? = some row → ∃ a, rs[i]? = some (.ref a) ∧ H a = some (.lst (row.map V.int))
  | _, _, .nil, i, x, h => by simp at h
  | _, _, .cons ⟨a, e, h1⟩ r, 0, x, h => by
    have e2 := Option.some.inj h
    subst e2
    exact ⟨a, by rw [e]; rfl, h1⟩
  | _, _, .cons _ r, i + 1, x, h => RowsL.at r (i := i) (by simpa using h)
theorem rng_succ (n : Nat) : rng (n + 1) = rng n ++ [((n : Nat) : Int)] := by
  unfold rng
  rw [List.range_succ, List.map_append]
  rfl
def rowF (m n r : Int) (k : Nat) : List Int := (rng k).map fun c => (r + m * c) % n
def sqF (m n : Int) (k i : Nat) : List (List Int) := (rng i).map fun r => rowF m n r k
def sq7 : List (List Int) := [[0, 1, 2, 3, 4], [1, 0, 3, 4, 2], [2, 4, 0, 1, 3], [3, 2, 4, 0, 1], [4, 3, 1, 2, 0]]
def sq8 : List (List Int) := [[0, 1, 2, 3, 4, 5], [1, 2, 0, 4, 5, 3], [2, 0, 1, 5, 3, 4], [3, 5, 4, 0, 2, 1], [4, 3, 5, 1, 0, 2], [5, 4, 3, 2, 1, 0]]
def goodP (rows : List (List Int)) : Prop := (1 ≤ rows.length ∧ rows.length ≤ 6) ∧ chkRows rows = true
theorem good_low : ∀ n, n < 6 → (1 ≤ (sqF 1 ((n + 1 : Nat) : Int) (n + 1) (n + 1)).length ∧ (sqF 1 ((n + 1 : Nat) : Int) (n + 1) (n + 1)).length ≤ 6) ∧ chkRows (sqF 1 ((n + 1 : Nat) : Int) (n + 1) (n + 1)) = true := by decide +kernel
theorem good6 : goodP (sqF 2 5 5 5) := by unfold goodP; decide +kernel
theorem good7_ : goodP sq7 := by unfold goodP; decide +kernel
theorem good8 : goodP sq8 := by unfold goodP; decide +kernel
def spPlain : Sp := fun vs H Q _ => ∃ x : Int, vs = [.int x] ∧ ∀ (p : Addr) (H' : Hp) (rs : List V) (rows : List (List Int)), Same H H' → H' p = some (.lst rs) → RowsL H' rs rows → goodP rows → Q (.ref p) H'
abbrev nPlain : List Str := ["_law_number", "_law_kind", "_law_n", "_law_r", "_law_c"]
theorem scPlain : FnScope nPlain ["_law_number"] (defScope sPlain) := ⟨rfl, rfl, rfl, by decide +kernel, rfl, by decide +kernel, by decide +kernel⟩
def compSc : Expr → Scope
  | .ListComp _ _ s _ => s
  | _ => default
def fbody : Stmt → List Stmt
  | .FunctionDef _ _ b _ _ _ _ _ _ _ => b
  | _ => []
def ifBody : Stmt → List Stmt
  | .If _ b _ _ => b
  | _ => []
def retE : Stmt → Expr
  | .Return (some e) _ => e
  | _ => .Name "" ⟨0, 0, 0, 0⟩
def stAt (l : List Stmt) (i : Nat) : Stmt := l.getD i (.Pass ⟨0, 0, 0, 0⟩)
abbrev scR1 : Scope := ⟨.function, [(".0", .local), ("_law_r", .cell), ("range", .globalImplicit), ("_law_n", .cell)], false, false, []⟩
def scR2 : Scope := compSc (retE (stAt (ifBody (stAt (fbody sPlain) 2)) 0))
section
variable {P : Program} {w : World} {K : PySem.W.Frag} {mg : Str → Option Value} {base : Heap} {C : Addr}
theorem ok_plain {f : Addr} {fd : FuncData} (B : Bl mg) (F : Fun K "_law_plain" "_law_plain" sPlain f fd) : FnOk P w K mg base CX0 1 f fd ["_law_number"] spPlain := by
  refine F.ok scPlain (fun vs H Q E h => ?_) (fun cdv A outer s H vs Q E hr h => ?_)
  · obtain ⟨x, rfl, _⟩ := h
    rfl
  obtain ⟨x, rfl, k⟩ := h
  refine ⟨_, pss_cons (ps_set (i := 1) scPlain.nd rfl (.inl rfl) (pe_op op_mod (pe_callTy call_int1 rfl B.int (by decide +kernel) (pa_cons (pv 0) pa_nil)) pe_int))
    (pss_cons (ps_if (pt_cmpR op_lt (pv 1) pe_int (nomark _)) (pss_cons (ps_set (i := 2) scPlain.nd rfl (.inr rfl) (pe_op op_add (pv 1) pe_int))
    (pss_one (ps_ret (pe_lc (own := [("_law_r", 3)]) (g := gName 3) (tt := tYes) rfl scPlain.nd (pi_range1 rfl B.range (pa_cons (pv 2) pa_nil)) (blkOk_by (N := nPlain) (sc := defScope sPlain) (by decide +kernel)) (fun _ _ _ _ _ => pg_name (i := 3) scPlain.nd rfl (Or.inr rfl)) (fun _ _ _ _ _ => pts_nil) (fun _ _ _ _ _ => (pe_lc (own := [("_law_c", 4)]) (g := gName 4) (tt := tYes) rfl scPlain.nd (pi_range1 rfl B.range (pa_cons (pv 2) pa_nil)) (blkOk_by (N := nPlain) (sc := scR1) (by decide +kernel)) (fun _ _ _ _ _ => pg_name (i := 4) scPlain.nd rfl (Or.inl rfl)) (fun _ _ _ _ _ => pts_nil) (fun _ _ _ _ _ => (pe_op op_mod (pe_callTy call_int1 rfl B.int (by decide +kernel) (pa_cons (pe_op op_add (pv 3) (pv 4)) pa_nil)) (pv 2))))))))) pss_nil)
    (pss_cons (ps_if (pt_cmpR op_eq (pv 1) pe_int (nomark _)) (pss_one (ps_ret (pe_lc (own := [("_law_r", 3)]) (g := gName 3) (tt := tYes) rfl scPlain.nd (pi_range1 rfl B.range (pa_cons pe_int pa_nil)) (blkOk_by (N := nPlain) (sc := defScope sPlain) (by decide +kernel)) (fun _ _ _ _ _ => pg_name (i := 3) scPlain.nd rfl (Or.inr rfl)) (fun _ _ _ _ _ => pts_nil) (fun _ _ _ _ _ => (pe_lc (own := [("_law_c", 4)]) (g := gName 4) (tt := tYes) rfl scPlain.nd (pi_range1 rfl B.range (pa_cons pe_int pa_nil)) (blkOk_by (N := nPlain) (sc := scR2) (by decide +kernel)) (fun _ _ _ _ _ => pg_name (i := 4) scPlain.nd rfl (Or.inl rfl)) (fun _ _ _ _ _ => pts_nil) (fun _ _ _ _ _ => (pe_op op_mod (pe_callTy call_int1 rfl B.int (by decide +kernel) (pa_cons (pe_op op_add (pv 3) (pe_op op_mul pe_int (pv 4))) pa_nil)) pe_int))))))) pss_nil)
    (pss_cons (ps_if (pt_cmpR op_eq (pv 1) pe_int (nomark _)) (pss_one (ps_ret (pe_lst (pa_cons (pe_lst (pa_cons pe_int (pa_cons pe_int (pa_cons pe_int (pa_cons pe_int (pa_cons pe_int pa_nil)))))) (pa_cons (pe_lst (pa_cons pe_int (pa_cons pe_int (pa_cons pe_int (pa_cons pe_int (pa_cons pe_int pa_nil)))))) (pa_cons (pe_lst (pa_cons pe_int (pa_cons pe_int (pa_cons pe_int (pa_cons pe_int (pa_cons pe_int pa_nil)))))) (pa_cons (pe_lst (pa_cons pe_int (pa_cons pe_int (pa_cons pe_int (pa_cons pe_int (pa_cons pe_int pa_nil)))))) (pa_cons (pe_lst (pa_cons pe_int (pa_cons pe_int (pa_cons pe_int (pa_cons pe_int (pa_cons pe_int pa_nil)))))) pa_nil)))))))) pss_nil)
    (pss_one (ps_ret (pe_lst (pa_cons (pe_lst (pa_cons pe_int (pa_cons pe_int (pa_cons pe_int (pa_cons pe_int (pa_cons pe_int (pa_cons pe_int pa_nil))))))) (pa_cons (pe_lst (pa_cons pe_int (pa_cons pe_int (pa_cons pe_int (pa_cons pe_int (pa_cons pe_int (pa_cons pe_int pa_nil))))))) (pa_cons (pe_lst (pa_cons pe_int (pa_cons pe_int (pa_cons pe_int (pa_cons pe_int (pa_cons pe_int (pa_cons pe_int pa_nil))))))) (pa_cons (pe_lst (pa_cons pe_int (pa_cons pe_int (pa_cons pe_int (pa_cons pe_int (pa_cons pe_int (pa_cons pe_int pa_nil))))))) (pa_cons (pe_lst (pa_cons pe_int (pa_cons pe_int (pa_cons pe_int (pa_cons pe_int (pa_cons pe_int (pa_cons pe_int pa_nil))))))) (pa_cons (pe_lst (pa_cons pe_int (pa_cons pe_int (pa_cons pe_int (pa_cons pe_int (pa_cons pe_int (pa_cons pe_int pa_nil))))))) pa_nil)))))))))))), ?_⟩
  refine ⟨_, rfl, .inl ⟨_, rfl, _, _, rfl, rfl, (by show (0 : Int) < 9; decide), ?_⟩⟩
  have h0 : 0 ≤ x % 9 := Int.emod_nonneg _ (by decide)
  have h9 : x % 9 < 9 := Int.emod_lt_of_pos _ (by decide)
  show tSeq _ _ _ [some (.int x), some (.int (x % 9)), none, none, none] H
  generalize x % 9 = y at h0 h9
  refine ⟨_, rfl, _, _, rfl, rfl, _, rfl, ite2 (fun z => ?_) (fun z => ?_)⟩
  · have z' := of_decide_eq_true z
    obtain ⟨n, rfl⟩ : ∃ n : Nat, y = ((n : Nat) : Int) := ⟨y.toNat, by omega⟩
    refine ⟨_, rfl, _, _, rfl, rfl, ?_⟩
    refine ⟨_, rfl, ((n + 1 : Nat) : Int), rfl, by omega, by omega, fun D hD => lc_range (lo := 0) (n := n + 1) (fun i H4 => ∃ rs, Same H H4 ∧ H4 D = some (.lst rs) ∧ rs.length = i ∧ RowsD H4 D rs (sqF 1 ((n + 1 : Nat) : Int) (n + 1) i)) ⟨[], same_new hD _, upd_same, rfl, .nil⟩ ?_ ?_⟩
    · rintro i H4 hi ⟨rs, s4, e4, hl, hrs⟩
      refine ⟨rfl, ?_⟩
      refine ⟨_, rfl, ((n + 1 : Nat) : Int), rfl, by omega, by omega, fun D2 hD2 => lc_range (lo := 0) (n := n + 1) (fun j H5 => H5 = upd H4 D2 (.lst ((rowF 1 ((n + 1 : Nat) : Int) ((i : Nat) : Int) j).map V.int))) rfl ?_ ?_⟩
      · rintro j H5 hj rfl
        refine ⟨rfl, ?_⟩
        refine ⟨_, rfl, _, rfl, _, _, rfl, rfl, .inl ⟨_, rfl, _, rfl, _, _, rfl, rfl, (by show (0 : Int) < ((n + 1 : Nat) : Int); omega), ?_⟩⟩
        refine ⟨_, upd_same, ?_, ?_⟩
        · rw [List.length_map]
          unfold rowF
          rw [List.length_map, rng_len]
          exact small1000 (by omega)
        · rw [upd_upd]
          unfold rowF
          rw [rng_succ, List.map_append, List.map_append, Int.zero_add, Int.zero_add]
          show upd H4 D2 (.lst (_ ++ [.int ((((i : Nat) : Int) + ((j : Nat) : Int)) % ((n + 1 : Nat) : Int))])) = upd H4 D2 (.lst (_ ++ [.int ((((i : Nat) : Int) + 1 * ((j : Nat) : Int)) % ((n + 1 : Nat) : Int))]))
          rw [Int.one_mul]
      · rintro H5 rfl
        have nD : D2 ≠ D := Ne.symm (ne_of_none e4 hD2)
        refine ⟨rs, ?_, ?_, rs ++ [.ref D2], fun b o q => ?_, upd_same, by rw [List.length_append, hl]; rfl, ?_⟩
        · rw [upd_ne (Ne.symm nD)]
          exact e4
        · exact small1000 (by omega)
        · rw [upd_ne (ne_of_none q hD), upd_ne (ne_of_none (s4 _ _ q) hD2)]
          exact s4 _ _ q
        · unfold sqF
          rw [rng_succ, List.map_append]
          refine RowsD.snoc nD ?_ (hrs.step fun b o hb q => ?_)
          · rw [upd_ne nD]
            exact upd_same
          · rw [upd_ne hb, upd_ne (ne_of_none q hD2)]
            exact q
    · rintro H4 ⟨rs, s4, e4, hl, hrs⟩
      exact k D H4 rs _ s4 e4 hrs.weak (good_low n (by omega))
  refine ⟨_, rfl, rfl, _, rfl, ite2 (fun z => ?_) (fun z => ?_)⟩
  · refine ⟨_, rfl, by decide, by decide, fun D hD => lc_range (lo := 0) (n := 5) (fun i H4 => ∃ rs, Same H H4 ∧ H4 D = some (.lst rs) ∧ rs.length = i ∧ RowsD H4 D rs (sqF 2 5 (5) i)) ⟨[], same_new hD _, upd_same, rfl, .nil⟩ ?_ ?_⟩
    · rintro i H4 hi ⟨rs, s4, e4, hl, hrs⟩
      refine ⟨rfl, ?_⟩
      refine ⟨_, rfl, by decide, by decide, fun D2 hD2 => lc_range (lo := 0) (n := 5) (fun j H5 => H5 = upd H4 D2 (.lst ((rowF 2 5 ((i : Nat) : Int) j).map V.int))) rfl ?_ ?_⟩
      · rintro j H5 hj rfl
        refine ⟨rfl, ?_⟩
        refine ⟨_, rfl, _, rfl, _, _, rfl, rfl, .inl ⟨by decide, by decide⟩, _, _, rfl, rfl, .inl ⟨_, rfl, _, _, rfl, rfl, (by show (0 : Int) < 5; decide), ?_⟩⟩
        refine ⟨_, upd_same, ?_, ?_⟩
        · rw [List.length_map]
          unfold rowF
          rw [List.length_map, rng_len]
          exact small1000 (by omega)
        · rw [upd_upd]
          unfold rowF
          rw [rng_succ, List.map_append, List.map_append, Int.zero_add, Int.zero_add]
          rfl
      · rintro H5 rfl
        have nD : D2 ≠ D := Ne.symm (ne_of_none e4 hD2)
        refine ⟨rs, ?_, ?_, rs ++ [.ref D2], fun b o q => ?_, upd_same, by rw [List.length_append, hl]; rfl, ?_⟩
        · rw [upd_ne (Ne.symm nD)]
          exact e4
        · exact small1000 (by omega)
        · rw [upd_ne (ne_of_none q hD), upd_ne (ne_of_none (s4 _ _ q) hD2)]
          exact s4 _ _ q
        · unfold sqF
          rw [rng_succ, List.map_append]
          refine RowsD.snoc nD ?_ (hrs.step fun b o hb q => ?_)
          · rw [upd_ne nD]
            exact upd_same
          · rw [upd_ne hb, upd_ne (ne_of_none q hD2)]
            exact q
    · rintro H4 ⟨rs, s4, e4, hl, hrs⟩
      exact k D H4 rs _ s4 e4 hrs.weak good6
  refine ⟨_, rfl, rfl, _, rfl, ite2 (fun z => ?_) (fun z => ?_)⟩
  · refine ⟨(by show 5 ≤ sizeLine; exact small (by decide)), fun p0 hp0 => ?_⟩
    have t0 := same_new hp0 (.lst [.int 0, .int 1, .int 2, .int 3, .int 4])
    have e0 : upd H p0 (.lst [.int 0, .int 1, .int 2, .int 3, .int 4]) p0 = some (.lst (([0, 1, 2, 3, 4] : List Int).map V.int)) := upd_same
    generalize upd H p0 (.lst [.int 0, .int 1, .int 2, .int 3, .int 4]) = G0 at t0 e0
    have s0 := t0
    refine ⟨(by show 5 ≤ sizeLine; exact small (by decide)), fun p1 hp1 => ?_⟩
    have t1 := same_new hp1 (.lst [.int 1, .int 0, .int 3, .int 4, .int 2])
    have e1 : upd G0 p1 (.lst [.int 1, .int 0, .int 3, .int 4, .int 2]) p1 = some (.lst (([1, 0, 3, 4, 2] : List Int).map V.int)) := upd_same
    generalize upd G0 p1 (.lst [.int 1, .int 0, .int 3, .int 4, .int 2]) = G1 at t1 e1
    have s1 := s0.trans t1
    refine ⟨(by show 5 ≤ sizeLine; exact small (by decide)), fun p2 hp2 => ?_⟩
    have t2 := same_new hp2 (.lst [.int 2, .int 4, .int 0, .int 1, .int 3])
    have e2 : upd G1 p2 (.lst [.int 2, .int 4, .int 0, .int 1, .int 3]) p2 = some (.lst (([2, 4, 0, 1, 3] : List Int).map V.int)) := upd_same
    generalize upd G1 p2 (.lst [.int 2, .int 4, .int 0, .int 1, .int 3]) = G2 at t2 e2
    have s2 := s1.trans t2
    refine ⟨(by show 5 ≤ sizeLine; exact small (by decide)), fun p3 hp3 => ?_⟩
    have t3 := same_new hp3 (.lst [.int 3, .int 2, .int 4, .int 0, .int 1])
    have e3 : upd G2 p3 (.lst [.int 3, .int 2, .int 4, .int 0, .int 1]) p3 = some (.lst (([3, 2, 4, 0, 1] : List Int).map V.int)) := upd_same
    generalize upd G2 p3 (.lst [.int 3, .int 2, .int 4, .int 0, .int 1]) = G3 at t3 e3
    have s3 := s2.trans t3
    refine ⟨(by show 5 ≤ sizeLine; exact small (by decide)), fun p4 hp4 => ?_⟩
    have t4 := same_new hp4 (.lst [.int 4, .int 3, .int 1, .int 2, .int 0])
    have e4 : upd G3 p4 (.lst [.int 4, .int 3, .int 1, .int 2, .int 0]) p4 = some (.lst (([4, 3, 1, 2, 0] : List Int).map V.int)) := upd_same
    generalize upd G3 p4 (.lst [.int 4, .int 3, .int 1, .int 2, .int 0]) = G4 at t4 e4
    have s4 := s3.trans t4
    refine ⟨(by show 5 ≤ sizeLine; exact small (by decide)), fun p hp => ?_⟩
    have u := same_new hp (.lst [V.ref p0, V.ref p1, V.ref p2, V.ref p3, V.ref p4])
    exact k p _ _ _ (s4.trans u) upd_same (.cons ⟨_, rfl, u _ _ (t4 _ _ (t3 _ _ (t2 _ _ (t1 _ _ (e0)))))⟩ (.cons ⟨_, rfl, u _ _ (t4 _ _ (t3 _ _ (t2 _ _ (e1))))⟩ (.cons ⟨_, rfl, u _ _ (t4 _ _ (t3 _ _ (e2)))⟩ (.cons ⟨_, rfl, u _ _ (t4 _ _ (e3))⟩ (.cons ⟨_, rfl, u _ _ (e4)⟩ (.nil)))))) good7_
  · refine ⟨(by show 6 ≤ sizeLine; exact small (by decide)), fun p0 hp0 => ?_⟩
    have t0 := same_new hp0 (.lst [.int 0, .int 1, .int 2, .int 3, .int 4, .int 5])
    have e0 : upd H p0 (.lst [.int 0, .int 1, .int 2, .int 3, .int 4, .int 5]) p0 = some (.lst (([0, 1, 2, 3, 4, 5] : List Int).map V.int)) := upd_same
    generalize upd H p0 (.lst [.int 0, .int 1, .int 2, .int 3, .int 4, .int 5]) = G0 at t0 e0
    have s0 := t0
    refine ⟨(by show 6 ≤ sizeLine; exact small (by decide)), fun p1 hp1 => ?_⟩
    have t1 := same_new hp1 (.lst [.int 1, .int 2, .int 0, .int 4, .int 5, .int 3])
    have e1 : upd G0 p1 (.lst [.int 1, .int 2, .int 0, .int 4, .int 5, .int 3]) p1 = some (.lst (([1, 2, 0, 4, 5, 3] : List Int).map V.int)) := upd_same
    generalize upd G0 p1 (.lst [.int 1, .int 2, .int 0, .int 4, .int 5, .int 3]) = G1 at t1 e1
    have s1 := s0.trans t1
    refine ⟨(by show 6 ≤ sizeLine; exact small (by decide)), fun p2 hp2 => ?_⟩
    have t2 := same_new hp2 (.lst [.int 2, .int 0, .int 1, .int 5, .int 3, .int 4])
    have e2 : upd G1 p2 (.lst [.int 2, .int 0, .int 1, .int 5, .int 3, .int 4]) p2 = some (.lst (([2, 0, 1, 5, 3, 4] : List Int).map V.int)) := upd_same
    generalize upd G1 p2 (.lst [.int 2, .int 0, .int 1, .int 5, .int 3, .int 4]) = G2 at t2 e2
    have s2 := s1.trans t2
    refine ⟨(by show 6 ≤ sizeLine; exact small (by decide)), fun p3 hp3 => ?_⟩
    have t3 := same_new hp3 (.lst [.int 3, .int 5, .int 4, .int 0, .int 2, .int 1])
    have e3 : upd G2 p3 (.lst [.int 3, .int 5, .int 4, .int 0, .int 2, .int 1]) p3 = some (.lst (([3, 5, 4, 0, 2, 1] : List Int).map V.int)) := upd_same
    generalize upd G2 p3 (.lst [.int 3, .int 5, .int 4, .int 0, .int 2, .int 1]) = G3 at t3 e3
    have s3 := s2.trans t3
    refine ⟨(by show 6 ≤ sizeLine; exact small (by decide)), fun p4 hp4 => ?_⟩
    have t4 := same_new hp4 (.lst [.int 4, .int 3, .int 5, .int 1, .int 0, .int 2])
    have e4 : upd G3 p4 (.lst [.int 4, .int 3, .int 5, .int 1, .int 0, .int 2]) p4 = some (.lst (([4, 3, 5, 1, 0, 2] : List Int).map V.int)) := upd_same
    generalize upd G3 p4 (.lst [.int 4, .int 3, .int 5, .int 1, .int 0, .int 2]) = G4 at t4 e4
    have s4 := s3.trans t4
    refine ⟨(by show 6 ≤ sizeLine; exact small (by decide)), fun p5 hp5 => ?_⟩
    have t5 := same_new hp5 (.lst [.int 5, .int 4, .int 3, .int 2, .int 1, .int 0])
    have e5 : upd G4 p5 (.lst [.int 5, .int 4, .int 3, .int 2, .int 1, .int 0]) p5 = some (.lst (([5, 4, 3, 2, 1, 0] : List Int).map V.int)) := upd_same
    generalize upd G4 p5 (.lst [.int 5, .int 4, .int 3, .int 2, .int 1, .int 0]) = G5 at t5 e5
    have s5 := s4.trans t5
    refine ⟨(by show 6 ≤ sizeLine; exact small (by decide)), fun p hp => ?_⟩
    have u := same_new hp (.lst [V.ref p0, V.ref p1, V.ref p2, V.ref p3, V.ref p4, V.ref p5])
    exact k p _ _ _ (s5.trans u) upd_same (.cons ⟨_, rfl, u _ _ (t5 _ _ (t4 _ _ (t3 _ _ (t2 _ _ (t1 _ _ (e0))))))⟩ (.cons ⟨_, rfl, u _ _ (t5 _ _ (t4 _ _ (t3 _ _ (t2 _ _ (e1)))))⟩ (.cons ⟨_, rfl, u _ _ (t5 _ _ (t4 _ _ (t3 _ _ (e2))))⟩ (.cons ⟨_, rfl, u _ _ (t5 _ _ (t4 _ _ (e3)))⟩ (.cons ⟨_, rfl, u _ _ (t5 _ _ (e4))⟩ (.cons ⟨_, rfl, u _ _ (e5)⟩ (.nil))))))) good8
end
end K5
/-! K5, walks 12: orders, listed squares. -/
namespace K5
open PySem PySem.Spec PyProof.Rows L2
abbrev sOrder : Stmt := topS 48
abbrev sListed : Stmt := topS 49
theorem sq_keep {K : PySem.W.Frag} {H H' : Hp} {a : Addr} {xs : List V} (e : Same H H') (h : SqL K H a xs) : SqL K H' a xs := by
  rcases h with h | h
  · rcases h with h | ⟨o, h⟩
    · exact .inl (.inl (e _ _ h))
    · exact .inl (.inr ⟨o, e _ _ h⟩)
  · exact .inr h
theorem psnoc {α β : Type} {F : α → β → Prop} {x : α} {y : β} : ∀ {l : List α} {m : List β}, Paired F l m → F x y → Paired F (l ++ [x]) (m ++ [y])
  | _, _, .nil, h => .cons h .nil
  | _, _, .cons q r, h => .cons q (psnoc r h)
theorem erase_perm : ∀ {l : List Int} {k : Nat} {y : Int}, l[k]? = some y → (y :: l.eraseIdx k).Perm l
  | [], k, y, h => by simp at h
  | x :: l, 0, y, h => by
    have e := Option.some.inj h
    subst e
    exact List.Perm.refl _
  | x :: l, k + 1, y, h => by
    have ih := erase_perm (l := l) (k := k) (y := y) (by simpa using h)
    exact (List.Perm.swap x y _).trans (ih.cons x)
theorem erase_map : ∀ (l : List Int) (k : Nat), (l.map V.int).eraseIdx k = (l.eraseIdx k).map V.int
  | [], k => rfl
  | x :: l, 0 => rfl
  | x :: l, k + 1 => by
    show V.int x :: (l.map V.int).eraseIdx k = V.int x :: (l.eraseIdx k).map V.int
    rw [erase_map l k]
def gn (ns : List Int) (i : Int) : Int := ns.getD i.toNat 0
theorem gn_at {ns : List Int} {i : Int} (h0 : 0 ≤ i) (h1 : i < ns.length) : atI (ns.map V.int) i = some (.int (gn ns i)) := by
  have e : i = ((i.toNat : Nat) : Int) := by omega
  have h2 : i.toNat < ns.length := by omega
  rw [e]
  refine atI_nat ?_
  rw [List.getElem?_map, List.getElem?_eq_getElem h2]
  unfold gn
  show some (V.int ns[i.toNat]) = some (V.int (ns.getD (((i.toNat : Nat) : Int)).toNat 0))
  rw [Int.toNat_natCast, List.getD_eq_getElem?_getD, List.getElem?_eq_getElem h2]
  rfl
theorem gn_mem {ns : List Int} {i : Int} (h0 : 0 ≤ i) (h1 : i < ns.length) : gn ns i ∈ ns := by
  have h2 : i.toNat < ns.length := by omega
  unfold gn
  rw [List.getD_eq_getElem?_getD, List.getElem?_eq_getElem h2]
  exact List.getElem_mem h2
/-! ### a square written over -/
def pk (l : List Int) (x : Int) : Int := l.getD x.toNat 0
def pkR (l : List (List Int)) (x : Int) : List Int := l.getD x.toNat []
def rowP (pl : List (List Int)) (co sg : List Int) (r : Int) : List Int := co.map fun c => pk sg (pk (pkR pl r) c)
def mkRows (pl : List (List Int)) (ro co sg : List Int) : List (List Int) := ro.map (rowP pl co sg)
theorem map_rng {α : Type} (l : List α) (x : α) : (rng l.length).map (fun i => l.getD i.toNat x) = l := by
  unfold rng
  rw [List.map_map]
  refine List.ext_getElem? fun i => ?_
  rw [List.getElem?_map]
  by_cases h : i < l.length
  · rw [List.getElem?_range h, List.getElem?_eq_getElem h]
    show some (l.getD (((i : Nat) : Int)).toNat x) = _
    rw [Int.toNat_natCast, List.getD_eq_getElem?_getD, List.getElem?_eq_getElem h]
    rfl
  · rw [List.getElem?_eq_none (by rw [List.length_range]; omega), List.getElem?_eq_none (by omega)]
    rfl
theorem over {l co : List Int} {n : Nat} (hl : l.length = n) (hc : co.Perm (rng n)) : (co.map (pk l)).Perm l := by
  have := hc.map (pk l)
  rw [← hl, show pk l = fun i => l.getD i.toNat 0 from rfl, map_rng] at this
  exact this
theorem mk_ok {pl : List (List Int)} {ro co sg : List Int} (hp : chkRows pl = true) (hr : ro.Perm (rng pl.length)) (hc : co.Perm (rng pl.length)) (hs : sg.Perm (rng pl.length)) : chkRows (mkRows pl ro co sg) = true := by
  obtain ⟨h1, h2, h3⟩ := chkRows_iff.mp hp
  have lr : ro.length = pl.length := hr.length_eq.trans (rng_len _)
  have lc : co.length = pl.length := hc.length_eq.trans (rng_len _)
  have ls : sg.length = pl.length := hs.length_eq.trans (rng_len _)
  have lm : (mkRows pl ro co sg).length = pl.length := by unfold mkRows; rw [List.length_map, lr]
  have sgn : ∀ {L : List Int}, L.Perm (rng pl.length) → (L.map (pk sg)).Perm (rng pl.length) := fun {L} q => (over ls q).trans hs
  refine chkRows_iff.mpr ⟨by rw [lm]; exact h1, fun row hrow => ?_, fun c hc' => ?_⟩
  · rw [lm]
    unfold mkRows at hrow
    obtain ⟨r, hr', rfl⟩ := List.mem_map.mp hrow
    have hb := mem_rng (hr.mem_iff.mp hr')
    have hrl : r.toNat < pl.length := by omega
    have hpr := List.isPerm_iff.mp (h2 (pkR pl r) (by
      unfold pkR
      rw [List.getD_eq_getElem?_getD, List.getElem?_eq_getElem hrl]
      exact List.getElem_mem hrl))
    refine List.isPerm_iff.mpr ?_
    have := sgn (L := co.map (pk (pkR pl r))) ((over (hpr.length_eq.trans (rng_len _)) hc).trans hpr)
    rw [List.map_map] at this
    exact this
  · rw [lm] at hc' ⊢
    have hcl : c < co.length := by omega
    have hcm : co[c] ∈ co := List.getElem_mem hcl
    have hb := mem_rng (hc.mem_iff.mp hcm)
    have e : colOf (mkRows pl ro co sg) c = (ro.map fun r => pk (pkR pl r) co[c]).map (pk sg) := by
      unfold colOf mkRows
      rw [List.map_map, List.map_map]
      refine List.map_congr_left fun r _ => ?_
      show (rowP pl co sg r).getD c 0 = pk sg (pk (pkR pl r) co[c])
      unfold rowP
      rw [List.getD_eq_getElem?_getD, List.getElem?_map, List.getElem?_eq_getElem hcl]
      rfl
    rw [e]
    refine List.isPerm_iff.mpr (sgn ?_)
    have hq := List.isPerm_iff.mp (h3 (co[c]).toNat (by omega))
    have e2 : ((rng pl.length).map fun r => pk (pkR pl r) co[c]) = colOf pl (co[c]).toNat := by
      unfold colOf
      have := congrArg (List.map fun row : List Int => row.getD (co[c]).toNat 0) (map_rng pl [])
      rw [List.map_map] at this
      exact this
    have := hr.map (fun r => pk (pkR pl r) co[c])
    rw [e2] at this
    exact this.trans hq
def spOrder (K : PySem.W.Frag) : Sp := fun vs H Q _ => ∃ (a : Addr) (ns : List Int) (i : Int) (n : Nat), vs = [.ref a, .int i, .int ((n : Nat) : Int)] ∧ SqL K H a (ns.map V.int) ∧ 0 ≤ i ∧ i + n ≤ ns.length ∧ ns.length ≤ 160 ∧ n ≤ 6 ∧ ∀ (p : Addr) (H' : Hp) (os : List Int), Same H H' → H' p = some (.lst (os.map V.int)) → os.Perm (rng n) → Q (.ref p) H'
abbrev nOrder : List Str := ["_law_numbers_here", "_law_at", "_law_count_here", "_law_left", "_law_found", "_law_k"]
theorem scOrder : FnScope nOrder ["_law_numbers_here", "_law_at", "_law_count_here"] (defScope sOrder) := ⟨rfl, rfl, rfl, by decide +kernel, rfl, by decide +kernel, by decide +kernel⟩
def spListed (K : PySem.W.Frag) : Sp := fun vs H Q _ => ∃ (a : Addr) (ns : List Int) (i : Int), vs = [.ref a, .int i] ∧ SqL K H a (ns.map V.int) ∧ 0 ≤ i ∧ i + 19 ≤ ns.length ∧ ns.length ≤ 160 ∧ ∀ (v : V) (H' : Hp) (rows : List (List Int)), Same H H' → TreeAt H' no (.listed rows) v → chkRows rows = true → rows.length ≤ 6 → Q v H'
abbrev nListed : List Str := ["_law_numbers_here", "_law_at", "_law_plain_here", "_law_n", "_law_rows", "_law_columns", "_law_signs", "_law_r", "_law_c"]
theorem scListed : FnScope nListed ["_law_numbers_here", "_law_at"] (defScope sListed) := ⟨rfl, rfl, rfl, by decide +kernel, rfl, by decide +kernel, by decide +kernel⟩
abbrev scL1 : Scope := ⟨.function, [(".0", .local), ("_law_r", .cell), ("tuple", .globalImplicit), ("_law_columns", .cell), ("_law_plain_here", .cell), ("_law_signs", .cell)], false, false, []⟩
def rTupO (K : PySem.W.Frag) : List V → Hp → VK → Prop := fun xs H Q => ∃ p ys, xs = [V.ref p] ∧ ((SqL K H p ys ∧ ∀ l, H l = none → Q (V.ref l) (upd H l (.tup ys))) ∨ (SqT K H p ys ∧ Q (V.ref p) H))
theorem cr_tupO {X : Cx} : CallR X (.type "tuple") (rTupO X.K) := call_tuple_of
section
variable {P : Program} {w : World} {K : PySem.W.Frag} {mg : Str → Option Value} {base : Heap} {C : Addr}
theorem ok_order {f : Addr} {fd : FuncData} (B : Bl mg) (F : Fun K "_law_order_of" "_law_order_of" sOrder f fd) : FnOk P w K mg base CX0 1 f fd ["_law_numbers_here", "_law_at", "_law_count_here"] (spOrder K) := by
  refine F.ok scOrder (fun vs H Q E h => ?_) (fun cdv A outer s H vs Q E hr h => ?_)
  · obtain ⟨a, ns, i, n, rfl, _⟩ := h
    rfl
  obtain ⟨a, ns, at_, n, rfl, ha, h0, h1, h160, h6, k⟩ := h
  refine ⟨_, pss_cons (ps_set (i := 3) scOrder.nd rfl (.inl rfl) (pe_listRg rfl rfl B.list (prg_1 rfl B.range (pv 2))))
    (pss_cons (ps_set (i := 4) scOrder.nd rfl (.inl rfl) (pe_lst pa_nil))
    (pss_cons (ps_for PassesOwn.never rfl (pi_range1 rfl B.range (pa_cons (pv 2) pa_nil)) (pg_name (i := 5) scOrder.nd rfl (.inl rfl)) (pss_one (ps_expr (pe_bm PySem.F.plainAttrs_list PySem.F.slot_list_append PySem.F.type_list_append mt_append (pv 4) (pa_cons (pe_bm PySem.F.plainAttrs_list PySem.F.slot_list_pop PySem.F.type_list_pop mt_popAt (pv 3) (pa_cons (pe_op op_mod (pe_callTy call_int1 rfl B.int (by decide +kernel) (pa_cons (pe_ix ix_list (pv 0) (pe_op op_add (pv 1) (pv 5)) (fun _ _ => rfl)) pa_nil)) (pe_callB call_len_seq rfl B.len PySem.boot_len (pa_cons (pv 3) pa_nil))) pa_nil)) pa_nil)))))
    (pss_one (ps_ret (pv 4))))), ?_⟩
  refine ⟨_, rfl, _, rfl, .of_le (by omega) (by omega) (by omega) (by omega), fun q hq => ?_⟩
  rw [rgV_rng]
  have s1 := same_new hq (.lst ((rng n).map V.int))
  have e1 : upd H q (.lst ((rng n).map V.int)) q = some (.lst ((rng n).map V.int)) := upd_same
  generalize upd H q (.lst ((rng n).map V.int)) = H1 at s1 e1
  refine ⟨(by show 0 ≤ sizeLine; exact Nat.zero_le _), fun p hp => ?_⟩
  have npq : q ≠ p := ne_of_none e1 hp
  have hpH : H p = none := by
    cases e : H p with
    | none => rfl
    | some o => exact absurd (s1 _ _ e) (by rw [hp]; simp)
  refine ⟨_, rfl, ((n : Nat) : Int), rfl, by omega, by omega, for_range (lo := 0) (n := n) (fun i σ H' => ∃ (u : Option V) (l fo : List Int), σ = [some (.ref a), some (.int at_), some (.int ((n : Nat) : Int)), some (.ref q), some (.ref p), u] ∧ Same H H' ∧ H' q = some (.lst (l.map V.int)) ∧ H' p = some (.lst (fo.map V.int)) ∧ (fo ++ l).Perm (rng n) ∧ fo.length = i)
    ⟨none, rng n, [], rfl, s1.trans (same_new hp _), by rw [upd_ne npq]; exact e1, upd_same, List.Perm.refl _, rfl⟩ ?_ ?_⟩
  · rintro i σ H' hi ⟨u, l, fo, rfl, s2, hl, hf, hpm, hlen⟩
    have hll := hpm.length_eq
    rw [List.length_append, rng_len] at hll
    have hat : atI (ns.map V.int) (at_ + (0 + ((i : Nat) : Int))) = some (.int (gn ns (at_ + (0 + ((i : Nat) : Int))))) := gn_at (by omega) (by omega)
    have hpos : (0 : Int) < ((((l.map V.int).length : Nat)) : Int) := by rw [List.length_map]; omega
    generalize gn ns (at_ + (0 + ((i : Nat) : Int))) = z at hat
    refine ⟨_, rfl, .inl ⟨rfl, _, SqL.of hf⟩, _, rfl, .inl ⟨rfl, _, SqL.of hl⟩, _, rfl, _, rfl, _, rfl, _, _, rfl, rfl, a, _, _, _, rfl, rfl, (sq_keep s2 ha), hat, .inl ⟨_, rfl, _, rfl, q, _, rfl, .inl (SqL.of hl), _, _, rfl, rfl, hpos, ?_⟩⟩
    have m0 : 0 ≤ z % ((((l.map V.int).length : Nat)) : Int) := Int.emod_nonneg _ (by omega)
    have m1 : z % ((((l.map V.int).length : Nat)) : Int) < ((((l.map V.int).length : Nat)) : Int) := Int.emod_lt_of_pos _ hpos
    show rPopAt (.ref q) [.int (z % ((((l.map V.int).length : Nat)) : Int))] H' _
    generalize z % ((((l.map V.int).length : Nat)) : Int) = m at m0 m1
    rw [List.length_map] at m1
    obtain ⟨j, ej, hj⟩ : ∃ j : Nat, m = ((j : Nat) : Int) ∧ j < l.length := ⟨m.toNat, by omega, by omega⟩
    subst ej
    have hy : l[j]? = some l[j] := List.getElem?_eq_getElem hj
    generalize l[j] = y at hy
    have hV : (l.map V.int)[j]? = some (.int y) := by rw [List.getElem?_map, hy]; rfl
    obtain ⟨j', q1, q2, q3, q4, q5⟩ := atI_get (atI_nat hV)
    obtain ⟨y', hy', ey⟩ := map_at q2
    refine ⟨q, _, _, j', .int y, rfl, rfl, hl, by omega, by omega, q1, q2, p, fo.map V.int, .int y, rfl, rfl, ?_, ?_, ?_⟩
    · rw [upd_ne (Ne.symm npq)]
      exact hf
    · rw [List.length_map]
      exact small1000 (by omega)
    cases ey
    refine ⟨_, l.eraseIdx j', fo ++ [y], rfl, fun b o z => ?_, ?_, ?_, ?_, ?_⟩
    · rw [upd_ne (ne_of_none z hpH), upd_ne (ne_of_none z hq)]
      exact s2 _ _ z
    · rw [upd_ne npq, upd_same, erase_map]
    · rw [upd_same, lst_snoc]
    · rw [List.append_assoc]
      exact (List.Perm.append_left fo (erase_perm hy')).trans hpm
    · rw [List.length_append, hlen]
      rfl
  · rintro σ H' ⟨u, l, fo, rfl, s2, hl, hf, hpm, hlen⟩
    refine ⟨_, rfl, k p H' fo s2 hf ?_⟩
    have hll := hpm.length_eq
    rw [List.length_append, rng_len] at hll
    have : l = [] := List.length_eq_zero_iff.mp (by omega)
    subst this
    rw [List.append_nil] at hpm
    exact hpm
theorem ok_listed {f fp fo : Addr} {fd fdp fdo : FuncData} (B : Bl mg) (F : Fun K "_law_listed" "_law_listed" sListed f fd) (Dp : Df K mg "_law_plain" sPlain ["_law_number"] fp fdp) (Gp : FnOk P w K mg base CX0 1 fp fdp ["_law_number"] spPlain)
    (Do_ : Df K mg "_law_order_of" sOrder ["_law_numbers_here", "_law_at", "_law_count_here"] fo fdo) (Go : FnOk P w K mg base CX0 1 fo fdo ["_law_numbers_here", "_law_at", "_law_count_here"] (spOrder K)) : FnOk P w K mg base CX0 2 f fd ["_law_numbers_here", "_law_at"] (spListed K) := by
  refine F.ok scListed (fun vs H Q E h => ?_) (fun cdv A outer s H vs Q E hr h => ?_)
  · obtain ⟨a, ns, i, rfl, _⟩ := h
    rfl
  obtain ⟨a, ns, at_, rfl, ha, h0, h1, h160, k⟩ := h
  have hr1 := hr
  refine ⟨_, pss_cons (ps_set (i := 2) scListed.nd rfl (.inr rfl) (pe_call Gp hr1 rfl Dp.m Dp.kp Dp.b .nil pass0 (pa_cons (pe_ix ix_list (pv 0) (pv 1) (fun _ _ => rfl)) pa_nil)))
    (pss_cons (ps_set (i := 3) scListed.nd rfl (.inl rfl) (pe_callB call_len_seq rfl B.len PySem.boot_len (pa_cons (pv 2) pa_nil)))
    (pss_cons (ps_set (i := 4) scListed.nd rfl (.inl rfl) (pe_call Go hr1 rfl Do_.m Do_.kp Do_.b .nil pass0 (pa_cons (pv 0) (pa_cons (pe_op op_add (pv 1) pe_int) (pa_cons (pv 3) pa_nil)))))
    (pss_cons (ps_set (i := 5) scListed.nd rfl (.inr rfl) (pe_call Go hr1 rfl Do_.m Do_.kp Do_.b .nil pass0 (pa_cons (pv 0) (pa_cons (pe_op op_add (pv 1) pe_int) (pa_cons (pv 3) pa_nil)))))
    (pss_cons (ps_set (i := 6) scListed.nd rfl (.inr rfl) (pe_call Go hr1 rfl Do_.m Do_.kp Do_.b .nil pass0 (pa_cons (pv 0) (pa_cons (pe_op op_add (pv 1) pe_int) (pa_cons (pv 3) pa_nil)))))
    (pss_one (ps_ret (pe_tup (pa_cons pe_str (pa_cons (pe_callTy (T := "tuple") cr_tupO rfl B.tuple (by decide +kernel) (pa_cons (pe_lc (own := [("_law_r", 7)]) (g := gName 7) (tt := tYes) (te := (tCB (rTupO K) (tCons (tLc (iList K (tVar 5)) (gName 8) tYes (tOp (rIxL K) (tVar 6) (tOp (rIxL K) (tOp (rIxL K) (tVar 2) (tVar 7)) (tVar 8))) [8]) tNil))) rfl scListed.nd (pi_list (pv 4)) (blkOk_by (N := nListed) (sc := defScope sListed) (by decide +kernel)) (fun _ _ _ _ _ => pg_name (i := 7) scListed.nd rfl (Or.inr rfl)) (fun _ _ _ _ _ => pts_nil) (fun _ _ _ _ _ => (pe_callTy (T := "tuple") cr_tupO rfl B.tuple (by decide +kernel) (pa_cons (pe_lc (own := [("_law_c", 8)]) (g := gName 8) (tt := tYes) (te := (tOp (rIxL K) (tVar 6) (tOp (rIxL K) (tOp (rIxL K) (tVar 2) (tVar 7)) (tVar 8)))) rfl scListed.nd (pi_list (pv 5)) (blkOk_by (N := nListed) (sc := scL1) (by decide +kernel)) (fun _ _ _ _ _ => pg_name (i := 8) scListed.nd rfl (Or.inl rfl)) (fun _ _ _ _ _ => pts_nil) (fun _ _ _ _ _ => (pe_ix ix_list (pv 6) (pe_ix ix_list (pe_ix ix_list (pv 2) (pv 7) (fun _ _ => rfl)) (pv 8) (fun _ _ => rfl)) (fun _ _ => rfl)))) pa_nil)))) pa_nil)) pa_nil))))))))), ?_⟩
  refine ⟨_, rfl, _, rfl, a, _, _, _, rfl, rfl, ha, gn_at h0 (by omega), _, rfl, fun p H1 rs pl s1 hp hrs hgood => ?_⟩
  obtain ⟨⟨g1, g6⟩, hpl⟩ := hgood
  have hlen : rs.length = pl.length := Paired.length hrs
  refine ⟨_, rfl, p, _, rfl, .inl (SqL.of hp), ?_⟩
  rw [hlen]
  refine ⟨_, rfl, _, rfl, _, _, rfl, rfl, _, rfl, a, ns, at_ + 1, pl.length, rfl, sq_keep s1 ha, by omega, by omega, h160, g6, fun pr H2 ro s2 hro pro => ?_⟩
  refine ⟨_, rfl, _, rfl, _, _, rfl, rfl, _, rfl, a, ns, at_ + 7, pl.length, rfl, sq_keep (s1.trans s2) ha, by omega, by omega, h160, g6, fun pc H3 co s3 hco pco => ?_⟩
  refine ⟨_, rfl, _, rfl, _, _, rfl, rfl, _, rfl, a, ns, at_ + 13, pl.length, rfl, sq_keep (s1.trans (s2.trans s3)) ha, by omega, by omega, h160, g6, fun ps H4 sg s4 hsg psg => ?_⟩
  have lr : ro.length = pl.length := pro.length_eq.trans (rng_len _)
  have lc : co.length = pl.length := pco.length_eq.trans (rng_len _)
  have ls : sg.length = pl.length := psg.length_eq.trans (rng_len _)
  have hrows := (chkRows_iff.mp hpl).2.1
  have s04 := s1.trans (s2.trans (s3.trans s4))
  have fp4 := s4 _ _ (s3 _ _ (s2 _ _ hp))
  have fr4 := s4 _ _ (s3 _ _ hro)
  have fc4 := s4 _ _ hco
  have frs4 := hrs.same (s2.trans (s3.trans s4))
  refine ⟨_, rfl, pr, rfl, ⟨_, SqL.of fr4⟩, fun D hD => lc_list (xs := ro.map V.int) (fun i H5 => ∃ ls, Same H4 H5 ∧ H5 D = some (.lst ls) ∧ ls.length = i ∧ RowsAt H5 ls ((ro.take i).map (rowP pl co sg))) ⟨[], same_new hD _, upd_same, rfl, by rw [List.take_zero]; exact .nil⟩ (fun i H5 _ ⟨_, z, _⟩ => SqL.of (z _ _ fr4)) ?_ ?_⟩
  · rintro i x H5 hx ⟨lst, s5, e5, hl5, hrs5⟩
    obtain ⟨r, hr', rfl⟩ := map_at hx
    have hi : i < ro.length := (List.getElem?_eq_some_iff.mp hr').1
    have hrm := mem_rng (pro.mem_iff.mp (List.mem_of_getElem? hr'))
    refine ⟨rfl, ?_⟩
    refine ⟨_, rfl, pc, rfl, ⟨_, SqL.of (s5 _ _ fc4)⟩, fun D2 hD2 => lc_list (xs := co.map V.int) (fun j H6 => H6 = upd H5 D2 (.lst (((co.take j).map fun c => pk sg (pk (pkR pl r) c)).map V.int))) (by rw [List.take_zero]; rfl) ?_ ?_ ?_⟩
    · rintro j H6 _ rfl
      exact SqL.of (same_new hD2 _ _ _ (s5 _ _ fc4))
    · rintro j y H6 hy rfl
      obtain ⟨c, hc', rfl⟩ := map_at hy
      have hcm := mem_rng (pco.mem_iff.mp (List.mem_of_getElem? hc'))
      have s6 : Same H4 (upd H5 D2 (.lst (((co.take j).map fun c => pk sg (pk (pkR pl r) c)).map V.int))) := s5.trans (same_new hD2 _)
      have hrl : r.toNat < pl.length := by omega
      have hpr : pl[r.toNat]? = some (pkR pl r) := by
        unfold pkR
        rw [List.getD_eq_getElem?_getD, List.getElem?_eq_getElem hrl]
        rfl
      obtain ⟨ar, har, har2⟩ := frs4.at hpr
      have hperm := List.isPerm_iff.mp (hrows _ (List.mem_of_getElem? hpr))
      have hlr : (pkR pl r).length = pl.length := hperm.length_eq.trans (rng_len _)
      have hcell : pk (pkR pl r) c ∈ pkR pl r := gn_mem (by omega) (by omega)
      have hcb := mem_rng (hperm.mem_iff.mp hcell)
      have hat1 : atI rs r = some (.ref ar) := by
        have e : r = ((r.toNat : Nat) : Int) := by omega
        rw [e]
        exact atI_nat har
      refine ⟨rfl, ?_⟩
      refine ⟨_, rfl, _, rfl, _, rfl, p, _, _, _, rfl, rfl, SqL.of (s6 _ _ fp4), hat1, _, rfl, ar, _, _, _, rfl, rfl, SqL.of (s6 _ _ har2), gn_at (by omega) (by omega), ps, _, _, _, rfl, rfl, SqL.of (s6 _ _ hsg), gn_at (ns := sg) (i := pk (pkR pl r) c) hcb.1 (by omega), ?_⟩
      refine ⟨_, upd_same, ?_, ?_⟩
      · rw [List.length_map, List.length_map, List.length_take]
        exact small1000 (by omega)
      · rw [upd_upd, take_snoc hc', List.map_append, List.map_append]
        rfl
    · rintro H6 rfl
      rw [List.length_map, List.take_length]
      refine ⟨D2, _, rfl, .inl ⟨SqL.of upd_same, fun tp htp => ?_⟩⟩
      have s7 : Same H5 (upd (upd H5 D2 (.lst ((co.map fun c => pk sg (pk (pkR pl r) c)).map V.int))) tp (.tup ((co.map fun c => pk sg (pk (pkR pl r) c)).map V.int))) := (same_new hD2 _).trans (same_new htp _)
      have e7 : upd (upd H5 D2 (.lst ((co.map fun c => pk sg (pk (pkR pl r) c)).map V.int))) tp (.tup ((co.map fun c => pk sg (pk (pkR pl r) c)).map V.int)) tp = some (.tup ((rowP pl co sg r).map V.int)) := upd_same
      generalize upd (upd H5 D2 (.lst ((co.map fun c => pk sg (pk (pkR pl r) c)).map V.int))) tp (.tup ((co.map fun c => pk sg (pk (pkR pl r) c)).map V.int)) = H7 at s7 e7
      have hu : ∀ b xs, (b = b) → H7 b = some (.tup xs) → upd H7 D (.lst (lst ++ [.ref tp])) b = some (.tup xs) := fun b xs _ q => by
        rw [upd_ne]
        · exact q
        · intro e
          rw [e, s7 _ _ e5] at q
          cases q
      refine ⟨lst, s7 _ _ e5, small1000 (by omega), lst ++ [.ref tp], fun b o q => ?_, upd_same, by rw [List.length_append, hl5]; rfl, ?_⟩
      · rw [upd_ne (ne_of_none q hD)]
        exact s7 _ _ (s5 _ _ q)
      · rw [take_snoc hr', List.map_append]
        exact psnoc ((hrs5.mono fun b xs q => s7 _ _ q).mono fun b xs q => hu b xs rfl q) ⟨tp, rfl, hu _ _ rfl e7⟩
  · rintro H5 ⟨lst, s5, e5, hl5, hrs5⟩
    rw [List.length_map, List.take_length] at hrs5
    refine ⟨D, _, rfl, .inl ⟨SqL.of e5, fun tp htp => ?_⟩⟩
    have s6 := same_new htp (.tup lst)
    refine ⟨(by show 2 ≤ sizeLine; exact small (by decide)), fun tp2 htp2 => ?_⟩
    have s7 := same_new htp2 (.tup [.str (ws "listed"), .ref tp])
    refine k _ _ (mkRows pl ro co sg) (s04.trans (s5.trans (s6.trans s7))) ⟨tp2, tp, lst, rfl, upd_same, .inl (s7 _ _ upd_same), hrs5.mono fun b xs q => s7 _ _ (s6 _ _ q)⟩ (mk_ok hpl pro pco psg) ?_
    unfold mkRows
    rw [List.length_map]
    omega
end
end K5
/-! K5, walks 13: apart, unit. -/
namespace K5
open PySem PySem.Spec PyProof.Rows L2
abbrev sApart : Stmt := topS 50
abbrev sUnit : Stmt := topS 51
def spApart : Sp := fun vs H Q _ => ∃ a b : Nat, vs = [.int ((a : Nat) : Int), .int ((b : Nat) : Int)] ∧ a ≤ b ∧ b ≤ 1027243729 ∧ Q (.bl (decide (((Nat.gcd a b : Nat) : Int) = 1))) H
abbrev nApart : List Str := ["_law_one", "_law_other", "_law_k"]
theorem scApart : FnScope nApart ["_law_one", "_law_other"] (defScope sApart) := ⟨rfl, rfl, rfl, by decide +kernel, rfl, by decide +kernel, by decide +kernel⟩
def spUnit : Sp := fun vs H Q _ => ∃ x n : Nat, vs = [.int ((x : Nat) : Int), .int ((n : Nat) : Int)] ∧ 1 ≤ n ∧ n ≤ 1027243729 ∧ ∀ f : Nat, 1 ≤ f → f ≤ n → Nat.gcd f n = 1 → Q (.int ((f : Nat) : Int)) H
abbrev nUnit : List Str := ["_law_number", "_law_n", "_law_found", "_law_k"]
theorem scUnit : FnScope nUnit ["_law_number", "_law_n"] (defScope sUnit) := ⟨rfl, rfl, rfl, by decide +kernel, rfl, by decide +kernel, by decide +kernel⟩
section
variable {P : Program} {w : World} {K : PySem.W.Frag} {mg : Str → Option Value} {base : Heap} {C : Addr}
theorem ok_apart {f : Addr} {fd : FuncData} (B : Bl mg) (F : Fun K "_law_apart" "_law_apart" sApart f fd) : FnOk P w K mg base CX0 1 f fd ["_law_one", "_law_other"] spApart := by
  refine F.ok scApart (fun vs H Q E h => ?_) (fun cdv A outer s H vs Q E hr h => ?_)
  · obtain ⟨a, b, rfl, _⟩ := h
    rfl
  obtain ⟨a, b, rfl, hab, hb, k⟩ := h
  refine ⟨_, pss_cons (ps_for PassesOwn.never rfl (pi_range1 rfl B.range (pa_cons pe_int pa_nil)) (pg_name (i := 2) scApart.nd rfl (.inl rfl)) (pss_one (ps_if (pt_cmpR op_gt (pv 1) pe_int (nomark _)) (pss_one (ps_par (i := 0) (j := 1) (by rfl) scApart.nd rfl rfl (by decide) rfl rfl (pa_cons (pv 1) (pa_cons (pe_op op_sub (pv 0) (pe_op op_mul (pe_op op_fdiv (pv 0) (pv 1)) (pv 1))) pa_nil)) (by rfl))) pss_nil)))
    (pss_one (ps_ret (pe_cmpR op_eq (pv 0) pe_int (nomark _)))), ?_⟩
  refine ⟨_, rfl, by decide, by decide, for_range (lo := 0) (n := 200) (fun i σ H' => ∃ u : Option V, σ = [some (.int (((eit i (a, b)).1 : Nat) : Int)), some (.int (((eit i (a, b)).2 : Nat) : Int)), u] ∧ H' = H) ⟨none, rfl, rfl⟩ ?_ ?_⟩
  · rintro i σ H' hi ⟨u, rfl, rfl⟩
    have hle := eit_le (p := (a, b)) (n := b) hab (Nat.le_refl _) i
    show tIfS _ _ _ _ [some (.int (((eit i (a, b)).1 : Nat) : Int)), some (.int (((eit i (a, b)).2 : Nat) : Int)), some (.int (0 + ((i : Nat) : Int)))] H'
    have hs : eit (i + 1) (a, b) = est (eit i (a, b)) := rfl
    rw [hs]
    generalize eit i (a, b) = p at hle
    obtain ⟨u, v⟩ := p
    have h1 : u ≤ b := hle.1
    have h2 : v ≤ b := hle.2
    refine ⟨_, rfl, _, _, rfl, rfl, _, rfl, ite2 (fun z => ?_) (fun z => ?_)⟩
    · have z' : (0 : Int) < ((v : Nat) : Int) := of_decide_eq_true z
      refine ⟨_, rfl, _, rfl, _, rfl, _, rfl, _, _, rfl, rfl, ⟨z', by show ((v : Nat) : Int) < 1073741824; omega⟩, _, rfl, _, _, rfl, rfl, .inr ⟨by show -(2 ^ 64) < ((v : Nat) : Int); omega, by show ((v : Nat) : Int) < 2 ^ 64; omega⟩, _, _, rfl, rfl, _, _, rfl, some (.int (0 + ((i : Nat) : Int))), ?_, rfl⟩
      have e : est (u, v) = (v, u % v) := by
        unfold est
        rw [if_neg (by show ¬ v = 0; omega)]
      rw [e]
      have e2 : ((u : Nat) : Int) - ((u : Nat) : Int) / ((v : Nat) : Int) * ((v : Nat) : Int) = ((u % v : Nat) : Int) := by
        have := Int.emod_add_ediv_mul ((u : Nat) : Int) ((v : Nat) : Int)
        rw [Int.natCast_emod]
        omega
      show [some (V.int ((v : Nat) : Int)), some (V.int (((u : Nat) : Int) - ((u : Nat) : Int) / ((v : Nat) : Int) * ((v : Nat) : Int))), some (V.int (0 + ((i : Nat) : Int)))] = _
      rw [e2]
    · have z' : ¬ (0 : Int) < ((v : Nat) : Int) := of_decide_eq_false (Bool.eq_false_iff.mpr z)
      have e : est (u, v) = (u, v) := by
        unfold est
        rw [if_pos (by show v = 0; omega)]
      rw [e]
      exact ⟨_, rfl, rfl⟩
  · rintro σ H' ⟨u, rfl, rfl⟩
    obtain ⟨e0, e1⟩ := eit_200 hab hb
    refine ⟨_, rfl, rfl, ?_⟩
    have e : decide (V.int (((eit 200 (a, b)).1 : Nat) : Int) = V.int 1) = decide (((Nat.gcd a b : Nat) : Int) = 1) := by
      rw [e1]
      generalize ((Nat.gcd a b : Nat) : Int) = y
      by_cases h : y = 1
      · rw [h]; rfl
      · rw [decide_eq_false h]
        exact decide_eq_false fun q => h (int_inj (decide_eq_true q))
    show Q (.bl (decide (V.int (((eit 200 (a, b)).1 : Nat) : Int) = V.int 1))) H'
    rw [e]
    exact k
theorem ok_unit {f g : Addr} {fd gd : FuncData} (B : Bl mg) (F : Fun K "_law_unit" "_law_unit" sUnit f fd) (D : Df K mg "_law_apart" sApart ["_law_one", "_law_other"] g gd) (G : FnOk P w K mg base CX0 1 g gd ["_law_one", "_law_other"] spApart) : FnOk P w K mg base CX0 2 f fd ["_law_number", "_law_n"] spUnit := by
  refine F.ok scUnit (fun vs H Q E h => ?_) (fun cdv A outer s H vs Q E hr h => ?_)
  · obtain ⟨a, b, rfl, _⟩ := h
    rfl
  obtain ⟨x, n, rfl, hn, hb, k⟩ := h
  refine ⟨_, pss_cons (ps_set (i := 2) scUnit.nd rfl (.inl rfl) (pe_op op_add pe_int (pe_op op_mod (pv 0) (pv 1))))
    (pss_cons (ps_for PassesOwn.never rfl (pi_range1 rfl B.range (pa_cons pe_int pa_nil)) (pg_name (i := 3) scUnit.nd rfl (.inl rfl)) (pss_one (ps_if (pt_not (pt_val (pe_call G hr rfl D.m D.kp D.b .nil pass0 (pa_cons (pv 2) (pa_cons (pv 1) pa_nil))))) (pss_one (ps_set (i := 2) scUnit.nd rfl (.inl rfl) (pe_op op_add (pe_op op_mod (pv 2) (pv 1)) pe_int))) pss_nil)))
    (pss_one (ps_ret (pv 2)))), ?_⟩
  refine ⟨_, rfl, _, rfl, _, _, rfl, rfl, (by show (0 : Int) < ((n : Nat) : Int); omega), _, _, rfl, rfl, ?_⟩
  have hx : x % n < n := Nat.mod_lt _ (by omega)
  have e : (1 : Int) + ((x : Nat) : Int) % ((n : Nat) : Int) = ((1 + x % n : Nat) : Int) := by
    rw [Int.natCast_add, Int.natCast_emod]
    rfl
  show tSeq _ _ _ [some (.int ((x : Nat) : Int)), some (.int ((n : Nat) : Int)), some (.int ((1 : Int) + ((x : Nat) : Int) % ((n : Nat) : Int))), none] H
  rw [e]
  have b0 : 1 ≤ 1 + x % n := by omega
  have b1 : 1 + x % n ≤ n := by omega
  generalize 1 + x % n = f0 at b0 b1
  refine ⟨_, rfl, by decide, by decide, for_range (lo := 0) (n := 400) (fun i σ H' => ∃ u : Option V, σ = [some (.int ((x : Nat) : Int)), some (.int ((n : Nat) : Int)), some (.int ((uit n i f0 : Nat) : Int)), u] ∧ H' = H) ⟨none, rfl, rfl⟩ ?_ ?_⟩
  · rintro i σ H' hi ⟨u, rfl, rfl⟩
    obtain ⟨c1, c2⟩ := uit_bound (n := n) i f0 b0 b1
    show tIfS _ _ _ _ [some (.int ((x : Nat) : Int)), some (.int ((n : Nat) : Int)), some (.int ((uit n i f0 : Nat) : Int)), some (.int (0 + ((i : Nat) : Int)))] H'
    rw [uit_succ]
    generalize uit n i f0 = c at c1 c2
    refine ⟨_, rfl, _, rfl, c, n, rfl, c2, hb, _, rfl, ?_⟩
    by_cases hg : Nat.gcd c n = 1
    · have e2 : ustep n c = c := by unfold ustep; rw [if_pos hg]
      rw [e2, decide_eq_true (by rw [hg]; rfl)]
      exact ifF rfl ⟨_, rfl, rfl⟩
    · have e2 : ustep n c = c % n + 1 := by unfold ustep; rw [if_neg hg]
      rw [e2, decide_eq_false (by omega)]
      refine ifT rfl ⟨_, rfl, _, rfl, _, _, rfl, rfl, (by show (0 : Int) < ((n : Nat) : Int); omega), _, _, rfl, rfl, some (.int (0 + ((i : Nat) : Int))), ?_, rfl⟩
      rw [Int.natCast_add, Int.natCast_emod]
      rfl
  · rintro σ H' ⟨u, rfl, rfl⟩
    obtain ⟨g1, g2, g3⟩ := uit_400 b0 b1 hb
    exact ⟨_, rfl, k _ g2 g3 g1⟩
end
end K5
/-! K5, walks 14: the law's leaves. -/
namespace K5
open PySem PySem.Spec PyProof.Rows L2
abbrev sLLeaf : Stmt := topS 52
def spUnitI : Sp := fun vs H Q _ => ∃ x n : Int, vs = [.int x, .int n] ∧ 0 ≤ x ∧ 1 ≤ n ∧ n ≤ 1027243729 ∧ ∀ f : Int, 1 ≤ f → f ≤ n → Nat.gcd f.natAbs n.natAbs = 1 → Q (.int f) H
theorem unit_imp (vs : List V) (H : Hp) (Q : VK) (E : XK) (h : spUnitI vs H Q E) : spUnit vs H Q E := by
  obtain ⟨x, n, rfl, h0, h1, h2, k⟩ := h
  refine ⟨x.toNat, n.toNat, ?_, by omega, by omega, fun f g1 g2 g3 => ?_⟩
  · rw [Int.toNat_of_nonneg h0, Int.toNat_of_nonneg (by omega)]
  · refine k _ (by omega) (by omega) ?_
    rw [Int.natAbs_natCast, show n.natAbs = n.toNat by omega]
    exact g3
def fTab : List (Int × Int × Int) := [(2, 2, 4), (2, 3, 8), (3, 2, 9), (2, 1, 2), (3, 1, 3), (7, 1, 7), (10007, 1, 10007), (999983, 1, 999983)]
theorem f_ok : ∀ e ∈ fTab, isFld e.1 e.2.1 = true ∧ e.1 ^ e.2.1.toNat = e.2.2 ∧ 2 ≤ e.2.2 ∧ e.2.2 ≤ 999983 := by decide +kernel
def spLLeaf (K : PySem.W.Frag) : Sp := fun vs H Q _ => ∃ (a : Addr) (ns : List Int) (i : Int), vs = [.ref a, .int i] ∧ SqL K H a (ns.map V.int) ∧ b9 ns ∧ 0 ≤ i ∧ i + 20 ≤ ns.length ∧ ns.length ≤ 160 ∧
  ∀ (v : V) (H' : Hp) (t : T), Same H H' → TreeAt H' no t v → Val t → many t = 1 → ord t ≤ 1027243729 → Q v H'
abbrev nLLeaf : List Str := ["_law_numbers_here", "_law_at", "_law_kind", "_law_great", "_law_n", "_law_p", "_law_k", "_law_q"]
theorem scLLeaf : FnScope nLLeaf ["_law_numbers_here", "_law_at"] (defScope sLLeaf) := ⟨rfl, rfl, rfl, by decide +kernel, rfl, by decide +kernel, by decide +kernel⟩
section
variable {P : Program} {w : World} {K : PySem.W.Frag} {mg : Str → Option Value} {base : Heap} {C : Addr}
theorem ok_lleaf {f fu fl : Addr} {fd fdu fdl : FuncData} (B : Bl mg) (F : Fun K "_law_leaf" "_law_leaf" sLLeaf f fd) (Du : Df K mg "_law_unit" sUnit ["_law_number", "_law_n"] fu fdu) (Gu0 : FnOk P w K mg base CX0 2 fu fdu ["_law_number", "_law_n"] spUnit)
    (Dl : Df K mg "_law_listed" sListed ["_law_numbers_here", "_law_at"] fl fdl) (Gl : FnOk P w K mg base CX0 2 fl fdl ["_law_numbers_here", "_law_at"] (spListed K)) : FnOk P w K mg base CX0 3 f fd ["_law_numbers_here", "_law_at"] (spLLeaf K) := by
  have Gu := Gu0.imp unit_imp
  refine F.ok scLLeaf (fun vs H Q E h => ?_) (fun cdv A outer s H vs Q E hr h => ?_)
  · obtain ⟨a, ns, i, rfl, _⟩ := h
    rfl
  obtain ⟨a, ns, at_, rfl, ha, hb9, h0, h1, h160, k⟩ := h
  have hg : ∀ c : Int, 0 ≤ c → c < 20 → 0 ≤ gn ns (at_ + c) ∧ gn ns (at_ + c) ≤ 1008 := fun c c0 c1 => by
    have := hb9 _ (gn_mem (ns := ns) (i := at_ + c) (by omega) (by omega))
    omega
  refine ⟨_, pss_cons (ps_set (i := 2) scLLeaf.nd rfl (.inl rfl) (pe_op op_mod (pe_callTy call_int1 rfl B.int (by decide +kernel) (pa_cons (pe_ix ix_list (pv 0) (pv 1) (fun _ _ => rfl)) pa_nil)) pe_int))
    (pss_cons (ps_set (i := 3) scLLeaf.nd rfl (.inl rfl) (pe_callTy call_int1 rfl B.int (by decide +kernel) (pa_cons (pe_op op_add (pe_op op_add (pe_op op_mul (pe_op op_mul (pe_ix ix_list (pv 0) (pe_op op_add (pv 1) pe_int) (fun _ _ => rfl)) pe_int) pe_int) (pe_op op_mul (pe_ix ix_list (pv 0) (pe_op op_add (pv 1) pe_int) (fun _ _ => rfl)) pe_int)) (pe_ix ix_list (pv 0) (pe_op op_add (pv 1) pe_int) (fun _ _ => rfl))) pa_nil)))
    (pss_cons (ps_if (pt_cmpR op_eq (pv 2) pe_int (nomark _)) (pss_cons (ps_set (i := 4) scLLeaf.nd rfl (.inl rfl) (pe_op op_add pe_int (pe_ix ix_list (pe_lst (pa_cons (pe_op op_mod (pe_callTy call_int1 rfl B.int (by decide +kernel) (pa_cons (pe_ix ix_list (pv 0) (pe_op op_add (pv 1) pe_int) (fun _ _ => rfl)) pa_nil)) pe_int) (pa_cons (pv 3) pa_nil))) (pe_op op_mod (pe_callTy call_int1 rfl B.int (by decide +kernel) (pa_cons (pe_ix ix_list (pv 0) (pe_op op_add (pv 1) pe_int) (fun _ _ => rfl)) pa_nil)) pe_int) (fun _ _ => rfl))))
    (pss_one (ps_ret (pe_tup (pa_cons pe_str (pa_cons (pv 4) (pa_cons (pe_call Gu hr rfl Du.m Du.kp Du.b .nil pass0 (pa_cons (pe_op op_add (pv 3) (pe_callTy call_int1 rfl B.int (by decide +kernel) (pa_cons (pe_ix ix_list (pv 0) (pe_op op_add (pv 1) pe_int) (fun _ _ => rfl)) pa_nil))) (pa_cons (pv 4) pa_nil))) (pa_cons (pe_call Gu hr rfl Du.m Du.kp Du.b .nil pass0 (pa_cons (pe_op op_add (pv 3) (pe_callTy call_int1 rfl B.int (by decide +kernel) (pa_cons (pe_ix ix_list (pv 0) (pe_op op_add (pv 1) pe_int) (fun _ _ => rfl)) pa_nil))) (pa_cons (pv 4) pa_nil))) pa_nil)))))))) pss_nil)
    (pss_cons (ps_if (pt_cmpR op_eq (pv 2) pe_int (nomark _)) (pss_cons (ps_asg (pe_ix ix_list (pe_lst (pa_cons (pe_tup (pa_cons pe_int (pa_cons pe_int (pa_cons pe_int pa_nil)))) (pa_cons (pe_tup (pa_cons pe_int (pa_cons pe_int (pa_cons pe_int pa_nil)))) (pa_cons (pe_tup (pa_cons pe_int (pa_cons pe_int (pa_cons pe_int pa_nil)))) (pa_cons (pe_tup (pa_cons pe_int (pa_cons pe_int (pa_cons pe_int pa_nil)))) (pa_cons (pe_tup (pa_cons pe_int (pa_cons pe_int (pa_cons pe_int pa_nil)))) (pa_cons (pe_tup (pa_cons pe_int (pa_cons pe_int (pa_cons pe_int pa_nil)))) (pa_cons (pe_tup (pa_cons pe_int (pa_cons pe_int (pa_cons pe_int pa_nil)))) (pa_cons (pe_tup (pa_cons pe_int (pa_cons pe_int (pa_cons pe_int pa_nil)))) pa_nil))))))))) (pe_op op_mod (pe_callTy call_int1 rfl B.int (by decide +kernel) (pa_cons (pe_ix ix_list (pv 0) (pe_op op_add (pv 1) pe_int) (fun _ _ => rfl)) pa_nil)) pe_int) (fun _ _ => rfl)) (pg_tup rfl (pgs_cons (pg_name (i := 5) scLLeaf.nd rfl (.inl rfl)) (pgs_cons (pg_name (i := 6) scLLeaf.nd rfl (.inl rfl)) (pgs_cons (pg_name (i := 7) scLLeaf.nd rfl (.inl rfl)) pgs_nil)))))
    (pss_one (ps_ret (pe_tup (pa_cons pe_str (pa_cons (pv 5) (pa_cons (pv 6) (pa_cons (pe_op op_add pe_int (pe_op op_mod (pv 3) (pe_op op_sub (pv 7) pe_int))) pa_nil)))))))) pss_nil)
    (pss_one (ps_ret (pe_call Gl hr rfl Dl.m Dl.kp Dl.b .nil pass0 (pa_cons (pv 0) (pa_cons (pe_op op_add (pv 1) pe_int) pa_nil)))))))), ?_⟩
  refine ⟨_, rfl, _, rfl, a, _, _, _, rfl, rfl, ha, gn_at h0 (by omega), .inl ⟨_, rfl, _, _, rfl, rfl, (by show (0 : Int) < 4; decide), ?_⟩⟩
  refine ⟨_, rfl, _, rfl, _, _, rfl, rfl, a, _, _, _, rfl, rfl, ha, gn_at (by omega) (by omega), _, _, rfl, rfl, .inr ⟨by decide, by decide⟩, _, _, rfl, rfl, .inr ⟨by decide, by decide⟩, _, rfl, _, rfl, _, _, rfl, rfl, a, _, _, _, rfl, rfl, ha, gn_at (by omega) (by omega), _, _, rfl, rfl, .inr ⟨by decide, by decide⟩, _, _, rfl, rfl, _, rfl, _, rfl, _, _, rfl, rfl, a, _, _, _, rfl, rfl, ha, gn_at (by omega) (by omega), _, _, rfl, rfl, .inl ⟨_, rfl, ?_⟩⟩
  have g1 := hg 1 (by decide) (by decide)
  have g2 := hg 2 (by decide) (by decide)
  have g3 := hg 3 (by decide) (by decide)
  have hG : ∃ g : Int, gn ns (at_ + 1) * 1009 * 1009 + gn ns (at_ + 2) * 1009 + gn ns (at_ + 3) = g ∧ 0 ≤ g ∧ g ≤ 1027243728 := ⟨_, rfl, by omega, by omega⟩
  obtain ⟨g, eg, hg0, hg1⟩ := hG
  show tSeq _ _ _ [some (.ref a), some (.int at_), some (.int (gn ns at_ % 4)), some (.int (gn ns (at_ + 1) * 1009 * 1009 + gn ns (at_ + 2) * 1009 + gn ns (at_ + 3))), none, none, none, none] H
  rw [eg]
  generalize gn ns at_ % 4 = kd
  refine ⟨_, rfl, rfl, _, rfl, ite2 (fun z => ?_) (fun z => ?_)⟩
  · refine ⟨_, rfl, _, rfl, _, _, rfl, rfl, a, _, _, _, rfl, rfl, ha, gn_at (by omega) (by omega), .inl ⟨_, rfl, _, _, rfl, rfl, (by show (0 : Int) < 12; decide), _, rfl, (by show 2 ≤ sizeLine; exact small (by decide)), fun p hp => ?_⟩⟩
    have sp := same_new hp (.lst [.int (gn ns (at_ + 1) % 12), .int g])
    have ep : upd H p (.lst [.int (gn ns (at_ + 1) % 12), .int g]) p = some (.lst [.int (gn ns (at_ + 1) % 12), .int g]) := upd_same
    generalize upd H p (.lst [.int (gn ns (at_ + 1) % 12), .int g]) = H1 at sp ep
    have hm : ∃ m : Int, atI [V.int (gn ns (at_ + 1) % 12), V.int g] (gn ns (at_ + 4) % 2) = some (.int m) ∧ 0 ≤ m ∧ m ≤ 1027243728 := by
      have hc : gn ns (at_ + 4) % 2 = 0 ∨ gn ns (at_ + 4) % 2 = 1 := by omega
      rcases hc with q | q
      · rw [q]
        exact ⟨_, atI_nat (j := 0) rfl, by omega, by omega⟩
      · rw [q]
        exact ⟨_, atI_nat (j := 1) rfl, by omega, by omega⟩
    obtain ⟨m, em, hm0, hm1⟩ := hm
    have ha1 := sq_keep sp ha
    refine ⟨_, rfl, _, rfl, _, _, rfl, rfl, a, _, _, _, rfl, rfl, ha1, gn_at (by omega) (by omega), .inl ⟨_, rfl, _, _, rfl, rfl, (by show (0 : Int) < 2; decide), p, _, _, _, rfl, rfl, SqL.of ep, em, _, _, rfl, rfl, ?_⟩⟩
    have g5 := hg 5 (by decide) (by decide)
    have g6 := hg 6 (by decide) (by decide)
    refine ⟨_, rfl, _, rfl, _, rfl, _, rfl, _, _, rfl, rfl, a, _, _, _, rfl, rfl, ha1, gn_at (by omega) (by omega), .inl ⟨_, rfl, _, _, rfl, rfl, _, rfl, g + gn ns (at_ + 5), 1 + m, rfl, by omega, by omega, by omega, fun x x1 x2 x3 => ?_⟩⟩
    refine ⟨_, rfl, _, rfl, _, rfl, _, _, rfl, rfl, a, _, _, _, rfl, rfl, ha1, gn_at (by omega) (by omega), .inl ⟨_, rfl, _, _, rfl, rfl, _, rfl, g + gn ns (at_ + 6), 1 + m, rfl, by omega, by omega, by omega, fun y y1 y2 y3 => ?_⟩⟩
    refine ⟨(by show 4 ≤ sizeLine; exact small (by decide)), fun q hq => ?_⟩
    exact k (.ref q) _ (.sum (1 + m) x y) (sp.trans (same_new hq _)) ⟨q, rfl, upd_same⟩ (chkSum_iff.mpr ⟨⟨⟨by omega, by rw [ten30]; omega⟩, ⟨x1, x2⟩, ⟨y1, y2⟩⟩, x3, y3⟩) rfl (by show 1 + m ≤ _; omega)
  refine ⟨_, rfl, rfl, _, rfl, ite2 (fun z => ?_) (fun z => ?_)⟩
  · refine ⟨(by show 3 ≤ sizeLine; exact small (by decide)), fun p0 hp0 => ?_⟩
    have t0 := same_new hp0 (.tup [.int 2, .int 2, .int 4])
    have e0 : upd H p0 (.tup [.int 2, .int 2, .int 4]) p0 = some (.tup [.int 2, .int 2, .int 4]) := upd_same
    generalize upd H p0 (.tup [.int 2, .int 2, .int 4]) = G0 at t0 e0
    have s0 := t0
    refine ⟨(by show 3 ≤ sizeLine; exact small (by decide)), fun p1 hp1 => ?_⟩
    have t1 := same_new hp1 (.tup [.int 2, .int 3, .int 8])
    have e1 : upd G0 p1 (.tup [.int 2, .int 3, .int 8]) p1 = some (.tup [.int 2, .int 3, .int 8]) := upd_same
    generalize upd G0 p1 (.tup [.int 2, .int 3, .int 8]) = G1 at t1 e1
    have s1 := s0.trans t1
    refine ⟨(by show 3 ≤ sizeLine; exact small (by decide)), fun p2 hp2 => ?_⟩
    have t2 := same_new hp2 (.tup [.int 3, .int 2, .int 9])
    have e2 : upd G1 p2 (.tup [.int 3, .int 2, .int 9]) p2 = some (.tup [.int 3, .int 2, .int 9]) := upd_same
    generalize upd G1 p2 (.tup [.int 3, .int 2, .int 9]) = G2 at t2 e2
    have s2 := s1.trans t2
    refine ⟨(by show 3 ≤ sizeLine; exact small (by decide)), fun p3 hp3 => ?_⟩
    have t3 := same_new hp3 (.tup [.int 2, .int 1, .int 2])
    have e3 : upd G2 p3 (.tup [.int 2, .int 1, .int 2]) p3 = some (.tup [.int 2, .int 1, .int 2]) := upd_same
    generalize upd G2 p3 (.tup [.int 2, .int 1, .int 2]) = G3 at t3 e3
    have s3 := s2.trans t3
    refine ⟨(by show 3 ≤ sizeLine; exact small (by decide)), fun p4 hp4 => ?_⟩
    have t4 := same_new hp4 (.tup [.int 3, .int 1, .int 3])
    have e4 : upd G3 p4 (.tup [.int 3, .int 1, .int 3]) p4 = some (.tup [.int 3, .int 1, .int 3]) := upd_same
    generalize upd G3 p4 (.tup [.int 3, .int 1, .int 3]) = G4 at t4 e4
    have s4 := s3.trans t4
    refine ⟨(by show 3 ≤ sizeLine; exact small (by decide)), fun p5 hp5 => ?_⟩
    have t5 := same_new hp5 (.tup [.int 7, .int 1, .int 7])
    have e5 : upd G4 p5 (.tup [.int 7, .int 1, .int 7]) p5 = some (.tup [.int 7, .int 1, .int 7]) := upd_same
    generalize upd G4 p5 (.tup [.int 7, .int 1, .int 7]) = G5 at t5 e5
    have s5 := s4.trans t5
    refine ⟨(by show 3 ≤ sizeLine; exact small (by decide)), fun p6 hp6 => ?_⟩
    have t6 := same_new hp6 (.tup [.int 10007, .int 1, .int 10007])
    have e6 : upd G5 p6 (.tup [.int 10007, .int 1, .int 10007]) p6 = some (.tup [.int 10007, .int 1, .int 10007]) := upd_same
    generalize upd G5 p6 (.tup [.int 10007, .int 1, .int 10007]) = G6 at t6 e6
    have s6 := s5.trans t6
    refine ⟨(by show 3 ≤ sizeLine; exact small (by decide)), fun p7 hp7 => ?_⟩
    have t7 := same_new hp7 (.tup [.int 999983, .int 1, .int 999983])
    have e7 : upd G6 p7 (.tup [.int 999983, .int 1, .int 999983]) p7 = some (.tup [.int 999983, .int 1, .int 999983]) := upd_same
    generalize upd G6 p7 (.tup [.int 999983, .int 1, .int 999983]) = G7 at t7 e7
    have s7 := s6.trans t7
    refine ⟨(by show 8 ≤ sizeLine; exact small (by decide)), fun pl hpl => ?_⟩
    have t8 := same_new hpl (.lst [V.ref p0, V.ref p1, V.ref p2, V.ref p3, V.ref p4, V.ref p5, V.ref p6, V.ref p7])
    have e8 : upd G7 pl (.lst [V.ref p0, V.ref p1, V.ref p2, V.ref p3, V.ref p4, V.ref p5, V.ref p6, V.ref p7]) pl = some (.lst [V.ref p0, V.ref p1, V.ref p2, V.ref p3, V.ref p4, V.ref p5, V.ref p6, V.ref p7]) := upd_same
    generalize upd G7 pl (.lst [V.ref p0, V.ref p1, V.ref p2, V.ref p3, V.ref p4, V.ref p5, V.ref p6, V.ref p7]) = G8 at t8 e8
    have s8 := s7.trans t8
    have key : ∀ j : Nat, j < 8 → ∃ (pa : Addr) (e : Int × Int × Int), ([V.ref p0, V.ref p1, V.ref p2, V.ref p3, V.ref p4, V.ref p5, V.ref p6, V.ref p7] : List V)[j]? = some (.ref pa) ∧ e ∈ fTab ∧ G8 pa = some (.tup [.int e.1, .int e.2.1, .int e.2.2]) := fun j hj => by
      have hc : j = 0 ∨ j = 1 ∨ j = 2 ∨ j = 3 ∨ j = 4 ∨ j = 5 ∨ j = 6 ∨ j = 7 := by omega
      rcases hc with q | q | q | q | q | q | q | q
      · subst q; exact ⟨p0, (2, 2, 4), rfl, by decide, t8 _ _ (t7 _ _ (t6 _ _ (t5 _ _ (t4 _ _ (t3 _ _ (t2 _ _ (t1 _ _ (e0))))))))⟩
      · subst q; exact ⟨p1, (2, 3, 8), rfl, by decide, t8 _ _ (t7 _ _ (t6 _ _ (t5 _ _ (t4 _ _ (t3 _ _ (t2 _ _ (e1)))))))⟩
      · subst q; exact ⟨p2, (3, 2, 9), rfl, by decide, t8 _ _ (t7 _ _ (t6 _ _ (t5 _ _ (t4 _ _ (t3 _ _ (e2))))))⟩
      · subst q; exact ⟨p3, (2, 1, 2), rfl, by decide, t8 _ _ (t7 _ _ (t6 _ _ (t5 _ _ (t4 _ _ (e3)))))⟩
      · subst q; exact ⟨p4, (3, 1, 3), rfl, by decide, t8 _ _ (t7 _ _ (t6 _ _ (t5 _ _ (e4))))⟩
      · subst q; exact ⟨p5, (7, 1, 7), rfl, by decide, t8 _ _ (t7 _ _ (t6 _ _ (e5)))⟩
      · subst q; exact ⟨p6, (10007, 1, 10007), rfl, by decide, t8 _ _ (t7 _ _ (e6))⟩
      · subst q; exact ⟨p7, (999983, 1, 999983), rfl, by decide, t8 _ _ (e7)⟩
    have hj : ∃ j : Nat, gn ns (at_ + 4) % 8 = ((j : Nat) : Int) ∧ j < 8 := ⟨(gn ns (at_ + 4) % 8).toNat, by omega, by omega⟩
    obtain ⟨j, ej, hj8⟩ := hj
    obtain ⟨pa, e, q1, q2, q3⟩ := key j hj8
    have q1' : atI [V.ref p0, V.ref p1, V.ref p2, V.ref p3, V.ref p4, V.ref p5, V.ref p6, V.ref p7] (gn ns (at_ + 4) % 8) = some (.ref pa) := by
      rw [ej]
      exact atI_nat q1
    have ha8 := sq_keep s8 ha
    obtain ⟨f1, f2, f3, f4⟩ := f_ok e q2
    refine ⟨_, rfl, _, rfl, _, _, rfl, rfl, a, _, _, _, rfl, rfl, ha8, gn_at (by omega) (by omega), .inl ⟨_, rfl, _, _, rfl, rfl, (by show (0 : Int) < 8; decide), pl, _, _, _, rfl, rfl, SqL.of e8, q1', pa, _, rfl, SqT.of q3, rfl, _, _, rfl, _, _, rfl, _, _, rfl, rfl, ?_⟩⟩
    refine ⟨_, rfl, _, rfl, _, rfl, _, rfl, _, _, rfl, rfl, _, _, rfl, rfl, (by show (0 : Int) < e.2.2 - 1; omega), _, _, rfl, rfl, ?_⟩
    have m0 : 0 ≤ g % (e.2.2 - 1) := Int.emod_nonneg _ (by omega)
    have m1 : g % (e.2.2 - 1) < e.2.2 - 1 := Int.emod_lt_of_pos _ (by omega)
    refine ⟨(by show 4 ≤ sizeLine; exact small (by decide)), fun q hq => ?_⟩
    refine k (.ref q) _ (.field e.1 e.2.1 (1 + g % (e.2.2 - 1))) (s8.trans (same_new hq _)) ⟨q, rfl, upd_same⟩ ?_ rfl ?_
    · show chkFld _ _ _ = true
      unfold chkFld
      rw [f1, f2, decide_eq_true (by omega), decide_eq_true (by omega)]
      rfl
    · show e.1 ^ e.2.1.toNat ≤ _
      rw [f2]
      omega
  refine ⟨_, rfl, _, rfl, _, _, rfl, rfl, a, ns, at_ + 1, rfl, ha, by omega, by omega, h160, fun v H' rows s1 ht hv hl => ?_⟩
  exact k v H' (.listed rows) s1 ht hv rfl (by show ((rows.length : Nat) : Int) ≤ _; omega)
end
end K5
/-! K5, walks 15: count, many. -/
namespace K5
open PySem PySem.Spec PyProof.Rows L2
abbrev sCount : Stmt := topS 53
abbrev sMany : Stmt := topS 54
def spCount (n : Nat) : Sp := fun vs H Q _ => ∃ (v : V) (t : T), vs = [v] ∧ TreeAt H no t v ∧ Val t ∧ hg t ≤ n ∧ ord t ≤ 10 ^ 60 ∧ Q (.int (ord t)) H
def spMany (n : Nat) : Sp := fun vs H Q _ => ∃ (v : V) (t : T), vs = [v] ∧ TreeAt H no t v ∧ Val t ∧ hg t ≤ n ∧ Q (.int ((many t : Nat) : Int)) H
theorem scCount : FnScope ["_law_tree_here", "_law_q", "_law_k"] ["_law_tree_here"] (defScope sCount) := ⟨rfl, rfl, rfl, by decide +kernel, rfl, by decide +kernel, by decide +kernel⟩
theorem scMany : FnScope ["_law_tree_here"] ["_law_tree_here"] (defScope sMany) := ⟨rfl, rfl, rfl, by decide +kernel, rfl, by decide +kernel, by decide +kernel⟩
theorem ord_w {t : T} (hv : Val t) (h : ord t ≤ 10 ^ 60) : (ord t).natAbs < 2 ^ 200 := by
  have h1 := ord_pos t hv
  have e : (10 : Int) ^ 60 = 1000000000000000000000000000000000000000000000000000000000000 := by decide
  have e2 : (2 : Nat) ^ 200 = 1606938044258990275541962092341162602522202993782792835301376 := by decide
  rw [e] at h
  omega
theorem ord_l {s t : T} (h1 : Val s) (h2 : Val t) : ord s ≤ ord s * ord t ∧ ord t ≤ ord s * ord t := by
  have p1 := ord_pos s h1
  have p2 := ord_pos t h2
  have q1 : ord s * 1 ≤ ord s * ord t := Int.mul_le_mul_of_nonneg_left p2 (by omega)
  have q2 : 1 * ord t ≤ ord s * ord t := Int.mul_le_mul_of_nonneg_right p1 (by omega)
  omega
section
variable {P : Program} {w : World} {K : PySem.W.Frag} {mg : Str → Option Value} {base : Heap} {C : Addr}
theorem ok_count {f : Addr} {fd : FuncData} (B : Bl mg) (D : Df K mg "_law_count" sCount ["_law_tree_here"] f fd) : ∀ n, FnOk P w K mg base CX0 n f fd ["_law_tree_here"] (spCount n)
  | 0 => none_left fun vs H Q E ⟨v, t, _, _, _, h, _⟩ => by have := hg_pos t; omega
  | n + 1 => by
    have GP := ok_count B D n
    refine D.F.ok scCount (fun vs H Q E h => ?_) (fun cdv A outer s H vs Q E hr h => ?_)
    · obtain ⟨v, t, rfl, _⟩ := h
      rfl
    obtain ⟨v, t, rfl, ht, hv, hh, ho, k⟩ := h
    refine ⟨_, pss_cons (ps_if (pt_cmpR op_eq (pe_ix ix_tup (pv 0) pe_int (fun _ _ => rfl)) pe_str (nomark _)) (pss_one (ps_ret (pe_callB call_len_seq rfl B.len PySem.boot_len (pa_cons (pe_ix ix_tup (pv 0) pe_int (fun _ _ => rfl)) pa_nil)))) pss_nil)
    (pss_cons (ps_if (pt_cmpR op_eq (pe_ix ix_tup (pv 0) pe_int (fun _ _ => rfl)) pe_str (nomark _)) (pss_one (ps_ret (pe_ix ix_tup (pv 0) pe_int (fun _ _ => rfl)))) pss_nil)
    (pss_cons (ps_if (pt_cmpR op_eq (pe_ix ix_tup (pv 0) pe_int (fun _ _ => rfl)) pe_str (nomark _)) (pss_cons (ps_set (i := 1) scCount.nd rfl (.inl rfl) pe_int)
    (pss_cons (ps_for PassesOwn.never rfl (pi_range1 rfl B.range (pa_cons (pe_ix ix_tup (pv 0) pe_int (fun _ _ => rfl)) pa_nil)) (pg_name (i := 2) scCount.nd rfl (.inl rfl)) (pss_one (ps_set (i := 1) scCount.nd rfl (.inl rfl) (pe_op op_mul (pv 1) (pe_ix ix_tup (pv 0) pe_int (fun _ _ => rfl))))))
    (pss_one (ps_ret (pv 1))))) pss_nil)
    (pss_cons (ps_if (pt_cmpR op_eq (pe_ix ix_tup (pv 0) pe_int (fun _ _ => rfl)) pe_str (nomark _)) (pss_one (ps_ret (pe_op op_mulW (pe_call GP hr rfl D.m D.kp D.b .nil pass0 (pa_cons (pe_ix ix_tup (pv 0) pe_int (fun _ _ => rfl)) pa_nil)) (pe_call GP hr rfl D.m D.kp D.b .nil pass0 (pa_cons (pe_ix ix_tup (pv 0) pe_int (fun _ _ => rfl)) pa_nil))))) pss_nil)
    (pss_one (ps_ret (pe_call GP hr rfl D.m D.kp D.b .nil pass0 (pa_cons (pe_ix ix_tup (pv 0) pe_int (fun _ _ => rfl)) pa_nil))))))), ?_⟩
    cases t with
    | bad s => exact hv.elim
    | listed rows =>
      obtain ⟨a, r, rs, rfl, h1, h2, h3⟩ := ht
      have h2 : H r = some (.tup rs) := h2.elim (fun z => z) (fun z => z.1.elim)
      have hlen : rs.length = rows.length := Paired.length h3
      refine ⟨_, rfl, _, _, _, _, rfl, rfl, SqT.of h1, atI_nat (j := 0) rfl, rfl, _, rfl, str_eq ?_⟩
      refine ⟨_, rfl, _, _, _, _, rfl, rfl, SqT.of h1, atI_nat (j := 1) rfl, r, rs, rfl, .inr (SqT.of h2), ?_⟩
      rw [hlen]
      exact k
    | sum m x y =>
      obtain ⟨a, rfl, h1⟩ := ht
      refine ⟨_, rfl, _, _, _, _, rfl, rfl, SqT.of h1, atI_nat (j := 0) rfl, rfl, _, rfl, str_ne (by decide) ?_⟩
      refine ⟨_, rfl, _, _, _, _, rfl, rfl, SqT.of h1, atI_nat (j := 0) rfl, rfl, _, rfl, str_eq ?_⟩
      exact ⟨_, rfl, _, _, _, _, rfl, rfl, SqT.of h1, atI_nat (j := 1) rfl, k⟩
    | field p m x =>
      obtain ⟨a, rfl, h1⟩ := ht
      have hf : isFld p m = true := by
        unfold Val chkFld at hv
        rw [Bool.and_eq_true] at hv
        exact hv.1
      obtain ⟨⟨b1, b2⟩, ⟨b3, b4⟩, _⟩ := isFld_bd hf
      refine ⟨_, rfl, _, _, _, _, rfl, rfl, SqT.of h1, atI_nat (j := 0) rfl, rfl, _, rfl, str_ne (by decide) ?_⟩
      refine ⟨_, rfl, _, _, _, _, rfl, rfl, SqT.of h1, atI_nat (j := 0) rfl, rfl, _, rfl, str_ne (by decide) ?_⟩
      refine ⟨_, rfl, _, _, _, _, rfl, rfl, SqT.of h1, atI_nat (j := 0) rfl, rfl, _, rfl, str_eq ?_⟩
      refine ⟨_, rfl, _, _, _, _, rfl, rfl, SqT.of h1, atI_nat (j := 2) rfl, m, rfl, by omega, by omega, for_range (lo := 0) (n := m.toNat) (fun i σ H' => ∃ u : Option V, σ = [some (.ref a), some (.int (p ^ i)), u] ∧ H' = H) ⟨none, by rw [Int.pow_zero]; rfl, rfl⟩ ?_ ?_⟩
      · rintro i σ H' hi ⟨u, rfl, rfl⟩
        refine ⟨_, rfl, _, rfl, _, _, _, _, rfl, rfl, SqT.of h1, atI_nat (j := 1) rfl, _, _, rfl, rfl, .inr ⟨by show -(2 ^ 64) < p; omega, by show p < 2 ^ 64; omega⟩, some (.int (0 + ((i : Nat) : Int))), ?_, rfl⟩
        rw [Int.pow_succ]
        rfl
      · rintro σ H' ⟨u, rfl, rfl⟩
        exact ⟨_, rfl, k⟩
    | product s t =>
      obtain ⟨a, x, y, rfl, h1, hs, ht2⟩ := ht
      have hhh : hg (.product s t) = 1 + max (hg s) (hg t) := rfl
      have ho : ord s * ord t ≤ 10 ^ 60 := ho
      have hl := ord_l hv.1 hv.2
      refine ⟨_, rfl, _, _, _, _, rfl, rfl, SqT.of h1, atI_nat (j := 0) rfl, rfl, _, rfl, str_ne (by decide) ?_⟩
      refine ⟨_, rfl, _, _, _, _, rfl, rfl, SqT.of h1, atI_nat (j := 0) rfl, rfl, _, rfl, str_ne (by decide) ?_⟩
      refine ⟨_, rfl, _, _, _, _, rfl, rfl, SqT.of h1, atI_nat (j := 0) rfl, rfl, _, rfl, str_ne (by decide) ?_⟩
      refine ⟨_, rfl, _, _, _, _, rfl, rfl, SqT.of h1, atI_nat (j := 0) rfl, rfl, _, rfl, str_eq ?_⟩
      refine ⟨_, rfl, _, _, _, _, rfl, rfl, SqT.of h1, atI_nat (j := 1) rfl, x, s, rfl, hs, hv.1, by omega, by omega, _, rfl, _, _, _, _, rfl, rfl, SqT.of h1, atI_nat (j := 2) rfl, y, t, rfl, ht2, hv.2, by omega, by omega, _, _, rfl, rfl, wide_mul (ord_w hv.1 (by omega)) (ord_w hv.2 (by omega)) (by decide) (by decide) (by decide), k⟩
    | turned s pl =>
      obtain ⟨a, x, q, rfl, h1, hs, h2⟩ := ht
      have hhh : hg (.turned s pl) = 1 + hg s := rfl
      refine ⟨_, rfl, _, _, _, _, rfl, rfl, SqT.of h1, atI_nat (j := 0) rfl, rfl, _, rfl, str_ne (by decide) ?_⟩
      refine ⟨_, rfl, _, _, _, _, rfl, rfl, SqT.of h1, atI_nat (j := 0) rfl, rfl, _, rfl, str_ne (by decide) ?_⟩
      refine ⟨_, rfl, _, _, _, _, rfl, rfl, SqT.of h1, atI_nat (j := 0) rfl, rfl, _, rfl, str_ne (by decide) ?_⟩
      refine ⟨_, rfl, _, _, _, _, rfl, rfl, SqT.of h1, atI_nat (j := 0) rfl, rfl, _, rfl, str_ne (by decide) ?_⟩
      exact ⟨_, rfl, _, _, _, _, rfl, rfl, SqT.of h1, atI_nat (j := 1) rfl, x, s, rfl, hs, hv.1, by omega, ho, k⟩
theorem ok_many {f : Addr} {fd : FuncData} (B : Bl mg) (D : Df K mg "_law_many" sMany ["_law_tree_here"] f fd) : ∀ n, FnOk P w K mg base CX0 n f fd ["_law_tree_here"] (spMany n)
  | 0 => none_left fun vs H Q E ⟨v, t, _, _, _, h, _⟩ => by have := hg_pos t; omega
  | n + 1 => by
    have GP := ok_many B D n
    refine D.F.ok scMany (fun vs H Q E h => ?_) (fun cdv A outer s H vs Q E hr h => ?_)
    · obtain ⟨v, t, rfl, _⟩ := h
      rfl
    obtain ⟨v, t, rfl, ht, hv, hh, k⟩ := h
    refine ⟨_, pss_cons (ps_if (pt_cmpR op_eq (pe_ix ix_tup (pv 0) pe_int (fun _ _ => rfl)) pe_str (nomark _)) (pss_one (ps_ret (pe_op op_add (pe_op op_add pe_int (pe_call GP hr rfl D.m D.kp D.b .nil pass0 (pa_cons (pe_ix ix_tup (pv 0) pe_int (fun _ _ => rfl)) pa_nil))) (pe_call GP hr rfl D.m D.kp D.b .nil pass0 (pa_cons (pe_ix ix_tup (pv 0) pe_int (fun _ _ => rfl)) pa_nil))))) pss_nil)
    (pss_cons (ps_if (pt_cmpR op_eq (pe_ix ix_tup (pv 0) pe_int (fun _ _ => rfl)) pe_str (nomark _)) (pss_one (ps_ret (pe_op op_add pe_int (pe_call GP hr rfl D.m D.kp D.b .nil pass0 (pa_cons (pe_ix ix_tup (pv 0) pe_int (fun _ _ => rfl)) pa_nil))))) pss_nil)
    (pss_one (ps_ret pe_int))), ?_⟩
    cases t with
    | bad s => exact hv.elim
    | listed rows =>
      obtain ⟨a, r, rs, rfl, h1, h2, h3⟩ := ht
      refine ⟨_, rfl, _, _, _, _, rfl, rfl, SqT.of h1, atI_nat (j := 0) rfl, rfl, _, rfl, str_ne (by decide) ?_⟩
      refine ⟨_, rfl, _, _, _, _, rfl, rfl, SqT.of h1, atI_nat (j := 0) rfl, rfl, _, rfl, str_ne (by decide) ?_⟩
      exact k
    | sum m x y =>
      obtain ⟨a, rfl, h1⟩ := ht
      refine ⟨_, rfl, _, _, _, _, rfl, rfl, SqT.of h1, atI_nat (j := 0) rfl, rfl, _, rfl, str_ne (by decide) ?_⟩
      refine ⟨_, rfl, _, _, _, _, rfl, rfl, SqT.of h1, atI_nat (j := 0) rfl, rfl, _, rfl, str_ne (by decide) ?_⟩
      exact k
    | field p m x =>
      obtain ⟨a, rfl, h1⟩ := ht
      refine ⟨_, rfl, _, _, _, _, rfl, rfl, SqT.of h1, atI_nat (j := 0) rfl, rfl, _, rfl, str_ne (by decide) ?_⟩
      refine ⟨_, rfl, _, _, _, _, rfl, rfl, SqT.of h1, atI_nat (j := 0) rfl, rfl, _, rfl, str_ne (by decide) ?_⟩
      exact k
    | product s t =>
      obtain ⟨a, x, y, rfl, h1, hs, ht2⟩ := ht
      have hhh : hg (.product s t) = 1 + max (hg s) (hg t) := rfl
      have e : ((many (.product s t) : Nat) : Int) = 1 + ((many s : Nat) : Int) + ((many t : Nat) : Int) := by
        show ((1 + many s + many t : Nat) : Int) = _
        omega
      rw [e] at k
      refine ⟨_, rfl, _, _, _, _, rfl, rfl, SqT.of h1, atI_nat (j := 0) rfl, rfl, _, rfl, str_eq ?_⟩
      exact ⟨_, rfl, _, _, _, _, rfl, rfl, SqT.of h1, atI_nat (j := 1) rfl, x, s, rfl, hs, hv.1, by omega, _, _, rfl, rfl, _, rfl, _, _, _, _, rfl, rfl, SqT.of h1, atI_nat (j := 2) rfl, y, t, rfl, ht2, hv.2, by omega, _, _, rfl, rfl, k⟩
    | turned s pl =>
      obtain ⟨a, x, q, rfl, h1, hs, h2⟩ := ht
      have hhh : hg (.turned s pl) = 1 + hg s := rfl
      have e : ((many (.turned s pl) : Nat) : Int) = 1 + ((many s : Nat) : Int) := by
        show ((1 + many s : Nat) : Int) = _
        omega
      rw [e] at k
      refine ⟨_, rfl, _, _, _, _, rfl, rfl, SqT.of h1, atI_nat (j := 0) rfl, rfl, _, rfl, str_ne (by decide) ?_⟩
      refine ⟨_, rfl, _, _, _, _, rfl, rfl, SqT.of h1, atI_nat (j := 0) rfl, rfl, _, rfl, str_eq ?_⟩
      exact ⟨_, rfl, _, _, _, _, rfl, rfl, SqT.of h1, atI_nat (j := 1) rfl, x, s, rfl, hs, hv.1, by omega, _, _, rfl, rfl, k⟩
end
end K5
/-! K5, walks 16: the law's tree. -/
namespace K5
open PySem PySem.Spec PyProof.Rows L2
abbrev sLTree : Stmt := topS 55
def turnTab : List (List Int) := [[0, 1, 2], [1, 0, 2], [0, 2, 1], [2, 1, 0], [1, 2, 0], [2, 0, 1]]
theorem turn_ok : ∀ e ∈ turnTab, e.isPerm [0, 1, 2] = true := by decide +kernel
def spLTree (K : PySem.W.Frag) : Sp := fun vs H Q _ => ∃ (a : Addr) (ns : List Int), vs = [.ref a, .int 0] ∧ SqL K H a (ns.map V.int) ∧ b9 ns ∧ ns.length = 160 ∧
  ∀ (v : V) (H' : Hp) (t : T), Same H H' → TreeAt H' no t v → Val t → many t ≤ 12 → ord t ≤ 10 ^ 30 → Q v H'
abbrev nLTree : List Str := ["_law_numbers_here", "_law_at", "_law_tree_here", "_law_turns", "_law_k", "_law_leaf_here", "_law_deed", "_law_grown"]
theorem scLTree : FnScope nLTree ["_law_numbers_here", "_law_at"] (defScope sLTree) := ⟨rfl, rfl, rfl, by decide +kernel, rfl, by decide +kernel, by decide +kernel⟩
theorem ten60 : (10 : Int) ^ 60 = 1000000000000000000000000000000000000000000000000000000000000 := by decide
theorem ord_mul {x y : Int} (h0 : 1 ≤ x) (h1 : x ≤ 10 ^ 30) (h2 : 1 ≤ y) (h3 : y ≤ 1027243729) : x * y ≤ 10 ^ 60 ∧ y * x ≤ 10 ^ 60 := by
  have q : x * y ≤ 10 ^ 30 * 1027243729 := Int.mul_le_mul h1 h3 (by omega) (by decide)
  have e : (10 : Int) ^ 30 * 1027243729 ≤ 10 ^ 60 := by decide
  have c : y * x = x * y := Int.mul_comm y x
  omega
section
variable {P : Program} {w : World} {K : PySem.W.Frag} {mg : Str → Option Value} {base : Heap} {C : Addr}
theorem ok_ltree {f fl fc fm : Addr} {fd fdl fdc fdm : FuncData} (B : Bl mg) (F : Fun K "_law_tree" "_law_tree" sLTree f fd) (Dl : Df K mg "_law_leaf" sLLeaf ["_law_numbers_here", "_law_at"] fl fdl) (Gl : FnOk P w K mg base CX0 3 fl fdl ["_law_numbers_here", "_law_at"] (spLLeaf K))
    (Dc : Df K mg "_law_count" sCount ["_law_tree_here"] fc fdc) (Gc : FnOk P w K mg base CX0 15 fc fdc ["_law_tree_here"] (spCount 15)) (Dm : Df K mg "_law_many" sMany ["_law_tree_here"] fm fdm) (Gm : FnOk P w K mg base CX0 15 fm fdm ["_law_tree_here"] (spMany 15)) :
    FnOk P w K mg base CX0 16 f fd ["_law_numbers_here", "_law_at"] (spLTree K) := by
  refine F.ok scLTree (fun vs H Q E h => ?_) (fun cdv A outer s H vs Q E hr h => ?_)
  · obtain ⟨a, ns, rfl, _⟩ := h
    rfl
  obtain ⟨a, ns, rfl, ha, hb9, h160, k⟩ := h
  have hr3 := hr.mono (show 3 ≤ 15 by decide)
  refine ⟨_, pss_cons (ps_set (i := 2) scLTree.nd rfl (.inl rfl) (pe_call Gl hr3 rfl Dl.m Dl.kp Dl.b .nil pass0 (pa_cons (pv 0) (pa_cons (pv 1) pa_nil))))
    (pss_cons (ps_set (i := 3) scLTree.nd rfl (.inl rfl) (pe_tup (pa_cons (pe_tup (pa_cons pe_int (pa_cons pe_int (pa_cons pe_int pa_nil)))) (pa_cons (pe_tup (pa_cons pe_int (pa_cons pe_int (pa_cons pe_int pa_nil)))) (pa_cons (pe_tup (pa_cons pe_int (pa_cons pe_int (pa_cons pe_int pa_nil)))) (pa_cons (pe_tup (pa_cons pe_int (pa_cons pe_int (pa_cons pe_int pa_nil)))) (pa_cons (pe_tup (pa_cons pe_int (pa_cons pe_int (pa_cons pe_int pa_nil)))) (pa_cons (pe_tup (pa_cons pe_int (pa_cons pe_int (pa_cons pe_int pa_nil)))) pa_nil))))))))
    (pss_cons (ps_for PassesOwn.never rfl (pi_range1 rfl B.range (pa_cons (pe_op op_mod (pe_callTy call_int1 rfl B.int (by decide +kernel) (pa_cons (pe_ix ix_list (pv 0) (pe_op op_add (pv 1) pe_int) (fun _ _ => rfl)) pa_nil)) pe_int) pa_nil)) (pg_name (i := 4) scLTree.nd rfl (.inl rfl)) (pss_cons (ps_set (i := 5) scLTree.nd rfl (.inl rfl) (pe_call Gl hr3 rfl Dl.m Dl.kp Dl.b .nil pass0 (pa_cons (pv 0) (pa_cons (pe_op op_add (pe_op op_add (pv 1) pe_int) (pe_op op_mul pe_int (pv 4))) pa_nil))))
    (pss_cons (ps_set (i := 6) scLTree.nd rfl (.inl rfl) (pe_op op_mod (pe_callTy call_int1 rfl B.int (by decide +kernel) (pa_cons (pe_ix ix_list (pv 0) (pe_op op_add (pe_op op_add (pv 1) pe_int) (pv 4)) (fun _ _ => rfl)) pa_nil)) pe_int))
    (pss_cons (ps_set (i := 7) scLTree.nd rfl (.inl rfl) (pe_tup (pa_cons pe_str (pa_cons (pv 2) (pa_cons (pe_ix ix_tup (pv 3) (pe_op op_mod (pe_op op_fdiv (pe_callTy call_int1 rfl B.int (by decide +kernel) (pa_cons (pe_ix ix_list (pv 0) (pe_op op_add (pe_op op_add (pv 1) pe_int) (pv 4)) (fun _ _ => rfl)) pa_nil)) pe_int) pe_int) (fun _ _ => rfl)) pa_nil)))))
    (pss_cons (ps_if (pt_cmpR op_eq (pv 6) pe_int (nomark _)) (pss_one (ps_set (i := 7) scLTree.nd rfl (.inl rfl) (pe_tup (pa_cons pe_str (pa_cons (pv 2) (pa_cons (pv 5) pa_nil)))))) pss_nil)
    (pss_cons (ps_if (pt_cmpR op_eq (pv 6) pe_int (nomark _)) (pss_one (ps_set (i := 7) scLTree.nd rfl (.inl rfl) (pe_tup (pa_cons pe_str (pa_cons (pv 5) (pa_cons (pv 2) pa_nil)))))) pss_nil)
    (pss_cons (ps_if (pt_cmpR op_eq (pv 6) pe_int (nomark _)) (pss_one (ps_set (i := 7) scLTree.nd rfl (.inl rfl) (pe_tup (pa_cons pe_str (pa_cons (pe_tup (pa_cons pe_str (pa_cons (pv 5) (pa_cons (pe_ix ix_tup (pv 3) (pe_op op_mod (pe_op op_fdiv (pe_callTy call_int1 rfl B.int (by decide +kernel) (pa_cons (pe_ix ix_list (pv 0) (pe_op op_add (pe_op op_add (pv 1) pe_int) (pv 4)) (fun _ _ => rfl)) pa_nil)) pe_int) pe_int) (fun _ _ => rfl)) pa_nil)))) (pa_cons (pv 2) pa_nil)))))) pss_nil)
    (pss_one (ps_if (PW.pt (pw_and (pt_cmpR op_le (pe_call Gc hr rfl Dc.m Dc.kp Dc.b .nil pass0 (pa_cons (pv 7) pa_nil)) (pe_op op_pow pe_int pe_int) (nomark _)) (pw_and1 (pt_cmpR op_le (pe_call Gm hr rfl Dm.m Dm.kp Dm.b .nil pass0 (pa_cons (pv 7) pa_nil)) pe_int (nomark _))))) (pss_one (ps_set (i := 2) scLTree.nd rfl (.inl rfl) (pv 7))) pss_nil)))))))))
    (pss_one (ps_ret (pv 2))))), ?_⟩
  refine ⟨_, rfl, _, rfl, a, ns, 0, rfl, ha, hb9, by omega, by omega, by omega, fun v0 H0 t0_ sa ht0 hv0 hm0 ho0 => ?_⟩
  refine ⟨(by show 3 ≤ sizeLine; exact small (by decide)), fun p0 hp0 => ?_⟩
  have t0 := same_new hp0 (.tup [.int 0, .int 1, .int 2])
  have e0 : upd H0 p0 (.tup [.int 0, .int 1, .int 2]) p0 = some (.tup (([0, 1, 2] : List Int).map V.int)) := upd_same
  generalize upd H0 p0 (.tup [.int 0, .int 1, .int 2]) = G0 at t0 e0
  have s0 := t0
  refine ⟨(by show 3 ≤ sizeLine; exact small (by decide)), fun p1 hp1 => ?_⟩
  have t1 := same_new hp1 (.tup [.int 1, .int 0, .int 2])
  have e1 : upd G0 p1 (.tup [.int 1, .int 0, .int 2]) p1 = some (.tup (([1, 0, 2] : List Int).map V.int)) := upd_same
  generalize upd G0 p1 (.tup [.int 1, .int 0, .int 2]) = G1 at t1 e1
  have s1 := s0.trans t1
  refine ⟨(by show 3 ≤ sizeLine; exact small (by decide)), fun p2 hp2 => ?_⟩
  have t2 := same_new hp2 (.tup [.int 0, .int 2, .int 1])
  have e2 : upd G1 p2 (.tup [.int 0, .int 2, .int 1]) p2 = some (.tup (([0, 2, 1] : List Int).map V.int)) := upd_same
  generalize upd G1 p2 (.tup [.int 0, .int 2, .int 1]) = G2 at t2 e2
  have s2 := s1.trans t2
  refine ⟨(by show 3 ≤ sizeLine; exact small (by decide)), fun p3 hp3 => ?_⟩
  have t3 := same_new hp3 (.tup [.int 2, .int 1, .int 0])
  have e3 : upd G2 p3 (.tup [.int 2, .int 1, .int 0]) p3 = some (.tup (([2, 1, 0] : List Int).map V.int)) := upd_same
  generalize upd G2 p3 (.tup [.int 2, .int 1, .int 0]) = G3 at t3 e3
  have s3 := s2.trans t3
  refine ⟨(by show 3 ≤ sizeLine; exact small (by decide)), fun p4 hp4 => ?_⟩
  have t4 := same_new hp4 (.tup [.int 1, .int 2, .int 0])
  have e4 : upd G3 p4 (.tup [.int 1, .int 2, .int 0]) p4 = some (.tup (([1, 2, 0] : List Int).map V.int)) := upd_same
  generalize upd G3 p4 (.tup [.int 1, .int 2, .int 0]) = G4 at t4 e4
  have s4 := s3.trans t4
  refine ⟨(by show 3 ≤ sizeLine; exact small (by decide)), fun p5 hp5 => ?_⟩
  have t5 := same_new hp5 (.tup [.int 2, .int 0, .int 1])
  have e5 : upd G4 p5 (.tup [.int 2, .int 0, .int 1]) p5 = some (.tup (([2, 0, 1] : List Int).map V.int)) := upd_same
  generalize upd G4 p5 (.tup [.int 2, .int 0, .int 1]) = G5 at t5 e5
  have s5 := s4.trans t5
  refine ⟨(by show 6 ≤ sizeLine; exact small (by decide)), fun pl hpl => ?_⟩
  have t6 := same_new hpl (.tup [V.ref p0, V.ref p1, V.ref p2, V.ref p3, V.ref p4, V.ref p5])
  have e6 : upd G5 pl (.tup [V.ref p0, V.ref p1, V.ref p2, V.ref p3, V.ref p4, V.ref p5]) pl = some (.tup [V.ref p0, V.ref p1, V.ref p2, V.ref p3, V.ref p4, V.ref p5]) := upd_same
  generalize upd G5 pl (.tup [V.ref p0, V.ref p1, V.ref p2, V.ref p3, V.ref p4, V.ref p5]) = G6 at t6 e6
  have s6 := s5.trans t6
  have key0 : ∀ j : Nat, j < 6 → ∃ (pa : Addr) (e : List Int), ([V.ref p0, V.ref p1, V.ref p2, V.ref p3, V.ref p4, V.ref p5] : List V)[j]? = some (.ref pa) ∧ e ∈ turnTab ∧ G6 pa = some (.tup (e.map V.int)) := fun j hj => by
    have hc : j = 0 ∨ j = 1 ∨ j = 2 ∨ j = 3 ∨ j = 4 ∨ j = 5 := by omega
    rcases hc with q | q | q | q | q | q
    · subst q; exact ⟨p0, [0, 1, 2], rfl, by decide, t6 _ _ (t5 _ _ (t4 _ _ (t3 _ _ (t2 _ _ (t1 _ _ (e0))))))⟩
    · subst q; exact ⟨p1, [1, 0, 2], rfl, by decide, t6 _ _ (t5 _ _ (t4 _ _ (t3 _ _ (t2 _ _ (e1)))))⟩
    · subst q; exact ⟨p2, [0, 2, 1], rfl, by decide, t6 _ _ (t5 _ _ (t4 _ _ (t3 _ _ (e2))))⟩
    · subst q; exact ⟨p3, [2, 1, 0], rfl, by decide, t6 _ _ (t5 _ _ (t4 _ _ (e3)))⟩
    · subst q; exact ⟨p4, [1, 2, 0], rfl, by decide, t6 _ _ (t5 _ _ (e4))⟩
    · subst q; exact ⟨p5, [2, 0, 1], rfl, by decide, t6 _ _ (e5)⟩
  have key : ∀ x : Int, ∃ (pa : Addr) (e : List Int), atI [V.ref p0, V.ref p1, V.ref p2, V.ref p3, V.ref p4, V.ref p5] (x % 6) = some (.ref pa) ∧ e ∈ turnTab ∧ G6 pa = some (.tup (e.map V.int)) := fun x => by
    have hj : ∃ j : Nat, x % 6 = ((j : Nat) : Int) ∧ j < 6 := ⟨(x % 6).toNat, by omega, by omega⟩
    obtain ⟨j, ej, hj⟩ := hj
    obtain ⟨pa, e, q1, q2, q3⟩ := key0 j hj
    exact ⟨pa, e, by rw [ej]; exact atI_nat q1, q2, q3⟩
  have ha6 := sq_keep (sa.trans s6) ha
  refine ⟨_, rfl, _, rfl, _, _, rfl, rfl, a, _, _, _, rfl, rfl, ha6, gn_at (by omega) (by omega), .inl ⟨_, rfl, _, _, rfl, rfl, (by show (0 : Int) < 5; decide), ?_⟩⟩
  have c0 : 0 ≤ gn ns (0 + 20) % 5 := Int.emod_nonneg _ (by decide)
  have c5 : gn ns (0 + 20) % 5 < 5 := Int.emod_lt_of_pos _ (by decide)
  refine ⟨gn ns (0 + 20) % 5, rfl, by omega, by omega, ?_⟩
  generalize gn ns (0 + 20) % 5 = cc at c0 c5
  refine for_range (lo := 0) (n := cc.toNat) (fun i σ H' => ∃ (v : V) (t : T) (u4 u5 u6 u7 : Option V), σ = [some (.ref a), some (.int 0), some v, some (.ref pl), u4, u5, u6, u7] ∧ Same G6 H' ∧ TreeAt H' no t v ∧ Val t ∧ many t ≤ 12 ∧ ord t ≤ 10 ^ 30)
    ⟨v0, t0_, none, none, none, none, rfl, Same.refl _, ht0.same s6, hv0, by omega, by rw [ten30]; omega⟩ ?_ ?_
  · rintro i σ H1 hi ⟨v, t, u4, u5, u6, u7, rfl, s1, ht, hv, hm, ho⟩
    have ha1 := sq_keep s1 ha6
    refine ⟨_, rfl, _, rfl, _, _, rfl, rfl, _, rfl, _, _, rfl, rfl, .inl ⟨by decide, by decide⟩, _, _, rfl, rfl, a, ns, 0 + 26 + 20 * (0 + ((i : Nat) : Int)), rfl, ha1, hb9, by omega, by omega, by omega, fun vl H2 lf s2 htl hvl hml hol => ?_⟩
    have ha2 := sq_keep s2 ha1
    have hmul := ord_mul (ord_pos t hv) ho (ord_pos lf hvl) hol
    refine ⟨_, rfl, _, rfl, _, _, rfl, rfl, _, rfl, _, _, rfl, rfl, a, _, _, _, rfl, rfl, ha2, gn_at (by omega) (by omega), .inl ⟨_, rfl, _, _, rfl, rfl, (by show (0 : Int) < 4; decide), ?_⟩⟩
    have hz0 : 0 ≤ gn ns (0 + 21 + (0 + ((i : Nat) : Int))) % 4 := Int.emod_nonneg _ (by decide)
    have hz4 : gn ns (0 + 21 + (0 + ((i : Nat) : Int))) % 4 < 4 := Int.emod_lt_of_pos _ (by decide)
    show tSeq _ _ _ [some (.ref a), some (.int 0), some v, some (.ref pl), some (.int (0 + ((i : Nat) : Int))), some vl, some (.int (gn ns (0 + 21 + (0 + ((i : Nat) : Int))) % 4)), u7] H2
    obtain ⟨pa, pe, q1, q2, q3⟩ := key (gn ns (0 + 21 + (0 + ((i : Nat) : Int))) / 4)
    generalize gn ns (0 + 21 + (0 + ((i : Nat) : Int))) % 4 = dd at hz0 hz4
    have hc : dd = 0 ∨ dd = 1 ∨ dd = 2 ∨ dd = 3 := by omega
    rcases hc with q | q | q | q <;> subst q
    · refine ⟨_, rfl, _, rfl, _, rfl, _, rfl, _, _, rfl, rfl, _, rfl, _, _, rfl, rfl, a, _, _, _, rfl, rfl, ha2, gn_at (by omega) (by omega), .inl ⟨_, rfl, _, _, rfl, rfl, ⟨by decide, by decide⟩, _, _, rfl, rfl, (by show (0 : Int) < 6; decide), pl, _, _, _, rfl, rfl, SqT.of (s2 _ _ (s1 _ _ e6)), q1, (by show 3 ≤ sizeLine; exact small (by decide)), fun g hg => ?_⟩⟩
      have u1 := same_new hg (.tup [.str (Str.ofString "turned"), v, .ref pa])
      have eg : upd H2 g (.tup [.str (Str.ofString "turned"), v, .ref pa]) g = some (.tup [.str (Str.ofString "turned"), v, .ref pa]) := upd_same
      generalize upd H2 g (.tup [.str (Str.ofString "turned"), v, .ref pa]) = H3 at u1 eg
      refine ⟨_, rfl, rfl, _, rfl, ifF rfl ?_⟩
      refine ⟨_, rfl, rfl, _, rfl, ifF rfl ?_⟩
      refine ⟨_, rfl, rfl, _, rfl, ifF rfl ?_⟩
      have htg : TreeAt H3 no (.turned t pe) (.ref g) := ⟨g, v, pa, rfl, eg, (ht.same s2).same u1, u1 _ _ (s2 _ _ (s1 _ _ q3))⟩
      have hvg : Val (.turned t pe) := ⟨hv, turn_ok _ q2⟩
      have hmg : many (.turned t pe) ≤ 15 := by show 1 + many t ≤ 15; omega
      have hog : ord (.turned t pe) ≤ 10 ^ 60 := by show ord t ≤ 10 ^ 60; have := ho; rw [ten30] at this; rw [ten60]; omega
      have ht5 : TreeAt H3 no t v := (ht.same s2).same u1
      have sm5 : Same G6 (H3) := s1.trans (s2.trans u1)
      refine ⟨_, rfl, .ref g, .turned t pe, rfl, htg, hvg, Nat.le_trans (hg_many _) hmg, hog, _, _, rfl, rfl, ⟨by decide, by decide, by decide⟩, _, _, rfl, rfl, _, rfl, ite2 (fun z1 => ?_) (fun z1 => ?_)⟩
      · refine ⟨_, rfl, .ref g, .turned t pe, rfl, htg, hvg, Nat.le_trans (hg_many _) hmg, _, _, rfl, rfl, _, rfl, ite2 (fun z2 => ?_) (fun z2 => ?_)⟩
        · have z2' := of_decide_eq_true z2
          exact ⟨_, rfl, _, _, _, _, _, _, rfl, sm5, htg, hvg, by omega, of_decide_eq_true z1⟩
        · exact ⟨_, _, _, _, _, _, rfl, sm5, ht5, hv, hm, ho⟩
      · exact ifF rfl ⟨_, _, _, _, _, _, rfl, sm5, ht5, hv, hm, ho⟩
    · refine ⟨_, rfl, _, rfl, _, rfl, _, rfl, _, _, rfl, rfl, _, rfl, _, _, rfl, rfl, a, _, _, _, rfl, rfl, ha2, gn_at (by omega) (by omega), .inl ⟨_, rfl, _, _, rfl, rfl, ⟨by decide, by decide⟩, _, _, rfl, rfl, (by show (0 : Int) < 6; decide), pl, _, _, _, rfl, rfl, SqT.of (s2 _ _ (s1 _ _ e6)), q1, (by show 3 ≤ sizeLine; exact small (by decide)), fun g hg => ?_⟩⟩
      have u1 := same_new hg (.tup [.str (Str.ofString "turned"), v, .ref pa])
      have eg : upd H2 g (.tup [.str (Str.ofString "turned"), v, .ref pa]) g = some (.tup [.str (Str.ofString "turned"), v, .ref pa]) := upd_same
      generalize upd H2 g (.tup [.str (Str.ofString "turned"), v, .ref pa]) = H3 at u1 eg
      refine ⟨_, rfl, rfl, _, rfl, ifT rfl ?_⟩
      refine ⟨_, rfl, _, rfl, (by show 3 ≤ sizeLine; exact small (by decide)), fun w1 hw1 => ?_⟩
      have uw1 := same_new hw1 (.tup [.str (Str.ofString "product"), v, vl])
      have ew1 : upd H3 w1 (.tup [.str (Str.ofString "product"), v, vl]) w1 = some (.tup [.str (Str.ofString "product"), v, vl]) := upd_same
      generalize upd H3 w1 (.tup [.str (Str.ofString "product"), v, vl]) = Hw1 at uw1 ew1
      refine ⟨_, rfl, rfl, _, rfl, ifF rfl ?_⟩
      refine ⟨_, rfl, rfl, _, rfl, ifF rfl ?_⟩
      have htg : TreeAt Hw1 no (.product t lf) (.ref w1) := ⟨w1, v, vl, rfl, ew1, ((ht.same s2).same u1).same uw1, (htl.same u1).same uw1⟩
      have hvg : Val (.product t lf) := ⟨hv, hvl⟩
      have hmg : many (.product t lf) ≤ 15 := by show 1 + many t + many lf ≤ 15; omega
      have hog : ord (.product t lf) ≤ 10 ^ 60 := hmul.1
      have ht5 : TreeAt Hw1 no t v := ((ht.same s2).same u1).same uw1
      have sm5 : Same G6 (Hw1) := s1.trans (s2.trans (u1.trans uw1))
      refine ⟨_, rfl, .ref w1, .product t lf, rfl, htg, hvg, Nat.le_trans (hg_many _) hmg, hog, _, _, rfl, rfl, ⟨by decide, by decide, by decide⟩, _, _, rfl, rfl, _, rfl, ite2 (fun z1 => ?_) (fun z1 => ?_)⟩
      · refine ⟨_, rfl, .ref w1, .product t lf, rfl, htg, hvg, Nat.le_trans (hg_many _) hmg, _, _, rfl, rfl, _, rfl, ite2 (fun z2 => ?_) (fun z2 => ?_)⟩
        · have z2' := of_decide_eq_true z2
          exact ⟨_, rfl, _, _, _, _, _, _, rfl, sm5, htg, hvg, by omega, of_decide_eq_true z1⟩
        · exact ⟨_, _, _, _, _, _, rfl, sm5, ht5, hv, hm, ho⟩
      · exact ifF rfl ⟨_, _, _, _, _, _, rfl, sm5, ht5, hv, hm, ho⟩
    · refine ⟨_, rfl, _, rfl, _, rfl, _, rfl, _, _, rfl, rfl, _, rfl, _, _, rfl, rfl, a, _, _, _, rfl, rfl, ha2, gn_at (by omega) (by omega), .inl ⟨_, rfl, _, _, rfl, rfl, ⟨by decide, by decide⟩, _, _, rfl, rfl, (by show (0 : Int) < 6; decide), pl, _, _, _, rfl, rfl, SqT.of (s2 _ _ (s1 _ _ e6)), q1, (by show 3 ≤ sizeLine; exact small (by decide)), fun g hg => ?_⟩⟩
      have u1 := same_new hg (.tup [.str (Str.ofString "turned"), v, .ref pa])
      have eg : upd H2 g (.tup [.str (Str.ofString "turned"), v, .ref pa]) g = some (.tup [.str (Str.ofString "turned"), v, .ref pa]) := upd_same
      generalize upd H2 g (.tup [.str (Str.ofString "turned"), v, .ref pa]) = H3 at u1 eg
      refine ⟨_, rfl, rfl, _, rfl, ifF rfl ?_⟩
      refine ⟨_, rfl, rfl, _, rfl, ifT rfl ?_⟩
      refine ⟨_, rfl, _, rfl, (by show 3 ≤ sizeLine; exact small (by decide)), fun w1 hw1 => ?_⟩
      have uw1 := same_new hw1 (.tup [.str (Str.ofString "product"), vl, v])
      have ew1 : upd H3 w1 (.tup [.str (Str.ofString "product"), vl, v]) w1 = some (.tup [.str (Str.ofString "product"), vl, v]) := upd_same
      generalize upd H3 w1 (.tup [.str (Str.ofString "product"), vl, v]) = Hw1 at uw1 ew1
      refine ⟨_, rfl, rfl, _, rfl, ifF rfl ?_⟩
      have htg : TreeAt Hw1 no (.product lf t) (.ref w1) := ⟨w1, vl, v, rfl, ew1, (htl.same u1).same uw1, ((ht.same s2).same u1).same uw1⟩
      have hvg : Val (.product lf t) := ⟨hvl, hv⟩
      have hmg : many (.product lf t) ≤ 15 := by show 1 + many lf + many t ≤ 15; omega
      have hog : ord (.product lf t) ≤ 10 ^ 60 := hmul.2
      have ht5 : TreeAt Hw1 no t v := ((ht.same s2).same u1).same uw1
      have sm5 : Same G6 (Hw1) := s1.trans (s2.trans (u1.trans uw1))
      refine ⟨_, rfl, .ref w1, .product lf t, rfl, htg, hvg, Nat.le_trans (hg_many _) hmg, hog, _, _, rfl, rfl, ⟨by decide, by decide, by decide⟩, _, _, rfl, rfl, _, rfl, ite2 (fun z1 => ?_) (fun z1 => ?_)⟩
      · refine ⟨_, rfl, .ref w1, .product lf t, rfl, htg, hvg, Nat.le_trans (hg_many _) hmg, _, _, rfl, rfl, _, rfl, ite2 (fun z2 => ?_) (fun z2 => ?_)⟩
        · have z2' := of_decide_eq_true z2
          exact ⟨_, rfl, _, _, _, _, _, _, rfl, sm5, htg, hvg, by omega, of_decide_eq_true z1⟩
        · exact ⟨_, _, _, _, _, _, rfl, sm5, ht5, hv, hm, ho⟩
      · exact ifF rfl ⟨_, _, _, _, _, _, rfl, sm5, ht5, hv, hm, ho⟩
    · refine ⟨_, rfl, _, rfl, _, rfl, _, rfl, _, _, rfl, rfl, _, rfl, _, _, rfl, rfl, a, _, _, _, rfl, rfl, ha2, gn_at (by omega) (by omega), .inl ⟨_, rfl, _, _, rfl, rfl, ⟨by decide, by decide⟩, _, _, rfl, rfl, (by show (0 : Int) < 6; decide), pl, _, _, _, rfl, rfl, SqT.of (s2 _ _ (s1 _ _ e6)), q1, (by show 3 ≤ sizeLine; exact small (by decide)), fun g hg => ?_⟩⟩
      have u1 := same_new hg (.tup [.str (Str.ofString "turned"), v, .ref pa])
      have eg : upd H2 g (.tup [.str (Str.ofString "turned"), v, .ref pa]) g = some (.tup [.str (Str.ofString "turned"), v, .ref pa]) := upd_same
      generalize upd H2 g (.tup [.str (Str.ofString "turned"), v, .ref pa]) = H3 at u1 eg
      refine ⟨_, rfl, rfl, _, rfl, ifF rfl ?_⟩
      refine ⟨_, rfl, rfl, _, rfl, ifF rfl ?_⟩
      refine ⟨_, rfl, rfl, _, rfl, ifT rfl ?_⟩
      have ha3 := sq_keep u1 ha2
      refine ⟨_, rfl, _, rfl, _, rfl, _, rfl, _, _, rfl, rfl, _, rfl, _, _, rfl, rfl, a, _, _, _, rfl, rfl, ha3, gn_at (by omega) (by omega), .inl ⟨_, rfl, _, _, rfl, rfl, ⟨by decide, by decide⟩, _, _, rfl, rfl, (by show (0 : Int) < 6; decide), pl, _, _, _, rfl, rfl, SqT.of (u1 _ _ (s2 _ _ (s1 _ _ e6))), q1, (by show 3 ≤ sizeLine; exact small (by decide)), fun w2 hw2 => ?_⟩⟩
      have uw2 := same_new hw2 (.tup [.str (Str.ofString "turned"), vl, .ref pa])
      have ew2 : upd H3 w2 (.tup [.str (Str.ofString "turned"), vl, .ref pa]) w2 = some (.tup [.str (Str.ofString "turned"), vl, .ref pa]) := upd_same
      generalize upd H3 w2 (.tup [.str (Str.ofString "turned"), vl, .ref pa]) = Hw2 at uw2 ew2
      refine ⟨_, rfl, (by show 3 ≤ sizeLine; exact small (by decide)), fun w1 hw1 => ?_⟩
      have uw1 := same_new hw1 (.tup [.str (Str.ofString "product"), .ref w2, v])
      have ew1 : upd Hw2 w1 (.tup [.str (Str.ofString "product"), .ref w2, v]) w1 = some (.tup [.str (Str.ofString "product"), .ref w2, v]) := upd_same
      generalize upd Hw2 w1 (.tup [.str (Str.ofString "product"), .ref w2, v]) = Hw1 at uw1 ew1
      have htg : TreeAt Hw1 no (.product (.turned lf pe) t) (.ref w1) := ⟨w1, .ref w2, v, rfl, ew1, ⟨w2, vl, pa, rfl, uw1 _ _ ew2, ((htl.same u1).same uw2).same uw1, uw1 _ _ (uw2 _ _ (u1 _ _ (s2 _ _ (s1 _ _ q3))))⟩, (((ht.same s2).same u1).same uw2).same uw1⟩
      have hvg : Val (.product (.turned lf pe) t) := ⟨⟨hvl, turn_ok _ q2⟩, hv⟩
      have hmg : many (.product (.turned lf pe) t) ≤ 15 := by show 1 + (1 + many lf) + many t ≤ 15; omega
      have hog : ord (.product (.turned lf pe) t) ≤ 10 ^ 60 := hmul.2
      have ht5 : TreeAt Hw1 no t v := (((ht.same s2).same u1).same uw2).same uw1
      have sm5 : Same G6 (Hw1) := s1.trans (s2.trans (u1.trans (uw2.trans uw1)))
      refine ⟨_, rfl, .ref w1, .product (.turned lf pe) t, rfl, htg, hvg, Nat.le_trans (hg_many _) hmg, hog, _, _, rfl, rfl, ⟨by decide, by decide, by decide⟩, _, _, rfl, rfl, _, rfl, ite2 (fun z1 => ?_) (fun z1 => ?_)⟩
      · refine ⟨_, rfl, .ref w1, .product (.turned lf pe) t, rfl, htg, hvg, Nat.le_trans (hg_many _) hmg, _, _, rfl, rfl, _, rfl, ite2 (fun z2 => ?_) (fun z2 => ?_)⟩
        · have z2' := of_decide_eq_true z2
          exact ⟨_, rfl, _, _, _, _, _, _, rfl, sm5, htg, hvg, by omega, of_decide_eq_true z1⟩
        · exact ⟨_, _, _, _, _, _, rfl, sm5, ht5, hv, hm, ho⟩
      · exact ifF rfl ⟨_, _, _, _, _, _, rfl, sm5, ht5, hv, hm, ho⟩
  · rintro σ H1 ⟨v, t, u4, u5, u6, u7, rfl, s1, ht, hv, hm, ho⟩
    exact ⟨_, rfl, k v H1 t (sa.trans (s6.trans s1)) ht hv hm ho⟩
end
end K5
/-! K5, walks 17: the law's lines. -/
namespace K5
open PySem PySem.Spec PyProof.Rows L2
abbrev sLLines : Stmt := topS 56
def rJoinK (K : PySem.W.Frag) : V → List V → Hp → VK → Prop := fun x xs H Q => ∃ a p, ∃ ys : List Str, x = .str a ∧ xs = [.ref p] ∧ (SqL K H p (ys.map V.str) ∨ SqT K H p (ys.map V.str)) ∧ (ys.map (·.length)).sum + ys.length * a.length ≤ 16777216 ∧ Q (.str (Txt.join a ys)) H
theorem pe_joinK {X : Cx} {o e : Expr} {to te : TE} {apos pos : Pos} (ho : PE X o to) (he : PE X e te) (hs : starEach [e] X.env = [(false, eval e X.env)] := by rfl) (hbase : attributeBase o "join" X.env (eval o X.env) = eval o X.env := by rfl) (hline : (apos.endLine == pos.line) = true := by rfl) :
    PE X (.Call (.Attribute o "join" apos) [e] [] pos) (tM1 (rJoinK X.K) to te) := pe_join ho he hs hbase hline
def rAddS : R2 := fun x y H Q => ∃ i j, x = .str i ∧ y = .str j ∧ i.length + j.length ≤ sizeLine ∧ Q (.str (i ++ j)) H
theorem op_addS {X : Cx} : OpR X (binaryOp .Add) rAddS := op_add_str
theorem jn {w : Str} {l : List Str} (h : l ≠ []) : w ++ sp1 ++ Str.join sp1 l = ln (w :: l) := by
  cases l with
  | nil => exact absurd rfl h
  | cons x r => rfl
theorem num_join_len {l : List Int} (h : ∀ x ∈ l, nice x) (hl : l.length ≤ 12) : (Str.join sp1 (l.map num)).length ≤ 384 := Nat.le_trans (join_len1 (by decide) _) (szL_nums h hl)
theorem w_turned : Str.ofString "turned " = ws "turned" ++ sp1 := by decide
theorem w_listed : Str.ofString "listed " = ws "listed" ++ sp1 := by decide
theorem w_row : Str.ofString "row " = ws "row" ++ sp1 := by decide
theorem rd_join1 {K : PySem.W.Frag} {x0 x1 x2 x3 : Option V} {H : Hp} {Q : VK} {ns : List Int} {tl : TE} (hl : ∀ R : VK, (∀ a H1, Same H H1 → H1 a = some (.tup (ns.map V.int)) → R (.ref a) H1) → tl [x0, x1, x2, x3] H R) (hn : ∀ x ∈ ns, nice x) (h12 : ns.length ≤ 12)
    (k : ∀ H', Same H H' → Q (.str (Str.join sp1 (ns.map num))) H') : tM1 (rJoinK K) (tC (.str sp1)) (tLc (iTup K tl) (gName 1) tYes (tCB rStrI (tCons (tVar 1) tNil)) [1]) [x0, x1, x2, x3] H Q := by
  refine ⟨⟨_, rfl⟩, hl _ fun a H1 s1 ha => ⟨a, rfl, ⟨_, SqT.of ha⟩, fun D hD => lc_tup (xs := ns.map V.int) (fun j H4 => H4 = upd H1 D (.lst ((ns.take j).map fun i => .str (num i)))) rfl ?_ ?_ ?_⟩⟩
  · rintro j H4 _ rfl
    exact SqT.of (same_new hD _ _ _ ha)
  · rintro j y H4 hx rfl
    obtain ⟨i, hi, rfl⟩ := map_at hx
    refine ⟨rfl, ?_⟩
    refine ⟨_, rfl, i, rfl, nice_log (hn i (List.mem_of_getElem? hi)), _, upd_same, ?_, ?_⟩
    · rw [List.length_map, List.length_take]
      exact small1000 (by omega)
    · rw [upd_upd, take_snoc hi, List.map_append]
      rfl
  · rintro H4 rfl
    rw [List.length_map, List.take_length]
    refine ⟨sp1, D, ns.map num, rfl, rfl, .inl (SqL.of ?_), ?_, ?_⟩
    · rw [upd_same, List.map_map]
      rfl
    · have e : (sp1 : Str).length = 1 := by decide
      have := szL_nums hn h12
      rw [e, Nat.mul_one, szL_len]
      omega
    · rw [TL.join_eq]
      exact k _ (s1.trans (same_new hD _))
theorem rd_join2 {K : PySem.W.Frag} {x0 x1 x2 x3 : Option V} {H : Hp} {Q : VK} {ns : List Int} {tl : TE} (hl : ∀ R : VK, (∀ a H1, Same H H1 → H1 a = some (.tup (ns.map V.int)) → R (.ref a) H1) → tl [x0, x1, x2, x3] H R) (hn : ∀ x ∈ ns, nice x) (h12 : ns.length ≤ 12)
    (k : ∀ H', Same H H' → Q (.str (Str.join sp1 (ns.map num))) H') : tM1 (rJoinK K) (tC (.str sp1)) (tLc (iTup K tl) (gName 2) tYes (tCB rStrI (tCons (tVar 2) tNil)) [2]) [x0, x1, x2, x3] H Q := by
  refine ⟨⟨_, rfl⟩, hl _ fun a H1 s1 ha => ⟨a, rfl, ⟨_, SqT.of ha⟩, fun D hD => lc_tup (xs := ns.map V.int) (fun j H4 => H4 = upd H1 D (.lst ((ns.take j).map fun i => .str (num i)))) rfl ?_ ?_ ?_⟩⟩
  · rintro j H4 _ rfl
    exact SqT.of (same_new hD _ _ _ ha)
  · rintro j y H4 hx rfl
    obtain ⟨i, hi, rfl⟩ := map_at hx
    refine ⟨rfl, ?_⟩
    refine ⟨_, rfl, i, rfl, nice_log (hn i (List.mem_of_getElem? hi)), _, upd_same, ?_, ?_⟩
    · rw [List.length_map, List.length_take]
      exact small1000 (by omega)
    · rw [upd_upd, take_snoc hi, List.map_append]
      rfl
  · rintro H4 rfl
    rw [List.length_map, List.take_length]
    refine ⟨sp1, D, ns.map num, rfl, rfl, .inl (SqL.of ?_), ?_, ?_⟩
    · rw [upd_same, List.map_map]
      rfl
    · have e : (sp1 : Str).length = 1 := by decide
      have := szL_nums hn h12
      rw [e, Nat.mul_one, szL_len]
      omega
    · rw [TL.join_eq]
      exact k _ (s1.trans (same_new hD _))
abbrev nLLines : List Str := ["_law_tree_here", "_law_place", "_law_part", "_law_row_here"]
theorem scLLines : FnScope nLLines ["_law_tree_here"] (defScope sLLines) := ⟨rfl, rfl, rfl, by decide +kernel, rfl, by decide +kernel, by decide +kernel⟩
abbrev scJ1 : Scope := ⟨.function, [(".0", .local), ("_law_row_here", .local)], false, false, []⟩
section
variable {P : Program} {w : World} {K : PySem.W.Frag} {mg : Str → Option Value} {base : Heap} {C : Addr}
theorem ok_llines {f : Addr} {fd : FuncData} (B : Bl mg) (D : Df K mg "_law_lines" sLLines ["_law_tree_here"] f fd) : ∀ n, FnOk P w K mg base CX0 n f fd ["_law_tree_here"] (spLines n)
  | 0 => none_left fun vs H Q E ⟨v, t, _, _, _, h, _⟩ => by have := hg_pos t; omega
  | n + 1 => by
    have GP := ok_llines B D n
    refine D.F.ok scLLines (fun vs H Q E h => ?_) (fun cdv A outer s H vs Q E hr h => ?_)
    · obtain ⟨v, t, rfl, _⟩ := h
      rfl
    obtain ⟨v, t, rfl, ht, hnn, hhg, hmany, k⟩ := h
    refine ⟨_, pss_cons (ps_if (pt_cmpR op_eq (pe_ix ix_tup (pv 0) pe_int (fun _ _ => rfl)) pe_str (nomark _)) (pss_one (ps_ret (pe_op op_cat (pe_op op_cat (pe_lst (pa_cons pe_str pa_nil)) (pe_call GP hr rfl D.m D.kp D.b .nil pass0 (pa_cons (pe_ix ix_tup (pv 0) pe_int (fun _ _ => rfl)) pa_nil))) (pe_call GP hr rfl D.m D.kp D.b .nil pass0 (pa_cons (pe_ix ix_tup (pv 0) pe_int (fun _ _ => rfl)) pa_nil))))) pss_nil)
    (pss_cons (ps_if (pt_cmpR op_eq (pe_ix ix_tup (pv 0) pe_int (fun _ _ => rfl)) pe_str (nomark _)) (pss_one (ps_ret (pe_op op_cat (pe_lst (pa_cons (pe_op op_addS pe_str (pe_joinK pe_str (pe_lc (own := [("_law_place", 1)]) (g := gName 1) (tt := tYes) (te := (tCB rStrI (tCons (tVar 1) tNil))) rfl scLLines.nd (pi_tup (pe_ix ix_tup (pv 0) pe_int (fun _ _ => rfl))) (blkOk_by (N := nLLines) (sc := defScope sLLines) (by decide +kernel)) (fun _ _ _ _ _ => pg_name (i := 1) scLLines.nd rfl (Or.inl rfl)) (fun _ _ _ _ _ => pts_nil) (fun _ _ _ _ _ => (pe_callTy (T := "str") cr_strI rfl B.str (by decide +kernel) (pa_cons (pv 1) pa_nil)))))) pa_nil)) (pe_call GP hr rfl D.m D.kp D.b .nil pass0 (pa_cons (pe_ix ix_tup (pv 0) pe_int (fun _ _ => rfl)) pa_nil))))) pss_nil)
    (pss_cons (ps_if (pt_cmpR op_eq (pe_ix ix_tup (pv 0) pe_int (fun _ _ => rfl)) pe_str (nomark _)) (pss_one (ps_ret (pe_op op_cat (pe_lst (pa_cons (pe_op op_addS pe_str (pe_callTy (T := "str") cr_strI rfl B.str (by decide +kernel) (pa_cons (pe_callB call_len_seq rfl B.len PySem.boot_len (pa_cons (pe_ix ix_tup (pv 0) pe_int (fun _ _ => rfl)) pa_nil)) pa_nil))) pa_nil)) (pe_lc (own := [("_law_row_here", 3)]) (g := gName 3) (tt := tYes) (te := (tOp rAddS (tC (.str (Str.ofString "row "))) (tM1 (rJoinK K) (tC (.str (Str.ofString " "))) (tLc (iTup K (tVar 3)) (gName 2) tYes (tCB rStrI (tCons (tVar 2) tNil)) [2])))) rfl scLLines.nd (pi_tup (pe_ix ix_tup (pv 0) pe_int (fun _ _ => rfl))) (blkOk_by (N := nLLines) (sc := defScope sLLines) (by decide +kernel)) (fun _ _ _ _ _ => pg_name (i := 3) scLLines.nd rfl (Or.inl rfl)) (fun _ _ _ _ _ => pts_nil) (fun _ _ _ _ _ => (pe_op op_addS pe_str (pe_joinK pe_str (pe_lc (own := [("_law_part", 2)]) (g := gName 2) (tt := tYes) (te := (tCB rStrI (tCons (tVar 2) tNil))) rfl scLLines.nd (pi_tup (pv 3)) (blkOk_by (N := nLLines) (sc := scJ1) (by decide +kernel)) (fun _ _ _ _ _ => pg_name (i := 2) scLLines.nd rfl (Or.inl rfl)) (fun _ _ _ _ _ => pts_nil) (fun _ _ _ _ _ => (pe_callTy (T := "str") cr_strI rfl B.str (by decide +kernel) (pa_cons (pv 2) pa_nil))))))))))) pss_nil)
    (pss_one (ps_ret (pe_lst (pa_cons (pe_op op_addS (pe_op op_addS (pe_ix ix_tup (pv 0) pe_int (fun _ _ => rfl)) pe_str) (pe_joinK pe_str (pe_lc (own := [("_law_part", 2)]) (g := gName 2) (tt := tYes) (te := (tCB rStrI (tCons (tVar 2) tNil))) rfl scLLines.nd (pi_tup (pe_slice sl_tup (pv 0) (po_some pe_int) po_none)) (blkOk_by (N := nLLines) (sc := defScope sLLines) (by decide +kernel)) (fun _ _ _ _ _ => pg_name (i := 2) scLLines.nd rfl (Or.inl rfl)) (fun _ _ _ _ _ => pts_nil) (fun _ _ _ _ _ => (pe_callTy (T := "str") cr_strI rfl B.str (by decide +kernel) (pa_cons (pv 2) pa_nil)))))) pa_nil)))))), ?_⟩
    cases t with
    | bad s => exact hnn.elim
    | product s t =>
      obtain ⟨a, x, y, rfl, h1, hs, ht2⟩ := ht
      have hmm : many (.product s t) = 1 + many s + many t := rfl
      have hhh : hg (.product s t) = 1 + max (hg s) (hg t) := rfl
      refine ⟨_, rfl, _, _, _, _, rfl, rfl, SqT.of h1, atI_nat (j := 0) rfl, rfl, _, rfl, str_eq ?_⟩
      refine ⟨(by show 1 ≤ sizeLine; exact small (by decide)), fun p hp => ?_⟩
      have s1 := same_new hp (.lst [.str (Str.ofString "product")])
      have e1 : upd H p (.lst [.str (Str.ofString "product")]) p = some (.lst [.str (Str.ofString "product")]) := upd_same
      generalize upd H p (.lst [.str (Str.ofString "product")]) = H1 at s1 e1
      refine ⟨_, rfl, _, _, _, _, rfl, rfl, SqT.of (s1 _ _ h1), atI_nat (j := 1) rfl, x, s, rfl, hs.same s1, hnn.1, by omega, by omega, fun p2 H2 s2 e2 => ?_⟩
      have l1 := len_ok hnn.1 (by omega)
      have l2 := len_ok hnn.2 (by omega)
      refine ⟨p, p2, _, _, rfl, rfl, s2 _ _ e1, e2, ?_, fun p3 hp3 => ?_⟩
      · rw [List.length_map, List.length_singleton]
        exact small7 (by omega)
      have s3 := same_new hp3 (.lst ([.str (Str.ofString "product")] ++ (lines s).map V.str))
      have e3 : upd H2 p3 (.lst ([.str (Str.ofString "product")] ++ (lines s).map V.str)) p3 = some (.lst ([.str (Str.ofString "product")] ++ (lines s).map V.str)) := upd_same
      generalize upd H2 p3 (.lst ([.str (Str.ofString "product")] ++ (lines s).map V.str)) = H3 at s3 e3
      have s03 := s1.trans (s2.trans s3)
      refine ⟨_, rfl, _, _, _, _, rfl, rfl, SqT.of (s03 _ _ h1), atI_nat (j := 2) rfl, y, t, rfl, ht2.same s03, hnn.2, by omega, by omega, fun p4 H4 s4 e4 => ?_⟩
      refine ⟨p3, p4, _, _, rfl, rfl, s4 _ _ e3, e4, ?_, fun p5 hp5 => ?_⟩
      · rw [List.length_map, List.length_append, List.length_map, List.length_singleton]
        exact small7 (by omega)
      refine k p5 _ (s03.trans (s4.trans (same_new hp5 _))) ?_
      rw [upd_same, lines_product, List.map_cons, List.map_append]
      rfl
    | turned s pl =>
      obtain ⟨a, x, q, rfl, h1, hs, h2⟩ := ht
      have hmm : many (.turned s pl) = 1 + many s := rfl
      have hhh : hg (.turned s pl) = 1 + hg s := rfl
      have hl3 : pl.length = 3 := hnn.2.1
      have hjl := num_join_len hnn.2.2 (by omega)
      have hne : pl.map num ≠ [] := fun z => by
        have := congrArg List.length z
        rw [List.length_map, hl3] at this
        cases this
      refine ⟨_, rfl, _, _, _, _, rfl, rfl, SqT.of h1, atI_nat (j := 0) rfl, rfl, _, rfl, str_ne (by decide) ?_⟩
      refine ⟨_, rfl, _, _, _, _, rfl, rfl, SqT.of h1, atI_nat (j := 0) rfl, rfl, _, rfl, str_eq ?_⟩
      refine rd_join1 (ns := pl) (fun R h => ⟨_, rfl, _, _, _, _, rfl, rfl, SqT.of h1, atI_nat (j := 2) rfl, h q H (Same.refl H) h2⟩) hnn.2.2 (by omega) (fun H1 s1 => ?_)
      refine ⟨_, _, rfl, rfl, (by show (7 : Nat) + _ ≤ sizeLine; exact small (by omega)), ?_⟩
      have et : Str.ofString "turned " ++ Str.join sp1 (pl.map num) = ln (ws "turned" :: pl.map num) := by rw [w_turned]; exact jn hne
      rw [et]
      refine ⟨(by show 1 ≤ sizeLine; exact small (by decide)), fun p hp => ?_⟩
      have s2 := same_new hp (.lst [.str (ln (ws "turned" :: pl.map num))])
      have e2 : upd H1 p (.lst [.str (ln (ws "turned" :: pl.map num))]) p = some (.lst [.str (ln (ws "turned" :: pl.map num))]) := upd_same
      generalize upd H1 p (.lst [.str (ln (ws "turned" :: pl.map num))]) = H2 at s2 e2
      have s02 := s1.trans s2
      refine ⟨_, rfl, _, _, _, _, rfl, rfl, SqT.of (s02 _ _ h1), atI_nat (j := 1) rfl, x, s, rfl, hs.same s02, hnn.1, by omega, by omega, fun p3 H3 s3 e3 => ?_⟩
      have l1 := len_ok hnn.1 (by omega)
      refine ⟨p, p3, _, _, rfl, rfl, s3 _ _ e2, e3, ?_, fun p4 hp4 => ?_⟩
      · rw [List.length_map, List.length_singleton]
        exact small7 (by omega)
      refine k p4 _ (s02.trans (s3.trans (same_new hp4 _))) ?_
      rw [upd_same]
      rfl
    | listed rows =>
      obtain ⟨a, r, rs, rfl, h1, h2, h3⟩ := ht
      have h2 : H r = some (.tup rs) := h2.elim (fun z => z) (fun z => z.1.elim)
      have hlen : rs.length = rows.length := Paired.length h3
      have hni : nice ((rs.length : Nat) : Int) := by
        have := hnn.2.1
        exact ⟨by omega, by rw [ten30]; omega⟩
      refine ⟨_, rfl, _, _, _, _, rfl, rfl, SqT.of h1, atI_nat (j := 0) rfl, rfl, _, rfl, str_ne (by decide) ?_⟩
      refine ⟨_, rfl, _, _, _, _, rfl, rfl, SqT.of h1, atI_nat (j := 0) rfl, rfl, _, rfl, str_ne (by decide) ?_⟩
      refine ⟨_, rfl, _, _, _, _, rfl, rfl, SqT.of h1, atI_nat (j := 0) rfl, rfl, _, rfl, str_eq ?_⟩
      refine ⟨_, rfl, _, _, _, _, rfl, rfl, SqT.of h1, atI_nat (j := 1) rfl, r, rs, rfl, .inr (SqT.of h2), _, rfl, nice_log hni, _, _, rfl, rfl, (by show (7 : Nat) + _ ≤ sizeLine; exact small (by have := (num_len hni).2; omega)), ?_⟩
      have et : Str.ofString "listed " ++ num ((rs.length : Nat) : Int) = ln [ws "listed", num ((rs.length : Nat) : Int)] := by rw [w_listed]; exact jn (l := [num ((rs.length : Nat) : Int)]) (by simp)
      rw [et]
      refine ⟨(by show 1 ≤ sizeLine; exact small (by decide)), fun p hp => ?_⟩
      have s2 := same_new hp (.lst [.str (ln [ws "listed", num ((rs.length : Nat) : Int)])])
      have e2 : upd H p (.lst [.str (ln [ws "listed", num ((rs.length : Nat) : Int)])]) p = some (.lst [.str (ln [ws "listed", num ((rs.length : Nat) : Int)])]) := upd_same
      generalize upd H p (.lst [.str (ln [ws "listed", num ((rs.length : Nat) : Int)])]) = H2 at s2 e2
      refine ⟨_, rfl, _, _, _, _, rfl, rfl, SqT.of (s2 _ _ h1), atI_nat (j := 1) rfl, r, rfl, ⟨_, SqT.of (s2 _ _ h2)⟩, fun Dl hD => lc_tup (xs := rs) (fun j H4 => Same H2 H4 ∧ H4 Dl = some (.lst ((rows.take j).map fun r => .str (ln (ws "row" :: r.map num))))) ⟨same_new hD _, upd_same⟩ ?_ ?_ ?_⟩
      · rintro j H4 _ ⟨s4, _⟩
        exact SqT.of (s4 _ _ (s2 _ _ h2))
      · rintro j x H4 hx ⟨s4, e4⟩
        obtain ⟨row, ar, hrow, rfl, har⟩ := h3.at hx
        have hm := hnn.2.2 row (List.mem_of_getElem? hrow)
        have hjl := num_join_len hm.2.2 hm.2.1
        have hne : row.map num ≠ [] := fun z => by
          have := congrArg List.length z
          rw [List.length_map] at this
          have h0 : row.length = 0 := this
          omega
        refine ⟨rfl, ?_⟩
        refine rd_join2 (ns := row) (fun R h => ⟨_, rfl, h ar H4 (Same.refl _) (s4 _ _ (s2 _ _ har))⟩) hm.2.2 hm.2.1 (fun H5 s5 => ?_)
        refine ⟨_, _, rfl, rfl, (by show (4 : Nat) + _ ≤ sizeLine; exact small (by omega)), ?_⟩
        have et : Str.ofString "row " ++ Str.join sp1 (row.map num) = ln (ws "row" :: row.map num) := by rw [w_row]; exact jn hne
        rw [et]
        refine ⟨_, s5 _ _ e4, ?_, ?_, ?_⟩
        · rw [List.length_map, List.length_take]
          exact small1000 (by have := hnn.2.1; omega)
        · exact fun b o q => by rw [upd_ne (ne_of_none q hD)]; exact s5 _ _ (s4 _ _ q)
        · rw [upd_same, take_snoc hrow, List.map_append]
          rfl
      · rintro H4 ⟨s4, e4⟩
        rw [hlen, List.take_length] at e4
        refine ⟨p, Dl, _, _, rfl, rfl, s4 _ _ e2, e4, ?_, fun p5 hp5 => ?_⟩
        · rw [List.length_map, List.length_singleton]
          exact small (by have := hnn.2.1; omega)
        refine k p5 _ (s2.trans (s4.trans (same_new hp5 _))) ?_
        rw [upd_same, lines_listed, hlen]
        simp only [List.map_cons, List.map_map, List.map_nil, List.cons_append, List.nil_append]
        rfl
    | sum n x y =>
      obtain ⟨a, rfl, h1⟩ := ht
      refine ⟨_, rfl, _, _, _, _, rfl, rfl, SqT.of h1, atI_nat (j := 0) rfl, rfl, _, rfl, str_ne (by decide) ?_⟩
      refine ⟨_, rfl, _, _, _, _, rfl, rfl, SqT.of h1, atI_nat (j := 0) rfl, rfl, _, rfl, str_ne (by decide) ?_⟩
      refine ⟨_, rfl, _, _, _, _, rfl, rfl, SqT.of h1, atI_nat (j := 0) rfl, rfl, _, rfl, str_ne (by decide) ?_⟩
      have hni : ∀ z ∈ [n, x, y], nice z := fun z hz => by
        simp only [List.mem_cons, List.not_mem_nil, or_false] at hz
        rcases hz with e | e | e
        · subst e; exact hnn.1
        · subst e; exact hnn.2.1
        · subst e; exact hnn.2.2
      have hjl := num_join_len hni (by simp)
      refine ⟨_, rfl, _, _, _, _, rfl, rfl, SqT.of h1, atI_nat (j := 0) rfl, _, _, rfl, rfl, (by show (4 : Nat) ≤ sizeLine; exact small (by decide)), ?_⟩
      refine rd_join2 (ns := [n, x, y]) (fun R h => ⟨_, rfl, _, rfl, a, _, rfl, SqT.of h1, (fun z => absurd (show (1 : Nat) = 0 from z.1) (by decide)), fun p0 hp0 => h p0 _ (same_new hp0 _) upd_same⟩) hni (by simp) (fun H1 s1 => ?_)
      refine ⟨_, _, rfl, rfl, (by show (4 : Nat) + _ ≤ sizeLine; exact small (by omega)), ?_⟩
      refine ⟨(by show 1 ≤ sizeLine; exact small (by decide)), fun p hp => ?_⟩
      refine k p _ (s1.trans (same_new hp _)) ?_
      rw [upd_same]
      rfl
    | field n x y =>
      obtain ⟨a, rfl, h1⟩ := ht
      refine ⟨_, rfl, _, _, _, _, rfl, rfl, SqT.of h1, atI_nat (j := 0) rfl, rfl, _, rfl, str_ne (by decide) ?_⟩
      refine ⟨_, rfl, _, _, _, _, rfl, rfl, SqT.of h1, atI_nat (j := 0) rfl, rfl, _, rfl, str_ne (by decide) ?_⟩
      refine ⟨_, rfl, _, _, _, _, rfl, rfl, SqT.of h1, atI_nat (j := 0) rfl, rfl, _, rfl, str_ne (by decide) ?_⟩
      have hni : ∀ z ∈ [n, x, y], nice z := fun z hz => by
        simp only [List.mem_cons, List.not_mem_nil, or_false] at hz
        rcases hz with e | e | e
        · subst e; exact hnn.1
        · subst e; exact hnn.2.1
        · subst e; exact hnn.2.2
      have hjl := num_join_len hni (by simp)
      refine ⟨_, rfl, _, _, _, _, rfl, rfl, SqT.of h1, atI_nat (j := 0) rfl, _, _, rfl, rfl, (by show (6 : Nat) ≤ sizeLine; exact small (by decide)), ?_⟩
      refine rd_join2 (ns := [n, x, y]) (fun R h => ⟨_, rfl, _, rfl, a, _, rfl, SqT.of h1, (fun z => absurd (show (1 : Nat) = 0 from z.1) (by decide)), fun p0 hp0 => h p0 _ (same_new hp0 _) upd_same⟩) hni (by simp) (fun H1 s1 => ?_)
      refine ⟨_, _, rfl, rfl, (by show (6 : Nat) + _ ≤ sizeLine; exact small (by omega)), ?_⟩
      refine ⟨(by show 1 ≤ sizeLine; exact small (by decide)), fun p hp => ?_⟩
      refine k p _ (s1.trans (same_new hp _)) ?_
      rw [upd_same]
      rfl
end
end K5
/-! K5, walks 18: refused. -/
namespace K5
open PySem PySem.Spec PyProof.Rows L2
abbrev sRefused : Stmt := topS 57
/-- the error's class, for except and isinstance -/
structure Ex2 (K : PySem.W.Frag) (mg : Str → Option Value) (C : Addr) : Prop where
  gC : mg "InvalidSquare" = some (.ref C)
  te : PySem.W.exmOne K (.ref C) (.ref C) = some true
  ec : ExcC K C
  sv : PySem.W.subIn K (.ref C) (.type "ValueError") = some true
theorem kit_own {K : PySem.W.Frag} {C : Addr} (h : PySem.W.subIn K (.ref C) (.type "ValueError") = some true) : PySem.W.kitOne K (.ref C) (.type "ValueError") = some true := by
  unfold PySem.W.kitOne
  rw [if_neg (by rw [show (Value.ref C == Value.type "ValueError") = false from rfl]; exact Bool.false_ne_true)]
  show (if PySem.W.kitMeta "ValueError" = true then PySem.W.subIn K (.ref C) (.type "ValueError") else none) = some true
  rw [if_pos (by decide +kernel)]
  exact h
theorem pss_guard {X : Cx} {st : List Stmt} {t : TS} {p : Prop} (h : p → PSs X st t) : PSs X st (fun D σ H => p ∧ t D σ H) :=
  ⟨fun pins s σ H D I z => (h z.1).run pins s σ H D I z.2⟩
def spRefused : Sp := fun vs H Q _ => ∃ (v : V) (t : T) (L : Addr → Prop), vs = [v] ∧ TreeAt H L t v ∧ WF t ∧ chk t 1 = none ∧ ∀ H', Same H H' → Q (.bl true) H'
theorem scRefused : FnScope ["_law_tree_here", "e"] ["_law_tree_here"] (defScope sRefused) := ⟨rfl, rfl, rfl, by decide +kernel, rfl, by decide +kernel, by decide +kernel⟩
section
variable {P : Program} {w : World} {K : PySem.W.Frag} {mg : Str → Option Value} {base : Heap} {C : Addr}
theorem ok_refused {f g : Addr} {fd gd : FuncData} (B : Bl mg) (X2 : Ex2 K mg C) (F : Fun K "_law_refused" "_law_refused" sRefused f fd) (D : Df K mg "format_square" sFormat ["tree"] g gd) (G : FnOk P w K mg base (L2.CX P w) 18 g gd ["tree"] (spFormat C)) : FnOk P w K mg base CX0 19 f fd ["_law_tree_here"] spRefused := by
  refine F.ok scRefused (fun vs H Q E h => ?_) (fun cdv A outer s H vs Q E hr h => ?_)
  · obtain ⟨v, t, L, rfl, _⟩ := h
    rfl
  obtain ⟨v, t, L, rfl, ht, hwf, hc, k⟩ := h
  refine ⟨_, pss_cons (ps_try_as (i := 1) (ts := fun a cls d D σ H => (cls = .ref C ∧ d = none) ∧ tRet (tCB (rIsE K C a) (tCons (tVar 1) (tCons (tC (.ty "ValueError")) tNil))) D σ H) rfl rfl scRefused.nd rfl rfl ⟨rfl, by decide, .inl X2.gC⟩ takes0
      (fun W pn xe tk _ => pss_one (ps_expr (pe_callS G hr rfl D.m D.kp D.b (fun σ => passAt tk σ) (pa_cons (pv 0) pa_nil))))
      (fun a oe cls d pn hz hf => pss_guard fun hcd => by
        obtain ⟨rfl, rfl⟩ := hcd
        exact pss_one (ps_ret (pe_callB (call_isE X2.ec hz hf) rfl B.isinstance (by decide +kernel) (pa_cons (pv 1) (pa_cons (pe_bltn (v := .ty "ValueError") (u := .type "ValueError") rfl B.ValueError (by decide +kernel) rfl) pa_nil))))))
    (pss_one (ps_ret pe_bl)), ?_⟩
  refine ⟨_, rfl, v, t, L, rfl, ht, hwf, fun hz => absurd hc hz, fun _ H' s1 => ?_⟩
  exact ⟨true, X2.te, fun _ a ha => ⟨⟨rfl, rfl⟩, _, rfl, .ty "ValueError", .type "ValueError", true, rfl, fun u r => r, kit_own X2.sv, k H' s1⟩, fun q => nomatch q⟩
end
end K5
/-! K5, walks 19: the law. -/
namespace K5
open PySem PySem.Spec PyProof.Rows L2 TL
abbrev sLaw : Stmt := topS 58
theorem ne_ff {x : V} {A B : Prop} (h : B) : if (!decide (x = x)) = true then A else B := ifF (by rw [decide_eq_true rfl]; rfl) h
theorem ned_ff {d : PyData} (hd : d.canLay0 = true) {A B : Prop} (h : B) : if (!PyData.eqv d d) = true then A else B := ifF (by rw [SeqAt.eqv_refl d hd]; rfl) h
theorem Val.ok {t : T} (hv : Val t) (hm : many t ≤ 12) (ho : ord t ≤ 10 ^ 30) : chk t 1 ≠ none := by
  rw [chk_of t 1 hv (by omega) hm ho]
  exact Option.some_ne_none _
def smallT : T := .turned (.listed [[1, 0], [0, 1]]) [2, 1, 0]
theorem small_text : Str.ofString "square\nturned 2 1 0\nlisted 2\nrow 1 0\nrow 0 1" = textOf smallT := by decide +kernel
theorem small_ok : chk smallT 1 ≠ none := by decide +kernel
theorem small_chk : chkRows [[1, 0], [0, 1]] = true := by decide +kernel
theorem small_val : Val smallT := ⟨small_chk, by decide +kernel⟩
def greatT (x : Int) : T := .sum x 1 1
theorem great_val {x : Int} (h0 : 1 ≤ x) (h1 : x ≤ 10 ^ 30) : Val (greatT x) := chkSum_iff.mpr ⟨⟨⟨h0, h1⟩, ⟨by decide, h0⟩, ⟨by decide, h0⟩⟩, by rw [show (1 : Int).natAbs = 1 from rfl]; exact ⟨Nat.gcd_one_left _, Nat.gcd_one_left _⟩⟩
theorem great_text (x : Int) : Str.ofString "square\nsum " ++ num x ++ Str.ofString " 1 1" = textOf (greatT x) := by
  have e : textOf (greatT x) = ws "square" ++ nl1 ++ (ws "sum" ++ sp1 ++ (num x ++ sp1 ++ (num 1 ++ sp1 ++ num 1))) := rfl
  rw [e]
  refine ext_tl ?_
  simp only [tl_append]
  have e1 : tl (Str.ofString "square\nsum ") = tl (ws "square") ++ tl nl1 ++ tl (ws "sum") ++ tl sp1 := by decide +kernel
  have e2 : tl (Str.ofString " 1 1") = tl sp1 ++ tl (num 1) ++ tl sp1 ++ tl (num 1) := by decide +kernel
  rw [e1, e2]
  simp only [List.append_assoc]
theorem len_app (x y : Str) : (x ++ y).length = x.length + y.length := by rw [len_tl, tl_append, List.length_append, ← len_tl, ← len_tl]
def noChk (t : T) : Prop := ∀ d, chk t d = none
theorem no_sum : noChk (.sum 4 2 1) := fun d => by
  unfold chk
  exact if_neg fun h => absurd h.2 (by decide +kernel)
theorem no_field : noChk (.field 4 1 1) := fun d => by
  unfold chk
  exact if_neg fun h => absurd h.2 (by decide +kernel)
theorem no_listed : noChk (.listed [[0, 0], [1, 1]]) := fun d => by
  unfold chk
  exact if_neg fun h => absurd h.2 (by decide +kernel)
theorem no_turned (t : T) : noChk (.turned t [0, 1]) := fun d => by
  unfold chk
  split
  · split
    · rfl
    · exact if_neg fun h => absurd h.1 (by decide +kernel)
  · rfl
theorem no_bad (t : T) : noChk (.bad t) := fun d => rfl
theorem no_up {t : T} {pl : List Int} (h : noChk t) : chk (.turned t pl) 1 = none := by
  unfold chk
  rw [h]
  split <;> rfl
def spLaw (K : PySem.W.Frag) : Sp := fun vs H Q _ => ∃ (a : Addr) (ns : List Int), vs = [.ref a] ∧ SqL K H a (ns.map V.int) ∧ ns.length ≤ 63 ∧ ∀ H', Q (.bl true) H'
abbrev nLaw : List Str := ["_law_script", "_law_numbers_here", "_law_tree_here", "_law_text", "_law_actual", "_law_read", "_law_small", "_law_great", "_law_bad"]
theorem scLaw : FnScope nLaw ["_law_script"] (defScope sLaw) := ⟨rfl, rfl, rfl, by decide +kernel, rfl, by decide +kernel, by decide +kernel⟩
section
variable {P : Program} {w : World} {K : PySem.W.Frag} {mg : Str → Option Value} {base : Heap} {C : Addr}
theorem ok_law {f fn ft fl ff fp fr : Addr} {fd fdn fdt fdl fdf fdp fdr : FuncData} (B : Bl mg) (F : Fun K "law" "law" sLaw f fd)
    (Dn : Df K mg "_law_numbers" sLNums ["_law_script", "_law_many_here"] fn fdn) (Gn : FnOk P w K mg base CX0 2 fn fdn ["_law_script", "_law_many_here"] (spLNums K))
    (Dt : Df K mg "_law_tree" sLTree ["_law_numbers_here", "_law_at"] ft fdt) (Gt : FnOk P w K mg base CX0 16 ft fdt ["_law_numbers_here", "_law_at"] (spLTree K))
    (Dl : Df K mg "_law_lines" sLLines ["_law_tree_here"] fl fdl) (Gl : FnOk P w K mg base CX0 12 fl fdl ["_law_tree_here"] (spLines 12))
    (Df_ : Df K mg "format_square" sFormat ["tree"] ff fdf) (Gf : FnOk P w K mg base (L2.CX P w) 18 ff fdf ["tree"] (spFormat C))
    (Dp_ : Df K mg "parse_square" sParse ["text"] fp fdp) (Gp : FnOk P w K mg base (L2.CX P w) 18 fp fdp ["text"] spParse)
    (Dr : Df K mg "_law_refused" sRefused ["_law_tree_here"] fr fdr) (Gr : FnOk P w K mg base CX0 19 fr fdr ["_law_tree_here"] spRefused) :
    FnOk P w K mg base CX0 20 f fd ["_law_script"] (spLaw K) := by
  refine F.ok scLaw (fun vs H Q E h => ?_) (fun cdv A outer s H vs Q E hr h => ?_)
  · obtain ⟨a, ns, rfl, _⟩ := h
    rfl
  obtain ⟨a0, ns0, rfl, ha0, h63, k⟩ := h
  have hr19 : Room 19 _ := hr
  have hr2 := hr.mono (show 2 ≤ 19 by decide)
  have hr16 := hr.mono (show 16 ≤ 19 by decide)
  have hr12 := hr.mono (show 12 ≤ 19 by decide)
  have hr18 := hr.mono (show 18 ≤ 19 by decide)
  refine ⟨_, pss_cons (ps_set (i := 1) scLaw.nd rfl (.inl rfl) (pe_call Gn hr2 rfl Dn.m Dn.kp Dn.b .nil pass0 (pa_cons (pv 0) (pa_cons pe_int pa_nil))))
    (pss_cons (ps_set (i := 2) scLaw.nd rfl (.inl rfl) (pe_call Gt hr16 rfl Dt.m Dt.kp Dt.b .nil pass0 (pa_cons (pv 1) (pa_cons pe_int pa_nil))))
    (pss_cons (ps_set (i := 3) scLaw.nd rfl (.inl rfl) (pe_join pe_str (pe_op op_cat (pe_lst (pa_cons pe_str pa_nil)) (pe_call Gl hr12 rfl Dl.m Dl.kp Dl.b .nil pass0 (pa_cons (pv 2) pa_nil)))))
    (pss_cons (ps_set (i := 4) scLaw.nd rfl (.inl rfl) (pe_call Gf hr18 rfl Df_.m Df_.kp Df_.b .nil (passes_call (E := E0) takes0 (fun _ _ _ _ h => h)) (pa_cons (pv 2) pa_nil)))
    (pss_cons (ps_if (PW.pt (pw_or (pt_not (pt_val (pe_callB call_isi rfl B.isinstance (by decide +kernel) (pa_cons (pv 4) (pa_cons (pe_bltn (v := .ty "str") (u := .type "str") rfl B.str (by decide +kernel) rfl) pa_nil))))) (pw_or (pt_cmpR op_ne (pv 4) (pv 3) (nomark _)) (pw_or1 (pt_cmpR op_ne (pe_call Gf hr18 rfl Df_.m Df_.kp Df_.b .nil (passes_call (E := E0) takes0 (fun _ _ _ _ h => h)) (pa_cons (pv 2) pa_nil)) (pv 3) (nomark _)))))) (pss_one (ps_ret pe_bl)) pss_nil)
    (pss_cons (ps_set (i := 5) scLaw.nd rfl (.inl rfl) (pe_call Gp hr18 rfl Dp_.m Dp_.kp Dp_.b .nil (passes_call (E := E0) takes0 (fun _ _ _ _ h => h)) (pa_cons (pv 3) pa_nil)))
    (pss_cons (ps_set (i := 6) scLaw.nd rfl (.inl rfl) (pe_call Gp hr18 rfl Dp_.m Dp_.kp Dp_.b .nil (passes_call (E := E0) takes0 (fun _ _ _ _ h => h)) (pa_cons pe_str pa_nil)))
    (pss_cons (ps_if (PW.pt (pw_or (pt_not (pt_val (pe_callB call_isi rfl B.isinstance (by decide +kernel) (pa_cons (pv 5) (pa_cons (pe_bltn (v := .ty "tuple") (u := .type "tuple") rfl B.tuple (by decide +kernel) rfl) pa_nil))))) (pw_or (pt_cmpR (op_neD hr.units) (pv 5) (pv 2) (nomark _)) (pw_or (pt_cmpR op_ne (pe_call Gf hr18 rfl Df_.m Df_.kp Df_.b .nil (passes_call (E := E0) takes0 (fun _ _ _ _ h => h)) (pa_cons (pv 5) pa_nil)) (pv 3) (nomark _)) (pw_or1 (pt_cmpR (op_neD hr.units) (pv 6) (pe_tup (pa_cons pe_str (pa_cons (pe_tup (pa_cons pe_str (pa_cons (pe_tup (pa_cons (pe_tup (pa_cons pe_int (pa_cons pe_int pa_nil))) (pa_cons (pe_tup (pa_cons pe_int (pa_cons pe_int pa_nil))) pa_nil))) pa_nil))) (pa_cons (pe_tup (pa_cons pe_int (pa_cons pe_int (pa_cons pe_int pa_nil)))) pa_nil)))) (nomark _))))))) (pss_one (ps_ret pe_bl)) pss_nil)
    (pss_cons (ps_set (i := 7) scLaw.nd rfl (.inl rfl) (pe_tup (pa_cons pe_str (pa_cons (pe_op op_add (pe_op op_pow pe_int pe_int) (pe_callTy call_int1 rfl B.int (by decide +kernel) (pa_cons (pe_ix ix_list (pv 1) pe_int (fun _ _ => rfl)) pa_nil))) (pa_cons pe_int (pa_cons pe_int pa_nil))))))
    (pss_cons (ps_if (PW.pt (pw_or (pt_cmpR op_ne (pe_call Gf hr18 rfl Df_.m Df_.kp Df_.b .nil (passes_call (E := E0) takes0 (fun _ _ _ _ h => h)) (pa_cons (pv 7) pa_nil)) (pe_op op_add_str (pe_op op_add_str pe_str (pe_callTy (T := "str") cr_strI rfl B.str (by decide +kernel) (pa_cons (pe_ix ix_tup (pv 7) pe_int (fun _ _ => rfl)) pa_nil))) pe_str) (nomark _)) (pw_or1 (pt_cmpR (op_neD hr.units) (pe_call Gp hr18 rfl Dp_.m Dp_.kp Dp_.b .nil (passes_call (E := E0) takes0 (fun _ _ _ _ h => h)) (pa_cons (pe_call Gf hr18 rfl Df_.m Df_.kp Df_.b .nil (passes_call (E := E0) takes0 (fun _ _ _ _ h => h)) (pa_cons (pv 7) pa_nil)) pa_nil)) (pv 7) (nomark _))))) (pss_one (ps_ret pe_bl)) pss_nil)
    (pss_cons (ps_set (i := 8) scLaw.nd rfl (.inl rfl) (pe_lst (pa_cons (pe_tup (pa_cons pe_str (pa_cons pe_int (pa_cons pe_int (pa_cons pe_int pa_nil))))) (pa_cons (pe_tup (pa_cons pe_str (pa_cons pe_int (pa_cons pe_int (pa_cons pe_int pa_nil))))) (pa_cons (pe_tup (pa_cons pe_str (pa_cons (pe_tup (pa_cons (pe_tup (pa_cons pe_int (pa_cons pe_int pa_nil))) (pa_cons (pe_tup (pa_cons pe_int (pa_cons pe_int pa_nil))) pa_nil))) pa_nil))) (pa_cons (pe_tup (pa_cons pe_str (pa_cons (pv 2) (pa_cons (pe_tup (pa_cons pe_int (pa_cons pe_int pa_nil))) pa_nil)))) (pa_cons (pe_tup (pa_cons pe_str (pa_cons (pv 2) pa_nil))) pa_nil)))))))
    (pss_one (ps_ret (pe_and (pe_call Gr hr19 rfl Dr.m Dr.kp Dr.b .nil pass0 (pa_cons (pe_ix ix_list (pv 8) (pe_op op_mod (pe_callTy call_int1 rfl B.int (by decide +kernel) (pa_cons (pe_ix ix_list (pv 1) pe_int (fun _ _ => rfl)) pa_nil)) pe_int) (fun _ _ => rfl)) pa_nil)) (pe_one (pe_call Gr hr19 rfl Dr.m Dr.kp Dr.b .nil pass0 (pa_cons (pe_tup (pa_cons pe_str (pa_cons (pe_ix ix_list (pv 8) (pe_op op_mod (pe_callTy call_int1 rfl B.int (by decide +kernel) (pa_cons (pe_ix ix_list (pv 1) pe_int (fun _ _ => rfl)) pa_nil)) pe_int) (fun _ _ => rfl)) (pa_cons (pe_tup (pa_cons pe_int (pa_cons pe_int (pa_cons pe_int pa_nil)))) pa_nil)))) pa_nil)))))))))))))))), ?_⟩
  -- the numbers, the tree
  refine ⟨_, rfl, a0, ns0, rfl, ha0, h63, fun a H1 ns s1 hl h160 hb9 => ?_⟩
  have ha : SqL K H1 a (ns.map V.int) := SqL.of hl
  refine ⟨_, rfl, a, ns, rfl, ha, hb9, h160, fun v H2 t s2 ht hv hm ho => ?_⟩
  have hnn := nn_of_val t hv
  have hwf := wf_of_nn t hv
  have hck := hv.ok hm ho
  -- the text
  refine ⟨⟨_, rfl⟩, (by show 1 ≤ sizeLine; exact small (by decide)), fun p hp => ?_⟩
  have u1 := same_new hp (.lst [.str (Str.ofString "square")])
  have e1 : upd H2 p (.lst [.str (Str.ofString "square")]) p = some (.lst [.str (Str.ofString "square")]) := upd_same
  generalize upd H2 p (.lst [.str (Str.ofString "square")]) = G1 at u1 e1
  refine ⟨_, rfl, v, t, rfl, ht.same u1, hnn, Nat.le_trans (hg_many t) hm, by omega, fun p3 G3 s3 e3 => ?_⟩
  have l1 := len_ok hnn (by omega)
  have l2 := (sz_lines t hnn).1
  refine ⟨p, p3, _, _, rfl, rfl, s3 _ _ e1, e3, ?_, fun p4 hp4 => ?_⟩
  · rw [List.length_map, List.length_singleton]
    exact small7 (by omega)
  have u4 := same_new hp4 (.lst ([.str (Str.ofString "square")] ++ (lines t).map V.str))
  refine ⟨nl1, p4, ws "square" :: lines t, rfl, rfl, .inl (SqL.of ?_), ?_, ?_⟩
  · rw [upd_same, List.map_cons]
    rfl
  · have e : (nl1 : Str).length = 1 := by decide
    have e' : (ws "square").length = 6 := by decide
    rw [e, Nat.mul_one, szL_len, szL_cons, e']
    omega
  rw [TL.join_eq]
  show tSeq _ _ _ [some (.ref a0), some (.ref a), some v, some (.str (textOf t)), none, none, none, none, none] _
  have s4 := u1.trans (s3.trans u4)
  have ht4 := ht.same s4
  have ha4 := sq_keep (s2.trans s4) ha
  generalize upd G3 p4 (.lst ([.str (Str.ofString "square")] ++ (lines t).map V.str)) = H4 at s4 ht4 ha4 u4
  -- format
  refine ⟨_, rfl, v, t, no, rfl, ht4, hwf, fun _ H5 s5 => ?_, fun z => absurd z hck⟩
  have ht5 := ht4.same s5
  refine ⟨_, rfl, _, _, _, _, true, rfl, .ty _, .base (.str _), kit_ty (by decide +kernel), true, rfl, ifF rfl ?_⟩
  refine ⟨_, rfl, _, rfl, rfl, _, rfl, ne_ff ?_⟩
  refine ⟨_, rfl, v, t, no, rfl, ht5, hwf, fun _ H6 s6 => ⟨_, rfl, rfl, _, rfl, ne_ff ?_⟩, fun z => absurd z hck⟩
  have ht6 := ht5.same s6
  -- parse
  refine ⟨_, rfl, t, rfl, hck, fun vr H7 s7 htr => ?_⟩
  refine ⟨smallT, congrArg (fun x => [V.str x]) small_text, small_ok, fun vs H8 s8 hts => ?_⟩
  have htr8 := htr.same s8
  have ht8 := (ht6.same s7).same s8
  obtain ⟨pr, kr, nr, restr, er, hpr, _⟩ := htr8.node
  have hty : TyX K H8 vr (.type "tuple") := by rw [er]; exact .base (.tup hpr)
  refine ⟨_, rfl, _, _, _, _, true, rfl, .ty _, hty, kit_ty (by decide +kernel), true, rfl, ifF rfl ?_⟩
  refine ⟨_, rfl, _, rfl, dat t, dat t, dpTree htr8, dpTree ht8, shapedDat hv hm, shapedDat hv hm, _, rfl, ned_ff (canDat t) ?_⟩
  refine ⟨_, rfl, vr, t, no, rfl, htr8, hwf, fun _ H9 s9 => ⟨_, rfl, rfl, _, rfl, ne_ff ?_⟩, fun z => absurd z hck⟩
  have ht9 := ht8.same s9
  have hts9 := hts.same s9
  refine ⟨_, rfl, (by show 2 ≤ sizeLine; exact small (by decide)), fun y1 hy1 => ?_⟩
  have ty1 := same_new hy1 (.tup [.int 1, .int 0])
  have ey1 : upd H9 y1 (.tup [.int 1, .int 0]) y1 = some (.tup [.int 1, .int 0]) := upd_same
  generalize upd H9 y1 (.tup [.int 1, .int 0]) = J1 at ty1 ey1
  refine ⟨(by show 2 ≤ sizeLine; exact small (by decide)), fun y2 hy2 => ?_⟩
  have ty2 := same_new hy2 (.tup [.int 0, .int 1])
  have ey2 : upd J1 y2 (.tup [.int 0, .int 1]) y2 = some (.tup [.int 0, .int 1]) := upd_same
  generalize upd J1 y2 (.tup [.int 0, .int 1]) = J2 at ty2 ey2
  refine ⟨(by show 2 ≤ sizeLine; exact small (by decide)), fun y3 hy3 => ?_⟩
  have ty3 := same_new hy3 (.tup [.ref y1, .ref y2])
  have ey3 : upd J2 y3 (.tup [.ref y1, .ref y2]) y3 = some (.tup [.ref y1, .ref y2]) := upd_same
  generalize upd J2 y3 (.tup [.ref y1, .ref y2]) = J3 at ty3 ey3
  refine ⟨(by show 2 ≤ sizeLine; exact small (by decide)), fun y4 hy4 => ?_⟩
  have ty4 := same_new hy4 (.tup [.str (Str.ofString "listed"), .ref y3])
  have ey4 : upd J3 y4 (.tup [.str (Str.ofString "listed"), .ref y3]) y4 = some (.tup [.str (Str.ofString "listed"), .ref y3]) := upd_same
  generalize upd J3 y4 (.tup [.str (Str.ofString "listed"), .ref y3]) = J4 at ty4 ey4
  refine ⟨(by show 3 ≤ sizeLine; exact small (by decide)), fun y5 hy5 => ?_⟩
  have ty5 := same_new hy5 (.tup [.int 2, .int 1, .int 0])
  have ey5 : upd J4 y5 (.tup [.int 2, .int 1, .int 0]) y5 = some (.tup [.int 2, .int 1, .int 0]) := upd_same
  generalize upd J4 y5 (.tup [.int 2, .int 1, .int 0]) = J5 at ty5 ey5
  refine ⟨(by show 3 ≤ sizeLine; exact small (by decide)), fun y6 hy6 => ?_⟩
  have ty6 := same_new hy6 (.tup [.str (Str.ofString "turned"), .ref y4, .ref y5])
  have ey6 : upd J5 y6 (.tup [.str (Str.ofString "turned"), .ref y4, .ref y5]) y6 = some (.tup [.str (Str.ofString "turned"), .ref y4, .ref y5]) := upd_same
  generalize upd J5 y6 (.tup [.str (Str.ofString "turned"), .ref y4, .ref y5]) = J6 at ty6 ey6
  have sA := ty1.trans (ty2.trans (ty3.trans (ty4.trans (ty5.trans ty6))))
  have hsm : TreeAt J6 no smallT (.ref y6) := ⟨y6, .ref y4, y5, rfl, ey6, ⟨y4, y3, [.ref y1, .ref y2], rfl, ty6 _ _ (ty5 _ _ (ey4)), .inl (ty6 _ _ (ty5 _ _ (ty4 _ _ (ey3)))), .cons ⟨y1, rfl, ty6 _ _ (ty5 _ _ (ty4 _ _ (ty3 _ _ (ty2 _ _ (ey1)))))⟩ (.cons ⟨y2, rfl, ty6 _ _ (ty5 _ _ (ty4 _ _ (ty3 _ _ (ey2))))⟩ .nil)⟩, ty6 _ _ (ey5)⟩
  refine ⟨dat smallT, dat smallT, dpTree (hts9.same sA), dpTree hsm, shapedDat small_val (by decide), shapedDat small_val (by decide), _, rfl, ned_ff (canDat smallT) ?_⟩
  have htA := ht9.same sA
  have haA := sq_keep (s5.trans (s6.trans (s7.trans (s8.trans (s9.trans sA))))) ha4
  -- the great one
  have hx := hb9 _ (gn_mem (ns := ns) (i := 158) (by decide) (by omega))
  refine ⟨_, _, rfl, rfl, ⟨by decide, by decide, by decide⟩, _, rfl, a, _, _, _, rfl, rfl, haA, gn_at (by decide) (by omega), .inl ⟨_, rfl, _, _, rfl, rfl, ?_⟩⟩
  have hgx : ∃ x : Int, (10 : Int) ^ (20 : Int).toNat + gn ns 158 = x ∧ 1 ≤ x ∧ x ≤ 10 ^ 30 := by
    refine ⟨_, rfl, ?_⟩
    rw [show (10 : Int) ^ (20 : Int).toNat = 100000000000000000000 by decide, ten30]
    omega
  obtain ⟨x, ex, x1, x2⟩ := hgx
  refine ⟨(by show 4 ≤ sizeLine; exact small (by decide)), fun g hg => ?_⟩
  show tSeq _ _ _ _ (upd J6 g (.tup [.str (Str.ofString "sum"), .int ((10 : Int) ^ (20 : Int).toNat + gn ns 158), .int 1, .int 1]))
  rw [ex]
  have tg := same_new hg (.tup [.str (Str.ofString "sum"), .int x, .int 1, .int 1])
  have eg : upd J6 g (.tup [.str (Str.ofString "sum"), .int x, .int 1, .int 1]) g = some (.tup [.str (Str.ofString "sum"), .int x, .int 1, .int 1]) := upd_same
  generalize upd J6 g (.tup [.str (Str.ofString "sum"), .int x, .int 1, .int 1]) = H10 at tg eg
  have htg : TreeAt H10 no (greatT x) (.ref g) := ⟨g, rfl, eg⟩
  have gv := great_val x1 x2
  have gok := gv.ok (by show 1 ≤ 12; decide) x2
  have gnice : nice x := ⟨by omega, x2⟩
  refine ⟨_, rfl, .ref g, greatT x, no, rfl, htg, trivial, fun _ H11 s11 => ?_, fun z => absurd z gok⟩
  have hnl := (num_len gnice).2
  refine ⟨_, rfl, g, _, _, _, rfl, rfl, SqT.of (s11 _ _ eg), atI_nat (j := 1) rfl, x, rfl, nice_log gnice, _, _, rfl, rfl, (by show (11 : Nat) + _ ≤ sizeLine; exact small (by omega)), _, _, rfl, rfl, ?_, ?_⟩
  · have := len_app (Str.ofString "square\nsum ") (num x)
    rw [this]
    show (11 : Nat) + _ + 4 ≤ sizeLine
    exact small (by omega)
  rw [great_text]
  refine ⟨rfl, _, rfl, ne_ff ?_⟩
  have htg11 := htg.same s11
  refine ⟨_, rfl, .ref g, greatT x, no, rfl, htg11, trivial, fun _ H12 s12 => ?_, fun z => absurd z gok⟩
  refine ⟨greatT x, rfl, gok, fun vg H13 s13 htq => ?_⟩
  refine ⟨_, rfl, dat (greatT x), dat (greatT x), dpTree htq, dpTree ((htg11.same s12).same s13), shapedDat gv (by show 1 ≤ 12; decide), shapedDat gv (by show 1 ≤ 12; decide), _, rfl, ned_ff (canDat _) ?_⟩
  have s1013 := s11.trans (s12.trans s13)
  have ht13 := (htA.same tg).same s1013
  have ha13 := sq_keep s1013 (sq_keep tg haA)
  -- the bad ones
  refine ⟨(by show 4 ≤ sizeLine; exact small (by decide)), fun b1 hb1 => ?_⟩
  have tb1 := same_new hb1 (.tup [.str (Str.ofString "sum"), .int 4, .int 2, .int 1])
  have eb1 : upd H13 b1 (.tup [.str (Str.ofString "sum"), .int 4, .int 2, .int 1]) b1 = some (.tup [.str (Str.ofString "sum"), .int 4, .int 2, .int 1]) := upd_same
  generalize upd H13 b1 (.tup [.str (Str.ofString "sum"), .int 4, .int 2, .int 1]) = L1 at tb1 eb1
  refine ⟨(by show 4 ≤ sizeLine; exact small (by decide)), fun b2 hb2 => ?_⟩
  have tb2 := same_new hb2 (.tup [.str (Str.ofString "field"), .int 4, .int 1, .int 1])
  have eb2 : upd L1 b2 (.tup [.str (Str.ofString "field"), .int 4, .int 1, .int 1]) b2 = some (.tup [.str (Str.ofString "field"), .int 4, .int 1, .int 1]) := upd_same
  generalize upd L1 b2 (.tup [.str (Str.ofString "field"), .int 4, .int 1, .int 1]) = L2 at tb2 eb2
  refine ⟨(by show 2 ≤ sizeLine; exact small (by decide)), fun b3 hb3 => ?_⟩
  have tb3 := same_new hb3 (.tup [.int 0, .int 0])
  have eb3 : upd L2 b3 (.tup [.int 0, .int 0]) b3 = some (.tup [.int 0, .int 0]) := upd_same
  generalize upd L2 b3 (.tup [.int 0, .int 0]) = L3 at tb3 eb3
  refine ⟨(by show 2 ≤ sizeLine; exact small (by decide)), fun b4 hb4 => ?_⟩
  have tb4 := same_new hb4 (.tup [.int 1, .int 1])
  have eb4 : upd L3 b4 (.tup [.int 1, .int 1]) b4 = some (.tup [.int 1, .int 1]) := upd_same
  generalize upd L3 b4 (.tup [.int 1, .int 1]) = L4 at tb4 eb4
  refine ⟨(by show 2 ≤ sizeLine; exact small (by decide)), fun b5 hb5 => ?_⟩
  have tb5 := same_new hb5 (.tup [.ref b3, .ref b4])
  have eb5 : upd L4 b5 (.tup [.ref b3, .ref b4]) b5 = some (.tup [.ref b3, .ref b4]) := upd_same
  generalize upd L4 b5 (.tup [.ref b3, .ref b4]) = L5 at tb5 eb5
  refine ⟨(by show 2 ≤ sizeLine; exact small (by decide)), fun b6 hb6 => ?_⟩
  have tb6 := same_new hb6 (.tup [.str (Str.ofString "listed"), .ref b5])
  have eb6 : upd L5 b6 (.tup [.str (Str.ofString "listed"), .ref b5]) b6 = some (.tup [.str (Str.ofString "listed"), .ref b5]) := upd_same
  generalize upd L5 b6 (.tup [.str (Str.ofString "listed"), .ref b5]) = L6 at tb6 eb6
  refine ⟨_, rfl, (by show 2 ≤ sizeLine; exact small (by decide)), fun b7 hb7 => ?_⟩
  have tb7 := same_new hb7 (.tup [.int 0, .int 1])
  have eb7 : upd L6 b7 (.tup [.int 0, .int 1]) b7 = some (.tup [.int 0, .int 1]) := upd_same
  generalize upd L6 b7 (.tup [.int 0, .int 1]) = L7 at tb7 eb7
  refine ⟨(by show 3 ≤ sizeLine; exact small (by decide)), fun b8 hb8 => ?_⟩
  have tb8 := same_new hb8 (.tup [.str (Str.ofString "turned"), v, .ref b7])
  have eb8 : upd L7 b8 (.tup [.str (Str.ofString "turned"), v, .ref b7]) b8 = some (.tup [.str (Str.ofString "turned"), v, .ref b7]) := upd_same
  generalize upd L7 b8 (.tup [.str (Str.ofString "turned"), v, .ref b7]) = L8 at tb8 eb8
  refine ⟨_, rfl, (by show 2 ≤ sizeLine; exact small (by decide)), fun b9 hb9 => ?_⟩
  have tb9 := same_new hb9 (.tup [.str (Str.ofString "product"), v])
  have eb9 : upd L8 b9 (.tup [.str (Str.ofString "product"), v]) b9 = some (.tup [.str (Str.ofString "product"), v]) := upd_same
  generalize upd L8 b9 (.tup [.str (Str.ofString "product"), v]) = L9 at tb9 eb9
  refine ⟨(by show 5 ≤ sizeLine; exact small (by decide)), fun b10 hb10 => ?_⟩
  have tb10 := same_new hb10 (.lst [.ref b1, .ref b2, .ref b6, .ref b8, .ref b9])
  have eb10 : upd L9 b10 (.lst [.ref b1, .ref b2, .ref b6, .ref b8, .ref b9]) b10 = some (.lst [.ref b1, .ref b2, .ref b6, .ref b8, .ref b9]) := upd_same
  generalize upd L9 b10 (.lst [.ref b1, .ref b2, .ref b6, .ref b8, .ref b9]) = L10 at tb10 eb10
  have sB := tb1.trans (tb2.trans (tb3.trans (tb4.trans (tb5.trans (tb6.trans (tb7.trans (tb8.trans (tb9.trans (tb10)))))))))
  have htB := ht13.same sB
  have haB := sq_keep sB ha13
  have key0 : ∀ j : Nat, j < 5 → ∃ (vb : V) (tb : T), ([.ref b1, .ref b2, .ref b6, .ref b8, .ref b9] : List V)[j]? = some vb ∧ TreeAt L10 no tb vb ∧ WF tb ∧ noChk tb := fun j hj => by
    have hc : j = 0 ∨ j = 1 ∨ j = 2 ∨ j = 3 ∨ j = 4 := by omega
    rcases hc with q | q | q | q | q
    · subst q; exact ⟨_, .sum 4 2 1, rfl, ⟨b1, rfl, tb10 _ _ (tb9 _ _ (tb8 _ _ (tb7 _ _ (tb6 _ _ (tb5 _ _ (tb4 _ _ (tb3 _ _ (tb2 _ _ (eb1)))))))))⟩, trivial, no_sum⟩
    · subst q; exact ⟨_, .field 4 1 1, rfl, ⟨b2, rfl, tb10 _ _ (tb9 _ _ (tb8 _ _ (tb7 _ _ (tb6 _ _ (tb5 _ _ (tb4 _ _ (tb3 _ _ (eb2))))))))⟩, ⟨⟨by decide, by decide⟩, ⟨by decide, by decide⟩⟩, no_field⟩
    · subst q; exact ⟨_, .listed [[0, 0], [1, 1]], rfl, ⟨b6, b5, [.ref b3, .ref b4], rfl, tb10 _ _ (tb9 _ _ (tb8 _ _ (tb7 _ _ (eb6)))), .inl (tb10 _ _ (tb9 _ _ (tb8 _ _ (tb7 _ _ (tb6 _ _ (eb5)))))), .cons ⟨b3, rfl, tb10 _ _ (tb9 _ _ (tb8 _ _ (tb7 _ _ (tb6 _ _ (tb5 _ _ (tb4 _ _ (eb3)))))))⟩ (.cons ⟨b4, rfl, tb10 _ _ (tb9 _ _ (tb8 _ _ (tb7 _ _ (tb6 _ _ (tb5 _ _ (eb4))))))⟩ .nil)⟩, ⟨by decide, by decide⟩, no_listed⟩
    · subst q; exact ⟨_, .turned t [0, 1], rfl, ⟨b8, v, b7, rfl, tb10 _ _ (tb9 _ _ (eb8)), htB, tb10 _ _ (tb9 _ _ (tb8 _ _ (eb7)))⟩, ⟨hwf, by show 2 < 64; decide⟩, no_turned t⟩
    · subst q; exact ⟨_, .bad t, rfl, ⟨b9, v, rfl, tb10 _ _ (eb9), htB⟩, trivial, no_bad t⟩
  have key : ∀ x : Int, ∃ (vb : V) (tb : T), atI ([.ref b1, .ref b2, .ref b6, .ref b8, .ref b9] : List V) (x % 5) = some vb ∧ TreeAt L10 no tb vb ∧ WF tb ∧ noChk tb := fun x => by
    have hj : ∃ j : Nat, x % 5 = ((j : Nat) : Int) ∧ j < 5 := ⟨(x % 5).toNat, by omega, by omega⟩
    obtain ⟨j, ej, hj⟩ := hj
    obtain ⟨vb, tb, q1, q2⟩ := key0 j hj
    exact ⟨vb, tb, by rw [ej]; exact atI_nat q1, q2⟩
  obtain ⟨v1, t1, i1, ht1, hw1, hn1⟩ := key (gn ns 150)
  obtain ⟨v2, t2, i2, ht2, hw2, hn2⟩ := key (gn ns 151)
  refine ⟨_, rfl, _, rfl, a, _, _, _, rfl, rfl, haB, gn_at (by decide) (by omega), .inl ⟨_, rfl, _, _, rfl, rfl, (by show (0 : Int) < 5; decide), b10, _, _, _, rfl, rfl, SqL.of eb10, i1, v1, t1, no, rfl, ht1, hw1, hn1 1, fun H14 s14 => ?_⟩⟩
  refine ⟨true, rfl, ifT rfl ?_⟩
  refine ⟨_, rfl, _, rfl, a, _, _, _, rfl, rfl, sq_keep s14 haB, gn_at (by decide) (by omega), .inl ⟨_, rfl, _, _, rfl, rfl, (by show (0 : Int) < 5; decide), b10, _, _, _, rfl, rfl, SqL.of (s14 _ _ eb10), i2, ?_⟩⟩
  refine ⟨(by show 3 ≤ sizeLine; exact small (by decide)), fun c1 hc1 => ?_⟩
  have w1 := same_new hc1 (.tup [.int 0, .int 1, .int 2])
  have ec1 : upd H14 c1 (.tup [.int 0, .int 1, .int 2]) c1 = some (.tup (([0, 1, 2] : List Int).map V.int)) := upd_same
  refine ⟨(by show 3 ≤ sizeLine; exact small (by decide)), fun c2 hc2 => ?_⟩
  have w2 := same_new hc2 (.tup [.str (Str.ofString "turned"), v2, .ref c1])
  exact ⟨.ref c2, .turned t2 [0, 1, 2], no, rfl, ⟨c2, v2, c1, rfl, upd_same, ((ht2.same s14).same w1).same w2, w2 _ _ ec1⟩, ⟨hw2, by show 3 < 64; decide⟩, no_up hn2, fun H' _ => k H'⟩
end
end K5
/-! K5, walks 20: all together. -/
namespace K5
open PySem PySem.Spec PyProof.Rows L2
theorem all_mk {l : PySem.W.OpenLaw} {w : World} {K : PySem.W.Frag} {h : Heap} {mg : Str → Option Value} {fa : Addr} (X : K.In h) (G : h.Ns mainGlobals mg) (hfa : mg "law" = some (.ref fa))
    {f0 : Addr} {od0 an0 : Option Addr} {sl0 : Array (Option Value)} {oc0 kV0 dc0 pm0 cd0 ct0 : Value}
    {f1 : Addr} {od1 an1 : Option Addr} {sl1 : Array (Option Value)} {oc1 kV1 dc1 pm1 cd1 ct1 : Value}
    {f2 : Addr} {od2 an2 : Option Addr} {sl2 : Array (Option Value)} {oc2 kV2 dc2 pm2 cd2 ct2 : Value}
    {f3 : Addr} {od3 an3 : Option Addr} {sl3 : Array (Option Value)} {oc3 kV3 dc3 pm3 cd3 ct3 : Value}
    {f4 : Addr} {od4 an4 : Option Addr} {sl4 : Array (Option Value)} {oc4 kV4 dc4 pm4 cd4 ct4 : Value}
    {f5 : Addr} {od5 an5 : Option Addr} {sl5 : Array (Option Value)} {oc5 kV5 dc5 pm5 cd5 ct5 : Value}
    {f6 : Addr} {od6 an6 : Option Addr} {sl6 : Array (Option Value)} {oc6 kV6 dc6 pm6 cd6 ct6 : Value}
    {f7 : Addr} {od7 an7 : Option Addr} {sl7 : Array (Option Value)} {oc7 kV7 dc7 pm7 cd7 ct7 : Value}
    {f8 : Addr} {od8 an8 : Option Addr} {sl8 : Array (Option Value)} {oc8 kV8 dc8 pm8 cd8 ct8 : Value}
    {f9 : Addr} {od9 an9 : Option Addr} {sl9 : Array (Option Value)} {oc9 kV9 dc9 pm9 cd9 ct9 : Value}
    {f10 : Addr} {od10 an10 : Option Addr} {sl10 : Array (Option Value)} {oc10 kV10 dc10 pm10 cd10 ct10 : Value}
    {f11 : Addr} {od11 an11 : Option Addr} {sl11 : Array (Option Value)} {oc11 kV11 dc11 pm11 cd11 ct11 : Value}
    {f12 : Addr} {od12 an12 : Option Addr} {sl12 : Array (Option Value)} {oc12 kV12 dc12 pm12 cd12 ct12 : Value}
    {f13 : Addr} {od13 an13 : Option Addr} {sl13 : Array (Option Value)} {oc13 kV13 dc13 pm13 cd13 ct13 : Value}
    {f14 : Addr} {od14 an14 : Option Addr} {sl14 : Array (Option Value)} {oc14 kV14 dc14 pm14 cd14 ct14 : Value}
    {f15 : Addr} {od15 an15 : Option Addr} {sl15 : Array (Option Value)} {oc15 kV15 dc15 pm15 cd15 ct15 : Value}
    {f16 : Addr} {od16 an16 : Option Addr} {sl16 : Array (Option Value)} {oc16 kV16 dc16 pm16 cd16 ct16 : Value}
    {f17 : Addr} {od17 an17 : Option Addr} {sl17 : Array (Option Value)} {oc17 kV17 dc17 pm17 cd17 ct17 : Value}
    {f18 : Addr} {od18 an18 : Option Addr} {sl18 : Array (Option Value)} {oc18 kV18 dc18 pm18 cd18 ct18 : Value}
    {f19 : Addr} {od19 an19 : Option Addr} {sl19 : Array (Option Value)} {oc19 kV19 dc19 pm19 cd19 ct19 : Value}
    {f20 : Addr} {od20 an20 : Option Addr} {sl20 : Array (Option Value)} {oc20 kV20 dc20 pm20 cd20 ct20 : Value}
    {f21 : Addr} {od21 an21 : Option Addr} {sl21 : Array (Option Value)} {oc21 kV21 dc21 pm21 cd21 ct21 : Value}
    {f22 : Addr} {od22 an22 : Option Addr} {sl22 : Array (Option Value)} {oc22 kV22 dc22 pm22 cd22 ct22 : Value}
    {f23 : Addr} {od23 an23 : Option Addr} {sl23 : Array (Option Value)} {oc23 kV23 dc23 pm23 cd23 ct23 : Value}
    {f24 : Addr} {od24 an24 : Option Addr} {sl24 : Array (Option Value)} {oc24 kV24 dc24 pm24 cd24 ct24 : Value}
    {f25 : Addr} {od25 an25 : Option Addr} {sl25 : Array (Option Value)} {oc25 kV25 dc25 pm25 cd25 ct25 : Value}
    {f26 : Addr} {od26 an26 : Option Addr} {sl26 : Array (Option Value)} {oc26 kV26 dc26 pm26 cd26 ct26 : Value}
    {f27 : Addr} {od27 an27 : Option Addr} {sl27 : Array (Option Value)} {oc27 kV27 dc27 pm27 cd27 ct27 : Value}
    {f28 : Addr} {od28 an28 : Option Addr} {sl28 : Array (Option Value)} {oc28 kV28 dc28 pm28 cd28 ct28 : Value}
    {f29 : Addr} {od29 an29 : Option Addr} {sl29 : Array (Option Value)} {oc29 kV29 dc29 pm29 cd29 ct29 : Value}
    {f30 : Addr} {od30 an30 : Option Addr} {sl30 : Array (Option Value)} {oc30 kV30 dc30 pm30 cd30 ct30 : Value}
    {fp T : Addr} {odp anp : Option Addr} {slp : Array (Option Value)} {ocp kVp dcp pmp cdp ctp : Value} {oT : Obj} {tkp : Tok} {nT : Nat}
    {dM : Addr} {esM : Array DictEntry} {nnM : Nat} {uM0 : Tok} {uM1 : Tok} {uM2 : Tok} {uM3 : Tok} {uM4 : Tok}
    {dN : Addr} {esN : Array DictEntry} {nnN : Nat} {uN0 : Tok} {uN1 : Tok} {uN2 : Tok} {uN3 : Tok} {uN4 : Tok}
    {dR : Addr} {esR : Array DictEntry} {nnR : Nat} {uR0 : Tok} {uR1 : Tok} {uR2 : Tok} {uR3 : Tok} {uR4 : Tok}
    {t_mp : Tok}
    {t_mb : Tok}
    {t_md : Tok}
    {t_ms : Tok}
    {t_mo : Tok}
    {t_mparts : Tok}
    {t_ml : Tok}
    {t_row : Tok}
    {t_col : Tok}
    {t_sign : Tok}
    {t_dig : Tok}
    {t_mdig : Tok}
    {C : Addr}
    (a0 : PySem.W.nsIn K mainGlobals "is_prime" = some (some (.ref f0)))
    (l0 : K.lookup f0 = some ⟨oc0, od0, .func (PySem.W.fnOf "is_prime" "is_prime" (defArgs sPrime) (defBody sPrime) (defScope sPrime) .none kV0 dc0 pm0 an0 cd0 ct0), sl0⟩)
    (c0 : PySem.W.codeIn K cd0 "is_prime" = true)
    (k0 : PySem.W.keepIn K (.ref f0) = true)
    (a1 : PySem.W.nsIn K mainGlobals "size_of" = some (some (.ref f1)))
    (l1 : K.lookup f1 = some ⟨oc1, od1, .func (PySem.W.fnOf "size_of" "size_of" (defArgs sSize) (defBody sSize) (defScope sSize) .none kV1 dc1 pm1 an1 cd1 ct1), sl1⟩)
    (c1 : PySem.W.codeIn K cd1 "size_of" = true)
    (k1 : PySem.W.keepIn K (.ref f1) = true)
    (a2 : PySem.W.nsIn K mainGlobals "is_field" = some (some (.ref f2)))
    (l2 : K.lookup f2 = some ⟨oc2, od2, .func (PySem.W.fnOf "is_field" "is_field" (defArgs sField) (defBody sField) (defScope sField) .none kV2 dc2 pm2 an2 cd2 ct2), sl2⟩)
    (c2 : PySem.W.codeIn K cd2 "is_field" = true)
    (k2 : PySem.W.keepIn K (.ref f2) = true)
    (a3 : PySem.W.nsIn K mainGlobals "require" = some (some (.ref f3)))
    (l3 : K.lookup f3 = some ⟨oc3, od3, .func (PySem.W.fnOf "require" "require" (defArgs sReq) (defBody sReq) (defScope sReq) .none kV3 dc3 pm3 an3 cd3 ct3), sl3⟩)
    (c3 : PySem.W.codeIn K cd3 "require" = true)
    (k3 : PySem.W.keepIn K (.ref f3) = true)
    (a4 : PySem.W.nsIn K mainGlobals "checked_rows" = some (some (.ref f4)))
    (l4 : K.lookup f4 = some ⟨oc4, od4, .func (PySem.W.fnOf "checked_rows" "checked_rows" (defArgs sRows) (defBody sRows) (defScope sRows) .none kV4 dc4 pm4 an4 cd4 ct4), sl4⟩)
    (c4 : PySem.W.codeIn K cd4 "checked_rows" = true)
    (k4 : PySem.W.keepIn K (.ref f4) = true)
    (a5 : PySem.W.nsIn K mainGlobals "checked_leaf" = some (some (.ref f5)))
    (l5 : K.lookup f5 = some ⟨oc5, od5, .func (PySem.W.fnOf "checked_leaf" "checked_leaf" (defArgs sLeaf) (defBody sLeaf) (defScope sLeaf) .none kV5 dc5 pm5 an5 cd5 ct5), sl5⟩)
    (c5 : PySem.W.codeIn K cd5 "checked_leaf" = true)
    (k5 : PySem.W.keepIn K (.ref f5) = true)
    (a6 : PySem.W.nsIn K mainGlobals "checked" = some (some (.ref f6)))
    (l6 : K.lookup f6 = some ⟨oc6, od6, .func (PySem.W.fnOf "checked" "checked" (defArgs sChecked) (defBody sChecked) (defScope sChecked) .none kV6 dc6 pm6 an6 cd6 ct6), sl6⟩)
    (c6 : PySem.W.codeIn K cd6 "checked" = true)
    (k6 : PySem.W.keepIn K (.ref f6) = true)
    (a7 : PySem.W.nsIn K mainGlobals "line_of" = some (some (.ref f7)))
    (l7 : K.lookup f7 = some ⟨oc7, od7, .func (PySem.W.fnOf "line_of" "line_of" (defArgs sLine) (defBody sLine) (defScope sLine) .none kV7 dc7 pm7 an7 cd7 ct7), sl7⟩)
    (c7 : PySem.W.codeIn K cd7 "line_of" = true)
    (k7 : PySem.W.keepIn K (.ref f7) = true)
    (a8 : PySem.W.nsIn K mainGlobals "lines_of" = some (some (.ref f8)))
    (l8 : K.lookup f8 = some ⟨oc8, od8, .func (PySem.W.fnOf "lines_of" "lines_of" (defArgs sLines) (defBody sLines) (defScope sLines) .none kV8 dc8 pm8 an8 cd8 ct8), sl8⟩)
    (c8 : PySem.W.codeIn K cd8 "lines_of" = true)
    (k8 : PySem.W.keepIn K (.ref f8) = true)
    (a9 : PySem.W.nsIn K mainGlobals "format_square" = some (some (.ref f9)))
    (l9 : K.lookup f9 = some ⟨oc9, od9, .func (PySem.W.fnOf "format_square" "format_square" (defArgs sFormat) (defBody sFormat) (defScope sFormat) .none kV9 dc9 pm9 an9 cd9 ct9), sl9⟩)
    (c9 : PySem.W.codeIn K cd9 "format_square" = true)
    (k9 : PySem.W.keepIn K (.ref f9) = true)
    (a10 : PySem.W.nsIn K mainGlobals "is_number" = some (some (.ref f10)))
    (l10 : K.lookup f10 = some ⟨oc10, od10, .func (PySem.W.fnOf "is_number" "is_number" (defArgs sNumber) (defBody sNumber) (defScope sNumber) .none kV10 dc10 pm10 an10 cd10 ct10), sl10⟩)
    (c10 : PySem.W.codeIn K cd10 "is_number" = true)
    (k10 : PySem.W.keepIn K (.ref f10) = true)
    (a11 : PySem.W.nsIn K mainGlobals "is_head" = some (some (.ref f11)))
    (l11 : K.lookup f11 = some ⟨oc11, od11, .func (PySem.W.fnOf "is_head" "is_head" (defArgs sHead) (defBody sHead) (defScope sHead) .none kV11 dc11 pm11 an11 cd11 ct11), sl11⟩)
    (c11 : PySem.W.codeIn K cd11 "is_head" = true)
    (k11 : PySem.W.keepIn K (.ref f11) = true)
    (a12 : PySem.W.nsIn K mainGlobals "is_row" = some (some (.ref f12)))
    (l12 : K.lookup f12 = some ⟨oc12, od12, .func (PySem.W.fnOf "is_row" "is_row" (defArgs sRow) (defBody sRow) (defScope sRow) .none kV12 dc12 pm12 an12 cd12 ct12), sl12⟩)
    (c12 : PySem.W.codeIn K cd12 "is_row" = true)
    (k12 : PySem.W.keepIn K (.ref f12) = true)
    (a13 : PySem.W.nsIn K mainGlobals "numbers_of" = some (some (.ref f13)))
    (l13 : K.lookup f13 = some ⟨oc13, od13, .func (PySem.W.fnOf "numbers_of" "numbers_of" (defArgs sNums) (defBody sNums) (defScope sNums) .none kV13 dc13 pm13 an13 cd13 ct13), sl13⟩)
    (c13 : PySem.W.codeIn K cd13 "numbers_of" = true)
    (k13 : PySem.W.keepIn K (.ref f13) = true)
    (a14 : PySem.W.nsIn K mainGlobals "rows_from" = some (some (.ref f14)))
    (l14 : K.lookup f14 = some ⟨oc14, od14, .func (PySem.W.fnOf "rows_from" "rows_from" (defArgs sFrom) (defBody sFrom) (defScope sFrom) .none kV14 dc14 pm14 an14 cd14 ct14), sl14⟩)
    (c14 : PySem.W.codeIn K cd14 "rows_from" = true)
    (k14 : PySem.W.keepIn K (.ref f14) = true)
    (a15 : PySem.W.nsIn K mainGlobals "joined" = some (some (.ref f15)))
    (l15 : K.lookup f15 = some ⟨oc15, od15, .func (PySem.W.fnOf "joined" "joined" (defArgs sJoined) (defBody sJoined) (defScope sJoined) .none kV15 dc15 pm15 an15 cd15 ct15), sl15⟩)
    (c15 : PySem.W.codeIn K cd15 "joined" = true)
    (k15 : PySem.W.keepIn K (.ref f15) = true)
    (a16 : PySem.W.nsIn K mainGlobals "parse_square" = some (some (.ref f16)))
    (l16 : K.lookup f16 = some ⟨oc16, od16, .func (PySem.W.fnOf "parse_square" "parse_square" (defArgs sParse) (defBody sParse) (defScope sParse) .none kV16 dc16 pm16 an16 cd16 ct16), sl16⟩)
    (c16 : PySem.W.codeIn K cd16 "parse_square" = true)
    (k16 : PySem.W.keepIn K (.ref f16) = true)
    (a17 : PySem.W.nsIn K mainGlobals "_law_row" = some (some (.ref f17)))
    (l17 : K.lookup f17 = some ⟨oc17, od17, .func (PySem.W.fnOf "_law_row" "_law_row" (defArgs sLRow) (defBody sLRow) (defScope sLRow) .none kV17 dc17 pm17 an17 cd17 ct17), sl17⟩)
    (c17 : PySem.W.codeIn K cd17 "_law_row" = true)
    (k17 : PySem.W.keepIn K (.ref f17) = true)
    (a18 : PySem.W.nsIn K mainGlobals "_law_numbers" = some (some (.ref f18)))
    (l18 : K.lookup f18 = some ⟨oc18, od18, .func (PySem.W.fnOf "_law_numbers" "_law_numbers" (defArgs sLNums) (defBody sLNums) (defScope sLNums) .none kV18 dc18 pm18 an18 cd18 ct18), sl18⟩)
    (c18 : PySem.W.codeIn K cd18 "_law_numbers" = true)
    (k18 : PySem.W.keepIn K (.ref f18) = true)
    (a19 : PySem.W.nsIn K mainGlobals "_law_plain" = some (some (.ref f19)))
    (l19 : K.lookup f19 = some ⟨oc19, od19, .func (PySem.W.fnOf "_law_plain" "_law_plain" (defArgs sPlain) (defBody sPlain) (defScope sPlain) .none kV19 dc19 pm19 an19 cd19 ct19), sl19⟩)
    (c19 : PySem.W.codeIn K cd19 "_law_plain" = true)
    (k19 : PySem.W.keepIn K (.ref f19) = true)
    (a20 : PySem.W.nsIn K mainGlobals "_law_order_of" = some (some (.ref f20)))
    (l20 : K.lookup f20 = some ⟨oc20, od20, .func (PySem.W.fnOf "_law_order_of" "_law_order_of" (defArgs sOrder) (defBody sOrder) (defScope sOrder) .none kV20 dc20 pm20 an20 cd20 ct20), sl20⟩)
    (c20 : PySem.W.codeIn K cd20 "_law_order_of" = true)
    (k20 : PySem.W.keepIn K (.ref f20) = true)
    (a21 : PySem.W.nsIn K mainGlobals "_law_listed" = some (some (.ref f21)))
    (l21 : K.lookup f21 = some ⟨oc21, od21, .func (PySem.W.fnOf "_law_listed" "_law_listed" (defArgs sListed) (defBody sListed) (defScope sListed) .none kV21 dc21 pm21 an21 cd21 ct21), sl21⟩)
    (c21 : PySem.W.codeIn K cd21 "_law_listed" = true)
    (k21 : PySem.W.keepIn K (.ref f21) = true)
    (a22 : PySem.W.nsIn K mainGlobals "_law_apart" = some (some (.ref f22)))
    (l22 : K.lookup f22 = some ⟨oc22, od22, .func (PySem.W.fnOf "_law_apart" "_law_apart" (defArgs sApart) (defBody sApart) (defScope sApart) .none kV22 dc22 pm22 an22 cd22 ct22), sl22⟩)
    (c22 : PySem.W.codeIn K cd22 "_law_apart" = true)
    (k22 : PySem.W.keepIn K (.ref f22) = true)
    (a23 : PySem.W.nsIn K mainGlobals "_law_unit" = some (some (.ref f23)))
    (l23 : K.lookup f23 = some ⟨oc23, od23, .func (PySem.W.fnOf "_law_unit" "_law_unit" (defArgs sUnit) (defBody sUnit) (defScope sUnit) .none kV23 dc23 pm23 an23 cd23 ct23), sl23⟩)
    (c23 : PySem.W.codeIn K cd23 "_law_unit" = true)
    (k23 : PySem.W.keepIn K (.ref f23) = true)
    (a24 : PySem.W.nsIn K mainGlobals "_law_leaf" = some (some (.ref f24)))
    (l24 : K.lookup f24 = some ⟨oc24, od24, .func (PySem.W.fnOf "_law_leaf" "_law_leaf" (defArgs sLLeaf) (defBody sLLeaf) (defScope sLLeaf) .none kV24 dc24 pm24 an24 cd24 ct24), sl24⟩)
    (c24 : PySem.W.codeIn K cd24 "_law_leaf" = true)
    (k24 : PySem.W.keepIn K (.ref f24) = true)
    (a25 : PySem.W.nsIn K mainGlobals "_law_count" = some (some (.ref f25)))
    (l25 : K.lookup f25 = some ⟨oc25, od25, .func (PySem.W.fnOf "_law_count" "_law_count" (defArgs sCount) (defBody sCount) (defScope sCount) .none kV25 dc25 pm25 an25 cd25 ct25), sl25⟩)
    (c25 : PySem.W.codeIn K cd25 "_law_count" = true)
    (k25 : PySem.W.keepIn K (.ref f25) = true)
    (a26 : PySem.W.nsIn K mainGlobals "_law_many" = some (some (.ref f26)))
    (l26 : K.lookup f26 = some ⟨oc26, od26, .func (PySem.W.fnOf "_law_many" "_law_many" (defArgs sMany) (defBody sMany) (defScope sMany) .none kV26 dc26 pm26 an26 cd26 ct26), sl26⟩)
    (c26 : PySem.W.codeIn K cd26 "_law_many" = true)
    (k26 : PySem.W.keepIn K (.ref f26) = true)
    (a27 : PySem.W.nsIn K mainGlobals "_law_tree" = some (some (.ref f27)))
    (l27 : K.lookup f27 = some ⟨oc27, od27, .func (PySem.W.fnOf "_law_tree" "_law_tree" (defArgs sLTree) (defBody sLTree) (defScope sLTree) .none kV27 dc27 pm27 an27 cd27 ct27), sl27⟩)
    (c27 : PySem.W.codeIn K cd27 "_law_tree" = true)
    (k27 : PySem.W.keepIn K (.ref f27) = true)
    (a28 : PySem.W.nsIn K mainGlobals "_law_lines" = some (some (.ref f28)))
    (l28 : K.lookup f28 = some ⟨oc28, od28, .func (PySem.W.fnOf "_law_lines" "_law_lines" (defArgs sLLines) (defBody sLLines) (defScope sLLines) .none kV28 dc28 pm28 an28 cd28 ct28), sl28⟩)
    (c28 : PySem.W.codeIn K cd28 "_law_lines" = true)
    (k28 : PySem.W.keepIn K (.ref f28) = true)
    (a29 : PySem.W.nsIn K mainGlobals "_law_refused" = some (some (.ref f29)))
    (l29 : K.lookup f29 = some ⟨oc29, od29, .func (PySem.W.fnOf "_law_refused" "_law_refused" (defArgs sRefused) (defBody sRefused) (defScope sRefused) .none kV29 dc29 pm29 an29 cd29 ct29), sl29⟩)
    (c29 : PySem.W.codeIn K cd29 "_law_refused" = true)
    (k29 : PySem.W.keepIn K (.ref f29) = true)
    (a30 : PySem.W.nsIn K mainGlobals "law" = some (some (.ref f30)))
    (l30 : K.lookup f30 = some ⟨oc30, od30, .func (PySem.W.fnOf "law" "law" (defArgs sLaw) (defBody sLaw) (defScope sLaw) .none kV30 dc30 pm30 an30 cd30 ct30), sl30⟩)
    (c30 : PySem.W.codeIn K cd30 "law" = true)
    (k30 : PySem.W.keepIn K (.ref f30) = true)
    (ap : PySem.W.nsIn K mainGlobals "checked_part" = some (some (.ref fp)))
    (lp : K.lookup fp = some ⟨ocp, odp, .func (PySem.W.fnOf "checked_part" "checked_part" (defArgs sPart) (defBody sPart) (defScope sPart) (.ref T) kVp dcp pmp anp cdp ctp), slp⟩)
    (cp : PySem.W.codeIn K cdp "checked_part" = true)
    (kp : PySem.W.keepIn K (.ref fp) = true)
    (lT : K.lookup T = some oT)
    (eT : oT.data = .seq ([Value.int 1 tkp].toArray) nT)
    (gM : PySem.W.nsIn K mainGlobals "MEMBERS" = some (some (.ref dM)))
    (oM : K.lookup dM = some ⟨.type "dict", none, .dict esM nnM, #[]⟩)
    (yM : PySem.W.KeysLit w.params esM.toList)
    (wM : (dM == sysModules) = false)
    (vM0 : PySem.W.nsIn K dM "sum" = some (some (.int 4 uM0)))
    (vM1 : PySem.W.nsIn K dM "field" = some (some (.int 4 uM1)))
    (vM2 : PySem.W.nsIn K dM "listed" = some (some (.int 2 uM2)))
    (vM3 : PySem.W.nsIn K dM "product" = some (some (.int 3 uM3)))
    (vM4 : PySem.W.nsIn K dM "turned" = some (some (.int 3 uM4)))
    (gN : PySem.W.nsIn K mainGlobals "NUMBERS" = some (some (.ref dN)))
    (oN : K.lookup dN = some ⟨.type "dict", none, .dict esN nnN, #[]⟩)
    (yN : PySem.W.KeysLit w.params esN.toList)
    (wN : (dN == sysModules) = false)
    (vN0 : PySem.W.nsIn K dN "sum" = some (some (.int 3 uN0)))
    (vN1 : PySem.W.nsIn K dN "field" = some (some (.int 3 uN1)))
    (vN2 : PySem.W.nsIn K dN "listed" = some (some (.int 1 uN2)))
    (vN3 : PySem.W.nsIn K dN "product" = some (some (.int 0 uN3)))
    (vN4 : PySem.W.nsIn K dN "turned" = some (some (.int 3 uN4)))
    (gR : PySem.W.nsIn K mainGlobals "ARMS" = some (some (.ref dR)))
    (oR : K.lookup dR = some ⟨.type "dict", none, .dict esR nnR, #[]⟩)
    (yR : PySem.W.KeysLit w.params esR.toList)
    (wR : (dR == sysModules) = false)
    (vR0 : PySem.W.nsIn K dR "sum" = some (some (.int 0 uR0)))
    (vR1 : PySem.W.nsIn K dR "field" = some (some (.int 0 uR1)))
    (vR2 : PySem.W.nsIn K dR "listed" = some (some (.int 0 uR2)))
    (vR3 : PySem.W.nsIn K dR "product" = some (some (.int 2 uR3)))
    (vR4 : PySem.W.nsIn K dR "turned" = some (some (.int 1 uR4)))
    (n_mp : PySem.W.nsIn K mainGlobals "MOST_PRIME" = some (some (.int 1000000 t_mp)))
    (n_mb : PySem.W.nsIn K mainGlobals "MOST_BASE" = some (some (.int 97 t_mb)))
    (n_md : PySem.W.nsIn K mainGlobals "MOST_DEGREE" = some (some (.int 12 t_md)))
    (n_ms : PySem.W.nsIn K mainGlobals "MOST_SIZE" = some (some (.int 1000000000000000 t_ms)))
    (n_mo : PySem.W.nsIn K mainGlobals "MOST_ORDER" = some (some (.int 1000000000000000000000000000000 t_mo)))
    (n_mparts : PySem.W.nsIn K mainGlobals "MOST_PARTS" = some (some (.int 12 t_mparts)))
    (n_ml : PySem.W.nsIn K mainGlobals "MOST_LISTED" = some (some (.int 12 t_ml)))
    (n_row : PySem.W.nsIn K mainGlobals "ROW" = some (some (.int 0 t_row)))
    (n_col : PySem.W.nsIn K mainGlobals "COLUMN" = some (some (.int 1 t_col)))
    (n_sign : PySem.W.nsIn K mainGlobals "SIGN" = some (some (.int 2 t_sign)))
    (n_dig : PySem.W.nsIn K mainGlobals "DIGITS" = some (some (.str "0123456789" t_dig)))
    (n_mdig : PySem.W.nsIn K mainGlobals "MOST_DIGITS" = some (some (.int 31 t_mdig)))
    (n_gcd : PySem.W.nsIn K mainGlobals "gcd" = some (some (.builtin "math.gcd")))
    (z_len : PySem.W.nsIn K mainGlobals "len" = some none)
    (z_range : PySem.W.nsIn K mainGlobals "range" = some none)
    (z_list : PySem.W.nsIn K mainGlobals "list" = some none)
    (z_sorted : PySem.W.nsIn K mainGlobals "sorted" = some none)
    (z_tuple : PySem.W.nsIn K mainGlobals "tuple" = some none)
    (z_all : PySem.W.nsIn K mainGlobals "all" = some none)
    (z_int : PySem.W.nsIn K mainGlobals "int" = some none)
    (z_str : PySem.W.nsIn K mainGlobals "str" = some none)
    (z_abs : PySem.W.nsIn K mainGlobals "abs" = some none)
    (z_max : PySem.W.nsIn K mainGlobals "max" = some none)
    (z_isinstance : PySem.W.nsIn K mainGlobals "isinstance" = some none)
    (z_ValueError : PySem.W.nsIn K mainGlobals "ValueError" = some none)
    (e_g : PySem.W.nsIn K mainGlobals "InvalidSquare" = some (some (.ref C)))
    (e_x : PySem.W.excIn K C [.type "ValueError", .type "Exception", .type "BaseException", .type "object"] "ValueError.__new__" = true)
    (e_k : PySem.W.keepIn K (.ref C) = true)
    (e_b : PySem.W.subIn K (.ref C) (.type "BaseException") = some true)
    (e_t : PySem.W.typeIn K (.ref C) = some (.type "type"))
    (e_s : PySem.W.subIn K (.ref C) (.ref C) = some true)
    (e_v : PySem.W.subIn K (.ref C) (.type "ValueError") = some true)
    (x_g : PySem.W.findIn K (.ref C) "__getattribute__" = some (some (.builtin "BaseException.__getattribute__")))
    (x_k : PySem.W.findIn K (.ref C) "__getattr__" = some none)
    (x_d : PySem.W.hasDictIn K C = true)
    (x_a : PySem.W.findIn K (.ref C) "__class__" = some (some (.builtin "object.__class__")))
    (x_n : PySem.W.specialIn K (.builtin "object.__class__") "__get__" = some (some (.builtin "getset_descriptor.__get__")))
    (x_t : PySem.W.takesIn K (.builtin "object.__class__") = some true)
    (x_m : PySem.W.mroIn K C (.type "object") = some true) :
    ∃ fd : FuncData, (∀ (s : Shared) (v : Value), BindsTo s fd ⟨[v], []⟩ [("_law_script", v)]) ∧ ∀ base : Heap, K.In base → base.Ns mainGlobals mg → FnOk l.prog w K mg base CX0 20 fa fd ["_law_script"] (spLaw K) := by
  have e := hfa.symm.trans (PySem.W.mg_of X G a30)
  cases e
  have F0 := fun_mk (st := sPrime) l0 c0 k0
  have D0 : Df K mg "is_prime" sPrime ["number"] f0 _ := ⟨F0, F0.binds (ps := ["number"]) (fun _ _ _ _ _ _ us hl => match us, hl with | [_], _ => rfl), PySem.W.mg_of X G a0⟩
  have F1 := fun_mk (st := sSize) l1 c1 k1
  have D1 : Df K mg "size_of" sSize ["prime", "degree"] f1 _ := ⟨F1, F1.binds (ps := ["prime", "degree"]) (fun _ _ _ _ _ _ us hl => match us, hl with | [_, _], _ => rfl), PySem.W.mg_of X G a1⟩
  have F2 := fun_mk (st := sField) l2 c2 k2
  have D2 : Df K mg "is_field" sField ["prime", "degree"] f2 _ := ⟨F2, F2.binds (ps := ["prime", "degree"]) (fun _ _ _ _ _ _ us hl => match us, hl with | [_, _], _ => rfl), PySem.W.mg_of X G a2⟩
  have F3 := fun_mk (st := sReq) l3 c3 k3
  have D3 : Df K mg "require" sReq ["holds"] f3 _ := ⟨F3, F3.binds (ps := ["holds"]) (fun _ _ _ _ _ _ us hl => match us, hl with | [_], _ => rfl), PySem.W.mg_of X G a3⟩
  have F4 := fun_mk (st := sRows) l4 c4 k4
  have D4 : Df K mg "checked_rows" sRows ["rows"] f4 _ := ⟨F4, F4.binds (ps := ["rows"]) (fun _ _ _ _ _ _ us hl => match us, hl with | [_], _ => rfl), PySem.W.mg_of X G a4⟩
  have F5 := fun_mk (st := sLeaf) l5 c5 k5
  have D5 : Df K mg "checked_leaf" sLeaf ["tree"] f5 _ := ⟨F5, F5.binds (ps := ["tree"]) (fun _ _ _ _ _ _ us hl => match us, hl with | [_], _ => rfl), PySem.W.mg_of X G a5⟩
  have F6 := fun_mk (st := sChecked) l6 c6 k6
  have D6 : Df K mg "checked" sChecked ["tree"] f6 _ := ⟨F6, F6.binds (ps := ["tree"]) (fun _ _ _ _ _ _ us hl => match us, hl with | [_], _ => rfl), PySem.W.mg_of X G a6⟩
  have F7 := fun_mk (st := sLine) l7 c7 k7
  have D7 : Df K mg "line_of" sLine ["word", "numbers"] f7 _ := ⟨F7, F7.binds (ps := ["word", "numbers"]) (fun _ _ _ _ _ _ us hl => match us, hl with | [_, _], _ => rfl), PySem.W.mg_of X G a7⟩
  have F8 := fun_mk (st := sLines) l8 c8 k8
  have D8 : Df K mg "lines_of" sLines ["tree"] f8 _ := ⟨F8, F8.binds (ps := ["tree"]) (fun _ _ _ _ _ _ us hl => match us, hl with | [_], _ => rfl), PySem.W.mg_of X G a8⟩
  have F9 := fun_mk (st := sFormat) l9 c9 k9
  have D9 : Df K mg "format_square" sFormat ["tree"] f9 _ := ⟨F9, F9.binds (ps := ["tree"]) (fun _ _ _ _ _ _ us hl => match us, hl with | [_], _ => rfl), PySem.W.mg_of X G a9⟩
  have F10 := fun_mk (st := sNumber) l10 c10 k10
  have D10 : Df K mg "is_number" sNumber ["word"] f10 _ := ⟨F10, F10.binds (ps := ["word"]) (fun _ _ _ _ _ _ us hl => match us, hl with | [_], _ => rfl), PySem.W.mg_of X G a10⟩
  have F11 := fun_mk (st := sHead) l11 c11 k11
  have D11 : Df K mg "is_head" sHead ["words"] f11 _ := ⟨F11, F11.binds (ps := ["words"]) (fun _ _ _ _ _ _ us hl => match us, hl with | [_], _ => rfl), PySem.W.mg_of X G a11⟩
  have F12 := fun_mk (st := sRow) l12 c12 k12
  have D12 : Df K mg "is_row" sRow ["words"] f12 _ := ⟨F12, F12.binds (ps := ["words"]) (fun _ _ _ _ _ _ us hl => match us, hl with | [_], _ => rfl), PySem.W.mg_of X G a12⟩
  have F13 := fun_mk (st := sNums) l13 c13 k13
  have D13 : Df K mg "numbers_of" sNums ["words"] f13 _ := ⟨F13, F13.binds (ps := ["words"]) (fun _ _ _ _ _ _ us hl => match us, hl with | [_], _ => rfl), PySem.W.mg_of X G a13⟩
  have F14 := fun_mk (st := sFrom) l14 c14 k14
  have D14 : Df K mg "rows_from" sFrom ["lines", "at"] f14 _ := ⟨F14, F14.binds (ps := ["lines", "at"]) (fun _ _ _ _ _ _ us hl => match us, hl with | [_, _], _ => rfl), PySem.W.mg_of X G a14⟩
  have F15 := fun_mk (st := sJoined) l15 c15 k15
  have D15 : Df K mg "joined" sJoined ["waiting", "part"] f15 _ := ⟨F15, F15.binds (ps := ["waiting", "part"]) (fun _ _ _ _ _ _ us hl => match us, hl with | [_, _], _ => rfl), PySem.W.mg_of X G a15⟩
  have F16 := fun_mk (st := sParse) l16 c16 k16
  have D16 : Df K mg "parse_square" sParse ["text"] f16 _ := ⟨F16, F16.binds (ps := ["text"]) (fun _ _ _ _ _ _ us hl => match us, hl with | [_], _ => rfl), PySem.W.mg_of X G a16⟩
  have F17 := fun_mk (st := sLRow) l17 c17 k17
  have D17 : Df K mg "_law_row" sLRow ["_law_cell", "_law_many_here"] f17 _ := ⟨F17, F17.binds (ps := ["_law_cell", "_law_many_here"]) (fun _ _ _ _ _ _ us hl => match us, hl with | [_, _], _ => rfl), PySem.W.mg_of X G a17⟩
  have F18 := fun_mk (st := sLNums) l18 c18 k18
  have D18 : Df K mg "_law_numbers" sLNums ["_law_script", "_law_many_here"] f18 _ := ⟨F18, F18.binds (ps := ["_law_script", "_law_many_here"]) (fun _ _ _ _ _ _ us hl => match us, hl with | [_, _], _ => rfl), PySem.W.mg_of X G a18⟩
  have F19 := fun_mk (st := sPlain) l19 c19 k19
  have D19 : Df K mg "_law_plain" sPlain ["_law_number"] f19 _ := ⟨F19, F19.binds (ps := ["_law_number"]) (fun _ _ _ _ _ _ us hl => match us, hl with | [_], _ => rfl), PySem.W.mg_of X G a19⟩
  have F20 := fun_mk (st := sOrder) l20 c20 k20
  have D20 : Df K mg "_law_order_of" sOrder ["_law_numbers_here", "_law_at", "_law_count_here"] f20 _ := ⟨F20, F20.binds (ps := ["_law_numbers_here", "_law_at", "_law_count_here"]) (fun _ _ _ _ _ _ us hl => match us, hl with | [_, _, _], _ => rfl), PySem.W.mg_of X G a20⟩
  have F21 := fun_mk (st := sListed) l21 c21 k21
  have D21 : Df K mg "_law_listed" sListed ["_law_numbers_here", "_law_at"] f21 _ := ⟨F21, F21.binds (ps := ["_law_numbers_here", "_law_at"]) (fun _ _ _ _ _ _ us hl => match us, hl with | [_, _], _ => rfl), PySem.W.mg_of X G a21⟩
  have F22 := fun_mk (st := sApart) l22 c22 k22
  have D22 : Df K mg "_law_apart" sApart ["_law_one", "_law_other"] f22 _ := ⟨F22, F22.binds (ps := ["_law_one", "_law_other"]) (fun _ _ _ _ _ _ us hl => match us, hl with | [_, _], _ => rfl), PySem.W.mg_of X G a22⟩
  have F23 := fun_mk (st := sUnit) l23 c23 k23
  have D23 : Df K mg "_law_unit" sUnit ["_law_number", "_law_n"] f23 _ := ⟨F23, F23.binds (ps := ["_law_number", "_law_n"]) (fun _ _ _ _ _ _ us hl => match us, hl with | [_, _], _ => rfl), PySem.W.mg_of X G a23⟩
  have F24 := fun_mk (st := sLLeaf) l24 c24 k24
  have D24 : Df K mg "_law_leaf" sLLeaf ["_law_numbers_here", "_law_at"] f24 _ := ⟨F24, F24.binds (ps := ["_law_numbers_here", "_law_at"]) (fun _ _ _ _ _ _ us hl => match us, hl with | [_, _], _ => rfl), PySem.W.mg_of X G a24⟩
  have F25 := fun_mk (st := sCount) l25 c25 k25
  have D25 : Df K mg "_law_count" sCount ["_law_tree_here"] f25 _ := ⟨F25, F25.binds (ps := ["_law_tree_here"]) (fun _ _ _ _ _ _ us hl => match us, hl with | [_], _ => rfl), PySem.W.mg_of X G a25⟩
  have F26 := fun_mk (st := sMany) l26 c26 k26
  have D26 : Df K mg "_law_many" sMany ["_law_tree_here"] f26 _ := ⟨F26, F26.binds (ps := ["_law_tree_here"]) (fun _ _ _ _ _ _ us hl => match us, hl with | [_], _ => rfl), PySem.W.mg_of X G a26⟩
  have F27 := fun_mk (st := sLTree) l27 c27 k27
  have D27 : Df K mg "_law_tree" sLTree ["_law_numbers_here", "_law_at"] f27 _ := ⟨F27, F27.binds (ps := ["_law_numbers_here", "_law_at"]) (fun _ _ _ _ _ _ us hl => match us, hl with | [_, _], _ => rfl), PySem.W.mg_of X G a27⟩
  have F28 := fun_mk (st := sLLines) l28 c28 k28
  have D28 : Df K mg "_law_lines" sLLines ["_law_tree_here"] f28 _ := ⟨F28, F28.binds (ps := ["_law_tree_here"]) (fun _ _ _ _ _ _ us hl => match us, hl with | [_], _ => rfl), PySem.W.mg_of X G a28⟩
  have F29 := fun_mk (st := sRefused) l29 c29 k29
  have D29 : Df K mg "_law_refused" sRefused ["_law_tree_here"] f29 _ := ⟨F29, F29.binds (ps := ["_law_tree_here"]) (fun _ _ _ _ _ _ us hl => match us, hl with | [_], _ => rfl), PySem.W.mg_of X G a29⟩
  have F30 := fun_mk (st := sLaw) l30 c30 k30
  obtain ⟨fdp, Fp⟩ : ∃ fdp : FuncData, FunD K "checked_part" "checked_part" (defArgs sPart) (defBody sPart) (defScope sPart) [.int 1] [] fp fdp := ⟨_, ⟨ocp, odp, .ref T, kVp, dcp, pmp, anp, cdp, ctp, slp, rfl, lp, cp, .inr ⟨by simp, T, oT, [Value.int 1 tkp], nT, rfl, lT, eT, .cons ⟨tkp, rfl⟩ .nil⟩, .inl rfl⟩, kp⟩
  have bp0 : Binds K fdp ["tree", "depth"] [] := by
    obtain ⟨ds, hd, hb⟩ := Fp.binds1 (ps := ["tree", "depth"]) 2 1 (by simp) rfl (fun _ _ _ _ _ _ _ us its h1 h2 => match us, its, h1, h2 with | [_, _], [_], _, _ => ⟨_, rfl, rfl⟩)
    cases hd
    exact hb
  obtain ⟨ds, dp, bp1⟩ := Fp.binds1 (ps := ["tree", "depth"]) 1 0 (by simp) rfl (fun _ _ _ _ _ _ _ us its h1 h2 => match us, its, h1, h2 with | [_], [_], _, _ => ⟨_, rfl, rfl⟩)
  have B : Bl mg := ⟨PySem.W.mg_none_of X G z_len, PySem.W.mg_none_of X G z_range, PySem.W.mg_none_of X G z_list, PySem.W.mg_none_of X G z_sorted, PySem.W.mg_none_of X G z_tuple, PySem.W.mg_none_of X G z_all, PySem.W.mg_none_of X G z_int, PySem.W.mg_none_of X G z_str, PySem.W.mg_none_of X G z_abs, PySem.W.mg_none_of X G z_max, PySem.W.mg_none_of X G z_isinstance, PySem.W.mg_none_of X G z_ValueError⟩
  have Cn : Ct mg := ⟨⟨t_mp, PySem.W.mg_of X G n_mp⟩, ⟨t_mb, PySem.W.mg_of X G n_mb⟩, ⟨t_md, PySem.W.mg_of X G n_md⟩, ⟨t_ms, PySem.W.mg_of X G n_ms⟩, ⟨t_mo, PySem.W.mg_of X G n_mo⟩, ⟨t_mparts, PySem.W.mg_of X G n_mparts⟩, ⟨t_ml, PySem.W.mg_of X G n_ml⟩, ⟨t_row, PySem.W.mg_of X G n_row⟩, ⟨t_col, PySem.W.mg_of X G n_col⟩, ⟨t_sign, PySem.W.mg_of X G n_sign⟩, ⟨t_dig, PySem.W.mg_of X G n_dig⟩, ⟨t_mdig, PySem.W.mg_of X G n_mdig⟩, PySem.W.mg_of X G n_gcd⟩
  have TM : Tb K w mg "MEMBERS" dM esM nnM members := ⟨PySem.W.mg_of X G gM, ⟨oM, yM, wM⟩, fun p hp => by
    unfold members at hp
    simp only [List.mem_cons, List.not_mem_nil, or_false] at hp
    rcases hp with e | e | e | e | e
    · subst e; exact ⟨_, vM0, ⟨_, rfl⟩⟩
    · subst e; exact ⟨_, vM1, ⟨_, rfl⟩⟩
    · subst e; exact ⟨_, vM2, ⟨_, rfl⟩⟩
    · subst e; exact ⟨_, vM3, ⟨_, rfl⟩⟩
    · subst e; exact ⟨_, vM4, ⟨_, rfl⟩⟩⟩
  have TN : Tb K w mg "NUMBERS" dN esN nnN numTab := ⟨PySem.W.mg_of X G gN, ⟨oN, yN, wN⟩, fun p hp => by
    unfold numTab at hp
    simp only [List.mem_cons, List.not_mem_nil, or_false] at hp
    rcases hp with e | e | e | e | e
    · subst e; exact ⟨_, vN0, ⟨_, rfl⟩⟩
    · subst e; exact ⟨_, vN1, ⟨_, rfl⟩⟩
    · subst e; exact ⟨_, vN2, ⟨_, rfl⟩⟩
    · subst e; exact ⟨_, vN3, ⟨_, rfl⟩⟩
    · subst e; exact ⟨_, vN4, ⟨_, rfl⟩⟩⟩
  have TR : Tb K w mg "ARMS" dR esR nnR armsTab := ⟨PySem.W.mg_of X G gR, ⟨oR, yR, wR⟩, fun p hp => by
    unfold armsTab at hp
    simp only [List.mem_cons, List.not_mem_nil, or_false] at hp
    rcases hp with e | e | e | e | e
    · subst e; exact ⟨_, vR0, ⟨_, rfl⟩⟩
    · subst e; exact ⟨_, vR1, ⟨_, rfl⟩⟩
    · subst e; exact ⟨_, vR2, ⟨_, rfl⟩⟩
    · subst e; exact ⟨_, vR3, ⟨_, rfl⟩⟩
    · subst e; exact ⟨_, vR4, ⟨_, rfl⟩⟩⟩
  have E1 : Ex K mg C := ⟨PySem.W.mg_of X G e_g, e_x, e_k, e_b, e_t⟩
  have E2 : Ex2 K mg C := ⟨PySem.W.mg_of X G e_g, PySem.W.exm_ref e_b x_d e_t e_s, ⟨x_g, x_k, e_b, x_d, x_a, x_n, x_t, x_m⟩, e_v⟩
  refine ⟨PySem.W.fnOf "law" "law" (defArgs sLaw) (defBody sLaw) (defScope sLaw) .none kV30 dc30 pm30 an30 cd30 ct30, fun s v => .of_eq rfl, fun base _ _ => ?_⟩
  have G_prime := ok_prime (P := l.prog) (w := w) (mg := mg) (base := base) F0
  have G_size := ok_size (P := l.prog) (w := w) (mg := mg) (base := base) B F1
  have G_field := ok_field (P := l.prog) (w := w) (mg := mg) (base := base) Cn F2 D0 G_prime D1 G_size
  have G_req := ok_req (P := l.prog) (w := w) (mg := mg) (base := base) E1 F3
  have G_rows : FnOk l.prog w K mg base (L2.CX l.prog w) 2 f4 _ ["rows"] (fun vs H Q E => ∃ b, spRows C b vs H Q E) := FnOk.ofB fun b => match b with
    | true => ok_rowsL B Cn F4 D3 G_req
    | false => ok_rowsT B Cn F4 D3 G_req
  have G_leaf := ok_leaf (P := l.prog) (w := w) (mg := mg) (base := base) B Cn F5 D3 G_req D4 G_rows D2 G_field D1 G_size
  have G_part := ok_part (P := l.prog) (w := w) (mg := mg) (base := base) B Cn TM Fp (PySem.W.mg_of X G ap) bp0 D3 G_req D5 G_leaf 13
  have G_checked := ok_checked (P := l.prog) (w := w) (mg := mg) (base := base) F6 (PySem.W.mg_of X G ap) kp bp1 dp G_part
  have G_line : FnOk l.prog w K mg base CX0 1 f7 _ ["word", "numbers"] (fun vs H Q E => ∃ b, spLine b vs H Q E) := FnOk.ofB fun b => match b with
    | true => ok_lineL B F7
    | false => ok_lineT B F7
  have G_lines := ok_lines (P := l.prog) (w := w) (mg := mg) (base := base) B D8 D7 G_line 12
  have G_format := ok_format (P := l.prog) (w := w) (mg := mg) (base := base) F9 D6 G_checked D8 G_lines
  have G_number := ok_number (P := l.prog) (w := w) (mg := mg) (base := base) B Cn F10
  have G_head := ok_head (P := l.prog) (w := w) (mg := mg) (base := base) B TN F11 D10 G_number
  have G_row := ok_row (P := l.prog) (w := w) (mg := mg) (base := base) B F12 D10 G_number
  have G_nums := ok_nums (P := l.prog) (w := w) (mg := mg) (base := base) B F13
  have G_from := ok_from (P := l.prog) (w := w) (mg := mg) (base := base) B F14 D12 G_row D13 G_nums
  have G_joined := ok_joined (P := l.prog) (w := w) (mg := mg) (base := base) B TR F15
  have G_parse := ok_parse (P := l.prog) (w := w) (mg := mg) (base := base) B TR F16 D11 G_head D13 G_nums D14 G_from D15 G_joined D6 G_checked
  have G_lrow := ok_lrow (P := l.prog) (w := w) (mg := mg) (base := base) B F17
  have G_lnums := ok_lnums (P := l.prog) (w := w) (mg := mg) (base := base) B F18 D17 G_lrow
  have G_plain := ok_plain (P := l.prog) (w := w) (mg := mg) (base := base) B F19
  have G_order := ok_order (P := l.prog) (w := w) (mg := mg) (base := base) B F20
  have G_listed := ok_listed (P := l.prog) (w := w) (mg := mg) (base := base) B F21 D19 G_plain D20 G_order
  have G_apart := ok_apart (P := l.prog) (w := w) (mg := mg) (base := base) B F22
  have G_unit := ok_unit (P := l.prog) (w := w) (mg := mg) (base := base) B F23 D22 G_apart
  have G_lleaf := ok_lleaf (P := l.prog) (w := w) (mg := mg) (base := base) B F24 D23 G_unit D21 G_listed
  have G_count := ok_count (P := l.prog) (w := w) (mg := mg) (base := base) B D25 15
  have G_many := ok_many (P := l.prog) (w := w) (mg := mg) (base := base) B D26 15
  have G_ltree := ok_ltree (P := l.prog) (w := w) (mg := mg) (base := base) B F27 D24 G_lleaf D25 G_count D26 G_many
  have G_llines := ok_llines (P := l.prog) (w := w) (mg := mg) (base := base) B D28 12
  have G_refused := ok_refused (P := l.prog) (w := w) (mg := mg) (base := base) B E2 F29 D9 G_format
  exact ok_law B F30 D18 G_lnums D27 G_ltree D28 G_llines D9 G_format D16 G_parse D29 G_refused
theorem walk {l : PySem.W.OpenLaw} {q : Program} {loose : List Str} {XP : (Str → Option Value) → Heap → Prop} {YP : World → Heap → Prop} {d : DefRec} {K : Params → PySem.W.Frag} (hn : l.most = some 63) (hdf : d.params.defaults = [])
    (hY : ∀ (w : World) (h : Heap), YP w h → (K w.params).In h)
    (F : ∀ (w : World) (mg : Str → Option Value) (fa : Addr) (h : Heap), (K w.params).In h → h.Ns mainGlobals mg → mg d.name = some (.ref fa) →
      ∃ fd : FuncData, (∀ (s : Shared) (u : Value), BindsTo s fd ⟨[u], []⟩ [("_law_script", u)]) ∧ ∀ base : Heap, (K w.params).In base → base.Ns mainGlobals mg → FnOk l.prog w (K w.params) mg base CX0 20 fa fd ["_law_script"] (spLaw (K w.params))) :
    PySem.W.WalkO q loose XP YP l.row.toRowW d [] (fun f vs => PySem.call f vs) :=
  L2.walk_of (n := 63) (k := 20) (x := "_law_script") (CX := fun _ => CX0) (sp := fun w => spLaw (K w.params)) hn (by decide) hdf ⟨rfl, by decide, by decide⟩ hY F (fun _ _ a ns hl _ hS => ⟨a, ns, rfl, hS, hl, fun _ => rfl⟩) fun _ _ _ _ _ z => z
end K5
section
set_option maxHeartbeats 0
open PySem PySem.W PyProof.Rows
open_top head for PySem.Challenge.rw_matedsquares_k05_whole_text_and_back
end
open PySem PySem.W PyProof.Rows
set_option maxHeartbeats 0 in
theorem PySem.Challenge.cw_matedsquares_k05_whole_text_and_back_holds : PySem.Challenge.rw_matedsquares_k05_whole_text_and_back.Holds := by
  refine head ?_
  k_fill
  refine K5.walk (l := PySem.Challenge.rw_matedsquares_k05_whole_text_and_back) rfl rfl (fun w h Y => PySem.W.kIn_of Y) ?F
  case F =>
    intro w mg fa h KX G hmg
    refine' K5.all_mk KX G hmg ?a0 ?l0 ?c0 ?k0 ?a1 ?l1 ?c1 ?k1 ?a2 ?l2 ?c2 ?k2 ?a3 ?l3 ?c3 ?k3 ?a4 ?l4 ?c4 ?k4 ?a5 ?l5 ?c5 ?k5 ?a6 ?l6 ?c6 ?k6 ?a7 ?l7 ?c7 ?k7 ?a8 ?l8 ?c8 ?k8 ?a9 ?l9 ?c9 ?k9 ?a10 ?l10 ?c10 ?k10 ?a11 ?l11 ?c11 ?k11 ?a12 ?l12 ?c12 ?k12 ?a13 ?l13 ?c13 ?k13 ?a14 ?l14 ?c14 ?k14 ?a15 ?l15 ?c15 ?k15 ?a16 ?l16 ?c16 ?k16 ?a17 ?l17 ?c17 ?k17 ?a18 ?l18 ?c18 ?k18 ?a19 ?l19 ?c19 ?k19 ?a20 ?l20 ?c20 ?k20 ?a21 ?l21 ?c21 ?k21 ?a22 ?l22 ?c22 ?k22 ?a23 ?l23 ?c23 ?k23 ?a24 ?l24 ?c24 ?k24 ?a25 ?l25 ?c25 ?k25 ?a26 ?l26 ?c26 ?k26 ?a27 ?l27 ?c27 ?k27 ?a28 ?l28 ?c28 ?k28 ?a29 ?l29 ?c29 ?k29 ?a30 ?l30 ?c30 ?k30 ?ap ?lp ?cp ?kp ?lT ?eT ?gM ?oM ?yM ?wM ?vM0 ?vM1 ?vM2 ?vM3 ?vM4 ?gN ?oN ?yN ?wN ?vN0 ?vN1 ?vN2 ?vN3 ?vN4 ?gR ?oR ?yR ?wR ?vR0 ?vR1 ?vR2 ?vR3 ?vR4 ?n_mp ?n_mb ?n_md ?n_ms ?n_mo ?n_mparts ?n_ml ?n_row ?n_col ?n_sign ?n_dig ?n_mdig ?n_gcd ?z_len ?z_range ?z_list ?z_sorted ?z_tuple ?z_all ?z_int ?z_str ?z_abs ?z_max ?z_isinstance ?z_ValueError ?e_g ?e_x ?e_k ?e_b ?e_t ?e_s ?e_v ?x_g ?x_k ?x_d ?x_a ?x_n ?x_t ?x_m
    (case a0 => k_is)
    (case l0 => k_is)
    (case c0 => k_is)
    (case k0 => k_is)
    (case a1 => k_is)
    (case l1 => k_is)
    (case c1 => k_is)
    (case k1 => k_is)
    (case a2 => k_is)
    (case l2 => k_is)
    (case c2 => k_is)
    (case k2 => k_is)
    (case a3 => k_is)
    (case l3 => k_is)
    (case c3 => k_is)
    (case k3 => k_is)
    (case a4 => k_is)
    (case l4 => k_is)
    (case c4 => k_is)
    (case k4 => k_is)
    (case a5 => k_is)
    (case l5 => k_is)
    (case c5 => k_is)
    (case k5 => k_is)
    (case a6 => k_is)
    (case l6 => k_is)
    (case c6 => k_is)
    (case k6 => k_is)
    (case a7 => k_is)
    (case l7 => k_is)
    (case c7 => k_is)
    (case k7 => k_is)
    (case a8 => k_is)
    (case l8 => k_is)
    (case c8 => k_is)
    (case k8 => k_is)
    (case a9 => k_is)
    (case l9 => k_is)
    (case c9 => k_is)
    (case k9 => k_is)
    (case a10 => k_is)
    (case l10 => k_is)
    (case c10 => k_is)
    (case k10 => k_is)
    (case a11 => k_is)
    (case l11 => k_is)
    (case c11 => k_is)
    (case k11 => k_is)
    (case a12 => k_is)
    (case l12 => k_is)
    (case c12 => k_is)
    (case k12 => k_is)
    (case a13 => k_is)
    (case l13 => k_is)
    (case c13 => k_is)
    (case k13 => k_is)
    (case a14 => k_is)
    (case l14 => k_is)
    (case c14 => k_is)
    (case k14 => k_is)
    (case a15 => k_is)
    (case l15 => k_is)
    (case c15 => k_is)
    (case k15 => k_is)
    (case a16 => k_is)
    (case l16 => k_is)
    (case c16 => k_is)
    (case k16 => k_is)
    (case a17 => k_is)
    (case l17 => k_is)
    (case c17 => k_is)
    (case k17 => k_is)
    (case a18 => k_is)
    (case l18 => k_is)
    (case c18 => k_is)
    (case k18 => k_is)
    (case a19 => k_is)
    (case l19 => k_is)
    (case c19 => k_is)
    (case k19 => k_is)
    (case a20 => k_is)
    (case l20 => k_is)
    (case c20 => k_is)
    (case k20 => k_is)
    (case a21 => k_is)
    (case l21 => k_is)
    (case c21 => k_is)
    (case k21 => k_is)
    (case a22 => k_is)
    (case l22 => k_is)
    (case c22 => k_is)
    (case k22 => k_is)
    (case a23 => k_is)
    (case l23 => k_is)
    (case c23 => k_is)
    (case k23 => k_is)
    (case a24 => k_is)
    (case l24 => k_is)
    (case c24 => k_is)
    (case k24 => k_is)
    (case a25 => k_is)
    (case l25 => k_is)
    (case c25 => k_is)
    (case k25 => k_is)
    (case a26 => k_is)
    (case l26 => k_is)
    (case c26 => k_is)
    (case k26 => k_is)
    (case a27 => k_is)
    (case l27 => k_is)
    (case c27 => k_is)
    (case k27 => k_is)
    (case a28 => k_is)
    (case l28 => k_is)
    (case c28 => k_is)
    (case k28 => k_is)
    (case a29 => k_is)
    (case l29 => k_is)
    (case c29 => k_is)
    (case k29 => k_is)
    (case a30 => k_is)
    (case l30 => k_is)
    (case c30 => k_is)
    (case k30 => k_is)
    (case ap => k_is)
    (case lp => k_is)
    (case cp => k_is)
    (case kp => k_is)
    (case lT => k_is)
    (case eT => rfl)
    (case gM => k_is)
    (case oM => k_is)
    (case yM => k_keys)
    (case wM => rfl)
    (case vM0 => k_is)
    (case vM1 => k_is)
    (case vM2 => k_is)
    (case vM3 => k_is)
    (case vM4 => k_is)
    (case gN => k_is)
    (case oN => k_is)
    (case yN => k_keys)
    (case wN => rfl)
    (case vN0 => k_is)
    (case vN1 => k_is)
    (case vN2 => k_is)
    (case vN3 => k_is)
    (case vN4 => k_is)
    (case gR => k_is)
    (case oR => k_is)
    (case yR => k_keys)
    (case wR => rfl)
    (case vR0 => k_is)
    (case vR1 => k_is)
    (case vR2 => k_is)
    (case vR3 => k_is)
    (case vR4 => k_is)
    (case n_mp => k_is)
    (case n_mb => k_is)
    (case n_md => k_is)
    (case n_ms => k_is)
    (case n_mo => k_is)
    (case n_mparts => k_is)
    (case n_ml => k_is)
    (case n_row => k_is)
    (case n_col => k_is)
    (case n_sign => k_is)
    (case n_dig => k_is)
    (case n_mdig => k_is)
    (case n_gcd => k_is)
    (case z_len => k_is)
    (case z_range => k_is)
    (case z_list => k_is)
    (case z_sorted => k_is)
    (case z_tuple => k_is)
    (case z_all => k_is)
    (case z_int => k_is)
    (case z_str => k_is)
    (case z_abs => k_is)
    (case z_max => k_is)
    (case z_isinstance => k_is)
    (case z_ValueError => k_is)
    (case e_g => k_is)
    (case e_x => k_exc)
    (case e_k => k_is)
    (case e_b => k_is)
    (case e_t => k_is)
    (case e_s => k_is)
    (case e_v => k_is)
    (case x_g => k_is)
    (case x_k => k_is)
    (case x_d => k_is)
    (case x_a => k_is)
    (case x_n => k_is)
    (case x_t => k_is)
    (case x_m => k_is)
