import PyProof.Rows.All
import Wide.All
import OpenK.AllK
import Wide.FinOn
import HandS.ForMost
import HandS.ForExc
import HandS.Wide
import HandS.IsInst
import HandS.Zip
import HandS.Walk
import KE.GoesEnum
import HandS.Style
import HandS.Small
import HandS.TryOnly
import PySem.Challenge.RW_cubicway_k56_whole_heights_of_doubles
set_option Elab.async false
section
set_option linter.all false
namespace Cw
theorem gcd_step (a b : Int) : Int.gcd b (a.fmod b) = Int.gcd a b := by
  rw [Int.fmod_def, Int.gcd_sub_mul_left_right, Int.gcd_comm]
theorem fmod_lt (a b : Int) (h : b ≠ 0) : (a.fmod b).natAbs < b.natAbs := by
  by_cases hb : 0 < b
  · have h1 := Int.fmod_nonneg_of_pos a hb
    have h2 := Int.fmod_lt_of_pos a hb
    omega
  · have h1 := Int.fmod_nonneg_of_pos (-a) (show 0 < -b by omega)
    have h2 := Int.fmod_lt_of_pos (-a) (show 0 < -b by omega)
    rw [Int.neg_fmod_neg] at h1 h2
    omega
theorem fdiv_of {a b k : Int} (hb : b ≠ 0) (h : a = b * k) : a.fdiv b = k := by
  subst h
  exact Int.mul_fdiv_cancel_left k hb
/-- the factor by which top and bottom are lowest terms times it -/
theorem low_of {top bottom : Int} (h : bottom ≠ 0) : ∃ m : Int, m ≠ 0 ∧ top = (Rat.divInt top bottom).num * m ∧ bottom = (Rat.divInt top bottom).den * m ∧ m = (if 0 < bottom then (Int.gcd top bottom : Int) else -(Int.gcd top bottom : Int)) := by
  obtain ⟨m, hm, h1, h2⟩ := Rat.divInt_num_den h (show Rat.divInt top bottom = ⟨(Rat.divInt top bottom).num, (Rat.divInt top bottom).den, (Rat.divInt top bottom).den_nz, (Rat.divInt top bottom).reduced⟩ from rfl)
  refine ⟨m, hm, h1, h2, ?_⟩
  generalize Rat.divInt top bottom = q at h1 h2
  have hd : 0 < (q.den : Int) := by have := q.den_nz; omega
  have hg : (Int.gcd top bottom : Int) = m.natAbs := by
    rw [h1, h2, Int.gcd_mul_right]
    have hr : Int.gcd q.num (q.den : Int) = 1 := q.reduced
    rw [hr]; simp
  rw [hg]
  by_cases hp : 0 < m
  · have : 0 < bottom := by rw [h2]; exact Int.mul_pos hd hp
    rw [if_pos this]; omega
  · have : ¬ 0 < bottom := by
      intro z
      rw [h2] at z
      exact hp (pos_of_mul_pos_left z hd)
    rw [if_neg this]; omega
where
  pos_of_mul_pos_left {a b : Int} (h : 0 < a * b) (ha : 0 < a) : 0 < b := by
    by_cases hb : 0 < b
    · exact hb
    · have := Int.mul_nonpos_of_nonneg_of_nonpos (Int.le_of_lt ha) (Int.not_lt.mp hb)
      omega
theorem low_den_one {top bottom : Int} : (bottom = (if 0 < bottom then (Int.gcd top bottom : Int) else -(Int.gcd top bottom : Int)) ∧ bottom ≠ 0) → (Rat.divInt top bottom).den = 1 := by
  rintro ⟨h, h0⟩
  obtain ⟨m, hm, h1, h2, h3⟩ := low_of (top := top) h0
  rw [← h3] at h
  have e : (((Rat.divInt top bottom).den : Int) - 1) * m = 0 := by
    rw [Int.sub_mul, ← h2, h]; omega
  rcases Int.mul_eq_zero.mp e with e | e
  · omega
  · exact absurd e hm
theorem mul_low (a b : Rat) : Rat.divInt (a.num * b.num) (a.den * b.den) = a * b := by
  rw [Rat.mul_def', ← Rat.divInt_ofNat]
  rw [Int.natCast_mul]
theorem add_low (a b : Rat) : Rat.divInt (a.num * b.den + b.num * a.den) (a.den * b.den) = a + b := by
  rw [Rat.add_def', ← Rat.divInt_ofNat]
  rw [Int.natCast_mul]
theorem div_low (a b : Rat) (h : b ≠ 0) : Rat.divInt (a.num * b.den) (a.den * b.num) = a / b := by
  have hb : b.num ≠ 0 := fun z => h (Rat.num_eq_zero.mp z)
  rw [Rat.divInt_eq_div]
  have ha : a = (a.num : Rat) / (a.den : Rat) := by
    have := Rat.num_divInt_den a
    rw [Rat.divInt_eq_div] at this
    exact this.symm
  have hb' : b = (b.num : Rat) / (b.den : Rat) := by
    have := Rat.num_divInt_den b
    rw [Rat.divInt_eq_div] at this
    exact this.symm
  have h1 : (a.den : Rat) ≠ 0 := by simp [a.den_nz]
  have h2 : (b.den : Rat) ≠ 0 := by simp [b.den_nz]
  have h3 : (b.num : Rat) ≠ 0 := by simp [hb]
  rw [Rat.intCast_mul, Rat.intCast_mul, Rat.intCast_natCast, Rat.intCast_natCast]
  conv => rhs; rw [ha, hb']
  grind
/-- not too great -/
def Sm (q : Rat) : Prop := q.num.natAbs < 2 ^ 4000 ∧ q.den < 2 ^ 4000
theorem sm_int {i : Int} (h : i.natAbs < 2 ^ 4000) : Sm (i : Rat) := ⟨h, by show 1 < _; exact Nat.one_lt_two_pow (by decide)⟩
end Cw
end
section
set_option linter.all false
set_option maxHeartbeats 1000000
namespace Cw
/-! sums -/
def sm : Nat → (Nat → Int) → Int
  | 0, _ => 0
  | n + 1, f => sm n f + f n
theorem sm_congr : ∀ {n : Nat} {f g : Nat → Int}, (∀ i, i < n → f i = g i) → sm n f = sm n g
  | 0, _, _, _ => rfl
  | n + 1, f, g, h => by
    unfold sm
    rw [sm_congr (n := n) fun i hi => h i (by omega), h n (by omega)]
theorem sm_zero : ∀ {n : Nat} {f : Nat → Int}, (∀ i, i < n → f i = 0) → sm n f = 0
  | 0, _, _ => rfl
  | n + 1, f, h => by
    unfold sm
    rw [sm_zero (n := n) fun i hi => h i (by omega), h n (by omega)]
    rfl
theorem sm_mul (a : Int) : ∀ {n : Nat} {f : Nat → Int}, sm n (fun i => a * f i) = a * sm n f
  | 0, _ => by simp [sm]
  | n + 1, f => by
    unfold sm
    rw [sm_mul a (n := n), Int.mul_add]
theorem sm_add : ∀ {n : Nat} {f g : Nat → Int}, sm n (fun i => f i + g i) = sm n f + sm n g
  | 0, _, _ => rfl
  | n + 1, f, g => by
    simp only [sm, sm_add (n := n)]
    omega
theorem sm_sub : ∀ {n : Nat} {f g : Nat → Int}, sm n (fun i => f i - g i) = sm n f - sm n g
  | 0, _, _ => rfl
  | n + 1, f, g => by
    simp only [sm, sm_sub (n := n)]
    omega
/-- one term alone -/
theorem sm_one : ∀ {n : Nat} {f : Nat → Int} (k : Nat), k < n → (∀ i, i < n → i ≠ k → f i = 0) → sm n f = f k
  | 0, _, _, h, _ => by omega
  | n + 1, f, k, hk, h => by
    unfold sm
    by_cases e : k = n
    · subst e
      rw [sm_zero (n := k) fun i hi => h i (by omega) (by omega)]
      omega
    · rw [sm_one (n := n) k (by omega) fun i hi hne => h i (by omega) hne, h n (by omega) (by omega)]
      omega
theorem sm_if {n k : Nat} (hk : k < n) (x : Int) : sm n (fun i => if i = k then x else 0) = x := by
  rw [sm_one k hk fun i _ hi => by simp [hi]]
  simp
/-- two terms alone -/
theorem sm_two {n : Nat} {f : Nat → Int} (k l : Nat) (hk : k < n) (hl : l < n) (hkl : k ≠ l) (h : ∀ i, i < n → i ≠ k → i ≠ l → f i = 0) : sm n f = f k + f l := by
  have e : sm n f = sm n (fun i => (if i = k then f k else 0) + (if i = l then f l else 0)) := sm_congr fun i hi => by
    by_cases h1 : i = k
    · subst h1
      simp [hkl]
    · by_cases h2 : i = l
      · subst h2
        simp [h1]
      · simp [h1, h2, h i hi h1 h2]
  rw [e, sm_add, sm_if hk, sm_if hl]
/-! products -/
def pr : Nat → (Nat → Int) → Int
  | 0, _ => 1
  | n + 1, f => pr n f * f n
theorem pr_ne : ∀ {n : Nat} {f : Nat → Int}, (∀ i, i < n → f i ≠ 0) → pr n f ≠ 0
  | 0, _, _ => by show (1 : Int) ≠ 0; decide
  | n + 1, f, h => by
    unfold pr
    exact Int.mul_ne_zero (pr_ne (n := n) fun i hi => h i (by omega)) (h n (by omega))
theorem pr_dvd : ∀ {n : Nat} {f : Nat → Int} (k : Nat), k < n → f k ∣ pr n f
  | 0, _, _, h => by omega
  | n + 1, f, k, hk => by
    unfold pr
    by_cases e : k = n
    · subst e
      exact Int.dvd_mul_left _ _
    · exact Int.dvd_trans (pr_dvd (n := n) k (by omega)) (Int.dvd_mul_right _ _)
/-! the greatest divisor of a row -/
def gcdL (r : List Int) : Int := r.foldl (fun p x => (Int.gcd p x : Int)) 0
theorem gcdF_dvd : ∀ (r : List Int) (p : Int), (r.foldl (fun p x => (Int.gcd p x : Int)) p) ∣ p ∧ ∀ x ∈ r, (r.foldl (fun p x => (Int.gcd p x : Int)) p) ∣ x
  | [], p => ⟨Int.dvd_refl _, fun x h => by simp at h⟩
  | y :: r, p => by
    obtain ⟨h1, h2⟩ := gcdF_dvd r (Int.gcd p y : Int)
    refine ⟨Int.dvd_trans h1 (Int.gcd_dvd_left ..), fun x hx => ?_⟩
    rcases List.mem_cons.mp hx with rfl | hx
    · exact Int.dvd_trans h1 (Int.gcd_dvd_right ..)
    · exact h2 x hx
theorem gcdL_dvd {r : List Int} {x : Int} (h : x ∈ r) : gcdL r ∣ x := (gcdF_dvd r 0).2 x h
theorem gcdF_nn : ∀ (r : List Int) (p : Int), 0 ≤ p → 0 ≤ r.foldl (fun p x => (Int.gcd p x : Int)) p
  | [], p, h => h
  | y :: r, p, _ => gcdF_nn r _ (Int.natCast_nonneg _)
theorem gcdL_nn (r : List Int) : 0 ≤ gcdL r := gcdF_nn r 0 (Int.le_refl _)
theorem gcdL_pos {r : List Int} {x : Int} (h : x ∈ r) (hx : x ≠ 0) : 0 < gcdL r := by
  have h1 := gcdL_nn r
  have h2 := gcdL_dvd h
  rcases Int.lt_or_eq_of_le h1 with h3 | h3
  · exact h3
  · rw [← h3] at h2
    exact absurd (Int.zero_dvd.mp h2) hx
/-- what divides all divides it -/
theorem dvd_gcdF (a : Int) : ∀ (r : List Int) (p : Int), a ∣ p → (∀ x ∈ r, a ∣ x) → a ∣ r.foldl (fun p x => (Int.gcd p x : Int)) p
  | [], p, h, _ => h
  | y :: r, p, h, h2 => dvd_gcdF a r _ (Int.dvd_coe_gcd h (h2 y (by simp))) fun x hx => h2 x (by simp [hx])
theorem dvd_gcdL {a : Int} {r : List Int} (h : ∀ x ∈ r, a ∣ x) : a ∣ gcdL r := dvd_gcdF a r 0 (Int.dvd_zero a) h
theorem gcdF_mul (d : Int) : ∀ (r : List Int) (p : Int), (r.map (d * ·)).foldl (fun p x => (Int.gcd p x : Int)) (d.natAbs * p) = d.natAbs * r.foldl (fun p x => (Int.gcd p x : Int)) p
  | [], p => rfl
  | y :: r, p => by
    show (r.map (d * ·)).foldl _ (Int.gcd (d.natAbs * p) (d * y) : Int) = _
    have e : (Int.gcd (d.natAbs * p) (d * y) : Int) = d.natAbs * (Int.gcd p y : Int) := by
      have h1 : Int.gcd (d.natAbs * p) (d * y) = Int.gcd (d * p) (d * y) := by
        simp only [Int.gcd_eq_natAbs_gcd_natAbs, Int.natAbs_mul, Int.natAbs_natCast]
      rw [h1, Int.gcd_mul_left]
      simp
    rw [e]
    exact gcdF_mul d r _
theorem gcdL_mul (d : Int) (r : List Int) : gcdL (r.map (d * ·)) = d.natAbs * gcdL r := by
  have h := gcdF_mul d r 0
  rw [Int.mul_zero] at h
  exact h
/-- if a divides d times each, and these have no common divisor, it divides d -/
theorem dvd_of_prim {a d : Int} {r : List Int} (h : ∀ x ∈ r, a ∣ d * x) (h1 : gcdL r = 1) : a ∣ d := by
  have e := dvd_gcdL (a := a) (r := r.map (d * ·)) fun x hx => by
    obtain ⟨y, hy, rfl⟩ := List.mem_map.mp hx
    exact h y hy
  rw [gcdL_mul, h1, Int.mul_one] at e
  exact Int.dvd_natAbs.mp e
def small (r : List Int) : List Int := r.map fun x => x.fdiv (gcdL r)
theorem small_len (r : List Int) : (small r).length = r.length := by simp [small]
theorem small_get {r : List Int} (h : gcdL r ≠ 0) (j : Nat) : gcdL r * (small r).getD j 0 = r.getD j 0 := by
  unfold small
  rw [List.getD_eq_getElem?_getD, List.getD_eq_getElem?_getD, List.getElem?_map]
  cases e : r[j]? with
  | none => simp
  | some x =>
    show gcdL r * x.fdiv (gcdL r) = x
    obtain ⟨k, hk⟩ := gcdL_dvd (List.mem_of_getElem? e)
    rw [fdiv_of h hk, ← hk]
theorem small_prim {r : List Int} (h : gcdL r ≠ 0) : gcdL (small r) = 1 := by
  have e : r = (small r).map (gcdL r * ·) := by
    unfold small
    rw [List.map_map]
    conv => lhs; rw [← List.map_id r]
    refine List.map_congr_left fun x hx => ?_
    obtain ⟨k, hk⟩ := gcdL_dvd hx
    show x = gcdL r * x.fdiv (gcdL r)
    rw [fdiv_of h hk, ← hk]
  have h2 := congrArg gcdL e
  rw [gcdL_mul] at h2
  have h3 : (((gcdL r).natAbs : Nat) : Int) = gcdL r := by have := gcdL_nn r; omega
  rw [h3] at h2
  have h4 : gcdL r * (gcdL (small r) - 1) = 0 := by rw [Int.mul_sub, ← h2]; omega
  rcases Int.mul_eq_zero.mp h4 with z | z
  · exact absurd z h
  · omega
/-! rows -/
def ent (M : List (List Int)) (i j : Nat) : Int := (M.getD i []).getD j 0
def dotR (M : List (List Int)) (i : Nat) (w : Nat → Int) : Int := sm 10 fun j => ent M i j * w j
def dotC (M : List (List Int)) (j : Nat) (c : Nat → Int) : Int := sm 8 fun i => c i * ent M i j
/-- every solution of M is one of A; the rows of M are independent -/
structure Gd (A M : List (List Int)) : Prop where
  len : M.length = 8
  lens : ∀ i, i < 8 → (M.getD i []).length = 10
  sol : ∀ w : Nat → Int, (∀ i, i < 8 → dotR M i w = 0) → ∀ i, i < 8 → dotR A i w = 0
  ind : ∀ c : Nat → Int, (∀ j, j < 10 → dotC M j c = 0) → ∀ i, i < 8 → c i = 0
/-- the first columns are cleared -/
def Clr (M : List (List Int)) (at_ : Nat) : Prop := ∀ k, k < at_ → ent M k k ≠ 0 ∧ ∀ i, i < 8 → i ≠ k → ent M i k = 0
/-- no solution but 0 -/
def Ker (A : List (List Int)) : Prop := ∀ w : Nat → Int, w 8 = 0 → w 9 = 0 → (∀ i, i < 8 → dotR A i w = 0) → ∀ j, j < 8 → w j = 0
theorem pivot {A M : List (List Int)} (hk : Ker A) (g : Gd A M) {t : Nat} (ht : t < 8) (c : Clr M t) : ∃ i, t ≤ i ∧ i < 8 ∧ ent M i t ≠ 0 := by
  refine Classical.byContradiction fun hno => ?_
  have hz : ∀ i, t ≤ i → i < 8 → ent M i t = 0 := fun i h1 h2 => Classical.byContradiction fun h3 => hno ⟨i, h1, h2, h3⟩
  let p := pr t fun k => ent M k k
  have hp : p ≠ 0 := pr_ne fun i hi => (c i hi).1
  let w : Nat → Int := fun j => if j < t then -(ent M j t * (p / ent M j j)) else if j = t then p else 0
  have hw := hk w (by show (if 8 < t then _ else if 8 = t then _ else _) = (0 : Int); rw [if_neg (by omega), if_neg (by omega)]) (by show (if 9 < t then _ else if 9 = t then _ else _) = (0 : Int); rw [if_neg (by omega), if_neg (by omega)]) (g.sol w fun i hi => ?_) t ht
  · have e : w t = p := by show (if t < t then _ else if t = t then p else 0) = p; rw [if_neg (by omega), if_pos rfl]
    exact hp (e ▸ hw)
  · have wt : w t = p := by show (if t < t then _ else if t = t then p else 0) = p; rw [if_neg (by omega), if_pos rfl]
    by_cases hit : i < t
    · have wi : w i = -(ent M i t * (p / ent M i i)) := by show (if i < t then _ else _) = _; rw [if_pos hit]
      show sm 10 (fun j => ent M i j * w j) = 0
      rw [sm_two i t (by omega) (by omega) (by omega) fun j hj h1 h2 => ?_, wi, wt]
      · obtain ⟨q, hq⟩ := pr_dvd (f := fun k => ent M k k) i hit
        have hq' : p = ent M i i * q := hq
        have hi0 := (c i hit).1
        rw [hq', Int.mul_ediv_cancel_left _ hi0]
        grind
      · by_cases hjt : j < t
        · rw [(c j hjt).2 i hi (Ne.symm h1), Int.zero_mul]
        · have : w j = 0 := by show (if j < t then _ else if j = t then _ else 0) = 0; rw [if_neg hjt, if_neg h2]
          rw [this, Int.mul_zero]
    · refine sm_zero fun j hj => ?_
      by_cases hjt : j < t
      · rw [(c j hjt).2 i hi (by omega), Int.zero_mul]
      · by_cases hj2 : j = t
        · subst hj2
          rw [hz i (by omega) hi, Int.zero_mul]
        · have : w j = 0 := by show (if j < t then _ else if j = t then _ else 0) = 0; rw [if_neg hjt, if_neg hj2]
          rw [this, Int.mul_zero]
/-- two rows change places -/
def swp (M : List (List Int)) (a b : Nat) : List (List Int) := (M.set a (M.getD b [])).set b (M.getD a [])
theorem swp_row {M : List (List Int)} {a b : Nat} (ha : a < M.length) (hb : b < M.length) (i : Nat) : (swp M a b).getD i [] = M.getD (if i = b then a else if i = a then b else i) [] := by
  unfold swp
  simp only [List.getD_eq_getElem?_getD, List.getElem?_set, List.length_set]
  by_cases h1 : b = i
  · subst h1
    simp [hb]
  · by_cases h2 : a = i
    · subst h2
      simp [h1, Ne.symm h1, ha]
    · simp [h1, h2, Ne.symm h1, Ne.symm h2]
theorem swp_ent {M : List (List Int)} {a b : Nat} (ha : a < M.length) (hb : b < M.length) (i j : Nat) : ent (swp M a b) i j = ent M (if i = b then a else if i = a then b else i) j := by
  unfold ent
  rw [swp_row ha hb]
/-- a sum over two places changed -/
theorem sm_swap {n a b : Nat} (ha : a < n) (hb : b < n) (f : Nat → Int) : sm n (fun i => f (if i = b then a else if i = a then b else i)) = sm n f := by
  by_cases hab : a = b
  · subst hab
    exact sm_congr fun i _ => by by_cases h : i = a <;> simp [h]
  have e1 : sm n (fun i => f (if i = b then a else if i = a then b else i)) = sm n (fun i => f i + ((if i = a then f b - f a else 0) + (if i = b then f a - f b else 0))) := sm_congr fun i _ => by
    by_cases h1 : i = b
    · subst h1
      simp [Ne.symm hab]
      omega
    · by_cases h2 : i = a
      · subst h2
        simp [h1]
        omega
      · simp [h1, h2]
  rw [e1, sm_add, sm_add, sm_if ha, sm_if hb]
  show sm n f + _ = _
  omega
theorem Gd.swap {A M : List (List Int)} (g : Gd A M) {a b : Nat} (ha : a < 8) (hb : b < 8) : Gd A (swp M a b) where
  len := by unfold swp; simp [g.len]
  lens := fun i hi => by
    rw [swp_row (by rw [g.len]; exact ha) (by rw [g.len]; exact hb)]
    exact g.lens _ (by split <;> (try split) <;> omega)
  sol := fun w h => g.sol w fun i hi => by
    have ha' : a < M.length := by rw [g.len]; exact ha
    have hb' : b < M.length := by rw [g.len]; exact hb
    have h' := h (if i = b then a else if i = a then b else i) (by split <;> (try split) <;> omega)
    unfold dotR at h' ⊢
    rw [← h']
    refine sm_congr fun j _ => ?_
    rw [swp_ent ha' hb']
    congr 2
    by_cases h1 : i = b
    · subst h1
      by_cases h2 : a = i <;> simp [h2]
    · by_cases h2 : i = a
      · subst h2
        simp [h1]
      · simp [h1, h2]
  ind := fun c h i hi => by
    have ha' : a < M.length := by rw [g.len]; exact ha
    have hb' : b < M.length := by rw [g.len]; exact hb
    have key := g.ind (fun i => c (if i = b then a else if i = a then b else i)) (fun j hj => by
      have h' := h j hj
      unfold dotC at h' ⊢
      rw [← sm_swap ha hb, ← h']
      refine sm_congr fun i _ => ?_
      rw [swp_ent ha' hb']
      congr 2
      by_cases h1 : i = b
      · subst h1
        by_cases h2 : a = i <;> simp [h2]
      · by_cases h2 : i = a
        · subst h2
          simp [h1]
        · simp [h1, h2])
    have e := key (if i = b then a else if i = a then b else i) (by split <;> (try split) <;> omega)
    have : (if (if i = b then a else if i = a then b else i) = b then a else if (if i = b then a else if i = a then b else i) = a then b else (if i = b then a else if i = a then b else i)) = i := by
      by_cases h1 : i = b
      · subst h1
        by_cases h2 : a = i <;> simp [h2]
      · by_cases h2 : i = a
        · subst h2
          simp [h1]
        · simp [h1, h2]
    simp only [this] at e
    exact e
theorem Clr.swap {A M : List (List Int)} (g : Gd A M) {t b : Nat} (c : Clr M t) (ht : t < 8) (htb : t ≤ b) (hb : b < 8) : Clr (swp M t b) t := fun k hk => by
  have ha' : t < M.length := by rw [g.len]; exact ht
  have hb' : b < M.length := by rw [g.len]; exact hb
  refine ⟨?_, fun i hi hik => ?_⟩
  · rw [swp_ent ha' hb', if_neg (by omega), if_neg (by omega)]
    exact (c k hk).1
  · rw [swp_ent ha' hb']
    exact (c k hk).2 _ (by split <;> (try split) <;> omega) (by split <;> (try split) <;> omega)
/-- a row is made less by the pivot's -/
structure Red (M M' : List (List Int)) (t n : Nat) (g : Int) : Prop where
  len : M'.length = 8
  lens : ∀ i, i < 8 → (M'.getD i []).length = 10
  g0 : g ≠ 0
  row : ∀ j, j < 10 → g * ent M' n j = ent M t t * ent M n j - ent M n t * ent M t j
  oth : ∀ i j, i ≠ n → ent M' i j = ent M i j
theorem Gd.red {A M M' : List (List Int)} {t n : Nat} {k : Int} (g : Gd A M) (ht : t < 8) (hn : n < 8) (hnt : n ≠ t) (hp : ent M t t ≠ 0) (r : Red M M' t n k) : Gd A M' where
  len := r.len
  lens := r.lens
  sol := fun w h => g.sol w fun i hi => by
    have ho : ∀ i, i < 8 → i ≠ n → dotR M i w = 0 := fun i hi hin => by
      rw [← h i hi]
      unfold dotR
      exact sm_congr fun j _ => by rw [r.oth i j hin]
    by_cases hin : i = n
    · subst hin
      have e1 : k * dotR M' i w = ent M t t * dotR M i w - ent M i t * dotR M t w := by
        unfold dotR
        rw [← sm_mul, ← sm_mul, ← sm_mul, ← sm_sub]
        refine sm_congr fun j hj => ?_
        have := r.row j hj
        grind
      rw [h i hi, ho t ht (Ne.symm hnt)] at e1
      have e2 : ent M t t * dotR M i w = 0 := by grind
      rcases Int.mul_eq_zero.mp e2 with z | z
      · exact absurd z hp
      · exact z
    · exact ho i hi hin
  ind := fun c h i hi => by
    have key := g.ind (fun i => if i = n then ent M t t * c n else if i = t then k * c t - c n * ent M n t else k * c i) (fun j hj => by
      have h' := h j hj
      have e : dotC M j (fun i => if i = n then ent M t t * c n else if i = t then k * c t - c n * ent M n t else k * c i) = k * dotC M' j c := by
        unfold dotC
        rw [← sm_mul]
        have e2 : sm 8 (fun i => (if i = n then ent M t t * c n else if i = t then k * c t - c n * ent M n t else k * c i) * ent M i j) = sm 8 (fun i => k * (c i * ent M' i j) + ((if i = n then c n * (ent M n t * ent M t j) else 0) + (if i = t then -(c n * (ent M n t * ent M t j)) else 0))) := sm_congr fun i _ => by
          by_cases h1 : i = n
          · subst h1
            have := r.row j hj
            simp [hnt]
            grind
          · by_cases h2 : i = t
            · subst h2
              have := r.oth i j h1
              simp [h1, this]
              grind
            · have := r.oth i j h1
              simp [h1, h2, this]
              grind
        rw [e2, sm_add, sm_add, sm_if hn, sm_if ht]
        omega
      rw [e, h', Int.mul_zero])
    have kn := key n hn
    simp only [if_true] at kn
    have cn : c n = 0 := by
      rcases Int.mul_eq_zero.mp kn with z | z
      · exact absurd z hp
      · exact z
    by_cases h1 : i = n
    · subst h1; exact cn
    · have ki := key i hi
      by_cases h2 : i = t
      · subst h2
        simp only [if_neg h1, if_true, cn, Int.zero_mul, Int.sub_zero] at ki
        rcases Int.mul_eq_zero.mp ki with z | z
        · exact absurd z r.g0
        · exact z
      · simp only [if_neg h1, if_neg h2] at ki
        rcases Int.mul_eq_zero.mp ki with z | z
        · exact absurd z r.g0
        · exact z
theorem Clr.red {M M' : List (List Int)} {t n : Nat} {k : Int} (c : Clr M t) (ht : t < 8) (hn : n < 8) (hnt : n ≠ t) (hp : ent M t t ≠ 0) (r : Red M M' t n k) : Clr M' t := fun l hl => by
  have h0 : ent M t l = 0 := (c l hl).2 t ht (by omega)
  have row := r.row l (by omega)
  rw [h0, Int.mul_zero, Int.sub_zero] at row
  refine ⟨fun z => ?_, fun i hi hil => ?_⟩
  · by_cases h1 : l = n
    · subst h1
      rw [z, Int.mul_zero] at row
      rcases Int.mul_eq_zero.mp row.symm with y | y
      · exact hp y
      · exact (c l hl).1 y
    · rw [r.oth l l h1] at z
      exact (c l hl).1 z
  · by_cases h1 : i = n
    · subst h1
      rw [(c l hl).2 i hi hil, Int.mul_zero] at row
      rcases Int.mul_eq_zero.mp row with y | y
      · exact absurd y r.g0
      · exact y
    · rw [r.oth i l h1]
      exact (c l hl).2 i hi hil
/-- no row is 0 -/
theorem Gd.row_ne {A M : List (List Int)} (g : Gd A M) {n : Nat} (hn : n < 8) : ∃ j, j < 10 ∧ ent M n j ≠ 0 := by
  refine Classical.byContradiction fun hno => ?_
  have h := g.ind (fun i => if i = n then 1 else 0) (fun j hj => by
    unfold dotC
    rw [sm_one n hn fun i _ hi => by simp [hi]]
    simp
    exact Classical.byContradiction fun hz => hno ⟨j, hj, hz⟩) n hn
  simp at h
end Cw
end
section
set_option linter.all false
set_option maxHeartbeats 1000000
set_option exponentiation.threshold 100000
namespace Cw
def pivs (M : List (List Int)) (t : Nat) : List Nat := ((List.range (8 - t)).map (t + ·)).filter fun n => decide (ent M n t ≠ 0)
def piv (M : List (List Int)) (t : Nat) : Nat := (pivs M t).headD 0
def comb (a b : Int) (r own : List Int) : List Int := List.zipWith (fun one other => a * one - b * other) r own
def red1 (own : List Int) (t : Nat) (M : List (List Int)) (n : Nat) : List (List Int) :=
  if n ≠ t ∧ ent M n t ≠ 0 then M.set n (small (comb (own.getD t 0) (ent M n t) (M.getD n []) own)) else M
def clear1 (M : List (List Int)) (t : Nat) : List (List Int) := (List.range 8).foldl (red1 ((swp M t (piv M t)).getD t []) t) (swp M t (piv M t))
def clearedL (M : List (List Int)) : List (List Int) := (List.range 8).foldl clear1 M

theorem piv_ok {A M : List (List Int)} (hk : Ker A) (g : Gd A M) {t : Nat} (ht : t < 8) (c : Clr M t) : t ≤ piv M t ∧ piv M t < 8 ∧ ent M (piv M t) t ≠ 0 ∧ (pivs M t)[0]? = some (piv M t) := by
  obtain ⟨i, h1, h2, h3⟩ := pivot hk g ht c
  have hm : i ∈ pivs M t := List.mem_filter.mpr ⟨List.mem_map.mpr ⟨i - t, List.mem_range.mpr (by omega), by omega⟩, by simpa using h3⟩
  unfold piv
  cases e : pivs M t with
  | nil => rw [e] at hm; simp at hm
  | cons x r =>
    have hx : x ∈ pivs M t := by rw [e]; simp
    obtain ⟨h4, h5⟩ := List.mem_filter.mp hx
    obtain ⟨k, hk1, hk2⟩ := List.mem_map.mp h4
    have := List.mem_range.mp hk1
    exact ⟨by show t ≤ x; omega, by show x < 8; omega, by simpa using h5, rfl⟩
theorem lt_mono {a : Nat} {b c : Nat} (h : a < 2 ^ b) (hc : b ≤ c) : a < 2 ^ c := Nat.lt_of_lt_of_le h (Nat.pow_le_pow_right (by decide) hc)
theorem getD_zip {f : Int → Int → Int} (hf : f 0 0 = 0) : ∀ {r s : List Int} (j : Nat), r.length = s.length → (List.zipWith f r s).getD j 0 = f (r.getD j 0) (s.getD j 0)
  | [], [], j, _ => by simp [hf]
  | [], _ :: _, _, h => by simp at h
  | _ :: _, [], _, h => by simp at h
  | a :: r, b :: s, 0, _ => rfl
  | a :: r, b :: s, j + 1, h => by
    have := getD_zip hf (r := r) (s := s) j (by simpa using h)
    simpa using this
theorem comb_get {a b : Int} {r own : List Int} (h : r.length = own.length) (j : Nat) : (comb a b r own).getD j 0 = a * r.getD j 0 - b * own.getD j 0 := getD_zip (by simp) j h
theorem getD_set {M : List (List Int)} {n : Nat} {r : List Int} (hn : n < M.length) (i : Nat) : (M.set n r).getD i [] = if i = n then r else M.getD i [] := by
  simp only [List.getD_eq_getElem?_getD, List.getElem?_set]
  by_cases h : n = i
  · subst h; simp [hn]
  · simp [h, Ne.symm h]
/-- the inner turns -/
structure Mid (A : List (List Int)) (t n b : Nat) (own : List Int) (M : List (List Int)) : Prop where
  gd : Gd A M
  clr : Clr M t
  own : M.getD t [] = own
  piv : ent M t t ≠ 0
  zer : ∀ i, i < n → i < 8 → i ≠ t → ent M i t = 0
  lo : ∀ i j, n ≤ i ∨ i = t → (ent M i j).natAbs < 2 ^ b
  hi : ∀ i j, (ent M i j).natAbs < 2 ^ (2 * b + 1)
theorem getD_mem {r : List Int} {j : Nat} (h : j < r.length) : r.getD j 0 ∈ r := by
  rw [List.getD_eq_getElem?_getD, List.getElem?_eq_getElem h]
  exact List.getElem_mem _
theorem abs_comb {a b x y : Int} {k : Nat} (ha : a.natAbs < 2 ^ k) (hb : b.natAbs < 2 ^ k) (hx : x.natAbs < 2 ^ k) (hy : y.natAbs < 2 ^ k) : (a * x - b * y).natAbs < 2 ^ (2 * k + 1) := by
  have h1 : (a * x).natAbs < 2 ^ k * 2 ^ k := by rw [Int.natAbs_mul]; exact Nat.mul_lt_mul'' ha hx
  have h2 : (b * y).natAbs < 2 ^ k * 2 ^ k := by rw [Int.natAbs_mul]; exact Nat.mul_lt_mul'' hb hy
  have e : 2 ^ (2 * k + 1) = 2 ^ k * 2 ^ k * 2 := by rw [Nat.pow_succ, Nat.two_mul, Nat.pow_add]
  rw [e]
  omega
theorem mid_set {A M : List (List Int)} {t n b : Nat} {own : List Int} (m : Mid A t n b own M) (ht : t < 8) (hn : n < 8) (hnt : n ≠ t) :
    gcdL (comb (own.getD t 0) (ent M n t) (M.getD n []) own) ≠ 0 ∧ (gcdL (comb (own.getD t 0) (ent M n t) (M.getD n []) own)).natAbs < 2 ^ (2 * b + 1) ∧
    (comb (own.getD t 0) (ent M n t) (M.getD n []) own).length = 10 := by
  have ho : own.length = 10 := by rw [← m.own]; exact m.gd.lens t ht
  have hl := m.gd.lens n hn
  have hlen : (comb (own.getD t 0) (ent M n t) (M.getD n []) own).length = 10 := by unfold comb; rw [List.length_zipWith, hl, ho]; rfl
  have et : own.getD t 0 = ent M t t := by rw [← m.own]; rfl
  have hM : n < M.length := by rw [m.gd.len]; exact hn
  have rr : Red M (M.set n (comb (own.getD t 0) (ent M n t) (M.getD n []) own)) t n 1 := by
    refine ⟨by simp [m.gd.len], fun i hi => ?_, by decide, fun j hj => ?_, fun i j hin => ?_⟩
    · rw [getD_set hM]
      split
      · exact hlen
      · exact m.gd.lens i hi
    · unfold ent
      rw [getD_set hM, if_pos rfl, comb_get (by rw [hl, ho]), Int.one_mul, et]
      rw [← m.own]; rfl
    · unfold ent
      rw [getD_set hM, if_neg hin]
  obtain ⟨j, hj, hne⟩ := (m.gd.red ht hn hnt m.piv rr).row_ne hn
  unfold ent at hne
  rw [getD_set hM, if_pos rfl] at hne
  have hmem : (comb (own.getD t 0) (ent M n t) (M.getD n []) own).getD j 0 ∈ comb (own.getD t 0) (ent M n t) (M.getD n []) own := getD_mem (by omega)
  have hb : ((comb (own.getD t 0) (ent M n t) (M.getD n []) own).getD j 0).natAbs < 2 ^ (2 * b + 1) := by
    rw [comb_get (by rw [hl, ho]), et]
    have e2 : own.getD j 0 = ent M t j := by rw [← m.own]; rfl
    rw [e2]
    exact abs_comb (m.lo t t (.inr rfl)) (m.lo n t (.inl (Nat.le_refl _))) (m.lo n j (.inl (Nat.le_refl _))) (m.lo t j (.inr rfl))
  have hp := gcdL_pos hmem hne
  refine ⟨by omega, ?_, hlen⟩
  have hd := gcdL_dvd hmem
  have := Nat.le_of_dvd (Int.natAbs_pos.mpr hne) (Int.natAbs_dvd_natAbs.mpr hd)
  exact Nat.lt_of_le_of_lt this hb
theorem small_abs {r : List Int} (h : gcdL r ≠ 0) (j : Nat) : ((small r).getD j 0).natAbs ≤ (r.getD j 0).natAbs := by
  rw [← small_get h j, Int.natAbs_mul]
  exact Nat.le_mul_of_pos_left _ (by omega)
theorem mid_next {A M : List (List Int)} {t n b : Nat} {own : List Int} (m : Mid A t n b own M) (ht : t < 8) (hn : n < 8) : Mid A t (n + 1) b own (red1 own t M n) := by
  unfold red1
  by_cases hc : n ≠ t ∧ ent M n t ≠ 0
  · rw [if_pos hc]
    obtain ⟨hg, hgb, hlen⟩ := mid_set m ht hn hc.1
    have ho : own.length = 10 := by rw [← m.own]; exact m.gd.lens t ht
    have hl := m.gd.lens n hn
    have et : own.getD t 0 = ent M t t := by rw [← m.own]; rfl
    have hM : n < M.length := by rw [m.gd.len]; exact hn
    have rr : Red M (M.set n (small (comb (own.getD t 0) (ent M n t) (M.getD n []) own))) t n (gcdL (comb (own.getD t 0) (ent M n t) (M.getD n []) own)) := by
      refine ⟨by simp [m.gd.len], fun i hi => ?_, hg, fun j hj => ?_, fun i j hin => ?_⟩
      · rw [getD_set hM]
        split
        · rw [small_len]; exact hlen
        · exact m.gd.lens i hi
      · show _ * ((M.set n _).getD n []).getD j 0 = _
        rw [getD_set hM, if_pos rfl, small_get hg, comb_get (by rw [hl, ho]), et]
        rw [← m.own]; rfl
      · unfold ent
        rw [getD_set hM, if_neg hin]
    have eo : ∀ i j, i ≠ n → ent (M.set n (small (comb (own.getD t 0) (ent M n t) (M.getD n []) own))) i j = ent M i j := rr.oth
    refine ⟨m.gd.red ht hn hc.1 m.piv rr, m.clr.red ht hn hc.1 m.piv rr, ?_, ?_, fun i hi hi8 hit => ?_, fun i j h => ?_, fun i j => ?_⟩
    · rw [getD_set hM, if_neg (Ne.symm hc.1)]; exact m.own
    · rw [eo t t (Ne.symm hc.1)]; exact m.piv
    · by_cases h : i = n
      · subst h
        have := rr.row t (by omega)
        have e3 : ent M t t * ent M i t - ent M i t * ent M t t = 0 := by rw [Int.mul_comm]; omega
        rw [e3] at this
        rcases Int.mul_eq_zero.mp this with z | z
        · exact absurd z hg
        · exact z
      · rw [eo i t h]; exact m.zer i (by omega) hi8 hit
    · rw [eo i j (by rcases h with h | h <;> omega)]
      exact m.lo i j (by omega)
    · by_cases h : i = n
      · subst h
        show (((M.set i _).getD i []).getD j 0).natAbs < _
        rw [getD_set hM, if_pos rfl]
        refine Nat.lt_of_le_of_lt (small_abs hg j) ?_
        rw [comb_get (by rw [hl, ho]), et]
        have e2 : own.getD j 0 = ent M t j := by rw [← m.own]; rfl
        rw [e2]
        exact abs_comb (m.lo t t (.inr rfl)) (m.lo i t (.inl (Nat.le_refl _))) (m.lo i j (.inl (Nat.le_refl _))) (m.lo t j (.inr rfl))
      · rw [eo i j h]; exact m.hi i j
  · rw [if_neg hc]
    refine ⟨m.gd, m.clr, m.own, m.piv, fun i hi hi8 hit => ?_, fun i j h => m.lo i j (by omega), m.hi⟩
    by_cases h : i = n
    · subst h
      exact Classical.byContradiction fun z => hc ⟨hit, z⟩
    · exact m.zer i (by omega) hi8 hit
/-- the outer turns -/
structure Out (A : List (List Int)) (t b : Nat) (M : List (List Int)) : Prop where
  gd : Gd A M
  clr : Clr M t
  bnd : ∀ i j, (ent M i j).natAbs < 2 ^ b
theorem out_mid {A M : List (List Int)} (hk : Ker A) {t b : Nat} (o : Out A t b M) (ht : t < 8) : Mid A t 0 b ((swp M t (piv M t)).getD t []) (swp M t (piv M t)) := by
  obtain ⟨h1, h2, h3, _⟩ := piv_ok hk o.gd ht o.clr
  have ht' : t < M.length := by rw [o.gd.len]; exact ht
  have hp' : piv M t < M.length := by rw [o.gd.len]; exact h2
  refine ⟨o.gd.swap ht h2, o.clr.swap o.gd ht h1 h2, rfl, ?_, fun i hi => by omega, fun i j _ => ?_, fun i j => ?_⟩
  · rw [swp_ent ht' hp']
    by_cases e : t = piv M t
    · rw [if_pos e]; rw [← e] at h3; exact h3
    · rw [if_neg e, if_pos rfl]; exact h3
  · rw [swp_ent ht' hp']; exact o.bnd _ _
  · rw [swp_ent ht' hp']; exact lt_mono (o.bnd _ _) (by omega)
theorem mid_fold {A M0 : List (List Int)} {t b : Nat} {own : List Int} (ht : t < 8) (m : Mid A t 0 b own M0) : ∀ n, n ≤ 8 → Mid A t n b own ((List.range n).foldl (red1 own t) M0)
  | 0, _ => m
  | n + 1, h => by
    rw [List.range_succ, List.foldl_append]
    exact mid_next (mid_fold ht m n (by omega)) ht (by omega)
theorem out_next {A M : List (List Int)} (hk : Ker A) {t b : Nat} (o : Out A t b M) (ht : t < 8) : Out A (t + 1) (2 * b + 1) (clear1 M t) := by
  have m := mid_fold ht (out_mid hk o ht) 8 (Nat.le_refl _)
  refine ⟨m.gd, fun k hkk => ?_, m.hi⟩
  by_cases e : k = t
  · subst e
    exact ⟨m.piv, fun i hi hik => m.zer i hi hi hik⟩
  · exact m.clr k (by omega)
def bitsAt : Nat → Nat → Nat
  | b, 0 => b
  | b, t + 1 => 2 * bitsAt b t + 1
theorem out_fold {A M : List (List Int)} (hk : Ker A) {b : Nat} (o : Out A 0 b M) : ∀ t, t ≤ 8 → Out A t (bitsAt b t) ((List.range t).foldl clear1 M)
  | 0, _ => o
  | t + 1, h => by
    rw [List.range_succ, List.foldl_append]
    exact out_next hk (out_fold hk o t (by omega)) (by omega)
theorem Gd.self {A : List (List Int)} (h1 : A.length = 8) (h2 : ∀ i, i < 8 → (A.getD i []).length = 10) (h3 : ∀ c : Nat → Int, (∀ j, j < 10 → dotC A j c = 0) → ∀ i, i < 8 → c i = 0) : Gd A A := ⟨h1, h2, fun _ h => h, h3⟩
/-! what comes of it -/
def lcm1 (M : List (List Int)) (much : Int) (t : Nat) : Int := (much * ((ent M t t).natAbs : Int)).fdiv (Int.gcd much (ent M t t) : Int)
def lcmL (M : List (List Int)) (n : Nat) : Int := (List.range n).foldl (lcm1 M) 1
def side (M : List (List Int)) (much : Int) (s : Nat) : List Int := (List.range 8).map fun t => much.fdiv (ent M t t) * ent M t (8 + s)
def nums (M : List (List Int)) : List Int := lcmL M 8 :: (side M (lcmL M 8) 0 ++ side M (lcmL M 8) 1)
theorem lcm1_ok {M : List (List Int)} {much : Int} {t : Nat} (h0 : 0 < much) (h : ent M t t ≠ 0) : 0 < lcm1 M much t ∧ much ∣ lcm1 M much t ∧ ent M t t ∣ lcm1 M much t ∧ lcm1 M much t ≤ much * ((ent M t t).natAbs : Int) := by
  have hg : (Int.gcd much (ent M t t) : Int) ≠ 0 := by
    have := Int.gcd_pos_of_ne_zero_right much h
    omega
  have hgp : 0 < (Int.gcd much (ent M t t) : Int) := by omega
  obtain ⟨k, hk⟩ := Int.gcd_dvd_left much (ent M t t)
  obtain ⟨l, hl⟩ := Int.gcd_dvd_right much (ent M t t)
  have e1 : lcm1 M much t = k * ((ent M t t).natAbs : Int) := by
    unfold lcm1
    refine fdiv_of hg ?_
    rw [← Int.mul_assoc, ← hk]
  have e2 : lcm1 M much t = much * (l.natAbs : Int) := by
    rw [e1]
    have : ((ent M t t).natAbs : Int) = (Int.gcd much (ent M t t) : Int) * (l.natAbs : Int) := by
      conv => lhs; rw [hl]
      rw [Int.natAbs_mul, Int.natCast_mul]
      simp
    rw [this]
    conv => rhs; rw [hk]
    grind
  have hl0 : l ≠ 0 := fun z => by rw [z, Int.mul_zero] at hl; exact h hl
  refine ⟨?_, ?_, ?_, ?_⟩
  · rw [e2]; exact Int.mul_pos h0 (by omega)
  · rw [e2]; exact Int.dvd_mul_right _ _
  · rw [e1]; exact Int.dvd_trans (Int.dvd_natAbs.mpr (Int.dvd_refl _)) (Int.dvd_mul_left _ _)
  · rw [e1]
    refine Int.mul_le_mul_of_nonneg_right ?_ (by omega)
    have hkp : 0 < k := by
      by_cases hk0 : 0 < k
      · exact hk0
      · have := Int.mul_nonpos_of_nonneg_of_nonpos (Int.le_of_lt hgp) (Int.not_lt.mp hk0)
        omega
    have : 1 * k ≤ (Int.gcd much (ent M t t) : Int) * k := Int.mul_le_mul_of_nonneg_right (by omega) (by omega)
    omega
theorem lcmL_ok {M : List (List Int)} (h : ∀ t, t < 8 → ent M t t ≠ 0) : ∀ n, n ≤ 8 → 0 < lcmL M n ∧ ∀ t, t < n → ent M t t ∣ lcmL M n
  | 0, _ => ⟨by show (0 : Int) < 1; decide, fun t ht => by omega⟩
  | n + 1, hn => by
    have e : lcmL M (n + 1) = lcm1 M (lcmL M n) n := by
      unfold lcmL
      rw [List.range_succ, List.foldl_append]
      rfl
    obtain ⟨h1, h2⟩ := lcmL_ok h n (by omega)
    obtain ⟨k1, k2, k3, _⟩ := lcm1_ok h1 (h n (by omega))
    rw [e]
    refine ⟨k1, fun t ht => ?_⟩
    by_cases e2 : t = n
    · subst e2; exact k3
    · exact Int.dvd_trans (h2 t (by omega)) k2
theorem lcmL_bits {M : List (List Int)} {b : Nat} (h : ∀ t, t < 8 → ent M t t ≠ 0) (hb : ∀ i j, (ent M i j).natAbs < 2 ^ b) : ∀ n, n ≤ 8 → (lcmL M n).natAbs < 2 ^ (b * n + 1)
  | 0, _ => by show 1 < 2 ^ _; simp
  | n + 1, hn => by
    have e : lcmL M (n + 1) = lcm1 M (lcmL M n) n := by
      unfold lcmL
      rw [List.range_succ, List.foldl_append]
      rfl
    obtain ⟨h1, _⟩ := lcmL_ok h n (by omega)
    obtain ⟨k1, _, _, k4⟩ := lcm1_ok h1 (h n (by omega))
    rw [e]
    have ih := lcmL_bits h hb n (by omega)
    have e3 : (lcmL M n * ((ent M n n).natAbs : Int)).natAbs < 2 ^ (b * n + 1) * 2 ^ b := by
      rw [Int.natAbs_mul]
      exact Nat.mul_lt_mul'' ih (by simpa using hb n n)
    have e4 : b * (n + 1) + 1 = (b * n + 1) + b := by rw [Nat.mul_add]; omega
    rw [e4, Nat.pow_add]
    omega
/-- the solution by the cleared rows -/
theorem sol_side {A M : List (List Int)} {b : Nat} (o : Out A 8 b M) {s : Nat} (hs : s < 2) : ∀ i, i < 8 → sm 8 (fun j => ent A i j * (side M (lcmL M 8) s).getD j 0) = lcmL M 8 * ent A i (8 + s) := fun i hi => by
  have hd : ∀ t, t < 8 → ent M t t ≠ 0 := fun t ht => (o.clr t ht).1
  obtain ⟨hp, hdv⟩ := lcmL_ok hd 8 (Nat.le_refl _)
  have hside : ∀ j, j < 8 → ent M j j * (side M (lcmL M 8) s).getD j 0 = lcmL M 8 * ent M j (8 + s) := fun j hj => by
    unfold side
    rw [List.getD_eq_getElem?_getD, List.getElem?_map, List.getElem?_range hj]
    show ent M j j * ((lcmL M 8).fdiv (ent M j j) * ent M j (8 + s)) = _
    obtain ⟨k, hk⟩ := hdv j hj
    rw [fdiv_of (hd j hj) hk, ← Int.mul_assoc, ← hk]
  have h := o.gd.sol (fun j => if j < 8 then (side M (lcmL M 8) s).getD j 0 else if j = 8 + s then -(lcmL M 8) else 0) (fun i hi => by
    unfold dotR
    rw [sm_two i (8 + s) (by omega) (by omega) (by omega) fun j hj h1 h2 => ?_]
    · simp only [if_pos hi, if_neg (show ¬ 8 + s < 8 by omega), if_true]
      rw [hside i hi]
      grind
    · by_cases h3 : j < 8
      · rw [(o.clr j h3).2 i hi (Ne.symm h1), Int.zero_mul]
      · simp [h3, h2]) i hi
  unfold dotR at h
  have e : sm 10 (fun j => ent A i j * if j < 8 then (side M (lcmL M 8) s).getD j 0 else if j = 8 + s then -(lcmL M 8) else 0) = sm 8 (fun j => ent A i j * (side M (lcmL M 8) s).getD j 0) - lcmL M 8 * ent A i (8 + s) := by
    show sm 8 (fun j => ent A i j * if j < 8 then (side M (lcmL M 8) s).getD j 0 else if j = 8 + s then -(lcmL M 8) else 0) + _ + _ = _
    rw [sm_congr (g := fun j => ent A i j * (side M (lcmL M 8) s).getD j 0) fun j hj => by rw [if_pos hj]]
    have : s = 0 ∨ s = 1 := by omega
    rcases this with rfl | rfl <;> simp <;> grind
  rw [e] at h
  omega
end Cw
end
section
set_option linter.all false
set_option maxHeartbeats 4000000
namespace Cw
def formF (b4 b6 b8 : Int) : List Int := [1, 0, -b4, -2 * b6, -b8]
def formG (b2 b4 b6 : Int) : List Int := [0, 4, b2, 2 * b4, b6]
def part (f : List Int) (t : Nat) : List Int := (List.range 4).map fun k => if k ≤ t ∧ t - k < f.length then f.getD (t - k) 0 else 0
def rowFor (f g : List Int) (t : Nat) : List Int := part f t ++ part g t ++ [if t = 7 then 1 else 0, if t = 0 then 1 else 0]
def rowsFor (f g : List Int) : List (List Int) := (List.range 8).map (rowFor f g)
def discB (b2 b4 b6 b8 : Int) : Int := 9 * b2 * b4 * b6 - b2 * b2 * b8 - 8 * b4 * b4 * b4 - 27 * b6 * b6
section
variable {b2 b4 b6 b8 : Int}
abbrev matA (b2 b4 b6 b8 : Int) : List (List Int) := rowsFor (formF b4 b6 b8) (formG b2 b4 b6)
theorem rowA_0 (w : Nat → Int) : dotR (matA b2 b4 b6 b8) 0 w = (1) * w 0 + w 9 := by
  simp [dotR, sm, ent, rowsFor, rowFor, part, formF, formG, List.range, List.range.loop]
  try grind
theorem rowA_1 (w : Nat → Int) : dotR (matA b2 b4 b6 b8) 1 w = (1) * w 1 + (4) * w 4 := by
  simp [dotR, sm, ent, rowsFor, rowFor, part, formF, formG, List.range, List.range.loop]
  try grind
theorem rowA_2 (w : Nat → Int) : dotR (matA b2 b4 b6 b8) 2 w = ((-1)*b4) * w 0 + (1) * w 2 + (b2) * w 4 + (4) * w 5 := by
  simp [dotR, sm, ent, rowsFor, rowFor, part, formF, formG, List.range, List.range.loop]
  try grind
theorem rowA_3 (w : Nat → Int) : dotR (matA b2 b4 b6 b8) 3 w = ((-2)*b6) * w 0 + ((-1)*b4) * w 1 + (1) * w 3 + (2*b4) * w 4 + (b2) * w 5 + (4) * w 6 := by
  simp [dotR, sm, ent, rowsFor, rowFor, part, formF, formG, List.range, List.range.loop]
  try grind
theorem rowA_4 (w : Nat → Int) : dotR (matA b2 b4 b6 b8) 4 w = ((-1)*b8) * w 0 + ((-2)*b6) * w 1 + ((-1)*b4) * w 2 + (b6) * w 4 + (2*b4) * w 5 + (b2) * w 6 + (4) * w 7 := by
  simp [dotR, sm, ent, rowsFor, rowFor, part, formF, formG, List.range, List.range.loop]
  try grind
theorem rowA_5 (w : Nat → Int) : dotR (matA b2 b4 b6 b8) 5 w = ((-1)*b8) * w 1 + ((-2)*b6) * w 2 + ((-1)*b4) * w 3 + (b6) * w 5 + (2*b4) * w 6 + (b2) * w 7 := by
  simp [dotR, sm, ent, rowsFor, rowFor, part, formF, formG, List.range, List.range.loop]
  try grind
theorem rowA_6 (w : Nat → Int) : dotR (matA b2 b4 b6 b8) 6 w = ((-1)*b8) * w 2 + ((-2)*b6) * w 3 + (b6) * w 6 + (2*b4) * w 7 := by
  simp [dotR, sm, ent, rowsFor, rowFor, part, formF, formG, List.range, List.range.loop]
  try grind
theorem rowA_7 (w : Nat → Int) : dotR (matA b2 b4 b6 b8) 7 w = ((-1)*b8) * w 3 + (b6) * w 7 + w 8 := by
  simp [dotR, sm, ent, rowsFor, rowFor, part, formF, formG, List.range, List.range.loop]
  try grind
theorem colA_0 (c : Nat → Int) : dotC (matA b2 b4 b6 b8) 0 c = (1) * c 0 + ((-1)*b4) * c 2 + ((-2)*b6) * c 3 + ((-1)*b8) * c 4 := by
  simp [dotC, sm, ent, rowsFor, rowFor, part, formF, formG, List.range, List.range.loop]
  try grind
theorem colA_1 (c : Nat → Int) : dotC (matA b2 b4 b6 b8) 1 c = (1) * c 1 + ((-1)*b4) * c 3 + ((-2)*b6) * c 4 + ((-1)*b8) * c 5 := by
  simp [dotC, sm, ent, rowsFor, rowFor, part, formF, formG, List.range, List.range.loop]
  try grind
theorem colA_2 (c : Nat → Int) : dotC (matA b2 b4 b6 b8) 2 c = (1) * c 2 + ((-1)*b4) * c 4 + ((-2)*b6) * c 5 + ((-1)*b8) * c 6 := by
  simp [dotC, sm, ent, rowsFor, rowFor, part, formF, formG, List.range, List.range.loop]
  try grind
theorem colA_3 (c : Nat → Int) : dotC (matA b2 b4 b6 b8) 3 c = (1) * c 3 + ((-1)*b4) * c 5 + ((-2)*b6) * c 6 + ((-1)*b8) * c 7 := by
  simp [dotC, sm, ent, rowsFor, rowFor, part, formF, formG, List.range, List.range.loop]
  try grind
theorem colA_4 (c : Nat → Int) : dotC (matA b2 b4 b6 b8) 4 c = (4) * c 1 + (b2) * c 2 + (2*b4) * c 3 + (b6) * c 4 := by
  simp [dotC, sm, ent, rowsFor, rowFor, part, formF, formG, List.range, List.range.loop]
  try grind
theorem colA_5 (c : Nat → Int) : dotC (matA b2 b4 b6 b8) 5 c = (4) * c 2 + (b2) * c 3 + (2*b4) * c 4 + (b6) * c 5 := by
  simp [dotC, sm, ent, rowsFor, rowFor, part, formF, formG, List.range, List.range.loop]
  try grind
theorem colA_6 (c : Nat → Int) : dotC (matA b2 b4 b6 b8) 6 c = (4) * c 3 + (b2) * c 4 + (2*b4) * c 5 + (b6) * c 6 := by
  simp [dotC, sm, ent, rowsFor, rowFor, part, formF, formG, List.range, List.range.loop]
  try grind
theorem colA_7 (c : Nat → Int) : dotC (matA b2 b4 b6 b8) 7 c = (4) * c 4 + (b2) * c 5 + (2*b4) * c 6 + (b6) * c 7 := by
  simp [dotC, sm, ent, rowsFor, rowFor, part, formF, formG, List.range, List.range.loop]
  try grind
theorem idW0 (w : Nat → Int) : discB b2 b4 b6 b8 * w 0 = ((-1)*b2*b2*b8 + b4*b4*b4 + 36*b4*b8 + (-27)*b6*b6) * ((1) * w 0 + 0) + (9*b4*w 0) * (b2 * b6 - b4 * b4 - 4 * b8) := by
  unfold discB
  generalize w 0 = w0, w 1 = w1, w 2 = w2, w 3 = w3, w 4 = w4, w 5 = w5, w 6 = w6, w 7 = w7
  grind
theorem idW1 (w : Nat → Int) : discB b2 b4 b6 b8 * w 1 = (4*b2*b4*b8 + (-4)*b4*b4*b6 + (-20)*b6*b8) * ((1) * w 0 + 0) + ((-1)*b2*b2*b8 + b4*b4*b4 + 12*b4*b8 + (-3)*b6*b6) * ((1) * w 1 + (4) * w 4) + (4*b2*b8 + (-4)*b4*b6) * (((-1)*b4) * w 0 + (1) * w 2 + (b2) * w 4 + (4) * w 5) + ((-16)*b8) * (((-2)*b6) * w 0 + ((-1)*b4) * w 1 + (1) * w 3 + (2*b4) * w 4 + (b2) * w 5 + (4) * w 6) + (12*b6) * (((-1)*b8) * w 0 + ((-2)*b6) * w 1 + ((-1)*b4) * w 2 + (b6) * w 4 + (2*b4) * w 5 + (b2) * w 6 + (4) * w 7) + ((-8)*b4) * (((-1)*b8) * w 1 + ((-2)*b6) * w 2 + ((-1)*b4) * w 3 + (b6) * w 5 + (2*b4) * w 6 + (b2) * w 7) + (4*b2) * (((-1)*b8) * w 2 + ((-2)*b6) * w 3 + (b6) * w 6 + (2*b4) * w 7) + ((-48)) * (((-1)*b8) * w 3 + (b6) * w 7 + 0) + (9*b4*w 1 + 4*b4*w 4 + 8*w 3 + (-16)*w 6) * (b2 * b6 - b4 * b4 - 4 * b8) := by
  unfold discB
  generalize w 0 = w0, w 1 = w1, w 2 = w2, w 3 = w3, w 4 = w4, w 5 = w5, w 6 = w6, w 7 = w7
  grind
theorem idW2 (w : Nat → Int) : discB b2 b4 b6 b8 * w 2 = ((-11)*b4*b6*b6 + 11*b4*b4*b8 + (-4)*b8*b8) * ((1) * w 0 + 0) + ((-2)*b2*b4*b8 + 2*b4*b4*b6 + 4*b6*b8) * ((1) * w 1 + (4) * w 4) + (8*b4*b8 + (-3)*b6*b6) * (((-1)*b4) * w 0 + (1) * w 2 + (b2) * w 4 + (4) * w 5) + ((-4)*b4*b6) * (((-2)*b6) * w 0 + ((-1)*b4) * w 1 + (1) * w 3 + (2*b4) * w 4 + (b2) * w 5 + (4) * w 6) + (3*b4*b4 + (-4)*b8) * (((-1)*b8) * w 0 + ((-2)*b6) * w 1 + ((-1)*b4) * w 2 + (b6) * w 4 + (2*b4) * w 5 + (b2) * w 6 + (4) * w 7) + ((-2)*b2*b4 + 12*b6) * (((-1)*b8) * w 1 + ((-2)*b6) * w 2 + ((-1)*b4) * w 3 + (b6) * w 5 + (2*b4) * w 6 + (b2) * w 7) + (b2*b2 + (-8)*b4) * (((-1)*b8) * w 2 + ((-2)*b6) * w 3 + (b6) * w 6 + (2*b4) * w 7) + ((-8)*b2) * (((-1)*b8) * w 3 + (b6) * w 7 + 0) + (2*b2*w 3 + (-1)*b2*w 6 + 5*b4*w 2 + 6*b4*w 5 + 3*b6*w 4 + (-4)*w 7) * (b2 * b6 - b4 * b4 - 4 * b8) := by
  unfold discB
  generalize w 0 = w0, w 1 = w1, w 2 = w2, w 3 = w3, w 4 = w4, w 5 = w5, w 6 = w6, w 7 = w7
  grind
theorem idW3 (w : Nat → Int) : discB b2 b4 b6 b8 * w 3 = (6*b4*b6*b8 + (-6)*b6*b6*b6) * ((1) * w 0 + 0) + (b4*b6*b6 + (-1)*b4*b4*b8 + (-4)*b8*b8) * ((1) * w 1 + (4) * w 4) + (4*b6*b8) * (((-1)*b4) * w 0 + (1) * w 2 + (b2) * w 4 + (4) * w 5) + ((-3)*b6*b6) * (((-2)*b6) * w 0 + ((-1)*b4) * w 1 + (1) * w 3 + (2*b4) * w 4 + (b2) * w 5 + (4) * w 6) + (2*b4*b6) * (((-1)*b8) * w 0 + ((-2)*b6) * w 1 + ((-1)*b4) * w 2 + (b6) * w 4 + (2*b4) * w 5 + (b2) * w 6 + (4) * w 7) + ((-1)*b4*b4 + (-4)*b8) * (((-1)*b8) * w 1 + ((-2)*b6) * w 2 + ((-1)*b4) * w 3 + (b6) * w 5 + (2*b4) * w 6 + (b2) * w 7) + (12*b6) * (((-1)*b8) * w 2 + ((-2)*b6) * w 3 + (b6) * w 6 + (2*b4) * w 7) + (b2*b2 + (-32)*b4) * (((-1)*b8) * w 3 + (b6) * w 7 + 0) + ((-1)*b2*w 7 + 9*b4*w 3 + (-2)*b4*w 6 + 3*b6*w 5 + (-4)*b8*w 4) * (b2 * b6 - b4 * b4 - 4 * b8) := by
  unfold discB
  generalize w 0 = w0, w 1 = w1, w 2 = w2, w 3 = w3, w 4 = w4, w 5 = w5, w 6 = w6, w 7 = w7
  grind
theorem idW4 (w : Nat → Int) : discB b2 b4 b6 b8 * w 4 = ((-1)*b2*b4*b8 + b4*b4*b6 + 5*b6*b8) * ((1) * w 0 + 0) + (6*b4*b8 + (-6)*b6*b6) * ((1) * w 1 + (4) * w 4) + ((-1)*b2*b8 + b4*b6) * (((-1)*b4) * w 0 + (1) * w 2 + (b2) * w 4 + (4) * w 5) + (4*b8) * (((-2)*b6) * w 0 + ((-1)*b4) * w 1 + (1) * w 3 + (2*b4) * w 4 + (b2) * w 5 + (4) * w 6) + ((-3)*b6) * (((-1)*b8) * w 0 + ((-2)*b6) * w 1 + ((-1)*b4) * w 2 + (b6) * w 4 + (2*b4) * w 5 + (b2) * w 6 + (4) * w 7) + (2*b4) * (((-1)*b8) * w 1 + ((-2)*b6) * w 2 + ((-1)*b4) * w 3 + (b6) * w 5 + (2*b4) * w 6 + (b2) * w 7) + ((-1)*b2) * (((-1)*b8) * w 2 + ((-2)*b6) * w 3 + (b6) * w 6 + (2*b4) * w 7) + (12) * (((-1)*b8) * w 3 + (b6) * w 7 + 0) + (8*b4*w 4 + (-2)*w 3 + 4*w 6) * (b2 * b6 - b4 * b4 - 4 * b8) := by
  unfold discB
  generalize w 0 = w0, w 1 = w1, w 2 = w2, w 3 = w3, w 4 = w4, w 5 = w5, w 6 = w6, w 7 = w7
  grind
theorem idW5 (w : Nat → Int) : discB b2 b4 b6 b8 * w 5 = ((-4)*b4*b6*b6 + 4*b4*b4*b8 + (-4)*b8*b8) * ((1) * w 0 + 0) + ((-1)*b2*b4*b8 + b4*b4*b6 + 5*b6*b8) * ((1) * w 1 + (4) * w 4) + (6*b4*b8 + (-6)*b6*b6) * (((-1)*b4) * w 0 + (1) * w 2 + (b2) * w 4 + (4) * w 5) + ((-1)*b2*b8 + b4*b6) * (((-2)*b6) * w 0 + ((-1)*b4) * w 1 + (1) * w 3 + (2*b4) * w 4 + (b2) * w 5 + (4) * w 6) + (4*b8) * (((-1)*b8) * w 0 + ((-2)*b6) * w 1 + ((-1)*b4) * w 2 + (b6) * w 4 + (2*b4) * w 5 + (b2) * w 6 + (4) * w 7) + ((-3)*b6) * (((-1)*b8) * w 1 + ((-2)*b6) * w 2 + ((-1)*b4) * w 3 + (b6) * w 5 + (2*b4) * w 6 + (b2) * w 7) + (2*b4) * (((-1)*b8) * w 2 + ((-2)*b6) * w 3 + (b6) * w 6 + (2*b4) * w 7) + ((-1)*b2) * (((-1)*b8) * w 3 + (b6) * w 7 + 0) + (8*b4*w 5 + 6*b6*w 4 + (-2)*b8*w 0 + 4*w 7) * (b2 * b6 - b4 * b4 - 4 * b8) := by
  unfold discB
  generalize w 0 = w0, w 1 = w1, w 2 = w2, w 3 = w3, w 4 = w4, w 5 = w5, w 6 = w6, w 7 = w7
  grind
theorem idW6 (w : Nat → Int) : discB b2 b4 b6 b8 * w 6 = ((-1)*b2*b8*b8 + 13*b4*b6*b8 + (-12)*b6*b6*b6) * ((1) * w 0 + 0) + (2*b4*b6*b6 + (-2)*b4*b4*b8 + (-4)*b8*b8) * ((1) * w 1 + (4) * w 4) + (5*b6*b8) * (((-1)*b4) * w 0 + (1) * w 2 + (b2) * w 4 + (4) * w 5) + (2*b4*b8 + (-6)*b6*b6) * (((-2)*b6) * w 0 + ((-1)*b4) * w 1 + (1) * w 3 + (2*b4) * w 4 + (b2) * w 5 + (4) * w 6) + ((-1)*b2*b8 + 4*b4*b6) * (((-1)*b8) * w 0 + ((-2)*b6) * w 1 + ((-1)*b4) * w 2 + (b6) * w 4 + (2*b4) * w 5 + (b2) * w 6 + (4) * w 7) + ((-2)*b4*b4 + 4*b8) * (((-1)*b8) * w 1 + ((-2)*b6) * w 2 + ((-1)*b4) * w 3 + (b6) * w 5 + (2*b4) * w 6 + (b2) * w 7) + (b2*b4 + (-3)*b6) * (((-1)*b8) * w 2 + ((-2)*b6) * w 3 + (b6) * w 6 + (2*b4) * w 7) + ((-10)*b4) * (((-1)*b8) * w 3 + (b6) * w 7 + 0) + (2*b4*w 3 + 4*b4*w 6 + 6*b6*w 5 + (-2)*b8*w 1 + (-4)*b8*w 4) * (b2 * b6 - b4 * b4 - 4 * b8) := by
  unfold discB
  generalize w 0 = w0, w 1 = w1, w 2 = w2, w 3 = w3, w 4 = w4, w 5 = w5, w 6 = w6, w 7 = w7
  grind
theorem idW7 (w : Nat → Int) : discB b2 b4 b6 b8 * w 7 = (6*b4*b8*b8 + (-6)*b6*b6*b8) * ((1) * w 0 + 0) + ((-1)*b2*b8*b8 + b4*b6*b8) * ((1) * w 1 + (4) * w 4) + (4*b8*b8) * (((-1)*b4) * w 0 + (1) * w 2 + (b2) * w 4 + (4) * w 5) + ((-3)*b6*b8) * (((-2)*b6) * w 0 + ((-1)*b4) * w 1 + (1) * w 3 + (2*b4) * w 4 + (b2) * w 5 + (4) * w 6) + (2*b4*b8) * (((-1)*b8) * w 0 + ((-2)*b6) * w 1 + ((-1)*b4) * w 2 + (b6) * w 4 + (2*b4) * w 5 + (b2) * w 6 + (4) * w 7) + ((-1)*b2*b8) * (((-1)*b8) * w 1 + ((-2)*b6) * w 2 + ((-1)*b4) * w 3 + (b6) * w 5 + (2*b4) * w 6 + (b2) * w 7) + (12*b8) * (((-1)*b8) * w 2 + ((-2)*b6) * w 3 + (b6) * w 6 + (2*b4) * w 7) + (b2*b4 + (-27)*b6) * (((-1)*b8) * w 3 + (b6) * w 7 + 0) + (8*b4*w 7 + (-2)*b8*w 2 + 4*b8*w 5) * (b2 * b6 - b4 * b4 - 4 * b8) := by
  unfold discB
  generalize w 0 = w0, w 1 = w1, w 2 = w2, w 3 = w3, w 4 = w4, w 5 = w5, w 6 = w6, w 7 = w7
  grind
theorem idC0 (c : Nat → Int) : discB b2 b4 b6 b8 * c 0 = ((-1)*b2*b2*b8 + b4*b4*b4 + 36*b4*b8 + (-27)*b6*b6) * ((1) * c 0 + ((-1)*b4) * c 2 + ((-2)*b6) * c 3 + ((-1)*b8) * c 4) + (4*b2*b4*b8 + (-4)*b4*b4*b6 + (-20)*b6*b8) * ((1) * c 1 + ((-1)*b4) * c 3 + ((-2)*b6) * c 4 + ((-1)*b8) * c 5) + ((-11)*b4*b6*b6 + 11*b4*b4*b8 + (-4)*b8*b8) * ((1) * c 2 + ((-1)*b4) * c 4 + ((-2)*b6) * c 5 + ((-1)*b8) * c 6) + (6*b4*b6*b8 + (-6)*b6*b6*b6) * ((1) * c 3 + ((-1)*b4) * c 5 + ((-2)*b6) * c 6 + ((-1)*b8) * c 7) + ((-1)*b2*b4*b8 + b4*b4*b6 + 5*b6*b8) * ((4) * c 1 + (b2) * c 2 + (2*b4) * c 3 + (b6) * c 4) + ((-4)*b4*b6*b6 + 4*b4*b4*b8 + (-4)*b8*b8) * ((4) * c 2 + (b2) * c 3 + (2*b4) * c 4 + (b6) * c 5) + ((-1)*b2*b8*b8 + 13*b4*b6*b8 + (-12)*b6*b6*b6) * ((4) * c 3 + (b2) * c 4 + (2*b4) * c 5 + (b6) * c 6) + (6*b4*b8*b8 + (-6)*b6*b6*b8) * ((4) * c 4 + (b2) * c 5 + (2*b4) * c 6 + (b6) * c 7) + ((-2)*b2*b8*c 3 + 4*b4*b6*c 3 + (-4)*b4*b8*c 4 + (-1)*b4*b4*c 2 + 6*b6*b8*c 5 + 12*b6*b6*c 4 + b8*b8*c 6 + 9*b4*c 0 + (-5)*b8*c 2) * (b2 * b6 - b4 * b4 - 4 * b8) := by
  unfold discB
  generalize c 0 = c0, c 1 = c1, c 2 = c2, c 3 = c3, c 4 = c4, c 5 = c5, c 6 = c6, c 7 = c7
  grind
theorem idC1 (c : Nat → Int) : discB b2 b4 b6 b8 * c 1 = ((-1)*b2*b2*b8 + b4*b4*b4 + 12*b4*b8 + (-3)*b6*b6) * ((1) * c 1 + ((-1)*b4) * c 3 + ((-2)*b6) * c 4 + ((-1)*b8) * c 5) + ((-2)*b2*b4*b8 + 2*b4*b4*b6 + 4*b6*b8) * ((1) * c 2 + ((-1)*b4) * c 4 + ((-2)*b6) * c 5 + ((-1)*b8) * c 6) + (b4*b6*b6 + (-1)*b4*b4*b8 + (-4)*b8*b8) * ((1) * c 3 + ((-1)*b4) * c 5 + ((-2)*b6) * c 6 + ((-1)*b8) * c 7) + (6*b4*b8 + (-6)*b6*b6) * ((4) * c 1 + (b2) * c 2 + (2*b4) * c 3 + (b6) * c 4) + ((-1)*b2*b4*b8 + b4*b4*b6 + 5*b6*b8) * ((4) * c 2 + (b2) * c 3 + (2*b4) * c 4 + (b6) * c 5) + (2*b4*b6*b6 + (-2)*b4*b4*b8 + (-4)*b8*b8) * ((4) * c 3 + (b2) * c 4 + (2*b4) * c 5 + (b6) * c 6) + ((-1)*b2*b8*b8 + b4*b6*b8) * ((4) * c 4 + (b2) * c 5 + (2*b4) * c 6 + (b6) * c 7) + ((-2)*b2*b8*c 4 + (-2)*b4*b6*c 4 + (-4)*b4*b8*c 5 + (-1)*b4*b4*c 3 + b8*b8*c 7 + 9*b4*c 1 + 6*b6*c 2 + (-5)*b8*c 3) * (b2 * b6 - b4 * b4 - 4 * b8) := by
  unfold discB
  generalize c 0 = c0, c 1 = c1, c 2 = c2, c 3 = c3, c 4 = c4, c 5 = c5, c 6 = c6, c 7 = c7
  grind
theorem idC2 (c : Nat → Int) : discB b2 b4 b6 b8 * c 2 = (4*b2*b8 + (-4)*b4*b6) * ((1) * c 1 + ((-1)*b4) * c 3 + ((-2)*b6) * c 4 + ((-1)*b8) * c 5) + (8*b4*b8 + (-3)*b6*b6) * ((1) * c 2 + ((-1)*b4) * c 4 + ((-2)*b6) * c 5 + ((-1)*b8) * c 6) + (4*b6*b8) * ((1) * c 3 + ((-1)*b4) * c 5 + ((-2)*b6) * c 6 + ((-1)*b8) * c 7) + ((-1)*b2*b8 + b4*b6) * ((4) * c 1 + (b2) * c 2 + (2*b4) * c 3 + (b6) * c 4) + (6*b4*b8 + (-6)*b6*b6) * ((4) * c 2 + (b2) * c 3 + (2*b4) * c 4 + (b6) * c 5) + (5*b6*b8) * ((4) * c 3 + (b2) * c 4 + (2*b4) * c 5 + (b6) * c 6) + (4*b8*b8) * ((4) * c 4 + (b2) * c 5 + (2*b4) * c 6 + (b6) * c 7) + (8*b4*c 2 + 6*b6*c 3 + 4*b8*c 4) * (b2 * b6 - b4 * b4 - 4 * b8) := by
  unfold discB
  generalize c 0 = c0, c 1 = c1, c 2 = c2, c 3 = c3, c 4 = c4, c 5 = c5, c 6 = c6, c 7 = c7
  grind
theorem idC3 (c : Nat → Int) : discB b2 b4 b6 b8 * c 3 = ((-16)*b8) * ((1) * c 1 + ((-1)*b4) * c 3 + ((-2)*b6) * c 4 + ((-1)*b8) * c 5) + ((-4)*b4*b6) * ((1) * c 2 + ((-1)*b4) * c 4 + ((-2)*b6) * c 5 + ((-1)*b8) * c 6) + ((-3)*b6*b6) * ((1) * c 3 + ((-1)*b4) * c 5 + ((-2)*b6) * c 6 + ((-1)*b8) * c 7) + (4*b8) * ((4) * c 1 + (b2) * c 2 + (2*b4) * c 3 + (b6) * c 4) + ((-1)*b2*b8 + b4*b6) * ((4) * c 2 + (b2) * c 3 + (2*b4) * c 4 + (b6) * c 5) + (2*b4*b8 + (-6)*b6*b6) * ((4) * c 3 + (b2) * c 4 + (2*b4) * c 5 + (b6) * c 6) + ((-3)*b6*b8) * ((4) * c 4 + (b2) * c 5 + (2*b4) * c 6 + (b6) * c 7) + (8*b4*c 3 + 6*b6*c 4 + 4*b8*c 5) * (b2 * b6 - b4 * b4 - 4 * b8) := by
  unfold discB
  generalize c 0 = c0, c 1 = c1, c 2 = c2, c 3 = c3, c 4 = c4, c 5 = c5, c 6 = c6, c 7 = c7
  grind
theorem idC4 (c : Nat → Int) : discB b2 b4 b6 b8 * c 4 = (12*b6) * ((1) * c 1 + ((-1)*b4) * c 3 + ((-2)*b6) * c 4 + ((-1)*b8) * c 5) + (3*b4*b4 + (-4)*b8) * ((1) * c 2 + ((-1)*b4) * c 4 + ((-2)*b6) * c 5 + ((-1)*b8) * c 6) + (2*b4*b6) * ((1) * c 3 + ((-1)*b4) * c 5 + ((-2)*b6) * c 6 + ((-1)*b8) * c 7) + ((-3)*b6) * ((4) * c 1 + (b2) * c 2 + (2*b4) * c 3 + (b6) * c 4) + (4*b8) * ((4) * c 2 + (b2) * c 3 + (2*b4) * c 4 + (b6) * c 5) + ((-1)*b2*b8 + 4*b4*b6) * ((4) * c 3 + (b2) * c 4 + (2*b4) * c 5 + (b6) * c 6) + (2*b4*b8) * ((4) * c 4 + (b2) * c 5 + (2*b4) * c 6 + (b6) * c 7) + (5*b4*c 4 + b8*c 6 + 3*c 2) * (b2 * b6 - b4 * b4 - 4 * b8) := by
  unfold discB
  generalize c 0 = c0, c 1 = c1, c 2 = c2, c 3 = c3, c 4 = c4, c 5 = c5, c 6 = c6, c 7 = c7
  grind
theorem idC5 (c : Nat → Int) : discB b2 b4 b6 b8 * c 5 = ((-8)*b4) * ((1) * c 1 + ((-1)*b4) * c 3 + ((-2)*b6) * c 4 + ((-1)*b8) * c 5) + ((-2)*b2*b4 + 12*b6) * ((1) * c 2 + ((-1)*b4) * c 4 + ((-2)*b6) * c 5 + ((-1)*b8) * c 6) + ((-1)*b4*b4 + (-4)*b8) * ((1) * c 3 + ((-1)*b4) * c 5 + ((-2)*b6) * c 6 + ((-1)*b8) * c 7) + (2*b4) * ((4) * c 1 + (b2) * c 2 + (2*b4) * c 3 + (b6) * c 4) + ((-3)*b6) * ((4) * c 2 + (b2) * c 3 + (2*b4) * c 4 + (b6) * c 5) + ((-2)*b4*b4 + 4*b8) * ((4) * c 3 + (b2) * c 4 + (2*b4) * c 5 + (b6) * c 6) + ((-1)*b2*b8) * ((4) * c 4 + (b2) * c 5 + (2*b4) * c 6 + (b6) * c 7) + (5*b4*c 5 + b8*c 7 + 3*c 3) * (b2 * b6 - b4 * b4 - 4 * b8) := by
  unfold discB
  generalize c 0 = c0, c 1 = c1, c 2 = c2, c 3 = c3, c 4 = c4, c 5 = c5, c 6 = c6, c 7 = c7
  grind
theorem idC6 (c : Nat → Int) : discB b2 b4 b6 b8 * c 6 = (4*b2) * ((1) * c 1 + ((-1)*b4) * c 3 + ((-2)*b6) * c 4 + ((-1)*b8) * c 5) + (b2*b2 + (-8)*b4) * ((1) * c 2 + ((-1)*b4) * c 4 + ((-2)*b6) * c 5 + ((-1)*b8) * c 6) + (12*b6) * ((1) * c 3 + ((-1)*b4) * c 5 + ((-2)*b6) * c 6 + ((-1)*b8) * c 7) + ((-1)*b2) * ((4) * c 1 + (b2) * c 2 + (2*b4) * c 3 + (b6) * c 4) + (2*b4) * ((4) * c 2 + (b2) * c 3 + (2*b4) * c 4 + (b6) * c 5) + (b2*b4 + (-3)*b6) * ((4) * c 3 + (b2) * c 4 + (2*b4) * c 5 + (b6) * c 6) + (12*b8) * ((4) * c 4 + (b2) * c 5 + (2*b4) * c 6 + (b6) * c 7) + (2*b2*c 5 + 8*b4*c 6 + 12*c 4) * (b2 * b6 - b4 * b4 - 4 * b8) := by
  unfold discB
  generalize c 0 = c0, c 1 = c1, c 2 = c2, c 3 = c3, c 4 = c4, c 5 = c5, c 6 = c6, c 7 = c7
  grind
theorem idC7 (c : Nat → Int) : discB b2 b4 b6 b8 * c 7 = ((-48)) * ((1) * c 1 + ((-1)*b4) * c 3 + ((-2)*b6) * c 4 + ((-1)*b8) * c 5) + ((-8)*b2) * ((1) * c 2 + ((-1)*b4) * c 4 + ((-2)*b6) * c 5 + ((-1)*b8) * c 6) + (b2*b2 + (-32)*b4) * ((1) * c 3 + ((-1)*b4) * c 5 + ((-2)*b6) * c 6 + ((-1)*b8) * c 7) + (12) * ((4) * c 1 + (b2) * c 2 + (2*b4) * c 3 + (b6) * c 4) + ((-1)*b2) * ((4) * c 2 + (b2) * c 3 + (2*b4) * c 4 + (b6) * c 5) + ((-10)*b4) * ((4) * c 3 + (b2) * c 4 + (2*b4) * c 5 + (b6) * c 6) + (b2*b4 + (-27)*b6) * ((4) * c 4 + (b2) * c 5 + (2*b4) * c 6 + (b6) * c 7) + (2*b2*c 6 + 8*b4*c 7 + 12*c 5) * (b2 * b6 - b4 * b4 - 4 * b8) := by
  unfold discB
  generalize c 0 = c0, c 1 = c1, c 2 = c2, c 3 = c3, c 4 = c4, c 5 = c5, c 6 = c6, c 7 = c7
  grind
theorem kerA (rel : 4 * b8 = b2 * b6 - b4 * b4) (hD : discB b2 b4 b6 b8 ≠ 0) : Ker (matA b2 b4 b6 b8) := fun w w8 w9 h => by
  have h0 := h 0 (by omega)
  rw [rowA_0] at h0
  have h1 := h 1 (by omega)
  rw [rowA_1] at h1
  have h2 := h 2 (by omega)
  rw [rowA_2] at h2
  have h3 := h 3 (by omega)
  rw [rowA_3] at h3
  have h4 := h 4 (by omega)
  rw [rowA_4] at h4
  have h5 := h 5 (by omega)
  rw [rowA_5] at h5
  have h6 := h 6 (by omega)
  rw [rowA_6] at h6
  have h7 := h 7 (by omega)
  rw [rowA_7] at h7
  rw [w9] at h0
  rw [w8] at h7
  have rz : b2 * b6 - b4 * b4 - 4 * b8 = 0 := by omega
  have k0 : discB b2 b4 b6 b8 * w 0 = 0 := by
    rw [idW0, h0, rz]
    simp
  have k1 : discB b2 b4 b6 b8 * w 1 = 0 := by
    rw [idW1, h0, h1, h2, h3, h4, h5, h6, h7, rz]
    simp
  have k2 : discB b2 b4 b6 b8 * w 2 = 0 := by
    rw [idW2, h0, h1, h2, h3, h4, h5, h6, h7, rz]
    simp
  have k3 : discB b2 b4 b6 b8 * w 3 = 0 := by
    rw [idW3, h0, h1, h2, h3, h4, h5, h6, h7, rz]
    simp
  have k4 : discB b2 b4 b6 b8 * w 4 = 0 := by
    rw [idW4, h0, h1, h2, h3, h4, h5, h6, h7, rz]
    simp
  have k5 : discB b2 b4 b6 b8 * w 5 = 0 := by
    rw [idW5, h0, h1, h2, h3, h4, h5, h6, h7, rz]
    simp
  have k6 : discB b2 b4 b6 b8 * w 6 = 0 := by
    rw [idW6, h0, h1, h2, h3, h4, h5, h6, h7, rz]
    simp
  have k7 : discB b2 b4 b6 b8 * w 7 = 0 := by
    rw [idW7, h0, h1, h2, h3, h4, h5, h6, h7, rz]
    simp
  intro j hj
  have hz : discB b2 b4 b6 b8 * w j = 0 := by
    match j, hj with
    | 0, _ => exact k0
    | 1, _ => exact k1
    | 2, _ => exact k2
    | 3, _ => exact k3
    | 4, _ => exact k4
    | 5, _ => exact k5
    | 6, _ => exact k6
    | 7, _ => exact k7
  rcases Int.mul_eq_zero.mp hz with z | z
  · exact absurd z hD
  · exact z
theorem indA (rel : 4 * b8 = b2 * b6 - b4 * b4) (hD : discB b2 b4 b6 b8 ≠ 0) : ∀ c : Nat → Int, (∀ j, j < 10 → dotC (matA b2 b4 b6 b8) j c = 0) → ∀ i, i < 8 → c i = 0 := fun c h => by
  have rz : b2 * b6 - b4 * b4 - 4 * b8 = 0 := by omega
  have h0 := h 0 (by omega)
  rw [colA_0] at h0
  have h1 := h 1 (by omega)
  rw [colA_1] at h1
  have h2 := h 2 (by omega)
  rw [colA_2] at h2
  have h3 := h 3 (by omega)
  rw [colA_3] at h3
  have h4 := h 4 (by omega)
  rw [colA_4] at h4
  have h5 := h 5 (by omega)
  rw [colA_5] at h5
  have h6 := h 6 (by omega)
  rw [colA_6] at h6
  have h7 := h 7 (by omega)
  rw [colA_7] at h7
  have k0 : discB b2 b4 b6 b8 * c 0 = 0 := by
    rw [idC0, h0, h1, h2, h3, h4, h5, h6, h7, rz]
    simp
  have k1 : discB b2 b4 b6 b8 * c 1 = 0 := by
    rw [idC1, h1, h2, h3, h4, h5, h6, h7, rz]
    simp
  have k2 : discB b2 b4 b6 b8 * c 2 = 0 := by
    rw [idC2, h1, h2, h3, h4, h5, h6, h7, rz]
    simp
  have k3 : discB b2 b4 b6 b8 * c 3 = 0 := by
    rw [idC3, h1, h2, h3, h4, h5, h6, h7, rz]
    simp
  have k4 : discB b2 b4 b6 b8 * c 4 = 0 := by
    rw [idC4, h1, h2, h3, h4, h5, h6, h7, rz]
    simp
  have k5 : discB b2 b4 b6 b8 * c 5 = 0 := by
    rw [idC5, h1, h2, h3, h4, h5, h6, h7, rz]
    simp
  have k6 : discB b2 b4 b6 b8 * c 6 = 0 := by
    rw [idC6, h1, h2, h3, h4, h5, h6, h7, rz]
    simp
  have k7 : discB b2 b4 b6 b8 * c 7 = 0 := by
    rw [idC7, h1, h2, h3, h4, h5, h6, h7, rz]
    simp
  intro j hj
  have hz : discB b2 b4 b6 b8 * c j = 0 := by
    match j, hj with
    | 0, _ => exact k0
    | 1, _ => exact k1
    | 2, _ => exact k2
    | 3, _ => exact k3
    | 4, _ => exact k4
    | 5, _ => exact k5
    | 6, _ => exact k6
    | 7, _ => exact k7
  rcases Int.mul_eq_zero.mp hz with z | z
  · exact absurd z hD
  · exact z
def cof0 (b2 b4 b6 b8 : Int) : List Int := [0, (-48), (-8)*b2, b2*b2 + (-32)*b4, 12, (-1)*b2, (-10)*b4, b2*b4 + (-27)*b6]
theorem cof0_ok (rel : 4 * b8 = b2 * b6 - b4 * b4) : ∀ i, i < 8 → sm 8 (fun j => ent (matA b2 b4 b6 b8) i j * (cof0 b2 b4 b6 b8).getD j 0) = discB b2 b4 b6 b8 * ent (matA b2 b4 b6 b8) i 8 := by
  intro i hi
  match i, hi with
  | 0, _ =>
    simp [sm, ent, rowsFor, rowFor, part, formF, formG, List.range, List.range.loop, cof0, discB]
    try grind
  | 1, _ =>
    simp [sm, ent, rowsFor, rowFor, part, formF, formG, List.range, List.range.loop, cof0, discB]
    try grind
  | 2, _ =>
    simp [sm, ent, rowsFor, rowFor, part, formF, formG, List.range, List.range.loop, cof0, discB]
    try grind
  | 3, _ =>
    simp [sm, ent, rowsFor, rowFor, part, formF, formG, List.range, List.range.loop, cof0, discB]
    try grind
  | 4, _ =>
    simp [sm, ent, rowsFor, rowFor, part, formF, formG, List.range, List.range.loop, cof0, discB]
    try grind
  | 5, _ =>
    simp [sm, ent, rowsFor, rowFor, part, formF, formG, List.range, List.range.loop, cof0, discB]
    try grind
  | 6, _ =>
    simp [sm, ent, rowsFor, rowFor, part, formF, formG, List.range, List.range.loop, cof0, discB]
    try grind
  | 7, _ =>
    simp [sm, ent, rowsFor, rowFor, part, formF, formG, List.range, List.range.loop, cof0, discB]
    try grind
def cof1 (b2 b4 b6 b8 : Int) : List Int := [(-1)*b2*b2*b8 + b4*b4*b4 + 36*b4*b8 + (-27)*b6*b6, 4*b2*b4*b8 + (-4)*b4*b4*b6 + (-20)*b6*b8, (-11)*b4*b6*b6 + 11*b4*b4*b8 + (-4)*b8*b8, 6*b4*b6*b8 + (-6)*b6*b6*b6, (-1)*b2*b4*b8 + b4*b4*b6 + 5*b6*b8, (-4)*b4*b6*b6 + 4*b4*b4*b8 + (-4)*b8*b8, (-1)*b2*b8*b8 + 13*b4*b6*b8 + (-12)*b6*b6*b6, 6*b4*b8*b8 + (-6)*b6*b6*b8]
theorem cof1_ok (rel : 4 * b8 = b2 * b6 - b4 * b4) : ∀ i, i < 8 → sm 8 (fun j => ent (matA b2 b4 b6 b8) i j * (cof1 b2 b4 b6 b8).getD j 0) = discB b2 b4 b6 b8 * ent (matA b2 b4 b6 b8) i 9 := by
  intro i hi
  match i, hi with
  | 0, _ =>
    simp [sm, ent, rowsFor, rowFor, part, formF, formG, List.range, List.range.loop, cof1, discB]
    try grind
  | 1, _ =>
    simp [sm, ent, rowsFor, rowFor, part, formF, formG, List.range, List.range.loop, cof1, discB]
    try grind
  | 2, _ =>
    simp [sm, ent, rowsFor, rowFor, part, formF, formG, List.range, List.range.loop, cof1, discB]
    try grind
  | 3, _ =>
    simp [sm, ent, rowsFor, rowFor, part, formF, formG, List.range, List.range.loop, cof1, discB]
    try grind
  | 4, _ =>
    simp [sm, ent, rowsFor, rowFor, part, formF, formG, List.range, List.range.loop, cof1, discB]
    try grind
  | 5, _ =>
    simp [sm, ent, rowsFor, rowFor, part, formF, formG, List.range, List.range.loop, cof1, discB]
    try grind
  | 6, _ =>
    simp [sm, ent, rowsFor, rowFor, part, formF, formG, List.range, List.range.loop, cof1, discB]
    try grind
  | 7, _ =>
    simp [sm, ent, rowsFor, rowFor, part, formF, formG, List.range, List.range.loop, cof1, discB]
    try grind
end
end Cw
end
section
set_option linter.all false
set_option maxHeartbeats 1000000
set_option exponentiation.threshold 100000
namespace Cw
section
variable {b2 b4 b6 b8 : Int}
theorem getD_all {l : List Int} {P : Int → Prop} (h0 : P 0) (h : ∀ x ∈ l, P x) (i : Nat) : P (l.getD i 0) := by
  rw [List.getD_eq_getElem?_getD]
  cases e : l[i]? with
  | none => exact h0
  | some x => exact h x (List.mem_of_getElem? e)
theorem part_all {f : List Int} {P : Int → Prop} (h0 : P 0) (h : ∀ x ∈ f, P x) (t : Nat) : ∀ x ∈ part f t, P x := fun x hx => by
  obtain ⟨k, _, rfl⟩ := List.mem_map.mp hx
  split
  · exact getD_all h0 h _
  · exact h0
theorem ent_all {f g : List Int} {P : Int → Prop} (h0 : P 0) (h1 : P 1) (hf : ∀ x ∈ f, P x) (hg : ∀ x ∈ g, P x) (i j : Nat) : P (ent (rowsFor f g) i j) := by
  unfold ent
  have key : (rowsFor f g).getD i [] = [] ∨ ∃ t, (rowsFor f g).getD i [] = rowFor f g t := by
    unfold rowsFor
    rw [List.getD_eq_getElem?_getD (i := i), List.getElem?_map]
    cases e : (List.range 8)[i]? with
    | none => exact .inl rfl
    | some t => exact .inr ⟨t, rfl⟩
  rcases key with e | ⟨t, e⟩
  · rw [e]; exact h0
  · rw [e]
    refine getD_all h0 (fun x hx => ?_) j
    unfold rowFor at hx
    rcases List.mem_append.mp hx with hx | hx
    · rcases List.mem_append.mp hx with hx | hx
      · exact part_all h0 hf t x hx
      · exact part_all h0 hg t x hx
    · simp at hx
      rcases hx with rfl | rfl <;> split <;> assumption
theorem matA_len : (matA b2 b4 b6 b8).length = 8 := rfl
theorem matA_lens : ∀ i, i < 8 → ((matA b2 b4 b6 b8).getD i []).length = 10 := fun i hi => by
  match i, hi with
  | 0, _ => rfl
  | 1, _ => rfl
  | 2, _ => rfl
  | 3, _ => rfl
  | 4, _ => rfl
  | 5, _ => rfl
  | 6, _ => rfl
  | 7, _ => rfl
/-- what the elimination asks of the numbers -/
structure Bok (b2 b4 b6 b8 : Int) : Prop where
  rel : 4 * b8 = b2 * b6 - b4 * b4
  d : discB b2 b4 b6 b8 ≠ 0
  h2 : b2.natAbs < 2 ^ 9
  h4 : b4.natAbs < 2 ^ 12
  h6 : b6.natAbs < 2 ^ 16
  h8 : b8.natAbs < 2 ^ 23
theorem Bok.ent (h : Bok b2 b4 b6 b8) (i j : Nat) : (ent (matA b2 b4 b6 b8) i j).natAbs < 2 ^ 23 := by
  obtain ⟨_, _, h2, h4, h6, h8⟩ := h
  refine ent_all (P := fun x => x.natAbs < 2 ^ 23) (by decide) (by decide) (fun x hx => ?_) (fun x hx => ?_) i j
  · simp [formF] at hx
    rcases hx with rfl | rfl | rfl | rfl | rfl <;> omega
  · simp [formG] at hx
    rcases hx with rfl | rfl | rfl | rfl | rfl <;> omega
theorem Bok.ker (h : Bok b2 b4 b6 b8) : Ker (matA b2 b4 b6 b8) := kerA h.rel h.d
theorem Bok.out (h : Bok b2 b4 b6 b8) (t : Nat) (ht : t ≤ 8) : Out (matA b2 b4 b6 b8) t (bitsAt 23 t) ((List.range t).foldl clear1 (matA b2 b4 b6 b8)) :=
  out_fold h.ker ⟨.self matA_len matA_lens (indA h.rel h.d), fun k hk => by omega, h.ent⟩ t ht
theorem Bok.fin (h : Bok b2 b4 b6 b8) : Out (matA b2 b4 b6 b8) 8 6143 (clearedL (matA b2 b4 b6 b8)) := h.out 8 (Nat.le_refl _)
def paperL (b2 b4 b6 b8 : Int) : List Int := small (nums (clearedL (matA b2 b4 b6 b8)))
theorem nums_len (M : List (List Int)) : (nums M).length = 17 := by simp [nums, side]
theorem paperL_len : (paperL b2 b4 b6 b8).length = 17 := by unfold paperL; rw [small_len, nums_len]
theorem side_len (M : List (List Int)) (m : Int) (s : Nat) : (side M m s).length = 8 := by simp [side]
theorem nums_get0 (M : List (List Int)) : (nums M).getD 0 0 = lcmL M 8 := by unfold nums; exact List.getD_cons_zero
theorem nums_get1 (M : List (List Int)) {j : Nat} (hj : j < 8) : (nums M).getD (1 + j) 0 = (side M (lcmL M 8) 0).getD j 0 := by
  unfold nums
  rw [Nat.add_comm, List.getD_cons_succ]
  simp only [List.getD_eq_getElem?_getD]
  rw [List.getElem?_append_left (by rw [side_len]; exact hj)]
theorem nums_get2 (M : List (List Int)) {j : Nat} (hj : j < 8) : (nums M).getD (9 + j) 0 = (side M (lcmL M 8) 1).getD j 0 := by
  unfold nums
  rw [show 9 + j = (8 + j) + 1 by omega, List.getD_cons_succ]
  simp only [List.getD_eq_getElem?_getD]
  rw [List.getElem?_append_right (by rw [side_len]; omega), side_len, show 8 + j - 8 = j by omega]
theorem nums_ne (h : Bok b2 b4 b6 b8) : gcdL (nums (clearedL (matA b2 b4 b6 b8))) ≠ 0 := by
  have hp := (lcmL_ok (fun t ht => (h.fin.clr t ht).1) 8 (Nat.le_refl _)).1
  have := gcdL_pos (r := nums (clearedL (matA b2 b4 b6 b8))) (x := lcmL (clearedL (matA b2 b4 b6 b8)) 8) (by simp [nums]) (by omega)
  omega
theorem mul_cancel {a x y : Int} (ha : a ≠ 0) (h : a * x = a * y) : x = y := Int.eq_of_mul_eq_mul_left ha h
theorem paper_pos (h : Bok b2 b4 b6 b8) : 0 < (paperL b2 b4 b6 b8).getD 0 0 := by
  have hp := (lcmL_ok (fun t ht => (h.fin.clr t ht).1) 8 (Nat.le_refl _)).1
  have hg := nums_ne h
  have hn := gcdL_nn (nums (clearedL (matA b2 b4 b6 b8)))
  have e := small_get hg 0
  rw [nums_get0] at e
  unfold paperL
  by_cases hz : 0 < (small (nums (clearedL (matA b2 b4 b6 b8)))).getD 0 0
  · exact hz
  · have := Int.mul_nonpos_of_nonneg_of_nonpos hn (Int.not_lt.mp hz)
    omega
/-- the paper solves the equations -/
theorem paper_sol1 (h : Bok b2 b4 b6 b8) : ∀ i, i < 8 → sm 8 (fun j => ent (matA b2 b4 b6 b8) i j * (paperL b2 b4 b6 b8).getD (1 + j) 0) = (paperL b2 b4 b6 b8).getD 0 0 * ent (matA b2 b4 b6 b8) i 8 := fun i hi => by
  have hg := nums_ne h
  refine mul_cancel hg ?_
  rw [← sm_mul]
  have e := sol_side h.fin (s := 0) (by omega) i hi
  rw [show (8 + 0) = 8 from rfl] at e
  rw [← Int.mul_assoc]
  have e0 : gcdL (nums (clearedL (matA b2 b4 b6 b8))) * (paperL b2 b4 b6 b8).getD 0 0 = lcmL (clearedL (matA b2 b4 b6 b8)) 8 := (small_get hg 0).trans (nums_get0 _)
  rw [e0, ← e]
  refine sm_congr fun j hj => ?_
  have e1 : gcdL (nums (clearedL (matA b2 b4 b6 b8))) * (paperL b2 b4 b6 b8).getD (1 + j) 0 = _ := small_get hg (1 + j)
  rw [nums_get1 _ hj] at e1
  rw [← e1]
  grind
theorem paper_sol2 (h : Bok b2 b4 b6 b8) : ∀ i, i < 8 → sm 8 (fun j => ent (matA b2 b4 b6 b8) i j * (paperL b2 b4 b6 b8).getD (9 + j) 0) = (paperL b2 b4 b6 b8).getD 0 0 * ent (matA b2 b4 b6 b8) i 9 := fun i hi => by
  have hg := nums_ne h
  refine mul_cancel hg ?_
  rw [← sm_mul]
  have e := sol_side h.fin (s := 1) (by omega) i hi
  rw [show (8 + 1) = 9 from rfl] at e
  rw [← Int.mul_assoc]
  have e0 : gcdL (nums (clearedL (matA b2 b4 b6 b8))) * (paperL b2 b4 b6 b8).getD 0 0 = lcmL (clearedL (matA b2 b4 b6 b8)) 8 := (small_get hg 0).trans (nums_get0 _)
  rw [e0, ← e]
  refine sm_congr fun j hj => ?_
  have e1 : gcdL (nums (clearedL (matA b2 b4 b6 b8))) * (paperL b2 b4 b6 b8).getD (9 + j) 0 = _ := small_get hg (9 + j)
  rw [nums_get2 _ hj] at e1
  rw [← e1]
  grind
/-- two solutions are alike -/
theorem alike (h : Bok b2 b4 b6 b8) {s : Nat} {u v : Nat → Int} {a b : Int} (hu : ∀ i, i < 8 → sm 8 (fun j => ent (matA b2 b4 b6 b8) i j * u j) = a * ent (matA b2 b4 b6 b8) i s)
    (hv : ∀ i, i < 8 → sm 8 (fun j => ent (matA b2 b4 b6 b8) i j * v j) = b * ent (matA b2 b4 b6 b8) i s) : ∀ j, j < 8 → b * u j = a * v j := fun j hj => by
  have k := h.ker (fun j => if j < 8 then b * u j - a * v j else 0) (by simp) (by simp) (fun i hi => by
    unfold dotR
    show sm 8 (fun j => ent (matA b2 b4 b6 b8) i j * (if j < 8 then b * u j - a * v j else 0)) + _ + _ = 0
    rw [sm_congr (g := fun j => b * (ent (matA b2 b4 b6 b8) i j * u j) - a * (ent (matA b2 b4 b6 b8) i j * v j)) fun j hj => by rw [if_pos hj]; grind]
    rw [sm_sub, sm_mul, sm_mul, hu i hi, hv i hi]
    simp
    grind) j hj
  simp only [if_pos hj] at k
  omega
theorem paper_dvd (h : Bok b2 b4 b6 b8) : (paperL b2 b4 b6 b8).getD 0 0 ∣ discB b2 b4 b6 b8 := by
  have h1 := alike h (u := fun j => (paperL b2 b4 b6 b8).getD (1 + j) 0) (v := fun j => (cof0 b2 b4 b6 b8).getD j 0) (paper_sol1 h) (cof0_ok h.rel)
  have h2 := alike h (u := fun j => (paperL b2 b4 b6 b8).getD (9 + j) 0) (v := fun j => (cof1 b2 b4 b6 b8).getD j 0) (paper_sol2 h) (cof1_ok h.rel)
  refine dvd_of_prim (r := paperL b2 b4 b6 b8) (fun x hx => ?_) (small_prim (nums_ne h))
  obtain ⟨k, hk, e⟩ := List.mem_iff_getElem.mp hx
  have e2 : (paperL b2 b4 b6 b8).getD k 0 = x := by rw [List.getD_eq_getElem?_getD, List.getElem?_eq_getElem hk]; exact e
  rw [paperL_len] at hk
  rw [← e2]
  by_cases k0 : k = 0
  · subst k0
    exact Int.dvd_mul_left _ _
  · by_cases k1 : k < 9
    · have := h1 (k - 1) (by omega)
      simp only [show 1 + (k - 1) = k by omega] at this
      rw [this]
      exact Int.dvd_mul_right _ _
    · have := h2 (k - 9) (by omega)
      simp only [show 9 + (k - 9) = k by omega] at this
      rw [this]
      exact Int.dvd_mul_right _ _
theorem abs_le_of {d r x y : Int} (hd : d ≠ 0) (hr : r.natAbs ≤ d.natAbs) (h : d * x = r * y) : x.natAbs ≤ y.natAbs := by
  have e := congrArg Int.natAbs h
  rw [Int.natAbs_mul, Int.natAbs_mul] at e
  have h1 : d.natAbs * x.natAbs ≤ d.natAbs * y.natAbs := by
    rw [e]
    exact Nat.mul_le_mul_right _ hr
  exact Nat.le_of_mul_le_mul_left h1 (Int.natAbs_pos.mpr hd)
theorem paper_bnd (h : Bok b2 b4 b6 b8) : ((paperL b2 b4 b6 b8).getD 0 0).natAbs ≤ (discB b2 b4 b6 b8).natAbs ∧ (∀ j, j < 8 → ((paperL b2 b4 b6 b8).getD (1 + j) 0).natAbs ≤ ((cof0 b2 b4 b6 b8).getD j 0).natAbs) ∧ ∀ j, j < 8 → ((paperL b2 b4 b6 b8).getD (9 + j) 0).natAbs ≤ ((cof1 b2 b4 b6 b8).getD j 0).natAbs := by
  have h0 := Nat.le_of_dvd (Int.natAbs_pos.mpr h.d) (Int.natAbs_dvd_natAbs.mpr (paper_dvd h))
  have h1 := alike h (u := fun j => (paperL b2 b4 b6 b8).getD (1 + j) 0) (v := fun j => (cof0 b2 b4 b6 b8).getD j 0) (paper_sol1 h) (cof0_ok h.rel)
  have h2 := alike h (u := fun j => (paperL b2 b4 b6 b8).getD (9 + j) 0) (v := fun j => (cof1 b2 b4 b6 b8).getD j 0) (paper_sol2 h) (cof1_ok h.rel)
  exact ⟨h0, fun j hj => abs_le_of h.d h0 (h1 j hj), fun j hj => abs_le_of h.d h0 (h2 j hj)⟩
end
end Cw
end
section
set_option linter.all false
set_option maxHeartbeats 4000000
namespace Cw
structure Cv where
  a1 : Int
  a2 : Int
  a3 : Int
  a4 : Int
  a6 : Int
namespace Cv
def b2 (c : Cv) : Int := c.a1 * c.a1 + 4 * c.a2
def b4 (c : Cv) : Int := 2 * c.a4 + c.a1 * c.a3
def b6 (c : Cv) : Int := c.a3 * c.a3 + 4 * c.a6
def b8 (c : Cv) : Int := c.a1 * c.a1 * c.a6 + 4 * c.a2 * c.a6 - c.a1 * c.a3 * c.a4 + c.a2 * c.a3 * c.a3 - c.a4 * c.a4
def D (c : Cv) : Int := discB c.b2 c.b4 c.b6 c.b8
theorem rel (c : Cv) : 4 * c.b8 = c.b2 * c.b6 - c.b4 * c.b4 := by
  unfold b2 b4 b6 b8
  grind
/-- moved by (1, R, S, T) -/
def mv (c : Cv) (r s t : Int) : Cv where
  a1 := c.a1 + 2 * s
  a2 := c.a2 - s * c.a1 + 3 * r - s * s
  a3 := c.a3 + r * c.a1 + 2 * t
  a4 := c.a4 - s * c.a3 + 2 * r * c.a2 - t * c.a1 - r * s * c.a1 + 3 * r * r - 2 * s * t
  a6 := c.a6 + r * c.a4 + r * r * c.a2 + r * r * r - t * c.a3 - t * t - r * t * c.a1
theorem mv_b2 (c : Cv) (r s t : Int) : (c.mv r s t).b2 = c.b2 + 12 * r := by
  simp only [b2, mv]
  grind
theorem mv_b4 (c : Cv) (r s t : Int) : (c.mv r s t).b4 = c.b4 + r * c.b2 + 6 * r * r := by
  simp only [b2, b4, mv]
  grind
theorem mv_b6 (c : Cv) (r s t : Int) : (c.mv r s t).b6 = c.b6 + 2 * r * c.b4 + r * r * c.b2 + 4 * r * r * r := by
  simp only [b2, b4, b6, mv]
  grind
theorem mv_b8 (c : Cv) (r s t : Int) : (c.mv r s t).b8 = c.b8 + 3 * r * c.b6 + 3 * r * r * c.b4 + r * r * r * c.b2 + 3 * r * r * r * r := by
  simp only [b2, b4, b6, b8, mv]
  grind
theorem disc_mv {b2 b4 b6 b8 r : Int} (h : 4 * b8 = b2 * b6 - b4 * b4) : discB (b2 + 12 * r) (b4 + r * b2 + 6 * r * r) (b6 + 2 * r * b4 + r * r * b2 + 4 * r * r * r) (b8 + 3 * r * b6 + 3 * r * r * b4 + r * r * r * b2 + 3 * r * r * r * r) = discB b2 b4 b6 b8 := by
  unfold discB
  grind
theorem mv_D (c : Cv) (r s t : Int) : (c.mv r s t).D = c.D := by
  unfold D
  rw [mv_b2, mv_b4, mv_b6, mv_b8]
  exact disc_mv c.rel
/-- how far off -/
def off (c : Cv) (x y : Rat) : Rat := (y * y + c.a1 * x * y + c.a3 * y) - (x * x * x + c.a2 * x * x + c.a4 * x + c.a6)
def On (c : Cv) (x y : Rat) : Prop := c.off x y = 0
theorem on_mv {c : Cv} {x y : Rat} (h : c.On x y) (r s t : Int) : (c.mv r s t).On (x - r) (y - s * (x - r) - t) := by
  unfold On off at h ⊢
  simp only [mv, Rat.intCast_add, Rat.intCast_sub, Rat.intCast_mul, Rat.intCast_ofNat]
  generalize (c.a1 : Rat) = a1, (c.a2 : Rat) = a2, (c.a3 : Rat) = a3, (c.a4 : Rat) = a4, (c.a6 : Rat) = a6, (r : Rat) = r, (s : Rat) = s, (t : Rat) = t at *
  grind
theorem on_neg {c : Cv} {x y : Rat} (h : c.On x y) : c.On x (-y - c.a1 * x - c.a3) := by
  unfold On off at h ⊢
  grind
def psi (c : Cv) (x y : Rat) : Rat := 2 * y + c.a1 * x + c.a3
def tau (c : Cv) (x y : Rat) : Rat := 3 * x * x + 2 * c.a2 * x + c.a4 - c.a1 * y
def addX (c : Cv) (l x v : Rat) : Rat := l * l + c.a1 * l - c.a2 - x - v
def addY (c : Cv) (l x y X : Rat) : Rat := -(l * X) - c.a1 * X - y + l * x - c.a3
/-- the sum of two points of unlike X -/
theorem on_add {c : Cv} {x y v w l : Rat} (h : c.On x y) (h2 : c.On v w) (hx : x ≠ v) (hl : l * (v - x) = w - y) : c.On (c.addX l x v) (c.addY l x y (c.addX l x v)) := by
  unfold On off at h h2 ⊢
  unfold addX addY
  have hw : w = y + l * (v - x) := by grind
  subst hw
  have hd : v - x ≠ 0 := by grind
  have key : (v - x) * ((y * y + c.a1 * x * y + c.a3 * y) - (x * x * x + c.a2 * x * x + c.a4 * x + c.a6)) = 0 := by rw [h]; grind
  generalize (c.a1 : Rat) = a1, (c.a2 : Rat) = a2, (c.a3 : Rat) = a3, (c.a4 : Rat) = a4, (c.a6 : Rat) = a6 at *
  have e : (v - x) * (2 * y * l + l * l * (v - x) + a1 * y + a1 * v * l + a3 * l - (v * v + v * x + x * x) - a2 * (v + x) - a4) = 0 := by grind
  have e2 : 2 * y * l + l * l * (v - x) + a1 * y + a1 * v * l + a3 * l - (v * v + v * x + x * x) - a2 * (v + x) - a4 = 0 := by
    rcases Rat.mul_eq_zero.mp e with z | z
    · exact absurd z hd
    · exact z
  grind
/-- the double -/
theorem on_dbl {c : Cv} {x y l : Rat} (h : c.On x y) (hl : l * c.psi x y = c.tau x y) : c.On (c.addX l x x) (c.addY l x y (c.addX l x x)) := by
  unfold On off at h ⊢
  unfold psi tau at hl
  unfold addX addY
  generalize (c.a1 : Rat) = a1, (c.a2 : Rat) = a2, (c.a3 : Rat) = a3, (c.a4 : Rat) = a4, (c.a6 : Rat) = a6 at *
  grind
def fx (c : Cv) (x : Rat) : Rat := x * x * x * x - c.b4 * x * x - 2 * c.b6 * x - c.b8
def gx (c : Cv) (x : Rat) : Rat := 4 * x * x * x + c.b2 * x * x + 2 * c.b4 * x + c.b6
theorem gx_psi {c : Cv} {x y : Rat} (h : c.On x y) : c.gx x = c.psi x y * c.psi x y := by
  unfold On off at h
  unfold gx psi b2 b4 b6
  simp only [Rat.intCast_add, Rat.intCast_sub, Rat.intCast_mul, Rat.intCast_ofNat]
  grind
theorem fx_dbl {c : Cv} {x y l : Rat} (h : c.On x y) (hl : l * c.psi x y = c.tau x y) : c.addX l x x * c.gx x = c.fx x := by
  rw [gx_psi h]
  unfold On off at h
  unfold fx b4 b6 b8 addX
  unfold psi tau at hl
  unfold psi
  simp only [Rat.intCast_add, Rat.intCast_sub, Rat.intCast_mul, Rat.intCast_ofNat]
  generalize (c.a1 : Rat) = a1, (c.a2 : Rat) = a2, (c.a3 : Rat) = a3, (c.a4 : Rat) = a4, (c.a6 : Rat) = a6 at *
  have e : (l * l + a1 * l - a2 - x - x) * ((2 * y + a1 * x + a3) * (2 * y + a1 * x + a3)) = (l * (2 * y + a1 * x + a3)) * (l * (2 * y + a1 * x + a3)) + a1 * (l * (2 * y + a1 * x + a3)) * (2 * y + a1 * x + a3) - (a2 + 2 * x) * ((2 * y + a1 * x + a3) * (2 * y + a1 * x + a3)) := by grind
  rw [e, hl]
  clear e hl
  grind
end Cv
end Cw
end
section
set_option linter.all false
set_option maxHeartbeats 4000000
set_option exponentiation.threshold 100000
namespace Cw
theorem over_le {q : Rat} {d N : Int} (hd : d ≠ 0) (h : q * d = N) : q.den ≤ d.natAbs ∧ q.num.natAbs ≤ N.natAbs := by
  have hd' : (d : Rat) ≠ 0 := by simpa using hd
  have e : q = Rat.divInt N d := by
    rw [Rat.divInt_eq_div, ← h]
    exact (Rat.mul_div_cancel hd').symm
  obtain ⟨m, hm, h1, h2, _⟩ := low_of (top := N) hd
  rw [← e] at h1 h2
  have hm' := Int.natAbs_pos.mpr hm
  constructor
  · rw [h2, Int.natAbs_mul]
    exact Nat.le_mul_of_pos_right _ hm'
  · rw [h1, Int.natAbs_mul]
    exact Nat.le_mul_of_pos_right _ hm'
/-- a number over the w-th power of E -/
def Ov (E : Int) (q : Rat) (w n : Nat) : Prop := ∃ N : Int, q * (E : Rat) ^ w = N ∧ N.natAbs < 2 ^ n
section
variable {E : Int} {e : Nat} {q r : Rat} {w v n m : Nat}
theorem Ov.int {i : Int} (h : i.natAbs < 2 ^ n) : Ov E (i : Rat) 0 n := ⟨i, by rw [Rat.pow_zero, Rat.mul_one], h⟩
theorem pow_lt (he : E.natAbs < 2 ^ e) (k : Nat) : (E ^ k).natAbs < 2 ^ (k * e) ∨ k = 0 := by
  cases k with
  | zero => exact .inr rfl
  | succ k =>
    left
    rw [Int.natAbs_pow, Nat.mul_comm, Nat.pow_mul]
    exact Nat.pow_lt_pow_left he (by omega)
theorem pow_le (he : E.natAbs < 2 ^ e) (k : Nat) : (E ^ k).natAbs ≤ 2 ^ (k * e) := by
  rcases pow_lt he k with h | h
  · exact Nat.le_of_lt h
  · subst h; simp
theorem Ov.mul (h : Ov E q w n) (h2 : Ov E r v m) : Ov E (q * r) (w + v) (n + m) := by
  obtain ⟨N, e1, b1⟩ := h
  obtain ⟨M, e2, b2⟩ := h2
  refine ⟨N * M, ?_, ?_⟩
  · rw [Rat.intCast_mul, ← e1, ← e2]
    have : (E : Rat) ^ (w + v) = (E : Rat) ^ w * (E : Rat) ^ v := by grind
    rw [this]
    grind
  · rw [Int.natAbs_mul, Nat.pow_add]
    exact Nat.mul_lt_mul'' b1 b2
theorem Ov.up (he : E.natAbs < 2 ^ e) (h : Ov E q w n) (k : Nat) : Ov E q (w + k) (n + k * e) := by
  obtain ⟨N, e1, b1⟩ := h
  refine ⟨N * E ^ k, ?_, ?_⟩
  · rw [Rat.intCast_mul, ← e1, Rat.intCast_pow]
    have : (E : Rat) ^ (w + k) = (E : Rat) ^ w * (E : Rat) ^ k := by grind
    rw [this]
    grind
  · rw [Int.natAbs_mul, Nat.pow_add]
    exact Nat.mul_lt_mul_of_lt_of_le b1 (pow_le he k) (Nat.two_pow_pos _)
theorem Ov.add (h : Ov E q w n) (h2 : Ov E r w n) : Ov E (q + r) w (n + 1) := by
  obtain ⟨N, e1, b1⟩ := h
  obtain ⟨M, e2, b2⟩ := h2
  refine ⟨N + M, ?_, ?_⟩
  · rw [Rat.intCast_add, ← e1, ← e2]
    grind
  · rw [Nat.pow_succ]
    omega
theorem Ov.wide (h : Ov E q w n) (hm : n ≤ m) : Ov E q w m := by
  obtain ⟨N, e1, b1⟩ := h
  exact ⟨N, e1, Nat.lt_of_lt_of_le b1 (Nat.pow_le_pow_right (by decide) hm)⟩
theorem Ov.sm (hE : E ≠ 0) (he : E.natAbs < 2 ^ e) (h : Ov E q w n) (h1 : w * e ≤ 3999) (h2 : n ≤ 4000) : Sm q := by
  obtain ⟨N, e1, b1⟩ := h
  have hd : E ^ w ≠ 0 := Int.pow_ne_zero hE
  obtain ⟨k1, k2⟩ := over_le hd (q := q) (N := N) (by rw [Rat.intCast_pow]; exact e1)
  have k3 := pow_le he w
  refine ⟨?_, ?_⟩
  · refine Nat.lt_of_le_of_lt k2 (Nat.lt_of_lt_of_le b1 (Nat.pow_le_pow_right (by decide) h2))
  · refine Nat.lt_of_le_of_lt (Nat.le_trans k1 k3) ?_
    exact Nat.pow_lt_pow_right (by decide) (by omega)
end
/-! sums of products -/
def prodL (row : List Rat) : Rat := row.foldl (· * ·) 1
def sumL (rows : List (List Rat)) : Rat := rows.foldl (fun s row => s + prodL row) 0
def okRow : Rat → List Rat → Prop
  | m, [] => Sm m
  | m, x :: r => Sm m ∧ Sm x ∧ okRow (m * x) r
def okRows : Rat → List (List Rat) → Prop
  | s, [] => Sm s
  | s, row :: r => Sm s ∧ okRow 1 row ∧ okRows (s + prodL row) r
abbrev Wn := List (List (Nat × Nat))
def AllOv (E : Int) : List Rat → List (Nat × Nat) → Prop
  | [], [] => True
  | q :: r, p :: s => Ov E q p.1 p.2 ∧ AllOv E r s
  | _, _ => False
def AllOvs (E : Int) : List (List Rat) → Wn → Prop
  | [], [] => True
  | q :: r, p :: s => AllOv E q p ∧ AllOvs E r s
  | _, _ => False
def wsum (r : List (Nat × Nat)) : Nat := (r.map (·.1)).sum
def nsum (r : List (Nat × Nat)) : Nat := (r.map (·.2)).sum
/-- each row over the W-th power stays below n bits -/
def chkRows (e W n : Nat) (rows : Wn) : Bool := rows.all fun r => decide (wsum r ≤ W) && decide (nsum r + (W - wsum r) * e + 1 ≤ n)
section
variable {E : Int} {e : Nat}
theorem okRow_of (hE : E ≠ 0) (he : E.natAbs < 2 ^ e) : ∀ {row : List Rat} {ws : List (Nat × Nat)} {m : Rat} {w n W N : Nat}, AllOv E row ws → Ov E m w n → (w + wsum ws) ≤ W → W * e ≤ 3999 → n + nsum ws ≤ N → N ≤ 4000 →
    okRow m row ∧ Ov E (row.foldl (· * ·) m) (w + wsum ws) (n + nsum ws)
  | [], [], m, w, n, W, N, _, h, h1, h2, h3, h4 => ⟨h.sm hE he (Nat.le_trans (Nat.mul_le_mul_right _ (by omega)) h2) (by omega), h⟩
  | x :: r, p :: s, m, w, n, W, N, ⟨a, b⟩, h, h1, h2, h3, h4 => by
    have e1 : wsum (p :: s) = p.1 + wsum s := by simp [wsum]
    have e2 : nsum (p :: s) = p.2 + nsum s := by simp [nsum]
    obtain ⟨k1, k2⟩ := okRow_of hE he (m := m * x) (w := w + p.1) (n := n + p.2) (W := W) (N := N) b (h.mul a) (by omega) h2 (by omega) h4
    refine ⟨⟨h.sm hE he (Nat.le_trans (Nat.mul_le_mul_right _ (by omega)) h2) (by omega), a.sm hE he (Nat.le_trans (Nat.mul_le_mul_right _ (by omega)) h2) (by omega), k1⟩, ?_⟩
    rw [e1, e2, ← Nat.add_assoc, ← Nat.add_assoc]
    exact k2
  | [], _ :: _, _, _, _, _, _, h, _, _, _, _, _ => h.elim
  | _ :: _, [], _, _, _, _, _, h, _, _, _, _, _ => h.elim
theorem okRows_of (hE : E ≠ 0) (he : E.natAbs < 2 ^ e) {W N : Nat} (hW : W * e ≤ 3999) : ∀ {rows : List (List Rat)} {ws : Wn} {s : Rat} {n : Nat}, AllOvs E rows ws → Ov E s W n → N ≤ n → chkRows e W N ws = true → n + ws.length ≤ 4000 →
    okRows s rows ∧ Ov E (rows.foldl (fun s row => s + prodL row) s) W (n + ws.length)
  | [], [], s, n, _, h, _, _, h2 => ⟨h.sm hE he hW (by simpa using h2), h⟩
  | row :: r, p :: q, s, n, ⟨a, b⟩, h, hN, hc, h2 => by
    have hl : (p :: q).length = q.length + 1 := rfl
    have hc' : (decide (wsum p ≤ W) && decide (nsum p + (W - wsum p) * e + 1 ≤ N)) = true ∧ chkRows e W N q = true := by
      unfold chkRows at hc
      rw [List.all_cons, Bool.and_eq_true] at hc
      exact hc
    obtain ⟨hc1, hc2⟩ := hc'
    rw [Bool.and_eq_true, decide_eq_true_eq, decide_eq_true_eq] at hc1
    obtain ⟨c1, c2⟩ := hc1
    obtain ⟨k1, k2⟩ := okRow_of hE he (m := 1) (w := 0) (n := 1) (W := W) (N := N) a (Ov.int (i := 1) (by decide)) (by omega) hW (by omega) (by omega)
    have k3 : Ov E (prodL row) W n := by
      have := k2.up he (W - wsum p)
      rw [Nat.zero_add, show wsum p + (W - wsum p) = W by omega] at this
      exact this.wide (by omega)
    obtain ⟨k4, k5⟩ := okRows_of hE he hW (s := s + prodL row) (n := n + 1) b (h.add k3) (by omega) hc2 (by omega)
    refine ⟨⟨h.sm hE he hW (by omega), k1, k4⟩, ?_⟩
    rw [hl, show n + (q.length + 1) = n + 1 + q.length by omega]
    exact k5
  | [], _ :: _, _, _, h, _, _, _, _ => h.elim
  | _ :: _, [], _, _, h, _, _, _, _ => h.elim
theorem ok_rows {rows : List (List Rat)} (ws : Wn) (W N : Nat) (hE : E ≠ 0) (he : E.natAbs < 2 ^ e) (h : AllOvs E rows ws) (hc : (chkRows e W N ws && (decide (W * e ≤ 3999) && decide (N + ws.length ≤ 4000))) = true) :
    okRows 0 rows ∧ Ov E (sumL rows) W (N + ws.length) := by
  rw [Bool.and_eq_true, Bool.and_eq_true, decide_eq_true_eq, decide_eq_true_eq] at hc
  obtain ⟨c1, c2, c3⟩ := hc
  refine okRows_of hE he c2 h (n := N) ?_ (Nat.le_refl _) c1 c3
  have := (Ov.int (E := E) (i := 0) (n := 0) (by decide)).up he W
  rw [Nat.zero_add] at this
  obtain ⟨M, h1, _⟩ := this
  refine ⟨0, ?_, Nat.two_pow_pos _⟩
  simp
end
end Cw
end
section
set_option linter.all false
set_option maxHeartbeats 4000000
set_option exponentiation.threshold 100000
namespace Cw
abbrev ic (i : Int) : Rat := (i : Rat)
/-- the curves' numbers are bounded -/
structure Cb (c : Cv) : Prop where
  h1 : c.a1.natAbs ≤ 10
  h2 : c.a2.natAbs ≤ 53
  h3 : c.a3.natAbs ≤ 48
  h4 : c.a4.natAbs ≤ 1036
  h6 : c.a6.natAbs ≤ 8746
  d : c.D ≠ 0
theorem abs_mul {x y : Int} {a b : Nat} (h : x.natAbs ≤ a) (k : y.natAbs ≤ b) : (x * y).natAbs ≤ a * b := by
  rw [Int.natAbs_mul]
  exact Nat.mul_le_mul h k
theorem tri5 {a b c d e : Int} {A B C D E : Nat} (ha : a.natAbs ≤ A) (hb : b.natAbs ≤ B) (hc : c.natAbs ≤ C) (hd : d.natAbs ≤ D) (he : e.natAbs ≤ E) : (a + 4 * b - c + d - e).natAbs ≤ A + 4 * B + C + D + E := by omega
theorem tri2 {a b : Int} {A B : Nat} (ha : a.natAbs ≤ A) (hb : b.natAbs ≤ B) : (a + 4 * b).natAbs ≤ A + 4 * B := by omega
theorem tri2' {a b : Int} {A B : Nat} (ha : a.natAbs ≤ A) (hb : b.natAbs ≤ B) : (2 * a + b).natAbs ≤ 2 * A + B := by omega
theorem Cb.bok {c : Cv} (h : Cb c) : Bok c.b2 c.b4 c.b6 c.b8 := by
  obtain ⟨h1, h2, h3, h4, h6, d⟩ := h
  have e11 := abs_mul h1 h1
  have e13 := abs_mul h1 h3
  refine ⟨c.rel, d, ?_, ?_, ?_, ?_⟩
  · exact Nat.lt_of_le_of_lt (tri2 e11 h2) (by decide)
  · exact Nat.lt_of_le_of_lt (tri2' h4 e13) (by decide)
  · exact Nat.lt_of_le_of_lt (tri2 (abs_mul h3 h3) h6) (by decide)
  · have q26 : 4 * c.a2 * c.a6 = 4 * (c.a2 * c.a6) := by rw [Int.mul_assoc]
    unfold Cv.b8
    rw [q26]
    exact Nat.lt_of_le_of_lt (tri5 (abs_mul e11 h6) (abs_mul h2 h6) (abs_mul e13 h4) (abs_mul (abs_mul h2 h3) h3) (abs_mul h4 h4)) (by decide)
/-- a point of a curve, its size -/
structure Lv (c : Cv) (e p q : Nat) (x y : Rat) : Prop where
  on : c.On x y
  ex : ∃ E : Int, E ≠ 0 ∧ E.natAbs < 2 ^ e ∧ Ov E x 2 p ∧ Ov E y 3 q
def rPsi (c : Cv) (x y : Rat) : List (List Rat) := [[ic 2, y], [ic c.a1, x], [ic c.a3]]
def rOpp (c : Cv) (x y w : Rat) : List (List Rat) := [[y], [w], [ic c.a1, x], [ic c.a3]]
def rTau (c : Cv) (x y : Rat) : List (List Rat) := [[ic 3, x, x], [ic 2, ic c.a2, x], [ic c.a4], [ic (-1), ic c.a1, y]]
def rFar (c : Cv) (l x v : Rat) : List (List Rat) := [[l, l], [ic c.a1, l], [ic (-1), ic c.a2], [ic (-1), x], [ic (-1), v]]
def rUp (c : Cv) (l x y X : Rat) : List (List Rat) := [[ic (-1), l, X], [ic (-1), ic c.a1, X], [ic (-1), y], [l, x], [ic (-1), ic c.a3]]
def rLeft (c : Cv) (x y : Rat) : List (List Rat) := [[y, y], [ic c.a1, x, y], [ic c.a3, y]]
def rRight (c : Cv) (x : Rat) : List (List Rat) := [[ic (-1), x, x, x], [ic (-1), ic c.a2, x, x], [ic (-1), ic c.a4, x], [ic (-1), ic c.a6]]
theorem sum_psi (c : Cv) (x y : Rat) : sumL (rPsi c x y) = c.psi x y := by simp only [sumL, rPsi, prodL, List.foldl, Cv.psi, ic]; grind
theorem sum_opp (c : Cv) (x y w : Rat) : sumL (rOpp c x y w) = y + w + c.a1 * x + c.a3 := by simp only [sumL, rOpp, prodL, List.foldl, ic]; grind
theorem sum_tau (c : Cv) (x y : Rat) : sumL (rTau c x y) = c.tau x y := by simp only [sumL, rTau, prodL, List.foldl, Cv.tau, ic]; grind
theorem sum_far (c : Cv) (l x v : Rat) : sumL (rFar c l x v) = c.addX l x v := by simp only [sumL, rFar, prodL, List.foldl, Cv.addX, ic]; grind
theorem sum_up (c : Cv) (l x y X : Rat) : sumL (rUp c l x y X) = c.addY l x y X := by simp only [sumL, rUp, prodL, List.foldl, Cv.addY, ic]; grind
theorem sum_lr (c : Cv) (x y : Rat) : sumL (rLeft c x y) + sumL (rRight c x) = c.off x y := by simp only [sumL, rLeft, rRight, prodL, List.foldl, Cv.off, ic]; grind
/-- bits of the double -/
def bPsi (e p q : Nat) : Nat := max (q + 2) (max (4 + p + e) (6 + 3 * e)) + 5
def bTau (e p q : Nat) : Nat := max (2 * p + 2) (max (8 + p + 2 * e) (max (11 + 4 * e) (5 + q + e))) + 6
def bE (e p q : Nat) : Nat := e + bPsi e p q
def bX (e p q : Nat) : Nat := max (2 * bTau e p q) (max (4 + bTau e p q + bE e p q) (max (7 + 2 * bE e p q) (1 + p + 2 * bPsi e p q))) + 8
def bY (e p q : Nat) : Nat := max (1 + bTau e p q + bX e p q) (max (5 + bX e p q + bE e p q) (max (1 + q + 3 * bPsi e p q) (max (bTau e p q + p + 2 * bPsi e p q) (7 + 3 * bE e p q)))) + 8
theorem gPsi {e p q : Nat} : 5 ≤ bPsi e p q := Nat.le_add_left _ _
theorem gTau {e p q : Nat} : 6 ≤ bTau e p q := Nat.le_add_left _ _
theorem gX {e p q : Nat} : 8 ≤ bX e p q := Nat.le_add_left _ _
theorem gY {e p q : Nat} : 8 ≤ bY e p q := Nat.le_add_left _ _
def ckPsi (e p q : Nat) : Bool := chkRows e 3 (bPsi e p q - 4) [[(0, 2), (3, q)], [(0, 4), (2, p)], [(0, 6)]] && (decide (3 * e ≤ 3999) && decide (bPsi e p q ≤ 4000))
def ckOpp (e p q : Nat) : Bool := chkRows e 3 (bPsi e p q - 4) [[(3, q)], [(3, q)], [(0, 4), (2, p)], [(0, 6)]] && (decide (3 * e ≤ 3999) && decide (bPsi e p q ≤ 4000))
def ckTau (e p q : Nat) : Bool := chkRows e 4 (bTau e p q - 4) [[(0, 2), (2, p), (2, p)], [(0, 2), (0, 6), (2, p)], [(0, 11)], [(0, 1), (0, 4), (3, q)]] && (decide (4 * e ≤ 3999) && decide (bTau e p q ≤ 4000))
def ckFar (e p q : Nat) : Bool := chkRows (bE e p q) 2 (bX e p q - 5) [[(1, bTau e p q), (1, bTau e p q)], [(0, 4), (1, bTau e p q)], [(0, 1), (0, 6)], [(0, 1), (2, p + 2 * bPsi e p q)], [(0, 1), (2, p + 2 * bPsi e p q)]] && (decide (2 * bE e p q ≤ 3999) && decide (bX e p q ≤ 4000))
def ckUp (e p q : Nat) : Bool := chkRows (bE e p q) 3 (bY e p q - 5) [[(0, 1), (1, bTau e p q), (2, bX e p q)], [(0, 1), (0, 4), (2, bX e p q)], [(0, 1), (3, q + 3 * bPsi e p q)], [(1, bTau e p q), (2, p + 2 * bPsi e p q)], [(0, 1), (0, 6)]] && (decide (3 * bE e p q ≤ 3999) && decide (bY e p q ≤ 4000))
def ckOn (e p q : Nat) : Bool := chkRows e 6 3990 [[(3, q), (3, q)], [(0, 4), (2, p), (3, q)], [(0, 6), (3, q)]] && chkRows e 6 3990 [[(0, 1), (2, p), (2, p), (2, p)], [(0, 1), (0, 6), (2, p), (2, p)], [(0, 1), (0, 11), (2, p)], [(0, 1), (0, 14)]] && decide (6 * e ≤ 3999)
theorem lt_of_le {a b n : Nat} (h : a ≤ b) (k : b < 2 ^ n) : a < 2 ^ n := Nat.lt_of_le_of_lt h k
section
variable {c : Cv} {e p q : Nat} {x y : Rat}
/-- all that a double asks -/
structure Dbl (c : Cv) (x y l : Rat) : Prop where
  opp : okRows 0 (rOpp c x y y)
  psi : okRows 0 (rPsi c x y)
  tau : okRows 0 (rTau c x y)
  stau : Sm (c.tau x y)
  spsi : Sm (c.psi x y)
  far : okRows 0 (rFar c l x x)
  up : okRows 0 (rUp c l x y (c.addX l x x))
theorem Lv.opp (hc : Cb c) (h : Lv c e p q x y) (k : ckOpp e p q = true) : okRows 0 (rOpp c x y y) := by
  obtain ⟨h1, h2, h3, h4, h6, d⟩ := hc
  obtain ⟨E, hE, he, hx, hy⟩ := h.ex
  exact (ok_rows (rows := rOpp c x y y) [[(3, q)], [(3, q)], [(0, 4), (2, p)], [(0, 6)]] 3 (bPsi e p q - 4) hE he
    ⟨⟨hy, trivial⟩, ⟨hy, trivial⟩, ⟨.int (lt_of_le h1 (by decide)), hx, trivial⟩, ⟨.int (lt_of_le h3 (by decide)), trivial⟩, trivial⟩ (by
      unfold ckOpp at k
      rw [show bPsi e p q - 4 + ([[(3, q)], [(3, q)], [(0, 4), (2, p)], [(0, 6)]] : Wn).length = bPsi e p q by show bPsi e p q - 4 + 4 = _; have := @gPsi e p q; omega]
      exact k)).1
theorem Lv.dbl (hc : Cb c) (h : Lv c e p q x y) (h0 : c.psi x y ≠ 0) {l : Rat} (hl : l * c.psi x y = c.tau x y)
    (k0 : ckOpp e p q = true) (k1 : ckPsi e p q = true) (k2 : ckTau e p q = true) (k3 : ckFar e p q = true) (k4 : ckUp e p q = true) :
    Dbl c x y l ∧ Lv c (bE e p q) (bX e p q) (bY e p q) (c.addX l x x) (c.addY l x y (c.addX l x x)) := by
  have hopp := h.opp hc k0
  have hon := h.on
  obtain ⟨h1, h2, h3, h4, h6, d⟩ := hc
  obtain ⟨E, hE, he, hx, hy⟩ := h.ex
  have oa1 : ∀ F, Ov F (ic c.a1) 0 4 := fun F => .int (lt_of_le h1 (by decide))
  have oa2 : ∀ F, Ov F (ic c.a2) 0 6 := fun F => .int (lt_of_le h2 (by decide))
  have oa3 : ∀ F, Ov F (ic c.a3) 0 6 := fun F => .int (lt_of_le h3 (by decide))
  have oa4 : ∀ F, Ov F (ic c.a4) 0 11 := fun F => .int (lt_of_le h4 (by decide))
  have o1 : ∀ F, Ov F (ic (-1)) 0 1 := fun F => .int (by decide)
  have o2 : ∀ F, Ov F (ic 2) 0 2 := fun F => .int (by decide)
  have o3 : ∀ F, Ov F (ic 3) 0 2 := fun F => .int (by decide)
  obtain ⟨rp, op⟩ := ok_rows (rows := rPsi c x y) [[(0, 2), (3, q)], [(0, 4), (2, p)], [(0, 6)]] 3 (bPsi e p q - 4) hE he
    ⟨⟨o2 E, hy, trivial⟩, ⟨oa1 E, hx, trivial⟩, ⟨oa3 E, trivial⟩, trivial⟩ (by
      unfold ckPsi at k1
      rw [Bool.and_eq_true, Bool.and_eq_true] at k1 ⊢
      refine ⟨k1.1, k1.2.1, decide_eq_true ?_⟩
      have := of_decide_eq_true k1.2.2
      show bPsi e p q - 4 + 3 ≤ 4000
      omega)
  obtain ⟨rt, ot⟩ := ok_rows (rows := rTau c x y) [[(0, 2), (2, p), (2, p)], [(0, 2), (0, 6), (2, p)], [(0, 11)], [(0, 1), (0, 4), (3, q)]] 4 (bTau e p q - 4) hE he
    ⟨⟨o3 E, hx, hx, trivial⟩, ⟨o2 E, oa2 E, hx, trivial⟩, ⟨oa4 E, trivial⟩, ⟨o1 E, oa1 E, hy, trivial⟩, trivial⟩ (by
      unfold ckTau at k2
      rw [Bool.and_eq_true, Bool.and_eq_true] at k2 ⊢
      refine ⟨k2.1, k2.2.1, decide_eq_true ?_⟩
      have := of_decide_eq_true k2.2.2
      show bTau e p q - 4 + 4 ≤ 4000
      have := @gTau e p q
      omega)
  rw [sum_psi] at op
  rw [sum_tau] at ot
  have op' : Ov E (c.psi x y) 3 (bPsi e p q) := op.wide (by show bPsi e p q - 4 + 3 ≤ _; have := @gPsi e p q; omega)
  have ot' : Ov E (c.tau x y) 4 (bTau e p q) := ot.wide (by show bTau e p q - 4 + 4 ≤ _; have := @gTau e p q; omega)
  obtain ⟨N, eN, bN⟩ := op'
  have hEr : (E : Rat) ≠ 0 := by simpa using hE
  have hN : N ≠ 0 := by
    intro z
    rw [z] at eN
    rcases Rat.mul_eq_zero.mp (eN.trans (by simp)) with y1 | y1
    · exact h0 y1
    · have : (E : Rat) * ((E : Rat) * (E : Rat)) = 0 := by rw [← y1]; grind
      rcases Rat.mul_eq_zero.mp this with u | u
      · exact hEr u
      · rcases Rat.mul_eq_zero.mp u with u | u <;> exact hEr u
  have hW : E * N ≠ 0 := Int.mul_ne_zero hE hN
  have hw : (E * N).natAbs < 2 ^ bE e p q := by
    rw [Int.natAbs_mul]
    unfold bE
    rw [Nat.pow_add]
    exact Nat.mul_lt_mul'' he bN
  have ox : Ov (E * N) x 2 (p + 2 * bPsi e p q) := by
    obtain ⟨M, e1, b1⟩ := hx
    refine ⟨M * (N * N), ?_, ?_⟩
    · rw [Rat.intCast_mul, Rat.intCast_mul, Rat.intCast_mul, ← e1]
      grind
    · rw [Int.natAbs_mul, Int.natAbs_mul, Nat.pow_add, Nat.two_mul, Nat.pow_add]
      exact Nat.mul_lt_mul'' b1 (Nat.mul_lt_mul'' bN bN)
  have oy : Ov (E * N) y 3 (q + 3 * bPsi e p q) := by
    obtain ⟨M, e1, b1⟩ := hy
    refine ⟨M * (N * N * N), ?_, ?_⟩
    · rw [Rat.intCast_mul, Rat.intCast_mul, Rat.intCast_mul, Rat.intCast_mul, ← e1]
      grind
    · rw [Int.natAbs_mul, Int.natAbs_mul, Int.natAbs_mul, Nat.pow_add, show 3 * bPsi e p q = bPsi e p q + bPsi e p q + bPsi e p q by omega, Nat.pow_add, Nat.pow_add]
      exact Nat.mul_lt_mul'' b1 (Nat.mul_lt_mul'' (Nat.mul_lt_mul'' bN bN) bN)
  have ol : Ov (E * N) l 1 (bTau e p q) := by
    obtain ⟨T, e1, b1⟩ := ot'
    refine ⟨T, ?_, b1⟩
    rw [← e1, ← hl, Rat.intCast_mul, ← eN]
    grind
  obtain ⟨rf, of⟩ := ok_rows (rows := rFar c l x x) [[(1, bTau e p q), (1, bTau e p q)], [(0, 4), (1, bTau e p q)], [(0, 1), (0, 6)], [(0, 1), (2, p + 2 * bPsi e p q)], [(0, 1), (2, p + 2 * bPsi e p q)]] 2 (bX e p q - 5) hW hw
    ⟨⟨ol, ol, trivial⟩, ⟨oa1 _, ol, trivial⟩, ⟨o1 _, oa2 _, trivial⟩, ⟨o1 _, ox, trivial⟩, ⟨o1 _, ox, trivial⟩, trivial⟩ (by
      unfold ckFar at k3
      rw [show bX e p q - 5 + ([[(1, bTau e p q), (1, bTau e p q)], [(0, 4), (1, bTau e p q)], [(0, 1), (0, 6)], [(0, 1), (2, p + 2 * bPsi e p q)], [(0, 1), (2, p + 2 * bPsi e p q)]] : Wn).length = bX e p q by show bX e p q - 5 + 5 = _; have := @gX e p q; omega]
      exact k3)
  rw [sum_far] at of
  have of' : Ov (E * N) (c.addX l x x) 2 (bX e p q) := of.wide (by show bX e p q - 5 + 5 ≤ _; have := @gX e p q; omega)
  obtain ⟨ru, ou⟩ := ok_rows (rows := rUp c l x y (c.addX l x x)) [[(0, 1), (1, bTau e p q), (2, bX e p q)], [(0, 1), (0, 4), (2, bX e p q)], [(0, 1), (3, q + 3 * bPsi e p q)], [(1, bTau e p q), (2, p + 2 * bPsi e p q)], [(0, 1), (0, 6)]] 3 (bY e p q - 5) hW hw
    ⟨⟨o1 _, ol, of', trivial⟩, ⟨o1 _, oa1 _, of', trivial⟩, ⟨o1 _, oy, trivial⟩, ⟨ol, ox, trivial⟩, ⟨o1 _, oa3 _, trivial⟩, trivial⟩ (by
      unfold ckUp at k4
      rw [show bY e p q - 5 + ([[(0, 1), (1, bTau e p q), (2, bX e p q)], [(0, 1), (0, 4), (2, bX e p q)], [(0, 1), (3, q + 3 * bPsi e p q)], [(1, bTau e p q), (2, p + 2 * bPsi e p q)], [(0, 1), (0, 6)]] : Wn).length = bY e p q by show bY e p q - 5 + 5 = _; have := @gY e p q; omega]
      exact k4)
  rw [sum_up] at ou
  have ck1 := (Bool.and_eq_true_iff.mp (Bool.and_eq_true_iff.mp k1).2)
  have ck2 := (Bool.and_eq_true_iff.mp (Bool.and_eq_true_iff.mp k2).2)
  refine ⟨⟨hopp, rp, rt, ot'.sm hE he (of_decide_eq_true ck2.1) (of_decide_eq_true ck2.2), Ov.sm hE he ⟨N, eN, bN⟩ (of_decide_eq_true ck1.1) (of_decide_eq_true ck1.2), rf, ru⟩, Cv.on_dbl hon hl, E * N, hW, hw, of', ou.wide (by show bY e p q - 5 + 5 ≤ _; have := @gY e p q; omega)⟩
/-- what telling that it lies on the curve asks -/
theorem Lv.onOk (hc : Cb c) (h : Lv c e p q x y) (k : ckOn e p q = true) : okRows 0 (rLeft c x y) ∧ okRows 0 (rRight c x) ∧ Sm (sumL (rLeft c x y)) ∧ Sm (sumL (rRight c x)) ∧ Sm x ∧ Sm y := by
  obtain ⟨h1, h2, h3, h4, h6, d⟩ := hc
  obtain ⟨E, hE, he, hx, hy⟩ := h.ex
  unfold ckOn at k
  rw [Bool.and_eq_true, Bool.and_eq_true] at k
  obtain ⟨⟨c1, c2⟩, c3⟩ := k
  have c3' := of_decide_eq_true c3
  obtain ⟨rl, ol⟩ := ok_rows (rows := rLeft c x y) [[(3, q), (3, q)], [(0, 4), (2, p), (3, q)], [(0, 6), (3, q)]] 6 3990 hE he
    ⟨⟨hy, hy, trivial⟩, ⟨.int (lt_of_le h1 (by decide)), hx, hy, trivial⟩, ⟨.int (lt_of_le h3 (by decide)), hy, trivial⟩, trivial⟩ (by rw [c1, c3]; rfl)
  obtain ⟨rr, or⟩ := ok_rows (rows := rRight c x) [[(0, 1), (2, p), (2, p), (2, p)], [(0, 1), (0, 6), (2, p), (2, p)], [(0, 1), (0, 11), (2, p)], [(0, 1), (0, 14)]] 6 3990 hE he
    ⟨⟨.int (by decide), hx, hx, hx, trivial⟩, ⟨.int (by decide), .int (lt_of_le h2 (by decide)), hx, hx, trivial⟩, ⟨.int (by decide), .int (lt_of_le h4 (by decide)), hx, trivial⟩, ⟨.int (by decide), .int (lt_of_le h6 (by decide)), trivial⟩, trivial⟩ (by rw [c2, c3]; rfl)
  have s1 := ol.sm hE he c3' (by show 3990 + 3 ≤ 4000; omega)
  have s2 := or.sm hE he c3' (by show 3990 + 4 ≤ 4000; omega)
  refine ⟨rl, rr, s1, s2, ?_, ?_⟩
  · exact rr.2.1.2.2.2.1
  · exact rl.2.1.2.1
end
/-- the sizes: the point, its double, .. -/
structure Lev (e p q : Nat) : Prop where
  opp : ckOpp e p q = true
  psi : ckPsi e p q = true
  tau : ckTau e p q = true
  far : ckFar e p q = true
  up : ckUp e p q = true
theorem lev0 : Lev 1 4 6 := ⟨by decide +kernel, by decide +kernel, by decide +kernel, by decide +kernel, by decide +kernel⟩
theorem lev1 : Lev 15 50 80 := ⟨by decide +kernel, by decide +kernel, by decide +kernel, by decide +kernel, by decide +kernel⟩
theorem lev2 : Lev 102 233 350 := ⟨by decide +kernel, by decide +kernel, by decide +kernel, by decide +kernel, by decide +kernel⟩
theorem levs0 : Lev 1 14 21 := ⟨by decide +kernel, by decide +kernel, by decide +kernel, by decide +kernel, by decide +kernel⟩
theorem levs1 : Lev 29 80 125 := ⟨by decide +kernel, by decide +kernel, by decide +kernel, by decide +kernel, by decide +kernel⟩
theorem ck0 : ckOn 1 4 6 = true := by decide +kernel
theorem ck1 : ckOn 15 50 80 = true := by decide +kernel
theorem ck2 : ckOn 102 233 350 = true := by decide +kernel
theorem ck3 : ckOn 459 956 1439 = true := by decide +kernel
theorem cks0 : ckOn 1 14 21 = true := by decide +kernel
theorem cks1 : ckOn 29 80 125 = true := by decide +kernel
theorem cks2 : ckOn 161 353 530 = true := by decide +kernel
theorem nx0 : (bE 1 4 6, bX 1 4 6, bY 1 4 6) = (15, 50, 80) := by decide +kernel
theorem nx1 : (bE 15 50 80, bX 15 50 80, bY 15 50 80) = (102, 233, 350) := by decide +kernel
theorem nx2 : (bE 102 233 350, bX 102 233 350, bY 102 233 350) = (459, 956, 1439) := by decide +kernel
theorem nxs0 : (bE 1 14 21, bX 1 14 21, bY 1 14 21) = (29, 80, 125) := by decide +kernel
theorem nxs1 : (bE 29 80 125, bX 29 80 125, bY 29 80 125) = (161, 353, 530) := by decide +kernel
end Cw
end
section
set_option linter.all false
set_option maxHeartbeats 4000000
namespace Cw
/-- the coefficients of F1*F + G1*G, by powers of X falling -/
def cvl (b2 b4 b6 b8 u0 u1 u2 u3 u4 u5 u6 u7 : Int) : List Int := [
(1) * u0,
  (1) * u1 + (4) * u4,
  ((-1)*b4) * u0 + (1) * u2 + (b2) * u4 + (4) * u5,
  ((-2)*b6) * u0 + ((-1)*b4) * u1 + (1) * u3 + (2*b4) * u4 + (b2) * u5 + (4) * u6,
  ((-1)*b8) * u0 + ((-2)*b6) * u1 + ((-1)*b4) * u2 + (b6) * u4 + (2*b4) * u5 + (b2) * u6 + (4) * u7,
  ((-1)*b8) * u1 + ((-2)*b6) * u2 + ((-1)*b4) * u3 + (b6) * u5 + (2*b4) * u6 + (b2) * u7,
  ((-1)*b8) * u2 + ((-2)*b6) * u3 + (b6) * u6 + (2*b4) * u7,
  ((-1)*b8) * u3 + (b6) * u7]
def ff (b4 b6 b8 X Z : Int) : Int := X * X * X * X - b4 * X * X * Z * Z - 2 * b6 * X * Z * Z * Z - b8 * Z * Z * Z * Z
def gg (b2 b4 b6 X Z : Int) : Int := 4 * X * X * X * Z + b2 * X * X * Z * Z + 2 * b4 * X * Z * Z * Z + b6 * Z * Z * Z * Z
def cub (u0 u1 u2 u3 X Z : Int) : Int := u0 * X * X * X + u1 * X * X * Z + u2 * X * Z * Z + u3 * Z * Z * Z
theorem cvl_poly (b2 b4 b6 b8 u0 u1 u2 u3 u4 u5 u6 u7 X Z : Int) : cub u0 u1 u2 u3 X Z * ff b4 b6 b8 X Z + cub u4 u5 u6 u7 X Z * gg b2 b4 b6 X Z =
  ((1) * u0) * (X*X*X*X*X*X*X) + ((1) * u1 + (4) * u4) * (X*X*X*X*X*X*Z) + (((-1)*b4) * u0 + (1) * u2 + (b2) * u4 + (4) * u5) * (X*X*X*X*X*Z*Z) + (((-2)*b6) * u0 + ((-1)*b4) * u1 + (1) * u3 + (2*b4) * u4 + (b2) * u5 + (4) * u6) * (X*X*X*X*Z*Z*Z) + (((-1)*b8) * u0 + ((-2)*b6) * u1 + ((-1)*b4) * u2 + (b6) * u4 + (2*b4) * u5 + (b2) * u6 + (4) * u7) * (X*X*X*Z*Z*Z*Z) + (((-1)*b8) * u1 + ((-2)*b6) * u2 + ((-1)*b4) * u3 + (b6) * u5 + (2*b4) * u6 + (b2) * u7) * (X*X*Z*Z*Z*Z*Z) + (((-1)*b8) * u2 + ((-2)*b6) * u3 + (b6) * u6 + (2*b4) * u7) * (X*Z*Z*Z*Z*Z*Z) + (((-1)*b8) * u3 + (b6) * u7) * (Z*Z*Z*Z*Z*Z*Z) := by
  unfold cub ff gg
  grind
section
variable {b2 b4 b6 b8 : Int}
theorem ext8 {A : List (List Int)} {i : Nat} {u : Nat → Int} {r : Int} {s : Nat} (hs : s < 2) (h : sm 8 (fun j => ent A i j * u j) = r * ent A i (8 + s)) : dotR A i (fun j => if j < 8 then u j else if j = 8 + s then -r else 0) = 0 := by
  unfold dotR
  show sm 8 (fun j => ent A i j * if j < 8 then u j else if j = 8 + s then -r else 0) + _ + _ = 0
  rw [sm_congr (g := fun j => ent A i j * u j) fun j hj => by rw [if_pos hj], h]
  have : s = 0 ∨ s = 1 := by omega
  rcases this with rfl | rfl <;> simp <;> grind
theorem paper_cvl1 (h : Bok b2 b4 b6 b8) (u : Nat → Int) (hu : ∀ j, u j = (paperL b2 b4 b6 b8).getD j 0) : cvl b2 b4 b6 b8 (u 1) (u 2) (u 3) (u 4) (u 5) (u 6) (u 7) (u 8) = [0, 0, 0, 0, 0, 0, 0, u 0] := by
  have e0 := ext8 (s := 0) (by omega) (paper_sol1 h 0 (by omega))
  rw [rowA_0] at e0
  have e1 := ext8 (s := 0) (by omega) (paper_sol1 h 1 (by omega))
  rw [rowA_1] at e1
  have e2 := ext8 (s := 0) (by omega) (paper_sol1 h 2 (by omega))
  rw [rowA_2] at e2
  have e3 := ext8 (s := 0) (by omega) (paper_sol1 h 3 (by omega))
  rw [rowA_3] at e3
  have e4 := ext8 (s := 0) (by omega) (paper_sol1 h 4 (by omega))
  rw [rowA_4] at e4
  have e5 := ext8 (s := 0) (by omega) (paper_sol1 h 5 (by omega))
  rw [rowA_5] at e5
  have e6 := ext8 (s := 0) (by omega) (paper_sol1 h 6 (by omega))
  rw [rowA_6] at e6
  have e7 := ext8 (s := 0) (by omega) (paper_sol1 h 7 (by omega))
  rw [rowA_7] at e7
  simp only [← hu] at e0 e1 e2 e3 e4 e5 e6 e7
  simp at e0 e1 e2 e3 e4 e5 e6 e7
  unfold cvl
  simp only [List.cons.injEq, and_true]
  refine ⟨?_, ?_, ?_, ?_, ?_, ?_, ?_, ?_⟩
  · clear e1 e2 e3 e4 e5 e6 e7; grind
  · clear e0 e2 e3 e4 e5 e6 e7; grind
  · clear e0 e1 e3 e4 e5 e6 e7; grind
  · clear e0 e1 e2 e4 e5 e6 e7; grind
  · clear e0 e1 e2 e3 e5 e6 e7; grind
  · clear e0 e1 e2 e3 e4 e6 e7; grind
  · clear e0 e1 e2 e3 e4 e5 e7; grind
  · clear e0 e1 e2 e3 e4 e5 e6; grind
theorem paper_cvl2 (h : Bok b2 b4 b6 b8) (u : Nat → Int) (hu : ∀ j, u j = (paperL b2 b4 b6 b8).getD j 0) : cvl b2 b4 b6 b8 (u 9) (u 10) (u 11) (u 12) (u 13) (u 14) (u 15) (u 16) = [u 0, 0, 0, 0, 0, 0, 0, 0] := by
  have e0 := ext8 (s := 1) (by omega) (paper_sol2 h 0 (by omega))
  rw [rowA_0] at e0
  have e1 := ext8 (s := 1) (by omega) (paper_sol2 h 1 (by omega))
  rw [rowA_1] at e1
  have e2 := ext8 (s := 1) (by omega) (paper_sol2 h 2 (by omega))
  rw [rowA_2] at e2
  have e3 := ext8 (s := 1) (by omega) (paper_sol2 h 3 (by omega))
  rw [rowA_3] at e3
  have e4 := ext8 (s := 1) (by omega) (paper_sol2 h 4 (by omega))
  rw [rowA_4] at e4
  have e5 := ext8 (s := 1) (by omega) (paper_sol2 h 5 (by omega))
  rw [rowA_5] at e5
  have e6 := ext8 (s := 1) (by omega) (paper_sol2 h 6 (by omega))
  rw [rowA_6] at e6
  have e7 := ext8 (s := 1) (by omega) (paper_sol2 h 7 (by omega))
  rw [rowA_7] at e7
  simp only [← hu] at e0 e1 e2 e3 e4 e5 e6 e7
  simp at e0 e1 e2 e3 e4 e5 e6 e7
  unfold cvl
  simp only [List.cons.injEq, and_true]
  refine ⟨?_, ?_, ?_, ?_, ?_, ?_, ?_, ?_⟩
  · clear e1 e2 e3 e4 e5 e6 e7; grind
  · clear e0 e2 e3 e4 e5 e6 e7; grind
  · clear e0 e1 e3 e4 e5 e6 e7; grind
  · clear e0 e1 e2 e4 e5 e6 e7; grind
  · clear e0 e1 e2 e3 e5 e6 e7; grind
  · clear e0 e1 e2 e3 e4 e6 e7; grind
  · clear e0 e1 e2 e3 e4 e5 e7; grind
  · clear e0 e1 e2 e3 e4 e5 e6; grind
end
end Cw
end
section
set_option linter.all false
set_option maxHeartbeats 4000000
namespace Cw
def absL (l : List Int) : Nat := (l.map Int.natAbs).sum
theorem na4 {a b c d : Int} : (a + b + c + d).natAbs ≤ a.natAbs + b.natAbs + c.natAbs + d.natAbs := by
  have h1 := Int.natAbs_add_le (a + b + c) d
  have h2 := Int.natAbs_add_le (a + b) c
  have h3 := Int.natAbs_add_le a b
  omega
theorem cub_le {u0 u1 u2 u3 X Z : Int} {H : Nat} (hX : X.natAbs ≤ H) (hZ : Z.natAbs ≤ H) : (cub u0 u1 u2 u3 X Z).natAbs ≤ (u0.natAbs + u1.natAbs + u2.natAbs + u3.natAbs) * (H * H * H) := by
  have key : ∀ u a b c : Int, a.natAbs ≤ H → b.natAbs ≤ H → c.natAbs ≤ H → (u * a * b * c).natAbs ≤ u.natAbs * (H * H * H) := fun u a b c ha hb hc => by
    rw [Int.natAbs_mul, Int.natAbs_mul, Int.natAbs_mul, Nat.mul_assoc, Nat.mul_assoc, Nat.mul_assoc]
    exact Nat.mul_le_mul_left _ (Nat.mul_le_mul ha (Nat.mul_le_mul hb hc))
  unfold cub
  refine Nat.le_trans na4 ?_
  rw [Nat.add_mul, Nat.add_mul, Nat.add_mul]
  exact Nat.add_le_add (Nat.add_le_add (Nat.add_le_add (key _ _ _ _ hX hX hX) (key _ _ _ _ hX hX hZ)) (key _ _ _ _ hX hZ hZ)) (key _ _ _ _ hZ hZ hZ)
theorem mul4_le {u a b c d : Int} {H : Nat} (ha : a.natAbs ≤ H) (hb : b.natAbs ≤ H) (hc : c.natAbs ≤ H) (hd : d.natAbs ≤ H) : (u * a * b * c * d).natAbs ≤ u.natAbs * (H * H * H * H) := by
  rw [Int.natAbs_mul, Int.natAbs_mul, Int.natAbs_mul, Int.natAbs_mul, Nat.mul_assoc, Nat.mul_assoc, Nat.mul_assoc, Nat.mul_assoc, Nat.mul_assoc]
  exact Nat.mul_le_mul_left _ (Nat.mul_le_mul ha (Nat.mul_le_mul hb (Nat.mul_le_mul hc hd)))
theorem ff_le {b4 b6 b8 X Z : Int} {H : Nat} (hX : X.natAbs ≤ H) (hZ : Z.natAbs ≤ H) : (ff b4 b6 b8 X Z).natAbs ≤ absL (formF b4 b6 b8) * (H * H * H * H) := by
  have e : ff b4 b6 b8 X Z = 1 * X * X * X * X + (-b4) * X * X * Z * Z + (-2 * b6) * X * Z * Z * Z + (-b8) * Z * Z * Z * Z := by
    unfold ff
    grind
  rw [e]
  refine Nat.le_trans na4 ?_
  have e2 : absL (formF b4 b6 b8) = (1 : Int).natAbs + (-b4).natAbs + (-2 * b6).natAbs + (-b8).natAbs := by
    simp [absL, formF]
    omega
  rw [e2, Nat.add_mul, Nat.add_mul, Nat.add_mul]
  exact Nat.add_le_add (Nat.add_le_add (Nat.add_le_add (mul4_le hX hX hX hX) (mul4_le hX hX hZ hZ)) (mul4_le hX hZ hZ hZ)) (mul4_le hZ hZ hZ hZ)
theorem gg_le {b2 b4 b6 X Z : Int} {H : Nat} (hX : X.natAbs ≤ H) (hZ : Z.natAbs ≤ H) : (gg b2 b4 b6 X Z).natAbs ≤ absL (formG b2 b4 b6) * (H * H * H * H) := by
  have e : gg b2 b4 b6 X Z = 4 * X * X * X * Z + b2 * X * X * Z * Z + (2 * b4) * X * Z * Z * Z + b6 * Z * Z * Z * Z := rfl
  rw [e]
  refine Nat.le_trans na4 ?_
  have e2 : absL (formG b2 b4 b6) = (4 : Int).natAbs + b2.natAbs + (2 * b4).natAbs + b6.natAbs := by
    simp [absL, formG]
    omega
  rw [e2, Nat.add_mul, Nat.add_mul, Nat.add_mul]
  exact Nat.add_le_add (Nat.add_le_add (Nat.add_le_add (mul4_le hX hX hX hZ) (mul4_le hX hX hZ hZ)) (mul4_le hX hZ hZ hZ)) (mul4_le hZ hZ hZ hZ)
/-- LOW and HIGH by a paper, by the forms -/
def lowN (p : List Int) : Nat := max (absL ((p.drop 1).take 8)) (absL (p.drop 9))
def highN (b2 b4 b6 b8 : Int) : Nat := max (absL (formF b4 b6 b8)) (absL (formG b2 b4 b6))
/-- one half of the lower bound -/
theorem low_half {r F G c1 c2 : Int} {S1 S2 K M : Nat} {w : Int} (h : c1 * F + c2 * G = r * w) (h1 : c1.natAbs ≤ S1 * K) (h2 : c2.natAbs ≤ S2 * K) (hF : F.natAbs ≤ M) (hG : G.natAbs ≤ M) : r.natAbs * w.natAbs ≤ (S1 + S2) * K * M := by
  rw [← Int.natAbs_mul, ← h]
  refine Nat.le_trans (Int.natAbs_add_le _ _) ?_
  rw [Int.natAbs_mul, Int.natAbs_mul, Nat.add_mul, Nat.add_mul]
  exact Nat.add_le_add (Nat.mul_le_mul h1 hF) (Nat.mul_le_mul h2 hG)
theorem dvd_pow7 {g r X Z : Int} (hc : Int.gcd X Z = 1) (h1 : g ∣ r * (X * X * X * X * X * X * X)) (h2 : g ∣ r * (Z * Z * Z * Z * Z * Z * Z)) : g ∣ r := by
  have h := Int.dvd_coe_gcd h1 h2
  rw [Int.gcd_mul_left] at h
  have e : Int.gcd (X * X * X * X * X * X * X) (Z * Z * Z * Z * Z * Z * Z) = 1 := by
    have e1 : X * X * X * X * X * X * X = X ^ 7 := by grind
    have e2 : Z * Z * Z * Z * Z * Z * Z = Z ^ 7 := by grind
    rw [e1, e2]
    exact Int.pow_gcd_pow_of_gcd_eq_one hc
  rw [e, Nat.mul_one] at h
  exact Int.dvd_natAbs.mp h
section
variable {b2 b4 b6 b8 : Int}
/-- a paper's equations, for X and Z -/
structure Pap (b2 b4 b6 b8 : Int) (p : List Int) : Prop where
  len : p.length = 17
  pos : 0 < p.getD 0 0
  one : cvl b2 b4 b6 b8 (p.getD 1 0) (p.getD 2 0) (p.getD 3 0) (p.getD 4 0) (p.getD 5 0) (p.getD 6 0) (p.getD 7 0) (p.getD 8 0) = [0, 0, 0, 0, 0, 0, 0, p.getD 0 0]
  two : cvl b2 b4 b6 b8 (p.getD 9 0) (p.getD 10 0) (p.getD 11 0) (p.getD 12 0) (p.getD 13 0) (p.getD 14 0) (p.getD 15 0) (p.getD 16 0) = [p.getD 0 0, 0, 0, 0, 0, 0, 0, 0]
theorem Bok.pap (h : Bok b2 b4 b6 b8) : Pap b2 b4 b6 b8 (paperL b2 b4 b6 b8) :=
  ⟨paperL_len, paper_pos h, paper_cvl1 h (fun j => (paperL b2 b4 b6 b8).getD j 0) fun _ => rfl, paper_cvl2 h (fun j => (paperL b2 b4 b6 b8).getD j 0) fun _ => rfl⟩
theorem Pap.id1 {p : List Int} (h : Pap b2 b4 b6 b8 p) (X Z : Int) : cub (p.getD 1 0) (p.getD 2 0) (p.getD 3 0) (p.getD 4 0) X Z * ff b4 b6 b8 X Z + cub (p.getD 5 0) (p.getD 6 0) (p.getD 7 0) (p.getD 8 0) X Z * gg b2 b4 b6 X Z = p.getD 0 0 * (Z * Z * Z * Z * Z * Z * Z) := by
  have h1 := h.one
  unfold cvl at h1
  simp only [List.cons.injEq, and_true] at h1
  obtain ⟨e0, e1, e2, e3, e4, e5, e6, e7⟩ := h1
  rw [cvl_poly, e0, e1, e2, e3, e4, e5, e6, e7]
  simp
theorem Pap.id2 {p : List Int} (h : Pap b2 b4 b6 b8 p) (X Z : Int) : cub (p.getD 9 0) (p.getD 10 0) (p.getD 11 0) (p.getD 12 0) X Z * ff b4 b6 b8 X Z + cub (p.getD 13 0) (p.getD 14 0) (p.getD 15 0) (p.getD 16 0) X Z * gg b2 b4 b6 X Z = p.getD 0 0 * (X * X * X * X * X * X * X) := by
  have h1 := h.two
  unfold cvl at h1
  simp only [List.cons.injEq, and_true] at h1
  obtain ⟨e0, e1, e2, e3, e4, e5, e6, e7⟩ := h1
  rw [cvl_poly, e0, e1, e2, e3, e4, e5, e6, e7]
  simp
theorem list17 {p : List Int} (h : p.length = 17) : ∃ a0 a1 a2 a3 a4 a5 a6 a7 a8 a9 a10 a11 a12 a13 a14 a15 a16, p = [a0, a1, a2, a3, a4, a5, a6, a7, a8, a9, a10, a11, a12, a13, a14, a15, a16] := by
  match p, h with
  | [a0, a1, a2, a3, a4, a5, a6, a7, a8, a9, a10, a11, a12, a13, a14, a15, a16], _ => exact ⟨_, _, _, _, _, _, _, _, _, _, _, _, _, _, _, _, _, rfl⟩
/-- the two together -/
theorem low_all {p : List Int} (h : Pap b2 b4 b6 b8 p) {X Z : Int} {H M : Nat} (hH : H = max X.natAbs Z.natAbs) (hH0 : 0 < H) (hF : (ff b4 b6 b8 X Z).natAbs ≤ M) (hG : (gg b2 b4 b6 X Z).natAbs ≤ M) : (p.getD 0 0).natAbs * (H * H * H * H) ≤ lowN p * M := by
  have hX : X.natAbs ≤ H := by omega
  have hZ : Z.natAbs ≤ H := by omega
  have hz1 : X.natAbs ≤ Z.natAbs → Z.natAbs = H := by omega
  have hz2 : ¬ X.natAbs ≤ Z.natAbs → X.natAbs = H := by omega
  have k1 := low_half (h.id1 X Z) (cub_le hX hZ) (cub_le hX hZ) hF hG
  have k2 := low_half (h.id2 X Z) (cub_le hX hZ) (cub_le hX hZ) hF hG
  obtain ⟨a0, a1, a2, a3, a4, a5, a6, a7, a8, a9, a10, a11, a12, a13, a14, a15, a16, rfl⟩ := list17 h.len
  have l1 : absL [a1, a2, a3, a4, a5, a6, a7, a8] ≤ lowN [a0, a1, a2, a3, a4, a5, a6, a7, a8, a9, a10, a11, a12, a13, a14, a15, a16] := Nat.le_max_left _ _
  have l2 : absL [a9, a10, a11, a12, a13, a14, a15, a16] ≤ lowN [a0, a1, a2, a3, a4, a5, a6, a7, a8, a9, a10, a11, a12, a13, a14, a15, a16] := Nat.le_max_right _ _
  generalize hL : lowN [a0, a1, a2, a3, a4, a5, a6, a7, a8, a9, a10, a11, a12, a13, a14, a15, a16] = L at *
  have hr : ∀ w : Int, w.natAbs = H → ∀ S : Nat, S ≤ L → a0.natAbs * (w * w * w * w * w * w * w).natAbs ≤ S * (H * H * H) * M → a0.natAbs * (H * H * H * H) ≤ L * M := fun w hw S hS hk => by
    have e : (w * w * w * w * w * w * w).natAbs = H * H * H * H * (H * H * H) := by
      simp only [Int.natAbs_mul, hw]
      simp only [Nat.mul_assoc]
    rw [e] at hk
    have hk2 : (H * H * H) * (a0.natAbs * (H * H * H * H)) ≤ (H * H * H) * (L * M) := by
      have e1 : (H * H * H) * (a0.natAbs * (H * H * H * H)) = a0.natAbs * (H * H * H * H * (H * H * H)) := by
        rw [Nat.mul_left_comm, Nat.mul_comm (H * H * H)]
      have e2 : S * (H * H * H) * M = (H * H * H) * (S * M) := by
        rw [Nat.mul_comm S, Nat.mul_assoc]
      rw [e1]
      refine Nat.le_trans hk ?_
      rw [e2]
      exact Nat.mul_le_mul_left _ (Nat.mul_le_mul_right _ hS)
    exact Nat.le_of_mul_le_mul_left hk2 (Nat.mul_pos (Nat.mul_pos hH0 hH0) hH0)
  have s1 : a1.natAbs + a2.natAbs + a3.natAbs + a4.natAbs + (a5.natAbs + a6.natAbs + a7.natAbs + a8.natAbs) = absL [a1, a2, a3, a4, a5, a6, a7, a8] := by
    simp [absL, Nat.add_assoc]
  have s2 : a9.natAbs + a10.natAbs + a11.natAbs + a12.natAbs + (a13.natAbs + a14.natAbs + a15.natAbs + a16.natAbs) = absL [a9, a10, a11, a12, a13, a14, a15, a16] := by
    simp [absL, Nat.add_assoc]
  by_cases hc : X.natAbs ≤ Z.natAbs
  · refine hr Z (hz1 hc) _ l1 ?_
    rw [← s1]
    exact k1
  · refine hr X (hz2 hc) _ l2 ?_
    rw [← s2]
    exact k2
/-- the law's four questions, for numbers -/
theorem between {p : List Int} (h : Pap b2 b4 b6 b8 p) {X Z : Int} (hc : Int.gcd X Z = 1) (hZ : 0 < Z) {H H2 : Nat} (hH : H = max X.natAbs Z.natAbs)
    (h2 : max (ff b4 b6 b8 X Z).natAbs (gg b2 b4 b6 X Z).natAbs = Int.gcd (ff b4 b6 b8 X Z) (gg b2 b4 b6 X Z) * H2) :
    (ff b4 b6 b8 X Z ≠ 0 ∨ gg b2 b4 b6 X Z ≠ 0) ∧ (Int.gcd (ff b4 b6 b8 X Z) (gg b2 b4 b6 X Z) : Int) ∣ p.getD 0 0 ∧ H * H * H * H ≤ lowN p * H2 ∧ H2 ≤ highN b2 b4 b6 b8 * (H * H * H * H) := by
  have hne : ff b4 b6 b8 X Z ≠ 0 ∨ gg b2 b4 b6 X Z ≠ 0 := by
    by_cases hf : ff b4 b6 b8 X Z = 0
    · by_cases hg : gg b2 b4 b6 X Z = 0
      · have e := h.id1 X Z
        rw [hf, hg, Int.mul_zero, Int.mul_zero] at e
        have hp := h.pos
        have hz7 : 0 < Z * Z * Z * Z * Z * Z * Z := Int.mul_pos (Int.mul_pos (Int.mul_pos (Int.mul_pos (Int.mul_pos (Int.mul_pos hZ hZ) hZ) hZ) hZ) hZ) hZ
        have := Int.mul_pos hp hz7
        omega
      · exact .inr hg
    · exact .inl hf
  have hH0 : 0 < H := by omega
  have hg : (Int.gcd (ff b4 b6 b8 X Z) (gg b2 b4 b6 X Z) : Int) ∣ p.getD 0 0 := by
    refine dvd_pow7 hc ?_ ?_
    · rw [← h.id2 X Z]
      exact Int.dvd_add (Int.dvd_trans (Int.gcd_dvd_left _ _) (Int.dvd_mul_left _ _)) (Int.dvd_trans (Int.gcd_dvd_right _ _) (Int.dvd_mul_left _ _))
    · rw [← h.id1 X Z]
      exact Int.dvd_add (Int.dvd_trans (Int.gcd_dvd_left _ _) (Int.dvd_mul_left _ _)) (Int.dvd_trans (Int.gcd_dvd_right _ _) (Int.dvd_mul_left _ _))
  have hgp : 0 < Int.gcd (ff b4 b6 b8 X Z) (gg b2 b4 b6 X Z) := Int.gcd_pos_iff.mpr hne
  have hgr : Int.gcd (ff b4 b6 b8 X Z) (gg b2 b4 b6 X Z) ≤ (p.getD 0 0).natAbs := by
    have hp := h.pos
    have := Nat.le_of_dvd (by omega) (Int.natAbs_dvd_natAbs.mpr hg)
    simpa using this
  refine ⟨hne, hg, ?_, ?_⟩
  · have k := low_all h hH hH0 (Nat.le_max_left (ff b4 b6 b8 X Z).natAbs (gg b2 b4 b6 X Z).natAbs) (Nat.le_max_right _ _)
    rw [h2] at k
    have hr0 : 0 < (p.getD 0 0).natAbs := by have := h.pos; omega
    have k2 : (p.getD 0 0).natAbs * (H * H * H * H) ≤ (p.getD 0 0).natAbs * (lowN p * H2) := by
      refine Nat.le_trans k ?_
      rw [Nat.mul_left_comm]
      exact Nat.mul_le_mul_right _ hgr
    exact Nat.le_of_mul_le_mul_left k2 hr0
  · have hX' : X.natAbs ≤ H := by omega
    have hZ' : Z.natAbs ≤ H := by omega
    have k1 := ff_le (b4 := b4) (b6 := b6) (b8 := b8) hX' hZ'
    have k2 := gg_le (b2 := b2) (b4 := b4) (b6 := b6) hX' hZ'
    have l1 : absL (formF b4 b6 b8) * (H * H * H * H) ≤ highN b2 b4 b6 b8 * (H * H * H * H) := Nat.mul_le_mul_right _ (Nat.le_max_left _ _)
    have l2 : absL (formG b2 b4 b6) * (H * H * H * H) ≤ highN b2 b4 b6 b8 * (H * H * H * H) := Nat.mul_le_mul_right _ (Nat.le_max_right _ _)
    have l3 : H2 ≤ Int.gcd (ff b4 b6 b8 X Z) (gg b2 b4 b6 X Z) * H2 := Nat.le_mul_of_pos_left _ hgp
    omega
end
end Cw
end
section
set_option linter.all false
set_option maxHeartbeats 4000000
namespace Cw
abbrev Pt := Option (Rat × Rat)
def hgt : Pt → Nat
  | none => 1
  | some (x, _) => max x.num.natAbs x.den
namespace Cv
def slope (c : Cv) (x y : Rat) : Rat := c.tau x y / c.psi x y
def dbl (c : Cv) : Pt → Pt
  | none => none
  | some (x, y) => if c.psi x y = 0 then none else some (c.addX (c.slope x y) x x, c.addY (c.slope x y) x y (c.addX (c.slope x y) x x))
def F (c : Cv) (x : Rat) : Int := ff c.b4 c.b6 c.b8 x.num x.den
def G (c : Cv) (x : Rat) : Int := gg c.b2 c.b4 c.b6 x.num x.den
end Cv
theorem num_eq (x : Rat) : (x.num : Rat) = x * (x.den : Rat) := by
  have h := Rat.num_divInt_den x
  rw [Rat.divInt_eq_div] at h
  have hd : ((x.den : Int) : Rat) ≠ 0 := by
    simpa using x.den_nz
  have h2 := Rat.div_mul_cancel (a := (x.num : Rat)) hd
  rw [h] at h2
  rw [← h2]
  rfl
theorem F_eq (c : Cv) (x : Rat) : (c.F x : Rat) = c.fx x * ((x.den : Rat) * x.den * x.den * x.den) := by
  unfold Cv.F ff Cv.fx
  simp only [Rat.intCast_add, Rat.intCast_sub, Rat.intCast_mul, Rat.intCast_natCast, num_eq]
  grind
theorem G_eq (c : Cv) (x : Rat) : (c.G x : Rat) = c.gx x * ((x.den : Rat) * x.den * x.den * x.den) := by
  unfold Cv.G gg Cv.gx
  simp only [Rat.intCast_add, Rat.intCast_sub, Rat.intCast_mul, Rat.intCast_natCast, num_eq]
  grind
theorem slope_mul {c : Cv} {x y : Rat} (h : c.psi x y ≠ 0) : c.slope x y * c.psi x y = c.tau x y := Rat.div_mul_cancel h
theorem G_zero {c : Cv} {x y : Rat} (on : c.On x y) : c.G x = 0 ↔ c.psi x y = 0 := by
  have hd : (x.den : Rat) ≠ 0 := by simp [x.den_nz]
  have e := G_eq c x
  rw [Cv.gx_psi on] at e
  constructor
  · intro h
    rw [h] at e
    have e2 : c.psi x y * c.psi x y * ((x.den : Rat) * x.den * x.den * x.den) = 0 := by rw [← e]; rfl
    rcases Rat.mul_eq_zero.mp e2 with z | z
    · rcases Rat.mul_eq_zero.mp z with z | z <;> exact z
    · rcases Rat.mul_eq_zero.mp z with z | z
      · rcases Rat.mul_eq_zero.mp z with z | z
        · rcases Rat.mul_eq_zero.mp z with z | z <;> exact absurd z hd
        · exact absurd z hd
      · exact absurd z hd
  · intro h
    rw [h] at e
    have e2 : (c.G x : Rat) = 0 := by rw [e]; simp
    exact Rat.intCast_eq_zero_iff.mp e2
theorem FG_dbl {c : Cv} {x y : Rat} (on : c.On x y) (h : c.psi x y ≠ 0) : Rat.divInt (c.F x) (c.G x) = c.addX (c.slope x y) x x := by
  have hG : c.G x ≠ 0 := fun z => h ((G_zero on).mp z)
  have hG' : (c.G x : Rat) ≠ 0 := by simpa using hG
  rw [Rat.divInt_eq_div]
  have e := Cv.fx_dbl on (slope_mul h)
  have e1 := F_eq c x
  have e2 := G_eq c x
  have e3 : (c.F x : Rat) = c.addX (c.slope x y) x x * (c.G x : Rat) := by rw [e1, e2, ← e]; grind
  rw [e3]
  exact Rat.mul_div_cancel hG'
/-- what the law asks between a point and its double -/
theorem btw {c : Cv} {p : List Int} (hp : Pap c.b2 c.b4 c.b6 c.b8 p) {x y : Rat} (on : c.On x y) :
    (c.F x ≠ 0 ∨ c.G x ≠ 0) ∧ (Int.gcd (c.F x) (c.G x) : Int) ∣ p.getD 0 0 ∧ (let H := hgt (some (x, y)); H * H * H * H ≤ lowN p * hgt (c.dbl (some (x, y)))) ∧ (let H := hgt (some (x, y)); hgt (c.dbl (some (x, y))) ≤ highN c.b2 c.b4 c.b6 c.b8 * (H * H * H * H)) := by
  have hd : 0 < (x.den : Int) := by have := x.den_nz; omega
  have hc : Int.gcd x.num x.den = 1 := x.reduced
  refine between hp hc hd (H := hgt (some (x, y))) (H2 := hgt (c.dbl (some (x, y)))) (by simp [hgt]) ?_
  show max (c.F x).natAbs (c.G x).natAbs = Int.gcd (c.F x) (c.G x) * _
  by_cases h : c.psi x y = 0
  · have e : c.dbl (some (x, y)) = none := by simp [Cv.dbl, h]
    rw [e, (G_zero on).mpr h]
    simp [hgt]
  · have e : c.dbl (some (x, y)) = some (c.addX (c.slope x y) x x, c.addY (c.slope x y) x y (c.addX (c.slope x y) x x)) := by simp [Cv.dbl, h]
    rw [e]
    have hG : c.G x ≠ 0 := fun z => h ((G_zero on).mp z)
    obtain ⟨m, hm, h1, h2, h3⟩ := low_of (top := c.F x) hG
    rw [FG_dbl on h] at h1 h2
    have hg : Int.gcd (c.F x) (c.G x) = m.natAbs := by
      rw [h3]
      split <;> simp
    rw [hg]
    show _ = m.natAbs * max (c.addX (c.slope x y) x x).num.natAbs (c.addX (c.slope x y) x x).den
    conv => lhs; rw [h1, h2]
    rw [Int.natAbs_mul, Int.natAbs_mul, Int.natAbs_natCast, Nat.mul_max_mul_right, Nat.mul_comm]
/-- sizes of doubles -/
theorem Lv.dbl' {c : Cv} {e p q : Nat} {x y : Rat} (hc : Cb c) (h : Lv c e p q x y) (k : Lev e p q) (h0 : c.psi x y ≠ 0) :
    Dbl c x y (c.slope x y) ∧ Lv c (bE e p q) (bX e p q) (bY e p q) (c.addX (c.slope x y) x x) (c.addY (c.slope x y) x y (c.addX (c.slope x y) x x)) :=
  h.dbl hc h0 (slope_mul h0) k.opp k.psi k.tau k.far k.up
end Cw
end
section
set_option linter.all false
set_option maxRecDepth 100000
namespace Cw
open PySem PySem.Spec PyProof.Rows L2

/-- plain data -/
inductive Dt where
  | non | bl (b : Bool) | int (i : Int) | adr (a : Addr) | tup (xs : List Dt) | lst (xs : List Dt)

mutual
def Rep (H : Hp) : Dt → V → Prop
  | .non, v => v = .non
  | .bl b, v => v = .bl b
  | .int i, v => v = .int i
  | .adr a, v => v = .ref a
  | .tup xs, v => ∃ a vs, v = .ref a ∧ H a = some (.tup vs) ∧ Reps H xs vs
  | .lst xs, v => ∃ a vs, v = .ref a ∧ H a = some (.lst vs) ∧ Reps H xs vs
def Reps (H : Hp) : List Dt → List V → Prop
  | [], vs => vs = []
  | d :: r, vs => ∃ v w, vs = v :: w ∧ Rep H d v ∧ Reps H r w
end

theorem rep_mono_all {H H' : Hp} (e : Same H H') : (∀ d v, Rep H d v → Rep H' d v) ∧ (∀ ds vs, Reps H ds vs → Reps H' ds vs) := by
  have h : ∀ d : Dt, ∀ v, Rep H d v → Rep H' d v := by
    intro d
    induction d using Dt.rec (motive_2 := fun ds => ∀ vs, Reps H ds vs → Reps H' ds vs) with
    | non => intro v h; exact h
    | bl b => intro v h; exact h
    | int i => intro v h; exact h
    | adr a => intro v h; exact h
    | tup xs ih =>
      intro v h
      obtain ⟨a, vs, e1, e2, e3⟩ := h
      exact ⟨a, vs, e1, e _ _ e2, ih _ e3⟩
    | lst xs ih =>
      intro v h
      obtain ⟨a, vs, e1, e2, e3⟩ := h
      exact ⟨a, vs, e1, e _ _ e2, ih _ e3⟩
    | nil => rename_i h; exact h
    | cons d r h1 h2 =>
      rename_i h
      obtain ⟨v, w, e1, e2, e3⟩ := h
      exact ⟨v, w, e1, h1 _ e2, h2 _ e3⟩
  refine ⟨h, fun ds => ?_⟩
  induction ds with
  | nil => intro vs h; exact h
  | cons d r ih =>
    intro vs hh
    obtain ⟨v, w, e1, e2, e3⟩ := hh
    exact ⟨v, w, e1, h _ _ e2, ih _ e3⟩
theorem Rep.mono {H H' : Hp} (e : Same H H') {d : Dt} {v : V} (h : Rep H d v) : Rep H' d v := (rep_mono_all e).1 _ _ h
theorem Reps.mono {H H' : Hp} (e : Same H H') {ds : List Dt} {vs : List V} (h : Reps H ds vs) : Reps H' ds vs := (rep_mono_all e).2 _ _ h
theorem Reps.len {H : Hp} : ∀ {ds : List Dt} {vs : List V}, Reps H ds vs → vs.length = ds.length
  | [], _, h => by cases (show _ = _ from h); rfl
  | d :: r, vs, h => by
    obtain ⟨v, w, rfl, _, e3⟩ := h
    simp [Reps.len e3]
theorem Reps.get {H : Hp} : ∀ {ds : List Dt} {vs : List V} {i : Nat} {d : Dt}, Reps H ds vs → ds[i]? = some d → ∃ v, vs[i]? = some v ∧ Rep H d v
  | [], _, _, _, _, e => by simp at e
  | d :: r, vs, 0, x, h, e => by
    obtain ⟨v, w, rfl, e2, e3⟩ := h
    simp at e; subst e
    exact ⟨v, rfl, e2⟩
  | d :: r, vs, i + 1, x, h, e => by
    obtain ⟨v, w, rfl, e2, e3⟩ := h
    obtain ⟨u, h1, h2⟩ := Reps.get (i := i) e3 (by simpa using e)
    exact ⟨u, by simpa using h1, h2⟩
theorem Reps.get' {H : Hp} : ∀ {ds : List Dt} {vs : List V} {i : Nat} {v : V}, Reps H ds vs → vs[i]? = some v → ∃ d, ds[i]? = some d ∧ Rep H d v
  | [], _, _, _, h, e => by cases (show _ = _ from h); simp at e
  | d :: r, vs, 0, x, h, e => by
    obtain ⟨v, w, rfl, e2, e3⟩ := h
    simp at e; subst e
    exact ⟨d, rfl, e2⟩
  | d :: r, vs, i + 1, x, h, e => by
    obtain ⟨v, w, rfl, e2, e3⟩ := h
    obtain ⟨u, h1, h2⟩ := Reps.get' (i := i) e3 (by simpa using e)
    exact ⟨u, by simpa using h1, h2⟩
theorem Reps.app {H : Hp} : ∀ {ds es : List Dt} {vs ws : List V}, Reps H ds vs → Reps H es ws → Reps H (ds ++ es) (vs ++ ws)
  | [], _, _, _, h, k => by cases (show _ = _ from h); exact k
  | d :: r, es, vs, ws, h, k => by
    obtain ⟨v, w, rfl, e2, e3⟩ := h
    exact ⟨v, w ++ ws, rfl, e2, Reps.app e3 k⟩
theorem Reps.take {H : Hp} : ∀ {ds : List Dt} {vs : List V} (n : Nat), Reps H ds vs → Reps H (ds.take n) (vs.take n)
  | [], _, n, h => by cases (show _ = _ from h); cases n <;> rfl
  | d :: r, vs, 0, h => rfl
  | d :: r, vs, n + 1, h => by
    obtain ⟨v, w, rfl, e2, e3⟩ := h
    exact ⟨v, w.take n, rfl, e2, Reps.take n e3⟩
theorem Reps.drop {H : Hp} : ∀ {ds : List Dt} {vs : List V} (n : Nat), Reps H ds vs → Reps H (ds.drop n) (vs.drop n)
  | [], _, n, h => by cases (show _ = _ from h); cases n <;> rfl
  | d :: r, vs, 0, h => h
  | d :: r, vs, n + 1, h => by
    obtain ⟨v, w, rfl, e2, e3⟩ := h
    exact Reps.drop n e3
theorem Reps.set {H : Hp} {d' : Dt} {v' : V} (k : Rep H d' v') : ∀ {ds : List Dt} {vs : List V} (i : Nat), Reps H ds vs → Reps H (ds.set i d') (vs.set i v')
  | [], _, n, h => by cases (show _ = _ from h); exact h
  | d :: r, vs, 0, h => by
    obtain ⟨v, w, rfl, e2, e3⟩ := h
    exact ⟨v', w, rfl, k, e3⟩
  | d :: r, vs, n + 1, h => by
    obtain ⟨v, w, rfl, e2, e3⟩ := h
    exact ⟨v, w.set n v', rfl, e2, Reps.set k n e3⟩
/-- zs -/
def zs (ns : List Int) : List Dt := ns.map .int
theorem reps_ints {H : Hp} : ∀ {ns : List Int} {vs : List V}, Reps H (zs ns) vs → vs = ns.map V.int
  | [], _, h => h
  | n :: r, vs, h => by
    obtain ⟨v, w, rfl, e2, e3⟩ := h
    rw [reps_ints (ns := r) e3]
    cases (show v = .int n from e2)
    rfl
theorem ints_reps {H : Hp} : ∀ (ns : List Int), Reps H (zs ns) (ns.map V.int)
  | [] => rfl
  | n :: r => ⟨.int n, r.map V.int, rfl, rfl, ints_reps r⟩

/-! ### slots -/
abbrev De := List (Option Dt)
def Sl (H : Hp) (σ : L2.St) (δ : De) : Prop := σ.length = δ.length ∧ ∀ (i : Nat) (d : Dt), δ[i]? = some (some d) → ∃ v, σ[i]? = some (some v) ∧ Rep H d v
theorem Sl.mono {H H' : Hp} {σ : L2.St} {δ : De} (e : Same H H') (h : Sl H σ δ) : Sl H' σ δ := ⟨h.1, fun i d x => by
  obtain ⟨v, h1, h2⟩ := h.2 i d x
  exact ⟨v, h1, h2.mono e⟩⟩
theorem Sl.set {H : Hp} {σ : L2.St} {δ : De} {d : Dt} {v : V} (h : Sl H σ δ) (r : Rep H d v) (i : Nat) : Sl H (σ.set i (some v)) (δ.set i (some d)) := by
  refine ⟨by simp [h.1], fun j x e => ?_⟩
  by_cases hj : i = j
  · subst hj
    by_cases hl : i < δ.length
    · rw [List.getElem?_set_self hl] at e
      cases e
      exact ⟨v, List.getElem?_set_self (by rw [h.1]; exact hl), r⟩
    · rw [List.getElem?_eq_none (by simpa using hl)] at e
      cases e
  · rw [List.getElem?_set_ne hj] at e ⊢
    exact h.2 j x e
/-- what the one knows the other knows -/
def Le (δ' δ : De) : Prop := δ'.length = δ.length ∧ ∀ (i : Nat) d, δ'[i]? = some (some d) → δ[i]? = some (some d)
theorem Le.refl (δ : De) : Le δ δ := ⟨rfl, fun _ _ h => h⟩
theorem Le.trans {a b c : De} (x : Le a b) (y : Le b c) : Le a c := ⟨x.1.trans y.1, fun i d h => y.2 i d (x.2 i d h)⟩
theorem Sl.le {H : Hp} {σ : L2.St} {δ δ' : De} (h : Sl H σ δ) (e : Le δ' δ) : Sl H σ δ' := ⟨h.1.trans e.1.symm, fun i d x => h.2 i d (e.2 i d x)⟩
def wipeD (δ : De) : List Nat → De
  | [] => δ
  | v :: vs => (wipeD δ vs).set v none
theorem Sl.none {H : Hp} {σ : L2.St} {δ : De} (h : Sl H σ δ) (i : Nat) : Sl H (σ.set i Option.none) (δ.set i Option.none) := by
  refine ⟨by simp [h.1], fun j x e => ?_⟩
  by_cases hj : i = j
  · subst hj
    by_cases hl : i < δ.length
    · rw [List.getElem?_set_self hl] at e
      cases e
    · rw [List.getElem?_eq_none (by simpa using hl)] at e
      cases e
  · rw [List.getElem?_set_ne hj] at e ⊢
    exact h.2 j x e
theorem Sl.wipe {H : Hp} {σ : L2.St} {δ : De} (h : Sl H σ δ) : ∀ vs, Sl H (wipe σ vs) (wipeD δ vs)
  | [] => h
  | v :: vs => (Sl.wipe h vs).none v
theorem wipe_set_in {σ : L2.St} {j : Nat} {x : Option V} : ∀ {vs : List Nat}, j ∈ vs → wipe (σ.set j x) vs = wipe σ vs
  | [], h => by simp at h
  | v :: vs, h => by
    show (wipe (σ.set j x) vs).set v Option.none = (wipe σ vs).set v Option.none
    by_cases hv : j ∈ vs
    · rw [wipe_set_in hv]
    · have e : j = v := by
        rcases List.mem_cons.mp h with h | h
        · exact h
        · exact absurd h hv
      subst e
      have key : ∀ (vs : List Nat) (σ : L2.St), j ∉ vs → wipe (σ.set j x) vs = (wipe σ vs).set j x := by
        intro vs
        induction vs with
        | nil => intro σ _; rfl
        | cons w ws ih =>
          intro σ hn
          have hw : j ≠ w := fun z => hn (by simp [z])
          show (wipe (σ.set j x) ws).set w Option.none = ((wipe σ ws).set w Option.none).set j x
          rw [ih σ fun z => hn (List.mem_cons_of_mem _ z), List.set_comm _ _ hw]
      rw [key vs σ hv, List.set_set]
theorem wipe_idem {σ : L2.St} : ∀ {vs : List Nat}, wipe (wipe σ vs) vs = wipe σ vs := by
  have h : ∀ (ws vs : List Nat) (σ : L2.St), (∀ w ∈ ws, w ∈ vs) → wipe (wipe σ ws) vs = wipe σ vs := by
    intro ws
    induction ws with
    | nil => intro vs σ _; rfl
    | cons w ws ih =>
      intro vs σ hh
      show wipe ((wipe σ ws).set w Option.none) vs = wipe σ vs
      rw [wipe_set_in (hh w (by simp)), ih vs σ fun x hx => hh x (List.mem_cons_of_mem _ hx)]
  intro vs
  exact h vs vs σ fun _ x => x

/-! ### two heaps: the whole, the part that stays -/
structure Ext (H HP H' HP' : Hp) : Prop where
  big : Same H H'
  part : Same HP HP'
  sub : Same HP' H'
  new : ∀ a o, HP' a = some o → HP a = some o ∨ H a = none
theorem Ext.refl {H HP : Hp} (s : Same HP H) : Ext H HP H HP := ⟨Same.refl _, Same.refl _, s, fun _ _ h => .inl h⟩
theorem Ext.trans {H HP H1 P1 H2 P2 : Hp} (a : Ext H HP H1 P1) (b : Ext H1 P1 H2 P2) : Ext H HP H2 P2 :=
  ⟨a.big.trans b.big, a.part.trans b.part, b.sub, fun x o h => by
    rcases b.new x o h with h | h
    · exact a.new x o h
    · exact .inr (a.big.free h)⟩
theorem same_upd {H : Hp} {p : Addr} {o : HO} (h : H p = none) : Same H (upd H p o) := fun b x e => by
  rw [upd_ne (ne_of_none e h)]
  exact e
/-- a new object that stays -/
theorem Ext.upd {H HP : Hp} {p : Addr} {o : HO} (s : Same HP H) (h : H p = none) : Ext H HP (upd H p o) (upd HP p o) := by
  have hp : HP p = none := s.free h
  refine ⟨same_upd h, same_upd hp, fun b x e => ?_, fun b x e => ?_⟩
  · by_cases hb : b = p
    · subst hb
      rw [upd_same] at e ⊢
      exact e
    · rw [upd_ne hb] at e ⊢
      exact s _ _ e
  · by_cases hb : b = p
    · subst hb
      exact .inr h
    · rw [upd_ne hb] at e
      exact .inl e
/-- a new object that may change -/
theorem Ext.own {H HP : Hp} {p : Addr} {o : HO} (s : Same HP H) (h : H p = none) : Ext H HP (L2.upd H p o) HP :=
  ⟨same_upd h, Same.refl _, s.trans (same_upd h), fun _ _ e => .inl e⟩
/-- what is owned is not of the part -/
theorem Ext.keepOut {H HP H' HP' : Hp} (e : Ext H HP H' HP') {p : Addr} {o : HO} (h : H p = some o) (hp : HP p = none) : H' p = some o ∧ HP' p = none := by
  refine ⟨e.big _ _ h, ?_⟩
  cases q : HP' p with
  | none => rfl
  | some u =>
    rcases e.new _ _ q with z | z
    · rw [hp] at z; cases z
    · rw [h] at z; cases z

/-! ### judgements -/
def EvD (te : TE) (δ : De) (d : Dt) : Prop := ∀ (σ : L2.St) (H HP : Hp), Same HP H → Sl HP σ δ → ∀ Q : VK, (∀ v H' HP', Ext H HP H' HP' → Rep HP' d v → Q v H') → te σ H Q
def EvB (t : TT) (δ : De) (b : Bool) : Prop := ∀ (σ : L2.St) (H HP : Hp), Same HP H → Sl HP σ δ → ∀ Q : Bool → Hp → Prop, (∀ H' HP', Ext H HP H' HP' → Q b H') → t σ H Q
def EvA (t : TA) (δ : De) (ds : List Dt) : Prop := ∀ (σ : L2.St) (H HP : Hp), Same HP H → Sl HP σ δ → ∀ Q : List V → Hp → Prop, (∀ vs H' HP', Ext H HP H' HP' → Reps HP' ds vs → Q vs H') → t σ H Q
def StD (ts : TS) (δ : De) (nx : De → Prop) (rt : Dt → Prop) : Prop := ∀ (σ : L2.St) (H HP : Hp), Same HP H → Sl HP σ δ → ∀ D : Ends,
  (∀ δ' σ' H' HP', nx δ' → Ext H HP H' HP' → Sl HP' σ' δ' → D.nx σ' H') → (∀ d v H' HP', rt d → Ext H HP H' HP' → Rep HP' d v → D.rt v H') → ts D σ H
def TgD (g : TG) (δ : De) (d : Dt) (δ' : De) : Prop := ∀ (σ : L2.St) (H HP : Hp) (v : V), Same HP H → Sl HP σ δ → Rep HP d v → ∀ Q : L2.St → Hp → Prop, (∀ σ', Sl HP σ' δ' → Q σ' H) → g v σ H Q
def TgsD (g : TGs) (δ : De) (ds : List Dt) (δ' : De) : Prop := ∀ (σ : L2.St) (H HP : Hp) (vs : List V), Same HP H → Sl HP σ δ → Reps HP ds vs → ∀ Q : L2.St → Hp → Prop, (∀ σ', Sl HP σ' δ' → Q σ' H) → g vs σ H Q

section
variable {K : PySem.W.Frag} {δ : De} {d : Dt} {ds : List Dt} {ta tb te tl : TE} {t u : TT} {tA : TA}
theorem ev_var {i : Nat} (h : δ[i]? = some (some d)) : EvD (tVar i) δ d := fun σ H HP s sl Q q => by
  obtain ⟨v, h1, h2⟩ := sl.2 i d h
  exact ⟨v, h1, q v H HP (.refl s) h2⟩
theorem ev_c {v : V} (h : ∀ HP, Rep HP d v) : EvD (tC v) δ d := fun σ H HP s sl Q q => q v H HP (.refl s) (h HP)
theorem ev_int {i : Int} : EvD (tC (.int i)) δ (.int i) := ev_c fun _ => rfl
theorem ev_non : EvD (tC .non) δ .non := ev_c fun _ => rfl
theorem ev_bl {b : Bool} : EvD (tC (.bl b)) δ (.bl b) := ev_c fun _ => rfl
theorem ev_le {δ' : De} (h : EvD te δ' d) (e : Le δ' δ) : EvD te δ d := fun σ H HP s sl Q q => h σ H HP s (sl.le e) Q q
theorem ev_cast {d' : Dt} (h : EvD te δ d) (e : d = d') : EvD te δ d' := e ▸ h
theorem ev_I {C : Int → Int → Prop} {g : Int → Int → V} {i j : Int} (ha : EvD ta δ (.int i)) (hb : EvD tb δ (.int j)) (hc : C i j) (hd : ∀ HP, Rep HP d (g i j)) : EvD (tOp (rI C g) ta tb) δ d := fun σ H HP s sl Q q =>
  ha σ H HP s sl _ fun x H1 P1 e1 r1 => hb σ H1 P1 e1.sub (sl.mono e1.part) _ fun y H2 P2 e2 r2 => ⟨i, j, r1, r2, hc, q _ H2 P2 (e1.trans e2) (hd P2)⟩
theorem ev_I0 {g : Int → Int → V} {i j : Int} (ha : EvD ta δ (.int i)) (hb : EvD tb δ (.int j)) (hd : ∀ HP, Rep HP d (g i j)) : EvD (tOp (rI0 g) ta tb) δ d := fun σ H HP s sl Q q =>
  ha σ H HP s sl _ fun x H1 P1 e1 r1 => hb σ H1 P1 e1.sub (sl.mono e1.part) _ fun y H2 P2 e2 r2 => ⟨i, j, r1, r2, q _ H2 P2 (e1.trans e2) (hd P2)⟩
theorem ev_add {i j : Int} (ha : EvD ta δ (.int i)) (hb : EvD tb δ (.int j)) : EvD (tOp (rI0 fun i j => .int (i + j)) ta tb) δ (.int (i + j)) := ev_I0 ha hb fun _ => rfl
theorem ev_sub {i j : Int} (ha : EvD ta δ (.int i)) (hb : EvD tb δ (.int j)) : EvD (tOp (rI0 fun i j => .int (i - j)) ta tb) δ (.int (i - j)) := ev_I0 ha hb fun _ => rfl
theorem ev_mul {i j : Int} (ha : EvD ta δ (.int i)) (hb : EvD tb δ (.int j)) (hc : CMulW i j) : EvD (tOp (rI CMulW fun i j => .int (i * j)) ta tb) δ (.int (i * j)) := ev_I ha hb hc fun _ => rfl
theorem ev_gt {i j : Int} (ha : EvD ta δ (.int i)) (hb : EvD tb δ (.int j)) : EvD (tOp (rI0 fun i j => .bl (decide (j < i))) ta tb) δ (.bl (decide (j < i))) := ev_I0 ha hb fun _ => rfl
theorem ev_lt {i j : Int} (ha : EvD ta δ (.int i)) (hb : EvD tb δ (.int j)) : EvD (tOp (rI0 fun i j => .bl (decide (i < j))) ta tb) δ (.bl (decide (i < j))) := ev_I0 ha hb fun _ => rfl
theorem ev_U {g : Int → V} {i : Int} (ha : EvD ta δ (.int i)) (hd : ∀ HP, Rep HP d (g i)) : EvD (tUn (rU g) ta) δ d := fun σ H HP s sl Q q =>
  ha σ H HP s sl _ fun x H1 P1 e1 r1 => ⟨i, r1, q _ H1 P1 e1 (hd P1)⟩
theorem ev_neg {i : Int} (ha : EvD ta δ (.int i)) : EvD (tUn (rU fun i => .int (-i)) ta) δ (.int (-i)) := ev_U ha fun _ => rfl
/-- == and != of scalars -/
def scalD : Dt → Option V
  | .non => some .non
  | .bl b => some (.bl b)
  | .int i => some (.int i)
  | _ => Option.none
theorem scalD_rep {H : Hp} {d : Dt} {v w : V} (h : scalD d = some v) (r : Rep H d w) : w = v := by
  cases d with
  | non => cases h; exact r
  | bl b => cases h; exact r
  | int i => cases h; exact r
  | adr a => cases h
  | tup xs => cases h
  | lst xs => cases h
theorem ev_eq {d1 d2 : Dt} {v w : V} (ha : EvD ta δ d1) (hb : EvD tb δ d2) (h1 : scalD d1 = some v) (h2 : scalD d2 = some w) (h3 : scal v w = true) : EvD (tOp rEq ta tb) δ (.bl (decide (v = w))) := fun σ H HP s sl Q q =>
  ha σ H HP s sl _ fun x H1 P1 e1 r1 => hb σ H1 P1 e1.sub (sl.mono e1.part) _ fun y H2 P2 e2 r2 => by
    rw [scalD_rep h1 r1, scalD_rep h2 r2]
    exact ⟨h3, q _ H2 P2 (e1.trans e2) rfl⟩
theorem ev_ne {d1 d2 : Dt} {v w : V} (ha : EvD ta δ d1) (hb : EvD tb δ d2) (h1 : scalD d1 = some v) (h2 : scalD d2 = some w) (h3 : scal v w = true) : EvD (tOp rNe ta tb) δ (.bl (!decide (v = w))) := fun σ H HP s sl Q q =>
  ha σ H HP s sl _ fun x H1 P1 e1 r1 => hb σ H1 P1 e1.sub (sl.mono e1.part) _ fun y H2 P2 e2 r2 => by
    rw [scalD_rep h1 r1, scalD_rep h2 r2]
    exact ⟨h3, q _ H2 P2 (e1.trans e2) rfl⟩
theorem ev_eqI {i j : Int} (ha : EvD ta δ (.int i)) (hb : EvD tb δ (.int j)) : EvD (tOp rEq ta tb) δ (.bl (decide (i = j))) :=
  ev_cast (ev_eq ha hb rfl rfl rfl) (congrArg Dt.bl (by rw [dec_int]; exact Bool.beq_eq_decide_eq i j))
theorem ev_neI {i j : Int} (ha : EvD ta δ (.int i)) (hb : EvD tb δ (.int j)) : EvD (tOp rNe ta tb) δ (.bl (!decide (i = j))) :=
  ev_cast (ev_ne ha hb rfl rfl rfl) (congrArg Dt.bl (by rw [dec_int]; exact congrArg Bool.not (Bool.beq_eq_decide_eq i j)))
/-- items -/
theorem sq_of {K : PySem.W.Frag} {H : Hp} {a : Addr} {xs : List V} (h : H a = some (.lst xs)) : SqL K H a xs := Or.inl (Or.inl h)
theorem st_of {K : PySem.W.Frag} {H : Hp} {a : Addr} {xs : List V} (h : H a = some (.tup xs)) : SqT K H a xs := Or.inl (Or.inl h)
theorem ev_ixL {i : Int} {n : Nat} (ha : EvD ta δ (.lst ds)) (hb : EvD tb δ (.int i)) (hi : i = (n : Int)) (hn : ds[n]? = some d) : EvD (tOp (rIxL K) ta tb) δ d := fun σ H HP s sl Q q =>
  ha σ H HP s sl _ fun x H1 P1 e1 r1 => hb σ H1 P1 e1.sub (sl.mono e1.part) _ fun y H2 P2 e2 r2 => by
    obtain ⟨a, vs, rfl, ha, hr⟩ := r1
    obtain ⟨v, hv, rv⟩ := hr.get hn
    exact ⟨a, vs, i, v, rfl, r2, sq_of (e2.sub _ _ (e2.part _ _ ha)), by rw [hi]; exact atI_nat hv, q v H2 P2 (e1.trans e2) (rv.mono e2.part)⟩
theorem ev_ixT {i : Int} {n : Nat} (ha : EvD ta δ (.tup ds)) (hb : EvD tb δ (.int i)) (hi : i = (n : Int)) (hn : ds[n]? = some d) : EvD (tOp (rIxT K) ta tb) δ d := fun σ H HP s sl Q q =>
  ha σ H HP s sl _ fun x H1 P1 e1 r1 => hb σ H1 P1 e1.sub (sl.mono e1.part) _ fun y H2 P2 e2 r2 => by
    obtain ⟨a, vs, rfl, ha, hr⟩ := r1
    obtain ⟨v, hv, rv⟩ := hr.get hn
    exact ⟨a, vs, i, v, rfl, r2, st_of (e2.sub _ _ (e2.part _ _ ha)), by rw [hi]; exact atI_nat hv, q v H2 P2 (e1.trans e2) (rv.mono e2.part)⟩
/-- argument lists, displays -/
theorem ea_nil : EvA tNil δ [] := fun σ H HP s sl Q q => q [] H HP (.refl s) rfl
theorem ea_cons {tr : TA} (ha : EvD ta δ d) (hr : EvA tr δ ds) : EvA (tCons ta tr) δ (d :: ds) := fun σ H HP s sl Q q =>
  ha σ H HP s sl _ fun x H1 P1 e1 r1 => hr σ H1 P1 e1.sub (sl.mono e1.part) _ fun vs H2 P2 e2 r2 => q (x :: vs) H2 P2 (e1.trans e2) ⟨x, vs, rfl, r1.mono e2.part, r2⟩
theorem sz1000 {n : Nat} (h : n ≤ 1000) : n ≤ sizeLine := Nat.le_of_lt (small1000 h)
theorem ev_tup (h : EvA tA δ ds) (hl : ds.length ≤ 1000 := by exact Nat.le_of_ble_eq_true rfl) : EvD (tTup tA) δ (.tup ds) := fun σ H HP s sl Q q =>
  h σ H HP s sl _ fun vs H1 P1 e1 r1 => ⟨by rw [r1.len]; exact sz1000 hl, fun p hp => q _ _ _ (e1.trans (Ext.upd e1.sub hp)) ⟨p, vs, rfl, upd_same, r1.mono (same_upd (e1.sub.free hp))⟩⟩
theorem ev_lst (h : EvA tA δ ds) (hl : ds.length ≤ 1000 := by exact Nat.le_of_ble_eq_true rfl) : EvD (tLst tA) δ (.lst ds) := fun σ H HP s sl Q q =>
  h σ H HP s sl _ fun vs H1 P1 e1 r1 => ⟨by rw [r1.len]; exact sz1000 hl, fun p hp => q _ _ _ (e1.trans (Ext.upd e1.sub hp)) ⟨p, vs, rfl, upd_same, r1.mono (same_upd (e1.sub.free hp))⟩⟩
/-- a def's promise -/
def spP (pre : List Dt → Dt → Prop) : Sp := fun vs H Q _ => ∃ HP ds d, Same HP H ∧ Reps HP ds vs ∧ pre ds d ∧ ∀ v H' HP', Ext H HP H' HP' → Rep HP' d v → Q v H'
theorem ev_call {pre : List Dt → Dt → Prop} {E : XK} (h : EvA tA δ ds) (hp : pre ds d) : EvD (tCall (spP pre) [] E tA) δ d := fun σ H HP s sl Q q =>
  h σ H HP s sl _ fun vs H1 P1 e1 r1 => ⟨P1, ds, d, e1.sub, by rw [List.append_nil]; exact r1, hp, fun v H' HP' e2 r2 => q v H' HP' (e1.trans e2) r2⟩
/-- built-ins -/
theorem ev_abs {i : Int} (h : EvA tA δ [.int i]) : EvD (tCB (fun xs H Q => ∃ i, xs = [.int i] ∧ Q (.int (if i < 0 then -i else i)) H) tA) δ (.int (i.natAbs : Int)) := fun σ H HP s sl Q q =>
  h σ H HP s sl _ fun vs H1 P1 e1 r1 => ⟨i, reps_ints (ns := [i]) r1, q _ H1 P1 e1 (by
    show V.int _ = V.int _
    congr 1
    split <;> omega)⟩
theorem ev_max2 {i j : Int} (h : EvA tA δ [.int i, .int j]) : EvD (tCB (fun xs H Q => ∃ i j, xs = [.int i, .int j] ∧ Q (.int (if j > i then j else i)) H) tA) δ (.int (max i j)) := fun σ H HP s sl Q q =>
  h σ H HP s sl _ fun vs H1 P1 e1 r1 => ⟨i, j, reps_ints (ns := [i, j]) r1, q _ H1 P1 e1 (by
    show V.int _ = V.int _
    congr 1
    split <;> omega)⟩
theorem ev_min2 {i j : Int} (h : EvA tA δ [.int i, .int j]) : EvD (tCB (fun xs H Q => ∃ i j, xs = [.int i, .int j] ∧ Q (.int (if j < i then j else i)) H) tA) δ (.int (min i j)) := fun σ H HP s sl Q q =>
  h σ H HP s sl _ fun vs H1 P1 e1 r1 => ⟨i, j, reps_ints (ns := [i, j]) r1, q _ H1 P1 e1 (by
    show V.int _ = V.int _
    congr 1
    split <;> omega)⟩
theorem reps1 {H : Hp} {d : Dt} {vs : List V} (h : Reps H [d] vs) : ∃ v, vs = [v] ∧ Rep H d v := by
  obtain ⟨v, w, rfl, h1, h2⟩ := h
  cases (show w = [] from h2)
  exact ⟨v, rfl, h1⟩
theorem reps2 {H : Hp} {d e : Dt} {vs : List V} (h : Reps H [d, e] vs) : ∃ v w, vs = [v, w] ∧ Rep H d v ∧ Rep H e w := by
  obtain ⟨v, w, rfl, h1, h2⟩ := h
  obtain ⟨u, rfl, h3⟩ := reps1 h2
  exact ⟨v, u, rfl, h1, h3⟩
theorem ev_lenL (h : EvA tA δ [.lst ds]) : EvD (tCB (fun xs H Q => ∃ p ys, xs = [.ref p] ∧ (SqL K H p ys ∨ SqT K H p ys) ∧ Q (.int ys.length) H) tA) δ (.int ds.length) := fun σ H HP s sl Q q =>
  h σ H HP s sl _ fun vs H1 P1 e1 r1 => by
    obtain ⟨v, rfl, a, ws, rfl, ha, hr⟩ := reps1 r1
    exact ⟨a, ws, rfl, .inl (sq_of (e1.sub _ _ ha)), q _ H1 P1 e1 (by rw [hr.len]; rfl)⟩
theorem ev_lenT (h : EvA tA δ [.tup ds]) : EvD (tCB (fun xs H Q => ∃ p ys, xs = [.ref p] ∧ (SqL K H p ys ∨ SqT K H p ys) ∧ Q (.int ys.length) H) tA) δ (.int ds.length) := fun σ H HP s sl Q q =>
  h σ H HP s sl _ fun vs H1 P1 e1 r1 => by
    obtain ⟨v, rfl, a, ws, rfl, ha, hr⟩ := reps1 r1
    exact ⟨a, ws, rfl, .inr (st_of (e1.sub _ _ ha)), q _ H1 P1 e1 (by rw [hr.len]; rfl)⟩
theorem ev_sum {ns : List Int} (h : EvA tA δ [.lst (zs ns)]) : EvD (tCB (rSum K) tA) δ (.int ns.sum) := fun σ H HP s sl Q q =>
  h σ H HP s sl _ fun vs H1 P1 e1 r1 => by
    obtain ⟨v, rfl, a, ws, rfl, ha, hr⟩ := reps1 r1
    exact ⟨a, ns, rfl, sq_of (by rw [← reps_ints hr]; exact e1.sub _ _ ha), q _ H1 P1 e1 rfl⟩
theorem ev_max {ns : List Int} {m : Int} (h : EvA tA δ [.lst (zs ns)]) (hl : 0 < ns.length) (hm : ∀ k, k ∈ ns → (∀ y, y ∈ ns → y ≤ k) → k = m) : EvD (tCB (rMax K) tA) δ (.int m) := fun σ H HP s sl Q q =>
  h σ H HP s sl _ fun vs H1 P1 e1 r1 => by
    obtain ⟨v, rfl, a, ws, rfl, ha, hr⟩ := reps1 r1
    exact ⟨a, ns, rfl, sq_of (by rw [← reps_ints hr]; exact e1.sub _ _ ha), hl, fun k h1 h2 => q _ H1 P1 e1 (by rw [hm k h1 h2]; rfl)⟩
theorem reps_bls {H : Hp} : ∀ {ns : List Bool} {vs : List V}, Reps H (ns.map Dt.bl) vs → vs = ns.map V.bl
  | [], _, h => h
  | n :: r, vs, h => by
    obtain ⟨v, w, rfl, e2, e3⟩ := h
    rw [reps_bls (ns := r) e3]
    cases (show v = .bl n from e2)
    rfl
theorem ev_all {bs : List Bool} (h : EvA tA δ [.lst (bs.map Dt.bl)]) : EvD (tCB (rAll K) tA) δ (.bl (bs.all id)) := fun σ H HP s sl Q q =>
  h σ H HP s sl _ fun vs H1 P1 e1 r1 => by
    obtain ⟨v, rfl, a, ws, rfl, ha, hr⟩ := reps1 r1
    exact ⟨a, bs, rfl, sq_of (by rw [← reps_bls hr]; exact e1.sub _ _ ha), q _ H1 P1 e1 rfl⟩
theorem ev_tupleOf (h : EvA tA δ [.lst ds]) : EvD (tCB (fun xs H Q => ∃ p ys, xs = [.ref p] ∧ ((SqL K H p ys ∧ ∀ l, H l = none → Q (.ref l) (L2.upd H l (.tup ys))) ∨ (SqT K H p ys ∧ Q (.ref p) H))) tA) δ (.tup ds) := fun σ H HP s sl Q q =>
  h σ H HP s sl _ fun vs H1 P1 e1 r1 => by
    obtain ⟨v, rfl, a, ws, rfl, ha, hr⟩ := reps1 r1
    exact ⟨a, ws, rfl, .inl ⟨sq_of (e1.sub _ _ ha), fun l hl => q _ _ _ (e1.trans (Ext.upd e1.sub hl)) ⟨l, ws, rfl, upd_same, hr.mono (same_upd (e1.sub.free hl))⟩⟩⟩
theorem ev_intB {b : Bool} (h : EvA tA δ [.bl b]) : EvD (tCB (fun xs H Q => (∃ i, xs = [.int i] ∧ Q (.int i) H) ∨ ∃ k, xs = [.bl k] ∧ Q (.int (if k then 1 else 0)) H) tA) δ (.int (if b then 1 else 0)) := fun σ H HP s sl Q q =>
  h σ H HP s sl _ fun vs H1 P1 e1 r1 => by
    obtain ⟨v, rfl, rv⟩ := reps1 r1
    cases (show v = .bl b from rv)
    exact .inr ⟨b, rfl, q _ H1 P1 e1 rfl⟩
/-- isinstance -/
def tyD : Dt → String
  | .non => "NoneType"
  | .bl _ => "bool"
  | .int _ => "int"
  | .adr _ => "adr"
  | .tup _ => "tuple"
  | .lst _ => "list"
theorem ty_of {H HP : Hp} {d : Dt} {v : V} (s : Same HP H) (r : Rep HP d v) (h : tyD d ≠ "adr") : TyX K H v (.type (tyD d)) := by
  cases d with
  | non => cases (show v = .non from r); exact .base .non
  | bl b => cases (show v = .bl b from r); exact .base (.bl b)
  | int i => cases (show v = .int i from r); exact .base (.int i)
  | adr a => exact absurd rfl h
  | tup xs =>
    obtain ⟨a, vs, rfl, ha, _⟩ := r
    exact .base (.tup (s _ _ ha))
  | lst xs =>
    obtain ⟨a, vs, rfl, ha, _⟩ := r
    exact .base (.lst (s _ _ ha))
theorem ev_isi {n : String} {b : Bool} (ha : EvD ta δ d) (h : tyD d ≠ "adr") (hk : kitB (tyD d) n = some b) : EvD (tCB (rIsi K) (tCons ta (tCons (tC (.ty n)) tNil))) δ (.bl b) := fun σ H HP s sl Q q =>
  ha σ H HP s sl _ fun v H1 P1 e1 r1 => ⟨v, .ty n, _, _, b, rfl, .ty n, ty_of e1.sub r1 h, kit_ty hk, q _ H1 P1 e1 rfl⟩
/-- a if t else b -/
theorem ev_if {b : Bool} (h : EvB t δ b) (h1 : b = true → EvD ta δ d) (h2 : b = false → EvD tb δ d) : EvD (tIf t ta tb) δ d := fun σ H HP s sl Q q =>
  h σ H HP s sl _ fun H1 P1 e1 => by
    cases b with
    | true =>
      rw [if_pos rfl]
      exact h1 rfl σ H1 P1 e1.sub (sl.mono e1.part) Q fun v H2 P2 e2 r2 => q v H2 P2 (e1.trans e2) r2
    | false =>
      rw [if_neg Bool.false_ne_true]
      exact h2 rfl σ H1 P1 e1.sub (sl.mono e1.part) Q fun v H2 P2 e2 r2 => q v H2 P2 (e1.trans e2) r2
/-- tests -/
theorem eb_test {b : Bool} (h : EvD ta δ (.bl b)) : EvB (tTest ta) δ b := fun σ H HP s sl Q q => h σ H HP s sl _ fun v H1 P1 e1 r1 => ⟨b, r1, q H1 P1 e1⟩
theorem eb_B {b : Bool} (h : EvD ta δ (.bl b)) : EvB (tB ta) δ b := fun σ H HP s sl Q q => h σ H HP s sl _ fun v H1 P1 e1 r1 => ⟨b, r1, q H1 P1 e1⟩
theorem eb_not {b : Bool} (h : EvB t δ b) : EvB (tNot t) δ (!b) := fun σ H HP s sl Q q => h σ H HP s sl _ fun H1 P1 e1 => q H1 P1 e1
theorem eb_and {a b : Bool} (h : EvB t δ a) (h2 : a = true → EvB u δ b) : EvB (tAnd t u) δ (a && b) := fun σ H HP s sl Q q => h σ H HP s sl _ fun H1 P1 e1 => by
  cases a with
  | true =>
    rw [if_pos rfl]
    exact h2 rfl σ H1 P1 e1.sub (sl.mono e1.part) Q fun H2 P2 e2 => q H2 P2 (e1.trans e2)
  | false =>
    rw [if_neg Bool.false_ne_true]
    exact q H1 P1 e1
theorem eb_or {a b : Bool} (h : EvB t δ a) (h2 : a = false → EvB u δ b) : EvB (tOr t u) δ (a || b) := fun σ H HP s sl Q q => h σ H HP s sl _ fun H1 P1 e1 => by
  cases a with
  | true =>
    rw [if_pos rfl]
    exact q H1 P1 e1
  | false =>
    rw [if_neg Bool.false_ne_true]
    exact h2 rfl σ H1 P1 e1.sub (sl.mono e1.part) Q fun H2 P2 e2 => q H2 P2 (e1.trans e2)
theorem eb_cast {a b : Bool} (h : EvB t δ a) (e : a = b) : EvB t δ b := e ▸ h
theorem ev_andV {a : Bool} {b : Bool} (h : EvD ta δ (.bl a)) (h2 : a = true → EvD tb δ (.bl b)) : EvD (tAndV ta tb) δ (.bl (a && b)) := fun σ H HP s sl Q q => h σ H HP s sl _ fun v H1 P1 e1 r1 => ⟨a, r1, by
  cases a with
  | true =>
    rw [if_pos rfl]
    exact h2 rfl σ H1 P1 e1.sub (sl.mono e1.part) Q fun v H2 P2 e2 r2 => q v H2 P2 (e1.trans e2) r2
  | false =>
    rw [if_neg Bool.false_ne_true]
    exact q _ H1 P1 e1 rfl⟩
theorem ev_orV {a : Bool} {b : Bool} (h : EvD ta δ (.bl a)) (h2 : a = false → EvD tb δ (.bl b)) : EvD (tOrV ta tb) δ (.bl (a || b)) := fun σ H HP s sl Q q => h σ H HP s sl _ fun v H1 P1 e1 r1 => ⟨a, r1, by
  cases a with
  | true =>
    rw [if_pos rfl]
    exact q _ H1 P1 e1 rfl
  | false =>
    rw [if_neg Bool.false_ne_true]
    exact h2 rfl σ H1 P1 e1.sub (sl.mono e1.part) Q fun v H2 P2 e2 r2 => q v H2 P2 (e1.trans e2) r2⟩
theorem ev_notV {a : Bool} (h : EvD ta δ (.bl a)) : EvD (tNotV ta) δ (.bl (!a)) := fun σ H HP s sl Q q => h σ H HP s sl _ fun v H1 P1 e1 r1 => ⟨a, r1, q _ H1 P1 e1 rfl⟩
def isNon : Dt → Bool
  | .non => true
  | _ => false
theorem rep_non {H : Hp} {d : Dt} {v : V} (r : Rep H d v) : decide (v = V.non) = isNon d := by
  cases d with
  | non => cases (show v = .non from r); rfl
  | bl b => cases (show v = .bl b from r); rfl
  | int i => cases (show v = .int i from r); rfl
  | adr a => cases (show v = .ref a from r); rfl
  | tup xs =>
    obtain ⟨a, vs, rfl, _⟩ := r
    rfl
  | lst xs =>
    obtain ⟨a, vs, rfl, _⟩ := r
    rfl
theorem ev_isN (h : EvD ta δ d) : EvD (tIsN ta) δ (.bl (isNon d)) := fun σ H HP s sl Q q => h σ H HP s sl _ fun v H1 P1 e1 r1 => by
  rw [rep_non r1]
  exact q _ H1 P1 e1 rfl
end

/-! ### targets -/
section
variable {K : PySem.W.Frag} {δ δ' δ2 : De} {d : Dt} {ds : List Dt}
theorem tg_name {i : Nat} : TgD (gName i) δ d (δ.set i (some d)) := fun σ H HP v s sl r Q q => q _ (sl.set r i)
theorem tgs_nil : TgsD gNil δ [] δ := fun σ H HP vs s sl r Q q => ⟨r, q σ sl⟩
theorem tgs_cons {g : TG} {gs : TGs} (h : TgD g δ d δ2) (h2 : TgsD gs δ2 ds δ') : TgsD (gCons g gs) δ (d :: ds) δ' := fun σ H HP vs s sl r Q q => by
  obtain ⟨v, w, rfl, r1, r2⟩ := r
  exact ⟨v, w, rfl, h σ H HP v s sl r1 _ fun σ1 sl1 => h2 σ1 H HP w s sl1 r2 Q q⟩
theorem tg_tup {gs : TGs} {n : Nat} (h : TgsD gs δ ds δ') (hn : ds.length = n) : TgD (gTup K n gs) δ (.tup ds) δ' := fun σ H HP v s sl r Q q => by
  obtain ⟨a, vs, rfl, ha, hr⟩ := r
  exact ⟨a, vs, rfl, st_of (s _ _ ha), hr.len.trans hn, h σ H HP vs s sl hr Q q⟩
end

/-! ### statements -/
section
variable {K : PySem.W.Frag} {δ δ' δ2 : De} {d : Dt} {ds : List Dt} {nx nx1 : De → Prop} {rt : Dt → Prop} {te ta tb : TE} {t : TT} {a b u : TS} {g : TG}
theorem st_seq (h : StD a δ nx1 rt) (k : ∀ δ', nx1 δ' → StD u δ' nx rt) : StD (tSeq a u) δ nx rt := fun σ H HP s sl D q1 q2 =>
  h σ H HP s sl { D with nx := u D } (fun δ' σ' H' HP' n e sl' => k δ' n σ' H' HP' e.sub sl' D (fun δ2 σ2 H2 P2 n2 e2 sl2 => q1 δ2 σ2 H2 P2 n2 (e.trans e2) sl2) fun d v H2 P2 r e2 rv => q2 d v H2 P2 r (e.trans e2) rv) q2
theorem st_le (h : StD a δ' nx rt) (e : Le δ' δ) : StD a δ nx rt := fun σ H HP s sl D q1 q2 => h σ H HP s (sl.le e) D q1 q2
theorem st_imp {rt1 : Dt → Prop} (h : StD a δ nx1 rt1) (h1 : ∀ δ, nx1 δ → nx δ) (h2 : ∀ d, rt1 d → rt d) : StD a δ nx rt := fun σ H HP s sl D q1 q2 => h σ H HP s sl D (fun δ' σ' H' HP' n => q1 δ' σ' H' HP' (h1 _ n)) fun d v H' HP' r => q2 d v H' HP' (h2 _ r)
theorem st_next (h : nx δ) : StD tNext δ nx rt := fun σ H HP s sl D q1 _ => q1 δ σ H HP h (.refl s) sl
theorem st_asg1 (h : EvD te δ d) (hg : TgD g δ d δ') (hn : nx δ') : StD (tAsg te g) δ nx rt := fun σ H HP s sl D q1 _ =>
  h σ H HP s sl _ fun v H1 P1 e1 r1 => hg σ H1 P1 v e1.sub (sl.mono e1.part) r1 _ fun σ' sl' => q1 δ' σ' H1 P1 hn e1 sl'
theorem st_asg (h : EvD te δ d) (hg : TgD g δ d δ') (k : StD u δ' nx rt) : StD (tSeq (tAsg te g) u) δ nx rt := st_seq (nx1 := fun x => x = δ') (st_asg1 h hg rfl) fun _ e => e ▸ k
theorem st_set {i : Nat} (h : EvD te δ d) (k : StD u (δ.set i (some d)) nx rt) : StD (tSeq (tAsg te (gName i)) u) δ nx rt := st_asg h tg_name k
/-- a, b = x, y with two names -/
theorem st_par1 {i j : Nat} {tA : TA} {d2 : Dt} (h : EvA tA δ [d, d2]) (hn : nx ((δ.set i (some d)).set j (some d2))) : StD (tPar i j tA) δ nx rt := fun σ H HP s sl D q1 _ =>
  h σ H HP s sl _ fun vs H1 P1 e1 r1 => by
    obtain ⟨v, w, rfl, rv, rw'⟩ := reps2 r1
    exact ⟨v, w, rfl, q1 _ _ H1 P1 hn e1 (((sl.mono e1.part).set rv i).set rw' j)⟩
theorem st_par {i j : Nat} {tA : TA} {d2 : Dt} (h : EvA tA δ [d, d2]) (k : StD u ((δ.set i (some d)).set j (some d2)) nx rt) : StD (tSeq (tPar i j tA) u) δ nx rt := st_seq (nx1 := fun x => x = (δ.set i (some d)).set j (some d2)) (st_par1 h rfl) fun _ e => e ▸ k
theorem st_expr (h : EvD te δ d) (k : StD u δ nx rt) : StD (tSeq (tDrop te) u) δ nx rt := fun σ H HP s sl D q1 q2 =>
  h σ H HP s sl _ fun v H1 P1 e1 r1 => k σ H1 P1 e1.sub (sl.mono e1.part) D (fun δ2 σ2 H2 P2 n2 e2 sl2 => q1 δ2 σ2 H2 P2 n2 (e1.trans e2) sl2) fun d v H2 P2 r e2 rv => q2 d v H2 P2 r (e1.trans e2) rv
theorem st_ret (h : EvD te δ d) (hr : rt d) : StD (tRet te) δ nx rt := fun σ H HP s sl D _ q2 => h σ H HP s sl _ fun v H1 P1 e1 r1 => q2 d v H1 P1 hr e1 r1
theorem st_if {c : Bool} (h : EvB t δ c) (h1 : c = true → StD a δ nx rt) (h2 : c = false → StD b δ nx rt) : StD (tIfS t a b) δ nx rt := fun σ H HP s sl D q1 q2 =>
  h σ H HP s sl _ fun H1 P1 e1 => by
    cases c with
    | true =>
      rw [if_pos rfl]
      exact h1 rfl σ H1 P1 e1.sub (sl.mono e1.part) D (fun δ2 σ2 H2 P2 n2 e2 sl2 => q1 δ2 σ2 H2 P2 n2 (e1.trans e2) sl2) fun d v H2 P2 r e2 rv => q2 d v H2 P2 r (e1.trans e2) rv
    | false =>
      rw [if_neg Bool.false_ne_true]
      exact h2 rfl σ H1 P1 e1.sub (sl.mono e1.part) D (fun δ2 σ2 H2 P2 n2 e2 sl2 => q1 δ2 σ2 H2 P2 n2 (e1.trans e2) sl2) fun d v H2 P2 r e2 rv => q2 d v H2 P2 r (e1.trans e2) rv
/-- the test fails, no else -/
theorem st_ifF (h : EvB t δ false) (k : StD u δ nx rt) : StD (tSeq (tIfS t a tNext) u) δ nx rt := st_seq (nx1 := fun x => x = δ) (st_if h (fun z => nomatch z) fun _ => st_next rfl) fun _ e => e ▸ k
/-- for over a list -/
theorem st_forL {tl : TE} (h : EvD tl δ (.lst ds)) (Pv : Nat → De → Prop) (h0 : Pv 0 δ) (hs : ∀ i d δ1, ds[i]? = some d → Pv i δ1 → ∃ δ2, TgD g δ1 d δ2 ∧ StD a δ2 (Pv (i + 1)) rt) (hd : ∀ δ1, Pv ds.length δ1 → StD u δ1 nx rt) : StD (tSeq (tFor (iList K tl) g a) u) δ nx rt := fun σ H HP s sl D q1 q2 =>
  h σ H HP s sl _ fun v H1 P1 e1 r1 => by
    obtain ⟨p, vs, rfl, hp, hr⟩ := r1
    refine ⟨p, rfl, ⟨vs, sq_of (e1.sub _ _ hp)⟩, for_list (xs := vs) (fun i σ' H' => ∃ δ' P', Pv i δ' ∧ Ext H1 P1 H' P' ∧ Sl P' σ' δ') ⟨δ, P1, h0, .refl e1.sub, sl.mono e1.part⟩ (fun i σ' H' _ hh => ?_) (fun i x σ' H' hx hh => ?_) fun σ' H' hh => ?_⟩
    · obtain ⟨δ', P', _, e, _⟩ := hh
      exact sq_of (e.big _ _ (e1.sub _ _ hp))
    · obtain ⟨δ', P', p1, e, sl'⟩ := hh
      obtain ⟨d, hd', rd⟩ := hr.get' hx
      obtain ⟨δ2, tg, st⟩ := hs i d δ' hd' p1
      refine tg σ' H' P' x e.sub sl' (rd.mono e.part) _ fun σ2 sl2 => ?_
      refine st σ2 H' P' e.sub sl2 _ (fun δ3 σ3 H3 P3 n3 e3 sl3 => ⟨δ3, P3, n3, e.trans e3, sl3⟩) fun d v H3 P3 r3 e3 rv3 => q2 d v H3 P3 r3 ((e1.trans e).trans e3) rv3
    · obtain ⟨δ', P', p1, e, sl'⟩ := hh
      rw [hr.len] at p1
      exact hd δ' p1 σ' H' P' e.sub sl' D (fun δ2 σ2 H2 P2 n2 e2 sl2 => q1 δ2 σ2 H2 P2 n2 ((e1.trans e).trans e2) sl2) fun d v H2 P2 r e2 rv => q2 d v H2 P2 r ((e1.trans e).trans e2) rv
theorem st_forT {tl : TE} (h : EvD tl δ (.tup ds)) (Pv : Nat → De → Prop) (h0 : Pv 0 δ) (hs : ∀ i d δ1, ds[i]? = some d → Pv i δ1 → ∃ δ2, TgD g δ1 d δ2 ∧ StD a δ2 (Pv (i + 1)) rt) (hd : ∀ δ1, Pv ds.length δ1 → StD u δ1 nx rt) : StD (tSeq (tFor (iTup K tl) g a) u) δ nx rt := fun σ H HP s sl D q1 q2 =>
  h σ H HP s sl _ fun v H1 P1 e1 r1 => by
    obtain ⟨p, vs, rfl, hp, hr⟩ := r1
    refine ⟨p, rfl, ⟨vs, st_of (e1.sub _ _ hp)⟩, for_tup (xs := vs) (fun i σ' H' => ∃ δ' P', Pv i δ' ∧ Ext H1 P1 H' P' ∧ Sl P' σ' δ') ⟨δ, P1, h0, .refl e1.sub, sl.mono e1.part⟩ (fun i σ' H' _ hh => ?_) (fun i x σ' H' hx hh => ?_) fun σ' H' hh => ?_⟩
    · obtain ⟨δ', P', _, e, _⟩ := hh
      exact st_of (e.big _ _ (e1.sub _ _ hp))
    · obtain ⟨δ', P', p1, e, sl'⟩ := hh
      obtain ⟨d, hd', rd⟩ := hr.get' hx
      obtain ⟨δ2, tg, st⟩ := hs i d δ' hd' p1
      refine tg σ' H' P' x e.sub sl' (rd.mono e.part) _ fun σ2 sl2 => ?_
      refine st σ2 H' P' e.sub sl2 _ (fun δ3 σ3 H3 P3 n3 e3 sl3 => ⟨δ3, P3, n3, e.trans e3, sl3⟩) fun d v H3 P3 r3 e3 rv3 => q2 d v H3 P3 r3 ((e1.trans e).trans e3) rv3
    · obtain ⟨δ', P', p1, e, sl'⟩ := hh
      rw [hr.len] at p1
      exact hd δ' p1 σ' H' P' e.sub sl' D (fun δ2 σ2 H2 P2 n2 e2 sl2 => q1 δ2 σ2 H2 P2 n2 ((e1.trans e).trans e2) sl2) fun d v H2 P2 r e2 rv => q2 d v H2 P2 r ((e1.trans e).trans e2) rv
/-- while -/
theorem st_while (W : Nat → De → Prop) (m0 : Nat) (h0 : W m0 δ) (hs : ∀ m δ1, W m δ1 → ∃ c, EvB t δ1 c ∧ (c = true → StD a δ1 (fun δ2 => ∃ m', m' < m ∧ W m' δ2) rt) ∧ (c = false → StD u δ1 nx rt)) : StD (tSeq (tWhile t a) u) δ nx rt := fun σ H HP s sl D q1 q2 => by
  refine ⟨fun m σ' H' => ∃ δ' P', W m δ' ∧ Ext H HP H' P' ∧ Sl P' σ' δ', ⟨m0, δ, HP, h0, .refl s, sl⟩, ?_⟩
  rintro m σ1 H1 ⟨δ1, P1, w1, e1, sl1⟩
  obtain ⟨c, hc, h1, h2⟩ := hs m δ1 w1
  refine hc σ1 H1 P1 e1.sub sl1 _ fun H2 P2 e2 => ?_
  have e12 := e1.trans e2
  cases c with
  | true =>
    rw [if_pos rfl]
    refine ⟨fun σ' H' => ∃ m', m' < m ∧ ∃ δ' P', W m' δ' ∧ Ext H HP H' P' ∧ Sl P' σ' δ', fun σ' H' ⟨m', l, δ', P', w', e', s'⟩ => ⟨m', l, δ', P', w', e', s'⟩, ?_⟩
    exact h1 rfl σ1 H2 P2 e2.sub (sl1.mono e2.part) _ (fun δ3 σ3 H3 P3 ⟨m', l, w3⟩ e3 sl3 => ⟨m', l, δ3, P3, w3, e12.trans e3, sl3⟩) fun d v H3 P3 r3 e3 rv3 => q2 d v H3 P3 r3 (e12.trans e3) rv3
  | false =>
    rw [if_neg Bool.false_ne_true]
    exact h2 rfl σ1 H2 P2 e2.sub (sl1.mono e2.part) D (fun δ3 σ3 H3 P3 n3 e3 sl3 => q1 δ3 σ3 H3 P3 n3 (e12.trans e3) sl3) fun d v H3 P3 r3 e3 rv3 => q2 d v H3 P3 r3 (e12.trans e3) rv3
end

/-! ### a def -/
def startD (N : List Str) (ds : List Dt) : De := ds.map some ++ List.replicate (N.length - ds.length) Option.none
theorem sl_start {H : Hp} {N : List Str} {ds : List Dt} {vs : List V} (h : Reps H ds vs) : Sl H (L2.start N vs) (startD N ds) := by
  have hl := h.len
  refine ⟨by simp [L2.start, startD, hl], fun i d e => ?_⟩
  unfold startD at e
  unfold L2.start
  by_cases hi : i < ds.length
  · rw [List.getElem?_append_left (by simpa using hi), List.getElem?_map] at e
    rw [List.getElem?_append_left (by simpa [hl] using hi), List.getElem?_map]
    cases q : ds[i]? with
    | none => rw [q] at e; cases e
    | some x =>
      rw [q] at e
      cases e
      obtain ⟨v, h1, h2⟩ := h.get q
      exact ⟨v, by rw [h1]; rfl, h2⟩
  · rw [List.getElem?_append_right (by simpa using Nat.le_of_not_lt hi), List.getElem?_replicate] at e
    split at e <;> cases e
section
variable {P : Program} {w : World} {K : PySem.W.Frag} {mg : Str → Option Value} {base : Heap}
theorem ok_def {x qual : Str} {st : Stmt} {f : Addr} {fd : FuncData} {N ps : List Str} {k : Nat} {pre : List Dt → Dt → Prop} (F : Fun K x qual st f fd) (S : FnScope N ps (defScope st)) (len : ∀ ds d, pre ds d → ds.length = ps.length)
    (hbody : ∀ (cdv : Value) (A : Around) (outer : List Env) (s : Shared) (H : Hp) (E : XK), Room k (A.deeper (envOfC qual (defScope st) s.heap.objs.size f cdv)) →
      ∃ t, PSs (cxOf CX0 P w K mg base N qual (defScope st) f cdv A outer s H E).nox (defBody st) t ∧ ∀ ds d, pre ds d → StD t (startD N ds) (fun _ => d = .non) (fun r => r = d)) : FnOk P w K mg base CX0 (k + 1) f fd ps (spP pre) := by
  refine F.ok S (fun vs H Q E h => ?_) (fun cdv A outer s H vs Q E hr h => ?_)
  · obtain ⟨HP, ds, d, _, hr, hp, _⟩ := h
    rw [hr.len, len ds d hp]
  · obtain ⟨HP, ds, d, hs, hrep, hp, q⟩ := h
    obtain ⟨t, ht, hst⟩ := hbody cdv A outer s H E hr
    exact ⟨t, ht, hst ds d hp _ H HP hs (sl_start hrep) _ (fun δ' σ' H' HP' n e sl => q .non H' HP' e (by rw [n]; rfl)) fun d' v H' HP' r e rv => q v H' HP' e (r ▸ rv)⟩
end
end Cw
end
section
set_option linter.all false
set_option maxRecDepth 100000
set_option maxHeartbeats 1000000
set_option exponentiation.threshold 100000
namespace Cw
open PySem PySem.Spec PyProof.Rows L2

/-! ### // by what is not 0, ** -/
def CDivP (i j : Int) : Prop := j ≠ 0 ∧ Builtin.divisionGoesByPylong i j = false
def CPowP (i j : Int) : Prop := 0 ≤ j ∧ (Builtin.Int.intBits i : Int) * j ≤ 2 ^ 27
section
variable {X : Cx}
theorem op_fdivP : OpR X (binaryOp .FloorDiv) (rI CDivP fun i j => .int (i.fdiv j)) := opI fun _ _ _ _ _ _ _ hc q => floordiv_int hc.1 q (.inl hc.2)
theorem op_powP : OpR X (binaryOp .Pow) (rI CPowP fun i j => .int (i ^ j.toNat)) := opI fun _ _ _ _ _ _ _ hc q => pow_int hc.1 hc.2 q
end
theorem log2_lt {n b : Nat} (h : n < 2 ^ b) (hb : 0 < b) : n.log2 < b := by
  by_cases h0 : n = 0
  · subst h0
    show Nat.log2 0 < b
    have : Nat.log2 0 = 0 := by decide
    omega
  · exact (Nat.log2_lt h0).mpr h
theorem div_small {i j : Int} (h : j ≠ 0) (hb : j.natAbs < 2 ^ 9000) : CDivP i j := ⟨h, PyProof.noPylong_of_log2 (log2_lt hb (by decide))⟩
/-- a quotient that isn't great -/
theorem div_quot {i j k : Int} (h : j ≠ 0) (e : i = j * k) (hk : k.natAbs < 2 ^ 4000) : CDivP i j := by
  refine ⟨h, ?_⟩
  have hj : 0 < j.natAbs := Int.natAbs_pos.mpr h
  have hlj : j.natAbs < 2 ^ (j.natAbs.log2 + 1) := Nat.lt_log2_self
  have hi : i.natAbs < 2 ^ (j.natAbs.log2 + 1 + 4000) := by
    rw [e, Int.natAbs_mul, Nat.pow_add]
    exact Nat.mul_lt_mul'' hlj hk
  have hli := log2_lt hi (by omega)
  have key : (if i == 0 then 0 else i.natAbs.log2 / 30 + 1) ≤ (if j == 0 then 0 else j.natAbs.log2 / 30 + 1) + 150 := by
    have hj0 : (j == 0) = false := by simpa using h
    rw [hj0]
    simp only [Bool.false_eq_true, if_false]
    split <;> omega
  show (_ && decide ((if i == 0 then 0 else i.natAbs.log2 / 30 + 1) > (if j == 0 then 0 else j.natAbs.log2 / 30 + 1) + 150)) = false
  rw [decide_eq_false (Nat.not_lt.mpr key), Bool.and_false]
theorem pow_ok {i : Int} {n b : Nat} (hb : i.natAbs < 2 ^ b) (h0 : 0 < b) (h : b * n ≤ 2 ^ 27) : CPowP i (n : Int) := by
  refine ⟨Int.natCast_nonneg _, ?_⟩
  have hl := log2_lt hb h0
  have hi : Builtin.Int.intBits i ≤ b := by
    unfold Builtin.Int.intBits
    split <;> omega
  have h1 : Builtin.Int.intBits i * n ≤ b * n := Nat.mul_le_mul_right _ hi
  have h2 : Builtin.Int.intBits i * n ≤ 2 ^ 27 := Nat.le_trans h1 h
  exact_mod_cast h2
/-- a product below 2 ^ 900000 -/
theorem mul_ok {i j : Int} {a b : Nat} (ha : i.natAbs < 2 ^ a) (hb : j.natAbs < 2 ^ b) (h : a + b ≤ 999998) : CMulW i j := by
  refine wide_mul (a := a + 1) (b := b + 1) ?_ ?_ (by omega) (by omega) (by omega)
  · exact Nat.lt_of_lt_of_le ha (Nat.pow_le_pow_right (by decide) (by omega))
  · exact Nat.lt_of_lt_of_le hb (Nat.pow_le_pow_right (by decide) (by omega))

/-! ### enumerate(tuple) -/
theorem meets_enumerate_newB1 {v : Value} {o : Obj} {H : Heap → Prop} (B : Begins v o H) :
    Meets (Builtin.«enumerate.__new__» ⟨[.type "enumerate", v], []⟩) (fun _ R s => H s.heap ∧
      R (.ok (.ret (.ref (s.heap.push o).objs.size))) { s with heap := (s.heap.push o).push { cls := .type "enumerate", data := .fields #[.none, .bool false, .ref s.heap.objs.size, rawInt 0, .none, .none] } }) :=
  .of_wp fun prog w A R s h => by
    obtain ⟨hp, g, d, tk, os⟩ := s; obtain ⟨h1, h⟩ := h
    have hsub := sub_enumerate
    have q1 : ∀ {A' : Around} {E : Value → Shared → Prop} {Q : Value → Shared → Prop}, Q (.ref hp.objs.size) ⟨hp.push o, g, d, tk, os⟩ → wpAny (model prog w) A' (pyIter v) Q E ⟨hp, g, d, tk, os⟩ :=
      fun q => B.iter prog w _ _ ⟨hp, g, d, tk, os⟩ _ h1 q
    wp_walk using q1
    refine wpAny_stack_any fun st => wpAny_pure ?_
    split
    · rename_i c _ _ _ _ _
      cases (c == Value.type "enumerate")
      · wp_walk using q1
        exact ⟨_, rfl, h⟩
      · wp_walk using q1
        exact ⟨_, rfl, h⟩
    · wp_walk using q1
      exact ⟨_, rfl, h⟩
section
variable {prog : Program} {w : World} {A : Around} {E : Value → Shared → Prop} {s : Shared}
theorem enum_begins1 {v : Value} {o : Obj} {H : Heap → Prop} {Q : Value → Shared → Prop} (B : Begins v o H) (h1 : H s.heap)
    (h : ∀ h', IsEnum h' (s.heap.objs.size + 1) s.heap.objs.size 0 .none → h'.get? s.heap.objs.size = some o → h'.objs.size = s.heap.objs.size + 2 →
      (∀ b o, s.heap.get? b = some o → h'.get? b = some o) → Q (.ref (s.heap.objs.size + 1)) { s with heap := h' }) :
    wpAny (model prog w) A (call (.type "enumerate") [v]) Q E s := by
  refine callType_new F.called_enumerate (by decide) (F.typeCall_enumerate_1 _) (F.newCall_enumerate_1 _) (fun obj => F.args_object_init_2 obj _) F.entry_enumerate_new
    (meets_enumerate_newB1 B) ⟨h1, ?_⟩
  have hz : (s.heap.push o).objs.size = s.heap.objs.size + 1 := Heap.size_push ..
  show _ ∧ _
  rw [hz]
  have he : IsEnum ((s.heap.push o).push { cls := .type "enumerate", data := .fields #[.none, .bool false, .ref s.heap.objs.size, rawInt 0, .none, .none] }) (s.heap.objs.size + 1) s.heap.objs.size 0 .none := by
    have := Heap.get?_push_size (s.heap.push o) (o := { cls := .type "enumerate", data := .fields #[.none, .bool false, .ref s.heap.objs.size, rawInt 0, .none, .none] }) rfl
    rw [hz] at this; exact this
  refine ⟨⟨_, he, rfl⟩, h _ he (Heap.get?_push_of_some _ (Heap.get?_push_size _ B.free)) (by rw [Heap.size_push, hz]) fun b o x => Heap.get?_push_of_some _ (Heap.get?_push_of_some _ x)⟩
end
/-- the tuple at a, each item in a new pair -/
def Iet (K : PySem.W.Frag) (a : Addr) : It :=
  ⟨fun i H => ∃ (xs : List V) (x : V), SqT K H a xs ∧ xs[i]? = some x, fun i H v H' => ∃ T x, v = .ref T ∧ H T = none ∧ H' = upd H T (.tup [.int (i : Nat), x]) ∧ ∀ xs, SqT K H a xs → xs[i]? = some x, fun i H => ∃ xs : List V, SqT K H a xs ∧ xs.length = i⟩
theorem turn_enumT {P : Program} {w : World} {K : PySem.W.Frag} {elts : List Expr} {kk : Nat} {tpos : Pos} (a e it : Addr) (hai : a ≠ it) (hae : a ≠ e) :
    Turn P w K (.Tuple elts kk tpos) (Iet K a) [e, it] e (fun i h => (∃ old, IsEnum h e it ((i : Nat) : Int) old) ∧ h.IsTupleIter it a i ∧ e ≠ it) where
  mem := by simp
  obj := fun i h st b hb => by
    obtain ⟨⟨old, he⟩, ⟨o, ho, hc, hd⟩, _⟩ := st
    have e' : b = e ∨ b = it := by simpa using hb
    rcases e' with z | z
    · rw [z]; exact ⟨_, he, fun v q => nomatch q⟩
    · rw [z]; exact ⟨o, ho, fun v q => by rw [hd] at q; cases q⟩
  keep := fun i h h' st k => let ⟨⟨old, he⟩, hi, hne⟩ := st; ⟨⟨old, k e (by simp) _ he⟩, hi.at fun o q => k it (by simp) o q, hne⟩
  item := by
    intro X hP hw hK hc i pins s σ H E I hf st hg
    subst hP hw hK
    obtain ⟨⟨old, he⟩, hit, hne⟩ := st
    obtain ⟨xs, x, hq, hx⟩ := hg
    obtain ⟨its, rv, p, hz⟩ := I.tuple hq
    obtain ⟨u, hu, ru⟩ := rv.get hx
    have hel : e < s.heap.objs.size := Heap.lt_size he
    have hil : it < s.heap.objs.size := by obtain ⟨_, q, _⟩ := hit; exact Heap.lt_size q
    have hlt : i < its.toArray.size := by
      have := (List.getElem?_eq_some_iff.mp hu).1
      simpa using this
    refine wpAny_pyNext_enum_itemD (Draws.tuple (prog := X.prog) (w := X.w) (A := X.A.in1) (I.ok.hd hc) it a hai its.toArray) he ⟨hit, p⟩ hlt hne (by simp [hne, Ne.symm hae]) fun u' h' tk hP ho hit' hT hsz hk => ?_
    have eu : u' = u := by
      have h1 : its.toArray[i]? = some u' := hP
      have h2 : its.toArray[i]? = some u := by simpa using hu
      rw [h1] at h2
      exact Option.some.inj h2
    subst eu
    refine ⟨_, rfl, wpAny_letOwnedTupleGo_enum (s := { s with heap := h', toks := tk + 1 }) ho fun h'' he' sb => ?_⟩
    have hT2 : h''.get? s.heap.objs.size = some { cls := .type "tuple", data := .seq #[.int i tk, u'] } := (sb.2 _ (Nat.ne_of_gt hel)).trans hT
    have new : ObjOk X.prog X.w (upd H s.heap.objs.size (.tup [.int (i : Nat), x])) h'' s.heap.objs.size (.tup [.int (i : Nat), x]) :=
      ⟨by show 2 ≤ sizeLine; decide, [.int i tk, u'], .cons ⟨_, rfl⟩ (.cons ru .nil), ⟨_, hT2, rfl, _, rfl⟩⟩
    have I1 : Inv X pins σ (upd H s.heap.objs.size (.tup [.int (i : Nat), x])) { s with heap := h'', toks := tk + 1 } :=
      I.turnedNew (ch := [e, it]) (fun b ob hb q => (sb.2 b (fun z => hb (by simp [z]))).trans (hk b ob (fun z => hb (by simp [z])) (fun z => hb (by simp [z])) q)) hf (Nat.le_refl _) new
    refine ⟨.ref s.heap.objs.size, _, I1, rfl, ⟨_, x, rfl, I.hok.fresh (Nat.le_refl _), rfl, fun ys hy => by rw [I.tuple_inj hy hq]; exact hx⟩, ⟨⟨u', ?_⟩, hit'.1.at fun o q => (sb.2 it (Ne.symm hne)).trans q, hne⟩, fun b hb => ?_⟩
    · have e1 : ((i + 1 : Nat) : Int) = (i : Int) + 1 := by omega
      rw [e1]; exact he'
    · have hb' : b < s.heap.objs.size := by
        have e' : b = e ∨ b = it := by simpa using hb
        rcases e' with z | z
        · rw [z]; exact hel
        · rw [z]; exact hil
      rw [upd_ne (Nat.ne_of_lt hb')]
      exact (hf b hb).1
  done := by
    intro X hP hw hK hc i pins s σ H E I hf st hg
    subst hP hw hK
    obtain ⟨⟨old, he⟩, hit, hne⟩ := st
    obtain ⟨xs, hq, hx⟩ := hg
    obtain ⟨its, rv, p, hz⟩ := I.tuple hq
    obtain ⟨f0, f1, f2, f3, f4, f5⟩ := hf it (by simp)
    have hl := rv.length
    have D0 := Draws.tuple (prog := X.prog) (w := X.w) (A := X.A.in1) (I.ok.hd hc) it a hai its.toArray
    have hn : its.toArray.size = i := by simp; omega
    rw [← hn] at hit
    exact wpAny_pyNext_enum_endD D0 he ⟨hit, p⟩ fun h' eb => ⟨rfl, I.turned (t' := s.toks) (fun b o hb q => eb b o hb q) f0 f1 f3 f4 f5⟩
  self := fun A i s Q E st h => let ⟨⟨_, he⟩, _⟩ := st; wpAny_pyIter_enum he h
def iEnumT (K : PySem.W.Frag) (ta : TA) : TI := fun σ H R => ta σ H fun vs H1 => ∃ a xs, vs = [.ref a] ∧ SqT K H1 a xs ∧ R (Iet K a) H1
theorem pi_enumT {X : Cx} {e : Expr} {ta : TA} {p pos tpos : Pos} {elts : List Expr} {kk : Nat} (hg : Gl X "enumerate") (hm : X.mg "enumerate" = none) (ha : PA X [e] ta) (hs : starEach [e] X.env = [(false, eval e X.env)] := by rfl) :
    PI X (.Tuple elts kk tpos) (.Call (.Name "enumerate" p) [e] [] pos) (iEnumT X.K ta) := by
  refine ⟨fun pins s σ H R I h => ?_⟩
  refine Call_ (ld_blt I hg hm boot_enumerate (PyProof.Rows.callWith_type1 (thn (ha.run pos pins s σ H _ I h) fun us s1 ⟨vs, H1, I1, r1, q1⟩ => ?_) hs rfl))
  obtain ⟨a, xs, ex, hq, q⟩ := q1
  subst ex
  cases r1 with
  | cons r rr =>
    cases rr
    cases r
    obtain ⟨its, rv, p', hz⟩ := I1.tuple hq
    have hal : a < s1.heap.objs.size := by obtain ⟨o, ho, _⟩ := p'; exact Heap.lt_size ho
    refine enum_begins1 (begins_tuple a its.toArray) p' fun h' he hit hsz hk => wpAny_pyIter_enum he ?_
    have I2 : Inv X pins σ H1 { s1 with heap := h' } := I1.kept (t' := s1.toks) hk
    refine ⟨s1.heap.objs.size + 1, [s1.heap.objs.size + 1, s1.heap.objs.size], _, _, H1, rfl, I2, turn_enumT a (s1.heap.objs.size + 1) s1.heap.objs.size (Nat.ne_of_lt hal) (Nat.ne_of_lt (Nat.lt_succ_of_lt hal)), ⟨⟨.none, he⟩, ⟨_, hit, rfl, rfl⟩, Nat.succ_ne_self _⟩, fun b hb => ?_, q⟩
    have e' : b = s1.heap.objs.size + 1 ∨ b = s1.heap.objs.size := by simpa using hb
    have hle : s1.heap.objs.size ≤ b := by
      rcases e' with z | z
      · rw [z]; exact Nat.le_add_right _ _
      · rw [z]; exact Nat.le_refl _
    exact I1.fpOk hle (I1.hok.fresh hle)
theorem walk_enumT {K : PySem.W.Frag} {a : Addr} {xs : List V} : Walk (Iet K a) xs.length (fun H => SqT K H a xs) (YPair (fun i => some (.int (i : Nat))) (fun i => xs[i]?)) := by
  refine ⟨fun i _ hi q => ⟨xs, xs[i], q, by simp [hi]⟩, fun _ q => ⟨xs, q, rfl⟩, fun i H v H' _ q y => ?_⟩
  obtain ⟨T, x, h1, h2, h3, h4⟩ := y
  exact ⟨T, .int (i : Nat), x, h1, h2, h3, rfl, h4 xs q⟩

/-! ### r, *some = a list -/
theorem walksL {prog : Program} {w : World} {A : Around} (hh : A.handled = none) (it l : Addr) (hne : l ≠ it) (items : Array Value) (k n : Nat) (hn : k + n = items.size) :
    WalksS prog w A it [it, l] [it] (fun a b => b = a) n (fun i v => items[k + i]? = some v) (fun i s => s.heap.IsListIter it l (k + i) ∧ s.heap.IsList l items) where
  sub := fun b hb => by simp at hb; simp [hb]
  grefl := fun _ => rfl
  gtrans := fun _ _ _ a b => b.trans a
  frame := fun i s h' tk st _ hk => ⟨st.1.at fun o e => hk it (by simp) o e, st.2.at fun o e => hk l (by simp) o e⟩
  item := fun i s Q E hi st hQ => by
    have hx : items[k + i]? = some items[k + i] := by simp
    refine wpAny_pyNext_list_item st.1 st.2 hx fun h' st' sb => ?_
    exact hQ _ _ hx ⟨st', st.2.extBut sb.extBut hne⟩ ⟨fun b o hb e => (sb.2 b (by simpa using hb)).trans e, rfl, rfl, rfl, Nat.le_refl _⟩
  done := fun s Q E st hQ => by
    refine wpAny_pyNext_list_end hh st.1 st.2 (Array.getElem?_eq_none (Nat.le_of_eq hn.symm)) fun h' eb => ?_
    exact hQ _ ⟨fun b o hb e => eb b o (by simpa using hb) e, rfl, rfl, rfl, Nat.le_refl _⟩
  self := fun i s Q E st h => wpAny_pyIter_listiter st.1 h
section
variable {prog : Program} {w : World} {A : Around} {E : Value → Shared → Prop} {s : Shared}
theorem unpack_star {l : Addr} {x : Value} {xs : List Value} {Q : List Value → Shared → Prop} (hh : A.handled = none) (hl : s.heap.IsList l (x :: xs).toArray) (hz : (x :: xs).length ≤ sizeLine)
    (hQ : ∀ (h2 : Heap) (tk : Nat), (∀ b o, s.heap.get? b = some o → h2.get? b = some o) → Q [x, .ref h2.objs.size] { s with heap := h2.push { cls := .type "list", data := .seq xs.toArray }, toks := tk }) :
    wpAny (model prog w) A (unpackItems (.ref l) 2 (some 1)) Q E s := by
  have hlt : l ≠ s.heap.objs.size := by obtain ⟨o, ho, _⟩ := hl; exact Nat.ne_of_lt (Heap.lt_size ho)
  have hls : l < s.heap.objs.size := by obtain ⟨o, ho, _⟩ := hl; exact Heap.lt_size ho
  unfold unpackItems
  refine wpAny_bind ?_
  unfold notIterableAtAll
  refine wpAny_bind (wpAny_specialOf hl.typeIs slot_list_iter.lookup ?_)
  refine wpAny_pure ?_
  simp only [Bool.false_eq_true, if_false]
  refine wpAny_bind (wpAny_holding (wpAny_pyIter_list hl ?_))
  show wpAny _ _ (holding _ (draw _ (0 + 1)) >>= _) _ _ _
  refine wpAny_bind (wpAny_holding ?_)
  show wpAny _ _ (pyNext _ >>= _) _ _ _
  refine wpAny_bind (wpAny_pyNext_list_item ⟨_, Heap.get?_push_size _ rfl, rfl, rfl⟩ (hl.push _) (x := x) rfl fun h1 it1 sb1 => ?_)
  have hl1 : Heap.IsList h1 l (x :: xs).toArray := (hl.push _).extBut sb1.extBut hlt
  refine wpAny_bind (wpAny_holding (wpAny_pure (wpAny_pure ?_)))
  rw [if_neg (by simp)]
  have hsz1 : h1.objs.size = s.heap.objs.size + 1 := by rw [sb1.1]; exact Heap.size_push ..
  refine wpAny_bind (wpAny_holding (wpAny_collect_iter (T := "list_iterator") (.inr (.inr (.inl rfl))) (walksL (A := A.in1) hh s.heap.objs.size l hlt (x :: xs).toArray 1 xs.length (by simp; omega))
    (fun i s2 st => by obtain ⟨o, ho, hc, _⟩ := st.1; exact ⟨o, ho, hc⟩) ⟨it1, hl1⟩ (fun b hb => ?_) (by simp) (fun s2 acc mv io => ?_) (by simp at hz; omega)))
  · show b < h1.objs.size
    rw [hsz1]
    rcases List.mem_cons.mp hb with z | z
    · rw [z]; exact Nat.lt_succ_self _
    · rw [List.mem_singleton.mp z]; exact Nat.lt_succ_of_lt hls
  · have hacc : acc.toList = xs := by
      refine List.ext_getElem? fun j => ?_
      have hs := io.1
      by_cases hj : j < acc.size
      · have h2 : (x :: xs).toArray[1 + j]? = some acc[j] := io.2 j acc[j] (by simp [hj])
        have h3 : xs[j]? = some acc[j] := by
          rw [Nat.add_comm] at h2
          simpa using h2
        rw [h3]
        simp [hj]
      · rw [List.getElem?_eq_none (by simpa using Nat.le_of_not_lt hj), List.getElem?_eq_none (by omega)]
    rw [hacc, if_neg (by omega)]
    have ht : List.take (xs.length - (2 - 1 - 1)) xs = xs := List.take_of_length_le (by omega)
    have hd : List.drop (xs.length - (2 - 1 - 1)) xs = [] := List.drop_of_length_le (by omega)
    rw [ht, hd]
    refine wpAny_bind (wpAny_newObj_type (wpAny_pure ?_) (by show xs.length ≤ sizeLine; exact Nat.le_trans (Nat.le_succ _) hz))
    obtain ⟨hp2, g2, d2, tk2, os2⟩ := s2
    obtain ⟨m1, m2, m3, m4, m5⟩ := mv
    cases m2
    cases m3
    cases m4
    refine hQ hp2 tk2 fun b o e => ?_
    have hb : b ≠ s.heap.objs.size := Nat.ne_of_lt (Heap.lt_size e)
    exact m1 b o (by simpa using hb) ((sb1.2 b hb).trans (Heap.get?_push_of_some _ e))
end
section
variable {X : Cx}
/-- r, *some = a list with one item or more -/
def gStar (i j : Nat) : TG := fun v σ H Q => ∃ l x xs, v = .ref l ∧ H l = some (.lst (x :: xs)) ∧ ∀ p, H p = none → Q ((σ.set i (some x)).set j (some (.ref p))) (upd H p (.lst xs))
theorem pg_star {i j : Nat} {x y : Str} {px py ps pos : Pos} {k : Nat} (hc : X.calm = true) (hN : X.N.Nodup) (hi : X.N[i]? = some x) (hj : X.N[j]? = some y) (hx : Loc X.env.scope x) (hy : Loc X.env.scope y)
    (hfx : X.fn x = true ∨ X.env.scope.names.lookup x = some .local := by first | exact .inl rfl | exact .inr rfl) (hfy : X.fn y = true ∨ X.env.scope.names.lookup y = some .local := by first | exact .inl rfl | exact .inr rfl)
    (ht : assignEach [.Name x px, .Starred (.Name y py) ps] X.env = [(false, assign (.Name x px) X.env), (true, assign (.Name y py) X.env)] := by rfl) :
    PG X (.Tuple [.Name x px, .Starred (.Name y py) ps] k pos) (gStar i j) := by
  refine ⟨fun pins s σ H v u Q I r h => ?_⟩
  obtain ⟨l, z, zs, e1, hq, h⟩ := h
  subst e1
  cases r
  obtain ⟨its, rv, hl, hz⟩ := I.list (show SqL X.K H l (z :: zs) from Or.inl (Or.inl hq))
  have hz2 : its.length ≤ sizeLine := by rw [← rv.length]; exact hz
  cases rv with
  | cons r1 r2 =>
    rw [assign_Tuple]
    refine wpAny_bind (wpAny_standAt ?_)
    unfold unpack
    rw [ht]
    refine wpAny_bind (wpAny_holding (unpack_star (I.ok.hd hc) hl.isList hz2 fun h2 tk keep => ?_))
    have I1 : Inv X pins σ H { s with heap := h2, toks := tk } := I.kept keep
    have hf : H h2.objs.size = none := I1.hok.fresh (Nat.le_refl _)
    have I2 : Inv X pins σ (upd H h2.objs.size (.lst zs)) { s with heap := h2.push { cls := .type "list", data := .seq _ }, toks := tk } :=
      I1.laid (t' := tk) (fun b o e => Heap.get?_push_of_some _ e) (Nat.le_refl _) ⟨Nat.le_trans (Nat.le_succ _) hz, _, 0, r2, Heap.get?_push_size _ rfl⟩
    show wpAny _ _ (assignInOrder [assign (.Name x px) X.env, assign (.Name y py) X.env] _) _ _ _
    refine assignInOrder_cons (wpAny_assign_Name (store_ok I2 hN hi hx r1 (fun s' I' => ?_) hfx))
    refine assignInOrder_cons (wpAny_assign_Name (store_ok I' hN hj hy (show RelV (.ref h2.objs.size) _ from rfl) (fun s'' I'' => ?_) hfy))
    exact assignInOrder_nil ⟨_, _, I'', h _ hf⟩
end
end Cw
end
section
set_option linter.all false
set_option maxRecDepth 100000
set_option maxHeartbeats 1000000
set_option exponentiation.threshold 100000
namespace Cw
open PySem PySem.Spec PyProof.Rows L2

theorem Ext.mut {H P H' P' : Hp} (e : Ext H P H' P') {D : Addr} {o : HO} (h : H D = none) (hp : P' D = none) : Ext H P (L2.upd H' D o) P' := by
  refine ⟨fun b x q => ?_, e.part, fun b x q => ?_, e.new⟩
  · rw [upd_ne (ne_of_none q h)]; exact e.big _ _ q
  · rw [upd_ne (ne_of_none q hp)]; exact e.sub _ _ q
theorem Ext.freeze {H P H' P' : Hp} (e : Ext H P H' P') {p : Addr} {o : HO} (h : H p = none) (hp : H' p = some o) : Ext H P H' (L2.upd P' p o) := by
  have s : Same P' (L2.upd P' p o) := fun b x q => by
    by_cases hb : b = p
    · subst hb
      have := e.sub _ _ q
      rw [hp] at this
      cases this
      exact upd_same
    · rw [upd_ne hb]; exact q
  refine ⟨e.big, e.part.trans s, fun b x q => ?_, fun b x q => ?_⟩
  · by_cases hb : b = p
    · subst hb; rw [upd_same] at q; cases q; exact hp
    · rw [upd_ne hb] at q; exact e.sub _ _ q
  · by_cases hb : b = p
    · subst hb; exact .inr h
    · rw [upd_ne hb] at q; exact e.new _ _ q
theorem same_freeze {P' : Hp} {p : Addr} {o : HO} (h : P' p = none) : Same P' (L2.upd P' p o) := same_upd h

/-! ### data as the model's own -/
mutual
def toPy : Dt → PyData
  | .non => .none
  | .bl b => .bool b
  | .int i => .int i
  | .adr _ => .none
  | .tup xs => .tuple (toPys xs)
  | .lst xs => .list (toPys xs)
def toPys : List Dt → List PyData
  | [] => []
  | d :: r => toPy d :: toPys r
end
mutual
def clean : Dt → Bool
  | .adr _ => false
  | .tup xs => cleans xs
  | .lst xs => cleans xs
  | _ => true
def cleans : List Dt → Bool
  | [] => true
  | d :: r => clean d && cleans r
end
theorem dp_all {K : PySem.W.Frag} {HP H : Hp} (s : Same HP H) : ∀ d : Dt, ∀ v, clean d = true → Rep HP d v → Dp K H v (toPy d) := by
  intro d
  induction d using Dt.rec (motive_2 := fun ds => ∀ vs, cleans ds = true → Reps HP ds vs → DpAll K H vs (toPys ds)) with
  | non => intro v _ h; cases (show v = .non from h); exact .non
  | bl b => intro v _ h; cases (show v = .bl b from h); exact .bl b
  | int i => intro v _ h; cases (show v = .int i from h); exact .int i
  | adr a => intro v hc; cases hc
  | tup xs ih =>
    intro v hc h
    obtain ⟨a, vs, rfl, e2, e3⟩ := h
    exact .tup (st_of (s _ _ e2)) (ih _ hc e3)
  | lst xs ih =>
    intro v hc h
    obtain ⟨a, vs, rfl, e2, e3⟩ := h
    exact .lst (sq_of (s _ _ e2)) (ih _ hc e3)
  | nil => rename_i hc h; cases (show _ = _ from h); exact .nil
  | cons d r h1 h2 =>
    rename_i hc h
    obtain ⟨v, w, rfl, e2, e3⟩ := h
    have hc' : (clean d && cleans r) = true := hc
    rw [Bool.and_eq_true] at hc'
    exact .cons (h1 _ hc'.1 e2) (h2 _ hc'.2 e3)
theorem lay_all : ∀ d : Dt, (toPy d).canLay0 = true := by
  intro d
  induction d using Dt.rec (motive_2 := fun ds => PyData.canLayAll0 (toPys ds) = true) with
  | non => simp [toPy, PyData.canLay0]
  | bl b => simp [toPy, PyData.canLay0]
  | int i => simp [toPy, PyData.canLay0]
  | adr a => simp [toPy, PyData.canLay0]
  | tup xs ih => simpa [toPy, PyData.canLay0] using ih
  | lst xs ih => simpa [toPy, PyData.canLay0] using ih
  | nil => simp [toPys, PyData.canLayAll0]
  | cons d r h1 h2 => simp [toPys, PyData.canLayAll0, h1, h2]
def okD (d : Dt) : Bool := clean d && decide ((toPy d).depth ≤ 64)
theorem okD_shaped {d : Dt} (h : okD d = true) : SeqAt.shaped (toPy d) = true := by
  unfold okD at h
  rw [Bool.and_eq_true] at h
  show ((toPy d).canLay0 && decide ((toPy d).depth ≤ 64)) = true
  rw [lay_all, h.2]
  rfl
theorem eqv_same (d : Dt) : PyData.eqv (toPy d) (toPy d) = true := SeqAt.eqv_refl _ (lay_all d)
theorem clean_zs : ∀ ns : List Int, cleans (zs ns) = true
  | [] => rfl
  | n :: r => clean_zs r
theorem depth_zs : ∀ ns : List Int, PyData.depthAll (toPys (zs ns)) = 0
  | [] => by simp [zs, toPys, PyData.depthAll]
  | n :: r => by
    have := depth_zs r
    simp [zs, toPys, toPy, PyData.depthAll, PyData.depth] at this ⊢
    exact this
theorem okD_zs (ns : List Int) : okD (.lst (zs ns)) = true := by
  unfold okD
  have h1 : clean (.lst (zs ns)) = true := clean_zs ns
  rw [h1]
  simp [toPy, PyData.depth, depth_zs]
section
variable {K : PySem.W.Frag} {δ δ2 : De} {d d1 d2 : Dt} {ds es : List Dt} {ta tb tc te tl : TE} {t u : TT} {tA : TA}
theorem ev_eqD (ha : EvD ta δ d1) (hb : EvD tb δ d2) (h1 : okD d1 = true) (h2 : okD d2 = true) : EvD (tOp (rEqD K) ta tb) δ (.bl (PyData.eqv (toPy d1) (toPy d2))) := fun σ H HP s sl Q q =>
  ha σ H HP s sl _ fun x H1 P1 e1 r1 => hb σ H1 P1 e1.sub (sl.mono e1.part) _ fun y H2 P2 e2 r2 =>
    ⟨_, _, dp_all e2.sub _ _ (Bool.and_eq_true_iff.mp h1).1 (r1.mono e2.part), dp_all e2.sub _ _ (Bool.and_eq_true_iff.mp h2).1 r2, okD_shaped h1, okD_shaped h2, q _ H2 P2 (e1.trans e2) rfl⟩
theorem ev_neD (ha : EvD ta δ d1) (hb : EvD tb δ d2) (h1 : okD d1 = true) (h2 : okD d2 = true) : EvD (tOp (rNeD K) ta tb) δ (.bl (!PyData.eqv (toPy d1) (toPy d2))) := fun σ H HP s sl Q q =>
  ha σ H HP s sl _ fun x H1 P1 e1 r1 => hb σ H1 P1 e1.sub (sl.mono e1.part) _ fun y H2 P2 e2 r2 =>
    ⟨_, _, dp_all e2.sub _ _ (Bool.and_eq_true_iff.mp h1).1 (r1.mono e2.part), dp_all e2.sub _ _ (Bool.and_eq_true_iff.mp h2).1 r2, okD_shaped h1, okD_shaped h2, q _ H2 P2 (e1.trans e2) rfl⟩
theorem ev_fdiv {i j : Int} (ha : EvD ta δ (.int i)) (hb : EvD tb δ (.int j)) (hc : CDivP i j) : EvD (tOp (rI CDivP fun i j => .int (i.fdiv j)) ta tb) δ (.int (i.fdiv j)) := ev_I ha hb hc fun _ => rfl
theorem ev_mod {i j : Int} (ha : EvD ta δ (.int i)) (hb : EvD tb δ (.int j)) (hc : j ≠ 0) : EvD (tOp (rI (fun _ j => j ≠ 0) fun i j => .int (i.fmod j)) ta tb) δ (.int (i.fmod j)) := ev_I ha hb hc fun _ => rfl
theorem ev_pow {i : Int} {n : Nat} (ha : EvD ta δ (.int i)) (hb : EvD tb δ (.int (n : Int))) (hc : CPowP i n) : EvD (tOp (rI CPowP fun i j => .int (i ^ j.toNat)) ta tb) δ (.int (i ^ n)) := ev_I ha hb hc fun _ => by
  show V.int _ = V.int _
  rw [Int.toNat_natCast]
theorem ev_catL (ha : EvD ta δ (.lst ds)) (hb : EvD tb δ (.lst es)) (hl : ds.length + es.length ≤ 1000) : EvD (tOp rCat ta tb) δ (.lst (ds ++ es)) := fun σ H HP s sl Q q =>
  ha σ H HP s sl _ fun x H1 P1 e1 r1 => hb σ H1 P1 e1.sub (sl.mono e1.part) _ fun y H2 P2 e2 r2 => by
    obtain ⟨a, vs, rfl, hav, hr⟩ := r1
    obtain ⟨b, ws, rfl, hbw, hr2⟩ := r2
    refine ⟨a, b, vs, ws, rfl, rfl, e2.sub _ _ (e2.part _ _ hav), e2.sub _ _ hbw, by rw [hr.len, hr2.len]; exact sz1000 hl, fun p hp => q _ _ _ ((e1.trans e2).trans (Ext.upd e2.sub hp)) ⟨p, vs ++ ws, rfl, upd_same, ?_⟩⟩
    exact Reps.mono (same_upd (e2.sub.free hp)) ((hr.mono e2.part).app hr2)
theorem ev_catT (ha : EvD ta δ (.tup ds)) (hb : EvD tb δ (.tup es)) (h0 : ds ≠ []) (h1 : es ≠ []) (hl : ds.length + es.length ≤ 1000) : EvD (tOp (rCatT K) ta tb) δ (.tup (ds ++ es)) := fun σ H HP s sl Q q =>
  ha σ H HP s sl _ fun x H1 P1 e1 r1 => hb σ H1 P1 e1.sub (sl.mono e1.part) _ fun y H2 P2 e2 r2 => by
    obtain ⟨a, vs, rfl, hav, hr⟩ := r1
    obtain ⟨b, ws, rfl, hbw, hr2⟩ := r2
    have n1 : vs ≠ [] := fun z => h0 (List.length_eq_zero_iff.mp (by rw [← hr.len, z]; rfl))
    have n2 : ws ≠ [] := fun z => h1 (List.length_eq_zero_iff.mp (by rw [← hr2.len, z]; rfl))
    refine ⟨a, b, vs, ws, rfl, rfl, st_of (e2.sub _ _ (e2.part _ _ hav)), st_of (e2.sub _ _ hbw), n1, by rw [hr.len, hr2.len]; exact sz1000 hl, fun z => absurd z n2, fun _ p hp => q _ _ _ ((e1.trans e2).trans (Ext.upd e2.sub hp)) ⟨p, vs ++ ws, rfl, upd_same, ?_⟩⟩
    exact Reps.mono (same_upd (e2.sub.free hp)) ((hr.mono e2.part).app hr2)
theorem reps_flat {H : Hp} {ds : List Dt} {vs : List V} (h : Reps H ds vs) : ∀ n : Nat, Reps H (List.replicate n ds).flatten (List.replicate n vs).flatten
  | 0 => rfl
  | n + 1 => by
    rw [List.replicate_succ, List.replicate_succ, List.flatten_cons, List.flatten_cons]
    exact h.app (reps_flat h n)
theorem ev_rep {k : Nat} (ha : EvD ta δ (.lst ds)) (hb : EvD tb δ (.int (k : Int))) (hl : ds.length * k ≤ 1000) (hk : k ≤ 1000) : EvD (tOp rRep ta tb) δ (.lst (List.replicate k ds).flatten) := fun σ H HP s sl Q q =>
  ha σ H HP s sl _ fun x H1 P1 e1 r1 => hb σ H1 P1 e1.sub (sl.mono e1.part) _ fun y H2 P2 e2 r2 => by
    obtain ⟨a, vs, rfl, hav, hr⟩ := r1
    refine ⟨a, (k : Int), vs, rfl, r2, e2.sub _ _ (e2.part _ _ hav), by omega, by omega, by rw [hr.len]; simpa using sz1000 hl, fun p hp => q _ _ _ ((e1.trans e2).trans (Ext.upd e2.sub hp)) ⟨p, _, rfl, upd_same, ?_⟩⟩
    rw [Int.toNat_natCast]
    exact Reps.mono (same_upd (e2.sub.free hp)) ((reps_flat hr k).mono e2.part)
/-- slices with written bounds -/
def cutD (ds : List Dt) (lo hi : Option Int) : List Dt := (ds.drop (HT.sIx ds.length 0 lo)).take (HT.sIx ds.length ds.length hi - HT.sIx ds.length 0 lo)
theorem reps_cut {H : Hp} {ds : List Dt} {vs : List V} (h : Reps H ds vs) (lo hi : Option Int) : Reps H (cutD ds lo hi) (cutV vs lo hi) := by
  unfold cutD cutV
  rw [h.len]
  exact (h.drop _).take _
def EvO (to : TO) (o : Option Int) : Prop := ∀ σ H (Q : Option Int → Hp → Prop), Q o H → to σ H Q
theorem eo_some {i : Int} : EvO (tPart (tC (.int i))) (some i) := fun σ H Q q => ⟨i, rfl, q⟩
theorem eo_none : EvO tNoPart none := fun σ H Q q => q
theorem ev_slL {tl2 th : TO} {lo hi : Option Int} (ha : EvD ta δ (.lst ds)) (h1 : EvO tl2 lo) (h2 : EvO th hi) : EvD (tSl (rSlL K) ta tl2 th) δ (.lst (cutD ds lo hi)) := fun σ H HP s sl Q q =>
  ha σ H HP s sl _ fun x H1 P1 e1 r1 => h1 _ _ _ (h2 _ _ _ (by
    obtain ⟨a, vs, rfl, hav, hr⟩ := r1
    exact ⟨a, vs, rfl, sq_of (e1.sub _ _ hav), fun p hp => q _ _ _ (e1.trans (Ext.upd e1.sub hp)) ⟨p, _, rfl, upd_same, Reps.mono (same_upd (e1.sub.free hp)) (reps_cut hr lo hi)⟩⟩))
theorem ev_slT {tl2 th : TO} {lo hi : Option Int} (ha : EvD ta δ (.tup ds)) (h1 : EvO tl2 lo) (h2 : EvO th hi) (hw : ¬ (HT.sIx ds.length 0 lo = 0 ∧ HT.sIx ds.length ds.length hi = ds.length)) : EvD (tSl (rSlT K) ta tl2 th) δ (.tup (cutD ds lo hi)) := fun σ H HP s sl Q q =>
  ha σ H HP s sl _ fun x H1 P1 e1 r1 => h1 _ _ _ (h2 _ _ _ (by
    obtain ⟨a, vs, rfl, hav, hr⟩ := r1
    exact ⟨a, vs, rfl, st_of (e1.sub _ _ hav), by rw [hr.len]; exact hw, fun p hp => q _ _ _ (e1.trans (Ext.upd e1.sub hp)) ⟨p, _, rfl, upd_same, Reps.mono (same_upd (e1.sub.free hp)) (reps_cut hr lo hi)⟩⟩))
/-- a chain of two comparisons of ints -/
theorem ev_chain {g g' : Int → Int → Bool} {i j k : Int} (ha : EvD ta δ (.int i)) (hb : EvD tb δ (.int j)) (hc : EvD tc δ (.int k)) : EvD (tChain (rI0 fun i j => .bl (g i j)) (rI0 fun i j => .bl (g' i j)) ta tb tc) δ (.bl (g i j && g' j k)) := fun σ H HP s sl Q q =>
  ha σ H HP s sl _ fun x H1 P1 e1 r1 => hb σ H1 P1 e1.sub (sl.mono e1.part) _ fun y H2 P2 e2 r2 => ⟨i, j, r1, r2, g i j, rfl, by
    cases hg : g i j with
    | true =>
      rw [if_pos rfl]
      exact hc σ H2 P2 (e1.trans e2).sub (sl.mono (e1.trans e2).part) _ fun z H3 P3 e3 r3 => ⟨j, k, r2, r3, q _ H3 P3 ((e1.trans e2).trans e3) (by rw [hg]; rfl)⟩
    | false =>
      rw [if_neg Bool.false_ne_true]
      exact q _ H2 P2 (e1.trans e2) (by rw [hg]; rfl)⟩
theorem eb_yes : EvB tYes δ true := fun σ H HP s sl Q q => q H HP (.refl s)
/-- a bool name as a test -/
theorem eb_val {b : Bool} (h : EvD ta δ (.bl b)) : EvB (tB ta) δ b := eb_B h

/-! ### what is walked -/
def SrcD (wi : TI) (δ : De) (ds : List Dt) : Prop := ∀ (σ : L2.St) (H HP : Hp), Same HP H → Sl HP σ δ → ∀ R : It → Hp → Prop,
  (∀ J H1 P1, Ext H HP H1 P1 → (∃ (G : Hp → Prop) (Y : Nat → Hp → V → Hp → Prop), Walk J ds.length G Y ∧ (∀ H2, Same P1 H2 → G H2) ∧ ∀ i x H2 H3 P2, i < ds.length → Same P1 P2 → Same P2 H2 → Y i H2 x H3 → ∃ P3 d, ds[i]? = some d ∧ Ext H2 P2 H3 P3 ∧ Rep P3 d x) → R J H1) → wi σ H R
theorem src_list (h : EvD tl δ (.lst ds)) : SrcD (iList K tl) δ ds := fun σ H HP s sl R q =>
  h σ H HP s sl _ fun v H1 P1 e1 r1 => by
    obtain ⟨a, vs, rfl, hav, hr⟩ := r1
    refine ⟨a, rfl, ⟨vs, sq_of (e1.sub _ _ hav)⟩, q _ H1 P1 e1 ⟨_, _, by rw [← hr.len]; exact walk_list, fun H2 s2 => sq_of (s2 _ _ hav), fun i x H2 H3 P2 _ e2 e2s y => ?_⟩⟩
    obtain ⟨rfl, hx⟩ := y
    obtain ⟨d, hd, rd⟩ := hr.get' hx
    exact ⟨P2, d, hd, .refl e2s, rd.mono e2⟩
theorem src_tup (h : EvD tl δ (.tup ds)) : SrcD (iTup K tl) δ ds := fun σ H HP s sl R q =>
  h σ H HP s sl _ fun v H1 P1 e1 r1 => by
    obtain ⟨a, vs, rfl, hav, hr⟩ := r1
    refine ⟨a, rfl, ⟨vs, st_of (e1.sub _ _ hav)⟩, q _ H1 P1 e1 ⟨_, _, by rw [← hr.len]; exact walk_tup, fun H2 s2 => st_of (s2 _ _ hav), fun i x H2 H3 P2 _ e2 e2s y => ?_⟩⟩
    obtain ⟨rfl, hx⟩ := y
    obtain ⟨d, hd, rd⟩ := hr.get' hx
    exact ⟨P2, d, hd, .refl e2s, rd.mono e2⟩
def rngD (lo : Int) (n : Nat) : List Dt := (List.range n).map fun (k : Nat) => Dt.int (lo + (k : Int))
theorem rngD_len (lo : Int) (n : Nat) : (rngD lo n).length = n := by simp [rngD]
theorem rngD_get {lo : Int} {n i : Nat} (h : i < n) : (rngD lo n)[i]? = some (.int (lo + (i : Int))) := by simp [rngD, h]
theorem src_rng1 {n : Nat} (h : EvA tA δ [.int (n : Int)]) (hn : n ≤ 1000000) : SrcD (iRng1 tA) δ (rngD 0 n) := fun σ H HP s sl R q =>
  h σ H HP s sl _ fun vs H1 P1 e1 r1 => by
    refine ⟨n, reps_ints (ns := [(n : Int)]) r1, by omega, by omega, ?_⟩
    rw [Int.toNat_natCast]
    refine q _ H1 P1 e1 ⟨_, _, by rw [rngD_len]; exact walk_range, fun _ _ => trivial, fun i x H2 H3 P2 hi e2 e2s y => ?_⟩
    obtain ⟨rfl, rfl⟩ := y
    rw [rngD_len] at hi
    exact ⟨P2, .int (0 + (i : Int)), rngD_get hi, .refl e2s, rfl⟩
theorem src_rng2 {lo : Int} {n : Nat} (h : EvA tA δ [.int lo, .int (lo + n)]) (hl : 0 ≤ lo ∧ lo ≤ 1000000) (hn : n ≤ 1000000) : SrcD (iRng2 tA) δ (rngD lo n) := fun σ H HP s sl R q =>
  h σ H HP s sl _ fun vs H1 P1 e1 r1 => by
    refine ⟨lo, lo + n, reps_ints (ns := [lo, lo + n]) r1, ⟨by omega, by omega, by omega, by omega⟩, ?_⟩
    rw [show (lo + (n : Int) - lo).toNat = n by omega]
    refine q _ H1 P1 e1 ⟨_, _, by rw [rngD_len]; exact walk_range, fun _ _ => trivial, fun i x H2 H3 P2 hi e2 e2s y => ?_⟩
    obtain ⟨rfl, rfl⟩ := y
    rw [rngD_len] at hi
    exact ⟨P2, .int (lo + (i : Int)), rngD_get hi, .refl e2s, rfl⟩
/-- pairs, new at each turn -/
def zipD (ds es : List Dt) : List Dt := List.zipWith (fun a b => Dt.tup [a, b]) ds es
theorem zipD_len {ds es : List Dt} (h : ds.length = es.length) : (zipD ds es).length = ds.length := by simp [zipD, h]
theorem zipD_get {ds es : List Dt} {i : Nat} {a b : Dt} (h1 : ds[i]? = some a) (h2 : es[i]? = some b) : (zipD ds es)[i]? = some (.tup [a, b]) := by simp [zipD, List.getElem?_zipWith, h1, h2]
theorem ypair {H2 P2 H3 : Hp} {f g : Nat → Option V} {i : Nat} {x : V} {da db : Dt} (e2s : Same P2 H2) (y : YPair f g i H2 x H3) (ha : ∀ v, f i = some v → Rep P2 da v) (hb : ∀ v, g i = some v → Rep P2 db v) : ∃ P3, Ext H2 P2 H3 P3 ∧ Rep P3 (.tup [da, db]) x := by
  obtain ⟨T, v, w, rfl, hT, rfl, h1, h2⟩ := y
  exact ⟨_, Ext.upd e2s hT, T, [v, w], rfl, upd_same, v, [w], rfl, (ha v h1).mono (same_upd (e2s.free hT)), w, [], rfl, (hb w h2).mono (same_upd (e2s.free hT)), rfl⟩
theorem src_zip (h : EvA tA δ [.lst ds, .lst es]) (hl : ds.length = es.length) : SrcD (iZip K tA) δ (zipD ds es) := fun σ H HP s sl R q =>
  h σ H HP s sl _ fun us H1 P1 e1 r1 => by
    obtain ⟨v, w, rfl, r, r'⟩ := reps2 r1
    obtain ⟨a, vs, rfl, hav, hr⟩ := r
    obtain ⟨b, ws, rfl, hbw, hr2⟩ := r'
    refine ⟨a, b, vs, ws, rfl, sq_of (e1.sub _ _ hav), sq_of (e1.sub _ _ hbw), q _ H1 P1 e1 ⟨_, _, walk_zip (xs := vs) (ys := ws) (by rw [zipD_len hl, hr.len, hr2.len]; omega), fun H2 s2 => ⟨sq_of (s2 _ _ hav), sq_of (s2 _ _ hbw)⟩, fun i x H2 H3 P2 hi e2 e2s y => ?_⟩⟩
    rw [zipD_len hl] at hi
    have h1 : ds[i]? = some ds[i] := by simp [hi]
    have h2 : es[i]? = some es[i] := by simp [show i < es.length by omega]
    obtain ⟨P3, e3, rd⟩ := ypair (da := ds[i]) (db := es[i]) e2s y (fun v hv => by
      obtain ⟨d, hd, rd⟩ := hr.get' hv
      rw [h1] at hd; cases hd
      exact rd.mono e2) (fun v hv => by
      obtain ⟨d, hd, rd⟩ := hr2.get' hv
      rw [h2] at hd; cases hd
      exact rd.mono e2)
    exact ⟨P3, _, zipD_get h1 h2, e3, rd⟩
def enumD (ds : List Dt) : List Dt := zipD (rngD 0 ds.length) ds
theorem enumD_len (ds : List Dt) : (enumD ds).length = ds.length := by unfold enumD; rw [zipD_len (by rw [rngD_len]), rngD_len]
theorem enumD_get {ds : List Dt} {i : Nat} {d : Dt} (h : ds[i]? = some d) : (enumD ds)[i]? = some (.tup [.int (i : Int), d]) := by
  have hi := (List.getElem?_eq_some_iff.mp h).1
  unfold enumD
  rw [zipD_get (rngD_get hi) h, Int.zero_add]
theorem src_enum (h : EvA tA δ [.lst ds]) : SrcD (iEnum K tA) δ (enumD ds) := fun σ H HP s sl R q =>
  h σ H HP s sl _ fun us H1 P1 e1 r1 => by
    obtain ⟨v, rfl, r⟩ := reps1 r1
    obtain ⟨a, vs, rfl, hav, hr⟩ := r
    refine ⟨a, vs, rfl, sq_of (e1.sub _ _ hav), q _ H1 P1 e1 ⟨_, _, by rw [enumD_len, ← hr.len]; exact walk_enum, fun H2 s2 => sq_of (s2 _ _ hav), fun i x H2 H3 P2 hi e2 e2s y => ?_⟩⟩
    rw [enumD_len] at hi
    have h1 : ds[i]? = some ds[i] := by simp [hi]
    obtain ⟨P3, e3, rd⟩ := ypair (da := .int (i : Int)) (db := ds[i]) e2s y (fun v hv => by cases hv; rfl) (fun v hv => by
      obtain ⟨d, hd, rd⟩ := hr.get' hv
      rw [h1] at hd; cases hd
      exact rd.mono e2)
    exact ⟨P3, _, enumD_get h1, e3, rd⟩
theorem src_enumT (h : EvA tA δ [.tup ds]) : SrcD (iEnumT K tA) δ (enumD ds) := fun σ H HP s sl R q =>
  h σ H HP s sl _ fun us H1 P1 e1 r1 => by
    obtain ⟨v, rfl, r⟩ := reps1 r1
    obtain ⟨a, vs, rfl, hav, hr⟩ := r
    refine ⟨a, vs, rfl, st_of (e1.sub _ _ hav), q _ H1 P1 e1 ⟨_, _, by rw [enumD_len, ← hr.len]; exact walk_enumT, fun H2 s2 => st_of (s2 _ _ hav), fun i x H2 H3 P2 hi e2 e2s y => ?_⟩⟩
    rw [enumD_len] at hi
    have h1 : ds[i]? = some ds[i] := by simp [hi]
    obtain ⟨P3, e3, rd⟩ := ypair (da := .int (i : Int)) (db := ds[i]) e2s y (fun v hv => by cases hv; rfl) (fun v hv => by
      obtain ⟨d, hd, rd⟩ := hr.get' hv
      rw [h1] at hd; cases hd
      exact rd.mono e2)
    exact ⟨P3, _, enumD_get h1, e3, rd⟩

/-! ### comprehensions -/
/-- a target within a comprehension's block -/
def TgC (g : TG) (vs : List Nat) (δ : De) (d : Dt) (δ' : De) : Prop := ∀ (σ : L2.St) (H HP : Hp) (v : V), Same HP H → Sl HP σ δ → Rep HP d v → ∀ Q : L2.St → Hp → Prop, (∀ σ', Sl HP σ' δ' → wipe σ' vs = wipe σ vs → Q σ' H) → g v σ H Q
theorem tc_name {i : Nat} {vs : List Nat} (hi : i ∈ vs) : TgC (gName i) vs δ d (δ.set i (some d)) := fun σ H HP v s sl r Q q => q _ (sl.set r i) (wipe_set_in hi)
theorem tc_two {i j : Nat} {vs : List Nat} (hi : i ∈ vs) (hj : j ∈ vs) : TgC (gTup K 2 (gCons (gName i) (gCons (gName j) gNil))) vs δ (.tup [d1, d2]) ((δ.set i (some d1)).set j (some d2)) := fun σ H HP v s sl r Q q => by
  obtain ⟨a, ws, rfl, ha, hr⟩ := r
  obtain ⟨v, w, rfl, r1, r2⟩ := reps2 hr
  exact ⟨a, [v, w], rfl, st_of (s _ _ ha), rfl, v, [w], rfl, w, [], rfl, rfl, q _ ((sl.set r1 i).set r2 j) (by rw [wipe_set_in hj, wipe_set_in hi])⟩
theorem ev_lc {wi : TI} {g : TG} {tt : TT} {vs : List Nat} (hs : SrcD wi δ ds) (f : Dt → Option Dt) (hl : ds.length ≤ 1000)
    (hd : ∀ d, d ∈ ds → ∃ δ2, TgC g vs (wipeD δ vs) d δ2 ∧ ∃ b, EvB tt δ2 b ∧ (b = false → f d = none) ∧ (b = true → ∃ e, f d = some e ∧ EvD te δ2 e)) : EvD (tLc wi g tt te vs) δ (.lst (ds.filterMap f)) := fun σ H HP s sl Q q =>
  hs σ H HP s sl _ fun J H1 P1 e1 hw D hD => by
    obtain ⟨G, Y, w, hG, hY⟩ := hw
    have fe : ∀ i d, ds[i]? = some d → (ds.take (i + 1)).filterMap f = (ds.take i).filterMap f ++ (f d).toList := fun i d hi => by
      rw [List.take_add_one, hi, List.filterMap_append]
      cases hfd : f d <;> simp [hfd]
    refine lc_it w (fun i H' => ∃ acc P', Ext H1 P1 H' P' ∧ P' D = none ∧ H' D = some (.lst acc) ∧ acc.length ≤ i ∧ Reps P' ((ds.take i).filterMap f) acc) ?_ ?_ ?_ ?_
    · exact ⟨[], P1, Ext.own e1.sub hD, e1.sub.free hD, upd_same, Nat.le_refl _, rfl⟩
    · rintro i H' _ ⟨acc, P', e, _⟩
      exact hG _ (e.part.trans e.sub)
    · rintro i x H' H3 hi ⟨acc, P', e, hPD, hHD, hla, hr⟩ y
      obtain ⟨P3, d, hdi, e3, rd⟩ := hY i x H' H3 P' hi e.part e.sub y
      obtain ⟨δ2, htg, b, hb, hn, hso⟩ := hd d (List.mem_of_getElem? hdi)
      have sl3 : Sl P3 (wipe σ vs) (wipeD δ vs) := ((sl.mono (e1.part.trans (e.part.trans e3.part))).wipe vs)
      obtain ⟨hHD3, hPD3⟩ := e3.keepOut hHD hPD
      refine htg _ H3 P3 x e3.sub sl3 rd _ fun σ2 sl2 hwp => ⟨by rw [hwp]; exact wipe_idem, ?_⟩
      refine hb σ2 H3 P3 e3.sub sl2 _ fun H4 P4 e4 => ?_
      obtain ⟨hHD4, hPD4⟩ := e4.keepOut hHD3 hPD3
      have e14 := (e.trans e3).trans e4
      cases b with
      | false =>
        rw [if_neg Bool.false_ne_true]
        refine ⟨acc, P4, e14, hPD4, hHD4, by omega, ?_⟩
        rw [fe i d hdi, hn rfl]
        simp only [Option.toList_none, List.append_nil]
        exact hr.mono (e3.part.trans e4.part)
      | true =>
        rw [if_pos rfl]
        obtain ⟨z, hz, he⟩ := hso rfl
        refine he σ2 H4 P4 e4.sub (sl2.mono e4.part) _ fun v H5 P5 e5 r5 => ?_
        obtain ⟨hHD5, hPD5⟩ := e5.keepOut hHD4 hPD4
        refine ⟨acc, hHD5, ?_, acc ++ [v], P5, (e14.trans e5).mut hD hPD5, hPD5, upd_same, by rw [List.length_append]; simp; omega, ?_⟩
        · exact small1000 (by omega)
        · rw [fe i d hdi, hz]
          exact (hr.mono (e3.part.trans (e4.part.trans e5.part))).app ⟨v, [], rfl, r5, rfl⟩
    · rintro H' ⟨acc, P', e, hPD, hHD, _, hr⟩
      rw [List.take_length] at hr
      exact q _ H' _ (e1.trans (e.freeze hD hHD)) ⟨D, acc, rfl, upd_same, hr.mono (same_freeze hPD)⟩
/-- .. without a test -/
theorem ev_lcm {wi : TI} {g : TG} {vs : List Nat} (hs : SrcD wi δ ds) (f : Dt → Dt) (hl : ds.length ≤ 1000)
    (hd : ∀ d, d ∈ ds → ∃ δ2, TgC g vs (wipeD δ vs) d δ2 ∧ EvD te δ2 (f d)) : EvD (tLc wi g tYes te vs) δ (.lst (ds.map f)) := by
  have h := ev_lc (tt := tYes) (te := te) (g := g) (vs := vs) hs (fun d => some (f d)) hl fun d hdm => by
    obtain ⟨δ2, h1, h2⟩ := hd d hdm
    exact ⟨δ2, h1, true, eb_yes, (fun z => Bool.noConfusion z), fun _ => ⟨f d, rfl, h2⟩⟩
  rw [List.filterMap_eq_map'] at h
  exact h
/-- a for over anything -/
theorem st_for {wi : TI} {g : TG} {a u : TS} {nx : De → Prop} {rt : Dt → Prop} (hs : SrcD wi δ ds) (Pv : Nat → De → Prop) (h0 : Pv 0 δ) (hb : ∀ i d δ1, ds[i]? = some d → Pv i δ1 → ∃ δ2, TgD g δ1 d δ2 ∧ StD a δ2 (Pv (i + 1)) rt) (hd : ∀ δ1, Pv ds.length δ1 → StD u δ1 nx rt) : StD (tSeq (tFor wi g a) u) δ nx rt := fun σ H HP s sl D q1 q2 =>
  hs σ H HP s sl _ fun J H1 P1 e1 hw => by
    obtain ⟨G, Y, w, hG, hY⟩ := hw
    refine for_it w (fun i σ' H' => ∃ δ' P', Pv i δ' ∧ Ext H1 P1 H' P' ∧ Sl P' σ' δ') ⟨δ, P1, h0, .refl e1.sub, sl.mono e1.part⟩ ?_ ?_ ?_
    · rintro i σ' H' _ ⟨δ', P', _, e, _⟩
      exact hG _ (e.part.trans e.sub)
    · rintro i x σ' H' H3 hi ⟨δ', P', p1, e, sl'⟩ y
      obtain ⟨P3, d, hdi, e3, rd⟩ := hY i x H' H3 P' hi e.part e.sub y
      obtain ⟨δ2, tg, st⟩ := hb i d δ' hdi p1
      refine tg σ' H3 P3 x e3.sub (sl'.mono e3.part) rd _ fun σ2 sl2 => ?_
      exact st σ2 H3 P3 e3.sub sl2 _ (fun δ3 σ3 H4 P4 n4 e4 sl4 => ⟨δ3, P4, n4, (e.trans e3).trans e4, sl4⟩) fun d v H4 P4 r4 e4 rv4 => q2 d v H4 P4 r4 ((e1.trans (e.trans e3)).trans e4) rv4
    · rintro σ' H' ⟨δ', P', p1, e, sl'⟩
      exact hd δ' p1 σ' H' P' e.sub sl' D (fun δ2 σ2 H2 P2 n2 e2 sl2 => q1 δ2 σ2 H2 P2 n2 ((e1.trans e).trans e2) sl2) fun d v H2 P2 r e2 rv => q2 d v H2 P2 r ((e1.trans e).trans e2) rv
/-- a for with lists of one's own: told by slots, data, both heaps -/
theorem raw_for {wi : TI} {g : TG} {a : TS} {σ : L2.St} {H HP : Hp} {D : Ends} (hs : SrcD wi δ ds) (s : Same HP H) (sl : Sl HP σ δ)
    (h : ∀ H1 P1, Ext H HP H1 P1 → ∃ Pv : Nat → De → Hp → Hp → Prop, Pv 0 δ H1 P1 ∧ (∀ i δ' H' P', Pv i δ' H' P' → Same P1 P' ∧ Same P' H') ∧
      (∀ i d δ' σ' H' P', ds[i]? = some d → Pv i δ' H' P' → Sl P' σ' δ' → ∀ x H3 P3, Ext H' P' H3 P3 → Rep P3 d x → g x σ' H3 fun σ2 H2 => a { D with nx := fun σ4 H4 => ∃ δ4 P4, Pv (i + 1) δ4 H4 P4 ∧ Sl P4 σ4 δ4, ct := fun σ4 H4 => ∃ δ4 P4, Pv (i + 1) δ4 H4 P4 ∧ Sl P4 σ4 δ4, bk := D.nx } σ2 H2) ∧
      (∀ δ' σ' H' P', Pv ds.length δ' H' P' → Sl P' σ' δ' → D.nx σ' H')) : tFor wi g a D σ H :=
  hs σ H HP s sl _ fun J H1 P1 e1 hw => by
    obtain ⟨G, Y, w, hG, hY⟩ := hw
    obtain ⟨Pv, p0, pk, pb, pd⟩ := h H1 P1 e1
    refine for_it w (fun i σ' H' => ∃ δ' P', Pv i δ' H' P' ∧ Sl P' σ' δ') ⟨δ, P1, p0, sl.mono e1.part⟩ ?_ ?_ ?_
    · rintro i σ' H' _ ⟨δ', P', p, _⟩
      obtain ⟨k1, k2⟩ := pk _ _ _ _ p
      exact hG _ (k1.trans k2)
    · rintro i x σ' H' H3 hi ⟨δ', P', p, sl'⟩ y
      obtain ⟨k1, k2⟩ := pk _ _ _ _ p
      obtain ⟨P3, d, hdi, e3, rd⟩ := hY i x H' H3 P' hi k1 k2 y
      exact pb i d δ' σ' H' P' hdi p sl' x H3 P3 e3 rd
    · rintro σ' H' ⟨δ', P', p, sl'⟩
      exact pd δ' σ' H' P' p sl'
end
/-! ### fractions -/
def fr (q : Rat) : Dt := if q.den = 1 then .int q.num else .tup [.int q.num, .int q.den]
theorem fr_int (i : Int) : fr (i : Rat) = .int i := rfl
end Cw
end
section
set_option linter.all false
set_option maxRecDepth 100000
set_option maxHeartbeats 1000000
set_option exponentiation.threshold 100000
namespace Cw
open PySem PySem.Spec PyProof.Rows L2
def topS (i : Nat) : Stmt := PySem.Challenge.pw_cubicway_k56_whole_heights_of_doubles.main.body.getD i (.Pass ⟨0, 0, 0, 0⟩)
/-- the built-ins that the text uses, its two constants -/
structure Bn (mg : Str → Option Value) : Prop where
  isinstance : mg "isinstance" = none
  int : mg "int" = none
  bool : mg "bool" = none
  tuple : mg "tuple" = none
  abs : mg "abs" = none
  len : mg "len" = none
  all : mg "all" = none
  range : mg "range" = none
  max : mg "max" = none
  min : mg "min" = none
  sum : mg "sum" = none
  zip : mg "zip" = none
  enumerate : mg "enumerate" = none
  FEW : ∃ t, mg "FEW" = some (.int 4 t)
  EVERY : ∃ t, mg "EVERY" = some (.int 8 t)
section
variable (P : Program) (w : World) (K : PySem.W.Frag) (mg : Str → Option Value) (base : Heap)
/-- a def as it stands -/
def Fu (x : Str) (st : Stmt) (ps : List Str) : Prop := ∃ f fd, Fun K x x st f fd ∧ Binds K fd ps [] ∧ mg x = some (.ref f)
/-- a def that keeps its promise -/
def Dn (x : Str) (ps : List Str) (k : Nat) (sp : Sp) : Prop := ∃ f fd, FnOk P w K mg base CX0 k f fd ps sp ∧ Binds K fd ps [] ∧ mg x = some (.ref f) ∧ PySem.W.keepIn K (.ref f) = true
end
section
variable {P : Program} {w : World} {K : PySem.W.Frag} {mg : Str → Option Value} {base : Heap} {x : Str} {st : Stmt} {N ps : List Str} {k : Nat}
theorem Fu.ok {pre : List Dt → Dt → Prop} (F : Fu K mg x st ps) (S : FnScope N ps (defScope st)) (len : ∀ ds d, pre ds d → ds.length = ps.length)
    (hbody : ∀ (f : Addr) (cdv : Value) (A : Around) (outer : List Env) (s : Shared) (H : Hp) (E : XK), Room k (A.deeper (envOfC x (defScope st) s.heap.objs.size f cdv)) →
      ∃ t, PSs (cxOf CX0 P w K mg base N x (defScope st) f cdv A outer s H E).nox (defBody st) t ∧ ∀ ds d, pre ds d → StD t (startD N ds) (fun _ => d = .non) (fun r => r = d)) : Dn P w K mg base x ps (k + 1) (spP pre) := by
  obtain ⟨f, fd, F, b, g⟩ := F
  exact ⟨f, fd, ok_def F S len (hbody f), b, g, F.kp⟩
theorem Fu.raw {sp : Sp} (F : Fu K mg x st ps) (S : FnScope N ps (defScope st)) (len : ∀ vs H Q E, sp vs H Q E → vs.length = ps.length)
    (hbody : ∀ (f : Addr) (cdv : Value) (A : Around) (outer : List Env) (s : Shared) (H : Hp) (vs : List V) (Q : VK) (E : XK), Room k (A.deeper (envOfC x (defScope st) s.heap.objs.size f cdv)) → sp vs H Q E →
      ∃ t, PSs (cxOf CX0 P w K mg base N x (defScope st) f cdv A outer s H E).nox (defBody st) t ∧ t { nx := fun _ H' => Q .non H', rt := Q } (L2.start N vs) H) : Dn P w K mg base x ps (k + 1) sp := by
  obtain ⟨f, fd, F, b, g⟩ := F
  exact ⟨f, fd, F.ok S len (hbody f), b, g, F.kp⟩
end
/-- a call of such a def -/
theorem pe_fn {X : Cx} {x : Str} {ps : List Str} {j : Nat} {sp : Sp} {e : Expr} {es : List Expr} {t : TA} {p pos : Pos} (D : Dn X.prog X.w X.K X.mg X.base x ps j sp) (hr : Room j X.A) (hg : Gl X x) (ha : PA X (e :: es) t)
    (hdb : (x == ("__debug__" : Str)) = false := by decide) (he : starEach (e :: es) X.env = (false, eval e X.env) :: starEach es X.env := by rfl) (hpl : (backTo pos (starEach es X.env)).any (·.1) = false := by rfl) :
    PE X (.Call (.Name x p) (e :: es) [] pos) (tCall sp [] E0 t) := by
  obtain ⟨f, fd, F, b, g, kp⟩ := D
  exact pe_call F hr hg g kp b .nil pass0 ha hdb he hpl
theorem st_par3 {i j l : Nat} {tA : TA} {δ : De} {d d2 d3 : Dt} {nx : De → Prop} {rt : Dt → Prop} {u : TS} (h : EvA tA δ [d, d2, d3]) (k : StD u (((δ.set i (some d)).set j (some d2)).set l (some d3)) nx rt) : StD (tSeq (tPar3 i j l tA) u) δ nx rt := fun σ H HP s sl D q1 q2 =>
  h σ H HP s sl _ fun vs H1 P1 e1 r1 => by
    obtain ⟨a, r, rfl, ra, rr⟩ := r1
    obtain ⟨b, c, rfl, rb, rc⟩ := reps2 rr
    exact ⟨a, b, c, rfl, k _ H1 P1 e1.sub ((((sl.mono e1.part).set ra i).set rb j).set rc l) D (fun δ2 σ2 H2 P2 n2 e2 sl2 => q1 δ2 σ2 H2 P2 n2 (e1.trans e2) sl2) fun d v H2 P2 r e2 rv => q2 d v H2 P2 r (e1.trans e2) rv⟩
theorem pe_glob' {X : Cx} {x : Str} {i : Int} {pos : Pos} (hg : Gl X x) (hm : ∃ t, X.mg x = some (.int i t)) (hd : (x == ("__debug__" : Str)) = false := by decide) : PE X (.Name x pos) (tC (.int i)) := by
  obtain ⟨t, hm⟩ := hm
  exact pe_glob hg hm ⟨t, rfl⟩ hd
/-! rules by the written part's name, so that they serve in a comprehension's block too -/
section
variable {X : Cx} {K : PySem.W.Frag}
theorem kIsi (h : X.K = K) : CallR X (.builtin "isinstance") (rIsi K) := h ▸ call_isi
theorem kIxL (h : X.K = K) : IxR X (rIxL K) := h ▸ ix_list
theorem kIxT (h : X.K = K) : IxR X (rIxT K) := h ▸ ix_tup
theorem kLen (h : X.K = K) : CallR X (.builtin "len") (fun xs H Q => ∃ p ys, xs = [.ref p] ∧ (SqL K H p ys ∨ SqT K H p ys) ∧ Q (.int ys.length) H) := h ▸ call_len_seq
theorem kSum (h : X.K = K) (hc : X.calm = true) : CallR X (.builtin "sum") (rSum K) := h ▸ cr_sum hc
theorem kMax (h : X.K = K) (hc : X.calm = true) : CallR X (.builtin "max") (rMax K) := h ▸ cr_max hc
theorem kAll (h : X.K = K) (hc : X.calm = true) : CallR X (.builtin "all") (rAll K) := h ▸ cr_all hc
theorem kTupOf (h : X.K = K) : CallR X (.type "tuple") (fun xs H Q => ∃ p ys, xs = [.ref p] ∧ ((SqL K H p ys ∧ ∀ l, H l = none → Q (.ref l) (L2.upd H l (.tup ys))) ∨ (SqT K H p ys ∧ Q (.ref p) H))) := h ▸ call_tuple_of
theorem kEqD (h : X.K = K) (hu : X.A.units + 64 < cLine) : OpR X (compareOp .Eq) (rEqD K) := h ▸ op_eqD hu
theorem kNeD (h : X.K = K) (hu : X.A.units + 64 < cLine) : OpR X (compareOp .NotEq) (rNeD K) := h ▸ op_neD hu
theorem kCatT (h : X.K = K) : OpR X (binaryOp .Add) (rCatT K) := h ▸ op_catT
theorem kSlL (h : X.K = K) : SlR X (rSlL K) := h ▸ sl_list
theorem kSlT (h : X.K = K) : SlR X (rSlT K) := h ▸ sl_tup
theorem kpiL {tg l : Expr} {tl : TE} (h : X.K = K) (hl : PE X l tl) : PI X tg l (iList K tl) := h ▸ pi_list hl
theorem kpiT {tg l : Expr} {tl : TE} (h : X.K = K) (hl : PE X l tl) : PI X tg l (iTup K tl) := h ▸ pi_tup hl
end
section
variable {K : PySem.W.Frag} {δ : De} {ta : TE} {i : Int} {ds : List Dt}
theorem ty_ii (h : EvD ta δ (.int i)) : EvD (tCB (rIsi K) (tCons ta (tCons (tC (.ty "int")) tNil))) δ (.bl true) := ev_isi h (by simp [tyD]) (show kitB "int" "int" = some true by decide +kernel)
theorem ty_ib (h : EvD ta δ (.int i)) : EvD (tCB (rIsi K) (tCons ta (tCons (tC (.ty "bool")) tNil))) δ (.bl false) := ev_isi h (by simp [tyD]) (show kitB "int" "bool" = some false by decide +kernel)
theorem ty_it (h : EvD ta δ (.int i)) : EvD (tCB (rIsi K) (tCons ta (tCons (tC (.ty "tuple")) tNil))) δ (.bl false) := ev_isi h (by simp [tyD]) (show kitB "int" "tuple" = some false by decide +kernel)
theorem ty_tt (h : EvD ta δ (.tup ds)) : EvD (tCB (rIsi K) (tCons ta (tCons (tC (.ty "tuple")) tNil))) δ (.bl true) := ev_isi h (by simp [tyD]) (show kitB "tuple" "tuple" = some true by decide +kernel)
theorem ty_ti (h : EvD ta δ (.tup ds)) : EvD (tCB (rIsi K) (tCons ta (tCons (tC (.ty "int")) tNil))) δ (.bl false) := ev_isi h (by simp [tyD]) (show kitB "tuple" "int" = some false by decide +kernel)
end
/-! ### the simplest -/
theorem eb_known {t : TT} {δ : De} {b c : Bool} (h : EvB t δ b) (e : b = c) : EvB t δ c := e ▸ h
end Cw
end
section
set_option linter.all false
set_option maxRecDepth 100000
set_option maxHeartbeats 4000000
set_option exponentiation.threshold 100000
namespace Cw
open PySem PySem.Spec PyProof.Rows L2
def p_is_number (ds : List Dt) (d : Dt) : Prop := ∃ i : Int, ds = [.int i] ∧ d = .bl true
def p_common (ds : List Dt) (d : Dt) : Prop := ∃ a b : Int, ds = [.int a, .int b] ∧ d = .int (Int.gcd a b : Int)
def p_is_fraction (ds : List Dt) (d : Dt) : Prop := ∃ q : Rat, ds = [fr q] ∧ d = .bl true
def p_pair_of (ds : List Dt) (d : Dt) : Prop := ∃ q : Rat, ds = [fr q] ∧ d = .tup [.int q.num, .int (q.den : Int)]
def p_lowest (ds : List Dt) (d : Dt) : Prop := ∃ t b : Int, b ≠ 0 ∧ b.natAbs < 2 ^ 9000 ∧ ds = [.int t, .int b] ∧ d = fr (Rat.divInt t b)
def p_sum_of_two (ds : List Dt) (d : Dt) : Prop := ∃ a b : Rat, Sm a ∧ Sm b ∧ ds = [fr a, fr b] ∧ d = fr (a + b)
def p_product (ds : List Dt) (d : Dt) : Prop := ∃ a b : Rat, Sm a ∧ Sm b ∧ ds = [fr a, fr b] ∧ d = fr (a * b)
section
variable {P : Program} {w : World} {K : PySem.W.Frag} {mg : Str → Option Value} {base : Heap}
theorem gcd_loop {t : TT} {a u : TS} {nx : De → Prop} {rt : Dt → Prop} {x y : Int} {i j : Nat} {δ0 : De} (hi : i < δ0.length) (hj : j < δ0.length) (hij : i ≠ j)
    (ht : ∀ δ b, δ[j]? = some (some (Dt.int b)) → EvB t δ (!decide (b = 0)))
    (ha : ∀ δ a0 b0 nx, δ[i]? = some (some (Dt.int a0)) → δ[j]? = some (some (Dt.int b0)) → b0 ≠ 0 → nx ((δ.set i (some (.int b0))).set j (some (.int (a0.fmod b0)))) → StD a δ nx rt)
    (hu : ∀ z : Int, z.natAbs = Int.gcd x y → StD u ((δ0.set i (some (.int z))).set j (some (.int 0))) nx rt) (h0 : δ0[i]? = some (some (.int x))) (h1 : δ0[j]? = some (some (.int y))) : StD (tSeq (tWhile t a) u) δ0 nx rt := by
  refine st_while (fun m δ => ∃ a b : Int, δ = (δ0.set i (some (.int a))).set j (some (.int b)) ∧ b.natAbs = m ∧ Int.gcd a b = Int.gcd x y) y.natAbs ⟨x, y, ?_, rfl, rfl⟩ ?_
  · refine List.ext_getElem? fun k => ?_
    rw [List.getElem?_set, List.getElem?_set]
    by_cases e1 : j = k
    · subst e1; simp [hj, (List.getElem?_eq_some_iff.mp h1).2]
    · by_cases e2 : i = k
      · subst e2; simp [e1, hi, (List.getElem?_eq_some_iff.mp h0).2]
      · simp [e1, e2]
  · rintro m δ1 ⟨a1, b1, rfl, hm, hg⟩
    have g1 : ((δ0.set i (some (Dt.int a1))).set j (some (.int b1)))[j]? = some (some (.int b1)) := List.getElem?_set_self (by simpa using hj)
    have g0 : ((δ0.set i (some (Dt.int a1))).set j (some (.int b1)))[i]? = some (some (.int a1)) := by
      rw [List.getElem?_set_ne (Ne.symm hij), List.getElem?_set_self hi]
    refine ⟨_, ht _ b1 g1, fun hc => ?_, fun hc => ?_⟩
    · have hb : b1 ≠ 0 := by simpa using hc
      refine ha _ a1 b1 _ g0 g1 hb ⟨(a1.fmod b1).natAbs, by rw [← hm]; exact fmod_lt a1 b1 hb, b1, a1.fmod b1, ?_, rfl, (gcd_step a1 b1).trans hg⟩
      rw [List.set_comm _ _ (Ne.symm hij), List.set_set, List.set_set]
    · have hb : b1 = 0 := by simpa using hc
      subst hb
      exact hu a1 (by rw [← hg]; simp)

abbrev s_is_number : Stmt := topS 7
abbrev N_is_number : List Str := ["thing"]
theorem sc_is_number : FnScope N_is_number ["thing"] (defScope s_is_number) := ⟨rfl, rfl, rfl, by decide +kernel, rfl, by decide +kernel, by decide +kernel⟩
theorem ok_is_number (B : Bn mg) (F : Fu K mg "is_number" s_is_number ["thing"])  : Dn P w K mg base "is_number" ["thing"] 1 (spP p_is_number) := by
  refine F.ok sc_is_number (by rintro _ _ ⟨i, rfl, rfl⟩; rfl) (fun f cdv A outer s H E hr => ?_)
  have hu := hu_of hr
  have hu64 := hr.units
  refine ⟨_, (pss_one (ps_ret (pe_and (pe_callB (kIsi (K := K) rfl) (by rfl) B.isinstance PyProof.Rows.boot_isinstance (pa_cons (pv 0) (pa_cons (pe_bltn (v := .ty "int") (by rfl) B.int PyProof.Rows.boot_int rfl) pa_nil))) (pe_one (pe_not (pe_callB (kIsi (K := K) rfl) (by rfl) B.isinstance PyProof.Rows.boot_isinstance (pa_cons (pv 0) (pa_cons (pe_bltn (v := .ty "bool") (by rfl) B.bool PyProof.Rows.boot_bool rfl) pa_nil)))))))), fun ds d hp => ?_⟩
  obtain ⟨i, rfl, rfl⟩ := hp
  exact st_ret (ev_andV (ty_ii (ev_var rfl)) fun _ => ev_notV (ty_ib (ev_var rfl))) rfl

abbrev s_common : Stmt := topS 8
abbrev N_common : List Str := ["one", "other"]
theorem sc_common : FnScope N_common ["one", "other"] (defScope s_common) := ⟨rfl, rfl, rfl, by decide +kernel, rfl, by decide +kernel, by decide +kernel⟩
theorem ok_common (B : Bn mg) (F : Fu K mg "common" s_common ["one", "other"])  : Dn P w K mg base "common" ["one", "other"] 1 (spP p_common) := by
  refine F.ok sc_common (by rintro _ _ ⟨x, y, rfl, rfl⟩; rfl) (fun f cdv A outer s H E hr => ?_)
  have hu := hu_of hr
  have hu64 := hr.units
  refine ⟨_, (pss_cons (ps_while PassesOwn.never (pt_cmpR op_ne (pv 1) pe_int (nomark _)) (pss_one (ps_par (i := 0) (j := 1) rfl sc_common.nd rfl rfl (by decide) rfl rfl (pa_cons (pv 1) (pa_cons (pe_op op_modN (pv 0) (pv 1)) pa_nil)) rfl)))
      (pss_one (ps_ret (pe_callB call_abs (by rfl) B.abs PyProof.Rows.boot_abs (pa_cons (pv 0) pa_nil))))), fun ds d hp => ?_⟩
  obtain ⟨x, y, rfl, rfl⟩ := hp
  refine gcd_loop (i := 0) (j := 1) (x := x) (y := y) (by show 0 < 2; decide) (by show 1 < 2; decide) (by decide) (fun δ b h => eb_test (ev_neI (ev_var h) ev_int)) (fun δ a b nx h0 h1 hb hn => st_par1 (ea_cons (ev_var h1) (ea_cons (ev_mod (ev_var h0) (ev_var h1) hb) ea_nil)) hn) (fun z hz => ?_) rfl rfl
  exact st_ret (ev_abs (ea_cons (ev_var rfl) ea_nil)) (by rw [hz])

theorem fr_cases (q : Rat) : (q.den = 1 ∧ fr q = .int q.num) ∨ (q.den ≠ 1 ∧ fr q = .tup [.int q.num, .int (q.den : Int)]) := by
  unfold fr
  by_cases h : q.den = 1
  · exact .inl ⟨h, if_pos h⟩
  · exact .inr ⟨h, if_neg h⟩

abbrev s_is_fraction : Stmt := topS 9
abbrev N_is_fraction : List Str := ["thing"]
theorem sc_is_fraction : FnScope N_is_fraction ["thing"] (defScope s_is_fraction) := ⟨rfl, rfl, rfl, by decide +kernel, rfl, by decide +kernel, by decide +kernel⟩
theorem ok_is_fraction (B : Bn mg) (F : Fu K mg "is_fraction" s_is_fraction ["thing"]) (h_is_number : Dn P w K mg base "is_number" ["thing"] 1 (spP p_is_number)) (h_common : Dn P w K mg base "common" ["one", "other"] 1 (spP p_common)) : Dn P w K mg base "is_fraction" ["thing"] 2 (spP p_is_fraction) := by
  refine F.ok sc_is_fraction (by rintro _ _ ⟨q, rfl, rfl⟩; rfl) (fun f cdv A outer s H E hr => ?_)
  have hu := hu_of hr
  have hu64 := hr.units
  refine ⟨_, (pss_cons (ps_if (pt_not (pt_val (pe_callB (kIsi (K := K) rfl) (by rfl) B.isinstance PyProof.Rows.boot_isinstance (pa_cons (pv 0) (pa_cons (pe_bltn (v := .ty "tuple") (by rfl) B.tuple PyProof.Rows.boot_tuple rfl) pa_nil))))) (pss_one (ps_ret (pe_fn h_is_number (hr.mono (by decide)) (by rfl) (pa_cons (pv 0) pa_nil)))) pss_nil)
      (pss_cons (ps_if (pw_or (pt_cmpR op_ne (pe_callB (kLen (K := K) rfl) (by rfl) B.len PySem.boot_len (pa_cons (pv 0) pa_nil)) pe_int (nomark _)) (pw_or (pt_not (pt_val (pe_fn h_is_number (hr.mono (by decide)) (by rfl) (pa_cons (pe_ix (kIxT (K := K) rfl) (pv 0) pe_int (fun _ _ => rfl)) pa_nil)))) (pw_or1 (pt_not (pt_val (pe_fn h_is_number (hr.mono (by decide)) (by rfl) (pa_cons (pe_ix (kIxT (K := K) rfl) (pv 0) pe_int (fun _ _ => rfl)) pa_nil))))))).pt (pss_one (ps_ret pe_bl)) pss_nil)
      (pss_one (ps_ret (pe_and (pe_cmpR op_gt (pe_ix (kIxT (K := K) rfl) (pv 0) pe_int (fun _ _ => rfl)) pe_int (nomark _)) (pe_one (pe_cmpR op_eq (pe_fn h_common (hr.mono (by decide)) (by rfl) (pa_cons (pe_ix (kIxT (K := K) rfl) (pv 0) pe_int (fun _ _ => rfl)) (pa_cons (pe_ix (kIxT (K := K) rfl) (pv 0) pe_int (fun _ _ => rfl)) pa_nil))) pe_int (nomark _)))))))), fun ds d hp => ?_⟩
  obtain ⟨q, rfl, rfl⟩ := hp
  rcases fr_cases q with ⟨hd, e⟩ | ⟨hd, e⟩
  · rw [e]
    refine st_seq (nx1 := fun _ => False) (st_if (eb_not (eb_B (ty_it (ev_var rfl)))) (fun _ => st_ret (ev_call (ea_cons (ev_var rfl) ea_nil) ⟨_, rfl, rfl⟩) rfl) (fun z => Bool.noConfusion z)) (fun _ z => z.elim)
  · rw [e]
    have h1 : 1 < (q.den : Int) := by have := q.den_nz; omega
    refine st_ifF (eb_not (eb_B (ty_tt (ev_var rfl)))) ?_
    refine st_ifF (eb_known (eb_or (eb_test (ev_neI (ev_lenT (ea_cons (ev_var rfl) ea_nil)) ev_int)) fun _ => eb_or (eb_not (eb_B (ev_call (ea_cons (ev_ixT (ev_var rfl) ev_int (n := 0) rfl rfl) ea_nil) ⟨_, rfl, rfl⟩))) fun _ => eb_not (eb_B (ev_call (ea_cons (ev_ixT (ev_var rfl) ev_int (n := 1) rfl rfl) ea_nil) ⟨_, rfl, rfl⟩))) rfl) ?_
    refine st_ret (ev_andV (ev_gt (ev_ixT (ev_var rfl) ev_int (n := 1) rfl rfl) ev_int) fun _ => ev_eqI (ev_call (ea_cons (ev_ixT (ev_var rfl) ev_int (n := 0) rfl rfl) (ea_cons (ev_ixT (ev_var rfl) ev_int (n := 1) rfl rfl) ea_nil)) ⟨_, _, rfl, rfl⟩) ev_int) ?_
    have hr : (Int.gcd q.num (q.den : Int) : Int) = 1 := by
      have : Int.gcd q.num (q.den : Int) = 1 := q.reduced
      rw [this]; rfl
    rw [hr, decide_eq_true h1]
    rfl

abbrev s_pair_of : Stmt := topS 10
abbrev N_pair_of : List Str := ["a"]
theorem sc_pair_of : FnScope N_pair_of ["a"] (defScope s_pair_of) := ⟨rfl, rfl, rfl, by decide +kernel, rfl, by decide +kernel, by decide +kernel⟩
theorem ok_pair_of (B : Bn mg) (F : Fu K mg "pair_of" s_pair_of ["a"])  : Dn P w K mg base "pair_of" ["a"] 1 (spP p_pair_of) := by
  refine F.ok sc_pair_of (by rintro _ _ ⟨q, rfl, rfl⟩; rfl) (fun f cdv A outer s H E hr => ?_)
  have hu := hu_of hr
  have hu64 := hr.units
  refine ⟨_, (pss_one (ps_ret (pe_ifExp (pt_val (pe_callB (kIsi (K := K) rfl) (by rfl) B.isinstance PyProof.Rows.boot_isinstance (pa_cons (pv 0) (pa_cons (pe_bltn (v := .ty "tuple") (by rfl) B.tuple PyProof.Rows.boot_tuple rfl) pa_nil)))) (pv 0) (pe_tup (pa_cons (pv 0) (pa_cons pe_int pa_nil)))))), fun ds d hp => ?_⟩
  obtain ⟨q, rfl, rfl⟩ := hp
  rcases fr_cases q with ⟨hd, e⟩ | ⟨hd, e⟩
  · rw [e]
    refine st_ret (ev_if (eb_B (ty_it (ev_var rfl))) (fun z => Bool.noConfusion z) fun _ => ev_tup (ea_cons (ev_var rfl) (ea_cons ev_int ea_nil))) ?_
    rw [hd]; rfl
  · rw [e]
    exact st_ret (ev_if (eb_B (ty_tt (ev_var rfl))) (fun _ => ev_var rfl) fun z => Bool.noConfusion z) rfl

theorem abs_low {m q b : Int} (hm : m ≠ 0) (h : b = q * m) (hq : q ≠ 0) (hb : b.natAbs < 2 ^ 9000) : m.natAbs < 2 ^ 9000 := by
  have e : b.natAbs = q.natAbs * m.natAbs := by rw [h, Int.natAbs_mul]
  have : m.natAbs ≤ b.natAbs := by rw [e]; exact Nat.le_mul_of_pos_left _ (Int.natAbs_pos.mpr hq)
  exact Nat.lt_of_le_of_lt this hb
theorem den_ne (q : Rat) : (q.den : Int) ≠ 0 := by have := q.den_nz; omega

abbrev s_lowest : Stmt := topS 11
abbrev N_lowest : List Str := ["top", "bottom", "by"]
theorem sc_lowest : FnScope N_lowest ["top", "bottom"] (defScope s_lowest) := ⟨rfl, rfl, rfl, by decide +kernel, rfl, by decide +kernel, by decide +kernel⟩
theorem ok_lowest (B : Bn mg) (F : Fu K mg "lowest" s_lowest ["top", "bottom"]) (h_common : Dn P w K mg base "common" ["one", "other"] 1 (spP p_common)) : Dn P w K mg base "lowest" ["top", "bottom"] 2 (spP p_lowest) := by
  refine F.ok sc_lowest (by rintro _ _ ⟨t, b, _, _, rfl, rfl⟩; rfl) (fun f cdv A outer s H E hr => ?_)
  have hu := hu_of hr
  have hu64 := hr.units
  refine ⟨_, (pss_cons (ps_set (i := 2) sc_lowest.nd rfl (.inl rfl) (pe_ifExp (pt_cmpR op_gt (pv 1) pe_int (nomark _)) (pe_fn h_common (hr.mono (by decide)) (by rfl) (pa_cons (pv 0) (pa_cons (pv 1) pa_nil))) (pe_un un_neg (pe_fn h_common (hr.mono (by decide)) (by rfl) (pa_cons (pv 0) (pa_cons (pv 1) pa_nil))))))
      (pss_one (ps_ret (pe_ifExp (pt_cmpR op_eq (pe_op op_fdivP (pv 1) (pv 2)) pe_int (nomark _)) (pe_op op_fdivP (pv 0) (pv 2)) (pe_tup (pa_cons (pe_op op_fdivP (pv 0) (pv 2)) (pa_cons (pe_op op_fdivP (pv 1) (pv 2)) pa_nil))))))), fun ds d hp => ?_⟩
  obtain ⟨t, b, hb, hbb, rfl, rfl⟩ := hp
  obtain ⟨m, hm, h1, h2, h3⟩ := low_of (top := t) hb
  have hmb := abs_low hm h2 (den_ne _) hbb
  refine st_set (d := .int m) (ev_if (eb_test (ev_gt (ev_var rfl) ev_int)) (fun hc => ?_) fun hc => ?_) ?_
  · have hc' : 0 < b := of_decide_eq_true hc
    refine ev_cast (ev_call (ea_cons (ev_var rfl) (ea_cons (ev_var rfl) ea_nil)) ⟨_, _, rfl, rfl⟩) ?_
    rw [h3, if_pos hc']
  · have hc' : ¬ 0 < b := of_decide_eq_false hc
    refine ev_cast (ev_neg (ev_call (ea_cons (ev_var rfl) (ea_cons (ev_var rfl) ea_nil)) ⟨_, _, rfl, rfl⟩)) ?_
    rw [h3, if_neg hc']
  · have ef1 : t.fdiv m = (Rat.divInt t b).num := fdiv_of hm (by rw [Int.mul_comm]; exact h1)
    have ef2 : b.fdiv m = ((Rat.divInt t b).den : Int) := fdiv_of hm (by rw [Int.mul_comm]; exact h2)
    have n1 := ev_fdiv (δ := [some (.int t), some (.int b), some (.int m)]) (ev_var (i := 0) rfl) (ev_var (i := 2) rfl) (div_small (i := t) hm hmb)
    have n2 := ev_fdiv (δ := [some (.int t), some (.int b), some (.int m)]) (ev_var (i := 1) rfl) (ev_var (i := 2) rfl) (div_small (i := b) hm hmb)
    rw [ef1] at n1
    rw [ef2] at n2
    refine st_ret (d := fr (Rat.divInt t b)) (ev_if (eb_test (ev_eqI n2 ev_int)) (fun hc => ?_) fun hc => ?_) rfl
    · have hc' : ((Rat.divInt t b).den : Int) = 1 := of_decide_eq_true hc
      have e : fr (Rat.divInt t b) = .int (Rat.divInt t b).num := if_pos (by omega)
      rw [e]
      exact n1
    · have hc' : ¬ ((Rat.divInt t b).den : Int) = 1 := of_decide_eq_false hc
      have e : fr (Rat.divInt t b) = .tup [.int (Rat.divInt t b).num, .int ((Rat.divInt t b).den : Int)] := if_neg (by omega)
      rw [e]
      exact ev_tup (ea_cons n1 (ea_cons n2 ea_nil))

theorem sm_num {q : Rat} (h : Sm q) : q.num.natAbs < 2 ^ 4000 := h.1
theorem sm_den {q : Rat} (h : Sm q) : ((q.den : Int)).natAbs < 2 ^ 4000 := h.2
theorem den2 {a b : Rat} (ha : Sm a) (hb : Sm b) : (((a.den : Int) * (b.den : Int))).natAbs < 2 ^ 9000 :=
  Nat.lt_of_lt_of_le (wide_lt (sm_den ha) (sm_den hb)) (Nat.pow_le_pow_right (by decide) (by decide))
theorem p8 {x y : Int} (hx : x.natAbs < 2 ^ 4000) (hy : y.natAbs < 2 ^ 4000) : CMulW x y := mul_ok hx hy (by decide)

abbrev s_sum_of_two : Stmt := topS 12
abbrev N_sum_of_two : List Str := ["a", "b", "top", "bottom", "other", "under"]
theorem sc_sum_of_two : FnScope N_sum_of_two ["a", "b"] (defScope s_sum_of_two) := ⟨rfl, rfl, rfl, by decide +kernel, rfl, by decide +kernel, by decide +kernel⟩
theorem ok_sum_of_two (B : Bn mg) (F : Fu K mg "sum_of_two" s_sum_of_two ["a", "b"]) (h_lowest : Dn P w K mg base "lowest" ["top", "bottom"] 2 (spP p_lowest)) (h_pair_of : Dn P w K mg base "pair_of" ["a"] 1 (spP p_pair_of)) : Dn P w K mg base "sum_of_two" ["a", "b"] 3 (spP p_sum_of_two) := by
  refine F.ok sc_sum_of_two (by rintro _ _ ⟨a, b, _, _, rfl, rfl⟩; rfl) (fun f cdv A outer s H E hr => ?_)
  have hu := hu_of hr
  have hu64 := hr.units
  refine ⟨_, (pss_cons (ps_asg (pe_tup (pa_cons (pe_fn h_pair_of (hr.mono (by decide)) (by rfl) (pa_cons (pv 0) pa_nil)) (pa_cons (pe_fn h_pair_of (hr.mono (by decide)) (by rfl) (pa_cons (pv 1) pa_nil)) pa_nil))) (pg_tup rfl (pgs_cons (pg_tup rfl (pgs_cons (pg_name (i := 2) sc_sum_of_two.nd rfl (.inl rfl)) (pgs_cons (pg_name (i := 3) sc_sum_of_two.nd rfl (.inl rfl)) pgs_nil))) (pgs_cons (pg_tup rfl (pgs_cons (pg_name (i := 4) sc_sum_of_two.nd rfl (.inl rfl)) (pgs_cons (pg_name (i := 5) sc_sum_of_two.nd rfl (.inl rfl)) pgs_nil))) pgs_nil))))
      (pss_one (ps_ret (pe_fn h_lowest (hr.mono (by decide)) (by rfl) (pa_cons (pe_op op_add (pe_op op_mulW (pv 2) (pv 5)) (pe_op op_mulW (pv 4) (pv 3))) (pa_cons (pe_op op_mulW (pv 3) (pv 5)) pa_nil)))))), fun ds d hp => ?_⟩
  obtain ⟨a, b, ha, hb, rfl, rfl⟩ := hp
  refine st_asg (ev_tup (ea_cons (ev_call (ea_cons (ev_var rfl) ea_nil) ⟨_, rfl, rfl⟩) (ea_cons (ev_call (ea_cons (ev_var rfl) ea_nil) ⟨_, rfl, rfl⟩) ea_nil)))
    (tg_tup (tgs_cons (tg_tup (tgs_cons tg_name (tgs_cons tg_name tgs_nil)) rfl) (tgs_cons (tg_tup (tgs_cons tg_name (tgs_cons tg_name tgs_nil)) rfl) tgs_nil)) rfl) ?_
  refine st_ret (ev_call (ea_cons (ev_add (ev_mul (ev_var rfl) (ev_var rfl) (p8 (sm_num ha) (sm_den hb))) (ev_mul (ev_var rfl) (ev_var rfl) (p8 (sm_num hb) (sm_den ha)))) (ea_cons (ev_mul (ev_var rfl) (ev_var rfl) (p8 (sm_den ha) (sm_den hb))) ea_nil)) ⟨_, _, Int.mul_ne_zero (den_ne a) (den_ne b), den2 ha hb, rfl, rfl⟩) ?_
  rw [add_low]

abbrev s_product : Stmt := topS 13
abbrev N_product : List Str := ["a", "b", "top", "bottom", "other", "under"]
theorem sc_product : FnScope N_product ["a", "b"] (defScope s_product) := ⟨rfl, rfl, rfl, by decide +kernel, rfl, by decide +kernel, by decide +kernel⟩
theorem ok_product (B : Bn mg) (F : Fu K mg "product" s_product ["a", "b"]) (h_lowest : Dn P w K mg base "lowest" ["top", "bottom"] 2 (spP p_lowest)) (h_pair_of : Dn P w K mg base "pair_of" ["a"] 1 (spP p_pair_of)) : Dn P w K mg base "product" ["a", "b"] 3 (spP p_product) := by
  refine F.ok sc_product (by rintro _ _ ⟨a, b, _, _, rfl, rfl⟩; rfl) (fun f cdv A outer s H E hr => ?_)
  have hu := hu_of hr
  have hu64 := hr.units
  refine ⟨_, (pss_cons (ps_asg (pe_tup (pa_cons (pe_fn h_pair_of (hr.mono (by decide)) (by rfl) (pa_cons (pv 0) pa_nil)) (pa_cons (pe_fn h_pair_of (hr.mono (by decide)) (by rfl) (pa_cons (pv 1) pa_nil)) pa_nil))) (pg_tup rfl (pgs_cons (pg_tup rfl (pgs_cons (pg_name (i := 2) sc_product.nd rfl (.inl rfl)) (pgs_cons (pg_name (i := 3) sc_product.nd rfl (.inl rfl)) pgs_nil))) (pgs_cons (pg_tup rfl (pgs_cons (pg_name (i := 4) sc_product.nd rfl (.inl rfl)) (pgs_cons (pg_name (i := 5) sc_product.nd rfl (.inl rfl)) pgs_nil))) pgs_nil))))
      (pss_one (ps_ret (pe_fn h_lowest (hr.mono (by decide)) (by rfl) (pa_cons (pe_op op_mulW (pv 2) (pv 4)) (pa_cons (pe_op op_mulW (pv 3) (pv 5)) pa_nil)))))), fun ds d hp => ?_⟩
  obtain ⟨a, b, ha, hb, rfl, rfl⟩ := hp
  refine st_asg (ev_tup (ea_cons (ev_call (ea_cons (ev_var rfl) ea_nil) ⟨_, rfl, rfl⟩) (ea_cons (ev_call (ea_cons (ev_var rfl) ea_nil) ⟨_, rfl, rfl⟩) ea_nil)))
    (tg_tup (tgs_cons (tg_tup (tgs_cons tg_name (tgs_cons tg_name tgs_nil)) rfl) (tgs_cons (tg_tup (tgs_cons tg_name (tgs_cons tg_name tgs_nil)) rfl) tgs_nil)) rfl) ?_
  refine st_ret (ev_call (ea_cons (ev_mul (ev_var rfl) (ev_var rfl) (p8 (sm_num ha) (sm_num hb))) (ea_cons (ev_mul (ev_var rfl) (ev_var rfl) (p8 (sm_den ha) (sm_den hb))) ea_nil)) ⟨_, _, Int.mul_ne_zero (den_ne a) (den_ne b), den2 ha hb, rfl, rfl⟩) ?_
  rw [mul_low]

end
end Cw
end
section
set_option linter.all false
set_option maxRecDepth 100000
set_option maxHeartbeats 4000000
set_option exponentiation.threshold 100000
namespace Cw
open PySem PySem.Spec PyProof.Rows L2
/-! ### sums of products of whole numbers -/
def prodI (row : List Int) : Int := row.foldl (· * ·) 1
def sumI (rows : List (List Int)) : Int := rows.foldl (fun s row => s + prodI row) 0
theorem prod_cast : ∀ (row : List Int) (m : Int), (row.map ic).foldl (· * ·) (ic m) = ic (row.foldl (· * ·) m)
  | [], m => rfl
  | x :: r, m => by
    show (r.map ic).foldl (· * ·) (ic m * ic x) = _
    rw [show ic m * ic x = ic (m * x) by simp [ic]]
    exact prod_cast r (m * x)
theorem sum_cast : ∀ (rows : List (List Int)) (s : Int), (rows.map (List.map ic)).foldl (fun s row => s + prodL row) (ic s) = ic (rows.foldl (fun s row => s + prodI row) s)
  | [], s => rfl
  | row :: r, s => by
    show (r.map (List.map ic)).foldl (fun s row => s + prodL row) (ic s + prodL (row.map ic)) = _
    have e : prodL (row.map ic) = ic (prodI row) := prod_cast row 1
    rw [e, show ic s + ic (prodI row) = ic (s + prodI row) by simp [ic]]
    exact sum_cast r (s + prodI row)
theorem sumL_int (rows : List (List Int)) : sumL (rows.map (List.map ic)) = ic (sumI rows) := sum_cast rows 0
def rowB : List Int → Prop
  | [] => True
  | x :: r => x.natAbs < 2 ^ 200 ∧ rowB r
def rowsB : List (List Int) → Prop
  | [] => True
  | r :: s => r.length ≤ 4 ∧ rowB r ∧ rowsB s
theorem allOv_of : ∀ {row : List Int}, rowB row → AllOv 1 (row.map ic) (row.map fun _ => (0, 200))
  | [], _ => trivial
  | x :: r, h => ⟨.int h.1, allOv_of h.2⟩
theorem allOvs_of : ∀ {rows : List (List Int)}, rowsB rows → AllOvs 1 (rows.map (List.map ic)) (rows.map fun row => row.map fun _ => (0, 200))
  | [], _ => trivial
  | r :: s, h => ⟨allOv_of h.2.1, allOvs_of h.2.2⟩
theorem ws_sum (row : List Int) : wsum (row.map fun _ => (0, 200)) = 0 ∧ nsum (row.map fun _ => (0, 200)) = 200 * row.length := by
  induction row with
  | nil => exact ⟨rfl, rfl⟩
  | cons x r ih =>
    obtain ⟨h1, h2⟩ := ih
    constructor
    · show (0 : Nat) + wsum (r.map fun _ => (0, 200)) = 0
      omega
    · show 200 + nsum (r.map fun _ => (0, 200)) = _
      rw [h2, List.length_cons]
      omega
theorem chk_of : ∀ {rows : List (List Int)}, rowsB rows → chkRows 1 0 801 (rows.map fun row => row.map fun _ => (0, 200)) = true
  | [], _ => rfl
  | r :: s, h => by
    obtain ⟨w1, w2⟩ := ws_sum r
    have ih := chk_of h.2.2
    have hl := h.1
    unfold chkRows at ih ⊢
    rw [List.map_cons, List.all_cons, ih, w1, w2, Bool.and_true, Bool.and_eq_true, decide_eq_true_eq, decide_eq_true_eq]
    omega
theorem ok_ints {rows : List (List Int)} (h : rowsB rows) (hl : rows.length ≤ 20) : okRows 0 (rows.map (List.map ic)) := by
  refine (ok_rows (e := 1) _ 0 801 (by decide) (by decide) (allOvs_of h) ?_).1
  rw [chk_of h, List.length_map, Bool.true_and, Bool.and_eq_true, decide_eq_true_eq, decide_eq_true_eq]
  omega
abbrev le4 {α : Type} {r : List α} (h : Nat.ble r.length 4 = true := by rfl) : r.length ≤ 4 := Nat.le_of_ble_eq_true h
def p_summed (ds : List Dt) (d : Dt) : Prop := ∃ rows : List (List Rat), okRows 0 rows ∧ ds = [.lst (rows.map fun r => .tup (r.map fr))] ∧ d = fr (sumL rows)
theorem ints_rows {rows : List (List Int)} (f : List Dt → Dt) : rows.map (fun r => f (r.map Dt.int)) = (rows.map (List.map ic)).map fun r => f (r.map fr) := by
  rw [List.map_map]
  refine List.map_congr_left fun r _ => ?_
  show f _ = f _
  rw [List.map_map]
  rfl
theorem summed_int (rows : List (List Int)) (h : rowsB rows) (hl : rows.length ≤ 20 := by exact Nat.le_of_ble_eq_true rfl) : p_summed [.lst (rows.map fun r => .tup (r.map Dt.int))] (.int (sumI rows)) :=
  ⟨rows.map (List.map ic), ok_ints h hl, by rw [ints_rows (fun l => .tup l)], by rw [sumL_int]; rfl⟩
/-! ### curves as data -/
def cv (c : Cv) : Dt := .tup [.int c.a1, .int c.a2, .int c.a3, .int c.a4, .int c.a6]
def Dt.pt : Pt → Dt
  | none => .non
  | some (x, y) => .tup [fr x, fr y]
structure Cs (c : Cv) : Prop where
  h1 : c.a1.natAbs < 2 ^ 20
  h2 : c.a2.natAbs < 2 ^ 20
  h3 : c.a3.natAbs < 2 ^ 20
  h4 : c.a4.natAbs < 2 ^ 20
  h6 : c.a6.natAbs < 2 ^ 20
theorem up200 {x : Int} {n : Nat} (h : x.natAbs < 2 ^ n) (hn : n ≤ 200) : x.natAbs < 2 ^ 200 := Nat.lt_of_lt_of_le h (Nat.pow_le_pow_right (by decide) hn)
theorem tri2b {a b : Int} {n : Nat} (ha : a.natAbs < 2 ^ n) (hb : b.natAbs < 2 ^ n) : (a + 4 * b).natAbs < 2 ^ (n + 3) := by
  rw [Nat.pow_add]
  omega
theorem tri2c {a b : Int} {n : Nat} (ha : a.natAbs < 2 ^ n) (hb : b.natAbs < 2 ^ n) : (2 * a + b).natAbs < 2 ^ (n + 3) := by
  rw [Nat.pow_add]
  omega
theorem tri5b {a b c d e : Int} {n : Nat} (ha : a.natAbs < 2 ^ n) (hb : b.natAbs < 2 ^ n) (hc : c.natAbs < 2 ^ n) (hd : d.natAbs < 2 ^ n) (he : e.natAbs < 2 ^ n) : (a + 4 * b - c + d - e).natAbs < 2 ^ (n + 3) := by
  have := tri5 (Nat.le_of_lt_succ (Nat.lt_succ_of_lt ha)) (Nat.le_of_lt_succ (Nat.lt_succ_of_lt hb)) (Nat.le_of_lt_succ (Nat.lt_succ_of_lt hc)) (Nat.le_of_lt_succ (Nat.lt_succ_of_lt hd)) (Nat.le_of_lt_succ (Nat.lt_succ_of_lt he))
  have h2 := tri5 (Nat.le_pred_of_lt ha) (Nat.le_pred_of_lt hb) (Nat.le_pred_of_lt hc) (Nat.le_pred_of_lt hd) (Nat.le_pred_of_lt he)
  have h3 : 0 < 2 ^ n := Nat.two_pow_pos n
  rw [Nat.pow_add]
  omega
theorem Cs.b2 {c : Cv} (h : Cs c) : c.b2.natAbs < 2 ^ 70 := Nat.lt_of_lt_of_le (tri2b (n := 40) (wide_lt h.h1 h.h1) (Nat.lt_of_lt_of_le h.h2 (by decide))) (by decide)
theorem Cs.b4 {c : Cv} (h : Cs c) : c.b4.natAbs < 2 ^ 70 := Nat.lt_of_lt_of_le (tri2c (n := 40) (Nat.lt_of_lt_of_le h.h4 (by decide)) (wide_lt h.h1 h.h3)) (by decide)
theorem Cs.b6 {c : Cv} (h : Cs c) : c.b6.natAbs < 2 ^ 70 := Nat.lt_of_lt_of_le (tri2b (n := 40) (wide_lt h.h3 h.h3) (Nat.lt_of_lt_of_le h.h6 (by decide))) (by decide)
theorem Cs.b8 {c : Cv} (h : Cs c) : c.b8.natAbs < 2 ^ 70 := by
  have e : 4 * c.a2 * c.a6 = 4 * (c.a2 * c.a6) := by rw [Int.mul_assoc]
  unfold Cv.b8
  rw [e]
  exact Nat.lt_of_lt_of_le (tri5b (n := 60) (wide_lt (wide_lt h.h1 h.h1) h.h6) (Nat.lt_of_lt_of_le (wide_lt h.h2 h.h6) (by decide)) (wide_lt (wide_lt h.h1 h.h3) h.h4) (wide_lt (wide_lt h.h2 h.h3) h.h3) (Nat.lt_of_lt_of_le (wide_lt h.h4 h.h4) (by decide))) (by decide)
theorem Cb.cs {c : Cv} (h : Cb c) : Cs c := ⟨Nat.lt_of_le_of_lt h.h1 (by decide), Nat.lt_of_le_of_lt h.h2 (by decide), Nat.lt_of_le_of_lt h.h3 (by decide), Nat.lt_of_le_of_lt h.h4 (by decide), Nat.lt_of_le_of_lt h.h6 (by decide)⟩
def rB2 (c : Cv) : List (List Int) := [[c.a1, c.a1], [4, c.a2]]
def rB4 (c : Cv) : List (List Int) := [[2, c.a4], [c.a1, c.a3]]
def rB6 (c : Cv) : List (List Int) := [[c.a3, c.a3], [4, c.a6]]
def rB8 (c : Cv) : List (List Int) := [[c.a1, c.a1, c.a6], [4, c.a2, c.a6], [-1, c.a1, c.a3, c.a4], [c.a2, c.a3, c.a3], [-1, c.a4, c.a4]]
def rD (c : Cv) : List (List Int) := [[9, c.b2, c.b4, c.b6], [-1, c.b2, c.b2, c.b8], [-8, c.b4, c.b4, c.b4], [-27, c.b6, c.b6]]
theorem sB2 (c : Cv) : sumI (rB2 c) = c.b2 := by simp only [sumI, rB2, prodI, List.foldl, Cv.b2]; grind
theorem sB4 (c : Cv) : sumI (rB4 c) = c.b4 := by simp only [sumI, rB4, prodI, List.foldl, Cv.b4]; grind
theorem sB6 (c : Cv) : sumI (rB6 c) = c.b6 := by simp only [sumI, rB6, prodI, List.foldl, Cv.b6]; grind
theorem sB8 (c : Cv) : sumI (rB8 c) = c.b8 := by simp only [sumI, rB8, prodI, List.foldl, Cv.b8]; grind
theorem sD (c : Cv) : sumI (rD c) = c.D := by simp only [sumI, rD, prodI, List.foldl, Cv.D, discB]; grind
theorem lit200 {x : Int} (h : Nat.blt x.natAbs 100 = true) : x.natAbs < 2 ^ 200 := Nat.lt_of_lt_of_le (by simpa [Nat.blt_eq] using h : x.natAbs < 100) (by decide)
section
variable {c : Cv} (h : Cs c)
include h
theorem bB2 : rowsB (rB2 c) := ⟨le4, ⟨up200 h.h1 (by decide), up200 h.h1 (by decide), trivial⟩, le4, ⟨lit200 rfl, up200 h.h2 (by decide), trivial⟩, trivial⟩
theorem bB4 : rowsB (rB4 c) := ⟨le4, ⟨lit200 rfl, up200 h.h4 (by decide), trivial⟩, le4, ⟨up200 h.h1 (by decide), up200 h.h3 (by decide), trivial⟩, trivial⟩
theorem bB6 : rowsB (rB6 c) := ⟨le4, ⟨up200 h.h3 (by decide), up200 h.h3 (by decide), trivial⟩, le4, ⟨lit200 rfl, up200 h.h6 (by decide), trivial⟩, trivial⟩
theorem bB8 : rowsB (rB8 c) := ⟨le4, ⟨up200 h.h1 (by decide), up200 h.h1 (by decide), up200 h.h6 (by decide), trivial⟩, le4, ⟨lit200 rfl, up200 h.h2 (by decide), up200 h.h6 (by decide), trivial⟩, le4, ⟨lit200 rfl, up200 h.h1 (by decide), up200 h.h3 (by decide), up200 h.h4 (by decide), trivial⟩, le4, ⟨up200 h.h2 (by decide), up200 h.h3 (by decide), up200 h.h3 (by decide), trivial⟩, le4, ⟨lit200 rfl, up200 h.h4 (by decide), up200 h.h4 (by decide), trivial⟩, trivial⟩
theorem bD : rowsB (rD c) := ⟨le4, ⟨lit200 rfl, up200 h.b2 (by decide), up200 h.b4 (by decide), up200 h.b6 (by decide), trivial⟩, le4, ⟨lit200 rfl, up200 h.b2 (by decide), up200 h.b2 (by decide), up200 h.b8 (by decide), trivial⟩, le4, ⟨lit200 rfl, up200 h.b4 (by decide), up200 h.b4 (by decide), up200 h.b4 (by decide), trivial⟩, le4, ⟨lit200 rfl, up200 h.b6 (by decide), up200 h.b6 (by decide), trivial⟩, trivial⟩
end
def bs (c : Cv) : Dt := .tup [.int c.b2, .int c.b4, .int c.b6, .int c.b8]
def p_halves_of (ds : List Dt) (d : Dt) : Prop := ∃ c : Cv, Cs c ∧ ds = [cv c] ∧ d = bs c
def p_d_of (ds : List Dt) (d : Dt) : Prop := ∃ c : Cv, Cs c ∧ ds = [cv c] ∧ d = .int c.D
def p_is_curve (ds : List Dt) (d : Dt) : Prop := ∃ c : Cv, Cs c ∧ c.D ≠ 0 ∧ ds = [cv c] ∧ d = .bl true
def p_need_curve (ds : List Dt) (d : Dt) : Prop := ∃ c : Cv, Cs c ∧ c.D ≠ 0 ∧ ds = [cv c] ∧ d = .non
def p_own_is_whole (ds : List Dt) (d : Dt) : Prop := ∃ c : Cv, ds = [cv c] ∧ d = .bl true
def p_need_whole (ds : List Dt) (d : Dt) : Prop := ∃ c : Cv, ds = [cv c] ∧ d = .non
/-- what telling that it lies on the curve asks -/
structure OnOk (c : Cv) (x y : Rat) : Prop where
  on : c.On x y
  l : okRows 0 (rLeft c x y)
  r : okRows 0 (rRight c x)
  sl : Sm (sumL (rLeft c x y))
  sr : Sm (sumL (rRight c x))
def POk (c : Cv) : Pt → Prop
  | none => True
  | some (x, y) => OnOk c x y
def p_off_by (ds : List Dt) (d : Dt) : Prop := ∃ (c : Cv) (x y : Rat), OnOk c x y ∧ ds = [cv c, fr x, fr y] ∧ d = .int 0
def p_is_pair (ds : List Dt) (d : Dt) : Prop := ∃ x y : Rat, ds = [.tup [fr x, fr y]] ∧ d = .bl true
def p_lies_on (ds : List Dt) (d : Dt) : Prop := ∃ (c : Cv) (p : Pt), POk c p ∧ ds = [cv c, .pt p] ∧ d = .bl true
def p_own_height (ds : List Dt) (d : Dt) : Prop := ∃ p : Pt, ds = [.pt p] ∧ d = .int (hgt p : Int)
def p_need_on (ds : List Dt) (d : Dt) : Prop := ∃ (c : Cv) (p : Pt), Cs c ∧ c.D ≠ 0 ∧ POk c p ∧ ds = [cv c, .pt p] ∧ d = .non
def p_height (ds : List Dt) (d : Dt) : Prop := ∃ (c : Cv) (p : Pt), Cs c ∧ c.D ≠ 0 ∧ POk c p ∧ ds = [cv c, .pt p] ∧ d = .int (hgt p : Int)
def p_forms_of (ds : List Dt) (d : Dt) : Prop := ∃ c : Cv, Cs c ∧ ds = [cv c] ∧ d = .tup [.lst (zs (formF c.b4 c.b6 c.b8)), .lst (zs (formG c.b2 c.b4 c.b6))]
section
variable {P : Program} {w : World} {K : PySem.W.Frag} {mg : Str → Option Value} {base : Heap}
/-- the two loops of a sum of products -/
theorem sum_loop {wi1 : TI} {wi2 : TI} {tp ts : TE} {rows : List (List Rat)} {R : List Dt → Dt} (h : okRows 0 rows)
    (s1 : ∀ δ L, δ[0]? = some (some (Dt.lst L)) → SrcD wi1 δ L) (s2 : ∀ δ L, δ[2]? = some (some (R L)) → SrcD wi2 δ L)
    (hp : ∀ δ a b, Sm a → Sm b → δ[3]? = some (some (fr a)) → δ[4]? = some (some (fr b)) → EvD tp δ (fr (a * b))) (hs : ∀ δ a b, Sm a → Sm b → δ[1]? = some (some (fr a)) → δ[3]? = some (some (fr b)) → EvD ts δ (fr (a + b))) {nx : De → Prop} :
    StD (tSeq (tAsg (tC (.int 0)) (gName 1)) (tSeq (tFor wi1 (gName 2) (tSeq (tAsg (tC (.int 1)) (gName 3)) (tSeq (tFor wi2 (gName 4) (tAsg tp (gName 3))) (tAsg ts (gName 1))))) (tRet (tVar 1))))
      [some (.lst (rows.map fun r => R (r.map fr))), none, none, none, none] nx (fun r => r = fr (sumL rows)) := by
  refine st_set (d := fr 0) (ev_int) ?_
  refine st_for (s1 _ _ rfl) (fun i δ => ∃ a b c, δ = [some (.lst (rows.map fun r => R (r.map fr))), some (fr ((rows.take i).foldl (fun s row => s + prodL row) 0)), a, b, c] ∧ okRows ((rows.take i).foldl (fun s row => s + prodL row) 0) (rows.drop i)) ⟨none, none, none, rfl, h⟩ ?_ ?_
  · rintro i d δ1 hd ⟨a, b, c, rfl, ho⟩
    rw [List.getElem?_map] at hd
    cases hr : rows[i]? with
    | none => rw [hr] at hd; cases hd
    | some row =>
      rw [hr] at hd
      cases hd
      have hi := (List.getElem?_eq_some_iff.mp hr).1
      have ed : rows.drop i = row :: rows.drop (i + 1) := by rw [List.drop_eq_getElem_cons hi, (List.getElem?_eq_some_iff.mp hr).2]
      have et : rows.take (i + 1) = rows.take i ++ [row] := by rw [List.take_add_one, hr]; rfl
      rw [ed] at ho
      obtain ⟨o1, o2, o3⟩ := ho
      generalize hS : (rows.take i).foldl (fun s row => s + prodL row) 0 = S at *
      refine ⟨_, tg_name, ?_⟩
      refine st_set (d := fr 1) ev_int ?_
      refine st_for (ds := row.map fr) (s2 _ _ rfl) (fun j δ => ∃ c, δ = [some (.lst (rows.map fun r => R (r.map fr))), some (fr S), some (R (row.map fr)), some (fr ((row.take j).foldl (· * ·) 1)), c] ∧ okRow ((row.take j).foldl (· * ·) 1) (row.drop j)) ⟨c, rfl, o2⟩ ?_ ?_
      · rintro j d δ2 hd2 ⟨c2, rfl, ho2⟩
        rw [List.getElem?_map] at hd2
        cases hx : row[j]? with
        | none => rw [hx] at hd2; cases hd2
        | some x =>
          rw [hx] at hd2
          cases hd2
          have hj := (List.getElem?_eq_some_iff.mp hx).1
          have ed2 : row.drop j = x :: row.drop (j + 1) := by rw [List.drop_eq_getElem_cons hj, (List.getElem?_eq_some_iff.mp hx).2]
          have et2 : row.take (j + 1) = row.take j ++ [x] := by rw [List.take_add_one, hx]; rfl
          rw [ed2] at ho2
          obtain ⟨m1, m2, m3⟩ := ho2
          refine ⟨_, tg_name, ?_⟩
          refine st_asg1 (hp _ _ _ m1 m2 rfl rfl) tg_name ⟨some (fr x), ?_, ?_⟩
          · rw [et2, List.foldl_append]
            rfl
          · rw [et2, List.foldl_append]
            exact m3
      · rintro δ2 ⟨c2, rfl, ho2⟩
        rw [List.length_map, List.take_length] at *
        rw [List.drop_length] at ho2
        refine st_asg1 (hs _ _ _ o1 ho2 rfl rfl) tg_name ⟨some (R (row.map fr)), some (fr (row.foldl (· * ·) 1)), c2, ?_, ?_⟩
        · rw [et, List.foldl_append, hS]
          rfl
        · rw [et, List.foldl_append, hS]
          exact o3
  · rintro δ1 ⟨a, b, c, rfl, ho⟩
    rw [List.length_map, List.take_length] at *
    exact st_ret (ev_var rfl) rfl

abbrev s_summed : Stmt := topS 15
abbrev N_summed : List Str := ["rows", "found", "row", "much", "one"]
theorem sc_summed : FnScope N_summed ["rows"] (defScope s_summed) := ⟨rfl, rfl, rfl, by decide +kernel, rfl, by decide +kernel, by decide +kernel⟩
theorem ok_summed (B : Bn mg) (F : Fu K mg "summed" s_summed ["rows"]) (h_sum_of_two : Dn P w K mg base "sum_of_two" ["a", "b"] 3 (spP p_sum_of_two)) (h_product : Dn P w K mg base "product" ["a", "b"] 3 (spP p_product)) : Dn P w K mg base "summed" ["rows"] 4 (spP p_summed) := by
  refine F.ok sc_summed (by rintro _ _ ⟨rows, _, rfl, rfl⟩; rfl) (fun f cdv A outer s H E hr => ?_)
  have hu := hu_of hr
  have hu64 := hr.units
  refine ⟨_, (pss_cons (ps_set (i := 1) sc_summed.nd rfl (.inl rfl) pe_int)
      (pss_cons (ps_for PassesOwn.never rfl (kpiL (K := K) rfl (pv 0)) (pg_name (i := 2) sc_summed.nd rfl (.inl rfl)) (pss_cons (ps_set (i := 3) sc_summed.nd rfl (.inl rfl) pe_int)
      (pss_cons (ps_for PassesOwn.never rfl (kpiT (K := K) rfl (pv 2)) (pg_name (i := 4) sc_summed.nd rfl (.inl rfl)) (pss_one (ps_set (i := 3) sc_summed.nd rfl (.inl rfl) (pe_fn h_product (hr.mono (by decide)) (by rfl) (pa_cons (pv 3) (pa_cons (pv 4) pa_nil))))))
      (pss_one (ps_set (i := 1) sc_summed.nd rfl (.inl rfl) (pe_fn h_sum_of_two (hr.mono (by decide)) (by rfl) (pa_cons (pv 1) (pa_cons (pv 3) pa_nil))))))))
      (pss_one (ps_ret (pv 1))))), fun ds d hp => ?_⟩
  obtain ⟨rows, h, rfl, rfl⟩ := hp
  exact sum_loop (R := Dt.tup) h (fun δ L e => src_list (ev_var e)) (fun δ L e => src_tup (ev_var e)) (fun δ a b ha hb e1 e2 => ev_call (ea_cons (ev_var e1) (ea_cons (ev_var e2) ea_nil)) ⟨a, b, ha, hb, rfl, rfl⟩) (fun δ a b ha hb e1 e2 => ev_call (ea_cons (ev_var e1) (ea_cons (ev_var e2) ea_nil)) ⟨a, b, ha, hb, rfl, rfl⟩)

abbrev s_halves_of : Stmt := topS 16
abbrev N_halves_of : List Str := ["five", "a1", "a2", "a3", "a4", "a6", "b2", "b4", "b8"]
theorem sc_halves_of : FnScope N_halves_of ["five"] (defScope s_halves_of) := ⟨rfl, rfl, rfl, by decide +kernel, rfl, by decide +kernel, by decide +kernel⟩
theorem ok_halves_of (B : Bn mg) (F : Fu K mg "halves_of" s_halves_of ["five"]) (h_summed : Dn P w K mg base "summed" ["rows"] 4 (spP p_summed)) : Dn P w K mg base "halves_of" ["five"] 5 (spP p_halves_of) := by
  refine F.ok sc_halves_of (by rintro _ _ ⟨c, _, rfl, rfl⟩; rfl) (fun f cdv A outer s H E hr => ?_)
  have hu := hu_of hr
  have hu64 := hr.units
  refine ⟨_, (pss_cons (ps_asg (pv 0) (pg_tup rfl (pgs_cons (pg_name (i := 1) sc_halves_of.nd rfl (.inl rfl)) (pgs_cons (pg_name (i := 2) sc_halves_of.nd rfl (.inl rfl)) (pgs_cons (pg_name (i := 3) sc_halves_of.nd rfl (.inl rfl)) (pgs_cons (pg_name (i := 4) sc_halves_of.nd rfl (.inl rfl)) (pgs_cons (pg_name (i := 5) sc_halves_of.nd rfl (.inl rfl)) pgs_nil)))))))
      (pss_cons (ps_par (i := 6) (j := 7) rfl sc_halves_of.nd rfl rfl (by decide) rfl rfl (pa_cons (pe_fn h_summed (hr.mono (by decide)) (by rfl) (pa_cons (pe_lst (pa_cons (pe_tup (pa_cons (pv 1) (pa_cons (pv 1) pa_nil))) (pa_cons (pe_tup (pa_cons pe_int (pa_cons (pv 2) pa_nil))) pa_nil))) pa_nil)) (pa_cons (pe_fn h_summed (hr.mono (by decide)) (by rfl) (pa_cons (pe_lst (pa_cons (pe_tup (pa_cons pe_int (pa_cons (pv 4) pa_nil))) (pa_cons (pe_tup (pa_cons (pv 1) (pa_cons (pv 3) pa_nil))) pa_nil))) pa_nil)) pa_nil)) rfl)
      (pss_cons (ps_set (i := 8) sc_halves_of.nd rfl (.inl rfl) (pe_fn h_summed (hr.mono (by decide)) (by rfl) (pa_cons (pe_lst (pa_cons (pe_tup (pa_cons (pv 1) (pa_cons (pv 1) (pa_cons (pv 5) pa_nil)))) (pa_cons (pe_tup (pa_cons pe_int (pa_cons (pv 2) (pa_cons (pv 5) pa_nil)))) (pa_cons (pe_tup (pa_cons (pe_un un_neg pe_int) (pa_cons (pv 1) (pa_cons (pv 3) (pa_cons (pv 4) pa_nil))))) (pa_cons (pe_tup (pa_cons (pv 2) (pa_cons (pv 3) (pa_cons (pv 3) pa_nil)))) (pa_cons (pe_tup (pa_cons (pe_un un_neg pe_int) (pa_cons (pv 4) (pa_cons (pv 4) pa_nil)))) pa_nil)))))) pa_nil)))
      (pss_one (ps_ret (pe_tup (pa_cons (pv 6) (pa_cons (pv 7) (pa_cons (pe_fn h_summed (hr.mono (by decide)) (by rfl) (pa_cons (pe_lst (pa_cons (pe_tup (pa_cons (pv 3) (pa_cons (pv 3) pa_nil))) (pa_cons (pe_tup (pa_cons pe_int (pa_cons (pv 5) pa_nil))) pa_nil))) pa_nil)) (pa_cons (pv 8) pa_nil)))))))))), fun ds d hp => ?_⟩
  obtain ⟨c, h, rfl, rfl⟩ := hp
  refine st_asg (ev_var rfl) (tg_tup (tgs_cons tg_name (tgs_cons tg_name (tgs_cons tg_name (tgs_cons tg_name (tgs_cons tg_name tgs_nil))))) rfl) ?_
  refine st_par (ea_cons (ev_call (ea_cons (ev_lst (ea_cons (ev_tup (ea_cons (ev_var rfl) (ea_cons (ev_var rfl) ea_nil))) (ea_cons (ev_tup (ea_cons ev_int (ea_cons (ev_var rfl) ea_nil))) ea_nil))) ea_nil) (summed_int (rB2 c) (bB2 h))) (ea_cons (ev_call (ea_cons (ev_lst (ea_cons (ev_tup (ea_cons ev_int (ea_cons (ev_var rfl) ea_nil))) (ea_cons (ev_tup (ea_cons (ev_var rfl) (ea_cons (ev_var rfl) ea_nil))) ea_nil))) ea_nil) (summed_int (rB4 c) (bB4 h))) ea_nil)) ?_
  refine st_set (ev_call (ea_cons (ev_lst (ea_cons (ev_tup (ea_cons (ev_var rfl) (ea_cons (ev_var rfl) (ea_cons (ev_var rfl) ea_nil)))) (ea_cons (ev_tup (ea_cons ev_int (ea_cons (ev_var rfl) (ea_cons (ev_var rfl) ea_nil)))) (ea_cons (ev_tup (ea_cons (ev_neg ev_int) (ea_cons (ev_var rfl) (ea_cons (ev_var rfl) (ea_cons (ev_var rfl) ea_nil))))) (ea_cons (ev_tup (ea_cons (ev_var rfl) (ea_cons (ev_var rfl) (ea_cons (ev_var rfl) ea_nil)))) (ea_cons (ev_tup (ea_cons (ev_neg ev_int) (ea_cons (ev_var rfl) (ea_cons (ev_var rfl) ea_nil)))) ea_nil)))))) ea_nil) (summed_int (rB8 c) (bB8 h))) ?_
  refine st_ret (ev_tup (ea_cons (ev_var rfl) (ea_cons (ev_var rfl) (ea_cons (ev_call (ea_cons (ev_lst (ea_cons (ev_tup (ea_cons (ev_var rfl) (ea_cons (ev_var rfl) ea_nil))) (ea_cons (ev_tup (ea_cons ev_int (ea_cons (ev_var rfl) ea_nil))) ea_nil))) ea_nil) (summed_int (rB6 c) (bB6 h))) (ea_cons (ev_var rfl) ea_nil))))) ?_
  rw [sB2, sB4, sB6, sB8]
  rfl

abbrev s_d_of : Stmt := topS 17
abbrev N_d_of : List Str := ["five", "b2", "b4", "b6", "b8"]
theorem sc_d_of : FnScope N_d_of ["five"] (defScope s_d_of) := ⟨rfl, rfl, rfl, by decide +kernel, rfl, by decide +kernel, by decide +kernel⟩
theorem ok_d_of (B : Bn mg) (F : Fu K mg "d_of" s_d_of ["five"]) (h_halves_of : Dn P w K mg base "halves_of" ["five"] 5 (spP p_halves_of)) (h_summed : Dn P w K mg base "summed" ["rows"] 4 (spP p_summed)) : Dn P w K mg base "d_of" ["five"] 6 (spP p_d_of) := by
  refine F.ok sc_d_of (by rintro _ _ ⟨c, _, rfl, rfl⟩; rfl) (fun f cdv A outer s H E hr => ?_)
  have hu := hu_of hr
  have hu64 := hr.units
  refine ⟨_, (pss_cons (ps_asg (pe_fn h_halves_of (hr.mono (by decide)) (by rfl) (pa_cons (pv 0) pa_nil)) (pg_tup rfl (pgs_cons (pg_name (i := 1) sc_d_of.nd rfl (.inl rfl)) (pgs_cons (pg_name (i := 2) sc_d_of.nd rfl (.inl rfl)) (pgs_cons (pg_name (i := 3) sc_d_of.nd rfl (.inl rfl)) (pgs_cons (pg_name (i := 4) sc_d_of.nd rfl (.inl rfl)) pgs_nil))))))
      (pss_one (ps_ret (pe_fn h_summed (hr.mono (by decide)) (by rfl) (pa_cons (pe_lst (pa_cons (pe_tup (pa_cons pe_int (pa_cons (pv 1) (pa_cons (pv 2) (pa_cons (pv 3) pa_nil))))) (pa_cons (pe_tup (pa_cons (pe_un un_neg pe_int) (pa_cons (pv 1) (pa_cons (pv 1) (pa_cons (pv 4) pa_nil))))) (pa_cons (pe_tup (pa_cons (pe_un un_neg pe_int) (pa_cons (pv 2) (pa_cons (pv 2) (pa_cons (pv 2) pa_nil))))) (pa_cons (pe_tup (pa_cons (pe_un un_neg pe_int) (pa_cons (pv 3) (pa_cons (pv 3) pa_nil)))) pa_nil))))) pa_nil))))), fun ds d hp => ?_⟩
  obtain ⟨c, h, rfl, rfl⟩ := hp
  refine st_asg (ev_call (ea_cons (ev_var rfl) ea_nil) ⟨c, h, rfl, rfl⟩) (tg_tup (tgs_cons tg_name (tgs_cons tg_name (tgs_cons tg_name (tgs_cons tg_name tgs_nil)))) rfl) ?_
  refine st_ret (ev_call (ea_cons (ev_lst (ea_cons (ev_tup (ea_cons ev_int (ea_cons (ev_var rfl) (ea_cons (ev_var rfl) (ea_cons (ev_var rfl) ea_nil))))) (ea_cons (ev_tup (ea_cons (ev_neg ev_int) (ea_cons (ev_var rfl) (ea_cons (ev_var rfl) (ea_cons (ev_var rfl) ea_nil))))) (ea_cons (ev_tup (ea_cons (ev_neg ev_int) (ea_cons (ev_var rfl) (ea_cons (ev_var rfl) (ea_cons (ev_var rfl) ea_nil))))) (ea_cons (ev_tup (ea_cons (ev_neg ev_int) (ea_cons (ev_var rfl) (ea_cons (ev_var rfl) ea_nil)))) ea_nil))))) ea_nil) (summed_int (rD c) (bD h))) ?_
  rw [sD]

theorem mem5 {a b c d e x : Dt} (h : x ∈ [a, b, c, d, e]) : x = a ∨ x = b ∨ x = c ∨ x = d ∨ x = e := by simpa using h
theorem cv_mem {c : Cv} {x : Dt} (h : x ∈ [Dt.int c.a1, .int c.a2, .int c.a3, .int c.a4, .int c.a6]) : ∃ i, x = .int i := by
  rcases mem5 h with rfl | rfl | rfl | rfl | rfl <;> exact ⟨_, rfl⟩

abbrev s_is_curve : Stmt := topS 18
abbrev N_is_curve : List Str := ["thing", "one"]
theorem sc_is_curve : FnScope N_is_curve ["thing"] (defScope s_is_curve) := ⟨rfl, rfl, rfl, by decide +kernel, rfl, by decide +kernel, by decide +kernel⟩
theorem ok_is_curve (B : Bn mg) (F : Fu K mg "is_curve" s_is_curve ["thing"]) (h_d_of : Dn P w K mg base "d_of" ["five"] 6 (spP p_d_of)) (h_is_fraction : Dn P w K mg base "is_fraction" ["thing"] 2 (spP p_is_fraction)) : Dn P w K mg base "is_curve" ["thing"] 7 (spP p_is_curve) := by
  refine F.ok sc_is_curve (by rintro _ _ ⟨c, _, _, rfl, rfl⟩; rfl) (fun f cdv A outer s H E hr => ?_)
  have hu := hu_of hr
  have hu64 := hr.units
  refine ⟨_, (pss_cons (ps_if (pw_or (pt_not (pt_val (pe_callB (kIsi (K := K) rfl) (by rfl) B.isinstance PyProof.Rows.boot_isinstance (pa_cons (pv 0) (pa_cons (pe_bltn (v := .ty "tuple") (by rfl) B.tuple PyProof.Rows.boot_tuple rfl) pa_nil))))) (pw_or (pt_cmpR op_ne (pe_callB (kLen (K := K) rfl) (by rfl) B.len PySem.boot_len (pa_cons (pv 0) pa_nil)) pe_int (nomark _)) (pw_or1 (pt_not (pt_val (pe_callB (kAll (K := K) rfl rfl) (by rfl) B.all PyProof.Rows.boot_all (pa_cons (pe_lc (own := [("one", 1)]) rfl sc_is_curve.nd (kpiT (K := K) rfl (pv 0)) (blkOk_by (own := [("one", 1)]) (N := N_is_curve) (sc := (defScope s_is_curve)) (by decide +kernel)) (fun _ _ _ _ _ => (pg_name (i := 1) sc_is_curve.nd rfl (.inl rfl))) (fun _ _ _ _ _ => pts_nil) (fun _ _ _ _ _ => (pe_fn h_is_fraction (hr.mono (by decide)) (by rfl) (pa_cons (pv 1) pa_nil)))) pa_nil))))))).pt (pss_one (ps_ret pe_bl)) pss_nil)
      (pss_one (ps_ret (pe_cmpR op_ne (pe_fn h_d_of (hr.mono (by decide)) (by rfl) (pa_cons (pv 0) pa_nil)) pe_int (nomark _))))), fun ds d hp => ?_⟩
  obtain ⟨c, h, hD, rfl, rfl⟩ := hp
  refine st_ifF (eb_known (eb_or (eb_not (eb_B (ty_tt (ev_var rfl)))) fun _ => eb_or (eb_test (ev_neI (ev_lenT (ea_cons (ev_var rfl) ea_nil)) ev_int)) fun _ => eb_not (eb_B (ev_all (bs := [true, true, true, true, true]) (ea_cons (ev_cast (ev_lcm (src_tup (ev_var rfl)) (fun _ => Dt.bl true) (Nat.le_of_ble_eq_true rfl) (fun d hd => by
    obtain ⟨i, rfl⟩ := cv_mem hd
    exact ⟨_, tc_name (by simp), ev_call (ea_cons (ev_var rfl) ea_nil) ⟨ic i, rfl, rfl⟩⟩)) rfl) ea_nil)))) rfl) ?_
  refine st_ret (ev_neI (ev_call (ea_cons (ev_var rfl) ea_nil) ⟨c, h, rfl, rfl⟩) ev_int) ?_
  rw [decide_eq_false hD]
  rfl

abbrev s_need_curve : Stmt := topS 19
abbrev N_need_curve : List Str := ["curve"]
theorem sc_need_curve : FnScope N_need_curve ["curve"] (defScope s_need_curve) := ⟨rfl, rfl, rfl, by decide +kernel, rfl, by decide +kernel, by decide +kernel⟩
theorem ok_need_curve (B : Bn mg) (F : Fu K mg "need_curve" s_need_curve ["curve"]) (h_is_curve : Dn P w K mg base "is_curve" ["thing"] 7 (spP p_is_curve)) : Dn P w K mg base "need_curve" ["curve"] 8 (spP p_need_curve) := by
  refine F.ok sc_need_curve (by rintro _ _ ⟨c, _, _, rfl, rfl⟩; rfl) (fun f cdv A outer s H E hr => ?_)
  have hu := hu_of hr
  have hu64 := hr.units
  refine ⟨_, (pss_one (ps_if (pt_not (pt_val (pe_fn h_is_curve (hr.mono (by decide)) (by rfl) (pa_cons (pv 0) pa_nil)))) (pss_one ps_never) pss_nil)), fun ds d hp => ?_⟩
  obtain ⟨c, h, hD, rfl, rfl⟩ := hp
  exact st_if (eb_not (eb_B (ev_call (ea_cons (ev_var rfl) ea_nil) ⟨c, h, hD, rfl, rfl⟩))) (fun z => Bool.noConfusion z) fun _ => st_next rfl

abbrev s_own_is_whole : Stmt := topS 20
abbrev N_own_is_whole : List Str := ["curve", "one"]
theorem sc_own_is_whole : FnScope N_own_is_whole ["curve"] (defScope s_own_is_whole) := ⟨rfl, rfl, rfl, by decide +kernel, rfl, by decide +kernel, by decide +kernel⟩
theorem ok_own_is_whole (B : Bn mg) (F : Fu K mg "own_is_whole" s_own_is_whole ["curve"])  : Dn P w K mg base "own_is_whole" ["curve"] 1 (spP p_own_is_whole) := by
  refine F.ok sc_own_is_whole (by rintro _ _ ⟨c, rfl, rfl⟩; rfl) (fun f cdv A outer s H E hr => ?_)
  have hu := hu_of hr
  have hu64 := hr.units
  refine ⟨_, (pss_one (ps_ret (pe_callB (kAll (K := K) rfl rfl) (by rfl) B.all PyProof.Rows.boot_all (pa_cons (pe_lc (own := [("one", 1)]) rfl sc_own_is_whole.nd (kpiT (K := K) rfl (pv 0)) (blkOk_by (own := [("one", 1)]) (N := N_own_is_whole) (sc := (defScope s_own_is_whole)) (by decide +kernel)) (fun _ _ _ _ _ => (pg_name (i := 1) sc_own_is_whole.nd rfl (.inl rfl))) (fun _ _ _ _ _ => pts_nil) (fun _ _ _ _ _ => (pe_callB (kIsi (K := K) rfl) (by rfl) B.isinstance PyProof.Rows.boot_isinstance (pa_cons (pv 1) (pa_cons (pe_bltn (v := .ty "int") (by rfl) B.int PyProof.Rows.boot_int rfl) pa_nil))))) pa_nil)))), fun ds d hp => ?_⟩
  obtain ⟨c, rfl, rfl⟩ := hp
  exact st_ret (ev_all (bs := [true, true, true, true, true]) (ea_cons (ev_cast (ev_lcm (src_tup (ev_var rfl)) (fun _ => Dt.bl true) (Nat.le_of_ble_eq_true rfl) (fun d hd => by
    obtain ⟨i, rfl⟩ := cv_mem hd
    exact ⟨_, tc_name (by simp), ty_ii (ev_var rfl)⟩)) rfl) ea_nil)) rfl

abbrev s_need_whole : Stmt := topS 30
abbrev N_need_whole : List Str := ["curve"]
theorem sc_need_whole : FnScope N_need_whole ["curve"] (defScope s_need_whole) := ⟨rfl, rfl, rfl, by decide +kernel, rfl, by decide +kernel, by decide +kernel⟩
theorem ok_need_whole (B : Bn mg) (F : Fu K mg "need_whole" s_need_whole ["curve"]) (h_own_is_whole : Dn P w K mg base "own_is_whole" ["curve"] 1 (spP p_own_is_whole)) : Dn P w K mg base "need_whole" ["curve"] 2 (spP p_need_whole) := by
  refine F.ok sc_need_whole (by rintro _ _ ⟨c, rfl, rfl⟩; rfl) (fun f cdv A outer s H E hr => ?_)
  have hu := hu_of hr
  have hu64 := hr.units
  refine ⟨_, (pss_one (ps_if (pt_not (pt_val (pe_fn h_own_is_whole (hr.mono (by decide)) (by rfl) (pa_cons (pv 0) pa_nil)))) (pss_one ps_never) pss_nil)), fun ds d hp => ?_⟩
  obtain ⟨c, rfl, rfl⟩ := hp
  exact st_if (eb_not (eb_B (ev_call (ea_cons (ev_var rfl) ea_nil) ⟨c, rfl, rfl⟩))) (fun z => Bool.noConfusion z) fun _ => st_next rfl

abbrev s_off_by : Stmt := topS 21
abbrev N_off_by : List Str := ["five", "x", "y", "a1", "a2", "a3", "a4", "a6", "left"]
theorem sc_off_by : FnScope N_off_by ["five", "x", "y"] (defScope s_off_by) := ⟨rfl, rfl, rfl, by decide +kernel, rfl, by decide +kernel, by decide +kernel⟩
theorem ok_off_by (B : Bn mg) (F : Fu K mg "off_by" s_off_by ["five", "x", "y"]) (h_summed : Dn P w K mg base "summed" ["rows"] 4 (spP p_summed)) (h_sum_of_two : Dn P w K mg base "sum_of_two" ["a", "b"] 3 (spP p_sum_of_two)) : Dn P w K mg base "off_by" ["five", "x", "y"] 5 (spP p_off_by) := by
  refine F.ok sc_off_by (by rintro _ _ ⟨c, x, y, _, rfl, rfl⟩; rfl) (fun f cdv A outer s H E hr => ?_)
  have hu := hu_of hr
  have hu64 := hr.units
  refine ⟨_, (pss_cons (ps_asg (pv 0) (pg_tup rfl (pgs_cons (pg_name (i := 3) sc_off_by.nd rfl (.inl rfl)) (pgs_cons (pg_name (i := 4) sc_off_by.nd rfl (.inl rfl)) (pgs_cons (pg_name (i := 5) sc_off_by.nd rfl (.inl rfl)) (pgs_cons (pg_name (i := 6) sc_off_by.nd rfl (.inl rfl)) (pgs_cons (pg_name (i := 7) sc_off_by.nd rfl (.inl rfl)) pgs_nil)))))))
      (pss_cons (ps_set (i := 8) sc_off_by.nd rfl (.inl rfl) (pe_fn h_summed (hr.mono (by decide)) (by rfl) (pa_cons (pe_lst (pa_cons (pe_tup (pa_cons (pv 2) (pa_cons (pv 2) pa_nil))) (pa_cons (pe_tup (pa_cons (pv 3) (pa_cons (pv 1) (pa_cons (pv 2) pa_nil)))) (pa_cons (pe_tup (pa_cons (pv 5) (pa_cons (pv 2) pa_nil))) pa_nil)))) pa_nil)))
      (pss_one (ps_ret (pe_fn h_sum_of_two (hr.mono (by decide)) (by rfl) (pa_cons (pv 8) (pa_cons (pe_fn h_summed (hr.mono (by decide)) (by rfl) (pa_cons (pe_lst (pa_cons (pe_tup (pa_cons (pe_un un_neg pe_int) (pa_cons (pv 1) (pa_cons (pv 1) (pa_cons (pv 1) pa_nil))))) (pa_cons (pe_tup (pa_cons (pe_un un_neg pe_int) (pa_cons (pv 4) (pa_cons (pv 1) (pa_cons (pv 1) pa_nil))))) (pa_cons (pe_tup (pa_cons (pe_un un_neg pe_int) (pa_cons (pv 6) (pa_cons (pv 1) pa_nil)))) (pa_cons (pe_tup (pa_cons (pe_un un_neg pe_int) (pa_cons (pv 7) pa_nil))) pa_nil))))) pa_nil)) pa_nil))))))), fun ds d hp => ?_⟩
  obtain ⟨c, x, y, h, rfl, rfl⟩ := hp
  refine st_asg (ev_var rfl) (tg_tup (tgs_cons tg_name (tgs_cons tg_name (tgs_cons tg_name (tgs_cons tg_name (tgs_cons tg_name tgs_nil))))) rfl) ?_
  refine st_set (ev_call (ea_cons (ev_lst (ea_cons (ev_tup (ea_cons (ev_var rfl) (ea_cons (ev_var rfl) ea_nil))) (ea_cons (ev_tup (ea_cons (ev_var rfl) (ea_cons (ev_var rfl) (ea_cons (ev_var rfl) ea_nil)))) (ea_cons (ev_tup (ea_cons (ev_var rfl) (ea_cons (ev_var rfl) ea_nil))) ea_nil)))) ea_nil) ⟨rLeft c x y, h.l, rfl, rfl⟩) ?_
  refine st_ret (ev_call (ea_cons (ev_var rfl) (ea_cons (ev_call (ea_cons (ev_lst (ea_cons (ev_tup (ea_cons (ev_neg ev_int) (ea_cons (ev_var rfl) (ea_cons (ev_var rfl) (ea_cons (ev_var rfl) ea_nil))))) (ea_cons (ev_tup (ea_cons (ev_neg ev_int) (ea_cons (ev_var rfl) (ea_cons (ev_var rfl) (ea_cons (ev_var rfl) ea_nil))))) (ea_cons (ev_tup (ea_cons (ev_neg ev_int) (ea_cons (ev_var rfl) (ea_cons (ev_var rfl) ea_nil)))) (ea_cons (ev_tup (ea_cons (ev_neg ev_int) (ea_cons (ev_var rfl) ea_nil))) ea_nil))))) ea_nil) ⟨rRight c x, h.r, rfl, rfl⟩) ea_nil)) ⟨_, _, h.sl, h.sr, rfl, rfl⟩) ?_
  rw [sum_lr, show c.off x y = ((0 : Int) : Rat) from h.on]
  rfl

abbrev s_is_pair : Stmt := topS 22
abbrev N_is_pair : List Str := ["thing"]
theorem sc_is_pair : FnScope N_is_pair ["thing"] (defScope s_is_pair) := ⟨rfl, rfl, rfl, by decide +kernel, rfl, by decide +kernel, by decide +kernel⟩
theorem ok_is_pair (B : Bn mg) (F : Fu K mg "is_pair" s_is_pair ["thing"]) (h_is_fraction : Dn P w K mg base "is_fraction" ["thing"] 2 (spP p_is_fraction)) : Dn P w K mg base "is_pair" ["thing"] 3 (spP p_is_pair) := by
  refine F.ok sc_is_pair (by rintro _ _ ⟨x, y, rfl, rfl⟩; rfl) (fun f cdv A outer s H E hr => ?_)
  have hu := hu_of hr
  have hu64 := hr.units
  refine ⟨_, (pss_one (ps_ret (pe_and (pe_callB (kIsi (K := K) rfl) (by rfl) B.isinstance PyProof.Rows.boot_isinstance (pa_cons (pv 0) (pa_cons (pe_bltn (v := .ty "tuple") (by rfl) B.tuple PyProof.Rows.boot_tuple rfl) pa_nil))) (pe_and (pe_cmpR op_eq (pe_callB (kLen (K := K) rfl) (by rfl) B.len PySem.boot_len (pa_cons (pv 0) pa_nil)) pe_int (nomark _)) (pe_and (pe_fn h_is_fraction (hr.mono (by decide)) (by rfl) (pa_cons (pe_ix (kIxT (K := K) rfl) (pv 0) pe_int (fun _ _ => rfl)) pa_nil)) (pe_one (pe_fn h_is_fraction (hr.mono (by decide)) (by rfl) (pa_cons (pe_ix (kIxT (K := K) rfl) (pv 0) pe_int (fun _ _ => rfl)) pa_nil)))))))), fun ds d hp => ?_⟩
  obtain ⟨x, y, rfl, rfl⟩ := hp
  exact st_ret (ev_andV (ty_tt (ev_var rfl)) fun _ => ev_andV (ev_eqI (ev_lenT (ea_cons (ev_var rfl) ea_nil)) ev_int) fun _ => ev_andV (ev_call (ea_cons (ev_ixT (ev_var rfl) ev_int (n := 0) rfl rfl) ea_nil) ⟨x, rfl, rfl⟩) fun _ => ev_call (ea_cons (ev_ixT (ev_var rfl) ev_int (n := 1) rfl rfl) ea_nil) ⟨y, rfl, rfl⟩) rfl

abbrev s_lies_on : Stmt := topS 23
abbrev N_lies_on : List Str := ["curve", "thing"]
theorem sc_lies_on : FnScope N_lies_on ["curve", "thing"] (defScope s_lies_on) := ⟨rfl, rfl, rfl, by decide +kernel, rfl, by decide +kernel, by decide +kernel⟩
theorem ok_lies_on (B : Bn mg) (F : Fu K mg "lies_on" s_lies_on ["curve", "thing"]) (h_is_pair : Dn P w K mg base "is_pair" ["thing"] 3 (spP p_is_pair)) (h_off_by : Dn P w K mg base "off_by" ["five", "x", "y"] 5 (spP p_off_by)) : Dn P w K mg base "lies_on" ["curve", "thing"] 6 (spP p_lies_on) := by
  refine F.ok sc_lies_on (by rintro _ _ ⟨c, p, _, rfl, rfl⟩; rfl) (fun f cdv A outer s H E hr => ?_)
  have hu := hu_of hr
  have hu64 := hr.units
  refine ⟨_, (pss_one (ps_ret (pe_or (pe_cmp (pc_isN (pv 1))) (pe_one (pe_and (pe_fn h_is_pair (hr.mono (by decide)) (by rfl) (pa_cons (pv 1) pa_nil)) (pe_one (pe_cmpR op_eq (pe_fn h_off_by (hr.mono (by decide)) (by rfl) (pa_cons (pv 0) (pa_cons (pe_ix (kIxT (K := K) rfl) (pv 1) pe_int (fun _ _ => rfl)) (pa_cons (pe_ix (kIxT (K := K) rfl) (pv 1) pe_int (fun _ _ => rfl)) pa_nil)))) pe_int (nomark _)))))))), fun ds d hp => ?_⟩
  obtain ⟨c, p, h, rfl, rfl⟩ := hp
  cases p with
  | none => exact st_ret (ev_orV (b := true) (ev_isN (ev_var rfl)) fun z => Bool.noConfusion z) rfl
  | some q =>
    obtain ⟨x, y⟩ := q
    exact st_ret (ev_orV (ev_isN (ev_var rfl)) fun _ => ev_andV (ev_call (ea_cons (ev_var rfl) ea_nil) ⟨x, y, rfl, rfl⟩) fun _ => ev_eqI (ev_call (ea_cons (ev_var rfl) (ea_cons (ev_ixT (ev_var rfl) ev_int (n := 0) rfl rfl) (ea_cons (ev_ixT (ev_var rfl) ev_int (n := 1) rfl rfl) ea_nil))) ⟨c, x, y, h, rfl, rfl⟩) ev_int) rfl

abbrev s_own_height : Stmt := topS 27
abbrev N_own_height : List Str := ["point", "top", "bottom"]
theorem sc_own_height : FnScope N_own_height ["point"] (defScope s_own_height) := ⟨rfl, rfl, rfl, by decide +kernel, rfl, by decide +kernel, by decide +kernel⟩
theorem ok_own_height (B : Bn mg) (F : Fu K mg "own_height" s_own_height ["point"]) (h_pair_of : Dn P w K mg base "pair_of" ["a"] 1 (spP p_pair_of)) : Dn P w K mg base "own_height" ["point"] 2 (spP p_own_height) := by
  refine F.ok sc_own_height (by rintro _ _ ⟨p, rfl, rfl⟩; rfl) (fun f cdv A outer s H E hr => ?_)
  have hu := hu_of hr
  have hu64 := hr.units
  refine ⟨_, (pss_cons (ps_if (pt_cmp (pc_isN (pv 0))) (pss_one (ps_ret pe_int)) pss_nil)
      (pss_cons (ps_asg (pe_fn h_pair_of (hr.mono (by decide)) (by rfl) (pa_cons (pe_ix (kIxT (K := K) rfl) (pv 0) pe_int (fun _ _ => rfl)) pa_nil)) (pg_tup rfl (pgs_cons (pg_name (i := 1) sc_own_height.nd rfl (.inl rfl)) (pgs_cons (pg_name (i := 2) sc_own_height.nd rfl (.inl rfl)) pgs_nil))))
      (pss_one (ps_ret (pe_callB (call_max2 rfl) (by rfl) B.max PyProof.Rows.boot_max (pa_cons (pe_callB call_abs (by rfl) B.abs PyProof.Rows.boot_abs (pa_cons (pv 1) pa_nil)) (pa_cons (pv 2) pa_nil))))))), fun ds d hp => ?_⟩
  obtain ⟨p, rfl, rfl⟩ := hp
  cases p with
  | none => exact st_seq (nx1 := fun _ => False) (st_if (eb_B (ev_isN (ev_var rfl))) (fun _ => st_ret ev_int rfl) (fun z => Bool.noConfusion z)) (fun _ z => z.elim)
  | some q =>
    obtain ⟨x, y⟩ := q
    refine st_ifF (eb_known (eb_B (ev_isN (ev_var rfl))) rfl) ?_
    refine st_asg (ev_call (ea_cons (ev_ixT (ev_var rfl) ev_int (n := 0) rfl rfl) ea_nil) ⟨x, rfl, rfl⟩) (tg_tup (tgs_cons tg_name (tgs_cons tg_name tgs_nil)) rfl) ?_
    refine st_ret (ev_max2 (ea_cons (ev_abs (ea_cons (ev_var rfl) ea_nil)) (ea_cons (ev_var rfl) ea_nil))) ?_
    show Dt.int _ = Dt.int _
    congr 1
    show max (x.num.natAbs : Int) (x.den : Int) = ((max x.num.natAbs x.den : Nat) : Int)
    omega

abbrev s_need_on : Stmt := topS 28
abbrev N_need_on : List Str := ["curve", "point"]
theorem sc_need_on : FnScope N_need_on ["curve", "point"] (defScope s_need_on) := ⟨rfl, rfl, rfl, by decide +kernel, rfl, by decide +kernel, by decide +kernel⟩
theorem ok_need_on (B : Bn mg) (F : Fu K mg "need_on" s_need_on ["curve", "point"]) (h_need_curve : Dn P w K mg base "need_curve" ["curve"] 8 (spP p_need_curve)) (h_lies_on : Dn P w K mg base "lies_on" ["curve", "thing"] 6 (spP p_lies_on)) : Dn P w K mg base "need_on" ["curve", "point"] 9 (spP p_need_on) := by
  refine F.ok sc_need_on (by rintro _ _ ⟨c, p, _, _, _, rfl, rfl⟩; rfl) (fun f cdv A outer s H E hr => ?_)
  have hu := hu_of hr
  have hu64 := hr.units
  refine ⟨_, (pss_cons (ps_expr (pe_fn h_need_curve (hr.mono (by decide)) (by rfl) (pa_cons (pv 0) pa_nil)))
      (pss_one (ps_if (pt_not (pt_val (pe_fn h_lies_on (hr.mono (by decide)) (by rfl) (pa_cons (pv 0) (pa_cons (pv 1) pa_nil))))) (pss_one ps_never) pss_nil))), fun ds d hp => ?_⟩
  obtain ⟨c, p, h, hD, hp, rfl, rfl⟩ := hp
  refine st_expr (ev_call (ea_cons (ev_var rfl) ea_nil) ⟨c, h, hD, rfl, rfl⟩) ?_
  exact st_if (eb_not (eb_B (ev_call (ea_cons (ev_var rfl) (ea_cons (ev_var rfl) ea_nil)) ⟨c, p, hp, rfl, rfl⟩))) (fun z => Bool.noConfusion z) fun _ => st_next rfl

abbrev s_height : Stmt := topS 29
abbrev N_height : List Str := ["curve", "point"]
theorem sc_height : FnScope N_height ["curve", "point"] (defScope s_height) := ⟨rfl, rfl, rfl, by decide +kernel, rfl, by decide +kernel, by decide +kernel⟩
theorem ok_height (B : Bn mg) (F : Fu K mg "height" s_height ["curve", "point"]) (h_need_on : Dn P w K mg base "need_on" ["curve", "point"] 9 (spP p_need_on)) (h_own_height : Dn P w K mg base "own_height" ["point"] 2 (spP p_own_height)) : Dn P w K mg base "height" ["curve", "point"] 10 (spP p_height) := by
  refine F.ok sc_height (by rintro _ _ ⟨c, p, _, _, _, rfl, rfl⟩; rfl) (fun f cdv A outer s H E hr => ?_)
  have hu := hu_of hr
  have hu64 := hr.units
  refine ⟨_, (pss_cons (ps_expr (pe_fn h_need_on (hr.mono (by decide)) (by rfl) (pa_cons (pv 0) (pa_cons (pv 1) pa_nil))))
      (pss_one (ps_ret (pe_fn h_own_height (hr.mono (by decide)) (by rfl) (pa_cons (pv 1) pa_nil))))), fun ds d hp => ?_⟩
  obtain ⟨c, p, h, hD, hp, rfl, rfl⟩ := hp
  refine st_expr (ev_call (ea_cons (ev_var rfl) (ea_cons (ev_var rfl) ea_nil)) ⟨c, p, h, hD, hp, rfl, rfl⟩) ?_
  exact st_ret (ev_call (ea_cons (ev_var rfl) ea_nil) ⟨p, rfl, rfl⟩) rfl

abbrev s_forms_of : Stmt := topS 31
abbrev N_forms_of : List Str := ["curve", "b2", "b4", "b6", "b8"]
theorem sc_forms_of : FnScope N_forms_of ["curve"] (defScope s_forms_of) := ⟨rfl, rfl, rfl, by decide +kernel, rfl, by decide +kernel, by decide +kernel⟩
theorem ok_forms_of (B : Bn mg) (F : Fu K mg "forms_of" s_forms_of ["curve"]) (h_halves_of : Dn P w K mg base "halves_of" ["five"] 5 (spP p_halves_of)) : Dn P w K mg base "forms_of" ["curve"] 6 (spP p_forms_of) := by
  refine F.ok sc_forms_of (by rintro _ _ ⟨c, _, rfl, rfl⟩; rfl) (fun f cdv A outer s H E hr => ?_)
  have hu := hu_of hr
  have hu64 := hr.units
  refine ⟨_, (pss_cons (ps_asg (pe_fn h_halves_of (hr.mono (by decide)) (by rfl) (pa_cons (pv 0) pa_nil)) (pg_tup rfl (pgs_cons (pg_name (i := 1) sc_forms_of.nd rfl (.inl rfl)) (pgs_cons (pg_name (i := 2) sc_forms_of.nd rfl (.inl rfl)) (pgs_cons (pg_name (i := 3) sc_forms_of.nd rfl (.inl rfl)) (pgs_cons (pg_name (i := 4) sc_forms_of.nd rfl (.inl rfl)) pgs_nil))))))
      (pss_one (ps_ret (pe_tup (pa_cons (pe_lst (pa_cons pe_int (pa_cons pe_int (pa_cons (pe_un un_neg (pv 2)) (pa_cons (pe_op op_mulW (pe_un un_neg pe_int) (pv 3)) (pa_cons (pe_un un_neg (pv 4)) pa_nil)))))) (pa_cons (pe_lst (pa_cons pe_int (pa_cons pe_int (pa_cons (pv 1) (pa_cons (pe_op op_mulW pe_int (pv 2)) (pa_cons (pv 3) pa_nil)))))) pa_nil)))))), fun ds d hp => ?_⟩
  obtain ⟨c, h, rfl, rfl⟩ := hp
  refine st_asg (ev_call (ea_cons (ev_var rfl) ea_nil) ⟨c, h, rfl, rfl⟩) (tg_tup (tgs_cons tg_name (tgs_cons tg_name (tgs_cons tg_name (tgs_cons tg_name tgs_nil)))) rfl) ?_
  exact st_ret (ev_tup (ea_cons (ev_lst (ea_cons ev_int (ea_cons ev_int (ea_cons (ev_neg (ev_var rfl)) (ea_cons (ev_mul (ev_neg ev_int) (ev_var rfl) (mul_ok (a := 4) (b := 70) (by decide) h.b6 (by decide))) (ea_cons (ev_neg (ev_var rfl)) ea_nil)))))) (ea_cons (ev_lst (ea_cons ev_int (ea_cons ev_int (ea_cons (ev_var rfl) (ea_cons (ev_mul ev_int (ev_var rfl) (mul_ok (a := 4) (b := 70) (by decide) h.b4 (by decide))) (ea_cons (ev_var rfl) ea_nil)))))) ea_nil))) rfl

end
end Cw
end
section
set_option linter.all false
set_option maxRecDepth 100000
set_option maxHeartbeats 4000000
set_option exponentiation.threshold 100000
namespace Cw
open PySem PySem.Spec PyProof.Rows L2
def pap (p : List Int) : Dt := .tup [.tup (zs ((p.drop 1).take 4)), .tup (zs ((p.drop 5).take 4)), .tup (zs ((p.drop 9).take 4)), .tup (zs (p.drop 13)), .int (p.getD 0 0)]
def p_made_small (ds : List Dt) (d : Dt) : Prop := ∃ row : List Int, gcdL row ≠ 0 ∧ (∀ x ∈ row, CDivP x (gcdL row)) ∧ row.length ≤ 100 ∧ ds = [.lst (zs row)] ∧ d = .lst (zs (small row))
def p_own_paper (ds : List Dt) (d : Dt) : Prop := ∃ c : Cv, Cb c ∧ ds = [cv c] ∧ d = pap (paperL c.b2 c.b4 c.b6 c.b8)
def p_heights_paper (ds : List Dt) (d : Dt) : Prop := ∃ c : Cv, Cb c ∧ ds = [cv c] ∧ d = pap (paperL c.b2 c.b4 c.b6 c.b8)
def p_low_of (ds : List Dt) (d : Dt) : Prop := ∃ p : List Int, p.length = 17 ∧ ds = [pap p] ∧ d = .int (lowN p : Int)
def p_high_of (ds : List Dt) (d : Dt) : Prop := ∃ c : Cv, Cs c ∧ ds = [cv c] ∧ d = .int (highN c.b2 c.b4 c.b6 c.b8 : Int)
def p_bounds (ds : List Dt) (d : Dt) : Prop := ∃ c : Cv, Cb c ∧ ds = [cv c] ∧ d = .tup [.int (lowN (paperL c.b2 c.b4 c.b6 c.b8) : Int), .int (highN c.b2 c.b4 c.b6 c.b8 : Int)]
def p_is_row (ds : List Dt) (d : Dt) : Prop := ∃ r : List Int, r.length = 4 ∧ ds = [.tup (zs r)] ∧ d = .bl true
/-- what each item becomes -/
def fdv (g : Int) : Dt → Dt
  | .int x => .int (x.fdiv g)
  | d => d
def absD : Dt → Dt
  | .int x => .int (x.natAbs : Int)
  | d => d
theorem map_fdv (g : Int) (r : List Int) : (zs r).map (fdv g) = zs (r.map fun x => x.fdiv g) := by
  unfold zs
  rw [List.map_map, List.map_map]
  rfl
theorem map_absD (r : List Int) : (zs r).map absD = zs (r.map fun x => (x.natAbs : Int)) := by
  unfold zs
  rw [List.map_map, List.map_map]
  rfl
theorem mem_zs {r : List Int} {d : Dt} (h : d ∈ zs r) : ∃ x, x ∈ r ∧ d = .int x := by
  obtain ⟨x, hx, rfl⟩ := List.mem_map.mp h
  exact ⟨x, hx, rfl⟩
theorem zs_len (r : List Int) : (zs r).length = r.length := by simp [zs]
theorem sum_abs (r : List Int) : (r.map fun x => (x.natAbs : Int)).sum = (absL r : Int) := by
  induction r with
  | nil => rfl
  | cons x r ih =>
    rw [List.map_cons, List.sum_cons, ih]
    show _ = (((x :: r).map Int.natAbs).sum : Int)
    rw [List.map_cons, List.sum_cons]
    show _ + ((r.map Int.natAbs).sum : Int) = _
    omega
theorem zs_app (r s : List Int) : zs r ++ zs s = zs (r ++ s) := by simp [zs]
theorem zs_get {r : List Int} {i : Nat} {d : Dt} (h : (zs r)[i]? = some d) : ∃ x, r[i]? = some x ∧ d = .int x := by
  unfold zs at h
  rw [List.getElem?_map] at h
  cases e : r[i]? with
  | none => rw [e] at h; cases h
  | some x => rw [e] at h; cases h; exact ⟨x, rfl, rfl⟩
theorem gcdL_take_dvd (r : List Int) (k : Nat) : gcdL r ∣ gcdL (r.take k) := dvd_gcdL fun x hx => gcdL_dvd (List.mem_of_mem_take hx)
theorem gcdL_take_succ {r : List Int} {i : Nat} {x : Int} (h : r[i]? = some x) : gcdL (r.take (i + 1)) = (Int.gcd (gcdL (r.take i)) x : Int) := by
  rw [List.take_add_one, h]
  unfold gcdL
  rw [List.foldl_append]
  rfl
theorem small_one {r : List Int} {k : Nat} (h : gcdL (r.take k) = 1) : small r = r := by
  have h1 := gcdL_take_dvd r k
  rw [h] at h1
  have h2 := gcdL_nn r
  have h3 : gcdL r = 1 := Int.eq_one_of_dvd_one h2 h1
  unfold small
  rw [h3]
  conv => rhs; rw [← List.map_id r]
  refine List.map_congr_left fun x _ => ?_
  show x.fdiv 1 = x
  simp
section
variable {P : Program} {w : World} {K : PySem.W.Frag} {mg : Str → Option Value} {base : Heap}

abbrev s_made_small : Stmt := topS 32
abbrev N_made_small : List Str := ["row", "part", "one"]
theorem sc_made_small : FnScope N_made_small ["row"] (defScope s_made_small) := ⟨rfl, rfl, rfl, by decide +kernel, rfl, by decide +kernel, by decide +kernel⟩
theorem ok_made_small (B : Bn mg) (F : Fu K mg "made_small" s_made_small ["row"]) (h_common : Dn P w K mg base "common" ["one", "other"] 1 (spP p_common)) : Dn P w K mg base "made_small" ["row"] 2 (spP p_made_small) := by
  refine F.ok sc_made_small (by rintro _ _ ⟨row, _, _, _, rfl, rfl⟩; rfl) (fun f cdv A outer s H E hr => ?_)
  have hu := hu_of hr
  have hu64 := hr.units
  refine ⟨_, (pss_cons (ps_set (i := 1) sc_made_small.nd rfl (.inr rfl) pe_int)
      (pss_cons (ps_for PassesOwn.never rfl (kpiL (K := K) rfl (pv 0)) (pg_name (i := 2) sc_made_small.nd rfl (.inl rfl)) (pss_cons (ps_set (i := 1) sc_made_small.nd rfl (.inr rfl) (pe_fn h_common (hr.mono (by decide)) (by rfl) (pa_cons (pv 1) (pa_cons (pv 2) pa_nil))))
      (pss_one (ps_if (pt_cmpR op_eq (pv 1) pe_int (nomark _)) (pss_one (ps_ret (pv 0))) pss_nil))))
      (pss_one (ps_ret (pe_lc (own := [("one", 2)]) rfl sc_made_small.nd (kpiL (K := K) rfl (pv 0)) (blkOk_by (own := [("one", 2)]) (N := N_made_small) (sc := (defScope s_made_small)) (by decide +kernel)) (fun _ _ _ _ _ => (pg_name (i := 2) sc_made_small.nd rfl (.inl rfl))) (fun _ _ _ _ _ => pts_nil) (fun _ _ _ _ _ => (pe_op op_fdivP (pv 2) (pv 1)))))))), fun ds d hp => ?_⟩
  obtain ⟨row, hg, hdv, hl, rfl, rfl⟩ := hp
  refine st_set (d := .int (gcdL (row.take 0))) ev_int ?_
  refine st_for (ds := zs row) (src_list (ev_var rfl)) (fun i δ => ∃ c, δ = [some (.lst (zs row)), some (.int (gcdL (row.take i))), c]) ⟨none, rfl⟩ ?_ ?_
  · rintro i d δ1 hd ⟨c, rfl⟩
    obtain ⟨x, hx, rfl⟩ := zs_get hd
    refine ⟨_, tg_name, ?_⟩
    refine st_set (ev_call (ea_cons (ev_var rfl) (ea_cons (ev_var rfl) ea_nil)) ⟨_, _, rfl, rfl⟩) ?_
    rw [← gcdL_take_succ hx]
    refine st_if (eb_test (ev_eqI (ev_var rfl) ev_int)) (fun hc => ?_) fun _ => st_next ⟨some (.int x), rfl⟩
    have h1 : gcdL (row.take (i + 1)) = 1 := of_decide_eq_true hc
    refine st_ret (ev_var rfl) ?_
    rw [small_one h1]
  · rintro δ1 ⟨c, rfl⟩
    rw [zs_len, List.take_length]
    refine st_ret (ev_lcm (src_list (ev_var rfl)) (fdv (gcdL row)) (by rw [zs_len]; omega) (fun d hd => ?_)) ?_
    · obtain ⟨x, hx, rfl⟩ := mem_zs hd
      exact ⟨_, tc_name (by simp), ev_fdiv (ev_var rfl) (ev_var rfl) (hdv x hx)⟩
    · rw [map_fdv]
      rfl

abbrev s_heights_paper : Stmt := topS 36
abbrev N_heights_paper : List Str := ["curve"]
theorem sc_heights_paper : FnScope N_heights_paper ["curve"] (defScope s_heights_paper) := ⟨rfl, rfl, rfl, by decide +kernel, rfl, by decide +kernel, by decide +kernel⟩
theorem ok_heights_paper (B : Bn mg) (F : Fu K mg "heights_paper" s_heights_paper ["curve"]) (h_need_curve : Dn P w K mg base "need_curve" ["curve"] 8 (spP p_need_curve)) (h_need_whole : Dn P w K mg base "need_whole" ["curve"] 2 (spP p_need_whole)) (h_own_paper : Dn P w K mg base "own_paper" ["curve"] 7 (spP p_own_paper)) : Dn P w K mg base "heights_paper" ["curve"] 9 (spP p_heights_paper) := by
  refine F.ok sc_heights_paper (by rintro _ _ ⟨c, _, rfl, rfl⟩; rfl) (fun f cdv A outer s H E hr => ?_)
  have hu := hu_of hr
  have hu64 := hr.units
  refine ⟨_, (pss_cons (ps_expr (pe_fn h_need_curve (hr.mono (by decide)) (by rfl) (pa_cons (pv 0) pa_nil)))
      (pss_cons (ps_expr (pe_fn h_need_whole (hr.mono (by decide)) (by rfl) (pa_cons (pv 0) pa_nil)))
      (pss_one (ps_ret (pe_fn h_own_paper (hr.mono (by decide)) (by rfl) (pa_cons (pv 0) pa_nil)))))), fun ds d hp => ?_⟩
  obtain ⟨c, h, rfl, rfl⟩ := hp
  refine st_expr (ev_call (ea_cons (ev_var rfl) ea_nil) ⟨c, h.cs, h.d, rfl, rfl⟩) ?_
  refine st_expr (ev_call (ea_cons (ev_var rfl) ea_nil) ⟨c, rfl, rfl⟩) ?_
  exact st_ret (ev_call (ea_cons (ev_var rfl) ea_nil) ⟨c, h, rfl, rfl⟩) rfl

abbrev s_low_of : Stmt := topS 37
abbrev N_low_of : List Str := ["paper", "f1", "g1", "f2", "g2", "r", "one"]
theorem sc_low_of : FnScope N_low_of ["paper"] (defScope s_low_of) := ⟨rfl, rfl, rfl, by decide +kernel, rfl, by decide +kernel, by decide +kernel⟩
theorem ok_low_of (B : Bn mg) (F : Fu K mg "low_of" s_low_of ["paper"])  : Dn P w K mg base "low_of" ["paper"] 1 (spP p_low_of) := by
  refine F.ok sc_low_of (by rintro _ _ ⟨p, _, rfl, rfl⟩; rfl) (fun f cdv A outer s H E hr => ?_)
  have hu := hu_of hr
  have hu64 := hr.units
  refine ⟨_, (pss_cons (ps_asg (pv 0) (pg_tup rfl (pgs_cons (pg_name (i := 1) sc_low_of.nd rfl (.inl rfl)) (pgs_cons (pg_name (i := 2) sc_low_of.nd rfl (.inl rfl)) (pgs_cons (pg_name (i := 3) sc_low_of.nd rfl (.inl rfl)) (pgs_cons (pg_name (i := 4) sc_low_of.nd rfl (.inl rfl)) (pgs_cons (pg_name (i := 5) sc_low_of.nd rfl (.inl rfl)) pgs_nil)))))))
      (pss_one (ps_ret (pe_callB (call_max2 rfl) (by rfl) B.max PyProof.Rows.boot_max (pa_cons (pe_callB (kSum (K := K) rfl rfl) (by rfl) B.sum PyProof.Rows.boot_sum (pa_cons (pe_lc (own := [("one", 6)]) rfl sc_low_of.nd (kpiT (K := K) rfl (pe_op (kCatT (K := K) rfl) (pv 1) (pv 2))) (blkOk_by (own := [("one", 6)]) (N := N_low_of) (sc := (defScope s_low_of)) (by decide +kernel)) (fun _ _ _ _ _ => (pg_name (i := 6) sc_low_of.nd rfl (.inl rfl))) (fun _ _ _ _ _ => pts_nil) (fun _ _ _ _ _ => (pe_callB call_abs (by rfl) B.abs PyProof.Rows.boot_abs (pa_cons (pv 6) pa_nil)))) pa_nil)) (pa_cons (pe_callB (kSum (K := K) rfl rfl) (by rfl) B.sum PyProof.Rows.boot_sum (pa_cons (pe_lc (own := [("one", 6)]) rfl sc_low_of.nd (kpiT (K := K) rfl (pe_op (kCatT (K := K) rfl) (pv 3) (pv 4))) (blkOk_by (own := [("one", 6)]) (N := N_low_of) (sc := (defScope s_low_of)) (by decide +kernel)) (fun _ _ _ _ _ => (pg_name (i := 6) sc_low_of.nd rfl (.inl rfl))) (fun _ _ _ _ _ => pts_nil) (fun _ _ _ _ _ => (pe_callB call_abs (by rfl) B.abs PyProof.Rows.boot_abs (pa_cons (pv 6) pa_nil)))) pa_nil)) pa_nil)))))), fun ds d hp => ?_⟩
  obtain ⟨p, hl, rfl, rfl⟩ := hp
  obtain ⟨a0, a1, a2, a3, a4, a5, a6, a7, a8, a9, a10, a11, a12, a13, a14, a15, a16, rfl⟩ := list17 hl
  refine st_asg (ev_var rfl) (tg_tup (tgs_cons tg_name (tgs_cons tg_name (tgs_cons tg_name (tgs_cons tg_name (tgs_cons tg_name tgs_nil))))) rfl) ?_
  refine st_ret (ev_max2 (ea_cons (ev_sum (ea_cons (ev_cast (ev_lcm (ds := zs [a1, a2, a3, a4, a5, a6, a7, a8]) (src_tup (ev_catT (ds := zs [a1, a2, a3, a4]) (es := zs [a5, a6, a7, a8]) (ev_var rfl) (ev_var rfl) (by simp [zs]) (by simp [zs]) (by simp [zs]))) absD (by simp [zs]) (fun d hd => by
    obtain ⟨x, hx, rfl⟩ := mem_zs hd
    exact ⟨_, tc_name (by simp), ev_abs (ea_cons (ev_var rfl) ea_nil)⟩)) (by rw [map_absD])) ea_nil)) (ea_cons (ev_sum (ea_cons (ev_cast (ev_lcm (ds := zs [a9, a10, a11, a12, a13, a14, a15, a16]) (src_tup (ev_catT (ds := zs [a9, a10, a11, a12]) (es := zs [a13, a14, a15, a16]) (ev_var rfl) (ev_var rfl) (by simp [zs]) (by simp [zs]) (by simp [zs]))) absD (by simp [zs]) (fun d hd => by
    obtain ⟨x, hx, rfl⟩ := mem_zs hd
    exact ⟨_, tc_name (by simp), ev_abs (ea_cons (ev_var rfl) ea_nil)⟩)) (by rw [map_absD])) ea_nil)) ea_nil))) ?_
  rw [sum_abs, sum_abs]
  show Dt.int _ = Dt.int _
  congr 1
  show _ = ((max (absL [a1, a2, a3, a4, a5, a6, a7, a8]) (absL [a9, a10, a11, a12, a13, a14, a15, a16]) : Nat) : Int)
  omega

def sumAbsD : Dt → Dt
  | .lst ds => .int ((ds.map fun d => match d with | .int x => (x.natAbs : Int) | _ => 0).sum)
  | d => d
theorem sumAbsD_zs (r : List Int) : sumAbsD (.lst (zs r)) = .int (absL r : Int) := by
  show Dt.int _ = Dt.int _
  congr 1
  rw [← sum_abs]
  unfold zs
  rw [List.map_map]
  rfl
theorem max_two {a b m : Int} (h : m ∈ [a, b]) (h2 : ∀ y, y ∈ [a, b] → y ≤ m) : m = max a b := by
  have h3 := h2 a (by simp)
  have h4 := h2 b (by simp)
  have h5 : m = a ∨ m = b := by simpa using h
  omega

abbrev s_high_of : Stmt := topS 38
abbrev N_high_of : List Str := ["curve", "form", "one"]
theorem sc_high_of : FnScope N_high_of ["curve"] (defScope s_high_of) := ⟨rfl, rfl, rfl, by decide +kernel, rfl, by decide +kernel, by decide +kernel⟩
theorem ok_high_of (B : Bn mg) (F : Fu K mg "high_of" s_high_of ["curve"]) (h_forms_of : Dn P w K mg base "forms_of" ["curve"] 6 (spP p_forms_of)) : Dn P w K mg base "high_of" ["curve"] 7 (spP p_high_of) := by
  refine F.ok sc_high_of (by rintro _ _ ⟨c, _, rfl, rfl⟩; rfl) (fun f cdv A outer s H E hr => ?_)
  have hu := hu_of hr
  have hu64 := hr.units
  refine ⟨_, (pss_one (ps_ret (pe_callB (kMax (K := K) rfl rfl) (by rfl) B.max PyProof.Rows.boot_max (pa_cons (pe_lc (own := [("form", 1)]) rfl sc_high_of.nd (kpiT (K := K) rfl (pe_fn h_forms_of (hr.mono (by decide)) (by rfl) (pa_cons (pv 0) pa_nil))) (blkOk_by (own := [("form", 1)]) (N := N_high_of) (sc := (defScope s_high_of)) (by decide +kernel)) (fun _ _ _ _ _ => (pg_name (i := 1) sc_high_of.nd rfl (.inl rfl))) (fun _ _ _ _ _ => pts_nil) (fun _ _ _ _ _ => (pe_callB (kSum (K := K) rfl rfl) (by rfl) B.sum PyProof.Rows.boot_sum (pa_cons (pe_lc (own := [("one", 2)]) rfl sc_high_of.nd (kpiL (K := K) rfl (pv 1)) (blkOk_by (own := [("one", 2)]) (N := N_high_of) (sc := { kind := .function, names := [(Str.ofString ".0", NameKind.local), (Str.ofString "form", NameKind.local), (Str.ofString "sum", NameKind.globalImplicit)], isGenerator := false, isCoroutine := false }) (by decide +kernel)) (fun _ _ _ _ _ => (pg_name (i := 2) sc_high_of.nd rfl (.inl rfl))) (fun _ _ _ _ _ => pts_nil) (fun _ _ _ _ _ => (pe_callB call_abs (by rfl) B.abs PyProof.Rows.boot_abs (pa_cons (pv 2) pa_nil)))) pa_nil)))) pa_nil)))), fun ds d hp => ?_⟩
  obtain ⟨c, h, rfl, rfl⟩ := hp
  refine st_ret (ev_max (ns := [(absL (formF c.b4 c.b6 c.b8) : Int), (absL (formG c.b2 c.b4 c.b6) : Int)]) (ea_cons (ev_cast (ev_lcm (src_tup (ev_call (ea_cons (ev_var rfl) ea_nil) ⟨c, h, rfl, rfl⟩)) sumAbsD (Nat.le_of_ble_eq_true rfl) (fun d hd => ?_)) ?_) ea_nil) (Nat.zero_lt_succ _) (fun k h1 h2 => max_two h1 h2)) ?_
  · have hd' : ∃ r : List Int, d = .lst (zs r) ∧ r.length ≤ 100 := by
      have : d = .lst (zs (formF c.b4 c.b6 c.b8)) ∨ d = .lst (zs (formG c.b2 c.b4 c.b6)) := by simpa using hd
      rcases this with rfl | rfl
      · exact ⟨_, rfl, Nat.le_of_ble_eq_true rfl⟩
      · exact ⟨_, rfl, Nat.le_of_ble_eq_true rfl⟩
    obtain ⟨r, rfl, hr⟩ := hd'
    refine ⟨_, tc_name (by simp), ?_⟩
    rw [sumAbsD_zs, ← sum_abs]
    exact ev_sum (ea_cons (ev_cast (ev_lcm (src_list (ev_var rfl)) absD (by rw [zs_len]; omega) (fun d hd => by
      obtain ⟨x, hx, rfl⟩ := mem_zs hd
      exact ⟨_, tc_name (by simp), ev_abs (ea_cons (ev_var rfl) ea_nil)⟩)) (by rw [map_absD])) ea_nil)
  · rw [List.map_cons, List.map_cons, List.map_nil, sumAbsD_zs, sumAbsD_zs]
    rfl
  · show Dt.int _ = Dt.int _
    congr 1
    show _ = ((max (absL (formF c.b4 c.b6 c.b8)) (absL (formG c.b2 c.b4 c.b6)) : Nat) : Int)
    omega

abbrev s_bounds : Stmt := topS 39
abbrev N_bounds : List Str := ["curve"]
theorem sc_bounds : FnScope N_bounds ["curve"] (defScope s_bounds) := ⟨rfl, rfl, rfl, by decide +kernel, rfl, by decide +kernel, by decide +kernel⟩
theorem ok_bounds (B : Bn mg) (F : Fu K mg "bounds" s_bounds ["curve"]) (h_need_curve : Dn P w K mg base "need_curve" ["curve"] 8 (spP p_need_curve)) (h_need_whole : Dn P w K mg base "need_whole" ["curve"] 2 (spP p_need_whole)) (h_low_of : Dn P w K mg base "low_of" ["paper"] 1 (spP p_low_of)) (h_high_of : Dn P w K mg base "high_of" ["curve"] 7 (spP p_high_of)) (h_own_paper : Dn P w K mg base "own_paper" ["curve"] 7 (spP p_own_paper)) : Dn P w K mg base "bounds" ["curve"] 9 (spP p_bounds) := by
  refine F.ok sc_bounds (by rintro _ _ ⟨c, _, rfl, rfl⟩; rfl) (fun f cdv A outer s H E hr => ?_)
  have hu := hu_of hr
  have hu64 := hr.units
  refine ⟨_, (pss_cons (ps_expr (pe_fn h_need_curve (hr.mono (by decide)) (by rfl) (pa_cons (pv 0) pa_nil)))
      (pss_cons (ps_expr (pe_fn h_need_whole (hr.mono (by decide)) (by rfl) (pa_cons (pv 0) pa_nil)))
      (pss_one (ps_ret (pe_tup (pa_cons (pe_fn h_low_of (hr.mono (by decide)) (by rfl) (pa_cons (pe_fn h_own_paper (hr.mono (by decide)) (by rfl) (pa_cons (pv 0) pa_nil)) pa_nil)) (pa_cons (pe_fn h_high_of (hr.mono (by decide)) (by rfl) (pa_cons (pv 0) pa_nil)) pa_nil))))))), fun ds d hp => ?_⟩
  obtain ⟨c, h, rfl, rfl⟩ := hp
  refine st_expr (ev_call (ea_cons (ev_var rfl) ea_nil) ⟨c, h.cs, h.d, rfl, rfl⟩) ?_
  refine st_expr (ev_call (ea_cons (ev_var rfl) ea_nil) ⟨c, rfl, rfl⟩) ?_
  exact st_ret (ev_tup (ea_cons (ev_call (ea_cons (ev_call (ea_cons (ev_var rfl) ea_nil) ⟨c, h, rfl, rfl⟩) ea_nil) ⟨_, paperL_len, rfl, rfl⟩) (ea_cons (ev_call (ea_cons (ev_var rfl) ea_nil) ⟨c, h.cs, rfl, rfl⟩) ea_nil))) rfl

abbrev s_is_row : Stmt := topS 40
abbrev N_is_row : List Str := ["thing", "one"]
theorem sc_is_row : FnScope N_is_row ["thing"] (defScope s_is_row) := ⟨rfl, rfl, rfl, by decide +kernel, rfl, by decide +kernel, by decide +kernel⟩
theorem ok_is_row (B : Bn mg) (F : Fu K mg "is_row" s_is_row ["thing"]) (h_is_number : Dn P w K mg base "is_number" ["thing"] 1 (spP p_is_number)) : Dn P w K mg base "is_row" ["thing"] 2 (spP p_is_row) := by
  refine F.ok sc_is_row (by rintro _ _ ⟨r, _, rfl, rfl⟩; rfl) (fun f cdv A outer s H E hr => ?_)
  have hu := hu_of hr
  have hu64 := hr.units
  refine ⟨_, (pss_one (ps_ret (pe_and (pe_callB (kIsi (K := K) rfl) (by rfl) B.isinstance PyProof.Rows.boot_isinstance (pa_cons (pv 0) (pa_cons (pe_bltn (v := .ty "tuple") (by rfl) B.tuple PyProof.Rows.boot_tuple rfl) pa_nil))) (pe_and (pe_cmpR op_eq (pe_callB (kLen (K := K) rfl) (by rfl) B.len PySem.boot_len (pa_cons (pv 0) pa_nil)) (pe_glob' rfl B.FEW) (nomark _)) (pe_one (pe_callB (kAll (K := K) rfl rfl) (by rfl) B.all PyProof.Rows.boot_all (pa_cons (pe_lc (own := [("one", 1)]) rfl sc_is_row.nd (kpiT (K := K) rfl (pv 0)) (blkOk_by (own := [("one", 1)]) (N := N_is_row) (sc := (defScope s_is_row)) (by decide +kernel)) (fun _ _ _ _ _ => (pg_name (i := 1) sc_is_row.nd rfl (.inl rfl))) (fun _ _ _ _ _ => pts_nil) (fun _ _ _ _ _ => (pe_fn h_is_number (hr.mono (by decide)) (by rfl) (pa_cons (pv 1) pa_nil)))) pa_nil))))))), fun ds d hp => ?_⟩
  obtain ⟨r, hl, rfl, rfl⟩ := hp
  match r, hl with
  | [a, b, c, e], _ =>
    exact st_ret (ev_andV (ty_tt (ev_var rfl)) fun _ => ev_andV (ev_eqI (ev_lenT (ea_cons (ev_var rfl) ea_nil)) ev_int) fun _ => ev_all (bs := [true, true, true, true]) (ea_cons (ev_cast (ev_lcm (src_tup (ev_var rfl)) (fun _ => Dt.bl true) (Nat.le_of_ble_eq_true rfl) (fun d hd => by
      obtain ⟨x, hx, rfl⟩ := mem_zs (r := [a, b, c, e]) hd
      exact ⟨_, tc_name (by simp), ev_call (ea_cons (ev_var rfl) ea_nil) ⟨x, rfl, rfl⟩⟩)) rfl) ea_nil)) rfl

end
end Cw
end
section
set_option linter.all false
set_option maxRecDepth 100000
set_option maxHeartbeats 1000000
set_option exponentiation.threshold 100000
namespace Cw
open PySem PySem.Spec PyProof.Rows L2
/-! ### o[i] of a list, by values -/
theorem pget_list {X : Cx} : PGet X (rIxL X.K) := by
  intro pins s σ H o i ov iv Q I ro ri h
  obtain ⟨p, xs, k, z, rfl, rfl, hq, he, q⟩ := h
  cases ro
  obtain ⟨t, rfl⟩ := ri
  obtain ⟨its, r, pl, hz⟩ := I.list hq
  obtain ⟨j, h1, h2, h3, h4, h5⟩ := atI_get he
  obtain ⟨w, ew, rw'⟩ := r.get h2
  have hl := r.length
  have hn := line63
  have fin : EP X pins σ Q w s := ⟨z, H, I, rw', q⟩
  by_cases h0 : 0 ≤ k
  · have hj : k.toNat = j := by
      rw [seqIndex_of h0 h5] at h1
      exact Option.some.inj h1
    exact wpAny_getItem_list pl.isList h0 (by omega) (by rw [hj]; simpa using ew) fin
  · have hj : (k + (its.toArray.size : Int)).toNat = j := by
      rw [seqIndex_neg (by omega) h4] at h1
      rw [List.size_toArray, ← hl]
      exact Option.some.inj h1
    exact wpAny_getItem_list_neg pl.isList (by omega) (by rw [List.size_toArray] <;> omega) (by omega) (by rw [hj]; simpa using ew) fin

theorem ixN_at {n j : Nat} (hj : j < n) : ixN n (j : Int) = some j := by
  unfold ixN
  rw [if_pos (by omega), if_pos (by omega)]
  simp
/-! ### what may be said of both heaps -/
abbrev HpP := Hp → Hp → Prop
def Stab (S : HpP) : Prop := ∀ H P H' P', S H P → Ext H P H' P' → S H' P'
def OwnL (L : Addr) (acc : List Dt) : HpP := fun H P => P L = none ∧ ∃ vs, H L = some (.lst vs) ∧ Reps P acc vs
/-- S doesn't speak of what is at L -/
structure Tol (S : HpP) (L : Addr) : Prop where
  chg : ∀ H P o, S H P → P L = none → S (upd H L o) P
  frz : ∀ H P o, S H P → H L = some o → P L = none → S H (upd P L o)
def New (S : HpP) : Prop := ∀ H P L, S H P → H L = none → Tol S L
def SO (S : HpP) (L : Addr) (acc : List Dt) : HpP := fun H P => S H P ∧ OwnL L acc H P
theorem own_stab {L : Addr} {acc : List Dt} : Stab (OwnL L acc) := fun H P H' P' ⟨a, vs, b, c⟩ e => ⟨(e.keepOut b a).2, vs, (e.keepOut b a).1, c.mono e.part⟩
theorem ext_stab {H0 P0 : Hp} : Stab (Ext H0 P0) := fun H P H' P' a e => a.trans e
theorem ext_tol {H0 P0 : Hp} {L : Addr} (h : H0 L = none) : Tol (Ext H0 P0) L := ⟨fun H P o a b => a.mut h b, fun H P o a b c => a.freeze h b⟩
theorem ext_new {H0 P0 : Hp} : New (Ext H0 P0) := fun H P L a b => ext_tol (a.big.free b)
theorem so_stab {S : HpP} {L : Addr} {acc : List Dt} (h : Stab S) : Stab (SO S L acc) := fun H P H' P' a e => ⟨h _ _ _ _ a.1 e, own_stab _ _ _ _ a.2 e⟩
theorem so_new {S : HpP} {L : Addr} {acc : List Dt} (h : New S) : New (SO S L acc) := fun H P R a b => by
  have hT := h H P R a.1 b
  have hne : L ≠ R := by
    rintro rfl
    obtain ⟨_, vs, h1, _⟩ := a.2
    rw [b] at h1
    cases h1
  refine ⟨fun H P o ⟨x, y1, vs, y2, y3⟩ z => ⟨hT.chg H P o x z, y1, vs, ?_, y3⟩, fun H P o ⟨x, y1, vs, y2, y3⟩ z z2 => ⟨hT.frz H P o x z z2, ?_, vs, y2, y3.mono (same_freeze z2)⟩⟩
  · rw [upd_ne hne]; exact y2
  · rw [upd_ne hne]; exact y1
theorem SO.put {S : HpP} {L : Addr} {acc acc' : List Dt} {H P : Hp} {vs' : List V} (T : Tol S L) (h : SO S L acc H P) (r : Reps P acc' vs') : SO S L acc' (upd H L (.lst vs')) P := ⟨T.chg _ _ _ h.1 h.2.1, h.2.1, vs', upd_same, r⟩
theorem same_put {L : Addr} {H P : Hp} {o : HO} (s : Same P H) (h : P L = none) : Same P (upd H L o) := fun b x e => by
  rw [upd_ne (ne_of_none e h)]
  exact s _ _ e
/-! ### judgements with such -/
def EvR (te : TE) (δ : De) (S : HpP) (N : Dt → HpP) : Prop := ∀ (σ : L2.St) (H HP : Hp), Same HP H → S H HP → Sl HP σ δ → ∀ Q : VK, (∀ d v H' P', N d H' P' → Same P' H' → Same HP P' → Rep P' d v → Q v H') → te σ H Q
def StR (ts : TS) (δ : De) (S : HpP) (N : De → HpP) (R : Dt → HpP) : Prop := ∀ (σ : L2.St) (H HP : Hp), Same HP H → S H HP → Sl HP σ δ → ∀ D : Ends,
  (∀ δ' σ' H' P', N δ' H' P' → Same P' H' → Same HP P' → Sl P' σ' δ' → D.nx σ' H') → (∀ d v H' P', R d H' P' → Same P' H' → Same HP P' → Rep P' d v → D.rt v H') → ts D σ H
/-- a new list -/
def EvW (te : TE) (δ : De) (ds : List Dt) : Prop := ∀ (σ : L2.St) (H HP : Hp), Same HP H → Sl HP σ δ → ∀ Q : VK, (∀ L H' P', Ext H HP H' P' → H L = none → OwnL L ds H' P' → Q (.ref L) H') → te σ H Q
section
variable {K : PySem.W.Frag} {δ δ1 δ2 : De} {d : Dt} {ds acc : List Dt} {S S1 : HpP} {N N1 : De → HpP} {R R1 : Dt → HpP} {te ta ti : TE} {tA : TA} {t : TT} {a b u : TS} {g : TG} {L : Addr} {nx : De → Prop} {rt : Dt → Prop}
theorem er_of (h : EvD te δ d) (hS : Stab S) : EvR te δ S (fun d' H P => d' = d ∧ S H P) := fun σ H HP s a sl Q q => h σ H HP s sl Q fun v H' P' e r => q d v H' P' ⟨rfl, hS _ _ _ _ a e⟩ e.sub e.part r
theorem sr_pre (hp : ∀ H P, S H P → S1 H P) (h : StR a δ S1 N R) : StR a δ S N R := fun σ H HP s x sl D q1 q2 => h σ H HP s (hp _ _ x) sl D q1 q2
theorem sr_imp (h : StR a δ S N1 R1) (h1 : ∀ δ H P, N1 δ H P → N δ H P) (h2 : ∀ d H P, R1 d H P → R d H P) : StR a δ S N R := fun σ H HP s x sl D q1 q2 => h σ H HP s x sl D (fun δ' σ' H' P' n => q1 δ' σ' H' P' (h1 _ _ _ n)) fun d v H' P' r => q2 d v H' P' (h2 _ _ _ r)
theorem sr_nx (h : StR a δ S N1 R) (h1 : ∀ δ H P, N1 δ H P → N δ H P) : StR a δ S N R := sr_imp h h1 fun _ _ _ r => r
theorem sr_d (h : StD a δ nx rt) (hS : Stab S) (hn : ∀ δ' H P, nx δ' → S H P → N δ' H P) (hr : ∀ d H P, rt d → S H P → R d H P) : StR a δ S N R := fun σ H HP s x sl D q1 q2 =>
  h σ H HP s sl D (fun δ' σ' H' P' n e sl' => q1 δ' σ' H' P' (hn _ _ _ n (hS _ _ _ _ x e)) e.sub e.part sl') fun d v H' P' r e rv => q2 d v H' P' (hr _ _ _ r (hS _ _ _ _ x e)) e.sub e.part rv
theorem st_of_r (h : ∀ H0 P0, StR a δ (Ext H0 P0) (fun δ' H P => nx δ' ∧ Ext H0 P0 H P) (fun d H P => rt d ∧ Ext H0 P0 H P)) : StD a δ nx rt := fun σ H HP s sl D q1 q2 =>
  h H HP σ H HP s (.refl s) sl D (fun δ' σ' H' P' n _ _ sl' => q1 δ' σ' H' P' n.1 n.2 sl') fun d v H' P' r _ _ rv => q2 d v H' P' r.1 r.2 rv
theorem sr_seq (h : StR a δ S N1 R) (k : ∀ δ' H P, N1 δ' H P → ∃ S2, S2 H P ∧ StR u δ' S2 N R) : StR (tSeq a u) δ S N R := fun σ H HP s x sl D q1 q2 =>
  h σ H HP s x sl { D with nx := u D } (fun δ' σ' H' P' n s' p' sl' => by
    obtain ⟨S2, h1, h2⟩ := k δ' H' P' n
    exact h2 σ' H' P' s' h1 sl' D (fun δ2 σ2 H2 P2 n2 s2 p2 sl2 => q1 δ2 σ2 H2 P2 n2 s2 (p'.trans p2) sl2) fun d v H2 P2 r s2 p2 rv => q2 d v H2 P2 r s2 (p'.trans p2) rv) q2
theorem sr_then (h : StR a δ S (fun δ' H P => δ' = δ1 ∧ S1 H P) R) (k : StR u δ1 S1 N R) : StR (tSeq a u) δ S N R := sr_seq h fun δ' H P ⟨e, x⟩ => ⟨S1, x, e ▸ k⟩
theorem sr_next (h : ∀ H P, S H P → N δ H P) : StR tNext δ S N R := fun σ H HP s x sl D q1 _ => q1 δ σ H HP (h _ _ x) s (Same.refl _) sl
theorem sr_asg1 (h : EvD te δ d) (hS : Stab S) (hg : TgD g δ d δ1) : StR (tAsg te g) δ S (fun δ' H P => δ' = δ1 ∧ S H P) R := sr_d (st_asg1 (nx := fun x => x = δ1) (rt := fun _ => False) h hg rfl) hS (fun _ _ _ e x => ⟨e, x⟩) fun _ _ _ z _ => z.elim
theorem sr_asg (h : EvD te δ d) (hS : Stab S) (hg : TgD g δ d δ1) (k : StR u δ1 S N R) : StR (tSeq (tAsg te g) u) δ S N R := sr_then (sr_asg1 h hS hg) k
theorem sr_set {i : Nat} (h : EvD te δ d) (hS : Stab S) (k : StR u (δ.set i (some d)) S N R) : StR (tSeq (tAsg te (gName i)) u) δ S N R := sr_asg h hS tg_name k
theorem sr_expr (h : EvD te δ d) (hS : Stab S) (k : StR u δ S N R) : StR (tSeq (tDrop te) u) δ S N R := sr_then (δ1 := δ) (S1 := S) (fun σ H HP s x sl D q1 _ => h σ H HP s sl _ fun v H1 P1 e1 _ => q1 δ σ H1 P1 ⟨rfl, hS _ _ _ _ x e1⟩ e1.sub e1.part (sl.mono e1.part)) k
theorem sr_ret (h : EvD te δ d) (hS : Stab S) (hr : ∀ H P, S H P → R d H P) : StR (tRet te) δ S N R := fun σ H HP s x sl D _ q2 => h σ H HP s sl _ fun v H1 P1 e1 r1 => q2 d v H1 P1 (hr _ _ (hS _ _ _ _ x e1)) e1.sub e1.part r1
theorem sr_if {c : Bool} (h : EvB t δ c) (hS : Stab S) (h1 : c = true → StR a δ S N R) (h2 : c = false → StR b δ S N R) : StR (tIfS t a b) δ S N R := fun σ H HP s x sl D q1 q2 =>
  h σ H HP s sl _ fun H1 P1 e1 => by
    have k1 : ∀ δ2 σ2 H2 P2, N δ2 H2 P2 → Same P2 H2 → Same P1 P2 → Sl P2 σ2 δ2 → D.nx σ2 H2 := fun δ2 σ2 H2 P2 n2 s2 p2 sl2 => q1 δ2 σ2 H2 P2 n2 s2 (e1.part.trans p2) sl2
    have k2 : ∀ d v H2 P2, R d H2 P2 → Same P2 H2 → Same P1 P2 → Rep P2 d v → D.rt v H2 := fun d v H2 P2 r s2 p2 rv => q2 d v H2 P2 r s2 (e1.part.trans p2) rv
    cases c with
    | true =>
      rw [if_pos rfl]
      exact h1 rfl σ H1 P1 e1.sub (hS _ _ _ _ x e1) (sl.mono e1.part) D k1 k2
    | false =>
      rw [if_neg Bool.false_ne_true]
      exact h2 rfl σ H1 P1 e1.sub (hS _ _ _ _ x e1) (sl.mono e1.part) D k1 k2
theorem sr_ifF (h : EvB t δ false) (hS : Stab S) (k : StR u δ S N R) : StR (tSeq (tIfS t a tNext) u) δ S N R := sr_then (δ1 := δ) (S1 := S) (sr_if h hS (fun z => nomatch z) fun _ => sr_next fun _ _ x => ⟨rfl, x⟩) k
/-- for -/
theorem sr_for {wi : TI} (hs : SrcD wi δ ds) (hS : Stab S) (Pv : Nat → De → HpP) (h0 : ∀ H P, S H P → Pv 0 δ H P)
    (hb : ∀ i d δ1 H P, ds[i]? = some d → Pv i δ1 H P → ∃ δ2 S2, TgD g δ1 d δ2 ∧ S2 H P ∧ Stab S2 ∧ StR a δ2 S2 (Pv (i + 1)) R)
    (hd : ∀ δ1 H P, Pv ds.length δ1 H P → ∃ S2, S2 H P ∧ StR u δ1 S2 N R) : StR (tSeq (tFor wi g a) u) δ S N R := fun σ H HP s x sl D q1 q2 =>
  raw_for hs s sl fun H1 P1 e1 => ⟨fun i δ' H' P' => Pv i δ' H' P' ∧ Same P1 P' ∧ Same P' H', ⟨h0 _ _ (hS _ _ _ _ x e1), Same.refl _, e1.sub⟩, fun i δ' H' P' p => p.2, fun i d δ' σ' H' P' hdi p sl' y H3 P3 e3 rd => by
    obtain ⟨p1, p2, p3⟩ := p
    obtain ⟨δ2, S2, tg, hS2, st2, hr⟩ := hb i d δ' H' P' hdi p1
    refine tg σ' H3 P3 y e3.sub (sl'.mono e3.part) rd _ fun σ2 sl2 => ?_
    have fin := hr σ2 H3 P3 e3.sub (st2 _ _ _ _ hS2 e3) sl2
    have b1 : ∀ δ4 σ4 H4 P4, Pv (i + 1) δ4 H4 P4 → Same P4 H4 → Same P3 P4 → Sl P4 σ4 δ4 → ∃ δ4 P4, (Pv (i + 1) δ4 H4 P4 ∧ Same P1 P4 ∧ Same P4 H4) ∧ Sl P4 σ4 δ4 := fun δ4 σ4 H4 P4 n s4 p4 sl4 => ⟨δ4, P4, ⟨n, p2.trans (e3.part.trans p4), s4⟩, sl4⟩
    exact fin _ b1 fun d v H4 P4 r s4 p4 rv => q2 d v H4 P4 r s4 (e1.part.trans (p2.trans (e3.part.trans p4))) rv, fun δ' σ' H' P' p sl' => by
    obtain ⟨p1, p2, p3⟩ := p
    obtain ⟨S2, hS2, hr⟩ := hd δ' H' P' p1
    exact hr σ' H' P' p3 hS2 sl' D (fun δ2 σ2 H2 P2 n2 s2 pp sl2 => q1 δ2 σ2 H2 P2 n2 s2 (e1.part.trans (p2.trans pp)) sl2) fun d v H2 P2 r s2 pp rv => q2 d v H2 P2 r s2 (e1.part.trans (p2.trans pp)) rv⟩
/-- a list of one's own: made, let go -/
theorem sr_new {i : Nat} (h : EvW te δ ds) (hS : Stab S) (hN : New S) (k : ∀ L, Tol S L → StR u (δ.set i (some (.adr L))) (SO S L ds) N R) : StR (tSeq (tAsg te (gName i)) u) δ S N R := fun σ H HP s x sl D q1 q2 =>
  h σ H HP s sl _ fun L H1 P1 e1 hL ho => k L (hN _ _ _ x hL) (σ.set i (some (.ref L))) H1 P1 e1.sub ⟨hS _ _ _ _ x e1, ho⟩ (Sl.set (sl.mono e1.part) (d := .adr L) rfl i) D (fun δ2 σ2 H2 P2 n2 s2 p2 sl2 => q1 δ2 σ2 H2 P2 n2 s2 (e1.part.trans p2) sl2) fun d v H2 P2 r s2 p2 rv => q2 d v H2 P2 r s2 (e1.part.trans p2) rv
theorem slot_at {H : Hp} {σ : L2.St} {i : Nat} (sl : Sl H σ δ) (hi : δ[i]? = some (some (.adr L))) : σ[i]? = some (some (.ref L)) := by
  obtain ⟨v, h1, h2⟩ := sl.2 i _ hi
  cases (show v = .ref L from h2)
  exact h1
theorem sl_frz {H HP : Hp} {σ : L2.St} {i : Nat} {vs : List V} (sl : Sl HP σ δ) (hi : δ[i]? = some (some (.adr L))) (hp : HP L = none) (hr : Reps HP acc vs) : Sl (upd HP L (.lst vs)) σ (δ.set i (some (.lst acc))) := by
  have h1 := slot_at sl hi
  have h2 : σ.set i (some (.ref L)) = σ := by
    refine List.ext_getElem? fun j => ?_
    by_cases hj : i = j
    · subst hj
      rw [List.getElem?_set_self (List.getElem?_eq_some_iff.mp h1).1, h1]
    · rw [List.getElem?_set_ne hj]
  have h3 := Sl.set (sl.mono (same_freeze (o := .lst vs) hp)) (d := .lst acc) (v := .ref L) ⟨L, vs, rfl, upd_same, hr.mono (same_freeze hp)⟩ i
  rwa [h2] at h3
theorem sr_freeze {i : Nat} (hi : δ[i]? = some (some (.adr L))) (T : Tol S L) (k : StR u (δ.set i (some (.lst acc))) S N R) : StR u δ (SO S L acc) N R := fun σ H HP s x sl D q1 q2 => by
  obtain ⟨hS, hp, vs, hv, hr⟩ := x
  have sP : Same (upd HP L (.lst vs)) H := fun b o e => by
    by_cases hb : b = L
    · subst hb; rw [upd_same] at e; cases e; exact hv
    · rw [upd_ne hb] at e; exact s _ _ e
  exact k σ H (upd HP L (.lst vs)) sP (T.frz _ _ _ hS hv hp) (sl_frz (H := H) sl hi hp hr) D (fun δ2 σ2 H2 P2 n2 s2 p2 sl2 => q1 δ2 σ2 H2 P2 n2 s2 ((same_freeze hp).trans p2) sl2) fun d v H2 P2 r s2 p2 rv => q2 d v H2 P2 r s2 ((same_freeze hp).trans p2) rv
/-- .append, .extend, [i] =, [i] += -/
theorem sr_append {i : Nat} (hi : δ[i]? = some (some (.adr L))) (T : Tol S L) (hS : Stab S) (h : EvD te δ d) (hl : acc.length ≤ 1000) : StR (tDrop (tBM K "list" rAppend (tVar i) (tCons te tNil))) δ (SO S L acc) (fun δ' H P => δ' = δ ∧ SO S L (acc ++ [d]) H P) R := fun σ H HP s x sl D q1 _ => by
  obtain ⟨_, _, vs, hv, _⟩ := id x
  refine ⟨.ref L, slot_at sl hi, .inl ⟨rfl, vs, sq_of hv⟩, h σ H HP s sl _ fun v H1 P1 e1 r1 => ?_⟩
  obtain ⟨hS1, hp1, ws, hw, hr1⟩ := so_stab hS _ _ _ _ x e1
  have hlen := hr1.len
  exact ⟨L, ws, v, rfl, rfl, hw, by rw [hlen]; exact small1000 hl, q1 δ σ _ P1 ⟨rfl, SO.put (acc := acc) T ⟨hS1, hp1, ws, hw, hr1⟩ (hr1.app ⟨v, [], rfl, r1, rfl⟩)⟩ (same_put e1.sub hp1) e1.part (sl.mono e1.part)⟩
theorem sr_extend {i : Nat} (hi : δ[i]? = some (some (.adr L))) (T : Tol S L) (hS : Stab S) (h : EvD te δ (.lst ds)) (hl : acc.length + ds.length ≤ 1000) : StR (tDrop (tBM K "list" rExtend (tVar i) (tCons te tNil))) δ (SO S L acc) (fun δ' H P => δ' = δ ∧ SO S L (acc ++ ds) H P) R := fun σ H HP s x sl D q1 _ => by
  obtain ⟨_, _, vs, hv, _⟩ := id x
  refine ⟨.ref L, slot_at sl hi, .inl ⟨rfl, vs, sq_of hv⟩, h σ H HP s sl _ fun v H1 P1 e1 r1 => ?_⟩
  obtain ⟨hS1, hp1, ws, hw, hr1⟩ := so_stab hS _ _ _ _ x e1
  obtain ⟨b, zs', rfl, hb, hr2⟩ := r1
  exact ⟨L, b, ws, zs', rfl, rfl, hw, e1.sub _ _ hb, by rw [hr1.len, hr2.len]; exact sz1000 hl, q1 δ σ _ P1 ⟨rfl, SO.put (acc := acc) T ⟨hS1, hp1, ws, hw, hr1⟩ (hr1.app hr2)⟩ (same_put e1.sub hp1) e1.part (sl.mono e1.part)⟩
theorem sr_setI {i n : Nat} {k : Int} (hi : δ[i]? = some (some (.adr L))) (T : Tol S L) (hS : Stab S) (h : EvD te δ d) (hk : EvD ti δ (.int k)) (hkn : k = (n : Int)) (hn : n < acc.length) : StR (tAsg te (gSub (tVar i) ti rSetL)) δ (SO S L acc) (fun δ' H P => δ' = δ ∧ SO S L (acc.set n d) H P) R := fun σ H HP s x sl D q1 _ =>
  h σ H HP s sl _ fun v H1 P1 e1 r1 => ⟨.ref L, slot_at sl hi, hk σ H1 P1 e1.sub (sl.mono e1.part) _ fun w H2 P2 e2 r2 => by
    have e12 := e1.trans e2
    obtain ⟨hS1, hp1, ws, hw, hr1⟩ := so_stab hS _ _ _ _ x e12
    exact ⟨L, ws, k, n, rfl, r2, hw, by rw [hr1.len, hkn]; exact ixN_at hn, q1 δ σ _ P2 ⟨rfl, SO.put (acc := acc) T ⟨hS1, hp1, ws, hw, hr1⟩ (Reps.set (r1.mono e2.part) n hr1)⟩ (same_put e12.sub hp1) e12.part (sl.mono e12.part)⟩⟩
theorem sr_augI {i n : Nat} {k m : Int} {ns : List Int} {x0 : Int} (hi : δ[i]? = some (some (.adr L))) (T : Tol S L) (hS : Stab S) (h : EvD te δ (.int m)) (hk : EvD ti δ (.int k)) (hkn : k = (n : Int)) (hn : ns[n]? = some x0) : StR (tAugS (tVar i) ti te (rIxL K) (ipI fun i j => i + j) rSetL) δ (SO S L (zs ns)) (fun δ' H P => δ' = δ ∧ SO S L (zs (ns.set n (x0 + m))) H P) R := fun σ H HP s x sl D q1 _ =>
  ⟨.ref L, slot_at sl hi, hk σ H HP s sl _ fun w H1 P1 e1 r1 => by
    obtain ⟨hS1, hp1, ws, hw, hr1⟩ := so_stab hS _ _ _ _ x e1
    have hn' : n < ns.length := (List.getElem?_eq_some_iff.mp hn).1
    have hz : (zs ns)[n]? = some (.int x0) := by unfold zs; rw [List.getElem?_map, hn]; rfl
    obtain ⟨v0, hv0, rv0⟩ := hr1.get hz
    refine ⟨L, ws, k, v0, rfl, r1, sq_of hw, by rw [hkn]; exact atI_nat hv0, h σ H1 P1 e1.sub (sl.mono e1.part) _ fun v H2 P2 e2 r2 => ?_⟩
    have e12 := e1.trans e2
    obtain ⟨hS2, hp2, ws2, hw2, hr2⟩ := so_stab hS _ _ _ _ x e12
    refine ⟨x0, m, rv0, r2, L, ws2, k, n, rfl, r1, hw2, by rw [hr2.len, hkn, zs_len]; exact ixN_at hn', q1 δ σ _ P2 ⟨rfl, SO.put (acc := zs ns) T ⟨hS2, hp2, ws2, hw2, hr2⟩ ?_⟩ (same_put e12.sub hp2) e12.part (sl.mono e12.part)⟩
    have := Reps.set (d' := .int (x0 + m)) (v' := .int (x0 + m)) rfl n hr2
    unfold zs at this ⊢
    rwa [List.map_set]⟩
/-- new lists -/
theorem ew_lst (h : EvA tA δ ds) (hl : ds.length ≤ 1000 := by exact Nat.le_of_ble_eq_true rfl) : EvW (tLst tA) δ ds := fun σ H HP s sl Q q =>
  h σ H HP s sl _ fun vs H1 P1 e1 r1 => ⟨by rw [r1.len]; exact sz1000 hl, fun p hp => q p _ P1 (e1.trans (Ext.own e1.sub hp)) (e1.big.free hp) ⟨e1.sub.free hp, vs, upd_same, r1⟩⟩
theorem ew_rep {tb : TE} {k : Nat} (ha : EvD ta δ (.lst ds)) (hb : EvD tb δ (.int (k : Int))) (hl : ds.length * k ≤ 1000) (hk : k ≤ 1000) : EvW (tOp rRep ta tb) δ (List.replicate k ds).flatten := fun σ H HP s sl Q q =>
  ha σ H HP s sl _ fun x H1 P1 e1 r1 => hb σ H1 P1 e1.sub (sl.mono e1.part) _ fun y H2 P2 e2 r2 => by
    obtain ⟨a, vs, rfl, hav, hr⟩ := r1
    refine ⟨a, (k : Int), vs, rfl, r2, e2.sub _ _ (e2.part _ _ hav), by omega, by omega, by rw [hr.len]; simpa using sz1000 hl, fun p hp => q p _ P2 ((e1.trans e2).trans (Ext.own e2.sub hp)) ((e1.trans e2).big.free hp) ⟨e2.sub.free hp, _, upd_same, ?_⟩⟩
    rw [Int.toNat_natCast]
    exact (reps_flat hr k).mono e2.part
/-- a def that makes a list -/
def spW (pre : List Dt → List Dt → Prop) : Sp := fun vs H Q _ => ∃ HP ds acc, Same HP H ∧ Reps HP ds vs ∧ pre ds acc ∧ ∀ L H' P', Ext H HP H' P' → H L = none → OwnL L acc H' P' → Q (.ref L) H'
theorem ew_call {pre : List Dt → List Dt → Prop} {E : XK} (h : EvA tA δ ds) (hp : pre ds acc) : EvW (tCall (spW pre) [] E tA) δ acc := fun σ H HP s sl Q q =>
  h σ H HP s sl _ fun vs H1 P1 e1 r1 => ⟨P1, ds, acc, e1.sub, by rw [List.append_nil]; exact r1, hp, fun L H' P' e2 hL ho => q L H' P' (e1.trans e2) (e1.big.free hL) ho⟩
end
end Cw
end
section
set_option linter.all false
set_option maxRecDepth 100000
set_option maxHeartbeats 400000
set_option exponentiation.threshold 100000
namespace Cw
open PySem PySem.Spec PyProof.Rows L2
def addAt (f : List Int) (n : Nat) (m : Int) : List Int := f.set n (f.getD n 0 + m)
def addRow (a : List Int) (i : Nat) (x : Int) (f : List Int) (j : Nat) : List Int := (List.range j).foldl (fun a j => addAt a (i + j) (x * f.getD j 0)) a
def addProd (a : List Int) (r f : List Int) (i : Nat) : List Int := (List.range i).foldl (fun a i => addRow a i (r.getD i 0) f f.length) a
def prods (r f r2 f2 : List Int) : List Int := addProd (addProd (List.replicate 8 0) r f r.length) r2 f2 r2.length
theorem addAt_len (f : List Int) (n : Nat) (m : Int) : (addAt f n m).length = f.length := by simp [addAt]
theorem addRow_succ (a : List Int) (i : Nat) (x : Int) (f : List Int) (j : Nat) : addRow a i x f (j + 1) = addAt (addRow a i x f j) (i + j) (x * f.getD j 0) := by
  unfold addRow
  rw [List.range_succ, List.foldl_append]
  rfl
theorem addProd_succ (a r f : List Int) (i : Nat) : addProd a r f (i + 1) = addRow (addProd a r f i) i (r.getD i 0) f f.length := by
  unfold addProd
  rw [List.range_succ, List.foldl_append]
  rfl
theorem addRow_len (a : List Int) (i : Nat) (x : Int) (f : List Int) : ∀ j, (addRow a i x f j).length = a.length
  | 0 => rfl
  | j + 1 => by rw [addRow_succ, addAt_len, addRow_len a i x f j]
theorem addProd_len (a r f : List Int) : ∀ i, (addProd a r f i).length = a.length
  | 0 => rfl
  | i + 1 => by rw [addProd_succ, addRow_len, addProd_len a r f i]
theorem enum_zs {r : List Int} {i : Nat} {d : Dt} (h : (enumD (zs r))[i]? = some d) : ∃ x, r[i]? = some x ∧ d = .tup [.int (i : Int), .int x] := by
  have hi : i < r.length := by
    have := (List.getElem?_eq_some_iff.mp h).1
    rwa [enumD_len, zs_len] at this
  have hx : r[i]? = some r[i] := by simp [hi]
  have hz : (zs r)[i]? = some (.int r[i]) := by unfold zs; rw [List.getElem?_map, hx]; rfl
  rw [enumD_get hz] at h
  cases h
  exact ⟨_, hx, rfl⟩
def sm4 (r : List Int) : Prop := ∀ x, x ∈ r → x.natAbs < 2 ^ 4000
def p_products (ds : List Dt) (d : Dt) : Prop := ∃ r f r2 f2 : List Int, r.length = 4 ∧ f.length = 5 ∧ r2.length = 4 ∧ f2.length = 5 ∧ sm4 r ∧ sm4 f ∧ sm4 r2 ∧ sm4 f2 ∧ ds = [.tup (zs r), .lst (zs f), .tup (zs r2), .lst (zs f2)] ∧ d = .lst (zs (prods r f r2 f2))
theorem getD_of {r : List Int} {i : Nat} {x : Int} (h : r[i]? = some x) : r.getD i 0 = x := by rw [List.getD_eq_getElem?_getD, h]; rfl
theorem get_getD {l : List Int} {n : Nat} (h : n < l.length) : l[n]? = some (l.getD n 0) := by
  rw [List.getD_eq_getElem?_getD, List.getElem?_eq_getElem h]
  rfl
section
variable {P : Program} {w : World} {K : PySem.W.Frag} {mg : Str → Option Value} {base : Heap}
theorem sr_for1 {δ : De} {ds : List Dt} {S : HpP} {N : De → HpP} {R : Dt → HpP} {a : TS} {g : TG} {wi : TI} (hs : SrcD wi δ ds) (hS : Stab S) (Pv : Nat → De → HpP) (h0 : ∀ H P, S H P → Pv 0 δ H P)
    (hb : ∀ i d δ1 H P, ds[i]? = some d → Pv i δ1 H P → ∃ δ2 S2, TgD g δ1 d δ2 ∧ S2 H P ∧ Stab S2 ∧ StR a δ2 S2 (Pv (i + 1)) R)
    (hd : ∀ δ1 H P, Pv ds.length δ1 H P → N δ1 H P) : StR (tFor wi g a) δ S N R :=
  (show StR (tSeq (tFor wi g a) tNext) δ S N R from sr_for hs hS Pv h0 hb fun δ1 H P p => ⟨fun H P => N δ1 H P, hd _ _ _ p, sr_next fun _ _ x => x⟩)

abbrev s_products : Stmt := topS 41
abbrev N_products : List Str := ["row", "form", "other_row", "other", "found", "some", "much", "at", "one", "spot", "two"]
theorem sc_products : FnScope N_products ["row", "form", "other_row", "other"] (defScope s_products) := ⟨rfl, rfl, rfl, by decide +kernel, rfl, by decide +kernel, by decide +kernel⟩
theorem ok_products (B : Bn mg) (F : Fu K mg "products" s_products ["row", "form", "other_row", "other"])  : Dn P w K mg base "products" ["row", "form", "other_row", "other"] 1 (spP p_products) := by
  refine F.ok sc_products (by rintro _ _ ⟨r, f, r2, f2, _, _, _, _, _, _, _, _, rfl, rfl⟩; rfl) (fun f cdv A outer s H E hr => ?_)
  have hu := hu_of hr
  have hu64 := hr.units
  refine ⟨_, (pss_cons (ps_set (i := 4) sc_products.nd rfl (.inl rfl) (pe_op op_rep (pe_lst (pa_cons pe_int pa_nil)) (pe_glob' rfl B.EVERY)))
      (pss_cons (ps_for PassesOwn.never rfl (kpiT (K := K) rfl (pe_tup (pa_cons (pe_tup (pa_cons (pv 0) (pa_cons (pv 1) pa_nil))) (pa_cons (pe_tup (pa_cons (pv 2) (pa_cons (pv 3) pa_nil))) pa_nil)))) (pg_tup rfl (pgs_cons (pg_name (i := 5) sc_products.nd rfl (.inl rfl)) (pgs_cons (pg_name (i := 6) sc_products.nd rfl (.inl rfl)) pgs_nil))) (pss_one (ps_for PassesOwn.never rfl (pi_enumT (by rfl) B.enumerate (pa_cons (pv 5) pa_nil)) (pg_tup rfl (pgs_cons (pg_name (i := 7) sc_products.nd rfl (.inl rfl)) (pgs_cons (pg_name (i := 8) sc_products.nd rfl (.inl rfl)) pgs_nil))) (pss_one (ps_for PassesOwn.never rfl (pi_enum (by rfl) B.enumerate (pa_cons (pv 6) pa_nil)) (pg_tup rfl (pgs_cons (pg_name (i := 9) sc_products.nd rfl (.inl rfl)) (pgs_cons (pg_name (i := 10) sc_products.nd rfl (.inl rfl)) pgs_nil))) (pss_one (ps_augS (pv 4) (pe_op op_add (pv 7) (pv 9)) pget_list (pe_op op_mulW (pv 8) (pv 10)) ip_add set_list)))))))
      (pss_one (ps_ret (pv 4))))), fun ds d hp => ?_⟩
  obtain ⟨r, f, r2, f2, l1, l2, l3, l4, b1, b2, b3, b4, rfl, rfl⟩ := hp
  refine st_of_r fun H0 P0 => ?_
  refine sr_new (ds := zs (List.replicate 8 0)) (ew_rep (ds := [.int 0]) (k := 8) (ev_lst (ea_cons ev_int ea_nil)) ev_int (Nat.le_of_ble_eq_true rfl) (Nat.le_of_ble_eq_true rfl)) ext_stab ext_new fun L T => ?_
  refine sr_for (ds := [.tup [.tup (zs r), .lst (zs f)], .tup [.tup (zs r2), .lst (zs f2)]]) (src_tup (ev_tup (ea_cons (ev_tup (ea_cons (ev_var rfl) (ea_cons (ev_var rfl) ea_nil))) (ea_cons (ev_tup (ea_cons (ev_var rfl) (ea_cons (ev_var rfl) ea_nil))) ea_nil)))) (so_stab ext_stab)
    (fun i δ H P => ∃ a b c d e g, δ = [some (.tup (zs r)), some (.lst (zs f)), some (.tup (zs r2)), some (.lst (zs f2)), some (.adr L), a, b, c, d, e, g] ∧ SO (Ext H0 P0) L (zs (([(r, f), (r2, f2)].take i).foldl (fun a p => addProd a p.1 p.2 p.1.length) (List.replicate 8 0))) H P)
    (fun H P x => ⟨none, none, none, none, none, none, rfl, x⟩) ?_ ?_
  · rintro i d δ1 H P hd ⟨a, b, c, e, e2, g, rfl, x⟩
    have hi : ∃ r0 f0 : List Int, [(r, f), (r2, f2)][i]? = some (r0, f0) ∧ d = .tup [.tup (zs r0), .lst (zs f0)] ∧ r0.length = 4 ∧ f0.length = 5 ∧ sm4 r0 ∧ sm4 f0 := by
      match i, hd with
      | 0, hd => cases hd; exact ⟨r, f, rfl, rfl, l1, l2, b1, b2⟩
      | 1, hd => cases hd; exact ⟨r2, f2, rfl, rfl, l3, l4, b3, b4⟩
      | i + 2, hd => cases hd
    obtain ⟨r0, f0, hi, rfl, lr, lf, br, bf⟩ := hi
    rw [List.take_add_one, hi, List.foldl_append]
    generalize hA : ([(r, f), (r2, f2)].take i).foldl (fun a p => addProd a p.1 p.2 p.1.length) (List.replicate 8 0) = A at x
    have hlA : A.length = 8 := by
      rw [← hA]
      have : ∀ (l : List (List Int × List Int)) (a : List Int), (l.foldl (fun a p => addProd a p.1 p.2 p.1.length) a).length = a.length := by
        intro l
        induction l with
        | nil => intro a; rfl
        | cons p l ih => intro a; rw [List.foldl_cons, ih, addProd_len]
      rw [this]; rfl
    refine ⟨_, _, tg_tup (tgs_cons tg_name (tgs_cons tg_name tgs_nil)) rfl, x, so_stab ext_stab, ?_⟩
    refine sr_for1 (ds := enumD (zs r0)) (src_enumT (ea_cons (ev_var rfl) ea_nil)) (so_stab ext_stab)
      (fun i δ H P => ∃ c d e g, δ = [some (.tup (zs r)), some (.lst (zs f)), some (.tup (zs r2)), some (.lst (zs f2)), some (.adr L), some (.tup (zs r0)), some (.lst (zs f0)), c, d, e, g] ∧ SO (Ext H0 P0) L (zs (addProd A r0 f0 i)) H P)
      (fun H P x => ⟨c, e, e2, g, rfl, x⟩) ?_ ?_
    · rintro i d δ1 H P hd ⟨c, e, e2, g, rfl, x⟩
      obtain ⟨y, hy, rfl⟩ := enum_zs hd
      have hi4 : i < r0.length := (List.getElem?_eq_some_iff.mp hy).1
      refine ⟨_, _, tg_tup (tgs_cons tg_name (tgs_cons tg_name tgs_nil)) rfl, x, so_stab ext_stab, ?_⟩
      refine sr_for1 (ds := enumD (zs f0)) (src_enum (ea_cons (ev_var rfl) ea_nil)) (so_stab ext_stab)
        (fun j δ H P => ∃ e g, δ = [some (.tup (zs r)), some (.lst (zs f)), some (.tup (zs r2)), some (.lst (zs f2)), some (.adr L), some (.tup (zs r0)), some (.lst (zs f0)), some (.int (i : Int)), some (.int y), e, g] ∧ SO (Ext H0 P0) L (zs (addRow (addProd A r0 f0 i) i (r0.getD i 0) f0 j)) H P)
        (fun H P x => ⟨e2, g, rfl, x⟩) ?_ ?_
      · rintro j d δ1 H P hd ⟨e, g, rfl, x⟩
        obtain ⟨z, hz, rfl⟩ := enum_zs hd
        have hj5 : j < f0.length := (List.getElem?_eq_some_iff.mp hz).1
        refine ⟨_, _, tg_tup (tgs_cons tg_name (tgs_cons tg_name tgs_nil)) rfl, x, so_stab ext_stab, ?_⟩
        rw [addRow_succ]
        have hln : (addRow (addProd A r0 f0 i) i (r0.getD i 0) f0 j).length = 8 := by rw [addRow_len, addProd_len, hlA]
        have hget : (addRow (addProd A r0 f0 i) i (r0.getD i 0) f0 j)[i + j]? = some ((addRow (addProd A r0 f0 i) i (r0.getD i 0) f0 j).getD (i + j) 0) := by
          exact get_getD (by rw [hln]; omega)
        refine sr_nx (sr_augI (m := y * z) rfl T ext_stab (ev_mul (ev_var rfl) (ev_var rfl) (mul_ok (br y (List.mem_of_getElem? hy)) (bf z (List.mem_of_getElem? hz)) (by decide))) (ev_add (ev_var rfl) (ev_var rfl)) (n := i + j) (by omega) hget) fun δ' H P h => ⟨_, _, h.1, ?_⟩
        have h2 := h.2
        unfold addAt
        rw [getD_of hy, getD_of hz] at *
        exact h2
      · rintro δ1 H P ⟨e, g, rfl, x⟩
        rw [enumD_len, zs_len] at x
        rw [addProd_succ]
        exact ⟨_, _, _, _, rfl, x⟩
    · rintro δ1 H P ⟨c, e, e2, g, rfl, x⟩
      rw [enumD_len, zs_len] at x
      exact ⟨_, _, _, _, _, _, rfl, x⟩
  · rintro δ1 H P ⟨a, b, c, d, e, g, rfl, x⟩
    refine ⟨_, x, ?_⟩
    refine sr_freeze (i := 4) rfl T ?_
    exact sr_ret (ev_var rfl) ext_stab fun H P x => ⟨rfl, x⟩

theorem eq_ints {a b : TE} {δ : De} {ns : List Int} (h1 : EvD a δ (.lst (zs ns))) (h2 : EvD b δ (.lst (zs ns))) : EvD (tOp (rEqD K) a b) δ (.bl true) := ev_cast (ev_eqD h1 h2 (okD_zs _) (okD_zs _)) (by rw [eqv_same])
theorem prods_cvl (b2 b4 b6 b8 u0 u1 u2 u3 u4 u5 u6 u7 : Int) : prods [u0, u1, u2, u3] (formF b4 b6 b8) [u4, u5, u6, u7] (formG b2 b4 b6) = cvl b2 b4 b6 b8 u0 u1 u2 u3 u4 u5 u6 u7 := by
  simp [prods, addProd, addRow, addAt, formF, formG, cvl, List.range, List.range.loop]
  try grind
def p_check_heights (ds : List Dt) (d : Dt) : Prop := ∃ (c : Cv) (p : List Int), Cb c ∧ Pap c.b2 c.b4 c.b6 c.b8 p ∧ sm4 p ∧ ds = [cv c, pap p] ∧ d = .bl true
theorem form_sm {c : Cv} (h : Cs c) : sm4 (formF c.b4 c.b6 c.b8) ∧ sm4 (formG c.b2 c.b4 c.b6) := by
  have h2 := h.b2
  have h4 := h.b4
  have h6 := h.b6
  have h8 := h.b8
  have key : ∀ x : Int, x.natAbs < 2 ^ 72 → x.natAbs < 2 ^ 4000 := fun x hx => Nat.lt_of_lt_of_le hx (by decide)
  constructor
  · intro x hx
    simp [formF] at hx
    refine key x ?_
    rcases hx with rfl | rfl | rfl | rfl | rfl <;> omega
  · intro x hx
    simp [formG] at hx
    refine key x ?_
    rcases hx with rfl | rfl | rfl | rfl | rfl <;> omega

abbrev s_check_heights : Stmt := topS 42
abbrev N_check_heights : List Str := ["curve", "paper", "f1", "g1", "f2", "g2", "r", "f", "g", "row"]
theorem sc_check_heights : FnScope N_check_heights ["curve", "paper"] (defScope s_check_heights) := ⟨rfl, rfl, rfl, by decide +kernel, rfl, by decide +kernel, by decide +kernel⟩
theorem ok_check_heights (B : Bn mg) (F : Fu K mg "check_heights" s_check_heights ["curve", "paper"]) (h_need_curve : Dn P w K mg base "need_curve" ["curve"] 8 (spP p_need_curve)) (h_need_whole : Dn P w K mg base "need_whole" ["curve"] 2 (spP p_need_whole)) (h_forms_of : Dn P w K mg base "forms_of" ["curve"] 6 (spP p_forms_of)) (h_is_number : Dn P w K mg base "is_number" ["thing"] 1 (spP p_is_number)) (h_products : Dn P w K mg base "products" ["row", "form", "other_row", "other"] 1 (spP p_products)) (h_is_row : Dn P w K mg base "is_row" ["thing"] 2 (spP p_is_row)) : Dn P w K mg base "check_heights" ["curve", "paper"] 9 (spP p_check_heights) := by
  refine F.ok sc_check_heights (by rintro _ _ ⟨c, p, _, _, _, rfl, rfl⟩; rfl) (fun f cdv A outer s H E hr => ?_)
  have hu := hu_of hr
  have hu64 := hr.units
  refine ⟨_, (pss_cons (ps_expr (pe_fn h_need_curve (hr.mono (by decide)) (by rfl) (pa_cons (pv 0) pa_nil)))
      (pss_cons (ps_expr (pe_fn h_need_whole (hr.mono (by decide)) (by rfl) (pa_cons (pv 0) pa_nil)))
      (pss_cons (ps_if (pw_or (pt_not (pt_val (pe_callB (kIsi (K := K) rfl) (by rfl) B.isinstance PyProof.Rows.boot_isinstance (pa_cons (pv 1) (pa_cons (pe_bltn (v := .ty "tuple") (by rfl) B.tuple PyProof.Rows.boot_tuple rfl) pa_nil))))) (pw_or (pt_cmpR op_ne (pe_callB (kLen (K := K) rfl) (by rfl) B.len PySem.boot_len (pa_cons (pv 1) pa_nil)) pe_int (nomark _)) (pw_or1 (pt_not (pt_val (pe_callB (kAll (K := K) rfl rfl) (by rfl) B.all PyProof.Rows.boot_all (pa_cons (pe_lc (own := [("row", 9)]) rfl sc_check_heights.nd (kpiT (K := K) rfl (pe_slice (kSlT (K := K) rfl) (pv 1) po_none (po_some pe_int))) (blkOk_by (own := [("row", 9)]) (N := N_check_heights) (sc := (defScope s_check_heights)) (by decide +kernel)) (fun _ _ _ _ _ => (pg_name (i := 9) sc_check_heights.nd rfl (.inl rfl))) (fun _ _ _ _ _ => pts_nil) (fun _ _ _ _ _ => (pe_fn h_is_row (hr.mono (by decide)) (by rfl) (pa_cons (pv 9) pa_nil)))) pa_nil))))))).pt (pss_one (ps_ret pe_bl)) pss_nil)
      (pss_cons (ps_asg (pv 1) (pg_tup rfl (pgs_cons (pg_name (i := 2) sc_check_heights.nd rfl (.inl rfl)) (pgs_cons (pg_name (i := 3) sc_check_heights.nd rfl (.inl rfl)) (pgs_cons (pg_name (i := 4) sc_check_heights.nd rfl (.inl rfl)) (pgs_cons (pg_name (i := 5) sc_check_heights.nd rfl (.inl rfl)) (pgs_cons (pg_name (i := 6) sc_check_heights.nd rfl (.inl rfl)) pgs_nil)))))))
      (pss_cons (ps_if (pw_or (pt_not (pt_val (pe_fn h_is_number (hr.mono (by decide)) (by rfl) (pa_cons (pv 6) pa_nil)))) (pw_or1 (pt_cmpR op_eq (pv 6) pe_int (nomark _)))).pt (pss_one (ps_ret pe_bl)) pss_nil)
      (pss_cons (ps_asg (pe_fn h_forms_of (hr.mono (by decide)) (by rfl) (pa_cons (pv 0) pa_nil)) (pg_tup rfl (pgs_cons (pg_name (i := 7) sc_check_heights.nd rfl (.inl rfl)) (pgs_cons (pg_name (i := 8) sc_check_heights.nd rfl (.inl rfl)) pgs_nil))))
      (pss_one (ps_ret (pe_and (pe_cmpR (kEqD (K := K) rfl hu64) (pe_fn h_products (hr.mono (by decide)) (by rfl) (pa_cons (pv 2) (pa_cons (pv 7) (pa_cons (pv 3) (pa_cons (pv 8) pa_nil))))) (pe_op op_cat (pe_op op_rep (pe_lst (pa_cons pe_int pa_nil)) pe_int) (pe_lst (pa_cons (pv 6) pa_nil))) (nomark _)) (pe_one (pe_cmpR (kEqD (K := K) rfl hu64) (pe_fn h_products (hr.mono (by decide)) (by rfl) (pa_cons (pv 4) (pa_cons (pv 7) (pa_cons (pv 5) (pa_cons (pv 8) pa_nil))))) (pe_op op_cat (pe_lst (pa_cons (pv 6) pa_nil)) (pe_op op_rep (pe_lst (pa_cons pe_int pa_nil)) pe_int)) (nomark _)))))))))))), fun ds d hp => ?_⟩
  obtain ⟨c, p, h, hp, hsm, rfl, rfl⟩ := hp
  have hl := hp.len
  obtain ⟨a0, a1, a2, a3, a4, a5, a6, a7, a8, a9, a10, a11, a12, a13, a14, a15, a16, rfl⟩ := list17 hl
  have h0 : a0 ≠ 0 := by have := hp.pos; exact Int.ne_of_gt this
  obtain ⟨fs, gs⟩ := form_sm h.cs
  have sub : ∀ r : List Int, (∀ x, x ∈ r → x ∈ [a0, a1, a2, a3, a4, a5, a6, a7, a8, a9, a10, a11, a12, a13, a14, a15, a16]) → sm4 r := fun r hr x hx => hsm x (hr x hx)
  refine st_expr (ev_call (ea_cons (ev_var rfl) ea_nil) ⟨c, h.cs, h.d, rfl, rfl⟩) ?_
  refine st_expr (ev_call (ea_cons (ev_var rfl) ea_nil) ⟨c, rfl, rfl⟩) ?_
  refine st_ifF (eb_known (eb_or (eb_not (eb_B (ty_tt (ev_var rfl)))) fun _ => eb_or (eb_test (ev_neI (ev_lenT (ea_cons (ev_var rfl) ea_nil)) ev_int)) fun _ => eb_not (eb_B (ev_all (bs := [true, true, true, true]) (ea_cons (ev_cast (ev_lcm (ds := [.tup (zs [a1, a2, a3, a4]), .tup (zs [a5, a6, a7, a8]), .tup (zs [a9, a10, a11, a12]), .tup (zs [a13, a14, a15, a16])]) (src_tup (ev_slT (ds := [.tup (zs [a1, a2, a3, a4]), .tup (zs [a5, a6, a7, a8]), .tup (zs [a9, a10, a11, a12]), .tup (zs [a13, a14, a15, a16]), .int a0]) (lo := none) (hi := some 4) (ev_var rfl) eo_none eo_some (fun h => absurd h.2 (by show ¬ (4 = 5); decide)))) (fun _ => Dt.bl true) (Nat.le_of_ble_eq_true rfl) (fun d hd => by
      have hd' : ∃ r : List Int, r.length = 4 ∧ d = .tup (zs r) := by
        have : d = .tup (zs [a1, a2, a3, a4]) ∨ d = .tup (zs [a5, a6, a7, a8]) ∨ d = .tup (zs [a9, a10, a11, a12]) ∨ d = .tup (zs [a13, a14, a15, a16]) := by simpa using hd
        rcases this with rfl | rfl | rfl | rfl <;> exact ⟨_, rfl, rfl⟩
      obtain ⟨r, hr, rfl⟩ := hd'
      exact ⟨_, tc_name (by simp), ev_call (ea_cons (ev_var rfl) ea_nil) ⟨r, hr, rfl, rfl⟩⟩)) rfl) ea_nil)))) rfl) ?_
  refine st_asg (ev_var rfl) (tg_tup (tgs_cons tg_name (tgs_cons tg_name (tgs_cons tg_name (tgs_cons tg_name (tgs_cons tg_name tgs_nil))))) rfl) ?_
  refine st_ifF (eb_known (eb_or (eb_not (eb_B (ev_call (ea_cons (ev_var rfl) ea_nil) ⟨a0, rfl, rfl⟩))) fun _ => eb_test (ev_eqI (ev_var rfl) ev_int)) (by show (!true || decide (a0 = 0)) = false; rw [decide_eq_false h0]; rfl)) ?_
  refine st_asg (ev_call (ea_cons (ev_var rfl) ea_nil) ⟨c, h.cs, rfl, rfl⟩) (tg_tup (tgs_cons tg_name (tgs_cons tg_name tgs_nil)) rfl) ?_
  have e1 := hp.one
  have e2 := hp.two
  have c1 : prods [a1, a2, a3, a4] (formF c.b4 c.b6 c.b8) [a5, a6, a7, a8] (formG c.b2 c.b4 c.b6) = [0, 0, 0, 0, 0, 0, 0, a0] := (prods_cvl ..).trans e1
  have c2 : prods [a9, a10, a11, a12] (formF c.b4 c.b6 c.b8) [a13, a14, a15, a16] (formG c.b2 c.b4 c.b6) = [a0, 0, 0, 0, 0, 0, 0, 0] := (prods_cvl ..).trans e2
  have m1 : sm4 [a1, a2, a3, a4] := sub _ (fun x hx => by simp only [List.mem_cons, List.not_mem_nil, or_false] at hx ⊢; grind)
  have m2 : sm4 [a5, a6, a7, a8] := sub _ (fun x hx => by simp only [List.mem_cons, List.not_mem_nil, or_false] at hx ⊢; grind)
  have m3 : sm4 [a9, a10, a11, a12] := sub _ (fun x hx => by simp only [List.mem_cons, List.not_mem_nil, or_false] at hx ⊢; grind)
  have m4 : sm4 [a13, a14, a15, a16] := sub _ (fun x hx => by simp only [List.mem_cons, List.not_mem_nil, or_false] at hx ⊢; grind)
  have d1 : p_products [.tup (zs [a1, a2, a3, a4]), .lst (zs (formF c.b4 c.b6 c.b8)), .tup (zs [a5, a6, a7, a8]), .lst (zs (formG c.b2 c.b4 c.b6))] (.lst (zs [0, 0, 0, 0, 0, 0, 0, a0])) := ⟨_, _, _, _, rfl, rfl, rfl, rfl, m1, fs, m2, gs, rfl, by rw [c1]⟩
  have d2 : p_products [.tup (zs [a9, a10, a11, a12]), .lst (zs (formF c.b4 c.b6 c.b8)), .tup (zs [a13, a14, a15, a16]), .lst (zs (formG c.b2 c.b4 c.b6))] (.lst (zs [a0, 0, 0, 0, 0, 0, 0, 0])) := ⟨_, _, _, _, rfl, rfl, rfl, rfl, m3, fs, m4, gs, rfl, by rw [c2]⟩
  refine st_ret (ev_andV (eq_ints (ns := [0, 0, 0, 0, 0, 0, 0, a0]) (ev_call (ea_cons (ev_var rfl) (ea_cons (ev_var rfl) (ea_cons (ev_var rfl) (ea_cons (ev_var rfl) ea_nil)))) d1) ?_) fun _ => eq_ints (ns := [a0, 0, 0, 0, 0, 0, 0, 0]) (ev_call (ea_cons (ev_var rfl) (ea_cons (ev_var rfl) (ea_cons (ev_var rfl) (ea_cons (ev_var rfl) ea_nil)))) d2) ?_) rfl
  · exact ev_catL (ds := zs [0, 0, 0, 0, 0, 0, 0]) (es := zs [a0]) (ev_rep (ds := [.int 0]) (k := 7) (ev_lst (ea_cons ev_int ea_nil)) ev_int (Nat.le_of_ble_eq_true rfl) (Nat.le_of_ble_eq_true rfl)) (ev_lst (ea_cons (ev_var rfl) ea_nil)) (Nat.le_of_ble_eq_true rfl)
  · exact ev_catL (ds := zs [a0]) (es := zs [0, 0, 0, 0, 0, 0, 0]) (ev_lst (ea_cons (ev_var rfl) ea_nil)) (ev_rep (ds := [.int 0]) (k := 7) (ev_lst (ea_cons ev_int ea_nil)) ev_int (Nat.le_of_ble_eq_true rfl) (Nat.le_of_ble_eq_true rfl)) (Nat.le_of_ble_eq_true rfl)

end
end Cw
end
section
set_option linter.all false
set_option maxRecDepth 100000
set_option maxHeartbeats 4000000
set_option exponentiation.threshold 100000
namespace Cw
def Sz (x : Int) (n : Nat) : Prop := x.natAbs < 2 ^ n
theorem sz_add {x y : Int} {n m : Nat} (h : Sz x n) (k : Sz y m) : Sz (x + y) (n + m + 1) := by
  unfold Sz at *
  have h1 : 2 ^ n ≤ 2 ^ (n + m) := Nat.pow_le_pow_right (by decide) (by omega)
  have h2 : 2 ^ m ≤ 2 ^ (n + m) := Nat.pow_le_pow_right (by decide) (by omega)
  rw [Nat.pow_succ]
  omega
theorem sz_sub {x y : Int} {n m : Nat} (h : Sz x n) (k : Sz y m) : Sz (x - y) (n + m + 1) := by
  unfold Sz at *
  have h1 : 2 ^ n ≤ 2 ^ (n + m) := Nat.pow_le_pow_right (by decide) (by omega)
  have h2 : 2 ^ m ≤ 2 ^ (n + m) := Nat.pow_le_pow_right (by decide) (by omega)
  rw [Nat.pow_succ]
  omega
theorem sz_mul {x y : Int} {n m : Nat} (h : Sz x n) (k : Sz y m) : Sz (x * y) (n + m) := by
  unfold Sz at *
  rw [Int.natAbs_mul, Nat.pow_add]
  exact Nat.mul_lt_mul'' h k
theorem sz_lit {x : Int} (h : Nat.blt x.natAbs 1024 = true) : Sz x 10 := by
  unfold Sz
  simpa [Nat.blt_eq] using h
section
variable {b2 b4 b6 b8 : Int}
theorem cof_sz (h : Bok b2 b4 b6 b8) : (∀ x, x ∈ cof0 b2 b4 b6 b8 → x.natAbs < 2 ^ 2000) ∧ (∀ x, x ∈ cof1 b2 b4 b6 b8 → x.natAbs < 2 ^ 2000) ∧ (discB b2 b4 b6 b8).natAbs < 2 ^ 2000 := by
  have h2 : Sz b2 9 := h.h2
  have h4 : Sz b4 12 := h.h4
  have h6 : Sz b6 16 := h.h6
  have h8 : Sz b8 23 := h.h8
  have up : ∀ {x : Int} {n : Nat}, Sz x n → n ≤ 2000 → x.natAbs < 2 ^ 2000 := fun h hn => Nat.lt_of_lt_of_le h (Nat.pow_le_pow_right (by decide) hn)
  refine ⟨fun x hx => ?_, fun x hx => ?_, ?_⟩
  · simp only [cof0, List.mem_cons, List.not_mem_nil, or_false] at hx
    rcases hx with rfl | rfl | rfl | rfl | rfl | rfl | rfl | rfl
    · exact up (sz_lit (by decide)) (by decide)
    · exact up (sz_lit (by decide)) (by decide)
    · exact up (sz_mul (sz_lit (by decide)) h2) (by decide)
    · exact up (sz_add (sz_mul h2 h2) (sz_mul (sz_lit (by decide)) h4)) (by decide)
    · exact up (sz_lit (by decide)) (by decide)
    · exact up (sz_mul (sz_lit (by decide)) h2) (by decide)
    · exact up (sz_mul (sz_lit (by decide)) h4) (by decide)
    · exact up (sz_add (sz_mul h2 h4) (sz_mul (sz_lit (by decide)) h6)) (by decide)
  · simp only [cof1, List.mem_cons, List.not_mem_nil, or_false] at hx
    rcases hx with rfl | rfl | rfl | rfl | rfl | rfl | rfl | rfl
    · exact up (sz_add (sz_add (sz_add (sz_mul (sz_mul (sz_mul (sz_lit (by decide)) h2) h2) h8) (sz_mul (sz_mul h4 h4) h4)) (sz_mul (sz_mul (sz_lit (by decide)) h4) h8)) (sz_mul (sz_mul (sz_lit (by decide)) h6) h6)) (by decide)
    · exact up (sz_add (sz_add (sz_mul (sz_mul (sz_mul (sz_lit (by decide)) h2) h4) h8) (sz_mul (sz_mul (sz_mul (sz_lit (by decide)) h4) h4) h6)) (sz_mul (sz_mul (sz_lit (by decide)) h6) h8)) (by decide)
    · exact up (sz_add (sz_add (sz_mul (sz_mul (sz_mul (sz_lit (by decide)) h4) h6) h6) (sz_mul (sz_mul (sz_mul (sz_lit (by decide)) h4) h4) h8)) (sz_mul (sz_mul (sz_lit (by decide)) h8) h8)) (by decide)
    · exact up (sz_add (sz_mul (sz_mul (sz_mul (sz_lit (by decide)) h4) h6) h8) (sz_mul (sz_mul (sz_mul (sz_lit (by decide)) h6) h6) h6)) (by decide)
    · exact up (sz_add (sz_add (sz_mul (sz_mul (sz_mul (sz_lit (by decide)) h2) h4) h8) (sz_mul (sz_mul h4 h4) h6)) (sz_mul (sz_mul (sz_lit (by decide)) h6) h8)) (by decide)
    · exact up (sz_add (sz_add (sz_mul (sz_mul (sz_mul (sz_lit (by decide)) h4) h6) h6) (sz_mul (sz_mul (sz_mul (sz_lit (by decide)) h4) h4) h8)) (sz_mul (sz_mul (sz_lit (by decide)) h8) h8)) (by decide)
    · exact up (sz_add (sz_add (sz_mul (sz_mul (sz_mul (sz_lit (by decide)) h2) h8) h8) (sz_mul (sz_mul (sz_mul (sz_lit (by decide)) h4) h6) h8)) (sz_mul (sz_mul (sz_mul (sz_lit (by decide)) h6) h6) h6)) (by decide)
    · exact up (sz_add (sz_mul (sz_mul (sz_mul (sz_lit (by decide)) h4) h8) h8) (sz_mul (sz_mul (sz_mul (sz_lit (by decide)) h6) h6) h8)) (by decide)
  · unfold discB
    exact up (sz_sub (sz_sub (sz_sub (sz_mul (sz_mul (sz_mul (sz_lit (by decide)) h2) h4) h6) (sz_mul (sz_mul h2 h2) h8)) (sz_mul (sz_mul (sz_mul (sz_lit (by decide)) h4) h4) h4)) (sz_mul (sz_mul (sz_lit (by decide)) h6) h6)) (by decide)
theorem paper_sm (h : Bok b2 b4 b6 b8) : ∀ x, x ∈ paperL b2 b4 b6 b8 → x.natAbs < 2 ^ 2000 := by
  obtain ⟨c0, c1, c2⟩ := cof_sz h
  obtain ⟨p0, p1, p2⟩ := paper_bnd h
  intro x hx
  obtain ⟨k, hk, e⟩ := List.mem_iff_getElem.mp hx
  have e2 : (paperL b2 b4 b6 b8).getD k 0 = x := by rw [List.getD_eq_getElem?_getD, List.getElem?_eq_getElem hk]; exact e
  rw [paperL_len] at hk
  have gm : ∀ (l : List Int) (j : Nat), (∀ y, y ∈ l → y.natAbs < 2 ^ 2000) → (l.getD j 0).natAbs < 2 ^ 2000 := fun l j hl => by
    rw [List.getD_eq_getElem?_getD]
    cases q : l[j]? with
    | none => decide
    | some y => exact hl y (List.mem_of_getElem? q)
  rw [← e2]
  by_cases h0 : k = 0
  · subst h0
    exact Nat.lt_of_le_of_lt p0 c2
  · by_cases h1 : k < 9
    · have := p1 (k - 1) (by omega)
      rw [show 1 + (k - 1) = k by omega] at this
      exact Nat.lt_of_le_of_lt this (gm _ _ c0)
    · have := p2 (k - 9) (by omega)
      rw [show 9 + (k - 9) = k by omega] at this
      exact Nat.lt_of_le_of_lt this (gm _ _ c1)
end
end Cw
end
section
set_option linter.all false
set_option maxRecDepth 100000
set_option maxHeartbeats 1000000
set_option exponentiation.threshold 100000
namespace Cw
open PySem PySem.Spec PyProof.Rows L2
/-! ### a list of one's own, read as if it stayed -/
def less (P : Hp) (L : Addr) : Hp := fun a => if a = L then none else P a
theorem less_at {P : Hp} {L : Addr} : less P L L = none := if_pos rfl
theorem less_ne {P : Hp} {L a : Addr} (h : a ≠ L) : less P L a = P a := if_neg h
theorem thaw {H HP H' P1 : Hp} {L : Addr} {vs : List V} (s : Same HP H) (hp : HP L = none) (hv : H L = some (.lst vs)) (e : Ext H (upd HP L (.lst vs)) H' P1) : Ext H HP H' (less P1 L) ∧ P1 L = some (.lst vs) := by
  refine ⟨⟨e.big, fun b o q => ?_, fun b o q => ?_, fun b o q => ?_⟩, e.part _ _ upd_same⟩
  · have hb : b ≠ L := by rintro rfl; rw [hp] at q; cases q
    rw [less_ne hb]
    exact e.part _ _ (by rw [upd_ne hb]; exact q)
  · have hb : b ≠ L := by rintro rfl; rw [less_at] at q; cases q
    rw [less_ne hb] at q
    exact e.sub _ _ q
  · have hb : b ≠ L := by rintro rfl; rw [less_at] at q; cases q
    rw [less_ne hb] at q
    rcases e.new _ _ q with z | z
    · rw [upd_ne hb] at z; exact .inl z
    · exact .inr z
theorem frz_same {H HP : Hp} {L : Addr} {vs : List V} (s : Same HP H) (hv : H L = some (.lst vs)) : Same (upd HP L (.lst vs)) H := fun b o e => by
  by_cases hb : b = L
  · subst hb; rw [upd_same] at e; cases e; exact hv
  · rw [upd_ne hb] at e; exact s _ _ e
/-- data that can't be the list at L, nor hold it -/
def Apart (d : Dt) (acc : List Dt) : Prop := ∀ (P : Hp) (L : Addr) (vs : List V) (v : V) (HP : Hp), P L = some (.lst vs) → Reps HP acc vs → Rep P d v → Rep (less P L) d v
theorem apart_int {i : Int} {acc : List Dt} : Apart (.int i) acc := fun _ _ _ _ _ _ _ r => r
theorem apart_ints {ns : List Int} {e : List Dt} {acc : List Dt} : Apart (.lst (zs ns)) (.lst e :: acc) := fun P L vs v HP h1 h2 r => by
  obtain ⟨a, ws, rfl, ha, hr⟩ := r
  have hw := reps_ints hr
  have hne : a ≠ L := by
    rintro rfl
    rw [h1] at ha
    cases ha
    obtain ⟨v0, w0, e0, ⟨b, _, rfl, _⟩, _⟩ := h2
    rw [hw] at e0
    cases ns with
    | nil => cases e0
    | cons n ns => cases e0
  exact ⟨a, ws, rfl, by rw [less_ne hne]; exact ha, by rw [hw]; exact ints_reps ns⟩
section
variable {K : PySem.W.Frag} {δ δ1 δ2 : De} {d : Dt} {ds acc : List Dt} {S S1 : HpP} {N N1 : De → HpP} {R R1 : Dt → HpP} {te ta tb ti : TE} {tA : TA} {t : TT} {a b u : TS} {g : TG} {L : Addr} {nx : De → Prop} {rt : Dt → Prop}
theorem sr_asgF {i j : Nat} (hi : δ[i]? = some (some (.adr L))) (hS : Stab S) (h : EvD te (δ.set i (some (.lst acc))) d) (hd : Apart d acc) : StR (tAsg te (gName j)) δ (SO S L acc) (fun δ' H P => δ' = δ.set j (some d) ∧ SO S L acc H P) R := fun σ H HP s x sl D q1 _ => by
  obtain ⟨hSS, hp, vs, hv, hr⟩ := id x
  refine h σ H (upd HP L (.lst vs)) (frz_same s hv) (sl_frz (H := H) sl hi hp hr) _ fun v H1 P1 e1 r1 => ?_
  obtain ⟨e2, hPL⟩ := thaw s hp hv e1
  exact q1 _ _ H1 (less P1 L) ⟨rfl, so_stab hS _ _ _ _ x e2⟩ e2.sub e2.part ((sl.mono e2.part).set (hd P1 L vs v HP hPL hr r1) j)
theorem sr_ifO {i : Nat} {c : Bool} (hi : δ[i]? = some (some (.adr L))) (hS : Stab S) (h : EvB t (δ.set i (some (.lst acc))) c) (h1 : c = true → StR a δ (SO S L acc) N R) (h2 : c = false → StR b δ (SO S L acc) N R) : StR (tIfS t a b) δ (SO S L acc) N R := fun σ H HP s x sl D q1 q2 => by
  obtain ⟨hSS, hp, vs, hv, hr⟩ := id x
  refine h σ H (upd HP L (.lst vs)) (frz_same s hv) (sl_frz (H := H) sl hi hp hr) _ fun H1 P1 e1 => ?_
  obtain ⟨e2, hPL⟩ := thaw s hp hv e1
  have x2 := so_stab hS _ _ _ _ x e2
  have k1 : ∀ δ2 σ2 H2 P2, N δ2 H2 P2 → Same P2 H2 → Same (less P1 L) P2 → Sl P2 σ2 δ2 → D.nx σ2 H2 := fun δ2 σ2 H2 P2 n2 s2 p2 sl2 => q1 δ2 σ2 H2 P2 n2 s2 (e2.part.trans p2) sl2
  have k2 : ∀ d v H2 P2, R d H2 P2 → Same P2 H2 → Same (less P1 L) P2 → Rep P2 d v → D.rt v H2 := fun d v H2 P2 r s2 p2 rv => q2 d v H2 P2 r s2 (e2.part.trans p2) rv
  cases c with
  | true =>
    rw [if_pos rfl]
    exact h1 rfl σ H1 (less P1 L) e2.sub x2 (sl.mono e2.part) D k1 k2
  | false =>
    rw [if_neg Bool.false_ne_true]
    exact h2 rfl σ H1 (less P1 L) e2.sub x2 (sl.mono e2.part) D k1 k2
/-- own[k], when what is there stays -/
theorem sr_asgIx {i j n : Nat} {k : Int} (hi : δ[i]? = some (some (.adr L))) (hS : Stab S) (hk : EvD ti δ (.int k)) (hkn : k = (n : Int)) (hn : acc[n]? = some d) : StR (tAsg (tOp (rIxL K) (tVar i) ti) (gName j)) δ (SO S L acc) (fun δ' H P => δ' = δ.set j (some d) ∧ SO S L acc H P) R := fun σ H HP s x sl D q1 _ =>
  ⟨.ref L, slot_at sl hi, hk σ H HP s sl _ fun w H1 P1 e1 r1 => by
    obtain ⟨hS1, hp1, ws, hw, hr1⟩ := so_stab hS _ _ _ _ x e1
    obtain ⟨v0, hv0, rv0⟩ := hr1.get hn
    exact ⟨L, ws, k, v0, rfl, r1, sq_of hw, by rw [hkn]; exact atI_nat hv0, q1 _ _ H1 P1 ⟨rfl, hS1, hp1, ws, hw, hr1⟩ e1.sub e1.part ((sl.mono e1.part).set rv0 j)⟩⟩
/-- own[a], own[b] = own[b], own[a] -/
theorem sr_swap {i n m : Nat} {k l : Int} {da db : Dt} {t1 t2 t3 t4 : TE} (hi : δ[i]? = some (some (.adr L))) (T : Tol S L) (hS : Stab S) (h1 : EvD t1 δ (.int l)) (h2 : EvD t2 δ (.int k)) (h3 : EvD t3 δ (.int k)) (h4 : EvD t4 δ (.int l)) (hkn : k = (n : Int)) (hlm : l = (m : Int)) (hn : acc[n]? = some da) (hm : acc[m]? = some db) :
    StR (tAsg (tTup (tCons (tOp (rIxL K) (tVar i) t1) (tCons (tOp (rIxL K) (tVar i) t2) tNil))) (gTup K 2 (gCons (gSub (tVar i) t3 rSetL) (gCons (gSub (tVar i) t4 rSetL) gNil)))) δ (SO S L acc) (fun δ' H P => δ' = δ ∧ SO S L ((acc.set n db).set m da) H P) R := fun σ H HP s x sl D q1 _ =>
  ⟨.ref L, slot_at sl hi, h1 σ H HP s sl _ fun w1 H1 P1 e1 r1 => by
    have x1 := so_stab hS _ _ _ _ x e1
    obtain ⟨hS1, hp1, ws, hw, hr1⟩ := id x1
    obtain ⟨vb, hvb, rvb⟩ := hr1.get hm
    refine ⟨L, ws, l, vb, rfl, r1, sq_of hw, by rw [hlm]; exact atI_nat hvb, .ref L, slot_at sl hi, h2 σ H1 P1 e1.sub (sl.mono e1.part) _ fun w2 H2 P2 e2 r2 => ?_⟩
    have x2 := so_stab hS _ _ _ _ x1 e2
    obtain ⟨hS2, hp2, ws2, hw2, hr2⟩ := id x2
    have ews : ws2 = ws := by
      have := e2.big _ _ hw
      rw [hw2] at this
      cases this
      rfl
    subst ews
    obtain ⟨va, hva, rva⟩ := hr2.get hn
    refine ⟨L, ws2, k, va, rfl, r2, sq_of hw2, by rw [hkn]; exact atI_nat hva, Nat.le_of_ble_eq_true (by show Nat.ble 2 sizeLine = true; decide +kernel), fun p hpf => ?_⟩
    have e3 : Ext H2 P2 (upd H2 p (.tup [vb, va])) P2 := Ext.own e2.sub hpf
    have x3 := so_stab hS _ _ _ _ x2 e3
    have e13 := (e1.trans e2).trans e3
    refine ⟨p, [vb, va], rfl, st_of upd_same, rfl, vb, [va], rfl, .ref L, slot_at sl hi, ?_⟩
    refine h3 σ _ P2 e3.sub (sl.mono e13.part) _ fun w3 H3 P3 e4 r3 => ?_
    have x4 := so_stab hS _ _ _ _ x3 e4
    obtain ⟨hS4, hp4, ws4, hw4, hr4⟩ := id x4
    have hnl : n < acc.length := (List.getElem?_eq_some_iff.mp hn).1
    have hml : m < acc.length := (List.getElem?_eq_some_iff.mp hm).1
    have rvb4 := (rvb.mono e2.part).mono e4.part
    have rva4 := rva.mono e4.part
    have x5 : SO S L (acc.set n db) _ P3 := SO.put (acc := acc) T ⟨hS4, hp4, ws4, hw4, hr4⟩ (Reps.set rvb4 n hr4)
    have s5 := same_put (o := .lst (ws4.set n vb)) e4.sub hp4
    refine ⟨L, ws4, k, n, rfl, r3, hw4, by rw [hr4.len, hkn]; exact ixN_at hnl, va, [], rfl, .ref L, slot_at sl hi, ?_⟩
    refine h4 σ _ P3 s5 (sl.mono (e13.part.trans e4.part)) _ fun w4 H5 P5 e6 r4 => ?_
    have x6 := so_stab hS _ _ _ _ x5 e6
    obtain ⟨hS6, hp6, ws6, hw6, hr6⟩ := id x6
    refine ⟨L, ws6, l, m, rfl, r4, hw6, by rw [hr6.len, hlm, List.length_set]; exact ixN_at hml, rfl, ?_⟩
    exact q1 δ σ _ P5 ⟨rfl, SO.put (acc := acc.set n db) T ⟨hS6, hp6, ws6, hw6, hr6⟩ (Reps.set (rva4.mono e6.part) m hr6)⟩ (same_put e6.sub hp6) ((e13.part.trans e4.part).trans e6.part) (sl.mono ((e13.part.trans e4.part).trans e6.part))⟩
/-- the list itself given back -/
theorem sr_retO {i : Nat} (hi : δ[i]? = some (some (.adr L))) : StR (tRet (tVar i)) δ (SO S L acc) N (fun d H P => d = .adr L ∧ SO S L acc H P) := fun σ H HP s x sl D _ q2 => ⟨.ref L, slot_at sl hi, q2 (.adr L) _ H HP ⟨rfl, x⟩ s (Same.refl _) rfl⟩
theorem tol_ext {H0 P0 H P : Hp} (T : Tol (Ext H0 P0) L) (h : Ext H0 P0 H P) (hp : P L = none) : H0 L = none := by
  cases e : H0 L with
  | none => rfl
  | some x =>
    have h1 := (T.chg H P (.lst []) h hp).big L x e
    have h2 := (T.chg H P (.lst [.non]) h hp).big L x e
    rw [upd_same] at h1 h2
    rw [← h1] at h2
    cases h2
end
section
variable {P : Program} {w : World} {K : PySem.W.Frag} {mg : Str → Option Value} {base : Heap} {x : Str} {st : Stmt} {N ps : List Str} {k : Nat}
/-- a def that makes a list -/
theorem Fu.okW {pre : List Dt → List Dt → Prop} (F : Fu K mg x st ps) (S : FnScope N ps (defScope st)) (len : ∀ ds acc, pre ds acc → ds.length = ps.length)
    (hbody : ∀ (f : Addr) (cdv : Value) (A : Around) (outer : List Env) (s : Shared) (H : Hp) (E : XK), Room k (A.deeper (envOfC x (defScope st) s.heap.objs.size f cdv)) →
      ∃ t, PSs (cxOf CX0 P w K mg base N x (defScope st) f cdv A outer s H E).nox (defBody st) t ∧ ∀ ds acc, pre ds acc → ∀ H0 P0, StR t (startD N ds) (Ext H0 P0) (fun _ _ _ => False) (fun d H P => ∃ L, d = .adr L ∧ SO (Ext H0 P0) L acc H P ∧ H0 L = none)) : Dn P w K mg base x ps (k + 1) (spW pre) := by
  refine F.raw S (fun vs H Q E h => ?_) (fun f cdv A outer s H vs Q E hr h => ?_)
  · obtain ⟨HP, ds, acc, _, hr, hp, _⟩ := h
    rw [hr.len, len ds acc hp]
  · obtain ⟨HP, ds, acc, hs, hrep, hp, q⟩ := h
    obtain ⟨t, ht, hst⟩ := hbody f cdv A outer s H E hr
    refine ⟨t, ht, hst ds acc hp H HP _ H HP hs (.refl hs) (sl_start hrep) _ (fun _ _ _ _ z => z.elim) fun d v H' P' ⟨L, ed, so, h0⟩ _ _ rv => ?_⟩
    subst ed
    cases (show v = .ref L from rv)
    exact q L H' P' so.1 h0 so.2
end
end Cw
end
section
set_option linter.all false
set_option maxRecDepth 100000
set_option maxHeartbeats 400000
set_option exponentiation.threshold 100000
namespace Cw
open PySem PySem.Spec PyProof.Rows L2
def rowsD (M : List (List Int)) : List Dt := M.map fun r => .lst (zs r)
theorem rowsD_get {M : List (List Int)} {n : Nat} (h : n < M.length) : (rowsD M)[n]? = some (.lst (zs (M.getD n []))) := by
  unfold rowsD
  rw [List.getElem?_map, List.getD_eq_getElem?_getD, List.getElem?_eq_getElem h]
  rfl
theorem zs_at {r : List Int} {n : Nat} (h : n < r.length) : (zs r)[n]? = some (.int (r.getD n 0)) := by
  unfold zs
  rw [List.getElem?_map, get_getD h]
  rfl
theorem mem_rng {lo : Int} {n : Nat} {d : Dt} (h : d ∈ rngD lo n) : ∃ k : Nat, k < n ∧ d = .int (lo + (k : Int)) := by
  obtain ⟨k, hk, rfl⟩ := List.mem_map.mp h
  exact ⟨k, List.mem_range.mp hk, rfl⟩
def p_rows_for (ds acc : List Dt) : Prop := ∃ f g : List Int, f.length ≤ 100 ∧ g.length ≤ 100 ∧ ds = [.lst (zs f), .lst (zs g)] ∧ acc = rowsD (rowsFor f g)
def pcD (h : List Int) (t : Nat) : Dt → Dt
  | .int k => .int (if 0 ≤ (t : Int) - k ∧ (t : Int) - k < (h.length : Int) then h.getD ((t : Int) - k).toNat 0 else 0)
  | d => d
theorem pc_map (h : List Int) (t : Nat) : (rngD 0 4).map (pcD h t) = zs (part h t) := by
  unfold rngD zs part
  rw [List.map_map, List.map_map]
  refine List.map_congr_left fun k _ => ?_
  show Dt.int _ = Dt.int _
  congr 1
  show (if 0 ≤ (t : Int) - (0 + (k : Int)) ∧ (t : Int) - (0 + (k : Int)) < (h.length : Int) then h.getD ((t : Int) - (0 + (k : Int))).toNat 0 else 0) = if k ≤ t ∧ t - k < h.length then h.getD (t - k) 0 else 0
  by_cases hc : k ≤ t ∧ t - k < h.length
  · rw [if_pos hc, if_pos ⟨by omega, by omega⟩]
    congr 1
    omega
  · rw [if_neg hc, if_neg (by omega)]
theorem part_len (h : List Int) (t : Nat) : (part h t).length = 4 := by simp [part]
def pp (f g : List Int) (i j : Nat) : List Int := ([f, g].take j).flatMap fun h => part h i
theorem pp_len (f g : List Int) (i j : Nat) (h : j < 2) : (pp f g i j).length ≤ 4 := by
  match j, h with
  | 0, _ => exact Nat.zero_le _
  | 1, _ => simp [pp, part_len]
theorem pp_succ {f g h : List Int} {i j : Nat} (e : [f, g][j]? = some h) : pp f g i (j + 1) = pp f g i j ++ part h i := by
  unfold pp
  rw [List.take_add_one, e, List.flatMap_append]
  simp
theorem pp_two (f g : List Int) (i : Nat) : pp f g i 2 = part f i ++ part g i := by simp [pp]
theorem fg_at {f g : List Int} {j : Nat} {d : Dt} (h : [Dt.lst (zs f), Dt.lst (zs g)][j]? = some d) : ∃ h : List Int, [f, g][j]? = some h ∧ d = .lst (zs h) := by
  match j, h with
  | 0, hd => cases hd; exact ⟨f, rfl, rfl⟩
  | 1, hd => cases hd; exact ⟨g, rfl, rfl⟩
  | j + 2, hd => cases hd
section
variable {P : Program} {w : World} {K : PySem.W.Frag} {mg : Str → Option Value} {base : Heap}

abbrev s_rows_for : Stmt := topS 33
abbrev N_rows_for : List Str := ["f", "g", "found", "at", "row", "form", "k"]
theorem sc_rows_for : FnScope N_rows_for ["f", "g"] (defScope s_rows_for) := ⟨rfl, rfl, rfl, by decide +kernel, rfl, by decide +kernel, by decide +kernel⟩
theorem ok_rows_for (B : Bn mg) (F : Fu K mg "rows_for" s_rows_for ["f", "g"])  : Dn P w K mg base "rows_for" ["f", "g"] 1 (spW p_rows_for) := by
  refine F.okW sc_rows_for (by rintro _ _ ⟨f, g, _, _, rfl, rfl⟩; rfl) (fun f cdv A outer s H E hr => ?_)
  have hu := hu_of hr
  have hu64 := hr.units
  refine ⟨_, (pss_cons (ps_set (i := 2) sc_rows_for.nd rfl (.inl rfl) (pe_lst pa_nil))
      (pss_cons (ps_for PassesOwn.never rfl (pi_range1 rfl B.range (pa_cons (pe_glob' rfl B.EVERY) pa_nil)) (pg_name (i := 3) sc_rows_for.nd rfl (.inr rfl)) (pss_cons (ps_set (i := 4) sc_rows_for.nd rfl (.inl rfl) (pe_lst pa_nil))
      (pss_cons (ps_for PassesOwn.never rfl (kpiT (K := K) rfl (pe_tup (pa_cons (pv 0) (pa_cons (pv 1) pa_nil)))) (pg_name (i := 5) sc_rows_for.nd rfl (.inr rfl)) (pss_one (ps_expr (pe_bm PySem.F.plainAttrs_list PySem.F.slot_list_extend PySem.F.type_list_extend mt_extend (pv 4) (pa_cons (pe_lc (own := [("k", 6)]) rfl sc_rows_for.nd (pi_range1 rfl B.range (pa_cons (pe_glob' rfl B.FEW) pa_nil)) (blkOk_by (own := [("k", 6)]) (N := N_rows_for) (sc := (defScope s_rows_for)) (by decide +kernel)) (fun _ _ _ _ _ => (pg_name (i := 6) sc_rows_for.nd rfl (.inl rfl))) (fun _ _ _ _ _ => pts_nil) (fun _ _ _ _ _ => (pe_ifExp (pt_chain op_le op_lt pe_int (pe_op op_sub (pv 3) (pv 6)) (pe_callB (kLen (K := K) rfl) (by rfl) B.len PySem.boot_len (pa_cons (pv 5) pa_nil))) (pe_ix (kIxL (K := K) rfl) (pv 5) (pe_op op_sub (pv 3) (pv 6)) (fun _ _ => rfl)) pe_int))) pa_nil)))))
      (pss_one (ps_expr (pe_bm PySem.F.plainAttrs_list PySem.F.slot_list_append PySem.F.type_list_append mt_append (pv 2) (pa_cons (pe_op op_cat (pv 4) (pe_lst (pa_cons (pe_callTy call_int1 (by rfl) B.int PyProof.Rows.boot_int (pa_cons (pe_cmpR op_eq (pv 3) (pe_op op_sub (pe_glob' rfl B.EVERY) pe_int) (nomark _)) pa_nil)) (pa_cons (pe_callTy call_int1 (by rfl) B.int PyProof.Rows.boot_int (pa_cons (pe_cmpR op_eq (pv 3) pe_int (nomark _)) pa_nil)) pa_nil)))) pa_nil)))))))
      (pss_one (ps_ret (pv 2))))), fun ds acc hp H0 P0 => ?_⟩
  obtain ⟨f, g, hf, hg, rfl, rfl⟩ := hp
  refine sr_new (ds := []) (ew_lst ea_nil) ext_stab ext_new fun L T => ?_
  refine sr_for (ds := rngD 0 8) (src_rng1 (n := 8) (ea_cons ev_int ea_nil) (Nat.le_of_ble_eq_true rfl)) (so_stab ext_stab)
    (fun i δ H P => ∃ a b c e, δ = [some (.lst (zs f)), some (.lst (zs g)), some (.adr L), a, b, c, e] ∧ SO (Ext H0 P0) L (rowsD ((List.range i).map (rowFor f g))) H P) (fun H P x => ⟨none, none, none, none, rfl, x⟩) ?_ ?_
  · rintro i d δ1 H P hd ⟨a, b, c, e, rfl, x⟩
    have hi : i < 8 := by
      have := (List.getElem?_eq_some_iff.mp hd).1
      rwa [rngD_len] at this
    rw [rngD_get hi, Int.zero_add] at hd
    cases hd
    refine ⟨_, _, tg_name, x, so_stab ext_stab, ?_⟩
    refine sr_new (ds := []) (ew_lst ea_nil) (so_stab ext_stab) (so_new ext_new) fun L2 T2 => ?_
    refine sr_for (ds := [.lst (zs f), .lst (zs g)]) (src_tup (ev_tup (ea_cons (ev_var rfl) (ea_cons (ev_var rfl) ea_nil)))) (so_stab (so_stab ext_stab))
      (fun j δ H P => ∃ c e, δ = [some (.lst (zs f)), some (.lst (zs g)), some (.adr L), some (.int (i : Int)), some (.adr L2), c, e] ∧ SO (SO (Ext H0 P0) L (rowsD ((List.range i).map (rowFor f g)))) L2 (zs (pp f g i j)) H P)
      (fun H P x => ⟨c, e, rfl, x⟩) ?_ ?_
    · rintro j d δ1 H P hd ⟨c, e, rfl, x⟩
      have hj := fg_at hd
      obtain ⟨h, hj, rfl⟩ := hj
      have hj2 : j < 2 := (List.getElem?_eq_some_iff.mp hj).1
      have hl := pp_len f g i j hj2
      rw [pp_succ hj]
      refine ⟨_, _, tg_name, x, so_stab (so_stab ext_stab), ?_⟩
      refine sr_nx (sr_extend (ds := zs (part h i)) rfl T2 (so_stab ext_stab) (ev_cast (ev_lcm (src_rng1 (n := 4) (ea_cons ev_int ea_nil) (Nat.le_of_ble_eq_true rfl)) (pcD h i) (Nat.le_of_ble_eq_true rfl) (fun d hd => ?_)) (by rw [pc_map])) (by rw [zs_len, zs_len, part_len]; omega)) fun δ' H P y => ⟨_, _, y.1, ?_⟩
      · obtain ⟨k, hk, rfl⟩ := mem_rng hd
        refine ⟨_, tc_name (by simp), ?_⟩
        refine ev_if (eb_test (ev_chain ev_int (ev_sub (ev_var rfl) (ev_var rfl)) (ev_lenL (ea_cons (ev_var rfl) ea_nil)))) (fun hb => ?_) fun hb => ?_
        · rw [Bool.and_eq_true, decide_eq_true_eq, decide_eq_true_eq, zs_len] at hb
          refine ev_cast (ev_ixL (n := ((i : Int) - (0 + (k : Int))).toNat) (ev_var rfl) (ev_sub (ev_var rfl) (ev_var rfl)) (by omega) (zs_at (by omega))) ?_
          show Dt.int _ = Dt.int _
          rw [if_pos hb]
        · refine ev_cast ev_int ?_
          show Dt.int _ = Dt.int _
          rw [if_neg]
          intro hh
          rw [Bool.and_eq_false_iff, decide_eq_false_iff_not, decide_eq_false_iff_not, zs_len] at hb
          omega
      · have h2 := y.2
        rw [zs_app] at h2
        exact h2
    · rintro δ1 H P ⟨c, e, rfl, x⟩
      rw [show [Dt.lst (zs f), Dt.lst (zs g)].length = 2 from rfl, pp_two] at x
      refine ⟨_, x, ?_⟩
      refine sr_freeze (i := 4) rfl T2 ?_
      refine sr_nx (sr_append (d := .lst (zs (rowFor f g i))) rfl T ext_stab (ev_cast (ev_catL (ds := zs (part f i ++ part g i)) (ev_var rfl) (ev_lst (ea_cons (ev_intB (ea_cons (ev_eqI (ev_var rfl) (ev_sub ev_int ev_int)) ea_nil)) (ea_cons (ev_intB (ea_cons (ev_eqI (ev_var rfl) ev_int) ea_nil)) ea_nil))) (by rw [zs_len, List.length_append, part_len, part_len]; exact Nat.le_of_ble_eq_true rfl)) ?_) (by unfold rowsD; rw [List.length_map, List.length_map, List.length_range]; omega)) fun δ' H P y => ⟨_, _, _, _, y.1, ?_⟩
      · show Dt.lst _ = Dt.lst _
        congr 1
        unfold rowFor
        rw [← zs_app (part f i ++ part g i)]
        congr 1
        show [Dt.int _, Dt.int _] = [Dt.int _, Dt.int _]
        have k1 : ((i : Int) = 8 - 1) ↔ i = 7 := by omega
        have k2 : ((i : Int) = 0) ↔ i = 0 := by omega
        simp only [decide_eq_true_eq, k1, k2]
      · rw [List.range_succ, List.map_append]
        unfold rowsD at *
        rw [List.map_append]
        exact y.2
  · rintro δ1 H P ⟨a, b, c, e, rfl, x⟩
    rw [rngD_len] at x
    exact ⟨_, x, sr_imp (sr_retO (N := fun _ _ _ => False) rfl) (fun _ _ _ z => z) fun d H P ⟨e, y⟩ => ⟨L, e, y, tol_ext T y.1 y.2.1⟩⟩

end
end Cw
end
section
set_option linter.all false
set_option maxRecDepth 100000
set_option maxHeartbeats 400000
set_option exponentiation.threshold 100000
namespace Cw
open PySem PySem.Spec PyProof.Rows L2
def spC : Sp := fun vs H Q _ => ∃ (HP : Hp) (L : Addr) (A M : List (List Int)), Same HP H ∧ vs = [.ref L] ∧ OwnL L (rowsD M) H HP ∧ Ker A ∧ Out A 0 23 M ∧ ∀ H' P', Ext (less H L) HP H' P' → OwnL L (rowsD (clearedL M)) H' P' → Q (.ref L) H'
theorem rowsD_len (M : List (List Int)) : (rowsD M).length = M.length := by simp [rowsD]
theorem rowsD_set (M : List (List Int)) (n : Nat) (r : List Int) : (rowsD M).set n (.lst (zs r)) = rowsD (M.set n r) := by
  unfold rowsD
  rw [List.map_set]
theorem bits_le {t : Nat} (h : t ≤ 8) : bitsAt 23 t ≤ 6143 := by
  match t, h with
  | 0, _ => decide
  | 1, _ => decide
  | 2, _ => decide
  | 3, _ => decide
  | 4, _ => decide
  | 5, _ => decide
  | 6, _ => decide
  | 7, _ => decide
  | 8, _ => decide
theorem bits_le2 {t : Nat} (h : t < 8) : 2 * bitsAt 23 t + 1 ≤ 6143 := by
  match t, h with
  | 0, _ => decide
  | 1, _ => decide
  | 2, _ => decide
  | 3, _ => decide
  | 4, _ => decide
  | 5, _ => decide
  | 6, _ => decide
  | 7, _ => decide
/-- the rows whose number at t isn't 0 -/
def nzD (M : List (List Int)) (t : Nat) : Dt → Option Dt
  | .int n => if ent M n.toNat t ≠ 0 then some (.int n) else none
  | _ => none
theorem nz_map (M : List (List Int)) (t : Nat) : (rngD t (8 - t)).filterMap (nzD M t) = (pivs M t).map fun (n : Nat) => Dt.int (n : Int) := by
  unfold rngD pivs
  generalize List.range (8 - t) = l
  induction l with
  | nil => rfl
  | cons k l ih =>
    rw [List.map_cons, List.map_cons]
    have e1 : nzD M t (.int ((t : Int) + (k : Int))) = if ent M (t + k) t ≠ 0 then some (.int ((t : Int) + (k : Int))) else none := by
      show (if ent M ((t : Int) + (k : Int)).toNat t ≠ 0 then _ else _) = _
      rw [show ((t : Int) + (k : Int)).toNat = t + k by omega]
    by_cases h : ent M (t + k) t ≠ 0
    · rw [List.filterMap_cons, e1, if_pos h, List.filter_cons, if_pos (by simpa using h), List.map_cons, ih]
      congr 1
    · rw [List.filterMap_cons, e1, if_neg h, List.filter_cons, if_neg (by simpa using h), ih]
def combD (a b : Int) : Dt → Dt
  | .tup [.int x, .int y] => .int (a * x - b * y)
  | d => d
theorem comb_map (a b : Int) : ∀ (r s : List Int), (zipD (zs r) (zs s)).map (combD a b) = zs (comb a b r s)
  | [], s => rfl
  | x :: r, [] => rfl
  | x :: r, y :: s => by
    show combD a b (.tup [.int x, .int y]) :: (zipD (zs r) (zs s)).map (combD a b) = .int (a * x - b * y) :: zs (comb a b r s)
    rw [comb_map a b r s]
    rfl
theorem mem_zip : ∀ {r s : List Int} {d : Dt}, d ∈ zipD (zs r) (zs s) → ∃ x y, x ∈ r ∧ y ∈ s ∧ d = .tup [.int x, .int y]
  | [], s, d, h => by cases h
  | x :: r, [], d, h => by cases h
  | x :: r, y :: s, d, h => by
    rcases List.mem_cons.mp h with rfl | h
    · exact ⟨x, y, List.mem_cons_self .., List.mem_cons_self .., rfl⟩
    · obtain ⟨x', y', h1, h2, e⟩ := mem_zip h
      exact ⟨x', y', List.mem_cons_of_mem _ h1, List.mem_cons_of_mem _ h2, e⟩
theorem row_mem {M : List (List Int)} {n b : Nat} (h : ∀ i j, (ent M i j).natAbs < 2 ^ b) {x : Int} (hx : x ∈ M.getD n []) : x.natAbs < 2 ^ b := by
  obtain ⟨k, hk, e⟩ := List.mem_iff_getElem.mp hx
  have e2 : ent M n k = x := by
    unfold ent
    rw [List.getD_eq_getElem?_getD, List.getElem?_eq_getElem hk]
    exact e
  rw [← e2]
  exact h n k
section
variable {P : Program} {w : World} {K : PySem.W.Frag} {mg : Str → Option Value} {base : Heap}
theorem kpgTup {X : Cx} {K : PySem.W.Frag} {es : List Expr} {k : Nat} {pos : Pos} {t : TGs} {n : Nat} (hK : X.K = K) (hc : X.calm = true) (h : PGs X es t)
    (hn : (assignEach es X.env).length = n := by rfl) (hst : (assignEach es X.env).findIdx? (·.1) = none := by rfl) : PG X (.Tuple es k pos) (gTup K n t) := hK ▸ pg_tup hc h hn hst
theorem sr_go {t : TS} {δ : De} {S : HpP} {N : De → HpP} {R : Dt → HpP} {σ : L2.St} {H HP : Hp} {D : Ends} (s : Same HP H) (x : S H HP) (sl : Sl HP σ δ) (q1 : ∀ δ' σ' H' P', N δ' H' P' → Same P' H' → Same HP P' → Sl P' σ' δ' → D.nx σ' H') (q2 : ∀ d v H' P', R d H' P' → Same P' H' → Same HP P' → Rep P' d v → D.rt v H') (h : StR t δ S N R) : t D σ H := h σ H HP s x sl D q1 q2
theorem ev_ent {δ : De} {ta tb tc : TE} {A M : List (List Int)} {n t : Nat} {k l : Int} (g : Gd A M) (h1 : EvD ta δ (.lst (rowsD M))) (h2 : EvD tb δ (.int k)) (h3 : EvD tc δ (.int l)) (hk : k = (n : Int)) (hl : l = (t : Int)) (hn : n < 8) (ht : t < 10) : EvD (tOp (rIxL K) (tOp (rIxL K) ta tb) tc) δ (.int (ent M n t)) :=
  ev_ixL (ev_ixL h1 h2 hk (rowsD_get (by rw [g.len]; exact hn))) h3 hl (zs_at (by rw [g.lens n hn]; exact ht))

abbrev s_cleared : Stmt := topS 34
abbrev N_cleared : List Str := ["rows", "at", "number", "spot", "own", "often", "row", "one", "other"]
theorem sc_cleared : FnScope N_cleared ["rows"] (defScope s_cleared) := ⟨rfl, rfl, rfl, by decide +kernel, rfl, by decide +kernel, by decide +kernel⟩
theorem ok_cleared (B : Bn mg) (F : Fu K mg "cleared" s_cleared ["rows"]) (h_made_small : Dn P w K mg base "made_small" ["row"] 2 (spP p_made_small)) : Dn P w K mg base "cleared" ["rows"] 3 (spC) := by
  refine F.raw sc_cleared (by rintro _ _ _ _ ⟨_, _, _, _, _, rfl, _⟩; rfl) (fun f cdv A outer s H vs Q E hr h => ?_)
  have hu := hu_of hr
  have hu64 := hr.units
  refine ⟨_, (pss_cons (ps_for PassesOwn.never rfl (pi_range1 rfl B.range (pa_cons (pe_glob' rfl B.EVERY) pa_nil)) (pg_name (i := 1) sc_cleared.nd rfl (.inr rfl)) (pss_cons (ps_set (i := 3) sc_cleared.nd rfl (.inl rfl) (pe_ix (kIxL (K := K) rfl) (pe_lc (own := [("number", 2)]) rfl sc_cleared.nd (pi_range2 rfl B.range (pa_cons (pv 1) (pa_cons (pe_glob' rfl B.EVERY) pa_nil))) (blkOk_by (own := [("number", 2)]) (N := N_cleared) (sc := (defScope s_cleared)) (by decide +kernel)) (fun _ _ _ _ _ => (pg_name (i := 2) sc_cleared.nd rfl (.inl rfl))) (fun _ _ _ _ _ => pts_one (pt_cmpR op_ne (pe_ix (kIxL (K := K) rfl) (pe_ix (kIxL (K := K) rfl) (pv 0) (pv 2) (fun _ _ => rfl)) (pv 1) (fun _ _ => rfl)) pe_int (nomark _))) (fun _ _ _ _ _ => (pv 2))) pe_int (fun _ _ => rfl)))
      (pss_cons (ps_asg (pe_tup (pa_cons (pe_ix (kIxL (K := K) rfl) (pv 0) (pv 3) (fun _ _ => rfl)) (pa_cons (pe_ix (kIxL (K := K) rfl) (pv 0) (pv 1) (fun _ _ => rfl)) pa_nil))) (pg_tup rfl (pgs_cons (pg_sub (pv 0) (pv 1) set_list) (pgs_cons (pg_sub (pv 0) (pv 3) set_list) pgs_nil))))
      (pss_cons (ps_set (i := 4) sc_cleared.nd rfl (.inr rfl) (pe_ix (kIxL (K := K) rfl) (pv 0) (pv 1) (fun _ _ => rfl)))
      (pss_one (ps_for PassesOwn.never rfl (pi_range1 rfl B.range (pa_cons (pe_glob' rfl B.EVERY) pa_nil)) (pg_name (i := 2) sc_cleared.nd rfl (.inl rfl)) (pss_one (ps_if (pw_and (pt_cmpR op_ne (pv 2) (pv 1) (nomark _)) (pw_and1 (pt_cmpR op_ne (pe_ix (kIxL (K := K) rfl) (pe_ix (kIxL (K := K) rfl) (pv 0) (pv 2) (fun _ _ => rfl)) (pv 1) (fun _ _ => rfl)) pe_int (nomark _)))).pt (pss_cons (ps_set (i := 5) sc_cleared.nd rfl (.inr rfl) (pe_ix (kIxL (K := K) rfl) (pe_ix (kIxL (K := K) rfl) (pv 0) (pv 2) (fun _ _ => rfl)) (pv 1) (fun _ _ => rfl)))
      (pss_cons (ps_setLc (i := 6) (own := [("one", 7), ("other", 8)]) rfl sc_cleared.nd rfl rfl (sw_true rfl rfl rfl (by decide +kernel)) (pi_zip (by rfl) B.zip (pa_cons (pe_ix (kIxL (K := K) rfl) (pv 0) (pv 2) (fun _ _ => rfl)) (pa_cons (pv 4) pa_nil))) (blkOk_by (own := [("one", 7), ("other", 8)]) (N := N_cleared) (sc := (defScope s_cleared)) (by decide +kernel)) (fun _ _ _ _ _ => (kpgTup (K := K) (n := 2) rfl rfl (pgs_cons (pg_name (i := 7) sc_cleared.nd rfl (.inl rfl)) (pgs_cons (pg_name (i := 8) sc_cleared.nd rfl (.inl rfl)) pgs_nil)))) (fun _ _ _ _ _ => pts_nil) (fun _ _ _ _ _ => (pe_op op_sub (pe_op op_mulW (pe_ix (kIxL (K := K) rfl) (pv 4) (pv 1) (fun _ _ => rfl)) (pv 7)) (pe_op op_mulW (pv 5) (pv 8)))))
      (pss_one (ps_asg (pe_fn h_made_small (hr.mono (by decide)) (by rfl) (pa_cons (pv 6) pa_nil)) (pg_sub (pv 0) (pv 2) set_list))))) pss_nil))))))))
      (pss_one (ps_ret (pv 0)))), ?_⟩
  obtain ⟨HP, L, A0, M, s0, rfl, ho, hk, hout, q⟩ := h
  have s1 : Ext (less H L) HP H HP := ⟨fun a o e => by
    by_cases ha : a = L
    · subst ha; rw [less_at] at e; cases e
    · rw [less_ne ha] at e; exact e, Same.refl _, s0, fun a o e => .inl e⟩
  refine sr_go (δ := startD N_cleared [.adr L]) (S := SO (Ext (less H L) HP) L (rowsD M)) (N := fun _ _ _ => False) (R := fun d H2 P2 => d = .adr L ∧ SO (Ext (less H L) HP) L (rowsD (clearedL M)) H2 P2) s0 ⟨s1, ho⟩ (sl_start (ds := [.adr L]) ⟨.ref L, [], rfl, rfl, rfl⟩) (fun _ _ _ _ z => z.elim) (fun d v H' P' ⟨ed, so⟩ _ _ rv => by
    subst ed
    cases (show v = .ref L from rv)
    exact q H' P' so.1 so.2) ?_
  have hS : Stab (Ext (less H L) HP) := ext_stab
  have T : Tol (Ext (less H L) HP) L := ext_tol less_at
  clear q s1 ho
  generalize Ext (less H L) HP = S at *
  · skip
    refine sr_for (ds := rngD 0 8) (src_rng1 (n := 8) (ea_cons ev_int ea_nil) (Nat.le_of_ble_eq_true rfl)) (so_stab hS)
      (fun i δ H P => ∃ a b c d e g h k, δ = [some (.adr L), a, b, c, d, e, g, h, k] ∧ SO S L (rowsD ((List.range i).foldl clear1 M)) H P) (fun H P x => ⟨none, none, none, none, none, none, none, none, rfl, x⟩) ?_ ?_
    · rintro i d δ1 H P hd ⟨a, b, c, d, e, g, h, k, rfl, x⟩
      have hi : i < 8 := by
        have := (List.getElem?_eq_some_iff.mp hd).1
        rwa [rngD_len] at this
      rw [rngD_get hi, Int.zero_add] at hd
      cases hd
      have hO := out_fold hk hout i (Nat.le_of_lt hi)
      rw [List.range_succ, List.foldl_append]
      generalize (List.range i).foldl clear1 M = M1 at *
      show ∃ δ2 S2, _ ∧ _ ∧ _ ∧ StR _ δ2 S2 (fun δ H P => ∃ a b c d e g h k, δ = [some (.adr L), a, b, c, d, e, g, h, k] ∧ SO S L (rowsD (clear1 M1 i)) H P) _
      obtain ⟨p1, p2, p3, p4⟩ := piv_ok hk hO.gd hi hO.clr
      refine ⟨_, _, tg_name, x, so_stab hS, ?_⟩
      refine sr_then (sr_asgF (i := 0) (d := .int (piv M1 i : Int)) rfl hS (ev_ixL (n := 0) (ev_lc (src_rng2 (lo := (i : Int)) (n := 8 - i) (ea_cons (ev_var rfl) (ea_cons (ev_cast ev_int (by show Dt.int _ = Dt.int _; congr 1; omega)) ea_nil)) (by omega) (by omega)) (nzD M1 i) (by rw [rngD_len]; omega) (fun d hd => ?_)) ev_int rfl ?_) apart_int) ?_
      · obtain ⟨n, hn, rfl⟩ := mem_rng hd
        refine ⟨_, tc_name (by simp), _, eb_test (ev_neI (ev_ent (n := i + n) (t := i) hO.gd (ev_var rfl) (ev_var rfl) (ev_var rfl) (by omega) rfl (by omega) (by omega)) ev_int), fun hb => ?_, fun hb => ?_⟩
        · show (if ent M1 ((i : Int) + (n : Int)).toNat i ≠ 0 then _ else _) = _
          rw [show ((i : Int) + (n : Int)).toNat = i + n by omega, if_neg (by simpa using hb)]
        · refine ⟨.int ((i : Int) + (n : Int)), ?_, ev_var rfl⟩
          show (if ent M1 ((i : Int) + (n : Int)).toNat i ≠ 0 then _ else _) = _
          rw [show ((i : Int) + (n : Int)).toNat = i + n by omega, if_pos (by simpa using hb)]
      · rw [nz_map, List.getElem?_map, p4]
        rfl
      refine sr_then (sr_swap (i := 0) (n := i) (m := piv M1 i) rfl T hS (ev_var rfl) (ev_var rfl) (ev_var rfl) (ev_var rfl) rfl rfl (rowsD_get (by rw [hO.gd.len]; exact hi)) (rowsD_get (by rw [hO.gd.len]; exact p2))) ?_
      rw [rowsD_set, rowsD_set]
      have hM := out_mid hk hO hi
      show StR _ _ (SO S L (rowsD (swp M1 i (piv M1 i)))) _ _
      unfold clear1
      generalize swp M1 i (piv M1 i) = M2 at *
      generalize hown : M2.getD i [] = own at *
      refine sr_then (sr_asgIx (i := 0) (n := i) (d := .lst (zs own)) rfl hS (ev_var rfl) rfl (by rw [← hown]; exact rowsD_get (by rw [hM.gd.len]; exact hi))) ?_
      refine sr_for1 (ds := rngD 0 8) (src_rng1 (n := 8) (ea_cons ev_int ea_nil) (Nat.le_of_ble_eq_true rfl)) (so_stab hS)
        (fun j δ H P => ∃ d e g h k, δ = [some (.adr L), some (.int (i : Int)), d, some (.int (piv M1 i : Int)), some (.lst (zs own)), e, g, h, k] ∧ SO S L (rowsD ((List.range j).foldl (red1 own i) M2)) H P) (fun H P x => ⟨b, e, g, h, k, rfl, x⟩) ?_ ?_
      · rintro j d δ1 H P hd ⟨d2, e, g, h, k, rfl, x⟩
        have hj : j < 8 := by
          have := (List.getElem?_eq_some_iff.mp hd).1
          rwa [rngD_len] at this
        rw [rngD_get hj, Int.zero_add] at hd
        cases hd
        have hm := mid_fold hi hM j (Nat.le_of_lt hj)
        rw [List.range_succ, List.foldl_append]
        generalize (List.range j).foldl (red1 own i) M2 = M3 at *
        show ∃ δ2 S2, _ ∧ _ ∧ _ ∧ StR _ δ2 S2 (fun δ H P => ∃ d e g h k, δ = [some (.adr L), some (.int (i : Int)), d, some (.int (piv M1 i : Int)), some (.lst (zs own)), e, g, h, k] ∧ SO S L (rowsD (red1 own i M3 j)) H P) _
        refine ⟨_, _, tg_name, x, so_stab hS, ?_⟩
        have hlo : own.length = 10 := by rw [← hm.own]; exact hm.gd.lens i hi
        refine sr_ifO (i := 0) rfl hS (eb_and (eb_test (ev_neI (ev_var rfl) (ev_var rfl))) fun _ => eb_test (ev_neI (ev_ent (n := j) (t := i) hm.gd (ev_var rfl) (ev_var rfl) (ev_var rfl) rfl rfl hj (by omega)) ev_int)) (fun hc => ?_) fun hc => ?_
        · have hc' : j ≠ i ∧ ent M3 j i ≠ 0 := by
            rw [Bool.and_eq_true] at hc
            refine ⟨fun z => ?_, by simpa using hc.2⟩
            have := hc.1
            rw [z] at this
            simp at this
          obtain ⟨g1, g2, g3⟩ := mid_set hm hi hj hc'.1
          have hb2 := bits_le2 hi
          have up : ∀ y : Int, y.natAbs < 2 ^ (2 * bitsAt 23 i + 1) → y.natAbs < 2 ^ 6143 := fun y hy => Nat.lt_of_lt_of_le hy (Nat.pow_le_pow_right (by decide) hb2)
          have up2 : ∀ y : Int, y.natAbs < 2 ^ (2 * bitsAt 23 i + 1) → y.natAbs < 2 ^ 9000 := fun y hy => Nat.lt_of_lt_of_le hy (Nat.pow_le_pow_right (by decide) (by omega))
          have hb := fun a b => up _ (hm.hi a b)
          have hown0 : ∀ y, y ∈ own → y.natAbs < 2 ^ 6143 := fun y hy => row_mem (n := i) hb (by rw [hm.own]; exact hy)
          have ha : own.getD i 0 = ent M3 i i := by unfold ent; rw [hm.own]
          unfold red1
          rw [if_pos hc']
          refine sr_then (sr_asgF (i := 0) (d := .int (ent M3 j i)) rfl hS (ev_ent (n := j) (t := i) hm.gd (ev_var rfl) (ev_var rfl) (ev_var rfl) rfl rfl hj (by omega)) apart_int) ?_
          have hrow : rowsD M3 = .lst (zs (M3.getD 0 [])) :: (rowsD M3).tail := by
            have hl : M3.length = 8 := hm.gd.len
            cases M3 with
            | nil => simp at hl
            | cons r0 rr => rfl
          refine sr_then (δ1 := [some (.adr L), some (.int (i : Int)), some (.int (j : Int)), some (.int (piv M1 i : Int)), some (.lst (zs own)), some (.int (ent M3 j i)), some (.lst (zs (comb (own.getD i 0) (ent M3 j i) (M3.getD j []) own))), h, k]) (S1 := SO S L (rowsD M3)) (sr_asgF (i := 0) (j := 6) rfl hS (ev_cast (ev_lcm (src_zip (ea_cons (ev_ixL (n := j) (ev_var rfl) (ev_var rfl) rfl (rowsD_get (by rw [hm.gd.len]; exact hj))) (ea_cons (ev_var rfl) ea_nil)) (by rw [zs_len, zs_len, hlo, hm.gd.lens j hj])) (combD (own.getD i 0) (ent M3 j i)) (by rw [zipD_len (by rw [zs_len, zs_len, hlo, hm.gd.lens j hj]), zs_len, hm.gd.lens j hj]; omega) (fun d hd => ?_)) (by rw [comb_map])) (by rw [hrow]; exact apart_ints)) ?_
          · obtain ⟨y, z, hy, hz, rfl⟩ := mem_zip hd
            refine ⟨_, tc_two (by simp) (by simp), ?_⟩
            exact ev_sub (ev_mul (ev_ixL (n := i) (ev_var rfl) (ev_var rfl) rfl (zs_at (by omega))) (ev_var rfl) (mul_ok (a := 6143) (b := 6143) (by rw [ha]; exact hb i i) (row_mem hb hy) (by decide))) (ev_mul (ev_var rfl) (ev_var rfl) (mul_ok (a := 6143) (b := 6143) (hb j i) (hown0 z hz) (by decide)))
          refine sr_nx (sr_setI (i := 0) (n := j) (d := .lst (zs (small (comb (own.getD i 0) (ent M3 j i) (M3.getD j []) own)))) rfl T hS (ev_call (ea_cons (ev_var rfl) ea_nil) ⟨_, g1, fun y _ => div_small g1 (up2 _ g2), by rw [g3]; omega, rfl, rfl⟩) (ev_var rfl) rfl (by rw [rowsD_len, hm.gd.len]; exact hj)) fun δ' H P y => ⟨_, _, _, _, _, y.1, ?_⟩
          rw [← rowsD_set]
          exact y.2
        · have hc' : ¬ (j ≠ i ∧ ent M3 j i ≠ 0) := fun z => by
            rw [Bool.and_eq_false_iff] at hc
            rcases hc with hc | hc
            · have : (j : Int) = (i : Int) := by simpa using hc
              omega
            · exact z.2 (by simpa using hc)
          unfold red1
          rw [if_neg hc']
          exact sr_next fun H P x => ⟨_, _, _, _, _, rfl, x⟩
      · rintro δ1 H P ⟨d, e, g, h, k, rfl, x⟩
        rw [rngD_len] at x
        exact ⟨_, _, _, _, _, _, _, _, rfl, x⟩
    · rintro δ1 H P ⟨a, b, c, d, e, g, h, k, rfl, x⟩
      rw [rngD_len] at x
      exact ⟨_, x, sr_retO rfl⟩

end
end Cw
end
section
set_option linter.all false
set_option maxRecDepth 100000
set_option maxHeartbeats 400000
set_option exponentiation.threshold 100000
namespace Cw
open PySem PySem.Spec PyProof.Rows L2
def nnL (M : List (List Int)) (m : Int) (i : Nat) : List Int := m :: ((List.range i).flatMap fun s => side M m s)
theorem nnL_two (M : List (List Int)) : nnL M (lcmL M 8) 2 = nums M := by simp [nnL, nums, List.range, List.range.loop]
theorem nnL_succ (M : List (List Int)) (m : Int) (i : Nat) : nnL M m (i + 1) = nnL M m i ++ side M m i := by
  unfold nnL
  rw [List.range_succ, List.flatMap_append]
  simp
theorem nnL_len (M : List (List Int)) (m : Int) : ∀ i, (nnL M m i).length = 1 + 8 * i
  | 0 => rfl
  | i + 1 => by
    rw [nnL_succ, List.length_append, nnL_len M m i, side_len]
    omega
def sideD (M : List (List Int)) (m : Int) (s : Nat) : Dt → Dt
  | .int t => .int (m.fdiv (ent M t.toNat t.toNat) * ent M t.toNat (8 + s))
  | d => d
theorem side_map (M : List (List Int)) (m : Int) (s : Nat) : (rngD 0 8).map (sideD M m s) = zs (side M m s) := by
  unfold rngD zs side
  rw [List.map_map, List.map_map]
  refine List.map_congr_left fun k _ => ?_
  show Dt.int _ = Dt.int _
  rw [show ((0 : Int) + (k : Int)).toNat = k by omega]
section
variable {P : Program} {w : World} {K : PySem.W.Frag} {mg : Str → Option Value} {base : Heap} {b2 b4 b6 b8 : Int}
/-- cleared(rows_for(f, g)) -/
theorem ev_clr {δ : De} {tA : TA} {E E' : XK} {ds : List Dt} {A C : List (List Int)} (hC : clearedL A = C) (hk : Ker A) (ho : Out A 0 23 A) (h : EvA tA δ ds) (hp : p_rows_for ds (rowsD A)) : EvD (tCall spC [] E (tCons (tCall (spW p_rows_for) [] E' tA) tNil)) δ (.lst (rowsD C)) := fun σ H HP s sl Q q => by
  show tCall (spW p_rows_for) [] E' tA σ H (fun x H1 => spC [x] H1 Q E)
  refine ew_call h hp σ H HP s sl _ fun L H1 P1 e1 hL hw => ?_
  refine ⟨P1, L, A, A, e1.sub, rfl, hw, hk, ho, fun H' P' e2 ho2 => ?_⟩
  rw [hC] at ho2
  obtain ⟨hp2, vs, hv, hr⟩ := ho2
  have e3 : Ext H HP H' P' := ⟨fun a o e => by
    have ha : a ≠ L := by rintro rfl; rw [hL] at e; cases e
    exact e2.big _ _ (by rw [less_ne ha]; exact e1.big _ _ e), e1.part.trans e2.part, e2.sub, fun a o e => by
    rcases e2.new _ _ e with z | z
    · exact e1.new _ _ z
    · by_cases ha : a = L
      · subst ha; exact .inr hL
      · rw [less_ne ha] at z
        exact .inr (e1.big.free z)⟩
  exact q _ H' _ (e3.freeze hL hv) ⟨L, vs, rfl, upd_same, Reps.mono (same_freeze hp2) hr⟩
/-- r, *some = a list -/
theorem st_star {i j : Nat} {d0 : Dt} {ds : List Dt} {δ : De} {te : TE} {u : TS} {nx : De → Prop} {rt : Dt → Prop} (h : EvD te δ (.lst (d0 :: ds))) (k : StD u ((δ.set i (some d0)).set j (some (.lst ds))) nx rt) : StD (tSeq (tAsg te (gStar i j)) u) δ nx rt := fun σ H HP s sl D q1 q2 =>
  h σ H HP s sl _ fun v H1 P1 e1 r1 => by
    obtain ⟨a, vs, rfl, ha, x, xs, rfl, rx, rr⟩ := r1
    refine ⟨a, x, xs, rfl, e1.sub _ _ ha, fun p hp => ?_⟩
    have e2 := Ext.upd (o := .lst xs) e1.sub hp
    have e12 := e1.trans e2
    exact k _ _ _ e12.sub (((sl.mono e12.part).set (rx.mono e2.part) i).set (d := .lst ds) ⟨p, xs, rfl, upd_same, rr.mono e2.part⟩ j) D (fun δ2 σ2 H2 P2 n2 e2' sl2 => q1 δ2 σ2 H2 P2 n2 (e12.trans e2') sl2) fun d v H2 P2 r e2' rv => q2 d v H2 P2 r (e12.trans e2') rv
theorem paper_get_sm (h : Bok b2 b4 b6 b8) (n : Nat) : ((paperL b2 b4 b6 b8).getD n 0).natAbs < 2 ^ 2000 := by
  rw [List.getD_eq_getElem?_getD]
  cases e : (paperL b2 b4 b6 b8)[n]? with
  | none => decide
  | some y => exact paper_sm h y (List.mem_of_getElem? e)
theorem up2000 {x : Int} {n : Nat} (h : x.natAbs < 2 ^ 2000) (hn : 2000 ≤ n) : x.natAbs < 2 ^ n := Nat.lt_of_lt_of_le h (Nat.pow_le_pow_right (by decide) hn)
theorem nums_div (h : Bok b2 b4 b6 b8) : ∀ x, x ∈ nums (clearedL (matA b2 b4 b6 b8)) → CDivP x (gcdL (nums (clearedL (matA b2 b4 b6 b8)))) := fun x hx => by
  obtain ⟨n, hn, e⟩ := List.mem_iff_getElem.mp hx
  have hg := nums_ne h
  have e1 := small_get hg n
  have e2 : (nums (clearedL (matA b2 b4 b6 b8))).getD n 0 = x := by rw [List.getD_eq_getElem?_getD, List.getElem?_eq_getElem hn]; exact e
  rw [e2] at e1
  exact div_quot hg e1.symm (up2000 (paper_get_sm h n) (by decide))

abbrev s_own_paper : Stmt := topS 35
abbrev N_own_paper : List Str := ["curve", "f", "g", "rows", "much", "at", "numbers", "side", "r", "some"]
theorem sc_own_paper : FnScope N_own_paper ["curve"] (defScope s_own_paper) := ⟨rfl, rfl, rfl, by decide +kernel, rfl, by decide +kernel, by decide +kernel⟩
theorem ok_own_paper (B : Bn mg) (F : Fu K mg "own_paper" s_own_paper ["curve"]) (h_forms_of : Dn P w K mg base "forms_of" ["curve"] 6 (spP p_forms_of)) (h_made_small : Dn P w K mg base "made_small" ["row"] 2 (spP p_made_small)) (h_cleared : Dn P w K mg base "cleared" ["rows"] 3 (spC)) (h_rows_for : Dn P w K mg base "rows_for" ["f", "g"] 1 (spW p_rows_for)) (h_common : Dn P w K mg base "common" ["one", "other"] 1 (spP p_common)) : Dn P w K mg base "own_paper" ["curve"] 7 (spP p_own_paper) := by
  refine F.ok sc_own_paper (by rintro _ _ ⟨c, _, rfl, rfl⟩; rfl) (fun f cdv A outer s H E hr => ?_)
  have hu := hu_of hr
  have hu64 := hr.units
  refine ⟨_, (pss_cons (ps_asg (pe_fn h_forms_of (hr.mono (by decide)) (by rfl) (pa_cons (pv 0) pa_nil)) (pg_tup rfl (pgs_cons (pg_name (i := 1) sc_own_paper.nd rfl (.inl rfl)) (pgs_cons (pg_name (i := 2) sc_own_paper.nd rfl (.inl rfl)) pgs_nil))))
      (pss_cons (ps_asg (pe_tup (pa_cons (pe_fn h_cleared (hr.mono (by decide)) (by rfl) (pa_cons (pe_fn h_rows_for (hr.mono (by decide)) (by rfl) (pa_cons (pv 1) (pa_cons (pv 2) pa_nil))) pa_nil)) (pa_cons pe_int pa_nil))) (pg_tup rfl (pgs_cons (pg_name (i := 3) sc_own_paper.nd rfl (.inr rfl)) (pgs_cons (pg_name (i := 4) sc_own_paper.nd rfl (.inr rfl)) pgs_nil))))
      (pss_cons (ps_for PassesOwn.never rfl (pi_range1 rfl B.range (pa_cons (pe_glob' rfl B.EVERY) pa_nil)) (pg_name (i := 5) sc_own_paper.nd rfl (.inl rfl)) (pss_one (ps_set (i := 4) sc_own_paper.nd rfl (.inr rfl) (pe_op op_fdivP (pe_op op_mulW (pv 4) (pe_callB call_abs (by rfl) B.abs PyProof.Rows.boot_abs (pa_cons (pe_ix (kIxL (K := K) rfl) (pe_ix (kIxL (K := K) rfl) (pv 3) (pv 5) (fun _ _ => rfl)) (pv 5) (fun _ _ => rfl)) pa_nil))) (pe_fn h_common (hr.mono (by decide)) (by rfl) (pa_cons (pv 4) (pa_cons (pe_ix (kIxL (K := K) rfl) (pe_ix (kIxL (K := K) rfl) (pv 3) (pv 5) (fun _ _ => rfl)) (pv 5) (fun _ _ => rfl)) pa_nil)))))))
      (pss_cons (ps_set (i := 6) sc_own_paper.nd rfl (.inl rfl) (pe_lst (pa_cons (pv 4) pa_nil)))
      (pss_cons (ps_for PassesOwn.never rfl (pi_range1 rfl B.range (pa_cons pe_int pa_nil)) (pg_name (i := 7) sc_own_paper.nd rfl (.inr rfl)) (pss_one (ps_expr (pe_bm PySem.F.plainAttrs_list PySem.F.slot_list_extend PySem.F.type_list_extend mt_extend (pv 6) (pa_cons (pe_lc (own := [("at", 5)]) rfl sc_own_paper.nd (pi_range1 rfl B.range (pa_cons (pe_glob' rfl B.EVERY) pa_nil)) (blkOk_by (own := [("at", 5)]) (N := N_own_paper) (sc := (defScope s_own_paper)) (by decide +kernel)) (fun _ _ _ _ _ => (pg_name (i := 5) sc_own_paper.nd rfl (.inl rfl))) (fun _ _ _ _ _ => pts_nil) (fun _ _ _ _ _ => (pe_op op_mulW (pe_op op_fdivP (pv 4) (pe_ix (kIxL (K := K) rfl) (pe_ix (kIxL (K := K) rfl) (pv 3) (pv 5) (fun _ _ => rfl)) (pv 5) (fun _ _ => rfl))) (pe_ix (kIxL (K := K) rfl) (pe_ix (kIxL (K := K) rfl) (pv 3) (pv 5) (fun _ _ => rfl)) (pe_op op_add (pe_glob' rfl B.EVERY) (pv 7)) (fun _ _ => rfl))))) pa_nil)))))
      (pss_cons (ps_asg (pe_fn h_made_small (hr.mono (by decide)) (by rfl) (pa_cons (pv 6) pa_nil)) (pg_star (i := 8) (j := 9) rfl sc_own_paper.nd rfl rfl (.inl rfl) (.inl rfl)))
      (pss_one (ps_ret (pe_tup (pa_cons (pe_callTy (kTupOf (K := K) rfl) (by rfl) B.tuple PyProof.Rows.boot_tuple (pa_cons (pe_slice (kSlL (K := K) rfl) (pv 9) po_none (po_some pe_int)) pa_nil)) (pa_cons (pe_callTy (kTupOf (K := K) rfl) (by rfl) B.tuple PyProof.Rows.boot_tuple (pa_cons (pe_slice (kSlL (K := K) rfl) (pv 9) (po_some pe_int) (po_some pe_int)) pa_nil)) (pa_cons (pe_callTy (kTupOf (K := K) rfl) (by rfl) B.tuple PyProof.Rows.boot_tuple (pa_cons (pe_slice (kSlL (K := K) rfl) (pv 9) (po_some pe_int) (po_some pe_int)) pa_nil)) (pa_cons (pe_callTy (kTupOf (K := K) rfl) (by rfl) B.tuple PyProof.Rows.boot_tuple (pa_cons (pe_slice (kSlL (K := K) rfl) (pv 9) (po_some pe_int) po_none) pa_nil)) (pa_cons (pv 8) pa_nil)))))))))))))), fun ds d hp => ?_⟩
  obtain ⟨c, hc, rfl, rfl⟩ := hp
  have hb := hc.bok
  have hF := hb.fin
  refine st_asg (ev_call (ea_cons (ev_var rfl) ea_nil) ⟨c, hc.cs, rfl, rfl⟩) (tg_tup (tgs_cons tg_name (tgs_cons tg_name tgs_nil)) rfl) ?_
  have hk := hb.ker
  have ho : Out (matA c.b2 c.b4 c.b6 c.b8) 0 23 (matA c.b2 c.b4 c.b6 c.b8) := hb.out 0 (Nat.zero_le _)
  have hrf : p_rows_for [.lst (zs (formF c.b4 c.b6 c.b8)), .lst (zs (formG c.b2 c.b4 c.b6))] (rowsD (matA c.b2 c.b4 c.b6 c.b8)) := ⟨_, _, Nat.le_of_ble_eq_true rfl, Nat.le_of_ble_eq_true rfl, rfl, rfl⟩
  have hdiv := nums_div hb
  have hne := nums_ne hb
  have hpap : small (nums (clearedL (matA c.b2 c.b4 c.b6 c.b8))) = paperL c.b2 c.b4 c.b6 c.b8 := rfl
  generalize matA c.b2 c.b4 c.b6 c.b8 = A0 at *
  generalize hC : clearedL A0 = M at *
  refine st_asg (d := .tup [.lst (rowsD M), .int 1]) (ev_tup (ea_cons ?_ (ea_cons ev_int ea_nil))) (tg_tup (tgs_cons tg_name (tgs_cons tg_name tgs_nil)) rfl) ?_
  · refine ev_clr hC hk ho ?_ hrf
    exact ea_cons (ev_var rfl) (ea_cons (ev_var rfl) ea_nil)
  have hd : ∀ t, t < 8 → ent M t t ≠ 0 := fun t ht => (hF.clr t ht).1
  have hbits := lcmL_bits hd hF.bnd
  have hok := lcmL_ok hd
  have u9 : ∀ y : Int, y.natAbs < 2 ^ 6143 → y.natAbs < 2 ^ 9000 := fun y hy => Nat.lt_of_lt_of_le hy (Nat.pow_le_pow_right (by decide) (by decide))
  refine st_for (ds := rngD 0 8) (src_rng1 (n := 8) (ea_cons ev_int ea_nil) (Nat.le_of_ble_eq_true rfl))
    (fun i δ => ∃ a, δ = [some (cv c), some (.lst (zs (formF c.b4 c.b6 c.b8))), some (.lst (zs (formG c.b2 c.b4 c.b6))), some (.lst (rowsD M)), some (.int (lcmL M i)), a, none, none, none, none]) ⟨none, rfl⟩ ?_ ?_
  · rintro i d δ1 hd1 ⟨a, rfl⟩
    have hi : i < 8 := by
      have := (List.getElem?_eq_some_iff.mp hd1).1
      rwa [rngD_len] at this
    rw [rngD_get hi, Int.zero_add] at hd1
    cases hd1
    refine ⟨_, tg_name, ?_⟩
    have hgn : (Int.gcd (lcmL M i) (ent M i i) : Int) ≠ 0 := by
      have := Int.gcd_pos_of_ne_zero_right (lcmL M i) (hd i hi)
      omega
    have hgs : ((Int.gcd (lcmL M i) (ent M i i) : Int)).natAbs < 2 ^ 9000 := by
      have h1 : Int.gcd (lcmL M i) (ent M i i) ≤ (ent M i i).natAbs := Nat.le_of_dvd (Int.natAbs_pos.mpr (hd i hi)) (Int.natAbs_dvd_natAbs.mpr (Int.gcd_dvd_right (lcmL M i) (ent M i i)))
      exact u9 _ (Nat.lt_of_le_of_lt h1 (hF.bnd i i))
    have eL : lcmL M (i + 1) = ((lcmL M i) * ((ent M i i).natAbs : Int)).fdiv (Int.gcd (lcmL M i) (ent M i i) : Int) := by
      unfold lcmL
      rw [List.range_succ, List.foldl_append]
      rfl
    rw [eL]
    have en : ∀ {δ : De} {ta tb tc : TE}, EvD ta δ (.lst (rowsD M)) → EvD tb δ (.int (i : Int)) → EvD tc δ (.int (i : Int)) → EvD (tOp (rIxL K) (tOp (rIxL K) ta tb) tc) δ (.int (ent M i i)) := fun h1 h2 h3 => ev_ent (n := i) (t := i) hF.gd h1 h2 h3 rfl rfl hi (by omega)
    refine st_asg1 (ev_fdiv (ev_mul (ev_var rfl) (ev_abs (ea_cons (en (ev_var rfl) (ev_var rfl) (ev_var rfl)) ea_nil)) (mul_ok (a := 6143 * 8 + 1) (b := 6143) (Nat.lt_of_lt_of_le (hbits i (by omega)) (Nat.pow_le_pow_right (by decide) (by omega))) (by rw [Int.natAbs_natCast]; exact hF.bnd i i) (by decide))) (ev_call (ea_cons (ev_var rfl) (ea_cons (en (ev_var rfl) (ev_var rfl) (ev_var rfl)) ea_nil)) ⟨_, _, rfl, rfl⟩) (div_small hgn hgs)) tg_name ⟨_, rfl⟩
  · rintro δ1 ⟨a, rfl⟩
    rw [rngD_len]
    obtain ⟨hpos, hdv⟩ := hok 8 (Nat.le_refl _)
    have hb8 := hbits 8 (Nat.le_refl _)
    have enn := nnL_two M
    generalize lcmL M 8 = m at *
    refine st_of_r fun H0 P0 => ?_
    refine sr_new (ds := [.int m]) (ew_lst (ea_cons (ev_var rfl) ea_nil)) ext_stab ext_new fun L T => ?_
    refine sr_for (ds := rngD 0 2) (src_rng1 (n := 2) (ea_cons ev_int ea_nil) (Nat.le_of_ble_eq_true rfl)) (so_stab ext_stab)
      (fun i δ H P => ∃ a b, δ = [some (cv c), some (.lst (zs (formF c.b4 c.b6 c.b8))), some (.lst (zs (formG c.b2 c.b4 c.b6))), some (.lst (rowsD M)), some (.int m), a, some (.adr L), b, none, none] ∧ SO (Ext H0 P0) L (zs (nnL M m i)) H P) (fun H P x => ⟨_, _, rfl, x⟩) ?_ ?_
    · rintro i d δ1 H P hd1 ⟨a, b, rfl, x⟩
      have hi : i < 2 := by
        have := (List.getElem?_eq_some_iff.mp hd1).1
        rwa [rngD_len] at this
      rw [rngD_get hi, Int.zero_add] at hd1
      cases hd1
      refine ⟨_, _, tg_name, x, so_stab ext_stab, ?_⟩
      rw [nnL_succ, ← zs_app]
      refine sr_nx (sr_extend (ds := zs (side M m i)) rfl T ext_stab (ev_cast (ev_lcm (src_rng1 (n := 8) (ea_cons ev_int ea_nil) (Nat.le_of_ble_eq_true rfl)) (sideD M m i) (Nat.le_of_ble_eq_true rfl) (fun d hd2 => ?_)) (by rw [side_map])) (by rw [zs_len, zs_len, nnL_len, side_len]; omega)) fun δ' H P y => ⟨_, _, y.1, y.2⟩
      obtain ⟨t, ht, rfl⟩ := mem_rng hd2
      rw [Int.zero_add]
      have hq : ((m.fdiv (ent M t t))).natAbs < 2 ^ (6143 * 8 + 1) := by
        obtain ⟨k, hk⟩ := hdv t ht
        rw [fdiv_of (hd t ht) hk]
        have e1 : m.natAbs = (ent M t t).natAbs * k.natAbs := by
          conv => lhs; rw [hk]
          exact Int.natAbs_mul ..
        have e2 : k.natAbs ≤ m.natAbs := by rw [e1]; exact Nat.le_mul_of_pos_left _ (Int.natAbs_pos.mpr (hd t ht))
        exact Nat.lt_of_le_of_lt e2 hb8
      have en : ∀ {δ : De} {ta tb tc : TE} {l : Int} {s : Nat}, EvD ta δ (.lst (rowsD M)) → EvD tb δ (.int (t : Int)) → EvD tc δ (.int l) → l = (s : Int) → s < 10 → EvD (tOp (rIxL K) (tOp (rIxL K) ta tb) tc) δ (.int (ent M t s)) := fun h1 h2 h3 h4 h5 => ev_ent hF.gd h1 h2 h3 rfl h4 ht h5
      refine ⟨_, tc_name (by simp), ?_⟩
      refine ev_cast (ev_mul (ev_fdiv (ev_var rfl) (en (ev_var rfl) (ev_var rfl) (ev_var rfl) rfl (by omega)) (div_small (hd t ht) (u9 _ (hF.bnd t t)))) (en (s := 8 + i) (ev_var rfl) (ev_var rfl) (ev_add ev_int (ev_var rfl)) (by omega) (by omega)) (mul_ok hq (hF.bnd _ _) (by decide))) ?_
      show Dt.int _ = Dt.int _
      rw [Int.toNat_natCast]
    · rintro δ1 H P ⟨a, b, rfl, x⟩
      rw [rngD_len, enn] at x
      refine ⟨_, x, ?_⟩
      refine sr_freeze (i := 6) rfl T ?_
      have hcall : p_made_small [.lst (zs (nums M))] (.lst (zs (paperL c.b2 c.b4 c.b6 c.b8))) := ⟨_, hne, hdiv, by rw [nums_len]; omega, rfl, by rw [hpap]⟩
      have hl := paperL_len (b2 := c.b2) (b4 := c.b4) (b6 := c.b6) (b8 := c.b8)
      generalize paperL c.b2 c.b4 c.b6 c.b8 = p at *
      obtain ⟨a0, a1, a2, a3, a4, a5, a6, a7, a8, a9, a10, a11, a12, a13, a14, a15, a16, rfl⟩ := list17 hl
      refine sr_d (nx := fun _ => False) (rt := fun r => r = pap [a0, a1, a2, a3, a4, a5, a6, a7, a8, a9, a10, a11, a12, a13, a14, a15, a16]) ?_ ext_stab (fun _ _ _ z _ => z.elim) fun d H P e y => ⟨e, y⟩
      refine st_star (d0 := .int a0) (ds := zs [a1, a2, a3, a4, a5, a6, a7, a8, a9, a10, a11, a12, a13, a14, a15, a16]) (ev_call (ea_cons (ev_var rfl) ea_nil) hcall) ?_
      have sl : ∀ {δ : De} {ta : TE} {to1 to2 : TO} {lo hi : Option Int}, EvD ta δ (.lst (zs [a1, a2, a3, a4, a5, a6, a7, a8, a9, a10, a11, a12, a13, a14, a15, a16])) → EvO to1 lo → EvO to2 hi → EvD (tSl (rSlL K) ta to1 to2) δ (.lst (cutD (zs [a1, a2, a3, a4, a5, a6, a7, a8, a9, a10, a11, a12, a13, a14, a15, a16]) lo hi)) := fun h1 h2 h3 => ev_slL h1 h2 h3
      exact st_ret (ev_tup (ea_cons (ev_tupleOf (ea_cons (ev_cast (sl (ev_var rfl) eo_none eo_some) (e := rfl) (d' := .lst (zs [a1, a2, a3, a4]))) ea_nil)) (ea_cons (ev_tupleOf (ea_cons (ev_cast (sl (ev_var rfl) eo_some eo_some) (e := rfl) (d' := .lst (zs [a5, a6, a7, a8]))) ea_nil)) (ea_cons (ev_tupleOf (ea_cons (ev_cast (sl (ev_var rfl) eo_some eo_some) (e := rfl) (d' := .lst (zs [a9, a10, a11, a12]))) ea_nil)) (ea_cons (ev_tupleOf (ea_cons (ev_cast (sl (ev_var rfl) eo_some eo_none) (e := rfl) (d' := .lst (zs [a13, a14, a15, a16]))) ea_nil)) (ea_cons (ev_var rfl) ea_nil)))))) rfl

end
end Cw
end
section
set_option linter.all false
set_option maxRecDepth 100000
set_option maxHeartbeats 400000
set_option exponentiation.threshold 100000
namespace Cw
open PySem PySem.Spec PyProof.Rows L2
def p__law_low (ds : List Dt) (d : Dt) : Prop := ∃ t b : Int, b ≠ 0 ∧ Int.gcd t b < 2 ^ 9000 ∧ ds = [.int t, .int b] ∧ d = fr (Rat.divInt t b)
def p__law_two (ds : List Dt) (d : Dt) : Prop := p_pair_of ds d
def p__law_plus (ds : List Dt) (d : Dt) : Prop := p_sum_of_two ds d
def p__law_by (ds : List Dt) (d : Dt) : Prop := p_product ds d
def p__law_over (ds : List Dt) (d : Dt) : Prop := ∃ a b : Rat, Sm a ∧ Sm b ∧ b ≠ 0 ∧ ds = [fr a, fr b] ∧ d = fr (a / b)
def p__law_all (ds : List Dt) (d : Dt) : Prop := ∃ rows : List (List Rat), okRows 0 rows ∧ ds = [.lst (rows.map fun r => .lst (r.map fr))] ∧ d = fr (sumL rows)
def p__law_b (ds : List Dt) (d : Dt) : Prop := p_halves_of ds d
def p__law_d (ds : List Dt) (d : Dt) : Prop := p_d_of ds d
def p__law_forms (ds : List Dt) (d : Dt) : Prop := p_forms_of ds d
def p__law_bounds (ds : List Dt) (d : Dt) : Prop := ∃ (c : Cv) (p : List Int), Cs c ∧ p.length = 17 ∧ ds = [cv c, pap p] ∧ d = .tup [.int (lowN p : Int), .int (highN c.b2 c.b4 c.b6 c.b8 : Int)]
def p__law_common (ds : List Dt) (d : Dt) : Prop := p_common ds d
theorem law_int (rows : List (List Int)) (h : rowsB rows) (hl : rows.length ≤ 20 := by exact Nat.le_of_ble_eq_true rfl) : p__law_all [.lst (rows.map fun r => .lst (r.map Dt.int))] (.int (sumI rows)) :=
  ⟨rows.map (List.map ic), ok_ints h hl, by rw [ints_rows (fun l => .lst l)], by rw [sumL_int]; rfl⟩
theorem gcd_lt {t b : Int} (hb : b ≠ 0) (h : b.natAbs < 2 ^ 9000) : Int.gcd t b < 2 ^ 9000 :=
  Nat.lt_of_le_of_lt (Nat.le_of_dvd (Int.natAbs_pos.mpr hb) (Int.natAbs_dvd_natAbs.mpr (Int.gcd_dvd_right t b))) h
section
variable {P : Program} {w : World} {K : PySem.W.Frag} {mg : Str → Option Value} {base : Heap}
theorem gcd_loopN {t : TT} {a u : TS} {nx : De → Prop} {rt : Dt → Prop} {x y : Nat} {i j : Nat} {δ0 : De} (hi : i < δ0.length) (hj : j < δ0.length) (hij : i ≠ j)
    (ht : ∀ δ b, δ[j]? = some (some (Dt.int b)) → EvB t δ (!decide (b = 0)))
    (ha : ∀ δ a0 b0 nx, δ[i]? = some (some (Dt.int a0)) → δ[j]? = some (some (Dt.int b0)) → b0 ≠ 0 → nx ((δ.set i (some (.int b0))).set j (some (.int (a0.fmod b0)))) → StD a δ nx rt)
    (hu : StD u ((δ0.set i (some (.int (Int.gcd x y : Int)))).set j (some (.int 0))) nx rt) (h0 : δ0[i]? = some (some (.int x))) (h1 : δ0[j]? = some (some (.int y))) : StD (tSeq (tWhile t a) u) δ0 nx rt := by
  refine st_while (fun m δ => ∃ a b : Nat, δ = (δ0.set i (some (.int a))).set j (some (.int b)) ∧ b = m ∧ Int.gcd a b = Int.gcd x y) y ⟨x, y, ?_, rfl, rfl⟩ ?_
  · refine List.ext_getElem? fun k => ?_
    rw [List.getElem?_set, List.getElem?_set]
    by_cases e1 : j = k
    · subst e1; simp [hj, (List.getElem?_eq_some_iff.mp h1).2]
    · by_cases e2 : i = k
      · subst e2; simp [e1, hi, (List.getElem?_eq_some_iff.mp h0).2]
      · simp [e1, e2]
  · rintro m δ1 ⟨a1, b1, rfl, hm, hg⟩
    have g1 : ((δ0.set i (some (Dt.int a1))).set j (some (.int b1)))[j]? = some (some (.int b1)) := List.getElem?_set_self (by simpa using hj)
    have g0 : ((δ0.set i (some (Dt.int a1))).set j (some (.int b1)))[i]? = some (some (.int a1)) := by
      rw [List.getElem?_set_ne (Ne.symm hij), List.getElem?_set_self hi]
    refine ⟨_, ht _ b1 g1, fun hc => ?_, fun hc => ?_⟩
    · have hb : (b1 : Int) ≠ 0 := by simpa using hc
      have hf : (a1 : Int).fmod b1 = ((a1 % b1 : Nat) : Int) := by
        rw [Int.fmod_eq_emod_of_nonneg _ (Int.natCast_nonneg _)]
        exact (Int.natCast_emod a1 b1).symm
      refine ha _ a1 b1 _ g0 g1 hb ⟨a1 % b1, by rw [← hm]; exact Nat.mod_lt _ (by omega), b1, a1 % b1, ?_, rfl, ?_⟩
      · rw [List.set_comm _ _ (Ne.symm hij), List.set_set, List.set_set, hf]
      · rw [← hf]
        exact (gcd_step a1 b1).trans hg
    · have hb : b1 = 0 := by
        have : (b1 : Int) = 0 := by simpa using hc
        omega
      subst hb
      have e : (a1 : Int) = (Int.gcd x y : Int) := by rw [← hg]; simp
      rw [e]
      exact hu

abbrev s__law_low : Stmt := topS 47
abbrev N__law_low : List Str := ["_law_top", "_law_bottom", "_law_one", "_law_other"]
theorem sc__law_low : FnScope N__law_low ["_law_top", "_law_bottom"] (defScope s__law_low) := ⟨rfl, rfl, rfl, by decide +kernel, rfl, by decide +kernel, by decide +kernel⟩
theorem ok__law_low (B : Bn mg) (F : Fu K mg "_law_low" s__law_low ["_law_top", "_law_bottom"])  : Dn P w K mg base "_law_low" ["_law_top", "_law_bottom"] 1 (spP p__law_low) := by
  refine F.ok sc__law_low (by rintro _ _ ⟨t, b, _, _, rfl, rfl⟩; rfl) (fun f cdv A outer s H E hr => ?_)
  have hu := hu_of hr
  have hu64 := hr.units
  refine ⟨_, (pss_cons (ps_par (i := 2) (j := 3) rfl sc__law_low.nd rfl rfl (by decide) rfl rfl (pa_cons (pe_callB call_abs (by rfl) B.abs PyProof.Rows.boot_abs (pa_cons (pv 0) pa_nil)) (pa_cons (pe_callB call_abs (by rfl) B.abs PyProof.Rows.boot_abs (pa_cons (pv 1) pa_nil)) pa_nil)) rfl)
      (pss_cons (ps_while PassesOwn.never (pt_cmpR op_ne (pv 3) pe_int (nomark _)) (pss_one (ps_par (i := 2) (j := 3) rfl sc__law_low.nd rfl rfl (by decide) rfl rfl (pa_cons (pv 3) (pa_cons (pe_op op_modN (pv 2) (pv 3)) pa_nil)) rfl)))
      (pss_cons (ps_set (i := 2) sc__law_low.nd rfl (.inl rfl) (pe_ifExp (pt_cmpR op_gt (pv 1) pe_int (nomark _)) (pv 2) (pe_op op_sub pe_int (pv 2))))
      (pss_one (ps_ret (pe_ifExp (pt_cmpR op_eq (pv 1) (pv 2) (nomark _)) (pe_op op_fdivP (pv 0) (pv 2)) (pe_tup (pa_cons (pe_op op_fdivP (pv 0) (pv 2)) (pa_cons (pe_op op_fdivP (pv 1) (pv 2)) pa_nil))))))))), fun ds d hp => ?_⟩
  obtain ⟨t, b, hb, hgl, rfl, rfl⟩ := hp
  obtain ⟨m, hm, h1, h2, h3⟩ := low_of (top := t) hb
  have hmb : m.natAbs < 2 ^ 9000 := by
    rw [h3]
    split <;> simpa using hgl
  refine st_par (ea_cons (ev_abs (ea_cons (ev_var rfl) ea_nil)) (ea_cons (ev_abs (ea_cons (ev_var rfl) ea_nil)) ea_nil)) ?_
  refine gcd_loopN (i := 2) (j := 3) (x := t.natAbs) (y := b.natAbs) (by show 2 < 4; decide) (by show 3 < 4; decide) (by decide) (fun δ b h => eb_test (ev_neI (ev_var h) ev_int)) (fun δ a b nx h0 h1 hb hn => st_par1 (ea_cons (ev_var h1) (ea_cons (ev_mod (ev_var h0) (ev_var h1) hb) ea_nil)) hn) ?_ rfl rfl
  have eg : Int.gcd (t.natAbs : Int) (b.natAbs : Int) = Int.gcd t b := by simp [Int.gcd]
  rw [eg]
  refine st_set (d := .int m) (ev_if (eb_test (ev_gt (ev_var rfl) ev_int)) (fun hc => ?_) fun hc => ?_) ?_
  · have hc' : 0 < b := of_decide_eq_true hc
    refine ev_cast (ev_var (i := 2) rfl) ?_
    rw [h3, if_pos hc']
  · have hc' : ¬ 0 < b := of_decide_eq_false hc
    refine ev_cast (ev_sub ev_int (ev_var (i := 2) (d := .int (Int.gcd t b : Int)) rfl)) ?_
    rw [h3, if_neg hc', Int.zero_sub]
  · have ef1 : t.fdiv m = (Rat.divInt t b).num := fdiv_of hm (by rw [Int.mul_comm]; exact h1)
    have ef2 : b.fdiv m = ((Rat.divInt t b).den : Int) := fdiv_of hm (by rw [Int.mul_comm]; exact h2)
    have n1 := ev_fdiv (δ := [some (.int t), some (.int b), some (.int m), some (.int 0)]) (ev_var (i := 0) rfl) (ev_var (i := 2) rfl) (div_small (i := t) hm hmb)
    have n2 := ev_fdiv (δ := [some (.int t), some (.int b), some (.int m), some (.int 0)]) (ev_var (i := 1) rfl) (ev_var (i := 2) rfl) (div_small (i := b) hm hmb)
    rw [ef1] at n1
    rw [ef2] at n2
    have hiff : b = m ↔ ((Rat.divInt t b).den : Int) = 1 := by
      constructor
      · intro e
        have h4 : 1 * m = ((Rat.divInt t b).den : Int) * m := by rw [← h2, e]; simp
        exact (Int.eq_of_mul_eq_mul_right hm h4).symm
      · intro e
        rw [e, Int.one_mul] at h2
        exact h2
    refine st_ret (d := fr (Rat.divInt t b)) (ev_if (eb_test (ev_eqI (ev_var rfl) (ev_var rfl))) (fun hc => ?_) fun hc => ?_) rfl
    · have hc' := hiff.mp (of_decide_eq_true hc)
      have e : fr (Rat.divInt t b) = .int (Rat.divInt t b).num := if_pos (by omega)
      rw [e]
      exact n1
    · have hc' : ¬ ((Rat.divInt t b).den : Int) = 1 := fun z => of_decide_eq_false hc (hiff.mpr z)
      have e : fr (Rat.divInt t b) = .tup [.int (Rat.divInt t b).num, .int ((Rat.divInt t b).den : Int)] := if_neg (by omega)
      rw [e]
      exact ev_tup (ea_cons n1 (ea_cons n2 ea_nil))

abbrev s__law_two : Stmt := topS 48
abbrev N__law_two : List Str := ["_law_a"]
theorem sc__law_two : FnScope N__law_two ["_law_a"] (defScope s__law_two) := ⟨rfl, rfl, rfl, by decide +kernel, rfl, by decide +kernel, by decide +kernel⟩
theorem ok__law_two (B : Bn mg) (F : Fu K mg "_law_two" s__law_two ["_law_a"])  : Dn P w K mg base "_law_two" ["_law_a"] 1 (spP p__law_two) := by
  refine F.ok sc__law_two (by rintro _ _ ⟨q, rfl, rfl⟩; rfl) (fun f cdv A outer s H E hr => ?_)
  have hu := hu_of hr
  have hu64 := hr.units
  refine ⟨_, (pss_one (ps_ret (pe_ifExp (pt_val (pe_callB (kIsi (K := K) rfl) (by rfl) B.isinstance PyProof.Rows.boot_isinstance (pa_cons (pv 0) (pa_cons (pe_bltn (v := .ty "int") (by rfl) B.int PyProof.Rows.boot_int rfl) pa_nil)))) (pe_tup (pa_cons (pv 0) (pa_cons pe_int pa_nil))) (pv 0)))), fun ds d hp => ?_⟩
  obtain ⟨q, rfl, rfl⟩ := hp
  rcases fr_cases q with ⟨hd, e⟩ | ⟨hd, e⟩
  · rw [e]
    refine st_ret (ev_if (eb_B (ty_ii (ev_var rfl))) (fun _ => ev_tup (ea_cons (ev_var rfl) (ea_cons ev_int ea_nil))) fun z => Bool.noConfusion z) ?_
    rw [hd]; rfl
  · rw [e]
    exact st_ret (ev_if (eb_B (ty_ti (ev_var rfl))) (fun z => Bool.noConfusion z) fun _ => ev_var rfl) rfl

abbrev s__law_plus : Stmt := topS 49
abbrev N__law_plus : List Str := ["_law_a", "_law_b_here", "_law_one", "_law_two_here", "_law_three", "_law_four"]
theorem sc__law_plus : FnScope N__law_plus ["_law_a", "_law_b_here"] (defScope s__law_plus) := ⟨rfl, rfl, rfl, by decide +kernel, rfl, by decide +kernel, by decide +kernel⟩
theorem ok__law_plus (B : Bn mg) (F : Fu K mg "_law_plus" s__law_plus ["_law_a", "_law_b_here"]) (h__law_low : Dn P w K mg base "_law_low" ["_law_top", "_law_bottom"] 1 (spP p__law_low)) (h__law_two : Dn P w K mg base "_law_two" ["_law_a"] 1 (spP p__law_two)) : Dn P w K mg base "_law_plus" ["_law_a", "_law_b_here"] 2 (spP p__law_plus) := by
  refine F.ok sc__law_plus (by rintro _ _ ⟨a, b, _, _, rfl, rfl⟩; rfl) (fun f cdv A outer s H E hr => ?_)
  have hu := hu_of hr
  have hu64 := hr.units
  refine ⟨_, (pss_cons (ps_asg (pe_tup (pa_cons (pe_fn h__law_two (hr.mono (by decide)) (by rfl) (pa_cons (pv 0) pa_nil)) (pa_cons (pe_fn h__law_two (hr.mono (by decide)) (by rfl) (pa_cons (pv 1) pa_nil)) pa_nil))) (pg_tup rfl (pgs_cons (pg_tup rfl (pgs_cons (pg_name (i := 2) sc__law_plus.nd rfl (.inl rfl)) (pgs_cons (pg_name (i := 3) sc__law_plus.nd rfl (.inl rfl)) pgs_nil))) (pgs_cons (pg_tup rfl (pgs_cons (pg_name (i := 4) sc__law_plus.nd rfl (.inl rfl)) (pgs_cons (pg_name (i := 5) sc__law_plus.nd rfl (.inl rfl)) pgs_nil))) pgs_nil))))
      (pss_one (ps_ret (pe_fn h__law_low (hr.mono (by decide)) (by rfl) (pa_cons (pe_op op_add (pe_op op_mulW (pv 2) (pv 5)) (pe_op op_mulW (pv 4) (pv 3))) (pa_cons (pe_op op_mulW (pv 3) (pv 5)) pa_nil)))))), fun ds d hp => ?_⟩
  obtain ⟨a, b, ha, hb, rfl, rfl⟩ := hp
  refine st_asg (ev_tup (ea_cons (ev_call (ea_cons (ev_var rfl) ea_nil) ⟨_, rfl, rfl⟩) (ea_cons (ev_call (ea_cons (ev_var rfl) ea_nil) ⟨_, rfl, rfl⟩) ea_nil)))
    (tg_tup (tgs_cons (tg_tup (tgs_cons tg_name (tgs_cons tg_name tgs_nil)) rfl) (tgs_cons (tg_tup (tgs_cons tg_name (tgs_cons tg_name tgs_nil)) rfl) tgs_nil)) rfl) ?_
  refine st_ret (ev_call (ea_cons (ev_add (ev_mul (ev_var rfl) (ev_var rfl) (p8 (sm_num ha) (sm_den hb))) (ev_mul (ev_var rfl) (ev_var rfl) (p8 (sm_num hb) (sm_den ha)))) (ea_cons (ev_mul (ev_var rfl) (ev_var rfl) (p8 (sm_den ha) (sm_den hb))) ea_nil)) ⟨_, _, Int.mul_ne_zero (den_ne a) (den_ne b), gcd_lt (Int.mul_ne_zero (den_ne a) (den_ne b)) (den2 ha hb), rfl, rfl⟩) ?_
  rw [add_low]

abbrev s__law_by : Stmt := topS 50
abbrev N__law_by : List Str := ["_law_a", "_law_b_here", "_law_one", "_law_two_here", "_law_three", "_law_four"]
theorem sc__law_by : FnScope N__law_by ["_law_a", "_law_b_here"] (defScope s__law_by) := ⟨rfl, rfl, rfl, by decide +kernel, rfl, by decide +kernel, by decide +kernel⟩
theorem ok__law_by (B : Bn mg) (F : Fu K mg "_law_by" s__law_by ["_law_a", "_law_b_here"]) (h__law_low : Dn P w K mg base "_law_low" ["_law_top", "_law_bottom"] 1 (spP p__law_low)) (h__law_two : Dn P w K mg base "_law_two" ["_law_a"] 1 (spP p__law_two)) : Dn P w K mg base "_law_by" ["_law_a", "_law_b_here"] 2 (spP p__law_by) := by
  refine F.ok sc__law_by (by rintro _ _ ⟨a, b, _, _, rfl, rfl⟩; rfl) (fun f cdv A outer s H E hr => ?_)
  have hu := hu_of hr
  have hu64 := hr.units
  refine ⟨_, (pss_cons (ps_asg (pe_tup (pa_cons (pe_fn h__law_two (hr.mono (by decide)) (by rfl) (pa_cons (pv 0) pa_nil)) (pa_cons (pe_fn h__law_two (hr.mono (by decide)) (by rfl) (pa_cons (pv 1) pa_nil)) pa_nil))) (pg_tup rfl (pgs_cons (pg_tup rfl (pgs_cons (pg_name (i := 2) sc__law_by.nd rfl (.inl rfl)) (pgs_cons (pg_name (i := 3) sc__law_by.nd rfl (.inl rfl)) pgs_nil))) (pgs_cons (pg_tup rfl (pgs_cons (pg_name (i := 4) sc__law_by.nd rfl (.inl rfl)) (pgs_cons (pg_name (i := 5) sc__law_by.nd rfl (.inl rfl)) pgs_nil))) pgs_nil))))
      (pss_one (ps_ret (pe_fn h__law_low (hr.mono (by decide)) (by rfl) (pa_cons (pe_op op_mulW (pv 2) (pv 4)) (pa_cons (pe_op op_mulW (pv 3) (pv 5)) pa_nil)))))), fun ds d hp => ?_⟩
  obtain ⟨a, b, ha, hb, rfl, rfl⟩ := hp
  refine st_asg (ev_tup (ea_cons (ev_call (ea_cons (ev_var rfl) ea_nil) ⟨_, rfl, rfl⟩) (ea_cons (ev_call (ea_cons (ev_var rfl) ea_nil) ⟨_, rfl, rfl⟩) ea_nil)))
    (tg_tup (tgs_cons (tg_tup (tgs_cons tg_name (tgs_cons tg_name tgs_nil)) rfl) (tgs_cons (tg_tup (tgs_cons tg_name (tgs_cons tg_name tgs_nil)) rfl) tgs_nil)) rfl) ?_
  refine st_ret (ev_call (ea_cons (ev_mul (ev_var rfl) (ev_var rfl) (p8 (sm_num ha) (sm_num hb))) (ea_cons (ev_mul (ev_var rfl) (ev_var rfl) (p8 (sm_den ha) (sm_den hb))) ea_nil)) ⟨_, _, Int.mul_ne_zero (den_ne a) (den_ne b), gcd_lt (Int.mul_ne_zero (den_ne a) (den_ne b)) (den2 ha hb), rfl, rfl⟩) ?_
  rw [mul_low]

abbrev s__law_over : Stmt := topS 51
abbrev N__law_over : List Str := ["_law_a", "_law_b_here", "_law_one", "_law_two_here", "_law_three", "_law_four"]
theorem sc__law_over : FnScope N__law_over ["_law_a", "_law_b_here"] (defScope s__law_over) := ⟨rfl, rfl, rfl, by decide +kernel, rfl, by decide +kernel, by decide +kernel⟩
theorem ok__law_over (B : Bn mg) (F : Fu K mg "_law_over" s__law_over ["_law_a", "_law_b_here"]) (h__law_low : Dn P w K mg base "_law_low" ["_law_top", "_law_bottom"] 1 (spP p__law_low)) (h__law_two : Dn P w K mg base "_law_two" ["_law_a"] 1 (spP p__law_two)) : Dn P w K mg base "_law_over" ["_law_a", "_law_b_here"] 2 (spP p__law_over) := by
  refine F.ok sc__law_over (by rintro _ _ ⟨a, b, _, _, _, rfl, rfl⟩; rfl) (fun f cdv A outer s H E hr => ?_)
  have hu := hu_of hr
  have hu64 := hr.units
  refine ⟨_, (pss_cons (ps_asg (pe_tup (pa_cons (pe_fn h__law_two (hr.mono (by decide)) (by rfl) (pa_cons (pv 0) pa_nil)) (pa_cons (pe_fn h__law_two (hr.mono (by decide)) (by rfl) (pa_cons (pv 1) pa_nil)) pa_nil))) (pg_tup rfl (pgs_cons (pg_tup rfl (pgs_cons (pg_name (i := 2) sc__law_over.nd rfl (.inl rfl)) (pgs_cons (pg_name (i := 3) sc__law_over.nd rfl (.inl rfl)) pgs_nil))) (pgs_cons (pg_tup rfl (pgs_cons (pg_name (i := 4) sc__law_over.nd rfl (.inl rfl)) (pgs_cons (pg_name (i := 5) sc__law_over.nd rfl (.inl rfl)) pgs_nil))) pgs_nil))))
      (pss_one (ps_ret (pe_fn h__law_low (hr.mono (by decide)) (by rfl) (pa_cons (pe_op op_mulW (pv 2) (pv 5)) (pa_cons (pe_op op_mulW (pv 3) (pv 4)) pa_nil)))))), fun ds d hp => ?_⟩
  obtain ⟨a, b, ha, hb, h0, rfl, rfl⟩ := hp
  have hn : b.num ≠ 0 := fun z => h0 (Rat.num_eq_zero.mp z)
  have hnb : ((a.den : Int) * b.num).natAbs < 2 ^ 9000 := Nat.lt_of_lt_of_le (wide_lt (sm_den ha) (sm_num hb)) (Nat.pow_le_pow_right (by decide) (by decide))
  refine st_asg (ev_tup (ea_cons (ev_call (ea_cons (ev_var rfl) ea_nil) ⟨_, rfl, rfl⟩) (ea_cons (ev_call (ea_cons (ev_var rfl) ea_nil) ⟨_, rfl, rfl⟩) ea_nil)))
    (tg_tup (tgs_cons (tg_tup (tgs_cons tg_name (tgs_cons tg_name tgs_nil)) rfl) (tgs_cons (tg_tup (tgs_cons tg_name (tgs_cons tg_name tgs_nil)) rfl) tgs_nil)) rfl) ?_
  refine st_ret (ev_call (ea_cons (ev_mul (ev_var rfl) (ev_var rfl) (p8 (sm_num ha) (sm_den hb))) (ea_cons (ev_mul (ev_var rfl) (ev_var rfl) (p8 (sm_den ha) (sm_num hb))) ea_nil)) ⟨_, _, Int.mul_ne_zero (den_ne a) hn, gcd_lt (Int.mul_ne_zero (den_ne a) hn) hnb, rfl, rfl⟩) ?_
  rw [div_low _ _ h0]

abbrev s__law_all : Stmt := topS 52
abbrev N__law_all : List Str := ["_law_rows", "_law_found", "_law_row", "_law_much", "_law_one"]
theorem sc__law_all : FnScope N__law_all ["_law_rows"] (defScope s__law_all) := ⟨rfl, rfl, rfl, by decide +kernel, rfl, by decide +kernel, by decide +kernel⟩
theorem ok__law_all (B : Bn mg) (F : Fu K mg "_law_all" s__law_all ["_law_rows"]) (h__law_plus : Dn P w K mg base "_law_plus" ["_law_a", "_law_b_here"] 2 (spP p__law_plus)) (h__law_by : Dn P w K mg base "_law_by" ["_law_a", "_law_b_here"] 2 (spP p__law_by)) : Dn P w K mg base "_law_all" ["_law_rows"] 3 (spP p__law_all) := by
  refine F.ok sc__law_all (by rintro _ _ ⟨rows, _, rfl, rfl⟩; rfl) (fun f cdv A outer s H E hr => ?_)
  have hu := hu_of hr
  have hu64 := hr.units
  refine ⟨_, (pss_cons (ps_set (i := 1) sc__law_all.nd rfl (.inl rfl) pe_int)
      (pss_cons (ps_for PassesOwn.never rfl (kpiL (K := K) rfl (pv 0)) (pg_name (i := 2) sc__law_all.nd rfl (.inl rfl)) (pss_cons (ps_set (i := 3) sc__law_all.nd rfl (.inl rfl) pe_int)
      (pss_cons (ps_for PassesOwn.never rfl (kpiL (K := K) rfl (pv 2)) (pg_name (i := 4) sc__law_all.nd rfl (.inl rfl)) (pss_one (ps_set (i := 3) sc__law_all.nd rfl (.inl rfl) (pe_fn h__law_by (hr.mono (by decide)) (by rfl) (pa_cons (pv 3) (pa_cons (pv 4) pa_nil))))))
      (pss_one (ps_set (i := 1) sc__law_all.nd rfl (.inl rfl) (pe_fn h__law_plus (hr.mono (by decide)) (by rfl) (pa_cons (pv 1) (pa_cons (pv 3) pa_nil))))))))
      (pss_one (ps_ret (pv 1))))), fun ds d hp => ?_⟩
  obtain ⟨rows, h, rfl, rfl⟩ := hp
  exact sum_loop (R := Dt.lst) h (fun δ L e => src_list (ev_var e)) (fun δ L e => src_list (ev_var e)) (fun δ a b ha hb e1 e2 => ev_call (ea_cons (ev_var e1) (ea_cons (ev_var e2) ea_nil)) ⟨a, b, ha, hb, rfl, rfl⟩) (fun δ a b ha hb e1 e2 => ev_call (ea_cons (ev_var e1) (ea_cons (ev_var e2) ea_nil)) ⟨a, b, ha, hb, rfl, rfl⟩)

abbrev s__law_b : Stmt := topS 53
abbrev N__law_b : List Str := ["_law_curve", "_law_a", "_law_b_here", "_law_c", "_law_d_here", "_law_e", "_law_two_here", "_law_four", "_law_six"]
theorem sc__law_b : FnScope N__law_b ["_law_curve"] (defScope s__law_b) := ⟨rfl, rfl, rfl, by decide +kernel, rfl, by decide +kernel, by decide +kernel⟩
theorem ok__law_b (B : Bn mg) (F : Fu K mg "_law_b" s__law_b ["_law_curve"]) (h__law_all : Dn P w K mg base "_law_all" ["_law_rows"] 3 (spP p__law_all)) : Dn P w K mg base "_law_b" ["_law_curve"] 4 (spP p__law_b) := by
  refine F.ok sc__law_b (by rintro _ _ ⟨c, _, rfl, rfl⟩; rfl) (fun f cdv A outer s H E hr => ?_)
  have hu := hu_of hr
  have hu64 := hr.units
  refine ⟨_, (pss_cons (ps_asg (pv 0) (pg_tup rfl (pgs_cons (pg_name (i := 1) sc__law_b.nd rfl (.inl rfl)) (pgs_cons (pg_name (i := 2) sc__law_b.nd rfl (.inl rfl)) (pgs_cons (pg_name (i := 3) sc__law_b.nd rfl (.inl rfl)) (pgs_cons (pg_name (i := 4) sc__law_b.nd rfl (.inl rfl)) (pgs_cons (pg_name (i := 5) sc__law_b.nd rfl (.inl rfl)) pgs_nil)))))))
      (pss_cons (ps_par3 (i := 6) (j := 7) (l := 8) rfl sc__law_b.nd rfl rfl rfl (by decide) (by decide) (by decide) rfl rfl rfl (pa_cons (pe_fn h__law_all (hr.mono (by decide)) (by rfl) (pa_cons (pe_lst (pa_cons (pe_lst (pa_cons (pv 1) (pa_cons (pv 1) pa_nil))) (pa_cons (pe_lst (pa_cons pe_int (pa_cons (pv 2) pa_nil))) pa_nil))) pa_nil)) (pa_cons (pe_fn h__law_all (hr.mono (by decide)) (by rfl) (pa_cons (pe_lst (pa_cons (pe_lst (pa_cons pe_int (pa_cons (pv 4) pa_nil))) (pa_cons (pe_lst (pa_cons (pv 1) (pa_cons (pv 3) pa_nil))) pa_nil))) pa_nil)) (pa_cons (pe_fn h__law_all (hr.mono (by decide)) (by rfl) (pa_cons (pe_lst (pa_cons (pe_lst (pa_cons (pv 3) (pa_cons (pv 3) pa_nil))) (pa_cons (pe_lst (pa_cons pe_int (pa_cons (pv 5) pa_nil))) pa_nil))) pa_nil)) pa_nil))) rfl)
      (pss_one (ps_ret (pe_tup (pa_cons (pv 6) (pa_cons (pv 7) (pa_cons (pv 8) (pa_cons (pe_fn h__law_all (hr.mono (by decide)) (by rfl) (pa_cons (pe_lst (pa_cons (pe_lst (pa_cons (pv 1) (pa_cons (pv 1) (pa_cons (pv 5) pa_nil)))) (pa_cons (pe_lst (pa_cons pe_int (pa_cons (pv 2) (pa_cons (pv 5) pa_nil)))) (pa_cons (pe_lst (pa_cons (pe_op op_sub pe_int pe_int) (pa_cons (pv 1) (pa_cons (pv 3) (pa_cons (pv 4) pa_nil))))) (pa_cons (pe_lst (pa_cons (pv 2) (pa_cons (pv 3) (pa_cons (pv 3) pa_nil)))) (pa_cons (pe_lst (pa_cons (pe_op op_sub pe_int pe_int) (pa_cons (pv 4) (pa_cons (pv 4) pa_nil)))) pa_nil)))))) pa_nil)) pa_nil))))))))), fun ds d hp => ?_⟩
  obtain ⟨c, h, rfl, rfl⟩ := hp
  refine st_asg (ev_var rfl) (tg_tup (tgs_cons tg_name (tgs_cons tg_name (tgs_cons tg_name (tgs_cons tg_name (tgs_cons tg_name tgs_nil))))) rfl) ?_
  refine st_par3 (ea_cons (ev_call (ea_cons (ev_lst (ea_cons (ev_lst (ea_cons (ev_var rfl) (ea_cons (ev_var rfl) ea_nil))) (ea_cons (ev_lst (ea_cons ev_int (ea_cons (ev_var rfl) ea_nil))) ea_nil))) ea_nil) (law_int (rB2 c) (bB2 h))) (ea_cons (ev_call (ea_cons (ev_lst (ea_cons (ev_lst (ea_cons ev_int (ea_cons (ev_var rfl) ea_nil))) (ea_cons (ev_lst (ea_cons (ev_var rfl) (ea_cons (ev_var rfl) ea_nil))) ea_nil))) ea_nil) (law_int (rB4 c) (bB4 h))) (ea_cons (ev_call (ea_cons (ev_lst (ea_cons (ev_lst (ea_cons (ev_var rfl) (ea_cons (ev_var rfl) ea_nil))) (ea_cons (ev_lst (ea_cons ev_int (ea_cons (ev_var rfl) ea_nil))) ea_nil))) ea_nil) (law_int (rB6 c) (bB6 h))) ea_nil))) ?_
  refine st_ret (ev_tup (ea_cons (ev_var rfl) (ea_cons (ev_var rfl) (ea_cons (ev_var rfl) (ea_cons (ev_call (ea_cons (ev_lst (ea_cons (ev_lst (ea_cons (ev_var rfl) (ea_cons (ev_var rfl) (ea_cons (ev_var rfl) ea_nil)))) (ea_cons (ev_lst (ea_cons ev_int (ea_cons (ev_var rfl) (ea_cons (ev_var rfl) ea_nil)))) (ea_cons (ev_lst (ea_cons (ev_sub ev_int ev_int) (ea_cons (ev_var rfl) (ea_cons (ev_var rfl) (ea_cons (ev_var rfl) ea_nil))))) (ea_cons (ev_lst (ea_cons (ev_var rfl) (ea_cons (ev_var rfl) (ea_cons (ev_var rfl) ea_nil)))) (ea_cons (ev_lst (ea_cons (ev_sub ev_int ev_int) (ea_cons (ev_var rfl) (ea_cons (ev_var rfl) ea_nil)))) ea_nil)))))) ea_nil) (law_int (rB8 c) (bB8 h))) ea_nil))))) ?_
  rw [sB2, sB4, sB6, sB8]
  rfl

abbrev s__law_d : Stmt := topS 54
abbrev N__law_d : List Str := ["_law_curve", "_law_two_here", "_law_four", "_law_six", "_law_eight", "_law_rows"]
theorem sc__law_d : FnScope N__law_d ["_law_curve"] (defScope s__law_d) := ⟨rfl, rfl, rfl, by decide +kernel, rfl, by decide +kernel, by decide +kernel⟩
theorem ok__law_d (B : Bn mg) (F : Fu K mg "_law_d" s__law_d ["_law_curve"]) (h__law_b : Dn P w K mg base "_law_b" ["_law_curve"] 4 (spP p__law_b)) (h__law_all : Dn P w K mg base "_law_all" ["_law_rows"] 3 (spP p__law_all)) : Dn P w K mg base "_law_d" ["_law_curve"] 5 (spP p__law_d) := by
  refine F.ok sc__law_d (by rintro _ _ ⟨c, _, rfl, rfl⟩; rfl) (fun f cdv A outer s H E hr => ?_)
  have hu := hu_of hr
  have hu64 := hr.units
  refine ⟨_, (pss_cons (ps_asg (pe_fn h__law_b (hr.mono (by decide)) (by rfl) (pa_cons (pv 0) pa_nil)) (pg_tup rfl (pgs_cons (pg_name (i := 1) sc__law_d.nd rfl (.inl rfl)) (pgs_cons (pg_name (i := 2) sc__law_d.nd rfl (.inl rfl)) (pgs_cons (pg_name (i := 3) sc__law_d.nd rfl (.inl rfl)) (pgs_cons (pg_name (i := 4) sc__law_d.nd rfl (.inl rfl)) pgs_nil))))))
      (pss_cons (ps_set (i := 5) sc__law_d.nd rfl (.inl rfl) (pe_lst (pa_cons (pe_lst (pa_cons pe_int (pa_cons (pv 1) (pa_cons (pv 2) (pa_cons (pv 3) pa_nil))))) (pa_cons (pe_lst (pa_cons (pe_op op_sub pe_int pe_int) (pa_cons (pv 1) (pa_cons (pv 1) (pa_cons (pv 4) pa_nil))))) (pa_cons (pe_lst (pa_cons (pe_op op_sub pe_int pe_int) (pa_cons (pv 2) (pa_cons (pv 2) (pa_cons (pv 2) pa_nil))))) (pa_cons (pe_lst (pa_cons (pe_op op_sub pe_int pe_int) (pa_cons (pv 3) (pa_cons (pv 3) pa_nil)))) pa_nil))))))
      (pss_one (ps_ret (pe_fn h__law_all (hr.mono (by decide)) (by rfl) (pa_cons (pv 5) pa_nil)))))), fun ds d hp => ?_⟩
  obtain ⟨c, h, rfl, rfl⟩ := hp
  refine st_asg (ev_call (ea_cons (ev_var rfl) ea_nil) ⟨c, h, rfl, rfl⟩) (tg_tup (tgs_cons tg_name (tgs_cons tg_name (tgs_cons tg_name (tgs_cons tg_name tgs_nil)))) rfl) ?_
  refine st_set (ev_lst (ea_cons (ev_lst (ea_cons ev_int (ea_cons (ev_var rfl) (ea_cons (ev_var rfl) (ea_cons (ev_var rfl) ea_nil))))) (ea_cons (ev_lst (ea_cons (ev_sub ev_int ev_int) (ea_cons (ev_var rfl) (ea_cons (ev_var rfl) (ea_cons (ev_var rfl) ea_nil))))) (ea_cons (ev_lst (ea_cons (ev_sub ev_int ev_int) (ea_cons (ev_var rfl) (ea_cons (ev_var rfl) (ea_cons (ev_var rfl) ea_nil))))) (ea_cons (ev_lst (ea_cons (ev_sub ev_int ev_int) (ea_cons (ev_var rfl) (ea_cons (ev_var rfl) ea_nil)))) ea_nil))))) ?_
  refine st_ret (ev_call (ea_cons (ev_var rfl) ea_nil) (law_int (rD c) (bD h))) ?_
  rw [sD]

theorem mulb {x y : Int} {n : Nat} (h : y.natAbs < 2 ^ n) (hx : Nat.blt x.natAbs 1024 = true) (hn : n ≤ 999000) : CMulW x y := mul_ok (a := 10) (b := n) (by simpa [Nat.blt_eq] using hx) h (by omega)

abbrev s__law_forms : Stmt := topS 61
abbrev N__law_forms : List Str := ["_law_curve", "_law_two_here", "_law_four", "_law_six", "_law_eight"]
theorem sc__law_forms : FnScope N__law_forms ["_law_curve"] (defScope s__law_forms) := ⟨rfl, rfl, rfl, by decide +kernel, rfl, by decide +kernel, by decide +kernel⟩
theorem ok__law_forms (B : Bn mg) (F : Fu K mg "_law_forms" s__law_forms ["_law_curve"]) (h__law_b : Dn P w K mg base "_law_b" ["_law_curve"] 4 (spP p__law_b)) : Dn P w K mg base "_law_forms" ["_law_curve"] 5 (spP p__law_forms) := by
  refine F.ok sc__law_forms (by rintro _ _ ⟨c, _, rfl, rfl⟩; rfl) (fun f cdv A outer s H E hr => ?_)
  have hu := hu_of hr
  have hu64 := hr.units
  refine ⟨_, (pss_cons (ps_asg (pe_fn h__law_b (hr.mono (by decide)) (by rfl) (pa_cons (pv 0) pa_nil)) (pg_tup rfl (pgs_cons (pg_name (i := 1) sc__law_forms.nd rfl (.inl rfl)) (pgs_cons (pg_name (i := 2) sc__law_forms.nd rfl (.inl rfl)) (pgs_cons (pg_name (i := 3) sc__law_forms.nd rfl (.inl rfl)) (pgs_cons (pg_name (i := 4) sc__law_forms.nd rfl (.inl rfl)) pgs_nil))))))
      (pss_one (ps_ret (pe_tup (pa_cons (pe_lst (pa_cons pe_int (pa_cons pe_int (pa_cons (pe_op op_sub pe_int (pv 2)) (pa_cons (pe_op op_sub pe_int (pe_op op_mulW pe_int (pv 3))) (pa_cons (pe_op op_sub pe_int (pv 4)) pa_nil)))))) (pa_cons (pe_lst (pa_cons pe_int (pa_cons pe_int (pa_cons (pv 1) (pa_cons (pe_op op_mulW pe_int (pv 2)) (pa_cons (pv 3) pa_nil)))))) pa_nil)))))), fun ds d hp => ?_⟩
  obtain ⟨c, h, rfl, rfl⟩ := hp
  refine st_asg (ev_call (ea_cons (ev_var rfl) ea_nil) ⟨c, h, rfl, rfl⟩) (tg_tup (tgs_cons tg_name (tgs_cons tg_name (tgs_cons tg_name (tgs_cons tg_name tgs_nil)))) rfl) ?_
  refine st_ret (ev_tup (ea_cons (ev_lst (ea_cons ev_int (ea_cons ev_int (ea_cons (ev_sub ev_int (ev_var rfl)) (ea_cons (ev_sub ev_int (ev_mul ev_int (ev_var rfl) (mulb h.b6 rfl (by decide)))) (ea_cons (ev_sub ev_int (ev_var rfl)) ea_nil)))))) (ea_cons (ev_lst (ea_cons ev_int (ea_cons ev_int (ea_cons (ev_var rfl) (ea_cons (ev_mul ev_int (ev_var rfl) (mulb h.b4 rfl (by decide))) (ea_cons (ev_var rfl) ea_nil)))))) ea_nil))) ?_
  have e1 : 0 - c.b4 = -c.b4 := by omega
  have e2 : 0 - 2 * c.b6 = -2 * c.b6 := by omega
  have e3 : 0 - c.b8 = -c.b8 := by omega
  rw [e1, e2, e3]
  rfl

abbrev s__law_common : Stmt := topS 63
abbrev N__law_common : List Str := ["_law_one", "_law_other"]
theorem sc__law_common : FnScope N__law_common ["_law_one", "_law_other"] (defScope s__law_common) := ⟨rfl, rfl, rfl, by decide +kernel, rfl, by decide +kernel, by decide +kernel⟩
theorem ok__law_common (B : Bn mg) (F : Fu K mg "_law_common" s__law_common ["_law_one", "_law_other"])  : Dn P w K mg base "_law_common" ["_law_one", "_law_other"] 1 (spP p__law_common) := by
  refine F.ok sc__law_common (by rintro _ _ ⟨x, y, rfl, rfl⟩; rfl) (fun f cdv A outer s H E hr => ?_)
  have hu := hu_of hr
  have hu64 := hr.units
  refine ⟨_, (pss_cons (ps_while PassesOwn.never (pt_cmpR op_ne (pv 1) pe_int (nomark _)) (pss_one (ps_par (i := 0) (j := 1) rfl sc__law_common.nd rfl rfl (by decide) rfl rfl (pa_cons (pv 1) (pa_cons (pe_op op_modN (pv 0) (pv 1)) pa_nil)) rfl)))
      (pss_one (ps_ret (pe_callB call_abs (by rfl) B.abs PyProof.Rows.boot_abs (pa_cons (pv 0) pa_nil))))), fun ds d hp => ?_⟩
  obtain ⟨x, y, rfl, rfl⟩ := hp
  refine gcd_loop (i := 0) (j := 1) (x := x) (y := y) (by show 0 < 2; decide) (by show 1 < 2; decide) (by decide) (fun δ b h => eb_test (ev_neI (ev_var h) ev_int)) (fun δ a b nx h0 h1 hb hn => st_par1 (ea_cons (ev_var h1) (ea_cons (ev_mod (ev_var h0) (ev_var h1) hb) ea_nil)) hn) (fun z hz => ?_) rfl rfl
  exact st_ret (ev_abs (ea_cons (ev_var rfl) ea_nil)) (by rw [hz])

def lowK (a b : List Int) : Dt → Dt
  | .int 0 => .int (absL a : Int)
  | .int 2 => .int (absL b : Int)
  | d => d
theorem sum_ints {δ : De} {wi : TI} {K : PySem.W.Frag} {i : Nat} {vs : List Nat} {r : List Int} (hs : SrcD wi δ (zs r)) (hl : r.length ≤ 100) (hi : i ∈ vs) (hlen : i < (wipeD δ vs).length) :
    EvD (tCB (rSum K) (tCons (tLc wi (gName i) tYes (tCB (fun xs H Q => ∃ i, xs = [.int i] ∧ Q (.int (if i < 0 then -i else i)) H) (tCons (tVar i) tNil)) vs) tNil)) δ (.int (absL r : Int)) := by
  rw [← sum_abs]
  exact ev_sum (ea_cons (ev_cast (ev_lcm hs absD (by rw [zs_len]; omega) (fun d hd => by
    obtain ⟨x, hx, rfl⟩ := mem_zs hd
    exact ⟨_, tc_name hi, ev_abs (ea_cons (ev_var (by rw [List.getElem?_set_self hlen])) ea_nil)⟩)) (by rw [map_absD])) ea_nil)

abbrev s__law_bounds : Stmt := topS 62
abbrev N__law_bounds : List Str := ["_law_curve", "_law_paper", "_law_low_here", "_law_k", "_law_form", "_law_one"]
theorem sc__law_bounds : FnScope N__law_bounds ["_law_curve", "_law_paper"] (defScope s__law_bounds) := ⟨rfl, rfl, rfl, by decide +kernel, rfl, by decide +kernel, by decide +kernel⟩
theorem ok__law_bounds (B : Bn mg) (F : Fu K mg "_law_bounds" s__law_bounds ["_law_curve", "_law_paper"]) (h__law_forms : Dn P w K mg base "_law_forms" ["_law_curve"] 5 (spP p__law_forms)) : Dn P w K mg base "_law_bounds" ["_law_curve", "_law_paper"] 6 (spP p__law_bounds) := by
  refine F.ok sc__law_bounds (by rintro _ _ ⟨c, p, _, _, rfl, rfl⟩; rfl) (fun f cdv A outer s H E hr => ?_)
  have hu := hu_of hr
  have hu64 := hr.units
  refine ⟨_, (pss_cons (ps_set (i := 2) sc__law_bounds.nd rfl (.inl rfl) (pe_callB (kMax (K := K) rfl rfl) (by rfl) B.max PyProof.Rows.boot_max (pa_cons (pe_lc (own := [("_law_k", 3)]) rfl sc__law_bounds.nd (kpiT (K := K) rfl (pe_tup (pa_cons pe_int (pa_cons pe_int pa_nil)))) (blkOk_by (own := [("_law_k", 3)]) (N := N__law_bounds) (sc := (defScope s__law_bounds)) (by decide +kernel)) (fun _ _ _ _ _ => (pg_name (i := 3) sc__law_bounds.nd rfl (.inl rfl))) (fun _ _ _ _ _ => pts_nil) (fun _ _ _ _ _ => (pe_callB (kSum (K := K) rfl rfl) (by rfl) B.sum PyProof.Rows.boot_sum (pa_cons (pe_lc (own := [("_law_one", 5)]) rfl sc__law_bounds.nd (kpiT (K := K) rfl (pe_op (kCatT (K := K) rfl) (pe_ix (kIxT (K := K) rfl) (pv 1) (pv 3) (fun _ _ => rfl)) (pe_ix (kIxT (K := K) rfl) (pv 1) (pe_op op_add (pv 3) pe_int) (fun _ _ => rfl)))) (blkOk_by (own := [("_law_one", 5)]) (N := N__law_bounds) (sc := { kind := .function, names := [(Str.ofString ".0", NameKind.local), (Str.ofString "_law_k", NameKind.local), (Str.ofString "sum", NameKind.globalImplicit), (Str.ofString "_law_paper", NameKind.cell)], isGenerator := false, isCoroutine := false }) (by decide +kernel)) (fun _ _ _ _ _ => (pg_name (i := 5) sc__law_bounds.nd rfl (.inl rfl))) (fun _ _ _ _ _ => pts_nil) (fun _ _ _ _ _ => (pe_callB call_abs (by rfl) B.abs PyProof.Rows.boot_abs (pa_cons (pv 5) pa_nil)))) pa_nil)))) pa_nil)))
      (pss_one (ps_ret (pe_tup (pa_cons (pv 2) (pa_cons (pe_callB (kMax (K := K) rfl rfl) (by rfl) B.max PyProof.Rows.boot_max (pa_cons (pe_lc (own := [("_law_form", 4)]) rfl sc__law_bounds.nd (kpiT (K := K) rfl (pe_fn h__law_forms (hr.mono (by decide)) (by rfl) (pa_cons (pv 0) pa_nil))) (blkOk_by (own := [("_law_form", 4)]) (N := N__law_bounds) (sc := (defScope s__law_bounds)) (by decide +kernel)) (fun _ _ _ _ _ => (pg_name (i := 4) sc__law_bounds.nd rfl (.inl rfl))) (fun _ _ _ _ _ => pts_nil) (fun _ _ _ _ _ => (pe_callB (kSum (K := K) rfl rfl) (by rfl) B.sum PyProof.Rows.boot_sum (pa_cons (pe_lc (own := [("_law_one", 5)]) rfl sc__law_bounds.nd (kpiL (K := K) rfl (pv 4)) (blkOk_by (own := [("_law_one", 5)]) (N := N__law_bounds) (sc := { kind := .function, names := [(Str.ofString ".0", NameKind.local), (Str.ofString "_law_form", NameKind.local), (Str.ofString "sum", NameKind.globalImplicit)], isGenerator := false, isCoroutine := false }) (by decide +kernel)) (fun _ _ _ _ _ => (pg_name (i := 5) sc__law_bounds.nd rfl (.inl rfl))) (fun _ _ _ _ _ => pts_nil) (fun _ _ _ _ _ => (pe_callB call_abs (by rfl) B.abs PyProof.Rows.boot_abs (pa_cons (pv 5) pa_nil)))) pa_nil)))) pa_nil)) pa_nil)))))), fun ds d hp => ?_⟩
  obtain ⟨c, p, h, hl, rfl, rfl⟩ := hp
  obtain ⟨a0, a1, a2, a3, a4, a5, a6, a7, a8, a9, a10, a11, a12, a13, a14, a15, a16, rfl⟩ := list17 hl
  refine st_set (d := .int (lowN [a0, a1, a2, a3, a4, a5, a6, a7, a8, a9, a10, a11, a12, a13, a14, a15, a16] : Int)) (ev_cast (ev_max (ns := [(absL [a1, a2, a3, a4, a5, a6, a7, a8] : Int), (absL [a9, a10, a11, a12, a13, a14, a15, a16] : Int)]) (ea_cons (ev_cast (ev_lcm (ds := [.int 0, .int 2]) (src_tup (ev_tup (ea_cons ev_int (ea_cons ev_int ea_nil)))) (lowK [a1, a2, a3, a4, a5, a6, a7, a8] [a9, a10, a11, a12, a13, a14, a15, a16]) (Nat.le_of_ble_eq_true rfl) (fun d hd => ?_)) ?_) ea_nil) (Nat.zero_lt_succ _) (fun k h1 h2 => max_two h1 h2)) ?_) ?_
  · refine ⟨_, tc_name (by simp), ?_⟩
    have : d = .int 0 ∨ d = .int 2 := by simpa using hd
    rcases this with rfl | rfl
    · exact sum_ints (r := [a1, a2, a3, a4, a5, a6, a7, a8]) (src_tup (ev_catT (ds := zs [a1, a2, a3, a4]) (es := zs [a5, a6, a7, a8]) (ev_ixT (n := 0) (ev_var rfl) (ev_var rfl) rfl rfl) (ev_ixT (n := 1) (ev_var rfl) (ev_add (ev_var rfl) ev_int) rfl rfl) (by simp [zs]) (by simp [zs]) (by simp [zs]))) (Nat.le_of_ble_eq_true rfl) (by simp) (Nat.lt_of_sub_eq_succ rfl)
    · exact sum_ints (r := [a9, a10, a11, a12, a13, a14, a15, a16]) (src_tup (ev_catT (ds := zs [a9, a10, a11, a12]) (es := zs [a13, a14, a15, a16]) (ev_ixT (n := 2) (ev_var rfl) (ev_var rfl) rfl rfl) (ev_ixT (n := 3) (ev_var rfl) (ev_add (ev_var rfl) ev_int) rfl rfl) (by simp [zs]) (by simp [zs]) (by simp [zs]))) (Nat.le_of_ble_eq_true rfl) (by simp) (Nat.lt_of_sub_eq_succ rfl)
  · rfl
  · show Dt.int _ = Dt.int _
    congr 1
    show _ = ((max (absL [a1, a2, a3, a4, a5, a6, a7, a8]) (absL [a9, a10, a11, a12, a13, a14, a15, a16]) : Nat) : Int)
    omega
  refine st_ret (ev_tup (ea_cons (ev_var rfl) (ea_cons (ev_cast (ev_max (ns := [(absL (formF c.b4 c.b6 c.b8) : Int), (absL (formG c.b2 c.b4 c.b6) : Int)]) (ea_cons (ev_cast (ev_lcm (src_tup (ev_call (ea_cons (ev_var rfl) ea_nil) ⟨c, h, rfl, rfl⟩)) sumAbsD (Nat.le_of_ble_eq_true rfl) (fun d hd => ?_)) ?_) ea_nil) (Nat.zero_lt_succ _) (fun k h1 h2 => max_two h1 h2)) (d' := .int (highN c.b2 c.b4 c.b6 c.b8 : Int)) ?_) ea_nil))) rfl
  · have hd' : ∃ r : List Int, d = .lst (zs r) ∧ r.length ≤ 100 := by
      have : d = .lst (zs (formF c.b4 c.b6 c.b8)) ∨ d = .lst (zs (formG c.b2 c.b4 c.b6)) := by simpa using hd
      rcases this with rfl | rfl
      · exact ⟨_, rfl, Nat.le_of_ble_eq_true rfl⟩
      · exact ⟨_, rfl, Nat.le_of_ble_eq_true rfl⟩
    obtain ⟨r, rfl, hr⟩ := hd'
    refine ⟨_, tc_name (by simp), ?_⟩
    rw [sumAbsD_zs]
    exact sum_ints (src_list (ev_var rfl)) hr (by simp) (Nat.lt_of_sub_eq_succ rfl)
  · rw [List.map_cons, List.map_cons, List.map_nil, sumAbsD_zs, sumAbsD_zs]
    rfl
  · show Dt.int _ = Dt.int _
    congr 1
    show _ = ((max (absL (formF c.b4 c.b6 c.b8)) (absL (formG c.b2 c.b4 c.b6)) : Nat) : Int)
    omega

end
end Cw
end
section
set_option linter.all false
set_option maxRecDepth 100000
set_option maxHeartbeats 2000000
set_option exponentiation.threshold 100000
namespace Cw
open PySem PySem.Spec PyProof.Rows L2
theorem eqv_int (i j : Int) : PyData.eqv (.int i) (.int j) = decide (i = j) := by
  show (i == j) = _
  exact Bool.beq_eq_decide_eq i j
theorem eqv_fr (q r : Rat) : PyData.eqv (toPy (fr q)) (toPy (fr r)) = decide (q = r) := by
  rcases fr_cases q with ⟨h1, e1⟩ | ⟨h1, e1⟩ <;> rcases fr_cases r with ⟨h2, e2⟩ | ⟨h2, e2⟩ <;> rw [e1, e2]
  · show PyData.eqv (.int q.num) (.int r.num) = _
    rw [eqv_int]
    refine decide_eq_decide.mpr ⟨fun h => Rat.ext h (by rw [h1, h2]), fun h => by rw [h]⟩
  · have : q ≠ r := fun z => by rw [z] at h1; exact h2 h1
    rw [decide_eq_false this]
    simp [toPy, PyData.eqv]
  · have : q ≠ r := fun z => by rw [z] at h1; exact h1 h2
    rw [decide_eq_false this]
    simp [toPy, PyData.eqv]
  · have e3 : PyData.eqv (toPy (.tup [.int q.num, .int (q.den : Int)])) (toPy (.tup [.int r.num, .int (r.den : Int)])) = (PyData.eqv (.int q.num) (.int r.num) && (PyData.eqv (.int (q.den : Int)) (.int (r.den : Int)) && true)) := by
      simp [toPy, toPys, PyData.eqv, PyData.eqvAll]
    rw [e3, eqv_int, eqv_int, Bool.and_true]
    by_cases h : q = r
    · subst h
      simp
    · rw [decide_eq_false h]
      by_cases hn : q.num = r.num
      · have hd : ¬ (q.den : Int) = (r.den : Int) := fun z => h (Rat.ext hn (by omega))
        rw [decide_eq_false hd, Bool.and_false]
      · rw [decide_eq_false hn, Bool.false_and]
theorem okD_fr (q : Rat) : okD (fr q) = true := by
  rcases fr_cases q with ⟨h1, e1⟩ | ⟨h1, e1⟩ <;> rw [e1]
  · simp [okD, clean, toPy, PyData.depth]
  · simp [okD, clean, cleans, toPy, toPys, PyData.depth, PyData.depthAll]
def dotL (r s : List Int) : Int := (List.zipWith (fun x y => x * y) r s).sum
def mulD : Dt → Dt
  | .tup [.int x, .int y] => .int (x * y)
  | d => d
theorem mul_map : ∀ (r s : List Int), (zipD (zs r) (zs s)).map mulD = zs (List.zipWith (fun x y => x * y) r s)
  | [], s => rfl
  | x :: r, [] => rfl
  | x :: r, y :: s => by
    show mulD (.tup [.int x, .int y]) :: (zipD (zs r) (zs s)).map mulD = .int (x * y) :: zs (List.zipWith (fun x y => x * y) r s)
    rw [mul_map r s]
    rfl
def mons (X Z : Int) : List Int := [X ^ 4, X ^ 3 * Z, X ^ 2 * Z ^ 2, X * Z ^ 3, Z ^ 4]
theorem dot_F (b4 b6 b8 X Z : Int) : dotL (formF b4 b6 b8) (mons X Z) = ff b4 b6 b8 X Z := by
  simp [dotL, formF, mons, ff]
  grind
theorem dot_G (b2 b4 b6 X Z : Int) : dotL (formG b2 b4 b6) (mons X Z) = gg b2 b4 b6 X Z := by
  simp [dotL, formG, mons, gg]
  grind
theorem pow_lt_of {x : Int} {b : Nat} (h : x.natAbs < 2 ^ b) {n : Nat} (hn : n ≠ 0) : (x ^ n).natAbs < 2 ^ (b * n) := by
  rw [Int.natAbs_pow, Nat.pow_mul]
  exact Nat.pow_lt_pow_left h hn
def p__law_doubled (ds : List Dt) (d : Dt) : Prop := ∃ (c : Cv) (x y : Rat), Cs c ∧ Sm x ∧ ds = [cv c, .pt (some (x, y))] ∧ d = .lst [.int (c.F x), .int (c.G x)]
theorem form_at {f g : List Int} {j : Nat} {d : Dt} (h : [Dt.lst (zs f), Dt.lst (zs g)][j]? = some d) : ∃ h : List Int, [f, g][j]? = some h ∧ d = .lst (zs h) := fg_at h
theorem wide16 {X Z : Int} (hx : X.natAbs < 2 ^ 4000) (hz : Z.natAbs < 2 ^ 4000) : ∀ y, y ∈ mons X Z → y.natAbs < 2 ^ 16000 := by
  intro y hy
  simp only [mons, List.mem_cons, List.not_mem_nil, or_false] at hy
  rcases hy with rfl | rfl | rfl | rfl | rfl
  · exact pow_lt_of hx (n := 4) (by decide)
  · rw [Int.natAbs_mul]
    exact Nat.lt_of_lt_of_le (Nat.mul_lt_mul'' (pow_lt_of hx (n := 3) (by decide)) hz) (by rw [← Nat.pow_add]; exact Nat.pow_le_pow_right (by decide) (by decide))
  · rw [Int.natAbs_mul]
    exact Nat.lt_of_lt_of_le (Nat.mul_lt_mul'' (pow_lt_of hx (n := 2) (by decide)) (pow_lt_of hz (n := 2) (by decide))) (by rw [← Nat.pow_add]; exact Nat.pow_le_pow_right (by decide) (by decide))
  · rw [Int.natAbs_mul]
    exact Nat.lt_of_lt_of_le (Nat.mul_lt_mul'' hx (pow_lt_of hz (n := 3) (by decide))) (by rw [← Nat.pow_add]; exact Nat.pow_le_pow_right (by decide) (by decide))
  · exact pow_lt_of hz (n := 4) (by decide)
section
variable {P : Program} {w : World} {K : PySem.W.Frag} {mg : Str → Option Value} {base : Heap}
theorem sr_parO {i j : Nat} {ta tb : TE} {δ : De} {d : Dt} {ds : List Dt} {S : HpP} {N : De → HpP} {R : Dt → HpP} {u : TS} (h1 : EvD ta δ d) (h2 : EvW tb δ ds) (hS : Stab S) (hN : New S) (k : ∀ L, Tol S L → StR u ((δ.set i (some d)).set j (some (.adr L))) (SO S L ds) N R) : StR (tSeq (tPar i j (tCons ta (tCons tb tNil))) u) δ S N R := fun σ H HP s x sl D q1 q2 =>
  h1 σ H HP s sl _ fun v H1 P1 e1 r1 => h2 σ H1 P1 e1.sub (sl.mono e1.part) _ fun L H2 P2 e2 hL ho =>
    ⟨v, .ref L, rfl, k L (hN _ _ _ (hS _ _ _ _ x e1) hL) _ H2 P2 e2.sub ⟨hS _ _ _ _ (hS _ _ _ _ x e1) e2, ho⟩ (((sl.mono (e1.part.trans e2.part)).set (r1.mono e2.part) i).set (d := .adr L) rfl j) D
      (fun δ2 σ2 H3 P3 n3 s3 p3 sl3 => q1 δ2 σ2 H3 P3 n3 s3 ((e1.part.trans e2.part).trans p3) sl3) fun d v H3 P3 r s3 p3 rv => q2 d v H3 P3 r s3 ((e1.part.trans e2.part).trans p3) rv⟩

abbrev s__law_doubled : Stmt := topS 64
abbrev N__law_doubled : List Str := ["_law_curve", "_law_spot", "_law_x", "_law_z", "_law_some_here", "_law_found", "_law_form", "_law_one", "_law_much"]
theorem sc__law_doubled : FnScope N__law_doubled ["_law_curve", "_law_spot"] (defScope s__law_doubled) := ⟨rfl, rfl, rfl, by decide +kernel, rfl, by decide +kernel, by decide +kernel⟩
theorem ok__law_doubled (B : Bn mg) (F : Fu K mg "_law_doubled" s__law_doubled ["_law_curve", "_law_spot"]) (h__law_two : Dn P w K mg base "_law_two" ["_law_a"] 1 (spP p__law_two)) (h__law_forms : Dn P w K mg base "_law_forms" ["_law_curve"] 5 (spP p__law_forms)) : Dn P w K mg base "_law_doubled" ["_law_curve", "_law_spot"] 6 (spP p__law_doubled) := by
  refine F.ok sc__law_doubled (by rintro _ _ ⟨c, x, y, _, _, rfl, rfl⟩; rfl) (fun f cdv A outer s H E hr => ?_)
  have hu := hu_of hr
  have hu64 := hr.units
  refine ⟨_, (pss_cons (ps_asg (pe_fn h__law_two (hr.mono (by decide)) (by rfl) (pa_cons (pe_ix (kIxT (K := K) rfl) (pv 1) pe_int (fun _ _ => rfl)) pa_nil)) (pg_tup rfl (pgs_cons (pg_name (i := 2) sc__law_doubled.nd rfl (.inl rfl)) (pgs_cons (pg_name (i := 3) sc__law_doubled.nd rfl (.inl rfl)) pgs_nil))))
      (pss_cons (ps_par (i := 4) (j := 5) rfl sc__law_doubled.nd rfl rfl (by decide) rfl rfl (pa_cons (pe_lst (pa_cons (pe_op op_powP (pv 2) pe_int) (pa_cons (pe_op op_mulW (pe_op op_powP (pv 2) pe_int) (pv 3)) (pa_cons (pe_op op_mulW (pe_op op_powP (pv 2) pe_int) (pe_op op_powP (pv 3) pe_int)) (pa_cons (pe_op op_mulW (pv 2) (pe_op op_powP (pv 3) pe_int)) (pa_cons (pe_op op_powP (pv 3) pe_int) pa_nil)))))) (pa_cons (pe_lst pa_nil) pa_nil)) rfl)
      (pss_cons (ps_for PassesOwn.never rfl (kpiT (K := K) rfl (pe_fn h__law_forms (hr.mono (by decide)) (by rfl) (pa_cons (pv 0) pa_nil))) (pg_name (i := 6) sc__law_doubled.nd rfl (.inl rfl)) (pss_one (ps_expr (pe_bm PySem.F.plainAttrs_list PySem.F.slot_list_append PySem.F.type_list_append mt_append (pv 5) (pa_cons (pe_callB (kSum (K := K) rfl rfl) (by rfl) B.sum PyProof.Rows.boot_sum (pa_cons (pe_lc (own := [("_law_one", 7), ("_law_much", 8)]) rfl sc__law_doubled.nd (pi_zip (by rfl) B.zip (pa_cons (pv 6) (pa_cons (pv 4) pa_nil))) (blkOk_by (own := [("_law_one", 7), ("_law_much", 8)]) (N := N__law_doubled) (sc := (defScope s__law_doubled)) (by decide +kernel)) (fun _ _ _ _ _ => (kpgTup (K := K) (n := 2) rfl rfl (pgs_cons (pg_name (i := 7) sc__law_doubled.nd rfl (.inl rfl)) (pgs_cons (pg_name (i := 8) sc__law_doubled.nd rfl (.inl rfl)) pgs_nil)))) (fun _ _ _ _ _ => pts_nil) (fun _ _ _ _ _ => (pe_op op_mulW (pv 7) (pv 8)))) pa_nil)) pa_nil)))))
      (pss_one (ps_ret (pv 5)))))), fun ds d hp => ?_⟩
  obtain ⟨c, x, y, h, hx, rfl, rfl⟩ := hp
  have hX := sm_num hx
  have hZ := sm_den hx
  refine st_asg (ev_call (ea_cons (ev_ixT (ev_var rfl) ev_int (n := 0) rfl rfl) ea_nil) ⟨x, rfl, rfl⟩) (tg_tup (tgs_cons tg_name (tgs_cons tg_name tgs_nil)) rfl) ?_
  refine st_of_r fun H0 P0 => ?_
  have pw : ∀ {δ : De} {ta : TE} {i : Int} {n : Nat}, EvD ta δ (.int i) → i.natAbs < 2 ^ 4000 → n ≤ 4 → EvD (tOp (rI CPowP fun i j => .int (i ^ j.toNat)) ta (tC (.int (n : Int)))) δ (.int (i ^ n)) := fun h1 h2 h3 => ev_pow h1 ev_int (pow_ok h2 (by decide) (by omega))
  refine sr_parO (d := .lst (zs (mons x.num (x.den : Int)))) (ds := []) (ev_lst (ea_cons (pw (n := 4) (ev_var rfl) hX (by decide)) (ea_cons (ev_mul (pw (n := 3) (ev_var rfl) hX (by decide)) (ev_var rfl) (mul_ok (pow_lt_of hX (n := 3) (by decide)) hZ (by decide))) (ea_cons (ev_mul (pw (n := 2) (ev_var rfl) hX (by decide)) (pw (n := 2) (ev_var rfl) hZ (by decide)) (mul_ok (pow_lt_of hX (n := 2) (by decide)) (pow_lt_of hZ (n := 2) (by decide)) (by decide))) (ea_cons (ev_mul (ev_var rfl) (pw (n := 3) (ev_var rfl) hZ (by decide)) (mul_ok hX (pow_lt_of hZ (n := 3) (by decide)) (by decide))) (ea_cons (pw (n := 4) (ev_var rfl) hZ (by decide)) ea_nil)))))) (ew_lst ea_nil) ext_stab ext_new fun L T => ?_
  have hml : (mons x.num (x.den : Int)).length = 5 := rfl
  have hmb := wide16 hX hZ
  have dF : dotL (formF c.b4 c.b6 c.b8) (mons x.num (x.den : Int)) = c.F x := dot_F ..
  have dG : dotL (formG c.b2 c.b4 c.b6) (mons x.num (x.den : Int)) = c.G x := dot_G ..
  generalize mons x.num (x.den : Int) = mm at *
  obtain ⟨fs, gs⟩ := form_sm h
  have lf : (formF c.b4 c.b6 c.b8).length = 5 := rfl
  have lg : (formG c.b2 c.b4 c.b6).length = 5 := rfl
  have hfm : p__law_forms [cv c] (.tup [.lst (zs (formF c.b4 c.b6 c.b8)), .lst (zs (formG c.b2 c.b4 c.b6))]) := ⟨c, h, rfl, rfl⟩
  generalize formF c.b4 c.b6 c.b8 = f at *
  generalize formG c.b2 c.b4 c.b6 = g at *
  refine sr_for (ds := [.lst (zs f), .lst (zs g)]) (src_tup (ev_call (ea_cons (ev_var rfl) ea_nil) hfm)) (so_stab ext_stab)
    (fun i δ H P => ∃ a b e, δ = [some (cv c), some (.pt (some (x, y))), some (.int x.num), some (.int (x.den : Int)), some (.lst (zs mm)), some (.adr L), a, b, e] ∧ SO (Ext H0 P0) L (zs (([f, g].take i).map fun r => dotL r mm)) H P) (fun H P z => ⟨none, none, none, rfl, z⟩) ?_ ?_
  · rintro i d δ1 H P hd ⟨a, b, e, rfl, z⟩
    obtain ⟨r, hr, rfl⟩ := fg_at hd
    have hr5 : r.length = 5 ∧ sm4 r := by
      match i, hr with
      | 0, hr => cases hr; exact ⟨lf, fs⟩
      | 1, hr => cases hr; exact ⟨lg, gs⟩
      | i + 2, hr => cases hr
    have hi2 : i < 2 := (List.getElem?_eq_some_iff.mp hr).1
    rw [List.take_add_one, hr, List.map_append]
    show ∃ δ2 S2, _ ∧ _ ∧ _ ∧ StR _ δ2 S2 (fun δ H P => ∃ a b e, δ = [some (cv c), some (.pt (some (x, y))), some (.int x.num), some (.int (x.den : Int)), some (.lst (zs mm)), some (.adr L), a, b, e] ∧ SO (Ext H0 P0) L (zs (([f, g].take i).map (fun r => dotL r mm) ++ [dotL r mm])) H P) _
    generalize hA : ([f, g].take i).map (fun r => dotL r mm) = A at *
    have hAl : A.length ≤ 2 := by rw [← hA]; simp; omega
    refine ⟨_, _, tg_name, z, so_stab ext_stab, ?_⟩
    rw [← zs_app]
    refine sr_nx (sr_append (d := .int (dotL r mm)) rfl T ext_stab (ev_sum (ea_cons (ev_cast (ev_lcm (src_zip (ea_cons (ev_var rfl) (ea_cons (ev_var rfl) ea_nil)) (by rw [zs_len, zs_len, hr5.1, hml])) mulD (by rw [zipD_len (by rw [zs_len, zs_len, hr5.1, hml]), zs_len, hr5.1]; omega) (fun d hd2 => ?_)) (by rw [mul_map])) ea_nil)) (by rw [zs_len]; omega)) fun δ' H P q => ⟨_, _, _, q.1, q.2⟩
    obtain ⟨u, v, hu2, hv, rfl⟩ := mem_zip hd2
    exact ⟨_, tc_two (by simp) (by simp), ev_mul (ev_var rfl) (ev_var rfl) (mul_ok (hr5.2 u hu2) (hmb v hv) (by decide))⟩
  · rintro δ1 H P ⟨a, b, e, rfl, z⟩
    rw [show ([f, g].take [Dt.lst (zs f), Dt.lst (zs g)].length).map (fun r => dotL r mm) = [c.F x, c.G x] by rw [← dF, ← dG]; rfl] at z
    refine ⟨_, z, ?_⟩
    refine sr_freeze (i := 5) rfl T ?_
    exact sr_ret (ev_var rfl) ext_stab fun H P x => ⟨rfl, x⟩

/-- whole points -/
abbrev ipt (x y : Int) : Dt := .pt (some (ic x, ic y))
def Lit (x : Int) : Prop := x.natAbs < 2 ^ 20
def p__law_less (ds : List Dt) (d : Dt) : Prop := ∃ (c : Cv) (x y : Int), Cs c ∧ Lit x ∧ Lit y ∧ ds = [cv c, ipt x y] ∧ d = ipt x (-y - c.a1 * x - c.a3)
structure Mok (c : Cv) (r s t : Int) : Prop where
  c : Cs c
  r : Lit r
  s : Lit s
  t : Lit t
def mvp (r s t : Int) (p : Int × Int) : Int × Int := (p.1 - r, p.2 - s * (p.1 - r) - t)
def ipts (l : List (Int × Int)) : List Dt := l.map fun p => ipt p.1 p.2
def p__law_moved (ds : List Dt) (d : Dt) : Prop := ∃ (c : Cv) (l : List (Int × Int)) (r s t : Int), Mok c r s t ∧ l.length ≤ 100 ∧ (∀ p, p ∈ l → Lit p.1 ∧ Lit p.2) ∧ ds = [cv c, .lst (ipts l), .int r, .int s, .int t] ∧ d = .tup [cv (c.mv r s t), .lst (ipts (l.map (mvp r s t)))]
theorem Lit.up {x : Int} (h : Lit x) : x.natAbs < 2 ^ 200 := Nat.lt_of_lt_of_le h (by decide)
def rLess (c : Cv) (x y : Int) : List (List Int) := [[-1, y], [-1, c.a1, x], [-1, c.a3]]
theorem sLess (c : Cv) (x y : Int) : sumI (rLess c x y) = -y - c.a1 * x - c.a3 := by simp only [sumI, rLess, prodI, List.foldl]; grind
def rM4 (c : Cv) (r s t : Int) : List (List Int) := [[c.a4], [-1, s, c.a3], [2, r, c.a2], [-1, t, c.a1], [-1, r, s, c.a1], [3, r, r], [-2, s, t]]
def rM6 (c : Cv) (r s t : Int) : List (List Int) := [[c.a6], [r, c.a4], [r, r, c.a2], [r, r, r], [-1, t, c.a3], [-1, t, t], [-1, r, t, c.a1]]
theorem sM4 (c : Cv) (r s t : Int) : sumI (rM4 c r s t) = (c.mv r s t).a4 := by simp only [sumI, rM4, prodI, List.foldl, Cv.mv]; grind
theorem sM6 (c : Cv) (r s t : Int) : sumI (rM6 c r s t) = (c.mv r s t).a6 := by simp only [sumI, rM6, prodI, List.foldl, Cv.mv]; grind
def movD (r s t : Int) : Dt → Dt
  | .tup [.int x, .int y] => .tup [.int (x - r), .int (y - s * (x - r) - t)]
  | d => d
theorem mov_map (r s t : Int) (l : List (Int × Int)) : (ipts l).map (movD r s t) = ipts (l.map (mvp r s t)) := by
  unfold ipts
  rw [List.map_map, List.map_map]
  rfl

abbrev s__law_less : Stmt := topS 58
abbrev N__law_less : List Str := ["_law_curve", "_law_spot"]
theorem sc__law_less : FnScope N__law_less ["_law_curve", "_law_spot"] (defScope s__law_less) := ⟨rfl, rfl, rfl, by decide +kernel, rfl, by decide +kernel, by decide +kernel⟩
theorem ok__law_less (B : Bn mg) (F : Fu K mg "_law_less" s__law_less ["_law_curve", "_law_spot"]) (h__law_all : Dn P w K mg base "_law_all" ["_law_rows"] 3 (spP p__law_all)) : Dn P w K mg base "_law_less" ["_law_curve", "_law_spot"] 4 (spP p__law_less) := by
  refine F.ok sc__law_less (by rintro _ _ ⟨c, x, y, _, _, _, rfl, rfl⟩; rfl) (fun f cdv A outer s H E hr => ?_)
  have hu := hu_of hr
  have hu64 := hr.units
  refine ⟨_, (pss_cons (ps_if (pt_cmp (pc_isN (pv 1))) (pss_one (ps_ret pe_non)) pss_nil)
      (pss_one (ps_ret (pe_tup (pa_cons (pe_ix (kIxT (K := K) rfl) (pv 1) pe_int (fun _ _ => rfl)) (pa_cons (pe_fn h__law_all (hr.mono (by decide)) (by rfl) (pa_cons (pe_lst (pa_cons (pe_lst (pa_cons (pe_op op_sub pe_int pe_int) (pa_cons (pe_ix (kIxT (K := K) rfl) (pv 1) pe_int (fun _ _ => rfl)) pa_nil))) (pa_cons (pe_lst (pa_cons (pe_op op_sub pe_int pe_int) (pa_cons (pe_ix (kIxT (K := K) rfl) (pv 0) pe_int (fun _ _ => rfl)) (pa_cons (pe_ix (kIxT (K := K) rfl) (pv 1) pe_int (fun _ _ => rfl)) pa_nil)))) (pa_cons (pe_lst (pa_cons (pe_op op_sub pe_int pe_int) (pa_cons (pe_ix (kIxT (K := K) rfl) (pv 0) pe_int (fun _ _ => rfl)) pa_nil))) pa_nil)))) pa_nil)) pa_nil)))))), fun ds d hp => ?_⟩
  obtain ⟨c, x, y, h, hx, hy, rfl, rfl⟩ := hp
  refine st_ifF (eb_known (eb_B (ev_isN (ev_var rfl))) rfl) ?_
  have gx : ∀ {δ : De} {ta tb : TE}, EvD ta δ (ipt x y) → EvD tb δ (.int 0) → EvD (tOp (rIxT K) ta tb) δ (.int x) := fun h1 h2 => ev_ixT (ds := [.int x, .int y]) h1 h2 (n := 0) rfl rfl
  have gy : ∀ {δ : De} {ta tb : TE}, EvD ta δ (ipt x y) → EvD tb δ (.int 1) → EvD (tOp (rIxT K) ta tb) δ (.int y) := fun h1 h2 => ev_ixT (ds := [.int x, .int y]) h1 h2 (n := 1) rfl rfl
  refine st_ret (ev_tup (ea_cons (gx (ev_var rfl) ev_int) (ea_cons (ev_call (ea_cons (ev_lst (ea_cons (ev_lst (ea_cons (ev_sub ev_int ev_int) (ea_cons (gy (ev_var rfl) ev_int) ea_nil))) (ea_cons (ev_lst (ea_cons (ev_sub ev_int ev_int) (ea_cons (ev_ixT (ev_var rfl) ev_int (n := 0) rfl rfl) (ea_cons (gx (ev_var rfl) ev_int) ea_nil)))) (ea_cons (ev_lst (ea_cons (ev_sub ev_int ev_int) (ea_cons (ev_ixT (ev_var rfl) ev_int (n := 2) rfl rfl) ea_nil))) ea_nil)))) ea_nil) (law_int (rLess c x y) ⟨le4, ⟨lit200 rfl, hy.up, trivial⟩, le4, ⟨lit200 rfl, up200 h.h1 (by decide), hx.up, trivial⟩, le4, ⟨lit200 rfl, up200 h.h3 (by decide), trivial⟩, trivial⟩)) ea_nil))) ?_
  rw [sLess]
  rfl

abbrev s__law_moved : Stmt := topS 59
abbrev N__law_moved : List Str := ["_law_curve", "_law_spots", "_law_r", "_law_s", "_law_t", "_law_a", "_law_b_here", "_law_c", "_law_d_here", "_law_e", "_law_d2", "_law_e2", "_law_found", "_law_one"]
theorem sc__law_moved : FnScope N__law_moved ["_law_curve", "_law_spots", "_law_r", "_law_s", "_law_t"] (defScope s__law_moved) := ⟨rfl, rfl, rfl, by decide +kernel, rfl, by decide +kernel, by decide +kernel⟩
theorem ok__law_moved (B : Bn mg) (F : Fu K mg "_law_moved" s__law_moved ["_law_curve", "_law_spots", "_law_r", "_law_s", "_law_t"]) (h__law_all : Dn P w K mg base "_law_all" ["_law_rows"] 3 (spP p__law_all)) : Dn P w K mg base "_law_moved" ["_law_curve", "_law_spots", "_law_r", "_law_s", "_law_t"] 4 (spP p__law_moved) := by
  refine F.ok sc__law_moved (by rintro _ _ ⟨c, l, r, s, t, _, _, _, rfl, rfl⟩; rfl) (fun f cdv A outer s H E hr => ?_)
  have hu := hu_of hr
  have hu64 := hr.units
  refine ⟨_, (pss_cons (ps_asg (pv 0) (pg_tup rfl (pgs_cons (pg_name (i := 5) sc__law_moved.nd rfl (.inl rfl)) (pgs_cons (pg_name (i := 6) sc__law_moved.nd rfl (.inl rfl)) (pgs_cons (pg_name (i := 7) sc__law_moved.nd rfl (.inl rfl)) (pgs_cons (pg_name (i := 8) sc__law_moved.nd rfl (.inl rfl)) (pgs_cons (pg_name (i := 9) sc__law_moved.nd rfl (.inl rfl)) pgs_nil)))))))
      (pss_cons (ps_set (i := 10) sc__law_moved.nd rfl (.inl rfl) (pe_fn h__law_all (hr.mono (by decide)) (by rfl) (pa_cons (pe_lst (pa_cons (pe_lst (pa_cons (pv 8) pa_nil)) (pa_cons (pe_lst (pa_cons (pe_op op_sub pe_int pe_int) (pa_cons (pv 3) (pa_cons (pv 7) pa_nil)))) (pa_cons (pe_lst (pa_cons pe_int (pa_cons (pv 2) (pa_cons (pv 6) pa_nil)))) (pa_cons (pe_lst (pa_cons (pe_op op_sub pe_int pe_int) (pa_cons (pv 4) (pa_cons (pv 5) pa_nil)))) (pa_cons (pe_lst (pa_cons (pe_op op_sub pe_int pe_int) (pa_cons (pv 2) (pa_cons (pv 3) (pa_cons (pv 5) pa_nil))))) (pa_cons (pe_lst (pa_cons pe_int (pa_cons (pv 2) (pa_cons (pv 2) pa_nil)))) (pa_cons (pe_lst (pa_cons (pe_op op_sub pe_int pe_int) (pa_cons (pv 3) (pa_cons (pv 4) pa_nil)))) pa_nil)))))))) pa_nil)))
      (pss_cons (ps_set (i := 11) sc__law_moved.nd rfl (.inl rfl) (pe_fn h__law_all (hr.mono (by decide)) (by rfl) (pa_cons (pe_lst (pa_cons (pe_lst (pa_cons (pv 9) pa_nil)) (pa_cons (pe_lst (pa_cons (pv 2) (pa_cons (pv 8) pa_nil))) (pa_cons (pe_lst (pa_cons (pv 2) (pa_cons (pv 2) (pa_cons (pv 6) pa_nil)))) (pa_cons (pe_lst (pa_cons (pv 2) (pa_cons (pv 2) (pa_cons (pv 2) pa_nil)))) (pa_cons (pe_lst (pa_cons (pe_op op_sub pe_int pe_int) (pa_cons (pv 4) (pa_cons (pv 7) pa_nil)))) (pa_cons (pe_lst (pa_cons (pe_op op_sub pe_int pe_int) (pa_cons (pv 4) (pa_cons (pv 4) pa_nil)))) (pa_cons (pe_lst (pa_cons (pe_op op_sub pe_int pe_int) (pa_cons (pv 2) (pa_cons (pv 4) (pa_cons (pv 5) pa_nil))))) pa_nil)))))))) pa_nil)))
      (pss_cons (ps_setLc (i := 12) (own := [("_law_one", 13)]) rfl sc__law_moved.nd rfl rfl (sw_true rfl rfl rfl (by decide +kernel)) (kpiL (K := K) rfl (pv 1)) (blkOk_by (own := [("_law_one", 13)]) (N := N__law_moved) (sc := (defScope s__law_moved)) (by decide +kernel)) (fun _ _ _ _ _ => (pg_name (i := 13) sc__law_moved.nd rfl (.inl rfl))) (fun _ _ _ _ _ => pts_nil) (fun _ _ _ _ _ => (pe_ifExp (pt_cmp (pc_isN (pv 13))) pe_non (pe_tup (pa_cons (pe_op op_sub (pe_ix (kIxT (K := K) rfl) (pv 13) pe_int (fun _ _ => rfl)) (pv 2)) (pa_cons (pe_op op_sub (pe_op op_sub (pe_ix (kIxT (K := K) rfl) (pv 13) pe_int (fun _ _ => rfl)) (pe_op op_mulW (pv 3) (pe_op op_sub (pe_ix (kIxT (K := K) rfl) (pv 13) pe_int (fun _ _ => rfl)) (pv 2)))) (pv 4)) pa_nil))))))
      (pss_one (ps_ret (pe_tup (pa_cons (pe_tup (pa_cons (pe_op op_add (pv 5) (pe_op op_mulW pe_int (pv 3))) (pa_cons (pe_op op_sub (pe_op op_add (pe_op op_sub (pv 6) (pe_op op_mulW (pv 3) (pv 5))) (pe_op op_mulW pe_int (pv 2))) (pe_op op_mulW (pv 3) (pv 3))) (pa_cons (pe_op op_add (pe_op op_add (pv 7) (pe_op op_mulW (pv 2) (pv 5))) (pe_op op_mulW pe_int (pv 4))) (pa_cons (pv 10) (pa_cons (pv 11) pa_nil)))))) (pa_cons (pv 12) pa_nil))))))))), fun ds d hp => ?_⟩
  obtain ⟨c, l, r, s, t, hm, hl, hb, rfl, rfl⟩ := hp
  have h := hm.c
  have u1 := up200 h.h1 (by decide)
  have u2 := up200 h.h2 (by decide)
  have u3 := up200 h.h3 (by decide)
  have u4 := up200 h.h4 (by decide)
  have u6 := up200 h.h6 (by decide)
  have ur := hm.r.up
  have us := hm.s.up
  have ut := hm.t.up
  refine st_asg (ev_var rfl) (tg_tup (tgs_cons tg_name (tgs_cons tg_name (tgs_cons tg_name (tgs_cons tg_name (tgs_cons tg_name tgs_nil))))) rfl) ?_
  refine st_set (ev_call (ea_cons (ev_lst (ea_cons (ev_lst (ea_cons (ev_var rfl) ea_nil)) (ea_cons (ev_lst (ea_cons (ev_sub ev_int ev_int) (ea_cons (ev_var rfl) (ea_cons (ev_var rfl) ea_nil)))) (ea_cons (ev_lst (ea_cons ev_int (ea_cons (ev_var rfl) (ea_cons (ev_var rfl) ea_nil)))) (ea_cons (ev_lst (ea_cons (ev_sub ev_int ev_int) (ea_cons (ev_var rfl) (ea_cons (ev_var rfl) ea_nil)))) (ea_cons (ev_lst (ea_cons (ev_sub ev_int ev_int) (ea_cons (ev_var rfl) (ea_cons (ev_var rfl) (ea_cons (ev_var rfl) ea_nil))))) (ea_cons (ev_lst (ea_cons ev_int (ea_cons (ev_var rfl) (ea_cons (ev_var rfl) ea_nil)))) (ea_cons (ev_lst (ea_cons (ev_sub ev_int ev_int) (ea_cons (ev_var rfl) (ea_cons (ev_var rfl) ea_nil)))) ea_nil)))))))) ea_nil) (law_int (rM4 c r s t) ⟨le4, ⟨u4, trivial⟩, le4, ⟨lit200 rfl, us, u3, trivial⟩, le4, ⟨lit200 rfl, ur, u2, trivial⟩, le4, ⟨lit200 rfl, ut, u1, trivial⟩, le4, ⟨lit200 rfl, ur, us, u1, trivial⟩, le4, ⟨lit200 rfl, ur, ur, trivial⟩, le4, ⟨lit200 rfl, us, ut, trivial⟩, trivial⟩)) ?_
  refine st_set (ev_call (ea_cons (ev_lst (ea_cons (ev_lst (ea_cons (ev_var rfl) ea_nil)) (ea_cons (ev_lst (ea_cons (ev_var rfl) (ea_cons (ev_var rfl) ea_nil))) (ea_cons (ev_lst (ea_cons (ev_var rfl) (ea_cons (ev_var rfl) (ea_cons (ev_var rfl) ea_nil)))) (ea_cons (ev_lst (ea_cons (ev_var rfl) (ea_cons (ev_var rfl) (ea_cons (ev_var rfl) ea_nil)))) (ea_cons (ev_lst (ea_cons (ev_sub ev_int ev_int) (ea_cons (ev_var rfl) (ea_cons (ev_var rfl) ea_nil)))) (ea_cons (ev_lst (ea_cons (ev_sub ev_int ev_int) (ea_cons (ev_var rfl) (ea_cons (ev_var rfl) ea_nil)))) (ea_cons (ev_lst (ea_cons (ev_sub ev_int ev_int) (ea_cons (ev_var rfl) (ea_cons (ev_var rfl) (ea_cons (ev_var rfl) ea_nil))))) ea_nil)))))))) ea_nil) (law_int (rM6 c r s t) ⟨le4, ⟨u6, trivial⟩, le4, ⟨ur, u4, trivial⟩, le4, ⟨ur, ur, u2, trivial⟩, le4, ⟨ur, ur, ur, trivial⟩, le4, ⟨lit200 rfl, ut, u3, trivial⟩, le4, ⟨lit200 rfl, ut, ut, trivial⟩, le4, ⟨lit200 rfl, ur, ut, u1, trivial⟩, trivial⟩)) ?_
  rw [sM4, sM6]
  refine st_set (d := .lst (ipts (l.map (mvp r s t)))) (ev_cast (ev_lcm (ds := ipts l) (src_list (ev_var rfl)) (movD r s t) (by unfold ipts; rw [List.length_map]; omega) (fun d hd => ?_)) (by rw [mov_map])) ?_
  · obtain ⟨⟨x, y⟩, hp, rfl⟩ := List.mem_map.mp hd
    obtain ⟨hx, hy⟩ := hb _ hp
    refine ⟨_, tc_name (by simp), ?_⟩
    refine ev_if (eb_B (ev_isN (ev_var rfl))) (fun z => Bool.noConfusion z) fun _ => ?_
    have gx : ∀ {δ : De} {ta tb : TE}, EvD ta δ (ipt x y) → EvD tb δ (.int 0) → EvD (tOp (rIxT K) ta tb) δ (.int x) := fun h1 h2 => ev_ixT (ds := [.int x, .int y]) h1 h2 (n := 0) rfl rfl
    have gy : ∀ {δ : De} {ta tb : TE}, EvD ta δ (ipt x y) → EvD tb δ (.int 1) → EvD (tOp (rIxT K) ta tb) δ (.int y) := fun h1 h2 => ev_ixT (ds := [.int x, .int y]) h1 h2 (n := 1) rfl rfl
    exact ev_tup (ea_cons (ev_sub (gx (ev_var rfl) ev_int) (ev_var rfl)) (ea_cons (ev_sub (ev_sub (gy (ev_var rfl) ev_int) (ev_mul (ev_var rfl) (ev_sub (gx (ev_var rfl) ev_int) (ev_var rfl)) (mul_ok (a := 20) (b := 21) hm.s (by show (x - r).natAbs < 2 ^ 21; have h1 : x.natAbs < 2 ^ 20 := hx; have h2 : r.natAbs < 2 ^ 20 := hm.r; omega) (by decide)))) (ev_var rfl)) ea_nil))
  · have c1 : ∀ {a b : Int}, a.natAbs < 2 ^ 20 → b.natAbs < 2 ^ 20 → CMulW a b := fun h1 h2 => mul_ok h1 h2 (by decide)
    have lr : r.natAbs < 2 ^ 20 := hm.r
    have ls : s.natAbs < 2 ^ 20 := hm.s
    have lt : t.natAbs < 2 ^ 20 := hm.t
    have m1 : CMulW 2 s := c1 (by decide) ls
    have m2 : CMulW s c.a1 := c1 ls h.h1
    have m3 : CMulW 3 r := c1 (by decide) lr
    have m4 : CMulW s s := c1 ls ls
    have m5 : CMulW r c.a1 := c1 lr h.h1
    have m6 : CMulW 2 t := c1 (by decide) lt
    have e : .tup [cv (c.mv r s t), .lst (ipts (l.map (mvp r s t)))] = Dt.tup [.tup [.int (c.a1 + 2 * s), .int (c.a2 - s * c.a1 + 3 * r - s * s), .int (c.a3 + r * c.a1 + 2 * t), .int (c.mv r s t).a4, .int (c.mv r s t).a6], .lst (ipts (l.map (mvp r s t)))] := rfl
    rw [e]
    generalize (c.mv r s t).a4 = n4
    generalize (c.mv r s t).a6 = n6
    generalize ipts (l.map (mvp r s t)) = nl
    refine st_ret (ev_tup (ea_cons (ev_tup (ea_cons ?_ (ea_cons ?_ (ea_cons ?_ (ea_cons (ev_var rfl) (ea_cons (ev_var rfl) ea_nil)))))) (ea_cons (ev_var rfl) ea_nil))) rfl
    · exact ev_add (ev_var rfl) (ev_mul ev_int (ev_var rfl) m1)
    · exact ev_sub (ev_add (ev_sub (ev_var rfl) (ev_mul (ev_var rfl) (ev_var rfl) m2)) (ev_mul ev_int (ev_var rfl) m3)) (ev_mul (ev_var rfl) (ev_var rfl) m4)
    · exact ev_add (ev_add (ev_var rfl) (ev_mul (ev_var rfl) (ev_var rfl) m5)) (ev_mul ev_int (ev_var rfl) m6)

end
end Cw
end
section
set_option linter.all false
set_option maxRecDepth 100000
set_option maxHeartbeats 4000000
set_option exponentiation.threshold 100000
namespace Cw
open PySem PySem.Spec PyProof.Rows L2
/-- what a sum asks, and is -/
inductive AddOk (c : Cv) : Pt → Pt → Pt → Prop
  | left (q : Pt) : AddOk c none q q
  | right (x y : Rat) : AddOk c (some (x, y)) none (some (x, y))
  | opp (x y w : Rat) (h : okRows 0 (rOpp c x y w)) (h0 : sumL (rOpp c x y w) = 0) : AddOk c (some (x, y)) (some (x, w)) none
  | dbl (x y : Rat) (h : Dbl c x y (c.slope x y)) (h0 : c.psi x y ≠ 0) : AddOk c (some (x, y)) (some (x, y)) (some (c.addX (c.slope x y) x x, c.addY (c.slope x y) x y (c.addX (c.slope x y) x x)))
  | sum (x v : Int) (y w l : Rat) (hxv : x ≠ v) (hl : l = (w - y) / (ic v - ic x)) (h1 : okRows 0 [[w], [ic (-1), y]]) (h2 : okRows 0 [[ic v], [ic (-1), ic x]]) (s1 : Sm (w - y)) (s2 : Sm (ic v - ic x))
      (far : okRows 0 (rFar c l (ic x) (ic v))) (up : okRows 0 (rUp c l (ic x) y (c.addX l (ic x) (ic v)))) : AddOk c (some (ic x, y)) (some (ic v, w)) (some (c.addX l (ic x) (ic v), c.addY l (ic x) y (c.addX l (ic x) (ic v))))
def p__law_added (ds : List Dt) (d : Dt) : Prop := ∃ (c : Cv) (p q r : Pt), AddOk c p q r ∧ ds = [cv c, .pt p, .pt q] ∧ d = .pt r
theorem sum_dif (a b : Rat) : sumL [[a], [ic (-1), b]] = a - b := by simp only [sumL, prodL, List.foldl, ic]; grind
theorem dbl_opp {c : Cv} {x y : Rat} (h : c.psi x y ≠ 0) : sumL (rOpp c x y y) ≠ 0 := by
  rw [sum_opp]
  unfold Cv.psi at h
  intro z
  apply h
  rw [← z]
  grind
section
variable {P : Program} {w : World} {K : PySem.W.Frag} {mg : Str → Option Value} {base : Heap}
theorem ev_eqF {δ : De} {ta tb : TE} {q r : Rat} (h1 : EvD ta δ (fr q)) (h2 : EvD tb δ (fr r)) : EvD (tOp (rEqD K) ta tb) δ (.bl (decide (q = r))) := ev_cast (ev_eqD h1 h2 (okD_fr q) (okD_fr r)) (by rw [eqv_fr])
theorem ev_all_of {δ : De} {te : TE} {E : XK} {rows : List (List Rat)} (h : EvD te δ (.lst (rows.map fun r => .lst (r.map fr)))) (ho : okRows 0 rows) : EvD (tCall (spP p__law_all) [] E (tCons te tNil)) δ (fr (sumL rows)) := ev_call (ea_cons h ea_nil) ⟨rows, ho, rfl, rfl⟩

abbrev s__law_added : Stmt := topS 57
abbrev N__law_added : List Str := ["_law_curve", "_law_one", "_law_other", "_law_x", "_law_y", "_law_v", "_law_w", "_law_a", "_law_b_here", "_law_c", "_law_d_here", "_law_e", "_law_slope", "_law_far"]
theorem sc__law_added : FnScope N__law_added ["_law_curve", "_law_one", "_law_other"] (defScope s__law_added) := ⟨rfl, rfl, rfl, by decide +kernel, rfl, by decide +kernel, by decide +kernel⟩
theorem ok__law_added (B : Bn mg) (F : Fu K mg "_law_added" s__law_added ["_law_curve", "_law_one", "_law_other"]) (h__law_all : Dn P w K mg base "_law_all" ["_law_rows"] 3 (spP p__law_all)) (h__law_over : Dn P w K mg base "_law_over" ["_law_a", "_law_b_here"] 2 (spP p__law_over)) : Dn P w K mg base "_law_added" ["_law_curve", "_law_one", "_law_other"] 4 (spP p__law_added) := by
  refine F.ok sc__law_added (by rintro _ _ ⟨c, p, q, r, _, rfl, rfl⟩; rfl) (fun f cdv A outer s H E hr => ?_)
  have hu := hu_of hr
  have hu64 := hr.units
  refine ⟨_, (pss_cons (ps_if (pw_or (pt_cmp (pc_isN (pv 1))) (pw_or1 (pt_cmp (pc_isN (pv 2))))).pt (pss_one (ps_ret (pe_ifExp (pt_cmp (pc_isN (pv 1))) (pv 2) (pv 1)))) pss_nil)
      (pss_cons (ps_asg (pe_tup (pa_cons (pv 1) (pa_cons (pv 2) (pa_cons (pv 0) pa_nil)))) (pg_tup rfl (pgs_cons (pg_tup rfl (pgs_cons (pg_name (i := 3) sc__law_added.nd rfl (.inl rfl)) (pgs_cons (pg_name (i := 4) sc__law_added.nd rfl (.inl rfl)) pgs_nil))) (pgs_cons (pg_tup rfl (pgs_cons (pg_name (i := 5) sc__law_added.nd rfl (.inl rfl)) (pgs_cons (pg_name (i := 6) sc__law_added.nd rfl (.inl rfl)) pgs_nil))) (pgs_cons (pg_tup rfl (pgs_cons (pg_name (i := 7) sc__law_added.nd rfl (.inl rfl)) (pgs_cons (pg_name (i := 8) sc__law_added.nd rfl (.inl rfl)) (pgs_cons (pg_name (i := 9) sc__law_added.nd rfl (.inl rfl)) (pgs_cons (pg_name (i := 10) sc__law_added.nd rfl (.inl rfl)) (pgs_cons (pg_name (i := 11) sc__law_added.nd rfl (.inl rfl)) pgs_nil)))))) pgs_nil)))))
      (pss_cons (ps_if (pw_and (pt_cmpR (kEqD (K := K) rfl hu64) (pv 3) (pv 5) (nomark _)) (pw_and1 (pt_cmpR (kEqD (K := K) rfl hu64) (pe_fn h__law_all (hr.mono (by decide)) (by rfl) (pa_cons (pe_lst (pa_cons (pe_lst (pa_cons (pv 4) pa_nil)) (pa_cons (pe_lst (pa_cons (pv 6) pa_nil)) (pa_cons (pe_lst (pa_cons (pv 7) (pa_cons (pv 3) pa_nil))) (pa_cons (pe_lst (pa_cons (pv 9) pa_nil)) pa_nil))))) pa_nil)) pe_int (nomark _)))).pt (pss_one (ps_ret pe_non)) pss_nil)
      (pss_cons (ps_if (pt_cmpR (kEqD (K := K) rfl hu64) (pv 3) (pv 5) (nomark _)) (pss_one (ps_set (i := 12) sc__law_added.nd rfl (.inl rfl) (pe_fn h__law_over (hr.mono (by decide)) (by rfl) (pa_cons (pe_fn h__law_all (hr.mono (by decide)) (by rfl) (pa_cons (pe_lst (pa_cons (pe_lst (pa_cons pe_int (pa_cons (pv 3) (pa_cons (pv 3) pa_nil)))) (pa_cons (pe_lst (pa_cons pe_int (pa_cons (pv 8) (pa_cons (pv 3) pa_nil)))) (pa_cons (pe_lst (pa_cons (pv 10) pa_nil)) (pa_cons (pe_lst (pa_cons (pe_op op_sub pe_int pe_int) (pa_cons (pv 7) (pa_cons (pv 4) pa_nil)))) pa_nil))))) pa_nil)) (pa_cons (pe_fn h__law_all (hr.mono (by decide)) (by rfl) (pa_cons (pe_lst (pa_cons (pe_lst (pa_cons pe_int (pa_cons (pv 4) pa_nil))) (pa_cons (pe_lst (pa_cons (pv 7) (pa_cons (pv 3) pa_nil))) (pa_cons (pe_lst (pa_cons (pv 9) pa_nil)) pa_nil)))) pa_nil)) pa_nil))))) (pss_one (ps_set (i := 12) sc__law_added.nd rfl (.inl rfl) (pe_fn h__law_over (hr.mono (by decide)) (by rfl) (pa_cons (pe_fn h__law_all (hr.mono (by decide)) (by rfl) (pa_cons (pe_lst (pa_cons (pe_lst (pa_cons (pv 6) pa_nil)) (pa_cons (pe_lst (pa_cons (pe_op op_sub pe_int pe_int) (pa_cons (pv 4) pa_nil))) pa_nil))) pa_nil)) (pa_cons (pe_fn h__law_all (hr.mono (by decide)) (by rfl) (pa_cons (pe_lst (pa_cons (pe_lst (pa_cons (pv 5) pa_nil)) (pa_cons (pe_lst (pa_cons (pe_op op_sub pe_int pe_int) (pa_cons (pv 3) pa_nil))) pa_nil))) pa_nil)) pa_nil))))))
      (pss_cons (ps_set (i := 13) sc__law_added.nd rfl (.inl rfl) (pe_fn h__law_all (hr.mono (by decide)) (by rfl) (pa_cons (pe_lst (pa_cons (pe_lst (pa_cons (pv 12) (pa_cons (pv 12) pa_nil))) (pa_cons (pe_lst (pa_cons (pv 7) (pa_cons (pv 12) pa_nil))) (pa_cons (pe_lst (pa_cons (pe_op op_sub pe_int pe_int) (pa_cons (pv 8) pa_nil))) (pa_cons (pe_lst (pa_cons (pe_op op_sub pe_int pe_int) (pa_cons (pv 3) pa_nil))) (pa_cons (pe_lst (pa_cons (pe_op op_sub pe_int pe_int) (pa_cons (pv 5) pa_nil))) pa_nil)))))) pa_nil)))
      (pss_one (ps_ret (pe_tup (pa_cons (pv 13) (pa_cons (pe_fn h__law_all (hr.mono (by decide)) (by rfl) (pa_cons (pe_lst (pa_cons (pe_lst (pa_cons (pe_op op_sub pe_int pe_int) (pa_cons (pv 12) (pa_cons (pv 13) pa_nil)))) (pa_cons (pe_lst (pa_cons (pe_op op_sub pe_int pe_int) (pa_cons (pv 7) (pa_cons (pv 13) pa_nil)))) (pa_cons (pe_lst (pa_cons (pe_op op_sub pe_int pe_int) (pa_cons (pv 4) pa_nil))) (pa_cons (pe_lst (pa_cons (pv 12) (pa_cons (pv 3) pa_nil))) (pa_cons (pe_lst (pa_cons (pe_op op_sub pe_int pe_int) (pa_cons (pv 9) pa_nil))) pa_nil)))))) pa_nil)) pa_nil)))))))))), fun ds d hp => ?_⟩
  obtain ⟨c, p, q, r, h, rfl, rfl⟩ := hp
  cases h with
  | left q =>
    exact st_seq (nx1 := fun _ => False) (st_if (eb_known (eb_or (b := isNon (Dt.pt q)) (eb_B (ev_isN (ev_var rfl))) fun _ => eb_B (ev_isN (ev_var rfl))) (c := true) rfl) (fun _ => st_ret (ev_if (eb_B (ev_isN (ev_var rfl))) (fun _ => ev_var rfl) fun z => Bool.noConfusion z) rfl) (fun z => Bool.noConfusion z)) (fun _ z => z.elim)
  | right x y =>
    exact st_seq (nx1 := fun _ => False) (st_if (eb_known (eb_or (eb_B (ev_isN (ev_var rfl))) fun _ => eb_B (ev_isN (ev_var rfl))) rfl) (fun _ => st_ret (ev_if (eb_B (ev_isN (ev_var rfl))) (fun z => Bool.noConfusion z) fun _ => ev_var rfl) rfl) (fun z => Bool.noConfusion z)) (fun _ z => z.elim)
  | opp x y w h h0 =>
    refine st_ifF (eb_known (eb_or (eb_B (ev_isN (ev_var rfl))) fun _ => eb_B (ev_isN (ev_var rfl))) rfl) ?_
    refine st_asg (δ' := [some (cv c), some (.pt (some (x, y))), some (.pt (some (x, w))), some (fr (x)), some (fr (y)), some (fr (x)), some (fr (w)), some (.int c.a1), some (.int c.a2), some (.int c.a3), some (.int c.a4), some (.int c.a6), none, none]) (ev_tup (ea_cons (ev_var rfl) (ea_cons (ev_var rfl) (ea_cons (ev_var rfl) ea_nil)))) (tg_tup (tgs_cons (tg_tup (tgs_cons tg_name (tgs_cons tg_name tgs_nil)) rfl) (tgs_cons (tg_tup (tgs_cons tg_name (tgs_cons tg_name tgs_nil)) rfl) (tgs_cons (tg_tup (tgs_cons tg_name (tgs_cons tg_name (tgs_cons tg_name (tgs_cons tg_name (tgs_cons tg_name tgs_nil))))) rfl) tgs_nil))) rfl) ?_
    exact st_seq (nx1 := fun _ => False) (st_if (eb_known (eb_and (eb_test (ev_eqF (ev_var rfl) (ev_var rfl))) fun _ => eb_test (ev_eqF (r := 0) (ev_all_of (rows := rOpp c x y w) (ev_lst (ea_cons (ev_lst (ea_cons (ev_var rfl) ea_nil)) (ea_cons (ev_lst (ea_cons (ev_var rfl) ea_nil)) (ea_cons (ev_lst (ea_cons (ev_var rfl) (ea_cons (ev_var rfl) ea_nil))) (ea_cons (ev_lst (ea_cons (ev_var rfl) ea_nil)) ea_nil))))) h) ev_int)) (c := true) (by rw [h0]; simp)) (fun _ => st_ret ev_non rfl) (fun z => Bool.noConfusion z)) (fun _ z => z.elim)
  | dbl x y h h0 =>
    refine st_ifF (eb_known (eb_or (eb_B (ev_isN (ev_var rfl))) fun _ => eb_B (ev_isN (ev_var rfl))) rfl) ?_
    refine st_asg (δ' := [some (cv c), some (.pt (some (x, y))), some (.pt (some (x, y))), some (fr (x)), some (fr (y)), some (fr (x)), some (fr (y)), some (.int c.a1), some (.int c.a2), some (.int c.a3), some (.int c.a4), some (.int c.a6), none, none]) (ev_tup (ea_cons (ev_var rfl) (ea_cons (ev_var rfl) (ea_cons (ev_var rfl) ea_nil)))) (tg_tup (tgs_cons (tg_tup (tgs_cons tg_name (tgs_cons tg_name tgs_nil)) rfl) (tgs_cons (tg_tup (tgs_cons tg_name (tgs_cons tg_name tgs_nil)) rfl) (tgs_cons (tg_tup (tgs_cons tg_name (tgs_cons tg_name (tgs_cons tg_name (tgs_cons tg_name (tgs_cons tg_name tgs_nil))))) rfl) tgs_nil))) rfl) ?_
    refine st_ifF (eb_known (eb_and (eb_test (ev_eqF (ev_var rfl) (ev_var rfl))) fun _ => eb_test (ev_eqF (r := 0) (ev_all_of (rows := rOpp c x y y) (ev_lst (ea_cons (ev_lst (ea_cons (ev_var rfl) ea_nil)) (ea_cons (ev_lst (ea_cons (ev_var rfl) ea_nil)) (ea_cons (ev_lst (ea_cons (ev_var rfl) (ea_cons (ev_var rfl) ea_nil))) (ea_cons (ev_lst (ea_cons (ev_var rfl) ea_nil)) ea_nil))))) h.opp) ev_int)) (by rw [decide_eq_false (dbl_opp h0), Bool.and_false])) ?_
    refine st_seq (nx1 := fun δ' => δ' = [some (cv c), some (.pt (some (x, y))), some (.pt (some (x, y))), some (fr x), some (fr y), some (fr x), some (fr y), some (.int c.a1), some (.int c.a2), some (.int c.a3), some (.int c.a4), some (.int c.a6), some (fr (c.slope x y)), none]) (st_if (eb_known (eb_test (ev_eqF (ev_var rfl) (ev_var rfl))) (decide_eq_true rfl)) (fun _ => st_asg1 (d := fr (c.slope x y)) (ev_call (ea_cons (ev_all_of (rows := rTau c x y) (ev_lst (ea_cons (ev_lst (ea_cons ev_int (ea_cons (ev_var rfl) (ea_cons (ev_var rfl) ea_nil)))) (ea_cons (ev_lst (ea_cons ev_int (ea_cons (ev_var rfl) (ea_cons (ev_var rfl) ea_nil)))) (ea_cons (ev_lst (ea_cons (ev_var rfl) ea_nil)) (ea_cons (ev_lst (ea_cons (ev_sub ev_int ev_int) (ea_cons (ev_var rfl) (ea_cons (ev_var rfl) ea_nil)))) ea_nil))))) h.tau) (ea_cons (ev_all_of (rows := rPsi c x y) (ev_lst (ea_cons (ev_lst (ea_cons ev_int (ea_cons (ev_var rfl) ea_nil))) (ea_cons (ev_lst (ea_cons (ev_var rfl) (ea_cons (ev_var rfl) ea_nil))) (ea_cons (ev_lst (ea_cons (ev_var rfl) ea_nil)) ea_nil)))) h.psi) ea_nil)) ?_) tg_name rfl) fun z => Bool.noConfusion z) ?_
    · rw [sum_tau, sum_psi]
      exact ⟨_, _, h.stau, h.spsi, h0, rfl, rfl⟩
    · rintro _ rfl
      refine st_set (ev_all_of (rows := rFar c (c.slope x y) x x) (ev_lst (ea_cons (ev_lst (ea_cons (ev_var rfl) (ea_cons (ev_var rfl) ea_nil))) (ea_cons (ev_lst (ea_cons (ev_var rfl) (ea_cons (ev_var rfl) ea_nil))) (ea_cons (ev_lst (ea_cons (ev_sub ev_int ev_int) (ea_cons (ev_var rfl) ea_nil))) (ea_cons (ev_lst (ea_cons (ev_sub ev_int ev_int) (ea_cons (ev_var rfl) ea_nil))) (ea_cons (ev_lst (ea_cons (ev_sub ev_int ev_int) (ea_cons (ev_var rfl) ea_nil))) ea_nil)))))) h.far) ?_
      refine st_ret (ev_tup (ea_cons (ev_var rfl) (ea_cons (ev_all_of (rows := rUp c (c.slope x y) x y (sumL (rFar c (c.slope x y) x x))) (ev_lst (ea_cons (ev_lst (ea_cons (ev_sub ev_int ev_int) (ea_cons (ev_var rfl) (ea_cons (ev_var rfl) ea_nil)))) (ea_cons (ev_lst (ea_cons (ev_sub ev_int ev_int) (ea_cons (ev_var rfl) (ea_cons (ev_var rfl) ea_nil)))) (ea_cons (ev_lst (ea_cons (ev_sub ev_int ev_int) (ea_cons (ev_var rfl) ea_nil))) (ea_cons (ev_lst (ea_cons (ev_var rfl) (ea_cons (ev_var rfl) ea_nil))) (ea_cons (ev_lst (ea_cons (ev_sub ev_int ev_int) (ea_cons (ev_var rfl) ea_nil))) ea_nil)))))) (by rw [sum_far]; exact h.up)) ea_nil))) ?_
      rw [sum_up, sum_far]
      rfl
  | sum x v y w l hxv hl h1 h2 s1 s2 far up =>
    have hne : decide (ic x = ic v) = false := decide_eq_false fun z => hxv (by exact_mod_cast z)
    have hd0 : ic v - ic x ≠ 0 := fun z => hxv (by
      have h3 : ic v = ic x := by rw [← Rat.sub_add_cancel (a := ic v) (b := ic x), z, Rat.zero_add]
      have h4 : v = x := by exact_mod_cast h3
      exact h4.symm)
    refine st_ifF (eb_known (eb_or (eb_B (ev_isN (ev_var rfl))) fun _ => eb_B (ev_isN (ev_var rfl))) rfl) ?_
    refine st_asg (δ' := [some (cv c), some (.pt (some (ic x, y))), some (.pt (some (ic v, w))), some (fr (ic x)), some (fr (y)), some (fr (ic v)), some (fr (w)), some (.int c.a1), some (.int c.a2), some (.int c.a3), some (.int c.a4), some (.int c.a6), none, none]) (ev_tup (ea_cons (ev_var rfl) (ea_cons (ev_var rfl) (ea_cons (ev_var rfl) ea_nil)))) (tg_tup (tgs_cons (tg_tup (tgs_cons tg_name (tgs_cons tg_name tgs_nil)) rfl) (tgs_cons (tg_tup (tgs_cons tg_name (tgs_cons tg_name tgs_nil)) rfl) (tgs_cons (tg_tup (tgs_cons tg_name (tgs_cons tg_name (tgs_cons tg_name (tgs_cons tg_name (tgs_cons tg_name tgs_nil))))) rfl) tgs_nil))) rfl) ?_
    refine st_ifF (eb_known (eb_and (eb_test (ev_eqF (ev_var (d := fr (ic x)) rfl) (ev_var (d := fr (ic v)) rfl))) (b := false) fun z => absurd z (by rw [hne]; decide)) (by rw [hne]; rfl)) ?_
    refine st_seq (nx1 := fun δ' => δ' = [some (cv c), some (.pt (some (ic x, y))), some (.pt (some (ic v, w))), some (fr (ic x)), some (fr y), some (fr (ic v)), some (fr w), some (.int c.a1), some (.int c.a2), some (.int c.a3), some (.int c.a4), some (.int c.a6), some (fr l), none]) (st_if (eb_known (eb_test (ev_eqF (ev_var (d := fr (ic x)) rfl) (ev_var (d := fr (ic v)) rfl))) hne) (fun z => Bool.noConfusion z) fun _ => st_asg1 (d := fr l) (ev_call (ea_cons (ev_all_of (rows := [[w], [ic (-1), y]]) (ev_lst (ea_cons (ev_lst (ea_cons (ev_var rfl) ea_nil)) (ea_cons (ev_lst (ea_cons (ev_sub ev_int ev_int) (ea_cons (ev_var rfl) ea_nil))) ea_nil))) h1) (ea_cons (ev_all_of (rows := [[ic v], [ic (-1), ic x]]) (ev_lst (ea_cons (ev_lst (ea_cons (ev_var rfl) ea_nil)) (ea_cons (ev_lst (ea_cons (ev_sub ev_int ev_int) (ea_cons (ev_var rfl) ea_nil))) ea_nil))) h2) ea_nil)) ?_) tg_name rfl) ?_
    · rw [sum_dif, sum_dif]
      exact ⟨_, _, s1, s2, hd0, rfl, by rw [hl]⟩
    · rintro _ rfl
      refine st_set (ev_all_of (rows := rFar c l (ic x) (ic v)) (ev_lst (ea_cons (ev_lst (ea_cons (ev_var rfl) (ea_cons (ev_var rfl) ea_nil))) (ea_cons (ev_lst (ea_cons (ev_var rfl) (ea_cons (ev_var rfl) ea_nil))) (ea_cons (ev_lst (ea_cons (ev_sub ev_int ev_int) (ea_cons (ev_var rfl) ea_nil))) (ea_cons (ev_lst (ea_cons (ev_sub ev_int ev_int) (ea_cons (ev_var rfl) ea_nil))) (ea_cons (ev_lst (ea_cons (ev_sub ev_int ev_int) (ea_cons (ev_var rfl) ea_nil))) ea_nil)))))) far) ?_
      refine st_ret (ev_tup (ea_cons (ev_var rfl) (ea_cons (ev_all_of (rows := rUp c l (ic x) y (sumL (rFar c l (ic x) (ic v)))) (ev_lst (ea_cons (ev_lst (ea_cons (ev_sub ev_int ev_int) (ea_cons (ev_var rfl) (ea_cons (ev_var rfl) ea_nil)))) (ea_cons (ev_lst (ea_cons (ev_sub ev_int ev_int) (ea_cons (ev_var rfl) (ea_cons (ev_var rfl) ea_nil)))) (ea_cons (ev_lst (ea_cons (ev_sub ev_int ev_int) (ea_cons (ev_var rfl) ea_nil))) (ea_cons (ev_lst (ea_cons (ev_var rfl) (ea_cons (ev_var rfl) ea_nil))) (ea_cons (ev_lst (ea_cons (ev_sub ev_int ev_int) (ea_cons (ev_var rfl) ea_nil))) ea_nil)))))) (by rw [sum_far]; exact up)) ea_nil))) ?_
      rw [sum_up, sum_far]
      rfl

end
end Cw
end
section
set_option linter.all false
set_option maxRecDepth 100000
set_option maxHeartbeats 1000000
set_option exponentiation.threshold 100000
namespace Cw
open PySem PySem.Spec PyProof.Rows L2
def SmX : Pt → Prop
  | none => True
  | some (x, _) => Sm x
def p__law_between (ds : List Dt) (d : Dt) : Prop := ∃ (c : Cv) (p : List Int) (q : Pt), Cb c ∧ Pap c.b2 c.b4 c.b6 c.b8 p ∧ sm4 p ∧ POk c q ∧ POk c (c.dbl q) ∧ SmX q ∧ SmX (c.dbl q) ∧ ds = [cv c, .pt q, .pt (c.dbl q), pap p, .int (lowN p : Int), .int (highN c.b2 c.b4 c.b6 c.b8 : Int)] ∧ d = .bl true
theorem hgt_lt {q : Pt} (h : SmX q) : hgt q < 2 ^ 4000 := by
  cases q with
  | none => exact Nat.one_lt_two_pow (by decide)
  | some q =>
    obtain ⟨x, y⟩ := q
    exact Nat.max_lt.mpr ⟨h.1, h.2⟩
theorem absL_lt : ∀ {l : List Int}, sm4 l → absL l ≤ l.length * 2 ^ 4000
  | [], _ => Nat.zero_le _
  | x :: r, h => by
    have h1 := absL_lt (l := r) fun y hy => h y (List.mem_cons_of_mem _ hy)
    have h2 := h x (List.mem_cons_self ..)
    have e : absL (x :: r) = x.natAbs + absL r := by simp [absL]
    rw [e, List.length_cons, Nat.add_mul, Nat.one_mul]
    omega
theorem low_lt {p : List Int} (hl : p.length = 17) (h : sm4 p) : lowN p < 2 ^ 4010 := by
  have h1 : absL ((p.drop 1).take 8) ≤ 8 * 2 ^ 4000 := by
    refine Nat.le_trans (absL_lt fun x hx => h x (List.mem_of_mem_drop (List.mem_of_mem_take hx))) (Nat.mul_le_mul_right _ ?_)
    rw [List.length_take]
    omega
  have h2 : absL (p.drop 9) ≤ 8 * 2 ^ 4000 := by
    refine Nat.le_trans (absL_lt fun x hx => h x (List.mem_of_mem_drop hx)) (Nat.mul_le_mul_right _ ?_)
    rw [List.length_drop]
    omega
  refine Nat.lt_of_le_of_lt (Nat.max_le.mpr ⟨h1, h2⟩) ?_
  rw [show (8 : Nat) = 2 ^ 3 from rfl, ← Nat.pow_add]
  exact Nat.pow_lt_pow_right (by decide) (by decide)
theorem high_lt {c : Cv} (h : Cs c) : highN c.b2 c.b4 c.b6 c.b8 < 2 ^ 4010 := by
  obtain ⟨h1, h2⟩ := form_sm h
  refine Nat.lt_of_le_of_lt (Nat.max_le.mpr ⟨Nat.le_trans (absL_lt h1) (Nat.mul_le_mul_right _ (show 5 ≤ 8 by decide)), Nat.le_trans (absL_lt h2) (Nat.mul_le_mul_right _ (show 5 ≤ 8 by decide))⟩) ?_
  rw [show (8 : Nat) = 2 ^ 3 from rfl, ← Nat.pow_add]
  exact Nat.pow_lt_pow_right (by decide) (by decide)
theorem low_pos {b2 b4 b6 b8 : Int} {p : List Int} (h : Pap b2 b4 b6 b8 p) : 1 ≤ lowN p := by
  have h1 := low_all h (X := 1) (Z := 0) (H := 1) (M := max (ff b4 b6 b8 1 0).natAbs (gg b2 b4 b6 1 0).natAbs) rfl (by decide) (by omega) (by omega)
  have h2 := h.pos
  by_cases hz : lowN p = 0
  · rw [hz, Nat.zero_mul] at h1
    omega
  · omega
theorem high_pos (b2 b4 b6 b8 : Int) : 1 ≤ highN b2 b4 b6 b8 := by
  refine Nat.le_trans ?_ (Nat.le_max_left _ _)
  show 1 ≤ ([1, 0, -b4, -2 * b6, -b8].map Int.natAbs).sum
  simp only [List.map_cons, List.sum_cons]
  omega
section
variable {P : Program} {w : World} {K : PySem.W.Frag} {mg : Str → Option Value} {base : Heap} {δ δ' : De} {ds : List Dt}
theorem tg_lst {gs : TGs} {n : Nat} (h : TgsD gs δ ds δ') (hn : ds.length = n) : TgD (gLst K n gs) δ (.lst ds) δ' := fun σ H HP v s sl r Q q => by
  obtain ⟨a, vs, rfl, ha, hr⟩ := r
  exact ⟨a, vs, rfl, sq_of (s _ _ ha), hr.len.trans hn, h σ H HP vs s sl hr Q q⟩
theorem ev_neB {ta tb : TE} {a b : Bool} (h1 : EvD ta δ (.bl a)) (h2 : EvD tb δ (.bl b)) : EvD (tOp rNe ta tb) δ (.bl (!decide (a = b))) := ev_cast (ev_ne h1 h2 rfl rfl rfl) (by cases a <;> cases b <;> rfl)
theorem bt1 {own far low : Nat} {i : Int} (hi : i = ((own : Nat) : Int) ^ 4) (h : own * own * own * own ≤ low * far) : decide ((low : Int) * (far : Int) < i) = false := decide_eq_false (by
  have e : (own : Int) ^ 4 = ((own * own * own * own : Nat) : Int) := by
    rw [Int.natCast_mul, Int.natCast_mul, Int.natCast_mul]
    grind
  rw [hi, e, ← Int.natCast_mul]
  omega)
theorem bt2 {own far high : Nat} {i : Int} (hi : i = ((own : Nat) : Int) ^ 4) (h : far ≤ high * (own * own * own * own)) : decide ((high : Int) * i < (far : Int)) = false := decide_eq_false (by
  have e : (own : Int) ^ 4 = ((own * own * own * own : Nat) : Int) := by
    rw [Int.natCast_mul, Int.natCast_mul, Int.natCast_mul]
    grind
  rw [hi, e, ← Int.natCast_mul]
  omega)

abbrev s__law_between : Stmt := topS 65
abbrev N__law_between : List Str := ["_law_curve", "_law_spot", "_law_double", "_law_paper", "_law_low_here", "_law_high", "_law_own", "_law_far", "_law_f", "_law_g", "_law_part"]
theorem sc__law_between : FnScope N__law_between ["_law_curve", "_law_spot", "_law_double", "_law_paper", "_law_low_here", "_law_high"] (defScope s__law_between) := ⟨rfl, rfl, rfl, by decide +kernel, rfl, by decide +kernel, by decide +kernel⟩
theorem ok__law_between (B : Bn mg) (F : Fu K mg "_law_between" s__law_between ["_law_curve", "_law_spot", "_law_double", "_law_paper", "_law_low_here", "_law_high"]) (h__law_doubled : Dn P w K mg base "_law_doubled" ["_law_curve", "_law_spot"] 6 (spP p__law_doubled)) (h__law_common : Dn P w K mg base "_law_common" ["_law_one", "_law_other"] 1 (spP p__law_common)) (h_height : Dn P w K mg base "height" ["curve", "point"] 10 (spP p_height)) (h__law_low : Dn P w K mg base "_law_low" ["_law_top", "_law_bottom"] 1 (spP p__law_low)) : Dn P w K mg base "_law_between" ["_law_curve", "_law_spot", "_law_double", "_law_paper", "_law_low_here", "_law_high"] 11 (spP p__law_between) := by
  refine F.ok sc__law_between (by rintro _ _ ⟨c, p, q, _, _, _, _, _, _, _, rfl, rfl⟩; rfl) (fun f cdv A outer s H E hr => ?_)
  have hu := hu_of hr
  have hu64 := hr.units
  refine ⟨_, (pss_cons (ps_par (i := 6) (j := 7) rfl sc__law_between.nd rfl rfl (by decide) rfl rfl (pa_cons (pe_fn h_height (hr.mono (by decide)) (by rfl) (pa_cons (pv 0) (pa_cons (pv 1) pa_nil))) (pa_cons (pe_fn h_height (hr.mono (by decide)) (by rfl) (pa_cons (pv 0) (pa_cons (pv 2) pa_nil))) pa_nil)) rfl)
      (pss_cons (ps_if (pw_or (pt_cmpR op_gt (pe_op op_powP (pv 6) pe_int) (pe_op op_mulW (pv 4) (pv 7)) (nomark _)) (pw_or1 (pt_cmpR op_gt (pv 7) (pe_op op_mulW (pv 5) (pe_op op_powP (pv 6) pe_int)) (nomark _)))).pt (pss_one (ps_ret pe_bl)) pss_nil)
      (pss_cons (ps_if (pt_cmp (pc_isN (pv 1))) (pss_one (ps_ret (pe_and (pe_cmpR op_eq (pv 6) pe_int (nomark _)) (pe_one (pe_cmpR op_eq (pv 7) pe_int (nomark _)))))) pss_nil)
      (pss_cons (ps_asg (pe_fn h__law_doubled (hr.mono (by decide)) (by rfl) (pa_cons (pv 0) (pa_cons (pv 1) pa_nil))) (pg_lst rfl (pgs_cons (pg_name (i := 8) sc__law_between.nd rfl (.inl rfl)) (pgs_cons (pg_name (i := 9) sc__law_between.nd rfl (.inl rfl)) pgs_nil))))
      (pss_cons (ps_set (i := 10) sc__law_between.nd rfl (.inl rfl) (pe_fn h__law_common (hr.mono (by decide)) (by rfl) (pa_cons (pv 8) (pa_cons (pv 9) pa_nil))))
      (pss_cons (ps_if (pw_or (pt_cmpR op_ne (pe_op op_modN (pe_ix (kIxT (K := K) rfl) (pv 3) pe_int (fun _ _ => rfl)) (pv 10)) pe_int (nomark _)) (pw_or1 (pt_cmpR op_ne (pe_cmp (pc_isN (pv 2))) (pe_cmpR op_eq (pv 9) pe_int (nomark _)) (nomark _)))).pt (pss_one (ps_ret pe_bl)) pss_nil)
      (pss_one (ps_ret (pe_or (pe_cmp (pc_isN (pv 2))) (pe_one (pe_cmpR (kEqD (K := K) rfl hu64) (pe_fn h__law_low (hr.mono (by decide)) (by rfl) (pa_cons (pv 8) (pa_cons (pv 9) pa_nil))) (pe_ix (kIxT (K := K) rfl) (pv 2) pe_int (fun _ _ => rfl)) (nomark _)))))))))))), fun ds d hp => ?_⟩
  obtain ⟨c, p, q, hc, hp, hs, ok1, ok2, sx1, sx2, rfl, rfl⟩ := hp
  have hn1 : ∀ n : Nat, ((n : Int)).natAbs = n := Int.natAbs_natCast
  have ho := hgt_lt sx1
  have hf := hgt_lt sx2
  have hlo := low_lt hp.len hs
  have hhi := high_lt hc.cs
  have hdv : p_height [cv c, .pt q] (.int (hgt q : Int)) := ⟨c, q, hc.cs, hc.d, ok1, rfl, rfl⟩
  have hdv2 : p_height [cv c, .pt (c.dbl q)] (.int (hgt (c.dbl q) : Int)) := ⟨c, c.dbl q, hc.cs, hc.d, ok2, rfl, rfl⟩
  have hbt : hgt q * hgt q * hgt q * hgt q ≤ lowN p * hgt (c.dbl q) ∧ hgt (c.dbl q) ≤ highN c.b2 c.b4 c.b6 c.b8 * (hgt q * hgt q * hgt q * hgt q) := by
    cases q with
    | none =>
      have h1 := low_pos hp
      have h2 := high_pos c.b2 c.b4 c.b6 c.b8
      show 1 * 1 * 1 * 1 ≤ lowN p * 1 ∧ 1 ≤ highN c.b2 c.b4 c.b6 c.b8 * (1 * 1 * 1 * 1)
      omega
    | some q =>
      obtain ⟨x, y⟩ := q
      have h := btw hp ok1.on
      exact ⟨h.2.2.1, h.2.2.2⟩
  refine st_par (ea_cons (ev_call (ea_cons (ev_var rfl) (ea_cons (ev_var rfl) ea_nil)) hdv) (ea_cons (ev_call (ea_cons (ev_var rfl) (ea_cons (ev_var rfl) ea_nil)) hdv2) ea_nil)) ?_
  have pw : ∀ {δ : De} {ta : TE}, EvD ta δ (.int (hgt q : Int)) → EvD (tOp (rI CPowP fun i j => .int (i ^ j.toNat)) ta (tC (.int 4))) δ (.int ((hgt q : Int) ^ 4)) := fun h1 => ev_pow (n := 4) h1 ev_int (pow_ok (b := 4000) (by rw [hn1]; exact ho) (by decide) (by decide))
  have p4 : (((hgt q : Nat) : Int) ^ 4).natAbs < 2 ^ (4000 * 4) := pow_lt_of (by rw [hn1]; exact ho) (by decide)
  generalize hi : ((hgt q : Nat) : Int) ^ 4 = i4 at *
  refine st_ifF (eb_known (eb_or (eb_test (ev_gt (pw (ev_var rfl)) (ev_mul (ev_var rfl) (ev_var rfl) (mul_ok (a := 4010) (b := 4000) (by rw [hn1]; exact hlo) (by rw [hn1]; exact hf) (by decide))))) fun _ => eb_test (ev_gt (ev_var rfl) (ev_mul (ev_var rfl) (pw (ev_var rfl)) (mul_ok (a := 4010) (b := 16000) (by rw [hn1]; exact hhi) p4 (by decide))))) (by rw [bt1 hi.symm hbt.1, bt2 hi.symm hbt.2]; rfl)) ?_
  cases q with
  | none =>
    exact st_seq (nx1 := fun _ => False) (st_if (eb_B (ev_isN (ev_var rfl))) (fun _ => st_ret (ev_andV (ev_eqI (ev_var rfl) ev_int) fun _ => ev_eqI (ev_var rfl) ev_int) rfl) (fun z => Bool.noConfusion z)) (fun _ z => z.elim)
  | some q =>
    obtain ⟨x, y⟩ := q
    obtain ⟨b1, b2, _, _⟩ := btw hp ok1.on
    have hg := G_zero ok1.on
    have hpos := hp.pos
    have hgn : (Int.gcd (c.F x) (c.G x) : Int) ≠ 0 := by
      rcases b1 with z | z
      · have := Int.gcd_pos_of_ne_zero_left (c.G x) z
        omega
      · have := Int.gcd_pos_of_ne_zero_right (c.F x) z
        omega
    have hgl : Int.gcd (c.F x) (c.G x) < 2 ^ 9000 := by
      have h1 : Int.gcd (c.F x) (c.G x) ≤ (p.getD 0 0).natAbs := Nat.le_of_dvd (by omega) (by have h9 := Int.natAbs_dvd_natAbs.mpr b2; rwa [Int.natAbs_natCast] at h9)
      have h2 : (p.getD 0 0).natAbs < 2 ^ 4000 := by
        rw [List.getD_eq_getElem?_getD]
        cases e : p[0]? with
        | none => decide
        | some z => exact hs z (List.mem_of_getElem? e)
      exact Nat.lt_of_le_of_lt h1 (Nat.lt_of_lt_of_le h2 (Nat.pow_le_pow_right (by decide) (by decide)))
    have hmod : (p.getD 0 0).fmod (Int.gcd (c.F x) (c.G x) : Int) = 0 := by
      obtain ⟨k, hk⟩ := b2
      rw [hk]
      exact Int.mul_fmod_right ..
    refine st_ifF (eb_known (eb_B (ev_isN (ev_var rfl))) rfl) ?_
    refine st_asg (ev_call (ea_cons (ev_var rfl) (ea_cons (ev_var rfl) ea_nil)) ⟨c, x, y, hc.cs, sx1, rfl, rfl⟩) (tg_lst (tgs_cons tg_name (tgs_cons tg_name tgs_nil)) rfl) ?_
    refine st_set (ev_call (ea_cons (ev_var rfl) (ea_cons (ev_var rfl) ea_nil)) ⟨c.F x, c.G x, rfl, rfl⟩) ?_
    have hpap : ∃ a b e f, pap p = .tup [a, b, e, f, .int (p.getD 0 0)] := ⟨_, _, _, _, rfl⟩
    obtain ⟨pa, pb, pe, pf, hpe⟩ := hpap
    have gp : ∀ {δ : De} {ta : TE}, EvD ta δ (pap p) → EvD (tOp (rIxT K) ta (tC (.int 4))) δ (.int (p.getD 0 0)) := fun h1 => by
      rw [hpe] at h1
      exact ev_ixT h1 ev_int (n := 4) rfl rfl
    generalize pap p = pp at *
    generalize p.getD 0 0 = p0 at *
    by_cases h0 : c.psi x y = 0
    · have e1 : c.dbl (some (x, y)) = none := by simp [Cv.dbl, h0]
      have hG0 := hg.mpr h0
      rw [e1]
      refine st_ifF (eb_known (eb_or (eb_test (ev_neI (ev_mod (gp (ev_var rfl)) (ev_var rfl) hgn) ev_int)) fun _ => eb_test (ev_neB (ev_isN (ev_var rfl)) (ev_eqI (ev_var rfl) ev_int))) (by rw [hmod, decide_eq_true hG0]; rfl)) ?_
      exact st_ret (ev_orV (b := true) (ev_isN (ev_var rfl)) fun z => Bool.noConfusion z) rfl
    · have e1 : c.dbl (some (x, y)) = some (c.addX (c.slope x y) x x, c.addY (c.slope x y) x y (c.addX (c.slope x y) x x)) := by simp [Cv.dbl, h0]
      have hG0 : c.G x ≠ 0 := fun z => h0 (hg.mp z)
      have hFG := FG_dbl ok1.on h0
      rw [e1]
      generalize c.addX (c.slope x y) x x = X2 at *
      generalize c.addY (c.slope x y) x y X2 = Y2 at *
      refine st_ifF (eb_known (eb_or (eb_test (ev_neI (ev_mod (gp (ev_var rfl)) (ev_var rfl) hgn) ev_int)) fun _ => eb_test (ev_neB (ev_isN (ev_var rfl)) (ev_eqI (ev_var rfl) ev_int))) (by rw [hmod, decide_eq_false hG0]; rfl)) ?_
      refine st_ret (ev_orV (ev_isN (ev_var rfl)) fun _ => ev_eqF (r := X2) (ev_call (ea_cons (ev_var rfl) (ea_cons (ev_var rfl) ea_nil)) ⟨c.F x, c.G x, hG0, hgl, rfl, rfl⟩) (ev_ixT (ds := [fr X2, fr Y2]) (ev_var rfl) ev_int (n := 0) rfl rfl)) ?_
      rw [hFG, decide_eq_true rfl]
      rfl

end
end Cw
end
section
set_option linter.all false
set_option maxRecDepth 100000
set_option maxHeartbeats 1000000
set_option exponentiation.threshold 100000
namespace Cw
open PySem PySem.Spec PyProof.Rows L2
/-! ### the law's own state: a dict, a list -/
abbrev kRun : Key := .inr "run"
abbrev kGreat : Key := .inr "great"
abbrev kTurn : Key := .inr "turn"
theorem kRG : ¬ kRun = kGreat := by decide
theorem kRT : ¬ kRun = kTurn := by decide
theorem kGT : ¬ kGreat = kTurn := by decide
theorem kGR : ¬ kGreat = kRun := by decide
theorem kTR : ¬ kTurn = kRun := by decide
def memK (r : Int) (G : Addr) (t : Nat) : List (Key × V) := [(kRun, .int r), (kGreat, .ref G), (kTurn, .int (t : Int))]
theorem memK_run (r : Int) (G : Addr) (t : Nat) : valV (memK r G t) kRun = some (.int r) := by simp [memK, valV]
theorem memK_great (r : Int) (G : Addr) (t : Nat) : valV (memK r G t) kGreat = some (.ref G) := by
  have h := kRG
  simp only [kRun, kGreat] at h
  simp [memK, valV, h]
theorem memK_turn (r : Int) (G : Addr) (t : Nat) : valV (memK r G t) kTurn = some (.int (t : Int)) := by
  have h := kRT
  have h2 := kGT
  simp only [kRun, kGreat, kTurn] at h h2
  simp [memK, valV, h, h2]
theorem memK_putT (r : Int) (G : Addr) (t t2 : Nat) : putK (memK r G t) kTurn (.int (t2 : Int)) = memK r G t2 := by
  have h := kRT
  have h2 := kGT
  simp only [kRun, kGreat, kTurn] at h h2
  simp [memK, putK, h, h2]
theorem memK_putR (r r2 : Int) (G : Addr) (t : Nat) : putK (memK r G t) kRun (.int r2) = memK r2 G t := by
  have h := kGR
  have h2 := kTR
  simp only [kRun, kGreat, kTurn] at h h2
  simp [memK, putK, h, h2]
/-- as it stands -/
structure MD (M G : Addr) (r : Int) (t : Nat) (gs : List Int) (H P : Hp) : Prop where
  pm : P M = none
  pg : P G = none
  ne : M ≠ G
  hm : H M = some (.dK (memK r G t))
  hg : H G = some (.lst (gs.map V.int))
structure MB (r : Int) (t : Nat) (gs : List Int) (n : Nat) : Prop where
  len : gs.length ≤ 100
  run : r.natAbs < 2 ^ 100
  turn : t ≤ n
def MS (M G : Addr) (n : Nat) : HpP := fun H P => ∃ (r : Int) (t : Nat) (gs : List Int), MB r t gs n ∧ MD M G r t gs H P
theorem MD.ext {M G : Addr} {r : Int} {t : Nat} {gs : List Int} {H P H' P' : Hp} (h : MD M G r t gs H P) (e : Ext H P H' P') : MD M G r t gs H' P' :=
  ⟨(e.keepOut h.hm h.pm).2, (e.keepOut h.hg h.pg).2, h.ne, (e.keepOut h.hm h.pm).1, (e.keepOut h.hg h.pg).1⟩
structure Bs (H0 P0 : Hp) (M G : Addr) (H P : Hp) : Prop where
  ext : Ext H0 P0 H P
  m : H0 M = none
  g : H0 G = none
def Bd (H0 P0 : Hp) (M G : Addr) (r : Int) (t : Nat) (gs : List Int) : HpP := fun H P => Bs H0 P0 M G H P ∧ MD M G r t gs H P
def Bm (H0 P0 : Hp) (M G : Addr) (n : Nat) : HpP := fun H P => Bs H0 P0 M G H P ∧ MS M G n H P
section
variable {H0 P0 : Hp} {M G D : Addr} {n m : Nat} {r : Int} {t : Nat} {gs : List Int}
theorem bd_stab : Stab (Bd H0 P0 M G r t gs) := fun H P H' P' a e => ⟨⟨a.1.ext.trans e, a.1.m, a.1.g⟩, a.2.ext e⟩
theorem bm_stab : Stab (Bm H0 P0 M G n) := fun H P H' P' ⟨a, r, t, gs, b, c⟩ e => ⟨⟨a.ext.trans e, a.m, a.g⟩, r, t, gs, b, c.ext e⟩
theorem bm_le (h : n ≤ m) {H P : Hp} (x : Bm H0 P0 M G n H P) : Bm H0 P0 M G m H P := by
  obtain ⟨a, r, t, gs, b, c⟩ := x
  exact ⟨a, r, t, gs, ⟨b.len, b.run, Nat.le_trans b.turn h⟩, c⟩
theorem bm_tol (h0 : H0 D = none) (h1 : D ≠ M) (h2 : D ≠ G) : Tol (Bm H0 P0 M G n) D := by
  refine ⟨fun H P o ⟨a, r, t, gs, b, c⟩ hp => ⟨⟨a.ext.mut h0 hp, a.m, a.g⟩, r, t, gs, b, c.pm, c.pg, c.ne, ?_, ?_⟩, fun H P o ⟨a, r, t, gs, b, c⟩ hh hp => ⟨⟨a.ext.freeze h0 hh, a.m, a.g⟩, r, t, gs, b, ?_, ?_, c.ne, c.hm, c.hg⟩⟩
  · rw [upd_ne (Ne.symm h1)]; exact c.hm
  · rw [upd_ne (Ne.symm h2)]; exact c.hg
  · rw [upd_ne (Ne.symm h1)]; exact c.pm
  · rw [upd_ne (Ne.symm h2)]; exact c.pg
theorem bm_new {H P : Hp} (x : Bm H0 P0 M G n H P) (h : H D = none) (m : Nat) : Tol (Bm H0 P0 M G m) D := by
  obtain ⟨a, r, t, gs, b, c⟩ := x
  refine bm_tol (a.ext.big.free h) ?_ ?_
  · rintro rfl; rw [c.hm] at h; cases h
  · rintro rfl; rw [c.hg] at h; cases h
end
def cut2 (H : Hp) (M G : Addr) : Hp := less (less H M) G
theorem cut2_ne {H : Hp} {M G a : Addr} (h1 : a ≠ M) (h2 : a ≠ G) : cut2 H M G a = H a := by
  unfold cut2
  rw [less_ne h2, less_ne h1]
theorem cut2_m {H : Hp} {M G : Addr} : cut2 H M G M = none := by
  unfold cut2 less
  split
  · rfl
  · exact if_pos rfl
theorem cut2_g {H : Hp} {M G : Addr} : cut2 H M G G = none := less_at
theorem cut2_ext {H HP : Hp} {M G : Addr} (s : Same HP H) : Ext (cut2 H M G) HP H HP := ⟨fun a o e => by
  have h1 : a ≠ M := by rintro rfl; rw [cut2_m] at e; cases e
  have h2 : a ≠ G := by rintro rfl; rw [cut2_g] at e; cases e
  rw [cut2_ne h1 h2] at e
  exact e, Same.refl _, s, fun a o e => .inl e⟩
theorem cut2_trans {H0 P0 H1 P1 H' P' : Hp} {M G : Addr} (e1 : Ext H0 P0 H1 P1) (hm : H0 M = none) (hg : H0 G = none) (e2 : Ext (cut2 H1 M G) P1 H' P') : Ext H0 P0 H' P' := ⟨fun a o e => by
  have h1 : a ≠ M := by rintro rfl; rw [hm] at e; cases e
  have h2 : a ≠ G := by rintro rfl; rw [hg] at e; cases e
  exact e2.big _ _ (by rw [cut2_ne h1 h2]; exact e1.big _ _ e), e1.part.trans e2.part, e2.sub, fun a o e => by
  rcases e2.new _ _ e with z | z
  · exact e1.new _ _ z
  · by_cases h1 : a = M
    · subst h1; exact .inr hm
    · by_cases h2 : a = G
      · subst h2; exact .inr hg
      · rw [cut2_ne h1 h2] at z
        exact .inr (e1.big.free z)⟩
/-- a def that draws -/
def spM (a : Nat) (dom : List Dt → Prop) (res : List Dt → Dt → Prop) : Sp := fun vs H Q _ => ∃ (HP : Hp) (M G : Addr) (n : Nat) (ws : List V) (ds : List Dt), Same HP H ∧ vs = .ref M :: ws ∧ MS M G n H HP ∧ n + a ≤ 100000 ∧ Reps HP ds ws ∧ dom ds ∧
  ∀ d v H' P', res ds d → Ext (cut2 H M G) HP H' P' → MS M G (n + a) H' P' → Rep P' d v → Q v H'
section
variable {K : PySem.W.Frag} {δ δ1 δ2 : De} {d : Dt} {ds : List Dt} {S S' S1 : HpP} {N1 N2 : Dt → HpP} {N : De → HpP} {R : Dt → HpP} {te ta tb ti : TE} {tA : TA} {t : TT} {a b u : TS} {g : TG} {H0 P0 : Hp} {M G D : Addr} {n : Nat}
theorem er_callM {k i : Nat} {dom : List Dt → Prop} {res : List Dt → Dt → Prop} {E : XK} (hi : δ[i]? = some (some (.adr M))) (h : EvA tA δ ds) (hd : dom ds) (hn : n + k ≤ 100000) : EvR (tCall (spM k dom res) [] E (tCons (tVar i) tA)) δ (Bm H0 P0 M G n) (fun d H P => res ds d ∧ Bm H0 P0 M G (n + k) H P) := fun σ H HP s x sl Q q => by
  refine ⟨.ref M, slot_at sl hi, h σ H HP s sl _ fun ws H1 P1 e1 r1 => ?_⟩
  have x1 := bm_stab _ _ _ _ x e1
  exact ⟨P1, M, G, n, ws, ds, e1.sub, List.append_nil _, x1.2, hn, r1, hd, fun d v H' P' hr e2 m2 rv => q d v H' P' ⟨hr, ⟨cut2_trans x1.1.ext x1.1.m x1.1.g e2, x1.1.m, x1.1.g⟩, m2⟩ e2.sub (e1.part.trans e2.part) rv⟩
theorem er_imp (h : EvR te δ S N1) (k : ∀ d H P, N1 d H P → N2 d H P) : EvR te δ S N2 := fun σ H HP s x sl Q q => h σ H HP s x sl Q fun d v H' P' n => q d v H' P' (k _ _ _ n)
theorem er_subc {T : Int → Prop} {j : Int} (h : EvR ta δ S (fun d H P => (∃ i, d = .int i ∧ T i) ∧ S' H P)) (hS : Stab S') (hb : EvD tb δ (.int j)) : EvR (tOp (rI0 fun i j => .int (i - j)) ta tb) δ S (fun d H P => (∃ i, d = .int (i - j) ∧ T i) ∧ S' H P) := fun σ H HP s x sl Q q =>
  h σ H HP s x sl _ fun d v H1 P1 ⟨⟨i, ed, ti⟩, x1⟩ s1 p1 rv => hb σ H1 P1 s1 (sl.mono p1) _ fun w H2 P2 e2 r2 => by
    subst ed
    exact ⟨i, j, rv, r2, q (.int (i - j)) _ H2 P2 ⟨⟨i, rfl, ti⟩, hS _ _ _ _ x1 e2⟩ e2.sub (p1.trans e2.part) rfl⟩
theorem er_addc {T : Int → Prop} {j : Int} (ha : EvD ta δ (.int j)) (hS : Stab S) (h : EvR tb δ S (fun d H P => (∃ i, d = .int i ∧ T i) ∧ S' H P)) : EvR (tOp (rI0 fun i j => .int (i + j)) ta tb) δ S (fun d H P => (∃ i, d = .int (j + i) ∧ T i) ∧ S' H P) := fun σ H HP s x sl Q q =>
  ha σ H HP s sl _ fun v H1 P1 e1 r1 => h σ H1 P1 e1.sub (hS _ _ _ _ x e1) (sl.mono e1.part) _ fun d w H2 P2 ⟨⟨i, ed, ti⟩, x2⟩ s2 p2 rw' => by
    subst ed
    exact ⟨j, i, r1, rw', q (.int (j + i)) _ H2 P2 ⟨⟨i, rfl, ti⟩, x2⟩ s2 (e1.part.trans p2) rfl⟩
theorem er_ifT (h : EvB t δ true) (hS : Stab S) (ha : EvR ta δ S N1) : EvR (tIf t ta tb) δ S N1 := fun σ H HP s x sl Q q => h σ H HP s sl _ fun H1 P1 e1 => by
  rw [if_pos rfl]
  exact ha σ H1 P1 e1.sub (hS _ _ _ _ x e1) (sl.mono e1.part) Q fun d v H2 P2 n2 s2 p2 => q d v H2 P2 n2 s2 (e1.part.trans p2)
theorem sr_asgR (h : EvR te δ S N1) (k : ∀ d H P, N1 d H P → ∃ δ1 S2, TgD g δ d δ1 ∧ S2 H P ∧ StR u δ1 S2 N R) : StR (tSeq (tAsg te g) u) δ S N R := fun σ H HP s x sl D q1 q2 =>
  h σ H HP s x sl _ fun d v H1 P1 n1 s1 p1 rv => by
    obtain ⟨δ1, S2, tg, x2, hu⟩ := k d H1 P1 n1
    exact tg σ H1 P1 v s1 (sl.mono p1) rv _ fun σ' sl' => hu σ' H1 P1 s1 x2 sl' D (fun δ2 σ2 H2 P2 n2 s2 p2 sl2 => q1 δ2 σ2 H2 P2 n2 s2 (p1.trans p2) sl2) fun d v H2 P2 r s2 p2 rv => q2 d v H2 P2 r s2 (p1.trans p2) rv
theorem sr_retR (h : EvR te δ S R) : StR (tRet te) δ S N R := fun σ H HP s x sl D _ q2 => h σ H HP s x sl _ fun d v H1 P1 r s1 p1 rv => q2 d v H1 P1 r s1 p1 rv
/-- if drawn == j: either -/
theorem sr_ifR {T : Int → Prop} {j : Int} (h : EvR ta δ S (fun d H P => (∃ i, d = .int i ∧ T i) ∧ S' H P)) (h1 : StR a δ S' N R) (h2 : StR b δ S' N R) : StR (tIfS (tTest (tOp rEq ta (tC (.int j)))) a b) δ S N R := fun σ H HP s x sl D q1 q2 =>
  h σ H HP s x sl _ fun d v H1 P1 ⟨⟨i, ed, ti⟩, x1⟩ s1 p1 rv => by
    subst ed
    cases (show v = .int i from rv)
    refine ⟨rfl, _, rfl, ?_⟩
    have k1 : ∀ δ2 σ2 H2 P2, N δ2 H2 P2 → Same P2 H2 → Same P1 P2 → Sl P2 σ2 δ2 → D.nx σ2 H2 := fun δ2 σ2 H2 P2 n2 s2 p2 sl2 => q1 δ2 σ2 H2 P2 n2 s2 (p1.trans p2) sl2
    have k2 : ∀ d v H2 P2, R d H2 P2 → Same P2 H2 → Same P1 P2 → Rep P2 d v → D.rt v H2 := fun d v H2 P2 r s2 p2 rv => q2 d v H2 P2 r s2 (p1.trans p2) rv
    cases decide (V.int i = V.int j) with
    | true =>
      exact h1 σ H1 P1 s1 x1 (sl.mono p1) D k1 k2
    | false =>
      exact h2 σ H1 P1 s1 x1 (sl.mono p1) D k1 k2
/-- arguments that draw -/
def EaR (tA : TA) (δ : De) (S : HpP) (N : List Dt → HpP) : Prop := ∀ (σ : L2.St) (H HP : Hp), Same HP H → S H HP → Sl HP σ δ → ∀ Q : List V → Hp → Prop, (∀ ds vs H' P', N ds H' P' → Same P' H' → Same HP P' → Reps P' ds vs → Q vs H') → tA σ H Q
theorem ear_of (h : EvA tA δ ds) (hS : Stab S) : EaR tA δ S (fun es H P => es = ds ∧ S H P) := fun σ H HP s x sl Q q => h σ H HP s sl _ fun vs H1 P1 e1 r1 => q ds vs H1 P1 ⟨rfl, hS _ _ _ _ x e1⟩ e1.sub e1.part r1
theorem ear_cons {tr : TA} {T : Dt → Prop} {U : Dt → List Dt → HpP} (h : EvR ta δ S (fun d H P => T d ∧ S' H P)) (k : ∀ d, T d → EaR tr δ S' (U d)) : EaR (tCons ta tr) δ S (fun ds H P => ∃ d r, ds = d :: r ∧ T d ∧ U d r H P) := fun σ H HP s x sl Q q =>
  h σ H HP s x sl _ fun d v H1 P1 ⟨td, x1⟩ s1 p1 rv => k d td σ H1 P1 s1 x1 (sl.mono p1) _ fun ds vs H2 P2 n2 s2 p2 r2 => q (d :: ds) (v :: vs) H2 P2 ⟨d, ds, rfl, td, n2⟩ s2 (p1.trans p2) ⟨v, vs, rfl, rv.mono p2, r2⟩
theorem er_call {pre : List Dt → Dt → Prop} {E : XK} {N0 : List Dt → HpP} (h : EaR tA δ S N0) (hp : ∀ ds H P, N0 ds H P → ∃ d S2, pre ds d ∧ S2 H P ∧ Stab S2 ∧ ∀ H' P', S2 H' P' → N1 d H' P') : EvR (tCall (spP pre) [] E tA) δ S N1 := fun σ H HP s x sl Q q =>
  h σ H HP s x sl _ fun ds vs H1 P1 n1 s1 p1 r1 => by
    obtain ⟨d, S2, hpre, x2, st2, k⟩ := hp ds H1 P1 n1
    exact ⟨P1, ds, d, s1, by rw [List.append_nil]; exact r1, hpre, fun v H' P' e2 rv => q d v H' P' (k _ _ (st2 _ _ _ _ x2 e2)) e2.sub (p1.trans e2.part) rv⟩
theorem er_tup {N0 : List Dt → HpP} (h : EaR tA δ S N0) (hl : ∀ ds H P, N0 ds H P → ds.length ≤ 1000 ∧ ∃ S2, S2 H P ∧ Stab S2 ∧ ∀ H' P', S2 H' P' → N1 (.tup ds) H' P') : EvR (tTup tA) δ S N1 := fun σ H HP s x sl Q q =>
  h σ H HP s x sl _ fun ds vs H1 P1 n1 s1 p1 r1 => by
    obtain ⟨hle, S2, x2, st2, k⟩ := hl ds H1 P1 n1
    refine ⟨by rw [r1.len]; exact sz1000 hle, fun p hp => ?_⟩
    have e2 := Ext.upd (o := .tup vs) s1 hp
    exact q (.tup ds) _ _ _ (k _ _ (st2 _ _ _ _ x2 e2)) e2.sub (p1.trans e2.part) ⟨p, vs, rfl, upd_same, r1.mono e2.part⟩
theorem sr_par3R {i j l : Nat} {N0 : List Dt → HpP} (h : EaR tA δ S N0) (k : ∀ ds H P, N0 ds H P → ∃ x y z S2, ds = [x, y, z] ∧ S2 H P ∧ StR u (((δ.set i (some x)).set j (some y)).set l (some z)) S2 N R) : StR (tSeq (tPar3 i j l tA) u) δ S N R := fun σ H HP s x sl D q1 q2 =>
  h σ H HP s x sl _ fun ds vs H1 P1 n1 s1 p1 r1 => by
    obtain ⟨x', y, z, S2, rfl, x2, hu⟩ := k ds H1 P1 n1
    obtain ⟨a, r, rfl, ra, rr⟩ := r1
    obtain ⟨b, c, rfl, rb, rc⟩ := reps2 rr
    exact ⟨a, b, c, rfl, hu _ H1 P1 s1 x2 ((((sl.mono p1).set ra i).set rb j).set rc l) D (fun δ2 σ2 H2 P2 n2 s2 p2 sl2 => q1 δ2 σ2 H2 P2 n2 s2 (p1.trans p2) sl2) fun d v H2 P2 r s2 p2 rv => q2 d v H2 P2 r s2 (p1.trans p2) rv⟩
/-- a comprehension that draws at each turn -/
theorem er_lcM {wi : TI} {i : Nat} {vs : List Nat} {T : Dt → Prop} (hs : SrcD wi δ ds) (hi : i ∈ vs) (hl : ds.length ≤ 1000)
    (hd : ∀ A0 B0 k d, ds[k]? = some d → EvR te ((wipeD δ vs).set i (some d)) (Bm A0 B0 M G (n + k)) (fun e H P => T e ∧ Bm A0 B0 M G (n + (k + 1)) H P)) :
    EvR (tLc wi (gName i) tYes te vs) δ (Bm H0 P0 M G n) (fun d H P => (∃ es, d = .lst es ∧ es.length = ds.length ∧ ∀ e, e ∈ es → T e) ∧ Bm H0 P0 M G (n + ds.length) H P) := fun σ H HP s x sl Q q =>
  hs σ H HP s sl _ fun J H1 P1 e1 hw D hD => by
    obtain ⟨Gg, Y, w, hG, hY⟩ := hw
    have x1 := bm_stab _ _ _ _ x e1
    have tol := fun m => bm_new x1 hD m
    have hDM : D ≠ M := by
      obtain ⟨_, r, t, gs, b, c⟩ := x1
      rintro rfl; rw [c.hm] at hD; cases hD
    have hDG : D ≠ G := by
      obtain ⟨_, r, t, gs, b, c⟩ := x1
      rintro rfl; rw [c.hg] at hD; cases hD
    refine lc_it w (fun k H' => ∃ acc es P', Same P1 P' ∧ Same P' H' ∧ Bm H0 P0 M G (n + k) H' P' ∧ P' D = none ∧ H' D = some (.lst acc) ∧ acc.length = k ∧ es.length = k ∧ Reps P' es acc ∧ ∀ e, e ∈ es → T e) ?_ ?_ ?_ ?_
    · have e2 := Ext.own (o := .lst []) e1.sub hD
      exact ⟨[], [], P1, Same.refl _, e2.sub, bm_stab _ _ _ _ x1 e2, e1.sub.free hD, upd_same, rfl, rfl, rfl, fun e he => by cases he⟩
    · rintro k H' _ ⟨acc, es, P', p, s', _⟩
      exact hG _ (p.trans s')
    · rintro k y H' H3 hk ⟨acc, es, P', p, s', xb, hPD, hHD, hla, hle, hr, hT⟩ yy
      obtain ⟨P3, d, hdi, e3, rd⟩ := hY k y H' H3 P' hk p s' yy
      have sl3 : Sl P3 (wipe σ vs) (wipeD δ vs) := (sl.mono (e1.part.trans (p.trans e3.part))).wipe vs
      obtain ⟨hHD3, hPD3⟩ := e3.keepOut hHD hPD
      refine ⟨by rw [wipe_set_in hi]; exact wipe_idem, ?_⟩
      have xb3 := bm_stab _ _ _ _ xb e3
      -- the list in the making stays
      refine hd (cut2 H3 M G) P3 k d hdi _ H3 P3 e3.sub ⟨⟨cut2_ext e3.sub, cut2_m, cut2_g⟩, xb3.2⟩ (sl3.set rd i) _ fun e v H5 P5 ⟨te', xb5'⟩ s5 p5 rv => ?_
      obtain ⟨hHD5, hPD5⟩ := xb5'.1.ext.keepOut (p := D) (o := .lst acc) (by rw [cut2_ne hDM hDG]; exact hHD3) hPD3
      have xb5 : Bm H0 P0 M G (n + (k + 1)) H5 P5 := ⟨⟨cut2_trans xb3.1.ext xb3.1.m xb3.1.g xb5'.1.ext, xb3.1.m, xb3.1.g⟩, xb5'.2⟩
      refine ⟨acc, hHD5, small1000 (by omega), acc ++ [v], es ++ [e], P5, p.trans (e3.part.trans p5), same_put s5 hPD5, (tol _).chg _ _ _ xb5 hPD5, hPD5, upd_same, by rw [List.length_append, hla]; rfl, by rw [List.length_append, hle]; rfl, (hr.mono (e3.part.trans p5)).app ⟨v, [], rfl, rv, rfl⟩, fun z hz => ?_⟩
      rcases List.mem_append.mp hz with hz | hz
      · exact hT z hz
      · cases List.mem_singleton.mp hz
        exact te'
    · rintro H' ⟨acc, es, P', p, s', xb, hPD, hHD, hla, hle, hr, hT⟩
      exact q (.lst es) _ H' (upd P' D (.lst acc)) ⟨⟨es, rfl, hle, hT⟩, (tol _).frz _ _ _ xb hHD hPD⟩ (frz_same s' hHD) (e1.part.trans (p.trans (same_freeze hPD))) ⟨D, acc, rfl, upd_same, hr.mono (same_freeze hPD)⟩
end
section
variable {P : Program} {w : World} {K : PySem.W.Frag} {mg : Str → Option Value} {base : Heap} {x : Str} {st : Stmt} {N ps : List Str} {k : Nat}
theorem Fu.okM {a : Nat} {dom : List Dt → Prop} {res : List Dt → Dt → Prop} (F : Fu K mg x st ps) (S : FnScope N ps (defScope st)) (len : ∀ ds, dom ds → ds.length + 1 = ps.length)
    (hbody : ∀ (f : Addr) (cdv : Value) (A : Around) (outer : List Env) (s : Shared) (H : Hp) (E : XK), Room k (A.deeper (envOfC x (defScope st) s.heap.objs.size f cdv)) →
      ∃ t, PSs (cxOf CX0 P w K mg base N x (defScope st) f cdv A outer s H E).nox (defBody st) t ∧ ∀ ds M G n H0 P0, dom ds → n + a ≤ 100000 → StR t (startD N (.adr M :: ds)) (Bm H0 P0 M G n) (fun _ _ _ => False) (fun d H P => res ds d ∧ Bm H0 P0 M G (n + a) H P)) : Dn P w K mg base x ps (k + 1) (spM a dom res) := by
  refine F.raw S (fun vs H Q E h => ?_) (fun f cdv A outer s H vs Q E hr h => ?_)
  · obtain ⟨HP, M, G, n, ws, ds, _, rfl, _, _, hr, hd, _⟩ := h
    rw [List.length_cons, hr.len, len ds hd]
  · obtain ⟨HP, M, G, n, ws, ds, hs, rfl, hm, hn, hrep, hd, q⟩ := h
    obtain ⟨t, ht, hst⟩ := hbody f cdv A outer s H E hr
    exact ⟨t, ht, hst ds M G n (cut2 H M G) HP hd hn _ H HP hs ⟨⟨cut2_ext hs, cut2_m, cut2_g⟩, hm⟩ (sl_start (ds := .adr M :: ds) ⟨.ref M, ws, rfl, rfl, hrep⟩) _ (fun _ _ _ _ z => z.elim) fun d v H' P' ⟨hr', b⟩ _ _ rv => q d v H' P' hr' b.1.ext b.2 rv⟩
end
end Cw
end
section
set_option linter.all false
set_option maxRecDepth 100000
set_option maxHeartbeats 1000000
set_option exponentiation.threshold 100000
namespace Cw
open PySem PySem.Spec PyProof.Rows L2
def dmDraw (ds : List Dt) : Prop := ∃ top : Nat, 0 < top ∧ top ≤ 1000 ∧ ds = [.int (top : Int)]
def rsDraw (ds : List Dt) (d : Dt) : Prop := ∃ (top : Nat) (k : Int), ds = [.int (top : Int)] ∧ d = .int k ∧ 0 ≤ k ∧ k < (top : Int)
def dmOf (ds : List Dt) : Prop := ∃ es : List Dt, es ≠ [] ∧ es.length ≤ 1000 ∧ ds = [.lst es]
def rsOf (ds : List Dt) (d : Dt) : Prop := ∃ es : List Dt, ds = [.lst es] ∧ d ∈ es
def EvS (te : TE) (δ : De) (S : HpP) (d : Dt) : Prop := EvR te δ S (fun d' H P => d' = d ∧ S H P)
def EbS (t : TT) (δ : De) (S : HpP) (b : Bool) : Prop := ∀ (σ : L2.St) (H HP : Hp), Same HP H → S H HP → Sl HP σ δ → ∀ Q : Bool → Hp → Prop, (∀ H' P', S H' P' → Same P' H' → Same HP P' → Q b H') → t σ H Q
theorem fmod_rng {a : Int} {b : Nat} (h : 0 < b) : 0 ≤ a.fmod (b : Int) ∧ a.fmod (b : Int) < (b : Int) := by
  rw [Int.fmod_eq_emod_of_nonneg _ (Int.natCast_nonneg _)]
  exact ⟨Int.emod_nonneg _ (by omega), Int.emod_lt_of_pos _ (by omega)⟩
section
variable {K : PySem.W.Frag} {δ δ1 : De} {d : Dt} {ds : List Dt} {S : HpP} {N : De → HpP} {R : Dt → HpP} {ta tb te : TE} {t u : TT} {a b c : TS} {H0 P0 : Hp} {M G : Addr} {n : Nat} {r : Int} {tn : Nat} {gs : List Int} {i j : Int}
theorem es_of (h : EvD te δ d) (hS : Stab S) : EvS te δ S d := er_of h hS
theorem es_cast {d' : Dt} (h : EvS te δ S d) (e : d = d') : EvS te δ S d' := e ▸ h
theorem es_I {C : Int → Int → Prop} {g : Int → Int → V} (ha : EvS ta δ S (.int i)) (hb : EvS tb δ S (.int j)) (hc : C i j) (hd : ∀ P, Rep P d (g i j)) : EvS (tOp (rI C g) ta tb) δ S d := fun σ H HP s x sl Q q =>
  ha σ H HP s x sl _ fun d1 v H1 P1 ⟨e1, x1⟩ s1 p1 r1 => hb σ H1 P1 s1 x1 (sl.mono p1) _ fun d2 w H2 P2 ⟨e2, x2⟩ s2 p2 r2 => by
    subst e1; subst e2
    exact ⟨i, j, r1, r2, hc, q d _ H2 P2 ⟨rfl, x2⟩ s2 (p1.trans p2) (hd P2)⟩
theorem es_I0 {g : Int → Int → V} (ha : EvS ta δ S (.int i)) (hb : EvS tb δ S (.int j)) (hd : ∀ P, Rep P d (g i j)) : EvS (tOp (rI0 g) ta tb) δ S d := fun σ H HP s x sl Q q =>
  ha σ H HP s x sl _ fun d1 v H1 P1 ⟨e1, x1⟩ s1 p1 r1 => hb σ H1 P1 s1 x1 (sl.mono p1) _ fun d2 w H2 P2 ⟨e2, x2⟩ s2 p2 r2 => by
    subst e1; subst e2
    exact ⟨i, j, r1, r2, q d _ H2 P2 ⟨rfl, x2⟩ s2 (p1.trans p2) (hd P2)⟩
theorem es_add (ha : EvS ta δ S (.int i)) (hb : EvS tb δ S (.int j)) : EvS (tOp (rI0 fun i j => .int (i + j)) ta tb) δ S (.int (i + j)) := es_I0 ha hb fun _ => rfl
theorem es_mul (ha : EvS ta δ S (.int i)) (hb : EvS tb δ S (.int j)) (hc : CMulW i j) : EvS (tOp (rI CMulW fun i j => .int (i * j)) ta tb) δ S (.int (i * j)) := es_I ha hb hc fun _ => rfl
theorem es_fdiv (ha : EvS ta δ S (.int i)) (hb : EvS tb δ S (.int j)) (hc : CDivP i j) : EvS (tOp (rI CDivP fun i j => .int (i.fdiv j)) ta tb) δ S (.int (i.fdiv j)) := es_I ha hb hc fun _ => rfl
theorem es_mod (ha : EvS ta δ S (.int i)) (hb : EvS tb δ S (.int j)) (hc : j ≠ 0) : EvS (tOp (rI (fun _ j => j ≠ 0) fun i j => .int (i.fmod j)) ta tb) δ S (.int (i.fmod j)) := es_I ha hb hc fun _ => rfl
theorem es_gt (ha : EvS ta δ S (.int i)) (hb : EvS tb δ S (.int j)) : EvS (tOp (rI0 fun i j => .bl (decide (j < i))) ta tb) δ S (.bl (decide (j < i))) := es_I0 ha hb fun _ => rfl
theorem es_max2 (ha : EvS ta δ S (.int i)) (hb : EvS tb δ S (.int j)) : EvS (tCB (fun xs H Q => ∃ i j, xs = [.int i, .int j] ∧ Q (.int (if j > i then j else i)) H) (tCons ta (tCons tb tNil))) δ S (.int (max i j)) := fun σ H HP s x sl Q q =>
  ha σ H HP s x sl _ fun d1 v H1 P1 ⟨e1, x1⟩ s1 p1 r1 => hb σ H1 P1 s1 x1 (sl.mono p1) _ fun d2 w H2 P2 ⟨e2, x2⟩ s2 p2 r2 => by
    subst e1; subst e2
    cases (show v = .int i from r1)
    cases (show w = .int j from r2)
    exact ⟨i, j, rfl, q _ _ H2 P2 ⟨rfl, x2⟩ s2 (p1.trans p2) (by
      show V.int _ = V.int _
      congr 1
      split <;> omega)⟩
theorem es_get {k : Key} {v : V} (hi : δ[0]? = some (some (.adr M))) (hv : valV (memK r G tn) k = some v) (hd : ∀ P, Rep P d v) : EvS (tDGet (tVar 0) (tC (kV k))) δ (Bd H0 P0 M G r tn gs) d := fun σ H HP s x sl Q q =>
  ⟨.ref M, slot_at sl hi, M, v, rfl, by
    have := DGet.k (k := k) x.2.hm
    rw [hv] at this
    exact this, q d v H HP ⟨rfl, x⟩ s (Same.refl _) (hd _)⟩
theorem es_turn (hi : δ[0]? = some (some (.adr M))) : EvS (tDGet (tVar 0) (tC (.str "turn"))) δ (Bd H0 P0 M G r tn gs) (.int (tn : Int)) := es_get (k := kTurn) hi (memK_turn ..) fun _ => rfl
theorem es_run (hi : δ[0]? = some (some (.adr M))) : EvS (tDGet (tVar 0) (tC (.str "run"))) δ (Bd H0 P0 M G r tn gs) (.int r) := es_get (k := kRun) hi (memK_run ..) fun _ => rfl
theorem es_lenG {i : Nat} (hi : δ[i]? = some (some (.adr G))) : EvS (tCB (fun xs H Q => ∃ p ys, xs = [.ref p] ∧ (SqL K H p ys ∨ SqT K H p ys) ∧ Q (.int ys.length) H) (tCons (tVar i) tNil)) δ (Bd H0 P0 M G r tn gs) (.int (gs.length : Int)) := fun σ H HP s x sl Q q =>
  ⟨.ref G, slot_at sl hi, G, gs.map V.int, rfl, .inl (sq_of x.2.hg), q _ _ H HP ⟨rfl, x⟩ s (Same.refl _) (by rw [List.length_map]; rfl)⟩
theorem es_ixG {i m : Nat} {k y : Int} (hi : δ[i]? = some (some (.adr G))) (hk : EvS tb δ (Bd H0 P0 M G r tn gs) (.int k)) (hkn : k = (m : Int)) (hn : gs[m]? = some y) : EvS (tOp (rIxL K) (tVar i) tb) δ (Bd H0 P0 M G r tn gs) (.int y) := fun σ H HP s x sl Q q =>
  ⟨.ref G, slot_at sl hi, hk σ H HP s x sl _ fun d1 v H1 P1 ⟨e1, x1⟩ s1 p1 r1 => by
    subst e1
    exact ⟨G, gs.map V.int, k, .int y, rfl, r1, sq_of x1.2.hg, by rw [hkn]; exact atI_nat (by rw [List.getElem?_map, hn]; rfl), q (.int y) _ H1 P1 ⟨rfl, x1⟩ s1 p1 rfl⟩⟩
theorem es_neG {i : Nat} (hi : δ[i]? = some (some (.adr G))) : EvS (tOp (rNeD K) (tVar i) (tLst tNil)) δ (Bd H0 P0 M G r tn gs) (.bl (!gs.isEmpty)) := fun σ H HP s x sl Q q =>
  ⟨.ref G, slot_at sl hi, (ev_lst (δ := δ) (ds := []) ea_nil (Nat.zero_le _)) σ H HP s sl _ fun v H1 P1 e1 r1 => by
    have x1 := bd_stab _ _ _ _ x e1
    refine ⟨toPy (.lst (zs gs)), toPy (.lst []), ?_, dp_all e1.sub (.lst []) v rfl r1, okD_shaped (okD_zs gs), okD_shaped (okD_zs []), ?_⟩
    · exact dp_all (K := K) (frz_same e1.sub x1.2.hg) (.lst (zs gs)) (.ref G) (clean_zs gs) ⟨G, _, rfl, upd_same, ints_reps gs⟩
    · have e : PyData.eqv (toPy (.lst (zs gs))) (toPy (.lst [])) = gs.isEmpty := by
        cases gs with
        | nil => simp [zs, toPy, toPys, PyData.eqv, PyData.eqvAll]
        | cons g gs => simp [zs, toPy, toPys, PyData.eqv, PyData.eqvAll]
      rw [e]
      exact q _ _ H1 P1 ⟨rfl, x1⟩ e1.sub e1.part rfl⟩
theorem ebs_test {b : Bool} (h : EvS ta δ S (.bl b)) : EbS (tTest ta) δ S b := fun σ H HP s x sl Q q => h σ H HP s x sl _ fun d v H1 P1 ⟨e1, x1⟩ s1 p1 r1 => by
  subst e1
  exact ⟨b, r1, q H1 P1 x1 s1 p1⟩
theorem ebs_and {a b : Bool} (h : EbS t δ S a) (h2 : a = true → EbS u δ S b) : EbS (tAnd t u) δ S (a && b) := fun σ H HP s x sl Q q => h σ H HP s x sl _ fun H1 P1 x1 s1 p1 => by
  cases a with
  | true =>
    rw [if_pos rfl]
    exact h2 rfl σ H1 P1 s1 x1 (sl.mono p1) _ fun H2 P2 x2 s2 p2 => q H2 P2 x2 s2 (p1.trans p2)
  | false =>
    rw [if_neg Bool.false_ne_true]
    exact q H1 P1 x1 s1 p1
theorem sr_ifS {c : Bool} (h : EbS t δ S c) (h1 : c = true → StR a δ S N R) (h2 : c = false → StR b δ S N R) : StR (tIfS t a b) δ S N R := fun σ H HP s x sl D q1 q2 =>
  h σ H HP s x sl _ fun H1 P1 x1 s1 p1 => by
    have k1 : ∀ δ2 σ2 H2 P2, N δ2 H2 P2 → Same P2 H2 → Same P1 P2 → Sl P2 σ2 δ2 → D.nx σ2 H2 := fun δ2 σ2 H2 P2 n2 s2 p2 sl2 => q1 δ2 σ2 H2 P2 n2 s2 (p1.trans p2) sl2
    have k2 : ∀ d v H2 P2, R d H2 P2 → Same P2 H2 → Same P1 P2 → Rep P2 d v → D.rt v H2 := fun d v H2 P2 r s2 p2 rv => q2 d v H2 P2 r s2 (p1.trans p2) rv
    cases c with
    | true =>
      rw [if_pos rfl]
      exact h1 rfl σ H1 P1 s1 x1 (sl.mono p1) D k1 k2
    | false =>
      rw [if_neg Bool.false_ne_true]
      exact h2 rfl σ H1 P1 s1 x1 (sl.mono p1) D k1 k2
theorem sr_bm (h : ∀ r t gs, MB r t gs n → StR c δ (Bd H0 P0 M G r t gs) N R) : StR c δ (Bm H0 P0 M G n) N R := fun σ H HP s ⟨x, r, t, gs, b, m⟩ sl D q1 q2 => h r t gs b σ H HP s ⟨x, m⟩ sl D q1 q2
theorem sr_setS {i : Nat} (h : EvS te δ S d) (k : StR c (δ.set i (some d)) S N R) : StR (tSeq (tAsg te (gName i)) c) δ S N R := sr_asgR h fun d' H P ⟨e, x⟩ => ⟨_, S, tg_name, x, e ▸ k⟩
theorem sr_retS (h : EvS te δ S d) (hr : ∀ H P, S H P → R d H P) : StR (tRet te) δ S N R := sr_retR (er_imp h fun d' H P ⟨e, x⟩ => e ▸ hr H P x)
/-- m['run'] = .. -/
theorem sr_putR {r2 : Int} (hi : δ[0]? = some (some (.adr M))) (h : EvS te δ (Bd H0 P0 M G r tn gs) (.int r2)) (k : StR c δ (Bd H0 P0 M G r2 tn gs) N R) : StR (tSeq (tAsg te (gSub (tVar 0) (tC (.str "run")) rSetD)) c) δ (Bd H0 P0 M G r tn gs) N R := fun σ H HP s x sl D q1 q2 =>
  h σ H HP s x sl _ fun d v H1 P1 ⟨e1, x1⟩ s1 p1 rv => by
    subst e1
    cases (show v = .int r2 from rv)
    have e := DPut.k (k := kRun) (v := .int r2) x1.2.hm (by show 3 < sizeLine; decide +kernel)
    rw [memK_putR] at e
    refine ⟨.ref M, slot_at sl hi, M, _, rfl, e, ?_⟩
    have x2 : Bd H0 P0 M G r2 tn gs (upd H1 M (.dK (memK r2 G tn))) P1 := ⟨⟨x1.1.ext.mut x1.1.m x1.2.pm, x1.1.m, x1.1.g⟩, x1.2.pm, x1.2.pg, x1.2.ne, upd_same, by rw [upd_ne (Ne.symm x1.2.ne)]; exact x1.2.hg⟩
    exact k σ _ P1 (same_put s1 x1.2.pm) x2 (sl.mono p1) D (fun δ2 σ2 H2 P2 n2 s2 p2 sl2 => q1 δ2 σ2 H2 P2 n2 s2 (p1.trans p2) sl2) fun d v H2 P2 r s2 p2 rv => q2 d v H2 P2 r s2 (p1.trans p2) rv
/-- great[k] = .. -/
theorem sr_putG {i m : Nat} {k y : Int} (hi : δ[i]? = some (some (.adr G))) (h : EvS te δ (Bd H0 P0 M G r tn gs) (.int y)) (hk : EvD tb δ (.int k)) (hkn : k = (m : Int)) (hn : m < gs.length) (kk : StR c δ (Bd H0 P0 M G r tn (gs.set m y)) N R) : StR (tSeq (tAsg te (gSub (tVar i) tb rSetL)) c) δ (Bd H0 P0 M G r tn gs) N R := fun σ H HP s x sl D q1 q2 =>
  h σ H HP s x sl _ fun d v H1 P1 ⟨e1, x1⟩ s1 p1 rv => ⟨.ref G, slot_at sl hi, hk σ H1 P1 s1 (sl.mono p1) _ fun w H2 P2 e2 r2 => by
    subst e1
    cases (show v = .int y from rv)
    have x2 := bd_stab _ _ _ _ x1 e2
    refine ⟨G, gs.map V.int, k, m, rfl, r2, x2.2.hg, by rw [List.length_map, hkn]; exact ixN_at hn, ?_⟩
    have x3 : Bd H0 P0 M G r tn (gs.set m y) (upd H2 G (.lst ((gs.map V.int).set m (.int y)))) P2 := ⟨⟨x2.1.ext.mut x2.1.g x2.2.pg, x2.1.m, x2.1.g⟩, x2.2.pm, x2.2.pg, x2.2.ne, by rw [upd_ne x2.2.ne]; exact x2.2.hm, by rw [upd_same, List.map_set]⟩
    have pp := p1.trans e2.part
    exact kk σ _ P2 (same_put e2.sub x2.2.pg) x3 (sl.mono pp) D (fun δ2 σ2 H2 P2 n2 s2 p2 sl2 => q1 δ2 σ2 H2 P2 n2 s2 (pp.trans p2) sl2) fun d v H2 P2 r s2 p2 rv => q2 d v H2 P2 r s2 (pp.trans p2) rv⟩
/-- the first step of a draw -/
theorem sr_turn {i : Nat} (hi : δ[0]? = some (some (.adr M))) (k : StR c (δ.set i (some (.adr G))) (Bd H0 P0 M G r (tn + 1) gs) N R) :
    StR (tSeq (tAsg (tTup (tCons (tOp (rI0 fun i j => .int (i + j)) (tDGet (tVar 0) (tC (.str "turn"))) (tC (.int 1))) (tCons (tDGet (tVar 0) (tC (.str "great"))) tNil))) (gTup K 2 (gCons (gSub (tVar 0) (tC (.str "turn")) rSetD) (gCons (gName i) gNil)))) c) δ (Bd H0 P0 M G r tn gs) N R := fun σ H HP s x sl D q1 q2 => by
  refine es_add (es_turn hi) (es_of ev_int bd_stab) σ H HP s x sl _ fun d v H1 P1 ⟨e1, x1⟩ s1 p1 rv => ?_
  subst e1
  refine es_get (d := .adr G) (k := kGreat) hi (memK_great ..) (fun _ => rfl) σ H1 P1 s1 x1 (sl.mono p1) _ fun d w H2 P2 ⟨e2, x2⟩ s2 p2 rw' => ?_
  subst e2
  cases (show v = .int ((tn : Int) + 1) from rv)
  cases (show w = .ref G from rw')
  refine ⟨Nat.le_of_ble_eq_true (by show Nat.ble 2 sizeLine = true; decide +kernel), fun p hp => ?_⟩
  have e3 : Ext H2 P2 (upd H2 p (.tup [.int ((tn : Int) + 1), .ref G])) P2 := Ext.own s2 hp
  have x3 := bd_stab _ _ _ _ x2 e3
  have e := DPut.k (k := kTurn) (v := .int ((tn + 1 : Nat) : Int)) x3.2.hm (by show 3 < sizeLine; decide +kernel)
  rw [memK_putT] at e
  have pp := (p1.trans p2).trans e3.part
  refine ⟨p, _, rfl, st_of upd_same, rfl, .int ((tn : Int) + 1), [.ref G], rfl, .ref M, slot_at sl hi, M, _, rfl, e, .ref G, [], rfl, rfl, ?_⟩
  have x4 : Bd H0 P0 M G r (tn + 1) gs (upd (upd H2 p (.tup [.int ((tn : Int) + 1), .ref G])) M (.dK (memK r G (tn + 1)))) P2 := ⟨⟨x3.1.ext.mut x3.1.m x3.2.pm, x3.1.m, x3.1.g⟩, x3.2.pm, x3.2.pg, x3.2.ne, upd_same, by rw [upd_ne (Ne.symm x3.2.ne)]; exact x3.2.hg⟩
  exact k _ _ P2 (same_put e3.sub x3.2.pm) x4 ((sl.mono pp).set (d := .adr G) rfl i) D (fun δ2 σ2 H2 P2 n2 s2 p2 sl2 => q1 δ2 σ2 H2 P2 n2 s2 (pp.trans p2) sl2) fun d v H2 P2 r s2 p2 rv => q2 d v H2 P2 r s2 (pp.trans p2) rv
end
section
variable {P : Program} {w : World} {K : PySem.W.Frag} {mg : Str → Option Value} {base : Heap}

abbrev s__law_draw : Stmt := topS 45
abbrev N__law_draw : List Str := ["_law_m", "_law_top", "_law_great", "_law_at", "_law_found"]
theorem sc__law_draw : FnScope N__law_draw ["_law_m", "_law_top"] (defScope s__law_draw) := ⟨rfl, rfl, rfl, by decide +kernel, rfl, by decide +kernel, by decide +kernel⟩
theorem ok__law_draw (B : Bn mg) (F : Fu K mg "_law_draw" s__law_draw ["_law_m", "_law_top"])  : Dn P w K mg base "_law_draw" ["_law_m", "_law_top"] 1 (spM 1 dmDraw rsDraw) := by
  refine F.okM sc__law_draw (by rintro _ ⟨top, _, _, rfl⟩; rfl) (fun f cdv A outer s H E hr => ?_)
  have hu := hu_of hr
  have hu64 := hr.units
  refine ⟨_, (pss_cons (ps_asg (pe_tup (pa_cons (pe_op op_add (pe_dget hu (pv 0) pe_str (fun _ _ => rfl)) pe_int) (pa_cons (pe_dget hu (pv 0) pe_str (fun _ _ => rfl)) pa_nil))) (pg_tup rfl (pgs_cons (pg_sub (pv 0) pe_str (set_dict hu)) (pgs_cons (pg_name (i := 2) sc__law_draw.nd rfl (.inl rfl)) pgs_nil))))
      (pss_cons (ps_set (i := 3) sc__law_draw.nd rfl (.inl rfl) (pe_op op_modN (pe_dget hu (pv 0) pe_str (fun _ _ => rfl)) (pe_callB (call_max2 rfl) (by rfl) B.max PyProof.Rows.boot_max (pa_cons pe_int (pa_cons (pe_callB (kLen (K := K) rfl) (by rfl) B.len PySem.boot_len (pa_cons (pv 2) pa_nil)) pa_nil)))))
      (pss_cons (ps_if (pw_and (pt_cmpR (kNeD (K := K) rfl hu64) (pv 2) (pe_lst pa_nil) (nomark _)) (pw_and1 (pt_cmpR op_gt (pe_ix (kIxL (K := K) rfl) (pv 2) (pv 3) (fun _ _ => rfl)) pe_int (nomark _)))).pt (pss_cons (ps_set (i := 4) sc__law_draw.nd rfl (.inl rfl) (pe_op op_modN (pe_ix (kIxL (K := K) rfl) (pv 2) (pv 3) (fun _ _ => rfl)) (pv 1)))
      (pss_cons (ps_asg (pe_op op_fdivP (pe_ix (kIxL (K := K) rfl) (pv 2) (pv 3) (fun _ _ => rfl)) (pv 1)) (pg_sub (pv 2) (pv 3) set_list))
      (pss_one (ps_ret (pv 4))))) pss_nil)
      (pss_cons (ps_asg (pe_op op_modN (pe_op op_add (pe_op op_add (pe_op op_mulW (pe_dget hu (pv 0) pe_str (fun _ _ => rfl)) pe_int) (pe_op op_mulW pe_int (pe_dget hu (pv 0) pe_str (fun _ _ => rfl)))) pe_int) pe_int) (pg_sub (pv 0) pe_str (set_dict hu)))
      (pss_one (ps_ret (pe_op op_modN (pe_op op_fdivP (pe_dget hu (pv 0) pe_str (fun _ _ => rfl)) pe_int) (pv 1)))))))), fun ds M G n H0 P0 hd hn => ?_⟩
  obtain ⟨top, h0, h1, rfl⟩ := hd
  have htn : (top : Int) ≠ 0 := by omega
  have hts : ((top : Int)).natAbs < 2 ^ 9000 := by
    rw [Int.natAbs_natCast]
    exact Nat.lt_of_le_of_lt h1 (Nat.lt_of_lt_of_le (show 1000 < 2 ^ 10 by decide) (Nat.pow_le_pow_right (by decide) (by decide)))
  refine sr_bm fun r t gs hb => ?_
  refine sr_turn (i := 2) rfl ?_
  have hmx : max (1 : Int) (gs.length : Int) = ((max 1 gs.length : Nat) : Int) := by omega
  obtain ⟨f1, f2⟩ := fmod_rng (a := ((t + 1 : Nat) : Int)) (b := max 1 gs.length) (by omega)
  refine sr_setS (i := 3) (d := .int (((t + 1 : Nat) : Int).fmod ((max 1 gs.length : Nat) : Int))) (es_cast (es_mod (es_turn rfl) (es_max2 (es_of ev_int bd_stab) (es_lenG (i := 2) rfl)) (by omega)) (by rw [hmx])) ?_
  obtain ⟨at', hat⟩ := Int.eq_ofNat_of_zero_le f1
  rw [hat] at f2 ⊢
  have hle : at' < max 1 gs.length := by omega
  have fin : ∀ (k : Int) (r2 : Int) (gs2 : List Int) (H P : Hp), 0 ≤ k → k < (top : Int) → MB r2 (t + 1) gs2 (n + 1) → Bd H0 P0 M G r2 (t + 1) gs2 H P → rsDraw [.int (top : Int)] (.int k) ∧ Bm H0 P0 M G (n + 1) H P := fun k r2 gs2 H P k1 k2 mb x => ⟨⟨top, k, rfl, rfl, k1, k2⟩, x.1, r2, t + 1, gs2, mb, x.2⟩
  refine sr_then (δ1 := [some (.adr M), some (.int (top : Int)), some (.adr G), some (.int (at' : Int)), none]) (S1 := Bd H0 P0 M G r (t + 1) gs) ?_ ?_
  · cases hgs : gs with
    | nil =>
      subst hgs
      exact (sr_ifS (c := false) (ebs_and (a := false) (b := true) (ebs_test (es_neG (i := 2) rfl)) fun z => nomatch z) (fun z => nomatch z) fun _ => sr_next fun H P x => ⟨rfl, x⟩)
    | cons g0 gr =>
      have hlt : at' < gs.length := by
        have : 1 ≤ gs.length := by rw [hgs, List.length_cons]; omega
        omega
      have hy := get_getD hlt
      have hne : (!gs.isEmpty) = true := by rw [hgs]; rfl
      rw [← hgs]
      clear hgs
      generalize gs.getD at' 0 = y at *
      refine (sr_ifS (ebs_and (ebs_test (es_neG (i := 2) rfl)) fun _ => ebs_test (es_gt (es_ixG (i := 2) (m := at') rfl (es_of (ev_var rfl) bd_stab) rfl hy) (es_of ev_int bd_stab))) (fun hc => ?_) fun _ => sr_next fun H P x => ⟨rfl, x⟩)
      obtain ⟨j1, j2⟩ := fmod_rng (a := y) (b := top) h0
      refine sr_setS (es_mod (es_ixG (i := 2) (m := at') rfl (es_of (ev_var rfl) bd_stab) rfl hy) (es_of (ev_var rfl) bd_stab) htn) ?_
      refine sr_putG (i := 2) (m := at') rfl (es_fdiv (es_ixG (i := 2) (m := at') rfl (es_of (ev_var rfl) bd_stab) rfl hy) (es_of (ev_var rfl) bd_stab) (div_small htn hts)) (ev_var rfl) rfl hlt ?_
      exact sr_retS (es_of (ev_var rfl) bd_stab) fun H P x => fin _ _ _ H P j1 j2 ⟨by rw [List.length_set]; exact hb.len, hb.run, by have := hb.turn; omega⟩ x
  · have k1 : CMulW r 6364136223846793 := mul_ok (a := 100) (b := 60) hb.run (by decide) (by decide)
    have k2 : CMulW 1442695040888963 ((t + 1 : Nat) : Int) := mul_ok (a := 60) (b := 60) (by decide) (by
      rw [Int.natAbs_natCast]
      have := hb.turn
      exact Nat.lt_of_le_of_lt (show t + 1 ≤ 100001 by omega) (by decide)) (by decide)
    refine sr_putR rfl (es_mod (es_add (es_add (es_mul (es_run rfl) (es_of ev_int bd_stab) k1) (es_mul (es_of ev_int bd_stab) (es_turn rfl) k2)) (es_of ev_int bd_stab)) (es_of ev_int bd_stab) (by decide)) ?_
    obtain ⟨g1, g2⟩ := fmod_rng (a := r * 6364136223846793 + 1442695040888963 * ((t + 1 : Nat) : Int) + 11) (b := 2305843009213693951) (by decide)
    have g2' : (r * 6364136223846793 + 1442695040888963 * ((t + 1 : Nat) : Int) + 11).fmod 2305843009213693951 < 2305843009213693951 := g2
    have g1' : 0 ≤ (r * 6364136223846793 + 1442695040888963 * ((t + 1 : Nat) : Int) + 11).fmod 2305843009213693951 := g1
    generalize (r * 6364136223846793 + 1442695040888963 * ((t + 1 : Nat) : Int) + 11).fmod 2305843009213693951 = r2 at *
    obtain ⟨j1, j2⟩ := fmod_rng (a := r2.fdiv 32749) (b := top) h0
    exact sr_retS (es_mod (es_fdiv (es_run rfl) (es_of ev_int bd_stab) (div_small (by decide) (Nat.lt_of_lt_of_le (show (32749 : Int).natAbs < 2 ^ 16 by decide) (Nat.pow_le_pow_right (by decide) (by decide))))) (es_of (ev_var rfl) bd_stab) htn) fun H P x => fin _ _ _ H P j1 j2 ⟨hb.len, by omega, by have := hb.turn; omega⟩ x

end
end Cw
end
section
set_option linter.all false
set_option maxRecDepth 100000
set_option maxHeartbeats 1000000
set_option exponentiation.threshold 100000
namespace Cw
open PySem PySem.Spec PyProof.Rows L2
theorem merge_mem (r : Int) (G : Addr) : mergeK [] [(kRun, .int r), (kGreat, .ref G), (kTurn, .int 0)] = memK r G 0 := by
  have h1 := kRG
  have h2 := kRT
  have h3 := kGT
  simp only [kRun, kGreat, kTurn] at h1 h2 h3
  simp [mergeK, putK, memK, h1, h2, h3]
def SrcR (wi : TI) (δ : De) (S : HpP) (ds : List Dt) : Prop := ∀ (σ : L2.St) (H HP : Hp), Same HP H → S H HP → Sl HP σ δ → ∀ R : It → Hp → Prop,
  (∀ J H1 P1, Ext H HP H1 P1 → (∃ (G : Hp → Prop) (Y : Nat → Hp → V → Hp → Prop), Walk J ds.length G Y ∧ (∀ H2, S H2 P1 → G H2) ∧ ∀ i x H2 H3 P2, i < ds.length → Same P1 P2 → Same P2 H2 → Y i H2 x H3 → ∃ P3 d, ds[i]? = some d ∧ Ext H2 P2 H3 P3 ∧ Rep P3 d x) → R J H1) → wi σ H R
def spB (K : PySem.W.Frag) : Sp := fun vs H Q _ => ∃ (HP : Hp) (a : Addr) (ns : List Int), Same HP H ∧ vs = [.ref a] ∧ SqL K H a (ns.map V.int) ∧ ns.length ≤ 63 ∧ ∀ M G H' P', Ext H HP H' P' → H M = none → H G = none → MS M G 0 H' P' → Q (.ref M) H'
section
variable {K : PySem.W.Frag} {δ δ1 : De} {d : Dt} {ds es : List Dt} {S S' : HpP} {N : De → HpP} {R : Dt → HpP} {ta tb te : TE} {tt : TT} {t u : TT} {a b c : TS} {wi : TI} {g : TG} {H0 P0 : Hp}
theorem ev_ge {i j : Int} (ha : EvD ta δ (.int i)) (hb : EvD tb δ (.int j)) : EvD (tOp (rI0 fun i j => .bl (decide (j ≤ i))) ta tb) δ (.bl (decide (j ≤ i))) := ev_I0 ha hb fun _ => rfl
theorem er_ixLR (ha : EvD ta δ (.lst es)) (hS : Stab S) (hb : EvR tb δ S (fun d H P => (∃ k : Nat, d = .int (k : Int) ∧ k < es.length) ∧ S' H P)) : EvR (tOp (rIxL K) ta tb) δ S (fun d H P => d ∈ es ∧ S' H P) := fun σ H HP s x sl Q q =>
  ha σ H HP s sl _ fun v H1 P1 e1 r1 => hb σ H1 P1 e1.sub (hS _ _ _ _ x e1) (sl.mono e1.part) _ fun d w H2 P2 ⟨⟨k, ed, hk⟩, x2⟩ s2 p2 r2 => by
    subst ed
    obtain ⟨p, vs, rfl, hp, hr⟩ := r1
    have hk2 : es[k]? = some es[k] := by simp [hk]
    obtain ⟨v, hv, rv⟩ := hr.get hk2
    exact ⟨p, vs, (k : Int), v, rfl, r2, sq_of (s2 _ _ (p2 _ _ hp)), atI_nat hv, q _ v H2 P2 ⟨List.getElem_mem hk, x2⟩ s2 (e1.part.trans p2) (rv.mono p2)⟩
theorem es_lenK {ns : List Int} {p : Addr} (hi : δ[0]? = some (some (.adr p))) (hq : SqL K H0 p (ns.map V.int)) : EvS (tCB (fun xs H Q => ∃ p ys, xs = [.ref p] ∧ (SqL K H p ys ∨ SqT K H p ys) ∧ Q (.int ys.length) H) (tCons (tVar 0) tNil)) δ (Ext H0 P0) (.int (ns.length : Int)) := fun σ H HP s x sl Q q =>
  ⟨.ref p, slot_at sl hi, p, ns.map V.int, rfl, .inl (x.big.seq hq), q _ _ H HP ⟨rfl, x⟩ s (Same.refl _) (by rw [List.length_map]; rfl)⟩
/-- [cell for cell in the script if ..], a list of one's own -/
theorem lc_own {ns : List Int} {p : Addr} {i : Nat} {vs : List Nat} (f : Int → Bool) (hi : δ[0]? = some (some (.adr p))) (hq : SqL K H0 p (ns.map V.int)) (hl : ns.length ≤ 63) (hiv : i ∈ vs) (hlen : i < (wipeD δ vs).length)
    (ht : ∀ y, EvB tt ((wipeD δ vs).set i (some (.int y))) (f y)) {σ : L2.St} {H HP : Hp} (s : Same HP H) (x : Ext H0 P0 H HP) (sl : Sl HP σ δ) {Q : VK} (q : ∀ L H' P', Ext H HP H' P' → H L = none → OwnL L (zs (ns.filter f)) H' P' → Q (.ref L) H') :
    tLc (iList K (tVar 0)) (gName i) tt (tVar i) vs σ H Q := by
  refine ⟨.ref p, slot_at sl hi, p, rfl, ⟨_, x.big.seq hq⟩, fun D hD => ?_⟩
  refine lc_it (walk_list (xs := ns.map V.int)) (fun k H' => ∃ acc P', Ext H HP H' P' ∧ P' D = none ∧ H' D = some (.lst acc) ∧ acc.length ≤ k ∧ acc = ((ns.take k).filter f).map V.int) ?_ ?_ ?_ ?_
  · exact ⟨[], HP, Ext.own s hD, s.free hD, upd_same, Nat.le_refl _, rfl⟩
  · rintro k H' _ ⟨acc, P', e, _⟩
    exact (x.trans e).big.seq hq
  · rintro k y H' H3 hk ⟨acc, P', e, hPD, hHD, hla, hr⟩ yy
    rw [List.length_map] at hk
    obtain ⟨rfl, hy⟩ := yy
    have hn : ns[k]? = some ns[k] := by simp [hk]
    rw [List.getElem?_map, hn] at hy
    cases hy
    have sl3 : Sl P' (wipe σ vs) (wipeD δ vs) := (sl.mono e.part).wipe vs
    refine ⟨by rw [wipe_set_in hiv]; exact wipe_idem, ?_⟩
    refine ht ns[k] _ _ P' e.sub (sl3.set (d := .int ns[k]) rfl i) _ fun H4 P4 e4 => ?_
    obtain ⟨hHD4, hPD4⟩ := e4.keepOut hHD hPD
    have e14 := e.trans e4
    have et : (ns.take (k + 1)).filter f = (ns.take k).filter f ++ (if f ns[k] = true then [ns[k]] else []) := by
      rw [List.take_add_one, hn, List.filter_append]
      cases hf : f ns[k] <;> simp [hf]
    cases hf : f ns[k] with
    | false =>
      rw [if_neg Bool.false_ne_true]
      refine ⟨acc, P4, e14, hPD4, hHD4, by omega, ?_⟩
      rw [et, hf, if_neg Bool.false_ne_true, List.append_nil]
      exact hr
    | true =>
      rw [if_pos rfl]
      refine ⟨.int ns[k], List.getElem?_set_self (by rw [sl3.1]; exact hlen), acc, hHD4, small1000 (by omega), acc ++ [.int ns[k]], P4, e14.mut hD hPD4, hPD4, upd_same, by rw [List.length_append]; simp; omega, ?_⟩
      rw [et, hf, if_pos rfl, List.map_append, ← hr]
      rfl
  · rintro H' ⟨acc, P', e, hPD, hHD, _, hr⟩
    rw [List.length_map, List.take_length] at hr
    subst hr
    exact q D H' P' e hD ⟨hPD, _, hHD, ints_reps _⟩
/-- the law's state, made -/
theorem sr_retMem {ns : List Int} {p : Addr} {i : Nat} {vs : List Nat} {r : Int} (f : Int → Bool) (h1 : δ[1]? = some (some (.int r))) (hr : r.natAbs < 2 ^ 100) (hi : δ[0]? = some (some (.adr p))) (hq : SqL K H0 p (ns.map V.int)) (hl : ns.length ≤ 63) (hiv : i ∈ vs) (hlen : i < (wipeD δ vs).length)
    (ht : ∀ y, EvB tt ((wipeD δ vs).set i (some (.int y))) (f y)) :
    StR (tRet (tDisp [(tC (.str "run"), tVar 1), (tC (.str "great"), tLc (iList K (tVar 0)) (gName i) tt (tVar i) vs), (tC (.str "turn"), tC (.int 0))])) δ (Ext H0 P0) N (fun d H P => ∃ M G, d = .adr M ∧ Ext H0 P0 H P ∧ H0 M = none ∧ H0 G = none ∧ MS M G 0 H P) := fun σ H HP s x sl D _ q2 => by
  intro p2 hp2
  have e1 : Ext H HP (upd H p2 (.dK [])) HP := Ext.own s hp2
  obtain ⟨v, hv1, hv2⟩ := sl.2 1 _ h1
  cases (show v = .int r from hv2)
  refine ⟨.int r, hv1, ?_⟩
  simp only [tPairs, tC]
  refine lc_own f hi hq hl hiv hlen ht e1.sub (x.trans e1) sl fun L H2 P2 e2 hL ho => ?_
  have hp : HP p2 = none := s.free hp2
  obtain ⟨k1, k2⟩ := e2.keepOut upd_same hp
  have hne : p2 ≠ L := by rintro rfl; rw [upd_same] at hL; cases hL
  refine ⟨k1, [(kRun, .int r), (kGreat, .ref L), (kTurn, .int 0)], rfl, by show 3 ≤ 15; decide, ?_⟩
  rw [merge_mem]
  obtain ⟨ho1, ws, ho2, ho3⟩ := ho
  have hw := reps_ints ho3
  subst hw
  have e3 := (e1.trans e2).mut (o := .dK (memK r L 0)) hp2 k2
  have hLH : H L = none := e1.big.free hL
  refine q2 (.adr p2) _ _ P2 ⟨p2, L, rfl, x.trans e3, x.big.free hp2, x.big.free hLH, r, 0, ns.filter f, ⟨Nat.le_trans (List.length_filter_le _ _) (by omega), hr, Nat.le_refl _⟩, k2, ho1, hne, upd_same, by rw [upd_ne (Ne.symm hne)]; exact ho2⟩ e3.sub e3.part rfl
/-- enumerate(the script) -/
theorem sr_forK {ns : List Int} {p : Addr} (hi : δ[0]? = some (some (.adr p))) (hq : SqL K H0 p (ns.map V.int)) (Pv : Nat → De → Prop) (h0 : Pv 0 δ)
    (hb : ∀ i y δ1, ns[i]? = some y → Pv i δ1 → ∃ δ2, TgD g δ1 (.tup [.int (i : Int), .int y]) δ2 ∧ StD a δ2 (Pv (i + 1)) (fun _ => False))
    (hd : ∀ δ1, Pv ns.length δ1 → StR c δ1 (Ext H0 P0) N R) : StR (tSeq (tFor (iEnum K (tCons (tVar 0) tNil)) g a) c) δ (Ext H0 P0) N R := fun σ H HP s x sl D q1 q2 => by
  refine ⟨.ref p, slot_at sl hi, p, ns.map V.int, rfl, x.big.seq hq, ?_⟩
  refine for_it (walk_enum (xs := ns.map V.int)) (fun i σ' H' => ∃ δ' P', Pv i δ' ∧ Ext H HP H' P' ∧ Sl P' σ' δ') ⟨δ, HP, h0, .refl s, sl⟩ ?_ ?_ ?_
  · rintro i σ' H' _ ⟨δ', P', _, e, _⟩
    exact (x.trans e).big.seq hq
  · rintro i y σ' H' H3 hi2 ⟨δ', P', p1, e, sl'⟩ yy
    rw [List.length_map] at hi2
    have hy : ns[i]? = some ns[i] := by simp [hi2]
    obtain ⟨P3, e3, rd⟩ := ypair (da := .int (i : Int)) (db := .int ns[i]) e.sub yy (fun v hv => by cases hv; rfl) (fun v hv => by
      rw [List.getElem?_map, hy] at hv
      cases hv
      rfl)
    obtain ⟨δ2, tg, st⟩ := hb i ns[i] δ' hy p1
    refine tg σ' H3 P3 y e3.sub (sl'.mono e3.part) rd _ fun σ2 sl2 => ?_
    exact st σ2 H3 P3 e3.sub sl2 _ (fun δ3 σ3 H4 P4 n4 e4 sl4 => ⟨δ3, P4, n4, (e.trans e3).trans e4, sl4⟩) fun d v H4 P4 z => z.elim
  · rintro σ' H' ⟨δ', P', p1, e, sl'⟩
    rw [List.length_map] at p1
    exact hd δ' p1 σ' H' P' e.sub (x.trans e) sl' D (fun δ2 σ2 H2 P2 n2 s2 p2 sl2 => q1 δ2 σ2 H2 P2 n2 s2 (e.part.trans p2) sl2) fun d v H2 P2 r s2 p2 rv => q2 d v H2 P2 r s2 (e.part.trans p2) rv
end
section
variable {P : Program} {w : World} {K : PySem.W.Frag} {mg : Str → Option Value} {base : Heap}

abbrev s__law_of : Stmt := topS 46
abbrev N__law_of : List Str := ["_law_m", "_law_some_here"]
theorem sc__law_of : FnScope N__law_of ["_law_m", "_law_some_here"] (defScope s__law_of) := ⟨rfl, rfl, rfl, by decide +kernel, rfl, by decide +kernel, by decide +kernel⟩
theorem ok__law_of (B : Bn mg) (F : Fu K mg "_law_of" s__law_of ["_law_m", "_law_some_here"]) (h__law_draw : Dn P w K mg base "_law_draw" ["_law_m", "_law_top"] 1 (spM 1 dmDraw rsDraw)) : Dn P w K mg base "_law_of" ["_law_m", "_law_some_here"] 2 (spM 1 dmOf rsOf) := by
  refine F.okM sc__law_of (by rintro _ ⟨es, _, _, rfl⟩; rfl) (fun f cdv A outer s H E hr => ?_)
  have hu := hu_of hr
  have hu64 := hr.units
  refine ⟨_, (pss_one (ps_ret (pe_ix (kIxL (K := K) rfl) (pv 1) (pe_fn h__law_draw (hr.mono (by decide)) (by rfl) (pa_cons (pv 0) (pa_cons (pe_callB (kLen (K := K) rfl) (by rfl) B.len PySem.boot_len (pa_cons (pv 1) pa_nil)) pa_nil))) (fun _ _ => rfl)))), fun ds M G n H0 P0 hd hn => ?_⟩
  obtain ⟨es, h0, h1, rfl⟩ := hd
  have hl : 0 < es.length := List.length_pos_iff.mpr h0
  refine sr_retR (er_imp (er_ixLR (es := es) (S' := Bm H0 P0 M G (n + 1)) (ev_var rfl) bm_stab (er_imp (er_callM rfl (ea_cons (ev_lenL (ea_cons (ev_var rfl) ea_nil)) ea_nil) ⟨es.length, hl, h1, rfl⟩ hn) fun d H P ⟨hr, x⟩ => ⟨?_, x⟩)) fun d H P ⟨hm, x⟩ => ⟨⟨es, rfl, hm⟩, x⟩)
  obtain ⟨top, k, e1, rfl, k1, k2⟩ := hr
  cases e1
  obtain ⟨k', rfl⟩ := Int.eq_ofNat_of_zero_le k1
  exact ⟨k', rfl, by omega⟩

abbrev s__law_some : Stmt := topS 55
theorem ok__law_some (F : Fu K mg "_law_some" s__law_some ["_law_m"]) (S : FnScope ["_law_m", "_law_top"] ["_law_m"] (defScope s__law_some)) : Dn P w K mg base "_law_some" ["_law_m"] 2 (fun _ _ _ _ => False) :=
  F.raw (k := 1) S (fun vs H Q E h => h.elim) (fun f cdv A outer s H vs Q E hr h => h.elim)

abbrev s__law_begun : Stmt := topS 44
abbrev N__law_begun : List Str := ["_law_script", "_law_run", "_law_k", "_law_cell"]
theorem sc__law_begun : FnScope N__law_begun ["_law_script"] (defScope s__law_begun) := ⟨rfl, rfl, rfl, by decide +kernel, rfl, by decide +kernel, by decide +kernel⟩
theorem ok__law_begun (B : Bn mg) (F : Fu K mg "_law_begun" s__law_begun ["_law_script"])  : Dn P w K mg base "_law_begun" ["_law_script"] 1 (spB K) := by
  refine F.raw sc__law_begun (by rintro _ _ _ _ ⟨_, _, _, _, rfl, _⟩; rfl) (fun f cdv A outer s H vs Q E hr h => ?_)
  have hu := hu_of hr
  have hu64 := hr.units
  refine ⟨_, (pss_cons (ps_set (i := 1) sc__law_begun.nd rfl (.inl rfl) (pe_op op_add pe_int (pe_op op_mulW pe_int (pe_callB (kLen (K := K) rfl) (by rfl) B.len PySem.boot_len (pa_cons (pv 0) pa_nil)))))
      (pss_cons (ps_for PassesOwn.never rfl (pi_enum (by rfl) B.enumerate (pa_cons (pv 0) pa_nil)) (pg_tup rfl (pgs_cons (pg_name (i := 2) sc__law_begun.nd rfl (.inl rfl)) (pgs_cons (pg_name (i := 3) sc__law_begun.nd rfl (.inl rfl)) pgs_nil))) (pss_one (ps_set (i := 1) sc__law_begun.nd rfl (.inl rfl) (pe_op op_modN (pe_op op_add (pe_op op_add (pe_op op_mulW (pv 1) pe_int) (pv 3)) (pe_op op_mulW pe_int (pv 2))) pe_int))))
      (pss_one (ps_ret (pe_disp (pps_cons pe_str (pv 1) (pps_cons pe_str (pe_lc (own := [("_law_cell", 3)]) rfl sc__law_begun.nd (kpiL (K := K) rfl (pv 0)) (blkOk_by (own := [("_law_cell", 3)]) (N := N__law_begun) (sc := (defScope s__law_begun)) (by decide +kernel)) (fun _ _ _ _ _ => (pg_name (i := 3) sc__law_begun.nd rfl (.inl rfl))) (fun _ _ _ _ _ => pts_one (pt_cmpR op_ge (pv 3) (pe_op op_powP pe_int pe_int) (nomark _))) (fun _ _ _ _ _ => (pv 3))) (pps_cons pe_str pe_int pps_nil))) rfl rfl (by simp) (by decide)))))), ?_⟩
  obtain ⟨HP, a, ns, s0, rfl, hq, hl, q⟩ := h
  refine sr_go (δ := startD N__law_begun [.adr a]) (S := Ext H HP) (N := fun _ _ _ => False) (R := fun d H' P' => ∃ M G, d = .adr M ∧ Ext H HP H' P' ∧ H M = none ∧ H G = none ∧ MS M G 0 H' P') s0 (.refl s0) (sl_start (ds := [.adr a]) ⟨.ref a, [], rfl, rfl, rfl⟩) (fun _ _ _ _ z => z.elim) (fun d v H' P' ⟨M, G, ed, e, h1, h2, m⟩ _ _ rv => by
    subst ed
    cases (show v = .ref M from rv)
    exact q M G H' P' e h1 h2 m) ?_
  have c37 : CMulW 37 (ns.length : Int) := mul_ok (a := 10) (b := 10) (by decide) (by rw [Int.natAbs_natCast]; exact Nat.lt_of_le_of_lt hl (by decide)) (by decide)
  clear q
  refine sr_setS (es_add (es_of ev_int ext_stab) (es_mul (es_of ev_int ext_stab) (es_lenK rfl hq) c37)) ?_
  have run0 : (15485863 + 37 * (ns.length : Int)).natAbs < 2 ^ 90 := by omega
  refine sr_forK (ns := ns) rfl hq (fun i δ => ∃ r b c, δ = [some (.adr a), some (.int r), b, c] ∧ r.natAbs < 2 ^ 90) ⟨_, none, none, rfl, run0⟩ ?_ ?_
  · rintro i y δ1 hy ⟨r, b, c, rfl, hr⟩
    have hi : i < ns.length := (List.getElem?_eq_some_iff.mp hy).1
    refine ⟨_, tg_tup (tgs_cons tg_name (tgs_cons tg_name tgs_nil)) rfl, ?_⟩
    refine st_asg1 (ev_mod (ev_add (ev_add (ev_mul (ev_var rfl) ev_int (mul_ok (a := 90) (b := 60) hr (by decide) (by decide))) (ev_var rfl)) (ev_mul ev_int (ev_var rfl) (mul_ok (a := 20) (b := 10) (by decide) (by rw [Int.natAbs_natCast]; exact Nat.lt_of_lt_of_le hi (Nat.le_trans hl (by decide))) (by decide)))) ev_int (by decide)) tg_name ⟨_, _, _, rfl, ?_⟩
    obtain ⟨g1, g2⟩ := fmod_rng (a := r * 998244353 + y + 104723 * (i : Int)) (b := 2305843009213693951) (by decide)
    have g2' : (r * 998244353 + y + 104723 * (i : Int)).fmod 2305843009213693951 < 2305843009213693951 := g2
    have g1' : 0 ≤ (r * 998244353 + y + 104723 * (i : Int)).fmod 2305843009213693951 := g1
    generalize (r * 998244353 + y + 104723 * (i : Int)).fmod 2305843009213693951 = r2 at *
    omega
  · rintro δ1 ⟨r, b, c, rfl, hr⟩
    exact sr_retMem (ns := ns) (fun y => decide ((10 : Int) ^ 18 ≤ y)) rfl (Nat.lt_of_lt_of_le hr (by decide)) rfl hq hl (by simp) (Nat.lt_of_sub_eq_succ rfl) fun y => eb_test (ev_ge (ev_var rfl) (ev_pow (n := 18) ev_int ev_int (pow_ok (b := 4) (by decide) (by decide) (by decide))))

end
end Cw
end
section
set_option linter.all false
set_option maxRecDepth 100000
set_option maxHeartbeats 2000000
set_option exponentiation.threshold 100000
namespace Cw
open PySem PySem.Spec PyProof.Rows L2
def F5 : List (Cv × Int × Int) := [(⟨0, 0, 0, -1, 0⟩, 1, 0), (⟨0, 0, 1, 0, 0⟩, 0, 0), (⟨0, 0, 0, 4, 0⟩, 2, 4), (⟨0, -1, 1, 0, 0⟩, 0, 0), (⟨0, 0, 0, 0, 1⟩, 2, 3)]
def f5d (p : Cv × Int × Int) : Dt := .tup [cv p.1, ipt p.2.1 p.2.2]
def rsFin (ds : List Dt) (d : Dt) : Prop := ∃ (c : Cv) (x y r s t : Int), (c, x, y) ∈ F5 ∧ r.natAbs ≤ 3 ∧ s.natAbs ≤ 1 ∧ t.natAbs ≤ 1 ∧ d = .tup [cv (c.mv r s t), ipt (x - r) (y - s * (x - r) - t)]
section
variable {K : PySem.W.Frag} {δ : De} {d : Dt} {ds : List Dt} {S : HpP} {ta tt tb : TE} {tr : TA} {H0 P0 : Hp} {M G : Addr} {n : Nat}
theorem er_draw {top : Nat} {E : XK} (hi : δ[0]? = some (some (.adr M))) (ht : EvD tt δ (.int (top : Int))) (h0 : 0 < top) (h1 : top ≤ 1000) (hn : n + 1 ≤ 100000) :
    EvR (tCall (spM 1 dmDraw rsDraw) [] E (tCons (tVar 0) (tCons tt tNil))) δ (Bm H0 P0 M G n) (fun d H P => (∃ i, d = .int i ∧ (0 ≤ i ∧ i < (top : Int))) ∧ Bm H0 P0 M G (n + 1) H P) :=
  er_imp (er_callM hi (ea_cons ht ea_nil) ⟨top, h0, h1, rfl⟩ hn) fun d H P ⟨⟨t', k, e, ed, k1, k2⟩, x⟩ => ⟨⟨k, ed, k1, by
    have e2 := (List.cons.inj e).1
    have e3 : (top : Int) = (t' : Int) := by injection e2
    omega⟩, x⟩
theorem er_drawSub {top : Nat} {j : Int} {E : XK} (hi : δ[0]? = some (some (.adr M))) (ht : EvD tt δ (.int (top : Int))) (hb : EvD tb δ (.int j)) (h0 : 0 < top) (h1 : top ≤ 1000) (hn : n + 1 ≤ 100000) :
    EvR (tOp (rI0 fun i j => .int (i - j)) (tCall (spM 1 dmDraw rsDraw) [] E (tCons (tVar 0) (tCons tt tNil))) tb) δ (Bm H0 P0 M G n) (fun d H P => (∃ i, d = .int (i - j) ∧ (0 ≤ i ∧ i < (top : Int))) ∧ Bm H0 P0 M G (n + 1) H P) :=
  er_subc (er_draw hi ht h0 h1 hn) bm_stab hb
theorem ear_pure {U : List Dt → HpP} (h : EvD ta δ d) (hS : Stab S) (k : EaR tr δ S U) : EaR (tCons ta tr) δ S (fun ds H P => ∃ r, ds = d :: r ∧ U r H P) := fun σ H HP s x sl Q q =>
  h σ H HP s sl _ fun v H1 P1 e1 r1 => k σ H1 P1 e1.sub (hS _ _ _ _ x e1) (sl.mono e1.part) _ fun ds vs H2 P2 n2 s2 p2 r2 => q (d :: ds) (v :: vs) H2 P2 ⟨ds, rfl, n2⟩ s2 (e1.part.trans p2) ⟨v, vs, rfl, r1.mono p2, r2⟩
end
theorem f5_ok {c : Cv} {x y : Int} (h : (c, x, y) ∈ F5) : Cs c ∧ x.natAbs ≤ 2 ∧ y.natAbs ≤ 4 := by
  simp only [F5, List.mem_cons, List.not_mem_nil, or_false, Prod.mk.injEq] at h
  rcases h with ⟨rfl, rfl, rfl⟩ | ⟨rfl, rfl, rfl⟩ | ⟨rfl, rfl, rfl⟩ | ⟨rfl, rfl, rfl⟩ | ⟨rfl, rfl, rfl⟩ <;> exact ⟨⟨by decide, by decide, by decide, by decide, by decide⟩, by decide, by decide⟩
section
variable {P : Program} {w : World} {K : PySem.W.Frag} {mg : Str → Option Value} {base : Heap}

abbrev s__law_finite : Stmt := topS 60
abbrev N__law_finite : List Str := ["_law_m", "_law_some_here", "_law_curve", "_law_spot", "_law_spots"]
theorem sc__law_finite : FnScope N__law_finite ["_law_m"] (defScope s__law_finite) := ⟨rfl, rfl, rfl, by decide +kernel, rfl, by decide +kernel, by decide +kernel⟩
def rsFinL (c : Cv) (px py : Int) (d : Dt) : Prop := ∃ r s t : Int, r.natAbs ≤ 3 ∧ s.natAbs ≤ 1 ∧ t.natAbs ≤ 1 ∧ d = .tup [cv (c.mv r s t), .lst (ipts ([(px, py)].map (mvp r s t)))]
theorem ok__law_finite (B : Bn mg) (F : Fu K mg "_law_finite" s__law_finite ["_law_m"]) (h__law_of : Dn P w K mg base "_law_of" ["_law_m", "_law_some_here"] 2 (spM 1 dmOf rsOf)) (h__law_moved : Dn P w K mg base "_law_moved" ["_law_curve", "_law_spots", "_law_r", "_law_s", "_law_t"] 4 (spP p__law_moved)) (h__law_draw : Dn P w K mg base "_law_draw" ["_law_m", "_law_top"] 1 (spM 1 dmDraw rsDraw)) : Dn P w K mg base "_law_finite" ["_law_m"] 5 (spM 4 (fun ds => ds = []) rsFin) := by
  refine F.okM sc__law_finite (by rintro _ rfl; rfl) (fun f cdv A outer s H E hr => ?_)
  have hu := hu_of hr
  have hu64 := hr.units
  refine ⟨_, (pss_cons (ps_set (i := 1) sc__law_finite.nd rfl (.inl rfl) (pe_lst (pa_cons (pe_tup (pa_cons (pe_tup (pa_cons pe_int (pa_cons pe_int (pa_cons pe_int (pa_cons (pe_op op_sub pe_int pe_int) (pa_cons pe_int pa_nil)))))) (pa_cons (pe_tup (pa_cons pe_int (pa_cons pe_int pa_nil))) pa_nil))) (pa_cons (pe_tup (pa_cons (pe_tup (pa_cons pe_int (pa_cons pe_int (pa_cons pe_int (pa_cons pe_int (pa_cons pe_int pa_nil)))))) (pa_cons (pe_tup (pa_cons pe_int (pa_cons pe_int pa_nil))) pa_nil))) (pa_cons (pe_tup (pa_cons (pe_tup (pa_cons pe_int (pa_cons pe_int (pa_cons pe_int (pa_cons pe_int (pa_cons pe_int pa_nil)))))) (pa_cons (pe_tup (pa_cons pe_int (pa_cons pe_int pa_nil))) pa_nil))) pa_nil)))))
      (pss_cons (ps_asg (pe_fn h__law_of (hr.mono (by decide)) (by rfl) (pa_cons (pv 0) (pa_cons (pe_op op_cat (pv 1) (pe_lst (pa_cons (pe_tup (pa_cons (pe_tup (pa_cons pe_int (pa_cons (pe_op op_sub pe_int pe_int) (pa_cons pe_int (pa_cons pe_int (pa_cons pe_int pa_nil)))))) (pa_cons (pe_tup (pa_cons pe_int (pa_cons pe_int pa_nil))) pa_nil))) (pa_cons (pe_tup (pa_cons (pe_tup (pa_cons pe_int (pa_cons pe_int (pa_cons pe_int (pa_cons pe_int (pa_cons pe_int pa_nil)))))) (pa_cons (pe_tup (pa_cons pe_int (pa_cons pe_int pa_nil))) pa_nil))) pa_nil)))) pa_nil))) (pg_tup rfl (pgs_cons (pg_name (i := 2) sc__law_finite.nd rfl (.inl rfl)) (pgs_cons (pg_name (i := 3) sc__law_finite.nd rfl (.inl rfl)) pgs_nil))))
      (pss_cons (ps_asg (pe_fn h__law_moved (hr.mono (by decide)) (by rfl) (pa_cons (pv 2) (pa_cons (pe_lst (pa_cons (pv 3) pa_nil)) (pa_cons (pe_op op_sub (pe_fn h__law_draw (hr.mono (by decide)) (by rfl) (pa_cons (pv 0) (pa_cons pe_int pa_nil))) pe_int) (pa_cons (pe_op op_sub (pe_fn h__law_draw (hr.mono (by decide)) (by rfl) (pa_cons (pv 0) (pa_cons pe_int pa_nil))) pe_int) (pa_cons (pe_op op_sub (pe_fn h__law_draw (hr.mono (by decide)) (by rfl) (pa_cons (pv 0) (pa_cons pe_int pa_nil))) pe_int) pa_nil)))))) (pg_tup rfl (pgs_cons (pg_name (i := 2) sc__law_finite.nd rfl (.inl rfl)) (pgs_cons (pg_name (i := 4) sc__law_finite.nd rfl (.inl rfl)) pgs_nil))))
      (pss_one (ps_ret (pe_tup (pa_cons (pv 2) (pa_cons (pe_ix (kIxL (K := K) rfl) (pv 4) pe_int (fun _ _ => rfl)) pa_nil)))))))), fun ds M G n H0 P0 hd hn => ?_⟩
  subst hd
  refine sr_set (d := .lst [f5d (⟨0, 0, 0, -1, 0⟩, 1, 0), f5d (⟨0, 0, 1, 0, 0⟩, 0, 0), f5d (⟨0, 0, 0, 4, 0⟩, 2, 4)]) (ev_lst (ea_cons (ev_tup (ea_cons (ev_tup (ea_cons ev_int (ea_cons ev_int (ea_cons ev_int (ea_cons (ev_sub ev_int ev_int) (ea_cons ev_int ea_nil)))))) (ea_cons (ev_tup (ea_cons ev_int (ea_cons ev_int ea_nil))) ea_nil))) (ea_cons (ev_tup (ea_cons (ev_tup (ea_cons ev_int (ea_cons ev_int (ea_cons ev_int (ea_cons ev_int (ea_cons ev_int ea_nil)))))) (ea_cons (ev_tup (ea_cons ev_int (ea_cons ev_int ea_nil))) ea_nil))) (ea_cons (ev_tup (ea_cons (ev_tup (ea_cons ev_int (ea_cons ev_int (ea_cons ev_int (ea_cons ev_int (ea_cons ev_int ea_nil)))))) (ea_cons (ev_tup (ea_cons ev_int (ea_cons ev_int ea_nil))) ea_nil))) ea_nil)))) bm_stab ?_
  refine sr_asgR (er_callM rfl (ea_cons (ev_catL (ds := [f5d (⟨0, 0, 0, -1, 0⟩, 1, 0), f5d (⟨0, 0, 1, 0, 0⟩, 0, 0), f5d (⟨0, 0, 0, 4, 0⟩, 2, 4)]) (es := [f5d (⟨0, -1, 1, 0, 0⟩, 0, 0), f5d (⟨0, 0, 0, 0, 1⟩, 2, 3)]) (ev_var rfl) (ev_lst (ea_cons (ev_tup (ea_cons (ev_tup (ea_cons ev_int (ea_cons (ev_sub ev_int ev_int) (ea_cons ev_int (ea_cons ev_int (ea_cons ev_int ea_nil)))))) (ea_cons (ev_tup (ea_cons ev_int (ea_cons ev_int ea_nil))) ea_nil))) (ea_cons (ev_tup (ea_cons (ev_tup (ea_cons ev_int (ea_cons ev_int (ea_cons ev_int (ea_cons ev_int (ea_cons ev_int ea_nil)))))) (ea_cons (ev_tup (ea_cons ev_int (ea_cons ev_int ea_nil))) ea_nil))) ea_nil))) (Nat.le_of_ble_eq_true rfl)) ea_nil) ⟨_, List.cons_ne_nil _ _, Nat.le_of_ble_eq_true rfl, rfl⟩ (by omega)) fun d H P ⟨hr, x⟩ => ?_
  obtain ⟨es, e1, hm⟩ := hr
  have hm' : ∃ p, p ∈ F5 ∧ f5d p = d := by
    have e2 : es = F5.map f5d := by
      have e3 := (List.cons.inj e1).1
      injection e3 with e4
      exact e4.symm
    rw [e2] at hm
    exact List.mem_map.mp hm
  obtain ⟨⟨c, px, py⟩, hp, rfl⟩ := hm'
  obtain ⟨hcs, hx, hy⟩ := f5_ok hp
  refine ⟨_, Bm H0 P0 M G (n + 1), tg_tup (tgs_cons tg_name (tgs_cons tg_name tgs_nil)) rfl, x, ?_⟩
  refine sr_asgR (er_call (N1 := fun d H P => rsFinL c px py d ∧ Bm H0 P0 M G (n + 4) H P) (ear_pure (ev_var (d := cv c) rfl) bm_stab (ear_pure (ev_lst (ds := [ipt px py]) (ea_cons (ev_var rfl) ea_nil)) bm_stab (ear_cons (S' := Bm H0 P0 M G (n + 2)) (T := fun d => ∃ i : Int, d = .int (i - 3) ∧ 0 ≤ i ∧ i < 7) (er_drawSub (top := 7) rfl ev_int ev_int (by decide) (by decide) (by omega)) fun d1 t1 => ear_cons (S' := Bm H0 P0 M G (n + 3)) (T := fun d => ∃ i : Int, d = .int (i - 1) ∧ 0 ≤ i ∧ i < 3) (er_drawSub (top := 3) rfl ev_int ev_int (by decide) (by decide) (by omega)) fun d2 t2 => ear_cons (S' := Bm H0 P0 M G (n + 4)) (T := fun d => ∃ i : Int, d = .int (i - 1) ∧ 0 ≤ i ∧ i < 3) (er_drawSub (top := 3) rfl ev_int ev_int (by decide) (by decide) (by omega)) fun d3 t3 => ear_of ea_nil bm_stab))) ?_) fun d H P ⟨hr, x⟩ => ?_
  · rintro ds H P ⟨r1, rfl, r2, rfl, d1, r3, rfl, ⟨i1, rfl, k1, k1'⟩, d2, r4, rfl, ⟨i2, rfl, k2, k2'⟩, d3, r5, rfl, ⟨i3, rfl, k3, k3'⟩, rfl, x⟩
    refine ⟨_, Bm H0 P0 M G (n + 4), ⟨c, [(px, py)], i1 - 3, i2 - 1, i3 - 1, ⟨hcs, by show (i1 - 3).natAbs < 2 ^ 20; omega, by show (i2 - 1).natAbs < 2 ^ 20; omega, by show (i3 - 1).natAbs < 2 ^ 20; omega⟩, Nat.le_of_ble_eq_true rfl, fun p hp => ?_, rfl, rfl⟩, x, bm_stab, fun H' P' y => ⟨⟨i1 - 3, i2 - 1, i3 - 1, by omega, by omega, by omega, rfl⟩, y⟩⟩
    cases List.mem_singleton.mp hp
    exact ⟨by show px.natAbs < 2 ^ 20; omega, by show py.natAbs < 2 ^ 20; omega⟩
  · obtain ⟨r, s, t, hr1, hs1, ht1, rfl⟩ := hr
    refine ⟨_, Bm H0 P0 M G (n + 4), tg_tup (tgs_cons tg_name (tgs_cons tg_name tgs_nil)) rfl, x, ?_⟩
    refine sr_ret (d := .tup [cv (c.mv r s t), ipt (px - r) (py - s * (px - r) - t)]) (ev_tup (ea_cons (ev_var rfl) (ea_cons (ev_ixL (n := 0) (ds := [ipt (px - r) (py - s * (px - r) - t)]) (ev_var rfl) ev_int rfl rfl) ea_nil))) bm_stab fun H P x => ⟨⟨c, px, py, r, s, t, hp, hr1, hs1, ht1, rfl⟩, x⟩

end
end Cw
end
section
set_option linter.all false
set_option maxRecDepth 100000
set_option maxHeartbeats 2000000
set_option exponentiation.threshold 100000
namespace Cw
open PySem PySem.Spec PyProof.Rows L2
structure Thr (c : Cv) (x y v w : Int) : Prop where
  h1 : c.a1.natAbs ≤ 4
  h2 : c.a2.natAbs ≤ 4
  h3 : c.a3.natAbs ≤ 4
  h4 : c.a4.natAbs ≤ 561
  h6 : c.a6.natAbs ≤ 2468
  d : c.D ≠ 0
  bx : x.natAbs ≤ 4
  bY : y.natAbs ≤ 4
  bv : v.natAbs ≤ 5
  bw : w.natAbs ≤ 4
  xv : v = x + 1 ∨ v = x - 1
  on : c.On (ic x) (ic y)
  on2 : c.On (ic v) (ic w)
def rsThr (ds : List Dt) (d : Dt) : Prop := ∃ (c : Cv) (x y v w : Int), Thr c x y v w ∧ d = .tup [cv c, .lst (ipts [(x, y), (v, w)])]
def rT (a b c x y : Int) : List (List Int) := [[y, y], [a, x, y], [c, y], [-1, x, x, x], [-1, b, x, x]]
def vT (a b c x y : Int) : Int := y * y + a * x * y + c * y - x * x * x - b * x * x
theorem sT (a b c x y : Int) : sumI (rT a b c x y) = vT a b c x y := by simp only [sumI, rT, prodI, List.foldl, vT]; grind
theorem vT_le {a b c x y : Int} (ha : a.natAbs ≤ 4) (hb : b.natAbs ≤ 4) (hc : c.natAbs ≤ 4) (hx : x.natAbs ≤ 4) (hy : y.natAbs ≤ 4) : (vT a b c x y).natAbs ≤ 224 := by
  have h1 := abs_mul hy hy
  have h2 := abs_mul (abs_mul ha hx) hy
  have h3 := abs_mul hc hy
  have h4 := abs_mul (abs_mul hx hx) hx
  have h5 := abs_mul (abs_mul hb hx) hx
  unfold vT
  omega
theorem vT_le2 {a b c x y : Int} (ha : a.natAbs ≤ 4) (hb : b.natAbs ≤ 4) (hc : c.natAbs ≤ 4) (hx : x.natAbs ≤ 5) (hy : y.natAbs ≤ 4) : (vT a b c x y).natAbs ≤ 337 := by
  have h1 := abs_mul hy hy
  have h2 := abs_mul (abs_mul ha hx) hy
  have h3 := abs_mul hc hy
  have h4 := abs_mul (abs_mul hx hx) hx
  have h5 := abs_mul (abs_mul hb hx) hx
  unfold vT
  omega
/-- the curve through both -/
def cThr (a b c x y v w : Int) : Cv := ⟨a, b, c, (vT a b c x y - vT a b c v w) * (x - v), vT a b c x y - (vT a b c x y - vT a b c v w) * (x - v) * x⟩
theorem on_ints {c : Cv} {x y : Int} (h : vT c.a1 c.a2 c.a3 x y = c.a4 * x + c.a6) : c.On (ic x) (ic y) := by
  have h2 : y * y + c.a1 * x * y + c.a3 * y - (x * x * x + c.a2 * x * x + c.a4 * x + c.a6) = 0 := by
    unfold vT at h
    omega
  have h3 : ((y * y + c.a1 * x * y + c.a3 * y - (x * x * x + c.a2 * x * x + c.a4 * x + c.a6) : Int) : Rat) = 0 := by rw [h2]; rfl
  unfold Cv.On Cv.off
  simpa only [Rat.intCast_add, Rat.intCast_sub, Rat.intCast_mul] using h3
theorem thr_ok {a b c x y v w : Int} (ha : a.natAbs ≤ 4) (hb : b.natAbs ≤ 4) (hc : c.natAbs ≤ 4) (hx : x.natAbs ≤ 4) (hy : y.natAbs ≤ 4) (hw : w.natAbs ≤ 4) (hv : v = x + 1 ∨ v = x - 1) (hD : (cThr a b c x y v w).D ≠ 0) : Thr (cThr a b c x y v w) x y v w := by
  have hv5 : v.natAbs ≤ 5 := by omega
  have b1 := vT_le ha hb hc hx hy
  have b2 := vT_le2 ha hb hc hv5 hw
  have e1 : (x - v).natAbs ≤ 1 := by omega
  have b3 : (vT a b c x y - vT a b c v w).natAbs ≤ 561 := by omega
  have b4 := abs_mul b3 e1
  have b5 := abs_mul b4 hx
  refine ⟨ha, hb, hc, by show ((vT a b c x y - vT a b c v w) * (x - v)).natAbs ≤ 561; omega, by show (vT a b c x y - (vT a b c x y - vT a b c v w) * (x - v) * x).natAbs ≤ 2468; omega, hD, hx, hy, hv5, hw, hv, on_ints ?_, on_ints ?_⟩
  · show vT a b c x y = (vT a b c x y - vT a b c v w) * (x - v) * x + (vT a b c x y - (vT a b c x y - vT a b c v w) * (x - v) * x)
    omega
  · show vT a b c v w = (vT a b c x y - vT a b c v w) * (x - v) * v + (vT a b c x y - (vT a b c x y - vT a b c v w) * (x - v) * x)
    generalize vT a b c x y = A
    generalize vT a b c v w = B
    rcases hv with rfl | rfl
    · grind
    · grind
theorem thr_last : Thr ⟨0, 0, 1, -1, 0⟩ 0 0 1 0 := ⟨by decide, by decide, by decide, by decide, by decide, by decide +kernel, by decide, by decide, by decide, by decide, .inl (by decide), on_ints (by decide), on_ints (by decide)⟩
theorem pool7 {es : List Dt} (hl : es.length = 7) (hT : ∀ e, e ∈ es → ∃ j : Int, e = .int (j - 4) ∧ 0 ≤ j ∧ j < 9) : ∃ a b c x y v w : Int, es = [.int a, .int b, .int c, .int x, .int y, .int v, .int w] ∧ a.natAbs ≤ 4 ∧ b.natAbs ≤ 4 ∧ c.natAbs ≤ 4 ∧ x.natAbs ≤ 4 ∧ y.natAbs ≤ 4 ∧ v.natAbs ≤ 4 ∧ w.natAbs ≤ 4 := by
  match es, hl with
  | [e1, e2, e3, e4, e5, e6, e7], _ =>
    obtain ⟨j1, rfl, k1, k1'⟩ := hT e1 (by simp)
    obtain ⟨j2, rfl, k2, k2'⟩ := hT e2 (by simp)
    obtain ⟨j3, rfl, k3, k3'⟩ := hT e3 (by simp)
    obtain ⟨j4, rfl, k4, k4'⟩ := hT e4 (by simp)
    obtain ⟨j5, rfl, k5, k5'⟩ := hT e5 (by simp)
    obtain ⟨j6, rfl, k6, k6'⟩ := hT e6 (by simp)
    obtain ⟨j7, rfl, k7, k7'⟩ := hT e7 (by simp)
    exact ⟨_, _, _, _, _, _, _, rfl, by omega, by omega, by omega, by omega, by omega, by omega, by omega⟩
theorem lit_of {x : Int} {n : Nat} (h : x.natAbs ≤ n) (hn : n < 2 ^ 200) : x.natAbs < 2 ^ 200 := Nat.lt_of_le_of_lt h hn
section
variable {P : Program} {w : World} {K : PySem.W.Frag} {mg : Str → Option Value} {base : Heap} {δ : De} {E : XK} {ta tb : TE} {i j : Int}
theorem sm_ic {i : Int} (h : i.natAbs < 2 ^ 200) : Sm (ic i) := sm_int (Nat.lt_of_lt_of_le h (Nat.pow_le_pow_right (by decide) (by decide)))
theorem ev_byI (h1 : EvD ta δ (.int i)) (h2 : EvD tb δ (.int j)) (b1 : i.natAbs < 2 ^ 200) (b2 : j.natAbs < 2 ^ 200) : EvD (tCall (spP p__law_by) [] E (tCons ta (tCons tb tNil))) δ (.int (i * j)) := ev_call (ea_cons h1 (ea_cons h2 ea_nil)) ⟨ic i, ic j, sm_ic b1, sm_ic b2, rfl, by
  rw [show ic i * ic j = ic (i * j) by simp [ic]]
  rfl⟩
theorem ev_plusI (h1 : EvD ta δ (.int i)) (h2 : EvD tb δ (.int j)) (b1 : i.natAbs < 2 ^ 200) (b2 : j.natAbs < 2 ^ 200) : EvD (tCall (spP p__law_plus) [] E (tCons ta (tCons tb tNil))) δ (.int (i + j)) := ev_call (ea_cons h1 (ea_cons h2 ea_nil)) ⟨ic i, ic j, sm_ic b1, sm_ic b2, rfl, by
  rw [show ic i + ic j = ic (i + j) by simp [ic]]
  rfl⟩
theorem ev_overI (h1 : EvD ta δ (.int i)) (h2 : EvD tb δ (.int j)) (b1 : i.natAbs < 2 ^ 200) (b2 : j = 1 ∨ j = -1) : EvD (tCall (spP p__law_over) [] E (tCons ta (tCons tb tNil))) δ (.int (i * j)) := by
  have hj : j.natAbs < 2 ^ 200 := by rcases b2 with rfl | rfl <;> decide
  have hj0 : ic j ≠ 0 := by rcases b2 with rfl | rfl <;> decide
  have hq : ic i / ic j = ic (i * j) := by
    have h3 : ic i = ic (i * j) * ic j := by
      rw [show ic (i * j) * ic j = ic (i * j * j) by simp [ic]]
      rcases b2 with rfl | rfl <;> simp
    rw [h3]
    exact Rat.mul_div_cancel hj0
  exact ev_call (ea_cons h1 (ea_cons h2 ea_nil)) ⟨ic i, ic j, sm_ic b1, sm_ic hj, hj0, rfl, by rw [hq]; rfl⟩
theorem sr_asgR1 {te : TE} {g : TG} {S : HpP} {N1 : Dt → HpP} {N : De → HpP} {R : Dt → HpP} (h : EvR te δ S N1) (k : ∀ d H P, N1 d H P → ∃ δ1, TgD g δ d δ1 ∧ N δ1 H P) : StR (tAsg te g) δ S N R :=
  (show StR (tSeq (tAsg te g) tNext) δ S N R from sr_asgR h fun d H P n => by
    obtain ⟨δ1, h1, h2⟩ := k d H P n
    exact ⟨δ1, fun H P => N δ1 H P, h1, h2, sr_next fun _ _ x => x⟩)

abbrev s__law_through : Stmt := topS 56
abbrev N__law_through : List Str := ["_law_m", "_law_whole", "_law_turn", "_law_pool", "_law_a", "_law_b_here", "_law_c", "_law_x", "_law_y", "_law_far", "_law_up", "_law_one", "_law_other", "_law_d_here", "_law_curve", "_law_k"]
theorem sc__law_through : FnScope N__law_through ["_law_m", "_law_whole"] (defScope s__law_through) := ⟨rfl, rfl, rfl, by decide +kernel, rfl, by decide +kernel, by decide +kernel⟩
theorem ok__law_through (B : Bn mg) (F : Fu K mg "_law_through" s__law_through ["_law_m", "_law_whole"]) (h__law_all : Dn P w K mg base "_law_all" ["_law_rows"] 3 (spP p__law_all)) (h__law_over : Dn P w K mg base "_law_over" ["_law_a", "_law_b_here"] 2 (spP p__law_over)) (h__law_plus : Dn P w K mg base "_law_plus" ["_law_a", "_law_b_here"] 2 (spP p__law_plus)) (h__law_d : Dn P w K mg base "_law_d" ["_law_curve"] 5 (spP p__law_d)) (h__law_some : Dn P w K mg base "_law_some" ["_law_m"] 2 (fun _ _ _ _ => False)) (h__law_of : Dn P w K mg base "_law_of" ["_law_m", "_law_some_here"] 2 (spM 1 dmOf rsOf)) (h__law_by : Dn P w K mg base "_law_by" ["_law_a", "_law_b_here"] 2 (spP p__law_by)) (h__law_draw : Dn P w K mg base "_law_draw" ["_law_m", "_law_top"] 1 (spM 1 dmDraw rsDraw)) : Dn P w K mg base "_law_through" ["_law_m", "_law_whole"] 6 (spM 72 (fun ds => ds = [.bl true]) rsThr) := by
  refine F.okM sc__law_through (by rintro _ rfl; rfl) (fun f cdv A outer s H E hr => ?_)
  have hu := hu_of hr
  have hu64 := hr.units
  refine ⟨_, (pss_cons (ps_for PassesOwn.never rfl (pi_range1 rfl B.range (pa_cons pe_int pa_nil)) (pg_name (i := 2) sc__law_through.nd rfl (.inl rfl)) (pss_cons (ps_setLc (i := 3) (own := [("_law_k", 15)]) rfl sc__law_through.nd rfl rfl (sw_true rfl rfl rfl (by decide +kernel)) (pi_range1 rfl B.range (pa_cons pe_int pa_nil)) (blkOk_by (own := [("_law_k", 15)]) (N := N__law_through) (sc := (defScope s__law_through)) (by decide +kernel)) (fun _ _ _ _ _ => (pg_name (i := 15) sc__law_through.nd rfl (.inl rfl))) (fun _ _ _ _ _ => pts_nil) (fun _ _ _ _ _ => (pe_ifExp (pt_val (pv 1)) (pe_op op_sub (pe_fn h__law_draw (hr.mono (by decide)) (by rfl) (pa_cons (pv 0) (pa_cons pe_int pa_nil))) pe_int) (pe_fn h__law_some (hr.mono (by decide)) (by rfl) (pa_cons (pv 0) pa_nil)))))
      (pss_cons (ps_asg (pv 3) (pg_lst rfl (pgs_cons (pg_name (i := 4) sc__law_through.nd rfl (.inl rfl)) (pgs_cons (pg_name (i := 5) sc__law_through.nd rfl (.inl rfl)) (pgs_cons (pg_name (i := 6) sc__law_through.nd rfl (.inl rfl)) (pgs_cons (pg_name (i := 7) sc__law_through.nd rfl (.inl rfl)) (pgs_cons (pg_name (i := 8) sc__law_through.nd rfl (.inl rfl)) (pgs_cons (pg_name (i := 9) sc__law_through.nd rfl (.inl rfl)) (pgs_cons (pg_name (i := 10) sc__law_through.nd rfl (.inl rfl)) pgs_nil)))))))))
      (pss_cons (ps_set (i := 9) sc__law_through.nd rfl (.inl rfl) (pe_ifExp (pt_cmpR op_eq (pv 9) (pv 7) (nomark _)) (pe_fn h__law_plus (hr.mono (by decide)) (by rfl) (pa_cons (pv 9) (pa_cons pe_int pa_nil))) (pv 9)))
      (pss_cons (ps_if (pt_val (pv 1)) (pss_one (ps_set (i := 9) sc__law_through.nd rfl (.inl rfl) (pe_op op_add (pv 7) (pe_fn h__law_of (hr.mono (by decide)) (by rfl) (pa_cons (pv 0) (pa_cons (pe_lst (pa_cons pe_int (pa_cons (pe_op op_sub pe_int pe_int) pa_nil))) pa_nil)))))) pss_nil)
      (pss_cons (ps_set (i := 11) sc__law_through.nd rfl (.inl rfl) (pe_fn h__law_all (hr.mono (by decide)) (by rfl) (pa_cons (pe_lst (pa_cons (pe_lst (pa_cons (pv 8) (pa_cons (pv 8) pa_nil))) (pa_cons (pe_lst (pa_cons (pv 4) (pa_cons (pv 7) (pa_cons (pv 8) pa_nil)))) (pa_cons (pe_lst (pa_cons (pv 6) (pa_cons (pv 8) pa_nil))) (pa_cons (pe_lst (pa_cons (pe_op op_sub pe_int pe_int) (pa_cons (pv 7) (pa_cons (pv 7) (pa_cons (pv 7) pa_nil))))) (pa_cons (pe_lst (pa_cons (pe_op op_sub pe_int pe_int) (pa_cons (pv 5) (pa_cons (pv 7) (pa_cons (pv 7) pa_nil))))) pa_nil)))))) pa_nil)))
      (pss_cons (ps_set (i := 12) sc__law_through.nd rfl (.inl rfl) (pe_fn h__law_all (hr.mono (by decide)) (by rfl) (pa_cons (pe_lst (pa_cons (pe_lst (pa_cons (pv 10) (pa_cons (pv 10) pa_nil))) (pa_cons (pe_lst (pa_cons (pv 4) (pa_cons (pv 9) (pa_cons (pv 10) pa_nil)))) (pa_cons (pe_lst (pa_cons (pv 6) (pa_cons (pv 10) pa_nil))) (pa_cons (pe_lst (pa_cons (pe_op op_sub pe_int pe_int) (pa_cons (pv 9) (pa_cons (pv 9) (pa_cons (pv 9) pa_nil))))) (pa_cons (pe_lst (pa_cons (pe_op op_sub pe_int pe_int) (pa_cons (pv 5) (pa_cons (pv 9) (pa_cons (pv 9) pa_nil))))) pa_nil)))))) pa_nil)))
      (pss_cons (ps_set (i := 13) sc__law_through.nd rfl (.inl rfl) (pe_fn h__law_over (hr.mono (by decide)) (by rfl) (pa_cons (pe_fn h__law_plus (hr.mono (by decide)) (by rfl) (pa_cons (pv 11) (pa_cons (pe_fn h__law_by (hr.mono (by decide)) (by rfl) (pa_cons (pe_op op_sub pe_int pe_int) (pa_cons (pv 12) pa_nil))) pa_nil))) (pa_cons (pe_fn h__law_plus (hr.mono (by decide)) (by rfl) (pa_cons (pv 7) (pa_cons (pe_fn h__law_by (hr.mono (by decide)) (by rfl) (pa_cons (pe_op op_sub pe_int pe_int) (pa_cons (pv 9) pa_nil))) pa_nil))) pa_nil))))
      (pss_cons (ps_set (i := 14) sc__law_through.nd rfl (.inl rfl) (pe_tup (pa_cons (pv 4) (pa_cons (pv 5) (pa_cons (pv 6) (pa_cons (pv 13) (pa_cons (pe_fn h__law_plus (hr.mono (by decide)) (by rfl) (pa_cons (pv 11) (pa_cons (pe_fn h__law_all (hr.mono (by decide)) (by rfl) (pa_cons (pe_lst (pa_cons (pe_lst (pa_cons (pe_op op_sub pe_int pe_int) (pa_cons (pv 13) (pa_cons (pv 7) pa_nil)))) pa_nil)) pa_nil)) pa_nil))) pa_nil)))))))
      (pss_one (ps_if (pt_cmpR op_ne (pe_fn h__law_d (hr.mono (by decide)) (by rfl) (pa_cons (pv 14) pa_nil)) pe_int (nomark _)) (pss_one (ps_ret (pe_tup (pa_cons (pv 14) (pa_cons (pe_lst (pa_cons (pe_tup (pa_cons (pv 7) (pa_cons (pv 8) pa_nil))) (pa_cons (pe_tup (pa_cons (pv 9) (pa_cons (pv 10) pa_nil))) pa_nil))) pa_nil))))) pss_nil)))))))))))
      (pss_one (ps_ret (pe_tup (pa_cons (pe_tup (pa_cons pe_int (pa_cons pe_int (pa_cons pe_int (pa_cons (pe_op op_sub pe_int pe_int) (pa_cons pe_int pa_nil)))))) (pa_cons (pe_lst (pa_cons (pe_tup (pa_cons pe_int (pa_cons pe_int pa_nil))) (pa_cons (pe_tup (pa_cons pe_int (pa_cons pe_int pa_nil))) pa_nil))) pa_nil)))))), fun ds M G n H0 P0 hd hn => ?_⟩
  subst hd
  refine sr_for (ds := rngD 0 9) (src_rng1 (n := 9) (ea_cons ev_int ea_nil) (Nat.le_of_ble_eq_true rfl)) bm_stab
    (fun i δ H P => (∃ a2 a3 a4 a5 a6 a7 a8 a9 a10 a11 a12 a13 a14 a15, δ = [some (.adr M), some (.bl true), a2, a3, a4, a5, a6, a7, a8, a9, a10, a11, a12, a13, a14, a15]) ∧ Bm H0 P0 M G (n + 8 * i) H P) (fun H P x => ⟨⟨none, none, none, none, none, none, none, none, none, none, none, none, none, none, rfl⟩, x⟩) ?_ ?_
  · rintro i d δ1 H P hd ⟨⟨a2, a3, a4, a5, a6, a7, a8, a9, a10, a11, a12, a13, a14, a15, rfl⟩, x⟩
    have hi : i < 9 := by
      have := (List.getElem?_eq_some_iff.mp hd).1
      rwa [rngD_len] at this
    rw [rngD_get hi] at hd
    cases hd
    refine ⟨_, Bm H0 P0 M G (n + 8 * i), tg_name, x, bm_stab, ?_⟩
    refine sr_asgR (er_lcM (ds := rngD 0 7) (i := 15) (T := fun e => ∃ j : Int, e = .int (j - 4) ∧ 0 ≤ j ∧ j < 9) (src_rng1 (n := 7) (ea_cons ev_int ea_nil) (Nat.le_of_ble_eq_true rfl)) (by simp) (Nat.le_of_ble_eq_true rfl) (fun A0 B0 k d hk => ?_)) fun d H P ⟨⟨es, ed, hl, hT⟩, x⟩ => ?_
    · have hk7 : k < 7 := by
        have := (List.getElem?_eq_some_iff.mp hk).1
        rwa [rngD_len] at this
      exact er_ifT (eb_B (ev_var rfl)) bm_stab (er_drawSub (top := 9) rfl ev_int ev_int (by decide) (by decide) (by omega))
    subst ed
    obtain ⟨a, b, c, x', y, v0, w, rfl, ha, hb, hc, hx, hy, hv, hw⟩ := pool7 hl hT
    rw [rngD_len] at x
    have xB : Bm H0 P0 M G (n + 8 * i + 7) H P := x
    clear x
    refine ⟨_, Bm H0 P0 M G (n + 8 * i + 7), tg_name, xB, ?_⟩
    clear xB
    refine sr_asg (d := .lst [.int a, .int b, .int c, .int x', .int y, .int v0, .int w]) (δ1 := [some (.adr M), some (.bl true), some (.int (0 + (i : Int))), some (.lst [.int a, .int b, .int c, .int x', .int y, .int v0, .int w]), some (.int a), some (.int b), some (.int c), some (.int x'), some (.int y), some (.int v0), some (.int w), a11, a12, a13, a14, a15]) (ev_var rfl) bm_stab (tg_lst (tgs_cons tg_name (tgs_cons tg_name (tgs_cons tg_name (tgs_cons tg_name (tgs_cons tg_name (tgs_cons tg_name (tgs_cons tg_name tgs_nil))))))) rfl) ?_
    refine sr_set (d := .int (if v0 = x' then v0 + 1 else v0)) (ev_if (eb_test (ev_eqI (ev_var rfl) (ev_var rfl))) (fun hq => ?_) fun hq => ?_) bm_stab ?_
    · have hq' : v0 = x' := of_decide_eq_true hq
      refine ev_cast (ev_plusI (ev_var rfl) ev_int (lit_of hv (by decide)) (by decide)) ?_
      rw [if_pos hq']
    · have hq' : ¬ v0 = x' := of_decide_eq_false hq
      refine ev_cast (ev_var rfl) ?_
      rw [if_neg hq']
    generalize (if v0 = x' then v0 + 1 else v0) = v1
    refine sr_seq (N1 := fun δ' H P => (∃ v : Int, (v = x' + 1 ∨ v = x' - 1) ∧ δ' = [some (.adr M), some (.bl true), some (.int (0 + (i : Int))), some (.lst [.int a, .int b, .int c, .int x', .int y, .int v0, .int w]), some (.int a), some (.int b), some (.int c), some (.int x'), some (.int y), some (.int v), some (.int w), a11, a12, a13, a14, a15]) ∧ Bm H0 P0 M G (n + 8 * i + 8) H P) (sr_if (eb_B (ev_var rfl)) bm_stab (fun _ => sr_asgR1 (er_addc (S' := Bm H0 P0 M G (n + 8 * i + 8)) (T := fun j => j = 1 ∨ j = -1) (ev_var rfl) bm_stab (er_imp (er_callM rfl (ea_cons (ev_lst (ds := [.int 1, .int (-1)]) (ea_cons ev_int (ea_cons (ev_sub ev_int ev_int) ea_nil))) ea_nil) ⟨_, List.cons_ne_nil _ _, Nat.le_of_ble_eq_true rfl, rfl⟩ (by omega)) fun d H P ⟨⟨es, e1, hm⟩, x⟩ => ⟨?_, x⟩)) fun d H P ⟨⟨j, ed, hj⟩, x⟩ => ⟨_, tg_name, ⟨x' + j, by omega, by rw [ed]; rfl⟩, x⟩) (fun z => nomatch z)) ?_
    · have e2 : es = [.int 1, .int (-1)] := by
        have e3 := (List.cons.inj e1).1
        injection e3 with e4
        exact e4.symm
      rw [e2] at hm
      have : d = .int 1 ∨ d = .int (-1) := by simpa using hm
      rcases this with rfl | rfl
      · exact ⟨1, rfl, .inl rfl⟩
      · exact ⟨-1, rfl, .inr rfl⟩
    rintro _ H P ⟨⟨v, hvx, rfl⟩, x⟩
    refine ⟨Bm H0 P0 M G (n + 8 * i + 8), x, ?_⟩
    clear x
    have hv5 : v.natAbs ≤ 5 := by omega
    have la := lit_of ha (by decide)
    have lb := lit_of hb (by decide)
    have lc := lit_of hc (by decide)
    have lx := lit_of hx (by decide)
    have ly := lit_of hy (by decide)
    have lv := lit_of hv5 (by decide)
    have lw := lit_of hw (by decide)
    have b1 := vT_le ha hb hc hx hy
    have b2 := vT_le2 ha hb hc hv5 hw
    refine sr_set (ev_call (ea_cons (ev_lst (ea_cons (ev_lst (ea_cons (ev_var rfl) (ea_cons (ev_var rfl) ea_nil))) (ea_cons (ev_lst (ea_cons (ev_var rfl) (ea_cons (ev_var rfl) (ea_cons (ev_var rfl) ea_nil)))) (ea_cons (ev_lst (ea_cons (ev_var rfl) (ea_cons (ev_var rfl) ea_nil))) (ea_cons (ev_lst (ea_cons (ev_sub ev_int ev_int) (ea_cons (ev_var rfl) (ea_cons (ev_var rfl) (ea_cons (ev_var rfl) ea_nil))))) (ea_cons (ev_lst (ea_cons (ev_sub ev_int ev_int) (ea_cons (ev_var rfl) (ea_cons (ev_var rfl) (ea_cons (ev_var rfl) ea_nil))))) ea_nil)))))) ea_nil) (law_int (rT a b c x' y) ⟨Nat.le_of_ble_eq_true rfl, ⟨ly, ly, trivial⟩, le4, ⟨la, lx, ly, trivial⟩, le4, ⟨lc, ly, trivial⟩, le4, ⟨lit200 rfl, lx, lx, lx, trivial⟩, le4, ⟨lit200 rfl, lb, lx, lx, trivial⟩, trivial⟩)) bm_stab ?_
    rw [sT]
    refine sr_set (ev_call (ea_cons (ev_lst (ea_cons (ev_lst (ea_cons (ev_var rfl) (ea_cons (ev_var rfl) ea_nil))) (ea_cons (ev_lst (ea_cons (ev_var rfl) (ea_cons (ev_var rfl) (ea_cons (ev_var rfl) ea_nil)))) (ea_cons (ev_lst (ea_cons (ev_var rfl) (ea_cons (ev_var rfl) ea_nil))) (ea_cons (ev_lst (ea_cons (ev_sub ev_int ev_int) (ea_cons (ev_var rfl) (ea_cons (ev_var rfl) (ea_cons (ev_var rfl) ea_nil))))) (ea_cons (ev_lst (ea_cons (ev_sub ev_int ev_int) (ea_cons (ev_var rfl) (ea_cons (ev_var rfl) (ea_cons (ev_var rfl) ea_nil))))) ea_nil)))))) ea_nil) (law_int (rT a b c v w) ⟨le4, ⟨lw, lw, trivial⟩, le4, ⟨la, lv, lw, trivial⟩, le4, ⟨lc, lw, trivial⟩, le4, ⟨lit200 rfl, lv, lv, lv, trivial⟩, le4, ⟨lit200 rfl, lb, lv, lv, trivial⟩, trivial⟩)) bm_stab ?_
    rw [sT]
    have hDc : (cThr a b c x' y v w).a4 = (vT a b c x' y + (0 - 1) * vT a b c v w) * (x' + (0 - 1) * v) := by
      show (vT a b c x' y - vT a b c v w) * (x' - v) = _
      congr 1 <;> omega
    have hEc : (cThr a b c x' y v w).a6 = vT a b c x' y + sumI [[-1, (cThr a b c x' y v w).a4, x']] := by
      show vT a b c x' y - (cThr a b c x' y v w).a4 * x' = _
      simp only [sumI, prodI, List.foldl]
      grind
    have hthr := thr_ok (v := v) ha hb hc hx hy hw hvx
    have e1 : (x' - v).natAbs ≤ 1 := by omega
    have b3 : (vT a b c x' y - vT a b c v w).natAbs ≤ 561 := by omega
    have b4 : (cThr a b c x' y v w).a4.natAbs ≤ 561 := Nat.le_trans (abs_mul b3 e1) (by decide)
    have b6 : (cThr a b c x' y v w).a6.natAbs ≤ 2468 := by
      have b5 := abs_mul b4 hx
      show (vT a b c x' y - (cThr a b c x' y v w).a4 * x').natAbs ≤ 2468
      omega
    have hcs : Cs (cThr a b c x' y v w) := ⟨Nat.lt_of_le_of_lt ha (by decide), Nat.lt_of_le_of_lt hb (by decide), Nat.lt_of_le_of_lt hc (by decide), Nat.lt_of_le_of_lt b4 (by decide), Nat.lt_of_le_of_lt b6 (by decide)⟩
    have hcv : cv (cThr a b c x' y v w) = .tup [.int a, .int b, .int c, .int (cThr a b c x' y v w).a4, .int (cThr a b c x' y v w).a6] := rfl
    generalize vT a b c x' y = A at *
    generalize vT a b c v w = B at *
    generalize cThr a b c x' y v w = C at *
    refine sr_set (d := .int C.a4) (ev_cast (ev_overI (ev_plusI (ev_var rfl) (ev_byI (ev_sub ev_int ev_int) (ev_var rfl) (by decide) (lit_of b2 (by decide))) (lit_of b1 (by decide)) (by omega)) (ev_plusI (ev_var rfl) (ev_byI (ev_sub ev_int ev_int) (ev_var rfl) (by decide) lv) lx (by omega)) (by omega) (by omega)) (by rw [hDc])) bm_stab ?_
    have hsE : (sumI [[-1, C.a4, x']]).natAbs < 2 ^ 200 := by
      have h9 : sumI [[-1, C.a4, x']] = C.a6 - A := by omega
      rw [h9]
      omega
    have hcall : p__law_all [.lst [.lst [.int (0 - 1), .int C.a4, .int x']]] (.int (sumI [[-1, C.a4, x']])) := by
      have h9 := law_int [[-1, C.a4, x']] ⟨le4, ⟨lit200 rfl, lit_of b4 (by decide), lx, trivial⟩, trivial⟩
      simpa only [List.map_cons, List.map_nil, Int.zero_sub] using h9
    generalize sumI [[-1, C.a4, x']] = sE at *
    refine sr_set (d := cv C) (ev_cast (ev_tup (ea_cons (ev_var rfl) (ea_cons (ev_var rfl) (ea_cons (ev_var rfl) (ea_cons (ev_var rfl) (ea_cons (ev_plusI (ev_var rfl) (ev_call (ea_cons (ev_lst (ea_cons (ev_lst (ea_cons (ev_sub ev_int ev_int) (ea_cons (ev_var rfl) (ea_cons (ev_var rfl) ea_nil)))) ea_nil)) ea_nil) hcall) (lit_of b1 (by decide)) hsE) ea_nil)))))) (by rw [hcv, hEc])) bm_stab ?_
    refine sr_if (eb_test (ev_neI (ev_call (ea_cons (ev_var rfl) ea_nil) ⟨C, hcs, rfl, rfl⟩) ev_int)) bm_stab (fun hq => ?_) fun hq => ?_
    · have hD : C.D ≠ 0 := by simpa using hq
      refine sr_ret (d := .tup [cv C, .lst (ipts [(x', y), (v, w)])]) (ev_tup (ea_cons (ev_var rfl) (ea_cons (ev_lst (ds := [ipt x' y, ipt v w]) (ea_cons (ev_tup (ea_cons (ev_var rfl) (ea_cons (ev_var rfl) ea_nil))) (ea_cons (ev_tup (ea_cons (ev_var rfl) (ea_cons (ev_var rfl) ea_nil))) ea_nil))) ea_nil))) bm_stab fun H P x => ⟨⟨C, x', y, v, w, hthr hD, rfl⟩, bm_le (by omega) x⟩
    · exact sr_next fun H P x => ⟨⟨_, _, _, _, _, _, _, _, _, _, _, _, _, _, rfl⟩, by rw [show n + 8 * (i + 1) = n + 8 * i + 8 by omega]; exact x⟩
  · rintro δ1 H P ⟨⟨a2, a3, a4, a5, a6, a7, a8, a9, a10, a11, a12, a13, a14, a15, rfl⟩, x⟩
    refine ⟨_, x, ?_⟩
    rw [rngD_len]
    refine sr_ret (d := .tup [cv ⟨0, 0, 1, -1, 0⟩, .lst (ipts [(0, 0), (1, 0)])]) (ev_tup (ea_cons (ev_tup (ea_cons ev_int (ea_cons ev_int (ea_cons ev_int (ea_cons (ev_sub ev_int ev_int) (ea_cons ev_int ea_nil)))))) (ea_cons (ev_lst (ds := [ipt 0 0, ipt 1 0]) (ea_cons (ev_tup (ea_cons ev_int (ea_cons ev_int ea_nil))) (ea_cons (ev_tup (ea_cons ev_int (ea_cons ev_int ea_nil))) ea_nil))) ea_nil))) bm_stab fun H P x => ⟨⟨_, _, _, _, _, thr_last, rfl⟩, x⟩

end
end Cw
end
section
set_option linter.all false
set_option maxRecDepth 100000
set_option maxHeartbeats 200000
set_option exponentiation.threshold 100000
namespace Cw
open PySem PySem.Spec PyProof.Rows L2
/-- the sum of the two, its size -/
def SumOk (c : Cv) (p : Pt) : Prop := match p with
  | none => True
  | some (a, b) => Lv c 1 14 21 a b
structure Good (c : Cv) (x y v w : Int) : Prop where
  cb : Cb c
  one : Lv c 1 4 6 (ic x) (ic y)
  two : Lv c 1 14 21 (ic v) (ic w)
  sum : ∃ q, AddOk c (some (ic x, ic y)) (some (ic v, ic w)) q ∧ SumOk c q
structure Two (c : Cv) (x y v w : Int) : Prop where
  cs : Cs c
  bx : x.natAbs ≤ 100
  bY : y.natAbs ≤ 100
  bv : v.natAbs ≤ 100
  bw : w.natAbs ≤ 100
  mv : ∀ r s t : Int, r.natAbs ≤ 9 → s.natAbs ≤ 3 → t.natAbs ≤ 4 → Good (c.mv r s t) (x - r) (y - s * (x - r) - t) (v - r) (w - s * (v - r) - t)
theorem one_pw : ∀ w : Nat, (1 : Rat) ^ w = 1
  | 0 => rfl
  | w + 1 => by rw [Rat.pow_succ, one_pw w, Rat.mul_one]
theorem ov_int {i : Int} {w n : Nat} (h : i.natAbs < 2 ^ n) : Ov 1 (ic i) w n := ⟨i, by
  rw [show ((1 : Int) : Rat) = 1 from rfl, one_pw, Rat.mul_one], h⟩
theorem lv_int {c : Cv} {p q : Nat} {x y : Int} (on : c.On (ic x) (ic y)) (hx : x.natAbs < 2 ^ p) (hy : y.natAbs < 2 ^ q) : Lv c 1 p q (ic x) (ic y) := ⟨on, 1, by decide, by decide, ov_int hx, ov_int hy⟩
theorem on_mv_int {c : Cv} {x y : Int} (h : c.On (ic x) (ic y)) (r s t : Int) : (c.mv r s t).On (ic (x - r)) (ic (y - s * (x - r) - t)) := by
  have h2 := Cv.on_mv h r s t
  simpa only [ic, Rat.intCast_sub, Rat.intCast_mul] using h2
theorem ab5 {a b c d e : Int} {A B C D E : Nat} (ha : a.natAbs ≤ A) (hb : b.natAbs ≤ B) (hc : c.natAbs ≤ C) (hd : d.natAbs ≤ D) (he : e.natAbs ≤ E) : (a + b - c - d - e).natAbs ≤ A + B + C + D + E := by omega
theorem ab5' {a b c d e : Int} {A B C D E : Nat} (ha : a.natAbs ≤ A) (hb : b.natAbs ≤ B) (hc : c.natAbs ≤ C) (hd : d.natAbs ≤ D) (he : e.natAbs ≤ E) : (-a - b - c + d - e).natAbs ≤ A + B + C + D + E := by omega
theorem as2 {a b : Int} {A B : Nat} (ha : a.natAbs ≤ A) (hb : b.natAbs ≤ B) : (a - b).natAbs ≤ A + B := by omega
theorem as3 {a b c : Int} {A B C : Nat} (ha : a.natAbs ≤ A) (hb : b.natAbs ≤ B) (hc : c.natAbs ≤ C) : (a - b - c).natAbs ≤ A + B + C := by omega
theorem as3' {a b c : Int} {A B C : Nat} (ha : a.natAbs ≤ A) (hb : b.natAbs ≤ B) (hc : c.natAbs ≤ C) : (-a - b - c).natAbs ≤ A + B + C := by omega
theorem lt_le {a b n : Nat} (h : a ≤ b) (k : b < 2 ^ n) : a < 2 ^ n := Nat.lt_of_le_of_lt h k
theorem ab2 {a b : Int} {A B : Nat} (ha : a.natAbs ≤ A) (hb : b.natAbs ≤ B) : (a + 2 * b).natAbs ≤ A + 2 * B := by omega
theorem ab3 {a b c : Int} {A B C : Nat} (ha : a.natAbs ≤ A) (hb : b.natAbs ≤ B) (hc : c.natAbs ≤ C) : (a + b + 2 * c).natAbs ≤ A + B + 2 * C := by omega
theorem ab4 {a b c d : Int} {A B C D : Nat} (ha : a.natAbs ≤ A) (hb : b.natAbs ≤ B) (hc : c.natAbs ≤ C) (hd : d.natAbs ≤ D) : (a - b + 3 * c - d).natAbs ≤ A + B + 3 * C + D := by omega
theorem ab7 {a b c d e f g : Int} {A B C D E F G : Nat} (ha : a.natAbs ≤ A) (hb : b.natAbs ≤ B) (hc : c.natAbs ≤ C) (hd : d.natAbs ≤ D) (he : e.natAbs ≤ E) (hf : f.natAbs ≤ F) (hg : g.natAbs ≤ G) : (a - b + 2 * c - d - e + 3 * f - 2 * g).natAbs ≤ A + B + 2 * C + D + E + 3 * F + 2 * G := by
  have h1 : (a - b + 2 * c - d).natAbs ≤ A + B + 2 * C + D := by clear he hf hg; omega
  have h2 : (-e + 3 * f - 2 * g).natAbs ≤ E + 3 * F + 2 * G := by clear ha hb hc hd h1; omega
  have h3 : a - b + 2 * c - d - e + 3 * f - 2 * g = (a - b + 2 * c - d) + (-e + 3 * f - 2 * g) := by omega
  rw [h3]
  have := Int.natAbs_add_le (a - b + 2 * c - d) (-e + 3 * f - 2 * g)
  clear ha hb hc hd he hf hg h3
  omega
theorem ab7' {a b c d e f g : Int} {A B C D E F G : Nat} (ha : a.natAbs ≤ A) (hb : b.natAbs ≤ B) (hc : c.natAbs ≤ C) (hd : d.natAbs ≤ D) (he : e.natAbs ≤ E) (hf : f.natAbs ≤ F) (hg : g.natAbs ≤ G) : (a + b + c + d - e - f - g).natAbs ≤ A + B + C + D + E + F + G := by
  have h1 : (a + b + c + d).natAbs ≤ A + B + C + D := by clear he hf hg; omega
  have h2 : (-e - f - g).natAbs ≤ E + F + G := by clear ha hb hc hd h1; omega
  have h3 : a + b + c + d - e - f - g = (a + b + c + d) + (-e - f - g) := by omega
  rw [h3]
  have := Int.natAbs_add_le (a + b + c + d) (-e - f - g)
  clear ha hb hc hd he hf hg h3
  omega
theorem mv_le {c : Cv} {A1 A2 A3 A4 A6 R S T : Nat} {r s t : Int} (h1 : c.a1.natAbs ≤ A1) (h2 : c.a2.natAbs ≤ A2) (h3 : c.a3.natAbs ≤ A3) (h4 : c.a4.natAbs ≤ A4) (h6 : c.a6.natAbs ≤ A6) (hr : r.natAbs ≤ R) (hs : s.natAbs ≤ S) (ht : t.natAbs ≤ T) :
    (c.mv r s t).a1.natAbs ≤ A1 + 2 * S ∧ (c.mv r s t).a2.natAbs ≤ A2 + S * A1 + 3 * R + S * S ∧ (c.mv r s t).a3.natAbs ≤ A3 + R * A1 + 2 * T ∧
    (c.mv r s t).a4.natAbs ≤ A4 + S * A3 + 2 * (R * A2) + T * A1 + R * S * A1 + 3 * (R * R) + 2 * (S * T) ∧ (c.mv r s t).a6.natAbs ≤ A6 + R * A4 + R * R * A2 + R * R * R + T * A3 + T * T + R * T * A1 := by
  have k1 := abs_mul hs h1
  have k2 := abs_mul hs hs
  have k3 := abs_mul hr h1
  have k4 := abs_mul hs h3
  have k5 := abs_mul hr h2
  have k6 := abs_mul ht h1
  have k7 := abs_mul (abs_mul hr hs) h1
  have k8 := abs_mul hr hr
  have k9 := abs_mul hs ht
  have l1 := abs_mul hr h4
  have l2 := abs_mul (abs_mul hr hr) h2
  have l3 := abs_mul (abs_mul hr hr) hr
  have l4 := abs_mul ht h3
  have l5 := abs_mul ht ht
  have l6 := abs_mul (abs_mul hr ht) h1
  have e1 : 2 * r * c.a2 = 2 * (r * c.a2) := by rw [Int.mul_assoc]
  have e2 : 3 * r * r = 3 * (r * r) := by rw [Int.mul_assoc]
  have e3 : 2 * s * t = 2 * (s * t) := by rw [Int.mul_assoc]
  refine ⟨ab2 h1 hs, ab4 h2 k1 hr k2, ab3 h3 k3 ht, ?_, ab7' h6 l1 l2 l3 l4 l5 l6⟩
  show (c.a4 - s * c.a3 + 2 * r * c.a2 - t * c.a1 - r * s * c.a1 + 3 * r * r - 2 * s * t).natAbs ≤ _
  rw [e1, e2, e3]
  exact ab7 h4 k4 k5 k6 k7 k8 k9
theorem ints_ok {rows : List (List Int)} {rs : List (List Rat)} (h : rowsB rows) (hl : rows.length ≤ 20) (e : rows.map (List.map ic) = rs) : okRows 0 rs := e ▸ ok_ints h hl
/-- the sum of two whole points one apart -/
theorem sum_good {c : Cv} (hc : Cb c) {x y v w : Int} (on1 : c.On (ic x) (ic y)) (on2 : c.On (ic v) (ic w)) (hx : x.natAbs ≤ 14) (hv : v.natAbs ≤ 14) (hy : y.natAbs ≤ 50) (hw : w.natAbs ≤ 50) (hxv : v = x + 1 ∨ v = x - 1) :
    ∃ q, AddOk c (some (ic x, ic y)) (some (ic v, ic w)) q ∧ SumOk c q := by
  have hne : x ≠ v := by omega
  have h1 := hc.h1
  have h2 := hc.h2
  have h3 := hc.h3
  have hL : ∃ L : Int, L.natAbs ≤ 100 ∧ L * (v - x) = w - y := by
    rcases hxv with rfl | rfl
    · exact ⟨w - y, by omega, by rw [show x + 1 - x = 1 by omega, Int.mul_one]⟩
    · exact ⟨y - w, by omega, by rw [show x - 1 - x = -1 by omega]; omega⟩
  obtain ⟨L, hLb, hLe⟩ := hL
  have hLr : ic L * (ic v - ic x) = ic w - ic y := by
    have := congrArg ic hLe
    simpa only [ic, Rat.intCast_sub, Rat.intCast_mul] using this
  have hd : ic v - ic x ≠ 0 := fun z => hne (by
    have h3 : ic v = ic x := by rw [← Rat.sub_add_cancel (a := ic v) (b := ic x), z, Rat.zero_add]
    have h4 : v = x := by exact_mod_cast h3
    exact h4.symm)
  have hl : ic L = (ic w - ic y) / (ic v - ic x) := by
    rw [← hLr]
    exact (Rat.mul_div_cancel hd).symm
  have eX : c.addX (ic L) (ic x) (ic v) = ic (L * L + c.a1 * L - c.a2 - x - v) := by
    simp only [Cv.addX, ic, Rat.intCast_add, Rat.intCast_sub, Rat.intCast_mul]
  have q1 := abs_mul hLb hLb
  have q2 := abs_mul h1 hLb
  have bX : (L * L + c.a1 * L - c.a2 - x - v).natAbs ≤ 11081 := Nat.le_trans (ab5 q1 q2 h2 hx hv) (by decide)
  have onS := Cv.on_add on1 on2 (fun z => hne (by exact_mod_cast z)) hLr
  rw [eX] at onS
  have hsm1 : Sm (ic w - ic y) := by
    rw [show ic w - ic y = ic (w - y) by simp [ic]]
    exact sm_ic (lit_of (n := 100) (by omega) (by decide))
  have hsm2 : Sm (ic v - ic x) := by
    rw [show ic v - ic x = ic (v - x) by simp [ic]]
    exact sm_ic (lit_of (n := 1) (by omega) (by decide))
  have lx := lit_of hx (by decide)
  have lv := lit_of hv (by decide)
  have ly := lit_of hy (by decide)
  have lw := lit_of hw (by decide)
  have lL := lit_of hLb (by decide)
  have l1 := lit_of h1 (by decide)
  have l2 := lit_of h2 (by decide)
  have l3 := lit_of h3 (by decide)
  generalize hX : L * L + c.a1 * L - c.a2 - x - v = X at *
  have lX := lit_of bX (by decide)
  have eY : c.addY (ic L) (ic x) (ic y) (ic X) = ic (-(L * X) - c.a1 * X - y + L * x - c.a3) := by
    simp only [Cv.addY, ic, Rat.intCast_add, Rat.intCast_sub, Rat.intCast_mul, Rat.intCast_neg]
  have q3 := abs_mul hLb bX
  have q4 := abs_mul h1 bX
  have q5 := abs_mul hLb hx
  rw [eY] at onS
  have key := AddOk.sum (c := c) x v (ic y) (ic w) (ic L) hne hl
    (ints_ok (rows := [[w], [-1, y]]) ⟨le4, ⟨lw, trivial⟩, le4, ⟨lit200 rfl, ly, trivial⟩, trivial⟩ (Nat.le_of_ble_eq_true rfl) rfl)
    (ints_ok (rows := [[v], [-1, x]]) ⟨le4, ⟨lv, trivial⟩, le4, ⟨lit200 rfl, lx, trivial⟩, trivial⟩ (Nat.le_of_ble_eq_true rfl) rfl) hsm1 hsm2
    (ints_ok (rows := [[L, L], [c.a1, L], [-1, c.a2], [-1, x], [-1, v]]) ⟨le4, ⟨lL, lL, trivial⟩, le4, ⟨l1, lL, trivial⟩, le4, ⟨lit200 rfl, l2, trivial⟩, le4, ⟨lit200 rfl, lx, trivial⟩, le4, ⟨lit200 rfl, lv, trivial⟩, trivial⟩ (Nat.le_of_ble_eq_true rfl) rfl)
    (by rw [eX]; exact ints_ok (rows := [[-1, L, X], [-1, c.a1, X], [-1, y], [L, x], [-1, c.a3]]) ⟨le4, ⟨lit200 rfl, lL, lX, trivial⟩, le4, ⟨lit200 rfl, l1, lX, trivial⟩, le4, ⟨lit200 rfl, ly, trivial⟩, le4, ⟨lL, lx, trivial⟩, le4, ⟨lit200 rfl, l3, trivial⟩, trivial⟩ (Nat.le_of_ble_eq_true rfl) rfl)
  rw [eX, eY] at key
  exact ⟨_, key, lv_int onS (Nat.lt_of_le_of_lt bX (by decide)) (Nat.lt_of_le_of_lt (ab5' q3 q4 hy q5 h3) (by decide))⟩
theorem two_thr {c : Cv} {x y v w : Int} (h : Thr c x y v w) : Two c x y v w := by
  have b1 := h.bx
  have b2 := h.bY
  have b3 := h.bv
  have b4 := h.bw
  refine ⟨⟨Nat.lt_of_le_of_lt h.h1 (by decide), Nat.lt_of_le_of_lt h.h2 (by decide), Nat.lt_of_le_of_lt h.h3 (by decide), Nat.lt_of_le_of_lt h.h4 (by decide), Nat.lt_of_le_of_lt h.h6 (by decide)⟩, Nat.le_trans b1 (by decide), Nat.le_trans b2 (by decide), Nat.le_trans b3 (by decide), Nat.le_trans b4 (by decide), fun r s t hr hs ht => ?_⟩
  have bx : (x - r).natAbs ≤ 13 := as2 b1 hr
  have bv : (v - r).natAbs ≤ 14 := as2 b3 hr
  have bY : (y - s * (x - r) - t).natAbs ≤ 47 := as3 b2 (abs_mul hs bx) ht
  have bW : (w - s * (v - r) - t).natAbs ≤ 50 := as3 b4 (abs_mul hs bv) ht
  have hxv : v - r = x - r + 1 ∨ v - r = x - r - 1 := by
    have := h.xv
    clear hs ht bx bv bY bW
    omega
  obtain ⟨k1, k2, k3, k4, k6⟩ := mv_le h.h1 h.h2 h.h3 h.h4 h.h6 hr hs ht
  have hc : Cb (c.mv r s t) := ⟨k1, Nat.le_trans k2 (by decide), k3, k4, k6, by rw [Cv.mv_D]; exact h.d⟩
  have on1 := on_mv_int h.on r s t
  have on2 := on_mv_int h.on2 r s t
  exact ⟨hc, lv_int on1 (lt_le bx (by decide)) (lt_le bY (by decide)), lv_int on2 (lt_le bv (by decide)) (lt_le bW (by decide)), sum_good hc on1 on2 (Nat.le_trans bx (by decide)) bv (Nat.le_trans bY (by decide)) bW hxv⟩
theorem f5_more {c : Cv} {x y : Int} (h : (c, x, y) ∈ F5) : c.a1.natAbs ≤ 0 ∧ c.a2.natAbs ≤ 1 ∧ c.a3.natAbs ≤ 1 ∧ c.a4.natAbs ≤ 4 ∧ c.a6.natAbs ≤ 1 ∧ c.D ≠ 0 ∧ c.On (ic x) (ic y) := by
  simp only [F5, List.mem_cons, List.not_mem_nil, or_false, Prod.mk.injEq] at h
  rcases h with ⟨rfl, rfl, rfl⟩ | ⟨rfl, rfl, rfl⟩ | ⟨rfl, rfl, rfl⟩ | ⟨rfl, rfl, rfl⟩ | ⟨rfl, rfl, rfl⟩ <;> exact ⟨by decide, by decide, by decide, by decide, by decide, by decide +kernel, on_ints (by decide)⟩
theorem two_fin {c : Cv} {x0 y0 r0 s0 t0 : Int} (h : (c, x0, y0) ∈ F5) (hr0 : r0.natAbs ≤ 3) (hs0 : s0.natAbs ≤ 1) (ht0 : t0.natAbs ≤ 1) :
    Two (c.mv r0 s0 t0) (x0 - r0) (y0 - s0 * (x0 - r0) - t0) (x0 - r0) (-(y0 - s0 * (x0 - r0) - t0) - (c.mv r0 s0 t0).a1 * (x0 - r0) - (c.mv r0 s0 t0).a3) := by
  obtain ⟨_, hx0, hy0⟩ := f5_ok h
  obtain ⟨h1, h2, h3, h4, h6, hD, on⟩ := f5_more h
  obtain ⟨k1, k2, k3, k4, k6⟩ := mv_le h1 h2 h3 h4 h6 hr0 hs0 ht0
  have k1' : (c.mv r0 s0 t0).a1.natAbs ≤ 2 := k1
  have k2' : (c.mv r0 s0 t0).a2.natAbs ≤ 11 := k2
  have k3' : (c.mv r0 s0 t0).a3.natAbs ≤ 3 := k3
  have k4' : (c.mv r0 s0 t0).a4.natAbs ≤ 40 := k4
  have k6' : (c.mv r0 s0 t0).a6.natAbs ≤ 51 := k6
  have bx : (x0 - r0).natAbs ≤ 5 := as2 hx0 hr0
  have bY : (y0 - s0 * (x0 - r0) - t0).natAbs ≤ 10 := as3 hy0 (abs_mul hs0 bx) ht0
  have on1 := on_mv_int on r0 s0 t0
  have hD1 : (c.mv r0 s0 t0).D ≠ 0 := by rw [Cv.mv_D]; exact hD
  generalize c.mv r0 s0 t0 = c1 at *
  clear k1 k2 k3 k4 k6 hx0 hy0 h1 h2 h3 h4 h6 hr0 hs0 ht0 h hD on
  generalize y0 - s0 * (x0 - r0) - t0 = y at *
  generalize x0 - r0 = x at *
  have m1 := abs_mul k1' bx
  have on2 : c1.On (ic x) (ic (-y - c1.a1 * x - c1.a3)) := by
    have := Cv.on_neg on1
    simpa only [ic, Rat.intCast_sub, Rat.intCast_mul, Rat.intCast_neg] using this
  have bw : (-y - c1.a1 * x - c1.a3).natAbs ≤ 23 := as3' bY m1 k3'
  refine ⟨⟨Nat.lt_of_le_of_lt k1' (by decide), Nat.lt_of_le_of_lt k2' (by decide), Nat.lt_of_le_of_lt k3' (by decide), Nat.lt_of_le_of_lt k4' (by decide), Nat.lt_of_le_of_lt k6' (by decide)⟩, Nat.le_trans bx (by decide), Nat.le_trans bY (by decide), Nat.le_trans bx (by decide), Nat.le_trans bw (by decide), fun r s t hr hs ht => ?_⟩
  obtain ⟨j1, j2, j3, j4, j6⟩ := mv_le k1' k2' k3' k4' k6' hr hs ht
  have hc : Cb (c1.mv r s t) := ⟨Nat.le_trans j1 (by decide), j2, Nat.le_trans j3 (by decide), Nat.le_trans j4 (by decide), Nat.le_trans j6 (by decide), by rw [Cv.mv_D]; exact hD1⟩
  have onA := on_mv_int on1 r s t
  have onB := on_mv_int on2 r s t
  have bX : (x - r).natAbs ≤ 14 := as2 bx hr
  have m3 := abs_mul hs bX
  have bYY : (y - s * (x - r) - t).natAbs ≤ 56 := as3 bY m3 ht
  have bWW : ((-y - c1.a1 * x - c1.a3) - s * (x - r) - t).natAbs ≤ 69 := as3 bw m3 ht
  have e : (y - s * (x - r) - t) + ((-y - c1.a1 * x - c1.a3) - s * (x - r) - t) + (c1.mv r s t).a1 * (x - r) + (c1.mv r s t).a3 = 0 := by
    simp only [Cv.mv]
    grind
  have hl1 := hc.h1
  have hl3 := hc.h3
  refine ⟨hc, lv_int onA (lt_le bX (by decide)) (lt_le bYY (by decide)), lv_int onB (lt_le bX (by decide)) (lt_le bWW (by decide)), none, AddOk.opp _ _ _ ?_ ?_, trivial⟩
  · exact ints_ok (rows := [[y - s * (x - r) - t], [(-y - c1.a1 * x - c1.a3) - s * (x - r) - t], [(c1.mv r s t).a1, x - r], [(c1.mv r s t).a3]]) ⟨le4, ⟨lit_of bYY (by decide), trivial⟩, le4, ⟨lit_of bWW (by decide), trivial⟩, le4, ⟨lit_of hl1 (by decide), lit_of bX (by decide), trivial⟩, le4, ⟨lit_of hl3 (by decide), trivial⟩, trivial⟩ (Nat.le_of_ble_eq_true rfl) rfl
  · rw [sum_opp]
    have := congrArg ic e
    simpa only [ic, Rat.intCast_add, Rat.intCast_mul, Rat.intCast_zero] using this
end Cw
end
section
set_option linter.all false
set_option maxRecDepth 100000
set_option maxHeartbeats 400000
set_option exponentiation.threshold 100000
namespace Cw
open PySem PySem.Spec PyProof.Rows L2
theorem eqv_pt (p q : Pt) : PyData.eqv (toPy (.pt p)) (toPy (.pt q)) = decide (p = q) := by
  cases p with
  | none =>
    cases q with
    | none => rw [decide_eq_true rfl]; simp [Dt.pt, toPy, PyData.eqv]
    | some q => rw [decide_eq_false (by simp)]; simp [Dt.pt, toPy, PyData.eqv]
  | some p =>
    cases q with
    | none => rw [decide_eq_false (by simp)]; simp [Dt.pt, toPy, PyData.eqv]
    | some q =>
      obtain ⟨a, b⟩ := p
      obtain ⟨c, d⟩ := q
      have e : PyData.eqv (toPy (.pt (some (a, b)))) (toPy (.pt (some (c, d)))) = (PyData.eqv (toPy (fr a)) (toPy (fr c)) && (PyData.eqv (toPy (fr b)) (toPy (fr d)) && true)) := by
        simp [Dt.pt, toPy, toPys, PyData.eqv, PyData.eqvAll]
      rw [e, eqv_fr, eqv_fr, Bool.and_true]
      by_cases h : (some (a, b) : Pt) = some (c, d)
      · cases h
        simp
      · rw [decide_eq_false h]
        by_cases h1 : a = c
        · subst h1
          have h2 : ¬ b = d := fun z => h (by rw [z])
          rw [decide_eq_false h2, Bool.and_false]
        · rw [decide_eq_false h1, Bool.false_and]
theorem okD_pt (p : Pt) : okD (.pt p) = true := by
  cases p with
  | none => simp [okD, clean, Dt.pt, toPy, PyData.depth]
  | some q =>
    obtain ⟨a, b⟩ := q
    rcases fr_cases a with ⟨_, e1⟩ | ⟨_, e1⟩ <;> rcases fr_cases b with ⟨_, e2⟩ | ⟨_, e2⟩ <;> simp [okD, clean, cleans, Dt.pt, e1, e2, toPy, toPys, PyData.depth, PyData.depthAll]
end Cw
end
section
set_option linter.all false
set_option maxRecDepth 100000
set_option maxHeartbeats 400000
set_option exponentiation.threshold 100000
namespace Cw
def scl (k : Int) (p : List Int) : List Int := p.map fun x => k * x
theorem absL_scl (k : Int) : ∀ l : List Int, absL (scl k l) = k.natAbs * absL l
  | [] => rfl
  | x :: r => by
    have e1 : absL (scl k (x :: r)) = (k * x).natAbs + absL (scl k r) := by simp [absL, scl]
    have e2 : absL (x :: r) = x.natAbs + absL r := by simp [absL]
    rw [e1, e2, absL_scl k r, Int.natAbs_mul, Nat.mul_add]
theorem scl_take (k : Int) (l : List Int) (n : Nat) : (scl k l).take n = scl k (l.take n) := by unfold scl; rw [List.map_take]
theorem scl_drop (k : Int) (l : List Int) (n : Nat) : (scl k l).drop n = scl k (l.drop n) := by unfold scl; rw [List.map_drop]
theorem lowN_scl (k : Int) (p : List Int) : lowN (scl k p) = k.natAbs * lowN p := by
  unfold lowN
  rw [scl_drop, scl_drop, scl_take, absL_scl, absL_scl, Nat.mul_max_mul_left]
theorem scl_get (k : Int) (p : List Int) (n : Nat) : (scl k p).getD n 0 = k * p.getD n 0 := by
  unfold scl
  rw [List.getD_eq_getElem?_getD, List.getD_eq_getElem?_getD, List.getElem?_map]
  cases p[n]? <;> simp
theorem cvl_scl (k b2 b4 b6 b8 u0 u1 u2 u3 u4 u5 u6 u7 : Int) : cvl b2 b4 b6 b8 (k * u0) (k * u1) (k * u2) (k * u3) (k * u4) (k * u5) (k * u6) (k * u7) = scl k (cvl b2 b4 b6 b8 u0 u1 u2 u3 u4 u5 u6 u7) := by
  simp only [cvl, scl, List.map_cons, List.map_nil, List.cons.injEq, and_true]
  refine ⟨?_, ?_, ?_, ?_, ?_, ?_, ?_, ?_⟩ <;> grind
theorem Pap.scl {b2 b4 b6 b8 : Int} {p : List Int} (h : Pap b2 b4 b6 b8 p) {k : Int} (hk : 0 < k) : Pap b2 b4 b6 b8 (scl k p) := by
  refine ⟨by unfold Cw.scl; rw [List.length_map]; exact h.len, ?_, ?_, ?_⟩
  · rw [scl_get]; exact Int.mul_pos hk h.pos
  · simp only [scl_get]
    rw [cvl_scl, h.one]
    simp [Cw.scl]
  · simp only [scl_get]
    rw [cvl_scl, h.two]
    simp [Cw.scl]
theorem scl_sm {p : List Int} {k : Int} (h : ∀ x, x ∈ p → x.natAbs < 2 ^ 2000) (hk : k.natAbs < 2 ^ 100) : sm4 (scl k p) := by
  intro y hy
  obtain ⟨x, hx, rfl⟩ := List.mem_map.mp hy
  rw [Int.natAbs_mul]
  exact Nat.lt_of_lt_of_le (Nat.mul_lt_mul'' hk (h x hx)) (by rw [← Nat.pow_add]; exact Nat.pow_le_pow_right (by decide) (by decide))
end Cw
end
section
set_option linter.all false
set_option maxRecDepth 100000
set_option maxHeartbeats 1000000
set_option exponentiation.threshold 100000
namespace Cw
open PySem PySem.Spec PyProof.Rows L2
section
variable {K : PySem.W.Frag} {δ : De} {d : Dt} {S : HpP} {N : De → HpP} {R : Dt → HpP} {te : TE} {a u : TS} {g : TG} {H0 P0 : Hp}
/-- the law's first step -/
theorem er_begun {ns : List Int} {p : Addr} {E : XK} (hi : δ[0]? = some (some (.adr p))) (hq : SqL K H0 p (ns.map V.int)) (hl : ns.length ≤ 63) : EvR (tCall (spB K) [] E (tCons (tVar 0) tNil)) δ (Ext H0 P0) (fun d H P => ∃ M G, d = .adr M ∧ Bm H0 P0 M G 0 H P) := fun σ H HP s x sl Q q =>
  ⟨.ref p, slot_at sl hi, HP, p, ns, s, rfl, x.big.seq hq, hl, fun M G H' P' e h1 h2 m => q (.adr M) _ H' P' ⟨M, G, rfl, ⟨x.trans e, x.big.free h1, x.big.free h2⟩, m⟩ e.sub e.part rfl⟩
/-- for over range(n), n told in this state -/
theorem sr_forN {n : Nat} (h : EvS te δ S (.int (n : Int))) (hn : n ≤ 1000000) (hS : Stab S) (Pv : Nat → De → HpP) (h0 : ∀ H P, S H P → Pv 0 δ H P)
    (hb : ∀ i δ1 H P, i < n → Pv i δ1 H P → ∃ δ2 S2, TgD g δ1 (.int (i : Int)) δ2 ∧ S2 H P ∧ StR a δ2 S2 (Pv (i + 1)) R)
    (hd : ∀ δ1 H P, Pv n δ1 H P → ∃ S2, S2 H P ∧ StR u δ1 S2 N R) : StR (tSeq (tFor (iRng1 (tCons te tNil)) g a) u) δ S N R := fun σ H HP s x sl D q1 q2 =>
  h σ H HP s x sl _ fun d v H1 P1 ⟨ed, x1⟩ s1 p1 rv => by
    subst ed
    cases (show v = .int (n : Int) from rv)
    refine ⟨n, rfl, by omega, by omega, ?_⟩
    rw [Int.toNat_natCast]
    refine for_it walk_range (fun i σ' H' => ∃ δ' P', Pv i δ' H' P' ∧ Same P1 P' ∧ Same P' H' ∧ Sl P' σ' δ') ⟨δ, P1, h0 _ _ x1, Same.refl _, s1, sl.mono p1⟩ (fun _ _ _ _ _ => trivial) ?_ ?_
    · rintro i y σ' H' H3 hi ⟨δ', P', pv, pp, ss, sl'⟩ yy
      obtain ⟨rfl, rfl⟩ := yy
      obtain ⟨δ2, S2, tg, hS2, hr⟩ := hb i δ' _ P' hi pv
      refine tg σ' _ P' _ ss sl' (by show V.int _ = V.int _; congr 1; omega) _ fun σ2 sl2 => ?_
      have fin := hr σ2 _ P' ss hS2 sl2
      have b1 : ∀ δ4 σ4 H4 P4, Pv (i + 1) δ4 H4 P4 → Same P4 H4 → Same P' P4 → Sl P4 σ4 δ4 → ∃ δ4 P4, Pv (i + 1) δ4 H4 P4 ∧ Same P1 P4 ∧ Same P4 H4 ∧ Sl P4 σ4 δ4 := fun δ4 σ4 H4 P4 n4 s4 p4 sl4 => ⟨δ4, P4, n4, pp.trans p4, s4, sl4⟩
      exact fin _ b1 fun d v H4 P4 r s4 p4 rv => q2 d v H4 P4 r s4 (p1.trans (pp.trans p4)) rv
    · rintro σ' H' ⟨δ', P', pv, pp, ss, sl'⟩
      obtain ⟨S2, hS2, hr⟩ := hd δ' H' P' pv
      exact hr σ' H' P' ss hS2 sl' D (fun δ2 σ2 H2 P2 n2 s2 p2 sl2 => q1 δ2 σ2 H2 P2 n2 s2 (p1.trans (pp.trans p2)) sl2) fun d v H2 P2 r s2 p2 rv => q2 d v H2 P2 r s2 (p1.trans (pp.trans p2)) rv
end
end Cw
end
section
set_option linter.all false
set_option maxRecDepth 100000
set_option maxHeartbeats 400000
set_option exponentiation.threshold 100000
namespace Cw
/-- what n doublings ask -/
def Chain (c : Cv) : Nat → Pt → Prop
  | 0, q => POk c q ∧ SmX q
  | n + 1, q => POk c q ∧ SmX q ∧ AddOk c q q (c.dbl q) ∧ Chain c n (c.dbl q)
theorem chain_none (c : Cv) : ∀ n, Chain c n none
  | 0 => ⟨trivial, trivial⟩
  | n + 1 => ⟨trivial, trivial, .left none, chain_none c n⟩
theorem chain_top {c : Cv} {n : Nat} {q : Pt} (h : Chain c n q) : POk c q ∧ SmX q := by
  cases n with
  | zero => exact h
  | succ n => exact ⟨h.1, h.2.1⟩
theorem chain_pok {c : Cv} {e p q : Nat} {x y : Rat} (hc : Cb c) (h : Lv c e p q x y) (k : ckOn e p q = true) : POk c (some (x, y)) ∧ SmX (some (x, y)) := by
  obtain ⟨h1, h2, h3, h4, h5, _⟩ := h.onOk hc k
  exact ⟨⟨h.on, h1, h2, h3, h4⟩, h5⟩
theorem chain_next {c : Cv} {e p q n : Nat} {x y : Rat} (hc : Cb c) (h : Lv c e p q x y) (k : ckOn e p q = true) (kl : Lev e p q)
    (hn : ∀ x' y', Lv c (bE e p q) (bX e p q) (bY e p q) x' y' → Chain c n (some (x', y'))) : Chain c (n + 1) (some (x, y)) := by
  obtain ⟨h1, h2⟩ := chain_pok hc h k
  refine ⟨h1, h2, ?_⟩
  by_cases h0 : c.psi x y = 0
  · have e1 : c.dbl (some (x, y)) = none := by simp [Cv.dbl, h0]
    rw [e1]
    refine ⟨.opp x y y (h.opp hc kl.opp) ?_, chain_none c n⟩
    rw [sum_opp]
    unfold Cv.psi at h0
    rw [← h0]
    grind
  · have e1 : c.dbl (some (x, y)) = some (c.addX (c.slope x y) x x, c.addY (c.slope x y) x y (c.addX (c.slope x y) x x)) := by simp [Cv.dbl, h0]
    obtain ⟨d1, d2⟩ := h.dbl' hc kl h0
    rw [e1]
    exact ⟨.dbl x y d1 h0, hn _ _ d2⟩
theorem chain_one {c : Cv} {x y : Rat} (hc : Cb c) (h : Lv c 1 4 6 x y) : Chain c 3 (some (x, y)) := by
  refine chain_next hc h ck0 lev0 fun x1 y1 h1 => ?_
  have e0 := nx0
  simp only [Prod.mk.injEq] at e0
  rw [e0.1, e0.2.1, e0.2.2] at h1
  refine chain_next hc h1 ck1 lev1 fun x2 y2 h2 => ?_
  have e1 := nx1
  simp only [Prod.mk.injEq] at e1
  rw [e1.1, e1.2.1, e1.2.2] at h2
  refine chain_next hc h2 ck2 lev2 fun x3 y3 h3 => ?_
  have e2 := nx2
  simp only [Prod.mk.injEq] at e2
  rw [e2.1, e2.2.1, e2.2.2] at h3
  exact chain_pok hc h3 ck3
theorem chain_two {c : Cv} {x y : Rat} (hc : Cb c) (h : Lv c 1 14 21 x y) : Chain c 2 (some (x, y)) := by
  refine chain_next hc h cks0 levs0 fun x1 y1 h1 => ?_
  have e0 := nxs0
  simp only [Prod.mk.injEq] at e0
  rw [e0.1, e0.2.1, e0.2.2] at h1
  refine chain_next hc h1 cks1 levs1 fun x2 y2 h2 => ?_
  have e1 := nxs1
  simp only [Prod.mk.injEq] at e1
  rw [e1.1, e1.2.1, e1.2.2] at h2
  exact chain_pok hc h2 cks2
theorem chain_less {c : Cv} : ∀ {n : Nat} {q : Pt}, Chain c (n + 1) q → Chain c n q
  | 0, q, h => ⟨h.1, h.2.1⟩
  | n + 1, q, h => ⟨h.1, h.2.1, h.2.2.1, chain_less h.2.2.2⟩
end Cw
end
section
set_option linter.all false
set_option maxRecDepth 100000
set_option maxHeartbeats 400000
set_option exponentiation.threshold 100000
namespace Cw
open PySem PySem.Spec PyProof.Rows L2
section
variable {K : PySem.W.Frag} {δ : De} {S : HpP} {ta tb : TE} {i j : Int} {H0 P0 : Hp}
theorem es_min2 (ha : EvS ta δ S (.int i)) (hb : EvS tb δ S (.int j)) : EvS (tCB (fun xs H Q => ∃ i j, xs = [.int i, .int j] ∧ Q (.int (if j < i then j else i)) H) (tCons ta (tCons tb tNil))) δ S (.int (min i j)) := fun σ H HP s x sl Q q =>
  ha σ H HP s x sl _ fun d1 v H1 P1 ⟨e1, x1⟩ s1 p1 r1 => hb σ H1 P1 s1 x1 (sl.mono p1) _ fun d2 w H2 P2 ⟨e2, x2⟩ s2 p2 r2 => by
    subst e1; subst e2
    cases (show v = .int i from r1)
    cases (show w = .int j from r2)
    exact ⟨i, j, rfl, q _ _ H2 P2 ⟨rfl, x2⟩ s2 (p1.trans p2) (by
      show V.int _ = V.int _
      congr 1
      split <;> omega)⟩
theorem es_lenS {ns : List Int} {p : Addr} (hS : ∀ H P, S H P → Ext H0 P0 H P) (hi : δ[0]? = some (some (.adr p))) (hq : SqL K H0 p (ns.map V.int)) : EvS (tCB (fun xs H Q => ∃ p ys, xs = [.ref p] ∧ (SqL K H p ys ∨ SqT K H p ys) ∧ Q (.int ys.length) H) (tCons (tVar 0) tNil)) δ S (.int (ns.length : Int)) := fun σ H HP s x sl Q q =>
  ⟨.ref p, slot_at sl hi, p, ns.map V.int, rfl, .inl ((hS _ _ x).big.seq hq), q _ _ H HP ⟨rfl, x⟩ s (Same.refl _) (by rw [List.length_map]; rfl)⟩
theorem er_drawK {tt : TE} {M G : Addr} {n k top : Nat} {E : XK} (hi : δ[k]? = some (some (.adr M))) (ht : EvD tt δ (.int (top : Int))) (h0 : 0 < top) (h1 : top ≤ 1000) (hn : n + 1 ≤ 100000) :
    EvR (tCall (spM 1 dmDraw rsDraw) [] E (tCons (tVar k) (tCons tt tNil))) δ (Bm H0 P0 M G n) (fun d H P => (∃ i, d = .int i ∧ (0 ≤ i ∧ i < (top : Int))) ∧ Bm H0 P0 M G (n + 1) H P) :=
  er_imp (er_callM hi (ea_cons ht ea_nil) ⟨top, h0, h1, rfl⟩ hn) fun d H P ⟨⟨t', k, e, ed, k1, k2⟩, x⟩ => ⟨⟨k, ed, k1, by
    have e2 := (List.cons.inj e).1
    have e3 : (top : Int) = (t' : Int) := by injection e2
    omega⟩, x⟩
theorem turns_of (n : Nat) : (2 : Int) + min 3 ((n : Int).fdiv 10) = ((2 + min 3 (n / 10) : Nat) : Int) := by
  have h : (n : Int).fdiv 10 = ((n / 10 : Nat) : Int) := by
    rw [Int.fdiv_eq_ediv_of_nonneg _ (by decide)]
    exact (Int.natCast_ediv n 10).symm
  rw [h]
  omega
end
end Cw
end
section
set_option linter.all false
set_option maxRecDepth 100000
set_option maxHeartbeats 2000000
set_option exponentiation.threshold 100000
namespace Cw
open PySem PySem.Spec PyProof.Rows L2
def spLaw (K : PySem.W.Frag) : Sp := fun vs H Q _ => ∃ (a : Addr) (ns : List Int), vs = [.ref a] ∧ SqL K H a (ns.map V.int) ∧ ns.length ≤ 63 ∧ ∀ H', Q (.bl true) H'
def sclE (k : Int) : Dt → Dt
  | .int x => .int (k * x)
  | d => d
def sclD (k : Int) : Dt → Dt
  | .tup xs => .tup (xs.map (sclE k))
  | d => d
theorem okD_two (i j : Int) : okD (.tup [.int i, .int j]) = true := by simp [okD, clean, cleans, toPy, toPys, PyData.depth, PyData.depthAll]
theorem st_for1 {ds : List Dt} {δ : De} {a : TS} {g : TG} {wi : TI} {nx : De → Prop} {rt : Dt → Prop} (hs : SrcD wi δ ds) (Pv : Nat → De → Prop) (h0 : Pv 0 δ) (hb : ∀ i d δ1, ds[i]? = some d → Pv i δ1 → ∃ δ2, TgD g δ1 d δ2 ∧ StD a δ2 (Pv (i + 1)) rt) (hd : ∀ δ1, Pv ds.length δ1 → nx δ1) : StD (tFor wi g a) δ nx rt :=
  (show StD (tSeq (tFor wi g a) tNext) δ nx rt from st_for hs Pv h0 hb fun δ1 p => st_next (hd _ p))
section
variable {P : Program} {w : World} {K : PySem.W.Frag} {mg : Str → Option Value} {base : Heap}

abbrev s_law : Stmt := topS 66
abbrev N_law : List Str := ["_law_script", "_law_m", "_law_turn", "_law_curve", "_law_spots", "_law_spot", "_law_r", "_law_s", "_law_t", "_law_paper", "_law_low_here", "_law_high", "_law_often", "_law_great", "_law_now", "_law_k", "_law_double", "_law_row", "_law_one"]
theorem sc_law : FnScope N_law ["_law_script"] (defScope s_law) := ⟨rfl, rfl, rfl, by decide +kernel, rfl, by decide +kernel, by decide +kernel⟩
theorem ok_law (B : Bn mg) {f0 : Addr} {fd0 : FuncData} (F : Fun K "law" "law" s_law f0 fd0) (h__law_begun : Dn P w K mg base "_law_begun" ["_law_script"] 1 (spB K)) (h__law_through : Dn P w K mg base "_law_through" ["_law_m", "_law_whole"] 6 (spM 72 (fun ds => ds = [.bl true]) rsThr)) (h__law_moved : Dn P w K mg base "_law_moved" ["_law_curve", "_law_spots", "_law_r", "_law_s", "_law_t"] 4 (spP p__law_moved)) (h__law_draw : Dn P w K mg base "_law_draw" ["_law_m", "_law_top"] 1 (spM 1 dmDraw rsDraw)) (h__law_finite : Dn P w K mg base "_law_finite" ["_law_m"] 5 (spM 4 (fun ds => ds = []) rsFin)) (h_heights_paper : Dn P w K mg base "heights_paper" ["curve"] 9 (spP p_heights_paper)) (h_bounds : Dn P w K mg base "bounds" ["curve"] 9 (spP p_bounds)) (h__law_less : Dn P w K mg base "_law_less" ["_law_curve", "_law_spot"] 4 (spP p__law_less)) (h_check_heights : Dn P w K mg base "check_heights" ["curve", "paper"] 9 (spP p_check_heights)) (h__law_bounds : Dn P w K mg base "_law_bounds" ["_law_curve", "_law_paper"] 6 (spP p__law_bounds)) (h__law_added : Dn P w K mg base "_law_added" ["_law_curve", "_law_one", "_law_other"] 4 (spP p__law_added)) (h__law_between : Dn P w K mg base "_law_between" ["_law_curve", "_law_spot", "_law_double", "_law_paper", "_law_low_here", "_law_high"] 11 (spP p__law_between)) : FnOk P w K mg base CX0 12 f0 fd0 ["_law_script"] (spLaw K) := by
  refine F.ok sc_law (by rintro _ _ _ _ ⟨_, _, rfl, _⟩; rfl) (fun cdv A outer s H vs Q E hr h => ?_)
  have hu := hu_of hr
  have hu64 := hr.units
  refine ⟨_, (pss_cons (ps_set (i := 1) sc_law.nd rfl (.inl rfl) (pe_fn h__law_begun (hr.mono (by decide)) (by rfl) (pa_cons (pv 0) pa_nil)))
      (pss_cons (ps_for PassesOwn.never rfl (pi_range1 rfl B.range (pa_cons (pe_op op_add pe_int (pe_callB (call_min2 rfl) (by rfl) B.min PyProof.Rows.boot_min (pa_cons pe_int (pa_cons (pe_op op_fdivP (pe_callB (kLen (K := K) rfl) (by rfl) B.len PySem.boot_len (pa_cons (pv 0) pa_nil)) pe_int) pa_nil)))) pa_nil)) (pg_name (i := 2) sc_law.nd rfl (.inl rfl)) (pss_cons (ps_asg (pe_fn h__law_through (hr.mono (by decide)) (by rfl) (pa_cons (pv 1) (pa_cons pe_bl pa_nil))) (pg_tup rfl (pgs_cons (pg_name (i := 3) sc_law.nd rfl (.inl rfl)) (pgs_cons (pg_name (i := 4) sc_law.nd rfl (.inl rfl)) pgs_nil))))
      (pss_cons (ps_if (pt_cmpR op_eq (pe_fn h__law_draw (hr.mono (by decide)) (by rfl) (pa_cons (pv 1) (pa_cons pe_int pa_nil))) pe_int (nomark _)) (pss_cons (ps_asg (pe_fn h__law_finite (hr.mono (by decide)) (by rfl) (pa_cons (pv 1) pa_nil)) (pg_tup rfl (pgs_cons (pg_name (i := 3) sc_law.nd rfl (.inl rfl)) (pgs_cons (pg_name (i := 5) sc_law.nd rfl (.inl rfl)) pgs_nil))))
      (pss_one (ps_set (i := 4) sc_law.nd rfl (.inl rfl) (pe_lst (pa_cons (pv 5) (pa_cons (pe_fn h__law_less (hr.mono (by decide)) (by rfl) (pa_cons (pv 3) (pa_cons (pv 5) pa_nil))) pa_nil)))))) pss_nil)
      (pss_cons (ps_par3 (i := 6) (j := 7) (l := 8) rfl sc_law.nd rfl rfl rfl (by decide) (by decide) (by decide) rfl rfl rfl (pa_cons (pe_op op_sub (pe_fn h__law_draw (hr.mono (by decide)) (by rfl) (pa_cons (pv 1) (pa_cons pe_int pa_nil))) pe_int) (pa_cons (pe_op op_sub (pe_fn h__law_draw (hr.mono (by decide)) (by rfl) (pa_cons (pv 1) (pa_cons pe_int pa_nil))) pe_int) (pa_cons (pe_op op_sub (pe_fn h__law_draw (hr.mono (by decide)) (by rfl) (pa_cons (pv 1) (pa_cons pe_int pa_nil))) pe_int) pa_nil))) rfl)
      (pss_cons (ps_asg (pe_fn h__law_moved (hr.mono (by decide)) (by rfl) (pa_cons (pv 3) (pa_cons (pv 4) (pa_cons (pv 6) (pa_cons (pv 7) (pa_cons (pv 8) pa_nil)))))) (pg_tup rfl (pgs_cons (pg_name (i := 3) sc_law.nd rfl (.inl rfl)) (pgs_cons (pg_name (i := 4) sc_law.nd rfl (.inl rfl)) pgs_nil))))
      (pss_cons (ps_asg (pe_tup (pa_cons (pe_fn h_heights_paper (hr.mono (by decide)) (by rfl) (pa_cons (pv 3) pa_nil)) (pa_cons (pe_fn h_bounds (hr.mono (by decide)) (by rfl) (pa_cons (pv 3) pa_nil)) pa_nil))) (pg_tup rfl (pgs_cons (pg_name (i := 9) sc_law.nd rfl (.inl rfl)) (pgs_cons (pg_tup rfl (pgs_cons (pg_name (i := 10) sc_law.nd rfl (.inl rfl)) (pgs_cons (pg_name (i := 11) sc_law.nd rfl (.inl rfl)) pgs_nil))) pgs_nil))))
      (pss_cons (ps_set (i := 12) sc_law.nd rfl (.inr rfl) (pe_op op_add pe_int (pe_fn h__law_draw (hr.mono (by decide)) (by rfl) (pa_cons (pv 1) (pa_cons pe_int pa_nil)))))
      (pss_cons (ps_set (i := 13) sc_law.nd rfl (.inl rfl) (pe_op (kCatT (K := K) rfl) (pe_callTy (kTupOf (K := K) rfl) (by rfl) B.tuple PyProof.Rows.boot_tuple (pa_cons (pe_lc (own := [("_law_row", 17)]) rfl sc_law.nd (kpiT (K := K) rfl (pe_slice (kSlT (K := K) rfl) (pv 9) po_none (po_some pe_int))) (blkOk_by (own := [("_law_row", 17)]) (N := N_law) (sc := (defScope s_law)) (by decide +kernel)) (fun _ _ _ _ _ => (pg_name (i := 17) sc_law.nd rfl (.inl rfl))) (fun _ _ _ _ _ => pts_nil) (fun _ _ _ _ _ => (pe_callTy (kTupOf (K := K) rfl) (by rfl) B.tuple PyProof.Rows.boot_tuple (pa_cons (pe_lc (own := [("_law_one", 18)]) rfl sc_law.nd (kpiT (K := K) rfl (pv 17)) (blkOk_by (own := [("_law_one", 18)]) (N := N_law) (sc := { kind := .function, names := [(Str.ofString ".0", NameKind.local), (Str.ofString "_law_row", NameKind.local), (Str.ofString "tuple", NameKind.globalImplicit), (Str.ofString "_law_often", NameKind.cell)], isGenerator := false, isCoroutine := false }) (by decide +kernel)) (fun _ _ _ _ _ => (pg_name (i := 18) sc_law.nd rfl (.inl rfl))) (fun _ _ _ _ _ => pts_nil) (fun _ _ _ _ _ => (pe_op op_mulW (pv 12) (pv 18)))) pa_nil)))) pa_nil)) (pe_tup (pa_cons (pe_op op_mulW (pv 12) (pe_ix (kIxT (K := K) rfl) (pv 9) pe_int (fun _ _ => rfl))) pa_nil))))
      (pss_cons (ps_if (pw_or (pt_not (pt_val (pe_fn h_check_heights (hr.mono (by decide)) (by rfl) (pa_cons (pv 3) (pa_cons (pv 13) pa_nil))))) (pw_or1 (pt_cmpR (kNeD (K := K) rfl hu64) (pe_fn h__law_bounds (hr.mono (by decide)) (by rfl) (pa_cons (pv 3) (pa_cons (pv 13) pa_nil))) (pe_tup (pa_cons (pe_op op_mulW (pv 12) (pv 10)) (pa_cons (pv 11) pa_nil))) (nomark _)))).pt (pss_one (ps_ret pe_bl)) pss_nil)
      (pss_one (ps_for PassesOwn.never rfl (kpiL (K := K) rfl (pe_op op_cat (pe_op op_cat (pe_lst (pa_cons pe_non pa_nil)) (pv 4)) (pe_lst (pa_cons (pe_fn h__law_added (hr.mono (by decide)) (by rfl) (pa_cons (pv 3) (pa_cons (pe_ix (kIxL (K := K) rfl) (pv 4) pe_int (fun _ _ => rfl)) (pa_cons (pe_ix (kIxL (K := K) rfl) (pv 4) pe_int (fun _ _ => rfl)) pa_nil)))) pa_nil)))) (pg_name (i := 5) sc_law.nd rfl (.inl rfl)) (pss_cons (ps_set (i := 14) sc_law.nd rfl (.inl rfl) (pv 5))
      (pss_one (ps_for PassesOwn.never rfl (pi_range1 rfl B.range (pa_cons (pe_ifExp (pt_cmpR (kEqD (K := K) rfl hu64) (pv 5) (pe_ix (kIxL (K := K) rfl) (pv 4) pe_int (fun _ _ => rfl)) (nomark _)) pe_int pe_int) pa_nil)) (pg_name (i := 15) sc_law.nd rfl (.inl rfl)) (pss_cons (ps_set (i := 16) sc_law.nd rfl (.inl rfl) (pe_fn h__law_added (hr.mono (by decide)) (by rfl) (pa_cons (pv 3) (pa_cons (pv 14) (pa_cons (pv 14) pa_nil)))))
      (pss_cons (ps_if (pt_not (pt_val (pe_fn h__law_between (hr.mono (by decide)) (by rfl) (pa_cons (pv 3) (pa_cons (pv 14) (pa_cons (pv 16) (pa_cons (pv 9) (pa_cons (pv 10) (pa_cons (pv 11) pa_nil))))))))) (pss_one (ps_ret pe_bl)) pss_nil)
      (pss_one (ps_set (i := 14) sc_law.nd rfl (.inl rfl) (pv 16)))))))))))))))))))
      (pss_one (ps_ret pe_bl)))), ?_⟩
  obtain ⟨a, ns, rfl, hq, hl, q⟩ := h
  refine sr_go (δ := startD N_law [.adr a]) (S := Ext H (fun _ => none)) (N := fun _ _ _ => False) (R := fun d _ _ => d = .bl true) (HP := fun _ => none) (fun _ _ z => nomatch z) (.refl (fun _ _ z => nomatch z)) (sl_start (ds := [.adr a]) ⟨.ref a, [], rfl, rfl, rfl⟩) (fun _ _ _ _ z => z.elim) (fun d v H' P' ed _ _ rv => by
    subst ed
    cases (show v = .bl true from rv)
    exact q H') ?_
  clear q
  refine sr_asgR (er_begun rfl hq hl) fun d H' P' ⟨M, G, ed, x⟩ => ?_
  subst ed
  refine ⟨_, Bm H (fun _ => none) M G 0, tg_name, x, ?_⟩
  clear x
  have hSq : SqL K H a (ns.map V.int) := hq
  generalize hP0 : (fun _ => none : Hp) = P0
  have hmle : 2 + min 3 (ns.length / 10) ≤ 5 := by omega
  refine sr_forN (n := 2 + min 3 (ns.length / 10)) (es_cast (es_add (es_of ev_int bm_stab) (es_min2 (es_of ev_int bm_stab) (es_fdiv (es_lenS (fun H P x => x.1.ext) rfl hSq) (es_of ev_int bm_stab) (div_small (by decide) (Nat.lt_of_lt_of_le (show (10 : Int).natAbs < 2 ^ 4 by decide) (Nat.pow_le_pow_right (by decide) (by decide))))))) (by rw [turns_of])) (by omega) bm_stab (fun i δ H2 P2 => (∃ rest : De, δ = some (.adr a) :: some (.adr M) :: rest ∧ rest.length = 17) ∧ Bm H P0 M G (1000 * i) H2 P2) (fun H2 P2 x => ⟨⟨_, rfl, rfl⟩, x⟩) ?_ ?_
  · rintro i δ1 H2 P2 hi ⟨⟨rest, rfl, hrl⟩, x⟩
    refine ⟨_, _, tg_name, x, ?_⟩
    clear x
    match rest, hrl with
    | [a2, a3, a4, a5, a6, a7, a8, a9, a10, a11, a12, a13, a14, a15, a16, a17, a18], _ =>
      refine sr_asgR (er_callM (k := 72) (i := 1) rfl (ea_cons ev_bl ea_nil) rfl (by omega)) fun d H3 P3 ⟨⟨c, px, py, pv, pw', hthr, ed⟩, x⟩ => ?_
      subst ed
      refine ⟨[some (.adr a), some (.adr M), some (.int (i : Int)), some (cv c), some (.lst (ipts [(px, py), (pv, pw')])), a5, a6, a7, a8, a9, a10, a11, a12, a13, a14, a15, a16, a17, a18], _, tg_tup (tgs_cons tg_name (tgs_cons tg_name tgs_nil)) rfl, x, ?_⟩
      have htwo := two_thr hthr
      clear x hthr
      refine sr_seq (N1 := fun δ' H2 P2 => (∃ (c : Cv) (px py pv pw : Int) (s5 : Option Dt), Two c px py pv pw ∧ δ' = [some (.adr a), some (.adr M), some (.int (i : Int)), some (cv c), some (.lst (ipts [(px, py), (pv, pw)])), s5, a6, a7, a8, a9, a10, a11, a12, a13, a14, a15, a16, a17, a18]) ∧ Bm H P0 M G (1000 * i + 77) H2 P2)
        (sr_ifR (S' := Bm H P0 M G (1000 * i + 73)) (er_drawK (k := 1) (n := 1000 * i + 72) (top := 4) rfl ev_int (by decide) (by decide) (by omega)) ?_ (sr_next fun H2 P2 x => ⟨⟨c, px, py, pv, pw', a5, htwo, rfl⟩, bm_le (by omega) x⟩)) ?_
      · refine sr_asgR (er_callM (k := 4) (i := 1) (n := 1000 * i + 73) rfl ea_nil rfl (by omega)) fun d H3 P3 ⟨⟨c0, x0, y0, r0, s0, t0, hF, hr0, hs0, ht0, ed⟩, x⟩ => ?_
        subst ed
        have htwo2 := two_fin hF hr0 hs0 ht0
        generalize c0.mv r0 s0 t0 = c1 at *
        generalize y0 - s0 * (x0 - r0) - t0 = y1 at *
        generalize x0 - r0 = x1 at *
        refine ⟨[some (.adr a), some (.adr M), some (.int (i : Int)), some (cv c1), some (.lst (ipts [(px, py), (pv, pw')])), some (ipt x1 y1), a6, a7, a8, a9, a10, a11, a12, a13, a14, a15, a16, a17, a18], _, tg_tup (tgs_cons tg_name (tgs_cons tg_name tgs_nil)) rfl, x, ?_⟩
        clear x
        refine sr_nx (sr_asg1 (d := .lst (ipts [(x1, y1), (x1, -y1 - c1.a1 * x1 - c1.a3)])) (ev_lst (ds := [ipt x1 y1, ipt x1 (-y1 - c1.a1 * x1 - c1.a3)]) (ea_cons (ev_var rfl) (ea_cons (ev_call (ea_cons (ev_var rfl) (ea_cons (ev_var rfl) ea_nil)) ⟨c1, x1, y1, htwo2.cs, Nat.lt_of_le_of_lt htwo2.bx (by decide), Nat.lt_of_le_of_lt htwo2.bY (by decide), rfl, rfl⟩) ea_nil))) bm_stab tg_name) fun δ' H P ⟨e, x⟩ => ⟨⟨c1, x1, y1, x1, _, some (ipt x1 y1), htwo2, e⟩, x⟩
      · rintro _ H2 P2 ⟨⟨c, px, py, pv, pw, s5, htwo, rfl⟩, x⟩
        refine ⟨_, x, ?_⟩
        clear x
        refine sr_par3R (ear_cons (S' := Bm H P0 M G (1000 * i + 78)) (T := fun d => ∃ j : Int, d = .int (j - 9) ∧ 0 ≤ j ∧ j < 19) (er_subc (er_drawK (k := 1) (n := 1000 * i + 77) (top := 19) rfl ev_int (by decide) (by decide) (by omega)) bm_stab ev_int) fun d1 t1 => ear_cons (S' := Bm H P0 M G (1000 * i + 79)) (T := fun d => ∃ j : Int, d = .int (j - 3) ∧ 0 ≤ j ∧ j < 7) (er_subc (er_drawK (k := 1) (n := 1000 * i + 78) (top := 7) rfl ev_int (by decide) (by decide) (by omega)) bm_stab ev_int) fun d2 t2 => ear_cons (S' := Bm H P0 M G (1000 * i + 80)) (T := fun d => ∃ j : Int, d = .int (j - 4) ∧ 0 ≤ j ∧ j < 9) (er_subc (er_drawK (k := 1) (n := 1000 * i + 79) (top := 9) rfl ev_int (by decide) (by decide) (by omega)) bm_stab ev_int) fun d3 t3 => ear_of ea_nil bm_stab) fun ds H3 P3 hds => ?_
        obtain ⟨d1, r1, rfl, ⟨j1, rfl, k1, k1'⟩, d2, r2, rfl, ⟨j2, rfl, k2, k2'⟩, d3, r3, rfl, ⟨j3, rfl, k3, k3'⟩, rfl, x⟩ := hds
        refine ⟨_, _, _, _, rfl, x, ?_⟩
        clear x
        have hr1 : (j1 - 9).natAbs ≤ 9 := by omega
        have hs1 : (j2 - 3).natAbs ≤ 3 := by omega
        have ht1 : (j3 - 4).natAbs ≤ 4 := by omega
        generalize j1 - 9 = r at *
        generalize j2 - 3 = s' at *
        generalize j3 - 4 = t at *
        have good := htwo.mv r s' t hr1 hs1 ht1
        have hmov : p__law_moved [cv c, .lst (ipts [(px, py), (pv, pw)]), .int r, .int s', .int t] (.tup [cv (c.mv r s' t), .lst (ipts [(px - r, py - s' * (px - r) - t), (pv - r, pw - s' * (pv - r) - t)])]) := ⟨c, [(px, py), (pv, pw)], r, s', t, ⟨htwo.cs, Nat.lt_of_le_of_lt hr1 (by decide), Nat.lt_of_le_of_lt hs1 (by decide), Nat.lt_of_le_of_lt ht1 (by decide)⟩, Nat.le_of_ble_eq_true rfl, fun p hp => by
          have hp2 : p = (px, py) ∨ p = (pv, pw) := by simpa using hp
          rcases hp2 with rfl | rfl
          · exact ⟨Nat.lt_of_le_of_lt htwo.bx (by decide), Nat.lt_of_le_of_lt htwo.bY (by decide)⟩
          · exact ⟨Nat.lt_of_le_of_lt htwo.bv (by decide), Nat.lt_of_le_of_lt htwo.bw (by decide)⟩, rfl, rfl⟩
        generalize c.mv r s' t = C at *
        generalize py - s' * (px - r) - t = Y at *
        generalize px - r = X at *
        generalize pw - s' * (pv - r) - t = W' at *
        generalize pv - r = V' at *
        clear htwo
        refine sr_asg (δ1 := [some (.adr a), some (.adr M), some (.int (i : Int)), some (cv C), some (.lst (ipts [(X, Y), (V', W')])), s5, some (.int r), some (.int s'), some (.int t), a9, a10, a11, a12, a13, a14, a15, a16, a17, a18]) (ev_call (ea_cons (ev_var rfl) (ea_cons (ev_var rfl) (ea_cons (ev_var rfl) (ea_cons (ev_var rfl) (ea_cons (ev_var rfl) ea_nil))))) hmov) bm_stab (tg_tup (tgs_cons tg_name (tgs_cons tg_name tgs_nil)) rfl) ?_
        clear hmov
        have hcb := good.cb
        have hb := hcb.bok
        have hpap := hb.pap
        have hpsm := paper_sm hb
        have hpv : p_heights_paper [cv C] (pap (paperL C.b2 C.b4 C.b6 C.b8)) := ⟨C, hcb, rfl, rfl⟩
        have hbv : p_bounds [cv C] (.tup [.int (lowN (paperL C.b2 C.b4 C.b6 C.b8) : Int), .int (highN C.b2 C.b4 C.b6 C.b8 : Int)]) := ⟨C, hcb, rfl, rfl⟩
        generalize paperL C.b2 C.b4 C.b6 C.b8 = p at *
        have hsm4 : sm4 p := fun x hx => Nat.lt_of_lt_of_le (hpsm x hx) (Nat.pow_le_pow_right (by decide) (by decide))
        have hlow : ((lowN p : Nat) : Int).natAbs < 2 ^ 4010 := by
          rw [Int.natAbs_natCast]
          exact low_lt hpap.len hsm4
        have hbt : ∀ q : Pt, POk C q → SmX q → POk C (C.dbl q) → SmX (C.dbl q) → p__law_between [cv C, .pt q, .pt (C.dbl q), pap p, .int (lowN p : Int), .int (highN C.b2 C.b4 C.b6 C.b8 : Int)] (.bl true) := fun q h1 h2 h3 h4 => ⟨C, p, q, hcb, hpap, hsm4, h1, h3, h2, h4, rfl, rfl⟩
        refine sr_asg (d := .tup [pap p, .tup [.int (lowN p : Int), .int (highN C.b2 C.b4 C.b6 C.b8 : Int)]]) (δ1 := [some (.adr a), some (.adr M), some (.int (i : Int)), some (cv C), some (.lst (ipts [(X, Y), (V', W')])), s5, some (.int r), some (.int s'), some (.int t), some (pap p), some (.int (lowN p : Int)), some (.int (highN C.b2 C.b4 C.b6 C.b8 : Int)), a12, a13, a14, a15, a16, a17, a18]) (ev_tup (ea_cons (ev_call (ea_cons (ev_var rfl) ea_nil) hpv) (ea_cons (ev_call (ea_cons (ev_var rfl) ea_nil) hbv) ea_nil))) bm_stab (tg_tup (tgs_cons tg_name (tgs_cons (tg_tup (tgs_cons tg_name (tgs_cons tg_name tgs_nil)) rfl) tgs_nil)) rfl) ?_
        clear hpv hbv
        refine sr_asgR (er_addc ev_int bm_stab (er_drawK (k := 1) (n := 1000 * i + 80) (top := 9) rfl ev_int (by decide) (by decide) (by omega))) fun d H3 P3 ⟨⟨j, ed, k1, k1'⟩, x⟩ => ?_
        subst ed
        have hk2 : 0 < 2 + j := by omega
        have hk3 : (2 + j).natAbs < 2 ^ 100 := Nat.lt_of_le_of_lt (show (2 + j).natAbs ≤ 10 by omega) (by decide)
        generalize 2 + j = k at *
        refine ⟨[some (.adr a), some (.adr M), some (.int (i : Int)), some (cv C), some (.lst (ipts [(X, Y), (V', W')])), s5, some (.int r), some (.int s'), some (.int t), some (pap p), some (.int (lowN p : Int)), some (.int (highN C.b2 C.b4 C.b6 C.b8 : Int)), some (.int k), a13, a14, a15, a16, a17, a18], _, tg_name, x, ?_⟩
        clear x k1 k1'
        have hpg := hpap.scl hk2
        have hch : p_check_heights [cv C, pap (scl k p)] (.bl true) := ⟨C, scl k p, hcb, hpg, scl_sm hpsm hk3, rfl, rfl⟩
        have hlb : p__law_bounds [cv C, pap (scl k p)] (.tup [.int (k * (lowN p : Int)), .int (highN C.b2 C.b4 C.b6 C.b8 : Int)]) := ⟨C, scl k p, hcb.cs, hpg.len, rfl, by rw [lowN_scl, Int.natCast_mul, Int.natAbs_of_nonneg (Int.le_of_lt hk2)]⟩
        refine sr_set (d := pap (scl k p)) ?_ bm_stab ?_
        · have hl17 := hpap.len
          have hcm : ∀ x, x ∈ p → CMulW k x := fun x hx => mul_ok hk3 (hpsm x hx) (by decide)
          clear hpap hpsm hpg hch hlb hbt hlow hsm4
          obtain ⟨b0, b1, b2, b3, b4, b5, b6, b7, b8, b9, b10, b11, b12, b13, b14, b15, b16, rfl⟩ := list17 hl17
          refine ev_cast (ev_catT (ds := [.tup (zs (scl k [b1, b2, b3, b4])), .tup (zs (scl k [b5, b6, b7, b8])), .tup (zs (scl k [b9, b10, b11, b12])), .tup (zs (scl k [b13, b14, b15, b16]))]) (es := [.int (k * b0)]) (ev_tupleOf (ea_cons (ev_cast (ev_lcm (ds := [.tup (zs [b1, b2, b3, b4]), .tup (zs [b5, b6, b7, b8]), .tup (zs [b9, b10, b11, b12]), .tup (zs [b13, b14, b15, b16])]) (src_tup (ev_slT (ds := [.tup (zs [b1, b2, b3, b4]), .tup (zs [b5, b6, b7, b8]), .tup (zs [b9, b10, b11, b12]), .tup (zs [b13, b14, b15, b16]), .int b0]) (lo := none) (hi := some 4) (ev_var rfl) eo_none eo_some (fun h => absurd h.2 (by show ¬ (4 = 5); decide)))) (sclD k) (Nat.le_of_ble_eq_true rfl) (fun d hd => ?_)) ?_) ea_nil)) (ev_tup (ea_cons (ev_mul (ev_var rfl) (ev_ixT (n := 4) (ev_var rfl) ev_int rfl rfl) (hcm b0 (by simp))) ea_nil)) (by simp) (by simp) (Nat.le_of_ble_eq_true rfl)) rfl
          · have hd' : ∃ rr : List Int, d = .tup (zs rr) ∧ rr.length ≤ 100 ∧ ∀ x, x ∈ rr → CMulW k x := by
              have : d = .tup (zs [b1, b2, b3, b4]) ∨ d = .tup (zs [b5, b6, b7, b8]) ∨ d = .tup (zs [b9, b10, b11, b12]) ∨ d = .tup (zs [b13, b14, b15, b16]) := by simpa using hd
              rcases this with rfl | rfl | rfl | rfl <;> exact ⟨_, rfl, Nat.le_of_ble_eq_true rfl, fun x hx => hcm x (by simp only [List.mem_cons, List.not_mem_nil, or_false] at hx ⊢; grind)⟩
            obtain ⟨rr, rfl, hrl, hcr⟩ := hd'
            refine ⟨_, tc_name (by simp), ?_⟩
            refine ev_tupleOf (ea_cons (ev_cast (ev_lcm (ds := zs rr) (src_tup (ev_var rfl)) (sclE k) (by rw [zs_len]; omega) (fun e he => ?_)) ?_) ea_nil)
            · obtain ⟨x, hx, rfl⟩ := mem_zs he
              exact ⟨_, tc_name (by simp), ev_mul (ev_var rfl) (ev_var rfl) (hcr x hx)⟩
            · rfl
          · rfl
        refine sr_ifF (eb_known (eb_or (eb_not (eb_B (ev_call (ea_cons (ev_var rfl) (ea_cons (ev_var rfl) ea_nil)) hch))) fun _ => eb_test (ev_neD (ev_call (ea_cons (ev_var rfl) (ea_cons (ev_var rfl) ea_nil)) hlb) (ev_tup (ea_cons (ev_mul (ev_var rfl) (ev_var rfl) (mul_ok hk3 hlow (by decide))) (ea_cons (ev_var rfl) ea_nil))) (okD_two _ _) (okD_two _ _))) (by rw [eqv_same]; rfl)) bm_stab ?_
        clear hch hlb hpg
        have hone := chain_one hcb good.one
        have htw := chain_two hcb good.two
        obtain ⟨q, hadd, hsq⟩ := good.sum
        have hqc : Chain C 2 q := by
          cases q with
          | none => exact chain_none C 2
          | some q =>
            obtain ⟨qx, qy⟩ := q
            exact chain_two hcb hsq
        have hcall : p__law_added [cv C, ipt X Y, ipt V' W'] (.pt q) := ⟨C, some (ic X, ic Y), some (ic V', ic W'), q, hadd, rfl, rfl⟩
        have hall : ∀ d, d ∈ ([.non] ++ ipts [(X, Y), (V', W')] ++ [.pt q] : List Dt) → ∃ z : Pt, d = .pt z ∧ Chain C 2 z := fun d hd => by
          have : d = .non ∨ d = ipt X Y ∨ d = ipt V' W' ∨ d = .pt q := by simpa [ipts] using hd
          rcases this with rfl | rfl | rfl | rfl
          · exact ⟨none, rfl, chain_none C 2⟩
          · exact ⟨some (ic X, ic Y), rfl, chain_less hone⟩
          · exact ⟨some (ic V', ic W'), rfl, htw⟩
          · exact ⟨q, rfl, hqc⟩
        generalize pap (scl k p) = gd
        generalize pap p = pd at *
        generalize hlw : (lowN p : Int) = lw at *
        generalize (highN C.b2 C.b4 C.b6 C.b8 : Int) = hw at *
        clear hcb hb hpap hpsm hsm4 hlow hadd hsq hqc htw good
        refine sr_d (nx := fun δ' => ∃ rest : De, δ' = some (.adr a) :: some (.adr M) :: rest ∧ rest.length = 17) (rt := fun _ => False) ?_ bm_stab (fun δ' H P n x => ⟨n, bm_le (by omega) x⟩) (fun _ _ _ z _ => z.elim)
        refine st_for1 (ds := [.non] ++ ipts [(X, Y), (V', W')] ++ [.pt q]) (src_list (ev_catL (ds := [.non] ++ ipts [(X, Y), (V', W')]) (es := [.pt q]) (ev_catL (ds := [.non]) (es := ipts [(X, Y), (V', W')]) (ev_lst (ea_cons ev_non ea_nil)) (ev_var rfl) (Nat.le_of_ble_eq_true rfl)) (ev_lst (ea_cons (ev_call (ea_cons (ev_var rfl) (ea_cons (ev_ixL (n := 0) (ds := ipts [(X, Y), (V', W')]) (ev_var rfl) ev_int rfl rfl) (ea_cons (ev_ixL (n := 1) (ds := ipts [(X, Y), (V', W')]) (ev_var rfl) ev_int rfl rfl) ea_nil))) hcall) ea_nil)) (Nat.le_of_ble_eq_true rfl)))
          (fun _ δ => ∃ s5 s14 s15 s16, δ = [some (.adr a), some (.adr M), some (.int (i : Int)), some (cv C), some (.lst (ipts [(X, Y), (V', W')])), s5, some (.int r), some (.int s'), some (.int t), some pd, some (.int lw), some (.int hw), some (.int k), some gd, s14, s15, s16, a17, a18]) ⟨s5, a14, a15, a16, rfl⟩ ?_ (fun δ1 ⟨_, _, _, _, e⟩ => ⟨_, e, rfl⟩)
        rintro m d δ1 hd ⟨s5, s14, s15, s16, rfl⟩
        obtain ⟨z, rfl, hz⟩ := hall d (List.mem_of_getElem? hd)
        clear hd hall hcall
        refine ⟨[some (.adr a), some (.adr M), some (.int (i : Int)), some (cv C), some (.lst (ipts [(X, Y), (V', W')])), some (.pt z), some (.int r), some (.int s'), some (.int t), some pd, some (.int lw), some (.int hw), some (.int k), some gd, s14, s15, s16, a17, a18], tg_name, ?_⟩
        have hzn : Chain C (if z = some (ic X, ic Y) then 3 else 2) z := by
          by_cases h : z = some (ic X, ic Y)
          · rw [if_pos h, h]; exact hone
          · rw [if_neg h]; exact hz
        have hn3 : (if z = some (ic X, ic Y) then 3 else 2) ≤ 3 := by split <;> decide
        refine st_asg (d := .pt z) (δ' := [some (.adr a), some (.adr M), some (.int (i : Int)), some (cv C), some (.lst (ipts [(X, Y), (V', W')])), some (.pt z), some (.int r), some (.int s'), some (.int t), some pd, some (.int lw), some (.int hw), some (.int k), some gd, some (.pt z), s15, s16, a17, a18]) (ev_var rfl) tg_name ?_
        refine st_for1 (ds := rngD 0 (if z = some (ic X, ic Y) then 3 else 2)) (src_rng1 (ea_cons (ev_if (eb_test (ev_cast (ev_eqD (d1 := .pt z) (d2 := .pt (some (ic X, ic Y))) (ev_var rfl) (ev_ixL (n := 0) (ds := ipts [(X, Y), (V', W')]) (ev_var rfl) ev_int rfl rfl) (okD_pt _) (okD_pt _)) (by rw [eqv_pt]))) (fun h => ev_cast ev_int (by rw [if_pos (of_decide_eq_true h)]; rfl)) (fun h => ev_cast ev_int (by rw [if_neg (of_decide_eq_false h)]; rfl))) ea_nil) (by omega))
          (fun j δ => ∃ (z' : Pt) (s15 s16 : Option Dt), Chain C ((if z = some (ic X, ic Y) then 3 else 2) - j) z' ∧ δ = [some (.adr a), some (.adr M), some (.int (i : Int)), some (cv C), some (.lst (ipts [(X, Y), (V', W')])), some (.pt z), some (.int r), some (.int s'), some (.int t), some pd, some (.int lw), some (.int hw), some (.int k), some gd, some (.pt z'), s15, s16, a17, a18]) ⟨z, s15, s16, hzn, rfl⟩ ?_ (fun δ1 ⟨_, _, _, _, e⟩ => ⟨_, _, _, _, e⟩)
        clear hone hz hzn hn3
        generalize (if z = some (ic X, ic Y) then 3 else 2) = n
        rintro j d δ1 hd ⟨z', s15, s16, hzc, rfl⟩
        have hj : j < n := by
          have := (List.getElem?_eq_some_iff.mp hd).1
          rwa [rngD_len] at this
        rw [rngD_get hj] at hd
        cases hd
        rw [show n - j = (n - (j + 1)) + 1 by omega] at hzc
        obtain ⟨q1, q2, q3, q4⟩ := hzc
        obtain ⟨q5, q6⟩ := chain_top q4
        have hb4 := hbt z' q1 q2 q5 q6
        have hdb : p__law_added [cv C, .pt z', .pt z'] (.pt (C.dbl z')) := ⟨C, z', z', C.dbl z', q3, rfl, rfl⟩
        clear hbt q1 q2 q3 q5 q6
        refine ⟨[some (.adr a), some (.adr M), some (.int (i : Int)), some (cv C), some (.lst (ipts [(X, Y), (V', W')])), some (.pt z), some (.int r), some (.int s'), some (.int t), some pd, some (.int lw), some (.int hw), some (.int k), some gd, some (.pt z'), some (.int (0 + (j : Int))), s16, a17, a18], tg_name, ?_⟩
        refine st_asg (d := .pt (C.dbl z')) (δ' := [some (.adr a), some (.adr M), some (.int (i : Int)), some (cv C), some (.lst (ipts [(X, Y), (V', W')])), some (.pt z), some (.int r), some (.int s'), some (.int t), some pd, some (.int lw), some (.int hw), some (.int k), some gd, some (.pt z'), some (.int (0 + (j : Int))), some (.pt (C.dbl z')), a17, a18]) (ev_call (ea_cons (ev_var rfl) (ea_cons (ev_var rfl) (ea_cons (ev_var rfl) ea_nil))) hdb) tg_name ?_
        refine st_ifF (eb_known (eb_not (eb_B (ev_call (ea_cons (ev_var rfl) (ea_cons (ev_var rfl) (ea_cons (ev_var rfl) (ea_cons (ev_var rfl) (ea_cons (ev_var rfl) (ea_cons (ev_var rfl) ea_nil)))))) hb4))) rfl) ?_
        exact st_asg1 (d := .pt (C.dbl z')) (ev_var rfl) tg_name ⟨C.dbl z', _, _, q4, rfl⟩
  · rintro δ1 H2 P2 ⟨⟨rest, rfl, _⟩, x⟩
    exact ⟨_, x, sr_ret ev_bl bm_stab fun _ _ _ => rfl⟩

end
end Cw
end
section
set_option linter.all false
set_option maxRecDepth 100000
set_option maxHeartbeats 4000000
namespace Cw
open PySem PySem.Spec PyProof.Rows L2
section
variable {P : Program} {w : World} {K : PySem.W.Frag} {mg : Str → Option Value} {h : Heap} {f : Addr} {od an : Option Addr} {sl : Array (Option Value)} {oc kV dc pm cd ct : Value}

theorem fu__law_begun (X : K.In h) (G : h.Ns mainGlobals mg) (a : PySem.W.nsIn K mainGlobals "_law_begun" = some (some (.ref f))) (l : K.lookup f = some ⟨oc, od, .func (PySem.W.fnOf "_law_begun" "_law_begun" (defArgs s__law_begun) (defBody s__law_begun) (defScope s__law_begun) .none kV dc pm an cd ct), sl⟩) (c : PySem.W.codeIn K cd "_law_begun" = true) (k : PySem.W.keepIn K (.ref f) = true) : Fu K mg "_law_begun" s__law_begun ["_law_script"] := ⟨f, _, fun_mk l c k, (fun_mk (st := s__law_begun) l c k).binds (ps := ["_law_script"]) fun _ _ _ _ _ _ us hl => match us, hl with | [_], _ => rfl, PySem.W.mg_of X G a⟩
theorem fu__law_low (X : K.In h) (G : h.Ns mainGlobals mg) (a : PySem.W.nsIn K mainGlobals "_law_low" = some (some (.ref f))) (l : K.lookup f = some ⟨oc, od, .func (PySem.W.fnOf "_law_low" "_law_low" (defArgs s__law_low) (defBody s__law_low) (defScope s__law_low) .none kV dc pm an cd ct), sl⟩) (c : PySem.W.codeIn K cd "_law_low" = true) (k : PySem.W.keepIn K (.ref f) = true) : Fu K mg "_law_low" s__law_low ["_law_top", "_law_bottom"] := ⟨f, _, fun_mk l c k, (fun_mk (st := s__law_low) l c k).binds (ps := ["_law_top", "_law_bottom"]) fun _ _ _ _ _ _ us hl => match us, hl with | [_, _], _ => rfl, PySem.W.mg_of X G a⟩
theorem fu__law_two (X : K.In h) (G : h.Ns mainGlobals mg) (a : PySem.W.nsIn K mainGlobals "_law_two" = some (some (.ref f))) (l : K.lookup f = some ⟨oc, od, .func (PySem.W.fnOf "_law_two" "_law_two" (defArgs s__law_two) (defBody s__law_two) (defScope s__law_two) .none kV dc pm an cd ct), sl⟩) (c : PySem.W.codeIn K cd "_law_two" = true) (k : PySem.W.keepIn K (.ref f) = true) : Fu K mg "_law_two" s__law_two ["_law_a"] := ⟨f, _, fun_mk l c k, (fun_mk (st := s__law_two) l c k).binds (ps := ["_law_a"]) fun _ _ _ _ _ _ us hl => match us, hl with | [_], _ => rfl, PySem.W.mg_of X G a⟩
theorem fu__law_plus (X : K.In h) (G : h.Ns mainGlobals mg) (a : PySem.W.nsIn K mainGlobals "_law_plus" = some (some (.ref f))) (l : K.lookup f = some ⟨oc, od, .func (PySem.W.fnOf "_law_plus" "_law_plus" (defArgs s__law_plus) (defBody s__law_plus) (defScope s__law_plus) .none kV dc pm an cd ct), sl⟩) (c : PySem.W.codeIn K cd "_law_plus" = true) (k : PySem.W.keepIn K (.ref f) = true) : Fu K mg "_law_plus" s__law_plus ["_law_a", "_law_b_here"] := ⟨f, _, fun_mk l c k, (fun_mk (st := s__law_plus) l c k).binds (ps := ["_law_a", "_law_b_here"]) fun _ _ _ _ _ _ us hl => match us, hl with | [_, _], _ => rfl, PySem.W.mg_of X G a⟩
theorem fu__law_by (X : K.In h) (G : h.Ns mainGlobals mg) (a : PySem.W.nsIn K mainGlobals "_law_by" = some (some (.ref f))) (l : K.lookup f = some ⟨oc, od, .func (PySem.W.fnOf "_law_by" "_law_by" (defArgs s__law_by) (defBody s__law_by) (defScope s__law_by) .none kV dc pm an cd ct), sl⟩) (c : PySem.W.codeIn K cd "_law_by" = true) (k : PySem.W.keepIn K (.ref f) = true) : Fu K mg "_law_by" s__law_by ["_law_a", "_law_b_here"] := ⟨f, _, fun_mk l c k, (fun_mk (st := s__law_by) l c k).binds (ps := ["_law_a", "_law_b_here"]) fun _ _ _ _ _ _ us hl => match us, hl with | [_, _], _ => rfl, PySem.W.mg_of X G a⟩
theorem fu__law_all (X : K.In h) (G : h.Ns mainGlobals mg) (a : PySem.W.nsIn K mainGlobals "_law_all" = some (some (.ref f))) (l : K.lookup f = some ⟨oc, od, .func (PySem.W.fnOf "_law_all" "_law_all" (defArgs s__law_all) (defBody s__law_all) (defScope s__law_all) .none kV dc pm an cd ct), sl⟩) (c : PySem.W.codeIn K cd "_law_all" = true) (k : PySem.W.keepIn K (.ref f) = true) : Fu K mg "_law_all" s__law_all ["_law_rows"] := ⟨f, _, fun_mk l c k, (fun_mk (st := s__law_all) l c k).binds (ps := ["_law_rows"]) fun _ _ _ _ _ _ us hl => match us, hl with | [_], _ => rfl, PySem.W.mg_of X G a⟩
theorem fu__law_over (X : K.In h) (G : h.Ns mainGlobals mg) (a : PySem.W.nsIn K mainGlobals "_law_over" = some (some (.ref f))) (l : K.lookup f = some ⟨oc, od, .func (PySem.W.fnOf "_law_over" "_law_over" (defArgs s__law_over) (defBody s__law_over) (defScope s__law_over) .none kV dc pm an cd ct), sl⟩) (c : PySem.W.codeIn K cd "_law_over" = true) (k : PySem.W.keepIn K (.ref f) = true) : Fu K mg "_law_over" s__law_over ["_law_a", "_law_b_here"] := ⟨f, _, fun_mk l c k, (fun_mk (st := s__law_over) l c k).binds (ps := ["_law_a", "_law_b_here"]) fun _ _ _ _ _ _ us hl => match us, hl with | [_, _], _ => rfl, PySem.W.mg_of X G a⟩
theorem fu__law_b (X : K.In h) (G : h.Ns mainGlobals mg) (a : PySem.W.nsIn K mainGlobals "_law_b" = some (some (.ref f))) (l : K.lookup f = some ⟨oc, od, .func (PySem.W.fnOf "_law_b" "_law_b" (defArgs s__law_b) (defBody s__law_b) (defScope s__law_b) .none kV dc pm an cd ct), sl⟩) (c : PySem.W.codeIn K cd "_law_b" = true) (k : PySem.W.keepIn K (.ref f) = true) : Fu K mg "_law_b" s__law_b ["_law_curve"] := ⟨f, _, fun_mk l c k, (fun_mk (st := s__law_b) l c k).binds (ps := ["_law_curve"]) fun _ _ _ _ _ _ us hl => match us, hl with | [_], _ => rfl, PySem.W.mg_of X G a⟩
theorem fu__law_d (X : K.In h) (G : h.Ns mainGlobals mg) (a : PySem.W.nsIn K mainGlobals "_law_d" = some (some (.ref f))) (l : K.lookup f = some ⟨oc, od, .func (PySem.W.fnOf "_law_d" "_law_d" (defArgs s__law_d) (defBody s__law_d) (defScope s__law_d) .none kV dc pm an cd ct), sl⟩) (c : PySem.W.codeIn K cd "_law_d" = true) (k : PySem.W.keepIn K (.ref f) = true) : Fu K mg "_law_d" s__law_d ["_law_curve"] := ⟨f, _, fun_mk l c k, (fun_mk (st := s__law_d) l c k).binds (ps := ["_law_curve"]) fun _ _ _ _ _ _ us hl => match us, hl with | [_], _ => rfl, PySem.W.mg_of X G a⟩
theorem fu__law_some (X : K.In h) (G : h.Ns mainGlobals mg) (a : PySem.W.nsIn K mainGlobals "_law_some" = some (some (.ref f))) (l : K.lookup f = some ⟨oc, od, .func (PySem.W.fnOf "_law_some" "_law_some" (defArgs s__law_some) (defBody s__law_some) (defScope s__law_some) .none kV dc pm an cd ct), sl⟩) (c : PySem.W.codeIn K cd "_law_some" = true) (k : PySem.W.keepIn K (.ref f) = true) : Fu K mg "_law_some" s__law_some ["_law_m"] := ⟨f, _, fun_mk l c k, (fun_mk (st := s__law_some) l c k).binds (ps := ["_law_m"]) fun _ _ _ _ _ _ us hl => match us, hl with | [_], _ => rfl, PySem.W.mg_of X G a⟩
theorem fu__law_draw (X : K.In h) (G : h.Ns mainGlobals mg) (a : PySem.W.nsIn K mainGlobals "_law_draw" = some (some (.ref f))) (l : K.lookup f = some ⟨oc, od, .func (PySem.W.fnOf "_law_draw" "_law_draw" (defArgs s__law_draw) (defBody s__law_draw) (defScope s__law_draw) .none kV dc pm an cd ct), sl⟩) (c : PySem.W.codeIn K cd "_law_draw" = true) (k : PySem.W.keepIn K (.ref f) = true) : Fu K mg "_law_draw" s__law_draw ["_law_m", "_law_top"] := ⟨f, _, fun_mk l c k, (fun_mk (st := s__law_draw) l c k).binds (ps := ["_law_m", "_law_top"]) fun _ _ _ _ _ _ us hl => match us, hl with | [_, _], _ => rfl, PySem.W.mg_of X G a⟩
theorem fu__law_of (X : K.In h) (G : h.Ns mainGlobals mg) (a : PySem.W.nsIn K mainGlobals "_law_of" = some (some (.ref f))) (l : K.lookup f = some ⟨oc, od, .func (PySem.W.fnOf "_law_of" "_law_of" (defArgs s__law_of) (defBody s__law_of) (defScope s__law_of) .none kV dc pm an cd ct), sl⟩) (c : PySem.W.codeIn K cd "_law_of" = true) (k : PySem.W.keepIn K (.ref f) = true) : Fu K mg "_law_of" s__law_of ["_law_m", "_law_some_here"] := ⟨f, _, fun_mk l c k, (fun_mk (st := s__law_of) l c k).binds (ps := ["_law_m", "_law_some_here"]) fun _ _ _ _ _ _ us hl => match us, hl with | [_, _], _ => rfl, PySem.W.mg_of X G a⟩
theorem fu__law_through (X : K.In h) (G : h.Ns mainGlobals mg) (a : PySem.W.nsIn K mainGlobals "_law_through" = some (some (.ref f))) (l : K.lookup f = some ⟨oc, od, .func (PySem.W.fnOf "_law_through" "_law_through" (defArgs s__law_through) (defBody s__law_through) (defScope s__law_through) .none kV dc pm an cd ct), sl⟩) (c : PySem.W.codeIn K cd "_law_through" = true) (k : PySem.W.keepIn K (.ref f) = true) : Fu K mg "_law_through" s__law_through ["_law_m", "_law_whole"] := ⟨f, _, fun_mk l c k, (fun_mk (st := s__law_through) l c k).binds (ps := ["_law_m", "_law_whole"]) fun _ _ _ _ _ _ us hl => match us, hl with | [_, _], _ => rfl, PySem.W.mg_of X G a⟩
theorem fu__law_moved (X : K.In h) (G : h.Ns mainGlobals mg) (a : PySem.W.nsIn K mainGlobals "_law_moved" = some (some (.ref f))) (l : K.lookup f = some ⟨oc, od, .func (PySem.W.fnOf "_law_moved" "_law_moved" (defArgs s__law_moved) (defBody s__law_moved) (defScope s__law_moved) .none kV dc pm an cd ct), sl⟩) (c : PySem.W.codeIn K cd "_law_moved" = true) (k : PySem.W.keepIn K (.ref f) = true) : Fu K mg "_law_moved" s__law_moved ["_law_curve", "_law_spots", "_law_r", "_law_s", "_law_t"] := ⟨f, _, fun_mk l c k, (fun_mk (st := s__law_moved) l c k).binds (ps := ["_law_curve", "_law_spots", "_law_r", "_law_s", "_law_t"]) fun _ _ _ _ _ _ us hl => match us, hl with | [_, _, _, _, _], _ => rfl, PySem.W.mg_of X G a⟩
theorem fu__law_finite (X : K.In h) (G : h.Ns mainGlobals mg) (a : PySem.W.nsIn K mainGlobals "_law_finite" = some (some (.ref f))) (l : K.lookup f = some ⟨oc, od, .func (PySem.W.fnOf "_law_finite" "_law_finite" (defArgs s__law_finite) (defBody s__law_finite) (defScope s__law_finite) .none kV dc pm an cd ct), sl⟩) (c : PySem.W.codeIn K cd "_law_finite" = true) (k : PySem.W.keepIn K (.ref f) = true) : Fu K mg "_law_finite" s__law_finite ["_law_m"] := ⟨f, _, fun_mk l c k, (fun_mk (st := s__law_finite) l c k).binds (ps := ["_law_m"]) fun _ _ _ _ _ _ us hl => match us, hl with | [_], _ => rfl, PySem.W.mg_of X G a⟩
theorem fu_common (X : K.In h) (G : h.Ns mainGlobals mg) (a : PySem.W.nsIn K mainGlobals "common" = some (some (.ref f))) (l : K.lookup f = some ⟨oc, od, .func (PySem.W.fnOf "common" "common" (defArgs s_common) (defBody s_common) (defScope s_common) .none kV dc pm an cd ct), sl⟩) (c : PySem.W.codeIn K cd "common" = true) (k : PySem.W.keepIn K (.ref f) = true) : Fu K mg "common" s_common ["one", "other"] := ⟨f, _, fun_mk l c k, (fun_mk (st := s_common) l c k).binds (ps := ["one", "other"]) fun _ _ _ _ _ _ us hl => match us, hl with | [_, _], _ => rfl, PySem.W.mg_of X G a⟩
theorem fu_lowest (X : K.In h) (G : h.Ns mainGlobals mg) (a : PySem.W.nsIn K mainGlobals "lowest" = some (some (.ref f))) (l : K.lookup f = some ⟨oc, od, .func (PySem.W.fnOf "lowest" "lowest" (defArgs s_lowest) (defBody s_lowest) (defScope s_lowest) .none kV dc pm an cd ct), sl⟩) (c : PySem.W.codeIn K cd "lowest" = true) (k : PySem.W.keepIn K (.ref f) = true) : Fu K mg "lowest" s_lowest ["top", "bottom"] := ⟨f, _, fun_mk l c k, (fun_mk (st := s_lowest) l c k).binds (ps := ["top", "bottom"]) fun _ _ _ _ _ _ us hl => match us, hl with | [_, _], _ => rfl, PySem.W.mg_of X G a⟩
theorem fu_pair_of (X : K.In h) (G : h.Ns mainGlobals mg) (a : PySem.W.nsIn K mainGlobals "pair_of" = some (some (.ref f))) (l : K.lookup f = some ⟨oc, od, .func (PySem.W.fnOf "pair_of" "pair_of" (defArgs s_pair_of) (defBody s_pair_of) (defScope s_pair_of) .none kV dc pm an cd ct), sl⟩) (c : PySem.W.codeIn K cd "pair_of" = true) (k : PySem.W.keepIn K (.ref f) = true) : Fu K mg "pair_of" s_pair_of ["a"] := ⟨f, _, fun_mk l c k, (fun_mk (st := s_pair_of) l c k).binds (ps := ["a"]) fun _ _ _ _ _ _ us hl => match us, hl with | [_], _ => rfl, PySem.W.mg_of X G a⟩
theorem fu_sum_of_two (X : K.In h) (G : h.Ns mainGlobals mg) (a : PySem.W.nsIn K mainGlobals "sum_of_two" = some (some (.ref f))) (l : K.lookup f = some ⟨oc, od, .func (PySem.W.fnOf "sum_of_two" "sum_of_two" (defArgs s_sum_of_two) (defBody s_sum_of_two) (defScope s_sum_of_two) .none kV dc pm an cd ct), sl⟩) (c : PySem.W.codeIn K cd "sum_of_two" = true) (k : PySem.W.keepIn K (.ref f) = true) : Fu K mg "sum_of_two" s_sum_of_two ["a", "b"] := ⟨f, _, fun_mk l c k, (fun_mk (st := s_sum_of_two) l c k).binds (ps := ["a", "b"]) fun _ _ _ _ _ _ us hl => match us, hl with | [_, _], _ => rfl, PySem.W.mg_of X G a⟩
theorem fu_product (X : K.In h) (G : h.Ns mainGlobals mg) (a : PySem.W.nsIn K mainGlobals "product" = some (some (.ref f))) (l : K.lookup f = some ⟨oc, od, .func (PySem.W.fnOf "product" "product" (defArgs s_product) (defBody s_product) (defScope s_product) .none kV dc pm an cd ct), sl⟩) (c : PySem.W.codeIn K cd "product" = true) (k : PySem.W.keepIn K (.ref f) = true) : Fu K mg "product" s_product ["a", "b"] := ⟨f, _, fun_mk l c k, (fun_mk (st := s_product) l c k).binds (ps := ["a", "b"]) fun _ _ _ _ _ _ us hl => match us, hl with | [_, _], _ => rfl, PySem.W.mg_of X G a⟩
theorem fu_summed (X : K.In h) (G : h.Ns mainGlobals mg) (a : PySem.W.nsIn K mainGlobals "summed" = some (some (.ref f))) (l : K.lookup f = some ⟨oc, od, .func (PySem.W.fnOf "summed" "summed" (defArgs s_summed) (defBody s_summed) (defScope s_summed) .none kV dc pm an cd ct), sl⟩) (c : PySem.W.codeIn K cd "summed" = true) (k : PySem.W.keepIn K (.ref f) = true) : Fu K mg "summed" s_summed ["rows"] := ⟨f, _, fun_mk l c k, (fun_mk (st := s_summed) l c k).binds (ps := ["rows"]) fun _ _ _ _ _ _ us hl => match us, hl with | [_], _ => rfl, PySem.W.mg_of X G a⟩
theorem fu_halves_of (X : K.In h) (G : h.Ns mainGlobals mg) (a : PySem.W.nsIn K mainGlobals "halves_of" = some (some (.ref f))) (l : K.lookup f = some ⟨oc, od, .func (PySem.W.fnOf "halves_of" "halves_of" (defArgs s_halves_of) (defBody s_halves_of) (defScope s_halves_of) .none kV dc pm an cd ct), sl⟩) (c : PySem.W.codeIn K cd "halves_of" = true) (k : PySem.W.keepIn K (.ref f) = true) : Fu K mg "halves_of" s_halves_of ["five"] := ⟨f, _, fun_mk l c k, (fun_mk (st := s_halves_of) l c k).binds (ps := ["five"]) fun _ _ _ _ _ _ us hl => match us, hl with | [_], _ => rfl, PySem.W.mg_of X G a⟩
theorem fu_d_of (X : K.In h) (G : h.Ns mainGlobals mg) (a : PySem.W.nsIn K mainGlobals "d_of" = some (some (.ref f))) (l : K.lookup f = some ⟨oc, od, .func (PySem.W.fnOf "d_of" "d_of" (defArgs s_d_of) (defBody s_d_of) (defScope s_d_of) .none kV dc pm an cd ct), sl⟩) (c : PySem.W.codeIn K cd "d_of" = true) (k : PySem.W.keepIn K (.ref f) = true) : Fu K mg "d_of" s_d_of ["five"] := ⟨f, _, fun_mk l c k, (fun_mk (st := s_d_of) l c k).binds (ps := ["five"]) fun _ _ _ _ _ _ us hl => match us, hl with | [_], _ => rfl, PySem.W.mg_of X G a⟩
theorem fu_is_number (X : K.In h) (G : h.Ns mainGlobals mg) (a : PySem.W.nsIn K mainGlobals "is_number" = some (some (.ref f))) (l : K.lookup f = some ⟨oc, od, .func (PySem.W.fnOf "is_number" "is_number" (defArgs s_is_number) (defBody s_is_number) (defScope s_is_number) .none kV dc pm an cd ct), sl⟩) (c : PySem.W.codeIn K cd "is_number" = true) (k : PySem.W.keepIn K (.ref f) = true) : Fu K mg "is_number" s_is_number ["thing"] := ⟨f, _, fun_mk l c k, (fun_mk (st := s_is_number) l c k).binds (ps := ["thing"]) fun _ _ _ _ _ _ us hl => match us, hl with | [_], _ => rfl, PySem.W.mg_of X G a⟩
theorem fu_is_fraction (X : K.In h) (G : h.Ns mainGlobals mg) (a : PySem.W.nsIn K mainGlobals "is_fraction" = some (some (.ref f))) (l : K.lookup f = some ⟨oc, od, .func (PySem.W.fnOf "is_fraction" "is_fraction" (defArgs s_is_fraction) (defBody s_is_fraction) (defScope s_is_fraction) .none kV dc pm an cd ct), sl⟩) (c : PySem.W.codeIn K cd "is_fraction" = true) (k : PySem.W.keepIn K (.ref f) = true) : Fu K mg "is_fraction" s_is_fraction ["thing"] := ⟨f, _, fun_mk l c k, (fun_mk (st := s_is_fraction) l c k).binds (ps := ["thing"]) fun _ _ _ _ _ _ us hl => match us, hl with | [_], _ => rfl, PySem.W.mg_of X G a⟩
theorem fu_is_curve (X : K.In h) (G : h.Ns mainGlobals mg) (a : PySem.W.nsIn K mainGlobals "is_curve" = some (some (.ref f))) (l : K.lookup f = some ⟨oc, od, .func (PySem.W.fnOf "is_curve" "is_curve" (defArgs s_is_curve) (defBody s_is_curve) (defScope s_is_curve) .none kV dc pm an cd ct), sl⟩) (c : PySem.W.codeIn K cd "is_curve" = true) (k : PySem.W.keepIn K (.ref f) = true) : Fu K mg "is_curve" s_is_curve ["thing"] := ⟨f, _, fun_mk l c k, (fun_mk (st := s_is_curve) l c k).binds (ps := ["thing"]) fun _ _ _ _ _ _ us hl => match us, hl with | [_], _ => rfl, PySem.W.mg_of X G a⟩
theorem fu_need_curve (X : K.In h) (G : h.Ns mainGlobals mg) (a : PySem.W.nsIn K mainGlobals "need_curve" = some (some (.ref f))) (l : K.lookup f = some ⟨oc, od, .func (PySem.W.fnOf "need_curve" "need_curve" (defArgs s_need_curve) (defBody s_need_curve) (defScope s_need_curve) .none kV dc pm an cd ct), sl⟩) (c : PySem.W.codeIn K cd "need_curve" = true) (k : PySem.W.keepIn K (.ref f) = true) : Fu K mg "need_curve" s_need_curve ["curve"] := ⟨f, _, fun_mk l c k, (fun_mk (st := s_need_curve) l c k).binds (ps := ["curve"]) fun _ _ _ _ _ _ us hl => match us, hl with | [_], _ => rfl, PySem.W.mg_of X G a⟩
theorem fu_own_is_whole (X : K.In h) (G : h.Ns mainGlobals mg) (a : PySem.W.nsIn K mainGlobals "own_is_whole" = some (some (.ref f))) (l : K.lookup f = some ⟨oc, od, .func (PySem.W.fnOf "own_is_whole" "own_is_whole" (defArgs s_own_is_whole) (defBody s_own_is_whole) (defScope s_own_is_whole) .none kV dc pm an cd ct), sl⟩) (c : PySem.W.codeIn K cd "own_is_whole" = true) (k : PySem.W.keepIn K (.ref f) = true) : Fu K mg "own_is_whole" s_own_is_whole ["curve"] := ⟨f, _, fun_mk l c k, (fun_mk (st := s_own_is_whole) l c k).binds (ps := ["curve"]) fun _ _ _ _ _ _ us hl => match us, hl with | [_], _ => rfl, PySem.W.mg_of X G a⟩
theorem fu_need_whole (X : K.In h) (G : h.Ns mainGlobals mg) (a : PySem.W.nsIn K mainGlobals "need_whole" = some (some (.ref f))) (l : K.lookup f = some ⟨oc, od, .func (PySem.W.fnOf "need_whole" "need_whole" (defArgs s_need_whole) (defBody s_need_whole) (defScope s_need_whole) .none kV dc pm an cd ct), sl⟩) (c : PySem.W.codeIn K cd "need_whole" = true) (k : PySem.W.keepIn K (.ref f) = true) : Fu K mg "need_whole" s_need_whole ["curve"] := ⟨f, _, fun_mk l c k, (fun_mk (st := s_need_whole) l c k).binds (ps := ["curve"]) fun _ _ _ _ _ _ us hl => match us, hl with | [_], _ => rfl, PySem.W.mg_of X G a⟩
theorem fu_forms_of (X : K.In h) (G : h.Ns mainGlobals mg) (a : PySem.W.nsIn K mainGlobals "forms_of" = some (some (.ref f))) (l : K.lookup f = some ⟨oc, od, .func (PySem.W.fnOf "forms_of" "forms_of" (defArgs s_forms_of) (defBody s_forms_of) (defScope s_forms_of) .none kV dc pm an cd ct), sl⟩) (c : PySem.W.codeIn K cd "forms_of" = true) (k : PySem.W.keepIn K (.ref f) = true) : Fu K mg "forms_of" s_forms_of ["curve"] := ⟨f, _, fun_mk l c k, (fun_mk (st := s_forms_of) l c k).binds (ps := ["curve"]) fun _ _ _ _ _ _ us hl => match us, hl with | [_], _ => rfl, PySem.W.mg_of X G a⟩
theorem fu_made_small (X : K.In h) (G : h.Ns mainGlobals mg) (a : PySem.W.nsIn K mainGlobals "made_small" = some (some (.ref f))) (l : K.lookup f = some ⟨oc, od, .func (PySem.W.fnOf "made_small" "made_small" (defArgs s_made_small) (defBody s_made_small) (defScope s_made_small) .none kV dc pm an cd ct), sl⟩) (c : PySem.W.codeIn K cd "made_small" = true) (k : PySem.W.keepIn K (.ref f) = true) : Fu K mg "made_small" s_made_small ["row"] := ⟨f, _, fun_mk l c k, (fun_mk (st := s_made_small) l c k).binds (ps := ["row"]) fun _ _ _ _ _ _ us hl => match us, hl with | [_], _ => rfl, PySem.W.mg_of X G a⟩
theorem fu_cleared (X : K.In h) (G : h.Ns mainGlobals mg) (a : PySem.W.nsIn K mainGlobals "cleared" = some (some (.ref f))) (l : K.lookup f = some ⟨oc, od, .func (PySem.W.fnOf "cleared" "cleared" (defArgs s_cleared) (defBody s_cleared) (defScope s_cleared) .none kV dc pm an cd ct), sl⟩) (c : PySem.W.codeIn K cd "cleared" = true) (k : PySem.W.keepIn K (.ref f) = true) : Fu K mg "cleared" s_cleared ["rows"] := ⟨f, _, fun_mk l c k, (fun_mk (st := s_cleared) l c k).binds (ps := ["rows"]) fun _ _ _ _ _ _ us hl => match us, hl with | [_], _ => rfl, PySem.W.mg_of X G a⟩
theorem fu_rows_for (X : K.In h) (G : h.Ns mainGlobals mg) (a : PySem.W.nsIn K mainGlobals "rows_for" = some (some (.ref f))) (l : K.lookup f = some ⟨oc, od, .func (PySem.W.fnOf "rows_for" "rows_for" (defArgs s_rows_for) (defBody s_rows_for) (defScope s_rows_for) .none kV dc pm an cd ct), sl⟩) (c : PySem.W.codeIn K cd "rows_for" = true) (k : PySem.W.keepIn K (.ref f) = true) : Fu K mg "rows_for" s_rows_for ["f", "g"] := ⟨f, _, fun_mk l c k, (fun_mk (st := s_rows_for) l c k).binds (ps := ["f", "g"]) fun _ _ _ _ _ _ us hl => match us, hl with | [_, _], _ => rfl, PySem.W.mg_of X G a⟩
theorem fu_own_paper (X : K.In h) (G : h.Ns mainGlobals mg) (a : PySem.W.nsIn K mainGlobals "own_paper" = some (some (.ref f))) (l : K.lookup f = some ⟨oc, od, .func (PySem.W.fnOf "own_paper" "own_paper" (defArgs s_own_paper) (defBody s_own_paper) (defScope s_own_paper) .none kV dc pm an cd ct), sl⟩) (c : PySem.W.codeIn K cd "own_paper" = true) (k : PySem.W.keepIn K (.ref f) = true) : Fu K mg "own_paper" s_own_paper ["curve"] := ⟨f, _, fun_mk l c k, (fun_mk (st := s_own_paper) l c k).binds (ps := ["curve"]) fun _ _ _ _ _ _ us hl => match us, hl with | [_], _ => rfl, PySem.W.mg_of X G a⟩
theorem fu_heights_paper (X : K.In h) (G : h.Ns mainGlobals mg) (a : PySem.W.nsIn K mainGlobals "heights_paper" = some (some (.ref f))) (l : K.lookup f = some ⟨oc, od, .func (PySem.W.fnOf "heights_paper" "heights_paper" (defArgs s_heights_paper) (defBody s_heights_paper) (defScope s_heights_paper) .none kV dc pm an cd ct), sl⟩) (c : PySem.W.codeIn K cd "heights_paper" = true) (k : PySem.W.keepIn K (.ref f) = true) : Fu K mg "heights_paper" s_heights_paper ["curve"] := ⟨f, _, fun_mk l c k, (fun_mk (st := s_heights_paper) l c k).binds (ps := ["curve"]) fun _ _ _ _ _ _ us hl => match us, hl with | [_], _ => rfl, PySem.W.mg_of X G a⟩
theorem fu_low_of (X : K.In h) (G : h.Ns mainGlobals mg) (a : PySem.W.nsIn K mainGlobals "low_of" = some (some (.ref f))) (l : K.lookup f = some ⟨oc, od, .func (PySem.W.fnOf "low_of" "low_of" (defArgs s_low_of) (defBody s_low_of) (defScope s_low_of) .none kV dc pm an cd ct), sl⟩) (c : PySem.W.codeIn K cd "low_of" = true) (k : PySem.W.keepIn K (.ref f) = true) : Fu K mg "low_of" s_low_of ["paper"] := ⟨f, _, fun_mk l c k, (fun_mk (st := s_low_of) l c k).binds (ps := ["paper"]) fun _ _ _ _ _ _ us hl => match us, hl with | [_], _ => rfl, PySem.W.mg_of X G a⟩
theorem fu_high_of (X : K.In h) (G : h.Ns mainGlobals mg) (a : PySem.W.nsIn K mainGlobals "high_of" = some (some (.ref f))) (l : K.lookup f = some ⟨oc, od, .func (PySem.W.fnOf "high_of" "high_of" (defArgs s_high_of) (defBody s_high_of) (defScope s_high_of) .none kV dc pm an cd ct), sl⟩) (c : PySem.W.codeIn K cd "high_of" = true) (k : PySem.W.keepIn K (.ref f) = true) : Fu K mg "high_of" s_high_of ["curve"] := ⟨f, _, fun_mk l c k, (fun_mk (st := s_high_of) l c k).binds (ps := ["curve"]) fun _ _ _ _ _ _ us hl => match us, hl with | [_], _ => rfl, PySem.W.mg_of X G a⟩
theorem fu_bounds (X : K.In h) (G : h.Ns mainGlobals mg) (a : PySem.W.nsIn K mainGlobals "bounds" = some (some (.ref f))) (l : K.lookup f = some ⟨oc, od, .func (PySem.W.fnOf "bounds" "bounds" (defArgs s_bounds) (defBody s_bounds) (defScope s_bounds) .none kV dc pm an cd ct), sl⟩) (c : PySem.W.codeIn K cd "bounds" = true) (k : PySem.W.keepIn K (.ref f) = true) : Fu K mg "bounds" s_bounds ["curve"] := ⟨f, _, fun_mk l c k, (fun_mk (st := s_bounds) l c k).binds (ps := ["curve"]) fun _ _ _ _ _ _ us hl => match us, hl with | [_], _ => rfl, PySem.W.mg_of X G a⟩
theorem fu__law_less (X : K.In h) (G : h.Ns mainGlobals mg) (a : PySem.W.nsIn K mainGlobals "_law_less" = some (some (.ref f))) (l : K.lookup f = some ⟨oc, od, .func (PySem.W.fnOf "_law_less" "_law_less" (defArgs s__law_less) (defBody s__law_less) (defScope s__law_less) .none kV dc pm an cd ct), sl⟩) (c : PySem.W.codeIn K cd "_law_less" = true) (k : PySem.W.keepIn K (.ref f) = true) : Fu K mg "_law_less" s__law_less ["_law_curve", "_law_spot"] := ⟨f, _, fun_mk l c k, (fun_mk (st := s__law_less) l c k).binds (ps := ["_law_curve", "_law_spot"]) fun _ _ _ _ _ _ us hl => match us, hl with | [_, _], _ => rfl, PySem.W.mg_of X G a⟩
theorem fu_products (X : K.In h) (G : h.Ns mainGlobals mg) (a : PySem.W.nsIn K mainGlobals "products" = some (some (.ref f))) (l : K.lookup f = some ⟨oc, od, .func (PySem.W.fnOf "products" "products" (defArgs s_products) (defBody s_products) (defScope s_products) .none kV dc pm an cd ct), sl⟩) (c : PySem.W.codeIn K cd "products" = true) (k : PySem.W.keepIn K (.ref f) = true) : Fu K mg "products" s_products ["row", "form", "other_row", "other"] := ⟨f, _, fun_mk l c k, (fun_mk (st := s_products) l c k).binds (ps := ["row", "form", "other_row", "other"]) fun _ _ _ _ _ _ us hl => match us, hl with | [_, _, _, _], _ => rfl, PySem.W.mg_of X G a⟩
theorem fu_is_row (X : K.In h) (G : h.Ns mainGlobals mg) (a : PySem.W.nsIn K mainGlobals "is_row" = some (some (.ref f))) (l : K.lookup f = some ⟨oc, od, .func (PySem.W.fnOf "is_row" "is_row" (defArgs s_is_row) (defBody s_is_row) (defScope s_is_row) .none kV dc pm an cd ct), sl⟩) (c : PySem.W.codeIn K cd "is_row" = true) (k : PySem.W.keepIn K (.ref f) = true) : Fu K mg "is_row" s_is_row ["thing"] := ⟨f, _, fun_mk l c k, (fun_mk (st := s_is_row) l c k).binds (ps := ["thing"]) fun _ _ _ _ _ _ us hl => match us, hl with | [_], _ => rfl, PySem.W.mg_of X G a⟩
theorem fu_check_heights (X : K.In h) (G : h.Ns mainGlobals mg) (a : PySem.W.nsIn K mainGlobals "check_heights" = some (some (.ref f))) (l : K.lookup f = some ⟨oc, od, .func (PySem.W.fnOf "check_heights" "check_heights" (defArgs s_check_heights) (defBody s_check_heights) (defScope s_check_heights) .none kV dc pm an cd ct), sl⟩) (c : PySem.W.codeIn K cd "check_heights" = true) (k : PySem.W.keepIn K (.ref f) = true) : Fu K mg "check_heights" s_check_heights ["curve", "paper"] := ⟨f, _, fun_mk l c k, (fun_mk (st := s_check_heights) l c k).binds (ps := ["curve", "paper"]) fun _ _ _ _ _ _ us hl => match us, hl with | [_, _], _ => rfl, PySem.W.mg_of X G a⟩
theorem fu__law_forms (X : K.In h) (G : h.Ns mainGlobals mg) (a : PySem.W.nsIn K mainGlobals "_law_forms" = some (some (.ref f))) (l : K.lookup f = some ⟨oc, od, .func (PySem.W.fnOf "_law_forms" "_law_forms" (defArgs s__law_forms) (defBody s__law_forms) (defScope s__law_forms) .none kV dc pm an cd ct), sl⟩) (c : PySem.W.codeIn K cd "_law_forms" = true) (k : PySem.W.keepIn K (.ref f) = true) : Fu K mg "_law_forms" s__law_forms ["_law_curve"] := ⟨f, _, fun_mk l c k, (fun_mk (st := s__law_forms) l c k).binds (ps := ["_law_curve"]) fun _ _ _ _ _ _ us hl => match us, hl with | [_], _ => rfl, PySem.W.mg_of X G a⟩
theorem fu__law_bounds (X : K.In h) (G : h.Ns mainGlobals mg) (a : PySem.W.nsIn K mainGlobals "_law_bounds" = some (some (.ref f))) (l : K.lookup f = some ⟨oc, od, .func (PySem.W.fnOf "_law_bounds" "_law_bounds" (defArgs s__law_bounds) (defBody s__law_bounds) (defScope s__law_bounds) .none kV dc pm an cd ct), sl⟩) (c : PySem.W.codeIn K cd "_law_bounds" = true) (k : PySem.W.keepIn K (.ref f) = true) : Fu K mg "_law_bounds" s__law_bounds ["_law_curve", "_law_paper"] := ⟨f, _, fun_mk l c k, (fun_mk (st := s__law_bounds) l c k).binds (ps := ["_law_curve", "_law_paper"]) fun _ _ _ _ _ _ us hl => match us, hl with | [_, _], _ => rfl, PySem.W.mg_of X G a⟩
theorem fu__law_added (X : K.In h) (G : h.Ns mainGlobals mg) (a : PySem.W.nsIn K mainGlobals "_law_added" = some (some (.ref f))) (l : K.lookup f = some ⟨oc, od, .func (PySem.W.fnOf "_law_added" "_law_added" (defArgs s__law_added) (defBody s__law_added) (defScope s__law_added) .none kV dc pm an cd ct), sl⟩) (c : PySem.W.codeIn K cd "_law_added" = true) (k : PySem.W.keepIn K (.ref f) = true) : Fu K mg "_law_added" s__law_added ["_law_curve", "_law_one", "_law_other"] := ⟨f, _, fun_mk l c k, (fun_mk (st := s__law_added) l c k).binds (ps := ["_law_curve", "_law_one", "_law_other"]) fun _ _ _ _ _ _ us hl => match us, hl with | [_, _, _], _ => rfl, PySem.W.mg_of X G a⟩
theorem fu__law_doubled (X : K.In h) (G : h.Ns mainGlobals mg) (a : PySem.W.nsIn K mainGlobals "_law_doubled" = some (some (.ref f))) (l : K.lookup f = some ⟨oc, od, .func (PySem.W.fnOf "_law_doubled" "_law_doubled" (defArgs s__law_doubled) (defBody s__law_doubled) (defScope s__law_doubled) .none kV dc pm an cd ct), sl⟩) (c : PySem.W.codeIn K cd "_law_doubled" = true) (k : PySem.W.keepIn K (.ref f) = true) : Fu K mg "_law_doubled" s__law_doubled ["_law_curve", "_law_spot"] := ⟨f, _, fun_mk l c k, (fun_mk (st := s__law_doubled) l c k).binds (ps := ["_law_curve", "_law_spot"]) fun _ _ _ _ _ _ us hl => match us, hl with | [_, _], _ => rfl, PySem.W.mg_of X G a⟩
theorem fu__law_common (X : K.In h) (G : h.Ns mainGlobals mg) (a : PySem.W.nsIn K mainGlobals "_law_common" = some (some (.ref f))) (l : K.lookup f = some ⟨oc, od, .func (PySem.W.fnOf "_law_common" "_law_common" (defArgs s__law_common) (defBody s__law_common) (defScope s__law_common) .none kV dc pm an cd ct), sl⟩) (c : PySem.W.codeIn K cd "_law_common" = true) (k : PySem.W.keepIn K (.ref f) = true) : Fu K mg "_law_common" s__law_common ["_law_one", "_law_other"] := ⟨f, _, fun_mk l c k, (fun_mk (st := s__law_common) l c k).binds (ps := ["_law_one", "_law_other"]) fun _ _ _ _ _ _ us hl => match us, hl with | [_, _], _ => rfl, PySem.W.mg_of X G a⟩
theorem fu_is_pair (X : K.In h) (G : h.Ns mainGlobals mg) (a : PySem.W.nsIn K mainGlobals "is_pair" = some (some (.ref f))) (l : K.lookup f = some ⟨oc, od, .func (PySem.W.fnOf "is_pair" "is_pair" (defArgs s_is_pair) (defBody s_is_pair) (defScope s_is_pair) .none kV dc pm an cd ct), sl⟩) (c : PySem.W.codeIn K cd "is_pair" = true) (k : PySem.W.keepIn K (.ref f) = true) : Fu K mg "is_pair" s_is_pair ["thing"] := ⟨f, _, fun_mk l c k, (fun_mk (st := s_is_pair) l c k).binds (ps := ["thing"]) fun _ _ _ _ _ _ us hl => match us, hl with | [_], _ => rfl, PySem.W.mg_of X G a⟩
theorem fu_off_by (X : K.In h) (G : h.Ns mainGlobals mg) (a : PySem.W.nsIn K mainGlobals "off_by" = some (some (.ref f))) (l : K.lookup f = some ⟨oc, od, .func (PySem.W.fnOf "off_by" "off_by" (defArgs s_off_by) (defBody s_off_by) (defScope s_off_by) .none kV dc pm an cd ct), sl⟩) (c : PySem.W.codeIn K cd "off_by" = true) (k : PySem.W.keepIn K (.ref f) = true) : Fu K mg "off_by" s_off_by ["five", "x", "y"] := ⟨f, _, fun_mk l c k, (fun_mk (st := s_off_by) l c k).binds (ps := ["five", "x", "y"]) fun _ _ _ _ _ _ us hl => match us, hl with | [_, _, _], _ => rfl, PySem.W.mg_of X G a⟩
theorem fu_lies_on (X : K.In h) (G : h.Ns mainGlobals mg) (a : PySem.W.nsIn K mainGlobals "lies_on" = some (some (.ref f))) (l : K.lookup f = some ⟨oc, od, .func (PySem.W.fnOf "lies_on" "lies_on" (defArgs s_lies_on) (defBody s_lies_on) (defScope s_lies_on) .none kV dc pm an cd ct), sl⟩) (c : PySem.W.codeIn K cd "lies_on" = true) (k : PySem.W.keepIn K (.ref f) = true) : Fu K mg "lies_on" s_lies_on ["curve", "thing"] := ⟨f, _, fun_mk l c k, (fun_mk (st := s_lies_on) l c k).binds (ps := ["curve", "thing"]) fun _ _ _ _ _ _ us hl => match us, hl with | [_, _], _ => rfl, PySem.W.mg_of X G a⟩
theorem fu_need_on (X : K.In h) (G : h.Ns mainGlobals mg) (a : PySem.W.nsIn K mainGlobals "need_on" = some (some (.ref f))) (l : K.lookup f = some ⟨oc, od, .func (PySem.W.fnOf "need_on" "need_on" (defArgs s_need_on) (defBody s_need_on) (defScope s_need_on) .none kV dc pm an cd ct), sl⟩) (c : PySem.W.codeIn K cd "need_on" = true) (k : PySem.W.keepIn K (.ref f) = true) : Fu K mg "need_on" s_need_on ["curve", "point"] := ⟨f, _, fun_mk l c k, (fun_mk (st := s_need_on) l c k).binds (ps := ["curve", "point"]) fun _ _ _ _ _ _ us hl => match us, hl with | [_, _], _ => rfl, PySem.W.mg_of X G a⟩
theorem fu_own_height (X : K.In h) (G : h.Ns mainGlobals mg) (a : PySem.W.nsIn K mainGlobals "own_height" = some (some (.ref f))) (l : K.lookup f = some ⟨oc, od, .func (PySem.W.fnOf "own_height" "own_height" (defArgs s_own_height) (defBody s_own_height) (defScope s_own_height) .none kV dc pm an cd ct), sl⟩) (c : PySem.W.codeIn K cd "own_height" = true) (k : PySem.W.keepIn K (.ref f) = true) : Fu K mg "own_height" s_own_height ["point"] := ⟨f, _, fun_mk l c k, (fun_mk (st := s_own_height) l c k).binds (ps := ["point"]) fun _ _ _ _ _ _ us hl => match us, hl with | [_], _ => rfl, PySem.W.mg_of X G a⟩
theorem fu_height (X : K.In h) (G : h.Ns mainGlobals mg) (a : PySem.W.nsIn K mainGlobals "height" = some (some (.ref f))) (l : K.lookup f = some ⟨oc, od, .func (PySem.W.fnOf "height" "height" (defArgs s_height) (defBody s_height) (defScope s_height) .none kV dc pm an cd ct), sl⟩) (c : PySem.W.codeIn K cd "height" = true) (k : PySem.W.keepIn K (.ref f) = true) : Fu K mg "height" s_height ["curve", "point"] := ⟨f, _, fun_mk l c k, (fun_mk (st := s_height) l c k).binds (ps := ["curve", "point"]) fun _ _ _ _ _ _ us hl => match us, hl with | [_, _], _ => rfl, PySem.W.mg_of X G a⟩
theorem fu__law_between (X : K.In h) (G : h.Ns mainGlobals mg) (a : PySem.W.nsIn K mainGlobals "_law_between" = some (some (.ref f))) (l : K.lookup f = some ⟨oc, od, .func (PySem.W.fnOf "_law_between" "_law_between" (defArgs s__law_between) (defBody s__law_between) (defScope s__law_between) .none kV dc pm an cd ct), sl⟩) (c : PySem.W.codeIn K cd "_law_between" = true) (k : PySem.W.keepIn K (.ref f) = true) : Fu K mg "_law_between" s__law_between ["_law_curve", "_law_spot", "_law_double", "_law_paper", "_law_low_here", "_law_high"] := ⟨f, _, fun_mk l c k, (fun_mk (st := s__law_between) l c k).binds (ps := ["_law_curve", "_law_spot", "_law_double", "_law_paper", "_law_low_here", "_law_high"]) fun _ _ _ _ _ _ us hl => match us, hl with | [_, _, _, _, _, _], _ => rfl, PySem.W.mg_of X G a⟩
theorem sc__law_some : FnScope ["_law_m", "_law_top"] ["_law_m"] (defScope s__law_some) := ⟨rfl, rfl, rfl, by decide +kernel, rfl, by decide +kernel, by decide +kernel⟩
theorem law_ok {base : Heap} (B : Bn mg) (F__law_begun : Fu K mg "_law_begun" s__law_begun ["_law_script"]) (F__law_low : Fu K mg "_law_low" s__law_low ["_law_top", "_law_bottom"]) (F__law_two : Fu K mg "_law_two" s__law_two ["_law_a"]) (F__law_plus : Fu K mg "_law_plus" s__law_plus ["_law_a", "_law_b_here"]) (F__law_by : Fu K mg "_law_by" s__law_by ["_law_a", "_law_b_here"]) (F__law_all : Fu K mg "_law_all" s__law_all ["_law_rows"]) (F__law_over : Fu K mg "_law_over" s__law_over ["_law_a", "_law_b_here"]) (F__law_b : Fu K mg "_law_b" s__law_b ["_law_curve"]) (F__law_d : Fu K mg "_law_d" s__law_d ["_law_curve"]) (F__law_some : Fu K mg "_law_some" s__law_some ["_law_m"]) (F__law_draw : Fu K mg "_law_draw" s__law_draw ["_law_m", "_law_top"]) (F__law_of : Fu K mg "_law_of" s__law_of ["_law_m", "_law_some_here"]) (F__law_through : Fu K mg "_law_through" s__law_through ["_law_m", "_law_whole"]) (F__law_moved : Fu K mg "_law_moved" s__law_moved ["_law_curve", "_law_spots", "_law_r", "_law_s", "_law_t"]) (F__law_finite : Fu K mg "_law_finite" s__law_finite ["_law_m"]) (F_common : Fu K mg "common" s_common ["one", "other"]) (F_lowest : Fu K mg "lowest" s_lowest ["top", "bottom"]) (F_pair_of : Fu K mg "pair_of" s_pair_of ["a"]) (F_sum_of_two : Fu K mg "sum_of_two" s_sum_of_two ["a", "b"]) (F_product : Fu K mg "product" s_product ["a", "b"]) (F_summed : Fu K mg "summed" s_summed ["rows"]) (F_halves_of : Fu K mg "halves_of" s_halves_of ["five"]) (F_d_of : Fu K mg "d_of" s_d_of ["five"]) (F_is_number : Fu K mg "is_number" s_is_number ["thing"]) (F_is_fraction : Fu K mg "is_fraction" s_is_fraction ["thing"]) (F_is_curve : Fu K mg "is_curve" s_is_curve ["thing"]) (F_need_curve : Fu K mg "need_curve" s_need_curve ["curve"]) (F_own_is_whole : Fu K mg "own_is_whole" s_own_is_whole ["curve"]) (F_need_whole : Fu K mg "need_whole" s_need_whole ["curve"]) (F_forms_of : Fu K mg "forms_of" s_forms_of ["curve"]) (F_made_small : Fu K mg "made_small" s_made_small ["row"]) (F_cleared : Fu K mg "cleared" s_cleared ["rows"]) (F_rows_for : Fu K mg "rows_for" s_rows_for ["f", "g"]) (F_own_paper : Fu K mg "own_paper" s_own_paper ["curve"]) (F_heights_paper : Fu K mg "heights_paper" s_heights_paper ["curve"]) (F_low_of : Fu K mg "low_of" s_low_of ["paper"]) (F_high_of : Fu K mg "high_of" s_high_of ["curve"]) (F_bounds : Fu K mg "bounds" s_bounds ["curve"]) (F__law_less : Fu K mg "_law_less" s__law_less ["_law_curve", "_law_spot"]) (F_products : Fu K mg "products" s_products ["row", "form", "other_row", "other"]) (F_is_row : Fu K mg "is_row" s_is_row ["thing"]) (F_check_heights : Fu K mg "check_heights" s_check_heights ["curve", "paper"]) (F__law_forms : Fu K mg "_law_forms" s__law_forms ["_law_curve"]) (F__law_bounds : Fu K mg "_law_bounds" s__law_bounds ["_law_curve", "_law_paper"]) (F__law_added : Fu K mg "_law_added" s__law_added ["_law_curve", "_law_one", "_law_other"]) (F__law_doubled : Fu K mg "_law_doubled" s__law_doubled ["_law_curve", "_law_spot"]) (F__law_common : Fu K mg "_law_common" s__law_common ["_law_one", "_law_other"]) (F_is_pair : Fu K mg "is_pair" s_is_pair ["thing"]) (F_off_by : Fu K mg "off_by" s_off_by ["five", "x", "y"]) (F_lies_on : Fu K mg "lies_on" s_lies_on ["curve", "thing"]) (F_need_on : Fu K mg "need_on" s_need_on ["curve", "point"]) (F_own_height : Fu K mg "own_height" s_own_height ["point"]) (F_height : Fu K mg "height" s_height ["curve", "point"]) (F__law_between : Fu K mg "_law_between" s__law_between ["_law_curve", "_law_spot", "_law_double", "_law_paper", "_law_low_here", "_law_high"]) {f0 : Addr} {fd0 : FuncData} (F : Fun K "law" "law" s_law f0 fd0) : FnOk P w K mg base CX0 12 f0 fd0 ["_law_script"] (spLaw K) := by
  have D__law_begun := ok__law_begun (P := P) (w := w) (base := base) B F__law_begun 
  have D__law_low := ok__law_low (P := P) (w := w) (base := base) B F__law_low 
  have D__law_two := ok__law_two (P := P) (w := w) (base := base) B F__law_two 
  have D__law_plus := ok__law_plus (P := P) (w := w) (base := base) B F__law_plus D__law_low D__law_two
  have D__law_by := ok__law_by (P := P) (w := w) (base := base) B F__law_by D__law_low D__law_two
  have D__law_all := ok__law_all (P := P) (w := w) (base := base) B F__law_all D__law_plus D__law_by
  have D__law_over := ok__law_over (P := P) (w := w) (base := base) B F__law_over D__law_low D__law_two
  have D__law_b := ok__law_b (P := P) (w := w) (base := base) B F__law_b D__law_all
  have D__law_d := ok__law_d (P := P) (w := w) (base := base) B F__law_d D__law_b D__law_all
  have D__law_some := ok__law_some (P := P) (w := w) (base := base) F__law_some sc__law_some
  have D__law_draw := ok__law_draw (P := P) (w := w) (base := base) B F__law_draw 
  have D__law_of := ok__law_of (P := P) (w := w) (base := base) B F__law_of D__law_draw
  have D__law_through := ok__law_through (P := P) (w := w) (base := base) B F__law_through D__law_all D__law_over D__law_plus D__law_d D__law_some D__law_of D__law_by D__law_draw
  have D__law_moved := ok__law_moved (P := P) (w := w) (base := base) B F__law_moved D__law_all
  have D__law_finite := ok__law_finite (P := P) (w := w) (base := base) B F__law_finite D__law_of D__law_moved D__law_draw
  have D_common := ok_common (P := P) (w := w) (base := base) B F_common 
  have D_lowest := ok_lowest (P := P) (w := w) (base := base) B F_lowest D_common
  have D_pair_of := ok_pair_of (P := P) (w := w) (base := base) B F_pair_of 
  have D_sum_of_two := ok_sum_of_two (P := P) (w := w) (base := base) B F_sum_of_two D_lowest D_pair_of
  have D_product := ok_product (P := P) (w := w) (base := base) B F_product D_lowest D_pair_of
  have D_summed := ok_summed (P := P) (w := w) (base := base) B F_summed D_sum_of_two D_product
  have D_halves_of := ok_halves_of (P := P) (w := w) (base := base) B F_halves_of D_summed
  have D_d_of := ok_d_of (P := P) (w := w) (base := base) B F_d_of D_halves_of D_summed
  have D_is_number := ok_is_number (P := P) (w := w) (base := base) B F_is_number 
  have D_is_fraction := ok_is_fraction (P := P) (w := w) (base := base) B F_is_fraction D_is_number D_common
  have D_is_curve := ok_is_curve (P := P) (w := w) (base := base) B F_is_curve D_d_of D_is_fraction
  have D_need_curve := ok_need_curve (P := P) (w := w) (base := base) B F_need_curve D_is_curve
  have D_own_is_whole := ok_own_is_whole (P := P) (w := w) (base := base) B F_own_is_whole 
  have D_need_whole := ok_need_whole (P := P) (w := w) (base := base) B F_need_whole D_own_is_whole
  have D_forms_of := ok_forms_of (P := P) (w := w) (base := base) B F_forms_of D_halves_of
  have D_made_small := ok_made_small (P := P) (w := w) (base := base) B F_made_small D_common
  have D_cleared := ok_cleared (P := P) (w := w) (base := base) B F_cleared D_made_small
  have D_rows_for := ok_rows_for (P := P) (w := w) (base := base) B F_rows_for 
  have D_own_paper := ok_own_paper (P := P) (w := w) (base := base) B F_own_paper D_forms_of D_made_small D_cleared D_rows_for D_common
  have D_heights_paper := ok_heights_paper (P := P) (w := w) (base := base) B F_heights_paper D_need_curve D_need_whole D_own_paper
  have D_low_of := ok_low_of (P := P) (w := w) (base := base) B F_low_of 
  have D_high_of := ok_high_of (P := P) (w := w) (base := base) B F_high_of D_forms_of
  have D_bounds := ok_bounds (P := P) (w := w) (base := base) B F_bounds D_need_curve D_need_whole D_low_of D_high_of D_own_paper
  have D__law_less := ok__law_less (P := P) (w := w) (base := base) B F__law_less D__law_all
  have D_products := ok_products (P := P) (w := w) (base := base) B F_products 
  have D_is_row := ok_is_row (P := P) (w := w) (base := base) B F_is_row D_is_number
  have D_check_heights := ok_check_heights (P := P) (w := w) (base := base) B F_check_heights D_need_curve D_need_whole D_forms_of D_is_number D_products D_is_row
  have D__law_forms := ok__law_forms (P := P) (w := w) (base := base) B F__law_forms D__law_b
  have D__law_bounds := ok__law_bounds (P := P) (w := w) (base := base) B F__law_bounds D__law_forms
  have D__law_added := ok__law_added (P := P) (w := w) (base := base) B F__law_added D__law_all D__law_over
  have D__law_doubled := ok__law_doubled (P := P) (w := w) (base := base) B F__law_doubled D__law_two D__law_forms
  have D__law_common := ok__law_common (P := P) (w := w) (base := base) B F__law_common 
  have D_is_pair := ok_is_pair (P := P) (w := w) (base := base) B F_is_pair D_is_fraction
  have D_off_by := ok_off_by (P := P) (w := w) (base := base) B F_off_by D_summed D_sum_of_two
  have D_lies_on := ok_lies_on (P := P) (w := w) (base := base) B F_lies_on D_is_pair D_off_by
  have D_need_on := ok_need_on (P := P) (w := w) (base := base) B F_need_on D_need_curve D_lies_on
  have D_own_height := ok_own_height (P := P) (w := w) (base := base) B F_own_height D_pair_of
  have D_height := ok_height (P := P) (w := w) (base := base) B F_height D_need_on D_own_height
  have D__law_between := ok__law_between (P := P) (w := w) (base := base) B F__law_between D__law_doubled D__law_common D_height D__law_low
  exact ok_law B F D__law_begun D__law_through D__law_moved D__law_draw D__law_finite D_heights_paper D_bounds D__law_less D_check_heights D__law_bounds D__law_added D__law_between
theorem law_fin {fa : Addr} (X : K.In h) (G : h.Ns mainGlobals mg) (hfa : mg "law" = some (.ref fa)) (a : PySem.W.nsIn K mainGlobals "law" = some (some (.ref f))) (l : K.lookup f = some ⟨oc, od, .func (PySem.W.fnOf "law" "law" (defArgs s_law) (defBody s_law) (defScope s_law) .none kV dc pm an cd ct), sl⟩) (c : PySem.W.codeIn K cd "law" = true) (k : PySem.W.keepIn K (.ref f) = true) (B : Bn mg) (F__law_begun : Fu K mg "_law_begun" s__law_begun ["_law_script"]) (F__law_low : Fu K mg "_law_low" s__law_low ["_law_top", "_law_bottom"]) (F__law_two : Fu K mg "_law_two" s__law_two ["_law_a"]) (F__law_plus : Fu K mg "_law_plus" s__law_plus ["_law_a", "_law_b_here"]) (F__law_by : Fu K mg "_law_by" s__law_by ["_law_a", "_law_b_here"]) (F__law_all : Fu K mg "_law_all" s__law_all ["_law_rows"]) (F__law_over : Fu K mg "_law_over" s__law_over ["_law_a", "_law_b_here"]) (F__law_b : Fu K mg "_law_b" s__law_b ["_law_curve"]) (F__law_d : Fu K mg "_law_d" s__law_d ["_law_curve"]) (F__law_some : Fu K mg "_law_some" s__law_some ["_law_m"]) (F__law_draw : Fu K mg "_law_draw" s__law_draw ["_law_m", "_law_top"]) (F__law_of : Fu K mg "_law_of" s__law_of ["_law_m", "_law_some_here"]) (F__law_through : Fu K mg "_law_through" s__law_through ["_law_m", "_law_whole"]) (F__law_moved : Fu K mg "_law_moved" s__law_moved ["_law_curve", "_law_spots", "_law_r", "_law_s", "_law_t"]) (F__law_finite : Fu K mg "_law_finite" s__law_finite ["_law_m"]) (F_common : Fu K mg "common" s_common ["one", "other"]) (F_lowest : Fu K mg "lowest" s_lowest ["top", "bottom"]) (F_pair_of : Fu K mg "pair_of" s_pair_of ["a"]) (F_sum_of_two : Fu K mg "sum_of_two" s_sum_of_two ["a", "b"]) (F_product : Fu K mg "product" s_product ["a", "b"]) (F_summed : Fu K mg "summed" s_summed ["rows"]) (F_halves_of : Fu K mg "halves_of" s_halves_of ["five"]) (F_d_of : Fu K mg "d_of" s_d_of ["five"]) (F_is_number : Fu K mg "is_number" s_is_number ["thing"]) (F_is_fraction : Fu K mg "is_fraction" s_is_fraction ["thing"]) (F_is_curve : Fu K mg "is_curve" s_is_curve ["thing"]) (F_need_curve : Fu K mg "need_curve" s_need_curve ["curve"]) (F_own_is_whole : Fu K mg "own_is_whole" s_own_is_whole ["curve"]) (F_need_whole : Fu K mg "need_whole" s_need_whole ["curve"]) (F_forms_of : Fu K mg "forms_of" s_forms_of ["curve"]) (F_made_small : Fu K mg "made_small" s_made_small ["row"]) (F_cleared : Fu K mg "cleared" s_cleared ["rows"]) (F_rows_for : Fu K mg "rows_for" s_rows_for ["f", "g"]) (F_own_paper : Fu K mg "own_paper" s_own_paper ["curve"]) (F_heights_paper : Fu K mg "heights_paper" s_heights_paper ["curve"]) (F_low_of : Fu K mg "low_of" s_low_of ["paper"]) (F_high_of : Fu K mg "high_of" s_high_of ["curve"]) (F_bounds : Fu K mg "bounds" s_bounds ["curve"]) (F__law_less : Fu K mg "_law_less" s__law_less ["_law_curve", "_law_spot"]) (F_products : Fu K mg "products" s_products ["row", "form", "other_row", "other"]) (F_is_row : Fu K mg "is_row" s_is_row ["thing"]) (F_check_heights : Fu K mg "check_heights" s_check_heights ["curve", "paper"]) (F__law_forms : Fu K mg "_law_forms" s__law_forms ["_law_curve"]) (F__law_bounds : Fu K mg "_law_bounds" s__law_bounds ["_law_curve", "_law_paper"]) (F__law_added : Fu K mg "_law_added" s__law_added ["_law_curve", "_law_one", "_law_other"]) (F__law_doubled : Fu K mg "_law_doubled" s__law_doubled ["_law_curve", "_law_spot"]) (F__law_common : Fu K mg "_law_common" s__law_common ["_law_one", "_law_other"]) (F_is_pair : Fu K mg "is_pair" s_is_pair ["thing"]) (F_off_by : Fu K mg "off_by" s_off_by ["five", "x", "y"]) (F_lies_on : Fu K mg "lies_on" s_lies_on ["curve", "thing"]) (F_need_on : Fu K mg "need_on" s_need_on ["curve", "point"]) (F_own_height : Fu K mg "own_height" s_own_height ["point"]) (F_height : Fu K mg "height" s_height ["curve", "point"]) (F__law_between : Fu K mg "_law_between" s__law_between ["_law_curve", "_law_spot", "_law_double", "_law_paper", "_law_low_here", "_law_high"]) :
    ∃ fd : FuncData, (∀ (s : Shared) (v : Value), BindsTo s fd ⟨[v], []⟩ [("_law_script", v)]) ∧ ∀ base : Heap, K.In base → base.Ns mainGlobals mg → FnOk P w K mg base CX0 12 fa fd ["_law_script"] (spLaw K) := by
  have e := hfa.symm.trans (PySem.W.mg_of X G a)
  cases e
  exact ⟨PySem.W.fnOf "law" "law" (defArgs s_law) (defBody s_law) (defScope s_law) .none kV dc pm an cd ct, fun s v => .of_eq rfl, fun base _ _ => law_ok B F__law_begun F__law_low F__law_two F__law_plus F__law_by F__law_all F__law_over F__law_b F__law_d F__law_some F__law_draw F__law_of F__law_through F__law_moved F__law_finite F_common F_lowest F_pair_of F_sum_of_two F_product F_summed F_halves_of F_d_of F_is_number F_is_fraction F_is_curve F_need_curve F_own_is_whole F_need_whole F_forms_of F_made_small F_cleared F_rows_for F_own_paper F_heights_paper F_low_of F_high_of F_bounds F__law_less F_products F_is_row F_check_heights F__law_forms F__law_bounds F__law_added F__law_doubled F__law_common F_is_pair F_off_by F_lies_on F_need_on F_own_height F_height F__law_between (fun_mk l c k)⟩
end
theorem step {A B : Prop} (a : A) (b : A → B) : B := b a
theorem glob4 {K : PySem.W.Frag} {h : Heap} {mg : Str → Option Value} {n : Str} {i : Int} {t : _} (X : K.In h) (G : h.Ns mainGlobals mg) (e : PySem.W.nsIn K mainGlobals n = some (some (.int i t))) : ∃ t, mg n = some (.int i t) := ⟨t, PySem.W.mg_of X G e⟩
end Cw
end
set_option linter.all false
set_option maxRecDepth 100000
open PySem PySem.W PyProof.Rows
set_option maxHeartbeats 0 in
theorem PySem.Challenge.cw_cubicway_k56_whole_heights_of_doubles_holds : PySem.Challenge.rw_cubicway_k56_whole_heights_of_doubles.Holds := by
  w_on; o_law; k_head; (case hw => w_witness2)
  k_fill
  refine L2.walk_of (l := PySem.Challenge.rw_cubicway_k56_whole_heights_of_doubles) (n := 63) (k := 12) (x := "_law_script") (CX := fun _ => L2.CX0) (sp := fun w => Cw.spLaw _) rfl (by decide) rfl ⟨rfl, by decide, by decide⟩ (fun w h Y => PySem.W.kIn_of Y) ?F (fun _ _ a ns hl _ hS => ⟨a, ns, rfl, hS, hl, fun _ => rfl⟩) (fun _ _ _ _ _ h => h)
  case F =>
    intro w mg fa h KX G hmg
    replace hmg : mg "law" = some (.ref fa) := hmg
    refine' Cw.step (Cw.fu__law_begun KX G ?a0 ?l0 ?c0 ?k0) fun F__law_begun => ?n0
    (case a0 => k_is); (case l0 => k_is); (case c0 => k_is); (case k0 => k_is)
    refine' Cw.step (Cw.fu__law_low KX G ?a1 ?l1 ?c1 ?k1) fun F__law_low => ?n1
    (case a1 => k_is); (case l1 => k_is); (case c1 => k_is); (case k1 => k_is)
    refine' Cw.step (Cw.fu__law_two KX G ?a2 ?l2 ?c2 ?k2) fun F__law_two => ?n2
    (case a2 => k_is); (case l2 => k_is); (case c2 => k_is); (case k2 => k_is)
    refine' Cw.step (Cw.fu__law_plus KX G ?a3 ?l3 ?c3 ?k3) fun F__law_plus => ?n3
    (case a3 => k_is); (case l3 => k_is); (case c3 => k_is); (case k3 => k_is)
    refine' Cw.step (Cw.fu__law_by KX G ?a4 ?l4 ?c4 ?k4) fun F__law_by => ?n4
    (case a4 => k_is); (case l4 => k_is); (case c4 => k_is); (case k4 => k_is)
    refine' Cw.step (Cw.fu__law_all KX G ?a5 ?l5 ?c5 ?k5) fun F__law_all => ?n5
    (case a5 => k_is); (case l5 => k_is); (case c5 => k_is); (case k5 => k_is)
    refine' Cw.step (Cw.fu__law_over KX G ?a6 ?l6 ?c6 ?k6) fun F__law_over => ?n6
    (case a6 => k_is); (case l6 => k_is); (case c6 => k_is); (case k6 => k_is)
    refine' Cw.step (Cw.fu__law_b KX G ?a7 ?l7 ?c7 ?k7) fun F__law_b => ?n7
    (case a7 => k_is); (case l7 => k_is); (case c7 => k_is); (case k7 => k_is)
    refine' Cw.step (Cw.fu__law_d KX G ?a8 ?l8 ?c8 ?k8) fun F__law_d => ?n8
    (case a8 => k_is); (case l8 => k_is); (case c8 => k_is); (case k8 => k_is)
    refine' Cw.step (Cw.fu__law_some KX G ?a9 ?l9 ?c9 ?k9) fun F__law_some => ?n9
    (case a9 => k_is); (case l9 => k_is); (case c9 => k_is); (case k9 => k_is)
    refine' Cw.step (Cw.fu__law_draw KX G ?a10 ?l10 ?c10 ?k10) fun F__law_draw => ?n10
    (case a10 => k_is); (case l10 => k_is); (case c10 => k_is); (case k10 => k_is)
    refine' Cw.step (Cw.fu__law_of KX G ?a11 ?l11 ?c11 ?k11) fun F__law_of => ?n11
    (case a11 => k_is); (case l11 => k_is); (case c11 => k_is); (case k11 => k_is)
    refine' Cw.step (Cw.fu__law_through KX G ?a12 ?l12 ?c12 ?k12) fun F__law_through => ?n12
    (case a12 => k_is); (case l12 => k_is); (case c12 => k_is); (case k12 => k_is)
    refine' Cw.step (Cw.fu__law_moved KX G ?a13 ?l13 ?c13 ?k13) fun F__law_moved => ?n13
    (case a13 => k_is); (case l13 => k_is); (case c13 => k_is); (case k13 => k_is)
    refine' Cw.step (Cw.fu__law_finite KX G ?a14 ?l14 ?c14 ?k14) fun F__law_finite => ?n14
    (case a14 => k_is); (case l14 => k_is); (case c14 => k_is); (case k14 => k_is)
    refine' Cw.step (Cw.fu_common KX G ?a15 ?l15 ?c15 ?k15) fun F_common => ?n15
    (case a15 => k_is); (case l15 => k_is); (case c15 => k_is); (case k15 => k_is)
    refine' Cw.step (Cw.fu_lowest KX G ?a16 ?l16 ?c16 ?k16) fun F_lowest => ?n16
    (case a16 => k_is); (case l16 => k_is); (case c16 => k_is); (case k16 => k_is)
    refine' Cw.step (Cw.fu_pair_of KX G ?a17 ?l17 ?c17 ?k17) fun F_pair_of => ?n17
    (case a17 => k_is); (case l17 => k_is); (case c17 => k_is); (case k17 => k_is)
    refine' Cw.step (Cw.fu_sum_of_two KX G ?a18 ?l18 ?c18 ?k18) fun F_sum_of_two => ?n18
    (case a18 => k_is); (case l18 => k_is); (case c18 => k_is); (case k18 => k_is)
    refine' Cw.step (Cw.fu_product KX G ?a19 ?l19 ?c19 ?k19) fun F_product => ?n19
    (case a19 => k_is); (case l19 => k_is); (case c19 => k_is); (case k19 => k_is)
    refine' Cw.step (Cw.fu_summed KX G ?a20 ?l20 ?c20 ?k20) fun F_summed => ?n20
    (case a20 => k_is); (case l20 => k_is); (case c20 => k_is); (case k20 => k_is)
    refine' Cw.step (Cw.fu_halves_of KX G ?a21 ?l21 ?c21 ?k21) fun F_halves_of => ?n21
    (case a21 => k_is); (case l21 => k_is); (case c21 => k_is); (case k21 => k_is)
    refine' Cw.step (Cw.fu_d_of KX G ?a22 ?l22 ?c22 ?k22) fun F_d_of => ?n22
    (case a22 => k_is); (case l22 => k_is); (case c22 => k_is); (case k22 => k_is)
    refine' Cw.step (Cw.fu_is_number KX G ?a23 ?l23 ?c23 ?k23) fun F_is_number => ?n23
    (case a23 => k_is); (case l23 => k_is); (case c23 => k_is); (case k23 => k_is)
    refine' Cw.step (Cw.fu_is_fraction KX G ?a24 ?l24 ?c24 ?k24) fun F_is_fraction => ?n24
    (case a24 => k_is); (case l24 => k_is); (case c24 => k_is); (case k24 => k_is)
    refine' Cw.step (Cw.fu_is_curve KX G ?a25 ?l25 ?c25 ?k25) fun F_is_curve => ?n25
    (case a25 => k_is); (case l25 => k_is); (case c25 => k_is); (case k25 => k_is)
    refine' Cw.step (Cw.fu_need_curve KX G ?a26 ?l26 ?c26 ?k26) fun F_need_curve => ?n26
    (case a26 => k_is); (case l26 => k_is); (case c26 => k_is); (case k26 => k_is)
    refine' Cw.step (Cw.fu_own_is_whole KX G ?a27 ?l27 ?c27 ?k27) fun F_own_is_whole => ?n27
    (case a27 => k_is); (case l27 => k_is); (case c27 => k_is); (case k27 => k_is)
    refine' Cw.step (Cw.fu_need_whole KX G ?a28 ?l28 ?c28 ?k28) fun F_need_whole => ?n28
    (case a28 => k_is); (case l28 => k_is); (case c28 => k_is); (case k28 => k_is)
    refine' Cw.step (Cw.fu_forms_of KX G ?a29 ?l29 ?c29 ?k29) fun F_forms_of => ?n29
    (case a29 => k_is); (case l29 => k_is); (case c29 => k_is); (case k29 => k_is)
    refine' Cw.step (Cw.fu_made_small KX G ?a30 ?l30 ?c30 ?k30) fun F_made_small => ?n30
    (case a30 => k_is); (case l30 => k_is); (case c30 => k_is); (case k30 => k_is)
    refine' Cw.step (Cw.fu_cleared KX G ?a31 ?l31 ?c31 ?k31) fun F_cleared => ?n31
    (case a31 => k_is); (case l31 => k_is); (case c31 => k_is); (case k31 => k_is)
    refine' Cw.step (Cw.fu_rows_for KX G ?a32 ?l32 ?c32 ?k32) fun F_rows_for => ?n32
    (case a32 => k_is); (case l32 => k_is); (case c32 => k_is); (case k32 => k_is)
    refine' Cw.step (Cw.fu_own_paper KX G ?a33 ?l33 ?c33 ?k33) fun F_own_paper => ?n33
    (case a33 => k_is); (case l33 => k_is); (case c33 => k_is); (case k33 => k_is)
    refine' Cw.step (Cw.fu_heights_paper KX G ?a34 ?l34 ?c34 ?k34) fun F_heights_paper => ?n34
    (case a34 => k_is); (case l34 => k_is); (case c34 => k_is); (case k34 => k_is)
    refine' Cw.step (Cw.fu_low_of KX G ?a35 ?l35 ?c35 ?k35) fun F_low_of => ?n35
    (case a35 => k_is); (case l35 => k_is); (case c35 => k_is); (case k35 => k_is)
    refine' Cw.step (Cw.fu_high_of KX G ?a36 ?l36 ?c36 ?k36) fun F_high_of => ?n36
    (case a36 => k_is); (case l36 => k_is); (case c36 => k_is); (case k36 => k_is)
    refine' Cw.step (Cw.fu_bounds KX G ?a37 ?l37 ?c37 ?k37) fun F_bounds => ?n37
    (case a37 => k_is); (case l37 => k_is); (case c37 => k_is); (case k37 => k_is)
    refine' Cw.step (Cw.fu__law_less KX G ?a38 ?l38 ?c38 ?k38) fun F__law_less => ?n38
    (case a38 => k_is); (case l38 => k_is); (case c38 => k_is); (case k38 => k_is)
    refine' Cw.step (Cw.fu_products KX G ?a39 ?l39 ?c39 ?k39) fun F_products => ?n39
    (case a39 => k_is); (case l39 => k_is); (case c39 => k_is); (case k39 => k_is)
    refine' Cw.step (Cw.fu_is_row KX G ?a40 ?l40 ?c40 ?k40) fun F_is_row => ?n40
    (case a40 => k_is); (case l40 => k_is); (case c40 => k_is); (case k40 => k_is)
    refine' Cw.step (Cw.fu_check_heights KX G ?a41 ?l41 ?c41 ?k41) fun F_check_heights => ?n41
    (case a41 => k_is); (case l41 => k_is); (case c41 => k_is); (case k41 => k_is)
    refine' Cw.step (Cw.fu__law_forms KX G ?a42 ?l42 ?c42 ?k42) fun F__law_forms => ?n42
    (case a42 => k_is); (case l42 => k_is); (case c42 => k_is); (case k42 => k_is)
    refine' Cw.step (Cw.fu__law_bounds KX G ?a43 ?l43 ?c43 ?k43) fun F__law_bounds => ?n43
    (case a43 => k_is); (case l43 => k_is); (case c43 => k_is); (case k43 => k_is)
    refine' Cw.step (Cw.fu__law_added KX G ?a44 ?l44 ?c44 ?k44) fun F__law_added => ?n44
    (case a44 => k_is); (case l44 => k_is); (case c44 => k_is); (case k44 => k_is)
    refine' Cw.step (Cw.fu__law_doubled KX G ?a45 ?l45 ?c45 ?k45) fun F__law_doubled => ?n45
    (case a45 => k_is); (case l45 => k_is); (case c45 => k_is); (case k45 => k_is)
    refine' Cw.step (Cw.fu__law_common KX G ?a46 ?l46 ?c46 ?k46) fun F__law_common => ?n46
    (case a46 => k_is); (case l46 => k_is); (case c46 => k_is); (case k46 => k_is)
    refine' Cw.step (Cw.fu_is_pair KX G ?a47 ?l47 ?c47 ?k47) fun F_is_pair => ?n47
    (case a47 => k_is); (case l47 => k_is); (case c47 => k_is); (case k47 => k_is)
    refine' Cw.step (Cw.fu_off_by KX G ?a48 ?l48 ?c48 ?k48) fun F_off_by => ?n48
    (case a48 => k_is); (case l48 => k_is); (case c48 => k_is); (case k48 => k_is)
    refine' Cw.step (Cw.fu_lies_on KX G ?a49 ?l49 ?c49 ?k49) fun F_lies_on => ?n49
    (case a49 => k_is); (case l49 => k_is); (case c49 => k_is); (case k49 => k_is)
    refine' Cw.step (Cw.fu_need_on KX G ?a50 ?l50 ?c50 ?k50) fun F_need_on => ?n50
    (case a50 => k_is); (case l50 => k_is); (case c50 => k_is); (case k50 => k_is)
    refine' Cw.step (Cw.fu_own_height KX G ?a51 ?l51 ?c51 ?k51) fun F_own_height => ?n51
    (case a51 => k_is); (case l51 => k_is); (case c51 => k_is); (case k51 => k_is)
    refine' Cw.step (Cw.fu_height KX G ?a52 ?l52 ?c52 ?k52) fun F_height => ?n52
    (case a52 => k_is); (case l52 => k_is); (case c52 => k_is); (case k52 => k_is)
    refine' Cw.step (Cw.fu__law_between KX G ?a53 ?l53 ?c53 ?k53) fun F__law_between => ?n53
    (case a53 => k_is); (case l53 => k_is); (case c53 => k_is); (case k53 => k_is)
    refine' Cw.step (Cw.glob4 KX G (n := "FEW") (i := 4) ?y1) fun Y1 => ?m1
    (case y1 => k_is)
    refine' Cw.step (Cw.glob4 KX G (n := "EVERY") (i := 8) ?y2) fun Y2 => ?m2
    (case y2 => k_is)
    refine' Cw.step (⟨PySem.W.mg_none_of KX G ?z0, PySem.W.mg_none_of KX G ?z1, PySem.W.mg_none_of KX G ?z2, PySem.W.mg_none_of KX G ?z3, PySem.W.mg_none_of KX G ?z4, PySem.W.mg_none_of KX G ?z5, PySem.W.mg_none_of KX G ?z6, PySem.W.mg_none_of KX G ?z7, PySem.W.mg_none_of KX G ?z8, PySem.W.mg_none_of KX G ?z9, PySem.W.mg_none_of KX G ?z10, PySem.W.mg_none_of KX G ?z11, PySem.W.mg_none_of KX G ?z12, Y1, Y2⟩ : Cw.Bn mg) fun B => ?nn
    (case z0 => k_is)
    (case z1 => k_is)
    (case z2 => k_is)
    (case z3 => k_is)
    (case z4 => k_is)
    (case z5 => k_is)
    (case z6 => k_is)
    (case z7 => k_is)
    (case z8 => k_is)
    (case z9 => k_is)
    (case z10 => k_is)
    (case z11 => k_is)
    (case z12 => k_is)
    refine' Cw.law_fin KX G hmg ?a ?l ?c ?k B F__law_begun F__law_low F__law_two F__law_plus F__law_by F__law_all F__law_over F__law_b F__law_d F__law_some F__law_draw F__law_of F__law_through F__law_moved F__law_finite F_common F_lowest F_pair_of F_sum_of_two F_product F_summed F_halves_of F_d_of F_is_number F_is_fraction F_is_curve F_need_curve F_own_is_whole F_need_whole F_forms_of F_made_small F_cleared F_rows_for F_own_paper F_heights_paper F_low_of F_high_of F_bounds F__law_less F_products F_is_row F_check_heights F__law_forms F__law_bounds F__law_added F__law_doubled F__law_common F_is_pair F_off_by F_lies_on F_need_on F_own_height F_height F__law_between
    (case a => k_is); (case l => k_is); (case c => k_is); (case k => k_is)
